/- A part of the proof of a law of the layer sky. -/
import Derived.Deep.AppendLies
import Derived.Deep.RegionLaw
import Derived.Laws.LoneSync
import Derived.Laws.Pointers
import Derived.LoopIn
import Derived.LoopN
import Derived.LoopNIn
import Derived.Outline
import Derived.OwnWalkIn
import Derived.RangeFuncBound
import Derived.RangeFuncBox
import Derived.RangeFuncCalls
import Derived.RangeFuncLeaves
import Derived.RangeFuncNested
import Derived.Shelf.Abstract
import Derived.Shelf.LaysM
import Derived.Shelf.RegionOpen
import Derived.Shelf.Strconv.Itoa0
import Derived.Shelf.Strconv.Itoa1
import Derived.Shelf.Strconv.Itoa2
import Derived.Shelf.Strconv.Itoa3
import Derived.Shelf.Strings.Builder1
import Derived.Shelf.Strings.Builder2
import Derived.Shelf.Strings.Count
import Derived.Shelf.Strings.OnBuilder
import Derived.Shelf.Strings.Prefix
import Derived.Shelf.Strings.Search1
import Derived.Shelf.Strings.Search2
import Derived.Shelf.Strings.Search3
import Derived.Shelf.Strings.Shaped
import Derived.Shelf.Strings.Split
import Derived.Shelf.Unicode.DecodeSlow
import Derived.StillTactics
import Derived.TacticsInMore
import Derived.Test.YtaidphhkhddemaaGreatDoorProg
import Derived.WalkKit
import Derived.Test.YtaidphhkhddemaaGreatDoorY3
section
namespace Go.Proofs.YtaidphhkhddemaaGreatDoor.PSky
open Go.RowKit Go.Proofs.YtaidphhkhddemaaGreatDoorW.PrintWords Go.Proofs.YtaidphhkhddemaaGreatDoorW.PrintLast Go.Proofs.YtaidphhkhddemaaGreatDoorW.PrintMore
attribute [local go_sem] max2_int min2_int max_two min_two max_three min_three max_four min_four
set_option linter.unusedVariables false
set_option linter.unusedSimpArgs false
def sky_areNotes.f (k:Nat) (a0:Int) (l1:List (S89)) (a2:Int) (a3:Int):Option (Bool):=(sky_isPlace.f a0).bind fun t618=>(if t618=true then ((sky_in.f a2 0 1000000).bind fun t619=>(if t619=true then ((sky_in.f a3 a2 1000000).bind fun t620=>(if t620=true then (if (wrap64 (a3 - a2))≤5000 then (if (l1.length:Int)≤6 then ((cF_areNotes_c1.f k l1).bind fun t621=>(some (!t621))) else (some false)) else (some false)) else (some false))) else (some false))) else (some false))
set_option maxHeartbeats 8000000 in
set_option maxRecDepth 100000 in
theorem sky_areNotes.calls (k:Nat) (a0:Int) (A1:Option Addr) (c1:Nat) (l1:List (S89)) (a2:Int) (a3:Int) (r:Bool) (w:World) (hr1:Kd.C k89 w A1 l1.length l1) (hc1:l1.length≤c1) (h:sky_areNotes.f k a0 l1 a2 a3=some r):
  Calls Tryz.prog 66 #[.int .i64 a0,.slice A1 l1.length c1,.int .i64 a2,.int .i64 a3] w fun e w'=>e=.returned (.bool r)∧Below w.heap.size w w':=by
 have HR1:=A0_ hr1;have HC1:=A0_ hc1;clear hr1 hc1
 have HB:=A0_ (Below.refl w.heap.size w)
 have H:((sky_isPlace.f a0).bind fun t618=>(if t618=true then ((sky_in.f a2 0 1000000).bind fun t619=>(if t619=true then ((sky_in.f a3 a2 1000000).bind fun t620=>(if t620=true then (if (wrap64 (a3 - a2))≤5000 then (if (l1.length:Int)≤6 then ((cF_areNotes_c1.f k l1).bind fun t621=>(some (!t621))) else (some false)) else (some false)) else (some false))) else (some false))) else (some false)))=some r:=h
 clear h;replace H:=Option.bind_eq_some_iff.mp H;obtain ⟨t618,A50,H⟩:=H
 replace H:(if t618=true then ((sky_in.f a2 0 1000000).bind fun t619=>(if t619=true then ((sky_in.f a3 a2 1000000).bind fun t620=>(if t620=true then (if (wrap64 (a3 - a2))≤5000 then (if (l1.length:Int)≤6 then ((cF_areNotes_c1.f k l1).bind fun t621=>(some (!t621))) else (some false)) else (some false)) else (some false))) else (some false))) else (some false))=some r:=H
 have A5:=A0_ A50;clear A50
 by_cases c6:t618=true
 ·subst c6
  have H1:((sky_in.f a2 0 1000000).bind fun t619=>(if t619=true then ((sky_in.f a3 a2 1000000).bind fun t620=>(if t620=true then (if (wrap64 (a3 - a2))≤5000 then (if (l1.length:Int)≤6 then ((cF_areNotes_c1.f k l1).bind fun t621=>(some (!t621))) else (some false)) else (some false)) else (some false))) else (some false)))=some r:=by rw [if_pos rfl] at H;exact H
  clear H;have H:=H1;clear H1;replace H:=Option.bind_eq_some_iff.mp H;obtain ⟨t619,A70,H⟩:=H
  replace H:(if t619=true then ((sky_in.f a3 a2 1000000).bind fun t620=>(if t620=true then (if (wrap64 (a3 - a2))≤5000 then (if (l1.length:Int)≤6 then ((cF_areNotes_c1.f k l1).bind fun t621=>(some (!t621))) else (some false)) else (some false)) else (some false))) else (some false))=some r:=H
  have A7:=A0_ A70;clear A70
  by_cases c8:t619=true
  ·subst c8
   have H1:((sky_in.f a3 a2 1000000).bind fun t620=>(if t620=true then (if (wrap64 (a3 - a2))≤5000 then (if (l1.length:Int)≤6 then ((cF_areNotes_c1.f k l1).bind fun t621=>(some (!t621))) else (some false)) else (some false)) else (some false)))=some r:=by rw [if_pos rfl] at H;exact H
   clear H;have H:=H1;clear H1;replace H:=Option.bind_eq_some_iff.mp H;obtain ⟨t620,A90,H⟩:=H
   replace H:(if t620=true then (if (wrap64 (a3 - a2))≤5000 then (if (l1.length:Int)≤6 then ((cF_areNotes_c1.f k l1).bind fun t621=>(some (!t621))) else (some false)) else (some false)) else (some false))=some r:=H
   have A9:=A0_ A90;clear A90
   by_cases c10:t620=true
   ·subst c10
    have H1:(if (wrap64 (a3 - a2))≤5000 then (if (l1.length:Int)≤6 then ((cF_areNotes_c1.f k l1).bind fun t621=>(some (!t621))) else (some false)) else (some false))=some r:=by rw [if_pos rfl] at H;exact H
    clear H;have H:=H1;clear H1
    by_cases c11:(wrap64 (a3 - a2))≤5000
    ·rw [if_pos c11] at H;have c11b0:decide ((wrap64 (a3 - a2))≤5000)=true:=decide_eq_true c11;clear c11
     by_cases c12:(l1.length:Int)≤6
     ·rw [if_pos c12] at H;have c12b0:decide ((l1.length:Int)≤6)=true:=decide_eq_true c12
      have c12b1:decide (l1.length≤6)=true:=decide_eq_true (by omega)
      clear c12;replace H:=Option.bind_eq_some_iff.mp H;obtain ⟨t621,A130,H⟩:=H
      replace H:(some (!t621))=some r:=H
      have A13:=A0_ A130;clear A130;obtain rfl:=Option.some.inj H
      go_enter Tryz.func66,Tryz.ntmps66
      go_wp2_with (first|((with_reducible refine gate_callee (f:=97) rfl ?_);refine goesL_ (some 10) rfl rfl Tryz.func97 (by kernel_rfl) rfl #[.int .i64 a0] rfl y1_ ?_;(with_reducible refine (sky_isPlace.calls a0 true _ A5.out).mono ?_);rintro e w' ⟨rfl,⟨nd,rfl⟩⟩;refine ⟨_,rfl,?_⟩)|(go_at_call 71;(with_reducible refine (sky_in.calls a2 0 1000000 true _ A7.out).mono ?_);rintro e w' ⟨rfl,⟨nd,rfl⟩⟩)|(go_at_call 71;(with_reducible refine (sky_in.calls a3 a2 1000000 true _ A9.out).mono ?_);rintro e w' ⟨rfl,⟨nd,rfl⟩⟩)|(go_at_call 110;(with_reducible refine (cF_areNotes_c1.calls k _ _ l1  t621 _ ?side1 ?side2 A13.out).mono ?_);(case side1=>repeat (first|exact HR1.out|(with_reducible refine Kd.C_alloc ?_ _)|(with_reducible refine Kd.C_drewN ?_ _)|(with_reducible refine Kd.C_drew ?_)));(case side2=>exact HC1.out);rintro e w14 ⟨rfl,hb⟩;have n0_:=A0_ (below_step y0_ hb);clear HB;have HB:=n0_;clear n0_;(try clear hb);(try clear hb2);(try clear hk);(try clear hi)))
      go_ret
      exact ⟨y3_,y0_⟩
     ·rw [if_neg c12] at H;have c12b0:decide ((l1.length:Int)≤6)=false:=decide_eq_false c12
      have c12b1:decide (l1.length≤6)=false:=decide_eq_false (by omega)
      clear c12;obtain rfl:=Option.some.inj H
      go_enter Tryz.func66,Tryz.ntmps66
      go_wp2_with (first|((with_reducible refine gate_callee (f:=97) rfl ?_);refine goesL_ (some 10) rfl rfl Tryz.func97 (by kernel_rfl) rfl #[.int .i64 a0] rfl y1_ ?_;(with_reducible refine (sky_isPlace.calls a0 true _ A5.out).mono ?_);rintro e w' ⟨rfl,⟨nd,rfl⟩⟩;refine ⟨_,rfl,?_⟩)|(go_at_call 71;(with_reducible refine (sky_in.calls a2 0 1000000 true _ A7.out).mono ?_);rintro e w' ⟨rfl,⟨nd,rfl⟩⟩)|(go_at_call 71;(with_reducible refine (sky_in.calls a3 a2 1000000 true _ A9.out).mono ?_);rintro e w' ⟨rfl,⟨nd,rfl⟩⟩))
      go_ret
      exact ⟨y3_,y0_⟩
    ·rw [if_neg c11] at H;have c11b0:decide ((wrap64 (a3 - a2))≤5000)=false:=decide_eq_false c11;clear c11;obtain rfl:=Option.some.inj H
     go_enter Tryz.func66,Tryz.ntmps66
     go_wp2_with (first|((with_reducible refine gate_callee (f:=97) rfl ?_);refine goesL_ (some 10) rfl rfl Tryz.func97 (by kernel_rfl) rfl #[.int .i64 a0] rfl y1_ ?_;(with_reducible refine (sky_isPlace.calls a0 true _ A5.out).mono ?_);rintro e w' ⟨rfl,⟨nd,rfl⟩⟩;refine ⟨_,rfl,?_⟩)|(go_at_call 71;(with_reducible refine (sky_in.calls a2 0 1000000 true _ A7.out).mono ?_);rintro e w' ⟨rfl,⟨nd,rfl⟩⟩)|(go_at_call 71;(with_reducible refine (sky_in.calls a3 a2 1000000 true _ A9.out).mono ?_);rintro e w' ⟨rfl,⟨nd,rfl⟩⟩))
     go_ret
     exact ⟨y3_,y0_⟩
   ·replace c10:=Bool.eq_false_iff.mpr c10;subst c10
    have H1:(some false)=some r:=by rw [if_neg (show ¬ (false=true) by decide)] at H;exact H
    clear H;have H:=H1;clear H1;obtain rfl:=Option.some.inj H
    go_enter Tryz.func66,Tryz.ntmps66
    go_wp2_with (first|((with_reducible refine gate_callee (f:=97) rfl ?_);refine goesL_ (some 10) rfl rfl Tryz.func97 (by kernel_rfl) rfl #[.int .i64 a0] rfl y1_ ?_;(with_reducible refine (sky_isPlace.calls a0 true _ A5.out).mono ?_);rintro e w' ⟨rfl,⟨nd,rfl⟩⟩;refine ⟨_,rfl,?_⟩)|(go_at_call 71;(with_reducible refine (sky_in.calls a2 0 1000000 true _ A7.out).mono ?_);rintro e w' ⟨rfl,⟨nd,rfl⟩⟩)|(go_at_call 71;(with_reducible refine (sky_in.calls a3 a2 1000000 false _ A9.out).mono ?_);rintro e w' ⟨rfl,⟨nd,rfl⟩⟩))
    go_ret
    exact ⟨y3_,y0_⟩
  ·replace c8:=Bool.eq_false_iff.mpr c8;subst c8
   have H1:(some false)=some r:=by rw [if_neg (show ¬ (false=true) by decide)] at H;exact H
   clear H;have H:=H1;clear H1;obtain rfl:=Option.some.inj H
   go_enter Tryz.func66,Tryz.ntmps66
   go_wp2_with (first|((with_reducible refine gate_callee (f:=97) rfl ?_);refine goesL_ (some 10) rfl rfl Tryz.func97 (by kernel_rfl) rfl #[.int .i64 a0] rfl y1_ ?_;(with_reducible refine (sky_isPlace.calls a0 true _ A5.out).mono ?_);rintro e w' ⟨rfl,⟨nd,rfl⟩⟩;refine ⟨_,rfl,?_⟩)|(go_at_call 71;(with_reducible refine (sky_in.calls a2 0 1000000 false _ A7.out).mono ?_);rintro e w' ⟨rfl,⟨nd,rfl⟩⟩))
   go_ret
   exact ⟨y3_,y0_⟩
 ·replace c6:=Bool.eq_false_iff.mpr c6;subst c6
  have H1:(some false)=some r:=by rw [if_neg (show ¬ (false=true) by decide)] at H;exact H
  clear H;have H:=H1;clear H1;obtain rfl:=Option.some.inj H
  go_enter Tryz.func66,Tryz.ntmps66
  go_wp2_with (first|((with_reducible refine gate_callee (f:=97) rfl ?_);refine goesL_ (some 10) rfl rfl Tryz.func97 (by kernel_rfl) rfl #[.int .i64 a0] rfl y1_ ?_;(with_reducible refine (sky_isPlace.calls a0 false _ A5.out).mono ?_);rintro e w' ⟨rfl,⟨nd,rfl⟩⟩;refine ⟨_,rfl,?_⟩))
  go_ret
  exact ⟨y3_,y0_⟩
def ss_sun.f (k:Nat) (l0_0:List (S83)) (a0_1:Int) (a0_2:Int) (a0_3:Int) (a0_4:Int):Option (Int):=(ss_way.f k l0_0 a0_1 a0_2 a0_3 a0_4 0).bind fun t623=>(some t623)
set_option maxHeartbeats 8000000 in
set_option maxRecDepth 100000 in
theorem ss_sun.calls (k:Nat) (A0_0:Option Addr) (c0_0:Nat) (l0_0:List (S83)) (a0_1:Int) (a0_2:Int) (a0_3:Int) (a0_4:Int) (r:Int) (w:World) (hr0_0:Kd.C k83 w A0_0 l0_0.length l0_0) (hc0_0:l0_0.length≤c0_0) (h:ss_sun.f k l0_0 a0_1 a0_2 a0_3 a0_4=some r):
  Calls Tryz.prog 135 #[.agg #[.slice A0_0 l0_0.length c0_0,.int .i64 a0_1,.int .i64 a0_2,.int .i64 a0_3,.int .i64 a0_4]] w fun e w'=>e=.returned (.int .i64 r)∧Below w.heap.size w w':=by
 have hu96:=Tryz.underlying96
 have HR0_0:=A0_ hr0_0;have HC0_0:=A0_ hc0_0;clear hr0_0 hc0_0
 have HB:=A0_ (Below.refl w.heap.size w)
 have H:((ss_way.f k l0_0 a0_1 a0_2 a0_3 a0_4 0).bind fun t623=>(some t623))=some r:=h
 clear h;replace H:=Option.bind_eq_some_iff.mp H;obtain ⟨t623,A20,H⟩:=H
 replace H:(some t623)=some r:=H
 have A2:=A0_ A20;clear A20;obtain rfl:=Option.some.inj H
 go_enter Tryz.func135,Tryz.ntmps135
 go_wp2_with (first|((with_reducible refine gate_dst (N:=1) rfl ?_);refine box_event ?hg (N:=1) ?hd (cs:=#[.slice A0_0 l0_0.length c0_0,.int .i64 a0_1,.int .i64 a0_2,.int .i64 a0_3,.int .i64 a0_4]) (t:=96) ?hr ?_;(case hd=>rfl);(case hg=>rfl);(case hr=>first|(go_simp;done)|(go_simp;rfl));intro gb622 hg w3 hbox hb;have n0_:=A0_ (below_step y0_ hb);have n1_:=A0_ (hbox);have n2_:=A0_ ((by rw [hg];exact (below_size y0_):w.heap.size≤gb622));have n3_:=A0_ ((by rw [hg];exact (below_size y0_):w.heap.size≤gb622));clear HB;have HB:=n0_;have BK622:=n1_;have GW622:=n2_;have GE622:=n3_;clear n0_ n1_ n2_ n3_;clear hb hbox hg;obtain ⟨hcz4_0,hcz4_1,hcz4_2,hcz4_3,hcz4_4,hfz4_0,hfz4_1,hfz4_2,hfz4_3,hfz4_4⟩:=bq5_ BK622.out)|((with_reducible refine gate_callee (f:=64) rfl ?_);refine goesL_ (some 4) rfl rfl Tryz.func64 (by kernel_rfl) rfl #[.agg #[.slice A0_0 l0_0.length c0_0,.int .i64 a0_1,.int .i64 a0_2,.int .i64 a0_3,.int .i64 a0_4],.int .i64 0] rfl y1_ ?_;(with_reducible refine (ss_way.calls k _ _ l0_0 a0_1 a0_2 a0_3 a0_4 0 t623 _ ?side1 ?side2 A2.out).mono ?_);(case side1=>repeat (first|exact (Kd.C_below HR0_0.out HB.out)|(with_reducible refine Kd.C_alloc ?_ _)|(with_reducible refine Kd.C_drewN ?_ _)|(with_reducible refine Kd.C_drew ?_)));(case side2=>exact HC0_0.out);rintro e w5 ⟨rfl,hb⟩;refine ⟨_,rfl,?_⟩;have n0_:=A0_ (blk_below (g:=gb622) (o:=.cells #[.slice A0_0 l0_0.length c0_0,.int .i64 a0_1,.int .i64 a0_2,.int .i64 a0_3,.int .i64 a0_4] 96 (0,0)) (bd_ BK622.out) hb);have n1_:=A0_ (below_step y4m_ hb);clear BK622;clear HB;have BK622:=n0_;have HB:=n1_;clear n0_ n1_;(try clear hb);(try clear hb2);(try clear hk);(try clear hi)))
 go_ret
 exact ⟨y3_,y4m_⟩
def sky_Watch_c3.f (a0_0:Int) (a0_1:Int) (a1_0:Int) (a1_1:Int):Option (Bool):=some (decide (a0_1<a1_1))
set_option maxHeartbeats 8000000 in
set_option maxRecDepth 100000 in
theorem sky_Watch_c3.calls (a0_0:Int) (a0_1:Int) (a1_0:Int) (a1_1:Int) (r:Bool) (w:World) (h:sky_Watch_c3.f a0_0 a0_1 a1_0 a1_1=some r):
  Calls Tryz.prog 78 #[.agg #[.int .i64 a0_0,.int .i64 a0_1],.agg #[.int .i64 a1_0,.int .i64 a1_1]] w fun e w'=>e=.returned (.bool r)∧Below w.heap.size w w':=by
 have hu105:=Tryz.underlying105
 have HB:=A0_ (Below.refl w.heap.size w)
 have H:(some (decide (a0_1<a1_1)))=some r:=h
 clear h;obtain rfl:=Option.some.inj H
 go_enter Tryz.func78,Tryz.ntmps78
 go_wp2_with (first|((with_reducible refine gate_dst (N:=2) rfl ?_);refine box_event ?hg (N:=2) ?hd (cs:=#[.int .i64 a0_0,.int .i64 a0_1]) (t:=105) ?hr ?_;(case hd=>rfl);(case hg=>rfl);(case hr=>first|(go_simp;done)|(go_simp;rfl));intro gb624 hg w3 hbox hb;have n0_:=A0_ (below_step y0_ hb);have n1_:=A0_ (hbox);have n2_:=A0_ ((by rw [hg];exact (below_size y0_):w.heap.size≤gb624));have n3_:=A0_ ((by rw [hg];exact (below_size y0_):w.heap.size≤gb624));clear HB;have HB:=n0_;have BK624:=n1_;have GW624:=n2_;have GE624:=n3_;clear n0_ n1_ n2_ n3_;clear hb hbox hg)|((with_reducible refine gate_dst (N:=3) rfl ?_);refine box_event ?hg (N:=3) ?hd (cs:=#[.int .i64 a1_0,.int .i64 a1_1]) (t:=105) ?hr ?_;(case hd=>rfl);(case hg=>rfl);(case hr=>first|(go_simp;done)|(go_simp;rfl));intro gb625 hg w4 hbox hb;have n0_:=A0_ (blk_below (g:=gb624) (o:=.cells #[.int .i64 a0_0,.int .i64 a0_1] 105 (0,0)) (bd_ BK624.out) hb);have n1_:=A0_ (below_step y4b_ hb);have n2_:=A0_ (hbox);have n3_:=A0_ ((by rw [hg];exact (below_size y4b_):w.heap.size≤gb625));have n4_:=A0_ ((by rw [hg];exact (below_size y4b_):w.heap.size≤gb625));have n5_:=A0_ ((by rw [hg];exact Nat.ne_of_lt (blk_lt (g:=gb624) (o:=.cells #[.int .i64 a0_0,.int .i64 a0_1] 105 (0,0)) (bd_ BK624.out)):gb624≠gb625));have n6_:=A0_ ((by rw [hg];exact Nat.ne_of_gt (blk_lt (g:=gb624) (o:=.cells #[.int .i64 a0_0,.int .i64 a0_1] 105 (0,0)) (bd_ BK624.out)):gb625≠gb624));clear BK624;clear HB;have BK624:=n0_;have HB:=n1_;have BK625:=n2_;have GW625:=n3_;have GE625:=n4_;have NB624_625:=n5_;have NB625_624:=n6_;clear n0_ n1_ n2_ n3_ n4_ n5_ n6_;clear hb hbox hg;have hnb5:=NB624_625.out;have hnc5:=NB625_624.out;obtain ⟨hcz6_0,hcz6_1,hfz6_0,hfz6_1⟩:=bq2_ BK624.out;obtain ⟨hcz7_0,hcz7_1,hfz7_0,hfz7_1⟩:=bq2_ BK625.out))
 go_ret
 exact ⟨y3_,(by repeat (first|(with_reducible first|exact HB.out|apply below_alloc|apply pw_below_drewN|apply below_drew1|refine below_set ?_ GE624.out|refine below_set ?_ GE625.out)|exact HB.out))⟩
def at_best_Watch_c3.l0:Nat→List (S105)→Int→Int→Int→Int→Option (Int × Int)
 |0,_,_,_,_,_=>none
 |k+1,x8,x9,x10,x628000,x628001=>if x10<x9 then (if 0≤x10 then (if x10<(x8.length:Int) then (if x10=0 then (at_best_Watch_c3.l0 k x8 x9 (wrap64 (x10+1)) ((rd_T105 x8 x10).f0) ((rd_T105 x8 x10).f1)) else ((sky_Watch_c3.f ((rd_T105 x8 x10).f0) ((rd_T105 x8 x10).f1) x628000 x628001).bind fun t630=>(if t630=true then (at_best_Watch_c3.l0 k x8 x9 (wrap64 (x10+1)) ((rd_T105 x8 x10).f0) ((rd_T105 x8 x10).f1)) else (at_best_Watch_c3.l0 k x8 x9 (wrap64 (x10+1)) x628000 x628001)))) else (none)) else (none)) else (some (x628000,x628001))
def at_best_Watch_c3.f (k:Nat) (l0:List (S105))  : Option (Int × Int):=at_best_Watch_c3.l0 k l0 (l0.length:Int) 0 0 0
set_option maxHeartbeats 8000000 in
set_option maxRecDepth 100000 in
theorem at_best_Watch_c3.calls (k:Nat) (A0:Option Addr) (c0:Nat) (l0:List (S105))  (r1:Int) (r2:Int) (w:World) (hr0:Kd.C k105 w A0 l0.length l0) (hc0:l0.length≤c0) (h:at_best_Watch_c3.f k l0=some (r1,r2)):
  Calls Tryz.prog 77 #[.slice A0 l0.length c0,.func (.func 78) #[] #[]] w fun e w'=>e=.returned (.agg #[.int .i64 r1,.int .i64 r2])∧Below w.heap.size w w':=by
 have hu105:=Tryz.underlying105
 have HR0:=A0_ hr0;have HC0:=A0_ hc0;clear hr0 hc0
 have HB:=A0_ (Below.refl w.heap.size w)
 have H:(at_best_Watch_c3.l0 k l0 (l0.length:Int) 0 0 0)=some (r1,r2):=h
 clear h
 have H':=A0_ H
 clear H
 go_enter Tryz.func77,Tryz.ntmps77
 go_wp2_with (first|((with_reducible refine gate_dst (N:=4) rfl ?_);refine box_event ?hg (N:=4) ?hd (cs:=#[.int .i64 0,.int .i64 0]) (t:=105) ?hr ?_;(case hd=>rfl);(case hg=>rfl);(case hr=>first|(go_simp;done)|(go_simp;rfl));intro gb626 hg w3 hbox hb;have n0_:=A0_ (below_step y0_ hb);have n1_:=A0_ (hbox);have n2_:=A0_ ((by rw [hg];exact (below_size y0_):w.heap.size≤gb626));have n3_:=A0_ ((by rw [hg];exact (below_size y0_):w.heap.size≤gb626));clear HB;have HB:=n0_;have BK626:=n1_;have GW626:=n2_;have GE626:=n3_;clear n0_ n1_ n2_ n3_;clear hb hbox hg)|((with_reducible refine gate_dst (N:=5) rfl ?_);refine box_event ?hg (N:=5) ?hd (cs:=#[.int .i64 0,.int .i64 0]) (t:=105) ?hr ?_;(case hd=>rfl);(case hg=>rfl);(case hr=>first|(go_simp;done)|(go_simp;rfl));intro gb627 hg w4 hbox hb;have n0_:=A0_ (blk_below (g:=gb626) (o:=.cells #[.int .i64 0,.int .i64 0] 105 (0,0)) (bd_ BK626.out) hb);have n1_:=A0_ (below_step y4a_ hb);have n2_:=A0_ (hbox);have n3_:=A0_ ((by rw [hg];exact (below_size y4a_):w.heap.size≤gb627));have n4_:=A0_ ((by rw [hg];exact (below_size y4a_):w.heap.size≤gb627));have n5_:=A0_ ((by rw [hg];exact Nat.ne_of_lt (blk_lt (g:=gb626) (o:=.cells #[.int .i64 0,.int .i64 0] 105 (0,0)) (bd_ BK626.out)):gb626≠gb627));have n6_:=A0_ ((by rw [hg];exact Nat.ne_of_gt (blk_lt (g:=gb626) (o:=.cells #[.int .i64 0,.int .i64 0] 105 (0,0)) (bd_ BK626.out)):gb627≠gb626));clear BK626;clear HB;have BK626:=n0_;have HB:=n1_;have BK627:=n2_;have GW627:=n3_;have GE627:=n4_;have NB626_627:=n5_;have NB627_626:=n6_;clear n0_ n1_ n2_ n3_ n4_ n5_ n6_;clear hb hbox hg))
 go_loopg [10] k (fun kq v10 w'=>∃ (x10_1:Int) (x628000_1:Int) (x628001_1:Int),v10=.int .i64 x10_1∧Aside0 (at_best_Watch_c3.l0 kq l0 (l0.length:Int) x10_1 x628000_1 x628001_1=some (r1,r2))∧Aside0 (kq≤k)∧Aside0 (w'.heap[gb626]?=some (.cells #[.int .i64 0,.int .i64 0] 105 (0,0)))∧Aside0 (w'.heap[gb627]?=some (.cells #[.int .i64 x628000_1,.int .i64 x628001_1] 105 (0,0)))∧Aside0 (Below w.heap.size w w'))
 case atStart=>exact ⟨(0),(0),(0),y5_,H',⟨Nat.le_refl _⟩,⟨by (with_reducible repeat (first|refine blk_drewN ?_ _|refine blk_drew ?_|refine blk_alloc ?_ _));exact BK626.out⟩,⟨by (with_reducible repeat (first|refine blk_drewN ?_ _|refine blk_drew ?_|refine blk_alloc ?_ _));exact BK627.out⟩,⟨y22_⟩⟩
 case round=>
  clear H'
  (try clear p2);(try clear c3)
  obtain ⟨x10_1,x628000_1,x628001_1,rfl,HA,HK1,BK626,BK627,HB⟩:=hrel
  cases gk with
  |zero=>exact absurd HA.out (by simp [at_best_Watch_c3.l0])
  |succ k1=>
   have H:=HA.out
   clear HA
   simp only [at_best_Watch_c3.l0] at H
   by_cases c5:x10_1<(l0.length:Int)
   ·rw [if_pos c5] at H;have c5b0:decide (x10_1<(l0.length:Int))=true:=decide_eq_true c5;clear c5
    by_cases c6:0≤x10_1
    ·rw [if_pos c6] at H;have c6b0:decide (0≤x10_1)=true:=decide_eq_true c6;clear c6
     by_cases c7:x10_1<(l0.length:Int)
     ·rw [if_pos c7] at H;have c7b0:decide (x10_1<(l0.length:Int))=true:=decide_eq_true c7;clear c7
      by_cases c8:x10_1=0
      ·rw [if_pos c8] at H
       have c8b0:(x10_1 == 0)=true:=beq_iff_eq.mpr c8
       have c8b1:(x10_1 != 0)=false:=bne_eq_false_iff_eq.mpr c8
       clear c8
       have H':=A0_ H
       clear H
       have p628:0≤(x10_1:Int):=of_decide_eq_true y6_
       have q628:x10_1<(l0.length:Int):=of_decide_eq_true y6_
       obtain ⟨ad628,e628,hx628_0,hx628_1⟩:=at_T105 HR0.out x10_1 p628 q628
       cases e628
       replace hx628_0:=(HB.out.cell (World.block_lt_of_cell? w _ hx628_0)).trans hx628_0
       replace hx628_1:=(HB.out.cell (World.block_lt_of_cell? w _ hx628_1)).trans hx628_1
       replace p628:=eq_true p628
       replace q628:=eq_true q628
       go_wp2_with (first|((with_reducible refine gate_dst (N:=7) rfl ?_);refine box_event ?hg (N:=7) ?hd (cs:=#[.int .i64 0,.int .i64 0]) (t:=105) ?hr ?_;(case hd=>rfl);(case hg=>rfl);(case hr=>first|(go_simp;done)|(go_simp;rfl));intro gb629 hg w9 hbox hb;have n0_:=A0_ (blk_below (g:=gb626) (o:=.cells #[.int .i64 0,.int .i64 0] 105 (0,0)) (bd_ BK626.out) hb);have n1_:=A0_ (blk_below (g:=gb627) (o:=.cells #[.int .i64 x628000_1,.int .i64 x628001_1] 105 (0,0)) (bd_ BK627.out) hb);have n2_:=A0_ (below_step y22_ hb);have n3_:=A0_ (hbox);have n4_:=A0_ ((by rw [hg];exact (below_size y22_):w.heap.size≤gb629));have n5_:=A0_ ((by rw [hg];exact (below_size y22_):w.heap.size≤gb629));have n6_:=A0_ ((by rw [hg];exact Nat.ne_of_lt (blk_lt (g:=gb626) (o:=.cells #[.int .i64 0,.int .i64 0] 105 (0,0)) (bd_ BK626.out)):gb626≠gb629));have n7_:=A0_ ((by rw [hg];exact Nat.ne_of_gt (blk_lt (g:=gb626) (o:=.cells #[.int .i64 0,.int .i64 0] 105 (0,0)) (bd_ BK626.out)):gb629≠gb626));have n8_:=A0_ ((by rw [hg];exact Nat.ne_of_lt (blk_lt (g:=gb627) (o:=.cells #[.int .i64 x628000_1,.int .i64 x628001_1] 105 (0,0)) (bd_ BK627.out)):gb627≠gb629));have n9_:=A0_ ((by rw [hg];exact Nat.ne_of_gt (blk_lt (g:=gb627) (o:=.cells #[.int .i64 x628000_1,.int .i64 x628001_1] 105 (0,0)) (bd_ BK627.out)):gb629≠gb627));clear BK626;clear BK627;clear HB;have BK626:=n0_;have BK627:=n1_;have HB:=n2_;have BK629:=n3_;have GW629:=n4_;have GE629:=n5_;have NB626_629:=n6_;have NB629_626:=n7_;have NB627_629:=n8_;have NB629_627:=n9_;clear n0_ n1_ n2_ n3_ n4_ n5_ n6_ n7_ n8_ n9_;clear hb hbox hg;have hnb10:=NB629_626.out;have hnc10:=NB626_629.out;have hnb11:=NB629_627.out;have hnc11:=NB627_629.out;obtain ⟨hcz12_0,hcz12_1,hfz12_0,hfz12_1⟩:=bq2_ BK629.out;have hnb13:=NB627_626.out;have hnc13:=NB626_627.out;obtain ⟨hcz14_0,hcz14_1,hfz14_0,hfz14_1⟩:=bq2_ BK627.out))
       go_roundg k1
       case measure=>have:=HK1.out;omega
       case rel=>exact ⟨(wrap64 (x10_1+1)),((rd_T105 l0 x10_1).f0),((rd_T105 l0 x10_1).f1),y5_,H',⟨by have:=HK1.out;omega⟩,⟨by (with_reducible repeat (first|refine blk_drewN ?_ _|refine blk_drew ?_|refine blk_alloc ?_ _));refine blk_far ?_ NB626_627.out _;(with_reducible repeat (first|refine blk_drewN ?_ _|refine blk_drew ?_|refine blk_alloc ?_ _));refine blk_far ?_ NB626_627.out _;(with_reducible repeat (first|refine blk_drewN ?_ _|refine blk_drew ?_|refine blk_alloc ?_ _));refine blk_far ?_ NB626_629.out _;(with_reducible repeat (first|refine blk_drewN ?_ _|refine blk_drew ?_|refine blk_alloc ?_ _));refine blk_far ?_ NB626_629.out _;(with_reducible repeat (first|refine blk_drewN ?_ _|refine blk_drew ?_|refine blk_alloc ?_ _));exact BK626.out⟩,⟨by (with_reducible repeat (first|refine blk_drewN ?_ _|refine blk_drew ?_|refine blk_alloc ?_ _));refine blk_put (cs:=#[.int .i64 ((rd_T105 l0 x10_1).f0),.int .i64 x628001_1]) ?_ 1 _ rfl;(with_reducible repeat (first|refine blk_drewN ?_ _|refine blk_drew ?_|refine blk_alloc ?_ _));refine blk_put (cs:=#[.int .i64 x628000_1,.int .i64 x628001_1]) ?_ 0 _ rfl;(with_reducible repeat (first|refine blk_drewN ?_ _|refine blk_drew ?_|refine blk_alloc ?_ _));refine blk_far ?_ NB627_629.out _;(with_reducible repeat (first|refine blk_drewN ?_ _|refine blk_drew ?_|refine blk_alloc ?_ _));refine blk_far ?_ NB627_629.out _;(with_reducible repeat (first|refine blk_drewN ?_ _|refine blk_drew ?_|refine blk_alloc ?_ _));exact BK627.out⟩,⟨y2t_⟩⟩
      ·rw [if_neg c8] at H
       have c8b0:(x10_1 == 0)=false:=beq_eq_false_iff_ne.mpr c8
       have c8b1:(x10_1 != 0)=true:=bne_iff_ne.mpr c8
       replace H:=Option.bind_eq_some_iff.mp H;obtain ⟨t630,A150,H⟩:=H
       replace H:(if t630=true then (at_best_Watch_c3.l0 k1 l0 (l0.length:Int) (wrap64 (x10_1+1)) ((rd_T105 l0 x10_1).f0) ((rd_T105 l0 x10_1).f1)) else (at_best_Watch_c3.l0 k1 l0 (l0.length:Int) (wrap64 (x10_1+1)) x628000_1 x628001_1))=some (r1,r2):=H
       have A15:=A0_ A150;clear A150
       by_cases c16:t630=true
       ·subst c16
        have H1:(at_best_Watch_c3.l0 k1 l0 (l0.length:Int) (wrap64 (x10_1+1)) ((rd_T105 l0 x10_1).f0) ((rd_T105 l0 x10_1).f1))=some (r1,r2):=by rw [if_pos rfl] at H;exact H
        clear H;have H:=H1;clear H1
        have H':=A0_ H
        clear H
        have p628:0≤(x10_1:Int):=of_decide_eq_true y6_
        have q628:x10_1<(l0.length:Int):=of_decide_eq_true y6_
        obtain ⟨ad628,e628,hx628_0,hx628_1⟩:=at_T105 HR0.out x10_1 p628 q628
        cases e628
        replace hx628_0:=(HB.out.cell (World.block_lt_of_cell? w _ hx628_0)).trans hx628_0
        replace hx628_1:=(HB.out.cell (World.block_lt_of_cell? w _ hx628_1)).trans hx628_1
        replace p628:=eq_true p628
        replace q628:=eq_true q628
        go_wp2_with (first|((with_reducible refine gate_dst (N:=7) rfl ?_);refine box_event ?hg (N:=7) ?hd (cs:=#[.int .i64 0,.int .i64 0]) (t:=105) ?hr ?_;(case hd=>rfl);(case hg=>rfl);(case hr=>first|(go_simp;done)|(go_simp;rfl));intro gb629 hg w17 hbox hb;have n0_:=A0_ (blk_below (g:=gb626) (o:=.cells #[.int .i64 0,.int .i64 0] 105 (0,0)) (bd_ BK626.out) hb);have n1_:=A0_ (blk_below (g:=gb627) (o:=.cells #[.int .i64 x628000_1,.int .i64 x628001_1] 105 (0,0)) (bd_ BK627.out) hb);have n2_:=A0_ (below_step y22_ hb);have n3_:=A0_ (hbox);have n4_:=A0_ ((by rw [hg];exact (below_size y22_):w.heap.size≤gb629));have n5_:=A0_ ((by rw [hg];exact (below_size y22_):w.heap.size≤gb629));have n6_:=A0_ ((by rw [hg];exact Nat.ne_of_lt (blk_lt (g:=gb626) (o:=.cells #[.int .i64 0,.int .i64 0] 105 (0,0)) (bd_ BK626.out)):gb626≠gb629));have n7_:=A0_ ((by rw [hg];exact Nat.ne_of_gt (blk_lt (g:=gb626) (o:=.cells #[.int .i64 0,.int .i64 0] 105 (0,0)) (bd_ BK626.out)):gb629≠gb626));have n8_:=A0_ ((by rw [hg];exact Nat.ne_of_lt (blk_lt (g:=gb627) (o:=.cells #[.int .i64 x628000_1,.int .i64 x628001_1] 105 (0,0)) (bd_ BK627.out)):gb627≠gb629));have n9_:=A0_ ((by rw [hg];exact Nat.ne_of_gt (blk_lt (g:=gb627) (o:=.cells #[.int .i64 x628000_1,.int .i64 x628001_1] 105 (0,0)) (bd_ BK627.out)):gb629≠gb627));clear BK626;clear BK627;clear HB;have BK626:=n0_;have BK627:=n1_;have HB:=n2_;have BK629:=n3_;have GW629:=n4_;have GE629:=n5_;have NB626_629:=n6_;have NB629_626:=n7_;have NB627_629:=n8_;have NB629_627:=n9_;clear n0_ n1_ n2_ n3_ n4_ n5_ n6_ n7_ n8_ n9_;clear hb hbox hg;have hnb18:=NB629_626.out;have hnc18:=NB626_629.out;have hnb19:=NB629_627.out;have hnc19:=NB627_629.out;obtain ⟨hcz20_0,hcz20_1,hfz20_0,hfz20_1⟩:=bq2_ BK629.out;have hnb21:=NB627_626.out;have hnc21:=NB626_627.out;obtain ⟨hcz22_0,hcz22_1,hfz22_0,hfz22_1⟩:=bq2_ BK627.out)|(go_at_call 78;(with_reducible refine (sky_Watch_c3.calls ((rd_T105 l0 x10_1).f0) ((rd_T105 l0 x10_1).f1) x628000_1 x628001_1 true _ A15.out).mono ?_);rintro e w23 ⟨rfl,hb⟩;have n0_:=A0_ (blk_below (g:=gb626) (o:=.cells #[.int .i64 0,.int .i64 0] 105 (0,0)) y43_ hb);have n1_:=A0_ (blk_below (g:=gb627) (o:=.cells #[.int .i64 x628000_1,.int .i64 x628001_1] 105 (0,0)) y42_ hb);have n2_:=A0_ (blk_below (g:=gb629) (o:=.cells #[.int .i64 ((rd_T105 l0 x10_1).f0),.int .i64 ((rd_T105 l0 x10_1).f1)] 105 (0,0)) y3x_ hb);have n3_:=A0_ (below_step y2t_ hb);clear BK626;clear BK627;clear BK629;clear HB;have BK626:=n0_;have BK627:=n1_;have BK629:=n2_;have HB:=n3_;clear n0_ n1_ n2_ n3_;(try clear hb);(try clear hb2);(try clear hk);(try clear hi);obtain ⟨hcz24_0,hcz24_1,hfz24_0,hfz24_1⟩:=bq2_ BK629.out;obtain ⟨hcz25_0,hcz25_1,hfz25_0,hfz25_1⟩:=bq2_ BK627.out))
        go_roundg k1
        case measure=>have:=HK1.out;omega
        case rel=>exact ⟨(wrap64 (x10_1+1)),((rd_T105 l0 x10_1).f0),((rd_T105 l0 x10_1).f1),y5_,H',⟨by have:=HK1.out;omega⟩,⟨by (with_reducible repeat (first|refine blk_drewN ?_ _|refine blk_drew ?_|refine blk_alloc ?_ _));refine blk_far ?_ NB626_627.out _;(with_reducible repeat (first|refine blk_drewN ?_ _|refine blk_drew ?_|refine blk_alloc ?_ _));refine blk_far ?_ NB626_627.out _;(with_reducible repeat (first|refine blk_drewN ?_ _|refine blk_drew ?_|refine blk_alloc ?_ _));exact BK626.out⟩,⟨by (with_reducible repeat (first|refine blk_drewN ?_ _|refine blk_drew ?_|refine blk_alloc ?_ _));refine blk_put (cs:=#[.int .i64 ((rd_T105 l0 x10_1).f0),.int .i64 x628001_1]) ?_ 1 _ rfl;(with_reducible repeat (first|refine blk_drewN ?_ _|refine blk_drew ?_|refine blk_alloc ?_ _));refine blk_put (cs:=#[.int .i64 x628000_1,.int .i64 x628001_1]) ?_ 0 _ rfl;(with_reducible repeat (first|refine blk_drewN ?_ _|refine blk_drew ?_|refine blk_alloc ?_ _));exact BK627.out⟩,⟨y2t_⟩⟩
       ·replace c16:=Bool.eq_false_iff.mpr c16;subst c16
        have H1:(at_best_Watch_c3.l0 k1 l0 (l0.length:Int) (wrap64 (x10_1+1)) x628000_1 x628001_1)=some (r1,r2):=by rw [if_neg (show ¬ (false=true) by decide)] at H;exact H
        clear H;have H:=H1;clear H1
        have H':=A0_ H
        clear H
        have p628:0≤(x10_1:Int):=of_decide_eq_true y6_
        have q628:x10_1<(l0.length:Int):=of_decide_eq_true y6_
        obtain ⟨ad628,e628,hx628_0,hx628_1⟩:=at_T105 HR0.out x10_1 p628 q628
        cases e628
        replace hx628_0:=(HB.out.cell (World.block_lt_of_cell? w _ hx628_0)).trans hx628_0
        replace hx628_1:=(HB.out.cell (World.block_lt_of_cell? w _ hx628_1)).trans hx628_1
        replace p628:=eq_true p628
        replace q628:=eq_true q628
        go_wp2_with (first|((with_reducible refine gate_dst (N:=7) rfl ?_);refine box_event ?hg (N:=7) ?hd (cs:=#[.int .i64 0,.int .i64 0]) (t:=105) ?hr ?_;(case hd=>rfl);(case hg=>rfl);(case hr=>first|(go_simp;done)|(go_simp;rfl));intro gb629 hg w26 hbox hb;have n0_:=A0_ (blk_below (g:=gb626) (o:=.cells #[.int .i64 0,.int .i64 0] 105 (0,0)) (bd_ BK626.out) hb);have n1_:=A0_ (blk_below (g:=gb627) (o:=.cells #[.int .i64 x628000_1,.int .i64 x628001_1] 105 (0,0)) (bd_ BK627.out) hb);have n2_:=A0_ (below_step y22_ hb);have n3_:=A0_ (hbox);have n4_:=A0_ ((by rw [hg];exact (below_size y22_):w.heap.size≤gb629));have n5_:=A0_ ((by rw [hg];exact (below_size y22_):w.heap.size≤gb629));have n6_:=A0_ ((by rw [hg];exact Nat.ne_of_lt (blk_lt (g:=gb626) (o:=.cells #[.int .i64 0,.int .i64 0] 105 (0,0)) (bd_ BK626.out)):gb626≠gb629));have n7_:=A0_ ((by rw [hg];exact Nat.ne_of_gt (blk_lt (g:=gb626) (o:=.cells #[.int .i64 0,.int .i64 0] 105 (0,0)) (bd_ BK626.out)):gb629≠gb626));have n8_:=A0_ ((by rw [hg];exact Nat.ne_of_lt (blk_lt (g:=gb627) (o:=.cells #[.int .i64 x628000_1,.int .i64 x628001_1] 105 (0,0)) (bd_ BK627.out)):gb627≠gb629));have n9_:=A0_ ((by rw [hg];exact Nat.ne_of_gt (blk_lt (g:=gb627) (o:=.cells #[.int .i64 x628000_1,.int .i64 x628001_1] 105 (0,0)) (bd_ BK627.out)):gb629≠gb627));clear BK626;clear BK627;clear HB;have BK626:=n0_;have BK627:=n1_;have HB:=n2_;have BK629:=n3_;have GW629:=n4_;have GE629:=n5_;have NB626_629:=n6_;have NB629_626:=n7_;have NB627_629:=n8_;have NB629_627:=n9_;clear n0_ n1_ n2_ n3_ n4_ n5_ n6_ n7_ n8_ n9_;clear hb hbox hg;have hnb27:=NB629_626.out;have hnc27:=NB626_629.out;have hnb28:=NB629_627.out;have hnc28:=NB627_629.out;obtain ⟨hcz29_0,hcz29_1,hfz29_0,hfz29_1⟩:=bq2_ BK629.out;have hnb30:=NB627_626.out;have hnc30:=NB626_627.out;obtain ⟨hcz31_0,hcz31_1,hfz31_0,hfz31_1⟩:=bq2_ BK627.out)|(go_at_call 78;(with_reducible refine (sky_Watch_c3.calls ((rd_T105 l0 x10_1).f0) ((rd_T105 l0 x10_1).f1) x628000_1 x628001_1 false _ A15.out).mono ?_);rintro e w32 ⟨rfl,hb⟩;have n0_:=A0_ (blk_below (g:=gb626) (o:=.cells #[.int .i64 0,.int .i64 0] 105 (0,0)) y43_ hb);have n1_:=A0_ (blk_below (g:=gb627) (o:=.cells #[.int .i64 x628000_1,.int .i64 x628001_1] 105 (0,0)) y42_ hb);have n2_:=A0_ (blk_below (g:=gb629) (o:=.cells #[.int .i64 ((rd_T105 l0 x10_1).f0),.int .i64 ((rd_T105 l0 x10_1).f1)] 105 (0,0)) y3x_ hb);have n3_:=A0_ (below_step y2t_ hb);clear BK626;clear BK627;clear BK629;clear HB;have BK626:=n0_;have BK627:=n1_;have BK629:=n2_;have HB:=n3_;clear n0_ n1_ n2_ n3_;(try clear hb);(try clear hb2);(try clear hk);(try clear hi)))
        go_roundg k1
        case measure=>have:=HK1.out;omega
        case rel=>exact ⟨(wrap64 (x10_1+1)),(x628000_1),(x628001_1),y5_,H',⟨by have:=HK1.out;omega⟩,⟨by (with_reducible repeat (first|refine blk_drewN ?_ _|refine blk_drew ?_|refine blk_alloc ?_ _));exact BK626.out⟩,⟨by (with_reducible repeat (first|refine blk_drewN ?_ _|refine blk_drew ?_|refine blk_alloc ?_ _));exact BK627.out⟩,⟨y2t_⟩⟩
     ·rw [if_neg c7] at H;exact absurd H (by simp)
    ·rw [if_neg c6] at H;exact absurd H (by simp)
   ·rw [if_neg c5] at H;have c5b0:decide (x10_1<(l0.length:Int))=false:=decide_eq_false c5;clear c5
    simp only [Option.some.injEq,Prod.mk.injEq] at H
    obtain ⟨rfl,rfl⟩:=H
    have hnb33:=NB627_626.out
    have hnc33:=NB626_627.out
    obtain ⟨hcz34_0,hcz34_1,hfz34_0,hfz34_1⟩:=bq2_ BK627.out;obtain ⟨hcz35_0,hcz35_1,hfz35_0,hfz35_1⟩:=bq2_ BK626.out;go_wp2
    refine bodyPost_ret (results_cell_row rfl _ _ gb626 105 #[.int .i64 x628000_1,.int .i64 x628001_1] (0,0) _ rfl (by (with_reducible repeat (first|refine blk_drewN ?_ _|refine blk_drew ?_|refine blk_alloc ?_ _));refine blk_put (cs:=#[.int .i64 x628000_1,.int .i64 0]) ?_ 1 _ rfl;(with_reducible repeat (first|refine blk_drewN ?_ _|refine blk_drew ?_|refine blk_alloc ?_ _));refine blk_put (cs:=#[.int .i64 0,.int .i64 0]) ?_ 0 _ rfl;(with_reducible repeat (first|refine blk_drewN ?_ _|refine blk_drew ?_|refine blk_alloc ?_ _));exact BK626.out) Tryz.underlying105 rfl (by kernel_rfl)) rfl ?_
    exact ⟨y3_,y22_⟩
def sky_Watch_c1.f (a0:Int):Option (Bool):=(sky_isDay.f a0).bind fun t631=>(some (!t631))
set_option maxHeartbeats 8000000 in
set_option maxRecDepth 100000 in
theorem sky_Watch_c1.calls (a0:Int) (r:Bool) (w:World) (h:sky_Watch_c1.f a0=some r):
  Calls Tryz.prog 73 #[.int .i64 a0] w fun e w'=>e=.returned (.bool r)∧Drawn0 w w':=by
 have H:((sky_isDay.f a0).bind fun t631=>(some (!t631)))=some r:=h
 clear h;replace H:=Option.bind_eq_some_iff.mp H;obtain ⟨t631,A20,H⟩:=H
 replace H:(some (!t631))=some r:=H
 have A2:=A0_ A20;clear A20;obtain rfl:=Option.some.inj H
 go_enter Tryz.func73,Tryz.ntmps73
 go_wp2_with (first|((with_reducible refine gate_callee (f:=62) rfl ?_);refine goesL_ (some 4) rfl rfl Tryz.func62 (by kernel_rfl) rfl #[.int .i64 a0] rfl y1_ ?_;(with_reducible refine (sky_isDay.calls a0 t631 _ A2.out).mono ?_);rintro e w' ⟨rfl,⟨nd,rfl⟩⟩;refine ⟨_,rfl,?_⟩))
 go_ret
 exact ⟨y5_,yt_⟩
def iF_Watch_c1.l0:Nat→List Int→Int→Int→Option (Int)
 |0,_,_,_=>none
 |k+1,x0,x7,x8=>if x8<x7 then (if 0≤x8 then (if x8<(x0.length:Int) then ((sky_Watch_c1.f (rd x0 x8)).bind fun t633=>(if t633=true then (some x8) else (iF_Watch_c1.l0 k x0 x7 (wrap64 (x8+1))))) else (none)) else (none)) else (some (-1))
def iF_Watch_c1.f (k:Nat) (l0:List Int)  : Option (Int):=iF_Watch_c1.l0 k l0 (l0.length:Int) 0
set_option maxHeartbeats 8000000 in
set_option maxRecDepth 100000 in
theorem iF_Watch_c1.calls (k:Nat) (A0:Option Addr) (c0:Nat) (l0:List Int)  (r:Int) (w:World) (hr0:Kd.C (Kd.int .i64) w A0 l0.length l0) (hc0:l0.length≤c0) (h:iF_Watch_c1.f k l0=some r):
  Calls Tryz.prog 116 #[.slice A0 l0.length c0,.func (.func 73) #[] #[]] w fun e w'=>e=.returned (.int .i64 r)∧Drawn0 w w':=by
 have HR0:=A0_ hr0;have HC0:=A0_ hc0;clear hr0 hc0
 have H:(iF_Watch_c1.l0 k l0 (l0.length:Int) 0)=some r:=h
 clear h
 have H':=A0_ H
 clear H
 go_enter Tryz.func116,Tryz.ntmps116
 go_wp2
 go_loopg [8] k (fun kq v8 w'=>∃ (x8_1:Int),v8=.int .i64 x8_1∧Aside0 (iF_Watch_c1.l0 kq l0 (l0.length:Int) x8_1=some r)∧Aside0 (kq≤k)∧Drawn0 w w')
 case atStart=>exact ⟨(0),y5_,H',⟨Nat.le_refl _⟩,yt_⟩
 case round=>
  clear H'
  (try clear c1);(try clear p2)
  obtain ⟨x8_1,rfl,HA,HK1,⟨m1,rfl⟩⟩:=hrel
  cases gk with
  |zero=>exact absurd HA.out (by simp [iF_Watch_c1.l0])
  |succ k1=>
   have H:=HA.out
   clear HA
   simp only [iF_Watch_c1.l0] at H
   by_cases c3:x8_1<(l0.length:Int)
   ·rw [if_pos c3] at H;have c3b0:decide (x8_1<(l0.length:Int))=true:=decide_eq_true c3;clear c3
    by_cases c4:0≤x8_1
    ·rw [if_pos c4] at H;have c4b0:decide (0≤x8_1)=true:=decide_eq_true c4;clear c4
     by_cases c5:x8_1<(l0.length:Int)
     ·rw [if_pos c5] at H;have c5b0:decide (x8_1<(l0.length:Int))=true:=decide_eq_true c5;clear c5;replace H:=Option.bind_eq_some_iff.mp H;obtain ⟨t633,A60,H⟩:=H
      replace H:(if t633=true then (some x8_1) else (iF_Watch_c1.l0 k1 l0 (l0.length:Int) (wrap64 (x8_1+1))))=some r:=H
      have A6:=A0_ A60;clear A60
      by_cases c7:t633=true
      ·subst c7
       have H1:(some x8_1)=some r:=by rw [if_pos rfl] at H;exact H
       clear H;have H:=H1;clear H1;obtain rfl:=Option.some.inj H
       have p632:0≤(x8_1:Int):=of_decide_eq_true y6_
       have q632:x8_1<(l0.length:Int):=of_decide_eq_true y6_
       obtain ⟨ad632,e632,hx632_0⟩:=Kd.at_int HR0.out x8_1 p632 q632
       cases e632
       replace p632:=eq_true p632
       replace q632:=eq_true q632
       go_wp2_with (first|(go_at_call 73;(with_reducible refine (sky_Watch_c1.calls (rd l0 x8_1) true _ A6.out).mono ?_);rintro e w' ⟨rfl,⟨nd,rfl⟩⟩))
       go_ret
       exact ⟨y5_,yt_⟩
      ·replace c7:=Bool.eq_false_iff.mpr c7;subst c7
       have H1:(iF_Watch_c1.l0 k1 l0 (l0.length:Int) (wrap64 (x8_1+1)))=some r:=by rw [if_neg (show ¬ (false=true) by decide)] at H;exact H
       clear H;have H:=H1;clear H1
       have H':=A0_ H
       clear H
       have p632:0≤(x8_1:Int):=of_decide_eq_true y6_
       have q632:x8_1<(l0.length:Int):=of_decide_eq_true y6_
       obtain ⟨ad632,e632,hx632_0⟩:=Kd.at_int HR0.out x8_1 p632 q632
       cases e632
       replace p632:=eq_true p632
       replace q632:=eq_true q632
       go_wp2_with (first|(go_at_call 73;(with_reducible refine (sky_Watch_c1.calls (rd l0 x8_1) false _ A6.out).mono ?_);rintro e w' ⟨rfl,⟨nd,rfl⟩⟩))
       go_roundg k1
       case measure=>have:=HK1.out;omega
       case rel=>exact ⟨(wrap64 (x8_1+1)),y5_,H',⟨by have:=HK1.out;omega⟩,yt_⟩
     ·rw [if_neg c5] at H;exact absurd H (by simp)
    ·rw [if_neg c4] at H;exact absurd H (by simp)
   ·rw [if_neg c3] at H;have c3b0:decide (x8_1<(l0.length:Int))=false:=decide_eq_false c3;clear c3;obtain rfl:=Option.some.inj H;go_wp2;go_ret
    exact ⟨y5_,yt_⟩
def cF_Watch_c1.f (k:Nat) (l0:List Int)  : Option (Bool):=(iF_Watch_c1.f k l0).bind fun t634=>(some (decide (t634 ≥ 0)))
set_option maxHeartbeats 8000000 in
set_option maxRecDepth 100000 in
theorem cF_Watch_c1.calls (k:Nat) (A0:Option Addr) (c0:Nat) (l0:List Int)  (r:Bool) (w:World) (hr0:Kd.C (Kd.int .i64) w A0 l0.length l0) (hc0:l0.length≤c0) (h:cF_Watch_c1.f k l0=some r):
  Calls Tryz.prog 72 #[.slice A0 l0.length c0,.func (.func 73) #[] #[]] w fun e w'=>e=.returned (.bool r)∧Drawn0 w w':=by
 have HR0:=A0_ hr0;have HC0:=A0_ hc0;clear hr0 hc0
 have H:((iF_Watch_c1.f k l0).bind fun t634=>(some (decide (t634 ≥ 0))))=some r:=h
 clear h;replace H:=Option.bind_eq_some_iff.mp H;obtain ⟨t634,A30,H⟩:=H
 replace H:(some (decide (t634 ≥ 0)))=some r:=H
 have A3:=A0_ A30;clear A30;obtain rfl:=Option.some.inj H
 go_enter Tryz.func72,Tryz.ntmps72
 go_wp2_with (first|(go_at_call 116;(with_reducible refine (iF_Watch_c1.calls k _ _ l0  t634 _ ?side1 ?side2 A3.out).mono ?_);(case side1=>repeat (first|exact HR0.out|(with_reducible refine Kd.C_alloc ?_ _)|(with_reducible refine Kd.C_drewN ?_ _)|(with_reducible refine Kd.C_drew ?_)));(case side2=>exact HC0.out);rintro e w' ⟨rfl,⟨nd,rfl⟩⟩))
 go_ret
 exact ⟨y5_,yt_⟩
def tr_Same.l0:Nat→List Int→List Int→Int→Option (Bool)
 |0,_,_,_=>none
 |k+1,x0,x1,x5=>if x5<(x0.length:Int) then (if 0≤x5 then (if x5<(x1.length:Int) then (if (rd x0 x5)=(rd x1 x5) then (tr_Same.l0 k x0 x1 (wrap64 (x5+1))) else (some false)) else (none)) else (none)) else (some true)
def tr_Same.f (k:Nat) (l0:List Int) (l1:List Int):Option (Bool):=if (l0.length:Int)=(l1.length:Int) then (tr_Same.l0 k l0 l1 0) else (some false)
theorem tr_Same.mono_l:∀ k,(∀ y0 y1 y2,LeO (tr_Same.l0 k y0 y1 y2) (tr_Same.l0 (k+1) y0 y1 y2))
 |0=>fun _ _ _ r h=>by simp [tr_Same.l0] at h
 |k+1=>by
  have ih0:=tr_Same.mono_l k
  ·intro y0 y1 y2
   unfold tr_Same.l0
   repeat' first
   |(with_reducible exact ih0 _ _ _)
   |(with_reducible exact LeO.refl _)
   |(with_reducible exact LeO.none _)
   |(with_reducible refine LeO.ite ?_ ?_)
   |(with_reducible refine LeO.bind ?_ (fun _=>?_))
   |exact ih0 _ _ _
   |exact LeO.none _
   |refine LeO.ite ?_ ?_
   |refine LeO.bind ?_ (fun _=>?_)
theorem tr_Same.mono:∀ a0 a1 k,LeO (tr_Same.f k a0 a1) (tr_Same.f (k+1) a0 a1):=by
 intro a0 a1 k
 have ih0:=tr_Same.mono_l k
 unfold tr_Same.f
 repeat' first
   |(with_reducible exact ih0 _ _ _)
   |(with_reducible exact LeO.refl _)
   |(with_reducible exact LeO.none _)
   |(with_reducible refine LeO.ite ?_ ?_)
   |(with_reducible refine LeO.bind ?_ (fun _=>?_))
   |exact ih0 _ _ _
   |exact LeO.none _
   |refine LeO.ite ?_ ?_
   |refine LeO.bind ?_ (fun _=>?_)
set_option maxHeartbeats 8000000 in
set_option maxRecDepth 100000 in
theorem tr_Same.calls (k:Nat) (A0:Option Addr) (c0:Nat) (l0:List Int) (A1:Option Addr) (c1:Nat) (l1:List Int) (r:Bool) (w:World) (hr0:Kd.C (Kd.int .i64) w A0 l0.length l0) (hc0:l0.length≤c0) (hr1:Kd.C (Kd.int .i64) w A1 l1.length l1) (hc1:l1.length≤c1) (h:tr_Same.f k l0 l1=some r):
  Calls Tryz.prog 51 #[.slice A0 l0.length c0,.slice A1 l1.length c1] w fun e w'=>e=.returned (.bool r)∧Drawn0 w w':=by
 have HR0:=A0_ hr0;have HC0:=A0_ hc0;clear hr0 hc0;have HR1:=A0_ hr1;have HC1:=A0_ hc1;clear hr1 hc1
 have H:(if (l0.length:Int)=(l1.length:Int) then (tr_Same.l0 k l0 l1 0) else (some false))=some r:=h
 clear h
 by_cases c3:(l0.length:Int)=(l1.length:Int)
 ·rw [if_pos c3] at H
  have c3b0:((l0.length:Int) == (l1.length:Int))=true:=beq_iff_eq.mpr c3
  have c3b1:((l0.length:Int) != (l1.length:Int))=false:=bne_eq_false_iff_eq.mpr c3
  have c3b2:(l0.length == l1.length)=true:=by first|simpa using c3|(simp at c3 ⊢;omega)
  clear c3
  have H':=A0_ H
  clear H
  go_enter Tryz.func51,Tryz.ntmps51
  go_wp2
  repeat (go_quiet (fail);try go_wp2)
  go_loopg [5] k (fun kq v5 w'=>∃ (x5_1:Int),v5=.int .i64 x5_1∧Aside0 (tr_Same.l0 kq l0 l1 x5_1=some r)∧Aside0 (kq≤k)∧Drawn0 w w')
  case atStart=>exact ⟨(0),y5_,H',⟨Nat.le_refl _⟩,yt_⟩
  case round=>
   clear H'
   (try clear c1);(try clear p2);(try clear c3);(try clear c3b0);(try clear c3b1);(try clear c3b2)
   obtain ⟨x5_1,rfl,HA,HK1,⟨m1,rfl⟩⟩:=hrel
   cases gk with
   |zero=>exact absurd HA.out (by simp [tr_Same.l0])
   |succ k1=>
    have H:=HA.out
    clear HA
    simp only [tr_Same.l0] at H
    by_cases c4:x5_1<(l0.length:Int)
    ·rw [if_pos c4] at H;have c4b0:decide (x5_1<(l0.length:Int))=true:=decide_eq_true c4;clear c4
     by_cases c5:0≤x5_1
     ·rw [if_pos c5] at H;have c5b0:decide (0≤x5_1)=true:=decide_eq_true c5;clear c5
      by_cases c6:x5_1<(l1.length:Int)
      ·rw [if_pos c6] at H;have c6b0:decide (x5_1<(l1.length:Int))=true:=decide_eq_true c6;clear c6
       by_cases c7:(rd l0 x5_1)=(rd l1 x5_1)
       ·rw [if_pos c7] at H
        have c7b0:((rd l0 x5_1) == (rd l1 x5_1))=true:=beq_iff_eq.mpr c7
        have c7b1:((rd l0 x5_1) != (rd l1 x5_1))=false:=bne_eq_false_iff_eq.mpr c7
        clear c7
        have H':=A0_ H
        clear H
        have p653:0≤(x5_1:Int):=of_decide_eq_true y6_
        have q653:x5_1<(l0.length:Int):=of_decide_eq_true y6_
        obtain ⟨ad653,e653,hx653_0⟩:=Kd.at_int HR0.out x5_1 p653 q653
        cases e653
        replace p653:=eq_true p653
        replace q653:=eq_true q653
        have p654:0≤(x5_1:Int):=of_decide_eq_true y6_
        have q654:x5_1<(l1.length:Int):=of_decide_eq_true y6_
        obtain ⟨ad654,e654,hx654_0⟩:=Kd.at_int HR1.out x5_1 p654 q654
        cases e654
        replace p654:=eq_true p654
        replace q654:=eq_true q654
        go_wp2
        repeat (go_quiet (fail);try go_wp2)
        go_roundg k1
        case measure=>have:=HK1.out;omega
        case rel=>exact ⟨(wrap64 (x5_1+1)),y5_,H',⟨by have:=HK1.out;omega⟩,yt_⟩
       ·rw [if_neg c7] at H
        have c7b0:((rd l0 x5_1) == (rd l1 x5_1))=false:=beq_eq_false_iff_ne.mpr c7
        have c7b1:((rd l0 x5_1) != (rd l1 x5_1))=true:=bne_iff_ne.mpr c7
        obtain rfl:=Option.some.inj H
        have p653:0≤(x5_1:Int):=of_decide_eq_true y6_
        have q653:x5_1<(l0.length:Int):=of_decide_eq_true y6_
        obtain ⟨ad653,e653,hx653_0⟩:=Kd.at_int HR0.out x5_1 p653 q653
        cases e653
        replace p653:=eq_true p653
        replace q653:=eq_true q653
        have p654:0≤(x5_1:Int):=of_decide_eq_true y6_
        have q654:x5_1<(l1.length:Int):=of_decide_eq_true y6_
        obtain ⟨ad654,e654,hx654_0⟩:=Kd.at_int HR1.out x5_1 p654 q654
        cases e654
        replace p654:=eq_true p654
        replace q654:=eq_true q654
        go_wp2
        repeat (go_quiet (fail);try go_wp2)
        go_ret
        exact ⟨y5_,yt_⟩
      ·rw [if_neg c6] at H;exact absurd H (by simp)
     ·rw [if_neg c5] at H;exact absurd H (by simp)
    ·rw [if_neg c4] at H;have c4b0:decide (x5_1<(l0.length:Int))=false:=decide_eq_false c4;clear c4;obtain rfl:=Option.some.inj H;go_wp2
     repeat (go_quiet (fail);try go_wp2)
     go_ret
     exact ⟨y5_,yt_⟩
 ·rw [if_neg c3] at H
  have c3b0:((l0.length:Int) == (l1.length:Int))=false:=beq_eq_false_iff_ne.mpr c3
  have c3b1:((l0.length:Int) != (l1.length:Int))=true:=bne_iff_ne.mpr c3
  have c3b2:(l0.length == l1.length)=false:=by first|simpa using c3|(simp at c3 ⊢;omega)
  obtain rfl:=Option.some.inj H
  go_enter Tryz.func51,Tryz.ntmps51
  go_wp2
  repeat (go_quiet (fail);try go_wp2)
  go_ret
  exact ⟨y5_,yt_⟩
def tl_S.f  : Option ((List (S83)) × Int × Int × Int):=some ((([(⟨(⟨360,1⟩:S24),0,(([0]:List Int))⟩:S83),(⟨(⟨27,1⟩:S24),0,(([0,300,0,(-300)]:List Int))⟩:S83)]:List (S83))),6000,1,1000)
set_option maxHeartbeats 8000000 in
set_option maxRecDepth 100000 in
theorem tl_S.calls  (r1:List (S83)) (r2:Int) (r3:Int) (r4:Int) (w:World) (h:tl_S.f  = some (r1,r2,r3,r4)):
  Calls Tryz.prog 45 #[] w fun e w'=>∃ v0_:Value,e=.returned (.agg #[v0_,.int .i64 r2,.int .i64 r3,.int .i64 r4])∧Kd.N k83 83 w' w.heap.size (fun k_=>(w.heap.size≤k_)) v0_ r1∧Below w.heap.size w w':=by
 have hu28:=Tryz.underlying28
 have hu24:=Tryz.underlying24
 have hu83:=Tryz.underlying83
 have hu26:=Tryz.underlying26
 have HB:=A0_ (Below.refl w.heap.size w)
 have H:(some ((([(⟨(⟨360,1⟩:S24),0,(([0]:List Int))⟩:S83),(⟨(⟨27,1⟩:S24),0,(([0,300,0,(-300)]:List Int))⟩:S83)]:List (S83))),6000,1,1000))=some (r1,r2,r3,r4):=h
 clear h
 obtain ⟨y656,hy656⟩:∃ y_:List Int,y_=(([0]:List Int)):=⟨_,rfl⟩
 replace H:(some ((([(⟨(⟨360,1⟩:S24),0,y656⟩:S83),(⟨(⟨27,1⟩:S24),0,(([0,300,0,(-300)]:List Int))⟩:S83)]:List (S83))),6000,1,1000))=some (r1,r2,r3,r4):=by first|(rw [hy656];with_reducible exact H)|(have H2_:=(Option.bind_some _ _).symm.trans H;rw [hy656];with_reducible exact H2_)|(have H2_:=(Option.bind_some _ _).symm.trans H;with_reducible exact H2_)|with_reducible exact H|(rw [hy656];exact H)|exact H
 have Ny656:=A0_ hy656;clear hy656
 obtain ⟨y659,hy659⟩:∃ y_:List Int,y_=(([0,300,0,(-300)]:List Int)):=⟨_,rfl⟩
 replace H:(some ((([(⟨(⟨360,1⟩:S24),0,y656⟩:S83),(⟨(⟨27,1⟩:S24),0,y659⟩:S83)]:List (S83))),6000,1,1000))=some (r1,r2,r3,r4):=by first|(rw [hy659];with_reducible exact H)|(have H2_:=(Option.bind_some _ _).symm.trans H;rw [hy659];with_reducible exact H2_)|(have H2_:=(Option.bind_some _ _).symm.trans H;with_reducible exact H2_)|with_reducible exact H|(rw [hy659];exact H)|exact H
 have Ny659:=A0_ hy659;clear hy659
 obtain ⟨y662,hy662⟩:∃ y_:List (S83),y_=(([(⟨(⟨360,1⟩:S24),0,y656⟩:S83),(⟨(⟨27,1⟩:S24),0,y659⟩:S83)]:List (S83))):=⟨_,rfl⟩
 replace H:(some (y662,6000,1,1000))=some (r1,r2,r3,r4):=by first|(rw [hy662];with_reducible exact H)|(have H2_:=(Option.bind_some _ _).symm.trans H;rw [hy662];with_reducible exact H2_)|(have H2_:=(Option.bind_some _ _).symm.trans H;with_reducible exact H2_)|with_reducible exact H|(rw [hy662];exact H)|exact H
 have Ny662:=A0_ hy662;clear hy662
 simp only [Option.some.injEq,Prod.mk.injEq] at H
 obtain ⟨rfl,rfl,rfl,rfl⟩:=H
 go_enter Tryz.func45,Tryz.ntmps45
 go_wp2_with (first|((with_reducible refine gate_dst (N:=0) rfl ?_);refine box_event ?hg (N:=0) ?hd (cs:=#[.slice none 0 0,.int .i64 0,.int .i64 0,.int .i64 0]) (t:=28) ?hr ?_;(case hd=>rfl);(case hg=>rfl);(case hr=>first|(go_simp;done)|(go_simp;rfl));intro gb655 hg w1 hbox hb;have n0_:=A0_ (below_step y0_ hb);have n1_:=A0_ (hbox);have n2_:=A0_ ((by rw [hg];exact (below_size y0_):w.heap.size≤gb655));have n3_:=A0_ ((by rw [hg];exact (below_size y0_):w.heap.size≤gb655));clear HB;have HB:=n0_;have BK655:=n1_;have GW655:=n2_;have GE655:=n3_;clear n0_ n1_ n2_ n3_;clear hb hbox hg)|((with_reducible refine gate_dst (N:=2) rfl ?_);refine Kd.R_lit (Kd.int .i64) _ 3 ?hg (N:=2) ?hd (xs:=([0]:List Int)) (inner:=[.int .i64 0]) (ok:=fun _=>True) (okp:=fun _=>True) ?hr ?hp (fun _ hk=>hk) trivial (Below.refl _ _) (Nat.le_refl _) (by simp) ?_;(case hd=>rfl);(case hg=>rfl);(case hr=>first|(go_simp;done)|(go_simp;rfl));(case hp=>exact (Reps.one (show Kd.M (Kd.int .i64) _ _ _ 0 [.int .i64 0] from rfl) (Reps.none _ _)));intro v657 w2 ho3 hb hg_ hnew_;clear hg_ hnew_;(first|rw [← Ny656.out] at ho3|(simp only [Int.reduceToNat] at ho3;rw [← Ny656.out] at ho3));have n0_:=A0_ (Kd.R_lower (Kd.R_newM (M:=fun k_=>(w.heap.size≤k_)) ho3 (below_size y2b_) (fun k_ h_=>h_)) (below_size y2b_));have n1_:=A0_ (blk_below (g:=gb655) (o:=.cells #[.slice none 0 0,.int .i64 0,.int .i64 0,.int .i64 0] 28 (0,0)) (bd_ BK655.out) hb);have n2_:=A0_ (below_step y2b_ hb);clear BK655;clear HB;have HO658:=n0_;have BK655:=n1_;have HB:=n2_;clear n0_ n1_ n2_;clear hb ho3;obtain ⟨Ao4,co4,eo4⟩:=Kd.R_slice HO658.out;subst eo4)|((with_reducible refine gate_dst (N:=5) rfl ?_);refine Kd.R_lit (Kd.int .i64) _ 3 ?hg (N:=5) ?hd (xs:=([0,300,0,(-300)]:List Int)) (inner:=[.int .i64 0,.int .i64 300,.int .i64 0,.int .i64 (-300)]) (ok:=fun _=>True) (okp:=fun _=>True) ?hr ?hp (fun _ hk=>hk) trivial (Below.refl _ _) (Nat.le_refl _) (by simp) ?_;(case hd=>rfl);(case hg=>rfl);(case hr=>first|(go_simp;done)|(go_simp;rfl));(case hp=>exact (Reps.one (show Kd.M (Kd.int .i64) _ _ _ 0 [.int .i64 0] from rfl) (Reps.one (show Kd.M (Kd.int .i64) _ _ _ 300 [.int .i64 300] from rfl) (Reps.one (show Kd.M (Kd.int .i64) _ _ _ 0 [.int .i64 0] from rfl) (Reps.one (show Kd.M (Kd.int .i64) _ _ _ (-300) [.int .i64 (-300)] from rfl) (Reps.none _ _))))));intro v660 w5 ho6 hb hg_ hnew_;clear hg_ hnew_;(first|rw [← Ny659.out] at ho6|(simp only [Int.reduceToNat] at ho6;rw [← Ny659.out] at ho6));have n0_:=A0_ (Kd.R_elder' (rd_ HO658.out) (Kd.R_base ho6) hb);have n1_:=A0_ (Kd.R_lower (Kd.R_new' (Kd.R_newM (M:=fun k_=>(w.heap.size≤k_)) ho6 (below_size y2b_) (fun k_ h_=>h_)) (Kd.R_lt (rd_ HO658.out))) (below_size y2b_));have n2_:=A0_ (blk_below (g:=gb655) (o:=.cells #[.slice none 0 0,.int .i64 0,.int .i64 0,.int .i64 0] 28 (0,0)) (bd_ BK655.out) hb);have n3_:=A0_ (below_step y2b_ hb);clear HO658;clear BK655;clear HB;have HO658:=n0_;have HO661:=n1_;have BK655:=n2_;have HB:=n3_;clear n0_ n1_ n2_ n3_;clear hb ho6;obtain ⟨Ao7,co7,eo7⟩:=Kd.R_slice HO661.out;subst eo7)|((with_reducible refine gate_dst (N:=7) rfl ?_);refine Kd.N_lit k83 _ 83 ?hg (N':=7) ?hd (xs:=([(⟨(⟨360,1⟩:S24),0,y656⟩:S83),(⟨(⟨27,1⟩:S24),0,y659⟩:S83)]:List (S83))) (inner:=[.int .i64 360,.int .i64 1,.int .i64 0,.slice Ao4 y656.length co4,.int .i64 27,.int .i64 1,.int .i64 0,.slice Ao7 y659.length co7]) (ok:=(fun k_=>(w.heap.size≤k_)∧k_≠gb655)) (okp:=(fun k_=>(w.heap.size≤k_)∧k_≠gb655)) ?hr ?hp (fun _ hk=>hk) ((show ∀ k_,w5.heap.size≤k_→(fun k_=>(w.heap.size≤k_)∧k_≠gb655) k_ from fun k_ hk=>⟨(Nat.le_trans (below_size y2b_) hk),Kd.freshB (g:=gb655) (o:=.cells #[.slice none 0 0,.int .i64 0,.int .i64 0,.int .i64 0] 28 (0,0)) (bd_ BK655.out) k_ hk⟩) _ (Nat.le_refl _)) (Below.refl _ _) (Nat.le_refl _) (by simp) ?_;(case hd=>rfl);(case hg=>rfl);(case hr=>first|(go_simp;done)|(go_simp;rfl));(case hp=>exact (Reps.c4 (show Kd.FK k83 _ _ (⟨(⟨360,1⟩:S24),0,y656⟩:S83) [.int .i64 360,.int .i64 1,.int .i64 0,.slice Ao4 y656.length co4] from (k83_mkF _ _ (⟨(⟨360,1⟩:S24),0,y656⟩:S83) (Kd.R_reads' (Kd.R_mono (ok':=(fun k_=>(w.heap.size≤k_)∧k_≠gb655)) (Kd.R_types (HO658.out) BK655.out (by decide)) (fun k_ hk=>⟨hk.1.1.1,hk.2⟩))).2.1 (Kd.R_F (Kd.R_mono (ok':=(fun k_=>(w.heap.size≤k_)∧k_≠gb655)) (Kd.R_types (HO658.out) BK655.out (by decide)) (fun k_ hk=>⟨hk.1.1.1,hk.2⟩))))) (Reps.c4 (show Kd.FK k83 _ _ (⟨(⟨27,1⟩:S24),0,y659⟩:S83) [.int .i64 27,.int .i64 1,.int .i64 0,.slice Ao7 y659.length co7] from (k83_mkF _ _ (⟨(⟨27,1⟩:S24),0,y659⟩:S83) (Kd.R_reads' (Kd.R_mono (ok':=(fun k_=>(w.heap.size≤k_)∧k_≠gb655)) (Kd.R_types (HO661.out) BK655.out (by decide)) (fun k_ hk=>⟨hk.1.1.1,hk.2⟩))).2.1 (Kd.R_F (Kd.R_mono (ok':=(fun k_=>(w.heap.size≤k_)∧k_≠gb655)) (Kd.R_types (HO661.out) BK655.out (by decide)) (fun k_ hk=>⟨hk.1.1.1,hk.2⟩))))) (Reps.none _ _))));intro v663 w8 ho9 hb hg_ hnew_;clear hg_ hnew_;(first|rw [← Ny662.out] at ho9|(simp only [Int.reduceToNat] at ho9;rw [← Ny662.out] at ho9));have n0_:=A0_ (Kd.N_lower ho9 (below_size y2b_));have n1_:=A0_ (blk_below (g:=gb655) (o:=.cells #[.slice none 0 0,.int .i64 0,.int .i64 0,.int .i64 0] 28 (0,0)) (bd_ BK655.out) hb);have n2_:=A0_ (below_step y2b_ hb);clear BK655;clear HB;clear HO658;clear HO661;have HO664:=n0_;have BK655:=n1_;have HB:=n2_;clear n0_ n1_ n2_;clear hb ho9;obtain ⟨Ao10,co10,eo10⟩:=Kd.N_slice HO664.out;subst eo10;obtain ⟨hcz11_0,hcz11_1,hcz11_2,hcz11_3,hfz11_0,hfz11_1,hfz11_2,hfz11_3⟩:=bq4_ BK655.out))
 refine bodyPost_ret (results_cell_row rfl _ _ gb655 28 #[.slice Ao10 y662.length co10,.int .i64 6000,.int .i64 1,.int .i64 1000] (0,0) _ rfl (by (with_reducible repeat (first|refine blk_drewN ?_ _|refine blk_drew ?_|refine blk_alloc ?_ _));refine blk_put (cs:=#[.slice Ao10 y662.length co10,.int .i64 6000,.int .i64 1,.int .i64 0]) ?_ 3 _ rfl;(with_reducible repeat (first|refine blk_drewN ?_ _|refine blk_drew ?_|refine blk_alloc ?_ _));refine blk_put (cs:=#[.slice Ao10 y662.length co10,.int .i64 6000,.int .i64 0,.int .i64 0]) ?_ 2 _ rfl;(with_reducible repeat (first|refine blk_drewN ?_ _|refine blk_drew ?_|refine blk_alloc ?_ _));refine blk_put (cs:=#[.slice Ao10 y662.length co10,.int .i64 0,.int .i64 0,.int .i64 0]) ?_ 1 _ rfl;(with_reducible repeat (first|refine blk_drewN ?_ _|refine blk_drew ?_|refine blk_alloc ?_ _));refine blk_put (cs:=#[.slice none 0 0,.int .i64 0,.int .i64 0,.int .i64 0]) ?_ 0 _ rfl;(with_reducible repeat (first|refine blk_drewN ?_ _|refine blk_drew ?_|refine blk_alloc ?_ _));exact BK655.out) Tryz.underlying28 rfl (by kernel_rfl)) rfl ?_
 exact ⟨_,y3_,by (with_reducible repeat (first|apply Kd.N_alloc|apply Kd.N_drewN|apply Kd.N_drew));exact Kd.N_mono (Kd.N_far (p:=⟨gb655,3,none⟩) (Kd.N_far (p:=⟨gb655,2,none⟩) (Kd.N_far (p:=⟨gb655,1,none⟩) (Kd.N_far (p:=⟨gb655,0,none⟩) (Kd.N_mono HO664.out (fun k_ hk=>(⟨hk,hk.2⟩:_∧k_≠gb655))) (fun _ hk=>hk.2) (.slice Ao10 y662.length co10)) (fun _ hk=>hk.2) (.int .i64 6000)) (fun _ hk=>hk.2) (.int .i64 1)) (fun _ hk=>hk.2) (.int .i64 1000)) (fun _ hk=>hk.1.1),y2b_⟩
def tl_A.f  : Option (Int × Int × Int):=some (100,10800,0)
set_option maxHeartbeats 8000000 in
set_option maxRecDepth 100000 in
theorem tl_A.calls  (r1:Int) (r2:Int) (r3:Int) (w:World) (h:tl_A.f  = some (r1,r2,r3)):
  Calls Tryz.prog 49 #[] w fun e w'=>e=.returned (.agg #[.int .i64 r1,.int .i64 r2,.int .i64 r3])∧Below w.heap.size w w':=by
 have hu89:=Tryz.underlying89
 have HB:=A0_ (Below.refl w.heap.size w)
 have H:(some (100,10800,0))=some (r1,r2,r3):=h
 clear h
 simp only [Option.some.injEq,Prod.mk.injEq] at H
 obtain ⟨rfl,rfl,rfl⟩:=H
 go_enter Tryz.func49,Tryz.ntmps49
 go_wp2_with (first|((with_reducible refine gate_dst (N:=0) rfl ?_);refine box_event ?hg (N:=0) ?hd (cs:=#[.int .i64 0,.int .i64 0,.int .i64 0]) (t:=89) ?hr ?_;(case hd=>rfl);(case hg=>rfl);(case hr=>first|(go_simp;done)|(go_simp;rfl));intro gb665 hg w1 hbox hb;have n0_:=A0_ (below_step y0_ hb);have n1_:=A0_ (hbox);have n2_:=A0_ ((by rw [hg];exact (below_size y0_):w.heap.size≤gb665));have n3_:=A0_ ((by rw [hg];exact (below_size y0_):w.heap.size≤gb665));clear HB;have HB:=n0_;have BK665:=n1_;have GW665:=n2_;have GE665:=n3_;clear n0_ n1_ n2_ n3_;clear hb hbox hg;obtain ⟨hcz2_0,hcz2_1,hcz2_2,hfz2_0,hfz2_1,hfz2_2⟩:=bq3_ BK665.out))
 refine bodyPost_ret (results_cell_row rfl _ _ gb665 89 #[.int .i64 100,.int .i64 10800,.int .i64 0] (0,0) _ rfl (by (with_reducible repeat (first|refine blk_drewN ?_ _|refine blk_drew ?_|refine blk_alloc ?_ _));refine blk_put (cs:=#[.int .i64 100,.int .i64 10800,.int .i64 0]) ?_ 2 _ rfl;(with_reducible repeat (first|refine blk_drewN ?_ _|refine blk_drew ?_|refine blk_alloc ?_ _));refine blk_put (cs:=#[.int .i64 100,.int .i64 0,.int .i64 0]) ?_ 1 _ rfl;(with_reducible repeat (first|refine blk_drewN ?_ _|refine blk_drew ?_|refine blk_alloc ?_ _));refine blk_put (cs:=#[.int .i64 0,.int .i64 0,.int .i64 0]) ?_ 0 _ rfl;(with_reducible repeat (first|refine blk_drewN ?_ _|refine blk_drew ?_|refine blk_alloc ?_ _));exact BK665.out) Tryz.underlying89 rfl (by kernel_rfl)) rfl ?_
 exact ⟨y3_,(by repeat (first|(with_reducible first|exact HB.out|apply below_alloc|apply pw_below_drewN|apply below_drew1|refine below_set ?_ GE665.out)|exact HB.out))⟩
def tl_B.f  : Option (Int × Int × Int):=some (1000,5,2)
set_option maxHeartbeats 8000000 in
set_option maxRecDepth 100000 in
theorem tl_B.calls  (r1:Int) (r2:Int) (r3:Int) (w:World) (h:tl_B.f  = some (r1,r2,r3)):
  Calls Tryz.prog 50 #[] w fun e w'=>e=.returned (.agg #[.int .i64 r1,.int .i64 r2,.int .i64 r3])∧Below w.heap.size w w':=by
 have hu89:=Tryz.underlying89
 have HB:=A0_ (Below.refl w.heap.size w)
 have H:(some (1000,5,2))=some (r1,r2,r3):=h
 clear h
 simp only [Option.some.injEq,Prod.mk.injEq] at H
 obtain ⟨rfl,rfl,rfl⟩:=H
 go_enter Tryz.func50,Tryz.ntmps50
 go_wp2_with (first|((with_reducible refine gate_dst (N:=0) rfl ?_);refine box_event ?hg (N:=0) ?hd (cs:=#[.int .i64 0,.int .i64 0,.int .i64 0]) (t:=89) ?hr ?_;(case hd=>rfl);(case hg=>rfl);(case hr=>first|(go_simp;done)|(go_simp;rfl));intro gb666 hg w1 hbox hb;have n0_:=A0_ (below_step y0_ hb);have n1_:=A0_ (hbox);have n2_:=A0_ ((by rw [hg];exact (below_size y0_):w.heap.size≤gb666));have n3_:=A0_ ((by rw [hg];exact (below_size y0_):w.heap.size≤gb666));clear HB;have HB:=n0_;have BK666:=n1_;have GW666:=n2_;have GE666:=n3_;clear n0_ n1_ n2_ n3_;clear hb hbox hg;obtain ⟨hcz2_0,hcz2_1,hcz2_2,hfz2_0,hfz2_1,hfz2_2⟩:=bq3_ BK666.out))
 refine bodyPost_ret (results_cell_row rfl _ _ gb666 89 #[.int .i64 1000,.int .i64 5,.int .i64 2] (0,0) _ rfl (by (with_reducible repeat (first|refine blk_drewN ?_ _|refine blk_drew ?_|refine blk_alloc ?_ _));refine blk_put (cs:=#[.int .i64 1000,.int .i64 5,.int .i64 0]) ?_ 2 _ rfl;(with_reducible repeat (first|refine blk_drewN ?_ _|refine blk_drew ?_|refine blk_alloc ?_ _));refine blk_put (cs:=#[.int .i64 1000,.int .i64 0,.int .i64 0]) ?_ 1 _ rfl;(with_reducible repeat (first|refine blk_drewN ?_ _|refine blk_drew ?_|refine blk_alloc ?_ _));refine blk_put (cs:=#[.int .i64 0,.int .i64 0,.int .i64 0]) ?_ 0 _ rfl;(with_reducible repeat (first|refine blk_drewN ?_ _|refine blk_drew ?_|refine blk_alloc ?_ _));exact BK666.out) Tryz.underlying89 rfl (by kernel_rfl)) rfl ?_
 exact ⟨y3_,(by repeat (first|(with_reducible first|exact HB.out|apply below_alloc|apply pw_below_drewN|apply below_drew1|refine below_set ?_ GE666.out)|exact HB.out))⟩
end Go.Proofs.YtaidphhkhddemaaGreatDoor.PSky
end
section
namespace Go.Proofs.YtaidphhkhddemaaGreatDoor.PSky
open Go.RowKit Go.Proofs.YtaidphhkhddemaaGreatDoorW.PrintWords Go.Proofs.YtaidphhkhddemaaGreatDoorW.PrintLast Go.Proofs.YtaidphhkhddemaaGreatDoorW.PrintMore
def ss_lunar.f (k:Nat) (l0_0:List S83) (a0_1 a0_2 a0_3 a0_4:Int):Option Int:=
 (ss_sun.f k l0_0 a0_1 a0_2 a0_3 a0_4).bind fun s=>(ss_moon.f k l0_0 a0_1 a0_2 a0_3 a0_4).bind fun m=>some (wrap64 (m - s))
set_option maxRecDepth 100000 in
set_option maxHeartbeats 800000 in
theorem ss_lunar.calls (k:Nat) (A0_0:Option Addr) (c0_0:Nat) (l0_0:List S83) (a0_1 a0_2 a0_3 a0_4:Int) (r:Int) (w:World)
  (hr0_0:Kd.C k83 w A0_0 l0_0.length l0_0) (hc0_0:l0_0.length≤c0_0) (h:ss_lunar.f k l0_0 a0_1 a0_2 a0_3 a0_4=some r):
  Calls Tryz.prog 125 #[.agg #[.slice A0_0 l0_0.length c0_0,.int .i64 a0_1,.int .i64 a0_2,.int .i64 a0_3,.int .i64 a0_4]] w fun e w'=>e=.returned (.int .i64 r)∧Below w.heap.size w w':=by
 have HR:=A0_ hr0_0;have HC:=A0_ hc0_0;clear hr0_0 hc0_0
 obtain ⟨s,hs0,h1⟩:=Option.bind_eq_some_iff.mp h
 obtain ⟨m,hm0,h2⟩:=Option.bind_eq_some_iff.mp h1
 obtain rfl:=Option.some.inj h2
 have HS:=A0_ hs0;have HM:=A0_ hm0;clear h h1 h2 hs0 hm0
 have hmf:∀ (fn:Fn) (first cap:Array Value) (w:World),(Instr.makeFunc fn first cap).run Tryz.prog w=.ok (.func fn first cap) w:=fun _ _ _ _=>rfl
 have i0:∀ x0 x1 w,(Instr.index 162 (.agg #[x0,x1]) (.int .i64 0)).run Tryz.prog w=.ok x0 w:=fun _ _ _=>by kernel_rfl
 have i1:∀ x0 x1 w,(Instr.index 162 (.agg #[x0,x1]) (.int .i64 1)).run Tryz.prog w=.ok x1 w:=fun _ _ _=>by kernel_rfl
 go_enter Tryz.func125,Tryz.ntmps125
 go_wp2
 refine wp_loop_rounds 3 ?_
 rw [rounds_succ]
 go_wp2_with fail
 refine (ss_sun.calls k A0_0 c0_0 l0_0 a0_1 a0_2 a0_3 a0_4 s _ ?h1 HC.out HS.out).mono ?_
 case h1=>exact Kd.C_alloc (Kd.C_alloc HR.out _) _
 rintro e w1 ⟨rfl,hb⟩
 have hz:w.heap.size+1<w1.heap.size:=by have:=hb.size;simp at this;omega
 have hc0:w1.cell? ⟨w.heap.size+1,0,none⟩=some (.int .i64 0):=(hb.cell (p:=⟨w.heap.size+1,0,none⟩) (by simp)).trans (by go_simp)
 have hc1:w1.cell? ⟨w.heap.size+1,1,none⟩=some (.int .i64 0):=(hb.cell (p:=⟨w.heap.size+1,1,none⟩) (by simp)).trans (by go_simp)
 have hf0:w1.frozen? ⟨w.heap.size+1,0,none⟩=false:=(hb.frozen (p:=⟨w.heap.size+1,0,none⟩) (by simp)).trans (by go_simp)
 have hf1:w1.frozen? ⟨w.heap.size+1,1,none⟩=false:=(hb.frozen (p:=⟨w.heap.size+1,1,none⟩) (by simp)).trans (by go_simp)
 have HB:=A0_ (below_step (below_alloc (below_alloc (Below.refl _ _) _) _) hb)
 clear hb
 go_wp2_with fail
 rw [rounds_succ]
 go_wp2_with fail
 have HB2:=A0_ (below_set (g:=w.heap.size+1) (j:=0) (v:=.int .i64 s) HB.out (Nat.le_succ _))
 refine (ss_moon.calls k A0_0 c0_0 l0_0 a0_1 a0_2 a0_3 a0_4 m _ ?h2 HC.out HM.out).mono ?_
 case h2=>exact Kd.C_below HR.out HB2.out
 rintro e w2 ⟨rfl,hb⟩
 have hz2:w.heap.size+1<w2.heap.size:=by have:=hb.size;simp at this;omega
 have hd0:w2.cell? ⟨w.heap.size+1,0,none⟩=some (.int .i64 s):=(hb.cell (p:=⟨w.heap.size+1,0,none⟩) (by simp;omega)).trans (by go_simp)
 have hd1:w2.cell? ⟨w.heap.size+1,1,none⟩=some (.int .i64 0):=(hb.cell (p:=⟨w.heap.size+1,1,none⟩) (by simp;omega)).trans (by go_simp)
 have hg1:w2.frozen? ⟨w.heap.size+1,1,none⟩=false:=(hb.frozen (p:=⟨w.heap.size+1,1,none⟩) (by simp;omega)).trans (by go_simp)
 have HB3:=A0_ (below_step HB2.out hb)
 clear hb
 go_wp2_with fail
 rw [rounds_succ]
 go_wp2;go_ret
 exact ⟨rfl,below_set HB3.out (Nat.le_succ _)⟩
end Go.Proofs.YtaidphhkhddemaaGreatDoor.PSky
end
section
namespace Go.Proofs.YtaidphhkhddemaaGreatDoor.PSky
open Go.RowKit Go.Proofs.YtaidphhkhddemaaGreatDoorW.PrintWords Go.Proofs.YtaidphhkhddemaaGreatDoorW.PrintLast Go.Proofs.YtaidphhkhddemaaGreatDoorW.PrintMore
attribute [local go_sem] max2_int min2_int max_two min_two max_three min_three max_four min_four
set_option linter.unusedVariables false
set_option linter.unusedSimpArgs false
def at_has_new.f (k:Nat) (l0_0:List (S83)) (a0_1:Int) (a0_2:Int) (a0_3:Int) (a0_4:Int)  : Option (Bool):=(ss_lunar.f k l0_0 a0_1 a0_2 a0_3 (wrap64 (a0_4 - 1))).bind fun t637=>((ss_lunar.f k l0_0 a0_1 a0_2 a0_3 a0_4).bind fun t638=>((sky_passes.f t637 t638).bind fun t639=>(some t639)))
set_option maxHeartbeats 8000000 in
set_option maxRecDepth 100000 in
theorem at_has_new.calls (k:Nat) (A0_0:Option Addr) (c0_0:Nat) (l0_0:List (S83)) (a0_1:Int) (a0_2:Int) (a0_3:Int) (a0_4:Int)  (r:Bool) (w:World) (hr0_0:Kd.C k83 w A0_0 l0_0.length l0_0) (hc0_0:l0_0.length≤c0_0) (h:at_has_new.f k l0_0 a0_1 a0_2 a0_3 a0_4=some r):
  Calls Tryz.prog 90 #[.agg #[.slice A0_0 l0_0.length c0_0,.int .i64 a0_1,.int .i64 a0_2,.int .i64 a0_3,.int .i64 a0_4],.iface 128 (.agg #[])] w fun e w'=>e=.returned (.bool r)∧Below w.heap.size w w':=by
 have hta118:∀ (W:World),(Instr.typeAssert (.iface 128 (.agg #[])) 125 118 true).run Tryz.prog W=.ok (.tuple #[(.agg #[(.int .i64 0),(.int .i64 0)]),.bool false]) W:=fun _=>by kernel_rfl
 have hta129:∀ (W:World),(Instr.typeAssert (.iface 128 (.agg #[])) 125 129 true).run Tryz.prog W=.ok (.tuple #[(.agg #[]),.bool false]) W:=fun _=>by kernel_rfl
 have hu96:=Tryz.underlying96
 have hu28:=Tryz.underlying28
 have hu118:=Tryz.underlying118
 have hu129:=Tryz.underlying129
 have HR0_0:=A0_ hr0_0;have HC0_0:=A0_ hc0_0;clear hr0_0 hc0_0
 have HB:=A0_ (Below.refl w.heap.size w)
 have H:((ss_lunar.f k l0_0 a0_1 a0_2 a0_3 (wrap64 (a0_4 - 1))).bind fun t637=>((ss_lunar.f k l0_0 a0_1 a0_2 a0_3 a0_4).bind fun t638=>((sky_passes.f t637 t638).bind fun t639=>(some t639))))=some r:=h
 clear h;replace H:=Option.bind_eq_some_iff.mp H;obtain ⟨t637,A30,H⟩:=H
 replace H:((ss_lunar.f k l0_0 a0_1 a0_2 a0_3 a0_4).bind fun t638=>((sky_passes.f t637 t638).bind fun t639=>(some t639)))=some r:=H
 have A3:=A0_ A30;clear A30;replace H:=Option.bind_eq_some_iff.mp H;obtain ⟨t638,A40,H⟩:=H
 replace H:((sky_passes.f t637 t638).bind fun t639=>(some t639))=some r:=H
 have A4:=A0_ A40;clear A40;replace H:=Option.bind_eq_some_iff.mp H;obtain ⟨t639,A50,H⟩:=H
 replace H:(some t639)=some r:=H
 have A5:=A0_ A50;clear A50;obtain rfl:=Option.some.inj H
 go_enter Tryz.func90,Tryz.ntmps90
 try go_wp2_with (first|((with_reducible refine gate_dst (N:=2) rfl ?_);refine box_event ?hg (N:=2) ?hd (cs:=#[.slice A0_0 l0_0.length c0_0,.int .i64 a0_1,.int .i64 a0_2,.int .i64 a0_3,.int .i64 a0_4]) (t:=96) ?hr ?_;(case hd=>rfl);(case hg=>rfl);(case hr=>first|(go_simp;done)|(go_simp;rfl));intro gb635 hg w6 hbox hb;have n0_:=A0_ (below_step y0_ hb);have n1_:=A0_ (hbox);have n2_:=A0_ ((by rw [hg];exact (below_size y0_):w.heap.size≤gb635));have n3_:=A0_ ((by rw [hg];exact (below_size y0_):w.heap.size≤gb635));clear HB;have HB:=n0_;have BK635:=n1_;have GW635:=n2_;have GE635:=n3_;clear n0_ n1_ n2_ n3_;clear hb hbox hg;obtain ⟨hcz7_0,hcz7_1,hcz7_2,hcz7_3,hcz7_4,hfz7_0,hfz7_1,hfz7_2,hfz7_3,hfz7_4⟩:=bq5_ BK635.out)|((with_reducible refine gate_dst (N:=5) rfl ?_);refine box_event ?hg (N:=5) ?hd (cs:=#[.slice none 0 0,.int .i64 0,.int .i64 0,.int .i64 0,.int .i64 0]) (t:=96) ?hr ?_;(case hd=>rfl);(case hg=>rfl);(case hr=>first|(go_simp;done)|(go_simp;rfl));intro gb636 hg w8 hbox hb;have n0_:=A0_ (blk_below (g:=gb635) (o:=.cells #[.slice A0_0 l0_0.length c0_0,.int .i64 a0_1,.int .i64 a0_2,.int .i64 a0_3,.int .i64 a0_4] 96 (0,0)) (bd_ BK635.out) hb);have n1_:=A0_ (below_step y49_ hb);have n2_:=A0_ (hbox);have n3_:=A0_ ((by rw [hg];exact (below_size y49_):w.heap.size≤gb636));have n4_:=A0_ ((by rw [hg];exact (below_size y49_):w.heap.size≤gb636));have n5_:=A0_ ((by rw [hg];exact Nat.ne_of_lt (blk_lt (g:=gb635) (o:=.cells #[.slice A0_0 l0_0.length c0_0,.int .i64 a0_1,.int .i64 a0_2,.int .i64 a0_3,.int .i64 a0_4] 96 (0,0)) (bd_ BK635.out)):gb635≠gb636));have n6_:=A0_ ((by rw [hg];exact Nat.ne_of_gt (blk_lt (g:=gb635) (o:=.cells #[.slice A0_0 l0_0.length c0_0,.int .i64 a0_1,.int .i64 a0_2,.int .i64 a0_3,.int .i64 a0_4] 96 (0,0)) (bd_ BK635.out)):gb636≠gb635));clear BK635;clear HB;have BK635:=n0_;have HB:=n1_;have BK636:=n2_;have GW636:=n3_;have GE636:=n4_;have NB635_636:=n5_;have NB636_635:=n6_;clear n0_ n1_ n2_ n3_ n4_ n5_ n6_;clear hb hbox hg;have hnb9:=NB636_635.out;have hnc9:=NB635_636.out;obtain ⟨hcz10_0,hcz10_1,hcz10_2,hcz10_3,hcz10_4,hfz10_0,hfz10_1,hfz10_2,hfz10_3,hfz10_4⟩:=bq5_ BK636.out))
 have n0_:Aside0 ((((((w8.setCell ⟨gb636,0,none⟩ (.slice A0_0 l0_0.length c0_0)).setCell ⟨gb636,1,none⟩ (.int .i64 a0_1)).setCell ⟨gb636,2,none⟩ (.int .i64 a0_2)).setCell ⟨gb636,3,none⟩ (.int .i64 a0_3)).setCell ⟨gb636,4,none⟩ (.int .i64 (wrap64 (a0_4 - 1)))).heap[gb635]?=some (.cells #[.slice A0_0 l0_0.length c0_0,.int .i64 a0_1,.int .i64 a0_2,.int .i64 a0_3,.int .i64 a0_4] 96 (0,0))):=⟨by (with_reducible repeat (first|refine blk_drewN ?_ _|refine blk_drew ?_|refine blk_alloc ?_ _));refine blk_far ?_ NB635_636.out _;(with_reducible repeat (first|refine blk_drewN ?_ _|refine blk_drew ?_|refine blk_alloc ?_ _));refine blk_far ?_ NB635_636.out _;(with_reducible repeat (first|refine blk_drewN ?_ _|refine blk_drew ?_|refine blk_alloc ?_ _));refine blk_far ?_ NB635_636.out _;(with_reducible repeat (first|refine blk_drewN ?_ _|refine blk_drew ?_|refine blk_alloc ?_ _));refine blk_far ?_ NB635_636.out _;(with_reducible repeat (first|refine blk_drewN ?_ _|refine blk_drew ?_|refine blk_alloc ?_ _));refine blk_far ?_ NB635_636.out _;(with_reducible repeat (first|refine blk_drewN ?_ _|refine blk_drew ?_|refine blk_alloc ?_ _));exact BK635.out⟩
 have n1_:Aside0 ((((((w8.setCell ⟨gb636,0,none⟩ (.slice A0_0 l0_0.length c0_0)).setCell ⟨gb636,1,none⟩ (.int .i64 a0_1)).setCell ⟨gb636,2,none⟩ (.int .i64 a0_2)).setCell ⟨gb636,3,none⟩ (.int .i64 a0_3)).setCell ⟨gb636,4,none⟩ (.int .i64 (wrap64 (a0_4 - 1)))).heap[gb636]?=some (.cells #[.slice A0_0 l0_0.length c0_0,.int .i64 a0_1,.int .i64 a0_2,.int .i64 a0_3,.int .i64 (wrap64 (a0_4 - 1))] 96 (0,0))):=⟨by (with_reducible repeat (first|refine blk_drewN ?_ _|refine blk_drew ?_|refine blk_alloc ?_ _));refine blk_put (cs:=#[.slice A0_0 l0_0.length c0_0,.int .i64 a0_1,.int .i64 a0_2,.int .i64 a0_3,.int .i64 0]) ?_ 4 _ rfl;(with_reducible repeat (first|refine blk_drewN ?_ _|refine blk_drew ?_|refine blk_alloc ?_ _));refine blk_put (cs:=#[.slice A0_0 l0_0.length c0_0,.int .i64 a0_1,.int .i64 a0_2,.int .i64 0,.int .i64 0]) ?_ 3 _ rfl;(with_reducible repeat (first|refine blk_drewN ?_ _|refine blk_drew ?_|refine blk_alloc ?_ _));refine blk_put (cs:=#[.slice A0_0 l0_0.length c0_0,.int .i64 a0_1,.int .i64 0,.int .i64 0,.int .i64 0]) ?_ 2 _ rfl;(with_reducible repeat (first|refine blk_drewN ?_ _|refine blk_drew ?_|refine blk_alloc ?_ _));refine blk_put (cs:=#[.slice A0_0 l0_0.length c0_0,.int .i64 0,.int .i64 0,.int .i64 0,.int .i64 0]) ?_ 1 _ rfl;(with_reducible repeat (first|refine blk_drewN ?_ _|refine blk_drew ?_|refine blk_alloc ?_ _));refine blk_put (cs:=#[.slice none 0 0,.int .i64 0,.int .i64 0,.int .i64 0,.int .i64 0]) ?_ 0 _ rfl;(with_reducible repeat (first|refine blk_drewN ?_ _|refine blk_drew ?_|refine blk_alloc ?_ _));exact BK636.out⟩
 have n2_:Aside0 (Below w.heap.size w (((((w8.setCell ⟨gb636,0,none⟩ (.slice A0_0 l0_0.length c0_0)).setCell ⟨gb636,1,none⟩ (.int .i64 a0_1)).setCell ⟨gb636,2,none⟩ (.int .i64 a0_2)).setCell ⟨gb636,3,none⟩ (.int .i64 a0_3)).setCell ⟨gb636,4,none⟩ (.int .i64 (wrap64 (a0_4 - 1))))):=⟨y3t_⟩
 (try clear BK635);(try clear BK636);(try clear HB)
 generalize (((((w8.setCell ⟨gb636,0,none⟩ (.slice A0_0 l0_0.length c0_0)).setCell ⟨gb636,1,none⟩ (.int .i64 a0_1)).setCell ⟨gb636,2,none⟩ (.int .i64 a0_2)).setCell ⟨gb636,3,none⟩ (.int .i64 a0_3)).setCell ⟨gb636,4,none⟩ (.int .i64 (wrap64 (a0_4 - 1))))=w11 at n0_ n1_ n2_ ⊢
 have BK635:=n0_;have BK636:=n1_;have HB:=n2_;clear n0_ n1_ n2_;have n0_:=A0_ (blk_drew BK635.out);have n1_:=A0_ (blk_drew BK636.out);have n2_:=A0_ (below_drew1 HB.out);clear BK635;clear BK636;clear HB;have BK635:=n0_;have BK636:=n1_;have HB:=n2_;clear n0_ n1_ n2_
 refine start_ (n:=6) (S:=fun w'=>w'.cell? ⟨gb636,0,none⟩=some (.slice A0_0 l0_0.length c0_0)∧w'.cell? ⟨gb636,1,none⟩=some (.int .i64 a0_1)∧w'.cell? ⟨gb636,2,none⟩=some (.int .i64 a0_2)∧w'.cell? ⟨gb636,3,none⟩=some (.int .i64 a0_3)∧w'.cell? ⟨gb636,4,none⟩=some (.int .i64 (wrap64 (a0_4 - 1)))∧w'.cell? ⟨gb635,0,none⟩=some (.slice A0_0 l0_0.length c0_0)∧w'.cell? ⟨gb635,1,none⟩=some (.int .i64 a0_1)∧w'.cell? ⟨gb635,2,none⟩=some (.int .i64 a0_2)∧w'.cell? ⟨gb635,3,none⟩=some (.int .i64 a0_3)∧w'.cell? ⟨gb635,4,none⟩=some (.int .i64 a0_4)) (ds:=[]) #[false,false,false,false,false,false] (by kernel_rfl) rfl rfl ⟨(blk_cell BK636.out 0).trans rfl,(blk_cell BK636.out 1).trans rfl,(blk_cell BK636.out 2).trans rfl,(blk_cell BK636.out 3).trans rfl,(blk_cell BK636.out 4).trans rfl,(blk_cell BK635.out 0).trans rfl,(blk_cell BK635.out 1).trans rfl,(blk_cell BK635.out 2).trans rfl,(blk_cell BK635.out 3).trans rfl,(blk_cell BK635.out 4).trans rfl⟩ (fun hHeld=>?_)
 generalize w11.drew=w12 at BK635 BK636 HB hHeld ⊢
 refine take_ (i:=0) (N:=some 52) (v:=?_) (a':=?_) #[true,false,false,false,false,false] rfl rfl (by kernel_rfl) (fun _ _ _ h=>h) (Or.inl ⟨by rfl,?_⟩) hHeld ?_ ?_
 rotate_left
 ·rintro w' ⟨s0,s1,s2,s3,s4,s5,s6,s7,s8,s9⟩
  go_simp
  with_reducible rfl
 rotate_left
 ·simp only [Act.put,List.setIfInBounds_toArray,List.set_cons_zero,List.set_cons_succ,i64_w,i32_w]
  rfl
 refine take_ (i:=2) (N:=some 54) (v:=?_) (a':=?_) #[true,false,true,false,false,false] rfl rfl (by kernel_rfl) (fun _ _ _ h=>h) (Or.inl ⟨by rfl,?_⟩) hHeld ?_ ?_
 rotate_left
 ·rintro w' ⟨s0,s1,s2,s3,s4,s5,s6,s7,s8,s9⟩
  go_simp
  with_reducible rfl
 rotate_left
 ·simp only [Act.put,List.setIfInBounds_toArray,List.set_cons_zero,List.set_cons_succ,i64_w,i32_w]
  rfl
 refine one_ (i:=1) (N:=some 53) #[true,true,true,false,false,false] rfl rfl (by kernel_rfl) (by decide) (fun K hK=>?_)
 refine goes_ Tryz.func125 (by kernel_rfl) rfl #[.agg #[.slice A0_0 l0_0.length c0_0,.int .i64 a0_1,.int .i64 a0_2,.int .i64 a0_3,.int .i64 (wrap64 (a0_4 - 1))]] (by rfl) rfl rfl y1_ ?_
 with_reducible refine (ss_lunar.calls k _ _ l0_0 a0_1 a0_2 a0_3 (wrap64 (a0_4 - 1)) t637 _ ?side1 ?side2 A3.out).mono ?_
 (case side1=>repeat (first|exact (Kd.C_below HR0_0.out HB.out)|(with_reducible refine Kd.C_alloc ?_ _)|(with_reducible refine Kd.C_drewN ?_ _)|(with_reducible refine Kd.C_drew ?_)))
 (case side2=>exact HC0_0.out)
 rintro e w13 ⟨rfl,hb⟩
 refine ⟨_,rfl,?_⟩
 have n0_:=A0_ (blk_below (g:=gb635) (o:=.cells #[.slice A0_0 l0_0.length c0_0,.int .i64 a0_1,.int .i64 a0_2,.int .i64 a0_3,.int .i64 a0_4] 96 (0,0)) (bd_ BK635.out) hb);have n1_:=A0_ (blk_below (g:=gb636) (o:=.cells #[.slice A0_0 l0_0.length c0_0,.int .i64 a0_1,.int .i64 a0_2,.int .i64 a0_3,.int .i64 (wrap64 (a0_4 - 1))] 96 (0,0)) (bd_ BK636.out) hb);have n2_:=A0_ (below_step y3t_ hb);clear BK635;clear BK636;clear HB;have BK635:=n0_;have BK636:=n1_;have HB:=n2_;clear n0_ n1_ n2_;(try clear hb);(try clear hb2);(try clear hk);(try clear hi)
 refine hK.out _ _ ⟨(blk_cell BK636.out 0).trans rfl,(blk_cell BK636.out 1).trans rfl,(blk_cell BK636.out 2).trans rfl,(blk_cell BK636.out 3).trans rfl,(blk_cell BK636.out 4).trans rfl,(blk_cell BK635.out 0).trans rfl,(blk_cell BK635.out 1).trans rfl,(blk_cell BK635.out 2).trans rfl,(blk_cell BK635.out 3).trans rfl,(blk_cell BK635.out 4).trans rfl⟩ (fun hHeld=>?_)
 clear hK K
 refine norm_ (a':=?_) ?_ ?_
 rotate_left
 ·show Act.put _ (some 53) _=_
  simp only [Act.put,List.setIfInBounds_toArray,List.set_cons_zero,List.set_cons_succ,i64_w,i32_w]
  rfl
 refine one_ (i:=3) (N:=some 55) #[true,true,true,true,false,false] rfl rfl (by kernel_rfl) (by decide) (fun K hK=>?_)
 refine goes_ Tryz.func125 (by kernel_rfl) rfl #[.agg #[.slice A0_0 l0_0.length c0_0,.int .i64 a0_1,.int .i64 a0_2,.int .i64 a0_3,.int .i64 a0_4]] (by rfl) rfl rfl y1_ ?_
 with_reducible refine (ss_lunar.calls k _ _ l0_0 a0_1 a0_2 a0_3 a0_4 t638 _ ?side1 ?side2 A4.out).mono ?_
 (case side1=>repeat (first|exact (Kd.C_below HR0_0.out HB.out)|(with_reducible refine Kd.C_alloc ?_ _)|(with_reducible refine Kd.C_drewN ?_ _)|(with_reducible refine Kd.C_drew ?_)))
 (case side2=>exact HC0_0.out)
 rintro e w14 ⟨rfl,hb⟩
 refine ⟨_,rfl,?_⟩
 have n0_:=A0_ (blk_below (g:=gb635) (o:=.cells #[.slice A0_0 l0_0.length c0_0,.int .i64 a0_1,.int .i64 a0_2,.int .i64 a0_3,.int .i64 a0_4] 96 (0,0)) (bd_ BK635.out) hb);have n1_:=A0_ (blk_below (g:=gb636) (o:=.cells #[.slice A0_0 l0_0.length c0_0,.int .i64 a0_1,.int .i64 a0_2,.int .i64 a0_3,.int .i64 (wrap64 (a0_4 - 1))] 96 (0,0)) (bd_ BK636.out) hb);have n2_:=A0_ (below_step y3t_ hb);clear BK635;clear BK636;clear HB;have BK635:=n0_;have BK636:=n1_;have HB:=n2_;clear n0_ n1_ n2_;(try clear hb);(try clear hb2);(try clear hk);(try clear hi)
 refine hK.out _ _ ⟨(blk_cell BK636.out 0).trans rfl,(blk_cell BK636.out 1).trans rfl,(blk_cell BK636.out 2).trans rfl,(blk_cell BK636.out 3).trans rfl,(blk_cell BK636.out 4).trans rfl,(blk_cell BK635.out 0).trans rfl,(blk_cell BK635.out 1).trans rfl,(blk_cell BK635.out 2).trans rfl,(blk_cell BK635.out 3).trans rfl,(blk_cell BK635.out 4).trans rfl⟩ (fun hHeld=>?_)
 clear hK K
 refine norm_ (a':=?_) ?_ ?_
 rotate_left
 ·show Act.put _ (some 55) _=_
  simp only [Act.put,List.setIfInBounds_toArray,List.set_cons_zero,List.set_cons_succ,i64_w,i32_w]
  rfl
 refine one_ (i:=4) (N:=some 56) #[true,true,true,true,true,false] rfl rfl (by kernel_rfl) (by decide) (fun K hK=>?_)
 refine goes_ Tryz.func124 (by kernel_rfl) rfl #[.int .i64 t637,.int .i64 t638] (by rfl) rfl rfl y1_ ?_
 with_reducible refine (sky_passes.calls t637 t638 t639 _ A5.out).mono ?_
 rintro e w' ⟨rfl,⟨nd,rfl⟩⟩
 refine ⟨_,rfl,?_⟩
 refine hK.out _ _ ⟨(blk_cell BK636.out 0).trans rfl,(blk_cell BK636.out 1).trans rfl,(blk_cell BK636.out 2).trans rfl,(blk_cell BK636.out 3).trans rfl,(blk_cell BK636.out 4).trans rfl,(blk_cell BK635.out 0).trans rfl,(blk_cell BK635.out 1).trans rfl,(blk_cell BK635.out 2).trans rfl,(blk_cell BK635.out 3).trans rfl,(blk_cell BK635.out 4).trans rfl⟩ (fun hHeld=>?_)
 clear hK K
 refine norm_ (a':=?_) ?_ ?_
 rotate_left
 ·show Act.put _ (some 56) _=_
  simp only [Act.put,List.setIfInBounds_toArray,List.set_cons_zero,List.set_cons_succ,i64_w,i32_w]
  rfl
 refine pure_ (i:=5) (N:=some 4) (v:=?_) (a':=?_) #[true,true,true,true,true,true] rfl rfl (by kernel_rfl) (fun _ _ _ h=>h) (Or.inl ⟨by rfl,?_⟩) ?_ ?_
 rotate_left
 ·intro w'
  go_simp
  with_reducible rfl
 rotate_left
 ·simp only [Act.put,List.setIfInBounds_toArray,List.set_cons_zero,List.set_cons_succ,i64_w,i32_w]
  rfl
 refine done_ (by kernel_rfl) ?_
 try go_wp2
 go_ret
 exact ⟨y3_,y3t_⟩
def at_has_full.f (k:Nat) (l0_0:List (S83)) (a0_1:Int) (a0_2:Int) (a0_3:Int) (a0_4:Int)  : Option (Bool):=(ss_lunar.f k l0_0 a0_1 a0_2 a0_3 (wrap64 (a0_4 - 1))).bind fun t643=>((ss_lunar.f k l0_0 a0_1 a0_2 a0_3 a0_4).bind fun t644=>((sky_passes.f (wrap64 (t643 - 10800)) (wrap64 (t644 - 10800))).bind fun t645=>(some t645)))
def at_has_full.T9:Bool × List (List Nat × List Nat):=(true,[([],[]),([0],[0]),([1],[1]),([],[]),([3,1],[3]),([4],[4]),([2,5,4],[2,5]),([6,6,0,1,2,3,4,5,6],[6])])
def at_has_full.B9:List Nat:=[0,1,3,0,11,27,63,127]
theorem at_has_full.tab9:rtab .any (opsOf Tryz.f90 9)=at_has_full.T9:=by kernel_rfl
theorem at_has_full.bits9:waitsOk at_has_full.T9.2 at_has_full.B9=true:=by kernel_rfl
set_option maxHeartbeats 8000000 in
set_option maxRecDepth 100000 in
theorem at_has_full.calls (k:Nat) (A0_0:Option Addr) (c0_0:Nat) (l0_0:List (S83)) (a0_1:Int) (a0_2:Int) (a0_3:Int) (a0_4:Int)  (r:Bool) (w:World) (hr0_0:Kd.C k83 w A0_0 l0_0.length l0_0) (hc0_0:l0_0.length≤c0_0) (h:at_has_full.f k l0_0 a0_1 a0_2 a0_3 a0_4=some r):
  Calls Tryz.prog 90 #[.agg #[.slice A0_0 l0_0.length c0_0,.int .i64 a0_1,.int .i64 a0_2,.int .i64 a0_3,.int .i64 a0_4],.iface 129 (.agg #[])] w fun e w'=>e=.returned (.bool r)∧Below w.heap.size w w':=by
 have hta118:∀ (W:World),(Instr.typeAssert (.iface 129 (.agg #[])) 125 118 true).run Tryz.prog W=.ok (.tuple #[(.agg #[(.int .i64 0),(.int .i64 0)]),.bool false]) W:=fun _=>by kernel_rfl
 have hta129:∀ (W:World),(Instr.typeAssert (.iface 129 (.agg #[])) 125 129 true).run Tryz.prog W=.ok (.tuple #[(.agg #[]),.bool true]) W:=fun _=>by kernel_rfl
 have hu96:=Tryz.underlying96
 have hu28:=Tryz.underlying28
 have hu118:=Tryz.underlying118
 have hu129:=Tryz.underlying129
 have HR0_0:=A0_ hr0_0;have HC0_0:=A0_ hc0_0;clear hr0_0 hc0_0
 have HB:=A0_ (Below.refl w.heap.size w)
 have H:((ss_lunar.f k l0_0 a0_1 a0_2 a0_3 (wrap64 (a0_4 - 1))).bind fun t643=>((ss_lunar.f k l0_0 a0_1 a0_2 a0_3 a0_4).bind fun t644=>((sky_passes.f (wrap64 (t643 - 10800)) (wrap64 (t644 - 10800))).bind fun t645=>(some t645))))=some r:=h
 clear h;replace H:=Option.bind_eq_some_iff.mp H;obtain ⟨t643,A30,H⟩:=H
 replace H:((ss_lunar.f k l0_0 a0_1 a0_2 a0_3 a0_4).bind fun t644=>((sky_passes.f (wrap64 (t643 - 10800)) (wrap64 (t644 - 10800))).bind fun t645=>(some t645)))=some r:=H
 have A3:=A0_ A30;clear A30;replace H:=Option.bind_eq_some_iff.mp H;obtain ⟨t644,A40,H⟩:=H
 replace H:((sky_passes.f (wrap64 (t643 - 10800)) (wrap64 (t644 - 10800))).bind fun t645=>(some t645))=some r:=H
 have A4:=A0_ A40;clear A40;replace H:=Option.bind_eq_some_iff.mp H;obtain ⟨t645,A50,H⟩:=H
 replace H:(some t645)=some r:=H
 have A5:=A0_ A50;clear A50;obtain rfl:=Option.some.inj H
 go_enter Tryz.func90,Tryz.ntmps90
 try go_wp2_with (first|((with_reducible refine gate_dst (N:=2) rfl ?_);refine box_event ?hg (N:=2) ?hd (cs:=#[.slice A0_0 l0_0.length c0_0,.int .i64 a0_1,.int .i64 a0_2,.int .i64 a0_3,.int .i64 a0_4]) (t:=96) ?hr ?_;(case hd=>rfl);(case hg=>rfl);(case hr=>first|(go_simp;done)|(go_simp;rfl));intro gb640 hg w6 hbox hb;have n0_:=A0_ (below_step y0_ hb);have n1_:=A0_ (hbox);have n2_:=A0_ ((by rw [hg];exact (below_size y0_):w.heap.size≤gb640));have n3_:=A0_ ((by rw [hg];exact (below_size y0_):w.heap.size≤gb640));clear HB;have HB:=n0_;have BK640:=n1_;have GW640:=n2_;have GE640:=n3_;clear n0_ n1_ n2_ n3_;clear hb hbox hg;obtain ⟨hcz7_0,hcz7_1,hcz7_2,hcz7_3,hcz7_4,hfz7_0,hfz7_1,hfz7_2,hfz7_3,hfz7_4⟩:=bq5_ BK640.out)|((with_reducible refine gate_dst (N:=5) rfl ?_);refine box_event ?hg (N:=5) ?hd (cs:=#[.slice none 0 0,.int .i64 0,.int .i64 0,.int .i64 0,.int .i64 0]) (t:=96) ?hr ?_;(case hd=>rfl);(case hg=>rfl);(case hr=>first|(go_simp;done)|(go_simp;rfl));intro gb641 hg w8 hbox hb;have n0_:=A0_ (blk_below (g:=gb640) (o:=.cells #[.slice A0_0 l0_0.length c0_0,.int .i64 a0_1,.int .i64 a0_2,.int .i64 a0_3,.int .i64 a0_4] 96 (0,0)) (bd_ BK640.out) hb);have n1_:=A0_ (below_step y48_ hb);have n2_:=A0_ (hbox);have n3_:=A0_ ((by rw [hg];exact (below_size y48_):w.heap.size≤gb641));have n4_:=A0_ ((by rw [hg];exact (below_size y48_):w.heap.size≤gb641));have n5_:=A0_ ((by rw [hg];exact Nat.ne_of_lt (blk_lt (g:=gb640) (o:=.cells #[.slice A0_0 l0_0.length c0_0,.int .i64 a0_1,.int .i64 a0_2,.int .i64 a0_3,.int .i64 a0_4] 96 (0,0)) (bd_ BK640.out)):gb640≠gb641));have n6_:=A0_ ((by rw [hg];exact Nat.ne_of_gt (blk_lt (g:=gb640) (o:=.cells #[.slice A0_0 l0_0.length c0_0,.int .i64 a0_1,.int .i64 a0_2,.int .i64 a0_3,.int .i64 a0_4] 96 (0,0)) (bd_ BK640.out)):gb641≠gb640));clear BK640;clear HB;have BK640:=n0_;have HB:=n1_;have BK641:=n2_;have GW641:=n3_;have GE641:=n4_;have NB640_641:=n5_;have NB641_640:=n6_;clear n0_ n1_ n2_ n3_ n4_ n5_ n6_;clear hb hbox hg;have hnb9:=NB641_640.out;have hnc9:=NB640_641.out;obtain ⟨hcz10_0,hcz10_1,hcz10_2,hcz10_3,hcz10_4,hfz10_0,hfz10_1,hfz10_2,hfz10_3,hfz10_4⟩:=bq5_ BK641.out)|((with_reducible refine gate_dst (N:=9) rfl ?_);refine box_event ?hg (N:=9) ?hd (cs:=#[]) (t:=129) ?hr ?_;(case hd=>rfl);(case hg=>rfl);(case hr=>first|(go_simp;done)|(go_simp;rfl));intro gb642 hg w11 hbox hb;have n0_:=A0_ (blk_below (g:=gb640) (o:=.cells #[.slice A0_0 l0_0.length c0_0,.int .i64 a0_1,.int .i64 a0_2,.int .i64 a0_3,.int .i64 a0_4] 96 (0,0)) y28_ hb);have n1_:=A0_ (blk_below (g:=gb641) (o:=.cells #[.slice A0_0 l0_0.length c0_0,.int .i64 a0_1,.int .i64 a0_2,.int .i64 a0_3,.int .i64 (wrap64 (a0_4 - 1))] 96 (0,0)) yu_ hb);have n2_:=A0_ (below_step y41_ hb);have n3_:=A0_ (hbox);have n4_:=A0_ ((by rw [hg];exact (below_size y41_):w.heap.size≤gb642));have n5_:=A0_ ((by rw [hg];exact (below_size y41_):w.heap.size≤gb642));have n6_:=A0_ ((by rw [hg];exact Nat.ne_of_lt (blk_lt (g:=gb640) (o:=.cells #[.slice A0_0 l0_0.length c0_0,.int .i64 a0_1,.int .i64 a0_2,.int .i64 a0_3,.int .i64 a0_4] 96 (0,0)) y28_):gb640≠gb642));have n7_:=A0_ ((by rw [hg];exact Nat.ne_of_gt (blk_lt (g:=gb640) (o:=.cells #[.slice A0_0 l0_0.length c0_0,.int .i64 a0_1,.int .i64 a0_2,.int .i64 a0_3,.int .i64 a0_4] 96 (0,0)) y28_):gb642≠gb640));have n8_:=A0_ ((by rw [hg];exact Nat.ne_of_lt (blk_lt (g:=gb641) (o:=.cells #[.slice A0_0 l0_0.length c0_0,.int .i64 a0_1,.int .i64 a0_2,.int .i64 a0_3,.int .i64 (wrap64 (a0_4 - 1))] 96 (0,0)) yu_):gb641≠gb642));have n9_:=A0_ ((by rw [hg];exact Nat.ne_of_gt (blk_lt (g:=gb641) (o:=.cells #[.slice A0_0 l0_0.length c0_0,.int .i64 a0_1,.int .i64 a0_2,.int .i64 a0_3,.int .i64 (wrap64 (a0_4 - 1))] 96 (0,0)) yu_):gb642≠gb641));clear BK640;clear BK641;clear HB;have BK640:=n0_;have BK641:=n1_;have HB:=n2_;have BK642:=n3_;have GW642:=n4_;have GE642:=n5_;have NB640_642:=n6_;have NB642_640:=n7_;have NB641_642:=n8_;have NB642_641:=n9_;clear n0_ n1_ n2_ n3_ n4_ n5_ n6_ n7_ n8_ n9_;clear hb hbox hg))
 have n0_:=A0_ (blk_drew BK640.out);have n1_:=A0_ (blk_drew BK641.out);have n2_:=A0_ (blk_drew BK642.out);have n3_:=A0_ (below_drew1 HB.out);clear BK640;clear BK641;clear BK642;clear HB;have BK640:=n0_;have BK641:=n1_;have BK642:=n2_;have HB:=n3_;clear n0_ n1_ n2_ n3_
 refine start_ (n:=8) (S:=fun w'=>w'.cell? ⟨gb641,0,none⟩=some (.slice A0_0 l0_0.length c0_0)∧w'.cell? ⟨gb641,1,none⟩=some (.int .i64 a0_1)∧w'.cell? ⟨gb641,2,none⟩=some (.int .i64 a0_2)∧w'.cell? ⟨gb641,3,none⟩=some (.int .i64 a0_3)∧w'.cell? ⟨gb641,4,none⟩=some (.int .i64 (wrap64 (a0_4 - 1)))∧w'.cell? ⟨gb640,0,none⟩=some (.slice A0_0 l0_0.length c0_0)∧w'.cell? ⟨gb640,1,none⟩=some (.int .i64 a0_1)∧w'.cell? ⟨gb640,2,none⟩=some (.int .i64 a0_2)∧w'.cell? ⟨gb640,3,none⟩=some (.int .i64 a0_3)∧w'.cell? ⟨gb640,4,none⟩=some (.int .i64 a0_4)) (ds:=[]) #[false,false,false,false,false,false,false,false] (by kernel_rfl) rfl rfl ⟨(blk_cell BK641.out 0).trans rfl,(blk_cell BK641.out 1).trans rfl,(blk_cell BK641.out 2).trans rfl,(blk_cell BK641.out 3).trans rfl,(blk_cell BK641.out 4).trans rfl,(blk_cell BK640.out 0).trans rfl,(blk_cell BK640.out 1).trans rfl,(blk_cell BK640.out 2).trans rfl,(blk_cell BK640.out 3).trans rfl,(blk_cell BK640.out 4).trans rfl⟩ (fun hHeld=>?_);refine with_tabW at_has_full.tab9 at_has_full.bits9 (fun HT_ HW_=>?_)
 generalize w11.drew=w12 at BK640 BK641 BK642 HB hHeld ⊢
 refine ta_ (i:=0) (N:=some 45) ?_;refine ta_ (i:=3) (N:=some 48) ?_
 refine one_ (i:=1) (N:=some 46) #[true,true,false,true,false,false,false,false] rfl rfl (one_of HT_.out (by kernel_rfl)) (by decide) (fun K hK=>?_)
 refine goes_ Tryz.func125 (by kernel_rfl) rfl #[.agg #[.slice A0_0 l0_0.length c0_0,.int .i64 a0_1,.int .i64 a0_2,.int .i64 a0_3,.int .i64 (wrap64 (a0_4 - 1))]] (by rfl) rfl rfl y1_ ?_
 with_reducible refine (ss_lunar.calls k _ _ l0_0 a0_1 a0_2 a0_3 (wrap64 (a0_4 - 1)) t643 _ ?side1 ?side2 A3.out).mono ?_
 (case side1=>repeat (first|exact (Kd.C_below HR0_0.out HB.out)|(with_reducible refine Kd.C_alloc ?_ _)|(with_reducible refine Kd.C_drewN ?_ _)|(with_reducible refine Kd.C_drew ?_)))
 (case side2=>exact HC0_0.out)
 rintro e w13 ⟨rfl,hb⟩
 refine ⟨_,rfl,?_⟩
 have n0_:=A0_ (blk_below (g:=gb640) (o:=.cells #[.slice A0_0 l0_0.length c0_0,.int .i64 a0_1,.int .i64 a0_2,.int .i64 a0_3,.int .i64 a0_4] 96 (0,0)) (bd_ BK640.out) hb);have n1_:=A0_ (blk_below (g:=gb641) (o:=.cells #[.slice A0_0 l0_0.length c0_0,.int .i64 a0_1,.int .i64 a0_2,.int .i64 a0_3,.int .i64 (wrap64 (a0_4 - 1))] 96 (0,0)) (bd_ BK641.out) hb);have n2_:=A0_ (blk_below (g:=gb642) (o:=.cells #[] 129 (0,0)) (bd_ BK642.out) hb);have n3_:=A0_ (below_step y3y_ hb);clear BK640;clear BK641;clear BK642;clear HB;have BK640:=n0_;have BK641:=n1_;have BK642:=n2_;have HB:=n3_;clear n0_ n1_ n2_ n3_;(try clear hb);(try clear hb2);(try clear hk);(try clear hi)
 refine hK.out _ _ ⟨(blk_cell BK641.out 0).trans rfl,(blk_cell BK641.out 1).trans rfl,(blk_cell BK641.out 2).trans rfl,(blk_cell BK641.out 3).trans rfl,(blk_cell BK641.out 4).trans rfl,(blk_cell BK640.out 0).trans rfl,(blk_cell BK640.out 1).trans rfl,(blk_cell BK640.out 2).trans rfl,(blk_cell BK640.out 3).trans rfl,(blk_cell BK640.out 4).trans rfl⟩ (fun hHeld=>?_)
 clear hK K
 refine norm_ (a':=?_) ?_ ?_
 rotate_left
 ·show Act.put _ (some 46) _=_
  simp only [Act.put,List.setIfInBounds_toArray,List.set_cons_zero,List.set_cons_succ,i64_w,i32_w]
  rfl
 refine pu_ (i:=2) (N:=some 47) ?_
 refine one_ (i:=4) (N:=some 49) #[true,true,true,true,true,false,false,false] rfl rfl (one_of HT_.out (by kernel_rfl)) (by decide) (fun K hK=>?_)
 refine goes_ Tryz.func125 (by kernel_rfl) rfl #[.agg #[.slice A0_0 l0_0.length c0_0,.int .i64 a0_1,.int .i64 a0_2,.int .i64 a0_3,.int .i64 a0_4]] (by rfl) rfl rfl y1_ ?_
 with_reducible refine (ss_lunar.calls k _ _ l0_0 a0_1 a0_2 a0_3 a0_4 t644 _ ?side1 ?side2 A4.out).mono ?_
 (case side1=>repeat (first|exact (Kd.C_below HR0_0.out HB.out)|(with_reducible refine Kd.C_alloc ?_ _)|(with_reducible refine Kd.C_drewN ?_ _)|(with_reducible refine Kd.C_drew ?_)))
 (case side2=>exact HC0_0.out)
 rintro e w14 ⟨rfl,hb⟩
 refine ⟨_,rfl,?_⟩
 have n0_:=A0_ (blk_below (g:=gb640) (o:=.cells #[.slice A0_0 l0_0.length c0_0,.int .i64 a0_1,.int .i64 a0_2,.int .i64 a0_3,.int .i64 a0_4] 96 (0,0)) (bd_ BK640.out) hb);have n1_:=A0_ (blk_below (g:=gb641) (o:=.cells #[.slice A0_0 l0_0.length c0_0,.int .i64 a0_1,.int .i64 a0_2,.int .i64 a0_3,.int .i64 (wrap64 (a0_4 - 1))] 96 (0,0)) (bd_ BK641.out) hb);have n2_:=A0_ (blk_below (g:=gb642) (o:=.cells #[] 129 (0,0)) (bd_ BK642.out) hb);have n3_:=A0_ (below_step y3y_ hb);clear BK640;clear BK641;clear BK642;clear HB;have BK640:=n0_;have BK641:=n1_;have BK642:=n2_;have HB:=n3_;clear n0_ n1_ n2_ n3_;(try clear hb);(try clear hb2);(try clear hk);(try clear hi)
 refine hK.out _ _ ⟨(blk_cell BK641.out 0).trans rfl,(blk_cell BK641.out 1).trans rfl,(blk_cell BK641.out 2).trans rfl,(blk_cell BK641.out 3).trans rfl,(blk_cell BK641.out 4).trans rfl,(blk_cell BK640.out 0).trans rfl,(blk_cell BK640.out 1).trans rfl,(blk_cell BK640.out 2).trans rfl,(blk_cell BK640.out 3).trans rfl,(blk_cell BK640.out 4).trans rfl⟩ (fun hHeld=>?_)
 clear hK K
 refine norm_ (a':=?_) ?_ ?_
 rotate_left
 ·show Act.put _ (some 49) _=_
  simp only [Act.put,List.setIfInBounds_toArray,List.set_cons_zero,List.set_cons_succ,i64_w,i32_w]
  rfl
 refine pu_ (i:=5) (N:=some 50) ?_
 refine one_ (i:=6) (N:=some 51) #[true,true,true,true,true,true,true,false] rfl rfl (one_of HT_.out (by kernel_rfl)) (by decide) (fun K hK=>?_)
 refine goes_ Tryz.func124 (by kernel_rfl) rfl #[.int .i64 (wrap64 (t643 - 10800)),.int .i64 (wrap64 (t644 - 10800))] (by rfl) rfl rfl y1_ ?_
 with_reducible refine (sky_passes.calls (wrap64 (t643 - 10800)) (wrap64 (t644 - 10800)) t645 _ A5.out).mono ?_
 rintro e w' ⟨rfl,⟨nd,rfl⟩⟩
 refine ⟨_,rfl,?_⟩
 refine hK.out _ _ ⟨(blk_cell BK641.out 0).trans rfl,(blk_cell BK641.out 1).trans rfl,(blk_cell BK641.out 2).trans rfl,(blk_cell BK641.out 3).trans rfl,(blk_cell BK641.out 4).trans rfl,(blk_cell BK640.out 0).trans rfl,(blk_cell BK640.out 1).trans rfl,(blk_cell BK640.out 2).trans rfl,(blk_cell BK640.out 3).trans rfl,(blk_cell BK640.out 4).trans rfl⟩ (fun hHeld=>?_)
 clear hK K
 refine norm_ (a':=?_) ?_ ?_
 rotate_left
 ·show Act.put _ (some 51) _=_
  simp only [Act.put,List.setIfInBounds_toArray,List.set_cons_zero,List.set_cons_succ,i64_w,i32_w]
  rfl
 refine pu_ (i:=7) (N:=some 4) ?_
 refine done_ (done_of HT_.out (by kernel_rfl)) ?_
 try go_wp2
 go_ret
 exact ⟨y3_,y3y_⟩
def at_has_meet.f (k:Nat) (l0_0:List (S83)) (a0_1:Int) (a0_2:Int) (a0_3:Int) (a0_4:Int) (a1_0:Int) (a1_1:Int):Option (Bool):=(ss_ahead.f k l0_0 a0_1 a0_2 a0_3 (wrap64 (a0_4 - 1)) a1_0 a1_1).bind fun t649=>((ss_ahead.f k l0_0 a0_1 a0_2 a0_3 a0_4 a1_0 a1_1).bind fun t650=>((sky_passes.f t649 t650).bind fun t651=>(if t651=true then (some true) else ((sky_passes.f (wrap64 (-t649)) (wrap64 (-t650))).bind fun t652=>(some t652)))))
def at_has_meet.T5:Bool × List (List Nat × List Nat):=(true,[([],[]),([],[]),([1],[1]),([],[]),([3],[3]),([0,2,4],[0,2,4]),([],[]),([],[]),([7],[7]),([],[]),([9],[9]),([6,8,10,5],[6,8,10]),([5,11,0,1,2,3,4,5],[5]),([11,12,0,1,2,3,4,5,6,7,8,9,10,11,12],[11])])
def at_has_meet.B5:List Nat:=[0,0,2,0,8,31,0,0,128,0,512,2047,4095,8191]
theorem at_has_meet.tab5:rtab .any (opsOf Tryz.f90 5)=at_has_meet.T5:=by kernel_rfl
theorem at_has_meet.bits5:waitsOk at_has_meet.T5.2 at_has_meet.B5=true:=by kernel_rfl
set_option maxHeartbeats 8000000 in
set_option maxRecDepth 100000 in
theorem at_has_meet.calls (k:Nat) (A0_0:Option Addr) (c0_0:Nat) (l0_0:List (S83)) (a0_1:Int) (a0_2:Int) (a0_3:Int) (a0_4:Int) (a1_0:Int) (a1_1:Int) (r:Bool) (w:World) (hr0_0:Kd.C k83 w A0_0 l0_0.length l0_0) (hc0_0:l0_0.length≤c0_0) (h:at_has_meet.f k l0_0 a0_1 a0_2 a0_3 a0_4 a1_0 a1_1=some r):
  Calls Tryz.prog 90 #[.agg #[.slice A0_0 l0_0.length c0_0,.int .i64 a0_1,.int .i64 a0_2,.int .i64 a0_3,.int .i64 a0_4],.iface 118 (.agg #[.int .i64 a1_0,.int .i64 a1_1])] w fun e w'=>e=.returned (.bool r)∧Below w.heap.size w w':=by
 have hta118:∀ (x0 x1:Value) (W:World),(Instr.typeAssert (.iface 118 (.agg #[x0,x1])) 125 118 true).run Tryz.prog W=.ok (.tuple #[(.agg #[x0,x1]),.bool true]) W:=fun _ _ _=>by kernel_rfl
 have hta129:∀ (x0 x1:Value) (W:World),(Instr.typeAssert (.iface 118 (.agg #[x0,x1])) 125 129 true).run Tryz.prog W=.ok (.tuple #[(.agg #[]),.bool false]) W:=fun _ _ _=>by kernel_rfl
 have hu96:=Tryz.underlying96
 have hu28:=Tryz.underlying28
 have hu118:=Tryz.underlying118
 have hu129:=Tryz.underlying129
 have HR0_0:=A0_ hr0_0;have HC0_0:=A0_ hc0_0;clear hr0_0 hc0_0
 have HB:=A0_ (Below.refl w.heap.size w)
 have H:((ss_ahead.f k l0_0 a0_1 a0_2 a0_3 (wrap64 (a0_4 - 1)) a1_0 a1_1).bind fun t649=>((ss_ahead.f k l0_0 a0_1 a0_2 a0_3 a0_4 a1_0 a1_1).bind fun t650=>((sky_passes.f t649 t650).bind fun t651=>(if t651=true then (some true) else ((sky_passes.f (wrap64 (-t649)) (wrap64 (-t650))).bind fun t652=>(some t652))))))=some r:=h
 clear h;replace H:=Option.bind_eq_some_iff.mp H;obtain ⟨t649,A30,H⟩:=H
 replace H:((ss_ahead.f k l0_0 a0_1 a0_2 a0_3 a0_4 a1_0 a1_1).bind fun t650=>((sky_passes.f t649 t650).bind fun t651=>(if t651=true then (some true) else ((sky_passes.f (wrap64 (-t649)) (wrap64 (-t650))).bind fun t652=>(some t652)))))=some r:=H
 have A3:=A0_ A30;clear A30;replace H:=Option.bind_eq_some_iff.mp H;obtain ⟨t650,A40,H⟩:=H
 replace H:((sky_passes.f t649 t650).bind fun t651=>(if t651=true then (some true) else ((sky_passes.f (wrap64 (-t649)) (wrap64 (-t650))).bind fun t652=>(some t652))))=some r:=H
 have A4:=A0_ A40;clear A40;replace H:=Option.bind_eq_some_iff.mp H;obtain ⟨t651,A50,H⟩:=H
 replace H:(if t651=true then (some true) else ((sky_passes.f (wrap64 (-t649)) (wrap64 (-t650))).bind fun t652=>(some t652)))=some r:=H
 have A5:=A0_ A50;clear A50
 by_cases c6:t651=true
 ·subst c6
  have H1:(some true)=some r:=by rw [if_pos rfl] at H;exact H
  clear H;have H:=H1;clear H1;obtain rfl:=Option.some.inj H
  go_enter Tryz.func90,Tryz.ntmps90
  try go_wp2_with (first|((with_reducible refine gate_dst (N:=2) rfl ?_);refine box_event ?hg (N:=2) ?hd (cs:=#[.slice A0_0 l0_0.length c0_0,.int .i64 a0_1,.int .i64 a0_2,.int .i64 a0_3,.int .i64 a0_4]) (t:=96) ?hr ?_;(case hd=>rfl);(case hg=>rfl);(case hr=>first|(go_simp;done)|(go_simp;rfl));intro gb646 hg w7 hbox hb;have n0_:=A0_ (below_step y0_ hb);have n1_:=A0_ (hbox);have n2_:=A0_ ((by rw [hg];exact (below_size y0_):w.heap.size≤gb646));have n3_:=A0_ ((by rw [hg];exact (below_size y0_):w.heap.size≤gb646));clear HB;have HB:=n0_;have BK646:=n1_;have GW646:=n2_;have GE646:=n3_;clear n0_ n1_ n2_ n3_;clear hb hbox hg;obtain ⟨hcz8_0,hcz8_1,hcz8_2,hcz8_3,hcz8_4,hfz8_0,hfz8_1,hfz8_2,hfz8_3,hfz8_4⟩:=bq5_ BK646.out)|((with_reducible refine gate_dst (N:=5) rfl ?_);refine box_event ?hg (N:=5) ?hd (cs:=#[.slice none 0 0,.int .i64 0,.int .i64 0,.int .i64 0,.int .i64 0]) (t:=96) ?hr ?_;(case hd=>rfl);(case hg=>rfl);(case hr=>first|(go_simp;done)|(go_simp;rfl));intro gb647 hg w9 hbox hb;have n0_:=A0_ (blk_below (g:=gb646) (o:=.cells #[.slice A0_0 l0_0.length c0_0,.int .i64 a0_1,.int .i64 a0_2,.int .i64 a0_3,.int .i64 a0_4] 96 (0,0)) (bd_ BK646.out) hb);have n1_:=A0_ (below_step y2v_ hb);have n2_:=A0_ (hbox);have n3_:=A0_ ((by rw [hg];exact (below_size y2v_):w.heap.size≤gb647));have n4_:=A0_ ((by rw [hg];exact (below_size y2v_):w.heap.size≤gb647));have n5_:=A0_ ((by rw [hg];exact Nat.ne_of_lt (blk_lt (g:=gb646) (o:=.cells #[.slice A0_0 l0_0.length c0_0,.int .i64 a0_1,.int .i64 a0_2,.int .i64 a0_3,.int .i64 a0_4] 96 (0,0)) (bd_ BK646.out)):gb646≠gb647));have n6_:=A0_ ((by rw [hg];exact Nat.ne_of_gt (blk_lt (g:=gb646) (o:=.cells #[.slice A0_0 l0_0.length c0_0,.int .i64 a0_1,.int .i64 a0_2,.int .i64 a0_3,.int .i64 a0_4] 96 (0,0)) (bd_ BK646.out)):gb647≠gb646));clear BK646;clear HB;have BK646:=n0_;have HB:=n1_;have BK647:=n2_;have GW647:=n3_;have GE647:=n4_;have NB646_647:=n5_;have NB647_646:=n6_;clear n0_ n1_ n2_ n3_ n4_ n5_ n6_;clear hb hbox hg;have hnb10:=NB647_646.out;have hnc10:=NB646_647.out;obtain ⟨hcz11_0,hcz11_1,hcz11_2,hcz11_3,hcz11_4,hfz11_0,hfz11_1,hfz11_2,hfz11_3,hfz11_4⟩:=bq5_ BK647.out)|((with_reducible refine gate_dst (N:=6) rfl ?_);refine box_event ?hg (N:=6) ?hd (cs:=#[.int .i64 0,.int .i64 0]) (t:=118) ?hr ?_;(case hd=>rfl);(case hg=>rfl);(case hr=>first|(go_simp;done)|(go_simp;rfl));intro gb648 hg w12 hbox hb;have n0_:=A0_ (blk_below (g:=gb646) (o:=.cells #[.slice A0_0 l0_0.length c0_0,.int .i64 a0_1,.int .i64 a0_2,.int .i64 a0_3,.int .i64 a0_4] 96 (0,0)) y8_ hb);have n1_:=A0_ (blk_below (g:=gb647) (o:=.cells #[.slice A0_0 l0_0.length c0_0,.int .i64 a0_1,.int .i64 a0_2,.int .i64 a0_3,.int .i64 (wrap64 (a0_4 - 1))] 96 (0,0)) y4_ hb);have n2_:=A0_ (below_step y2q_ hb);have n3_:=A0_ (hbox);have n4_:=A0_ ((by rw [hg];exact (below_size y2q_):w.heap.size≤gb648));have n5_:=A0_ ((by rw [hg];exact (below_size y2q_):w.heap.size≤gb648));have n6_:=A0_ ((by rw [hg];exact Nat.ne_of_lt (blk_lt (g:=gb646) (o:=.cells #[.slice A0_0 l0_0.length c0_0,.int .i64 a0_1,.int .i64 a0_2,.int .i64 a0_3,.int .i64 a0_4] 96 (0,0)) y8_):gb646≠gb648));have n7_:=A0_ ((by rw [hg];exact Nat.ne_of_gt (blk_lt (g:=gb646) (o:=.cells #[.slice A0_0 l0_0.length c0_0,.int .i64 a0_1,.int .i64 a0_2,.int .i64 a0_3,.int .i64 a0_4] 96 (0,0)) y8_):gb648≠gb646));have n8_:=A0_ ((by rw [hg];exact Nat.ne_of_lt (blk_lt (g:=gb647) (o:=.cells #[.slice A0_0 l0_0.length c0_0,.int .i64 a0_1,.int .i64 a0_2,.int .i64 a0_3,.int .i64 (wrap64 (a0_4 - 1))] 96 (0,0)) y4_):gb647≠gb648));have n9_:=A0_ ((by rw [hg];exact Nat.ne_of_gt (blk_lt (g:=gb647) (o:=.cells #[.slice A0_0 l0_0.length c0_0,.int .i64 a0_1,.int .i64 a0_2,.int .i64 a0_3,.int .i64 (wrap64 (a0_4 - 1))] 96 (0,0)) y4_):gb648≠gb647));clear BK646;clear BK647;clear HB;have BK646:=n0_;have BK647:=n1_;have HB:=n2_;have BK648:=n3_;have GW648:=n4_;have GE648:=n5_;have NB646_648:=n6_;have NB648_646:=n7_;have NB647_648:=n8_;have NB648_647:=n9_;clear n0_ n1_ n2_ n3_ n4_ n5_ n6_ n7_ n8_ n9_;clear hb hbox hg;have hnb13:=NB648_646.out;have hnc13:=NB646_648.out;have hnb14:=NB648_647.out;have hnc14:=NB647_648.out;obtain ⟨hcz15_0,hcz15_1,hfz15_0,hfz15_1⟩:=bq2_ BK648.out))
  have n0_:Aside0 (((w12.setCell ⟨gb648,0,none⟩ (.int .i64 a1_0)).setCell ⟨gb648,1,none⟩ (.int .i64 a1_1)).heap[gb646]?=some (.cells #[.slice A0_0 l0_0.length c0_0,.int .i64 a0_1,.int .i64 a0_2,.int .i64 a0_3,.int .i64 a0_4] 96 (0,0))):=⟨by (with_reducible repeat (first|refine blk_drewN ?_ _|refine blk_drew ?_|refine blk_alloc ?_ _));refine blk_far ?_ NB646_648.out _;(with_reducible repeat (first|refine blk_drewN ?_ _|refine blk_drew ?_|refine blk_alloc ?_ _));refine blk_far ?_ NB646_648.out _;(with_reducible repeat (first|refine blk_drewN ?_ _|refine blk_drew ?_|refine blk_alloc ?_ _));exact BK646.out⟩
  have n1_:Aside0 (((w12.setCell ⟨gb648,0,none⟩ (.int .i64 a1_0)).setCell ⟨gb648,1,none⟩ (.int .i64 a1_1)).heap[gb647]?=some (.cells #[.slice A0_0 l0_0.length c0_0,.int .i64 a0_1,.int .i64 a0_2,.int .i64 a0_3,.int .i64 (wrap64 (a0_4 - 1))] 96 (0,0))):=⟨by (with_reducible repeat (first|refine blk_drewN ?_ _|refine blk_drew ?_|refine blk_alloc ?_ _));refine blk_far ?_ NB647_648.out _;(with_reducible repeat (first|refine blk_drewN ?_ _|refine blk_drew ?_|refine blk_alloc ?_ _));refine blk_far ?_ NB647_648.out _;(with_reducible repeat (first|refine blk_drewN ?_ _|refine blk_drew ?_|refine blk_alloc ?_ _));exact BK647.out⟩
  have n2_:Aside0 (((w12.setCell ⟨gb648,0,none⟩ (.int .i64 a1_0)).setCell ⟨gb648,1,none⟩ (.int .i64 a1_1)).heap[gb648]?=some (.cells #[.int .i64 a1_0,.int .i64 a1_1] 118 (0,0))):=⟨by (with_reducible repeat (first|refine blk_drewN ?_ _|refine blk_drew ?_|refine blk_alloc ?_ _));refine blk_put (cs:=#[.int .i64 a1_0,.int .i64 0]) ?_ 1 _ rfl;(with_reducible repeat (first|refine blk_drewN ?_ _|refine blk_drew ?_|refine blk_alloc ?_ _));refine blk_put (cs:=#[.int .i64 0,.int .i64 0]) ?_ 0 _ rfl;(with_reducible repeat (first|refine blk_drewN ?_ _|refine blk_drew ?_|refine blk_alloc ?_ _));exact BK648.out⟩
  have n3_:Aside0 (Below w.heap.size w ((w12.setCell ⟨gb648,0,none⟩ (.int .i64 a1_0)).setCell ⟨gb648,1,none⟩ (.int .i64 a1_1))):=⟨y29_⟩
  (try clear BK646);(try clear BK647);(try clear BK648);(try clear HB)
  generalize ((w12.setCell ⟨gb648,0,none⟩ (.int .i64 a1_0)).setCell ⟨gb648,1,none⟩ (.int .i64 a1_1))=w16 at n0_ n1_ n2_ n3_ ⊢
  have BK646:=n0_;have BK647:=n1_;have BK648:=n2_;have HB:=n3_;clear n0_ n1_ n2_ n3_;have n0_:=A0_ (blk_drew BK646.out);have n1_:=A0_ (blk_drew BK647.out);have n2_:=A0_ (blk_drew BK648.out);have n3_:=A0_ (below_drew1 HB.out);clear BK646;clear BK647;clear BK648;clear HB;have BK646:=n0_;have BK647:=n1_;have BK648:=n2_;have HB:=n3_;clear n0_ n1_ n2_ n3_
  refine start_ (n:=14) (S:=fun w'=>w'.cell? ⟨gb647,0,none⟩=some (.slice A0_0 l0_0.length c0_0)∧w'.cell? ⟨gb647,1,none⟩=some (.int .i64 a0_1)∧w'.cell? ⟨gb647,2,none⟩=some (.int .i64 a0_2)∧w'.cell? ⟨gb647,3,none⟩=some (.int .i64 a0_3)∧w'.cell? ⟨gb647,4,none⟩=some (.int .i64 (wrap64 (a0_4 - 1)))∧w'.cell? ⟨gb648,0,none⟩=some (.int .i64 a1_0)∧w'.cell? ⟨gb648,1,none⟩=some (.int .i64 a1_1)∧w'.cell? ⟨gb646,0,none⟩=some (.slice A0_0 l0_0.length c0_0)∧w'.cell? ⟨gb646,1,none⟩=some (.int .i64 a0_1)∧w'.cell? ⟨gb646,2,none⟩=some (.int .i64 a0_2)∧w'.cell? ⟨gb646,3,none⟩=some (.int .i64 a0_3)∧w'.cell? ⟨gb646,4,none⟩=some (.int .i64 a0_4)) (ds:=[]) #[false,false,false,false,false,false,false,false,false,false,false,false,false,false] (by kernel_rfl) rfl rfl ⟨(blk_cell BK647.out 0).trans rfl,(blk_cell BK647.out 1).trans rfl,(blk_cell BK647.out 2).trans rfl,(blk_cell BK647.out 3).trans rfl,(blk_cell BK647.out 4).trans rfl,(blk_cell BK648.out 0).trans rfl,(blk_cell BK648.out 1).trans rfl,(blk_cell BK646.out 0).trans rfl,(blk_cell BK646.out 1).trans rfl,(blk_cell BK646.out 2).trans rfl,(blk_cell BK646.out 3).trans rfl,(blk_cell BK646.out 4).trans rfl⟩ (fun hHeld=>?_);refine with_tabW at_has_meet.tab5 at_has_meet.bits5 (fun HT_ HW_=>?_)
  generalize w16.drew=w17 at BK646 BK647 BK648 HB hHeld ⊢
  refine pu_ (i:=1) (N:=some 21) ?_;refine pu_ (i:=3) (N:=some 23) ?_;refine pu_ (i:=7) (N:=some 27) ?_;refine pu_ (i:=9) (N:=some 29) ?_;refine ta_ (i:=0) (N:=some 20) ?_;refine ta_ (i:=2) (N:=some 22) ?_;refine ta_ (i:=4) (N:=some 24) ?_;refine ta_ (i:=6) (N:=some 26) ?_;refine ta_ (i:=8) (N:=some 28) ?_;refine ta_ (i:=10) (N:=some 30) ?_
  refine one_ (i:=5) (N:=some 25) #[true,true,true,true,true,true,true,true,true,true,true,false,false,false] rfl rfl (one_of HT_.out (by kernel_rfl)) (by decide) (fun K hK=>?_)
  refine goes_ Tryz.func82 (by kernel_rfl) rfl #[.agg #[.slice A0_0 l0_0.length c0_0,.int .i64 a0_1,.int .i64 a0_2,.int .i64 a0_3,.int .i64 (wrap64 (a0_4 - 1))],.int .i64 a1_0,.int .i64 a1_1] (by rfl) rfl rfl y1_ ?_
  with_reducible refine (ss_ahead.calls k _ _ l0_0 a0_1 a0_2 a0_3 (wrap64 (a0_4 - 1)) a1_0 a1_1 t649 _ ?side1 ?side2 A3.out).mono ?_
  (case side1=>repeat (first|exact (Kd.C_below HR0_0.out HB.out)|(with_reducible refine Kd.C_alloc ?_ _)|(with_reducible refine Kd.C_drewN ?_ _)|(with_reducible refine Kd.C_drew ?_)))
  (case side2=>exact HC0_0.out)
  rintro e w18 ⟨rfl,hb⟩
  refine ⟨_,rfl,?_⟩
  have n0_:=A0_ (blk_below (g:=gb646) (o:=.cells #[.slice A0_0 l0_0.length c0_0,.int .i64 a0_1,.int .i64 a0_2,.int .i64 a0_3,.int .i64 a0_4] 96 (0,0)) (bd_ BK646.out) hb);have n1_:=A0_ (blk_below (g:=gb647) (o:=.cells #[.slice A0_0 l0_0.length c0_0,.int .i64 a0_1,.int .i64 a0_2,.int .i64 a0_3,.int .i64 (wrap64 (a0_4 - 1))] 96 (0,0)) (bd_ BK647.out) hb);have n2_:=A0_ (blk_below (g:=gb648) (o:=.cells #[.int .i64 a1_0,.int .i64 a1_1] 118 (0,0)) (bd_ BK648.out) hb);have n3_:=A0_ (below_step y29_ hb);clear BK646;clear BK647;clear BK648;clear HB;have BK646:=n0_;have BK647:=n1_;have BK648:=n2_;have HB:=n3_;clear n0_ n1_ n2_ n3_;(try clear hb);(try clear hb2);(try clear hk);(try clear hi)
  refine hK.out _ _ ⟨(blk_cell BK647.out 0).trans rfl,(blk_cell BK647.out 1).trans rfl,(blk_cell BK647.out 2).trans rfl,(blk_cell BK647.out 3).trans rfl,(blk_cell BK647.out 4).trans rfl,(blk_cell BK648.out 0).trans rfl,(blk_cell BK648.out 1).trans rfl,(blk_cell BK646.out 0).trans rfl,(blk_cell BK646.out 1).trans rfl,(blk_cell BK646.out 2).trans rfl,(blk_cell BK646.out 3).trans rfl,(blk_cell BK646.out 4).trans rfl⟩ (fun hHeld=>?_)
  clear hK K
  refine norm_ (a':=?_) ?_ ?_
  rotate_left
  ·show Act.put _ (some 25) _=_
   simp only [Act.put,List.setIfInBounds_toArray,List.set_cons_zero,List.set_cons_succ,i64_w,i32_w]
   rfl
  refine one_ (i:=11) (N:=some 31) #[true,true,true,true,true,true,true,true,true,true,true,true,false,false] rfl rfl (one_of HT_.out (by kernel_rfl)) (by decide) (fun K hK=>?_)
  refine goes_ Tryz.func82 (by kernel_rfl) rfl #[.agg #[.slice A0_0 l0_0.length c0_0,.int .i64 a0_1,.int .i64 a0_2,.int .i64 a0_3,.int .i64 a0_4],.int .i64 a1_0,.int .i64 a1_1] (by rfl) rfl rfl y1_ ?_
  with_reducible refine (ss_ahead.calls k _ _ l0_0 a0_1 a0_2 a0_3 a0_4 a1_0 a1_1 t650 _ ?side1 ?side2 A4.out).mono ?_
  (case side1=>repeat (first|exact (Kd.C_below HR0_0.out HB.out)|(with_reducible refine Kd.C_alloc ?_ _)|(with_reducible refine Kd.C_drewN ?_ _)|(with_reducible refine Kd.C_drew ?_)))
  (case side2=>exact HC0_0.out)
  rintro e w19 ⟨rfl,hb⟩
  refine ⟨_,rfl,?_⟩
  have n0_:=A0_ (blk_below (g:=gb646) (o:=.cells #[.slice A0_0 l0_0.length c0_0,.int .i64 a0_1,.int .i64 a0_2,.int .i64 a0_3,.int .i64 a0_4] 96 (0,0)) (bd_ BK646.out) hb);have n1_:=A0_ (blk_below (g:=gb647) (o:=.cells #[.slice A0_0 l0_0.length c0_0,.int .i64 a0_1,.int .i64 a0_2,.int .i64 a0_3,.int .i64 (wrap64 (a0_4 - 1))] 96 (0,0)) (bd_ BK647.out) hb);have n2_:=A0_ (blk_below (g:=gb648) (o:=.cells #[.int .i64 a1_0,.int .i64 a1_1] 118 (0,0)) (bd_ BK648.out) hb);have n3_:=A0_ (below_step y29_ hb);clear BK646;clear BK647;clear BK648;clear HB;have BK646:=n0_;have BK647:=n1_;have BK648:=n2_;have HB:=n3_;clear n0_ n1_ n2_ n3_;(try clear hb);(try clear hb2);(try clear hk);(try clear hi)
  refine hK.out _ _ ⟨(blk_cell BK647.out 0).trans rfl,(blk_cell BK647.out 1).trans rfl,(blk_cell BK647.out 2).trans rfl,(blk_cell BK647.out 3).trans rfl,(blk_cell BK647.out 4).trans rfl,(blk_cell BK648.out 0).trans rfl,(blk_cell BK648.out 1).trans rfl,(blk_cell BK646.out 0).trans rfl,(blk_cell BK646.out 1).trans rfl,(blk_cell BK646.out 2).trans rfl,(blk_cell BK646.out 3).trans rfl,(blk_cell BK646.out 4).trans rfl⟩ (fun hHeld=>?_)
  clear hK K
  refine norm_ (a':=?_) ?_ ?_
  rotate_left
  ·show Act.put _ (some 31) _=_
   simp only [Act.put,List.setIfInBounds_toArray,List.set_cons_zero,List.set_cons_succ,i64_w,i32_w]
   rfl
  refine pu_ (i:=12) (N:=some 7) ?_;refine pu_ (i:=13) (N:=some 8) ?_
  refine done_ (done_of HT_.out (by kernel_rfl)) ?_
  try go_wp2_with (first|(go_at_call 124;(with_reducible refine (sky_passes.calls t649 t650 true _ A5.out).mono ?_);rintro e w' ⟨rfl,⟨nd,rfl⟩⟩))
  go_ret
  exact ⟨y3_,y29_⟩
 ·replace c6:=Bool.eq_false_iff.mpr c6;subst c6
  have H1:((sky_passes.f (wrap64 (-t649)) (wrap64 (-t650))).bind fun t652=>(some t652))=some r:=by rw [if_neg (show ¬ (false=true) by decide)] at H;exact H
  clear H;have H:=H1;clear H1;replace H:=Option.bind_eq_some_iff.mp H;obtain ⟨t652,A200,H⟩:=H
  replace H:(some t652)=some r:=H
  have A20:=A0_ A200;clear A200;obtain rfl:=Option.some.inj H
  go_enter Tryz.func90,Tryz.ntmps90
  try go_wp2_with (first|((with_reducible refine gate_dst (N:=2) rfl ?_);refine box_event ?hg (N:=2) ?hd (cs:=#[.slice A0_0 l0_0.length c0_0,.int .i64 a0_1,.int .i64 a0_2,.int .i64 a0_3,.int .i64 a0_4]) (t:=96) ?hr ?_;(case hd=>rfl);(case hg=>rfl);(case hr=>first|(go_simp;done)|(go_simp;rfl));intro gb646 hg w21 hbox hb;have n0_:=A0_ (below_step y0_ hb);have n1_:=A0_ (hbox);have n2_:=A0_ ((by rw [hg];exact (below_size y0_):w.heap.size≤gb646));have n3_:=A0_ ((by rw [hg];exact (below_size y0_):w.heap.size≤gb646));clear HB;have HB:=n0_;have BK646:=n1_;have GW646:=n2_;have GE646:=n3_;clear n0_ n1_ n2_ n3_;clear hb hbox hg;obtain ⟨hcz22_0,hcz22_1,hcz22_2,hcz22_3,hcz22_4,hfz22_0,hfz22_1,hfz22_2,hfz22_3,hfz22_4⟩:=bq5_ BK646.out)|((with_reducible refine gate_dst (N:=5) rfl ?_);refine box_event ?hg (N:=5) ?hd (cs:=#[.slice none 0 0,.int .i64 0,.int .i64 0,.int .i64 0,.int .i64 0]) (t:=96) ?hr ?_;(case hd=>rfl);(case hg=>rfl);(case hr=>first|(go_simp;done)|(go_simp;rfl));intro gb647 hg w23 hbox hb;have n0_:=A0_ (blk_below (g:=gb646) (o:=.cells #[.slice A0_0 l0_0.length c0_0,.int .i64 a0_1,.int .i64 a0_2,.int .i64 a0_3,.int .i64 a0_4] 96 (0,0)) (bd_ BK646.out) hb);have n1_:=A0_ (below_step y2v_ hb);have n2_:=A0_ (hbox);have n3_:=A0_ ((by rw [hg];exact (below_size y2v_):w.heap.size≤gb647));have n4_:=A0_ ((by rw [hg];exact (below_size y2v_):w.heap.size≤gb647));have n5_:=A0_ ((by rw [hg];exact Nat.ne_of_lt (blk_lt (g:=gb646) (o:=.cells #[.slice A0_0 l0_0.length c0_0,.int .i64 a0_1,.int .i64 a0_2,.int .i64 a0_3,.int .i64 a0_4] 96 (0,0)) (bd_ BK646.out)):gb646≠gb647));have n6_:=A0_ ((by rw [hg];exact Nat.ne_of_gt (blk_lt (g:=gb646) (o:=.cells #[.slice A0_0 l0_0.length c0_0,.int .i64 a0_1,.int .i64 a0_2,.int .i64 a0_3,.int .i64 a0_4] 96 (0,0)) (bd_ BK646.out)):gb647≠gb646));clear BK646;clear HB;have BK646:=n0_;have HB:=n1_;have BK647:=n2_;have GW647:=n3_;have GE647:=n4_;have NB646_647:=n5_;have NB647_646:=n6_;clear n0_ n1_ n2_ n3_ n4_ n5_ n6_;clear hb hbox hg;have hnb24:=NB647_646.out;have hnc24:=NB646_647.out;obtain ⟨hcz25_0,hcz25_1,hcz25_2,hcz25_3,hcz25_4,hfz25_0,hfz25_1,hfz25_2,hfz25_3,hfz25_4⟩:=bq5_ BK647.out)|((with_reducible refine gate_dst (N:=6) rfl ?_);refine box_event ?hg (N:=6) ?hd (cs:=#[.int .i64 0,.int .i64 0]) (t:=118) ?hr ?_;(case hd=>rfl);(case hg=>rfl);(case hr=>first|(go_simp;done)|(go_simp;rfl));intro gb648 hg w26 hbox hb;have n0_:=A0_ (blk_below (g:=gb646) (o:=.cells #[.slice A0_0 l0_0.length c0_0,.int .i64 a0_1,.int .i64 a0_2,.int .i64 a0_3,.int .i64 a0_4] 96 (0,0)) y8_ hb);have n1_:=A0_ (blk_below (g:=gb647) (o:=.cells #[.slice A0_0 l0_0.length c0_0,.int .i64 a0_1,.int .i64 a0_2,.int .i64 a0_3,.int .i64 (wrap64 (a0_4 - 1))] 96 (0,0)) y4_ hb);have n2_:=A0_ (below_step y2q_ hb);have n3_:=A0_ (hbox);have n4_:=A0_ ((by rw [hg];exact (below_size y2q_):w.heap.size≤gb648));have n5_:=A0_ ((by rw [hg];exact (below_size y2q_):w.heap.size≤gb648));have n6_:=A0_ ((by rw [hg];exact Nat.ne_of_lt (blk_lt (g:=gb646) (o:=.cells #[.slice A0_0 l0_0.length c0_0,.int .i64 a0_1,.int .i64 a0_2,.int .i64 a0_3,.int .i64 a0_4] 96 (0,0)) y8_):gb646≠gb648));have n7_:=A0_ ((by rw [hg];exact Nat.ne_of_gt (blk_lt (g:=gb646) (o:=.cells #[.slice A0_0 l0_0.length c0_0,.int .i64 a0_1,.int .i64 a0_2,.int .i64 a0_3,.int .i64 a0_4] 96 (0,0)) y8_):gb648≠gb646));have n8_:=A0_ ((by rw [hg];exact Nat.ne_of_lt (blk_lt (g:=gb647) (o:=.cells #[.slice A0_0 l0_0.length c0_0,.int .i64 a0_1,.int .i64 a0_2,.int .i64 a0_3,.int .i64 (wrap64 (a0_4 - 1))] 96 (0,0)) y4_):gb647≠gb648));have n9_:=A0_ ((by rw [hg];exact Nat.ne_of_gt (blk_lt (g:=gb647) (o:=.cells #[.slice A0_0 l0_0.length c0_0,.int .i64 a0_1,.int .i64 a0_2,.int .i64 a0_3,.int .i64 (wrap64 (a0_4 - 1))] 96 (0,0)) y4_):gb648≠gb647));clear BK646;clear BK647;clear HB;have BK646:=n0_;have BK647:=n1_;have HB:=n2_;have BK648:=n3_;have GW648:=n4_;have GE648:=n5_;have NB646_648:=n6_;have NB648_646:=n7_;have NB647_648:=n8_;have NB648_647:=n9_;clear n0_ n1_ n2_ n3_ n4_ n5_ n6_ n7_ n8_ n9_;clear hb hbox hg;have hnb27:=NB648_646.out;have hnc27:=NB646_648.out;have hnb28:=NB648_647.out;have hnc28:=NB647_648.out;obtain ⟨hcz29_0,hcz29_1,hfz29_0,hfz29_1⟩:=bq2_ BK648.out))
  have n0_:Aside0 (((w26.setCell ⟨gb648,0,none⟩ (.int .i64 a1_0)).setCell ⟨gb648,1,none⟩ (.int .i64 a1_1)).heap[gb646]?=some (.cells #[.slice A0_0 l0_0.length c0_0,.int .i64 a0_1,.int .i64 a0_2,.int .i64 a0_3,.int .i64 a0_4] 96 (0,0))):=⟨by (with_reducible repeat (first|refine blk_drewN ?_ _|refine blk_drew ?_|refine blk_alloc ?_ _));refine blk_far ?_ NB646_648.out _;(with_reducible repeat (first|refine blk_drewN ?_ _|refine blk_drew ?_|refine blk_alloc ?_ _));refine blk_far ?_ NB646_648.out _;(with_reducible repeat (first|refine blk_drewN ?_ _|refine blk_drew ?_|refine blk_alloc ?_ _));exact BK646.out⟩
  have n1_:Aside0 (((w26.setCell ⟨gb648,0,none⟩ (.int .i64 a1_0)).setCell ⟨gb648,1,none⟩ (.int .i64 a1_1)).heap[gb647]?=some (.cells #[.slice A0_0 l0_0.length c0_0,.int .i64 a0_1,.int .i64 a0_2,.int .i64 a0_3,.int .i64 (wrap64 (a0_4 - 1))] 96 (0,0))):=⟨by (with_reducible repeat (first|refine blk_drewN ?_ _|refine blk_drew ?_|refine blk_alloc ?_ _));refine blk_far ?_ NB647_648.out _;(with_reducible repeat (first|refine blk_drewN ?_ _|refine blk_drew ?_|refine blk_alloc ?_ _));refine blk_far ?_ NB647_648.out _;(with_reducible repeat (first|refine blk_drewN ?_ _|refine blk_drew ?_|refine blk_alloc ?_ _));exact BK647.out⟩
  have n2_:Aside0 (((w26.setCell ⟨gb648,0,none⟩ (.int .i64 a1_0)).setCell ⟨gb648,1,none⟩ (.int .i64 a1_1)).heap[gb648]?=some (.cells #[.int .i64 a1_0,.int .i64 a1_1] 118 (0,0))):=⟨by (with_reducible repeat (first|refine blk_drewN ?_ _|refine blk_drew ?_|refine blk_alloc ?_ _));refine blk_put (cs:=#[.int .i64 a1_0,.int .i64 0]) ?_ 1 _ rfl;(with_reducible repeat (first|refine blk_drewN ?_ _|refine blk_drew ?_|refine blk_alloc ?_ _));refine blk_put (cs:=#[.int .i64 0,.int .i64 0]) ?_ 0 _ rfl;(with_reducible repeat (first|refine blk_drewN ?_ _|refine blk_drew ?_|refine blk_alloc ?_ _));exact BK648.out⟩
  have n3_:Aside0 (Below w.heap.size w ((w26.setCell ⟨gb648,0,none⟩ (.int .i64 a1_0)).setCell ⟨gb648,1,none⟩ (.int .i64 a1_1))):=⟨y29_⟩
  (try clear BK646);(try clear BK647);(try clear BK648);(try clear HB)
  generalize ((w26.setCell ⟨gb648,0,none⟩ (.int .i64 a1_0)).setCell ⟨gb648,1,none⟩ (.int .i64 a1_1))=w30 at n0_ n1_ n2_ n3_ ⊢
  have BK646:=n0_;have BK647:=n1_;have BK648:=n2_;have HB:=n3_;clear n0_ n1_ n2_ n3_;have n0_:=A0_ (blk_drew BK646.out);have n1_:=A0_ (blk_drew BK647.out);have n2_:=A0_ (blk_drew BK648.out);have n3_:=A0_ (below_drew1 HB.out);clear BK646;clear BK647;clear BK648;clear HB;have BK646:=n0_;have BK647:=n1_;have BK648:=n2_;have HB:=n3_;clear n0_ n1_ n2_ n3_
  refine start_ (n:=14) (S:=fun w'=>w'.cell? ⟨gb647,0,none⟩=some (.slice A0_0 l0_0.length c0_0)∧w'.cell? ⟨gb647,1,none⟩=some (.int .i64 a0_1)∧w'.cell? ⟨gb647,2,none⟩=some (.int .i64 a0_2)∧w'.cell? ⟨gb647,3,none⟩=some (.int .i64 a0_3)∧w'.cell? ⟨gb647,4,none⟩=some (.int .i64 (wrap64 (a0_4 - 1)))∧w'.cell? ⟨gb648,0,none⟩=some (.int .i64 a1_0)∧w'.cell? ⟨gb648,1,none⟩=some (.int .i64 a1_1)∧w'.cell? ⟨gb646,0,none⟩=some (.slice A0_0 l0_0.length c0_0)∧w'.cell? ⟨gb646,1,none⟩=some (.int .i64 a0_1)∧w'.cell? ⟨gb646,2,none⟩=some (.int .i64 a0_2)∧w'.cell? ⟨gb646,3,none⟩=some (.int .i64 a0_3)∧w'.cell? ⟨gb646,4,none⟩=some (.int .i64 a0_4)) (ds:=[]) #[false,false,false,false,false,false,false,false,false,false,false,false,false,false] (by kernel_rfl) rfl rfl ⟨(blk_cell BK647.out 0).trans rfl,(blk_cell BK647.out 1).trans rfl,(blk_cell BK647.out 2).trans rfl,(blk_cell BK647.out 3).trans rfl,(blk_cell BK647.out 4).trans rfl,(blk_cell BK648.out 0).trans rfl,(blk_cell BK648.out 1).trans rfl,(blk_cell BK646.out 0).trans rfl,(blk_cell BK646.out 1).trans rfl,(blk_cell BK646.out 2).trans rfl,(blk_cell BK646.out 3).trans rfl,(blk_cell BK646.out 4).trans rfl⟩ (fun hHeld=>?_);refine with_tabW at_has_meet.tab5 at_has_meet.bits5 (fun HT_ HW_=>?_)
  generalize w30.drew=w31 at BK646 BK647 BK648 HB hHeld ⊢
  refine pu_ (i:=1) (N:=some 21) ?_;refine pu_ (i:=3) (N:=some 23) ?_;refine pu_ (i:=7) (N:=some 27) ?_;refine pu_ (i:=9) (N:=some 29) ?_;refine ta_ (i:=0) (N:=some 20) ?_;refine ta_ (i:=2) (N:=some 22) ?_;refine ta_ (i:=4) (N:=some 24) ?_;refine ta_ (i:=6) (N:=some 26) ?_;refine ta_ (i:=8) (N:=some 28) ?_;refine ta_ (i:=10) (N:=some 30) ?_
  refine one_ (i:=5) (N:=some 25) #[true,true,true,true,true,true,true,true,true,true,true,false,false,false] rfl rfl (one_of HT_.out (by kernel_rfl)) (by decide) (fun K hK=>?_)
  refine goes_ Tryz.func82 (by kernel_rfl) rfl #[.agg #[.slice A0_0 l0_0.length c0_0,.int .i64 a0_1,.int .i64 a0_2,.int .i64 a0_3,.int .i64 (wrap64 (a0_4 - 1))],.int .i64 a1_0,.int .i64 a1_1] (by rfl) rfl rfl y1_ ?_
  with_reducible refine (ss_ahead.calls k _ _ l0_0 a0_1 a0_2 a0_3 (wrap64 (a0_4 - 1)) a1_0 a1_1 t649 _ ?side1 ?side2 A3.out).mono ?_
  (case side1=>repeat (first|exact (Kd.C_below HR0_0.out HB.out)|(with_reducible refine Kd.C_alloc ?_ _)|(with_reducible refine Kd.C_drewN ?_ _)|(with_reducible refine Kd.C_drew ?_)))
  (case side2=>exact HC0_0.out)
  rintro e w32 ⟨rfl,hb⟩
  refine ⟨_,rfl,?_⟩
  have n0_:=A0_ (blk_below (g:=gb646) (o:=.cells #[.slice A0_0 l0_0.length c0_0,.int .i64 a0_1,.int .i64 a0_2,.int .i64 a0_3,.int .i64 a0_4] 96 (0,0)) (bd_ BK646.out) hb);have n1_:=A0_ (blk_below (g:=gb647) (o:=.cells #[.slice A0_0 l0_0.length c0_0,.int .i64 a0_1,.int .i64 a0_2,.int .i64 a0_3,.int .i64 (wrap64 (a0_4 - 1))] 96 (0,0)) (bd_ BK647.out) hb);have n2_:=A0_ (blk_below (g:=gb648) (o:=.cells #[.int .i64 a1_0,.int .i64 a1_1] 118 (0,0)) (bd_ BK648.out) hb);have n3_:=A0_ (below_step y29_ hb);clear BK646;clear BK647;clear BK648;clear HB;have BK646:=n0_;have BK647:=n1_;have BK648:=n2_;have HB:=n3_;clear n0_ n1_ n2_ n3_;(try clear hb);(try clear hb2);(try clear hk);(try clear hi)
  refine hK.out _ _ ⟨(blk_cell BK647.out 0).trans rfl,(blk_cell BK647.out 1).trans rfl,(blk_cell BK647.out 2).trans rfl,(blk_cell BK647.out 3).trans rfl,(blk_cell BK647.out 4).trans rfl,(blk_cell BK648.out 0).trans rfl,(blk_cell BK648.out 1).trans rfl,(blk_cell BK646.out 0).trans rfl,(blk_cell BK646.out 1).trans rfl,(blk_cell BK646.out 2).trans rfl,(blk_cell BK646.out 3).trans rfl,(blk_cell BK646.out 4).trans rfl⟩ (fun hHeld=>?_)
  clear hK K
  refine norm_ (a':=?_) ?_ ?_
  rotate_left
  ·show Act.put _ (some 25) _=_
   simp only [Act.put,List.setIfInBounds_toArray,List.set_cons_zero,List.set_cons_succ,i64_w,i32_w]
   rfl
  refine one_ (i:=11) (N:=some 31) #[true,true,true,true,true,true,true,true,true,true,true,true,false,false] rfl rfl (one_of HT_.out (by kernel_rfl)) (by decide) (fun K hK=>?_)
  refine goes_ Tryz.func82 (by kernel_rfl) rfl #[.agg #[.slice A0_0 l0_0.length c0_0,.int .i64 a0_1,.int .i64 a0_2,.int .i64 a0_3,.int .i64 a0_4],.int .i64 a1_0,.int .i64 a1_1] (by rfl) rfl rfl y1_ ?_
  with_reducible refine (ss_ahead.calls k _ _ l0_0 a0_1 a0_2 a0_3 a0_4 a1_0 a1_1 t650 _ ?side1 ?side2 A4.out).mono ?_
  (case side1=>repeat (first|exact (Kd.C_below HR0_0.out HB.out)|(with_reducible refine Kd.C_alloc ?_ _)|(with_reducible refine Kd.C_drewN ?_ _)|(with_reducible refine Kd.C_drew ?_)))
  (case side2=>exact HC0_0.out)
  rintro e w33 ⟨rfl,hb⟩
  refine ⟨_,rfl,?_⟩
  have n0_:=A0_ (blk_below (g:=gb646) (o:=.cells #[.slice A0_0 l0_0.length c0_0,.int .i64 a0_1,.int .i64 a0_2,.int .i64 a0_3,.int .i64 a0_4] 96 (0,0)) (bd_ BK646.out) hb);have n1_:=A0_ (blk_below (g:=gb647) (o:=.cells #[.slice A0_0 l0_0.length c0_0,.int .i64 a0_1,.int .i64 a0_2,.int .i64 a0_3,.int .i64 (wrap64 (a0_4 - 1))] 96 (0,0)) (bd_ BK647.out) hb);have n2_:=A0_ (blk_below (g:=gb648) (o:=.cells #[.int .i64 a1_0,.int .i64 a1_1] 118 (0,0)) (bd_ BK648.out) hb);have n3_:=A0_ (below_step y29_ hb);clear BK646;clear BK647;clear BK648;clear HB;have BK646:=n0_;have BK647:=n1_;have BK648:=n2_;have HB:=n3_;clear n0_ n1_ n2_ n3_;(try clear hb);(try clear hb2);(try clear hk);(try clear hi)
  refine hK.out _ _ ⟨(blk_cell BK647.out 0).trans rfl,(blk_cell BK647.out 1).trans rfl,(blk_cell BK647.out 2).trans rfl,(blk_cell BK647.out 3).trans rfl,(blk_cell BK647.out 4).trans rfl,(blk_cell BK648.out 0).trans rfl,(blk_cell BK648.out 1).trans rfl,(blk_cell BK646.out 0).trans rfl,(blk_cell BK646.out 1).trans rfl,(blk_cell BK646.out 2).trans rfl,(blk_cell BK646.out 3).trans rfl,(blk_cell BK646.out 4).trans rfl⟩ (fun hHeld=>?_)
  clear hK K
  refine norm_ (a':=?_) ?_ ?_
  rotate_left
  ·show Act.put _ (some 31) _=_
   simp only [Act.put,List.setIfInBounds_toArray,List.set_cons_zero,List.set_cons_succ,i64_w,i32_w]
   rfl
  refine pu_ (i:=12) (N:=some 7) ?_;refine pu_ (i:=13) (N:=some 8) ?_
  refine done_ (done_of HT_.out (by kernel_rfl)) ?_
  try go_wp2_with (first|(go_at_call 124;(with_reducible refine (sky_passes.calls t649 t650 false _ A5.out).mono ?_);rintro e w' ⟨rfl,⟨nd,rfl⟩⟩)|(go_at_call 124;(with_reducible refine (sky_passes.calls (wrap64 (-t649)) (wrap64 (-t650)) t652 _ A20.out).mono ?_);rintro e w' ⟨rfl,⟨nd,rfl⟩⟩))
  go_ret
  exact ⟨y3_,y29_⟩
end Go.Proofs.YtaidphhkhddemaaGreatDoor.PSky
end
section
namespace Go.Proofs
open Go.Shelf
def Tryz.lays156_ren:Go.Shelf.Ren:=⟨fun|156=>118|165=>129|166=>130|169=>131|240=>138|241=>139|276=>145|277=>146|n=>n,fun|31=>112|9=>9|3=>3|4=>4|0=>0|20=>20|72=>152|76=>156|70=>150|37=>146|75=>155|127=>163|164=>168|5=>5|80=>158|n=>n,fun|n=>n⟩
theorem Tryz.lays156:Go.Proofs.Lays.n156 Tryz.prog Tryz.lays156_ren:={
 mixed:=by kernel_rfl
 f156:=Tryz.func118.trans (congrArg some (by kernel_rfl))
 f165:=Tryz.func129.trans (congrArg some (by kernel_rfl))
 f166:=Tryz.func130.trans (congrArg some (by kernel_rfl))
 f169:=Tryz.func131.trans (congrArg some (by kernel_rfl))
 f240:=Tryz.func138.trans (congrArg some (by kernel_rfl))
 f241:=Tryz.func139.trans (congrArg some (by kernel_rfl))
 f276:=Tryz.func145.trans (congrArg some (by kernel_rfl))
 f277:=Tryz.func146.trans (congrArg some (by kernel_rfl))
 t0:=Tryz.underlying0
 a0:=Tryz.isAgg0
 z0:=Tryz.sizeOf0
 v0:=Tryz.zeroValue0
 t3:=Tryz.underlying3
 a3:=Tryz.isAgg3
 z3:=Tryz.sizeOf3
 v3:=Tryz.zeroValue3
 t4:=Tryz.underlying4
 a4:=Tryz.isAgg4
 z4:=Tryz.sizeOf4
 v4:=Tryz.zeroValue4
 t9:=Tryz.underlying9
 a9:=Tryz.isAgg9
 z9:=Tryz.sizeOf9
 v9:=Tryz.zeroValue9
 t20:=Tryz.underlying20
 a20:=Tryz.isAgg20
 z20:=Tryz.sizeOf20
 v20:=Tryz.zeroValue20
 t31:=Tryz.underlying112
 a31:=Tryz.isAgg112
 z31:=Tryz.sizeOf112
 v31:=Tryz.zeroValue112
 t37:=Tryz.underlying146
 a37:=Tryz.isAgg146
 z37:=Tryz.sizeOf146
 v37:=Tryz.zeroValue146
 t70:=Tryz.underlying150
 a70:=Tryz.isAgg150
 z70:=Tryz.sizeOf150
 v70:=Tryz.zeroValue150
 t72:=Tryz.underlying152
 a72:=Tryz.isAgg152
 z72:=Tryz.sizeOf152
 v72:=Tryz.zeroValue152
 t75:=Tryz.underlying155
 a75:=Tryz.isAgg155
 z75:=Tryz.sizeOf155
 v75:=Tryz.zeroValue155
 t76:=Tryz.underlying156
 a76:=Tryz.isAgg156
 z76:=Tryz.sizeOf156
 v76:=Tryz.zeroValue156
 t127:=Tryz.underlying163
 a127:=Tryz.isAgg163
 z127:=Tryz.sizeOf163
 v127:=Tryz.zeroValue163
 t164:=Tryz.underlying168
 a164:=Tryz.isAgg168
 z164:=Tryz.sizeOf168
 v164:=Tryz.zeroValue168 }
theorem Tryz.Builder_Extra_156:Builder.Extra Tryz.prog Tryz.lays156_ren:={
 sizeBuilder:=by kernel_rfl
 liesBuilder:=by kernel_rfl
 t5:=Tryz.underlying5
 a5:=Tryz.isAgg5
 z5:=Tryz.sizeOf5
 v5:=Tryz.zeroValue5
 infoByte:=by kernel_rfl
 cellsByte:=by kernel_rfl
 sizeByte:=by kernel_rfl
 neB5:=by decide }
open Go.RowKit in
theorem Tryz.strings_Join_none (a:Option Addr) (c:Nat) (sep:ByteArray) (w:World):
  Calls Tryz.prog 118 #[.slice a 0 c,.string sep] w fun e w'=>e=.returned (.string ⟨#[]⟩)∧w'=w:=Any.strings_Join_none Tryz.lays156 Tryz.Builder_Extra_156 a c sep w
open Go.RowKit in
theorem Tryz.strings_Join (bk o c:Nat) (xs:List ByteArray) (sep:ByteArray) (w:World) (hcells:∀ (j:Nat) x,xs[j]?=some x→w.cell? ⟨bk,o+j,none⟩=some (.string x)) (hbk:bk<w.heap.size) (hN:xs.length≤140737488355328) (hcap:xs.length≤c) (hlen:(Lib.join (xs.map (·.data.toList)) sep.data.toList).length≤140737488355328):
  Calls Tryz.prog 118 #[.slice (some ⟨bk,o,none⟩) xs.length c,.string sep] w fun e w'=>e=.returned (.string ⟨(Lib.join (xs.map (·.data.toList)) sep.data.toList).toArray⟩)∧Below w.heap.size w w':=Any.strings_Join Tryz.lays156 Tryz.Builder_Extra_156 bk o c xs sep w hcells hbk hN hcap hlen
def Tryz.laysM171_ren:Go.Shelf.Ren:=⟨fun|171=>119|243=>132|246=>140|283=>147|284=>148|285=>149|286=>150|129=>157|317=>156|318=>158|319=>159|320=>160|337=>167|338=>168|n=>n,fun|3=>3|9=>9|2=>2|4=>4|171=>171|0=>0|53=>172|37=>146|5=>5|173=>175|212=>181|51=>182|20=>20|213=>183|46=>184|232=>194|233=>195|n=>n,fun|17=>1|18=>4|19=>5|n=>n⟩
theorem Tryz.laysM171:Go.Proofs.LaysM.n171 Tryz.prog Tryz.laysM171_ren:={
 mixed:=by kernel_rfl
 f129:=Tryz.func157.trans (congrArg some (by kernel_rfl))
 f171:=Tryz.func119.trans (congrArg some (by kernel_rfl))
 f243:=Tryz.func132.trans (congrArg some (by kernel_rfl))
 f246:=Tryz.func140.trans (congrArg some (by kernel_rfl))
 f283:=Tryz.func147.trans (congrArg some (by kernel_rfl))
 f284:=Tryz.func148.trans (congrArg some (by kernel_rfl))
 f285:=Tryz.func149.trans (congrArg some (by kernel_rfl))
 f286:=Tryz.func150.trans (congrArg some (by kernel_rfl))
 f317:=Tryz.func156.trans (congrArg some (by kernel_rfl))
 f318:=Tryz.func158.trans (congrArg some (by kernel_rfl))
 f319:=Tryz.func159.trans (congrArg some (by kernel_rfl))
 f320:=Tryz.func160.trans (congrArg some (by kernel_rfl))
 f337:=Tryz.func167.trans (congrArg some (by kernel_rfl))
 f338:=Tryz.func168.trans (congrArg some (by kernel_rfl))
 t0:=Tryz.underlying0
 a0:=Tryz.isAgg0
 z0:=Tryz.sizeOf0
 v0:=Tryz.zeroValue0
 t2:=Tryz.underlying2
 a2:=Tryz.isAgg2
 z2:=Tryz.sizeOf2
 v2:=Tryz.zeroValue2
 t3:=Tryz.underlying3
 a3:=Tryz.isAgg3
 z3:=Tryz.sizeOf3
 v3:=Tryz.zeroValue3
 t4:=Tryz.underlying4
 a4:=Tryz.isAgg4
 z4:=Tryz.sizeOf4
 v4:=Tryz.zeroValue4
 t5:=Tryz.underlying5
 a5:=Tryz.isAgg5
 z5:=Tryz.sizeOf5
 v5:=Tryz.zeroValue5
 t9:=Tryz.underlying9
 a9:=Tryz.isAgg9
 z9:=Tryz.sizeOf9
 v9:=Tryz.zeroValue9
 t20:=Tryz.underlying20
 a20:=Tryz.isAgg20
 z20:=Tryz.sizeOf20
 v20:=Tryz.zeroValue20
 t37:=Tryz.underlying146
 a37:=Tryz.isAgg146
 z37:=Tryz.sizeOf146
 v37:=Tryz.zeroValue146
 t46:=Tryz.underlying184
 a46:=Tryz.isAgg184
 z46:=Tryz.sizeOf184
 v46:=Tryz.zeroValue184
 t51:=Tryz.underlying182
 a51:=Tryz.isAgg182
 z51:=Tryz.sizeOf182
 v51:=Tryz.zeroValue182
 t53:=Tryz.underlying172
 a53:=Tryz.isAgg172
 z53:=Tryz.sizeOf172
 v53:=Tryz.zeroValue172
 t171:=Tryz.underlying171
 a171:=Tryz.isAgg171
 z171:=Tryz.sizeOf171
 v171:=Tryz.zeroValue171
 t173:=Tryz.underlying175
 a173:=Tryz.isAgg175
 z173:=Tryz.sizeOf175
 v173:=Tryz.zeroValue175
 t212:=Tryz.underlying181
 a212:=Tryz.isAgg181
 z212:=Tryz.sizeOf181
 v212:=Tryz.zeroValue181
 t213:=Tryz.underlying183
 a213:=Tryz.isAgg183
 z213:=Tryz.sizeOf183
 t232:=Tryz.underlying194
 a232:=Tryz.isAgg194
 z232:=Tryz.sizeOf194
 v232:=Tryz.zeroValue194
 t233:=Tryz.underlying195
 a233:=Tryz.isAgg195
 z233:=Tryz.sizeOf195
 v233:=Tryz.zeroValue195
 g17:=by kernel_rfl
 g18:=by kernel_rfl
 g19:=by kernel_rfl
 i0:=by kernel_rfl
 i2:=by kernel_rfl
 i3:=by kernel_rfl
 i4:=by kernel_rfl
 i5:=by kernel_rfl
 i9:=by kernel_rfl
 i20:=by kernel_rfl
 i37:=by kernel_rfl
 i46:=by kernel_rfl
 i51:=by kernel_rfl
 i53:=by kernel_rfl
 i171:=by kernel_rfl
 i173:=by kernel_rfl
 i212:=by kernel_rfl
 i232:=by kernel_rfl
 i233:=by kernel_rfl
 m17:=by kernel_rfl
 m18:=by kernel_rfl
 m19:=by kernel_rfl }
open Go.RowKit Go.Sort Go.Lib in
theorem Tryz.strconv_Itoa (n:Int) (h0:-9223372036854775808≤n) (h1:n≤9223372036854775807) (w:World) (htab:Lib.TabIs Tryz.prog w "internal/strconv.uint64pow10" .u64 Lib.pow10Tab):
  Calls Tryz.prog 119 #[.int .i64 n] w fun e w'=>e=.returned (.string ⟨(Lib.itoa n).toArray⟩)∧∃ k os,w'=grow (w.drewN k) os:=Any.strconv_Itoa Tryz.laysM171 n h0 h1 w htab
def Tryz.laysM219_ren:Go.Shelf.Ren:=⟨fun|219=>154|217=>162|225=>163|224=>164|267=>165|266=>169|314=>170|n=>n,fun|9=>9|3=>3|4=>4|5=>5|46=>184|146=>192|51=>182|n=>n,fun|1=>0|n=>n⟩
theorem Tryz.laysM219:Go.Proofs.LaysM.n219 Tryz.prog Tryz.laysM219_ren:={
 mixed:=by kernel_rfl
 f217:=Tryz.func162.trans (congrArg some (by kernel_rfl))
 f219:=Tryz.func154.trans (congrArg some (by kernel_rfl))
 f224:=Tryz.func164.trans (congrArg some (by kernel_rfl))
 f225:=Tryz.func163.trans (congrArg some (by kernel_rfl))
 f266:=Tryz.func169.trans (congrArg some (by kernel_rfl))
 f267:=Tryz.func165.trans (congrArg some (by kernel_rfl))
 f314:=Tryz.func170.trans (congrArg some (by kernel_rfl))
 t3:=Tryz.underlying3
 a3:=Tryz.isAgg3
 z3:=Tryz.sizeOf3
 v3:=Tryz.zeroValue3
 t4:=Tryz.underlying4
 a4:=Tryz.isAgg4
 z4:=Tryz.sizeOf4
 v4:=Tryz.zeroValue4
 t5:=Tryz.underlying5
 a5:=Tryz.isAgg5
 z5:=Tryz.sizeOf5
 v5:=Tryz.zeroValue5
 t9:=Tryz.underlying9
 a9:=Tryz.isAgg9
 z9:=Tryz.sizeOf9
 v9:=Tryz.zeroValue9
 t46:=Tryz.underlying184
 a46:=Tryz.isAgg184
 z46:=Tryz.sizeOf184
 v46:=Tryz.zeroValue184
 t51:=Tryz.underlying182
 a51:=Tryz.isAgg182
 z51:=Tryz.sizeOf182
 v51:=Tryz.zeroValue182
 t146:=Tryz.underlying192
 a146:=Tryz.isAgg192
 z146:=Tryz.sizeOf192
 v146:=Tryz.zeroValue192
 g1:=by kernel_rfl
 i3:=by kernel_rfl
 i4:=by kernel_rfl
 i5:=by kernel_rfl
 i9:=by kernel_rfl
 i46:=by kernel_rfl
 i51:=by kernel_rfl
 i146:=by kernel_rfl
 m1:=by kernel_rfl
 s1_3:=fun w h=>Go.Proofs.cell_of_shapedOpen_int (zero:=#[.int .i64 0]) (t:=3) h (of_decide_eq_true (by kernel_rfl)) (by kernel_rfl) rfl (by kernel_rfl) (by kernel_rfl) Tryz.underlying3 }
def Tryz.lays101_ren:Go.Shelf.Ren:=⟨fun|101=>144|208=>155|206=>166|n=>n,fun|9=>9|4=>4|3=>3|n=>n,fun|n=>n⟩
theorem Tryz.lays101:Go.Proofs.Lays.n101 Tryz.prog Tryz.lays101_ren:={
 mixed:=by kernel_rfl
 f101:=Tryz.func144.trans (congrArg some (by kernel_rfl))
 f206:=Tryz.func166.trans (congrArg some (by kernel_rfl))
 f208:=Tryz.func155.trans (congrArg some (by kernel_rfl))
 t3:=Tryz.underlying3
 a3:=Tryz.isAgg3
 z3:=Tryz.sizeOf3
 v3:=Tryz.zeroValue3
 t4:=Tryz.underlying4
 a4:=Tryz.isAgg4
 z4:=Tryz.sizeOf4
 v4:=Tryz.zeroValue4
 t9:=Tryz.underlying9
 a9:=Tryz.isAgg9
 z9:=Tryz.sizeOf9
 v9:=Tryz.zeroValue9 }
open Go.RowKit Go.Lib in
theorem Tryz.strings_TrimPrefix (s p:ByteArray) (w:World):
  Calls Tryz.prog 144 #[.string s,.string p] w fun e w'=>e=.returned (.string ⟨(Lib.trimPrefix s.data.toList p.data.toList).toArray⟩)∧w'=w:=Any.strings_TrimPrefix Tryz.lays101 s p w
def Tryz.lays146_ren:Go.Shelf.Ren:=⟨fun|146=>120|221=>133|268=>141|138=>142|143=>143|195=>151|197=>152|218=>153|219=>154|260=>161|217=>162|225=>163|224=>164|267=>165|266=>169|314=>170|n=>n,fun|9=>9|31=>112|3=>3|4=>4|0=>0|105=>177|21=>21|5=>5|46=>184|119=>188|139=>191|138=>190|146=>192|51=>182|n=>n,fun|1=>0|3=>2|4=>3|n=>n⟩
theorem Tryz.lays146:Go.Proofs.Lays.n146 Tryz.prog Tryz.lays146_ren:={
 mixed:=by kernel_rfl
 f138:=Tryz.func142.trans (congrArg some (by kernel_rfl))
 f143:=Tryz.func143.trans (congrArg some (by kernel_rfl))
 f146:=Tryz.func120.trans (congrArg some (by kernel_rfl))
 f195:=Tryz.func151.trans (congrArg some (by kernel_rfl))
 f197:=Tryz.func152.trans (congrArg some (by kernel_rfl))
 f217:=Tryz.func162.trans (congrArg some (by kernel_rfl))
 f218:=Tryz.func153.trans (congrArg some (by kernel_rfl))
 f219:=Tryz.func154.trans (congrArg some (by kernel_rfl))
 f221:=Tryz.func133.trans (congrArg some (by kernel_rfl))
 f224:=Tryz.func164.trans (congrArg some (by kernel_rfl))
 f225:=Tryz.func163.trans (congrArg some (by kernel_rfl))
 f260:=Tryz.func161.trans (congrArg some (by kernel_rfl))
 f266:=Tryz.func169.trans (congrArg some (by kernel_rfl))
 f267:=Tryz.func165.trans (congrArg some (by kernel_rfl))
 f268:=Tryz.func141.trans (congrArg some (by kernel_rfl))
 f314:=Tryz.func170.trans (congrArg some (by kernel_rfl))
 t0:=Tryz.underlying0
 a0:=Tryz.isAgg0
 z0:=Tryz.sizeOf0
 v0:=Tryz.zeroValue0
 t3:=Tryz.underlying3
 a3:=Tryz.isAgg3
 z3:=Tryz.sizeOf3
 v3:=Tryz.zeroValue3
 t4:=Tryz.underlying4
 a4:=Tryz.isAgg4
 z4:=Tryz.sizeOf4
 v4:=Tryz.zeroValue4
 t5:=Tryz.underlying5
 a5:=Tryz.isAgg5
 z5:=Tryz.sizeOf5
 v5:=Tryz.zeroValue5
 t9:=Tryz.underlying9
 a9:=Tryz.isAgg9
 z9:=Tryz.sizeOf9
 v9:=Tryz.zeroValue9
 t21:=Tryz.underlying21
 a21:=Tryz.isAgg21
 z21:=Tryz.sizeOf21
 v21:=Tryz.zeroValue21
 t31:=Tryz.underlying112
 a31:=Tryz.isAgg112
 z31:=Tryz.sizeOf112
 v31:=Tryz.zeroValue112
 t46:=Tryz.underlying184
 a46:=Tryz.isAgg184
 z46:=Tryz.sizeOf184
 v46:=Tryz.zeroValue184
 t51:=Tryz.underlying182
 a51:=Tryz.isAgg182
 z51:=Tryz.sizeOf182
 v51:=Tryz.zeroValue182
 t105:=Tryz.underlying177
 a105:=Tryz.isAgg177
 z105:=Tryz.sizeOf177
 v105:=Tryz.zeroValue177
 t119:=Tryz.underlying188
 a119:=Tryz.isAgg188
 z119:=Tryz.sizeOf188
 t138:=Tryz.underlying190
 a138:=Tryz.isAgg190
 z138:=Tryz.sizeOf190
 v138:=Tryz.zeroValue190
 t139:=Tryz.underlying191
 a139:=Tryz.isAgg191
 z139:=Tryz.sizeOf191
 v139:=Tryz.zeroValue191
 t146:=Tryz.underlying192
 a146:=Tryz.isAgg192
 z146:=Tryz.sizeOf192
 v146:=Tryz.zeroValue192
 g1:=by kernel_rfl
 g3:=by kernel_rfl
 g4:=by kernel_rfl }
open Go.RowKit Go.Lib in
theorem Tryz.strings_Split (s sep:ByteArray) (m:Int) (w:World) (hs:s.size<4294967281) (hm:w.cell? ⟨0,0,none⟩=some (.int .i64 m)) (h1:1≤sep.size):
  Calls Tryz.prog 120 #[.string s,.string sep] w fun e w'=>
   e=.returned (.slice (some ⟨w.heap.size,0,none⟩) (Lib.countB s sep+1) (Lib.countB s sep+1))∧w'=w.alloc (.cells ((Lib.splitB sep 0 (Lib.countB s sep) s).map Value.string).toArray 9):=Any.strings_Split Tryz.lays146 (by kernel_rfl) s sep m w hs hm h1
end Go.Proofs
end
section
namespace Go.Proofs.YtaidphhkhddemaaGreatDoor.PSky
open Go.RowKit
def LD (w:World):Prop:=Lib.TabIs Tryz.prog w "internal/strconv.uint64pow10" .u64 Lib.pow10Tab∧∃ m:Int,w.cell? ⟨0,0,none⟩=some (.int .i64 m)
theorem pow10_named:∃ g,(Tryz.prog).globalNamed "internal/strconv.uint64pow10" = some g:=Option.isSome_iff_exists.mp (by kernel_rfl)
theorem tab_below {P:Program} {n:String} {g:Nat} {k:IntKind} {zs:List Int} {w w':World} (hg:P.globalNamed n=some g) (h:Lib.TabIs P w n k zs) (hb:Below w.heap.size w w'):Lib.TabIs P w' n k zs:=by
 unfold Lib.TabIs World.var? at h ⊢
 rw [hg] at h ⊢
 simp only [Option.bind_some] at h ⊢
 have hlt:g<w.heap.size:=by
  rcases Nat.lt_or_ge g w.heap.size with h'|h'
  ·exact h'
  ·rw [Array.getElem?_eq_none h'] at h;cases h
 rw [hb.block g hlt]
 exact h
theorem LD.below {w w':World} (h:LD w) (hb:Below w.heap.size w w'):LD w':=by
 obtain ⟨g,hg⟩:=pow10_named
 obtain ⟨m,hm⟩:=h.2
 exact ⟨tab_below hg h.1 hb,m,(hb.cell (World.block_lt_of_cell? w _ hm)).trans hm⟩
end Go.Proofs.YtaidphhkhddemaaGreatDoor.PSky
end
section
namespace Go.Proofs.YtaidphhkhddemaaGreatDoor.PSky
open Go.RowKit Go.Shelf Go.Sort Go.Proofs.YtaidphhkhddemaaGreatDoorW.PrintWords Go.Proofs.YtaidphhkhddemaaGreatDoorW.PrintLast Go.Proofs.YtaidphhkhddemaaGreatDoorW.PrintMore
theorem below_grow_l (w:World) (q:Nat) (os:Array Obj):Below w.heap.size w (grow (w.drewN q) os):=
 ⟨rfl,rfl,rfl,by simp [grow],fun i hi=>by
  show ((w.drewN q).heap ++ os)[i]?=_
  rw [Array.getElem?_append_left (by show i<w.heap.size;omega)]
  rfl⟩
def strconv_Itoa.f (n:Int):Option ByteArray:=if -9223372036854775808≤n∧n≤9223372036854775807 then some ⟨(Lib.itoa n).toArray⟩ else none
theorem strconv_Itoa.calls (n:Int) (r:ByteArray) (w:World) (h:strconv_Itoa.f n=some r) (hLD:LD w):
  Calls Tryz.prog 119 #[.int .i64 n] w fun e w'=>e=.returned (.string r)∧Below w.heap.size w w':=by
 unfold strconv_Itoa.f at h
 split at h
 ·rename_i hn
  obtain rfl:=Option.some.inj h
  refine (Tryz.strconv_Itoa n hn.1 hn.2 w hLD.1).mono ?_
  rintro e w' ⟨rfl,k,os,rfl⟩
  exact ⟨rfl,below_grow_l _ _ _⟩
 ·cases h
def strings_Join.f (xs:List ByteArray) (sep:ByteArray):Option ByteArray:=
 if xs.length≤140737488355328∧(Lib.join (xs.map (·.data.toList)) sep.data.toList).length≤140737488355328 then some ⟨(Lib.join (xs.map (·.data.toList)) sep.data.toList).toArray⟩ else none
theorem strings_Join.calls (A0:Option Addr) (c0:Nat) (xs:List ByteArray) (sep r:ByteArray) (w:World) (hr0:Kd.C Kd.string w A0 xs.length xs) (hc0:xs.length≤c0) (h:strings_Join.f xs sep=some r):
  Calls Tryz.prog 118 #[.slice A0 xs.length c0,.string sep] w fun e w'=>e=.returned (.string r)∧Below w.heap.size w w':=by
 unfold strings_Join.f at h
 split at h
 ·rename_i hn
  obtain rfl:=Option.some.inj h
  cases xs with
  |nil=>
   refine (Tryz.strings_Join_none A0 c0 sep w).mono ?_
   rintro e w' ⟨rfl,rfl⟩
   exact ⟨rfl,Below.refl _ _⟩
  |cons x t=>
   obtain ⟨ad,rfl,hx0⟩:=Kd.at_string hr0 0 (by omega) (by simp)
   obtain ⟨b,o,sp⟩:=ad
   rw [show ((0:Int)).toNat=0 from rfl,Addr.add_zero'] at hx0
   obtain ⟨-,-,-,-,hsp⟩:=World.shape?_of_cell? hx0
   simp only at hsp
   subst hsp
   have hb:=World.block_lt_of_cell? w _ hx0
   refine (Tryz.strings_Join b o c0 (x :: t) sep w ?_ hb hn.1 hc0 hn.2).mono ?_
   ·intro j y hj
    have hlt:j<(x :: t).length:=(List.getElem?_eq_some_iff.mp hj).1
    obtain ⟨ad',e',hx⟩:=Kd.at_string hr0 (j:Int) (by omega) (by omega)
    cases e'
    rw [Int.toNat_natCast] at hx
    have hy:rdOf ByteArray.empty (x :: t) (j:Int)=y:=by
     unfold rdOf
     rw [Int.toNat_natCast,List.getD_eq_getElem?_getD,hj]
     rfl
    rw [hy] at hx
    have ha:Addr.add ⟨b,o,none⟩ j=⟨b,o+j,none⟩:=by
     unfold Addr.add
     split
     ·rename_i h0;subst h0;rfl
     ·rfl
    rw [ha] at hx
    exact hx
   ·rintro e w' ⟨rfl,hb'⟩
    exact ⟨rfl,hb'⟩
 ·cases h
end Go.Proofs.YtaidphhkhddemaaGreatDoor.PSky
end
section
namespace Go.Proofs.YtaidphhkhddemaaGreatDoor.PSky
open Go.RowKit Go.Shelf Go.Proofs.YtaidphhkhddemaaGreatDoorW.PrintWords Go.Proofs.YtaidphhkhddemaaGreatDoorW.PrintLast Go.Proofs.YtaidphhkhddemaaGreatDoorW.PrintMore
attribute [local go_sem] Oper.semAt_some
abbrev DayIn (lo hi:Int):Type:={ x:Int // lo≤x∧x≤hi }
def upDays (lo hi:Int):(n:Nat)→lo+n≤hi+1→List (DayIn lo hi)
 |0,_=>[]
 |n+1,h=>upDays lo hi n (by omega) ++ [⟨lo+n,by omega⟩]
theorem upDays_length {lo hi:Int}:∀ {n:Nat} (h:lo+n≤hi+1),(upDays lo hi n h).length=n
 |0,_=>rfl
 |n+1,h=>by rw [upDays,List.length_append,upDays_length];rfl
set_option maxRecDepth 100000 in
theorem days_calls (A0:Option Addr) (c0 len:Nat) (i1 i2 i3 lo hi:Int) (w:World):
  Calls Tryz.prog 89 #[.agg #[.slice A0 len c0,.int .i64 i1,.int .i64 i2,.int .i64 i3],.int .i64 lo,.int .i64 hi] w fun e w'=>
   e=.returned (.func (.func 123) #[] #[.pointer (some ⟨w.heap.size+1,0,none⟩),.pointer (some ⟨w.heap.size+2,0,none⟩),.pointer (some ⟨w.heap.size,0,none⟩)]) ∧
   w'=((w.alloc (.cells #[.slice A0 len c0,.int .i64 i1,.int .i64 i2,.int .i64 i3] 28)).alloc (.cells #[.int .i64 lo] 3)).alloc (.cells #[.int .i64 hi] 3):=by
 have hmf:∀ (fn:Fn) (first cap:Array Value) (w:World),(Instr.makeFunc fn first cap).run Tryz.prog w=.ok (.func fn first cap) w:=fun _ _ _ _=>rfl
 go_enter Tryz.func89,Tryz.ntmps89
 go_wp2;go_ret
 exact ⟨rfl,rfl⟩
def KpD (B:Nat) (W W':World):Prop:=∀ i,B≤i→i<B+3→W'.heap[i]?=W.heap[i]?
theorem KpD_t {B:Nat} {X Y Z:World} (h:KpD B X Y) (k:KpD B Y Z):KpD B X Z:=fun i h1 h2=>(k i h1 h2).trans (h i h1 h2)
theorem KpD_b {B:Nat} {w:World} (hB:B+3≤w.heap.size) (W:World) (l:Nat) (o o':Obj) (hl:w.heap.size≤l) (_:W.heap[l]?=some o) (_:o.isCells=false) (_:o.isWalk=false):KpD B W (W.putObj l o'):=
 fun i _ h2=>World.putObj_heap_other (by omega)
theorem KpD.refl (B:Nat) (W:World):KpD B W W:=fun _ _ _=>rfl
set_option maxRecDepth 100000 in
set_option maxHeartbeats 2000000 in
theorem days_c1_in (n:Nat) (hn:1≤n) (l B:Nat) (A0:Option Addr) (c0 len:Nat) (i1 i2 i3 lo hi:Int) (hlo:0≤lo) (hle:lo≤hi+1) (hhi:hi≤20000) (J Jx:List (DayIn lo hi)→World→Prop)
  (hY:∀ (pre:List (DayIn lo hi)) (x:DayIn lo hi) (W:World),J pre W→pre.length<(hi+1 - lo).toNat→YieldAt Fence.wide (n - 1) Tryz.prog l #[.agg #[.slice A0 len c0,.int .i64 i1,.int .i64 i2,.int .i64 i3,.int .i64 x.1]] W fun e W'=>
   (e=.returned (.bool true)∧J (pre ++ [x]) W'∧KpD B W W')∨(e=.returned (.bool false)∧Jx (pre ++ [x]) W'))
  (W:World) (hS:W.heap[B]?=some (.cells #[.slice A0 len c0,.int .i64 i1,.int .i64 i2,.int .i64 i3] 28 (0,0))) (hL:W.heap[B+1]?=some (.cells #[.int .i64 lo] 3 (0,0))) (hH:W.heap[B+2]?=some (.cells #[.int .i64 hi] 3 (0,0))) (h0:J [] W):
  CallsIn Fence.wide n Tryz.prog 123 #[.func (.yield l) #[] #[],.pointer (some ⟨B+1,0,none⟩),.pointer (some ⟨B+2,0,none⟩),.pointer (some ⟨B,0,none⟩)] W fun e W'=>(∃ v,e=.returned v) ∧
   ((∃ ys,(∃ k h,hi<lo+(k:Nat)∧ys=upDays lo hi k h)∧J ys W')∨(∃ pre,(∃ k h,pre=upDays lo hi k h)∧Jx pre W')):=by
 refine callsIn_of_wp Tryz.func123 rfl trivial ?_ rfl
 simp only [Tryz.ntmps123,List.size_toArray,List.length_cons,List.length_nil,Nat.reduceAdd,Nat.reduceSub,Array.replicate_succ,Array.replicate_zero,List.push_toArray,List.append_toArray,List.nil_append,List.cons_append]
 have l0:=blk_cell hL 0
 simp at l0
 clear hL
 gi_wp2
 gi_loopw [5] (fun d wr=>∃ (k:Nat) (h:lo+k≤hi+1),d=.int .i64 (lo+k)∧J (upDays lo hi k h) wr∧wr.heap[B]?=some (.cells #[.slice A0 len c0,.int .i64 i1,.int .i64 i2,.int .i64 i3] 28 (0,0))∧wr.heap[B+2]?=some (.cells #[.int .i64 hi] 3 (0,0)))
  (fun d _=>(hi+1 - intOf d).toNat)
 case atStart=>exact ⟨0,by omega,by simp,h0,hS,hH⟩
 case round=>
  obtain ⟨k,hk,rfl,hJs,hSr,hHr⟩:=hrel
  have r0:=blk_cell hSr 0
  have r1:=blk_cell hSr 1
  have r2:=blk_cell hSr 2
  have r3:=blk_cell hSr 3
  have t0:=blk_cell hHr 0
  simp at r0 r1 r2 r3 t0
  have HS:=A0_ hSr;have HH:=A0_ hHr;clear hSr hHr
  by_cases hlt:lo+k≤hi
  ·obtain ⟨fn,tmps,assign,body,hy,hR⟩:=hY _ ⟨lo+k,by omega⟩ wr hJs (by rw [upDays_length];omega)
   dsimp only at hy
   gi_wp2
   refine hR.mono ?_
   rintro e W3 (⟨rfl,hJ3,hk3⟩|⟨rfl,hJx3⟩)
   ·gi_wp2
    go_roundw
    case rel=>exact ⟨k+1,by omega,by go_num,hJ3,(hk3 B (by omega) (by omega)).trans HS.out,(hk3 (B+2) (by omega) (by omega)).trans HH.out⟩
    case measure=>simp [intOf];omega
   ·gi_wp2
    refine bodyPost_ret (results_none rfl _ _ _) rfl ?_
    exact ⟨⟨_,rfl⟩,.inr ⟨_,⟨k+1,by omega,rfl⟩,hJx3⟩⟩
  ·gi_wp2
   go_end0
   exact ⟨⟨_,rfl⟩,.inl ⟨_,⟨k,by omega,hk,rfl⟩,hJs⟩⟩
def AllDays (lo hi:Int) (ys:List (DayIn lo hi)):Prop:=∃ (k:Nat) (h:lo+k≤hi+1),hi<lo+(k:Nat)∧ys=upDays lo hi k h
def SomeDays (lo hi:Int) (ys:List (DayIn lo hi)):Prop:=∃ (k:Nat) (h:lo+k≤hi+1),ys=upDays lo hi k h
def encDay (A0:Option Addr) (len c0:Nat) (i1 i2 i3 lo hi:Int) (x:DayIn lo hi):Array Value:=#[.agg #[.slice A0 len c0,.int .i64 i1,.int .i64 i2,.int .i64 i3,.int .i64 x.1]]
theorem days_stops (n:Nat) (hn:1≤n) (B:Nat) (A0:Option Addr) (c0 len:Nat) (i1 i2 i3 lo hi:Int) (hlo:0≤lo) (hle:lo≤hi+1) (hhi:hi≤20000) (w:World)
  (hS:w.heap[B]?=some (.cells #[.slice A0 len c0,.int .i64 i1,.int .i64 i2,.int .i64 i3] 28 (0,0))) (hL:w.heap[B+1]?=some (.cells #[.int .i64 lo] 3 (0,0))) (hH:w.heap[B+2]?=some (.cells #[.int .i64 hi] 3 (0,0))):
  SeqStopsK Fence.wide n Tryz.prog 123 #[.pointer (some ⟨B+1,0,none⟩),.pointer (some ⟨B+2,0,none⟩),.pointer (some ⟨B,0,none⟩)] (encDay A0 len c0 i1 i2 i3 lo hi) (KpD B) (AllDays lo hi) (SomeDays lo hi) (hi+1 - lo).toNat w:=
 fun l J Jx W hW _ _ hY h0=>days_c1_in n hn l B A0 c0 len i1 i2 i3 lo hi hlo hle hhi J Jx hY W (blk_below hS hW) (blk_below hL hW) (blk_below hH hW) h0
end Go.Proofs.YtaidphhkhddemaaGreatDoor.PSky
end
section
namespace Go.Proofs.YtaidphhkhddemaaGreatDoor.PSky
open Go.RowKit Go.Proofs.YtaidphhkhddemaaGreatDoorW.PrintWords Go.Proofs.YtaidphhkhddemaaGreatDoorW.PrintLast Go.Proofs.YtaidphhkhddemaaGreatDoorW.PrintMore
theorem held_box {w:World} {Bo Bx:Nat} {t t':TypeId} {v a b c d e:Value} (hO:w.heap[Bo]?=some (.cells #[v] t (0,0))) (hX:w.heap[Bx]?=some (.cells #[a,b,c,d,e] t' (0,0))):
  w.cell? ⟨Bo,0,none⟩=some v∧w.cell? ⟨Bx,4,none⟩=some e∧w.frozen? ⟨Bo,0,none⟩=false:=
 ⟨by have:=blk_cell hO 0;simpa using this,by have:=blk_cell hX 4;simpa using this,blk_frozen hO 0⟩
theorem blk_eq_alloc2 (w:World) (o o':Obj) (i:Nat) (hi:i<w.heap.size):((w.alloc o).alloc o').drew.heap[i]?=w.heap[i]?:=by
 show ((w.alloc o).alloc o').heap[i]?=_
 rw [Below.heap_alloc (w.alloc o) o' i (by simp;omega),Below.heap_alloc w o i hi]
theorem moons_close {W w1 w2:World} {Bo n₀ gg cap T:Nat} {v:Value} {xs:List S51} {inner:List Value} {day:Int} {b:Bool}
  (hO:W.heap[Bo]?=some (.cells #[v] 31 (0,0))) (hn:n₀≤Bo) (HB:Below W.heap.size W w1) (hO1:w1.heap[Bo]?=some (.cells #[v] 31 (0,0)))
  (hown:w1.ownsRow n₀ 51 2 v xs.length inner) (hreps:Reps (k51.M w1 n₀ (fun k=>True∧some k≠v.ownBlock)) k51.sz xs inner)
  (hown1:w2.ownsRow n₀ 51 2 (.slice (some ⟨gg,0,none⟩) (xs.length+1) cap) (xs.length+1) (inner ++ [.int .i64 day,.bool b]))
  (hgrow:(((w1.alloc (.cells #[] T)).alloc (.cells #[.int .i64 day,.bool b] 51)).drew).grownBy w2 v.ownBlock):
  ∃ v',(w2.setCell ⟨Bo,0,none⟩ (.slice (some ⟨gg,0,none⟩) (xs.length+1) cap)).heap[Bo]?=some (.cells #[v'] 31 (0,0)) ∧
   Kd.R k51 51 (w2.setCell ⟨Bo,0,none⟩ (.slice (some ⟨gg,0,none⟩) (xs.length+1) cap)) n₀ (fun _=>True) v' (xs ++ [⟨day,b⟩]) ∧
   KeepBut W (w2.setCell ⟨Bo,0,none⟩ (.slice (some ⟨gg,0,none⟩) (xs.length+1) cap)) Bo v.ownBlock ∧
   Below n₀ W (w2.setCell ⟨Bo,0,none⟩ (.slice (some ⟨gg,0,none⟩) (xs.length+1) cap)):=by
 have hne:some Bo≠v.ownBlock:=Boxed.not_row (t:=31) hO1 (by decide) hown
 have hO2:w2.heap[Bo]?=some (.cells #[v] 31 (0,0)):=blk_grown (blk_drew (blk_alloc (blk_alloc hO1 _) _)) hgrow hne
 have hlo:=blk_lt hO
 have hz:=HB.size
 have hnW:n₀≤W.heap.size:=by omega
 have hn1:n₀≤w1.heap.size:=by omega
 refine ⟨.slice (some ⟨gg,0,none⟩) (xs.length+1) cap,blk_put hO2 0 _ rfl,?_,?_,?_⟩
 ·have h2:Kd.R k51 51 w2 n₀ (fun _=>True) (.slice (some ⟨gg,0,none⟩) (xs.length+1) cap) (xs ++ [⟨day,b⟩]):=by
   refine ⟨fun _ _=>trivial,inner ++ [.int .i64 day,.bool b],by rw [List.length_append];exact hown1,?_⟩
   refine Reps.snoc (hreps.imp_ fun p c hp=>?_) (k51_mkM w2 n₀ _ ⟨day,b⟩) rfl
   obtain rfl:=k51_openM hp
   exact k51_mkM w2 n₀ _ p
  exact Kd.R_set h2 hO2 (by intro q hq;simp [k51,Kd.iso,Kd.pair,Kd.int,Kd.bool,Kd.scalar] at hq;subst hq;decide) 0 _
 ·refine ⟨?_,fun i hi h1 h2=>?_⟩
  ·have:=hgrow.size;simp [World.setCell] at this ⊢;omega
  ·rw [Below.heap_setCell _ _ _ i h1,hgrow.block i (by simp;omega) h2]
   exact (blk_eq_alloc2 w1 _ _ i (by omega)).trans (HB.block i hi)
 ·refine Below.setCell (p:=⟨Bo,0,none⟩) ?_ hn _
  refine Below.grown ?_ hgrow (by simp;omega) (fun j e=>?_)
  ·exact below_drew (((HB.mono hnW).alloc hn1 _).alloc (by simp;omega) _)
  ·exact own_base hown j e
theorem full_new (w:World):Calls Tryz.prog 187 #[.agg #[]] w fun e w'=>e=.returned (.bool false)∧w'=w.alloc (.cells #[] 128):=by
 go_enter Tryz.func187,Tryz.ntmps187
 go_wp2;go_ret
 exact ⟨rfl,rfl⟩
theorem full_full (w:World):Calls Tryz.prog 188 #[.agg #[]] w fun e w'=>e=.returned (.bool true)∧w'=w.alloc (.cells #[] 129):=by
 go_enter Tryz.func188,Tryz.ntmps188
 go_wp2;go_ret
 exact ⟨rfl,rfl⟩
set_option maxRecDepth 100000 in
set_option maxHeartbeats 1600000 in
theorem moons_c1_new_no (k:Nat) (A0:Option Addr) (c0:Nat) (l0:List S83) (i1 i2 i3 day:Int) (Bo Bx:Nat) (W:World)
  (hC:Kd.C k83 W A0 l0.length l0) (hc:l0.length≤c0)
  (hX:W.heap[Bx]?=some (.cells #[.slice A0 l0.length c0,.int .i64 i1,.int .i64 i2,.int .i64 i3,.int .i64 day] 96 (0,0)))
  (h:at_has_new.f k l0 i1 i2 i3 day=some false):
  Calls Tryz.prog 101 #[.iface 128 (.agg #[]),.pointer (some ⟨Bx,0,none⟩),.pointer (some ⟨Bo,0,none⟩)] W fun e W'=>e=.returned (.tuple #[])∧Below W.heap.size W W':=by
 have HC:=A0_ hC;have HX:=A0_ hX;have H:=A0_ h
 have x0:=blk_cell hX 0
 have x1:=blk_cell hX 1
 have x2:=blk_cell hX 2
 have x3:=blk_cell hX 3
 have x4:=blk_cell hX 4
 simp at x0 x1 x2 x3 x4
 clear hC hX h
 go_enter Tryz.func101,Tryz.ntmps101
 go_wp2_with fail
 refine (at_has_new.calls k A0 c0 l0 i1 i2 i3 day false _ ?h1 hc H.out).mono ?_
 case h1=>exact HC.out
 rintro e w1 ⟨rfl,hb⟩;have HB:=A0_ hb;clear hb;go_wp2
 go_end0
 exact ⟨rfl,HB.out⟩
set_option maxRecDepth 100000 in
set_option maxHeartbeats 1600000 in
theorem moons_c1_new_yes (k:Nat) (A0:Option Addr) (c0:Nat) (l0:List S83) (i1 i2 i3 day:Int) (n₀ Bo Bx:Nat) (v:Value) (xs:List S51) (W:World)
  (hC:Kd.C k83 W A0 l0.length l0) (hc:l0.length≤c0)
  (hX:W.heap[Bx]?=some (.cells #[.slice A0 l0.length c0,.int .i64 i1,.int .i64 i2,.int .i64 i3,.int .i64 day] 96 (0,0)))
  (hO:W.heap[Bo]?=some (.cells #[v] 31 (0,0))) (hR:Kd.R k51 51 W n₀ (fun _=>True) v xs) (hn:n₀≤Bo) (hl:(xs.length+1)*16≤140737488355328)
  (h:at_has_new.f k l0 i1 i2 i3 day=some true):
  Calls Tryz.prog 101 #[.iface 128 (.agg #[]),.pointer (some ⟨Bx,0,none⟩),.pointer (some ⟨Bo,0,none⟩)] W fun e W'=>e=.returned (.tuple #[]) ∧
   ∃ v',W'.heap[Bo]?=some (.cells #[v'] 31 (0,0))∧Kd.R k51 51 W' n₀ (fun _=>True) v' (xs ++ [⟨day,false⟩])∧KeepBut W W' Bo v.ownBlock∧Below n₀ W W':=by
 have HC:=A0_ hC;have HX:=A0_ hX;have HO:=A0_ hO;have HR:=A0_ hR;have H:=A0_ h
 have x0:=blk_cell hX 0
 have x1:=blk_cell hX 1
 have x2:=blk_cell hX 2
 have x3:=blk_cell hX 3
 have x4:=blk_cell hX 4
 simp at x0 x1 x2 x3 x4
 clear hC hX hO hR h
 have hna:∀ w,(nilAhead 308 128 (.agg #[]) "tellurion/sky.full").run Tryz.prog w=.ok (some false) w:=fun _=>by kernel_rfl
 have hme:∀ w,(method 308 128 (.agg #[]) "tellurion/sky.full").run Tryz.prog w=.ok (187,.agg #[]) w:=fun _=>by kernel_rfl
 go_enter Tryz.func101,Tryz.ntmps101
 go_wp2_with fail
 refine (at_has_new.calls k A0 c0 l0 i1 i2 i3 day true _ ?h1 hc H.out).mono ?_
 case h1=>exact HC.out
 rintro e w1 ⟨rfl,hb⟩
 have HX1:=A0_ (blk_below HX.out hb)
 have HO1:=A0_ (blk_below HO.out hb)
 have HR1:=A0_ (Kd.R_below HR.out hb)
 have HB:=A0_ hb;clear hb x0 x1 x2 x3 x4
 have y4:=blk_cell HX1.out 4
 have o0:=blk_cell HO1.out 0
 have of:=blk_frozen HO1.out 0
 simp at y4 o0
 go_wp2_with fail
 have lo:=blk_lt HO1.out
 have lx:=blk_lt HX1.out
 obtain ⟨hr0,inner,hown,hreps⟩:=HR1.out
 obtain ⟨i0,hi0,hz0,hz1,hz2⟩:=info_parts info51
 have hbs:=HB.out.size
 have hnb:n₀≤w1.heap.size:=by omega
 have hmx:xs.length+1≤maxLen:=by unfold maxLen;omega
 have HNE:=A0_ (show some Bo≠v.ownBlock from Boxed.not_row (t:=31) HO1.out (by decide) hown)
 have HNX:=A0_ (show some Bx≠v.ownBlock from fun e'=>by
  obtain ⟨cells,hc'⟩:=own_typed hown Bx e'.symm
  rw [HX1.out] at hc'
  simp at hc')
 go_region_law
  ((first|(go_simp;go_at_call 187;refine (full_new _).mono ?_;rintro e w' ⟨rfl,rfl⟩)|(refine step_append_lies _ (by rfl) _ _ _ (by rfl) n₀ 51 i0 _ 2 16 Tryz.underlying31 hi0 hz0 hz1 hz2 rfl (by omega) v xs.length inner (by rfl) (((hown.alloc _).alloc _).drew) ⟨w1.heap.size+1,0,none⟩ 1 1 [.int .i64 day,.bool false] (by rfl) (by rfl) (World.news_of_block (cs:=#[.int .i64 day,.bool false]) (t:=51) (fr:=(0,0)) (by rw [show w1.heap.size+1=(w1.alloc (.cells #[] 128)).heap.size from by simp];exact heap_alloc_new _ _)) (by simp [Value.oneCell']) (by omega) hmx hl (by simp;omega) (w1.heap.size+2) (by simp) ?_;intro gg cap w2 hown1 hgrow hat hlt;obtain ⟨q20,q21,q22⟩:=held_box (blk_grown (blk_drew (blk_alloc (blk_alloc HO1.out _) _)) hgrow HNE.out) (blk_grown (blk_drew (blk_alloc (blk_alloc HX1.out _) _)) hgrow HNX.out))))
 all_goals
  go_wp2
  go_end0
  exact ⟨rfl,moons_close HO.out hn HB.out HO1.out hown hreps hown1 hgrow⟩
set_option maxRecDepth 100000 in
set_option maxHeartbeats 1600000 in
theorem moons_c1_full_no (k:Nat) (A0:Option Addr) (c0:Nat) (l0:List S83) (i1 i2 i3 day:Int) (Bo Bx:Nat) (W:World)
  (hC:Kd.C k83 W A0 l0.length l0) (hc:l0.length≤c0)
  (hX:W.heap[Bx]?=some (.cells #[.slice A0 l0.length c0,.int .i64 i1,.int .i64 i2,.int .i64 i3,.int .i64 day] 96 (0,0)))
  (h:at_has_full.f k l0 i1 i2 i3 day=some false):
  Calls Tryz.prog 101 #[.iface 129 (.agg #[]),.pointer (some ⟨Bx,0,none⟩),.pointer (some ⟨Bo,0,none⟩)] W fun e W'=>e=.returned (.tuple #[])∧Below W.heap.size W W':=by
 have HC:=A0_ hC;have HX:=A0_ hX;have H:=A0_ h
 have x0:=blk_cell hX 0
 have x1:=blk_cell hX 1
 have x2:=blk_cell hX 2
 have x3:=blk_cell hX 3
 have x4:=blk_cell hX 4
 simp at x0 x1 x2 x3 x4
 clear hC hX h
 go_enter Tryz.func101,Tryz.ntmps101
 go_wp2_with fail
 refine (at_has_full.calls k A0 c0 l0 i1 i2 i3 day false _ ?h1 hc H.out).mono ?_
 case h1=>exact HC.out
 rintro e w1 ⟨rfl,hb⟩;have HB:=A0_ hb;clear hb;go_wp2
 go_end0
 exact ⟨rfl,HB.out⟩
set_option maxRecDepth 100000 in
set_option maxHeartbeats 1600000 in
theorem moons_c1_full_yes (k:Nat) (A0:Option Addr) (c0:Nat) (l0:List S83) (i1 i2 i3 day:Int) (n₀ Bo Bx:Nat) (v:Value) (xs:List S51) (W:World)
  (hC:Kd.C k83 W A0 l0.length l0) (hc:l0.length≤c0)
  (hX:W.heap[Bx]?=some (.cells #[.slice A0 l0.length c0,.int .i64 i1,.int .i64 i2,.int .i64 i3,.int .i64 day] 96 (0,0)))
  (hO:W.heap[Bo]?=some (.cells #[v] 31 (0,0))) (hR:Kd.R k51 51 W n₀ (fun _=>True) v xs) (hn:n₀≤Bo) (hl:(xs.length+1)*16≤140737488355328)
  (h:at_has_full.f k l0 i1 i2 i3 day=some true):
  Calls Tryz.prog 101 #[.iface 129 (.agg #[]),.pointer (some ⟨Bx,0,none⟩),.pointer (some ⟨Bo,0,none⟩)] W fun e W'=>e=.returned (.tuple #[]) ∧
   ∃ v',W'.heap[Bo]?=some (.cells #[v'] 31 (0,0))∧Kd.R k51 51 W' n₀ (fun _=>True) v' (xs ++ [⟨day,true⟩])∧KeepBut W W' Bo v.ownBlock∧Below n₀ W W':=by
 have HC:=A0_ hC;have HX:=A0_ hX;have HO:=A0_ hO;have HR:=A0_ hR;have H:=A0_ h
 have x0:=blk_cell hX 0
 have x1:=blk_cell hX 1
 have x2:=blk_cell hX 2
 have x3:=blk_cell hX 3
 have x4:=blk_cell hX 4
 simp at x0 x1 x2 x3 x4
 clear hC hX hO hR h
 have hna:∀ w,(nilAhead 308 129 (.agg #[]) "tellurion/sky.full").run Tryz.prog w=.ok (some false) w:=fun _=>by kernel_rfl
 have hme:∀ w,(method 308 129 (.agg #[]) "tellurion/sky.full").run Tryz.prog w=.ok (188,.agg #[]) w:=fun _=>by kernel_rfl
 go_enter Tryz.func101,Tryz.ntmps101
 go_wp2_with fail
 refine (at_has_full.calls k A0 c0 l0 i1 i2 i3 day true _ ?h1 hc H.out).mono ?_
 case h1=>exact HC.out
 rintro e w1 ⟨rfl,hb⟩
 have HX1:=A0_ (blk_below HX.out hb)
 have HO1:=A0_ (blk_below HO.out hb)
 have HR1:=A0_ (Kd.R_below HR.out hb)
 have HB:=A0_ hb;clear hb x0 x1 x2 x3 x4
 have y4:=blk_cell HX1.out 4
 have o0:=blk_cell HO1.out 0
 have of:=blk_frozen HO1.out 0
 simp at y4 o0
 go_wp2_with fail
 have lo:=blk_lt HO1.out
 have lx:=blk_lt HX1.out
 obtain ⟨hr0,inner,hown,hreps⟩:=HR1.out
 obtain ⟨i0,hi0,hz0,hz1,hz2⟩:=info_parts info51
 have hbs:=HB.out.size
 have hnb:n₀≤w1.heap.size:=by omega
 have hmx:xs.length+1≤maxLen:=by unfold maxLen;omega
 have HNE:=A0_ (show some Bo≠v.ownBlock from Boxed.not_row (t:=31) HO1.out (by decide) hown)
 have HNX:=A0_ (show some Bx≠v.ownBlock from fun e'=>by
  obtain ⟨cells,hc'⟩:=own_typed hown Bx e'.symm
  rw [HX1.out] at hc'
  simp at hc')
 go_region_law
  ((first|(go_simp;go_at_call 188;refine (full_full _).mono ?_;rintro e w' ⟨rfl,rfl⟩)|(refine step_append_lies _ (by rfl) _ _ _ (by rfl) n₀ 51 i0 _ 2 16 Tryz.underlying31 hi0 hz0 hz1 hz2 rfl (by omega) v xs.length inner (by rfl) (((hown.alloc _).alloc _).drew) ⟨w1.heap.size+1,0,none⟩ 1 1 [.int .i64 day,.bool true] (by rfl) (by rfl) (World.news_of_block (cs:=#[.int .i64 day,.bool true]) (t:=51) (fr:=(0,0)) (by rw [show w1.heap.size+1=(w1.alloc (.cells #[] 129)).heap.size from by simp];exact heap_alloc_new _ _)) (by simp [Value.oneCell']) (by omega) hmx hl (by simp;omega) (w1.heap.size+2) (by simp) ?_;intro gg cap w2 hown1 hgrow hat hlt;obtain ⟨q20,q21,q22⟩:=held_box (blk_grown (blk_drew (blk_alloc (blk_alloc HO1.out _) _)) hgrow HNE.out) (blk_grown (blk_drew (blk_alloc (blk_alloc HX1.out _) _)) hgrow HNX.out))))
 all_goals
  go_wp2
  go_end0
  exact ⟨rfl,moons_close HO.out hn HB.out HO1.out hown hreps hown1 hgrow⟩
end Go.Proofs.YtaidphhkhddemaaGreatDoor.PSky
end
section
namespace Go.Proofs.YtaidphhkhddemaaGreatDoor.PSky
open Go.RowKit Go.Shelf Go.Proofs.YtaidphhkhddemaaGreatDoorW.PrintWords Go.Proofs.YtaidphhkhddemaaGreatDoorW.PrintLast Go.Proofs.YtaidphhkhddemaaGreatDoorW.PrintMore
attribute [local go_sem] Oper.semAt_some
theorem moons_c1_new (k:Nat) (A0:Option Addr) (c0:Nat) (l0:List S83) (i1 i2 i3 day:Int) (n₀ Bo Bx:Nat) (v:Value) (xs:List S51) (r:Bool) (W:World)
  (hC:Kd.C k83 W A0 l0.length l0) (hc:l0.length≤c0)
  (hX:W.heap[Bx]?=some (.cells #[.slice A0 l0.length c0,.int .i64 i1,.int .i64 i2,.int .i64 i3,.int .i64 day] 96 (0,0)))
  (hO:W.heap[Bo]?=some (.cells #[v] 31 (0,0))) (hR:Kd.R k51 51 W n₀ (fun _=>True) v xs) (hn:n₀≤Bo) (hl:(xs.length+1)*16≤140737488355328)
  (h:at_has_new.f k l0 i1 i2 i3 day=some r):
  Calls Tryz.prog 101 #[.iface 128 (.agg #[]),.pointer (some ⟨Bx,0,none⟩),.pointer (some ⟨Bo,0,none⟩)] W fun e W'=>e=.returned (.tuple #[]) ∧
   ∃ v',W'.heap[Bo]?=some (.cells #[v'] 31 (0,0))∧Kd.R k51 51 W' n₀ (fun _=>True) v' (xs ++ if r then [⟨day,false⟩] else [])∧KeepBut W W' Bo v.ownBlock∧Below n₀ W W':=by
 cases r with
 |true=>exact moons_c1_new_yes k A0 c0 l0 i1 i2 i3 day n₀ Bo Bx v xs W hC hc hX hO hR hn hl h
 |false=>
  refine (moons_c1_new_no k A0 c0 l0 i1 i2 i3 day Bo Bx W hC hc hX h).mono ?_
  rintro e W' ⟨rfl,hb⟩
  exact ⟨rfl,v,blk_below hO hb,by simpa using Kd.R_below hR hb,KeepBut.of_below hb _ _,hb.mono (by have:=blk_lt hO;omega)⟩
theorem moons_c1_full (k:Nat) (A0:Option Addr) (c0:Nat) (l0:List S83) (i1 i2 i3 day:Int) (n₀ Bo Bx:Nat) (v:Value) (xs:List S51) (r:Bool) (W:World)
  (hC:Kd.C k83 W A0 l0.length l0) (hc:l0.length≤c0)
  (hX:W.heap[Bx]?=some (.cells #[.slice A0 l0.length c0,.int .i64 i1,.int .i64 i2,.int .i64 i3,.int .i64 day] 96 (0,0)))
  (hO:W.heap[Bo]?=some (.cells #[v] 31 (0,0))) (hR:Kd.R k51 51 W n₀ (fun _=>True) v xs) (hn:n₀≤Bo) (hl:(xs.length+1)*16≤140737488355328)
  (h:at_has_full.f k l0 i1 i2 i3 day=some r):
  Calls Tryz.prog 101 #[.iface 129 (.agg #[]),.pointer (some ⟨Bx,0,none⟩),.pointer (some ⟨Bo,0,none⟩)] W fun e W'=>e=.returned (.tuple #[]) ∧
   ∃ v',W'.heap[Bo]?=some (.cells #[v'] 31 (0,0))∧Kd.R k51 51 W' n₀ (fun _=>True) v' (xs ++ if r then [⟨day,true⟩] else [])∧KeepBut W W' Bo v.ownBlock∧Below n₀ W W':=by
 cases r with
 |true=>exact moons_c1_full_yes k A0 c0 l0 i1 i2 i3 day n₀ Bo Bx v xs W hC hc hX hO hR hn hl h
 |false=>
  refine (moons_c1_full_no k A0 c0 l0 i1 i2 i3 day Bo Bx W hC hc hX h).mono ?_
  rintro e W' ⟨rfl,hb⟩
  exact ⟨rfl,v,blk_below hO hb,by simpa using Kd.R_below hR hb,KeepBut.of_below hb _ _,hb.mono (by have:=blk_lt hO;omega)⟩
def moonsAt (k:Nat) (l:List S83) (i1 i2 i3 d:Int):List S51:=
 (if at_has_new.f k l i1 i2 i3 d=some true then [⟨d,false⟩] else []) ++ (if at_has_full.f k l i1 i2 i3 d=some true then [⟨d,true⟩] else [])
def daysOf (lo hi:Int):List Int:=(List.range (hi+1 - lo).toNat).map fun j=>lo+(j:Nat)
def sky_moons.f (k:Nat) (l:List S83) (i1 i2 i3 lo hi:Int):Option (List S51):=
 if 0≤lo∧lo≤hi+1∧hi≤20000∧∀ d∈daysOf lo hi,(at_has_new.f k l i1 i2 i3 d).isSome=true∧(at_has_full.f k l i1 i2 i3 d).isSome=true then some ((daysOf lo hi).flatMap (moonsAt k l i1 i2 i3)) else none
theorem R_ownFrom {α:Type} {d:Kd α} {e base:Nat} {X Y:World} {v:Value} {xs:List α} {row:Option Nat} (h:d.R e X base (fun _=>True) v xs) (hg:X.grownBy Y row) (hr:∀ r,row=some r→∃ o:Obj,X.heap[r]?=some o∧o.isCells=false):
  d.R e Y base (fun _=>True) v xs:=
 Kd.R_mono (Kd.R_grown (Kd.R_bound h) hg (fun k hk e'=>by
  obtain ⟨_,_,_,q,_,cells,hc⟩:=hk
  obtain ⟨o,ho,hno⟩:=hr k e'.symm
  rw [hc] at ho
  cases ho
  cases hno)) (fun _ _=>trivial)
theorem blk_ownFrom {X Y:World} {b t:Nat} {cs:Array Value} {row:Option Nat} (h:X.heap[b]?=some (.cells cs t (0,0))) (hg:X.grownBy Y row) (hr:∀ r,row=some r→∃ o:Obj,X.heap[r]?=some o∧o.isCells=false):
  Y.heap[b]?=some (.cells cs t (0,0)):=
 blk_grown h hg (fun e'=>by
  obtain ⟨o,ho,hno⟩:=hr b e'.symm
  rw [h] at ho
  cases ho
  cases hno)
structure MoonsI (w W0:World) (A0:Option Addr) (c0 len:Nat) (i1 i2 i3 lo hi:Int) (xs:List S51) (W:World):Prop where
 out:∃ v,W.heap[w.heap.size+1]?=some (.cells #[v] 31 (0,0))∧Kd.R k51 51 W w.heap.size (fun _=>True) v xs
 below:Below w.heap.size w W
 size:W0.heap.size≤W.heap.size
 s:W.heap[w.heap.size+2]?=some (.cells #[.slice A0 len c0,.int .i64 i1,.int .i64 i2,.int .i64 i3] 28 (0,0))
 lo:W.heap[w.heap.size+3]?=some (.cells #[.int .i64 lo] 3 (0,0))
 hi:W.heap[w.heap.size+4]?=some (.cells #[.int .i64 hi] 3 (0,0))
theorem MoonsI.own {w W0:World} {A0:Option Addr} {c0 len:Nat} {i1 i2 i3 lo hi:Int} {β:Type} {f:β→List S51} {B:Nat} (hB:w.heap.size≤B):
  OwnFrom B (fun (s:β) W=>MoonsI w W0 A0 c0 len i1 i2 i3 lo hi (f s) W):=by
 intro s X Y row h hg hr
 have hr':∀ r,row=some r→∃ o:Obj,X.heap[r]?=some o∧o.isCells=false:=fun r e=>(hr r e).2
 obtain ⟨⟨v,h1,h2⟩,h3,h4,h5,h6,h7⟩:=h
 exact ⟨⟨v,blk_ownFrom h1 hg hr',R_ownFrom h2 hg hr'⟩,h3.grown hg h3.size (fun k e=>by have:=(hr k e).1;omega),Nat.le_trans h4 hg.size,blk_ownFrom h5 hg hr',blk_ownFrom h6 hg hr',blk_ownFrom h7 hg hr'⟩
theorem row_ne {α:Type} {d:Kd α} {e base b t:Nat} {ok:Nat→Prop} {W:World} {v:Value} {xs:List α} {cs:Array Value} (h:d.R e W base ok v xs) (hb:W.heap[b]?=some (.cells cs t (0,0))) (ht:e≠t):some b≠v.ownBlock:=Kd.R_ne h hb ht
theorem MoonsI.step {w W0 W W':World} {A0:Option Addr} {c0 len:Nat} {i1 i2 i3 lo hi:Int} {xs ys:List S51} {v v':Value} (h:MoonsI w W0 A0 c0 len i1 i2 i3 lo hi xs W)
  (hO:W.heap[w.heap.size+1]?=some (.cells #[v] 31 (0,0))) (hR:Kd.R k51 51 W w.heap.size (fun _=>True) v xs)
  (hO':W'.heap[w.heap.size+1]?=some (.cells #[v'] 31 (0,0))) (hR':Kd.R k51 51 W' w.heap.size (fun _=>True) v' ys)
  (hk:KeepBut W W' (w.heap.size+1) v.ownBlock) (hb:Below w.heap.size W W'):
  MoonsI w W0 A0 c0 len i1 i2 i3 lo hi ys W'∧KeepsFrom W0.heap.size W W'∧KpD (w.heap.size+2) W W':=by
 have e1:=hk.2 (w.heap.size+2) (blk_lt h.s) (by omega) (row_ne hR h.s (by decide))
 have e2:=hk.2 (w.heap.size+3) (blk_lt h.lo) (by omega) (row_ne hR h.lo (by decide))
 have e3:=hk.2 (w.heap.size+4) (blk_lt h.hi) (by omega) (row_ne hR h.hi (by decide))
 refine ⟨⟨⟨v',hO',hR'⟩,h.below.trans hb,Nat.le_trans h.size hk.1,e1.trans h.s,e2.trans h.lo,e3.trans h.hi⟩,⟨hk.1,fun i o _ hi hc=>?_⟩,fun i h1 h2=>?_⟩
 ·refine (hk.2 i (Array.getElem?_eq_some_iff.1 hi).1 (fun e=>?_) (fun e=>?_)).trans hi
  ·rw [e,hO] at hi;cases hi;cases hc
  ·obtain ⟨inner,ho⟩:=Kd.R_own hR
   obtain ⟨cells,hcl⟩:=own_typed ho i e.symm
   rw [hcl] at hi;cases hi;cases hc
 ·have:i=w.heap.size+2∨i=w.heap.size+3∨i=w.heap.size+4:=by omega
  rcases this with rfl|rfl|rfl
  ·exact e1
  ·exact e2
  ·exact e3
theorem mem_daysOf {lo hi d:Int}:d∈daysOf lo hi ↔ lo≤d∧d≤hi:=by
 unfold daysOf
 rw [List.mem_map]
 constructor
 ·rintro ⟨j,hj,rfl⟩
  have:=List.mem_range.1 hj
  omega
 ·intro h
  exact ⟨(d - lo).toNat,List.mem_range.2 (by omega),by omega⟩
theorem upDays_val {lo hi:Int}:∀ {n:Nat} (h:lo+n≤hi+1),(upDays lo hi n h).map (·.1)=(List.range n).map fun j=>lo+(j:Nat)
 |0,_=>rfl
 |n+1,h=>by rw [upDays,List.map_append,upDays_val,List.range_succ,List.map_append];rfl
theorem allDays_val {lo hi:Int} {ys:List (DayIn lo hi)} (h:AllDays lo hi ys):ys.map (·.1)=daysOf lo hi:=by
 obtain ⟨k,hk,h1,rfl⟩:=h
 rw [upDays_val,daysOf,show (hi+1 - lo).toNat=k from by omega]
theorem flatMap_val {α β:Type} {p:α→Prop} (f:α→List β) (ys:List { x:α // p x }):(ys.flatMap fun x=>f x.1)=(ys.map (·.1)).flatMap f:=by
 induction ys with
 |nil=>rfl
 |cons y ys ih=>simp [List.flatMap_cons,ih]
theorem moonsAt_length (k:Nat) (l:List S83) (i1 i2 i3 d:Int):(moonsAt k l i1 i2 i3 d).length≤2:=by
 unfold moonsAt
 split <;> split <;> simp
theorem moons_length (k:Nat) (l:List S83) (i1 i2 i3:Int) {lo hi:Int} (pre:List (DayIn lo hi)):(pre.flatMap fun x=>moonsAt k l i1 i2 i3 x.1).length≤2*pre.length:=by
 induction pre with
 |nil=>simp
 |cons y ys ih=>rw [List.flatMap_cons,List.length_append,List.length_cons];have:=moonsAt_length k l i1 i2 i3 y.1;omega
set_option maxRecDepth 100000 in
set_option maxHeartbeats 1600000 in
theorem sky_moons.calls (k:Nat) (A0_0:Option Addr) (c0_0:Nat) (l0_0:List S83) (a0_1 a0_2 a0_3 a1 a2:Int) (r:List S51) (w:World)
  (hr0_0:Kd.C k83 w A0_0 l0_0.length l0_0) (hc0_0:l0_0.length≤c0_0) (h:sky_moons.f k l0_0 a0_1 a0_2 a0_3 a1 a2=some r):
  Calls Tryz.prog 54 #[.agg #[.slice A0_0 l0_0.length c0_0,.int .i64 a0_1,.int .i64 a0_2,.int .i64 a0_3],.int .i64 a1,.int .i64 a2] w fun e w'=>∃ v0_:Value,e=.returned (v0_)∧Kd.R k51 51 w' w.heap.size (fun _=>True) v0_ r∧Below w.heap.size w w':=by
 have HR:=A0_ hr0_0;have HC:=A0_ hc0_0;have HF:=A0_ h;clear hr0_0 hc0_0 h
 have hmf:∀ (fn:Fn) (first cap:Array Value) (w:World),(Instr.makeFunc fn first cap).run Tryz.prog w=.ok (.func fn first cap) w:=fun _ _ _ _=>rfl
 refine (callsIn_wide (n:=5)).1 ?_
 refine callsIn_of_wp_marks Tryz.func54 rfl trivial ?_ rfl
 simp only [Tryz.ntmps54,List.size_toArray,List.length_cons,List.length_nil,Nat.reduceAdd,Nat.reduceSub,Array.replicate_succ,Array.replicate_zero,List.push_toArray,List.append_toArray,List.nil_append,List.cons_append]
 gi_wp2_with (refine ⟨trivial,?_⟩;gi_at_call 89;refine (callsIn_wide.2 (days_calls A0_0 c0_0 l0_0.length a0_1 a0_2 a0_3 a1 a2 _)).mono ?_;rintro e w' ⟨rfl,rfl⟩)
 have hcond:0≤a1∧a1≤a2+1∧a2≤20000∧∀ d∈daysOf a1 a2,(at_has_new.f k l0_0 a0_1 a0_2 a0_3 d).isSome=true∧(at_has_full.f k l0_0 a0_1 a0_2 a0_3 d).isSome=true:=by
  have h:=HF.out
  unfold sky_moons.f at h
  split at h
  ·assumption
  ·cases h
 have hres:(daysOf a1 a2).flatMap (moonsAt k l0_0 a0_1 a0_2 a0_3)=r:=by
  have h:=HF.out
  unfold sky_moons.f at h
  rw [if_pos hcond] at h
  exact Option.some.inj h
 obtain ⟨hc1,hc2,hc3,hc4⟩:=hcond
 have HRES:=A0_ hres;have HC4:=A0_ hc4;clear hres hc4
 have hB0:Below w.heap.size w (((((w.alloc (.cells #[.slice A0_0 l0_0.length c0_0,.int .i64 a0_1,.int .i64 a0_2,.int .i64 a0_3] 28)).alloc (.cells #[.slice none 0 0] 31)).alloc (.cells #[.slice A0_0 l0_0.length c0_0,.int .i64 a0_1,.int .i64 a0_2,.int .i64 a0_3] 28)).alloc (.cells #[.int .i64 a1] 3)).alloc (.cells #[.int .i64 a2] 3)):=
  below_alloc (below_alloc (below_alloc (below_alloc (below_alloc (Below.refl _ _) _) _) _) _) _
 have hO:=blk_alloc (blk_alloc (blk_alloc (blk_new (w.alloc (.cells #[.slice A0_0 l0_0.length c0_0,.int .i64 a0_1,.int .i64 a0_2,.int .i64 a0_3] 28)) (.cells #[.slice none 0 0] 31)) (.cells #[.slice A0_0 l0_0.length c0_0,.int .i64 a0_1,.int .i64 a0_2,.int .i64 a0_3] 28)) (.cells #[.int .i64 a1] 3)) (.cells #[.int .i64 a2] 3)
 have hS:=blk_alloc (blk_alloc (blk_new ((w.alloc (.cells #[.slice A0_0 l0_0.length c0_0,.int .i64 a0_1,.int .i64 a0_2,.int .i64 a0_3] 28)).alloc (.cells #[.slice none 0 0] 31)) (.cells #[.slice A0_0 l0_0.length c0_0,.int .i64 a0_1,.int .i64 a0_2,.int .i64 a0_3] 28)) (.cells #[.int .i64 a1] 3)) (.cells #[.int .i64 a2] 3)
 have hL:=blk_alloc (blk_new (((w.alloc (.cells #[.slice A0_0 l0_0.length c0_0,.int .i64 a0_1,.int .i64 a0_2,.int .i64 a0_3] 28)).alloc (.cells #[.slice none 0 0] 31)).alloc (.cells #[.slice A0_0 l0_0.length c0_0,.int .i64 a0_1,.int .i64 a0_2,.int .i64 a0_3] 28)) (.cells #[.int .i64 a1] 3)) (.cells #[.int .i64 a2] 3)
 have hH:=blk_new ((((w.alloc (.cells #[.slice A0_0 l0_0.length c0_0,.int .i64 a0_1,.int .i64 a0_2,.int .i64 a0_3] 28)).alloc (.cells #[.slice none 0 0] 31)).alloc (.cells #[.slice A0_0 l0_0.length c0_0,.int .i64 a0_1,.int .i64 a0_2,.int .i64 a0_3] 28)).alloc (.cells #[.int .i64 a1] 3)) (.cells #[.int .i64 a2] 3)
 have hsz:(((((w.alloc (.cells #[.slice A0_0 l0_0.length c0_0,.int .i64 a0_1,.int .i64 a0_2,.int .i64 a0_3] 28)).alloc (.cells #[.slice none 0 0] 31)).alloc (.cells #[.slice A0_0 l0_0.length c0_0,.int .i64 a0_1,.int .i64 a0_2,.int .i64 a0_3] 28)).alloc (.cells #[.int .i64 a1] 3)).alloc (.cells #[.int .i64 a2] 3)).heap.size=w.heap.size+5:=by simp
 simp only [World.size_alloc] at hO hS hL hH
 generalize (((((w.alloc (.cells #[.slice A0_0 l0_0.length c0_0,.int .i64 a0_1,.int .i64 a0_2,.int .i64 a0_3] 28)).alloc (.cells #[.slice none 0 0] 31)).alloc (.cells #[.slice A0_0 l0_0.length c0_0,.int .i64 a0_1,.int .i64 a0_2,.int .i64 a0_3] 28)).alloc (.cells #[.int .i64 a1] 3)).alloc (.cells #[.int .i64 a2] 3))=W0 at hO hS hL hH hsz hB0 ⊢
 refine wpIn_rangeFunc_ownH rfl (by omega) (gf:=123) (lb:=#[.pointer (some ⟨w.heap.size+3,0,none⟩),.pointer (some ⟨w.heap.size+4,0,none⟩),.pointer (some ⟨w.heap.size+2,0,none⟩)]) rfl trivial (enters_of Tryz.func123 (by kernel_rfl) rfl)
  (days_stops (5 - 1) (by omega) (w.heap.size+2) A0_0 c0_0 l0_0.length a0_1 a0_2 a0_3 a1 a2 hc1 hc2 hc3 W0 hS hL hH) KpD_t (KpD_b (by omega)) (Below.refl _ _) (fun _=>rfl)
  (fun pre W=>MoonsI w W0 A0_0 c0_0 l0_0.length a0_1 a0_2 a0_3 a1 a2 (pre.flatMap fun x=>moonsAt k l0_0 a0_1 a0_2 a0_3 x.1) W)
  (fun _ _ _=>False)
  (MoonsI.own (by omega)) (fun _ _ _ _ _ hs _ _=>hs) ⟨⟨_,hO,Kd.R_nil _ _ _ _ _⟩,hB0,Nat.le_refl _,hS,hL,hH⟩
  (fun x a' W=>∃ Bx,W0.heap.size≤Bx∧W.heap[Bx]?=some (.cells #[.slice A0_0 l0_0.length c0_0,.int .i64 a0_1,.int .i64 a0_2,.int .i64 a0_3,.int .i64 x.1] 96 (0,0))∧a'={ tmps:=#[.agg #[.slice A0_0 l0_0.length c0_0,.int .i64 a0_1,.int .i64 a0_2,.int .i64 a0_3],.int .i64 a1,.int .i64 a2,.pointer (some ⟨w.heap.size,0,none⟩),undef,undef,.slice none 0 0,.pointer (some ⟨w.heap.size+1,0,none⟩),.pointer (some ⟨Bx,0,none⟩),undef,.agg #[.slice A0_0 l0_0.length c0_0,.int .i64 a0_1,.int .i64 a0_2,.int .i64 a0_3],.int .i64 a1,.int .i64 a2,.func (.func 123) #[] #[.pointer (some ⟨w.heap.size+3,0,none⟩),.pointer (some ⟨w.heap.size+4,0,none⟩),.pointer (some ⟨w.heap.size+2,0,none⟩)],.agg #[.slice A0_0 l0_0.length c0_0,.int .i64 a0_1,.int .i64 a0_2,.int .i64 a0_3,.int .i64 x.1],undef,undef,undef,undef,undef,undef,undef,undef,undef,undef],defers:=[] })
  ?hAx ?assign ?body ?done ?stop
 case hAx=>
  rintro x a' _ X Y row ⟨Bx,h1,h2,h3⟩ hg hr
  exact ⟨Bx,h1,blk_ownFrom h2 hg (fun r e=>(hr r e).2),h3⟩
 case assign=>
  rintro l pre x W K hI hK
  dsimp only [encDay]
  have hs:=hI.size
  obtain ⟨⟨v,hOv,hRv⟩,hBW,hsW,hSW,hLW,hHW⟩:=hI
  gi_wp2
  exact hK _ _ ((KeepsOthers.alloc _ _).from _) (fun i h1 h2=>Below.heap_alloc _ _ _ (by omega)) ⟨⟨v,blk_alloc hOv _,Kd.R_alloc hRv _⟩,below_alloc hBW _,by simp;omega,blk_alloc hSW _,blk_alloc hLW _,blk_alloc hHW _⟩ ⟨W.heap.size,hs,blk_new _ _,rfl⟩
 case body=>
  rintro l pre x a' W hl ⟨rr,hrr⟩ hI ⟨Bx,hBx,hX,rfl⟩ hlt
  have hlen:=moons_length k l0_0 a0_1 a0_2 a0_3 pre
  obtain ⟨hn0,hf0⟩:=HC4.out x.1 (mem_daysOf.2 x.2)
  obtain ⟨b1,hb1⟩:=Option.isSome_iff_exists.1 hn0
  obtain ⟨b2,hb2⟩:=Option.isSome_iff_exists.1 hf0
  obtain ⟨v,hOv,hRv⟩:=hI.out
  have HB1:=A0_ hb1;have HB2:=A0_ hb2;have HX:=A0_ hX;have HOv:=A0_ hOv;have HRv:=A0_ hRv;have HI:=A0_ hI;clear hn0 hf0 hb1 hb2 hX hOv hRv hI hO hS hL hH hrr
  gi_wp2_with fail
  refine ⟨trivial,?_⟩
  refine (CallsIn.inRound l (callsIn_wide.2 (moons_c1_new k A0_0 c0_0 l0_0 a0_1 a0_2 a0_3 x.1 w.heap.size (w.heap.size+1) Bx v _ b1 W (Kd.C_below HR.out HI.out.below) HC.out HX.out HOv.out HRv.out (Nat.le_succ _) (by omega) HB1.out))).mono ?_
  rintro e W1 ⟨rfl,v1,hO1,hR1,hk1,hbl1⟩
  have st1:=MoonsI.step HI.out HOv.out HRv.out hO1 hR1 hk1 hbl1
  have HI1:=A0_ st1.1
  have HK1:=A0_ st1.2.1
  have HP1:=A0_ st1.2.2
  have hX1:=(hk1.2 Bx (blk_lt HX.out) (by omega) (row_ne HRv.out HX.out (by decide))).trans HX.out
  have HX1:=A0_ hX1;have HO1:=A0_ hO1;have HR1:=A0_ hR1
  have hlen1:(if b1=true then ([⟨x.1,false⟩]:List S51) else []).length≤1:=by split <;> simp
  clear st1 hO1 hR1 hk1 hbl1 hX1
  gi_wp2_with fail
  refine ⟨trivial,?_⟩
  refine (CallsIn.inRound l (callsIn_wide.2 (moons_c1_full k A0_0 c0_0 l0_0 a0_1 a0_2 a0_3 x.1 w.heap.size (w.heap.size+1) Bx v1 _ b2 W1 (Kd.C_below HR.out HI1.out.below) HC.out HX1.out HO1.out HR1.out (Nat.le_succ _) (by rw [List.length_append];omega) HB2.out))).mono ?_
  rintro e W2 ⟨rfl,v2,hO2,hR2,hk2,hbl2⟩
  have st2:=MoonsI.step HI1.out HO1.out HR1.out hO2 hR2 hk2 hbl2
  have HI2:=A0_ st2.1
  have HK2:=A0_ (HK1.out.trans st2.2.1)
  have HP2:=A0_ (KpD_t HP1.out st2.2.2)
  clear st2 hO2 hR2 hk2 hbl2 hlen1
  gi_wp2
  refine ⟨HK2.out,HP2.out,?_⟩
  have e1:(pre ++ [x]).flatMap (fun x=>moonsAt k l0_0 a0_1 a0_2 a0_3 x.1)=(pre.flatMap fun x=>moonsAt k l0_0 a0_1 a0_2 a0_3 x.1) ++ (if b1=true then [⟨x.1,false⟩] else []) ++ (if b2=true then [⟨x.1,true⟩] else []):=by
   rw [List.flatMap_append,List.flatMap_cons,List.flatMap_nil,List.append_nil,List.append_assoc]
   congr 1
   unfold moonsAt
   rw [HB1.out,HB2.out]
   simp only [Option.some.injEq]
  dsimp only
  rw [e1]
  exact HI2.out
 case done=>
  rintro D ys W hD hys hI hK
  obtain ⟨v,hOv,hRv⟩:=hI.out
  have o0:=blk_cell hOv 0
  simp at o0
  have HI:=A0_ hI;have HRv:=A0_ hRv;have HYS:=A0_ hys;clear hI hRv hOv hys hO hS hL hH
  gi_wp2
  refine ⟨by simp,.inl ⟨_,_,rfl,run_takeDeferred hK,?_⟩⟩
  refine ⟨_,results_tmp rfl _ _ _,v,rfl,?_,HI.out.below.trans (belowK_b (w:=w) (Nat.le_refl _) W D _ _ (by omega) hK rfl rfl)⟩
  have hr:(ys.flatMap fun x=>moonsAt k l0_0 a0_1 a0_2 a0_3 x.1)=r:=by rw [flatMap_val (moonsAt k l0_0 a0_1 a0_2 a0_3) ys,allDays_val HYS.out];exact HRES.out
  rw [← hr]
  exact R_ownFrom HRv.out (grownBy_putObj' W D (.deferred none)) (fun q e=>by cases e;exact ⟨_,hK,rfl⟩)
 case stop=>
  rintro D c pre W _ _ h _
  exact h.elim
end Go.Proofs.YtaidphhkhddemaaGreatDoor.PSky
end
