/- A part of the proof of a law of the layer sky. -/
import Derived.Laws.LoneSync
import Derived.LoopIn
import Derived.LoopN
import Derived.LoopNIn
import Derived.Outline
import Derived.OwnWalkIn
import Derived.RangeFuncBound
import Derived.RangeFuncCalls
import Derived.RangeFuncLeaves
import Derived.RangeFuncNested
import Derived.Shelf.Abstract
import Derived.Shelf.LaysM
import Derived.Shelf.RegionOpen
import Derived.Shelf.Strconv.Itoa0
import Derived.Shelf.Strconv.Itoa1
import Derived.Shelf.Strconv.Itoa2
import Derived.Shelf.Strconv.Itoa3
import Derived.Shelf.Strings.Builder1
import Derived.Shelf.Strings.Builder2
import Derived.Shelf.Strings.Count
import Derived.Shelf.Strings.Explode
import Derived.Shelf.Strings.OnBuilder
import Derived.Shelf.Strings.Prefix
import Derived.Shelf.Strings.RuneCount
import Derived.Shelf.Strings.Search1
import Derived.Shelf.Strings.Search2
import Derived.Shelf.Strings.Search3
import Derived.Shelf.Strings.Shaped
import Derived.Shelf.Strings.Split
import Derived.Shelf.Strings.SplitShaped
import Derived.Shelf.Unicode.Decode
import Derived.Shelf.Unicode.DecodeAny
import Derived.Shelf.Unicode.DecodeSlow
import Derived.Shelf.Utf8.RuneCount
import Derived.TacticsInMore
import Derived.Test.YtjahbgldccjbfaaGreatDoorProg
import Derived.WalkKit
import Derived.Test.YtjahbgldccjbfaaGreatDoorY3
section
namespace Go.Proofs.YtjahbgldccjbfaaGreatDoor.PSky
open Go.RowKit Go.Proofs.YtjahbgldccjbfaaGreatDoorW.PrintWords Go.Proofs.YtjahbgldccjbfaaGreatDoorW.PrintLast Go.Proofs.YtjahbgldccjbfaaGreatDoorW.PrintMore
attribute [local go_sem] max2_int min2_int max_two min_two max_three min_three max_four min_four
set_option linter.unusedVariables false
set_option linter.unusedSimpArgs false
def sky_areNotes.f (k:Nat) (a0:Int) (l1:List (S89)) (a2:Int) (a3:Int):Option (Bool):=(sky_isPlace.f a0).bind fun t664=>(if t664=true then ((sky_in.f a2 0 1000000).bind fun t665=>(if t665=true then ((sky_in.f a3 a2 1000000).bind fun t666=>(if t666=true then (if (wrap64 (a3 - a2))≤5000 then (if (l1.length:Int)≤6 then ((cF_areNotes_c1.f k l1).bind fun t667=>(some (!t667))) else (some false)) else (some false)) else (some false))) else (some false))) else (some false))
set_option maxHeartbeats 8000000 in
set_option maxRecDepth 100000 in
theorem sky_areNotes.calls (k:Nat) (a0:Int) (A1:Option Addr) (c1:Nat) (l1:List (S89)) (a2:Int) (a3:Int) (r:Bool) (w:World) (hr1:Kd.C k89 w A1 l1.length l1) (hc1:l1.length≤c1) (h:sky_areNotes.f k a0 l1 a2 a3=some r):
  Calls Tryz.prog 101 #[.int .i64 a0,.slice A1 l1.length c1,.int .i64 a2,.int .i64 a3] w fun e w'=>e=.returned (.bool r)∧Below w.heap.size w w':=by
 have HR1:=A0_ hr1;have HC1:=A0_ hc1;clear hr1 hc1
 have HB:=A0_ (Below.refl w.heap.size w)
 have H:((sky_isPlace.f a0).bind fun t664=>(if t664=true then ((sky_in.f a2 0 1000000).bind fun t665=>(if t665=true then ((sky_in.f a3 a2 1000000).bind fun t666=>(if t666=true then (if (wrap64 (a3 - a2))≤5000 then (if (l1.length:Int)≤6 then ((cF_areNotes_c1.f k l1).bind fun t667=>(some (!t667))) else (some false)) else (some false)) else (some false))) else (some false))) else (some false)))=some r:=h
 clear h;replace H:=Option.bind_eq_some_iff.mp H;obtain ⟨t664,A50,H⟩:=H
 replace H:(if t664=true then ((sky_in.f a2 0 1000000).bind fun t665=>(if t665=true then ((sky_in.f a3 a2 1000000).bind fun t666=>(if t666=true then (if (wrap64 (a3 - a2))≤5000 then (if (l1.length:Int)≤6 then ((cF_areNotes_c1.f k l1).bind fun t667=>(some (!t667))) else (some false)) else (some false)) else (some false))) else (some false))) else (some false))=some r:=H
 have A5:=A0_ A50;clear A50
 by_cases c6:t664=true
 ·subst c6
  have H1:((sky_in.f a2 0 1000000).bind fun t665=>(if t665=true then ((sky_in.f a3 a2 1000000).bind fun t666=>(if t666=true then (if (wrap64 (a3 - a2))≤5000 then (if (l1.length:Int)≤6 then ((cF_areNotes_c1.f k l1).bind fun t667=>(some (!t667))) else (some false)) else (some false)) else (some false))) else (some false)))=some r:=by rw [if_pos rfl] at H;exact H
  clear H;have H:=H1;clear H1;replace H:=Option.bind_eq_some_iff.mp H;obtain ⟨t665,A70,H⟩:=H
  replace H:(if t665=true then ((sky_in.f a3 a2 1000000).bind fun t666=>(if t666=true then (if (wrap64 (a3 - a2))≤5000 then (if (l1.length:Int)≤6 then ((cF_areNotes_c1.f k l1).bind fun t667=>(some (!t667))) else (some false)) else (some false)) else (some false))) else (some false))=some r:=H
  have A7:=A0_ A70;clear A70
  by_cases c8:t665=true
  ·subst c8
   have H1:((sky_in.f a3 a2 1000000).bind fun t666=>(if t666=true then (if (wrap64 (a3 - a2))≤5000 then (if (l1.length:Int)≤6 then ((cF_areNotes_c1.f k l1).bind fun t667=>(some (!t667))) else (some false)) else (some false)) else (some false)))=some r:=by rw [if_pos rfl] at H;exact H
   clear H;have H:=H1;clear H1;replace H:=Option.bind_eq_some_iff.mp H;obtain ⟨t666,A90,H⟩:=H
   replace H:(if t666=true then (if (wrap64 (a3 - a2))≤5000 then (if (l1.length:Int)≤6 then ((cF_areNotes_c1.f k l1).bind fun t667=>(some (!t667))) else (some false)) else (some false)) else (some false))=some r:=H
   have A9:=A0_ A90;clear A90
   by_cases c10:t666=true
   ·subst c10
    have H1:(if (wrap64 (a3 - a2))≤5000 then (if (l1.length:Int)≤6 then ((cF_areNotes_c1.f k l1).bind fun t667=>(some (!t667))) else (some false)) else (some false))=some r:=by rw [if_pos rfl] at H;exact H
    clear H;have H:=H1;clear H1
    by_cases c11:(wrap64 (a3 - a2))≤5000
    ·rw [if_pos c11] at H;have c11b0:decide ((wrap64 (a3 - a2))≤5000)=true:=decide_eq_true c11;clear c11
     by_cases c12:(l1.length:Int)≤6
     ·rw [if_pos c12] at H;have c12b0:decide ((l1.length:Int)≤6)=true:=decide_eq_true c12
      have c12b1:decide (l1.length≤6)=true:=decide_eq_true (by omega)
      clear c12;replace H:=Option.bind_eq_some_iff.mp H;obtain ⟨t667,A130,H⟩:=H
      replace H:(some (!t667))=some r:=H
      have A13:=A0_ A130;clear A130;obtain rfl:=Option.some.inj H
      go_enter Tryz.func101,Tryz.ntmps101
      go_wp2_with (first|((with_reducible refine gate_callee (f:=118) rfl ?_);refine goesL_ (some 10) rfl rfl Tryz.func118 (by kernel_rfl) rfl #[.int .i64 a0] rfl y1_ ?_;(with_reducible refine (sky_isPlace.calls a0 true _ A5.out).mono ?_);rintro e w' ⟨rfl,⟨nd,rfl⟩⟩;refine ⟨_,rfl,?_⟩)|(go_at_call 104;(with_reducible refine (sky_in.calls a2 0 1000000 true _ A7.out).mono ?_);rintro e w' ⟨rfl,⟨nd,rfl⟩⟩)|(go_at_call 104;(with_reducible refine (sky_in.calls a3 a2 1000000 true _ A9.out).mono ?_);rintro e w' ⟨rfl,⟨nd,rfl⟩⟩)|(go_at_call 136;(with_reducible refine (cF_areNotes_c1.calls k _ _ l1  t667 _ ?side1 ?side2 A13.out).mono ?_);(case side1=>repeat (first|exact HR1.out|(with_reducible refine Kd.C_alloc ?_ _)|(with_reducible refine Kd.C_drewN ?_ _)|(with_reducible refine Kd.C_drew ?_)));(case side2=>exact HC1.out);rintro e w14 ⟨rfl,hb⟩;have n0_:=A0_ (below_step y0_ hb);clear HB;have HB:=n0_;clear n0_;(try clear hb);(try clear hb2);(try clear hk);(try clear hi)))
      go_ret
      exact ⟨y2_,y0_⟩
     ·rw [if_neg c12] at H;have c12b0:decide ((l1.length:Int)≤6)=false:=decide_eq_false c12
      have c12b1:decide (l1.length≤6)=false:=decide_eq_false (by omega)
      clear c12;obtain rfl:=Option.some.inj H
      go_enter Tryz.func101,Tryz.ntmps101
      go_wp2_with (first|((with_reducible refine gate_callee (f:=118) rfl ?_);refine goesL_ (some 10) rfl rfl Tryz.func118 (by kernel_rfl) rfl #[.int .i64 a0] rfl y1_ ?_;(with_reducible refine (sky_isPlace.calls a0 true _ A5.out).mono ?_);rintro e w' ⟨rfl,⟨nd,rfl⟩⟩;refine ⟨_,rfl,?_⟩)|(go_at_call 104;(with_reducible refine (sky_in.calls a2 0 1000000 true _ A7.out).mono ?_);rintro e w' ⟨rfl,⟨nd,rfl⟩⟩)|(go_at_call 104;(with_reducible refine (sky_in.calls a3 a2 1000000 true _ A9.out).mono ?_);rintro e w' ⟨rfl,⟨nd,rfl⟩⟩))
      go_ret
      exact ⟨y2_,y0_⟩
    ·rw [if_neg c11] at H;have c11b0:decide ((wrap64 (a3 - a2))≤5000)=false:=decide_eq_false c11;clear c11;obtain rfl:=Option.some.inj H
     go_enter Tryz.func101,Tryz.ntmps101
     go_wp2_with (first|((with_reducible refine gate_callee (f:=118) rfl ?_);refine goesL_ (some 10) rfl rfl Tryz.func118 (by kernel_rfl) rfl #[.int .i64 a0] rfl y1_ ?_;(with_reducible refine (sky_isPlace.calls a0 true _ A5.out).mono ?_);rintro e w' ⟨rfl,⟨nd,rfl⟩⟩;refine ⟨_,rfl,?_⟩)|(go_at_call 104;(with_reducible refine (sky_in.calls a2 0 1000000 true _ A7.out).mono ?_);rintro e w' ⟨rfl,⟨nd,rfl⟩⟩)|(go_at_call 104;(with_reducible refine (sky_in.calls a3 a2 1000000 true _ A9.out).mono ?_);rintro e w' ⟨rfl,⟨nd,rfl⟩⟩))
     go_ret
     exact ⟨y2_,y0_⟩
   ·replace c10:=Bool.eq_false_iff.mpr c10;subst c10
    have H1:(some false)=some r:=by rw [if_neg (show ¬ (false=true) by decide)] at H;exact H
    clear H;have H:=H1;clear H1;obtain rfl:=Option.some.inj H
    go_enter Tryz.func101,Tryz.ntmps101
    go_wp2_with (first|((with_reducible refine gate_callee (f:=118) rfl ?_);refine goesL_ (some 10) rfl rfl Tryz.func118 (by kernel_rfl) rfl #[.int .i64 a0] rfl y1_ ?_;(with_reducible refine (sky_isPlace.calls a0 true _ A5.out).mono ?_);rintro e w' ⟨rfl,⟨nd,rfl⟩⟩;refine ⟨_,rfl,?_⟩)|(go_at_call 104;(with_reducible refine (sky_in.calls a2 0 1000000 true _ A7.out).mono ?_);rintro e w' ⟨rfl,⟨nd,rfl⟩⟩)|(go_at_call 104;(with_reducible refine (sky_in.calls a3 a2 1000000 false _ A9.out).mono ?_);rintro e w' ⟨rfl,⟨nd,rfl⟩⟩))
    go_ret
    exact ⟨y2_,y0_⟩
  ·replace c8:=Bool.eq_false_iff.mpr c8;subst c8
   have H1:(some false)=some r:=by rw [if_neg (show ¬ (false=true) by decide)] at H;exact H
   clear H;have H:=H1;clear H1;obtain rfl:=Option.some.inj H
   go_enter Tryz.func101,Tryz.ntmps101
   go_wp2_with (first|((with_reducible refine gate_callee (f:=118) rfl ?_);refine goesL_ (some 10) rfl rfl Tryz.func118 (by kernel_rfl) rfl #[.int .i64 a0] rfl y1_ ?_;(with_reducible refine (sky_isPlace.calls a0 true _ A5.out).mono ?_);rintro e w' ⟨rfl,⟨nd,rfl⟩⟩;refine ⟨_,rfl,?_⟩)|(go_at_call 104;(with_reducible refine (sky_in.calls a2 0 1000000 false _ A7.out).mono ?_);rintro e w' ⟨rfl,⟨nd,rfl⟩⟩))
   go_ret
   exact ⟨y2_,y0_⟩
 ·replace c6:=Bool.eq_false_iff.mpr c6;subst c6
  have H1:(some false)=some r:=by rw [if_neg (show ¬ (false=true) by decide)] at H;exact H
  clear H;have H:=H1;clear H1;obtain rfl:=Option.some.inj H
  go_enter Tryz.func101,Tryz.ntmps101
  go_wp2_with (first|((with_reducible refine gate_callee (f:=118) rfl ?_);refine goesL_ (some 10) rfl rfl Tryz.func118 (by kernel_rfl) rfl #[.int .i64 a0] rfl y1_ ?_;(with_reducible refine (sky_isPlace.calls a0 false _ A5.out).mono ?_);rintro e w' ⟨rfl,⟨nd,rfl⟩⟩;refine ⟨_,rfl,?_⟩))
  go_ret
  exact ⟨y2_,y0_⟩
def sky_isLimit.f (a0:Int):Option (Bool):=(sky_in.f a0 0 5400).bind fun t668=>(some t668)
set_option maxHeartbeats 8000000 in
set_option maxRecDepth 100000 in
theorem sky_isLimit.calls (a0:Int) (r:Bool) (w:World) (h:sky_isLimit.f a0=some r):
  Calls Tryz.prog 91 #[.int .i64 a0] w fun e w'=>e=.returned (.bool r)∧Drawn0 w w':=by
 have H:((sky_in.f a0 0 5400).bind fun t668=>(some t668))=some r:=h
 clear h;replace H:=Option.bind_eq_some_iff.mp H;obtain ⟨t668,A20,H⟩:=H
 replace H:(some t668)=some r:=H
 have A2:=A0_ A20;clear A20;obtain rfl:=Option.some.inj H
 go_enter Tryz.func91,Tryz.ntmps91
 go_wp2_with (first|((with_reducible refine gate_callee (f:=104) rfl ?_);refine goesL_ (some 4) rfl rfl Tryz.func104 (by kernel_rfl) rfl #[.int .i64 a0,.int .i64 0,.int .i64 5400] rfl y1_ ?_;(with_reducible refine (sky_in.calls a0 0 5400 t668 _ A2.out).mono ?_);rintro e w' ⟨rfl,⟨nd,rfl⟩⟩;refine ⟨_,rfl,?_⟩))
 go_ret
 exact ⟨y4_,yb_⟩
def ss_sun.f (k:Nat) (l0_0:List (S74)) (a0_1:Int) (a0_2:Int) (a0_3:Int) (a0_4:Int):Option (Int):=(ss_way.f k l0_0 a0_1 a0_2 a0_3 a0_4 0).bind fun t670=>(some t670)
set_option maxHeartbeats 8000000 in
set_option maxRecDepth 100000 in
theorem ss_sun.calls (k:Nat) (A0_0:Option Addr) (c0_0:Nat) (l0_0:List (S74)) (a0_1:Int) (a0_2:Int) (a0_3:Int) (a0_4:Int) (r:Int) (w:World) (hr0_0:Kd.C k74 w A0_0 l0_0.length l0_0) (hc0_0:l0_0.length≤c0_0) (h:ss_sun.f k l0_0 a0_1 a0_2 a0_3 a0_4=some r):
  Calls Tryz.prog 147 #[.agg #[.slice A0_0 l0_0.length c0_0,.int .i64 a0_1,.int .i64 a0_2,.int .i64 a0_3,.int .i64 a0_4]] w fun e w'=>e=.returned (.int .i64 r)∧Below w.heap.size w w':=by
 have hu112:=Tryz.underlying112
 have HR0_0:=A0_ hr0_0;have HC0_0:=A0_ hc0_0;clear hr0_0 hc0_0
 have HB:=A0_ (Below.refl w.heap.size w)
 have H:((ss_way.f k l0_0 a0_1 a0_2 a0_3 a0_4 0).bind fun t670=>(some t670))=some r:=h
 clear h;replace H:=Option.bind_eq_some_iff.mp H;obtain ⟨t670,A20,H⟩:=H
 replace H:(some t670)=some r:=H
 have A2:=A0_ A20;clear A20;obtain rfl:=Option.some.inj H
 go_enter Tryz.func147,Tryz.ntmps147
 go_wp2_with (first|((with_reducible refine gate_dst (N:=1) rfl ?_);refine box_event ?hg (N:=1) ?hd (cs:=#[.slice A0_0 l0_0.length c0_0,.int .i64 a0_1,.int .i64 a0_2,.int .i64 a0_3,.int .i64 a0_4]) (t:=112) ?hr ?_;(case hd=>rfl);(case hg=>rfl);(case hr=>first|(go_simp;done)|(go_simp;rfl));intro gb669 hg w3 hbox hb;have n0_:=A0_ (below_step y0_ hb);have n1_:=A0_ (hbox);have n2_:=A0_ ((by rw [hg];exact (below_size y0_):w.heap.size≤gb669));have n3_:=A0_ ((by rw [hg];exact (below_size y0_):w.heap.size≤gb669));clear HB;have HB:=n0_;have BK669:=n1_;have GW669:=n2_;have GE669:=n3_;clear n0_ n1_ n2_ n3_;clear hb hbox hg;obtain ⟨hcz4_0,hcz4_1,hcz4_2,hcz4_3,hcz4_4,hfz4_0,hfz4_1,hfz4_2,hfz4_3,hfz4_4⟩:=bq5_ BK669.out)|((with_reducible refine gate_callee (f:=81) rfl ?_);refine goesL_ (some 4) rfl rfl Tryz.func81 (by kernel_rfl) rfl #[.agg #[.slice A0_0 l0_0.length c0_0,.int .i64 a0_1,.int .i64 a0_2,.int .i64 a0_3,.int .i64 a0_4],.int .i64 0] rfl y1_ ?_;(with_reducible refine (ss_way.calls k _ _ l0_0 a0_1 a0_2 a0_3 a0_4 0 t670 _ ?side1 ?side2 A2.out).mono ?_);(case side1=>repeat (first|exact (Kd.C_below HR0_0.out HB.out)|(with_reducible refine Kd.C_alloc ?_ _)|(with_reducible refine Kd.C_drewN ?_ _)|(with_reducible refine Kd.C_drew ?_)));(case side2=>exact HC0_0.out);rintro e w5 ⟨rfl,hb⟩;refine ⟨_,rfl,?_⟩;have n0_:=A0_ (blk_below (g:=gb669) (o:=.cells #[.slice A0_0 l0_0.length c0_0,.int .i64 a0_1,.int .i64 a0_2,.int .i64 a0_3,.int .i64 a0_4] 112 (0,0)) (bd_ BK669.out) hb);have n1_:=A0_ (below_step y30_ hb);clear BK669;clear HB;have BK669:=n0_;have HB:=n1_;clear n0_ n1_;(try clear hb);(try clear hb2);(try clear hk);(try clear hi)))
 go_ret
 exact ⟨y2_,y30_⟩
def ss_moon.f (k:Nat) (l0_0:List (S74)) (a0_1:Int) (a0_2:Int) (a0_3:Int) (a0_4:Int):Option (Int):=(ss_way.f k l0_0 a0_1 a0_2 a0_3 a0_4 1).bind fun t672=>(some t672)
set_option maxHeartbeats 8000000 in
set_option maxRecDepth 100000 in
theorem ss_moon.calls (k:Nat) (A0_0:Option Addr) (c0_0:Nat) (l0_0:List (S74)) (a0_1:Int) (a0_2:Int) (a0_3:Int) (a0_4:Int) (r:Int) (w:World) (hr0_0:Kd.C k74 w A0_0 l0_0.length l0_0) (hc0_0:l0_0.length≤c0_0) (h:ss_moon.f k l0_0 a0_1 a0_2 a0_3 a0_4=some r):
  Calls Tryz.prog 135 #[.agg #[.slice A0_0 l0_0.length c0_0,.int .i64 a0_1,.int .i64 a0_2,.int .i64 a0_3,.int .i64 a0_4]] w fun e w'=>e=.returned (.int .i64 r)∧Below w.heap.size w w':=by
 have hu112:=Tryz.underlying112
 have HR0_0:=A0_ hr0_0;have HC0_0:=A0_ hc0_0;clear hr0_0 hc0_0
 have HB:=A0_ (Below.refl w.heap.size w)
 have H:((ss_way.f k l0_0 a0_1 a0_2 a0_3 a0_4 1).bind fun t672=>(some t672))=some r:=h
 clear h;replace H:=Option.bind_eq_some_iff.mp H;obtain ⟨t672,A20,H⟩:=H
 replace H:(some t672)=some r:=H
 have A2:=A0_ A20;clear A20;obtain rfl:=Option.some.inj H
 go_enter Tryz.func135,Tryz.ntmps135
 go_wp2_with (first|((with_reducible refine gate_dst (N:=1) rfl ?_);refine box_event ?hg (N:=1) ?hd (cs:=#[.slice A0_0 l0_0.length c0_0,.int .i64 a0_1,.int .i64 a0_2,.int .i64 a0_3,.int .i64 a0_4]) (t:=112) ?hr ?_;(case hd=>rfl);(case hg=>rfl);(case hr=>first|(go_simp;done)|(go_simp;rfl));intro gb671 hg w3 hbox hb;have n0_:=A0_ (below_step y0_ hb);have n1_:=A0_ (hbox);have n2_:=A0_ ((by rw [hg];exact (below_size y0_):w.heap.size≤gb671));have n3_:=A0_ ((by rw [hg];exact (below_size y0_):w.heap.size≤gb671));clear HB;have HB:=n0_;have BK671:=n1_;have GW671:=n2_;have GE671:=n3_;clear n0_ n1_ n2_ n3_;clear hb hbox hg;obtain ⟨hcz4_0,hcz4_1,hcz4_2,hcz4_3,hcz4_4,hfz4_0,hfz4_1,hfz4_2,hfz4_3,hfz4_4⟩:=bq5_ BK671.out)|((with_reducible refine gate_callee (f:=81) rfl ?_);refine goesL_ (some 4) rfl rfl Tryz.func81 (by kernel_rfl) rfl #[.agg #[.slice A0_0 l0_0.length c0_0,.int .i64 a0_1,.int .i64 a0_2,.int .i64 a0_3,.int .i64 a0_4],.int .i64 1] rfl y1_ ?_;(with_reducible refine (ss_way.calls k _ _ l0_0 a0_1 a0_2 a0_3 a0_4 1 t672 _ ?side1 ?side2 A2.out).mono ?_);(case side1=>repeat (first|exact (Kd.C_below HR0_0.out HB.out)|(with_reducible refine Kd.C_alloc ?_ _)|(with_reducible refine Kd.C_drewN ?_ _)|(with_reducible refine Kd.C_drew ?_)));(case side2=>exact HC0_0.out);rintro e w5 ⟨rfl,hb⟩;refine ⟨_,rfl,?_⟩;have n0_:=A0_ (blk_below (g:=gb671) (o:=.cells #[.slice A0_0 l0_0.length c0_0,.int .i64 a0_1,.int .i64 a0_2,.int .i64 a0_3,.int .i64 a0_4] 112 (0,0)) (bd_ BK671.out) hb);have n1_:=A0_ (below_step y2z_ hb);clear BK671;clear HB;have BK671:=n0_;have HB:=n1_;clear n0_ n1_;(try clear hb);(try clear hb2);(try clear hk);(try clear hi)))
 go_ret
 exact ⟨y2_,y2z_⟩
def ss_far.f (k:Nat) (l0_0:List (S74)) (a0_1:Int) (a0_2:Int) (a0_3:Int) (a0_4:Int):Option (Int):=(ss_moon.f k l0_0 a0_1 a0_2 a0_3 a0_4).bind fun t674=>((ss_node.f l0_0 a0_1 a0_2 a0_3 a0_4).bind fun t675=>((sky_floor.f (wrap64 (t674 - t675)) 10800).bind fun bt676=>(some (mn bt676.2 (wrap64 (10800 - bt676.2))))))
def ss_far.T1:Bool × List (List Nat × List Nat):=(true,[([],[]),([0],[0]),([],[]),([2,1],[2]),([1,3],[1,3]),([4,3],[4]),([5],[5]),([6],[6]),([6],[6]),([7,5,0,1,2,3,4,5,6,7],[7]),([8,9,0,1,2,3,4,5,6,7,8,9],[8])])
def ss_far.B1:List Nat:=[0,1,0,7,15,31,63,127,127,255,1023]
theorem ss_far.tab1:rtab .any (opsOf Tryz.f100 1)=ss_far.T1:=by kernel_rfl
theorem ss_far.bits1:waitsOk ss_far.T1.2 ss_far.B1=true:=by kernel_rfl
set_option maxHeartbeats 8000000 in
set_option maxRecDepth 100000 in
theorem ss_far.calls (k:Nat) (A0_0:Option Addr) (c0_0:Nat) (l0_0:List (S74)) (a0_1:Int) (a0_2:Int) (a0_3:Int) (a0_4:Int) (r:Int) (w:World) (hr0_0:Kd.C k74 w A0_0 l0_0.length l0_0) (hc0_0:l0_0.length≤c0_0) (h:ss_far.f k l0_0 a0_1 a0_2 a0_3 a0_4=some r):
  Calls Tryz.prog 100 #[.agg #[.slice A0_0 l0_0.length c0_0,.int .i64 a0_1,.int .i64 a0_2,.int .i64 a0_3,.int .i64 a0_4]] w fun e w'=>e=.returned (.int .i64 r)∧Below w.heap.size w w':=by
 have hu112:=Tryz.underlying112
 have HR0_0:=A0_ hr0_0;have HC0_0:=A0_ hc0_0;clear hr0_0 hc0_0
 have HB:=A0_ (Below.refl w.heap.size w)
 have H:((ss_moon.f k l0_0 a0_1 a0_2 a0_3 a0_4).bind fun t674=>((ss_node.f l0_0 a0_1 a0_2 a0_3 a0_4).bind fun t675=>((sky_floor.f (wrap64 (t674 - t675)) 10800).bind fun bt676=>(some (mn bt676.2 (wrap64 (10800 - bt676.2)))))))=some r:=h
 clear h;replace H:=Option.bind_eq_some_iff.mp H;obtain ⟨t674,A20,H⟩:=H
 replace H:((ss_node.f l0_0 a0_1 a0_2 a0_3 a0_4).bind fun t675=>((sky_floor.f (wrap64 (t674 - t675)) 10800).bind fun bt676=>(some (mn bt676.2 (wrap64 (10800 - bt676.2))))))=some r:=H
 have A2:=A0_ A20;clear A20;replace H:=Option.bind_eq_some_iff.mp H;obtain ⟨t675,A30,H⟩:=H
 replace H:((sky_floor.f (wrap64 (t674 - t675)) 10800).bind fun bt676=>(some (mn bt676.2 (wrap64 (10800 - bt676.2)))))=some r:=H
 have A3:=A0_ A30;clear A30;replace H:=Option.bind_eq_some_iff.mp H
 obtain ⟨⟨t676,t677⟩,A40,H⟩:=H
 replace H:(some (mn t677 (wrap64 (10800 - t677))))=some r:=H
 have A4:=A0_ A40;clear A40
 obtain ⟨ji5,hji5⟩:∃ j_:Int,(mn t677 (wrap64 (10800 - t677)))=j_:=⟨_,rfl⟩
 replace H:(some ji5)=some r:=by first|(rw [hji5] at H;exact H)|(simp only [hji5] at H ⊢;exact H)
 (try rw [hji5] at A2)
 (try rw [hji5] at A3)
 (try rw [hji5] at A4)
 have hji5_:(if (wrap64 (10800 - t677))<t677 then (wrap64 (10800 - t677)) else t677)=ji5:=hji5
 obtain rfl:=Option.some.inj H
 go_enter Tryz.func100,Tryz.ntmps100
 try go_wp2_with (first|((with_reducible refine gate_dst (N:=1) rfl ?_);refine box_event ?hg (N:=1) ?hd (cs:=#[.slice A0_0 l0_0.length c0_0,.int .i64 a0_1,.int .i64 a0_2,.int .i64 a0_3,.int .i64 a0_4]) (t:=112) ?hr ?_;(case hd=>rfl);(case hg=>rfl);(case hr=>first|(go_simp;done)|(go_simp;rfl));intro gb673 hg w6 hbox hb;have n0_:=A0_ (below_step y0_ hb);have n1_:=A0_ (hbox);have n2_:=A0_ ((by rw [hg];exact (below_size y0_):w.heap.size≤gb673));have n3_:=A0_ ((by rw [hg];exact (below_size y0_):w.heap.size≤gb673));clear HB;have HB:=n0_;have BK673:=n1_;have GW673:=n2_;have GE673:=n3_;clear n0_ n1_ n2_ n3_;clear hb hbox hg))
 have n0_:=A0_ (blk_drew BK673.out);have n1_:=A0_ (below_drew1 HB.out);clear BK673;clear HB;have BK673:=n0_;have HB:=n1_;clear n0_ n1_
 refine start_ (n:=11) (S:=fun w'=>w'.cell? ⟨gb673,0,none⟩=some (.slice A0_0 l0_0.length c0_0)∧w'.cell? ⟨gb673,1,none⟩=some (.int .i64 a0_1)∧w'.cell? ⟨gb673,2,none⟩=some (.int .i64 a0_2)∧w'.cell? ⟨gb673,3,none⟩=some (.int .i64 a0_3)∧w'.cell? ⟨gb673,4,none⟩=some (.int .i64 a0_4)) (ds:=[]) #[false,false,false,false,false,false,false,false,false,false,false] (by kernel_rfl) rfl rfl ⟨(blk_cell BK673.out 0).trans rfl,(blk_cell BK673.out 1).trans rfl,(blk_cell BK673.out 2).trans rfl,(blk_cell BK673.out 3).trans rfl,(blk_cell BK673.out 4).trans rfl⟩ (fun hHeld=>?_);refine with_tabW ss_far.tab1 ss_far.bits1 (fun HT_ HW_=>?_)
 generalize w6.drew=w7 at BK673 HB hHeld ⊢
 refine ta_ (i:=0) (N:=some 6) ?_;refine ta_ (i:=2) (N:=some 8) ?_
 refine one_ (i:=1) (N:=some 7) #[true,true,true,false,false,false,false,false,false,false,false] rfl rfl (one_of HT_.out (by kernel_rfl)) (by decide) (fun K hK=>?_)
 refine goes_ Tryz.func135 (by kernel_rfl) rfl #[.agg #[.slice A0_0 l0_0.length c0_0,.int .i64 a0_1,.int .i64 a0_2,.int .i64 a0_3,.int .i64 a0_4]] (by rfl) rfl rfl y1_ ?_
 with_reducible refine (ss_moon.calls k _ _ l0_0 a0_1 a0_2 a0_3 a0_4 t674 _ ?side1 ?side2 A2.out).mono ?_
 (case side1=>repeat (first|exact (Kd.C_below HR0_0.out HB.out)|(with_reducible refine Kd.C_alloc ?_ _)|(with_reducible refine Kd.C_drewN ?_ _)|(with_reducible refine Kd.C_drew ?_)))
 (case side2=>exact HC0_0.out)
 rintro e w8 ⟨rfl,hb⟩
 refine ⟨_,rfl,?_⟩
 have n0_:=A0_ (blk_below (g:=gb673) (o:=.cells #[.slice A0_0 l0_0.length c0_0,.int .i64 a0_1,.int .i64 a0_2,.int .i64 a0_3,.int .i64 a0_4] 112 (0,0)) (bd_ BK673.out) hb);have n1_:=A0_ (below_step y2s_ hb);clear BK673;clear HB;have BK673:=n0_;have HB:=n1_;clear n0_ n1_;(try clear hb);(try clear hb2);(try clear hk);(try clear hi)
 refine hK.out _ _ ⟨(blk_cell BK673.out 0).trans rfl,(blk_cell BK673.out 1).trans rfl,(blk_cell BK673.out 2).trans rfl,(blk_cell BK673.out 3).trans rfl,(blk_cell BK673.out 4).trans rfl⟩ (fun hHeld=>?_)
 clear hK K
 refine norm_ (a':=?_) ?_ ?_
 rotate_left
 ·show Act.put _ (some 7) _=_
  simp only [Act.put,List.setIfInBounds_toArray,List.set_cons_zero,List.set_cons_succ,i64_w,i32_w]
  rfl
 refine one_ (i:=3) (N:=some 9) #[true,true,true,true,false,false,false,false,false,false,false] rfl rfl (one_of HT_.out (by kernel_rfl)) (by decide) (fun K hK=>?_)
 refine goes_ Tryz.func95 (by kernel_rfl) rfl #[.agg #[.slice A0_0 l0_0.length c0_0,.int .i64 a0_1,.int .i64 a0_2,.int .i64 a0_3,.int .i64 a0_4]] (by rfl) rfl rfl y1_ ?_
 with_reducible refine (ss_node.calls _ _ l0_0 a0_1 a0_2 a0_3 a0_4 t675 _ ?side1 ?side2 A3.out).mono ?_
 (case side1=>repeat (first|exact (Kd.C_below HR0_0.out HB.out)|(with_reducible refine Kd.C_alloc ?_ _)|(with_reducible refine Kd.C_drewN ?_ _)|(with_reducible refine Kd.C_drew ?_)))
 (case side2=>exact HC0_0.out)
 rintro e w9 ⟨rfl,hb⟩
 refine ⟨_,rfl,?_⟩
 have n0_:=A0_ (blk_below (g:=gb673) (o:=.cells #[.slice A0_0 l0_0.length c0_0,.int .i64 a0_1,.int .i64 a0_2,.int .i64 a0_3,.int .i64 a0_4] 112 (0,0)) (bd_ BK673.out) hb);have n1_:=A0_ (below_step y2s_ hb);clear BK673;clear HB;have BK673:=n0_;have HB:=n1_;clear n0_ n1_;(try clear hb);(try clear hb2);(try clear hk);(try clear hi)
 refine hK.out _ _ ⟨(blk_cell BK673.out 0).trans rfl,(blk_cell BK673.out 1).trans rfl,(blk_cell BK673.out 2).trans rfl,(blk_cell BK673.out 3).trans rfl,(blk_cell BK673.out 4).trans rfl⟩ (fun hHeld=>?_)
 clear hK K
 refine norm_ (a':=?_) ?_ ?_
 rotate_left
 ·show Act.put _ (some 9) _=_
  simp only [Act.put,List.setIfInBounds_toArray,List.set_cons_zero,List.set_cons_succ,i64_w,i32_w]
  rfl
 refine pu_ (i:=4) (N:=some 10) ?_
 refine one_ (i:=5) (N:=some 11) #[true,true,true,true,true,true,false,false,false,false,false] rfl rfl (one_of HT_.out (by kernel_rfl)) (by decide) (fun K hK=>?_)
 refine goes_ Tryz.func130 (by kernel_rfl) rfl #[.int .i64 (wrap64 (t674 - t675)),.int .i64 10800] (by rfl) rfl rfl y1_ ?_
 with_reducible refine (sky_floor.calls (wrap64 (t674 - t675)) 10800 t676 t677 _ A4.out).mono ?_
 rintro e w' ⟨rfl,⟨nd,rfl⟩⟩
 refine ⟨_,rfl,?_⟩
 refine hK.out _ _ ⟨(blk_cell BK673.out 0).trans rfl,(blk_cell BK673.out 1).trans rfl,(blk_cell BK673.out 2).trans rfl,(blk_cell BK673.out 3).trans rfl,(blk_cell BK673.out 4).trans rfl⟩ (fun hHeld=>?_)
 clear hK K
 refine norm_ (a':=?_) ?_ ?_
 rotate_left
 ·show Act.put _ (some 11) _=_
  simp only [Act.put,List.setIfInBounds_toArray,List.set_cons_zero,List.set_cons_succ,i64_w,i32_w]
  rfl
 refine pu_ (i:=6) (N:=some 5) ?_;refine pu_ (i:=7) (N:=some 12) ?_;refine pu_ (i:=8) (N:=some 13) ?_;refine pu_ (i:=9) (N:=some 3) ?_;refine pu_ (i:=10) (N:=some 4) ?_
 refine done_ (done_of HT_.out (by kernel_rfl)) ?_
 try go_wp2
 go_ret
 exact ⟨by first|rfl|(simp [errW_none,errW_some] <;> rfl)|(simp only [← hji5];first|rfl|(simp [errW_none,errW_some] <;> rfl))|(simp [*,errW_none,errW_some] <;> rfl),y2s_⟩
def sky_Watch_c3.f (a0_0:Int) (a0_1:Int) (a1_0:Int) (a1_1:Int):Option (Bool):=some (decide (a0_1<a1_1))
set_option maxHeartbeats 8000000 in
set_option maxRecDepth 100000 in
theorem sky_Watch_c3.calls (a0_0:Int) (a0_1:Int) (a1_0:Int) (a1_1:Int) (r:Bool) (w:World) (h:sky_Watch_c3.f a0_0 a0_1 a1_0 a1_1=some r):
  Calls Tryz.prog 111 #[.agg #[.int .i64 a0_0,.int .i64 a0_1],.agg #[.int .i64 a1_0,.int .i64 a1_1]] w fun e w'=>e=.returned (.bool r)∧Below w.heap.size w w':=by
 have hu137:=Tryz.underlying137
 have HB:=A0_ (Below.refl w.heap.size w)
 have H:(some (decide (a0_1<a1_1)))=some r:=h
 clear h;obtain rfl:=Option.some.inj H
 go_enter Tryz.func111,Tryz.ntmps111
 go_wp2_with (first|((with_reducible refine gate_dst (N:=2) rfl ?_);refine box_event ?hg (N:=2) ?hd (cs:=#[.int .i64 a0_0,.int .i64 a0_1]) (t:=137) ?hr ?_;(case hd=>rfl);(case hg=>rfl);(case hr=>first|(go_simp;done)|(go_simp;rfl));intro gb678 hg w3 hbox hb;have n0_:=A0_ (below_step y0_ hb);have n1_:=A0_ (hbox);have n2_:=A0_ ((by rw [hg];exact (below_size y0_):w.heap.size≤gb678));have n3_:=A0_ ((by rw [hg];exact (below_size y0_):w.heap.size≤gb678));clear HB;have HB:=n0_;have BK678:=n1_;have GW678:=n2_;have GE678:=n3_;clear n0_ n1_ n2_ n3_;clear hb hbox hg)|((with_reducible refine gate_dst (N:=3) rfl ?_);refine box_event ?hg (N:=3) ?hd (cs:=#[.int .i64 a1_0,.int .i64 a1_1]) (t:=137) ?hr ?_;(case hd=>rfl);(case hg=>rfl);(case hr=>first|(go_simp;done)|(go_simp;rfl));intro gb679 hg w4 hbox hb;have n0_:=A0_ (blk_below (g:=gb678) (o:=.cells #[.int .i64 a0_0,.int .i64 a0_1] 137 (0,0)) (bd_ BK678.out) hb);have n1_:=A0_ (below_step y2r_ hb);have n2_:=A0_ (hbox);have n3_:=A0_ ((by rw [hg];exact (below_size y2r_):w.heap.size≤gb679));have n4_:=A0_ ((by rw [hg];exact (below_size y2r_):w.heap.size≤gb679));have n5_:=A0_ ((by rw [hg];exact Nat.ne_of_lt (blk_lt (g:=gb678) (o:=.cells #[.int .i64 a0_0,.int .i64 a0_1] 137 (0,0)) (bd_ BK678.out)):gb678≠gb679));have n6_:=A0_ ((by rw [hg];exact Nat.ne_of_gt (blk_lt (g:=gb678) (o:=.cells #[.int .i64 a0_0,.int .i64 a0_1] 137 (0,0)) (bd_ BK678.out)):gb679≠gb678));clear BK678;clear HB;have BK678:=n0_;have HB:=n1_;have BK679:=n2_;have GW679:=n3_;have GE679:=n4_;have NB678_679:=n5_;have NB679_678:=n6_;clear n0_ n1_ n2_ n3_ n4_ n5_ n6_;clear hb hbox hg;have hnb5:=NB678_679.out;have hnc5:=NB679_678.out;obtain ⟨hcz6_0,hcz6_1,hfz6_0,hfz6_1⟩:=bq2_ BK678.out;obtain ⟨hcz7_0,hcz7_1,hfz7_0,hfz7_1⟩:=bq2_ BK679.out))
 go_ret
 exact ⟨y2_,(by repeat (first|(with_reducible first|exact HB.out|apply below_alloc|apply pw_below_drewN|apply below_drew1|refine below_set ?_ GE678.out|refine below_set ?_ GE679.out)|exact HB.out))⟩
def at_best_Watch_c3.l0:Nat→List (S137)→Int→Int→Int→Int→Option (Int × Int)
 |0,_,_,_,_,_=>none
 |k+1,x8,x9,x10,x682000,x682001=>if x10<x9 then (if 0≤x10 then (if x10<(x8.length:Int) then (if x10=0 then (at_best_Watch_c3.l0 k x8 x9 (wrap64 (x10+1)) ((rd_T137 x8 x10).f0) ((rd_T137 x8 x10).f1)) else ((sky_Watch_c3.f ((rd_T137 x8 x10).f0) ((rd_T137 x8 x10).f1) x682000 x682001).bind fun t684=>(if t684=true then (at_best_Watch_c3.l0 k x8 x9 (wrap64 (x10+1)) ((rd_T137 x8 x10).f0) ((rd_T137 x8 x10).f1)) else (at_best_Watch_c3.l0 k x8 x9 (wrap64 (x10+1)) x682000 x682001)))) else (none)) else (none)) else (some (x682000,x682001))
def at_best_Watch_c3.f (k:Nat) (l0:List (S137))  : Option (Int × Int):=at_best_Watch_c3.l0 k l0 (l0.length:Int) 0 0 0
set_option maxHeartbeats 8000000 in
set_option maxRecDepth 100000 in
theorem at_best_Watch_c3.calls (k:Nat) (A0:Option Addr) (c0:Nat) (l0:List (S137))  (r1:Int) (r2:Int) (w:World) (hr0:Kd.C k137 w A0 l0.length l0) (hc0:l0.length≤c0) (h:at_best_Watch_c3.f k l0=some (r1,r2)):
  Calls Tryz.prog 110 #[.slice A0 l0.length c0,.func (.func 111) #[] #[]] w fun e w'=>e=.returned (.agg #[.int .i64 r1,.int .i64 r2])∧Below w.heap.size w w':=by
 have hu137:=Tryz.underlying137
 have HR0:=A0_ hr0;have HC0:=A0_ hc0;clear hr0 hc0
 have HB:=A0_ (Below.refl w.heap.size w)
 have H:(at_best_Watch_c3.l0 k l0 (l0.length:Int) 0 0 0)=some (r1,r2):=h
 clear h
 have H':=A0_ H
 clear H
 go_enter Tryz.func110,Tryz.ntmps110
 go_wp2_with (first|((with_reducible refine gate_dst (N:=4) rfl ?_);refine box_event ?hg (N:=4) ?hd (cs:=#[.int .i64 0,.int .i64 0]) (t:=137) ?hr ?_;(case hd=>rfl);(case hg=>rfl);(case hr=>first|(go_simp;done)|(go_simp;rfl));intro gb680 hg w3 hbox hb;have n0_:=A0_ (below_step y0_ hb);have n1_:=A0_ (hbox);have n2_:=A0_ ((by rw [hg];exact (below_size y0_):w.heap.size≤gb680));have n3_:=A0_ ((by rw [hg];exact (below_size y0_):w.heap.size≤gb680));clear HB;have HB:=n0_;have BK680:=n1_;have GW680:=n2_;have GE680:=n3_;clear n0_ n1_ n2_ n3_;clear hb hbox hg)|((with_reducible refine gate_dst (N:=5) rfl ?_);refine box_event ?hg (N:=5) ?hd (cs:=#[.int .i64 0,.int .i64 0]) (t:=137) ?hr ?_;(case hd=>rfl);(case hg=>rfl);(case hr=>first|(go_simp;done)|(go_simp;rfl));intro gb681 hg w4 hbox hb;have n0_:=A0_ (blk_below (g:=gb680) (o:=.cells #[.int .i64 0,.int .i64 0] 137 (0,0)) (bd_ BK680.out) hb);have n1_:=A0_ (below_step y2q_ hb);have n2_:=A0_ (hbox);have n3_:=A0_ ((by rw [hg];exact (below_size y2q_):w.heap.size≤gb681));have n4_:=A0_ ((by rw [hg];exact (below_size y2q_):w.heap.size≤gb681));have n5_:=A0_ ((by rw [hg];exact Nat.ne_of_lt (blk_lt (g:=gb680) (o:=.cells #[.int .i64 0,.int .i64 0] 137 (0,0)) (bd_ BK680.out)):gb680≠gb681));have n6_:=A0_ ((by rw [hg];exact Nat.ne_of_gt (blk_lt (g:=gb680) (o:=.cells #[.int .i64 0,.int .i64 0] 137 (0,0)) (bd_ BK680.out)):gb681≠gb680));clear BK680;clear HB;have BK680:=n0_;have HB:=n1_;have BK681:=n2_;have GW681:=n3_;have GE681:=n4_;have NB680_681:=n5_;have NB681_680:=n6_;clear n0_ n1_ n2_ n3_ n4_ n5_ n6_;clear hb hbox hg))
 go_loopg [10] k (fun kq v10 w'=>∃ (x10_1:Int) (x682000_1:Int) (x682001_1:Int),v10=.int .i64 x10_1∧Aside0 (at_best_Watch_c3.l0 kq l0 (l0.length:Int) x10_1 x682000_1 x682001_1=some (r1,r2))∧Aside0 (kq≤k)∧Aside0 (w'.heap[gb680]?=some (.cells #[.int .i64 0,.int .i64 0] 137 (0,0)))∧Aside0 (w'.heap[gb681]?=some (.cells #[.int .i64 x682000_1,.int .i64 x682001_1] 137 (0,0)))∧Aside0 (Below w.heap.size w w'))
 case atStart=>exact ⟨(0),(0),(0),y4_,H',⟨Nat.le_refl _⟩,⟨by (with_reducible repeat (first|refine blk_drewN ?_ _|refine blk_drew ?_|refine blk_alloc ?_ _));exact BK680.out⟩,⟨by (with_reducible repeat (first|refine blk_drewN ?_ _|refine blk_drew ?_|refine blk_alloc ?_ _));exact BK681.out⟩,⟨yo_⟩⟩
 case round=>
  clear H'
  (try clear p2);(try clear c3)
  obtain ⟨x10_1,x682000_1,x682001_1,rfl,HA,HK1,BK680,BK681,HB⟩:=hrel
  cases gk with
  |zero=>exact absurd HA.out (by simp [at_best_Watch_c3.l0])
  |succ k1=>
   have H:=HA.out
   clear HA
   simp only [at_best_Watch_c3.l0] at H
   by_cases c5:x10_1<(l0.length:Int)
   ·rw [if_pos c5] at H;have c5b0:decide (x10_1<(l0.length:Int))=true:=decide_eq_true c5;clear c5
    by_cases c6:0≤x10_1
    ·rw [if_pos c6] at H;have c6b0:decide (0≤x10_1)=true:=decide_eq_true c6;clear c6
     by_cases c7:x10_1<(l0.length:Int)
     ·rw [if_pos c7] at H;have c7b0:decide (x10_1<(l0.length:Int))=true:=decide_eq_true c7;clear c7
      by_cases c8:x10_1=0
      ·rw [if_pos c8] at H
       have c8b0:(x10_1 == 0)=true:=beq_iff_eq.mpr c8
       have c8b1:(x10_1 != 0)=false:=bne_eq_false_iff_eq.mpr c8
       clear c8
       have H':=A0_ H
       clear H
       have p682:0≤(x10_1:Int):=of_decide_eq_true y5_
       have q682:x10_1<(l0.length:Int):=of_decide_eq_true y5_
       obtain ⟨ad682,e682,hx682_0,hx682_1⟩:=at_T137 HR0.out x10_1 p682 q682
       cases e682
       replace hx682_0:=(HB.out.cell (World.block_lt_of_cell? w _ hx682_0)).trans hx682_0
       replace hx682_1:=(HB.out.cell (World.block_lt_of_cell? w _ hx682_1)).trans hx682_1
       replace p682:=eq_true p682
       replace q682:=eq_true q682
       go_wp2_with (first|((with_reducible refine gate_dst (N:=7) rfl ?_);refine box_event ?hg (N:=7) ?hd (cs:=#[.int .i64 0,.int .i64 0]) (t:=137) ?hr ?_;(case hd=>rfl);(case hg=>rfl);(case hr=>first|(go_simp;done)|(go_simp;rfl));intro gb683 hg w9 hbox hb;have n0_:=A0_ (blk_below (g:=gb680) (o:=.cells #[.int .i64 0,.int .i64 0] 137 (0,0)) (bd_ BK680.out) hb);have n1_:=A0_ (blk_below (g:=gb681) (o:=.cells #[.int .i64 x682000_1,.int .i64 x682001_1] 137 (0,0)) (bd_ BK681.out) hb);have n2_:=A0_ (below_step yo_ hb);have n3_:=A0_ (hbox);have n4_:=A0_ ((by rw [hg];exact (below_size yo_):w.heap.size≤gb683));have n5_:=A0_ ((by rw [hg];exact (below_size yo_):w.heap.size≤gb683));have n6_:=A0_ ((by rw [hg];exact Nat.ne_of_lt (blk_lt (g:=gb680) (o:=.cells #[.int .i64 0,.int .i64 0] 137 (0,0)) (bd_ BK680.out)):gb680≠gb683));have n7_:=A0_ ((by rw [hg];exact Nat.ne_of_gt (blk_lt (g:=gb680) (o:=.cells #[.int .i64 0,.int .i64 0] 137 (0,0)) (bd_ BK680.out)):gb683≠gb680));have n8_:=A0_ ((by rw [hg];exact Nat.ne_of_lt (blk_lt (g:=gb681) (o:=.cells #[.int .i64 x682000_1,.int .i64 x682001_1] 137 (0,0)) (bd_ BK681.out)):gb681≠gb683));have n9_:=A0_ ((by rw [hg];exact Nat.ne_of_gt (blk_lt (g:=gb681) (o:=.cells #[.int .i64 x682000_1,.int .i64 x682001_1] 137 (0,0)) (bd_ BK681.out)):gb683≠gb681));clear BK680;clear BK681;clear HB;have BK680:=n0_;have BK681:=n1_;have HB:=n2_;have BK683:=n3_;have GW683:=n4_;have GE683:=n5_;have NB680_683:=n6_;have NB683_680:=n7_;have NB681_683:=n8_;have NB683_681:=n9_;clear n0_ n1_ n2_ n3_ n4_ n5_ n6_ n7_ n8_ n9_;clear hb hbox hg;have hnb10:=NB683_680.out;have hnc10:=NB680_683.out;have hnb11:=NB683_681.out;have hnc11:=NB681_683.out;obtain ⟨hcz12_0,hcz12_1,hfz12_0,hfz12_1⟩:=bq2_ BK683.out;have hnb13:=NB681_680.out;have hnc13:=NB680_681.out;obtain ⟨hcz14_0,hcz14_1,hfz14_0,hfz14_1⟩:=bq2_ BK681.out))
       go_roundg k1
       case measure=>have:=HK1.out;omega
       case rel=>exact ⟨(wrap64 (x10_1+1)),((rd_T137 l0 x10_1).f0),((rd_T137 l0 x10_1).f1),y4_,H',⟨by have:=HK1.out;omega⟩,⟨by (with_reducible repeat (first|refine blk_drewN ?_ _|refine blk_drew ?_|refine blk_alloc ?_ _));refine blk_far ?_ NB680_681.out _;(with_reducible repeat (first|refine blk_drewN ?_ _|refine blk_drew ?_|refine blk_alloc ?_ _));refine blk_far ?_ NB680_681.out _;(with_reducible repeat (first|refine blk_drewN ?_ _|refine blk_drew ?_|refine blk_alloc ?_ _));refine blk_far ?_ NB680_683.out _;(with_reducible repeat (first|refine blk_drewN ?_ _|refine blk_drew ?_|refine blk_alloc ?_ _));refine blk_far ?_ NB680_683.out _;(with_reducible repeat (first|refine blk_drewN ?_ _|refine blk_drew ?_|refine blk_alloc ?_ _));exact BK680.out⟩,⟨by (with_reducible repeat (first|refine blk_drewN ?_ _|refine blk_drew ?_|refine blk_alloc ?_ _));refine blk_put (cs:=#[.int .i64 ((rd_T137 l0 x10_1).f0),.int .i64 x682001_1]) ?_ 1 _ rfl;(with_reducible repeat (first|refine blk_drewN ?_ _|refine blk_drew ?_|refine blk_alloc ?_ _));refine blk_put (cs:=#[.int .i64 x682000_1,.int .i64 x682001_1]) ?_ 0 _ rfl;(with_reducible repeat (first|refine blk_drewN ?_ _|refine blk_drew ?_|refine blk_alloc ?_ _));refine blk_far ?_ NB681_683.out _;(with_reducible repeat (first|refine blk_drewN ?_ _|refine blk_drew ?_|refine blk_alloc ?_ _));refine blk_far ?_ NB681_683.out _;(with_reducible repeat (first|refine blk_drewN ?_ _|refine blk_drew ?_|refine blk_alloc ?_ _));exact BK681.out⟩,⟨y1c_⟩⟩
      ·rw [if_neg c8] at H
       have c8b0:(x10_1 == 0)=false:=beq_eq_false_iff_ne.mpr c8
       have c8b1:(x10_1 != 0)=true:=bne_iff_ne.mpr c8
       replace H:=Option.bind_eq_some_iff.mp H;obtain ⟨t684,A150,H⟩:=H
       replace H:(if t684=true then (at_best_Watch_c3.l0 k1 l0 (l0.length:Int) (wrap64 (x10_1+1)) ((rd_T137 l0 x10_1).f0) ((rd_T137 l0 x10_1).f1)) else (at_best_Watch_c3.l0 k1 l0 (l0.length:Int) (wrap64 (x10_1+1)) x682000_1 x682001_1))=some (r1,r2):=H
       have A15:=A0_ A150;clear A150
       by_cases c16:t684=true
       ·subst c16
        have H1:(at_best_Watch_c3.l0 k1 l0 (l0.length:Int) (wrap64 (x10_1+1)) ((rd_T137 l0 x10_1).f0) ((rd_T137 l0 x10_1).f1))=some (r1,r2):=by rw [if_pos rfl] at H;exact H
        clear H;have H:=H1;clear H1
        have H':=A0_ H
        clear H
        have p682:0≤(x10_1:Int):=of_decide_eq_true y5_
        have q682:x10_1<(l0.length:Int):=of_decide_eq_true y5_
        obtain ⟨ad682,e682,hx682_0,hx682_1⟩:=at_T137 HR0.out x10_1 p682 q682
        cases e682
        replace hx682_0:=(HB.out.cell (World.block_lt_of_cell? w _ hx682_0)).trans hx682_0
        replace hx682_1:=(HB.out.cell (World.block_lt_of_cell? w _ hx682_1)).trans hx682_1
        replace p682:=eq_true p682
        replace q682:=eq_true q682
        go_wp2_with (first|((with_reducible refine gate_dst (N:=7) rfl ?_);refine box_event ?hg (N:=7) ?hd (cs:=#[.int .i64 0,.int .i64 0]) (t:=137) ?hr ?_;(case hd=>rfl);(case hg=>rfl);(case hr=>first|(go_simp;done)|(go_simp;rfl));intro gb683 hg w17 hbox hb;have n0_:=A0_ (blk_below (g:=gb680) (o:=.cells #[.int .i64 0,.int .i64 0] 137 (0,0)) (bd_ BK680.out) hb);have n1_:=A0_ (blk_below (g:=gb681) (o:=.cells #[.int .i64 x682000_1,.int .i64 x682001_1] 137 (0,0)) (bd_ BK681.out) hb);have n2_:=A0_ (below_step yo_ hb);have n3_:=A0_ (hbox);have n4_:=A0_ ((by rw [hg];exact (below_size yo_):w.heap.size≤gb683));have n5_:=A0_ ((by rw [hg];exact (below_size yo_):w.heap.size≤gb683));have n6_:=A0_ ((by rw [hg];exact Nat.ne_of_lt (blk_lt (g:=gb680) (o:=.cells #[.int .i64 0,.int .i64 0] 137 (0,0)) (bd_ BK680.out)):gb680≠gb683));have n7_:=A0_ ((by rw [hg];exact Nat.ne_of_gt (blk_lt (g:=gb680) (o:=.cells #[.int .i64 0,.int .i64 0] 137 (0,0)) (bd_ BK680.out)):gb683≠gb680));have n8_:=A0_ ((by rw [hg];exact Nat.ne_of_lt (blk_lt (g:=gb681) (o:=.cells #[.int .i64 x682000_1,.int .i64 x682001_1] 137 (0,0)) (bd_ BK681.out)):gb681≠gb683));have n9_:=A0_ ((by rw [hg];exact Nat.ne_of_gt (blk_lt (g:=gb681) (o:=.cells #[.int .i64 x682000_1,.int .i64 x682001_1] 137 (0,0)) (bd_ BK681.out)):gb683≠gb681));clear BK680;clear BK681;clear HB;have BK680:=n0_;have BK681:=n1_;have HB:=n2_;have BK683:=n3_;have GW683:=n4_;have GE683:=n5_;have NB680_683:=n6_;have NB683_680:=n7_;have NB681_683:=n8_;have NB683_681:=n9_;clear n0_ n1_ n2_ n3_ n4_ n5_ n6_ n7_ n8_ n9_;clear hb hbox hg;have hnb18:=NB683_680.out;have hnc18:=NB680_683.out;have hnb19:=NB683_681.out;have hnc19:=NB681_683.out;obtain ⟨hcz20_0,hcz20_1,hfz20_0,hfz20_1⟩:=bq2_ BK683.out;have hnb21:=NB681_680.out;have hnc21:=NB680_681.out;obtain ⟨hcz22_0,hcz22_1,hfz22_0,hfz22_1⟩:=bq2_ BK681.out)|(go_at_call 111;(with_reducible refine (sky_Watch_c3.calls ((rd_T137 l0 x10_1).f0) ((rd_T137 l0 x10_1).f1) x682000_1 x682001_1 true _ A15.out).mono ?_);rintro e w23 ⟨rfl,hb⟩;have n0_:=A0_ (blk_below (g:=gb680) (o:=.cells #[.int .i64 0,.int .i64 0] 137 (0,0)) y2h_ hb);have n1_:=A0_ (blk_below (g:=gb681) (o:=.cells #[.int .i64 x682000_1,.int .i64 x682001_1] 137 (0,0)) y2g_ hb);have n2_:=A0_ (blk_below (g:=gb683) (o:=.cells #[.int .i64 ((rd_T137 l0 x10_1).f0),.int .i64 ((rd_T137 l0 x10_1).f1)] 137 (0,0)) y2a_ hb);have n3_:=A0_ (below_step y1c_ hb);clear BK680;clear BK681;clear BK683;clear HB;have BK680:=n0_;have BK681:=n1_;have BK683:=n2_;have HB:=n3_;clear n0_ n1_ n2_ n3_;(try clear hb);(try clear hb2);(try clear hk);(try clear hi);obtain ⟨hcz24_0,hcz24_1,hfz24_0,hfz24_1⟩:=bq2_ BK683.out;obtain ⟨hcz25_0,hcz25_1,hfz25_0,hfz25_1⟩:=bq2_ BK681.out))
        go_roundg k1
        case measure=>have:=HK1.out;omega
        case rel=>exact ⟨(wrap64 (x10_1+1)),((rd_T137 l0 x10_1).f0),((rd_T137 l0 x10_1).f1),y4_,H',⟨by have:=HK1.out;omega⟩,⟨by (with_reducible repeat (first|refine blk_drewN ?_ _|refine blk_drew ?_|refine blk_alloc ?_ _));refine blk_far ?_ NB680_681.out _;(with_reducible repeat (first|refine blk_drewN ?_ _|refine blk_drew ?_|refine blk_alloc ?_ _));refine blk_far ?_ NB680_681.out _;(with_reducible repeat (first|refine blk_drewN ?_ _|refine blk_drew ?_|refine blk_alloc ?_ _));exact BK680.out⟩,⟨by (with_reducible repeat (first|refine blk_drewN ?_ _|refine blk_drew ?_|refine blk_alloc ?_ _));refine blk_put (cs:=#[.int .i64 ((rd_T137 l0 x10_1).f0),.int .i64 x682001_1]) ?_ 1 _ rfl;(with_reducible repeat (first|refine blk_drewN ?_ _|refine blk_drew ?_|refine blk_alloc ?_ _));refine blk_put (cs:=#[.int .i64 x682000_1,.int .i64 x682001_1]) ?_ 0 _ rfl;(with_reducible repeat (first|refine blk_drewN ?_ _|refine blk_drew ?_|refine blk_alloc ?_ _));exact BK681.out⟩,⟨y1c_⟩⟩
       ·replace c16:=Bool.eq_false_iff.mpr c16;subst c16
        have H1:(at_best_Watch_c3.l0 k1 l0 (l0.length:Int) (wrap64 (x10_1+1)) x682000_1 x682001_1)=some (r1,r2):=by rw [if_neg (show ¬ (false=true) by decide)] at H;exact H
        clear H;have H:=H1;clear H1
        have H':=A0_ H
        clear H
        have p682:0≤(x10_1:Int):=of_decide_eq_true y5_
        have q682:x10_1<(l0.length:Int):=of_decide_eq_true y5_
        obtain ⟨ad682,e682,hx682_0,hx682_1⟩:=at_T137 HR0.out x10_1 p682 q682
        cases e682
        replace hx682_0:=(HB.out.cell (World.block_lt_of_cell? w _ hx682_0)).trans hx682_0
        replace hx682_1:=(HB.out.cell (World.block_lt_of_cell? w _ hx682_1)).trans hx682_1
        replace p682:=eq_true p682
        replace q682:=eq_true q682
        go_wp2_with (first|((with_reducible refine gate_dst (N:=7) rfl ?_);refine box_event ?hg (N:=7) ?hd (cs:=#[.int .i64 0,.int .i64 0]) (t:=137) ?hr ?_;(case hd=>rfl);(case hg=>rfl);(case hr=>first|(go_simp;done)|(go_simp;rfl));intro gb683 hg w26 hbox hb;have n0_:=A0_ (blk_below (g:=gb680) (o:=.cells #[.int .i64 0,.int .i64 0] 137 (0,0)) (bd_ BK680.out) hb);have n1_:=A0_ (blk_below (g:=gb681) (o:=.cells #[.int .i64 x682000_1,.int .i64 x682001_1] 137 (0,0)) (bd_ BK681.out) hb);have n2_:=A0_ (below_step yo_ hb);have n3_:=A0_ (hbox);have n4_:=A0_ ((by rw [hg];exact (below_size yo_):w.heap.size≤gb683));have n5_:=A0_ ((by rw [hg];exact (below_size yo_):w.heap.size≤gb683));have n6_:=A0_ ((by rw [hg];exact Nat.ne_of_lt (blk_lt (g:=gb680) (o:=.cells #[.int .i64 0,.int .i64 0] 137 (0,0)) (bd_ BK680.out)):gb680≠gb683));have n7_:=A0_ ((by rw [hg];exact Nat.ne_of_gt (blk_lt (g:=gb680) (o:=.cells #[.int .i64 0,.int .i64 0] 137 (0,0)) (bd_ BK680.out)):gb683≠gb680));have n8_:=A0_ ((by rw [hg];exact Nat.ne_of_lt (blk_lt (g:=gb681) (o:=.cells #[.int .i64 x682000_1,.int .i64 x682001_1] 137 (0,0)) (bd_ BK681.out)):gb681≠gb683));have n9_:=A0_ ((by rw [hg];exact Nat.ne_of_gt (blk_lt (g:=gb681) (o:=.cells #[.int .i64 x682000_1,.int .i64 x682001_1] 137 (0,0)) (bd_ BK681.out)):gb683≠gb681));clear BK680;clear BK681;clear HB;have BK680:=n0_;have BK681:=n1_;have HB:=n2_;have BK683:=n3_;have GW683:=n4_;have GE683:=n5_;have NB680_683:=n6_;have NB683_680:=n7_;have NB681_683:=n8_;have NB683_681:=n9_;clear n0_ n1_ n2_ n3_ n4_ n5_ n6_ n7_ n8_ n9_;clear hb hbox hg;have hnb27:=NB683_680.out;have hnc27:=NB680_683.out;have hnb28:=NB683_681.out;have hnc28:=NB681_683.out;obtain ⟨hcz29_0,hcz29_1,hfz29_0,hfz29_1⟩:=bq2_ BK683.out;have hnb30:=NB681_680.out;have hnc30:=NB680_681.out;obtain ⟨hcz31_0,hcz31_1,hfz31_0,hfz31_1⟩:=bq2_ BK681.out)|(go_at_call 111;(with_reducible refine (sky_Watch_c3.calls ((rd_T137 l0 x10_1).f0) ((rd_T137 l0 x10_1).f1) x682000_1 x682001_1 false _ A15.out).mono ?_);rintro e w32 ⟨rfl,hb⟩;have n0_:=A0_ (blk_below (g:=gb680) (o:=.cells #[.int .i64 0,.int .i64 0] 137 (0,0)) y2h_ hb);have n1_:=A0_ (blk_below (g:=gb681) (o:=.cells #[.int .i64 x682000_1,.int .i64 x682001_1] 137 (0,0)) y2g_ hb);have n2_:=A0_ (blk_below (g:=gb683) (o:=.cells #[.int .i64 ((rd_T137 l0 x10_1).f0),.int .i64 ((rd_T137 l0 x10_1).f1)] 137 (0,0)) y2a_ hb);have n3_:=A0_ (below_step y1c_ hb);clear BK680;clear BK681;clear BK683;clear HB;have BK680:=n0_;have BK681:=n1_;have BK683:=n2_;have HB:=n3_;clear n0_ n1_ n2_ n3_;(try clear hb);(try clear hb2);(try clear hk);(try clear hi)))
        go_roundg k1
        case measure=>have:=HK1.out;omega
        case rel=>exact ⟨(wrap64 (x10_1+1)),(x682000_1),(x682001_1),y4_,H',⟨by have:=HK1.out;omega⟩,⟨by (with_reducible repeat (first|refine blk_drewN ?_ _|refine blk_drew ?_|refine blk_alloc ?_ _));exact BK680.out⟩,⟨by (with_reducible repeat (first|refine blk_drewN ?_ _|refine blk_drew ?_|refine blk_alloc ?_ _));exact BK681.out⟩,⟨y1c_⟩⟩
     ·rw [if_neg c7] at H;exact absurd H (by simp)
    ·rw [if_neg c6] at H;exact absurd H (by simp)
   ·rw [if_neg c5] at H;have c5b0:decide (x10_1<(l0.length:Int))=false:=decide_eq_false c5;clear c5
    simp only [Option.some.injEq,Prod.mk.injEq] at H
    obtain ⟨rfl,rfl⟩:=H
    have hnb33:=NB681_680.out
    have hnc33:=NB680_681.out
    obtain ⟨hcz34_0,hcz34_1,hfz34_0,hfz34_1⟩:=bq2_ BK681.out;obtain ⟨hcz35_0,hcz35_1,hfz35_0,hfz35_1⟩:=bq2_ BK680.out;go_wp2
    refine bodyPost_ret (results_cell_row rfl _ _ gb680 137 #[.int .i64 x682000_1,.int .i64 x682001_1] (0,0) _ rfl (by (with_reducible repeat (first|refine blk_drewN ?_ _|refine blk_drew ?_|refine blk_alloc ?_ _));refine blk_put (cs:=#[.int .i64 x682000_1,.int .i64 0]) ?_ 1 _ rfl;(with_reducible repeat (first|refine blk_drewN ?_ _|refine blk_drew ?_|refine blk_alloc ?_ _));refine blk_put (cs:=#[.int .i64 0,.int .i64 0]) ?_ 0 _ rfl;(with_reducible repeat (first|refine blk_drewN ?_ _|refine blk_drew ?_|refine blk_alloc ?_ _));exact BK680.out) Tryz.underlying137 rfl (by kernel_rfl)) rfl ?_
    exact ⟨y2_,yo_⟩
def sky_Near_c1.f (a0_0:Int) (a0_1:Int) (a1_0:Int) (a1_1:Int):Option (Bool):=some (decide (a0_1<a1_1))
set_option maxHeartbeats 8000000 in
set_option maxRecDepth 100000 in
theorem sky_Near_c1.calls (a0_0:Int) (a0_1:Int) (a1_0:Int) (a1_1:Int) (r:Bool) (w:World) (h:sky_Near_c1.f a0_0 a0_1 a1_0 a1_1=some r):
  Calls Tryz.prog 75 #[.agg #[.int .i64 a0_0,.int .i64 a0_1],.agg #[.int .i64 a1_0,.int .i64 a1_1]] w fun e w'=>e=.returned (.bool r)∧Below w.heap.size w w':=by
 have hu119:=Tryz.underlying119
 have HB:=A0_ (Below.refl w.heap.size w)
 have H:(some (decide (a0_1<a1_1)))=some r:=h
 clear h;obtain rfl:=Option.some.inj H
 go_enter Tryz.func75,Tryz.ntmps75
 go_wp2_with (first|((with_reducible refine gate_dst (N:=2) rfl ?_);refine box_event ?hg (N:=2) ?hd (cs:=#[.int .i64 a0_0,.int .i64 a0_1]) (t:=119) ?hr ?_;(case hd=>rfl);(case hg=>rfl);(case hr=>first|(go_simp;done)|(go_simp;rfl));intro gb685 hg w3 hbox hb;have n0_:=A0_ (below_step y0_ hb);have n1_:=A0_ (hbox);have n2_:=A0_ ((by rw [hg];exact (below_size y0_):w.heap.size≤gb685));have n3_:=A0_ ((by rw [hg];exact (below_size y0_):w.heap.size≤gb685));clear HB;have HB:=n0_;have BK685:=n1_;have GW685:=n2_;have GE685:=n3_;clear n0_ n1_ n2_ n3_;clear hb hbox hg)|((with_reducible refine gate_dst (N:=3) rfl ?_);refine box_event ?hg (N:=3) ?hd (cs:=#[.int .i64 a1_0,.int .i64 a1_1]) (t:=119) ?hr ?_;(case hd=>rfl);(case hg=>rfl);(case hr=>first|(go_simp;done)|(go_simp;rfl));intro gb686 hg w4 hbox hb;have n0_:=A0_ (blk_below (g:=gb685) (o:=.cells #[.int .i64 a0_0,.int .i64 a0_1] 119 (0,0)) (bd_ BK685.out) hb);have n1_:=A0_ (below_step y2p_ hb);have n2_:=A0_ (hbox);have n3_:=A0_ ((by rw [hg];exact (below_size y2p_):w.heap.size≤gb686));have n4_:=A0_ ((by rw [hg];exact (below_size y2p_):w.heap.size≤gb686));have n5_:=A0_ ((by rw [hg];exact Nat.ne_of_lt (blk_lt (g:=gb685) (o:=.cells #[.int .i64 a0_0,.int .i64 a0_1] 119 (0,0)) (bd_ BK685.out)):gb685≠gb686));have n6_:=A0_ ((by rw [hg];exact Nat.ne_of_gt (blk_lt (g:=gb685) (o:=.cells #[.int .i64 a0_0,.int .i64 a0_1] 119 (0,0)) (bd_ BK685.out)):gb686≠gb685));clear BK685;clear HB;have BK685:=n0_;have HB:=n1_;have BK686:=n2_;have GW686:=n3_;have GE686:=n4_;have NB685_686:=n5_;have NB686_685:=n6_;clear n0_ n1_ n2_ n3_ n4_ n5_ n6_;clear hb hbox hg;have hnb5:=NB685_686.out;have hnc5:=NB686_685.out;obtain ⟨hcz6_0,hcz6_1,hfz6_0,hfz6_1⟩:=bq2_ BK685.out;obtain ⟨hcz7_0,hcz7_1,hfz7_0,hfz7_1⟩:=bq2_ BK686.out))
 go_ret
 exact ⟨y2_,(by repeat (first|(with_reducible first|exact HB.out|apply below_alloc|apply pw_below_drewN|apply below_drew1|refine below_set ?_ GE685.out|refine below_set ?_ GE686.out)|exact HB.out))⟩
def at_best_Near_c1.l0:Nat→List (S119)→Int→Int→Int→Int→Option (Int × Int)
 |0,_,_,_,_,_=>none
 |k+1,x8,x9,x10,x689000,x689001=>if x10<x9 then (if 0≤x10 then (if x10<(x8.length:Int) then (if x10=0 then (at_best_Near_c1.l0 k x8 x9 (wrap64 (x10+1)) ((rd_T119 x8 x10).f0) ((rd_T119 x8 x10).f1)) else ((sky_Near_c1.f ((rd_T119 x8 x10).f0) ((rd_T119 x8 x10).f1) x689000 x689001).bind fun t691=>(if t691=true then (at_best_Near_c1.l0 k x8 x9 (wrap64 (x10+1)) ((rd_T119 x8 x10).f0) ((rd_T119 x8 x10).f1)) else (at_best_Near_c1.l0 k x8 x9 (wrap64 (x10+1)) x689000 x689001)))) else (none)) else (none)) else (some (x689000,x689001))
def at_best_Near_c1.f (k:Nat) (l0:List (S119))  : Option (Int × Int):=at_best_Near_c1.l0 k l0 (l0.length:Int) 0 0 0
theorem at_best_Near_c1.mono_l:∀ k,(∀ y0 y1 y2 y3 y4,LeO (at_best_Near_c1.l0 k y0 y1 y2 y3 y4) (at_best_Near_c1.l0 (k+1) y0 y1 y2 y3 y4))
 |0=>fun _ _ _ _ _ r h=>by simp [at_best_Near_c1.l0] at h
 |k+1=>by
  have ih0:=at_best_Near_c1.mono_l k
  ·intro y0 y1 y2 y3 y4
   unfold at_best_Near_c1.l0
   repeat' first
   |(with_reducible exact ih0 _ _ _ _ _)
   |(with_reducible exact LeO.refl _)
   |(with_reducible exact LeO.none _)
   |(with_reducible refine LeO.ite ?_ ?_)
   |(with_reducible refine LeO.bind ?_ (fun _=>?_))
   |exact ih0 _ _ _ _ _
   |exact LeO.none _
   |refine LeO.ite ?_ ?_
   |refine LeO.bind ?_ (fun _=>?_)
theorem at_best_Near_c1.mono:∀ a0 k,LeO (at_best_Near_c1.f k a0) (at_best_Near_c1.f (k+1) a0):=by
 intro a0 k
 have ih0:=at_best_Near_c1.mono_l k
 unfold at_best_Near_c1.f
 repeat' first
   |(with_reducible exact ih0 _ _ _ _ _)
   |(with_reducible exact LeO.refl _)
   |(with_reducible exact LeO.none _)
   |(with_reducible refine LeO.ite ?_ ?_)
   |(with_reducible refine LeO.bind ?_ (fun _=>?_))
   |exact ih0 _ _ _ _ _
   |exact LeO.none _
   |refine LeO.ite ?_ ?_
   |refine LeO.bind ?_ (fun _=>?_)
set_option maxHeartbeats 8000000 in
set_option maxRecDepth 100000 in
theorem at_best_Near_c1.calls (k:Nat) (A0:Option Addr) (c0:Nat) (l0:List (S119))  (r1:Int) (r2:Int) (w:World) (hr0:Kd.C k119 w A0 l0.length l0) (hc0:l0.length≤c0) (h:at_best_Near_c1.f k l0=some (r1,r2)):
  Calls Tryz.prog 74 #[.slice A0 l0.length c0,.func (.func 75) #[] #[]] w fun e w'=>e=.returned (.agg #[.int .i64 r1,.int .i64 r2])∧Below w.heap.size w w':=by
 have hu119:=Tryz.underlying119
 have HR0:=A0_ hr0;have HC0:=A0_ hc0;clear hr0 hc0
 have HB:=A0_ (Below.refl w.heap.size w)
 have H:(at_best_Near_c1.l0 k l0 (l0.length:Int) 0 0 0)=some (r1,r2):=h
 clear h
 have H':=A0_ H
 clear H
 go_enter Tryz.func74,Tryz.ntmps74
 go_wp2_with (first|((with_reducible refine gate_dst (N:=4) rfl ?_);refine box_event ?hg (N:=4) ?hd (cs:=#[.int .i64 0,.int .i64 0]) (t:=119) ?hr ?_;(case hd=>rfl);(case hg=>rfl);(case hr=>first|(go_simp;done)|(go_simp;rfl));intro gb687 hg w3 hbox hb;have n0_:=A0_ (below_step y0_ hb);have n1_:=A0_ (hbox);have n2_:=A0_ ((by rw [hg];exact (below_size y0_):w.heap.size≤gb687));have n3_:=A0_ ((by rw [hg];exact (below_size y0_):w.heap.size≤gb687));clear HB;have HB:=n0_;have BK687:=n1_;have GW687:=n2_;have GE687:=n3_;clear n0_ n1_ n2_ n3_;clear hb hbox hg)|((with_reducible refine gate_dst (N:=5) rfl ?_);refine box_event ?hg (N:=5) ?hd (cs:=#[.int .i64 0,.int .i64 0]) (t:=119) ?hr ?_;(case hd=>rfl);(case hg=>rfl);(case hr=>first|(go_simp;done)|(go_simp;rfl));intro gb688 hg w4 hbox hb;have n0_:=A0_ (blk_below (g:=gb687) (o:=.cells #[.int .i64 0,.int .i64 0] 119 (0,0)) (bd_ BK687.out) hb);have n1_:=A0_ (below_step y2o_ hb);have n2_:=A0_ (hbox);have n3_:=A0_ ((by rw [hg];exact (below_size y2o_):w.heap.size≤gb688));have n4_:=A0_ ((by rw [hg];exact (below_size y2o_):w.heap.size≤gb688));have n5_:=A0_ ((by rw [hg];exact Nat.ne_of_lt (blk_lt (g:=gb687) (o:=.cells #[.int .i64 0,.int .i64 0] 119 (0,0)) (bd_ BK687.out)):gb687≠gb688));have n6_:=A0_ ((by rw [hg];exact Nat.ne_of_gt (blk_lt (g:=gb687) (o:=.cells #[.int .i64 0,.int .i64 0] 119 (0,0)) (bd_ BK687.out)):gb688≠gb687));clear BK687;clear HB;have BK687:=n0_;have HB:=n1_;have BK688:=n2_;have GW688:=n3_;have GE688:=n4_;have NB687_688:=n5_;have NB688_687:=n6_;clear n0_ n1_ n2_ n3_ n4_ n5_ n6_;clear hb hbox hg))
 go_loopg [10] k (fun kq v10 w'=>∃ (x10_1:Int) (x689000_1:Int) (x689001_1:Int),v10=.int .i64 x10_1∧Aside0 (at_best_Near_c1.l0 kq l0 (l0.length:Int) x10_1 x689000_1 x689001_1=some (r1,r2))∧Aside0 (kq≤k)∧Aside0 (w'.heap[gb687]?=some (.cells #[.int .i64 0,.int .i64 0] 119 (0,0)))∧Aside0 (w'.heap[gb688]?=some (.cells #[.int .i64 x689000_1,.int .i64 x689001_1] 119 (0,0)))∧Aside0 (Below w.heap.size w w'))
 case atStart=>exact ⟨(0),(0),(0),y4_,H',⟨Nat.le_refl _⟩,⟨by (with_reducible repeat (first|refine blk_drewN ?_ _|refine blk_drew ?_|refine blk_alloc ?_ _));exact BK687.out⟩,⟨by (with_reducible repeat (first|refine blk_drewN ?_ _|refine blk_drew ?_|refine blk_alloc ?_ _));exact BK688.out⟩,⟨yn_⟩⟩
 case round=>
  clear H'
  (try clear c1);(try clear p2)
  obtain ⟨x10_1,x689000_1,x689001_1,rfl,HA,HK1,BK687,BK688,HB⟩:=hrel
  cases gk with
  |zero=>exact absurd HA.out (by simp [at_best_Near_c1.l0])
  |succ k1=>
   have H:=HA.out
   clear HA
   simp only [at_best_Near_c1.l0] at H
   by_cases c5:x10_1<(l0.length:Int)
   ·rw [if_pos c5] at H;have c5b0:decide (x10_1<(l0.length:Int))=true:=decide_eq_true c5;clear c5
    by_cases c6:0≤x10_1
    ·rw [if_pos c6] at H;have c6b0:decide (0≤x10_1)=true:=decide_eq_true c6;clear c6
     by_cases c7:x10_1<(l0.length:Int)
     ·rw [if_pos c7] at H;have c7b0:decide (x10_1<(l0.length:Int))=true:=decide_eq_true c7;clear c7
      by_cases c8:x10_1=0
      ·rw [if_pos c8] at H
       have c8b0:(x10_1 == 0)=true:=beq_iff_eq.mpr c8
       have c8b1:(x10_1 != 0)=false:=bne_eq_false_iff_eq.mpr c8
       clear c8
       have H':=A0_ H
       clear H
       have p689:0≤(x10_1:Int):=of_decide_eq_true y5_
       have q689:x10_1<(l0.length:Int):=of_decide_eq_true y5_
       obtain ⟨ad689,e689,hx689_0,hx689_1⟩:=at_T119 HR0.out x10_1 p689 q689
       cases e689
       replace hx689_0:=(HB.out.cell (World.block_lt_of_cell? w _ hx689_0)).trans hx689_0
       replace hx689_1:=(HB.out.cell (World.block_lt_of_cell? w _ hx689_1)).trans hx689_1
       replace p689:=eq_true p689
       replace q689:=eq_true q689
       go_wp2_with (first|((with_reducible refine gate_dst (N:=7) rfl ?_);refine box_event ?hg (N:=7) ?hd (cs:=#[.int .i64 0,.int .i64 0]) (t:=119) ?hr ?_;(case hd=>rfl);(case hg=>rfl);(case hr=>first|(go_simp;done)|(go_simp;rfl));intro gb690 hg w9 hbox hb;have n0_:=A0_ (blk_below (g:=gb687) (o:=.cells #[.int .i64 0,.int .i64 0] 119 (0,0)) (bd_ BK687.out) hb);have n1_:=A0_ (blk_below (g:=gb688) (o:=.cells #[.int .i64 x689000_1,.int .i64 x689001_1] 119 (0,0)) (bd_ BK688.out) hb);have n2_:=A0_ (below_step yn_ hb);have n3_:=A0_ (hbox);have n4_:=A0_ ((by rw [hg];exact (below_size yn_):w.heap.size≤gb690));have n5_:=A0_ ((by rw [hg];exact (below_size yn_):w.heap.size≤gb690));have n6_:=A0_ ((by rw [hg];exact Nat.ne_of_lt (blk_lt (g:=gb687) (o:=.cells #[.int .i64 0,.int .i64 0] 119 (0,0)) (bd_ BK687.out)):gb687≠gb690));have n7_:=A0_ ((by rw [hg];exact Nat.ne_of_gt (blk_lt (g:=gb687) (o:=.cells #[.int .i64 0,.int .i64 0] 119 (0,0)) (bd_ BK687.out)):gb690≠gb687));have n8_:=A0_ ((by rw [hg];exact Nat.ne_of_lt (blk_lt (g:=gb688) (o:=.cells #[.int .i64 x689000_1,.int .i64 x689001_1] 119 (0,0)) (bd_ BK688.out)):gb688≠gb690));have n9_:=A0_ ((by rw [hg];exact Nat.ne_of_gt (blk_lt (g:=gb688) (o:=.cells #[.int .i64 x689000_1,.int .i64 x689001_1] 119 (0,0)) (bd_ BK688.out)):gb690≠gb688));clear BK687;clear BK688;clear HB;have BK687:=n0_;have BK688:=n1_;have HB:=n2_;have BK690:=n3_;have GW690:=n4_;have GE690:=n5_;have NB687_690:=n6_;have NB690_687:=n7_;have NB688_690:=n8_;have NB690_688:=n9_;clear n0_ n1_ n2_ n3_ n4_ n5_ n6_ n7_ n8_ n9_;clear hb hbox hg;have hnb10:=NB690_687.out;have hnc10:=NB687_690.out;have hnb11:=NB690_688.out;have hnc11:=NB688_690.out;obtain ⟨hcz12_0,hcz12_1,hfz12_0,hfz12_1⟩:=bq2_ BK690.out;have hnb13:=NB688_687.out;have hnc13:=NB687_688.out;obtain ⟨hcz14_0,hcz14_1,hfz14_0,hfz14_1⟩:=bq2_ BK688.out))
       go_roundg k1
       case measure=>have:=HK1.out;omega
       case rel=>exact ⟨(wrap64 (x10_1+1)),((rd_T119 l0 x10_1).f0),((rd_T119 l0 x10_1).f1),y4_,H',⟨by have:=HK1.out;omega⟩,⟨by (with_reducible repeat (first|refine blk_drewN ?_ _|refine blk_drew ?_|refine blk_alloc ?_ _));refine blk_far ?_ NB687_688.out _;(with_reducible repeat (first|refine blk_drewN ?_ _|refine blk_drew ?_|refine blk_alloc ?_ _));refine blk_far ?_ NB687_688.out _;(with_reducible repeat (first|refine blk_drewN ?_ _|refine blk_drew ?_|refine blk_alloc ?_ _));refine blk_far ?_ NB687_690.out _;(with_reducible repeat (first|refine blk_drewN ?_ _|refine blk_drew ?_|refine blk_alloc ?_ _));refine blk_far ?_ NB687_690.out _;(with_reducible repeat (first|refine blk_drewN ?_ _|refine blk_drew ?_|refine blk_alloc ?_ _));exact BK687.out⟩,⟨by (with_reducible repeat (first|refine blk_drewN ?_ _|refine blk_drew ?_|refine blk_alloc ?_ _));refine blk_put (cs:=#[.int .i64 ((rd_T119 l0 x10_1).f0),.int .i64 x689001_1]) ?_ 1 _ rfl;(with_reducible repeat (first|refine blk_drewN ?_ _|refine blk_drew ?_|refine blk_alloc ?_ _));refine blk_put (cs:=#[.int .i64 x689000_1,.int .i64 x689001_1]) ?_ 0 _ rfl;(with_reducible repeat (first|refine blk_drewN ?_ _|refine blk_drew ?_|refine blk_alloc ?_ _));refine blk_far ?_ NB688_690.out _;(with_reducible repeat (first|refine blk_drewN ?_ _|refine blk_drew ?_|refine blk_alloc ?_ _));refine blk_far ?_ NB688_690.out _;(with_reducible repeat (first|refine blk_drewN ?_ _|refine blk_drew ?_|refine blk_alloc ?_ _));exact BK688.out⟩,⟨y1b_⟩⟩
      ·rw [if_neg c8] at H
       have c8b0:(x10_1 == 0)=false:=beq_eq_false_iff_ne.mpr c8
       have c8b1:(x10_1 != 0)=true:=bne_iff_ne.mpr c8
       replace H:=Option.bind_eq_some_iff.mp H;obtain ⟨t691,A150,H⟩:=H
       replace H:(if t691=true then (at_best_Near_c1.l0 k1 l0 (l0.length:Int) (wrap64 (x10_1+1)) ((rd_T119 l0 x10_1).f0) ((rd_T119 l0 x10_1).f1)) else (at_best_Near_c1.l0 k1 l0 (l0.length:Int) (wrap64 (x10_1+1)) x689000_1 x689001_1))=some (r1,r2):=H
       have A15:=A0_ A150;clear A150
       by_cases c16:t691=true
       ·subst c16
        have H1:(at_best_Near_c1.l0 k1 l0 (l0.length:Int) (wrap64 (x10_1+1)) ((rd_T119 l0 x10_1).f0) ((rd_T119 l0 x10_1).f1))=some (r1,r2):=by rw [if_pos rfl] at H;exact H
        clear H;have H:=H1;clear H1
        have H':=A0_ H
        clear H
        have p689:0≤(x10_1:Int):=of_decide_eq_true y5_
        have q689:x10_1<(l0.length:Int):=of_decide_eq_true y5_
        obtain ⟨ad689,e689,hx689_0,hx689_1⟩:=at_T119 HR0.out x10_1 p689 q689
        cases e689
        replace hx689_0:=(HB.out.cell (World.block_lt_of_cell? w _ hx689_0)).trans hx689_0
        replace hx689_1:=(HB.out.cell (World.block_lt_of_cell? w _ hx689_1)).trans hx689_1
        replace p689:=eq_true p689
        replace q689:=eq_true q689
        go_wp2_with (first|((with_reducible refine gate_dst (N:=7) rfl ?_);refine box_event ?hg (N:=7) ?hd (cs:=#[.int .i64 0,.int .i64 0]) (t:=119) ?hr ?_;(case hd=>rfl);(case hg=>rfl);(case hr=>first|(go_simp;done)|(go_simp;rfl));intro gb690 hg w17 hbox hb;have n0_:=A0_ (blk_below (g:=gb687) (o:=.cells #[.int .i64 0,.int .i64 0] 119 (0,0)) (bd_ BK687.out) hb);have n1_:=A0_ (blk_below (g:=gb688) (o:=.cells #[.int .i64 x689000_1,.int .i64 x689001_1] 119 (0,0)) (bd_ BK688.out) hb);have n2_:=A0_ (below_step yn_ hb);have n3_:=A0_ (hbox);have n4_:=A0_ ((by rw [hg];exact (below_size yn_):w.heap.size≤gb690));have n5_:=A0_ ((by rw [hg];exact (below_size yn_):w.heap.size≤gb690));have n6_:=A0_ ((by rw [hg];exact Nat.ne_of_lt (blk_lt (g:=gb687) (o:=.cells #[.int .i64 0,.int .i64 0] 119 (0,0)) (bd_ BK687.out)):gb687≠gb690));have n7_:=A0_ ((by rw [hg];exact Nat.ne_of_gt (blk_lt (g:=gb687) (o:=.cells #[.int .i64 0,.int .i64 0] 119 (0,0)) (bd_ BK687.out)):gb690≠gb687));have n8_:=A0_ ((by rw [hg];exact Nat.ne_of_lt (blk_lt (g:=gb688) (o:=.cells #[.int .i64 x689000_1,.int .i64 x689001_1] 119 (0,0)) (bd_ BK688.out)):gb688≠gb690));have n9_:=A0_ ((by rw [hg];exact Nat.ne_of_gt (blk_lt (g:=gb688) (o:=.cells #[.int .i64 x689000_1,.int .i64 x689001_1] 119 (0,0)) (bd_ BK688.out)):gb690≠gb688));clear BK687;clear BK688;clear HB;have BK687:=n0_;have BK688:=n1_;have HB:=n2_;have BK690:=n3_;have GW690:=n4_;have GE690:=n5_;have NB687_690:=n6_;have NB690_687:=n7_;have NB688_690:=n8_;have NB690_688:=n9_;clear n0_ n1_ n2_ n3_ n4_ n5_ n6_ n7_ n8_ n9_;clear hb hbox hg;have hnb18:=NB690_687.out;have hnc18:=NB687_690.out;have hnb19:=NB690_688.out;have hnc19:=NB688_690.out;obtain ⟨hcz20_0,hcz20_1,hfz20_0,hfz20_1⟩:=bq2_ BK690.out;have hnb21:=NB688_687.out;have hnc21:=NB687_688.out;obtain ⟨hcz22_0,hcz22_1,hfz22_0,hfz22_1⟩:=bq2_ BK688.out)|(go_at_call 75;(with_reducible refine (sky_Near_c1.calls ((rd_T119 l0 x10_1).f0) ((rd_T119 l0 x10_1).f1) x689000_1 x689001_1 true _ A15.out).mono ?_);rintro e w23 ⟨rfl,hb⟩;have n0_:=A0_ (blk_below (g:=gb687) (o:=.cells #[.int .i64 0,.int .i64 0] 119 (0,0)) y2f_ hb);have n1_:=A0_ (blk_below (g:=gb688) (o:=.cells #[.int .i64 x689000_1,.int .i64 x689001_1] 119 (0,0)) y2e_ hb);have n2_:=A0_ (blk_below (g:=gb690) (o:=.cells #[.int .i64 ((rd_T119 l0 x10_1).f0),.int .i64 ((rd_T119 l0 x10_1).f1)] 119 (0,0)) y2b_ hb);have n3_:=A0_ (below_step y1b_ hb);clear BK687;clear BK688;clear BK690;clear HB;have BK687:=n0_;have BK688:=n1_;have BK690:=n2_;have HB:=n3_;clear n0_ n1_ n2_ n3_;(try clear hb);(try clear hb2);(try clear hk);(try clear hi);obtain ⟨hcz24_0,hcz24_1,hfz24_0,hfz24_1⟩:=bq2_ BK690.out;obtain ⟨hcz25_0,hcz25_1,hfz25_0,hfz25_1⟩:=bq2_ BK688.out))
        go_roundg k1
        case measure=>have:=HK1.out;omega
        case rel=>exact ⟨(wrap64 (x10_1+1)),((rd_T119 l0 x10_1).f0),((rd_T119 l0 x10_1).f1),y4_,H',⟨by have:=HK1.out;omega⟩,⟨by (with_reducible repeat (first|refine blk_drewN ?_ _|refine blk_drew ?_|refine blk_alloc ?_ _));refine blk_far ?_ NB687_688.out _;(with_reducible repeat (first|refine blk_drewN ?_ _|refine blk_drew ?_|refine blk_alloc ?_ _));refine blk_far ?_ NB687_688.out _;(with_reducible repeat (first|refine blk_drewN ?_ _|refine blk_drew ?_|refine blk_alloc ?_ _));exact BK687.out⟩,⟨by (with_reducible repeat (first|refine blk_drewN ?_ _|refine blk_drew ?_|refine blk_alloc ?_ _));refine blk_put (cs:=#[.int .i64 ((rd_T119 l0 x10_1).f0),.int .i64 x689001_1]) ?_ 1 _ rfl;(with_reducible repeat (first|refine blk_drewN ?_ _|refine blk_drew ?_|refine blk_alloc ?_ _));refine blk_put (cs:=#[.int .i64 x689000_1,.int .i64 x689001_1]) ?_ 0 _ rfl;(with_reducible repeat (first|refine blk_drewN ?_ _|refine blk_drew ?_|refine blk_alloc ?_ _));exact BK688.out⟩,⟨y1b_⟩⟩
       ·replace c16:=Bool.eq_false_iff.mpr c16;subst c16
        have H1:(at_best_Near_c1.l0 k1 l0 (l0.length:Int) (wrap64 (x10_1+1)) x689000_1 x689001_1)=some (r1,r2):=by rw [if_neg (show ¬ (false=true) by decide)] at H;exact H
        clear H;have H:=H1;clear H1
        have H':=A0_ H
        clear H
        have p689:0≤(x10_1:Int):=of_decide_eq_true y5_
        have q689:x10_1<(l0.length:Int):=of_decide_eq_true y5_
        obtain ⟨ad689,e689,hx689_0,hx689_1⟩:=at_T119 HR0.out x10_1 p689 q689
        cases e689
        replace hx689_0:=(HB.out.cell (World.block_lt_of_cell? w _ hx689_0)).trans hx689_0
        replace hx689_1:=(HB.out.cell (World.block_lt_of_cell? w _ hx689_1)).trans hx689_1
        replace p689:=eq_true p689
        replace q689:=eq_true q689
        go_wp2_with (first|((with_reducible refine gate_dst (N:=7) rfl ?_);refine box_event ?hg (N:=7) ?hd (cs:=#[.int .i64 0,.int .i64 0]) (t:=119) ?hr ?_;(case hd=>rfl);(case hg=>rfl);(case hr=>first|(go_simp;done)|(go_simp;rfl));intro gb690 hg w26 hbox hb;have n0_:=A0_ (blk_below (g:=gb687) (o:=.cells #[.int .i64 0,.int .i64 0] 119 (0,0)) (bd_ BK687.out) hb);have n1_:=A0_ (blk_below (g:=gb688) (o:=.cells #[.int .i64 x689000_1,.int .i64 x689001_1] 119 (0,0)) (bd_ BK688.out) hb);have n2_:=A0_ (below_step yn_ hb);have n3_:=A0_ (hbox);have n4_:=A0_ ((by rw [hg];exact (below_size yn_):w.heap.size≤gb690));have n5_:=A0_ ((by rw [hg];exact (below_size yn_):w.heap.size≤gb690));have n6_:=A0_ ((by rw [hg];exact Nat.ne_of_lt (blk_lt (g:=gb687) (o:=.cells #[.int .i64 0,.int .i64 0] 119 (0,0)) (bd_ BK687.out)):gb687≠gb690));have n7_:=A0_ ((by rw [hg];exact Nat.ne_of_gt (blk_lt (g:=gb687) (o:=.cells #[.int .i64 0,.int .i64 0] 119 (0,0)) (bd_ BK687.out)):gb690≠gb687));have n8_:=A0_ ((by rw [hg];exact Nat.ne_of_lt (blk_lt (g:=gb688) (o:=.cells #[.int .i64 x689000_1,.int .i64 x689001_1] 119 (0,0)) (bd_ BK688.out)):gb688≠gb690));have n9_:=A0_ ((by rw [hg];exact Nat.ne_of_gt (blk_lt (g:=gb688) (o:=.cells #[.int .i64 x689000_1,.int .i64 x689001_1] 119 (0,0)) (bd_ BK688.out)):gb690≠gb688));clear BK687;clear BK688;clear HB;have BK687:=n0_;have BK688:=n1_;have HB:=n2_;have BK690:=n3_;have GW690:=n4_;have GE690:=n5_;have NB687_690:=n6_;have NB690_687:=n7_;have NB688_690:=n8_;have NB690_688:=n9_;clear n0_ n1_ n2_ n3_ n4_ n5_ n6_ n7_ n8_ n9_;clear hb hbox hg;have hnb27:=NB690_687.out;have hnc27:=NB687_690.out;have hnb28:=NB690_688.out;have hnc28:=NB688_690.out;obtain ⟨hcz29_0,hcz29_1,hfz29_0,hfz29_1⟩:=bq2_ BK690.out;have hnb30:=NB688_687.out;have hnc30:=NB687_688.out;obtain ⟨hcz31_0,hcz31_1,hfz31_0,hfz31_1⟩:=bq2_ BK688.out)|(go_at_call 75;(with_reducible refine (sky_Near_c1.calls ((rd_T119 l0 x10_1).f0) ((rd_T119 l0 x10_1).f1) x689000_1 x689001_1 false _ A15.out).mono ?_);rintro e w32 ⟨rfl,hb⟩;have n0_:=A0_ (blk_below (g:=gb687) (o:=.cells #[.int .i64 0,.int .i64 0] 119 (0,0)) y2f_ hb);have n1_:=A0_ (blk_below (g:=gb688) (o:=.cells #[.int .i64 x689000_1,.int .i64 x689001_1] 119 (0,0)) y2e_ hb);have n2_:=A0_ (blk_below (g:=gb690) (o:=.cells #[.int .i64 ((rd_T119 l0 x10_1).f0),.int .i64 ((rd_T119 l0 x10_1).f1)] 119 (0,0)) y2b_ hb);have n3_:=A0_ (below_step y1b_ hb);clear BK687;clear BK688;clear BK690;clear HB;have BK687:=n0_;have BK688:=n1_;have BK690:=n2_;have HB:=n3_;clear n0_ n1_ n2_ n3_;(try clear hb);(try clear hb2);(try clear hk);(try clear hi)))
        go_roundg k1
        case measure=>have:=HK1.out;omega
        case rel=>exact ⟨(wrap64 (x10_1+1)),(x689000_1),(x689001_1),y4_,H',⟨by have:=HK1.out;omega⟩,⟨by (with_reducible repeat (first|refine blk_drewN ?_ _|refine blk_drew ?_|refine blk_alloc ?_ _));exact BK687.out⟩,⟨by (with_reducible repeat (first|refine blk_drewN ?_ _|refine blk_drew ?_|refine blk_alloc ?_ _));exact BK688.out⟩,⟨y1b_⟩⟩
     ·rw [if_neg c7] at H;exact absurd H (by simp)
    ·rw [if_neg c6] at H;exact absurd H (by simp)
   ·rw [if_neg c5] at H;have c5b0:decide (x10_1<(l0.length:Int))=false:=decide_eq_false c5;clear c5
    simp only [Option.some.injEq,Prod.mk.injEq] at H
    obtain ⟨rfl,rfl⟩:=H
    have hnb33:=NB688_687.out
    have hnc33:=NB687_688.out
    obtain ⟨hcz34_0,hcz34_1,hfz34_0,hfz34_1⟩:=bq2_ BK688.out;obtain ⟨hcz35_0,hcz35_1,hfz35_0,hfz35_1⟩:=bq2_ BK687.out;go_wp2
    refine bodyPost_ret (results_cell_row rfl _ _ gb687 119 #[.int .i64 x689000_1,.int .i64 x689001_1] (0,0) _ rfl (by (with_reducible repeat (first|refine blk_drewN ?_ _|refine blk_drew ?_|refine blk_alloc ?_ _));refine blk_put (cs:=#[.int .i64 x689000_1,.int .i64 0]) ?_ 1 _ rfl;(with_reducible repeat (first|refine blk_drewN ?_ _|refine blk_drew ?_|refine blk_alloc ?_ _));refine blk_put (cs:=#[.int .i64 0,.int .i64 0]) ?_ 0 _ rfl;(with_reducible repeat (first|refine blk_drewN ?_ _|refine blk_drew ?_|refine blk_alloc ?_ _));exact BK687.out) Tryz.underlying119 rfl (by kernel_rfl)) rfl ?_
    exact ⟨y2_,yn_⟩
def sky_Watch_c1.f (a0:Int):Option (Bool):=(sky_isDay.f a0).bind fun t692=>(some (!t692))
set_option maxHeartbeats 8000000 in
set_option maxRecDepth 100000 in
theorem sky_Watch_c1.calls (a0:Int) (r:Bool) (w:World) (h:sky_Watch_c1.f a0=some r):
  Calls Tryz.prog 106 #[.int .i64 a0] w fun e w'=>e=.returned (.bool r)∧Drawn0 w w':=by
 have H:((sky_isDay.f a0).bind fun t692=>(some (!t692)))=some r:=h
 clear h;replace H:=Option.bind_eq_some_iff.mp H;obtain ⟨t692,A20,H⟩:=H
 replace H:(some (!t692))=some r:=H
 have A2:=A0_ A20;clear A20;obtain rfl:=Option.some.inj H
 go_enter Tryz.func106,Tryz.ntmps106
 go_wp2_with (first|((with_reducible refine gate_callee (f:=79) rfl ?_);refine goesL_ (some 4) rfl rfl Tryz.func79 (by kernel_rfl) rfl #[.int .i64 a0] rfl y1_ ?_;(with_reducible refine (sky_isDay.calls a0 t692 _ A2.out).mono ?_);rintro e w' ⟨rfl,⟨nd,rfl⟩⟩;refine ⟨_,rfl,?_⟩))
 go_ret
 exact ⟨y4_,yb_⟩
end Go.Proofs.YtjahbgldccjbfaaGreatDoor.PSky
end
section
namespace Go.Proofs.YtjahbgldccjbfaaGreatDoor.PSky
open Go.RowKit Go.Proofs.YtjahbgldccjbfaaGreatDoorW.PrintWords Go.Proofs.YtjahbgldccjbfaaGreatDoorW.PrintLast Go.Proofs.YtjahbgldccjbfaaGreatDoorW.PrintMore
attribute [local go_sem] max2_int min2_int max_two min_two max_three min_three max_four min_four
set_option linter.unusedVariables false
set_option linter.unusedSimpArgs false
attribute [local go_sem high] eqA95 eqA98
def iF_Watch_c1.l0:Nat→List Int→Int→Int→Option (Int)
 |0,_,_,_=>none
 |k+1,x0,x7,x8=>if x8<x7 then (if 0≤x8 then (if x8<(x0.length:Int) then ((sky_Watch_c1.f (rd x0 x8)).bind fun t694=>(if t694=true then (some x8) else (iF_Watch_c1.l0 k x0 x7 (wrap64 (x8+1))))) else (none)) else (none)) else (some (-1))
def iF_Watch_c1.f (k:Nat) (l0:List Int)  : Option (Int):=iF_Watch_c1.l0 k l0 (l0.length:Int) 0
set_option maxHeartbeats 8000000 in
set_option maxRecDepth 100000 in
theorem iF_Watch_c1.calls (k:Nat) (A0:Option Addr) (c0:Nat) (l0:List Int)  (r:Int) (w:World) (hr0:Kd.C (Kd.int .i64) w A0 l0.length l0) (hc0:l0.length≤c0) (h:iF_Watch_c1.f k l0=some r):
  Calls Tryz.prog 139 #[.slice A0 l0.length c0,.func (.func 106) #[] #[]] w fun e w'=>e=.returned (.int .i64 r)∧Drawn0 w w':=by
 have HR0:=A0_ hr0;have HC0:=A0_ hc0;clear hr0 hc0
 have H:(iF_Watch_c1.l0 k l0 (l0.length:Int) 0)=some r:=h
 clear h
 have H':=A0_ H
 clear H
 go_enter Tryz.func139,Tryz.ntmps139
 go_wp2
 go_loopg [8] k (fun kq v8 w'=>∃ (x8_1:Int),v8=.int .i64 x8_1∧Aside0 (iF_Watch_c1.l0 kq l0 (l0.length:Int) x8_1=some r)∧Aside0 (kq≤k)∧Drawn0 w w')
 case atStart=>exact ⟨(0),y4_,H',⟨Nat.le_refl _⟩,yb_⟩
 case round=>
  clear H'
  (try clear c1);(try clear p2)
  obtain ⟨x8_1,rfl,HA,HK1,⟨m1,rfl⟩⟩:=hrel
  cases gk with
  |zero=>exact absurd HA.out (by simp [iF_Watch_c1.l0])
  |succ k1=>
   have H:=HA.out
   clear HA
   simp only [iF_Watch_c1.l0] at H
   by_cases c3:x8_1<(l0.length:Int)
   ·rw [if_pos c3] at H;have c3b0:decide (x8_1<(l0.length:Int))=true:=decide_eq_true c3;clear c3
    by_cases c4:0≤x8_1
    ·rw [if_pos c4] at H;have c4b0:decide (0≤x8_1)=true:=decide_eq_true c4;clear c4
     by_cases c5:x8_1<(l0.length:Int)
     ·rw [if_pos c5] at H;have c5b0:decide (x8_1<(l0.length:Int))=true:=decide_eq_true c5;clear c5;replace H:=Option.bind_eq_some_iff.mp H;obtain ⟨t694,A60,H⟩:=H
      replace H:(if t694=true then (some x8_1) else (iF_Watch_c1.l0 k1 l0 (l0.length:Int) (wrap64 (x8_1+1))))=some r:=H
      have A6:=A0_ A60;clear A60
      by_cases c7:t694=true
      ·subst c7
       have H1:(some x8_1)=some r:=by rw [if_pos rfl] at H;exact H
       clear H;have H:=H1;clear H1;obtain rfl:=Option.some.inj H
       have p693:0≤(x8_1:Int):=of_decide_eq_true y5_
       have q693:x8_1<(l0.length:Int):=of_decide_eq_true y5_
       obtain ⟨ad693,e693,hx693_0⟩:=Kd.at_int HR0.out x8_1 p693 q693
       cases e693
       replace p693:=eq_true p693
       replace q693:=eq_true q693
       go_wp2_with (first|(go_at_call 106;(with_reducible refine (sky_Watch_c1.calls (rd l0 x8_1) true _ A6.out).mono ?_);rintro e w' ⟨rfl,⟨nd,rfl⟩⟩))
       go_ret
       exact ⟨y4_,yb_⟩
      ·replace c7:=Bool.eq_false_iff.mpr c7;subst c7
       have H1:(iF_Watch_c1.l0 k1 l0 (l0.length:Int) (wrap64 (x8_1+1)))=some r:=by rw [if_neg (show ¬ (false=true) by decide)] at H;exact H
       clear H;have H:=H1;clear H1
       have H':=A0_ H
       clear H
       have p693:0≤(x8_1:Int):=of_decide_eq_true y5_
       have q693:x8_1<(l0.length:Int):=of_decide_eq_true y5_
       obtain ⟨ad693,e693,hx693_0⟩:=Kd.at_int HR0.out x8_1 p693 q693
       cases e693
       replace p693:=eq_true p693
       replace q693:=eq_true q693
       go_wp2_with (first|(go_at_call 106;(with_reducible refine (sky_Watch_c1.calls (rd l0 x8_1) false _ A6.out).mono ?_);rintro e w' ⟨rfl,⟨nd,rfl⟩⟩))
       go_roundg k1
       case measure=>have:=HK1.out;omega
       case rel=>exact ⟨(wrap64 (x8_1+1)),y4_,H',⟨by have:=HK1.out;omega⟩,yb_⟩
     ·rw [if_neg c5] at H;exact absurd H (by simp)
    ·rw [if_neg c4] at H;exact absurd H (by simp)
   ·rw [if_neg c3] at H;have c3b0:decide (x8_1<(l0.length:Int))=false:=decide_eq_false c3;clear c3;obtain rfl:=Option.some.inj H;go_wp2;go_ret
    exact ⟨y4_,yb_⟩
def cF_Watch_c1.f (k:Nat) (l0:List Int)  : Option (Bool):=(iF_Watch_c1.f k l0).bind fun t695=>(some (decide (t695 ≥ 0)))
set_option maxHeartbeats 8000000 in
set_option maxRecDepth 100000 in
theorem cF_Watch_c1.calls (k:Nat) (A0:Option Addr) (c0:Nat) (l0:List Int)  (r:Bool) (w:World) (hr0:Kd.C (Kd.int .i64) w A0 l0.length l0) (hc0:l0.length≤c0) (h:cF_Watch_c1.f k l0=some r):
  Calls Tryz.prog 105 #[.slice A0 l0.length c0,.func (.func 106) #[] #[]] w fun e w'=>e=.returned (.bool r)∧Drawn0 w w':=by
 have HR0:=A0_ hr0;have HC0:=A0_ hc0;clear hr0 hc0
 have H:((iF_Watch_c1.f k l0).bind fun t695=>(some (decide (t695 ≥ 0))))=some r:=h
 clear h;replace H:=Option.bind_eq_some_iff.mp H;obtain ⟨t695,A30,H⟩:=H
 replace H:(some (decide (t695 ≥ 0)))=some r:=H
 have A3:=A0_ A30;clear A30;obtain rfl:=Option.some.inj H
 go_enter Tryz.func105,Tryz.ntmps105
 go_wp2_with (first|(go_at_call 139;(with_reducible refine (iF_Watch_c1.calls k _ _ l0  t695 _ ?side1 ?side2 A3.out).mono ?_);(case side1=>repeat (first|exact HR0.out|(with_reducible refine Kd.C_alloc ?_ _)|(with_reducible refine Kd.C_drewN ?_ _)|(with_reducible refine Kd.C_drew ?_)));(case side2=>exact HC0.out);rintro e w' ⟨rfl,⟨nd,rfl⟩⟩))
 go_ret
 exact ⟨y4_,yb_⟩
def tr_SameMoons.l0:Nat→List (S95)→List (S95)→Int→Option (Bool)
 |0,_,_,_=>none
 |k+1,x0,x1,x5=>if x5<(x0.length:Int) then (if 0≤x5 then (if x5<(x1.length:Int) then (if (!(((rd_T95 x0 x5).f0) == ((rd_T95 x1 x5).f0)) || (!(((rd_T95 x0 x5).f1) == ((rd_T95 x1 x5).f1))))=true then (some false) else (tr_SameMoons.l0 k x0 x1 (wrap64 (x5+1)))) else (none)) else (none)) else (some true)
def tr_SameMoons.f (k:Nat) (l0:List (S95)) (l1:List (S95)):Option (Bool):=if (l0.length:Int)=(l1.length:Int) then (tr_SameMoons.l0 k l0 l1 0) else (some false)
set_option maxHeartbeats 8000000 in
set_option maxRecDepth 100000 in
theorem tr_SameMoons.calls (k:Nat) (A0:Option Addr) (c0:Nat) (l0:List (S95)) (A1:Option Addr) (c1:Nat) (l1:List (S95)) (r:Bool) (w:World) (hr0:Kd.C k95 w A0 l0.length l0) (hc0:l0.length≤c0) (hr1:Kd.C k95 w A1 l1.length l1) (hc1:l1.length≤c1) (h:tr_SameMoons.f k l0 l1=some r):
  Calls Tryz.prog 57 #[.slice A0 l0.length c0,.slice A1 l1.length c1] w fun e w'=>e=.returned (.bool r)∧Drawn0 w w':=by
 have hu95:=Tryz.underlying95
 have HR0:=A0_ hr0;have HC0:=A0_ hc0;clear hr0 hc0;have HR1:=A0_ hr1;have HC1:=A0_ hc1;clear hr1 hc1
 have H:(if (l0.length:Int)=(l1.length:Int) then (tr_SameMoons.l0 k l0 l1 0) else (some false))=some r:=h
 clear h
 by_cases c3:(l0.length:Int)=(l1.length:Int)
 ·rw [if_pos c3] at H
  have c3b0:((l0.length:Int) == (l1.length:Int))=true:=beq_iff_eq.mpr c3
  have c3b1:((l0.length:Int) != (l1.length:Int))=false:=bne_eq_false_iff_eq.mpr c3
  have c3b2:(l0.length == l1.length)=true:=by first|simpa using c3|(simp at c3 ⊢;omega)
  clear c3
  have H':=A0_ H
  clear H
  go_enter Tryz.func57,Tryz.ntmps57
  go_wp2
  repeat (go_quiet (fail);try go_wp2)
  go_loopg [5] k (fun kq v5 w'=>∃ (x5_1:Int),v5=.int .i64 x5_1∧Aside0 (tr_SameMoons.l0 kq l0 l1 x5_1=some r)∧Aside0 (kq≤k)∧Drawn0 w w')
  case atStart=>exact ⟨(0),y4_,H',⟨Nat.le_refl _⟩,yb_⟩
  case round=>
   clear H'
   (try clear c1);(try clear p2);(try clear c3);(try clear c3b0);(try clear c3b1);(try clear c3b2)
   obtain ⟨x5_1,rfl,HA,HK1,⟨m1,rfl⟩⟩:=hrel
   cases gk with
   |zero=>exact absurd HA.out (by simp [tr_SameMoons.l0])
   |succ k1=>
    have H:=HA.out
    clear HA
    simp only [tr_SameMoons.l0] at H
    by_cases c4:x5_1<(l0.length:Int)
    ·rw [if_pos c4] at H;have c4b0:decide (x5_1<(l0.length:Int))=true:=decide_eq_true c4;clear c4
     by_cases c5:0≤x5_1
     ·rw [if_pos c5] at H;have c5b0:decide (0≤x5_1)=true:=decide_eq_true c5;clear c5
      by_cases c6:x5_1<(l1.length:Int)
      ·rw [if_pos c6] at H;have c6b0:decide (x5_1<(l1.length:Int))=true:=decide_eq_true c6;clear c6
       by_cases c7:(!(((rd_T95 l0 x5_1).f0) == ((rd_T95 l1 x5_1).f0)) || (!(((rd_T95 l0 x5_1).f1) == ((rd_T95 l1 x5_1).f1))))=true
       ·rw [if_pos c7] at H
        have c7b0:(!(((rd_T95 l0 x5_1).f0) == ((rd_T95 l1 x5_1).f0)) || (!(((rd_T95 l0 x5_1).f1) == ((rd_T95 l1 x5_1).f1))))=true:=c7
        clear c7;obtain rfl:=Option.some.inj H
        have p732:0≤(x5_1:Int):=of_decide_eq_true y5_
        have q732:x5_1<(l0.length:Int):=of_decide_eq_true y5_
        obtain ⟨ad732,e732,hx732_0,hx732_1⟩:=at_T95 HR0.out x5_1 p732 q732
        cases e732
        replace p732:=eq_true p732
        replace q732:=eq_true q732
        have p733:0≤(x5_1:Int):=of_decide_eq_true y5_
        have q733:x5_1<(l1.length:Int):=of_decide_eq_true y5_
        obtain ⟨ad733,e733,hx733_0,hx733_1⟩:=at_T95 HR1.out x5_1 p733 q733
        cases e733
        replace p733:=eq_true p733
        replace q733:=eq_true q733
        go_wp2
        repeat (go_quiet (fail);try go_wp2)
        go_ret
        exact ⟨y4_,yb_⟩
       ·rw [if_neg c7] at H
        have c7b0:(!(((rd_T95 l0 x5_1).f0) == ((rd_T95 l1 x5_1).f0)) || (!(((rd_T95 l0 x5_1).f1) == ((rd_T95 l1 x5_1).f1))))=false:=by simpa using c7
        clear c7
        have H':=A0_ H
        clear H
        have p732:0≤(x5_1:Int):=of_decide_eq_true y5_
        have q732:x5_1<(l0.length:Int):=of_decide_eq_true y5_
        obtain ⟨ad732,e732,hx732_0,hx732_1⟩:=at_T95 HR0.out x5_1 p732 q732
        cases e732
        replace p732:=eq_true p732
        replace q732:=eq_true q732
        have p733:0≤(x5_1:Int):=of_decide_eq_true y5_
        have q733:x5_1<(l1.length:Int):=of_decide_eq_true y5_
        obtain ⟨ad733,e733,hx733_0,hx733_1⟩:=at_T95 HR1.out x5_1 p733 q733
        cases e733
        replace p733:=eq_true p733
        replace q733:=eq_true q733
        go_wp2
        repeat (go_quiet (fail);try go_wp2)
        go_roundg k1
        case measure=>have:=HK1.out;omega
        case rel=>exact ⟨(wrap64 (x5_1+1)),y4_,H',⟨by have:=HK1.out;omega⟩,yb_⟩
      ·rw [if_neg c6] at H;exact absurd H (by simp)
     ·rw [if_neg c5] at H;exact absurd H (by simp)
    ·rw [if_neg c4] at H;have c4b0:decide (x5_1<(l0.length:Int))=false:=decide_eq_false c4;clear c4;obtain rfl:=Option.some.inj H;go_wp2
     repeat (go_quiet (fail);try go_wp2)
     go_ret
     exact ⟨y4_,yb_⟩
 ·rw [if_neg c3] at H
  have c3b0:((l0.length:Int) == (l1.length:Int))=false:=beq_eq_false_iff_ne.mpr c3
  have c3b1:((l0.length:Int) != (l1.length:Int))=true:=bne_iff_ne.mpr c3
  have c3b2:(l0.length == l1.length)=false:=by first|simpa using c3|(simp at c3 ⊢;omega)
  obtain rfl:=Option.some.inj H
  go_enter Tryz.func57,Tryz.ntmps57
  go_wp2
  repeat (go_quiet (fail);try go_wp2)
  go_ret
  exact ⟨y4_,yb_⟩
def tr_SameEclipses.l0:Nat→List (S98)→List (S98)→Int→Option (Bool)
 |0,_,_,_=>none
 |k+1,x0,x1,x5=>if x5<(x0.length:Int) then (if 0≤x5 then (if x5<(x1.length:Int) then (if (!(((rd_T98 x0 x5).f0) == ((rd_T98 x1 x5).f0)) || (!(((rd_T98 x0 x5).f1) == ((rd_T98 x1 x5).f1)) || (!(((rd_T98 x0 x5).f2) == ((rd_T98 x1 x5).f2)))))=true then (some false) else (tr_SameEclipses.l0 k x0 x1 (wrap64 (x5+1)))) else (none)) else (none)) else (some true)
def tr_SameEclipses.f (k:Nat) (l0:List (S98)) (l1:List (S98)):Option (Bool):=if (l0.length:Int)=(l1.length:Int) then (tr_SameEclipses.l0 k l0 l1 0) else (some false)
set_option maxHeartbeats 8000000 in
set_option maxRecDepth 100000 in
theorem tr_SameEclipses.calls (k:Nat) (A0:Option Addr) (c0:Nat) (l0:List (S98)) (A1:Option Addr) (c1:Nat) (l1:List (S98)) (r:Bool) (w:World) (hr0:Kd.C k98 w A0 l0.length l0) (hc0:l0.length≤c0) (hr1:Kd.C k98 w A1 l1.length l1) (hc1:l1.length≤c1) (h:tr_SameEclipses.f k l0 l1=some r):
  Calls Tryz.prog 58 #[.slice A0 l0.length c0,.slice A1 l1.length c1] w fun e w'=>e=.returned (.bool r)∧Drawn0 w w':=by
 have hu98:=Tryz.underlying98
 have HR0:=A0_ hr0;have HC0:=A0_ hc0;clear hr0 hc0;have HR1:=A0_ hr1;have HC1:=A0_ hc1;clear hr1 hc1
 have H:(if (l0.length:Int)=(l1.length:Int) then (tr_SameEclipses.l0 k l0 l1 0) else (some false))=some r:=h
 clear h
 by_cases c3:(l0.length:Int)=(l1.length:Int)
 ·rw [if_pos c3] at H
  have c3b0:((l0.length:Int) == (l1.length:Int))=true:=beq_iff_eq.mpr c3
  have c3b1:((l0.length:Int) != (l1.length:Int))=false:=bne_eq_false_iff_eq.mpr c3
  have c3b2:(l0.length == l1.length)=true:=by first|simpa using c3|(simp at c3 ⊢;omega)
  clear c3
  have H':=A0_ H
  clear H
  go_enter Tryz.func58,Tryz.ntmps58
  go_wp2
  repeat (go_quiet (fail);try go_wp2)
  go_loopg [5] k (fun kq v5 w'=>∃ (x5_1:Int),v5=.int .i64 x5_1∧Aside0 (tr_SameEclipses.l0 kq l0 l1 x5_1=some r)∧Aside0 (kq≤k)∧Drawn0 w w')
  case atStart=>exact ⟨(0),y4_,H',⟨Nat.le_refl _⟩,yb_⟩
  case round=>
   clear H'
   (try clear c1);(try clear p2);(try clear c3);(try clear c3b0);(try clear c3b1);(try clear c3b2)
   obtain ⟨x5_1,rfl,HA,HK1,⟨m1,rfl⟩⟩:=hrel
   cases gk with
   |zero=>exact absurd HA.out (by simp [tr_SameEclipses.l0])
   |succ k1=>
    have H:=HA.out
    clear HA
    simp only [tr_SameEclipses.l0] at H
    by_cases c4:x5_1<(l0.length:Int)
    ·rw [if_pos c4] at H;have c4b0:decide (x5_1<(l0.length:Int))=true:=decide_eq_true c4;clear c4
     by_cases c5:0≤x5_1
     ·rw [if_pos c5] at H;have c5b0:decide (0≤x5_1)=true:=decide_eq_true c5;clear c5
      by_cases c6:x5_1<(l1.length:Int)
      ·rw [if_pos c6] at H;have c6b0:decide (x5_1<(l1.length:Int))=true:=decide_eq_true c6;clear c6
       by_cases c7:(!(((rd_T98 l0 x5_1).f0) == ((rd_T98 l1 x5_1).f0)) || (!(((rd_T98 l0 x5_1).f1) == ((rd_T98 l1 x5_1).f1)) || (!(((rd_T98 l0 x5_1).f2) == ((rd_T98 l1 x5_1).f2)))))=true
       ·rw [if_pos c7] at H
        have c7b0:(!(((rd_T98 l0 x5_1).f0) == ((rd_T98 l1 x5_1).f0)) || (!(((rd_T98 l0 x5_1).f1) == ((rd_T98 l1 x5_1).f1)) || (!(((rd_T98 l0 x5_1).f2) == ((rd_T98 l1 x5_1).f2)))))=true:=c7
        clear c7;obtain rfl:=Option.some.inj H
        have p734:0≤(x5_1:Int):=of_decide_eq_true y5_
        have q734:x5_1<(l0.length:Int):=of_decide_eq_true y5_
        obtain ⟨ad734,e734,hx734_0,hx734_1,hx734_2⟩:=at_T98 HR0.out x5_1 p734 q734
        cases e734
        replace p734:=eq_true p734
        replace q734:=eq_true q734
        have p735:0≤(x5_1:Int):=of_decide_eq_true y5_
        have q735:x5_1<(l1.length:Int):=of_decide_eq_true y5_
        obtain ⟨ad735,e735,hx735_0,hx735_1,hx735_2⟩:=at_T98 HR1.out x5_1 p735 q735
        cases e735
        replace p735:=eq_true p735
        replace q735:=eq_true q735
        go_wp2
        repeat (go_quiet (fail);try go_wp2)
        go_ret
        exact ⟨y4_,yb_⟩
       ·rw [if_neg c7] at H
        have c7b0:(!(((rd_T98 l0 x5_1).f0) == ((rd_T98 l1 x5_1).f0)) || (!(((rd_T98 l0 x5_1).f1) == ((rd_T98 l1 x5_1).f1)) || (!(((rd_T98 l0 x5_1).f2) == ((rd_T98 l1 x5_1).f2)))))=false:=by simpa using c7
        clear c7
        have H':=A0_ H
        clear H
        have p734:0≤(x5_1:Int):=of_decide_eq_true y5_
        have q734:x5_1<(l0.length:Int):=of_decide_eq_true y5_
        obtain ⟨ad734,e734,hx734_0,hx734_1,hx734_2⟩:=at_T98 HR0.out x5_1 p734 q734
        cases e734
        replace p734:=eq_true p734
        replace q734:=eq_true q734
        have p735:0≤(x5_1:Int):=of_decide_eq_true y5_
        have q735:x5_1<(l1.length:Int):=of_decide_eq_true y5_
        obtain ⟨ad735,e735,hx735_0,hx735_1,hx735_2⟩:=at_T98 HR1.out x5_1 p735 q735
        cases e735
        replace p735:=eq_true p735
        replace q735:=eq_true q735
        go_wp2
        repeat (go_quiet (fail);try go_wp2)
        go_roundg k1
        case measure=>have:=HK1.out;omega
        case rel=>exact ⟨(wrap64 (x5_1+1)),y4_,H',⟨by have:=HK1.out;omega⟩,yb_⟩
      ·rw [if_neg c6] at H;exact absurd H (by simp)
     ·rw [if_neg c5] at H;exact absurd H (by simp)
    ·rw [if_neg c4] at H;have c4b0:decide (x5_1<(l0.length:Int))=false:=decide_eq_false c4;clear c4;obtain rfl:=Option.some.inj H;go_wp2
     repeat (go_quiet (fail);try go_wp2)
     go_ret
     exact ⟨y4_,yb_⟩
 ·rw [if_neg c3] at H
  have c3b0:((l0.length:Int) == (l1.length:Int))=false:=beq_eq_false_iff_ne.mpr c3
  have c3b1:((l0.length:Int) != (l1.length:Int))=true:=bne_iff_ne.mpr c3
  have c3b2:(l0.length == l1.length)=false:=by first|simpa using c3|(simp at c3 ⊢;omega)
  obtain rfl:=Option.some.inj H
  go_enter Tryz.func58,Tryz.ntmps58
  go_wp2
  repeat (go_quiet (fail);try go_wp2)
  go_ret
  exact ⟨y4_,yb_⟩
def tl_S.f  : Option ((List (S74)) × Int × Int × Int):=some ((([(⟨(⟨360,1⟩:S25),0,(([0]:List Int))⟩:S74),(⟨(⟨27,1⟩:S25),0,(([0,300,0,(-300)]:List Int))⟩:S74)]:List (S74))),6000,1,1000)
set_option maxHeartbeats 8000000 in
set_option maxRecDepth 100000 in
theorem tl_S.calls  (r1:List (S74)) (r2:Int) (r3:Int) (r4:Int) (w:World) (h:tl_S.f  = some (r1,r2,r3,r4)):
  Calls Tryz.prog 51 #[] w fun e w'=>∃ v0_:Value,e=.returned (.agg #[v0_,.int .i64 r2,.int .i64 r3,.int .i64 r4])∧Kd.N k74 74 w' w.heap.size (fun k_=>(w.heap.size≤k_)) v0_ r1∧Below w.heap.size w w':=by
 have hu29:=Tryz.underlying29
 have hu25:=Tryz.underlying25
 have hu74:=Tryz.underlying74
 have hu27:=Tryz.underlying27
 have HB:=A0_ (Below.refl w.heap.size w)
 have H:(some ((([(⟨(⟨360,1⟩:S25),0,(([0]:List Int))⟩:S74),(⟨(⟨27,1⟩:S25),0,(([0,300,0,(-300)]:List Int))⟩:S74)]:List (S74))),6000,1,1000))=some (r1,r2,r3,r4):=h
 clear h
 obtain ⟨y737,hy737⟩:∃ y_:List Int,y_=(([0]:List Int)):=⟨_,rfl⟩
 replace H:(some ((([(⟨(⟨360,1⟩:S25),0,y737⟩:S74),(⟨(⟨27,1⟩:S25),0,(([0,300,0,(-300)]:List Int))⟩:S74)]:List (S74))),6000,1,1000))=some (r1,r2,r3,r4):=by first|(rw [hy737];with_reducible exact H)|(have H2_:=(Option.bind_some _ _).symm.trans H;rw [hy737];with_reducible exact H2_)|(have H2_:=(Option.bind_some _ _).symm.trans H;with_reducible exact H2_)|with_reducible exact H|(rw [hy737];exact H)|exact H
 have Ny737:=A0_ hy737;clear hy737
 obtain ⟨y740,hy740⟩:∃ y_:List Int,y_=(([0,300,0,(-300)]:List Int)):=⟨_,rfl⟩
 replace H:(some ((([(⟨(⟨360,1⟩:S25),0,y737⟩:S74),(⟨(⟨27,1⟩:S25),0,y740⟩:S74)]:List (S74))),6000,1,1000))=some (r1,r2,r3,r4):=by first|(rw [hy740];with_reducible exact H)|(have H2_:=(Option.bind_some _ _).symm.trans H;rw [hy740];with_reducible exact H2_)|(have H2_:=(Option.bind_some _ _).symm.trans H;with_reducible exact H2_)|with_reducible exact H|(rw [hy740];exact H)|exact H
 have Ny740:=A0_ hy740;clear hy740
 obtain ⟨y743,hy743⟩:∃ y_:List (S74),y_=(([(⟨(⟨360,1⟩:S25),0,y737⟩:S74),(⟨(⟨27,1⟩:S25),0,y740⟩:S74)]:List (S74))):=⟨_,rfl⟩
 replace H:(some (y743,6000,1,1000))=some (r1,r2,r3,r4):=by first|(rw [hy743];with_reducible exact H)|(have H2_:=(Option.bind_some _ _).symm.trans H;rw [hy743];with_reducible exact H2_)|(have H2_:=(Option.bind_some _ _).symm.trans H;with_reducible exact H2_)|with_reducible exact H|(rw [hy743];exact H)|exact H
 have Ny743:=A0_ hy743;clear hy743
 simp only [Option.some.injEq,Prod.mk.injEq] at H
 obtain ⟨rfl,rfl,rfl,rfl⟩:=H
 go_enter Tryz.func51,Tryz.ntmps51
 go_wp2_with (first|((with_reducible refine gate_dst (N:=0) rfl ?_);refine box_event ?hg (N:=0) ?hd (cs:=#[.slice none 0 0,.int .i64 0,.int .i64 0,.int .i64 0]) (t:=29) ?hr ?_;(case hd=>rfl);(case hg=>rfl);(case hr=>first|(go_simp;done)|(go_simp;rfl));intro gb736 hg w1 hbox hb;have n0_:=A0_ (below_step y0_ hb);have n1_:=A0_ (hbox);have n2_:=A0_ ((by rw [hg];exact (below_size y0_):w.heap.size≤gb736));have n3_:=A0_ ((by rw [hg];exact (below_size y0_):w.heap.size≤gb736));clear HB;have HB:=n0_;have BK736:=n1_;have GW736:=n2_;have GE736:=n3_;clear n0_ n1_ n2_ n3_;clear hb hbox hg)|((with_reducible refine gate_dst (N:=2) rfl ?_);refine Kd.R_lit (Kd.int .i64) _ 3 ?hg (N:=2) ?hd (xs:=([0]:List Int)) (inner:=[.int .i64 0]) (ok:=fun _=>True) (okp:=fun _=>True) ?hr ?hp (fun _ hk=>hk) trivial (Below.refl _ _) (Nat.le_refl _) (by simp) ?_;(case hd=>rfl);(case hg=>rfl);(case hr=>first|(go_simp;done)|(go_simp;rfl));(case hp=>exact (Reps.one (show Kd.M (Kd.int .i64) _ _ _ 0 [.int .i64 0] from rfl) (Reps.none _ _)));intro v738 w2 ho3 hb hg_ hnew_;clear hg_ hnew_;(first|rw [← Ny737.out] at ho3|(simp only [Int.reduceToNat] at ho3;rw [← Ny737.out] at ho3));have n0_:=A0_ (Kd.R_lower (Kd.R_newM (M:=fun k_=>(w.heap.size≤k_)) ho3 (below_size yv_) (fun k_ h_=>h_)) (below_size yv_));have n1_:=A0_ (blk_below (g:=gb736) (o:=.cells #[.slice none 0 0,.int .i64 0,.int .i64 0,.int .i64 0] 29 (0,0)) (bd_ BK736.out) hb);have n2_:=A0_ (below_step yv_ hb);clear BK736;clear HB;have HO739:=n0_;have BK736:=n1_;have HB:=n2_;clear n0_ n1_ n2_;clear hb ho3;obtain ⟨Ao4,co4,eo4⟩:=Kd.R_slice HO739.out;subst eo4)|((with_reducible refine gate_dst (N:=5) rfl ?_);refine Kd.R_lit (Kd.int .i64) _ 3 ?hg (N:=5) ?hd (xs:=([0,300,0,(-300)]:List Int)) (inner:=[.int .i64 0,.int .i64 300,.int .i64 0,.int .i64 (-300)]) (ok:=fun _=>True) (okp:=fun _=>True) ?hr ?hp (fun _ hk=>hk) trivial (Below.refl _ _) (Nat.le_refl _) (by simp) ?_;(case hd=>rfl);(case hg=>rfl);(case hr=>first|(go_simp;done)|(go_simp;rfl));(case hp=>exact (Reps.one (show Kd.M (Kd.int .i64) _ _ _ 0 [.int .i64 0] from rfl) (Reps.one (show Kd.M (Kd.int .i64) _ _ _ 300 [.int .i64 300] from rfl) (Reps.one (show Kd.M (Kd.int .i64) _ _ _ 0 [.int .i64 0] from rfl) (Reps.one (show Kd.M (Kd.int .i64) _ _ _ (-300) [.int .i64 (-300)] from rfl) (Reps.none _ _))))));intro v741 w5 ho6 hb hg_ hnew_;clear hg_ hnew_;(first|rw [← Ny740.out] at ho6|(simp only [Int.reduceToNat] at ho6;rw [← Ny740.out] at ho6));have n0_:=A0_ (Kd.R_elder' (rd_ HO739.out) (Kd.R_base ho6) hb);have n1_:=A0_ (Kd.R_lower (Kd.R_new' (Kd.R_newM (M:=fun k_=>(w.heap.size≤k_)) ho6 (below_size yv_) (fun k_ h_=>h_)) (Kd.R_lt (rd_ HO739.out))) (below_size yv_));have n2_:=A0_ (blk_below (g:=gb736) (o:=.cells #[.slice none 0 0,.int .i64 0,.int .i64 0,.int .i64 0] 29 (0,0)) (bd_ BK736.out) hb);have n3_:=A0_ (below_step yv_ hb);clear HO739;clear BK736;clear HB;have HO739:=n0_;have HO742:=n1_;have BK736:=n2_;have HB:=n3_;clear n0_ n1_ n2_ n3_;clear hb ho6;obtain ⟨Ao7,co7,eo7⟩:=Kd.R_slice HO742.out;subst eo7)|((with_reducible refine gate_dst (N:=7) rfl ?_);refine Kd.N_lit k74 _ 74 ?hg (N':=7) ?hd (xs:=([(⟨(⟨360,1⟩:S25),0,y737⟩:S74),(⟨(⟨27,1⟩:S25),0,y740⟩:S74)]:List (S74))) (inner:=[.int .i64 360,.int .i64 1,.int .i64 0,.slice Ao4 y737.length co4,.int .i64 27,.int .i64 1,.int .i64 0,.slice Ao7 y740.length co7]) (ok:=(fun k_=>(w.heap.size≤k_)∧k_≠gb736)) (okp:=(fun k_=>(w.heap.size≤k_)∧k_≠gb736)) ?hr ?hp (fun _ hk=>hk) ((show ∀ k_,w5.heap.size≤k_→(fun k_=>(w.heap.size≤k_)∧k_≠gb736) k_ from fun k_ hk=>⟨(Nat.le_trans (below_size yv_) hk),Kd.freshB (g:=gb736) (o:=.cells #[.slice none 0 0,.int .i64 0,.int .i64 0,.int .i64 0] 29 (0,0)) (bd_ BK736.out) k_ hk⟩) _ (Nat.le_refl _)) (Below.refl _ _) (Nat.le_refl _) (by simp) ?_;(case hd=>rfl);(case hg=>rfl);(case hr=>first|(go_simp;done)|(go_simp;rfl));(case hp=>exact (Reps.c4 (show Kd.FK k74 _ _ (⟨(⟨360,1⟩:S25),0,y737⟩:S74) [.int .i64 360,.int .i64 1,.int .i64 0,.slice Ao4 y737.length co4] from (k74_mkF _ _ (⟨(⟨360,1⟩:S25),0,y737⟩:S74) (Kd.R_reads' (Kd.R_mono (ok':=(fun k_=>(w.heap.size≤k_)∧k_≠gb736)) (Kd.R_types (HO739.out) BK736.out (by decide)) (fun k_ hk=>⟨hk.1.1.1,hk.2⟩))).2.1 (Kd.R_F (Kd.R_mono (ok':=(fun k_=>(w.heap.size≤k_)∧k_≠gb736)) (Kd.R_types (HO739.out) BK736.out (by decide)) (fun k_ hk=>⟨hk.1.1.1,hk.2⟩))))) (Reps.c4 (show Kd.FK k74 _ _ (⟨(⟨27,1⟩:S25),0,y740⟩:S74) [.int .i64 27,.int .i64 1,.int .i64 0,.slice Ao7 y740.length co7] from (k74_mkF _ _ (⟨(⟨27,1⟩:S25),0,y740⟩:S74) (Kd.R_reads' (Kd.R_mono (ok':=(fun k_=>(w.heap.size≤k_)∧k_≠gb736)) (Kd.R_types (HO742.out) BK736.out (by decide)) (fun k_ hk=>⟨hk.1.1.1,hk.2⟩))).2.1 (Kd.R_F (Kd.R_mono (ok':=(fun k_=>(w.heap.size≤k_)∧k_≠gb736)) (Kd.R_types (HO742.out) BK736.out (by decide)) (fun k_ hk=>⟨hk.1.1.1,hk.2⟩))))) (Reps.none _ _))));intro v744 w8 ho9 hb hg_ hnew_;clear hg_ hnew_;(first|rw [← Ny743.out] at ho9|(simp only [Int.reduceToNat] at ho9;rw [← Ny743.out] at ho9));have n0_:=A0_ (Kd.N_lower ho9 (below_size yv_));have n1_:=A0_ (blk_below (g:=gb736) (o:=.cells #[.slice none 0 0,.int .i64 0,.int .i64 0,.int .i64 0] 29 (0,0)) (bd_ BK736.out) hb);have n2_:=A0_ (below_step yv_ hb);clear BK736;clear HB;clear HO739;clear HO742;have HO745:=n0_;have BK736:=n1_;have HB:=n2_;clear n0_ n1_ n2_;clear hb ho9;obtain ⟨Ao10,co10,eo10⟩:=Kd.N_slice HO745.out;subst eo10;obtain ⟨hcz11_0,hcz11_1,hcz11_2,hcz11_3,hfz11_0,hfz11_1,hfz11_2,hfz11_3⟩:=bq4_ BK736.out))
 refine bodyPost_ret (results_cell_row rfl _ _ gb736 29 #[.slice Ao10 y743.length co10,.int .i64 6000,.int .i64 1,.int .i64 1000] (0,0) _ rfl (by (with_reducible repeat (first|refine blk_drewN ?_ _|refine blk_drew ?_|refine blk_alloc ?_ _));refine blk_put (cs:=#[.slice Ao10 y743.length co10,.int .i64 6000,.int .i64 1,.int .i64 0]) ?_ 3 _ rfl;(with_reducible repeat (first|refine blk_drewN ?_ _|refine blk_drew ?_|refine blk_alloc ?_ _));refine blk_put (cs:=#[.slice Ao10 y743.length co10,.int .i64 6000,.int .i64 0,.int .i64 0]) ?_ 2 _ rfl;(with_reducible repeat (first|refine blk_drewN ?_ _|refine blk_drew ?_|refine blk_alloc ?_ _));refine blk_put (cs:=#[.slice Ao10 y743.length co10,.int .i64 0,.int .i64 0,.int .i64 0]) ?_ 1 _ rfl;(with_reducible repeat (first|refine blk_drewN ?_ _|refine blk_drew ?_|refine blk_alloc ?_ _));refine blk_put (cs:=#[.slice none 0 0,.int .i64 0,.int .i64 0,.int .i64 0]) ?_ 0 _ rfl;(with_reducible repeat (first|refine blk_drewN ?_ _|refine blk_drew ?_|refine blk_alloc ?_ _));exact BK736.out) Tryz.underlying29 rfl (by kernel_rfl)) rfl ?_
 exact ⟨_,y2_,by (with_reducible repeat (first|apply Kd.N_alloc|apply Kd.N_drewN|apply Kd.N_drew));exact Kd.N_mono (Kd.N_far (p:=⟨gb736,3,none⟩) (Kd.N_far (p:=⟨gb736,2,none⟩) (Kd.N_far (p:=⟨gb736,1,none⟩) (Kd.N_far (p:=⟨gb736,0,none⟩) (Kd.N_mono HO745.out (fun k_ hk=>(⟨hk,hk.2⟩:_∧k_≠gb736))) (fun _ hk=>hk.2) (.slice Ao10 y743.length co10)) (fun _ hk=>hk.2) (.int .i64 6000)) (fun _ hk=>hk.2) (.int .i64 1)) (fun _ hk=>hk.2) (.int .i64 1000)) (fun _ hk=>hk.1.1),yv_⟩
def tl_A.f  : Option (Int × Int × Int):=some (100,10800,0)
set_option maxHeartbeats 8000000 in
set_option maxRecDepth 100000 in
theorem tl_A.calls  (r1:Int) (r2:Int) (r3:Int) (w:World) (h:tl_A.f  = some (r1,r2,r3)):
  Calls Tryz.prog 54 #[] w fun e w'=>e=.returned (.agg #[.int .i64 r1,.int .i64 r2,.int .i64 r3])∧Below w.heap.size w w':=by
 have hu89:=Tryz.underlying89
 have HB:=A0_ (Below.refl w.heap.size w)
 have H:(some (100,10800,0))=some (r1,r2,r3):=h
 clear h
 simp only [Option.some.injEq,Prod.mk.injEq] at H
 obtain ⟨rfl,rfl,rfl⟩:=H
 go_enter Tryz.func54,Tryz.ntmps54
 go_wp2_with (first|((with_reducible refine gate_dst (N:=0) rfl ?_);refine box_event ?hg (N:=0) ?hd (cs:=#[.int .i64 0,.int .i64 0,.int .i64 0]) (t:=89) ?hr ?_;(case hd=>rfl);(case hg=>rfl);(case hr=>first|(go_simp;done)|(go_simp;rfl));intro gb746 hg w1 hbox hb;have n0_:=A0_ (below_step y0_ hb);have n1_:=A0_ (hbox);have n2_:=A0_ ((by rw [hg];exact (below_size y0_):w.heap.size≤gb746));have n3_:=A0_ ((by rw [hg];exact (below_size y0_):w.heap.size≤gb746));clear HB;have HB:=n0_;have BK746:=n1_;have GW746:=n2_;have GE746:=n3_;clear n0_ n1_ n2_ n3_;clear hb hbox hg;obtain ⟨hcz2_0,hcz2_1,hcz2_2,hfz2_0,hfz2_1,hfz2_2⟩:=bq3_ BK746.out))
 refine bodyPost_ret (results_cell_row rfl _ _ gb746 89 #[.int .i64 100,.int .i64 10800,.int .i64 0] (0,0) _ rfl (by (with_reducible repeat (first|refine blk_drewN ?_ _|refine blk_drew ?_|refine blk_alloc ?_ _));refine blk_put (cs:=#[.int .i64 100,.int .i64 10800,.int .i64 0]) ?_ 2 _ rfl;(with_reducible repeat (first|refine blk_drewN ?_ _|refine blk_drew ?_|refine blk_alloc ?_ _));refine blk_put (cs:=#[.int .i64 100,.int .i64 0,.int .i64 0]) ?_ 1 _ rfl;(with_reducible repeat (first|refine blk_drewN ?_ _|refine blk_drew ?_|refine blk_alloc ?_ _));refine blk_put (cs:=#[.int .i64 0,.int .i64 0,.int .i64 0]) ?_ 0 _ rfl;(with_reducible repeat (first|refine blk_drewN ?_ _|refine blk_drew ?_|refine blk_alloc ?_ _));exact BK746.out) Tryz.underlying89 rfl (by kernel_rfl)) rfl ?_
 exact ⟨y2_,(by repeat (first|(with_reducible first|exact HB.out|apply below_alloc|apply pw_below_drewN|apply below_drew1|refine below_set ?_ GE746.out)|exact HB.out))⟩
def tl_B.f  : Option (Int × Int × Int):=some (1000,5,2)
set_option maxHeartbeats 8000000 in
set_option maxRecDepth 100000 in
theorem tl_B.calls  (r1:Int) (r2:Int) (r3:Int) (w:World) (h:tl_B.f  = some (r1,r2,r3)):
  Calls Tryz.prog 55 #[] w fun e w'=>e=.returned (.agg #[.int .i64 r1,.int .i64 r2,.int .i64 r3])∧Below w.heap.size w w':=by
 have hu89:=Tryz.underlying89
 have HB:=A0_ (Below.refl w.heap.size w)
 have H:(some (1000,5,2))=some (r1,r2,r3):=h
 clear h
 simp only [Option.some.injEq,Prod.mk.injEq] at H
 obtain ⟨rfl,rfl,rfl⟩:=H
 go_enter Tryz.func55,Tryz.ntmps55
 go_wp2_with (first|((with_reducible refine gate_dst (N:=0) rfl ?_);refine box_event ?hg (N:=0) ?hd (cs:=#[.int .i64 0,.int .i64 0,.int .i64 0]) (t:=89) ?hr ?_;(case hd=>rfl);(case hg=>rfl);(case hr=>first|(go_simp;done)|(go_simp;rfl));intro gb747 hg w1 hbox hb;have n0_:=A0_ (below_step y0_ hb);have n1_:=A0_ (hbox);have n2_:=A0_ ((by rw [hg];exact (below_size y0_):w.heap.size≤gb747));have n3_:=A0_ ((by rw [hg];exact (below_size y0_):w.heap.size≤gb747));clear HB;have HB:=n0_;have BK747:=n1_;have GW747:=n2_;have GE747:=n3_;clear n0_ n1_ n2_ n3_;clear hb hbox hg;obtain ⟨hcz2_0,hcz2_1,hcz2_2,hfz2_0,hfz2_1,hfz2_2⟩:=bq3_ BK747.out))
 refine bodyPost_ret (results_cell_row rfl _ _ gb747 89 #[.int .i64 1000,.int .i64 5,.int .i64 2] (0,0) _ rfl (by (with_reducible repeat (first|refine blk_drewN ?_ _|refine blk_drew ?_|refine blk_alloc ?_ _));refine blk_put (cs:=#[.int .i64 1000,.int .i64 5,.int .i64 0]) ?_ 2 _ rfl;(with_reducible repeat (first|refine blk_drewN ?_ _|refine blk_drew ?_|refine blk_alloc ?_ _));refine blk_put (cs:=#[.int .i64 1000,.int .i64 0,.int .i64 0]) ?_ 1 _ rfl;(with_reducible repeat (first|refine blk_drewN ?_ _|refine blk_drew ?_|refine blk_alloc ?_ _));refine blk_put (cs:=#[.int .i64 0,.int .i64 0,.int .i64 0]) ?_ 0 _ rfl;(with_reducible repeat (first|refine blk_drewN ?_ _|refine blk_drew ?_|refine blk_alloc ?_ _));exact BK747.out) Tryz.underlying89 rfl (by kernel_rfl)) rfl ?_
 exact ⟨y2_,(by repeat (first|(with_reducible first|exact HB.out|apply below_alloc|apply pw_below_drewN|apply below_drew1|refine below_set ?_ GE747.out)|exact HB.out))⟩
end Go.Proofs.YtjahbgldccjbfaaGreatDoor.PSky
end
section
namespace Go.Proofs.YtjahbgldccjbfaaGreatDoor.PSky
open Go.RowKit Go.Proofs.YtjahbgldccjbfaaGreatDoorW.PrintWords Go.Proofs.YtjahbgldccjbfaaGreatDoorW.PrintLast Go.Proofs.YtjahbgldccjbfaaGreatDoorW.PrintMore
def ss_lunar.f (k:Nat) (l0_0:List S74) (a0_1 a0_2 a0_3 a0_4:Int):Option Int:=
 (ss_sun.f k l0_0 a0_1 a0_2 a0_3 a0_4).bind fun s=>(ss_moon.f k l0_0 a0_1 a0_2 a0_3 a0_4).bind fun m=>some (wrap64 (m - s))
set_option maxRecDepth 100000 in
set_option maxHeartbeats 800000 in
theorem ss_lunar.calls (k:Nat) (A0_0:Option Addr) (c0_0:Nat) (l0_0:List S74) (a0_1 a0_2 a0_3 a0_4:Int) (r:Int) (w:World)
  (hr0_0:Kd.C k74 w A0_0 l0_0.length l0_0) (hc0_0:l0_0.length≤c0_0) (h:ss_lunar.f k l0_0 a0_1 a0_2 a0_3 a0_4=some r):
  Calls Tryz.prog 128 #[.agg #[.slice A0_0 l0_0.length c0_0,.int .i64 a0_1,.int .i64 a0_2,.int .i64 a0_3,.int .i64 a0_4]] w fun e w'=>e=.returned (.int .i64 r)∧Below w.heap.size w w':=by
 have HR:=A0_ hr0_0;have HC:=A0_ hc0_0;clear hr0_0 hc0_0
 obtain ⟨s,hs0,h1⟩:=Option.bind_eq_some_iff.mp h
 obtain ⟨m,hm0,h2⟩:=Option.bind_eq_some_iff.mp h1
 obtain rfl:=Option.some.inj h2
 have HS:=A0_ hs0;have HM:=A0_ hm0;clear h h1 h2 hs0 hm0
 have hmf:∀ (fn:Fn) (first cap:Array Value) (w:World),(Instr.makeFunc fn first cap).run Tryz.prog w=.ok (.func fn first cap) w:=fun _ _ _ _=>rfl
 have i0:∀ x0 x1 w,(Instr.index 178 (.agg #[x0,x1]) (.int .i64 0)).run Tryz.prog w=.ok x0 w:=fun _ _ _=>by kernel_rfl
 have i1:∀ x0 x1 w,(Instr.index 178 (.agg #[x0,x1]) (.int .i64 1)).run Tryz.prog w=.ok x1 w:=fun _ _ _=>by kernel_rfl
 go_enter Tryz.func128,Tryz.ntmps128
 go_wp2
 refine wp_loop_rounds 3 ?_
 rw [rounds_succ]
 go_wp2_with fail
 refine (ss_sun.calls k A0_0 c0_0 l0_0 a0_1 a0_2 a0_3 a0_4 s _ ?h1 HC.out HS.out).mono ?_
 case h1=>exact Kd.C_alloc (Kd.C_alloc HR.out _) _
 rintro e w1 ⟨rfl,hb⟩
 have hz:w.heap.size+1<w1.heap.size:=by have:=hb.size;simp at this;omega
 have hc0:w1.cell? ⟨w.heap.size+1,0,none⟩=some (.int .i64 0):=(hb.cell (p:=⟨w.heap.size+1,0,none⟩) (by simp)).trans (by go_simp)
 have hc1:w1.cell? ⟨w.heap.size+1,1,none⟩=some (.int .i64 0):=(hb.cell (p:=⟨w.heap.size+1,1,none⟩) (by simp)).trans (by go_simp)
 have hf0:w1.frozen? ⟨w.heap.size+1,0,none⟩=false:=(hb.frozen (p:=⟨w.heap.size+1,0,none⟩) (by simp)).trans (by go_simp)
 have hf1:w1.frozen? ⟨w.heap.size+1,1,none⟩=false:=(hb.frozen (p:=⟨w.heap.size+1,1,none⟩) (by simp)).trans (by go_simp)
 have HB:=A0_ (below_step (below_alloc (below_alloc (Below.refl _ _) _) _) hb)
 clear hb
 go_wp2_with fail
 rw [rounds_succ]
 go_wp2_with fail
 have HB2:=A0_ (below_set (g:=w.heap.size+1) (j:=0) (v:=.int .i64 s) HB.out (Nat.le_succ _))
 refine (ss_moon.calls k A0_0 c0_0 l0_0 a0_1 a0_2 a0_3 a0_4 m _ ?h2 HC.out HM.out).mono ?_
 case h2=>exact Kd.C_below HR.out HB2.out
 rintro e w2 ⟨rfl,hb⟩
 have hz2:w.heap.size+1<w2.heap.size:=by have:=hb.size;simp at this;omega
 have hd0:w2.cell? ⟨w.heap.size+1,0,none⟩=some (.int .i64 s):=(hb.cell (p:=⟨w.heap.size+1,0,none⟩) (by simp;omega)).trans (by go_simp)
 have hd1:w2.cell? ⟨w.heap.size+1,1,none⟩=some (.int .i64 0):=(hb.cell (p:=⟨w.heap.size+1,1,none⟩) (by simp;omega)).trans (by go_simp)
 have hg1:w2.frozen? ⟨w.heap.size+1,1,none⟩=false:=(hb.frozen (p:=⟨w.heap.size+1,1,none⟩) (by simp;omega)).trans (by go_simp)
 have HB3:=A0_ (below_step HB2.out hb)
 clear hb
 go_wp2_with fail
 rw [rounds_succ]
 go_wp2;go_ret
 exact ⟨rfl,below_set HB3.out (Nat.le_succ _)⟩
end Go.Proofs.YtjahbgldccjbfaaGreatDoor.PSky
end
section
namespace Go.Proofs.YtjahbgldccjbfaaGreatDoor.PSky
open Go.RowKit Go.Proofs.YtjahbgldccjbfaaGreatDoorW.PrintWords Go.Proofs.YtjahbgldccjbfaaGreatDoorW.PrintLast Go.Proofs.YtjahbgldccjbfaaGreatDoorW.PrintMore
attribute [local go_sem] max2_int min2_int max_two min_two max_three min_three max_four min_four
set_option linter.unusedVariables false
set_option linter.unusedSimpArgs false
def at_has_new.f (k:Nat) (l0_0:List (S74)) (a0_1:Int) (a0_2:Int) (a0_3:Int) (a0_4:Int)  : Option (Bool):=(ss_lunar.f k l0_0 a0_1 a0_2 a0_3 (wrap64 (a0_4 - 1))).bind fun t698=>((ss_lunar.f k l0_0 a0_1 a0_2 a0_3 a0_4).bind fun t699=>((sky_passes.f t698 t699).bind fun t700=>(some t700)))
set_option maxHeartbeats 8000000 in
set_option maxRecDepth 100000 in
theorem at_has_new.calls (k:Nat) (A0_0:Option Addr) (c0_0:Nat) (l0_0:List (S74)) (a0_1:Int) (a0_2:Int) (a0_3:Int) (a0_4:Int)  (r:Bool) (w:World) (hr0_0:Kd.C k74 w A0_0 l0_0.length l0_0) (hc0_0:l0_0.length≤c0_0) (h:at_has_new.f k l0_0 a0_1 a0_2 a0_3 a0_4=some r):
  Calls Tryz.prog 71 #[.agg #[.slice A0_0 l0_0.length c0_0,.int .i64 a0_1,.int .i64 a0_2,.int .i64 a0_3,.int .i64 a0_4],.iface 157 (.agg #[])] w fun e w'=>e=.returned (.bool r)∧Below w.heap.size w w':=by
 have hta115:∀ (W:World),(Instr.typeAssert (.iface 157 (.agg #[])) 129 115 true).run Tryz.prog W=.ok (.tuple #[(.agg #[(.int .i64 0),(.int .i64 0)]),.bool false]) W:=fun _=>by kernel_rfl
 have hta153:∀ (W:World),(Instr.typeAssert (.iface 157 (.agg #[])) 129 153 true).run Tryz.prog W=.ok (.tuple #[(.agg #[]),.bool false]) W:=fun _=>by kernel_rfl
 have hu112:=Tryz.underlying112
 have hu29:=Tryz.underlying29
 have hu115:=Tryz.underlying115
 have hu153:=Tryz.underlying153
 have HR0_0:=A0_ hr0_0;have HC0_0:=A0_ hc0_0;clear hr0_0 hc0_0
 have HB:=A0_ (Below.refl w.heap.size w)
 have H:((ss_lunar.f k l0_0 a0_1 a0_2 a0_3 (wrap64 (a0_4 - 1))).bind fun t698=>((ss_lunar.f k l0_0 a0_1 a0_2 a0_3 a0_4).bind fun t699=>((sky_passes.f t698 t699).bind fun t700=>(some t700))))=some r:=h
 clear h;replace H:=Option.bind_eq_some_iff.mp H;obtain ⟨t698,A30,H⟩:=H
 replace H:((ss_lunar.f k l0_0 a0_1 a0_2 a0_3 a0_4).bind fun t699=>((sky_passes.f t698 t699).bind fun t700=>(some t700)))=some r:=H
 have A3:=A0_ A30;clear A30;replace H:=Option.bind_eq_some_iff.mp H;obtain ⟨t699,A40,H⟩:=H
 replace H:((sky_passes.f t698 t699).bind fun t700=>(some t700))=some r:=H
 have A4:=A0_ A40;clear A40;replace H:=Option.bind_eq_some_iff.mp H;obtain ⟨t700,A50,H⟩:=H
 replace H:(some t700)=some r:=H
 have A5:=A0_ A50;clear A50;obtain rfl:=Option.some.inj H
 go_enter Tryz.func71,Tryz.ntmps71
 try go_wp2_with (first|((with_reducible refine gate_dst (N:=2) rfl ?_);refine box_event ?hg (N:=2) ?hd (cs:=#[.slice A0_0 l0_0.length c0_0,.int .i64 a0_1,.int .i64 a0_2,.int .i64 a0_3,.int .i64 a0_4]) (t:=112) ?hr ?_;(case hd=>rfl);(case hg=>rfl);(case hr=>first|(go_simp;done)|(go_simp;rfl));intro gb696 hg w6 hbox hb;have n0_:=A0_ (below_step y0_ hb);have n1_:=A0_ (hbox);have n2_:=A0_ ((by rw [hg];exact (below_size y0_):w.heap.size≤gb696));have n3_:=A0_ ((by rw [hg];exact (below_size y0_):w.heap.size≤gb696));clear HB;have HB:=n0_;have BK696:=n1_;have GW696:=n2_;have GE696:=n3_;clear n0_ n1_ n2_ n3_;clear hb hbox hg;obtain ⟨hcz7_0,hcz7_1,hcz7_2,hcz7_3,hcz7_4,hfz7_0,hfz7_1,hfz7_2,hfz7_3,hfz7_4⟩:=bq5_ BK696.out)|((with_reducible refine gate_dst (N:=5) rfl ?_);refine box_event ?hg (N:=5) ?hd (cs:=#[.slice none 0 0,.int .i64 0,.int .i64 0,.int .i64 0,.int .i64 0]) (t:=112) ?hr ?_;(case hd=>rfl);(case hg=>rfl);(case hr=>first|(go_simp;done)|(go_simp;rfl));intro gb697 hg w8 hbox hb;have n0_:=A0_ (blk_below (g:=gb696) (o:=.cells #[.slice A0_0 l0_0.length c0_0,.int .i64 a0_1,.int .i64 a0_2,.int .i64 a0_3,.int .i64 a0_4] 112 (0,0)) (bd_ BK696.out) hb);have n1_:=A0_ (below_step y2n_ hb);have n2_:=A0_ (hbox);have n3_:=A0_ ((by rw [hg];exact (below_size y2n_):w.heap.size≤gb697));have n4_:=A0_ ((by rw [hg];exact (below_size y2n_):w.heap.size≤gb697));have n5_:=A0_ ((by rw [hg];exact Nat.ne_of_lt (blk_lt (g:=gb696) (o:=.cells #[.slice A0_0 l0_0.length c0_0,.int .i64 a0_1,.int .i64 a0_2,.int .i64 a0_3,.int .i64 a0_4] 112 (0,0)) (bd_ BK696.out)):gb696≠gb697));have n6_:=A0_ ((by rw [hg];exact Nat.ne_of_gt (blk_lt (g:=gb696) (o:=.cells #[.slice A0_0 l0_0.length c0_0,.int .i64 a0_1,.int .i64 a0_2,.int .i64 a0_3,.int .i64 a0_4] 112 (0,0)) (bd_ BK696.out)):gb697≠gb696));clear BK696;clear HB;have BK696:=n0_;have HB:=n1_;have BK697:=n2_;have GW697:=n3_;have GE697:=n4_;have NB696_697:=n5_;have NB697_696:=n6_;clear n0_ n1_ n2_ n3_ n4_ n5_ n6_;clear hb hbox hg;have hnb9:=NB697_696.out;have hnc9:=NB696_697.out;obtain ⟨hcz10_0,hcz10_1,hcz10_2,hcz10_3,hcz10_4,hfz10_0,hfz10_1,hfz10_2,hfz10_3,hfz10_4⟩:=bq5_ BK697.out))
 have n0_:Aside0 ((((((w8.setCell ⟨gb697,0,none⟩ (.slice A0_0 l0_0.length c0_0)).setCell ⟨gb697,1,none⟩ (.int .i64 a0_1)).setCell ⟨gb697,2,none⟩ (.int .i64 a0_2)).setCell ⟨gb697,3,none⟩ (.int .i64 a0_3)).setCell ⟨gb697,4,none⟩ (.int .i64 (wrap64 (a0_4 - 1)))).heap[gb696]?=some (.cells #[.slice A0_0 l0_0.length c0_0,.int .i64 a0_1,.int .i64 a0_2,.int .i64 a0_3,.int .i64 a0_4] 112 (0,0))):=⟨by (with_reducible repeat (first|refine blk_drewN ?_ _|refine blk_drew ?_|refine blk_alloc ?_ _));refine blk_far ?_ NB696_697.out _;(with_reducible repeat (first|refine blk_drewN ?_ _|refine blk_drew ?_|refine blk_alloc ?_ _));refine blk_far ?_ NB696_697.out _;(with_reducible repeat (first|refine blk_drewN ?_ _|refine blk_drew ?_|refine blk_alloc ?_ _));refine blk_far ?_ NB696_697.out _;(with_reducible repeat (first|refine blk_drewN ?_ _|refine blk_drew ?_|refine blk_alloc ?_ _));refine blk_far ?_ NB696_697.out _;(with_reducible repeat (first|refine blk_drewN ?_ _|refine blk_drew ?_|refine blk_alloc ?_ _));refine blk_far ?_ NB696_697.out _;(with_reducible repeat (first|refine blk_drewN ?_ _|refine blk_drew ?_|refine blk_alloc ?_ _));exact BK696.out⟩
 have n1_:Aside0 ((((((w8.setCell ⟨gb697,0,none⟩ (.slice A0_0 l0_0.length c0_0)).setCell ⟨gb697,1,none⟩ (.int .i64 a0_1)).setCell ⟨gb697,2,none⟩ (.int .i64 a0_2)).setCell ⟨gb697,3,none⟩ (.int .i64 a0_3)).setCell ⟨gb697,4,none⟩ (.int .i64 (wrap64 (a0_4 - 1)))).heap[gb697]?=some (.cells #[.slice A0_0 l0_0.length c0_0,.int .i64 a0_1,.int .i64 a0_2,.int .i64 a0_3,.int .i64 (wrap64 (a0_4 - 1))] 112 (0,0))):=⟨by (with_reducible repeat (first|refine blk_drewN ?_ _|refine blk_drew ?_|refine blk_alloc ?_ _));refine blk_put (cs:=#[.slice A0_0 l0_0.length c0_0,.int .i64 a0_1,.int .i64 a0_2,.int .i64 a0_3,.int .i64 0]) ?_ 4 _ rfl;(with_reducible repeat (first|refine blk_drewN ?_ _|refine blk_drew ?_|refine blk_alloc ?_ _));refine blk_put (cs:=#[.slice A0_0 l0_0.length c0_0,.int .i64 a0_1,.int .i64 a0_2,.int .i64 0,.int .i64 0]) ?_ 3 _ rfl;(with_reducible repeat (first|refine blk_drewN ?_ _|refine blk_drew ?_|refine blk_alloc ?_ _));refine blk_put (cs:=#[.slice A0_0 l0_0.length c0_0,.int .i64 a0_1,.int .i64 0,.int .i64 0,.int .i64 0]) ?_ 2 _ rfl;(with_reducible repeat (first|refine blk_drewN ?_ _|refine blk_drew ?_|refine blk_alloc ?_ _));refine blk_put (cs:=#[.slice A0_0 l0_0.length c0_0,.int .i64 0,.int .i64 0,.int .i64 0,.int .i64 0]) ?_ 1 _ rfl;(with_reducible repeat (first|refine blk_drewN ?_ _|refine blk_drew ?_|refine blk_alloc ?_ _));refine blk_put (cs:=#[.slice none 0 0,.int .i64 0,.int .i64 0,.int .i64 0,.int .i64 0]) ?_ 0 _ rfl;(with_reducible repeat (first|refine blk_drewN ?_ _|refine blk_drew ?_|refine blk_alloc ?_ _));exact BK697.out⟩
 have n2_:Aside0 (Below w.heap.size w (((((w8.setCell ⟨gb697,0,none⟩ (.slice A0_0 l0_0.length c0_0)).setCell ⟨gb697,1,none⟩ (.int .i64 a0_1)).setCell ⟨gb697,2,none⟩ (.int .i64 a0_2)).setCell ⟨gb697,3,none⟩ (.int .i64 a0_3)).setCell ⟨gb697,4,none⟩ (.int .i64 (wrap64 (a0_4 - 1))))):=⟨y27_⟩
 (try clear BK696);(try clear BK697);(try clear HB)
 generalize (((((w8.setCell ⟨gb697,0,none⟩ (.slice A0_0 l0_0.length c0_0)).setCell ⟨gb697,1,none⟩ (.int .i64 a0_1)).setCell ⟨gb697,2,none⟩ (.int .i64 a0_2)).setCell ⟨gb697,3,none⟩ (.int .i64 a0_3)).setCell ⟨gb697,4,none⟩ (.int .i64 (wrap64 (a0_4 - 1))))=w11 at n0_ n1_ n2_ ⊢
 have BK696:=n0_;have BK697:=n1_;have HB:=n2_;clear n0_ n1_ n2_;have n0_:=A0_ (blk_drew BK696.out);have n1_:=A0_ (blk_drew BK697.out);have n2_:=A0_ (below_drew1 HB.out);clear BK696;clear BK697;clear HB;have BK696:=n0_;have BK697:=n1_;have HB:=n2_;clear n0_ n1_ n2_
 refine start_ (n:=6) (S:=fun w'=>w'.cell? ⟨gb697,0,none⟩=some (.slice A0_0 l0_0.length c0_0)∧w'.cell? ⟨gb697,1,none⟩=some (.int .i64 a0_1)∧w'.cell? ⟨gb697,2,none⟩=some (.int .i64 a0_2)∧w'.cell? ⟨gb697,3,none⟩=some (.int .i64 a0_3)∧w'.cell? ⟨gb697,4,none⟩=some (.int .i64 (wrap64 (a0_4 - 1)))∧w'.cell? ⟨gb696,0,none⟩=some (.slice A0_0 l0_0.length c0_0)∧w'.cell? ⟨gb696,1,none⟩=some (.int .i64 a0_1)∧w'.cell? ⟨gb696,2,none⟩=some (.int .i64 a0_2)∧w'.cell? ⟨gb696,3,none⟩=some (.int .i64 a0_3)∧w'.cell? ⟨gb696,4,none⟩=some (.int .i64 a0_4)) (ds:=[]) #[false,false,false,false,false,false] (by kernel_rfl) rfl rfl ⟨(blk_cell BK697.out 0).trans rfl,(blk_cell BK697.out 1).trans rfl,(blk_cell BK697.out 2).trans rfl,(blk_cell BK697.out 3).trans rfl,(blk_cell BK697.out 4).trans rfl,(blk_cell BK696.out 0).trans rfl,(blk_cell BK696.out 1).trans rfl,(blk_cell BK696.out 2).trans rfl,(blk_cell BK696.out 3).trans rfl,(blk_cell BK696.out 4).trans rfl⟩ (fun hHeld=>?_)
 generalize w11.drew=w12 at BK696 BK697 HB hHeld ⊢
 refine take_ (i:=0) (N:=some 52) (v:=?_) (a':=?_) #[true,false,false,false,false,false] rfl rfl (by kernel_rfl) (fun _ _ _ h=>h) (Or.inl ⟨by rfl,?_⟩) hHeld ?_ ?_
 rotate_left
 ·rintro w' ⟨s0,s1,s2,s3,s4,s5,s6,s7,s8,s9⟩
  go_simp
  with_reducible rfl
 rotate_left
 ·simp only [Act.put,List.setIfInBounds_toArray,List.set_cons_zero,List.set_cons_succ,i64_w,i32_w]
  rfl
 refine take_ (i:=2) (N:=some 54) (v:=?_) (a':=?_) #[true,false,true,false,false,false] rfl rfl (by kernel_rfl) (fun _ _ _ h=>h) (Or.inl ⟨by rfl,?_⟩) hHeld ?_ ?_
 rotate_left
 ·rintro w' ⟨s0,s1,s2,s3,s4,s5,s6,s7,s8,s9⟩
  go_simp
  with_reducible rfl
 rotate_left
 ·simp only [Act.put,List.setIfInBounds_toArray,List.set_cons_zero,List.set_cons_succ,i64_w,i32_w]
  rfl
 refine one_ (i:=1) (N:=some 53) #[true,true,true,false,false,false] rfl rfl (by kernel_rfl) (by decide) (fun K hK=>?_)
 refine goes_ Tryz.func128 (by kernel_rfl) rfl #[.agg #[.slice A0_0 l0_0.length c0_0,.int .i64 a0_1,.int .i64 a0_2,.int .i64 a0_3,.int .i64 (wrap64 (a0_4 - 1))]] (by rfl) rfl rfl y1_ ?_
 with_reducible refine (ss_lunar.calls k _ _ l0_0 a0_1 a0_2 a0_3 (wrap64 (a0_4 - 1)) t698 _ ?side1 ?side2 A3.out).mono ?_
 (case side1=>repeat (first|exact (Kd.C_below HR0_0.out HB.out)|(with_reducible refine Kd.C_alloc ?_ _)|(with_reducible refine Kd.C_drewN ?_ _)|(with_reducible refine Kd.C_drew ?_)))
 (case side2=>exact HC0_0.out)
 rintro e w13 ⟨rfl,hb⟩
 refine ⟨_,rfl,?_⟩
 have n0_:=A0_ (blk_below (g:=gb696) (o:=.cells #[.slice A0_0 l0_0.length c0_0,.int .i64 a0_1,.int .i64 a0_2,.int .i64 a0_3,.int .i64 a0_4] 112 (0,0)) (bd_ BK696.out) hb);have n1_:=A0_ (blk_below (g:=gb697) (o:=.cells #[.slice A0_0 l0_0.length c0_0,.int .i64 a0_1,.int .i64 a0_2,.int .i64 a0_3,.int .i64 (wrap64 (a0_4 - 1))] 112 (0,0)) (bd_ BK697.out) hb);have n2_:=A0_ (below_step y27_ hb);clear BK696;clear BK697;clear HB;have BK696:=n0_;have BK697:=n1_;have HB:=n2_;clear n0_ n1_ n2_;(try clear hb);(try clear hb2);(try clear hk);(try clear hi)
 refine hK.out _ _ ⟨(blk_cell BK697.out 0).trans rfl,(blk_cell BK697.out 1).trans rfl,(blk_cell BK697.out 2).trans rfl,(blk_cell BK697.out 3).trans rfl,(blk_cell BK697.out 4).trans rfl,(blk_cell BK696.out 0).trans rfl,(blk_cell BK696.out 1).trans rfl,(blk_cell BK696.out 2).trans rfl,(blk_cell BK696.out 3).trans rfl,(blk_cell BK696.out 4).trans rfl⟩ (fun hHeld=>?_)
 clear hK K
 refine norm_ (a':=?_) ?_ ?_
 rotate_left
 ·show Act.put _ (some 53) _=_
  simp only [Act.put,List.setIfInBounds_toArray,List.set_cons_zero,List.set_cons_succ,i64_w,i32_w]
  rfl
 refine one_ (i:=3) (N:=some 55) #[true,true,true,true,false,false] rfl rfl (by kernel_rfl) (by decide) (fun K hK=>?_)
 refine goes_ Tryz.func128 (by kernel_rfl) rfl #[.agg #[.slice A0_0 l0_0.length c0_0,.int .i64 a0_1,.int .i64 a0_2,.int .i64 a0_3,.int .i64 a0_4]] (by rfl) rfl rfl y1_ ?_
 with_reducible refine (ss_lunar.calls k _ _ l0_0 a0_1 a0_2 a0_3 a0_4 t699 _ ?side1 ?side2 A4.out).mono ?_
 (case side1=>repeat (first|exact (Kd.C_below HR0_0.out HB.out)|(with_reducible refine Kd.C_alloc ?_ _)|(with_reducible refine Kd.C_drewN ?_ _)|(with_reducible refine Kd.C_drew ?_)))
 (case side2=>exact HC0_0.out)
 rintro e w14 ⟨rfl,hb⟩
 refine ⟨_,rfl,?_⟩
 have n0_:=A0_ (blk_below (g:=gb696) (o:=.cells #[.slice A0_0 l0_0.length c0_0,.int .i64 a0_1,.int .i64 a0_2,.int .i64 a0_3,.int .i64 a0_4] 112 (0,0)) (bd_ BK696.out) hb);have n1_:=A0_ (blk_below (g:=gb697) (o:=.cells #[.slice A0_0 l0_0.length c0_0,.int .i64 a0_1,.int .i64 a0_2,.int .i64 a0_3,.int .i64 (wrap64 (a0_4 - 1))] 112 (0,0)) (bd_ BK697.out) hb);have n2_:=A0_ (below_step y27_ hb);clear BK696;clear BK697;clear HB;have BK696:=n0_;have BK697:=n1_;have HB:=n2_;clear n0_ n1_ n2_;(try clear hb);(try clear hb2);(try clear hk);(try clear hi)
 refine hK.out _ _ ⟨(blk_cell BK697.out 0).trans rfl,(blk_cell BK697.out 1).trans rfl,(blk_cell BK697.out 2).trans rfl,(blk_cell BK697.out 3).trans rfl,(blk_cell BK697.out 4).trans rfl,(blk_cell BK696.out 0).trans rfl,(blk_cell BK696.out 1).trans rfl,(blk_cell BK696.out 2).trans rfl,(blk_cell BK696.out 3).trans rfl,(blk_cell BK696.out 4).trans rfl⟩ (fun hHeld=>?_)
 clear hK K
 refine norm_ (a':=?_) ?_ ?_
 rotate_left
 ·show Act.put _ (some 55) _=_
  simp only [Act.put,List.setIfInBounds_toArray,List.set_cons_zero,List.set_cons_succ,i64_w,i32_w]
  rfl
 refine one_ (i:=4) (N:=some 56) #[true,true,true,true,true,false] rfl rfl (by kernel_rfl) (by decide) (fun K hK=>?_)
 refine goes_ Tryz.func127 (by kernel_rfl) rfl #[.int .i64 t698,.int .i64 t699] (by rfl) rfl rfl y1_ ?_
 with_reducible refine (sky_passes.calls t698 t699 t700 _ A5.out).mono ?_
 rintro e w' ⟨rfl,⟨nd,rfl⟩⟩
 refine ⟨_,rfl,?_⟩
 refine hK.out _ _ ⟨(blk_cell BK697.out 0).trans rfl,(blk_cell BK697.out 1).trans rfl,(blk_cell BK697.out 2).trans rfl,(blk_cell BK697.out 3).trans rfl,(blk_cell BK697.out 4).trans rfl,(blk_cell BK696.out 0).trans rfl,(blk_cell BK696.out 1).trans rfl,(blk_cell BK696.out 2).trans rfl,(blk_cell BK696.out 3).trans rfl,(blk_cell BK696.out 4).trans rfl⟩ (fun hHeld=>?_)
 clear hK K
 refine norm_ (a':=?_) ?_ ?_
 rotate_left
 ·show Act.put _ (some 56) _=_
  simp only [Act.put,List.setIfInBounds_toArray,List.set_cons_zero,List.set_cons_succ,i64_w,i32_w]
  rfl
 refine pure_ (i:=5) (N:=some 4) (v:=?_) (a':=?_) #[true,true,true,true,true,true] rfl rfl (by kernel_rfl) (fun _ _ _ h=>h) (Or.inl ⟨by rfl,?_⟩) ?_ ?_
 rotate_left
 ·intro w'
  go_simp
  with_reducible rfl
 rotate_left
 ·simp only [Act.put,List.setIfInBounds_toArray,List.set_cons_zero,List.set_cons_succ,i64_w,i32_w]
  rfl
 refine done_ (by kernel_rfl) ?_
 try go_wp2
 go_ret
 exact ⟨y2_,y27_⟩
def at_has_full.f (k:Nat) (l0_0:List (S74)) (a0_1:Int) (a0_2:Int) (a0_3:Int) (a0_4:Int)  : Option (Bool):=(ss_lunar.f k l0_0 a0_1 a0_2 a0_3 (wrap64 (a0_4 - 1))).bind fun t704=>((ss_lunar.f k l0_0 a0_1 a0_2 a0_3 a0_4).bind fun t705=>((sky_passes.f (wrap64 (t704 - 10800)) (wrap64 (t705 - 10800))).bind fun t706=>(some t706)))
def at_has_full.T9:Bool × List (List Nat × List Nat):=(true,[([],[]),([0],[0]),([1],[1]),([],[]),([3,1],[3]),([4],[4]),([2,5,4],[2,5]),([6,6,0,1,2,3,4,5,6],[6])])
def at_has_full.B9:List Nat:=[0,1,3,0,11,27,63,127]
theorem at_has_full.tab9:rtab .any (opsOf Tryz.f71 9)=at_has_full.T9:=by kernel_rfl
theorem at_has_full.bits9:waitsOk at_has_full.T9.2 at_has_full.B9=true:=by kernel_rfl
set_option maxHeartbeats 8000000 in
set_option maxRecDepth 100000 in
theorem at_has_full.calls (k:Nat) (A0_0:Option Addr) (c0_0:Nat) (l0_0:List (S74)) (a0_1:Int) (a0_2:Int) (a0_3:Int) (a0_4:Int)  (r:Bool) (w:World) (hr0_0:Kd.C k74 w A0_0 l0_0.length l0_0) (hc0_0:l0_0.length≤c0_0) (h:at_has_full.f k l0_0 a0_1 a0_2 a0_3 a0_4=some r):
  Calls Tryz.prog 71 #[.agg #[.slice A0_0 l0_0.length c0_0,.int .i64 a0_1,.int .i64 a0_2,.int .i64 a0_3,.int .i64 a0_4],.iface 153 (.agg #[])] w fun e w'=>e=.returned (.bool r)∧Below w.heap.size w w':=by
 have hta115:∀ (W:World),(Instr.typeAssert (.iface 153 (.agg #[])) 129 115 true).run Tryz.prog W=.ok (.tuple #[(.agg #[(.int .i64 0),(.int .i64 0)]),.bool false]) W:=fun _=>by kernel_rfl
 have hta153:∀ (W:World),(Instr.typeAssert (.iface 153 (.agg #[])) 129 153 true).run Tryz.prog W=.ok (.tuple #[(.agg #[]),.bool true]) W:=fun _=>by kernel_rfl
 have hu112:=Tryz.underlying112
 have hu29:=Tryz.underlying29
 have hu115:=Tryz.underlying115
 have hu153:=Tryz.underlying153
 have HR0_0:=A0_ hr0_0;have HC0_0:=A0_ hc0_0;clear hr0_0 hc0_0
 have HB:=A0_ (Below.refl w.heap.size w)
 have H:((ss_lunar.f k l0_0 a0_1 a0_2 a0_3 (wrap64 (a0_4 - 1))).bind fun t704=>((ss_lunar.f k l0_0 a0_1 a0_2 a0_3 a0_4).bind fun t705=>((sky_passes.f (wrap64 (t704 - 10800)) (wrap64 (t705 - 10800))).bind fun t706=>(some t706))))=some r:=h
 clear h;replace H:=Option.bind_eq_some_iff.mp H;obtain ⟨t704,A30,H⟩:=H
 replace H:((ss_lunar.f k l0_0 a0_1 a0_2 a0_3 a0_4).bind fun t705=>((sky_passes.f (wrap64 (t704 - 10800)) (wrap64 (t705 - 10800))).bind fun t706=>(some t706)))=some r:=H
 have A3:=A0_ A30;clear A30;replace H:=Option.bind_eq_some_iff.mp H;obtain ⟨t705,A40,H⟩:=H
 replace H:((sky_passes.f (wrap64 (t704 - 10800)) (wrap64 (t705 - 10800))).bind fun t706=>(some t706))=some r:=H
 have A4:=A0_ A40;clear A40;replace H:=Option.bind_eq_some_iff.mp H;obtain ⟨t706,A50,H⟩:=H
 replace H:(some t706)=some r:=H
 have A5:=A0_ A50;clear A50;obtain rfl:=Option.some.inj H
 go_enter Tryz.func71,Tryz.ntmps71
 try go_wp2_with (first|((with_reducible refine gate_dst (N:=2) rfl ?_);refine box_event ?hg (N:=2) ?hd (cs:=#[.slice A0_0 l0_0.length c0_0,.int .i64 a0_1,.int .i64 a0_2,.int .i64 a0_3,.int .i64 a0_4]) (t:=112) ?hr ?_;(case hd=>rfl);(case hg=>rfl);(case hr=>first|(go_simp;done)|(go_simp;rfl));intro gb701 hg w6 hbox hb;have n0_:=A0_ (below_step y0_ hb);have n1_:=A0_ (hbox);have n2_:=A0_ ((by rw [hg];exact (below_size y0_):w.heap.size≤gb701));have n3_:=A0_ ((by rw [hg];exact (below_size y0_):w.heap.size≤gb701));clear HB;have HB:=n0_;have BK701:=n1_;have GW701:=n2_;have GE701:=n3_;clear n0_ n1_ n2_ n3_;clear hb hbox hg;obtain ⟨hcz7_0,hcz7_1,hcz7_2,hcz7_3,hcz7_4,hfz7_0,hfz7_1,hfz7_2,hfz7_3,hfz7_4⟩:=bq5_ BK701.out)|((with_reducible refine gate_dst (N:=5) rfl ?_);refine box_event ?hg (N:=5) ?hd (cs:=#[.slice none 0 0,.int .i64 0,.int .i64 0,.int .i64 0,.int .i64 0]) (t:=112) ?hr ?_;(case hd=>rfl);(case hg=>rfl);(case hr=>first|(go_simp;done)|(go_simp;rfl));intro gb702 hg w8 hbox hb;have n0_:=A0_ (blk_below (g:=gb701) (o:=.cells #[.slice A0_0 l0_0.length c0_0,.int .i64 a0_1,.int .i64 a0_2,.int .i64 a0_3,.int .i64 a0_4] 112 (0,0)) (bd_ BK701.out) hb);have n1_:=A0_ (below_step y2m_ hb);have n2_:=A0_ (hbox);have n3_:=A0_ ((by rw [hg];exact (below_size y2m_):w.heap.size≤gb702));have n4_:=A0_ ((by rw [hg];exact (below_size y2m_):w.heap.size≤gb702));have n5_:=A0_ ((by rw [hg];exact Nat.ne_of_lt (blk_lt (g:=gb701) (o:=.cells #[.slice A0_0 l0_0.length c0_0,.int .i64 a0_1,.int .i64 a0_2,.int .i64 a0_3,.int .i64 a0_4] 112 (0,0)) (bd_ BK701.out)):gb701≠gb702));have n6_:=A0_ ((by rw [hg];exact Nat.ne_of_gt (blk_lt (g:=gb701) (o:=.cells #[.slice A0_0 l0_0.length c0_0,.int .i64 a0_1,.int .i64 a0_2,.int .i64 a0_3,.int .i64 a0_4] 112 (0,0)) (bd_ BK701.out)):gb702≠gb701));clear BK701;clear HB;have BK701:=n0_;have HB:=n1_;have BK702:=n2_;have GW702:=n3_;have GE702:=n4_;have NB701_702:=n5_;have NB702_701:=n6_;clear n0_ n1_ n2_ n3_ n4_ n5_ n6_;clear hb hbox hg;have hnb9:=NB702_701.out;have hnc9:=NB701_702.out;obtain ⟨hcz10_0,hcz10_1,hcz10_2,hcz10_3,hcz10_4,hfz10_0,hfz10_1,hfz10_2,hfz10_3,hfz10_4⟩:=bq5_ BK702.out)|((with_reducible refine gate_dst (N:=9) rfl ?_);refine box_event ?hg (N:=9) ?hd (cs:=#[]) (t:=153) ?hr ?_;(case hd=>rfl);(case hg=>rfl);(case hr=>first|(go_simp;done)|(go_simp;rfl));intro gb703 hg w11 hbox hb;have n0_:=A0_ (blk_below (g:=gb701) (o:=.cells #[.slice A0_0 l0_0.length c0_0,.int .i64 a0_1,.int .i64 a0_2,.int .i64 a0_3,.int .i64 a0_4] 112 (0,0)) ys_ hb);have n1_:=A0_ (blk_below (g:=gb702) (o:=.cells #[.slice A0_0 l0_0.length c0_0,.int .i64 a0_1,.int .i64 a0_2,.int .i64 a0_3,.int .i64 (wrap64 (a0_4 - 1))] 112 (0,0)) yc_ hb);have n2_:=A0_ (below_step y2d_ hb);have n3_:=A0_ (hbox);have n4_:=A0_ ((by rw [hg];exact (below_size y2d_):w.heap.size≤gb703));have n5_:=A0_ ((by rw [hg];exact (below_size y2d_):w.heap.size≤gb703));have n6_:=A0_ ((by rw [hg];exact Nat.ne_of_lt (blk_lt (g:=gb701) (o:=.cells #[.slice A0_0 l0_0.length c0_0,.int .i64 a0_1,.int .i64 a0_2,.int .i64 a0_3,.int .i64 a0_4] 112 (0,0)) ys_):gb701≠gb703));have n7_:=A0_ ((by rw [hg];exact Nat.ne_of_gt (blk_lt (g:=gb701) (o:=.cells #[.slice A0_0 l0_0.length c0_0,.int .i64 a0_1,.int .i64 a0_2,.int .i64 a0_3,.int .i64 a0_4] 112 (0,0)) ys_):gb703≠gb701));have n8_:=A0_ ((by rw [hg];exact Nat.ne_of_lt (blk_lt (g:=gb702) (o:=.cells #[.slice A0_0 l0_0.length c0_0,.int .i64 a0_1,.int .i64 a0_2,.int .i64 a0_3,.int .i64 (wrap64 (a0_4 - 1))] 112 (0,0)) yc_):gb702≠gb703));have n9_:=A0_ ((by rw [hg];exact Nat.ne_of_gt (blk_lt (g:=gb702) (o:=.cells #[.slice A0_0 l0_0.length c0_0,.int .i64 a0_1,.int .i64 a0_2,.int .i64 a0_3,.int .i64 (wrap64 (a0_4 - 1))] 112 (0,0)) yc_):gb703≠gb702));clear BK701;clear BK702;clear HB;have BK701:=n0_;have BK702:=n1_;have HB:=n2_;have BK703:=n3_;have GW703:=n4_;have GE703:=n5_;have NB701_703:=n6_;have NB703_701:=n7_;have NB702_703:=n8_;have NB703_702:=n9_;clear n0_ n1_ n2_ n3_ n4_ n5_ n6_ n7_ n8_ n9_;clear hb hbox hg))
 have n0_:=A0_ (blk_drew BK701.out);have n1_:=A0_ (blk_drew BK702.out);have n2_:=A0_ (blk_drew BK703.out);have n3_:=A0_ (below_drew1 HB.out);clear BK701;clear BK702;clear BK703;clear HB;have BK701:=n0_;have BK702:=n1_;have BK703:=n2_;have HB:=n3_;clear n0_ n1_ n2_ n3_
 refine start_ (n:=8) (S:=fun w'=>w'.cell? ⟨gb702,0,none⟩=some (.slice A0_0 l0_0.length c0_0)∧w'.cell? ⟨gb702,1,none⟩=some (.int .i64 a0_1)∧w'.cell? ⟨gb702,2,none⟩=some (.int .i64 a0_2)∧w'.cell? ⟨gb702,3,none⟩=some (.int .i64 a0_3)∧w'.cell? ⟨gb702,4,none⟩=some (.int .i64 (wrap64 (a0_4 - 1)))∧w'.cell? ⟨gb701,0,none⟩=some (.slice A0_0 l0_0.length c0_0)∧w'.cell? ⟨gb701,1,none⟩=some (.int .i64 a0_1)∧w'.cell? ⟨gb701,2,none⟩=some (.int .i64 a0_2)∧w'.cell? ⟨gb701,3,none⟩=some (.int .i64 a0_3)∧w'.cell? ⟨gb701,4,none⟩=some (.int .i64 a0_4)) (ds:=[]) #[false,false,false,false,false,false,false,false] (by kernel_rfl) rfl rfl ⟨(blk_cell BK702.out 0).trans rfl,(blk_cell BK702.out 1).trans rfl,(blk_cell BK702.out 2).trans rfl,(blk_cell BK702.out 3).trans rfl,(blk_cell BK702.out 4).trans rfl,(blk_cell BK701.out 0).trans rfl,(blk_cell BK701.out 1).trans rfl,(blk_cell BK701.out 2).trans rfl,(blk_cell BK701.out 3).trans rfl,(blk_cell BK701.out 4).trans rfl⟩ (fun hHeld=>?_);refine with_tabW at_has_full.tab9 at_has_full.bits9 (fun HT_ HW_=>?_)
 generalize w11.drew=w12 at BK701 BK702 BK703 HB hHeld ⊢
 refine ta_ (i:=0) (N:=some 45) ?_;refine ta_ (i:=3) (N:=some 48) ?_
 refine one_ (i:=1) (N:=some 46) #[true,true,false,true,false,false,false,false] rfl rfl (one_of HT_.out (by kernel_rfl)) (by decide) (fun K hK=>?_)
 refine goes_ Tryz.func128 (by kernel_rfl) rfl #[.agg #[.slice A0_0 l0_0.length c0_0,.int .i64 a0_1,.int .i64 a0_2,.int .i64 a0_3,.int .i64 (wrap64 (a0_4 - 1))]] (by rfl) rfl rfl y1_ ?_
 with_reducible refine (ss_lunar.calls k _ _ l0_0 a0_1 a0_2 a0_3 (wrap64 (a0_4 - 1)) t704 _ ?side1 ?side2 A3.out).mono ?_
 (case side1=>repeat (first|exact (Kd.C_below HR0_0.out HB.out)|(with_reducible refine Kd.C_alloc ?_ _)|(with_reducible refine Kd.C_drewN ?_ _)|(with_reducible refine Kd.C_drew ?_)))
 (case side2=>exact HC0_0.out)
 rintro e w13 ⟨rfl,hb⟩
 refine ⟨_,rfl,?_⟩
 have n0_:=A0_ (blk_below (g:=gb701) (o:=.cells #[.slice A0_0 l0_0.length c0_0,.int .i64 a0_1,.int .i64 a0_2,.int .i64 a0_3,.int .i64 a0_4] 112 (0,0)) (bd_ BK701.out) hb);have n1_:=A0_ (blk_below (g:=gb702) (o:=.cells #[.slice A0_0 l0_0.length c0_0,.int .i64 a0_1,.int .i64 a0_2,.int .i64 a0_3,.int .i64 (wrap64 (a0_4 - 1))] 112 (0,0)) (bd_ BK702.out) hb);have n2_:=A0_ (blk_below (g:=gb703) (o:=.cells #[] 153 (0,0)) (bd_ BK703.out) hb);have n3_:=A0_ (below_step y2c_ hb);clear BK701;clear BK702;clear BK703;clear HB;have BK701:=n0_;have BK702:=n1_;have BK703:=n2_;have HB:=n3_;clear n0_ n1_ n2_ n3_;(try clear hb);(try clear hb2);(try clear hk);(try clear hi)
 refine hK.out _ _ ⟨(blk_cell BK702.out 0).trans rfl,(blk_cell BK702.out 1).trans rfl,(blk_cell BK702.out 2).trans rfl,(blk_cell BK702.out 3).trans rfl,(blk_cell BK702.out 4).trans rfl,(blk_cell BK701.out 0).trans rfl,(blk_cell BK701.out 1).trans rfl,(blk_cell BK701.out 2).trans rfl,(blk_cell BK701.out 3).trans rfl,(blk_cell BK701.out 4).trans rfl⟩ (fun hHeld=>?_)
 clear hK K
 refine norm_ (a':=?_) ?_ ?_
 rotate_left
 ·show Act.put _ (some 46) _=_
  simp only [Act.put,List.setIfInBounds_toArray,List.set_cons_zero,List.set_cons_succ,i64_w,i32_w]
  rfl
 refine pu_ (i:=2) (N:=some 47) ?_
 refine one_ (i:=4) (N:=some 49) #[true,true,true,true,true,false,false,false] rfl rfl (one_of HT_.out (by kernel_rfl)) (by decide) (fun K hK=>?_)
 refine goes_ Tryz.func128 (by kernel_rfl) rfl #[.agg #[.slice A0_0 l0_0.length c0_0,.int .i64 a0_1,.int .i64 a0_2,.int .i64 a0_3,.int .i64 a0_4]] (by rfl) rfl rfl y1_ ?_
 with_reducible refine (ss_lunar.calls k _ _ l0_0 a0_1 a0_2 a0_3 a0_4 t705 _ ?side1 ?side2 A4.out).mono ?_
 (case side1=>repeat (first|exact (Kd.C_below HR0_0.out HB.out)|(with_reducible refine Kd.C_alloc ?_ _)|(with_reducible refine Kd.C_drewN ?_ _)|(with_reducible refine Kd.C_drew ?_)))
 (case side2=>exact HC0_0.out)
 rintro e w14 ⟨rfl,hb⟩
 refine ⟨_,rfl,?_⟩
 have n0_:=A0_ (blk_below (g:=gb701) (o:=.cells #[.slice A0_0 l0_0.length c0_0,.int .i64 a0_1,.int .i64 a0_2,.int .i64 a0_3,.int .i64 a0_4] 112 (0,0)) (bd_ BK701.out) hb);have n1_:=A0_ (blk_below (g:=gb702) (o:=.cells #[.slice A0_0 l0_0.length c0_0,.int .i64 a0_1,.int .i64 a0_2,.int .i64 a0_3,.int .i64 (wrap64 (a0_4 - 1))] 112 (0,0)) (bd_ BK702.out) hb);have n2_:=A0_ (blk_below (g:=gb703) (o:=.cells #[] 153 (0,0)) (bd_ BK703.out) hb);have n3_:=A0_ (below_step y2c_ hb);clear BK701;clear BK702;clear BK703;clear HB;have BK701:=n0_;have BK702:=n1_;have BK703:=n2_;have HB:=n3_;clear n0_ n1_ n2_ n3_;(try clear hb);(try clear hb2);(try clear hk);(try clear hi)
 refine hK.out _ _ ⟨(blk_cell BK702.out 0).trans rfl,(blk_cell BK702.out 1).trans rfl,(blk_cell BK702.out 2).trans rfl,(blk_cell BK702.out 3).trans rfl,(blk_cell BK702.out 4).trans rfl,(blk_cell BK701.out 0).trans rfl,(blk_cell BK701.out 1).trans rfl,(blk_cell BK701.out 2).trans rfl,(blk_cell BK701.out 3).trans rfl,(blk_cell BK701.out 4).trans rfl⟩ (fun hHeld=>?_)
 clear hK K
 refine norm_ (a':=?_) ?_ ?_
 rotate_left
 ·show Act.put _ (some 49) _=_
  simp only [Act.put,List.setIfInBounds_toArray,List.set_cons_zero,List.set_cons_succ,i64_w,i32_w]
  rfl
 refine pu_ (i:=5) (N:=some 50) ?_
 refine one_ (i:=6) (N:=some 51) #[true,true,true,true,true,true,true,false] rfl rfl (one_of HT_.out (by kernel_rfl)) (by decide) (fun K hK=>?_)
 refine goes_ Tryz.func127 (by kernel_rfl) rfl #[.int .i64 (wrap64 (t704 - 10800)),.int .i64 (wrap64 (t705 - 10800))] (by rfl) rfl rfl y1_ ?_
 with_reducible refine (sky_passes.calls (wrap64 (t704 - 10800)) (wrap64 (t705 - 10800)) t706 _ A5.out).mono ?_
 rintro e w' ⟨rfl,⟨nd,rfl⟩⟩
 refine ⟨_,rfl,?_⟩
 refine hK.out _ _ ⟨(blk_cell BK702.out 0).trans rfl,(blk_cell BK702.out 1).trans rfl,(blk_cell BK702.out 2).trans rfl,(blk_cell BK702.out 3).trans rfl,(blk_cell BK702.out 4).trans rfl,(blk_cell BK701.out 0).trans rfl,(blk_cell BK701.out 1).trans rfl,(blk_cell BK701.out 2).trans rfl,(blk_cell BK701.out 3).trans rfl,(blk_cell BK701.out 4).trans rfl⟩ (fun hHeld=>?_)
 clear hK K
 refine norm_ (a':=?_) ?_ ?_
 rotate_left
 ·show Act.put _ (some 51) _=_
  simp only [Act.put,List.setIfInBounds_toArray,List.set_cons_zero,List.set_cons_succ,i64_w,i32_w]
  rfl
 refine pu_ (i:=7) (N:=some 4) ?_
 refine done_ (done_of HT_.out (by kernel_rfl)) ?_
 try go_wp2
 go_ret
 exact ⟨y2_,y2c_⟩
def at_has_meet.f (k:Nat) (l0_0:List (S74)) (a0_1:Int) (a0_2:Int) (a0_3:Int) (a0_4:Int) (a1_0:Int) (a1_1:Int):Option (Bool):=(ss_ahead.f k l0_0 a0_1 a0_2 a0_3 (wrap64 (a0_4 - 1)) a1_0 a1_1).bind fun t710=>((ss_ahead.f k l0_0 a0_1 a0_2 a0_3 a0_4 a1_0 a1_1).bind fun t711=>((sky_passes.f t710 t711).bind fun t712=>(if t712=true then (some true) else ((sky_passes.f (wrap64 (-t710)) (wrap64 (-t711))).bind fun t713=>(some t713)))))
def at_has_meet.T5:Bool × List (List Nat × List Nat):=(true,[([],[]),([],[]),([1],[1]),([],[]),([3],[3]),([0,2,4],[0,2,4]),([],[]),([],[]),([7],[7]),([],[]),([9],[9]),([6,8,10,5],[6,8,10]),([5,11,0,1,2,3,4,5],[5]),([11,12,0,1,2,3,4,5,6,7,8,9,10,11,12],[11])])
def at_has_meet.B5:List Nat:=[0,0,2,0,8,31,0,0,128,0,512,2047,4095,8191]
theorem at_has_meet.tab5:rtab .any (opsOf Tryz.f71 5)=at_has_meet.T5:=by kernel_rfl
theorem at_has_meet.bits5:waitsOk at_has_meet.T5.2 at_has_meet.B5=true:=by kernel_rfl
set_option maxHeartbeats 8000000 in
set_option maxRecDepth 100000 in
theorem at_has_meet.calls (k:Nat) (A0_0:Option Addr) (c0_0:Nat) (l0_0:List (S74)) (a0_1:Int) (a0_2:Int) (a0_3:Int) (a0_4:Int) (a1_0:Int) (a1_1:Int) (r:Bool) (w:World) (hr0_0:Kd.C k74 w A0_0 l0_0.length l0_0) (hc0_0:l0_0.length≤c0_0) (h:at_has_meet.f k l0_0 a0_1 a0_2 a0_3 a0_4 a1_0 a1_1=some r):
  Calls Tryz.prog 71 #[.agg #[.slice A0_0 l0_0.length c0_0,.int .i64 a0_1,.int .i64 a0_2,.int .i64 a0_3,.int .i64 a0_4],.iface 115 (.agg #[.int .i64 a1_0,.int .i64 a1_1])] w fun e w'=>e=.returned (.bool r)∧Below w.heap.size w w':=by
 have hta115:∀ (x0 x1:Value) (W:World),(Instr.typeAssert (.iface 115 (.agg #[x0,x1])) 129 115 true).run Tryz.prog W=.ok (.tuple #[(.agg #[x0,x1]),.bool true]) W:=fun _ _ _=>by kernel_rfl
 have hta153:∀ (x0 x1:Value) (W:World),(Instr.typeAssert (.iface 115 (.agg #[x0,x1])) 129 153 true).run Tryz.prog W=.ok (.tuple #[(.agg #[]),.bool false]) W:=fun _ _ _=>by kernel_rfl
 have hu112:=Tryz.underlying112
 have hu29:=Tryz.underlying29
 have hu115:=Tryz.underlying115
 have hu153:=Tryz.underlying153
 have HR0_0:=A0_ hr0_0;have HC0_0:=A0_ hc0_0;clear hr0_0 hc0_0
 have HB:=A0_ (Below.refl w.heap.size w)
 have H:((ss_ahead.f k l0_0 a0_1 a0_2 a0_3 (wrap64 (a0_4 - 1)) a1_0 a1_1).bind fun t710=>((ss_ahead.f k l0_0 a0_1 a0_2 a0_3 a0_4 a1_0 a1_1).bind fun t711=>((sky_passes.f t710 t711).bind fun t712=>(if t712=true then (some true) else ((sky_passes.f (wrap64 (-t710)) (wrap64 (-t711))).bind fun t713=>(some t713))))))=some r:=h
 clear h;replace H:=Option.bind_eq_some_iff.mp H;obtain ⟨t710,A30,H⟩:=H
 replace H:((ss_ahead.f k l0_0 a0_1 a0_2 a0_3 a0_4 a1_0 a1_1).bind fun t711=>((sky_passes.f t710 t711).bind fun t712=>(if t712=true then (some true) else ((sky_passes.f (wrap64 (-t710)) (wrap64 (-t711))).bind fun t713=>(some t713)))))=some r:=H
 have A3:=A0_ A30;clear A30;replace H:=Option.bind_eq_some_iff.mp H;obtain ⟨t711,A40,H⟩:=H
 replace H:((sky_passes.f t710 t711).bind fun t712=>(if t712=true then (some true) else ((sky_passes.f (wrap64 (-t710)) (wrap64 (-t711))).bind fun t713=>(some t713))))=some r:=H
 have A4:=A0_ A40;clear A40;replace H:=Option.bind_eq_some_iff.mp H;obtain ⟨t712,A50,H⟩:=H
 replace H:(if t712=true then (some true) else ((sky_passes.f (wrap64 (-t710)) (wrap64 (-t711))).bind fun t713=>(some t713)))=some r:=H
 have A5:=A0_ A50;clear A50
 by_cases c6:t712=true
 ·subst c6
  have H1:(some true)=some r:=by rw [if_pos rfl] at H;exact H
  clear H;have H:=H1;clear H1;obtain rfl:=Option.some.inj H
  go_enter Tryz.func71,Tryz.ntmps71
  try go_wp2_with (first|((with_reducible refine gate_dst (N:=2) rfl ?_);refine box_event ?hg (N:=2) ?hd (cs:=#[.slice A0_0 l0_0.length c0_0,.int .i64 a0_1,.int .i64 a0_2,.int .i64 a0_3,.int .i64 a0_4]) (t:=112) ?hr ?_;(case hd=>rfl);(case hg=>rfl);(case hr=>first|(go_simp;done)|(go_simp;rfl));intro gb707 hg w7 hbox hb;have n0_:=A0_ (below_step y0_ hb);have n1_:=A0_ (hbox);have n2_:=A0_ ((by rw [hg];exact (below_size y0_):w.heap.size≤gb707));have n3_:=A0_ ((by rw [hg];exact (below_size y0_):w.heap.size≤gb707));clear HB;have HB:=n0_;have BK707:=n1_;have GW707:=n2_;have GE707:=n3_;clear n0_ n1_ n2_ n3_;clear hb hbox hg;obtain ⟨hcz8_0,hcz8_1,hcz8_2,hcz8_3,hcz8_4,hfz8_0,hfz8_1,hfz8_2,hfz8_3,hfz8_4⟩:=bq5_ BK707.out)|((with_reducible refine gate_dst (N:=5) rfl ?_);refine box_event ?hg (N:=5) ?hd (cs:=#[.slice none 0 0,.int .i64 0,.int .i64 0,.int .i64 0,.int .i64 0]) (t:=112) ?hr ?_;(case hd=>rfl);(case hg=>rfl);(case hr=>first|(go_simp;done)|(go_simp;rfl));intro gb708 hg w9 hbox hb;have n0_:=A0_ (blk_below (g:=gb707) (o:=.cells #[.slice A0_0 l0_0.length c0_0,.int .i64 a0_1,.int .i64 a0_2,.int .i64 a0_3,.int .i64 a0_4] 112 (0,0)) (bd_ BK707.out) hb);have n1_:=A0_ (below_step y1d_ hb);have n2_:=A0_ (hbox);have n3_:=A0_ ((by rw [hg];exact (below_size y1d_):w.heap.size≤gb708));have n4_:=A0_ ((by rw [hg];exact (below_size y1d_):w.heap.size≤gb708));have n5_:=A0_ ((by rw [hg];exact Nat.ne_of_lt (blk_lt (g:=gb707) (o:=.cells #[.slice A0_0 l0_0.length c0_0,.int .i64 a0_1,.int .i64 a0_2,.int .i64 a0_3,.int .i64 a0_4] 112 (0,0)) (bd_ BK707.out)):gb707≠gb708));have n6_:=A0_ ((by rw [hg];exact Nat.ne_of_gt (blk_lt (g:=gb707) (o:=.cells #[.slice A0_0 l0_0.length c0_0,.int .i64 a0_1,.int .i64 a0_2,.int .i64 a0_3,.int .i64 a0_4] 112 (0,0)) (bd_ BK707.out)):gb708≠gb707));clear BK707;clear HB;have BK707:=n0_;have HB:=n1_;have BK708:=n2_;have GW708:=n3_;have GE708:=n4_;have NB707_708:=n5_;have NB708_707:=n6_;clear n0_ n1_ n2_ n3_ n4_ n5_ n6_;clear hb hbox hg;have hnb10:=NB708_707.out;have hnc10:=NB707_708.out;obtain ⟨hcz11_0,hcz11_1,hcz11_2,hcz11_3,hcz11_4,hfz11_0,hfz11_1,hfz11_2,hfz11_3,hfz11_4⟩:=bq5_ BK708.out)|((with_reducible refine gate_dst (N:=6) rfl ?_);refine box_event ?hg (N:=6) ?hd (cs:=#[.int .i64 0,.int .i64 0]) (t:=115) ?hr ?_;(case hd=>rfl);(case hg=>rfl);(case hr=>first|(go_simp;done)|(go_simp;rfl));intro gb709 hg w12 hbox hb;have n0_:=A0_ (blk_below (g:=gb707) (o:=.cells #[.slice A0_0 l0_0.length c0_0,.int .i64 a0_1,.int .i64 a0_2,.int .i64 a0_3,.int .i64 a0_4] 112 (0,0)) y7_ hb);have n1_:=A0_ (blk_below (g:=gb708) (o:=.cells #[.slice A0_0 l0_0.length c0_0,.int .i64 a0_1,.int .i64 a0_2,.int .i64 a0_3,.int .i64 (wrap64 (a0_4 - 1))] 112 (0,0)) y3_ hb);have n2_:=A0_ (below_step y1a_ hb);have n3_:=A0_ (hbox);have n4_:=A0_ ((by rw [hg];exact (below_size y1a_):w.heap.size≤gb709));have n5_:=A0_ ((by rw [hg];exact (below_size y1a_):w.heap.size≤gb709));have n6_:=A0_ ((by rw [hg];exact Nat.ne_of_lt (blk_lt (g:=gb707) (o:=.cells #[.slice A0_0 l0_0.length c0_0,.int .i64 a0_1,.int .i64 a0_2,.int .i64 a0_3,.int .i64 a0_4] 112 (0,0)) y7_):gb707≠gb709));have n7_:=A0_ ((by rw [hg];exact Nat.ne_of_gt (blk_lt (g:=gb707) (o:=.cells #[.slice A0_0 l0_0.length c0_0,.int .i64 a0_1,.int .i64 a0_2,.int .i64 a0_3,.int .i64 a0_4] 112 (0,0)) y7_):gb709≠gb707));have n8_:=A0_ ((by rw [hg];exact Nat.ne_of_lt (blk_lt (g:=gb708) (o:=.cells #[.slice A0_0 l0_0.length c0_0,.int .i64 a0_1,.int .i64 a0_2,.int .i64 a0_3,.int .i64 (wrap64 (a0_4 - 1))] 112 (0,0)) y3_):gb708≠gb709));have n9_:=A0_ ((by rw [hg];exact Nat.ne_of_gt (blk_lt (g:=gb708) (o:=.cells #[.slice A0_0 l0_0.length c0_0,.int .i64 a0_1,.int .i64 a0_2,.int .i64 a0_3,.int .i64 (wrap64 (a0_4 - 1))] 112 (0,0)) y3_):gb709≠gb708));clear BK707;clear BK708;clear HB;have BK707:=n0_;have BK708:=n1_;have HB:=n2_;have BK709:=n3_;have GW709:=n4_;have GE709:=n5_;have NB707_709:=n6_;have NB709_707:=n7_;have NB708_709:=n8_;have NB709_708:=n9_;clear n0_ n1_ n2_ n3_ n4_ n5_ n6_ n7_ n8_ n9_;clear hb hbox hg;have hnb13:=NB709_707.out;have hnc13:=NB707_709.out;have hnb14:=NB709_708.out;have hnc14:=NB708_709.out;obtain ⟨hcz15_0,hcz15_1,hfz15_0,hfz15_1⟩:=bq2_ BK709.out))
  have n0_:Aside0 (((w12.setCell ⟨gb709,0,none⟩ (.int .i64 a1_0)).setCell ⟨gb709,1,none⟩ (.int .i64 a1_1)).heap[gb707]?=some (.cells #[.slice A0_0 l0_0.length c0_0,.int .i64 a0_1,.int .i64 a0_2,.int .i64 a0_3,.int .i64 a0_4] 112 (0,0))):=⟨by (with_reducible repeat (first|refine blk_drewN ?_ _|refine blk_drew ?_|refine blk_alloc ?_ _));refine blk_far ?_ NB707_709.out _;(with_reducible repeat (first|refine blk_drewN ?_ _|refine blk_drew ?_|refine blk_alloc ?_ _));refine blk_far ?_ NB707_709.out _;(with_reducible repeat (first|refine blk_drewN ?_ _|refine blk_drew ?_|refine blk_alloc ?_ _));exact BK707.out⟩
  have n1_:Aside0 (((w12.setCell ⟨gb709,0,none⟩ (.int .i64 a1_0)).setCell ⟨gb709,1,none⟩ (.int .i64 a1_1)).heap[gb708]?=some (.cells #[.slice A0_0 l0_0.length c0_0,.int .i64 a0_1,.int .i64 a0_2,.int .i64 a0_3,.int .i64 (wrap64 (a0_4 - 1))] 112 (0,0))):=⟨by (with_reducible repeat (first|refine blk_drewN ?_ _|refine blk_drew ?_|refine blk_alloc ?_ _));refine blk_far ?_ NB708_709.out _;(with_reducible repeat (first|refine blk_drewN ?_ _|refine blk_drew ?_|refine blk_alloc ?_ _));refine blk_far ?_ NB708_709.out _;(with_reducible repeat (first|refine blk_drewN ?_ _|refine blk_drew ?_|refine blk_alloc ?_ _));exact BK708.out⟩
  have n2_:Aside0 (((w12.setCell ⟨gb709,0,none⟩ (.int .i64 a1_0)).setCell ⟨gb709,1,none⟩ (.int .i64 a1_1)).heap[gb709]?=some (.cells #[.int .i64 a1_0,.int .i64 a1_1] 115 (0,0))):=⟨by (with_reducible repeat (first|refine blk_drewN ?_ _|refine blk_drew ?_|refine blk_alloc ?_ _));refine blk_put (cs:=#[.int .i64 a1_0,.int .i64 0]) ?_ 1 _ rfl;(with_reducible repeat (first|refine blk_drewN ?_ _|refine blk_drew ?_|refine blk_alloc ?_ _));refine blk_put (cs:=#[.int .i64 0,.int .i64 0]) ?_ 0 _ rfl;(with_reducible repeat (first|refine blk_drewN ?_ _|refine blk_drew ?_|refine blk_alloc ?_ _));exact BK709.out⟩
  have n3_:Aside0 (Below w.heap.size w ((w12.setCell ⟨gb709,0,none⟩ (.int .i64 a1_0)).setCell ⟨gb709,1,none⟩ (.int .i64 a1_1))):=⟨yt_⟩
  (try clear BK707);(try clear BK708);(try clear BK709);(try clear HB)
  generalize ((w12.setCell ⟨gb709,0,none⟩ (.int .i64 a1_0)).setCell ⟨gb709,1,none⟩ (.int .i64 a1_1))=w16 at n0_ n1_ n2_ n3_ ⊢
  have BK707:=n0_;have BK708:=n1_;have BK709:=n2_;have HB:=n3_;clear n0_ n1_ n2_ n3_;have n0_:=A0_ (blk_drew BK707.out);have n1_:=A0_ (blk_drew BK708.out);have n2_:=A0_ (blk_drew BK709.out);have n3_:=A0_ (below_drew1 HB.out);clear BK707;clear BK708;clear BK709;clear HB;have BK707:=n0_;have BK708:=n1_;have BK709:=n2_;have HB:=n3_;clear n0_ n1_ n2_ n3_
  refine start_ (n:=14) (S:=fun w'=>w'.cell? ⟨gb708,0,none⟩=some (.slice A0_0 l0_0.length c0_0)∧w'.cell? ⟨gb708,1,none⟩=some (.int .i64 a0_1)∧w'.cell? ⟨gb708,2,none⟩=some (.int .i64 a0_2)∧w'.cell? ⟨gb708,3,none⟩=some (.int .i64 a0_3)∧w'.cell? ⟨gb708,4,none⟩=some (.int .i64 (wrap64 (a0_4 - 1)))∧w'.cell? ⟨gb709,0,none⟩=some (.int .i64 a1_0)∧w'.cell? ⟨gb709,1,none⟩=some (.int .i64 a1_1)∧w'.cell? ⟨gb707,0,none⟩=some (.slice A0_0 l0_0.length c0_0)∧w'.cell? ⟨gb707,1,none⟩=some (.int .i64 a0_1)∧w'.cell? ⟨gb707,2,none⟩=some (.int .i64 a0_2)∧w'.cell? ⟨gb707,3,none⟩=some (.int .i64 a0_3)∧w'.cell? ⟨gb707,4,none⟩=some (.int .i64 a0_4)) (ds:=[]) #[false,false,false,false,false,false,false,false,false,false,false,false,false,false] (by kernel_rfl) rfl rfl ⟨(blk_cell BK708.out 0).trans rfl,(blk_cell BK708.out 1).trans rfl,(blk_cell BK708.out 2).trans rfl,(blk_cell BK708.out 3).trans rfl,(blk_cell BK708.out 4).trans rfl,(blk_cell BK709.out 0).trans rfl,(blk_cell BK709.out 1).trans rfl,(blk_cell BK707.out 0).trans rfl,(blk_cell BK707.out 1).trans rfl,(blk_cell BK707.out 2).trans rfl,(blk_cell BK707.out 3).trans rfl,(blk_cell BK707.out 4).trans rfl⟩ (fun hHeld=>?_);refine with_tabW at_has_meet.tab5 at_has_meet.bits5 (fun HT_ HW_=>?_)
  generalize w16.drew=w17 at BK707 BK708 BK709 HB hHeld ⊢
  refine pu_ (i:=1) (N:=some 21) ?_;refine pu_ (i:=3) (N:=some 23) ?_;refine pu_ (i:=7) (N:=some 27) ?_;refine pu_ (i:=9) (N:=some 29) ?_;refine ta_ (i:=0) (N:=some 20) ?_;refine ta_ (i:=2) (N:=some 22) ?_;refine ta_ (i:=4) (N:=some 24) ?_;refine ta_ (i:=6) (N:=some 26) ?_;refine ta_ (i:=8) (N:=some 28) ?_;refine ta_ (i:=10) (N:=some 30) ?_
  refine one_ (i:=5) (N:=some 25) #[true,true,true,true,true,true,true,true,true,true,true,false,false,false] rfl rfl (one_of HT_.out (by kernel_rfl)) (by decide) (fun K hK=>?_)
  refine goes_ Tryz.func73 (by kernel_rfl) rfl #[.agg #[.slice A0_0 l0_0.length c0_0,.int .i64 a0_1,.int .i64 a0_2,.int .i64 a0_3,.int .i64 (wrap64 (a0_4 - 1))],.int .i64 a1_0,.int .i64 a1_1] (by rfl) rfl rfl y1_ ?_
  with_reducible refine (ss_ahead.calls k _ _ l0_0 a0_1 a0_2 a0_3 (wrap64 (a0_4 - 1)) a1_0 a1_1 t710 _ ?side1 ?side2 A3.out).mono ?_
  (case side1=>repeat (first|exact (Kd.C_below HR0_0.out HB.out)|(with_reducible refine Kd.C_alloc ?_ _)|(with_reducible refine Kd.C_drewN ?_ _)|(with_reducible refine Kd.C_drew ?_)))
  (case side2=>exact HC0_0.out)
  rintro e w18 ⟨rfl,hb⟩
  refine ⟨_,rfl,?_⟩
  have n0_:=A0_ (blk_below (g:=gb707) (o:=.cells #[.slice A0_0 l0_0.length c0_0,.int .i64 a0_1,.int .i64 a0_2,.int .i64 a0_3,.int .i64 a0_4] 112 (0,0)) (bd_ BK707.out) hb);have n1_:=A0_ (blk_below (g:=gb708) (o:=.cells #[.slice A0_0 l0_0.length c0_0,.int .i64 a0_1,.int .i64 a0_2,.int .i64 a0_3,.int .i64 (wrap64 (a0_4 - 1))] 112 (0,0)) (bd_ BK708.out) hb);have n2_:=A0_ (blk_below (g:=gb709) (o:=.cells #[.int .i64 a1_0,.int .i64 a1_1] 115 (0,0)) (bd_ BK709.out) hb);have n3_:=A0_ (below_step yt_ hb);clear BK707;clear BK708;clear BK709;clear HB;have BK707:=n0_;have BK708:=n1_;have BK709:=n2_;have HB:=n3_;clear n0_ n1_ n2_ n3_;(try clear hb);(try clear hb2);(try clear hk);(try clear hi)
  refine hK.out _ _ ⟨(blk_cell BK708.out 0).trans rfl,(blk_cell BK708.out 1).trans rfl,(blk_cell BK708.out 2).trans rfl,(blk_cell BK708.out 3).trans rfl,(blk_cell BK708.out 4).trans rfl,(blk_cell BK709.out 0).trans rfl,(blk_cell BK709.out 1).trans rfl,(blk_cell BK707.out 0).trans rfl,(blk_cell BK707.out 1).trans rfl,(blk_cell BK707.out 2).trans rfl,(blk_cell BK707.out 3).trans rfl,(blk_cell BK707.out 4).trans rfl⟩ (fun hHeld=>?_)
  clear hK K
  refine norm_ (a':=?_) ?_ ?_
  rotate_left
  ·show Act.put _ (some 25) _=_
   simp only [Act.put,List.setIfInBounds_toArray,List.set_cons_zero,List.set_cons_succ,i64_w,i32_w]
   rfl
  refine one_ (i:=11) (N:=some 31) #[true,true,true,true,true,true,true,true,true,true,true,true,false,false] rfl rfl (one_of HT_.out (by kernel_rfl)) (by decide) (fun K hK=>?_)
  refine goes_ Tryz.func73 (by kernel_rfl) rfl #[.agg #[.slice A0_0 l0_0.length c0_0,.int .i64 a0_1,.int .i64 a0_2,.int .i64 a0_3,.int .i64 a0_4],.int .i64 a1_0,.int .i64 a1_1] (by rfl) rfl rfl y1_ ?_
  with_reducible refine (ss_ahead.calls k _ _ l0_0 a0_1 a0_2 a0_3 a0_4 a1_0 a1_1 t711 _ ?side1 ?side2 A4.out).mono ?_
  (case side1=>repeat (first|exact (Kd.C_below HR0_0.out HB.out)|(with_reducible refine Kd.C_alloc ?_ _)|(with_reducible refine Kd.C_drewN ?_ _)|(with_reducible refine Kd.C_drew ?_)))
  (case side2=>exact HC0_0.out)
  rintro e w19 ⟨rfl,hb⟩
  refine ⟨_,rfl,?_⟩
  have n0_:=A0_ (blk_below (g:=gb707) (o:=.cells #[.slice A0_0 l0_0.length c0_0,.int .i64 a0_1,.int .i64 a0_2,.int .i64 a0_3,.int .i64 a0_4] 112 (0,0)) (bd_ BK707.out) hb);have n1_:=A0_ (blk_below (g:=gb708) (o:=.cells #[.slice A0_0 l0_0.length c0_0,.int .i64 a0_1,.int .i64 a0_2,.int .i64 a0_3,.int .i64 (wrap64 (a0_4 - 1))] 112 (0,0)) (bd_ BK708.out) hb);have n2_:=A0_ (blk_below (g:=gb709) (o:=.cells #[.int .i64 a1_0,.int .i64 a1_1] 115 (0,0)) (bd_ BK709.out) hb);have n3_:=A0_ (below_step yt_ hb);clear BK707;clear BK708;clear BK709;clear HB;have BK707:=n0_;have BK708:=n1_;have BK709:=n2_;have HB:=n3_;clear n0_ n1_ n2_ n3_;(try clear hb);(try clear hb2);(try clear hk);(try clear hi)
  refine hK.out _ _ ⟨(blk_cell BK708.out 0).trans rfl,(blk_cell BK708.out 1).trans rfl,(blk_cell BK708.out 2).trans rfl,(blk_cell BK708.out 3).trans rfl,(blk_cell BK708.out 4).trans rfl,(blk_cell BK709.out 0).trans rfl,(blk_cell BK709.out 1).trans rfl,(blk_cell BK707.out 0).trans rfl,(blk_cell BK707.out 1).trans rfl,(blk_cell BK707.out 2).trans rfl,(blk_cell BK707.out 3).trans rfl,(blk_cell BK707.out 4).trans rfl⟩ (fun hHeld=>?_)
  clear hK K
  refine norm_ (a':=?_) ?_ ?_
  rotate_left
  ·show Act.put _ (some 31) _=_
   simp only [Act.put,List.setIfInBounds_toArray,List.set_cons_zero,List.set_cons_succ,i64_w,i32_w]
   rfl
  refine pu_ (i:=12) (N:=some 7) ?_;refine pu_ (i:=13) (N:=some 8) ?_
  refine done_ (done_of HT_.out (by kernel_rfl)) ?_
  try go_wp2_with (first|(go_at_call 127;(with_reducible refine (sky_passes.calls t710 t711 true _ A5.out).mono ?_);rintro e w' ⟨rfl,⟨nd,rfl⟩⟩))
  go_ret
  exact ⟨y2_,yt_⟩
 ·replace c6:=Bool.eq_false_iff.mpr c6;subst c6
  have H1:((sky_passes.f (wrap64 (-t710)) (wrap64 (-t711))).bind fun t713=>(some t713))=some r:=by rw [if_neg (show ¬ (false=true) by decide)] at H;exact H
  clear H;have H:=H1;clear H1;replace H:=Option.bind_eq_some_iff.mp H;obtain ⟨t713,A200,H⟩:=H
  replace H:(some t713)=some r:=H
  have A20:=A0_ A200;clear A200;obtain rfl:=Option.some.inj H
  go_enter Tryz.func71,Tryz.ntmps71
  try go_wp2_with (first|((with_reducible refine gate_dst (N:=2) rfl ?_);refine box_event ?hg (N:=2) ?hd (cs:=#[.slice A0_0 l0_0.length c0_0,.int .i64 a0_1,.int .i64 a0_2,.int .i64 a0_3,.int .i64 a0_4]) (t:=112) ?hr ?_;(case hd=>rfl);(case hg=>rfl);(case hr=>first|(go_simp;done)|(go_simp;rfl));intro gb707 hg w21 hbox hb;have n0_:=A0_ (below_step y0_ hb);have n1_:=A0_ (hbox);have n2_:=A0_ ((by rw [hg];exact (below_size y0_):w.heap.size≤gb707));have n3_:=A0_ ((by rw [hg];exact (below_size y0_):w.heap.size≤gb707));clear HB;have HB:=n0_;have BK707:=n1_;have GW707:=n2_;have GE707:=n3_;clear n0_ n1_ n2_ n3_;clear hb hbox hg;obtain ⟨hcz22_0,hcz22_1,hcz22_2,hcz22_3,hcz22_4,hfz22_0,hfz22_1,hfz22_2,hfz22_3,hfz22_4⟩:=bq5_ BK707.out)|((with_reducible refine gate_dst (N:=5) rfl ?_);refine box_event ?hg (N:=5) ?hd (cs:=#[.slice none 0 0,.int .i64 0,.int .i64 0,.int .i64 0,.int .i64 0]) (t:=112) ?hr ?_;(case hd=>rfl);(case hg=>rfl);(case hr=>first|(go_simp;done)|(go_simp;rfl));intro gb708 hg w23 hbox hb;have n0_:=A0_ (blk_below (g:=gb707) (o:=.cells #[.slice A0_0 l0_0.length c0_0,.int .i64 a0_1,.int .i64 a0_2,.int .i64 a0_3,.int .i64 a0_4] 112 (0,0)) (bd_ BK707.out) hb);have n1_:=A0_ (below_step y1d_ hb);have n2_:=A0_ (hbox);have n3_:=A0_ ((by rw [hg];exact (below_size y1d_):w.heap.size≤gb708));have n4_:=A0_ ((by rw [hg];exact (below_size y1d_):w.heap.size≤gb708));have n5_:=A0_ ((by rw [hg];exact Nat.ne_of_lt (blk_lt (g:=gb707) (o:=.cells #[.slice A0_0 l0_0.length c0_0,.int .i64 a0_1,.int .i64 a0_2,.int .i64 a0_3,.int .i64 a0_4] 112 (0,0)) (bd_ BK707.out)):gb707≠gb708));have n6_:=A0_ ((by rw [hg];exact Nat.ne_of_gt (blk_lt (g:=gb707) (o:=.cells #[.slice A0_0 l0_0.length c0_0,.int .i64 a0_1,.int .i64 a0_2,.int .i64 a0_3,.int .i64 a0_4] 112 (0,0)) (bd_ BK707.out)):gb708≠gb707));clear BK707;clear HB;have BK707:=n0_;have HB:=n1_;have BK708:=n2_;have GW708:=n3_;have GE708:=n4_;have NB707_708:=n5_;have NB708_707:=n6_;clear n0_ n1_ n2_ n3_ n4_ n5_ n6_;clear hb hbox hg;have hnb24:=NB708_707.out;have hnc24:=NB707_708.out;obtain ⟨hcz25_0,hcz25_1,hcz25_2,hcz25_3,hcz25_4,hfz25_0,hfz25_1,hfz25_2,hfz25_3,hfz25_4⟩:=bq5_ BK708.out)|((with_reducible refine gate_dst (N:=6) rfl ?_);refine box_event ?hg (N:=6) ?hd (cs:=#[.int .i64 0,.int .i64 0]) (t:=115) ?hr ?_;(case hd=>rfl);(case hg=>rfl);(case hr=>first|(go_simp;done)|(go_simp;rfl));intro gb709 hg w26 hbox hb;have n0_:=A0_ (blk_below (g:=gb707) (o:=.cells #[.slice A0_0 l0_0.length c0_0,.int .i64 a0_1,.int .i64 a0_2,.int .i64 a0_3,.int .i64 a0_4] 112 (0,0)) y7_ hb);have n1_:=A0_ (blk_below (g:=gb708) (o:=.cells #[.slice A0_0 l0_0.length c0_0,.int .i64 a0_1,.int .i64 a0_2,.int .i64 a0_3,.int .i64 (wrap64 (a0_4 - 1))] 112 (0,0)) y3_ hb);have n2_:=A0_ (below_step y1a_ hb);have n3_:=A0_ (hbox);have n4_:=A0_ ((by rw [hg];exact (below_size y1a_):w.heap.size≤gb709));have n5_:=A0_ ((by rw [hg];exact (below_size y1a_):w.heap.size≤gb709));have n6_:=A0_ ((by rw [hg];exact Nat.ne_of_lt (blk_lt (g:=gb707) (o:=.cells #[.slice A0_0 l0_0.length c0_0,.int .i64 a0_1,.int .i64 a0_2,.int .i64 a0_3,.int .i64 a0_4] 112 (0,0)) y7_):gb707≠gb709));have n7_:=A0_ ((by rw [hg];exact Nat.ne_of_gt (blk_lt (g:=gb707) (o:=.cells #[.slice A0_0 l0_0.length c0_0,.int .i64 a0_1,.int .i64 a0_2,.int .i64 a0_3,.int .i64 a0_4] 112 (0,0)) y7_):gb709≠gb707));have n8_:=A0_ ((by rw [hg];exact Nat.ne_of_lt (blk_lt (g:=gb708) (o:=.cells #[.slice A0_0 l0_0.length c0_0,.int .i64 a0_1,.int .i64 a0_2,.int .i64 a0_3,.int .i64 (wrap64 (a0_4 - 1))] 112 (0,0)) y3_):gb708≠gb709));have n9_:=A0_ ((by rw [hg];exact Nat.ne_of_gt (blk_lt (g:=gb708) (o:=.cells #[.slice A0_0 l0_0.length c0_0,.int .i64 a0_1,.int .i64 a0_2,.int .i64 a0_3,.int .i64 (wrap64 (a0_4 - 1))] 112 (0,0)) y3_):gb709≠gb708));clear BK707;clear BK708;clear HB;have BK707:=n0_;have BK708:=n1_;have HB:=n2_;have BK709:=n3_;have GW709:=n4_;have GE709:=n5_;have NB707_709:=n6_;have NB709_707:=n7_;have NB708_709:=n8_;have NB709_708:=n9_;clear n0_ n1_ n2_ n3_ n4_ n5_ n6_ n7_ n8_ n9_;clear hb hbox hg;have hnb27:=NB709_707.out;have hnc27:=NB707_709.out;have hnb28:=NB709_708.out;have hnc28:=NB708_709.out;obtain ⟨hcz29_0,hcz29_1,hfz29_0,hfz29_1⟩:=bq2_ BK709.out))
  have n0_:Aside0 (((w26.setCell ⟨gb709,0,none⟩ (.int .i64 a1_0)).setCell ⟨gb709,1,none⟩ (.int .i64 a1_1)).heap[gb707]?=some (.cells #[.slice A0_0 l0_0.length c0_0,.int .i64 a0_1,.int .i64 a0_2,.int .i64 a0_3,.int .i64 a0_4] 112 (0,0))):=⟨by (with_reducible repeat (first|refine blk_drewN ?_ _|refine blk_drew ?_|refine blk_alloc ?_ _));refine blk_far ?_ NB707_709.out _;(with_reducible repeat (first|refine blk_drewN ?_ _|refine blk_drew ?_|refine blk_alloc ?_ _));refine blk_far ?_ NB707_709.out _;(with_reducible repeat (first|refine blk_drewN ?_ _|refine blk_drew ?_|refine blk_alloc ?_ _));exact BK707.out⟩
  have n1_:Aside0 (((w26.setCell ⟨gb709,0,none⟩ (.int .i64 a1_0)).setCell ⟨gb709,1,none⟩ (.int .i64 a1_1)).heap[gb708]?=some (.cells #[.slice A0_0 l0_0.length c0_0,.int .i64 a0_1,.int .i64 a0_2,.int .i64 a0_3,.int .i64 (wrap64 (a0_4 - 1))] 112 (0,0))):=⟨by (with_reducible repeat (first|refine blk_drewN ?_ _|refine blk_drew ?_|refine blk_alloc ?_ _));refine blk_far ?_ NB708_709.out _;(with_reducible repeat (first|refine blk_drewN ?_ _|refine blk_drew ?_|refine blk_alloc ?_ _));refine blk_far ?_ NB708_709.out _;(with_reducible repeat (first|refine blk_drewN ?_ _|refine blk_drew ?_|refine blk_alloc ?_ _));exact BK708.out⟩
  have n2_:Aside0 (((w26.setCell ⟨gb709,0,none⟩ (.int .i64 a1_0)).setCell ⟨gb709,1,none⟩ (.int .i64 a1_1)).heap[gb709]?=some (.cells #[.int .i64 a1_0,.int .i64 a1_1] 115 (0,0))):=⟨by (with_reducible repeat (first|refine blk_drewN ?_ _|refine blk_drew ?_|refine blk_alloc ?_ _));refine blk_put (cs:=#[.int .i64 a1_0,.int .i64 0]) ?_ 1 _ rfl;(with_reducible repeat (first|refine blk_drewN ?_ _|refine blk_drew ?_|refine blk_alloc ?_ _));refine blk_put (cs:=#[.int .i64 0,.int .i64 0]) ?_ 0 _ rfl;(with_reducible repeat (first|refine blk_drewN ?_ _|refine blk_drew ?_|refine blk_alloc ?_ _));exact BK709.out⟩
  have n3_:Aside0 (Below w.heap.size w ((w26.setCell ⟨gb709,0,none⟩ (.int .i64 a1_0)).setCell ⟨gb709,1,none⟩ (.int .i64 a1_1))):=⟨yt_⟩
  (try clear BK707);(try clear BK708);(try clear BK709);(try clear HB)
  generalize ((w26.setCell ⟨gb709,0,none⟩ (.int .i64 a1_0)).setCell ⟨gb709,1,none⟩ (.int .i64 a1_1))=w30 at n0_ n1_ n2_ n3_ ⊢
  have BK707:=n0_;have BK708:=n1_;have BK709:=n2_;have HB:=n3_;clear n0_ n1_ n2_ n3_;have n0_:=A0_ (blk_drew BK707.out);have n1_:=A0_ (blk_drew BK708.out);have n2_:=A0_ (blk_drew BK709.out);have n3_:=A0_ (below_drew1 HB.out);clear BK707;clear BK708;clear BK709;clear HB;have BK707:=n0_;have BK708:=n1_;have BK709:=n2_;have HB:=n3_;clear n0_ n1_ n2_ n3_
  refine start_ (n:=14) (S:=fun w'=>w'.cell? ⟨gb708,0,none⟩=some (.slice A0_0 l0_0.length c0_0)∧w'.cell? ⟨gb708,1,none⟩=some (.int .i64 a0_1)∧w'.cell? ⟨gb708,2,none⟩=some (.int .i64 a0_2)∧w'.cell? ⟨gb708,3,none⟩=some (.int .i64 a0_3)∧w'.cell? ⟨gb708,4,none⟩=some (.int .i64 (wrap64 (a0_4 - 1)))∧w'.cell? ⟨gb709,0,none⟩=some (.int .i64 a1_0)∧w'.cell? ⟨gb709,1,none⟩=some (.int .i64 a1_1)∧w'.cell? ⟨gb707,0,none⟩=some (.slice A0_0 l0_0.length c0_0)∧w'.cell? ⟨gb707,1,none⟩=some (.int .i64 a0_1)∧w'.cell? ⟨gb707,2,none⟩=some (.int .i64 a0_2)∧w'.cell? ⟨gb707,3,none⟩=some (.int .i64 a0_3)∧w'.cell? ⟨gb707,4,none⟩=some (.int .i64 a0_4)) (ds:=[]) #[false,false,false,false,false,false,false,false,false,false,false,false,false,false] (by kernel_rfl) rfl rfl ⟨(blk_cell BK708.out 0).trans rfl,(blk_cell BK708.out 1).trans rfl,(blk_cell BK708.out 2).trans rfl,(blk_cell BK708.out 3).trans rfl,(blk_cell BK708.out 4).trans rfl,(blk_cell BK709.out 0).trans rfl,(blk_cell BK709.out 1).trans rfl,(blk_cell BK707.out 0).trans rfl,(blk_cell BK707.out 1).trans rfl,(blk_cell BK707.out 2).trans rfl,(blk_cell BK707.out 3).trans rfl,(blk_cell BK707.out 4).trans rfl⟩ (fun hHeld=>?_);refine with_tabW at_has_meet.tab5 at_has_meet.bits5 (fun HT_ HW_=>?_)
  generalize w30.drew=w31 at BK707 BK708 BK709 HB hHeld ⊢
  refine pu_ (i:=1) (N:=some 21) ?_;refine pu_ (i:=3) (N:=some 23) ?_;refine pu_ (i:=7) (N:=some 27) ?_;refine pu_ (i:=9) (N:=some 29) ?_;refine ta_ (i:=0) (N:=some 20) ?_;refine ta_ (i:=2) (N:=some 22) ?_;refine ta_ (i:=4) (N:=some 24) ?_;refine ta_ (i:=6) (N:=some 26) ?_;refine ta_ (i:=8) (N:=some 28) ?_;refine ta_ (i:=10) (N:=some 30) ?_
  refine one_ (i:=5) (N:=some 25) #[true,true,true,true,true,true,true,true,true,true,true,false,false,false] rfl rfl (one_of HT_.out (by kernel_rfl)) (by decide) (fun K hK=>?_)
  refine goes_ Tryz.func73 (by kernel_rfl) rfl #[.agg #[.slice A0_0 l0_0.length c0_0,.int .i64 a0_1,.int .i64 a0_2,.int .i64 a0_3,.int .i64 (wrap64 (a0_4 - 1))],.int .i64 a1_0,.int .i64 a1_1] (by rfl) rfl rfl y1_ ?_
  with_reducible refine (ss_ahead.calls k _ _ l0_0 a0_1 a0_2 a0_3 (wrap64 (a0_4 - 1)) a1_0 a1_1 t710 _ ?side1 ?side2 A3.out).mono ?_
  (case side1=>repeat (first|exact (Kd.C_below HR0_0.out HB.out)|(with_reducible refine Kd.C_alloc ?_ _)|(with_reducible refine Kd.C_drewN ?_ _)|(with_reducible refine Kd.C_drew ?_)))
  (case side2=>exact HC0_0.out)
  rintro e w32 ⟨rfl,hb⟩
  refine ⟨_,rfl,?_⟩
  have n0_:=A0_ (blk_below (g:=gb707) (o:=.cells #[.slice A0_0 l0_0.length c0_0,.int .i64 a0_1,.int .i64 a0_2,.int .i64 a0_3,.int .i64 a0_4] 112 (0,0)) (bd_ BK707.out) hb);have n1_:=A0_ (blk_below (g:=gb708) (o:=.cells #[.slice A0_0 l0_0.length c0_0,.int .i64 a0_1,.int .i64 a0_2,.int .i64 a0_3,.int .i64 (wrap64 (a0_4 - 1))] 112 (0,0)) (bd_ BK708.out) hb);have n2_:=A0_ (blk_below (g:=gb709) (o:=.cells #[.int .i64 a1_0,.int .i64 a1_1] 115 (0,0)) (bd_ BK709.out) hb);have n3_:=A0_ (below_step yt_ hb);clear BK707;clear BK708;clear BK709;clear HB;have BK707:=n0_;have BK708:=n1_;have BK709:=n2_;have HB:=n3_;clear n0_ n1_ n2_ n3_;(try clear hb);(try clear hb2);(try clear hk);(try clear hi)
  refine hK.out _ _ ⟨(blk_cell BK708.out 0).trans rfl,(blk_cell BK708.out 1).trans rfl,(blk_cell BK708.out 2).trans rfl,(blk_cell BK708.out 3).trans rfl,(blk_cell BK708.out 4).trans rfl,(blk_cell BK709.out 0).trans rfl,(blk_cell BK709.out 1).trans rfl,(blk_cell BK707.out 0).trans rfl,(blk_cell BK707.out 1).trans rfl,(blk_cell BK707.out 2).trans rfl,(blk_cell BK707.out 3).trans rfl,(blk_cell BK707.out 4).trans rfl⟩ (fun hHeld=>?_)
  clear hK K
  refine norm_ (a':=?_) ?_ ?_
  rotate_left
  ·show Act.put _ (some 25) _=_
   simp only [Act.put,List.setIfInBounds_toArray,List.set_cons_zero,List.set_cons_succ,i64_w,i32_w]
   rfl
  refine one_ (i:=11) (N:=some 31) #[true,true,true,true,true,true,true,true,true,true,true,true,false,false] rfl rfl (one_of HT_.out (by kernel_rfl)) (by decide) (fun K hK=>?_)
  refine goes_ Tryz.func73 (by kernel_rfl) rfl #[.agg #[.slice A0_0 l0_0.length c0_0,.int .i64 a0_1,.int .i64 a0_2,.int .i64 a0_3,.int .i64 a0_4],.int .i64 a1_0,.int .i64 a1_1] (by rfl) rfl rfl y1_ ?_
  with_reducible refine (ss_ahead.calls k _ _ l0_0 a0_1 a0_2 a0_3 a0_4 a1_0 a1_1 t711 _ ?side1 ?side2 A4.out).mono ?_
  (case side1=>repeat (first|exact (Kd.C_below HR0_0.out HB.out)|(with_reducible refine Kd.C_alloc ?_ _)|(with_reducible refine Kd.C_drewN ?_ _)|(with_reducible refine Kd.C_drew ?_)))
  (case side2=>exact HC0_0.out)
  rintro e w33 ⟨rfl,hb⟩
  refine ⟨_,rfl,?_⟩
  have n0_:=A0_ (blk_below (g:=gb707) (o:=.cells #[.slice A0_0 l0_0.length c0_0,.int .i64 a0_1,.int .i64 a0_2,.int .i64 a0_3,.int .i64 a0_4] 112 (0,0)) (bd_ BK707.out) hb);have n1_:=A0_ (blk_below (g:=gb708) (o:=.cells #[.slice A0_0 l0_0.length c0_0,.int .i64 a0_1,.int .i64 a0_2,.int .i64 a0_3,.int .i64 (wrap64 (a0_4 - 1))] 112 (0,0)) (bd_ BK708.out) hb);have n2_:=A0_ (blk_below (g:=gb709) (o:=.cells #[.int .i64 a1_0,.int .i64 a1_1] 115 (0,0)) (bd_ BK709.out) hb);have n3_:=A0_ (below_step yt_ hb);clear BK707;clear BK708;clear BK709;clear HB;have BK707:=n0_;have BK708:=n1_;have BK709:=n2_;have HB:=n3_;clear n0_ n1_ n2_ n3_;(try clear hb);(try clear hb2);(try clear hk);(try clear hi)
  refine hK.out _ _ ⟨(blk_cell BK708.out 0).trans rfl,(blk_cell BK708.out 1).trans rfl,(blk_cell BK708.out 2).trans rfl,(blk_cell BK708.out 3).trans rfl,(blk_cell BK708.out 4).trans rfl,(blk_cell BK709.out 0).trans rfl,(blk_cell BK709.out 1).trans rfl,(blk_cell BK707.out 0).trans rfl,(blk_cell BK707.out 1).trans rfl,(blk_cell BK707.out 2).trans rfl,(blk_cell BK707.out 3).trans rfl,(blk_cell BK707.out 4).trans rfl⟩ (fun hHeld=>?_)
  clear hK K
  refine norm_ (a':=?_) ?_ ?_
  rotate_left
  ·show Act.put _ (some 31) _=_
   simp only [Act.put,List.setIfInBounds_toArray,List.set_cons_zero,List.set_cons_succ,i64_w,i32_w]
   rfl
  refine pu_ (i:=12) (N:=some 7) ?_;refine pu_ (i:=13) (N:=some 8) ?_
  refine done_ (done_of HT_.out (by kernel_rfl)) ?_
  try go_wp2_with (first|(go_at_call 127;(with_reducible refine (sky_passes.calls t710 t711 false _ A5.out).mono ?_);rintro e w' ⟨rfl,⟨nd,rfl⟩⟩)|(go_at_call 127;(with_reducible refine (sky_passes.calls (wrap64 (-t710)) (wrap64 (-t711)) t713 _ A20.out).mono ?_);rintro e w' ⟨rfl,⟨nd,rfl⟩⟩))
  go_ret
  exact ⟨y2_,yt_⟩
end Go.Proofs.YtjahbgldccjbfaaGreatDoor.PSky
end
section
namespace Go.Proofs
open Go.Shelf
def Tryz.lays156_ren:Go.Shelf.Ren:=⟨fun|156=>124|165=>143|166=>144|169=>145|240=>153|241=>154|276=>161|277=>162|n=>n,fun|31=>103|9=>9|3=>3|4=>4|0=>0|20=>20|72=>170|76=>174|70=>168|37=>164|75=>173|127=>183|164=>188|5=>5|80=>176|n=>n,fun|n=>n⟩
theorem Tryz.lays156:Go.Proofs.Lays.n156 Tryz.prog Tryz.lays156_ren:={
 mixed:=by kernel_rfl
 f156:=Tryz.func124.trans (congrArg some (by kernel_rfl))
 f165:=Tryz.func143.trans (congrArg some (by kernel_rfl))
 f166:=Tryz.func144.trans (congrArg some (by kernel_rfl))
 f169:=Tryz.func145.trans (congrArg some (by kernel_rfl))
 f240:=Tryz.func153.trans (congrArg some (by kernel_rfl))
 f241:=Tryz.func154.trans (congrArg some (by kernel_rfl))
 f276:=Tryz.func161.trans (congrArg some (by kernel_rfl))
 f277:=Tryz.func162.trans (congrArg some (by kernel_rfl))
 t0:=Tryz.underlying0
 a0:=Tryz.isAgg0
 z0:=Tryz.sizeOf0
 v0:=Tryz.zeroValue0
 t3:=Tryz.underlying3
 a3:=Tryz.isAgg3
 z3:=Tryz.sizeOf3
 v3:=Tryz.zeroValue3
 t4:=Tryz.underlying4
 a4:=Tryz.isAgg4
 z4:=Tryz.sizeOf4
 v4:=Tryz.zeroValue4
 t9:=Tryz.underlying9
 a9:=Tryz.isAgg9
 z9:=Tryz.sizeOf9
 v9:=Tryz.zeroValue9
 t20:=Tryz.underlying20
 a20:=Tryz.isAgg20
 z20:=Tryz.sizeOf20
 v20:=Tryz.zeroValue20
 t31:=Tryz.underlying103
 a31:=Tryz.isAgg103
 z31:=Tryz.sizeOf103
 v31:=Tryz.zeroValue103
 t37:=Tryz.underlying164
 a37:=Tryz.isAgg164
 z37:=Tryz.sizeOf164
 v37:=Tryz.zeroValue164
 t70:=Tryz.underlying168
 a70:=Tryz.isAgg168
 z70:=Tryz.sizeOf168
 v70:=Tryz.zeroValue168
 t72:=Tryz.underlying170
 a72:=Tryz.isAgg170
 z72:=Tryz.sizeOf170
 v72:=Tryz.zeroValue170
 t75:=Tryz.underlying173
 a75:=Tryz.isAgg173
 z75:=Tryz.sizeOf173
 v75:=Tryz.zeroValue173
 t76:=Tryz.underlying174
 a76:=Tryz.isAgg174
 z76:=Tryz.sizeOf174
 v76:=Tryz.zeroValue174
 t127:=Tryz.underlying183
 a127:=Tryz.isAgg183
 z127:=Tryz.sizeOf183
 v127:=Tryz.zeroValue183
 t164:=Tryz.underlying188
 a164:=Tryz.isAgg188
 z164:=Tryz.sizeOf188
 v164:=Tryz.zeroValue188 }
theorem Tryz.Builder_Extra_156:Builder.Extra Tryz.prog Tryz.lays156_ren:={
 sizeBuilder:=by kernel_rfl
 liesBuilder:=by kernel_rfl
 t5:=Tryz.underlying5
 a5:=Tryz.isAgg5
 z5:=Tryz.sizeOf5
 v5:=Tryz.zeroValue5
 infoByte:=by kernel_rfl
 cellsByte:=by kernel_rfl
 sizeByte:=by kernel_rfl
 neB5:=by decide }
open Go.RowKit in
theorem Tryz.strings_Join_none (a:Option Addr) (c:Nat) (sep:ByteArray) (w:World):
  Calls Tryz.prog 124 #[.slice a 0 c,.string sep] w fun e w'=>e=.returned (.string ⟨#[]⟩)∧w'=w:=Any.strings_Join_none Tryz.lays156 Tryz.Builder_Extra_156 a c sep w
open Go.RowKit in
theorem Tryz.strings_Join (bk o c:Nat) (xs:List ByteArray) (sep:ByteArray) (w:World) (hcells:∀ (j:Nat) x,xs[j]?=some x→w.cell? ⟨bk,o+j,none⟩=some (.string x)) (hbk:bk<w.heap.size) (hN:xs.length≤140737488355328) (hcap:xs.length≤c) (hlen:(Lib.join (xs.map (·.data.toList)) sep.data.toList).length≤140737488355328):
  Calls Tryz.prog 124 #[.slice (some ⟨bk,o,none⟩) xs.length c,.string sep] w fun e w'=>e=.returned (.string ⟨(Lib.join (xs.map (·.data.toList)) sep.data.toList).toArray⟩)∧Below w.heap.size w w':=Any.strings_Join Tryz.lays156 Tryz.Builder_Extra_156 bk o c xs sep w hcells hbk hN hcap hlen
def Tryz.laysM171_ren:Go.Shelf.Ren:=⟨fun|171=>125|243=>146|246=>155|283=>163|284=>164|285=>165|286=>166|129=>174|317=>173|318=>175|319=>176|320=>177|337=>180|338=>181|n=>n,fun|3=>3|9=>9|2=>2|4=>4|171=>191|0=>0|53=>192|37=>164|5=>5|173=>195|212=>200|51=>201|20=>20|213=>202|46=>197|232=>211|233=>212|n=>n,fun|17=>1|18=>4|19=>5|n=>n⟩
theorem Tryz.laysM171:Go.Proofs.LaysM.n171 Tryz.prog Tryz.laysM171_ren:={
 mixed:=by kernel_rfl
 f129:=Tryz.func174.trans (congrArg some (by kernel_rfl))
 f171:=Tryz.func125.trans (congrArg some (by kernel_rfl))
 f243:=Tryz.func146.trans (congrArg some (by kernel_rfl))
 f246:=Tryz.func155.trans (congrArg some (by kernel_rfl))
 f283:=Tryz.func163.trans (congrArg some (by kernel_rfl))
 f284:=Tryz.func164.trans (congrArg some (by kernel_rfl))
 f285:=Tryz.func165.trans (congrArg some (by kernel_rfl))
 f286:=Tryz.func166.trans (congrArg some (by kernel_rfl))
 f317:=Tryz.func173.trans (congrArg some (by kernel_rfl))
 f318:=Tryz.func175.trans (congrArg some (by kernel_rfl))
 f319:=Tryz.func176.trans (congrArg some (by kernel_rfl))
 f320:=Tryz.func177.trans (congrArg some (by kernel_rfl))
 f337:=Tryz.func180.trans (congrArg some (by kernel_rfl))
 f338:=Tryz.func181.trans (congrArg some (by kernel_rfl))
 t0:=Tryz.underlying0
 a0:=Tryz.isAgg0
 z0:=Tryz.sizeOf0
 v0:=Tryz.zeroValue0
 t2:=Tryz.underlying2
 a2:=Tryz.isAgg2
 z2:=Tryz.sizeOf2
 v2:=Tryz.zeroValue2
 t3:=Tryz.underlying3
 a3:=Tryz.isAgg3
 z3:=Tryz.sizeOf3
 v3:=Tryz.zeroValue3
 t4:=Tryz.underlying4
 a4:=Tryz.isAgg4
 z4:=Tryz.sizeOf4
 v4:=Tryz.zeroValue4
 t5:=Tryz.underlying5
 a5:=Tryz.isAgg5
 z5:=Tryz.sizeOf5
 v5:=Tryz.zeroValue5
 t9:=Tryz.underlying9
 a9:=Tryz.isAgg9
 z9:=Tryz.sizeOf9
 v9:=Tryz.zeroValue9
 t20:=Tryz.underlying20
 a20:=Tryz.isAgg20
 z20:=Tryz.sizeOf20
 v20:=Tryz.zeroValue20
 t37:=Tryz.underlying164
 a37:=Tryz.isAgg164
 z37:=Tryz.sizeOf164
 v37:=Tryz.zeroValue164
 t46:=Tryz.underlying197
 a46:=Tryz.isAgg197
 z46:=Tryz.sizeOf197
 v46:=Tryz.zeroValue197
 t51:=Tryz.underlying201
 a51:=Tryz.isAgg201
 z51:=Tryz.sizeOf201
 v51:=Tryz.zeroValue201
 t53:=Tryz.underlying192
 a53:=Tryz.isAgg192
 z53:=Tryz.sizeOf192
 v53:=Tryz.zeroValue192
 t171:=Tryz.underlying191
 a171:=Tryz.isAgg191
 z171:=Tryz.sizeOf191
 v171:=Tryz.zeroValue191
 t173:=Tryz.underlying195
 a173:=Tryz.isAgg195
 z173:=Tryz.sizeOf195
 v173:=Tryz.zeroValue195
 t212:=Tryz.underlying200
 a212:=Tryz.isAgg200
 z212:=Tryz.sizeOf200
 v212:=Tryz.zeroValue200
 t213:=Tryz.underlying202
 a213:=Tryz.isAgg202
 z213:=Tryz.sizeOf202
 t232:=Tryz.underlying211
 a232:=Tryz.isAgg211
 z232:=Tryz.sizeOf211
 v232:=Tryz.zeroValue211
 t233:=Tryz.underlying212
 a233:=Tryz.isAgg212
 z233:=Tryz.sizeOf212
 v233:=Tryz.zeroValue212
 g17:=by kernel_rfl
 g18:=by kernel_rfl
 g19:=by kernel_rfl
 i0:=by kernel_rfl
 i2:=by kernel_rfl
 i3:=by kernel_rfl
 i4:=by kernel_rfl
 i5:=by kernel_rfl
 i9:=by kernel_rfl
 i20:=by kernel_rfl
 i37:=by kernel_rfl
 i46:=by kernel_rfl
 i51:=by kernel_rfl
 i53:=by kernel_rfl
 i171:=by kernel_rfl
 i173:=by kernel_rfl
 i212:=by kernel_rfl
 i232:=by kernel_rfl
 i233:=by kernel_rfl
 m17:=by kernel_rfl
 m18:=by kernel_rfl
 m19:=by kernel_rfl }
open Go.RowKit Go.Sort Go.Lib in
theorem Tryz.strconv_Itoa (n:Int) (h0:-9223372036854775808≤n) (h1:n≤9223372036854775807) (w:World) (htab:Lib.TabIs Tryz.prog w "internal/strconv.uint64pow10" .u64 Lib.pow10Tab):
  Calls Tryz.prog 125 #[.int .i64 n] w fun e w'=>e=.returned (.string ⟨(Lib.itoa n).toArray⟩)∧∃ k os,w'=grow (w.drewN k) os:=Any.strconv_Itoa Tryz.laysM171 n h0 h1 w htab
def Tryz.laysM219_ren:Go.Shelf.Ren:=⟨fun|219=>159|217=>168|225=>169|224=>170|267=>171|266=>178|314=>179|n=>n,fun|9=>9|3=>3|4=>4|5=>5|46=>197|146=>208|51=>201|n=>n,fun|1=>0|n=>n⟩
theorem Tryz.laysM219:Go.Proofs.LaysM.n219 Tryz.prog Tryz.laysM219_ren:={
 mixed:=by kernel_rfl
 f217:=Tryz.func168.trans (congrArg some (by kernel_rfl))
 f219:=Tryz.func159.trans (congrArg some (by kernel_rfl))
 f224:=Tryz.func170.trans (congrArg some (by kernel_rfl))
 f225:=Tryz.func169.trans (congrArg some (by kernel_rfl))
 f266:=Tryz.func178.trans (congrArg some (by kernel_rfl))
 f267:=Tryz.func171.trans (congrArg some (by kernel_rfl))
 f314:=Tryz.func179.trans (congrArg some (by kernel_rfl))
 t3:=Tryz.underlying3
 a3:=Tryz.isAgg3
 z3:=Tryz.sizeOf3
 v3:=Tryz.zeroValue3
 t4:=Tryz.underlying4
 a4:=Tryz.isAgg4
 z4:=Tryz.sizeOf4
 v4:=Tryz.zeroValue4
 t5:=Tryz.underlying5
 a5:=Tryz.isAgg5
 z5:=Tryz.sizeOf5
 v5:=Tryz.zeroValue5
 t9:=Tryz.underlying9
 a9:=Tryz.isAgg9
 z9:=Tryz.sizeOf9
 v9:=Tryz.zeroValue9
 t46:=Tryz.underlying197
 a46:=Tryz.isAgg197
 z46:=Tryz.sizeOf197
 v46:=Tryz.zeroValue197
 t51:=Tryz.underlying201
 a51:=Tryz.isAgg201
 z51:=Tryz.sizeOf201
 v51:=Tryz.zeroValue201
 t146:=Tryz.underlying208
 a146:=Tryz.isAgg208
 z146:=Tryz.sizeOf208
 v146:=Tryz.zeroValue208
 g1:=by kernel_rfl
 i3:=by kernel_rfl
 i4:=by kernel_rfl
 i5:=by kernel_rfl
 i9:=by kernel_rfl
 i46:=by kernel_rfl
 i51:=by kernel_rfl
 i146:=by kernel_rfl
 m1:=by kernel_rfl
 s1_3:=fun w h=>Go.Proofs.cell_of_shapedOpen_int (zero:=#[.int .i64 0]) (t:=3) h (of_decide_eq_true (by kernel_rfl)) (by kernel_rfl) rfl (by kernel_rfl) (by kernel_rfl) Tryz.underlying3 }
def Tryz.lays101_ren:Go.Shelf.Ren:=⟨fun|101=>152|208=>160|206=>172|n=>n,fun|9=>9|4=>4|3=>3|n=>n,fun|n=>n⟩
theorem Tryz.lays101:Go.Proofs.Lays.n101 Tryz.prog Tryz.lays101_ren:={
 mixed:=by kernel_rfl
 f101:=Tryz.func152.trans (congrArg some (by kernel_rfl))
 f206:=Tryz.func172.trans (congrArg some (by kernel_rfl))
 f208:=Tryz.func160.trans (congrArg some (by kernel_rfl))
 t3:=Tryz.underlying3
 a3:=Tryz.isAgg3
 z3:=Tryz.sizeOf3
 v3:=Tryz.zeroValue3
 t4:=Tryz.underlying4
 a4:=Tryz.isAgg4
 z4:=Tryz.sizeOf4
 v4:=Tryz.zeroValue4
 t9:=Tryz.underlying9
 a9:=Tryz.isAgg9
 z9:=Tryz.sizeOf9
 v9:=Tryz.zeroValue9 }
open Go.RowKit Go.Lib in
theorem Tryz.strings_TrimPrefix (s p:ByteArray) (w:World):
  Calls Tryz.prog 152 #[.string s,.string p] w fun e w'=>e=.returned (.string ⟨(Lib.trimPrefix s.data.toList p.data.toList).toArray⟩)∧w'=w:=Any.strings_TrimPrefix Tryz.lays101 s p w
def Tryz.lays146_ren:Go.Shelf.Ren:=⟨fun|146=>114|221=>140|268=>149|138=>150|143=>151|195=>156|197=>157|218=>158|219=>159|260=>167|217=>168|225=>169|224=>170|267=>171|266=>178|314=>179|n=>n,fun|9=>9|31=>103|3=>3|4=>4|0=>0|105=>185|21=>21|5=>5|46=>197|119=>204|139=>207|138=>206|146=>208|51=>201|n=>n,fun|1=>0|3=>2|4=>3|n=>n⟩
theorem Tryz.lays146:Go.Proofs.Lays.n146 Tryz.prog Tryz.lays146_ren:={
 mixed:=by kernel_rfl
 f138:=Tryz.func150.trans (congrArg some (by kernel_rfl))
 f143:=Tryz.func151.trans (congrArg some (by kernel_rfl))
 f146:=Tryz.func114.trans (congrArg some (by kernel_rfl))
 f195:=Tryz.func156.trans (congrArg some (by kernel_rfl))
 f197:=Tryz.func157.trans (congrArg some (by kernel_rfl))
 f217:=Tryz.func168.trans (congrArg some (by kernel_rfl))
 f218:=Tryz.func158.trans (congrArg some (by kernel_rfl))
 f219:=Tryz.func159.trans (congrArg some (by kernel_rfl))
 f221:=Tryz.func140.trans (congrArg some (by kernel_rfl))
 f224:=Tryz.func170.trans (congrArg some (by kernel_rfl))
 f225:=Tryz.func169.trans (congrArg some (by kernel_rfl))
 f260:=Tryz.func167.trans (congrArg some (by kernel_rfl))
 f266:=Tryz.func178.trans (congrArg some (by kernel_rfl))
 f267:=Tryz.func171.trans (congrArg some (by kernel_rfl))
 f268:=Tryz.func149.trans (congrArg some (by kernel_rfl))
 f314:=Tryz.func179.trans (congrArg some (by kernel_rfl))
 t0:=Tryz.underlying0
 a0:=Tryz.isAgg0
 z0:=Tryz.sizeOf0
 v0:=Tryz.zeroValue0
 t3:=Tryz.underlying3
 a3:=Tryz.isAgg3
 z3:=Tryz.sizeOf3
 v3:=Tryz.zeroValue3
 t4:=Tryz.underlying4
 a4:=Tryz.isAgg4
 z4:=Tryz.sizeOf4
 v4:=Tryz.zeroValue4
 t5:=Tryz.underlying5
 a5:=Tryz.isAgg5
 z5:=Tryz.sizeOf5
 v5:=Tryz.zeroValue5
 t9:=Tryz.underlying9
 a9:=Tryz.isAgg9
 z9:=Tryz.sizeOf9
 v9:=Tryz.zeroValue9
 t21:=Tryz.underlying21
 a21:=Tryz.isAgg21
 z21:=Tryz.sizeOf21
 v21:=Tryz.zeroValue21
 t31:=Tryz.underlying103
 a31:=Tryz.isAgg103
 z31:=Tryz.sizeOf103
 v31:=Tryz.zeroValue103
 t46:=Tryz.underlying197
 a46:=Tryz.isAgg197
 z46:=Tryz.sizeOf197
 v46:=Tryz.zeroValue197
 t51:=Tryz.underlying201
 a51:=Tryz.isAgg201
 z51:=Tryz.sizeOf201
 v51:=Tryz.zeroValue201
 t105:=Tryz.underlying185
 a105:=Tryz.isAgg185
 z105:=Tryz.sizeOf185
 v105:=Tryz.zeroValue185
 t119:=Tryz.underlying204
 a119:=Tryz.isAgg204
 z119:=Tryz.sizeOf204
 t138:=Tryz.underlying206
 a138:=Tryz.isAgg206
 z138:=Tryz.sizeOf206
 v138:=Tryz.zeroValue206
 t139:=Tryz.underlying207
 a139:=Tryz.isAgg207
 z139:=Tryz.sizeOf207
 v139:=Tryz.zeroValue207
 t146:=Tryz.underlying208
 a146:=Tryz.isAgg208
 z146:=Tryz.sizeOf208
 v146:=Tryz.zeroValue208
 g1:=by kernel_rfl
 g3:=by kernel_rfl
 g4:=by kernel_rfl }
open Go.RowKit Go.Lib in
theorem Tryz.strings_Split (s sep:ByteArray) (m:Int) (w:World) (hs:s.size<4294967281) (hm:w.cell? ⟨0,0,none⟩=some (.int .i64 m)) (h1:1≤sep.size):
  Calls Tryz.prog 114 #[.string s,.string sep] w fun e w'=>
   e=.returned (.slice (some ⟨w.heap.size,0,none⟩) (Lib.countB s sep+1) (Lib.countB s sep+1))∧w'=w.alloc (.cells ((Lib.splitB sep 0 (Lib.countB s sep) s).map Value.string).toArray 9):=Any.strings_Split Tryz.lays146 (by kernel_rfl) s sep m w hs hm h1
end Go.Proofs
end
section
namespace Go.Proofs.YtjahbgldccjbfaaGreatDoor.PSky
open Go.RowKit
def LD (w:World):Prop:=Lib.TabIs Tryz.prog w "internal/strconv.uint64pow10" .u64 Lib.pow10Tab∧∃ m:Int,w.cell? ⟨0,0,none⟩=some (.int .i64 m)
theorem pow10_named:∃ g,(Tryz.prog).globalNamed "internal/strconv.uint64pow10" = some g:=Option.isSome_iff_exists.mp (by kernel_rfl)
theorem tab_below {P:Program} {n:String} {g:Nat} {k:IntKind} {zs:List Int} {w w':World} (hg:P.globalNamed n=some g) (h:Lib.TabIs P w n k zs) (hb:Below w.heap.size w w'):Lib.TabIs P w' n k zs:=by
 unfold Lib.TabIs World.var? at h ⊢
 rw [hg] at h ⊢
 simp only [Option.bind_some] at h ⊢
 have hlt:g<w.heap.size:=by
  rcases Nat.lt_or_ge g w.heap.size with h'|h'
  ·exact h'
  ·rw [Array.getElem?_eq_none h'] at h;cases h
 rw [hb.block g hlt]
 exact h
theorem LD.below {w w':World} (h:LD w) (hb:Below w.heap.size w w'):LD w':=by
 obtain ⟨g,hg⟩:=pow10_named
 obtain ⟨m,hm⟩:=h.2
 exact ⟨tab_below hg h.1 hb,m,(hb.cell (World.block_lt_of_cell? w _ hm)).trans hm⟩
end Go.Proofs.YtjahbgldccjbfaaGreatDoor.PSky
end
section
namespace Go.Proofs.YtjahbgldccjbfaaGreatDoor.PSky
open Go.RowKit Go.Shelf Go.Sort Go.Proofs.YtjahbgldccjbfaaGreatDoorW.PrintWords Go.Proofs.YtjahbgldccjbfaaGreatDoorW.PrintLast Go.Proofs.YtjahbgldccjbfaaGreatDoorW.PrintMore
theorem below_grow_l (w:World) (q:Nat) (os:Array Obj):Below w.heap.size w (grow (w.drewN q) os):=
 ⟨rfl,rfl,rfl,by simp [grow],fun i hi=>by
  show ((w.drewN q).heap ++ os)[i]?=_
  rw [Array.getElem?_append_left (by show i<w.heap.size;omega)]
  rfl⟩
def strconv_Itoa.f (n:Int):Option ByteArray:=if -9223372036854775808≤n∧n≤9223372036854775807 then some ⟨(Lib.itoa n).toArray⟩ else none
theorem strconv_Itoa.calls (n:Int) (r:ByteArray) (w:World) (h:strconv_Itoa.f n=some r) (hLD:LD w):
  Calls Tryz.prog 125 #[.int .i64 n] w fun e w'=>e=.returned (.string r)∧Below w.heap.size w w':=by
 unfold strconv_Itoa.f at h
 split at h
 ·rename_i hn
  obtain rfl:=Option.some.inj h
  refine (Tryz.strconv_Itoa n hn.1 hn.2 w hLD.1).mono ?_
  rintro e w' ⟨rfl,k,os,rfl⟩
  exact ⟨rfl,below_grow_l _ _ _⟩
 ·cases h
def strings_Join.f (xs:List ByteArray) (sep:ByteArray):Option ByteArray:=
 if xs.length≤140737488355328∧(Lib.join (xs.map (·.data.toList)) sep.data.toList).length≤140737488355328 then some ⟨(Lib.join (xs.map (·.data.toList)) sep.data.toList).toArray⟩ else none
theorem strings_Join.calls (A0:Option Addr) (c0:Nat) (xs:List ByteArray) (sep r:ByteArray) (w:World) (hr0:Kd.C Kd.string w A0 xs.length xs) (hc0:xs.length≤c0) (h:strings_Join.f xs sep=some r):
  Calls Tryz.prog 124 #[.slice A0 xs.length c0,.string sep] w fun e w'=>e=.returned (.string r)∧Below w.heap.size w w':=by
 unfold strings_Join.f at h
 split at h
 ·rename_i hn
  obtain rfl:=Option.some.inj h
  cases xs with
  |nil=>
   refine (Tryz.strings_Join_none A0 c0 sep w).mono ?_
   rintro e w' ⟨rfl,rfl⟩
   exact ⟨rfl,Below.refl _ _⟩
  |cons x t=>
   obtain ⟨ad,rfl,hx0⟩:=Kd.at_string hr0 0 (by omega) (by simp)
   obtain ⟨b,o,sp⟩:=ad
   rw [show ((0:Int)).toNat=0 from rfl,Addr.add_zero'] at hx0
   obtain ⟨-,-,-,-,hsp⟩:=World.shape?_of_cell? hx0
   simp only at hsp
   subst hsp
   have hb:=World.block_lt_of_cell? w _ hx0
   refine (Tryz.strings_Join b o c0 (x :: t) sep w ?_ hb hn.1 hc0 hn.2).mono ?_
   ·intro j y hj
    have hlt:j<(x :: t).length:=(List.getElem?_eq_some_iff.mp hj).1
    obtain ⟨ad',e',hx⟩:=Kd.at_string hr0 (j:Int) (by omega) (by omega)
    cases e'
    rw [Int.toNat_natCast] at hx
    have hy:rdOf ByteArray.empty (x :: t) (j:Int)=y:=by
     unfold rdOf
     rw [Int.toNat_natCast,List.getD_eq_getElem?_getD,hj]
     rfl
    rw [hy] at hx
    have ha:Addr.add ⟨b,o,none⟩ j=⟨b,o+j,none⟩:=by
     unfold Addr.add
     split
     ·rename_i h0;subst h0;rfl
     ·rfl
    rw [ha] at hx
    exact hx
   ·rintro e w' ⟨rfl,hb'⟩
    exact ⟨rfl,hb'⟩
 ·cases h
end Go.Proofs.YtjahbgldccjbfaaGreatDoor.PSky
end
section
namespace Go.Proofs.YtjahbgldccjbfaaGreatDoor.PSky
open Go.RowKit Go.Shelf Go.Proofs.YtjahbgldccjbfaaGreatDoorW.PrintWords Go.Proofs.YtjahbgldccjbfaaGreatDoorW.PrintLast Go.Proofs.YtjahbgldccjbfaaGreatDoorW.PrintMore
attribute [local go_sem] Oper.semAt_some
abbrev DayIn (lo hi:Int):Type:={ x:Int // lo≤x∧x≤hi }
def upDays (lo hi:Int):(n:Nat)→lo+n≤hi+1→List (DayIn lo hi)
 |0,_=>[]
 |n+1,h=>upDays lo hi n (by omega) ++ [⟨lo+n,by omega⟩]
theorem upDays_length {lo hi:Int}:∀ {n:Nat} (h:lo+n≤hi+1),(upDays lo hi n h).length=n
 |0,_=>rfl
 |n+1,h=>by rw [upDays,List.length_append,upDays_length];rfl
set_option maxRecDepth 100000 in
theorem days_calls (A0:Option Addr) (c0 len:Nat) (i1 i2 i3 lo hi:Int) (w:World):
  Calls Tryz.prog 70 #[.agg #[.slice A0 len c0,.int .i64 i1,.int .i64 i2,.int .i64 i3],.int .i64 lo,.int .i64 hi] w fun e w'=>
   e=.returned (.func (.func 126) #[] #[.pointer (some ⟨w.heap.size+1,0,none⟩),.pointer (some ⟨w.heap.size+2,0,none⟩),.pointer (some ⟨w.heap.size,0,none⟩)]) ∧
   w'=((w.alloc (.cells #[.slice A0 len c0,.int .i64 i1,.int .i64 i2,.int .i64 i3] 29)).alloc (.cells #[.int .i64 lo] 3)).alloc (.cells #[.int .i64 hi] 3):=by
 have hmf:∀ (fn:Fn) (first cap:Array Value) (w:World),(Instr.makeFunc fn first cap).run Tryz.prog w=.ok (.func fn first cap) w:=fun _ _ _ _=>rfl
 go_enter Tryz.func70,Tryz.ntmps70
 go_wp2;go_ret
 exact ⟨rfl,rfl⟩
def KpD (B:Nat) (W W':World):Prop:=∀ i,B≤i→i<B+3→W'.heap[i]?=W.heap[i]?
theorem KpD_t {B:Nat} {X Y Z:World} (h:KpD B X Y) (k:KpD B Y Z):KpD B X Z:=fun i h1 h2=>(k i h1 h2).trans (h i h1 h2)
theorem KpD_b {B:Nat} {w:World} (hB:B+3≤w.heap.size) (W:World) (l:Nat) (o o':Obj) (hl:w.heap.size≤l) (_:W.heap[l]?=some o) (_:o.isCells=false) (_:o.isWalk=false):KpD B W (W.putObj l o'):=
 fun i _ h2=>World.putObj_heap_other (by omega)
theorem KpD.refl (B:Nat) (W:World):KpD B W W:=fun _ _ _=>rfl
set_option maxRecDepth 100000 in
set_option maxHeartbeats 2000000 in
theorem days_c1_in (n:Nat) (hn:1≤n) (l B:Nat) (A0:Option Addr) (c0 len:Nat) (i1 i2 i3 lo hi:Int) (hlo:0≤lo) (hle:lo≤hi+1) (hhi:hi≤20000) (J Jx:List (DayIn lo hi)→World→Prop)
  (hY:∀ (pre:List (DayIn lo hi)) (x:DayIn lo hi) (W:World),J pre W→pre.length<(hi+1 - lo).toNat→YieldAt Fence.wide (n - 1) Tryz.prog l #[.agg #[.slice A0 len c0,.int .i64 i1,.int .i64 i2,.int .i64 i3,.int .i64 x.1]] W fun e W'=>
   (e=.returned (.bool true)∧J (pre ++ [x]) W'∧KpD B W W')∨(e=.returned (.bool false)∧Jx (pre ++ [x]) W'))
  (W:World) (hS:W.heap[B]?=some (.cells #[.slice A0 len c0,.int .i64 i1,.int .i64 i2,.int .i64 i3] 29 (0,0))) (hL:W.heap[B+1]?=some (.cells #[.int .i64 lo] 3 (0,0))) (hH:W.heap[B+2]?=some (.cells #[.int .i64 hi] 3 (0,0))) (h0:J [] W):
  CallsIn Fence.wide n Tryz.prog 126 #[.func (.yield l) #[] #[],.pointer (some ⟨B+1,0,none⟩),.pointer (some ⟨B+2,0,none⟩),.pointer (some ⟨B,0,none⟩)] W fun e W'=>(∃ v,e=.returned v) ∧
   ((∃ ys,(∃ k h,hi<lo+(k:Nat)∧ys=upDays lo hi k h)∧J ys W')∨(∃ pre,(∃ k h,pre=upDays lo hi k h)∧Jx pre W')):=by
 refine callsIn_of_wp Tryz.func126 rfl trivial ?_ rfl
 simp only [Tryz.ntmps126,List.size_toArray,List.length_cons,List.length_nil,Nat.reduceAdd,Nat.reduceSub,Array.replicate_succ,Array.replicate_zero,List.push_toArray,List.append_toArray,List.nil_append,List.cons_append]
 have l0:=blk_cell hL 0
 simp at l0
 clear hL
 gi_wp2
 gi_loopw [5] (fun d wr=>∃ (k:Nat) (h:lo+k≤hi+1),d=.int .i64 (lo+k)∧J (upDays lo hi k h) wr∧wr.heap[B]?=some (.cells #[.slice A0 len c0,.int .i64 i1,.int .i64 i2,.int .i64 i3] 29 (0,0))∧wr.heap[B+2]?=some (.cells #[.int .i64 hi] 3 (0,0)))
  (fun d _=>(hi+1 - intOf d).toNat)
 case atStart=>exact ⟨0,by omega,by simp,h0,hS,hH⟩
 case round=>
  obtain ⟨k,hk,rfl,hJs,hSr,hHr⟩:=hrel
  have r0:=blk_cell hSr 0
  have r1:=blk_cell hSr 1
  have r2:=blk_cell hSr 2
  have r3:=blk_cell hSr 3
  have t0:=blk_cell hHr 0
  simp at r0 r1 r2 r3 t0
  have HS:=A0_ hSr;have HH:=A0_ hHr;clear hSr hHr
  by_cases hlt:lo+k≤hi
  ·obtain ⟨fn,tmps,assign,body,hy,hR⟩:=hY _ ⟨lo+k,by omega⟩ wr hJs (by rw [upDays_length];omega)
   dsimp only at hy
   gi_wp2
   refine hR.mono ?_
   rintro e W3 (⟨rfl,hJ3,hk3⟩|⟨rfl,hJx3⟩)
   ·gi_wp2
    go_roundw
    case rel=>exact ⟨k+1,by omega,by go_num,hJ3,(hk3 B (by omega) (by omega)).trans HS.out,(hk3 (B+2) (by omega) (by omega)).trans HH.out⟩
    case measure=>simp [intOf];omega
   ·gi_wp2
    refine bodyPost_ret (results_none rfl _ _ _) rfl ?_
    exact ⟨⟨_,rfl⟩,.inr ⟨_,⟨k+1,by omega,rfl⟩,hJx3⟩⟩
  ·gi_wp2
   go_end0
   exact ⟨⟨_,rfl⟩,.inl ⟨_,⟨k,by omega,hk,rfl⟩,hJs⟩⟩
def AllDays (lo hi:Int) (ys:List (DayIn lo hi)):Prop:=∃ (k:Nat) (h:lo+k≤hi+1),hi<lo+(k:Nat)∧ys=upDays lo hi k h
def SomeDays (lo hi:Int) (ys:List (DayIn lo hi)):Prop:=∃ (k:Nat) (h:lo+k≤hi+1),ys=upDays lo hi k h
def encDay (A0:Option Addr) (len c0:Nat) (i1 i2 i3 lo hi:Int) (x:DayIn lo hi):Array Value:=#[.agg #[.slice A0 len c0,.int .i64 i1,.int .i64 i2,.int .i64 i3,.int .i64 x.1]]
theorem days_stops (n:Nat) (hn:1≤n) (B:Nat) (A0:Option Addr) (c0 len:Nat) (i1 i2 i3 lo hi:Int) (hlo:0≤lo) (hle:lo≤hi+1) (hhi:hi≤20000) (w:World)
  (hS:w.heap[B]?=some (.cells #[.slice A0 len c0,.int .i64 i1,.int .i64 i2,.int .i64 i3] 29 (0,0))) (hL:w.heap[B+1]?=some (.cells #[.int .i64 lo] 3 (0,0))) (hH:w.heap[B+2]?=some (.cells #[.int .i64 hi] 3 (0,0))):
  SeqStopsK Fence.wide n Tryz.prog 126 #[.pointer (some ⟨B+1,0,none⟩),.pointer (some ⟨B+2,0,none⟩),.pointer (some ⟨B,0,none⟩)] (encDay A0 len c0 i1 i2 i3 lo hi) (KpD B) (AllDays lo hi) (SomeDays lo hi) (hi+1 - lo).toNat w:=
 fun l J Jx W hW _ _ hY h0=>days_c1_in n hn l B A0 c0 len i1 i2 i3 lo hi hlo hle hhi J Jx hY W (blk_below hS hW) (blk_below hL hW) (blk_below hH hW) h0
end Go.Proofs.YtjahbgldccjbfaaGreatDoor.PSky
end
