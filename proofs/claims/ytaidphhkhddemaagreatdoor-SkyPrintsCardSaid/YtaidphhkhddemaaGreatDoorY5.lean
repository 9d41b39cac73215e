/- A part of the proof of a law of the layer sky. -/
import Derived.Deep.RegionLaw
import Derived.Defers
import Derived.Laws.Entries
import Derived.Laws.NewBlocks
import Derived.LoopN
import Derived.Outline
import Derived.Recover
import Derived.Test.YtaidphhkhddemaaGreatDoorY4
section
namespace Go.Proofs.YtaidphhkhddemaaGreatDoor.PSky
open Go.RowKit Go.Proofs.YtaidphhkhddemaaGreatDoorW.PrintWords Go.Proofs.YtaidphhkhddemaaGreatDoorW.PrintLast Go.Proofs.YtaidphhkhddemaaGreatDoorW.PrintMore
attribute [local go_sem] max2_int min2_int max_two min_two max_three min_three max_four min_four
set_option linter.unusedVariables false
set_option linter.unusedSimpArgs false
def sky_Moons.f (k:Nat) (l0_0:List (S83)) (a0_1:Int) (a0_2:Int) (a0_3:Int) (a1:Int) (a2:Int):Option ((List (S51)) × Int):=(sky_isSky.f k l0_0 a0_1 a0_2 a0_3).bind fun t127=>(if t127=true then ((sky_isSpan.f a1 a2).bind fun t128=>(if t128=true then ((sky_moons.f k l0_0 a0_1 a0_2 a0_3 a1 a2).bind fun t129=>(some (t129,0))) else (some (([]:List (S51)),2)))) else (some (([]:List (S51)),2)))
set_option maxHeartbeats 8000000 in
set_option maxRecDepth 100000 in
theorem sky_Moons.calls (k:Nat) (A0_0:Option Addr) (c0_0:Nat) (l0_0:List (S83)) (a0_1:Int) (a0_2:Int) (a0_3:Int) (a1:Int) (a2:Int) (r1:List (S51)) (r2:Int) (w:World) (hr0_0:Kd.C k83 w A0_0 l0_0.length l0_0) (hc0_0:l0_0.length≤c0_0) (h:sky_Moons.f k l0_0 a0_1 a0_2 a0_3 a1 a2=some (r1,r2)):
  Calls Tryz.prog 12 #[.agg #[.slice A0_0 l0_0.length c0_0,.int .i64 a0_1,.int .i64 a0_2,.int .i64 a0_3],.int .i64 a1,.int .i64 a2] w fun e w'=>∃ v0_:Value,e=.returned (.tuple #[v0_,.int .i64 r2])∧Kd.R k51 51 w' w.heap.size (fun _=>True) v0_ r1∧Below w.heap.size w w':=by
 have hu28:=Tryz.underlying28
 have HR0_0:=A0_ hr0_0;have HC0_0:=A0_ hc0_0;clear hr0_0 hc0_0
 have HB:=A0_ (Below.refl w.heap.size w)
 have H:((sky_isSky.f k l0_0 a0_1 a0_2 a0_3).bind fun t127=>(if t127=true then ((sky_isSpan.f a1 a2).bind fun t128=>(if t128=true then ((sky_moons.f k l0_0 a0_1 a0_2 a0_3 a1 a2).bind fun t129=>(some (t129,0))) else (some (([]:List (S51)),2)))) else (some (([]:List (S51)),2))))=some (r1,r2):=h
 clear h;replace H:=Option.bind_eq_some_iff.mp H;obtain ⟨t127,A40,H⟩:=H
 replace H:(if t127=true then ((sky_isSpan.f a1 a2).bind fun t128=>(if t128=true then ((sky_moons.f k l0_0 a0_1 a0_2 a0_3 a1 a2).bind fun t129=>(some (t129,0))) else (some (([]:List (S51)),2)))) else (some (([]:List (S51)),2)))=some (r1,r2):=H
 have A4:=A0_ A40;clear A40
 by_cases c5:t127=true
 ·subst c5
  have H1:((sky_isSpan.f a1 a2).bind fun t128=>(if t128=true then ((sky_moons.f k l0_0 a0_1 a0_2 a0_3 a1 a2).bind fun t129=>(some (t129,0))) else (some (([]:List (S51)),2))))=some (r1,r2):=by rw [if_pos rfl] at H;exact H
  clear H;have H:=H1;clear H1;replace H:=Option.bind_eq_some_iff.mp H;obtain ⟨t128,A60,H⟩:=H
  replace H:(if t128=true then ((sky_moons.f k l0_0 a0_1 a0_2 a0_3 a1 a2).bind fun t129=>(some (t129,0))) else (some (([]:List (S51)),2)))=some (r1,r2):=H
  have A6:=A0_ A60;clear A60
  by_cases c7:t128=true
  ·subst c7
   have H1:((sky_moons.f k l0_0 a0_1 a0_2 a0_3 a1 a2).bind fun t129=>(some (t129,0)))=some (r1,r2):=by rw [if_pos rfl] at H;exact H
   clear H;have H:=H1;clear H1;replace H:=Option.bind_eq_some_iff.mp H;obtain ⟨t129,A80,H⟩:=H
   replace H:(some (t129,0))=some (r1,r2):=H
   have A8:=A0_ A80;clear A80
   simp only [Option.some.injEq,Prod.mk.injEq] at H
   obtain ⟨rfl,rfl⟩:=H
   go_enter Tryz.func12,Tryz.ntmps12
   go_wp2_with (first|((with_reducible refine gate_dst (N:=3) rfl ?_);refine box_event ?hg (N:=3) ?hd (cs:=#[.slice A0_0 l0_0.length c0_0,.int .i64 a0_1,.int .i64 a0_2,.int .i64 a0_3]) (t:=28) ?hr ?_;(case hd=>rfl);(case hg=>rfl);(case hr=>first|(go_simp;done)|(go_simp;rfl));intro gb126 hg w9 hbox hb;have n0_:=A0_ (below_step y0_ hb);have n1_:=A0_ (hbox);have n2_:=A0_ ((by rw [hg];exact (below_size y0_):w.heap.size≤gb126));have n3_:=A0_ ((by rw [hg];exact (below_size y0_):w.heap.size≤gb126));clear HB;have HB:=n0_;have BK126:=n1_;have GW126:=n2_;have GE126:=n3_;clear n0_ n1_ n2_ n3_;clear hb hbox hg;obtain ⟨hcz10_0,hcz10_1,hcz10_2,hcz10_3,hfz10_0,hfz10_1,hfz10_2,hfz10_3⟩:=bq4_ BK126.out)|((with_reducible refine gate_callee (f:=52) rfl ?_);refine goesL_ (some 9) rfl rfl Tryz.func52 (by kernel_rfl) rfl #[.agg #[.slice A0_0 l0_0.length c0_0,.int .i64 a0_1,.int .i64 a0_2,.int .i64 a0_3]] rfl y1_ ?_;(with_reducible refine (sky_isSky.calls k _ _ l0_0 a0_1 a0_2 a0_3 true _ ?side1 ?side2 A4.out).mono ?_);(case side1=>repeat (first|exact (Kd.C_below HR0_0.out HB.out)|(with_reducible refine Kd.C_alloc ?_ _)|(with_reducible refine Kd.C_drewN ?_ _)|(with_reducible refine Kd.C_drew ?_)));(case side2=>exact HC0_0.out);rintro e w11 ⟨rfl,hb⟩;refine ⟨_,rfl,?_⟩;have n0_:=A0_ (blk_below (g:=gb126) (o:=.cells #[.slice A0_0 l0_0.length c0_0,.int .i64 a0_1,.int .i64 a0_2,.int .i64 a0_3] 28 (0,0)) (bd_ BK126.out) hb);have n1_:=A0_ (below_step y2h_ hb);clear BK126;clear HB;have BK126:=n0_;have HB:=n1_;clear n0_ n1_;(try clear hb);(try clear hb2);(try clear hk);(try clear hi))|(go_at_call 53;(with_reducible refine (sky_isSpan.calls a1 a2 true _ A6.out).mono ?_);rintro e w' ⟨rfl,⟨nd,rfl⟩⟩;obtain ⟨hcz12_0,hcz12_1,hcz12_2,hcz12_3,hfz12_0,hfz12_1,hfz12_2,hfz12_3⟩:=bq4_ BK126.out)|((with_reducible refine gate_callee (f:=54) rfl ?_);refine goesL_ (some 20) rfl rfl Tryz.func54 (by kernel_rfl) rfl #[.agg #[.slice A0_0 l0_0.length c0_0,.int .i64 a0_1,.int .i64 a0_2,.int .i64 a0_3],.int .i64 a1,.int .i64 a2] rfl y1_ ?_;(with_reducible refine (sky_moons.calls k _ _ l0_0 a0_1 a0_2 a0_3 a1 a2 t129 _ ?side1 ?side2 A8.out).mono ?_);(case side1=>repeat (first|exact (Kd.C_below HR0_0.out y2h_)|(with_reducible refine Kd.C_alloc ?_ _)|(with_reducible refine Kd.C_drewN ?_ _)|(with_reducible refine Kd.C_drew ?_)));(case side2=>exact HC0_0.out);rintro e w13 ⟨v130,rfl,ho0,hb⟩;refine ⟨_,rfl,?_⟩;have n0_:=A0_ (Kd.R_lower ho0 (below_size y2h_));have n1_:=A0_ (blk_below (g:=gb126) (o:=.cells #[.slice A0_0 l0_0.length c0_0,.int .i64 a0_1,.int .i64 a0_2,.int .i64 a0_3] 28 (0,0)) (bd_ BK126.out) hb);have n2_:=A0_ (below_step y2h_ hb);clear BK126;clear HB;have HO131:=n0_;have BK126:=n1_;have HB:=n2_;clear n0_ n1_ n2_;(try clear hb);(try clear hb2);(try clear hk);(try clear hi);(try clear ho0)))
   go_ret2
   exact ⟨_,y3_,by (with_reducible repeat (first|apply Kd.R_alloc|apply Kd.R_drewN|apply Kd.R_drew));exact HO131.out,y2h_⟩
  ·replace c7:=Bool.eq_false_iff.mpr c7;subst c7
   have H1:(some (([]:List (S51)),2))=some (r1,r2):=by rw [if_neg (show ¬ (false=true) by decide)] at H;exact H
   clear H;have H:=H1;clear H1
   simp only [Option.some.injEq,Prod.mk.injEq] at H
   obtain ⟨rfl,rfl⟩:=H
   go_enter Tryz.func12,Tryz.ntmps12
   go_wp2_with (first|((with_reducible refine gate_dst (N:=3) rfl ?_);refine box_event ?hg (N:=3) ?hd (cs:=#[.slice A0_0 l0_0.length c0_0,.int .i64 a0_1,.int .i64 a0_2,.int .i64 a0_3]) (t:=28) ?hr ?_;(case hd=>rfl);(case hg=>rfl);(case hr=>first|(go_simp;done)|(go_simp;rfl));intro gb126 hg w14 hbox hb;have n0_:=A0_ (below_step y0_ hb);have n1_:=A0_ (hbox);have n2_:=A0_ ((by rw [hg];exact (below_size y0_):w.heap.size≤gb126));have n3_:=A0_ ((by rw [hg];exact (below_size y0_):w.heap.size≤gb126));clear HB;have HB:=n0_;have BK126:=n1_;have GW126:=n2_;have GE126:=n3_;clear n0_ n1_ n2_ n3_;clear hb hbox hg;obtain ⟨hcz15_0,hcz15_1,hcz15_2,hcz15_3,hfz15_0,hfz15_1,hfz15_2,hfz15_3⟩:=bq4_ BK126.out)|((with_reducible refine gate_callee (f:=52) rfl ?_);refine goesL_ (some 9) rfl rfl Tryz.func52 (by kernel_rfl) rfl #[.agg #[.slice A0_0 l0_0.length c0_0,.int .i64 a0_1,.int .i64 a0_2,.int .i64 a0_3]] rfl y1_ ?_;(with_reducible refine (sky_isSky.calls k _ _ l0_0 a0_1 a0_2 a0_3 true _ ?side1 ?side2 A4.out).mono ?_);(case side1=>repeat (first|exact (Kd.C_below HR0_0.out HB.out)|(with_reducible refine Kd.C_alloc ?_ _)|(with_reducible refine Kd.C_drewN ?_ _)|(with_reducible refine Kd.C_drew ?_)));(case side2=>exact HC0_0.out);rintro e w16 ⟨rfl,hb⟩;refine ⟨_,rfl,?_⟩;have n0_:=A0_ (blk_below (g:=gb126) (o:=.cells #[.slice A0_0 l0_0.length c0_0,.int .i64 a0_1,.int .i64 a0_2,.int .i64 a0_3] 28 (0,0)) (bd_ BK126.out) hb);have n1_:=A0_ (below_step y2h_ hb);clear BK126;clear HB;have BK126:=n0_;have HB:=n1_;clear n0_ n1_;(try clear hb);(try clear hb2);(try clear hk);(try clear hi))|(go_at_call 53;(with_reducible refine (sky_isSpan.calls a1 a2 false _ A6.out).mono ?_);rintro e w' ⟨rfl,⟨nd,rfl⟩⟩))
   go_ret2
   exact ⟨_,y3_,by first|exact Kd.R_nil _ _ _ _ _|exact Kd.N_nil _ _ _ _ _|exact Kd.V_nil _ _ _ _ _|exact Kd.Q_nil _ _ _ _ _|exact Kd.S_nil _ _ _ _ _,y2h_⟩
 ·replace c5:=Bool.eq_false_iff.mpr c5;subst c5
  have H1:(some (([]:List (S51)),2))=some (r1,r2):=by rw [if_neg (show ¬ (false=true) by decide)] at H;exact H
  clear H;have H:=H1;clear H1
  simp only [Option.some.injEq,Prod.mk.injEq] at H
  obtain ⟨rfl,rfl⟩:=H
  go_enter Tryz.func12,Tryz.ntmps12
  go_wp2_with (first|((with_reducible refine gate_dst (N:=3) rfl ?_);refine box_event ?hg (N:=3) ?hd (cs:=#[.slice A0_0 l0_0.length c0_0,.int .i64 a0_1,.int .i64 a0_2,.int .i64 a0_3]) (t:=28) ?hr ?_;(case hd=>rfl);(case hg=>rfl);(case hr=>first|(go_simp;done)|(go_simp;rfl));intro gb126 hg w17 hbox hb;have n0_:=A0_ (below_step y0_ hb);have n1_:=A0_ (hbox);have n2_:=A0_ ((by rw [hg];exact (below_size y0_):w.heap.size≤gb126));have n3_:=A0_ ((by rw [hg];exact (below_size y0_):w.heap.size≤gb126));clear HB;have HB:=n0_;have BK126:=n1_;have GW126:=n2_;have GE126:=n3_;clear n0_ n1_ n2_ n3_;clear hb hbox hg;obtain ⟨hcz18_0,hcz18_1,hcz18_2,hcz18_3,hfz18_0,hfz18_1,hfz18_2,hfz18_3⟩:=bq4_ BK126.out)|((with_reducible refine gate_callee (f:=52) rfl ?_);refine goesL_ (some 9) rfl rfl Tryz.func52 (by kernel_rfl) rfl #[.agg #[.slice A0_0 l0_0.length c0_0,.int .i64 a0_1,.int .i64 a0_2,.int .i64 a0_3]] rfl y1_ ?_;(with_reducible refine (sky_isSky.calls k _ _ l0_0 a0_1 a0_2 a0_3 false _ ?side1 ?side2 A4.out).mono ?_);(case side1=>repeat (first|exact (Kd.C_below HR0_0.out HB.out)|(with_reducible refine Kd.C_alloc ?_ _)|(with_reducible refine Kd.C_drewN ?_ _)|(with_reducible refine Kd.C_drew ?_)));(case side2=>exact HC0_0.out);rintro e w19 ⟨rfl,hb⟩;refine ⟨_,rfl,?_⟩;have n0_:=A0_ (blk_below (g:=gb126) (o:=.cells #[.slice A0_0 l0_0.length c0_0,.int .i64 a0_1,.int .i64 a0_2,.int .i64 a0_3] 28 (0,0)) (bd_ BK126.out) hb);have n1_:=A0_ (below_step y2h_ hb);clear BK126;clear HB;have BK126:=n0_;have HB:=n1_;clear n0_ n1_;(try clear hb);(try clear hb2);(try clear hk);(try clear hi)))
  go_ret2
  exact ⟨_,y3_,by first|exact Kd.R_nil _ _ _ _ _|exact Kd.N_nil _ _ _ _ _|exact Kd.V_nil _ _ _ _ _|exact Kd.Q_nil _ _ _ _ _|exact Kd.S_nil _ _ _ _ _,y2h_⟩
mutual
def sky_Eclipses.j0:Nat→Int→Int→Int→Int→Bool→List (S83)→Int→Int→Int→Option ((List (S54)) × Int)
 |0,_,_,_,_,_,_,_,_,_=>none
 |k+1,x1,x2,x3,x4,x35,x247000,x247001,x247002,x247003=>if x35=true then (some (([]:List (S54)),2)) else ((sky_moons.f k x247000 x247001 x247002 x247003 x3 x4).bind fun t251=>(sky_Eclipses.l0 k x1 x2 ([]:List (S54)) t251 (t251.length:Int) 0 x247000 x247001 x247002 x247003))
def sky_Eclipses.l0:Nat→Int→Int→List (S54)→List (S51)→Int→Int→List (S83)→Int→Int→Int→Option ((List (S54)) × Int)
 |0,_,_,_,_,_,_,_,_,_,_=>none
 |k+1,x1,x2,x12,x39,x40,x41,x247000,x247001,x247002,x247003=>if x41<x40 then (if 0≤x41 then (if x41<(x39.length:Int) then (if (rd_T51 x39 x41).f1=true then ((ss_far.f k x247000 x247001 x247002 x247003 ((rd_T51 x39 x41).f0)).bind fun t256=>(if t256≤x2 then (if x12.length<5864062014805 then (sky_Eclipses.l0 k x1 x2 (x12 ++ [(⟨(rd_T51 x39 x41).f0,(rd_T51 x39 x41).f1,t256⟩:S54)]) x39 x40 (wrap64 (x41+1)) x247000 x247001 x247002 x247003) else (none)) else (sky_Eclipses.l0 k x1 x2 x12 x39 x40 (wrap64 (x41+1)) x247000 x247001 x247002 x247003))) else ((ss_far.f k x247000 x247001 x247002 x247003 ((rd_T51 x39 x41).f0)).bind fun t260=>(if t260≤x1 then (if x12.length<5864062014805 then (sky_Eclipses.l0 k x1 x2 (x12 ++ [(⟨(rd_T51 x39 x41).f0,(rd_T51 x39 x41).f1,t260⟩:S54)]) x39 x40 (wrap64 (x41+1)) x247000 x247001 x247002 x247003) else (none)) else (sky_Eclipses.l0 k x1 x2 x12 x39 x40 (wrap64 (x41+1)) x247000 x247001 x247002 x247003)))) else (none)) else (none)) else (some (x12,0))
end
def sky_Eclipses.f (k:Nat) (l0_0:List (S83)) (a0_1:Int) (a0_2:Int) (a0_3:Int) (a1:Int) (a2:Int) (a3:Int) (a4:Int):Option ((List (S54)) × Int):=(sky_isSky.f k l0_0 a0_1 a0_2 a0_3).bind fun t247=>(if t247=true then ((sky_isLimit.f a1).bind fun t248=>(if t248=true then ((sky_isLimit.f a2).bind fun t249=>(if t249=true then ((sky_isSpan.f a3 a4).bind fun t250=>(sky_Eclipses.j0 k a1 a2 a3 a4 (!t250) l0_0 a0_1 a0_2 a0_3)) else (sky_Eclipses.j0 k a1 a2 a3 a4 true l0_0 a0_1 a0_2 a0_3))) else (sky_Eclipses.j0 k a1 a2 a3 a4 true l0_0 a0_1 a0_2 a0_3))) else (sky_Eclipses.j0 k a1 a2 a3 a4 true l0_0 a0_1 a0_2 a0_3))
set_option maxHeartbeats 8000000 in
set_option maxRecDepth 100000 in
theorem sky_Eclipses.calls (k:Nat) (A0_0:Option Addr) (c0_0:Nat) (l0_0:List (S83)) (a0_1:Int) (a0_2:Int) (a0_3:Int) (a1:Int) (a2:Int) (a3:Int) (a4:Int) (r1:List (S54)) (r2:Int) (w:World) (hr0_0:Kd.C k83 w A0_0 l0_0.length l0_0) (hc0_0:l0_0.length≤c0_0) (h:sky_Eclipses.f k l0_0 a0_1 a0_2 a0_3 a1 a2 a3 a4=some (r1,r2)):
  Calls Tryz.prog 17 #[.agg #[.slice A0_0 l0_0.length c0_0,.int .i64 a0_1,.int .i64 a0_2,.int .i64 a0_3],.int .i64 a1,.int .i64 a2,.int .i64 a3,.int .i64 a4] w fun e w'=>∃ v0_:Value,e=.returned (.tuple #[v0_,.int .i64 r2])∧Kd.R k54 54 w' w.heap.size (fun _=>True) v0_ r1∧Below w.heap.size w w':=by
 have hu28:=Tryz.underlying28
 have hu51:=Tryz.underlying51
 have hu96:=Tryz.underlying96
 have hu54:=Tryz.underlying54
 have HR0_0:=A0_ hr0_0;have HC0_0:=A0_ hc0_0;clear hr0_0 hc0_0
 have HB:=A0_ (Below.refl w.heap.size w)
 have H:((sky_isSky.f k l0_0 a0_1 a0_2 a0_3).bind fun t247=>(if t247=true then ((sky_isLimit.f a1).bind fun t248=>(if t248=true then ((sky_isLimit.f a2).bind fun t249=>(if t249=true then ((sky_isSpan.f a3 a4).bind fun t250=>(sky_Eclipses.j0 k a1 a2 a3 a4 (!t250) l0_0 a0_1 a0_2 a0_3)) else (sky_Eclipses.j0 k a1 a2 a3 a4 true l0_0 a0_1 a0_2 a0_3))) else (sky_Eclipses.j0 k a1 a2 a3 a4 true l0_0 a0_1 a0_2 a0_3))) else (sky_Eclipses.j0 k a1 a2 a3 a4 true l0_0 a0_1 a0_2 a0_3)))=some (r1,r2):=h
 clear h;have HC6:=A0_ H;clear H
 go_enter Tryz.func17,Tryz.ntmps17
 go_upto_region 1 with (first|((with_reducible refine gate_dst (N:=5) rfl ?_);refine box_event ?hg (N:=5) ?hd (cs:=#[.slice A0_0 l0_0.length c0_0,.int .i64 a0_1,.int .i64 a0_2,.int .i64 a0_3]) (t:=28) ?hr ?_;(case hd=>rfl);(case hg=>rfl);(case hr=>first|(go_simp;done)|(go_simp;rfl));intro gb246 hg w7 hbox hb;have n0_:=A0_ (below_step y0_ hb);have n1_:=A0_ (hbox);have n2_:=A0_ ((by rw [hg];exact (below_size y0_):w.heap.size≤gb246));have n3_:=A0_ ((by rw [hg];exact (below_size y0_):w.heap.size≤gb246));clear HB;have HB:=n0_;have BK246:=n1_;have GW246:=n2_;have GE246:=n3_;clear n0_ n1_ n2_ n3_;clear hb hbox hg))
 (try simp only [Act.put,List.setIfInBounds_toArray,List.set_cons_zero,List.set_cons_succ])
 go_cut [35] (fun v35 wc=>∃ (kq:Nat) (x35_5:Bool),v35=.bool x35_5∧Aside0 (sky_Eclipses.j0 kq a1 a2 a3 a4 x35_5 l0_0 a0_1 a0_2 a0_3=some (r1,r2))∧Aside0 (kq≤k)∧Aside0 (wc.heap[gb246]?=some (.cells #[(.slice A0_0 l0_0.length c0_0),.int .i64 a0_1,.int .i64 a0_2,.int .i64 a0_3] 28 (0,0)))∧Aside0 (Below w.heap.size w wc))
 case first=>
  have H:=HC6.out
  clear HC6;replace H:=Option.bind_eq_some_iff.mp H;obtain ⟨t247,A80,H⟩:=H
  replace H:(if t247=true then ((sky_isLimit.f a1).bind fun t248=>(if t248=true then ((sky_isLimit.f a2).bind fun t249=>(if t249=true then ((sky_isSpan.f a3 a4).bind fun t250=>(sky_Eclipses.j0 k a1 a2 a3 a4 (!t250) l0_0 a0_1 a0_2 a0_3)) else (sky_Eclipses.j0 k a1 a2 a3 a4 true l0_0 a0_1 a0_2 a0_3))) else (sky_Eclipses.j0 k a1 a2 a3 a4 true l0_0 a0_1 a0_2 a0_3))) else (sky_Eclipses.j0 k a1 a2 a3 a4 true l0_0 a0_1 a0_2 a0_3))=some (r1,r2):=H
  have A8:=A0_ A80;clear A80
  by_cases c9:t247=true
  ·subst c9
   have H1:((sky_isLimit.f a1).bind fun t248=>(if t248=true then ((sky_isLimit.f a2).bind fun t249=>(if t249=true then ((sky_isSpan.f a3 a4).bind fun t250=>(sky_Eclipses.j0 k a1 a2 a3 a4 (!t250) l0_0 a0_1 a0_2 a0_3)) else (sky_Eclipses.j0 k a1 a2 a3 a4 true l0_0 a0_1 a0_2 a0_3))) else (sky_Eclipses.j0 k a1 a2 a3 a4 true l0_0 a0_1 a0_2 a0_3)))=some (r1,r2):=by rw [if_pos rfl] at H;exact H
   clear H;have H:=H1;clear H1;replace H:=Option.bind_eq_some_iff.mp H;obtain ⟨t248,A100,H⟩:=H
   replace H:(if t248=true then ((sky_isLimit.f a2).bind fun t249=>(if t249=true then ((sky_isSpan.f a3 a4).bind fun t250=>(sky_Eclipses.j0 k a1 a2 a3 a4 (!t250) l0_0 a0_1 a0_2 a0_3)) else (sky_Eclipses.j0 k a1 a2 a3 a4 true l0_0 a0_1 a0_2 a0_3))) else (sky_Eclipses.j0 k a1 a2 a3 a4 true l0_0 a0_1 a0_2 a0_3))=some (r1,r2):=H
   have A10:=A0_ A100;clear A100
   by_cases c11:t248=true
   ·subst c11
    have H1:((sky_isLimit.f a2).bind fun t249=>(if t249=true then ((sky_isSpan.f a3 a4).bind fun t250=>(sky_Eclipses.j0 k a1 a2 a3 a4 (!t250) l0_0 a0_1 a0_2 a0_3)) else (sky_Eclipses.j0 k a1 a2 a3 a4 true l0_0 a0_1 a0_2 a0_3)))=some (r1,r2):=by rw [if_pos rfl] at H;exact H
    clear H;have H:=H1;clear H1;replace H:=Option.bind_eq_some_iff.mp H;obtain ⟨t249,A120,H⟩:=H
    replace H:(if t249=true then ((sky_isSpan.f a3 a4).bind fun t250=>(sky_Eclipses.j0 k a1 a2 a3 a4 (!t250) l0_0 a0_1 a0_2 a0_3)) else (sky_Eclipses.j0 k a1 a2 a3 a4 true l0_0 a0_1 a0_2 a0_3))=some (r1,r2):=H
    have A12:=A0_ A120;clear A120
    by_cases c13:t249=true
    ·subst c13
     have H1:((sky_isSpan.f a3 a4).bind fun t250=>(sky_Eclipses.j0 k a1 a2 a3 a4 (!t250) l0_0 a0_1 a0_2 a0_3))=some (r1,r2):=by rw [if_pos rfl] at H;exact H
     clear H;have H:=H1;clear H1;replace H:=Option.bind_eq_some_iff.mp H;obtain ⟨t250,A140,H⟩:=H
     replace H:(sky_Eclipses.j0 k a1 a2 a3 a4 (!t250) l0_0 a0_1 a0_2 a0_3)=some (r1,r2):=H
     have A14:=A0_ A140;clear A140
     have H':=A0_ H
     clear H;obtain ⟨hcz15_0,hcz15_1,hcz15_2,hcz15_3,hfz15_0,hfz15_1,hfz15_2,hfz15_3⟩:=bq4_ BK246.out
     go_wp2_with (first|((with_reducible refine gate_callee (f:=52) rfl ?_);refine goesL_ (some 18) rfl rfl Tryz.func52 (by kernel_rfl) rfl #[.agg #[.slice A0_0 l0_0.length c0_0,.int .i64 a0_1,.int .i64 a0_2,.int .i64 a0_3]] rfl y1_ ?_;(with_reducible refine (sky_isSky.calls k _ _ l0_0 a0_1 a0_2 a0_3 true _ ?side1 ?side2 A8.out).mono ?_);(case side1=>repeat (first|exact (Kd.C_below HR0_0.out HB.out)|(with_reducible refine Kd.C_alloc ?_ _)|(with_reducible refine Kd.C_drewN ?_ _)|(with_reducible refine Kd.C_drew ?_)));(case side2=>exact HC0_0.out);rintro e w16 ⟨rfl,hb⟩;refine ⟨_,rfl,?_⟩;have n0_:=A0_ (blk_below (g:=gb246) (o:=.cells #[.slice A0_0 l0_0.length c0_0,.int .i64 a0_1,.int .i64 a0_2,.int .i64 a0_3] 28 (0,0)) (bd_ BK246.out) hb);have n1_:=A0_ (below_step y9_ hb);clear BK246;clear HB;have BK246:=n0_;have HB:=n1_;clear n0_ n1_;(try clear hb);(try clear hb2);(try clear hk);(try clear hi))|(go_at_call 58;(with_reducible refine (sky_isLimit.calls a1 true _ A10.out).mono ?_);rintro e w' ⟨rfl,⟨nd,rfl⟩⟩)|(go_at_call 58;(with_reducible refine (sky_isLimit.calls a2 true _ A12.out).mono ?_);rintro e w' ⟨rfl,⟨nd,rfl⟩⟩)|(go_at_call 53;(with_reducible refine (sky_isSpan.calls a3 a4 t250 _ A14.out).mono ?_);rintro e w' ⟨rfl,⟨nd,rfl⟩⟩))
     go_meet
     case rel=>exact ⟨_,(!t250),y5_,H',⟨by first|omega|exact Nat.le_refl _⟩,⟨by (with_reducible repeat (first|refine blk_drewN ?_ _|refine blk_drew ?_|refine blk_alloc ?_ _));exact BK246.out⟩,⟨y9_⟩⟩
    ·replace c13:=Bool.eq_false_iff.mpr c13;subst c13
     have H1:(sky_Eclipses.j0 k a1 a2 a3 a4 true l0_0 a0_1 a0_2 a0_3)=some (r1,r2):=by rw [if_neg (show ¬ (false=true) by decide)] at H;exact H
     clear H;have H:=H1;clear H1
     have H':=A0_ H
     clear H;obtain ⟨hcz17_0,hcz17_1,hcz17_2,hcz17_3,hfz17_0,hfz17_1,hfz17_2,hfz17_3⟩:=bq4_ BK246.out
     go_wp2_with (first|((with_reducible refine gate_callee (f:=52) rfl ?_);refine goesL_ (some 18) rfl rfl Tryz.func52 (by kernel_rfl) rfl #[.agg #[.slice A0_0 l0_0.length c0_0,.int .i64 a0_1,.int .i64 a0_2,.int .i64 a0_3]] rfl y1_ ?_;(with_reducible refine (sky_isSky.calls k _ _ l0_0 a0_1 a0_2 a0_3 true _ ?side1 ?side2 A8.out).mono ?_);(case side1=>repeat (first|exact (Kd.C_below HR0_0.out HB.out)|(with_reducible refine Kd.C_alloc ?_ _)|(with_reducible refine Kd.C_drewN ?_ _)|(with_reducible refine Kd.C_drew ?_)));(case side2=>exact HC0_0.out);rintro e w18 ⟨rfl,hb⟩;refine ⟨_,rfl,?_⟩;have n0_:=A0_ (blk_below (g:=gb246) (o:=.cells #[.slice A0_0 l0_0.length c0_0,.int .i64 a0_1,.int .i64 a0_2,.int .i64 a0_3] 28 (0,0)) (bd_ BK246.out) hb);have n1_:=A0_ (below_step y9_ hb);clear BK246;clear HB;have BK246:=n0_;have HB:=n1_;clear n0_ n1_;(try clear hb);(try clear hb2);(try clear hk);(try clear hi))|(go_at_call 58;(with_reducible refine (sky_isLimit.calls a1 true _ A10.out).mono ?_);rintro e w' ⟨rfl,⟨nd,rfl⟩⟩)|(go_at_call 58;(with_reducible refine (sky_isLimit.calls a2 false _ A12.out).mono ?_);rintro e w' ⟨rfl,⟨nd,rfl⟩⟩))
     go_meet
     case rel=>exact ⟨_,(true),y5_,H',⟨by first|omega|exact Nat.le_refl _⟩,⟨by (with_reducible repeat (first|refine blk_drewN ?_ _|refine blk_drew ?_|refine blk_alloc ?_ _));exact BK246.out⟩,⟨y9_⟩⟩
   ·replace c11:=Bool.eq_false_iff.mpr c11;subst c11
    have H1:(sky_Eclipses.j0 k a1 a2 a3 a4 true l0_0 a0_1 a0_2 a0_3)=some (r1,r2):=by rw [if_neg (show ¬ (false=true) by decide)] at H;exact H
    clear H;have H:=H1;clear H1
    have H':=A0_ H
    clear H;obtain ⟨hcz19_0,hcz19_1,hcz19_2,hcz19_3,hfz19_0,hfz19_1,hfz19_2,hfz19_3⟩:=bq4_ BK246.out
    go_wp2_with (first|((with_reducible refine gate_callee (f:=52) rfl ?_);refine goesL_ (some 18) rfl rfl Tryz.func52 (by kernel_rfl) rfl #[.agg #[.slice A0_0 l0_0.length c0_0,.int .i64 a0_1,.int .i64 a0_2,.int .i64 a0_3]] rfl y1_ ?_;(with_reducible refine (sky_isSky.calls k _ _ l0_0 a0_1 a0_2 a0_3 true _ ?side1 ?side2 A8.out).mono ?_);(case side1=>repeat (first|exact (Kd.C_below HR0_0.out HB.out)|(with_reducible refine Kd.C_alloc ?_ _)|(with_reducible refine Kd.C_drewN ?_ _)|(with_reducible refine Kd.C_drew ?_)));(case side2=>exact HC0_0.out);rintro e w20 ⟨rfl,hb⟩;refine ⟨_,rfl,?_⟩;have n0_:=A0_ (blk_below (g:=gb246) (o:=.cells #[.slice A0_0 l0_0.length c0_0,.int .i64 a0_1,.int .i64 a0_2,.int .i64 a0_3] 28 (0,0)) (bd_ BK246.out) hb);have n1_:=A0_ (below_step y9_ hb);clear BK246;clear HB;have BK246:=n0_;have HB:=n1_;clear n0_ n1_;(try clear hb);(try clear hb2);(try clear hk);(try clear hi))|(go_at_call 58;(with_reducible refine (sky_isLimit.calls a1 false _ A10.out).mono ?_);rintro e w' ⟨rfl,⟨nd,rfl⟩⟩))
    go_meet
    case rel=>exact ⟨_,(true),y5_,H',⟨by first|omega|exact Nat.le_refl _⟩,⟨by (with_reducible repeat (first|refine blk_drewN ?_ _|refine blk_drew ?_|refine blk_alloc ?_ _));exact BK246.out⟩,⟨y9_⟩⟩
  ·replace c9:=Bool.eq_false_iff.mpr c9;subst c9
   have H1:(sky_Eclipses.j0 k a1 a2 a3 a4 true l0_0 a0_1 a0_2 a0_3)=some (r1,r2):=by rw [if_neg (show ¬ (false=true) by decide)] at H;exact H
   clear H;have H:=H1;clear H1
   have H':=A0_ H
   clear H;obtain ⟨hcz21_0,hcz21_1,hcz21_2,hcz21_3,hfz21_0,hfz21_1,hfz21_2,hfz21_3⟩:=bq4_ BK246.out
   go_wp2_with (first|((with_reducible refine gate_callee (f:=52) rfl ?_);refine goesL_ (some 18) rfl rfl Tryz.func52 (by kernel_rfl) rfl #[.agg #[.slice A0_0 l0_0.length c0_0,.int .i64 a0_1,.int .i64 a0_2,.int .i64 a0_3]] rfl y1_ ?_;(with_reducible refine (sky_isSky.calls k _ _ l0_0 a0_1 a0_2 a0_3 false _ ?side1 ?side2 A8.out).mono ?_);(case side1=>repeat (first|exact (Kd.C_below HR0_0.out HB.out)|(with_reducible refine Kd.C_alloc ?_ _)|(with_reducible refine Kd.C_drewN ?_ _)|(with_reducible refine Kd.C_drew ?_)));(case side2=>exact HC0_0.out);rintro e w22 ⟨rfl,hb⟩;refine ⟨_,rfl,?_⟩;have n0_:=A0_ (blk_below (g:=gb246) (o:=.cells #[.slice A0_0 l0_0.length c0_0,.int .i64 a0_1,.int .i64 a0_2,.int .i64 a0_3] 28 (0,0)) (bd_ BK246.out) hb);have n1_:=A0_ (below_step y9_ hb);clear BK246;clear HB;have BK246:=n0_;have HB:=n1_;clear n0_ n1_;(try clear hb);(try clear hb2);(try clear hk);(try clear hi)))
   go_meet
   case rel=>exact ⟨_,(true),y5_,H',⟨by first|omega|exact Nat.le_refl _⟩,⟨by (with_reducible repeat (first|refine blk_drewN ?_ _|refine blk_drew ?_|refine blk_alloc ?_ _));exact BK246.out⟩,⟨y9_⟩⟩
 case rest=>
  clear HC6;(try clear c1);(try clear p2);(try clear c5);(try clear c9);(try clear c11);(try clear c13);(try clear c17);(try clear hcz15_0);(try clear hcz15_1);(try clear hcz15_2);(try clear hcz15_3);(try clear hcz17_0);(try clear hcz17_1);(try clear hcz17_2);(try clear hcz17_3);(try clear hcz19_0);(try clear hcz19_1);(try clear hcz19_2);(try clear hcz19_3);(try clear hcz21_0);(try clear hcz21_1);(try clear hcz21_2);(try clear hcz21_3);(try clear hfz15_0);(try clear hfz15_1);(try clear hfz15_2);(try clear hfz15_3);(try clear hfz17_0);(try clear hfz17_1);(try clear hfz17_2);(try clear hfz17_3);(try clear hfz19_0);(try clear hfz19_1);(try clear hfz19_2);(try clear hfz19_3);(try clear hfz21_0);(try clear hfz21_1);(try clear hfz21_2);(try clear hfz21_3)
  obtain ⟨kq,x35_5,rfl,HA,HJ5,BK246,HB⟩:=hcut
  cases kq with
  |zero=>exact absurd HA.out (by simp [sky_Eclipses.j0])
  |succ kj5=>
   have H:=HA.out
   clear HA
   simp only [sky_Eclipses.j0] at H
   by_cases c23:x35_5=true
   ·subst c23
    have H1:(some (([]:List (S54)),2))=some (r1,r2):=by rw [if_pos rfl] at H;exact H
    clear H;have H:=H1;clear H1
    simp only [Option.some.injEq,Prod.mk.injEq] at H
    obtain ⟨rfl,rfl⟩:=H;go_wp2
    go_ret2
    exact ⟨_,y3_,by first|exact Kd.R_nil _ _ _ _ _|exact Kd.N_nil _ _ _ _ _|exact Kd.V_nil _ _ _ _ _|exact Kd.Q_nil _ _ _ _ _|exact Kd.S_nil _ _ _ _ _,y9_⟩
   ·replace c23:=Bool.eq_false_iff.mpr c23;subst c23
    have H1:((sky_moons.f kj5 l0_0 a0_1 a0_2 a0_3 a3 a4).bind fun t251=>(sky_Eclipses.l0 kj5 a1 a2 ([]:List (S54)) t251 (t251.length:Int) 0 l0_0 a0_1 a0_2 a0_3))=some (r1,r2):=by rw [if_neg (show ¬ (false=true) by decide)] at H;exact H
    clear H;have H:=H1;clear H1;replace H:=Option.bind_eq_some_iff.mp H;obtain ⟨t251,A240,H⟩:=H
    replace H:(sky_Eclipses.l0 kj5 a1 a2 ([]:List (S54)) t251 (t251.length:Int) 0 l0_0 a0_1 a0_2 a0_3)=some (r1,r2):=H
    have A24:=A0_ A240;clear A240
    have H':=A0_ H
    clear H;obtain ⟨hcz25_0,hcz25_1,hcz25_2,hcz25_3,hfz25_0,hfz25_1,hfz25_2,hfz25_3⟩:=bq4_ BK246.out
    go_wp2_with (first|((with_reducible refine gate_callee (f:=54) rfl ?_);refine goesL_ (some 39) rfl rfl Tryz.func54 (by kernel_rfl) rfl #[.agg #[.slice A0_0 l0_0.length c0_0,.int .i64 a0_1,.int .i64 a0_2,.int .i64 a0_3],.int .i64 a3,.int .i64 a4] rfl y1_ ?_;(with_reducible refine (sky_moons.calls kj5 _ _ l0_0 a0_1 a0_2 a0_3 a3 a4 t251 _ ?side1 ?side2 A24.out).mono ?_);(case side1=>repeat (first|exact (Kd.C_below HR0_0.out HB.out)|(with_reducible refine Kd.C_alloc ?_ _)|(with_reducible refine Kd.C_drewN ?_ _)|(with_reducible refine Kd.C_drew ?_)));(case side2=>exact HC0_0.out);rintro e w26 ⟨v252,rfl,ho0,hb⟩;refine ⟨_,rfl,?_⟩;have n0_:=A0_ (Kd.R_lower ho0 (below_size y9_));have n1_:=A0_ (blk_below (g:=gb246) (o:=.cells #[.slice A0_0 l0_0.length c0_0,.int .i64 a0_1,.int .i64 a0_2,.int .i64 a0_3] 28 (0,0)) (bd_ BK246.out) hb);have n2_:=A0_ (below_step y9_ hb);clear BK246;clear HB;have HO253:=n0_;have BK246:=n1_;have HB:=n2_;clear n0_ n1_ n2_;(try clear hb);(try clear hb2);(try clear hk);(try clear hi);(try clear ho0);obtain ⟨Ao27,co27,eo27⟩:=Kd.R_slice HO253.out;subst eo27))
    go_loopg [12,41] kj5 (fun kq v12 v41 w'=>∃ (x12_2:List (S54)) (x41_2:Int),v41=.int .i64 x41_2∧Aside0 (sky_Eclipses.l0 kq a1 a2 x12_2 t251 (t251.length:Int) x41_2 l0_0 a0_1 a0_2 a0_3=some (r1,r2))∧Aside0 (kq≤kj5)∧Aside0 (Kd.R k54 54 w' w.heap.size (fun _=>True) v12 x12_2)∧Aside0 (Kd.R k51 51 w' w.heap.size (fun _=>True) (.slice Ao27 t251.length co27) t251)∧Aside0 (w'.heap[gb246]?=some (.cells #[(.slice A0_0 l0_0.length c0_0),.int .i64 a0_1,.int .i64 a0_2,.int .i64 a0_3] 28 (0,0)))∧Aside0 (Below w.heap.size w w'))
    case atStart=>exact ⟨(([]:List (S54))),(0),y5_,H',⟨Nat.le_refl _⟩,⟨by first|exact Kd.R_nil _ _ _ _ _|exact Kd.N_nil _ _ _ _ _|exact Kd.V_nil _ _ _ _ _|exact Kd.Q_nil _ _ _ _ _|exact Kd.S_nil _ _ _ _ _⟩,⟨by (with_reducible repeat (first|apply Kd.R_alloc|apply Kd.R_drewN|apply Kd.R_drew));exact HO253.out⟩,⟨by (with_reducible repeat (first|refine blk_drewN ?_ _|refine blk_drew ?_|refine blk_alloc ?_ _));exact BK246.out⟩,⟨y9_⟩⟩
    case round=>
     clear H'
     (try clear c1);(try clear c2);(try clear p2);(try clear c5);(try clear c9);(try clear c11);(try clear c13);(try clear c17);(try clear c23);(try clear hcz15_0);(try clear hcz15_1);(try clear hcz15_2);(try clear hcz15_3);(try clear hcz17_0);(try clear hcz17_1);(try clear hcz17_2);(try clear hcz17_3);(try clear hcz19_0);(try clear hcz19_1);(try clear hcz19_2);(try clear hcz19_3);(try clear hcz21_0);(try clear hcz21_1);(try clear hcz21_2);(try clear hcz21_3);(try clear hcz25_0);(try clear hcz25_1);(try clear hcz25_2);(try clear hcz25_3);(try clear hfz15_0);(try clear hfz15_1);(try clear hfz15_2);(try clear hfz15_3);(try clear hfz17_0);(try clear hfz17_1);(try clear hfz17_2);(try clear hfz17_3);(try clear hfz19_0);(try clear hfz19_1);(try clear hfz19_2);(try clear hfz19_3);(try clear hfz21_0);(try clear hfz21_1);(try clear hfz21_2);(try clear hfz21_3);(try clear hfz25_0);(try clear hfz25_1);(try clear hfz25_2);(try clear hfz25_3);(try clear p2)
     obtain ⟨x12_2,x41_2,rfl,HA,HK2,HO_12,HO_39,BK246,HB⟩:=hrel
     cases gk with
     |zero=>exact absurd HA.out (by simp [sky_Eclipses.l0])
     |succ k2=>
      have H:=HA.out
      clear HA
      simp only [sky_Eclipses.l0] at H
      by_cases c28:x41_2<(t251.length:Int)
      ·rw [if_pos c28] at H;have c28b0:decide (x41_2<(t251.length:Int))=true:=decide_eq_true c28;clear c28
       by_cases c29:0≤x41_2
       ·rw [if_pos c29] at H;have c29b0:decide (0≤x41_2)=true:=decide_eq_true c29;clear c29
        by_cases c30:x41_2<(t251.length:Int)
        ·rw [if_pos c30] at H;have c30b0:decide (x41_2<(t251.length:Int))=true:=decide_eq_true c30;clear c30
         obtain ⟨bq31,hbq31⟩:∃ b_:Bool,b_=((rd_T51 t251 x41_2).f1):=⟨_,rfl⟩
         replace H:(if bq31=true then ((ss_far.f k2 l0_0 a0_1 a0_2 a0_3 ((rd_T51 t251 x41_2).f0)).bind fun t256=>(if t256≤a2 then (if x12_2.length<5864062014805 then (sky_Eclipses.l0 k2 a1 a2 (x12_2 ++ [(⟨(rd_T51 t251 x41_2).f0,bq31,t256⟩:S54)]) t251 (t251.length:Int) (wrap64 (x41_2+1)) l0_0 a0_1 a0_2 a0_3) else (none)) else (sky_Eclipses.l0 k2 a1 a2 x12_2 t251 (t251.length:Int) (wrap64 (x41_2+1)) l0_0 a0_1 a0_2 a0_3))) else ((ss_far.f k2 l0_0 a0_1 a0_2 a0_3 ((rd_T51 t251 x41_2).f0)).bind fun t260=>(if t260≤a1 then (if x12_2.length<5864062014805 then (sky_Eclipses.l0 k2 a1 a2 (x12_2 ++ [(⟨(rd_T51 t251 x41_2).f0,bq31,t260⟩:S54)]) t251 (t251.length:Int) (wrap64 (x41_2+1)) l0_0 a0_1 a0_2 a0_3) else (none)) else (sky_Eclipses.l0 k2 a1 a2 x12_2 t251 (t251.length:Int) (wrap64 (x41_2+1)) l0_0 a0_1 a0_2 a0_3))))=some (r1,r2):=by rw [← hbq31] at H;exact H
         have Nbq31:=A0_ hbq31;clear hbq31
         by_cases c32:bq31=true
         ·subst c32
          have H1:((ss_far.f k2 l0_0 a0_1 a0_2 a0_3 ((rd_T51 t251 x41_2).f0)).bind fun t256=>(if t256≤a2 then (if x12_2.length<5864062014805 then (sky_Eclipses.l0 k2 a1 a2 (x12_2 ++ [(⟨(rd_T51 t251 x41_2).f0,true,t256⟩:S54)]) t251 (t251.length:Int) (wrap64 (x41_2+1)) l0_0 a0_1 a0_2 a0_3) else (none)) else (sky_Eclipses.l0 k2 a1 a2 x12_2 t251 (t251.length:Int) (wrap64 (x41_2+1)) l0_0 a0_1 a0_2 a0_3)))=some (r1,r2):=by rw [if_pos rfl] at H;exact H
          clear H;have H:=H1;clear H1;replace H:=Option.bind_eq_some_iff.mp H;obtain ⟨t256,A330,H⟩:=H
          replace H:(if t256≤a2 then (if x12_2.length<5864062014805 then (sky_Eclipses.l0 k2 a1 a2 (x12_2 ++ [(⟨(rd_T51 t251 x41_2).f0,true,t256⟩:S54)]) t251 (t251.length:Int) (wrap64 (x41_2+1)) l0_0 a0_1 a0_2 a0_3) else (none)) else (sky_Eclipses.l0 k2 a1 a2 x12_2 t251 (t251.length:Int) (wrap64 (x41_2+1)) l0_0 a0_1 a0_2 a0_3))=some (r1,r2):=H
          have A33:=A0_ A330;clear A330
          by_cases c34:t256≤a2
          ·rw [if_pos c34] at H;have c34b0:decide (t256≤a2)=true:=decide_eq_true c34;clear c34
           by_cases c35:x12_2.length<5864062014805
           ·rw [if_pos c35] at H;have LMc35:=A0_ c35;clear c35
            obtain ⟨y257,hy257⟩:∃ y_:List (S54),y_=(x12_2 ++ [(⟨(rd_T51 t251 x41_2).f0,true,t256⟩:S54)]):=⟨_,rfl⟩
            replace H:(sky_Eclipses.l0 k2 a1 a2 y257 t251 (t251.length:Int) (wrap64 (x41_2+1)) l0_0 a0_1 a0_2 a0_3)=some (r1,r2):=by first|(rw [hy257];with_reducible exact H)|(have H2_:=(Option.bind_some _ _).symm.trans H;rw [hy257];with_reducible exact H2_)|(have H2_:=(Option.bind_some _ _).symm.trans H;with_reducible exact H2_)|with_reducible exact H|(rw [hy257];exact H)|exact H
            have Ny257:=A0_ hy257;clear hy257
            have H':=A0_ H
            clear H
            have p254:0≤(x41_2:Int):=of_decide_eq_true y6_
            have q254:x41_2<(t251.length:Int):=of_decide_eq_true y6_
            obtain ⟨ad254,e254,hx254_0,hx254_1⟩:=at_T51 (Kd.R_reads' HO_39.out).2.2 x41_2 p254 q254
            (try rw [← Nbq31.out] at hx254_1)
            cases e254
            replace p254:=eq_true p254
            replace q254:=eq_true q254
            go_wp2_with (first|((with_reducible refine gate_dst (N:=14) rfl ?_);refine box_event ?hg (N:=14) ?hd (cs:=#[.int .i64 0,.bool false]) (t:=51) ?hr ?_;(case hd=>rfl);(case hg=>rfl);(case hr=>first|(go_simp;done)|(go_simp;rfl));intro gb255 hg w36 hbox hb;have n0_:=A0_ (Kd.R_below (rd_ HO_12.out) hb);have n1_:=A0_ (Kd.R_below (Kd.R_elderB (rd_ HO_39.out) gb255 (Nat.le_of_eq hg.symm)) hb);have n2_:=A0_ (blk_below (g:=gb246) (o:=.cells #[.slice A0_0 l0_0.length c0_0,.int .i64 a0_1,.int .i64 a0_2,.int .i64 a0_3] 28 (0,0)) (bd_ BK246.out) hb);have n3_:=A0_ (below_step y9_ hb);have n4_:=A0_ (hbox);have n5_:=A0_ ((by rw [hg];exact (below_size y9_):w.heap.size≤gb255));have n6_:=A0_ ((by rw [hg];exact (below_size y9_):w.heap.size≤gb255));have n7_:=A0_ ((by rw [hg];exact Nat.ne_of_lt (blk_lt (g:=gb246) (o:=.cells #[.slice A0_0 l0_0.length c0_0,.int .i64 a0_1,.int .i64 a0_2,.int .i64 a0_3] 28 (0,0)) (bd_ BK246.out)):gb246≠gb255));have n8_:=A0_ ((by rw [hg];exact Nat.ne_of_gt (blk_lt (g:=gb246) (o:=.cells #[.slice A0_0 l0_0.length c0_0,.int .i64 a0_1,.int .i64 a0_2,.int .i64 a0_3] 28 (0,0)) (bd_ BK246.out)):gb255≠gb246));clear HO_12;clear HO_39;clear BK246;clear HB;have HO_12:=n0_;have HO_39:=n1_;have BK246:=n2_;have HB:=n3_;have BK255:=n4_;have GW255:=n5_;have GE255:=n6_;have NB246_255:=n7_;have NB255_246:=n8_;clear n0_ n1_ n2_ n3_ n4_ n5_ n6_ n7_ n8_;clear hb hbox hg;have hnb37:=NB255_246.out;have hnc37:=NB246_255.out;obtain ⟨hcz38_0,hcz38_1,hfz38_0,hfz38_1⟩:=bq2_ BK255.out;obtain ⟨hcz39_0,hcz39_1,hcz39_2,hcz39_3,hfz39_0,hfz39_1,hfz39_2,hfz39_3⟩:=bq4_ BK246.out)|((with_reducible refine gate_callee (f:=59) rfl ?_);refine goesL_ (some 53) rfl rfl Tryz.func59 (by kernel_rfl) rfl #[.agg #[.slice A0_0 l0_0.length c0_0,.int .i64 a0_1,.int .i64 a0_2,.int .i64 a0_3,.int .i64 ((rd_T51 t251 x41_2).f0)]] rfl y1_ ?_;(with_reducible refine (ss_far.calls k2 _ _ l0_0 a0_1 a0_2 a0_3 ((rd_T51 t251 x41_2).f0) t256 _ ?side1 ?side2 A33.out).mono ?_);(case side1=>exact Kd.C_below HR0_0.out yc_);(case side2=>exact HC0_0.out);rintro e w40 ⟨rfl,hb⟩;refine ⟨_,rfl,?_⟩;have n0_:=A0_ (Kd.R_below y47_ hb);have n1_:=A0_ (Kd.R_below y45_ hb);have n2_:=A0_ (blk_below (g:=gb246) (o:=.cells #[.slice A0_0 l0_0.length c0_0,.int .i64 a0_1,.int .i64 a0_2,.int .i64 a0_3] 28 (0,0)) y2n_ hb);have n3_:=A0_ (blk_below (g:=gb255) (o:=.cells #[.int .i64 ((rd_T51 t251 x41_2).f0),.bool true] 51 (0,0)) y2d_ hb);have n4_:=A0_ (below_step yc_ hb);clear HO_12;clear HO_39;clear BK246;clear BK255;clear HB;have HO_12:=n0_;have HO_39:=n1_;have BK246:=n2_;have BK255:=n3_;have HB:=n4_;clear n0_ n1_ n2_ n3_ n4_;(try clear hb);(try clear hb2);(try clear hk);(try clear hi);obtain ⟨hcz41_0,hcz41_1,hfz41_0,hfz41_1⟩:=bq2_ BK255.out)|((with_reducible refine gate_builtin (b:=.append) (xs:=#[.tmp 57,.tmp 64]) rfl ?_);at_builtin;refine Kd.R_append k54 (w0:=w) w.heap.size rfl (.tmp 57) (.tmp 64) 39 54 (.agg #[(.int .i64 0),(.bool false),(.int .i64 0)]) 24 rfl Tryz.underlying39 info54 rfl (by decide) (by omega) u12 x12_2 (⟨(rd_T51 t251 x41_2).f0,true,t256⟩:S54) [.int .i64 ((rd_T51 t251 x41_2).f0),.bool true,.int .i64 t256] (fun _=>True) (fun _=>False) rfl rfl ?aP (fun _ hk=>hk.elim) ?aF ?aO ?aB ?aS ?aL ?_;(case aP=>exact k54_mkM _ _ _ (⟨(rd_T51 t251 x41_2).f0,true,t256⟩:S54));(case aB=>exact yc_);(case aF=>exact (fun _ _=>trivial));(case aO=>exact (rd_ HO_12.out));(case aS=>exact (below_size yc_));(case aL=>have:=LMc35.out;omega);intro v258 w42 ho hb hg hat;rw [← Ny257.out] at ho;have n0_:=A0_ (Kd.R_over' (rd_ HO_39.out) (Kd.R_typed (rd_ HO_12.out)) (by decide) hg);have n1_:=A0_ (blk_grown (g:=gb246) (o:=.cells #[.slice A0_0 l0_0.length c0_0,.int .i64 a0_1,.int .i64 a0_2,.int .i64 a0_3] 28 (0,0)) (bd_ BK246.out) hg (Kd.R_ne HO_12.out BK246.out (by decide)));have n2_:=A0_ (blk_grown (g:=gb255) (o:=.cells #[.int .i64 ((rd_T51 t251 x41_2).f0),.bool true] 51 (0,0)) (bd_ BK255.out) hg (Kd.R_ne HO_12.out BK255.out (by decide)));have n3_:=A0_ (hb);have n4_:=A0_ (ho);clear HO_39;clear BK246;clear BK255;clear HB;clear HO_12;have HO_39:=n0_;have BK246:=n1_;have BK255:=n2_;have HB:=n3_;have HO259:=n4_;clear n0_ n1_ n2_ n3_ n4_;clear ho hb hg hat))
            go_roundg k2
            case measure=>have:=HJ5.out;have:=HK2.out;omega
            case rel=>exact ⟨(y257),(wrap64 (x41_2+1)),y5_,H',⟨by have:=HJ5.out;have:=HK2.out;omega⟩,⟨by (with_reducible repeat (first|apply Kd.R_alloc|apply Kd.R_drewN|apply Kd.R_drew));exact HO259.out⟩,⟨by (with_reducible repeat (first|apply Kd.R_alloc|apply Kd.R_drewN|apply Kd.R_drew));exact Kd.R_mono HO_39.out (fun _ hk=>trivial)⟩,⟨by (with_reducible repeat (first|refine blk_drewN ?_ _|refine blk_drew ?_|refine blk_alloc ?_ _));exact BK246.out⟩,⟨yc_⟩⟩
           ·rw [if_neg c35] at H;exact absurd H (by simp)
          ·rw [if_neg c34] at H;have c34b0:decide (t256≤a2)=false:=decide_eq_false c34;clear c34
           have H':=A0_ H
           clear H
           have p254:0≤(x41_2:Int):=of_decide_eq_true y6_
           have q254:x41_2<(t251.length:Int):=of_decide_eq_true y6_
           obtain ⟨ad254,e254,hx254_0,hx254_1⟩:=at_T51 (Kd.R_reads' HO_39.out).2.2 x41_2 p254 q254
           (try rw [← Nbq31.out] at hx254_1)
           cases e254
           replace p254:=eq_true p254
           replace q254:=eq_true q254
           go_wp2_with (first|((with_reducible refine gate_dst (N:=14) rfl ?_);refine box_event ?hg (N:=14) ?hd (cs:=#[.int .i64 0,.bool false]) (t:=51) ?hr ?_;(case hd=>rfl);(case hg=>rfl);(case hr=>first|(go_simp;done)|(go_simp;rfl));intro gb255 hg w43 hbox hb;have n0_:=A0_ (Kd.R_below (rd_ HO_12.out) hb);have n1_:=A0_ (Kd.R_below (Kd.R_elderB (rd_ HO_39.out) gb255 (Nat.le_of_eq hg.symm)) hb);have n2_:=A0_ (blk_below (g:=gb246) (o:=.cells #[.slice A0_0 l0_0.length c0_0,.int .i64 a0_1,.int .i64 a0_2,.int .i64 a0_3] 28 (0,0)) (bd_ BK246.out) hb);have n3_:=A0_ (below_step y9_ hb);have n4_:=A0_ (hbox);have n5_:=A0_ ((by rw [hg];exact (below_size y9_):w.heap.size≤gb255));have n6_:=A0_ ((by rw [hg];exact (below_size y9_):w.heap.size≤gb255));have n7_:=A0_ ((by rw [hg];exact Nat.ne_of_lt (blk_lt (g:=gb246) (o:=.cells #[.slice A0_0 l0_0.length c0_0,.int .i64 a0_1,.int .i64 a0_2,.int .i64 a0_3] 28 (0,0)) (bd_ BK246.out)):gb246≠gb255));have n8_:=A0_ ((by rw [hg];exact Nat.ne_of_gt (blk_lt (g:=gb246) (o:=.cells #[.slice A0_0 l0_0.length c0_0,.int .i64 a0_1,.int .i64 a0_2,.int .i64 a0_3] 28 (0,0)) (bd_ BK246.out)):gb255≠gb246));clear HO_12;clear HO_39;clear BK246;clear HB;have HO_12:=n0_;have HO_39:=n1_;have BK246:=n2_;have HB:=n3_;have BK255:=n4_;have GW255:=n5_;have GE255:=n6_;have NB246_255:=n7_;have NB255_246:=n8_;clear n0_ n1_ n2_ n3_ n4_ n5_ n6_ n7_ n8_;clear hb hbox hg;have hnb44:=NB255_246.out;have hnc44:=NB246_255.out;obtain ⟨hcz45_0,hcz45_1,hfz45_0,hfz45_1⟩:=bq2_ BK255.out;obtain ⟨hcz46_0,hcz46_1,hcz46_2,hcz46_3,hfz46_0,hfz46_1,hfz46_2,hfz46_3⟩:=bq4_ BK246.out)|((with_reducible refine gate_callee (f:=59) rfl ?_);refine goesL_ (some 53) rfl rfl Tryz.func59 (by kernel_rfl) rfl #[.agg #[.slice A0_0 l0_0.length c0_0,.int .i64 a0_1,.int .i64 a0_2,.int .i64 a0_3,.int .i64 ((rd_T51 t251 x41_2).f0)]] rfl y1_ ?_;(with_reducible refine (ss_far.calls k2 _ _ l0_0 a0_1 a0_2 a0_3 ((rd_T51 t251 x41_2).f0) t256 _ ?side1 ?side2 A33.out).mono ?_);(case side1=>exact Kd.C_below HR0_0.out yc_);(case side2=>exact HC0_0.out);rintro e w47 ⟨rfl,hb⟩;refine ⟨_,rfl,?_⟩;have n0_:=A0_ (Kd.R_below y47_ hb);have n1_:=A0_ (Kd.R_below y45_ hb);have n2_:=A0_ (blk_below (g:=gb246) (o:=.cells #[.slice A0_0 l0_0.length c0_0,.int .i64 a0_1,.int .i64 a0_2,.int .i64 a0_3] 28 (0,0)) y2n_ hb);have n3_:=A0_ (blk_below (g:=gb255) (o:=.cells #[.int .i64 ((rd_T51 t251 x41_2).f0),.bool true] 51 (0,0)) y2d_ hb);have n4_:=A0_ (below_step yc_ hb);clear HO_12;clear HO_39;clear BK246;clear BK255;clear HB;have HO_12:=n0_;have HO_39:=n1_;have BK246:=n2_;have BK255:=n3_;have HB:=n4_;clear n0_ n1_ n2_ n3_ n4_;(try clear hb);(try clear hb2);(try clear hk);(try clear hi)))
           go_roundg k2
           case measure=>have:=HJ5.out;have:=HK2.out;omega
           case rel=>exact ⟨(x12_2),(wrap64 (x41_2+1)),y5_,H',⟨by have:=HJ5.out;have:=HK2.out;omega⟩,⟨by (with_reducible repeat (first|apply Kd.R_alloc|apply Kd.R_drewN|apply Kd.R_drew));exact HO_12.out⟩,⟨by (with_reducible repeat (first|apply Kd.R_alloc|apply Kd.R_drewN|apply Kd.R_drew));exact Kd.R_mono HO_39.out (fun _ hk=>trivial)⟩,⟨by (with_reducible repeat (first|refine blk_drewN ?_ _|refine blk_drew ?_|refine blk_alloc ?_ _));exact BK246.out⟩,⟨yc_⟩⟩
         ·replace c32:=Bool.eq_false_iff.mpr c32;subst c32
          have H1:((ss_far.f k2 l0_0 a0_1 a0_2 a0_3 ((rd_T51 t251 x41_2).f0)).bind fun t260=>(if t260≤a1 then (if x12_2.length<5864062014805 then (sky_Eclipses.l0 k2 a1 a2 (x12_2 ++ [(⟨(rd_T51 t251 x41_2).f0,false,t260⟩:S54)]) t251 (t251.length:Int) (wrap64 (x41_2+1)) l0_0 a0_1 a0_2 a0_3) else (none)) else (sky_Eclipses.l0 k2 a1 a2 x12_2 t251 (t251.length:Int) (wrap64 (x41_2+1)) l0_0 a0_1 a0_2 a0_3)))=some (r1,r2):=by rw [if_neg (show ¬ (false=true) by decide)] at H;exact H
          clear H;have H:=H1;clear H1;replace H:=Option.bind_eq_some_iff.mp H;obtain ⟨t260,A480,H⟩:=H
          replace H:(if t260≤a1 then (if x12_2.length<5864062014805 then (sky_Eclipses.l0 k2 a1 a2 (x12_2 ++ [(⟨(rd_T51 t251 x41_2).f0,false,t260⟩:S54)]) t251 (t251.length:Int) (wrap64 (x41_2+1)) l0_0 a0_1 a0_2 a0_3) else (none)) else (sky_Eclipses.l0 k2 a1 a2 x12_2 t251 (t251.length:Int) (wrap64 (x41_2+1)) l0_0 a0_1 a0_2 a0_3))=some (r1,r2):=H
          have A48:=A0_ A480;clear A480
          by_cases c49:t260≤a1
          ·rw [if_pos c49] at H;have c49b0:decide (t260≤a1)=true:=decide_eq_true c49;clear c49
           by_cases c50:x12_2.length<5864062014805
           ·rw [if_pos c50] at H;have LMc50:=A0_ c50;clear c50
            obtain ⟨y261,hy261⟩:∃ y_:List (S54),y_=(x12_2 ++ [(⟨(rd_T51 t251 x41_2).f0,false,t260⟩:S54)]):=⟨_,rfl⟩
            replace H:(sky_Eclipses.l0 k2 a1 a2 y261 t251 (t251.length:Int) (wrap64 (x41_2+1)) l0_0 a0_1 a0_2 a0_3)=some (r1,r2):=by first|(rw [hy261];with_reducible exact H)|(have H2_:=(Option.bind_some _ _).symm.trans H;rw [hy261];with_reducible exact H2_)|(have H2_:=(Option.bind_some _ _).symm.trans H;with_reducible exact H2_)|with_reducible exact H|(rw [hy261];exact H)|exact H
            have Ny261:=A0_ hy261;clear hy261
            have H':=A0_ H
            clear H
            have p254:0≤(x41_2:Int):=of_decide_eq_true y6_
            have q254:x41_2<(t251.length:Int):=of_decide_eq_true y6_
            obtain ⟨ad254,e254,hx254_0,hx254_1⟩:=at_T51 (Kd.R_reads' HO_39.out).2.2 x41_2 p254 q254
            (try rw [← Nbq31.out] at hx254_1)
            cases e254
            replace p254:=eq_true p254
            replace q254:=eq_true q254
            go_wp2_with (first|((with_reducible refine gate_dst (N:=14) rfl ?_);refine box_event ?hg (N:=14) ?hd (cs:=#[.int .i64 0,.bool false]) (t:=51) ?hr ?_;(case hd=>rfl);(case hg=>rfl);(case hr=>first|(go_simp;done)|(go_simp;rfl));intro gb255 hg w51 hbox hb;have n0_:=A0_ (Kd.R_below (rd_ HO_12.out) hb);have n1_:=A0_ (Kd.R_below (Kd.R_elderB (rd_ HO_39.out) gb255 (Nat.le_of_eq hg.symm)) hb);have n2_:=A0_ (blk_below (g:=gb246) (o:=.cells #[.slice A0_0 l0_0.length c0_0,.int .i64 a0_1,.int .i64 a0_2,.int .i64 a0_3] 28 (0,0)) (bd_ BK246.out) hb);have n3_:=A0_ (below_step y9_ hb);have n4_:=A0_ (hbox);have n5_:=A0_ ((by rw [hg];exact (below_size y9_):w.heap.size≤gb255));have n6_:=A0_ ((by rw [hg];exact (below_size y9_):w.heap.size≤gb255));have n7_:=A0_ ((by rw [hg];exact Nat.ne_of_lt (blk_lt (g:=gb246) (o:=.cells #[.slice A0_0 l0_0.length c0_0,.int .i64 a0_1,.int .i64 a0_2,.int .i64 a0_3] 28 (0,0)) (bd_ BK246.out)):gb246≠gb255));have n8_:=A0_ ((by rw [hg];exact Nat.ne_of_gt (blk_lt (g:=gb246) (o:=.cells #[.slice A0_0 l0_0.length c0_0,.int .i64 a0_1,.int .i64 a0_2,.int .i64 a0_3] 28 (0,0)) (bd_ BK246.out)):gb255≠gb246));clear HO_12;clear HO_39;clear BK246;clear HB;have HO_12:=n0_;have HO_39:=n1_;have BK246:=n2_;have HB:=n3_;have BK255:=n4_;have GW255:=n5_;have GE255:=n6_;have NB246_255:=n7_;have NB255_246:=n8_;clear n0_ n1_ n2_ n3_ n4_ n5_ n6_ n7_ n8_;clear hb hbox hg;have hnb52:=NB255_246.out;have hnc52:=NB246_255.out;obtain ⟨hcz53_0,hcz53_1,hfz53_0,hfz53_1⟩:=bq2_ BK255.out;obtain ⟨hcz54_0,hcz54_1,hcz54_2,hcz54_3,hfz54_0,hfz54_1,hfz54_2,hfz54_3⟩:=bq4_ BK246.out)|((with_reducible refine gate_callee (f:=59) rfl ?_);refine goesL_ (some 53) rfl rfl Tryz.func59 (by kernel_rfl) rfl #[.agg #[.slice A0_0 l0_0.length c0_0,.int .i64 a0_1,.int .i64 a0_2,.int .i64 a0_3,.int .i64 ((rd_T51 t251 x41_2).f0)]] rfl y1_ ?_;(with_reducible refine (ss_far.calls k2 _ _ l0_0 a0_1 a0_2 a0_3 ((rd_T51 t251 x41_2).f0) t260 _ ?side1 ?side2 A48.out).mono ?_);(case side1=>exact Kd.C_below HR0_0.out yc_);(case side2=>exact HC0_0.out);rintro e w55 ⟨rfl,hb⟩;refine ⟨_,rfl,?_⟩;have n0_:=A0_ (Kd.R_below y46_ hb);have n1_:=A0_ (Kd.R_below y44_ hb);have n2_:=A0_ (blk_below (g:=gb246) (o:=.cells #[.slice A0_0 l0_0.length c0_0,.int .i64 a0_1,.int .i64 a0_2,.int .i64 a0_3] 28 (0,0)) y2n_ hb);have n3_:=A0_ (blk_below (g:=gb255) (o:=.cells #[.int .i64 ((rd_T51 t251 x41_2).f0),.bool false] 51 (0,0)) y2d_ hb);have n4_:=A0_ (below_step yc_ hb);clear HO_12;clear HO_39;clear BK246;clear BK255;clear HB;have HO_12:=n0_;have HO_39:=n1_;have BK246:=n2_;have BK255:=n3_;have HB:=n4_;clear n0_ n1_ n2_ n3_ n4_;(try clear hb);(try clear hb2);(try clear hk);(try clear hi);obtain ⟨hcz56_0,hcz56_1,hfz56_0,hfz56_1⟩:=bq2_ BK255.out)|((with_reducible refine gate_builtin (b:=.append) (xs:=#[.tmp 57,.tmp 64]) rfl ?_);at_builtin;refine Kd.R_append k54 (w0:=w) w.heap.size rfl (.tmp 57) (.tmp 64) 39 54 (.agg #[(.int .i64 0),(.bool false),(.int .i64 0)]) 24 rfl Tryz.underlying39 info54 rfl (by decide) (by omega) u12 x12_2 (⟨(rd_T51 t251 x41_2).f0,false,t260⟩:S54) [.int .i64 ((rd_T51 t251 x41_2).f0),.bool false,.int .i64 t260] (fun _=>True) (fun _=>False) rfl rfl ?aP (fun _ hk=>hk.elim) ?aF ?aO ?aB ?aS ?aL ?_;(case aP=>exact k54_mkM _ _ _ (⟨(rd_T51 t251 x41_2).f0,false,t260⟩:S54));(case aB=>exact yc_);(case aF=>exact (fun _ _=>trivial));(case aO=>exact (rd_ HO_12.out));(case aS=>exact (below_size yc_));(case aL=>have:=LMc50.out;omega);intro v262 w57 ho hb hg hat;rw [← Ny261.out] at ho;have n0_:=A0_ (Kd.R_over' (rd_ HO_39.out) (Kd.R_typed (rd_ HO_12.out)) (by decide) hg);have n1_:=A0_ (blk_grown (g:=gb246) (o:=.cells #[.slice A0_0 l0_0.length c0_0,.int .i64 a0_1,.int .i64 a0_2,.int .i64 a0_3] 28 (0,0)) (bd_ BK246.out) hg (Kd.R_ne HO_12.out BK246.out (by decide)));have n2_:=A0_ (blk_grown (g:=gb255) (o:=.cells #[.int .i64 ((rd_T51 t251 x41_2).f0),.bool false] 51 (0,0)) (bd_ BK255.out) hg (Kd.R_ne HO_12.out BK255.out (by decide)));have n3_:=A0_ (hb);have n4_:=A0_ (ho);clear HO_39;clear BK246;clear BK255;clear HB;clear HO_12;have HO_39:=n0_;have BK246:=n1_;have BK255:=n2_;have HB:=n3_;have HO263:=n4_;clear n0_ n1_ n2_ n3_ n4_;clear ho hb hg hat))
            go_roundg k2
            case measure=>have:=HJ5.out;have:=HK2.out;omega
            case rel=>exact ⟨(y261),(wrap64 (x41_2+1)),y5_,H',⟨by have:=HJ5.out;have:=HK2.out;omega⟩,⟨by (with_reducible repeat (first|apply Kd.R_alloc|apply Kd.R_drewN|apply Kd.R_drew));exact HO263.out⟩,⟨by (with_reducible repeat (first|apply Kd.R_alloc|apply Kd.R_drewN|apply Kd.R_drew));exact Kd.R_mono HO_39.out (fun _ hk=>trivial)⟩,⟨by (with_reducible repeat (first|refine blk_drewN ?_ _|refine blk_drew ?_|refine blk_alloc ?_ _));exact BK246.out⟩,⟨yc_⟩⟩
           ·rw [if_neg c50] at H;exact absurd H (by simp)
          ·rw [if_neg c49] at H;have c49b0:decide (t260≤a1)=false:=decide_eq_false c49;clear c49
           have H':=A0_ H
           clear H
           have p254:0≤(x41_2:Int):=of_decide_eq_true y6_
           have q254:x41_2<(t251.length:Int):=of_decide_eq_true y6_
           obtain ⟨ad254,e254,hx254_0,hx254_1⟩:=at_T51 (Kd.R_reads' HO_39.out).2.2 x41_2 p254 q254
           (try rw [← Nbq31.out] at hx254_1)
           cases e254
           replace p254:=eq_true p254
           replace q254:=eq_true q254
           go_wp2_with (first|((with_reducible refine gate_dst (N:=14) rfl ?_);refine box_event ?hg (N:=14) ?hd (cs:=#[.int .i64 0,.bool false]) (t:=51) ?hr ?_;(case hd=>rfl);(case hg=>rfl);(case hr=>first|(go_simp;done)|(go_simp;rfl));intro gb255 hg w58 hbox hb;have n0_:=A0_ (Kd.R_below (rd_ HO_12.out) hb);have n1_:=A0_ (Kd.R_below (Kd.R_elderB (rd_ HO_39.out) gb255 (Nat.le_of_eq hg.symm)) hb);have n2_:=A0_ (blk_below (g:=gb246) (o:=.cells #[.slice A0_0 l0_0.length c0_0,.int .i64 a0_1,.int .i64 a0_2,.int .i64 a0_3] 28 (0,0)) (bd_ BK246.out) hb);have n3_:=A0_ (below_step y9_ hb);have n4_:=A0_ (hbox);have n5_:=A0_ ((by rw [hg];exact (below_size y9_):w.heap.size≤gb255));have n6_:=A0_ ((by rw [hg];exact (below_size y9_):w.heap.size≤gb255));have n7_:=A0_ ((by rw [hg];exact Nat.ne_of_lt (blk_lt (g:=gb246) (o:=.cells #[.slice A0_0 l0_0.length c0_0,.int .i64 a0_1,.int .i64 a0_2,.int .i64 a0_3] 28 (0,0)) (bd_ BK246.out)):gb246≠gb255));have n8_:=A0_ ((by rw [hg];exact Nat.ne_of_gt (blk_lt (g:=gb246) (o:=.cells #[.slice A0_0 l0_0.length c0_0,.int .i64 a0_1,.int .i64 a0_2,.int .i64 a0_3] 28 (0,0)) (bd_ BK246.out)):gb255≠gb246));clear HO_12;clear HO_39;clear BK246;clear HB;have HO_12:=n0_;have HO_39:=n1_;have BK246:=n2_;have HB:=n3_;have BK255:=n4_;have GW255:=n5_;have GE255:=n6_;have NB246_255:=n7_;have NB255_246:=n8_;clear n0_ n1_ n2_ n3_ n4_ n5_ n6_ n7_ n8_;clear hb hbox hg;have hnb59:=NB255_246.out;have hnc59:=NB246_255.out;obtain ⟨hcz60_0,hcz60_1,hfz60_0,hfz60_1⟩:=bq2_ BK255.out;obtain ⟨hcz61_0,hcz61_1,hcz61_2,hcz61_3,hfz61_0,hfz61_1,hfz61_2,hfz61_3⟩:=bq4_ BK246.out)|((with_reducible refine gate_callee (f:=59) rfl ?_);refine goesL_ (some 53) rfl rfl Tryz.func59 (by kernel_rfl) rfl #[.agg #[.slice A0_0 l0_0.length c0_0,.int .i64 a0_1,.int .i64 a0_2,.int .i64 a0_3,.int .i64 ((rd_T51 t251 x41_2).f0)]] rfl y1_ ?_;(with_reducible refine (ss_far.calls k2 _ _ l0_0 a0_1 a0_2 a0_3 ((rd_T51 t251 x41_2).f0) t260 _ ?side1 ?side2 A48.out).mono ?_);(case side1=>exact Kd.C_below HR0_0.out yc_);(case side2=>exact HC0_0.out);rintro e w62 ⟨rfl,hb⟩;refine ⟨_,rfl,?_⟩;have n0_:=A0_ (Kd.R_below y46_ hb);have n1_:=A0_ (Kd.R_below y44_ hb);have n2_:=A0_ (blk_below (g:=gb246) (o:=.cells #[.slice A0_0 l0_0.length c0_0,.int .i64 a0_1,.int .i64 a0_2,.int .i64 a0_3] 28 (0,0)) y2n_ hb);have n3_:=A0_ (blk_below (g:=gb255) (o:=.cells #[.int .i64 ((rd_T51 t251 x41_2).f0),.bool false] 51 (0,0)) y2d_ hb);have n4_:=A0_ (below_step yc_ hb);clear HO_12;clear HO_39;clear BK246;clear BK255;clear HB;have HO_12:=n0_;have HO_39:=n1_;have BK246:=n2_;have BK255:=n3_;have HB:=n4_;clear n0_ n1_ n2_ n3_ n4_;(try clear hb);(try clear hb2);(try clear hk);(try clear hi)))
           go_roundg k2
           case measure=>have:=HJ5.out;have:=HK2.out;omega
           case rel=>exact ⟨(x12_2),(wrap64 (x41_2+1)),y5_,H',⟨by have:=HJ5.out;have:=HK2.out;omega⟩,⟨by (with_reducible repeat (first|apply Kd.R_alloc|apply Kd.R_drewN|apply Kd.R_drew));exact HO_12.out⟩,⟨by (with_reducible repeat (first|apply Kd.R_alloc|apply Kd.R_drewN|apply Kd.R_drew));exact Kd.R_mono HO_39.out (fun _ hk=>trivial)⟩,⟨by (with_reducible repeat (first|refine blk_drewN ?_ _|refine blk_drew ?_|refine blk_alloc ?_ _));exact BK246.out⟩,⟨yc_⟩⟩
        ·rw [if_neg c30] at H;exact absurd H (by simp)
       ·rw [if_neg c29] at H;exact absurd H (by simp)
      ·rw [if_neg c28] at H;have c28b0:decide (x41_2<(t251.length:Int))=false:=decide_eq_false c28;clear c28
       simp only [Option.some.injEq,Prod.mk.injEq] at H
       obtain ⟨rfl,rfl⟩:=H;go_wp2
       go_ret2
       exact ⟨_,y3_,by (with_reducible repeat (first|apply Kd.R_alloc|apply Kd.R_drewN|apply Kd.R_drew));exact HO_12.out,y9_⟩
def sky_line.l0:Nat→ByteArray→List Int→Int→Int→Option (ByteArray)
 |0,_,_,_,_=>none
 |k+1,x0,x7,x8,x9=>if x9<x8 then (if 0≤x9 then (if x9<(x7.length:Int) then ((strconv_Itoa.f (rd x7 x9)).bind fun t485=>(if 1+t485.size≤9223372036854775807 then (if x0.size+((⟨#[32]⟩:ByteArray) ++ t485).size≤9223372036854775807 then (sky_line.l0 k (x0 ++ ((⟨#[32]⟩:ByteArray) ++ t485)) x7 x8 (wrap64 (x9+1))) else (none)) else (none))) else (none)) else (none)) else (some x0)
def sky_line.f (k:Nat) (a0:ByteArray) (l1:List Int):Option (ByteArray):=sky_line.l0 k a0 l1 (l1.length:Int) 0
set_option maxHeartbeats 8000000 in
set_option maxRecDepth 100000 in
theorem sky_line.calls (k:Nat) (a0:ByteArray) (A1:Option Addr) (c1:Nat) (l1:List Int) (r:ByteArray) (w:World) (hr1:Kd.C (Kd.int .i64) w A1 l1.length l1) (hc1:l1.length≤c1) (h:sky_line.f k a0 l1=some r) (hLD:LD w):
  Calls Tryz.prog 117 #[.string a0,.slice A1 l1.length c1] w fun e w'=>e=.returned (.string r)∧Below w.heap.size w w':=by
 have HLD:=A0_ hLD;clear hLD;have HR1:=A0_ hr1;have HC1:=A0_ hc1;clear hr1 hc1
 have HB:=A0_ (Below.refl w.heap.size w)
 have H:(sky_line.l0 k a0 l1 (l1.length:Int) 0)=some r:=h
 clear h
 have H':=A0_ H
 clear H
 go_enter Tryz.func117,Tryz.ntmps117
 go_wp2
 go_loopg [0,9] k (fun kq v0 v9 w'=>∃ (x0_1:ByteArray) (x9_1:Int),v0=.string x0_1∧v9=.int .i64 x9_1∧Aside0 (sky_line.l0 kq x0_1 l1 (l1.length:Int) x9_1=some r)∧Aside0 (kq≤k)∧Aside0 (Below w.heap.size w w'))
 case atStart=>exact ⟨(a0),(0),y5_,y5_,H',⟨Nat.le_refl _⟩,⟨y0_⟩⟩
 case round=>
  clear H'
  (try clear c1);(try clear p2)
  obtain ⟨x0_1,x9_1,rfl,rfl,HA,HK1,HB⟩:=hrel
  cases gk with
  |zero=>exact absurd HA.out (by simp [sky_line.l0])
  |succ k1=>
   have H:=HA.out
   clear HA
   simp only [sky_line.l0] at H
   by_cases c3:x9_1<(l1.length:Int)
   ·rw [if_pos c3] at H;have c3b0:decide (x9_1<(l1.length:Int))=true:=decide_eq_true c3;clear c3
    by_cases c4:0≤x9_1
    ·rw [if_pos c4] at H;have c4b0:decide (0≤x9_1)=true:=decide_eq_true c4;clear c4
     by_cases c5:x9_1<(l1.length:Int)
     ·rw [if_pos c5] at H;have c5b0:decide (x9_1<(l1.length:Int))=true:=decide_eq_true c5;clear c5;replace H:=Option.bind_eq_some_iff.mp H;obtain ⟨t485,A60,H⟩:=H
      replace H:(if 1+t485.size≤9223372036854775807 then (if x0_1.size+((⟨#[32]⟩:ByteArray) ++ t485).size≤9223372036854775807 then (sky_line.l0 k1 (x0_1 ++ ((⟨#[32]⟩:ByteArray) ++ t485)) l1 (l1.length:Int) (wrap64 (x9_1+1))) else (none)) else (none))=some r:=H
      have A6:=A0_ A60;clear A60
      by_cases c7:1+t485.size≤9223372036854775807
      ·rw [if_pos c7] at H;have c7b0:=eq_true c7;have c7b1:decide (1+t485.size≤9223372036854775807)=true:=decide_eq_true c7
       try have c7b2:(9223372036854775807<1+t485.size)=False:=eq_false (Nat.not_lt.2 c7)
       by_cases c8:x0_1.size+((⟨#[32]⟩:ByteArray) ++ t485).size≤9223372036854775807
       ·rw [if_pos c8] at H
        have c8s:x0_1.size+(1+t485.size)≤9223372036854775807:=by
         have h_:=c8
         simp only [ByteArray.size_append] at h_
         exact h_
        have c8b0:=eq_true c8;have c8b1:decide (x0_1.size+((⟨#[32]⟩:ByteArray) ++ t485).size≤9223372036854775807)=true:=decide_eq_true c8
        try have c8b2:(9223372036854775807<x0_1.size+((⟨#[32]⟩:ByteArray) ++ t485).size)=False:=eq_false (Nat.not_lt.2 c8)
        have H':=A0_ H
        clear H
        have p484:0≤(x9_1:Int):=of_decide_eq_true y6_
        have q484:x9_1<(l1.length:Int):=of_decide_eq_true y6_
        obtain ⟨ad484,e484,hx484_0⟩:=Kd.at_int HR1.out x9_1 p484 q484
        cases e484
        replace hx484_0:=(HB.out.cell (World.block_lt_of_cell? w _ hx484_0)).trans hx484_0
        replace p484:=eq_true p484
        replace q484:=eq_true q484
        go_wp2_with (first|((with_reducible refine gate_callee (f:=119) rfl ?_);refine goesL_ (some 15) rfl rfl Tryz.func119 (by kernel_rfl) rfl #[.int .i64 (rd l1 x9_1)] rfl y1_ ?_;(with_reducible refine (strconv_Itoa.calls (rd l1 x9_1) t485 _ A6.out ?side1).mono ?_);(case side1=>exact LD.below HLD.out y0_);rintro e w9 ⟨rfl,hb⟩;refine ⟨_,rfl,?_⟩;have n0_:=A0_ (below_step y0_ hb);clear HB;have HB:=n0_;clear n0_;(try clear hb);(try clear hb2);(try clear hk);(try clear hi)))
        go_roundg k1
        case measure=>have:=HK1.out;omega
        case rel=>exact ⟨(x0_1 ++ ((⟨#[32]⟩:ByteArray) ++ t485)),(wrap64 (x9_1+1)),y5_,y5_,H',⟨by have:=HK1.out;omega⟩,⟨y0_⟩⟩
       ·rw [if_neg c8] at H;exact absurd H (by simp)
      ·rw [if_neg c7] at H;exact absurd H (by simp)
     ·rw [if_neg c5] at H;exact absurd H (by simp)
    ·rw [if_neg c4] at H;exact absurd H (by simp)
   ·rw [if_neg c3] at H;have c3b0:decide (x9_1<(l1.length:Int))=false:=decide_eq_false c3;clear c3;obtain rfl:=Option.some.inj H;go_wp2;go_ret
    exact ⟨y3_,y0_⟩
end Go.Proofs.YtaidphhkhddemaaGreatDoor.PSky
end
section
namespace Go.Proofs.YtaidphhkhddemaaGreatDoor.PSky
open Go.RowKit Go.Proofs.YtaidphhkhddemaaGreatDoorW.PrintWords Go.Proofs.YtaidphhkhddemaaGreatDoorW.PrintLast Go.Proofs.YtaidphhkhddemaaGreatDoorW.PrintMore
attribute [local go_sem] max2_int min2_int max_two min_two max_three min_three max_four min_four
set_option linter.unusedVariables false
set_option linter.unusedSimpArgs false
mutual
def sky_text.l0:Nat→List ByteArray→Int→Int→List (S83)→Int→Int→Int→Option (ByteArray)
 |0,_,_,_,_,_,_,_=>none
 |k+1,x3,x18,x19,x487000,x487001,x487002,x487003=>if x19<x18 then (if 0≤x19 then (if x19<(x487000.length:Int) then ((some (([(rd_T83 x487000 x19).f0.f0,(rd_T83 x487000 x19).f0.f1,(rd_T83 x487000 x19).f1]:List Int):List Int)).bind fun y496=>(if y496.length+((rd_T83 x487000 x19).f2).length<17592186044416 then ((sky_line.f k (⟨#[98,111,100,121]⟩:ByteArray) (y496 ++ ((rd_T83 x487000 x19).f2))).bind fun t502=>(if x3.length<8796093022208 then (sky_text.l0 k (x3 ++ [t502]) x18 (wrap64 (x19+1)) x487000 x487001 x487002 x487003) else (none))) else (none))) else (none)) else (none)) else ((sky_line.f k (⟨#[110,111,100,101]⟩:ByteArray) (([x487001,x487002,x487003]:List Int))).bind fun t509=>(if x3.length<8796093022208 then ((some (x3 ++ [t509]:List ByteArray)).bind fun y510=>(sky_text.l1 k y510 0 y510 (y510.length:Int) 0)) else (none)))
def sky_text.l1:Nat→List ByteArray→Int→List ByteArray→Int→Int→Option (ByteArray)
 |0,_,_,_,_,_=>none
 |k+1,x3,x6,x60,x61,x62=>if x62<x61 then (if 0≤x62 then (if x62<(x60.length:Int) then (sky_text.l2 k x3 x6 x62 (rdOf ByteArray.empty x60 x62) x60 x61 x62 ((rdOf ByteArray.empty x60 x62).size:Int) 0) else (none)) else (none)) else ((strings_Join.f x3 (⟨#[10]⟩:ByteArray)).bind fun t514=>(if t514.size+5≤9223372036854775807 then ((strconv_Itoa.f (wrap64 (Int.tdiv (Int.tmod x6 137) 100))).bind fun t515=>(if (t514 ++ (⟨#[10,101,110,100,32]⟩:ByteArray)).size+t515.size≤9223372036854775807 then ((strconv_Itoa.f (Int.tmod (wrap64 (Int.tdiv (Int.tmod x6 137) 10)) 10)).bind fun t516=>(if ((t514 ++ (⟨#[10,101,110,100,32]⟩:ByteArray)) ++ t515).size+t516.size≤9223372036854775807 then ((strconv_Itoa.f (Int.tmod (Int.tmod x6 137) 10)).bind fun t517=>(if (((t514 ++ (⟨#[10,101,110,100,32]⟩:ByteArray)) ++ t515) ++ t516).size+t517.size≤9223372036854775807 then (if ((((t514 ++ (⟨#[10,101,110,100,32]⟩:ByteArray)) ++ t515) ++ t516) ++ t517).size+1≤9223372036854775807 then (some (((((t514 ++ (⟨#[10,101,110,100,32]⟩:ByteArray)) ++ t515) ++ t516) ++ t517) ++ (⟨#[10]⟩:ByteArray))) else (none)) else (none))) else (none))) else (none))) else (none)))
def sky_text.l2:Nat→List ByteArray→Int→Int→ByteArray→List ByteArray→Int→Int→Int→Int→Option (ByteArray)
 |0,_,_,_,_,_,_,_,_,_=>none
 |k+1,x3,x6,x7,x8,x60,x61,x62,x68,x69=>if x69<x68 then (if 0≤x69 then (if x69<(x8.size:Int) then (sky_text.l2 k x3 (wrap64 (x6+(wrap64 ((wrap64 ((wrap64 (bt x8 x69))*(wrap64 (x69+1))))*(wrap64 (x7+1)))))) x7 x8 x60 x61 x62 x68 (wrap64 (x69+1))) else (none)) else (none)) else (sky_text.l1 k x3 x6 x60 x61 (wrap64 (x62+1)))
end
def sky_text.f (k:Nat) (l0_0:List (S83)) (a0_1:Int) (a0_2:Int) (a0_3:Int):Option (ByteArray):=(sky_line.f k (⟨#[115,107,121]⟩:ByteArray) (([(l0_0.length:Int)]:List Int))).bind fun t490=>(sky_text.l0 k (([t490]:List ByteArray)) (l0_0.length:Int) 0 l0_0 a0_1 a0_2 a0_3)
set_option maxHeartbeats 8000000 in
set_option maxRecDepth 100000 in
theorem sky_text.calls (k:Nat) (A0_0:Option Addr) (c0_0:Nat) (l0_0:List (S83)) (a0_1:Int) (a0_2:Int) (a0_3:Int) (r:ByteArray) (w:World) (hr0_0:Kd.C k83 w A0_0 l0_0.length l0_0) (hc0_0:l0_0.length≤c0_0) (h:sky_text.f k l0_0 a0_1 a0_2 a0_3=some r) (hLD:LD w):
  Calls Tryz.prog 84 #[.agg #[.slice A0_0 l0_0.length c0_0,.int .i64 a0_1,.int .i64 a0_2,.int .i64 a0_3]] w fun e w'=>e=.returned (.string r)∧Below w.heap.size w w':=by
 have HLD:=A0_ hLD;clear hLD
 have hu28:=Tryz.underlying28
 have hu83:=Tryz.underlying83
 have HR0_0:=A0_ hr0_0;have HC0_0:=A0_ hc0_0;clear hr0_0 hc0_0
 have HB:=A0_ (Below.refl w.heap.size w)
 have H:((sky_line.f k (⟨#[115,107,121]⟩:ByteArray) (([(l0_0.length:Int)]:List Int))).bind fun t490=>(sky_text.l0 k (([t490]:List ByteArray)) (l0_0.length:Int) 0 l0_0 a0_1 a0_2 a0_3))=some r:=h
 clear h
 obtain ⟨y487,hy487⟩:∃ y_:List Int,y_=(([(l0_0.length:Int)]:List Int)):=⟨_,rfl⟩
 replace H:((sky_line.f k (⟨#[115,107,121]⟩:ByteArray) y487).bind fun t490=>(sky_text.l0 k (([t490]:List ByteArray)) (l0_0.length:Int) 0 l0_0 a0_1 a0_2 a0_3))=some r:=by first|(rw [hy487];with_reducible exact H)|(have H2_:=(Option.bind_some _ _).symm.trans H;rw [hy487];with_reducible exact H2_)|(have H2_:=(Option.bind_some _ _).symm.trans H;with_reducible exact H2_)|with_reducible exact H|(rw [hy487];exact H)|exact H
 have Ny487:=A0_ hy487;clear hy487;replace H:=Option.bind_eq_some_iff.mp H;obtain ⟨t490,A20,H⟩:=H
 replace H:(sky_text.l0 k (([t490]:List ByteArray)) (l0_0.length:Int) 0 l0_0 a0_1 a0_2 a0_3)=some r:=H
 have A2:=A0_ A20;clear A20
 obtain ⟨y491,hy491⟩:∃ y_:List ByteArray,y_=(([t490]:List ByteArray)):=⟨_,rfl⟩
 replace H:(sky_text.l0 k y491 (l0_0.length:Int) 0 l0_0 a0_1 a0_2 a0_3)=some r:=by first|(rw [hy491];with_reducible exact H)|(have H2_:=(Option.bind_some _ _).symm.trans H;rw [hy491];with_reducible exact H2_)|(have H2_:=(Option.bind_some _ _).symm.trans H;with_reducible exact H2_)|with_reducible exact H|(rw [hy491];exact H)|exact H
 have Ny491:=A0_ hy491;clear hy491
 have H':=A0_ H
 clear H
 go_enter Tryz.func84,Tryz.ntmps84
 go_wp2_with (first|((with_reducible refine gate_dst (N:=1) rfl ?_);refine box_event ?hg (N:=1) ?hd (cs:=#[.slice A0_0 l0_0.length c0_0,.int .i64 a0_1,.int .i64 a0_2,.int .i64 a0_3]) (t:=28) ?hr ?_;(case hd=>rfl);(case hg=>rfl);(case hr=>first|(go_simp;done)|(go_simp;rfl));intro gb486 hg w3 hbox hb;have n0_:=A0_ (below_step y0_ hb);have n1_:=A0_ (hbox);have n2_:=A0_ ((by rw [hg];exact (below_size y0_):w.heap.size≤gb486));have n3_:=A0_ ((by rw [hg];exact (below_size y0_):w.heap.size≤gb486));clear HB;have HB:=n0_;have BK486:=n1_;have GW486:=n2_;have GE486:=n3_;clear n0_ n1_ n2_ n3_;clear hb hbox hg;obtain ⟨hcz4_0,hcz4_1,hcz4_2,hcz4_3,hfz4_0,hfz4_1,hfz4_2,hfz4_3⟩:=bq4_ BK486.out)|((with_reducible refine gate_dst (N:=13) rfl ?_);refine Kd.R_lit (Kd.int .i64) _ 3 ?hg (N:=13) ?hd (xs:=([(l0_0.length:Int)]:List Int)) (inner:=[.int .i64 (l0_0.length:Int)]) (ok:=fun _=>True) (okp:=fun _=>True) ?hr ?hp (fun _ hk=>hk) trivial (Below.refl _ _) (Nat.le_refl _) (by simp) ?_;(case hd=>rfl);(case hg=>rfl);(case hr=>first|(go_simp;done)|(go_simp;rfl));(case hp=>exact (Reps.one (show Kd.M (Kd.int .i64) _ _ _ (l0_0.length:Int) [.int .i64 (l0_0.length:Int)] from rfl) (Reps.none _ _)));intro v488 w5 ho6 hb hg_ hnew_;clear hg_ hnew_;(first|rw [← Ny487.out] at ho6|(simp only [Int.reduceToNat] at ho6;rw [← Ny487.out] at ho6));have n0_:=A0_ (Kd.R_lower ho6 (below_size y7_));have n1_:=A0_ (blk_below (g:=gb486) (o:=.cells #[.slice A0_0 l0_0.length c0_0,.int .i64 a0_1,.int .i64 a0_2,.int .i64 a0_3] 28 (0,0)) (bd_ BK486.out) hb);have n2_:=A0_ (below_step y7_ hb);clear BK486;clear HB;have HO489:=n0_;have BK486:=n1_;have HB:=n2_;clear n0_ n1_ n2_;clear hb ho6;obtain ⟨Ao7,co7,eo7⟩:=Kd.R_slice HO489.out;subst eo7)|((with_reducible refine gate_callee (f:=117) rfl ?_);refine goesL_ (some 14) rfl rfl Tryz.func117 (by kernel_rfl) rfl #[.string (⟨#[115,107,121]⟩:ByteArray),.slice Ao7 y487.length co7] rfl y1_ ?_;(with_reducible refine (sky_line.calls k (⟨#[115,107,121]⟩:ByteArray) _ _ y487 t490 _ ?side1 ?side2 A2.out ?side3).mono ?_);(case side1=>repeat (first|exact (Kd.R_reads' HO489.out).2.2|(with_reducible refine Kd.C_alloc ?_ _)|(with_reducible refine Kd.C_drewN ?_ _)|(with_reducible refine Kd.C_drew ?_)));(case side2=>exact (Kd.R_reads' HO489.out).2.1);(case side3=>exact LD.below HLD.out y7_);rintro e w8 ⟨rfl,hb⟩;refine ⟨_,rfl,?_⟩;have n0_:=A0_ (Kd.R_below (rd_ HO489.out) hb);have n1_:=A0_ (blk_below (g:=gb486) (o:=.cells #[.slice A0_0 l0_0.length c0_0,.int .i64 a0_1,.int .i64 a0_2,.int .i64 a0_3] 28 (0,0)) (bd_ BK486.out) hb);have n2_:=A0_ (below_step y7_ hb);clear HO489;clear BK486;clear HB;have HO489:=n0_;have BK486:=n1_;have HB:=n2_;clear n0_ n1_ n2_;(try clear hb);(try clear hb2);(try clear hk);(try clear hi))|((with_reducible refine gate_dst (N:=15) rfl ?_);refine Kd.R_lit Kd.string _ 9 ?hg (N:=15) ?hd (xs:=([t490]:List ByteArray)) (inner:=[.string t490]) (ok:=fun _=>True) (okp:=fun _=>True) ?hr ?hp (fun _ hk=>hk) trivial (Below.refl _ _) (Nat.le_refl _) (by simp) ?_;(case hd=>rfl);(case hg=>rfl);(case hr=>first|(go_simp;done)|(go_simp;rfl));(case hp=>exact (Reps.one (show Kd.M Kd.string _ _ _ t490 [.string t490] from rfl) (Reps.none _ _)));intro v492 w9 ho10 hb hg_ hnew_;clear hg_ hnew_;(first|rw [← Ny491.out] at ho10|(simp only [Int.reduceToNat] at ho10;rw [← Ny491.out] at ho10));have n0_:=A0_ (Kd.R_below (rd_ HO489.out) hb);have n1_:=A0_ (Kd.R_lower ho10 (below_size y7_));have n2_:=A0_ (blk_below (g:=gb486) (o:=.cells #[.slice A0_0 l0_0.length c0_0,.int .i64 a0_1,.int .i64 a0_2,.int .i64 a0_3] 28 (0,0)) (bd_ BK486.out) hb);have n3_:=A0_ (below_step y7_ hb);clear HO489;clear BK486;clear HB;have HO489:=n0_;have HO493:=n1_;have BK486:=n2_;have HB:=n3_;clear n0_ n1_ n2_ n3_;clear hb ho10;obtain ⟨hcz11_0,hcz11_1,hcz11_2,hcz11_3,hfz11_0,hfz11_1,hfz11_2,hfz11_3⟩:=bq4_ BK486.out))
 go_loopg [3,19] k (fun kq v3 v19 w'=>∃ (x3_1:List ByteArray) (x19_1:Int),v19=.int .i64 x19_1∧Aside0 (sky_text.l0 kq x3_1 (l0_0.length:Int) x19_1 l0_0 a0_1 a0_2 a0_3=some r)∧Aside0 (kq≤k)∧Aside0 (Kd.R Kd.string 9 w' w.heap.size (fun _=>True) v3 x3_1)∧Aside0 (w'.heap[gb486]?=some (.cells #[(.slice A0_0 l0_0.length c0_0),.int .i64 a0_1,.int .i64 a0_2,.int .i64 a0_3] 28 (0,0)))∧Aside0 (Below w.heap.size w w'))
 case atStart=>exact ⟨(y491),(0),y5_,H',⟨Nat.le_refl _⟩,⟨by (with_reducible repeat (first|apply Kd.R_alloc|apply Kd.R_drewN|apply Kd.R_drew));exact HO493.out⟩,⟨by (with_reducible repeat (first|refine blk_drewN ?_ _|refine blk_drew ?_|refine blk_alloc ?_ _));exact BK486.out⟩,⟨y7_⟩⟩
 case round=>
  clear H'
  (try clear c1);(try clear p2);(try clear c8);(try clear c11);(try clear hcz11_0);(try clear hcz11_1);(try clear hcz11_2);(try clear hcz11_3);(try clear hcz4_0);(try clear hcz4_1);(try clear hcz4_2);(try clear hcz4_3);(try clear hfz11_0);(try clear hfz11_1);(try clear hfz11_2);(try clear hfz11_3);(try clear hfz4_0);(try clear hfz4_1);(try clear hfz4_2);(try clear hfz4_3)
  obtain ⟨x3_1,x19_1,rfl,HA,HK1,HO_3,BK486,HB⟩:=hrel
  cases gk with
  |zero=>exact absurd HA.out (by simp [sky_text.l0])
  |succ k1=>
   have H:=HA.out
   clear HA
   simp only [sky_text.l0] at H
   by_cases c12:x19_1<(l0_0.length:Int)
   ·rw [if_pos c12] at H;have c12b0:decide (x19_1<(l0_0.length:Int))=true:=decide_eq_true c12;clear c12
    by_cases c13:0≤x19_1
    ·rw [if_pos c13] at H;have c13b0:decide (0≤x19_1)=true:=decide_eq_true c13;clear c13
     by_cases c14:x19_1<(l0_0.length:Int)
     ·rw [if_pos c14] at H;have c14b0:decide (x19_1<(l0_0.length:Int))=true:=decide_eq_true c14;clear c14
      obtain ⟨y496,hy496⟩:∃ y_:List Int,y_=(([(rd_T83 l0_0 x19_1).f0.f0,(rd_T83 l0_0 x19_1).f0.f1,(rd_T83 l0_0 x19_1).f1]:List Int)):=⟨_,rfl⟩
      replace H:(if y496.length+((rd_T83 l0_0 x19_1).f2).length<17592186044416 then ((sky_line.f k1 (⟨#[98,111,100,121]⟩:ByteArray) (y496 ++ ((rd_T83 l0_0 x19_1).f2))).bind fun t502=>(if x3_1.length<8796093022208 then (sky_text.l0 k1 (x3_1 ++ [t502]) (l0_0.length:Int) (wrap64 (x19_1+1)) l0_0 a0_1 a0_2 a0_3) else (none))) else (none))=some r:=by first|(rw [hy496];with_reducible exact H)|(have H2_:=(Option.bind_some _ _).symm.trans H;rw [hy496];with_reducible exact H2_)|(have H2_:=(Option.bind_some _ _).symm.trans H;with_reducible exact H2_)|with_reducible exact H|(rw [hy496];exact H)|exact H
      have Ny496:=A0_ hy496;clear hy496
      by_cases c15:y496.length+((rd_T83 l0_0 x19_1).f2).length<17592186044416
      ·rw [if_pos c15] at H;have LMc15:=A0_ c15;clear c15
       obtain ⟨y499,hy499⟩:∃ y_:List Int,y_=(y496 ++ ((rd_T83 l0_0 x19_1).f2)):=⟨_,rfl⟩
       replace H:((sky_line.f k1 (⟨#[98,111,100,121]⟩:ByteArray) y499).bind fun t502=>(if x3_1.length<8796093022208 then (sky_text.l0 k1 (x3_1 ++ [t502]) (l0_0.length:Int) (wrap64 (x19_1+1)) l0_0 a0_1 a0_2 a0_3) else (none)))=some r:=by first|(rw [hy499];with_reducible exact H)|(have H2_:=(Option.bind_some _ _).symm.trans H;rw [hy499];with_reducible exact H2_)|(have H2_:=(Option.bind_some _ _).symm.trans H;with_reducible exact H2_)|with_reducible exact H|(rw [hy499];exact H)|exact H
       have Ny499:=A0_ hy499;clear hy499;replace H:=Option.bind_eq_some_iff.mp H;obtain ⟨t502,A160,H⟩:=H
       replace H:(if x3_1.length<8796093022208 then (sky_text.l0 k1 (x3_1 ++ [t502]) (l0_0.length:Int) (wrap64 (x19_1+1)) l0_0 a0_1 a0_2 a0_3) else (none))=some r:=H
       have A16:=A0_ A160;clear A160
       by_cases c17:x3_1.length<8796093022208
       ·rw [if_pos c17] at H;have LMc17:=A0_ c17;clear c17
        obtain ⟨y503,hy503⟩:∃ y_:List ByteArray,y_=(x3_1 ++ [t502]):=⟨_,rfl⟩
        replace H:(sky_text.l0 k1 y503 (l0_0.length:Int) (wrap64 (x19_1+1)) l0_0 a0_1 a0_2 a0_3)=some r:=by first|(rw [hy503];with_reducible exact H)|(have H2_:=(Option.bind_some _ _).symm.trans H;rw [hy503];with_reducible exact H2_)|(have H2_:=(Option.bind_some _ _).symm.trans H;with_reducible exact H2_)|with_reducible exact H|(rw [hy503];exact H)|exact H
        have Ny503:=A0_ hy503;clear hy503
        have H':=A0_ H
        clear H;obtain ⟨hcz18_0,hcz18_1,hcz18_2,hcz18_3,hfz18_0,hfz18_1,hfz18_2,hfz18_3⟩:=bq4_ BK486.out
        have p494:0≤(x19_1:Int):=of_decide_eq_true y6_
        have q494:x19_1<(l0_0.length:Int):=of_decide_eq_true y6_
        obtain ⟨ad494,A494_3,c494_3,e494,hx494_0,hx494_1,hx494_2,hx494_3,hl494_3,hi494_3⟩:=at_T83 HR0_0.out x19_1 p494 q494
        cases e494
        replace hx494_0:=(HB.out.cell (World.block_lt_of_cell? w _ hx494_0)).trans hx494_0
        replace hx494_1:=(HB.out.cell (World.block_lt_of_cell? w _ hx494_1)).trans hx494_1
        replace hx494_2:=(HB.out.cell (World.block_lt_of_cell? w _ hx494_2)).trans hx494_2
        replace hx494_3:=(HB.out.cell (World.block_lt_of_cell? w _ hx494_3)).trans hx494_3
        have HR494_3:=A0_ hi494_3;have HC494_3:=A0_ hl494_3;clear hi494_3 hl494_3
        replace p494:=eq_true p494
        replace q494:=eq_true q494
        go_wp2_with (first|((with_reducible refine gate_dst (N:=5) rfl ?_);refine box_event ?hg (N:=5) ?hd (cs:=#[.int .i64 0,.int .i64 0,.int .i64 0,.slice none 0 0]) (t:=83) ?hr ?_;(case hd=>rfl);(case hg=>rfl);(case hr=>first|(go_simp;done)|(go_simp;rfl));intro gb495 hg w19 hbox hb;have n0_:=A0_ (Kd.R_below (rd_ HO_3.out) hb);have n1_:=A0_ (blk_below (g:=gb486) (o:=.cells #[.slice (some ad494) l0_0.length c0_0,.int .i64 a0_1,.int .i64 a0_2,.int .i64 a0_3] 28 (0,0)) (bd_ BK486.out) hb);have n2_:=A0_ (below_step y7_ hb);have n3_:=A0_ (hbox);have n4_:=A0_ ((by rw [hg];exact (below_size y7_):w.heap.size≤gb495));have n5_:=A0_ ((by rw [hg];exact (below_size y7_):w.heap.size≤gb495));have n6_:=A0_ ((by rw [hg];exact Nat.ne_of_lt (blk_lt (g:=gb486) (o:=.cells #[.slice (some ad494) l0_0.length c0_0,.int .i64 a0_1,.int .i64 a0_2,.int .i64 a0_3] 28 (0,0)) (bd_ BK486.out)):gb486≠gb495));have n7_:=A0_ ((by rw [hg];exact Nat.ne_of_gt (blk_lt (g:=gb486) (o:=.cells #[.slice (some ad494) l0_0.length c0_0,.int .i64 a0_1,.int .i64 a0_2,.int .i64 a0_3] 28 (0,0)) (bd_ BK486.out)):gb495≠gb486));clear HO_3;clear BK486;clear HB;have HO_3:=n0_;have BK486:=n1_;have HB:=n2_;have BK495:=n3_;have GW495:=n4_;have GE495:=n5_;have NB486_495:=n6_;have NB495_486:=n7_;clear n0_ n1_ n2_ n3_ n4_ n5_ n6_ n7_;clear hb hbox hg;have hnb20:=NB495_486.out;have hnc20:=NB486_495.out;obtain ⟨hcz21_0,hcz21_1,hcz21_2,hcz21_3,hfz21_0,hfz21_1,hfz21_2,hfz21_3⟩:=bq4_ BK495.out)|((with_reducible refine gate_dst (N:=36) rfl ?_);refine Kd.R_lit (Kd.int .i64) _ 3 ?hg (N:=36) ?hd (xs:=([(rd_T83 l0_0 x19_1).f0.f0,(rd_T83 l0_0 x19_1).f0.f1,(rd_T83 l0_0 x19_1).f1]:List Int)) (inner:=[.int .i64 ((rd_T83 l0_0 x19_1).f0.f0),.int .i64 ((rd_T83 l0_0 x19_1).f0.f1),.int .i64 ((rd_T83 l0_0 x19_1).f1)]) (ok:=fun _=>True) (okp:=fun _=>True) ?hr ?hp (fun _ hk=>hk) trivial (Below.refl _ _) (Nat.le_refl _) (by simp) ?_;(case hd=>rfl);(case hg=>rfl);(case hr=>first|(go_simp;done)|(go_simp;rfl));(case hp=>exact (Reps.one (show Kd.M (Kd.int .i64) _ _ _ ((rd_T83 l0_0 x19_1).f0.f0) [.int .i64 ((rd_T83 l0_0 x19_1).f0.f0)] from rfl) (Reps.one (show Kd.M (Kd.int .i64) _ _ _ ((rd_T83 l0_0 x19_1).f0.f1) [.int .i64 ((rd_T83 l0_0 x19_1).f0.f1)] from rfl) (Reps.one (show Kd.M (Kd.int .i64) _ _ _ ((rd_T83 l0_0 x19_1).f1) [.int .i64 ((rd_T83 l0_0 x19_1).f1)] from rfl) (Reps.none _ _)))));intro v497 w22 ho23 hb hg_ hnew_;clear hg_ hnew_;(first|rw [← Ny496.out] at ho23|(simp only [Int.reduceToNat] at ho23;rw [← Ny496.out] at ho23));have n0_:=A0_ (Kd.R_below (by (with_reducible repeat (first|apply Kd.R_alloc|apply Kd.R_drewN|apply Kd.R_drew));exact (Kd.R_mono (Kd.R_far (p:=⟨gb495,3,none⟩) (Kd.R_far (p:=⟨gb495,2,none⟩) (Kd.R_far (p:=⟨gb495,1,none⟩) (Kd.R_far (p:=⟨gb495,0,none⟩) (Kd.R_types HO_3.out BK495.out (by decide)) (fun _ hk=>hk.2) (.int .i64 ((rd_T83 l0_0 x19_1).f0.f0))) (fun _ hk=>hk.2) (.int .i64 ((rd_T83 l0_0 x19_1).f0.f1))) (fun _ hk=>hk.2) (.int .i64 ((rd_T83 l0_0 x19_1).f1))) (fun _ hk=>hk.2) (.slice A494_3 ((rd_T83 l0_0 x19_1).f2).length c494_3)) (fun _ h_=>h_.1))) hb);have n1_:=A0_ (Kd.R_lower ho23 (below_size y2a_));have n2_:=A0_ (blk_below (g:=gb486) (o:=.cells #[.slice (some ad494) l0_0.length c0_0,.int .i64 a0_1,.int .i64 a0_2,.int .i64 a0_3] 28 (0,0)) (by (with_reducible repeat (first|refine blk_drewN ?_ _|refine blk_drew ?_|refine blk_alloc ?_ _));refine blk_far ?_ NB486_495.out _;(with_reducible repeat (first|refine blk_drewN ?_ _|refine blk_drew ?_|refine blk_alloc ?_ _));refine blk_far ?_ NB486_495.out _;(with_reducible repeat (first|refine blk_drewN ?_ _|refine blk_drew ?_|refine blk_alloc ?_ _));refine blk_far ?_ NB486_495.out _;(with_reducible repeat (first|refine blk_drewN ?_ _|refine blk_drew ?_|refine blk_alloc ?_ _));refine blk_far ?_ NB486_495.out _;(with_reducible repeat (first|refine blk_drewN ?_ _|refine blk_drew ?_|refine blk_alloc ?_ _));exact BK486.out) hb);have n3_:=A0_ (blk_below (g:=gb495) (o:=.cells #[.int .i64 ((rd_T83 l0_0 x19_1).f0.f0),.int .i64 ((rd_T83 l0_0 x19_1).f0.f1),.int .i64 ((rd_T83 l0_0 x19_1).f1),.slice A494_3 ((rd_T83 l0_0 x19_1).f2).length c494_3] 83 (0,0)) (by (with_reducible repeat (first|refine blk_drewN ?_ _|refine blk_drew ?_|refine blk_alloc ?_ _));refine blk_put (cs:=#[.int .i64 ((rd_T83 l0_0 x19_1).f0.f0),.int .i64 ((rd_T83 l0_0 x19_1).f0.f1),.int .i64 ((rd_T83 l0_0 x19_1).f1),.slice none 0 0]) ?_ 3 _ rfl;(with_reducible repeat (first|refine blk_drewN ?_ _|refine blk_drew ?_|refine blk_alloc ?_ _));refine blk_put (cs:=#[.int .i64 ((rd_T83 l0_0 x19_1).f0.f0),.int .i64 ((rd_T83 l0_0 x19_1).f0.f1),.int .i64 0,.slice none 0 0]) ?_ 2 _ rfl;(with_reducible repeat (first|refine blk_drewN ?_ _|refine blk_drew ?_|refine blk_alloc ?_ _));refine blk_put (cs:=#[.int .i64 ((rd_T83 l0_0 x19_1).f0.f0),.int .i64 0,.int .i64 0,.slice none 0 0]) ?_ 1 _ rfl;(with_reducible repeat (first|refine blk_drewN ?_ _|refine blk_drew ?_|refine blk_alloc ?_ _));refine blk_put (cs:=#[.int .i64 0,.int .i64 0,.int .i64 0,.slice none 0 0]) ?_ 0 _ rfl;(with_reducible repeat (first|refine blk_drewN ?_ _|refine blk_drew ?_|refine blk_alloc ?_ _));exact BK495.out) hb);have n4_:=A0_ (below_step y2a_ hb);clear HO_3;clear BK486;clear BK495;clear HB;have HO_3:=n0_;have HO498:=n1_;have BK486:=n2_;have BK495:=n3_;have HB:=n4_;clear n0_ n1_ n2_ n3_ n4_;clear hb ho23;obtain ⟨hcz24_0,hcz24_1,hcz24_2,hcz24_3,hfz24_0,hfz24_1,hfz24_2,hfz24_3⟩:=bq4_ BK495.out)|((with_reducible refine gate_builtin (b:=.append) (xs:=#[.tmp 36,.tmp 38]) rfl ?_);at_builtin;refine Kd.R_append_rows (Kd.int .i64) (w0:=w) w.heap.size rfl (.tmp 36) (.tmp 38) 63 3 (.int .i64 0) 8 rfl Tryz.underlying63 info3 rfl (by decide) (by omega) v497 y496 ((rd_T83 l0_0 x19_1).f2) _ _ _ (fun _=>True) (fun _=>False) rfl rfl ?aO ?aR (fun _ _ h=>h) (fun _ h=>h.elim) ?aF ?aB ?aS ?aL ?_;(case aR=>repeat (first|exact (Kd.C_below HR494_3.out HB.out)|(with_reducible refine Kd.C_alloc ?_ _)|(with_reducible refine Kd.C_drewN ?_ _)|(with_reducible refine Kd.C_drew ?_)));(case aB=>exact y2a_);(case aF=>exact (fun _ _=>trivial));(case aO=>exact (rd_ HO498.out));(case aS=>exact (below_size y2a_));(case aL=>have:=LMc15.out;omega);intro v500 w25 ho hb hg hat;rw [← Ny499.out] at ho;have n0_:=A0_ (Kd.R_over' (rd_ HO_3.out) (Kd.R_typed (rd_ HO498.out)) (by decide) hg);have n1_:=A0_ (blk_grown (g:=gb486) (o:=.cells #[.slice (some ad494) l0_0.length c0_0,.int .i64 a0_1,.int .i64 a0_2,.int .i64 a0_3] 28 (0,0)) (bd_ BK486.out) hg (Kd.R_ne HO498.out BK486.out (by decide)));have n2_:=A0_ (blk_grown (g:=gb495) (o:=.cells #[.int .i64 ((rd_T83 l0_0 x19_1).f0.f0),.int .i64 ((rd_T83 l0_0 x19_1).f0.f1),.int .i64 ((rd_T83 l0_0 x19_1).f1),.slice A494_3 ((rd_T83 l0_0 x19_1).f2).length c494_3] 83 (0,0)) (bd_ BK495.out) hg (Kd.R_ne HO498.out BK495.out (by decide)));have n3_:=A0_ (hb);have n4_:=A0_ (ho);clear HO_3;clear BK486;clear BK495;clear HB;clear HO498;have HO_3:=n0_;have BK486:=n1_;have BK495:=n2_;have HB:=n3_;have HO501:=n4_;clear n0_ n1_ n2_ n3_ n4_;clear ho hb hg hat;obtain ⟨Ao26,co26,eo26⟩:=Kd.R_slice HO501.out;subst eo26)|((with_reducible refine gate_callee (f:=117) rfl ?_);refine goesL_ (some 40) rfl rfl Tryz.func117 (by kernel_rfl) rfl #[.string (⟨#[98,111,100,121]⟩:ByteArray),.slice Ao26 y499.length co26] rfl y1_ ?_;(with_reducible refine (sky_line.calls k1 (⟨#[98,111,100,121]⟩:ByteArray) _ _ y499 t502 _ ?side1 ?side2 A16.out ?side3).mono ?_);(case side1=>repeat (first|exact (Kd.R_reads' HO501.out).2.2|(with_reducible refine Kd.C_alloc ?_ _)|(with_reducible refine Kd.C_drewN ?_ _)|(with_reducible refine Kd.C_drew ?_)));(case side2=>exact (Kd.R_reads' HO501.out).2.1);(case side3=>exact LD.below HLD.out y2a_);rintro e w27 ⟨rfl,hb⟩;refine ⟨_,rfl,?_⟩;have n0_:=A0_ (Kd.R_below (rd_ HO_3.out) hb);have n1_:=A0_ (Kd.R_below (rd_ HO501.out) hb);have n2_:=A0_ (blk_below (g:=gb486) (o:=.cells #[.slice (some ad494) l0_0.length c0_0,.int .i64 a0_1,.int .i64 a0_2,.int .i64 a0_3] 28 (0,0)) (bd_ BK486.out) hb);have n3_:=A0_ (blk_below (g:=gb495) (o:=.cells #[.int .i64 ((rd_T83 l0_0 x19_1).f0.f0),.int .i64 ((rd_T83 l0_0 x19_1).f0.f1),.int .i64 ((rd_T83 l0_0 x19_1).f1),.slice A494_3 ((rd_T83 l0_0 x19_1).f2).length c494_3] 83 (0,0)) (bd_ BK495.out) hb);have n4_:=A0_ (below_step y2a_ hb);clear HO_3;clear HO501;clear BK486;clear BK495;clear HB;have HO_3:=n0_;have HO501:=n1_;have BK486:=n2_;have BK495:=n3_;have HB:=n4_;clear n0_ n1_ n2_ n3_ n4_;(try clear hb);(try clear hb2);(try clear hk);(try clear hi))|((with_reducible refine gate_builtin (b:=.append) (xs:=#[.tmp 27,.tmp 41]) rfl ?_);at_builtin;refine Kd.R_append Kd.string (w0:=w) w.heap.size rfl (.tmp 27) (.tmp 41) 112 9 (.string ⟨#[]⟩) 16 rfl Tryz.underlying112 info9 rfl (by decide) (by omega) u3 x3_1 t502 [.string t502] (fun _=>True) (fun _=>False) rfl rfl ?aP (fun _ hk=>hk.elim) ?aF ?aO ?aB ?aS ?aL ?_;(case aP=>exact rfl);(case aB=>exact y2a_);(case aF=>exact (fun _ _=>trivial));(case aO=>exact (rd_ HO_3.out));(case aS=>exact (below_size y2a_));(case aL=>have:=LMc17.out;omega);intro v504 w28 ho hb hg hat;rw [← Ny503.out] at ho;have n0_:=A0_ (blk_grown (g:=gb486) (o:=.cells #[.slice (some ad494) l0_0.length c0_0,.int .i64 a0_1,.int .i64 a0_2,.int .i64 a0_3] 28 (0,0)) (bd_ BK486.out) hg (Kd.R_ne HO_3.out BK486.out (by decide)));have n1_:=A0_ (blk_grown (g:=gb495) (o:=.cells #[.int .i64 ((rd_T83 l0_0 x19_1).f0.f0),.int .i64 ((rd_T83 l0_0 x19_1).f0.f1),.int .i64 ((rd_T83 l0_0 x19_1).f1),.slice A494_3 ((rd_T83 l0_0 x19_1).f2).length c494_3] 83 (0,0)) (bd_ BK495.out) hg (Kd.R_ne HO_3.out BK495.out (by decide)));have n2_:=A0_ (Kd.R_over' (rd_ HO501.out) (Kd.R_typed (rd_ HO_3.out)) (by decide) hg);have n3_:=A0_ (hb);have n4_:=A0_ (ho);clear BK486;clear BK495;clear HO501;clear HB;clear HO_3;have BK486:=n0_;have BK495:=n1_;have HO501:=n2_;have HB:=n3_;have HO505:=n4_;clear n0_ n1_ n2_ n3_ n4_;clear ho hb hg hat))
        go_roundg k1
        case measure=>have:=HK1.out;omega
        case rel=>exact ⟨(y503),(wrap64 (x19_1+1)),y5_,H',⟨by have:=HK1.out;omega⟩,⟨by (with_reducible repeat (first|apply Kd.R_alloc|apply Kd.R_drewN|apply Kd.R_drew));exact HO505.out⟩,⟨by (with_reducible repeat (first|refine blk_drewN ?_ _|refine blk_drew ?_|refine blk_alloc ?_ _));exact BK486.out⟩,⟨y2a_⟩⟩
       ·rw [if_neg c17] at H;exact absurd H (by simp)
      ·rw [if_neg c15] at H;exact absurd H (by simp)
     ·rw [if_neg c14] at H;exact absurd H (by simp)
    ·rw [if_neg c13] at H;exact absurd H (by simp)
   ·rw [if_neg c12] at H;have c12b0:decide (x19_1<(l0_0.length:Int))=false:=decide_eq_false c12;clear c12
    obtain ⟨y506,hy506⟩:∃ y_:List Int,y_=(([a0_1,a0_2,a0_3]:List Int)):=⟨_,rfl⟩
    replace H:((sky_line.f k1 (⟨#[110,111,100,101]⟩:ByteArray) y506).bind fun t509=>(if x3_1.length<8796093022208 then ((some (x3_1 ++ [t509]:List ByteArray)).bind fun y510=>(sky_text.l1 k1 y510 0 y510 (y510.length:Int) 0)) else (none)))=some r:=by first|(rw [hy506];with_reducible exact H)|(have H2_:=(Option.bind_some _ _).symm.trans H;rw [hy506];with_reducible exact H2_)|(have H2_:=(Option.bind_some _ _).symm.trans H;with_reducible exact H2_)|with_reducible exact H|(rw [hy506];exact H)|exact H
    have Ny506:=A0_ hy506;clear hy506;replace H:=Option.bind_eq_some_iff.mp H;obtain ⟨t509,A290,H⟩:=H
    replace H:(if x3_1.length<8796093022208 then ((some (x3_1 ++ [t509]:List ByteArray)).bind fun y510=>(sky_text.l1 k1 y510 0 y510 (y510.length:Int) 0)) else (none))=some r:=H
    have A29:=A0_ A290;clear A290
    by_cases c30:x3_1.length<8796093022208
    ·rw [if_pos c30] at H;have LMc30:=A0_ c30;clear c30
     obtain ⟨y510,hy510⟩:∃ y_:List ByteArray,y_=(x3_1 ++ [t509]):=⟨_,rfl⟩
     replace H:(sky_text.l1 k1 y510 0 y510 (y510.length:Int) 0)=some r:=by first|(rw [hy510];with_reducible exact H)|(have H2_:=(Option.bind_some _ _).symm.trans H;rw [hy510];with_reducible exact H2_)|(have H2_:=(Option.bind_some _ _).symm.trans H;with_reducible exact H2_)|with_reducible exact H|(rw [hy510];exact H)|exact H
     have Ny510:=A0_ hy510;clear hy510
     have H':=A0_ H
     clear H;obtain ⟨hcz31_0,hcz31_1,hcz31_2,hcz31_3,hfz31_0,hfz31_1,hfz31_2,hfz31_3⟩:=bq4_ BK486.out
     go_wp2_with (first|((with_reducible refine gate_dst (N:=56) rfl ?_);refine Kd.R_lit (Kd.int .i64) _ 3 ?hg (N:=56) ?hd (xs:=([a0_1,a0_2,a0_3]:List Int)) (inner:=[.int .i64 a0_1,.int .i64 a0_2,.int .i64 a0_3]) (ok:=fun _=>True) (okp:=fun _=>True) ?hr ?hp (fun _ hk=>hk) trivial (Below.refl _ _) (Nat.le_refl _) (by simp) ?_;(case hd=>rfl);(case hg=>rfl);(case hr=>first|(go_simp;done)|(go_simp;rfl));(case hp=>exact (Reps.one (show Kd.M (Kd.int .i64) _ _ _ a0_1 [.int .i64 a0_1] from rfl) (Reps.one (show Kd.M (Kd.int .i64) _ _ _ a0_2 [.int .i64 a0_2] from rfl) (Reps.one (show Kd.M (Kd.int .i64) _ _ _ a0_3 [.int .i64 a0_3] from rfl) (Reps.none _ _)))));intro v507 w32 ho33 hb hg_ hnew_;clear hg_ hnew_;(first|rw [← Ny506.out] at ho33|(simp only [Int.reduceToNat] at ho33;rw [← Ny506.out] at ho33));have n0_:=A0_ (Kd.R_below (rd_ HO_3.out) hb);have n1_:=A0_ (Kd.R_lower ho33 (below_size y7_));have n2_:=A0_ (blk_below (g:=gb486) (o:=.cells #[.slice A0_0 l0_0.length c0_0,.int .i64 a0_1,.int .i64 a0_2,.int .i64 a0_3] 28 (0,0)) (bd_ BK486.out) hb);have n3_:=A0_ (below_step y7_ hb);clear HO_3;clear BK486;clear HB;have HO_3:=n0_;have HO508:=n1_;have BK486:=n2_;have HB:=n3_;clear n0_ n1_ n2_ n3_;clear hb ho33;obtain ⟨Ao34,co34,eo34⟩:=Kd.R_slice HO508.out;subst eo34)|((with_reducible refine gate_callee (f:=117) rfl ?_);refine goesL_ (some 57) rfl rfl Tryz.func117 (by kernel_rfl) rfl #[.string (⟨#[110,111,100,101]⟩:ByteArray),.slice Ao34 y506.length co34] rfl y1_ ?_;(with_reducible refine (sky_line.calls k1 (⟨#[110,111,100,101]⟩:ByteArray) _ _ y506 t509 _ ?side1 ?side2 A29.out ?side3).mono ?_);(case side1=>repeat (first|exact (Kd.R_reads' HO508.out).2.2|(with_reducible refine Kd.C_alloc ?_ _)|(with_reducible refine Kd.C_drewN ?_ _)|(with_reducible refine Kd.C_drew ?_)));(case side2=>exact (Kd.R_reads' HO508.out).2.1);(case side3=>exact LD.below HLD.out y7_);rintro e w35 ⟨rfl,hb⟩;refine ⟨_,rfl,?_⟩;have n0_:=A0_ (Kd.R_below (rd_ HO_3.out) hb);have n1_:=A0_ (Kd.R_below (rd_ HO508.out) hb);have n2_:=A0_ (blk_below (g:=gb486) (o:=.cells #[.slice A0_0 l0_0.length c0_0,.int .i64 a0_1,.int .i64 a0_2,.int .i64 a0_3] 28 (0,0)) (bd_ BK486.out) hb);have n3_:=A0_ (below_step y7_ hb);clear HO_3;clear HO508;clear BK486;clear HB;have HO_3:=n0_;have HO508:=n1_;have BK486:=n2_;have HB:=n3_;clear n0_ n1_ n2_ n3_;(try clear hb);(try clear hb2);(try clear hk);(try clear hi))|((with_reducible refine gate_builtin (b:=.append) (xs:=#[.tmp 44,.tmp 58]) rfl ?_);at_builtin;refine Kd.R_append Kd.string (w0:=w) w.heap.size rfl (.tmp 44) (.tmp 58) 112 9 (.string ⟨#[]⟩) 16 rfl Tryz.underlying112 info9 rfl (by decide) (by omega) u3 x3_1 t509 [.string t509] (fun _=>True) (fun _=>False) rfl rfl ?aP (fun _ hk=>hk.elim) ?aF ?aO ?aB ?aS ?aL ?_;(case aP=>exact rfl);(case aB=>exact y7_);(case aF=>exact (fun _ _=>trivial));(case aO=>exact (rd_ HO_3.out));(case aS=>exact (below_size y7_));(case aL=>have:=LMc30.out;omega);intro v511 w36 ho hb hg hat;rw [← Ny510.out] at ho;have n0_:=A0_ (blk_grown (g:=gb486) (o:=.cells #[.slice A0_0 l0_0.length c0_0,.int .i64 a0_1,.int .i64 a0_2,.int .i64 a0_3] 28 (0,0)) (bd_ BK486.out) hg (Kd.R_ne HO_3.out BK486.out (by decide)));have n1_:=A0_ (Kd.R_over' (rd_ HO508.out) (Kd.R_typed (rd_ HO_3.out)) (by decide) hg);have n2_:=A0_ (hb);have n3_:=A0_ (ho);clear BK486;clear HO508;clear HB;clear HO_3;have BK486:=n0_;have HO508:=n1_;have HB:=n2_;have HO512:=n3_;clear n0_ n1_ n2_ n3_;clear ho hb hg hat;obtain ⟨Ao37,co37,eo37⟩:=Kd.R_slice HO512.out;subst eo37))
     go_loopg [6,62] k1 (fun kq v6 v62 w'=>∃ (x6_2:Int) (x62_2:Int),v6=.int .i64 x6_2∧v62=.int .i64 x62_2∧Aside0 (sky_text.l1 kq y510 x6_2 y510 (y510.length:Int) x62_2=some r)∧Aside0 (kq≤k1)∧Aside0 (Kd.R Kd.string 9 w' w.heap.size (fun _=>True) (.slice Ao37 y510.length co37) y510)∧Aside0 (Kd.R Kd.string 9 w' w.heap.size (fun _=>True) (.slice Ao37 y510.length co37) y510)∧Aside0 (w'.heap[gb486]?=some (.cells #[(.slice A0_0 l0_0.length c0_0),.int .i64 a0_1,.int .i64 a0_2,.int .i64 a0_3] 28 (0,0)))∧Aside0 (Below w.heap.size w w'))
     case atStart=>exact ⟨(0),(0),y5_,y5_,H',⟨Nat.le_refl _⟩,⟨by (with_reducible repeat (first|apply Kd.R_alloc|apply Kd.R_drewN|apply Kd.R_drew));exact HO512.out⟩,⟨by (with_reducible repeat (first|apply Kd.R_alloc|apply Kd.R_drewN|apply Kd.R_drew));exact HO512.out⟩,⟨by (with_reducible repeat (first|refine blk_drewN ?_ _|refine blk_drew ?_|refine blk_alloc ?_ _));exact BK486.out⟩,⟨y7_⟩⟩
     case round=>
      clear H'
      (try clear c1);(try clear c2);(try clear p2);(try clear c3);(try clear c4);(try clear p4);(try clear q4);(try clear hx4);(try clear p6);(try clear c8);(try clear c11);(try clear c12);(try clear c12b0);(try clear c13);(try clear c13b0);(try clear c14);(try clear c14b0);(try clear c15);(try clear c17);(try clear c20);(try clear c30);(try clear hcz11_0);(try clear hcz11_1);(try clear hcz11_2);(try clear hcz11_3);(try clear hcz18_0);(try clear hcz18_1);(try clear hcz18_2);(try clear hcz18_3);(try clear hcz21_0);(try clear hcz21_1);(try clear hcz21_2);(try clear hcz21_3);(try clear hcz24_0);(try clear hcz24_1);(try clear hcz24_2);(try clear hcz24_3);(try clear hcz31_0);(try clear hcz31_1);(try clear hcz31_2);(try clear hcz31_3);(try clear hcz4_0);(try clear hcz4_1);(try clear hcz4_2);(try clear hcz4_3);(try clear hfz11_0);(try clear hfz11_1);(try clear hfz11_2);(try clear hfz11_3);(try clear hfz18_0);(try clear hfz18_1);(try clear hfz18_2);(try clear hfz18_3);(try clear hfz21_0);(try clear hfz21_1);(try clear hfz21_2);(try clear hfz21_3);(try clear hfz24_0);(try clear hfz24_1);(try clear hfz24_2);(try clear hfz24_3);(try clear hfz31_0);(try clear hfz31_1);(try clear hfz31_2);(try clear hfz31_3);(try clear hfz4_0);(try clear hfz4_1);(try clear hfz4_2);(try clear hfz4_3);(try clear hx494_0);(try clear hx494_1);(try clear hx494_2);(try clear hx494_3);(try clear p2);(try clear p494);(try clear q494)
      obtain ⟨x6_2,x62_2,rfl,rfl,HA,HK2,HO_3,HO_60,BK486,HB⟩:=hrel
      cases gk with
      |zero=>exact absurd HA.out (by simp [sky_text.l1])
      |succ k2=>
       have H:=HA.out
       clear HA
       simp only [sky_text.l1] at H
       by_cases c38:x62_2<(y510.length:Int)
       ·rw [if_pos c38] at H;have c38b0:decide (x62_2<(y510.length:Int))=true:=decide_eq_true c38;clear c38
        by_cases c39:0≤x62_2
        ·rw [if_pos c39] at H;have c39b0:decide (0≤x62_2)=true:=decide_eq_true c39;clear c39
         by_cases c40:x62_2<(y510.length:Int)
         ·rw [if_pos c40] at H;have c40b0:decide (x62_2<(y510.length:Int))=true:=decide_eq_true c40;clear c40
          have H':=A0_ H
          clear H
          have p513:0≤(x62_2:Int):=of_decide_eq_true y6_
          have q513:x62_2<(y510.length:Int):=of_decide_eq_true y6_
          obtain ⟨ad513,e513,hx513_0⟩:=Kd.at_string (Kd.R_reads' HO_60.out).2.2 x62_2 p513 q513
          cases e513
          replace p513:=eq_true p513
          replace q513:=eq_true q513
          go_wp2
          go_loopg [6,69] k2 (fun kq v6 v69 w'=>∃ (x6_3:Int) (x69_3:Int),v6=.int .i64 x6_3∧v69=.int .i64 x69_3∧Aside0 (sky_text.l2 kq y510 x6_3 x62_2 (rdOf ByteArray.empty y510 x62_2) y510 (y510.length:Int) x62_2 ((rdOf ByteArray.empty y510 x62_2).size:Int) x69_3=some r)∧Aside0 (kq≤k2)∧Aside0 (Kd.R Kd.string 9 w' w.heap.size (fun _=>True) (.slice (some ad513) y510.length co37) y510)∧Aside0 (Kd.R Kd.string 9 w' w.heap.size (fun _=>True) (.slice (some ad513) y510.length co37) y510)∧Aside0 (w'.heap[gb486]?=some (.cells #[(.slice A0_0 l0_0.length c0_0),.int .i64 a0_1,.int .i64 a0_2,.int .i64 a0_3] 28 (0,0)))∧Aside0 (Below w.heap.size w w'))
          case atStart=>exact ⟨(x6_2),(0),y5_,y5_,H',⟨Nat.le_refl _⟩,⟨by (with_reducible repeat (first|apply Kd.R_alloc|apply Kd.R_drewN|apply Kd.R_drew));exact HO_3.out⟩,⟨by (with_reducible repeat (first|apply Kd.R_alloc|apply Kd.R_drewN|apply Kd.R_drew));exact HO_60.out⟩,⟨by (with_reducible repeat (first|refine blk_drewN ?_ _|refine blk_drew ?_|refine blk_alloc ?_ _));exact BK486.out⟩,⟨y7_⟩⟩
          case round=>
           clear H'
           (try clear c1);(try clear c2);(try clear p2);(try clear c3);(try clear c4);(try clear p4);(try clear q4);(try clear hx4);(try clear p5);(try clear q5);(try clear hx5);(try clear p6);(try clear c8);(try clear c11);(try clear c12);(try clear c12b0);(try clear c13);(try clear c13b0);(try clear c14);(try clear c14b0);(try clear c15);(try clear c17);(try clear c20);(try clear c30);(try clear c38);(try clear c38b0);(try clear c39);(try clear c39b0);(try clear c40);(try clear c40b0);(try clear hcz11_0);(try clear hcz11_1);(try clear hcz11_2);(try clear hcz11_3);(try clear hcz18_0);(try clear hcz18_1);(try clear hcz18_2);(try clear hcz18_3);(try clear hcz21_0);(try clear hcz21_1);(try clear hcz21_2);(try clear hcz21_3);(try clear hcz24_0);(try clear hcz24_1);(try clear hcz24_2);(try clear hcz24_3);(try clear hcz31_0);(try clear hcz31_1);(try clear hcz31_2);(try clear hcz31_3);(try clear hcz4_0);(try clear hcz4_1);(try clear hcz4_2);(try clear hcz4_3);(try clear hfz11_0);(try clear hfz11_1);(try clear hfz11_2);(try clear hfz11_3);(try clear hfz18_0);(try clear hfz18_1);(try clear hfz18_2);(try clear hfz18_3);(try clear hfz21_0);(try clear hfz21_1);(try clear hfz21_2);(try clear hfz21_3);(try clear hfz24_0);(try clear hfz24_1);(try clear hfz24_2);(try clear hfz24_3);(try clear hfz31_0);(try clear hfz31_1);(try clear hfz31_2);(try clear hfz31_3);(try clear hfz4_0);(try clear hfz4_1);(try clear hfz4_2);(try clear hfz4_3);(try clear hx494_0);(try clear hx494_1);(try clear hx494_2);(try clear hx494_3);(try clear hx513_0);(try clear p2);(try clear p4);(try clear p494);(try clear p513);(try clear p6);(try clear q4);(try clear q494);(try clear q513)
           obtain ⟨x6_3,x69_3,rfl,rfl,HA,HK3,HO_3,HO_60,BK486,HB⟩:=hrel
           cases gk with
           |zero=>exact absurd HA.out (by simp [sky_text.l2])
           |succ k3=>
            have H:=HA.out
            clear HA
            simp only [sky_text.l2] at H
            by_cases c41:x69_3<((rdOf ByteArray.empty y510 x62_2).size:Int)
            ·rw [if_pos c41] at H;have c41b0:decide (x69_3<((rdOf ByteArray.empty y510 x62_2).size:Int))=true:=decide_eq_true c41;clear c41
             by_cases c42:0≤x69_3
             ·rw [if_pos c42] at H;have c42b0:decide (0≤x69_3)=true:=decide_eq_true c42;clear c42
              by_cases c43:x69_3<((rdOf ByteArray.empty y510 x62_2).size:Int)
              ·rw [if_pos c43] at H;have c43b0:decide (x69_3<((rdOf ByteArray.empty y510 x62_2).size:Int))=true:=decide_eq_true c43;clear c43
               have H':=A0_ H
               clear H
               have p44:0≤(x69_3:Int):=of_decide_eq_true y6_
               have q44:x69_3<((rdOf ByteArray.empty y510 x62_2).size:Int):=of_decide_eq_true y6_
               have hx44:=bt_at (rdOf ByteArray.empty y510 x62_2) x69_3
               replace p44:=eq_true p44
               replace q44:=eq_true q44
               go_wp2
               go_roundg k3
               case measure=>have:=HK1.out;have:=HK2.out;have:=HK3.out;omega
               case rel=>exact ⟨(wrap64 (x6_3+(wrap64 ((wrap64 ((wrap64 (bt (rdOf ByteArray.empty y510 x62_2) x69_3))*(wrap64 (x69_3+1))))*(wrap64 (x62_2+1)))))),(wrap64 (x69_3+1)),y5_,y5_,H',⟨by have:=HK1.out;have:=HK2.out;have:=HK3.out;omega⟩,⟨by (with_reducible repeat (first|apply Kd.R_alloc|apply Kd.R_drewN|apply Kd.R_drew));exact HO_3.out⟩,⟨by (with_reducible repeat (first|apply Kd.R_alloc|apply Kd.R_drewN|apply Kd.R_drew));exact HO_60.out⟩,⟨by (with_reducible repeat (first|refine blk_drewN ?_ _|refine blk_drew ?_|refine blk_alloc ?_ _));exact BK486.out⟩,⟨y7_⟩⟩
              ·rw [if_neg c43] at H;exact absurd H (by simp)
             ·rw [if_neg c42] at H;exact absurd H (by simp)
            ·rw [if_neg c41] at H;have c41b0:decide (x69_3<((rdOf ByteArray.empty y510 x62_2).size:Int))=false:=decide_eq_false c41;clear c41
             have H':=A0_ H
             clear H;go_wp2
             go_roundg k3
             case measure=>have:=HK1.out;have:=HK2.out;have:=HK3.out;omega
             case rel=>exact ⟨(x6_3),(wrap64 (x62_2+1)),y5_,y5_,H',⟨by have:=HK1.out;have:=HK2.out;have:=HK3.out;omega⟩,⟨by (with_reducible repeat (first|apply Kd.R_alloc|apply Kd.R_drewN|apply Kd.R_drew));exact HO_3.out⟩,⟨by (with_reducible repeat (first|apply Kd.R_alloc|apply Kd.R_drewN|apply Kd.R_drew));exact HO_60.out⟩,⟨by (with_reducible repeat (first|refine blk_drewN ?_ _|refine blk_drew ?_|refine blk_alloc ?_ _));exact BK486.out⟩,⟨y7_⟩⟩
         ·rw [if_neg c40] at H;exact absurd H (by simp)
        ·rw [if_neg c39] at H;exact absurd H (by simp)
       ·rw [if_neg c38] at H;have c38b0:decide (x62_2<(y510.length:Int))=false:=decide_eq_false c38;clear c38;replace H:=Option.bind_eq_some_iff.mp H;obtain ⟨t514,A450,H⟩:=H
        replace H:(if t514.size+5≤9223372036854775807 then ((strconv_Itoa.f (wrap64 (Int.tdiv (Int.tmod x6_2 137) 100))).bind fun t515=>(if (t514 ++ (⟨#[10,101,110,100,32]⟩:ByteArray)).size+t515.size≤9223372036854775807 then ((strconv_Itoa.f (Int.tmod (wrap64 (Int.tdiv (Int.tmod x6_2 137) 10)) 10)).bind fun t516=>(if ((t514 ++ (⟨#[10,101,110,100,32]⟩:ByteArray)) ++ t515).size+t516.size≤9223372036854775807 then ((strconv_Itoa.f (Int.tmod (Int.tmod x6_2 137) 10)).bind fun t517=>(if (((t514 ++ (⟨#[10,101,110,100,32]⟩:ByteArray)) ++ t515) ++ t516).size+t517.size≤9223372036854775807 then (if ((((t514 ++ (⟨#[10,101,110,100,32]⟩:ByteArray)) ++ t515) ++ t516) ++ t517).size+1≤9223372036854775807 then (some (((((t514 ++ (⟨#[10,101,110,100,32]⟩:ByteArray)) ++ t515) ++ t516) ++ t517) ++ (⟨#[10]⟩:ByteArray))) else (none)) else (none))) else (none))) else (none))) else (none))=some r:=H
        have A45:=A0_ A450;clear A450
        by_cases c46:t514.size+5≤9223372036854775807
        ·rw [if_pos c46] at H;have c46b0:=eq_true c46;have c46b1:decide (t514.size+5≤9223372036854775807)=true:=decide_eq_true c46
         try have c46b2:(9223372036854775807<t514.size+5)=False:=eq_false (Nat.not_lt.2 c46)
         replace H:=Option.bind_eq_some_iff.mp H;obtain ⟨t515,A470,H⟩:=H
         replace H:(if (t514 ++ (⟨#[10,101,110,100,32]⟩:ByteArray)).size+t515.size≤9223372036854775807 then ((strconv_Itoa.f (Int.tmod (wrap64 (Int.tdiv (Int.tmod x6_2 137) 10)) 10)).bind fun t516=>(if ((t514 ++ (⟨#[10,101,110,100,32]⟩:ByteArray)) ++ t515).size+t516.size≤9223372036854775807 then ((strconv_Itoa.f (Int.tmod (Int.tmod x6_2 137) 10)).bind fun t517=>(if (((t514 ++ (⟨#[10,101,110,100,32]⟩:ByteArray)) ++ t515) ++ t516).size+t517.size≤9223372036854775807 then (if ((((t514 ++ (⟨#[10,101,110,100,32]⟩:ByteArray)) ++ t515) ++ t516) ++ t517).size+1≤9223372036854775807 then (some (((((t514 ++ (⟨#[10,101,110,100,32]⟩:ByteArray)) ++ t515) ++ t516) ++ t517) ++ (⟨#[10]⟩:ByteArray))) else (none)) else (none))) else (none))) else (none))=some r:=H
         have A47:=A0_ A470;clear A470
         by_cases c48:(t514 ++ (⟨#[10,101,110,100,32]⟩:ByteArray)).size+t515.size≤9223372036854775807
         ·rw [if_pos c48] at H
          have c48s:t514.size+5+t515.size≤9223372036854775807:=by
           have h_:=c48
           simp only [ByteArray.size_append] at h_
           exact h_
          have c48b0:=eq_true c48;have c48b1:decide ((t514 ++ (⟨#[10,101,110,100,32]⟩:ByteArray)).size+t515.size≤9223372036854775807)=true:=decide_eq_true c48
          try have c48b2:(9223372036854775807<(t514 ++ (⟨#[10,101,110,100,32]⟩:ByteArray)).size+t515.size)=False:=eq_false (Nat.not_lt.2 c48)
          replace H:=Option.bind_eq_some_iff.mp H;obtain ⟨t516,A490,H⟩:=H
          replace H:(if ((t514 ++ (⟨#[10,101,110,100,32]⟩:ByteArray)) ++ t515).size+t516.size≤9223372036854775807 then ((strconv_Itoa.f (Int.tmod (Int.tmod x6_2 137) 10)).bind fun t517=>(if (((t514 ++ (⟨#[10,101,110,100,32]⟩:ByteArray)) ++ t515) ++ t516).size+t517.size≤9223372036854775807 then (if ((((t514 ++ (⟨#[10,101,110,100,32]⟩:ByteArray)) ++ t515) ++ t516) ++ t517).size+1≤9223372036854775807 then (some (((((t514 ++ (⟨#[10,101,110,100,32]⟩:ByteArray)) ++ t515) ++ t516) ++ t517) ++ (⟨#[10]⟩:ByteArray))) else (none)) else (none))) else (none))=some r:=H
          have A49:=A0_ A490;clear A490
          by_cases c50:((t514 ++ (⟨#[10,101,110,100,32]⟩:ByteArray)) ++ t515).size+t516.size≤9223372036854775807
          ·rw [if_pos c50] at H
           have c50s:t514.size+5+t515.size+t516.size≤9223372036854775807:=by
            have h_:=c50
            simp only [ByteArray.size_append] at h_
            exact h_
           have c50b0:=eq_true c50;have c50b1:decide (((t514 ++ (⟨#[10,101,110,100,32]⟩:ByteArray)) ++ t515).size+t516.size≤9223372036854775807)=true:=decide_eq_true c50
           try have c50b2:(9223372036854775807<((t514 ++ (⟨#[10,101,110,100,32]⟩:ByteArray)) ++ t515).size+t516.size)=False:=eq_false (Nat.not_lt.2 c50)
           replace H:=Option.bind_eq_some_iff.mp H;obtain ⟨t517,A510,H⟩:=H
           replace H:(if (((t514 ++ (⟨#[10,101,110,100,32]⟩:ByteArray)) ++ t515) ++ t516).size+t517.size≤9223372036854775807 then (if ((((t514 ++ (⟨#[10,101,110,100,32]⟩:ByteArray)) ++ t515) ++ t516) ++ t517).size+1≤9223372036854775807 then (some (((((t514 ++ (⟨#[10,101,110,100,32]⟩:ByteArray)) ++ t515) ++ t516) ++ t517) ++ (⟨#[10]⟩:ByteArray))) else (none)) else (none))=some r:=H
           have A51:=A0_ A510;clear A510
           by_cases c52:(((t514 ++ (⟨#[10,101,110,100,32]⟩:ByteArray)) ++ t515) ++ t516).size+t517.size≤9223372036854775807
           ·rw [if_pos c52] at H
            have c52s:t514.size+5+t515.size+t516.size+t517.size≤9223372036854775807:=by
             have h_:=c52
             simp only [ByteArray.size_append] at h_
             exact h_
            have c52b0:=eq_true c52;have c52b1:decide ((((t514 ++ (⟨#[10,101,110,100,32]⟩:ByteArray)) ++ t515) ++ t516).size+t517.size≤9223372036854775807)=true:=decide_eq_true c52
            try have c52b2:(9223372036854775807<(((t514 ++ (⟨#[10,101,110,100,32]⟩:ByteArray)) ++ t515) ++ t516).size+t517.size)=False:=eq_false (Nat.not_lt.2 c52)
            by_cases c53:((((t514 ++ (⟨#[10,101,110,100,32]⟩:ByteArray)) ++ t515) ++ t516) ++ t517).size+1≤9223372036854775807
            ·rw [if_pos c53] at H
             have c53s:t514.size+5+t515.size+t516.size+t517.size+1≤9223372036854775807:=by
              have h_:=c53
              simp only [ByteArray.size_append] at h_
              exact h_
             have c53b0:=eq_true c53;have c53b1:decide (((((t514 ++ (⟨#[10,101,110,100,32]⟩:ByteArray)) ++ t515) ++ t516) ++ t517).size+1≤9223372036854775807)=true:=decide_eq_true c53
             try have c53b2:(9223372036854775807<((((t514 ++ (⟨#[10,101,110,100,32]⟩:ByteArray)) ++ t515) ++ t516) ++ t517).size+1)=False:=eq_false (Nat.not_lt.2 c53)
             obtain rfl:=Option.some.inj H
             go_wp2_with (first|((with_reducible refine gate_callee (f:=118) rfl ?_);refine goesL_ (some 89) rfl rfl Tryz.func118 (by kernel_rfl) rfl #[.slice Ao37 y510.length co37,.string (⟨#[10]⟩:ByteArray)] rfl y1_ ?_;(with_reducible refine (strings_Join.calls _ _ y510 (⟨#[10]⟩:ByteArray) t514 _ ?side1 ?side2 A45.out).mono ?_);(case side1=>repeat (first|exact (Kd.R_reads' HO_3.out).2.2|(with_reducible refine Kd.C_alloc ?_ _)|(with_reducible refine Kd.C_drewN ?_ _)|(with_reducible refine Kd.C_drew ?_)));(case side2=>exact (Kd.R_reads' HO_3.out).2.1);rintro e w54 ⟨rfl,hb⟩;refine ⟨_,rfl,?_⟩;have n0_:=A0_ (Kd.R_below (rd_ HO_3.out) hb);have n1_:=A0_ (Kd.R_below (rd_ HO_60.out) hb);have n2_:=A0_ (blk_below (g:=gb486) (o:=.cells #[.slice A0_0 l0_0.length c0_0,.int .i64 a0_1,.int .i64 a0_2,.int .i64 a0_3] 28 (0,0)) (bd_ BK486.out) hb);have n3_:=A0_ (below_step y7_ hb);clear HO_3;clear HO_60;clear BK486;clear HB;have HO_3:=n0_;have HO_60:=n1_;have BK486:=n2_;have HB:=n3_;clear n0_ n1_ n2_ n3_;(try clear hb);(try clear hb2);(try clear hk);(try clear hi))|((with_reducible refine gate_callee (f:=119) rfl ?_);refine goesL_ (some 93) rfl rfl Tryz.func119 (by kernel_rfl) rfl #[.int .i64 (wrap64 (Int.tdiv (Int.tmod x6_2 137) 100))] rfl y1_ ?_;(with_reducible refine (strconv_Itoa.calls (wrap64 (Int.tdiv (Int.tmod x6_2 137) 100)) t515 _ A47.out ?side1).mono ?_);(case side1=>exact LD.below HLD.out y7_);rintro e w55 ⟨rfl,hb⟩;refine ⟨_,rfl,?_⟩;have n0_:=A0_ (Kd.R_below (rd_ HO_3.out) hb);have n1_:=A0_ (Kd.R_below (rd_ HO_60.out) hb);have n2_:=A0_ (blk_below (g:=gb486) (o:=.cells #[.slice A0_0 l0_0.length c0_0,.int .i64 a0_1,.int .i64 a0_2,.int .i64 a0_3] 28 (0,0)) (bd_ BK486.out) hb);have n3_:=A0_ (below_step y7_ hb);clear HO_3;clear HO_60;clear BK486;clear HB;have HO_3:=n0_;have HO_60:=n1_;have BK486:=n2_;have HB:=n3_;clear n0_ n1_ n2_ n3_;(try clear hb);(try clear hb2);(try clear hk);(try clear hi))|((with_reducible refine gate_callee (f:=119) rfl ?_);refine goesL_ (some 98) rfl rfl Tryz.func119 (by kernel_rfl) rfl #[.int .i64 (Int.tmod (wrap64 (Int.tdiv (Int.tmod x6_2 137) 10)) 10)] rfl y1_ ?_;(with_reducible refine (strconv_Itoa.calls (Int.tmod (wrap64 (Int.tdiv (Int.tmod x6_2 137) 10)) 10) t516 _ A49.out ?side1).mono ?_);(case side1=>exact LD.below HLD.out y7_);rintro e w56 ⟨rfl,hb⟩;refine ⟨_,rfl,?_⟩;have n0_:=A0_ (Kd.R_below (rd_ HO_3.out) hb);have n1_:=A0_ (Kd.R_below (rd_ HO_60.out) hb);have n2_:=A0_ (blk_below (g:=gb486) (o:=.cells #[.slice A0_0 l0_0.length c0_0,.int .i64 a0_1,.int .i64 a0_2,.int .i64 a0_3] 28 (0,0)) (bd_ BK486.out) hb);have n3_:=A0_ (below_step y7_ hb);clear HO_3;clear HO_60;clear BK486;clear HB;have HO_3:=n0_;have HO_60:=n1_;have BK486:=n2_;have HB:=n3_;clear n0_ n1_ n2_ n3_;(try clear hb);(try clear hb2);(try clear hk);(try clear hi))|((with_reducible refine gate_callee (f:=119) rfl ?_);refine goesL_ (some 102) rfl rfl Tryz.func119 (by kernel_rfl) rfl #[.int .i64 (Int.tmod (Int.tmod x6_2 137) 10)] rfl y1_ ?_;(with_reducible refine (strconv_Itoa.calls (Int.tmod (Int.tmod x6_2 137) 10) t517 _ A51.out ?side1).mono ?_);(case side1=>exact LD.below HLD.out y7_);rintro e w57 ⟨rfl,hb⟩;refine ⟨_,rfl,?_⟩;have n0_:=A0_ (Kd.R_below (rd_ HO_3.out) hb);have n1_:=A0_ (Kd.R_below (rd_ HO_60.out) hb);have n2_:=A0_ (blk_below (g:=gb486) (o:=.cells #[.slice A0_0 l0_0.length c0_0,.int .i64 a0_1,.int .i64 a0_2,.int .i64 a0_3] 28 (0,0)) (bd_ BK486.out) hb);have n3_:=A0_ (below_step y7_ hb);clear HO_3;clear HO_60;clear BK486;clear HB;have HO_3:=n0_;have HO_60:=n1_;have BK486:=n2_;have HB:=n3_;clear n0_ n1_ n2_ n3_;(try clear hb);(try clear hb2);(try clear hk);(try clear hi)))
             go_ret
             exact ⟨y3_,y7_⟩
            ·rw [if_neg c53] at H;exact absurd H (by simp)
           ·rw [if_neg c52] at H;exact absurd H (by simp)
          ·rw [if_neg c50] at H;exact absurd H (by simp)
         ·rw [if_neg c48] at H;exact absurd H (by simp)
        ·rw [if_neg c46] at H;exact absurd H (by simp)
    ·rw [if_neg c30] at H;exact absurd H (by simp)
end Go.Proofs.YtaidphhkhddemaaGreatDoor.PSky
end
section
namespace Go.Proofs.YtaidphhkhddemaaGreatDoor.PSky
open Go.RowKit Go.Proofs.YtaidphhkhddemaaGreatDoorW.PrintWords Go.Proofs.YtaidphhkhddemaaGreatDoorW.PrintLast Go.Proofs.YtaidphhkhddemaaGreatDoorW.PrintMore
set_option maxRecDepth 100000 in
theorem try_idle (p:Addr) (w:World):
  CallsD Tryz.prog 112 #[.pointer (some p)] .returning w fun e u' w'=>e=.returned (.tuple #[])∧u'=.returning∧w'=w:=by
 refine callsD_of_wpS Tryz.func112 rfl fun c₀ cs hu=>?_
 simp only [Tryz.ntmps112,List.size_toArray,List.length_cons,List.length_nil,Nat.reduceAdd,Nat.reduceSub,Array.replicate_succ,
   Array.replicate_zero,List.push_toArray,List.append_toArray,List.nil_append,List.cons_append]
 apply wpS_seq
 apply wpS_region
 simp [wpOpsS,go_sem,recoverD,hu,Exit.thenS]
 refine wpS_of_wp ?_
 go_wp2
 cases c₀
 simp_all [bodyPostS,results,Tryz.results112]
set_option maxRecDepth 100000 in
theorem try_panicking (bk:Nat) (x n:Int) (older:List PanicEntry) (w:World) (hc:w.cell? ⟨bk,0,none⟩=some (.int .i64 x)) (hz:w.frozen? ⟨bk,0,none⟩=false):
  CallsD Tryz.prog 112 #[.pointer (some ⟨bk,0,none⟩)] (.panicking ({ v:=.iface 121 (.agg #[.int .i64 n]),recovered:=false } :: older)) w fun e u' w'=>
   e=.returned (.tuple #[])∧u'=.panicking ({ v:=.iface 121 (.agg #[.int .i64 n]),recovered:=true } :: older) ∧
    w'=(w.setCell ⟨bk,0,none⟩ (.int .i64 n)).alloc (.cells #[.int .i64 n] 121):=by
 refine callsD_of_wpS Tryz.func112 rfl fun c₀ cs hu=>?_
 simp only [Tryz.ntmps112,List.size_toArray,List.length_cons,List.length_nil,Nat.reduceAdd,Nat.reduceSub,Array.replicate_succ,
   Array.replicate_zero,List.push_toArray,List.append_toArray,List.nil_append,List.cons_append]
 apply wpS_seq
 apply wpS_region
 simp [wpOpsS,go_sem,recoverD,hu,Exit.thenS]
 refine wpS_of_wp ?_
 have hta:∀ (x:Value) (W:World),(Instr.typeAssert (.iface 121 (.agg #[x])) 20 121 true).run Tryz.prog W=.ok (.tuple #[(.agg #[x]),.bool true]) W:=fun _ _=>by kernel_rfl
 have hlt:bk<w.heap.size:=World.block_lt_of_cell? w ⟨bk,0,none⟩ hc
 have hne:bk≠w.heap.size:=Nat.ne_of_lt hlt
 go_wp2
 cases c₀
 simp_all [bodyPostS,results,Tryz.results112]
set_option maxRecDepth 100000 in
theorem try_done (g:FuncId) (lb:Array Value) (w:World) (R:World→Prop) (hg:∀ W,(callFunc g lb).run Tryz.prog W=.ok (.enter g lb) W)
  (hdo:Calls Tryz.prog g lb (w.alloc (.cells #[.int .i64 0] 32)) fun e w'=>e=.returned (.tuple #[])∧w'.cell? ⟨w.heap.size,0,none⟩=some (.int .i64 0)∧w'.frozen? ⟨w.heap.size,0,none⟩=false∧R w'):
  Calls Tryz.prog 67 #[.func (.func g) #[] lb] w fun e w'=>e=.returned (.int .i64 0)∧∃ w1,R w1∧w'=w1.setCell ⟨w.heap.size,0,none⟩ (.int .i64 0):=by
 have hmf:∀ (fn:Fn) (first cap:Array Value) (w:World),(Instr.makeFunc fn first cap).run Tryz.prog w=.ok (.func fn first cap) w:=fun _ _ _ _=>rfl
 go_enter_defers Tryz.func67,Tryz.ntmps67
 go_wp2_with fail
 refine hdo.mono ?_
 rintro e w1 ⟨rfl,hc,hz,hR⟩
 go_wp2
 refine leaves_cons (f:=112) (args:=#[.pointer (some ⟨w.heap.size,0,none⟩)]) (by simp) (by simp [go_sem]) ?_
 refine (try_idle _ _).mono ?_
 rintro e u' w'' ⟨rfl,rfl,rfl⟩
 simp [Leaves,settle,results,Tryz.results67,go_sem,hc]
 exact ⟨w1,hR,rfl⟩
set_option maxRecDepth 100000 in
theorem try_gaveUp (g:FuncId) (lb:Array Value) (n:Int) (w:World) (R:World→Prop) (hg:∀ W,(callFunc g lb).run Tryz.prog W=.ok (.enter g lb) W)
  (hdo:Calls Tryz.prog g lb (w.alloc (.cells #[.int .i64 0] 32)) fun e w'=>e=.panicked [{ v:=.iface 121 (.agg #[.int .i64 n]),recovered:=false }]∧w'.cell? ⟨w.heap.size,0,none⟩=some (.int .i64 0)∧w'.frozen? ⟨w.heap.size,0,none⟩=false∧R w'):
  Calls Tryz.prog 67 #[.func (.func g) #[] lb] w fun e w'=>e=.returned (.int .i64 n)∧∃ w1,R w1∧w'=(w1.setCell ⟨w.heap.size,0,none⟩ (.int .i64 n)).alloc (.cells #[.int .i64 n] 121):=by
 have hmf:∀ (fn:Fn) (first cap:Array Value) (w:World),(Instr.makeFunc fn first cap).run Tryz.prog w=.ok (.func fn first cap) w:=fun _ _ _ _=>rfl
 go_enter_defers Tryz.func67,Tryz.ntmps67
 go_wp2_with fail
 refine hdo.mono ?_
 rintro e w1 ⟨rfl,hc,hz,hR⟩
 go_wp2
 refine leaves_cons (f:=112) (args:=#[.pointer (some ⟨w.heap.size,0,none⟩)]) (by simp) (by simp [go_sem]) ?_
 refine (try_panicking _ _ _ _ _ hc hz).mono ?_
 rintro e u' w'' ⟨rfl,rfl,rfl⟩
 have hlt:w.heap.size<w1.heap.size:=World.block_lt_of_cell? w1 ⟨w.heap.size,0,none⟩ hc
 have hne:w.heap.size≠w1.heap.size:=Nat.ne_of_lt hlt
 have h1:((w1.setCell ⟨w.heap.size,0,none⟩ (.int .i64 n)).alloc (.cells #[.int .i64 n] 121)).cell? ⟨w.heap.size,0,none⟩=some (.int .i64 n):=by
  rw [World.cell?_alloc_past _ _ _ (by simp;exact hlt)]
  exact World.cell?_setCell_same' _ _ _ (by simp [hc])
 simp [Leaves,settle,results,Tryz.results67,go_sem,h1]
 exact ⟨w1,hR,rfl⟩
end Go.Proofs.YtaidphhkhddemaaGreatDoor.PSky
end
section
namespace Go.Proofs.YtaidphhkhddemaaGreatDoor.PSky
open Go.RowKit Go.Proofs.YtaidphhkhddemaaGreatDoorW.PrintWords Go.Proofs.YtaidphhkhddemaaGreatDoorW.PrintLast Go.Proofs.YtaidphhkhddemaaGreatDoorW.PrintMore
attribute [local go_sem] max2_int min2_int max_two min_two max_three min_three max_four min_four
set_option linter.unusedVariables false
set_option linter.unusedSimpArgs false
set_option maxHeartbeats 8000000 in
set_option maxRecDepth 100000 in
theorem sky_month.gaveUp (A0_0:Option Addr) (c0_0:Nat) (l0_0:List (S83)) (a0_1:Int) (a0_2:Int) (a0_3:Int) (w:World) (hr0_0:Kd.C k83 w A0_0 l0_0.length l0_0) (hc0_0:l0_0.length≤c0_0) (h2:1<(l0_0.length:Int)) (h:(wrap64 ((wrap64 (((rd_T83 l0_0 1).f0.f1)*((rd_T83 l0_0 0).f0.f0))) - (wrap64 (((rd_T83 l0_0 0).f0.f1)*((rd_T83 l0_0 1).f0.f0)))))≤0):
  Calls Tryz.prog 92 #[.agg #[.slice A0_0 l0_0.length c0_0,.int .i64 a0_1,.int .i64 a0_2,.int .i64 a0_3]] w fun e w'=>e=.panicked [{ v:=.iface 121 (.agg #[.int .i64 7]),recovered:=false }]∧Below w.heap.size w w':=by
 have hu28:=Tryz.underlying28
 have hu24:=Tryz.underlying24
 have hu121:=Tryz.underlying121
 have HR0_0:=A0_ hr0_0;have HC0_0:=A0_ hc0_0;clear hr0_0 hc0_0
 have HB:=A0_ (Below.refl w.heap.size w)
 have c2b0:decide (0<(l0_0.length:Int))=true:=decide_eq_true (by omega)
 have c2b1:decide (0<l0_0.length)=true:=decide_eq_true (by omega)
 have c3b0:decide (1<(l0_0.length:Int))=true:=decide_eq_true h2
 have c3b1:decide (1<l0_0.length)=true:=decide_eq_true (by omega)
 have c4b0:decide ((wrap64 ((wrap64 (((rd_T83 l0_0 1).f0.f1)*((rd_T83 l0_0 0).f0.f0))) - (wrap64 (((rd_T83 l0_0 0).f0.f1)*((rd_T83 l0_0 1).f0.f0)))))≤0)=true:=decide_eq_true h
 clear h
 go_enter Tryz.func92,Tryz.ntmps92
 try go_wp2_with (first|((with_reducible refine gate_dst (N:=1) rfl ?_);refine box_event ?hg (N:=1) ?hd (cs:=#[.slice A0_0 l0_0.length c0_0,.int .i64 a0_1,.int .i64 a0_2,.int .i64 a0_3]) (t:=28) ?hr ?_;(case hd=>rfl);(case hg=>rfl);(case hr=>first|(go_simp;done)|(go_simp;rfl));intro gb581 hg w5 hbox hb;have n0_:=A0_ (below_step y0_ hb);have n1_:=A0_ (hbox);have n2_:=A0_ ((by rw [hg];exact (below_size y0_):w.heap.size≤gb581));have n3_:=A0_ ((by rw [hg];exact (below_size y0_):w.heap.size≤gb581));clear HB;have HB:=n0_;have BK581:=n1_;have GW581:=n2_;have GE581:=n3_;clear n0_ n1_ n2_ n3_;clear hb hbox hg))
 have n0_:=A0_ (blk_drew BK581.out);have n1_:=A0_ (below_drew1 HB.out);clear BK581;clear HB;have BK581:=n0_;have HB:=n1_;clear n0_ n1_
 have p582:0≤(0:Int):=(by omega)
 have q582:0<(l0_0.length:Int):=of_decide_eq_true y6_
 obtain ⟨ad582,A582_3,c582_3,e582,hx582_0,hx582_1,hx582_2,hx582_3,hl582_3,hi582_3⟩:=at_T83 HR0_0.out 0 p582 q582
 have hw582_3:=hx582_3
 (try rw [show ((0:Int)).toNat=0 from rfl] at hw582_3)
 (try rw [show 0*4=0 from rfl] at hw582_3)
 (try rw [Addr.add_zero'] at hw582_3)
 have hw582_2:=hx582_2
 (try rw [show ((0:Int)).toNat=0 from rfl] at hw582_2)
 (try rw [show 0*4=0 from rfl] at hw582_2)
 (try rw [Addr.add_zero'] at hw582_2)
 have hw582_1:=hx582_1
 (try rw [show ((0:Int)).toNat=0 from rfl] at hw582_1)
 (try rw [show 0*4=0 from rfl] at hw582_1)
 (try rw [Addr.add_zero'] at hw582_1)
 have hw582_0:=hx582_0
 (try rw [show ((0:Int)).toNat=0 from rfl] at hw582_0)
 (try rw [show 0*4=0 from rfl] at hw582_0)
 (try rw [Addr.add_zero'] at hw582_0)
 cases e582
 have qi582:(0<l0_0.length)=True:=eq_true (by omega)
 (try rw [show ((0:Int)).toNat=0 from rfl] at hx582_0)
 (try rw [show 0*4=0 from rfl] at hx582_0)
 (try rw [Addr.add_zero'] at hx582_0)
 (try rw [show ((0:Int)).toNat=0 from rfl] at hx582_1)
 (try rw [show 0*4=0 from rfl] at hx582_1)
 (try rw [Addr.add_zero'] at hx582_1)
 (try rw [show ((0:Int)).toNat=0 from rfl] at hx582_2)
 (try rw [show 0*4=0 from rfl] at hx582_2)
 (try rw [Addr.add_zero'] at hx582_2)
 (try rw [show ((0:Int)).toNat=0 from rfl] at hx582_3)
 (try rw [show 0*4=0 from rfl] at hx582_3)
 (try rw [Addr.add_zero'] at hx582_3)
 replace hx582_0:=(HB.out.cell (World.block_lt_of_cell? w _ hx582_0)).trans hx582_0
 replace hx582_1:=(HB.out.cell (World.block_lt_of_cell? w _ hx582_1)).trans hx582_1
 replace hx582_2:=(HB.out.cell (World.block_lt_of_cell? w _ hx582_2)).trans hx582_2
 replace hx582_3:=(HB.out.cell (World.block_lt_of_cell? w _ hx582_3)).trans hx582_3
 have HR582_3:=A0_ hi582_3;have HC582_3:=A0_ hl582_3;clear hi582_3 hl582_3
 replace p582:=eq_true p582
 replace q582:=eq_true q582
 have p583:0≤(1:Int):=(by omega)
 have q583:1<(l0_0.length:Int):=of_decide_eq_true y6_
 obtain ⟨ad583,A583_3,c583_3,e583,hx583_0,hx583_1,hx583_2,hx583_3,hl583_3,hi583_3⟩:=at_T83 HR0_0.out 1 p583 q583
 have hw583_3:=hx583_3
 (try rw [show ((1:Int)).toNat=1 from rfl] at hw583_3)
 (try rw [show 1*4=4 from rfl] at hw583_3)
 (try simp only [Nat.reduceMul,Nat.reduceEqDiff,Go.Addr.add,↓reduceIte] at hw583_3)
 have hw583_2:=hx583_2
 (try rw [show ((1:Int)).toNat=1 from rfl] at hw583_2)
 (try rw [show 1*4=4 from rfl] at hw583_2)
 (try simp only [Nat.reduceMul,Nat.reduceEqDiff,Go.Addr.add,↓reduceIte] at hw583_2)
 have hw583_1:=hx583_1
 (try rw [show ((1:Int)).toNat=1 from rfl] at hw583_1)
 (try rw [show 1*4=4 from rfl] at hw583_1)
 (try simp only [Nat.reduceMul,Nat.reduceEqDiff,Go.Addr.add,↓reduceIte] at hw583_1)
 have hw583_0:=hx583_0
 (try rw [show ((1:Int)).toNat=1 from rfl] at hw583_0)
 (try rw [show 1*4=4 from rfl] at hw583_0)
 (try simp only [Nat.reduceMul,Nat.reduceEqDiff,Go.Addr.add,↓reduceIte] at hw583_0)
 obtain rfl:ad582=ad583:=(by injection e583)
 (try simp only [show (1:Int).toNat=1 from rfl,Nat.reduceMul,Nat.reduceEqDiff,Go.Addr.add,↓reduceIte] at hx583_0)
 (try simp only [show (1:Int).toNat=1 from rfl,Nat.reduceMul,Nat.reduceEqDiff,Go.Addr.add,↓reduceIte] at hx583_1)
 (try simp only [show (1:Int).toNat=1 from rfl,Nat.reduceMul,Nat.reduceEqDiff,Go.Addr.add,↓reduceIte] at hx583_2)
 (try simp only [show (1:Int).toNat=1 from rfl,Nat.reduceMul,Nat.reduceEqDiff,Go.Addr.add,↓reduceIte] at hx583_3)
 have qi583:(1<l0_0.length)=True:=eq_true (by omega)
 (try rw [show ((1:Int)).toNat=1 from rfl] at hx583_0)
 (try rw [show 1*4=4 from rfl] at hx583_0)
 (try rw [show ((1:Int)).toNat=1 from rfl] at hx583_1)
 (try rw [show 1*4=4 from rfl] at hx583_1)
 (try rw [show ((1:Int)).toNat=1 from rfl] at hx583_2)
 (try rw [show 1*4=4 from rfl] at hx583_2)
 (try rw [show ((1:Int)).toNat=1 from rfl] at hx583_3)
 (try rw [show 1*4=4 from rfl] at hx583_3)
 replace hx583_0:=(HB.out.cell (World.block_lt_of_cell? w _ hx583_0)).trans hx583_0
 replace hx583_1:=(HB.out.cell (World.block_lt_of_cell? w _ hx583_1)).trans hx583_1
 replace hx583_2:=(HB.out.cell (World.block_lt_of_cell? w _ hx583_2)).trans hx583_2
 replace hx583_3:=(HB.out.cell (World.block_lt_of_cell? w _ hx583_3)).trans hx583_3
 have HR583_3:=A0_ hi583_3;have HC583_3:=A0_ hl583_3;clear hi583_3 hl583_3
 replace p583:=eq_true p583
 replace q583:=eq_true q583
 refine start_ (n:=14) (S:=fun w'=>w'.cell? ⟨gb581,0,none⟩=some (.slice (some ad582) l0_0.length c0_0)∧w'.cell? ⟨gb581,1,none⟩=some (.int .i64 a0_1)∧w'.cell? ⟨gb581,2,none⟩=some (.int .i64 a0_2)∧w'.cell? ⟨gb581,3,none⟩=some (.int .i64 a0_3)∧w'.cell? ad582=some (.int .i64 ((rd_T83 l0_0 0).f0.f0))∧w'.cell? ⟨ad582.block,ad582.off+1,none⟩=some (.int .i64 ((rd_T83 l0_0 0).f0.f1))∧w'.cell? ⟨ad582.block,ad582.off+2,none⟩=some (.int .i64 ((rd_T83 l0_0 0).f1))∧w'.cell? ⟨ad582.block,ad582.off+3,none⟩=some (.slice A582_3 ((rd_T83 l0_0 0).f2).length c582_3)∧w'.cell? ⟨ad582.block,ad582.off+4,none⟩=some (.int .i64 ((rd_T83 l0_0 1).f0.f0))∧w'.cell? ⟨ad582.block,ad582.off+4+1,none⟩=some (.int .i64 ((rd_T83 l0_0 1).f0.f1))∧w'.cell? ⟨ad582.block,ad582.off+4+2,none⟩=some (.int .i64 ((rd_T83 l0_0 1).f1))∧w'.cell? ⟨ad582.block,ad582.off+4+3,none⟩=some (.slice A583_3 ((rd_T83 l0_0 1).f2).length c583_3)) (ds:=[]) #[false,false,false,false,false,false,false,false,false,false,false,false,false,false] (by kernel_rfl) rfl rfl ⟨(blk_cell BK581.out 0).trans rfl,(blk_cell BK581.out 1).trans rfl,(blk_cell BK581.out 2).trans rfl,(blk_cell BK581.out 3).trans rfl,((HB.out.cell (World.block_lt_of_cell? w _ hw582_0)).trans hw582_0),((HB.out.cell (World.block_lt_of_cell? w _ hw582_1)).trans hw582_1),((HB.out.cell (World.block_lt_of_cell? w _ hw582_2)).trans hw582_2),((HB.out.cell (World.block_lt_of_cell? w _ hw582_3)).trans hw582_3),((HB.out.cell (World.block_lt_of_cell? w _ hw583_0)).trans hw583_0),((HB.out.cell (World.block_lt_of_cell? w _ hw583_1)).trans hw583_1),((HB.out.cell (World.block_lt_of_cell? w _ hw583_2)).trans hw583_2),((HB.out.cell (World.block_lt_of_cell? w _ hw583_3)).trans hw583_3)⟩ (fun hHeld=>?_);refine with_tabW sky_month.tab1 sky_month.bits1 (fun HT_ HW_=>?_)
 generalize w5.drew=w6 at BK581 HB HR582_3 HR583_3 hx582_0 hx582_1 hx582_2 hx582_3 hx583_0 hx583_1 hx583_2 hx583_3 hHeld ⊢
 refine pu_ (i:=0) (N:=some 8) ?_;refine pu_ (i:=5) (N:=some 13) ?_;refine ta_ (i:=1) (N:=some 9) ?_;refine pu_ (i:=2) (N:=some 10) ?_;refine pu_ (i:=3) (N:=some 11) ?_;refine ta_ (i:=4) (N:=some 12) ?_;refine ta_ (i:=6) (N:=some 14) ?_;refine pu_ (i:=7) (N:=some 15) ?_;refine pu_ (i:=8) (N:=some 16) ?_;refine ta_ (i:=9) (N:=some 17) ?_
 refine join_ (σ:=Nat × Nat) 2 #[true,true,true,true,true,true,true,true,true,true,true,true,false,false] (fun s_=>[(4,.pointer (some ⟨s_.1,0,none⟩)),(5,.pointer (some ⟨s_.2,0,none⟩))]) (fun s_ w'=>(w'.cell? ⟨gb581,0,none⟩=some (.slice (some ad582) l0_0.length c0_0)∧w'.cell? ⟨gb581,1,none⟩=some (.int .i64 a0_1)∧w'.cell? ⟨gb581,2,none⟩=some (.int .i64 a0_2)∧w'.cell? ⟨gb581,3,none⟩=some (.int .i64 a0_3)∧w'.cell? ad582=some (.int .i64 ((rd_T83 l0_0 0).f0.f0))∧w'.cell? ⟨ad582.block,ad582.off+1,none⟩=some (.int .i64 ((rd_T83 l0_0 0).f0.f1))∧w'.cell? ⟨ad582.block,ad582.off+2,none⟩=some (.int .i64 ((rd_T83 l0_0 0).f1))∧w'.cell? ⟨ad582.block,ad582.off+3,none⟩=some (.slice A582_3 ((rd_T83 l0_0 0).f2).length c582_3)∧w'.cell? ⟨ad582.block,ad582.off+4,none⟩=some (.int .i64 ((rd_T83 l0_0 1).f0.f0))∧w'.cell? ⟨ad582.block,ad582.off+4+1,none⟩=some (.int .i64 ((rd_T83 l0_0 1).f0.f1))∧w'.cell? ⟨ad582.block,ad582.off+4+2,none⟩=some (.int .i64 ((rd_T83 l0_0 1).f1))∧w'.cell? ⟨ad582.block,ad582.off+4+3,none⟩=some (.slice A583_3 ((rd_T83 l0_0 1).f2).length c583_3))∧(w'.heap[gb581]?=some (.cells #[.slice (some ad582) l0_0.length c0_0,.int .i64 a0_1,.int .i64 a0_2,.int .i64 a0_3] 28 (0,0)))∧(w'.heap[s_.1]?=some (.cells #[.int .i64 0,.int .i64 0] 24 (0,0)))∧(w'.heap[s_.2]?=some (.cells #[.int .i64 0,.int .i64 0] 24 (0,0)))∧(w.heap.size≤s_.1)∧(w.heap.size≤s_.1)∧(gb581≠s_.1)∧(s_.1≠gb581)∧(s_.2≠s_.1)∧(s_.1≠s_.2)∧(w.heap.size≤s_.2)∧(w.heap.size≤s_.2)∧(gb581≠s_.2)∧(s_.2≠gb581)∧(Below w.heap.size w w')) ?_ ?_
 rotate_left
 ·intro hCont
  refine two_ (i:=10) (j:=11) (Ni:=some 4) (Nj:=some 5) #[true,true,true,true,true,true,true,true,true,true,true,false,false,false] #[true,true,true,true,true,true,true,true,true,true,false,true,false,false] rfl rfl rfl rfl (two_of HT_.out (by kernel_rfl)) (by decide) (by decide) (fun K hK=>?_) (fun K hK=>?_)
  ·skip
   refine box_step ?hg (N:=4) ?hd (cs:=#[.int .i64 0,.int .i64 0]) (t:=24) ?hr ?_;(case hd=>rfl);(case hg=>rfl);(case hr=>first|(go_simp;done)|(go_simp;rfl))
   intro gb584 hg w7 hbox hb
   have n0_:=A0_ (blk_below (g:=gb581) (o:=.cells #[.slice (some ad582) l0_0.length c0_0,.int .i64 a0_1,.int .i64 a0_2,.int .i64 a0_3] 28 (0,0)) (bd_ BK581.out) hb);have n1_:=A0_ (below_step y24_ hb);have n2_:=A0_ (hbox)
   have n3_:=A0_ ((by rw [hg];exact (below_size y24_):w.heap.size≤gb584))
   have n4_:=A0_ ((by rw [hg];exact (below_size y24_):w.heap.size≤gb584))
   have n5_:=A0_ ((by rw [hg];exact Nat.ne_of_lt (blk_lt (g:=gb581) (o:=.cells #[.slice (some ad582) l0_0.length c0_0,.int .i64 a0_1,.int .i64 a0_2,.int .i64 a0_3] 28 (0,0)) (bd_ BK581.out)):gb581≠gb584))
   have n6_:=A0_ ((by rw [hg];exact Nat.ne_of_gt (blk_lt (g:=gb581) (o:=.cells #[.slice (some ad582) l0_0.length c0_0,.int .i64 a0_1,.int .i64 a0_2,.int .i64 a0_3] 28 (0,0)) (bd_ BK581.out)):gb584≠gb581))
   clear BK581;clear HB;have BK581:=n0_;have HB:=n1_;have BK584:=n2_;have GW584:=n3_;have GE584:=n4_;have NB581_584:=n5_;have NB584_581:=n6_;clear n0_ n1_ n2_ n3_ n4_ n5_ n6_;clear hb hbox hg
   refine hK.out _ _ ⟨(blk_cell BK581.out 0).trans rfl,(blk_cell BK581.out 1).trans rfl,(blk_cell BK581.out 2).trans rfl,(blk_cell BK581.out 3).trans rfl,((HB.out.cell (World.block_lt_of_cell? w _ hw582_0)).trans hw582_0),((HB.out.cell (World.block_lt_of_cell? w _ hw582_1)).trans hw582_1),((HB.out.cell (World.block_lt_of_cell? w _ hw582_2)).trans hw582_2),((HB.out.cell (World.block_lt_of_cell? w _ hw582_3)).trans hw582_3),((HB.out.cell (World.block_lt_of_cell? w _ hw583_0)).trans hw583_0),((HB.out.cell (World.block_lt_of_cell? w _ hw583_1)).trans hw583_1),((HB.out.cell (World.block_lt_of_cell? w _ hw583_2)).trans hw583_2),((HB.out.cell (World.block_lt_of_cell? w _ hw583_3)).trans hw583_3)⟩ (fun hHeld=>?_)
   clear hK K
   refine norm_ (a':=?_) ?_ ?_
   rotate_left
   ·show Act.put _ (some 4) _=_
    simp only [Act.put,List.setIfInBounds_toArray,List.set_cons_zero,List.set_cons_succ,i64_w,i32_w]
    rfl
   refine one_ (i:=11) (N:=some 5) #[true,true,true,true,true,true,true,true,true,true,true,true,false,false] rfl rfl (one_of HT_.out (by kernel_rfl)) (by decide) (fun K hK=>?_)
   refine box_step ?hg (N:=5) ?hd (cs:=#[.int .i64 0,.int .i64 0]) (t:=24) ?hr ?_;(case hd=>rfl);(case hg=>rfl);(case hr=>first|(go_simp;done)|(go_simp;rfl))
   intro gb585 hg w8 hbox hb
   have n0_:=A0_ (blk_below (g:=gb581) (o:=.cells #[.slice (some ad582) l0_0.length c0_0,.int .i64 a0_1,.int .i64 a0_2,.int .i64 a0_3] 28 (0,0)) (bd_ BK581.out) hb);have n1_:=A0_ (blk_below (g:=gb584) (o:=.cells #[.int .i64 0,.int .i64 0] 24 (0,0)) (bd_ BK584.out) hb);have n2_:=A0_ (below_step y2s_ hb);have n3_:=A0_ (hbox)
   have n4_:=A0_ ((by rw [hg];exact (below_size y2s_):w.heap.size≤gb585))
   have n5_:=A0_ ((by rw [hg];exact (below_size y2s_):w.heap.size≤gb585))
   have n6_:=A0_ ((by rw [hg];exact Nat.ne_of_lt (blk_lt (g:=gb581) (o:=.cells #[.slice (some ad582) l0_0.length c0_0,.int .i64 a0_1,.int .i64 a0_2,.int .i64 a0_3] 28 (0,0)) (bd_ BK581.out)):gb581≠gb585))
   have n7_:=A0_ ((by rw [hg];exact Nat.ne_of_gt (blk_lt (g:=gb581) (o:=.cells #[.slice (some ad582) l0_0.length c0_0,.int .i64 a0_1,.int .i64 a0_2,.int .i64 a0_3] 28 (0,0)) (bd_ BK581.out)):gb585≠gb581))
   have n8_:=A0_ ((by rw [hg];exact Nat.ne_of_lt (blk_lt (g:=gb584) (o:=.cells #[.int .i64 0,.int .i64 0] 24 (0,0)) (bd_ BK584.out)):gb584≠gb585))
   have n9_:=A0_ ((by rw [hg];exact Nat.ne_of_gt (blk_lt (g:=gb584) (o:=.cells #[.int .i64 0,.int .i64 0] 24 (0,0)) (bd_ BK584.out)):gb585≠gb584))
   clear BK581;clear BK584;clear HB;have BK581:=n0_;have BK584:=n1_;have HB:=n2_;have BK585:=n3_;have GW585:=n4_;have GE585:=n5_;have NB581_585:=n6_;have NB585_581:=n7_;have NB584_585:=n8_;have NB585_584:=n9_;clear n0_ n1_ n2_ n3_ n4_ n5_ n6_ n7_ n8_ n9_;clear hb hbox hg
   refine hK.out _ _ ⟨(blk_cell BK581.out 0).trans rfl,(blk_cell BK581.out 1).trans rfl,(blk_cell BK581.out 2).trans rfl,(blk_cell BK581.out 3).trans rfl,((HB.out.cell (World.block_lt_of_cell? w _ hw582_0)).trans hw582_0),((HB.out.cell (World.block_lt_of_cell? w _ hw582_1)).trans hw582_1),((HB.out.cell (World.block_lt_of_cell? w _ hw582_2)).trans hw582_2),((HB.out.cell (World.block_lt_of_cell? w _ hw582_3)).trans hw582_3),((HB.out.cell (World.block_lt_of_cell? w _ hw583_0)).trans hw583_0),((HB.out.cell (World.block_lt_of_cell? w _ hw583_1)).trans hw583_1),((HB.out.cell (World.block_lt_of_cell? w _ hw583_2)).trans hw583_2),((HB.out.cell (World.block_lt_of_cell? w _ hw583_3)).trans hw583_3)⟩ (fun hHeld=>?_)
   clear hK K
   refine norm_ (a':=?_) ?_ ?_
   rotate_left
   ·show Act.put _ (some 5) _=_
    simp only [Act.put,List.setIfInBounds_toArray,List.set_cons_zero,List.set_cons_succ,i64_w,i32_w]
    rfl
   exact norm_ y3w_ (hCont (gb584,gb585) _ ⟨hHeld,(bd_ BK581.out),(bd_ BK584.out),(bd_ BK585.out),GW584.out,GE584.out,NB581_584.out,NB584_581.out,NB585_584.out,NB584_585.out,GW585.out,GE585.out,NB581_585.out,NB585_581.out,y2u_⟩)
  ·skip
   refine box_step ?hg (N:=5) ?hd (cs:=#[.int .i64 0,.int .i64 0]) (t:=24) ?hr ?_;(case hd=>rfl);(case hg=>rfl);(case hr=>first|(go_simp;done)|(go_simp;rfl))
   intro gb585 hg w7 hbox hb
   have n0_:=A0_ (blk_below (g:=gb581) (o:=.cells #[.slice (some ad582) l0_0.length c0_0,.int .i64 a0_1,.int .i64 a0_2,.int .i64 a0_3] 28 (0,0)) (bd_ BK581.out) hb);have n1_:=A0_ (below_step y24_ hb);have n2_:=A0_ (hbox)
   have n3_:=A0_ ((by rw [hg];exact (below_size y24_):w.heap.size≤gb585))
   have n4_:=A0_ ((by rw [hg];exact (below_size y24_):w.heap.size≤gb585))
   have n5_:=A0_ ((by rw [hg];exact Nat.ne_of_lt (blk_lt (g:=gb581) (o:=.cells #[.slice (some ad582) l0_0.length c0_0,.int .i64 a0_1,.int .i64 a0_2,.int .i64 a0_3] 28 (0,0)) (bd_ BK581.out)):gb581≠gb585))
   have n6_:=A0_ ((by rw [hg];exact Nat.ne_of_gt (blk_lt (g:=gb581) (o:=.cells #[.slice (some ad582) l0_0.length c0_0,.int .i64 a0_1,.int .i64 a0_2,.int .i64 a0_3] 28 (0,0)) (bd_ BK581.out)):gb585≠gb581))
   clear BK581;clear HB;have BK581:=n0_;have HB:=n1_;have BK585:=n2_;have GW585:=n3_;have GE585:=n4_;have NB581_585:=n5_;have NB585_581:=n6_;clear n0_ n1_ n2_ n3_ n4_ n5_ n6_;clear hb hbox hg
   refine hK.out _ _ ⟨(blk_cell BK581.out 0).trans rfl,(blk_cell BK581.out 1).trans rfl,(blk_cell BK581.out 2).trans rfl,(blk_cell BK581.out 3).trans rfl,((HB.out.cell (World.block_lt_of_cell? w _ hw582_0)).trans hw582_0),((HB.out.cell (World.block_lt_of_cell? w _ hw582_1)).trans hw582_1),((HB.out.cell (World.block_lt_of_cell? w _ hw582_2)).trans hw582_2),((HB.out.cell (World.block_lt_of_cell? w _ hw582_3)).trans hw582_3),((HB.out.cell (World.block_lt_of_cell? w _ hw583_0)).trans hw583_0),((HB.out.cell (World.block_lt_of_cell? w _ hw583_1)).trans hw583_1),((HB.out.cell (World.block_lt_of_cell? w _ hw583_2)).trans hw583_2),((HB.out.cell (World.block_lt_of_cell? w _ hw583_3)).trans hw583_3)⟩ (fun hHeld=>?_)
   clear hK K
   refine norm_ (a':=?_) ?_ ?_
   rotate_left
   ·show Act.put _ (some 5) _=_
    simp only [Act.put,List.setIfInBounds_toArray,List.set_cons_zero,List.set_cons_succ,i64_w,i32_w]
    rfl
   refine one_ (i:=10) (N:=some 4) #[true,true,true,true,true,true,true,true,true,true,true,true,false,false] rfl rfl (one_of HT_.out (by kernel_rfl)) (by decide) (fun K hK=>?_)
   refine box_step ?hg (N:=4) ?hd (cs:=#[.int .i64 0,.int .i64 0]) (t:=24) ?hr ?_;(case hd=>rfl);(case hg=>rfl);(case hr=>first|(go_simp;done)|(go_simp;rfl))
   intro gb584 hg w8 hbox hb
   have n0_:=A0_ (blk_below (g:=gb581) (o:=.cells #[.slice (some ad582) l0_0.length c0_0,.int .i64 a0_1,.int .i64 a0_2,.int .i64 a0_3] 28 (0,0)) (bd_ BK581.out) hb);have n1_:=A0_ (blk_below (g:=gb585) (o:=.cells #[.int .i64 0,.int .i64 0] 24 (0,0)) (bd_ BK585.out) hb);have n2_:=A0_ (below_step y2r_ hb);have n3_:=A0_ (hbox)
   have n4_:=A0_ ((by rw [hg];exact (below_size y2r_):w.heap.size≤gb584))
   have n5_:=A0_ ((by rw [hg];exact (below_size y2r_):w.heap.size≤gb584))
   have n6_:=A0_ ((by rw [hg];exact Nat.ne_of_lt (blk_lt (g:=gb581) (o:=.cells #[.slice (some ad582) l0_0.length c0_0,.int .i64 a0_1,.int .i64 a0_2,.int .i64 a0_3] 28 (0,0)) (bd_ BK581.out)):gb581≠gb584))
   have n7_:=A0_ ((by rw [hg];exact Nat.ne_of_gt (blk_lt (g:=gb581) (o:=.cells #[.slice (some ad582) l0_0.length c0_0,.int .i64 a0_1,.int .i64 a0_2,.int .i64 a0_3] 28 (0,0)) (bd_ BK581.out)):gb584≠gb581))
   have n8_:=A0_ ((by rw [hg];exact Nat.ne_of_lt (blk_lt (g:=gb585) (o:=.cells #[.int .i64 0,.int .i64 0] 24 (0,0)) (bd_ BK585.out)):gb585≠gb584))
   have n9_:=A0_ ((by rw [hg];exact Nat.ne_of_gt (blk_lt (g:=gb585) (o:=.cells #[.int .i64 0,.int .i64 0] 24 (0,0)) (bd_ BK585.out)):gb584≠gb585))
   clear BK581;clear BK585;clear HB;have BK581:=n0_;have BK585:=n1_;have HB:=n2_;have BK584:=n3_;have GW584:=n4_;have GE584:=n5_;have NB581_584:=n6_;have NB584_581:=n7_;have NB585_584:=n8_;have NB584_585:=n9_;clear n0_ n1_ n2_ n3_ n4_ n5_ n6_ n7_ n8_ n9_;clear hb hbox hg
   refine hK.out _ _ ⟨(blk_cell BK581.out 0).trans rfl,(blk_cell BK581.out 1).trans rfl,(blk_cell BK581.out 2).trans rfl,(blk_cell BK581.out 3).trans rfl,((HB.out.cell (World.block_lt_of_cell? w _ hw582_0)).trans hw582_0),((HB.out.cell (World.block_lt_of_cell? w _ hw582_1)).trans hw582_1),((HB.out.cell (World.block_lt_of_cell? w _ hw582_2)).trans hw582_2),((HB.out.cell (World.block_lt_of_cell? w _ hw582_3)).trans hw582_3),((HB.out.cell (World.block_lt_of_cell? w _ hw583_0)).trans hw583_0),((HB.out.cell (World.block_lt_of_cell? w _ hw583_1)).trans hw583_1),((HB.out.cell (World.block_lt_of_cell? w _ hw583_2)).trans hw583_2),((HB.out.cell (World.block_lt_of_cell? w _ hw583_3)).trans hw583_3)⟩ (fun hHeld=>?_)
   clear hK K
   refine norm_ (a':=?_) ?_ ?_
   rotate_left
   ·show Act.put _ (some 4) _=_
    simp only [Act.put,List.setIfInBounds_toArray,List.set_cons_zero,List.set_cons_succ,i64_w,i32_w]
    rfl
   exact norm_ y3w_ (hCont (gb584,gb585) _ ⟨hHeld,(bd_ BK581.out),(bd_ BK584.out),(bd_ BK585.out),GW584.out,GE584.out,NB581_584.out,NB584_581.out,NB585_584.out,NB584_585.out,GW585.out,GE585.out,NB581_585.out,NB585_581.out,y4k_⟩)
 rintro ⟨gb584,gb585⟩ w9 ⟨hS_,h0_,h1_,h2_,h3_,h4_,h5_,h6_,h7_,h8_,h9_,h10_,h11_,h12_,h13_⟩
 have n0_:Aside0 (w9.heap[gb581]?=some (.cells #[.slice (some ad582) l0_0.length c0_0,.int .i64 a0_1,.int .i64 a0_2,.int .i64 a0_3] 28 (0,0))):=⟨h0_⟩
 have n1_:Aside0 (w9.heap[gb584]?=some (.cells #[.int .i64 0,.int .i64 0] 24 (0,0))):=⟨h1_⟩
 have n2_:Aside0 (w9.heap[gb585]?=some (.cells #[.int .i64 0,.int .i64 0] 24 (0,0))):=⟨h2_⟩
 have n3_:Aside0 (w.heap.size≤gb584):=⟨h3_⟩
 have n4_:Aside0 (w.heap.size≤gb584):=⟨h4_⟩
 have n5_:Aside0 (gb581≠gb584):=⟨h5_⟩
 have n6_:Aside0 (gb584≠gb581):=⟨h6_⟩
 have n7_:Aside0 (gb585≠gb584):=⟨h7_⟩
 have n8_:Aside0 (gb584≠gb585):=⟨h8_⟩
 have n9_:Aside0 (w.heap.size≤gb585):=⟨h9_⟩
 have n10_:Aside0 (w.heap.size≤gb585):=⟨h10_⟩
 have n11_:Aside0 (gb581≠gb585):=⟨h11_⟩
 have n12_:Aside0 (gb585≠gb581):=⟨h12_⟩
 have n13_:Aside0 (Below w.heap.size w w9):=⟨h13_⟩
 clear BK581;clear HB;clear h0_ h1_ h2_ h3_ h4_ h5_ h6_ h7_ h8_ h9_ h10_ h11_ h12_ h13_;have BK581:=n0_;have BK584:=n1_;have BK585:=n2_;have GW584:=n3_;have GE584:=n4_;have NB581_584:=n5_;have NB584_581:=n6_;have NB585_584:=n7_;have NB584_585:=n8_;have GW585:=n9_;have GE585:=n10_;have NB581_585:=n11_;have NB585_581:=n12_;have HB:=n13_;clear n0_ n1_ n2_ n3_ n4_ n5_ n6_ n7_ n8_ n9_ n10_ n11_ n12_ n13_
 have hHeld:w9.cell? ⟨gb581,0,none⟩=some (.slice (some ad582) l0_0.length c0_0)∧w9.cell? ⟨gb581,1,none⟩=some (.int .i64 a0_1)∧w9.cell? ⟨gb581,2,none⟩=some (.int .i64 a0_2)∧w9.cell? ⟨gb581,3,none⟩=some (.int .i64 a0_3)∧w9.cell? ad582=some (.int .i64 ((rd_T83 l0_0 0).f0.f0))∧w9.cell? ⟨ad582.block,ad582.off+1,none⟩=some (.int .i64 ((rd_T83 l0_0 0).f0.f1))∧w9.cell? ⟨ad582.block,ad582.off+2,none⟩=some (.int .i64 ((rd_T83 l0_0 0).f1))∧w9.cell? ⟨ad582.block,ad582.off+3,none⟩=some (.slice A582_3 ((rd_T83 l0_0 0).f2).length c582_3)∧w9.cell? ⟨ad582.block,ad582.off+4,none⟩=some (.int .i64 ((rd_T83 l0_0 1).f0.f0))∧w9.cell? ⟨ad582.block,ad582.off+4+1,none⟩=some (.int .i64 ((rd_T83 l0_0 1).f0.f1))∧w9.cell? ⟨ad582.block,ad582.off+4+2,none⟩=some (.int .i64 ((rd_T83 l0_0 1).f1))∧w9.cell? ⟨ad582.block,ad582.off+4+3,none⟩=some (.slice A583_3 ((rd_T83 l0_0 1).f2).length c583_3):=hS_
 refine norm_ (a':=?_) ?_ ?_
 rotate_left
 ·simp only [putAll,Act.put,List.setIfInBounds_toArray,List.set_cons_zero,List.set_cons_succ]
  rfl
 refine one_ (i:=12) (N:=none) #[true,true,true,true,true,true,true,true,true,true,true,true,true,false] rfl rfl (one_of HT_.out (by kernel_rfl)) (by decide) (fun K hK=>?_)
 have hs10:w9.cell? ⟨gb584,0,none⟩=some (.int .i64 0):=(blk_cell BK584.out 0).trans rfl
 have hfs10:=blk_frozen BK584.out 0
 have hns10_0:=NB581_584.out
 have hns10_2:=NB585_584.out
 have hms10_0:=NB584_581.out
 have hms10_2:=NB584_585.out
 have hs11:w9.cell? ⟨gb584,1,none⟩=some (.int .i64 0):=(blk_cell BK584.out 1).trans rfl
 have hfs11:=blk_frozen BK584.out 1
 have hns11_0:=NB581_584.out
 have hns11_2:=NB585_584.out
 have hms11_0:=NB584_581.out
 have hms11_2:=NB584_585.out
 refine skip_ (w1:=?_) (by rfl) rfl ?_ ?_
 rotate_left
 ·go_simp
  rfl
 refine hK.out _ _ ⟨((cell_far (p:=⟨gb584,_,none⟩) NB581_584.out _).trans (((cell_far (p:=⟨gb584,_,none⟩) NB581_584.out _).trans (hHeld.1)))),((cell_far (p:=⟨gb584,_,none⟩) NB581_584.out _).trans (((cell_far (p:=⟨gb584,_,none⟩) NB581_584.out _).trans (hHeld.2.1)))),((cell_far (p:=⟨gb584,_,none⟩) NB581_584.out _).trans (((cell_far (p:=⟨gb584,_,none⟩) NB581_584.out _).trans (hHeld.2.2.1)))),((cell_far (p:=⟨gb584,_,none⟩) NB581_584.out _).trans (((cell_far (p:=⟨gb584,_,none⟩) NB581_584.out _).trans (hHeld.2.2.2.1)))),((cell_far (p:=⟨gb584,_,none⟩) y1k_ _).trans (((cell_far (p:=⟨gb584,_,none⟩) y1k_ _).trans (hHeld.2.2.2.2.1)))),((cell_far (p:=⟨gb584,_,none⟩) y1i_ _).trans (((cell_far (p:=⟨gb584,_,none⟩) y1i_ _).trans (hHeld.2.2.2.2.2.1)))),((cell_far (p:=⟨gb584,_,none⟩) y1g_ _).trans (((cell_far (p:=⟨gb584,_,none⟩) y1g_ _).trans (hHeld.2.2.2.2.2.2.1)))),((cell_far (p:=⟨gb584,_,none⟩) y1e_ _).trans (((cell_far (p:=⟨gb584,_,none⟩) y1e_ _).trans (hHeld.2.2.2.2.2.2.2.1)))),((cell_far (p:=⟨gb584,_,none⟩) y1c_ _).trans (((cell_far (p:=⟨gb584,_,none⟩) y1c_ _).trans (hHeld.2.2.2.2.2.2.2.2.1)))),((cell_far (p:=⟨gb584,_,none⟩) y1a_ _).trans (((cell_far (p:=⟨gb584,_,none⟩) y1a_ _).trans (hHeld.2.2.2.2.2.2.2.2.2.1)))),((cell_far (p:=⟨gb584,_,none⟩) y18_ _).trans (((cell_far (p:=⟨gb584,_,none⟩) y18_ _).trans (hHeld.2.2.2.2.2.2.2.2.2.2.1)))),((cell_far (p:=⟨gb584,_,none⟩) y16_ _).trans (((cell_far (p:=⟨gb584,_,none⟩) y16_ _).trans (hHeld.2.2.2.2.2.2.2.2.2.2.2))))⟩ (fun hHeld=>?_)
 clear hK K
 refine one_ (i:=13) (N:=none) #[true,true,true,true,true,true,true,true,true,true,true,true,true,true] rfl rfl (one_of HT_.out (by kernel_rfl)) (by decide) (fun K hK=>?_)
 have hs12:w9.cell? ⟨gb585,0,none⟩=some (.int .i64 0):=(blk_cell BK585.out 0).trans rfl
 have hfs12:=blk_frozen BK585.out 0
 have hns12_0:=NB581_585.out
 have hns12_1:=NB584_585.out
 have hms12_0:=NB585_581.out
 have hms12_1:=NB585_584.out
 have hs13:w9.cell? ⟨gb585,1,none⟩=some (.int .i64 0):=(blk_cell BK585.out 1).trans rfl
 have hfs13:=blk_frozen BK585.out 1
 have hns13_0:=NB581_585.out
 have hns13_1:=NB584_585.out
 have hms13_0:=NB585_581.out
 have hms13_1:=NB585_584.out
 refine skip_ (w1:=?_) (by rfl) rfl ?_ ?_
 rotate_left
 ·go_simp
  rfl
 refine hK.out _ _ ⟨((cell_far (p:=⟨gb585,_,none⟩) NB581_585.out _).trans (((cell_far (p:=⟨gb585,_,none⟩) NB581_585.out _).trans (hHeld.1)))),((cell_far (p:=⟨gb585,_,none⟩) NB581_585.out _).trans (((cell_far (p:=⟨gb585,_,none⟩) NB581_585.out _).trans (hHeld.2.1)))),((cell_far (p:=⟨gb585,_,none⟩) NB581_585.out _).trans (((cell_far (p:=⟨gb585,_,none⟩) NB581_585.out _).trans (hHeld.2.2.1)))),((cell_far (p:=⟨gb585,_,none⟩) NB581_585.out _).trans (((cell_far (p:=⟨gb585,_,none⟩) NB581_585.out _).trans (hHeld.2.2.2.1)))),((cell_far (p:=⟨gb585,_,none⟩) y1j_ _).trans (((cell_far (p:=⟨gb585,_,none⟩) y1j_ _).trans (hHeld.2.2.2.2.1)))),((cell_far (p:=⟨gb585,_,none⟩) y1h_ _).trans (((cell_far (p:=⟨gb585,_,none⟩) y1h_ _).trans (hHeld.2.2.2.2.2.1)))),((cell_far (p:=⟨gb585,_,none⟩) y1f_ _).trans (((cell_far (p:=⟨gb585,_,none⟩) y1f_ _).trans (hHeld.2.2.2.2.2.2.1)))),((cell_far (p:=⟨gb585,_,none⟩) y1d_ _).trans (((cell_far (p:=⟨gb585,_,none⟩) y1d_ _).trans (hHeld.2.2.2.2.2.2.2.1)))),((cell_far (p:=⟨gb585,_,none⟩) y1b_ _).trans (((cell_far (p:=⟨gb585,_,none⟩) y1b_ _).trans (hHeld.2.2.2.2.2.2.2.2.1)))),((cell_far (p:=⟨gb585,_,none⟩) y19_ _).trans (((cell_far (p:=⟨gb585,_,none⟩) y19_ _).trans (hHeld.2.2.2.2.2.2.2.2.2.1)))),((cell_far (p:=⟨gb585,_,none⟩) y17_ _).trans (((cell_far (p:=⟨gb585,_,none⟩) y17_ _).trans (hHeld.2.2.2.2.2.2.2.2.2.2.1)))),((cell_far (p:=⟨gb585,_,none⟩) y15_ _).trans (((cell_far (p:=⟨gb585,_,none⟩) y15_ _).trans (hHeld.2.2.2.2.2.2.2.2.2.2.2))))⟩ (fun hHeld=>?_)
 clear hK K
 refine done_ (done_of HT_.out (by kernel_rfl)) ?_
 try go_wp2
 have n0_:Aside0 (((((w9.setCell ⟨gb584,0,none⟩ (.int .i64 ((rd_T83 l0_0 0).f0.f0))).setCell ⟨gb584,1,none⟩ (.int .i64 ((rd_T83 l0_0 0).f0.f1))).setCell ⟨gb585,0,none⟩ (.int .i64 ((rd_T83 l0_0 1).f0.f0))).setCell ⟨gb585,1,none⟩ (.int .i64 ((rd_T83 l0_0 1).f0.f1))).heap[gb581]?=some (.cells #[.slice (some ad582) l0_0.length c0_0,.int .i64 a0_1,.int .i64 a0_2,.int .i64 a0_3] 28 (0,0))):=⟨by (with_reducible repeat (first|refine blk_drewN ?_ _|refine blk_drew ?_|refine blk_alloc ?_ _));refine blk_far ?_ NB581_585.out _;(with_reducible repeat (first|refine blk_drewN ?_ _|refine blk_drew ?_|refine blk_alloc ?_ _));refine blk_far ?_ NB581_585.out _;(with_reducible repeat (first|refine blk_drewN ?_ _|refine blk_drew ?_|refine blk_alloc ?_ _));refine blk_far ?_ NB581_584.out _;(with_reducible repeat (first|refine blk_drewN ?_ _|refine blk_drew ?_|refine blk_alloc ?_ _));refine blk_far ?_ NB581_584.out _;(with_reducible repeat (first|refine blk_drewN ?_ _|refine blk_drew ?_|refine blk_alloc ?_ _));exact BK581.out⟩
 have n1_:Aside0 (((((w9.setCell ⟨gb584,0,none⟩ (.int .i64 ((rd_T83 l0_0 0).f0.f0))).setCell ⟨gb584,1,none⟩ (.int .i64 ((rd_T83 l0_0 0).f0.f1))).setCell ⟨gb585,0,none⟩ (.int .i64 ((rd_T83 l0_0 1).f0.f0))).setCell ⟨gb585,1,none⟩ (.int .i64 ((rd_T83 l0_0 1).f0.f1))).heap[gb584]?=some (.cells #[.int .i64 ((rd_T83 l0_0 0).f0.f0),.int .i64 ((rd_T83 l0_0 0).f0.f1)] 24 (0,0))):=⟨by (with_reducible repeat (first|refine blk_drewN ?_ _|refine blk_drew ?_|refine blk_alloc ?_ _));refine blk_far ?_ NB584_585.out _;(with_reducible repeat (first|refine blk_drewN ?_ _|refine blk_drew ?_|refine blk_alloc ?_ _));refine blk_far ?_ NB584_585.out _;(with_reducible repeat (first|refine blk_drewN ?_ _|refine blk_drew ?_|refine blk_alloc ?_ _));refine blk_put (cs:=#[.int .i64 ((rd_T83 l0_0 0).f0.f0),.int .i64 0]) ?_ 1 _ rfl;(with_reducible repeat (first|refine blk_drewN ?_ _|refine blk_drew ?_|refine blk_alloc ?_ _));refine blk_put (cs:=#[.int .i64 0,.int .i64 0]) ?_ 0 _ rfl;(with_reducible repeat (first|refine blk_drewN ?_ _|refine blk_drew ?_|refine blk_alloc ?_ _));exact BK584.out⟩
 have n2_:Aside0 (((((w9.setCell ⟨gb584,0,none⟩ (.int .i64 ((rd_T83 l0_0 0).f0.f0))).setCell ⟨gb584,1,none⟩ (.int .i64 ((rd_T83 l0_0 0).f0.f1))).setCell ⟨gb585,0,none⟩ (.int .i64 ((rd_T83 l0_0 1).f0.f0))).setCell ⟨gb585,1,none⟩ (.int .i64 ((rd_T83 l0_0 1).f0.f1))).heap[gb585]?=some (.cells #[.int .i64 ((rd_T83 l0_0 1).f0.f0),.int .i64 ((rd_T83 l0_0 1).f0.f1)] 24 (0,0))):=⟨by (with_reducible repeat (first|refine blk_drewN ?_ _|refine blk_drew ?_|refine blk_alloc ?_ _));refine blk_put (cs:=#[.int .i64 ((rd_T83 l0_0 1).f0.f0),.int .i64 0]) ?_ 1 _ rfl;(with_reducible repeat (first|refine blk_drewN ?_ _|refine blk_drew ?_|refine blk_alloc ?_ _));refine blk_put (cs:=#[.int .i64 0,.int .i64 0]) ?_ 0 _ rfl;(with_reducible repeat (first|refine blk_drewN ?_ _|refine blk_drew ?_|refine blk_alloc ?_ _));refine blk_far ?_ NB585_584.out _;(with_reducible repeat (first|refine blk_drewN ?_ _|refine blk_drew ?_|refine blk_alloc ?_ _));refine blk_far ?_ NB585_584.out _;(with_reducible repeat (first|refine blk_drewN ?_ _|refine blk_drew ?_|refine blk_alloc ?_ _));exact BK585.out⟩
 have n3_:Aside0 (Below w.heap.size w ((((w9.setCell ⟨gb584,0,none⟩ (.int .i64 ((rd_T83 l0_0 0).f0.f0))).setCell ⟨gb584,1,none⟩ (.int .i64 ((rd_T83 l0_0 0).f0.f1))).setCell ⟨gb585,0,none⟩ (.int .i64 ((rd_T83 l0_0 1).f0.f0))).setCell ⟨gb585,1,none⟩ (.int .i64 ((rd_T83 l0_0 1).f0.f1)))):=⟨y2u_⟩
 (try clear BK581);(try clear BK584);(try clear BK585);(try clear HB)
 generalize ((((w9.setCell ⟨gb584,0,none⟩ (.int .i64 ((rd_T83 l0_0 0).f0.f0))).setCell ⟨gb584,1,none⟩ (.int .i64 ((rd_T83 l0_0 0).f0.f1))).setCell ⟨gb585,0,none⟩ (.int .i64 ((rd_T83 l0_0 1).f0.f0))).setCell ⟨gb585,1,none⟩ (.int .i64 ((rd_T83 l0_0 1).f0.f1)))=w14 at n0_ n1_ n2_ n3_ ⊢
 have BK581:=n0_;have BK584:=n1_;have BK585:=n2_;have HB:=n3_;clear n0_ n1_ n2_ n3_;have n0_:=A0_ (blk_drew BK581.out);have n1_:=A0_ (blk_drew BK584.out);have n2_:=A0_ (blk_drew BK585.out);have n3_:=A0_ (below_drew1 HB.out);clear BK581;clear BK584;clear BK585;clear HB;have BK581:=n0_;have BK584:=n1_;have BK585:=n2_;have HB:=n3_;clear n0_ n1_ n2_ n3_
 refine start_ (n:=18) (S:=fun w'=>w'.cell? ⟨gb585,0,none⟩=some (.int .i64 ((rd_T83 l0_0 1).f0.f0))∧w'.cell? ⟨gb585,1,none⟩=some (.int .i64 ((rd_T83 l0_0 1).f0.f1))∧w'.cell? ⟨gb584,0,none⟩=some (.int .i64 ((rd_T83 l0_0 0).f0.f0))∧w'.cell? ⟨gb584,1,none⟩=some (.int .i64 ((rd_T83 l0_0 0).f0.f1))) (ds:=[]) #[false,false,false,false,false,false,false,false,false,false,false,false,false,false,false,false,false,false] (by kernel_rfl) rfl rfl ⟨(blk_cell BK585.out 0).trans rfl,(blk_cell BK585.out 1).trans rfl,(blk_cell BK584.out 0).trans rfl,(blk_cell BK584.out 1).trans rfl⟩ (fun hHeld=>?_);refine with_tabW sky_month.tab2 sky_month.bits2 (fun HT_ HW_=>?_)
 generalize w14.drew=w15 at BK581 BK584 BK585 HB hHeld ⊢
 refine pu_ (i:=0) (N:=some 18) ?_;refine pu_ (i:=2) (N:=some 20) ?_;refine pu_ (i:=5) (N:=some 23) ?_;refine pu_ (i:=7) (N:=some 25) ?_;refine pu_ (i:=10) (N:=some 28) ?_;refine pu_ (i:=12) (N:=some 30) ?_;refine ta_ (i:=1) (N:=some 19) ?_;refine ta_ (i:=3) (N:=some 21) ?_;refine pu_ (i:=4) (N:=some 22) ?_;refine pu_ (i:=16) (N:=some 6) ?_;refine ta_ (i:=6) (N:=some 24) ?_;refine ta_ (i:=8) (N:=some 26) ?_;refine pu_ (i:=9) (N:=some 27) ?_;refine ta_ (i:=11) (N:=some 29) ?_;refine ta_ (i:=13) (N:=some 31) ?_;refine pu_ (i:=14) (N:=some 32) ?_;refine pu_ (i:=15) (N:=some 33) ?_;refine pu_ (i:=17) (N:=some 7) ?_
 refine done_ (done_of HT_.out (by kernel_rfl)) ?_
 go_wp2
 exact ⟨rfl,rfl,HB.out⟩
end Go.Proofs.YtaidphhkhddemaaGreatDoor.PSky
end
section
namespace Go.Proofs.YtaidphhkhddemaaGreatDoor.PSky
open Go.RowKit Go.Proofs.YtaidphhkhddemaaGreatDoorW.PrintWords Go.Proofs.YtaidphhkhddemaaGreatDoorW.PrintLast Go.Proofs.YtaidphhkhddemaaGreatDoorW.PrintMore
def monthNum (l:List S83):Int:=wrap64 (((rd_T83 l 1).f0.f0)*((rd_T83 l 0).f0.f0))
def monthDen (l:List S83):Int:=wrap64 ((wrap64 (((rd_T83 l 1).f0.f1)*((rd_T83 l 0).f0.f0))) - (wrap64 (((rd_T83 l 0).f0.f1)*((rd_T83 l 1).f0.f0))))
set_option maxRecDepth 100000 in
set_option maxHeartbeats 800000 in
theorem Month_c1.calls (A0_0:Option Addr) (c0_0:Nat) (l0_0:List S83) (a0_1 a0_2 a0_3:Int) (r1 r2 x y:Int) (sb nb db:Nat) (w:World)
  (hs:w.heap[sb]?=some (.cells #[.slice A0_0 l0_0.length c0_0,.int .i64 a0_1,.int .i64 a0_2,.int .i64 a0_3] 28 (0,0)))
  (hn:w.heap[nb]?=some (.cells #[.int .i64 x] 3 (0,0))) (hd:w.heap[db]?=some (.cells #[.int .i64 y] 3 (0,0))) (hne:nb≠db)
  (hr0_0:Kd.C k83 w A0_0 l0_0.length l0_0) (hc0_0:l0_0.length≤c0_0) (h:sky_month.f l0_0 a0_1 a0_2 a0_3=some (r1,r2)):
  Calls Tryz.prog 91 #[.pointer (some ⟨sb,0,none⟩),.pointer (some ⟨nb,0,none⟩),.pointer (some ⟨db,0,none⟩)] w fun e w'=>e=.returned (.tuple #[])∧∃ w1,Below w.heap.size w w1∧w'=(w1.setCell ⟨nb,0,none⟩ (.int .i64 r1)).setCell ⟨db,0,none⟩ (.int .i64 r2):=by
 have HR:=A0_ hr0_0;have HC:=A0_ hc0_0;have HF:=A0_ h
 have x0:=blk_cell hs 0
 have x1:=blk_cell hs 1
 have x2:=blk_cell hs 2
 have x3:=blk_cell hs 3
 simp at x0 x1 x2 x3
 have HN:=A0_ hn;have HD:=A0_ hd;clear hr0_0 hc0_0 h hn hd hs
 have hne':=hne.symm
 go_enter Tryz.func91,Tryz.ntmps91
 go_wp2_with fail
 refine (sky_month.calls A0_0 c0_0 l0_0 a0_1 a0_2 a0_3 r1 r2 _ HR.out HC.out HF.out).mono ?_
 rintro e w1 ⟨rfl,hb⟩
 have y0:=blk_cell (blk_below HN.out hb) 0
 have y1:=blk_frozen (blk_below HN.out hb) 0
 have z0:=blk_cell (blk_below HD.out hb) 0
 have z1:=blk_frozen (blk_below HD.out hb) 0
 simp at y0 z0 y1 z1
 go_wp2_with fail
 go_end0
 exact ⟨rfl,w1,hb,rfl⟩
set_option maxRecDepth 100000 in
set_option maxHeartbeats 800000 in
theorem Month_c1.gaveUp (A0_0:Option Addr) (c0_0:Nat) (l0_0:List S83) (a0_1 a0_2 a0_3:Int) (sb nb db:Nat) (w:World)
  (hs:w.heap[sb]?=some (.cells #[.slice A0_0 l0_0.length c0_0,.int .i64 a0_1,.int .i64 a0_2,.int .i64 a0_3] 28 (0,0)))
  (hr0_0:Kd.C k83 w A0_0 l0_0.length l0_0) (hc0_0:l0_0.length≤c0_0) (h2:1<(l0_0.length:Int)) (h:monthDen l0_0≤0):
  Calls Tryz.prog 91 #[.pointer (some ⟨sb,0,none⟩),.pointer (some ⟨nb,0,none⟩),.pointer (some ⟨db,0,none⟩)] w fun e w'=>e=.panicked [{ v:=.iface 121 (.agg #[.int .i64 7]),recovered:=false }]∧Below w.heap.size w w':=by
 have HR:=A0_ hr0_0;have HC:=A0_ hc0_0
 have x0:=blk_cell hs 0
 have x1:=blk_cell hs 1
 have x2:=blk_cell hs 2
 have x3:=blk_cell hs 3
 simp at x0 x1 x2 x3
 clear hr0_0 hc0_0 hs
 go_enter Tryz.func91,Tryz.ntmps91
 go_wp2_with fail
 refine (sky_month.gaveUp A0_0 c0_0 l0_0 a0_1 a0_2 a0_3 _ HR.out HC.out h2 h).mono ?_
 rintro e w1 ⟨rfl,hb⟩
 exact ⟨rfl,rfl,hb⟩
theorem sky_month_some {l:List S83} {a1 a2 a3:Int} (h2:1<(l.length:Int)) (h:¬ monthDen l≤0):sky_month.f l a1 a2 a3=some (monthNum l,monthDen l):=by
 unfold sky_month.f
 rw [if_pos (by omega),if_pos h2]
 exact if_neg h
def sky_Month.f (k:Nat) (l:List S83) (a1 a2 a3:Int):Option (Int × Int × Int):=
 (sky_isSky.f k l a1 a2 a3).bind fun b=>if b=true then (if 1<(l.length:Int) then (if monthDen l≤0 then some (0,0,7) else (sky_gcd.f k (monthNum l) (monthDen l)).bind fun g=>if g=0 then none else some (wrap64 ((monthNum l).tdiv g),wrap64 ((monthDen l).tdiv g),0)) else none) else some (0,0,2)
set_option maxRecDepth 100000 in
set_option maxHeartbeats 1600000 in
theorem sky_Month.calls (k:Nat) (A0_0:Option Addr) (c0_0:Nat) (l0_0:List S83) (a0_1 a0_2 a0_3 r1 r2 r3:Int) (w:World)
  (hr0_0:Kd.C k83 w A0_0 l0_0.length l0_0) (hc0_0:l0_0.length≤c0_0) (h:sky_Month.f k l0_0 a0_1 a0_2 a0_3=some (r1,r2,r3)):
  Calls Tryz.prog 47 #[.agg #[.slice A0_0 l0_0.length c0_0,.int .i64 a0_1,.int .i64 a0_2,.int .i64 a0_3]] w fun e w'=>e=.returned (.tuple #[.int .i64 r1,.int .i64 r2,.int .i64 r3])∧Below w.heap.size w w':=by
 have HR:=A0_ hr0_0;have HC:=A0_ hc0_0;clear hr0_0 hc0_0
 have hmf:∀ (fn:Fn) (first cap:Array Value) (w:World),(Instr.makeFunc fn first cap).run Tryz.prog w=.ok (.func fn first cap) w:=fun _ _ _ _=>rfl
 have hcf:∀ (args:Array Value) (W:World),(callFunc 91 args).run Tryz.prog W=.ok (.enter 91 args) W:=fun _ _=>rfl
 obtain ⟨b,hb0,h1⟩:=Option.bind_eq_some_iff.mp h
 have HB0:=A0_ hb0;clear h hb0
 go_enter Tryz.func47,Tryz.ntmps47
 go_wp2_with fail
 refine (sky_isSky.calls k A0_0 c0_0 l0_0 a0_1 a0_2 a0_3 b _ ?hC HC.out HB0.out).mono ?_
 case hC=>exact Kd.C_alloc HR.out _
 rintro e w1 ⟨rfl,hb⟩
 have HS:=A0_ (blk_below (blk_new w (.cells #[.slice A0_0 l0_0.length c0_0,.int .i64 a0_1,.int .i64 a0_2,.int .i64 a0_3] 28)) hb)
 have HB:=A0_ (below_step (below_alloc (Below.refl _ _) _) hb)
 clear hb
 cases b with
 |false=>
  obtain ⟨rfl,rfl,rfl⟩:(0:Int)=r1∧(0:Int)=r2∧(2:Int)=r3:=by simpa using h1
  go_wp2
  go_ret3
  exact ⟨rfl,HB.out⟩
 |true=>
 have hl:1<(l0_0.length:Int):=by
  by_cases c:1<(l0_0.length:Int)
  ·exact c
  ·simp [c] at h1
 rw [if_pos rfl,if_pos hl] at h1
 go_wp2_with fail
 have hs1:=blk_alloc (blk_alloc (blk_alloc HS.out (.cells #[.int .i64 0] 3)) (.cells #[.int .i64 1] 3)) (.cells #[.int .i64 0] 32)
 have hn1:=blk_alloc (blk_alloc (blk_new w1 (.cells #[.int .i64 0] 3)) (.cells #[.int .i64 1] 3)) (.cells #[.int .i64 0] 32)
 have hd1:=blk_alloc (blk_new (w1.alloc (.cells #[.int .i64 0] 3)) (.cells #[.int .i64 1] 3)) (.cells #[.int .i64 0] 32)
 have he1:=blk_new ((w1.alloc (.cells #[.int .i64 0] 3)).alloc (.cells #[.int .i64 1] 3)) (.cells #[.int .i64 0] 32)
 have hC1:=Kd.C_below HR.out (below_alloc (below_alloc (below_alloc HB.out (.cells #[.int .i64 0] 3)) (.cells #[.int .i64 1] 3)) (.cells #[.int .i64 0] 32))
 have HB1:=A0_ (below_alloc (below_alloc (below_alloc HB.out (.cells #[.int .i64 0] 3)) (.cells #[.int .i64 1] 3)) (.cells #[.int .i64 0] 32))
 simp only [World.size_alloc] at hd1 he1
 have hsz:=blk_lt HS.out
 have hle:=HB.out.size
 by_cases hden:monthDen l0_0≤0
 ·obtain ⟨rfl,rfl,rfl⟩:(0:Int)=r1∧(0:Int)=r2∧(7:Int)=r3:=by simpa [hden] using h1
  refine (try_gaveUp _ _ 7 _ (fun w'=>Below w.heap.size w w') (hcf _) ((Month_c1.gaveUp A0_0 c0_0 l0_0 a0_1 a0_2 a0_3 _ _ _ _ hs1 hC1 HC.out hl hden).mono ?_)).mono ?_
  ·rintro e w2 ⟨rfl,hb⟩
   simp only [World.size_alloc]
   refine ⟨trivial,?_,?_,below_step HB1.out hb⟩
   ·exact (blk_cell (blk_below he1 hb) 0).trans rfl
   ·exact blk_frozen (blk_below he1 hb) 0
  rintro e w2 ⟨rfl,w3,hb,rfl⟩
  go_wp2_with fail
  go_ret3
  refine ⟨rfl,?_⟩
  exact below_alloc (below_set hb y4p_) _
 ·rw [if_neg hden] at h1
  obtain ⟨g,hg0,h2⟩:=Option.bind_eq_some_iff.mp h1
  have HG:=A0_ hg0;clear hg0 h1
  by_cases hgz:g=0
  ·simp [hgz] at h2
  rw [if_neg hgz] at h2
  obtain ⟨rfl,rfl,rfl⟩:wrap64 ((monthNum l0_0).tdiv g)=r1∧wrap64 ((monthDen l0_0).tdiv g)=r2∧(0:Int)=r3:=by simpa using h2
  refine (try_done _ _ _ (fun w'=>Below w.heap.size w w'∧w'.heap[w1.heap.size]?=some (.cells #[.int .i64 (monthNum l0_0)] 3 (0,0))∧w'.heap[w1.heap.size+1]?=some (.cells #[.int .i64 (monthDen l0_0)] 3 (0,0))) (hcf _) ((Month_c1.calls A0_0 c0_0 l0_0 a0_1 a0_2 a0_3 _ _ _ _ _ _ _ _ hs1 hn1 hd1 (by omega) hC1 HC.out (sky_month_some hl hden)).mono ?_)).mono ?_
  ·rintro e w2 ⟨rfl,w3,hb,rfl⟩
   simp only [World.size_alloc]
   have q:=blk_far (p:=⟨w1.heap.size+1,0,none⟩) (blk_far (p:=⟨w1.heap.size,0,none⟩) (blk_below he1 hb) (by simp;omega) (.int .i64 (monthNum l0_0))) (by simp) (.int .i64 (monthDen l0_0))
   refine ⟨trivial,?_,?_,below_set (below_set (below_step HB1.out hb) (by omega)) (by omega),?_,?_⟩
   ·exact (blk_cell q 0).trans rfl
   ·exact blk_frozen q 0
   ·exact blk_far (blk_set (blk_below hn1 hb) 0 _) (by simp) _
   ·exact blk_set (blk_far (blk_below hd1 hb) (by simp) _) 0 _
  rintro e w2 ⟨rfl,w3,⟨hb,hn3,hd3⟩,rfl⟩
  have hn4:=blk_far (p:=⟨w1.heap.size+2,0,none⟩) hn3 (by simp) (.int .i64 0)
  have hd4:=blk_far (p:=⟨w1.heap.size+2,0,none⟩) hd3 (by simp) (.int .i64 0)
  have hb4:=below_set (g:=w1.heap.size+2) (j:=0) (v:=.int .i64 0) hb (by omega)
  simp only [World.size_alloc] at hn4 hd4 hb4 ⊢
  have y0:=blk_cell hn4 0
  have z0:=blk_cell hd4 0
  simp at y0 z0
  have HB4:=A0_ hb4;have HN4:=A0_ hn4;have HD4:=A0_ hd4;clear hn3 hd3 hb hb4 hs1 hn1 hd1 he1 hC1
  go_wp2_with fail
  refine (sky_gcd.calls k _ _ g _ HG.out).mono ?_
  rintro e w5 ⟨rfl,⟨nd,rfl⟩⟩
  have HB5:=A0_ (pw_below_drewN HB4.out nd)
  have HN5:=A0_ (blk_drewN HN4.out nd)
  have HD5:=A0_ (blk_drewN HD4.out nd)
  generalize ((w3.setCell ⟨w1.heap.size+1+1,0,none⟩ (.int .i64 0)).drewN nd)=w6 at HB5 HN5 HD5 ⊢
  have y1:=blk_cell HN5.out 0
  have z1:=blk_cell HD5.out 0
  simp at y1 z1
  go_wp2
  have hg2:(g == 0)=false:=beq_eq_false_iff_ne.mpr hgz
  have hg3:(g != 0)=true:=bne_iff_ne.mpr hgz
  repeat (go_quiet (fail);try go_wp2)
  go_ret3
  exact ⟨rfl,pw_below_drewN HB5.out _⟩
end Go.Proofs.YtaidphhkhddemaaGreatDoor.PSky
end
section
namespace Go.Proofs.YtaidphhkhddemaaGreatDoor.PSky
open Go.RowKit Go.Proofs.YtaidphhkhddemaaGreatDoorW.PrintWords Go.Proofs.YtaidphhkhddemaaGreatDoorW.PrintLast Go.Proofs.YtaidphhkhddemaaGreatDoorW.PrintMore
set_option maxRecDepth 100000 in
set_option maxHeartbeats 800000 in
theorem sky_drift.gaveUp (A0_0:Option Addr) (c0_0:Nat) (l0_0:List S83) (a0_1 a0_2 a0_3 a1:Int) (w:World)
  (hr0_0:Kd.C k83 w A0_0 l0_0.length l0_0) (hc0_0:l0_0.length≤c0_0) (h2:1<(l0_0.length:Int)) (h:monthDen l0_0≤0):
  Calls Tryz.prog 95 #[.agg #[.slice A0_0 l0_0.length c0_0,.int .i64 a0_1,.int .i64 a0_2,.int .i64 a0_3],.int .i64 a1] w fun e w'=>e=.panicked [{ v:=.iface 121 (.agg #[.int .i64 7]),recovered:=false }]∧Below w.heap.size w w':=by
 have HR:=A0_ hr0_0;have HC:=A0_ hc0_0;clear hr0_0 hc0_0
 go_enter Tryz.func95,Tryz.ntmps95
 go_wp2_with fail
 refine (sky_month.gaveUp A0_0 c0_0 l0_0 a0_1 a0_2 a0_3 _ ?hC HC.out h2 h).mono ?_
 case hC=>exact Kd.C_alloc HR.out _
 rintro e w1 ⟨rfl,hb⟩
 exact ⟨rfl,rfl,below_step (below_alloc (Below.refl _ _) _) hb⟩
def cycleFrom (D:Int→Option Int) (limit:Int):Nat→Int→Option (Option Int)
 |0,_=>some none
 |m+1,n=>(D n).bind fun d=>if d≤limit then some (some n) else cycleFrom D limit m (n+1)
def CycleEnds (nb:Nat):Option Int→Ending→World→Prop
 |some n,e,w'=>e=.returned (.tuple #[])∧w'.heap[nb]?=some (.cells #[.int .i64 n] 3 (0,0))
 |none,e,_=>e=.panicked [{ v:=.iface 121 (.agg #[.int .i64 5]),recovered:=false }]
set_option maxRecDepth 100000 in
set_option maxHeartbeats 1600000 in
theorem Cycle_c1.calls (A0_0:Option Addr) (c0_0:Nat) (l0_0:List S83) (a0_1 a0_2 a0_3 limit x:Int) (res:Option Int) (nb sb lb eb:Nat) (W0 w:World)
  (hs:w.heap[sb]?=some (.cells #[.slice A0_0 l0_0.length c0_0,.int .i64 a0_1,.int .i64 a0_2,.int .i64 a0_3] 28 (0,0)))
  (hl:w.heap[lb]?=some (.cells #[.int .i64 limit] 3 (0,0))) (hn:w.heap[nb]?=some (.cells #[.int .i64 x] 3 (0,0)))
  (he:w.heap[eb]?=some (.cells #[.int .i64 0] 32 (0,0))) (hW0:Below W0.heap.size W0 w) (hnb:W0.heap.size≤nb)
  (hns:nb≠sb) (hnl:nb≠lb) (hnee:nb≠eb)
  (hr0_0:Kd.C k83 W0 A0_0 l0_0.length l0_0) (hc0_0:l0_0.length≤c0_0) (h:cycleFrom (fun n=>sky_drift.f l0_0 a0_1 a0_2 a0_3 n) limit 400 1=some res):
  Calls Tryz.prog 94 #[.pointer (some ⟨nb,0,none⟩),.pointer (some ⟨sb,0,none⟩),.pointer (some ⟨lb,0,none⟩)] w fun e w'=>
   CycleEnds nb res e w' ∧
   w'.heap[eb]?=some (.cells #[.int .i64 0] 32 (0,0))∧Below W0.heap.size W0 w':=by
 have HR:=A0_ hr0_0;have HC:=A0_ hc0_0;have HF:=A0_ h
 have y0:=blk_cell hn 0
 have y1:=blk_frozen hn 0
 simp at y0 y1
 have HS:=A0_ (blk_far (p:=⟨nb,0,none⟩) hs hns.symm (.int .i64 1))
 have HL:=A0_ (blk_far (p:=⟨nb,0,none⟩) hl hnl.symm (.int .i64 1))
 have HE:=A0_ (blk_far (p:=⟨nb,0,none⟩) he hnee.symm (.int .i64 1))
 have HN:=A0_ (blk_set hn 0 (.int .i64 1))
 have HW:=A0_ (below_set (j:=0) (v:=.int .i64 1) hW0 hnb)
 have HNS:=A0_ hns;have HNL:=A0_ hnl;have HNE:=A0_ hnee;have HNB:=A0_ hnb;clear hr0_0 hc0_0 h hn hs hl he hW0 hns hnl hnee hnb
 go_enter Tryz.func94,Tryz.ntmps94
 go_wp2
 go_loopg [] 401 (fun kq w'=>∃ (n:Int),(kq:Int)+n=402∧1≤n∧n≤401∧Aside0 (cycleFrom (fun n=>sky_drift.f l0_0 a0_1 a0_2 a0_3 n) limit (kq - 1) n=some res)
  ∧ Aside0 (w'.heap[sb]?=some (.cells #[.slice A0_0 l0_0.length c0_0,.int .i64 a0_1,.int .i64 a0_2,.int .i64 a0_3] 28 (0,0)))∧Aside0 (w'.heap[lb]?=some (.cells #[.int .i64 limit] 3 (0,0)))
  ∧ Aside0 (w'.heap[nb]?=some (.cells #[.int .i64 n] 3 (0,0)))∧Aside0 (w'.heap[eb]?=some (.cells #[.int .i64 0] 32 (0,0)))∧Aside0 (Below W0.heap.size W0 w'))
 case atStart=>exact ⟨(1:Int),rfl,by decide,by decide,HF,HS,HL,HN,HE,HW⟩
 case round=>
  obtain ⟨n,hkn,hn1,hn2,HF1,HS1,HL1,HN1,HE1,HW1⟩:=hrel
  clear HF HS HL HN HE HW y0 y1
  have x0:=blk_cell HS1.out 0
  have x1:=blk_cell HS1.out 1
  have x2:=blk_cell HS1.out 2
  have x3:=blk_cell HS1.out 3
  have x4:=blk_cell HL1.out 0
  have x5:=blk_cell HN1.out 0
  simp at x0 x1 x2 x3 x4 x5
  by_cases c4:n≤400
  ·have c4b0:decide (n≤400)=true:=decide_eq_true c4
   obtain ⟨m,rfl⟩:∃ m,gk=m+2:=⟨gk - 2,by omega⟩
   have hF:=HF1.out
   simp only [Nat.add_succ_sub_one,cycleFrom] at hF
   obtain ⟨d,hd0,hF2⟩:=Option.bind_eq_some_iff.mp hF
   have HD:=A0_ hd0;clear hF hd0 HF1
   by_cases c5:d≤limit
   ·have c5b0:decide (d≤limit)=true:=decide_eq_true c5
    rw [if_pos c5] at hF2
    clear c5
    obtain rfl:=Option.some.inj hF2
    go_wp2
    go_region_law ((go_simp;go_at_call 95;refine (sky_drift.calls A0_0 c0_0 l0_0 a0_1 a0_2 a0_3 n d _ (by first|exact Kd.C_below HR.out HW1.out|exact Kd.C_below HR.out (below_drew1 HW1.out)) HC.out HD.out).mono ?_;rintro e w2 ⟨rfl,hb⟩;have x4':=blk_cell (blk_below (blk_drew HL1.out) hb) 0;simp at x4';have HN2:=A0_ (blk_below (blk_drew HN1.out) hb);have HE2:=A0_ (blk_below (blk_drew HE1.out) hb);have HW2:=A0_ (below_step (below_drew1 HW1.out) hb);clear hb))
    all_goals go_wp2
    all_goals (try simp only [Exit.inBlock,Exit.then])
    all_goals refine bodyPost_ret (results_none rfl _ _ _) rfl ?_
    all_goals exact ⟨⟨rfl,HN2.out⟩,HE2.out,HW2.out⟩
   ·have c5b0:decide (d≤limit)=false:=decide_eq_false c5
    rw [if_neg c5] at hF2
    clear c5;have HF2:=A0_ hF2;clear hF2
    have hw1:wrap64 (n+1)=n+1:=by unfold wrap64;omega
    go_wp2
    go_region_law ((go_simp;go_at_call 95;refine (sky_drift.calls A0_0 c0_0 l0_0 a0_1 a0_2 a0_3 n d _ (by first|exact Kd.C_below HR.out HW1.out|exact Kd.C_below HR.out (below_drew1 HW1.out)) HC.out HD.out).mono ?_;rintro e w2 ⟨rfl,hb⟩;have x4':=blk_cell (blk_below (blk_drew HL1.out) hb) 0;simp at x4';have HN2:=A0_ (blk_below (blk_drew HN1.out) hb);have HE2:=A0_ (blk_below (blk_drew HE1.out) hb);have HW2:=A0_ (below_step (below_drew1 HW1.out) hb);have HS2:=A0_ (blk_below (blk_drew HS1.out) hb);have HL2:=A0_ (blk_below (blk_drew HL1.out) hb);have x6:=blk_cell HN2.out 0;have x7:=blk_frozen HN2.out 0;simp at x6 x7;clear hb))
    all_goals go_wp2
    all_goals go_roundg (m+1)
    all_goals first
     |omega
     |exact ⟨n+1,by omega,by omega,by omega,HF2,⟨blk_far HS2.out HNS.out.symm _⟩,⟨blk_far HL2.out HNL.out.symm _⟩,⟨blk_set HN2.out 0 _⟩,⟨blk_far HE2.out HNE.out.symm _⟩,⟨below_set HW2.out HNB.out⟩⟩
  ·have c4b0:decide (n≤400)=false:=decide_eq_false c4
   obtain rfl:gk=1:=by omega
   have hF:=HF1.out
   simp only [Nat.sub_self,cycleFrom] at hF
   obtain rfl:=Option.some.inj hF
   go_wp2
   exact ⟨rfl,rfl,HE1.out,HW1.out⟩
set_option maxRecDepth 100000 in
set_option maxHeartbeats 800000 in
theorem Cycle_c1.gaveUp (A0_0:Option Addr) (c0_0:Nat) (l0_0:List S83) (a0_1 a0_2 a0_3 limit x:Int) (nb sb lb eb:Nat) (W0 w:World)
  (hs:w.heap[sb]?=some (.cells #[.slice A0_0 l0_0.length c0_0,.int .i64 a0_1,.int .i64 a0_2,.int .i64 a0_3] 28 (0,0)))
  (hl:w.heap[lb]?=some (.cells #[.int .i64 limit] 3 (0,0))) (hnl:nb≠lb)
  (hn:w.heap[nb]?=some (.cells #[.int .i64 x] 3 (0,0))) (he:w.heap[eb]?=some (.cells #[.int .i64 0] 32 (0,0)))
  (hW0:Below W0.heap.size W0 w) (hnb:W0.heap.size≤nb) (hns:nb≠sb) (hnee:nb≠eb)
  (hr0_0:Kd.C k83 W0 A0_0 l0_0.length l0_0) (hc0_0:l0_0.length≤c0_0) (h2:1<(l0_0.length:Int)) (h:monthDen l0_0≤0):
  Calls Tryz.prog 94 #[.pointer (some ⟨nb,0,none⟩),.pointer (some ⟨sb,0,none⟩),.pointer (some ⟨lb,0,none⟩)] w fun e w'=>e=.panicked [{ v:=.iface 121 (.agg #[.int .i64 7]),recovered:=false }]∧w'.heap[eb]?=some (.cells #[.int .i64 0] 32 (0,0))∧Below W0.heap.size W0 w':=by
 have HR:=A0_ hr0_0;have HC:=A0_ hc0_0
 have y0:=blk_cell hn 0
 have y1:=blk_frozen hn 0
 simp at y0 y1
 have HS:=A0_ (blk_far (p:=⟨nb,0,none⟩) hs hns.symm (.int .i64 1))
 have HL:=A0_ (blk_far (p:=⟨nb,0,none⟩) hl hnl.symm (.int .i64 1))
 have HN:=A0_ (blk_set hn 0 (.int .i64 1))
 have HE:=A0_ (blk_far (p:=⟨nb,0,none⟩) he hnee.symm (.int .i64 1))
 have HW:=A0_ (below_set (j:=0) (v:=.int .i64 1) hW0 hnb)
 clear hr0_0 hc0_0 hn hs he hW0 hns hnee hnb
 go_enter Tryz.func94,Tryz.ntmps94
 go_wp2
 generalize w.setCell ⟨nb,0,none⟩ (.int .i64 1)=w1 at HS HL HN HE HW ⊢
 have x0:=blk_cell HS.out 0
 have x1:=blk_cell HS.out 1
 have x2:=blk_cell HS.out 2
 have x3:=blk_cell HS.out 3
 have x4:=blk_cell HL.out 0
 have x5:=blk_cell HN.out 0
 simp at x0 x1 x2 x3 x4 x5
 refine wp_loop_rounds 1 ?_
 rw [rounds_succ]
 go_wp2
 refine start_ (n:=5) (S:=fun w'=>w'.cell? ⟨sb,0,none⟩=some (.slice A0_0 l0_0.length c0_0)∧w'.cell? ⟨sb,1,none⟩=some (.int .i64 a0_1)∧w'.cell? ⟨sb,2,none⟩=some (.int .i64 a0_2)∧w'.cell? ⟨sb,3,none⟩=some (.int .i64 a0_3)∧w'.cell? ⟨nb,0,none⟩=some (.int .i64 1)∧w'.cell? ⟨lb,0,none⟩=some (.int .i64 limit)) (ds:=[]) #[false,false,false,false,false] (by kernel_rfl) rfl rfl ⟨x0,x1,x2,x3,x5,x4⟩ (fun hHeld=>?_)
 refine take_ (i:=0) (N:=some 7) (v:=?_) (a':=?_) #[true,false,false,false,false] rfl rfl (by kernel_rfl) (fun _ _ _ h=>h) (Or.inl ⟨by rfl,?_⟩) hHeld ?_ ?_
 rotate_left
 ·rintro w' ⟨s0,s1,s2,s3,s4,s5⟩
  go_simp
  with_reducible rfl
 rotate_left
 ·simp only [Act.put,List.setIfInBounds_toArray,List.set_cons_zero,List.set_cons_succ]
  rfl
 refine take_ (i:=1) (N:=some 8) (v:=?_) (a':=?_) #[true,true,false,false,false] rfl rfl (by kernel_rfl) (fun _ _ _ h=>h) (Or.inl ⟨by rfl,?_⟩) hHeld ?_ ?_
 rotate_left
 ·rintro w' ⟨s0,s1,s2,s3,s4,s5⟩
  go_simp
  with_reducible rfl
 rotate_left
 ·simp only [Act.put,List.setIfInBounds_toArray,List.set_cons_zero,List.set_cons_succ]
  rfl
 refine take_ (i:=3) (N:=some 10) (v:=?_) (a':=?_) #[true,true,false,true,false] rfl rfl (by kernel_rfl) (fun _ _ _ h=>h) (Or.inl ⟨by rfl,?_⟩) hHeld ?_ ?_
 rotate_left
 ·rintro w' ⟨s0,s1,s2,s3,s4,s5⟩
  go_simp
  with_reducible rfl
 rotate_left
 ·simp only [Act.put,List.setIfInBounds_toArray,List.set_cons_zero,List.set_cons_succ]
  rfl
 refine one_ (i:=2) (N:=some 9) #[true,true,true,true,false] rfl rfl (by kernel_rfl) (by decide) (fun K hK=>?_)
 go_simp
 refine (sky_drift.gaveUp A0_0 c0_0 l0_0 a0_1 a0_2 a0_3 1 _ (Kd.C_below HR.out (below_drew1 HW.out)) HC.out h2 h).mono ?_
 rintro e w2 ⟨rfl,hb⟩
 exact ⟨rfl,rfl,blk_below (blk_drew HE.out) hb,below_step (below_drew1 HW.out) hb⟩
def sky_Cycle.f (k:Nat) (l:List S83) (a1 a2 a3 m:Int):Option (Int × Int):=
 (sky_isSky.f k l a1 a2 a3).bind fun b=>if b=true then (sky_isLimit.f m).bind fun b2=>if b2=true then (if 1<(l.length:Int) then (if monthDen l≤0 then some (0,7) else (cycleFrom (fun n=>sky_drift.f l a1 a2 a3 n) m 400 1).bind fun r=>match r with|some n=>some (n,0)|none=>some (0,5)) else none) else some (0,2) else some (0,2)
set_option maxRecDepth 100000 in
set_option maxHeartbeats 1600000 in
theorem sky_Cycle.calls (k:Nat) (A0_0:Option Addr) (c0_0:Nat) (l0_0:List S83) (a0_1 a0_2 a0_3 a1 r1 r2:Int) (w:World)
  (hr0_0:Kd.C k83 w A0_0 l0_0.length l0_0) (hc0_0:l0_0.length≤c0_0) (h:sky_Cycle.f k l0_0 a0_1 a0_2 a0_3 a1=some (r1,r2)):
  Calls Tryz.prog 48 #[.agg #[.slice A0_0 l0_0.length c0_0,.int .i64 a0_1,.int .i64 a0_2,.int .i64 a0_3],.int .i64 a1] w fun e w'=>e=.returned (.tuple #[.int .i64 r1,.int .i64 r2])∧Below w.heap.size w w':=by
 have HR:=A0_ hr0_0;have HC:=A0_ hc0_0;clear hr0_0 hc0_0
 have hmf:∀ (fn:Fn) (first cap:Array Value) (w:World),(Instr.makeFunc fn first cap).run Tryz.prog w=.ok (.func fn first cap) w:=fun _ _ _ _=>rfl
 have hcf:∀ (args:Array Value) (W:World),(callFunc 94 args).run Tryz.prog W=.ok (.enter 94 args) W:=fun _ _=>rfl
 obtain ⟨b,hb0,h1⟩:=Option.bind_eq_some_iff.mp h
 have HB0:=A0_ hb0;clear h hb0
 go_enter Tryz.func48,Tryz.ntmps48
 go_wp2_with fail
 refine (sky_isSky.calls k A0_0 c0_0 l0_0 a0_1 a0_2 a0_3 b _ ?hC HC.out HB0.out).mono ?_
 case hC=>exact Kd.C_alloc (Kd.C_alloc HR.out _) _
 rintro e w1 ⟨rfl,hb⟩
 have HS:=A0_ (blk_below (blk_alloc (blk_new w (.cells #[.slice A0_0 l0_0.length c0_0,.int .i64 a0_1,.int .i64 a0_2,.int .i64 a0_3] 28)) (.cells #[.int .i64 a1] 3)) hb)
 have HM:=A0_ (blk_below (blk_new (w.alloc (.cells #[.slice A0_0 l0_0.length c0_0,.int .i64 a0_1,.int .i64 a0_2,.int .i64 a0_3] 28)) (.cells #[.int .i64 a1] 3)) hb)
 simp only [World.size_alloc] at HM
 have HB:=A0_ (below_step (below_alloc (below_alloc (Below.refl _ _) _) _) hb)
 clear hb
 cases b with
 |false=>
  obtain ⟨rfl,rfl⟩:(0:Int)=r1∧(2:Int)=r2:=by simpa using h1
  go_wp2
  go_ret2
  exact ⟨rfl,HB.out⟩
 |true=>
 obtain ⟨b2,hb2,h2⟩:=Option.bind_eq_some_iff.mp (show ((sky_isLimit.f a1).bind _)=some (r1,r2) from by simpa using h1)
 have HB2:=A0_ hb2;clear h1 hb2
 have m0:=blk_cell HM.out 0
 simp at m0
 go_wp2_with fail
 refine (sky_isLimit.calls a1 b2 _ HB2.out).mono ?_
 rintro e w2 ⟨rfl,⟨nd,rfl⟩⟩
 clear m0
 have HS2:=A0_ (blk_drewN HS.out nd)
 have HM2:=A0_ (blk_drewN HM.out nd)
 have HBB:=A0_ (pw_below_drewN HB.out nd)
 clear HS HM HB
 generalize w1.drewN nd=w3 at HS2 HM2 HBB ⊢
 cases b2 with
 |false=>
  obtain ⟨rfl,rfl⟩:(0:Int)=r1∧(2:Int)=r2:=by simpa using h2
  go_wp2
  go_ret2
  exact ⟨rfl,HBB.out⟩
 |true=>
 have hl:1<(l0_0.length:Int):=by
  by_cases c:1<(l0_0.length:Int)
  ·exact c
  ·simp [c] at h2
 rw [if_pos rfl,if_pos hl] at h2
 go_wp2_with fail
 have hs1:=blk_alloc (blk_alloc HS2.out (.cells #[.int .i64 0] 3)) (.cells #[.int .i64 0] 32)
 have hm1:=blk_alloc (blk_alloc HM2.out (.cells #[.int .i64 0] 3)) (.cells #[.int .i64 0] 32)
 have hn1:=blk_alloc (blk_new w3 (.cells #[.int .i64 0] 3)) (.cells #[.int .i64 0] 32)
 have he1:=blk_new (w3.alloc (.cells #[.int .i64 0] 3)) (.cells #[.int .i64 0] 32)
 have hC1:=Kd.C_below HR.out (below_alloc (below_alloc HBB.out (.cells #[.int .i64 0] 3)) (.cells #[.int .i64 0] 32))
 have HB1:=A0_ (below_alloc (below_alloc HBB.out (.cells #[.int .i64 0] 3)) (.cells #[.int .i64 0] 32))
 simp only [World.size_alloc] at he1
 have hle:=HBB.out.size
 have hlt:=blk_lt HM2.out
 by_cases hden:monthDen l0_0≤0
 ·obtain ⟨rfl,rfl⟩:(0:Int)=r1∧(7:Int)=r2:=by simpa [hden] using h2
  refine (try_gaveUp _ _ 7 _ (fun w'=>Below w.heap.size w w') (hcf _) ((Cycle_c1.gaveUp A0_0 c0_0 l0_0 a0_1 a0_2 a0_3 _ _ _ _ _ _ _ _ hs1 hm1 (by omega) hn1 he1 HB1.out hle (by omega) (by omega) HR.out HC.out hl hden).mono ?_)).mono ?_
  ·rintro e w4 ⟨rfl,he4,hb⟩
   simp only [World.size_alloc]
   exact ⟨trivial,(blk_cell he4 0).trans rfl,blk_frozen he4 0,hb⟩
  rintro e w4 ⟨rfl,w5,hb,rfl⟩
  go_wp2_with fail
  go_ret2
  refine ⟨rfl,?_⟩
  exact below_alloc (below_set hb y4p_) _
 ·rw [if_neg hden] at h2
  obtain ⟨res,hres0,h3⟩:=Option.bind_eq_some_iff.mp h2
  have hcc:=Cycle_c1.calls A0_0 c0_0 l0_0 a0_1 a0_2 a0_3 a1 0 res w3.heap.size w.heap.size (w.heap.size+1) (w3.heap.size+1) w _ hs1 hm1 hn1 he1 HB1.out hle (by omega) (by omega) (by omega) HR.out HC.out hres0
  cases res with
  |none=>
   obtain ⟨rfl,rfl⟩:(0:Int)=r1∧(5:Int)=r2:=by simpa using h3
   refine (try_gaveUp _ _ 5 _ (fun w'=>Below w.heap.size w w') (hcf _) (hcc.mono ?_)).mono ?_
   ·rintro e w4 ⟨rfl,he4,hb4⟩
    simp only [World.size_alloc]
    exact ⟨trivial,(blk_cell he4 0).trans rfl,blk_frozen he4 0,hb4⟩
   rintro e w4 ⟨rfl,w5,hb,rfl⟩
   go_wp2_with fail
   go_ret2
   refine ⟨rfl,?_⟩
   exact below_alloc (below_set hb y4p_) _
  |some d=>
   obtain ⟨rfl,rfl⟩:d=r1∧(0:Int)=r2:=by simpa using h3
   refine (try_done _ _ _ (fun w'=>Below w.heap.size w w'∧w'.heap[w3.heap.size]?=some (.cells #[.int .i64 d] 3 (0,0))) (hcf _) (hcc.mono ?_)).mono ?_
   ·rintro e w4 ⟨⟨rfl,hn4⟩,he4,hb4⟩
    simp only [World.size_alloc]
    exact ⟨trivial,(blk_cell he4 0).trans rfl,blk_frozen he4 0,hb4,hn4⟩
   rintro e w4 ⟨rfl,w5,⟨hb,hn3⟩,rfl⟩
   have hn4:=blk_far (p:=⟨w3.heap.size+1,0,none⟩) hn3 (by simp) (.int .i64 0)
   have hb4:=below_set (g:=w3.heap.size+1) (j:=0) (v:=.int .i64 0) hb (by omega)
   simp only [World.size_alloc] at hn4 hb4 ⊢
   have y0:=blk_cell hn4 0
   simp at y0
   have HB4:=A0_ hb4;clear hn3 hn4 hb hb4 hs1 hm1 hn1 he1 hC1 hcc
   go_wp2_with fail
   go_ret2
   exact ⟨rfl,HB4.out⟩
end Go.Proofs.YtaidphhkhddemaaGreatDoor.PSky
end
