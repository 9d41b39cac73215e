/- A part of the proof of a law of the layer sky. -/
import Derived.Test.YtjahbgldccjbfaaGreatDoorPlaces0
section
namespace Go.Proofs.YtjahbgldccjbfaaGreatDoor.PSky
open Go.RowKit Go.Proofs.YtjahbgldccjbfaaGreatDoorW.PrintWords Go.Proofs.YtjahbgldccjbfaaGreatDoorW.PrintLast Go.Proofs.YtjahbgldccjbfaaGreatDoorW.PrintMore
attribute [local go_sem] max2_int min2_int max_two min_two max_three min_three max_four min_four
set_option linter.unusedVariables false
set_option linter.unusedSimpArgs false
mutual
def tl_SkyPlaces.j0:Nat→Int→Int→Int→Int→Int→Int→Int→Int→Int→Int→Int→Bool→Bool→List (S74)→Int→Int→Int→Option (Bool)
 |0,_,_,_,_,_,_,_,_,_,_,_,_,_,_,_,_,_=>none
 |k+1,x1,x2,x3,x10,x11,x12,x13,x14,x15,x16,x17,x18,x67,x558000,x558001,x558002,x558003=>if x67=true then (some false) else (if x18=true then ((tr_Day.f x3).bind fun t570=>(tl_SkyPlaces.j1 k x1 x2 x3 x10 x11 x12 x13 x14 x15 x16 x17 (!t570) x558000 x558001 x558002 x558003)) else (tl_SkyPlaces.j1 k x1 x2 x3 x10 x11 x12 x13 x14 x15 x16 x17 true x558000 x558001 x558002 x558003))
def tl_SkyPlaces.j1:Nat→Int→Int→Int→Int→Int→Int→Int→Int→Int→Int→Int→Bool→List (S74)→Int→Int→Int→Option (Bool)
 |0,_,_,_,_,_,_,_,_,_,_,_,_,_,_,_,_=>none
 |k+1,x1,x2,x3,x10,x11,x12,x13,x14,x15,x16,x17,x74,x558000,x558001,x558002,x558003=>if x74=true then (if x11=2 then (if x10=0 then (if x13=2 then (if x12=0 then (if x15=2 then (if x14=0 then (if x17=2 then (if x16=0 then ((tl_known.f).bind fun t571=>(some t571)) else (some false)) else (some false)) else (some false)) else (some false)) else (some false)) else (some false)) else (some false)) else (some false)) else (if x15=0 then ((tr_Node.f x558001 x558002 x558003 x3).bind fun t572=>(tl_SkyPlaces.j2 k x1 x2 x3 x10 x11 x12 x13 x16 x17 (x14 != t572) x558000 x558001 x558002 x558003)) else (tl_SkyPlaces.j2 k x1 x2 x3 x10 x11 x12 x13 x16 x17 true x558000 x558001 x558002 x558003))
def tl_SkyPlaces.j2:Nat→Int→Int→Int→Int→Int→Int→Int→Int→Int→Bool→List (S74)→Int→Int→Int→Option (Bool)
 |0,_,_,_,_,_,_,_,_,_,_,_,_,_,_=>none
 |k+1,x1,x2,x3,x10,x11,x12,x13,x16,x17,x117,x558000,x558001,x558002,x558003=>if x117=true then (some false) else ((tr_Body.f x558000 x558001 x558002 x558003 x1).bind fun t573=>(if t573=true then (if x11=0 then (if 0≤x1 then (if x1<(x558000.length:Int) then ((tr_Mean.f ((rd_T74 x558000 x1).f0.f0) ((rd_T74 x558000 x1).f0.f1) ((rd_T74 x558000 x1).f1) ((rd_T74 x558000 x1).f2) x3).bind fun t576=>(if x10=t576 then (if x13=0 then ((tr_Place.f ((rd_T74 x558000 x1).f0.f0) ((rd_T74 x558000 x1).f0.f1) ((rd_T74 x558000 x1).f1) ((rd_T74 x558000 x1).f2) x3).bind fun t578=>(tl_SkyPlaces.j3 k x1 x2 x3 x16 x17 (x12 != t578) x558000 x558001 x558002 x558003)) else (tl_SkyPlaces.j3 k x1 x2 x3 x16 x17 true x558000 x558001 x558002 x558003)) else (tl_SkyPlaces.j3 k x1 x2 x3 x16 x17 true x558000 x558001 x558002 x558003))) else (none)) else (none)) else (tl_SkyPlaces.j3 k x1 x2 x3 x16 x17 true x558000 x558001 x558002 x558003)) else (if x11=2 then (if x10=0 then (if x13=2 then (if x12=0 then (if x17=2 then (if x16=0 then ((tl_known.f).bind fun t574=>(some t574)) else (some false)) else (some false)) else (some false)) else (some false)) else (some false)) else (some false))))
def tl_SkyPlaces.j3:Nat→Int→Int→Int→Int→Int→Bool→List (S74)→Int→Int→Int→Option (Bool)
 |0,_,_,_,_,_,_,_,_,_,_=>none
 |k+1,x1,x2,x3,x16,x17,x174,x558000,x558001,x558002,x558003=>if x174=true then (some false) else ((tr_Body.f x558000 x558001 x558002 x558003 x2).bind fun t579=>(if t579=true then (tl_SkyPlaces.j4 k x1 x2 x3 x16 x17 (x1 == x2) x558000 x558001 x558002 x558003) else (tl_SkyPlaces.j4 k x1 x2 x3 x16 x17 true x558000 x558001 x558002 x558003)))
def tl_SkyPlaces.j4:Nat→Int→Int→Int→Int→Int→Bool→List (S74)→Int→Int→Int→Option (Bool)
 |0,_,_,_,_,_,_,_,_,_,_=>none
 |k+1,x1,x2,x3,x16,x17,x183,x558000,x558001,x558002,x558003=>if x183=true then (if x17=2 then (if x16=0 then ((tl_known.f).bind fun t580=>(some t580)) else (some false)) else (some false)) else (if x17=0 then ((tr_Between.f x558000 x558001 x558002 x558003 x1 x2 x3).bind fun t581=>(if x16=t581 then ((tl_known.f).bind fun t582=>(some t582)) else (some false))) else (some false))
end
def tl_SkyPlaces.f (k:Nat) (l0_0:List (S74)) (a0_1:Int) (a0_2:Int) (a0_3:Int) (a1:Int) (a2:Int) (a3:Int):Option (Bool):=(tl_short.f k l0_0 a0_1 a0_2 a0_3).bind fun t558=>(if t558=true then ((sky_Check.f k l0_0 a0_1 a0_2 a0_3).bind fun t560=>((sky_Mean.f k l0_0 a0_1 a0_2 a0_3 a1 a3).bind fun bt561=>((sky_Place.f k l0_0 a0_1 a0_2 a0_3 a1 a3).bind fun bt563=>((sky_Node.f k l0_0 a0_1 a0_2 a0_3 a3).bind fun bt565=>((sky_Between.f k l0_0 a0_1 a0_2 a0_3 a1 a2 a3).bind fun bt567=>((tr_Sky.f k l0_0 a0_1 a0_2 a0_3).bind fun t569=>(if t569=true then (if t560=0 then (tl_SkyPlaces.j0 k a1 a2 a3 bt561.1 bt561.2 bt563.1 bt563.2 bt565.1 bt565.2 bt567.1 bt567.2 t569 false l0_0 a0_1 a0_2 a0_3) else (tl_SkyPlaces.j0 k a1 a2 a3 bt561.1 bt561.2 bt563.1 bt563.2 bt565.1 bt565.2 bt567.1 bt567.2 t569 true l0_0 a0_1 a0_2 a0_3)) else (tl_SkyPlaces.j0 k a1 a2 a3 bt561.1 bt561.2 bt563.1 bt563.2 bt565.1 bt565.2 bt567.1 bt567.2 t569 (t560 != 2) l0_0 a0_1 a0_2 a0_3)))))))) else ((tl_known.f).bind fun t559=>(some t559)))
set_option maxHeartbeats 8000000 in
set_option maxRecDepth 100000 in
theorem tl_SkyPlaces.calls (k:Nat) (A0_0:Option Addr) (c0_0:Nat) (l0_0:List (S74)) (a0_1:Int) (a0_2:Int) (a0_3:Int) (a1:Int) (a2:Int) (a3:Int) (r:Bool) (w:World) (hr0_0:Kd.C k74 w A0_0 l0_0.length l0_0) (hc0_0:l0_0.length≤c0_0) (h:tl_SkyPlaces.f k l0_0 a0_1 a0_2 a0_3 a1 a2 a3=some r) (hLD:LD w):
  Calls Tryz.prog 8 #[.agg #[.slice A0_0 l0_0.length c0_0,.int .i64 a0_1,.int .i64 a0_2,.int .i64 a0_3],.int .i64 a1,.int .i64 a2,.int .i64 a3] w fun e w'=>e=.returned (.bool r)∧Below w.heap.size w w':=by
 have HLD:=A0_ hLD;clear hLD
 have hu29:=Tryz.underlying29
 have hu27:=Tryz.underlying27
 have hu74:=Tryz.underlying74
 have HR0_0:=A0_ hr0_0;have HC0_0:=A0_ hc0_0;clear hr0_0 hc0_0
 have HB:=A0_ (Below.refl w.heap.size w)
 have H:((tl_short.f k l0_0 a0_1 a0_2 a0_3).bind fun t558=>(if t558=true then ((sky_Check.f k l0_0 a0_1 a0_2 a0_3).bind fun t560=>((sky_Mean.f k l0_0 a0_1 a0_2 a0_3 a1 a3).bind fun bt561=>((sky_Place.f k l0_0 a0_1 a0_2 a0_3 a1 a3).bind fun bt563=>((sky_Node.f k l0_0 a0_1 a0_2 a0_3 a3).bind fun bt565=>((sky_Between.f k l0_0 a0_1 a0_2 a0_3 a1 a2 a3).bind fun bt567=>((tr_Sky.f k l0_0 a0_1 a0_2 a0_3).bind fun t569=>(if t569=true then (if t560=0 then (tl_SkyPlaces.j0 k a1 a2 a3 bt561.1 bt561.2 bt563.1 bt563.2 bt565.1 bt565.2 bt567.1 bt567.2 t569 false l0_0 a0_1 a0_2 a0_3) else (tl_SkyPlaces.j0 k a1 a2 a3 bt561.1 bt561.2 bt563.1 bt563.2 bt565.1 bt565.2 bt567.1 bt567.2 t569 true l0_0 a0_1 a0_2 a0_3)) else (tl_SkyPlaces.j0 k a1 a2 a3 bt561.1 bt561.2 bt563.1 bt563.2 bt565.1 bt565.2 bt567.1 bt567.2 t569 (t560 != 2) l0_0 a0_1 a0_2 a0_3)))))))) else ((tl_known.f).bind fun t559=>(some t559))))=some r:=h
 clear h;replace H:=Option.bind_eq_some_iff.mp H;obtain ⟨t558,A50,H⟩:=H
 replace H:(if t558=true then ((sky_Check.f k l0_0 a0_1 a0_2 a0_3).bind fun t560=>((sky_Mean.f k l0_0 a0_1 a0_2 a0_3 a1 a3).bind fun bt561=>((sky_Place.f k l0_0 a0_1 a0_2 a0_3 a1 a3).bind fun bt563=>((sky_Node.f k l0_0 a0_1 a0_2 a0_3 a3).bind fun bt565=>((sky_Between.f k l0_0 a0_1 a0_2 a0_3 a1 a2 a3).bind fun bt567=>((tr_Sky.f k l0_0 a0_1 a0_2 a0_3).bind fun t569=>(if t569=true then (if t560=0 then (tl_SkyPlaces.j0 k a1 a2 a3 bt561.1 bt561.2 bt563.1 bt563.2 bt565.1 bt565.2 bt567.1 bt567.2 t569 false l0_0 a0_1 a0_2 a0_3) else (tl_SkyPlaces.j0 k a1 a2 a3 bt561.1 bt561.2 bt563.1 bt563.2 bt565.1 bt565.2 bt567.1 bt567.2 t569 true l0_0 a0_1 a0_2 a0_3)) else (tl_SkyPlaces.j0 k a1 a2 a3 bt561.1 bt561.2 bt563.1 bt563.2 bt565.1 bt565.2 bt567.1 bt567.2 t569 (t560 != 2) l0_0 a0_1 a0_2 a0_3)))))))) else ((tl_known.f).bind fun t559=>(some t559)))=some r:=H
 have A5:=A0_ A50;clear A50
 by_cases c6:t558=true
 ·subst c6
  have H1:((sky_Check.f k l0_0 a0_1 a0_2 a0_3).bind fun t560=>((sky_Mean.f k l0_0 a0_1 a0_2 a0_3 a1 a3).bind fun bt561=>((sky_Place.f k l0_0 a0_1 a0_2 a0_3 a1 a3).bind fun bt563=>((sky_Node.f k l0_0 a0_1 a0_2 a0_3 a3).bind fun bt565=>((sky_Between.f k l0_0 a0_1 a0_2 a0_3 a1 a2 a3).bind fun bt567=>((tr_Sky.f k l0_0 a0_1 a0_2 a0_3).bind fun t569=>(if t569=true then (if t560=0 then (tl_SkyPlaces.j0 k a1 a2 a3 bt561.1 bt561.2 bt563.1 bt563.2 bt565.1 bt565.2 bt567.1 bt567.2 t569 false l0_0 a0_1 a0_2 a0_3) else (tl_SkyPlaces.j0 k a1 a2 a3 bt561.1 bt561.2 bt563.1 bt563.2 bt565.1 bt565.2 bt567.1 bt567.2 t569 true l0_0 a0_1 a0_2 a0_3)) else (tl_SkyPlaces.j0 k a1 a2 a3 bt561.1 bt561.2 bt563.1 bt563.2 bt565.1 bt565.2 bt567.1 bt567.2 t569 (t560 != 2) l0_0 a0_1 a0_2 a0_3))))))))=some r:=by rw [if_pos rfl] at H;exact H
  clear H;have H:=H1;clear H1;replace H:=Option.bind_eq_some_iff.mp H;obtain ⟨t560,A70,H⟩:=H
  replace H:((sky_Mean.f k l0_0 a0_1 a0_2 a0_3 a1 a3).bind fun bt561=>((sky_Place.f k l0_0 a0_1 a0_2 a0_3 a1 a3).bind fun bt563=>((sky_Node.f k l0_0 a0_1 a0_2 a0_3 a3).bind fun bt565=>((sky_Between.f k l0_0 a0_1 a0_2 a0_3 a1 a2 a3).bind fun bt567=>((tr_Sky.f k l0_0 a0_1 a0_2 a0_3).bind fun t569=>(if t569=true then (if t560=0 then (tl_SkyPlaces.j0 k a1 a2 a3 bt561.1 bt561.2 bt563.1 bt563.2 bt565.1 bt565.2 bt567.1 bt567.2 t569 false l0_0 a0_1 a0_2 a0_3) else (tl_SkyPlaces.j0 k a1 a2 a3 bt561.1 bt561.2 bt563.1 bt563.2 bt565.1 bt565.2 bt567.1 bt567.2 t569 true l0_0 a0_1 a0_2 a0_3)) else (tl_SkyPlaces.j0 k a1 a2 a3 bt561.1 bt561.2 bt563.1 bt563.2 bt565.1 bt565.2 bt567.1 bt567.2 t569 (t560 != 2) l0_0 a0_1 a0_2 a0_3)))))))=some r:=H
  have A7:=A0_ A70;clear A70;replace H:=Option.bind_eq_some_iff.mp H
  obtain ⟨⟨t561,t562⟩,A80,H⟩:=H
  replace H:((sky_Place.f k l0_0 a0_1 a0_2 a0_3 a1 a3).bind fun bt563=>((sky_Node.f k l0_0 a0_1 a0_2 a0_3 a3).bind fun bt565=>((sky_Between.f k l0_0 a0_1 a0_2 a0_3 a1 a2 a3).bind fun bt567=>((tr_Sky.f k l0_0 a0_1 a0_2 a0_3).bind fun t569=>(if t569=true then (if t560=0 then (tl_SkyPlaces.j0 k a1 a2 a3 t561 t562 bt563.1 bt563.2 bt565.1 bt565.2 bt567.1 bt567.2 t569 false l0_0 a0_1 a0_2 a0_3) else (tl_SkyPlaces.j0 k a1 a2 a3 t561 t562 bt563.1 bt563.2 bt565.1 bt565.2 bt567.1 bt567.2 t569 true l0_0 a0_1 a0_2 a0_3)) else (tl_SkyPlaces.j0 k a1 a2 a3 t561 t562 bt563.1 bt563.2 bt565.1 bt565.2 bt567.1 bt567.2 t569 (t560 != 2) l0_0 a0_1 a0_2 a0_3))))))=some r:=H
  have A8:=A0_ A80;clear A80;replace H:=Option.bind_eq_some_iff.mp H
  obtain ⟨⟨t563,t564⟩,A90,H⟩:=H
  replace H:((sky_Node.f k l0_0 a0_1 a0_2 a0_3 a3).bind fun bt565=>((sky_Between.f k l0_0 a0_1 a0_2 a0_3 a1 a2 a3).bind fun bt567=>((tr_Sky.f k l0_0 a0_1 a0_2 a0_3).bind fun t569=>(if t569=true then (if t560=0 then (tl_SkyPlaces.j0 k a1 a2 a3 t561 t562 t563 t564 bt565.1 bt565.2 bt567.1 bt567.2 t569 false l0_0 a0_1 a0_2 a0_3) else (tl_SkyPlaces.j0 k a1 a2 a3 t561 t562 t563 t564 bt565.1 bt565.2 bt567.1 bt567.2 t569 true l0_0 a0_1 a0_2 a0_3)) else (tl_SkyPlaces.j0 k a1 a2 a3 t561 t562 t563 t564 bt565.1 bt565.2 bt567.1 bt567.2 t569 (t560 != 2) l0_0 a0_1 a0_2 a0_3)))))=some r:=H
  have A9:=A0_ A90;clear A90;replace H:=Option.bind_eq_some_iff.mp H
  obtain ⟨⟨t565,t566⟩,A100,H⟩:=H
  replace H:((sky_Between.f k l0_0 a0_1 a0_2 a0_3 a1 a2 a3).bind fun bt567=>((tr_Sky.f k l0_0 a0_1 a0_2 a0_3).bind fun t569=>(if t569=true then (if t560=0 then (tl_SkyPlaces.j0 k a1 a2 a3 t561 t562 t563 t564 t565 t566 bt567.1 bt567.2 t569 false l0_0 a0_1 a0_2 a0_3) else (tl_SkyPlaces.j0 k a1 a2 a3 t561 t562 t563 t564 t565 t566 bt567.1 bt567.2 t569 true l0_0 a0_1 a0_2 a0_3)) else (tl_SkyPlaces.j0 k a1 a2 a3 t561 t562 t563 t564 t565 t566 bt567.1 bt567.2 t569 (t560 != 2) l0_0 a0_1 a0_2 a0_3))))=some r:=H
  have A10:=A0_ A100;clear A100;replace H:=Option.bind_eq_some_iff.mp H
  obtain ⟨⟨t567,t568⟩,A110,H⟩:=H
  replace H:((tr_Sky.f k l0_0 a0_1 a0_2 a0_3).bind fun t569=>(if t569=true then (if t560=0 then (tl_SkyPlaces.j0 k a1 a2 a3 t561 t562 t563 t564 t565 t566 t567 t568 t569 false l0_0 a0_1 a0_2 a0_3) else (tl_SkyPlaces.j0 k a1 a2 a3 t561 t562 t563 t564 t565 t566 t567 t568 t569 true l0_0 a0_1 a0_2 a0_3)) else (tl_SkyPlaces.j0 k a1 a2 a3 t561 t562 t563 t564 t565 t566 t567 t568 t569 (t560 != 2) l0_0 a0_1 a0_2 a0_3)))=some r:=H
  have A11:=A0_ A110;clear A110;replace H:=Option.bind_eq_some_iff.mp H;obtain ⟨t569,A120,H⟩:=H
  replace H:(if t569=true then (if t560=0 then (tl_SkyPlaces.j0 k a1 a2 a3 t561 t562 t563 t564 t565 t566 t567 t568 t569 false l0_0 a0_1 a0_2 a0_3) else (tl_SkyPlaces.j0 k a1 a2 a3 t561 t562 t563 t564 t565 t566 t567 t568 t569 true l0_0 a0_1 a0_2 a0_3)) else (tl_SkyPlaces.j0 k a1 a2 a3 t561 t562 t563 t564 t565 t566 t567 t568 t569 (t560 != 2) l0_0 a0_1 a0_2 a0_3))=some r:=H
  have A12:=A0_ A120;clear A120;have HC13:=A0_ H;clear H
  go_enter Tryz.func8,Tryz.ntmps8
  go_upto_region 9 with (first|((with_reducible refine gate_dst (N:=4) rfl ?_);refine box_event ?hg (N:=4) ?hd (cs:=#[.slice A0_0 l0_0.length c0_0,.int .i64 a0_1,.int .i64 a0_2,.int .i64 a0_3]) (t:=29) ?hr ?_;(case hd=>rfl);(case hg=>rfl);(case hr=>first|(go_simp;done)|(go_simp;rfl));intro gb557 hg w14 hbox hb;have n0_:=A0_ (below_step y0_ hb);have n1_:=A0_ (hbox);have n2_:=A0_ ((by rw [hg];exact (below_size y0_):w.heap.size≤gb557));have n3_:=A0_ ((by rw [hg];exact (below_size y0_):w.heap.size≤gb557));clear HB;have HB:=n0_;have BK557:=n1_;have GW557:=n2_;have GE557:=n3_;clear n0_ n1_ n2_ n3_;clear hb hbox hg;obtain ⟨hcz15_0,hcz15_1,hcz15_2,hcz15_3,hfz15_0,hfz15_1,hfz15_2,hfz15_3⟩:=bq4_ BK557.out)|((with_reducible refine gate_callee (f:=17) rfl ?_);refine goesL_ (some 20) rfl rfl Tryz.func17 (by kernel_rfl) rfl #[.agg #[.slice A0_0 l0_0.length c0_0,.int .i64 a0_1,.int .i64 a0_2,.int .i64 a0_3]] rfl y1_ ?_;(with_reducible refine (tl_short.calls k _ _ l0_0 a0_1 a0_2 a0_3 true _ ?side1 ?side2 A5.out).mono ?_);(case side1=>repeat (first|exact (Kd.C_below HR0_0.out HB.out)|(with_reducible refine Kd.C_alloc ?_ _)|(with_reducible refine Kd.C_drewN ?_ _)|(with_reducible refine Kd.C_drew ?_)));(case side2=>exact HC0_0.out);rintro e w16 ⟨rfl,hb⟩;refine ⟨_,rfl,?_⟩;have n0_:=A0_ (blk_below (g:=gb557) (o:=.cells #[.slice A0_0 l0_0.length c0_0,.int .i64 a0_1,.int .i64 a0_2,.int .i64 a0_3] 29 (0,0)) (bd_ BK557.out) hb);have n1_:=A0_ (below_step (by repeat (first|(with_reducible first|exact HB.out|apply below_alloc|apply pw_below_drewN|apply below_drew1|refine below_set ?_ GE557.out)|exact HB.out)) hb);clear BK557;clear HB;have BK557:=n0_;have HB:=n1_;clear n0_ n1_;(try clear hb);(try clear hb2);(try clear hk);(try clear hi);obtain ⟨hcz17_0,hcz17_1,hcz17_2,hcz17_3,hfz17_0,hfz17_1,hfz17_2,hfz17_3⟩:=bq4_ BK557.out)|((with_reducible refine gate_callee (f:=40) rfl ?_);refine goesL_ (some 24) rfl rfl Tryz.func40 (by kernel_rfl) rfl #[.agg #[.slice A0_0 l0_0.length c0_0,.int .i64 a0_1,.int .i64 a0_2,.int .i64 a0_3]] rfl y1_ ?_;(with_reducible refine (sky_Check.calls k _ _ l0_0 a0_1 a0_2 a0_3 t560 _ ?side1 ?side2 A7.out).mono ?_);(case side1=>repeat (first|exact (Kd.C_below HR0_0.out HB.out)|(with_reducible refine Kd.C_alloc ?_ _)|(with_reducible refine Kd.C_drewN ?_ _)|(with_reducible refine Kd.C_drew ?_)));(case side2=>exact HC0_0.out);rintro e w18 ⟨rfl,hb⟩;refine ⟨_,rfl,?_⟩;have n0_:=A0_ (blk_below (g:=gb557) (o:=.cells #[.slice A0_0 l0_0.length c0_0,.int .i64 a0_1,.int .i64 a0_2,.int .i64 a0_3] 29 (0,0)) (bd_ BK557.out) hb);have n1_:=A0_ (below_step (by repeat (first|(with_reducible first|exact HB.out|apply below_alloc|apply pw_below_drewN|apply below_drew1|refine below_set ?_ GE557.out)|exact HB.out)) hb);clear BK557;clear HB;have BK557:=n0_;have HB:=n1_;clear n0_ n1_;(try clear hb);(try clear hb2);(try clear hk);(try clear hi);obtain ⟨hcz19_0,hcz19_1,hcz19_2,hcz19_3,hfz19_0,hfz19_1,hfz19_2,hfz19_3⟩:=bq4_ BK557.out)|((with_reducible refine gate_callee (f:=41) rfl ?_);refine goesL_ (some 29) rfl rfl Tryz.func41 (by kernel_rfl) rfl #[.agg #[.slice A0_0 l0_0.length c0_0,.int .i64 a0_1,.int .i64 a0_2,.int .i64 a0_3],.int .i64 a1,.int .i64 a3] rfl y1_ ?_;(with_reducible refine (sky_Mean.calls k _ _ l0_0 a0_1 a0_2 a0_3 a1 a3 t561 t562 _ ?side1 ?side2 A8.out).mono ?_);(case side1=>repeat (first|exact (Kd.C_below HR0_0.out HB.out)|(with_reducible refine Kd.C_alloc ?_ _)|(with_reducible refine Kd.C_drewN ?_ _)|(with_reducible refine Kd.C_drew ?_)));(case side2=>exact HC0_0.out);rintro e w20 ⟨rfl,hb⟩;refine ⟨_,rfl,?_⟩;have n0_:=A0_ (blk_below (g:=gb557) (o:=.cells #[.slice A0_0 l0_0.length c0_0,.int .i64 a0_1,.int .i64 a0_2,.int .i64 a0_3] 29 (0,0)) (bd_ BK557.out) hb);have n1_:=A0_ (below_step (by repeat (first|(with_reducible first|exact HB.out|apply below_alloc|apply pw_below_drewN|apply below_drew1|refine below_set ?_ GE557.out)|exact HB.out)) hb);clear BK557;clear HB;have BK557:=n0_;have HB:=n1_;clear n0_ n1_;(try clear hb);(try clear hb2);(try clear hk);(try clear hi);obtain ⟨hcz21_0,hcz21_1,hcz21_2,hcz21_3,hfz21_0,hfz21_1,hfz21_2,hfz21_3⟩:=bq4_ BK557.out)|((with_reducible refine gate_callee (f:=25) rfl ?_);refine goesL_ (some 36) rfl rfl Tryz.func25 (by kernel_rfl) rfl #[.agg #[.slice A0_0 l0_0.length c0_0,.int .i64 a0_1,.int .i64 a0_2,.int .i64 a0_3],.int .i64 a1,.int .i64 a3] rfl y1_ ?_;(with_reducible refine (sky_Place.calls k _ _ l0_0 a0_1 a0_2 a0_3 a1 a3 t563 t564 _ ?side1 ?side2 A9.out).mono ?_);(case side1=>repeat (first|exact (Kd.C_below HR0_0.out HB.out)|(with_reducible refine Kd.C_alloc ?_ _)|(with_reducible refine Kd.C_drewN ?_ _)|(with_reducible refine Kd.C_drew ?_)));(case side2=>exact HC0_0.out);rintro e w22 ⟨rfl,hb⟩;refine ⟨_,rfl,?_⟩;have n0_:=A0_ (blk_below (g:=gb557) (o:=.cells #[.slice A0_0 l0_0.length c0_0,.int .i64 a0_1,.int .i64 a0_2,.int .i64 a0_3] 29 (0,0)) (bd_ BK557.out) hb);have n1_:=A0_ (below_step (by repeat (first|(with_reducible first|exact HB.out|apply below_alloc|apply pw_below_drewN|apply below_drew1|refine below_set ?_ GE557.out)|exact HB.out)) hb);clear BK557;clear HB;have BK557:=n0_;have HB:=n1_;clear n0_ n1_;(try clear hb);(try clear hb2);(try clear hk);(try clear hi);obtain ⟨hcz23_0,hcz23_1,hcz23_2,hcz23_3,hfz23_0,hfz23_1,hfz23_2,hfz23_3⟩:=bq4_ BK557.out)|((with_reducible refine gate_callee (f:=42) rfl ?_);refine goesL_ (some 42) rfl rfl Tryz.func42 (by kernel_rfl) rfl #[.agg #[.slice A0_0 l0_0.length c0_0,.int .i64 a0_1,.int .i64 a0_2,.int .i64 a0_3],.int .i64 a3] rfl y1_ ?_;(with_reducible refine (sky_Node.calls k _ _ l0_0 a0_1 a0_2 a0_3 a3 t565 t566 _ ?side1 ?side2 A10.out).mono ?_);(case side1=>repeat (first|exact (Kd.C_below HR0_0.out HB.out)|(with_reducible refine Kd.C_alloc ?_ _)|(with_reducible refine Kd.C_drewN ?_ _)|(with_reducible refine Kd.C_drew ?_)));(case side2=>exact HC0_0.out);rintro e w24 ⟨rfl,hb⟩;refine ⟨_,rfl,?_⟩;have n0_:=A0_ (blk_below (g:=gb557) (o:=.cells #[.slice A0_0 l0_0.length c0_0,.int .i64 a0_1,.int .i64 a0_2,.int .i64 a0_3] 29 (0,0)) (bd_ BK557.out) hb);have n1_:=A0_ (below_step (by repeat (first|(with_reducible first|exact HB.out|apply below_alloc|apply pw_below_drewN|apply below_drew1|refine below_set ?_ GE557.out)|exact HB.out)) hb);clear BK557;clear HB;have BK557:=n0_;have HB:=n1_;clear n0_ n1_;(try clear hb);(try clear hb2);(try clear hk);(try clear hi);obtain ⟨hcz25_0,hcz25_1,hcz25_2,hcz25_3,hfz25_0,hfz25_1,hfz25_2,hfz25_3⟩:=bq4_ BK557.out)|((with_reducible refine gate_callee (f:=43) rfl ?_);refine goesL_ (some 50) rfl rfl Tryz.func43 (by kernel_rfl) rfl #[.agg #[.slice A0_0 l0_0.length c0_0,.int .i64 a0_1,.int .i64 a0_2,.int .i64 a0_3],.int .i64 a1,.int .i64 a2,.int .i64 a3] rfl y1_ ?_;(with_reducible refine (sky_Between.calls k _ _ l0_0 a0_1 a0_2 a0_3 a1 a2 a3 t567 t568 _ ?side1 ?side2 A11.out).mono ?_);(case side1=>repeat (first|exact (Kd.C_below HR0_0.out HB.out)|(with_reducible refine Kd.C_alloc ?_ _)|(with_reducible refine Kd.C_drewN ?_ _)|(with_reducible refine Kd.C_drew ?_)));(case side2=>exact HC0_0.out);rintro e w26 ⟨rfl,hb⟩;refine ⟨_,rfl,?_⟩;have n0_:=A0_ (blk_below (g:=gb557) (o:=.cells #[.slice A0_0 l0_0.length c0_0,.int .i64 a0_1,.int .i64 a0_2,.int .i64 a0_3] 29 (0,0)) (bd_ BK557.out) hb);have n1_:=A0_ (below_step (by repeat (first|(with_reducible first|exact HB.out|apply below_alloc|apply pw_below_drewN|apply below_drew1|refine below_set ?_ GE557.out)|exact HB.out)) hb);clear BK557;clear HB;have BK557:=n0_;have HB:=n1_;clear n0_ n1_;(try clear hb);(try clear hb2);(try clear hk);(try clear hi);obtain ⟨hcz27_0,hcz27_1,hcz27_2,hcz27_3,hfz27_0,hfz27_1,hfz27_2,hfz27_3⟩:=bq4_ BK557.out)|((with_reducible refine gate_callee (f:=14) rfl ?_);refine goesL_ (some 54) rfl rfl Tryz.func14 (by kernel_rfl) rfl #[.agg #[.slice A0_0 l0_0.length c0_0,.int .i64 a0_1,.int .i64 a0_2,.int .i64 a0_3]] rfl y1_ ?_;(with_reducible refine (tr_Sky.calls k _ _ l0_0 a0_1 a0_2 a0_3 t569 _ ?side1 ?side2 A12.out).mono ?_);(case side1=>repeat (first|exact (Kd.C_below HR0_0.out HB.out)|(with_reducible refine Kd.C_alloc ?_ _)|(with_reducible refine Kd.C_drewN ?_ _)|(with_reducible refine Kd.C_drew ?_)));(case side2=>exact HC0_0.out);rintro e w28 ⟨rfl,hb⟩;refine ⟨_,rfl,?_⟩;have n0_:=A0_ (blk_below (g:=gb557) (o:=.cells #[.slice A0_0 l0_0.length c0_0,.int .i64 a0_1,.int .i64 a0_2,.int .i64 a0_3] 29 (0,0)) (bd_ BK557.out) hb);have n1_:=A0_ (below_step (by repeat (first|(with_reducible first|exact HB.out|apply below_alloc|apply pw_below_drewN|apply below_drew1|refine below_set ?_ GE557.out)|exact HB.out)) hb);clear BK557;clear HB;have BK557:=n0_;have HB:=n1_;clear n0_ n1_;(try clear hb);(try clear hb2);(try clear hk);(try clear hi)))
  (try simp only [Act.put,List.setIfInBounds_toArray,List.set_cons_zero,List.set_cons_succ])
  go_cut [67] (fun v67 wc=>∃ (kq:Nat) (x67_12:Bool),v67=.bool x67_12∧Aside0 (tl_SkyPlaces.j0 kq a1 a2 a3 t561 t562 t563 t564 t565 t566 t567 t568 t569 x67_12 l0_0 a0_1 a0_2 a0_3=some r)∧Aside0 (kq≤k)∧Aside0 (wc.heap[gb557]?=some (.cells #[(.slice A0_0 l0_0.length c0_0),.int .i64 a0_1,.int .i64 a0_2,.int .i64 a0_3] 29 (0,0)))∧Aside0 (Below w.heap.size w wc))
  case first=>
   have H:=HC13.out
   clear HC13
   by_cases c29:t569=true
   ·subst c29
    have H1:(if t560=0 then (tl_SkyPlaces.j0 k a1 a2 a3 t561 t562 t563 t564 t565 t566 t567 t568 true false l0_0 a0_1 a0_2 a0_3) else (tl_SkyPlaces.j0 k a1 a2 a3 t561 t562 t563 t564 t565 t566 t567 t568 true true l0_0 a0_1 a0_2 a0_3))=some r:=by rw [if_pos rfl] at H;exact H
    clear H;have H:=H1;clear H1
    by_cases c30:t560=0
    ·rw [if_pos c30] at H
     have c30b0:(t560 == 0)=true:=beq_iff_eq.mpr c30
     have c30b1:(t560 != 0)=false:=bne_eq_false_iff_eq.mpr c30
     clear c30
     (first|rw [c30b0]|(simp only [i64_w,i32_w];rw [c30b0])|skip)
     have H':=A0_ H
     clear H;go_wp2
     go_meet
     case rel=>exact ⟨_,(false),y4_,H',⟨by first|omega|exact Nat.le_refl _⟩,⟨by (with_reducible repeat (first|refine blk_drewN ?_ _|refine blk_drew ?_|refine blk_alloc ?_ _));exact BK557.out⟩,⟨(by repeat (first|(with_reducible first|exact HB.out|apply below_alloc|apply pw_below_drewN|apply below_drew1|refine below_set ?_ GE557.out)|exact HB.out))⟩⟩
    ·rw [if_neg c30] at H
     have c30b0:(t560 == 0)=false:=beq_eq_false_iff_ne.mpr c30
     have c30b1:(t560 != 0)=true:=bne_iff_ne.mpr c30
     (first|rw [c30b0]|(simp only [i64_w,i32_w];rw [c30b0])|skip)
     have H':=A0_ H
     clear H;go_wp2
     go_meet
     case rel=>exact ⟨_,(true),y4_,H',⟨by first|omega|exact Nat.le_refl _⟩,⟨by (with_reducible repeat (first|refine blk_drewN ?_ _|refine blk_drew ?_|refine blk_alloc ?_ _));exact BK557.out⟩,⟨(by repeat (first|(with_reducible first|exact HB.out|apply below_alloc|apply pw_below_drewN|apply below_drew1|refine below_set ?_ GE557.out)|exact HB.out))⟩⟩
   ·replace c29:=Bool.eq_false_iff.mpr c29;subst c29
    have H1:(tl_SkyPlaces.j0 k a1 a2 a3 t561 t562 t563 t564 t565 t566 t567 t568 false (t560 != 2) l0_0 a0_1 a0_2 a0_3)=some r:=by rw [if_neg (show ¬ (false=true) by decide)] at H;exact H
    clear H;have H:=H1;clear H1
    have H':=A0_ H
    clear H;go_wp2
    go_meet
    case rel=>exact ⟨_,((t560 != 2)),y4_,H',⟨by first|omega|exact Nat.le_refl _⟩,⟨by (with_reducible repeat (first|refine blk_drewN ?_ _|refine blk_drew ?_|refine blk_alloc ?_ _));exact BK557.out⟩,⟨(by repeat (first|(with_reducible first|exact HB.out|apply below_alloc|apply pw_below_drewN|apply below_drew1|refine below_set ?_ GE557.out)|exact HB.out))⟩⟩
  case rest=>
   clear HC13;(try clear c1);(try clear c2);(try clear p2);(try clear c3);(try clear c4);(try clear c6);(try clear c8);(try clear c14);(try clear c17);(try clear c25);(try clear c29);(try clear c30);(try clear c30b0);(try clear c30b1);(try clear hcz15_0);(try clear hcz15_1);(try clear hcz15_2);(try clear hcz15_3);(try clear hcz17_0);(try clear hcz17_1);(try clear hcz17_2);(try clear hcz17_3);(try clear hcz19_0);(try clear hcz19_1);(try clear hcz19_2);(try clear hcz19_3);(try clear hcz21_0);(try clear hcz21_1);(try clear hcz21_2);(try clear hcz21_3);(try clear hcz23_0);(try clear hcz23_1);(try clear hcz23_2);(try clear hcz23_3);(try clear hcz25_0);(try clear hcz25_1);(try clear hcz25_2);(try clear hcz25_3);(try clear hcz27_0);(try clear hcz27_1);(try clear hcz27_2);(try clear hcz27_3);(try clear hfz15_0);(try clear hfz15_1);(try clear hfz15_2);(try clear hfz15_3);(try clear hfz17_0);(try clear hfz17_1);(try clear hfz17_2);(try clear hfz17_3);(try clear hfz19_0);(try clear hfz19_1);(try clear hfz19_2);(try clear hfz19_3);(try clear hfz21_0);(try clear hfz21_1);(try clear hfz21_2);(try clear hfz21_3);(try clear hfz23_0);(try clear hfz23_1);(try clear hfz23_2);(try clear hfz23_3);(try clear hfz25_0);(try clear hfz25_1);(try clear hfz25_2);(try clear hfz25_3);(try clear hfz27_0);(try clear hfz27_1);(try clear hfz27_2);(try clear hfz27_3)
   obtain ⟨kq,x67_12,rfl,HA,HJ12,BK557,HB⟩:=hcut
   cases kq with
   |zero=>exact absurd HA.out (by simp [tl_SkyPlaces.j0])
   |succ kj12=>
    have H:=HA.out
    clear HA
    simp only [tl_SkyPlaces.j0] at H
    by_cases c31:x67_12=true
    ·subst c31
     have H1:(some false)=some r:=by rw [if_pos rfl] at H;exact H
     clear H;have H:=H1;clear H1;obtain rfl:=Option.some.inj H;go_wp2;go_ret
     exact ⟨y2_,(by repeat (first|(with_reducible first|exact HB.out|apply below_alloc|apply pw_below_drewN|apply below_drew1|refine below_set ?_ GE557.out)|exact HB.out))⟩
    ·replace c31:=Bool.eq_false_iff.mpr c31;subst c31
     have H1:(if t569=true then ((tr_Day.f a3).bind fun t570=>(tl_SkyPlaces.j1 kj12 a1 a2 a3 t561 t562 t563 t564 t565 t566 t567 t568 (!t570) l0_0 a0_1 a0_2 a0_3)) else (tl_SkyPlaces.j1 kj12 a1 a2 a3 t561 t562 t563 t564 t565 t566 t567 t568 true l0_0 a0_1 a0_2 a0_3))=some r:=by rw [if_neg (show ¬ (false=true) by decide)] at H;exact H
     clear H;have H:=H1;clear H1;have HC32:=A0_ H;clear H
     go_upto_region 11 with (fail)
     go_cut [74] (fun v74 wc=>∃ (kq:Nat) (x74_31:Bool),v74=.bool x74_31∧Aside0 (tl_SkyPlaces.j1 kq a1 a2 a3 t561 t562 t563 t564 t565 t566 t567 t568 x74_31 l0_0 a0_1 a0_2 a0_3=some r)∧Aside0 (kq≤kj12)∧Aside0 (wc.heap[gb557]?=some (.cells #[(.slice A0_0 l0_0.length c0_0),.int .i64 a0_1,.int .i64 a0_2,.int .i64 a0_3] 29 (0,0)))∧Aside0 (Below w.heap.size w wc))
     case first=>
      have H:=HC32.out
      clear HC32
      by_cases c33:t569=true
      ·subst c33
       have H1:((tr_Day.f a3).bind fun t570=>(tl_SkyPlaces.j1 kj12 a1 a2 a3 t561 t562 t563 t564 t565 t566 t567 t568 (!t570) l0_0 a0_1 a0_2 a0_3))=some r:=by rw [if_pos rfl] at H;exact H
       clear H;have H:=H1;clear H1;replace H:=Option.bind_eq_some_iff.mp H;obtain ⟨t570,A340,H⟩:=H
       replace H:(tl_SkyPlaces.j1 kj12 a1 a2 a3 t561 t562 t563 t564 t565 t566 t567 t568 (!t570) l0_0 a0_1 a0_2 a0_3)=some r:=H
       have A34:=A0_ A340;clear A340
       have H':=A0_ H
       clear H
       go_wp2_with (first|(go_at_call 44;(with_reducible refine (tr_Day.calls a3 t570 _ A34.out).mono ?_);rintro e w' ⟨rfl,⟨nd,rfl⟩⟩))
       go_meet
       case rel=>exact ⟨_,(!t570),y4_,H',⟨by have:=HJ12.out;first|omega|exact Nat.le_refl _⟩,⟨by (with_reducible repeat (first|refine blk_drewN ?_ _|refine blk_drew ?_|refine blk_alloc ?_ _));exact BK557.out⟩,⟨(by repeat (first|(with_reducible first|exact HB.out|apply below_alloc|apply pw_below_drewN|apply below_drew1|refine below_set ?_ GE557.out)|exact HB.out))⟩⟩
      ·replace c33:=Bool.eq_false_iff.mpr c33;subst c33
       have H1:(tl_SkyPlaces.j1 kj12 a1 a2 a3 t561 t562 t563 t564 t565 t566 t567 t568 true l0_0 a0_1 a0_2 a0_3)=some r:=by rw [if_neg (show ¬ (false=true) by decide)] at H;exact H
       clear H;have H:=H1;clear H1
       have H':=A0_ H
       clear H;go_wp2
       go_meet
       case rel=>exact ⟨_,(true),y4_,H',⟨by have:=HJ12.out;first|omega|exact Nat.le_refl _⟩,⟨by (with_reducible repeat (first|refine blk_drewN ?_ _|refine blk_drew ?_|refine blk_alloc ?_ _));exact BK557.out⟩,⟨(by repeat (first|(with_reducible first|exact HB.out|apply below_alloc|apply pw_below_drewN|apply below_drew1|refine below_set ?_ GE557.out)|exact HB.out))⟩⟩
     case rest=>
      clear HC32;(try clear c1);(try clear c2);(try clear p2);(try clear c3);(try clear c4);(try clear c6);(try clear c8);(try clear c14);(try clear c17);(try clear c25);(try clear c29);(try clear c30);(try clear c30b0);(try clear c30b1);(try clear c31);(try clear c33);(try clear hcz15_0);(try clear hcz15_1);(try clear hcz15_2);(try clear hcz15_3);(try clear hcz17_0);(try clear hcz17_1);(try clear hcz17_2);(try clear hcz17_3);(try clear hcz19_0);(try clear hcz19_1);(try clear hcz19_2);(try clear hcz19_3);(try clear hcz21_0);(try clear hcz21_1);(try clear hcz21_2);(try clear hcz21_3);(try clear hcz23_0);(try clear hcz23_1);(try clear hcz23_2);(try clear hcz23_3);(try clear hcz25_0);(try clear hcz25_1);(try clear hcz25_2);(try clear hcz25_3);(try clear hcz27_0);(try clear hcz27_1);(try clear hcz27_2);(try clear hcz27_3);(try clear hfz15_0);(try clear hfz15_1);(try clear hfz15_2);(try clear hfz15_3);(try clear hfz17_0);(try clear hfz17_1);(try clear hfz17_2);(try clear hfz17_3);(try clear hfz19_0);(try clear hfz19_1);(try clear hfz19_2);(try clear hfz19_3);(try clear hfz21_0);(try clear hfz21_1);(try clear hfz21_2);(try clear hfz21_3);(try clear hfz23_0);(try clear hfz23_1);(try clear hfz23_2);(try clear hfz23_3);(try clear hfz25_0);(try clear hfz25_1);(try clear hfz25_2);(try clear hfz25_3);(try clear hfz27_0);(try clear hfz27_1);(try clear hfz27_2);(try clear hfz27_3);(try clear p2)
      obtain ⟨kq,x74_31,rfl,HA,HJ31,BK557,HB⟩:=hcut
      cases kq with
      |zero=>exact absurd HA.out (by simp [tl_SkyPlaces.j1])
      |succ kj31=>
       have H:=HA.out
       clear HA
       simp only [tl_SkyPlaces.j1] at H
       by_cases c35:x74_31=true
       ·as_aux_lemma=>
        subst c35
        have H1:(if t562=2 then (if t561=0 then (if t564=2 then (if t563=0 then (if t566=2 then (if t565=0 then (if t568=2 then (if t567=0 then ((tl_known.f).bind fun t571=>(some t571)) else (some false)) else (some false)) else (some false)) else (some false)) else (some false)) else (some false)) else (some false)) else (some false))=some r:=by rw [if_pos rfl] at H;exact H
        clear H;have H:=H1;clear H1
        by_cases c36:t562=2
        ·rw [if_pos c36] at H
         have c36b0:(t562 == 2)=true:=beq_iff_eq.mpr c36
         have c36b1:(t562 != 2)=false:=bne_eq_false_iff_eq.mpr c36
         clear c36
         by_cases c37:t561=0
         ·rw [if_pos c37] at H
          have c37b0:(t561 == 0)=true:=beq_iff_eq.mpr c37
          have c37b1:(t561 != 0)=false:=bne_eq_false_iff_eq.mpr c37
          clear c37
          by_cases c38:t564=2
          ·rw [if_pos c38] at H
           have c38b0:(t564 == 2)=true:=beq_iff_eq.mpr c38
           have c38b1:(t564 != 2)=false:=bne_eq_false_iff_eq.mpr c38
           clear c38
           by_cases c39:t563=0
           ·rw [if_pos c39] at H
            have c39b0:(t563 == 0)=true:=beq_iff_eq.mpr c39
            have c39b1:(t563 != 0)=false:=bne_eq_false_iff_eq.mpr c39
            clear c39
            by_cases c40:t566=2
            ·rw [if_pos c40] at H
             have c40b0:(t566 == 2)=true:=beq_iff_eq.mpr c40
             have c40b1:(t566 != 2)=false:=bne_eq_false_iff_eq.mpr c40
             clear c40
             by_cases c41:t565=0
             ·rw [if_pos c41] at H
              have c41b0:(t565 == 0)=true:=beq_iff_eq.mpr c41
              have c41b1:(t565 != 0)=false:=bne_eq_false_iff_eq.mpr c41
              clear c41
              by_cases c42:t568=2
              ·rw [if_pos c42] at H
               have c42b0:(t568 == 2)=true:=beq_iff_eq.mpr c42
               have c42b1:(t568 != 2)=false:=bne_eq_false_iff_eq.mpr c42
               clear c42
               by_cases c43:t567=0
               ·rw [if_pos c43] at H
                have c43b0:(t567 == 0)=true:=beq_iff_eq.mpr c43
                have c43b1:(t567 != 0)=false:=bne_eq_false_iff_eq.mpr c43
                clear c43;replace H:=Option.bind_eq_some_iff.mp H;obtain ⟨t571,A440,H⟩:=H
                replace H:(some t571)=some r:=H
                have A44:=A0_ A440;clear A440;obtain rfl:=Option.some.inj H
                go_wp2_with (first|(go_at_call 11;(with_reducible refine (tl_known.calls  t571 _ A44.out ?side1).mono ?_);(case side1=>exact LD.below HLD.out (by repeat (first|(with_reducible first|exact HB.out|apply below_alloc|apply pw_below_drewN|apply below_drew1|refine below_set ?_ GE557.out)|exact HB.out)));rintro e w45 ⟨rfl,hb⟩;have n0_:=A0_ (blk_below (g:=gb557) (o:=.cells #[.slice A0_0 l0_0.length c0_0,.int .i64 a0_1,.int .i64 a0_2,.int .i64 a0_3] 29 (0,0)) (bd_ BK557.out) hb);have n1_:=A0_ (below_step (by repeat (first|(with_reducible first|exact HB.out|apply below_alloc|apply pw_below_drewN|apply below_drew1|refine below_set ?_ GE557.out)|exact HB.out)) hb);clear BK557;clear HB;have BK557:=n0_;have HB:=n1_;clear n0_ n1_;(try clear hb);(try clear hb2);(try clear hk);(try clear hi)))
                go_ret
                exact ⟨y2_,(by repeat (first|(with_reducible first|exact HB.out|apply below_alloc|apply pw_below_drewN|apply below_drew1|refine below_set ?_ GE557.out)|exact HB.out))⟩
               ·rw [if_neg c43] at H
                have c43b0:(t567 == 0)=false:=beq_eq_false_iff_ne.mpr c43
                have c43b1:(t567 != 0)=true:=bne_iff_ne.mpr c43
                obtain rfl:=Option.some.inj H;go_wp2;go_ret
                exact ⟨y2_,(by repeat (first|(with_reducible first|exact HB.out|apply below_alloc|apply pw_below_drewN|apply below_drew1|refine below_set ?_ GE557.out)|exact HB.out))⟩
              ·rw [if_neg c42] at H
               have c42b0:(t568 == 2)=false:=beq_eq_false_iff_ne.mpr c42
               have c42b1:(t568 != 2)=true:=bne_iff_ne.mpr c42
               obtain rfl:=Option.some.inj H;go_wp2;go_ret
               exact ⟨y2_,(by repeat (first|(with_reducible first|exact HB.out|apply below_alloc|apply pw_below_drewN|apply below_drew1|refine below_set ?_ GE557.out)|exact HB.out))⟩
             ·rw [if_neg c41] at H
              have c41b0:(t565 == 0)=false:=beq_eq_false_iff_ne.mpr c41
              have c41b1:(t565 != 0)=true:=bne_iff_ne.mpr c41
              obtain rfl:=Option.some.inj H;go_wp2;go_ret
              exact ⟨y2_,(by repeat (first|(with_reducible first|exact HB.out|apply below_alloc|apply pw_below_drewN|apply below_drew1|refine below_set ?_ GE557.out)|exact HB.out))⟩
            ·rw [if_neg c40] at H
             have c40b0:(t566 == 2)=false:=beq_eq_false_iff_ne.mpr c40
             have c40b1:(t566 != 2)=true:=bne_iff_ne.mpr c40
             obtain rfl:=Option.some.inj H;go_wp2;go_ret
             exact ⟨y2_,(by repeat (first|(with_reducible first|exact HB.out|apply below_alloc|apply pw_below_drewN|apply below_drew1|refine below_set ?_ GE557.out)|exact HB.out))⟩
           ·rw [if_neg c39] at H
            have c39b0:(t563 == 0)=false:=beq_eq_false_iff_ne.mpr c39
            have c39b1:(t563 != 0)=true:=bne_iff_ne.mpr c39
            obtain rfl:=Option.some.inj H;go_wp2;go_ret
            exact ⟨y2_,(by repeat (first|(with_reducible first|exact HB.out|apply below_alloc|apply pw_below_drewN|apply below_drew1|refine below_set ?_ GE557.out)|exact HB.out))⟩
          ·rw [if_neg c38] at H
           have c38b0:(t564 == 2)=false:=beq_eq_false_iff_ne.mpr c38
           have c38b1:(t564 != 2)=true:=bne_iff_ne.mpr c38
           obtain rfl:=Option.some.inj H;go_wp2;go_ret
           exact ⟨y2_,(by repeat (first|(with_reducible first|exact HB.out|apply below_alloc|apply pw_below_drewN|apply below_drew1|refine below_set ?_ GE557.out)|exact HB.out))⟩
         ·rw [if_neg c37] at H
          have c37b0:(t561 == 0)=false:=beq_eq_false_iff_ne.mpr c37
          have c37b1:(t561 != 0)=true:=bne_iff_ne.mpr c37
          obtain rfl:=Option.some.inj H;go_wp2;go_ret
          exact ⟨y2_,(by repeat (first|(with_reducible first|exact HB.out|apply below_alloc|apply pw_below_drewN|apply below_drew1|refine below_set ?_ GE557.out)|exact HB.out))⟩
        ·rw [if_neg c36] at H
         have c36b0:(t562 == 2)=false:=beq_eq_false_iff_ne.mpr c36
         have c36b1:(t562 != 2)=true:=bne_iff_ne.mpr c36
         obtain rfl:=Option.some.inj H;go_wp2;go_ret
         exact ⟨y2_,(by repeat (first|(with_reducible first|exact HB.out|apply below_alloc|apply pw_below_drewN|apply below_drew1|refine below_set ?_ GE557.out)|exact HB.out))⟩
       ·replace c35:=Bool.eq_false_iff.mpr c35;subst c35
        have H1:(if t566=0 then ((tr_Node.f a0_1 a0_2 a0_3 a3).bind fun t572=>(tl_SkyPlaces.j2 kj31 a1 a2 a3 t561 t562 t563 t564 t567 t568 (t565 != t572) l0_0 a0_1 a0_2 a0_3)) else (tl_SkyPlaces.j2 kj31 a1 a2 a3 t561 t562 t563 t564 t567 t568 true l0_0 a0_1 a0_2 a0_3))=some r:=by rw [if_neg (show ¬ (false=true) by decide)] at H;exact H
        clear H;have H:=H1;clear H1;have HC46:=A0_ H;clear H
        go_upto_region 13 with (fail)
        go_cut [117] (fun v117 wc=>∃ (kq:Nat) (x117_45:Bool),v117=.bool x117_45∧Aside0 (tl_SkyPlaces.j2 kq a1 a2 a3 t561 t562 t563 t564 t567 t568 x117_45 l0_0 a0_1 a0_2 a0_3=some r)∧Aside0 (kq≤kj31)∧Aside0 (wc.heap[gb557]?=some (.cells #[(.slice A0_0 l0_0.length c0_0),.int .i64 a0_1,.int .i64 a0_2,.int .i64 a0_3] 29 (0,0)))∧Aside0 (Below w.heap.size w wc))
        case first=>
         have H:=HC46.out
         clear HC46
         by_cases c47:t566=0
         ·rw [if_pos c47] at H
          have c47b0:(t566 == 0)=true:=beq_iff_eq.mpr c47
          have c47b1:(t566 != 0)=false:=bne_eq_false_iff_eq.mpr c47
          clear c47
          (first|rw [c47b0]|(simp only [i64_w,i32_w];rw [c47b0])|skip)
          replace H:=Option.bind_eq_some_iff.mp H;obtain ⟨t572,A480,H⟩:=H
          replace H:(tl_SkyPlaces.j2 kj31 a1 a2 a3 t561 t562 t563 t564 t567 t568 (t565 != t572) l0_0 a0_1 a0_2 a0_3)=some r:=H
          have A48:=A0_ A480;clear A480
          have H':=A0_ H
          clear H;obtain ⟨hcz49_0,hcz49_1,hcz49_2,hcz49_3,hfz49_0,hfz49_1,hfz49_2,hfz49_3⟩:=bq4_ BK557.out
          go_wp2_with (first|(go_at_call 45;(with_reducible refine (tr_Node.calls a0_1 a0_2 a0_3 a3 t572 _ A48.out).mono ?_);rintro e w50 ⟨rfl,hb⟩;have n0_:=A0_ (blk_below (g:=gb557) (o:=.cells #[.slice A0_0 l0_0.length c0_0,.int .i64 a0_1,.int .i64 a0_2,.int .i64 a0_3] 29 (0,0)) (bd_ BK557.out) hb);have n1_:=A0_ (below_step (by repeat (first|(with_reducible first|exact HB.out|apply below_alloc|apply pw_below_drewN|apply below_drew1|refine below_set ?_ GE557.out)|exact HB.out)) hb);clear BK557;clear HB;have BK557:=n0_;have HB:=n1_;clear n0_ n1_;(try clear hb);(try clear hb2);(try clear hk);(try clear hi)))
          go_meet
          case rel=>exact ⟨_,((t565 != t572)),y4_,H',⟨by have:=HJ12.out;have:=HJ31.out;first|omega|exact Nat.le_refl _⟩,⟨by (with_reducible repeat (first|refine blk_drewN ?_ _|refine blk_drew ?_|refine blk_alloc ?_ _));exact BK557.out⟩,⟨(by repeat (first|(with_reducible first|exact HB.out|apply below_alloc|apply pw_below_drewN|apply below_drew1|refine below_set ?_ GE557.out)|exact HB.out))⟩⟩
         ·rw [if_neg c47] at H
          have c47b0:(t566 == 0)=false:=beq_eq_false_iff_ne.mpr c47
          have c47b1:(t566 != 0)=true:=bne_iff_ne.mpr c47
          (first|rw [c47b0]|(simp only [i64_w,i32_w];rw [c47b0])|skip)
          have H':=A0_ H
          clear H;go_wp2
          go_meet
          case rel=>exact ⟨_,(true),y4_,H',⟨by have:=HJ12.out;have:=HJ31.out;first|omega|exact Nat.le_refl _⟩,⟨by (with_reducible repeat (first|refine blk_drewN ?_ _|refine blk_drew ?_|refine blk_alloc ?_ _));exact BK557.out⟩,⟨(by repeat (first|(with_reducible first|exact HB.out|apply below_alloc|apply pw_below_drewN|apply below_drew1|refine below_set ?_ GE557.out)|exact HB.out))⟩⟩
        case rest=>
         clear HC46;(try clear c1);(try clear c2);(try clear p2);(try clear c3);(try clear c4);(try clear c6);(try clear c8);(try clear c14);(try clear c17);(try clear c25);(try clear c29);(try clear c30);(try clear c30b0);(try clear c30b1);(try clear c31);(try clear c33);(try clear c35);(try clear c36);(try clear c36b0);(try clear c36b1);(try clear c37);(try clear c37b0);(try clear c37b1);(try clear c38);(try clear c38b0);(try clear c38b1);(try clear c39);(try clear c39b0);(try clear c39b1);(try clear c40);(try clear c40b0);(try clear c40b1);(try clear c41);(try clear c41b0);(try clear c41b1);(try clear c42);(try clear c42b0);(try clear c42b1);(try clear c43);(try clear c43b0);(try clear c43b1);(try clear c47);(try clear c47b0);(try clear c47b1);(try clear hcz15_0);(try clear hcz15_1);(try clear hcz15_2);(try clear hcz15_3);(try clear hcz17_0);(try clear hcz17_1);(try clear hcz17_2);(try clear hcz17_3);(try clear hcz19_0);(try clear hcz19_1);(try clear hcz19_2);(try clear hcz19_3);(try clear hcz21_0);(try clear hcz21_1);(try clear hcz21_2);(try clear hcz21_3);(try clear hcz23_0);(try clear hcz23_1);(try clear hcz23_2);(try clear hcz23_3);(try clear hcz25_0);(try clear hcz25_1);(try clear hcz25_2);(try clear hcz25_3);(try clear hcz27_0);(try clear hcz27_1);(try clear hcz27_2);(try clear hcz27_3);(try clear hcz49_0);(try clear hcz49_1);(try clear hcz49_2);(try clear hcz49_3);(try clear hfz15_0);(try clear hfz15_1);(try clear hfz15_2);(try clear hfz15_3);(try clear hfz17_0);(try clear hfz17_1);(try clear hfz17_2);(try clear hfz17_3);(try clear hfz19_0);(try clear hfz19_1);(try clear hfz19_2);(try clear hfz19_3);(try clear hfz21_0);(try clear hfz21_1);(try clear hfz21_2);(try clear hfz21_3);(try clear hfz23_0);(try clear hfz23_1);(try clear hfz23_2);(try clear hfz23_3);(try clear hfz25_0);(try clear hfz25_1);(try clear hfz25_2);(try clear hfz25_3);(try clear hfz27_0);(try clear hfz27_1);(try clear hfz27_2);(try clear hfz27_3);(try clear hfz49_0);(try clear hfz49_1);(try clear hfz49_2);(try clear hfz49_3);(try clear p2)
         obtain ⟨kq,x117_45,rfl,HA,HJ45,BK557,HB⟩:=hcut
         cases kq with
         |zero=>exact absurd HA.out (by simp [tl_SkyPlaces.j2])
         |succ kj45=>
          have H:=HA.out
          clear HA
          simp only [tl_SkyPlaces.j2] at H
          by_cases c51:x117_45=true
          ·subst c51
           have H1:(some false)=some r:=by rw [if_pos rfl] at H;exact H
           clear H;have H:=H1;clear H1;obtain rfl:=Option.some.inj H;go_wp2;go_ret
           exact ⟨y2_,(by repeat (first|(with_reducible first|exact HB.out|apply below_alloc|apply pw_below_drewN|apply below_drew1|refine below_set ?_ GE557.out)|exact HB.out))⟩
          ·replace c51:=Bool.eq_false_iff.mpr c51;subst c51
           have H1:((tr_Body.f l0_0 a0_1 a0_2 a0_3 a1).bind fun t573=>(if t573=true then (if t562=0 then (if 0≤a1 then (if a1<(l0_0.length:Int) then ((tr_Mean.f ((rd_T74 l0_0 a1).f0.f0) ((rd_T74 l0_0 a1).f0.f1) ((rd_T74 l0_0 a1).f1) ((rd_T74 l0_0 a1).f2) a3).bind fun t576=>(if t561=t576 then (if t564=0 then ((tr_Place.f ((rd_T74 l0_0 a1).f0.f0) ((rd_T74 l0_0 a1).f0.f1) ((rd_T74 l0_0 a1).f1) ((rd_T74 l0_0 a1).f2) a3).bind fun t578=>(tl_SkyPlaces.j3 kj45 a1 a2 a3 t567 t568 (t563 != t578) l0_0 a0_1 a0_2 a0_3)) else (tl_SkyPlaces.j3 kj45 a1 a2 a3 t567 t568 true l0_0 a0_1 a0_2 a0_3)) else (tl_SkyPlaces.j3 kj45 a1 a2 a3 t567 t568 true l0_0 a0_1 a0_2 a0_3))) else (none)) else (none)) else (tl_SkyPlaces.j3 kj45 a1 a2 a3 t567 t568 true l0_0 a0_1 a0_2 a0_3)) else (if t562=2 then (if t561=0 then (if t564=2 then (if t563=0 then (if t568=2 then (if t567=0 then ((tl_known.f).bind fun t574=>(some t574)) else (some false)) else (some false)) else (some false)) else (some false)) else (some false)) else (some false))))=some r:=by rw [if_neg (show ¬ (false=true) by decide)] at H;exact H
           clear H;have H:=H1;clear H1;replace H:=Option.bind_eq_some_iff.mp H;obtain ⟨t573,A520,H⟩:=H
           replace H:(if t573=true then (if t562=0 then (if 0≤a1 then (if a1<(l0_0.length:Int) then ((tr_Mean.f ((rd_T74 l0_0 a1).f0.f0) ((rd_T74 l0_0 a1).f0.f1) ((rd_T74 l0_0 a1).f1) ((rd_T74 l0_0 a1).f2) a3).bind fun t576=>(if t561=t576 then (if t564=0 then ((tr_Place.f ((rd_T74 l0_0 a1).f0.f0) ((rd_T74 l0_0 a1).f0.f1) ((rd_T74 l0_0 a1).f1) ((rd_T74 l0_0 a1).f2) a3).bind fun t578=>(tl_SkyPlaces.j3 kj45 a1 a2 a3 t567 t568 (t563 != t578) l0_0 a0_1 a0_2 a0_3)) else (tl_SkyPlaces.j3 kj45 a1 a2 a3 t567 t568 true l0_0 a0_1 a0_2 a0_3)) else (tl_SkyPlaces.j3 kj45 a1 a2 a3 t567 t568 true l0_0 a0_1 a0_2 a0_3))) else (none)) else (none)) else (tl_SkyPlaces.j3 kj45 a1 a2 a3 t567 t568 true l0_0 a0_1 a0_2 a0_3)) else (if t562=2 then (if t561=0 then (if t564=2 then (if t563=0 then (if t568=2 then (if t567=0 then ((tl_known.f).bind fun t574=>(some t574)) else (some false)) else (some false)) else (some false)) else (some false)) else (some false)) else (some false)))=some r:=H
           have A52:=A0_ A520;clear A520
           by_cases c53:t573=true
           ·subst c53
            have H1:(if t562=0 then (if 0≤a1 then (if a1<(l0_0.length:Int) then ((tr_Mean.f ((rd_T74 l0_0 a1).f0.f0) ((rd_T74 l0_0 a1).f0.f1) ((rd_T74 l0_0 a1).f1) ((rd_T74 l0_0 a1).f2) a3).bind fun t576=>(if t561=t576 then (if t564=0 then ((tr_Place.f ((rd_T74 l0_0 a1).f0.f0) ((rd_T74 l0_0 a1).f0.f1) ((rd_T74 l0_0 a1).f1) ((rd_T74 l0_0 a1).f2) a3).bind fun t578=>(tl_SkyPlaces.j3 kj45 a1 a2 a3 t567 t568 (t563 != t578) l0_0 a0_1 a0_2 a0_3)) else (tl_SkyPlaces.j3 kj45 a1 a2 a3 t567 t568 true l0_0 a0_1 a0_2 a0_3)) else (tl_SkyPlaces.j3 kj45 a1 a2 a3 t567 t568 true l0_0 a0_1 a0_2 a0_3))) else (none)) else (none)) else (tl_SkyPlaces.j3 kj45 a1 a2 a3 t567 t568 true l0_0 a0_1 a0_2 a0_3))=some r:=by rw [if_pos rfl] at H;exact H
            clear H;have H:=H1;clear H1;have HC54:=A0_ H;clear H;obtain ⟨hcz55_0,hcz55_1,hcz55_2,hcz55_3,hfz55_0,hfz55_1,hfz55_2,hfz55_3⟩:=bq4_ BK557.out
            go_upto_region 17 with (first|((with_reducible refine gate_callee (f:=20) rfl ?_);refine goesL_ (some 120) rfl rfl Tryz.func20 (by kernel_rfl) rfl #[.agg #[.slice A0_0 l0_0.length c0_0,.int .i64 a0_1,.int .i64 a0_2,.int .i64 a0_3],.int .i64 a1] rfl y1_ ?_;(with_reducible refine (tr_Body.calls _ _ l0_0 a0_1 a0_2 a0_3 a1 true _ ?side1 ?side2 A52.out).mono ?_);(case side1=>repeat (first|exact (Kd.C_below HR0_0.out HB.out)|(with_reducible refine Kd.C_alloc ?_ _)|(with_reducible refine Kd.C_drewN ?_ _)|(with_reducible refine Kd.C_drew ?_)));(case side2=>exact HC0_0.out);rintro e w56 ⟨rfl,hb⟩;refine ⟨_,rfl,?_⟩;have n0_:=A0_ (blk_below (g:=gb557) (o:=.cells #[.slice A0_0 l0_0.length c0_0,.int .i64 a0_1,.int .i64 a0_2,.int .i64 a0_3] 29 (0,0)) (bd_ BK557.out) hb);have n1_:=A0_ (below_step (by repeat (first|(with_reducible first|exact HB.out|apply below_alloc|apply pw_below_drewN|apply below_drew1|refine below_set ?_ GE557.out)|exact HB.out)) hb);clear BK557;clear HB;have BK557:=n0_;have HB:=n1_;clear n0_ n1_;(try clear hb);(try clear hb2);(try clear hk);(try clear hi)))
            (try simp only [Act.put,List.setIfInBounds_toArray,List.set_cons_zero,List.set_cons_succ])
            go_cut [174] (fun v174 wc=>∃ (kq:Nat) (x174_53:Bool),v174=.bool x174_53∧Aside0 (tl_SkyPlaces.j3 kq a1 a2 a3 t567 t568 x174_53 l0_0 a0_1 a0_2 a0_3=some r)∧Aside0 (kq≤kj45)∧Aside0 (wc.heap[gb557]?=some (.cells #[(.slice A0_0 l0_0.length c0_0),.int .i64 a0_1,.int .i64 a0_2,.int .i64 a0_3] 29 (0,0)))∧Aside0 (Below w.heap.size w wc))
            case first=>
             have H:=HC54.out
             clear HC54
             by_cases c57:t562=0
             ·as_aux_lemma=>
              rw [if_pos c57] at H
              have c57b0:(t562 == 0)=true:=beq_iff_eq.mpr c57
              have c57b1:(t562 != 0)=false:=bne_eq_false_iff_eq.mpr c57
              clear c57
              (first|rw [c57b0]|(simp only [i64_w,i32_w];rw [c57b0])|skip)
              by_cases c58:0≤a1
              ·rw [if_pos c58] at H;have c58b0:decide (0≤a1)=true:=decide_eq_true c58;clear c58
               by_cases c59:a1<(l0_0.length:Int)
               ·rw [if_pos c59] at H;have c59b0:decide (a1<(l0_0.length:Int))=true:=decide_eq_true c59;clear c59;replace H:=Option.bind_eq_some_iff.mp H;obtain ⟨t576,A600,H⟩:=H
                replace H:(if t561=t576 then (if t564=0 then ((tr_Place.f ((rd_T74 l0_0 a1).f0.f0) ((rd_T74 l0_0 a1).f0.f1) ((rd_T74 l0_0 a1).f1) ((rd_T74 l0_0 a1).f2) a3).bind fun t578=>(tl_SkyPlaces.j3 kj45 a1 a2 a3 t567 t568 (t563 != t578) l0_0 a0_1 a0_2 a0_3)) else (tl_SkyPlaces.j3 kj45 a1 a2 a3 t567 t568 true l0_0 a0_1 a0_2 a0_3)) else (tl_SkyPlaces.j3 kj45 a1 a2 a3 t567 t568 true l0_0 a0_1 a0_2 a0_3))=some r:=H
                have A60:=A0_ A600;clear A600
                by_cases c61:t561=t576
                ·rw [if_pos c61] at H
                 have c61b0:(t561 == t576)=true:=beq_iff_eq.mpr c61
                 have c61b1:(t561 != t576)=false:=bne_eq_false_iff_eq.mpr c61
                 clear c61
                 by_cases c62:t564=0
                 ·rw [if_pos c62] at H
                  have c62b0:(t564 == 0)=true:=beq_iff_eq.mpr c62
                  have c62b1:(t564 != 0)=false:=bne_eq_false_iff_eq.mpr c62
                  clear c62;replace H:=Option.bind_eq_some_iff.mp H;obtain ⟨t578,A630,H⟩:=H
                  replace H:(tl_SkyPlaces.j3 kj45 a1 a2 a3 t567 t568 (t563 != t578) l0_0 a0_1 a0_2 a0_3)=some r:=H
                  have A63:=A0_ A630;clear A630
                  have H':=A0_ H
                  clear H;obtain ⟨hcz64_0,hcz64_1,hcz64_2,hcz64_3,hfz64_0,hfz64_1,hfz64_2,hfz64_3⟩:=bq4_ BK557.out
                  have p575:0≤(a1:Int):=of_decide_eq_true y5_
                  have q575:a1<(l0_0.length:Int):=of_decide_eq_true y5_
                  obtain ⟨ad575,A575_3,c575_3,e575,hx575_0,hx575_1,hx575_2,hx575_3,hl575_3,hi575_3⟩:=at_T74 HR0_0.out a1 p575 q575
                  cases e575
                  replace hx575_0:=(HB.out.cell (World.block_lt_of_cell? w _ hx575_0)).trans hx575_0
                  replace hx575_1:=(HB.out.cell (World.block_lt_of_cell? w _ hx575_1)).trans hx575_1
                  replace hx575_2:=(HB.out.cell (World.block_lt_of_cell? w _ hx575_2)).trans hx575_2
                  replace hx575_3:=(HB.out.cell (World.block_lt_of_cell? w _ hx575_3)).trans hx575_3
                  have HR575_3:=A0_ hi575_3;have HC575_3:=A0_ hl575_3;clear hi575_3 hl575_3
                  replace p575:=eq_true p575
                  replace q575:=eq_true q575
                  go_wp2_with (first|(go_at_call 46;(with_reducible refine (tr_Mean.calls ((rd_T74 l0_0 a1).f0.f0) ((rd_T74 l0_0 a1).f0.f1) ((rd_T74 l0_0 a1).f1) _ _ ((rd_T74 l0_0 a1).f2) a3 t576 _ ?side1 ?side2 A60.out).mono ?_);(case side1=>repeat (first|exact (Kd.C_below HR575_3.out HB.out)|(with_reducible refine Kd.C_alloc ?_ _)|(with_reducible refine Kd.C_drewN ?_ _)|(with_reducible refine Kd.C_drew ?_)));(case side2=>exact HC575_3.out);rintro e w65 ⟨rfl,hb⟩;have n0_:=A0_ (blk_below (g:=gb557) (o:=.cells #[.slice (some ad575) l0_0.length c0_0,.int .i64 a0_1,.int .i64 a0_2,.int .i64 a0_3] 29 (0,0)) (bd_ BK557.out) hb);have n1_:=A0_ (below_step (by repeat (first|(with_reducible first|exact HB.out|apply below_alloc|apply pw_below_drewN|apply below_drew1|refine below_set ?_ GE557.out)|exact HB.out)) hb);clear BK557;clear HB;have BK557:=n0_;have HB:=n1_;clear n0_ n1_;(try clear hb);(try clear hb2);(try clear hk);(try clear hi);obtain ⟨hcz66_0,hcz66_1,hcz66_2,hcz66_3,hfz66_0,hfz66_1,hfz66_2,hfz66_3⟩:=bq4_ BK557.out;have p577:0≤(a1:Int):=of_decide_eq_true y5_;have q577:a1<(l0_0.length:Int):=of_decide_eq_true y5_;obtain ⟨ad577,A577_3,c577_3,e577,hx577_0,hx577_1,hx577_2,hx577_3,hl577_3,hi577_3⟩:=at_T74 HR0_0.out a1 p577 q577;obtain rfl:ad575=ad577:=(by injection e577);replace hx577_0:=(HB.out.cell (World.block_lt_of_cell? w _ hx577_0)).trans hx577_0;replace hx577_1:=(HB.out.cell (World.block_lt_of_cell? w _ hx577_1)).trans hx577_1;replace hx577_2:=(HB.out.cell (World.block_lt_of_cell? w _ hx577_2)).trans hx577_2;replace hx577_3:=(HB.out.cell (World.block_lt_of_cell? w _ hx577_3)).trans hx577_3;have HR577_3:=A0_ hi577_3;have HC577_3:=A0_ hl577_3;clear hi577_3 hl577_3;replace p577:=eq_true p577;replace q577:=eq_true q577)|(go_at_call 47;(with_reducible refine (tr_Place.calls ((rd_T74 l0_0 a1).f0.f0) ((rd_T74 l0_0 a1).f0.f1) ((rd_T74 l0_0 a1).f1) _ _ ((rd_T74 l0_0 a1).f2) a3 t578 _ ?side1 ?side2 A63.out).mono ?_);(case side1=>repeat (first|exact (Kd.C_below HR577_3.out HB.out)|(with_reducible refine Kd.C_alloc ?_ _)|(with_reducible refine Kd.C_drewN ?_ _)|(with_reducible refine Kd.C_drew ?_)));(case side2=>exact HC577_3.out);rintro e w67 ⟨rfl,hb⟩;have n0_:=A0_ (blk_below (g:=gb557) (o:=.cells #[.slice (some ad575) l0_0.length c0_0,.int .i64 a0_1,.int .i64 a0_2,.int .i64 a0_3] 29 (0,0)) (bd_ BK557.out) hb);have n1_:=A0_ (below_step (by repeat (first|(with_reducible first|exact HB.out|apply below_alloc|apply pw_below_drewN|apply below_drew1|refine below_set ?_ GE557.out)|exact HB.out)) hb);clear BK557;clear HB;have BK557:=n0_;have HB:=n1_;clear n0_ n1_;(try clear hb);(try clear hb2);(try clear hk);(try clear hi)))
                  go_meet
                  case rel=>exact ⟨_,((t563 != t578)),y4_,H',⟨by have:=HJ12.out;have:=HJ31.out;have:=HJ45.out;first|omega|exact Nat.le_refl _⟩,⟨by (with_reducible repeat (first|refine blk_drewN ?_ _|refine blk_drew ?_|refine blk_alloc ?_ _));exact BK557.out⟩,⟨(by repeat (first|(with_reducible first|exact HB.out|apply below_alloc|apply pw_below_drewN|apply below_drew1|refine below_set ?_ GE557.out)|exact HB.out))⟩⟩
                 ·rw [if_neg c62] at H
                  have c62b0:(t564 == 0)=false:=beq_eq_false_iff_ne.mpr c62
                  have c62b1:(t564 != 0)=true:=bne_iff_ne.mpr c62
                  have H':=A0_ H
                  clear H;obtain ⟨hcz68_0,hcz68_1,hcz68_2,hcz68_3,hfz68_0,hfz68_1,hfz68_2,hfz68_3⟩:=bq4_ BK557.out
                  have p575:0≤(a1:Int):=of_decide_eq_true y5_
                  have q575:a1<(l0_0.length:Int):=of_decide_eq_true y5_
                  obtain ⟨ad575,A575_3,c575_3,e575,hx575_0,hx575_1,hx575_2,hx575_3,hl575_3,hi575_3⟩:=at_T74 HR0_0.out a1 p575 q575
                  cases e575
                  replace hx575_0:=(HB.out.cell (World.block_lt_of_cell? w _ hx575_0)).trans hx575_0
                  replace hx575_1:=(HB.out.cell (World.block_lt_of_cell? w _ hx575_1)).trans hx575_1
                  replace hx575_2:=(HB.out.cell (World.block_lt_of_cell? w _ hx575_2)).trans hx575_2
                  replace hx575_3:=(HB.out.cell (World.block_lt_of_cell? w _ hx575_3)).trans hx575_3
                  have HR575_3:=A0_ hi575_3;have HC575_3:=A0_ hl575_3;clear hi575_3 hl575_3
                  replace p575:=eq_true p575
                  replace q575:=eq_true q575
                  go_wp2_with (first|(go_at_call 46;(with_reducible refine (tr_Mean.calls ((rd_T74 l0_0 a1).f0.f0) ((rd_T74 l0_0 a1).f0.f1) ((rd_T74 l0_0 a1).f1) _ _ ((rd_T74 l0_0 a1).f2) a3 t576 _ ?side1 ?side2 A60.out).mono ?_);(case side1=>repeat (first|exact (Kd.C_below HR575_3.out HB.out)|(with_reducible refine Kd.C_alloc ?_ _)|(with_reducible refine Kd.C_drewN ?_ _)|(with_reducible refine Kd.C_drew ?_)));(case side2=>exact HC575_3.out);rintro e w69 ⟨rfl,hb⟩;have n0_:=A0_ (blk_below (g:=gb557) (o:=.cells #[.slice (some ad575) l0_0.length c0_0,.int .i64 a0_1,.int .i64 a0_2,.int .i64 a0_3] 29 (0,0)) (bd_ BK557.out) hb);have n1_:=A0_ (below_step (by repeat (first|(with_reducible first|exact HB.out|apply below_alloc|apply pw_below_drewN|apply below_drew1|refine below_set ?_ GE557.out)|exact HB.out)) hb);clear BK557;clear HB;have BK557:=n0_;have HB:=n1_;clear n0_ n1_;(try clear hb);(try clear hb2);(try clear hk);(try clear hi)))
                  go_meet
                  case rel=>exact ⟨_,(true),y4_,H',⟨by have:=HJ12.out;have:=HJ31.out;have:=HJ45.out;first|omega|exact Nat.le_refl _⟩,⟨by (with_reducible repeat (first|refine blk_drewN ?_ _|refine blk_drew ?_|refine blk_alloc ?_ _));exact BK557.out⟩,⟨(by repeat (first|(with_reducible first|exact HB.out|apply below_alloc|apply pw_below_drewN|apply below_drew1|refine below_set ?_ GE557.out)|exact HB.out))⟩⟩
                ·rw [if_neg c61] at H
                 have c61b0:(t561 == t576)=false:=beq_eq_false_iff_ne.mpr c61
                 have c61b1:(t561 != t576)=true:=bne_iff_ne.mpr c61
                 have H':=A0_ H
                 clear H;obtain ⟨hcz70_0,hcz70_1,hcz70_2,hcz70_3,hfz70_0,hfz70_1,hfz70_2,hfz70_3⟩:=bq4_ BK557.out
                 have p575:0≤(a1:Int):=of_decide_eq_true y5_
                 have q575:a1<(l0_0.length:Int):=of_decide_eq_true y5_
                 obtain ⟨ad575,A575_3,c575_3,e575,hx575_0,hx575_1,hx575_2,hx575_3,hl575_3,hi575_3⟩:=at_T74 HR0_0.out a1 p575 q575
                 cases e575
                 replace hx575_0:=(HB.out.cell (World.block_lt_of_cell? w _ hx575_0)).trans hx575_0
                 replace hx575_1:=(HB.out.cell (World.block_lt_of_cell? w _ hx575_1)).trans hx575_1
                 replace hx575_2:=(HB.out.cell (World.block_lt_of_cell? w _ hx575_2)).trans hx575_2
                 replace hx575_3:=(HB.out.cell (World.block_lt_of_cell? w _ hx575_3)).trans hx575_3
                 have HR575_3:=A0_ hi575_3;have HC575_3:=A0_ hl575_3;clear hi575_3 hl575_3
                 replace p575:=eq_true p575
                 replace q575:=eq_true q575
                 go_wp2_with (first|(go_at_call 46;(with_reducible refine (tr_Mean.calls ((rd_T74 l0_0 a1).f0.f0) ((rd_T74 l0_0 a1).f0.f1) ((rd_T74 l0_0 a1).f1) _ _ ((rd_T74 l0_0 a1).f2) a3 t576 _ ?side1 ?side2 A60.out).mono ?_);(case side1=>repeat (first|exact (Kd.C_below HR575_3.out HB.out)|(with_reducible refine Kd.C_alloc ?_ _)|(with_reducible refine Kd.C_drewN ?_ _)|(with_reducible refine Kd.C_drew ?_)));(case side2=>exact HC575_3.out);rintro e w71 ⟨rfl,hb⟩;have n0_:=A0_ (blk_below (g:=gb557) (o:=.cells #[.slice (some ad575) l0_0.length c0_0,.int .i64 a0_1,.int .i64 a0_2,.int .i64 a0_3] 29 (0,0)) (bd_ BK557.out) hb);have n1_:=A0_ (below_step (by repeat (first|(with_reducible first|exact HB.out|apply below_alloc|apply pw_below_drewN|apply below_drew1|refine below_set ?_ GE557.out)|exact HB.out)) hb);clear BK557;clear HB;have BK557:=n0_;have HB:=n1_;clear n0_ n1_;(try clear hb);(try clear hb2);(try clear hk);(try clear hi)))
                 go_meet
                 case rel=>exact ⟨_,(true),y4_,H',⟨by have:=HJ12.out;have:=HJ31.out;have:=HJ45.out;first|omega|exact Nat.le_refl _⟩,⟨by (with_reducible repeat (first|refine blk_drewN ?_ _|refine blk_drew ?_|refine blk_alloc ?_ _));exact BK557.out⟩,⟨(by repeat (first|(with_reducible first|exact HB.out|apply below_alloc|apply pw_below_drewN|apply below_drew1|refine below_set ?_ GE557.out)|exact HB.out))⟩⟩
               ·rw [if_neg c59] at H;exact absurd H (by simp)
              ·rw [if_neg c58] at H;exact absurd H (by simp)
             ·rw [if_neg c57] at H
              have c57b0:(t562 == 0)=false:=beq_eq_false_iff_ne.mpr c57
              have c57b1:(t562 != 0)=true:=bne_iff_ne.mpr c57
              (first|rw [c57b0]|(simp only [i64_w,i32_w];rw [c57b0])|skip)
              have H':=A0_ H
              clear H;go_wp2
              go_meet
              case rel=>exact ⟨_,(true),y4_,H',⟨by have:=HJ12.out;have:=HJ31.out;have:=HJ45.out;first|omega|exact Nat.le_refl _⟩,⟨by (with_reducible repeat (first|refine blk_drewN ?_ _|refine blk_drew ?_|refine blk_alloc ?_ _));exact BK557.out⟩,⟨(by repeat (first|(with_reducible first|exact HB.out|apply below_alloc|apply pw_below_drewN|apply below_drew1|refine below_set ?_ GE557.out)|exact HB.out))⟩⟩
            case rest=>
             clear HC54;(try clear c1);(try clear c2);(try clear p2);(try clear c3);(try clear c4);(try clear c5);(try clear p5);(try clear q5);(try clear hx5);(try clear c6);(try clear c8);(try clear c14);(try clear c17);(try clear c20);(try clear c25);(try clear c29);(try clear c30);(try clear c30b0);(try clear c30b1);(try clear c31);(try clear c33);(try clear c35);(try clear c36);(try clear c36b0);(try clear c36b1);(try clear c37);(try clear c37b0);(try clear c37b1);(try clear c38);(try clear c38b0);(try clear c38b1);(try clear c39);(try clear c39b0);(try clear c39b1);(try clear c40);(try clear c40b0);(try clear c40b1);(try clear c41);(try clear c41b0);(try clear c41b1);(try clear c42);(try clear c42b0);(try clear c42b1);(try clear c43);(try clear c43b0);(try clear c43b1);(try clear c47);(try clear c47b0);(try clear c47b1);(try clear c51);(try clear c53);(try clear c57);(try clear c57b0);(try clear c57b1);(try clear p57);(try clear q57);(try clear hx57);(try clear c58);(try clear c58b0);(try clear c59);(try clear c59b0);(try clear c61);(try clear c61b0);(try clear c61b1);(try clear c62);(try clear c62b0);(try clear c62b1);(try clear hcz15_0);(try clear hcz15_1);(try clear hcz15_2);(try clear hcz15_3);(try clear hcz17_0);(try clear hcz17_1);(try clear hcz17_2);(try clear hcz17_3);(try clear hcz19_0);(try clear hcz19_1);(try clear hcz19_2);(try clear hcz19_3);(try clear hcz21_0);(try clear hcz21_1);(try clear hcz21_2);(try clear hcz21_3);(try clear hcz23_0);(try clear hcz23_1);(try clear hcz23_2);(try clear hcz23_3);(try clear hcz25_0);(try clear hcz25_1);(try clear hcz25_2);(try clear hcz25_3);(try clear hcz27_0);(try clear hcz27_1);(try clear hcz27_2);(try clear hcz27_3);(try clear hcz49_0);(try clear hcz49_1);(try clear hcz49_2);(try clear hcz49_3);(try clear hcz55_0);(try clear hcz55_1);(try clear hcz55_2);(try clear hcz55_3);(try clear hcz64_0);(try clear hcz64_1);(try clear hcz64_2);(try clear hcz64_3);(try clear hcz66_0);(try clear hcz66_1);(try clear hcz66_2);(try clear hcz66_3);(try clear hcz68_0);(try clear hcz68_1);(try clear hcz68_2);(try clear hcz68_3);(try clear hcz70_0);(try clear hcz70_1);(try clear hcz70_2);(try clear hcz70_3);(try clear hfz15_0);(try clear hfz15_1);(try clear hfz15_2);(try clear hfz15_3);(try clear hfz17_0);(try clear hfz17_1);(try clear hfz17_2);(try clear hfz17_3);(try clear hfz19_0);(try clear hfz19_1);(try clear hfz19_2);(try clear hfz19_3);(try clear hfz21_0);(try clear hfz21_1);(try clear hfz21_2);(try clear hfz21_3);(try clear hfz23_0);(try clear hfz23_1);(try clear hfz23_2);(try clear hfz23_3);(try clear hfz25_0);(try clear hfz25_1);(try clear hfz25_2);(try clear hfz25_3);(try clear hfz27_0);(try clear hfz27_1);(try clear hfz27_2);(try clear hfz27_3);(try clear hfz49_0);(try clear hfz49_1);(try clear hfz49_2);(try clear hfz49_3);(try clear hfz55_0);(try clear hfz55_1)
             (try clear hfz55_2);(try clear hfz55_3);(try clear hfz64_0);(try clear hfz64_1);(try clear hfz64_2);(try clear hfz64_3);(try clear hfz66_0);(try clear hfz66_1);(try clear hfz66_2);(try clear hfz66_3);(try clear hfz68_0);(try clear hfz68_1);(try clear hfz68_2);(try clear hfz68_3);(try clear hfz70_0);(try clear hfz70_1);(try clear hfz70_2);(try clear hfz70_3);(try clear hx575_0);(try clear hx575_1);(try clear hx575_2);(try clear hx575_3);(try clear hx577_0);(try clear hx577_1);(try clear hx577_2);(try clear hx577_3);(try clear p2);(try clear p575);(try clear p577);(try clear q575);(try clear q577)
             obtain ⟨kq,x174_53,rfl,HA,HJ53,BK557,HB⟩:=hcut
             cases kq with
             |zero=>exact absurd HA.out (by simp [tl_SkyPlaces.j3])
             |succ kj53=>
              have H:=HA.out
              clear HA
              simp only [tl_SkyPlaces.j3] at H
              by_cases c72:x174_53=true
              ·subst c72
               have H1:(some false)=some r:=by rw [if_pos rfl] at H;exact H
               clear H;have H:=H1;clear H1;obtain rfl:=Option.some.inj H;go_wp2;go_ret
               exact ⟨y2_,(by repeat (first|(with_reducible first|exact HB.out|apply below_alloc|apply pw_below_drewN|apply below_drew1|refine below_set ?_ GE557.out)|exact HB.out))⟩
              ·replace c72:=Bool.eq_false_iff.mpr c72;subst c72
               have H1:((tr_Body.f l0_0 a0_1 a0_2 a0_3 a2).bind fun t579=>(if t579=true then (tl_SkyPlaces.j4 kj53 a1 a2 a3 t567 t568 (a1 == a2) l0_0 a0_1 a0_2 a0_3) else (tl_SkyPlaces.j4 kj53 a1 a2 a3 t567 t568 true l0_0 a0_1 a0_2 a0_3)))=some r:=by rw [if_neg (show ¬ (false=true) by decide)] at H;exact H
               clear H;have H:=H1;clear H1;have HC73:=A0_ H;clear H
               go_upto_region 19 with (fail)
               go_cut [183] (fun v183 wc=>∃ (kq:Nat) (x183_72:Bool),v183=.bool x183_72∧Aside0 (tl_SkyPlaces.j4 kq a1 a2 a3 t567 t568 x183_72 l0_0 a0_1 a0_2 a0_3=some r)∧Aside0 (kq≤kj53)∧Aside0 (wc.heap[gb557]?=some (.cells #[(.slice A0_0 l0_0.length c0_0),.int .i64 a0_1,.int .i64 a0_2,.int .i64 a0_3] 29 (0,0)))∧Aside0 (Below w.heap.size w wc))
               case first=>
                have H:=HC73.out
                clear HC73;replace H:=Option.bind_eq_some_iff.mp H;obtain ⟨t579,A740,H⟩:=H
                replace H:(if t579=true then (tl_SkyPlaces.j4 kj53 a1 a2 a3 t567 t568 (a1 == a2) l0_0 a0_1 a0_2 a0_3) else (tl_SkyPlaces.j4 kj53 a1 a2 a3 t567 t568 true l0_0 a0_1 a0_2 a0_3))=some r:=H
                have A74:=A0_ A740;clear A740
                by_cases c75:t579=true
                ·subst c75
                 have H1:(tl_SkyPlaces.j4 kj53 a1 a2 a3 t567 t568 (a1 == a2) l0_0 a0_1 a0_2 a0_3)=some r:=by rw [if_pos rfl] at H;exact H
                 clear H;have H:=H1;clear H1
                 have H':=A0_ H
                 clear H;obtain ⟨hcz76_0,hcz76_1,hcz76_2,hcz76_3,hfz76_0,hfz76_1,hfz76_2,hfz76_3⟩:=bq4_ BK557.out
                 go_wp2_with (first|((with_reducible refine gate_callee (f:=20) rfl ?_);refine goesL_ (some 177) rfl rfl Tryz.func20 (by kernel_rfl) rfl #[.agg #[.slice A0_0 l0_0.length c0_0,.int .i64 a0_1,.int .i64 a0_2,.int .i64 a0_3],.int .i64 a2] rfl y1_ ?_;(with_reducible refine (tr_Body.calls _ _ l0_0 a0_1 a0_2 a0_3 a2 true _ ?side1 ?side2 A74.out).mono ?_);(case side1=>repeat (first|exact (Kd.C_below HR0_0.out HB.out)|(with_reducible refine Kd.C_alloc ?_ _)|(with_reducible refine Kd.C_drewN ?_ _)|(with_reducible refine Kd.C_drew ?_)));(case side2=>exact HC0_0.out);rintro e w77 ⟨rfl,hb⟩;refine ⟨_,rfl,?_⟩;have n0_:=A0_ (blk_below (g:=gb557) (o:=.cells #[.slice A0_0 l0_0.length c0_0,.int .i64 a0_1,.int .i64 a0_2,.int .i64 a0_3] 29 (0,0)) (bd_ BK557.out) hb);have n1_:=A0_ (below_step (by repeat (first|(with_reducible first|exact HB.out|apply below_alloc|apply pw_below_drewN|apply below_drew1|refine below_set ?_ GE557.out)|exact HB.out)) hb);clear BK557;clear HB;have BK557:=n0_;have HB:=n1_;clear n0_ n1_;(try clear hb);(try clear hb2);(try clear hk);(try clear hi)))
                 go_meet
                 case rel=>exact ⟨_,((a1 == a2)),y4_,H',⟨by have:=HJ12.out;have:=HJ31.out;have:=HJ45.out;have:=HJ53.out;first|omega|exact Nat.le_refl _⟩,⟨by (with_reducible repeat (first|refine blk_drewN ?_ _|refine blk_drew ?_|refine blk_alloc ?_ _));exact BK557.out⟩,⟨(by repeat (first|(with_reducible first|exact HB.out|apply below_alloc|apply pw_below_drewN|apply below_drew1|refine below_set ?_ GE557.out)|exact HB.out))⟩⟩
                ·replace c75:=Bool.eq_false_iff.mpr c75;subst c75
                 have H1:(tl_SkyPlaces.j4 kj53 a1 a2 a3 t567 t568 true l0_0 a0_1 a0_2 a0_3)=some r:=by rw [if_neg (show ¬ (false=true) by decide)] at H;exact H
                 clear H;have H:=H1;clear H1
                 have H':=A0_ H
                 clear H;obtain ⟨hcz78_0,hcz78_1,hcz78_2,hcz78_3,hfz78_0,hfz78_1,hfz78_2,hfz78_3⟩:=bq4_ BK557.out
                 go_wp2_with (first|((with_reducible refine gate_callee (f:=20) rfl ?_);refine goesL_ (some 177) rfl rfl Tryz.func20 (by kernel_rfl) rfl #[.agg #[.slice A0_0 l0_0.length c0_0,.int .i64 a0_1,.int .i64 a0_2,.int .i64 a0_3],.int .i64 a2] rfl y1_ ?_;(with_reducible refine (tr_Body.calls _ _ l0_0 a0_1 a0_2 a0_3 a2 false _ ?side1 ?side2 A74.out).mono ?_);(case side1=>repeat (first|exact (Kd.C_below HR0_0.out HB.out)|(with_reducible refine Kd.C_alloc ?_ _)|(with_reducible refine Kd.C_drewN ?_ _)|(with_reducible refine Kd.C_drew ?_)));(case side2=>exact HC0_0.out);rintro e w79 ⟨rfl,hb⟩;refine ⟨_,rfl,?_⟩;have n0_:=A0_ (blk_below (g:=gb557) (o:=.cells #[.slice A0_0 l0_0.length c0_0,.int .i64 a0_1,.int .i64 a0_2,.int .i64 a0_3] 29 (0,0)) (bd_ BK557.out) hb);have n1_:=A0_ (below_step (by repeat (first|(with_reducible first|exact HB.out|apply below_alloc|apply pw_below_drewN|apply below_drew1|refine below_set ?_ GE557.out)|exact HB.out)) hb);clear BK557;clear HB;have BK557:=n0_;have HB:=n1_;clear n0_ n1_;(try clear hb);(try clear hb2);(try clear hk);(try clear hi)))
                 go_meet
                 case rel=>exact ⟨_,(true),y4_,H',⟨by have:=HJ12.out;have:=HJ31.out;have:=HJ45.out;have:=HJ53.out;first|omega|exact Nat.le_refl _⟩,⟨by (with_reducible repeat (first|refine blk_drewN ?_ _|refine blk_drew ?_|refine blk_alloc ?_ _));exact BK557.out⟩,⟨(by repeat (first|(with_reducible first|exact HB.out|apply below_alloc|apply pw_below_drewN|apply below_drew1|refine below_set ?_ GE557.out)|exact HB.out))⟩⟩
               case rest=>
                clear HC73;(try clear c1);(try clear c2);(try clear p2);(try clear c3);(try clear c4);(try clear c5);(try clear p5);(try clear q5);(try clear hx5);(try clear c6);(try clear c7);(try clear c8);(try clear c14);(try clear c17);(try clear c20);(try clear c25);(try clear c29);(try clear c30);(try clear c30b0);(try clear c30b1);(try clear c31);(try clear c33);(try clear c35);(try clear c36);(try clear c36b0);(try clear c36b1);(try clear c37);(try clear c37b0);(try clear c37b1);(try clear c38);(try clear c38b0);(try clear c38b1);(try clear c39);(try clear c39b0);(try clear c39b1);(try clear c40);(try clear c40b0);(try clear c40b1);(try clear c41);(try clear c41b0);(try clear c41b1);(try clear c42);(try clear c42b0);(try clear c42b1);(try clear c43);(try clear c43b0);(try clear c43b1);(try clear c47);(try clear c47b0);(try clear c47b1);(try clear c51);(try clear c53);(try clear c57);(try clear c57b0);(try clear c57b1);(try clear p57);(try clear q57);(try clear hx57);(try clear c58);(try clear c58b0);(try clear c59);(try clear c59b0);(try clear c61);(try clear c61b0);(try clear c61b1);(try clear c62);(try clear c62b0);(try clear c62b1);(try clear c72);(try clear c75);(try clear hcz15_0);(try clear hcz15_1);(try clear hcz15_2);(try clear hcz15_3);(try clear hcz17_0);(try clear hcz17_1);(try clear hcz17_2);(try clear hcz17_3);(try clear hcz19_0);(try clear hcz19_1);(try clear hcz19_2);(try clear hcz19_3);(try clear hcz21_0);(try clear hcz21_1);(try clear hcz21_2);(try clear hcz21_3);(try clear hcz23_0);(try clear hcz23_1);(try clear hcz23_2);(try clear hcz23_3);(try clear hcz25_0);(try clear hcz25_1);(try clear hcz25_2);(try clear hcz25_3);(try clear hcz27_0);(try clear hcz27_1);(try clear hcz27_2);(try clear hcz27_3);(try clear hcz49_0);(try clear hcz49_1);(try clear hcz49_2);(try clear hcz49_3);(try clear hcz55_0);(try clear hcz55_1);(try clear hcz55_2);(try clear hcz55_3);(try clear hcz64_0);(try clear hcz64_1);(try clear hcz64_2);(try clear hcz64_3);(try clear hcz66_0);(try clear hcz66_1);(try clear hcz66_2);(try clear hcz66_3);(try clear hcz68_0);(try clear hcz68_1);(try clear hcz68_2);(try clear hcz68_3);(try clear hcz70_0);(try clear hcz70_1);(try clear hcz70_2);(try clear hcz70_3);(try clear hcz76_0);(try clear hcz76_1);(try clear hcz76_2);(try clear hcz76_3);(try clear hcz78_0);(try clear hcz78_1);(try clear hcz78_2);(try clear hcz78_3);(try clear hfz15_0);(try clear hfz15_1);(try clear hfz15_2);(try clear hfz15_3);(try clear hfz17_0);(try clear hfz17_1);(try clear hfz17_2);(try clear hfz17_3);(try clear hfz19_0);(try clear hfz19_1);(try clear hfz19_2);(try clear hfz19_3);(try clear hfz21_0);(try clear hfz21_1);(try clear hfz21_2);(try clear hfz21_3);(try clear hfz23_0);(try clear hfz23_1);(try clear hfz23_2);(try clear hfz23_3);(try clear hfz25_0);(try clear hfz25_1);(try clear hfz25_2);(try clear hfz25_3)
                (try clear hfz27_0);(try clear hfz27_1);(try clear hfz27_2);(try clear hfz27_3);(try clear hfz49_0);(try clear hfz49_1);(try clear hfz49_2);(try clear hfz49_3);(try clear hfz55_0);(try clear hfz55_1);(try clear hfz55_2);(try clear hfz55_3);(try clear hfz64_0);(try clear hfz64_1);(try clear hfz64_2);(try clear hfz64_3);(try clear hfz66_0);(try clear hfz66_1);(try clear hfz66_2);(try clear hfz66_3);(try clear hfz68_0);(try clear hfz68_1);(try clear hfz68_2);(try clear hfz68_3);(try clear hfz70_0);(try clear hfz70_1);(try clear hfz70_2);(try clear hfz70_3);(try clear hfz76_0);(try clear hfz76_1);(try clear hfz76_2);(try clear hfz76_3);(try clear hfz78_0);(try clear hfz78_1);(try clear hfz78_2);(try clear hfz78_3);(try clear hx575_0);(try clear hx575_1);(try clear hx575_2);(try clear hx575_3);(try clear hx577_0);(try clear hx577_1);(try clear hx577_2);(try clear hx577_3);(try clear p2);(try clear p5);(try clear p57);(try clear p575);(try clear p577);(try clear q5);(try clear q57);(try clear q575);(try clear q577)
                obtain ⟨kq,x183_72,rfl,HA,HJ72,BK557,HB⟩:=hcut
                cases kq with
                |zero=>exact absurd HA.out (by simp [tl_SkyPlaces.j4])
                |succ kj72=>
                 have H:=HA.out
                 clear HA
                 simp only [tl_SkyPlaces.j4] at H
                 by_cases c80:x183_72=true
                 ·subst c80
                  have H1:(if t568=2 then (if t567=0 then ((tl_known.f).bind fun t580=>(some t580)) else (some false)) else (some false))=some r:=by rw [if_pos rfl] at H;exact H
                  clear H;have H:=H1;clear H1
                  by_cases c81:t568=2
                  ·rw [if_pos c81] at H
                   have c81b0:(t568 == 2)=true:=beq_iff_eq.mpr c81
                   have c81b1:(t568 != 2)=false:=bne_eq_false_iff_eq.mpr c81
                   clear c81
                   by_cases c82:t567=0
                   ·rw [if_pos c82] at H
                    have c82b0:(t567 == 0)=true:=beq_iff_eq.mpr c82
                    have c82b1:(t567 != 0)=false:=bne_eq_false_iff_eq.mpr c82
                    clear c82;replace H:=Option.bind_eq_some_iff.mp H;obtain ⟨t580,A830,H⟩:=H
                    replace H:(some t580)=some r:=H
                    have A83:=A0_ A830;clear A830;obtain rfl:=Option.some.inj H
                    go_wp2_with (first|(go_at_call 11;(with_reducible refine (tl_known.calls  t580 _ A83.out ?side1).mono ?_);(case side1=>exact LD.below HLD.out (by repeat (first|(with_reducible first|exact HB.out|apply below_alloc|apply pw_below_drewN|apply below_drew1|refine below_set ?_ GE557.out)|exact HB.out)));rintro e w84 ⟨rfl,hb⟩;have n0_:=A0_ (blk_below (g:=gb557) (o:=.cells #[.slice A0_0 l0_0.length c0_0,.int .i64 a0_1,.int .i64 a0_2,.int .i64 a0_3] 29 (0,0)) (bd_ BK557.out) hb);have n1_:=A0_ (below_step (by repeat (first|(with_reducible first|exact HB.out|apply below_alloc|apply pw_below_drewN|apply below_drew1|refine below_set ?_ GE557.out)|exact HB.out)) hb);clear BK557;clear HB;have BK557:=n0_;have HB:=n1_;clear n0_ n1_;(try clear hb);(try clear hb2);(try clear hk);(try clear hi)))
                    go_ret
                    exact ⟨y2_,(by repeat (first|(with_reducible first|exact HB.out|apply below_alloc|apply pw_below_drewN|apply below_drew1|refine below_set ?_ GE557.out)|exact HB.out))⟩
                   ·rw [if_neg c82] at H
                    have c82b0:(t567 == 0)=false:=beq_eq_false_iff_ne.mpr c82
                    have c82b1:(t567 != 0)=true:=bne_iff_ne.mpr c82
                    obtain rfl:=Option.some.inj H;go_wp2;go_ret
                    exact ⟨y2_,(by repeat (first|(with_reducible first|exact HB.out|apply below_alloc|apply pw_below_drewN|apply below_drew1|refine below_set ?_ GE557.out)|exact HB.out))⟩
                  ·rw [if_neg c81] at H
                   have c81b0:(t568 == 2)=false:=beq_eq_false_iff_ne.mpr c81
                   have c81b1:(t568 != 2)=true:=bne_iff_ne.mpr c81
                   obtain rfl:=Option.some.inj H;go_wp2;go_ret
                   exact ⟨y2_,(by repeat (first|(with_reducible first|exact HB.out|apply below_alloc|apply pw_below_drewN|apply below_drew1|refine below_set ?_ GE557.out)|exact HB.out))⟩
                 ·as_aux_lemma=>
                  replace c80:=Bool.eq_false_iff.mpr c80;subst c80
                  have H1:(if t568=0 then ((tr_Between.f l0_0 a0_1 a0_2 a0_3 a1 a2 a3).bind fun t581=>(if t567=t581 then ((tl_known.f).bind fun t582=>(some t582)) else (some false))) else (some false))=some r:=by rw [if_neg (show ¬ (false=true) by decide)] at H;exact H
                  clear H;have H:=H1;clear H1
                  by_cases c85:t568=0
                  ·rw [if_pos c85] at H
                   have c85b0:(t568 == 0)=true:=beq_iff_eq.mpr c85
                   have c85b1:(t568 != 0)=false:=bne_eq_false_iff_eq.mpr c85
                   clear c85;replace H:=Option.bind_eq_some_iff.mp H;obtain ⟨t581,A860,H⟩:=H
                   replace H:(if t567=t581 then ((tl_known.f).bind fun t582=>(some t582)) else (some false))=some r:=H
                   have A86:=A0_ A860;clear A860
                   by_cases c87:t567=t581
                   ·rw [if_pos c87] at H
                    have c87b0:(t567 == t581)=true:=beq_iff_eq.mpr c87
                    have c87b1:(t567 != t581)=false:=bne_eq_false_iff_eq.mpr c87
                    clear c87;replace H:=Option.bind_eq_some_iff.mp H;obtain ⟨t582,A880,H⟩:=H
                    replace H:(some t582)=some r:=H
                    have A88:=A0_ A880;clear A880;obtain rfl:=Option.some.inj H;obtain ⟨hcz89_0,hcz89_1,hcz89_2,hcz89_3,hfz89_0,hfz89_1,hfz89_2,hfz89_3⟩:=bq4_ BK557.out
                    go_wp2_with (first|(go_at_call 48;(with_reducible refine (tr_Between.calls _ _ l0_0 a0_1 a0_2 a0_3 a1 a2 a3 t581 _ ?side1 ?side2 A86.out).mono ?_);(case side1=>repeat (first|exact (Kd.C_below HR0_0.out HB.out)|(with_reducible refine Kd.C_alloc ?_ _)|(with_reducible refine Kd.C_drewN ?_ _)|(with_reducible refine Kd.C_drew ?_)));(case side2=>exact HC0_0.out);rintro e w90 ⟨rfl,hb⟩;have n0_:=A0_ (blk_below (g:=gb557) (o:=.cells #[.slice A0_0 l0_0.length c0_0,.int .i64 a0_1,.int .i64 a0_2,.int .i64 a0_3] 29 (0,0)) (bd_ BK557.out) hb);have n1_:=A0_ (below_step (by repeat (first|(with_reducible first|exact HB.out|apply below_alloc|apply pw_below_drewN|apply below_drew1|refine below_set ?_ GE557.out)|exact HB.out)) hb);clear BK557;clear HB;have BK557:=n0_;have HB:=n1_;clear n0_ n1_;(try clear hb);(try clear hb2);(try clear hk);(try clear hi))|(go_at_call 11;(with_reducible refine (tl_known.calls  t582 _ A88.out ?side1).mono ?_);(case side1=>exact LD.below HLD.out (by repeat (first|(with_reducible first|exact HB.out|apply below_alloc|apply pw_below_drewN|apply below_drew1|refine below_set ?_ GE557.out)|exact HB.out)));rintro e w91 ⟨rfl,hb⟩;have n0_:=A0_ (blk_below (g:=gb557) (o:=.cells #[.slice A0_0 l0_0.length c0_0,.int .i64 a0_1,.int .i64 a0_2,.int .i64 a0_3] 29 (0,0)) (bd_ BK557.out) hb);have n1_:=A0_ (below_step (by repeat (first|(with_reducible first|exact HB.out|apply below_alloc|apply pw_below_drewN|apply below_drew1|refine below_set ?_ GE557.out)|exact HB.out)) hb);clear BK557;clear HB;have BK557:=n0_;have HB:=n1_;clear n0_ n1_;(try clear hb);(try clear hb2);(try clear hk);(try clear hi)))
                    go_ret
                    exact ⟨y2_,(by repeat (first|(with_reducible first|exact HB.out|apply below_alloc|apply pw_below_drewN|apply below_drew1|refine below_set ?_ GE557.out)|exact HB.out))⟩
                   ·rw [if_neg c87] at H
                    have c87b0:(t567 == t581)=false:=beq_eq_false_iff_ne.mpr c87
                    have c87b1:(t567 != t581)=true:=bne_iff_ne.mpr c87
                    obtain rfl:=Option.some.inj H;obtain ⟨hcz92_0,hcz92_1,hcz92_2,hcz92_3,hfz92_0,hfz92_1,hfz92_2,hfz92_3⟩:=bq4_ BK557.out
                    go_wp2_with (first|(go_at_call 48;(with_reducible refine (tr_Between.calls _ _ l0_0 a0_1 a0_2 a0_3 a1 a2 a3 t581 _ ?side1 ?side2 A86.out).mono ?_);(case side1=>repeat (first|exact (Kd.C_below HR0_0.out HB.out)|(with_reducible refine Kd.C_alloc ?_ _)|(with_reducible refine Kd.C_drewN ?_ _)|(with_reducible refine Kd.C_drew ?_)));(case side2=>exact HC0_0.out);rintro e w93 ⟨rfl,hb⟩;have n0_:=A0_ (blk_below (g:=gb557) (o:=.cells #[.slice A0_0 l0_0.length c0_0,.int .i64 a0_1,.int .i64 a0_2,.int .i64 a0_3] 29 (0,0)) (bd_ BK557.out) hb);have n1_:=A0_ (below_step (by repeat (first|(with_reducible first|exact HB.out|apply below_alloc|apply pw_below_drewN|apply below_drew1|refine below_set ?_ GE557.out)|exact HB.out)) hb);clear BK557;clear HB;have BK557:=n0_;have HB:=n1_;clear n0_ n1_;(try clear hb);(try clear hb2);(try clear hk);(try clear hi)))
                    go_ret
                    exact ⟨y2_,(by repeat (first|(with_reducible first|exact HB.out|apply below_alloc|apply pw_below_drewN|apply below_drew1|refine below_set ?_ GE557.out)|exact HB.out))⟩
                  ·rw [if_neg c85] at H
                   have c85b0:(t568 == 0)=false:=beq_eq_false_iff_ne.mpr c85
                   have c85b1:(t568 != 0)=true:=bne_iff_ne.mpr c85
                   obtain rfl:=Option.some.inj H;go_wp2;go_ret
                   exact ⟨y2_,(by repeat (first|(with_reducible first|exact HB.out|apply below_alloc|apply pw_below_drewN|apply below_drew1|refine below_set ?_ GE557.out)|exact HB.out))⟩
           ·as_aux_lemma=>
            replace c53:=Bool.eq_false_iff.mpr c53;subst c53
            have H1:(if t562=2 then (if t561=0 then (if t564=2 then (if t563=0 then (if t568=2 then (if t567=0 then ((tl_known.f).bind fun t574=>(some t574)) else (some false)) else (some false)) else (some false)) else (some false)) else (some false)) else (some false))=some r:=by rw [if_neg (show ¬ (false=true) by decide)] at H;exact H
            clear H;have H:=H1;clear H1
            by_cases c94:t562=2
            ·rw [if_pos c94] at H
             have c94b0:(t562 == 2)=true:=beq_iff_eq.mpr c94
             have c94b1:(t562 != 2)=false:=bne_eq_false_iff_eq.mpr c94
             clear c94
             by_cases c95:t561=0
             ·rw [if_pos c95] at H
              have c95b0:(t561 == 0)=true:=beq_iff_eq.mpr c95
              have c95b1:(t561 != 0)=false:=bne_eq_false_iff_eq.mpr c95
              clear c95
              by_cases c96:t564=2
              ·rw [if_pos c96] at H
               have c96b0:(t564 == 2)=true:=beq_iff_eq.mpr c96
               have c96b1:(t564 != 2)=false:=bne_eq_false_iff_eq.mpr c96
               clear c96
               by_cases c97:t563=0
               ·rw [if_pos c97] at H
                have c97b0:(t563 == 0)=true:=beq_iff_eq.mpr c97
                have c97b1:(t563 != 0)=false:=bne_eq_false_iff_eq.mpr c97
                clear c97
                by_cases c98:t568=2
                ·rw [if_pos c98] at H
                 have c98b0:(t568 == 2)=true:=beq_iff_eq.mpr c98
                 have c98b1:(t568 != 2)=false:=bne_eq_false_iff_eq.mpr c98
                 clear c98
                 by_cases c99:t567=0
                 ·rw [if_pos c99] at H
                  have c99b0:(t567 == 0)=true:=beq_iff_eq.mpr c99
                  have c99b1:(t567 != 0)=false:=bne_eq_false_iff_eq.mpr c99
                  clear c99;replace H:=Option.bind_eq_some_iff.mp H;obtain ⟨t574,A1000,H⟩:=H
                  replace H:(some t574)=some r:=H
                  have A100:=A0_ A1000;clear A1000;obtain rfl:=Option.some.inj H;obtain ⟨hcz101_0,hcz101_1,hcz101_2,hcz101_3,hfz101_0,hfz101_1,hfz101_2,hfz101_3⟩:=bq4_ BK557.out
                  go_wp2_with (first|((with_reducible refine gate_callee (f:=20) rfl ?_);refine goesL_ (some 120) rfl rfl Tryz.func20 (by kernel_rfl) rfl #[.agg #[.slice A0_0 l0_0.length c0_0,.int .i64 a0_1,.int .i64 a0_2,.int .i64 a0_3],.int .i64 a1] rfl y1_ ?_;(with_reducible refine (tr_Body.calls _ _ l0_0 a0_1 a0_2 a0_3 a1 false _ ?side1 ?side2 A52.out).mono ?_);(case side1=>repeat (first|exact (Kd.C_below HR0_0.out HB.out)|(with_reducible refine Kd.C_alloc ?_ _)|(with_reducible refine Kd.C_drewN ?_ _)|(with_reducible refine Kd.C_drew ?_)));(case side2=>exact HC0_0.out);rintro e w102 ⟨rfl,hb⟩;refine ⟨_,rfl,?_⟩;have n0_:=A0_ (blk_below (g:=gb557) (o:=.cells #[.slice A0_0 l0_0.length c0_0,.int .i64 a0_1,.int .i64 a0_2,.int .i64 a0_3] 29 (0,0)) (bd_ BK557.out) hb);have n1_:=A0_ (below_step (by repeat (first|(with_reducible first|exact HB.out|apply below_alloc|apply pw_below_drewN|apply below_drew1|refine below_set ?_ GE557.out)|exact HB.out)) hb);clear BK557;clear HB;have BK557:=n0_;have HB:=n1_;clear n0_ n1_;(try clear hb);(try clear hb2);(try clear hk);(try clear hi))|(go_at_call 11;(with_reducible refine (tl_known.calls  t574 _ A100.out ?side1).mono ?_);(case side1=>exact LD.below HLD.out (by repeat (first|(with_reducible first|exact HB.out|apply below_alloc|apply pw_below_drewN|apply below_drew1|refine below_set ?_ GE557.out)|exact HB.out)));rintro e w103 ⟨rfl,hb⟩;have n0_:=A0_ (blk_below (g:=gb557) (o:=.cells #[.slice A0_0 l0_0.length c0_0,.int .i64 a0_1,.int .i64 a0_2,.int .i64 a0_3] 29 (0,0)) (bd_ BK557.out) hb);have n1_:=A0_ (below_step (by repeat (first|(with_reducible first|exact HB.out|apply below_alloc|apply pw_below_drewN|apply below_drew1|refine below_set ?_ GE557.out)|exact HB.out)) hb);clear BK557;clear HB;have BK557:=n0_;have HB:=n1_;clear n0_ n1_;(try clear hb);(try clear hb2);(try clear hk);(try clear hi)))
                  go_ret
                  exact ⟨y2_,(by repeat (first|(with_reducible first|exact HB.out|apply below_alloc|apply pw_below_drewN|apply below_drew1|refine below_set ?_ GE557.out)|exact HB.out))⟩
                 ·rw [if_neg c99] at H
                  have c99b0:(t567 == 0)=false:=beq_eq_false_iff_ne.mpr c99
                  have c99b1:(t567 != 0)=true:=bne_iff_ne.mpr c99
                  obtain rfl:=Option.some.inj H;obtain ⟨hcz104_0,hcz104_1,hcz104_2,hcz104_3,hfz104_0,hfz104_1,hfz104_2,hfz104_3⟩:=bq4_ BK557.out
                  go_wp2_with (first|((with_reducible refine gate_callee (f:=20) rfl ?_);refine goesL_ (some 120) rfl rfl Tryz.func20 (by kernel_rfl) rfl #[.agg #[.slice A0_0 l0_0.length c0_0,.int .i64 a0_1,.int .i64 a0_2,.int .i64 a0_3],.int .i64 a1] rfl y1_ ?_;(with_reducible refine (tr_Body.calls _ _ l0_0 a0_1 a0_2 a0_3 a1 false _ ?side1 ?side2 A52.out).mono ?_);(case side1=>repeat (first|exact (Kd.C_below HR0_0.out HB.out)|(with_reducible refine Kd.C_alloc ?_ _)|(with_reducible refine Kd.C_drewN ?_ _)|(with_reducible refine Kd.C_drew ?_)));(case side2=>exact HC0_0.out);rintro e w105 ⟨rfl,hb⟩;refine ⟨_,rfl,?_⟩;have n0_:=A0_ (blk_below (g:=gb557) (o:=.cells #[.slice A0_0 l0_0.length c0_0,.int .i64 a0_1,.int .i64 a0_2,.int .i64 a0_3] 29 (0,0)) (bd_ BK557.out) hb);have n1_:=A0_ (below_step (by repeat (first|(with_reducible first|exact HB.out|apply below_alloc|apply pw_below_drewN|apply below_drew1|refine below_set ?_ GE557.out)|exact HB.out)) hb);clear BK557;clear HB;have BK557:=n0_;have HB:=n1_;clear n0_ n1_;(try clear hb);(try clear hb2);(try clear hk);(try clear hi)))
                  go_ret
                  exact ⟨y2_,(by repeat (first|(with_reducible first|exact HB.out|apply below_alloc|apply pw_below_drewN|apply below_drew1|refine below_set ?_ GE557.out)|exact HB.out))⟩
                ·rw [if_neg c98] at H
                 have c98b0:(t568 == 2)=false:=beq_eq_false_iff_ne.mpr c98
                 have c98b1:(t568 != 2)=true:=bne_iff_ne.mpr c98
                 obtain rfl:=Option.some.inj H;obtain ⟨hcz106_0,hcz106_1,hcz106_2,hcz106_3,hfz106_0,hfz106_1,hfz106_2,hfz106_3⟩:=bq4_ BK557.out
                 go_wp2_with (first|((with_reducible refine gate_callee (f:=20) rfl ?_);refine goesL_ (some 120) rfl rfl Tryz.func20 (by kernel_rfl) rfl #[.agg #[.slice A0_0 l0_0.length c0_0,.int .i64 a0_1,.int .i64 a0_2,.int .i64 a0_3],.int .i64 a1] rfl y1_ ?_;(with_reducible refine (tr_Body.calls _ _ l0_0 a0_1 a0_2 a0_3 a1 false _ ?side1 ?side2 A52.out).mono ?_);(case side1=>repeat (first|exact (Kd.C_below HR0_0.out HB.out)|(with_reducible refine Kd.C_alloc ?_ _)|(with_reducible refine Kd.C_drewN ?_ _)|(with_reducible refine Kd.C_drew ?_)));(case side2=>exact HC0_0.out);rintro e w107 ⟨rfl,hb⟩;refine ⟨_,rfl,?_⟩;have n0_:=A0_ (blk_below (g:=gb557) (o:=.cells #[.slice A0_0 l0_0.length c0_0,.int .i64 a0_1,.int .i64 a0_2,.int .i64 a0_3] 29 (0,0)) (bd_ BK557.out) hb);have n1_:=A0_ (below_step (by repeat (first|(with_reducible first|exact HB.out|apply below_alloc|apply pw_below_drewN|apply below_drew1|refine below_set ?_ GE557.out)|exact HB.out)) hb);clear BK557;clear HB;have BK557:=n0_;have HB:=n1_;clear n0_ n1_;(try clear hb);(try clear hb2);(try clear hk);(try clear hi)))
                 go_ret
                 exact ⟨y2_,(by repeat (first|(with_reducible first|exact HB.out|apply below_alloc|apply pw_below_drewN|apply below_drew1|refine below_set ?_ GE557.out)|exact HB.out))⟩
               ·rw [if_neg c97] at H
                have c97b0:(t563 == 0)=false:=beq_eq_false_iff_ne.mpr c97
                have c97b1:(t563 != 0)=true:=bne_iff_ne.mpr c97
                obtain rfl:=Option.some.inj H;obtain ⟨hcz108_0,hcz108_1,hcz108_2,hcz108_3,hfz108_0,hfz108_1,hfz108_2,hfz108_3⟩:=bq4_ BK557.out
                go_wp2_with (first|((with_reducible refine gate_callee (f:=20) rfl ?_);refine goesL_ (some 120) rfl rfl Tryz.func20 (by kernel_rfl) rfl #[.agg #[.slice A0_0 l0_0.length c0_0,.int .i64 a0_1,.int .i64 a0_2,.int .i64 a0_3],.int .i64 a1] rfl y1_ ?_;(with_reducible refine (tr_Body.calls _ _ l0_0 a0_1 a0_2 a0_3 a1 false _ ?side1 ?side2 A52.out).mono ?_);(case side1=>repeat (first|exact (Kd.C_below HR0_0.out HB.out)|(with_reducible refine Kd.C_alloc ?_ _)|(with_reducible refine Kd.C_drewN ?_ _)|(with_reducible refine Kd.C_drew ?_)));(case side2=>exact HC0_0.out);rintro e w109 ⟨rfl,hb⟩;refine ⟨_,rfl,?_⟩;have n0_:=A0_ (blk_below (g:=gb557) (o:=.cells #[.slice A0_0 l0_0.length c0_0,.int .i64 a0_1,.int .i64 a0_2,.int .i64 a0_3] 29 (0,0)) (bd_ BK557.out) hb);have n1_:=A0_ (below_step (by repeat (first|(with_reducible first|exact HB.out|apply below_alloc|apply pw_below_drewN|apply below_drew1|refine below_set ?_ GE557.out)|exact HB.out)) hb);clear BK557;clear HB;have BK557:=n0_;have HB:=n1_;clear n0_ n1_;(try clear hb);(try clear hb2);(try clear hk);(try clear hi)))
                go_ret
                exact ⟨y2_,(by repeat (first|(with_reducible first|exact HB.out|apply below_alloc|apply pw_below_drewN|apply below_drew1|refine below_set ?_ GE557.out)|exact HB.out))⟩
              ·rw [if_neg c96] at H
               have c96b0:(t564 == 2)=false:=beq_eq_false_iff_ne.mpr c96
               have c96b1:(t564 != 2)=true:=bne_iff_ne.mpr c96
               obtain rfl:=Option.some.inj H;obtain ⟨hcz110_0,hcz110_1,hcz110_2,hcz110_3,hfz110_0,hfz110_1,hfz110_2,hfz110_3⟩:=bq4_ BK557.out
               go_wp2_with (first|((with_reducible refine gate_callee (f:=20) rfl ?_);refine goesL_ (some 120) rfl rfl Tryz.func20 (by kernel_rfl) rfl #[.agg #[.slice A0_0 l0_0.length c0_0,.int .i64 a0_1,.int .i64 a0_2,.int .i64 a0_3],.int .i64 a1] rfl y1_ ?_;(with_reducible refine (tr_Body.calls _ _ l0_0 a0_1 a0_2 a0_3 a1 false _ ?side1 ?side2 A52.out).mono ?_);(case side1=>repeat (first|exact (Kd.C_below HR0_0.out HB.out)|(with_reducible refine Kd.C_alloc ?_ _)|(with_reducible refine Kd.C_drewN ?_ _)|(with_reducible refine Kd.C_drew ?_)));(case side2=>exact HC0_0.out);rintro e w111 ⟨rfl,hb⟩;refine ⟨_,rfl,?_⟩;have n0_:=A0_ (blk_below (g:=gb557) (o:=.cells #[.slice A0_0 l0_0.length c0_0,.int .i64 a0_1,.int .i64 a0_2,.int .i64 a0_3] 29 (0,0)) (bd_ BK557.out) hb);have n1_:=A0_ (below_step (by repeat (first|(with_reducible first|exact HB.out|apply below_alloc|apply pw_below_drewN|apply below_drew1|refine below_set ?_ GE557.out)|exact HB.out)) hb);clear BK557;clear HB;have BK557:=n0_;have HB:=n1_;clear n0_ n1_;(try clear hb);(try clear hb2);(try clear hk);(try clear hi)))
               go_ret
               exact ⟨y2_,(by repeat (first|(with_reducible first|exact HB.out|apply below_alloc|apply pw_below_drewN|apply below_drew1|refine below_set ?_ GE557.out)|exact HB.out))⟩
             ·rw [if_neg c95] at H
              have c95b0:(t561 == 0)=false:=beq_eq_false_iff_ne.mpr c95
              have c95b1:(t561 != 0)=true:=bne_iff_ne.mpr c95
              obtain rfl:=Option.some.inj H;obtain ⟨hcz112_0,hcz112_1,hcz112_2,hcz112_3,hfz112_0,hfz112_1,hfz112_2,hfz112_3⟩:=bq4_ BK557.out
              go_wp2_with (first|((with_reducible refine gate_callee (f:=20) rfl ?_);refine goesL_ (some 120) rfl rfl Tryz.func20 (by kernel_rfl) rfl #[.agg #[.slice A0_0 l0_0.length c0_0,.int .i64 a0_1,.int .i64 a0_2,.int .i64 a0_3],.int .i64 a1] rfl y1_ ?_;(with_reducible refine (tr_Body.calls _ _ l0_0 a0_1 a0_2 a0_3 a1 false _ ?side1 ?side2 A52.out).mono ?_);(case side1=>repeat (first|exact (Kd.C_below HR0_0.out HB.out)|(with_reducible refine Kd.C_alloc ?_ _)|(with_reducible refine Kd.C_drewN ?_ _)|(with_reducible refine Kd.C_drew ?_)));(case side2=>exact HC0_0.out);rintro e w113 ⟨rfl,hb⟩;refine ⟨_,rfl,?_⟩;have n0_:=A0_ (blk_below (g:=gb557) (o:=.cells #[.slice A0_0 l0_0.length c0_0,.int .i64 a0_1,.int .i64 a0_2,.int .i64 a0_3] 29 (0,0)) (bd_ BK557.out) hb);have n1_:=A0_ (below_step (by repeat (first|(with_reducible first|exact HB.out|apply below_alloc|apply pw_below_drewN|apply below_drew1|refine below_set ?_ GE557.out)|exact HB.out)) hb);clear BK557;clear HB;have BK557:=n0_;have HB:=n1_;clear n0_ n1_;(try clear hb);(try clear hb2);(try clear hk);(try clear hi)))
              go_ret
              exact ⟨y2_,(by repeat (first|(with_reducible first|exact HB.out|apply below_alloc|apply pw_below_drewN|apply below_drew1|refine below_set ?_ GE557.out)|exact HB.out))⟩
            ·rw [if_neg c94] at H
             have c94b0:(t562 == 2)=false:=beq_eq_false_iff_ne.mpr c94
             have c94b1:(t562 != 2)=true:=bne_iff_ne.mpr c94
             obtain rfl:=Option.some.inj H;obtain ⟨hcz114_0,hcz114_1,hcz114_2,hcz114_3,hfz114_0,hfz114_1,hfz114_2,hfz114_3⟩:=bq4_ BK557.out
             go_wp2_with (first|((with_reducible refine gate_callee (f:=20) rfl ?_);refine goesL_ (some 120) rfl rfl Tryz.func20 (by kernel_rfl) rfl #[.agg #[.slice A0_0 l0_0.length c0_0,.int .i64 a0_1,.int .i64 a0_2,.int .i64 a0_3],.int .i64 a1] rfl y1_ ?_;(with_reducible refine (tr_Body.calls _ _ l0_0 a0_1 a0_2 a0_3 a1 false _ ?side1 ?side2 A52.out).mono ?_);(case side1=>repeat (first|exact (Kd.C_below HR0_0.out HB.out)|(with_reducible refine Kd.C_alloc ?_ _)|(with_reducible refine Kd.C_drewN ?_ _)|(with_reducible refine Kd.C_drew ?_)));(case side2=>exact HC0_0.out);rintro e w115 ⟨rfl,hb⟩;refine ⟨_,rfl,?_⟩;have n0_:=A0_ (blk_below (g:=gb557) (o:=.cells #[.slice A0_0 l0_0.length c0_0,.int .i64 a0_1,.int .i64 a0_2,.int .i64 a0_3] 29 (0,0)) (bd_ BK557.out) hb);have n1_:=A0_ (below_step (by repeat (first|(with_reducible first|exact HB.out|apply below_alloc|apply pw_below_drewN|apply below_drew1|refine below_set ?_ GE557.out)|exact HB.out)) hb);clear BK557;clear HB;have BK557:=n0_;have HB:=n1_;clear n0_ n1_;(try clear hb);(try clear hb2);(try clear hk);(try clear hi)))
             go_ret
             exact ⟨y2_,(by repeat (first|(with_reducible first|exact HB.out|apply below_alloc|apply pw_below_drewN|apply below_drew1|refine below_set ?_ GE557.out)|exact HB.out))⟩
 ·replace c6:=Bool.eq_false_iff.mpr c6;subst c6
  have H1:((tl_known.f).bind fun t559=>(some t559))=some r:=by rw [if_neg (show ¬ (false=true) by decide)] at H;exact H
  clear H;have H:=H1;clear H1;replace H:=Option.bind_eq_some_iff.mp H;obtain ⟨t559,A1160,H⟩:=H
  replace H:(some t559)=some r:=H
  have A116:=A0_ A1160;clear A1160;obtain rfl:=Option.some.inj H
  go_enter Tryz.func8,Tryz.ntmps8
  go_wp2_with (first|((with_reducible refine gate_dst (N:=4) rfl ?_);refine box_event ?hg (N:=4) ?hd (cs:=#[.slice A0_0 l0_0.length c0_0,.int .i64 a0_1,.int .i64 a0_2,.int .i64 a0_3]) (t:=29) ?hr ?_;(case hd=>rfl);(case hg=>rfl);(case hr=>first|(go_simp;done)|(go_simp;rfl));intro gb557 hg w117 hbox hb;have n0_:=A0_ (below_step y0_ hb);have n1_:=A0_ (hbox);have n2_:=A0_ ((by rw [hg];exact (below_size y0_):w.heap.size≤gb557));have n3_:=A0_ ((by rw [hg];exact (below_size y0_):w.heap.size≤gb557));clear HB;have HB:=n0_;have BK557:=n1_;have GW557:=n2_;have GE557:=n3_;clear n0_ n1_ n2_ n3_;clear hb hbox hg;obtain ⟨hcz118_0,hcz118_1,hcz118_2,hcz118_3,hfz118_0,hfz118_1,hfz118_2,hfz118_3⟩:=bq4_ BK557.out)|((with_reducible refine gate_callee (f:=17) rfl ?_);refine goesL_ (some 20) rfl rfl Tryz.func17 (by kernel_rfl) rfl #[.agg #[.slice A0_0 l0_0.length c0_0,.int .i64 a0_1,.int .i64 a0_2,.int .i64 a0_3]] rfl y1_ ?_;(with_reducible refine (tl_short.calls k _ _ l0_0 a0_1 a0_2 a0_3 false _ ?side1 ?side2 A5.out).mono ?_);(case side1=>repeat (first|exact (Kd.C_below HR0_0.out HB.out)|(with_reducible refine Kd.C_alloc ?_ _)|(with_reducible refine Kd.C_drewN ?_ _)|(with_reducible refine Kd.C_drew ?_)));(case side2=>exact HC0_0.out);rintro e w119 ⟨rfl,hb⟩;refine ⟨_,rfl,?_⟩;have n0_:=A0_ (blk_below (g:=gb557) (o:=.cells #[.slice A0_0 l0_0.length c0_0,.int .i64 a0_1,.int .i64 a0_2,.int .i64 a0_3] 29 (0,0)) (bd_ BK557.out) hb);have n1_:=A0_ (below_step (by repeat (first|(with_reducible first|exact HB.out|apply below_alloc|apply pw_below_drewN|apply below_drew1|refine below_set ?_ GE557.out)|exact HB.out)) hb);clear BK557;clear HB;have BK557:=n0_;have HB:=n1_;clear n0_ n1_;(try clear hb);(try clear hb2);(try clear hk);(try clear hi))|((with_reducible refine gate_callee (f:=11) rfl ?_);refine goesL_ (some 22) rfl rfl Tryz.func11 (by kernel_rfl) rfl #[] rfl y1_ ?_;(with_reducible refine (tl_known.calls  t559 _ A116.out ?side1).mono ?_);(case side1=>exact LD.below HLD.out (by repeat (first|(with_reducible first|exact HB.out|apply below_alloc|apply pw_below_drewN|apply below_drew1|refine below_set ?_ GE557.out)|exact HB.out)));rintro e w120 ⟨rfl,hb⟩;refine ⟨_,rfl,?_⟩;have n0_:=A0_ (blk_below (g:=gb557) (o:=.cells #[.slice A0_0 l0_0.length c0_0,.int .i64 a0_1,.int .i64 a0_2,.int .i64 a0_3] 29 (0,0)) (bd_ BK557.out) hb);have n1_:=A0_ (below_step (by repeat (first|(with_reducible first|exact HB.out|apply below_alloc|apply pw_below_drewN|apply below_drew1|refine below_set ?_ GE557.out)|exact HB.out)) hb);clear BK557;clear HB;have BK557:=n0_;have HB:=n1_;clear n0_ n1_;(try clear hb);(try clear hb2);(try clear hk);(try clear hi)))
  go_ret
  exact ⟨y2_,(by repeat (first|(with_reducible first|exact HB.out|apply below_alloc|apply pw_below_drewN|apply below_drew1|refine below_set ?_ GE557.out)|exact HB.out))⟩
end Go.Proofs.YtjahbgldccjbfaaGreatDoor.PSky
end
section
namespace Go.Proofs.YtjahbgldccjbfaaGreatDoor.PSky
open Go.RowKit Go.Proofs.YtjahbgldccjbfaaGreatDoorW.PrintWords Go.Proofs.YtjahbgldccjbfaaGreatDoorW.PrintLast Go.Proofs.YtjahbgldccjbfaaGreatDoorW.PrintMore
theorem Check_ev (l:List S74) (p q n:Int):Ev (fun k=>sky_Check.f k l p q n) (if okSky l p q n=true then 0 else 2):=by
 unfold sky_Check.f
 refine Ev.bind (isSky_ev l p q n) ?_
 cases h:okSky l p q n with
 |false=>exact Ev.neg (by simp) (Ev.now _)
 |true=>exact Ev.pos rfl (Ev.now _)
theorem refMean_eq {b:S74} {d:Int} (h:okBody b=true) (hd:0≤d∧d≤20000):tr_Mean.f b.f0.f0 b.f0.f1 b.f1 b.f2 d=some (meanOf b d % 21600):=by
 have hm:=mean_bounds h hd
 unfold tr_Mean.f
 rw [refmean_eq h hd,Option.bind_some,Less_eq (by omega)]
 rfl
theorem refBetween_eq {l:List S74} {p q n:Int} (h:okSky l p q n=true) {i j:Int} (hi:okBodyN l i=true) (hj:okBodyN l j=true) {d:Int} (hd:0≤d∧d≤20000):tr_Between.f l p q n i j d=some (aheadI l i j d % 21600):=by
 obtain ⟨a,rfl,ha⟩:=body_at hi
 obtain ⟨b,rfl,hb⟩:=body_at hj
 have hm:=ahead_bounds h a b ha hb hd
 unfold tr_Between.f
 rw [refahead_eq h a b ha hb hd,Option.bind_some,Less_eq (by omega)]
 rfl
theorem SkyPlaces_ev (l:List S74) (p q n i j d:Int):Ev (fun k=>tl_SkyPlaces.f k l p q n i j d) true:=by
 obtain ⟨s,hs,hs6⟩:=short_ev l p q n
 unfold tl_SkyPlaces.f
 refine Ev.bind hs ?_
 cases s with
 |false=>exact Ev.neg (by simp) known_ev
 |true=>
  have hl:=hs6 rfl
  have e0:=Check_ev l p q n
  have e1:=Mean_evG l p q n i d
  have e2:=Place_evG l p q n i d
  have e3:=Node_evG l p q n d
  have e4:=Between_evG l p q n i j d
  refine Ev.pos rfl ?_
  cases h:okSky l p q n with
  |false=>
   rw [h,if_neg (by simp)] at e0 e1 e2 e3 e4
   refine Ev.bind e0 (Ev.bind e1 (Ev.bind e2 (Ev.bind e3 (Ev.bind e4 (Ev.bind (refSky_ev l p q n (by omega)) ?_)))))
   rw [h]
   refine Ev.neg (by simp) ?_
   refine Ev.step (fun k=>by rw [tl_SkyPlaces.j0]) ?_
   refine Ev.neg (by decide) (Ev.neg (by simp) ?_)
   refine Ev.step (fun k=>by rw [tl_SkyPlaces.j1]) ?_
   exact Ev.pos rfl (Ev.pos rfl (Ev.pos rfl (Ev.pos rfl (Ev.pos rfl (Ev.pos rfl (Ev.pos rfl (Ev.pos rfl (Ev.pos rfl known_ev))))))))
  |true=>
   have hk:=ok_at h
   rw [h,if_pos rfl] at e0
   cases hd:okDay d with
   |false=>
    rw [hd,if_neg (by simp)] at e1 e2 e3 e4
    refine Ev.bind e0 (Ev.bind e1 (Ev.bind e2 (Ev.bind e3 (Ev.bind e4 (Ev.bind (refSky_ev l p q n (by omega)) ?_)))))
    rw [h]
    refine Ev.pos rfl (Ev.pos rfl ?_)
    refine Ev.step (fun k=>by rw [tl_SkyPlaces.j0]) ?_
    refine Ev.neg (by simp) (Ev.pos rfl (Ev.bind (Ev.is (Day_eq d)) ?_))
    rw [hd]
    refine Ev.step (fun k=>by rw [tl_SkyPlaces.j1]) ?_
    exact Ev.pos rfl (Ev.pos rfl (Ev.pos rfl (Ev.pos rfl (Ev.pos rfl (Ev.pos rfl (Ev.pos rfl (Ev.pos rfl (Ev.pos rfl known_ev))))))))
   |true=>
    have hdd:0≤d∧d≤20000:=okIn_iff.mp hd
    rw [if_pos ⟨h,hd⟩] at e3
    cases hi:okBodyN l i with
    |false=>
     rw [hi,if_neg (by simp)] at e1 e2
     rw [show okTwo l i j=false by unfold okTwo;rw [hi];rfl,if_neg (by simp)] at e4
     refine Ev.bind e0 (Ev.bind e1 (Ev.bind e2 (Ev.bind e3 (Ev.bind e4 (Ev.bind (refSky_ev l p q n (by omega)) ?_)))))
     rw [h]
     refine Ev.pos rfl (Ev.pos rfl ?_)
     refine Ev.step (fun k=>by rw [tl_SkyPlaces.j0]) ?_
     refine Ev.neg (by simp) (Ev.pos rfl (Ev.bind (Ev.is (Day_eq d)) ?_))
     rw [hd]
     refine Ev.step (fun k=>by rw [tl_SkyPlaces.j1]) ?_
     refine Ev.neg (by simp) (Ev.pos rfl (Ev.bind (Ev.is (refnode_eq hk.2.2.1 hk.2.2.2.1 hdd)) ?_))
     refine Ev.step (fun k=>by rw [tl_SkyPlaces.j2]) ?_
     refine Ev.neg (by simp) (Ev.bind (Ev.is (Body_eq (by omega) p q n i)) ?_)
     rw [hi]
     exact Ev.neg (by simp) (Ev.pos rfl (Ev.pos rfl (Ev.pos rfl (Ev.pos rfl (Ev.pos rfl (Ev.pos rfl known_ev))))))
    |true=>
     obtain ⟨a,rfl,ha⟩:=body_at hi
     have hok:=hk.2.2.2.2 a ha
     rw [if_pos ⟨h,hi,hd⟩] at e1 e2
     have fin:∀ (v w:Int) (c:Bool),c=false→(if okTwo l (a:Int) j=true then v=aheadI l (a:Int) j d % 21600∧w=0 else v=0∧w=2)→Ev (fun k=>tl_SkyPlaces.j3 k (a:Int) j d v w c l p q n) true:=by
      intro v w c hc hv
      refine Ev.step (fun k=>by rw [tl_SkyPlaces.j3]) ?_
      refine Ev.neg (by rw [hc];simp) (Ev.bind (Ev.is (Body_eq (by omega) p q n j)) ?_)
      cases hj:okBodyN l j with
      |false=>
       rw [show okTwo l (a:Int) j=false by unfold okTwo;rw [hi,hj];rfl,if_neg (by simp)] at hv
       refine Ev.neg (by simp) ?_
       refine Ev.step (fun k=>by rw [tl_SkyPlaces.j4]) ?_
       exact Ev.pos rfl (Ev.pos hv.2 (Ev.pos hv.1 known_ev))
      |true=>
       refine Ev.pos rfl ?_
       refine Ev.step (fun k=>by rw [tl_SkyPlaces.j4]) ?_
       by_cases he:(a:Int)=j
       ·rw [show okTwo l (a:Int) j=false by unfold okTwo;rw [hi,hj];simp [he],if_neg (by simp)] at hv
        exact Ev.pos (by simp [he]) (Ev.pos hv.2 (Ev.pos hv.1 known_ev))
       ·rw [show okTwo l (a:Int) j=true by unfold okTwo;rw [hi,hj];simp [he],if_pos rfl] at hv
        exact Ev.neg (by simp [he]) (Ev.pos hv.2 (Ev.bind (Ev.is (refBetween_eq h hi hj hdd)) (Ev.pos hv.1 known_ev)))
     refine Ev.bind e0 (Ev.bind e1 (Ev.bind e2 (Ev.bind e3 (Ev.bind e4 (Ev.bind (refSky_ev l p q n (by omega)) ?_)))))
     rw [h]
     refine Ev.pos rfl (Ev.pos rfl ?_)
     refine Ev.step (fun k=>by rw [tl_SkyPlaces.j0]) ?_
     refine Ev.neg (by simp) (Ev.pos rfl (Ev.bind (Ev.is (Day_eq d)) ?_))
     rw [hd]
     refine Ev.step (fun k=>by rw [tl_SkyPlaces.j1]) ?_
     refine Ev.neg (by simp) (Ev.pos rfl (Ev.bind (Ev.is (refnode_eq hk.2.2.1 hk.2.2.2.1 hdd)) ?_))
     refine Ev.step (fun k=>by rw [tl_SkyPlaces.j2]) ?_
     refine Ev.neg (by simp) (Ev.bind (Ev.is (Body_eq (by omega) p q n (a:Int))) ?_)
     rw [hi]
     refine Ev.pos rfl (Ev.pos rfl (Ev.pos (by omega) (Ev.pos (by omega) (Ev.bind (Ev.is (refMean_eq hok hdd)) (Ev.pos rfl (Ev.pos rfl (Ev.bind (Ev.is (refplace_eq hok hdd)) (fin _ _ _ (by simp) ?_))))))))
     split <;> rename_i ht
     ·rw [if_pos ⟨rfl,ht,rfl⟩]
      exact ⟨rfl,rfl⟩
     ·rw [if_neg (fun hh=>ht hh.2.1)]
      exact ⟨rfl,rfl⟩
end Go.Proofs.YtjahbgldccjbfaaGreatDoor.PSky
end
section
namespace Go.Proofs.YtjahbgldccjbfaaGreatDoor
open Go.ChangeShapes Go.WideShapes Go.ChangeAt Go.RowKit
set_option maxRecDepth 100000 in
set_option maxHeartbeats 1600000 in
theorem skyPlaces_lifted (os:Os) (started:os.Started) (H:Type) (enc:TypeId × Value→H) (F:Stop.Interp):
  ReturnsInHanded {} Tryz.checked os 8 .any ((OpenSpec.ofChange Rows.skyPlacesSpec).preRow enc Tryz.prog Tryz.f8 Rows.skyPlacesRow.domain false Rows.skyPlacesRow.laid) (((OpenSpec.ofChange Rows.skyPlacesSpec).at F).post enc Tryz.prog Tryz.f8 false true false false):=by
 refine returnsInHanded_of_row (C:=Tryz.checked) (s:=OpenSpec.ofChange Rows.skyPlacesSpec) own started (by kernel_rfl) Tryz.func8
  (witness_row_at (enc:=enc) (C:=Tryz.checked) false (laidWorld os) #[.agg #[.slice none 0 0,.int .i64 0,.int .i64 0,.int .i64 0],.int .i64 0,.int .i64 0,.int .i64 0] rfl (by kernel_rfl) (by kernel_rfl) (by kernel_rfl) (OpenSpec.preRow_of_B rfl 8 (by kernel_rfl) (by kernel_rfl) (laid_met os _))) ?_
 intro W base args ds gs before hval0 hW _ _ hsz0 hL hsh _
 have hval:∀ (j:Nat) t v,Tryz.f8.params[j]?=some t→args[j]?=some v→Value.okWide Tryz.prog W .any base t v:=hval0
 have hW':=hW
 obtain ⟨p,q,hA0,hV,rfl,hfz,hnd⟩:=hW
 have hA:DataW.TrodAll enc Tryz.prog W 0 (fun _=>true) true Tryz.f8.params.toList args.toList ds p:=hA0
 rw [Tryz.params8] at hA hval
 obtain ⟨v0,vs0,d0,ds0,p0,q0,hargs,rfl,rfl,h0,r0⟩:=trodAll_cons hA
 obtain ⟨v1,vs1,d1,ds1,p1,q1,rfl,rfl,rfl,h1,r1⟩:=trodAll_cons r0
 obtain ⟨v2,vs2,d2,ds2,p2,q2,rfl,rfl,rfl,h2,r2⟩:=trodAll_cons r1
 obtain ⟨v3,vs3,d3,ds3,p3,q3,rfl,rfl,rfl,h3,r3⟩:=trodAll_cons r2
 obtain ⟨rfl,rfl,rfl⟩:=trodAll_nil r3
 obtain rfl:args=#[v0,v1,v2,v3]:=by cases args;simp_all
 obtain ⟨rfl,rfl⟩:=trodVars_none hV
 have k0:=h0
 have lt0:∀ x∈p0,x.block<W.heap.size:=by obtain ⟨m,hm⟩:=k0;exact DataW.trod_lt m _ _ _ hm
 obtain ⟨fuel0,hf0⟩:=h0
 obtain ⟨A0,c0,l0,a0,b0,e0,hcs0,hlc0,hC0⟩:=PSky.open_sky hf0
 obtain rfl:=agg_of hcs0 rfl
 obtain ⟨x1,rfl,rfl,rfl,w1⟩:=open_int Tryz.underlying3 (hval 1 3 v1 rfl rfl) h1
 obtain ⟨x2,rfl,rfl,rfl,w2⟩:=open_int Tryz.underlying3 (hval 2 3 v2 rfl rfl) h2
 obtain ⟨x3,rfl,rfl,rfl,w3⟩:=open_int Tryz.underlying3 (hval 3 3 v3 rfl rfl) h3
 obtain ⟨k,hk⟩:=(PSky.SkyPlaces_ev l0 a0 b0 e0 x1 x2 x3).rounds
 have hld:=ld_of hL hsh
 clear hA0 hval0 hsz0 hA hval hL hsh
 refine (PSky.tl_SkyPlaces.calls k A0 c0 l0 a0 b0 e0 x1 x2 x3 true W hC0 hlc0 hk hld).mono fun e W' ⟨he,bel⟩=>?_
 subst he
 exact ⟨_,rfl,_,_,_,[],_,[],hW',trodAll_mk1 (shut_bool Tryz.underlying4 _),(trodAll_cons_mk (Below.trod laidOut (by kernel_rfl) (of_decide_eq_true (by kernel_rfl)) k0 bel lt0) (trodAll_cons_mk (shut_int Tryz.underlying3 w1) (trodAll_cons_mk (shut_int Tryz.underlying3 w2) (trodAll_cons_mk (shut_int Tryz.underlying3 w3) trodAll_mk0)))),rfl,bel.frame _,fun h=>by cases h⟩
theorem skyPlaces_holds:Rows.SkyPlacesSaid:=
 OpenClaim.holds_of_wide 8 Tryz.f8 rfl rfl rfl rfl rfl rfl rfl ⟨rfl,rfl,rfl,rfl,rfl⟩ rfl rfl rfl rfl rfl (by kernel_rfl) Tryz.func8 (by kernel_rfl)
  (of_decide_eq_true (by kernel_rfl)) (by unfold Func.isWrapper;first|(rw [if_pos (by decide +kernel)];kernel_rfl)|(rw [if_neg (by decide +kernel)];exact ⟨rfl,rfl⟩))
  (fun os started H enc _=>skyPlaces_lifted os started H enc (fun _ _ _=>0))
end Go.Proofs.YtjahbgldccjbfaaGreatDoor
end
