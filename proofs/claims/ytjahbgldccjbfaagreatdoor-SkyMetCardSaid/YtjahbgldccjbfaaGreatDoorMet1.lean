/- A part of the proof of a law of the layer sky. -/
import Derived.Test.YtjahbgldccjbfaaGreatDoorMet0
section
namespace Go.Proofs.YtjahbgldccjbfaaGreatDoor.PSky
open Go.RowKit Go.Proofs.YtjahbgldccjbfaaGreatDoorW.PrintWords Go.Proofs.YtjahbgldccjbfaaGreatDoorW.PrintLast Go.Proofs.YtjahbgldccjbfaaGreatDoorW.PrintMore
attribute [local go_sem] max2_int min2_int max_two min_two max_three min_three max_four min_four
set_option linter.unusedVariables false
set_option linter.unusedSimpArgs false
mutual
def tl_SkyMet.j0:Nat→Int→Int→Int→Int→Int→Bool→List (S74)→Int→Int→Int→Option (Bool)
 |0,_,_,_,_,_,_,_,_,_,_=>none
 |k+1,x1,x2,x3,x4,x5,x67,x431000,x431001,x431002,x431003=>if x67=true then ((tl_known.f).bind fun t436=>(some t436)) else ((sky_Meets.f k x431000 x431001 x431002 x431003 x1 x2 x3 x4).bind fun bt437=>((sky_Meets.f k x431000 x431001 x431002 x431003 x2 x1 x3 x4).bind fun bt441=>((sky_Near.f k x431000 x431001 x431002 x431003 x1 x2 x3 x4).bind fun bt445=>((sky_Place.f k x431000 x431001 x431002 x431003 x1 x5).bind fun bt448=>((sky_Place.f k x431000 x431001 x431002 x431003 x2 x5).bind fun bt450=>(if bt437.2=0 then (if bt441.2=0 then (if bt445.2.2=0 then (if bt448.2=0 then (if bt450.2=0 then (if (bt437.1.length:Int) > 801 then (tl_SkyMet.j1 k x1 x2 x5 bt437.1 bt445.1 bt445.2.1 bt448.1 bt450.1 true x431000 x431001 x431002 x431003) else ((tr_Same.f k bt437.1 bt441.1).bind fun t452=>(if t452=true then (if bt445.1<x3 then (tl_SkyMet.j1 k x1 x2 x5 bt437.1 bt445.1 bt445.2.1 bt448.1 bt450.1 true x431000 x431001 x431002 x431003) else (if bt445.1 > x4 then (tl_SkyMet.j1 k x1 x2 x5 bt437.1 bt445.1 bt445.2.1 bt448.1 bt450.1 true x431000 x431001 x431002 x431003) else ((tr_Spot.f bt448.1).bind fun t453=>(if t453=true then ((tr_Spot.f bt450.1).bind fun t454=>(tl_SkyMet.j1 k x1 x2 x5 bt437.1 bt445.1 bt445.2.1 bt448.1 bt450.1 (!t454) x431000 x431001 x431002 x431003)) else (tl_SkyMet.j1 k x1 x2 x5 bt437.1 bt445.1 bt445.2.1 bt448.1 bt450.1 true x431000 x431001 x431002 x431003))))) else (tl_SkyMet.j1 k x1 x2 x5 bt437.1 bt445.1 bt445.2.1 bt448.1 bt450.1 true x431000 x431001 x431002 x431003)))) else (tl_SkyMet.j1 k x1 x2 x5 bt437.1 bt445.1 bt445.2.1 bt448.1 bt450.1 true x431000 x431001 x431002 x431003)) else (tl_SkyMet.j1 k x1 x2 x5 bt437.1 bt445.1 bt445.2.1 bt448.1 bt450.1 true x431000 x431001 x431002 x431003)) else (tl_SkyMet.j1 k x1 x2 x5 bt437.1 bt445.1 bt445.2.1 bt448.1 bt450.1 true x431000 x431001 x431002 x431003)) else (tl_SkyMet.j1 k x1 x2 x5 bt437.1 bt445.1 bt445.2.1 bt448.1 bt450.1 true x431000 x431001 x431002 x431003)) else (tl_SkyMet.j1 k x1 x2 x5 bt437.1 bt445.1 bt445.2.1 bt448.1 bt450.1 true x431000 x431001 x431002 x431003)))))))
def tl_SkyMet.j1:Nat→Int→Int→Int→List Int→Int→Int→Int→Int→Bool→List (S74)→Int→Int→Int→Option (Bool)
 |0,_,_,_,_,_,_,_,_,_,_,_,_,_=>none
 |k+1,x1,x2,x5,x13,x17,x18,x20,x22,x159,x431000,x431001,x431002,x431003=>if x159=true then (some false) else ((tl_has.f k x13 x5).bind fun t455=>((tl_crossed.f k x431000 x431001 x431002 x431003 x1 x2 x5 0).bind fun t456=>(if t456=true then (tl_SkyMet.j2 k x1 x2 x5 x13 x17 x18 x20 x22 (t455 != true) x431000 x431001 x431002 x431003) else ((tl_crossed.f k x431000 x431001 x431002 x431003 x2 x1 x5 0).bind fun t457=>(tl_SkyMet.j2 k x1 x2 x5 x13 x17 x18 x20 x22 (t455 != t457) x431000 x431001 x431002 x431003)))))
def tl_SkyMet.j2:Nat→Int→Int→Int→List Int→Int→Int→Int→Int→Bool→List (S74)→Int→Int→Int→Option (Bool)
 |0,_,_,_,_,_,_,_,_,_,_,_,_,_=>none
 |k+1,x1,x2,x5,x13,x17,x18,x20,x22,x175,x431000,x431001,x431002,x431003=>if x175=true then (some false) else ((tr_Apart.f x20 x22).bind fun t458=>(if t458<x18 then (tl_SkyMet.j3 k x1 x2 x5 x13 true x431000 x431001 x431002 x431003) else (if t458=x18 then (if x5<x17 then (tl_SkyMet.j3 k x1 x2 x5 x13 true x431000 x431001 x431002 x431003) else (if x5=x17 then (tl_SkyMet.j3 k x1 x2 x5 x13 (t458 != x18) x431000 x431001 x431002 x431003) else (tl_SkyMet.j3 k x1 x2 x5 x13 false x431000 x431001 x431002 x431003))) else (if x5=x17 then (tl_SkyMet.j3 k x1 x2 x5 x13 (t458 != x18) x431000 x431001 x431002 x431003) else (tl_SkyMet.j3 k x1 x2 x5 x13 false x431000 x431001 x431002 x431003)))))
def tl_SkyMet.j3:Nat→Int→Int→Int→List Int→Bool→List (S74)→Int→Int→Int→Option (Bool)
 |0,_,_,_,_,_,_,_,_,_=>none
 |k+1,x1,x2,x5,x13,x201,x431000,x431001,x431002,x431003=>if x201=true then (some false) else (if x1 > 1 then (tl_SkyMet.j4 k x5 x13 true x431000 x431001 x431002 x431003) else (tl_SkyMet.j4 k x5 x13 (decide (x2 > 1)) x431000 x431001 x431002 x431003))
def tl_SkyMet.j4:Nat→Int→List Int→Bool→List (S74)→Int→Int→Int→Option (Bool)
 |0,_,_,_,_,_,_,_=>none
 |k+1,x5,x13,x207,x431000,x431001,x431002,x431003=>if x207=true then ((tl_known.f).bind fun t459=>(some t459)) else ((sky_Moons.f k x431000 x431001 x431002 x431003 x5 x5).bind fun bt460=>(if bt460.2=0 then (if (bt460.1.length:Int)≤2 then ((tl_listed.f k bt460.1 x5 false).bind fun t464=>(if t464=true then ((tl_has.f k x13 x5).bind fun t465=>(if t465=true then ((tl_known.f).bind fun t466=>(some t466)) else (some false))) else ((tl_known.f).bind fun t467=>(some t467)))) else (some false)) else (some false)))
end
def tl_SkyMet.f (k:Nat) (l0_0:List (S74)) (a0_1:Int) (a0_2:Int) (a0_3:Int) (a1:Int) (a2:Int) (a3:Int) (a4:Int) (a5:Int):Option (Bool):=(tl_short.f k l0_0 a0_1 a0_2 a0_3).bind fun t431=>(if t431=true then ((tr_Sky.f k l0_0 a0_1 a0_2 a0_3).bind fun t432=>(if t432=true then ((tr_Body.f l0_0 a0_1 a0_2 a0_3 a1).bind fun t433=>(if t433=true then ((tr_Body.f l0_0 a0_1 a0_2 a0_3 a2).bind fun t434=>(if t434=true then (if a1=a2 then (tl_SkyMet.j0 k a1 a2 a3 a4 a5 true l0_0 a0_1 a0_2 a0_3) else ((tr_Span.f a3 a4).bind fun t435=>(if t435=true then (if a5<a3 then (tl_SkyMet.j0 k a1 a2 a3 a4 a5 true l0_0 a0_1 a0_2 a0_3) else (tl_SkyMet.j0 k a1 a2 a3 a4 a5 (decide (a5 > a4)) l0_0 a0_1 a0_2 a0_3)) else (tl_SkyMet.j0 k a1 a2 a3 a4 a5 true l0_0 a0_1 a0_2 a0_3)))) else (tl_SkyMet.j0 k a1 a2 a3 a4 a5 true l0_0 a0_1 a0_2 a0_3))) else (tl_SkyMet.j0 k a1 a2 a3 a4 a5 true l0_0 a0_1 a0_2 a0_3))) else (tl_SkyMet.j0 k a1 a2 a3 a4 a5 true l0_0 a0_1 a0_2 a0_3))) else (tl_SkyMet.j0 k a1 a2 a3 a4 a5 true l0_0 a0_1 a0_2 a0_3))
def tl_SkyMet.T10:Bool × List (List Nat × List Nat):=(true,[([],[]),([],[]),([0,1],[0,1]),([],[]),([],[]),([],[]),([],[]),([3,4,5,6,2],[3,4,5,6]),([7,7],[7]),([8],[8]),([8],[8]),([8],[8]),([8],[8]),([9,10,11,12,8,8],[8,9,10,11,12]),([8,13],[8,13]),([2,14],[2,14])])
def tl_SkyMet.B10:List Nat:=[0,0,3,0,0,0,0,127,255,511,511,511,511,8191,16383,32767]
theorem tl_SkyMet.tab10:rtab .any (opsOf Tryz.f5 10)=tl_SkyMet.T10:=by kernel_rfl
theorem tl_SkyMet.bits10:waitsOk tl_SkyMet.T10.2 tl_SkyMet.B10=true:=by kernel_rfl
set_option maxHeartbeats 8000000 in
set_option maxRecDepth 100000 in
theorem tl_SkyMet.calls (k:Nat) (A0_0:Option Addr) (c0_0:Nat) (l0_0:List (S74)) (a0_1:Int) (a0_2:Int) (a0_3:Int) (a1:Int) (a2:Int) (a3:Int) (a4:Int) (a5:Int) (r:Bool) (w:World) (hr0_0:Kd.C k74 w A0_0 l0_0.length l0_0) (hc0_0:l0_0.length≤c0_0) (h:tl_SkyMet.f k l0_0 a0_1 a0_2 a0_3 a1 a2 a3 a4 a5=some r) (hLD:LD w):
  Calls Tryz.prog 5 #[.agg #[.slice A0_0 l0_0.length c0_0,.int .i64 a0_1,.int .i64 a0_2,.int .i64 a0_3],.int .i64 a1,.int .i64 a2,.int .i64 a3,.int .i64 a4,.int .i64 a5] w fun e w'=>e=.returned (.bool r)∧Below w.heap.size w w':=by
 have HLD:=A0_ hLD;clear hLD
 have hu29:=Tryz.underlying29
 have HR0_0:=A0_ hr0_0;have HC0_0:=A0_ hc0_0;clear hr0_0 hc0_0
 have HB:=A0_ (Below.refl w.heap.size w)
 have H:((tl_short.f k l0_0 a0_1 a0_2 a0_3).bind fun t431=>(if t431=true then ((tr_Sky.f k l0_0 a0_1 a0_2 a0_3).bind fun t432=>(if t432=true then ((tr_Body.f l0_0 a0_1 a0_2 a0_3 a1).bind fun t433=>(if t433=true then ((tr_Body.f l0_0 a0_1 a0_2 a0_3 a2).bind fun t434=>(if t434=true then (if a1=a2 then (tl_SkyMet.j0 k a1 a2 a3 a4 a5 true l0_0 a0_1 a0_2 a0_3) else ((tr_Span.f a3 a4).bind fun t435=>(if t435=true then (if a5<a3 then (tl_SkyMet.j0 k a1 a2 a3 a4 a5 true l0_0 a0_1 a0_2 a0_3) else (tl_SkyMet.j0 k a1 a2 a3 a4 a5 (decide (a5 > a4)) l0_0 a0_1 a0_2 a0_3)) else (tl_SkyMet.j0 k a1 a2 a3 a4 a5 true l0_0 a0_1 a0_2 a0_3)))) else (tl_SkyMet.j0 k a1 a2 a3 a4 a5 true l0_0 a0_1 a0_2 a0_3))) else (tl_SkyMet.j0 k a1 a2 a3 a4 a5 true l0_0 a0_1 a0_2 a0_3))) else (tl_SkyMet.j0 k a1 a2 a3 a4 a5 true l0_0 a0_1 a0_2 a0_3))) else (tl_SkyMet.j0 k a1 a2 a3 a4 a5 true l0_0 a0_1 a0_2 a0_3)))=some r:=h
 clear h;have HC7:=A0_ H;clear H
 go_enter Tryz.func5,Tryz.ntmps5
 go_upto_region 1 with (first|((with_reducible refine gate_dst (N:=6) rfl ?_);(try (refine gate_guard (by rfl) ?_;dsimp only));refine box_event ?hg (N:=6) ?hd (cs:=#[.slice A0_0 l0_0.length c0_0,.int .i64 a0_1,.int .i64 a0_2,.int .i64 a0_3]) (t:=29) ?hr ?_;(case hd=>rfl);(case hg=>rfl);(case hr=>first|(go_simp;done)|(go_simp;rfl));intro gb430 hg w8 hbox hb;have n0_:=A0_ (below_step y0_ hb);have n1_:=A0_ (hbox);have n2_:=A0_ ((by rw [hg];exact (below_size y0_):w.heap.size≤gb430));have n3_:=A0_ ((by rw [hg];exact (below_size y0_):w.heap.size≤gb430));clear HB;have HB:=n0_;have BK430:=n1_;have GW430:=n2_;have GE430:=n3_;clear n0_ n1_ n2_ n3_;clear hb hbox hg))
 (try simp only [Act.put,List.setIfInBounds_toArray,List.set_cons_zero,List.set_cons_succ])
 go_cut [67] (fun v67 wc=>∃ (kq:Nat) (x67_6:Bool),v67=.bool x67_6∧Aside0 (tl_SkyMet.j0 kq a1 a2 a3 a4 a5 x67_6 l0_0 a0_1 a0_2 a0_3=some r)∧Aside0 (kq≤k)∧Aside0 (wc.heap[gb430]?=some (.cells #[(.slice A0_0 l0_0.length c0_0),.int .i64 a0_1,.int .i64 a0_2,.int .i64 a0_3] 29 (0,0)))∧Aside0 (Below w.heap.size w wc))
 case first=>
  have H:=HC7.out
  clear HC7;replace H:=Option.bind_eq_some_iff.mp H;obtain ⟨t431,A90,H⟩:=H
  replace H:(if t431=true then ((tr_Sky.f k l0_0 a0_1 a0_2 a0_3).bind fun t432=>(if t432=true then ((tr_Body.f l0_0 a0_1 a0_2 a0_3 a1).bind fun t433=>(if t433=true then ((tr_Body.f l0_0 a0_1 a0_2 a0_3 a2).bind fun t434=>(if t434=true then (if a1=a2 then (tl_SkyMet.j0 k a1 a2 a3 a4 a5 true l0_0 a0_1 a0_2 a0_3) else ((tr_Span.f a3 a4).bind fun t435=>(if t435=true then (if a5<a3 then (tl_SkyMet.j0 k a1 a2 a3 a4 a5 true l0_0 a0_1 a0_2 a0_3) else (tl_SkyMet.j0 k a1 a2 a3 a4 a5 (decide (a5 > a4)) l0_0 a0_1 a0_2 a0_3)) else (tl_SkyMet.j0 k a1 a2 a3 a4 a5 true l0_0 a0_1 a0_2 a0_3)))) else (tl_SkyMet.j0 k a1 a2 a3 a4 a5 true l0_0 a0_1 a0_2 a0_3))) else (tl_SkyMet.j0 k a1 a2 a3 a4 a5 true l0_0 a0_1 a0_2 a0_3))) else (tl_SkyMet.j0 k a1 a2 a3 a4 a5 true l0_0 a0_1 a0_2 a0_3))) else (tl_SkyMet.j0 k a1 a2 a3 a4 a5 true l0_0 a0_1 a0_2 a0_3))=some r:=H
  have A9:=A0_ A90;clear A90
  by_cases c10:t431=true
  ·subst c10
   have H1:((tr_Sky.f k l0_0 a0_1 a0_2 a0_3).bind fun t432=>(if t432=true then ((tr_Body.f l0_0 a0_1 a0_2 a0_3 a1).bind fun t433=>(if t433=true then ((tr_Body.f l0_0 a0_1 a0_2 a0_3 a2).bind fun t434=>(if t434=true then (if a1=a2 then (tl_SkyMet.j0 k a1 a2 a3 a4 a5 true l0_0 a0_1 a0_2 a0_3) else ((tr_Span.f a3 a4).bind fun t435=>(if t435=true then (if a5<a3 then (tl_SkyMet.j0 k a1 a2 a3 a4 a5 true l0_0 a0_1 a0_2 a0_3) else (tl_SkyMet.j0 k a1 a2 a3 a4 a5 (decide (a5 > a4)) l0_0 a0_1 a0_2 a0_3)) else (tl_SkyMet.j0 k a1 a2 a3 a4 a5 true l0_0 a0_1 a0_2 a0_3)))) else (tl_SkyMet.j0 k a1 a2 a3 a4 a5 true l0_0 a0_1 a0_2 a0_3))) else (tl_SkyMet.j0 k a1 a2 a3 a4 a5 true l0_0 a0_1 a0_2 a0_3))) else (tl_SkyMet.j0 k a1 a2 a3 a4 a5 true l0_0 a0_1 a0_2 a0_3)))=some r:=by rw [if_pos rfl] at H;exact H
   clear H;have H:=H1;clear H1;replace H:=Option.bind_eq_some_iff.mp H;obtain ⟨t432,A110,H⟩:=H
   replace H:(if t432=true then ((tr_Body.f l0_0 a0_1 a0_2 a0_3 a1).bind fun t433=>(if t433=true then ((tr_Body.f l0_0 a0_1 a0_2 a0_3 a2).bind fun t434=>(if t434=true then (if a1=a2 then (tl_SkyMet.j0 k a1 a2 a3 a4 a5 true l0_0 a0_1 a0_2 a0_3) else ((tr_Span.f a3 a4).bind fun t435=>(if t435=true then (if a5<a3 then (tl_SkyMet.j0 k a1 a2 a3 a4 a5 true l0_0 a0_1 a0_2 a0_3) else (tl_SkyMet.j0 k a1 a2 a3 a4 a5 (decide (a5 > a4)) l0_0 a0_1 a0_2 a0_3)) else (tl_SkyMet.j0 k a1 a2 a3 a4 a5 true l0_0 a0_1 a0_2 a0_3)))) else (tl_SkyMet.j0 k a1 a2 a3 a4 a5 true l0_0 a0_1 a0_2 a0_3))) else (tl_SkyMet.j0 k a1 a2 a3 a4 a5 true l0_0 a0_1 a0_2 a0_3))) else (tl_SkyMet.j0 k a1 a2 a3 a4 a5 true l0_0 a0_1 a0_2 a0_3))=some r:=H
   have A11:=A0_ A110;clear A110
   by_cases c12:t432=true
   ·subst c12
    have H1:((tr_Body.f l0_0 a0_1 a0_2 a0_3 a1).bind fun t433=>(if t433=true then ((tr_Body.f l0_0 a0_1 a0_2 a0_3 a2).bind fun t434=>(if t434=true then (if a1=a2 then (tl_SkyMet.j0 k a1 a2 a3 a4 a5 true l0_0 a0_1 a0_2 a0_3) else ((tr_Span.f a3 a4).bind fun t435=>(if t435=true then (if a5<a3 then (tl_SkyMet.j0 k a1 a2 a3 a4 a5 true l0_0 a0_1 a0_2 a0_3) else (tl_SkyMet.j0 k a1 a2 a3 a4 a5 (decide (a5 > a4)) l0_0 a0_1 a0_2 a0_3)) else (tl_SkyMet.j0 k a1 a2 a3 a4 a5 true l0_0 a0_1 a0_2 a0_3)))) else (tl_SkyMet.j0 k a1 a2 a3 a4 a5 true l0_0 a0_1 a0_2 a0_3))) else (tl_SkyMet.j0 k a1 a2 a3 a4 a5 true l0_0 a0_1 a0_2 a0_3)))=some r:=by rw [if_pos rfl] at H;exact H
    clear H;have H:=H1;clear H1;replace H:=Option.bind_eq_some_iff.mp H;obtain ⟨t433,A130,H⟩:=H
    replace H:(if t433=true then ((tr_Body.f l0_0 a0_1 a0_2 a0_3 a2).bind fun t434=>(if t434=true then (if a1=a2 then (tl_SkyMet.j0 k a1 a2 a3 a4 a5 true l0_0 a0_1 a0_2 a0_3) else ((tr_Span.f a3 a4).bind fun t435=>(if t435=true then (if a5<a3 then (tl_SkyMet.j0 k a1 a2 a3 a4 a5 true l0_0 a0_1 a0_2 a0_3) else (tl_SkyMet.j0 k a1 a2 a3 a4 a5 (decide (a5 > a4)) l0_0 a0_1 a0_2 a0_3)) else (tl_SkyMet.j0 k a1 a2 a3 a4 a5 true l0_0 a0_1 a0_2 a0_3)))) else (tl_SkyMet.j0 k a1 a2 a3 a4 a5 true l0_0 a0_1 a0_2 a0_3))) else (tl_SkyMet.j0 k a1 a2 a3 a4 a5 true l0_0 a0_1 a0_2 a0_3))=some r:=H
    have A13:=A0_ A130;clear A130
    by_cases c14:t433=true
    ·subst c14
     have H1:((tr_Body.f l0_0 a0_1 a0_2 a0_3 a2).bind fun t434=>(if t434=true then (if a1=a2 then (tl_SkyMet.j0 k a1 a2 a3 a4 a5 true l0_0 a0_1 a0_2 a0_3) else ((tr_Span.f a3 a4).bind fun t435=>(if t435=true then (if a5<a3 then (tl_SkyMet.j0 k a1 a2 a3 a4 a5 true l0_0 a0_1 a0_2 a0_3) else (tl_SkyMet.j0 k a1 a2 a3 a4 a5 (decide (a5 > a4)) l0_0 a0_1 a0_2 a0_3)) else (tl_SkyMet.j0 k a1 a2 a3 a4 a5 true l0_0 a0_1 a0_2 a0_3)))) else (tl_SkyMet.j0 k a1 a2 a3 a4 a5 true l0_0 a0_1 a0_2 a0_3)))=some r:=by rw [if_pos rfl] at H;exact H
     clear H;have H:=H1;clear H1;replace H:=Option.bind_eq_some_iff.mp H;obtain ⟨t434,A150,H⟩:=H
     replace H:(if t434=true then (if a1=a2 then (tl_SkyMet.j0 k a1 a2 a3 a4 a5 true l0_0 a0_1 a0_2 a0_3) else ((tr_Span.f a3 a4).bind fun t435=>(if t435=true then (if a5<a3 then (tl_SkyMet.j0 k a1 a2 a3 a4 a5 true l0_0 a0_1 a0_2 a0_3) else (tl_SkyMet.j0 k a1 a2 a3 a4 a5 (decide (a5 > a4)) l0_0 a0_1 a0_2 a0_3)) else (tl_SkyMet.j0 k a1 a2 a3 a4 a5 true l0_0 a0_1 a0_2 a0_3)))) else (tl_SkyMet.j0 k a1 a2 a3 a4 a5 true l0_0 a0_1 a0_2 a0_3))=some r:=H
     have A15:=A0_ A150;clear A150
     by_cases c16:t434=true
     ·subst c16
      have H1:(if a1=a2 then (tl_SkyMet.j0 k a1 a2 a3 a4 a5 true l0_0 a0_1 a0_2 a0_3) else ((tr_Span.f a3 a4).bind fun t435=>(if t435=true then (if a5<a3 then (tl_SkyMet.j0 k a1 a2 a3 a4 a5 true l0_0 a0_1 a0_2 a0_3) else (tl_SkyMet.j0 k a1 a2 a3 a4 a5 (decide (a5 > a4)) l0_0 a0_1 a0_2 a0_3)) else (tl_SkyMet.j0 k a1 a2 a3 a4 a5 true l0_0 a0_1 a0_2 a0_3))))=some r:=by rw [if_pos rfl] at H;exact H
      clear H;have H:=H1;clear H1
      by_cases c17:a1=a2
      ·as_aux_lemma=>
       rw [if_pos c17] at H
       have c17b0:(a1 == a2)=true:=beq_iff_eq.mpr c17
       have c17b1:(a1 != a2)=false:=bne_eq_false_iff_eq.mpr c17
       clear c17
       (first|rw [c17b0]|(simp only [i64_w,i32_w];rw [c17b0])|skip)
       have H':=A0_ H
       clear H;obtain ⟨hcz18_0,hcz18_1,hcz18_2,hcz18_3,hfz18_0,hfz18_1,hfz18_2,hfz18_3⟩:=bq4_ BK430.out
       go_wp2_with (first|((with_reducible refine gate_callee (f:=17) rfl ?_);refine goesL_ (some 28) rfl rfl Tryz.func17 (by kernel_rfl) rfl #[.agg #[.slice A0_0 l0_0.length c0_0,.int .i64 a0_1,.int .i64 a0_2,.int .i64 a0_3]] rfl y1_ ?_;(with_reducible refine (tl_short.calls k _ _ l0_0 a0_1 a0_2 a0_3 true _ ?side1 ?side2 A9.out).mono ?_);(case side1=>repeat (first|exact (Kd.C_below HR0_0.out HB.out)|(with_reducible refine Kd.C_alloc ?_ _)|(with_reducible refine Kd.C_drewN ?_ _)|(with_reducible refine Kd.C_drew ?_)));(case side2=>exact HC0_0.out);rintro e w19 ⟨rfl,hb⟩;refine ⟨_,rfl,?_⟩;have n0_:=A0_ (blk_below (g:=gb430) (o:=.cells #[.slice A0_0 l0_0.length c0_0,.int .i64 a0_1,.int .i64 a0_2,.int .i64 a0_3] 29 (0,0)) (bd_ BK430.out) hb);have n1_:=A0_ (below_step (by repeat (first|(with_reducible first|exact HB.out|apply below_alloc|apply pw_below_drewN|apply below_drew1|refine below_set ?_ GE430.out)|exact HB.out)) hb);clear BK430;clear HB;have BK430:=n0_;have HB:=n1_;clear n0_ n1_;(try clear hb);(try clear hb2);(try clear hk);(try clear hi);obtain ⟨hcz20_0,hcz20_1,hcz20_2,hcz20_3,hfz20_0,hfz20_1,hfz20_2,hfz20_3⟩:=bq4_ BK430.out)|(go_at_call 14;(with_reducible refine (tr_Sky.calls k _ _ l0_0 a0_1 a0_2 a0_3 true _ ?side1 ?side2 A11.out).mono ?_);(case side1=>repeat (first|exact (Kd.C_below HR0_0.out HB.out)|(with_reducible refine Kd.C_alloc ?_ _)|(with_reducible refine Kd.C_drewN ?_ _)|(with_reducible refine Kd.C_drew ?_)));(case side2=>exact HC0_0.out);rintro e w21 ⟨rfl,hb⟩;have n0_:=A0_ (blk_below (g:=gb430) (o:=.cells #[.slice A0_0 l0_0.length c0_0,.int .i64 a0_1,.int .i64 a0_2,.int .i64 a0_3] 29 (0,0)) (bd_ BK430.out) hb);have n1_:=A0_ (below_step (by repeat (first|(with_reducible first|exact HB.out|apply below_alloc|apply pw_below_drewN|apply below_drew1|refine below_set ?_ GE430.out)|exact HB.out)) hb);clear BK430;clear HB;have BK430:=n0_;have HB:=n1_;clear n0_ n1_;(try clear hb);(try clear hb2);(try clear hk);(try clear hi);obtain ⟨hcz22_0,hcz22_1,hcz22_2,hcz22_3,hfz22_0,hfz22_1,hfz22_2,hfz22_3⟩:=bq4_ BK430.out)|(go_at_call 20;(with_reducible refine (tr_Body.calls _ _ l0_0 a0_1 a0_2 a0_3 a1 true _ ?side1 ?side2 A13.out).mono ?_);(case side1=>repeat (first|exact (Kd.C_below HR0_0.out HB.out)|(with_reducible refine Kd.C_alloc ?_ _)|(with_reducible refine Kd.C_drewN ?_ _)|(with_reducible refine Kd.C_drew ?_)));(case side2=>exact HC0_0.out);rintro e w23 ⟨rfl,hb⟩;have n0_:=A0_ (blk_below (g:=gb430) (o:=.cells #[.slice A0_0 l0_0.length c0_0,.int .i64 a0_1,.int .i64 a0_2,.int .i64 a0_3] 29 (0,0)) (bd_ BK430.out) hb);have n1_:=A0_ (below_step (by repeat (first|(with_reducible first|exact HB.out|apply below_alloc|apply pw_below_drewN|apply below_drew1|refine below_set ?_ GE430.out)|exact HB.out)) hb);clear BK430;clear HB;have BK430:=n0_;have HB:=n1_;clear n0_ n1_;(try clear hb);(try clear hb2);(try clear hk);(try clear hi);obtain ⟨hcz24_0,hcz24_1,hcz24_2,hcz24_3,hfz24_0,hfz24_1,hfz24_2,hfz24_3⟩:=bq4_ BK430.out)|(go_at_call 20;(with_reducible refine (tr_Body.calls _ _ l0_0 a0_1 a0_2 a0_3 a2 true _ ?side1 ?side2 A15.out).mono ?_);(case side1=>repeat (first|exact (Kd.C_below HR0_0.out HB.out)|(with_reducible refine Kd.C_alloc ?_ _)|(with_reducible refine Kd.C_drewN ?_ _)|(with_reducible refine Kd.C_drew ?_)));(case side2=>exact HC0_0.out);rintro e w25 ⟨rfl,hb⟩;have n0_:=A0_ (blk_below (g:=gb430) (o:=.cells #[.slice A0_0 l0_0.length c0_0,.int .i64 a0_1,.int .i64 a0_2,.int .i64 a0_3] 29 (0,0)) (bd_ BK430.out) hb);have n1_:=A0_ (below_step (by repeat (first|(with_reducible first|exact HB.out|apply below_alloc|apply pw_below_drewN|apply below_drew1|refine below_set ?_ GE430.out)|exact HB.out)) hb);clear BK430;clear HB;have BK430:=n0_;have HB:=n1_;clear n0_ n1_;(try clear hb);(try clear hb2);(try clear hk);(try clear hi)))
       go_meet
       case rel=>exact ⟨_,(true),y4_,H',⟨by first|omega|exact Nat.le_refl _⟩,⟨by (with_reducible repeat (first|refine blk_drewN ?_ _|refine blk_drew ?_|refine blk_alloc ?_ _));exact BK430.out⟩,⟨(by repeat (first|(with_reducible first|exact HB.out|apply below_alloc|apply pw_below_drewN|apply below_drew1|refine below_set ?_ GE430.out)|exact HB.out))⟩⟩
      ·as_aux_lemma=>
       rw [if_neg c17] at H
       have c17b0:(a1 == a2)=false:=beq_eq_false_iff_ne.mpr c17
       have c17b1:(a1 != a2)=true:=bne_iff_ne.mpr c17
       (first|rw [c17b0]|(simp only [i64_w,i32_w];rw [c17b0])|skip)
       replace H:=Option.bind_eq_some_iff.mp H;obtain ⟨t435,A260,H⟩:=H
       replace H:(if t435=true then (if a5<a3 then (tl_SkyMet.j0 k a1 a2 a3 a4 a5 true l0_0 a0_1 a0_2 a0_3) else (tl_SkyMet.j0 k a1 a2 a3 a4 a5 (decide (a5 > a4)) l0_0 a0_1 a0_2 a0_3)) else (tl_SkyMet.j0 k a1 a2 a3 a4 a5 true l0_0 a0_1 a0_2 a0_3))=some r:=H
       have A26:=A0_ A260;clear A260
       by_cases c27:t435=true
       ·subst c27
        have H1:(if a5<a3 then (tl_SkyMet.j0 k a1 a2 a3 a4 a5 true l0_0 a0_1 a0_2 a0_3) else (tl_SkyMet.j0 k a1 a2 a3 a4 a5 (decide (a5 > a4)) l0_0 a0_1 a0_2 a0_3))=some r:=by rw [if_pos rfl] at H;exact H
        clear H;have H:=H1;clear H1
        by_cases c28:a5<a3
        ·rw [if_pos c28] at H;have c28b0:decide (a5<a3)=true:=decide_eq_true c28;clear c28
         have H':=A0_ H
         clear H;obtain ⟨hcz29_0,hcz29_1,hcz29_2,hcz29_3,hfz29_0,hfz29_1,hfz29_2,hfz29_3⟩:=bq4_ BK430.out
         go_wp2_with (first|((with_reducible refine gate_callee (f:=17) rfl ?_);refine goesL_ (some 28) rfl rfl Tryz.func17 (by kernel_rfl) rfl #[.agg #[.slice A0_0 l0_0.length c0_0,.int .i64 a0_1,.int .i64 a0_2,.int .i64 a0_3]] rfl y1_ ?_;(with_reducible refine (tl_short.calls k _ _ l0_0 a0_1 a0_2 a0_3 true _ ?side1 ?side2 A9.out).mono ?_);(case side1=>repeat (first|exact (Kd.C_below HR0_0.out HB.out)|(with_reducible refine Kd.C_alloc ?_ _)|(with_reducible refine Kd.C_drewN ?_ _)|(with_reducible refine Kd.C_drew ?_)));(case side2=>exact HC0_0.out);rintro e w30 ⟨rfl,hb⟩;refine ⟨_,rfl,?_⟩;have n0_:=A0_ (blk_below (g:=gb430) (o:=.cells #[.slice A0_0 l0_0.length c0_0,.int .i64 a0_1,.int .i64 a0_2,.int .i64 a0_3] 29 (0,0)) (bd_ BK430.out) hb);have n1_:=A0_ (below_step (by repeat (first|(with_reducible first|exact HB.out|apply below_alloc|apply pw_below_drewN|apply below_drew1|refine below_set ?_ GE430.out)|exact HB.out)) hb);clear BK430;clear HB;have BK430:=n0_;have HB:=n1_;clear n0_ n1_;(try clear hb);(try clear hb2);(try clear hk);(try clear hi);obtain ⟨hcz31_0,hcz31_1,hcz31_2,hcz31_3,hfz31_0,hfz31_1,hfz31_2,hfz31_3⟩:=bq4_ BK430.out)|(go_at_call 14;(with_reducible refine (tr_Sky.calls k _ _ l0_0 a0_1 a0_2 a0_3 true _ ?side1 ?side2 A11.out).mono ?_);(case side1=>repeat (first|exact (Kd.C_below HR0_0.out HB.out)|(with_reducible refine Kd.C_alloc ?_ _)|(with_reducible refine Kd.C_drewN ?_ _)|(with_reducible refine Kd.C_drew ?_)));(case side2=>exact HC0_0.out);rintro e w32 ⟨rfl,hb⟩;have n0_:=A0_ (blk_below (g:=gb430) (o:=.cells #[.slice A0_0 l0_0.length c0_0,.int .i64 a0_1,.int .i64 a0_2,.int .i64 a0_3] 29 (0,0)) (bd_ BK430.out) hb);have n1_:=A0_ (below_step (by repeat (first|(with_reducible first|exact HB.out|apply below_alloc|apply pw_below_drewN|apply below_drew1|refine below_set ?_ GE430.out)|exact HB.out)) hb);clear BK430;clear HB;have BK430:=n0_;have HB:=n1_;clear n0_ n1_;(try clear hb);(try clear hb2);(try clear hk);(try clear hi);obtain ⟨hcz33_0,hcz33_1,hcz33_2,hcz33_3,hfz33_0,hfz33_1,hfz33_2,hfz33_3⟩:=bq4_ BK430.out)|(go_at_call 20;(with_reducible refine (tr_Body.calls _ _ l0_0 a0_1 a0_2 a0_3 a1 true _ ?side1 ?side2 A13.out).mono ?_);(case side1=>repeat (first|exact (Kd.C_below HR0_0.out HB.out)|(with_reducible refine Kd.C_alloc ?_ _)|(with_reducible refine Kd.C_drewN ?_ _)|(with_reducible refine Kd.C_drew ?_)));(case side2=>exact HC0_0.out);rintro e w34 ⟨rfl,hb⟩;have n0_:=A0_ (blk_below (g:=gb430) (o:=.cells #[.slice A0_0 l0_0.length c0_0,.int .i64 a0_1,.int .i64 a0_2,.int .i64 a0_3] 29 (0,0)) (bd_ BK430.out) hb);have n1_:=A0_ (below_step (by repeat (first|(with_reducible first|exact HB.out|apply below_alloc|apply pw_below_drewN|apply below_drew1|refine below_set ?_ GE430.out)|exact HB.out)) hb);clear BK430;clear HB;have BK430:=n0_;have HB:=n1_;clear n0_ n1_;(try clear hb);(try clear hb2);(try clear hk);(try clear hi);obtain ⟨hcz35_0,hcz35_1,hcz35_2,hcz35_3,hfz35_0,hfz35_1,hfz35_2,hfz35_3⟩:=bq4_ BK430.out)|(go_at_call 20;(with_reducible refine (tr_Body.calls _ _ l0_0 a0_1 a0_2 a0_3 a2 true _ ?side1 ?side2 A15.out).mono ?_);(case side1=>repeat (first|exact (Kd.C_below HR0_0.out HB.out)|(with_reducible refine Kd.C_alloc ?_ _)|(with_reducible refine Kd.C_drewN ?_ _)|(with_reducible refine Kd.C_drew ?_)));(case side2=>exact HC0_0.out);rintro e w36 ⟨rfl,hb⟩;have n0_:=A0_ (blk_below (g:=gb430) (o:=.cells #[.slice A0_0 l0_0.length c0_0,.int .i64 a0_1,.int .i64 a0_2,.int .i64 a0_3] 29 (0,0)) (bd_ BK430.out) hb);have n1_:=A0_ (below_step (by repeat (first|(with_reducible first|exact HB.out|apply below_alloc|apply pw_below_drewN|apply below_drew1|refine below_set ?_ GE430.out)|exact HB.out)) hb);clear BK430;clear HB;have BK430:=n0_;have HB:=n1_;clear n0_ n1_;(try clear hb);(try clear hb2);(try clear hk);(try clear hi))|(go_at_call 21;(with_reducible refine (tr_Span.calls a3 a4 true _ A26.out).mono ?_);rintro e w' ⟨rfl,⟨nd,rfl⟩⟩))
         go_meet
         case rel=>exact ⟨_,(true),y4_,H',⟨by first|omega|exact Nat.le_refl _⟩,⟨by (with_reducible repeat (first|refine blk_drewN ?_ _|refine blk_drew ?_|refine blk_alloc ?_ _));exact BK430.out⟩,⟨(by repeat (first|(with_reducible first|exact HB.out|apply below_alloc|apply pw_below_drewN|apply below_drew1|refine below_set ?_ GE430.out)|exact HB.out))⟩⟩
        ·rw [if_neg c28] at H;have c28b0:decide (a5<a3)=false:=decide_eq_false c28;clear c28
         have H':=A0_ H
         clear H;obtain ⟨hcz37_0,hcz37_1,hcz37_2,hcz37_3,hfz37_0,hfz37_1,hfz37_2,hfz37_3⟩:=bq4_ BK430.out
         go_wp2_with (first|((with_reducible refine gate_callee (f:=17) rfl ?_);refine goesL_ (some 28) rfl rfl Tryz.func17 (by kernel_rfl) rfl #[.agg #[.slice A0_0 l0_0.length c0_0,.int .i64 a0_1,.int .i64 a0_2,.int .i64 a0_3]] rfl y1_ ?_;(with_reducible refine (tl_short.calls k _ _ l0_0 a0_1 a0_2 a0_3 true _ ?side1 ?side2 A9.out).mono ?_);(case side1=>repeat (first|exact (Kd.C_below HR0_0.out HB.out)|(with_reducible refine Kd.C_alloc ?_ _)|(with_reducible refine Kd.C_drewN ?_ _)|(with_reducible refine Kd.C_drew ?_)));(case side2=>exact HC0_0.out);rintro e w38 ⟨rfl,hb⟩;refine ⟨_,rfl,?_⟩;have n0_:=A0_ (blk_below (g:=gb430) (o:=.cells #[.slice A0_0 l0_0.length c0_0,.int .i64 a0_1,.int .i64 a0_2,.int .i64 a0_3] 29 (0,0)) (bd_ BK430.out) hb);have n1_:=A0_ (below_step (by repeat (first|(with_reducible first|exact HB.out|apply below_alloc|apply pw_below_drewN|apply below_drew1|refine below_set ?_ GE430.out)|exact HB.out)) hb);clear BK430;clear HB;have BK430:=n0_;have HB:=n1_;clear n0_ n1_;(try clear hb);(try clear hb2);(try clear hk);(try clear hi);obtain ⟨hcz39_0,hcz39_1,hcz39_2,hcz39_3,hfz39_0,hfz39_1,hfz39_2,hfz39_3⟩:=bq4_ BK430.out)|(go_at_call 14;(with_reducible refine (tr_Sky.calls k _ _ l0_0 a0_1 a0_2 a0_3 true _ ?side1 ?side2 A11.out).mono ?_);(case side1=>repeat (first|exact (Kd.C_below HR0_0.out HB.out)|(with_reducible refine Kd.C_alloc ?_ _)|(with_reducible refine Kd.C_drewN ?_ _)|(with_reducible refine Kd.C_drew ?_)));(case side2=>exact HC0_0.out);rintro e w40 ⟨rfl,hb⟩;have n0_:=A0_ (blk_below (g:=gb430) (o:=.cells #[.slice A0_0 l0_0.length c0_0,.int .i64 a0_1,.int .i64 a0_2,.int .i64 a0_3] 29 (0,0)) (bd_ BK430.out) hb);have n1_:=A0_ (below_step (by repeat (first|(with_reducible first|exact HB.out|apply below_alloc|apply pw_below_drewN|apply below_drew1|refine below_set ?_ GE430.out)|exact HB.out)) hb);clear BK430;clear HB;have BK430:=n0_;have HB:=n1_;clear n0_ n1_;(try clear hb);(try clear hb2);(try clear hk);(try clear hi);obtain ⟨hcz41_0,hcz41_1,hcz41_2,hcz41_3,hfz41_0,hfz41_1,hfz41_2,hfz41_3⟩:=bq4_ BK430.out)|(go_at_call 20;(with_reducible refine (tr_Body.calls _ _ l0_0 a0_1 a0_2 a0_3 a1 true _ ?side1 ?side2 A13.out).mono ?_);(case side1=>repeat (first|exact (Kd.C_below HR0_0.out HB.out)|(with_reducible refine Kd.C_alloc ?_ _)|(with_reducible refine Kd.C_drewN ?_ _)|(with_reducible refine Kd.C_drew ?_)));(case side2=>exact HC0_0.out);rintro e w42 ⟨rfl,hb⟩;have n0_:=A0_ (blk_below (g:=gb430) (o:=.cells #[.slice A0_0 l0_0.length c0_0,.int .i64 a0_1,.int .i64 a0_2,.int .i64 a0_3] 29 (0,0)) (bd_ BK430.out) hb);have n1_:=A0_ (below_step (by repeat (first|(with_reducible first|exact HB.out|apply below_alloc|apply pw_below_drewN|apply below_drew1|refine below_set ?_ GE430.out)|exact HB.out)) hb);clear BK430;clear HB;have BK430:=n0_;have HB:=n1_;clear n0_ n1_;(try clear hb);(try clear hb2);(try clear hk);(try clear hi);obtain ⟨hcz43_0,hcz43_1,hcz43_2,hcz43_3,hfz43_0,hfz43_1,hfz43_2,hfz43_3⟩:=bq4_ BK430.out)|(go_at_call 20;(with_reducible refine (tr_Body.calls _ _ l0_0 a0_1 a0_2 a0_3 a2 true _ ?side1 ?side2 A15.out).mono ?_);(case side1=>repeat (first|exact (Kd.C_below HR0_0.out HB.out)|(with_reducible refine Kd.C_alloc ?_ _)|(with_reducible refine Kd.C_drewN ?_ _)|(with_reducible refine Kd.C_drew ?_)));(case side2=>exact HC0_0.out);rintro e w44 ⟨rfl,hb⟩;have n0_:=A0_ (blk_below (g:=gb430) (o:=.cells #[.slice A0_0 l0_0.length c0_0,.int .i64 a0_1,.int .i64 a0_2,.int .i64 a0_3] 29 (0,0)) (bd_ BK430.out) hb);have n1_:=A0_ (below_step (by repeat (first|(with_reducible first|exact HB.out|apply below_alloc|apply pw_below_drewN|apply below_drew1|refine below_set ?_ GE430.out)|exact HB.out)) hb);clear BK430;clear HB;have BK430:=n0_;have HB:=n1_;clear n0_ n1_;(try clear hb);(try clear hb2);(try clear hk);(try clear hi))|(go_at_call 21;(with_reducible refine (tr_Span.calls a3 a4 true _ A26.out).mono ?_);rintro e w' ⟨rfl,⟨nd,rfl⟩⟩))
         go_meet
         case rel=>exact ⟨_,(decide (a5 > a4)),y4_,H',⟨by first|omega|exact Nat.le_refl _⟩,⟨by (with_reducible repeat (first|refine blk_drewN ?_ _|refine blk_drew ?_|refine blk_alloc ?_ _));exact BK430.out⟩,⟨(by repeat (first|(with_reducible first|exact HB.out|apply below_alloc|apply pw_below_drewN|apply below_drew1|refine below_set ?_ GE430.out)|exact HB.out))⟩⟩
       ·replace c27:=Bool.eq_false_iff.mpr c27;subst c27
        have H1:(tl_SkyMet.j0 k a1 a2 a3 a4 a5 true l0_0 a0_1 a0_2 a0_3)=some r:=by rw [if_neg (show ¬ (false=true) by decide)] at H;exact H
        clear H;have H:=H1;clear H1
        have H':=A0_ H
        clear H;obtain ⟨hcz45_0,hcz45_1,hcz45_2,hcz45_3,hfz45_0,hfz45_1,hfz45_2,hfz45_3⟩:=bq4_ BK430.out
        go_wp2_with (first|((with_reducible refine gate_callee (f:=17) rfl ?_);refine goesL_ (some 28) rfl rfl Tryz.func17 (by kernel_rfl) rfl #[.agg #[.slice A0_0 l0_0.length c0_0,.int .i64 a0_1,.int .i64 a0_2,.int .i64 a0_3]] rfl y1_ ?_;(with_reducible refine (tl_short.calls k _ _ l0_0 a0_1 a0_2 a0_3 true _ ?side1 ?side2 A9.out).mono ?_);(case side1=>repeat (first|exact (Kd.C_below HR0_0.out HB.out)|(with_reducible refine Kd.C_alloc ?_ _)|(with_reducible refine Kd.C_drewN ?_ _)|(with_reducible refine Kd.C_drew ?_)));(case side2=>exact HC0_0.out);rintro e w46 ⟨rfl,hb⟩;refine ⟨_,rfl,?_⟩;have n0_:=A0_ (blk_below (g:=gb430) (o:=.cells #[.slice A0_0 l0_0.length c0_0,.int .i64 a0_1,.int .i64 a0_2,.int .i64 a0_3] 29 (0,0)) (bd_ BK430.out) hb);have n1_:=A0_ (below_step (by repeat (first|(with_reducible first|exact HB.out|apply below_alloc|apply pw_below_drewN|apply below_drew1|refine below_set ?_ GE430.out)|exact HB.out)) hb);clear BK430;clear HB;have BK430:=n0_;have HB:=n1_;clear n0_ n1_;(try clear hb);(try clear hb2);(try clear hk);(try clear hi);obtain ⟨hcz47_0,hcz47_1,hcz47_2,hcz47_3,hfz47_0,hfz47_1,hfz47_2,hfz47_3⟩:=bq4_ BK430.out)|(go_at_call 14;(with_reducible refine (tr_Sky.calls k _ _ l0_0 a0_1 a0_2 a0_3 true _ ?side1 ?side2 A11.out).mono ?_);(case side1=>repeat (first|exact (Kd.C_below HR0_0.out HB.out)|(with_reducible refine Kd.C_alloc ?_ _)|(with_reducible refine Kd.C_drewN ?_ _)|(with_reducible refine Kd.C_drew ?_)));(case side2=>exact HC0_0.out);rintro e w48 ⟨rfl,hb⟩;have n0_:=A0_ (blk_below (g:=gb430) (o:=.cells #[.slice A0_0 l0_0.length c0_0,.int .i64 a0_1,.int .i64 a0_2,.int .i64 a0_3] 29 (0,0)) (bd_ BK430.out) hb);have n1_:=A0_ (below_step (by repeat (first|(with_reducible first|exact HB.out|apply below_alloc|apply pw_below_drewN|apply below_drew1|refine below_set ?_ GE430.out)|exact HB.out)) hb);clear BK430;clear HB;have BK430:=n0_;have HB:=n1_;clear n0_ n1_;(try clear hb);(try clear hb2);(try clear hk);(try clear hi);obtain ⟨hcz49_0,hcz49_1,hcz49_2,hcz49_3,hfz49_0,hfz49_1,hfz49_2,hfz49_3⟩:=bq4_ BK430.out)|(go_at_call 20;(with_reducible refine (tr_Body.calls _ _ l0_0 a0_1 a0_2 a0_3 a1 true _ ?side1 ?side2 A13.out).mono ?_);(case side1=>repeat (first|exact (Kd.C_below HR0_0.out HB.out)|(with_reducible refine Kd.C_alloc ?_ _)|(with_reducible refine Kd.C_drewN ?_ _)|(with_reducible refine Kd.C_drew ?_)));(case side2=>exact HC0_0.out);rintro e w50 ⟨rfl,hb⟩;have n0_:=A0_ (blk_below (g:=gb430) (o:=.cells #[.slice A0_0 l0_0.length c0_0,.int .i64 a0_1,.int .i64 a0_2,.int .i64 a0_3] 29 (0,0)) (bd_ BK430.out) hb);have n1_:=A0_ (below_step (by repeat (first|(with_reducible first|exact HB.out|apply below_alloc|apply pw_below_drewN|apply below_drew1|refine below_set ?_ GE430.out)|exact HB.out)) hb);clear BK430;clear HB;have BK430:=n0_;have HB:=n1_;clear n0_ n1_;(try clear hb);(try clear hb2);(try clear hk);(try clear hi);obtain ⟨hcz51_0,hcz51_1,hcz51_2,hcz51_3,hfz51_0,hfz51_1,hfz51_2,hfz51_3⟩:=bq4_ BK430.out)|(go_at_call 20;(with_reducible refine (tr_Body.calls _ _ l0_0 a0_1 a0_2 a0_3 a2 true _ ?side1 ?side2 A15.out).mono ?_);(case side1=>repeat (first|exact (Kd.C_below HR0_0.out HB.out)|(with_reducible refine Kd.C_alloc ?_ _)|(with_reducible refine Kd.C_drewN ?_ _)|(with_reducible refine Kd.C_drew ?_)));(case side2=>exact HC0_0.out);rintro e w52 ⟨rfl,hb⟩;have n0_:=A0_ (blk_below (g:=gb430) (o:=.cells #[.slice A0_0 l0_0.length c0_0,.int .i64 a0_1,.int .i64 a0_2,.int .i64 a0_3] 29 (0,0)) (bd_ BK430.out) hb);have n1_:=A0_ (below_step (by repeat (first|(with_reducible first|exact HB.out|apply below_alloc|apply pw_below_drewN|apply below_drew1|refine below_set ?_ GE430.out)|exact HB.out)) hb);clear BK430;clear HB;have BK430:=n0_;have HB:=n1_;clear n0_ n1_;(try clear hb);(try clear hb2);(try clear hk);(try clear hi))|(go_at_call 21;(with_reducible refine (tr_Span.calls a3 a4 false _ A26.out).mono ?_);rintro e w' ⟨rfl,⟨nd,rfl⟩⟩))
        go_meet
        case rel=>exact ⟨_,(true),y4_,H',⟨by first|omega|exact Nat.le_refl _⟩,⟨by (with_reducible repeat (first|refine blk_drewN ?_ _|refine blk_drew ?_|refine blk_alloc ?_ _));exact BK430.out⟩,⟨(by repeat (first|(with_reducible first|exact HB.out|apply below_alloc|apply pw_below_drewN|apply below_drew1|refine below_set ?_ GE430.out)|exact HB.out))⟩⟩
     ·as_aux_lemma=>
      replace c16:=Bool.eq_false_iff.mpr c16;subst c16
      have H1:(tl_SkyMet.j0 k a1 a2 a3 a4 a5 true l0_0 a0_1 a0_2 a0_3)=some r:=by rw [if_neg (show ¬ (false=true) by decide)] at H;exact H
      clear H;have H:=H1;clear H1
      have H':=A0_ H
      clear H;obtain ⟨hcz53_0,hcz53_1,hcz53_2,hcz53_3,hfz53_0,hfz53_1,hfz53_2,hfz53_3⟩:=bq4_ BK430.out
      go_wp2_with (first|((with_reducible refine gate_callee (f:=17) rfl ?_);refine goesL_ (some 28) rfl rfl Tryz.func17 (by kernel_rfl) rfl #[.agg #[.slice A0_0 l0_0.length c0_0,.int .i64 a0_1,.int .i64 a0_2,.int .i64 a0_3]] rfl y1_ ?_;(with_reducible refine (tl_short.calls k _ _ l0_0 a0_1 a0_2 a0_3 true _ ?side1 ?side2 A9.out).mono ?_);(case side1=>repeat (first|exact (Kd.C_below HR0_0.out HB.out)|(with_reducible refine Kd.C_alloc ?_ _)|(with_reducible refine Kd.C_drewN ?_ _)|(with_reducible refine Kd.C_drew ?_)));(case side2=>exact HC0_0.out);rintro e w54 ⟨rfl,hb⟩;refine ⟨_,rfl,?_⟩;have n0_:=A0_ (blk_below (g:=gb430) (o:=.cells #[.slice A0_0 l0_0.length c0_0,.int .i64 a0_1,.int .i64 a0_2,.int .i64 a0_3] 29 (0,0)) (bd_ BK430.out) hb);have n1_:=A0_ (below_step (by repeat (first|(with_reducible first|exact HB.out|apply below_alloc|apply pw_below_drewN|apply below_drew1|refine below_set ?_ GE430.out)|exact HB.out)) hb);clear BK430;clear HB;have BK430:=n0_;have HB:=n1_;clear n0_ n1_;(try clear hb);(try clear hb2);(try clear hk);(try clear hi);obtain ⟨hcz55_0,hcz55_1,hcz55_2,hcz55_3,hfz55_0,hfz55_1,hfz55_2,hfz55_3⟩:=bq4_ BK430.out)|(go_at_call 14;(with_reducible refine (tr_Sky.calls k _ _ l0_0 a0_1 a0_2 a0_3 true _ ?side1 ?side2 A11.out).mono ?_);(case side1=>repeat (first|exact (Kd.C_below HR0_0.out HB.out)|(with_reducible refine Kd.C_alloc ?_ _)|(with_reducible refine Kd.C_drewN ?_ _)|(with_reducible refine Kd.C_drew ?_)));(case side2=>exact HC0_0.out);rintro e w56 ⟨rfl,hb⟩;have n0_:=A0_ (blk_below (g:=gb430) (o:=.cells #[.slice A0_0 l0_0.length c0_0,.int .i64 a0_1,.int .i64 a0_2,.int .i64 a0_3] 29 (0,0)) (bd_ BK430.out) hb);have n1_:=A0_ (below_step (by repeat (first|(with_reducible first|exact HB.out|apply below_alloc|apply pw_below_drewN|apply below_drew1|refine below_set ?_ GE430.out)|exact HB.out)) hb);clear BK430;clear HB;have BK430:=n0_;have HB:=n1_;clear n0_ n1_;(try clear hb);(try clear hb2);(try clear hk);(try clear hi);obtain ⟨hcz57_0,hcz57_1,hcz57_2,hcz57_3,hfz57_0,hfz57_1,hfz57_2,hfz57_3⟩:=bq4_ BK430.out)|(go_at_call 20;(with_reducible refine (tr_Body.calls _ _ l0_0 a0_1 a0_2 a0_3 a1 true _ ?side1 ?side2 A13.out).mono ?_);(case side1=>repeat (first|exact (Kd.C_below HR0_0.out HB.out)|(with_reducible refine Kd.C_alloc ?_ _)|(with_reducible refine Kd.C_drewN ?_ _)|(with_reducible refine Kd.C_drew ?_)));(case side2=>exact HC0_0.out);rintro e w58 ⟨rfl,hb⟩;have n0_:=A0_ (blk_below (g:=gb430) (o:=.cells #[.slice A0_0 l0_0.length c0_0,.int .i64 a0_1,.int .i64 a0_2,.int .i64 a0_3] 29 (0,0)) (bd_ BK430.out) hb);have n1_:=A0_ (below_step (by repeat (first|(with_reducible first|exact HB.out|apply below_alloc|apply pw_below_drewN|apply below_drew1|refine below_set ?_ GE430.out)|exact HB.out)) hb);clear BK430;clear HB;have BK430:=n0_;have HB:=n1_;clear n0_ n1_;(try clear hb);(try clear hb2);(try clear hk);(try clear hi);obtain ⟨hcz59_0,hcz59_1,hcz59_2,hcz59_3,hfz59_0,hfz59_1,hfz59_2,hfz59_3⟩:=bq4_ BK430.out)|(go_at_call 20;(with_reducible refine (tr_Body.calls _ _ l0_0 a0_1 a0_2 a0_3 a2 false _ ?side1 ?side2 A15.out).mono ?_);(case side1=>repeat (first|exact (Kd.C_below HR0_0.out HB.out)|(with_reducible refine Kd.C_alloc ?_ _)|(with_reducible refine Kd.C_drewN ?_ _)|(with_reducible refine Kd.C_drew ?_)));(case side2=>exact HC0_0.out);rintro e w60 ⟨rfl,hb⟩;have n0_:=A0_ (blk_below (g:=gb430) (o:=.cells #[.slice A0_0 l0_0.length c0_0,.int .i64 a0_1,.int .i64 a0_2,.int .i64 a0_3] 29 (0,0)) (bd_ BK430.out) hb);have n1_:=A0_ (below_step (by repeat (first|(with_reducible first|exact HB.out|apply below_alloc|apply pw_below_drewN|apply below_drew1|refine below_set ?_ GE430.out)|exact HB.out)) hb);clear BK430;clear HB;have BK430:=n0_;have HB:=n1_;clear n0_ n1_;(try clear hb);(try clear hb2);(try clear hk);(try clear hi)))
      go_meet
      case rel=>exact ⟨_,(true),y4_,H',⟨by first|omega|exact Nat.le_refl _⟩,⟨by (with_reducible repeat (first|refine blk_drewN ?_ _|refine blk_drew ?_|refine blk_alloc ?_ _));exact BK430.out⟩,⟨(by repeat (first|(with_reducible first|exact HB.out|apply below_alloc|apply pw_below_drewN|apply below_drew1|refine below_set ?_ GE430.out)|exact HB.out))⟩⟩
    ·as_aux_lemma=>
     replace c14:=Bool.eq_false_iff.mpr c14;subst c14
     have H1:(tl_SkyMet.j0 k a1 a2 a3 a4 a5 true l0_0 a0_1 a0_2 a0_3)=some r:=by rw [if_neg (show ¬ (false=true) by decide)] at H;exact H
     clear H;have H:=H1;clear H1
     have H':=A0_ H
     clear H;obtain ⟨hcz61_0,hcz61_1,hcz61_2,hcz61_3,hfz61_0,hfz61_1,hfz61_2,hfz61_3⟩:=bq4_ BK430.out
     go_wp2_with (first|((with_reducible refine gate_callee (f:=17) rfl ?_);refine goesL_ (some 28) rfl rfl Tryz.func17 (by kernel_rfl) rfl #[.agg #[.slice A0_0 l0_0.length c0_0,.int .i64 a0_1,.int .i64 a0_2,.int .i64 a0_3]] rfl y1_ ?_;(with_reducible refine (tl_short.calls k _ _ l0_0 a0_1 a0_2 a0_3 true _ ?side1 ?side2 A9.out).mono ?_);(case side1=>repeat (first|exact (Kd.C_below HR0_0.out HB.out)|(with_reducible refine Kd.C_alloc ?_ _)|(with_reducible refine Kd.C_drewN ?_ _)|(with_reducible refine Kd.C_drew ?_)));(case side2=>exact HC0_0.out);rintro e w62 ⟨rfl,hb⟩;refine ⟨_,rfl,?_⟩;have n0_:=A0_ (blk_below (g:=gb430) (o:=.cells #[.slice A0_0 l0_0.length c0_0,.int .i64 a0_1,.int .i64 a0_2,.int .i64 a0_3] 29 (0,0)) (bd_ BK430.out) hb);have n1_:=A0_ (below_step (by repeat (first|(with_reducible first|exact HB.out|apply below_alloc|apply pw_below_drewN|apply below_drew1|refine below_set ?_ GE430.out)|exact HB.out)) hb);clear BK430;clear HB;have BK430:=n0_;have HB:=n1_;clear n0_ n1_;(try clear hb);(try clear hb2);(try clear hk);(try clear hi);obtain ⟨hcz63_0,hcz63_1,hcz63_2,hcz63_3,hfz63_0,hfz63_1,hfz63_2,hfz63_3⟩:=bq4_ BK430.out)|(go_at_call 14;(with_reducible refine (tr_Sky.calls k _ _ l0_0 a0_1 a0_2 a0_3 true _ ?side1 ?side2 A11.out).mono ?_);(case side1=>repeat (first|exact (Kd.C_below HR0_0.out HB.out)|(with_reducible refine Kd.C_alloc ?_ _)|(with_reducible refine Kd.C_drewN ?_ _)|(with_reducible refine Kd.C_drew ?_)));(case side2=>exact HC0_0.out);rintro e w64 ⟨rfl,hb⟩;have n0_:=A0_ (blk_below (g:=gb430) (o:=.cells #[.slice A0_0 l0_0.length c0_0,.int .i64 a0_1,.int .i64 a0_2,.int .i64 a0_3] 29 (0,0)) (bd_ BK430.out) hb);have n1_:=A0_ (below_step (by repeat (first|(with_reducible first|exact HB.out|apply below_alloc|apply pw_below_drewN|apply below_drew1|refine below_set ?_ GE430.out)|exact HB.out)) hb);clear BK430;clear HB;have BK430:=n0_;have HB:=n1_;clear n0_ n1_;(try clear hb);(try clear hb2);(try clear hk);(try clear hi);obtain ⟨hcz65_0,hcz65_1,hcz65_2,hcz65_3,hfz65_0,hfz65_1,hfz65_2,hfz65_3⟩:=bq4_ BK430.out)|(go_at_call 20;(with_reducible refine (tr_Body.calls _ _ l0_0 a0_1 a0_2 a0_3 a1 false _ ?side1 ?side2 A13.out).mono ?_);(case side1=>repeat (first|exact (Kd.C_below HR0_0.out HB.out)|(with_reducible refine Kd.C_alloc ?_ _)|(with_reducible refine Kd.C_drewN ?_ _)|(with_reducible refine Kd.C_drew ?_)));(case side2=>exact HC0_0.out);rintro e w66 ⟨rfl,hb⟩;have n0_:=A0_ (blk_below (g:=gb430) (o:=.cells #[.slice A0_0 l0_0.length c0_0,.int .i64 a0_1,.int .i64 a0_2,.int .i64 a0_3] 29 (0,0)) (bd_ BK430.out) hb);have n1_:=A0_ (below_step (by repeat (first|(with_reducible first|exact HB.out|apply below_alloc|apply pw_below_drewN|apply below_drew1|refine below_set ?_ GE430.out)|exact HB.out)) hb);clear BK430;clear HB;have BK430:=n0_;have HB:=n1_;clear n0_ n1_;(try clear hb);(try clear hb2);(try clear hk);(try clear hi)))
     go_meet
     case rel=>exact ⟨_,(true),y4_,H',⟨by first|omega|exact Nat.le_refl _⟩,⟨by (with_reducible repeat (first|refine blk_drewN ?_ _|refine blk_drew ?_|refine blk_alloc ?_ _));exact BK430.out⟩,⟨(by repeat (first|(with_reducible first|exact HB.out|apply below_alloc|apply pw_below_drewN|apply below_drew1|refine below_set ?_ GE430.out)|exact HB.out))⟩⟩
   ·as_aux_lemma=>
    replace c12:=Bool.eq_false_iff.mpr c12;subst c12
    have H1:(tl_SkyMet.j0 k a1 a2 a3 a4 a5 true l0_0 a0_1 a0_2 a0_3)=some r:=by rw [if_neg (show ¬ (false=true) by decide)] at H;exact H
    clear H;have H:=H1;clear H1
    have H':=A0_ H
    clear H;obtain ⟨hcz67_0,hcz67_1,hcz67_2,hcz67_3,hfz67_0,hfz67_1,hfz67_2,hfz67_3⟩:=bq4_ BK430.out
    go_wp2_with (first|((with_reducible refine gate_callee (f:=17) rfl ?_);refine goesL_ (some 28) rfl rfl Tryz.func17 (by kernel_rfl) rfl #[.agg #[.slice A0_0 l0_0.length c0_0,.int .i64 a0_1,.int .i64 a0_2,.int .i64 a0_3]] rfl y1_ ?_;(with_reducible refine (tl_short.calls k _ _ l0_0 a0_1 a0_2 a0_3 true _ ?side1 ?side2 A9.out).mono ?_);(case side1=>repeat (first|exact (Kd.C_below HR0_0.out HB.out)|(with_reducible refine Kd.C_alloc ?_ _)|(with_reducible refine Kd.C_drewN ?_ _)|(with_reducible refine Kd.C_drew ?_)));(case side2=>exact HC0_0.out);rintro e w68 ⟨rfl,hb⟩;refine ⟨_,rfl,?_⟩;have n0_:=A0_ (blk_below (g:=gb430) (o:=.cells #[.slice A0_0 l0_0.length c0_0,.int .i64 a0_1,.int .i64 a0_2,.int .i64 a0_3] 29 (0,0)) (bd_ BK430.out) hb);have n1_:=A0_ (below_step (by repeat (first|(with_reducible first|exact HB.out|apply below_alloc|apply pw_below_drewN|apply below_drew1|refine below_set ?_ GE430.out)|exact HB.out)) hb);clear BK430;clear HB;have BK430:=n0_;have HB:=n1_;clear n0_ n1_;(try clear hb);(try clear hb2);(try clear hk);(try clear hi);obtain ⟨hcz69_0,hcz69_1,hcz69_2,hcz69_3,hfz69_0,hfz69_1,hfz69_2,hfz69_3⟩:=bq4_ BK430.out)|(go_at_call 14;(with_reducible refine (tr_Sky.calls k _ _ l0_0 a0_1 a0_2 a0_3 false _ ?side1 ?side2 A11.out).mono ?_);(case side1=>repeat (first|exact (Kd.C_below HR0_0.out HB.out)|(with_reducible refine Kd.C_alloc ?_ _)|(with_reducible refine Kd.C_drewN ?_ _)|(with_reducible refine Kd.C_drew ?_)));(case side2=>exact HC0_0.out);rintro e w70 ⟨rfl,hb⟩;have n0_:=A0_ (blk_below (g:=gb430) (o:=.cells #[.slice A0_0 l0_0.length c0_0,.int .i64 a0_1,.int .i64 a0_2,.int .i64 a0_3] 29 (0,0)) (bd_ BK430.out) hb);have n1_:=A0_ (below_step (by repeat (first|(with_reducible first|exact HB.out|apply below_alloc|apply pw_below_drewN|apply below_drew1|refine below_set ?_ GE430.out)|exact HB.out)) hb);clear BK430;clear HB;have BK430:=n0_;have HB:=n1_;clear n0_ n1_;(try clear hb);(try clear hb2);(try clear hk);(try clear hi)))
    go_meet
    case rel=>exact ⟨_,(true),y4_,H',⟨by first|omega|exact Nat.le_refl _⟩,⟨by (with_reducible repeat (first|refine blk_drewN ?_ _|refine blk_drew ?_|refine blk_alloc ?_ _));exact BK430.out⟩,⟨(by repeat (first|(with_reducible first|exact HB.out|apply below_alloc|apply pw_below_drewN|apply below_drew1|refine below_set ?_ GE430.out)|exact HB.out))⟩⟩
  ·as_aux_lemma=>
   replace c10:=Bool.eq_false_iff.mpr c10;subst c10
   have H1:(tl_SkyMet.j0 k a1 a2 a3 a4 a5 true l0_0 a0_1 a0_2 a0_3)=some r:=by rw [if_neg (show ¬ (false=true) by decide)] at H;exact H
   clear H;have H:=H1;clear H1
   have H':=A0_ H
   clear H;obtain ⟨hcz71_0,hcz71_1,hcz71_2,hcz71_3,hfz71_0,hfz71_1,hfz71_2,hfz71_3⟩:=bq4_ BK430.out
   go_wp2_with (first|((with_reducible refine gate_callee (f:=17) rfl ?_);refine goesL_ (some 28) rfl rfl Tryz.func17 (by kernel_rfl) rfl #[.agg #[.slice A0_0 l0_0.length c0_0,.int .i64 a0_1,.int .i64 a0_2,.int .i64 a0_3]] rfl y1_ ?_;(with_reducible refine (tl_short.calls k _ _ l0_0 a0_1 a0_2 a0_3 false _ ?side1 ?side2 A9.out).mono ?_);(case side1=>repeat (first|exact (Kd.C_below HR0_0.out HB.out)|(with_reducible refine Kd.C_alloc ?_ _)|(with_reducible refine Kd.C_drewN ?_ _)|(with_reducible refine Kd.C_drew ?_)));(case side2=>exact HC0_0.out);rintro e w72 ⟨rfl,hb⟩;refine ⟨_,rfl,?_⟩;have n0_:=A0_ (blk_below (g:=gb430) (o:=.cells #[.slice A0_0 l0_0.length c0_0,.int .i64 a0_1,.int .i64 a0_2,.int .i64 a0_3] 29 (0,0)) (bd_ BK430.out) hb);have n1_:=A0_ (below_step (by repeat (first|(with_reducible first|exact HB.out|apply below_alloc|apply pw_below_drewN|apply below_drew1|refine below_set ?_ GE430.out)|exact HB.out)) hb);clear BK430;clear HB;have BK430:=n0_;have HB:=n1_;clear n0_ n1_;(try clear hb);(try clear hb2);(try clear hk);(try clear hi)))
   go_meet
   case rel=>exact ⟨_,(true),y4_,H',⟨by first|omega|exact Nat.le_refl _⟩,⟨by (with_reducible repeat (first|refine blk_drewN ?_ _|refine blk_drew ?_|refine blk_alloc ?_ _));exact BK430.out⟩,⟨(by repeat (first|(with_reducible first|exact HB.out|apply below_alloc|apply pw_below_drewN|apply below_drew1|refine below_set ?_ GE430.out)|exact HB.out))⟩⟩
 case rest=>
  clear HC7;(try clear c1);(try clear c2);(try clear p2);(try clear c5);(try clear c10);(try clear c12);(try clear c14);(try clear c16);(try clear c17);(try clear c17b0);(try clear c17b1);(try clear c27);(try clear c28);(try clear c28b0);(try clear hcz18_0);(try clear hcz18_1);(try clear hcz18_2);(try clear hcz18_3);(try clear hcz20_0);(try clear hcz20_1);(try clear hcz20_2);(try clear hcz20_3);(try clear hcz22_0);(try clear hcz22_1);(try clear hcz22_2);(try clear hcz22_3);(try clear hcz24_0);(try clear hcz24_1);(try clear hcz24_2);(try clear hcz24_3);(try clear hcz29_0);(try clear hcz29_1);(try clear hcz29_2);(try clear hcz29_3);(try clear hcz31_0);(try clear hcz31_1);(try clear hcz31_2);(try clear hcz31_3);(try clear hcz33_0);(try clear hcz33_1);(try clear hcz33_2);(try clear hcz33_3);(try clear hcz35_0);(try clear hcz35_1);(try clear hcz35_2);(try clear hcz35_3);(try clear hcz37_0);(try clear hcz37_1);(try clear hcz37_2);(try clear hcz37_3);(try clear hcz39_0);(try clear hcz39_1);(try clear hcz39_2);(try clear hcz39_3);(try clear hcz41_0);(try clear hcz41_1);(try clear hcz41_2);(try clear hcz41_3);(try clear hcz43_0);(try clear hcz43_1);(try clear hcz43_2);(try clear hcz43_3);(try clear hcz45_0);(try clear hcz45_1);(try clear hcz45_2);(try clear hcz45_3);(try clear hcz47_0);(try clear hcz47_1);(try clear hcz47_2);(try clear hcz47_3);(try clear hcz49_0);(try clear hcz49_1);(try clear hcz49_2);(try clear hcz49_3);(try clear hcz51_0);(try clear hcz51_1);(try clear hcz51_2);(try clear hcz51_3);(try clear hcz53_0);(try clear hcz53_1);(try clear hcz53_2);(try clear hcz53_3);(try clear hcz55_0);(try clear hcz55_1);(try clear hcz55_2);(try clear hcz55_3);(try clear hcz57_0);(try clear hcz57_1);(try clear hcz57_2);(try clear hcz57_3);(try clear hcz59_0);(try clear hcz59_1);(try clear hcz59_2);(try clear hcz59_3);(try clear hcz61_0);(try clear hcz61_1);(try clear hcz61_2);(try clear hcz61_3);(try clear hcz63_0);(try clear hcz63_1);(try clear hcz63_2);(try clear hcz63_3);(try clear hcz65_0);(try clear hcz65_1);(try clear hcz65_2);(try clear hcz65_3);(try clear hcz67_0);(try clear hcz67_1);(try clear hcz67_2);(try clear hcz67_3);(try clear hcz69_0);(try clear hcz69_1);(try clear hcz69_2);(try clear hcz69_3);(try clear hcz71_0);(try clear hcz71_1);(try clear hcz71_2);(try clear hcz71_3);(try clear hfz18_0);(try clear hfz18_1);(try clear hfz18_2);(try clear hfz18_3);(try clear hfz20_0);(try clear hfz20_1);(try clear hfz20_2);(try clear hfz20_3);(try clear hfz22_0);(try clear hfz22_1);(try clear hfz22_2);(try clear hfz22_3);(try clear hfz24_0);(try clear hfz24_1);(try clear hfz24_2);(try clear hfz24_3);(try clear hfz29_0);(try clear hfz29_1);(try clear hfz29_2);(try clear hfz29_3);(try clear hfz31_0);(try clear hfz31_1);(try clear hfz31_2);(try clear hfz31_3);(try clear hfz33_0);(try clear hfz33_1);(try clear hfz33_2)
  (try clear hfz33_3);(try clear hfz35_0);(try clear hfz35_1);(try clear hfz35_2);(try clear hfz35_3);(try clear hfz37_0);(try clear hfz37_1);(try clear hfz37_2);(try clear hfz37_3);(try clear hfz39_0);(try clear hfz39_1);(try clear hfz39_2);(try clear hfz39_3);(try clear hfz41_0);(try clear hfz41_1);(try clear hfz41_2);(try clear hfz41_3);(try clear hfz43_0);(try clear hfz43_1);(try clear hfz43_2);(try clear hfz43_3);(try clear hfz45_0);(try clear hfz45_1);(try clear hfz45_2);(try clear hfz45_3);(try clear hfz47_0);(try clear hfz47_1);(try clear hfz47_2);(try clear hfz47_3);(try clear hfz49_0);(try clear hfz49_1);(try clear hfz49_2);(try clear hfz49_3);(try clear hfz51_0);(try clear hfz51_1);(try clear hfz51_2);(try clear hfz51_3);(try clear hfz53_0);(try clear hfz53_1);(try clear hfz53_2);(try clear hfz53_3);(try clear hfz55_0);(try clear hfz55_1);(try clear hfz55_2);(try clear hfz55_3);(try clear hfz57_0);(try clear hfz57_1);(try clear hfz57_2);(try clear hfz57_3);(try clear hfz59_0);(try clear hfz59_1);(try clear hfz59_2);(try clear hfz59_3);(try clear hfz61_0);(try clear hfz61_1);(try clear hfz61_2);(try clear hfz61_3);(try clear hfz63_0);(try clear hfz63_1);(try clear hfz63_2);(try clear hfz63_3);(try clear hfz65_0);(try clear hfz65_1);(try clear hfz65_2);(try clear hfz65_3);(try clear hfz67_0);(try clear hfz67_1);(try clear hfz67_2);(try clear hfz67_3);(try clear hfz69_0);(try clear hfz69_1);(try clear hfz69_2);(try clear hfz69_3);(try clear hfz71_0);(try clear hfz71_1);(try clear hfz71_2);(try clear hfz71_3)
  obtain ⟨kq,x67_6,rfl,HA,HJ6,BK430,HB⟩:=hcut
  cases kq with
  |zero=>exact absurd HA.out (by simp [tl_SkyMet.j0])
  |succ kj6=>
   have H:=HA.out
   clear HA
   simp only [tl_SkyMet.j0] at H
   ·as_aux_lemma=>
    by_cases c73:x67_6=true
    ·subst c73
     have H1:((tl_known.f).bind fun t436=>(some t436))=some r:=by rw [if_pos rfl] at H;exact H
     clear H;have H:=H1;clear H1;replace H:=Option.bind_eq_some_iff.mp H;obtain ⟨t436,A740,H⟩:=H
     replace H:(some t436)=some r:=H
     have A74:=A0_ A740;clear A740;obtain rfl:=Option.some.inj H
     go_wp2_with (first|((with_reducible refine gate_callee (f:=11) rfl ?_);refine goesL_ (some 68) rfl rfl Tryz.func11 (by kernel_rfl) rfl #[] rfl y1_ ?_;(with_reducible refine (tl_known.calls  t436 _ A74.out ?side1).mono ?_);(case side1=>exact LD.below HLD.out (by repeat (first|(with_reducible first|exact HB.out|apply below_alloc|apply pw_below_drewN|apply below_drew1|refine below_set ?_ GE430.out)|exact HB.out)));rintro e w75 ⟨rfl,hb⟩;refine ⟨_,rfl,?_⟩;have n0_:=A0_ (blk_below (g:=gb430) (o:=.cells #[.slice A0_0 l0_0.length c0_0,.int .i64 a0_1,.int .i64 a0_2,.int .i64 a0_3] 29 (0,0)) (bd_ BK430.out) hb);have n1_:=A0_ (below_step (by repeat (first|(with_reducible first|exact HB.out|apply below_alloc|apply pw_below_drewN|apply below_drew1|refine below_set ?_ GE430.out)|exact HB.out)) hb);clear BK430;clear HB;have BK430:=n0_;have HB:=n1_;clear n0_ n1_;(try clear hb);(try clear hb2);(try clear hk);(try clear hi)))
     go_ret
     exact ⟨y2_,(by repeat (first|(with_reducible first|exact HB.out|apply below_alloc|apply pw_below_drewN|apply below_drew1|refine below_set ?_ GE430.out)|exact HB.out))⟩
    ·replace c73:=Bool.eq_false_iff.mpr c73;subst c73
     have H1:((sky_Meets.f kj6 l0_0 a0_1 a0_2 a0_3 a1 a2 a3 a4).bind fun bt437=>((sky_Meets.f kj6 l0_0 a0_1 a0_2 a0_3 a2 a1 a3 a4).bind fun bt441=>((sky_Near.f kj6 l0_0 a0_1 a0_2 a0_3 a1 a2 a3 a4).bind fun bt445=>((sky_Place.f kj6 l0_0 a0_1 a0_2 a0_3 a1 a5).bind fun bt448=>((sky_Place.f kj6 l0_0 a0_1 a0_2 a0_3 a2 a5).bind fun bt450=>(if bt437.2=0 then (if bt441.2=0 then (if bt445.2.2=0 then (if bt448.2=0 then (if bt450.2=0 then (if (bt437.1.length:Int) > 801 then (tl_SkyMet.j1 kj6 a1 a2 a5 bt437.1 bt445.1 bt445.2.1 bt448.1 bt450.1 true l0_0 a0_1 a0_2 a0_3) else ((tr_Same.f kj6 bt437.1 bt441.1).bind fun t452=>(if t452=true then (if bt445.1<a3 then (tl_SkyMet.j1 kj6 a1 a2 a5 bt437.1 bt445.1 bt445.2.1 bt448.1 bt450.1 true l0_0 a0_1 a0_2 a0_3) else (if bt445.1 > a4 then (tl_SkyMet.j1 kj6 a1 a2 a5 bt437.1 bt445.1 bt445.2.1 bt448.1 bt450.1 true l0_0 a0_1 a0_2 a0_3) else ((tr_Spot.f bt448.1).bind fun t453=>(if t453=true then ((tr_Spot.f bt450.1).bind fun t454=>(tl_SkyMet.j1 kj6 a1 a2 a5 bt437.1 bt445.1 bt445.2.1 bt448.1 bt450.1 (!t454) l0_0 a0_1 a0_2 a0_3)) else (tl_SkyMet.j1 kj6 a1 a2 a5 bt437.1 bt445.1 bt445.2.1 bt448.1 bt450.1 true l0_0 a0_1 a0_2 a0_3))))) else (tl_SkyMet.j1 kj6 a1 a2 a5 bt437.1 bt445.1 bt445.2.1 bt448.1 bt450.1 true l0_0 a0_1 a0_2 a0_3)))) else (tl_SkyMet.j1 kj6 a1 a2 a5 bt437.1 bt445.1 bt445.2.1 bt448.1 bt450.1 true l0_0 a0_1 a0_2 a0_3)) else (tl_SkyMet.j1 kj6 a1 a2 a5 bt437.1 bt445.1 bt445.2.1 bt448.1 bt450.1 true l0_0 a0_1 a0_2 a0_3)) else (tl_SkyMet.j1 kj6 a1 a2 a5 bt437.1 bt445.1 bt445.2.1 bt448.1 bt450.1 true l0_0 a0_1 a0_2 a0_3)) else (tl_SkyMet.j1 kj6 a1 a2 a5 bt437.1 bt445.1 bt445.2.1 bt448.1 bt450.1 true l0_0 a0_1 a0_2 a0_3)) else (tl_SkyMet.j1 kj6 a1 a2 a5 bt437.1 bt445.1 bt445.2.1 bt448.1 bt450.1 true l0_0 a0_1 a0_2 a0_3)))))))=some r:=by rw [if_neg (show ¬ (false=true) by decide)] at H;exact H
     clear H;have H:=H1;clear H1;replace H:=Option.bind_eq_some_iff.mp H
     obtain ⟨⟨t437,t440⟩,A760,H⟩:=H
     replace H:((sky_Meets.f kj6 l0_0 a0_1 a0_2 a0_3 a2 a1 a3 a4).bind fun bt441=>((sky_Near.f kj6 l0_0 a0_1 a0_2 a0_3 a1 a2 a3 a4).bind fun bt445=>((sky_Place.f kj6 l0_0 a0_1 a0_2 a0_3 a1 a5).bind fun bt448=>((sky_Place.f kj6 l0_0 a0_1 a0_2 a0_3 a2 a5).bind fun bt450=>(if t440=0 then (if bt441.2=0 then (if bt445.2.2=0 then (if bt448.2=0 then (if bt450.2=0 then (if (t437.length:Int) > 801 then (tl_SkyMet.j1 kj6 a1 a2 a5 t437 bt445.1 bt445.2.1 bt448.1 bt450.1 true l0_0 a0_1 a0_2 a0_3) else ((tr_Same.f kj6 t437 bt441.1).bind fun t452=>(if t452=true then (if bt445.1<a3 then (tl_SkyMet.j1 kj6 a1 a2 a5 t437 bt445.1 bt445.2.1 bt448.1 bt450.1 true l0_0 a0_1 a0_2 a0_3) else (if bt445.1 > a4 then (tl_SkyMet.j1 kj6 a1 a2 a5 t437 bt445.1 bt445.2.1 bt448.1 bt450.1 true l0_0 a0_1 a0_2 a0_3) else ((tr_Spot.f bt448.1).bind fun t453=>(if t453=true then ((tr_Spot.f bt450.1).bind fun t454=>(tl_SkyMet.j1 kj6 a1 a2 a5 t437 bt445.1 bt445.2.1 bt448.1 bt450.1 (!t454) l0_0 a0_1 a0_2 a0_3)) else (tl_SkyMet.j1 kj6 a1 a2 a5 t437 bt445.1 bt445.2.1 bt448.1 bt450.1 true l0_0 a0_1 a0_2 a0_3))))) else (tl_SkyMet.j1 kj6 a1 a2 a5 t437 bt445.1 bt445.2.1 bt448.1 bt450.1 true l0_0 a0_1 a0_2 a0_3)))) else (tl_SkyMet.j1 kj6 a1 a2 a5 t437 bt445.1 bt445.2.1 bt448.1 bt450.1 true l0_0 a0_1 a0_2 a0_3)) else (tl_SkyMet.j1 kj6 a1 a2 a5 t437 bt445.1 bt445.2.1 bt448.1 bt450.1 true l0_0 a0_1 a0_2 a0_3)) else (tl_SkyMet.j1 kj6 a1 a2 a5 t437 bt445.1 bt445.2.1 bt448.1 bt450.1 true l0_0 a0_1 a0_2 a0_3)) else (tl_SkyMet.j1 kj6 a1 a2 a5 t437 bt445.1 bt445.2.1 bt448.1 bt450.1 true l0_0 a0_1 a0_2 a0_3)) else (tl_SkyMet.j1 kj6 a1 a2 a5 t437 bt445.1 bt445.2.1 bt448.1 bt450.1 true l0_0 a0_1 a0_2 a0_3))))))=some r:=H
     have A76:=A0_ A760;clear A760;replace H:=Option.bind_eq_some_iff.mp H
     obtain ⟨⟨t441,t444⟩,A770,H⟩:=H
     replace H:((sky_Near.f kj6 l0_0 a0_1 a0_2 a0_3 a1 a2 a3 a4).bind fun bt445=>((sky_Place.f kj6 l0_0 a0_1 a0_2 a0_3 a1 a5).bind fun bt448=>((sky_Place.f kj6 l0_0 a0_1 a0_2 a0_3 a2 a5).bind fun bt450=>(if t440=0 then (if t444=0 then (if bt445.2.2=0 then (if bt448.2=0 then (if bt450.2=0 then (if (t437.length:Int) > 801 then (tl_SkyMet.j1 kj6 a1 a2 a5 t437 bt445.1 bt445.2.1 bt448.1 bt450.1 true l0_0 a0_1 a0_2 a0_3) else ((tr_Same.f kj6 t437 t441).bind fun t452=>(if t452=true then (if bt445.1<a3 then (tl_SkyMet.j1 kj6 a1 a2 a5 t437 bt445.1 bt445.2.1 bt448.1 bt450.1 true l0_0 a0_1 a0_2 a0_3) else (if bt445.1 > a4 then (tl_SkyMet.j1 kj6 a1 a2 a5 t437 bt445.1 bt445.2.1 bt448.1 bt450.1 true l0_0 a0_1 a0_2 a0_3) else ((tr_Spot.f bt448.1).bind fun t453=>(if t453=true then ((tr_Spot.f bt450.1).bind fun t454=>(tl_SkyMet.j1 kj6 a1 a2 a5 t437 bt445.1 bt445.2.1 bt448.1 bt450.1 (!t454) l0_0 a0_1 a0_2 a0_3)) else (tl_SkyMet.j1 kj6 a1 a2 a5 t437 bt445.1 bt445.2.1 bt448.1 bt450.1 true l0_0 a0_1 a0_2 a0_3))))) else (tl_SkyMet.j1 kj6 a1 a2 a5 t437 bt445.1 bt445.2.1 bt448.1 bt450.1 true l0_0 a0_1 a0_2 a0_3)))) else (tl_SkyMet.j1 kj6 a1 a2 a5 t437 bt445.1 bt445.2.1 bt448.1 bt450.1 true l0_0 a0_1 a0_2 a0_3)) else (tl_SkyMet.j1 kj6 a1 a2 a5 t437 bt445.1 bt445.2.1 bt448.1 bt450.1 true l0_0 a0_1 a0_2 a0_3)) else (tl_SkyMet.j1 kj6 a1 a2 a5 t437 bt445.1 bt445.2.1 bt448.1 bt450.1 true l0_0 a0_1 a0_2 a0_3)) else (tl_SkyMet.j1 kj6 a1 a2 a5 t437 bt445.1 bt445.2.1 bt448.1 bt450.1 true l0_0 a0_1 a0_2 a0_3)) else (tl_SkyMet.j1 kj6 a1 a2 a5 t437 bt445.1 bt445.2.1 bt448.1 bt450.1 true l0_0 a0_1 a0_2 a0_3)))))=some r:=H
     have A77:=A0_ A770;clear A770;replace H:=Option.bind_eq_some_iff.mp H
     obtain ⟨⟨t445,t446,t447⟩,A780,H⟩:=H
     replace H:((sky_Place.f kj6 l0_0 a0_1 a0_2 a0_3 a1 a5).bind fun bt448=>((sky_Place.f kj6 l0_0 a0_1 a0_2 a0_3 a2 a5).bind fun bt450=>(if t440=0 then (if t444=0 then (if t447=0 then (if bt448.2=0 then (if bt450.2=0 then (if (t437.length:Int) > 801 then (tl_SkyMet.j1 kj6 a1 a2 a5 t437 t445 t446 bt448.1 bt450.1 true l0_0 a0_1 a0_2 a0_3) else ((tr_Same.f kj6 t437 t441).bind fun t452=>(if t452=true then (if t445<a3 then (tl_SkyMet.j1 kj6 a1 a2 a5 t437 t445 t446 bt448.1 bt450.1 true l0_0 a0_1 a0_2 a0_3) else (if t445 > a4 then (tl_SkyMet.j1 kj6 a1 a2 a5 t437 t445 t446 bt448.1 bt450.1 true l0_0 a0_1 a0_2 a0_3) else ((tr_Spot.f bt448.1).bind fun t453=>(if t453=true then ((tr_Spot.f bt450.1).bind fun t454=>(tl_SkyMet.j1 kj6 a1 a2 a5 t437 t445 t446 bt448.1 bt450.1 (!t454) l0_0 a0_1 a0_2 a0_3)) else (tl_SkyMet.j1 kj6 a1 a2 a5 t437 t445 t446 bt448.1 bt450.1 true l0_0 a0_1 a0_2 a0_3))))) else (tl_SkyMet.j1 kj6 a1 a2 a5 t437 t445 t446 bt448.1 bt450.1 true l0_0 a0_1 a0_2 a0_3)))) else (tl_SkyMet.j1 kj6 a1 a2 a5 t437 t445 t446 bt448.1 bt450.1 true l0_0 a0_1 a0_2 a0_3)) else (tl_SkyMet.j1 kj6 a1 a2 a5 t437 t445 t446 bt448.1 bt450.1 true l0_0 a0_1 a0_2 a0_3)) else (tl_SkyMet.j1 kj6 a1 a2 a5 t437 t445 t446 bt448.1 bt450.1 true l0_0 a0_1 a0_2 a0_3)) else (tl_SkyMet.j1 kj6 a1 a2 a5 t437 t445 t446 bt448.1 bt450.1 true l0_0 a0_1 a0_2 a0_3)) else (tl_SkyMet.j1 kj6 a1 a2 a5 t437 t445 t446 bt448.1 bt450.1 true l0_0 a0_1 a0_2 a0_3))))=some r:=H
     have A78:=A0_ A780;clear A780;replace H:=Option.bind_eq_some_iff.mp H
     obtain ⟨⟨t448,t449⟩,A790,H⟩:=H
     replace H:((sky_Place.f kj6 l0_0 a0_1 a0_2 a0_3 a2 a5).bind fun bt450=>(if t440=0 then (if t444=0 then (if t447=0 then (if t449=0 then (if bt450.2=0 then (if (t437.length:Int) > 801 then (tl_SkyMet.j1 kj6 a1 a2 a5 t437 t445 t446 t448 bt450.1 true l0_0 a0_1 a0_2 a0_3) else ((tr_Same.f kj6 t437 t441).bind fun t452=>(if t452=true then (if t445<a3 then (tl_SkyMet.j1 kj6 a1 a2 a5 t437 t445 t446 t448 bt450.1 true l0_0 a0_1 a0_2 a0_3) else (if t445 > a4 then (tl_SkyMet.j1 kj6 a1 a2 a5 t437 t445 t446 t448 bt450.1 true l0_0 a0_1 a0_2 a0_3) else ((tr_Spot.f t448).bind fun t453=>(if t453=true then ((tr_Spot.f bt450.1).bind fun t454=>(tl_SkyMet.j1 kj6 a1 a2 a5 t437 t445 t446 t448 bt450.1 (!t454) l0_0 a0_1 a0_2 a0_3)) else (tl_SkyMet.j1 kj6 a1 a2 a5 t437 t445 t446 t448 bt450.1 true l0_0 a0_1 a0_2 a0_3))))) else (tl_SkyMet.j1 kj6 a1 a2 a5 t437 t445 t446 t448 bt450.1 true l0_0 a0_1 a0_2 a0_3)))) else (tl_SkyMet.j1 kj6 a1 a2 a5 t437 t445 t446 t448 bt450.1 true l0_0 a0_1 a0_2 a0_3)) else (tl_SkyMet.j1 kj6 a1 a2 a5 t437 t445 t446 t448 bt450.1 true l0_0 a0_1 a0_2 a0_3)) else (tl_SkyMet.j1 kj6 a1 a2 a5 t437 t445 t446 t448 bt450.1 true l0_0 a0_1 a0_2 a0_3)) else (tl_SkyMet.j1 kj6 a1 a2 a5 t437 t445 t446 t448 bt450.1 true l0_0 a0_1 a0_2 a0_3)) else (tl_SkyMet.j1 kj6 a1 a2 a5 t437 t445 t446 t448 bt450.1 true l0_0 a0_1 a0_2 a0_3)))=some r:=H
     have A79:=A0_ A790;clear A790;replace H:=Option.bind_eq_some_iff.mp H
     obtain ⟨⟨t450,t451⟩,A800,H⟩:=H
     replace H:(if t440=0 then (if t444=0 then (if t447=0 then (if t449=0 then (if t451=0 then (if (t437.length:Int) > 801 then (tl_SkyMet.j1 kj6 a1 a2 a5 t437 t445 t446 t448 t450 true l0_0 a0_1 a0_2 a0_3) else ((tr_Same.f kj6 t437 t441).bind fun t452=>(if t452=true then (if t445<a3 then (tl_SkyMet.j1 kj6 a1 a2 a5 t437 t445 t446 t448 t450 true l0_0 a0_1 a0_2 a0_3) else (if t445 > a4 then (tl_SkyMet.j1 kj6 a1 a2 a5 t437 t445 t446 t448 t450 true l0_0 a0_1 a0_2 a0_3) else ((tr_Spot.f t448).bind fun t453=>(if t453=true then ((tr_Spot.f t450).bind fun t454=>(tl_SkyMet.j1 kj6 a1 a2 a5 t437 t445 t446 t448 t450 (!t454) l0_0 a0_1 a0_2 a0_3)) else (tl_SkyMet.j1 kj6 a1 a2 a5 t437 t445 t446 t448 t450 true l0_0 a0_1 a0_2 a0_3))))) else (tl_SkyMet.j1 kj6 a1 a2 a5 t437 t445 t446 t448 t450 true l0_0 a0_1 a0_2 a0_3)))) else (tl_SkyMet.j1 kj6 a1 a2 a5 t437 t445 t446 t448 t450 true l0_0 a0_1 a0_2 a0_3)) else (tl_SkyMet.j1 kj6 a1 a2 a5 t437 t445 t446 t448 t450 true l0_0 a0_1 a0_2 a0_3)) else (tl_SkyMet.j1 kj6 a1 a2 a5 t437 t445 t446 t448 t450 true l0_0 a0_1 a0_2 a0_3)) else (tl_SkyMet.j1 kj6 a1 a2 a5 t437 t445 t446 t448 t450 true l0_0 a0_1 a0_2 a0_3)) else (tl_SkyMet.j1 kj6 a1 a2 a5 t437 t445 t446 t448 t450 true l0_0 a0_1 a0_2 a0_3))=some r:=H
     have A80:=A0_ A800;clear A800;have HC81:=A0_ H;clear H;obtain ⟨hcz82_0,hcz82_1,hcz82_2,hcz82_3,hfz82_0,hfz82_1,hfz82_2,hfz82_3⟩:=bq4_ BK430.out
     go_upto_region 8 with (first|((with_reducible refine gate_callee (f:=18) rfl ?_);refine goesL_ (some 75) rfl rfl Tryz.func18 (by kernel_rfl) rfl #[.agg #[.slice A0_0 l0_0.length c0_0,.int .i64 a0_1,.int .i64 a0_2,.int .i64 a0_3],.int .i64 a1,.int .i64 a2,.int .i64 a3,.int .i64 a4] rfl y1_ ?_;(with_reducible refine (sky_Meets.calls kj6 _ _ l0_0 a0_1 a0_2 a0_3 a1 a2 a3 a4 t437 t440 _ ?side1 ?side2 A76.out).mono ?_);(case side1=>repeat (first|exact (Kd.C_below HR0_0.out HB.out)|(with_reducible refine Kd.C_alloc ?_ _)|(with_reducible refine Kd.C_drewN ?_ _)|(with_reducible refine Kd.C_drew ?_)));(case side2=>exact HC0_0.out);rintro e w83 ⟨v438,rfl,ho0,hb⟩;refine ⟨_,rfl,?_⟩;have n0_:=A0_ (Kd.R_lower ho0 (below_size (by repeat (first|(with_reducible first|exact HB.out|apply below_alloc|apply pw_below_drewN|apply below_drew1|refine below_set ?_ GE430.out)|exact HB.out))));have n1_:=A0_ (blk_below (g:=gb430) (o:=.cells #[.slice A0_0 l0_0.length c0_0,.int .i64 a0_1,.int .i64 a0_2,.int .i64 a0_3] 29 (0,0)) (bd_ BK430.out) hb);have n2_:=A0_ (below_step (by repeat (first|(with_reducible first|exact HB.out|apply below_alloc|apply pw_below_drewN|apply below_drew1|refine below_set ?_ GE430.out)|exact HB.out)) hb);clear BK430;clear HB;have HO439:=n0_;have BK430:=n1_;have HB:=n2_;clear n0_ n1_ n2_;(try clear hb);(try clear hb2);(try clear hk);(try clear hi);(try clear ho0);obtain ⟨hcz84_0,hcz84_1,hcz84_2,hcz84_3,hfz84_0,hfz84_1,hfz84_2,hfz84_3⟩:=bq4_ BK430.out)|((with_reducible refine gate_callee (f:=18) rfl ?_);refine goesL_ (some 84) rfl rfl Tryz.func18 (by kernel_rfl) rfl #[.agg #[.slice A0_0 l0_0.length c0_0,.int .i64 a0_1,.int .i64 a0_2,.int .i64 a0_3],.int .i64 a2,.int .i64 a1,.int .i64 a3,.int .i64 a4] rfl y1_ ?_;(with_reducible refine (sky_Meets.calls kj6 _ _ l0_0 a0_1 a0_2 a0_3 a2 a1 a3 a4 t441 t444 _ ?side1 ?side2 A77.out).mono ?_);(case side1=>repeat (first|exact (Kd.C_below HR0_0.out HB.out)|(with_reducible refine Kd.C_alloc ?_ _)|(with_reducible refine Kd.C_drewN ?_ _)|(with_reducible refine Kd.C_drew ?_)));(case side2=>exact HC0_0.out);rintro e w85 ⟨v442,rfl,ho0,hb⟩;refine ⟨_,rfl,?_⟩;have n0_:=A0_ (Kd.R_elder' (rd_ HO439.out) (Kd.R_base ho0) hb);have n1_:=A0_ (Kd.R_lower (Kd.R_new' ho0 (Kd.R_lt (rd_ HO439.out))) (below_size (by repeat (first|(with_reducible first|exact HB.out|apply below_alloc|apply pw_below_drewN|apply below_drew1|refine below_set ?_ GE430.out)|exact HB.out))));have n2_:=A0_ (blk_below (g:=gb430) (o:=.cells #[.slice A0_0 l0_0.length c0_0,.int .i64 a0_1,.int .i64 a0_2,.int .i64 a0_3] 29 (0,0)) (bd_ BK430.out) hb);have n3_:=A0_ (below_step (by repeat (first|(with_reducible first|exact HB.out|apply below_alloc|apply pw_below_drewN|apply below_drew1|refine below_set ?_ GE430.out)|exact HB.out)) hb);clear HO439;clear BK430;clear HB;have HO439:=n0_;have HO443:=n1_;have BK430:=n2_;have HB:=n3_;clear n0_ n1_ n2_ n3_;(try clear hb);(try clear hb2);(try clear hk);(try clear hi);(try clear ho0);obtain ⟨hcz86_0,hcz86_1,hcz86_2,hcz86_3,hfz86_0,hfz86_1,hfz86_2,hfz86_3⟩:=bq4_ BK430.out)|((with_reducible refine gate_callee (f:=19) rfl ?_);refine goesL_ (some 93) rfl rfl Tryz.func19 (by kernel_rfl) rfl #[.agg #[.slice A0_0 l0_0.length c0_0,.int .i64 a0_1,.int .i64 a0_2,.int .i64 a0_3],.int .i64 a1,.int .i64 a2,.int .i64 a3,.int .i64 a4] rfl y1_ ?_;(with_reducible refine (sky_Near.calls kj6 _ _ l0_0 a0_1 a0_2 a0_3 a1 a2 a3 a4 t445 t446 t447 _ ?side1 ?side2 A78.out).mono ?_);(case side1=>repeat (first|exact (Kd.C_below HR0_0.out HB.out)|(with_reducible refine Kd.C_alloc ?_ _)|(with_reducible refine Kd.C_drewN ?_ _)|(with_reducible refine Kd.C_drew ?_)));(case side2=>exact HC0_0.out);rintro e w87 ⟨rfl,hb⟩;refine ⟨_,rfl,?_⟩;have n0_:=A0_ (Kd.R_below (rd_ HO439.out) hb);have n1_:=A0_ (Kd.R_below (rd_ HO443.out) hb);have n2_:=A0_ (blk_below (g:=gb430) (o:=.cells #[.slice A0_0 l0_0.length c0_0,.int .i64 a0_1,.int .i64 a0_2,.int .i64 a0_3] 29 (0,0)) (bd_ BK430.out) hb);have n3_:=A0_ (below_step (by repeat (first|(with_reducible first|exact HB.out|apply below_alloc|apply pw_below_drewN|apply below_drew1|refine below_set ?_ GE430.out)|exact HB.out)) hb);clear HO439;clear HO443;clear BK430;clear HB;have HO439:=n0_;have HO443:=n1_;have BK430:=n2_;have HB:=n3_;clear n0_ n1_ n2_ n3_;(try clear hb);(try clear hb2);(try clear hk);(try clear hi);obtain ⟨hcz88_0,hcz88_1,hcz88_2,hcz88_3,hfz88_0,hfz88_1,hfz88_2,hfz88_3⟩:=bq4_ BK430.out)|((with_reducible refine gate_callee (f:=25) rfl ?_);refine goesL_ (some 101) rfl rfl Tryz.func25 (by kernel_rfl) rfl #[.agg #[.slice A0_0 l0_0.length c0_0,.int .i64 a0_1,.int .i64 a0_2,.int .i64 a0_3],.int .i64 a1,.int .i64 a5] rfl y1_ ?_;(with_reducible refine (sky_Place.calls kj6 _ _ l0_0 a0_1 a0_2 a0_3 a1 a5 t448 t449 _ ?side1 ?side2 A79.out).mono ?_);(case side1=>repeat (first|exact (Kd.C_below HR0_0.out HB.out)|(with_reducible refine Kd.C_alloc ?_ _)|(with_reducible refine Kd.C_drewN ?_ _)|(with_reducible refine Kd.C_drew ?_)));(case side2=>exact HC0_0.out);rintro e w89 ⟨rfl,hb⟩;refine ⟨_,rfl,?_⟩;have n0_:=A0_ (Kd.R_below (rd_ HO439.out) hb);have n1_:=A0_ (Kd.R_below (rd_ HO443.out) hb);have n2_:=A0_ (blk_below (g:=gb430) (o:=.cells #[.slice A0_0 l0_0.length c0_0,.int .i64 a0_1,.int .i64 a0_2,.int .i64 a0_3] 29 (0,0)) (bd_ BK430.out) hb);have n3_:=A0_ (below_step (by repeat (first|(with_reducible first|exact HB.out|apply below_alloc|apply pw_below_drewN|apply below_drew1|refine below_set ?_ GE430.out)|exact HB.out)) hb);clear HO439;clear HO443;clear BK430;clear HB;have HO439:=n0_;have HO443:=n1_;have BK430:=n2_;have HB:=n3_;clear n0_ n1_ n2_ n3_;(try clear hb);(try clear hb2);(try clear hk);(try clear hi);obtain ⟨hcz90_0,hcz90_1,hcz90_2,hcz90_3,hfz90_0,hfz90_1,hfz90_2,hfz90_3⟩:=bq4_ BK430.out)|((with_reducible refine gate_callee (f:=25) rfl ?_);refine goesL_ (some 108) rfl rfl Tryz.func25 (by kernel_rfl) rfl #[.agg #[.slice A0_0 l0_0.length c0_0,.int .i64 a0_1,.int .i64 a0_2,.int .i64 a0_3],.int .i64 a2,.int .i64 a5] rfl y1_ ?_;(with_reducible refine (sky_Place.calls kj6 _ _ l0_0 a0_1 a0_2 a0_3 a2 a5 t450 t451 _ ?side1 ?side2 A80.out).mono ?_);(case side1=>repeat (first|exact (Kd.C_below HR0_0.out HB.out)|(with_reducible refine Kd.C_alloc ?_ _)|(with_reducible refine Kd.C_drewN ?_ _)|(with_reducible refine Kd.C_drew ?_)));(case side2=>exact HC0_0.out);rintro e w91 ⟨rfl,hb⟩;refine ⟨_,rfl,?_⟩;have n0_:=A0_ (Kd.R_below (rd_ HO439.out) hb);have n1_:=A0_ (Kd.R_below (rd_ HO443.out) hb);have n2_:=A0_ (blk_below (g:=gb430) (o:=.cells #[.slice A0_0 l0_0.length c0_0,.int .i64 a0_1,.int .i64 a0_2,.int .i64 a0_3] 29 (0,0)) (bd_ BK430.out) hb);have n3_:=A0_ (below_step (by repeat (first|(with_reducible first|exact HB.out|apply below_alloc|apply pw_below_drewN|apply below_drew1|refine below_set ?_ GE430.out)|exact HB.out)) hb);clear HO439;clear HO443;clear BK430;clear HB;have HO439:=n0_;have HO443:=n1_;have BK430:=n2_;have HB:=n3_;clear n0_ n1_ n2_ n3_;(try clear hb);(try clear hb2);(try clear hk);(try clear hi)))
     (try simp only [Act.put,List.setIfInBounds_toArray,List.set_cons_zero,List.set_cons_succ])
     go_cut [159] (fun v159 wc=>∃ (kq:Nat) (x159_80:Bool),v159=.bool x159_80∧Aside0 (tl_SkyMet.j1 kq a1 a2 a5 t437 t445 t446 t448 t450 x159_80 l0_0 a0_1 a0_2 a0_3=some r)∧Aside0 (kq≤kj6)∧Aside0 (Kd.R (Kd.int .i64) 3 wc w.heap.size (fun _=>True) v438 t437)∧Aside0 (wc.heap[gb430]?=some (.cells #[(.slice A0_0 l0_0.length c0_0),.int .i64 a0_1,.int .i64 a0_2,.int .i64 a0_3] 29 (0,0)))∧Aside0 (Below w.heap.size w wc))
     case first=>
      have H:=HC81.out
      clear HC81
      by_cases c92:t440=0
      ·rw [if_pos c92] at H
       have c92b0:(t440 == 0)=true:=beq_iff_eq.mpr c92
       have c92b1:(t440 != 0)=false:=bne_eq_false_iff_eq.mpr c92
       clear c92
       (first|rw [c92b0]|(simp only [i64_w,i32_w];rw [c92b0])|skip)
       by_cases c93:t444=0
       ·rw [if_pos c93] at H
        have c93b0:(t444 == 0)=true:=beq_iff_eq.mpr c93
        have c93b1:(t444 != 0)=false:=bne_eq_false_iff_eq.mpr c93
        clear c93
        by_cases c94:t447=0
        ·rw [if_pos c94] at H
         have c94b0:(t447 == 0)=true:=beq_iff_eq.mpr c94
         have c94b1:(t447 != 0)=false:=bne_eq_false_iff_eq.mpr c94
         clear c94
         by_cases c95:t449=0
         ·rw [if_pos c95] at H
          have c95b0:(t449 == 0)=true:=beq_iff_eq.mpr c95
          have c95b1:(t449 != 0)=false:=bne_eq_false_iff_eq.mpr c95
          clear c95
          by_cases c96:t451=0
          ·rw [if_pos c96] at H
           have c96b0:(t451 == 0)=true:=beq_iff_eq.mpr c96
           have c96b1:(t451 != 0)=false:=bne_eq_false_iff_eq.mpr c96
           clear c96
           by_cases c97:(t437.length:Int) > 801
           ·rw [if_pos c97] at H;have c97b0:decide (801<(t437.length:Int))=true:=decide_eq_true c97
            have c97b1:decide (801<t437.length)=true:=decide_eq_true (by omega)
            clear c97
            have H':=A0_ H
            clear H
            obtain ⟨Ao98,co98,eo98⟩:=Kd.R_slice HO439.out
            subst eo98;go_wp2
            go_meet
            case rel=>exact ⟨_,(true),y4_,H',⟨by have:=HJ6.out;first|omega|exact Nat.le_refl _⟩,⟨by (with_reducible repeat (first|apply Kd.R_alloc|apply Kd.R_drewN|apply Kd.R_drew));exact Kd.R_mono HO439.out (fun _ hk=>trivial)⟩,⟨by (with_reducible repeat (first|refine blk_drewN ?_ _|refine blk_drew ?_|refine blk_alloc ?_ _));exact BK430.out⟩,⟨(by repeat (first|(with_reducible first|exact HB.out|apply below_alloc|apply pw_below_drewN|apply below_drew1|refine below_set ?_ GE430.out)|exact HB.out))⟩⟩
           ·rw [if_neg c97] at H;have c97b0:decide (801<(t437.length:Int))=false:=decide_eq_false c97
            have c97b1:decide (801<t437.length)=false:=decide_eq_false (by omega)
            clear c97;replace H:=Option.bind_eq_some_iff.mp H;obtain ⟨t452,A990,H⟩:=H
            replace H:(if t452=true then (if t445<a3 then (tl_SkyMet.j1 kj6 a1 a2 a5 t437 t445 t446 t448 t450 true l0_0 a0_1 a0_2 a0_3) else (if t445 > a4 then (tl_SkyMet.j1 kj6 a1 a2 a5 t437 t445 t446 t448 t450 true l0_0 a0_1 a0_2 a0_3) else ((tr_Spot.f t448).bind fun t453=>(if t453=true then ((tr_Spot.f t450).bind fun t454=>(tl_SkyMet.j1 kj6 a1 a2 a5 t437 t445 t446 t448 t450 (!t454) l0_0 a0_1 a0_2 a0_3)) else (tl_SkyMet.j1 kj6 a1 a2 a5 t437 t445 t446 t448 t450 true l0_0 a0_1 a0_2 a0_3))))) else (tl_SkyMet.j1 kj6 a1 a2 a5 t437 t445 t446 t448 t450 true l0_0 a0_1 a0_2 a0_3))=some r:=H
            have A99:=A0_ A990;clear A990
            ·as_aux_lemma=>
             by_cases c100:t452=true
             ·as_aux_lemma=>
              subst c100
              have H1:(if t445<a3 then (tl_SkyMet.j1 kj6 a1 a2 a5 t437 t445 t446 t448 t450 true l0_0 a0_1 a0_2 a0_3) else (if t445 > a4 then (tl_SkyMet.j1 kj6 a1 a2 a5 t437 t445 t446 t448 t450 true l0_0 a0_1 a0_2 a0_3) else ((tr_Spot.f t448).bind fun t453=>(if t453=true then ((tr_Spot.f t450).bind fun t454=>(tl_SkyMet.j1 kj6 a1 a2 a5 t437 t445 t446 t448 t450 (!t454) l0_0 a0_1 a0_2 a0_3)) else (tl_SkyMet.j1 kj6 a1 a2 a5 t437 t445 t446 t448 t450 true l0_0 a0_1 a0_2 a0_3)))))=some r:=by rw [if_pos rfl] at H;exact H
              clear H;have H:=H1;clear H1
              by_cases c101:t445<a3
              ·rw [if_pos c101] at H;have c101b0:decide (t445<a3)=true:=decide_eq_true c101;clear c101
               have H':=A0_ H
               clear H
               obtain ⟨Ao102,co102,eo102⟩:=Kd.R_slice HO439.out
               subst eo102
               obtain ⟨Ao103,co103,eo103⟩:=Kd.R_slice HO443.out
               subst eo103
               go_wp2_with (first|(go_at_call 23;(with_reducible refine (tr_Same.calls kj6 _ _ t437 _ _ t441 true _ ?side1 ?side2 ?side3 ?side4 A99.out).mono ?_);(case side1=>repeat (first|exact (Kd.R_reads' HO439.out).2.2|(with_reducible refine Kd.C_alloc ?_ _)|(with_reducible refine Kd.C_drewN ?_ _)|(with_reducible refine Kd.C_drew ?_)));(case side2=>exact (Kd.R_reads' HO439.out).2.1);(case side3=>repeat (first|exact (Kd.R_reads' HO443.out).2.2|(with_reducible refine Kd.C_alloc ?_ _)|(with_reducible refine Kd.C_drewN ?_ _)|(with_reducible refine Kd.C_drew ?_)));(case side4=>exact (Kd.R_reads' HO443.out).2.1);rintro e w' ⟨rfl,⟨nd,rfl⟩⟩))
               go_meet
               case rel=>exact ⟨_,(true),y4_,H',⟨by have:=HJ6.out;first|omega|exact Nat.le_refl _⟩,⟨by (with_reducible repeat (first|apply Kd.R_alloc|apply Kd.R_drewN|apply Kd.R_drew));exact Kd.R_mono HO439.out (fun _ hk=>trivial)⟩,⟨by (with_reducible repeat (first|refine blk_drewN ?_ _|refine blk_drew ?_|refine blk_alloc ?_ _));exact BK430.out⟩,⟨(by repeat (first|(with_reducible first|exact HB.out|apply below_alloc|apply pw_below_drewN|apply below_drew1|refine below_set ?_ GE430.out)|exact HB.out))⟩⟩
              ·rw [if_neg c101] at H;have c101b0:decide (t445<a3)=false:=decide_eq_false c101;clear c101
               by_cases c104:t445 > a4
               ·rw [if_pos c104] at H;have c104b0:decide (a4<t445)=true:=decide_eq_true c104;clear c104
                have H':=A0_ H
                clear H
                obtain ⟨Ao105,co105,eo105⟩:=Kd.R_slice HO439.out
                subst eo105
                obtain ⟨Ao106,co106,eo106⟩:=Kd.R_slice HO443.out
                subst eo106
                go_wp2_with (first|(go_at_call 23;(with_reducible refine (tr_Same.calls kj6 _ _ t437 _ _ t441 true _ ?side1 ?side2 ?side3 ?side4 A99.out).mono ?_);(case side1=>repeat (first|exact (Kd.R_reads' HO439.out).2.2|(with_reducible refine Kd.C_alloc ?_ _)|(with_reducible refine Kd.C_drewN ?_ _)|(with_reducible refine Kd.C_drew ?_)));(case side2=>exact (Kd.R_reads' HO439.out).2.1);(case side3=>repeat (first|exact (Kd.R_reads' HO443.out).2.2|(with_reducible refine Kd.C_alloc ?_ _)|(with_reducible refine Kd.C_drewN ?_ _)|(with_reducible refine Kd.C_drew ?_)));(case side4=>exact (Kd.R_reads' HO443.out).2.1);rintro e w' ⟨rfl,⟨nd,rfl⟩⟩))
                go_meet
                case rel=>exact ⟨_,(true),y4_,H',⟨by have:=HJ6.out;first|omega|exact Nat.le_refl _⟩,⟨by (with_reducible repeat (first|apply Kd.R_alloc|apply Kd.R_drewN|apply Kd.R_drew));exact Kd.R_mono HO439.out (fun _ hk=>trivial)⟩,⟨by (with_reducible repeat (first|refine blk_drewN ?_ _|refine blk_drew ?_|refine blk_alloc ?_ _));exact BK430.out⟩,⟨(by repeat (first|(with_reducible first|exact HB.out|apply below_alloc|apply pw_below_drewN|apply below_drew1|refine below_set ?_ GE430.out)|exact HB.out))⟩⟩
               ·rw [if_neg c104] at H;have c104b0:decide (a4<t445)=false:=decide_eq_false c104;clear c104;replace H:=Option.bind_eq_some_iff.mp H;obtain ⟨t453,A1070,H⟩:=H
                replace H:(if t453=true then ((tr_Spot.f t450).bind fun t454=>(tl_SkyMet.j1 kj6 a1 a2 a5 t437 t445 t446 t448 t450 (!t454) l0_0 a0_1 a0_2 a0_3)) else (tl_SkyMet.j1 kj6 a1 a2 a5 t437 t445 t446 t448 t450 true l0_0 a0_1 a0_2 a0_3))=some r:=H
                have A107:=A0_ A1070;clear A1070
                by_cases c108:t453=true
                ·subst c108
                 have H1:((tr_Spot.f t450).bind fun t454=>(tl_SkyMet.j1 kj6 a1 a2 a5 t437 t445 t446 t448 t450 (!t454) l0_0 a0_1 a0_2 a0_3))=some r:=by rw [if_pos rfl] at H;exact H
                 clear H;have H:=H1;clear H1;replace H:=Option.bind_eq_some_iff.mp H;obtain ⟨t454,A1090,H⟩:=H
                 replace H:(tl_SkyMet.j1 kj6 a1 a2 a5 t437 t445 t446 t448 t450 (!t454) l0_0 a0_1 a0_2 a0_3)=some r:=H
                 have A109:=A0_ A1090;clear A1090
                 have H':=A0_ H
                 clear H
                 obtain ⟨Ao110,co110,eo110⟩:=Kd.R_slice HO439.out
                 subst eo110
                 obtain ⟨Ao111,co111,eo111⟩:=Kd.R_slice HO443.out
                 subst eo111
                 go_wp2_with (first|(go_at_call 23;(with_reducible refine (tr_Same.calls kj6 _ _ t437 _ _ t441 true _ ?side1 ?side2 ?side3 ?side4 A99.out).mono ?_);(case side1=>repeat (first|exact (Kd.R_reads' HO439.out).2.2|(with_reducible refine Kd.C_alloc ?_ _)|(with_reducible refine Kd.C_drewN ?_ _)|(with_reducible refine Kd.C_drew ?_)));(case side2=>exact (Kd.R_reads' HO439.out).2.1);(case side3=>repeat (first|exact (Kd.R_reads' HO443.out).2.2|(with_reducible refine Kd.C_alloc ?_ _)|(with_reducible refine Kd.C_drewN ?_ _)|(with_reducible refine Kd.C_drew ?_)));(case side4=>exact (Kd.R_reads' HO443.out).2.1);rintro e w' ⟨rfl,⟨nd,rfl⟩⟩)|(go_at_call 26;(with_reducible refine (tr_Spot.calls t448 true _ A107.out).mono ?_);rintro e w' ⟨rfl,⟨nd,rfl⟩⟩)|(go_at_call 26;(with_reducible refine (tr_Spot.calls t450 t454 _ A109.out).mono ?_);rintro e w' ⟨rfl,⟨nd,rfl⟩⟩))
                 go_meet
                 case rel=>exact ⟨_,(!t454),y4_,H',⟨by have:=HJ6.out;first|omega|exact Nat.le_refl _⟩,⟨by (with_reducible repeat (first|apply Kd.R_alloc|apply Kd.R_drewN|apply Kd.R_drew));exact Kd.R_mono HO439.out (fun _ hk=>trivial)⟩,⟨by (with_reducible repeat (first|refine blk_drewN ?_ _|refine blk_drew ?_|refine blk_alloc ?_ _));exact BK430.out⟩,⟨(by repeat (first|(with_reducible first|exact HB.out|apply below_alloc|apply pw_below_drewN|apply below_drew1|refine below_set ?_ GE430.out)|exact HB.out))⟩⟩
                ·replace c108:=Bool.eq_false_iff.mpr c108;subst c108
                 have H1:(tl_SkyMet.j1 kj6 a1 a2 a5 t437 t445 t446 t448 t450 true l0_0 a0_1 a0_2 a0_3)=some r:=by rw [if_neg (show ¬ (false=true) by decide)] at H;exact H
                 clear H;have H:=H1;clear H1
                 have H':=A0_ H
                 clear H
                 obtain ⟨Ao112,co112,eo112⟩:=Kd.R_slice HO439.out
                 subst eo112
                 obtain ⟨Ao113,co113,eo113⟩:=Kd.R_slice HO443.out
                 subst eo113
                 go_wp2_with (first|(go_at_call 23;(with_reducible refine (tr_Same.calls kj6 _ _ t437 _ _ t441 true _ ?side1 ?side2 ?side3 ?side4 A99.out).mono ?_);(case side1=>repeat (first|exact (Kd.R_reads' HO439.out).2.2|(with_reducible refine Kd.C_alloc ?_ _)|(with_reducible refine Kd.C_drewN ?_ _)|(with_reducible refine Kd.C_drew ?_)));(case side2=>exact (Kd.R_reads' HO439.out).2.1);(case side3=>repeat (first|exact (Kd.R_reads' HO443.out).2.2|(with_reducible refine Kd.C_alloc ?_ _)|(with_reducible refine Kd.C_drewN ?_ _)|(with_reducible refine Kd.C_drew ?_)));(case side4=>exact (Kd.R_reads' HO443.out).2.1);rintro e w' ⟨rfl,⟨nd,rfl⟩⟩)|(go_at_call 26;(with_reducible refine (tr_Spot.calls t448 false _ A107.out).mono ?_);rintro e w' ⟨rfl,⟨nd,rfl⟩⟩))
                 go_meet
                 case rel=>exact ⟨_,(true),y4_,H',⟨by have:=HJ6.out;first|omega|exact Nat.le_refl _⟩,⟨by (with_reducible repeat (first|apply Kd.R_alloc|apply Kd.R_drewN|apply Kd.R_drew));exact Kd.R_mono HO439.out (fun _ hk=>trivial)⟩,⟨by (with_reducible repeat (first|refine blk_drewN ?_ _|refine blk_drew ?_|refine blk_alloc ?_ _));exact BK430.out⟩,⟨(by repeat (first|(with_reducible first|exact HB.out|apply below_alloc|apply pw_below_drewN|apply below_drew1|refine below_set ?_ GE430.out)|exact HB.out))⟩⟩
             ·as_aux_lemma=>
              replace c100:=Bool.eq_false_iff.mpr c100;subst c100
              have H1:(tl_SkyMet.j1 kj6 a1 a2 a5 t437 t445 t446 t448 t450 true l0_0 a0_1 a0_2 a0_3)=some r:=by rw [if_neg (show ¬ (false=true) by decide)] at H;exact H
              clear H;have H:=H1;clear H1
              have H':=A0_ H
              clear H
              obtain ⟨Ao114,co114,eo114⟩:=Kd.R_slice HO439.out
              subst eo114
              obtain ⟨Ao115,co115,eo115⟩:=Kd.R_slice HO443.out
              subst eo115
              go_wp2_with (first|(go_at_call 23;(with_reducible refine (tr_Same.calls kj6 _ _ t437 _ _ t441 false _ ?side1 ?side2 ?side3 ?side4 A99.out).mono ?_);(case side1=>repeat (first|exact (Kd.R_reads' HO439.out).2.2|(with_reducible refine Kd.C_alloc ?_ _)|(with_reducible refine Kd.C_drewN ?_ _)|(with_reducible refine Kd.C_drew ?_)));(case side2=>exact (Kd.R_reads' HO439.out).2.1);(case side3=>repeat (first|exact (Kd.R_reads' HO443.out).2.2|(with_reducible refine Kd.C_alloc ?_ _)|(with_reducible refine Kd.C_drewN ?_ _)|(with_reducible refine Kd.C_drew ?_)));(case side4=>exact (Kd.R_reads' HO443.out).2.1);rintro e w' ⟨rfl,⟨nd,rfl⟩⟩))
              go_meet
              case rel=>exact ⟨_,(true),y4_,H',⟨by have:=HJ6.out;first|omega|exact Nat.le_refl _⟩,⟨by (with_reducible repeat (first|apply Kd.R_alloc|apply Kd.R_drewN|apply Kd.R_drew));exact Kd.R_mono HO439.out (fun _ hk=>trivial)⟩,⟨by (with_reducible repeat (first|refine blk_drewN ?_ _|refine blk_drew ?_|refine blk_alloc ?_ _));exact BK430.out⟩,⟨(by repeat (first|(with_reducible first|exact HB.out|apply below_alloc|apply pw_below_drewN|apply below_drew1|refine below_set ?_ GE430.out)|exact HB.out))⟩⟩
          ·rw [if_neg c96] at H
           have c96b0:(t451 == 0)=false:=beq_eq_false_iff_ne.mpr c96
           have c96b1:(t451 != 0)=true:=bne_iff_ne.mpr c96
           have H':=A0_ H
           clear H;go_wp2
           go_meet
           case rel=>exact ⟨_,(true),y4_,H',⟨by have:=HJ6.out;first|omega|exact Nat.le_refl _⟩,⟨by (with_reducible repeat (first|apply Kd.R_alloc|apply Kd.R_drewN|apply Kd.R_drew));exact Kd.R_mono HO439.out (fun _ hk=>trivial)⟩,⟨by (with_reducible repeat (first|refine blk_drewN ?_ _|refine blk_drew ?_|refine blk_alloc ?_ _));exact BK430.out⟩,⟨(by repeat (first|(with_reducible first|exact HB.out|apply below_alloc|apply pw_below_drewN|apply below_drew1|refine below_set ?_ GE430.out)|exact HB.out))⟩⟩
         ·rw [if_neg c95] at H
          have c95b0:(t449 == 0)=false:=beq_eq_false_iff_ne.mpr c95
          have c95b1:(t449 != 0)=true:=bne_iff_ne.mpr c95
          have H':=A0_ H
          clear H;go_wp2
          go_meet
          case rel=>exact ⟨_,(true),y4_,H',⟨by have:=HJ6.out;first|omega|exact Nat.le_refl _⟩,⟨by (with_reducible repeat (first|apply Kd.R_alloc|apply Kd.R_drewN|apply Kd.R_drew));exact Kd.R_mono HO439.out (fun _ hk=>trivial)⟩,⟨by (with_reducible repeat (first|refine blk_drewN ?_ _|refine blk_drew ?_|refine blk_alloc ?_ _));exact BK430.out⟩,⟨(by repeat (first|(with_reducible first|exact HB.out|apply below_alloc|apply pw_below_drewN|apply below_drew1|refine below_set ?_ GE430.out)|exact HB.out))⟩⟩
        ·rw [if_neg c94] at H
         have c94b0:(t447 == 0)=false:=beq_eq_false_iff_ne.mpr c94
         have c94b1:(t447 != 0)=true:=bne_iff_ne.mpr c94
         have H':=A0_ H
         clear H;go_wp2
         go_meet
         case rel=>exact ⟨_,(true),y4_,H',⟨by have:=HJ6.out;first|omega|exact Nat.le_refl _⟩,⟨by (with_reducible repeat (first|apply Kd.R_alloc|apply Kd.R_drewN|apply Kd.R_drew));exact Kd.R_mono HO439.out (fun _ hk=>trivial)⟩,⟨by (with_reducible repeat (first|refine blk_drewN ?_ _|refine blk_drew ?_|refine blk_alloc ?_ _));exact BK430.out⟩,⟨(by repeat (first|(with_reducible first|exact HB.out|apply below_alloc|apply pw_below_drewN|apply below_drew1|refine below_set ?_ GE430.out)|exact HB.out))⟩⟩
       ·rw [if_neg c93] at H
        have c93b0:(t444 == 0)=false:=beq_eq_false_iff_ne.mpr c93
        have c93b1:(t444 != 0)=true:=bne_iff_ne.mpr c93
        have H':=A0_ H
        clear H;go_wp2
        go_meet
        case rel=>exact ⟨_,(true),y4_,H',⟨by have:=HJ6.out;first|omega|exact Nat.le_refl _⟩,⟨by (with_reducible repeat (first|apply Kd.R_alloc|apply Kd.R_drewN|apply Kd.R_drew));exact Kd.R_mono HO439.out (fun _ hk=>trivial)⟩,⟨by (with_reducible repeat (first|refine blk_drewN ?_ _|refine blk_drew ?_|refine blk_alloc ?_ _));exact BK430.out⟩,⟨(by repeat (first|(with_reducible first|exact HB.out|apply below_alloc|apply pw_below_drewN|apply below_drew1|refine below_set ?_ GE430.out)|exact HB.out))⟩⟩
      ·rw [if_neg c92] at H
       have c92b0:(t440 == 0)=false:=beq_eq_false_iff_ne.mpr c92
       have c92b1:(t440 != 0)=true:=bne_iff_ne.mpr c92
       (first|rw [c92b0]|(simp only [i64_w,i32_w];rw [c92b0])|skip)
       have H':=A0_ H
       clear H;go_wp2
       go_meet
       case rel=>exact ⟨_,(true),y4_,H',⟨by have:=HJ6.out;first|omega|exact Nat.le_refl _⟩,⟨by (with_reducible repeat (first|apply Kd.R_alloc|apply Kd.R_drewN|apply Kd.R_drew));exact Kd.R_mono HO439.out (fun _ hk=>trivial)⟩,⟨by (with_reducible repeat (first|refine blk_drewN ?_ _|refine blk_drew ?_|refine blk_alloc ?_ _));exact BK430.out⟩,⟨(by repeat (first|(with_reducible first|exact HB.out|apply below_alloc|apply pw_below_drewN|apply below_drew1|refine below_set ?_ GE430.out)|exact HB.out))⟩⟩
     case rest=>
      clear HC81;(try clear c1);(try clear c2);(try clear p2);(try clear c5);(try clear c7);(try clear c9);(try clear c10);(try clear c11);(try clear c12);(try clear c14);(try clear c16);(try clear c17);(try clear c17b0);(try clear c17b1);(try clear c18);(try clear c19);(try clear c25);(try clear c27);(try clear c28);(try clear c28b0);(try clear c73);(try clear c92);(try clear c92b0);(try clear c92b1);(try clear c93);(try clear c93b0);(try clear c93b1);(try clear c94);(try clear c94b0);(try clear c94b1);(try clear c95);(try clear c95b0);(try clear c95b1);(try clear c96);(try clear c96b0);(try clear c96b1);(try clear c97);(try clear c97b0);(try clear c97b1);(try clear c100);(try clear c101);(try clear c101b0);(try clear c104);(try clear c104b0);(try clear c108);(try clear hcz18_0);(try clear hcz18_1);(try clear hcz18_2);(try clear hcz18_3);(try clear hcz20_0);(try clear hcz20_1);(try clear hcz20_2);(try clear hcz20_3);(try clear hcz22_0);(try clear hcz22_1);(try clear hcz22_2);(try clear hcz22_3);(try clear hcz24_0);(try clear hcz24_1);(try clear hcz24_2);(try clear hcz24_3);(try clear hcz29_0);(try clear hcz29_1);(try clear hcz29_2);(try clear hcz29_3);(try clear hcz31_0);(try clear hcz31_1);(try clear hcz31_2);(try clear hcz31_3);(try clear hcz33_0);(try clear hcz33_1);(try clear hcz33_2);(try clear hcz33_3);(try clear hcz35_0);(try clear hcz35_1);(try clear hcz35_2);(try clear hcz35_3);(try clear hcz37_0);(try clear hcz37_1);(try clear hcz37_2);(try clear hcz37_3);(try clear hcz39_0);(try clear hcz39_1);(try clear hcz39_2);(try clear hcz39_3);(try clear hcz41_0);(try clear hcz41_1);(try clear hcz41_2);(try clear hcz41_3);(try clear hcz43_0);(try clear hcz43_1);(try clear hcz43_2);(try clear hcz43_3);(try clear hcz45_0);(try clear hcz45_1);(try clear hcz45_2);(try clear hcz45_3);(try clear hcz47_0);(try clear hcz47_1);(try clear hcz47_2);(try clear hcz47_3);(try clear hcz49_0);(try clear hcz49_1);(try clear hcz49_2);(try clear hcz49_3);(try clear hcz51_0);(try clear hcz51_1);(try clear hcz51_2);(try clear hcz51_3);(try clear hcz53_0);(try clear hcz53_1);(try clear hcz53_2);(try clear hcz53_3);(try clear hcz55_0);(try clear hcz55_1);(try clear hcz55_2);(try clear hcz55_3);(try clear hcz57_0);(try clear hcz57_1);(try clear hcz57_2);(try clear hcz57_3);(try clear hcz59_0);(try clear hcz59_1);(try clear hcz59_2);(try clear hcz59_3);(try clear hcz61_0);(try clear hcz61_1);(try clear hcz61_2);(try clear hcz61_3);(try clear hcz63_0);(try clear hcz63_1);(try clear hcz63_2);(try clear hcz63_3);(try clear hcz65_0);(try clear hcz65_1);(try clear hcz65_2);(try clear hcz65_3);(try clear hcz67_0);(try clear hcz67_1);(try clear hcz67_2);(try clear hcz67_3);(try clear hcz69_0);(try clear hcz69_1);(try clear hcz69_2);(try clear hcz69_3);(try clear hcz71_0);(try clear hcz71_1);(try clear hcz71_2);(try clear hcz71_3);(try clear hcz82_0)
      (try clear hcz82_1);(try clear hcz82_2);(try clear hcz82_3);(try clear hcz84_0);(try clear hcz84_1);(try clear hcz84_2);(try clear hcz84_3);(try clear hcz86_0);(try clear hcz86_1);(try clear hcz86_2);(try clear hcz86_3);(try clear hcz88_0);(try clear hcz88_1);(try clear hcz88_2);(try clear hcz88_3);(try clear hcz90_0);(try clear hcz90_1);(try clear hcz90_2);(try clear hcz90_3);(try clear hfz18_0);(try clear hfz18_1);(try clear hfz18_2);(try clear hfz18_3);(try clear hfz20_0);(try clear hfz20_1);(try clear hfz20_2);(try clear hfz20_3);(try clear hfz22_0);(try clear hfz22_1);(try clear hfz22_2);(try clear hfz22_3);(try clear hfz24_0);(try clear hfz24_1);(try clear hfz24_2);(try clear hfz24_3);(try clear hfz29_0);(try clear hfz29_1);(try clear hfz29_2);(try clear hfz29_3);(try clear hfz31_0);(try clear hfz31_1);(try clear hfz31_2);(try clear hfz31_3);(try clear hfz33_0);(try clear hfz33_1);(try clear hfz33_2);(try clear hfz33_3);(try clear hfz35_0);(try clear hfz35_1);(try clear hfz35_2);(try clear hfz35_3);(try clear hfz37_0);(try clear hfz37_1);(try clear hfz37_2);(try clear hfz37_3);(try clear hfz39_0);(try clear hfz39_1);(try clear hfz39_2);(try clear hfz39_3);(try clear hfz41_0);(try clear hfz41_1);(try clear hfz41_2);(try clear hfz41_3);(try clear hfz43_0);(try clear hfz43_1);(try clear hfz43_2);(try clear hfz43_3);(try clear hfz45_0);(try clear hfz45_1);(try clear hfz45_2);(try clear hfz45_3);(try clear hfz47_0);(try clear hfz47_1);(try clear hfz47_2);(try clear hfz47_3);(try clear hfz49_0);(try clear hfz49_1);(try clear hfz49_2);(try clear hfz49_3);(try clear hfz51_0);(try clear hfz51_1);(try clear hfz51_2);(try clear hfz51_3);(try clear hfz53_0);(try clear hfz53_1);(try clear hfz53_2);(try clear hfz53_3);(try clear hfz55_0);(try clear hfz55_1);(try clear hfz55_2);(try clear hfz55_3);(try clear hfz57_0);(try clear hfz57_1);(try clear hfz57_2);(try clear hfz57_3);(try clear hfz59_0);(try clear hfz59_1);(try clear hfz59_2);(try clear hfz59_3);(try clear hfz61_0);(try clear hfz61_1);(try clear hfz61_2);(try clear hfz61_3);(try clear hfz63_0);(try clear hfz63_1);(try clear hfz63_2);(try clear hfz63_3);(try clear hfz65_0);(try clear hfz65_1);(try clear hfz65_2);(try clear hfz65_3);(try clear hfz67_0);(try clear hfz67_1);(try clear hfz67_2);(try clear hfz67_3);(try clear hfz69_0);(try clear hfz69_1);(try clear hfz69_2);(try clear hfz69_3);(try clear hfz71_0);(try clear hfz71_1);(try clear hfz71_2);(try clear hfz71_3);(try clear hfz82_0);(try clear hfz82_1);(try clear hfz82_2);(try clear hfz82_3);(try clear hfz84_0);(try clear hfz84_1);(try clear hfz84_2);(try clear hfz84_3);(try clear hfz86_0);(try clear hfz86_1);(try clear hfz86_2);(try clear hfz86_3);(try clear hfz88_0);(try clear hfz88_1);(try clear hfz88_2);(try clear hfz88_3);(try clear hfz90_0);(try clear hfz90_1);(try clear hfz90_2);(try clear hfz90_3)
      (try clear p2)
      obtain ⟨kq,x159_80,rfl,HA,HJ80,HO_13,BK430,HB⟩:=hcut
      cases kq with
      |zero=>exact absurd HA.out (by simp [tl_SkyMet.j1])
      |succ kj80=>
       have H:=HA.out
       clear HA
       simp only [tl_SkyMet.j1] at H
       ·as_aux_lemma=>
        by_cases c116:x159_80=true
        ·subst c116
         have H1:(some false)=some r:=by rw [if_pos rfl] at H;exact H
         clear H;have H:=H1;clear H1;obtain rfl:=Option.some.inj H;go_wp2;go_ret
         exact ⟨y2_,(by repeat (first|(with_reducible first|exact HB.out|apply below_alloc|apply pw_below_drewN|apply below_drew1|refine below_set ?_ GE430.out)|exact HB.out))⟩
        ·replace c116:=Bool.eq_false_iff.mpr c116;subst c116
         have H1:((tl_has.f kj80 t437 a5).bind fun t455=>((tl_crossed.f kj80 l0_0 a0_1 a0_2 a0_3 a1 a2 a5 0).bind fun t456=>(if t456=true then (tl_SkyMet.j2 kj80 a1 a2 a5 t437 t445 t446 t448 t450 (t455 != true) l0_0 a0_1 a0_2 a0_3) else ((tl_crossed.f kj80 l0_0 a0_1 a0_2 a0_3 a2 a1 a5 0).bind fun t457=>(tl_SkyMet.j2 kj80 a1 a2 a5 t437 t445 t446 t448 t450 (t455 != t457) l0_0 a0_1 a0_2 a0_3)))))=some r:=by rw [if_neg (show ¬ (false=true) by decide)] at H;exact H
         clear H;have H:=H1;clear H1;have HC117:=A0_ H;clear H
         go_upto_region 10 with (fail)
         go_cut [175] (fun v175 wc=>∃ (kq:Nat) (x175_116:Bool),v175=.bool x175_116∧Aside0 (tl_SkyMet.j2 kq a1 a2 a5 t437 t445 t446 t448 t450 x175_116 l0_0 a0_1 a0_2 a0_3=some r)∧Aside0 (kq≤kj80)∧Aside0 (Kd.R (Kd.int .i64) 3 wc w.heap.size (fun _=>True) v438 t437)∧Aside0 (wc.heap[gb430]?=some (.cells #[(.slice A0_0 l0_0.length c0_0),.int .i64 a0_1,.int .i64 a0_2,.int .i64 a0_3] 29 (0,0)))∧Aside0 (Below w.heap.size w wc))
         case first=>
          have H:=HC117.out
          clear HC117;replace H:=Option.bind_eq_some_iff.mp H;obtain ⟨t455,A1180,H⟩:=H
          replace H:((tl_crossed.f kj80 l0_0 a0_1 a0_2 a0_3 a1 a2 a5 0).bind fun t456=>(if t456=true then (tl_SkyMet.j2 kj80 a1 a2 a5 t437 t445 t446 t448 t450 (t455 != true) l0_0 a0_1 a0_2 a0_3) else ((tl_crossed.f kj80 l0_0 a0_1 a0_2 a0_3 a2 a1 a5 0).bind fun t457=>(tl_SkyMet.j2 kj80 a1 a2 a5 t437 t445 t446 t448 t450 (t455 != t457) l0_0 a0_1 a0_2 a0_3))))=some r:=H
          have A118:=A0_ A1180;clear A1180;replace H:=Option.bind_eq_some_iff.mp H;obtain ⟨t456,A1190,H⟩:=H
          replace H:(if t456=true then (tl_SkyMet.j2 kj80 a1 a2 a5 t437 t445 t446 t448 t450 (t455 != true) l0_0 a0_1 a0_2 a0_3) else ((tl_crossed.f kj80 l0_0 a0_1 a0_2 a0_3 a2 a1 a5 0).bind fun t457=>(tl_SkyMet.j2 kj80 a1 a2 a5 t437 t445 t446 t448 t450 (t455 != t457) l0_0 a0_1 a0_2 a0_3)))=some r:=H
          have A119:=A0_ A1190;clear A1190
          by_cases c120:t456=true
          ·subst c120
           have H1:(tl_SkyMet.j2 kj80 a1 a2 a5 t437 t445 t446 t448 t450 (t455 != true) l0_0 a0_1 a0_2 a0_3)=some r:=by rw [if_pos rfl] at H;exact H
           clear H;have H:=H1;clear H1
           have H':=A0_ H
           clear H
           try go_wp2
           have n0_:=A0_ (Kd.R_drew HO_13.out);have n1_:=A0_ (blk_drew BK430.out);have n2_:=A0_ (below_drew1 HB.out);clear HO_13;clear BK430;clear HB;have HO_13:=n0_;have BK430:=n1_;have HB:=n2_;clear n0_ n1_ n2_
           obtain ⟨Ao122,co122,eo122⟩:=Kd.R_slice HO_13.out
           (first|subst eo122|(injection eo122 with f1_ f2_ f3_;have f4_:=f1_.symm;have f5_:=f3_.symm;clear f1_ f2_ f3_;subst f4_;subst f5_))
           refine start_ (n:=16) (S:=fun w'=>w'.cell? ⟨gb430,0,none⟩=some (.slice A0_0 l0_0.length c0_0)∧w'.cell? ⟨gb430,1,none⟩=some (.int .i64 a0_1)∧w'.cell? ⟨gb430,2,none⟩=some (.int .i64 a0_2)∧w'.cell? ⟨gb430,3,none⟩=some (.int .i64 a0_3)) (ds:=[]) #[false,false,false,false,false,false,false,false,false,false,false,false,false,false,false,false] (by kernel_rfl) rfl rfl ⟨(blk_cell BK430.out 0).trans rfl,(blk_cell BK430.out 1).trans rfl,(blk_cell BK430.out 2).trans rfl,(blk_cell BK430.out 3).trans rfl⟩ (fun hHeld=>?_);refine with_tabW tl_SkyMet.tab10 tl_SkyMet.bits10 (fun HT_ HW_=>?_)
           generalize wc.drew=w121 at HO_13 BK430 HB hHeld ⊢
           refine pu_ (i:=0) (N:=some 160) ?_;refine pu_ (i:=1) (N:=some 161) ?_;refine pu_ (i:=4) (N:=some 164) ?_;refine pu_ (i:=5) (N:=some 165) ?_;refine pu_ (i:=6) (N:=some 166) ?_;refine ta_ (i:=3) (N:=some 163) ?_
           refine one_ (i:=2) (N:=some 162) #[true,true,true,true,true,true,true,false,false,false,false,false,false,false,false,false] rfl rfl (one_of HT_.out (by kernel_rfl)) (by decide) (fun K hK=>?_)
           refine goes_ Tryz.func27 (by kernel_rfl) rfl #[.slice Ao122 t437.length co122,.int .i64 a5] (by rfl) rfl rfl y1_ ?_
           with_reducible refine (tl_has.calls kj80 _ _ t437 a5 t455 _ ?side1 ?side2 A118.out).mono ?_
           (case side1=>repeat (first|exact (Kd.R_reads' HO_13.out).2.2|(with_reducible refine Kd.C_alloc ?_ _)|(with_reducible refine Kd.C_drewN ?_ _)|(with_reducible refine Kd.C_drew ?_)))
           (case side2=>exact (Kd.R_reads' HO_13.out).2.1)
           rintro e w' ⟨rfl,⟨nd,rfl⟩⟩
           refine ⟨_,rfl,?_⟩
           refine hK.out _ _ ⟨(blk_cell BK430.out 0).trans rfl,(blk_cell BK430.out 1).trans rfl,(blk_cell BK430.out 2).trans rfl,(blk_cell BK430.out 3).trans rfl⟩ (fun hHeld=>?_)
           clear hK K
           refine norm_ (a':=?_) ?_ ?_
           rotate_left
           ·show Act.put _ (some 162) _=_
            simp only [Act.put,List.setIfInBounds_toArray,List.set_cons_zero,List.set_cons_succ,i64_w,i32_w]
            rfl
           refine one_ (i:=7) (N:=some 167) #[true,true,true,true,true,true,true,true,false,false,false,false,false,false,false,false] rfl rfl (one_of HT_.out (by kernel_rfl)) (by decide) (fun K hK=>?_)
           refine goes_ Tryz.func28 (by kernel_rfl) rfl #[.agg #[.slice A0_0 l0_0.length c0_0,.int .i64 a0_1,.int .i64 a0_2,.int .i64 a0_3],.int .i64 a1,.int .i64 a2,.int .i64 a5,.int .i64 0] (by rfl) rfl rfl y1_ ?_
           with_reducible refine (tl_crossed.calls kj80 _ _ l0_0 a0_1 a0_2 a0_3 a1 a2 a5 0 true _ ?side1 ?side2 A119.out).mono ?_
           (case side1=>repeat (first|exact (Kd.C_below HR0_0.out (by repeat (first|(with_reducible first|exact HB.out|apply below_alloc|apply pw_below_drewN|apply below_drew1|refine below_set ?_ GE430.out)|exact HB.out)))|(with_reducible refine Kd.C_alloc ?_ _)|(with_reducible refine Kd.C_drewN ?_ _)|(with_reducible refine Kd.C_drew ?_)))
           (case side2=>exact HC0_0.out)
           rintro e w123 ⟨rfl,hb⟩
           refine ⟨_,rfl,?_⟩
           have n0_:=A0_ (Kd.R_below (rd_ HO_13.out) hb);have n1_:=A0_ (blk_below (g:=gb430) (o:=.cells #[.slice A0_0 l0_0.length c0_0,.int .i64 a0_1,.int .i64 a0_2,.int .i64 a0_3] 29 (0,0)) (bd_ BK430.out) hb)
           have n2_:=A0_ (below_step (by repeat (first|(with_reducible first|exact HB.out|apply below_alloc|apply pw_below_drewN|apply below_drew1|refine below_set ?_ GE430.out)|exact HB.out)) hb)
           clear HO_13;clear BK430;clear HB;have HO_13:=n0_;have BK430:=n1_;have HB:=n2_;clear n0_ n1_ n2_;(try clear hb);(try clear hb2);(try clear hk);(try clear hi)
           refine hK.out _ _ ⟨(blk_cell BK430.out 0).trans rfl,(blk_cell BK430.out 1).trans rfl,(blk_cell BK430.out 2).trans rfl,(blk_cell BK430.out 3).trans rfl⟩ (fun hHeld=>?_)
           clear hK K
           refine norm_ (a':=?_) ?_ ?_
           rotate_left
           ·show Act.put _ (some 167) _=_
            simp only [Act.put,List.setIfInBounds_toArray,List.set_cons_zero,List.set_cons_succ,i64_w,i32_w]
            rfl
           refine pu_ (i:=8) (N:=some 168) ?_
           refine pure_ (i:=9) (N:=some 169) (v:=undef) (a':=?_) #[true,true,true,true,true,true,true,true,true,true,false,false,false,false,false,false] rfl rfl (any_of HT_.out (by kernel_rfl)) (fun _ _ _ h=>h) (Or.inr ⟨by rfl,rfl⟩) ?_ ?_
           rotate_left
           ·simp only [Act.put,List.setIfInBounds_toArray,List.set_cons_zero,List.set_cons_succ,i64_w,i32_w]
            rfl
           refine pure_ (i:=10) (N:=some 170) (v:=undef) (a':=?_) #[true,true,true,true,true,true,true,true,true,true,true,false,false,false,false,false] rfl rfl (any_of HT_.out (by kernel_rfl)) (fun _ _ _ h=>h) (Or.inr ⟨by rfl,rfl⟩) ?_ ?_
           rotate_left
           ·simp only [Act.put,List.setIfInBounds_toArray,List.set_cons_zero,List.set_cons_succ,i64_w,i32_w]
            rfl
           refine pure_ (i:=11) (N:=some 171) (v:=undef) (a':=?_) #[true,true,true,true,true,true,true,true,true,true,true,true,false,false,false,false] rfl rfl (any_of HT_.out (by kernel_rfl)) (fun _ _ _ h=>h) (Or.inr ⟨by rfl,rfl⟩) ?_ ?_
           rotate_left
           ·simp only [Act.put,List.setIfInBounds_toArray,List.set_cons_zero,List.set_cons_succ,i64_w,i32_w]
            rfl
           refine pure_ (i:=12) (N:=some 172) (v:=undef) (a':=?_) #[true,true,true,true,true,true,true,true,true,true,true,true,true,false,false,false] rfl rfl (any_of HT_.out (by kernel_rfl)) (fun _ _ _ h=>h) (Or.inr ⟨by rfl,rfl⟩) ?_ ?_
           rotate_left
           ·simp only [Act.put,List.setIfInBounds_toArray,List.set_cons_zero,List.set_cons_succ,i64_w,i32_w]
            rfl
           refine pure_ (i:=13) (N:=some 173) (v:=undef) (a':=?_) #[true,true,true,true,true,true,true,true,true,true,true,true,true,true,false,false] rfl rfl (any_of HT_.out (by kernel_rfl)) (fun _ _ _ h=>h) (Or.inr ⟨by rfl,rfl⟩) ?_ ?_
           rotate_left
           ·simp only [Act.put,List.setIfInBounds_toArray,List.set_cons_zero,List.set_cons_succ,i64_w,i32_w]
            rfl
           refine pu_ (i:=14) (N:=some 174) ?_;refine pu_ (i:=15) (N:=some 175) ?_
           refine done_ (done_of HT_.out (by kernel_rfl)) ?_
           try go_wp2
           go_meet
           case rel=>exact ⟨_,((t455 != true)),y4_,H',⟨by have:=HJ6.out;have:=HJ80.out;first|omega|exact Nat.le_refl _⟩,⟨by (with_reducible repeat (first|apply Kd.R_alloc|apply Kd.R_drewN|apply Kd.R_drew));exact HO_13.out⟩,⟨by (with_reducible repeat (first|refine blk_drewN ?_ _|refine blk_drew ?_|refine blk_alloc ?_ _));exact BK430.out⟩,⟨(by repeat (first|(with_reducible first|exact HB.out|apply below_alloc|apply pw_below_drewN|apply below_drew1|refine below_set ?_ GE430.out)|exact HB.out))⟩⟩
          ·replace c120:=Bool.eq_false_iff.mpr c120;subst c120
           have H1:((tl_crossed.f kj80 l0_0 a0_1 a0_2 a0_3 a2 a1 a5 0).bind fun t457=>(tl_SkyMet.j2 kj80 a1 a2 a5 t437 t445 t446 t448 t450 (t455 != t457) l0_0 a0_1 a0_2 a0_3))=some r:=by rw [if_neg (show ¬ (false=true) by decide)] at H;exact H
           clear H;have H:=H1;clear H1;replace H:=Option.bind_eq_some_iff.mp H;obtain ⟨t457,A1240,H⟩:=H
           replace H:(tl_SkyMet.j2 kj80 a1 a2 a5 t437 t445 t446 t448 t450 (t455 != t457) l0_0 a0_1 a0_2 a0_3)=some r:=H
           have A124:=A0_ A1240;clear A1240
           have H':=A0_ H
           clear H
           try go_wp2
           have n0_:=A0_ (Kd.R_drew HO_13.out);have n1_:=A0_ (blk_drew BK430.out);have n2_:=A0_ (below_drew1 HB.out);clear HO_13;clear BK430;clear HB;have HO_13:=n0_;have BK430:=n1_;have HB:=n2_;clear n0_ n1_ n2_
           obtain ⟨Ao126,co126,eo126⟩:=Kd.R_slice HO_13.out
           (first|subst eo126|(injection eo126 with f1_ f2_ f3_;have f4_:=f1_.symm;have f5_:=f3_.symm;clear f1_ f2_ f3_;subst f4_;subst f5_))
           ·as_aux_lemma=>
            refine start_ (n:=16) (S:=fun w'=>w'.cell? ⟨gb430,0,none⟩=some (.slice A0_0 l0_0.length c0_0)∧w'.cell? ⟨gb430,1,none⟩=some (.int .i64 a0_1)∧w'.cell? ⟨gb430,2,none⟩=some (.int .i64 a0_2)∧w'.cell? ⟨gb430,3,none⟩=some (.int .i64 a0_3)) (ds:=[]) #[false,false,false,false,false,false,false,false,false,false,false,false,false,false,false,false] (by kernel_rfl) rfl rfl ⟨(blk_cell BK430.out 0).trans rfl,(blk_cell BK430.out 1).trans rfl,(blk_cell BK430.out 2).trans rfl,(blk_cell BK430.out 3).trans rfl⟩ (fun hHeld=>?_);refine with_tabW tl_SkyMet.tab10 tl_SkyMet.bits10 (fun HT_ HW_=>?_)
            generalize wc.drew=w125 at HO_13 BK430 HB hHeld ⊢
            refine pu_ (i:=0) (N:=some 160) ?_;refine pu_ (i:=1) (N:=some 161) ?_;refine pu_ (i:=4) (N:=some 164) ?_;refine pu_ (i:=5) (N:=some 165) ?_;refine pu_ (i:=6) (N:=some 166) ?_;refine ta_ (i:=3) (N:=some 163) ?_
            refine one_ (i:=2) (N:=some 162) #[true,true,true,true,true,true,true,false,false,false,false,false,false,false,false,false] rfl rfl (one_of HT_.out (by kernel_rfl)) (by decide) (fun K hK=>?_)
            refine goes_ Tryz.func27 (by kernel_rfl) rfl #[.slice Ao126 t437.length co126,.int .i64 a5] (by rfl) rfl rfl y1_ ?_
            with_reducible refine (tl_has.calls kj80 _ _ t437 a5 t455 _ ?side1 ?side2 A118.out).mono ?_
            (case side1=>repeat (first|exact (Kd.R_reads' HO_13.out).2.2|(with_reducible refine Kd.C_alloc ?_ _)|(with_reducible refine Kd.C_drewN ?_ _)|(with_reducible refine Kd.C_drew ?_)))
            (case side2=>exact (Kd.R_reads' HO_13.out).2.1)
            rintro e w' ⟨rfl,⟨nd,rfl⟩⟩
            refine ⟨_,rfl,?_⟩
            refine hK.out _ _ ⟨(blk_cell BK430.out 0).trans rfl,(blk_cell BK430.out 1).trans rfl,(blk_cell BK430.out 2).trans rfl,(blk_cell BK430.out 3).trans rfl⟩ (fun hHeld=>?_)
            clear hK K
            refine norm_ (a':=?_) ?_ ?_
            rotate_left
            ·show Act.put _ (some 162) _=_
             simp only [Act.put,List.setIfInBounds_toArray,List.set_cons_zero,List.set_cons_succ,i64_w,i32_w]
             rfl
            refine one_ (i:=7) (N:=some 167) #[true,true,true,true,true,true,true,true,false,false,false,false,false,false,false,false] rfl rfl (one_of HT_.out (by kernel_rfl)) (by decide) (fun K hK=>?_)
            refine goes_ Tryz.func28 (by kernel_rfl) rfl #[.agg #[.slice A0_0 l0_0.length c0_0,.int .i64 a0_1,.int .i64 a0_2,.int .i64 a0_3],.int .i64 a1,.int .i64 a2,.int .i64 a5,.int .i64 0] (by rfl) rfl rfl y1_ ?_
            with_reducible refine (tl_crossed.calls kj80 _ _ l0_0 a0_1 a0_2 a0_3 a1 a2 a5 0 false _ ?side1 ?side2 A119.out).mono ?_
            (case side1=>repeat (first|exact (Kd.C_below HR0_0.out (by repeat (first|(with_reducible first|exact HB.out|apply below_alloc|apply pw_below_drewN|apply below_drew1|refine below_set ?_ GE430.out)|exact HB.out)))|(with_reducible refine Kd.C_alloc ?_ _)|(with_reducible refine Kd.C_drewN ?_ _)|(with_reducible refine Kd.C_drew ?_)))
            (case side2=>exact HC0_0.out)
            rintro e w127 ⟨rfl,hb⟩
            refine ⟨_,rfl,?_⟩
            have n0_:=A0_ (Kd.R_below (rd_ HO_13.out) hb);have n1_:=A0_ (blk_below (g:=gb430) (o:=.cells #[.slice A0_0 l0_0.length c0_0,.int .i64 a0_1,.int .i64 a0_2,.int .i64 a0_3] 29 (0,0)) (bd_ BK430.out) hb)
            have n2_:=A0_ (below_step (by repeat (first|(with_reducible first|exact HB.out|apply below_alloc|apply pw_below_drewN|apply below_drew1|refine below_set ?_ GE430.out)|exact HB.out)) hb)
            clear HO_13;clear BK430;clear HB;have HO_13:=n0_;have BK430:=n1_;have HB:=n2_;clear n0_ n1_ n2_;(try clear hb);(try clear hb2);(try clear hk);(try clear hi)
            refine hK.out _ _ ⟨(blk_cell BK430.out 0).trans rfl,(blk_cell BK430.out 1).trans rfl,(blk_cell BK430.out 2).trans rfl,(blk_cell BK430.out 3).trans rfl⟩ (fun hHeld=>?_)
            clear hK K
            refine norm_ (a':=?_) ?_ ?_
            rotate_left
            ·show Act.put _ (some 167) _=_
             simp only [Act.put,List.setIfInBounds_toArray,List.set_cons_zero,List.set_cons_succ,i64_w,i32_w]
             rfl
            refine pu_ (i:=8) (N:=some 168) ?_;refine pu_ (i:=10) (N:=some 170) ?_;refine pu_ (i:=11) (N:=some 171) ?_;refine pu_ (i:=12) (N:=some 172) ?_;refine ta_ (i:=9) (N:=some 169) ?_
            refine one_ (i:=13) (N:=some 173) #[true,true,true,true,true,true,true,true,true,true,true,true,true,true,false,false] rfl rfl (one_of HT_.out (by kernel_rfl)) (by decide) (fun K hK=>?_)
            refine goes_ Tryz.func28 (by kernel_rfl) rfl #[.agg #[.slice A0_0 l0_0.length c0_0,.int .i64 a0_1,.int .i64 a0_2,.int .i64 a0_3],.int .i64 a2,.int .i64 a1,.int .i64 a5,.int .i64 0] (by rfl) rfl rfl y1_ ?_
            with_reducible refine (tl_crossed.calls kj80 _ _ l0_0 a0_1 a0_2 a0_3 a2 a1 a5 0 t457 _ ?side1 ?side2 A124.out).mono ?_
            (case side1=>repeat (first|exact (Kd.C_below HR0_0.out HB.out)|(with_reducible refine Kd.C_alloc ?_ _)|(with_reducible refine Kd.C_drewN ?_ _)|(with_reducible refine Kd.C_drew ?_)))
            (case side2=>exact HC0_0.out)
            rintro e w128 ⟨rfl,hb⟩
            refine ⟨_,rfl,?_⟩
            have n0_:=A0_ (Kd.R_below (rd_ HO_13.out) hb);have n1_:=A0_ (blk_below (g:=gb430) (o:=.cells #[.slice A0_0 l0_0.length c0_0,.int .i64 a0_1,.int .i64 a0_2,.int .i64 a0_3] 29 (0,0)) (bd_ BK430.out) hb)
            have n2_:=A0_ (below_step (by repeat (first|(with_reducible first|exact HB.out|apply below_alloc|apply pw_below_drewN|apply below_drew1|refine below_set ?_ GE430.out)|exact HB.out)) hb)
            clear HO_13;clear BK430;clear HB;have HO_13:=n0_;have BK430:=n1_;have HB:=n2_;clear n0_ n1_ n2_;(try clear hb);(try clear hb2);(try clear hk);(try clear hi)
            refine hK.out _ _ ⟨(blk_cell BK430.out 0).trans rfl,(blk_cell BK430.out 1).trans rfl,(blk_cell BK430.out 2).trans rfl,(blk_cell BK430.out 3).trans rfl⟩ (fun hHeld=>?_)
            clear hK K
            refine norm_ (a':=?_) ?_ ?_
            rotate_left
            ·show Act.put _ (some 173) _=_
             simp only [Act.put,List.setIfInBounds_toArray,List.set_cons_zero,List.set_cons_succ,i64_w,i32_w]
             rfl
            refine pu_ (i:=14) (N:=some 174) ?_;refine pu_ (i:=15) (N:=some 175) ?_
            refine done_ (done_of HT_.out (by kernel_rfl)) ?_
            try go_wp2
            go_meet
            case rel=>exact ⟨_,((t455 != t457)),y4_,H',⟨by have:=HJ6.out;have:=HJ80.out;first|omega|exact Nat.le_refl _⟩,⟨by (with_reducible repeat (first|apply Kd.R_alloc|apply Kd.R_drewN|apply Kd.R_drew));exact HO_13.out⟩,⟨by (with_reducible repeat (first|refine blk_drewN ?_ _|refine blk_drew ?_|refine blk_alloc ?_ _));exact BK430.out⟩,⟨(by repeat (first|(with_reducible first|exact HB.out|apply below_alloc|apply pw_below_drewN|apply below_drew1|refine below_set ?_ GE430.out)|exact HB.out))⟩⟩
         case rest=>
          clear HC117;(try clear c1);(try clear c2);(try clear p2);(try clear c11);(try clear c12);(try clear c27);(try clear c28);(try clear c116);(try clear c120);(try clear hcz49_2);(try clear hcz49_3);(try clear hcz51_0);(try clear hcz51_1);(try clear hcz51_2);(try clear hcz51_3);(try clear hcz53_0);(try clear hcz53_1);(try clear hcz53_2);(try clear hcz53_3);(try clear hcz55_0);(try clear hcz55_1);(try clear hcz55_2);(try clear hcz55_3);(try clear hcz57_0);(try clear hcz57_1);(try clear hcz57_2);(try clear hcz57_3);(try clear hcz59_0);(try clear hcz59_1);(try clear hcz59_2);(try clear hcz59_3);(try clear hcz61_0);(try clear hcz61_1);(try clear hcz61_2);(try clear hcz61_3);(try clear hcz63_0);(try clear hcz63_1);(try clear hcz63_2);(try clear hcz63_3);(try clear hcz65_0);(try clear hcz65_1);(try clear hcz65_2);(try clear hcz65_3);(try clear hcz67_0);(try clear hcz67_1);(try clear hcz67_2);(try clear hcz67_3);(try clear hcz69_0);(try clear hcz69_1);(try clear hcz69_2);(try clear hcz69_3);(try clear hcz71_0);(try clear hcz71_1);(try clear hcz71_2);(try clear hcz71_3);(try clear hcz82_0);(try clear hcz82_1);(try clear hcz82_2);(try clear hcz82_3);(try clear hcz84_0);(try clear hcz84_1);(try clear hcz84_2);(try clear hcz84_3);(try clear hcz86_0);(try clear hcz86_1);(try clear hcz86_2);(try clear hcz86_3);(try clear hcz88_0);(try clear hcz88_1);(try clear hcz88_2);(try clear hcz88_3);(try clear hcz90_0);(try clear hcz90_1);(try clear hcz90_2);(try clear hcz90_3);(try clear hfz18_0);(try clear hfz18_1);(try clear hfz18_2);(try clear hfz18_3);(try clear hfz20_0);(try clear hfz20_1);(try clear hfz20_2);(try clear hfz20_3);(try clear hfz22_0);(try clear hfz22_1);(try clear hfz22_2);(try clear hfz22_3);(try clear hfz24_0);(try clear hfz24_1);(try clear hfz24_2);(try clear hfz24_3);(try clear hfz29_0);(try clear hfz29_1);(try clear hfz29_2);(try clear hfz29_3);(try clear hfz31_0);(try clear hfz31_1);(try clear hfz31_2);(try clear hfz31_3);(try clear hfz33_0);(try clear hfz33_1);(try clear hfz33_2);(try clear hfz33_3);(try clear hfz35_0);(try clear hfz35_1);(try clear hfz35_2);(try clear hfz35_3);(try clear hfz37_0);(try clear hfz37_1);(try clear hfz37_2);(try clear hfz37_3);(try clear hfz39_0);(try clear hfz39_1);(try clear hfz39_2);(try clear hfz39_3);(try clear hfz41_0);(try clear hfz41_1);(try clear hfz41_2);(try clear hfz41_3);(try clear hfz43_0);(try clear hfz43_1);(try clear hfz43_2);(try clear hfz43_3);(try clear hfz45_0);(try clear hfz45_1);(try clear hfz45_2);(try clear hfz45_3);(try clear hfz47_0);(try clear hfz47_1);(try clear hfz47_2);(try clear hfz47_3);(try clear hfz49_0);(try clear hfz49_1);(try clear hfz49_2);(try clear hfz49_3);(try clear hfz51_0);(try clear hfz51_1);(try clear hfz51_2);(try clear hfz51_3);(try clear hfz53_0);(try clear hfz53_1);(try clear hfz53_2);(try clear hfz53_3);(try clear hfz55_0);(try clear hfz55_1)
          (try clear hfz55_2);(try clear hfz55_3);(try clear hfz57_0);(try clear hfz57_1);(try clear hfz57_2);(try clear hfz57_3);(try clear hfz59_0);(try clear hfz59_1);(try clear hfz59_2);(try clear hfz59_3);(try clear hfz61_0);(try clear hfz61_1);(try clear hfz61_2);(try clear hfz61_3);(try clear hfz63_0);(try clear hfz63_1);(try clear hfz63_2);(try clear hfz63_3);(try clear hfz65_0);(try clear hfz65_1);(try clear hfz65_2);(try clear hfz65_3);(try clear hfz67_0);(try clear hfz67_1);(try clear hfz67_2);(try clear hfz67_3);(try clear hfz69_0);(try clear hfz69_1);(try clear hfz69_2);(try clear hfz69_3);(try clear hfz71_0);(try clear hfz71_1);(try clear hfz71_2);(try clear hfz71_3);(try clear hfz82_0);(try clear hfz82_1);(try clear hfz82_2);(try clear hfz82_3);(try clear hfz84_0);(try clear hfz84_1);(try clear hfz84_2);(try clear hfz84_3);(try clear hfz86_0);(try clear hfz86_1);(try clear hfz86_2);(try clear hfz86_3);(try clear hfz88_0);(try clear hfz88_1);(try clear hfz88_2);(try clear hfz88_3);(try clear hfz90_0);(try clear hfz90_1);(try clear hfz90_2);(try clear hfz90_3);(try clear p2)
          obtain ⟨kq,x175_116,rfl,HA,HJ116,HO_13,BK430,HB⟩:=hcut
          cases kq with
          |zero=>exact absurd HA.out (by simp [tl_SkyMet.j2])
          |succ kj116=>
           have H:=HA.out
           clear HA
           simp only [tl_SkyMet.j2] at H
           ·as_aux_lemma=>
            by_cases c129:x175_116=true
            ·subst c129
             have H1:(some false)=some r:=by rw [if_pos rfl] at H;exact H
             clear H;have H:=H1;clear H1;obtain rfl:=Option.some.inj H;go_wp2;go_ret
             exact ⟨y2_,(by repeat (first|(with_reducible first|exact HB.out|apply below_alloc|apply pw_below_drewN|apply below_drew1|refine below_set ?_ GE430.out)|exact HB.out))⟩
            ·replace c129:=Bool.eq_false_iff.mpr c129;subst c129
             have H1:((tr_Apart.f t448 t450).bind fun t458=>(if t458<t446 then (tl_SkyMet.j3 kj116 a1 a2 a5 t437 true l0_0 a0_1 a0_2 a0_3) else (if t458=t446 then (if a5<t445 then (tl_SkyMet.j3 kj116 a1 a2 a5 t437 true l0_0 a0_1 a0_2 a0_3) else (if a5=t445 then (tl_SkyMet.j3 kj116 a1 a2 a5 t437 (t458 != t446) l0_0 a0_1 a0_2 a0_3) else (tl_SkyMet.j3 kj116 a1 a2 a5 t437 false l0_0 a0_1 a0_2 a0_3))) else (if a5=t445 then (tl_SkyMet.j3 kj116 a1 a2 a5 t437 (t458 != t446) l0_0 a0_1 a0_2 a0_3) else (tl_SkyMet.j3 kj116 a1 a2 a5 t437 false l0_0 a0_1 a0_2 a0_3)))))=some r:=by rw [if_neg (show ¬ (false=true) by decide)] at H;exact H
             clear H;have H:=H1;clear H1;replace H:=Option.bind_eq_some_iff.mp H;obtain ⟨t458,A1300,H⟩:=H
             replace H:(if t458<t446 then (tl_SkyMet.j3 kj116 a1 a2 a5 t437 true l0_0 a0_1 a0_2 a0_3) else (if t458=t446 then (if a5<t445 then (tl_SkyMet.j3 kj116 a1 a2 a5 t437 true l0_0 a0_1 a0_2 a0_3) else (if a5=t445 then (tl_SkyMet.j3 kj116 a1 a2 a5 t437 (t458 != t446) l0_0 a0_1 a0_2 a0_3) else (tl_SkyMet.j3 kj116 a1 a2 a5 t437 false l0_0 a0_1 a0_2 a0_3))) else (if a5=t445 then (tl_SkyMet.j3 kj116 a1 a2 a5 t437 (t458 != t446) l0_0 a0_1 a0_2 a0_3) else (tl_SkyMet.j3 kj116 a1 a2 a5 t437 false l0_0 a0_1 a0_2 a0_3))))=some r:=H
             have A130:=A0_ A1300;clear A1300;have HC131:=A0_ H;clear H
             go_upto_region 13 with (first|((with_reducible refine gate_callee (f:=29) rfl ?_);refine goesL_ (some 178) rfl rfl Tryz.func29 (by kernel_rfl) rfl #[.int .i64 t448,.int .i64 t450] rfl y1_ ?_;(with_reducible refine (tr_Apart.calls t448 t450 t458 _ A130.out).mono ?_);rintro e w132 ⟨rfl,hb⟩;refine ⟨_,rfl,?_⟩;have n0_:=A0_ (Kd.R_below (rd_ HO_13.out) hb);have n1_:=A0_ (blk_below (g:=gb430) (o:=.cells #[.slice A0_0 l0_0.length c0_0,.int .i64 a0_1,.int .i64 a0_2,.int .i64 a0_3] 29 (0,0)) (bd_ BK430.out) hb);have n2_:=A0_ (below_step (by repeat (first|(with_reducible first|exact HB.out|apply below_alloc|apply pw_below_drewN|apply below_drew1|refine below_set ?_ GE430.out)|exact HB.out)) hb);clear HO_13;clear BK430;clear HB;have HO_13:=n0_;have BK430:=n1_;have HB:=n2_;clear n0_ n1_ n2_;(try clear hb);(try clear hb2);(try clear hk);(try clear hi)))
             (try simp only [Act.put,List.setIfInBounds_toArray,List.set_cons_zero,List.set_cons_succ])
             go_cut [201] (fun v201 wc=>∃ (kq:Nat) (x201_130:Bool),v201=.bool x201_130∧Aside0 (tl_SkyMet.j3 kq a1 a2 a5 t437 x201_130 l0_0 a0_1 a0_2 a0_3=some r)∧Aside0 (kq≤kj116)∧Aside0 (Kd.R (Kd.int .i64) 3 wc w.heap.size (fun _=>True) v438 t437)∧Aside0 (wc.heap[gb430]?=some (.cells #[(.slice A0_0 l0_0.length c0_0),.int .i64 a0_1,.int .i64 a0_2,.int .i64 a0_3] 29 (0,0)))∧Aside0 (Below w.heap.size w wc))
             case first=>
              have H:=HC131.out
              clear HC131
              by_cases c133:t458<t446
              ·rw [if_pos c133] at H;have c133b0:decide (t458<t446)=true:=decide_eq_true c133;clear c133
               (first|rw [c133b0]|(simp only [i64_w,i32_w];rw [c133b0])|skip)
               have H':=A0_ H
               clear H;go_wp2
               go_meet
               case rel=>exact ⟨_,(true),y4_,H',⟨by have:=HJ6.out;have:=HJ80.out;have:=HJ116.out;first|omega|exact Nat.le_refl _⟩,⟨by (with_reducible repeat (first|apply Kd.R_alloc|apply Kd.R_drewN|apply Kd.R_drew));exact HO_13.out⟩,⟨by (with_reducible repeat (first|refine blk_drewN ?_ _|refine blk_drew ?_|refine blk_alloc ?_ _));exact BK430.out⟩,⟨(by repeat (first|(with_reducible first|exact HB.out|apply below_alloc|apply pw_below_drewN|apply below_drew1|refine below_set ?_ GE430.out)|exact HB.out))⟩⟩
              ·as_aux_lemma=>
               rw [if_neg c133] at H;have c133b0:decide (t458<t446)=false:=decide_eq_false c133;clear c133
               (first|rw [c133b0]|(simp only [i64_w,i32_w];rw [c133b0])|skip)
               by_cases c134:t458=t446
               ·rw [if_pos c134] at H
                have c134b0:(t458 == t446)=true:=beq_iff_eq.mpr c134
                have c134b1:(t458 != t446)=false:=bne_eq_false_iff_eq.mpr c134
                clear c134
                by_cases c135:a5<t445
                ·rw [if_pos c135] at H;have c135b0:decide (a5<t445)=true:=decide_eq_true c135;clear c135
                 have H':=A0_ H
                 clear H;go_wp2
                 go_meet
                 case rel=>exact ⟨_,(true),y4_,H',⟨by have:=HJ6.out;have:=HJ80.out;have:=HJ116.out;first|omega|exact Nat.le_refl _⟩,⟨by (with_reducible repeat (first|apply Kd.R_alloc|apply Kd.R_drewN|apply Kd.R_drew));exact HO_13.out⟩,⟨by (with_reducible repeat (first|refine blk_drewN ?_ _|refine blk_drew ?_|refine blk_alloc ?_ _));exact BK430.out⟩,⟨(by repeat (first|(with_reducible first|exact HB.out|apply below_alloc|apply pw_below_drewN|apply below_drew1|refine below_set ?_ GE430.out)|exact HB.out))⟩⟩
                ·rw [if_neg c135] at H;have c135b0:decide (a5<t445)=false:=decide_eq_false c135;clear c135
                 by_cases c136:a5=t445
                 ·rw [if_pos c136] at H
                  have c136b0:(a5 == t445)=true:=beq_iff_eq.mpr c136
                  have c136b1:(a5 != t445)=false:=bne_eq_false_iff_eq.mpr c136
                  clear c136
                  have H':=A0_ H
                  clear H;go_wp2
                  go_meet
                  case rel=>exact ⟨_,((t458 != t446)),y4_,H',⟨by have:=HJ6.out;have:=HJ80.out;have:=HJ116.out;first|omega|exact Nat.le_refl _⟩,⟨by (with_reducible repeat (first|apply Kd.R_alloc|apply Kd.R_drewN|apply Kd.R_drew));exact HO_13.out⟩,⟨by (with_reducible repeat (first|refine blk_drewN ?_ _|refine blk_drew ?_|refine blk_alloc ?_ _));exact BK430.out⟩,⟨(by repeat (first|(with_reducible first|exact HB.out|apply below_alloc|apply pw_below_drewN|apply below_drew1|refine below_set ?_ GE430.out)|exact HB.out))⟩⟩
                 ·rw [if_neg c136] at H
                  have c136b0:(a5 == t445)=false:=beq_eq_false_iff_ne.mpr c136
                  have c136b1:(a5 != t445)=true:=bne_iff_ne.mpr c136
                  have H':=A0_ H
                  clear H;go_wp2
                  go_meet
                  case rel=>exact ⟨_,(false),y4_,H',⟨by have:=HJ6.out;have:=HJ80.out;have:=HJ116.out;first|omega|exact Nat.le_refl _⟩,⟨by (with_reducible repeat (first|apply Kd.R_alloc|apply Kd.R_drewN|apply Kd.R_drew));exact HO_13.out⟩,⟨by (with_reducible repeat (first|refine blk_drewN ?_ _|refine blk_drew ?_|refine blk_alloc ?_ _));exact BK430.out⟩,⟨(by repeat (first|(with_reducible first|exact HB.out|apply below_alloc|apply pw_below_drewN|apply below_drew1|refine below_set ?_ GE430.out)|exact HB.out))⟩⟩
               ·rw [if_neg c134] at H
                have c134b0:(t458 == t446)=false:=beq_eq_false_iff_ne.mpr c134
                have c134b1:(t458 != t446)=true:=bne_iff_ne.mpr c134
                by_cases c137:a5=t445
                ·rw [if_pos c137] at H
                 have c137b0:(a5 == t445)=true:=beq_iff_eq.mpr c137
                 have c137b1:(a5 != t445)=false:=bne_eq_false_iff_eq.mpr c137
                 clear c137
                 have H':=A0_ H
                 clear H;go_wp2
                 go_meet
                 case rel=>exact ⟨_,((t458 != t446)),y4_,H',⟨by have:=HJ6.out;have:=HJ80.out;have:=HJ116.out;first|omega|exact Nat.le_refl _⟩,⟨by (with_reducible repeat (first|apply Kd.R_alloc|apply Kd.R_drewN|apply Kd.R_drew));exact HO_13.out⟩,⟨by (with_reducible repeat (first|refine blk_drewN ?_ _|refine blk_drew ?_|refine blk_alloc ?_ _));exact BK430.out⟩,⟨(by repeat (first|(with_reducible first|exact HB.out|apply below_alloc|apply pw_below_drewN|apply below_drew1|refine below_set ?_ GE430.out)|exact HB.out))⟩⟩
                ·rw [if_neg c137] at H
                 have c137b0:(a5 == t445)=false:=beq_eq_false_iff_ne.mpr c137
                 have c137b1:(a5 != t445)=true:=bne_iff_ne.mpr c137
                 have H':=A0_ H
                 clear H;go_wp2
                 go_meet
                 case rel=>exact ⟨_,(false),y4_,H',⟨by have:=HJ6.out;have:=HJ80.out;have:=HJ116.out;first|omega|exact Nat.le_refl _⟩,⟨by (with_reducible repeat (first|apply Kd.R_alloc|apply Kd.R_drewN|apply Kd.R_drew));exact HO_13.out⟩,⟨by (with_reducible repeat (first|refine blk_drewN ?_ _|refine blk_drew ?_|refine blk_alloc ?_ _));exact BK430.out⟩,⟨(by repeat (first|(with_reducible first|exact HB.out|apply below_alloc|apply pw_below_drewN|apply below_drew1|refine below_set ?_ GE430.out)|exact HB.out))⟩⟩
             case rest=>
              clear HC131;(try clear c1);(try clear c2);(try clear p2);(try clear c11);(try clear c12);(try clear c13);(try clear c27);(try clear c28);(try clear c29);(try clear c116);(try clear c120);(try clear c129);(try clear c133);(try clear c133b0);(try clear c134);(try clear c134b0);(try clear c134b1);(try clear c135);(try clear c135b0);(try clear c136);(try clear c136b0);(try clear c136b1);(try clear c137);(try clear c137b0);(try clear c137b1);(try clear hcz49_2);(try clear hcz49_3);(try clear hcz51_0);(try clear hcz51_1);(try clear hcz51_2);(try clear hcz51_3);(try clear hcz53_0);(try clear hcz53_1);(try clear hcz53_2);(try clear hcz53_3);(try clear hcz55_0);(try clear hcz55_1);(try clear hcz55_2);(try clear hcz55_3);(try clear hcz57_0);(try clear hcz57_1);(try clear hcz57_2);(try clear hcz57_3);(try clear hcz59_0);(try clear hcz59_1);(try clear hcz59_2);(try clear hcz59_3);(try clear hcz61_0);(try clear hcz61_1);(try clear hcz61_2);(try clear hcz61_3);(try clear hcz63_0);(try clear hcz63_1);(try clear hcz63_2);(try clear hcz63_3);(try clear hcz65_0);(try clear hcz65_1);(try clear hcz65_2);(try clear hcz65_3);(try clear hcz67_0);(try clear hcz67_1);(try clear hcz67_2);(try clear hcz67_3);(try clear hcz69_0);(try clear hcz69_1);(try clear hcz69_2);(try clear hcz69_3);(try clear hcz71_0);(try clear hcz71_1);(try clear hcz71_2);(try clear hcz71_3);(try clear hcz82_0);(try clear hcz82_1);(try clear hcz82_2);(try clear hcz82_3);(try clear hcz84_0);(try clear hcz84_1);(try clear hcz84_2);(try clear hcz84_3);(try clear hcz86_0);(try clear hcz86_1);(try clear hcz86_2);(try clear hcz86_3);(try clear hcz88_0);(try clear hcz88_1);(try clear hcz88_2);(try clear hcz88_3);(try clear hcz90_0);(try clear hcz90_1);(try clear hcz90_2);(try clear hcz90_3);(try clear hfz18_0);(try clear hfz18_1);(try clear hfz18_2);(try clear hfz18_3);(try clear hfz20_0);(try clear hfz20_1);(try clear hfz20_2);(try clear hfz20_3);(try clear hfz22_0);(try clear hfz22_1);(try clear hfz22_2);(try clear hfz22_3);(try clear hfz24_0);(try clear hfz24_1);(try clear hfz24_2);(try clear hfz24_3);(try clear hfz29_0);(try clear hfz29_1);(try clear hfz29_2);(try clear hfz29_3);(try clear hfz31_0);(try clear hfz31_1);(try clear hfz31_2);(try clear hfz31_3);(try clear hfz33_0);(try clear hfz33_1);(try clear hfz33_2);(try clear hfz33_3);(try clear hfz35_0);(try clear hfz35_1);(try clear hfz35_2);(try clear hfz35_3);(try clear hfz37_0);(try clear hfz37_1);(try clear hfz37_2);(try clear hfz37_3);(try clear hfz39_0);(try clear hfz39_1);(try clear hfz39_2);(try clear hfz39_3);(try clear hfz41_0);(try clear hfz41_1);(try clear hfz41_2);(try clear hfz41_3);(try clear hfz43_0);(try clear hfz43_1);(try clear hfz43_2);(try clear hfz43_3);(try clear hfz45_0);(try clear hfz45_1);(try clear hfz45_2);(try clear hfz45_3);(try clear hfz47_0);(try clear hfz47_1);(try clear hfz47_2)
              (try clear hfz47_3);(try clear hfz49_0);(try clear hfz49_1);(try clear hfz49_2);(try clear hfz49_3);(try clear hfz51_0);(try clear hfz51_1);(try clear hfz51_2);(try clear hfz51_3);(try clear hfz53_0);(try clear hfz53_1);(try clear hfz53_2);(try clear hfz53_3);(try clear hfz55_0);(try clear hfz55_1);(try clear hfz55_2);(try clear hfz55_3);(try clear hfz57_0);(try clear hfz57_1);(try clear hfz57_2);(try clear hfz57_3);(try clear hfz59_0);(try clear hfz59_1);(try clear hfz59_2);(try clear hfz59_3);(try clear hfz61_0);(try clear hfz61_1);(try clear hfz61_2);(try clear hfz61_3);(try clear hfz63_0);(try clear hfz63_1);(try clear hfz63_2);(try clear hfz63_3);(try clear hfz65_0);(try clear hfz65_1);(try clear hfz65_2);(try clear hfz65_3);(try clear hfz67_0);(try clear hfz67_1);(try clear hfz67_2);(try clear hfz67_3);(try clear hfz69_0);(try clear hfz69_1);(try clear hfz69_2);(try clear hfz69_3);(try clear hfz71_0);(try clear hfz71_1);(try clear hfz71_2);(try clear hfz71_3);(try clear hfz82_0);(try clear hfz82_1);(try clear hfz82_2);(try clear hfz82_3);(try clear hfz84_0);(try clear hfz84_1);(try clear hfz84_2);(try clear hfz84_3);(try clear hfz86_0);(try clear hfz86_1);(try clear hfz86_2);(try clear hfz86_3);(try clear hfz88_0);(try clear hfz88_1);(try clear hfz88_2);(try clear hfz88_3);(try clear hfz90_0);(try clear hfz90_1);(try clear hfz90_2);(try clear hfz90_3);(try clear p2)
              obtain ⟨kq,x201_130,rfl,HA,HJ130,HO_13,BK430,HB⟩:=hcut
              cases kq with
              |zero=>exact absurd HA.out (by simp [tl_SkyMet.j3])
              |succ kj130=>
               have H:=HA.out
               clear HA
               simp only [tl_SkyMet.j3] at H
               ·as_aux_lemma=>
                by_cases c138:x201_130=true
                ·subst c138
                 have H1:(some false)=some r:=by rw [if_pos rfl] at H;exact H
                 clear H;have H:=H1;clear H1;obtain rfl:=Option.some.inj H;go_wp2;go_ret
                 exact ⟨y2_,(by repeat (first|(with_reducible first|exact HB.out|apply below_alloc|apply pw_below_drewN|apply below_drew1|refine below_set ?_ GE430.out)|exact HB.out))⟩
                ·replace c138:=Bool.eq_false_iff.mpr c138;subst c138
                 have H1:(if a1 > 1 then (tl_SkyMet.j4 kj130 a5 t437 true l0_0 a0_1 a0_2 a0_3) else (tl_SkyMet.j4 kj130 a5 t437 (decide (a2 > 1)) l0_0 a0_1 a0_2 a0_3))=some r:=by rw [if_neg (show ¬ (false=true) by decide)] at H;exact H
                 clear H;have H:=H1;clear H1;have HC139:=A0_ H;clear H
                 go_upto_region 15 with (fail)
                 go_cut [207] (fun v207 wc=>∃ (kq:Nat) (x207_138:Bool),v207=.bool x207_138∧Aside0 (tl_SkyMet.j4 kq a5 t437 x207_138 l0_0 a0_1 a0_2 a0_3=some r)∧Aside0 (kq≤kj130)∧Aside0 (Kd.R (Kd.int .i64) 3 wc w.heap.size (fun _=>True) v438 t437)∧Aside0 (wc.heap[gb430]?=some (.cells #[(.slice A0_0 l0_0.length c0_0),.int .i64 a0_1,.int .i64 a0_2,.int .i64 a0_3] 29 (0,0)))∧Aside0 (Below w.heap.size w wc))
                 case first=>
                  have H:=HC139.out
                  clear HC139
                  by_cases c140:a1 > 1
                  ·rw [if_pos c140] at H;have c140b0:decide (1<a1)=true:=decide_eq_true c140;clear c140
                   (first|rw [c140b0]|(simp only [i64_w,i32_w];rw [c140b0])|skip)
                   have H':=A0_ H
                   clear H;go_wp2
                   go_meet
                   case rel=>exact ⟨_,(true),y4_,H',⟨by have:=HJ6.out;have:=HJ80.out;have:=HJ116.out;have:=HJ130.out;first|omega|exact Nat.le_refl _⟩,⟨by (with_reducible repeat (first|apply Kd.R_alloc|apply Kd.R_drewN|apply Kd.R_drew));exact HO_13.out⟩,⟨by (with_reducible repeat (first|refine blk_drewN ?_ _|refine blk_drew ?_|refine blk_alloc ?_ _));exact BK430.out⟩,⟨(by repeat (first|(with_reducible first|exact HB.out|apply below_alloc|apply pw_below_drewN|apply below_drew1|refine below_set ?_ GE430.out)|exact HB.out))⟩⟩
                  ·rw [if_neg c140] at H;have c140b0:decide (1<a1)=false:=decide_eq_false c140;clear c140
                   (first|rw [c140b0]|(simp only [i64_w,i32_w];rw [c140b0])|skip)
                   have H':=A0_ H
                   clear H;go_wp2
                   go_meet
                   case rel=>exact ⟨_,(decide (a2 > 1)),y4_,H',⟨by have:=HJ6.out;have:=HJ80.out;have:=HJ116.out;have:=HJ130.out;first|omega|exact Nat.le_refl _⟩,⟨by (with_reducible repeat (first|apply Kd.R_alloc|apply Kd.R_drewN|apply Kd.R_drew));exact HO_13.out⟩,⟨by (with_reducible repeat (first|refine blk_drewN ?_ _|refine blk_drew ?_|refine blk_alloc ?_ _));exact BK430.out⟩,⟨(by repeat (first|(with_reducible first|exact HB.out|apply below_alloc|apply pw_below_drewN|apply below_drew1|refine below_set ?_ GE430.out)|exact HB.out))⟩⟩
                 case rest=>
                  clear HC139;(try clear c1);(try clear c2);(try clear p2);(try clear c11);(try clear c12);(try clear c13);(try clear c14);(try clear c27);(try clear c28);(try clear c29);(try clear c116);(try clear c120);(try clear c129);(try clear c133);(try clear c133b0);(try clear c134);(try clear c134b0);(try clear c134b1);(try clear c135);(try clear c135b0);(try clear c136);(try clear c136b0);(try clear c136b1);(try clear c137);(try clear c137b0);(try clear c137b1);(try clear c138);(try clear c140);(try clear c140b0);(try clear hcz49_2);(try clear hcz49_3);(try clear hcz51_0);(try clear hcz51_1);(try clear hcz51_2);(try clear hcz51_3);(try clear hcz53_0);(try clear hcz53_1);(try clear hcz53_2);(try clear hcz53_3);(try clear hcz55_0);(try clear hcz55_1);(try clear hcz55_2);(try clear hcz55_3);(try clear hcz57_0);(try clear hcz57_1);(try clear hcz57_2);(try clear hcz57_3);(try clear hcz59_0);(try clear hcz59_1);(try clear hcz59_2);(try clear hcz59_3);(try clear hcz61_0);(try clear hcz61_1);(try clear hcz61_2);(try clear hcz61_3);(try clear hcz63_0);(try clear hcz63_1);(try clear hcz63_2);(try clear hcz63_3);(try clear hcz65_0);(try clear hcz65_1);(try clear hcz65_2);(try clear hcz65_3);(try clear hcz67_0);(try clear hcz67_1);(try clear hcz67_2);(try clear hcz67_3);(try clear hcz69_0);(try clear hcz69_1);(try clear hcz69_2);(try clear hcz69_3);(try clear hcz71_0);(try clear hcz71_1);(try clear hcz71_2);(try clear hcz71_3);(try clear hcz82_0);(try clear hcz82_1);(try clear hcz82_2);(try clear hcz82_3);(try clear hcz84_0);(try clear hcz84_1);(try clear hcz84_2);(try clear hcz84_3);(try clear hcz86_0);(try clear hcz86_1);(try clear hcz86_2);(try clear hcz86_3);(try clear hcz88_0);(try clear hcz88_1);(try clear hcz88_2);(try clear hcz88_3);(try clear hcz90_0);(try clear hcz90_1);(try clear hcz90_2);(try clear hcz90_3);(try clear hfz18_0);(try clear hfz18_1);(try clear hfz18_2);(try clear hfz18_3);(try clear hfz20_0);(try clear hfz20_1);(try clear hfz20_2);(try clear hfz20_3);(try clear hfz22_0);(try clear hfz22_1);(try clear hfz22_2);(try clear hfz22_3);(try clear hfz24_0);(try clear hfz24_1);(try clear hfz24_2);(try clear hfz24_3);(try clear hfz29_0);(try clear hfz29_1);(try clear hfz29_2);(try clear hfz29_3);(try clear hfz31_0);(try clear hfz31_1);(try clear hfz31_2);(try clear hfz31_3);(try clear hfz33_0);(try clear hfz33_1);(try clear hfz33_2);(try clear hfz33_3);(try clear hfz35_0);(try clear hfz35_1);(try clear hfz35_2);(try clear hfz35_3);(try clear hfz37_0);(try clear hfz37_1);(try clear hfz37_2);(try clear hfz37_3);(try clear hfz39_0);(try clear hfz39_1);(try clear hfz39_2);(try clear hfz39_3);(try clear hfz41_0);(try clear hfz41_1);(try clear hfz41_2);(try clear hfz41_3);(try clear hfz43_0);(try clear hfz43_1);(try clear hfz43_2);(try clear hfz43_3);(try clear hfz45_0);(try clear hfz45_1);(try clear hfz45_2);(try clear hfz45_3)
                  (try clear hfz47_0);(try clear hfz47_1);(try clear hfz47_2);(try clear hfz47_3);(try clear hfz49_0);(try clear hfz49_1);(try clear hfz49_2);(try clear hfz49_3);(try clear hfz51_0);(try clear hfz51_1);(try clear hfz51_2);(try clear hfz51_3);(try clear hfz53_0);(try clear hfz53_1);(try clear hfz53_2);(try clear hfz53_3);(try clear hfz55_0);(try clear hfz55_1);(try clear hfz55_2);(try clear hfz55_3);(try clear hfz57_0);(try clear hfz57_1);(try clear hfz57_2);(try clear hfz57_3);(try clear hfz59_0);(try clear hfz59_1);(try clear hfz59_2);(try clear hfz59_3);(try clear hfz61_0);(try clear hfz61_1);(try clear hfz61_2);(try clear hfz61_3);(try clear hfz63_0);(try clear hfz63_1);(try clear hfz63_2);(try clear hfz63_3);(try clear hfz65_0);(try clear hfz65_1);(try clear hfz65_2);(try clear hfz65_3);(try clear hfz67_0);(try clear hfz67_1);(try clear hfz67_2);(try clear hfz67_3);(try clear hfz69_0);(try clear hfz69_1);(try clear hfz69_2);(try clear hfz69_3);(try clear hfz71_0);(try clear hfz71_1);(try clear hfz71_2);(try clear hfz71_3);(try clear hfz82_0);(try clear hfz82_1);(try clear hfz82_2);(try clear hfz82_3);(try clear hfz84_0);(try clear hfz84_1);(try clear hfz84_2);(try clear hfz84_3);(try clear hfz86_0);(try clear hfz86_1);(try clear hfz86_2);(try clear hfz86_3);(try clear hfz88_0);(try clear hfz88_1);(try clear hfz88_2);(try clear hfz88_3);(try clear hfz90_0);(try clear hfz90_1);(try clear hfz90_2);(try clear hfz90_3);(try clear p2)
                  obtain ⟨kq,x207_138,rfl,HA,HJ138,HO_13,BK430,HB⟩:=hcut
                  cases kq with
                  |zero=>exact absurd HA.out (by simp [tl_SkyMet.j4])
                  |succ kj138=>
                   have H:=HA.out
                   clear HA
                   simp only [tl_SkyMet.j4] at H
                   ·as_aux_lemma=>
                    by_cases c141:x207_138=true
                    ·subst c141
                     have H1:((tl_known.f).bind fun t459=>(some t459))=some r:=by rw [if_pos rfl] at H;exact H
                     clear H;have H:=H1;clear H1;replace H:=Option.bind_eq_some_iff.mp H;obtain ⟨t459,A1420,H⟩:=H
                     replace H:(some t459)=some r:=H
                     have A142:=A0_ A1420;clear A1420;obtain rfl:=Option.some.inj H
                     go_wp2_with (first|((with_reducible refine gate_callee (f:=11) rfl ?_);refine goesL_ (some 208) rfl rfl Tryz.func11 (by kernel_rfl) rfl #[] rfl y1_ ?_;(with_reducible refine (tl_known.calls  t459 _ A142.out ?side1).mono ?_);(case side1=>exact LD.below HLD.out (by repeat (first|(with_reducible first|exact HB.out|apply below_alloc|apply pw_below_drewN|apply below_drew1|refine below_set ?_ GE430.out)|exact HB.out)));rintro e w143 ⟨rfl,hb⟩;refine ⟨_,rfl,?_⟩;have n0_:=A0_ (Kd.R_below (rd_ HO_13.out) hb);have n1_:=A0_ (blk_below (g:=gb430) (o:=.cells #[.slice A0_0 l0_0.length c0_0,.int .i64 a0_1,.int .i64 a0_2,.int .i64 a0_3] 29 (0,0)) (bd_ BK430.out) hb);have n2_:=A0_ (below_step (by repeat (first|(with_reducible first|exact HB.out|apply below_alloc|apply pw_below_drewN|apply below_drew1|refine below_set ?_ GE430.out)|exact HB.out)) hb);clear HO_13;clear BK430;clear HB;have HO_13:=n0_;have BK430:=n1_;have HB:=n2_;clear n0_ n1_ n2_;(try clear hb);(try clear hb2);(try clear hk);(try clear hi)))
                     go_ret
                     exact ⟨y2_,(by repeat (first|(with_reducible first|exact HB.out|apply below_alloc|apply pw_below_drewN|apply below_drew1|refine below_set ?_ GE430.out)|exact HB.out))⟩
                    ·replace c141:=Bool.eq_false_iff.mpr c141;subst c141
                     have H1:((sky_Moons.f kj138 l0_0 a0_1 a0_2 a0_3 a5 a5).bind fun bt460=>(if bt460.2=0 then (if (bt460.1.length:Int)≤2 then ((tl_listed.f kj138 bt460.1 a5 false).bind fun t464=>(if t464=true then ((tl_has.f kj138 t437 a5).bind fun t465=>(if t465=true then ((tl_known.f).bind fun t466=>(some t466)) else (some false))) else ((tl_known.f).bind fun t467=>(some t467)))) else (some false)) else (some false)))=some r:=by rw [if_neg (show ¬ (false=true) by decide)] at H;exact H
                     clear H;have H:=H1;clear H1;replace H:=Option.bind_eq_some_iff.mp H
                     obtain ⟨⟨t460,t463⟩,A1440,H⟩:=H
                     replace H:(if t463=0 then (if (t460.length:Int)≤2 then ((tl_listed.f kj138 t460 a5 false).bind fun t464=>(if t464=true then ((tl_has.f kj138 t437 a5).bind fun t465=>(if t465=true then ((tl_known.f).bind fun t466=>(some t466)) else (some false))) else ((tl_known.f).bind fun t467=>(some t467)))) else (some false)) else (some false))=some r:=H
                     have A144:=A0_ A1440;clear A1440
                     by_cases c145:t463=0
                     ·rw [if_pos c145] at H
                      have c145b0:(t463 == 0)=true:=beq_iff_eq.mpr c145
                      have c145b1:(t463 != 0)=false:=bne_eq_false_iff_eq.mpr c145
                      clear c145
                      by_cases c146:(t460.length:Int)≤2
                      ·as_aux_lemma=>
                       rw [if_pos c146] at H;have c146b0:decide ((t460.length:Int)≤2)=true:=decide_eq_true c146
                       have c146b1:decide (t460.length≤2)=true:=decide_eq_true (by omega)
                       clear c146;replace H:=Option.bind_eq_some_iff.mp H;obtain ⟨t464,A1470,H⟩:=H
                       replace H:(if t464=true then ((tl_has.f kj138 t437 a5).bind fun t465=>(if t465=true then ((tl_known.f).bind fun t466=>(some t466)) else (some false))) else ((tl_known.f).bind fun t467=>(some t467)))=some r:=H
                       have A147:=A0_ A1470;clear A1470
                       by_cases c148:t464=true
                       ·subst c148
                        have H1:((tl_has.f kj138 t437 a5).bind fun t465=>(if t465=true then ((tl_known.f).bind fun t466=>(some t466)) else (some false)))=some r:=by rw [if_pos rfl] at H;exact H
                        clear H;have H:=H1;clear H1;replace H:=Option.bind_eq_some_iff.mp H;obtain ⟨t465,A1490,H⟩:=H
                        replace H:(if t465=true then ((tl_known.f).bind fun t466=>(some t466)) else (some false))=some r:=H
                        have A149:=A0_ A1490;clear A1490
                        by_cases c150:t465=true
                        ·subst c150
                         have H1:((tl_known.f).bind fun t466=>(some t466))=some r:=by rw [if_pos rfl] at H;exact H
                         clear H;have H:=H1;clear H1;replace H:=Option.bind_eq_some_iff.mp H;obtain ⟨t466,A1510,H⟩:=H
                         replace H:(some t466)=some r:=H
                         have A151:=A0_ A1510;clear A1510;obtain rfl:=Option.some.inj H;obtain ⟨hcz152_0,hcz152_1,hcz152_2,hcz152_3,hfz152_0,hfz152_1,hfz152_2,hfz152_3⟩:=bq4_ BK430.out
                         go_wp2_with (first|((with_reducible refine gate_callee (f:=30) rfl ?_);refine goesL_ (some 213) rfl rfl Tryz.func30 (by kernel_rfl) rfl #[.agg #[.slice A0_0 l0_0.length c0_0,.int .i64 a0_1,.int .i64 a0_2,.int .i64 a0_3],.int .i64 a5,.int .i64 a5] rfl y1_ ?_;(with_reducible refine (sky_Moons.calls kj138 _ _ l0_0 a0_1 a0_2 a0_3 a5 a5 t460 t463 _ ?side1 ?side2 A144.out).mono ?_);(case side1=>repeat (first|exact (Kd.C_below HR0_0.out HB.out)|(with_reducible refine Kd.C_alloc ?_ _)|(with_reducible refine Kd.C_drewN ?_ _)|(with_reducible refine Kd.C_drew ?_)));(case side2=>exact HC0_0.out);rintro e w153 ⟨v461,rfl,ho0,hb⟩;refine ⟨_,rfl,?_⟩;have n0_:=A0_ (Kd.R_below (rd_ HO_13.out) hb);have n1_:=A0_ (Kd.R_lower ho0 (below_size (by repeat (first|(with_reducible first|exact HB.out|apply below_alloc|apply pw_below_drewN|apply below_drew1|refine below_set ?_ GE430.out)|exact HB.out))));have n2_:=A0_ (blk_below (g:=gb430) (o:=.cells #[.slice A0_0 l0_0.length c0_0,.int .i64 a0_1,.int .i64 a0_2,.int .i64 a0_3] 29 (0,0)) (bd_ BK430.out) hb);have n3_:=A0_ (below_step (by repeat (first|(with_reducible first|exact HB.out|apply below_alloc|apply pw_below_drewN|apply below_drew1|refine below_set ?_ GE430.out)|exact HB.out)) hb);clear HO_13;clear BK430;clear HB;have HO_13:=n0_;have HO462:=n1_;have BK430:=n2_;have HB:=n3_;clear n0_ n1_ n2_ n3_;(try clear hb);(try clear hb2);(try clear hk);(try clear hi);(try clear ho0);obtain ⟨Ao154,co154,eo154⟩:=Kd.R_slice HO462.out;subst eo154)|(go_at_call 31;(with_reducible refine (tl_listed.calls kj138 _ _ t460 a5 false true _ ?side1 ?side2 A147.out).mono ?_);(case side1=>repeat (first|exact (Kd.R_reads' HO462.out).2.2|(with_reducible refine Kd.C_alloc ?_ _)|(with_reducible refine Kd.C_drewN ?_ _)|(with_reducible refine Kd.C_drew ?_)));(case side2=>exact (Kd.R_reads' HO462.out).2.1);rintro e w' ⟨rfl,⟨nd,rfl⟩⟩;obtain ⟨Ao155,co155,eo155⟩:=Kd.R_slice HO_13.out;subst eo155)|(go_at_call 27;(with_reducible refine (tl_has.calls kj138 _ _ t437 a5 true _ ?side1 ?side2 A149.out).mono ?_);(case side1=>repeat (first|exact (Kd.R_reads' HO_13.out).2.2|(with_reducible refine Kd.C_alloc ?_ _)|(with_reducible refine Kd.C_drewN ?_ _)|(with_reducible refine Kd.C_drew ?_)));(case side2=>exact (Kd.R_reads' HO_13.out).2.1);rintro e w' ⟨rfl,⟨nd,rfl⟩⟩)|(go_at_call 11;(with_reducible refine (tl_known.calls  t466 _ A151.out ?side1).mono ?_);(case side1=>exact LD.below HLD.out (by repeat (first|(with_reducible first|exact HB.out|apply below_alloc|apply pw_below_drewN|apply below_drew1|refine below_set ?_ GE430.out)|exact HB.out)));rintro e w156 ⟨rfl,hb⟩;have n0_:=A0_ (Kd.R_below (rd_ HO_13.out) hb);have n1_:=A0_ (Kd.R_below (rd_ HO462.out) hb);have n2_:=A0_ (blk_below (g:=gb430) (o:=.cells #[.slice A0_0 l0_0.length c0_0,.int .i64 a0_1,.int .i64 a0_2,.int .i64 a0_3] 29 (0,0)) (bd_ BK430.out) hb);have n3_:=A0_ (below_step (by repeat (first|(with_reducible first|exact HB.out|apply below_alloc|apply pw_below_drewN|apply below_drew1|refine below_set ?_ GE430.out)|exact HB.out)) hb);clear HO_13;clear HO462;clear BK430;clear HB;have HO_13:=n0_;have HO462:=n1_;have BK430:=n2_;have HB:=n3_;clear n0_ n1_ n2_ n3_;(try clear hb);(try clear hb2);(try clear hk);(try clear hi)))
                         go_ret
                         exact ⟨y2_,(by repeat (first|(with_reducible first|exact HB.out|apply below_alloc|apply pw_below_drewN|apply below_drew1|refine below_set ?_ GE430.out)|exact HB.out))⟩
                        ·replace c150:=Bool.eq_false_iff.mpr c150;subst c150
                         have H1:(some false)=some r:=by rw [if_neg (show ¬ (false=true) by decide)] at H;exact H
                         clear H;have H:=H1;clear H1;obtain rfl:=Option.some.inj H;obtain ⟨hcz157_0,hcz157_1,hcz157_2,hcz157_3,hfz157_0,hfz157_1,hfz157_2,hfz157_3⟩:=bq4_ BK430.out
                         go_wp2_with (first|((with_reducible refine gate_callee (f:=30) rfl ?_);refine goesL_ (some 213) rfl rfl Tryz.func30 (by kernel_rfl) rfl #[.agg #[.slice A0_0 l0_0.length c0_0,.int .i64 a0_1,.int .i64 a0_2,.int .i64 a0_3],.int .i64 a5,.int .i64 a5] rfl y1_ ?_;(with_reducible refine (sky_Moons.calls kj138 _ _ l0_0 a0_1 a0_2 a0_3 a5 a5 t460 t463 _ ?side1 ?side2 A144.out).mono ?_);(case side1=>repeat (first|exact (Kd.C_below HR0_0.out HB.out)|(with_reducible refine Kd.C_alloc ?_ _)|(with_reducible refine Kd.C_drewN ?_ _)|(with_reducible refine Kd.C_drew ?_)));(case side2=>exact HC0_0.out);rintro e w158 ⟨v461,rfl,ho0,hb⟩;refine ⟨_,rfl,?_⟩;have n0_:=A0_ (Kd.R_below (rd_ HO_13.out) hb);have n1_:=A0_ (Kd.R_lower ho0 (below_size (by repeat (first|(with_reducible first|exact HB.out|apply below_alloc|apply pw_below_drewN|apply below_drew1|refine below_set ?_ GE430.out)|exact HB.out))));have n2_:=A0_ (blk_below (g:=gb430) (o:=.cells #[.slice A0_0 l0_0.length c0_0,.int .i64 a0_1,.int .i64 a0_2,.int .i64 a0_3] 29 (0,0)) (bd_ BK430.out) hb);have n3_:=A0_ (below_step (by repeat (first|(with_reducible first|exact HB.out|apply below_alloc|apply pw_below_drewN|apply below_drew1|refine below_set ?_ GE430.out)|exact HB.out)) hb);clear HO_13;clear BK430;clear HB;have HO_13:=n0_;have HO462:=n1_;have BK430:=n2_;have HB:=n3_;clear n0_ n1_ n2_ n3_;(try clear hb);(try clear hb2);(try clear hk);(try clear hi);(try clear ho0);obtain ⟨Ao159,co159,eo159⟩:=Kd.R_slice HO462.out;subst eo159)|(go_at_call 31;(with_reducible refine (tl_listed.calls kj138 _ _ t460 a5 false true _ ?side1 ?side2 A147.out).mono ?_);(case side1=>repeat (first|exact (Kd.R_reads' HO462.out).2.2|(with_reducible refine Kd.C_alloc ?_ _)|(with_reducible refine Kd.C_drewN ?_ _)|(with_reducible refine Kd.C_drew ?_)));(case side2=>exact (Kd.R_reads' HO462.out).2.1);rintro e w' ⟨rfl,⟨nd,rfl⟩⟩;obtain ⟨Ao160,co160,eo160⟩:=Kd.R_slice HO_13.out;subst eo160)|(go_at_call 27;(with_reducible refine (tl_has.calls kj138 _ _ t437 a5 false _ ?side1 ?side2 A149.out).mono ?_);(case side1=>repeat (first|exact (Kd.R_reads' HO_13.out).2.2|(with_reducible refine Kd.C_alloc ?_ _)|(with_reducible refine Kd.C_drewN ?_ _)|(with_reducible refine Kd.C_drew ?_)));(case side2=>exact (Kd.R_reads' HO_13.out).2.1);rintro e w' ⟨rfl,⟨nd,rfl⟩⟩))
                         go_ret
                         exact ⟨y2_,(by repeat (first|(with_reducible first|exact HB.out|apply below_alloc|apply pw_below_drewN|apply below_drew1|refine below_set ?_ GE430.out)|exact HB.out))⟩
                       ·replace c148:=Bool.eq_false_iff.mpr c148;subst c148
                        have H1:((tl_known.f).bind fun t467=>(some t467))=some r:=by rw [if_neg (show ¬ (false=true) by decide)] at H;exact H
                        clear H;have H:=H1;clear H1;replace H:=Option.bind_eq_some_iff.mp H;obtain ⟨t467,A1610,H⟩:=H
                        replace H:(some t467)=some r:=H
                        have A161:=A0_ A1610;clear A1610;obtain rfl:=Option.some.inj H;obtain ⟨hcz162_0,hcz162_1,hcz162_2,hcz162_3,hfz162_0,hfz162_1,hfz162_2,hfz162_3⟩:=bq4_ BK430.out
                        go_wp2_with (first|((with_reducible refine gate_callee (f:=30) rfl ?_);refine goesL_ (some 213) rfl rfl Tryz.func30 (by kernel_rfl) rfl #[.agg #[.slice A0_0 l0_0.length c0_0,.int .i64 a0_1,.int .i64 a0_2,.int .i64 a0_3],.int .i64 a5,.int .i64 a5] rfl y1_ ?_;(with_reducible refine (sky_Moons.calls kj138 _ _ l0_0 a0_1 a0_2 a0_3 a5 a5 t460 t463 _ ?side1 ?side2 A144.out).mono ?_);(case side1=>repeat (first|exact (Kd.C_below HR0_0.out HB.out)|(with_reducible refine Kd.C_alloc ?_ _)|(with_reducible refine Kd.C_drewN ?_ _)|(with_reducible refine Kd.C_drew ?_)));(case side2=>exact HC0_0.out);rintro e w163 ⟨v461,rfl,ho0,hb⟩;refine ⟨_,rfl,?_⟩;have n0_:=A0_ (Kd.R_below (rd_ HO_13.out) hb);have n1_:=A0_ (Kd.R_lower ho0 (below_size (by repeat (first|(with_reducible first|exact HB.out|apply below_alloc|apply pw_below_drewN|apply below_drew1|refine below_set ?_ GE430.out)|exact HB.out))));have n2_:=A0_ (blk_below (g:=gb430) (o:=.cells #[.slice A0_0 l0_0.length c0_0,.int .i64 a0_1,.int .i64 a0_2,.int .i64 a0_3] 29 (0,0)) (bd_ BK430.out) hb);have n3_:=A0_ (below_step (by repeat (first|(with_reducible first|exact HB.out|apply below_alloc|apply pw_below_drewN|apply below_drew1|refine below_set ?_ GE430.out)|exact HB.out)) hb);clear HO_13;clear BK430;clear HB;have HO_13:=n0_;have HO462:=n1_;have BK430:=n2_;have HB:=n3_;clear n0_ n1_ n2_ n3_;(try clear hb);(try clear hb2);(try clear hk);(try clear hi);(try clear ho0);obtain ⟨Ao164,co164,eo164⟩:=Kd.R_slice HO462.out;subst eo164)|(go_at_call 31;(with_reducible refine (tl_listed.calls kj138 _ _ t460 a5 false false _ ?side1 ?side2 A147.out).mono ?_);(case side1=>repeat (first|exact (Kd.R_reads' HO462.out).2.2|(with_reducible refine Kd.C_alloc ?_ _)|(with_reducible refine Kd.C_drewN ?_ _)|(with_reducible refine Kd.C_drew ?_)));(case side2=>exact (Kd.R_reads' HO462.out).2.1);rintro e w' ⟨rfl,⟨nd,rfl⟩⟩)|(go_at_call 11;(with_reducible refine (tl_known.calls  t467 _ A161.out ?side1).mono ?_);(case side1=>exact LD.below HLD.out (by repeat (first|(with_reducible first|exact HB.out|apply below_alloc|apply pw_below_drewN|apply below_drew1|refine below_set ?_ GE430.out)|exact HB.out)));rintro e w165 ⟨rfl,hb⟩;have n0_:=A0_ (Kd.R_below (rd_ HO_13.out) hb);have n1_:=A0_ (Kd.R_below (rd_ HO462.out) hb);have n2_:=A0_ (blk_below (g:=gb430) (o:=.cells #[.slice A0_0 l0_0.length c0_0,.int .i64 a0_1,.int .i64 a0_2,.int .i64 a0_3] 29 (0,0)) (bd_ BK430.out) hb);have n3_:=A0_ (below_step (by repeat (first|(with_reducible first|exact HB.out|apply below_alloc|apply pw_below_drewN|apply below_drew1|refine below_set ?_ GE430.out)|exact HB.out)) hb);clear HO_13;clear HO462;clear BK430;clear HB;have HO_13:=n0_;have HO462:=n1_;have BK430:=n2_;have HB:=n3_;clear n0_ n1_ n2_ n3_;(try clear hb);(try clear hb2);(try clear hk);(try clear hi)))
                        go_ret
                        exact ⟨y2_,(by repeat (first|(with_reducible first|exact HB.out|apply below_alloc|apply pw_below_drewN|apply below_drew1|refine below_set ?_ GE430.out)|exact HB.out))⟩
                      ·as_aux_lemma=>
                       rw [if_neg c146] at H;have c146b0:decide ((t460.length:Int)≤2)=false:=decide_eq_false c146
                       have c146b1:decide (t460.length≤2)=false:=decide_eq_false (by omega)
                       clear c146;obtain rfl:=Option.some.inj H;obtain ⟨hcz166_0,hcz166_1,hcz166_2,hcz166_3,hfz166_0,hfz166_1,hfz166_2,hfz166_3⟩:=bq4_ BK430.out
                       go_wp2_with (first|((with_reducible refine gate_callee (f:=30) rfl ?_);refine goesL_ (some 213) rfl rfl Tryz.func30 (by kernel_rfl) rfl #[.agg #[.slice A0_0 l0_0.length c0_0,.int .i64 a0_1,.int .i64 a0_2,.int .i64 a0_3],.int .i64 a5,.int .i64 a5] rfl y1_ ?_;(with_reducible refine (sky_Moons.calls kj138 _ _ l0_0 a0_1 a0_2 a0_3 a5 a5 t460 t463 _ ?side1 ?side2 A144.out).mono ?_);(case side1=>repeat (first|exact (Kd.C_below HR0_0.out HB.out)|(with_reducible refine Kd.C_alloc ?_ _)|(with_reducible refine Kd.C_drewN ?_ _)|(with_reducible refine Kd.C_drew ?_)));(case side2=>exact HC0_0.out);rintro e w167 ⟨v461,rfl,ho0,hb⟩;refine ⟨_,rfl,?_⟩;have n0_:=A0_ (Kd.R_below (rd_ HO_13.out) hb);have n1_:=A0_ (Kd.R_lower ho0 (below_size (by repeat (first|(with_reducible first|exact HB.out|apply below_alloc|apply pw_below_drewN|apply below_drew1|refine below_set ?_ GE430.out)|exact HB.out))));have n2_:=A0_ (blk_below (g:=gb430) (o:=.cells #[.slice A0_0 l0_0.length c0_0,.int .i64 a0_1,.int .i64 a0_2,.int .i64 a0_3] 29 (0,0)) (bd_ BK430.out) hb);have n3_:=A0_ (below_step (by repeat (first|(with_reducible first|exact HB.out|apply below_alloc|apply pw_below_drewN|apply below_drew1|refine below_set ?_ GE430.out)|exact HB.out)) hb);clear HO_13;clear BK430;clear HB;have HO_13:=n0_;have HO462:=n1_;have BK430:=n2_;have HB:=n3_;clear n0_ n1_ n2_ n3_;(try clear hb);(try clear hb2);(try clear hk);(try clear hi);(try clear ho0);obtain ⟨Ao168,co168,eo168⟩:=Kd.R_slice HO462.out;subst eo168))
                       go_ret
                       exact ⟨y2_,(by repeat (first|(with_reducible first|exact HB.out|apply below_alloc|apply pw_below_drewN|apply below_drew1|refine below_set ?_ GE430.out)|exact HB.out))⟩
                     ·as_aux_lemma=>
                      rw [if_neg c145] at H
                      have c145b0:(t463 == 0)=false:=beq_eq_false_iff_ne.mpr c145
                      have c145b1:(t463 != 0)=true:=bne_iff_ne.mpr c145
                      obtain rfl:=Option.some.inj H;obtain ⟨hcz169_0,hcz169_1,hcz169_2,hcz169_3,hfz169_0,hfz169_1,hfz169_2,hfz169_3⟩:=bq4_ BK430.out
                      go_wp2_with (first|((with_reducible refine gate_callee (f:=30) rfl ?_);refine goesL_ (some 213) rfl rfl Tryz.func30 (by kernel_rfl) rfl #[.agg #[.slice A0_0 l0_0.length c0_0,.int .i64 a0_1,.int .i64 a0_2,.int .i64 a0_3],.int .i64 a5,.int .i64 a5] rfl y1_ ?_;(with_reducible refine (sky_Moons.calls kj138 _ _ l0_0 a0_1 a0_2 a0_3 a5 a5 t460 t463 _ ?side1 ?side2 A144.out).mono ?_);(case side1=>repeat (first|exact (Kd.C_below HR0_0.out HB.out)|(with_reducible refine Kd.C_alloc ?_ _)|(with_reducible refine Kd.C_drewN ?_ _)|(with_reducible refine Kd.C_drew ?_)));(case side2=>exact HC0_0.out);rintro e w170 ⟨v461,rfl,ho0,hb⟩;refine ⟨_,rfl,?_⟩;have n0_:=A0_ (Kd.R_below (rd_ HO_13.out) hb);have n1_:=A0_ (Kd.R_lower ho0 (below_size (by repeat (first|(with_reducible first|exact HB.out|apply below_alloc|apply pw_below_drewN|apply below_drew1|refine below_set ?_ GE430.out)|exact HB.out))));have n2_:=A0_ (blk_below (g:=gb430) (o:=.cells #[.slice A0_0 l0_0.length c0_0,.int .i64 a0_1,.int .i64 a0_2,.int .i64 a0_3] 29 (0,0)) (bd_ BK430.out) hb);have n3_:=A0_ (below_step (by repeat (first|(with_reducible first|exact HB.out|apply below_alloc|apply pw_below_drewN|apply below_drew1|refine below_set ?_ GE430.out)|exact HB.out)) hb);clear HO_13;clear BK430;clear HB;have HO_13:=n0_;have HO462:=n1_;have BK430:=n2_;have HB:=n3_;clear n0_ n1_ n2_ n3_;(try clear hb);(try clear hb2);(try clear hk);(try clear hi);(try clear ho0)))
                      go_ret
                      exact ⟨y2_,(by repeat (first|(with_reducible first|exact HB.out|apply below_alloc|apply pw_below_drewN|apply below_drew1|refine below_set ?_ GE430.out)|exact HB.out))⟩
end Go.Proofs.YtjahbgldccjbfaaGreatDoor.PSky
end
section
namespace Go.Proofs.YtjahbgldccjbfaaGreatDoor.PSky
open Go.RowKit Go.Proofs.YtjahbgldccjbfaaGreatDoorW.PrintWords Go.Proofs.YtjahbgldccjbfaaGreatDoorW.PrintLast Go.Proofs.YtjahbgldccjbfaaGreatDoorW.PrintMore
theorem moon_meets {l:List S74} {i j d:Int} (hi:okTwo l i j=true) (h1:¬ i > 1) (h2:¬ j > 1) (hm:isMoon l 0 d=true):meetsOn l i j d=true:=by
 have key:meetsOn l 1 0 d=true:=by
  unfold isMoon at hm
  rw [Int.sub_zero,Int.sub_zero] at hm
  unfold meetsOn
  rw [show aheadI l 1 0 d=aheadOf l 1 0 d from rfl,show aheadI l 1 0 (d - 1)=aheadOf l 1 0 (d - 1) from rfl,hm,Bool.true_or]
 obtain ⟨a,b,rfl,rfl,ha,hb,hab⟩:=two_at hi
 rcases (show (a=1∧b=0)∨(a=0∧b=1) by omega) with ⟨rfl,rfl⟩|⟨rfl,rfl⟩
 ·exact key
 ·rw [meets_swap];exact key
theorem SkyMet_j4 {l:List S74} {p q n:Int} (h:okSky l p q n=true) {i j a b d:Int} (hij:okTwo l i j=true) (hs:okSpan a b=true) (h1:a≤d) (h2:d≤b) (c:Bool) (hc:c=false→¬ i > 1∧¬ j > 1):Ev (fun k=>tl_SkyMet.j4 k d (meetsOf l i j a b) c l p q n) true:=by
 have hsp:=span_of hs
 refine Ev.step (fun k=>by rw [tl_SkyMet.j4]) ?_
 cases c with
 |true=>exact Ev.pos rfl known_ev
 |false=>
  obtain ⟨c1,c2⟩:=hc rfl
  have hlen:=moonOn_length l d
  have hlist:Ev (fun k=>tl_listed.f k (moonOn l d) d false) (isMoon l 0 d):=by
   have:=listedC_ev (moonOn l d) (by omega) d false
   rw [moon_listed] at this
   exact this
  refine Ev.neg (by simp) (Ev.bind (Moons_day h (d:=d) (by omega)) (Ev.pos rfl (Ev.pos (by show ((moonOn l d).length:Int)≤2;omega) (Ev.bind hlist ?_))))
  cases hm:isMoon l 0 d with
  |false=>exact Ev.neg (by simp) known_ev
  |true=>
   have hmt:=moon_meets hij c1 c2 hm
   have l1:(meetsOf l i j a b).length≤(daysOf a b).length:=List.length_filter_le _ _
   have l2:(daysOf a b).length=(b+1 - a).toNat:=by simp [daysOf]
   refine Ev.pos rfl (Ev.bind (hasI_ev _ (by omega) d) ?_)
   rw [has_meets h1 h2,hmt]
   exact Ev.pos rfl known_ev
theorem SkyMet_j3 {l:List S74} {p q n:Int} (h:okSky l p q n=true) {i j a b d:Int} (hij:okTwo l i j=true) (hs:okSpan a b=true) (h1:a≤d) (h2:d≤b) (c:Bool) (hc:c=false):Ev (fun k=>tl_SkyMet.j3 k i j d (meetsOf l i j a b) c l p q n) true:=by
 refine Ev.step (fun k=>by rw [tl_SkyMet.j3]) ?_
 refine Ev.neg (by rw [hc];simp) ?_
 by_cases h3:i > 1
 ·exact Ev.pos h3 (SkyMet_j4 h hij hs h1 h2 true (fun e=>by cases e))
 ·exact Ev.neg h3 (SkyMet_j4 h hij hs h1 h2 _ (fun e=>⟨h3,of_decide_eq_false e⟩))
theorem SkyMet_j2 {l:List S74} {p q n:Int} (h:okSky l p q n=true) {i j a b d:Int} (hij:okTwo l i j=true) (hs:okSpan a b=true) (h1:a≤d) (h2:d≤b) (c:Bool) (hc:c=false):
  Ev (fun k=>tl_SkyMet.j2 k i j d (meetsOf l i j a b) (nearOn l i j a b).1 (nearOn l i j a b).2 (wayOf (rd_T74 l i) d % 21600) (wayOf (rd_T74 l j) d % 21600) c l p q n) true:=by
 have hsp:=span_of hs
 obtain ⟨x,x1,x2,x3,x4,x5⟩:=near_spec l i j hsp.2.1
 rw [x3]
 refine Ev.step (fun k=>by rw [tl_SkyMet.j2]) ?_
 refine Ev.neg (by rw [hc];simp) (Ev.bind (Ev.is (refApart_eq (by omega) (by omega))) ?_)
 have e:gapOf (wayOf (rd_T74 l i) d % 21600 - wayOf (rd_T74 l j) d % 21600)=gapD l i j d:=by
  unfold gapD gapOf aheadI
  rw [← Int.sub_emod]
 rw [e]
 have k1:=x4 d h1 h2
 refine Ev.neg (show ¬ gapD l i j d<gapD l i j x by omega) ?_
 by_cases k2:gapD l i j d=gapD l i j x
 ·have k3:¬ d<x:=fun hh=>by have:=x5 d h1 hh;omega
  refine Ev.pos k2 (Ev.neg k3 ?_)
  by_cases k4:d=x
  ·exact Ev.pos k4 (SkyMet_j3 h hij hs h1 h2 _ (by rw [show gapD l i j d=gapD l i j x from k2];simp))
  ·exact Ev.neg k4 (SkyMet_j3 h hij hs h1 h2 _ rfl)
 ·refine Ev.neg k2 (Ev.neg (fun k4:d=x=>k2 (by rw [k4])) (SkyMet_j3 h hij hs h1 h2 _ rfl))
theorem SkyMet_j1 {l:List S74} {p q n:Int} (h:okSky l p q n=true) {i j a b d:Int} (hij:okTwo l i j=true) (hs:okSpan a b=true) (h1:a≤d) (h2:d≤b) (c:Bool) (hc:c=false):
  Ev (fun k=>tl_SkyMet.j1 k i j d (meetsOf l i j a b) (nearOn l i j a b).1 (nearOn l i j a b).2 (wayOf (rd_T74 l i) d % 21600) (wayOf (rd_T74 l j) d % 21600) c l p q n) true:=by
 have hsp:=span_of hs
 have hji:okTwo l j i=true:=by
  simp only [okTwo,Bool.and_eq_true,bne_iff_ne] at hij ⊢
  exact ⟨hij.2.1,hij.1,fun e=>hij.2.2 e.symm⟩
 have l1:(meetsOf l i j a b).length≤(daysOf a b).length:=List.length_filter_le _ _
 have l2:(daysOf a b).length=(b+1 - a).toNat:=by simp [daysOf]
 have hd:1≤d∧d≤20000:=by omega
 have c1:=crossed_ev h hij hd (half:=0) (Or.inl rfl)
 have c2:=crossed_ev h hji hd (half:=0) (Or.inl rfl)
 rw [Int.sub_zero,Int.sub_zero] at c1 c2
 rw [ahead_swap l i j d,ahead_swap l i j (d - 1)] at c2
 refine Ev.step (fun k=>by rw [tl_SkyMet.j1]) ?_
 refine Ev.neg (by rw [hc];simp) (Ev.bind (hasI_ev _ (by omega) d) (Ev.bind c1 ?_))
 rw [has_meets h1 h2]
 unfold meetsOn
 by_cases k1:aheadI l i j d / 21600 > aheadI l i j (d - 1) / 21600
 ·rw [decide_eq_true k1,Bool.true_or]
  exact Ev.pos rfl (SkyMet_j2 h hij hs h1 h2 _ rfl)
 ·rw [decide_eq_false k1,Bool.false_or]
  exact Ev.neg (by simp) (Ev.bind c2 (SkyMet_j2 h hij hs h1 h2 _ (by simp)))
theorem SkyMet_ev (l:List S74) (p q n i j a b d:Int):Ev (fun k=>tl_SkyMet.f k l p q n i j a b d) true:=by
 obtain ⟨s,hs,hs6⟩:=short_ev l p q n
 have skip:∀ c:Bool,c=true→Ev (fun k=>tl_SkyMet.j0 k i j a b d c l p q n) true:=fun c hc=>by
  refine Ev.step (fun k=>by rw [tl_SkyMet.j0]) ?_
  exact Ev.pos hc known_ev
 unfold tl_SkyMet.f
 refine Ev.bind hs ?_
 cases s with
 |false=>exact Ev.neg (by simp) (skip true rfl)
 |true=>
  have hl:=hs6 rfl
  refine Ev.pos rfl (Ev.bind (refSky_ev l p q n (by omega)) ?_)
  cases h1:okSky l p q n with
  |false=>exact Ev.neg (by simp) (skip true rfl)
  |true=>
   refine Ev.pos rfl (Ev.bind (Ev.is (Body_eq (by omega) p q n i)) ?_)
   cases h2:okBodyN l i with
   |false=>exact Ev.neg (by simp) (skip true rfl)
   |true=>
    refine Ev.pos rfl (Ev.bind (Ev.is (Body_eq (by omega) p q n j)) ?_)
    cases h3:okBodyN l j with
    |false=>exact Ev.neg (by simp) (skip true rfl)
    |true=>
     refine Ev.pos rfl ?_
     by_cases h4:i=j
     ·exact Ev.pos h4 (skip true rfl)
     refine Ev.neg h4 (Ev.bind (Ev.is (Span_eq a b)) ?_)
     cases h5:okSpan a b with
     |false=>exact Ev.neg (by simp) (skip true rfl)
     |true=>
      refine Ev.pos rfl ?_
      by_cases h6:d<a
      ·exact Ev.pos h6 (skip true rfl)
      refine Ev.neg h6 ?_
      by_cases h7:d > b
      ·exact skip _ (decide_eq_true h7)
      rw [decide_eq_false h7]
      have hsp:=span_of h5
      have hij:okTwo l i j=true:=by
       unfold okTwo
       rw [h2,h3]
       simp [h4]
      have hji:okTwo l j i=true:=by
       unfold okTwo
       rw [h2,h3]
       simp only [Bool.true_and,bne_iff_ne]
       exact fun e=>h4 e.symm
      have m1:=Meets_ev l p q n i j a b
      have m2:=Meets_ev l p q n j i a b
      have m3:=Near_ev l p q n i j a b
      have m4:=Place_evG l p q n i d
      have m5:=Place_evG l p q n j d
      rw [if_pos ⟨h1,hij,h5⟩] at m1 m3
      rw [if_pos ⟨h1,hji,h5⟩] at m2
      rw [if_pos ⟨h1,h2,okIn_iff.mpr (by omega)⟩] at m4
      rw [if_pos ⟨h1,h3,okIn_iff.mpr (by omega)⟩] at m5
      have em:meetsOf l j i a b=meetsOf l i j a b:=by
       unfold meetsOf
       exact List.filter_congr fun x _=>meets_swap l i j x
      rw [em] at m2
      have l1:(meetsOf l i j a b).length≤(daysOf a b).length:=List.length_filter_le _ _
      have l2:(daysOf a b).length=(b+1 - a).toNat:=by simp [daysOf]
      obtain ⟨x,x1,x2,x3,-,-⟩:=near_spec l i j hsp.2.1
      have y1:(nearOn l i j a b).1=x:=by rw [x3]
      refine Ev.step (fun k=>by rw [tl_SkyMet.j0]) ?_
      refine Ev.neg (by simp) (Ev.bind m1 (Ev.bind m2 (Ev.bind m3 (Ev.bind m4 (Ev.bind m5 (Ev.pos rfl (Ev.pos rfl (Ev.pos rfl (Ev.pos rfl (Ev.pos rfl ?_))))))))))
      refine Ev.neg (show ¬ ((meetsOf l i j a b).length:Int) > 801 by omega) (Ev.bind (sameI_ev _ (by show (meetsOf l i j a b).length≤1000000;omega)) (Ev.pos rfl ?_))
      refine Ev.neg (show ¬ (nearOn l i j a b).1<a by omega) (Ev.neg (show ¬ (nearOn l i j a b).1 > b by omega) ?_)
      refine Ev.bind (Ev.is (spot_mod _)) (Ev.pos rfl (Ev.bind (Ev.is (spot_mod _)) ?_))
      exact SkyMet_j1 h1 hij h5 (by omega) (by omega) _ rfl
end Go.Proofs.YtjahbgldccjbfaaGreatDoor.PSky
end
section
namespace Go.Proofs.YtjahbgldccjbfaaGreatDoor
open Go.ChangeShapes Go.WideShapes Go.ChangeAt Go.RowKit
set_option maxRecDepth 100000 in
set_option maxHeartbeats 1600000 in
theorem skyMet_lifted (os:Os) (started:os.Started) (H:Type) (enc:TypeId × Value→H) (F:Stop.Interp):
  ReturnsInHanded {} Tryz.checked os 5 .any ((OpenSpec.ofChange Rows.skyMetSpec).preRow enc Tryz.prog Tryz.f5 Rows.skyMetRow.domain false Rows.skyMetRow.laid) (((OpenSpec.ofChange Rows.skyMetSpec).at F).post enc Tryz.prog Tryz.f5 false true false false):=by
 refine returnsInHanded_of_row (C:=Tryz.checked) (s:=OpenSpec.ofChange Rows.skyMetSpec) own started (by kernel_rfl) Tryz.func5
  (witness_row_at (enc:=enc) (C:=Tryz.checked) false (laidWorld os) #[.agg #[.slice none 0 0,.int .i64 0,.int .i64 0,.int .i64 0],.int .i64 0,.int .i64 0,.int .i64 0,.int .i64 0,.int .i64 0] rfl (by kernel_rfl) (by kernel_rfl) (by kernel_rfl) (OpenSpec.preRow_of_B rfl 8 (by kernel_rfl) (by kernel_rfl) (laid_met os _))) ?_
 intro W base args ds gs before hval0 hW _ _ hsz0 hL hsh _
 have hval:∀ (j:Nat) t v,Tryz.f5.params[j]?=some t→args[j]?=some v→Value.okWide Tryz.prog W .any base t v:=hval0
 have hW':=hW
 obtain ⟨p,q,hA0,hV,rfl,hfz,hnd⟩:=hW
 have hA:DataW.TrodAll enc Tryz.prog W 0 (fun _=>true) true Tryz.f5.params.toList args.toList ds p:=hA0
 rw [Tryz.params5] at hA hval
 obtain ⟨v0,vs0,d0,ds0,p0,q0,hargs,rfl,rfl,h0,r0⟩:=trodAll_cons hA
 obtain ⟨v1,vs1,d1,ds1,p1,q1,rfl,rfl,rfl,h1,r1⟩:=trodAll_cons r0
 obtain ⟨v2,vs2,d2,ds2,p2,q2,rfl,rfl,rfl,h2,r2⟩:=trodAll_cons r1
 obtain ⟨v3,vs3,d3,ds3,p3,q3,rfl,rfl,rfl,h3,r3⟩:=trodAll_cons r2
 obtain ⟨v4,vs4,d4,ds4,p4,q4,rfl,rfl,rfl,h4,r4⟩:=trodAll_cons r3
 obtain ⟨v5,vs5,d5,ds5,p5,q5,rfl,rfl,rfl,h5,r5⟩:=trodAll_cons r4
 obtain ⟨rfl,rfl,rfl⟩:=trodAll_nil r5
 obtain rfl:args=#[v0,v1,v2,v3,v4,v5]:=by cases args;simp_all
 obtain ⟨rfl,rfl⟩:=trodVars_none hV
 have k0:=h0
 have lt0:∀ x∈p0,x.block<W.heap.size:=by obtain ⟨m,hm⟩:=k0;exact DataW.trod_lt m _ _ _ hm
 obtain ⟨fuel0,hf0⟩:=h0
 obtain ⟨A0,c0,l0,a0,b0,e0,hcs0,hlc0,hC0⟩:=PSky.open_sky hf0
 obtain rfl:=agg_of hcs0 rfl
 obtain ⟨x1,rfl,rfl,rfl,w1⟩:=open_int Tryz.underlying3 (hval 1 3 v1 rfl rfl) h1
 obtain ⟨x2,rfl,rfl,rfl,w2⟩:=open_int Tryz.underlying3 (hval 2 3 v2 rfl rfl) h2
 obtain ⟨x3,rfl,rfl,rfl,w3⟩:=open_int Tryz.underlying3 (hval 3 3 v3 rfl rfl) h3
 obtain ⟨x4,rfl,rfl,rfl,w4⟩:=open_int Tryz.underlying3 (hval 4 3 v4 rfl rfl) h4
 obtain ⟨x5,rfl,rfl,rfl,w5⟩:=open_int Tryz.underlying3 (hval 5 3 v5 rfl rfl) h5
 obtain ⟨k,hk⟩:=(PSky.SkyMet_ev l0 a0 b0 e0 x1 x2 x3 x4 x5).rounds
 have hld:=ld_of hL hsh
 clear hA0 hval0 hsz0 hA hval hL hsh
 refine (PSky.tl_SkyMet.calls k A0 c0 l0 a0 b0 e0 x1 x2 x3 x4 x5 true W hC0 hlc0 hk hld).mono fun e W' ⟨he,bel⟩=>?_
 subst he
 exact ⟨_,rfl,_,_,_,[],_,[],hW',trodAll_mk1 (shut_bool Tryz.underlying4 _),(trodAll_cons_mk (Below.trod laidOut (by kernel_rfl) (of_decide_eq_true (by kernel_rfl)) k0 bel lt0) (trodAll_cons_mk (shut_int Tryz.underlying3 w1) (trodAll_cons_mk (shut_int Tryz.underlying3 w2) (trodAll_cons_mk (shut_int Tryz.underlying3 w3) (trodAll_cons_mk (shut_int Tryz.underlying3 w4) (trodAll_cons_mk (shut_int Tryz.underlying3 w5) trodAll_mk0)))))),rfl,bel.frame _,fun h=>by cases h⟩
theorem skyMet_holds:Rows.SkyMetSaid:=
 OpenClaim.holds_of_wide 5 Tryz.f5 rfl rfl rfl rfl rfl rfl rfl ⟨rfl,rfl,rfl,rfl,rfl⟩ rfl rfl rfl rfl rfl (by kernel_rfl) Tryz.func5 (by kernel_rfl)
  (of_decide_eq_true (by kernel_rfl)) (by unfold Func.isWrapper;first|(rw [if_pos (by decide +kernel)];kernel_rfl)|(rw [if_neg (by decide +kernel)];exact ⟨rfl,rfl⟩))
  (fun os started H enc _=>skyMet_lifted os started H enc (fun _ _ _=>0))
end Go.Proofs.YtjahbgldccjbfaaGreatDoor
end
