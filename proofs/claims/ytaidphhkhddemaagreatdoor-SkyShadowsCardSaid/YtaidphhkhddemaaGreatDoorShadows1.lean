/- A part of the proof of a law of the layer sky. -/
import Derived.SevenTiedAt
import Derived.Test.YtaidphhkhddemaaGreatDoorShadows0
section
namespace Go.Proofs.YtaidphhkhddemaaGreatDoor.PSky
open Go.RowKit Go.Proofs.YtaidphhkhddemaaGreatDoorW.PrintWords Go.Proofs.YtaidphhkhddemaaGreatDoorW.PrintLast Go.Proofs.YtaidphhkhddemaaGreatDoorW.PrintMore
attribute [local go_sem] max2_int min2_int max_two min_two max_three min_three max_four min_four
set_option linter.unusedVariables false
set_option linter.unusedSimpArgs false
mutual
def tl_SkyShadows.j0:Nat→Int→Int→Int→Int→Int→Int→Bool→List (S83)→Int→Int→Int→Option (Bool)
 |0,_,_,_,_,_,_,_,_,_,_,_=>none
 |k+1,x1,x2,x3,x4,x5,x6,x74,x330000,x330001,x330002,x330003=>if x74=true then ((tl_known.f).bind fun t335=>(some t335)) else ((sky_Eclipses.f k x330000 x330001 x330002 x330003 x1 x2 x3 x4).bind fun bt336=>((sky_Eclipses.f k x330000 x330001 x330002 x330003 (wrap64 (x1+x6)) (wrap64 (x2+x6)) x3 x4).bind fun bt340=>((sky_Moons.f k x330000 x330001 x330002 x330003 x3 x4).bind fun bt344=>((sky_Place.f k x330000 x330001 x330002 x330003 1 x5).bind fun bt348=>((sky_Node.f k x330000 x330001 x330002 x330003 x5).bind fun bt350=>(if bt336.2=0 then (if bt340.2=0 then (if bt344.2=0 then (if bt348.2=0 then (if bt350.2=0 then (if (bt336.1.length:Int) > (bt340.1.length:Int) then (tl_SkyShadows.j1 k x1 x2 x5 bt336.1 bt340.1 bt344.1 bt348.1 bt350.1 true) else (if (bt340.1.length:Int) > (bt344.1.length:Int) then (tl_SkyShadows.j1 k x1 x2 x5 bt336.1 bt340.1 bt344.1 bt348.1 bt350.1 true) else (if (bt344.1.length:Int) > 1602 then (tl_SkyShadows.j1 k x1 x2 x5 bt336.1 bt340.1 bt344.1 bt348.1 bt350.1 true) else ((tr_Spot.f bt348.1).bind fun t352=>(if t352=true then ((tr_Spot.f bt350.1).bind fun t353=>(tl_SkyShadows.j1 k x1 x2 x5 bt336.1 bt340.1 bt344.1 bt348.1 bt350.1 (!t353))) else (tl_SkyShadows.j1 k x1 x2 x5 bt336.1 bt340.1 bt344.1 bt348.1 bt350.1 true)))))) else (tl_SkyShadows.j1 k x1 x2 x5 bt336.1 bt340.1 bt344.1 bt348.1 bt350.1 true)) else (tl_SkyShadows.j1 k x1 x2 x5 bt336.1 bt340.1 bt344.1 bt348.1 bt350.1 true)) else (tl_SkyShadows.j1 k x1 x2 x5 bt336.1 bt340.1 bt344.1 bt348.1 bt350.1 true)) else (tl_SkyShadows.j1 k x1 x2 x5 bt336.1 bt340.1 bt344.1 bt348.1 bt350.1 true)) else (tl_SkyShadows.j1 k x1 x2 x5 bt336.1 bt340.1 bt344.1 bt348.1 bt350.1 true)))))))
def tl_SkyShadows.j1:Nat→Int→Int→Int→List (S54)→List (S54)→List (S51)→Int→Int→Bool→Option (Bool)
 |0,_,_,_,_,_,_,_,_,_=>none
 |k+1,x1,x2,x5,x15,x17,x19,x21,x23,x163=>if x163=true then (some false) else ((tr_Apart.f x21 x23).bind fun t354=>((tr_Apart.f x21 (wrap64 (x23+10800))).bind fun t355=>(tl_SkyShadows.l0 k x1 x2 x5 x15 x17 x19 (mn t354 t355) 0)))
def tl_SkyShadows.l0:Nat→Int→Int→Int→List (S54)→List (S54)→List (S51)→Int→Int→Option (Bool)
 |0,_,_,_,_,_,_,_,_=>none
 |k+1,x1,x2,x5,x15,x17,x19,x25,x26=>if x26<(x19.length:Int) then (if 0≤x26 then (if ((rd_T51 x19 x26).f0)=x5 then (if (rd_T51 x19 x26).f1=true then ((tl_met.f k x15 x5 ((rd_T51 x19 x26).f1) x25).bind fun t359=>(if (t359 != (decide (x25≤x2)))=true then (some false) else (tl_SkyShadows.l0 k x1 x2 x5 x15 x17 x19 x25 (wrap64 (x26+1))))) else ((tl_met.f k x15 x5 ((rd_T51 x19 x26).f1) x25).bind fun t361=>(if (t361 != (decide (x25≤x1)))=true then (some false) else (tl_SkyShadows.l0 k x1 x2 x5 x15 x17 x19 x25 (wrap64 (x26+1)))))) else (tl_SkyShadows.l0 k x1 x2 x5 x15 x17 x19 x25 (wrap64 (x26+1)))) else (none)) else (tl_SkyShadows.l1 k x15 x17 x19 0)
def tl_SkyShadows.l1:Nat→List (S54)→List (S54)→List (S51)→Int→Option (Bool)
 |0,_,_,_,_=>none
 |k+1,x15,x17,x19,x28=>if x28<(x15.length:Int) then (if 0≤x28 then ((tl_met.f k x17 ((rd_T54 x15 x28).f0) ((rd_T54 x15 x28).f1) ((rd_T54 x15 x28).f2)).bind fun t364=>(if t364=true then ((tl_listed.f k x19 ((rd_T54 x15 x28).f0) ((rd_T54 x15 x28).f1)).bind fun t367=>(if t367=true then (tl_SkyShadows.l1 k x15 x17 x19 (wrap64 (x28+1))) else (some false))) else (some false))) else (none)) else ((tl_known.f).bind fun t362=>(some t362))
end
def tl_SkyShadows.f (k:Nat) (l0_0:List (S83)) (a0_1:Int) (a0_2:Int) (a0_3:Int) (a1:Int) (a2:Int) (a3:Int) (a4:Int) (a5:Int) (a6:Int):Option (Bool):=(tl_short.f k l0_0 a0_1 a0_2 a0_3).bind fun t330=>(if t330=true then ((tr_Sky.f k l0_0 a0_1 a0_2 a0_3).bind fun t331=>(if t331=true then ((tr_Limit.f a1).bind fun t332=>(if t332=true then ((tr_Limit.f a2).bind fun t333=>(if t333=true then ((tr_Span.f a3 a4).bind fun t334=>(if t334=true then (if a5<a3 then (tl_SkyShadows.j0 k a1 a2 a3 a4 a5 a6 true l0_0 a0_1 a0_2 a0_3) else (if a5 > a4 then (tl_SkyShadows.j0 k a1 a2 a3 a4 a5 a6 true l0_0 a0_1 a0_2 a0_3) else (if a6<0 then (tl_SkyShadows.j0 k a1 a2 a3 a4 a5 a6 true l0_0 a0_1 a0_2 a0_3) else (tl_SkyShadows.j0 k a1 a2 a3 a4 a5 a6 (decide (a6 > (wrap64 (5400 - (mx a1 a2))))) l0_0 a0_1 a0_2 a0_3)))) else (tl_SkyShadows.j0 k a1 a2 a3 a4 a5 a6 true l0_0 a0_1 a0_2 a0_3))) else (tl_SkyShadows.j0 k a1 a2 a3 a4 a5 a6 true l0_0 a0_1 a0_2 a0_3))) else (tl_SkyShadows.j0 k a1 a2 a3 a4 a5 a6 true l0_0 a0_1 a0_2 a0_3))) else (tl_SkyShadows.j0 k a1 a2 a3 a4 a5 a6 true l0_0 a0_1 a0_2 a0_3))) else (tl_SkyShadows.j0 k a1 a2 a3 a4 a5 a6 true l0_0 a0_1 a0_2 a0_3))
def tl_SkyShadows.T23:Bool × List (List Nat × List Nat):=(true,[([],[]),([],[]),([],[]),([1,2],[1,2]),([3],[3]),([0,4],[0,4]),([5],[5]),([6,5],[6]),([7],[7]),([7],[7]),([7],[7]),([9,10,7],[7,9,10]),([11,7],[7,11]),([12,7],[7,12]),([7],[7]),([7],[7]),([14,15,7],[7,14,15]),([16,7],[7,16]),([17,7],[7,17]),([8,13,18,7,7],[7,8,13,18]),([19,7],[7,19]),([7,20],[7,20])])
def tl_SkyShadows.B23:List Nat:=[0,0,0,6,14,31,63,127,255,255,255,1791,3839,7935,255,255,49407,114943,246015,524287,1048575,2097151]
theorem tl_SkyShadows.tab23:rtab .any (opsOf Tryz.f5 23)=tl_SkyShadows.T23:=by kernel_rfl
theorem tl_SkyShadows.bits23:waitsOk tl_SkyShadows.T23.2 tl_SkyShadows.B23=true:=by kernel_rfl
set_option maxHeartbeats 8000000 in
set_option maxRecDepth 100000 in
theorem tl_SkyShadows.calls (k:Nat) (A0_0:Option Addr) (c0_0:Nat) (l0_0:List (S83)) (a0_1:Int) (a0_2:Int) (a0_3:Int) (a1:Int) (a2:Int) (a3:Int) (a4:Int) (a5:Int) (a6:Int) (r:Bool) (w:World) (hr0_0:Kd.C k83 w A0_0 l0_0.length l0_0) (hc0_0:l0_0.length≤c0_0) (h:tl_SkyShadows.f k l0_0 a0_1 a0_2 a0_3 a1 a2 a3 a4 a5 a6=some r) (hLD:LD w):
  Calls Tryz.prog 5 #[.agg #[.slice A0_0 l0_0.length c0_0,.int .i64 a0_1,.int .i64 a0_2,.int .i64 a0_3],.int .i64 a1,.int .i64 a2,.int .i64 a3,.int .i64 a4,.int .i64 a5,.int .i64 a6] w fun e w'=>e=.returned (.bool r)∧Below w.heap.size w w':=by
 have HLD:=A0_ hLD;clear hLD
 have hu28:=Tryz.underlying28
 have hu54:=Tryz.underlying54
 have HR0_0:=A0_ hr0_0;have HC0_0:=A0_ hc0_0;clear hr0_0 hc0_0
 have HB:=A0_ (Below.refl w.heap.size w)
 have H:((tl_short.f k l0_0 a0_1 a0_2 a0_3).bind fun t330=>(if t330=true then ((tr_Sky.f k l0_0 a0_1 a0_2 a0_3).bind fun t331=>(if t331=true then ((tr_Limit.f a1).bind fun t332=>(if t332=true then ((tr_Limit.f a2).bind fun t333=>(if t333=true then ((tr_Span.f a3 a4).bind fun t334=>(if t334=true then (if a5<a3 then (tl_SkyShadows.j0 k a1 a2 a3 a4 a5 a6 true l0_0 a0_1 a0_2 a0_3) else (if a5 > a4 then (tl_SkyShadows.j0 k a1 a2 a3 a4 a5 a6 true l0_0 a0_1 a0_2 a0_3) else (if a6<0 then (tl_SkyShadows.j0 k a1 a2 a3 a4 a5 a6 true l0_0 a0_1 a0_2 a0_3) else (tl_SkyShadows.j0 k a1 a2 a3 a4 a5 a6 (decide (a6 > (wrap64 (5400 - (mx a1 a2))))) l0_0 a0_1 a0_2 a0_3)))) else (tl_SkyShadows.j0 k a1 a2 a3 a4 a5 a6 true l0_0 a0_1 a0_2 a0_3))) else (tl_SkyShadows.j0 k a1 a2 a3 a4 a5 a6 true l0_0 a0_1 a0_2 a0_3))) else (tl_SkyShadows.j0 k a1 a2 a3 a4 a5 a6 true l0_0 a0_1 a0_2 a0_3))) else (tl_SkyShadows.j0 k a1 a2 a3 a4 a5 a6 true l0_0 a0_1 a0_2 a0_3))) else (tl_SkyShadows.j0 k a1 a2 a3 a4 a5 a6 true l0_0 a0_1 a0_2 a0_3)))=some r:=h
 clear h;have HC8:=A0_ H;clear H
 go_enter Tryz.func5,Tryz.ntmps5
 go_upto_region 1 with (first|((with_reducible refine gate_dst (N:=7) rfl ?_);(try (refine gate_guard (by rfl) ?_;dsimp only));refine box_event ?hg (N:=7) ?hd (cs:=#[.slice A0_0 l0_0.length c0_0,.int .i64 a0_1,.int .i64 a0_2,.int .i64 a0_3]) (t:=28) ?hr ?_;(case hd=>rfl);(case hg=>rfl);(case hr=>first|(go_simp;done)|(go_simp;rfl));intro gb329 hg w9 hbox hb;have n0_:=A0_ (below_step y0_ hb);have n1_:=A0_ (hbox);have n2_:=A0_ ((by rw [hg];exact (below_size y0_):w.heap.size≤gb329));have n3_:=A0_ ((by rw [hg];exact (below_size y0_):w.heap.size≤gb329));clear HB;have HB:=n0_;have BK329:=n1_;have GW329:=n2_;have GE329:=n3_;clear n0_ n1_ n2_ n3_;clear hb hbox hg))
 (try simp only [Act.put,List.setIfInBounds_toArray,List.set_cons_zero,List.set_cons_succ])
 go_cut [74] (fun v74 wc=>∃ (kq:Nat) (x74_7:Bool),v74=.bool x74_7∧Aside0 (tl_SkyShadows.j0 kq a1 a2 a3 a4 a5 a6 x74_7 l0_0 a0_1 a0_2 a0_3=some r)∧Aside0 (kq≤k)∧Aside0 (wc.heap[gb329]?=some (.cells #[(.slice A0_0 l0_0.length c0_0),.int .i64 a0_1,.int .i64 a0_2,.int .i64 a0_3] 28 (0,0)))∧Aside0 (Below w.heap.size w wc))
 case first=>
  have H:=HC8.out
  clear HC8;replace H:=Option.bind_eq_some_iff.mp H;obtain ⟨t330,A100,H⟩:=H
  replace H:(if t330=true then ((tr_Sky.f k l0_0 a0_1 a0_2 a0_3).bind fun t331=>(if t331=true then ((tr_Limit.f a1).bind fun t332=>(if t332=true then ((tr_Limit.f a2).bind fun t333=>(if t333=true then ((tr_Span.f a3 a4).bind fun t334=>(if t334=true then (if a5<a3 then (tl_SkyShadows.j0 k a1 a2 a3 a4 a5 a6 true l0_0 a0_1 a0_2 a0_3) else (if a5 > a4 then (tl_SkyShadows.j0 k a1 a2 a3 a4 a5 a6 true l0_0 a0_1 a0_2 a0_3) else (if a6<0 then (tl_SkyShadows.j0 k a1 a2 a3 a4 a5 a6 true l0_0 a0_1 a0_2 a0_3) else (tl_SkyShadows.j0 k a1 a2 a3 a4 a5 a6 (decide (a6 > (wrap64 (5400 - (mx a1 a2))))) l0_0 a0_1 a0_2 a0_3)))) else (tl_SkyShadows.j0 k a1 a2 a3 a4 a5 a6 true l0_0 a0_1 a0_2 a0_3))) else (tl_SkyShadows.j0 k a1 a2 a3 a4 a5 a6 true l0_0 a0_1 a0_2 a0_3))) else (tl_SkyShadows.j0 k a1 a2 a3 a4 a5 a6 true l0_0 a0_1 a0_2 a0_3))) else (tl_SkyShadows.j0 k a1 a2 a3 a4 a5 a6 true l0_0 a0_1 a0_2 a0_3))) else (tl_SkyShadows.j0 k a1 a2 a3 a4 a5 a6 true l0_0 a0_1 a0_2 a0_3))=some r:=H
  have A10:=A0_ A100;clear A100
  by_cases c11:t330=true
  ·as_aux_lemma=>
   subst c11
   have H1:((tr_Sky.f k l0_0 a0_1 a0_2 a0_3).bind fun t331=>(if t331=true then ((tr_Limit.f a1).bind fun t332=>(if t332=true then ((tr_Limit.f a2).bind fun t333=>(if t333=true then ((tr_Span.f a3 a4).bind fun t334=>(if t334=true then (if a5<a3 then (tl_SkyShadows.j0 k a1 a2 a3 a4 a5 a6 true l0_0 a0_1 a0_2 a0_3) else (if a5 > a4 then (tl_SkyShadows.j0 k a1 a2 a3 a4 a5 a6 true l0_0 a0_1 a0_2 a0_3) else (if a6<0 then (tl_SkyShadows.j0 k a1 a2 a3 a4 a5 a6 true l0_0 a0_1 a0_2 a0_3) else (tl_SkyShadows.j0 k a1 a2 a3 a4 a5 a6 (decide (a6 > (wrap64 (5400 - (mx a1 a2))))) l0_0 a0_1 a0_2 a0_3)))) else (tl_SkyShadows.j0 k a1 a2 a3 a4 a5 a6 true l0_0 a0_1 a0_2 a0_3))) else (tl_SkyShadows.j0 k a1 a2 a3 a4 a5 a6 true l0_0 a0_1 a0_2 a0_3))) else (tl_SkyShadows.j0 k a1 a2 a3 a4 a5 a6 true l0_0 a0_1 a0_2 a0_3))) else (tl_SkyShadows.j0 k a1 a2 a3 a4 a5 a6 true l0_0 a0_1 a0_2 a0_3)))=some r:=by rw [if_pos rfl] at H;exact H
   clear H;have H:=H1;clear H1;replace H:=Option.bind_eq_some_iff.mp H;obtain ⟨t331,A120,H⟩:=H
   replace H:(if t331=true then ((tr_Limit.f a1).bind fun t332=>(if t332=true then ((tr_Limit.f a2).bind fun t333=>(if t333=true then ((tr_Span.f a3 a4).bind fun t334=>(if t334=true then (if a5<a3 then (tl_SkyShadows.j0 k a1 a2 a3 a4 a5 a6 true l0_0 a0_1 a0_2 a0_3) else (if a5 > a4 then (tl_SkyShadows.j0 k a1 a2 a3 a4 a5 a6 true l0_0 a0_1 a0_2 a0_3) else (if a6<0 then (tl_SkyShadows.j0 k a1 a2 a3 a4 a5 a6 true l0_0 a0_1 a0_2 a0_3) else (tl_SkyShadows.j0 k a1 a2 a3 a4 a5 a6 (decide (a6 > (wrap64 (5400 - (mx a1 a2))))) l0_0 a0_1 a0_2 a0_3)))) else (tl_SkyShadows.j0 k a1 a2 a3 a4 a5 a6 true l0_0 a0_1 a0_2 a0_3))) else (tl_SkyShadows.j0 k a1 a2 a3 a4 a5 a6 true l0_0 a0_1 a0_2 a0_3))) else (tl_SkyShadows.j0 k a1 a2 a3 a4 a5 a6 true l0_0 a0_1 a0_2 a0_3))) else (tl_SkyShadows.j0 k a1 a2 a3 a4 a5 a6 true l0_0 a0_1 a0_2 a0_3))=some r:=H
   have A12:=A0_ A120;clear A120
   by_cases c13:t331=true
   ·subst c13
    have H1:((tr_Limit.f a1).bind fun t332=>(if t332=true then ((tr_Limit.f a2).bind fun t333=>(if t333=true then ((tr_Span.f a3 a4).bind fun t334=>(if t334=true then (if a5<a3 then (tl_SkyShadows.j0 k a1 a2 a3 a4 a5 a6 true l0_0 a0_1 a0_2 a0_3) else (if a5 > a4 then (tl_SkyShadows.j0 k a1 a2 a3 a4 a5 a6 true l0_0 a0_1 a0_2 a0_3) else (if a6<0 then (tl_SkyShadows.j0 k a1 a2 a3 a4 a5 a6 true l0_0 a0_1 a0_2 a0_3) else (tl_SkyShadows.j0 k a1 a2 a3 a4 a5 a6 (decide (a6 > (wrap64 (5400 - (mx a1 a2))))) l0_0 a0_1 a0_2 a0_3)))) else (tl_SkyShadows.j0 k a1 a2 a3 a4 a5 a6 true l0_0 a0_1 a0_2 a0_3))) else (tl_SkyShadows.j0 k a1 a2 a3 a4 a5 a6 true l0_0 a0_1 a0_2 a0_3))) else (tl_SkyShadows.j0 k a1 a2 a3 a4 a5 a6 true l0_0 a0_1 a0_2 a0_3)))=some r:=by rw [if_pos rfl] at H;exact H
    clear H;have H:=H1;clear H1;replace H:=Option.bind_eq_some_iff.mp H;obtain ⟨t332,A140,H⟩:=H
    replace H:(if t332=true then ((tr_Limit.f a2).bind fun t333=>(if t333=true then ((tr_Span.f a3 a4).bind fun t334=>(if t334=true then (if a5<a3 then (tl_SkyShadows.j0 k a1 a2 a3 a4 a5 a6 true l0_0 a0_1 a0_2 a0_3) else (if a5 > a4 then (tl_SkyShadows.j0 k a1 a2 a3 a4 a5 a6 true l0_0 a0_1 a0_2 a0_3) else (if a6<0 then (tl_SkyShadows.j0 k a1 a2 a3 a4 a5 a6 true l0_0 a0_1 a0_2 a0_3) else (tl_SkyShadows.j0 k a1 a2 a3 a4 a5 a6 (decide (a6 > (wrap64 (5400 - (mx a1 a2))))) l0_0 a0_1 a0_2 a0_3)))) else (tl_SkyShadows.j0 k a1 a2 a3 a4 a5 a6 true l0_0 a0_1 a0_2 a0_3))) else (tl_SkyShadows.j0 k a1 a2 a3 a4 a5 a6 true l0_0 a0_1 a0_2 a0_3))) else (tl_SkyShadows.j0 k a1 a2 a3 a4 a5 a6 true l0_0 a0_1 a0_2 a0_3))=some r:=H
    have A14:=A0_ A140;clear A140
    by_cases c15:t332=true
    ·subst c15
     have H1:((tr_Limit.f a2).bind fun t333=>(if t333=true then ((tr_Span.f a3 a4).bind fun t334=>(if t334=true then (if a5<a3 then (tl_SkyShadows.j0 k a1 a2 a3 a4 a5 a6 true l0_0 a0_1 a0_2 a0_3) else (if a5 > a4 then (tl_SkyShadows.j0 k a1 a2 a3 a4 a5 a6 true l0_0 a0_1 a0_2 a0_3) else (if a6<0 then (tl_SkyShadows.j0 k a1 a2 a3 a4 a5 a6 true l0_0 a0_1 a0_2 a0_3) else (tl_SkyShadows.j0 k a1 a2 a3 a4 a5 a6 (decide (a6 > (wrap64 (5400 - (mx a1 a2))))) l0_0 a0_1 a0_2 a0_3)))) else (tl_SkyShadows.j0 k a1 a2 a3 a4 a5 a6 true l0_0 a0_1 a0_2 a0_3))) else (tl_SkyShadows.j0 k a1 a2 a3 a4 a5 a6 true l0_0 a0_1 a0_2 a0_3)))=some r:=by rw [if_pos rfl] at H;exact H
     clear H;have H:=H1;clear H1;replace H:=Option.bind_eq_some_iff.mp H;obtain ⟨t333,A160,H⟩:=H
     replace H:(if t333=true then ((tr_Span.f a3 a4).bind fun t334=>(if t334=true then (if a5<a3 then (tl_SkyShadows.j0 k a1 a2 a3 a4 a5 a6 true l0_0 a0_1 a0_2 a0_3) else (if a5 > a4 then (tl_SkyShadows.j0 k a1 a2 a3 a4 a5 a6 true l0_0 a0_1 a0_2 a0_3) else (if a6<0 then (tl_SkyShadows.j0 k a1 a2 a3 a4 a5 a6 true l0_0 a0_1 a0_2 a0_3) else (tl_SkyShadows.j0 k a1 a2 a3 a4 a5 a6 (decide (a6 > (wrap64 (5400 - (mx a1 a2))))) l0_0 a0_1 a0_2 a0_3)))) else (tl_SkyShadows.j0 k a1 a2 a3 a4 a5 a6 true l0_0 a0_1 a0_2 a0_3))) else (tl_SkyShadows.j0 k a1 a2 a3 a4 a5 a6 true l0_0 a0_1 a0_2 a0_3))=some r:=H
     have A16:=A0_ A160;clear A160
     by_cases c17:t333=true
     ·subst c17
      have H1:((tr_Span.f a3 a4).bind fun t334=>(if t334=true then (if a5<a3 then (tl_SkyShadows.j0 k a1 a2 a3 a4 a5 a6 true l0_0 a0_1 a0_2 a0_3) else (if a5 > a4 then (tl_SkyShadows.j0 k a1 a2 a3 a4 a5 a6 true l0_0 a0_1 a0_2 a0_3) else (if a6<0 then (tl_SkyShadows.j0 k a1 a2 a3 a4 a5 a6 true l0_0 a0_1 a0_2 a0_3) else (tl_SkyShadows.j0 k a1 a2 a3 a4 a5 a6 (decide (a6 > (wrap64 (5400 - (mx a1 a2))))) l0_0 a0_1 a0_2 a0_3)))) else (tl_SkyShadows.j0 k a1 a2 a3 a4 a5 a6 true l0_0 a0_1 a0_2 a0_3)))=some r:=by rw [if_pos rfl] at H;exact H
      clear H;have H:=H1;clear H1;replace H:=Option.bind_eq_some_iff.mp H;obtain ⟨t334,A180,H⟩:=H
      replace H:(if t334=true then (if a5<a3 then (tl_SkyShadows.j0 k a1 a2 a3 a4 a5 a6 true l0_0 a0_1 a0_2 a0_3) else (if a5 > a4 then (tl_SkyShadows.j0 k a1 a2 a3 a4 a5 a6 true l0_0 a0_1 a0_2 a0_3) else (if a6<0 then (tl_SkyShadows.j0 k a1 a2 a3 a4 a5 a6 true l0_0 a0_1 a0_2 a0_3) else (tl_SkyShadows.j0 k a1 a2 a3 a4 a5 a6 (decide (a6 > (wrap64 (5400 - (mx a1 a2))))) l0_0 a0_1 a0_2 a0_3)))) else (tl_SkyShadows.j0 k a1 a2 a3 a4 a5 a6 true l0_0 a0_1 a0_2 a0_3))=some r:=H
      have A18:=A0_ A180;clear A180
      by_cases c19:t334=true
      ·subst c19
       have H1:(if a5<a3 then (tl_SkyShadows.j0 k a1 a2 a3 a4 a5 a6 true l0_0 a0_1 a0_2 a0_3) else (if a5 > a4 then (tl_SkyShadows.j0 k a1 a2 a3 a4 a5 a6 true l0_0 a0_1 a0_2 a0_3) else (if a6<0 then (tl_SkyShadows.j0 k a1 a2 a3 a4 a5 a6 true l0_0 a0_1 a0_2 a0_3) else (tl_SkyShadows.j0 k a1 a2 a3 a4 a5 a6 (decide (a6 > (wrap64 (5400 - (mx a1 a2))))) l0_0 a0_1 a0_2 a0_3))))=some r:=by rw [if_pos rfl] at H;exact H
       clear H;have H:=H1;clear H1
       by_cases c20:a5<a3
       ·rw [if_pos c20] at H;have c20b0:decide (a5<a3)=true:=decide_eq_true c20;clear c20
        (first|rw [c20b0]|(simp only [i64_w,i32_w];rw [c20b0])|skip)
        have H':=A0_ H
        clear H;obtain ⟨hcz21_0,hcz21_1,hcz21_2,hcz21_3,hfz21_0,hfz21_1,hfz21_2,hfz21_3⟩:=bq4_ BK329.out
        go_wp2_with (first|((with_reducible refine gate_callee (f:=10) rfl ?_);refine goesL_ (some 30) rfl rfl Tryz.func10 (by kernel_rfl) rfl #[.agg #[.slice A0_0 l0_0.length c0_0,.int .i64 a0_1,.int .i64 a0_2,.int .i64 a0_3]] rfl y1_ ?_;(with_reducible refine (tl_short.calls k _ _ l0_0 a0_1 a0_2 a0_3 true _ ?side1 ?side2 A10.out).mono ?_);(case side1=>repeat (first|exact (Kd.C_below HR0_0.out HB.out)|(with_reducible refine Kd.C_alloc ?_ _)|(with_reducible refine Kd.C_drewN ?_ _)|(with_reducible refine Kd.C_drew ?_)));(case side2=>exact HC0_0.out);rintro e w22 ⟨rfl,hb⟩;refine ⟨_,rfl,?_⟩;have n0_:=A0_ (blk_below (g:=gb329) (o:=.cells #[.slice A0_0 l0_0.length c0_0,.int .i64 a0_1,.int .i64 a0_2,.int .i64 a0_3] 28 (0,0)) (bd_ BK329.out) hb);have n1_:=A0_ (below_step y5_ hb);clear BK329;clear HB;have BK329:=n0_;have HB:=n1_;clear n0_ n1_;(try clear hb);(try clear hb2);(try clear hk);(try clear hi);obtain ⟨hcz23_0,hcz23_1,hcz23_2,hcz23_3,hfz23_0,hfz23_1,hfz23_2,hfz23_3⟩:=bq4_ BK329.out)|(go_at_call 13;(with_reducible refine (tr_Sky.calls k _ _ l0_0 a0_1 a0_2 a0_3 true _ ?side1 ?side2 A12.out).mono ?_);(case side1=>repeat (first|exact (Kd.C_below HR0_0.out HB.out)|(with_reducible refine Kd.C_alloc ?_ _)|(with_reducible refine Kd.C_drewN ?_ _)|(with_reducible refine Kd.C_drew ?_)));(case side2=>exact HC0_0.out);rintro e w24 ⟨rfl,hb⟩;have n0_:=A0_ (blk_below (g:=gb329) (o:=.cells #[.slice A0_0 l0_0.length c0_0,.int .i64 a0_1,.int .i64 a0_2,.int .i64 a0_3] 28 (0,0)) (bd_ BK329.out) hb);have n1_:=A0_ (below_step y5_ hb);clear BK329;clear HB;have BK329:=n0_;have HB:=n1_;clear n0_ n1_;(try clear hb);(try clear hb2);(try clear hk);(try clear hi))|(go_at_call 18;(with_reducible refine (tr_Limit.calls a1 true _ A14.out).mono ?_);rintro e w' ⟨rfl,⟨nd,rfl⟩⟩)|(go_at_call 18;(with_reducible refine (tr_Limit.calls a2 true _ A16.out).mono ?_);rintro e w' ⟨rfl,⟨nd,rfl⟩⟩)|(go_at_call 14;(with_reducible refine (tr_Span.calls a3 a4 true _ A18.out).mono ?_);rintro e w' ⟨rfl,⟨nd,rfl⟩⟩))
        go_meet
        case rel=>exact ⟨_,(true),y4_,H',⟨by first|omega|exact Nat.le_refl _⟩,⟨by (with_reducible repeat (first|refine blk_drewN ?_ _|refine blk_drew ?_|refine blk_alloc ?_ _));exact BK329.out⟩,⟨y5_⟩⟩
       ·rw [if_neg c20] at H;have c20b0:decide (a5<a3)=false:=decide_eq_false c20;clear c20
        (first|rw [c20b0]|(simp only [i64_w,i32_w];rw [c20b0])|skip)
        by_cases c25:a5 > a4
        ·rw [if_pos c25] at H;have c25b0:decide (a4<a5)=true:=decide_eq_true c25;clear c25
         have H':=A0_ H
         clear H;obtain ⟨hcz26_0,hcz26_1,hcz26_2,hcz26_3,hfz26_0,hfz26_1,hfz26_2,hfz26_3⟩:=bq4_ BK329.out
         go_wp2_with (first|((with_reducible refine gate_callee (f:=10) rfl ?_);refine goesL_ (some 30) rfl rfl Tryz.func10 (by kernel_rfl) rfl #[.agg #[.slice A0_0 l0_0.length c0_0,.int .i64 a0_1,.int .i64 a0_2,.int .i64 a0_3]] rfl y1_ ?_;(with_reducible refine (tl_short.calls k _ _ l0_0 a0_1 a0_2 a0_3 true _ ?side1 ?side2 A10.out).mono ?_);(case side1=>repeat (first|exact (Kd.C_below HR0_0.out HB.out)|(with_reducible refine Kd.C_alloc ?_ _)|(with_reducible refine Kd.C_drewN ?_ _)|(with_reducible refine Kd.C_drew ?_)));(case side2=>exact HC0_0.out);rintro e w27 ⟨rfl,hb⟩;refine ⟨_,rfl,?_⟩;have n0_:=A0_ (blk_below (g:=gb329) (o:=.cells #[.slice A0_0 l0_0.length c0_0,.int .i64 a0_1,.int .i64 a0_2,.int .i64 a0_3] 28 (0,0)) (bd_ BK329.out) hb);have n1_:=A0_ (below_step y5_ hb);clear BK329;clear HB;have BK329:=n0_;have HB:=n1_;clear n0_ n1_;(try clear hb);(try clear hb2);(try clear hk);(try clear hi);obtain ⟨hcz28_0,hcz28_1,hcz28_2,hcz28_3,hfz28_0,hfz28_1,hfz28_2,hfz28_3⟩:=bq4_ BK329.out)|(go_at_call 13;(with_reducible refine (tr_Sky.calls k _ _ l0_0 a0_1 a0_2 a0_3 true _ ?side1 ?side2 A12.out).mono ?_);(case side1=>repeat (first|exact (Kd.C_below HR0_0.out HB.out)|(with_reducible refine Kd.C_alloc ?_ _)|(with_reducible refine Kd.C_drewN ?_ _)|(with_reducible refine Kd.C_drew ?_)));(case side2=>exact HC0_0.out);rintro e w29 ⟨rfl,hb⟩;have n0_:=A0_ (blk_below (g:=gb329) (o:=.cells #[.slice A0_0 l0_0.length c0_0,.int .i64 a0_1,.int .i64 a0_2,.int .i64 a0_3] 28 (0,0)) (bd_ BK329.out) hb);have n1_:=A0_ (below_step y5_ hb);clear BK329;clear HB;have BK329:=n0_;have HB:=n1_;clear n0_ n1_;(try clear hb);(try clear hb2);(try clear hk);(try clear hi))|(go_at_call 18;(with_reducible refine (tr_Limit.calls a1 true _ A14.out).mono ?_);rintro e w' ⟨rfl,⟨nd,rfl⟩⟩)|(go_at_call 18;(with_reducible refine (tr_Limit.calls a2 true _ A16.out).mono ?_);rintro e w' ⟨rfl,⟨nd,rfl⟩⟩)|(go_at_call 14;(with_reducible refine (tr_Span.calls a3 a4 true _ A18.out).mono ?_);rintro e w' ⟨rfl,⟨nd,rfl⟩⟩))
         go_meet
         case rel=>exact ⟨_,(true),y4_,H',⟨by first|omega|exact Nat.le_refl _⟩,⟨by (with_reducible repeat (first|refine blk_drewN ?_ _|refine blk_drew ?_|refine blk_alloc ?_ _));exact BK329.out⟩,⟨y5_⟩⟩
        ·rw [if_neg c25] at H;have c25b0:decide (a4<a5)=false:=decide_eq_false c25;clear c25
         by_cases c30:a6<0
         ·rw [if_pos c30] at H;have c30b0:decide (a6<0)=true:=decide_eq_true c30;clear c30
          have H':=A0_ H
          clear H;obtain ⟨hcz31_0,hcz31_1,hcz31_2,hcz31_3,hfz31_0,hfz31_1,hfz31_2,hfz31_3⟩:=bq4_ BK329.out
          go_wp2_with (first|((with_reducible refine gate_callee (f:=10) rfl ?_);refine goesL_ (some 30) rfl rfl Tryz.func10 (by kernel_rfl) rfl #[.agg #[.slice A0_0 l0_0.length c0_0,.int .i64 a0_1,.int .i64 a0_2,.int .i64 a0_3]] rfl y1_ ?_;(with_reducible refine (tl_short.calls k _ _ l0_0 a0_1 a0_2 a0_3 true _ ?side1 ?side2 A10.out).mono ?_);(case side1=>repeat (first|exact (Kd.C_below HR0_0.out HB.out)|(with_reducible refine Kd.C_alloc ?_ _)|(with_reducible refine Kd.C_drewN ?_ _)|(with_reducible refine Kd.C_drew ?_)));(case side2=>exact HC0_0.out);rintro e w32 ⟨rfl,hb⟩;refine ⟨_,rfl,?_⟩;have n0_:=A0_ (blk_below (g:=gb329) (o:=.cells #[.slice A0_0 l0_0.length c0_0,.int .i64 a0_1,.int .i64 a0_2,.int .i64 a0_3] 28 (0,0)) (bd_ BK329.out) hb);have n1_:=A0_ (below_step y5_ hb);clear BK329;clear HB;have BK329:=n0_;have HB:=n1_;clear n0_ n1_;(try clear hb);(try clear hb2);(try clear hk);(try clear hi);obtain ⟨hcz33_0,hcz33_1,hcz33_2,hcz33_3,hfz33_0,hfz33_1,hfz33_2,hfz33_3⟩:=bq4_ BK329.out)|(go_at_call 13;(with_reducible refine (tr_Sky.calls k _ _ l0_0 a0_1 a0_2 a0_3 true _ ?side1 ?side2 A12.out).mono ?_);(case side1=>repeat (first|exact (Kd.C_below HR0_0.out HB.out)|(with_reducible refine Kd.C_alloc ?_ _)|(with_reducible refine Kd.C_drewN ?_ _)|(with_reducible refine Kd.C_drew ?_)));(case side2=>exact HC0_0.out);rintro e w34 ⟨rfl,hb⟩;have n0_:=A0_ (blk_below (g:=gb329) (o:=.cells #[.slice A0_0 l0_0.length c0_0,.int .i64 a0_1,.int .i64 a0_2,.int .i64 a0_3] 28 (0,0)) (bd_ BK329.out) hb);have n1_:=A0_ (below_step y5_ hb);clear BK329;clear HB;have BK329:=n0_;have HB:=n1_;clear n0_ n1_;(try clear hb);(try clear hb2);(try clear hk);(try clear hi))|(go_at_call 18;(with_reducible refine (tr_Limit.calls a1 true _ A14.out).mono ?_);rintro e w' ⟨rfl,⟨nd,rfl⟩⟩)|(go_at_call 18;(with_reducible refine (tr_Limit.calls a2 true _ A16.out).mono ?_);rintro e w' ⟨rfl,⟨nd,rfl⟩⟩)|(go_at_call 14;(with_reducible refine (tr_Span.calls a3 a4 true _ A18.out).mono ?_);rintro e w' ⟨rfl,⟨nd,rfl⟩⟩))
          go_meet
          case rel=>exact ⟨_,(true),y4_,H',⟨by first|omega|exact Nat.le_refl _⟩,⟨by (with_reducible repeat (first|refine blk_drewN ?_ _|refine blk_drew ?_|refine blk_alloc ?_ _));exact BK329.out⟩,⟨y5_⟩⟩
         ·rw [if_neg c30] at H;have c30b0:decide (a6<0)=false:=decide_eq_false c30;clear c30
          obtain ⟨ji35,hji35⟩:∃ j_:Int,(mx a1 a2)=j_:=⟨_,rfl⟩
          replace H:(tl_SkyShadows.j0 k a1 a2 a3 a4 a5 a6 (decide (a6 > (wrap64 (5400 - (ji35))))) l0_0 a0_1 a0_2 a0_3)=some r:=by first|(rw [hji35] at H;exact H)|(simp only [hji35] at H ⊢;exact H)
          (try rw [hji35] at A10)
          (try rw [hji35] at A12)
          (try rw [hji35] at A14)
          (try rw [hji35] at A16)
          (try rw [hji35] at A18)
          have hji35_:(if a1<a2 then a2 else a1)=ji35:=hji35
          have H':=A0_ H
          clear H;obtain ⟨hcz36_0,hcz36_1,hcz36_2,hcz36_3,hfz36_0,hfz36_1,hfz36_2,hfz36_3⟩:=bq4_ BK329.out
          go_wp2_with (first|((with_reducible refine gate_callee (f:=10) rfl ?_);refine goesL_ (some 30) rfl rfl Tryz.func10 (by kernel_rfl) rfl #[.agg #[.slice A0_0 l0_0.length c0_0,.int .i64 a0_1,.int .i64 a0_2,.int .i64 a0_3]] rfl y1_ ?_;(with_reducible refine (tl_short.calls k _ _ l0_0 a0_1 a0_2 a0_3 true _ ?side1 ?side2 A10.out).mono ?_);(case side1=>repeat (first|exact (Kd.C_below HR0_0.out HB.out)|(with_reducible refine Kd.C_alloc ?_ _)|(with_reducible refine Kd.C_drewN ?_ _)|(with_reducible refine Kd.C_drew ?_)));(case side2=>exact HC0_0.out);rintro e w37 ⟨rfl,hb⟩;refine ⟨_,rfl,?_⟩;have n0_:=A0_ (blk_below (g:=gb329) (o:=.cells #[.slice A0_0 l0_0.length c0_0,.int .i64 a0_1,.int .i64 a0_2,.int .i64 a0_3] 28 (0,0)) (bd_ BK329.out) hb);have n1_:=A0_ (below_step y5_ hb);clear BK329;clear HB;have BK329:=n0_;have HB:=n1_;clear n0_ n1_;(try clear hb);(try clear hb2);(try clear hk);(try clear hi);obtain ⟨hcz38_0,hcz38_1,hcz38_2,hcz38_3,hfz38_0,hfz38_1,hfz38_2,hfz38_3⟩:=bq4_ BK329.out)|(go_at_call 13;(with_reducible refine (tr_Sky.calls k _ _ l0_0 a0_1 a0_2 a0_3 true _ ?side1 ?side2 A12.out).mono ?_);(case side1=>repeat (first|exact (Kd.C_below HR0_0.out HB.out)|(with_reducible refine Kd.C_alloc ?_ _)|(with_reducible refine Kd.C_drewN ?_ _)|(with_reducible refine Kd.C_drew ?_)));(case side2=>exact HC0_0.out);rintro e w39 ⟨rfl,hb⟩;have n0_:=A0_ (blk_below (g:=gb329) (o:=.cells #[.slice A0_0 l0_0.length c0_0,.int .i64 a0_1,.int .i64 a0_2,.int .i64 a0_3] 28 (0,0)) (bd_ BK329.out) hb);have n1_:=A0_ (below_step y5_ hb);clear BK329;clear HB;have BK329:=n0_;have HB:=n1_;clear n0_ n1_;(try clear hb);(try clear hb2);(try clear hk);(try clear hi))|(go_at_call 18;(with_reducible refine (tr_Limit.calls a1 true _ A14.out).mono ?_);rintro e w' ⟨rfl,⟨nd,rfl⟩⟩)|(go_at_call 18;(with_reducible refine (tr_Limit.calls a2 true _ A16.out).mono ?_);rintro e w' ⟨rfl,⟨nd,rfl⟩⟩)|(go_at_call 14;(with_reducible refine (tr_Span.calls a3 a4 true _ A18.out).mono ?_);rintro e w' ⟨rfl,⟨nd,rfl⟩⟩))
          go_meet
          case rel=>exact ⟨_,(decide (a6 > (wrap64 (5400 - (ji35))))),(by first|rfl|(simp;done)|(simp only [← hji35] <;> (first|rfl|simp))|(simp [*];done)),H',⟨by first|omega|exact Nat.le_refl _⟩,⟨by (with_reducible repeat (first|refine blk_drewN ?_ _|refine blk_drew ?_|refine blk_alloc ?_ _));exact BK329.out⟩,⟨y5_⟩⟩
      ·replace c19:=Bool.eq_false_iff.mpr c19;subst c19
       have H1:(tl_SkyShadows.j0 k a1 a2 a3 a4 a5 a6 true l0_0 a0_1 a0_2 a0_3)=some r:=by rw [if_neg (show ¬ (false=true) by decide)] at H;exact H
       clear H;have H:=H1;clear H1
       have H':=A0_ H
       clear H;obtain ⟨hcz40_0,hcz40_1,hcz40_2,hcz40_3,hfz40_0,hfz40_1,hfz40_2,hfz40_3⟩:=bq4_ BK329.out
       go_wp2_with (first|((with_reducible refine gate_callee (f:=10) rfl ?_);refine goesL_ (some 30) rfl rfl Tryz.func10 (by kernel_rfl) rfl #[.agg #[.slice A0_0 l0_0.length c0_0,.int .i64 a0_1,.int .i64 a0_2,.int .i64 a0_3]] rfl y1_ ?_;(with_reducible refine (tl_short.calls k _ _ l0_0 a0_1 a0_2 a0_3 true _ ?side1 ?side2 A10.out).mono ?_);(case side1=>repeat (first|exact (Kd.C_below HR0_0.out HB.out)|(with_reducible refine Kd.C_alloc ?_ _)|(with_reducible refine Kd.C_drewN ?_ _)|(with_reducible refine Kd.C_drew ?_)));(case side2=>exact HC0_0.out);rintro e w41 ⟨rfl,hb⟩;refine ⟨_,rfl,?_⟩;have n0_:=A0_ (blk_below (g:=gb329) (o:=.cells #[.slice A0_0 l0_0.length c0_0,.int .i64 a0_1,.int .i64 a0_2,.int .i64 a0_3] 28 (0,0)) (bd_ BK329.out) hb);have n1_:=A0_ (below_step y5_ hb);clear BK329;clear HB;have BK329:=n0_;have HB:=n1_;clear n0_ n1_;(try clear hb);(try clear hb2);(try clear hk);(try clear hi);obtain ⟨hcz42_0,hcz42_1,hcz42_2,hcz42_3,hfz42_0,hfz42_1,hfz42_2,hfz42_3⟩:=bq4_ BK329.out)|(go_at_call 13;(with_reducible refine (tr_Sky.calls k _ _ l0_0 a0_1 a0_2 a0_3 true _ ?side1 ?side2 A12.out).mono ?_);(case side1=>repeat (first|exact (Kd.C_below HR0_0.out HB.out)|(with_reducible refine Kd.C_alloc ?_ _)|(with_reducible refine Kd.C_drewN ?_ _)|(with_reducible refine Kd.C_drew ?_)));(case side2=>exact HC0_0.out);rintro e w43 ⟨rfl,hb⟩;have n0_:=A0_ (blk_below (g:=gb329) (o:=.cells #[.slice A0_0 l0_0.length c0_0,.int .i64 a0_1,.int .i64 a0_2,.int .i64 a0_3] 28 (0,0)) (bd_ BK329.out) hb);have n1_:=A0_ (below_step y5_ hb);clear BK329;clear HB;have BK329:=n0_;have HB:=n1_;clear n0_ n1_;(try clear hb);(try clear hb2);(try clear hk);(try clear hi))|(go_at_call 18;(with_reducible refine (tr_Limit.calls a1 true _ A14.out).mono ?_);rintro e w' ⟨rfl,⟨nd,rfl⟩⟩)|(go_at_call 18;(with_reducible refine (tr_Limit.calls a2 true _ A16.out).mono ?_);rintro e w' ⟨rfl,⟨nd,rfl⟩⟩)|(go_at_call 14;(with_reducible refine (tr_Span.calls a3 a4 false _ A18.out).mono ?_);rintro e w' ⟨rfl,⟨nd,rfl⟩⟩))
       go_meet
       case rel=>exact ⟨_,(true),y4_,H',⟨by first|omega|exact Nat.le_refl _⟩,⟨by (with_reducible repeat (first|refine blk_drewN ?_ _|refine blk_drew ?_|refine blk_alloc ?_ _));exact BK329.out⟩,⟨y5_⟩⟩
     ·replace c17:=Bool.eq_false_iff.mpr c17;subst c17
      have H1:(tl_SkyShadows.j0 k a1 a2 a3 a4 a5 a6 true l0_0 a0_1 a0_2 a0_3)=some r:=by rw [if_neg (show ¬ (false=true) by decide)] at H;exact H
      clear H;have H:=H1;clear H1
      have H':=A0_ H
      clear H;obtain ⟨hcz44_0,hcz44_1,hcz44_2,hcz44_3,hfz44_0,hfz44_1,hfz44_2,hfz44_3⟩:=bq4_ BK329.out
      go_wp2_with (first|((with_reducible refine gate_callee (f:=10) rfl ?_);refine goesL_ (some 30) rfl rfl Tryz.func10 (by kernel_rfl) rfl #[.agg #[.slice A0_0 l0_0.length c0_0,.int .i64 a0_1,.int .i64 a0_2,.int .i64 a0_3]] rfl y1_ ?_;(with_reducible refine (tl_short.calls k _ _ l0_0 a0_1 a0_2 a0_3 true _ ?side1 ?side2 A10.out).mono ?_);(case side1=>repeat (first|exact (Kd.C_below HR0_0.out HB.out)|(with_reducible refine Kd.C_alloc ?_ _)|(with_reducible refine Kd.C_drewN ?_ _)|(with_reducible refine Kd.C_drew ?_)));(case side2=>exact HC0_0.out);rintro e w45 ⟨rfl,hb⟩;refine ⟨_,rfl,?_⟩;have n0_:=A0_ (blk_below (g:=gb329) (o:=.cells #[.slice A0_0 l0_0.length c0_0,.int .i64 a0_1,.int .i64 a0_2,.int .i64 a0_3] 28 (0,0)) (bd_ BK329.out) hb);have n1_:=A0_ (below_step y5_ hb);clear BK329;clear HB;have BK329:=n0_;have HB:=n1_;clear n0_ n1_;(try clear hb);(try clear hb2);(try clear hk);(try clear hi);obtain ⟨hcz46_0,hcz46_1,hcz46_2,hcz46_3,hfz46_0,hfz46_1,hfz46_2,hfz46_3⟩:=bq4_ BK329.out)|(go_at_call 13;(with_reducible refine (tr_Sky.calls k _ _ l0_0 a0_1 a0_2 a0_3 true _ ?side1 ?side2 A12.out).mono ?_);(case side1=>repeat (first|exact (Kd.C_below HR0_0.out HB.out)|(with_reducible refine Kd.C_alloc ?_ _)|(with_reducible refine Kd.C_drewN ?_ _)|(with_reducible refine Kd.C_drew ?_)));(case side2=>exact HC0_0.out);rintro e w47 ⟨rfl,hb⟩;have n0_:=A0_ (blk_below (g:=gb329) (o:=.cells #[.slice A0_0 l0_0.length c0_0,.int .i64 a0_1,.int .i64 a0_2,.int .i64 a0_3] 28 (0,0)) (bd_ BK329.out) hb);have n1_:=A0_ (below_step y5_ hb);clear BK329;clear HB;have BK329:=n0_;have HB:=n1_;clear n0_ n1_;(try clear hb);(try clear hb2);(try clear hk);(try clear hi))|(go_at_call 18;(with_reducible refine (tr_Limit.calls a1 true _ A14.out).mono ?_);rintro e w' ⟨rfl,⟨nd,rfl⟩⟩)|(go_at_call 18;(with_reducible refine (tr_Limit.calls a2 false _ A16.out).mono ?_);rintro e w' ⟨rfl,⟨nd,rfl⟩⟩))
      go_meet
      case rel=>exact ⟨_,(true),y4_,H',⟨by first|omega|exact Nat.le_refl _⟩,⟨by (with_reducible repeat (first|refine blk_drewN ?_ _|refine blk_drew ?_|refine blk_alloc ?_ _));exact BK329.out⟩,⟨y5_⟩⟩
    ·replace c15:=Bool.eq_false_iff.mpr c15;subst c15
     have H1:(tl_SkyShadows.j0 k a1 a2 a3 a4 a5 a6 true l0_0 a0_1 a0_2 a0_3)=some r:=by rw [if_neg (show ¬ (false=true) by decide)] at H;exact H
     clear H;have H:=H1;clear H1
     have H':=A0_ H
     clear H;obtain ⟨hcz48_0,hcz48_1,hcz48_2,hcz48_3,hfz48_0,hfz48_1,hfz48_2,hfz48_3⟩:=bq4_ BK329.out
     go_wp2_with (first|((with_reducible refine gate_callee (f:=10) rfl ?_);refine goesL_ (some 30) rfl rfl Tryz.func10 (by kernel_rfl) rfl #[.agg #[.slice A0_0 l0_0.length c0_0,.int .i64 a0_1,.int .i64 a0_2,.int .i64 a0_3]] rfl y1_ ?_;(with_reducible refine (tl_short.calls k _ _ l0_0 a0_1 a0_2 a0_3 true _ ?side1 ?side2 A10.out).mono ?_);(case side1=>repeat (first|exact (Kd.C_below HR0_0.out HB.out)|(with_reducible refine Kd.C_alloc ?_ _)|(with_reducible refine Kd.C_drewN ?_ _)|(with_reducible refine Kd.C_drew ?_)));(case side2=>exact HC0_0.out);rintro e w49 ⟨rfl,hb⟩;refine ⟨_,rfl,?_⟩;have n0_:=A0_ (blk_below (g:=gb329) (o:=.cells #[.slice A0_0 l0_0.length c0_0,.int .i64 a0_1,.int .i64 a0_2,.int .i64 a0_3] 28 (0,0)) (bd_ BK329.out) hb);have n1_:=A0_ (below_step y5_ hb);clear BK329;clear HB;have BK329:=n0_;have HB:=n1_;clear n0_ n1_;(try clear hb);(try clear hb2);(try clear hk);(try clear hi);obtain ⟨hcz50_0,hcz50_1,hcz50_2,hcz50_3,hfz50_0,hfz50_1,hfz50_2,hfz50_3⟩:=bq4_ BK329.out)|(go_at_call 13;(with_reducible refine (tr_Sky.calls k _ _ l0_0 a0_1 a0_2 a0_3 true _ ?side1 ?side2 A12.out).mono ?_);(case side1=>repeat (first|exact (Kd.C_below HR0_0.out HB.out)|(with_reducible refine Kd.C_alloc ?_ _)|(with_reducible refine Kd.C_drewN ?_ _)|(with_reducible refine Kd.C_drew ?_)));(case side2=>exact HC0_0.out);rintro e w51 ⟨rfl,hb⟩;have n0_:=A0_ (blk_below (g:=gb329) (o:=.cells #[.slice A0_0 l0_0.length c0_0,.int .i64 a0_1,.int .i64 a0_2,.int .i64 a0_3] 28 (0,0)) (bd_ BK329.out) hb);have n1_:=A0_ (below_step y5_ hb);clear BK329;clear HB;have BK329:=n0_;have HB:=n1_;clear n0_ n1_;(try clear hb);(try clear hb2);(try clear hk);(try clear hi))|(go_at_call 18;(with_reducible refine (tr_Limit.calls a1 false _ A14.out).mono ?_);rintro e w' ⟨rfl,⟨nd,rfl⟩⟩))
     go_meet
     case rel=>exact ⟨_,(true),y4_,H',⟨by first|omega|exact Nat.le_refl _⟩,⟨by (with_reducible repeat (first|refine blk_drewN ?_ _|refine blk_drew ?_|refine blk_alloc ?_ _));exact BK329.out⟩,⟨y5_⟩⟩
   ·replace c13:=Bool.eq_false_iff.mpr c13;subst c13
    have H1:(tl_SkyShadows.j0 k a1 a2 a3 a4 a5 a6 true l0_0 a0_1 a0_2 a0_3)=some r:=by rw [if_neg (show ¬ (false=true) by decide)] at H;exact H
    clear H;have H:=H1;clear H1
    have H':=A0_ H
    clear H;obtain ⟨hcz52_0,hcz52_1,hcz52_2,hcz52_3,hfz52_0,hfz52_1,hfz52_2,hfz52_3⟩:=bq4_ BK329.out
    go_wp2_with (first|((with_reducible refine gate_callee (f:=10) rfl ?_);refine goesL_ (some 30) rfl rfl Tryz.func10 (by kernel_rfl) rfl #[.agg #[.slice A0_0 l0_0.length c0_0,.int .i64 a0_1,.int .i64 a0_2,.int .i64 a0_3]] rfl y1_ ?_;(with_reducible refine (tl_short.calls k _ _ l0_0 a0_1 a0_2 a0_3 true _ ?side1 ?side2 A10.out).mono ?_);(case side1=>repeat (first|exact (Kd.C_below HR0_0.out HB.out)|(with_reducible refine Kd.C_alloc ?_ _)|(with_reducible refine Kd.C_drewN ?_ _)|(with_reducible refine Kd.C_drew ?_)));(case side2=>exact HC0_0.out);rintro e w53 ⟨rfl,hb⟩;refine ⟨_,rfl,?_⟩;have n0_:=A0_ (blk_below (g:=gb329) (o:=.cells #[.slice A0_0 l0_0.length c0_0,.int .i64 a0_1,.int .i64 a0_2,.int .i64 a0_3] 28 (0,0)) (bd_ BK329.out) hb);have n1_:=A0_ (below_step y5_ hb);clear BK329;clear HB;have BK329:=n0_;have HB:=n1_;clear n0_ n1_;(try clear hb);(try clear hb2);(try clear hk);(try clear hi);obtain ⟨hcz54_0,hcz54_1,hcz54_2,hcz54_3,hfz54_0,hfz54_1,hfz54_2,hfz54_3⟩:=bq4_ BK329.out)|(go_at_call 13;(with_reducible refine (tr_Sky.calls k _ _ l0_0 a0_1 a0_2 a0_3 false _ ?side1 ?side2 A12.out).mono ?_);(case side1=>repeat (first|exact (Kd.C_below HR0_0.out HB.out)|(with_reducible refine Kd.C_alloc ?_ _)|(with_reducible refine Kd.C_drewN ?_ _)|(with_reducible refine Kd.C_drew ?_)));(case side2=>exact HC0_0.out);rintro e w55 ⟨rfl,hb⟩;have n0_:=A0_ (blk_below (g:=gb329) (o:=.cells #[.slice A0_0 l0_0.length c0_0,.int .i64 a0_1,.int .i64 a0_2,.int .i64 a0_3] 28 (0,0)) (bd_ BK329.out) hb);have n1_:=A0_ (below_step y5_ hb);clear BK329;clear HB;have BK329:=n0_;have HB:=n1_;clear n0_ n1_;(try clear hb);(try clear hb2);(try clear hk);(try clear hi)))
    go_meet
    case rel=>exact ⟨_,(true),y4_,H',⟨by first|omega|exact Nat.le_refl _⟩,⟨by (with_reducible repeat (first|refine blk_drewN ?_ _|refine blk_drew ?_|refine blk_alloc ?_ _));exact BK329.out⟩,⟨y5_⟩⟩
  ·replace c11:=Bool.eq_false_iff.mpr c11;subst c11
   have H1:(tl_SkyShadows.j0 k a1 a2 a3 a4 a5 a6 true l0_0 a0_1 a0_2 a0_3)=some r:=by rw [if_neg (show ¬ (false=true) by decide)] at H;exact H
   clear H;have H:=H1;clear H1
   have H':=A0_ H
   clear H;obtain ⟨hcz56_0,hcz56_1,hcz56_2,hcz56_3,hfz56_0,hfz56_1,hfz56_2,hfz56_3⟩:=bq4_ BK329.out
   go_wp2_with (first|((with_reducible refine gate_callee (f:=10) rfl ?_);refine goesL_ (some 30) rfl rfl Tryz.func10 (by kernel_rfl) rfl #[.agg #[.slice A0_0 l0_0.length c0_0,.int .i64 a0_1,.int .i64 a0_2,.int .i64 a0_3]] rfl y1_ ?_;(with_reducible refine (tl_short.calls k _ _ l0_0 a0_1 a0_2 a0_3 false _ ?side1 ?side2 A10.out).mono ?_);(case side1=>repeat (first|exact (Kd.C_below HR0_0.out HB.out)|(with_reducible refine Kd.C_alloc ?_ _)|(with_reducible refine Kd.C_drewN ?_ _)|(with_reducible refine Kd.C_drew ?_)));(case side2=>exact HC0_0.out);rintro e w57 ⟨rfl,hb⟩;refine ⟨_,rfl,?_⟩;have n0_:=A0_ (blk_below (g:=gb329) (o:=.cells #[.slice A0_0 l0_0.length c0_0,.int .i64 a0_1,.int .i64 a0_2,.int .i64 a0_3] 28 (0,0)) (bd_ BK329.out) hb);have n1_:=A0_ (below_step y5_ hb);clear BK329;clear HB;have BK329:=n0_;have HB:=n1_;clear n0_ n1_;(try clear hb);(try clear hb2);(try clear hk);(try clear hi)))
   go_meet
   case rel=>exact ⟨_,(true),y4_,H',⟨by first|omega|exact Nat.le_refl _⟩,⟨by (with_reducible repeat (first|refine blk_drewN ?_ _|refine blk_drew ?_|refine blk_alloc ?_ _));exact BK329.out⟩,⟨y5_⟩⟩
 case rest=>
  clear HC8;(try clear c1);(try clear c2);(try clear p2);(try clear c3);(try clear c5);(try clear p6);(try clear c10);(try clear c11);(try clear c13);(try clear c15);(try clear c17);(try clear c19);(try clear c20);(try clear c20b0);(try clear c25);(try clear c25b0);(try clear c30);(try clear c30b0);(try clear hcz21_0);(try clear hcz21_1);(try clear hcz21_2);(try clear hcz21_3);(try clear hcz23_0);(try clear hcz23_1);(try clear hcz23_2);(try clear hcz23_3);(try clear hcz26_0);(try clear hcz26_1);(try clear hcz26_2);(try clear hcz26_3);(try clear hcz28_0);(try clear hcz28_1);(try clear hcz28_2);(try clear hcz28_3);(try clear hcz31_0);(try clear hcz31_1);(try clear hcz31_2);(try clear hcz31_3);(try clear hcz33_0);(try clear hcz33_1);(try clear hcz33_2);(try clear hcz33_3);(try clear hcz36_0);(try clear hcz36_1);(try clear hcz36_2);(try clear hcz36_3);(try clear hcz38_0);(try clear hcz38_1);(try clear hcz38_2);(try clear hcz38_3);(try clear hcz40_0);(try clear hcz40_1);(try clear hcz40_2);(try clear hcz40_3);(try clear hcz42_0);(try clear hcz42_1);(try clear hcz42_2);(try clear hcz42_3);(try clear hcz44_0);(try clear hcz44_1);(try clear hcz44_2);(try clear hcz44_3);(try clear hcz46_0);(try clear hcz46_1);(try clear hcz46_2);(try clear hcz46_3);(try clear hcz48_0);(try clear hcz48_1);(try clear hcz48_2);(try clear hcz48_3);(try clear hcz50_0);(try clear hcz50_1);(try clear hcz50_2);(try clear hcz50_3);(try clear hcz52_0);(try clear hcz52_1);(try clear hcz52_2);(try clear hcz52_3);(try clear hcz54_0);(try clear hcz54_1);(try clear hcz54_2);(try clear hcz54_3);(try clear hcz56_0);(try clear hcz56_1);(try clear hcz56_2);(try clear hcz56_3);(try clear hfz21_0);(try clear hfz21_1);(try clear hfz21_2);(try clear hfz21_3);(try clear hfz23_0);(try clear hfz23_1);(try clear hfz23_2);(try clear hfz23_3);(try clear hfz26_0);(try clear hfz26_1);(try clear hfz26_2);(try clear hfz26_3);(try clear hfz28_0);(try clear hfz28_1);(try clear hfz28_2);(try clear hfz28_3);(try clear hfz31_0);(try clear hfz31_1);(try clear hfz31_2);(try clear hfz31_3);(try clear hfz33_0);(try clear hfz33_1);(try clear hfz33_2);(try clear hfz33_3);(try clear hfz36_0);(try clear hfz36_1);(try clear hfz36_2);(try clear hfz36_3);(try clear hfz38_0);(try clear hfz38_1);(try clear hfz38_2);(try clear hfz38_3);(try clear hfz40_0);(try clear hfz40_1);(try clear hfz40_2);(try clear hfz40_3);(try clear hfz42_0);(try clear hfz42_1);(try clear hfz42_2);(try clear hfz42_3);(try clear hfz44_0);(try clear hfz44_1);(try clear hfz44_2);(try clear hfz44_3);(try clear hfz46_0);(try clear hfz46_1);(try clear hfz46_2);(try clear hfz46_3);(try clear hfz48_0);(try clear hfz48_1);(try clear hfz48_2);(try clear hfz48_3);(try clear hfz50_0);(try clear hfz50_1);(try clear hfz50_2);(try clear hfz50_3);(try clear hfz52_0);(try clear hfz52_1);(try clear hfz52_2);(try clear hfz52_3)
  (try clear hfz54_0);(try clear hfz54_1);(try clear hfz54_2);(try clear hfz54_3);(try clear hfz56_0);(try clear hfz56_1);(try clear hfz56_2);(try clear hfz56_3)
  obtain ⟨kq,x74_7,rfl,HA,HJ7,BK329,HB⟩:=hcut
  cases kq with
  |zero=>exact absurd HA.out (by simp [tl_SkyShadows.j0])
  |succ kj7=>
   have H:=HA.out
   clear HA
   simp only [tl_SkyShadows.j0] at H
   by_cases c58:x74_7=true
   ·subst c58
    have H1:((tl_known.f).bind fun t335=>(some t335))=some r:=by rw [if_pos rfl] at H;exact H
    clear H;have H:=H1;clear H1;replace H:=Option.bind_eq_some_iff.mp H;obtain ⟨t335,A590,H⟩:=H
    replace H:(some t335)=some r:=H
    have A59:=A0_ A590;clear A590;obtain rfl:=Option.some.inj H
    go_wp2_with (first|((with_reducible refine gate_callee (f:=11) rfl ?_);refine goesL_ (some 75) rfl rfl Tryz.func11 (by kernel_rfl) rfl #[] rfl y1_ ?_;(with_reducible refine (tl_known.calls  t335 _ A59.out ?side1).mono ?_);(case side1=>exact LD.below HLD.out y5_);rintro e w60 ⟨rfl,hb⟩;refine ⟨_,rfl,?_⟩;have n0_:=A0_ (blk_below (g:=gb329) (o:=.cells #[.slice A0_0 l0_0.length c0_0,.int .i64 a0_1,.int .i64 a0_2,.int .i64 a0_3] 28 (0,0)) (bd_ BK329.out) hb);have n1_:=A0_ (below_step y5_ hb);clear BK329;clear HB;have BK329:=n0_;have HB:=n1_;clear n0_ n1_;(try clear hb);(try clear hb2);(try clear hk);(try clear hi)))
    go_ret
    exact ⟨y3_,y5_⟩
   ·replace c58:=Bool.eq_false_iff.mpr c58;subst c58
    have H1:((sky_Eclipses.f kj7 l0_0 a0_1 a0_2 a0_3 a1 a2 a3 a4).bind fun bt336=>((sky_Eclipses.f kj7 l0_0 a0_1 a0_2 a0_3 (wrap64 (a1+a6)) (wrap64 (a2+a6)) a3 a4).bind fun bt340=>((sky_Moons.f kj7 l0_0 a0_1 a0_2 a0_3 a3 a4).bind fun bt344=>((sky_Place.f kj7 l0_0 a0_1 a0_2 a0_3 1 a5).bind fun bt348=>((sky_Node.f kj7 l0_0 a0_1 a0_2 a0_3 a5).bind fun bt350=>(if bt336.2=0 then (if bt340.2=0 then (if bt344.2=0 then (if bt348.2=0 then (if bt350.2=0 then (if (bt336.1.length:Int) > (bt340.1.length:Int) then (tl_SkyShadows.j1 kj7 a1 a2 a5 bt336.1 bt340.1 bt344.1 bt348.1 bt350.1 true) else (if (bt340.1.length:Int) > (bt344.1.length:Int) then (tl_SkyShadows.j1 kj7 a1 a2 a5 bt336.1 bt340.1 bt344.1 bt348.1 bt350.1 true) else (if (bt344.1.length:Int) > 1602 then (tl_SkyShadows.j1 kj7 a1 a2 a5 bt336.1 bt340.1 bt344.1 bt348.1 bt350.1 true) else ((tr_Spot.f bt348.1).bind fun t352=>(if t352=true then ((tr_Spot.f bt350.1).bind fun t353=>(tl_SkyShadows.j1 kj7 a1 a2 a5 bt336.1 bt340.1 bt344.1 bt348.1 bt350.1 (!t353))) else (tl_SkyShadows.j1 kj7 a1 a2 a5 bt336.1 bt340.1 bt344.1 bt348.1 bt350.1 true)))))) else (tl_SkyShadows.j1 kj7 a1 a2 a5 bt336.1 bt340.1 bt344.1 bt348.1 bt350.1 true)) else (tl_SkyShadows.j1 kj7 a1 a2 a5 bt336.1 bt340.1 bt344.1 bt348.1 bt350.1 true)) else (tl_SkyShadows.j1 kj7 a1 a2 a5 bt336.1 bt340.1 bt344.1 bt348.1 bt350.1 true)) else (tl_SkyShadows.j1 kj7 a1 a2 a5 bt336.1 bt340.1 bt344.1 bt348.1 bt350.1 true)) else (tl_SkyShadows.j1 kj7 a1 a2 a5 bt336.1 bt340.1 bt344.1 bt348.1 bt350.1 true)))))))=some r:=by rw [if_neg (show ¬ (false=true) by decide)] at H;exact H
    clear H;have H:=H1;clear H1;replace H:=Option.bind_eq_some_iff.mp H
    obtain ⟨⟨t336,t339⟩,A610,H⟩:=H
    replace H:((sky_Eclipses.f kj7 l0_0 a0_1 a0_2 a0_3 (wrap64 (a1+a6)) (wrap64 (a2+a6)) a3 a4).bind fun bt340=>((sky_Moons.f kj7 l0_0 a0_1 a0_2 a0_3 a3 a4).bind fun bt344=>((sky_Place.f kj7 l0_0 a0_1 a0_2 a0_3 1 a5).bind fun bt348=>((sky_Node.f kj7 l0_0 a0_1 a0_2 a0_3 a5).bind fun bt350=>(if t339=0 then (if bt340.2=0 then (if bt344.2=0 then (if bt348.2=0 then (if bt350.2=0 then (if (t336.length:Int) > (bt340.1.length:Int) then (tl_SkyShadows.j1 kj7 a1 a2 a5 t336 bt340.1 bt344.1 bt348.1 bt350.1 true) else (if (bt340.1.length:Int) > (bt344.1.length:Int) then (tl_SkyShadows.j1 kj7 a1 a2 a5 t336 bt340.1 bt344.1 bt348.1 bt350.1 true) else (if (bt344.1.length:Int) > 1602 then (tl_SkyShadows.j1 kj7 a1 a2 a5 t336 bt340.1 bt344.1 bt348.1 bt350.1 true) else ((tr_Spot.f bt348.1).bind fun t352=>(if t352=true then ((tr_Spot.f bt350.1).bind fun t353=>(tl_SkyShadows.j1 kj7 a1 a2 a5 t336 bt340.1 bt344.1 bt348.1 bt350.1 (!t353))) else (tl_SkyShadows.j1 kj7 a1 a2 a5 t336 bt340.1 bt344.1 bt348.1 bt350.1 true)))))) else (tl_SkyShadows.j1 kj7 a1 a2 a5 t336 bt340.1 bt344.1 bt348.1 bt350.1 true)) else (tl_SkyShadows.j1 kj7 a1 a2 a5 t336 bt340.1 bt344.1 bt348.1 bt350.1 true)) else (tl_SkyShadows.j1 kj7 a1 a2 a5 t336 bt340.1 bt344.1 bt348.1 bt350.1 true)) else (tl_SkyShadows.j1 kj7 a1 a2 a5 t336 bt340.1 bt344.1 bt348.1 bt350.1 true)) else (tl_SkyShadows.j1 kj7 a1 a2 a5 t336 bt340.1 bt344.1 bt348.1 bt350.1 true))))))=some r:=H
    have A61:=A0_ A610;clear A610;replace H:=Option.bind_eq_some_iff.mp H
    obtain ⟨⟨t340,t343⟩,A620,H⟩:=H
    replace H:((sky_Moons.f kj7 l0_0 a0_1 a0_2 a0_3 a3 a4).bind fun bt344=>((sky_Place.f kj7 l0_0 a0_1 a0_2 a0_3 1 a5).bind fun bt348=>((sky_Node.f kj7 l0_0 a0_1 a0_2 a0_3 a5).bind fun bt350=>(if t339=0 then (if t343=0 then (if bt344.2=0 then (if bt348.2=0 then (if bt350.2=0 then (if (t336.length:Int) > (t340.length:Int) then (tl_SkyShadows.j1 kj7 a1 a2 a5 t336 t340 bt344.1 bt348.1 bt350.1 true) else (if (t340.length:Int) > (bt344.1.length:Int) then (tl_SkyShadows.j1 kj7 a1 a2 a5 t336 t340 bt344.1 bt348.1 bt350.1 true) else (if (bt344.1.length:Int) > 1602 then (tl_SkyShadows.j1 kj7 a1 a2 a5 t336 t340 bt344.1 bt348.1 bt350.1 true) else ((tr_Spot.f bt348.1).bind fun t352=>(if t352=true then ((tr_Spot.f bt350.1).bind fun t353=>(tl_SkyShadows.j1 kj7 a1 a2 a5 t336 t340 bt344.1 bt348.1 bt350.1 (!t353))) else (tl_SkyShadows.j1 kj7 a1 a2 a5 t336 t340 bt344.1 bt348.1 bt350.1 true)))))) else (tl_SkyShadows.j1 kj7 a1 a2 a5 t336 t340 bt344.1 bt348.1 bt350.1 true)) else (tl_SkyShadows.j1 kj7 a1 a2 a5 t336 t340 bt344.1 bt348.1 bt350.1 true)) else (tl_SkyShadows.j1 kj7 a1 a2 a5 t336 t340 bt344.1 bt348.1 bt350.1 true)) else (tl_SkyShadows.j1 kj7 a1 a2 a5 t336 t340 bt344.1 bt348.1 bt350.1 true)) else (tl_SkyShadows.j1 kj7 a1 a2 a5 t336 t340 bt344.1 bt348.1 bt350.1 true)))))=some r:=H
    have A62:=A0_ A620;clear A620;replace H:=Option.bind_eq_some_iff.mp H
    obtain ⟨⟨t344,t347⟩,A630,H⟩:=H
    replace H:((sky_Place.f kj7 l0_0 a0_1 a0_2 a0_3 1 a5).bind fun bt348=>((sky_Node.f kj7 l0_0 a0_1 a0_2 a0_3 a5).bind fun bt350=>(if t339=0 then (if t343=0 then (if t347=0 then (if bt348.2=0 then (if bt350.2=0 then (if (t336.length:Int) > (t340.length:Int) then (tl_SkyShadows.j1 kj7 a1 a2 a5 t336 t340 t344 bt348.1 bt350.1 true) else (if (t340.length:Int) > (t344.length:Int) then (tl_SkyShadows.j1 kj7 a1 a2 a5 t336 t340 t344 bt348.1 bt350.1 true) else (if (t344.length:Int) > 1602 then (tl_SkyShadows.j1 kj7 a1 a2 a5 t336 t340 t344 bt348.1 bt350.1 true) else ((tr_Spot.f bt348.1).bind fun t352=>(if t352=true then ((tr_Spot.f bt350.1).bind fun t353=>(tl_SkyShadows.j1 kj7 a1 a2 a5 t336 t340 t344 bt348.1 bt350.1 (!t353))) else (tl_SkyShadows.j1 kj7 a1 a2 a5 t336 t340 t344 bt348.1 bt350.1 true)))))) else (tl_SkyShadows.j1 kj7 a1 a2 a5 t336 t340 t344 bt348.1 bt350.1 true)) else (tl_SkyShadows.j1 kj7 a1 a2 a5 t336 t340 t344 bt348.1 bt350.1 true)) else (tl_SkyShadows.j1 kj7 a1 a2 a5 t336 t340 t344 bt348.1 bt350.1 true)) else (tl_SkyShadows.j1 kj7 a1 a2 a5 t336 t340 t344 bt348.1 bt350.1 true)) else (tl_SkyShadows.j1 kj7 a1 a2 a5 t336 t340 t344 bt348.1 bt350.1 true))))=some r:=H
    have A63:=A0_ A630;clear A630;replace H:=Option.bind_eq_some_iff.mp H
    obtain ⟨⟨t348,t349⟩,A640,H⟩:=H
    replace H:((sky_Node.f kj7 l0_0 a0_1 a0_2 a0_3 a5).bind fun bt350=>(if t339=0 then (if t343=0 then (if t347=0 then (if t349=0 then (if bt350.2=0 then (if (t336.length:Int) > (t340.length:Int) then (tl_SkyShadows.j1 kj7 a1 a2 a5 t336 t340 t344 t348 bt350.1 true) else (if (t340.length:Int) > (t344.length:Int) then (tl_SkyShadows.j1 kj7 a1 a2 a5 t336 t340 t344 t348 bt350.1 true) else (if (t344.length:Int) > 1602 then (tl_SkyShadows.j1 kj7 a1 a2 a5 t336 t340 t344 t348 bt350.1 true) else ((tr_Spot.f t348).bind fun t352=>(if t352=true then ((tr_Spot.f bt350.1).bind fun t353=>(tl_SkyShadows.j1 kj7 a1 a2 a5 t336 t340 t344 t348 bt350.1 (!t353))) else (tl_SkyShadows.j1 kj7 a1 a2 a5 t336 t340 t344 t348 bt350.1 true)))))) else (tl_SkyShadows.j1 kj7 a1 a2 a5 t336 t340 t344 t348 bt350.1 true)) else (tl_SkyShadows.j1 kj7 a1 a2 a5 t336 t340 t344 t348 bt350.1 true)) else (tl_SkyShadows.j1 kj7 a1 a2 a5 t336 t340 t344 t348 bt350.1 true)) else (tl_SkyShadows.j1 kj7 a1 a2 a5 t336 t340 t344 t348 bt350.1 true)) else (tl_SkyShadows.j1 kj7 a1 a2 a5 t336 t340 t344 t348 bt350.1 true)))=some r:=H
    have A64:=A0_ A640;clear A640;replace H:=Option.bind_eq_some_iff.mp H
    obtain ⟨⟨t350,t351⟩,A650,H⟩:=H
    replace H:(if t339=0 then (if t343=0 then (if t347=0 then (if t349=0 then (if t351=0 then (if (t336.length:Int) > (t340.length:Int) then (tl_SkyShadows.j1 kj7 a1 a2 a5 t336 t340 t344 t348 t350 true) else (if (t340.length:Int) > (t344.length:Int) then (tl_SkyShadows.j1 kj7 a1 a2 a5 t336 t340 t344 t348 t350 true) else (if (t344.length:Int) > 1602 then (tl_SkyShadows.j1 kj7 a1 a2 a5 t336 t340 t344 t348 t350 true) else ((tr_Spot.f t348).bind fun t352=>(if t352=true then ((tr_Spot.f t350).bind fun t353=>(tl_SkyShadows.j1 kj7 a1 a2 a5 t336 t340 t344 t348 t350 (!t353))) else (tl_SkyShadows.j1 kj7 a1 a2 a5 t336 t340 t344 t348 t350 true)))))) else (tl_SkyShadows.j1 kj7 a1 a2 a5 t336 t340 t344 t348 t350 true)) else (tl_SkyShadows.j1 kj7 a1 a2 a5 t336 t340 t344 t348 t350 true)) else (tl_SkyShadows.j1 kj7 a1 a2 a5 t336 t340 t344 t348 t350 true)) else (tl_SkyShadows.j1 kj7 a1 a2 a5 t336 t340 t344 t348 t350 true)) else (tl_SkyShadows.j1 kj7 a1 a2 a5 t336 t340 t344 t348 t350 true))=some r:=H
    have A65:=A0_ A650;clear A650;have HC66:=A0_ H;clear H;obtain ⟨hcz67_0,hcz67_1,hcz67_2,hcz67_3,hfz67_0,hfz67_1,hfz67_2,hfz67_3⟩:=bq4_ BK329.out
    go_upto_region 8 with (first|((with_reducible refine gate_callee (f:=17) rfl ?_);refine goesL_ (some 82) rfl rfl Tryz.func17 (by kernel_rfl) rfl #[.agg #[.slice A0_0 l0_0.length c0_0,.int .i64 a0_1,.int .i64 a0_2,.int .i64 a0_3],.int .i64 a1,.int .i64 a2,.int .i64 a3,.int .i64 a4] rfl y1_ ?_;(with_reducible refine (sky_Eclipses.calls kj7 _ _ l0_0 a0_1 a0_2 a0_3 a1 a2 a3 a4 t336 t339 _ ?side1 ?side2 A61.out).mono ?_);(case side1=>repeat (first|exact (Kd.C_below HR0_0.out HB.out)|(with_reducible refine Kd.C_alloc ?_ _)|(with_reducible refine Kd.C_drewN ?_ _)|(with_reducible refine Kd.C_drew ?_)));(case side2=>exact HC0_0.out);rintro e w68 ⟨v337,rfl,ho0,hb⟩;refine ⟨_,rfl,?_⟩;have n0_:=A0_ (Kd.R_lower ho0 (below_size y5_));have n1_:=A0_ (blk_below (g:=gb329) (o:=.cells #[.slice A0_0 l0_0.length c0_0,.int .i64 a0_1,.int .i64 a0_2,.int .i64 a0_3] 28 (0,0)) (bd_ BK329.out) hb);have n2_:=A0_ (below_step y5_ hb);clear BK329;clear HB;have HO338:=n0_;have BK329:=n1_;have HB:=n2_;clear n0_ n1_ n2_;(try clear hb);(try clear hb2);(try clear hk);(try clear hi);(try clear ho0);obtain ⟨hcz69_0,hcz69_1,hcz69_2,hcz69_3,hfz69_0,hfz69_1,hfz69_2,hfz69_3⟩:=bq4_ BK329.out)|((with_reducible refine gate_callee (f:=17) rfl ?_);refine goesL_ (some 95) rfl rfl Tryz.func17 (by kernel_rfl) rfl #[.agg #[.slice A0_0 l0_0.length c0_0,.int .i64 a0_1,.int .i64 a0_2,.int .i64 a0_3],.int .i64 (wrap64 (a1+a6)),.int .i64 (wrap64 (a2+a6)),.int .i64 a3,.int .i64 a4] rfl y1_ ?_;(with_reducible refine (sky_Eclipses.calls kj7 _ _ l0_0 a0_1 a0_2 a0_3 (wrap64 (a1+a6)) (wrap64 (a2+a6)) a3 a4 t340 t343 _ ?side1 ?side2 A62.out).mono ?_);(case side1=>repeat (first|exact (Kd.C_below HR0_0.out HB.out)|(with_reducible refine Kd.C_alloc ?_ _)|(with_reducible refine Kd.C_drewN ?_ _)|(with_reducible refine Kd.C_drew ?_)));(case side2=>exact HC0_0.out);rintro e w70 ⟨v341,rfl,ho0,hb⟩;refine ⟨_,rfl,?_⟩;have n0_:=A0_ (Kd.R_elder' (rd_ HO338.out) (Kd.R_base ho0) hb);have n1_:=A0_ (Kd.R_lower (Kd.R_new' ho0 (Kd.R_lt (rd_ HO338.out))) (below_size y5_));have n2_:=A0_ (blk_below (g:=gb329) (o:=.cells #[.slice A0_0 l0_0.length c0_0,.int .i64 a0_1,.int .i64 a0_2,.int .i64 a0_3] 28 (0,0)) (bd_ BK329.out) hb);have n3_:=A0_ (below_step y5_ hb);clear HO338;clear BK329;clear HB;have HO338:=n0_;have HO342:=n1_;have BK329:=n2_;have HB:=n3_;clear n0_ n1_ n2_ n3_;(try clear hb);(try clear hb2);(try clear hk);(try clear hi);(try clear ho0);obtain ⟨hcz71_0,hcz71_1,hcz71_2,hcz71_3,hfz71_0,hfz71_1,hfz71_2,hfz71_3⟩:=bq4_ BK329.out)|((with_reducible refine gate_callee (f:=12) rfl ?_);refine goesL_ (some 102) rfl rfl Tryz.func12 (by kernel_rfl) rfl #[.agg #[.slice A0_0 l0_0.length c0_0,.int .i64 a0_1,.int .i64 a0_2,.int .i64 a0_3],.int .i64 a3,.int .i64 a4] rfl y1_ ?_;(with_reducible refine (sky_Moons.calls kj7 _ _ l0_0 a0_1 a0_2 a0_3 a3 a4 t344 t347 _ ?side1 ?side2 A63.out).mono ?_);(case side1=>repeat (first|exact (Kd.C_below HR0_0.out HB.out)|(with_reducible refine Kd.C_alloc ?_ _)|(with_reducible refine Kd.C_drewN ?_ _)|(with_reducible refine Kd.C_drew ?_)));(case side2=>exact HC0_0.out);rintro e w72 ⟨v345,rfl,ho0,hb⟩;refine ⟨_,rfl,?_⟩;have n0_:=A0_ (Kd.R_below (rd_ HO338.out) hb);have n1_:=A0_ (Kd.R_below (rd_ HO342.out) hb);have n2_:=A0_ (Kd.R_lower ho0 (below_size y5_));have n3_:=A0_ (blk_below (g:=gb329) (o:=.cells #[.slice A0_0 l0_0.length c0_0,.int .i64 a0_1,.int .i64 a0_2,.int .i64 a0_3] 28 (0,0)) (bd_ BK329.out) hb);have n4_:=A0_ (below_step y5_ hb);clear HO338;clear HO342;clear BK329;clear HB;have HO338:=n0_;have HO342:=n1_;have HO346:=n2_;have BK329:=n3_;have HB:=n4_;clear n0_ n1_ n2_ n3_ n4_;(try clear hb);(try clear hb2);(try clear hk);(try clear hi);(try clear ho0);obtain ⟨hcz73_0,hcz73_1,hcz73_2,hcz73_3,hfz73_0,hfz73_1,hfz73_2,hfz73_3⟩:=bq4_ BK329.out)|((with_reducible refine gate_callee (f:=21) rfl ?_);refine goesL_ (some 108) rfl rfl Tryz.func21 (by kernel_rfl) rfl #[.agg #[.slice A0_0 l0_0.length c0_0,.int .i64 a0_1,.int .i64 a0_2,.int .i64 a0_3],.int .i64 1,.int .i64 a5] rfl y1_ ?_;(with_reducible refine (sky_Place.calls kj7 _ _ l0_0 a0_1 a0_2 a0_3 1 a5 t348 t349 _ ?side1 ?side2 A64.out).mono ?_);(case side1=>repeat (first|exact (Kd.C_below HR0_0.out HB.out)|(with_reducible refine Kd.C_alloc ?_ _)|(with_reducible refine Kd.C_drewN ?_ _)|(with_reducible refine Kd.C_drew ?_)));(case side2=>exact HC0_0.out);rintro e w74 ⟨rfl,hb⟩;refine ⟨_,rfl,?_⟩;have n0_:=A0_ (Kd.R_below (rd_ HO338.out) hb);have n1_:=A0_ (Kd.R_below (rd_ HO342.out) hb);have n2_:=A0_ (Kd.R_below (rd_ HO346.out) hb);have n3_:=A0_ (blk_below (g:=gb329) (o:=.cells #[.slice A0_0 l0_0.length c0_0,.int .i64 a0_1,.int .i64 a0_2,.int .i64 a0_3] 28 (0,0)) (bd_ BK329.out) hb);have n4_:=A0_ (below_step y5_ hb);clear HO338;clear HO342;clear HO346;clear BK329;clear HB;have HO338:=n0_;have HO342:=n1_;have HO346:=n2_;have BK329:=n3_;have HB:=n4_;clear n0_ n1_ n2_ n3_ n4_;(try clear hb);(try clear hb2);(try clear hk);(try clear hi);obtain ⟨hcz75_0,hcz75_1,hcz75_2,hcz75_3,hfz75_0,hfz75_1,hfz75_2,hfz75_3⟩:=bq4_ BK329.out)|((with_reducible refine gate_callee (f:=22) rfl ?_);refine goesL_ (some 114) rfl rfl Tryz.func22 (by kernel_rfl) rfl #[.agg #[.slice A0_0 l0_0.length c0_0,.int .i64 a0_1,.int .i64 a0_2,.int .i64 a0_3],.int .i64 a5] rfl y1_ ?_;(with_reducible refine (sky_Node.calls kj7 _ _ l0_0 a0_1 a0_2 a0_3 a5 t350 t351 _ ?side1 ?side2 A65.out).mono ?_);(case side1=>repeat (first|exact (Kd.C_below HR0_0.out HB.out)|(with_reducible refine Kd.C_alloc ?_ _)|(with_reducible refine Kd.C_drewN ?_ _)|(with_reducible refine Kd.C_drew ?_)));(case side2=>exact HC0_0.out);rintro e w76 ⟨rfl,hb⟩;refine ⟨_,rfl,?_⟩;have n0_:=A0_ (Kd.R_below (rd_ HO338.out) hb);have n1_:=A0_ (Kd.R_below (rd_ HO342.out) hb);have n2_:=A0_ (Kd.R_below (rd_ HO346.out) hb);have n3_:=A0_ (blk_below (g:=gb329) (o:=.cells #[.slice A0_0 l0_0.length c0_0,.int .i64 a0_1,.int .i64 a0_2,.int .i64 a0_3] 28 (0,0)) (bd_ BK329.out) hb);have n4_:=A0_ (below_step y5_ hb);clear HO338;clear HO342;clear HO346;clear BK329;clear HB;have HO338:=n0_;have HO342:=n1_;have HO346:=n2_;have BK329:=n3_;have HB:=n4_;clear n0_ n1_ n2_ n3_ n4_;(try clear hb);(try clear hb2);(try clear hk);(try clear hi)))
    (try simp only [Act.put,List.setIfInBounds_toArray,List.set_cons_zero,List.set_cons_succ])
    go_cut [163] (fun v163 wc=>∃ (kq:Nat) (x163_65:Bool),v163=.bool x163_65∧Aside0 (tl_SkyShadows.j1 kq a1 a2 a5 t336 t340 t344 t348 t350 x163_65=some r)∧Aside0 (kq≤kj7)∧Aside0 (Kd.R k54 54 wc w.heap.size (fun k_=>some k_≠(v341:Value).ownBlock) v337 t336)∧Aside0 (Kd.R k54 54 wc w.heap.size (fun k_=>some k_≠(v337:Value).ownBlock) v341 t340)∧Aside0 (Kd.R k51 51 wc w.heap.size (fun _=>True) v345 t344)∧Aside0 (wc.heap[gb329]?=some (.cells #[(.slice A0_0 l0_0.length c0_0),.int .i64 a0_1,.int .i64 a0_2,.int .i64 a0_3] 28 (0,0)))∧Aside0 (Below w.heap.size w wc))
    case first=>
     have H:=HC66.out
     clear HC66
     by_cases c77:t339=0
     ·as_aux_lemma=>
      rw [if_pos c77] at H
      have c77b0:(t339 == 0)=true:=beq_iff_eq.mpr c77
      have c77b1:(t339 != 0)=false:=bne_eq_false_iff_eq.mpr c77
      clear c77
      (first|rw [c77b0]|(simp only [i64_w,i32_w];rw [c77b0])|skip)
      by_cases c78:t343=0
      ·rw [if_pos c78] at H
       have c78b0:(t343 == 0)=true:=beq_iff_eq.mpr c78
       have c78b1:(t343 != 0)=false:=bne_eq_false_iff_eq.mpr c78
       clear c78
       by_cases c79:t347=0
       ·rw [if_pos c79] at H
        have c79b0:(t347 == 0)=true:=beq_iff_eq.mpr c79
        have c79b1:(t347 != 0)=false:=bne_eq_false_iff_eq.mpr c79
        clear c79
        by_cases c80:t349=0
        ·rw [if_pos c80] at H
         have c80b0:(t349 == 0)=true:=beq_iff_eq.mpr c80
         have c80b1:(t349 != 0)=false:=bne_eq_false_iff_eq.mpr c80
         clear c80
         by_cases c81:t351=0
         ·rw [if_pos c81] at H
          have c81b0:(t351 == 0)=true:=beq_iff_eq.mpr c81
          have c81b1:(t351 != 0)=false:=bne_eq_false_iff_eq.mpr c81
          clear c81
          by_cases c82:(t336.length:Int) > (t340.length:Int)
          ·rw [if_pos c82] at H;have c82b0:decide ((t340.length:Int)<(t336.length:Int))=true:=decide_eq_true c82
           have c82b1:decide (t340.length<t336.length)=true:=decide_eq_true (Int.ofNat_lt.mp c82)
           clear c82
           have H':=A0_ H
           clear H
           obtain ⟨Ao83,co83,eo83⟩:=Kd.R_slice HO338.out
           subst eo83
           obtain ⟨Ao84,co84,eo84⟩:=Kd.R_slice HO342.out
           subst eo84;go_wp2
           go_meet
           case rel=>exact ⟨_,(true),y4_,H',⟨by have:=HJ7.out;first|omega|exact Nat.le_refl _⟩,⟨by (with_reducible repeat (first|apply Kd.R_alloc|apply Kd.R_drewN|apply Kd.R_drew));exact Kd.R_mono HO338.out (fun _ hk=>hk.2)⟩,⟨by (with_reducible repeat (first|apply Kd.R_alloc|apply Kd.R_drewN|apply Kd.R_drew));exact Kd.R_mono HO342.out (fun _ hk=>hk.2)⟩,⟨by (with_reducible repeat (first|apply Kd.R_alloc|apply Kd.R_drewN|apply Kd.R_drew));exact HO346.out⟩,⟨by (with_reducible repeat (first|refine blk_drewN ?_ _|refine blk_drew ?_|refine blk_alloc ?_ _));exact BK329.out⟩,⟨y5_⟩⟩
          ·rw [if_neg c82] at H;have c82b0:decide ((t340.length:Int)<(t336.length:Int))=false:=decide_eq_false c82
           have c82b1:decide (t340.length<t336.length)=false:=decide_eq_false (fun h=>c82 (Int.ofNat_lt.mpr h))
           clear c82
           by_cases c85:(t340.length:Int) > (t344.length:Int)
           ·rw [if_pos c85] at H;have c85b0:decide ((t344.length:Int)<(t340.length:Int))=true:=decide_eq_true c85
            have c85b1:decide (t344.length<t340.length)=true:=decide_eq_true (Int.ofNat_lt.mp c85)
            clear c85
            have H':=A0_ H
            clear H
            obtain ⟨Ao86,co86,eo86⟩:=Kd.R_slice HO338.out
            subst eo86
            obtain ⟨Ao87,co87,eo87⟩:=Kd.R_slice HO342.out
            subst eo87
            obtain ⟨Ao88,co88,eo88⟩:=Kd.R_slice HO346.out
            subst eo88;go_wp2
            go_meet
            case rel=>exact ⟨_,(true),y4_,H',⟨by have:=HJ7.out;first|omega|exact Nat.le_refl _⟩,⟨by (with_reducible repeat (first|apply Kd.R_alloc|apply Kd.R_drewN|apply Kd.R_drew));exact Kd.R_mono HO338.out (fun _ hk=>hk.2)⟩,⟨by (with_reducible repeat (first|apply Kd.R_alloc|apply Kd.R_drewN|apply Kd.R_drew));exact Kd.R_mono HO342.out (fun _ hk=>hk.2)⟩,⟨by (with_reducible repeat (first|apply Kd.R_alloc|apply Kd.R_drewN|apply Kd.R_drew));exact HO346.out⟩,⟨by (with_reducible repeat (first|refine blk_drewN ?_ _|refine blk_drew ?_|refine blk_alloc ?_ _));exact BK329.out⟩,⟨y5_⟩⟩
           ·rw [if_neg c85] at H;have c85b0:decide ((t344.length:Int)<(t340.length:Int))=false:=decide_eq_false c85
            have c85b1:decide (t344.length<t340.length)=false:=decide_eq_false (fun h=>c85 (Int.ofNat_lt.mpr h))
            clear c85
            by_cases c89:(t344.length:Int) > 1602
            ·rw [if_pos c89] at H;have c89b0:decide (1602<(t344.length:Int))=true:=decide_eq_true c89
             have c89b1:decide (1602<t344.length)=true:=decide_eq_true (by omega)
             clear c89
             have H':=A0_ H
             clear H
             obtain ⟨Ao90,co90,eo90⟩:=Kd.R_slice HO338.out
             subst eo90
             obtain ⟨Ao91,co91,eo91⟩:=Kd.R_slice HO342.out
             subst eo91
             obtain ⟨Ao92,co92,eo92⟩:=Kd.R_slice HO346.out
             subst eo92;go_wp2
             go_meet
             case rel=>exact ⟨_,(true),y4_,H',⟨by have:=HJ7.out;first|omega|exact Nat.le_refl _⟩,⟨by (with_reducible repeat (first|apply Kd.R_alloc|apply Kd.R_drewN|apply Kd.R_drew));exact Kd.R_mono HO338.out (fun _ hk=>hk.2)⟩,⟨by (with_reducible repeat (first|apply Kd.R_alloc|apply Kd.R_drewN|apply Kd.R_drew));exact Kd.R_mono HO342.out (fun _ hk=>hk.2)⟩,⟨by (with_reducible repeat (first|apply Kd.R_alloc|apply Kd.R_drewN|apply Kd.R_drew));exact HO346.out⟩,⟨by (with_reducible repeat (first|refine blk_drewN ?_ _|refine blk_drew ?_|refine blk_alloc ?_ _));exact BK329.out⟩,⟨y5_⟩⟩
            ·rw [if_neg c89] at H;have c89b0:decide (1602<(t344.length:Int))=false:=decide_eq_false c89
             have c89b1:decide (1602<t344.length)=false:=decide_eq_false (by omega)
             clear c89;replace H:=Option.bind_eq_some_iff.mp H;obtain ⟨t352,A930,H⟩:=H
             replace H:(if t352=true then ((tr_Spot.f t350).bind fun t353=>(tl_SkyShadows.j1 kj7 a1 a2 a5 t336 t340 t344 t348 t350 (!t353))) else (tl_SkyShadows.j1 kj7 a1 a2 a5 t336 t340 t344 t348 t350 true))=some r:=H
             have A93:=A0_ A930;clear A930
             by_cases c94:t352=true
             ·subst c94
              have H1:((tr_Spot.f t350).bind fun t353=>(tl_SkyShadows.j1 kj7 a1 a2 a5 t336 t340 t344 t348 t350 (!t353)))=some r:=by rw [if_pos rfl] at H;exact H
              clear H;have H:=H1;clear H1;replace H:=Option.bind_eq_some_iff.mp H;obtain ⟨t353,A950,H⟩:=H
              replace H:(tl_SkyShadows.j1 kj7 a1 a2 a5 t336 t340 t344 t348 t350 (!t353))=some r:=H
              have A95:=A0_ A950;clear A950
              have H':=A0_ H
              clear H
              obtain ⟨Ao96,co96,eo96⟩:=Kd.R_slice HO338.out
              subst eo96
              obtain ⟨Ao97,co97,eo97⟩:=Kd.R_slice HO342.out
              subst eo97
              obtain ⟨Ao98,co98,eo98⟩:=Kd.R_slice HO346.out
              subst eo98
              go_wp2_with (first|(go_at_call 23;(with_reducible refine (tr_Spot.calls t348 true _ A93.out).mono ?_);rintro e w' ⟨rfl,⟨nd,rfl⟩⟩)|(go_at_call 23;(with_reducible refine (tr_Spot.calls t350 t353 _ A95.out).mono ?_);rintro e w' ⟨rfl,⟨nd,rfl⟩⟩))
              go_meet
              case rel=>exact ⟨_,(!t353),y4_,H',⟨by have:=HJ7.out;first|omega|exact Nat.le_refl _⟩,⟨by (with_reducible repeat (first|apply Kd.R_alloc|apply Kd.R_drewN|apply Kd.R_drew));exact Kd.R_mono HO338.out (fun _ hk=>hk.2)⟩,⟨by (with_reducible repeat (first|apply Kd.R_alloc|apply Kd.R_drewN|apply Kd.R_drew));exact Kd.R_mono HO342.out (fun _ hk=>hk.2)⟩,⟨by (with_reducible repeat (first|apply Kd.R_alloc|apply Kd.R_drewN|apply Kd.R_drew));exact HO346.out⟩,⟨by (with_reducible repeat (first|refine blk_drewN ?_ _|refine blk_drew ?_|refine blk_alloc ?_ _));exact BK329.out⟩,⟨y5_⟩⟩
             ·replace c94:=Bool.eq_false_iff.mpr c94;subst c94
              have H1:(tl_SkyShadows.j1 kj7 a1 a2 a5 t336 t340 t344 t348 t350 true)=some r:=by rw [if_neg (show ¬ (false=true) by decide)] at H;exact H
              clear H;have H:=H1;clear H1
              have H':=A0_ H
              clear H
              obtain ⟨Ao99,co99,eo99⟩:=Kd.R_slice HO338.out
              subst eo99
              obtain ⟨Ao100,co100,eo100⟩:=Kd.R_slice HO342.out
              subst eo100
              obtain ⟨Ao101,co101,eo101⟩:=Kd.R_slice HO346.out
              subst eo101
              go_wp2_with (first|(go_at_call 23;(with_reducible refine (tr_Spot.calls t348 false _ A93.out).mono ?_);rintro e w' ⟨rfl,⟨nd,rfl⟩⟩))
              go_meet
              case rel=>exact ⟨_,(true),y4_,H',⟨by have:=HJ7.out;first|omega|exact Nat.le_refl _⟩,⟨by (with_reducible repeat (first|apply Kd.R_alloc|apply Kd.R_drewN|apply Kd.R_drew));exact Kd.R_mono HO338.out (fun _ hk=>hk.2)⟩,⟨by (with_reducible repeat (first|apply Kd.R_alloc|apply Kd.R_drewN|apply Kd.R_drew));exact Kd.R_mono HO342.out (fun _ hk=>hk.2)⟩,⟨by (with_reducible repeat (first|apply Kd.R_alloc|apply Kd.R_drewN|apply Kd.R_drew));exact HO346.out⟩,⟨by (with_reducible repeat (first|refine blk_drewN ?_ _|refine blk_drew ?_|refine blk_alloc ?_ _));exact BK329.out⟩,⟨y5_⟩⟩
         ·rw [if_neg c81] at H
          have c81b0:(t351 == 0)=false:=beq_eq_false_iff_ne.mpr c81
          have c81b1:(t351 != 0)=true:=bne_iff_ne.mpr c81
          have H':=A0_ H
          clear H;go_wp2
          go_meet
          case rel=>exact ⟨_,(true),y4_,H',⟨by have:=HJ7.out;first|omega|exact Nat.le_refl _⟩,⟨by (with_reducible repeat (first|apply Kd.R_alloc|apply Kd.R_drewN|apply Kd.R_drew));exact Kd.R_mono HO338.out (fun _ hk=>hk.2)⟩,⟨by (with_reducible repeat (first|apply Kd.R_alloc|apply Kd.R_drewN|apply Kd.R_drew));exact Kd.R_mono HO342.out (fun _ hk=>hk.2)⟩,⟨by (with_reducible repeat (first|apply Kd.R_alloc|apply Kd.R_drewN|apply Kd.R_drew));exact HO346.out⟩,⟨by (with_reducible repeat (first|refine blk_drewN ?_ _|refine blk_drew ?_|refine blk_alloc ?_ _));exact BK329.out⟩,⟨y5_⟩⟩
        ·rw [if_neg c80] at H
         have c80b0:(t349 == 0)=false:=beq_eq_false_iff_ne.mpr c80
         have c80b1:(t349 != 0)=true:=bne_iff_ne.mpr c80
         have H':=A0_ H
         clear H;go_wp2
         go_meet
         case rel=>exact ⟨_,(true),y4_,H',⟨by have:=HJ7.out;first|omega|exact Nat.le_refl _⟩,⟨by (with_reducible repeat (first|apply Kd.R_alloc|apply Kd.R_drewN|apply Kd.R_drew));exact Kd.R_mono HO338.out (fun _ hk=>hk.2)⟩,⟨by (with_reducible repeat (first|apply Kd.R_alloc|apply Kd.R_drewN|apply Kd.R_drew));exact Kd.R_mono HO342.out (fun _ hk=>hk.2)⟩,⟨by (with_reducible repeat (first|apply Kd.R_alloc|apply Kd.R_drewN|apply Kd.R_drew));exact HO346.out⟩,⟨by (with_reducible repeat (first|refine blk_drewN ?_ _|refine blk_drew ?_|refine blk_alloc ?_ _));exact BK329.out⟩,⟨y5_⟩⟩
       ·rw [if_neg c79] at H
        have c79b0:(t347 == 0)=false:=beq_eq_false_iff_ne.mpr c79
        have c79b1:(t347 != 0)=true:=bne_iff_ne.mpr c79
        have H':=A0_ H
        clear H;go_wp2
        go_meet
        case rel=>exact ⟨_,(true),y4_,H',⟨by have:=HJ7.out;first|omega|exact Nat.le_refl _⟩,⟨by (with_reducible repeat (first|apply Kd.R_alloc|apply Kd.R_drewN|apply Kd.R_drew));exact Kd.R_mono HO338.out (fun _ hk=>hk.2)⟩,⟨by (with_reducible repeat (first|apply Kd.R_alloc|apply Kd.R_drewN|apply Kd.R_drew));exact Kd.R_mono HO342.out (fun _ hk=>hk.2)⟩,⟨by (with_reducible repeat (first|apply Kd.R_alloc|apply Kd.R_drewN|apply Kd.R_drew));exact HO346.out⟩,⟨by (with_reducible repeat (first|refine blk_drewN ?_ _|refine blk_drew ?_|refine blk_alloc ?_ _));exact BK329.out⟩,⟨y5_⟩⟩
      ·rw [if_neg c78] at H
       have c78b0:(t343 == 0)=false:=beq_eq_false_iff_ne.mpr c78
       have c78b1:(t343 != 0)=true:=bne_iff_ne.mpr c78
       have H':=A0_ H
       clear H;go_wp2
       go_meet
       case rel=>exact ⟨_,(true),y4_,H',⟨by have:=HJ7.out;first|omega|exact Nat.le_refl _⟩,⟨by (with_reducible repeat (first|apply Kd.R_alloc|apply Kd.R_drewN|apply Kd.R_drew));exact Kd.R_mono HO338.out (fun _ hk=>hk.2)⟩,⟨by (with_reducible repeat (first|apply Kd.R_alloc|apply Kd.R_drewN|apply Kd.R_drew));exact Kd.R_mono HO342.out (fun _ hk=>hk.2)⟩,⟨by (with_reducible repeat (first|apply Kd.R_alloc|apply Kd.R_drewN|apply Kd.R_drew));exact HO346.out⟩,⟨by (with_reducible repeat (first|refine blk_drewN ?_ _|refine blk_drew ?_|refine blk_alloc ?_ _));exact BK329.out⟩,⟨y5_⟩⟩
     ·rw [if_neg c77] at H
      have c77b0:(t339 == 0)=false:=beq_eq_false_iff_ne.mpr c77
      have c77b1:(t339 != 0)=true:=bne_iff_ne.mpr c77
      (first|rw [c77b0]|(simp only [i64_w,i32_w];rw [c77b0])|skip)
      have H':=A0_ H
      clear H;go_wp2
      go_meet
      case rel=>exact ⟨_,(true),y4_,H',⟨by have:=HJ7.out;first|omega|exact Nat.le_refl _⟩,⟨by (with_reducible repeat (first|apply Kd.R_alloc|apply Kd.R_drewN|apply Kd.R_drew));exact Kd.R_mono HO338.out (fun _ hk=>hk.2)⟩,⟨by (with_reducible repeat (first|apply Kd.R_alloc|apply Kd.R_drewN|apply Kd.R_drew));exact Kd.R_mono HO342.out (fun _ hk=>hk.2)⟩,⟨by (with_reducible repeat (first|apply Kd.R_alloc|apply Kd.R_drewN|apply Kd.R_drew));exact HO346.out⟩,⟨by (with_reducible repeat (first|refine blk_drewN ?_ _|refine blk_drew ?_|refine blk_alloc ?_ _));exact BK329.out⟩,⟨y5_⟩⟩
    case rest=>
     clear HC66;(try clear c1);(try clear c2);(try clear p2);(try clear c3);(try clear c5);(try clear p6);(try clear c7);(try clear c8);(try clear c9);(try clear c10);(try clear c11);(try clear c12);(try clear c13);(try clear c15);(try clear c17);(try clear c19);(try clear c20);(try clear c20b0);(try clear c21);(try clear c22);(try clear c25);(try clear c25b0);(try clear c30);(try clear c30b0);(try clear c58);(try clear p64);(try clear c77);(try clear c77b0);(try clear c77b1);(try clear c78);(try clear c78b0);(try clear c78b1);(try clear c79);(try clear c79b0);(try clear c79b1);(try clear c80);(try clear c80b0);(try clear c80b1);(try clear c81);(try clear c81b0);(try clear c81b1);(try clear c82);(try clear c82b0);(try clear c82b1);(try clear c85);(try clear c85b0);(try clear c85b1);(try clear c89);(try clear c89b0);(try clear c89b1);(try clear c94);(try clear hcz21_0);(try clear hcz21_1);(try clear hcz21_2);(try clear hcz21_3);(try clear hcz23_0);(try clear hcz23_1);(try clear hcz23_2);(try clear hcz23_3);(try clear hcz26_0);(try clear hcz26_1);(try clear hcz26_2);(try clear hcz26_3);(try clear hcz28_0);(try clear hcz28_1);(try clear hcz28_2);(try clear hcz28_3);(try clear hcz31_0);(try clear hcz31_1);(try clear hcz31_2);(try clear hcz31_3);(try clear hcz33_0);(try clear hcz33_1);(try clear hcz33_2);(try clear hcz33_3);(try clear hcz36_0);(try clear hcz36_1);(try clear hcz36_2);(try clear hcz36_3);(try clear hcz38_0);(try clear hcz38_1);(try clear hcz38_2);(try clear hcz38_3);(try clear hcz40_0);(try clear hcz40_1);(try clear hcz40_2);(try clear hcz40_3);(try clear hcz42_0);(try clear hcz42_1);(try clear hcz42_2);(try clear hcz42_3);(try clear hcz44_0);(try clear hcz44_1);(try clear hcz44_2);(try clear hcz44_3);(try clear hcz46_0);(try clear hcz46_1);(try clear hcz46_2);(try clear hcz46_3);(try clear hcz48_0);(try clear hcz48_1);(try clear hcz48_2);(try clear hcz48_3);(try clear hcz50_0);(try clear hcz50_1);(try clear hcz50_2);(try clear hcz50_3);(try clear hcz52_0);(try clear hcz52_1);(try clear hcz52_2);(try clear hcz52_3);(try clear hcz54_0);(try clear hcz54_1);(try clear hcz54_2);(try clear hcz54_3);(try clear hcz56_0);(try clear hcz56_1);(try clear hcz56_2);(try clear hcz56_3);(try clear hcz67_0);(try clear hcz67_1);(try clear hcz67_2);(try clear hcz67_3);(try clear hcz69_0);(try clear hcz69_1);(try clear hcz69_2);(try clear hcz69_3);(try clear hcz71_0);(try clear hcz71_1);(try clear hcz71_2);(try clear hcz71_3);(try clear hcz73_0);(try clear hcz73_1);(try clear hcz73_2);(try clear hcz73_3);(try clear hcz75_0);(try clear hcz75_1);(try clear hcz75_2);(try clear hcz75_3);(try clear hfz21_0);(try clear hfz21_1);(try clear hfz21_2);(try clear hfz21_3);(try clear hfz23_0);(try clear hfz23_1);(try clear hfz23_2);(try clear hfz23_3);(try clear hfz26_0);(try clear hfz26_1);(try clear hfz26_2);(try clear hfz26_3)
     (try clear hfz28_0);(try clear hfz28_1);(try clear hfz28_2);(try clear hfz28_3);(try clear hfz31_0);(try clear hfz31_1);(try clear hfz31_2);(try clear hfz31_3);(try clear hfz33_0);(try clear hfz33_1);(try clear hfz33_2);(try clear hfz33_3);(try clear hfz36_0);(try clear hfz36_1);(try clear hfz36_2);(try clear hfz36_3);(try clear hfz38_0);(try clear hfz38_1);(try clear hfz38_2);(try clear hfz38_3);(try clear hfz40_0);(try clear hfz40_1);(try clear hfz40_2);(try clear hfz40_3);(try clear hfz42_0);(try clear hfz42_1);(try clear hfz42_2);(try clear hfz42_3);(try clear hfz44_0);(try clear hfz44_1);(try clear hfz44_2);(try clear hfz44_3);(try clear hfz46_0);(try clear hfz46_1);(try clear hfz46_2);(try clear hfz46_3);(try clear hfz48_0);(try clear hfz48_1);(try clear hfz48_2);(try clear hfz48_3);(try clear hfz50_0);(try clear hfz50_1);(try clear hfz50_2);(try clear hfz50_3);(try clear hfz52_0);(try clear hfz52_1);(try clear hfz52_2);(try clear hfz52_3);(try clear hfz54_0);(try clear hfz54_1);(try clear hfz54_2);(try clear hfz54_3);(try clear hfz56_0);(try clear hfz56_1);(try clear hfz56_2);(try clear hfz56_3);(try clear hfz67_0);(try clear hfz67_1);(try clear hfz67_2);(try clear hfz67_3);(try clear hfz69_0);(try clear hfz69_1);(try clear hfz69_2);(try clear hfz69_3);(try clear hfz71_0);(try clear hfz71_1);(try clear hfz71_2);(try clear hfz71_3);(try clear hfz73_0);(try clear hfz73_1);(try clear hfz73_2);(try clear hfz73_3);(try clear hfz75_0);(try clear hfz75_1);(try clear hfz75_2);(try clear hfz75_3);(try clear p2);(try clear p6)
     obtain ⟨kq,x163_65,rfl,HA,HJ65,HO_15,HO_17,HO_19,BK329,HB⟩:=hcut
     cases kq with
     |zero=>exact absurd HA.out (by simp [tl_SkyShadows.j1])
     |succ kj65=>
      have H:=HA.out
      clear HA
      simp only [tl_SkyShadows.j1] at H
      by_cases c102:x163_65=true
      ·subst c102
       have H1:(some false)=some r:=by rw [if_pos rfl] at H;exact H
       clear H;have H:=H1;clear H1;obtain rfl:=Option.some.inj H;go_wp2;go_ret
       exact ⟨y3_,y5_⟩
      ·replace c102:=Bool.eq_false_iff.mpr c102;subst c102
       have H1:((tr_Apart.f t348 t350).bind fun t354=>((tr_Apart.f t348 (wrap64 (t350+10800))).bind fun t355=>(tl_SkyShadows.l0 kj65 a1 a2 a5 t336 t340 t344 (mn t354 t355) 0)))=some r:=by rw [if_neg (show ¬ (false=true) by decide)] at H;exact H
       clear H;have H:=H1;clear H1;replace H:=Option.bind_eq_some_iff.mp H;obtain ⟨t354,A1030,H⟩:=H
       replace H:((tr_Apart.f t348 (wrap64 (t350+10800))).bind fun t355=>(tl_SkyShadows.l0 kj65 a1 a2 a5 t336 t340 t344 (mn t354 t355) 0))=some r:=H
       have A103:=A0_ A1030;clear A1030;replace H:=Option.bind_eq_some_iff.mp H;obtain ⟨t355,A1040,H⟩:=H
       replace H:(tl_SkyShadows.l0 kj65 a1 a2 a5 t336 t340 t344 (mn t354 t355) 0)=some r:=H
       have A104:=A0_ A1040;clear A1040
       obtain ⟨ji105,hji105⟩:∃ j_:Int,(mn t354 t355)=j_:=⟨_,rfl⟩
       replace H:(tl_SkyShadows.l0 kj65 a1 a2 a5 t336 t340 t344 ji105 0)=some r:=by first|(rw [hji105] at H;exact H)|(simp only [hji105] at H ⊢;exact H)
       (try rw [hji105] at hji35)
       (try rw [hji105] at A103)
       (try rw [hji105] at A104)
       have hji105_:(if t355<t354 then t355 else t354)=ji105:=hji105
       have H':=A0_ H
       clear H
       go_wp2_with (first|((with_reducible refine gate_callee (f:=24) rfl ?_);refine goesL_ (some 166) rfl rfl Tryz.func24 (by kernel_rfl) rfl #[.int .i64 t348,.int .i64 t350] rfl y1_ ?_;(with_reducible refine (tr_Apart.calls t348 t350 t354 _ A103.out).mono ?_);rintro e w106 ⟨rfl,hb⟩;refine ⟨_,rfl,?_⟩;have n0_:=A0_ (Kd.R_below (rd_ HO_15.out) hb);have n1_:=A0_ (Kd.R_below (rd_ HO_17.out) hb);have n2_:=A0_ (Kd.R_below (rd_ HO_19.out) hb);have n3_:=A0_ (blk_below (g:=gb329) (o:=.cells #[.slice A0_0 l0_0.length c0_0,.int .i64 a0_1,.int .i64 a0_2,.int .i64 a0_3] 28 (0,0)) (bd_ BK329.out) hb);have n4_:=A0_ (below_step y5_ hb);clear HO_15;clear HO_17;clear HO_19;clear BK329;clear HB;have HO_15:=n0_;have HO_17:=n1_;have HO_19:=n2_;have BK329:=n3_;have HB:=n4_;clear n0_ n1_ n2_ n3_ n4_;(try clear hb);(try clear hb2);(try clear hk);(try clear hi))|((with_reducible refine gate_callee (f:=24) rfl ?_);refine goesL_ (some 170) rfl rfl Tryz.func24 (by kernel_rfl) rfl #[.int .i64 t348,.int .i64 (wrap64 (t350+10800))] rfl y1_ ?_;(with_reducible refine (tr_Apart.calls t348 (wrap64 (t350+10800)) t355 _ A104.out).mono ?_);rintro e w107 ⟨rfl,hb⟩;refine ⟨_,rfl,?_⟩;have n0_:=A0_ (Kd.R_below (rd_ HO_15.out) hb);have n1_:=A0_ (Kd.R_below (rd_ HO_17.out) hb);have n2_:=A0_ (Kd.R_below (rd_ HO_19.out) hb);have n3_:=A0_ (blk_below (g:=gb329) (o:=.cells #[.slice A0_0 l0_0.length c0_0,.int .i64 a0_1,.int .i64 a0_2,.int .i64 a0_3] 28 (0,0)) (bd_ BK329.out) hb);have n4_:=A0_ (below_step y5_ hb);clear HO_15;clear HO_17;clear HO_19;clear BK329;clear HB;have HO_15:=n0_;have HO_17:=n1_;have HO_19:=n2_;have BK329:=n3_;have HB:=n4_;clear n0_ n1_ n2_ n3_ n4_;(try clear hb);(try clear hb2);(try clear hk);(try clear hi)))
       go_loopg [26] kj65 (fun kq v26 w'=>∃ (x26_3:Int),v26=.int .i64 x26_3∧Aside0 (tl_SkyShadows.l0 kq a1 a2 a5 t336 t340 t344 ji105 x26_3=some r)∧Aside0 (kq≤kj65)∧Aside0 (Kd.R k54 54 w' w.heap.size (fun k_=>some k_≠(v341:Value).ownBlock) v337 t336)∧Aside0 (Kd.R k54 54 w' w.heap.size (fun k_=>some k_≠(v337:Value).ownBlock) v341 t340)∧Aside0 (Kd.R k51 51 w' w.heap.size (fun _=>True) v345 t344)∧Aside0 (w'.heap[gb329]?=some (.cells #[(.slice A0_0 l0_0.length c0_0),.int .i64 a0_1,.int .i64 a0_2,.int .i64 a0_3] 28 (0,0)))∧Aside0 (Below w.heap.size w w'))
       case atStart=>exact ⟨(0),y4_,H',⟨Nat.le_refl _⟩,⟨by (with_reducible repeat (first|apply Kd.R_alloc|apply Kd.R_drewN|apply Kd.R_drew));exact HO_15.out⟩,⟨by (with_reducible repeat (first|apply Kd.R_alloc|apply Kd.R_drewN|apply Kd.R_drew));exact HO_17.out⟩,⟨by (with_reducible repeat (first|apply Kd.R_alloc|apply Kd.R_drewN|apply Kd.R_drew));exact HO_19.out⟩,⟨by (with_reducible repeat (first|refine blk_drewN ?_ _|refine blk_drew ?_|refine blk_alloc ?_ _));exact BK329.out⟩,⟨y5_⟩⟩
       case round=>
        clear H'
        (try clear c1);(try clear c2);(try clear p2);(try clear c3);(try clear c5);(try clear p6);(try clear c7);(try clear c8);(try clear c9);(try clear c10);(try clear c11);(try clear c12);(try clear c13);(try clear c15);(try clear c17);(try clear c19);(try clear c20);(try clear c20b0);(try clear c21);(try clear c22);(try clear c24);(try clear c25);(try clear c25b0);(try clear c30);(try clear c30b0);(try clear c58);(try clear p64);(try clear c77);(try clear c77b0);(try clear c77b1);(try clear c78);(try clear c78b0);(try clear c78b1);(try clear c79);(try clear c79b0);(try clear c79b1);(try clear c80);(try clear c80b0);(try clear c80b1);(try clear c81);(try clear c81b0);(try clear c81b1);(try clear c82);(try clear c82b0);(try clear c82b1);(try clear c85);(try clear c85b0);(try clear c85b1);(try clear c89);(try clear c89b0);(try clear c89b1);(try clear c94);(try clear c102);(try clear hcz21_0);(try clear hcz21_1);(try clear hcz21_2);(try clear hcz21_3);(try clear hcz23_0);(try clear hcz23_1);(try clear hcz23_2);(try clear hcz23_3);(try clear hcz26_0);(try clear hcz26_1);(try clear hcz26_2);(try clear hcz26_3);(try clear hcz28_0);(try clear hcz28_1);(try clear hcz28_2);(try clear hcz28_3);(try clear hcz31_0);(try clear hcz31_1);(try clear hcz31_2);(try clear hcz31_3);(try clear hcz33_0);(try clear hcz33_1);(try clear hcz33_2);(try clear hcz33_3);(try clear hcz36_0);(try clear hcz36_1);(try clear hcz36_2);(try clear hcz36_3);(try clear hcz38_0);(try clear hcz38_1);(try clear hcz38_2);(try clear hcz38_3);(try clear hcz40_0);(try clear hcz40_1);(try clear hcz40_2);(try clear hcz40_3);(try clear hcz42_0);(try clear hcz42_1);(try clear hcz42_2);(try clear hcz42_3);(try clear hcz44_0);(try clear hcz44_1);(try clear hcz44_2);(try clear hcz44_3);(try clear hcz46_0);(try clear hcz46_1);(try clear hcz46_2);(try clear hcz46_3);(try clear hcz48_0);(try clear hcz48_1);(try clear hcz48_2);(try clear hcz48_3);(try clear hcz50_0);(try clear hcz50_1);(try clear hcz50_2);(try clear hcz50_3);(try clear hcz52_0);(try clear hcz52_1);(try clear hcz52_2);(try clear hcz52_3);(try clear hcz54_0);(try clear hcz54_1);(try clear hcz54_2);(try clear hcz54_3);(try clear hcz56_0);(try clear hcz56_1);(try clear hcz56_2);(try clear hcz56_3);(try clear hcz67_0);(try clear hcz67_1);(try clear hcz67_2);(try clear hcz67_3);(try clear hcz69_0);(try clear hcz69_1);(try clear hcz69_2);(try clear hcz69_3);(try clear hcz71_0);(try clear hcz71_1);(try clear hcz71_2);(try clear hcz71_3);(try clear hcz73_0);(try clear hcz73_1);(try clear hcz73_2);(try clear hcz73_3);(try clear hcz75_0);(try clear hcz75_1);(try clear hcz75_2);(try clear hcz75_3);(try clear hfz21_0);(try clear hfz21_1);(try clear hfz21_2);(try clear hfz21_3);(try clear hfz23_0);(try clear hfz23_1);(try clear hfz23_2);(try clear hfz23_3);(try clear hfz26_0);(try clear hfz26_1);(try clear hfz26_2)
        (try clear hfz26_3);(try clear hfz28_0);(try clear hfz28_1);(try clear hfz28_2);(try clear hfz28_3);(try clear hfz31_0);(try clear hfz31_1);(try clear hfz31_2);(try clear hfz31_3);(try clear hfz33_0);(try clear hfz33_1);(try clear hfz33_2);(try clear hfz33_3);(try clear hfz36_0);(try clear hfz36_1);(try clear hfz36_2);(try clear hfz36_3);(try clear hfz38_0);(try clear hfz38_1);(try clear hfz38_2);(try clear hfz38_3);(try clear hfz40_0);(try clear hfz40_1);(try clear hfz40_2);(try clear hfz40_3);(try clear hfz42_0);(try clear hfz42_1);(try clear hfz42_2);(try clear hfz42_3);(try clear hfz44_0);(try clear hfz44_1);(try clear hfz44_2);(try clear hfz44_3);(try clear hfz46_0);(try clear hfz46_1);(try clear hfz46_2);(try clear hfz46_3);(try clear hfz48_0);(try clear hfz48_1);(try clear hfz48_2);(try clear hfz48_3);(try clear hfz50_0);(try clear hfz50_1);(try clear hfz50_2);(try clear hfz50_3);(try clear hfz52_0);(try clear hfz52_1);(try clear hfz52_2);(try clear hfz52_3);(try clear hfz54_0);(try clear hfz54_1);(try clear hfz54_2);(try clear hfz54_3);(try clear hfz56_0);(try clear hfz56_1);(try clear hfz56_2);(try clear hfz56_3);(try clear hfz67_0);(try clear hfz67_1);(try clear hfz67_2);(try clear hfz67_3);(try clear hfz69_0);(try clear hfz69_1);(try clear hfz69_2);(try clear hfz69_3);(try clear hfz71_0);(try clear hfz71_1);(try clear hfz71_2);(try clear hfz71_3);(try clear hfz73_0);(try clear hfz73_1);(try clear hfz73_2);(try clear hfz73_3);(try clear hfz75_0);(try clear hfz75_1);(try clear hfz75_2);(try clear hfz75_3);(try clear p2);(try clear p6);(try clear p64)
        obtain ⟨x26_3,rfl,HA,HK3,HO_15,HO_17,HO_19,BK329,HB⟩:=hrel
        cases gk with
        |zero=>exact absurd HA.out (by simp [tl_SkyShadows.l0])
        |succ k3=>
         have H:=HA.out
         clear HA
         simp only [tl_SkyShadows.l0] at H
         by_cases c108:x26_3<(t344.length:Int)
         ·as_aux_lemma=>
          rw [if_pos c108] at H;have c108b0:decide (x26_3<(t344.length:Int))=true:=decide_eq_true c108;clear c108
          by_cases c109:0≤x26_3
          ·rw [if_pos c109] at H;have c109b0:decide (0≤x26_3)=true:=decide_eq_true c109;clear c109
           by_cases c110:((rd_T51 t344 x26_3).f0)=a5
           ·rw [if_pos c110] at H
            have c110b0:(((rd_T51 t344 x26_3).f0) == a5)=true:=beq_iff_eq.mpr c110
            have c110b1:(((rd_T51 t344 x26_3).f0) != a5)=false:=bne_eq_false_iff_eq.mpr c110
            clear c110
            obtain ⟨bq111,hbq111⟩:∃ b_:Bool,b_=((rd_T51 t344 x26_3).f1):=⟨_,rfl⟩
            replace H:(if bq111=true then ((tl_met.f k3 t336 a5 (bq111) ji105).bind fun t359=>(if (t359 != (decide (ji105≤a2)))=true then (some false) else (tl_SkyShadows.l0 k3 a1 a2 a5 t336 t340 t344 ji105 (wrap64 (x26_3+1))))) else ((tl_met.f k3 t336 a5 (bq111) ji105).bind fun t361=>(if (t361 != (decide (ji105≤a1)))=true then (some false) else (tl_SkyShadows.l0 k3 a1 a2 a5 t336 t340 t344 ji105 (wrap64 (x26_3+1))))))=some r:=by rw [← hbq111] at H;exact H
            have Nbq111:=A0_ hbq111;clear hbq111
            by_cases c112:bq111=true
            ·subst c112
             have H1:((tl_met.f k3 t336 a5 (true) ji105).bind fun t359=>(if (t359 != (decide (ji105≤a2)))=true then (some false) else (tl_SkyShadows.l0 k3 a1 a2 a5 t336 t340 t344 ji105 (wrap64 (x26_3+1)))))=some r:=by rw [if_pos rfl] at H;exact H
             clear H;have H:=H1;clear H1;replace H:=Option.bind_eq_some_iff.mp H;obtain ⟨t359,A1130,H⟩:=H
             replace H:(if (t359 != (decide (ji105≤a2)))=true then (some false) else (tl_SkyShadows.l0 k3 a1 a2 a5 t336 t340 t344 ji105 (wrap64 (x26_3+1))))=some r:=H
             have A113:=A0_ A1130;clear A1130
             by_cases c114:(t359 != (decide (ji105≤a2)))=true
             ·rw [if_pos c114] at H
              have c114b0:(t359 != (decide (ji105≤a2)))=true:=c114
              (try (have c114b1:decide (t359=(decide (ji105≤a2)))=false:=by simpa using c114))
              (try (have c114b2:(t359 == (decide (ji105≤a2)))=false:=by simpa using c114))
              (try (have c114b3:¬ (t359=(decide (ji105≤a2))):=by simpa using c114))
              clear c114;obtain rfl:=Option.some.inj H
              obtain ⟨Ao115,co115,eo115⟩:=Kd.R_slice HO_19.out
              subst eo115
              have p356:0≤(x26_3:Int):=of_decide_eq_true y2_
              have q356:x26_3<(t344.length:Int):=of_decide_eq_true y2_
              obtain ⟨ad356,e356,hx356_0,hx356_1⟩:=at_T51 (Kd.R_reads' HO_19.out).2.2 x26_3 p356 q356
              (try rw [← Nbq111.out] at hx356_1)
              cases e356
              replace p356:=eq_true p356
              replace q356:=eq_true q356
              have p357:0≤(x26_3:Int):=of_decide_eq_true y2_
              have q357:x26_3<(t344.length:Int):=of_decide_eq_true y2_
              obtain ⟨ad357,e357,hx357_0,hx357_1⟩:=at_T51 (Kd.R_reads' HO_19.out).2.2 x26_3 p357 q357
              (try rw [← Nbq111.out] at hx357_1)
              obtain rfl:ad356=ad357:=(by injection e357)
              replace p357:=eq_true p357
              replace q357:=eq_true q357
              have p358:0≤(x26_3:Int):=of_decide_eq_true y2_
              have q358:x26_3<(t344.length:Int):=of_decide_eq_true y2_
              obtain ⟨ad358,e358,hx358_0,hx358_1⟩:=at_T51 (Kd.R_reads' HO_19.out).2.2 x26_3 p358 q358
              (try rw [← Nbq111.out] at hx358_1)
              obtain rfl:ad356=ad358:=(by injection e358)
              replace p358:=eq_true p358
              replace q358:=eq_true q358
              obtain ⟨Ao116,co116,eo116⟩:=Kd.R_slice HO_15.out
              subst eo116
              go_wp2_with (first|((with_reducible refine gate_callee (f:=25) rfl ?_);refine goesL_ (some 201) rfl rfl Tryz.func25 (by kernel_rfl) rfl #[.slice Ao116 t336.length co116,.agg #[.int .i64 a5,.bool true,.int .i64 ji105]] rfl y3a_ ?_;(with_reducible refine (tl_met.calls k3 _ _ t336 a5 true ji105 t359 _ ?side1 ?side2 A113.out).mono ?_);(case side1=>repeat (first|exact (Kd.R_reads' HO_15.out).2.2|(with_reducible refine Kd.C_alloc ?_ _)|(with_reducible refine Kd.C_drewN ?_ _)|(with_reducible refine Kd.C_drew ?_)));(case side2=>exact (Kd.R_reads' HO_15.out).2.1);rintro e w117 ⟨rfl,hb⟩;refine ⟨_,rfl,?_⟩;have n0_:=A0_ (Kd.R_below (rd_ HO_15.out) hb);have n1_:=A0_ (Kd.R_below (rd_ HO_17.out) hb);have n2_:=A0_ (Kd.R_below (rd_ HO_19.out) hb);have n3_:=A0_ (blk_below (g:=gb329) (o:=.cells #[.slice A0_0 l0_0.length c0_0,.int .i64 a0_1,.int .i64 a0_2,.int .i64 a0_3] 28 (0,0)) (bd_ BK329.out) hb);have n4_:=A0_ (below_step y5_ hb);clear HO_15;clear HO_17;clear HO_19;clear BK329;clear HB;have HO_15:=n0_;have HO_17:=n1_;have HO_19:=n2_;have BK329:=n3_;have HB:=n4_;clear n0_ n1_ n2_ n3_ n4_;(try clear hb);(try clear hb2);(try clear hk);(try clear hi)))
              go_ret
              exact ⟨by first|rfl|(simp [errW_none,errW_some] <;> rfl)|(simp only [← hji105];first|rfl|(simp [errW_none,errW_some] <;> rfl))|(simp [*,errW_none,errW_some] <;> rfl),y5_⟩
             ·rw [if_neg c114] at H
              have c114b0:(t359 != (decide (ji105≤a2)))=false:=by simpa using c114
              (try (have c114b1:decide (t359=(decide (ji105≤a2)))=true:=by simpa using c114))
              (try (have c114b2:(t359 == (decide (ji105≤a2)))=true:=by simpa using c114))
              clear c114
              have H':=A0_ H
              clear H
              obtain ⟨Ao118,co118,eo118⟩:=Kd.R_slice HO_19.out
              subst eo118
              have p356:0≤(x26_3:Int):=of_decide_eq_true y2_
              have q356:x26_3<(t344.length:Int):=of_decide_eq_true y2_
              obtain ⟨ad356,e356,hx356_0,hx356_1⟩:=at_T51 (Kd.R_reads' HO_19.out).2.2 x26_3 p356 q356
              (try rw [← Nbq111.out] at hx356_1)
              cases e356
              replace p356:=eq_true p356
              replace q356:=eq_true q356
              have p357:0≤(x26_3:Int):=of_decide_eq_true y2_
              have q357:x26_3<(t344.length:Int):=of_decide_eq_true y2_
              obtain ⟨ad357,e357,hx357_0,hx357_1⟩:=at_T51 (Kd.R_reads' HO_19.out).2.2 x26_3 p357 q357
              (try rw [← Nbq111.out] at hx357_1)
              obtain rfl:ad356=ad357:=(by injection e357)
              replace p357:=eq_true p357
              replace q357:=eq_true q357
              have p358:0≤(x26_3:Int):=of_decide_eq_true y2_
              have q358:x26_3<(t344.length:Int):=of_decide_eq_true y2_
              obtain ⟨ad358,e358,hx358_0,hx358_1⟩:=at_T51 (Kd.R_reads' HO_19.out).2.2 x26_3 p358 q358
              (try rw [← Nbq111.out] at hx358_1)
              obtain rfl:ad356=ad358:=(by injection e358)
              replace p358:=eq_true p358
              replace q358:=eq_true q358
              obtain ⟨Ao119,co119,eo119⟩:=Kd.R_slice HO_15.out
              subst eo119
              go_wp2_with (first|((with_reducible refine gate_callee (f:=25) rfl ?_);refine goesL_ (some 201) rfl rfl Tryz.func25 (by kernel_rfl) rfl #[.slice Ao119 t336.length co119,.agg #[.int .i64 a5,.bool true,.int .i64 ji105]] rfl y3a_ ?_;(with_reducible refine (tl_met.calls k3 _ _ t336 a5 true ji105 t359 _ ?side1 ?side2 A113.out).mono ?_);(case side1=>repeat (first|exact (Kd.R_reads' HO_15.out).2.2|(with_reducible refine Kd.C_alloc ?_ _)|(with_reducible refine Kd.C_drewN ?_ _)|(with_reducible refine Kd.C_drew ?_)));(case side2=>exact (Kd.R_reads' HO_15.out).2.1);rintro e w120 ⟨rfl,hb⟩;refine ⟨_,rfl,?_⟩;have n0_:=A0_ (Kd.R_below (rd_ HO_15.out) hb);have n1_:=A0_ (Kd.R_below (rd_ HO_17.out) hb);have n2_:=A0_ (Kd.R_below (rd_ HO_19.out) hb);have n3_:=A0_ (blk_below (g:=gb329) (o:=.cells #[.slice A0_0 l0_0.length c0_0,.int .i64 a0_1,.int .i64 a0_2,.int .i64 a0_3] 28 (0,0)) (bd_ BK329.out) hb);have n4_:=A0_ (below_step y5_ hb);clear HO_15;clear HO_17;clear HO_19;clear BK329;clear HB;have HO_15:=n0_;have HO_17:=n1_;have HO_19:=n2_;have BK329:=n3_;have HB:=n4_;clear n0_ n1_ n2_ n3_ n4_;(try clear hb);(try clear hb2);(try clear hk);(try clear hi)))
              go_roundg k3
              case measure=>have:=HJ7.out;have:=HJ65.out;have:=HK3.out;omega
              case rel=>exact ⟨(wrap64 (x26_3+1)),y4_,H',⟨by have:=HJ7.out;have:=HJ65.out;have:=HK3.out;omega⟩,⟨by (with_reducible repeat (first|apply Kd.R_alloc|apply Kd.R_drewN|apply Kd.R_drew));exact HO_15.out⟩,⟨by (with_reducible repeat (first|apply Kd.R_alloc|apply Kd.R_drewN|apply Kd.R_drew));exact HO_17.out⟩,⟨by (with_reducible repeat (first|apply Kd.R_alloc|apply Kd.R_drewN|apply Kd.R_drew));exact HO_19.out⟩,⟨by (with_reducible repeat (first|refine blk_drewN ?_ _|refine blk_drew ?_|refine blk_alloc ?_ _));exact BK329.out⟩,⟨y5_⟩⟩
            ·replace c112:=Bool.eq_false_iff.mpr c112;subst c112
             have H1:((tl_met.f k3 t336 a5 (false) ji105).bind fun t361=>(if (t361 != (decide (ji105≤a1)))=true then (some false) else (tl_SkyShadows.l0 k3 a1 a2 a5 t336 t340 t344 ji105 (wrap64 (x26_3+1)))))=some r:=by rw [if_neg (show ¬ (false=true) by decide)] at H;exact H
             clear H;have H:=H1;clear H1;replace H:=Option.bind_eq_some_iff.mp H;obtain ⟨t361,A1210,H⟩:=H
             replace H:(if (t361 != (decide (ji105≤a1)))=true then (some false) else (tl_SkyShadows.l0 k3 a1 a2 a5 t336 t340 t344 ji105 (wrap64 (x26_3+1))))=some r:=H
             have A121:=A0_ A1210;clear A1210
             by_cases c122:(t361 != (decide (ji105≤a1)))=true
             ·rw [if_pos c122] at H
              have c122b0:(t361 != (decide (ji105≤a1)))=true:=c122
              (try (have c122b1:decide (t361=(decide (ji105≤a1)))=false:=by simpa using c122))
              (try (have c122b2:(t361 == (decide (ji105≤a1)))=false:=by simpa using c122))
              (try (have c122b3:¬ (t361=(decide (ji105≤a1))):=by simpa using c122))
              clear c122;obtain rfl:=Option.some.inj H
              obtain ⟨Ao123,co123,eo123⟩:=Kd.R_slice HO_19.out
              subst eo123
              have p356:0≤(x26_3:Int):=of_decide_eq_true y2_
              have q356:x26_3<(t344.length:Int):=of_decide_eq_true y2_
              obtain ⟨ad356,e356,hx356_0,hx356_1⟩:=at_T51 (Kd.R_reads' HO_19.out).2.2 x26_3 p356 q356
              (try rw [← Nbq111.out] at hx356_1)
              cases e356
              replace p356:=eq_true p356
              replace q356:=eq_true q356
              have p357:0≤(x26_3:Int):=of_decide_eq_true y2_
              have q357:x26_3<(t344.length:Int):=of_decide_eq_true y2_
              obtain ⟨ad357,e357,hx357_0,hx357_1⟩:=at_T51 (Kd.R_reads' HO_19.out).2.2 x26_3 p357 q357
              (try rw [← Nbq111.out] at hx357_1)
              obtain rfl:ad356=ad357:=(by injection e357)
              replace p357:=eq_true p357
              replace q357:=eq_true q357
              have p360:0≤(x26_3:Int):=of_decide_eq_true y2_
              have q360:x26_3<(t344.length:Int):=of_decide_eq_true y2_
              obtain ⟨ad360,e360,hx360_0,hx360_1⟩:=at_T51 (Kd.R_reads' HO_19.out).2.2 x26_3 p360 q360
              (try rw [← Nbq111.out] at hx360_1)
              obtain rfl:ad356=ad360:=(by injection e360)
              replace p360:=eq_true p360
              replace q360:=eq_true q360
              obtain ⟨Ao124,co124,eo124⟩:=Kd.R_slice HO_15.out
              subst eo124
              go_wp2_with (first|((with_reducible refine gate_callee (f:=25) rfl ?_);refine goesL_ (some 201) rfl rfl Tryz.func25 (by kernel_rfl) rfl #[.slice Ao124 t336.length co124,.agg #[.int .i64 a5,.bool false,.int .i64 ji105]] rfl y3a_ ?_;(with_reducible refine (tl_met.calls k3 _ _ t336 a5 false ji105 t361 _ ?side1 ?side2 A121.out).mono ?_);(case side1=>repeat (first|exact (Kd.R_reads' HO_15.out).2.2|(with_reducible refine Kd.C_alloc ?_ _)|(with_reducible refine Kd.C_drewN ?_ _)|(with_reducible refine Kd.C_drew ?_)));(case side2=>exact (Kd.R_reads' HO_15.out).2.1);rintro e w125 ⟨rfl,hb⟩;refine ⟨_,rfl,?_⟩;have n0_:=A0_ (Kd.R_below (rd_ HO_15.out) hb);have n1_:=A0_ (Kd.R_below (rd_ HO_17.out) hb);have n2_:=A0_ (Kd.R_below (rd_ HO_19.out) hb);have n3_:=A0_ (blk_below (g:=gb329) (o:=.cells #[.slice A0_0 l0_0.length c0_0,.int .i64 a0_1,.int .i64 a0_2,.int .i64 a0_3] 28 (0,0)) (bd_ BK329.out) hb);have n4_:=A0_ (below_step y5_ hb);clear HO_15;clear HO_17;clear HO_19;clear BK329;clear HB;have HO_15:=n0_;have HO_17:=n1_;have HO_19:=n2_;have BK329:=n3_;have HB:=n4_;clear n0_ n1_ n2_ n3_ n4_;(try clear hb);(try clear hb2);(try clear hk);(try clear hi)))
              go_ret
              exact ⟨by first|rfl|(simp [errW_none,errW_some] <;> rfl)|(simp only [← hji105];first|rfl|(simp [errW_none,errW_some] <;> rfl))|(simp [*,errW_none,errW_some] <;> rfl),y5_⟩
             ·rw [if_neg c122] at H
              have c122b0:(t361 != (decide (ji105≤a1)))=false:=by simpa using c122
              (try (have c122b1:decide (t361=(decide (ji105≤a1)))=true:=by simpa using c122))
              (try (have c122b2:(t361 == (decide (ji105≤a1)))=true:=by simpa using c122))
              clear c122
              have H':=A0_ H
              clear H
              obtain ⟨Ao126,co126,eo126⟩:=Kd.R_slice HO_19.out
              subst eo126
              have p356:0≤(x26_3:Int):=of_decide_eq_true y2_
              have q356:x26_3<(t344.length:Int):=of_decide_eq_true y2_
              obtain ⟨ad356,e356,hx356_0,hx356_1⟩:=at_T51 (Kd.R_reads' HO_19.out).2.2 x26_3 p356 q356
              (try rw [← Nbq111.out] at hx356_1)
              cases e356
              replace p356:=eq_true p356
              replace q356:=eq_true q356
              have p357:0≤(x26_3:Int):=of_decide_eq_true y2_
              have q357:x26_3<(t344.length:Int):=of_decide_eq_true y2_
              obtain ⟨ad357,e357,hx357_0,hx357_1⟩:=at_T51 (Kd.R_reads' HO_19.out).2.2 x26_3 p357 q357
              (try rw [← Nbq111.out] at hx357_1)
              obtain rfl:ad356=ad357:=(by injection e357)
              replace p357:=eq_true p357
              replace q357:=eq_true q357
              have p360:0≤(x26_3:Int):=of_decide_eq_true y2_
              have q360:x26_3<(t344.length:Int):=of_decide_eq_true y2_
              obtain ⟨ad360,e360,hx360_0,hx360_1⟩:=at_T51 (Kd.R_reads' HO_19.out).2.2 x26_3 p360 q360
              (try rw [← Nbq111.out] at hx360_1)
              obtain rfl:ad356=ad360:=(by injection e360)
              replace p360:=eq_true p360
              replace q360:=eq_true q360
              obtain ⟨Ao127,co127,eo127⟩:=Kd.R_slice HO_15.out
              subst eo127
              go_wp2_with (first|((with_reducible refine gate_callee (f:=25) rfl ?_);refine goesL_ (some 201) rfl rfl Tryz.func25 (by kernel_rfl) rfl #[.slice Ao127 t336.length co127,.agg #[.int .i64 a5,.bool false,.int .i64 ji105]] rfl y3a_ ?_;(with_reducible refine (tl_met.calls k3 _ _ t336 a5 false ji105 t361 _ ?side1 ?side2 A121.out).mono ?_);(case side1=>repeat (first|exact (Kd.R_reads' HO_15.out).2.2|(with_reducible refine Kd.C_alloc ?_ _)|(with_reducible refine Kd.C_drewN ?_ _)|(with_reducible refine Kd.C_drew ?_)));(case side2=>exact (Kd.R_reads' HO_15.out).2.1);rintro e w128 ⟨rfl,hb⟩;refine ⟨_,rfl,?_⟩;have n0_:=A0_ (Kd.R_below (rd_ HO_15.out) hb);have n1_:=A0_ (Kd.R_below (rd_ HO_17.out) hb);have n2_:=A0_ (Kd.R_below (rd_ HO_19.out) hb);have n3_:=A0_ (blk_below (g:=gb329) (o:=.cells #[.slice A0_0 l0_0.length c0_0,.int .i64 a0_1,.int .i64 a0_2,.int .i64 a0_3] 28 (0,0)) (bd_ BK329.out) hb);have n4_:=A0_ (below_step y5_ hb);clear HO_15;clear HO_17;clear HO_19;clear BK329;clear HB;have HO_15:=n0_;have HO_17:=n1_;have HO_19:=n2_;have BK329:=n3_;have HB:=n4_;clear n0_ n1_ n2_ n3_ n4_;(try clear hb);(try clear hb2);(try clear hk);(try clear hi)))
              go_roundg k3
              case measure=>have:=HJ7.out;have:=HJ65.out;have:=HK3.out;omega
              case rel=>exact ⟨(wrap64 (x26_3+1)),y4_,H',⟨by have:=HJ7.out;have:=HJ65.out;have:=HK3.out;omega⟩,⟨by (with_reducible repeat (first|apply Kd.R_alloc|apply Kd.R_drewN|apply Kd.R_drew));exact HO_15.out⟩,⟨by (with_reducible repeat (first|apply Kd.R_alloc|apply Kd.R_drewN|apply Kd.R_drew));exact HO_17.out⟩,⟨by (with_reducible repeat (first|apply Kd.R_alloc|apply Kd.R_drewN|apply Kd.R_drew));exact HO_19.out⟩,⟨by (with_reducible repeat (first|refine blk_drewN ?_ _|refine blk_drew ?_|refine blk_alloc ?_ _));exact BK329.out⟩,⟨y5_⟩⟩
           ·rw [if_neg c110] at H
            have c110b0:(((rd_T51 t344 x26_3).f0) == a5)=false:=beq_eq_false_iff_ne.mpr c110
            have c110b1:(((rd_T51 t344 x26_3).f0) != a5)=true:=bne_iff_ne.mpr c110
            have H':=A0_ H
            clear H
            obtain ⟨Ao129,co129,eo129⟩:=Kd.R_slice HO_19.out
            subst eo129
            have p356:0≤(x26_3:Int):=of_decide_eq_true y2_
            have q356:x26_3<(t344.length:Int):=of_decide_eq_true y2_
            obtain ⟨ad356,e356,hx356_0,hx356_1⟩:=at_T51 (Kd.R_reads' HO_19.out).2.2 x26_3 p356 q356
            cases e356
            replace p356:=eq_true p356
            replace q356:=eq_true q356
            go_wp2
            go_roundg k3
            case measure=>have:=HJ7.out;have:=HJ65.out;have:=HK3.out;omega
            case rel=>exact ⟨(wrap64 (x26_3+1)),y4_,H',⟨by have:=HJ7.out;have:=HJ65.out;have:=HK3.out;omega⟩,⟨by (with_reducible repeat (first|apply Kd.R_alloc|apply Kd.R_drewN|apply Kd.R_drew));exact HO_15.out⟩,⟨by (with_reducible repeat (first|apply Kd.R_alloc|apply Kd.R_drewN|apply Kd.R_drew));exact HO_17.out⟩,⟨by (with_reducible repeat (first|apply Kd.R_alloc|apply Kd.R_drewN|apply Kd.R_drew));exact HO_19.out⟩,⟨by (with_reducible repeat (first|refine blk_drewN ?_ _|refine blk_drew ?_|refine blk_alloc ?_ _));exact BK329.out⟩,⟨y5_⟩⟩
          ·rw [if_neg c109] at H;exact absurd H (by simp)
         ·rw [if_neg c108] at H;have c108b0:decide (x26_3<(t344.length:Int))=false:=decide_eq_false c108;clear c108
          have H':=A0_ H
          clear H
          obtain ⟨Ao130,co130,eo130⟩:=Kd.R_slice HO_19.out
          subst eo130;go_wp2
          go_loopg [28] k3 (fun kq v28 w'=>∃ (x28_4:Int),v28=.int .i64 x28_4∧Aside0 (tl_SkyShadows.l1 kq t336 t340 t344 x28_4=some r)∧Aside0 (kq≤k3)∧Aside0 (Kd.R k54 54 w' w.heap.size (fun k_=>some k_≠(v341:Value).ownBlock) v337 t336)∧Aside0 (Kd.R k54 54 w' w.heap.size (fun k_=>some k_≠(v337:Value).ownBlock) v341 t340)∧Aside0 (Kd.R k51 51 w' w.heap.size (fun _=>True) (.slice Ao130 t344.length co130) t344)∧Aside0 (w'.heap[gb329]?=some (.cells #[(.slice A0_0 l0_0.length c0_0),.int .i64 a0_1,.int .i64 a0_2,.int .i64 a0_3] 28 (0,0)))∧Aside0 (Below w.heap.size w w'))
          case atStart=>exact ⟨(0),y4_,H',⟨Nat.le_refl _⟩,⟨by (with_reducible repeat (first|apply Kd.R_alloc|apply Kd.R_drewN|apply Kd.R_drew));exact HO_15.out⟩,⟨by (with_reducible repeat (first|apply Kd.R_alloc|apply Kd.R_drewN|apply Kd.R_drew));exact HO_17.out⟩,⟨by (with_reducible repeat (first|apply Kd.R_alloc|apply Kd.R_drewN|apply Kd.R_drew));exact HO_19.out⟩,⟨by (with_reducible repeat (first|refine blk_drewN ?_ _|refine blk_drew ?_|refine blk_alloc ?_ _));exact BK329.out⟩,⟨y5_⟩⟩
          case round=>
           clear H'
           (try clear c1);(try clear q1);(try clear c2);(try clear p2);(try clear c3);(try clear p3);(try clear q3);(try clear hx3);(try clear c5);(try clear p6);(try clear c7);(try clear c8);(try clear c9);(try clear c10);(try clear c11);(try clear q11);(try clear c12);(try clear c13);(try clear c15);(try clear c17);(try clear c19);(try clear c20);(try clear c20b0);(try clear c21);(try clear c22);(try clear c24);(try clear c25);(try clear c25b0);(try clear c30);(try clear c30b0);(try clear p35);(try clear q35);(try clear hx35);(try clear p36);(try clear q36);(try clear hx36);(try clear c58);(try clear p64);(try clear c77);(try clear c77b0);(try clear c77b1);(try clear c78);(try clear c78b0);(try clear c78b1);(try clear c79);(try clear c79b0);(try clear c79b1);(try clear c80);(try clear c80b0);(try clear c80b1);(try clear c81);(try clear c81b0);(try clear c81b1);(try clear c82);(try clear c82b0);(try clear c82b1);(try clear c85);(try clear c85b0);(try clear c85b1);(try clear c89);(try clear c89b0);(try clear c89b1);(try clear c94);(try clear c102);(try clear c108);(try clear c108b0);(try clear c109);(try clear c109b0);(try clear c110);(try clear c110b0);(try clear c110b1);(try clear q111);(try clear c112);(try clear c114);(try clear c114b0);(try clear c114b1);(try clear c114b2);(try clear c122);(try clear c122b0);(try clear c122b1);(try clear c122b2);(try clear hcz21_0);(try clear hcz21_1);(try clear hcz21_2);(try clear hcz21_3);(try clear hcz23_0);(try clear hcz23_1);(try clear hcz23_2);(try clear hcz23_3);(try clear hcz26_0);(try clear hcz26_1);(try clear hcz26_2);(try clear hcz26_3);(try clear hcz28_0);(try clear hcz28_1);(try clear hcz28_2);(try clear hcz28_3);(try clear hcz31_0);(try clear hcz31_1);(try clear hcz31_2);(try clear hcz31_3);(try clear hcz33_0);(try clear hcz33_1);(try clear hcz33_2);(try clear hcz33_3);(try clear hcz36_0);(try clear hcz36_1);(try clear hcz36_2);(try clear hcz36_3);(try clear hcz38_0);(try clear hcz38_1);(try clear hcz38_2);(try clear hcz38_3);(try clear hcz40_0);(try clear hcz40_1);(try clear hcz40_2);(try clear hcz40_3);(try clear hcz42_0);(try clear hcz42_1);(try clear hcz42_2);(try clear hcz42_3);(try clear hcz44_0);(try clear hcz44_1);(try clear hcz44_2);(try clear hcz44_3);(try clear hcz46_0);(try clear hcz46_1);(try clear hcz46_2);(try clear hcz46_3);(try clear hcz48_0);(try clear hcz48_1);(try clear hcz48_2);(try clear hcz48_3);(try clear hcz50_0);(try clear hcz50_1);(try clear hcz50_2);(try clear hcz50_3);(try clear hcz52_0);(try clear hcz52_1);(try clear hcz52_2);(try clear hcz52_3);(try clear hcz54_0);(try clear hcz54_1);(try clear hcz54_2);(try clear hcz54_3);(try clear hcz56_0);(try clear hcz56_1);(try clear hcz56_2);(try clear hcz56_3);(try clear hcz67_0);(try clear hcz67_1);(try clear hcz67_2);(try clear hcz67_3);(try clear hcz69_0);(try clear hcz69_1);(try clear hcz69_2)
           (try clear hcz69_3);(try clear hcz71_0);(try clear hcz71_1);(try clear hcz71_2);(try clear hcz71_3);(try clear hcz73_0);(try clear hcz73_1);(try clear hcz73_2);(try clear hcz73_3);(try clear hcz75_0);(try clear hcz75_1);(try clear hcz75_2);(try clear hcz75_3);(try clear hfz21_0);(try clear hfz21_1);(try clear hfz21_2);(try clear hfz21_3);(try clear hfz23_0);(try clear hfz23_1);(try clear hfz23_2);(try clear hfz23_3);(try clear hfz26_0);(try clear hfz26_1);(try clear hfz26_2);(try clear hfz26_3);(try clear hfz28_0);(try clear hfz28_1);(try clear hfz28_2);(try clear hfz28_3);(try clear hfz31_0);(try clear hfz31_1);(try clear hfz31_2);(try clear hfz31_3);(try clear hfz33_0);(try clear hfz33_1);(try clear hfz33_2);(try clear hfz33_3);(try clear hfz36_0);(try clear hfz36_1);(try clear hfz36_2);(try clear hfz36_3);(try clear hfz38_0);(try clear hfz38_1);(try clear hfz38_2);(try clear hfz38_3);(try clear hfz40_0);(try clear hfz40_1);(try clear hfz40_2);(try clear hfz40_3);(try clear hfz42_0);(try clear hfz42_1);(try clear hfz42_2);(try clear hfz42_3);(try clear hfz44_0);(try clear hfz44_1);(try clear hfz44_2);(try clear hfz44_3);(try clear hfz46_0);(try clear hfz46_1);(try clear hfz46_2);(try clear hfz46_3);(try clear hfz48_0);(try clear hfz48_1);(try clear hfz48_2);(try clear hfz48_3);(try clear hfz50_0);(try clear hfz50_1);(try clear hfz50_2);(try clear hfz50_3);(try clear hfz52_0);(try clear hfz52_1);(try clear hfz52_2);(try clear hfz52_3);(try clear hfz54_0);(try clear hfz54_1);(try clear hfz54_2);(try clear hfz54_3);(try clear hfz56_0);(try clear hfz56_1);(try clear hfz56_2);(try clear hfz56_3);(try clear hfz67_0);(try clear hfz67_1);(try clear hfz67_2);(try clear hfz67_3);(try clear hfz69_0);(try clear hfz69_1);(try clear hfz69_2);(try clear hfz69_3);(try clear hfz71_0);(try clear hfz71_1);(try clear hfz71_2);(try clear hfz71_3);(try clear hfz73_0);(try clear hfz73_1);(try clear hfz73_2);(try clear hfz73_3);(try clear hfz75_0);(try clear hfz75_1);(try clear hfz75_2);(try clear hfz75_3);(try clear hx356_0);(try clear hx356_1);(try clear hx357_0);(try clear hx357_1);(try clear hx358_0);(try clear hx358_1);(try clear hx360_0);(try clear hx360_1);(try clear p2);(try clear p356);(try clear p357);(try clear p358);(try clear p360);(try clear p6);(try clear p64);(try clear q356);(try clear q357);(try clear q358);(try clear q360)
           obtain ⟨x28_4,rfl,HA,HK4,HO_15,HO_17,HO_19,BK329,HB⟩:=hrel
           cases gk with
           |zero=>exact absurd HA.out (by simp [tl_SkyShadows.l1])
           |succ k4=>
            have H:=HA.out
            clear HA
            simp only [tl_SkyShadows.l1] at H
            by_cases c131:x28_4<(t336.length:Int)
            ·rw [if_pos c131] at H;have c131b0:decide (x28_4<(t336.length:Int))=true:=decide_eq_true c131;clear c131
             by_cases c132:0≤x28_4
             ·rw [if_pos c132] at H;have c132b0:decide (0≤x28_4)=true:=decide_eq_true c132;clear c132;replace H:=Option.bind_eq_some_iff.mp H;obtain ⟨t364,A1330,H⟩:=H
              replace H:(if t364=true then ((tl_listed.f k4 t344 ((rd_T54 t336 x28_4).f0) ((rd_T54 t336 x28_4).f1)).bind fun t367=>(if t367=true then (tl_SkyShadows.l1 k4 t336 t340 t344 (wrap64 (x28_4+1))) else (some false))) else (some false))=some r:=H
              have A133:=A0_ A1330;clear A1330
              by_cases c134:t364=true
              ·subst c134
               have H1:((tl_listed.f k4 t344 ((rd_T54 t336 x28_4).f0) ((rd_T54 t336 x28_4).f1)).bind fun t367=>(if t367=true then (tl_SkyShadows.l1 k4 t336 t340 t344 (wrap64 (x28_4+1))) else (some false)))=some r:=by rw [if_pos rfl] at H;exact H
               clear H;have H:=H1;clear H1;replace H:=Option.bind_eq_some_iff.mp H;obtain ⟨t367,A1350,H⟩:=H
               replace H:(if t367=true then (tl_SkyShadows.l1 k4 t336 t340 t344 (wrap64 (x28_4+1))) else (some false))=some r:=H
               have A135:=A0_ A1350;clear A1350
               by_cases c136:t367=true
               ·subst c136
                have H1:(tl_SkyShadows.l1 k4 t336 t340 t344 (wrap64 (x28_4+1)))=some r:=by rw [if_pos rfl] at H;exact H
                clear H;have H:=H1;clear H1
                have H':=A0_ H
                clear H
                obtain ⟨Ao137,co137,eo137⟩:=Kd.R_slice HO_15.out
                subst eo137
                try go_wp2
                have n0_:=A0_ (Kd.R_drew HO_15.out);have n1_:=A0_ (Kd.R_drew HO_17.out);have n2_:=A0_ (Kd.R_drew HO_19.out);have n3_:=A0_ (blk_drew BK329.out);have n4_:=A0_ (below_drew1 HB.out);clear HO_15;clear HO_17;clear HO_19;clear BK329;clear HB;have HO_15:=n0_;have HO_17:=n1_;have HO_19:=n2_;have BK329:=n3_;have HB:=n4_;clear n0_ n1_ n2_ n3_ n4_
                have p363:0≤(x28_4:Int):=of_decide_eq_true y2_
                have q363:x28_4<(t336.length:Int):=of_decide_eq_true y2_
                obtain ⟨ad363,e363,hx363_0,hx363_1,hx363_2⟩:=at_T54 (Kd.R_reads' HO_15.out).2.2 x28_4 p363 q363
                cases e363
                replace p363:=eq_true p363
                replace q363:=eq_true q363
                obtain ⟨Ao139,co139,eo139⟩:=Kd.R_slice HO_17.out
                (first|subst eo139|(injection eo139 with f1_ f2_ f3_;have f4_:=f1_.symm;have f5_:=f3_.symm;clear f1_ f2_ f3_;subst f4_;subst f5_))
                have p365:0≤(x28_4:Int):=of_decide_eq_true y2_
                have q365:x28_4<(t336.length:Int):=of_decide_eq_true y2_
                obtain ⟨ad365,e365,hx365_0,hx365_1,hx365_2⟩:=at_T54 (Kd.R_reads' HO_15.out).2.2 x28_4 p365 q365
                obtain rfl:ad363=ad365:=(by injection e365)
                replace p365:=eq_true p365
                replace q365:=eq_true q365
                have p366:0≤(x28_4:Int):=of_decide_eq_true y2_
                have q366:x28_4<(t336.length:Int):=of_decide_eq_true y2_
                obtain ⟨ad366,e366,hx366_0,hx366_1,hx366_2⟩:=at_T54 (Kd.R_reads' HO_15.out).2.2 x28_4 p366 q366
                obtain rfl:ad363=ad366:=(by injection e366)
                replace p366:=eq_true p366
                replace q366:=eq_true q366
                refine start_ (n:=22) (S:=fun w'=>w'.cell? (ad363.add ((x28_4).toNat*3))=some (.int .i64 ((rd_T54 t336 x28_4).f0))∧w'.cell? ⟨(ad363.add ((x28_4).toNat*3)).block,(ad363.add ((x28_4).toNat*3)).off+1,none⟩=some (.bool ((rd_T54 t336 x28_4).f1))∧w'.cell? ⟨(ad363.add ((x28_4).toNat*3)).block,(ad363.add ((x28_4).toNat*3)).off+2,none⟩=some (.int .i64 ((rd_T54 t336 x28_4).f2))∧w'.cell? (ad363.add ((x28_4).toNat*3))=some (.int .i64 ((rd_T54 t336 x28_4).f0))∧w'.cell? ⟨(ad363.add ((x28_4).toNat*3)).block,(ad363.add ((x28_4).toNat*3)).off+1,none⟩=some (.bool ((rd_T54 t336 x28_4).f1))∧w'.cell? ⟨(ad363.add ((x28_4).toNat*3)).block,(ad363.add ((x28_4).toNat*3)).off+2,none⟩=some (.int .i64 ((rd_T54 t336 x28_4).f2))∧w'.cell? (ad363.add ((x28_4).toNat*3))=some (.int .i64 ((rd_T54 t336 x28_4).f0))∧w'.cell? ⟨(ad363.add ((x28_4).toNat*3)).block,(ad363.add ((x28_4).toNat*3)).off+1,none⟩=some (.bool ((rd_T54 t336 x28_4).f1))∧w'.cell? ⟨(ad363.add ((x28_4).toNat*3)).block,(ad363.add ((x28_4).toNat*3)).off+2,none⟩=some (.int .i64 ((rd_T54 t336 x28_4).f2))) (ds:=[]) #[false,false,false,false,false,false,false,false,false,false,false,false,false,false,false,false,false,false,false,false,false,false] (by kernel_rfl) rfl rfl ⟨hx363_0,hx363_1,hx363_2,hx365_0,hx365_1,hx365_2,hx366_0,hx366_1,hx366_2⟩ (fun hHeld=>?_);refine with_tabW tl_SkyShadows.tab23 tl_SkyShadows.bits23 (fun HT_ HW_=>?_)
                generalize wr.drew=w138 at HO_15 HO_17 HO_19 BK329 HB hx363_0 hx363_1 hx363_2 hx365_0 hx365_1 hx365_2 hx366_0 hx366_1 hx366_2 hHeld ⊢
                refine pu_ (i:=0) (N:=some 212) ?_;refine pu_ (i:=1) (N:=some 213) ?_;refine pu_ (i:=2) (N:=some 214) ?_;refine pu_ (i:=3) (N:=some 215) ?_;refine ta_ (i:=4) (N:=some 216) ?_
                refine one_ (i:=5) (N:=some 217) #[true,true,true,true,true,true,false,false,false,false,false,false,false,false,false,false,false,false,false,false,false,false] rfl rfl (one_of HT_.out (by kernel_rfl)) (by decide) (fun K hK=>?_)
                refine goes_ Tryz.func25 (by kernel_rfl) rfl #[.slice Ao139 t340.length co139,.agg #[.int .i64 ((rd_T54 t336 x28_4).f0),.bool ((rd_T54 t336 x28_4).f1),.int .i64 ((rd_T54 t336 x28_4).f2)]] (by rfl) rfl rfl y1_ ?_
                with_reducible refine (tl_met.calls k4 _ _ t340 ((rd_T54 t336 x28_4).f0) ((rd_T54 t336 x28_4).f1) ((rd_T54 t336 x28_4).f2) true _ ?side1 ?side2 A133.out).mono ?_
                (case side1=>repeat (first|exact (Kd.R_reads' HO_17.out).2.2|(with_reducible refine Kd.C_alloc ?_ _)|(with_reducible refine Kd.C_drewN ?_ _)|(with_reducible refine Kd.C_drew ?_)))
                (case side2=>exact (Kd.R_reads' HO_17.out).2.1)
                rintro e w140 ⟨rfl,hb⟩
                have HS0_:=(hb.cell (World.block_lt_of_cell? _ _ (hHeld.1))).trans (hHeld.1)
                have HS1_:=(hb.cell (World.block_lt_of_cell? _ _ (hHeld.2.1))).trans (hHeld.2.1)
                have HS2_:=(hb.cell (World.block_lt_of_cell? _ _ (hHeld.2.2.1))).trans (hHeld.2.2.1)
                have HS3_:=(hb.cell (World.block_lt_of_cell? _ _ (hHeld.2.2.2.1))).trans (hHeld.2.2.2.1)
                have HS4_:=(hb.cell (World.block_lt_of_cell? _ _ (hHeld.2.2.2.2.1))).trans (hHeld.2.2.2.2.1)
                have HS5_:=(hb.cell (World.block_lt_of_cell? _ _ (hHeld.2.2.2.2.2.1))).trans (hHeld.2.2.2.2.2.1)
                have HS6_:=(hb.cell (World.block_lt_of_cell? _ _ (hHeld.2.2.2.2.2.2.1))).trans (hHeld.2.2.2.2.2.2.1)
                have HS7_:=(hb.cell (World.block_lt_of_cell? _ _ (hHeld.2.2.2.2.2.2.2.1))).trans (hHeld.2.2.2.2.2.2.2.1)
                have HS8_:=(hb.cell (World.block_lt_of_cell? _ _ (hHeld.2.2.2.2.2.2.2.2))).trans (hHeld.2.2.2.2.2.2.2.2)
                refine ⟨_,rfl,?_⟩
                have n0_:=A0_ (Kd.R_below (rd_ HO_15.out) hb);have n1_:=A0_ (Kd.R_below (rd_ HO_17.out) hb);have n2_:=A0_ (Kd.R_below (rd_ HO_19.out) hb);have n3_:=A0_ (blk_below (g:=gb329) (o:=.cells #[.slice A0_0 l0_0.length c0_0,.int .i64 a0_1,.int .i64 a0_2,.int .i64 a0_3] 28 (0,0)) (bd_ BK329.out) hb);have n4_:=A0_ (below_step y5_ hb);clear HO_15;clear HO_17;clear HO_19;clear BK329;clear HB;have HO_15:=n0_;have HO_17:=n1_;have HO_19:=n2_;have BK329:=n3_;have HB:=n4_;clear n0_ n1_ n2_ n3_ n4_;(try clear hb);(try clear hb2);(try clear hk);(try clear hi)
                refine hK.out _ _ ⟨HS0_,HS1_,HS2_,HS3_,HS4_,HS5_,HS6_,HS7_,HS8_⟩ (fun hHeld=>?_)
                clear hK K
                refine norm_ (a':=?_) ?_ ?_
                rotate_left
                ·show Act.put _ (some 217) _=_
                 simp only [Act.put,List.setIfInBounds_toArray,List.set_cons_zero,List.set_cons_succ,i64_w,i32_w]
                 rfl
                refine pu_ (i:=6) (N:=some 218) ?_;refine pu_ (i:=7) (N:=some 219) ?_;refine pu_ (i:=8) (N:=some 220) ?_;refine pu_ (i:=9) (N:=some 221) ?_;refine pu_ (i:=10) (N:=some 222) ?_;refine pu_ (i:=11) (N:=some 223) ?_;refine pu_ (i:=12) (N:=some 224) ?_;refine pu_ (i:=14) (N:=some 226) ?_;refine pu_ (i:=15) (N:=some 227) ?_;refine pu_ (i:=16) (N:=some 228) ?_;refine pu_ (i:=17) (N:=some 229) ?_;refine ta_ (i:=13) (N:=some 225) ?_;refine ta_ (i:=18) (N:=some 230) ?_
                refine one_ (i:=19) (N:=some 231) #[true,true,true,true,true,true,true,true,true,true,true,true,true,true,true,true,true,true,true,true,false,false] rfl rfl (one_of HT_.out (by kernel_rfl)) (by decide) (fun K hK=>?_)
                refine goes_ Tryz.func26 (by kernel_rfl) rfl #[.slice Ao130 t344.length co130,.int .i64 ((rd_T54 t336 x28_4).f0),.bool ((rd_T54 t336 x28_4).f1)] (by rfl) rfl rfl y1_ ?_
                with_reducible refine (tl_listed.calls k4 _ _ t344 ((rd_T54 t336 x28_4).f0) ((rd_T54 t336 x28_4).f1) true _ ?side1 ?side2 A135.out).mono ?_
                (case side1=>repeat (first|exact (Kd.R_reads' HO_19.out).2.2|(with_reducible refine Kd.C_alloc ?_ _)|(with_reducible refine Kd.C_drewN ?_ _)|(with_reducible refine Kd.C_drew ?_)))
                (case side2=>exact (Kd.R_reads' HO_19.out).2.1)
                rintro e w' ⟨rfl,⟨nd,rfl⟩⟩
                refine ⟨_,rfl,?_⟩
                refine hK.out _ _ ⟨hHeld.1,hHeld.2.1,hHeld.2.2.1,hHeld.2.2.2.1,hHeld.2.2.2.2.1,hHeld.2.2.2.2.2.1,hHeld.2.2.2.2.2.2.1,hHeld.2.2.2.2.2.2.2.1,hHeld.2.2.2.2.2.2.2.2⟩ (fun hHeld=>?_)
                clear hK K
                refine norm_ (a':=?_) ?_ ?_
                rotate_left
                ·show Act.put _ (some 231) _=_
                 simp only [Act.put,List.setIfInBounds_toArray,List.set_cons_zero,List.set_cons_succ,i64_w,i32_w]
                 rfl
                refine pu_ (i:=20) (N:=some 232) ?_;refine pu_ (i:=21) (N:=some 233) ?_
                refine done_ (done_of HT_.out (by kernel_rfl)) ?_
                try go_wp2
                go_roundg k4
                case measure=>have:=HJ7.out;have:=HJ65.out;have:=HK3.out;have:=HK4.out;omega
                case rel=>exact ⟨(wrap64 (x28_4+1)),y4_,H',⟨by have:=HJ7.out;have:=HJ65.out;have:=HK3.out;have:=HK4.out;omega⟩,⟨by (with_reducible repeat (first|apply Kd.R_alloc|apply Kd.R_drewN|apply Kd.R_drew));exact HO_15.out⟩,⟨by (with_reducible repeat (first|apply Kd.R_alloc|apply Kd.R_drewN|apply Kd.R_drew));exact HO_17.out⟩,⟨by (with_reducible repeat (first|apply Kd.R_alloc|apply Kd.R_drewN|apply Kd.R_drew));exact HO_19.out⟩,⟨by (with_reducible repeat (first|refine blk_drewN ?_ _|refine blk_drew ?_|refine blk_alloc ?_ _));exact BK329.out⟩,⟨y5_⟩⟩
               ·replace c136:=Bool.eq_false_iff.mpr c136;subst c136
                have H1:(some false)=some r:=by rw [if_neg (show ¬ (false=true) by decide)] at H;exact H
                clear H;have H:=H1;clear H1;obtain rfl:=Option.some.inj H
                obtain ⟨Ao141,co141,eo141⟩:=Kd.R_slice HO_15.out
                subst eo141
                try go_wp2
                have n0_:=A0_ (Kd.R_drew HO_15.out);have n1_:=A0_ (Kd.R_drew HO_17.out);have n2_:=A0_ (Kd.R_drew HO_19.out);have n3_:=A0_ (blk_drew BK329.out);have n4_:=A0_ (below_drew1 HB.out);clear HO_15;clear HO_17;clear HO_19;clear BK329;clear HB;have HO_15:=n0_;have HO_17:=n1_;have HO_19:=n2_;have BK329:=n3_;have HB:=n4_;clear n0_ n1_ n2_ n3_ n4_
                have p363:0≤(x28_4:Int):=of_decide_eq_true y2_
                have q363:x28_4<(t336.length:Int):=of_decide_eq_true y2_
                obtain ⟨ad363,e363,hx363_0,hx363_1,hx363_2⟩:=at_T54 (Kd.R_reads' HO_15.out).2.2 x28_4 p363 q363
                cases e363
                replace p363:=eq_true p363
                replace q363:=eq_true q363
                obtain ⟨Ao143,co143,eo143⟩:=Kd.R_slice HO_17.out
                (first|subst eo143|(injection eo143 with f1_ f2_ f3_;have f4_:=f1_.symm;have f5_:=f3_.symm;clear f1_ f2_ f3_;subst f4_;subst f5_))
                have p365:0≤(x28_4:Int):=of_decide_eq_true y2_
                have q365:x28_4<(t336.length:Int):=of_decide_eq_true y2_
                obtain ⟨ad365,e365,hx365_0,hx365_1,hx365_2⟩:=at_T54 (Kd.R_reads' HO_15.out).2.2 x28_4 p365 q365
                obtain rfl:ad363=ad365:=(by injection e365)
                replace p365:=eq_true p365
                replace q365:=eq_true q365
                have p366:0≤(x28_4:Int):=of_decide_eq_true y2_
                have q366:x28_4<(t336.length:Int):=of_decide_eq_true y2_
                obtain ⟨ad366,e366,hx366_0,hx366_1,hx366_2⟩:=at_T54 (Kd.R_reads' HO_15.out).2.2 x28_4 p366 q366
                obtain rfl:ad363=ad366:=(by injection e366)
                replace p366:=eq_true p366
                replace q366:=eq_true q366
                refine start_ (n:=22) (S:=fun w'=>w'.cell? (ad363.add ((x28_4).toNat*3))=some (.int .i64 ((rd_T54 t336 x28_4).f0))∧w'.cell? ⟨(ad363.add ((x28_4).toNat*3)).block,(ad363.add ((x28_4).toNat*3)).off+1,none⟩=some (.bool ((rd_T54 t336 x28_4).f1))∧w'.cell? ⟨(ad363.add ((x28_4).toNat*3)).block,(ad363.add ((x28_4).toNat*3)).off+2,none⟩=some (.int .i64 ((rd_T54 t336 x28_4).f2))∧w'.cell? (ad363.add ((x28_4).toNat*3))=some (.int .i64 ((rd_T54 t336 x28_4).f0))∧w'.cell? ⟨(ad363.add ((x28_4).toNat*3)).block,(ad363.add ((x28_4).toNat*3)).off+1,none⟩=some (.bool ((rd_T54 t336 x28_4).f1))∧w'.cell? ⟨(ad363.add ((x28_4).toNat*3)).block,(ad363.add ((x28_4).toNat*3)).off+2,none⟩=some (.int .i64 ((rd_T54 t336 x28_4).f2))∧w'.cell? (ad363.add ((x28_4).toNat*3))=some (.int .i64 ((rd_T54 t336 x28_4).f0))∧w'.cell? ⟨(ad363.add ((x28_4).toNat*3)).block,(ad363.add ((x28_4).toNat*3)).off+1,none⟩=some (.bool ((rd_T54 t336 x28_4).f1))∧w'.cell? ⟨(ad363.add ((x28_4).toNat*3)).block,(ad363.add ((x28_4).toNat*3)).off+2,none⟩=some (.int .i64 ((rd_T54 t336 x28_4).f2))) (ds:=[]) #[false,false,false,false,false,false,false,false,false,false,false,false,false,false,false,false,false,false,false,false,false,false] (by kernel_rfl) rfl rfl ⟨hx363_0,hx363_1,hx363_2,hx365_0,hx365_1,hx365_2,hx366_0,hx366_1,hx366_2⟩ (fun hHeld=>?_);refine with_tabW tl_SkyShadows.tab23 tl_SkyShadows.bits23 (fun HT_ HW_=>?_)
                generalize wr.drew=w142 at HO_15 HO_17 HO_19 BK329 HB hx363_0 hx363_1 hx363_2 hx365_0 hx365_1 hx365_2 hx366_0 hx366_1 hx366_2 hHeld ⊢
                refine pu_ (i:=0) (N:=some 212) ?_;refine pu_ (i:=1) (N:=some 213) ?_;refine pu_ (i:=2) (N:=some 214) ?_;refine pu_ (i:=3) (N:=some 215) ?_;refine ta_ (i:=4) (N:=some 216) ?_
                refine one_ (i:=5) (N:=some 217) #[true,true,true,true,true,true,false,false,false,false,false,false,false,false,false,false,false,false,false,false,false,false] rfl rfl (one_of HT_.out (by kernel_rfl)) (by decide) (fun K hK=>?_)
                refine goes_ Tryz.func25 (by kernel_rfl) rfl #[.slice Ao143 t340.length co143,.agg #[.int .i64 ((rd_T54 t336 x28_4).f0),.bool ((rd_T54 t336 x28_4).f1),.int .i64 ((rd_T54 t336 x28_4).f2)]] (by rfl) rfl rfl y1_ ?_
                with_reducible refine (tl_met.calls k4 _ _ t340 ((rd_T54 t336 x28_4).f0) ((rd_T54 t336 x28_4).f1) ((rd_T54 t336 x28_4).f2) true _ ?side1 ?side2 A133.out).mono ?_
                (case side1=>repeat (first|exact (Kd.R_reads' HO_17.out).2.2|(with_reducible refine Kd.C_alloc ?_ _)|(with_reducible refine Kd.C_drewN ?_ _)|(with_reducible refine Kd.C_drew ?_)))
                (case side2=>exact (Kd.R_reads' HO_17.out).2.1)
                rintro e w144 ⟨rfl,hb⟩
                have HS0_:=(hb.cell (World.block_lt_of_cell? _ _ (hHeld.1))).trans (hHeld.1)
                have HS1_:=(hb.cell (World.block_lt_of_cell? _ _ (hHeld.2.1))).trans (hHeld.2.1)
                have HS2_:=(hb.cell (World.block_lt_of_cell? _ _ (hHeld.2.2.1))).trans (hHeld.2.2.1)
                have HS3_:=(hb.cell (World.block_lt_of_cell? _ _ (hHeld.2.2.2.1))).trans (hHeld.2.2.2.1)
                have HS4_:=(hb.cell (World.block_lt_of_cell? _ _ (hHeld.2.2.2.2.1))).trans (hHeld.2.2.2.2.1)
                have HS5_:=(hb.cell (World.block_lt_of_cell? _ _ (hHeld.2.2.2.2.2.1))).trans (hHeld.2.2.2.2.2.1)
                have HS6_:=(hb.cell (World.block_lt_of_cell? _ _ (hHeld.2.2.2.2.2.2.1))).trans (hHeld.2.2.2.2.2.2.1)
                have HS7_:=(hb.cell (World.block_lt_of_cell? _ _ (hHeld.2.2.2.2.2.2.2.1))).trans (hHeld.2.2.2.2.2.2.2.1)
                have HS8_:=(hb.cell (World.block_lt_of_cell? _ _ (hHeld.2.2.2.2.2.2.2.2))).trans (hHeld.2.2.2.2.2.2.2.2)
                refine ⟨_,rfl,?_⟩
                have n0_:=A0_ (Kd.R_below (rd_ HO_15.out) hb);have n1_:=A0_ (Kd.R_below (rd_ HO_17.out) hb);have n2_:=A0_ (Kd.R_below (rd_ HO_19.out) hb);have n3_:=A0_ (blk_below (g:=gb329) (o:=.cells #[.slice A0_0 l0_0.length c0_0,.int .i64 a0_1,.int .i64 a0_2,.int .i64 a0_3] 28 (0,0)) (bd_ BK329.out) hb);have n4_:=A0_ (below_step y5_ hb);clear HO_15;clear HO_17;clear HO_19;clear BK329;clear HB;have HO_15:=n0_;have HO_17:=n1_;have HO_19:=n2_;have BK329:=n3_;have HB:=n4_;clear n0_ n1_ n2_ n3_ n4_;(try clear hb);(try clear hb2);(try clear hk);(try clear hi)
                refine hK.out _ _ ⟨HS0_,HS1_,HS2_,HS3_,HS4_,HS5_,HS6_,HS7_,HS8_⟩ (fun hHeld=>?_)
                clear hK K
                refine norm_ (a':=?_) ?_ ?_
                rotate_left
                ·show Act.put _ (some 217) _=_
                 simp only [Act.put,List.setIfInBounds_toArray,List.set_cons_zero,List.set_cons_succ,i64_w,i32_w]
                 rfl
                refine pu_ (i:=6) (N:=some 218) ?_;refine pu_ (i:=7) (N:=some 219) ?_;refine pu_ (i:=8) (N:=some 220) ?_;refine pu_ (i:=9) (N:=some 221) ?_;refine pu_ (i:=10) (N:=some 222) ?_;refine pu_ (i:=11) (N:=some 223) ?_;refine pu_ (i:=12) (N:=some 224) ?_;refine pu_ (i:=14) (N:=some 226) ?_;refine pu_ (i:=15) (N:=some 227) ?_;refine pu_ (i:=16) (N:=some 228) ?_;refine pu_ (i:=17) (N:=some 229) ?_;refine ta_ (i:=13) (N:=some 225) ?_;refine ta_ (i:=18) (N:=some 230) ?_
                refine one_ (i:=19) (N:=some 231) #[true,true,true,true,true,true,true,true,true,true,true,true,true,true,true,true,true,true,true,true,false,false] rfl rfl (one_of HT_.out (by kernel_rfl)) (by decide) (fun K hK=>?_)
                refine goes_ Tryz.func26 (by kernel_rfl) rfl #[.slice Ao130 t344.length co130,.int .i64 ((rd_T54 t336 x28_4).f0),.bool ((rd_T54 t336 x28_4).f1)] (by rfl) rfl rfl y1_ ?_
                with_reducible refine (tl_listed.calls k4 _ _ t344 ((rd_T54 t336 x28_4).f0) ((rd_T54 t336 x28_4).f1) false _ ?side1 ?side2 A135.out).mono ?_
                (case side1=>repeat (first|exact (Kd.R_reads' HO_19.out).2.2|(with_reducible refine Kd.C_alloc ?_ _)|(with_reducible refine Kd.C_drewN ?_ _)|(with_reducible refine Kd.C_drew ?_)))
                (case side2=>exact (Kd.R_reads' HO_19.out).2.1)
                rintro e w' ⟨rfl,⟨nd,rfl⟩⟩
                refine ⟨_,rfl,?_⟩
                refine hK.out _ _ ⟨hHeld.1,hHeld.2.1,hHeld.2.2.1,hHeld.2.2.2.1,hHeld.2.2.2.2.1,hHeld.2.2.2.2.2.1,hHeld.2.2.2.2.2.2.1,hHeld.2.2.2.2.2.2.2.1,hHeld.2.2.2.2.2.2.2.2⟩ (fun hHeld=>?_)
                clear hK K
                refine norm_ (a':=?_) ?_ ?_
                rotate_left
                ·show Act.put _ (some 231) _=_
                 simp only [Act.put,List.setIfInBounds_toArray,List.set_cons_zero,List.set_cons_succ,i64_w,i32_w]
                 rfl
                refine pu_ (i:=20) (N:=some 232) ?_;refine pu_ (i:=21) (N:=some 233) ?_
                refine done_ (done_of HT_.out (by kernel_rfl)) ?_
                try go_wp2
                go_ret
                exact ⟨by first|rfl|(simp [errW_none,errW_some] <;> rfl)|(simp only [← hji105];first|rfl|(simp [errW_none,errW_some] <;> rfl))|(simp [*,errW_none,errW_some] <;> rfl),y5_⟩
              ·as_aux_lemma=>
               replace c134:=Bool.eq_false_iff.mpr c134;subst c134
               have H1:(some false)=some r:=by rw [if_neg (show ¬ (false=true) by decide)] at H;exact H
               clear H;have H:=H1;clear H1;obtain rfl:=Option.some.inj H
               obtain ⟨Ao145,co145,eo145⟩:=Kd.R_slice HO_15.out
               subst eo145
               try go_wp2
               have n0_:=A0_ (Kd.R_drew HO_15.out);have n1_:=A0_ (Kd.R_drew HO_17.out);have n2_:=A0_ (Kd.R_drew HO_19.out);have n3_:=A0_ (blk_drew BK329.out);have n4_:=A0_ (below_drew1 HB.out);clear HO_15;clear HO_17;clear HO_19;clear BK329;clear HB;have HO_15:=n0_;have HO_17:=n1_;have HO_19:=n2_;have BK329:=n3_;have HB:=n4_;clear n0_ n1_ n2_ n3_ n4_
               have p363:0≤(x28_4:Int):=of_decide_eq_true y2_
               have q363:x28_4<(t336.length:Int):=of_decide_eq_true y2_
               obtain ⟨ad363,e363,hx363_0,hx363_1,hx363_2⟩:=at_T54 (Kd.R_reads' HO_15.out).2.2 x28_4 p363 q363
               cases e363
               replace p363:=eq_true p363
               replace q363:=eq_true q363
               obtain ⟨Ao147,co147,eo147⟩:=Kd.R_slice HO_17.out
               (first|subst eo147|(injection eo147 with f1_ f2_ f3_;have f4_:=f1_.symm;have f5_:=f3_.symm;clear f1_ f2_ f3_;subst f4_;subst f5_))
               refine start_ (n:=22) (S:=fun w'=>w'.cell? (ad363.add ((x28_4).toNat*3))=some (.int .i64 ((rd_T54 t336 x28_4).f0))∧w'.cell? ⟨(ad363.add ((x28_4).toNat*3)).block,(ad363.add ((x28_4).toNat*3)).off+1,none⟩=some (.bool ((rd_T54 t336 x28_4).f1))∧w'.cell? ⟨(ad363.add ((x28_4).toNat*3)).block,(ad363.add ((x28_4).toNat*3)).off+2,none⟩=some (.int .i64 ((rd_T54 t336 x28_4).f2))) (ds:=[]) #[false,false,false,false,false,false,false,false,false,false,false,false,false,false,false,false,false,false,false,false,false,false] (by kernel_rfl) rfl rfl ⟨hx363_0,hx363_1,hx363_2⟩ (fun hHeld=>?_);refine with_tabW tl_SkyShadows.tab23 tl_SkyShadows.bits23 (fun HT_ HW_=>?_)
               generalize wr.drew=w146 at HO_15 HO_17 HO_19 BK329 HB hx363_0 hx363_1 hx363_2 hHeld ⊢
               refine pu_ (i:=0) (N:=some 212) ?_;refine pu_ (i:=1) (N:=some 213) ?_;refine pu_ (i:=2) (N:=some 214) ?_;refine pu_ (i:=3) (N:=some 215) ?_;refine ta_ (i:=4) (N:=some 216) ?_
               refine one_ (i:=5) (N:=some 217) #[true,true,true,true,true,true,false,false,false,false,false,false,false,false,false,false,false,false,false,false,false,false] rfl rfl (one_of HT_.out (by kernel_rfl)) (by decide) (fun K hK=>?_)
               refine goes_ Tryz.func25 (by kernel_rfl) rfl #[.slice Ao147 t340.length co147,.agg #[.int .i64 ((rd_T54 t336 x28_4).f0),.bool ((rd_T54 t336 x28_4).f1),.int .i64 ((rd_T54 t336 x28_4).f2)]] (by rfl) rfl rfl y1_ ?_
               with_reducible refine (tl_met.calls k4 _ _ t340 ((rd_T54 t336 x28_4).f0) ((rd_T54 t336 x28_4).f1) ((rd_T54 t336 x28_4).f2) false _ ?side1 ?side2 A133.out).mono ?_
               (case side1=>repeat (first|exact (Kd.R_reads' HO_17.out).2.2|(with_reducible refine Kd.C_alloc ?_ _)|(with_reducible refine Kd.C_drewN ?_ _)|(with_reducible refine Kd.C_drew ?_)))
               (case side2=>exact (Kd.R_reads' HO_17.out).2.1)
               rintro e w148 ⟨rfl,hb⟩
               have HS0_:=(hb.cell (World.block_lt_of_cell? _ _ (hHeld.1))).trans (hHeld.1)
               have HS1_:=(hb.cell (World.block_lt_of_cell? _ _ (hHeld.2.1))).trans (hHeld.2.1)
               have HS2_:=(hb.cell (World.block_lt_of_cell? _ _ (hHeld.2.2))).trans (hHeld.2.2)
               refine ⟨_,rfl,?_⟩
               have n0_:=A0_ (Kd.R_below (rd_ HO_15.out) hb);have n1_:=A0_ (Kd.R_below (rd_ HO_17.out) hb);have n2_:=A0_ (Kd.R_below (rd_ HO_19.out) hb);have n3_:=A0_ (blk_below (g:=gb329) (o:=.cells #[.slice A0_0 l0_0.length c0_0,.int .i64 a0_1,.int .i64 a0_2,.int .i64 a0_3] 28 (0,0)) (bd_ BK329.out) hb);have n4_:=A0_ (below_step y5_ hb);clear HO_15;clear HO_17;clear HO_19;clear BK329;clear HB;have HO_15:=n0_;have HO_17:=n1_;have HO_19:=n2_;have BK329:=n3_;have HB:=n4_;clear n0_ n1_ n2_ n3_ n4_;(try clear hb);(try clear hb2);(try clear hk);(try clear hi)
               refine hK.out _ _ ⟨HS0_,HS1_,HS2_⟩ (fun hHeld=>?_)
               clear hK K
               refine norm_ (a':=?_) ?_ ?_
               rotate_left
               ·show Act.put _ (some 217) _=_
                simp only [Act.put,List.setIfInBounds_toArray,List.set_cons_zero,List.set_cons_succ,i64_w,i32_w]
                rfl
               refine pu_ (i:=6) (N:=some 218) ?_;refine pu_ (i:=7) (N:=some 219) ?_
               refine pure_ (i:=8) (N:=some 220) (v:=undef) (a':=?_) #[true,true,true,true,true,true,true,true,true,false,false,false,false,false,false,false,false,false,false,false,false,false] rfl rfl (any_of HT_.out (by kernel_rfl)) (fun _ _ _ h=>h) (Or.inr ⟨by rfl,rfl⟩) ?_ ?_
               rotate_left
               ·simp only [Act.put,List.setIfInBounds_toArray,List.set_cons_zero,List.set_cons_succ,i64_w,i32_w]
                rfl
               refine pure_ (i:=9) (N:=some 221) (v:=undef) (a':=?_) #[true,true,true,true,true,true,true,true,true,true,false,false,false,false,false,false,false,false,false,false,false,false] rfl rfl (any_of HT_.out (by kernel_rfl)) (fun _ _ _ h=>h) (Or.inr ⟨by rfl,rfl⟩) ?_ ?_
               rotate_left
               ·simp only [Act.put,List.setIfInBounds_toArray,List.set_cons_zero,List.set_cons_succ,i64_w,i32_w]
                rfl
               refine pure_ (i:=10) (N:=some 222) (v:=undef) (a':=?_) #[true,true,true,true,true,true,true,true,true,true,true,false,false,false,false,false,false,false,false,false,false,false] rfl rfl (any_of HT_.out (by kernel_rfl)) (fun _ _ _ h=>h) (Or.inr ⟨by rfl,rfl⟩) ?_ ?_
               rotate_left
               ·simp only [Act.put,List.setIfInBounds_toArray,List.set_cons_zero,List.set_cons_succ,i64_w,i32_w]
                rfl
               refine pure_ (i:=11) (N:=some 223) (v:=undef) (a':=?_) #[true,true,true,true,true,true,true,true,true,true,true,true,false,false,false,false,false,false,false,false,false,false] rfl rfl (any_of HT_.out (by kernel_rfl)) (fun _ _ _ h=>h) (Or.inr ⟨by rfl,rfl⟩) ?_ ?_
               rotate_left
               ·simp only [Act.put,List.setIfInBounds_toArray,List.set_cons_zero,List.set_cons_succ,i64_w,i32_w]
                rfl
               refine pure_ (i:=12) (N:=some 224) (v:=undef) (a':=?_) #[true,true,true,true,true,true,true,true,true,true,true,true,true,false,false,false,false,false,false,false,false,false] rfl rfl (any_of HT_.out (by kernel_rfl)) (fun _ _ _ h=>h) (Or.inr ⟨by rfl,rfl⟩) ?_ ?_
               rotate_left
               ·simp only [Act.put,List.setIfInBounds_toArray,List.set_cons_zero,List.set_cons_succ,i64_w,i32_w]
                rfl
               refine pure_ (i:=13) (N:=some 225) (v:=undef) (a':=?_) #[true,true,true,true,true,true,true,true,true,true,true,true,true,true,false,false,false,false,false,false,false,false] rfl rfl (any_of HT_.out (by kernel_rfl)) (fun _ _ _ h=>h) (Or.inr ⟨by rfl,rfl⟩) ?_ ?_
               rotate_left
               ·simp only [Act.put,List.setIfInBounds_toArray,List.set_cons_zero,List.set_cons_succ,i64_w,i32_w]
                rfl
               refine pure_ (i:=14) (N:=some 226) (v:=undef) (a':=?_) #[true,true,true,true,true,true,true,true,true,true,true,true,true,true,true,false,false,false,false,false,false,false] rfl rfl (any_of HT_.out (by kernel_rfl)) (fun _ _ _ h=>h) (Or.inr ⟨by rfl,rfl⟩) ?_ ?_
               rotate_left
               ·simp only [Act.put,List.setIfInBounds_toArray,List.set_cons_zero,List.set_cons_succ,i64_w,i32_w]
                rfl
               refine pure_ (i:=15) (N:=some 227) (v:=undef) (a':=?_) #[true,true,true,true,true,true,true,true,true,true,true,true,true,true,true,true,false,false,false,false,false,false] rfl rfl (any_of HT_.out (by kernel_rfl)) (fun _ _ _ h=>h) (Or.inr ⟨by rfl,rfl⟩) ?_ ?_
               rotate_left
               ·simp only [Act.put,List.setIfInBounds_toArray,List.set_cons_zero,List.set_cons_succ,i64_w,i32_w]
                rfl
               refine pure_ (i:=16) (N:=some 228) (v:=undef) (a':=?_) #[true,true,true,true,true,true,true,true,true,true,true,true,true,true,true,true,true,false,false,false,false,false] rfl rfl (any_of HT_.out (by kernel_rfl)) (fun _ _ _ h=>h) (Or.inr ⟨by rfl,rfl⟩) ?_ ?_
               rotate_left
               ·simp only [Act.put,List.setIfInBounds_toArray,List.set_cons_zero,List.set_cons_succ,i64_w,i32_w]
                rfl
               refine pure_ (i:=17) (N:=some 229) (v:=undef) (a':=?_) #[true,true,true,true,true,true,true,true,true,true,true,true,true,true,true,true,true,true,false,false,false,false] rfl rfl (any_of HT_.out (by kernel_rfl)) (fun _ _ _ h=>h) (Or.inr ⟨by rfl,rfl⟩) ?_ ?_
               rotate_left
               ·simp only [Act.put,List.setIfInBounds_toArray,List.set_cons_zero,List.set_cons_succ,i64_w,i32_w]
                rfl
               refine pure_ (i:=18) (N:=some 230) (v:=undef) (a':=?_) #[true,true,true,true,true,true,true,true,true,true,true,true,true,true,true,true,true,true,true,false,false,false] rfl rfl (any_of HT_.out (by kernel_rfl)) (fun _ _ _ h=>h) (Or.inr ⟨by rfl,rfl⟩) ?_ ?_
               rotate_left
               ·simp only [Act.put,List.setIfInBounds_toArray,List.set_cons_zero,List.set_cons_succ,i64_w,i32_w]
                rfl
               refine pure_ (i:=19) (N:=some 231) (v:=undef) (a':=?_) #[true,true,true,true,true,true,true,true,true,true,true,true,true,true,true,true,true,true,true,true,false,false] rfl rfl (any_of HT_.out (by kernel_rfl)) (fun _ _ _ h=>h) (Or.inr ⟨by rfl,rfl⟩) ?_ ?_
               rotate_left
               ·simp only [Act.put,List.setIfInBounds_toArray,List.set_cons_zero,List.set_cons_succ,i64_w,i32_w]
                rfl
               refine pure_ (i:=20) (N:=some 232) (v:=undef) (a':=?_) #[true,true,true,true,true,true,true,true,true,true,true,true,true,true,true,true,true,true,true,true,true,false] rfl rfl (any_of HT_.out (by kernel_rfl)) (fun _ _ _ h=>h) (Or.inr ⟨by rfl,rfl⟩) ?_ ?_
               rotate_left
               ·simp only [Act.put,List.setIfInBounds_toArray,List.set_cons_zero,List.set_cons_succ,i64_w,i32_w]
                rfl
               refine pu_ (i:=21) (N:=some 233) ?_
               refine done_ (done_of HT_.out (by kernel_rfl)) ?_
               try go_wp2
               go_ret
               exact ⟨by first|rfl|(simp [errW_none,errW_some] <;> rfl)|(simp only [← hji105];first|rfl|(simp [errW_none,errW_some] <;> rfl))|(simp [*,errW_none,errW_some] <;> rfl),y5_⟩
             ·rw [if_neg c132] at H;exact absurd H (by simp)
            ·rw [if_neg c131] at H;have c131b0:decide (x28_4<(t336.length:Int))=false:=decide_eq_false c131;clear c131;replace H:=Option.bind_eq_some_iff.mp H;obtain ⟨t362,A1490,H⟩:=H
             replace H:(some t362)=some r:=H
             have A149:=A0_ A1490;clear A1490;obtain rfl:=Option.some.inj H
             obtain ⟨Ao150,co150,eo150⟩:=Kd.R_slice HO_15.out
             subst eo150
             go_wp2_with (first|((with_reducible refine gate_callee (f:=11) rfl ?_);refine goesL_ (some 234) rfl rfl Tryz.func11 (by kernel_rfl) rfl #[] rfl y1_ ?_;(with_reducible refine (tl_known.calls  t362 _ A149.out ?side1).mono ?_);(case side1=>exact LD.below HLD.out y5_);rintro e w151 ⟨rfl,hb⟩;refine ⟨_,rfl,?_⟩;have n0_:=A0_ (Kd.R_below (rd_ HO_15.out) hb);have n1_:=A0_ (Kd.R_below (rd_ HO_17.out) hb);have n2_:=A0_ (Kd.R_below (rd_ HO_19.out) hb);have n3_:=A0_ (blk_below (g:=gb329) (o:=.cells #[.slice A0_0 l0_0.length c0_0,.int .i64 a0_1,.int .i64 a0_2,.int .i64 a0_3] 28 (0,0)) (bd_ BK329.out) hb);have n4_:=A0_ (below_step y5_ hb);clear HO_15;clear HO_17;clear HO_19;clear BK329;clear HB;have HO_15:=n0_;have HO_17:=n1_;have HO_19:=n2_;have BK329:=n3_;have HB:=n4_;clear n0_ n1_ n2_ n3_ n4_;(try clear hb);(try clear hb2);(try clear hk);(try clear hi)))
             go_ret
             exact ⟨by first|rfl|(simp [errW_none,errW_some] <;> rfl)|(simp only [← hji105];first|rfl|(simp [errW_none,errW_some] <;> rfl))|(simp [*,errW_none,errW_some] <;> rfl),y5_⟩
end Go.Proofs.YtaidphhkhddemaaGreatDoor.PSky
end
section
namespace Go.Proofs.YtaidphhkhddemaaGreatDoor.PSky
open Go.RowKit Go.Proofs.YtaidphhkhddemaaGreatDoorW.PrintWords Go.Proofs.YtaidphhkhddemaaGreatDoorW.PrintLast Go.Proofs.YtaidphhkhddemaaGreatDoorW.PrintMore
def metB (x y:S54):Bool:=y.f0 == x.f0 && (y.f1 == x.f1 && (y.f2 == x.f2))
theorem metB_iff {x y:S54}:metB x y=true ↔ y=x:=by
 cases x
 cases y
 simp [metB]
def listB (d:Int) (f:Bool) (m:S51):Bool:=decide (m.f0=d) && (m.f1 == f)
theorem rdE_get (l:List S54) (i:Nat) (h:i<l.length):rd_T54 l (i:Int)=l[i]:=by unfold rd_T54;simp [h]
theorem met_ev (l:List S54) (hl:l.length≤1000000) (x:S54):Ev (fun k=>tl_met.f k l x.f0 x.f1 x.f2) (l.any (metB x)):=by
 have key:∀ m i:Nat,i+m=l.length→Ev (fun k=>tl_met.l0 k l (i:Int) x.f0 x.f1 x.f2) ((l.drop i).any (metB x)):=by
  intro m
  induction m with
  |zero=>
   intro i h
   rw [show i=l.length by omega,List.drop_length]
   refine Ev.step (fun k=>by rw [tl_met.l0]) ?_
   exact Ev.neg (by omega) (Ev.now _)
  |succ m ih=>
   intro i h
   have hi:i<l.length:=by omega
   have ih':=ih (i+1) (by omega)
   rw [List.drop_eq_getElem_cons hi,List.any_cons]
   refine Ev.step (fun k=>by rw [tl_met.l0]) ?_
   rw [rdE_get l i hi,wrap_id (by omega)]
   generalize l[i]=y
   refine Ev.pos (by omega) (Ev.pos (by omega) ?_)
   cases hb:metB x y with
   |true=>exact Ev.pos hb (Ev.now _)
   |false=>
    refine Ev.neg (by rw [show (y.f0 == x.f0 && (y.f1 == x.f1 && (y.f2 == x.f2)))=metB x y from rfl,hb];simp) ?_
    rw [Bool.false_or]
    exact ih'
 exact key l.length 0 (by omega)
theorem listed_ev (l:List S51) (hl:l.length≤1000000) (d:Int) (f:Bool):Ev (fun k=>tl_listed.f k l d f) (l.any (listB d f)):=by
 have key:∀ m i:Nat,i+m=l.length→Ev (fun k=>tl_listed.l0 k l d f (i:Int)) ((l.drop i).any (listB d f)):=by
  intro m
  induction m with
  |zero=>
   intro i h
   rw [show i=l.length by omega,List.drop_length]
   refine Ev.step (fun k=>by rw [tl_listed.l0]) ?_
   exact Ev.neg (by omega) (Ev.now _)
  |succ m ih=>
   intro i h
   have hi:i<l.length:=by omega
   have ih':=ih (i+1) (by omega)
   rw [List.drop_eq_getElem_cons hi,List.any_cons]
   refine Ev.step (fun k=>by rw [tl_listed.l0]) ?_
   rw [rdM_get l i hi,wrap_id (by omega)]
   generalize l[i]=y
   refine Ev.pos (by omega) (Ev.pos (by omega) ?_)
   unfold listB
   by_cases h1:y.f0=d
   ·rw [decide_eq_true h1,Bool.true_and]
    refine Ev.pos h1 ?_
    cases hb:(y.f1 == f) with
    |true=>exact Ev.pos rfl (Ev.now _)
    |false=>
     refine Ev.neg (by simp) ?_
     rw [Bool.false_or]
     exact ih'
   ·rw [decide_eq_false h1,Bool.false_and,Bool.false_or]
    exact Ev.neg h1 ih'
 exact key l.length 0 (by omega)
theorem shadows_all {es es2:List S54} {ms:List S51} (h1:es.length≤1000000) (h2:es2.length≤1000000) (h3:ms.length≤1000000) (he:∀ e∈es,e∈es2∧∃ m∈ms,m.f0=e.f0∧m.f1=e.f1):
  ∀ m i:Nat,i+m=es.length→Ev (fun k=>tl_SkyShadows.l1 k es es2 ms (i:Int)) true
 |0,i,h=>by
  refine Ev.step (fun k=>by rw [tl_SkyShadows.l1]) ?_
  exact Ev.neg (by omega) known_ev
 |m+1,i,h=>by
  have hi:i<es.length:=by omega
  have ih:=shadows_all h1 h2 h3 he m (i+1) (by omega)
  obtain ⟨g1,x,hx,g2,g3⟩:=he es[i] (List.getElem_mem hi)
  refine Ev.step (fun k=>by rw [tl_SkyShadows.l1]) ?_
  rw [rdE_get es i hi,wrap_id (by omega)]
  refine Ev.pos (by omega) (Ev.pos (by omega) (Ev.bind (met_ev es2 h2 es[i]) (Ev.pos (List.any_eq_true.mpr ⟨_,g1,metB_iff.mpr rfl⟩) (Ev.bind (listed_ev ms h3 _ _) (Ev.pos (List.any_eq_true.mpr ⟨x,hx,?_⟩) ih)))))
  unfold listB
  rw [decide_eq_true g2,g3]
  simp
theorem shadows_day {es es2:List S54} {ms:List S51} (new full day far:Int) (h1:es.length≤1000000) (h3:ms.length≤1000000) (hm:∀ m∈ms,m.f0=day→((⟨day,m.f1,far⟩:S54)∈es ↔ far≤if m.f1=true then full else new))
  (hn:Ev (fun k=>tl_SkyShadows.l1 k es es2 ms 0) true):∀ m i:Nat,i+m=ms.length→Ev (fun k=>tl_SkyShadows.l0 k new full day es es2 ms far (i:Int)) true
 |0,i,h=>by
  refine Ev.step (fun k=>by rw [tl_SkyShadows.l0]) ?_
  exact Ev.neg (by omega) hn
 |m+1,i,h=>by
  have hi:i<ms.length:=by omega
  have ih:=shadows_day new full day far h1 h3 hm hn m (i+1) (by omega)
  have hx:=hm ms[i] (List.getElem_mem hi)
  refine Ev.step (fun k=>by rw [tl_SkyShadows.l0]) ?_
  rw [rdM_get ms i hi,wrap_id (by omega)]
  generalize ms[i]=x at hx
  refine Ev.pos (by omega) (Ev.pos (by omega) ?_)
  by_cases hd:x.f0=day
  ·have hx':=hx hd
   have ht:∀ lim:Int,((⟨day,x.f1,far⟩:S54)∈es ↔ far≤lim)→(es.any (metB ⟨day,x.f1,far⟩) != decide (far≤lim))=false:=fun lim hq=>by
    by_cases hl:far≤lim
    ·rw [decide_eq_true hl,List.any_eq_true.mpr ⟨_,hq.mpr hl,metB_iff.mpr rfl⟩]
     rfl
    ·rw [decide_eq_false hl]
     cases ha:es.any (metB ⟨day,x.f1,far⟩) with
     |false=>rfl
     |true=>
      obtain ⟨y,hy,hb⟩:=List.any_eq_true.mp ha
      rw [metB_iff.mp hb] at hy
      exact absurd (hq.mp hy) hl
   have hmet:=met_ev es h1 ⟨day,x.f1,far⟩
   refine Ev.pos hd ?_
   cases hf:x.f1 with
   |true=>
    rw [hf,if_pos rfl] at hx'
    rw [hf] at ht hmet
    refine Ev.pos rfl (Ev.bind hmet ?_)
    rw [ht full hx']
    exact Ev.neg (by simp) ih
   |false=>
    rw [hf,if_neg (by simp)] at hx'
    rw [hf] at ht hmet
    refine Ev.neg (by simp) (Ev.bind hmet ?_)
    rw [ht new hx']
    exact Ev.neg (by simp) ih
  ·exact Ev.neg hd ih
theorem ecl_mem {l:List S83} {p q n new full:Int} {m:S51} {e:S54}:e∈eclOf l p q n new full m ↔ farOf l p q n m.f0≤(if m.f1=true then full else new)∧e=⟨m.f0,m.f1,farOf l p q n m.f0⟩:=by
 unfold eclOf
 by_cases h:farOf l p q n m.f0≤(if m.f1=true then full else new)
 ·rw [if_pos h,List.mem_singleton]
  exact ⟨fun he=>⟨h,he⟩,fun he=>he.2⟩
 ·rw [if_neg h]
  exact ⟨fun he=>(by cases he),fun he=>absurd he.1 h⟩
theorem more_le {f:Bool} {x new full more:Int} (hm:0≤more) (h:x≤if f=true then full else new):x≤if f=true then full+more else new+more:=by
 cases f with
 |true=>rw [if_pos rfl] at h ⊢;omega
 |false=>rw [if_neg (by simp)] at h ⊢;omega
theorem ecl_more (l:List S83) (p q n new full more:Int) (hm:0≤more):∀ ms:List S51,(ms.flatMap (eclOf l p q n new full)).length≤(ms.flatMap (eclOf l p q n (new+more) (full+more))).length
 |[]=>by simp
 |m :: ms=>by
  have:=ecl_more l p q n new full more hm ms
  have h1:(eclOf l p q n new full m).length≤(eclOf l p q n (new+more) (full+more) m).length:=by
   unfold eclOf
   by_cases hc:farOf l p q n m.f0≤(if m.f1=true then full else new)
   ·rw [if_pos hc,if_pos (more_le hm hc)]
    exact Nat.le_refl _
   ·rw [if_neg hc]
    simp
  simp only [List.flatMap_cons,List.length_append]
  omega
theorem Node_ev {l:List S83} {p q n:Int} (h:okSky l p q n=true) {d:Int} (hd:0≤d∧d≤20000):Ev (fun k=>sky_Node.f k l p q n d) (nodeOf p q n d,0):=by
 have hk:=ok_at h
 unfold sky_Node.f
 refine Ev.bind (isSky_ev l p q n) ?_
 rw [h]
 refine Ev.pos rfl (Ev.bind (Ev.is (isDay_eq d)) ?_)
 rw [show okDay d=true from okIn_iff.mpr hd]
 exact Ev.pos rfl (Ev.bind (Ev.is (node_eq hk.2.2.1 hk.2.2.2.1 hd)) (Ev.now _))
theorem far_eq {l:List S83} {p q n:Int} {d:Int}:mn (apartOf (wayOf (rd_T83 l ((1:Nat):Int)) d % 21600) (nodeOf p q n d)) (apartOf (wayOf (rd_T83 l ((1:Nat):Int)) d % 21600) (nodeOf p q n d+10800))=farOf l p q n d:=by
 have b2:=node_bounds p q n d
 unfold farOf apartOf
 generalize wayOf (rd_T83 l ((1:Nat):Int)) d=x
 generalize nodeOf p q n d=y at b2 ⊢
 unfold mn
 omega
theorem apart2_eq {a b:Int} (ha:0≤a∧a<21600) (hb:0≤b∧b≤32399):tr_Apart.f a b=some (apartOf a b):=by
 unfold tr_Apart.f apartOf
 rw [wrap_id (by omega),Less_eq (by omega),Option.bind_some,wrap_id (by omega)]
theorem SkyShadows_ev (l:List S83) (p q n new full a b day more:Int):Ev (fun k=>tl_SkyShadows.f k l p q n new full a b day more) true:=by
 obtain ⟨s,hs,hs6⟩:=short_ev l p q n
 unfold tl_SkyShadows.f
 have bad:∀ c:Bool,c=true→Ev (fun k=>tl_SkyShadows.j0 k new full a b day more c l p q n) true:=fun c hc=>by
  refine Ev.step (fun k=>by rw [tl_SkyShadows.j0]) ?_
  exact Ev.pos hc known_ev
 refine Ev.bind hs ?_
 cases s with
 |false=>exact Ev.neg (by simp) (bad _ rfl)
 |true=>
  have hl:=hs6 rfl
  refine Ev.pos rfl (Ev.bind (refSky_ev l p q n (by omega)) ?_)
  cases h:okSky l p q n with
  |false=>exact Ev.neg (by simp) (bad _ rfl)
  |true=>
   refine Ev.pos rfl (Ev.bind (Ev.is (Limit_eq new)) ?_)
   cases h1:okLimit new with
   |false=>exact Ev.neg (by simp) (bad _ rfl)
   |true=>
    refine Ev.pos rfl (Ev.bind (Ev.is (Limit_eq full)) ?_)
    cases h2:okLimit full with
    |false=>exact Ev.neg (by simp) (bad _ rfl)
    |true=>
     refine Ev.pos rfl (Ev.bind (Ev.is (Span_eq a b)) ?_)
     cases h3:okSpan a b with
     |false=>exact Ev.neg (by simp) (bad _ rfl)
     |true=>
      refine Ev.pos rfl ?_
      by_cases g1:day<a
      ·exact Ev.pos g1 (bad _ rfl)
      ·refine Ev.neg g1 ?_
       by_cases g2:day > b
       ·exact Ev.pos g2 (bad _ rfl)
       ·refine Ev.neg g2 ?_
        by_cases g3:more<0
        ·exact Ev.pos g3 (bad _ rfl)
        ·refine Ev.neg g3 ?_
         have l1:=okIn_iff.mp h1
         have l2:=okIn_iff.mp h2
         have sp:=span_of h3
         have hmx:new≤mx new full∧full≤mx new full∧mx new full≤5400:=by unfold mx;split <;> omega
         rw [wrap_id (show -9223372036854775808≤5400 - mx new full∧5400 - mx new full≤9223372036854775807 by omega)]
         by_cases g4:more > 5400 - mx new full
         ·exact bad _ (decide_eq_true g4)
         ·rw [decide_eq_false g4]
          have h5:okLimit (new+more)=true:=okIn_iff.mpr (by omega)
          have h6:okLimit (full+more)=true:=okIn_iff.mpr (by omega)
          have e1:=Eclipses_ev l p q n new full a b
          have e2:=Eclipses_ev l p q n (new+more) (full+more) a b
          have e3:=Moons_ev l p q n a b
          rw [if_pos ⟨h,h1,h2,h3⟩] at e1
          rw [if_pos ⟨h,h5,h6,h3⟩] at e2
          rw [if_pos ⟨h,h3⟩] at e3
          have n1:(eclsOf l p q n new full a b).length≤(eclsOf l p q n (new+more) (full+more) a b).length:=ecl_more l p q n new full more (by omega) _
          have n2:(eclsOf l p q n (new+more) (full+more) a b).length≤((daysOf a b).flatMap (moonOn l)).length:=eclOf_length l p q n _ _ _
          have n3:=moonlist_length l h3
          have hdy:0≤day∧day≤20000:=by omega
          have b2:=node_bounds p q n day
          have hp1:=Place_ev h 1 (by have:=(ok_at h).1;omega) hdy
          refine Ev.step (fun k=>by rw [tl_SkyShadows.j0]) ?_
          rw [wrap_id (show -9223372036854775808≤new+more∧new+more≤9223372036854775807 by omega),wrap_id (show -9223372036854775808≤full+more∧full+more≤9223372036854775807 by omega)]
          refine Ev.neg (by simp) (Ev.bind e1 (Ev.bind e2 (Ev.bind e3 (Ev.bind hp1 (Ev.bind (Node_ev h hdy) ?_)))))
          refine Ev.pos rfl (Ev.pos rfl (Ev.pos rfl (Ev.pos rfl (Ev.pos rfl (Ev.neg (by simp only;omega) (Ev.neg (by simp only;omega) (Ev.neg (by simp only;omega) ?_)))))))
          refine Ev.bind (Ev.is (spot_mod _)) (Ev.pos rfl (Ev.bind (Ev.is (Spot_eq _)) ?_))
          rw [show okPlace (nodeOf p q n day,(0:Int)).1=true from okIn_iff.mpr (by simp only;omega)]
          refine Ev.step (fun k=>by rw [tl_SkyShadows.j1]) ?_
          have hx0:=Int.emod_nonneg (wayOf (rd_T83 l ((1:Nat):Int)) day) (show (21600:Int)≠0 by decide)
          have hx1:=Int.emod_lt_of_pos (wayOf (rd_T83 l ((1:Nat):Int)) day) (show (0:Int)<21600 by decide)
          rw [wrap_id (show -9223372036854775808≤(nodeOf p q n day,(0:Int)).1+10800∧(nodeOf p q n day,(0:Int)).1+10800≤9223372036854775807 by simp only;omega)]
          refine Ev.neg (by simp) (Ev.bind (Ev.is (Apart_eq ⟨hx0,hx1⟩ (by simp only;omega))) (Ev.bind (Ev.is (apart2_eq ⟨hx0,hx1⟩ (by simp only;omega))) ?_))
          simp only [far_eq]
          refine shadows_day new full day _ (by omega) (by omega) (fun m hm hday=>?_) (shadows_all (by omega) (by omega) (by omega) (fun e he=>?_) _ 0 (Nat.zero_add _)) _ 0 (Nat.zero_add _)
          ·constructor
           ·intro hin
            obtain ⟨m',-,hm'⟩:=List.mem_flatMap.mp hin
            obtain ⟨k1,k2⟩:=ecl_mem.mp hm'
            injection k2 with i1 i2 i3
            rw [← i1,← i2] at k1
            exact k1
           ·intro hle
            refine List.mem_flatMap.mpr ⟨m,hm,ecl_mem.mpr ⟨by rw [hday];exact hle,by rw [hday]⟩⟩
          ·obtain ⟨m',hm',hme⟩:=List.mem_flatMap.mp he
           obtain ⟨k1,k2⟩:=ecl_mem.mp hme
           refine ⟨List.mem_flatMap.mpr ⟨m',hm',ecl_mem.mpr ⟨more_le (by omega) k1,k2⟩⟩,m',hm',by rw [k2],by rw [k2]⟩
end Go.Proofs.YtaidphhkhddemaaGreatDoor.PSky
end
section
namespace Go.Proofs.YtaidphhkhddemaaGreatDoor
open Go.ChangeShapes Go.WideShapes Go.ChangeAt Go.RowKit
set_option maxRecDepth 100000 in
set_option maxHeartbeats 1600000 in
theorem skyShadows_lifted (os:Os) (started:os.Started) (H:Type) (enc:TypeId × Value→H) (F:Stop.Interp):
  ReturnsInHanded {} Tryz.checked os 5 .any ((OpenSpec.ofChange Rows.skyShadowsSpec).preRow enc Tryz.prog Tryz.f5 Rows.skyShadowsRow.domain false Rows.skyShadowsRow.laid) (((OpenSpec.ofChange Rows.skyShadowsSpec).at F).post enc Tryz.prog Tryz.f5 false true false false):=by
 refine returnsInHanded_of_row (C:=Tryz.checked) (s:=OpenSpec.ofChange Rows.skyShadowsSpec) own started (by kernel_rfl) Tryz.func5
  (witness_row_at (enc:=enc) (C:=Tryz.checked) false (laidWorld os) #[.agg #[.slice none 0 0,.int .i64 0,.int .i64 0,.int .i64 0],.int .i64 0,.int .i64 0,.int .i64 0,.int .i64 0,.int .i64 0,.int .i64 0] rfl (by kernel_rfl) (by kernel_rfl) (by kernel_rfl) (OpenSpec.preRow_of_B rfl 8 (by kernel_rfl) (by kernel_rfl) (laid_met os _))) ?_
 intro W base args ds gs before hval0 hW _ _ hsz0 hL hsh _
 have hval:∀ (j:Nat) t v,Tryz.f5.params[j]?=some t→args[j]?=some v→Value.okWide Tryz.prog W .any base t v:=hval0
 have hW':=hW
 obtain ⟨p,q,hA0,hV,rfl,hfz,hnd⟩:=hW
 have hA:DataW.TrodAll enc Tryz.prog W 0 (fun _=>true) true Tryz.f5.params.toList args.toList ds p:=hA0
 rw [Tryz.params5] at hA hval
 obtain ⟨v0,vs0,d0,ds0,p0,q0,hargs,rfl,rfl,h0,r0⟩:=trodAll_cons hA
 obtain ⟨v1,vs1,d1,ds1,p1,q1,rfl,rfl,rfl,h1,r1⟩:=trodAll_cons r0
 obtain ⟨v2,vs2,d2,ds2,p2,q2,rfl,rfl,rfl,h2,r2⟩:=trodAll_cons r1
 obtain ⟨v3,vs3,d3,ds3,p3,q3,rfl,rfl,rfl,h3,r3⟩:=trodAll_cons r2
 obtain ⟨v4,vs4,d4,ds4,p4,q4,rfl,rfl,rfl,h4,r4⟩:=trodAll_cons r3
 obtain ⟨v5,vs5,d5,ds5,p5,q5,rfl,rfl,rfl,h5,r5⟩:=trodAll_cons r4
 obtain ⟨v6,vs6,d6,ds6,p6,q6,rfl,rfl,rfl,h6,r6⟩:=trodAll_cons r5
 obtain ⟨rfl,rfl,rfl⟩:=trodAll_nil r6
 obtain rfl:args=#[v0,v1,v2,v3,v4,v5,v6]:=by cases args;simp_all
 obtain ⟨rfl,rfl⟩:=trodVars_none hV
 have k0:=h0
 have lt0:∀ x∈p0,x.block<W.heap.size:=by obtain ⟨m,hm⟩:=k0;exact DataW.trod_lt m _ _ _ hm
 obtain ⟨fuel0,hf0⟩:=h0
 obtain ⟨A0,c0,l0,a0,b0,e0,hcs0,hlc0,hC0⟩:=PSky.open_sky hf0
 obtain rfl:=agg_of hcs0 rfl
 obtain ⟨x1,rfl,rfl,rfl,w1⟩:=open_int Tryz.underlying3 (hval 1 3 v1 rfl rfl) h1
 obtain ⟨x2,rfl,rfl,rfl,w2⟩:=open_int Tryz.underlying3 (hval 2 3 v2 rfl rfl) h2
 obtain ⟨x3,rfl,rfl,rfl,w3⟩:=open_int Tryz.underlying3 (hval 3 3 v3 rfl rfl) h3
 obtain ⟨x4,rfl,rfl,rfl,w4⟩:=open_int Tryz.underlying3 (hval 4 3 v4 rfl rfl) h4
 obtain ⟨x5,rfl,rfl,rfl,w5⟩:=open_int Tryz.underlying3 (hval 5 3 v5 rfl rfl) h5
 obtain ⟨x6,rfl,rfl,rfl,w6⟩:=open_int Tryz.underlying3 (hval 6 3 v6 rfl rfl) h6
 obtain ⟨k,hk⟩:=(PSky.SkyShadows_ev l0 a0 b0 e0 x1 x2 x3 x4 x5 x6).rounds
 have hld:=ld_of hL hsh
 clear hA0 hval0 hsz0 hA hval hL hsh
 refine (PSky.tl_SkyShadows.calls k A0 c0 l0 a0 b0 e0 x1 x2 x3 x4 x5 x6 true W hC0 hlc0 hk hld).mono fun e W' ⟨he,bel⟩=>?_
 subst he
 exact ⟨_,rfl,_,_,_,[],_,[],hW',trodAll_mk1 (shut_bool Tryz.underlying4 _),(trodAll_cons_mk (Below.trod laidOut (by kernel_rfl) (of_decide_eq_true (by kernel_rfl)) k0 bel lt0) (trodAll_cons_mk (shut_int Tryz.underlying3 w1) (trodAll_cons_mk (shut_int Tryz.underlying3 w2) (trodAll_cons_mk (shut_int Tryz.underlying3 w3) (trodAll_cons_mk (shut_int Tryz.underlying3 w4) (trodAll_cons_mk (shut_int Tryz.underlying3 w5) (trodAll_cons_mk (shut_int Tryz.underlying3 w6) trodAll_mk0))))))),rfl,bel.frame _,fun h=>by cases h⟩
theorem skyShadows_holds:Rows.SkyShadowsSaid:=
 OpenClaim.holds_of_wide 5 Tryz.f5 rfl rfl rfl rfl rfl rfl rfl ⟨rfl,rfl,rfl,rfl,rfl⟩ rfl rfl rfl rfl rfl (by kernel_rfl) Tryz.func5 (by kernel_rfl)
  (of_decide_eq_true (by kernel_rfl)) PSky.y38_
  (fun os started H enc _=>skyShadows_lifted os started H enc (fun _ _ _=>0))
end Go.Proofs.YtaidphhkhddemaaGreatDoor
end
