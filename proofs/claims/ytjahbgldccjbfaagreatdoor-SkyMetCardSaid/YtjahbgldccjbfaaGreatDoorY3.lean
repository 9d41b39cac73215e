/- A part of the proof of a law of the layer sky. -/
import Derived.Scope
import Derived.Test.YtjahbgldccjbfaaGreatDoorY2
section
namespace Go.Proofs.YtjahbgldccjbfaaGreatDoor.PSky
open Go.RowKit Go.Proofs.YtjahbgldccjbfaaGreatDoorW.PrintWords Go.Proofs.YtjahbgldccjbfaaGreatDoorW.PrintLast Go.Proofs.YtjahbgldccjbfaaGreatDoorW.PrintMore
attribute [local go_sem] max2_int min2_int max_two min_two max_three min_three max_four min_four
set_option linter.unusedVariables false
set_option linter.unusedSimpArgs false
def sky_drift.f (l0_0:List (S74)) (a0_1:Int) (a0_2:Int) (a0_3:Int) (a1:Int):Option (Int):=(sky_month.f l0_0 a0_1 a0_2 a0_3).bind fun bt632=>(if 0<(l0_0.length:Int) then (if 1<(l0_0.length:Int) then ((sky_floor.f (wrap64 ((wrap64 ((wrap64 (2*a1))*((rd_T74 l0_0 0).f0.f0)))*(wrap64 ((wrap64 (((rd_T74 l0_0 1).f0.f1)*a0_1))+(wrap64 (a0_2*((rd_T74 l0_0 1).f0.f0))))))) (wrap64 (bt632.2*a0_1))).bind fun bt639=>((sky_floor.f (wrap64 ((mn bt639.2 (wrap64 ((wrap64 (bt632.2*a0_1)) - bt639.2)))*10800)) (wrap64 (bt632.2*a0_1))).bind fun bt641=>(some bt641.1))) else (none)) else (none))
def sky_drift.T2:Bool × List (List Nat × List Nat):=(true,[([],[]),([0],[0]),([1],[1]),([2],[2]),([3],[3]),([],[]),([5],[5]),([6],[6]),([7],[7]),([8],[8]),([],[]),([10],[10]),([11],[11]),([],[]),([],[]),([],[]),([13,4,0,1,2,3,4,13,14,15],[4,13]),([14,9,16,0,1,2,3,4,5,6,7,8,9,13,14,15,16],[9,14]),([15,12,17,0,1,2,3,4,5,6,7,8,9,10,11,12,13,14,15,16,17],[12,15])])
def sky_drift.B2:List Nat:=[0,1,3,7,15,0,32,96,224,480,0,1024,3072,0,0,0,57375,123903,262143]
theorem sky_drift.tab2:rtab .any (opsOf Tryz.f90 2)=sky_drift.T2:=by kernel_rfl
theorem sky_drift.bits2:waitsOk sky_drift.T2.2 sky_drift.B2=true:=by kernel_rfl
def sky_drift.T3:Bool × List (List Nat × List Nat):=(true,[([],[]),([0],[0]),([],[]),([2],[2]),([1,3],[1,3]),([],[]),([5],[5]),([],[]),([7],[7]),([6,8],[6,8]),([],[]),([10],[10]),([],[]),([12],[12]),([11,13],[11,13]),([9,14],[9,14]),([4,15],[4,15]),([],[]),([],[]),([18],[18]),([17,19],[17,19]),([16,0,1,2,3,4,5,6,7,8,9,10,11,12,13,14,15,16],[16]),([20,21,0,1,2,3,4,5,6,7,8,9,10,11,12,13,14,15,16,17,18,19,20,21],[20])])
def sky_drift.B3:List Nat:=[0,1,0,4,15,0,32,0,128,480,0,1024,0,4096,15360,32736,65535,0,0,262144,917504,131071,4194303]
theorem sky_drift.tab3:rtab .any (opsOf Tryz.f90 3)=sky_drift.T3:=by kernel_rfl
theorem sky_drift.bits3:waitsOk sky_drift.T3.2 sky_drift.B3=true:=by kernel_rfl
set_option maxHeartbeats 8000000 in
set_option maxRecDepth 100000 in
theorem sky_drift.calls (A0_0:Option Addr) (c0_0:Nat) (l0_0:List (S74)) (a0_1:Int) (a0_2:Int) (a0_3:Int) (a1:Int) (r:Int) (w:World) (hr0_0:Kd.C k74 w A0_0 l0_0.length l0_0) (hc0_0:l0_0.length≤c0_0) (h:sky_drift.f l0_0 a0_1 a0_2 a0_3 a1=some r):
  Calls Tryz.prog 90 #[.agg #[.slice A0_0 l0_0.length c0_0,.int .i64 a0_1,.int .i64 a0_2,.int .i64 a0_3],.int .i64 a1] w fun e w'=>e=.returned (.int .i64 r)∧Below w.heap.size w w':=by
 have hu29:=Tryz.underlying29
 have hu25:=Tryz.underlying25
 have HR0_0:=A0_ hr0_0;have HC0_0:=A0_ hc0_0;clear hr0_0 hc0_0
 have HB:=A0_ (Below.refl w.heap.size w)
 have H:((sky_month.f l0_0 a0_1 a0_2 a0_3).bind fun bt632=>(if 0<(l0_0.length:Int) then (if 1<(l0_0.length:Int) then ((sky_floor.f (wrap64 ((wrap64 ((wrap64 (2*a1))*((rd_T74 l0_0 0).f0.f0)))*(wrap64 ((wrap64 (((rd_T74 l0_0 1).f0.f1)*a0_1))+(wrap64 (a0_2*((rd_T74 l0_0 1).f0.f0))))))) (wrap64 (bt632.2*a0_1))).bind fun bt639=>((sky_floor.f (wrap64 ((mn bt639.2 (wrap64 ((wrap64 (bt632.2*a0_1)) - bt639.2)))*10800)) (wrap64 (bt632.2*a0_1))).bind fun bt641=>(some bt641.1))) else (none)) else (none)))=some r:=h
 clear h;replace H:=Option.bind_eq_some_iff.mp H
 obtain ⟨⟨t632,t633⟩,A30,H⟩:=H
 replace H:(if 0<(l0_0.length:Int) then (if 1<(l0_0.length:Int) then ((sky_floor.f (wrap64 ((wrap64 ((wrap64 (2*a1))*((rd_T74 l0_0 0).f0.f0)))*(wrap64 ((wrap64 (((rd_T74 l0_0 1).f0.f1)*a0_1))+(wrap64 (a0_2*((rd_T74 l0_0 1).f0.f0))))))) (wrap64 (t633*a0_1))).bind fun bt639=>((sky_floor.f (wrap64 ((mn bt639.2 (wrap64 ((wrap64 (t633*a0_1)) - bt639.2)))*10800)) (wrap64 (t633*a0_1))).bind fun bt641=>(some bt641.1))) else (none)) else (none))=some r:=H
 have A3:=A0_ A30;clear A30
 by_cases c4:0<(l0_0.length:Int)
 ·rw [if_pos c4] at H;have c4b0:decide (0<(l0_0.length:Int))=true:=decide_eq_true c4
  have c4b1:decide (0<l0_0.length)=true:=decide_eq_true (by omega)
  clear c4
  by_cases c5:1<(l0_0.length:Int)
  ·rw [if_pos c5] at H;have c5b0:decide (1<(l0_0.length:Int))=true:=decide_eq_true c5
   have c5b1:decide (1<l0_0.length)=true:=decide_eq_true (by omega)
   clear c5;replace H:=Option.bind_eq_some_iff.mp H
   obtain ⟨⟨t639,t640⟩,A60,H⟩:=H
   replace H:((sky_floor.f (wrap64 ((mn t640 (wrap64 ((wrap64 (t633*a0_1)) - t640)))*10800)) (wrap64 (t633*a0_1))).bind fun bt641=>(some bt641.1))=some r:=H
   have A6:=A0_ A60;clear A60
   obtain ⟨ji7,hji7⟩:∃ j_:Int,(mn t640 (wrap64 ((wrap64 (t633*a0_1)) - t640)))=j_:=⟨_,rfl⟩
   replace H:((sky_floor.f (wrap64 ((ji7)*10800)) (wrap64 (t633*a0_1))).bind fun bt641=>(some bt641.1))=some r:=by first|(rw [hji7] at H;exact H)|(simp only [hji7] at H ⊢;exact H)
   (try rw [hji7] at A3)
   (try rw [hji7] at A6)
   have hji7_:(if (wrap64 ((wrap64 (t633*a0_1)) - t640))<t640 then (wrap64 ((wrap64 (t633*a0_1)) - t640)) else t640)=ji7:=hji7
   replace H:=Option.bind_eq_some_iff.mp H
   obtain ⟨⟨t641,t642⟩,A80,H⟩:=H
   replace H:(some t641)=some r:=H
   have A8:=A0_ A80;clear A80;obtain rfl:=Option.some.inj H
   go_enter Tryz.func90,Tryz.ntmps90
   try go_wp2_with (first|((with_reducible refine gate_dst (N:=2) rfl ?_);refine box_event ?hg (N:=2) ?hd (cs:=#[.slice A0_0 l0_0.length c0_0,.int .i64 a0_1,.int .i64 a0_2,.int .i64 a0_3]) (t:=29) ?hr ?_;(case hd=>rfl);(case hg=>rfl);(case hr=>first|(go_simp;done)|(go_simp;rfl));intro gb631 hg w9 hbox hb;have n0_:=A0_ (below_step y0_ hb);have n1_:=A0_ (hbox);have n2_:=A0_ ((by rw [hg];exact (below_size y0_):w.heap.size≤gb631));have n3_:=A0_ ((by rw [hg];exact (below_size y0_):w.heap.size≤gb631));clear HB;have HB:=n0_;have BK631:=n1_;have GW631:=n2_;have GE631:=n3_;clear n0_ n1_ n2_ n3_;clear hb hbox hg;obtain ⟨hcz10_0,hcz10_1,hcz10_2,hcz10_3,hfz10_0,hfz10_1,hfz10_2,hfz10_3⟩:=bq4_ BK631.out)|((with_reducible refine gate_callee (f:=86) rfl ?_);refine goesL_ (some 18) rfl rfl Tryz.func86 (by kernel_rfl) rfl #[.agg #[.slice A0_0 l0_0.length c0_0,.int .i64 a0_1,.int .i64 a0_2,.int .i64 a0_3]] rfl y1_ ?_;(with_reducible refine (sky_month.calls _ _ l0_0 a0_1 a0_2 a0_3 t632 t633 _ ?side1 ?side2 A3.out).mono ?_);(case side1=>repeat (first|exact (Kd.C_below HR0_0.out HB.out)|(with_reducible refine Kd.C_alloc ?_ _)|(with_reducible refine Kd.C_drewN ?_ _)|(with_reducible refine Kd.C_drew ?_)));(case side2=>exact HC0_0.out);rintro e w11 ⟨rfl,hb⟩;refine ⟨_,rfl,?_⟩;have n0_:=A0_ (blk_below (g:=gb631) (o:=.cells #[.slice A0_0 l0_0.length c0_0,.int .i64 a0_1,.int .i64 a0_2,.int .i64 a0_3] 29 (0,0)) (bd_ BK631.out) hb);have n1_:=A0_ (below_step yw_ hb);clear BK631;clear HB;have BK631:=n0_;have HB:=n1_;clear n0_ n1_;(try clear hb);(try clear hb2);(try clear hk);(try clear hi)))
   have n0_:=A0_ (blk_drew BK631.out);have n1_:=A0_ (below_drew1 HB.out);clear BK631;clear HB;have BK631:=n0_;have HB:=n1_;clear n0_ n1_
   have p634:0≤(0:Int):=(by omega)
   have q634:0<(l0_0.length:Int):=of_decide_eq_true y5_
   obtain ⟨ad634,A634_3,c634_3,e634,hx634_0,hx634_1,hx634_2,hx634_3,hl634_3,hi634_3⟩:=at_T74 HR0_0.out 0 p634 q634
   have hw634_3:=hx634_3
   (try rw [show ((0:Int)).toNat=0 from rfl] at hw634_3)
   (try rw [show 0*4=0 from rfl] at hw634_3)
   (try rw [Addr.add_zero'] at hw634_3)
   have hw634_2:=hx634_2
   (try rw [show ((0:Int)).toNat=0 from rfl] at hw634_2)
   (try rw [show 0*4=0 from rfl] at hw634_2)
   (try rw [Addr.add_zero'] at hw634_2)
   have hw634_1:=hx634_1
   (try rw [show ((0:Int)).toNat=0 from rfl] at hw634_1)
   (try rw [show 0*4=0 from rfl] at hw634_1)
   (try rw [Addr.add_zero'] at hw634_1)
   have hw634_0:=hx634_0
   (try rw [show ((0:Int)).toNat=0 from rfl] at hw634_0)
   (try rw [show 0*4=0 from rfl] at hw634_0)
   (try rw [Addr.add_zero'] at hw634_0)
   cases e634
   have qi634:(0<l0_0.length)=True:=eq_true (by omega)
   (try rw [show ((0:Int)).toNat=0 from rfl] at hx634_0)
   (try rw [show 0*4=0 from rfl] at hx634_0)
   (try rw [Addr.add_zero'] at hx634_0)
   (try rw [show ((0:Int)).toNat=0 from rfl] at hx634_1)
   (try rw [show 0*4=0 from rfl] at hx634_1)
   (try rw [Addr.add_zero'] at hx634_1)
   (try rw [show ((0:Int)).toNat=0 from rfl] at hx634_2)
   (try rw [show 0*4=0 from rfl] at hx634_2)
   (try rw [Addr.add_zero'] at hx634_2)
   (try rw [show ((0:Int)).toNat=0 from rfl] at hx634_3)
   (try rw [show 0*4=0 from rfl] at hx634_3)
   (try rw [Addr.add_zero'] at hx634_3)
   replace hx634_0:=(HB.out.cell (World.block_lt_of_cell? w _ hx634_0)).trans hx634_0
   replace hx634_1:=(HB.out.cell (World.block_lt_of_cell? w _ hx634_1)).trans hx634_1
   replace hx634_2:=(HB.out.cell (World.block_lt_of_cell? w _ hx634_2)).trans hx634_2
   replace hx634_3:=(HB.out.cell (World.block_lt_of_cell? w _ hx634_3)).trans hx634_3
   have HR634_3:=A0_ hi634_3;have HC634_3:=A0_ hl634_3;clear hi634_3 hl634_3
   replace p634:=eq_true p634
   replace q634:=eq_true q634
   have p635:0≤(1:Int):=(by omega)
   have q635:1<(l0_0.length:Int):=of_decide_eq_true y5_
   obtain ⟨ad635,A635_3,c635_3,e635,hx635_0,hx635_1,hx635_2,hx635_3,hl635_3,hi635_3⟩:=at_T74 HR0_0.out 1 p635 q635
   have hw635_3:=hx635_3
   (try rw [show ((1:Int)).toNat=1 from rfl] at hw635_3)
   (try rw [show 1*4=4 from rfl] at hw635_3)
   (try simp only [Nat.reduceMul,Nat.reduceEqDiff,Go.Addr.add,↓reduceIte] at hw635_3)
   have hw635_2:=hx635_2
   (try rw [show ((1:Int)).toNat=1 from rfl] at hw635_2)
   (try rw [show 1*4=4 from rfl] at hw635_2)
   (try simp only [Nat.reduceMul,Nat.reduceEqDiff,Go.Addr.add,↓reduceIte] at hw635_2)
   have hw635_1:=hx635_1
   (try rw [show ((1:Int)).toNat=1 from rfl] at hw635_1)
   (try rw [show 1*4=4 from rfl] at hw635_1)
   (try simp only [Nat.reduceMul,Nat.reduceEqDiff,Go.Addr.add,↓reduceIte] at hw635_1)
   have hw635_0:=hx635_0
   (try rw [show ((1:Int)).toNat=1 from rfl] at hw635_0)
   (try rw [show 1*4=4 from rfl] at hw635_0)
   (try simp only [Nat.reduceMul,Nat.reduceEqDiff,Go.Addr.add,↓reduceIte] at hw635_0)
   obtain rfl:ad634=ad635:=(by injection e635)
   (try simp only [show (1:Int).toNat=1 from rfl,Nat.reduceMul,Nat.reduceEqDiff,Go.Addr.add,↓reduceIte] at hx635_0)
   (try simp only [show (1:Int).toNat=1 from rfl,Nat.reduceMul,Nat.reduceEqDiff,Go.Addr.add,↓reduceIte] at hx635_1)
   (try simp only [show (1:Int).toNat=1 from rfl,Nat.reduceMul,Nat.reduceEqDiff,Go.Addr.add,↓reduceIte] at hx635_2)
   (try simp only [show (1:Int).toNat=1 from rfl,Nat.reduceMul,Nat.reduceEqDiff,Go.Addr.add,↓reduceIte] at hx635_3)
   have qi635:(1<l0_0.length)=True:=eq_true (by omega)
   (try rw [show ((1:Int)).toNat=1 from rfl] at hx635_0)
   (try rw [show 1*4=4 from rfl] at hx635_0)
   (try rw [show ((1:Int)).toNat=1 from rfl] at hx635_1)
   (try rw [show 1*4=4 from rfl] at hx635_1)
   (try rw [show ((1:Int)).toNat=1 from rfl] at hx635_2)
   (try rw [show 1*4=4 from rfl] at hx635_2)
   (try rw [show ((1:Int)).toNat=1 from rfl] at hx635_3)
   (try rw [show 1*4=4 from rfl] at hx635_3)
   replace hx635_0:=(HB.out.cell (World.block_lt_of_cell? w _ hx635_0)).trans hx635_0
   replace hx635_1:=(HB.out.cell (World.block_lt_of_cell? w _ hx635_1)).trans hx635_1
   replace hx635_2:=(HB.out.cell (World.block_lt_of_cell? w _ hx635_2)).trans hx635_2
   replace hx635_3:=(HB.out.cell (World.block_lt_of_cell? w _ hx635_3)).trans hx635_3
   have HR635_3:=A0_ hi635_3;have HC635_3:=A0_ hl635_3;clear hi635_3 hl635_3
   replace p635:=eq_true p635
   replace q635:=eq_true q635
   refine start_ (n:=19) (S:=fun w'=>w'.cell? ⟨gb631,0,none⟩=some (.slice (some ad634) l0_0.length c0_0)∧w'.cell? ⟨gb631,1,none⟩=some (.int .i64 a0_1)∧w'.cell? ⟨gb631,2,none⟩=some (.int .i64 a0_2)∧w'.cell? ⟨gb631,3,none⟩=some (.int .i64 a0_3)∧w'.cell? ad634=some (.int .i64 ((rd_T74 l0_0 0).f0.f0))∧w'.cell? ⟨ad634.block,ad634.off+1,none⟩=some (.int .i64 ((rd_T74 l0_0 0).f0.f1))∧w'.cell? ⟨ad634.block,ad634.off+2,none⟩=some (.int .i64 ((rd_T74 l0_0 0).f1))∧w'.cell? ⟨ad634.block,ad634.off+3,none⟩=some (.slice A634_3 ((rd_T74 l0_0 0).f2).length c634_3)∧w'.cell? ⟨ad634.block,ad634.off+4,none⟩=some (.int .i64 ((rd_T74 l0_0 1).f0.f0))∧w'.cell? ⟨ad634.block,ad634.off+4+1,none⟩=some (.int .i64 ((rd_T74 l0_0 1).f0.f1))∧w'.cell? ⟨ad634.block,ad634.off+4+2,none⟩=some (.int .i64 ((rd_T74 l0_0 1).f1))∧w'.cell? ⟨ad634.block,ad634.off+4+3,none⟩=some (.slice A635_3 ((rd_T74 l0_0 1).f2).length c635_3)) (ds:=[]) #[false,false,false,false,false,false,false,false,false,false,false,false,false,false,false,false,false,false,false] (by kernel_rfl) rfl rfl ⟨(blk_cell BK631.out 0).trans rfl,(blk_cell BK631.out 1).trans rfl,(blk_cell BK631.out 2).trans rfl,(blk_cell BK631.out 3).trans rfl,((HB.out.cell (World.block_lt_of_cell? w _ hw634_0)).trans hw634_0),((HB.out.cell (World.block_lt_of_cell? w _ hw634_1)).trans hw634_1),((HB.out.cell (World.block_lt_of_cell? w _ hw634_2)).trans hw634_2),((HB.out.cell (World.block_lt_of_cell? w _ hw634_3)).trans hw634_3),((HB.out.cell (World.block_lt_of_cell? w _ hw635_0)).trans hw635_0),((HB.out.cell (World.block_lt_of_cell? w _ hw635_1)).trans hw635_1),((HB.out.cell (World.block_lt_of_cell? w _ hw635_2)).trans hw635_2),((HB.out.cell (World.block_lt_of_cell? w _ hw635_3)).trans hw635_3)⟩ (fun hHeld=>?_);refine with_tabW sky_drift.tab2 sky_drift.bits2 (fun HT_ HW_=>?_)
   generalize w11.drew=w12 at BK631 HB HR634_3 HR635_3 hx634_0 hx634_1 hx634_2 hx634_3 hx635_0 hx635_1 hx635_2 hx635_3 hHeld ⊢
   refine pu_ (i:=0) (N:=some 21) ?_;refine pu_ (i:=5) (N:=some 26) ?_;refine pu_ (i:=10) (N:=some 31) ?_;refine pu_ (i:=11) (N:=some 32) ?_;refine ta_ (i:=1) (N:=some 22) ?_;refine pu_ (i:=2) (N:=some 23) ?_;refine pu_ (i:=3) (N:=some 24) ?_;refine ta_ (i:=4) (N:=some 25) ?_;refine ta_ (i:=6) (N:=some 27) ?_;refine pu_ (i:=7) (N:=some 28) ?_;refine pu_ (i:=8) (N:=some 29) ?_;refine ta_ (i:=9) (N:=some 30) ?_;refine ta_ (i:=12) (N:=some 33) ?_
   refine join_ (σ:=Nat × Nat × Nat) 3 #[true,true,true,true,true,true,true,true,true,true,true,true,true,true,true,true,false,false,false] (fun s_=>[(7,.pointer (some ⟨s_.1,0,none⟩)),(8,.pointer (some ⟨s_.2.1,0,none⟩)),(9,.pointer (some ⟨s_.2.2,0,none⟩))]) (fun s_ w'=>(w'.cell? ⟨gb631,0,none⟩=some (.slice (some ad634) l0_0.length c0_0)∧w'.cell? ⟨gb631,1,none⟩=some (.int .i64 a0_1)∧w'.cell? ⟨gb631,2,none⟩=some (.int .i64 a0_2)∧w'.cell? ⟨gb631,3,none⟩=some (.int .i64 a0_3)∧w'.cell? ad634=some (.int .i64 ((rd_T74 l0_0 0).f0.f0))∧w'.cell? ⟨ad634.block,ad634.off+1,none⟩=some (.int .i64 ((rd_T74 l0_0 0).f0.f1))∧w'.cell? ⟨ad634.block,ad634.off+2,none⟩=some (.int .i64 ((rd_T74 l0_0 0).f1))∧w'.cell? ⟨ad634.block,ad634.off+3,none⟩=some (.slice A634_3 ((rd_T74 l0_0 0).f2).length c634_3)∧w'.cell? ⟨ad634.block,ad634.off+4,none⟩=some (.int .i64 ((rd_T74 l0_0 1).f0.f0))∧w'.cell? ⟨ad634.block,ad634.off+4+1,none⟩=some (.int .i64 ((rd_T74 l0_0 1).f0.f1))∧w'.cell? ⟨ad634.block,ad634.off+4+2,none⟩=some (.int .i64 ((rd_T74 l0_0 1).f1))∧w'.cell? ⟨ad634.block,ad634.off+4+3,none⟩=some (.slice A635_3 ((rd_T74 l0_0 1).f2).length c635_3))∧(w'.heap[gb631]?=some (.cells #[.slice (some ad634) l0_0.length c0_0,.int .i64 a0_1,.int .i64 a0_2,.int .i64 a0_3] 29 (0,0)))∧(w'.heap[s_.1]?=some (.cells #[.int .i64 0,.int .i64 0] 25 (0,0)))∧(w'.heap[s_.2.1]?=some (.cells #[.int .i64 0,.int .i64 0] 25 (0,0)))∧(w'.heap[s_.2.2]?=some (.cells #[.int .i64 0,.int .i64 0] 25 (0,0)))∧(w.heap.size≤s_.1)∧(w.heap.size≤s_.1)∧(gb631≠s_.1)∧(s_.1≠gb631)∧(s_.2.1≠s_.1)∧(s_.1≠s_.2.1)∧(s_.2.2≠s_.1)∧(s_.1≠s_.2.2)∧(w.heap.size≤s_.2.1)∧(w.heap.size≤s_.2.1)∧(gb631≠s_.2.1)∧(s_.2.1≠gb631)∧(s_.2.2≠s_.2.1)∧(s_.2.1≠s_.2.2)∧(w.heap.size≤s_.2.2)∧(w.heap.size≤s_.2.2)∧(gb631≠s_.2.2)∧(s_.2.2≠gb631)∧(Below w.heap.size w w')) ?_ ?_
   rotate_left
   ·intro hJ13_14_15
    refine join_ (σ:=Nat × Nat) 4 #[true,true,true,true,true,true,true,true,true,true,true,true,true,true,true,false,false,false,false] (fun s_=>[(7,.pointer (some ⟨s_.1,0,none⟩)),(8,.pointer (some ⟨s_.2,0,none⟩))]) (fun s_ w'=>(w'.cell? ⟨gb631,0,none⟩=some (.slice (some ad634) l0_0.length c0_0)∧w'.cell? ⟨gb631,1,none⟩=some (.int .i64 a0_1)∧w'.cell? ⟨gb631,2,none⟩=some (.int .i64 a0_2)∧w'.cell? ⟨gb631,3,none⟩=some (.int .i64 a0_3)∧w'.cell? ad634=some (.int .i64 ((rd_T74 l0_0 0).f0.f0))∧w'.cell? ⟨ad634.block,ad634.off+1,none⟩=some (.int .i64 ((rd_T74 l0_0 0).f0.f1))∧w'.cell? ⟨ad634.block,ad634.off+2,none⟩=some (.int .i64 ((rd_T74 l0_0 0).f1))∧w'.cell? ⟨ad634.block,ad634.off+3,none⟩=some (.slice A634_3 ((rd_T74 l0_0 0).f2).length c634_3)∧w'.cell? ⟨ad634.block,ad634.off+4,none⟩=some (.int .i64 ((rd_T74 l0_0 1).f0.f0))∧w'.cell? ⟨ad634.block,ad634.off+4+1,none⟩=some (.int .i64 ((rd_T74 l0_0 1).f0.f1))∧w'.cell? ⟨ad634.block,ad634.off+4+2,none⟩=some (.int .i64 ((rd_T74 l0_0 1).f1))∧w'.cell? ⟨ad634.block,ad634.off+4+3,none⟩=some (.slice A635_3 ((rd_T74 l0_0 1).f2).length c635_3))∧(w'.heap[gb631]?=some (.cells #[.slice (some ad634) l0_0.length c0_0,.int .i64 a0_1,.int .i64 a0_2,.int .i64 a0_3] 29 (0,0)))∧(w'.heap[s_.1]?=some (.cells #[.int .i64 0,.int .i64 0] 25 (0,0)))∧(w'.heap[s_.2]?=some (.cells #[.int .i64 0,.int .i64 0] 25 (0,0)))∧(w.heap.size≤s_.1)∧(w.heap.size≤s_.1)∧(gb631≠s_.1)∧(s_.1≠gb631)∧(s_.2≠s_.1)∧(s_.1≠s_.2)∧(w.heap.size≤s_.2)∧(w.heap.size≤s_.2)∧(gb631≠s_.2)∧(s_.2≠gb631)∧(Below w.heap.size w w')) ?_ ?_
    rotate_left
    ·intro hJ13_14
     refine join_ (σ:=Nat × Nat) 4 #[true,true,true,true,true,true,true,true,true,true,true,true,true,true,false,true,false,false,false] (fun s_=>[(7,.pointer (some ⟨s_.1,0,none⟩)),(9,.pointer (some ⟨s_.2,0,none⟩))]) (fun s_ w'=>(w'.cell? ⟨gb631,0,none⟩=some (.slice (some ad634) l0_0.length c0_0)∧w'.cell? ⟨gb631,1,none⟩=some (.int .i64 a0_1)∧w'.cell? ⟨gb631,2,none⟩=some (.int .i64 a0_2)∧w'.cell? ⟨gb631,3,none⟩=some (.int .i64 a0_3)∧w'.cell? ad634=some (.int .i64 ((rd_T74 l0_0 0).f0.f0))∧w'.cell? ⟨ad634.block,ad634.off+1,none⟩=some (.int .i64 ((rd_T74 l0_0 0).f0.f1))∧w'.cell? ⟨ad634.block,ad634.off+2,none⟩=some (.int .i64 ((rd_T74 l0_0 0).f1))∧w'.cell? ⟨ad634.block,ad634.off+3,none⟩=some (.slice A634_3 ((rd_T74 l0_0 0).f2).length c634_3)∧w'.cell? ⟨ad634.block,ad634.off+4,none⟩=some (.int .i64 ((rd_T74 l0_0 1).f0.f0))∧w'.cell? ⟨ad634.block,ad634.off+4+1,none⟩=some (.int .i64 ((rd_T74 l0_0 1).f0.f1))∧w'.cell? ⟨ad634.block,ad634.off+4+2,none⟩=some (.int .i64 ((rd_T74 l0_0 1).f1))∧w'.cell? ⟨ad634.block,ad634.off+4+3,none⟩=some (.slice A635_3 ((rd_T74 l0_0 1).f2).length c635_3))∧(w'.heap[gb631]?=some (.cells #[.slice (some ad634) l0_0.length c0_0,.int .i64 a0_1,.int .i64 a0_2,.int .i64 a0_3] 29 (0,0)))∧(w'.heap[s_.1]?=some (.cells #[.int .i64 0,.int .i64 0] 25 (0,0)))∧(w'.heap[s_.2]?=some (.cells #[.int .i64 0,.int .i64 0] 25 (0,0)))∧(w.heap.size≤s_.1)∧(w.heap.size≤s_.1)∧(gb631≠s_.1)∧(s_.1≠gb631)∧(s_.2≠s_.1)∧(s_.1≠s_.2)∧(w.heap.size≤s_.2)∧(w.heap.size≤s_.2)∧(gb631≠s_.2)∧(s_.2≠gb631)∧(Below w.heap.size w w')) ?_ ?_
     rotate_left
     ·intro hJ13_15
      refine join_ (σ:=Nat × Nat) 4 #[true,true,true,true,true,true,true,true,true,true,true,true,true,false,true,true,false,false,false] (fun s_=>[(8,.pointer (some ⟨s_.1,0,none⟩)),(9,.pointer (some ⟨s_.2,0,none⟩))]) (fun s_ w'=>(w'.cell? ⟨gb631,0,none⟩=some (.slice (some ad634) l0_0.length c0_0)∧w'.cell? ⟨gb631,1,none⟩=some (.int .i64 a0_1)∧w'.cell? ⟨gb631,2,none⟩=some (.int .i64 a0_2)∧w'.cell? ⟨gb631,3,none⟩=some (.int .i64 a0_3)∧w'.cell? ad634=some (.int .i64 ((rd_T74 l0_0 0).f0.f0))∧w'.cell? ⟨ad634.block,ad634.off+1,none⟩=some (.int .i64 ((rd_T74 l0_0 0).f0.f1))∧w'.cell? ⟨ad634.block,ad634.off+2,none⟩=some (.int .i64 ((rd_T74 l0_0 0).f1))∧w'.cell? ⟨ad634.block,ad634.off+3,none⟩=some (.slice A634_3 ((rd_T74 l0_0 0).f2).length c634_3)∧w'.cell? ⟨ad634.block,ad634.off+4,none⟩=some (.int .i64 ((rd_T74 l0_0 1).f0.f0))∧w'.cell? ⟨ad634.block,ad634.off+4+1,none⟩=some (.int .i64 ((rd_T74 l0_0 1).f0.f1))∧w'.cell? ⟨ad634.block,ad634.off+4+2,none⟩=some (.int .i64 ((rd_T74 l0_0 1).f1))∧w'.cell? ⟨ad634.block,ad634.off+4+3,none⟩=some (.slice A635_3 ((rd_T74 l0_0 1).f2).length c635_3))∧(w'.heap[gb631]?=some (.cells #[.slice (some ad634) l0_0.length c0_0,.int .i64 a0_1,.int .i64 a0_2,.int .i64 a0_3] 29 (0,0)))∧(w'.heap[s_.1]?=some (.cells #[.int .i64 0,.int .i64 0] 25 (0,0)))∧(w'.heap[s_.2]?=some (.cells #[.int .i64 0,.int .i64 0] 25 (0,0)))∧(w.heap.size≤s_.1)∧(w.heap.size≤s_.1)∧(gb631≠s_.1)∧(s_.1≠gb631)∧(s_.2≠s_.1)∧(s_.1≠s_.2)∧(w.heap.size≤s_.2)∧(w.heap.size≤s_.2)∧(gb631≠s_.2)∧(s_.2≠gb631)∧(Below w.heap.size w w')) ?_ ?_
      rotate_left
      ·intro hJ14_15
       refine join_ (σ:=Nat) 5 #[true,true,true,true,true,true,true,true,true,true,true,true,true,true,false,false,false,false,false] (fun s_=>[(7,.pointer (some ⟨s_,0,none⟩))]) (fun s_ w'=>(w'.cell? ⟨gb631,0,none⟩=some (.slice (some ad634) l0_0.length c0_0)∧w'.cell? ⟨gb631,1,none⟩=some (.int .i64 a0_1)∧w'.cell? ⟨gb631,2,none⟩=some (.int .i64 a0_2)∧w'.cell? ⟨gb631,3,none⟩=some (.int .i64 a0_3)∧w'.cell? ad634=some (.int .i64 ((rd_T74 l0_0 0).f0.f0))∧w'.cell? ⟨ad634.block,ad634.off+1,none⟩=some (.int .i64 ((rd_T74 l0_0 0).f0.f1))∧w'.cell? ⟨ad634.block,ad634.off+2,none⟩=some (.int .i64 ((rd_T74 l0_0 0).f1))∧w'.cell? ⟨ad634.block,ad634.off+3,none⟩=some (.slice A634_3 ((rd_T74 l0_0 0).f2).length c634_3)∧w'.cell? ⟨ad634.block,ad634.off+4,none⟩=some (.int .i64 ((rd_T74 l0_0 1).f0.f0))∧w'.cell? ⟨ad634.block,ad634.off+4+1,none⟩=some (.int .i64 ((rd_T74 l0_0 1).f0.f1))∧w'.cell? ⟨ad634.block,ad634.off+4+2,none⟩=some (.int .i64 ((rd_T74 l0_0 1).f1))∧w'.cell? ⟨ad634.block,ad634.off+4+3,none⟩=some (.slice A635_3 ((rd_T74 l0_0 1).f2).length c635_3))∧(w'.heap[gb631]?=some (.cells #[.slice (some ad634) l0_0.length c0_0,.int .i64 a0_1,.int .i64 a0_2,.int .i64 a0_3] 29 (0,0)))∧(w'.heap[s_]?=some (.cells #[.int .i64 0,.int .i64 0] 25 (0,0)))∧(w.heap.size≤s_)∧(w.heap.size≤s_)∧(gb631≠s_)∧(s_≠gb631)∧(Below w.heap.size w w')) ?_ ?_
       rotate_left
       ·intro hJ13
        refine join_ (σ:=Nat) 5 #[true,true,true,true,true,true,true,true,true,true,true,true,true,false,true,false,false,false,false] (fun s_=>[(8,.pointer (some ⟨s_,0,none⟩))]) (fun s_ w'=>(w'.cell? ⟨gb631,0,none⟩=some (.slice (some ad634) l0_0.length c0_0)∧w'.cell? ⟨gb631,1,none⟩=some (.int .i64 a0_1)∧w'.cell? ⟨gb631,2,none⟩=some (.int .i64 a0_2)∧w'.cell? ⟨gb631,3,none⟩=some (.int .i64 a0_3)∧w'.cell? ad634=some (.int .i64 ((rd_T74 l0_0 0).f0.f0))∧w'.cell? ⟨ad634.block,ad634.off+1,none⟩=some (.int .i64 ((rd_T74 l0_0 0).f0.f1))∧w'.cell? ⟨ad634.block,ad634.off+2,none⟩=some (.int .i64 ((rd_T74 l0_0 0).f1))∧w'.cell? ⟨ad634.block,ad634.off+3,none⟩=some (.slice A634_3 ((rd_T74 l0_0 0).f2).length c634_3)∧w'.cell? ⟨ad634.block,ad634.off+4,none⟩=some (.int .i64 ((rd_T74 l0_0 1).f0.f0))∧w'.cell? ⟨ad634.block,ad634.off+4+1,none⟩=some (.int .i64 ((rd_T74 l0_0 1).f0.f1))∧w'.cell? ⟨ad634.block,ad634.off+4+2,none⟩=some (.int .i64 ((rd_T74 l0_0 1).f1))∧w'.cell? ⟨ad634.block,ad634.off+4+3,none⟩=some (.slice A635_3 ((rd_T74 l0_0 1).f2).length c635_3))∧(w'.heap[gb631]?=some (.cells #[.slice (some ad634) l0_0.length c0_0,.int .i64 a0_1,.int .i64 a0_2,.int .i64 a0_3] 29 (0,0)))∧(w'.heap[s_]?=some (.cells #[.int .i64 0,.int .i64 0] 25 (0,0)))∧(w.heap.size≤s_)∧(w.heap.size≤s_)∧(gb631≠s_)∧(s_≠gb631)∧(Below w.heap.size w w')) ?_ ?_
        rotate_left
        ·intro hJ14
         refine join_ (σ:=Nat) 5 #[true,true,true,true,true,true,true,true,true,true,true,true,true,false,false,true,false,false,false] (fun s_=>[(9,.pointer (some ⟨s_,0,none⟩))]) (fun s_ w'=>(w'.cell? ⟨gb631,0,none⟩=some (.slice (some ad634) l0_0.length c0_0)∧w'.cell? ⟨gb631,1,none⟩=some (.int .i64 a0_1)∧w'.cell? ⟨gb631,2,none⟩=some (.int .i64 a0_2)∧w'.cell? ⟨gb631,3,none⟩=some (.int .i64 a0_3)∧w'.cell? ad634=some (.int .i64 ((rd_T74 l0_0 0).f0.f0))∧w'.cell? ⟨ad634.block,ad634.off+1,none⟩=some (.int .i64 ((rd_T74 l0_0 0).f0.f1))∧w'.cell? ⟨ad634.block,ad634.off+2,none⟩=some (.int .i64 ((rd_T74 l0_0 0).f1))∧w'.cell? ⟨ad634.block,ad634.off+3,none⟩=some (.slice A634_3 ((rd_T74 l0_0 0).f2).length c634_3)∧w'.cell? ⟨ad634.block,ad634.off+4,none⟩=some (.int .i64 ((rd_T74 l0_0 1).f0.f0))∧w'.cell? ⟨ad634.block,ad634.off+4+1,none⟩=some (.int .i64 ((rd_T74 l0_0 1).f0.f1))∧w'.cell? ⟨ad634.block,ad634.off+4+2,none⟩=some (.int .i64 ((rd_T74 l0_0 1).f1))∧w'.cell? ⟨ad634.block,ad634.off+4+3,none⟩=some (.slice A635_3 ((rd_T74 l0_0 1).f2).length c635_3))∧(w'.heap[gb631]?=some (.cells #[.slice (some ad634) l0_0.length c0_0,.int .i64 a0_1,.int .i64 a0_2,.int .i64 a0_3] 29 (0,0)))∧(w'.heap[s_]?=some (.cells #[.int .i64 0,.int .i64 0] 25 (0,0)))∧(w.heap.size≤s_)∧(w.heap.size≤s_)∧(gb631≠s_)∧(s_≠gb631)∧(Below w.heap.size w w')) ?_ ?_
         rotate_left
         ·intro hJ15
          refine three_ (i:=13) (j:=14) (k:=15) (Ni:=some 7) (Nj:=some 8) (Nk:=some 9) #[true,true,true,true,true,true,true,true,true,true,true,true,true,true,false,false,false,false,false] #[true,true,true,true,true,true,true,true,true,true,true,true,true,false,true,false,false,false,false] #[true,true,true,true,true,true,true,true,true,true,true,true,true,false,false,true,false,false,false] rfl rfl rfl rfl rfl rfl (three_of HT_.out (by kernel_rfl)) (by decide) (by decide) (by decide) (fun K hK=>?_) (fun K hK=>?_) (fun K hK=>?_)
          ·skip
           refine box_step ?hg (N:=7) ?hd (cs:=#[.int .i64 0,.int .i64 0]) (t:=25) ?hr ?_;(case hd=>rfl);(case hg=>rfl);(case hr=>first|(go_simp;done)|(go_simp;rfl))
           intro gb636 hg w13 hbox hb
           have n0_:=A0_ (blk_below (g:=gb631) (o:=.cells #[.slice (some ad634) l0_0.length c0_0,.int .i64 a0_1,.int .i64 a0_2,.int .i64 a0_3] 29 (0,0)) (bd_ BK631.out) hb);have n1_:=A0_ (below_step yw_ hb);have n2_:=A0_ (hbox)
           have n3_:=A0_ ((by rw [hg];exact (below_size yw_):w.heap.size≤gb636))
           have n4_:=A0_ ((by rw [hg];exact (below_size yw_):w.heap.size≤gb636))
           have n5_:=A0_ ((by rw [hg];exact Nat.ne_of_lt (blk_lt (g:=gb631) (o:=.cells #[.slice (some ad634) l0_0.length c0_0,.int .i64 a0_1,.int .i64 a0_2,.int .i64 a0_3] 29 (0,0)) (bd_ BK631.out)):gb631≠gb636))
           have n6_:=A0_ ((by rw [hg];exact Nat.ne_of_gt (blk_lt (g:=gb631) (o:=.cells #[.slice (some ad634) l0_0.length c0_0,.int .i64 a0_1,.int .i64 a0_2,.int .i64 a0_3] 29 (0,0)) (bd_ BK631.out)):gb636≠gb631))
           clear BK631;clear HB;have BK631:=n0_;have HB:=n1_;have BK636:=n2_;have GW636:=n3_;have GE636:=n4_;have NB631_636:=n5_;have NB636_631:=n6_;clear n0_ n1_ n2_ n3_ n4_ n5_ n6_;clear hb hbox hg
           refine hK.out _ _ ⟨(blk_cell BK631.out 0).trans rfl,(blk_cell BK631.out 1).trans rfl,(blk_cell BK631.out 2).trans rfl,(blk_cell BK631.out 3).trans rfl,((HB.out.cell (World.block_lt_of_cell? w _ hw634_0)).trans hw634_0),((HB.out.cell (World.block_lt_of_cell? w _ hw634_1)).trans hw634_1),((HB.out.cell (World.block_lt_of_cell? w _ hw634_2)).trans hw634_2),((HB.out.cell (World.block_lt_of_cell? w _ hw634_3)).trans hw634_3),((HB.out.cell (World.block_lt_of_cell? w _ hw635_0)).trans hw635_0),((HB.out.cell (World.block_lt_of_cell? w _ hw635_1)).trans hw635_1),((HB.out.cell (World.block_lt_of_cell? w _ hw635_2)).trans hw635_2),((HB.out.cell (World.block_lt_of_cell? w _ hw635_3)).trans hw635_3)⟩ (fun hHeld=>?_)
           clear hK K
           refine norm_ (a':=?_) ?_ ?_
           rotate_left
           ·show Act.put _ (some 7) _=_
            simp only [Act.put,List.setIfInBounds_toArray,List.set_cons_zero,List.set_cons_succ,i64_w,i32_w]
            rfl
           exact norm_ yd_ (hJ13 (gb636) _ ⟨hHeld,(bd_ BK631.out),(bd_ BK636.out),GW636.out,GE636.out,NB631_636.out,NB636_631.out,y16_⟩)
          ·skip
           refine box_step ?hg (N:=8) ?hd (cs:=#[.int .i64 0,.int .i64 0]) (t:=25) ?hr ?_;(case hd=>rfl);(case hg=>rfl);(case hr=>first|(go_simp;done)|(go_simp;rfl))
           intro gb637 hg w13 hbox hb
           have n0_:=A0_ (blk_below (g:=gb631) (o:=.cells #[.slice (some ad634) l0_0.length c0_0,.int .i64 a0_1,.int .i64 a0_2,.int .i64 a0_3] 29 (0,0)) (bd_ BK631.out) hb);have n1_:=A0_ (below_step yw_ hb);have n2_:=A0_ (hbox)
           have n3_:=A0_ ((by rw [hg];exact (below_size yw_):w.heap.size≤gb637))
           have n4_:=A0_ ((by rw [hg];exact (below_size yw_):w.heap.size≤gb637))
           have n5_:=A0_ ((by rw [hg];exact Nat.ne_of_lt (blk_lt (g:=gb631) (o:=.cells #[.slice (some ad634) l0_0.length c0_0,.int .i64 a0_1,.int .i64 a0_2,.int .i64 a0_3] 29 (0,0)) (bd_ BK631.out)):gb631≠gb637))
           have n6_:=A0_ ((by rw [hg];exact Nat.ne_of_gt (blk_lt (g:=gb631) (o:=.cells #[.slice (some ad634) l0_0.length c0_0,.int .i64 a0_1,.int .i64 a0_2,.int .i64 a0_3] 29 (0,0)) (bd_ BK631.out)):gb637≠gb631))
           clear BK631;clear HB;have BK631:=n0_;have HB:=n1_;have BK637:=n2_;have GW637:=n3_;have GE637:=n4_;have NB631_637:=n5_;have NB637_631:=n6_;clear n0_ n1_ n2_ n3_ n4_ n5_ n6_;clear hb hbox hg
           refine hK.out _ _ ⟨(blk_cell BK631.out 0).trans rfl,(blk_cell BK631.out 1).trans rfl,(blk_cell BK631.out 2).trans rfl,(blk_cell BK631.out 3).trans rfl,((HB.out.cell (World.block_lt_of_cell? w _ hw634_0)).trans hw634_0),((HB.out.cell (World.block_lt_of_cell? w _ hw634_1)).trans hw634_1),((HB.out.cell (World.block_lt_of_cell? w _ hw634_2)).trans hw634_2),((HB.out.cell (World.block_lt_of_cell? w _ hw634_3)).trans hw634_3),((HB.out.cell (World.block_lt_of_cell? w _ hw635_0)).trans hw635_0),((HB.out.cell (World.block_lt_of_cell? w _ hw635_1)).trans hw635_1),((HB.out.cell (World.block_lt_of_cell? w _ hw635_2)).trans hw635_2),((HB.out.cell (World.block_lt_of_cell? w _ hw635_3)).trans hw635_3)⟩ (fun hHeld=>?_)
           clear hK K
           refine norm_ (a':=?_) ?_ ?_
           rotate_left
           ·show Act.put _ (some 8) _=_
            simp only [Act.put,List.setIfInBounds_toArray,List.set_cons_zero,List.set_cons_succ,i64_w,i32_w]
            rfl
           exact norm_ yd_ (hJ14 (gb637) _ ⟨hHeld,(bd_ BK631.out),(bd_ BK637.out),GW637.out,GE637.out,NB631_637.out,NB637_631.out,y15_⟩)
          ·skip
           refine box_step ?hg (N:=9) ?hd (cs:=#[.int .i64 0,.int .i64 0]) (t:=25) ?hr ?_;(case hd=>rfl);(case hg=>rfl);(case hr=>first|(go_simp;done)|(go_simp;rfl))
           intro gb638 hg w13 hbox hb
           have n0_:=A0_ (blk_below (g:=gb631) (o:=.cells #[.slice (some ad634) l0_0.length c0_0,.int .i64 a0_1,.int .i64 a0_2,.int .i64 a0_3] 29 (0,0)) (bd_ BK631.out) hb);have n1_:=A0_ (below_step yw_ hb);have n2_:=A0_ (hbox)
           have n3_:=A0_ ((by rw [hg];exact (below_size yw_):w.heap.size≤gb638))
           have n4_:=A0_ ((by rw [hg];exact (below_size yw_):w.heap.size≤gb638))
           have n5_:=A0_ ((by rw [hg];exact Nat.ne_of_lt (blk_lt (g:=gb631) (o:=.cells #[.slice (some ad634) l0_0.length c0_0,.int .i64 a0_1,.int .i64 a0_2,.int .i64 a0_3] 29 (0,0)) (bd_ BK631.out)):gb631≠gb638))
           have n6_:=A0_ ((by rw [hg];exact Nat.ne_of_gt (blk_lt (g:=gb631) (o:=.cells #[.slice (some ad634) l0_0.length c0_0,.int .i64 a0_1,.int .i64 a0_2,.int .i64 a0_3] 29 (0,0)) (bd_ BK631.out)):gb638≠gb631))
           clear BK631;clear HB;have BK631:=n0_;have HB:=n1_;have BK638:=n2_;have GW638:=n3_;have GE638:=n4_;have NB631_638:=n5_;have NB638_631:=n6_;clear n0_ n1_ n2_ n3_ n4_ n5_ n6_;clear hb hbox hg
           refine hK.out _ _ ⟨(blk_cell BK631.out 0).trans rfl,(blk_cell BK631.out 1).trans rfl,(blk_cell BK631.out 2).trans rfl,(blk_cell BK631.out 3).trans rfl,((HB.out.cell (World.block_lt_of_cell? w _ hw634_0)).trans hw634_0),((HB.out.cell (World.block_lt_of_cell? w _ hw634_1)).trans hw634_1),((HB.out.cell (World.block_lt_of_cell? w _ hw634_2)).trans hw634_2),((HB.out.cell (World.block_lt_of_cell? w _ hw634_3)).trans hw634_3),((HB.out.cell (World.block_lt_of_cell? w _ hw635_0)).trans hw635_0),((HB.out.cell (World.block_lt_of_cell? w _ hw635_1)).trans hw635_1),((HB.out.cell (World.block_lt_of_cell? w _ hw635_2)).trans hw635_2),((HB.out.cell (World.block_lt_of_cell? w _ hw635_3)).trans hw635_3)⟩ (fun hHeld=>?_)
           clear hK K
           refine norm_ (a':=?_) ?_ ?_
           rotate_left
           ·show Act.put _ (some 9) _=_
            simp only [Act.put,List.setIfInBounds_toArray,List.set_cons_zero,List.set_cons_succ,i64_w,i32_w]
            rfl
           exact norm_ yd_ (hJ15 (gb638) _ ⟨hHeld,(bd_ BK631.out),(bd_ BK638.out),GW638.out,GE638.out,NB631_638.out,NB638_631.out,y14_⟩)
         ·skip
          rintro gb638 w14 ⟨hS_,h0_,h1_,h2_,h3_,h4_,h5_,h6_⟩
          have n0_:Aside0 (w14.heap[gb631]?=some (.cells #[.slice (some ad634) l0_0.length c0_0,.int .i64 a0_1,.int .i64 a0_2,.int .i64 a0_3] 29 (0,0))):=⟨h0_⟩
          have n1_:Aside0 (w14.heap[gb638]?=some (.cells #[.int .i64 0,.int .i64 0] 25 (0,0))):=⟨h1_⟩
          have n2_:Aside0 (w.heap.size≤gb638):=⟨h2_⟩
          have n3_:Aside0 (w.heap.size≤gb638):=⟨h3_⟩
          have n4_:Aside0 (gb631≠gb638):=⟨h4_⟩
          have n5_:Aside0 (gb638≠gb631):=⟨h5_⟩
          have n6_:Aside0 (Below w.heap.size w w14):=⟨h6_⟩
          clear BK631;clear HB;clear h0_ h1_ h2_ h3_ h4_ h5_ h6_;have BK631:=n0_;have BK638:=n1_;have GW638:=n2_;have GE638:=n3_;have NB631_638:=n4_;have NB638_631:=n5_;have HB:=n6_;clear n0_ n1_ n2_ n3_ n4_ n5_ n6_
          have hHeld:w14.cell? ⟨gb631,0,none⟩=some (.slice (some ad634) l0_0.length c0_0)∧w14.cell? ⟨gb631,1,none⟩=some (.int .i64 a0_1)∧w14.cell? ⟨gb631,2,none⟩=some (.int .i64 a0_2)∧w14.cell? ⟨gb631,3,none⟩=some (.int .i64 a0_3)∧w14.cell? ad634=some (.int .i64 ((rd_T74 l0_0 0).f0.f0))∧w14.cell? ⟨ad634.block,ad634.off+1,none⟩=some (.int .i64 ((rd_T74 l0_0 0).f0.f1))∧w14.cell? ⟨ad634.block,ad634.off+2,none⟩=some (.int .i64 ((rd_T74 l0_0 0).f1))∧w14.cell? ⟨ad634.block,ad634.off+3,none⟩=some (.slice A634_3 ((rd_T74 l0_0 0).f2).length c634_3)∧w14.cell? ⟨ad634.block,ad634.off+4,none⟩=some (.int .i64 ((rd_T74 l0_0 1).f0.f0))∧w14.cell? ⟨ad634.block,ad634.off+4+1,none⟩=some (.int .i64 ((rd_T74 l0_0 1).f0.f1))∧w14.cell? ⟨ad634.block,ad634.off+4+2,none⟩=some (.int .i64 ((rd_T74 l0_0 1).f1))∧w14.cell? ⟨ad634.block,ad634.off+4+3,none⟩=some (.slice A635_3 ((rd_T74 l0_0 1).f2).length c635_3):=hS_
          refine norm_ (a':=?_) ?_ ?_
          rotate_left
          ·simp only [putAll,Act.put,List.setIfInBounds_toArray,List.set_cons_zero,List.set_cons_succ]
           rfl
          refine two_ (i:=13) (j:=14) (Ni:=some 7) (Nj:=some 8) #[true,true,true,true,true,true,true,true,true,true,true,true,true,true,false,true,false,false,false] #[true,true,true,true,true,true,true,true,true,true,true,true,true,false,true,true,false,false,false] rfl rfl rfl rfl (two_of HT_.out (by kernel_rfl)) (by decide) (by decide) (fun K hK=>?_) (fun K hK=>?_)
          ·skip
           refine box_step ?hg (N:=7) ?hd (cs:=#[.int .i64 0,.int .i64 0]) (t:=25) ?hr ?_;(case hd=>rfl);(case hg=>rfl);(case hr=>first|(go_simp;done)|(go_simp;rfl))
           intro gb636 hg w15 hbox hb
           have n0_:=A0_ (blk_below (g:=gb631) (o:=.cells #[.slice (some ad634) l0_0.length c0_0,.int .i64 a0_1,.int .i64 a0_2,.int .i64 a0_3] 29 (0,0)) (bd_ BK631.out) hb);have n1_:=A0_ (blk_below (g:=gb638) (o:=.cells #[.int .i64 0,.int .i64 0] 25 (0,0)) (bd_ BK638.out) hb);have n2_:=A0_ (below_step y14_ hb);have n3_:=A0_ (hbox)
           have n4_:=A0_ ((by rw [hg];exact (below_size y14_):w.heap.size≤gb636))
           have n5_:=A0_ ((by rw [hg];exact (below_size y14_):w.heap.size≤gb636))
           have n6_:=A0_ ((by rw [hg];exact Nat.ne_of_lt (blk_lt (g:=gb631) (o:=.cells #[.slice (some ad634) l0_0.length c0_0,.int .i64 a0_1,.int .i64 a0_2,.int .i64 a0_3] 29 (0,0)) (bd_ BK631.out)):gb631≠gb636))
           have n7_:=A0_ ((by rw [hg];exact Nat.ne_of_gt (blk_lt (g:=gb631) (o:=.cells #[.slice (some ad634) l0_0.length c0_0,.int .i64 a0_1,.int .i64 a0_2,.int .i64 a0_3] 29 (0,0)) (bd_ BK631.out)):gb636≠gb631))
           have n8_:=A0_ ((by rw [hg];exact Nat.ne_of_lt (blk_lt (g:=gb638) (o:=.cells #[.int .i64 0,.int .i64 0] 25 (0,0)) (bd_ BK638.out)):gb638≠gb636))
           have n9_:=A0_ ((by rw [hg];exact Nat.ne_of_gt (blk_lt (g:=gb638) (o:=.cells #[.int .i64 0,.int .i64 0] 25 (0,0)) (bd_ BK638.out)):gb636≠gb638))
           clear BK631;clear BK638;clear HB;have BK631:=n0_;have BK638:=n1_;have HB:=n2_;have BK636:=n3_;have GW636:=n4_;have GE636:=n5_;have NB631_636:=n6_;have NB636_631:=n7_;have NB638_636:=n8_;have NB636_638:=n9_;clear n0_ n1_ n2_ n3_ n4_ n5_ n6_ n7_ n8_ n9_;clear hb hbox hg
           refine hK.out _ _ ⟨(blk_cell BK631.out 0).trans rfl,(blk_cell BK631.out 1).trans rfl,(blk_cell BK631.out 2).trans rfl,(blk_cell BK631.out 3).trans rfl,((HB.out.cell (World.block_lt_of_cell? w _ hw634_0)).trans hw634_0),((HB.out.cell (World.block_lt_of_cell? w _ hw634_1)).trans hw634_1),((HB.out.cell (World.block_lt_of_cell? w _ hw634_2)).trans hw634_2),((HB.out.cell (World.block_lt_of_cell? w _ hw634_3)).trans hw634_3),((HB.out.cell (World.block_lt_of_cell? w _ hw635_0)).trans hw635_0),((HB.out.cell (World.block_lt_of_cell? w _ hw635_1)).trans hw635_1),((HB.out.cell (World.block_lt_of_cell? w _ hw635_2)).trans hw635_2),((HB.out.cell (World.block_lt_of_cell? w _ hw635_3)).trans hw635_3)⟩ (fun hHeld=>?_)
           clear hK K
           refine norm_ (a':=?_) ?_ ?_
           rotate_left
           ·show Act.put _ (some 7) _=_
            simp only [Act.put,List.setIfInBounds_toArray,List.set_cons_zero,List.set_cons_succ,i64_w,i32_w]
            rfl
           exact norm_ yd_ (hJ13_15 (gb636,gb638) _ ⟨hHeld,(bd_ BK631.out),(bd_ BK636.out),(bd_ BK638.out),GW636.out,GE636.out,NB631_636.out,NB636_631.out,NB638_636.out,NB636_638.out,GW638.out,GE638.out,NB631_638.out,NB638_631.out,(by repeat (first|(with_reducible first|exact HB.out|apply below_alloc|apply pw_below_drewN|apply below_drew1|refine below_set ?_ GE631.out|refine below_set ?_ GE638.out|refine below_set ?_ GE636.out)|exact HB.out))⟩)
          ·skip
           refine box_step ?hg (N:=8) ?hd (cs:=#[.int .i64 0,.int .i64 0]) (t:=25) ?hr ?_;(case hd=>rfl);(case hg=>rfl);(case hr=>first|(go_simp;done)|(go_simp;rfl))
           intro gb637 hg w15 hbox hb
           have n0_:=A0_ (blk_below (g:=gb631) (o:=.cells #[.slice (some ad634) l0_0.length c0_0,.int .i64 a0_1,.int .i64 a0_2,.int .i64 a0_3] 29 (0,0)) (bd_ BK631.out) hb);have n1_:=A0_ (blk_below (g:=gb638) (o:=.cells #[.int .i64 0,.int .i64 0] 25 (0,0)) (bd_ BK638.out) hb);have n2_:=A0_ (below_step y14_ hb);have n3_:=A0_ (hbox)
           have n4_:=A0_ ((by rw [hg];exact (below_size y14_):w.heap.size≤gb637))
           have n5_:=A0_ ((by rw [hg];exact (below_size y14_):w.heap.size≤gb637))
           have n6_:=A0_ ((by rw [hg];exact Nat.ne_of_lt (blk_lt (g:=gb631) (o:=.cells #[.slice (some ad634) l0_0.length c0_0,.int .i64 a0_1,.int .i64 a0_2,.int .i64 a0_3] 29 (0,0)) (bd_ BK631.out)):gb631≠gb637))
           have n7_:=A0_ ((by rw [hg];exact Nat.ne_of_gt (blk_lt (g:=gb631) (o:=.cells #[.slice (some ad634) l0_0.length c0_0,.int .i64 a0_1,.int .i64 a0_2,.int .i64 a0_3] 29 (0,0)) (bd_ BK631.out)):gb637≠gb631))
           have n8_:=A0_ ((by rw [hg];exact Nat.ne_of_lt (blk_lt (g:=gb638) (o:=.cells #[.int .i64 0,.int .i64 0] 25 (0,0)) (bd_ BK638.out)):gb638≠gb637))
           have n9_:=A0_ ((by rw [hg];exact Nat.ne_of_gt (blk_lt (g:=gb638) (o:=.cells #[.int .i64 0,.int .i64 0] 25 (0,0)) (bd_ BK638.out)):gb637≠gb638))
           clear BK631;clear BK638;clear HB;have BK631:=n0_;have BK638:=n1_;have HB:=n2_;have BK637:=n3_;have GW637:=n4_;have GE637:=n5_;have NB631_637:=n6_;have NB637_631:=n7_;have NB638_637:=n8_;have NB637_638:=n9_;clear n0_ n1_ n2_ n3_ n4_ n5_ n6_ n7_ n8_ n9_;clear hb hbox hg
           refine hK.out _ _ ⟨(blk_cell BK631.out 0).trans rfl,(blk_cell BK631.out 1).trans rfl,(blk_cell BK631.out 2).trans rfl,(blk_cell BK631.out 3).trans rfl,((HB.out.cell (World.block_lt_of_cell? w _ hw634_0)).trans hw634_0),((HB.out.cell (World.block_lt_of_cell? w _ hw634_1)).trans hw634_1),((HB.out.cell (World.block_lt_of_cell? w _ hw634_2)).trans hw634_2),((HB.out.cell (World.block_lt_of_cell? w _ hw634_3)).trans hw634_3),((HB.out.cell (World.block_lt_of_cell? w _ hw635_0)).trans hw635_0),((HB.out.cell (World.block_lt_of_cell? w _ hw635_1)).trans hw635_1),((HB.out.cell (World.block_lt_of_cell? w _ hw635_2)).trans hw635_2),((HB.out.cell (World.block_lt_of_cell? w _ hw635_3)).trans hw635_3)⟩ (fun hHeld=>?_)
           clear hK K
           refine norm_ (a':=?_) ?_ ?_
           rotate_left
           ·show Act.put _ (some 8) _=_
            simp only [Act.put,List.setIfInBounds_toArray,List.set_cons_zero,List.set_cons_succ,i64_w,i32_w]
            rfl
           exact norm_ yd_ (hJ14_15 (gb637,gb638) _ ⟨hHeld,(bd_ BK631.out),(bd_ BK637.out),(bd_ BK638.out),GW637.out,GE637.out,NB631_637.out,NB637_631.out,NB638_637.out,NB637_638.out,GW638.out,GE638.out,NB631_638.out,NB638_631.out,(by repeat (first|(with_reducible first|exact HB.out|apply below_alloc|apply pw_below_drewN|apply below_drew1|refine below_set ?_ GE631.out|refine below_set ?_ GE638.out|refine below_set ?_ GE637.out)|exact HB.out))⟩)
        ·skip
         rintro gb637 w14 ⟨hS_,h0_,h1_,h2_,h3_,h4_,h5_,h6_⟩
         have n0_:Aside0 (w14.heap[gb631]?=some (.cells #[.slice (some ad634) l0_0.length c0_0,.int .i64 a0_1,.int .i64 a0_2,.int .i64 a0_3] 29 (0,0))):=⟨h0_⟩
         have n1_:Aside0 (w14.heap[gb637]?=some (.cells #[.int .i64 0,.int .i64 0] 25 (0,0))):=⟨h1_⟩
         have n2_:Aside0 (w.heap.size≤gb637):=⟨h2_⟩
         have n3_:Aside0 (w.heap.size≤gb637):=⟨h3_⟩
         have n4_:Aside0 (gb631≠gb637):=⟨h4_⟩
         have n5_:Aside0 (gb637≠gb631):=⟨h5_⟩
         have n6_:Aside0 (Below w.heap.size w w14):=⟨h6_⟩
         clear BK631;clear HB;clear h0_ h1_ h2_ h3_ h4_ h5_ h6_;have BK631:=n0_;have BK637:=n1_;have GW637:=n2_;have GE637:=n3_;have NB631_637:=n4_;have NB637_631:=n5_;have HB:=n6_;clear n0_ n1_ n2_ n3_ n4_ n5_ n6_
         have hHeld:w14.cell? ⟨gb631,0,none⟩=some (.slice (some ad634) l0_0.length c0_0)∧w14.cell? ⟨gb631,1,none⟩=some (.int .i64 a0_1)∧w14.cell? ⟨gb631,2,none⟩=some (.int .i64 a0_2)∧w14.cell? ⟨gb631,3,none⟩=some (.int .i64 a0_3)∧w14.cell? ad634=some (.int .i64 ((rd_T74 l0_0 0).f0.f0))∧w14.cell? ⟨ad634.block,ad634.off+1,none⟩=some (.int .i64 ((rd_T74 l0_0 0).f0.f1))∧w14.cell? ⟨ad634.block,ad634.off+2,none⟩=some (.int .i64 ((rd_T74 l0_0 0).f1))∧w14.cell? ⟨ad634.block,ad634.off+3,none⟩=some (.slice A634_3 ((rd_T74 l0_0 0).f2).length c634_3)∧w14.cell? ⟨ad634.block,ad634.off+4,none⟩=some (.int .i64 ((rd_T74 l0_0 1).f0.f0))∧w14.cell? ⟨ad634.block,ad634.off+4+1,none⟩=some (.int .i64 ((rd_T74 l0_0 1).f0.f1))∧w14.cell? ⟨ad634.block,ad634.off+4+2,none⟩=some (.int .i64 ((rd_T74 l0_0 1).f1))∧w14.cell? ⟨ad634.block,ad634.off+4+3,none⟩=some (.slice A635_3 ((rd_T74 l0_0 1).f2).length c635_3):=hS_
         refine norm_ (a':=?_) ?_ ?_
         rotate_left
         ·simp only [putAll,Act.put,List.setIfInBounds_toArray,List.set_cons_zero,List.set_cons_succ]
          rfl
         refine two_ (i:=13) (j:=15) (Ni:=some 7) (Nj:=some 9) #[true,true,true,true,true,true,true,true,true,true,true,true,true,true,true,false,false,false,false] #[true,true,true,true,true,true,true,true,true,true,true,true,true,false,true,true,false,false,false] rfl rfl rfl rfl (two_of HT_.out (by kernel_rfl)) (by decide) (by decide) (fun K hK=>?_) (fun K hK=>?_)
         ·skip
          refine box_step ?hg (N:=7) ?hd (cs:=#[.int .i64 0,.int .i64 0]) (t:=25) ?hr ?_;(case hd=>rfl);(case hg=>rfl);(case hr=>first|(go_simp;done)|(go_simp;rfl))
          intro gb636 hg w15 hbox hb
          have n0_:=A0_ (blk_below (g:=gb631) (o:=.cells #[.slice (some ad634) l0_0.length c0_0,.int .i64 a0_1,.int .i64 a0_2,.int .i64 a0_3] 29 (0,0)) (bd_ BK631.out) hb);have n1_:=A0_ (blk_below (g:=gb637) (o:=.cells #[.int .i64 0,.int .i64 0] 25 (0,0)) (bd_ BK637.out) hb);have n2_:=A0_ (below_step y15_ hb);have n3_:=A0_ (hbox)
          have n4_:=A0_ ((by rw [hg];exact (below_size y15_):w.heap.size≤gb636))
          have n5_:=A0_ ((by rw [hg];exact (below_size y15_):w.heap.size≤gb636))
          have n6_:=A0_ ((by rw [hg];exact Nat.ne_of_lt (blk_lt (g:=gb631) (o:=.cells #[.slice (some ad634) l0_0.length c0_0,.int .i64 a0_1,.int .i64 a0_2,.int .i64 a0_3] 29 (0,0)) (bd_ BK631.out)):gb631≠gb636))
          have n7_:=A0_ ((by rw [hg];exact Nat.ne_of_gt (blk_lt (g:=gb631) (o:=.cells #[.slice (some ad634) l0_0.length c0_0,.int .i64 a0_1,.int .i64 a0_2,.int .i64 a0_3] 29 (0,0)) (bd_ BK631.out)):gb636≠gb631))
          have n8_:=A0_ ((by rw [hg];exact Nat.ne_of_lt (blk_lt (g:=gb637) (o:=.cells #[.int .i64 0,.int .i64 0] 25 (0,0)) (bd_ BK637.out)):gb637≠gb636))
          have n9_:=A0_ ((by rw [hg];exact Nat.ne_of_gt (blk_lt (g:=gb637) (o:=.cells #[.int .i64 0,.int .i64 0] 25 (0,0)) (bd_ BK637.out)):gb636≠gb637))
          clear BK631;clear BK637;clear HB;have BK631:=n0_;have BK637:=n1_;have HB:=n2_;have BK636:=n3_;have GW636:=n4_;have GE636:=n5_;have NB631_636:=n6_;have NB636_631:=n7_;have NB637_636:=n8_;have NB636_637:=n9_;clear n0_ n1_ n2_ n3_ n4_ n5_ n6_ n7_ n8_ n9_;clear hb hbox hg
          refine hK.out _ _ ⟨(blk_cell BK631.out 0).trans rfl,(blk_cell BK631.out 1).trans rfl,(blk_cell BK631.out 2).trans rfl,(blk_cell BK631.out 3).trans rfl,((HB.out.cell (World.block_lt_of_cell? w _ hw634_0)).trans hw634_0),((HB.out.cell (World.block_lt_of_cell? w _ hw634_1)).trans hw634_1),((HB.out.cell (World.block_lt_of_cell? w _ hw634_2)).trans hw634_2),((HB.out.cell (World.block_lt_of_cell? w _ hw634_3)).trans hw634_3),((HB.out.cell (World.block_lt_of_cell? w _ hw635_0)).trans hw635_0),((HB.out.cell (World.block_lt_of_cell? w _ hw635_1)).trans hw635_1),((HB.out.cell (World.block_lt_of_cell? w _ hw635_2)).trans hw635_2),((HB.out.cell (World.block_lt_of_cell? w _ hw635_3)).trans hw635_3)⟩ (fun hHeld=>?_)
          clear hK K
          refine norm_ (a':=?_) ?_ ?_
          rotate_left
          ·show Act.put _ (some 7) _=_
           simp only [Act.put,List.setIfInBounds_toArray,List.set_cons_zero,List.set_cons_succ,i64_w,i32_w]
           rfl
          exact norm_ yd_ (hJ13_14 (gb636,gb637) _ ⟨hHeld,(bd_ BK631.out),(bd_ BK636.out),(bd_ BK637.out),GW636.out,GE636.out,NB631_636.out,NB636_631.out,NB637_636.out,NB636_637.out,GW637.out,GE637.out,NB631_637.out,NB637_631.out,(by repeat (first|(with_reducible first|exact HB.out|apply below_alloc|apply pw_below_drewN|apply below_drew1|refine below_set ?_ GE631.out|refine below_set ?_ GE637.out|refine below_set ?_ GE636.out)|exact HB.out))⟩)
         ·skip
          refine box_step ?hg (N:=9) ?hd (cs:=#[.int .i64 0,.int .i64 0]) (t:=25) ?hr ?_;(case hd=>rfl);(case hg=>rfl);(case hr=>first|(go_simp;done)|(go_simp;rfl))
          intro gb638 hg w15 hbox hb
          have n0_:=A0_ (blk_below (g:=gb631) (o:=.cells #[.slice (some ad634) l0_0.length c0_0,.int .i64 a0_1,.int .i64 a0_2,.int .i64 a0_3] 29 (0,0)) (bd_ BK631.out) hb);have n1_:=A0_ (blk_below (g:=gb637) (o:=.cells #[.int .i64 0,.int .i64 0] 25 (0,0)) (bd_ BK637.out) hb);have n2_:=A0_ (below_step y15_ hb);have n3_:=A0_ (hbox)
          have n4_:=A0_ ((by rw [hg];exact (below_size y15_):w.heap.size≤gb638))
          have n5_:=A0_ ((by rw [hg];exact (below_size y15_):w.heap.size≤gb638))
          have n6_:=A0_ ((by rw [hg];exact Nat.ne_of_lt (blk_lt (g:=gb631) (o:=.cells #[.slice (some ad634) l0_0.length c0_0,.int .i64 a0_1,.int .i64 a0_2,.int .i64 a0_3] 29 (0,0)) (bd_ BK631.out)):gb631≠gb638))
          have n7_:=A0_ ((by rw [hg];exact Nat.ne_of_gt (blk_lt (g:=gb631) (o:=.cells #[.slice (some ad634) l0_0.length c0_0,.int .i64 a0_1,.int .i64 a0_2,.int .i64 a0_3] 29 (0,0)) (bd_ BK631.out)):gb638≠gb631))
          have n8_:=A0_ ((by rw [hg];exact Nat.ne_of_lt (blk_lt (g:=gb637) (o:=.cells #[.int .i64 0,.int .i64 0] 25 (0,0)) (bd_ BK637.out)):gb637≠gb638))
          have n9_:=A0_ ((by rw [hg];exact Nat.ne_of_gt (blk_lt (g:=gb637) (o:=.cells #[.int .i64 0,.int .i64 0] 25 (0,0)) (bd_ BK637.out)):gb638≠gb637))
          clear BK631;clear BK637;clear HB;have BK631:=n0_;have BK637:=n1_;have HB:=n2_;have BK638:=n3_;have GW638:=n4_;have GE638:=n5_;have NB631_638:=n6_;have NB638_631:=n7_;have NB637_638:=n8_;have NB638_637:=n9_;clear n0_ n1_ n2_ n3_ n4_ n5_ n6_ n7_ n8_ n9_;clear hb hbox hg
          refine hK.out _ _ ⟨(blk_cell BK631.out 0).trans rfl,(blk_cell BK631.out 1).trans rfl,(blk_cell BK631.out 2).trans rfl,(blk_cell BK631.out 3).trans rfl,((HB.out.cell (World.block_lt_of_cell? w _ hw634_0)).trans hw634_0),((HB.out.cell (World.block_lt_of_cell? w _ hw634_1)).trans hw634_1),((HB.out.cell (World.block_lt_of_cell? w _ hw634_2)).trans hw634_2),((HB.out.cell (World.block_lt_of_cell? w _ hw634_3)).trans hw634_3),((HB.out.cell (World.block_lt_of_cell? w _ hw635_0)).trans hw635_0),((HB.out.cell (World.block_lt_of_cell? w _ hw635_1)).trans hw635_1),((HB.out.cell (World.block_lt_of_cell? w _ hw635_2)).trans hw635_2),((HB.out.cell (World.block_lt_of_cell? w _ hw635_3)).trans hw635_3)⟩ (fun hHeld=>?_)
          clear hK K
          refine norm_ (a':=?_) ?_ ?_
          rotate_left
          ·show Act.put _ (some 9) _=_
           simp only [Act.put,List.setIfInBounds_toArray,List.set_cons_zero,List.set_cons_succ,i64_w,i32_w]
           rfl
          exact norm_ yd_ (hJ14_15 (gb637,gb638) _ ⟨hHeld,(bd_ BK631.out),(bd_ BK637.out),(bd_ BK638.out),GW637.out,GE637.out,NB631_637.out,NB637_631.out,NB638_637.out,NB637_638.out,GW638.out,GE638.out,NB631_638.out,NB638_631.out,y1g_⟩)
       ·skip
        rintro gb636 w14 ⟨hS_,h0_,h1_,h2_,h3_,h4_,h5_,h6_⟩
        have n0_:Aside0 (w14.heap[gb631]?=some (.cells #[.slice (some ad634) l0_0.length c0_0,.int .i64 a0_1,.int .i64 a0_2,.int .i64 a0_3] 29 (0,0))):=⟨h0_⟩
        have n1_:Aside0 (w14.heap[gb636]?=some (.cells #[.int .i64 0,.int .i64 0] 25 (0,0))):=⟨h1_⟩
        have n2_:Aside0 (w.heap.size≤gb636):=⟨h2_⟩
        have n3_:Aside0 (w.heap.size≤gb636):=⟨h3_⟩
        have n4_:Aside0 (gb631≠gb636):=⟨h4_⟩
        have n5_:Aside0 (gb636≠gb631):=⟨h5_⟩
        have n6_:Aside0 (Below w.heap.size w w14):=⟨h6_⟩
        clear BK631;clear HB;clear h0_ h1_ h2_ h3_ h4_ h5_ h6_;have BK631:=n0_;have BK636:=n1_;have GW636:=n2_;have GE636:=n3_;have NB631_636:=n4_;have NB636_631:=n5_;have HB:=n6_;clear n0_ n1_ n2_ n3_ n4_ n5_ n6_
        have hHeld:w14.cell? ⟨gb631,0,none⟩=some (.slice (some ad634) l0_0.length c0_0)∧w14.cell? ⟨gb631,1,none⟩=some (.int .i64 a0_1)∧w14.cell? ⟨gb631,2,none⟩=some (.int .i64 a0_2)∧w14.cell? ⟨gb631,3,none⟩=some (.int .i64 a0_3)∧w14.cell? ad634=some (.int .i64 ((rd_T74 l0_0 0).f0.f0))∧w14.cell? ⟨ad634.block,ad634.off+1,none⟩=some (.int .i64 ((rd_T74 l0_0 0).f0.f1))∧w14.cell? ⟨ad634.block,ad634.off+2,none⟩=some (.int .i64 ((rd_T74 l0_0 0).f1))∧w14.cell? ⟨ad634.block,ad634.off+3,none⟩=some (.slice A634_3 ((rd_T74 l0_0 0).f2).length c634_3)∧w14.cell? ⟨ad634.block,ad634.off+4,none⟩=some (.int .i64 ((rd_T74 l0_0 1).f0.f0))∧w14.cell? ⟨ad634.block,ad634.off+4+1,none⟩=some (.int .i64 ((rd_T74 l0_0 1).f0.f1))∧w14.cell? ⟨ad634.block,ad634.off+4+2,none⟩=some (.int .i64 ((rd_T74 l0_0 1).f1))∧w14.cell? ⟨ad634.block,ad634.off+4+3,none⟩=some (.slice A635_3 ((rd_T74 l0_0 1).f2).length c635_3):=hS_
        refine norm_ (a':=?_) ?_ ?_
        rotate_left
        ·simp only [putAll,Act.put,List.setIfInBounds_toArray,List.set_cons_zero,List.set_cons_succ]
         rfl
        refine two_ (i:=14) (j:=15) (Ni:=some 8) (Nj:=some 9) #[true,true,true,true,true,true,true,true,true,true,true,true,true,true,true,false,false,false,false] #[true,true,true,true,true,true,true,true,true,true,true,true,true,true,false,true,false,false,false] rfl rfl rfl rfl (two_of HT_.out (by kernel_rfl)) (by decide) (by decide) (fun K hK=>?_) (fun K hK=>?_)
        ·skip
         refine box_step ?hg (N:=8) ?hd (cs:=#[.int .i64 0,.int .i64 0]) (t:=25) ?hr ?_;(case hd=>rfl);(case hg=>rfl);(case hr=>first|(go_simp;done)|(go_simp;rfl))
         intro gb637 hg w15 hbox hb
         have n0_:=A0_ (blk_below (g:=gb631) (o:=.cells #[.slice (some ad634) l0_0.length c0_0,.int .i64 a0_1,.int .i64 a0_2,.int .i64 a0_3] 29 (0,0)) (bd_ BK631.out) hb);have n1_:=A0_ (blk_below (g:=gb636) (o:=.cells #[.int .i64 0,.int .i64 0] 25 (0,0)) (bd_ BK636.out) hb);have n2_:=A0_ (below_step y16_ hb);have n3_:=A0_ (hbox)
         have n4_:=A0_ ((by rw [hg];exact (below_size y16_):w.heap.size≤gb637))
         have n5_:=A0_ ((by rw [hg];exact (below_size y16_):w.heap.size≤gb637))
         have n6_:=A0_ ((by rw [hg];exact Nat.ne_of_lt (blk_lt (g:=gb631) (o:=.cells #[.slice (some ad634) l0_0.length c0_0,.int .i64 a0_1,.int .i64 a0_2,.int .i64 a0_3] 29 (0,0)) (bd_ BK631.out)):gb631≠gb637))
         have n7_:=A0_ ((by rw [hg];exact Nat.ne_of_gt (blk_lt (g:=gb631) (o:=.cells #[.slice (some ad634) l0_0.length c0_0,.int .i64 a0_1,.int .i64 a0_2,.int .i64 a0_3] 29 (0,0)) (bd_ BK631.out)):gb637≠gb631))
         have n8_:=A0_ ((by rw [hg];exact Nat.ne_of_lt (blk_lt (g:=gb636) (o:=.cells #[.int .i64 0,.int .i64 0] 25 (0,0)) (bd_ BK636.out)):gb636≠gb637))
         have n9_:=A0_ ((by rw [hg];exact Nat.ne_of_gt (blk_lt (g:=gb636) (o:=.cells #[.int .i64 0,.int .i64 0] 25 (0,0)) (bd_ BK636.out)):gb637≠gb636))
         clear BK631;clear BK636;clear HB;have BK631:=n0_;have BK636:=n1_;have HB:=n2_;have BK637:=n3_;have GW637:=n4_;have GE637:=n5_;have NB631_637:=n6_;have NB637_631:=n7_;have NB636_637:=n8_;have NB637_636:=n9_;clear n0_ n1_ n2_ n3_ n4_ n5_ n6_ n7_ n8_ n9_;clear hb hbox hg
         refine hK.out _ _ ⟨(blk_cell BK631.out 0).trans rfl,(blk_cell BK631.out 1).trans rfl,(blk_cell BK631.out 2).trans rfl,(blk_cell BK631.out 3).trans rfl,((HB.out.cell (World.block_lt_of_cell? w _ hw634_0)).trans hw634_0),((HB.out.cell (World.block_lt_of_cell? w _ hw634_1)).trans hw634_1),((HB.out.cell (World.block_lt_of_cell? w _ hw634_2)).trans hw634_2),((HB.out.cell (World.block_lt_of_cell? w _ hw634_3)).trans hw634_3),((HB.out.cell (World.block_lt_of_cell? w _ hw635_0)).trans hw635_0),((HB.out.cell (World.block_lt_of_cell? w _ hw635_1)).trans hw635_1),((HB.out.cell (World.block_lt_of_cell? w _ hw635_2)).trans hw635_2),((HB.out.cell (World.block_lt_of_cell? w _ hw635_3)).trans hw635_3)⟩ (fun hHeld=>?_)
         clear hK K
         refine norm_ (a':=?_) ?_ ?_
         rotate_left
         ·show Act.put _ (some 8) _=_
          simp only [Act.put,List.setIfInBounds_toArray,List.set_cons_zero,List.set_cons_succ,i64_w,i32_w]
          rfl
         exact norm_ yd_ (hJ13_14 (gb636,gb637) _ ⟨hHeld,(bd_ BK631.out),(bd_ BK636.out),(bd_ BK637.out),GW636.out,GE636.out,NB631_636.out,NB636_631.out,NB637_636.out,NB636_637.out,GW637.out,GE637.out,NB631_637.out,NB637_631.out,y1i_⟩)
        ·skip
         refine box_step ?hg (N:=9) ?hd (cs:=#[.int .i64 0,.int .i64 0]) (t:=25) ?hr ?_;(case hd=>rfl);(case hg=>rfl);(case hr=>first|(go_simp;done)|(go_simp;rfl))
         intro gb638 hg w15 hbox hb
         have n0_:=A0_ (blk_below (g:=gb631) (o:=.cells #[.slice (some ad634) l0_0.length c0_0,.int .i64 a0_1,.int .i64 a0_2,.int .i64 a0_3] 29 (0,0)) (bd_ BK631.out) hb);have n1_:=A0_ (blk_below (g:=gb636) (o:=.cells #[.int .i64 0,.int .i64 0] 25 (0,0)) (bd_ BK636.out) hb);have n2_:=A0_ (below_step y16_ hb);have n3_:=A0_ (hbox)
         have n4_:=A0_ ((by rw [hg];exact (below_size y16_):w.heap.size≤gb638))
         have n5_:=A0_ ((by rw [hg];exact (below_size y16_):w.heap.size≤gb638))
         have n6_:=A0_ ((by rw [hg];exact Nat.ne_of_lt (blk_lt (g:=gb631) (o:=.cells #[.slice (some ad634) l0_0.length c0_0,.int .i64 a0_1,.int .i64 a0_2,.int .i64 a0_3] 29 (0,0)) (bd_ BK631.out)):gb631≠gb638))
         have n7_:=A0_ ((by rw [hg];exact Nat.ne_of_gt (blk_lt (g:=gb631) (o:=.cells #[.slice (some ad634) l0_0.length c0_0,.int .i64 a0_1,.int .i64 a0_2,.int .i64 a0_3] 29 (0,0)) (bd_ BK631.out)):gb638≠gb631))
         have n8_:=A0_ ((by rw [hg];exact Nat.ne_of_lt (blk_lt (g:=gb636) (o:=.cells #[.int .i64 0,.int .i64 0] 25 (0,0)) (bd_ BK636.out)):gb636≠gb638))
         have n9_:=A0_ ((by rw [hg];exact Nat.ne_of_gt (blk_lt (g:=gb636) (o:=.cells #[.int .i64 0,.int .i64 0] 25 (0,0)) (bd_ BK636.out)):gb638≠gb636))
         clear BK631;clear BK636;clear HB;have BK631:=n0_;have BK636:=n1_;have HB:=n2_;have BK638:=n3_;have GW638:=n4_;have GE638:=n5_;have NB631_638:=n6_;have NB638_631:=n7_;have NB636_638:=n8_;have NB638_636:=n9_;clear n0_ n1_ n2_ n3_ n4_ n5_ n6_ n7_ n8_ n9_;clear hb hbox hg
         refine hK.out _ _ ⟨(blk_cell BK631.out 0).trans rfl,(blk_cell BK631.out 1).trans rfl,(blk_cell BK631.out 2).trans rfl,(blk_cell BK631.out 3).trans rfl,((HB.out.cell (World.block_lt_of_cell? w _ hw634_0)).trans hw634_0),((HB.out.cell (World.block_lt_of_cell? w _ hw634_1)).trans hw634_1),((HB.out.cell (World.block_lt_of_cell? w _ hw634_2)).trans hw634_2),((HB.out.cell (World.block_lt_of_cell? w _ hw634_3)).trans hw634_3),((HB.out.cell (World.block_lt_of_cell? w _ hw635_0)).trans hw635_0),((HB.out.cell (World.block_lt_of_cell? w _ hw635_1)).trans hw635_1),((HB.out.cell (World.block_lt_of_cell? w _ hw635_2)).trans hw635_2),((HB.out.cell (World.block_lt_of_cell? w _ hw635_3)).trans hw635_3)⟩ (fun hHeld=>?_)
         clear hK K
         refine norm_ (a':=?_) ?_ ?_
         rotate_left
         ·show Act.put _ (some 9) _=_
          simp only [Act.put,List.setIfInBounds_toArray,List.set_cons_zero,List.set_cons_succ,i64_w,i32_w]
          rfl
         exact norm_ yd_ (hJ13_15 (gb636,gb638) _ ⟨hHeld,(bd_ BK631.out),(bd_ BK636.out),(bd_ BK638.out),GW636.out,GE636.out,NB631_636.out,NB636_631.out,NB638_636.out,NB636_638.out,GW638.out,GE638.out,NB631_638.out,NB638_631.out,y1h_⟩)
      ·skip
       rintro ⟨gb637,gb638⟩ w15 ⟨hS_,h0_,h1_,h2_,h3_,h4_,h5_,h6_,h7_,h8_,h9_,h10_,h11_,h12_,h13_⟩
       have n0_:Aside0 (w15.heap[gb631]?=some (.cells #[.slice (some ad634) l0_0.length c0_0,.int .i64 a0_1,.int .i64 a0_2,.int .i64 a0_3] 29 (0,0))):=⟨h0_⟩
       have n1_:Aside0 (w15.heap[gb637]?=some (.cells #[.int .i64 0,.int .i64 0] 25 (0,0))):=⟨h1_⟩
       have n2_:Aside0 (w15.heap[gb638]?=some (.cells #[.int .i64 0,.int .i64 0] 25 (0,0))):=⟨h2_⟩
       have n3_:Aside0 (w.heap.size≤gb637):=⟨h3_⟩
       have n4_:Aside0 (w.heap.size≤gb637):=⟨h4_⟩
       have n5_:Aside0 (gb631≠gb637):=⟨h5_⟩
       have n6_:Aside0 (gb637≠gb631):=⟨h6_⟩
       have n7_:Aside0 (gb638≠gb637):=⟨h7_⟩
       have n8_:Aside0 (gb637≠gb638):=⟨h8_⟩
       have n9_:Aside0 (w.heap.size≤gb638):=⟨h9_⟩
       have n10_:Aside0 (w.heap.size≤gb638):=⟨h10_⟩
       have n11_:Aside0 (gb631≠gb638):=⟨h11_⟩
       have n12_:Aside0 (gb638≠gb631):=⟨h12_⟩
       have n13_:Aside0 (Below w.heap.size w w15):=⟨h13_⟩
       clear BK631;clear HB;clear h0_ h1_ h2_ h3_ h4_ h5_ h6_ h7_ h8_ h9_ h10_ h11_ h12_ h13_;have BK631:=n0_;have BK637:=n1_;have BK638:=n2_;have GW637:=n3_;have GE637:=n4_;have NB631_637:=n5_;have NB637_631:=n6_;have NB638_637:=n7_;have NB637_638:=n8_;have GW638:=n9_;have GE638:=n10_;have NB631_638:=n11_;have NB638_631:=n12_;have HB:=n13_;clear n0_ n1_ n2_ n3_ n4_ n5_ n6_ n7_ n8_ n9_ n10_ n11_ n12_ n13_
       have hHeld:w15.cell? ⟨gb631,0,none⟩=some (.slice (some ad634) l0_0.length c0_0)∧w15.cell? ⟨gb631,1,none⟩=some (.int .i64 a0_1)∧w15.cell? ⟨gb631,2,none⟩=some (.int .i64 a0_2)∧w15.cell? ⟨gb631,3,none⟩=some (.int .i64 a0_3)∧w15.cell? ad634=some (.int .i64 ((rd_T74 l0_0 0).f0.f0))∧w15.cell? ⟨ad634.block,ad634.off+1,none⟩=some (.int .i64 ((rd_T74 l0_0 0).f0.f1))∧w15.cell? ⟨ad634.block,ad634.off+2,none⟩=some (.int .i64 ((rd_T74 l0_0 0).f1))∧w15.cell? ⟨ad634.block,ad634.off+3,none⟩=some (.slice A634_3 ((rd_T74 l0_0 0).f2).length c634_3)∧w15.cell? ⟨ad634.block,ad634.off+4,none⟩=some (.int .i64 ((rd_T74 l0_0 1).f0.f0))∧w15.cell? ⟨ad634.block,ad634.off+4+1,none⟩=some (.int .i64 ((rd_T74 l0_0 1).f0.f1))∧w15.cell? ⟨ad634.block,ad634.off+4+2,none⟩=some (.int .i64 ((rd_T74 l0_0 1).f1))∧w15.cell? ⟨ad634.block,ad634.off+4+3,none⟩=some (.slice A635_3 ((rd_T74 l0_0 1).f2).length c635_3):=hS_
       refine norm_ (a':=?_) ?_ ?_
       rotate_left
       ·simp only [putAll,Act.put,List.setIfInBounds_toArray,List.set_cons_zero,List.set_cons_succ]
        rfl
       refine one_ (i:=13) (N:=some 7) #[true,true,true,true,true,true,true,true,true,true,true,true,true,true,true,true,false,false,false] rfl rfl (one_of HT_.out (by kernel_rfl)) (by decide) (fun K hK=>?_)
       refine box_step ?hg (N:=7) ?hd (cs:=#[.int .i64 0,.int .i64 0]) (t:=25) ?hr ?_;(case hd=>rfl);(case hg=>rfl);(case hr=>first|(go_simp;done)|(go_simp;rfl))
       intro gb636 hg w16 hbox hb
       have n0_:=A0_ (blk_below (g:=gb631) (o:=.cells #[.slice (some ad634) l0_0.length c0_0,.int .i64 a0_1,.int .i64 a0_2,.int .i64 a0_3] 29 (0,0)) (bd_ BK631.out) hb);have n1_:=A0_ (blk_below (g:=gb637) (o:=.cells #[.int .i64 0,.int .i64 0] 25 (0,0)) (bd_ BK637.out) hb);have n2_:=A0_ (blk_below (g:=gb638) (o:=.cells #[.int .i64 0,.int .i64 0] 25 (0,0)) (bd_ BK638.out) hb);have n3_:=A0_ (below_step y1g_ hb);have n4_:=A0_ (hbox)
       have n5_:=A0_ ((by rw [hg];exact (below_size y1g_):w.heap.size≤gb636))
       have n6_:=A0_ ((by rw [hg];exact (below_size y1g_):w.heap.size≤gb636))
       have n7_:=A0_ ((by rw [hg];exact Nat.ne_of_lt (blk_lt (g:=gb631) (o:=.cells #[.slice (some ad634) l0_0.length c0_0,.int .i64 a0_1,.int .i64 a0_2,.int .i64 a0_3] 29 (0,0)) (bd_ BK631.out)):gb631≠gb636))
       have n8_:=A0_ ((by rw [hg];exact Nat.ne_of_gt (blk_lt (g:=gb631) (o:=.cells #[.slice (some ad634) l0_0.length c0_0,.int .i64 a0_1,.int .i64 a0_2,.int .i64 a0_3] 29 (0,0)) (bd_ BK631.out)):gb636≠gb631))
       have n9_:=A0_ ((by rw [hg];exact Nat.ne_of_lt (blk_lt (g:=gb637) (o:=.cells #[.int .i64 0,.int .i64 0] 25 (0,0)) (bd_ BK637.out)):gb637≠gb636))
       have n10_:=A0_ ((by rw [hg];exact Nat.ne_of_gt (blk_lt (g:=gb637) (o:=.cells #[.int .i64 0,.int .i64 0] 25 (0,0)) (bd_ BK637.out)):gb636≠gb637))
       have n11_:=A0_ ((by rw [hg];exact Nat.ne_of_lt (blk_lt (g:=gb638) (o:=.cells #[.int .i64 0,.int .i64 0] 25 (0,0)) (bd_ BK638.out)):gb638≠gb636))
       have n12_:=A0_ ((by rw [hg];exact Nat.ne_of_gt (blk_lt (g:=gb638) (o:=.cells #[.int .i64 0,.int .i64 0] 25 (0,0)) (bd_ BK638.out)):gb636≠gb638))
       clear BK631;clear BK637;clear BK638;clear HB;have BK631:=n0_;have BK637:=n1_;have BK638:=n2_;have HB:=n3_;have BK636:=n4_;have GW636:=n5_;have GE636:=n6_;have NB631_636:=n7_;have NB636_631:=n8_;have NB637_636:=n9_;have NB636_637:=n10_;have NB638_636:=n11_;have NB636_638:=n12_;clear n0_ n1_ n2_ n3_ n4_ n5_ n6_ n7_ n8_ n9_ n10_ n11_ n12_;clear hb hbox hg
       refine hK.out _ _ ⟨(blk_cell BK631.out 0).trans rfl,(blk_cell BK631.out 1).trans rfl,(blk_cell BK631.out 2).trans rfl,(blk_cell BK631.out 3).trans rfl,((HB.out.cell (World.block_lt_of_cell? w _ hw634_0)).trans hw634_0),((HB.out.cell (World.block_lt_of_cell? w _ hw634_1)).trans hw634_1),((HB.out.cell (World.block_lt_of_cell? w _ hw634_2)).trans hw634_2),((HB.out.cell (World.block_lt_of_cell? w _ hw634_3)).trans hw634_3),((HB.out.cell (World.block_lt_of_cell? w _ hw635_0)).trans hw635_0),((HB.out.cell (World.block_lt_of_cell? w _ hw635_1)).trans hw635_1),((HB.out.cell (World.block_lt_of_cell? w _ hw635_2)).trans hw635_2),((HB.out.cell (World.block_lt_of_cell? w _ hw635_3)).trans hw635_3)⟩ (fun hHeld=>?_)
       clear hK K
       refine norm_ (a':=?_) ?_ ?_
       rotate_left
       ·show Act.put _ (some 7) _=_
        simp only [Act.put,List.setIfInBounds_toArray,List.set_cons_zero,List.set_cons_succ,i64_w,i32_w]
        rfl
       exact norm_ yd_ (hJ13_14_15 (gb636,gb637,gb638) _ ⟨hHeld,(bd_ BK631.out),(bd_ BK636.out),(bd_ BK637.out),(bd_ BK638.out),GW636.out,GE636.out,NB631_636.out,NB636_631.out,NB637_636.out,NB636_637.out,NB638_636.out,NB636_638.out,GW637.out,GE637.out,NB631_637.out,NB637_631.out,NB638_637.out,NB637_638.out,GW638.out,GE638.out,NB631_638.out,NB638_631.out,(by repeat (first|(with_reducible first|exact HB.out|apply below_alloc|apply pw_below_drewN|apply below_drew1|refine below_set ?_ GE631.out|refine below_set ?_ GE637.out|refine below_set ?_ GE638.out|refine below_set ?_ GE636.out)|exact HB.out))⟩)
     ·skip
      rintro ⟨gb636,gb638⟩ w15 ⟨hS_,h0_,h1_,h2_,h3_,h4_,h5_,h6_,h7_,h8_,h9_,h10_,h11_,h12_,h13_⟩
      have n0_:Aside0 (w15.heap[gb631]?=some (.cells #[.slice (some ad634) l0_0.length c0_0,.int .i64 a0_1,.int .i64 a0_2,.int .i64 a0_3] 29 (0,0))):=⟨h0_⟩
      have n1_:Aside0 (w15.heap[gb636]?=some (.cells #[.int .i64 0,.int .i64 0] 25 (0,0))):=⟨h1_⟩
      have n2_:Aside0 (w15.heap[gb638]?=some (.cells #[.int .i64 0,.int .i64 0] 25 (0,0))):=⟨h2_⟩
      have n3_:Aside0 (w.heap.size≤gb636):=⟨h3_⟩
      have n4_:Aside0 (w.heap.size≤gb636):=⟨h4_⟩
      have n5_:Aside0 (gb631≠gb636):=⟨h5_⟩
      have n6_:Aside0 (gb636≠gb631):=⟨h6_⟩
      have n7_:Aside0 (gb638≠gb636):=⟨h7_⟩
      have n8_:Aside0 (gb636≠gb638):=⟨h8_⟩
      have n9_:Aside0 (w.heap.size≤gb638):=⟨h9_⟩
      have n10_:Aside0 (w.heap.size≤gb638):=⟨h10_⟩
      have n11_:Aside0 (gb631≠gb638):=⟨h11_⟩
      have n12_:Aside0 (gb638≠gb631):=⟨h12_⟩
      have n13_:Aside0 (Below w.heap.size w w15):=⟨h13_⟩
      clear BK631;clear HB;clear h0_ h1_ h2_ h3_ h4_ h5_ h6_ h7_ h8_ h9_ h10_ h11_ h12_ h13_;have BK631:=n0_;have BK636:=n1_;have BK638:=n2_;have GW636:=n3_;have GE636:=n4_;have NB631_636:=n5_;have NB636_631:=n6_;have NB638_636:=n7_;have NB636_638:=n8_;have GW638:=n9_;have GE638:=n10_;have NB631_638:=n11_;have NB638_631:=n12_;have HB:=n13_;clear n0_ n1_ n2_ n3_ n4_ n5_ n6_ n7_ n8_ n9_ n10_ n11_ n12_ n13_
      have hHeld:w15.cell? ⟨gb631,0,none⟩=some (.slice (some ad634) l0_0.length c0_0)∧w15.cell? ⟨gb631,1,none⟩=some (.int .i64 a0_1)∧w15.cell? ⟨gb631,2,none⟩=some (.int .i64 a0_2)∧w15.cell? ⟨gb631,3,none⟩=some (.int .i64 a0_3)∧w15.cell? ad634=some (.int .i64 ((rd_T74 l0_0 0).f0.f0))∧w15.cell? ⟨ad634.block,ad634.off+1,none⟩=some (.int .i64 ((rd_T74 l0_0 0).f0.f1))∧w15.cell? ⟨ad634.block,ad634.off+2,none⟩=some (.int .i64 ((rd_T74 l0_0 0).f1))∧w15.cell? ⟨ad634.block,ad634.off+3,none⟩=some (.slice A634_3 ((rd_T74 l0_0 0).f2).length c634_3)∧w15.cell? ⟨ad634.block,ad634.off+4,none⟩=some (.int .i64 ((rd_T74 l0_0 1).f0.f0))∧w15.cell? ⟨ad634.block,ad634.off+4+1,none⟩=some (.int .i64 ((rd_T74 l0_0 1).f0.f1))∧w15.cell? ⟨ad634.block,ad634.off+4+2,none⟩=some (.int .i64 ((rd_T74 l0_0 1).f1))∧w15.cell? ⟨ad634.block,ad634.off+4+3,none⟩=some (.slice A635_3 ((rd_T74 l0_0 1).f2).length c635_3):=hS_
      refine norm_ (a':=?_) ?_ ?_
      rotate_left
      ·simp only [putAll,Act.put,List.setIfInBounds_toArray,List.set_cons_zero,List.set_cons_succ]
       rfl
      refine one_ (i:=14) (N:=some 8) #[true,true,true,true,true,true,true,true,true,true,true,true,true,true,true,true,false,false,false] rfl rfl (one_of HT_.out (by kernel_rfl)) (by decide) (fun K hK=>?_)
      refine box_step ?hg (N:=8) ?hd (cs:=#[.int .i64 0,.int .i64 0]) (t:=25) ?hr ?_;(case hd=>rfl);(case hg=>rfl);(case hr=>first|(go_simp;done)|(go_simp;rfl))
      intro gb637 hg w16 hbox hb
      have n0_:=A0_ (blk_below (g:=gb631) (o:=.cells #[.slice (some ad634) l0_0.length c0_0,.int .i64 a0_1,.int .i64 a0_2,.int .i64 a0_3] 29 (0,0)) (bd_ BK631.out) hb);have n1_:=A0_ (blk_below (g:=gb636) (o:=.cells #[.int .i64 0,.int .i64 0] 25 (0,0)) (bd_ BK636.out) hb);have n2_:=A0_ (blk_below (g:=gb638) (o:=.cells #[.int .i64 0,.int .i64 0] 25 (0,0)) (bd_ BK638.out) hb);have n3_:=A0_ (below_step y1h_ hb);have n4_:=A0_ (hbox)
      have n5_:=A0_ ((by rw [hg];exact (below_size y1h_):w.heap.size≤gb637))
      have n6_:=A0_ ((by rw [hg];exact (below_size y1h_):w.heap.size≤gb637))
      have n7_:=A0_ ((by rw [hg];exact Nat.ne_of_lt (blk_lt (g:=gb631) (o:=.cells #[.slice (some ad634) l0_0.length c0_0,.int .i64 a0_1,.int .i64 a0_2,.int .i64 a0_3] 29 (0,0)) (bd_ BK631.out)):gb631≠gb637))
      have n8_:=A0_ ((by rw [hg];exact Nat.ne_of_gt (blk_lt (g:=gb631) (o:=.cells #[.slice (some ad634) l0_0.length c0_0,.int .i64 a0_1,.int .i64 a0_2,.int .i64 a0_3] 29 (0,0)) (bd_ BK631.out)):gb637≠gb631))
      have n9_:=A0_ ((by rw [hg];exact Nat.ne_of_lt (blk_lt (g:=gb636) (o:=.cells #[.int .i64 0,.int .i64 0] 25 (0,0)) (bd_ BK636.out)):gb636≠gb637))
      have n10_:=A0_ ((by rw [hg];exact Nat.ne_of_gt (blk_lt (g:=gb636) (o:=.cells #[.int .i64 0,.int .i64 0] 25 (0,0)) (bd_ BK636.out)):gb637≠gb636))
      have n11_:=A0_ ((by rw [hg];exact Nat.ne_of_lt (blk_lt (g:=gb638) (o:=.cells #[.int .i64 0,.int .i64 0] 25 (0,0)) (bd_ BK638.out)):gb638≠gb637))
      have n12_:=A0_ ((by rw [hg];exact Nat.ne_of_gt (blk_lt (g:=gb638) (o:=.cells #[.int .i64 0,.int .i64 0] 25 (0,0)) (bd_ BK638.out)):gb637≠gb638))
      clear BK631;clear BK636;clear BK638;clear HB;have BK631:=n0_;have BK636:=n1_;have BK638:=n2_;have HB:=n3_;have BK637:=n4_;have GW637:=n5_;have GE637:=n6_;have NB631_637:=n7_;have NB637_631:=n8_;have NB636_637:=n9_;have NB637_636:=n10_;have NB638_637:=n11_;have NB637_638:=n12_;clear n0_ n1_ n2_ n3_ n4_ n5_ n6_ n7_ n8_ n9_ n10_ n11_ n12_;clear hb hbox hg
      refine hK.out _ _ ⟨(blk_cell BK631.out 0).trans rfl,(blk_cell BK631.out 1).trans rfl,(blk_cell BK631.out 2).trans rfl,(blk_cell BK631.out 3).trans rfl,((HB.out.cell (World.block_lt_of_cell? w _ hw634_0)).trans hw634_0),((HB.out.cell (World.block_lt_of_cell? w _ hw634_1)).trans hw634_1),((HB.out.cell (World.block_lt_of_cell? w _ hw634_2)).trans hw634_2),((HB.out.cell (World.block_lt_of_cell? w _ hw634_3)).trans hw634_3),((HB.out.cell (World.block_lt_of_cell? w _ hw635_0)).trans hw635_0),((HB.out.cell (World.block_lt_of_cell? w _ hw635_1)).trans hw635_1),((HB.out.cell (World.block_lt_of_cell? w _ hw635_2)).trans hw635_2),((HB.out.cell (World.block_lt_of_cell? w _ hw635_3)).trans hw635_3)⟩ (fun hHeld=>?_)
      clear hK K
      refine norm_ (a':=?_) ?_ ?_
      rotate_left
      ·show Act.put _ (some 8) _=_
       simp only [Act.put,List.setIfInBounds_toArray,List.set_cons_zero,List.set_cons_succ,i64_w,i32_w]
       rfl
      exact norm_ yd_ (hJ13_14_15 (gb636,gb637,gb638) _ ⟨hHeld,(bd_ BK631.out),(bd_ BK636.out),(bd_ BK637.out),(bd_ BK638.out),GW636.out,GE636.out,NB631_636.out,NB636_631.out,NB637_636.out,NB636_637.out,NB638_636.out,NB636_638.out,GW637.out,GE637.out,NB631_637.out,NB637_631.out,NB638_637.out,NB637_638.out,GW638.out,GE638.out,NB631_638.out,NB638_631.out,(by repeat (first|(with_reducible first|exact HB.out|apply below_alloc|apply pw_below_drewN|apply below_drew1|refine below_set ?_ GE631.out|refine below_set ?_ GE636.out|refine below_set ?_ GE638.out|refine below_set ?_ GE637.out)|exact HB.out))⟩)
    ·skip
     rintro ⟨gb636,gb637⟩ w15 ⟨hS_,h0_,h1_,h2_,h3_,h4_,h5_,h6_,h7_,h8_,h9_,h10_,h11_,h12_,h13_⟩
     have n0_:Aside0 (w15.heap[gb631]?=some (.cells #[.slice (some ad634) l0_0.length c0_0,.int .i64 a0_1,.int .i64 a0_2,.int .i64 a0_3] 29 (0,0))):=⟨h0_⟩
     have n1_:Aside0 (w15.heap[gb636]?=some (.cells #[.int .i64 0,.int .i64 0] 25 (0,0))):=⟨h1_⟩
     have n2_:Aside0 (w15.heap[gb637]?=some (.cells #[.int .i64 0,.int .i64 0] 25 (0,0))):=⟨h2_⟩
     have n3_:Aside0 (w.heap.size≤gb636):=⟨h3_⟩
     have n4_:Aside0 (w.heap.size≤gb636):=⟨h4_⟩
     have n5_:Aside0 (gb631≠gb636):=⟨h5_⟩
     have n6_:Aside0 (gb636≠gb631):=⟨h6_⟩
     have n7_:Aside0 (gb637≠gb636):=⟨h7_⟩
     have n8_:Aside0 (gb636≠gb637):=⟨h8_⟩
     have n9_:Aside0 (w.heap.size≤gb637):=⟨h9_⟩
     have n10_:Aside0 (w.heap.size≤gb637):=⟨h10_⟩
     have n11_:Aside0 (gb631≠gb637):=⟨h11_⟩
     have n12_:Aside0 (gb637≠gb631):=⟨h12_⟩
     have n13_:Aside0 (Below w.heap.size w w15):=⟨h13_⟩
     clear BK631;clear HB;clear h0_ h1_ h2_ h3_ h4_ h5_ h6_ h7_ h8_ h9_ h10_ h11_ h12_ h13_;have BK631:=n0_;have BK636:=n1_;have BK637:=n2_;have GW636:=n3_;have GE636:=n4_;have NB631_636:=n5_;have NB636_631:=n6_;have NB637_636:=n7_;have NB636_637:=n8_;have GW637:=n9_;have GE637:=n10_;have NB631_637:=n11_;have NB637_631:=n12_;have HB:=n13_;clear n0_ n1_ n2_ n3_ n4_ n5_ n6_ n7_ n8_ n9_ n10_ n11_ n12_ n13_
     have hHeld:w15.cell? ⟨gb631,0,none⟩=some (.slice (some ad634) l0_0.length c0_0)∧w15.cell? ⟨gb631,1,none⟩=some (.int .i64 a0_1)∧w15.cell? ⟨gb631,2,none⟩=some (.int .i64 a0_2)∧w15.cell? ⟨gb631,3,none⟩=some (.int .i64 a0_3)∧w15.cell? ad634=some (.int .i64 ((rd_T74 l0_0 0).f0.f0))∧w15.cell? ⟨ad634.block,ad634.off+1,none⟩=some (.int .i64 ((rd_T74 l0_0 0).f0.f1))∧w15.cell? ⟨ad634.block,ad634.off+2,none⟩=some (.int .i64 ((rd_T74 l0_0 0).f1))∧w15.cell? ⟨ad634.block,ad634.off+3,none⟩=some (.slice A634_3 ((rd_T74 l0_0 0).f2).length c634_3)∧w15.cell? ⟨ad634.block,ad634.off+4,none⟩=some (.int .i64 ((rd_T74 l0_0 1).f0.f0))∧w15.cell? ⟨ad634.block,ad634.off+4+1,none⟩=some (.int .i64 ((rd_T74 l0_0 1).f0.f1))∧w15.cell? ⟨ad634.block,ad634.off+4+2,none⟩=some (.int .i64 ((rd_T74 l0_0 1).f1))∧w15.cell? ⟨ad634.block,ad634.off+4+3,none⟩=some (.slice A635_3 ((rd_T74 l0_0 1).f2).length c635_3):=hS_
     refine norm_ (a':=?_) ?_ ?_
     rotate_left
     ·simp only [putAll,Act.put,List.setIfInBounds_toArray,List.set_cons_zero,List.set_cons_succ]
      rfl
     refine one_ (i:=15) (N:=some 9) #[true,true,true,true,true,true,true,true,true,true,true,true,true,true,true,true,false,false,false] rfl rfl (one_of HT_.out (by kernel_rfl)) (by decide) (fun K hK=>?_)
     refine box_step ?hg (N:=9) ?hd (cs:=#[.int .i64 0,.int .i64 0]) (t:=25) ?hr ?_;(case hd=>rfl);(case hg=>rfl);(case hr=>first|(go_simp;done)|(go_simp;rfl))
     intro gb638 hg w16 hbox hb
     have n0_:=A0_ (blk_below (g:=gb631) (o:=.cells #[.slice (some ad634) l0_0.length c0_0,.int .i64 a0_1,.int .i64 a0_2,.int .i64 a0_3] 29 (0,0)) (bd_ BK631.out) hb);have n1_:=A0_ (blk_below (g:=gb636) (o:=.cells #[.int .i64 0,.int .i64 0] 25 (0,0)) (bd_ BK636.out) hb);have n2_:=A0_ (blk_below (g:=gb637) (o:=.cells #[.int .i64 0,.int .i64 0] 25 (0,0)) (bd_ BK637.out) hb);have n3_:=A0_ (below_step y1i_ hb);have n4_:=A0_ (hbox)
     have n5_:=A0_ ((by rw [hg];exact (below_size y1i_):w.heap.size≤gb638))
     have n6_:=A0_ ((by rw [hg];exact (below_size y1i_):w.heap.size≤gb638))
     have n7_:=A0_ ((by rw [hg];exact Nat.ne_of_lt (blk_lt (g:=gb631) (o:=.cells #[.slice (some ad634) l0_0.length c0_0,.int .i64 a0_1,.int .i64 a0_2,.int .i64 a0_3] 29 (0,0)) (bd_ BK631.out)):gb631≠gb638))
     have n8_:=A0_ ((by rw [hg];exact Nat.ne_of_gt (blk_lt (g:=gb631) (o:=.cells #[.slice (some ad634) l0_0.length c0_0,.int .i64 a0_1,.int .i64 a0_2,.int .i64 a0_3] 29 (0,0)) (bd_ BK631.out)):gb638≠gb631))
     have n9_:=A0_ ((by rw [hg];exact Nat.ne_of_lt (blk_lt (g:=gb636) (o:=.cells #[.int .i64 0,.int .i64 0] 25 (0,0)) (bd_ BK636.out)):gb636≠gb638))
     have n10_:=A0_ ((by rw [hg];exact Nat.ne_of_gt (blk_lt (g:=gb636) (o:=.cells #[.int .i64 0,.int .i64 0] 25 (0,0)) (bd_ BK636.out)):gb638≠gb636))
     have n11_:=A0_ ((by rw [hg];exact Nat.ne_of_lt (blk_lt (g:=gb637) (o:=.cells #[.int .i64 0,.int .i64 0] 25 (0,0)) (bd_ BK637.out)):gb637≠gb638))
     have n12_:=A0_ ((by rw [hg];exact Nat.ne_of_gt (blk_lt (g:=gb637) (o:=.cells #[.int .i64 0,.int .i64 0] 25 (0,0)) (bd_ BK637.out)):gb638≠gb637))
     clear BK631;clear BK636;clear BK637;clear HB;have BK631:=n0_;have BK636:=n1_;have BK637:=n2_;have HB:=n3_;have BK638:=n4_;have GW638:=n5_;have GE638:=n6_;have NB631_638:=n7_;have NB638_631:=n8_;have NB636_638:=n9_;have NB638_636:=n10_;have NB637_638:=n11_;have NB638_637:=n12_;clear n0_ n1_ n2_ n3_ n4_ n5_ n6_ n7_ n8_ n9_ n10_ n11_ n12_;clear hb hbox hg
     refine hK.out _ _ ⟨(blk_cell BK631.out 0).trans rfl,(blk_cell BK631.out 1).trans rfl,(blk_cell BK631.out 2).trans rfl,(blk_cell BK631.out 3).trans rfl,((HB.out.cell (World.block_lt_of_cell? w _ hw634_0)).trans hw634_0),((HB.out.cell (World.block_lt_of_cell? w _ hw634_1)).trans hw634_1),((HB.out.cell (World.block_lt_of_cell? w _ hw634_2)).trans hw634_2),((HB.out.cell (World.block_lt_of_cell? w _ hw634_3)).trans hw634_3),((HB.out.cell (World.block_lt_of_cell? w _ hw635_0)).trans hw635_0),((HB.out.cell (World.block_lt_of_cell? w _ hw635_1)).trans hw635_1),((HB.out.cell (World.block_lt_of_cell? w _ hw635_2)).trans hw635_2),((HB.out.cell (World.block_lt_of_cell? w _ hw635_3)).trans hw635_3)⟩ (fun hHeld=>?_)
     clear hK K
     refine norm_ (a':=?_) ?_ ?_
     rotate_left
     ·show Act.put _ (some 9) _=_
      simp only [Act.put,List.setIfInBounds_toArray,List.set_cons_zero,List.set_cons_succ,i64_w,i32_w]
      rfl
     exact norm_ yd_ (hJ13_14_15 (gb636,gb637,gb638) _ ⟨hHeld,(bd_ BK631.out),(bd_ BK636.out),(bd_ BK637.out),(bd_ BK638.out),GW636.out,GE636.out,NB631_636.out,NB636_631.out,NB637_636.out,NB636_637.out,NB638_636.out,NB636_638.out,GW637.out,GE637.out,NB631_637.out,NB637_631.out,NB638_637.out,NB637_638.out,GW638.out,GE638.out,NB631_638.out,NB638_631.out,y28_⟩)
   rintro ⟨gb636,gb637,gb638⟩ w16 ⟨hS_,h0_,h1_,h2_,h3_,h4_,h5_,h6_,h7_,h8_,h9_,h10_,h11_,h12_,h13_,h14_,h15_,h16_,h17_,h18_,h19_,h20_,h21_,h22_⟩
   have n0_:Aside0 (w16.heap[gb631]?=some (.cells #[.slice (some ad634) l0_0.length c0_0,.int .i64 a0_1,.int .i64 a0_2,.int .i64 a0_3] 29 (0,0))):=⟨h0_⟩
   have n1_:Aside0 (w16.heap[gb636]?=some (.cells #[.int .i64 0,.int .i64 0] 25 (0,0))):=⟨h1_⟩
   have n2_:Aside0 (w16.heap[gb637]?=some (.cells #[.int .i64 0,.int .i64 0] 25 (0,0))):=⟨h2_⟩
   have n3_:Aside0 (w16.heap[gb638]?=some (.cells #[.int .i64 0,.int .i64 0] 25 (0,0))):=⟨h3_⟩
   have n4_:Aside0 (w.heap.size≤gb636):=⟨h4_⟩
   have n5_:Aside0 (w.heap.size≤gb636):=⟨h5_⟩
   have n6_:Aside0 (gb631≠gb636):=⟨h6_⟩
   have n7_:Aside0 (gb636≠gb631):=⟨h7_⟩
   have n8_:Aside0 (gb637≠gb636):=⟨h8_⟩
   have n9_:Aside0 (gb636≠gb637):=⟨h9_⟩
   have n10_:Aside0 (gb638≠gb636):=⟨h10_⟩
   have n11_:Aside0 (gb636≠gb638):=⟨h11_⟩
   have n12_:Aside0 (w.heap.size≤gb637):=⟨h12_⟩
   have n13_:Aside0 (w.heap.size≤gb637):=⟨h13_⟩
   have n14_:Aside0 (gb631≠gb637):=⟨h14_⟩
   have n15_:Aside0 (gb637≠gb631):=⟨h15_⟩
   have n16_:Aside0 (gb638≠gb637):=⟨h16_⟩
   have n17_:Aside0 (gb637≠gb638):=⟨h17_⟩
   have n18_:Aside0 (w.heap.size≤gb638):=⟨h18_⟩
   have n19_:Aside0 (w.heap.size≤gb638):=⟨h19_⟩
   have n20_:Aside0 (gb631≠gb638):=⟨h20_⟩
   have n21_:Aside0 (gb638≠gb631):=⟨h21_⟩
   have n22_:Aside0 (Below w.heap.size w w16):=⟨h22_⟩
   clear BK631;clear HB;clear h0_ h1_ h2_ h3_ h4_ h5_ h6_ h7_ h8_ h9_ h10_ h11_ h12_ h13_ h14_ h15_ h16_ h17_ h18_ h19_ h20_ h21_ h22_;have BK631:=n0_;have BK636:=n1_;have BK637:=n2_;have BK638:=n3_;have GW636:=n4_;have GE636:=n5_;have NB631_636:=n6_;have NB636_631:=n7_;have NB637_636:=n8_;have NB636_637:=n9_;have NB638_636:=n10_;have NB636_638:=n11_;have GW637:=n12_;have GE637:=n13_;have NB631_637:=n14_;have NB637_631:=n15_;have NB638_637:=n16_;have NB637_638:=n17_;have GW638:=n18_;have GE638:=n19_;have NB631_638:=n20_;have NB638_631:=n21_;have HB:=n22_;clear n0_ n1_ n2_ n3_ n4_ n5_ n6_ n7_ n8_ n9_ n10_ n11_ n12_ n13_ n14_ n15_ n16_ n17_ n18_ n19_ n20_ n21_ n22_
   have hHeld:w16.cell? ⟨gb631,0,none⟩=some (.slice (some ad634) l0_0.length c0_0)∧w16.cell? ⟨gb631,1,none⟩=some (.int .i64 a0_1)∧w16.cell? ⟨gb631,2,none⟩=some (.int .i64 a0_2)∧w16.cell? ⟨gb631,3,none⟩=some (.int .i64 a0_3)∧w16.cell? ad634=some (.int .i64 ((rd_T74 l0_0 0).f0.f0))∧w16.cell? ⟨ad634.block,ad634.off+1,none⟩=some (.int .i64 ((rd_T74 l0_0 0).f0.f1))∧w16.cell? ⟨ad634.block,ad634.off+2,none⟩=some (.int .i64 ((rd_T74 l0_0 0).f1))∧w16.cell? ⟨ad634.block,ad634.off+3,none⟩=some (.slice A634_3 ((rd_T74 l0_0 0).f2).length c634_3)∧w16.cell? ⟨ad634.block,ad634.off+4,none⟩=some (.int .i64 ((rd_T74 l0_0 1).f0.f0))∧w16.cell? ⟨ad634.block,ad634.off+4+1,none⟩=some (.int .i64 ((rd_T74 l0_0 1).f0.f1))∧w16.cell? ⟨ad634.block,ad634.off+4+2,none⟩=some (.int .i64 ((rd_T74 l0_0 1).f1))∧w16.cell? ⟨ad634.block,ad634.off+4+3,none⟩=some (.slice A635_3 ((rd_T74 l0_0 1).f2).length c635_3):=hS_
   refine norm_ (a':=?_) ?_ ?_
   rotate_left
   ·simp only [putAll,Act.put,List.setIfInBounds_toArray,List.set_cons_zero,List.set_cons_succ]
    rfl
   refine one_ (i:=16) (N:=none) #[true,true,true,true,true,true,true,true,true,true,true,true,true,true,true,true,true,false,false] rfl rfl (one_of HT_.out (by kernel_rfl)) (by decide) (fun K hK=>?_)
   have hs17:w16.cell? ⟨gb636,0,none⟩=some (.int .i64 0):=(blk_cell BK636.out 0).trans rfl
   have hfs17:=blk_frozen BK636.out 0
   have hns17_0:=NB631_636.out
   have hns17_2:=NB637_636.out
   have hns17_3:=NB638_636.out
   have hms17_0:=NB636_631.out
   have hms17_2:=NB636_637.out
   have hms17_3:=NB636_638.out
   have hs18:w16.cell? ⟨gb636,1,none⟩=some (.int .i64 0):=(blk_cell BK636.out 1).trans rfl
   have hfs18:=blk_frozen BK636.out 1
   have hns18_0:=NB631_636.out
   have hns18_2:=NB637_636.out
   have hns18_3:=NB638_636.out
   have hms18_0:=NB636_631.out
   have hms18_2:=NB636_637.out
   have hms18_3:=NB636_638.out
   refine skip_ (w1:=?_) (by rfl) rfl ?_ ?_
   rotate_left
   ·go_simp
    rfl
   refine hK.out _ _ ⟨((cell_far (p:=⟨gb636,_,none⟩) NB631_636.out _).trans (((cell_far (p:=⟨gb636,_,none⟩) NB631_636.out _).trans (hHeld.1)))),((cell_far (p:=⟨gb636,_,none⟩) NB631_636.out _).trans (((cell_far (p:=⟨gb636,_,none⟩) NB631_636.out _).trans (hHeld.2.1)))),((cell_far (p:=⟨gb636,_,none⟩) NB631_636.out _).trans (((cell_far (p:=⟨gb636,_,none⟩) NB631_636.out _).trans (hHeld.2.2.1)))),((cell_far (p:=⟨gb636,_,none⟩) NB631_636.out _).trans (((cell_far (p:=⟨gb636,_,none⟩) NB631_636.out _).trans (hHeld.2.2.2.1)))),((cell_far (p:=⟨gb636,_,none⟩) y26_ _).trans (((cell_far (p:=⟨gb636,_,none⟩) y26_ _).trans (hHeld.2.2.2.2.1)))),((cell_far (p:=⟨gb636,_,none⟩) y23_ _).trans (((cell_far (p:=⟨gb636,_,none⟩) y23_ _).trans (hHeld.2.2.2.2.2.1)))),((cell_far (p:=⟨gb636,_,none⟩) y20_ _).trans (((cell_far (p:=⟨gb636,_,none⟩) y20_ _).trans (hHeld.2.2.2.2.2.2.1)))),((cell_far (p:=⟨gb636,_,none⟩) y1x_ _).trans (((cell_far (p:=⟨gb636,_,none⟩) y1x_ _).trans (hHeld.2.2.2.2.2.2.2.1)))),((cell_far (p:=⟨gb636,_,none⟩) y1u_ _).trans (((cell_far (p:=⟨gb636,_,none⟩) y1u_ _).trans (hHeld.2.2.2.2.2.2.2.2.1)))),((cell_far (p:=⟨gb636,_,none⟩) y1r_ _).trans (((cell_far (p:=⟨gb636,_,none⟩) y1r_ _).trans (hHeld.2.2.2.2.2.2.2.2.2.1)))),((cell_far (p:=⟨gb636,_,none⟩) y1o_ _).trans (((cell_far (p:=⟨gb636,_,none⟩) y1o_ _).trans (hHeld.2.2.2.2.2.2.2.2.2.2.1)))),((cell_far (p:=⟨gb636,_,none⟩) y1l_ _).trans (((cell_far (p:=⟨gb636,_,none⟩) y1l_ _).trans (hHeld.2.2.2.2.2.2.2.2.2.2.2))))⟩ (fun hHeld=>?_)
   clear hK K
   refine one_ (i:=17) (N:=none) #[true,true,true,true,true,true,true,true,true,true,true,true,true,true,true,true,true,true,false] rfl rfl (one_of HT_.out (by kernel_rfl)) (by decide) (fun K hK=>?_)
   have hs19:w16.cell? ⟨gb637,0,none⟩=some (.int .i64 0):=(blk_cell BK637.out 0).trans rfl
   have hfs19:=blk_frozen BK637.out 0
   have hns19_0:=NB631_637.out
   have hns19_1:=NB636_637.out
   have hns19_3:=NB638_637.out
   have hms19_0:=NB637_631.out
   have hms19_1:=NB637_636.out
   have hms19_3:=NB637_638.out
   have hs20:w16.cell? ⟨gb637,1,none⟩=some (.int .i64 0):=(blk_cell BK637.out 1).trans rfl
   have hfs20:=blk_frozen BK637.out 1
   have hns20_0:=NB631_637.out
   have hns20_1:=NB636_637.out
   have hns20_3:=NB638_637.out
   have hms20_0:=NB637_631.out
   have hms20_1:=NB637_636.out
   have hms20_3:=NB637_638.out
   refine skip_ (w1:=?_) (by rfl) rfl ?_ ?_
   rotate_left
   ·go_simp
    rfl
   refine hK.out _ _ ⟨((cell_far (p:=⟨gb637,_,none⟩) NB631_637.out _).trans (((cell_far (p:=⟨gb637,_,none⟩) NB631_637.out _).trans (hHeld.1)))),((cell_far (p:=⟨gb637,_,none⟩) NB631_637.out _).trans (((cell_far (p:=⟨gb637,_,none⟩) NB631_637.out _).trans (hHeld.2.1)))),((cell_far (p:=⟨gb637,_,none⟩) NB631_637.out _).trans (((cell_far (p:=⟨gb637,_,none⟩) NB631_637.out _).trans (hHeld.2.2.1)))),((cell_far (p:=⟨gb637,_,none⟩) NB631_637.out _).trans (((cell_far (p:=⟨gb637,_,none⟩) NB631_637.out _).trans (hHeld.2.2.2.1)))),((cell_far (p:=⟨gb637,_,none⟩) y25_ _).trans (((cell_far (p:=⟨gb637,_,none⟩) y25_ _).trans (hHeld.2.2.2.2.1)))),((cell_far (p:=⟨gb637,_,none⟩) y22_ _).trans (((cell_far (p:=⟨gb637,_,none⟩) y22_ _).trans (hHeld.2.2.2.2.2.1)))),((cell_far (p:=⟨gb637,_,none⟩) y1z_ _).trans (((cell_far (p:=⟨gb637,_,none⟩) y1z_ _).trans (hHeld.2.2.2.2.2.2.1)))),((cell_far (p:=⟨gb637,_,none⟩) y1w_ _).trans (((cell_far (p:=⟨gb637,_,none⟩) y1w_ _).trans (hHeld.2.2.2.2.2.2.2.1)))),((cell_far (p:=⟨gb637,_,none⟩) y1t_ _).trans (((cell_far (p:=⟨gb637,_,none⟩) y1t_ _).trans (hHeld.2.2.2.2.2.2.2.2.1)))),((cell_far (p:=⟨gb637,_,none⟩) y1q_ _).trans (((cell_far (p:=⟨gb637,_,none⟩) y1q_ _).trans (hHeld.2.2.2.2.2.2.2.2.2.1)))),((cell_far (p:=⟨gb637,_,none⟩) y1n_ _).trans (((cell_far (p:=⟨gb637,_,none⟩) y1n_ _).trans (hHeld.2.2.2.2.2.2.2.2.2.2.1)))),((cell_far (p:=⟨gb637,_,none⟩) y1k_ _).trans (((cell_far (p:=⟨gb637,_,none⟩) y1k_ _).trans (hHeld.2.2.2.2.2.2.2.2.2.2.2))))⟩ (fun hHeld=>?_)
   clear hK K
   refine one_ (i:=18) (N:=none) #[true,true,true,true,true,true,true,true,true,true,true,true,true,true,true,true,true,true,true] rfl rfl (one_of HT_.out (by kernel_rfl)) (by decide) (fun K hK=>?_)
   have hs21:w16.cell? ⟨gb638,0,none⟩=some (.int .i64 0):=(blk_cell BK638.out 0).trans rfl
   have hfs21:=blk_frozen BK638.out 0
   have hns21_0:=NB631_638.out
   have hns21_1:=NB636_638.out
   have hns21_2:=NB637_638.out
   have hms21_0:=NB638_631.out
   have hms21_1:=NB638_636.out
   have hms21_2:=NB638_637.out
   have hs22:w16.cell? ⟨gb638,1,none⟩=some (.int .i64 0):=(blk_cell BK638.out 1).trans rfl
   have hfs22:=blk_frozen BK638.out 1
   have hns22_0:=NB631_638.out
   have hns22_1:=NB636_638.out
   have hns22_2:=NB637_638.out
   have hms22_0:=NB638_631.out
   have hms22_1:=NB638_636.out
   have hms22_2:=NB638_637.out
   refine skip_ (w1:=?_) (by rfl) rfl ?_ ?_
   rotate_left
   ·go_simp
    rfl
   refine hK.out _ _ ⟨((cell_far (p:=⟨gb638,_,none⟩) NB631_638.out _).trans (((cell_far (p:=⟨gb638,_,none⟩) NB631_638.out _).trans (hHeld.1)))),((cell_far (p:=⟨gb638,_,none⟩) NB631_638.out _).trans (((cell_far (p:=⟨gb638,_,none⟩) NB631_638.out _).trans (hHeld.2.1)))),((cell_far (p:=⟨gb638,_,none⟩) NB631_638.out _).trans (((cell_far (p:=⟨gb638,_,none⟩) NB631_638.out _).trans (hHeld.2.2.1)))),((cell_far (p:=⟨gb638,_,none⟩) NB631_638.out _).trans (((cell_far (p:=⟨gb638,_,none⟩) NB631_638.out _).trans (hHeld.2.2.2.1)))),((cell_far (p:=⟨gb638,_,none⟩) y24_ _).trans (((cell_far (p:=⟨gb638,_,none⟩) y24_ _).trans (hHeld.2.2.2.2.1)))),((cell_far (p:=⟨gb638,_,none⟩) y21_ _).trans (((cell_far (p:=⟨gb638,_,none⟩) y21_ _).trans (hHeld.2.2.2.2.2.1)))),((cell_far (p:=⟨gb638,_,none⟩) y1y_ _).trans (((cell_far (p:=⟨gb638,_,none⟩) y1y_ _).trans (hHeld.2.2.2.2.2.2.1)))),((cell_far (p:=⟨gb638,_,none⟩) y1v_ _).trans (((cell_far (p:=⟨gb638,_,none⟩) y1v_ _).trans (hHeld.2.2.2.2.2.2.2.1)))),((cell_far (p:=⟨gb638,_,none⟩) y1s_ _).trans (((cell_far (p:=⟨gb638,_,none⟩) y1s_ _).trans (hHeld.2.2.2.2.2.2.2.2.1)))),((cell_far (p:=⟨gb638,_,none⟩) y1p_ _).trans (((cell_far (p:=⟨gb638,_,none⟩) y1p_ _).trans (hHeld.2.2.2.2.2.2.2.2.2.1)))),((cell_far (p:=⟨gb638,_,none⟩) y1m_ _).trans (((cell_far (p:=⟨gb638,_,none⟩) y1m_ _).trans (hHeld.2.2.2.2.2.2.2.2.2.2.1)))),((cell_far (p:=⟨gb638,_,none⟩) y1j_ _).trans (((cell_far (p:=⟨gb638,_,none⟩) y1j_ _).trans (hHeld.2.2.2.2.2.2.2.2.2.2.2))))⟩ (fun hHeld=>?_)
   clear hK K
   refine done_ (done_of HT_.out (by kernel_rfl)) ?_
   try go_wp2
   have n0_:Aside0 (((((((w16.setCell ⟨gb636,0,none⟩ (.int .i64 ((rd_T74 l0_0 0).f0.f0))).setCell ⟨gb636,1,none⟩ (.int .i64 ((rd_T74 l0_0 0).f0.f1))).setCell ⟨gb637,0,none⟩ (.int .i64 ((rd_T74 l0_0 1).f0.f0))).setCell ⟨gb637,1,none⟩ (.int .i64 ((rd_T74 l0_0 1).f0.f1))).setCell ⟨gb638,0,none⟩ (.int .i64 a0_1)).setCell ⟨gb638,1,none⟩ (.int .i64 a0_2)).heap[gb631]?=some (.cells #[.slice (some ad634) l0_0.length c0_0,.int .i64 a0_1,.int .i64 a0_2,.int .i64 a0_3] 29 (0,0))):=⟨by (with_reducible repeat (first|refine blk_drewN ?_ _|refine blk_drew ?_|refine blk_alloc ?_ _));refine blk_far ?_ NB631_638.out _;(with_reducible repeat (first|refine blk_drewN ?_ _|refine blk_drew ?_|refine blk_alloc ?_ _));refine blk_far ?_ NB631_638.out _;(with_reducible repeat (first|refine blk_drewN ?_ _|refine blk_drew ?_|refine blk_alloc ?_ _));refine blk_far ?_ NB631_637.out _;(with_reducible repeat (first|refine blk_drewN ?_ _|refine blk_drew ?_|refine blk_alloc ?_ _));refine blk_far ?_ NB631_637.out _;(with_reducible repeat (first|refine blk_drewN ?_ _|refine blk_drew ?_|refine blk_alloc ?_ _));refine blk_far ?_ NB631_636.out _;(with_reducible repeat (first|refine blk_drewN ?_ _|refine blk_drew ?_|refine blk_alloc ?_ _));refine blk_far ?_ NB631_636.out _;(with_reducible repeat (first|refine blk_drewN ?_ _|refine blk_drew ?_|refine blk_alloc ?_ _));exact BK631.out⟩
   have n1_:Aside0 (((((((w16.setCell ⟨gb636,0,none⟩ (.int .i64 ((rd_T74 l0_0 0).f0.f0))).setCell ⟨gb636,1,none⟩ (.int .i64 ((rd_T74 l0_0 0).f0.f1))).setCell ⟨gb637,0,none⟩ (.int .i64 ((rd_T74 l0_0 1).f0.f0))).setCell ⟨gb637,1,none⟩ (.int .i64 ((rd_T74 l0_0 1).f0.f1))).setCell ⟨gb638,0,none⟩ (.int .i64 a0_1)).setCell ⟨gb638,1,none⟩ (.int .i64 a0_2)).heap[gb636]?=some (.cells #[.int .i64 ((rd_T74 l0_0 0).f0.f0),.int .i64 ((rd_T74 l0_0 0).f0.f1)] 25 (0,0))):=⟨by (with_reducible repeat (first|refine blk_drewN ?_ _|refine blk_drew ?_|refine blk_alloc ?_ _));refine blk_far ?_ NB636_638.out _;(with_reducible repeat (first|refine blk_drewN ?_ _|refine blk_drew ?_|refine blk_alloc ?_ _));refine blk_far ?_ NB636_638.out _;(with_reducible repeat (first|refine blk_drewN ?_ _|refine blk_drew ?_|refine blk_alloc ?_ _));refine blk_far ?_ NB636_637.out _;(with_reducible repeat (first|refine blk_drewN ?_ _|refine blk_drew ?_|refine blk_alloc ?_ _));refine blk_far ?_ NB636_637.out _;(with_reducible repeat (first|refine blk_drewN ?_ _|refine blk_drew ?_|refine blk_alloc ?_ _));refine blk_put (cs:=#[.int .i64 ((rd_T74 l0_0 0).f0.f0),.int .i64 0]) ?_ 1 _ rfl;(with_reducible repeat (first|refine blk_drewN ?_ _|refine blk_drew ?_|refine blk_alloc ?_ _));refine blk_put (cs:=#[.int .i64 0,.int .i64 0]) ?_ 0 _ rfl;(with_reducible repeat (first|refine blk_drewN ?_ _|refine blk_drew ?_|refine blk_alloc ?_ _));exact BK636.out⟩
   have n2_:Aside0 (((((((w16.setCell ⟨gb636,0,none⟩ (.int .i64 ((rd_T74 l0_0 0).f0.f0))).setCell ⟨gb636,1,none⟩ (.int .i64 ((rd_T74 l0_0 0).f0.f1))).setCell ⟨gb637,0,none⟩ (.int .i64 ((rd_T74 l0_0 1).f0.f0))).setCell ⟨gb637,1,none⟩ (.int .i64 ((rd_T74 l0_0 1).f0.f1))).setCell ⟨gb638,0,none⟩ (.int .i64 a0_1)).setCell ⟨gb638,1,none⟩ (.int .i64 a0_2)).heap[gb637]?=some (.cells #[.int .i64 ((rd_T74 l0_0 1).f0.f0),.int .i64 ((rd_T74 l0_0 1).f0.f1)] 25 (0,0))):=⟨by (with_reducible repeat (first|refine blk_drewN ?_ _|refine blk_drew ?_|refine blk_alloc ?_ _));refine blk_far ?_ NB637_638.out _;(with_reducible repeat (first|refine blk_drewN ?_ _|refine blk_drew ?_|refine blk_alloc ?_ _));refine blk_far ?_ NB637_638.out _;(with_reducible repeat (first|refine blk_drewN ?_ _|refine blk_drew ?_|refine blk_alloc ?_ _));refine blk_put (cs:=#[.int .i64 ((rd_T74 l0_0 1).f0.f0),.int .i64 0]) ?_ 1 _ rfl;(with_reducible repeat (first|refine blk_drewN ?_ _|refine blk_drew ?_|refine blk_alloc ?_ _));refine blk_put (cs:=#[.int .i64 0,.int .i64 0]) ?_ 0 _ rfl;(with_reducible repeat (first|refine blk_drewN ?_ _|refine blk_drew ?_|refine blk_alloc ?_ _));refine blk_far ?_ NB637_636.out _;(with_reducible repeat (first|refine blk_drewN ?_ _|refine blk_drew ?_|refine blk_alloc ?_ _));refine blk_far ?_ NB637_636.out _;(with_reducible repeat (first|refine blk_drewN ?_ _|refine blk_drew ?_|refine blk_alloc ?_ _));exact BK637.out⟩
   have n3_:Aside0 (((((((w16.setCell ⟨gb636,0,none⟩ (.int .i64 ((rd_T74 l0_0 0).f0.f0))).setCell ⟨gb636,1,none⟩ (.int .i64 ((rd_T74 l0_0 0).f0.f1))).setCell ⟨gb637,0,none⟩ (.int .i64 ((rd_T74 l0_0 1).f0.f0))).setCell ⟨gb637,1,none⟩ (.int .i64 ((rd_T74 l0_0 1).f0.f1))).setCell ⟨gb638,0,none⟩ (.int .i64 a0_1)).setCell ⟨gb638,1,none⟩ (.int .i64 a0_2)).heap[gb638]?=some (.cells #[.int .i64 a0_1,.int .i64 a0_2] 25 (0,0))):=⟨by (with_reducible repeat (first|refine blk_drewN ?_ _|refine blk_drew ?_|refine blk_alloc ?_ _));refine blk_put (cs:=#[.int .i64 a0_1,.int .i64 0]) ?_ 1 _ rfl;(with_reducible repeat (first|refine blk_drewN ?_ _|refine blk_drew ?_|refine blk_alloc ?_ _));refine blk_put (cs:=#[.int .i64 0,.int .i64 0]) ?_ 0 _ rfl;(with_reducible repeat (first|refine blk_drewN ?_ _|refine blk_drew ?_|refine blk_alloc ?_ _));refine blk_far ?_ NB638_637.out _;(with_reducible repeat (first|refine blk_drewN ?_ _|refine blk_drew ?_|refine blk_alloc ?_ _));refine blk_far ?_ NB638_637.out _;(with_reducible repeat (first|refine blk_drewN ?_ _|refine blk_drew ?_|refine blk_alloc ?_ _));refine blk_far ?_ NB638_636.out _;(with_reducible repeat (first|refine blk_drewN ?_ _|refine blk_drew ?_|refine blk_alloc ?_ _));refine blk_far ?_ NB638_636.out _;(with_reducible repeat (first|refine blk_drewN ?_ _|refine blk_drew ?_|refine blk_alloc ?_ _));exact BK638.out⟩
   have n4_:Aside0 (Below w.heap.size w ((((((w16.setCell ⟨gb636,0,none⟩ (.int .i64 ((rd_T74 l0_0 0).f0.f0))).setCell ⟨gb636,1,none⟩ (.int .i64 ((rd_T74 l0_0 0).f0.f1))).setCell ⟨gb637,0,none⟩ (.int .i64 ((rd_T74 l0_0 1).f0.f0))).setCell ⟨gb637,1,none⟩ (.int .i64 ((rd_T74 l0_0 1).f0.f1))).setCell ⟨gb638,0,none⟩ (.int .i64 a0_1)).setCell ⟨gb638,1,none⟩ (.int .i64 a0_2))):=⟨y28_⟩
   (try clear BK631);(try clear BK636);(try clear BK637);(try clear BK638);(try clear HB)
   generalize ((((((w16.setCell ⟨gb636,0,none⟩ (.int .i64 ((rd_T74 l0_0 0).f0.f0))).setCell ⟨gb636,1,none⟩ (.int .i64 ((rd_T74 l0_0 0).f0.f1))).setCell ⟨gb637,0,none⟩ (.int .i64 ((rd_T74 l0_0 1).f0.f0))).setCell ⟨gb637,1,none⟩ (.int .i64 ((rd_T74 l0_0 1).f0.f1))).setCell ⟨gb638,0,none⟩ (.int .i64 a0_1)).setCell ⟨gb638,1,none⟩ (.int .i64 a0_2))=w23 at n0_ n1_ n2_ n3_ n4_ ⊢
   have BK631:=n0_;have BK636:=n1_;have BK637:=n2_;have BK638:=n3_;have HB:=n4_;clear n0_ n1_ n2_ n3_ n4_;have n0_:=A0_ (blk_drew BK631.out);have n1_:=A0_ (blk_drew BK636.out);have n2_:=A0_ (blk_drew BK637.out);have n3_:=A0_ (blk_drew BK638.out);have n4_:=A0_ (below_drew1 HB.out);clear BK631;clear BK636;clear BK637;clear BK638;clear HB;have BK631:=n0_;have BK636:=n1_;have BK637:=n2_;have BK638:=n3_;have HB:=n4_;clear n0_ n1_ n2_ n3_ n4_
   refine start_ (n:=23) (S:=fun w'=>w'.cell? ⟨gb636,0,none⟩=some (.int .i64 ((rd_T74 l0_0 0).f0.f0))∧w'.cell? ⟨gb636,1,none⟩=some (.int .i64 ((rd_T74 l0_0 0).f0.f1))∧w'.cell? ⟨gb637,0,none⟩=some (.int .i64 ((rd_T74 l0_0 1).f0.f0))∧w'.cell? ⟨gb637,1,none⟩=some (.int .i64 ((rd_T74 l0_0 1).f0.f1))∧w'.cell? ⟨gb638,0,none⟩=some (.int .i64 a0_1)∧w'.cell? ⟨gb638,1,none⟩=some (.int .i64 a0_2)) (ds:=[]) #[false,false,false,false,false,false,false,false,false,false,false,false,false,false,false,false,false,false,false,false,false,false,false] (by kernel_rfl) rfl rfl ⟨(blk_cell BK636.out 0).trans rfl,(blk_cell BK636.out 1).trans rfl,(blk_cell BK637.out 0).trans rfl,(blk_cell BK637.out 1).trans rfl,(blk_cell BK638.out 0).trans rfl,(blk_cell BK638.out 1).trans rfl⟩ (fun hHeld=>?_);refine with_tabW sky_drift.tab3 sky_drift.bits3 (fun HT_ HW_=>?_)
   generalize w23.drew=w24 at BK631 BK636 BK637 BK638 HB hHeld ⊢
   refine pu_ (i:=0) (N:=some 34) ?_;refine pu_ (i:=1) (N:=some 35) ?_;refine pu_ (i:=2) (N:=some 36) ?_;refine pu_ (i:=5) (N:=some 39) ?_;refine pu_ (i:=7) (N:=some 41) ?_;refine pu_ (i:=10) (N:=some 44) ?_;refine pu_ (i:=12) (N:=some 46) ?_;refine pu_ (i:=17) (N:=some 51) ?_;refine pu_ (i:=18) (N:=some 52) ?_;refine ta_ (i:=3) (N:=some 37) ?_;refine pu_ (i:=4) (N:=some 38) ?_;refine ta_ (i:=6) (N:=some 40) ?_;refine ta_ (i:=8) (N:=some 42) ?_;refine pu_ (i:=9) (N:=some 43) ?_;refine ta_ (i:=11) (N:=some 45) ?_;refine ta_ (i:=13) (N:=some 47) ?_;refine pu_ (i:=14) (N:=some 48) ?_;refine pu_ (i:=15) (N:=some 49) ?_;refine pu_ (i:=16) (N:=some 50) ?_;refine pu_ (i:=21) (N:=some 10) ?_;refine ta_ (i:=19) (N:=some 53) ?_;refine pu_ (i:=20) (N:=some 54) ?_;refine pu_ (i:=22) (N:=some 11) ?_
   refine done_ (done_of HT_.out (by kernel_rfl)) ?_
   try go_wp2_with (first|((with_reducible refine gate_callee (f:=130) rfl ?_);refine goesL_ (some 58) rfl rfl Tryz.func130 (by kernel_rfl) rfl #[.int .i64 (wrap64 ((wrap64 ((wrap64 (2*a1))*((rd_T74 l0_0 0).f0.f0)))*(wrap64 ((wrap64 (((rd_T74 l0_0 1).f0.f1)*a0_1))+(wrap64 (a0_2*((rd_T74 l0_0 1).f0.f0))))))),.int .i64 (wrap64 (t633*a0_1))] rfl y1_ ?_;(with_reducible refine (sky_floor.calls (wrap64 ((wrap64 ((wrap64 (2*a1))*((rd_T74 l0_0 0).f0.f0)))*(wrap64 ((wrap64 (((rd_T74 l0_0 1).f0.f1)*a0_1))+(wrap64 (a0_2*((rd_T74 l0_0 1).f0.f0))))))) (wrap64 (t633*a0_1)) t639 t640 _ A6.out).mono ?_);rintro e w' ⟨rfl,⟨nd,rfl⟩⟩;refine ⟨_,rfl,?_⟩)|((with_reducible refine gate_callee (f:=130) rfl ?_);refine goesL_ (some 69) rfl rfl Tryz.func130 (by kernel_rfl) rfl #[.int .i64 (wrap64 ((ji7)*10800)),.int .i64 (wrap64 (t633*a0_1))] rfl (by (try simp only [List.map_toArray,List.map_cons,List.map_nil]);first|done|(simp only [hji7];rfl)|rfl|(simp only [List.length_drop,List.length_take];rfl)) ?_;(with_reducible refine (sky_floor.calls (wrap64 ((ji7)*10800)) (wrap64 (t633*a0_1)) t641 t642 _ A8.out).mono ?_);rintro e w' ⟨rfl,⟨nd,rfl⟩⟩;refine ⟨_,rfl,?_⟩))
   go_ret
   exact ⟨by first|rfl|(simp [errW_none,errW_some] <;> rfl)|(simp only [← hji7];first|rfl|(simp [errW_none,errW_some] <;> rfl))|(simp [*,errW_none,errW_some] <;> rfl),y28_⟩
  ·rw [if_neg c5] at H;exact absurd H (by simp)
 ·rw [if_neg c4] at H;exact absurd H (by simp)
end Go.Proofs.YtjahbgldccjbfaaGreatDoor.PSky
end
section
namespace Go.Proofs.YtjahbgldccjbfaaGreatDoor.PSky
open Go.RowKit Go.Proofs.YtjahbgldccjbfaaGreatDoorW.PrintWords Go.Proofs.YtjahbgldccjbfaaGreatDoorW.PrintLast Go.Proofs.YtjahbgldccjbfaaGreatDoorW.PrintMore
attribute [local go_sem] max2_int min2_int max_two min_two max_three min_three max_four min_four
set_option linter.unusedVariables false
set_option linter.unusedSimpArgs false
def sky_reached.f (a0:Int) (a1:Int) (a2:Int):Option (Int):=(sky_around.f (wrap64 (a0+(wrap64 (Int.tdiv (wrap64 (a1*a2)) 1000))))).bind fun t643=>(some t643)
set_option maxHeartbeats 8000000 in
set_option maxRecDepth 100000 in
theorem sky_reached.calls (a0:Int) (a1:Int) (a2:Int) (r:Int) (w:World) (h:sky_reached.f a0 a1 a2=some r):
  Calls Tryz.prog 138 #[.int .i64 a0,.int .i64 a1,.int .i64 a2] w fun e w'=>e=.returned (.int .i64 r)∧Drawn0 w w':=by
 have H:((sky_around.f (wrap64 (a0+(wrap64 (Int.tdiv (wrap64 (a1*a2)) 1000))))).bind fun t643=>(some t643))=some r:=h
 clear h;replace H:=Option.bind_eq_some_iff.mp H;obtain ⟨t643,A40,H⟩:=H
 replace H:(some t643)=some r:=H
 have A4:=A0_ A40;clear A40;obtain rfl:=Option.some.inj H
 go_enter Tryz.func138,Tryz.ntmps138
 go_wp2_with (first|((with_reducible refine gate_callee (f:=80) rfl ?_);refine goesL_ (some 13) rfl rfl Tryz.func80 (by kernel_rfl) rfl #[.int .i64 (wrap64 (a0+(wrap64 (Int.tdiv (wrap64 (a1*a2)) 1000))))] rfl y1_ ?_;(with_reducible refine (sky_around.calls (wrap64 (a0+(wrap64 (Int.tdiv (wrap64 (a1*a2)) 1000)))) t643 _ A4.out).mono ?_);rintro e w' ⟨rfl,⟨nd,rfl⟩⟩;refine ⟨_,rfl,?_⟩))
 go_ret
 exact ⟨y4_,yb_⟩
mutual
def sky_agreeing.l0:Nat→Int→List (S89)→Int→List Int→Int→Option (List Int)
 |0,_,_,_,_,_=>none
 |k+1,x0,x1,x3,x9,x10=>if x10≤x3 then (sky_agreeing.l1 k x0 x1 x3 x9 x10 x1 (x1.length:Int) 0) else (if (x9.length:Int)=0 then (some x9) else (some x9))
def sky_agreeing.l1:Nat→Int→List (S89)→Int→List Int→Int→List (S89)→Int→Int→Option (List Int)
 |0,_,_,_,_,_,_,_,_=>none
 |k+1,x0,x1,x3,x9,x10,x19,x20,x21=>if x21<x20 then (if 0≤x21 then (if x21<(x19.length:Int) then ((sky_reached.f x0 x10 ((rd_T89 x19 x21).f0)).bind fun t649=>((sky_round.f (wrap64 (t649 - ((rd_T89 x19 x21).f1)))).bind fun t650=>(if t650 > ((rd_T89 x19 x21).f2) then (sky_agreeing.l0 k x0 x1 x3 x9 (wrap64 (x10+1))) else (sky_agreeing.l1 k x0 x1 x3 x9 x10 x19 x20 (wrap64 (x21+1)))))) else (none)) else (none)) else (if x9.length<17592186044416 then (sky_agreeing.l0 k x0 x1 x3 (x9 ++ [x10]) (wrap64 (x10+1))) else (none))
end
def sky_agreeing.f (k:Nat) (a0:Int) (l1:List (S89)) (a2:Int) (a3:Int):Option (List Int):=sky_agreeing.l0 k a0 l1 a3 ([]:List Int) a2
def sky_agreeing.T8:Bool × List (List Nat × List Nat):=(true,[([],[]),([],[]),([],[]),([2],[2]),([0,1,3],[0,1,3]),([],[]),([5],[5]),([4,6],[4,6]),([7,4],[7]),([],[]),([9],[9]),([8,10],[8,10])])
def sky_agreeing.B8:List Nat:=[0,0,0,4,15,0,32,127,255,0,512,2047]
theorem sky_agreeing.tab8:rtab .any (opsOf Tryz.f103 8)=sky_agreeing.T8:=by kernel_rfl
theorem sky_agreeing.bits8:waitsOk sky_agreeing.T8.2 sky_agreeing.B8=true:=by kernel_rfl
set_option maxHeartbeats 8000000 in
set_option maxRecDepth 100000 in
theorem sky_agreeing.calls (k:Nat) (a0:Int) (A1:Option Addr) (c1:Nat) (l1:List (S89)) (a2:Int) (a3:Int) (r:List Int) (w:World) (hr1:Kd.C k89 w A1 l1.length l1) (hc1:l1.length≤c1) (h:sky_agreeing.f k a0 l1 a2 a3=some r):
  Calls Tryz.prog 103 #[.int .i64 a0,.slice A1 l1.length c1,.int .i64 a2,.int .i64 a3] w fun e w'=>(r=[]∧e=.panicked [{ v:=.iface 126 (.agg #[.int .i64 5]),recovered:=false }]∧Below w.heap.size w w')∨(r≠[]∧∃ v0_:Value,e=.returned (v0_)∧Kd.R (Kd.int .i64) 3 w' w.heap.size (fun _=>True) v0_ r∧Below w.heap.size w w'):=by
 have hu89:=Tryz.underlying89
 have hu126:=Tryz.underlying126
 have HR1:=A0_ hr1;have HC1:=A0_ hc1;clear hr1 hc1
 have HB:=A0_ (Below.refl w.heap.size w)
 have H:(sky_agreeing.l0 k a0 l1 a3 ([]:List Int) a2)=some r:=h
 clear h
 have H':=A0_ H
 clear H
 go_enter Tryz.func103,Tryz.ntmps103
 go_wp2
 refine wp_scope_straight ?_
 go_wp2
 refine wp_label ?_
 go_wp2
 go_loopg [9,10] k (fun kq v9 v10 w'=>∃ (x9_1:List Int) (x10_1:Int),v10=.int .i64 x10_1∧Aside0 (sky_agreeing.l0 kq a0 l1 a3 x9_1 x10_1=some r)∧Aside0 (kq≤k)∧Aside0 (Kd.R (Kd.int .i64) 3 w' w.heap.size (fun _=>True) v9 x9_1)∧Aside0 (Below w.heap.size w w'))
 case atStart=>exact ⟨(([]:List Int)),(a2),y4_,H',⟨Nat.le_refl _⟩,⟨by first|exact Kd.R_nil _ _ _ _ _|exact Kd.N_nil _ _ _ _ _|exact Kd.V_nil _ _ _ _ _|exact Kd.Q_nil _ _ _ _ _|exact Kd.S_nil _ _ _ _ _⟩,⟨y0_⟩⟩
 case round=>
  clear H'
  (try clear c1);(try clear p2)
  obtain ⟨x9_1,x10_1,rfl,HA,HK1,HO_9,HB⟩:=hrel
  cases gk with
  |zero=>exact absurd HA.out (by simp [sky_agreeing.l0])
  |succ k1=>
   have H:=HA.out
   clear HA
   simp only [sky_agreeing.l0] at H
   by_cases c5:x10_1≤a3
   ·rw [if_pos c5] at H;have c5b0:decide (x10_1≤a3)=true:=decide_eq_true c5;clear c5
    have H':=A0_ H
    clear H;go_wp2
    go_loopg [21] k1 (fun kq v21 w'=>∃ (x21_2:Int),v21=.int .i64 x21_2∧Aside0 (sky_agreeing.l1 kq a0 l1 a3 x9_1 x10_1 l1 (l1.length:Int) x21_2=some r)∧Aside0 (kq≤k1)∧Aside0 (Kd.R (Kd.int .i64) 3 w' w.heap.size (fun _=>True) u9 x9_1)∧Aside0 (Below w.heap.size w w'))
    case atStart=>exact ⟨(0),y4_,H',⟨Nat.le_refl _⟩,⟨by (with_reducible repeat (first|apply Kd.R_alloc|apply Kd.R_drewN|apply Kd.R_drew));exact HO_9.out⟩,⟨y0_⟩⟩
    case round=>
     clear H'
     (try clear c1);(try clear p2);(try clear c5);(try clear c5b0);(try clear p2)
     obtain ⟨x21_2,rfl,HA,HK2,HO_9,HB⟩:=hrel
     cases gk with
     |zero=>exact absurd HA.out (by simp [sky_agreeing.l1])
     |succ k2=>
      have H:=HA.out
      clear HA
      simp only [sky_agreeing.l1] at H
      by_cases c6:x21_2<(l1.length:Int)
      ·rw [if_pos c6] at H;have c6b0:decide (x21_2<(l1.length:Int))=true:=decide_eq_true c6;clear c6
       by_cases c7:0≤x21_2
       ·rw [if_pos c7] at H;have c7b0:decide (0≤x21_2)=true:=decide_eq_true c7;clear c7
        by_cases c8:x21_2<(l1.length:Int)
        ·rw [if_pos c8] at H;have c8b0:decide (x21_2<(l1.length:Int))=true:=decide_eq_true c8;clear c8;replace H:=Option.bind_eq_some_iff.mp H;obtain ⟨t649,A90,H⟩:=H
         replace H:((sky_round.f (wrap64 (t649 - ((rd_T89 l1 x21_2).f1)))).bind fun t650=>(if t650 > ((rd_T89 l1 x21_2).f2) then (sky_agreeing.l0 k2 a0 l1 a3 x9_1 (wrap64 (x10_1+1))) else (sky_agreeing.l1 k2 a0 l1 a3 x9_1 x10_1 l1 (l1.length:Int) (wrap64 (x21_2+1)))))=some r:=H
         have A9:=A0_ A90;clear A90;replace H:=Option.bind_eq_some_iff.mp H;obtain ⟨t650,A100,H⟩:=H
         replace H:(if t650 > ((rd_T89 l1 x21_2).f2) then (sky_agreeing.l0 k2 a0 l1 a3 x9_1 (wrap64 (x10_1+1))) else (sky_agreeing.l1 k2 a0 l1 a3 x9_1 x10_1 l1 (l1.length:Int) (wrap64 (x21_2+1))))=some r:=H
         have A10:=A0_ A100;clear A100
         by_cases c11:t650 > ((rd_T89 l1 x21_2).f2)
         ·rw [if_pos c11] at H;have c11b0:decide (((rd_T89 l1 x21_2).f2)<t650)=true:=decide_eq_true c11;clear c11
          have H':=A0_ H
          clear H
          have p647:0≤(x21_2:Int):=of_decide_eq_true y5_
          have q647:x21_2<(l1.length:Int):=of_decide_eq_true y5_
          obtain ⟨ad647,e647,hx647_0,hx647_1,hx647_2⟩:=at_T89 HR1.out x21_2 p647 q647
          cases e647
          replace hx647_0:=(HB.out.cell (World.block_lt_of_cell? w _ hx647_0)).trans hx647_0
          replace hx647_1:=(HB.out.cell (World.block_lt_of_cell? w _ hx647_1)).trans hx647_1
          replace hx647_2:=(HB.out.cell (World.block_lt_of_cell? w _ hx647_2)).trans hx647_2
          replace p647:=eq_true p647
          replace q647:=eq_true q647
          try go_wp2_with (first|((with_reducible refine gate_dst (N:=12) rfl ?_);refine box_event ?hg (N:=12) ?hd (cs:=#[.int .i64 0,.int .i64 0,.int .i64 0]) (t:=89) ?hr ?_;(case hd=>rfl);(case hg=>rfl);(case hr=>first|(go_simp;done)|(go_simp;rfl));intro gb648 hg w12 hbox hb;have n0_:=A0_ (Kd.R_below (rd_ HO_9.out) hb);have n1_:=A0_ (below_step y0_ hb);have n2_:=A0_ (hbox);have n3_:=A0_ ((by rw [hg];exact (below_size y0_):w.heap.size≤gb648));have n4_:=A0_ ((by rw [hg];exact (below_size y0_):w.heap.size≤gb648));clear HO_9;clear HB;have HO_9:=n0_;have HB:=n1_;have BK648:=n2_;have GW648:=n3_;have GE648:=n4_;clear n0_ n1_ n2_ n3_ n4_;clear hb hbox hg;obtain ⟨hcz13_0,hcz13_1,hcz13_2,hfz13_0,hfz13_1,hfz13_2⟩:=bq3_ BK648.out))
          have n0_:Aside0 (Kd.R (Kd.int .i64) 3 (((w12.setCell ⟨gb648,0,none⟩ (.int .i64 ((rd_T89 l1 x21_2).f0))).setCell ⟨gb648,1,none⟩ (.int .i64 ((rd_T89 l1 x21_2).f1))).setCell ⟨gb648,2,none⟩ (.int .i64 ((rd_T89 l1 x21_2).f2))) w.heap.size (fun _=>True) u9 x9_1):=⟨by (with_reducible repeat (first|apply Kd.R_alloc|apply Kd.R_drewN|apply Kd.R_drew));exact Kd.R_mono (Kd.R_far (p:=⟨gb648,2,none⟩) (Kd.R_far (p:=⟨gb648,1,none⟩) (Kd.R_far (p:=⟨gb648,0,none⟩) (Kd.R_types HO_9.out BK648.out (by decide)) (fun _ hk=>hk.2) (.int .i64 ((rd_T89 l1 x21_2).f0))) (fun _ hk=>hk.2) (.int .i64 ((rd_T89 l1 x21_2).f1))) (fun _ hk=>hk.2) (.int .i64 ((rd_T89 l1 x21_2).f2))) (fun _ hk=>trivial)⟩
          have n1_:Aside0 ((((w12.setCell ⟨gb648,0,none⟩ (.int .i64 ((rd_T89 l1 x21_2).f0))).setCell ⟨gb648,1,none⟩ (.int .i64 ((rd_T89 l1 x21_2).f1))).setCell ⟨gb648,2,none⟩ (.int .i64 ((rd_T89 l1 x21_2).f2))).heap[gb648]?=some (.cells #[.int .i64 ((rd_T89 l1 x21_2).f0),.int .i64 ((rd_T89 l1 x21_2).f1),.int .i64 ((rd_T89 l1 x21_2).f2)] 89 (0,0))):=⟨by (with_reducible repeat (first|refine blk_drewN ?_ _|refine blk_drew ?_|refine blk_alloc ?_ _));refine blk_put (cs:=#[.int .i64 ((rd_T89 l1 x21_2).f0),.int .i64 ((rd_T89 l1 x21_2).f1),.int .i64 0]) ?_ 2 _ rfl;(with_reducible repeat (first|refine blk_drewN ?_ _|refine blk_drew ?_|refine blk_alloc ?_ _));refine blk_put (cs:=#[.int .i64 ((rd_T89 l1 x21_2).f0),.int .i64 0,.int .i64 0]) ?_ 1 _ rfl;(with_reducible repeat (first|refine blk_drewN ?_ _|refine blk_drew ?_|refine blk_alloc ?_ _));refine blk_put (cs:=#[.int .i64 0,.int .i64 0,.int .i64 0]) ?_ 0 _ rfl;(with_reducible repeat (first|refine blk_drewN ?_ _|refine blk_drew ?_|refine blk_alloc ?_ _));exact BK648.out⟩
          have n2_:Aside0 (Below w.heap.size w (((w12.setCell ⟨gb648,0,none⟩ (.int .i64 ((rd_T89 l1 x21_2).f0))).setCell ⟨gb648,1,none⟩ (.int .i64 ((rd_T89 l1 x21_2).f1))).setCell ⟨gb648,2,none⟩ (.int .i64 ((rd_T89 l1 x21_2).f2)))):=⟨y1e_⟩
          (try clear HO_9);(try clear BK648);(try clear HB)
          generalize (((w12.setCell ⟨gb648,0,none⟩ (.int .i64 ((rd_T89 l1 x21_2).f0))).setCell ⟨gb648,1,none⟩ (.int .i64 ((rd_T89 l1 x21_2).f1))).setCell ⟨gb648,2,none⟩ (.int .i64 ((rd_T89 l1 x21_2).f2)))=w14 at n0_ n1_ n2_ ⊢
          have HO_9:=n0_;have BK648:=n1_;have HB:=n2_;clear n0_ n1_ n2_;have n0_:=A0_ (Kd.R_drew HO_9.out);have n1_:=A0_ (blk_drew BK648.out);have n2_:=A0_ (below_drew1 HB.out);clear HO_9;clear BK648;clear HB;have HO_9:=n0_;have BK648:=n1_;have HB:=n2_;clear n0_ n1_ n2_
          refine start_ (n:=12) (S:=fun w'=>w'.cell? ⟨gb648,0,none⟩=some (.int .i64 ((rd_T89 l1 x21_2).f0))∧w'.cell? ⟨gb648,1,none⟩=some (.int .i64 ((rd_T89 l1 x21_2).f1))∧w'.cell? ⟨gb648,2,none⟩=some (.int .i64 ((rd_T89 l1 x21_2).f2))) (ds:=[]) #[false,false,false,false,false,false,false,false,false,false,false,false] (by kernel_rfl) rfl rfl ⟨(blk_cell BK648.out 0).trans rfl,(blk_cell BK648.out 1).trans rfl,(blk_cell BK648.out 2).trans rfl⟩ (fun hHeld=>?_);refine with_tabW sky_agreeing.tab8 sky_agreeing.bits8 (fun HT_ HW_=>?_)
          generalize w14.drew=w15 at HO_9 BK648 HB hHeld ⊢
          refine pu_ (i:=0) (N:=some 25) ?_;refine pu_ (i:=1) (N:=some 26) ?_;refine pu_ (i:=2) (N:=some 27) ?_;refine pu_ (i:=5) (N:=some 30) ?_;refine pu_ (i:=9) (N:=some 34) ?_;refine ta_ (i:=3) (N:=some 28) ?_;refine ta_ (i:=6) (N:=some 31) ?_;refine ta_ (i:=10) (N:=some 35) ?_
          refine one_ (i:=4) (N:=some 29) #[true,true,true,true,true,true,true,false,false,true,true,false] rfl rfl (one_of HT_.out (by kernel_rfl)) (by decide) (fun K hK=>?_)
          refine goes_ Tryz.func138 (by kernel_rfl) rfl #[.int .i64 a0,.int .i64 x10_1,.int .i64 ((rd_T89 l1 x21_2).f0)] (by rfl) rfl rfl y1_ ?_
          with_reducible refine (sky_reached.calls a0 x10_1 ((rd_T89 l1 x21_2).f0) t649 _ A9.out).mono ?_
          rintro e w' ⟨rfl,⟨nd,rfl⟩⟩
          refine ⟨_,rfl,?_⟩
          refine hK.out _ _ ⟨(blk_cell BK648.out 0).trans rfl,(blk_cell BK648.out 1).trans rfl,(blk_cell BK648.out 2).trans rfl⟩ (fun hHeld=>?_)
          clear hK K
          refine norm_ (a':=?_) ?_ ?_
          rotate_left
          ·show Act.put _ (some 29) _=_
           simp only [Act.put,List.setIfInBounds_toArray,List.set_cons_zero,List.set_cons_succ,i64_w,i32_w]
           rfl
          refine pu_ (i:=7) (N:=some 32) ?_
          refine one_ (i:=8) (N:=some 33) #[true,true,true,true,true,true,true,true,true,true,true,false] rfl rfl (one_of HT_.out (by kernel_rfl)) (by decide) (fun K hK=>?_)
          refine goes_ Tryz.func72 (by kernel_rfl) rfl #[.int .i64 (wrap64 (t649 - ((rd_T89 l1 x21_2).f1)))] (by rfl) rfl rfl y1_ ?_
          with_reducible refine (sky_round.calls (wrap64 (t649 - ((rd_T89 l1 x21_2).f1))) t650 _ A10.out).mono ?_
          rintro e w16 ⟨rfl,hb⟩
          refine ⟨_,rfl,?_⟩
          have n0_:=A0_ (Kd.R_below (rd_ HO_9.out) hb);have n1_:=A0_ (blk_below (g:=gb648) (o:=.cells #[.int .i64 ((rd_T89 l1 x21_2).f0),.int .i64 ((rd_T89 l1 x21_2).f1),.int .i64 ((rd_T89 l1 x21_2).f2)] 89 (0,0)) (bd_ BK648.out) hb);have n2_:=A0_ (below_step y1e_ hb);clear HO_9;clear BK648;clear HB;have HO_9:=n0_;have BK648:=n1_;have HB:=n2_;clear n0_ n1_ n2_;(try clear hb);(try clear hb2);(try clear hk);(try clear hi)
          refine hK.out _ _ ⟨(blk_cell BK648.out 0).trans rfl,(blk_cell BK648.out 1).trans rfl,(blk_cell BK648.out 2).trans rfl⟩ (fun hHeld=>?_)
          clear hK K
          refine norm_ (a':=?_) ?_ ?_
          rotate_left
          ·show Act.put _ (some 33) _=_
           simp only [Act.put,List.setIfInBounds_toArray,List.set_cons_zero,List.set_cons_succ,i64_w,i32_w]
           rfl
          refine pu_ (i:=11) (N:=some 36) ?_
          refine done_ (done_of HT_.out (by kernel_rfl)) ?_
          try go_wp2
          go_roundg k2
          case measure=>have:=HK1.out;have:=HK2.out;omega
          case rel=>exact ⟨(x9_1),(wrap64 (x10_1+1)),y4_,H',⟨by have:=HK1.out;have:=HK2.out;omega⟩,⟨by (with_reducible repeat (first|apply Kd.R_alloc|apply Kd.R_drewN|apply Kd.R_drew));exact HO_9.out⟩,⟨y1e_⟩⟩
         ·rw [if_neg c11] at H;have c11b0:decide (((rd_T89 l1 x21_2).f2)<t650)=false:=decide_eq_false c11;clear c11
          have H':=A0_ H
          clear H
          have p647:0≤(x21_2:Int):=of_decide_eq_true y5_
          have q647:x21_2<(l1.length:Int):=of_decide_eq_true y5_
          obtain ⟨ad647,e647,hx647_0,hx647_1,hx647_2⟩:=at_T89 HR1.out x21_2 p647 q647
          cases e647
          replace hx647_0:=(HB.out.cell (World.block_lt_of_cell? w _ hx647_0)).trans hx647_0
          replace hx647_1:=(HB.out.cell (World.block_lt_of_cell? w _ hx647_1)).trans hx647_1
          replace hx647_2:=(HB.out.cell (World.block_lt_of_cell? w _ hx647_2)).trans hx647_2
          replace p647:=eq_true p647
          replace q647:=eq_true q647
          try go_wp2_with (first|((with_reducible refine gate_dst (N:=12) rfl ?_);refine box_event ?hg (N:=12) ?hd (cs:=#[.int .i64 0,.int .i64 0,.int .i64 0]) (t:=89) ?hr ?_;(case hd=>rfl);(case hg=>rfl);(case hr=>first|(go_simp;done)|(go_simp;rfl));intro gb648 hg w17 hbox hb;have n0_:=A0_ (Kd.R_below (rd_ HO_9.out) hb);have n1_:=A0_ (below_step y0_ hb);have n2_:=A0_ (hbox);have n3_:=A0_ ((by rw [hg];exact (below_size y0_):w.heap.size≤gb648));have n4_:=A0_ ((by rw [hg];exact (below_size y0_):w.heap.size≤gb648));clear HO_9;clear HB;have HO_9:=n0_;have HB:=n1_;have BK648:=n2_;have GW648:=n3_;have GE648:=n4_;clear n0_ n1_ n2_ n3_ n4_;clear hb hbox hg;obtain ⟨hcz18_0,hcz18_1,hcz18_2,hfz18_0,hfz18_1,hfz18_2⟩:=bq3_ BK648.out))
          have n0_:Aside0 (Kd.R (Kd.int .i64) 3 (((w17.setCell ⟨gb648,0,none⟩ (.int .i64 ((rd_T89 l1 x21_2).f0))).setCell ⟨gb648,1,none⟩ (.int .i64 ((rd_T89 l1 x21_2).f1))).setCell ⟨gb648,2,none⟩ (.int .i64 ((rd_T89 l1 x21_2).f2))) w.heap.size (fun _=>True) u9 x9_1):=⟨by (with_reducible repeat (first|apply Kd.R_alloc|apply Kd.R_drewN|apply Kd.R_drew));exact Kd.R_mono (Kd.R_far (p:=⟨gb648,2,none⟩) (Kd.R_far (p:=⟨gb648,1,none⟩) (Kd.R_far (p:=⟨gb648,0,none⟩) (Kd.R_types HO_9.out BK648.out (by decide)) (fun _ hk=>hk.2) (.int .i64 ((rd_T89 l1 x21_2).f0))) (fun _ hk=>hk.2) (.int .i64 ((rd_T89 l1 x21_2).f1))) (fun _ hk=>hk.2) (.int .i64 ((rd_T89 l1 x21_2).f2))) (fun _ hk=>trivial)⟩
          have n1_:Aside0 ((((w17.setCell ⟨gb648,0,none⟩ (.int .i64 ((rd_T89 l1 x21_2).f0))).setCell ⟨gb648,1,none⟩ (.int .i64 ((rd_T89 l1 x21_2).f1))).setCell ⟨gb648,2,none⟩ (.int .i64 ((rd_T89 l1 x21_2).f2))).heap[gb648]?=some (.cells #[.int .i64 ((rd_T89 l1 x21_2).f0),.int .i64 ((rd_T89 l1 x21_2).f1),.int .i64 ((rd_T89 l1 x21_2).f2)] 89 (0,0))):=⟨by (with_reducible repeat (first|refine blk_drewN ?_ _|refine blk_drew ?_|refine blk_alloc ?_ _));refine blk_put (cs:=#[.int .i64 ((rd_T89 l1 x21_2).f0),.int .i64 ((rd_T89 l1 x21_2).f1),.int .i64 0]) ?_ 2 _ rfl;(with_reducible repeat (first|refine blk_drewN ?_ _|refine blk_drew ?_|refine blk_alloc ?_ _));refine blk_put (cs:=#[.int .i64 ((rd_T89 l1 x21_2).f0),.int .i64 0,.int .i64 0]) ?_ 1 _ rfl;(with_reducible repeat (first|refine blk_drewN ?_ _|refine blk_drew ?_|refine blk_alloc ?_ _));refine blk_put (cs:=#[.int .i64 0,.int .i64 0,.int .i64 0]) ?_ 0 _ rfl;(with_reducible repeat (first|refine blk_drewN ?_ _|refine blk_drew ?_|refine blk_alloc ?_ _));exact BK648.out⟩
          have n2_:Aside0 (Below w.heap.size w (((w17.setCell ⟨gb648,0,none⟩ (.int .i64 ((rd_T89 l1 x21_2).f0))).setCell ⟨gb648,1,none⟩ (.int .i64 ((rd_T89 l1 x21_2).f1))).setCell ⟨gb648,2,none⟩ (.int .i64 ((rd_T89 l1 x21_2).f2)))):=⟨y1e_⟩
          (try clear HO_9);(try clear BK648);(try clear HB)
          generalize (((w17.setCell ⟨gb648,0,none⟩ (.int .i64 ((rd_T89 l1 x21_2).f0))).setCell ⟨gb648,1,none⟩ (.int .i64 ((rd_T89 l1 x21_2).f1))).setCell ⟨gb648,2,none⟩ (.int .i64 ((rd_T89 l1 x21_2).f2)))=w19 at n0_ n1_ n2_ ⊢
          have HO_9:=n0_;have BK648:=n1_;have HB:=n2_;clear n0_ n1_ n2_;have n0_:=A0_ (Kd.R_drew HO_9.out);have n1_:=A0_ (blk_drew BK648.out);have n2_:=A0_ (below_drew1 HB.out);clear HO_9;clear BK648;clear HB;have HO_9:=n0_;have BK648:=n1_;have HB:=n2_;clear n0_ n1_ n2_
          refine start_ (n:=12) (S:=fun w'=>w'.cell? ⟨gb648,0,none⟩=some (.int .i64 ((rd_T89 l1 x21_2).f0))∧w'.cell? ⟨gb648,1,none⟩=some (.int .i64 ((rd_T89 l1 x21_2).f1))∧w'.cell? ⟨gb648,2,none⟩=some (.int .i64 ((rd_T89 l1 x21_2).f2))) (ds:=[]) #[false,false,false,false,false,false,false,false,false,false,false,false] (by kernel_rfl) rfl rfl ⟨(blk_cell BK648.out 0).trans rfl,(blk_cell BK648.out 1).trans rfl,(blk_cell BK648.out 2).trans rfl⟩ (fun hHeld=>?_);refine with_tabW sky_agreeing.tab8 sky_agreeing.bits8 (fun HT_ HW_=>?_)
          generalize w19.drew=w20 at HO_9 BK648 HB hHeld ⊢
          refine pu_ (i:=0) (N:=some 25) ?_;refine pu_ (i:=1) (N:=some 26) ?_;refine pu_ (i:=2) (N:=some 27) ?_;refine pu_ (i:=5) (N:=some 30) ?_;refine pu_ (i:=9) (N:=some 34) ?_;refine ta_ (i:=3) (N:=some 28) ?_;refine ta_ (i:=6) (N:=some 31) ?_;refine ta_ (i:=10) (N:=some 35) ?_
          refine one_ (i:=4) (N:=some 29) #[true,true,true,true,true,true,true,false,false,true,true,false] rfl rfl (one_of HT_.out (by kernel_rfl)) (by decide) (fun K hK=>?_)
          refine goes_ Tryz.func138 (by kernel_rfl) rfl #[.int .i64 a0,.int .i64 x10_1,.int .i64 ((rd_T89 l1 x21_2).f0)] (by rfl) rfl rfl y1_ ?_
          with_reducible refine (sky_reached.calls a0 x10_1 ((rd_T89 l1 x21_2).f0) t649 _ A9.out).mono ?_
          rintro e w' ⟨rfl,⟨nd,rfl⟩⟩
          refine ⟨_,rfl,?_⟩
          refine hK.out _ _ ⟨(blk_cell BK648.out 0).trans rfl,(blk_cell BK648.out 1).trans rfl,(blk_cell BK648.out 2).trans rfl⟩ (fun hHeld=>?_)
          clear hK K
          refine norm_ (a':=?_) ?_ ?_
          rotate_left
          ·show Act.put _ (some 29) _=_
           simp only [Act.put,List.setIfInBounds_toArray,List.set_cons_zero,List.set_cons_succ,i64_w,i32_w]
           rfl
          refine pu_ (i:=7) (N:=some 32) ?_
          refine one_ (i:=8) (N:=some 33) #[true,true,true,true,true,true,true,true,true,true,true,false] rfl rfl (one_of HT_.out (by kernel_rfl)) (by decide) (fun K hK=>?_)
          refine goes_ Tryz.func72 (by kernel_rfl) rfl #[.int .i64 (wrap64 (t649 - ((rd_T89 l1 x21_2).f1)))] (by rfl) rfl rfl y1_ ?_
          with_reducible refine (sky_round.calls (wrap64 (t649 - ((rd_T89 l1 x21_2).f1))) t650 _ A10.out).mono ?_
          rintro e w21 ⟨rfl,hb⟩
          refine ⟨_,rfl,?_⟩
          have n0_:=A0_ (Kd.R_below (rd_ HO_9.out) hb);have n1_:=A0_ (blk_below (g:=gb648) (o:=.cells #[.int .i64 ((rd_T89 l1 x21_2).f0),.int .i64 ((rd_T89 l1 x21_2).f1),.int .i64 ((rd_T89 l1 x21_2).f2)] 89 (0,0)) (bd_ BK648.out) hb);have n2_:=A0_ (below_step y1e_ hb);clear HO_9;clear BK648;clear HB;have HO_9:=n0_;have BK648:=n1_;have HB:=n2_;clear n0_ n1_ n2_;(try clear hb);(try clear hb2);(try clear hk);(try clear hi)
          refine hK.out _ _ ⟨(blk_cell BK648.out 0).trans rfl,(blk_cell BK648.out 1).trans rfl,(blk_cell BK648.out 2).trans rfl⟩ (fun hHeld=>?_)
          clear hK K
          refine norm_ (a':=?_) ?_ ?_
          rotate_left
          ·show Act.put _ (some 33) _=_
           simp only [Act.put,List.setIfInBounds_toArray,List.set_cons_zero,List.set_cons_succ,i64_w,i32_w]
           rfl
          refine pu_ (i:=11) (N:=some 36) ?_
          refine done_ (done_of HT_.out (by kernel_rfl)) ?_
          try go_wp2
          go_roundg k2
          case measure=>have:=HK1.out;have:=HK2.out;omega
          case rel=>exact ⟨(wrap64 (x21_2+1)),y4_,H',⟨by have:=HK1.out;have:=HK2.out;omega⟩,⟨by (with_reducible repeat (first|apply Kd.R_alloc|apply Kd.R_drewN|apply Kd.R_drew));exact HO_9.out⟩,⟨y1e_⟩⟩
        ·rw [if_neg c8] at H;exact absurd H (by simp)
       ·rw [if_neg c7] at H;exact absurd H (by simp)
      ·rw [if_neg c6] at H;have c6b0:decide (x21_2<(l1.length:Int))=false:=decide_eq_false c6;clear c6
       by_cases c22:x9_1.length<17592186044416
       ·rw [if_pos c22] at H;have LMc22:=A0_ c22;clear c22
        obtain ⟨y644,hy644⟩:∃ y_:List Int,y_=(x9_1 ++ [x10_1]):=⟨_,rfl⟩
        replace H:(sky_agreeing.l0 k2 a0 l1 a3 y644 (wrap64 (x10_1+1)))=some r:=by first|(rw [hy644];with_reducible exact H)|(have H2_:=(Option.bind_some _ _).symm.trans H;rw [hy644];with_reducible exact H2_)|(have H2_:=(Option.bind_some _ _).symm.trans H;with_reducible exact H2_)|with_reducible exact H|(rw [hy644];exact H)|exact H
        have Ny644:=A0_ hy644;clear hy644
        have H':=A0_ H
        clear H
        go_wp2_with (first|((with_reducible refine gate_builtin (b:=.append) (xs:=#[.tmp 38,.tmp 40]) rfl ?_);at_builtin;refine Kd.R_append (Kd.int .i64) (w0:=w) w.heap.size rfl (.tmp 38) (.tmp 40) 40 3 (.int .i64 0) 8 rfl Tryz.underlying40 info3 rfl (by decide) (by omega) u9 x9_1 x10_1 [.int .i64 x10_1] (fun _=>True) (fun _=>False) rfl rfl ?aP (fun _ hk=>hk.elim) ?aF ?aO ?aB ?aS ?aL ?_;(case aP=>exact rfl);(case aB=>exact y0_);(case aF=>exact (fun _ _=>trivial));(case aO=>exact (rd_ HO_9.out));(case aS=>exact (below_size y0_));(case aL=>have:=LMc22.out;omega);intro v645 w23 ho hb hg hat;rw [← Ny644.out] at ho;have n0_:=A0_ (hb);have n1_:=A0_ (ho);clear HB;clear HO_9;have HB:=n0_;have HO646:=n1_;clear n0_ n1_;clear ho hb hg hat))
        go_roundg k2
        case measure=>have:=HK1.out;have:=HK2.out;omega
        case rel=>exact ⟨(y644),(wrap64 (x10_1+1)),y4_,H',⟨by have:=HK1.out;have:=HK2.out;omega⟩,⟨by (with_reducible repeat (first|apply Kd.R_alloc|apply Kd.R_drewN|apply Kd.R_drew));exact HO646.out⟩,⟨y0_⟩⟩
       ·rw [if_neg c22] at H;exact absurd H (by simp)
   ·rw [if_neg c5] at H;have c5b0:decide (x10_1≤a3)=false:=decide_eq_false c5;clear c5
    by_cases c24:(x9_1.length:Int)=0
    ·rw [if_pos c24] at H;obtain rfl:=Option.some.inj H
     have c24b0:((x9_1.length:Int) == 0)=true:=beq_iff_eq.mpr c24
     have c24n:x9_1=[]:=List.eq_nil_of_length_eq_zero (by omega)
     obtain ⟨Ao25,co25,eo25⟩:=Kd.R_slice HO_9.out
     subst eo25;go_wp2
     exact ⟨rfl,Or.inl ⟨c24n,rfl,y0_⟩⟩
    ·rw [if_neg c24] at H
     have c24b0:((x9_1.length:Int) == 0)=false:=beq_eq_false_iff_ne.mpr c24
     have c24b1:((x9_1.length:Int) != 0)=true:=bne_iff_ne.mpr c24
     have c24b2:¬ (x9_1=[]):=fun h_=>c24 (by rw [h_];rfl)
     obtain rfl:=Option.some.inj H
     obtain ⟨Ao25,co25,eo25⟩:=Kd.R_slice HO_9.out
     subst eo25;go_wp2;go_ret
     exact Or.inr ⟨c24b2,⟨_,y2_,by (with_reducible repeat (first|apply Kd.R_alloc|apply Kd.R_drewN|apply Kd.R_drew));exact HO_9.out,y0_⟩⟩
def sky_areMonths.f (a0:Int):Option (Bool):=(sky_in.f a0 0 400).bind fun t651=>(some t651)
set_option maxHeartbeats 8000000 in
set_option maxRecDepth 100000 in
theorem sky_areMonths.calls (a0:Int) (r:Bool) (w:World) (h:sky_areMonths.f a0=some r):
  Calls Tryz.prog 88 #[.int .i64 a0] w fun e w'=>e=.returned (.bool r)∧Drawn0 w w':=by
 have H:((sky_in.f a0 0 400).bind fun t651=>(some t651))=some r:=h
 clear h;replace H:=Option.bind_eq_some_iff.mp H;obtain ⟨t651,A20,H⟩:=H
 replace H:(some t651)=some r:=H
 have A2:=A0_ A20;clear A20;obtain rfl:=Option.some.inj H
 go_enter Tryz.func88,Tryz.ntmps88
 go_wp2_with (first|((with_reducible refine gate_callee (f:=104) rfl ?_);refine goesL_ (some 4) rfl rfl Tryz.func104 (by kernel_rfl) rfl #[.int .i64 a0,.int .i64 0,.int .i64 400] rfl y1_ ?_;(with_reducible refine (sky_in.calls a0 0 400 t651 _ A2.out).mono ?_);rintro e w' ⟨rfl,⟨nd,rfl⟩⟩;refine ⟨_,rfl,?_⟩))
 go_ret
 exact ⟨y4_,yb_⟩
def sky_isOff.f (a0:Int):Option (Bool):=(sky_in.f a0 0 10800).bind fun t652=>(some t652)
set_option maxHeartbeats 8000000 in
set_option maxRecDepth 100000 in
theorem sky_isOff.calls (a0:Int) (r:Bool) (w:World) (h:sky_isOff.f a0=some r):
  Calls Tryz.prog 107 #[.int .i64 a0] w fun e w'=>e=.returned (.bool r)∧Drawn0 w w':=by
 have H:((sky_in.f a0 0 10800).bind fun t652=>(some t652))=some r:=h
 clear h;replace H:=Option.bind_eq_some_iff.mp H;obtain ⟨t652,A20,H⟩:=H
 replace H:(some t652)=some r:=H
 have A2:=A0_ A20;clear A20;obtain rfl:=Option.some.inj H
 go_enter Tryz.func107,Tryz.ntmps107
 go_wp2_with (first|((with_reducible refine gate_callee (f:=104) rfl ?_);refine goesL_ (some 4) rfl rfl Tryz.func104 (by kernel_rfl) rfl #[.int .i64 a0,.int .i64 0,.int .i64 10800] rfl y1_ ?_;(with_reducible refine (sky_in.calls a0 0 10800 t652 _ A2.out).mono ?_);rintro e w' ⟨rfl,⟨nd,rfl⟩⟩;refine ⟨_,rfl,?_⟩))
 go_ret
 exact ⟨y4_,yb_⟩
def sky_passes.f (a0:Int) (a1:Int):Option (Bool):=(sky_floor.f a0 21600).bind fun bt653=>((sky_floor.f a1 21600).bind fun bt655=>(some (decide (bt655.1 > bt653.1))))
set_option maxHeartbeats 8000000 in
set_option maxRecDepth 100000 in
theorem sky_passes.calls (a0:Int) (a1:Int) (r:Bool) (w:World) (h:sky_passes.f a0 a1=some r):
  Calls Tryz.prog 127 #[.int .i64 a0,.int .i64 a1] w fun e w'=>e=.returned (.bool r)∧Drawn0 w w':=by
 have H:((sky_floor.f a0 21600).bind fun bt653=>((sky_floor.f a1 21600).bind fun bt655=>(some (decide (bt655.1 > bt653.1)))))=some r:=h
 clear h;replace H:=Option.bind_eq_some_iff.mp H
 obtain ⟨⟨t653,t654⟩,A30,H⟩:=H
 replace H:((sky_floor.f a1 21600).bind fun bt655=>(some (decide (bt655.1 > t653))))=some r:=H
 have A3:=A0_ A30;clear A30;replace H:=Option.bind_eq_some_iff.mp H
 obtain ⟨⟨t655,t656⟩,A40,H⟩:=H
 replace H:(some (decide (t655 > t653)))=some r:=H
 have A4:=A0_ A40;clear A40;obtain rfl:=Option.some.inj H
 go_enter Tryz.func127,Tryz.ntmps127
 go_wp2_with (first|((with_reducible refine gate_callee (f:=130) rfl ?_);refine goesL_ (some 11) rfl rfl Tryz.func130 (by kernel_rfl) rfl #[.int .i64 a0,.int .i64 21600] rfl y1_ ?_;(with_reducible refine (sky_floor.calls a0 21600 t653 t654 _ A3.out).mono ?_);rintro e w' ⟨rfl,⟨nd,rfl⟩⟩;refine ⟨_,rfl,?_⟩)|((with_reducible refine gate_callee (f:=130) rfl ?_);refine goesL_ (some 16) rfl rfl Tryz.func130 (by kernel_rfl) rfl #[.int .i64 a1,.int .i64 21600] rfl y1_ ?_;(with_reducible refine (sky_floor.calls a1 21600 t655 t656 _ A4.out).mono ?_);rintro e w' ⟨rfl,⟨nd,rfl⟩⟩;refine ⟨_,rfl,?_⟩))
 go_ret
 exact ⟨y4_,yb_⟩
def sky_areNotes_c1.f (a0_0:Int) (a0_1:Int) (a0_2:Int):Option (Bool):=(sky_isDay.f a0_0).bind fun t658=>(if t658=true then ((sky_isPlace.f a0_1).bind fun t659=>(if t659=true then ((sky_isOff.f a0_2).bind fun t660=>(some (!t660))) else (some true))) else (some true))
set_option maxHeartbeats 8000000 in
set_option maxRecDepth 100000 in
theorem sky_areNotes_c1.calls (a0_0:Int) (a0_1:Int) (a0_2:Int) (r:Bool) (w:World) (h:sky_areNotes_c1.f a0_0 a0_1 a0_2=some r):
  Calls Tryz.prog 137 #[.agg #[.int .i64 a0_0,.int .i64 a0_1,.int .i64 a0_2]] w fun e w'=>e=.returned (.bool r)∧Below w.heap.size w w':=by
 have hu89:=Tryz.underlying89
 have HB:=A0_ (Below.refl w.heap.size w)
 have H:((sky_isDay.f a0_0).bind fun t658=>(if t658=true then ((sky_isPlace.f a0_1).bind fun t659=>(if t659=true then ((sky_isOff.f a0_2).bind fun t660=>(some (!t660))) else (some true))) else (some true)))=some r:=h
 clear h;replace H:=Option.bind_eq_some_iff.mp H;obtain ⟨t658,A20,H⟩:=H
 replace H:(if t658=true then ((sky_isPlace.f a0_1).bind fun t659=>(if t659=true then ((sky_isOff.f a0_2).bind fun t660=>(some (!t660))) else (some true))) else (some true))=some r:=H
 have A2:=A0_ A20;clear A20
 by_cases c3:t658=true
 ·subst c3
  have H1:((sky_isPlace.f a0_1).bind fun t659=>(if t659=true then ((sky_isOff.f a0_2).bind fun t660=>(some (!t660))) else (some true)))=some r:=by rw [if_pos rfl] at H;exact H
  clear H;have H:=H1;clear H1;replace H:=Option.bind_eq_some_iff.mp H;obtain ⟨t659,A40,H⟩:=H
  replace H:(if t659=true then ((sky_isOff.f a0_2).bind fun t660=>(some (!t660))) else (some true))=some r:=H
  have A4:=A0_ A40;clear A40
  by_cases c5:t659=true
  ·subst c5
   have H1:((sky_isOff.f a0_2).bind fun t660=>(some (!t660)))=some r:=by rw [if_pos rfl] at H;exact H
   clear H;have H:=H1;clear H1;replace H:=Option.bind_eq_some_iff.mp H;obtain ⟨t660,A60,H⟩:=H
   replace H:(some (!t660))=some r:=H
   have A6:=A0_ A60;clear A60;obtain rfl:=Option.some.inj H
   go_enter Tryz.func137,Tryz.ntmps137
   go_wp2_with (first|((with_reducible refine gate_dst (N:=1) rfl ?_);refine box_event ?hg (N:=1) ?hd (cs:=#[.int .i64 a0_0,.int .i64 a0_1,.int .i64 a0_2]) (t:=89) ?hr ?_;(case hd=>rfl);(case hg=>rfl);(case hr=>first|(go_simp;done)|(go_simp;rfl));intro gb657 hg w7 hbox hb;have n0_:=A0_ (below_step y0_ hb);have n1_:=A0_ (hbox);have n2_:=A0_ ((by rw [hg];exact (below_size y0_):w.heap.size≤gb657));have n3_:=A0_ ((by rw [hg];exact (below_size y0_):w.heap.size≤gb657));clear HB;have HB:=n0_;have BK657:=n1_;have GW657:=n2_;have GE657:=n3_;clear n0_ n1_ n2_ n3_;clear hb hbox hg;obtain ⟨hcz8_0,hcz8_1,hcz8_2,hfz8_0,hfz8_1,hfz8_2⟩:=bq3_ BK657.out)|((with_reducible refine gate_callee (f:=79) rfl ?_);refine goesL_ (some 5) rfl rfl Tryz.func79 (by kernel_rfl) rfl #[.int .i64 a0_0] rfl y1_ ?_;(with_reducible refine (sky_isDay.calls a0_0 true _ A2.out).mono ?_);rintro e w' ⟨rfl,⟨nd,rfl⟩⟩;refine ⟨_,rfl,?_⟩)|(go_at_call 118;(with_reducible refine (sky_isPlace.calls a0_1 true _ A4.out).mono ?_);rintro e w' ⟨rfl,⟨nd,rfl⟩⟩)|(go_at_call 107;(with_reducible refine (sky_isOff.calls a0_2 t660 _ A6.out).mono ?_);rintro e w' ⟨rfl,⟨nd,rfl⟩⟩))
   go_ret
   exact ⟨y2_,y2t_⟩
  ·replace c5:=Bool.eq_false_iff.mpr c5;subst c5
   have H1:(some true)=some r:=by rw [if_neg (show ¬ (false=true) by decide)] at H;exact H
   clear H;have H:=H1;clear H1;obtain rfl:=Option.some.inj H
   go_enter Tryz.func137,Tryz.ntmps137
   go_wp2_with (first|((with_reducible refine gate_dst (N:=1) rfl ?_);refine box_event ?hg (N:=1) ?hd (cs:=#[.int .i64 a0_0,.int .i64 a0_1,.int .i64 a0_2]) (t:=89) ?hr ?_;(case hd=>rfl);(case hg=>rfl);(case hr=>first|(go_simp;done)|(go_simp;rfl));intro gb657 hg w9 hbox hb;have n0_:=A0_ (below_step y0_ hb);have n1_:=A0_ (hbox);have n2_:=A0_ ((by rw [hg];exact (below_size y0_):w.heap.size≤gb657));have n3_:=A0_ ((by rw [hg];exact (below_size y0_):w.heap.size≤gb657));clear HB;have HB:=n0_;have BK657:=n1_;have GW657:=n2_;have GE657:=n3_;clear n0_ n1_ n2_ n3_;clear hb hbox hg;obtain ⟨hcz10_0,hcz10_1,hcz10_2,hfz10_0,hfz10_1,hfz10_2⟩:=bq3_ BK657.out)|((with_reducible refine gate_callee (f:=79) rfl ?_);refine goesL_ (some 5) rfl rfl Tryz.func79 (by kernel_rfl) rfl #[.int .i64 a0_0] rfl y1_ ?_;(with_reducible refine (sky_isDay.calls a0_0 true _ A2.out).mono ?_);rintro e w' ⟨rfl,⟨nd,rfl⟩⟩;refine ⟨_,rfl,?_⟩)|(go_at_call 118;(with_reducible refine (sky_isPlace.calls a0_1 false _ A4.out).mono ?_);rintro e w' ⟨rfl,⟨nd,rfl⟩⟩))
   go_ret
   exact ⟨y2_,y2t_⟩
 ·replace c3:=Bool.eq_false_iff.mpr c3;subst c3
  have H1:(some true)=some r:=by rw [if_neg (show ¬ (false=true) by decide)] at H;exact H
  clear H;have H:=H1;clear H1;obtain rfl:=Option.some.inj H
  go_enter Tryz.func137,Tryz.ntmps137
  go_wp2_with (first|((with_reducible refine gate_dst (N:=1) rfl ?_);refine box_event ?hg (N:=1) ?hd (cs:=#[.int .i64 a0_0,.int .i64 a0_1,.int .i64 a0_2]) (t:=89) ?hr ?_;(case hd=>rfl);(case hg=>rfl);(case hr=>first|(go_simp;done)|(go_simp;rfl));intro gb657 hg w11 hbox hb;have n0_:=A0_ (below_step y0_ hb);have n1_:=A0_ (hbox);have n2_:=A0_ ((by rw [hg];exact (below_size y0_):w.heap.size≤gb657));have n3_:=A0_ ((by rw [hg];exact (below_size y0_):w.heap.size≤gb657));clear HB;have HB:=n0_;have BK657:=n1_;have GW657:=n2_;have GE657:=n3_;clear n0_ n1_ n2_ n3_;clear hb hbox hg;obtain ⟨hcz12_0,hcz12_1,hcz12_2,hfz12_0,hfz12_1,hfz12_2⟩:=bq3_ BK657.out)|((with_reducible refine gate_callee (f:=79) rfl ?_);refine goesL_ (some 5) rfl rfl Tryz.func79 (by kernel_rfl) rfl #[.int .i64 a0_0] rfl y1_ ?_;(with_reducible refine (sky_isDay.calls a0_0 false _ A2.out).mono ?_);rintro e w' ⟨rfl,⟨nd,rfl⟩⟩;refine ⟨_,rfl,?_⟩))
  go_ret
  exact ⟨y2_,y2t_⟩
def iF_areNotes_c1.l0:Nat→List (S89)→Int→Int→Option (Int)
 |0,_,_,_=>none
 |k+1,x0,x7,x8=>if x8<x7 then (if 0≤x8 then (if x8<(x0.length:Int) then ((sky_areNotes_c1.f ((rd_T89 x0 x8).f0) ((rd_T89 x0 x8).f1) ((rd_T89 x0 x8).f2)).bind fun t662=>(if t662=true then (some x8) else (iF_areNotes_c1.l0 k x0 x7 (wrap64 (x8+1))))) else (none)) else (none)) else (some (-1))
def iF_areNotes_c1.f (k:Nat) (l0:List (S89))  : Option (Int):=iF_areNotes_c1.l0 k l0 (l0.length:Int) 0
set_option maxHeartbeats 8000000 in
set_option maxRecDepth 100000 in
theorem iF_areNotes_c1.calls (k:Nat) (A0:Option Addr) (c0:Nat) (l0:List (S89))  (r:Int) (w:World) (hr0:Kd.C k89 w A0 l0.length l0) (hc0:l0.length≤c0) (h:iF_areNotes_c1.f k l0=some r):
  Calls Tryz.prog 148 #[.slice A0 l0.length c0,.func (.func 137) #[] #[]] w fun e w'=>e=.returned (.int .i64 r)∧Below w.heap.size w w':=by
 have hu89:=Tryz.underlying89
 have HR0:=A0_ hr0;have HC0:=A0_ hc0;clear hr0 hc0
 have HB:=A0_ (Below.refl w.heap.size w)
 have H:(iF_areNotes_c1.l0 k l0 (l0.length:Int) 0)=some r:=h
 clear h
 have H':=A0_ H
 clear H
 go_enter Tryz.func148,Tryz.ntmps148
 go_wp2
 go_loopg [8] k (fun kq v8 w'=>∃ (x8_1:Int),v8=.int .i64 x8_1∧Aside0 (iF_areNotes_c1.l0 kq l0 (l0.length:Int) x8_1=some r)∧Aside0 (kq≤k)∧Aside0 (Below w.heap.size w w'))
 case atStart=>exact ⟨(0),y4_,H',⟨Nat.le_refl _⟩,⟨y0_⟩⟩
 case round=>
  clear H'
  (try clear c1);(try clear p2)
  obtain ⟨x8_1,rfl,HA,HK1,HB⟩:=hrel
  cases gk with
  |zero=>exact absurd HA.out (by simp [iF_areNotes_c1.l0])
  |succ k1=>
   have H:=HA.out
   clear HA
   simp only [iF_areNotes_c1.l0] at H
   by_cases c3:x8_1<(l0.length:Int)
   ·rw [if_pos c3] at H;have c3b0:decide (x8_1<(l0.length:Int))=true:=decide_eq_true c3;clear c3
    by_cases c4:0≤x8_1
    ·rw [if_pos c4] at H;have c4b0:decide (0≤x8_1)=true:=decide_eq_true c4;clear c4
     by_cases c5:x8_1<(l0.length:Int)
     ·rw [if_pos c5] at H;have c5b0:decide (x8_1<(l0.length:Int))=true:=decide_eq_true c5;clear c5;replace H:=Option.bind_eq_some_iff.mp H;obtain ⟨t662,A60,H⟩:=H
      replace H:(if t662=true then (some x8_1) else (iF_areNotes_c1.l0 k1 l0 (l0.length:Int) (wrap64 (x8_1+1))))=some r:=H
      have A6:=A0_ A60;clear A60
      by_cases c7:t662=true
      ·subst c7
       have H1:(some x8_1)=some r:=by rw [if_pos rfl] at H;exact H
       clear H;have H:=H1;clear H1;obtain rfl:=Option.some.inj H
       have p661:0≤(x8_1:Int):=of_decide_eq_true y5_
       have q661:x8_1<(l0.length:Int):=of_decide_eq_true y5_
       obtain ⟨ad661,e661,hx661_0,hx661_1,hx661_2⟩:=at_T89 HR0.out x8_1 p661 q661
       cases e661
       replace hx661_0:=(HB.out.cell (World.block_lt_of_cell? w _ hx661_0)).trans hx661_0
       replace hx661_1:=(HB.out.cell (World.block_lt_of_cell? w _ hx661_1)).trans hx661_1
       replace hx661_2:=(HB.out.cell (World.block_lt_of_cell? w _ hx661_2)).trans hx661_2
       replace p661:=eq_true p661
       replace q661:=eq_true q661
       go_wp2_with (first|(go_at_call 137;(with_reducible refine (sky_areNotes_c1.calls ((rd_T89 l0 x8_1).f0) ((rd_T89 l0 x8_1).f1) ((rd_T89 l0 x8_1).f2) true _ A6.out).mono ?_);rintro e w8 ⟨rfl,hb⟩;have n0_:=A0_ (below_step y0_ hb);clear HB;have HB:=n0_;clear n0_;(try clear hb);(try clear hb2);(try clear hk);(try clear hi)))
       go_ret
       exact ⟨y2_,y0_⟩
      ·replace c7:=Bool.eq_false_iff.mpr c7;subst c7
       have H1:(iF_areNotes_c1.l0 k1 l0 (l0.length:Int) (wrap64 (x8_1+1)))=some r:=by rw [if_neg (show ¬ (false=true) by decide)] at H;exact H
       clear H;have H:=H1;clear H1
       have H':=A0_ H
       clear H
       have p661:0≤(x8_1:Int):=of_decide_eq_true y5_
       have q661:x8_1<(l0.length:Int):=of_decide_eq_true y5_
       obtain ⟨ad661,e661,hx661_0,hx661_1,hx661_2⟩:=at_T89 HR0.out x8_1 p661 q661
       cases e661
       replace hx661_0:=(HB.out.cell (World.block_lt_of_cell? w _ hx661_0)).trans hx661_0
       replace hx661_1:=(HB.out.cell (World.block_lt_of_cell? w _ hx661_1)).trans hx661_1
       replace hx661_2:=(HB.out.cell (World.block_lt_of_cell? w _ hx661_2)).trans hx661_2
       replace p661:=eq_true p661
       replace q661:=eq_true q661
       go_wp2_with (first|(go_at_call 137;(with_reducible refine (sky_areNotes_c1.calls ((rd_T89 l0 x8_1).f0) ((rd_T89 l0 x8_1).f1) ((rd_T89 l0 x8_1).f2) false _ A6.out).mono ?_);rintro e w9 ⟨rfl,hb⟩;have n0_:=A0_ (below_step y0_ hb);clear HB;have HB:=n0_;clear n0_;(try clear hb);(try clear hb2);(try clear hk);(try clear hi)))
       go_roundg k1
       case measure=>have:=HK1.out;omega
       case rel=>exact ⟨(wrap64 (x8_1+1)),y4_,H',⟨by have:=HK1.out;omega⟩,⟨y0_⟩⟩
     ·rw [if_neg c5] at H;exact absurd H (by simp)
    ·rw [if_neg c4] at H;exact absurd H (by simp)
   ·rw [if_neg c3] at H;have c3b0:decide (x8_1<(l0.length:Int))=false:=decide_eq_false c3;clear c3;obtain rfl:=Option.some.inj H;go_wp2;go_ret
    exact ⟨y2_,y0_⟩
def cF_areNotes_c1.f (k:Nat) (l0:List (S89))  : Option (Bool):=(iF_areNotes_c1.f k l0).bind fun t663=>(some (decide (t663 ≥ 0)))
set_option maxHeartbeats 8000000 in
set_option maxRecDepth 100000 in
theorem cF_areNotes_c1.calls (k:Nat) (A0:Option Addr) (c0:Nat) (l0:List (S89))  (r:Bool) (w:World) (hr0:Kd.C k89 w A0 l0.length l0) (hc0:l0.length≤c0) (h:cF_areNotes_c1.f k l0=some r):
  Calls Tryz.prog 136 #[.slice A0 l0.length c0,.func (.func 137) #[] #[]] w fun e w'=>e=.returned (.bool r)∧Below w.heap.size w w':=by
 have HR0:=A0_ hr0;have HC0:=A0_ hc0;clear hr0 hc0
 have HB:=A0_ (Below.refl w.heap.size w)
 have H:((iF_areNotes_c1.f k l0).bind fun t663=>(some (decide (t663 ≥ 0))))=some r:=h
 clear h;replace H:=Option.bind_eq_some_iff.mp H;obtain ⟨t663,A30,H⟩:=H
 replace H:(some (decide (t663 ≥ 0)))=some r:=H
 have A3:=A0_ A30;clear A30;obtain rfl:=Option.some.inj H
 go_enter Tryz.func136,Tryz.ntmps136
 go_wp2_with (first|(go_at_call 148;(with_reducible refine (iF_areNotes_c1.calls k _ _ l0  t663 _ ?side1 ?side2 A3.out).mono ?_);(case side1=>repeat (first|exact HR0.out|(with_reducible refine Kd.C_alloc ?_ _)|(with_reducible refine Kd.C_drewN ?_ _)|(with_reducible refine Kd.C_drew ?_)));(case side2=>exact HC0.out);rintro e w4 ⟨rfl,hb⟩;have n0_:=A0_ (below_step y0_ hb);clear HB;have HB:=n0_;clear n0_;(try clear hb);(try clear hb2);(try clear hk);(try clear hi)))
 go_ret
 exact ⟨y2_,y0_⟩
end Go.Proofs.YtjahbgldccjbfaaGreatDoor.PSky
end
