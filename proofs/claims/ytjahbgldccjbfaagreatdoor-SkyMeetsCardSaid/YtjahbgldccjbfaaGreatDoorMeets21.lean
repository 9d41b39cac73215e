/- A part of the proof of a law of the layer sky. -/
import Derived.Test.YtjahbgldccjbfaaGreatDoorMeets20
section
namespace Go.Proofs.YtjahbgldccjbfaaGreatDoor.PSky
open Go.RowKit Go.Shelf Go.Proofs.YtjahbgldccjbfaaGreatDoorW.PrintWords Go.Proofs.YtjahbgldccjbfaaGreatDoorW.PrintLast Go.Proofs.YtjahbgldccjbfaaGreatDoorW.PrintMore
attribute [local go_sem] Oper.semAt_some
theorem append_close2 {α:Type} {d:Kd α} {e t:Nat} {W w1:World} {Bo n₀ m₀:Nat} {v v1:Value} {ys:List α} (hO:W.heap[Bo]?=some (.cells #[v] t (0,0))) (hne:some Bo≠v.ownBlock)
  (hR:d.R e w1 n₀ (fun _=>True) v1 ys) (hE:d.E=[]) (hte:e≠t) (hg:W.grownBy w1 v.ownBlock) (hb:Below m₀ W w1) (hm:m₀≤Bo):
  (w1.setCell ⟨Bo,0,none⟩ v1).heap[Bo]?=some (.cells #[v1] t (0,0))∧d.R e (w1.setCell ⟨Bo,0,none⟩ v1) n₀ (fun _=>True) v1 ys∧KeepBut W (w1.setCell ⟨Bo,0,none⟩ v1) Bo v.ownBlock∧Below m₀ W (w1.setCell ⟨Bo,0,none⟩ v1):=by
 have hO2:=blk_grown hO hg hne
 refine ⟨blk_put hO2 0 _ rfl,Kd.R_set hR hO2 (by intro q hq;rw [hE] at hq;simp at hq;subst hq;exact hte) 0 _,⟨?_,fun i hi h1 h2=>?_⟩,Below.setCell (p:=⟨Bo,0,none⟩) hb hm _⟩
 ·have:=hg.size;simpa [World.setCell] using this
 ·rw [Below.heap_setCell _ _ _ i h1,hg.block i hi h2]
theorem info_apart:(Tryz.prog.info? 119).map (fun i=>(i.zero,i.size,i.bytes))=some (some (.agg #[(.int .i64 0),(.int .i64 0)]),2,16):=by kernel_rfl
theorem und_apart:Tryz.prog.underlying 116=some (.slice 119):=by kernel_rfl
def nearAt (k:Nat) (l:List S74) (i1 i2 i3 one other d:Int):Option Int:=(ss_ahead.f k l i1 i2 i3 d one other).bind fun a=>sky_round.f a
def nearOf (k:Nat) (l:List S74) (i1 i2 i3 one other d:Int):S119:=⟨d,(nearAt k l i1 i2 i3 one other d).getD 0⟩
def sky_Near.f (k:Nat) (l:List S74) (i1 i2 i3 one other lo hi:Int):Option (Int × Int × Int):=
 (sky_isSky.f k l i1 i2 i3).bind fun b1=>if b1=true then (sky_areTwo.f l i1 i2 i3 one other).bind fun b2=>if b2=true then (sky_isSpan.f lo hi).bind fun b3=>
  if b3=true then (if ∀ d∈daysOf lo hi,(nearAt k l i1 i2 i3 one other d).isSome=true then (at_best_Near_c1.f k ((daysOf lo hi).map (nearOf k l i1 i2 i3 one other))).bind fun t=>some (t.1,t.2,0) else none) else some (0,0,2) else some (0,0,2) else some (0,0,2)
set_option maxRecDepth 100000 in
set_option maxHeartbeats 1600000 in
theorem sky_Near.calls (k:Nat) (A0_0:Option Addr) (c0_0:Nat) (l0_0:List S74) (a0_1 a0_2 a0_3 a1 a2 a3 a4:Int) (r1 r2 r3:Int) (w:World)
  (hr0_0:Kd.C k74 w A0_0 l0_0.length l0_0) (hc0_0:l0_0.length≤c0_0) (h:sky_Near.f k l0_0 a0_1 a0_2 a0_3 a1 a2 a3 a4=some (r1,r2,r3)):
  Calls Tryz.prog 19 #[.agg #[.slice A0_0 l0_0.length c0_0,.int .i64 a0_1,.int .i64 a0_2,.int .i64 a0_3],.int .i64 a1,.int .i64 a2,.int .i64 a3,.int .i64 a4] w fun e w'=>e=.returned (.tuple #[.int .i64 r1,.int .i64 r2,.int .i64 r3])∧Below w.heap.size w w':=by
 have HR:=A0_ hr0_0;have HC:=A0_ hc0_0;clear hr0_0 hc0_0
 have hmf:∀ (fn:Fn) (first cap:Array Value) (w:World),(Instr.makeFunc fn first cap).run Tryz.prog w=.ok (.func fn first cap) w:=fun _ _ _ _=>rfl
 obtain ⟨b1,hb1,h1⟩:=Option.bind_eq_some_iff.mp h
 have HB1:=A0_ hb1;clear h hb1
 refine (callsIn_wide (n:=5)).1 ?_
 refine callsIn_of_wp_marks Tryz.func19 rfl trivial ?_ rfl
 simp only [Tryz.ntmps19,List.size_toArray,List.length_cons,List.length_nil,Nat.reduceAdd,Nat.reduceSub,Array.replicate_succ,Array.replicate_zero,List.push_toArray,List.append_toArray,List.nil_append,List.cons_append]
 cases b1 with
 |false=>
  obtain ⟨rfl,rfl,rfl⟩:0=r1∧0=r2∧2=r3:=by simpa using h1
  gi_wp2_with fail
  refine ⟨trivial,?_⟩
  refine (callsIn_wide.2 (sky_isSky.calls k A0_0 c0_0 l0_0 a0_1 a0_2 a0_3 false _ ?hC HC.out HB1.out)).mono ?_
  case hC=>exact Kd.C_alloc (Kd.C_alloc (Kd.C_alloc HR.out _) _) _
  rintro e w1 ⟨rfl,hb⟩
  have HB:=A0_ (below_step (below_alloc (below_alloc (below_alloc (Below.refl _ _) _) _) _) hb)
  clear hb
  gi_wp2
  refine ⟨trivial,?_⟩
  gi_wp2
  refine ⟨trivial,?_⟩
  gi_wp2
  exact ⟨_,results_tmp3 rfl _ _ _,rfl,HB.out⟩
 |true=>
 obtain ⟨b2,hb2,h2⟩:=Option.bind_eq_some_iff.mp (show ((sky_areTwo.f l0_0 a0_1 a0_2 a0_3 a1 a2).bind _)=some (r1,r2,r3) from by simpa using h1)
 have HB2:=A0_ hb2;clear h1 hb2
 cases b2 with
 |false=>
  obtain ⟨rfl,rfl,rfl⟩:0=r1∧0=r2∧2=r3:=by simpa using h2
  gi_wp2_with fail
  refine ⟨trivial,?_⟩
  refine (callsIn_wide.2 (sky_isSky.calls k A0_0 c0_0 l0_0 a0_1 a0_2 a0_3 true _ ?hC HC.out HB1.out)).mono ?_
  case hC=>exact Kd.C_alloc (Kd.C_alloc (Kd.C_alloc HR.out _) _) _
  rintro e w1 ⟨rfl,hb⟩
  have HB:=A0_ (below_step (below_alloc (below_alloc (below_alloc (Below.refl _ _) _) _) _) hb)
  have HS1:=A0_ (blk_below (blk_alloc (blk_alloc (blk_new w (.cells #[.slice A0_0 l0_0.length c0_0,.int .i64 a0_1,.int .i64 a0_2,.int .i64 a0_3] 29)) (.cells #[.int .i64 a1] 3)) (.cells #[.int .i64 a2] 3)) hb)
  have HO1:=A0_ (blk_below (blk_alloc (blk_new (w.alloc (.cells #[.slice A0_0 l0_0.length c0_0,.int .i64 a0_1,.int .i64 a0_2,.int .i64 a0_3] 29)) (.cells #[.int .i64 a1] 3)) (.cells #[.int .i64 a2] 3)) hb)
  have HT1:=A0_ (blk_below (blk_new ((w.alloc (.cells #[.slice A0_0 l0_0.length c0_0,.int .i64 a0_1,.int .i64 a0_2,.int .i64 a0_3] 29)).alloc (.cells #[.int .i64 a1] 3)) (.cells #[.int .i64 a2] 3)) hb)
  simp only [World.size_alloc] at HO1 HT1
  have x0:=blk_cell HS1.out 0
  have x1:=blk_cell HS1.out 1
  have x2:=blk_cell HS1.out 2
  have x3:=blk_cell HS1.out 3
  have y0:=blk_cell HO1.out 0
  have z0:=blk_cell HT1.out 0
  simp at x0 x1 x2 x3 y0 z0
  clear hb
  gi_wp2_with fail
  refine ⟨trivial,?_⟩
  refine (callsIn_wide.2 (sky_areTwo.calls A0_0 c0_0 l0_0 a0_1 a0_2 a0_3 a1 a2 false _ ?hC HC.out HB2.out)).mono ?_
  case hC=>exact Kd.C_below HR.out HB.out
  rintro e w2 ⟨rfl,hb⟩
  have HBB:=A0_ (below_step HB.out hb)
  clear hb
  gi_wp2
  refine ⟨trivial,?_⟩
  gi_wp2
  exact ⟨_,results_tmp3 rfl _ _ _,rfl,HBB.out⟩
 |true=>
 obtain ⟨b3,hb3,h3⟩:=Option.bind_eq_some_iff.mp (show ((sky_isSpan.f a3 a4).bind _)=some (r1,r2,r3) from by simpa using h2)
 have HB3:=A0_ hb3;clear h2 hb3
 gi_wp2_with fail
 refine ⟨trivial,?_⟩
 refine (callsIn_wide.2 (sky_isSky.calls k A0_0 c0_0 l0_0 a0_1 a0_2 a0_3 true _ ?hC HC.out HB1.out)).mono ?_
 case hC=>exact Kd.C_alloc (Kd.C_alloc (Kd.C_alloc HR.out _) _) _
 rintro e w1 ⟨rfl,hb⟩
 have HB:=A0_ (below_step (below_alloc (below_alloc (below_alloc (Below.refl _ _) _) _) _) hb)
 have HS1:=A0_ (blk_below (blk_alloc (blk_alloc (blk_new w (.cells #[.slice A0_0 l0_0.length c0_0,.int .i64 a0_1,.int .i64 a0_2,.int .i64 a0_3] 29)) (.cells #[.int .i64 a1] 3)) (.cells #[.int .i64 a2] 3)) hb)
 have HO1:=A0_ (blk_below (blk_alloc (blk_new (w.alloc (.cells #[.slice A0_0 l0_0.length c0_0,.int .i64 a0_1,.int .i64 a0_2,.int .i64 a0_3] 29)) (.cells #[.int .i64 a1] 3)) (.cells #[.int .i64 a2] 3)) hb)
 have HT1:=A0_ (blk_below (blk_new ((w.alloc (.cells #[.slice A0_0 l0_0.length c0_0,.int .i64 a0_1,.int .i64 a0_2,.int .i64 a0_3] 29)).alloc (.cells #[.int .i64 a1] 3)) (.cells #[.int .i64 a2] 3)) hb)
 simp only [World.size_alloc] at HO1 HT1
 have x0:=blk_cell HS1.out 0
 have x1:=blk_cell HS1.out 1
 have x2:=blk_cell HS1.out 2
 have x3:=blk_cell HS1.out 3
 have y0:=blk_cell HO1.out 0
 have z0:=blk_cell HT1.out 0
 simp at x0 x1 x2 x3 y0 z0
 clear hb
 gi_wp2_with fail
 refine ⟨trivial,?_⟩
 refine (callsIn_wide.2 (sky_areTwo.calls A0_0 c0_0 l0_0 a0_1 a0_2 a0_3 a1 a2 true _ ?hC HC.out HB2.out)).mono ?_
 case hC=>exact Kd.C_below HR.out HB.out
 rintro e w2 ⟨rfl,hb⟩
 have HBB:=A0_ (below_step HB.out hb)
 have HS2:=A0_ (blk_below HS1.out hb)
 have HO2:=A0_ (blk_below HO1.out hb)
 have HT2:=A0_ (blk_below HT1.out hb)
 clear hb x0 x1 x2 x3 y0 z0
 gi_wp2_with fail
 refine ⟨trivial,?_⟩
 refine (callsIn_wide.2 (sky_isSpan.calls a3 a4 b3 _ HB3.out)).mono ?_
 rintro e w' ⟨rfl,⟨nd,rfl⟩⟩
 cases b3 with
 |false=>
  obtain ⟨rfl,rfl,rfl⟩:0=r1∧0=r2∧2=r3:=by simpa using h3
  gi_wp2
  exact ⟨_,results_tmp3 rfl _ _ _,rfl,pw_below_drewN HBB.out nd⟩
 |true=>
 have HF:=A0_ h3;clear h3
 have HBW:=A0_ (pw_below_drewN HBB.out nd)
 have HSW:=A0_ (blk_drewN HS2.out nd)
 have HOW:=A0_ (blk_drewN HO2.out nd)
 have HTW:=A0_ (blk_drewN HT2.out nd)
 clear HS2 HO2 HT2 HBB HB HS1 HO1 HT1
 generalize w2.drewN nd=W1 at HBW HSW HOW HTW ⊢
 have x0:=blk_cell HSW.out 0
 have x1:=blk_cell HSW.out 1
 have x2:=blk_cell HSW.out 2
 have x3:=blk_cell HSW.out 3
 simp at x0 x1 x2 x3
 have lt1:=blk_lt HTW.out
 have lt0:=blk_lt HSW.out
 gi_wp2_with (refine ⟨trivial,?_⟩;gi_at_call 70;refine (callsIn_wide.2 (days_calls A0_0 c0_0 l0_0.length a0_1 a0_2 a0_3 a3 a4 _)).mono ?_;rintro e w' ⟨rfl,rfl⟩)
 have hcond:∀ d∈daysOf a3 a4,(nearAt k l0_0 a0_1 a0_2 a0_3 a1 a2 d).isSome=true:=by
  have h:=HF.out
  rw [if_pos trivial] at h
  split at h
  ·assumption
  ·cases h
 have hres:∃ t,at_best_Near_c1.f k ((daysOf a3 a4).map (nearOf k l0_0 a0_1 a0_2 a0_3 a1 a2))=some t∧t.1=r1∧t.2=r2∧0=r3:=by
  have h:=HF.out
  rw [if_pos trivial,if_pos hcond] at h
  obtain ⟨t,ht,h2⟩:=Option.bind_eq_some_iff.mp h
  exact ⟨t,ht,by simpa using h2⟩
 obtain ⟨⟨t1,t2⟩,hres,rfl,rfl,rfl⟩:=hres
 have hsp:=isSpan_true HB3.out
 obtain ⟨s1,s2,s3⟩:=hsp
 have HRES:=A0_ hres;have HCD:=A0_ hcond;clear hres hcond x0 x1 x2 x3
 have hB0:Below w.heap.size w ((((W1.alloc (.cells #[.slice none 0 0] 116)).alloc (.cells #[.slice A0_0 l0_0.length c0_0,.int .i64 a0_1,.int .i64 a0_2,.int .i64 a0_3] 29)).alloc (.cells #[.int .i64 a3] 3)).alloc (.cells #[.int .i64 a4] 3)):=below_alloc (below_alloc (below_alloc (below_alloc HBW.out _) _) _) _
 have hO:=blk_alloc (blk_alloc (blk_alloc (blk_new W1 (.cells #[.slice none 0 0] 116)) (.cells #[.slice A0_0 l0_0.length c0_0,.int .i64 a0_1,.int .i64 a0_2,.int .i64 a0_3] 29)) (.cells #[.int .i64 a3] 3)) (.cells #[.int .i64 a4] 3)
 have hS:=blk_alloc (blk_alloc (blk_new (W1.alloc (.cells #[.slice none 0 0] 116)) (.cells #[.slice A0_0 l0_0.length c0_0,.int .i64 a0_1,.int .i64 a0_2,.int .i64 a0_3] 29)) (.cells #[.int .i64 a3] 3)) (.cells #[.int .i64 a4] 3)
 have hL:=blk_alloc (blk_new ((W1.alloc (.cells #[.slice none 0 0] 116)).alloc (.cells #[.slice A0_0 l0_0.length c0_0,.int .i64 a0_1,.int .i64 a0_2,.int .i64 a0_3] 29)) (.cells #[.int .i64 a3] 3)) (.cells #[.int .i64 a4] 3)
 have hH:=blk_new (((W1.alloc (.cells #[.slice none 0 0] 116)).alloc (.cells #[.slice A0_0 l0_0.length c0_0,.int .i64 a0_1,.int .i64 a0_2,.int .i64 a0_3] 29)).alloc (.cells #[.int .i64 a3] 3)) (.cells #[.int .i64 a4] 3)
 have hP:=blk_alloc (blk_alloc (blk_alloc (blk_alloc HOW.out (.cells #[.slice none 0 0] 116)) (.cells #[.slice A0_0 l0_0.length c0_0,.int .i64 a0_1,.int .i64 a0_2,.int .i64 a0_3] 29)) (.cells #[.int .i64 a3] 3)) (.cells #[.int .i64 a4] 3)
 have hQ:=blk_alloc (blk_alloc (blk_alloc (blk_alloc HTW.out (.cells #[.slice none 0 0] 116)) (.cells #[.slice A0_0 l0_0.length c0_0,.int .i64 a0_1,.int .i64 a0_2,.int .i64 a0_3] 29)) (.cells #[.int .i64 a3] 3)) (.cells #[.int .i64 a4] 3)
 have hsz:((((W1.alloc (.cells #[.slice none 0 0] 116)).alloc (.cells #[.slice A0_0 l0_0.length c0_0,.int .i64 a0_1,.int .i64 a0_2,.int .i64 a0_3] 29)).alloc (.cells #[.int .i64 a3] 3)).alloc (.cells #[.int .i64 a4] 3)).heap.size=W1.heap.size+4:=by simp
 simp only [World.size_alloc] at hO hS hL hH
 clear HSW HOW HTW
 generalize ((((W1.alloc (.cells #[.slice none 0 0] 116)).alloc (.cells #[.slice A0_0 l0_0.length c0_0,.int .i64 a0_1,.int .i64 a0_2,.int .i64 a0_3] 29)).alloc (.cells #[.int .i64 a3] 3)).alloc (.cells #[.int .i64 a4] 3))=W0 at hO hS hL hH hP hQ hsz hB0 ⊢
 refine wpIn_rangeFunc_ownH rfl (by omega) (gf:=126) (lb:=#[.pointer (some ⟨W1.heap.size+2,0,none⟩),.pointer (some ⟨W1.heap.size+3,0,none⟩),.pointer (some ⟨W1.heap.size+1,0,none⟩)]) rfl trivial (enters_of Tryz.func126 (by kernel_rfl) rfl)
  (days_stops (5 - 1) (by omega) (W1.heap.size+1) A0_0 c0_0 l0_0.length a0_1 a0_2 a0_3 a3 a4 (by omega) (by omega) s3 W0 hS hL hH) KpD_t (KpD_b (by omega)) (Below.refl _ _) (fun _=>rfl)
  (fun pre W=>DaysI k119 119 116 w W0 W1.heap.size A0_0 c0_0 l0_0.length a0_1 a0_2 a0_3 a3 a4 a1 a2 ((pre.map (·.1)).map (nearOf k l0_0 a0_1 a0_2 a0_3 a1 a2)) W)
  (fun _ _ _=>False)
  (DaysI.own hB0.size) (fun _ _ _ _ _ hs _ _=>hs) ⟨⟨_,hO,Kd.R_nil _ _ _ _ _⟩,hB0,Nat.le_refl _,hS,hL,hH,hP,hQ⟩
  (fun x a' W=>∃ Bx,W0.heap.size≤Bx∧W.heap[Bx]?=some (.cells #[.slice A0_0 l0_0.length c0_0,.int .i64 a0_1,.int .i64 a0_2,.int .i64 a0_3,.int .i64 x.1] 112 (0,0))∧a'={ tmps:=#[.agg #[.slice A0_0 l0_0.length c0_0,.int .i64 a0_1,.int .i64 a0_2,.int .i64 a0_3],.int .i64 a1,.int .i64 a2,.int .i64 a3,.int .i64 a4,.pointer (some ⟨w.heap.size,0,none⟩),.pointer (some ⟨w.heap.size+1,0,none⟩),.pointer (some ⟨w.heap.size+1+1,0,none⟩),undef,undef,.int .i64 0,.int .i64 0,.int .i64 0,.pointer (some ⟨W1.heap.size,0,none⟩),.pointer (some ⟨Bx,0,none⟩),undef,.agg #[.slice A0_0 l0_0.length c0_0,.int .i64 a0_1,.int .i64 a0_2,.int .i64 a0_3],.bool true,.bool false,.bool false,.agg #[.slice A0_0 l0_0.length c0_0,.int .i64 a0_1,.int .i64 a0_2,.int .i64 a0_3],.int .i64 a1,.int .i64 a2,.bool true,.bool false,.bool false,.bool false,.int .i64 a3,.int .i64 a4,.bool true,.bool false,.bool false,.agg #[.slice A0_0 l0_0.length c0_0,.int .i64 a0_1,.int .i64 a0_2,.int .i64 a0_3],.int .i64 a3,.int .i64 a4,.func (.func 126) #[] #[.pointer (some ⟨W1.heap.size+1+1,0,none⟩),.pointer (some ⟨W1.heap.size+1+2,0,none⟩),.pointer (some ⟨W1.heap.size+1,0,none⟩)],.agg #[.slice A0_0 l0_0.length c0_0,.int .i64 a0_1,.int .i64 a0_2,.int .i64 a0_3,.int .i64 x.1],undef,undef,undef,undef,undef,undef,undef,undef,undef,undef,undef,undef,undef,undef,undef,undef,undef],defers:=[] })
  ?hAx ?assign ?body ?done ?stop
 case hAx=>
  rintro x a' _ X Y row ⟨Bx,h1,h2,h3⟩ hg hr
  exact ⟨Bx,h1,blk_ownFrom h2 hg (fun r e=>(hr r e).2),h3⟩
 case assign=>
  rintro l pre x W K hI hK
  dsimp only [encDay]
  have hs:=hI.size
  obtain ⟨⟨v,hOv,hRv⟩,hBW,hsW,hSW,hLW,hHW,hPW,hQW⟩:=hI
  gi_wp2
  exact hK _ _ ((KeepsOthers.alloc _ _).from _) (fun i h1 h2=>Below.heap_alloc _ _ _ (by omega)) ⟨⟨v,blk_alloc hOv _,Kd.R_alloc hRv _⟩,below_alloc hBW _,by simp;omega,blk_alloc hSW _,blk_alloc hLW _,blk_alloc hHW _,blk_alloc hPW _,blk_alloc hQW _⟩ ⟨W.heap.size,hs,blk_new _ _,rfl⟩
 case body=>
  rintro l pre x a' W hl ⟨rr,hrr⟩ hI ⟨Bx,hBx,hX,rfl⟩ hlt
  obtain ⟨r,hr⟩:=Option.isSome_iff_exists.1 (HCD.out x.1 (mem_daysOf.2 x.2))
  obtain ⟨ah,ha,hro⟩:=Option.bind_eq_some_iff.mp (show (ss_ahead.f k l0_0 a0_1 a0_2 a0_3 x.1 a1 a2).bind (fun a=>sky_round.f a)=some r from hr)
  have HA:=A0_ ha;have HRO:=A0_ hro
  have HNR:=A0_ (show nearOf k l0_0 a0_1 a0_2 a0_3 a1 a2 x.1=⟨x.1,r⟩ by unfold nearOf;rw [hr];rfl)
  clear ha hro hr
  have HI0:=A0_ (DaysI.stay hI (by omega) (by omega) (below_drew1 (Below.refl _ W))).1
  have hsW0:=hI.size
  have HK0:=A0_ (DaysI.stay hI (by omega) (by omega) (below_drew1 (Below.refl _ W))).2.1
  have HP0:=A0_ (DaysI.stay hI (by omega) (by omega) (below_drew1 (Below.refl _ W))).2.2
  have HX0:=A0_ (blk_drew hX)
  clear hI hX hO hS hL hH hP hQ hrr
  obtain ⟨v,hOv,hRv⟩:=HI0.out.out
  have HO0:=A0_ hOv;have HR0:=A0_ hRv;clear hOv hRv
  have hbW:W0.heap.size≤W.drew.heap.size:=HI0.out.size
  gi_wp2
  refine startIn_ (S:=fun w'=>w'.cell? ⟨W1.heap.size,0,none⟩=some v∧w'.cell? ⟨Bx,0,none⟩=some (.slice A0_0 l0_0.length c0_0)∧w'.cell? ⟨Bx,1,none⟩=some (.int .i64 a0_1)∧w'.cell? ⟨Bx,2,none⟩=some (.int .i64 a0_2)∧w'.cell? ⟨Bx,3,none⟩=some (.int .i64 a0_3)∧w'.cell? ⟨Bx,4,none⟩=some (.int .i64 x.1)∧w'.cell? ⟨w.heap.size+1,0,none⟩=some (.int .i64 a1)∧w'.cell? ⟨w.heap.size+2,0,none⟩=some (.int .i64 a2)) (ds:=[10,11]) #[false,false,false,false,false,false,false,false,false,false,false,false] (by kernel_rfl) (by kernel_rfl) rfl rfl ⟨(blk_cell HO0.out 0).trans rfl,(blk_cell HX0.out 0).trans rfl,(blk_cell HX0.out 1).trans rfl,(blk_cell HX0.out 2).trans rfl,(blk_cell HX0.out 3).trans rfl,(blk_cell HX0.out 4).trans rfl,(blk_cell HI0.out.one 0).trans rfl,(blk_cell HI0.out.other 0).trans rfl⟩ (fun hHeld=>?_)
  generalize W.drew=W2 at HI0 HK0 HP0 HX0 HO0 HR0 hbW hHeld ⊢
  refine take_ (i:=0) (N:=some 37) (v:=?_) (a':=?_) #[true,false,false,false,false,false,false,false,false,false,false,false] rfl rfl (by kernel_rfl) (fun _ _ _ h=>onlyN_no h) (Or.inl ⟨by rfl,?_⟩) hHeld ?_ ?_
  rotate_left
  ·rintro w' ⟨s0,s1,s2,s3,s4,s5,s6,s7⟩
   go_simp
   with_reducible rfl
  rotate_left
  ·simp only [Act.put,List.setIfInBounds_toArray,List.set_cons_zero,List.set_cons_succ]
   rfl
  refine pure_ (i:=1) (N:=some 38) (v:=?_) (a':=?_) #[true,true,false,false,false,false,false,false,false,false,false,false] rfl rfl (by kernel_rfl) (fun _ _ _ h=>onlyN_no h) (Or.inl ⟨by rfl,?_⟩) ?_ ?_
  rotate_left
  ·intro w'
   go_simp
   with_reducible rfl
  rotate_left
  ·simp only [Act.put,List.setIfInBounds_toArray,List.set_cons_zero,List.set_cons_succ]
   rfl
  refine take_ (i:=2) (N:=some 39) (v:=?_) (a':=?_) #[true,true,true,false,false,false,false,false,false,false,false,false] rfl rfl (by kernel_rfl) (fun _ _ _ h=>onlyN_no h) (Or.inl ⟨by rfl,?_⟩) hHeld ?_ ?_
  rotate_left
  ·rintro w' ⟨s0,s1,s2,s3,s4,s5,s6,s7⟩
   go_simp
   with_reducible rfl
  rotate_left
  ·simp only [Act.put,List.setIfInBounds_toArray,List.set_cons_zero,List.set_cons_succ]
   rfl
  refine take_ (i:=3) (N:=some 40) (v:=?_) (a':=?_) #[true,true,true,true,false,false,false,false,false,false,false,false] rfl rfl (by kernel_rfl) (fun _ _ _ h=>onlyN_no h) (Or.inl ⟨by rfl,?_⟩) hHeld ?_ ?_
  rotate_left
  ·rintro w' ⟨s0,s1,s2,s3,s4,s5,s6,s7⟩
   go_simp
   with_reducible rfl
  rotate_left
  ·simp only [Act.put,List.setIfInBounds_toArray,List.set_cons_zero,List.set_cons_succ]
   rfl
  refine take_ (i:=4) (N:=some 41) (v:=?_) (a':=?_) #[true,true,true,true,true,false,false,false,false,false,false,false] rfl rfl (by kernel_rfl) (fun _ _ _ h=>onlyN_no h) (Or.inl ⟨by rfl,?_⟩) hHeld ?_ ?_
  rotate_left
  ·rintro w' ⟨s0,s1,s2,s3,s4,s5,s6,s7⟩
   go_simp
   with_reducible rfl
  rotate_left
  ·simp only [Act.put,List.setIfInBounds_toArray,List.set_cons_zero,List.set_cons_succ]
   rfl
  refine take_ (i:=5) (N:=some 42) (v:=?_) (a':=?_) #[true,true,true,true,true,true,false,false,false,false,false,false] rfl rfl (by kernel_rfl) (fun _ _ _ h=>onlyN_no h) (Or.inl ⟨by rfl,?_⟩) hHeld ?_ ?_
  rotate_left
  ·rintro w' ⟨s0,s1,s2,s3,s4,s5,s6,s7⟩
   go_simp
   with_reducible rfl
  rotate_left
  ·simp only [Act.put,List.setIfInBounds_toArray,List.set_cons_zero,List.set_cons_succ]
   rfl
  refine one_ (i:=6) (N:=some 43) #[true,true,true,true,true,true,true,false,false,false,false,false] rfl rfl (by kernel_rfl) (by decide) (fun K hK=>?_)
  refine goes_ Tryz.func73 (by kernel_rfl) rfl #[.agg #[.slice A0_0 l0_0.length c0_0,.int .i64 a0_1,.int .i64 a0_2,.int .i64 a0_3,.int .i64 x.1],.int .i64 a1,.int .i64 a2] (by rfl) rfl rfl (by (try simp only [List.map_toArray,List.map_cons,List.map_nil]);rfl) ?_
  refine (ss_ahead.calls k _ _ l0_0 a0_1 a0_2 a0_3 x.1 a1 a2 ah _ (Kd.C_below HR.out HI0.out.below) HC.out HA.out).mono ?_
  rintro e w4 ⟨rfl,hb⟩
  refine ⟨_,rfl,?_⟩
  have st:=HI0.out.stay (by omega) (by omega) hb
  have HI1:=A0_ st.1
  have HK1:=A0_ (HK0.out.trans st.2.1)
  have HP1:=A0_ (KpD_t HP0.out st.2.2)
  have HX1:=A0_ (blk_below HX0.out hb)
  have HO1:=A0_ (blk_below HO0.out hb)
  have HR1:=A0_ (Kd.R_below HR0.out hb)
  clear hb st HI0 HK0 HP0 HX0 HO0 HR0 hHeld
  refine hK.out _ _ ⟨(blk_cell HO1.out 0).trans rfl,(blk_cell HX1.out 0).trans rfl,(blk_cell HX1.out 1).trans rfl,(blk_cell HX1.out 2).trans rfl,(blk_cell HX1.out 3).trans rfl,(blk_cell HX1.out 4).trans rfl,(blk_cell HI1.out.one 0).trans rfl,(blk_cell HI1.out.other 0).trans rfl⟩ (fun hHeld=>?_)
  clear hK K
  refine norm_ (a':=?_) ?_ ?_
  rotate_left
  ·show Act.put _ (some 43) _=_
   simp only [Act.put,List.setIfInBounds_toArray,List.set_cons_zero,List.set_cons_succ]
   rfl
  refine one_ (i:=7) (N:=some 44) #[true,true,true,true,true,true,true,true,false,false,false,false] rfl rfl (by kernel_rfl) (by decide) (fun K hK=>?_)
  refine goes_ Tryz.func72 (by kernel_rfl) rfl #[.int .i64 ah] (by rfl) rfl rfl (by (try simp only [List.map_toArray,List.map_cons,List.map_nil]);rfl) ?_
  refine (sky_round.calls ah r _ HRO.out).mono ?_
  rintro e w5 ⟨rfl,hb⟩
  refine ⟨_,rfl,?_⟩
  have st:=HI1.out.stay (by omega) (by omega) hb
  have HI2:=A0_ st.1
  have HK2:=A0_ (HK1.out.trans st.2.1)
  have HP2:=A0_ (KpD_t HP1.out st.2.2)
  have HX2:=A0_ (blk_below HX1.out hb)
  have HO2:=A0_ (blk_below HO1.out hb)
  have HR2:=A0_ (Kd.R_below HR1.out hb)
  clear hb st HI1 HK1 HP1 HX1 HO1 HR1 hHeld
  refine hK.out _ _ ⟨(blk_cell HO2.out 0).trans rfl,(blk_cell HX2.out 0).trans rfl,(blk_cell HX2.out 1).trans rfl,(blk_cell HX2.out 2).trans rfl,(blk_cell HX2.out 3).trans rfl,(blk_cell HX2.out 4).trans rfl,(blk_cell HI2.out.one 0).trans rfl,(blk_cell HI2.out.other 0).trans rfl⟩ (fun hHeld=>?_)
  clear hK K
  refine norm_ (a':=?_) ?_ ?_
  rotate_left
  ·show Act.put _ (some 44) _=_
   simp only [Act.put,List.setIfInBounds_toArray,List.set_cons_zero,List.set_cons_succ]
   rfl
  refine pure_ (i:=8) (N:=some 45) (v:=?_) (a':=?_) #[true,true,true,true,true,true,true,true,true,false,false,false] rfl rfl (by kernel_rfl) (fun _ _ _ h=>onlyN_no h) (Or.inl ⟨by rfl,?_⟩) ?_ ?_
  rotate_left
  ·intro w'
   go_simp
   with_reducible rfl
  rotate_left
  ·simp only [Act.put,List.setIfInBounds_toArray,List.set_cons_zero,List.set_cons_succ]
   rfl
  refine one_ (i:=9) (N:=some 46) #[true,true,true,true,true,true,true,true,true,true,false,false] rfl rfl (by kernel_rfl) (by decide) (fun K hK=>?_)
  refine value_ (w1:=?_) (v:=?_) (by rfl) rfl ?_ ?_
  rotate_left 2
  ·go_simp
   constructor
   ·rfl
   ·rfl
  refine hK.out _ _ ⟨(blk_cell (blk_alloc HO2.out _) 0).trans rfl,(blk_cell (blk_alloc HX2.out _) 0).trans rfl,(blk_cell (blk_alloc HX2.out _) 1).trans rfl,(blk_cell (blk_alloc HX2.out _) 2).trans rfl,(blk_cell (blk_alloc HX2.out _) 3).trans rfl,(blk_cell (blk_alloc HX2.out _) 4).trans rfl,(blk_cell (blk_alloc HI2.out.one _) 0).trans rfl,(blk_cell (blk_alloc HI2.out.other _) 0).trans rfl⟩ (fun hHeld=>?_)
  clear hK K
  refine norm_ (a':=?_) ?_ ?_
  rotate_left
  ·show Act.put _ (some 46) _=_
   simp only [Act.put,List.setIfInBounds_toArray,List.set_cons_zero,List.set_cons_succ]
   rfl
  refine last_ (i:=10) (N:=some 47) #[true,true,true,true,true,true,true,true,true,true,true,false] rfl rfl (by kernel_rfl) (by decide) (fun K hK=>?_)
  have hs2:W0.heap.size≤w5.heap.size:=HI2.out.size
  obtain ⟨hr0,inner,hown,hreps⟩:=HR2.out
  have hne:some W1.heap.size≠v.ownBlock:=Boxed.not_row (t:=116) HO2.out (by decide) hown
  have hlen:((pre.map (·.1)).map (nearOf k l0_0 a0_1 a0_2 a0_3 a1 a2)).length=pre.length:=by simp
  refine Kd.R_append_step k119 (w0:=w5) W0.heap.size (by rfl) (.tmp 37) (.tmp 46) 116 119 (.agg #[(.int .i64 0),(.int .i64 0)]) 16 rfl und_apart info_apart rfl (by decide) (by omega) v ((pre.map (·.1)).map (nearOf k l0_0 a0_1 a0_2 a0_3 a1 a2)) (⟨x.1,r⟩:S119) [.int .i64 x.1,.int .i64 r] (fun _=>True) (fun _=>False) rfl rfl (k119_mkM _ _ _ (⟨x.1,r⟩:S119)) (fun _ hk=>hk.elim) (fun _ _=>trivial) HR2.out (Below.refl _ _) hs2 (by rw [hlen];omega) ?_
  intro v1 w9 ho9 hb9 hg9 hat9
  obtain ⟨Av,cv,hv1⟩:=Kd.R_slice ho9
  rw [show ((pre.map (·.1)).map (nearOf k l0_0 a0_1 a0_2 a0_3 a1 a2) ++ [(⟨x.1,r⟩:S119)]).length=pre.length+1 by simp] at hv1
  subst hv1
  have hcl:=append_close2 (m₀:=w.heap.size) HO2.out hne ho9 (by decide) (by decide) hg9 (hb9.mono (by have:=hB0.size;omega)) (by omega)
  have HST:=A0_ (blk_grown HO2.out hg9 hne)
  refine hK.out _ _ ?_
  clear hK K
  refine norm_ (a':=?_) ?_ ?_
  rotate_left
  ·show Act.put _ (some 47) _=_
   simp only [Act.put,List.setIfInBounds_toArray,List.set_cons_zero,List.set_cons_succ]
   rfl
  refine last_ (i:=11) (N:=none) #[true,true,true,true,true,true,true,true,true,true,true,true] rfl rfl (by kernel_rfl) (by decide) (fun K hK=>?_)
  have hs41:w9.cell? ⟨W1.heap.size,0,none⟩=some v:=(blk_cell HST.out 0).trans rfl
  have hfs41:=blk_frozen HST.out 0
  refine skip_ (w1:=?_) (by rfl) rfl ?_ ?_
  rotate_left
  ·go_simp
   rfl
  refine hK.out _ _ ?_
  clear hK K
  refine done_ (by kernel_rfl) ?_
  refine ⟨rfl,?_⟩
  have st:=HI2.out.step (by omega) (by omega) HO2.out HR2.out hcl.1 hcl.2.1 hcl.2.2.1 hcl.2.2.2
  refine ⟨HK2.out.trans st.2.1,KpD_t HP2.out st.2.2,?_⟩
  dsimp only
  have e1:((pre ++ [x]).map (·.1)).map (nearOf k l0_0 a0_1 a0_2 a0_3 a1 a2)=((pre.map (·.1)).map (nearOf k l0_0 a0_1 a0_2 a0_3 a1 a2)) ++ [⟨x.1,r⟩]:=by
   rw [List.map_append,List.map_append]
   simp [HNR.out]
  rw [e1]
  exact st.1
 case done=>
  rintro D ys W hD hys hI hK
  obtain ⟨v,hOv,hRv⟩:=hI.out
  have o0:=blk_cell hOv 0
  simp at o0
  have HIb:=A0_ hI.below
  have HB0:=A0_ hB0;have HK:=A0_ hK
  have hL2:at_best_Near_c1.f k ((ys.map (·.1)).map (nearOf k l0_0 a0_1 a0_2 a0_3 a1 a2))=some (t1,t2):=by rw [allDays_val hys];exact HRES.out
  generalize (ys.map (·.1)).map (nearOf k l0_0 a0_1 a0_2 a0_3 a1 a2)=ls at hRv hL2
  have HL:=A0_ hL2;clear hI hOv hys hO hS hL hH hP hQ hK hL2 HF HCD HRES
  obtain ⟨A,c,rfl,hcl,hCl⟩:=Kd.R_reads hRv
  clear hRv
  gi_wp2_with fail
  refine ⟨trivial,?_⟩
  refine (callsIn_wide.2 (at_best_Near_c1.calls k A c ls t1 t2 _ hCl hcl HL.out)).mono ?_
  rintro e w8 ⟨rfl,hb⟩
  have HKd:=A0_ ((hb.block D (Array.getElem?_eq_some_iff.1 HK.out).1).trans HK.out)
  have HBd:=A0_ (HIb.out.trans (hb.mono HIb.out.size))
  have HDs:=A0_ (show D<w8.heap.size from Nat.lt_of_lt_of_le (Array.getElem?_eq_some_iff.1 HK.out).1 hb.size)
  clear hb o0
  gi_wp2_with fail
  have hK9:(w8.alloc (.cells #[.int .i64 t1,.int .i64 t2] 119)).drew.heap[D]?=some (.deferred (some [])):=(Below.heap_alloc _ _ _ HDs.out).trans HKd.out
  have hB9:=below_drew1 (below_alloc HBd.out (.cells #[.int .i64 t1,.int .i64 t2] 119))
  gi_region
  all_goals gi_wp2
  all_goals refine ⟨by simp,.inl ⟨_,_,rfl,run_takeDeferred hK9,?_⟩⟩
  all_goals exact ⟨_,results_tmp3 rfl _ _ _,rfl,hB9.trans (belowK_b (w:=w) (Nat.le_refl _) _ D _ _ (by have:=HB0.out.size;omega) hK9 rfl rfl)⟩
 case stop=>
  rintro D c pre W _ _ h _
  exact h.elim
end Go.Proofs.YtjahbgldccjbfaaGreatDoor.PSky
end
section
namespace Go.Proofs.YtjahbgldccjbfaaGreatDoor.PSky
open Go.RowKit Go.Proofs.YtjahbgldccjbfaaGreatDoorW.PrintWords Go.Proofs.YtjahbgldccjbfaaGreatDoorW.PrintLast Go.Proofs.YtjahbgldccjbfaaGreatDoorW.PrintMore
theorem sameI_ev (l:List Int) (hl:l.length≤1000000):Ev (fun k=>tr_Same.f k l l) true:=by
 have key:∀ m i:Nat,i+m=l.length→Ev (fun k=>tr_Same.l0 k l l (i:Int)) true:=by
  intro m
  induction m with
  |zero=>
   intro i h
   refine Ev.step (fun k=>by rw [tr_Same.l0]) ?_
   exact Ev.neg (by omega) (Ev.now _)
  |succ m ih=>
   intro i h
   refine Ev.step (fun k=>by rw [tr_Same.l0]) ?_
   refine Ev.pos (by omega) (Ev.pos (by omega) (Ev.pos (by omega) (Ev.pos rfl ?_)))
   rw [wrap_id (by omega)]
   exact ih (i+1) (by omega)
 unfold tr_Same.f
 exact Ev.pos rfl (key l.length 0 (by omega))
def gapOf (x:Int):Int:=mn (x % 21600) (21600 - x % 21600)
theorem gap_bounds (x:Int):0≤gapOf x∧gapOf x≤10800:=by
 unfold gapOf mn
 split <;> omega
def gapD (l:List S74) (i j d:Int):Int:=gapOf (aheadI l i j d)
def least (g:Int→Int) (s:Int × Int) (ds:List Int):Int × Int:=ds.foldl (fun s d=>if g d<s.2 then (d,g d) else s) s
theorem nearAt_ev {l:List S74} {p q n:Int} (h:okSky l p q n=true) {i j:Int} (hij:okTwo l i j=true) {d:Int} (hd:0≤d∧d≤20000):Ev (fun k=>nearAt k l p q n i j d) (gapD l i j d):=by
 have b1:=aheadI_bounds h hij (d:=d) (by omega)
 have e1:Ev (fun k=>ss_ahead.f k l p q n d i j) (aheadI l i j d):=by
  obtain ⟨a,b,rfl,rfl,ha,hb,-⟩:=two_at hij
  exact ahead_ev h a b ha hb (by omega)
 unfold nearAt
 refine Ev.bind e1 (Ev.is ?_)
 unfold sky_round.f
 rw [around_eq (by omega),Option.bind_some,wrap_id (by omega)]
 rfl
theorem rdA_get (l:List S119) (i:Nat) (h:i<l.length):rd_T119 l (i:Int)=l[i]:=by unfold rd_T119;simp [h]
def apartsOf (g:Int→Int) (ds:List Int):List S119:=ds.map fun d=>⟨d,g d⟩
theorem best_loop (g:Int→Int) (ds:List Int) (hL:ds.length≤1000000):∀ (m i:Nat) (s:Int × Int),i+m=ds.length→1≤i→Ev (fun k=>at_best_Near_c1.l0 k (apartsOf g ds) (ds.length:Int) (i:Int) s.1 s.2) (least g s (ds.drop i))
 |0,i,s,h,h1=>by
  refine Ev.step (fun k=>by rw [at_best_Near_c1.l0]) ?_
  rw [show ds.drop i=[] from List.drop_eq_nil_of_le (by omega)]
  exact Ev.neg (by omega) (Ev.now _)
 |m+1,i,s,h,h1=>by
  have hi:i<ds.length:=by omega
  have ih:=fun s'=>best_loop g ds hL m (i+1) s' (by omega) (by omega)
  refine Ev.step (fun k=>by rw [at_best_Near_c1.l0]) ?_
  have hl:(apartsOf g ds).length=ds.length:=by simp [apartsOf]
  rw [rdA_get _ i (by omega),wrap_id (by omega)]
  have e:(apartsOf g ds)[i]'(by omega)=⟨ds[i],g ds[i]⟩:=by simp [apartsOf]
  rw [e]
  refine Ev.pos (by omega) (Ev.pos (by omega) (Ev.pos (by omega) (Ev.neg (by omega) (Ev.bind (Ev.is rfl) ?_))))
  rw [List.drop_eq_getElem_cons hi]
  show Ev _ (least g (if g ds[i]<s.2 then (ds[i],g ds[i]) else s) (ds.drop (i+1)))
  by_cases hg:g ds[i]<s.2
  ·rw [if_pos hg]
   exact Ev.pos (by simpa using hg) (ih (ds[i],g ds[i]))
  ·rw [if_neg hg]
   exact Ev.neg (by simpa using hg) (ih s)
theorem best_ev (g:Int→Int) (d:Int) (ds:List Int) (hL:ds.length<1000000):Ev (fun k=>at_best_Near_c1.f k (apartsOf g (d :: ds))) (least g (d,g d) ds):=by
 unfold at_best_Near_c1.f
 refine Ev.step (fun k=>by rw [at_best_Near_c1.l0]) ?_
 have hl:(apartsOf g (d :: ds)).length=(d :: ds).length:=by simp [apartsOf]
 rw [hl,show (0:Int)=((0:Nat):Int) from rfl,rdA_get _ 0 (by rw [hl];simp),wrap_id (by omega)]
 refine Ev.pos (by simp) (Ev.pos (by omega) (Ev.pos (by simp) (Ev.pos (by omega) ?_)))
 exact best_loop g (d :: ds) (by simp;omega) ds.length 1 (d,g d) (by simp;omega) (by omega)
theorem least_first (g:Int→Int) (d:Int) (ds:List Int) (h:g d<21600):least g (0,21600) (d :: ds)=least g (d,g d) ds:=by
 show least g (if g d<21600 then (d,g d) else (0,21600)) ds=_
 rw [if_pos h]
theorem daysOf_cons {a b:Int} (h:a≤b):daysOf a b=a :: daysOf (a+1) b:=by
 unfold daysOf
 rw [show (b+1 - a).toNat=(b+1 - (a+1)).toNat+1 by omega,List.range_succ_eq_map,List.map_cons,List.map_map]
 congr 1
 ·simp
 ·refine List.map_congr_left fun j _=>?_
  simp only [Function.comp_apply,Nat.succ_eq_add_one]
  omega
def nearOn (l:List S74) (i j a b:Int):Int × Int:=least (gapD l i j) (0,21600) (daysOf a b)
theorem Near_ev (l:List S74) (p q n i j a b:Int):Ev (fun k=>sky_Near.f k l p q n i j a b) (if okSky l p q n=true∧okTwo l i j=true∧okSpan a b=true then ((nearOn l i j a b).1,(nearOn l i j a b).2,0) else (0,0,2)):=by
 unfold sky_Near.f
 refine Ev.bind (isSky_ev l p q n) ?_
 cases h1:okSky l p q n with
 |false=>
  refine Ev.neg (by simp) ?_
  rw [if_neg (by simp)]
  exact Ev.now _
 |true=>
  have hl:=(ok_at h1).2.1
  refine Ev.pos rfl (Ev.bind (Ev.is (two_eq (by omega) p q n i j)) ?_)
  cases h2:okTwo l i j with
  |false=>
   refine Ev.neg (by simp) ?_
   rw [if_neg (by simp)]
   exact Ev.now _
  |true=>
   refine Ev.pos rfl (Ev.bind (Ev.is (isSpan_eq a b)) ?_)
   cases h3:okSpan a b with
   |false=>
    refine Ev.neg (by simp) ?_
    rw [if_neg (by simp)]
    exact Ev.now _
   |true=>
    have hsp:=span_of h3
    rw [if_pos (show true=true∧true=true∧true=true from ⟨rfl,rfl,rfl⟩)]
    refine Ev.pos rfl ?_
    have hd:=daysOf_cons (a:=a) (b:=b) (by omega)
    have hbest:=best_ev (gapD l i j) a (daysOf (a+1) b) (by unfold daysOf;simp;omega)
    rw [← hd,← least_first (gapD l i j) a _ (by have:=gap_bounds (aheadI l i j a);unfold gapD;omega),← hd] at hbest
    obtain ⟨K,hK⟩:=Ev.all (fun d k=>nearAt k l p q n i j d) (fun d=>gapD l i j d) (daysOf a b) (fun d hd=>nearAt_ev h1 h2 (by have:=(day_span h3 hd).1;omega))
    obtain ⟨K2,hK2⟩:=hbest
    refine ⟨K+K2,fun k hk=>?_⟩
    have hk':=hK k (by omega)
    have hk2:=hK2 k (by omega)
    dsimp only at hk2
    show (if ∀ d∈daysOf a b,(nearAt k l p q n i j d).isSome=true then (at_best_Near_c1.f k ((daysOf a b).map (nearOf k l p q n i j))).bind fun t=>some (t.1,t.2,(0:Int)) else none)=_
    rw [if_pos (fun d hd=>by rw [hk' d hd];rfl)]
    have e:(daysOf a b).map (nearOf k l p q n i j)=apartsOf (gapD l i j) (daysOf a b):=by
     unfold apartsOf
     refine List.map_congr_left fun d hd=>?_
     unfold nearOf
     rw [hk' d hd]
     rfl
    rw [e,hk2]
    rfl
theorem refApart_eq {a b:Int} (ha:0≤a∧a<21600) (hb:0≤b∧b<21600):tr_Apart.f a b=some (gapOf (a - b)):=by
 unfold tr_Apart.f
 rw [wrap_id (by omega),Less_eq (by omega),Option.bind_some,wrap_id (by omega)]
 rfl
theorem range_cons (d:Int) (m:Nat):((List.range (m+1)).map fun j:Nat=>d+(j:Nat))=d :: ((List.range m).map fun j:Nat=>d+1+(j:Nat)):=by
 rw [List.range_succ_eq_map,List.map_cons,List.map_map]
 congr 1
 ·simp
 ·refine List.map_congr_left fun j _=>?_
  simp only [Function.comp_apply,Nat.succ_eq_add_one]
  omega
theorem refNear_loop {l:List S74} {p q n:Int} (h:okSky l p q n=true) {i j:Int} (hij:okTwo l i j=true) {hi:Int} (hh:hi≤20000):∀ (m:Nat) (d:Int) (s:Int × Int),1≤d→d+m=hi+1 →
  Ev (fun k=>tr_Near.l0 k i j hi s.1 s.2 d l p q n) (least (gapD l i j) s ((List.range m).map fun j:Nat=>d+(j:Nat)))
 |0,d,s,hd,hm=>by
  refine Ev.step (fun k=>by rw [tr_Near.l0]) ?_
  exact Ev.neg (by omega) (Ev.now _)
 |m+1,d,s,hd,hm=>by
  have ih:=fun s'=>refNear_loop h hij hh m (d+1) s' (by omega) (by omega)
  refine Ev.step (fun k=>by rw [tr_Near.l0]) ?_
  rw [wrap_id (show -9223372036854775808≤d+1∧d+1≤9223372036854775807 by omega),range_cons]
  obtain ⟨a,b,rfl,rfl,ha,hb,-⟩:=two_at hij
  have hk:=ok_at h
  have oka:=hk.2.2.2.2 a ha
  have okb:=hk.2.2.2.2 b hb
  refine Ev.pos (by omega) (Ev.pos (by omega) (Ev.pos (by omega) (Ev.bind (Ev.is (refplace_eq oka (by omega))) (Ev.pos (by omega) (Ev.pos (by omega) (Ev.bind (Ev.is (refplace_eq okb (by omega))) (Ev.bind (Ev.is (refApart_eq (by omega) (by omega))) ?_)))))))
  have e:gapOf (wayOf (rd_T74 l (a:Int)) d % 21600 - wayOf (rd_T74 l (b:Int)) d % 21600)=gapD l (a:Int) (b:Int) d:=by
   unfold gapD gapOf aheadI
   rw [← Int.sub_emod]
  rw [e]
  show Ev _ (least (gapD l (a:Int) (b:Int)) (if gapD l (a:Int) (b:Int) d<s.2 then (d,gapD l (a:Int) (b:Int) d) else s) _)
  by_cases hg:gapD l (a:Int) (b:Int) d<s.2
  ·rw [if_pos hg]
   exact Ev.pos hg (ih (d,gapD l (a:Int) (b:Int) d))
  ·rw [if_neg hg]
   exact Ev.neg hg (ih s)
theorem refNear_ev {l:List S74} {p q n:Int} (h:okSky l p q n=true) {i j:Int} (hij:okTwo l i j=true) {a b:Int} (hs:okSpan a b=true):Ev (fun k=>tr_Near.f k l p q n i j a b) (nearOn l i j a b):=by
 have hsp:=span_of hs
 have:=refNear_loop h hij (hi:=b) (by omega) (b+1 - a).toNat a (0,21600) (by omega) (by omega)
 unfold tr_Near.f
 exact this
theorem refMeets_loop {l:List S74} {p q n:Int} (h:okSky l p q n=true) {i j:Int} (hij:okTwo l i j=true) {hi:Int} (hh:hi≤20000):∀ (m:Nat) (d:Int) (acc:List Int),1≤d→d+m=hi+1→acc.length+m≤1000000 →
  Ev (fun k=>tr_Meets.l0 k i j hi acc d l p q n) (acc ++ ((List.range m).map fun j:Nat=>d+(j:Nat)).filter (meetsOn l i j))
 |0,d,acc,hd,hm,ha=>by
  refine Ev.step (fun k=>by rw [tr_Meets.l0]) ?_
  refine Ev.neg (by omega) ?_
  simp only [List.range_zero,List.map_nil,List.filter_nil,List.append_nil]
  exact Ev.now _
 |m+1,d,acc,hd,hm,hacc=>by
  have ih:=fun acc' ha'=>refMeets_loop h hij hh m (d+1) acc' (by omega) (by omega) ha'
  refine Ev.step (fun k=>by rw [tr_Meets.l0]) ?_
  rw [wrap_id (show -9223372036854775808≤d+1∧d+1≤9223372036854775807 by omega),wrap_id (show -9223372036854775808≤d - 1∧d - 1≤9223372036854775807 by omega),range_cons,List.filter_cons]
  have b1:=aheadI_bounds h hij (d:=d) (by omega)
  have b2:=aheadI_bounds h hij (d:=d - 1) (by omega)
  have e1:tr_ahead.f l p q n i j d=some (aheadI l i j d):=by
   obtain ⟨a,b,rfl,rfl,ha,hb,-⟩:=two_at hij
   exact refahead_eq h a b ha hb (by omega)
  have e2:tr_ahead.f l p q n i j (d - 1)=some (aheadI l i j (d - 1)):=by
   obtain ⟨a,b,rfl,rfl,ha,hb,-⟩:=two_at hij
   exact refahead_eq h a b ha hb (by omega)
  refine Ev.pos (by omega) (Ev.bind (Ev.is e2) (Ev.bind (Ev.is e1) (Ev.bind (Ev.is (passed_eq (by omega) (by omega))) ?_)))
  have more:=ih (acc ++ [d]) (by simp;omega)
  rw [List.append_assoc,List.singleton_append] at more
  by_cases hp:aheadI l i j d / 21600 > aheadI l i j (d - 1) / 21600
  ·rw [if_pos (show meetsOn l i j d=true by unfold meetsOn;rw [decide_eq_true hp,Bool.true_or])]
   exact Ev.pos (by simpa using hp) (Ev.pos (by omega) more)
  ·refine Ev.neg (by simpa using hp) ?_
   rw [wrap_id (show -9223372036854775808 ≤ -aheadI l i j (d - 1) ∧ -aheadI l i j (d - 1)≤9223372036854775807 by omega),wrap_id (show -9223372036854775808 ≤ -aheadI l i j d ∧ -aheadI l i j d≤9223372036854775807 by omega)]
   refine Ev.bind (Ev.is (passed_eq (by omega) (by omega))) ?_
   by_cases hq:-aheadI l i j d / 21600 > -aheadI l i j (d - 1) / 21600
   ·rw [if_pos (show meetsOn l i j d=true by unfold meetsOn;rw [decide_eq_true hq,Bool.or_true])]
    exact Ev.pos (by simpa using hq) (Ev.pos (by omega) more)
   ·rw [if_neg (show ¬ meetsOn l i j d=true by unfold meetsOn;rw [decide_eq_false hp,decide_eq_false hq];simp)]
    exact Ev.neg (by simpa using hq) (ih acc (by omega))
theorem refMeets_ev {l:List S74} {p q n:Int} (h:okSky l p q n=true) {i j:Int} (hij:okTwo l i j=true) {a b:Int} (hs:okSpan a b=true):Ev (fun k=>tr_Meets.f k l p q n i j a b) (meetsOf l i j a b):=by
 have hsp:=span_of hs
 have:=refMeets_loop h hij (hi:=b) (by omega) (b+1 - a).toNat a [] (by omega) (by omega) (by simp;omega)
 unfold tr_Meets.f
 simpa [meetsOf,daysOf] using this
end Go.Proofs.YtjahbgldccjbfaaGreatDoor.PSky
end
section
namespace Go.Proofs.YtjahbgldccjbfaaGreatDoor.PSky
open Go.RowKit Go.Proofs.YtjahbgldccjbfaaGreatDoorW.PrintWords Go.Proofs.YtjahbgldccjbfaaGreatDoorW.PrintLast Go.Proofs.YtjahbgldccjbfaaGreatDoorW.PrintMore
attribute [local go_sem] max2_int min2_int max_two min_two max_three min_three max_four min_four
set_option linter.unusedVariables false
set_option linter.unusedSimpArgs false
def tl_SkyMeets.j0:Nat→Int→Int→Int→Int→List Int→Int→Int→Int→Int→Bool→List (S74)→Int→Int→Int→Option (Bool)
 |0,_,_,_,_,_,_,_,_,_,_,_,_,_,_=>none
 |k+1,x1,x2,x3,x4,x11,x12,x13,x14,x15,x66,x338000,x338001,x338002,x338003=>if x66=true then (if x12=2 then (if (x11.length:Int)=0 then (if x15=2 then (if x13=0 then (if x14=0 then ((tl_known.f).bind fun t351=>(some t351)) else (some false)) else (some false)) else (some false)) else (some false)) else (some false)) else ((tr_Near.f k x338000 x338001 x338002 x338003 x1 x2 x3 x4).bind fun bt352=>(if x12=0 then ((tr_Meets.f k x338000 x338001 x338002 x338003 x1 x2 x3 x4).bind fun t354=>((tr_Same.f k x11 t354).bind fun t357=>(if t357=true then (if x15=0 then (if x13=bt352.1 then (if x14=bt352.2 then ((tl_known.f).bind fun t358=>(some t358)) else (some false)) else (some false)) else (some false)) else (some false)))) else (some false)))
def tl_SkyMeets.f (k:Nat) (l0_0:List (S74)) (a0_1:Int) (a0_2:Int) (a0_3:Int) (a1:Int) (a2:Int) (a3:Int) (a4:Int):Option (Bool):=(tl_short.f k l0_0 a0_1 a0_2 a0_3).bind fun t338=>(if t338=true then ((sky_Meets.f k l0_0 a0_1 a0_2 a0_3 a1 a2 a3 a4).bind fun bt340=>((sky_Near.f k l0_0 a0_1 a0_2 a0_3 a1 a2 a3 a4).bind fun bt344=>((tr_Sky.f k l0_0 a0_1 a0_2 a0_3).bind fun t347=>(if t347=true then ((tr_Body.f l0_0 a0_1 a0_2 a0_3 a1).bind fun t348=>(if t348=true then ((tr_Body.f l0_0 a0_1 a0_2 a0_3 a2).bind fun t349=>(if t349=true then (if a1=a2 then (tl_SkyMeets.j0 k a1 a2 a3 a4 bt340.1 bt340.2 bt344.1 bt344.2.1 bt344.2.2 true l0_0 a0_1 a0_2 a0_3) else ((tr_Span.f a3 a4).bind fun t350=>(tl_SkyMeets.j0 k a1 a2 a3 a4 bt340.1 bt340.2 bt344.1 bt344.2.1 bt344.2.2 (!t350) l0_0 a0_1 a0_2 a0_3))) else (tl_SkyMeets.j0 k a1 a2 a3 a4 bt340.1 bt340.2 bt344.1 bt344.2.1 bt344.2.2 true l0_0 a0_1 a0_2 a0_3))) else (tl_SkyMeets.j0 k a1 a2 a3 a4 bt340.1 bt340.2 bt344.1 bt344.2.1 bt344.2.2 true l0_0 a0_1 a0_2 a0_3))) else (tl_SkyMeets.j0 k a1 a2 a3 a4 bt340.1 bt340.2 bt344.1 bt344.2.1 bt344.2.2 true l0_0 a0_1 a0_2 a0_3))))) else ((tl_known.f).bind fun t339=>(some t339)))
set_option maxHeartbeats 8000000 in
set_option maxRecDepth 100000 in
theorem tl_SkyMeets.calls (k:Nat) (A0_0:Option Addr) (c0_0:Nat) (l0_0:List (S74)) (a0_1:Int) (a0_2:Int) (a0_3:Int) (a1:Int) (a2:Int) (a3:Int) (a4:Int) (r:Bool) (w:World) (hr0_0:Kd.C k74 w A0_0 l0_0.length l0_0) (hc0_0:l0_0.length≤c0_0) (h:tl_SkyMeets.f k l0_0 a0_1 a0_2 a0_3 a1 a2 a3 a4=some r) (hLD:LD w):
  Calls Tryz.prog 4 #[.agg #[.slice A0_0 l0_0.length c0_0,.int .i64 a0_1,.int .i64 a0_2,.int .i64 a0_3],.int .i64 a1,.int .i64 a2,.int .i64 a3,.int .i64 a4] w fun e w'=>e=.returned (.bool r)∧Below w.heap.size w w':=by
 have HLD:=A0_ hLD;clear hLD
 have hu29:=Tryz.underlying29
 have HR0_0:=A0_ hr0_0;have HC0_0:=A0_ hc0_0;clear hr0_0 hc0_0
 have HB:=A0_ (Below.refl w.heap.size w)
 have H:((tl_short.f k l0_0 a0_1 a0_2 a0_3).bind fun t338=>(if t338=true then ((sky_Meets.f k l0_0 a0_1 a0_2 a0_3 a1 a2 a3 a4).bind fun bt340=>((sky_Near.f k l0_0 a0_1 a0_2 a0_3 a1 a2 a3 a4).bind fun bt344=>((tr_Sky.f k l0_0 a0_1 a0_2 a0_3).bind fun t347=>(if t347=true then ((tr_Body.f l0_0 a0_1 a0_2 a0_3 a1).bind fun t348=>(if t348=true then ((tr_Body.f l0_0 a0_1 a0_2 a0_3 a2).bind fun t349=>(if t349=true then (if a1=a2 then (tl_SkyMeets.j0 k a1 a2 a3 a4 bt340.1 bt340.2 bt344.1 bt344.2.1 bt344.2.2 true l0_0 a0_1 a0_2 a0_3) else ((tr_Span.f a3 a4).bind fun t350=>(tl_SkyMeets.j0 k a1 a2 a3 a4 bt340.1 bt340.2 bt344.1 bt344.2.1 bt344.2.2 (!t350) l0_0 a0_1 a0_2 a0_3))) else (tl_SkyMeets.j0 k a1 a2 a3 a4 bt340.1 bt340.2 bt344.1 bt344.2.1 bt344.2.2 true l0_0 a0_1 a0_2 a0_3))) else (tl_SkyMeets.j0 k a1 a2 a3 a4 bt340.1 bt340.2 bt344.1 bt344.2.1 bt344.2.2 true l0_0 a0_1 a0_2 a0_3))) else (tl_SkyMeets.j0 k a1 a2 a3 a4 bt340.1 bt340.2 bt344.1 bt344.2.1 bt344.2.2 true l0_0 a0_1 a0_2 a0_3))))) else ((tl_known.f).bind fun t339=>(some t339))))=some r:=h
 clear h;replace H:=Option.bind_eq_some_iff.mp H;obtain ⟨t338,A60,H⟩:=H
 replace H:(if t338=true then ((sky_Meets.f k l0_0 a0_1 a0_2 a0_3 a1 a2 a3 a4).bind fun bt340=>((sky_Near.f k l0_0 a0_1 a0_2 a0_3 a1 a2 a3 a4).bind fun bt344=>((tr_Sky.f k l0_0 a0_1 a0_2 a0_3).bind fun t347=>(if t347=true then ((tr_Body.f l0_0 a0_1 a0_2 a0_3 a1).bind fun t348=>(if t348=true then ((tr_Body.f l0_0 a0_1 a0_2 a0_3 a2).bind fun t349=>(if t349=true then (if a1=a2 then (tl_SkyMeets.j0 k a1 a2 a3 a4 bt340.1 bt340.2 bt344.1 bt344.2.1 bt344.2.2 true l0_0 a0_1 a0_2 a0_3) else ((tr_Span.f a3 a4).bind fun t350=>(tl_SkyMeets.j0 k a1 a2 a3 a4 bt340.1 bt340.2 bt344.1 bt344.2.1 bt344.2.2 (!t350) l0_0 a0_1 a0_2 a0_3))) else (tl_SkyMeets.j0 k a1 a2 a3 a4 bt340.1 bt340.2 bt344.1 bt344.2.1 bt344.2.2 true l0_0 a0_1 a0_2 a0_3))) else (tl_SkyMeets.j0 k a1 a2 a3 a4 bt340.1 bt340.2 bt344.1 bt344.2.1 bt344.2.2 true l0_0 a0_1 a0_2 a0_3))) else (tl_SkyMeets.j0 k a1 a2 a3 a4 bt340.1 bt340.2 bt344.1 bt344.2.1 bt344.2.2 true l0_0 a0_1 a0_2 a0_3))))) else ((tl_known.f).bind fun t339=>(some t339)))=some r:=H
 have A6:=A0_ A60;clear A60
 by_cases c7:t338=true
 ·subst c7
  have H1:((sky_Meets.f k l0_0 a0_1 a0_2 a0_3 a1 a2 a3 a4).bind fun bt340=>((sky_Near.f k l0_0 a0_1 a0_2 a0_3 a1 a2 a3 a4).bind fun bt344=>((tr_Sky.f k l0_0 a0_1 a0_2 a0_3).bind fun t347=>(if t347=true then ((tr_Body.f l0_0 a0_1 a0_2 a0_3 a1).bind fun t348=>(if t348=true then ((tr_Body.f l0_0 a0_1 a0_2 a0_3 a2).bind fun t349=>(if t349=true then (if a1=a2 then (tl_SkyMeets.j0 k a1 a2 a3 a4 bt340.1 bt340.2 bt344.1 bt344.2.1 bt344.2.2 true l0_0 a0_1 a0_2 a0_3) else ((tr_Span.f a3 a4).bind fun t350=>(tl_SkyMeets.j0 k a1 a2 a3 a4 bt340.1 bt340.2 bt344.1 bt344.2.1 bt344.2.2 (!t350) l0_0 a0_1 a0_2 a0_3))) else (tl_SkyMeets.j0 k a1 a2 a3 a4 bt340.1 bt340.2 bt344.1 bt344.2.1 bt344.2.2 true l0_0 a0_1 a0_2 a0_3))) else (tl_SkyMeets.j0 k a1 a2 a3 a4 bt340.1 bt340.2 bt344.1 bt344.2.1 bt344.2.2 true l0_0 a0_1 a0_2 a0_3))) else (tl_SkyMeets.j0 k a1 a2 a3 a4 bt340.1 bt340.2 bt344.1 bt344.2.1 bt344.2.2 true l0_0 a0_1 a0_2 a0_3)))))=some r:=by rw [if_pos rfl] at H;exact H
  clear H;have H:=H1;clear H1;replace H:=Option.bind_eq_some_iff.mp H
  obtain ⟨⟨t340,t343⟩,A80,H⟩:=H
  replace H:((sky_Near.f k l0_0 a0_1 a0_2 a0_3 a1 a2 a3 a4).bind fun bt344=>((tr_Sky.f k l0_0 a0_1 a0_2 a0_3).bind fun t347=>(if t347=true then ((tr_Body.f l0_0 a0_1 a0_2 a0_3 a1).bind fun t348=>(if t348=true then ((tr_Body.f l0_0 a0_1 a0_2 a0_3 a2).bind fun t349=>(if t349=true then (if a1=a2 then (tl_SkyMeets.j0 k a1 a2 a3 a4 t340 t343 bt344.1 bt344.2.1 bt344.2.2 true l0_0 a0_1 a0_2 a0_3) else ((tr_Span.f a3 a4).bind fun t350=>(tl_SkyMeets.j0 k a1 a2 a3 a4 t340 t343 bt344.1 bt344.2.1 bt344.2.2 (!t350) l0_0 a0_1 a0_2 a0_3))) else (tl_SkyMeets.j0 k a1 a2 a3 a4 t340 t343 bt344.1 bt344.2.1 bt344.2.2 true l0_0 a0_1 a0_2 a0_3))) else (tl_SkyMeets.j0 k a1 a2 a3 a4 t340 t343 bt344.1 bt344.2.1 bt344.2.2 true l0_0 a0_1 a0_2 a0_3))) else (tl_SkyMeets.j0 k a1 a2 a3 a4 t340 t343 bt344.1 bt344.2.1 bt344.2.2 true l0_0 a0_1 a0_2 a0_3))))=some r:=H
  have A8:=A0_ A80;clear A80;replace H:=Option.bind_eq_some_iff.mp H
  obtain ⟨⟨t344,t345,t346⟩,A90,H⟩:=H
  replace H:((tr_Sky.f k l0_0 a0_1 a0_2 a0_3).bind fun t347=>(if t347=true then ((tr_Body.f l0_0 a0_1 a0_2 a0_3 a1).bind fun t348=>(if t348=true then ((tr_Body.f l0_0 a0_1 a0_2 a0_3 a2).bind fun t349=>(if t349=true then (if a1=a2 then (tl_SkyMeets.j0 k a1 a2 a3 a4 t340 t343 t344 t345 t346 true l0_0 a0_1 a0_2 a0_3) else ((tr_Span.f a3 a4).bind fun t350=>(tl_SkyMeets.j0 k a1 a2 a3 a4 t340 t343 t344 t345 t346 (!t350) l0_0 a0_1 a0_2 a0_3))) else (tl_SkyMeets.j0 k a1 a2 a3 a4 t340 t343 t344 t345 t346 true l0_0 a0_1 a0_2 a0_3))) else (tl_SkyMeets.j0 k a1 a2 a3 a4 t340 t343 t344 t345 t346 true l0_0 a0_1 a0_2 a0_3))) else (tl_SkyMeets.j0 k a1 a2 a3 a4 t340 t343 t344 t345 t346 true l0_0 a0_1 a0_2 a0_3)))=some r:=H
  have A9:=A0_ A90;clear A90;have HC10:=A0_ H;clear H
  go_enter Tryz.func4,Tryz.ntmps4
  go_upto_region 5 with (first|((with_reducible refine gate_dst (N:=5) rfl ?_);(try (refine gate_guard (by rfl) ?_;dsimp only));refine box_event ?hg (N:=5) ?hd (cs:=#[.slice A0_0 l0_0.length c0_0,.int .i64 a0_1,.int .i64 a0_2,.int .i64 a0_3]) (t:=29) ?hr ?_;(case hd=>rfl);(case hg=>rfl);(case hr=>first|(go_simp;done)|(go_simp;rfl));intro gb337 hg w11 hbox hb;have n0_:=A0_ (below_step y0_ hb);have n1_:=A0_ (hbox);have n2_:=A0_ ((by rw [hg];exact (below_size y0_):w.heap.size≤gb337));have n3_:=A0_ ((by rw [hg];exact (below_size y0_):w.heap.size≤gb337));clear HB;have HB:=n0_;have BK337:=n1_;have GW337:=n2_;have GE337:=n3_;clear n0_ n1_ n2_ n3_;clear hb hbox hg;obtain ⟨hcz12_0,hcz12_1,hcz12_2,hcz12_3,hfz12_0,hfz12_1,hfz12_2,hfz12_3⟩:=bq4_ BK337.out)|((with_reducible refine gate_callee (f:=17) rfl ?_);refine goesL_ (some 19) rfl rfl Tryz.func17 (by kernel_rfl) rfl #[.agg #[.slice A0_0 l0_0.length c0_0,.int .i64 a0_1,.int .i64 a0_2,.int .i64 a0_3]] rfl y1_ ?_;(with_reducible refine (tl_short.calls k _ _ l0_0 a0_1 a0_2 a0_3 true _ ?side1 ?side2 A6.out).mono ?_);(case side1=>repeat (first|exact (Kd.C_below HR0_0.out HB.out)|(with_reducible refine Kd.C_alloc ?_ _)|(with_reducible refine Kd.C_drewN ?_ _)|(with_reducible refine Kd.C_drew ?_)));(case side2=>exact HC0_0.out);rintro e w13 ⟨rfl,hb⟩;refine ⟨_,rfl,?_⟩;have n0_:=A0_ (blk_below (g:=gb337) (o:=.cells #[.slice A0_0 l0_0.length c0_0,.int .i64 a0_1,.int .i64 a0_2,.int .i64 a0_3] 29 (0,0)) (bd_ BK337.out) hb);have n1_:=A0_ (below_step (by repeat (first|(with_reducible first|exact HB.out|apply below_alloc|apply pw_below_drewN|apply below_drew1|refine below_set ?_ GE337.out)|exact HB.out)) hb);clear BK337;clear HB;have BK337:=n0_;have HB:=n1_;clear n0_ n1_;(try clear hb);(try clear hb2);(try clear hk);(try clear hi);obtain ⟨hcz14_0,hcz14_1,hcz14_2,hcz14_3,hfz14_0,hfz14_1,hfz14_2,hfz14_3⟩:=bq4_ BK337.out)|((with_reducible refine gate_callee (f:=18) rfl ?_);refine goesL_ (some 28) rfl rfl Tryz.func18 (by kernel_rfl) rfl #[.agg #[.slice A0_0 l0_0.length c0_0,.int .i64 a0_1,.int .i64 a0_2,.int .i64 a0_3],.int .i64 a1,.int .i64 a2,.int .i64 a3,.int .i64 a4] rfl y1_ ?_;(with_reducible refine (sky_Meets.calls k _ _ l0_0 a0_1 a0_2 a0_3 a1 a2 a3 a4 t340 t343 _ ?side1 ?side2 A8.out).mono ?_);(case side1=>repeat (first|exact (Kd.C_below HR0_0.out HB.out)|(with_reducible refine Kd.C_alloc ?_ _)|(with_reducible refine Kd.C_drewN ?_ _)|(with_reducible refine Kd.C_drew ?_)));(case side2=>exact HC0_0.out);rintro e w15 ⟨v341,rfl,ho0,hb⟩;refine ⟨_,rfl,?_⟩;have n0_:=A0_ (Kd.R_lower ho0 (below_size (by repeat (first|(with_reducible first|exact HB.out|apply below_alloc|apply pw_below_drewN|apply below_drew1|refine below_set ?_ GE337.out)|exact HB.out))));have n1_:=A0_ (blk_below (g:=gb337) (o:=.cells #[.slice A0_0 l0_0.length c0_0,.int .i64 a0_1,.int .i64 a0_2,.int .i64 a0_3] 29 (0,0)) (bd_ BK337.out) hb);have n2_:=A0_ (below_step (by repeat (first|(with_reducible first|exact HB.out|apply below_alloc|apply pw_below_drewN|apply below_drew1|refine below_set ?_ GE337.out)|exact HB.out)) hb);clear BK337;clear HB;have HO342:=n0_;have BK337:=n1_;have HB:=n2_;clear n0_ n1_ n2_;(try clear hb);(try clear hb2);(try clear hk);(try clear hi);(try clear ho0);obtain ⟨hcz16_0,hcz16_1,hcz16_2,hcz16_3,hfz16_0,hfz16_1,hfz16_2,hfz16_3⟩:=bq4_ BK337.out)|((with_reducible refine gate_callee (f:=19) rfl ?_);refine goesL_ (some 37) rfl rfl Tryz.func19 (by kernel_rfl) rfl #[.agg #[.slice A0_0 l0_0.length c0_0,.int .i64 a0_1,.int .i64 a0_2,.int .i64 a0_3],.int .i64 a1,.int .i64 a2,.int .i64 a3,.int .i64 a4] rfl y1_ ?_;(with_reducible refine (sky_Near.calls k _ _ l0_0 a0_1 a0_2 a0_3 a1 a2 a3 a4 t344 t345 t346 _ ?side1 ?side2 A9.out).mono ?_);(case side1=>repeat (first|exact (Kd.C_below HR0_0.out HB.out)|(with_reducible refine Kd.C_alloc ?_ _)|(with_reducible refine Kd.C_drewN ?_ _)|(with_reducible refine Kd.C_drew ?_)));(case side2=>exact HC0_0.out);rintro e w17 ⟨rfl,hb⟩;refine ⟨_,rfl,?_⟩;have n0_:=A0_ (Kd.R_below (rd_ HO342.out) hb);have n1_:=A0_ (blk_below (g:=gb337) (o:=.cells #[.slice A0_0 l0_0.length c0_0,.int .i64 a0_1,.int .i64 a0_2,.int .i64 a0_3] 29 (0,0)) (bd_ BK337.out) hb);have n2_:=A0_ (below_step (by repeat (first|(with_reducible first|exact HB.out|apply below_alloc|apply pw_below_drewN|apply below_drew1|refine below_set ?_ GE337.out)|exact HB.out)) hb);clear HO342;clear BK337;clear HB;have HO342:=n0_;have BK337:=n1_;have HB:=n2_;clear n0_ n1_ n2_;(try clear hb);(try clear hb2);(try clear hk);(try clear hi)))
  (try simp only [Act.put,List.setIfInBounds_toArray,List.set_cons_zero,List.set_cons_succ])
  go_cut [66] (fun v66 wc=>∃ (kq:Nat) (x66_9:Bool),v66=.bool x66_9∧Aside0 (tl_SkyMeets.j0 kq a1 a2 a3 a4 t340 t343 t344 t345 t346 x66_9 l0_0 a0_1 a0_2 a0_3=some r)∧Aside0 (kq≤k)∧Aside0 (Kd.R (Kd.int .i64) 3 wc w.heap.size (fun _=>True) v341 t340)∧Aside0 (wc.heap[gb337]?=some (.cells #[(.slice A0_0 l0_0.length c0_0),.int .i64 a0_1,.int .i64 a0_2,.int .i64 a0_3] 29 (0,0)))∧Aside0 (Below w.heap.size w wc))
  case first=>
   have H:=HC10.out
   clear HC10;replace H:=Option.bind_eq_some_iff.mp H;obtain ⟨t347,A180,H⟩:=H
   replace H:(if t347=true then ((tr_Body.f l0_0 a0_1 a0_2 a0_3 a1).bind fun t348=>(if t348=true then ((tr_Body.f l0_0 a0_1 a0_2 a0_3 a2).bind fun t349=>(if t349=true then (if a1=a2 then (tl_SkyMeets.j0 k a1 a2 a3 a4 t340 t343 t344 t345 t346 true l0_0 a0_1 a0_2 a0_3) else ((tr_Span.f a3 a4).bind fun t350=>(tl_SkyMeets.j0 k a1 a2 a3 a4 t340 t343 t344 t345 t346 (!t350) l0_0 a0_1 a0_2 a0_3))) else (tl_SkyMeets.j0 k a1 a2 a3 a4 t340 t343 t344 t345 t346 true l0_0 a0_1 a0_2 a0_3))) else (tl_SkyMeets.j0 k a1 a2 a3 a4 t340 t343 t344 t345 t346 true l0_0 a0_1 a0_2 a0_3))) else (tl_SkyMeets.j0 k a1 a2 a3 a4 t340 t343 t344 t345 t346 true l0_0 a0_1 a0_2 a0_3))=some r:=H
   have A18:=A0_ A180;clear A180
   by_cases c19:t347=true
   ·subst c19
    have H1:((tr_Body.f l0_0 a0_1 a0_2 a0_3 a1).bind fun t348=>(if t348=true then ((tr_Body.f l0_0 a0_1 a0_2 a0_3 a2).bind fun t349=>(if t349=true then (if a1=a2 then (tl_SkyMeets.j0 k a1 a2 a3 a4 t340 t343 t344 t345 t346 true l0_0 a0_1 a0_2 a0_3) else ((tr_Span.f a3 a4).bind fun t350=>(tl_SkyMeets.j0 k a1 a2 a3 a4 t340 t343 t344 t345 t346 (!t350) l0_0 a0_1 a0_2 a0_3))) else (tl_SkyMeets.j0 k a1 a2 a3 a4 t340 t343 t344 t345 t346 true l0_0 a0_1 a0_2 a0_3))) else (tl_SkyMeets.j0 k a1 a2 a3 a4 t340 t343 t344 t345 t346 true l0_0 a0_1 a0_2 a0_3)))=some r:=by rw [if_pos rfl] at H;exact H
    clear H;have H:=H1;clear H1;replace H:=Option.bind_eq_some_iff.mp H;obtain ⟨t348,A200,H⟩:=H
    replace H:(if t348=true then ((tr_Body.f l0_0 a0_1 a0_2 a0_3 a2).bind fun t349=>(if t349=true then (if a1=a2 then (tl_SkyMeets.j0 k a1 a2 a3 a4 t340 t343 t344 t345 t346 true l0_0 a0_1 a0_2 a0_3) else ((tr_Span.f a3 a4).bind fun t350=>(tl_SkyMeets.j0 k a1 a2 a3 a4 t340 t343 t344 t345 t346 (!t350) l0_0 a0_1 a0_2 a0_3))) else (tl_SkyMeets.j0 k a1 a2 a3 a4 t340 t343 t344 t345 t346 true l0_0 a0_1 a0_2 a0_3))) else (tl_SkyMeets.j0 k a1 a2 a3 a4 t340 t343 t344 t345 t346 true l0_0 a0_1 a0_2 a0_3))=some r:=H
    have A20:=A0_ A200;clear A200
    by_cases c21:t348=true
    ·subst c21
     have H1:((tr_Body.f l0_0 a0_1 a0_2 a0_3 a2).bind fun t349=>(if t349=true then (if a1=a2 then (tl_SkyMeets.j0 k a1 a2 a3 a4 t340 t343 t344 t345 t346 true l0_0 a0_1 a0_2 a0_3) else ((tr_Span.f a3 a4).bind fun t350=>(tl_SkyMeets.j0 k a1 a2 a3 a4 t340 t343 t344 t345 t346 (!t350) l0_0 a0_1 a0_2 a0_3))) else (tl_SkyMeets.j0 k a1 a2 a3 a4 t340 t343 t344 t345 t346 true l0_0 a0_1 a0_2 a0_3)))=some r:=by rw [if_pos rfl] at H;exact H
     clear H;have H:=H1;clear H1;replace H:=Option.bind_eq_some_iff.mp H;obtain ⟨t349,A220,H⟩:=H
     replace H:(if t349=true then (if a1=a2 then (tl_SkyMeets.j0 k a1 a2 a3 a4 t340 t343 t344 t345 t346 true l0_0 a0_1 a0_2 a0_3) else ((tr_Span.f a3 a4).bind fun t350=>(tl_SkyMeets.j0 k a1 a2 a3 a4 t340 t343 t344 t345 t346 (!t350) l0_0 a0_1 a0_2 a0_3))) else (tl_SkyMeets.j0 k a1 a2 a3 a4 t340 t343 t344 t345 t346 true l0_0 a0_1 a0_2 a0_3))=some r:=H
     have A22:=A0_ A220;clear A220
     by_cases c23:t349=true
     ·subst c23
      have H1:(if a1=a2 then (tl_SkyMeets.j0 k a1 a2 a3 a4 t340 t343 t344 t345 t346 true l0_0 a0_1 a0_2 a0_3) else ((tr_Span.f a3 a4).bind fun t350=>(tl_SkyMeets.j0 k a1 a2 a3 a4 t340 t343 t344 t345 t346 (!t350) l0_0 a0_1 a0_2 a0_3)))=some r:=by rw [if_pos rfl] at H;exact H
      clear H;have H:=H1;clear H1
      by_cases c24:a1=a2
      ·rw [if_pos c24] at H
       have c24b0:(a1 == a2)=true:=beq_iff_eq.mpr c24
       have c24b1:(a1 != a2)=false:=bne_eq_false_iff_eq.mpr c24
       clear c24
       (first|rw [c24b0]|(simp only [i64_w,i32_w];rw [c24b0])|skip)
       have H':=A0_ H
       clear H;obtain ⟨hcz25_0,hcz25_1,hcz25_2,hcz25_3,hfz25_0,hfz25_1,hfz25_2,hfz25_3⟩:=bq4_ BK337.out
       go_wp2_with (first|((with_reducible refine gate_callee (f:=14) rfl ?_);refine goesL_ (some 42) rfl rfl Tryz.func14 (by kernel_rfl) rfl #[.agg #[.slice A0_0 l0_0.length c0_0,.int .i64 a0_1,.int .i64 a0_2,.int .i64 a0_3]] rfl y1_ ?_;(with_reducible refine (tr_Sky.calls k _ _ l0_0 a0_1 a0_2 a0_3 true _ ?side1 ?side2 A18.out).mono ?_);(case side1=>repeat (first|exact (Kd.C_below HR0_0.out HB.out)|(with_reducible refine Kd.C_alloc ?_ _)|(with_reducible refine Kd.C_drewN ?_ _)|(with_reducible refine Kd.C_drew ?_)));(case side2=>exact HC0_0.out);rintro e w26 ⟨rfl,hb⟩;refine ⟨_,rfl,?_⟩;have n0_:=A0_ (Kd.R_below (rd_ HO342.out) hb);have n1_:=A0_ (blk_below (g:=gb337) (o:=.cells #[.slice A0_0 l0_0.length c0_0,.int .i64 a0_1,.int .i64 a0_2,.int .i64 a0_3] 29 (0,0)) (bd_ BK337.out) hb);have n2_:=A0_ (below_step (by repeat (first|(with_reducible first|exact HB.out|apply below_alloc|apply pw_below_drewN|apply below_drew1|refine below_set ?_ GE337.out)|exact HB.out)) hb);clear HO342;clear BK337;clear HB;have HO342:=n0_;have BK337:=n1_;have HB:=n2_;clear n0_ n1_ n2_;(try clear hb);(try clear hb2);(try clear hk);(try clear hi);obtain ⟨hcz27_0,hcz27_1,hcz27_2,hcz27_3,hfz27_0,hfz27_1,hfz27_2,hfz27_3⟩:=bq4_ BK337.out)|(go_at_call 20;(with_reducible refine (tr_Body.calls _ _ l0_0 a0_1 a0_2 a0_3 a1 true _ ?side1 ?side2 A20.out).mono ?_);(case side1=>repeat (first|exact (Kd.C_below HR0_0.out HB.out)|(with_reducible refine Kd.C_alloc ?_ _)|(with_reducible refine Kd.C_drewN ?_ _)|(with_reducible refine Kd.C_drew ?_)));(case side2=>exact HC0_0.out);rintro e w28 ⟨rfl,hb⟩;have n0_:=A0_ (Kd.R_below (rd_ HO342.out) hb);have n1_:=A0_ (blk_below (g:=gb337) (o:=.cells #[.slice A0_0 l0_0.length c0_0,.int .i64 a0_1,.int .i64 a0_2,.int .i64 a0_3] 29 (0,0)) (bd_ BK337.out) hb);have n2_:=A0_ (below_step (by repeat (first|(with_reducible first|exact HB.out|apply below_alloc|apply pw_below_drewN|apply below_drew1|refine below_set ?_ GE337.out)|exact HB.out)) hb);clear HO342;clear BK337;clear HB;have HO342:=n0_;have BK337:=n1_;have HB:=n2_;clear n0_ n1_ n2_;(try clear hb);(try clear hb2);(try clear hk);(try clear hi);obtain ⟨hcz29_0,hcz29_1,hcz29_2,hcz29_3,hfz29_0,hfz29_1,hfz29_2,hfz29_3⟩:=bq4_ BK337.out)|(go_at_call 20;(with_reducible refine (tr_Body.calls _ _ l0_0 a0_1 a0_2 a0_3 a2 true _ ?side1 ?side2 A22.out).mono ?_);(case side1=>repeat (first|exact (Kd.C_below HR0_0.out HB.out)|(with_reducible refine Kd.C_alloc ?_ _)|(with_reducible refine Kd.C_drewN ?_ _)|(with_reducible refine Kd.C_drew ?_)));(case side2=>exact HC0_0.out);rintro e w30 ⟨rfl,hb⟩;have n0_:=A0_ (Kd.R_below (rd_ HO342.out) hb);have n1_:=A0_ (blk_below (g:=gb337) (o:=.cells #[.slice A0_0 l0_0.length c0_0,.int .i64 a0_1,.int .i64 a0_2,.int .i64 a0_3] 29 (0,0)) (bd_ BK337.out) hb);have n2_:=A0_ (below_step (by repeat (first|(with_reducible first|exact HB.out|apply below_alloc|apply pw_below_drewN|apply below_drew1|refine below_set ?_ GE337.out)|exact HB.out)) hb);clear HO342;clear BK337;clear HB;have HO342:=n0_;have BK337:=n1_;have HB:=n2_;clear n0_ n1_ n2_;(try clear hb);(try clear hb2);(try clear hk);(try clear hi)))
       go_meet
       case rel=>exact ⟨_,(true),y4_,H',⟨by first|omega|exact Nat.le_refl _⟩,⟨by (with_reducible repeat (first|apply Kd.R_alloc|apply Kd.R_drewN|apply Kd.R_drew));exact HO342.out⟩,⟨by (with_reducible repeat (first|refine blk_drewN ?_ _|refine blk_drew ?_|refine blk_alloc ?_ _));exact BK337.out⟩,⟨(by repeat (first|(with_reducible first|exact HB.out|apply below_alloc|apply pw_below_drewN|apply below_drew1|refine below_set ?_ GE337.out)|exact HB.out))⟩⟩
      ·rw [if_neg c24] at H
       have c24b0:(a1 == a2)=false:=beq_eq_false_iff_ne.mpr c24
       have c24b1:(a1 != a2)=true:=bne_iff_ne.mpr c24
       (first|rw [c24b0]|(simp only [i64_w,i32_w];rw [c24b0])|skip)
       replace H:=Option.bind_eq_some_iff.mp H;obtain ⟨t350,A310,H⟩:=H
       replace H:(tl_SkyMeets.j0 k a1 a2 a3 a4 t340 t343 t344 t345 t346 (!t350) l0_0 a0_1 a0_2 a0_3)=some r:=H
       have A31:=A0_ A310;clear A310
       have H':=A0_ H
       clear H;obtain ⟨hcz32_0,hcz32_1,hcz32_2,hcz32_3,hfz32_0,hfz32_1,hfz32_2,hfz32_3⟩:=bq4_ BK337.out
       go_wp2_with (first|((with_reducible refine gate_callee (f:=14) rfl ?_);refine goesL_ (some 42) rfl rfl Tryz.func14 (by kernel_rfl) rfl #[.agg #[.slice A0_0 l0_0.length c0_0,.int .i64 a0_1,.int .i64 a0_2,.int .i64 a0_3]] rfl y1_ ?_;(with_reducible refine (tr_Sky.calls k _ _ l0_0 a0_1 a0_2 a0_3 true _ ?side1 ?side2 A18.out).mono ?_);(case side1=>repeat (first|exact (Kd.C_below HR0_0.out HB.out)|(with_reducible refine Kd.C_alloc ?_ _)|(with_reducible refine Kd.C_drewN ?_ _)|(with_reducible refine Kd.C_drew ?_)));(case side2=>exact HC0_0.out);rintro e w33 ⟨rfl,hb⟩;refine ⟨_,rfl,?_⟩;have n0_:=A0_ (Kd.R_below (rd_ HO342.out) hb);have n1_:=A0_ (blk_below (g:=gb337) (o:=.cells #[.slice A0_0 l0_0.length c0_0,.int .i64 a0_1,.int .i64 a0_2,.int .i64 a0_3] 29 (0,0)) (bd_ BK337.out) hb);have n2_:=A0_ (below_step (by repeat (first|(with_reducible first|exact HB.out|apply below_alloc|apply pw_below_drewN|apply below_drew1|refine below_set ?_ GE337.out)|exact HB.out)) hb);clear HO342;clear BK337;clear HB;have HO342:=n0_;have BK337:=n1_;have HB:=n2_;clear n0_ n1_ n2_;(try clear hb);(try clear hb2);(try clear hk);(try clear hi);obtain ⟨hcz34_0,hcz34_1,hcz34_2,hcz34_3,hfz34_0,hfz34_1,hfz34_2,hfz34_3⟩:=bq4_ BK337.out)|(go_at_call 20;(with_reducible refine (tr_Body.calls _ _ l0_0 a0_1 a0_2 a0_3 a1 true _ ?side1 ?side2 A20.out).mono ?_);(case side1=>repeat (first|exact (Kd.C_below HR0_0.out HB.out)|(with_reducible refine Kd.C_alloc ?_ _)|(with_reducible refine Kd.C_drewN ?_ _)|(with_reducible refine Kd.C_drew ?_)));(case side2=>exact HC0_0.out);rintro e w35 ⟨rfl,hb⟩;have n0_:=A0_ (Kd.R_below (rd_ HO342.out) hb);have n1_:=A0_ (blk_below (g:=gb337) (o:=.cells #[.slice A0_0 l0_0.length c0_0,.int .i64 a0_1,.int .i64 a0_2,.int .i64 a0_3] 29 (0,0)) (bd_ BK337.out) hb);have n2_:=A0_ (below_step (by repeat (first|(with_reducible first|exact HB.out|apply below_alloc|apply pw_below_drewN|apply below_drew1|refine below_set ?_ GE337.out)|exact HB.out)) hb);clear HO342;clear BK337;clear HB;have HO342:=n0_;have BK337:=n1_;have HB:=n2_;clear n0_ n1_ n2_;(try clear hb);(try clear hb2);(try clear hk);(try clear hi);obtain ⟨hcz36_0,hcz36_1,hcz36_2,hcz36_3,hfz36_0,hfz36_1,hfz36_2,hfz36_3⟩:=bq4_ BK337.out)|(go_at_call 20;(with_reducible refine (tr_Body.calls _ _ l0_0 a0_1 a0_2 a0_3 a2 true _ ?side1 ?side2 A22.out).mono ?_);(case side1=>repeat (first|exact (Kd.C_below HR0_0.out HB.out)|(with_reducible refine Kd.C_alloc ?_ _)|(with_reducible refine Kd.C_drewN ?_ _)|(with_reducible refine Kd.C_drew ?_)));(case side2=>exact HC0_0.out);rintro e w37 ⟨rfl,hb⟩;have n0_:=A0_ (Kd.R_below (rd_ HO342.out) hb);have n1_:=A0_ (blk_below (g:=gb337) (o:=.cells #[.slice A0_0 l0_0.length c0_0,.int .i64 a0_1,.int .i64 a0_2,.int .i64 a0_3] 29 (0,0)) (bd_ BK337.out) hb);have n2_:=A0_ (below_step (by repeat (first|(with_reducible first|exact HB.out|apply below_alloc|apply pw_below_drewN|apply below_drew1|refine below_set ?_ GE337.out)|exact HB.out)) hb);clear HO342;clear BK337;clear HB;have HO342:=n0_;have BK337:=n1_;have HB:=n2_;clear n0_ n1_ n2_;(try clear hb);(try clear hb2);(try clear hk);(try clear hi))|(go_at_call 21;(with_reducible refine (tr_Span.calls a3 a4 t350 _ A31.out).mono ?_);rintro e w' ⟨rfl,⟨nd,rfl⟩⟩))
       go_meet
       case rel=>exact ⟨_,(!t350),y4_,H',⟨by first|omega|exact Nat.le_refl _⟩,⟨by (with_reducible repeat (first|apply Kd.R_alloc|apply Kd.R_drewN|apply Kd.R_drew));exact HO342.out⟩,⟨by (with_reducible repeat (first|refine blk_drewN ?_ _|refine blk_drew ?_|refine blk_alloc ?_ _));exact BK337.out⟩,⟨(by repeat (first|(with_reducible first|exact HB.out|apply below_alloc|apply pw_below_drewN|apply below_drew1|refine below_set ?_ GE337.out)|exact HB.out))⟩⟩
     ·replace c23:=Bool.eq_false_iff.mpr c23;subst c23
      have H1:(tl_SkyMeets.j0 k a1 a2 a3 a4 t340 t343 t344 t345 t346 true l0_0 a0_1 a0_2 a0_3)=some r:=by rw [if_neg (show ¬ (false=true) by decide)] at H;exact H
      clear H;have H:=H1;clear H1
      have H':=A0_ H
      clear H;obtain ⟨hcz38_0,hcz38_1,hcz38_2,hcz38_3,hfz38_0,hfz38_1,hfz38_2,hfz38_3⟩:=bq4_ BK337.out
      go_wp2_with (first|((with_reducible refine gate_callee (f:=14) rfl ?_);refine goesL_ (some 42) rfl rfl Tryz.func14 (by kernel_rfl) rfl #[.agg #[.slice A0_0 l0_0.length c0_0,.int .i64 a0_1,.int .i64 a0_2,.int .i64 a0_3]] rfl y1_ ?_;(with_reducible refine (tr_Sky.calls k _ _ l0_0 a0_1 a0_2 a0_3 true _ ?side1 ?side2 A18.out).mono ?_);(case side1=>repeat (first|exact (Kd.C_below HR0_0.out HB.out)|(with_reducible refine Kd.C_alloc ?_ _)|(with_reducible refine Kd.C_drewN ?_ _)|(with_reducible refine Kd.C_drew ?_)));(case side2=>exact HC0_0.out);rintro e w39 ⟨rfl,hb⟩;refine ⟨_,rfl,?_⟩;have n0_:=A0_ (Kd.R_below (rd_ HO342.out) hb);have n1_:=A0_ (blk_below (g:=gb337) (o:=.cells #[.slice A0_0 l0_0.length c0_0,.int .i64 a0_1,.int .i64 a0_2,.int .i64 a0_3] 29 (0,0)) (bd_ BK337.out) hb);have n2_:=A0_ (below_step (by repeat (first|(with_reducible first|exact HB.out|apply below_alloc|apply pw_below_drewN|apply below_drew1|refine below_set ?_ GE337.out)|exact HB.out)) hb);clear HO342;clear BK337;clear HB;have HO342:=n0_;have BK337:=n1_;have HB:=n2_;clear n0_ n1_ n2_;(try clear hb);(try clear hb2);(try clear hk);(try clear hi);obtain ⟨hcz40_0,hcz40_1,hcz40_2,hcz40_3,hfz40_0,hfz40_1,hfz40_2,hfz40_3⟩:=bq4_ BK337.out)|(go_at_call 20;(with_reducible refine (tr_Body.calls _ _ l0_0 a0_1 a0_2 a0_3 a1 true _ ?side1 ?side2 A20.out).mono ?_);(case side1=>repeat (first|exact (Kd.C_below HR0_0.out HB.out)|(with_reducible refine Kd.C_alloc ?_ _)|(with_reducible refine Kd.C_drewN ?_ _)|(with_reducible refine Kd.C_drew ?_)));(case side2=>exact HC0_0.out);rintro e w41 ⟨rfl,hb⟩;have n0_:=A0_ (Kd.R_below (rd_ HO342.out) hb);have n1_:=A0_ (blk_below (g:=gb337) (o:=.cells #[.slice A0_0 l0_0.length c0_0,.int .i64 a0_1,.int .i64 a0_2,.int .i64 a0_3] 29 (0,0)) (bd_ BK337.out) hb);have n2_:=A0_ (below_step (by repeat (first|(with_reducible first|exact HB.out|apply below_alloc|apply pw_below_drewN|apply below_drew1|refine below_set ?_ GE337.out)|exact HB.out)) hb);clear HO342;clear BK337;clear HB;have HO342:=n0_;have BK337:=n1_;have HB:=n2_;clear n0_ n1_ n2_;(try clear hb);(try clear hb2);(try clear hk);(try clear hi);obtain ⟨hcz42_0,hcz42_1,hcz42_2,hcz42_3,hfz42_0,hfz42_1,hfz42_2,hfz42_3⟩:=bq4_ BK337.out)|(go_at_call 20;(with_reducible refine (tr_Body.calls _ _ l0_0 a0_1 a0_2 a0_3 a2 false _ ?side1 ?side2 A22.out).mono ?_);(case side1=>repeat (first|exact (Kd.C_below HR0_0.out HB.out)|(with_reducible refine Kd.C_alloc ?_ _)|(with_reducible refine Kd.C_drewN ?_ _)|(with_reducible refine Kd.C_drew ?_)));(case side2=>exact HC0_0.out);rintro e w43 ⟨rfl,hb⟩;have n0_:=A0_ (Kd.R_below (rd_ HO342.out) hb);have n1_:=A0_ (blk_below (g:=gb337) (o:=.cells #[.slice A0_0 l0_0.length c0_0,.int .i64 a0_1,.int .i64 a0_2,.int .i64 a0_3] 29 (0,0)) (bd_ BK337.out) hb);have n2_:=A0_ (below_step (by repeat (first|(with_reducible first|exact HB.out|apply below_alloc|apply pw_below_drewN|apply below_drew1|refine below_set ?_ GE337.out)|exact HB.out)) hb);clear HO342;clear BK337;clear HB;have HO342:=n0_;have BK337:=n1_;have HB:=n2_;clear n0_ n1_ n2_;(try clear hb);(try clear hb2);(try clear hk);(try clear hi)))
      go_meet
      case rel=>exact ⟨_,(true),y4_,H',⟨by first|omega|exact Nat.le_refl _⟩,⟨by (with_reducible repeat (first|apply Kd.R_alloc|apply Kd.R_drewN|apply Kd.R_drew));exact HO342.out⟩,⟨by (with_reducible repeat (first|refine blk_drewN ?_ _|refine blk_drew ?_|refine blk_alloc ?_ _));exact BK337.out⟩,⟨(by repeat (first|(with_reducible first|exact HB.out|apply below_alloc|apply pw_below_drewN|apply below_drew1|refine below_set ?_ GE337.out)|exact HB.out))⟩⟩
    ·replace c21:=Bool.eq_false_iff.mpr c21;subst c21
     have H1:(tl_SkyMeets.j0 k a1 a2 a3 a4 t340 t343 t344 t345 t346 true l0_0 a0_1 a0_2 a0_3)=some r:=by rw [if_neg (show ¬ (false=true) by decide)] at H;exact H
     clear H;have H:=H1;clear H1
     have H':=A0_ H
     clear H;obtain ⟨hcz44_0,hcz44_1,hcz44_2,hcz44_3,hfz44_0,hfz44_1,hfz44_2,hfz44_3⟩:=bq4_ BK337.out
     go_wp2_with (first|((with_reducible refine gate_callee (f:=14) rfl ?_);refine goesL_ (some 42) rfl rfl Tryz.func14 (by kernel_rfl) rfl #[.agg #[.slice A0_0 l0_0.length c0_0,.int .i64 a0_1,.int .i64 a0_2,.int .i64 a0_3]] rfl y1_ ?_;(with_reducible refine (tr_Sky.calls k _ _ l0_0 a0_1 a0_2 a0_3 true _ ?side1 ?side2 A18.out).mono ?_);(case side1=>repeat (first|exact (Kd.C_below HR0_0.out HB.out)|(with_reducible refine Kd.C_alloc ?_ _)|(with_reducible refine Kd.C_drewN ?_ _)|(with_reducible refine Kd.C_drew ?_)));(case side2=>exact HC0_0.out);rintro e w45 ⟨rfl,hb⟩;refine ⟨_,rfl,?_⟩;have n0_:=A0_ (Kd.R_below (rd_ HO342.out) hb);have n1_:=A0_ (blk_below (g:=gb337) (o:=.cells #[.slice A0_0 l0_0.length c0_0,.int .i64 a0_1,.int .i64 a0_2,.int .i64 a0_3] 29 (0,0)) (bd_ BK337.out) hb);have n2_:=A0_ (below_step (by repeat (first|(with_reducible first|exact HB.out|apply below_alloc|apply pw_below_drewN|apply below_drew1|refine below_set ?_ GE337.out)|exact HB.out)) hb);clear HO342;clear BK337;clear HB;have HO342:=n0_;have BK337:=n1_;have HB:=n2_;clear n0_ n1_ n2_;(try clear hb);(try clear hb2);(try clear hk);(try clear hi);obtain ⟨hcz46_0,hcz46_1,hcz46_2,hcz46_3,hfz46_0,hfz46_1,hfz46_2,hfz46_3⟩:=bq4_ BK337.out)|(go_at_call 20;(with_reducible refine (tr_Body.calls _ _ l0_0 a0_1 a0_2 a0_3 a1 false _ ?side1 ?side2 A20.out).mono ?_);(case side1=>repeat (first|exact (Kd.C_below HR0_0.out HB.out)|(with_reducible refine Kd.C_alloc ?_ _)|(with_reducible refine Kd.C_drewN ?_ _)|(with_reducible refine Kd.C_drew ?_)));(case side2=>exact HC0_0.out);rintro e w47 ⟨rfl,hb⟩;have n0_:=A0_ (Kd.R_below (rd_ HO342.out) hb);have n1_:=A0_ (blk_below (g:=gb337) (o:=.cells #[.slice A0_0 l0_0.length c0_0,.int .i64 a0_1,.int .i64 a0_2,.int .i64 a0_3] 29 (0,0)) (bd_ BK337.out) hb);have n2_:=A0_ (below_step (by repeat (first|(with_reducible first|exact HB.out|apply below_alloc|apply pw_below_drewN|apply below_drew1|refine below_set ?_ GE337.out)|exact HB.out)) hb);clear HO342;clear BK337;clear HB;have HO342:=n0_;have BK337:=n1_;have HB:=n2_;clear n0_ n1_ n2_;(try clear hb);(try clear hb2);(try clear hk);(try clear hi)))
     go_meet
     case rel=>exact ⟨_,(true),y4_,H',⟨by first|omega|exact Nat.le_refl _⟩,⟨by (with_reducible repeat (first|apply Kd.R_alloc|apply Kd.R_drewN|apply Kd.R_drew));exact HO342.out⟩,⟨by (with_reducible repeat (first|refine blk_drewN ?_ _|refine blk_drew ?_|refine blk_alloc ?_ _));exact BK337.out⟩,⟨(by repeat (first|(with_reducible first|exact HB.out|apply below_alloc|apply pw_below_drewN|apply below_drew1|refine below_set ?_ GE337.out)|exact HB.out))⟩⟩
   ·replace c19:=Bool.eq_false_iff.mpr c19;subst c19
    have H1:(tl_SkyMeets.j0 k a1 a2 a3 a4 t340 t343 t344 t345 t346 true l0_0 a0_1 a0_2 a0_3)=some r:=by rw [if_neg (show ¬ (false=true) by decide)] at H;exact H
    clear H;have H:=H1;clear H1
    have H':=A0_ H
    clear H;obtain ⟨hcz48_0,hcz48_1,hcz48_2,hcz48_3,hfz48_0,hfz48_1,hfz48_2,hfz48_3⟩:=bq4_ BK337.out
    go_wp2_with (first|((with_reducible refine gate_callee (f:=14) rfl ?_);refine goesL_ (some 42) rfl rfl Tryz.func14 (by kernel_rfl) rfl #[.agg #[.slice A0_0 l0_0.length c0_0,.int .i64 a0_1,.int .i64 a0_2,.int .i64 a0_3]] rfl y1_ ?_;(with_reducible refine (tr_Sky.calls k _ _ l0_0 a0_1 a0_2 a0_3 false _ ?side1 ?side2 A18.out).mono ?_);(case side1=>repeat (first|exact (Kd.C_below HR0_0.out HB.out)|(with_reducible refine Kd.C_alloc ?_ _)|(with_reducible refine Kd.C_drewN ?_ _)|(with_reducible refine Kd.C_drew ?_)));(case side2=>exact HC0_0.out);rintro e w49 ⟨rfl,hb⟩;refine ⟨_,rfl,?_⟩;have n0_:=A0_ (Kd.R_below (rd_ HO342.out) hb);have n1_:=A0_ (blk_below (g:=gb337) (o:=.cells #[.slice A0_0 l0_0.length c0_0,.int .i64 a0_1,.int .i64 a0_2,.int .i64 a0_3] 29 (0,0)) (bd_ BK337.out) hb);have n2_:=A0_ (below_step (by repeat (first|(with_reducible first|exact HB.out|apply below_alloc|apply pw_below_drewN|apply below_drew1|refine below_set ?_ GE337.out)|exact HB.out)) hb);clear HO342;clear BK337;clear HB;have HO342:=n0_;have BK337:=n1_;have HB:=n2_;clear n0_ n1_ n2_;(try clear hb);(try clear hb2);(try clear hk);(try clear hi)))
    go_meet
    case rel=>exact ⟨_,(true),y4_,H',⟨by first|omega|exact Nat.le_refl _⟩,⟨by (with_reducible repeat (first|apply Kd.R_alloc|apply Kd.R_drewN|apply Kd.R_drew));exact HO342.out⟩,⟨by (with_reducible repeat (first|refine blk_drewN ?_ _|refine blk_drew ?_|refine blk_alloc ?_ _));exact BK337.out⟩,⟨(by repeat (first|(with_reducible first|exact HB.out|apply below_alloc|apply pw_below_drewN|apply below_drew1|refine below_set ?_ GE337.out)|exact HB.out))⟩⟩
  case rest=>
   clear HC10;(try clear c1);(try clear c2);(try clear p2);(try clear c4);(try clear c7);(try clear c14);(try clear c17);(try clear c18);(try clear c19);(try clear c21);(try clear c23);(try clear c24);(try clear c24b0);(try clear c24b1);(try clear hcz12_0);(try clear hcz12_1);(try clear hcz12_2);(try clear hcz12_3);(try clear hcz14_0);(try clear hcz14_1);(try clear hcz14_2);(try clear hcz14_3);(try clear hcz16_0);(try clear hcz16_1);(try clear hcz16_2);(try clear hcz16_3);(try clear hcz25_0);(try clear hcz25_1);(try clear hcz25_2);(try clear hcz25_3);(try clear hcz27_0);(try clear hcz27_1);(try clear hcz27_2);(try clear hcz27_3);(try clear hcz29_0);(try clear hcz29_1);(try clear hcz29_2);(try clear hcz29_3);(try clear hcz32_0);(try clear hcz32_1);(try clear hcz32_2);(try clear hcz32_3);(try clear hcz34_0);(try clear hcz34_1);(try clear hcz34_2);(try clear hcz34_3);(try clear hcz36_0);(try clear hcz36_1);(try clear hcz36_2);(try clear hcz36_3);(try clear hcz38_0);(try clear hcz38_1);(try clear hcz38_2);(try clear hcz38_3);(try clear hcz40_0);(try clear hcz40_1);(try clear hcz40_2);(try clear hcz40_3);(try clear hcz42_0);(try clear hcz42_1);(try clear hcz42_2);(try clear hcz42_3);(try clear hcz44_0);(try clear hcz44_1);(try clear hcz44_2);(try clear hcz44_3);(try clear hcz46_0);(try clear hcz46_1);(try clear hcz46_2);(try clear hcz46_3);(try clear hcz48_0);(try clear hcz48_1);(try clear hcz48_2);(try clear hcz48_3);(try clear hfz12_0);(try clear hfz12_1);(try clear hfz12_2);(try clear hfz12_3);(try clear hfz14_0);(try clear hfz14_1);(try clear hfz14_2);(try clear hfz14_3);(try clear hfz16_0);(try clear hfz16_1);(try clear hfz16_2);(try clear hfz16_3);(try clear hfz25_0);(try clear hfz25_1);(try clear hfz25_2);(try clear hfz25_3);(try clear hfz27_0);(try clear hfz27_1);(try clear hfz27_2);(try clear hfz27_3);(try clear hfz29_0);(try clear hfz29_1);(try clear hfz29_2);(try clear hfz29_3);(try clear hfz32_0);(try clear hfz32_1);(try clear hfz32_2);(try clear hfz32_3);(try clear hfz34_0);(try clear hfz34_1);(try clear hfz34_2);(try clear hfz34_3);(try clear hfz36_0);(try clear hfz36_1);(try clear hfz36_2);(try clear hfz36_3);(try clear hfz38_0);(try clear hfz38_1);(try clear hfz38_2);(try clear hfz38_3);(try clear hfz40_0);(try clear hfz40_1);(try clear hfz40_2);(try clear hfz40_3);(try clear hfz42_0);(try clear hfz42_1);(try clear hfz42_2);(try clear hfz42_3);(try clear hfz44_0);(try clear hfz44_1);(try clear hfz44_2);(try clear hfz44_3);(try clear hfz46_0);(try clear hfz46_1);(try clear hfz46_2);(try clear hfz46_3);(try clear hfz48_0);(try clear hfz48_1);(try clear hfz48_2);(try clear hfz48_3)
   obtain ⟨kq,x66_9,rfl,HA,HJ9,HO_11,BK337,HB⟩:=hcut
   cases kq with
   |zero=>exact absurd HA.out (by simp [tl_SkyMeets.j0])
   |succ kj9=>
    have H:=HA.out
    clear HA
    simp only [tl_SkyMeets.j0] at H
    by_cases c50:x66_9=true
    ·subst c50
     have H1:(if t343=2 then (if (t340.length:Int)=0 then (if t346=2 then (if t344=0 then (if t345=0 then ((tl_known.f).bind fun t351=>(some t351)) else (some false)) else (some false)) else (some false)) else (some false)) else (some false))=some r:=by rw [if_pos rfl] at H;exact H
     clear H;have H:=H1;clear H1
     by_cases c51:t343=2
     ·rw [if_pos c51] at H
      have c51b0:(t343 == 2)=true:=beq_iff_eq.mpr c51
      have c51b1:(t343 != 2)=false:=bne_eq_false_iff_eq.mpr c51
      clear c51
      by_cases c52:(t340.length:Int)=0
      ·rw [if_pos c52] at H
       have c52b0:((t340.length:Int) == 0)=true:=beq_iff_eq.mpr c52
       have c52b1:((t340.length:Int) != 0)=false:=bne_eq_false_iff_eq.mpr c52
       clear c52
       by_cases c53:t346=2
       ·rw [if_pos c53] at H
        have c53b0:(t346 == 2)=true:=beq_iff_eq.mpr c53
        have c53b1:(t346 != 2)=false:=bne_eq_false_iff_eq.mpr c53
        clear c53
        by_cases c54:t344=0
        ·rw [if_pos c54] at H
         have c54b0:(t344 == 0)=true:=beq_iff_eq.mpr c54
         have c54b1:(t344 != 0)=false:=bne_eq_false_iff_eq.mpr c54
         clear c54
         by_cases c55:t345=0
         ·rw [if_pos c55] at H
          have c55b0:(t345 == 0)=true:=beq_iff_eq.mpr c55
          have c55b1:(t345 != 0)=false:=bne_eq_false_iff_eq.mpr c55
          clear c55;replace H:=Option.bind_eq_some_iff.mp H;obtain ⟨t351,A560,H⟩:=H
          replace H:(some t351)=some r:=H
          have A56:=A0_ A560;clear A560;obtain rfl:=Option.some.inj H
          obtain ⟨Ao57,co57,eo57⟩:=Kd.R_slice HO_11.out
          subst eo57
          go_wp2_with (first|(go_at_call 11;(with_reducible refine (tl_known.calls  t351 _ A56.out ?side1).mono ?_);(case side1=>exact LD.below HLD.out (by repeat (first|(with_reducible first|exact HB.out|apply below_alloc|apply pw_below_drewN|apply below_drew1|refine below_set ?_ GE337.out)|exact HB.out)));rintro e w58 ⟨rfl,hb⟩;have n0_:=A0_ (Kd.R_below (rd_ HO_11.out) hb);have n1_:=A0_ (blk_below (g:=gb337) (o:=.cells #[.slice A0_0 l0_0.length c0_0,.int .i64 a0_1,.int .i64 a0_2,.int .i64 a0_3] 29 (0,0)) (bd_ BK337.out) hb);have n2_:=A0_ (below_step (by repeat (first|(with_reducible first|exact HB.out|apply below_alloc|apply pw_below_drewN|apply below_drew1|refine below_set ?_ GE337.out)|exact HB.out)) hb);clear HO_11;clear BK337;clear HB;have HO_11:=n0_;have BK337:=n1_;have HB:=n2_;clear n0_ n1_ n2_;(try clear hb);(try clear hb2);(try clear hk);(try clear hi)))
          go_ret
          exact ⟨y2_,(by repeat (first|(with_reducible first|exact HB.out|apply below_alloc|apply pw_below_drewN|apply below_drew1|refine below_set ?_ GE337.out)|exact HB.out))⟩
         ·rw [if_neg c55] at H
          have c55b0:(t345 == 0)=false:=beq_eq_false_iff_ne.mpr c55
          have c55b1:(t345 != 0)=true:=bne_iff_ne.mpr c55
          obtain rfl:=Option.some.inj H
          obtain ⟨Ao59,co59,eo59⟩:=Kd.R_slice HO_11.out
          subst eo59;go_wp2;go_ret
          exact ⟨y2_,(by repeat (first|(with_reducible first|exact HB.out|apply below_alloc|apply pw_below_drewN|apply below_drew1|refine below_set ?_ GE337.out)|exact HB.out))⟩
        ·rw [if_neg c54] at H
         have c54b0:(t344 == 0)=false:=beq_eq_false_iff_ne.mpr c54
         have c54b1:(t344 != 0)=true:=bne_iff_ne.mpr c54
         obtain rfl:=Option.some.inj H
         obtain ⟨Ao60,co60,eo60⟩:=Kd.R_slice HO_11.out
         subst eo60;go_wp2;go_ret
         exact ⟨y2_,(by repeat (first|(with_reducible first|exact HB.out|apply below_alloc|apply pw_below_drewN|apply below_drew1|refine below_set ?_ GE337.out)|exact HB.out))⟩
       ·rw [if_neg c53] at H
        have c53b0:(t346 == 2)=false:=beq_eq_false_iff_ne.mpr c53
        have c53b1:(t346 != 2)=true:=bne_iff_ne.mpr c53
        obtain rfl:=Option.some.inj H
        obtain ⟨Ao61,co61,eo61⟩:=Kd.R_slice HO_11.out
        subst eo61;go_wp2;go_ret
        exact ⟨y2_,(by repeat (first|(with_reducible first|exact HB.out|apply below_alloc|apply pw_below_drewN|apply below_drew1|refine below_set ?_ GE337.out)|exact HB.out))⟩
      ·rw [if_neg c52] at H
       have c52b0:((t340.length:Int) == 0)=false:=beq_eq_false_iff_ne.mpr c52
       have c52b1:((t340.length:Int) != 0)=true:=bne_iff_ne.mpr c52
       have c52b2:¬ (t340=[]):=fun h_=>c52 (by rw [h_];rfl)
       obtain rfl:=Option.some.inj H
       obtain ⟨Ao62,co62,eo62⟩:=Kd.R_slice HO_11.out
       subst eo62;go_wp2;go_ret
       exact ⟨y2_,(by repeat (first|(with_reducible first|exact HB.out|apply below_alloc|apply pw_below_drewN|apply below_drew1|refine below_set ?_ GE337.out)|exact HB.out))⟩
     ·rw [if_neg c51] at H
      have c51b0:(t343 == 2)=false:=beq_eq_false_iff_ne.mpr c51
      have c51b1:(t343 != 2)=true:=bne_iff_ne.mpr c51
      obtain rfl:=Option.some.inj H;go_wp2;go_ret
      exact ⟨y2_,(by repeat (first|(with_reducible first|exact HB.out|apply below_alloc|apply pw_below_drewN|apply below_drew1|refine below_set ?_ GE337.out)|exact HB.out))⟩
    ·replace c50:=Bool.eq_false_iff.mpr c50;subst c50
     have H1:((tr_Near.f kj9 l0_0 a0_1 a0_2 a0_3 a1 a2 a3 a4).bind fun bt352=>(if t343=0 then ((tr_Meets.f kj9 l0_0 a0_1 a0_2 a0_3 a1 a2 a3 a4).bind fun t354=>((tr_Same.f kj9 t340 t354).bind fun t357=>(if t357=true then (if t346=0 then (if t344=bt352.1 then (if t345=bt352.2 then ((tl_known.f).bind fun t358=>(some t358)) else (some false)) else (some false)) else (some false)) else (some false)))) else (some false)))=some r:=by rw [if_neg (show ¬ (false=true) by decide)] at H;exact H
     clear H;have H:=H1;clear H1;replace H:=Option.bind_eq_some_iff.mp H
     obtain ⟨⟨t352,t353⟩,A630,H⟩:=H
     replace H:(if t343=0 then ((tr_Meets.f kj9 l0_0 a0_1 a0_2 a0_3 a1 a2 a3 a4).bind fun t354=>((tr_Same.f kj9 t340 t354).bind fun t357=>(if t357=true then (if t346=0 then (if t344=t352 then (if t345=t353 then ((tl_known.f).bind fun t358=>(some t358)) else (some false)) else (some false)) else (some false)) else (some false)))) else (some false))=some r:=H
     have A63:=A0_ A630;clear A630
     by_cases c64:t343=0
     ·rw [if_pos c64] at H
      have c64b0:(t343 == 0)=true:=beq_iff_eq.mpr c64
      have c64b1:(t343 != 0)=false:=bne_eq_false_iff_eq.mpr c64
      clear c64;replace H:=Option.bind_eq_some_iff.mp H;obtain ⟨t354,A650,H⟩:=H
      replace H:((tr_Same.f kj9 t340 t354).bind fun t357=>(if t357=true then (if t346=0 then (if t344=t352 then (if t345=t353 then ((tl_known.f).bind fun t358=>(some t358)) else (some false)) else (some false)) else (some false)) else (some false)))=some r:=H
      have A65:=A0_ A650;clear A650;replace H:=Option.bind_eq_some_iff.mp H;obtain ⟨t357,A660,H⟩:=H
      replace H:(if t357=true then (if t346=0 then (if t344=t352 then (if t345=t353 then ((tl_known.f).bind fun t358=>(some t358)) else (some false)) else (some false)) else (some false)) else (some false))=some r:=H
      have A66:=A0_ A660;clear A660
      by_cases c67:t357=true
      ·subst c67
       have H1:(if t346=0 then (if t344=t352 then (if t345=t353 then ((tl_known.f).bind fun t358=>(some t358)) else (some false)) else (some false)) else (some false))=some r:=by rw [if_pos rfl] at H;exact H
       clear H;have H:=H1;clear H1
       by_cases c68:t346=0
       ·rw [if_pos c68] at H
        have c68b0:(t346 == 0)=true:=beq_iff_eq.mpr c68
        have c68b1:(t346 != 0)=false:=bne_eq_false_iff_eq.mpr c68
        clear c68
        by_cases c69:t344=t352
        ·rw [if_pos c69] at H
         have c69b0:(t344 == t352)=true:=beq_iff_eq.mpr c69
         have c69b1:(t344 != t352)=false:=bne_eq_false_iff_eq.mpr c69
         clear c69
         by_cases c70:t345=t353
         ·rw [if_pos c70] at H
          have c70b0:(t345 == t353)=true:=beq_iff_eq.mpr c70
          have c70b1:(t345 != t353)=false:=bne_eq_false_iff_eq.mpr c70
          clear c70;replace H:=Option.bind_eq_some_iff.mp H;obtain ⟨t358,A710,H⟩:=H
          replace H:(some t358)=some r:=H
          have A71:=A0_ A710;clear A710;obtain rfl:=Option.some.inj H;obtain ⟨hcz72_0,hcz72_1,hcz72_2,hcz72_3,hfz72_0,hfz72_1,hfz72_2,hfz72_3⟩:=bq4_ BK337.out
          go_wp2_with (first|((with_reducible refine gate_callee (f:=22) rfl ?_);refine goesL_ (some 95) rfl rfl Tryz.func22 (by kernel_rfl) rfl #[.agg #[.slice A0_0 l0_0.length c0_0,.int .i64 a0_1,.int .i64 a0_2,.int .i64 a0_3],.int .i64 a1,.int .i64 a2,.int .i64 a3,.int .i64 a4] rfl y1_ ?_;(with_reducible refine (tr_Near.calls kj9 _ _ l0_0 a0_1 a0_2 a0_3 a1 a2 a3 a4 t352 t353 _ ?side1 ?side2 A63.out).mono ?_);(case side1=>repeat (first|exact (Kd.C_below HR0_0.out HB.out)|(with_reducible refine Kd.C_alloc ?_ _)|(with_reducible refine Kd.C_drewN ?_ _)|(with_reducible refine Kd.C_drew ?_)));(case side2=>exact HC0_0.out);rintro e w73 ⟨rfl,hb⟩;refine ⟨_,rfl,?_⟩;have n0_:=A0_ (Kd.R_below (rd_ HO_11.out) hb);have n1_:=A0_ (blk_below (g:=gb337) (o:=.cells #[.slice A0_0 l0_0.length c0_0,.int .i64 a0_1,.int .i64 a0_2,.int .i64 a0_3] 29 (0,0)) (bd_ BK337.out) hb);have n2_:=A0_ (below_step (by repeat (first|(with_reducible first|exact HB.out|apply below_alloc|apply pw_below_drewN|apply below_drew1|refine below_set ?_ GE337.out)|exact HB.out)) hb);clear HO_11;clear BK337;clear HB;have HO_11:=n0_;have BK337:=n1_;have HB:=n2_;clear n0_ n1_ n2_;(try clear hb);(try clear hb2);(try clear hk);(try clear hi);obtain ⟨hcz74_0,hcz74_1,hcz74_2,hcz74_3,hfz74_0,hfz74_1,hfz74_2,hfz74_3⟩:=bq4_ BK337.out)|(go_at_call 24;(with_reducible refine (tr_Meets.calls kj9 _ _ l0_0 a0_1 a0_2 a0_3 a1 a2 a3 a4 t354 _ ?side1 ?side2 A65.out).mono ?_);(case side1=>repeat (first|exact (Kd.C_below HR0_0.out HB.out)|(with_reducible refine Kd.C_alloc ?_ _)|(with_reducible refine Kd.C_drewN ?_ _)|(with_reducible refine Kd.C_drew ?_)));(case side2=>exact HC0_0.out);rintro e w75 ⟨v355,rfl,ho0,hb⟩;have n0_:=A0_ (Kd.R_elder' (rd_ HO_11.out) (Kd.R_base ho0) hb);have n1_:=A0_ (Kd.R_lower (Kd.R_new' ho0 (Kd.R_lt (rd_ HO_11.out))) (below_size (by repeat (first|(with_reducible first|exact HB.out|apply below_alloc|apply pw_below_drewN|apply below_drew1|refine below_set ?_ GE337.out)|exact HB.out))));have n2_:=A0_ (blk_below (g:=gb337) (o:=.cells #[.slice A0_0 l0_0.length c0_0,.int .i64 a0_1,.int .i64 a0_2,.int .i64 a0_3] 29 (0,0)) (bd_ BK337.out) hb);have n3_:=A0_ (below_step (by repeat (first|(with_reducible first|exact HB.out|apply below_alloc|apply pw_below_drewN|apply below_drew1|refine below_set ?_ GE337.out)|exact HB.out)) hb);clear HO_11;clear BK337;clear HB;have HO_11:=n0_;have HO356:=n1_;have BK337:=n2_;have HB:=n3_;clear n0_ n1_ n2_ n3_;(try clear hb);(try clear hb2);(try clear hk);(try clear hi);(try clear ho0);obtain ⟨Ao76,co76,eo76⟩:=Kd.R_slice HO_11.out;subst eo76;obtain ⟨Ao77,co77,eo77⟩:=Kd.R_slice HO356.out;subst eo77)|(go_at_call 23;(with_reducible refine (tr_Same.calls kj9 _ _ t340 _ _ t354 true _ ?side1 ?side2 ?side3 ?side4 A66.out).mono ?_);(case side1=>repeat (first|exact (Kd.R_reads' HO_11.out).2.2|(with_reducible refine Kd.C_alloc ?_ _)|(with_reducible refine Kd.C_drewN ?_ _)|(with_reducible refine Kd.C_drew ?_)));(case side2=>exact (Kd.R_reads' HO_11.out).2.1);(case side3=>repeat (first|exact (Kd.R_reads' HO356.out).2.2|(with_reducible refine Kd.C_alloc ?_ _)|(with_reducible refine Kd.C_drewN ?_ _)|(with_reducible refine Kd.C_drew ?_)));(case side4=>exact (Kd.R_reads' HO356.out).2.1);rintro e w' ⟨rfl,⟨nd,rfl⟩⟩)|(go_at_call 11;(with_reducible refine (tl_known.calls  t358 _ A71.out ?side1).mono ?_);(case side1=>exact LD.below HLD.out (by repeat (first|(with_reducible first|exact HB.out|apply below_alloc|apply pw_below_drewN|apply below_drew1|refine below_set ?_ GE337.out)|exact HB.out)));rintro e w78 ⟨rfl,hb⟩;have n0_:=A0_ (Kd.R_below (rd_ HO_11.out) hb);have n1_:=A0_ (Kd.R_below (rd_ HO356.out) hb);have n2_:=A0_ (blk_below (g:=gb337) (o:=.cells #[.slice A0_0 l0_0.length c0_0,.int .i64 a0_1,.int .i64 a0_2,.int .i64 a0_3] 29 (0,0)) (bd_ BK337.out) hb);have n3_:=A0_ (below_step (by repeat (first|(with_reducible first|exact HB.out|apply below_alloc|apply pw_below_drewN|apply below_drew1|refine below_set ?_ GE337.out)|exact HB.out)) hb);clear HO_11;clear HO356;clear BK337;clear HB;have HO_11:=n0_;have HO356:=n1_;have BK337:=n2_;have HB:=n3_;clear n0_ n1_ n2_ n3_;(try clear hb);(try clear hb2);(try clear hk);(try clear hi)))
          go_ret
          exact ⟨y2_,(by repeat (first|(with_reducible first|exact HB.out|apply below_alloc|apply pw_below_drewN|apply below_drew1|refine below_set ?_ GE337.out)|exact HB.out))⟩
         ·rw [if_neg c70] at H
          have c70b0:(t345 == t353)=false:=beq_eq_false_iff_ne.mpr c70
          have c70b1:(t345 != t353)=true:=bne_iff_ne.mpr c70
          obtain rfl:=Option.some.inj H;obtain ⟨hcz79_0,hcz79_1,hcz79_2,hcz79_3,hfz79_0,hfz79_1,hfz79_2,hfz79_3⟩:=bq4_ BK337.out
          go_wp2_with (first|((with_reducible refine gate_callee (f:=22) rfl ?_);refine goesL_ (some 95) rfl rfl Tryz.func22 (by kernel_rfl) rfl #[.agg #[.slice A0_0 l0_0.length c0_0,.int .i64 a0_1,.int .i64 a0_2,.int .i64 a0_3],.int .i64 a1,.int .i64 a2,.int .i64 a3,.int .i64 a4] rfl y1_ ?_;(with_reducible refine (tr_Near.calls kj9 _ _ l0_0 a0_1 a0_2 a0_3 a1 a2 a3 a4 t352 t353 _ ?side1 ?side2 A63.out).mono ?_);(case side1=>repeat (first|exact (Kd.C_below HR0_0.out HB.out)|(with_reducible refine Kd.C_alloc ?_ _)|(with_reducible refine Kd.C_drewN ?_ _)|(with_reducible refine Kd.C_drew ?_)));(case side2=>exact HC0_0.out);rintro e w80 ⟨rfl,hb⟩;refine ⟨_,rfl,?_⟩;have n0_:=A0_ (Kd.R_below (rd_ HO_11.out) hb);have n1_:=A0_ (blk_below (g:=gb337) (o:=.cells #[.slice A0_0 l0_0.length c0_0,.int .i64 a0_1,.int .i64 a0_2,.int .i64 a0_3] 29 (0,0)) (bd_ BK337.out) hb);have n2_:=A0_ (below_step (by repeat (first|(with_reducible first|exact HB.out|apply below_alloc|apply pw_below_drewN|apply below_drew1|refine below_set ?_ GE337.out)|exact HB.out)) hb);clear HO_11;clear BK337;clear HB;have HO_11:=n0_;have BK337:=n1_;have HB:=n2_;clear n0_ n1_ n2_;(try clear hb);(try clear hb2);(try clear hk);(try clear hi);obtain ⟨hcz81_0,hcz81_1,hcz81_2,hcz81_3,hfz81_0,hfz81_1,hfz81_2,hfz81_3⟩:=bq4_ BK337.out)|(go_at_call 24;(with_reducible refine (tr_Meets.calls kj9 _ _ l0_0 a0_1 a0_2 a0_3 a1 a2 a3 a4 t354 _ ?side1 ?side2 A65.out).mono ?_);(case side1=>repeat (first|exact (Kd.C_below HR0_0.out HB.out)|(with_reducible refine Kd.C_alloc ?_ _)|(with_reducible refine Kd.C_drewN ?_ _)|(with_reducible refine Kd.C_drew ?_)));(case side2=>exact HC0_0.out);rintro e w82 ⟨v355,rfl,ho0,hb⟩;have n0_:=A0_ (Kd.R_elder' (rd_ HO_11.out) (Kd.R_base ho0) hb);have n1_:=A0_ (Kd.R_lower (Kd.R_new' ho0 (Kd.R_lt (rd_ HO_11.out))) (below_size (by repeat (first|(with_reducible first|exact HB.out|apply below_alloc|apply pw_below_drewN|apply below_drew1|refine below_set ?_ GE337.out)|exact HB.out))));have n2_:=A0_ (blk_below (g:=gb337) (o:=.cells #[.slice A0_0 l0_0.length c0_0,.int .i64 a0_1,.int .i64 a0_2,.int .i64 a0_3] 29 (0,0)) (bd_ BK337.out) hb);have n3_:=A0_ (below_step (by repeat (first|(with_reducible first|exact HB.out|apply below_alloc|apply pw_below_drewN|apply below_drew1|refine below_set ?_ GE337.out)|exact HB.out)) hb);clear HO_11;clear BK337;clear HB;have HO_11:=n0_;have HO356:=n1_;have BK337:=n2_;have HB:=n3_;clear n0_ n1_ n2_ n3_;(try clear hb);(try clear hb2);(try clear hk);(try clear hi);(try clear ho0);obtain ⟨Ao83,co83,eo83⟩:=Kd.R_slice HO_11.out;subst eo83;obtain ⟨Ao84,co84,eo84⟩:=Kd.R_slice HO356.out;subst eo84)|(go_at_call 23;(with_reducible refine (tr_Same.calls kj9 _ _ t340 _ _ t354 true _ ?side1 ?side2 ?side3 ?side4 A66.out).mono ?_);(case side1=>repeat (first|exact (Kd.R_reads' HO_11.out).2.2|(with_reducible refine Kd.C_alloc ?_ _)|(with_reducible refine Kd.C_drewN ?_ _)|(with_reducible refine Kd.C_drew ?_)));(case side2=>exact (Kd.R_reads' HO_11.out).2.1);(case side3=>repeat (first|exact (Kd.R_reads' HO356.out).2.2|(with_reducible refine Kd.C_alloc ?_ _)|(with_reducible refine Kd.C_drewN ?_ _)|(with_reducible refine Kd.C_drew ?_)));(case side4=>exact (Kd.R_reads' HO356.out).2.1);rintro e w' ⟨rfl,⟨nd,rfl⟩⟩))
          go_ret
          exact ⟨y2_,(by repeat (first|(with_reducible first|exact HB.out|apply below_alloc|apply pw_below_drewN|apply below_drew1|refine below_set ?_ GE337.out)|exact HB.out))⟩
        ·rw [if_neg c69] at H
         have c69b0:(t344 == t352)=false:=beq_eq_false_iff_ne.mpr c69
         have c69b1:(t344 != t352)=true:=bne_iff_ne.mpr c69
         obtain rfl:=Option.some.inj H;obtain ⟨hcz85_0,hcz85_1,hcz85_2,hcz85_3,hfz85_0,hfz85_1,hfz85_2,hfz85_3⟩:=bq4_ BK337.out
         go_wp2_with (first|((with_reducible refine gate_callee (f:=22) rfl ?_);refine goesL_ (some 95) rfl rfl Tryz.func22 (by kernel_rfl) rfl #[.agg #[.slice A0_0 l0_0.length c0_0,.int .i64 a0_1,.int .i64 a0_2,.int .i64 a0_3],.int .i64 a1,.int .i64 a2,.int .i64 a3,.int .i64 a4] rfl y1_ ?_;(with_reducible refine (tr_Near.calls kj9 _ _ l0_0 a0_1 a0_2 a0_3 a1 a2 a3 a4 t352 t353 _ ?side1 ?side2 A63.out).mono ?_);(case side1=>repeat (first|exact (Kd.C_below HR0_0.out HB.out)|(with_reducible refine Kd.C_alloc ?_ _)|(with_reducible refine Kd.C_drewN ?_ _)|(with_reducible refine Kd.C_drew ?_)));(case side2=>exact HC0_0.out);rintro e w86 ⟨rfl,hb⟩;refine ⟨_,rfl,?_⟩;have n0_:=A0_ (Kd.R_below (rd_ HO_11.out) hb);have n1_:=A0_ (blk_below (g:=gb337) (o:=.cells #[.slice A0_0 l0_0.length c0_0,.int .i64 a0_1,.int .i64 a0_2,.int .i64 a0_3] 29 (0,0)) (bd_ BK337.out) hb);have n2_:=A0_ (below_step (by repeat (first|(with_reducible first|exact HB.out|apply below_alloc|apply pw_below_drewN|apply below_drew1|refine below_set ?_ GE337.out)|exact HB.out)) hb);clear HO_11;clear BK337;clear HB;have HO_11:=n0_;have BK337:=n1_;have HB:=n2_;clear n0_ n1_ n2_;(try clear hb);(try clear hb2);(try clear hk);(try clear hi);obtain ⟨hcz87_0,hcz87_1,hcz87_2,hcz87_3,hfz87_0,hfz87_1,hfz87_2,hfz87_3⟩:=bq4_ BK337.out)|(go_at_call 24;(with_reducible refine (tr_Meets.calls kj9 _ _ l0_0 a0_1 a0_2 a0_3 a1 a2 a3 a4 t354 _ ?side1 ?side2 A65.out).mono ?_);(case side1=>repeat (first|exact (Kd.C_below HR0_0.out HB.out)|(with_reducible refine Kd.C_alloc ?_ _)|(with_reducible refine Kd.C_drewN ?_ _)|(with_reducible refine Kd.C_drew ?_)));(case side2=>exact HC0_0.out);rintro e w88 ⟨v355,rfl,ho0,hb⟩;have n0_:=A0_ (Kd.R_elder' (rd_ HO_11.out) (Kd.R_base ho0) hb);have n1_:=A0_ (Kd.R_lower (Kd.R_new' ho0 (Kd.R_lt (rd_ HO_11.out))) (below_size (by repeat (first|(with_reducible first|exact HB.out|apply below_alloc|apply pw_below_drewN|apply below_drew1|refine below_set ?_ GE337.out)|exact HB.out))));have n2_:=A0_ (blk_below (g:=gb337) (o:=.cells #[.slice A0_0 l0_0.length c0_0,.int .i64 a0_1,.int .i64 a0_2,.int .i64 a0_3] 29 (0,0)) (bd_ BK337.out) hb);have n3_:=A0_ (below_step (by repeat (first|(with_reducible first|exact HB.out|apply below_alloc|apply pw_below_drewN|apply below_drew1|refine below_set ?_ GE337.out)|exact HB.out)) hb);clear HO_11;clear BK337;clear HB;have HO_11:=n0_;have HO356:=n1_;have BK337:=n2_;have HB:=n3_;clear n0_ n1_ n2_ n3_;(try clear hb);(try clear hb2);(try clear hk);(try clear hi);(try clear ho0);obtain ⟨Ao89,co89,eo89⟩:=Kd.R_slice HO_11.out;subst eo89;obtain ⟨Ao90,co90,eo90⟩:=Kd.R_slice HO356.out;subst eo90)|(go_at_call 23;(with_reducible refine (tr_Same.calls kj9 _ _ t340 _ _ t354 true _ ?side1 ?side2 ?side3 ?side4 A66.out).mono ?_);(case side1=>repeat (first|exact (Kd.R_reads' HO_11.out).2.2|(with_reducible refine Kd.C_alloc ?_ _)|(with_reducible refine Kd.C_drewN ?_ _)|(with_reducible refine Kd.C_drew ?_)));(case side2=>exact (Kd.R_reads' HO_11.out).2.1);(case side3=>repeat (first|exact (Kd.R_reads' HO356.out).2.2|(with_reducible refine Kd.C_alloc ?_ _)|(with_reducible refine Kd.C_drewN ?_ _)|(with_reducible refine Kd.C_drew ?_)));(case side4=>exact (Kd.R_reads' HO356.out).2.1);rintro e w' ⟨rfl,⟨nd,rfl⟩⟩))
         go_ret
         exact ⟨y2_,(by repeat (first|(with_reducible first|exact HB.out|apply below_alloc|apply pw_below_drewN|apply below_drew1|refine below_set ?_ GE337.out)|exact HB.out))⟩
       ·rw [if_neg c68] at H
        have c68b0:(t346 == 0)=false:=beq_eq_false_iff_ne.mpr c68
        have c68b1:(t346 != 0)=true:=bne_iff_ne.mpr c68
        obtain rfl:=Option.some.inj H;obtain ⟨hcz91_0,hcz91_1,hcz91_2,hcz91_3,hfz91_0,hfz91_1,hfz91_2,hfz91_3⟩:=bq4_ BK337.out
        go_wp2_with (first|((with_reducible refine gate_callee (f:=22) rfl ?_);refine goesL_ (some 95) rfl rfl Tryz.func22 (by kernel_rfl) rfl #[.agg #[.slice A0_0 l0_0.length c0_0,.int .i64 a0_1,.int .i64 a0_2,.int .i64 a0_3],.int .i64 a1,.int .i64 a2,.int .i64 a3,.int .i64 a4] rfl y1_ ?_;(with_reducible refine (tr_Near.calls kj9 _ _ l0_0 a0_1 a0_2 a0_3 a1 a2 a3 a4 t352 t353 _ ?side1 ?side2 A63.out).mono ?_);(case side1=>repeat (first|exact (Kd.C_below HR0_0.out HB.out)|(with_reducible refine Kd.C_alloc ?_ _)|(with_reducible refine Kd.C_drewN ?_ _)|(with_reducible refine Kd.C_drew ?_)));(case side2=>exact HC0_0.out);rintro e w92 ⟨rfl,hb⟩;refine ⟨_,rfl,?_⟩;have n0_:=A0_ (Kd.R_below (rd_ HO_11.out) hb);have n1_:=A0_ (blk_below (g:=gb337) (o:=.cells #[.slice A0_0 l0_0.length c0_0,.int .i64 a0_1,.int .i64 a0_2,.int .i64 a0_3] 29 (0,0)) (bd_ BK337.out) hb);have n2_:=A0_ (below_step (by repeat (first|(with_reducible first|exact HB.out|apply below_alloc|apply pw_below_drewN|apply below_drew1|refine below_set ?_ GE337.out)|exact HB.out)) hb);clear HO_11;clear BK337;clear HB;have HO_11:=n0_;have BK337:=n1_;have HB:=n2_;clear n0_ n1_ n2_;(try clear hb);(try clear hb2);(try clear hk);(try clear hi);obtain ⟨hcz93_0,hcz93_1,hcz93_2,hcz93_3,hfz93_0,hfz93_1,hfz93_2,hfz93_3⟩:=bq4_ BK337.out)|(go_at_call 24;(with_reducible refine (tr_Meets.calls kj9 _ _ l0_0 a0_1 a0_2 a0_3 a1 a2 a3 a4 t354 _ ?side1 ?side2 A65.out).mono ?_);(case side1=>repeat (first|exact (Kd.C_below HR0_0.out HB.out)|(with_reducible refine Kd.C_alloc ?_ _)|(with_reducible refine Kd.C_drewN ?_ _)|(with_reducible refine Kd.C_drew ?_)));(case side2=>exact HC0_0.out);rintro e w94 ⟨v355,rfl,ho0,hb⟩;have n0_:=A0_ (Kd.R_elder' (rd_ HO_11.out) (Kd.R_base ho0) hb);have n1_:=A0_ (Kd.R_lower (Kd.R_new' ho0 (Kd.R_lt (rd_ HO_11.out))) (below_size (by repeat (first|(with_reducible first|exact HB.out|apply below_alloc|apply pw_below_drewN|apply below_drew1|refine below_set ?_ GE337.out)|exact HB.out))));have n2_:=A0_ (blk_below (g:=gb337) (o:=.cells #[.slice A0_0 l0_0.length c0_0,.int .i64 a0_1,.int .i64 a0_2,.int .i64 a0_3] 29 (0,0)) (bd_ BK337.out) hb);have n3_:=A0_ (below_step (by repeat (first|(with_reducible first|exact HB.out|apply below_alloc|apply pw_below_drewN|apply below_drew1|refine below_set ?_ GE337.out)|exact HB.out)) hb);clear HO_11;clear BK337;clear HB;have HO_11:=n0_;have HO356:=n1_;have BK337:=n2_;have HB:=n3_;clear n0_ n1_ n2_ n3_;(try clear hb);(try clear hb2);(try clear hk);(try clear hi);(try clear ho0);obtain ⟨Ao95,co95,eo95⟩:=Kd.R_slice HO_11.out;subst eo95;obtain ⟨Ao96,co96,eo96⟩:=Kd.R_slice HO356.out;subst eo96)|(go_at_call 23;(with_reducible refine (tr_Same.calls kj9 _ _ t340 _ _ t354 true _ ?side1 ?side2 ?side3 ?side4 A66.out).mono ?_);(case side1=>repeat (first|exact (Kd.R_reads' HO_11.out).2.2|(with_reducible refine Kd.C_alloc ?_ _)|(with_reducible refine Kd.C_drewN ?_ _)|(with_reducible refine Kd.C_drew ?_)));(case side2=>exact (Kd.R_reads' HO_11.out).2.1);(case side3=>repeat (first|exact (Kd.R_reads' HO356.out).2.2|(with_reducible refine Kd.C_alloc ?_ _)|(with_reducible refine Kd.C_drewN ?_ _)|(with_reducible refine Kd.C_drew ?_)));(case side4=>exact (Kd.R_reads' HO356.out).2.1);rintro e w' ⟨rfl,⟨nd,rfl⟩⟩))
        go_ret
        exact ⟨y2_,(by repeat (first|(with_reducible first|exact HB.out|apply below_alloc|apply pw_below_drewN|apply below_drew1|refine below_set ?_ GE337.out)|exact HB.out))⟩
      ·replace c67:=Bool.eq_false_iff.mpr c67;subst c67
       have H1:(some false)=some r:=by rw [if_neg (show ¬ (false=true) by decide)] at H;exact H
       clear H;have H:=H1;clear H1;obtain rfl:=Option.some.inj H;obtain ⟨hcz97_0,hcz97_1,hcz97_2,hcz97_3,hfz97_0,hfz97_1,hfz97_2,hfz97_3⟩:=bq4_ BK337.out
       go_wp2_with (first|((with_reducible refine gate_callee (f:=22) rfl ?_);refine goesL_ (some 95) rfl rfl Tryz.func22 (by kernel_rfl) rfl #[.agg #[.slice A0_0 l0_0.length c0_0,.int .i64 a0_1,.int .i64 a0_2,.int .i64 a0_3],.int .i64 a1,.int .i64 a2,.int .i64 a3,.int .i64 a4] rfl y1_ ?_;(with_reducible refine (tr_Near.calls kj9 _ _ l0_0 a0_1 a0_2 a0_3 a1 a2 a3 a4 t352 t353 _ ?side1 ?side2 A63.out).mono ?_);(case side1=>repeat (first|exact (Kd.C_below HR0_0.out HB.out)|(with_reducible refine Kd.C_alloc ?_ _)|(with_reducible refine Kd.C_drewN ?_ _)|(with_reducible refine Kd.C_drew ?_)));(case side2=>exact HC0_0.out);rintro e w98 ⟨rfl,hb⟩;refine ⟨_,rfl,?_⟩;have n0_:=A0_ (Kd.R_below (rd_ HO_11.out) hb);have n1_:=A0_ (blk_below (g:=gb337) (o:=.cells #[.slice A0_0 l0_0.length c0_0,.int .i64 a0_1,.int .i64 a0_2,.int .i64 a0_3] 29 (0,0)) (bd_ BK337.out) hb);have n2_:=A0_ (below_step (by repeat (first|(with_reducible first|exact HB.out|apply below_alloc|apply pw_below_drewN|apply below_drew1|refine below_set ?_ GE337.out)|exact HB.out)) hb);clear HO_11;clear BK337;clear HB;have HO_11:=n0_;have BK337:=n1_;have HB:=n2_;clear n0_ n1_ n2_;(try clear hb);(try clear hb2);(try clear hk);(try clear hi);obtain ⟨hcz99_0,hcz99_1,hcz99_2,hcz99_3,hfz99_0,hfz99_1,hfz99_2,hfz99_3⟩:=bq4_ BK337.out)|(go_at_call 24;(with_reducible refine (tr_Meets.calls kj9 _ _ l0_0 a0_1 a0_2 a0_3 a1 a2 a3 a4 t354 _ ?side1 ?side2 A65.out).mono ?_);(case side1=>repeat (first|exact (Kd.C_below HR0_0.out HB.out)|(with_reducible refine Kd.C_alloc ?_ _)|(with_reducible refine Kd.C_drewN ?_ _)|(with_reducible refine Kd.C_drew ?_)));(case side2=>exact HC0_0.out);rintro e w100 ⟨v355,rfl,ho0,hb⟩;have n0_:=A0_ (Kd.R_elder' (rd_ HO_11.out) (Kd.R_base ho0) hb);have n1_:=A0_ (Kd.R_lower (Kd.R_new' ho0 (Kd.R_lt (rd_ HO_11.out))) (below_size (by repeat (first|(with_reducible first|exact HB.out|apply below_alloc|apply pw_below_drewN|apply below_drew1|refine below_set ?_ GE337.out)|exact HB.out))));have n2_:=A0_ (blk_below (g:=gb337) (o:=.cells #[.slice A0_0 l0_0.length c0_0,.int .i64 a0_1,.int .i64 a0_2,.int .i64 a0_3] 29 (0,0)) (bd_ BK337.out) hb);have n3_:=A0_ (below_step (by repeat (first|(with_reducible first|exact HB.out|apply below_alloc|apply pw_below_drewN|apply below_drew1|refine below_set ?_ GE337.out)|exact HB.out)) hb);clear HO_11;clear BK337;clear HB;have HO_11:=n0_;have HO356:=n1_;have BK337:=n2_;have HB:=n3_;clear n0_ n1_ n2_ n3_;(try clear hb);(try clear hb2);(try clear hk);(try clear hi);(try clear ho0);obtain ⟨Ao101,co101,eo101⟩:=Kd.R_slice HO_11.out;subst eo101;obtain ⟨Ao102,co102,eo102⟩:=Kd.R_slice HO356.out;subst eo102)|(go_at_call 23;(with_reducible refine (tr_Same.calls kj9 _ _ t340 _ _ t354 false _ ?side1 ?side2 ?side3 ?side4 A66.out).mono ?_);(case side1=>repeat (first|exact (Kd.R_reads' HO_11.out).2.2|(with_reducible refine Kd.C_alloc ?_ _)|(with_reducible refine Kd.C_drewN ?_ _)|(with_reducible refine Kd.C_drew ?_)));(case side2=>exact (Kd.R_reads' HO_11.out).2.1);(case side3=>repeat (first|exact (Kd.R_reads' HO356.out).2.2|(with_reducible refine Kd.C_alloc ?_ _)|(with_reducible refine Kd.C_drewN ?_ _)|(with_reducible refine Kd.C_drew ?_)));(case side4=>exact (Kd.R_reads' HO356.out).2.1);rintro e w' ⟨rfl,⟨nd,rfl⟩⟩))
       go_ret
       exact ⟨y2_,(by repeat (first|(with_reducible first|exact HB.out|apply below_alloc|apply pw_below_drewN|apply below_drew1|refine below_set ?_ GE337.out)|exact HB.out))⟩
     ·rw [if_neg c64] at H
      have c64b0:(t343 == 0)=false:=beq_eq_false_iff_ne.mpr c64
      have c64b1:(t343 != 0)=true:=bne_iff_ne.mpr c64
      obtain rfl:=Option.some.inj H;obtain ⟨hcz103_0,hcz103_1,hcz103_2,hcz103_3,hfz103_0,hfz103_1,hfz103_2,hfz103_3⟩:=bq4_ BK337.out
      go_wp2_with (first|((with_reducible refine gate_callee (f:=22) rfl ?_);refine goesL_ (some 95) rfl rfl Tryz.func22 (by kernel_rfl) rfl #[.agg #[.slice A0_0 l0_0.length c0_0,.int .i64 a0_1,.int .i64 a0_2,.int .i64 a0_3],.int .i64 a1,.int .i64 a2,.int .i64 a3,.int .i64 a4] rfl y1_ ?_;(with_reducible refine (tr_Near.calls kj9 _ _ l0_0 a0_1 a0_2 a0_3 a1 a2 a3 a4 t352 t353 _ ?side1 ?side2 A63.out).mono ?_);(case side1=>repeat (first|exact (Kd.C_below HR0_0.out HB.out)|(with_reducible refine Kd.C_alloc ?_ _)|(with_reducible refine Kd.C_drewN ?_ _)|(with_reducible refine Kd.C_drew ?_)));(case side2=>exact HC0_0.out);rintro e w104 ⟨rfl,hb⟩;refine ⟨_,rfl,?_⟩;have n0_:=A0_ (Kd.R_below (rd_ HO_11.out) hb);have n1_:=A0_ (blk_below (g:=gb337) (o:=.cells #[.slice A0_0 l0_0.length c0_0,.int .i64 a0_1,.int .i64 a0_2,.int .i64 a0_3] 29 (0,0)) (bd_ BK337.out) hb);have n2_:=A0_ (below_step (by repeat (first|(with_reducible first|exact HB.out|apply below_alloc|apply pw_below_drewN|apply below_drew1|refine below_set ?_ GE337.out)|exact HB.out)) hb);clear HO_11;clear BK337;clear HB;have HO_11:=n0_;have BK337:=n1_;have HB:=n2_;clear n0_ n1_ n2_;(try clear hb);(try clear hb2);(try clear hk);(try clear hi)))
      go_ret
      exact ⟨y2_,(by repeat (first|(with_reducible first|exact HB.out|apply below_alloc|apply pw_below_drewN|apply below_drew1|refine below_set ?_ GE337.out)|exact HB.out))⟩
 ·replace c7:=Bool.eq_false_iff.mpr c7;subst c7
  have H1:((tl_known.f).bind fun t339=>(some t339))=some r:=by rw [if_neg (show ¬ (false=true) by decide)] at H;exact H
  clear H;have H:=H1;clear H1;replace H:=Option.bind_eq_some_iff.mp H;obtain ⟨t339,A1050,H⟩:=H
  replace H:(some t339)=some r:=H
  have A105:=A0_ A1050;clear A1050;obtain rfl:=Option.some.inj H
  go_enter Tryz.func4,Tryz.ntmps4
  go_wp2_with (first|((with_reducible refine gate_dst (N:=5) rfl ?_);(try (refine gate_guard (by rfl) ?_;dsimp only));refine box_event ?hg (N:=5) ?hd (cs:=#[.slice A0_0 l0_0.length c0_0,.int .i64 a0_1,.int .i64 a0_2,.int .i64 a0_3]) (t:=29) ?hr ?_;(case hd=>rfl);(case hg=>rfl);(case hr=>first|(go_simp;done)|(go_simp;rfl));intro gb337 hg w106 hbox hb;have n0_:=A0_ (below_step y0_ hb);have n1_:=A0_ (hbox);have n2_:=A0_ ((by rw [hg];exact (below_size y0_):w.heap.size≤gb337));have n3_:=A0_ ((by rw [hg];exact (below_size y0_):w.heap.size≤gb337));clear HB;have HB:=n0_;have BK337:=n1_;have GW337:=n2_;have GE337:=n3_;clear n0_ n1_ n2_ n3_;clear hb hbox hg;obtain ⟨hcz107_0,hcz107_1,hcz107_2,hcz107_3,hfz107_0,hfz107_1,hfz107_2,hfz107_3⟩:=bq4_ BK337.out)|((with_reducible refine gate_callee (f:=17) rfl ?_);refine goesL_ (some 19) rfl rfl Tryz.func17 (by kernel_rfl) rfl #[.agg #[.slice A0_0 l0_0.length c0_0,.int .i64 a0_1,.int .i64 a0_2,.int .i64 a0_3]] rfl y1_ ?_;(with_reducible refine (tl_short.calls k _ _ l0_0 a0_1 a0_2 a0_3 false _ ?side1 ?side2 A6.out).mono ?_);(case side1=>repeat (first|exact (Kd.C_below HR0_0.out HB.out)|(with_reducible refine Kd.C_alloc ?_ _)|(with_reducible refine Kd.C_drewN ?_ _)|(with_reducible refine Kd.C_drew ?_)));(case side2=>exact HC0_0.out);rintro e w108 ⟨rfl,hb⟩;refine ⟨_,rfl,?_⟩;have n0_:=A0_ (blk_below (g:=gb337) (o:=.cells #[.slice A0_0 l0_0.length c0_0,.int .i64 a0_1,.int .i64 a0_2,.int .i64 a0_3] 29 (0,0)) (bd_ BK337.out) hb);have n1_:=A0_ (below_step (by repeat (first|(with_reducible first|exact HB.out|apply below_alloc|apply pw_below_drewN|apply below_drew1|refine below_set ?_ GE337.out)|exact HB.out)) hb);clear BK337;clear HB;have BK337:=n0_;have HB:=n1_;clear n0_ n1_;(try clear hb);(try clear hb2);(try clear hk);(try clear hi))|((with_reducible refine gate_callee (f:=11) rfl ?_);refine goesL_ (some 21) rfl rfl Tryz.func11 (by kernel_rfl) rfl #[] rfl y1_ ?_;(with_reducible refine (tl_known.calls  t339 _ A105.out ?side1).mono ?_);(case side1=>exact LD.below HLD.out (by repeat (first|(with_reducible first|exact HB.out|apply below_alloc|apply pw_below_drewN|apply below_drew1|refine below_set ?_ GE337.out)|exact HB.out)));rintro e w109 ⟨rfl,hb⟩;refine ⟨_,rfl,?_⟩;have n0_:=A0_ (blk_below (g:=gb337) (o:=.cells #[.slice A0_0 l0_0.length c0_0,.int .i64 a0_1,.int .i64 a0_2,.int .i64 a0_3] 29 (0,0)) (bd_ BK337.out) hb);have n1_:=A0_ (below_step (by repeat (first|(with_reducible first|exact HB.out|apply below_alloc|apply pw_below_drewN|apply below_drew1|refine below_set ?_ GE337.out)|exact HB.out)) hb);clear BK337;clear HB;have BK337:=n0_;have HB:=n1_;clear n0_ n1_;(try clear hb);(try clear hb2);(try clear hk);(try clear hi)))
  go_ret
  exact ⟨y2_,(by repeat (first|(with_reducible first|exact HB.out|apply below_alloc|apply pw_below_drewN|apply below_drew1|refine below_set ?_ GE337.out)|exact HB.out))⟩
end Go.Proofs.YtjahbgldccjbfaaGreatDoor.PSky
end
section
namespace Go.Proofs.YtjahbgldccjbfaaGreatDoor.PSky
open Go.RowKit Go.Proofs.YtjahbgldccjbfaaGreatDoorW.PrintWords Go.Proofs.YtjahbgldccjbfaaGreatDoorW.PrintLast Go.Proofs.YtjahbgldccjbfaaGreatDoorW.PrintMore
theorem SkyMeets_ev (l:List S74) (p q n i j a b:Int):Ev (fun k=>tl_SkyMeets.f k l p q n i j a b) true:=by
 obtain ⟨s,hs,hs6⟩:=short_ev l p q n
 have bad:∀ (x:Int),Ev (fun k=>tl_SkyMeets.j0 k i j a b [] 2 0 0 2 true l p q n) true:=fun _=>by
  refine Ev.step (fun k=>by rw [tl_SkyMeets.j0]) ?_
  exact Ev.pos rfl (Ev.pos rfl (Ev.pos rfl (Ev.pos rfl (Ev.pos rfl (Ev.pos rfl known_ev)))))
 unfold tl_SkyMeets.f
 refine Ev.bind hs ?_
 cases s with
 |false=>exact Ev.neg (by simp) known_ev
 |true=>
  have hl:=hs6 rfl
  refine Ev.pos rfl (Ev.bind (Meets_ev l p q n i j a b) (Ev.bind (Near_ev l p q n i j a b) (Ev.bind (refSky_ev l p q n (by omega)) ?_)))
  by_cases h:okSky l p q n=true∧okTwo l i j=true∧okSpan a b=true
  ·rw [if_pos h,if_pos h]
   obtain ⟨h1,h2,h3⟩:=h
   have h2':=h2
   simp only [okTwo,Bool.and_eq_true,bne_iff_ne] at h2'
   have hsp:=span_of h3
   refine Ev.pos h1 (Ev.bind (Ev.is (Body_eq (by omega) p q n i)) (Ev.pos h2'.1 (Ev.bind (Ev.is (Body_eq (by omega) p q n j)) (Ev.pos h2'.2.1 (Ev.neg h2'.2.2 (Ev.bind (Ev.is (Span_eq a b)) ?_))))))
   refine Ev.step (fun k=>by rw [tl_SkyMeets.j0]) ?_
   refine Ev.neg (by rw [h3];simp) (Ev.bind (refNear_ev h1 h2 h3) (Ev.pos rfl (Ev.bind (refMeets_ev h1 h2 h3) (Ev.bind (sameI_ev _ ?_) (Ev.pos rfl (Ev.pos rfl (Ev.pos rfl (Ev.pos rfl known_ev))))))))
   have h1:(meetsOf l i j a b).length≤(daysOf a b).length:=List.length_filter_le _ _
   have h2:(daysOf a b).length=(b+1 - a).toNat:=by simp [daysOf]
   show (meetsOf l i j a b).length≤1000000
   omega
  ·rw [if_neg h,if_neg h]
   cases h1:okSky l p q n with
   |false=>exact Ev.neg (by simp) (bad 0)
   |true=>
    refine Ev.pos rfl (Ev.bind (Ev.is (Body_eq (by omega) p q n i)) ?_)
    cases h2:okBodyN l i with
    |false=>exact Ev.neg (by simp) (bad 0)
    |true=>
     refine Ev.pos rfl (Ev.bind (Ev.is (Body_eq (by omega) p q n j)) ?_)
     cases h3:okBodyN l j with
     |false=>exact Ev.neg (by simp) (bad 0)
     |true=>
      refine Ev.pos rfl ?_
      by_cases h4:i=j
      ·exact Ev.pos h4 (bad 0)
      ·refine Ev.neg h4 (Ev.bind (Ev.is (Span_eq a b)) ?_)
       cases h5:okSpan a b with
       |false=>exact bad 0
       |true=>exact absurd ⟨h1,by unfold okTwo;rw [h2,h3];simp [h4],h5⟩ h
end Go.Proofs.YtjahbgldccjbfaaGreatDoor.PSky
end
section
namespace Go.Proofs.YtjahbgldccjbfaaGreatDoor
open Go.ChangeShapes Go.WideShapes Go.ChangeAt Go.RowKit
set_option maxRecDepth 100000 in
set_option maxHeartbeats 1600000 in
theorem skyMeets_lifted (os:Os) (started:os.Started) (H:Type) (enc:TypeId × Value→H) (F:Stop.Interp):
  ReturnsInHanded {} Tryz.checked os 4 .any ((OpenSpec.ofChange Rows.skyMeetsSpec).preRow enc Tryz.prog Tryz.f4 Rows.skyMeetsRow.domain false Rows.skyMeetsRow.laid) (((OpenSpec.ofChange Rows.skyMeetsSpec).at F).post enc Tryz.prog Tryz.f4 false true false false):=by
 refine returnsInHanded_of_row (C:=Tryz.checked) (s:=OpenSpec.ofChange Rows.skyMeetsSpec) own started (by kernel_rfl) Tryz.func4
  (witness_row_at (enc:=enc) (C:=Tryz.checked) false (laidWorld os) #[.agg #[.slice none 0 0,.int .i64 0,.int .i64 0,.int .i64 0],.int .i64 0,.int .i64 0,.int .i64 0,.int .i64 0] rfl (by kernel_rfl) (by kernel_rfl) (by kernel_rfl) (OpenSpec.preRow_of_B rfl 8 (by kernel_rfl) (by kernel_rfl) (laid_met os _))) ?_
 intro W base args ds gs before hval0 hW _ _ hsz0 hL hsh _
 have hval:∀ (j:Nat) t v,Tryz.f4.params[j]?=some t→args[j]?=some v→Value.okWide Tryz.prog W .any base t v:=hval0
 have hW':=hW
 obtain ⟨p,q,hA0,hV,rfl,hfz,hnd⟩:=hW
 have hA:DataW.TrodAll enc Tryz.prog W 0 (fun _=>true) true Tryz.f4.params.toList args.toList ds p:=hA0
 rw [Tryz.params4] at hA hval
 obtain ⟨v0,vs0,d0,ds0,p0,q0,hargs,rfl,rfl,h0,r0⟩:=trodAll_cons hA
 obtain ⟨v1,vs1,d1,ds1,p1,q1,rfl,rfl,rfl,h1,r1⟩:=trodAll_cons r0
 obtain ⟨v2,vs2,d2,ds2,p2,q2,rfl,rfl,rfl,h2,r2⟩:=trodAll_cons r1
 obtain ⟨v3,vs3,d3,ds3,p3,q3,rfl,rfl,rfl,h3,r3⟩:=trodAll_cons r2
 obtain ⟨v4,vs4,d4,ds4,p4,q4,rfl,rfl,rfl,h4,r4⟩:=trodAll_cons r3
 obtain ⟨rfl,rfl,rfl⟩:=trodAll_nil r4
 obtain rfl:args=#[v0,v1,v2,v3,v4]:=by cases args;simp_all
 obtain ⟨rfl,rfl⟩:=trodVars_none hV
 have k0:=h0
 have lt0:∀ x∈p0,x.block<W.heap.size:=by obtain ⟨m,hm⟩:=k0;exact DataW.trod_lt m _ _ _ hm
 obtain ⟨fuel0,hf0⟩:=h0
 obtain ⟨A0,c0,l0,a0,b0,e0,hcs0,hlc0,hC0⟩:=PSky.open_sky hf0
 obtain rfl:=agg_of hcs0 rfl
 obtain ⟨x1,rfl,rfl,rfl,w1⟩:=open_int Tryz.underlying3 (hval 1 3 v1 rfl rfl) h1
 obtain ⟨x2,rfl,rfl,rfl,w2⟩:=open_int Tryz.underlying3 (hval 2 3 v2 rfl rfl) h2
 obtain ⟨x3,rfl,rfl,rfl,w3⟩:=open_int Tryz.underlying3 (hval 3 3 v3 rfl rfl) h3
 obtain ⟨x4,rfl,rfl,rfl,w4⟩:=open_int Tryz.underlying3 (hval 4 3 v4 rfl rfl) h4
 obtain ⟨k,hk⟩:=(PSky.SkyMeets_ev l0 a0 b0 e0 x1 x2 x3 x4).rounds
 have hld:=ld_of hL hsh
 clear hA0 hval0 hsz0 hA hval hL hsh
 refine (PSky.tl_SkyMeets.calls k A0 c0 l0 a0 b0 e0 x1 x2 x3 x4 true W hC0 hlc0 hk hld).mono fun e W' ⟨he,bel⟩=>?_
 subst he
 exact ⟨_,rfl,_,_,_,[],_,[],hW',trodAll_mk1 (shut_bool Tryz.underlying4 _),(trodAll_cons_mk (Below.trod laidOut (by kernel_rfl) (of_decide_eq_true (by kernel_rfl)) k0 bel lt0) (trodAll_cons_mk (shut_int Tryz.underlying3 w1) (trodAll_cons_mk (shut_int Tryz.underlying3 w2) (trodAll_cons_mk (shut_int Tryz.underlying3 w3) (trodAll_cons_mk (shut_int Tryz.underlying3 w4) trodAll_mk0))))),rfl,bel.frame _,fun h=>by cases h⟩
theorem skyMeets_holds:Rows.SkyMeetsSaid:=
 OpenClaim.holds_of_wide 4 Tryz.f4 rfl rfl rfl rfl rfl rfl rfl ⟨rfl,rfl,rfl,rfl,rfl⟩ rfl rfl rfl rfl rfl (by kernel_rfl) Tryz.func4 (by kernel_rfl)
  (of_decide_eq_true (by kernel_rfl)) (by unfold Func.isWrapper;first|(rw [if_pos (by decide +kernel)];kernel_rfl)|(rw [if_neg (by decide +kernel)];exact ⟨rfl,rfl⟩))
  (fun os started H enc _=>skyMeets_lifted os started H enc (fun _ _ _=>0))
end Go.Proofs.YtjahbgldccjbfaaGreatDoor
end
