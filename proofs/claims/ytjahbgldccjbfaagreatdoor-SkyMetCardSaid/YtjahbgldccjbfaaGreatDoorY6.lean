/- A part of the proof of a law of the layer sky. -/
import Derived.ChangeSame
import Derived.Deep.DeepHandedRow
import Derived.Deep.OwnRows
import Derived.Deep.RegionLaw
import Derived.Deep.Slices
import Derived.Deep.Strs
import Derived.Defers
import Derived.LaidMore
import Derived.Laws.Entries
import Derived.Laws.NewBlocks
import Derived.Lib.LaidTab
import Derived.Lib.OthersKept
import Derived.Lib.SplitLaws
import Derived.Maps.AppendAt
import Derived.Maps.Own
import Derived.Maps.OwnOps
import Derived.Maps.OwnSet
import Derived.Maps.Views
import Derived.OpenShut
import Derived.Outline
import Derived.ProofKit
import Derived.Recover
import Derived.SizedLaws
import Derived.Stop.Joined
import Derived.Stop.LaidErr
import Derived.Test.YtjahbgldccjbfaaGreatDoorRows
import Derived.Test.YtjahbgldccjbfaaGreatDoorY5
section
namespace Go.Proofs.YtjahbgldccjbfaaGreatDoor.PSky
open Go.RowKit Go.Shelf Go.Proofs.YtjahbgldccjbfaaGreatDoorW.PrintWords Go.Proofs.YtjahbgldccjbfaaGreatDoorW.PrintLast Go.Proofs.YtjahbgldccjbfaaGreatDoorW.PrintMore
attribute [local go_sem] Oper.semAt_some
theorem append_close {α:Type} {d:Kd α} {e t:Nat} {W w2:World} {Bo n₀ m₀:Nat} {v v2:Value} {xs:List α} {p:α} {inner cs:List Value}
  (hflat:∀ (w w':World) (ok ok':Nat→Prop) (x:α) (c:List Value),d.M w n₀ ok x c→d.M w' n₀ ok' x c) (hE:d.E=[]) (hte:e≠t)
  (hO:W.heap[Bo]?=some (.cells #[v] t (0,0))) (hn:m₀≤Bo) (hmn:m₀≤n₀) (hown:W.ownsRow n₀ e d.sz v xs.length inner) (hreps:Reps (d.M W n₀ (fun k=>True∧some k≠v.ownBlock)) d.sz xs inner)
  (hp:d.M W n₀ (fun _=>True) p cs) (hown1:w2.ownsRow n₀ e d.sz v2 (xs.length+1) (inner ++ cs)) (hgrow:(W.alloc (.cells cs.toArray e)).grownBy w2 v.ownBlock):
  ∃ v',(w2.setCell ⟨Bo,0,none⟩ v2).heap[Bo]?=some (.cells #[v'] t (0,0))∧Kd.R d e (w2.setCell ⟨Bo,0,none⟩ v2) n₀ (fun _=>True) v' (xs ++ [p]) ∧
   KeepBut W (w2.setCell ⟨Bo,0,none⟩ v2) Bo v.ownBlock∧Below m₀ W (w2.setCell ⟨Bo,0,none⟩ v2):=by
 have hne:some Bo≠v.ownBlock:=Boxed.not_row (t:=t) hO (Ne.symm hte) hown
 have hO2:w2.heap[Bo]?=some (.cells #[v] t (0,0)):=blk_grown (blk_alloc hO _) hgrow hne
 have hlo:=blk_lt hO
 have hnW:m₀≤W.heap.size:=by omega
 refine ⟨v2,blk_put hO2 0 _ rfl,?_,?_,?_⟩
 ·have h2:Kd.R d e w2 n₀ (fun _=>True) v2 (xs ++ [p]):=
   ⟨fun _ _=>trivial,inner ++ cs,by rw [List.length_append];exact hown1,Reps.snoc (hreps.imp_ fun x c hx=>hflat _ _ _ _ _ _ hx) (hflat _ _ _ _ _ _ hp) (d.K_len (d.K_of_M hp))⟩
  exact Kd.R_set h2 hO2 (by intro q hq;rw [hE] at hq;simp at hq;subst hq;exact hte) 0 _
 ·refine ⟨?_,fun i hi h1 h2=>?_⟩
  ·have:=hgrow.size;simp [World.setCell] at this ⊢;omega
  ·rw [Below.heap_setCell _ _ _ i h1,hgrow.block i (by simp;omega) h2]
   exact Below.heap_alloc _ _ _ hi
 ·refine Below.setCell (p:=⟨Bo,0,none⟩) ?_ hn _
  refine Below.grown ?_ hgrow (by simp;omega) (fun j e=>Nat.le_trans hmn (own_base hown j e))
  exact (Below.refl _ _).alloc hnW _
structure DaysI {α:Type} (d:Kd α) (e t:Nat) (w W0:World) (B:Nat) (A0:Option Addr) (c0 len:Nat) (i1 i2 i3 lo hi one other:Int) (xs:List α) (W:World):Prop where
 out:∃ v,W.heap[B]?=some (.cells #[v] t (0,0))∧d.R e W W0.heap.size (fun _=>True) v xs
 below:Below w.heap.size w W
 size:W0.heap.size≤W.heap.size
 s:W.heap[B+1]?=some (.cells #[.slice A0 len c0,.int .i64 i1,.int .i64 i2,.int .i64 i3] 29 (0,0))
 lo:W.heap[B+2]?=some (.cells #[.int .i64 lo] 3 (0,0))
 hi:W.heap[B+3]?=some (.cells #[.int .i64 hi] 3 (0,0))
 one:W.heap[w.heap.size+1]?=some (.cells #[.int .i64 one] 3 (0,0))
 other:W.heap[w.heap.size+2]?=some (.cells #[.int .i64 other] 3 (0,0))
theorem DaysI.own {α:Type} {d:Kd α} {e t:Nat} {w W0:World} {B:Nat} {A0:Option Addr} {c0 len:Nat} {i1 i2 i3 lo hi one other:Int} {β:Type} {f:β→List α} {C:Nat} (hC:w.heap.size≤C):
  OwnFrom C (fun (s:β) W=>DaysI d e t w W0 B A0 c0 len i1 i2 i3 lo hi one other (f s) W):=by
 intro s X Y row h hg hr
 have hr':∀ r,row=some r→∃ o:Obj,X.heap[r]?=some o∧o.isCells=false:=fun r e=>(hr r e).2
 obtain ⟨⟨v,h1,h2⟩,h3,h4,h5,h6,h7,h8,h9⟩:=h
 exact ⟨⟨v,blk_ownFrom h1 hg hr',R_ownFrom h2 hg hr'⟩,h3.grown hg h3.size (fun k e=>by have:=(hr k e).1;omega),Nat.le_trans h4 hg.size,blk_ownFrom h5 hg hr',blk_ownFrom h6 hg hr',blk_ownFrom h7 hg hr',blk_ownFrom h8 hg hr',blk_ownFrom h9 hg hr'⟩
theorem DaysI.step {α:Type} {d:Kd α} {e t:Nat} {w W0 W W':World} {B:Nat} {A0:Option Addr} {c0 len:Nat} {i1 i2 i3 lo hi one other:Int} {xs ys:List α} {v v':Value} (h:DaysI d e t w W0 B A0 c0 len i1 i2 i3 lo hi one other xs W)
  (hB:w.heap.size+3≤B) (hB4:B+4≤W0.heap.size) (hO:W.heap[B]?=some (.cells #[v] t (0,0))) (hR:d.R e W W0.heap.size (fun _=>True) v xs)
  (hO':W'.heap[B]?=some (.cells #[v'] t (0,0))) (hR':d.R e W' W0.heap.size (fun _=>True) v' ys) (hk:KeepBut W W' B v.ownBlock) (hb:Below w.heap.size W W'):
  DaysI d e t w W0 B A0 c0 len i1 i2 i3 lo hi one other ys W'∧KeepsFrom W0.heap.size W W'∧KpD (B+1) W W':=by
 obtain ⟨inner,ho⟩:=Kd.R_own hR
 have far:∀ i,i<W0.heap.size→some i≠v.ownBlock:=fun i hi e=>by have:=own_base ho i e.symm;omega
 have e1:=hk.2 (B+1) (blk_lt h.s) (by omega) (far _ (by omega))
 have e2:=hk.2 (B+2) (blk_lt h.lo) (by omega) (far _ (by omega))
 have e3:=hk.2 (B+3) (blk_lt h.hi) (by omega) (far _ (by omega))
 have e4:=hk.2 (w.heap.size+1) (blk_lt h.one) (by omega) (far _ (by omega))
 have e5:=hk.2 (w.heap.size+2) (blk_lt h.other) (by omega) (far _ (by omega))
 refine ⟨⟨⟨v',hO',hR'⟩,h.below.trans hb,Nat.le_trans h.size hk.1,e1.trans h.s,e2.trans h.lo,e3.trans h.hi,e4.trans h.one,e5.trans h.other⟩,⟨hk.1,fun i o _ hi hc=>?_⟩,fun i h1 h2=>?_⟩
 ·refine (hk.2 i (Array.getElem?_eq_some_iff.1 hi).1 (fun e=>?_) (fun e=>?_)).trans hi
  ·rw [e,hO] at hi;cases hi;cases hc
  ·obtain ⟨cells,hcl⟩:=own_typed ho i e.symm
   rw [hcl] at hi;cases hi;cases hc
 ·have:i=B+1∨i=B+2∨i=B+3:=by omega
  rcases this with rfl|rfl|rfl
  ·exact e1
  ·exact e2
  ·exact e3
theorem DaysI.stay {α:Type} {d:Kd α} {e t:Nat} {w W0 W W':World} {B:Nat} {A0:Option Addr} {c0 len:Nat} {i1 i2 i3 lo hi one other:Int} {xs:List α} (h:DaysI d e t w W0 B A0 c0 len i1 i2 i3 lo hi one other xs W)
  (hB:w.heap.size+3≤B) (hB4:B+4≤W0.heap.size) (hb:Below W.heap.size W W'):
  DaysI d e t w W0 B A0 c0 len i1 i2 i3 lo hi one other xs W'∧KeepsFrom W0.heap.size W W'∧KpD (B+1) W W':=by
 obtain ⟨v,hO,hR⟩:=h.out
 exact h.step hB hB4 hO hR (blk_below hO hb) (Kd.R_below hR hb) (KeepBut.of_below hb _ _) (hb.mono h.below.size)
def sky_Meets.f (k:Nat) (l:List S74) (i1 i2 i3 one other lo hi:Int):Option (List Int × Int):=
 (sky_isSky.f k l i1 i2 i3).bind fun b1=>if b1=true then (sky_areTwo.f l i1 i2 i3 one other).bind fun b2=>if b2=true then (sky_isSpan.f lo hi).bind fun b3=>
  if b3=true then (if ∀ d∈daysOf lo hi,(at_has_meet.f k l i1 i2 i3 d one other).isSome=true then some ((daysOf lo hi).filter (fun d=>at_has_meet.f k l i1 i2 i3 d one other=some true),0) else none) else some ([],2) else some ([],2) else some ([],2)
theorem isSpan_true {lo hi:Int} (h:sky_isSpan.f lo hi=some true):1≤lo∧lo≤hi∧hi≤20000:=by
 unfold sky_isSpan.f sky_in.f at h
 by_cases h1:lo ≥ 1
 ·rw [if_pos h1] at h
  simp only [Option.bind_some] at h
  by_cases h2:lo≤20000
  ·rw [if_pos (decide_eq_true h2)] at h
   by_cases h3:hi ≥ lo
   ·rw [if_pos h3] at h
    simp only [Option.bind_some] at h
    by_cases h4:hi≤20000
    ·exact ⟨h1,h3,h4⟩
    ·simp [h4] at h
   ·rw [if_neg h3] at h
    simp at h
  ·simp [h2] at h
 ·rw [if_neg h1] at h
  simp at h
set_option maxRecDepth 100000 in
set_option maxHeartbeats 1600000 in
theorem sky_Meets.calls (k:Nat) (A0_0:Option Addr) (c0_0:Nat) (l0_0:List S74) (a0_1 a0_2 a0_3 a1 a2 a3 a4:Int) (r1:List Int) (r2:Int) (w:World)
  (hr0_0:Kd.C k74 w A0_0 l0_0.length l0_0) (hc0_0:l0_0.length≤c0_0) (h:sky_Meets.f k l0_0 a0_1 a0_2 a0_3 a1 a2 a3 a4=some (r1,r2)):
  Calls Tryz.prog 18 #[.agg #[.slice A0_0 l0_0.length c0_0,.int .i64 a0_1,.int .i64 a0_2,.int .i64 a0_3],.int .i64 a1,.int .i64 a2,.int .i64 a3,.int .i64 a4] w fun e w'=>∃ v0_:Value,e=.returned (.tuple #[v0_,.int .i64 r2])∧Kd.R (Kd.int .i64) 3 w' w.heap.size (fun _=>True) v0_ r1∧Below w.heap.size w w':=by
 have HR:=A0_ hr0_0;have HC:=A0_ hc0_0;clear hr0_0 hc0_0
 have hmf:∀ (fn:Fn) (first cap:Array Value) (w:World),(Instr.makeFunc fn first cap).run Tryz.prog w=.ok (.func fn first cap) w:=fun _ _ _ _=>rfl
 obtain ⟨b1,hb1,h1⟩:=Option.bind_eq_some_iff.mp h
 have HB1:=A0_ hb1;clear h hb1
 refine (callsIn_wide (n:=5)).1 ?_
 refine callsIn_of_wp_marks Tryz.func18 rfl trivial ?_ rfl
 simp only [Tryz.ntmps18,List.size_toArray,List.length_cons,List.length_nil,Nat.reduceAdd,Nat.reduceSub,Array.replicate_succ,Array.replicate_zero,List.push_toArray,List.append_toArray,List.nil_append,List.cons_append]
 cases b1 with
 |false=>
  obtain ⟨rfl,rfl⟩:[]=r1∧2=r2:=by simpa using h1
  gi_wp2_with fail
  refine ⟨trivial,?_⟩
  refine (callsIn_wide.2 (sky_isSky.calls k A0_0 c0_0 l0_0 a0_1 a0_2 a0_3 false _ ?hC HC.out HB1.out)).mono ?_
  case hC=>exact Kd.C_alloc (Kd.C_alloc (Kd.C_alloc HR.out _) _) _
  rintro e w1 ⟨rfl,hb⟩
  have HB:=A0_ (below_step (below_alloc (below_alloc (below_alloc (Below.refl _ _) _) _) _) hb)
  clear hb
  gi_wp2
  refine ⟨trivial,?_⟩
  gi_wp2
  refine ⟨trivial,?_⟩
  gi_wp2
  exact ⟨_,results_tmp2 rfl _ _ _,_,rfl,Kd.R_nil _ _ _ _ _,HB.out⟩
 |true=>
 obtain ⟨b2,hb2,h2⟩:=Option.bind_eq_some_iff.mp (show ((sky_areTwo.f l0_0 a0_1 a0_2 a0_3 a1 a2).bind _)=some (r1,r2) from by simpa using h1)
 have HB2:=A0_ hb2;clear h1 hb2
 cases b2 with
 |false=>
  obtain ⟨rfl,rfl⟩:[]=r1∧2=r2:=by simpa using h2
  gi_wp2_with fail
  refine ⟨trivial,?_⟩
  refine (callsIn_wide.2 (sky_isSky.calls k A0_0 c0_0 l0_0 a0_1 a0_2 a0_3 true _ ?hC HC.out HB1.out)).mono ?_
  case hC=>exact Kd.C_alloc (Kd.C_alloc (Kd.C_alloc HR.out _) _) _
  rintro e w1 ⟨rfl,hb⟩
  have HB:=A0_ (below_step (below_alloc (below_alloc (below_alloc (Below.refl _ _) _) _) _) hb)
  have HS1:=A0_ (blk_below (blk_alloc (blk_alloc (blk_new w (.cells #[.slice A0_0 l0_0.length c0_0,.int .i64 a0_1,.int .i64 a0_2,.int .i64 a0_3] 29)) (.cells #[.int .i64 a1] 3)) (.cells #[.int .i64 a2] 3)) hb)
  have HO1:=A0_ (blk_below (blk_alloc (blk_new (w.alloc (.cells #[.slice A0_0 l0_0.length c0_0,.int .i64 a0_1,.int .i64 a0_2,.int .i64 a0_3] 29)) (.cells #[.int .i64 a1] 3)) (.cells #[.int .i64 a2] 3)) hb)
  have HT1:=A0_ (blk_below (blk_new ((w.alloc (.cells #[.slice A0_0 l0_0.length c0_0,.int .i64 a0_1,.int .i64 a0_2,.int .i64 a0_3] 29)).alloc (.cells #[.int .i64 a1] 3)) (.cells #[.int .i64 a2] 3)) hb)
  simp only [World.size_alloc] at HO1 HT1
  have x0:=blk_cell HS1.out 0
  have x1:=blk_cell HS1.out 1
  have x2:=blk_cell HS1.out 2
  have x3:=blk_cell HS1.out 3
  have y0:=blk_cell HO1.out 0
  have z0:=blk_cell HT1.out 0
  simp at x0 x1 x2 x3 y0 z0
  clear hb
  gi_wp2_with fail
  refine ⟨trivial,?_⟩
  refine (callsIn_wide.2 (sky_areTwo.calls A0_0 c0_0 l0_0 a0_1 a0_2 a0_3 a1 a2 false _ ?hC HC.out HB2.out)).mono ?_
  case hC=>exact Kd.C_below HR.out HB.out
  rintro e w2 ⟨rfl,hb⟩
  have HBB:=A0_ (below_step HB.out hb)
  clear hb
  gi_wp2
  refine ⟨trivial,?_⟩
  gi_wp2
  exact ⟨_,results_tmp2 rfl _ _ _,_,rfl,Kd.R_nil _ _ _ _ _,HBB.out⟩
 |true=>
 obtain ⟨b3,hb3,h3⟩:=Option.bind_eq_some_iff.mp (show ((sky_isSpan.f a3 a4).bind _)=some (r1,r2) from by simpa using h2)
 have HB3:=A0_ hb3;clear h2 hb3
 gi_wp2_with fail
 refine ⟨trivial,?_⟩
 refine (callsIn_wide.2 (sky_isSky.calls k A0_0 c0_0 l0_0 a0_1 a0_2 a0_3 true _ ?hC HC.out HB1.out)).mono ?_
 case hC=>exact Kd.C_alloc (Kd.C_alloc (Kd.C_alloc HR.out _) _) _
 rintro e w1 ⟨rfl,hb⟩
 have HB:=A0_ (below_step (below_alloc (below_alloc (below_alloc (Below.refl _ _) _) _) _) hb)
 have HS1:=A0_ (blk_below (blk_alloc (blk_alloc (blk_new w (.cells #[.slice A0_0 l0_0.length c0_0,.int .i64 a0_1,.int .i64 a0_2,.int .i64 a0_3] 29)) (.cells #[.int .i64 a1] 3)) (.cells #[.int .i64 a2] 3)) hb)
 have HO1:=A0_ (blk_below (blk_alloc (blk_new (w.alloc (.cells #[.slice A0_0 l0_0.length c0_0,.int .i64 a0_1,.int .i64 a0_2,.int .i64 a0_3] 29)) (.cells #[.int .i64 a1] 3)) (.cells #[.int .i64 a2] 3)) hb)
 have HT1:=A0_ (blk_below (blk_new ((w.alloc (.cells #[.slice A0_0 l0_0.length c0_0,.int .i64 a0_1,.int .i64 a0_2,.int .i64 a0_3] 29)).alloc (.cells #[.int .i64 a1] 3)) (.cells #[.int .i64 a2] 3)) hb)
 simp only [World.size_alloc] at HO1 HT1
 have x0:=blk_cell HS1.out 0
 have x1:=blk_cell HS1.out 1
 have x2:=blk_cell HS1.out 2
 have x3:=blk_cell HS1.out 3
 have y0:=blk_cell HO1.out 0
 have z0:=blk_cell HT1.out 0
 simp at x0 x1 x2 x3 y0 z0
 clear hb
 gi_wp2_with fail
 refine ⟨trivial,?_⟩
 refine (callsIn_wide.2 (sky_areTwo.calls A0_0 c0_0 l0_0 a0_1 a0_2 a0_3 a1 a2 true _ ?hC HC.out HB2.out)).mono ?_
 case hC=>exact Kd.C_below HR.out HB.out
 rintro e w2 ⟨rfl,hb⟩
 have HBB:=A0_ (below_step HB.out hb)
 have HS2:=A0_ (blk_below HS1.out hb)
 have HO2:=A0_ (blk_below HO1.out hb)
 have HT2:=A0_ (blk_below HT1.out hb)
 clear hb x0 x1 x2 x3 y0 z0
 gi_wp2_with fail
 refine ⟨trivial,?_⟩
 refine (callsIn_wide.2 (sky_isSpan.calls a3 a4 b3 _ HB3.out)).mono ?_
 rintro e w' ⟨rfl,⟨nd,rfl⟩⟩
 cases b3 with
 |false=>
  obtain ⟨rfl,rfl⟩:[]=r1∧2=r2:=by simpa using h3
  gi_wp2
  exact ⟨_,results_tmp2 rfl _ _ _,_,rfl,Kd.R_nil _ _ _ _ _,pw_below_drewN HBB.out nd⟩
 |true=>
 have HF:=A0_ h3;clear h3
 have HBW:=A0_ (pw_below_drewN HBB.out nd)
 have HSW:=A0_ (blk_drewN HS2.out nd)
 have HOW:=A0_ (blk_drewN HO2.out nd)
 have HTW:=A0_ (blk_drewN HT2.out nd)
 clear HS2 HO2 HT2 HBB HB HS1 HO1 HT1
 generalize w2.drewN nd=W1 at HBW HSW HOW HTW ⊢
 have x0:=blk_cell HSW.out 0
 have x1:=blk_cell HSW.out 1
 have x2:=blk_cell HSW.out 2
 have x3:=blk_cell HSW.out 3
 simp at x0 x1 x2 x3
 have lt1:=blk_lt HTW.out
 have lt0:=blk_lt HSW.out
 gi_wp2_with (refine ⟨trivial,?_⟩;gi_at_call 70;refine (callsIn_wide.2 (days_calls A0_0 c0_0 l0_0.length a0_1 a0_2 a0_3 a3 a4 _)).mono ?_;rintro e w' ⟨rfl,rfl⟩)
 have hcond:∀ d∈daysOf a3 a4,(at_has_meet.f k l0_0 a0_1 a0_2 a0_3 d a1 a2).isSome=true:=by
  have h:=HF.out
  rw [if_pos trivial] at h
  split at h
  ·assumption
  ·cases h
 have hres:(daysOf a3 a4).filter (fun d=>at_has_meet.f k l0_0 a0_1 a0_2 a0_3 d a1 a2=some true)=r1∧0=r2:=by
  have h:=HF.out
  rw [if_pos trivial,if_pos hcond] at h
  simpa using h
 obtain ⟨hres,rfl⟩:=hres
 have hsp:=isSpan_true HB3.out
 obtain ⟨s1,s2,s3⟩:=hsp
 have HRES:=A0_ hres;have HCD:=A0_ hcond;clear hres hcond x0 x1 x2 x3
 have hB0:Below w.heap.size w ((((W1.alloc (.cells #[.slice none 0 0] 40)).alloc (.cells #[.slice A0_0 l0_0.length c0_0,.int .i64 a0_1,.int .i64 a0_2,.int .i64 a0_3] 29)).alloc (.cells #[.int .i64 a3] 3)).alloc (.cells #[.int .i64 a4] 3)):=below_alloc (below_alloc (below_alloc (below_alloc HBW.out _) _) _) _
 have hO:=blk_alloc (blk_alloc (blk_alloc (blk_new W1 (.cells #[.slice none 0 0] 40)) (.cells #[.slice A0_0 l0_0.length c0_0,.int .i64 a0_1,.int .i64 a0_2,.int .i64 a0_3] 29)) (.cells #[.int .i64 a3] 3)) (.cells #[.int .i64 a4] 3)
 have hS:=blk_alloc (blk_alloc (blk_new (W1.alloc (.cells #[.slice none 0 0] 40)) (.cells #[.slice A0_0 l0_0.length c0_0,.int .i64 a0_1,.int .i64 a0_2,.int .i64 a0_3] 29)) (.cells #[.int .i64 a3] 3)) (.cells #[.int .i64 a4] 3)
 have hL:=blk_alloc (blk_new ((W1.alloc (.cells #[.slice none 0 0] 40)).alloc (.cells #[.slice A0_0 l0_0.length c0_0,.int .i64 a0_1,.int .i64 a0_2,.int .i64 a0_3] 29)) (.cells #[.int .i64 a3] 3)) (.cells #[.int .i64 a4] 3)
 have hH:=blk_new (((W1.alloc (.cells #[.slice none 0 0] 40)).alloc (.cells #[.slice A0_0 l0_0.length c0_0,.int .i64 a0_1,.int .i64 a0_2,.int .i64 a0_3] 29)).alloc (.cells #[.int .i64 a3] 3)) (.cells #[.int .i64 a4] 3)
 have hP:=blk_alloc (blk_alloc (blk_alloc (blk_alloc HOW.out (.cells #[.slice none 0 0] 40)) (.cells #[.slice A0_0 l0_0.length c0_0,.int .i64 a0_1,.int .i64 a0_2,.int .i64 a0_3] 29)) (.cells #[.int .i64 a3] 3)) (.cells #[.int .i64 a4] 3)
 have hQ:=blk_alloc (blk_alloc (blk_alloc (blk_alloc HTW.out (.cells #[.slice none 0 0] 40)) (.cells #[.slice A0_0 l0_0.length c0_0,.int .i64 a0_1,.int .i64 a0_2,.int .i64 a0_3] 29)) (.cells #[.int .i64 a3] 3)) (.cells #[.int .i64 a4] 3)
 have hsz:((((W1.alloc (.cells #[.slice none 0 0] 40)).alloc (.cells #[.slice A0_0 l0_0.length c0_0,.int .i64 a0_1,.int .i64 a0_2,.int .i64 a0_3] 29)).alloc (.cells #[.int .i64 a3] 3)).alloc (.cells #[.int .i64 a4] 3)).heap.size=W1.heap.size+4:=by simp
 simp only [World.size_alloc] at hO hS hL hH
 clear HSW HOW HTW
 generalize ((((W1.alloc (.cells #[.slice none 0 0] 40)).alloc (.cells #[.slice A0_0 l0_0.length c0_0,.int .i64 a0_1,.int .i64 a0_2,.int .i64 a0_3] 29)).alloc (.cells #[.int .i64 a3] 3)).alloc (.cells #[.int .i64 a4] 3))=W0 at hO hS hL hH hP hQ hsz hB0 ⊢
 refine wpIn_rangeFunc_ownH rfl (by omega) (gf:=126) (lb:=#[.pointer (some ⟨W1.heap.size+2,0,none⟩),.pointer (some ⟨W1.heap.size+3,0,none⟩),.pointer (some ⟨W1.heap.size+1,0,none⟩)]) rfl trivial (enters_of Tryz.func126 (by kernel_rfl) rfl)
  (days_stops (5 - 1) (by omega) (W1.heap.size+1) A0_0 c0_0 l0_0.length a0_1 a0_2 a0_3 a3 a4 (by omega) (by omega) s3 W0 hS hL hH) KpD_t (KpD_b (by omega)) (Below.refl _ _) (fun _=>rfl)
  (fun pre W=>DaysI (Kd.int .i64) 3 40 w W0 W1.heap.size A0_0 c0_0 l0_0.length a0_1 a0_2 a0_3 a3 a4 a1 a2 ((pre.map (·.1)).filter fun d=>at_has_meet.f k l0_0 a0_1 a0_2 a0_3 d a1 a2=some true) W)
  (fun _ _ _=>False)
  (DaysI.own hB0.size) (fun _ _ _ _ _ hs _ _=>hs) ⟨⟨_,hO,Kd.R_nil _ _ _ _ _⟩,hB0,Nat.le_refl _,hS,hL,hH,hP,hQ⟩
  (fun x a' W=>∃ Bx,W0.heap.size≤Bx∧W.heap[Bx]?=some (.cells #[.slice A0_0 l0_0.length c0_0,.int .i64 a0_1,.int .i64 a0_2,.int .i64 a0_3,.int .i64 x.1] 112 (0,0))∧a'={ tmps:=#[.agg #[.slice A0_0 l0_0.length c0_0,.int .i64 a0_1,.int .i64 a0_2,.int .i64 a0_3],.int .i64 a1,.int .i64 a2,.int .i64 a3,.int .i64 a4,.pointer (some ⟨w.heap.size,0,none⟩),.pointer (some ⟨w.heap.size+1,0,none⟩),.pointer (some ⟨w.heap.size+1+1,0,none⟩),undef,undef,.slice none 0 0,.int .i64 0,.pointer (some ⟨W1.heap.size,0,none⟩),.pointer (some ⟨Bx,0,none⟩),.agg #[.slice A0_0 l0_0.length c0_0,.int .i64 a0_1,.int .i64 a0_2,.int .i64 a0_3],.bool true,.bool false,.bool false,.agg #[.slice A0_0 l0_0.length c0_0,.int .i64 a0_1,.int .i64 a0_2,.int .i64 a0_3],.int .i64 a1,.int .i64 a2,.bool true,.bool false,.bool false,.bool false,.int .i64 a3,.int .i64 a4,.bool true,.bool false,.bool false,.agg #[.slice A0_0 l0_0.length c0_0,.int .i64 a0_1,.int .i64 a0_2,.int .i64 a0_3],.int .i64 a3,.int .i64 a4,.func (.func 126) #[] #[.pointer (some ⟨W1.heap.size+2,0,none⟩),.pointer (some ⟨W1.heap.size+3,0,none⟩),.pointer (some ⟨W1.heap.size+1,0,none⟩)],.agg #[.slice A0_0 l0_0.length c0_0,.int .i64 a0_1,.int .i64 a0_2,.int .i64 a0_3,.int .i64 x.1],undef,undef,undef,undef,undef,undef,undef,undef,undef,undef,undef,undef],defers:=[] })
  ?hAx ?assign ?body ?done ?stop
 case hAx=>
  rintro x a' _ X Y row ⟨Bx,h1,h2,h3⟩ hg hr
  exact ⟨Bx,h1,blk_ownFrom h2 hg (fun r e=>(hr r e).2),h3⟩
 case assign=>
  rintro l pre x W K hI hK
  dsimp only [encDay]
  have hs:=hI.size
  obtain ⟨⟨v,hOv,hRv⟩,hBW,hsW,hSW,hLW,hHW,hPW,hQW⟩:=hI
  gi_wp2
  exact hK _ _ ((KeepsOthers.alloc _ _).from _) (fun i h1 h2=>Below.heap_alloc _ _ _ (by omega)) ⟨⟨v,blk_alloc hOv _,Kd.R_alloc hRv _⟩,below_alloc hBW _,by simp;omega,blk_alloc hSW _,blk_alloc hLW _,blk_alloc hHW _,blk_alloc hPW _,blk_alloc hQW _⟩ ⟨W.heap.size,hs,blk_new _ _,rfl⟩
 case body=>
  rintro l pre x a' W hl ⟨rr,hrr⟩ hI ⟨Bx,hBx,hX,rfl⟩ hlt
  obtain ⟨b,hb⟩:=Option.isSome_iff_exists.1 (HCD.out x.1 (mem_daysOf.2 x.2))
  obtain ⟨v,hOv,hRv⟩:=hI.out
  have x0:=blk_cell hX 0
  have x1:=blk_cell hX 1
  have x2:=blk_cell hX 2
  have x3:=blk_cell hX 3
  have x4:=blk_cell hX 4
  have y0:=blk_cell hI.one 0
  have z0:=blk_cell hI.other 0
  simp at x0 x1 x2 x3 x4 y0 z0
  have HB:=A0_ hb;have HX:=A0_ hX;have HOv:=A0_ hOv;have HRv:=A0_ hRv;have HI:=A0_ hI
  have hlf:((pre.map (·.1)).filter fun d=>at_has_meet.f k l0_0 a0_1 a0_2 a0_3 d a1 a2=some true).length≤pre.length:=by have:=List.length_filter_le (fun d=>decide (at_has_meet.f k l0_0 a0_1 a0_2 a0_3 d a1 a2=some true)) (pre.map (·.1));simpa using this
  clear hb hX hOv hRv hI hO hS hL hH hP hQ hrr
  gi_wp2_with fail
  refine ⟨trivial,?_⟩
  refine (CallsIn.inRound l (callsIn_wide.2 (at_has_meet.calls k A0_0 c0_0 l0_0 a0_1 a0_2 a0_3 x.1 a1 a2 b W (Kd.C_below HR.out HI.out.below) HC.out HB.out))).mono ?_
  rintro e W2 ⟨rfl,hb⟩
  have st:=HI.out.stay (by omega) (by omega) hb
  have HI2:=A0_ st.1
  have HK2:=A0_ st.2.1
  have HP2:=A0_ st.2.2
  have HX2:=A0_ (blk_below HX.out hb)
  have HO2:=A0_ (blk_below HOv.out hb)
  have HR2:=A0_ (Kd.R_below HRv.out hb)
  clear hb st x0 x1 x2 x3 x4 y0 z0
  cases b with
  |false=>
   gi_wp2
   refine ⟨HK2.out,HP2.out,?_⟩
   dsimp only
   have e1:((pre ++ [x]).map (·.1)).filter (fun d=>at_has_meet.f k l0_0 a0_1 a0_2 a0_3 d a1 a2=some true)=(pre.map (·.1)).filter fun d=>at_has_meet.f k l0_0 a0_1 a0_2 a0_3 d a1 a2=some true:=by
    rw [List.map_append,List.filter_append]
    simp [HB.out]
   rw [e1]
   exact HI2.out
  |true=>
   have o0:=blk_cell HO2.out 0
   have u4:=blk_cell HX2.out 4
   simp at o0 u4
   obtain ⟨hr0,inner,hown,hreps⟩:=HR2.out
   obtain ⟨i0,hi0,hz0,hz1,hz2⟩:=info_parts info3
   have hsW:=HI2.out.size
   have HNE:=A0_ (show some W1.heap.size≠v.ownBlock from Boxed.not_row (t:=40) HO2.out (by decide) hown)
   gi_wp2_with (gi_at_builtin;refine wpListIn_append_own _ rfl _ _ 40 rfl W0.heap.size 3 i0 (.int .i64 0) 1 8 Tryz.underlying40 hi0 hz0 hz1 hz2 rfl (by decide) v _ inner rfl (hown.alloc _) ⟨W2.heap.size,0,none⟩ 1 1 [.int .i64 x.1] rfl rfl (cell_one_new _ _ _) (by simp [Value.oneCell']) (by unfold maxLen;omega) (by omega) (by simp;omega) ?_;intro v' w3 hown' hgrow _;obtain ⟨g',cap',rfl⟩:=ownsRow_succ hown';have q:=blk_grown (blk_alloc HO2.out _) hgrow HNE.out;have q0:=blk_cell q 0;have q1:=blk_frozen q 0;simp at q0;clear q)
   obtain ⟨v3,hO3,hR3,hk3,hb3⟩:=append_close (d:=Kd.int .i64) (p:=x.1) (cs:=[.int .i64 x.1]) (m₀:=w.heap.size) (fun _ _ _ _ _ _ h=>h) rfl (by decide) HO2.out (by omega) (by have:=hB0.size;omega) hown hreps rfl hown' hgrow
   have st:=HI2.out.step (by omega) (by omega) HO2.out HR2.out hO3 hR3 hk3 hb3
   refine ⟨HK2.out.trans st.2.1,KpD_t HP2.out st.2.2,?_⟩
   dsimp only
   have e1:((pre ++ [x]).map (·.1)).filter (fun d=>at_has_meet.f k l0_0 a0_1 a0_2 a0_3 d a1 a2=some true)=((pre.map (·.1)).filter fun d=>at_has_meet.f k l0_0 a0_1 a0_2 a0_3 d a1 a2=some true) ++ [x.1]:=by
    rw [List.map_append,List.filter_append]
    simp [HB.out]
   rw [e1]
   exact st.1
 case done=>
  rintro D ys W hD hys hI hK
  obtain ⟨v,hOv,hRv⟩:=hI.out
  have o0:=blk_cell hOv 0
  simp at o0
  have HI:=A0_ hI;have HRv:=A0_ hRv;have HYS:=A0_ hys;have HB0:=A0_ hB0;clear hI hRv hOv hys hO hS hL hH hP hQ
  gi_wp2
  refine ⟨by simp,.inl ⟨_,_,rfl,run_takeDeferred hK,?_⟩⟩
  refine ⟨_,results_tmp2 rfl _ _ _,v,rfl,?_,HI.out.below.trans (belowK_b (w:=w) (Nat.le_refl _) W D _ _ (by have:=HB0.out.size;omega) hK rfl rfl)⟩
  have hr:((ys.map (·.1)).filter fun d=>at_has_meet.f k l0_0 a0_1 a0_2 a0_3 d a1 a2=some true)=r1:=by rw [allDays_val HYS.out];exact HRES.out
  rw [← hr]
  exact Kd.R_lower (R_ownFrom HRv.out (grownBy_putObj' W D (.deferred none)) (fun q e=>by cases e;exact ⟨_,hK,rfl⟩)) HB0.out.size
 case stop=>
  rintro D c pre W _ _ h _
  exact h.elim
end Go.Proofs.YtjahbgldccjbfaaGreatDoor.PSky
end
section
namespace Go.Proofs.YtjahbgldccjbfaaGreatDoor.PSky
open Go.RowKit Go.Proofs.YtjahbgldccjbfaaGreatDoorW.PrintWords Go.Proofs.YtjahbgldccjbfaaGreatDoorW.PrintLast Go.Proofs.YtjahbgldccjbfaaGreatDoorW.PrintMore
set_option maxRecDepth 100000 in
theorem sure_yes (s:ByteArray) (w:World):Calls Tryz.prog 116 #[.bool true,.string s] w fun e w'=>e=.returned (.tuple #[])∧w'=w:=by
 go_enter Tryz.func116,Tryz.ntmps116
 go_wp2
 go_end0
 exact ⟨rfl,rfl⟩
def GaveUp (e:Ending):Prop:=∃ s:ByteArray,e=.panicked [{ v:=.iface 101 (.agg #[.string s]),recovered:=false }]
set_option maxRecDepth 100000 in
theorem sure_no (s:ByteArray) (w:World):Calls Tryz.prog 116 #[.bool false,.string s] w fun e w'=>e=.panicked [{ v:=.iface 101 (.agg #[.string s]),recovered:=false }]∧w'=w:=by
 go_enter Tryz.func116,Tryz.ntmps116
 go_wp2
 exact ⟨rfl,rfl,rfl⟩
end Go.Proofs.YtjahbgldccjbfaaGreatDoor.PSky
end
section
namespace Go.Proofs.YtjahbgldccjbfaaGreatDoor.PSky
open Go.RowKit Go.Proofs.YtjahbgldccjbfaaGreatDoorW.PrintWords Go.Proofs.YtjahbgldccjbfaaGreatDoorW.PrintLast Go.Proofs.YtjahbgldccjbfaaGreatDoorW.PrintMore
def isDigit (c:Int):Bool:=decide (48≤c) && decide (c≤57)
def numFrom (s:ByteArray):Nat→Nat→Int→Option Int
 |0,_,_=>none
 |k+1,pos,n=>if pos<s.size then (if isDigit (Utf8.decode s pos).1=true∧s.size≤5 then numFrom s k (pos+(Utf8.decode s pos).2) (wrap64 (wrap64 (10*n)+((Utf8.decode s pos).1 - 48))) else none) else some n
def NumEnds:Option Int→Ending→Prop
 |some n,e=>e=.returned (.int .i64 n)
 |none,e=>GaveUp e
def digitsOf (w:ByteArray):ByteArray:=⟨(Lib.trimPrefix w.data.toList [45]).toArray⟩
def numberOf (w:ByteArray):Option Int:=
 (numFrom (digitsOf w) ((digitsOf w).size+1) 0 0).bind fun n=>if (!(digitsOf w).toList.isEmpty && Lib.itoa (if (digitsOf w).size<w.size then wrap64 (-n) else n) == w.toList)=true then some (if (digitsOf w).size<w.size then wrap64 (-n) else n) else none
theorem wrap64_bounds (n:Int):-9223372036854775808≤wrap64 n∧wrap64 n≤9223372036854775807:=by unfold wrap64;omega
theorem digitsOf_le (s:ByteArray):(digitsOf s).size≤s.size:=by
 unfold digitsOf
 have:=Lib.trimPrefix_le s.data.toList [45]
 show (Lib.trimPrefix s.data.toList [45]).toArray.size≤s.data.size
 rw [List.size_toArray]
 exact this
set_option maxRecDepth 100000 in
theorem number_ends (s:ByteArray) (hs:s.size≤100000) (w:World) (hLD:LD w):
  Calls Tryz.prog 141 #[.string s] w fun e w'=>NumEnds (numberOf s) e∧Below w.heap.size w w':=by
 go_enter Tryz.func141,Tryz.ntmps141
 go_wp2_with fail
 refine (Tryz.strings_TrimPrefix s ⟨#[45]⟩ w).mono ?_
 rintro e w1 ⟨rfl,h1⟩
 obtain rfl:=h1.symm
 go_wp2
 have hdl:(digitsOf s).size≤100000:=Nat.le_trans (digitsOf_le s) hs
 rw [show (⟨(Lib.trimPrefix s.data.toList [45]).toArray⟩:ByteArray)=digitsOf s from rfl]
 go_loopg [3] ((digitsOf s).size+1) (fun kq v3 w'=>∃ (pos:Nat) (n:Int),v3=.int .i64 n∧kq+pos=(digitsOf s).size+1∧pos≤(digitsOf s).size∧(-9223372036854775808≤n∧n≤9223372036854775807)∧Aside0 (numFrom (digitsOf s) kq pos n=numFrom (digitsOf s) ((digitsOf s).size+1) 0 0)∧Aside0 (w'.heap[w.heap.size]?=some (.stringIter (digitsOf s) pos))∧Aside0 (Below w.heap.size w w'))
 case atStart=>exact ⟨0,0,rfl,rfl,Nat.zero_le _,by decide,⟨rfl⟩,⟨blk_new w _⟩,⟨below_alloc (Below.refl _ _) _⟩⟩
 case round=>
  obtain ⟨pos,n,rfl,hkp,hps,hnb,HF,HI,HB⟩:=hrel
  by_cases hp:pos<(digitsOf s).size
  ·have hrun:=fun ty=>Go.Lib.run_next_any_at (P:=Tryz.prog) wr w.heap.size (digitsOf s) pos ty HI.out hp
   generalize hcc:(Utf8.decode (digitsOf s) pos).1=c at hrun
   generalize hww:(Utf8.decode (digitsOf s) pos).2=wd at hrun
   have HI2:=A0_ (Go.Lib.iterAt_heap wr w.heap.size (digitsOf s) pos (pos+wd) HI.out)
   have HB2:=A0_ (Go.Lib.below_iterAt HB.out (Nat.le_refl _) (digitsOf s) (pos+wd))
   obtain ⟨kq,rfl⟩:∃ m,gk=m+1:=⟨gk - 1,by omega⟩
   have hF:=HF.out
   simp only [numFrom,if_pos hp,hcc,hww] at hF
   have gu:(isDigit c=true∧(digitsOf s).size≤5)=False→numberOf s=none:=by
    intro hno
    rw [if_neg (by rw [hno];exact id)] at hF
    unfold numberOf
    rw [show numFrom (digitsOf s) ((digitsOf s).size+1) 0 0=none from hF.symm]
    rfl
   by_cases h1:48≤c
   ·by_cases h2:c≤57
    ·by_cases h3:(digitsOf s).size≤5
     ·have h3b:decide (((digitsOf s).size:Int)≤5)=true:=decide_eq_true (by omega)
      go_wp2_with fail
      refine (sure_yes s _).mono ?_
      rintro e w2 ⟨rfl,h2'⟩
      obtain rfl:=h2'.symm
      have hyes:isDigit c=true∧(digitsOf s).size≤5:=⟨by simp [isDigit];omega,h3⟩
      rw [if_pos hyes] at hF
      have hwd:wd=1:=by
       have hlow:((digitsOf s)[pos]'hp).toNat<128:=by
        rcases Nat.lt_or_ge ((digitsOf s)[pos]'hp).toNat 128 with h|h
        ·exact h
        ·have:=(decode_high (digitsOf s) pos hp h).1
         omega
       have:=decode_ascii (digitsOf s) pos hp hlow
       rw [this] at hww
       exact hww.symm
      subst hwd;go_wp2
      go_roundg kq
      case measure=>omega
      case rel=>exact ⟨pos+1,_,rfl,by omega,by omega,wrap64_bounds _,⟨hF⟩,HI2,HB2⟩
     ·have h3b:decide (((digitsOf s).size:Int)≤5)=false:=decide_eq_false (by omega)
      have hnone:=gu (eq_false (fun hh=>h3 hh.2))
      go_wp2_with fail
      refine (sure_no s _).mono ?_
      rintro e w2 ⟨rfl,h2'⟩
      obtain rfl:=h2'.symm
      exact ⟨rfl,by rw [hnone];exact ⟨s,rfl⟩,HB2.out⟩
    ·have hnone:=gu (eq_false (fun hh=>by simp [isDigit] at hh;omega))
     go_wp2_with fail
     refine (sure_no s _).mono ?_
     rintro e w2 ⟨rfl,h2'⟩
     obtain rfl:=h2'.symm
     exact ⟨rfl,by rw [hnone];exact ⟨s,rfl⟩,HB2.out⟩
   ·have hnone:=gu (eq_false (fun hh=>by simp [isDigit] at hh;omega))
    go_wp2_with fail
    refine (sure_no s _).mono ?_
    rintro e w2 ⟨rfl,h2'⟩
    obtain rfl:=h2'.symm
    exact ⟨rfl,by rw [hnone];exact ⟨s,rfl⟩,HB2.out⟩
  ·obtain rfl:gk=1:=by omega
   have hF:numFrom (digitsOf s) ((digitsOf s).size+1) 0 0=some n:=HF.out.symm.trans (by simp [numFrom,hp])
   have hrun:=fun ty=>Go.Lib.run_next_end_at (P:=Tryz.prog) wr w.heap.size (digitsOf s) pos ty HI.out hp
   have hNum:numberOf s=if (!(digitsOf s).toList.isEmpty && Lib.itoa (if (digitsOf s).size<s.size then wrap64 (-n) else n) == s.toList)=true then some (if (digitsOf s).size<s.size then wrap64 (-n) else n) else none:=by
    unfold numberOf
    rw [hF]
    rfl
   have HNum:=A0_ hNum;clear hNum hF HF HI hp
   generalize digitsOf s=D at HNum hrun ⊢
   by_cases hsg:D.size<s.size
   ·have hsg1:decide ((D.size:Int)<(s.size:Int))=true:=decide_eq_true (by omega)
    by_cases hem:D.toList=[]
    ·have hnone:numberOf s=none:=HNum.out.trans (if_neg (by simp [hem]))
     go_wp2_with fail
     refine (sure_no s _).mono ?_
     rintro e w2 ⟨rfl,h2'⟩
     obtain rfl:=h2'.symm
     exact ⟨rfl,by rw [hnone];exact ⟨s,rfl⟩,HB.out⟩
    ·have hN:=HNum.out
     simp only [if_pos hsg] at hN
     go_wp2_with fail
     have hit:strconv_Itoa.f (wrap64 (-n))=some ⟨(Lib.itoa (wrap64 (-n))).toArray⟩:=if_pos (wrap64_bounds (-n))
     refine (strconv_Itoa.calls (wrap64 (-n)) _ _ hit (LD.below hLD HB.out)).mono ?_
     rintro e w2 ⟨rfl,hb⟩
     have HB2:=A0_ (below_step HB.out hb)
     clear hb
     go_wp2_with fail
     cases hq:(!D.toList.isEmpty && Lib.itoa (wrap64 (-n)) == s.toList) with
     |true=>
      rw [hq,if_pos rfl] at hN
      refine (sure_yes s _).mono ?_
      rintro e w3 ⟨rfl,h3'⟩
      obtain rfl:=h3'.symm
      go_wp2;go_ret
      exact ⟨by rw [hN];exact rfl,HB2.out⟩
     |false=>
      rw [hq,if_neg (by simp)] at hN
      refine (sure_no s _).mono ?_
      rintro e w3 ⟨rfl,h3'⟩
      obtain rfl:=h3'.symm
      exact ⟨rfl,by rw [hN];exact ⟨s,rfl⟩,HB2.out⟩
   ·have hsg1:decide ((D.size:Int)<(s.size:Int))=false:=decide_eq_false (by omega)
    by_cases hem:D.toList=[]
    ·have hnone:numberOf s=none:=HNum.out.trans (if_neg (by simp [hem]))
     go_wp2_with fail
     refine (sure_no s _).mono ?_
     rintro e w2 ⟨rfl,h2'⟩
     obtain rfl:=h2'.symm
     exact ⟨rfl,by rw [hnone];exact ⟨s,rfl⟩,HB.out⟩
    ·have hN:=HNum.out
     simp only [if_neg hsg] at hN
     go_wp2_with fail
     have hit:strconv_Itoa.f (n)=some ⟨(Lib.itoa (n)).toArray⟩:=if_pos (hnb)
     refine (strconv_Itoa.calls (n) _ _ hit (LD.below hLD HB.out)).mono ?_
     rintro e w2 ⟨rfl,hb⟩
     have HB2:=A0_ (below_step HB.out hb)
     clear hb
     go_wp2_with fail
     cases hq:(!D.toList.isEmpty && Lib.itoa (n) == s.toList) with
     |true=>
      rw [hq,if_pos rfl] at hN
      refine (sure_yes s _).mono ?_
      rintro e w3 ⟨rfl,h3'⟩
      obtain rfl:=h3'.symm
      go_wp2;go_ret
      exact ⟨by rw [hN];exact rfl,HB2.out⟩
     |false=>
      rw [hq,if_neg (by simp)] at hN
      refine (sure_no s _).mono ?_
      rintro e w3 ⟨rfl,h3'⟩
      obtain rfl:=h3'.symm
      exact ⟨rfl,by rw [hN];exact ⟨s,rfl⟩,HB2.out⟩
end Go.Proofs.YtjahbgldccjbfaaGreatDoor.PSky
end
section
namespace Go.Proofs.YtjahbgldccjbfaaGreatDoor.PSky
open Go.RowKit Go.Shelf Go.Proofs.YtjahbgldccjbfaaGreatDoorW.PrintWords Go.Proofs.YtjahbgldccjbfaaGreatDoorW.PrintLast Go.Proofs.YtjahbgldccjbfaaGreatDoorW.PrintMore
theorem reps_strings (w:World) (base:Nat) (ok:Nat→Prop):∀ xs:List ByteArray,Reps (Kd.string.M w base ok) 1 xs (xs.map Value.string)
 |[]=>Reps.none _ _
 |_ :: xs=>Reps.one rfl (reps_strings w base ok xs)
def strings_Split.f (s sep:ByteArray):Option (List ByteArray):=if s.size<4294967281∧1≤sep.size then some (Lib.splitB sep 0 (Lib.countB s sep) s) else none
theorem strings_Split.calls (s sep:ByteArray) (r:List ByteArray) (w:World) (h:strings_Split.f s sep=some r) (hLD:LD w):
  Calls Tryz.prog 114 #[.string s,.string sep] w fun e w'=>∃ v0_:Value,e=.returned (v0_)∧Kd.R Kd.string 9 w' w.heap.size (fun _=>True) v0_ r∧Below w.heap.size w w':=by
 unfold strings_Split.f at h
 split at h
 ·rename_i hn
  obtain rfl:=Option.some.inj h
  obtain ⟨m,hm⟩:=hLD.2
  refine (Tryz.strings_Split s sep m w hn.1 hm hn.2).mono ?_
  rintro e w' ⟨rfl,rfl⟩
  have hlen:=Lib.splitB_all sep hn.2 0 _ s rfl
  have hle:=Lib.countB_le sep hn.2 s.size s (Nat.le_refl _)
  refine ⟨_,rfl,⟨fun _ _=>trivial,((Lib.splitB sep 0 (Lib.countB s sep) s).map Value.string),?_,?_⟩,below_alloc (Below.refl _ _) _⟩
  ·have h2:=World.ownsRow_lit (base:=w.heap.size) (e:=9) (size:=1) w ((Lib.splitB sep 0 (Lib.countB s sep) s).map Value.string).toArray (Lib.countB s sep+1) (Nat.le_refl _) (by simp only [maxLen];omega) (by simp [hlen])
   rw [hlen]
   have h3:(w.alloc (.cells ((Lib.splitB sep 0 (Lib.countB s sep) s).map Value.string).toArray 9)).ownsRow w.heap.size 9 1 (.slice (some ⟨w.heap.size,0,none⟩) (Lib.countB s sep+1) (Lib.countB s sep+1)) (Lib.countB s sep+1) ((Lib.splitB sep 0 (Lib.countB s sep) s).map Value.string):=by simpa using h2
   exact h3
  ·exact reps_strings _ _ _ _
 ·cases h
end Go.Proofs.YtjahbgldccjbfaaGreatDoor.PSky
end
section
namespace Go.Proofs.YtjahbgldccjbfaaGreatDoor.PSky
open Go.RowKit Go.Proofs.YtjahbgldccjbfaaGreatDoorW.PrintWords Go.Proofs.YtjahbgldccjbfaaGreatDoorW.PrintLast Go.Proofs.YtjahbgldccjbfaaGreatDoorW.PrintMore
def wordsOf (s:ByteArray):List ByteArray:=Lib.splitB ⟨#[32]⟩ 0 (Lib.countB s ⟨#[32]⟩) s
def numsOf:List ByteArray→Option (List Int)
 |[]=>some []
 |w :: t=>(numberOf w).bind fun n=>(numsOf t).map (n :: ·)
def numbersOf (s name:ByteArray) (least:Int):Option (List Int):=
 if (rdOf ByteArray.empty (wordsOf s) 0).toList=name.toList∧least<((wordsOf s).length:Int) then numsOf ((wordsOf s).drop 1) else none
def NumsEnds (o:Option (List Int)) (w:World) (e:Ending) (w':World):Prop:=
 match o with
 |some r=>∃ v:Value,e=.returned v∧Kd.R (Kd.int .i64) 3 w' w.heap.size (fun _=>True) v r
 |none=>GaveUp e
theorem piece_le (sep:ByteArray):∀ (k:Nat) (s x:ByteArray),x∈Lib.splitB sep 0 k s→x.size≤s.size
 |0,s,x,h=>by
  rw [Lib.splitB_zero,List.mem_singleton] at h
  rw [h]
  exact Nat.le_refl _
 |k+1,s,x,h=>by
  unfold Lib.splitB at h
  split at h
  ·rw [List.mem_singleton] at h
   rw [h]
   exact Nat.le_refl _
  ·rw [List.mem_cons] at h
   rcases h with rfl|h
   ·simp [ByteArray.size_extract]
    omega
   ·have:=piece_le sep k _ x h
    simp [ByteArray.size_extract] at this
    omega
theorem words_length (s:ByteArray):(wordsOf s).length=Lib.countB s ⟨#[32]⟩+1:=Lib.splitB_all ⟨#[32]⟩ (by decide) 0 _ s rfl
theorem nums_snoc (t:List ByteArray) (r:List Int) (h:numsOf t=some r):r.length=t.length:=by
 induction t generalizing r with
 |nil=>simp [numsOf] at h;subst h;rfl
 |cons w t ih=>
  simp only [numsOf,Option.bind_eq_some_iff,Option.map_eq_some_iff] at h
  obtain ⟨n,-,q,hq,rfl⟩:=h
  simp [ih q hq]
attribute [local irreducible] wordsOf numberOf
set_option maxRecDepth 100000 in
set_option maxHeartbeats 1600000 in
theorem numbers_ends (s name:ByteArray) (least:Int) (hs:s.size≤100000) (w:World) (hLD:LD w):
  Calls Tryz.prog 115 #[.string s,.string name,.int .i64 least] w fun e w'=>NumsEnds (numbersOf s name least) w e w'∧Below w.heap.size w w':=by
 have HLD:=A0_ hLD;clear hLD
 go_enter Tryz.func115,Tryz.ntmps115
 go_wp2_with fail
 refine (strings_Split.calls s ⟨#[32]⟩ (wordsOf s) _ (by unfold strings_Split.f wordsOf;rw [if_pos ⟨by omega,by decide⟩]) HLD.out).mono ?_
 rintro e w1 ⟨v,rfl,hv,hb⟩
 have HV:=A0_ hv;have HB:=A0_ hb
 have hwl:=words_length s
 have hbig:=Lib.countB_le ⟨#[32]⟩ (by decide) s.size s (Nat.le_refl _)
 obtain ⟨A,c,rfl,hlc,hC⟩:=Kd.R_reads hv
 obtain ⟨ad,rfl,x0⟩:=Kd.at_string hC 0 (by omega) (by omega)
 rw [show ((0:Int)).toNat=0 from rfl,Addr.add_zero'] at x0
 have HC:=A0_ hC
 have hw1:1≤(wordsOf s).length:=by omega
 have hw2:(wordsOf s).length≤100001:=by omega
 clear hv hb hC hwl hbig
 have i0:(0:Int)<((wordsOf s).length:Int):=by omega
 by_cases hq:(rdOf ByteArray.empty (wordsOf s) 0).toList=name.toList
 ·by_cases hl:least<((wordsOf s).length:Int)
  ·have h1:decide (least<((wordsOf s).length:Int))=true:=decide_eq_true hl
   have hN:numbersOf s name least=numsOf ((wordsOf s).drop 1):=if_pos ⟨hq,hl⟩
   go_wp2_with fail
   refine (sure_yes s _).mono ?_
   rintro e w2 ⟨rfl,h2'⟩
   obtain rfl:=h2'.symm
   obtain ⟨i0_,hi0_,_,hsz0_,_⟩:=info_parts info9
   have hcut:=cut_from (P:=Tryz.prog) 103 9 .i64 Tryz.underlying103 hi0_ 1 hsz0_ (some ad) (wordsOf s).length c 1 (by omega) (by omega)
   have hr:=Kd.C_drop (m:=(1:Int).toNat) (c:=c) HC.out (by omega) hlc
   have hlen:((wordsOf s).drop 1).length=(wordsOf s).length - (1:Int).toNat:=by simp
   obtain ⟨A1,hA1⟩:∃ A1,A1=(if c=(1:Int).toNat then (some ad) else (some ad:Option Addr).map (·.add ((1:Int).toNat*1))):=⟨_,rfl⟩
   rw [show (wordsOf s).drop (1:Int).toNat=(wordsOf s).drop 1 from rfl] at hr
   replace hr:Kd.C Kd.string w1 A1 ((wordsOf s).drop 1).length ((wordsOf s).drop 1):=by rw [hA1];exact hr
   rw [← hlen,← hA1] at hcut
   have hpl:∀ x∈(wordsOf s).drop 1,x.size≤s.size:=fun x hx=>by
    unfold wordsOf at hx
    exact piece_le _ _ _ _ (List.mem_of_mem_drop hx)
   generalize hT:(wordsOf s).drop 1=T at hN hr hlen hcut hpl
   generalize c - (1:Int).toNat=c1 at hcut
   have HR:=A0_ hr;have HPL:=A0_ hpl
   have hTl:T.length≤100000:=by omega
   clear hr hpl hA1 HC HV hT hsz0_ hi0_ x0 hq hl;go_wp2
   go_loopg [8,30] (T.length+1) (fun kq v8 v30 w'=>∃ (n:Nat) (ds:List Int),v30=.int .i64 (n:Int)∧kq+n=T.length+1∧n≤T.length∧ds.length=n∧Aside0 (numsOf T=(numsOf (T.drop n)).map (ds ++ ·))∧Aside0 (Kd.R (Kd.int .i64) 3 w' w1.heap.size (fun _=>True) v8 ds)∧Aside0 (Below w1.heap.size w1 w'))
   case atStart=>exact ⟨0,[],rfl,rfl,Nat.zero_le _,rfl,⟨by simp⟩,⟨Kd.R_nil _ _ _ _ _⟩,⟨Below.refl _ _⟩⟩
   case round=>
    obtain ⟨n,ds,rfl,hkn,hn,hds,HF,HL,HB1⟩:=hrel
    by_cases hi:n<T.length
    ·have c0:decide ((n:Int)<(T.length:Int))=true:=decide_eq_true (by omega)
     obtain ⟨ad2,e,hx⟩:=Kd.at_string HR.out (n:Int) (by omega) (by omega)
     cases e
     have hx2:=(HB1.out.cell (World.block_lt_of_cell? w1 _ hx)).trans hx
     rw [Int.toNat_natCast] at hx2
     have i1:(0:Int)≤(n:Int):=by omega
     have i2:(n:Int)<(T.length:Int):=by omega
     have hxn:rdOf ByteArray.empty T (n:Int)=T[n]:=by unfold rdOf;rw [Int.toNat_natCast];simp [hi]
     rw [hxn] at hx2
     have hsz:=HPL.out T[n] (List.getElem_mem hi)
     have hdrop:T.drop n=T[n] :: T.drop (n+1):=by rw [List.drop_eq_getElem_cons hi]
     generalize T[n]=y at hx2 hsz hdrop
     go_wp2_with fail
     refine (number_ends y (by omega) _ (LD.below HLD.out (below_step HB.out HB1.out))).mono ?_
     rintro e w2 ⟨he,hb⟩
     have HL2:=A0_ (Kd.R_below HL.out hb)
     have HB12:=A0_ (below_step HB1.out hb)
     have hF:=HF.out
     rw [hdrop] at hF
     simp only [numsOf] at hF
     clear hb HL HB1 HF hx hx2
     cases hy:numberOf y with
     |none=>
      rw [hy] at he hF
      obtain ⟨z,rfl⟩:=he
      exact ⟨rfl,by rw [hN,hF];exact ⟨z,rfl⟩,below_step HB.out HB12.out⟩
     |some q=>
      rw [hy] at he hF
      obtain rfl:=he
      go_wp2_with (first|((with_reducible refine gate_builtin (b:=.append) (xs:=#[.tmp 36,.tmp 38]) rfl ?_);at_builtin;refine Kd.R_append (Kd.int .i64) (w0:=w1) w1.heap.size rfl (.tmp 36) (.tmp 38) 40 3 (.int .i64 0) 8 rfl Tryz.underlying40 info3 rfl (by decide) (by omega) u8 ds q [.int .i64 q] (fun _=>True) (fun _=>False) rfl rfl ?aP (fun _ hk=>hk.elim) ?aF ?aO ?aB ?aS ?aL ?_;(case aP=>exact rfl);(case aB=>exact HB12.out);(case aF=>exact (fun _ _=>trivial));(case aO=>exact HL2.out);(case aS=>exact HB12.out.size);(case aL=>omega);intro v1 w9 ho hb hg hat))
      have HL3:=A0_ ho;have HB3:=A0_ hb
      go_roundg (T.length - n)
      case measure=>omega
      case rel=>exact ⟨n+1,ds ++ [q],by simp,by omega,by omega,by simp [hds],⟨by rw [hF];cases numsOf (T.drop (n+1)) <;> simp⟩,HL3,HB3⟩
    ·have c0:decide ((n:Int)<(T.length:Int))=false:=decide_eq_false (by omega)
     have hnl:n=T.length:=by omega
     subst hnl
     have hF:numsOf T=some ds:=HF.out.trans (by simp [numsOf])
     go_wp2;go_ret
     exact ⟨by rw [hN,hF];exact ⟨_,rfl,Kd.R_lower HL.out HB.out.size⟩,below_step HB.out HB1.out⟩
  ·have h1:decide (least<((wordsOf s).length:Int))=false:=decide_eq_false hl
   have hN:numbersOf s name least=none:=if_neg (fun h=>hl h.2)
   go_wp2_with fail
   refine (sure_no s _).mono ?_
   rintro e w2 ⟨rfl,h2'⟩
   obtain rfl:=h2'.symm
   exact ⟨rfl,by rw [hN];exact ⟨s,rfl⟩,HB.out⟩
 ·have hN:numbersOf s name least=none:=if_neg (fun h=>hq h.1)
  go_wp2_with fail
  refine (sure_no s _).mono ?_
  rintro e w2 ⟨rfl,h2'⟩
  obtain rfl:=h2'.symm
  exact ⟨rfl,by rw [hN];exact ⟨s,rfl⟩,HB.out⟩
end Go.Proofs.YtjahbgldccjbfaaGreatDoor.PSky
end
section
namespace Go.Proofs.YtjahbgldccjbfaaGreatDoor.PSky
open Go.RowKit Go.Proofs.YtjahbgldccjbfaaGreatDoorW.PrintWords Go.Proofs.YtjahbgldccjbfaaGreatDoorW.PrintLast Go.Proofs.YtjahbgldccjbfaaGreatDoorW.PrintMore
set_option linter.unusedVariables false
set_option linter.unusedSimpArgs false
def wSky:ByteArray:=⟨#[115,107,121]⟩
def wBody:ByteArray:=⟨#[98,111,100,121]⟩
def wNode:ByteArray:=⟨#[110,111,100,101]⟩
def linesOf (s:ByteArray):List ByteArray:=Lib.splitB ⟨#[10]⟩ 0 (Lib.countB s ⟨#[10]⟩) s
def bodyOf (x:List Int):S74:=⟨⟨rd x 0,rd x 1⟩,rd x 2,x.drop 3⟩
def bodiesOf:List ByteArray→Option (List S74)
 |[]=>some []
 |l :: t=>(numbersOf l wBody 3).bind fun x=>(bodiesOf t).map (bodyOf x :: ·)
def headOf (s:ByteArray):Option Int:=
 (numbersOf (rdOf ByteArray.empty (linesOf s) 0) wSky 1).bind fun x=>if 0≤rd x 0∧((linesOf s).length:Int)=wrap64 (rd x 0+4) then some (rd x 0) else none
def preOf (s:ByteArray):Option (List S74 × Int × Int × Int):=
 (headOf s).bind fun n=>(bodiesOf (((linesOf s).take (n+1).toNat).drop 1)).bind fun bs=>(numbersOf (rdOf ByteArray.empty (linesOf s) (n+1)) wNode 3).bind fun x=>some (bs,rd x 0,rd x 1,rd x 2)
def ParsedEnds (k:Nat) (s:ByteArray) (w:World) (e:Ending) (w':World):Prop:=
 match preOf s with
 |none=>GaveUp e
 |some o=>∀ t,sky_text.f k o.1 o.2.1 o.2.2.1 o.2.2.2=some t→if t.toList=s.toList then (∃ v:Value,e=.returned (.agg #[v,.int .i64 o.2.1,.int .i64 o.2.2.1,.int .i64 o.2.2.2])∧Kd.V k74 74 w' w.heap.size (fun k_=>w.heap.size≤k_) v o.1) else GaveUp e
theorem lines_length (s:ByteArray):(linesOf s).length=Lib.countB s ⟨#[10]⟩+1:=Lib.splitB_all ⟨#[10]⟩ (by decide) 0 _ s rfl
theorem numbers_length {s name:ByteArray} {m:Int} {r:List Int} (h:numbersOf s name m=some r):m≤(r.length:Int):=by
 unfold numbersOf at h
 split at h
 ·rename_i hq
  have h1:=nums_snoc _ _ h
  have h2:=words_length s
  simp at h1
  omega
 ·cases h
theorem numFrom_bounds {s:ByteArray}:∀ {k pos:Nat} {n r:Int},numFrom s k pos n=some r → -9223372036854775808≤n∧n≤9223372036854775807 → -9223372036854775808≤r∧r≤9223372036854775807
 |0,_,_,_,h,_=>by simp [numFrom] at h
 |k+1,pos,n,r,h,hb=>by
  simp only [numFrom] at h
  split at h
  ·split at h
   ·exact numFrom_bounds h (wrap64_bounds _)
   ·cases h
  ·obtain rfl:=Option.some.inj h
   exact hb
theorem numberOf_bounds {w:ByteArray} {r:Int} (h:numberOf w=some r):-9223372036854775808≤r∧r≤9223372036854775807:=by
 unfold numberOf at h
 obtain ⟨n,h1,h2⟩:=Option.bind_eq_some_iff.mp h
 have hb:=numFrom_bounds h1 (by decide)
 by_cases hd:(digitsOf w).size<w.size
 ·simp only [if_pos hd] at h2
  split at h2
  ·obtain rfl:=Option.some.inj h2
   exact wrap64_bounds _
  ·cases h2
 ·simp only [if_neg hd] at h2
  split at h2
  ·obtain rfl:=Option.some.inj h2
   exact hb
  ·cases h2
theorem nums_bounds:∀ {t:List ByteArray} {r:List Int},numsOf t=some r→∀ i,-9223372036854775808≤rd r i∧rd r i≤9223372036854775807
 |[],r,h,i=>by
  simp [numsOf] at h
  subst h
  simp [rd]
 |w :: t,r,h,i=>by
  simp only [numsOf,Option.bind_eq_some_iff,Option.map_eq_some_iff] at h
  obtain ⟨n,h1,q,h2,rfl⟩:=h
  unfold rd
  cases i.toNat with
  |zero=>exact numberOf_bounds h1
  |succ j=>
   have:=nums_bounds h2 (j:Int)
   unfold rd at this
   simpa using this
theorem numbers_bounds {s name:ByteArray} {m:Int} {r:List Int} (h:numbersOf s name m=some r) (i:Int):-9223372036854775808≤rd r i∧rd r i≤9223372036854775807:=by
 unfold numbersOf at h
 split at h
 ·exact nums_bounds h i
 ·cases h
def T9:Bool × List (List Nat × List Nat):=(true,[([],[]),([0],[0]),([],[]),([2],[2]),([3],[3]),([],[]),([5],[5]),([6],[6]),([4,7],[4,7]),([],[]),([9],[9]),([10],[10]),([],[]),([12],[12]),([8,11,13],[8,11,13]),([14],[14]),([1,15],[1,15]),([0,1,2,3,4,5,6,7,8,9,10,11,12,13,14,15,16],[]),([17,16,16,0,1,2,3,4,5,6,7,8,9,10,11,12,13,14,15,16],[16,17])])
def B9:List Nat:=[0,1,0,4,12,0,32,96,252,0,512,1536,0,4096,16380,32764,65535,131071,262143]
theorem tab9:rtab .any (opsOf Tryz.f61 9)=T9:=by kernel_rfl
theorem bits9:waitsOk T9.2 B9=true:=by kernel_rfl
structure Loop (w w3:World) (g1:Nat) (T:List ByteArray) (n:Nat) (ds:List S74) (v:Value) (w':World):Prop where
 row:Kd.N k74 74 w' w.heap.size (fun k_=>w3.heap.size≤k_) v ds
 box:w'.heap[g1]?=some (.cells #[v,.int .i64 0,.int .i64 0,.int .i64 0] 29 (0,0))
 keep:∀ k,k<w3.heap.size→k≠g1→w'.heap[k]?=w3.heap[k]?
 below:Below w.heap.size w w'
 size:w3.heap.size≤w'.heap.size
 len:ds.length=n
 rest:bodiesOf T=(bodiesOf (T.drop n)).map (ds ++ ·)
attribute [local irreducible] linesOf numbersOf preOf
set_option maxRecDepth 100000 in
set_option maxHeartbeats 3200000 in
theorem parsed_ends (k:Nat) (s:ByteArray) (hs:s.size≤100000) (w:World) (hLD:LD w) (ht:∀ o,preOf s=some o→(sky_text.f k o.1 o.2.1 o.2.2.1 o.2.2.2).isSome=true):
  Calls Tryz.prog 61 #[.string s] w fun e w'=>ParsedEnds k s w e w'∧Below w.heap.size w w':=by
 have HLD:=A0_ hLD;have HT:=A0_ ht;clear hLD ht
 go_enter Tryz.func61,Tryz.ntmps61
 go_wp2_with fail
 have B0:=blk_new w (.cells #[.slice none 0 0,.int .i64 0,.int .i64 0,.int .i64 0] 29)
 have hb0:=below_alloc (Below.refl w.heap.size w) (.cells #[.slice none 0 0,.int .i64 0,.int .i64 0,.int .i64 0] 29)
 refine (strings_Split.calls s ⟨#[10]⟩ (linesOf s) _ (by unfold strings_Split.f linesOf;rw [if_pos ⟨by omega,by decide⟩]) (LD.below HLD.out hb0)).mono ?_
 rintro e w1 ⟨v,rfl,hv,hb⟩
 have B0a:=A0_ (blk_below B0 hb)
 have HB:=A0_ (below_step hb0 hb)
 have hwl:=lines_length s
 have hbig:=Lib.countB_le ⟨#[10]⟩ (by decide) s.size s (Nat.le_refl _)
 obtain ⟨A,c,rfl,hlc,hC⟩:=Kd.R_reads hv
 obtain ⟨ad,rfl,x0⟩:=Kd.at_string hC 0 (by omega) (by omega)
 rw [show ((0:Int)).toNat=0 from rfl,Addr.add_zero'] at x0
 have HC:=A0_ hC
 have hw1:1≤(linesOf s).length:=by omega
 have hw2:(linesOf s).length≤100001:=by omega
 have hpl:∀ x∈linesOf s,x.size≤s.size:=fun x hx=>by
  unfold linesOf at hx
  exact piece_le _ _ _ _ hx
 have hrl:∀ i:Int,(rdOf ByteArray.empty (linesOf s) i).size≤100000:=fun i=>by
  unfold rdOf
  rw [List.getD_eq_getElem?_getD]
  cases hq:(linesOf s)[i.toNat]? with
  |none=>exact Nat.zero_le _
  |some x=>exact Nat.le_trans (hpl x (List.mem_of_getElem? hq)) hs
 have HRL:=A0_ hrl;have HPL:=A0_ hpl;clear hv hb hb0 hC hwl hbig B0 hrl hpl
 have i0:(0:Int)<((linesOf s).length:Int):=by omega
 go_wp2_with fail
 refine (numbers_ends _ wSky 1 (HRL.out 0) _ (LD.below HLD.out HB.out)).mono ?_
 rintro e w2 ⟨he,hb⟩
 have B0b:=A0_ (blk_below B0a.out hb)
 have HB2:=A0_ (below_step HB.out hb)
 have HC2:=A0_ (Kd.C_below HC.out hb)
 clear hb HB HC x0 B0a
 cases hh:numbersOf (rdOf ByteArray.empty (linesOf s) 0) wSky 1 with
 |none=>
  rw [hh] at he
  obtain ⟨z,rfl⟩:=he
  have hp:preOf s=none:=by unfold preOf headOf;rw [hh];rfl
  exact ⟨rfl,by unfold ParsedEnds;rw [hp];exact ⟨z,rfl⟩,HB2.out⟩
 |some xs=>
 rw [hh] at he
 obtain ⟨v,rfl,hv⟩:=he
 have hxl:=numbers_length hh
 obtain ⟨A1,c1,rfl,-,hC1⟩:=Kd.R_reads hv
 obtain ⟨ad1,rfl,x1⟩:=Kd.at_int hC1 0 (by omega) (by omega)
 rw [show ((0:Int)).toNat=0 from rfl,Addr.add_zero'] at x1
 have i1:(0:Int)<(xs.length:Int):=by omega
 clear hv hC1 hxl;have HH:=A0_ hh;clear hh
 have hmb:=numbers_bounds HH.out 0
 generalize hm:rd xs 0=m at x1 hmb
 have HMB:=A0_ hmb;clear hmb
 by_cases hm0:0≤m∧((linesOf s).length:Int)=wrap64 (m+4)
 ·have hP0:headOf s=some m:=by
   unfold headOf
   rw [HH.out,Option.bind_some,if_pos (by rw [hm];exact hm0),hm]
  have hm4:((linesOf s).length:Int)=m+4:=by
   have h1:=hm0.2
   have h2:=HMB.out
   unfold wrap64 at h1
   omega
  replace hm0:0≤m∧((linesOf s).length:Int)=m+4:=⟨hm0.1,hm4⟩
  clear hm4
  have c0:decide (0≤m)=true:=decide_eq_true hm0.1
  have c1:(((linesOf s).length:Int) == wrap64 (m+4))=true:=by
   have hw:wrap64 (m+4)=m+4:=by unfold wrap64;omega
   rw [hw]
   exact beq_iff_eq.mpr hm0.2
  have hP:preOf s=(bodiesOf (((linesOf s).take (m+1).toNat).drop 1)).bind fun bs=>(numbersOf (rdOf ByteArray.empty (linesOf s) (m+1)) wNode 3).bind fun x=>some (bs,rd x 0,rd x 1,rd x 2):=by
   unfold preOf
   rw [hP0,Option.bind_some]
  go_wp2_with fail
  refine (sure_yes s _).mono ?_
  rintro e w3' ⟨rfl,h3'⟩
  obtain rfl:=h3'.symm
  clear h3' x1 hm HH c0 c1 hP0
  obtain ⟨i0_,hi0_,_,hsz0_,_⟩:=info_parts info9
  have hwm:wrap64 (m+1)=m+1:=by unfold wrap64;omega
  have hcut:=cut_mid (P:=Tryz.prog) 103 9 .i64 .i64 Tryz.underlying103 hi0_ 1 hsz0_ (some ad) (linesOf s).length c 1 (m+1) (by omega) (by omega) (by omega) hlc
  have hr:=Kd.C_mid (lo:=(1:Int).toNat) (hi:=(m+1).toNat) (c:=c) HC2.out (by omega) (by omega) hlc
  have hlen:(((linesOf s).take (m+1).toNat).drop 1).length=(m+1).toNat - (1:Int).toNat:=by rw [List.length_drop,List.length_take];omega
  obtain ⟨A2,hA2⟩:∃ A2,A2=(if c=(1:Int).toNat then (some ad) else (some ad:Option Addr).map (·.add ((1:Int).toNat*1))):=⟨_,rfl⟩
  replace hr:Kd.C Kd.string w2 A2 (((linesOf s).take (m+1).toNat).drop 1).length (((linesOf s).take (m+1).toNat).drop 1):=by rw [hA2];exact hr
  rw [← hlen,← hA2] at hcut
  have hpl:∀ x∈((linesOf s).take (m+1).toNat).drop 1,x.size≤s.size:=fun x hx=>HPL.out x (List.mem_of_mem_take (List.mem_of_mem_drop hx))
  have hTm:(((linesOf s).take (m+1).toNat).drop 1).length=m.toNat:=by rw [hlen];omega
  generalize ((linesOf s).take (m+1).toNat).drop 1=T at hP hr hlen hcut hpl hTm
  generalize c - (1:Int).toNat=c2 at hcut
  have HR:=A0_ hr;have HPT:=A0_ hpl
  have hTl:T.length≤100000:=by omega
  have HLM:=A0_ (show (linesOf s).length=m.toNat+4 by omega)
  have HTM:=A0_ hTm
  have HM0:=A0_ hm0.1
  clear hr hpl hA2 hlen hsz0_ hi0_ HPL hTm hm0;go_wp2
  rw [hwm]
  have h30:Loop w (w2.alloc (.cells #[.slice none 0 0,.int .i64 0,.int .i64 0,.int .i64 0] 29)) w2.heap.size T 0 [] (.slice none 0 0) (w2.alloc (.cells #[.slice none 0 0,.int .i64 0,.int .i64 0,.int .i64 0] 29)):=
   ⟨Kd.N_nil _ _ _ _ _,blk_new w2 _,fun _ _ _=>rfl,below_alloc HB2.out _,Nat.le_refl _,rfl,by simp⟩
  obtain ⟨w3,hw3⟩:∃ w3,w3=w2.alloc (.cells #[.slice none 0 0,.int .i64 0,.int .i64 0,.int .i64 0] 29):=⟨_,rfl⟩
  have hs3:w3.heap.size=w2.heap.size+1:=by rw [hw3];exact World.size_alloc _ _
  have hold:∀ k,k<w2.heap.size→w3.heap[k]?=w2.heap[k]?:=fun k hk=>by rw [hw3];exact (below_alloc (Below.refl w2.heap.size w2) _).block k hk
  rw [← hw3] at h30 ⊢
  have H30:=A0_ h30;have HOLD:=A0_ hold
  have B0c:=A0_ ((hold _ (blk_lt B0b.out)).trans B0b.out)
  have hg01:w.heap.size<w2.heap.size:=blk_lt B0b.out
  clear h30 hold hw3
  generalize hg1:w2.heap.size=g1 at H30 hs3 hg01 HOLD ⊢
  go_loopg [34] (T.length+1) (fun kq v34 w'=>∃ (n:Nat) (ds:List S74) (v:Value),v34=.int .i64 (n:Int)∧kq+n=T.length+1∧n≤T.length∧Aside0 (Loop w w3 g1 T n ds v w'))
  case atStart=>exact ⟨0,[],_,rfl,rfl,Nat.zero_le _,H30⟩
  case round=>
   clear H30
   obtain ⟨n,ds,v,rfl,hkn,hn,HL⟩:=hrel
   by_cases hi:n<T.length
   ·have c0:decide ((n:Int)<(T.length:Int))=true:=decide_eq_true (by omega)
    obtain ⟨ad2,e,hx⟩:=Kd.at_string HR.out (n:Int) (by omega) (by omega)
    cases e
    have hbl:=World.block_lt_of_cell? w2 _ hx
    have hx2:=(World.cell?_of_block ((HL.out.keep _ (by omega) (by omega)).trans (HOLD.out _ (by omega)))).trans hx
    rw [Int.toNat_natCast] at hx2
    have i1:(0:Int)≤(n:Int):=by omega
    have i2:(n:Int)<(T.length:Int):=by omega
    have hxn:rdOf ByteArray.empty T (n:Int)=T[n]:=by unfold rdOf;rw [Int.toNat_natCast];simp [hi]
    rw [hxn] at hx2
    have hsz:=HPT.out T[n] (List.getElem_mem hi)
    have hdrop:T.drop n=T[n] :: T.drop (n+1):=by rw [List.drop_eq_getElem_cons hi]
    generalize T[n]=y at hx2 hsz hdrop
    go_wp2_with fail
    refine (numbers_ends y wBody 3 (by omega) _ (LD.below HLD.out HL.out.below)).mono ?_
    rintro e w4 ⟨he,hb⟩
    have hF:=HL.out.rest
    rw [hdrop] at hF
    simp only [bodiesOf] at hF
    cases hy:numbersOf y wBody 3 with
    |none=>
     rw [hy] at he hF
     obtain ⟨z,rfl⟩:=he
     have hp:preOf s=none:=by rw [hP,hF];rfl
     exact ⟨rfl,by unfold ParsedEnds;rw [hp];exact ⟨z,rfl⟩,below_step HL.out.below hb⟩
    |some x=>
     rw [hy] at he hF
     obtain ⟨vx,rfl,hvx⟩:=he
     have hxl:=numbers_length hy
     have hsz4:=hb.size
     have hsz3:=HL.out.size
     have HN:=A0_ (Kd.N_below HL.out.row hb)
     have HBX:=A0_ (blk_below HL.out.box hb)
     have HBL:=A0_ (below_step HL.out.below hb)
     have HK:=A0_ (fun k (hk:k<w3.heap.size) (hne:k≠g1)=>(hb.block k (Nat.lt_of_lt_of_le hk hsz3)).trans (HL.out.keep k hk hne))
     have hvl:=Kd.N_lt HL.out.row
     have HVL:=A0_ (fun k (hk:v.ownBlock=some k)=>HL.out.row.1 k hk)
     have hds:=HL.out.len
     have hFx:=Kd.R_mono (Kd.R_bound hvx) (ok':=fun k_=>w3.heap.size≤k_∧some k_≠v.ownBlock) (fun k hk=>⟨by omega,fun he=>by have:=hvl k he.symm;omega⟩)
     obtain ⟨A4,c4,rfl,hl4,hC4⟩:=Kd.R_reads hvx
     have hF4:=Kd.R_F hFx
     obtain ⟨ad4,rfl,y0⟩:=Kd.at_int hC4 0 (by omega) (by omega)
     obtain ⟨ad4',e',y1⟩:=Kd.at_int hC4 1 (by omega) (by omega)
     obtain rfl:ad4=ad4':=by injection e'
     obtain ⟨ad4',e',y2⟩:=Kd.at_int hC4 2 (by omega) (by omega)
     obtain rfl:ad4=ad4':=by injection e'
     rw [show ((0:Int)).toNat=0 from rfl,Addr.add_zero'] at y0
     simp only [show (1:Int).toNat=1 from rfl,show (2:Int).toNat=2 from rfl,Nat.reduceEqDiff,Go.Addr.add,↓reduceIte] at y1 y2
     have q0:(0:Int)<(x.length:Int):=by omega
     have q1:(1:Int)<(x.length:Int):=by omega
     have q2:(2:Int)<(x.length:Int):=by omega
     have q3:(3:Int)≤(x.length:Int):=by omega
     have n0:0<x.length:=by omega
     have n1:1<x.length:=by omega
     have n2:2<x.length:=by omega
     obtain ⟨i3_,hi3_,_,hsz3_,_⟩:=info_parts info3
     have hcut3:=cut_from (P:=Tryz.prog) 40 3 .i64 Tryz.underlying40 hi3_ 1 hsz3_ (some ad4) x.length c4 3 (by omega) q3
     have hr3:=Kd.F_cut (m:=(3:Int).toNat) (c:=c4) hF4 (by omega) hl4
     obtain ⟨A5,hA5⟩:∃ A1,A1=(if c4=(3:Int).toNat then (some ad4) else ((some ad4):Option Addr).map (·.add ((3:Int).toNat*1))):=⟨_,rfl⟩
     obtain ⟨c5,hc5⟩:∃ c1,c1=c4 - (3:Int).toNat:=⟨_,rfl⟩
     obtain ⟨xd,hxd⟩:∃ xd,xd=x.drop 3:=⟨_,rfl⟩
     have hxdl:xd.length=x.length - (3:Int).toNat:=by rw [hxd,List.length_drop];rfl
     rw [show x.drop (3:Int).toNat=xd from hxd.symm] at hr3
     replace hr3:Kd.F (Kd.int .i64) w4 (fun k_=>w3.heap.size≤k_∧some k_≠v.ownBlock) A5 xd.length xd:=by rw [hA5];exact hr3
     rw [← hxdl,← hA5,← hc5] at hcut3
     have hl5:xd.length≤c5:=by rw [hxdl,hc5];exact Nat.sub_le_sub_right hl4 _
     have HF5:=A0_ hr3;have HXD:=A0_ hxd;have HFF:=A0_ hF;clear hr3 hA5 hc5 hxd hF4 hFx hvx hC4 hx hx2 hb HL hF hi3_ hsz3_ hvl hxdl
     go_wp2_with fail
     have HN2:=A0_ (Kd.N_drew HN.out)
     have HBX2:=A0_ (blk_drew HBX.out)
     have HBL2:=A0_ (below_drew1 HBL.out)
     have HK2:=A0_ (show ∀ k,k<w3.heap.size→k≠g1→w4.drew.heap[k]?=w3.heap[k]? from HK.out)
     have HF52:=A0_ (Kd.F_drew HF5.out)
     have z0:w4.drew.cell? ad4=some (.int .i64 (rd x 0)):=y0
     have z1:w4.drew.cell? ⟨ad4.block,ad4.off+1,none⟩=some (.int .i64 (rd x 1)):=y1
     have z2:w4.drew.cell? ⟨ad4.block,ad4.off+2,none⟩=some (.int .i64 (rd x 2)):=y2
     have hsz5:w3.heap.size≤w4.drew.heap.size:=Nat.le_trans hsz3 hsz4
     clear HN HBX HBL HK HF5 y0 y1 y2 hsz4 hsz3
     refine start_ (n:=19) (S:=fun w'=>w'.cell? ⟨g1,0,none⟩=some v∧w'.cell? ⟨g1,1,none⟩=some (.int .i64 0)∧w'.cell? ⟨g1,2,none⟩=some (.int .i64 0)∧w'.cell? ⟨g1,3,none⟩=some (.int .i64 0)∧w'.cell? ad4=some (.int .i64 (rd x 0))∧w'.cell? ⟨ad4.block,ad4.off+1,none⟩=some (.int .i64 (rd x 1))∧w'.cell? ⟨ad4.block,ad4.off+2,none⟩=some (.int .i64 (rd x 2))) (ds:=[16,18]) #[false,false,false,false,false,false,false,false,false,false,false,false,false,false,false,false,false,false,false] (by kernel_rfl) rfl rfl ⟨(blk_cell HBX2.out 0).trans rfl,(blk_cell HBX2.out 1).trans rfl,(blk_cell HBX2.out 2).trans rfl,(blk_cell HBX2.out 3).trans rfl,z0,z1,z2⟩ (fun hHeld=>?_)
     refine with_tabW tab9 bits9 (fun HT_ HW_=>?_)
     generalize w4.drew=w5 at HN2 HBX2 HBL2 HK2 HF52 z0 z1 z2 hsz5 hHeld ⊢
     refine pu_ (i:=0) (N:=some 40) ?_;refine pu_ (i:=2) (N:=some 42) ?_;refine pu_ (i:=3) (N:=some 43) ?_;refine pu_ (i:=5) (N:=some 45) ?_;refine pu_ (i:=6) (N:=some 46) ?_;refine pu_ (i:=9) (N:=some 49) ?_;refine pu_ (i:=10) (N:=some 50) ?_;refine pu_ (i:=12) (N:=some 52) ?_;refine pu_ (i:=13) (N:=some 53) ?_;refine ta_ (i:=1) (N:=some 41) ?_;refine ta_ (i:=4) (N:=some 44) ?_;refine ta_ (i:=7) (N:=some 47) ?_;refine pu_ (i:=8) (N:=some 48) ?_;refine ta_ (i:=11) (N:=some 51) ?_;refine pu_ (i:=14) (N:=some 54) ?_
     refine one_ (i:=15) (N:=some 55) #[true,true,true,true,true,true,true,true,true,true,true,true,true,true,true,true,false,false,false] rfl rfl (one_of HT_.out (by kernel_rfl)) (by decide) (fun K hK=>?_)
     refine value_ (w1:=?_) (v:=?_) (by rfl) rfl ?_ ?_
     rotate_left;rotate_left
     ·go_simp
      constructor
      ·rfl
      ·rfl
     refine hK.out _ _ ⟨(blk_cell (blk_alloc HBX2.out _) 0).trans rfl,(blk_cell (blk_alloc HBX2.out _) 1).trans rfl,(blk_cell (blk_alloc HBX2.out _) 2).trans rfl,(blk_cell (blk_alloc HBX2.out _) 3).trans rfl,(World.cell?_alloc_lt _ _ _ (World.block_lt_of_cell? _ _ z0)).trans z0,(World.cell?_alloc_lt _ _ _ (World.block_lt_of_cell? _ _ z1)).trans z1,(World.cell?_alloc_lt _ _ _ (World.block_lt_of_cell? _ _ z2)).trans z2⟩ (fun hHeld=>?_)
     clear hK K
     refine norm_ (a':=?_) ?_ ?_
     rotate_left
     ·show Act.put _ (some 55) _=_
      simp only [Act.put,List.setIfInBounds_toArray,List.set_cons_zero,List.set_cons_succ,i64_w,i32_w]
      rfl
     refine last_ (i:=16) (N:=some 56) #[true,true,true,true,true,true,true,true,true,true,true,true,true,true,true,true,true,false,false] rfl rfl (one_of HT_.out (by kernel_rfl)) (by decide) (fun K hK=>?_)
     refine Kd.N_append_step k74 (w0:=w) w.heap.size (by rfl) (.tmp 41) (.tmp 55) 23 74 (.agg #[(.int .i64 0),(.int .i64 0),(.int .i64 0),(.slice none 0 0)]) 48 rfl Tryz.underlying23 info74 rfl (by decide) (by omega) v ds (⟨⟨rd x 0,rd x 1⟩,rd x 2,xd⟩:S74) [.int .i64 (rd x 0),.int .i64 (rd x 1),.int .i64 (rd x 2),.slice A5 xd.length c5] (fun k_=>w3.heap.size≤k_) (fun k_=>w3.heap.size≤k_∧some k_≠v.ownBlock) rfl rfl ?aP (fun _ hk=>hk) ?aF ?aO ?aB ?aS ?aL ?_
     (case aP=>exact k74_mkF _ _ (⟨⟨rd x 0,rd x 1⟩,rd x 2,xd⟩:S74) hl5 HF52.out)
     (case aB=>exact HBL2.out)
     (case aF=>exact (fun k_ hk=>Nat.le_trans hsz5 hk))
     (case aO=>exact HN2.out)
     (case aS=>exact HBL2.out.size)
     (case aL=>omega)
     intro v1 w6 ho hb hg hat
     have hv6:=Kd.N_typed HN2.out
     have BX6:=A0_ (blk_grown HBX2.out hg (fun he=>by have:=HVL.out g1 he.symm;omega))
     have HK6:=A0_ (fun k (hk:k<w3.heap.size) (hne:k≠g1)=>(hg.block k (by omega) (fun he=>by have:=HVL.out k he.symm;omega)).trans (HK2.out k hk hne))
     have hsz6:=Nat.le_trans hsz5 hg.size
     have HB6:=A0_ hb
     obtain ⟨A6,c6,rfl⟩:=Kd.N_slice ho
     have hl6:(ds ++ [(⟨⟨rd x 0,rd x 1⟩,rd x 2,xd⟩:S74)]).length=n+1:=by simp [hds]
     rw [hl6] at ho
     have HN6:=A0_ ho;clear hl6;clear ho hb hg hat hv6 HN2 HBX2 HBL2 HK2 HF52 z0 z1 z2
     refine hK.out _ _ ?_
     clear hK K
     refine norm_ (a':=?_) ?_ ?_
     rotate_left
     ·show Act.put _ (some 56) _=_
      simp only [Act.put,List.setIfInBounds_toArray,List.set_cons_zero,List.set_cons_succ,i64_w,i32_w]
      rfl
     refine pu_ (i:=17) (N:=some 57) ?_
     refine last_ (i:=18) (N:=none) #[true,true,true,true,true,true,true,true,true,true,true,true,true,true,true,true,true,true,true] rfl rfl (one_of HT_.out (by kernel_rfl)) (by decide) (fun K hK=>?_)
     have hs34:w6.cell? ⟨g1,0,none⟩=some v:=(blk_cell BX6.out 0).trans rfl
     have hfs34:=blk_frozen BX6.out 0
     refine skip_ (w1:=?_) (by rfl) rfl ?_ ?_
     rotate_left
     ·go_simp
      rfl
     refine hK.out _ _ ?_
     clear hK K
     refine done_ (done_of HT_.out (by kernel_rfl)) ?_
     try go_wp2
     go_roundg (T.length - n)
     case measure=>omega
     case rel=>
      refine ⟨n+1,ds ++ [(⟨⟨rd x 0,rd x 1⟩,rd x 2,xd⟩:S74)],.slice A6 (n+1) c6,by simp,by omega,by omega,⟨?_⟩⟩
      exact ⟨Kd.N_far HN6.out (fun k hk=>by show k≠g1;omega) _,(blk_set BX6.out 0 _).trans rfl,fun k hk hne=>(Below.heap_setCell _ _ _ k hne).trans (HK6.out k hk hne),below_set HB6.out (Nat.le_of_lt hg01),by simpa using hsz6,by simp [hds],by rw [HFF.out];cases bodiesOf (T.drop (n+1)) <;> simp [bodyOf,HXD.out]⟩
   ·have c0:decide ((n:Int)<(T.length:Int))=false:=decide_eq_false (by omega)
    have hnl:n=T.length:=by omega
    subst hnl
    have hF:bodiesOf T=some ds:=HL.out.rest.trans (by simp [bodiesOf])
    rw [hF,Option.bind_some] at hP
    have j0:(0:Int)≤m+1:=by have:=HM0.out;omega
    have j1:m+1<((linesOf s).length:Int):=by have:=HM0.out;have:=HLM.out;omega
    obtain ⟨ad2,e,hx⟩:=Kd.at_string HC2.out (m+1) j0 j1
    cases e
    have hbl:=World.block_lt_of_cell? w2 _ hx
    have hx2:=(World.cell?_of_block ((HL.out.keep _ (by omega) (by omega)).trans (HOLD.out _ (by omega)))).trans hx
    have hsz:=HRL.out (m+1)
    obtain ⟨A6,c6,rfl⟩:=Kd.N_slice HL.out.row
    go_wp2_with fail
    refine (numbers_ends _ wNode 3 hsz _ (LD.below HLD.out HL.out.below)).mono ?_
    rintro e w4 ⟨he,hb⟩
    cases hy:numbersOf (rdOf ByteArray.empty (linesOf s) (m+1)) wNode 3 with
    |none=>
     rw [hy] at he
     obtain ⟨z,rfl⟩:=he
     have hp:preOf s=none:=by rw [hP,hy];rfl
     exact ⟨rfl,by unfold ParsedEnds;rw [hp];exact ⟨z,rfl⟩,below_step HL.out.below hb⟩
    |some x=>
     rw [hy] at he
     obtain ⟨vx,rfl,hvx⟩:=he
     have hp:preOf s=some (ds,rd x 0,rd x 1,rd x 2):=by rw [hP,hy];rfl
     have HPRE:=A0_ hp
     have hxl:=numbers_length hy
     have HN:=A0_ (Kd.N_below HL.out.row hb)
     have HBX:=A0_ (blk_below HL.out.box hb)
     have HBL:=A0_ (below_step HL.out.below hb)
     have HB00:=A0_ (blk_below ((HL.out.keep _ (by omega) (by omega)).trans B0c.out) hb)
     obtain ⟨A4,c4,rfl,hl4,hC4⟩:=Kd.R_reads hvx
     obtain ⟨ad4,rfl,y0⟩:=Kd.at_int hC4 0 (by omega) (by omega)
     obtain ⟨ad4',e',y1⟩:=Kd.at_int hC4 1 (by omega) (by omega)
     obtain rfl:ad4=ad4':=by injection e'
     obtain ⟨ad4',e',y2⟩:=Kd.at_int hC4 2 (by omega) (by omega)
     obtain rfl:ad4=ad4':=by injection e'
     rw [show ((0:Int)).toNat=0 from rfl,Addr.add_zero'] at y0
     simp only [show (1:Int).toNat=1 from rfl,show (2:Int).toNat=2 from rfl,Nat.reduceEqDiff,Go.Addr.add,↓reduceIte] at y1 y2
     have q0:(0:Int)<(x.length:Int):=by omega
     have q1:(1:Int)<(x.length:Int):=by omega
     have q2:(2:Int)<(x.length:Int):=by omega
     have n0:0<x.length:=by omega
     have n1:1<x.length:=by omega
     have n2:2<x.length:=by omega
     have z1:=blk_cell HBX.out 1
     have z2:=blk_cell HBX.out 2
     have z3:=blk_cell HBX.out 3
     have f1:=blk_frozen HBX.out 1
     have f2:=blk_frozen HBX.out 2
     have f3:=blk_frozen HBX.out 3
     simp at z1 z2 z3 f1 f2 f3
     clear hvx hC4 hx hx2 hb HL hP hy hF hp hxl hkn hn hi HR HC2 hcut
     go_wp2_with fail
     go_region
     have hne0:w.heap.size≠g1:=by omega
     have HN2:=A0_ (Kd.N_drew (Kd.N_far (p:=⟨g1,3,none⟩) (Kd.N_far (p:=⟨g1,2,none⟩) (Kd.N_far (p:=⟨g1,1,none⟩) HN.out (fun k hk=>by show k≠g1;omega) (.int .i64 (rd x 0))) (fun k hk=>by show k≠g1;omega) (.int .i64 (rd x 1))) (fun k hk=>by show k≠g1;omega) (.int .i64 (rd x 2))))
     have HBX2:=A0_ (blk_drew (blk_set (blk_set (blk_set HBX.out 1 (.int .i64 (rd x 0))) 2 (.int .i64 (rd x 1))) 3 (.int .i64 (rd x 2))))
     have HB02:=A0_ (blk_drew (blk_far (p:=⟨g1,3,none⟩) (blk_far (p:=⟨g1,2,none⟩) (blk_far (p:=⟨g1,1,none⟩) HB00.out hne0 (.int .i64 (rd x 0))) hne0 (.int .i64 (rd x 1))) hne0 (.int .i64 (rd x 2))))
     have HBL2:=A0_ (below_drew1 (below_set (j:=3) (v:=.int .i64 (rd x 2)) (below_set (j:=2) (v:=.int .i64 (rd x 1)) (below_set (j:=1) (v:=.int .i64 (rd x 0)) HBL.out (Nat.le_of_lt hg01)) (Nat.le_of_lt hg01)) (Nat.le_of_lt hg01)))
     generalize (((w4.setCell ⟨g1,1,none⟩ (.int .i64 (rd x 0))).setCell ⟨g1,2,none⟩ (.int .i64 (rd x 1))).setCell ⟨g1,3,none⟩ (.int .i64 (rd x 2))).drew=w5 at HN2 HBX2 HB02 HBL2 ⊢
     clear HN HBX HBL HB00 z1 z2 z3 f1 f2 f3 y0 y1 y2
     have z0:=blk_cell HBX2.out 0
     have z1:=blk_cell HBX2.out 1
     have z2:=blk_cell HBX2.out 2
     have z3:=blk_cell HBX2.out 3
     simp at z0 z1 z2 z3
     obtain ⟨t,htt⟩:=Option.isSome_iff_exists.mp (HT.out _ HPRE.out)
     obtain ⟨-,hlc6,hC6⟩:=Kd.N_reads' HN2.out
     have HC6:=A0_ hC6;have HTT:=A0_ htt;clear hC6 htt
     go_wp2_with fail
     refine (sky_text.calls k A6 c6 ds (rd x 0) (rd x 1) (rd x 2) t _ HC6.out hlc6 HTT.out (LD.below HLD.out HBL2.out)).mono ?_
     rintro e w6 ⟨rfl,hb⟩
     have HN3:=A0_ (Kd.N_below HN2.out hb)
     have HBX3:=A0_ (blk_below HBX2.out hb)
     have HB03:=A0_ (blk_below HB02.out hb)
     have HBL3:=A0_ (below_step HBL2.out hb)
     clear hb HN2 HBX2 HB02 HBL2 HC6 z0 z1 z2 z3
     have z0:=blk_cell HBX3.out 0
     have z1:=blk_cell HBX3.out 1
     have z2:=blk_cell HBX3.out 2
     have z3:=blk_cell HBX3.out 3
     simp at z0 z1 z2 z3
     have x0:=blk_cell HB03.out 0
     have x1:=blk_cell HB03.out 1
     have x2:=blk_cell HB03.out 2
     have x3:=blk_cell HB03.out 3
     have f0:=blk_frozen HB03.out 0
     have f1:=blk_frozen HB03.out 1
     have f2:=blk_frozen HB03.out 2
     have f3:=blk_frozen HB03.out 3
     simp at x0 x1 x2 x3 f0 f1 f2 f3
     by_cases hts:t.toList=s.toList
     ·have c0:(t.toList == s.toList)=true:=beq_iff_eq.mpr hts
      go_wp2_with fail
      refine (sure_yes s _).mono ?_
      rintro e w7 ⟨rfl,h3'⟩
      obtain rfl:=h3'.symm
      go_wp2
      have hnf:∀ k_,w3.heap.size≤k_→k_≠w.heap.size:=fun k_ hk=>by omega
      have HN4:=A0_ (Kd.N_far (p:=⟨w.heap.size,3,none⟩) (Kd.N_far (p:=⟨w.heap.size,2,none⟩) (Kd.N_far (p:=⟨w.heap.size,1,none⟩) (Kd.N_far (p:=⟨w.heap.size,0,none⟩) HN3.out hnf (.slice A6 ds.length c6)) hnf (.int .i64 (rd x 0))) hnf (.int .i64 (rd x 1))) hnf (.int .i64 (rd x 2)))
      have hbx:=blk_set (blk_set (blk_set (blk_set HB03.out 0 (.slice A6 ds.length c6)) 1 (.int .i64 (rd x 0))) 2 (.int .i64 (rd x 1))) 3 (.int .i64 (rd x 2))
      have HBL4:=A0_ (below_set (j:=3) (v:=.int .i64 (rd x 2)) (below_set (j:=2) (v:=.int .i64 (rd x 1)) (below_set (j:=1) (v:=.int .i64 (rd x 0)) (below_set (j:=0) (v:=.slice A6 ds.length c6) HBL3.out (Nat.le_refl _)) (Nat.le_refl _)) (Nat.le_refl _)) (Nat.le_refl _))
      generalize ((((w6.setCell ⟨w.heap.size,0,none⟩ (.slice A6 ds.length c6)).setCell ⟨w.heap.size,1,none⟩ (.int .i64 (rd x 0))).setCell ⟨w.heap.size,2,none⟩ (.int .i64 (rd x 1))).setCell ⟨w.heap.size,3,none⟩ (.int .i64 (rd x 2)))=w8 at HN4 hbx HBL4 ⊢
      clear z0 z1 z2 z3 x0 x1 x2 x3 f0 f1 f2 f3
      have x0:=blk_cell hbx 0
      have x1:=blk_cell hbx 1
      have x2:=blk_cell hbx 2
      have x3:=blk_cell hbx 3
      simp at x0 x1 x2 x3
      refine ⟨rfl,.agg #[.slice A6 ds.length c6,.int .i64 (rd x 0),.int .i64 (rd x 1),.int .i64 (rd x 2)],?_,?_,HBL4.out⟩
      ·simp [results,Tryz.results61,go_sem,x0,x1,x2,x3]
      ·unfold ParsedEnds
       rw [HPRE.out]
       intro t' ht'
       rw [show t'=t from Option.some.inj (ht'.symm.trans HTT.out),if_pos hts]
       exact ⟨_,rfl,Kd.V_mono (Kd.N_V HN4.out) (fun k_ hk=>by omega)⟩
     ·have c0:(t.toList == s.toList)=false:=beq_eq_false_iff_ne.mpr hts
      go_wp2_with fail
      refine (sure_no s _).mono ?_
      rintro e w7 ⟨rfl,h3'⟩
      obtain rfl:=h3'.symm
      exact ⟨rfl,by unfold ParsedEnds;rw [HPRE.out];intro t' ht';rw [show t'=t from Option.some.inj (ht'.symm.trans HTT.out),if_neg hts];exact ⟨s,rfl⟩,HBL3.out⟩
 ·have hp:preOf s=none:=by
   unfold preOf headOf
   rw [HH.out,Option.bind_some,if_neg (by rw [hm];exact hm0)]
   rfl
  by_cases hm1:0≤m
  ·have c0:decide (0≤m)=true:=decide_eq_true hm1
   have c1:(((linesOf s).length:Int) == wrap64 (m+4))=false:=beq_eq_false_iff_ne.mpr (fun h=>hm0 ⟨hm1,h⟩)
   go_wp2_with fail
   refine (sure_no s _).mono ?_
   rintro e w3' ⟨rfl,h3'⟩
   obtain rfl:=h3'.symm
   exact ⟨rfl,by unfold ParsedEnds;rw [hp];exact ⟨s,rfl⟩,HB2.out⟩
  ·have c0:decide (0≤m)=false:=decide_eq_false hm1
   go_wp2_with fail
   refine (sure_no s _).mono ?_
   rintro e w3' ⟨rfl,h3'⟩
   obtain rfl:=h3'.symm
   exact ⟨rfl,by unfold ParsedEnds;rw [hp];exact ⟨s,rfl⟩,HB2.out⟩
def sky_parsed.f (k:Nat) (s:ByteArray):Option (List S74 × Int × Int × Int):=
 if s.size≤100000 then (preOf s).bind fun o=>(sky_text.f k o.1 o.2.1 o.2.2.1 o.2.2.2).bind fun t=>if t.toList=s.toList then some o else none else none
theorem sky_parsed.calls (k:Nat) (a0:ByteArray) (o:List S74 × Int × Int × Int) (w:World) (h:sky_parsed.f k a0=some o) (hLD:LD w):
  Calls Tryz.prog 61 #[.string a0] w fun e w'=>∃ v:Value,e=.returned (.agg #[v,.int .i64 o.2.1,.int .i64 o.2.2.1,.int .i64 o.2.2.2])∧Kd.V k74 74 w' w.heap.size (fun k_=>w.heap.size≤k_) v o.1∧Below w.heap.size w w':=by
 unfold sky_parsed.f at h
 split at h
 ·rename_i hs
  obtain ⟨q,hq,h1⟩:=Option.bind_eq_some_iff.mp h
  obtain ⟨t,ht,h2⟩:=Option.bind_eq_some_iff.mp h1
  split at h2
  ·rename_i hts
   obtain rfl:=Option.some.inj h2
   refine (parsed_ends k a0 hs w hLD (fun o ho=>by rw [hq] at ho;obtain rfl:=Option.some.inj ho;rw [ht];rfl)).mono ?_
   rintro e w' ⟨he,hb⟩
   unfold ParsedEnds at he
   rw [hq] at he
   have h3:=he t ht
   rw [if_pos hts] at h3
   obtain ⟨v,he,hv⟩:=h3
   exact ⟨v,he,hv,hb⟩
  ·cases h2
 ·cases h
end Go.Proofs.YtjahbgldccjbfaaGreatDoor.PSky
end
section
namespace Go.Proofs.YtjahbgldccjbfaaGreatDoor.PSky
open Go.RowKit Go.Proofs.YtjahbgldccjbfaaGreatDoorW.PrintWords Go.Proofs.YtjahbgldccjbfaaGreatDoorW.PrintLast Go.Proofs.YtjahbgldccjbfaaGreatDoorW.PrintMore
set_option maxRecDepth 100000 in
theorem Read_idle (p q:Addr) (w:World):
  CallsD Tryz.prog 60 #[.pointer (some p),.pointer (some q)] .returning w fun e u' w'=>e=.returned (.tuple #[])∧u'=.returning∧w'=w:=by
 refine callsD_of_wpS Tryz.func60 rfl fun c₀ cs hu=>?_
 simp only [Tryz.ntmps60,List.size_toArray,List.length_cons,List.length_nil,Nat.reduceAdd,Nat.reduceSub,Array.replicate_succ,
   Array.replicate_zero,List.push_toArray,List.append_toArray,List.nil_append,List.cons_append]
 apply wpS_seq
 apply wpS_region
 simp [wpOpsS,go_sem,recoverD,hu,Exit.thenS]
 refine wpS_of_wp ?_
 go_wp2
 cases c₀
 simp_all [bodyPostS,results,Tryz.results60]
def sky_Read.f (k:Nat) (a0:ByteArray):Option (List S74 × Int × Int × Int × Int):=
 if (a0.size:Int) > 400 then some ([],0,0,0,3) else (sky_parsed.f k a0).bind fun t=>(sky_isSky.f k t.1 t.2.1 t.2.2.1 t.2.2.2).bind fun b=>if b=true then some (t.1,t.2.1,t.2.2.1,t.2.2.2,0) else some ([],0,0,0,2)
set_option maxRecDepth 100000 in
set_option maxHeartbeats 1600000 in
theorem sky_Read.calls (k:Nat) (a0:ByteArray) (r1:List S74) (r2 r3 r4 r5:Int) (w:World) (h:sky_Read.f k a0=some (r1,r2,r3,r4,r5)) (hLD:LD w):
  Calls Tryz.prog 12 #[.string a0] w fun e w'=>∃ v0_:Value,e=.returned (.tuple #[.agg #[v0_,.int .i64 r2,.int .i64 r3,.int .i64 r4],.int .i64 r5])∧Kd.V k74 74 w' w.heap.size (fun k_=>(w.heap.size≤k_)) v0_ r1∧Below w.heap.size w w':=by
 have HLD:=A0_ hLD;clear hLD
 have hmf:∀ (fn:Fn) (first cap:Array Value) (w:World),(Instr.makeFunc fn first cap).run Tryz.prog w=.ok (.func fn first cap) w:=fun _ _ _ _=>rfl
 unfold sky_Read.f at h
 by_cases hlen:(a0.size:Int) > 400
 ·rw [if_pos hlen] at h
  obtain ⟨rfl,rfl,rfl,rfl,rfl⟩:[]=r1∧(0:Int)=r2∧(0:Int)=r3∧(0:Int)=r4∧(3:Int)=r5:=by simpa using h
  have c0:decide ((400:Int)<(a0.size:Int))=true:=decide_eq_true hlen
  go_enter_defers Tryz.func12,Tryz.ntmps12
  go_wp2
  have b0:=blk_alloc (blk_new w (.cells #[.slice none 0 0,.int .i64 0,.int .i64 0,.int .i64 0] 29)) (.cells #[.int .i64 3] 30)
  have b1:=blk_new (w.alloc (.cells #[.slice none 0 0,.int .i64 0,.int .i64 0,.int .i64 0] 29)) (.cells #[.int .i64 3] 30)
  have hb2:=below_alloc (below_alloc (Below.refl w.heap.size w) (.cells #[.slice none 0 0,.int .i64 0,.int .i64 0,.int .i64 0] 29)) (.cells #[.int .i64 3] 30)
  simp only [World.size_alloc] at b1
  generalize (w.alloc (.cells #[.slice none 0 0,.int .i64 0,.int .i64 0,.int .i64 0] 29)).alloc (.cells #[.int .i64 3] 30)=w2 at b0 b1 hb2 ⊢
  have x0:=blk_cell b0 0
  have x1:=blk_cell b0 1
  have x2:=blk_cell b0 2
  have x3:=blk_cell b0 3
  have y0:=blk_cell b1 0
  simp at x0 x1 x2 x3 y0
  simp [bodyPostD,Leaves,results,Tryz.results12,go_sem,x0,x1,x2,x3,y0]
  exact ⟨Kd.V_nil _ _ _ _ _,hb2⟩
 ·rw [if_neg hlen] at h
  have c0:decide ((400:Int)<(a0.size:Int))=false:=decide_eq_false hlen
  obtain ⟨⟨t1,t2,t3,t4⟩,hp,h1⟩:=Option.bind_eq_some_iff.mp h
  obtain ⟨b,hb,h2⟩:=Option.bind_eq_some_iff.mp h1
  have HP:=A0_ hp;have HS:=A0_ hb;clear h h1 hp hb
  have b0:=blk_alloc (blk_new w (.cells #[.slice none 0 0,.int .i64 0,.int .i64 0,.int .i64 0] 29)) (.cells #[.int .i64 0] 30)
  have b1:=blk_new (w.alloc (.cells #[.slice none 0 0,.int .i64 0,.int .i64 0,.int .i64 0] 29)) (.cells #[.int .i64 0] 30)
  have hb2:=below_alloc (below_alloc (Below.refl w.heap.size w) (.cells #[.slice none 0 0,.int .i64 0,.int .i64 0,.int .i64 0] 29)) (.cells #[.int .i64 0] 30)
  have hs2:((w.alloc (.cells #[.slice none 0 0,.int .i64 0,.int .i64 0,.int .i64 0] 29)).alloc (.cells #[.int .i64 0] 30)).heap.size=w.heap.size+1+1:=by simp only [World.size_alloc]
  simp only [World.size_alloc] at b1
  go_enter_defers Tryz.func12,Tryz.ntmps12
  go_wp2_with fail
  generalize (w.alloc (.cells #[.slice none 0 0,.int .i64 0,.int .i64 0,.int .i64 0] 29)).alloc (.cells #[.int .i64 0] 30)=w2 at b0 b1 hb2 hs2 ⊢
  refine (sky_parsed.calls k a0 (t1,t2,t3,t4) _ HP.out (LD.below HLD.out hb2)).mono ?_
  rintro e w1 ⟨v,rfl,hv,hb⟩
  have B0:=A0_ (blk_below b0 hb)
  have B1:=A0_ (blk_below b1 hb)
  have HB:=A0_ (below_step hb2 hb)
  have HV:=A0_ (Kd.V_mono hv (ok':=fun k_=>w.heap.size+1+1≤k_) (fun k_ hk=>by omega))
  have hle:=HB.out.size
  clear hv hb b0 b1 hb2
  have x0:=blk_cell B0.out 0
  have x1:=blk_cell B0.out 1
  have x2:=blk_cell B0.out 2
  have x3:=blk_cell B0.out 3
  have f0:=blk_frozen B0.out 0
  have f1:=blk_frozen B0.out 1
  have f2:=blk_frozen B0.out 2
  have f3:=blk_frozen B0.out 3
  simp at x0 x1 x2 x3 f0 f1 f2 f3
  obtain ⟨A,c,rfl⟩:=Kd.V_slice HV.out
  go_wp2_with fail
  have hg:∀ k_,w.heap.size+1+1≤k_→k_≠w.heap.size:=fun k_ hk=>by omega
  have HV2:=A0_ (Kd.V_far (p:=⟨w.heap.size,3,none⟩) (Kd.V_far (p:=⟨w.heap.size,2,none⟩) (Kd.V_far (p:=⟨w.heap.size,1,none⟩) (Kd.V_far (p:=⟨w.heap.size,0,none⟩) HV.out hg (.slice A t1.length c)) hg (.int .i64 t2)) hg (.int .i64 t3)) hg (.int .i64 t4))
  have B02:=A0_ (blk_set (blk_set (blk_set (blk_set B0.out 0 (.slice A t1.length c)) 1 (.int .i64 t2)) 2 (.int .i64 t3)) 3 (.int .i64 t4))
  have hne1:w.heap.size+1≠w.heap.size:=by omega
  have B12:=A0_ (blk_far (p:=⟨w.heap.size,3,none⟩) (blk_far (p:=⟨w.heap.size,2,none⟩) (blk_far (p:=⟨w.heap.size,1,none⟩) (blk_far (p:=⟨w.heap.size,0,none⟩) B1.out hne1 (.slice A t1.length c)) hne1 (.int .i64 t2)) hne1 (.int .i64 t3)) hne1 (.int .i64 t4))
  have HB2:=A0_ (below_set (j:=3) (v:=.int .i64 t4) (below_set (j:=2) (v:=.int .i64 t3) (below_set (j:=1) (v:=.int .i64 t2) (below_set (j:=0) (v:=.slice A t1.length c) HB.out (Nat.le_refl _)) (Nat.le_refl _)) (Nat.le_refl _)) (Nat.le_refl _))
  generalize ((((w1.setCell ⟨w.heap.size,0,none⟩ (.slice A t1.length c)).setCell ⟨w.heap.size,1,none⟩ (.int .i64 t2)).setCell ⟨w.heap.size,2,none⟩ (.int .i64 t3)).setCell ⟨w.heap.size,3,none⟩ (.int .i64 t4))=w3 at HV2 B02 B12 HB2 ⊢
  clear HV B0 B1 HB x0 x1 x2 x3 f0 f1 f2 f3
  have hr:=Kd.V_reads' HV2.out
  refine (sky_isSky.calls k A c t1 t2 t3 t4 b _ hr.2.2 hr.2.1 HS.out).mono ?_
  rintro e w4 ⟨rfl,hb⟩
  have HV3:=A0_ (Kd.V_below HV2.out hb)
  have B03:=A0_ (blk_below B02.out hb)
  have B13:=A0_ (blk_below B12.out hb)
  have HB3:=A0_ (below_step HB2.out hb)
  clear HV2 B02 B12 HB2 hr hb
  have x0:=blk_cell B03.out 0
  have x1:=blk_cell B03.out 1
  have x2:=blk_cell B03.out 2
  have x3:=blk_cell B03.out 3
  have f0:=blk_frozen B03.out 0
  have f1:=blk_frozen B03.out 1
  have f2:=blk_frozen B03.out 2
  have f3:=blk_frozen B03.out 3
  have y0:=blk_cell B13.out 0
  have g0:=blk_frozen B13.out 0
  simp at x0 x1 x2 x3 f0 f1 f2 f3 y0 g0
  cases b with
  |true=>
   obtain ⟨rfl,rfl,rfl,rfl,rfl⟩:t1=r1∧t2=r2∧t3=r3∧t4=r4∧(0:Int)=r5:=by simpa using h2
   go_wp2
   have C0:=blk_far (p:=⟨w.heap.size+1,0,none⟩) (blk_set (blk_set (blk_set (blk_set B03.out 0 (.slice A t1.length c)) 1 (.int .i64 t2)) 2 (.int .i64 t3)) 3 (.int .i64 t4)) (by show w.heap.size≠w.heap.size+1;omega) (.int .i64 0)
   have C1:=blk_set (blk_far (p:=⟨w.heap.size,3,none⟩) (blk_far (p:=⟨w.heap.size,2,none⟩) (blk_far (p:=⟨w.heap.size,1,none⟩) (blk_far (p:=⟨w.heap.size,0,none⟩) B13.out hne1 (.slice A t1.length c)) hne1 (.int .i64 t2)) hne1 (.int .i64 t3)) hne1 (.int .i64 t4)) 0 (.int .i64 0)
   have HV4:=Kd.V_far (p:=⟨w.heap.size+1,0,none⟩) (Kd.V_far (p:=⟨w.heap.size,3,none⟩) (Kd.V_far (p:=⟨w.heap.size,2,none⟩) (Kd.V_far (p:=⟨w.heap.size,1,none⟩) (Kd.V_far (p:=⟨w.heap.size,0,none⟩) HV3.out hg (.slice A t1.length c)) hg (.int .i64 t2)) hg (.int .i64 t3)) hg (.int .i64 t4)) (fun k_ hk=>by show k_≠w.heap.size+1;omega) (.int .i64 0)
   have HB4:=below_set (g:=w.heap.size+1) (j:=0) (v:=.int .i64 0) (below_set (j:=3) (v:=.int .i64 t4) (below_set (j:=2) (v:=.int .i64 t3) (below_set (j:=1) (v:=.int .i64 t2) (below_set (j:=0) (v:=.slice A t1.length c) HB3.out (Nat.le_refl _)) (Nat.le_refl _)) (Nat.le_refl _)) (Nat.le_refl _)) (Nat.le_succ _)
   generalize (((((w4.setCell ⟨w.heap.size,0,none⟩ (.slice A t1.length c)).setCell ⟨w.heap.size,1,none⟩ (.int .i64 t2)).setCell ⟨w.heap.size,2,none⟩ (.int .i64 t3)).setCell ⟨w.heap.size,3,none⟩ (.int .i64 t4)).setCell ⟨w.heap.size+1,0,none⟩ (.int .i64 0))=w8 at C0 C1 HV4 HB4 ⊢
   clear x0 x1 x2 x3 f0 f1 f2 f3 y0 g0
   have x0:=blk_cell C0 0
   have x1:=blk_cell C0 1
   have x2:=blk_cell C0 2
   have x3:=blk_cell C0 3
   have y0:=blk_cell C1 0
   simp at x0 x1 x2 x3 y0
   refine leaves_cons (f:=60) (args:=#[.pointer (some ⟨w.heap.size,0,none⟩),.pointer (some ⟨w.heap.size+1,0,none⟩)]) (by simp) (by simp [go_sem]) ?_
   refine (Read_idle _ _ _).mono ?_
   rintro e u' w'' ⟨rfl,rfl,rfl⟩
   simp [Leaves,settle,results,Tryz.results12,go_sem,x0,x1,x2,x3,y0]
   exact ⟨Kd.V_mono HV4 (fun k_ hk=>by omega),HB4⟩
  |false=>
   obtain ⟨rfl,rfl,rfl,rfl,rfl⟩:[]=r1∧(0:Int)=r2∧(0:Int)=r3∧(0:Int)=r4∧(2:Int)=r5:=by simpa using h2
   go_wp2
   have C0:=blk_far (p:=⟨w.heap.size+1,0,none⟩) (blk_set (blk_set (blk_set (blk_set B03.out 0 (.slice none 0 0)) 1 (.int .i64 0)) 2 (.int .i64 0)) 3 (.int .i64 0)) (by show w.heap.size≠w.heap.size+1;omega) (.int .i64 2)
   have C1:=blk_set (blk_far (p:=⟨w.heap.size,3,none⟩) (blk_far (p:=⟨w.heap.size,2,none⟩) (blk_far (p:=⟨w.heap.size,1,none⟩) (blk_far (p:=⟨w.heap.size,0,none⟩) B13.out hne1 (.slice none 0 0)) hne1 (.int .i64 0)) hne1 (.int .i64 0)) hne1 (.int .i64 0)) 0 (.int .i64 2)
   have HB4:=below_set (g:=w.heap.size+1) (j:=0) (v:=.int .i64 2) (below_set (j:=3) (v:=.int .i64 0) (below_set (j:=2) (v:=.int .i64 0) (below_set (j:=1) (v:=.int .i64 0) (below_set (j:=0) (v:=.slice none 0 0) HB3.out (Nat.le_refl _)) (Nat.le_refl _)) (Nat.le_refl _)) (Nat.le_refl _)) (Nat.le_succ _)
   generalize (((((w4.setCell ⟨w.heap.size,0,none⟩ (.slice none 0 0)).setCell ⟨w.heap.size,1,none⟩ (.int .i64 0)).setCell ⟨w.heap.size,2,none⟩ (.int .i64 0)).setCell ⟨w.heap.size,3,none⟩ (.int .i64 0)).setCell ⟨w.heap.size+1,0,none⟩ (.int .i64 2))=w8 at C0 C1 HB4 ⊢
   clear x0 x1 x2 x3 f0 f1 f2 f3 y0 g0
   have x0:=blk_cell C0 0
   have x1:=blk_cell C0 1
   have x2:=blk_cell C0 2
   have x3:=blk_cell C0 3
   have y0:=blk_cell C1 0
   simp at x0 x1 x2 x3 y0
   refine leaves_cons (f:=60) (args:=#[.pointer (some ⟨w.heap.size,0,none⟩),.pointer (some ⟨w.heap.size+1,0,none⟩)]) (by simp) (by simp [go_sem]) ?_
   refine (Read_idle _ _ _).mono ?_
   rintro e u' w'' ⟨rfl,rfl,rfl⟩
   simp [Leaves,settle,results,Tryz.results12,go_sem,x0,x1,x2,x3,y0]
   exact ⟨Kd.V_nil _ _ _ _ _,HB4⟩
end Go.Proofs.YtjahbgldccjbfaaGreatDoor.PSky
end
section
namespace Go.Proofs.YtjahbgldccjbfaaGreatDoor.PSky
open Go.RowKit Go.Proofs.YtjahbgldccjbfaaGreatDoorW.PrintWords Go.Proofs.YtjahbgldccjbfaaGreatDoorW.PrintLast Go.Proofs.YtjahbgldccjbfaaGreatDoorW.PrintMore
def AgreeEnds (ob:Nat) (r:List Int) (w:World) (e:Ending) (w':World):Prop:=
 (r=[]∧e=.panicked [{ v:=.iface 126 (.agg #[.int .i64 5]),recovered:=false }]∧Below w.heap.size w w') ∨
 (r≠[]∧e=.returned (.tuple #[])∧∃ v w1,Kd.R (Kd.int .i64) 3 w1 w.heap.size (fun _=>True) v r∧Below w.heap.size w w1∧w'=w1.setCell ⟨ob,0,none⟩ v)
set_option maxRecDepth 100000 in
set_option maxHeartbeats 1600000 in
theorem Speeds_c1.calls (k:Nat) (A1:Option Addr) (c1:Nat) (l1:List S89) (a0 a2 a3:Int) (r:List Int) (b0 b1 b2 b3 ob:Nat) (w:World)
  (h0:w.heap[b0]?=some (.cells #[.int .i64 a0] 3 (0,0))) (h1:w.heap[b1]?=some (.cells #[.slice A1 l1.length c1] 91 (0,0)))
  (h2:w.heap[b2]?=some (.cells #[.int .i64 a2] 3 (0,0))) (h3:w.heap[b3]?=some (.cells #[.int .i64 a3] 3 (0,0)))
  (ho:w.heap[ob]?=some (.cells #[.slice none 0 0] 40 (0,0)))
  (hr:Kd.C k89 w A1 l1.length l1) (hc:l1.length≤c1) (h:sky_agreeing.f k a0 l1 a2 a3=some r):
  Calls Tryz.prog 102 #[.pointer (some ⟨b0,0,none⟩),.pointer (some ⟨b1,0,none⟩),.pointer (some ⟨b2,0,none⟩),.pointer (some ⟨b3,0,none⟩),.pointer (some ⟨ob,0,none⟩)] w (AgreeEnds ob r w):=by
 have HR:=A0_ hr;have HC:=A0_ hc;have HF:=A0_ h
 have x0:=blk_cell h0 0
 have x1:=blk_cell h1 0
 have x2:=blk_cell h2 0
 have x3:=blk_cell h3 0
 simp at x0 x1 x2 x3
 have HO:=A0_ ho;clear hr hc h h0 h1 h2 h3 ho
 go_enter Tryz.func102,Tryz.ntmps102
 go_wp2_with fail
 refine (sky_agreeing.calls k a0 A1 c1 l1 a2 a3 r _ HR.out HC.out HF.out).mono ?_
 rintro e w1 (⟨hr,rfl,hb⟩|⟨hr,v,rfl,hv,hb⟩)
 ·exact ⟨rfl,Or.inl ⟨hr,rfl,hb⟩⟩
 ·have y0:=blk_cell (blk_below HO.out hb) 0
  have y1:=blk_frozen (blk_below HO.out hb) 0
  simp at y0 y1
  have HV:=A0_ hv
  obtain ⟨A,c,rfl,-⟩:=Kd.R_reads hv
  clear hv
  go_wp2_with fail
  go_end0
  exact Or.inr ⟨hr,rfl,_,w1,HV.out,hb,rfl⟩
def sky_Speeds.f (k:Nat) (a0:Int) (l:List S89) (a2 a3:Int):Option (Int × Int × Int × Int):=
 (sky_areNotes.f k a0 l a2 a3).bind fun b=>if b=true then (sky_agreeing.f k a0 l a2 a3).bind fun r=>if r=[] then some (0,0,0,5) else if r.length≤4611686018427387904 then some (rd r 0,rd r ((r.length:Int) - 1),(r.length:Int),0) else none else some (0,0,0,2)
set_option maxRecDepth 100000 in
set_option maxHeartbeats 1600000 in
theorem sky_Speeds.calls (k:Nat) (a0:Int) (A1:Option Addr) (c1:Nat) (l1:List S89) (a2 a3 r1 r2 r3 r4:Int) (w:World)
  (hr1:Kd.C k89 w A1 l1.length l1) (hc1:l1.length≤c1) (h:sky_Speeds.f k a0 l1 a2 a3=some (r1,r2,r3,r4)):
  Calls Tryz.prog 53 #[.int .i64 a0,.slice A1 l1.length c1,.int .i64 a2,.int .i64 a3] w fun e w'=>e=.returned (.tuple #[.agg #[.int .i64 r1,.int .i64 r2],.int .i64 r3,.int .i64 r4])∧Below w.heap.size w w':=by
 have HR:=A0_ hr1;have HC:=A0_ hc1;clear hr1 hc1
 have hmf:∀ (fn:Fn) (first cap:Array Value) (w:World),(Instr.makeFunc fn first cap).run Tryz.prog w=.ok (.func fn first cap) w:=fun _ _ _ _=>rfl
 have hcf:∀ (args:Array Value) (W:World),(callFunc 102 args).run Tryz.prog W=.ok (.enter 102 args) W:=fun _ _=>rfl
 obtain ⟨b,hb0,h1⟩:=Option.bind_eq_some_iff.mp h
 have HB0:=A0_ hb0;clear h hb0
 have q0:=blk_alloc (blk_alloc (blk_alloc (blk_alloc (blk_new w (.cells #[.int .i64 a0] 3)) (.cells #[.slice A1 l1.length c1] 91)) (.cells #[.int .i64 a2] 3)) (.cells #[.int .i64 a3] 3)) (.cells #[.int .i64 0,.int .i64 0] 85)
 have q1:=blk_alloc (blk_alloc (blk_alloc (blk_new (w.alloc (.cells #[.int .i64 a0] 3)) (.cells #[.slice A1 l1.length c1] 91)) (.cells #[.int .i64 a2] 3)) (.cells #[.int .i64 a3] 3)) (.cells #[.int .i64 0,.int .i64 0] 85)
 have q2:=blk_alloc (blk_alloc (blk_new ((w.alloc (.cells #[.int .i64 a0] 3)).alloc (.cells #[.slice A1 l1.length c1] 91)) (.cells #[.int .i64 a2] 3)) (.cells #[.int .i64 a3] 3)) (.cells #[.int .i64 0,.int .i64 0] 85)
 have q3:=blk_alloc (blk_new (((w.alloc (.cells #[.int .i64 a0] 3)).alloc (.cells #[.slice A1 l1.length c1] 91)).alloc (.cells #[.int .i64 a2] 3)) (.cells #[.int .i64 a3] 3)) (.cells #[.int .i64 0,.int .i64 0] 85)
 have q4:=blk_new ((((w.alloc (.cells #[.int .i64 a0] 3)).alloc (.cells #[.slice A1 l1.length c1] 91)).alloc (.cells #[.int .i64 a2] 3)).alloc (.cells #[.int .i64 a3] 3)) (.cells #[.int .i64 0,.int .i64 0] 85)
 have HB:=A0_ (below_alloc (below_alloc (below_alloc (below_alloc (below_alloc (Below.refl w.heap.size w) (.cells #[.int .i64 a0] 3)) (.cells #[.slice A1 l1.length c1] 91)) (.cells #[.int .i64 a2] 3)) (.cells #[.int .i64 a3] 3)) (.cells #[.int .i64 0,.int .i64 0] 85))
 simp only [World.size_alloc] at q1 q2 q3 q4
 have Q0:=A0_ q0;have Q1:=A0_ q1;have Q2:=A0_ q2;have Q3:=A0_ q3;have Q4:=A0_ q4;clear q0 q1 q2 q3 q4
 go_enter Tryz.func53,Tryz.ntmps53
 go_wp2_with fail
 refine (sky_areNotes.calls k a0 A1 c1 l1 a2 a3 b _ (Kd.C_below HR.out HB.out) HC.out HB0.out).mono ?_
 rintro e w1 ⟨rfl,hb⟩
 have P0:=A0_ (blk_below Q0.out hb)
 have P1:=A0_ (blk_below Q1.out hb)
 have P2:=A0_ (blk_below Q2.out hb)
 have P3:=A0_ (blk_below Q3.out hb)
 have P4:=A0_ (blk_below Q4.out hb)
 have HB1:=A0_ (below_step HB.out hb)
 clear Q0 Q1 Q2 Q3 Q4 HB hb
 have y0:=blk_cell P4.out 0
 have y1:=blk_cell P4.out 1
 have y2:=blk_frozen P4.out 0
 have y3:=blk_frozen P4.out 1
 simp at y0 y1 y2 y3
 cases b with
 |false=>
  obtain ⟨rfl,rfl,rfl,rfl⟩:(0:Int)=r1∧(0:Int)=r2∧(0:Int)=r3∧(2:Int)=r4:=by simpa using h1
  go_wp2
  refine ⟨rfl,.tuple #[.agg #[.int .i64 0,.int .i64 0],.int .i64 0,.int .i64 2],?_,rfl,?_⟩
  ·simp [results,Tryz.results53,go_sem,y0,y1]
  ·have hle:=HB1.out.size
   exact below_set (below_set HB1.out (by omega)) (by omega)
 |true=>
 obtain ⟨r,hr0,h2⟩:=Option.bind_eq_some_iff.mp (show ((sky_agreeing.f k a0 l1 a2 a3).bind _)=some (r1,r2,r3,r4) from by simpa using h1)
 clear h1 y0 y1 y2 y3
 have hle:=HB1.out.size
 have hlt:=blk_lt P4.out
 go_wp2_with fail
 have p0:=blk_alloc (blk_alloc P0.out (.cells #[.slice none 0 0] 40)) (.cells #[.int .i64 0] 30)
 have p1:=blk_alloc (blk_alloc P1.out (.cells #[.slice none 0 0] 40)) (.cells #[.int .i64 0] 30)
 have p2:=blk_alloc (blk_alloc P2.out (.cells #[.slice none 0 0] 40)) (.cells #[.int .i64 0] 30)
 have p3:=blk_alloc (blk_alloc P3.out (.cells #[.slice none 0 0] 40)) (.cells #[.int .i64 0] 30)
 have p4:=blk_alloc (blk_alloc P4.out (.cells #[.slice none 0 0] 40)) (.cells #[.int .i64 0] 30)
 have po:=blk_alloc (blk_new w1 (.cells #[.slice none 0 0] 40)) (.cells #[.int .i64 0] 30)
 have pe:=blk_new (w1.alloc (.cells #[.slice none 0 0] 40)) (.cells #[.int .i64 0] 30)
 have HB2:=A0_ (below_alloc (below_alloc HB1.out (.cells #[.slice none 0 0] 40)) (.cells #[.int .i64 0] 30))
 have hcc:=Speeds_c1.calls k A1 c1 l1 a0 a2 a3 r w.heap.size (w.heap.size+1) (w.heap.size+1+1) (w.heap.size+1+1+1) w1.heap.size _ p0 p1 p2 p3 po (Kd.C_below HR.out HB2.out) HC.out hr0
 simp only [World.size_alloc] at pe
 by_cases hrn:r=[]
 ·rw [if_pos hrn] at h2
  obtain ⟨rfl,rfl,rfl,rfl⟩:(0:Int)=r1∧(0:Int)=r2∧(0:Int)=r3∧(5:Int)=r4:=by simpa using h2
  refine (try_gaveUp _ _ 5 _ (fun w'=>Below w.heap.size w w'∧w'.heap[w.heap.size+1+1+1+1]?=some (.cells #[.int .i64 0,.int .i64 0] 85 (0,0))) (hcf _) (hcc.mono ?_)).mono ?_
  ·rintro e w2 (⟨-,rfl,hb⟩|⟨hn,-⟩)
   ·simp only [World.size_alloc]
    exact ⟨trivial,(blk_cell (blk_below pe hb) 0).trans rfl,blk_frozen (blk_below pe hb) 0,below_step HB2.out hb,blk_below p4 hb⟩
   ·exact absurd hrn hn
  rintro e w2 ⟨rfl,w3,⟨hb,hs⟩,rfl⟩
  have hs2:=blk_alloc (blk_far (p:=⟨(w1.alloc (.cells #[.slice none 0 0] 40)).heap.size,0,none⟩) hs (by simp only [World.size_alloc];omega) (.int .i64 5)) (.cells #[.int .i64 5] 126)
  have y0:=blk_cell hs2 0
  have y1:=blk_cell hs2 1
  have y2:=blk_frozen hs2 0
  have y3:=blk_frozen hs2 1
  have HB3:=A0_ (below_alloc (below_set (g:=(w1.alloc (.cells #[.slice none 0 0] 40)).heap.size) (j:=0) (v:=.int .i64 5) hb (by simp only [World.size_alloc];omega)) (.cells #[.int .i64 5] 126))
  generalize ((w3.setCell ⟨(w1.alloc (.cells #[.slice none 0 0] 40)).heap.size,0,none⟩ (.int .i64 5)).alloc (.cells #[.int .i64 5] 126))=w4 at y0 y1 y2 y3 HB3 ⊢
  simp at y0 y1 y2 y3
  clear hs hs2 hb p0 p1 p2 p3 p4 po pe hcc;go_wp2
  refine ⟨rfl,.tuple #[.agg #[.int .i64 0,.int .i64 0],.int .i64 0,.int .i64 5],?_,rfl,?_⟩
  ·simp [results,Tryz.results53,go_sem,y0,y1]
  ·exact below_set (below_set HB3.out (by omega)) (by omega)
 ·rw [if_neg hrn] at h2
  by_cases hlen:r.length≤4611686018427387904
  ·rw [if_pos hlen] at h2
   obtain ⟨rfl,rfl,rfl,rfl⟩:rd r 0=r1∧rd r ((r.length:Int) - 1)=r2∧(r.length:Int)=r3∧(0:Int)=r4:=by simpa using h2
   refine (try_done _ _ _ (fun w'=>Below w.heap.size w w'∧w'.heap[w.heap.size+1+1+1+1]?=some (.cells #[.int .i64 0,.int .i64 0] 85 (0,0))∧∃ v,Kd.R (Kd.int .i64) 3 w' w.heap.size (fun _=>True) v r∧w'.heap[w1.heap.size]?=some (.cells #[v] 40 (0,0))∧w'.heap[w1.heap.size+1]?=some (.cells #[.int .i64 0] 30 (0,0))) (hcf _) (hcc.mono ?_)).mono ?_
   ·rintro e w2 (⟨hn,-⟩|⟨-,rfl,v,w3,hv,hb,rfl⟩)
    ·exact absurd hn hrn
    ·simp only [World.size_alloc]
     have po2:=blk_below po hb
     have pe2:=blk_far (p:=⟨w1.heap.size,0,none⟩) (blk_below pe hb) (by simp) v
     refine ⟨trivial,(blk_cell pe2 0).trans rfl,blk_frozen pe2 0,below_set (below_step HB2.out hb) hle,blk_far (blk_below p4 hb) (by simp;omega) _,v,Kd.R_set (Kd.R_lower hv (by simp only [World.size_alloc];omega)) po2 (by decide) _ _,blk_set po2 0 _,pe2⟩
   rintro e w2 ⟨rfl,w3,⟨hb,hs,v,hv,hov,hpe⟩,rfl⟩
   simp only [World.size_alloc]
   have hs2:=blk_far (p:=⟨w1.heap.size+1,0,none⟩) hs (by simp only;omega) (.int .i64 0)
   have ho2:=blk_far (p:=⟨w1.heap.size+1,0,none⟩) hov (by simp) (.int .i64 0)
   have hv2:=Kd.R_set hv hpe (by decide) 0 (.int .i64 0)
   have hb2:=below_set (g:=w1.heap.size+1) (j:=0) (v:=.int .i64 0) hb (by omega)
   generalize w3.setCell ⟨w1.heap.size+1,0,none⟩ (.int .i64 0)=w4 at hs2 ho2 hv2 hb2 ⊢
   obtain ⟨A,c,rfl,-,hC⟩:=Kd.R_reads hv2
   have hpos:0<r.length:=List.length_pos_iff.mpr hrn
   obtain ⟨ad,rfl,z0⟩:=Kd.at_int hC 0 (by omega) (by omega)
   obtain ⟨ad',e',z1⟩:=Kd.at_int hC ((r.length:Int) - 1) (by omega) (by omega)
   cases e'
   rw [show ((0:Int)).toNat=0 from rfl,Addr.add_zero'] at z0
   have hln:((r.length:Int) - 1).toNat=r.length - 1:=by omega
   rw [hln] at z1
   have HB4:=A0_ hb2
   have y0:=blk_cell hs2 0
   have y1:=blk_cell hs2 1
   have y2:=blk_frozen hs2 0
   have y3:=blk_frozen hs2 1
   have u0:=blk_cell ho2 0
   simp at y0 y1 y2 y3 u0
   have hw1:wrap64 ((r.length:Int) - 1)=(r.length:Int) - 1:=by unfold wrap64;omega
   have i0:(0:Int)<(r.length:Int):=by omega
   have i1:(r.length:Int) - 1<(r.length:Int):=by omega
   have i2:(0:Int)≤(r.length:Int) - 1:=by omega
   have i3:decide ((0:Int)≤(r.length:Int) - 1)=true:=decide_eq_true i2
   have i4:decide ((0:Int)<(r.length:Int))=true:=decide_eq_true i0
   have i5:decide ((r.length:Int) - 1<(r.length:Int))=true:=decide_eq_true i1
   clear hs hov hv hb hb2 hs2 ho2 hv2 hpe hC p0 p1 p2 p3 p4 po pe hcc;go_wp2
   go_region
   all_goals go_wp2
   refine ⟨rfl,.tuple #[.agg #[.int .i64 (rd r 0),.int .i64 (rd r ((r.length:Int) - 1))],.int .i64 (r.length:Int),.int .i64 0],?_,rfl,?_⟩
   ·simp [results,Tryz.results53,go_sem,y0,y1]
   ·exact below_set (below_set (below_drew1 HB4.out) (by omega)) (by omega)
  ·rw [if_neg hlen] at h2
   cases h2
end Go.Proofs.YtjahbgldccjbfaaGreatDoor.PSky
end
section
namespace Go.Proofs.YtjahbgldccjbfaaGreatDoor.PSky
open Go.RowKit Go.Maps Go.Proofs.YtjahbgldccjbfaaGreatDoorW.PrintWords Go.Proofs.YtjahbgldccjbfaaGreatDoorW.PrintLast Go.Proofs.YtjahbgldccjbfaaGreatDoorW.PrintMore
attribute [local go_sem] max2_int min2_int max_two min_two max_three min_three max_four min_four
def placeOf (start day s:Int):Int:=(sky_reached.f start s day).getD 0
def placed (start day:Int) (l:List Int):Bool:=l.all fun s=>match sky_reached.f start s day with|some p=>decide (0≤p) && decide (p<21600)|none=>false
def tally (ps:List Int) (p:Int):Int:=((ps.filter (fun q=>q == p)).length:Int)
def beforeN (ps:List Int):Nat→Int
 |0=>0
 |n+1=>beforeN ps n+tally ps ((n % 21600:Nat):Int)
def mostFrom (ps:List Int) (wide:Nat):Nat→Int
 |0=>0
 |n+1=>mx (mostFrom ps wide n) (beforeN ps (n+wide) - beforeN ps n)
def sky_left.f (start:Int) (l:List Int) (day off:Int):Option Int:=
 if placed start day l=true∧l.length≤1000000000∧0≤off∧off≤10800 then some (mostFrom (l.map (placeOf start day)) (mn (2*off+1) 21600).toNat 21600) else none
theorem placed_at {start day:Int} {l:List Int} (h:placed start day l=true) {i:Nat} (hi:i<l.length):sky_reached.f start l[i] day=some (placeOf start day l[i])∧0≤placeOf start day l[i]∧placeOf start day l[i]<21600:=by
 have h1:=List.all_eq_true.mp h l[i] (List.getElem_mem hi)
 unfold placeOf
 cases hs:sky_reached.f start l[i] day with
 |none=>simp [hs] at h1
 |some p=>simp [hs] at h1;exact ⟨rfl,h1.1,h1.2⟩
theorem tally_succ (ps:List Int) (i:Nat) (hi:i<ps.length) (p:Int):tally (ps.take (i+1)) p=tally (ps.take i) p+(if ps[i]=p then 1 else 0):=by
 unfold tally
 rw [List.take_add_one,List.getElem?_eq_getElem hi]
 simp only [Option.toList,List.filter_append,List.length_append]
 by_cases h:ps[i]=p
 ·simp [h]
 ·simp [h]
theorem tally_le (ps:List Int) (p:Int):0≤tally ps p∧tally ps p≤ps.length:=by
 unfold tally
 have:=List.length_filter_le (fun q=>q == p) ps
 omega
theorem beforeN_le (ps:List Int):∀ n,0≤beforeN ps n∧beforeN ps n≤n*ps.length
 |0=>⟨Int.le_refl _,by show (0:Int)≤((0:Nat):Int)*_;simp⟩
 |n+1=>by
  have h1:=beforeN_le ps n
  have h2:=tally_le ps ((n % 21600:Nat):Int)
  have h3:beforeN ps (n+1)=beforeN ps n+tally ps ((n % 21600:Nat):Int):=rfl
  have h4:((n+1:Nat):Int)*(ps.length:Int)=(n:Int)*ps.length+ps.length:=by rw [Int.natCast_add,Int.add_mul];simp
  rw [h3,h4]
  generalize tally ps ((n % 21600:Nat):Int)=t at h2
  generalize (n:Int)*(ps.length:Int)=m at h1
  omega
theorem rd_nat (l:List Int) (i:Nat) (hi:i<l.length):rd l (i:Int)=l[i]:=by
 unfold rd
 rw [Int.toNat_natCast]
 simp [hi]
theorem left_keyed:Keyed Tryz.prog 3:=int_keyed Tryz.underlying3
theorem left_zero (w:World):(zeroValue 3).run Tryz.prog w=.ok (.int .i64 0) w:=by kernel_rfl
theorem isKey_int (a:Int):WideAt.IsKeyLit (.int .i64 a):=by simp [WideAt.IsKeyLit]
def OftenIs (w:World) (b n:Nat) (ps:List Int):Prop:=
 ∃ D:DataW Nat,w.ownsMap Tryz.prog 3 (plainElem Tryz.prog 3) b n D∧∀ p:Int,D.atKey (.int .i64 p) (.lit (.int .i64 0))=.lit (.int .i64 (tally ps p))
theorem often_step {w w':World} {D:DataW Nat} {b n:Nat} {ps:List Int} {i:Nat} {c:Int} (hi:i<ps.length) (hown:w.ownsMap Tryz.prog 3 (plainElem Tryz.prog 3) b n D) (hD:∀ p:Int,D.atKey (.int .i64 p) (.lit (.int .i64 0))=.lit (.int .i64 (tally (ps.take i) p)))
  (hat:D.atKey (.int .i64 ps[i]) (.lit (.int .i64 0))=.lit (.int .i64 c)) (hlen:ps.length≤1000000000)
  (hown1:w'.ownsMap Tryz.prog 3 (plainElem Tryz.prog 3) b (n+1) (D.put (.int .i64 ps[i]) (.lit (.int .i64 (wrap64 (c+1)))))):OftenIs w' b (n+1) (ps.take (i+1)):=by
 refine ⟨_,hown1,fun p=>?_⟩
 have hc:c=tally (ps.take i) ps[i]:=by
  have:=hat.symm.trans (hD ps[i])
  simpa using this
 have h1:=tally_le (ps.take i) ps[i]
 have h2:((ps.take i).length:Int)≤ps.length:=by simp;omega
 rw [tally_succ ps i hi p]
 by_cases hp:ps[i]=p
 ·subst hp
  rw [atKey_put_same hown.isMap (isKey_int _),if_pos rfl,hc]
  congr 2
  unfold wrap64
  omega
 ·rw [atKey_put_other (by simpa using fun h=>hp h.symm),hD p,if_neg hp,Int.add_zero]
theorem row0 (ps:List Int) (j:Nat):Value.int .i64 0=Value.int .i64 (if j≤0 then beforeN ps j else 0):=by
 by_cases hj0:j≤0
 ·obtain rfl:j=0:=by omega
  rfl
 ·rw [if_neg hj0]
theorem rowStep (ps:List Int) (n j:Nat):(if j=n+1 then Value.int .i64 (beforeN ps (n+1)) else Value.int .i64 (if j≤n then beforeN ps j else 0))=Value.int .i64 (if j≤n+1 then beforeN ps j else 0):=by
 by_cases h1:j=n+1
 ·subst h1
  rw [if_pos rfl,if_pos (Nat.le_refl _)]
 ·rw [if_neg h1]
  by_cases h2:j≤n
  ·rw [if_pos h2,if_pos (by omega)]
  ·rw [if_neg h2,if_neg (by omega)]
set_option maxRecDepth 100000 in
set_option maxHeartbeats 3200000 in
theorem sky_left.calls (a0:Int) (A1:Option Addr) (c1:Nat) (l1:List Int) (a2 a3 r:Int) (w:World)
  (hr1:Kd.C (Kd.int .i64) w A1 l1.length l1) (hc1:l1.length≤c1) (h:sky_left.f a0 l1 a2 a3=some r):
  Calls Tryz.prog 109 #[.int .i64 a0,.slice A1 l1.length c1,.int .i64 a2,.int .i64 a3] w fun e w'=>e=.returned (.int .i64 r)∧Below w.heap.size w w':=by
 have HR:=A0_ hr1;have HC:=A0_ hc1;clear hr1 hc1
 unfold sky_left.f at h
 split at h
 case isFalse=>cases h
 rename_i hcond
 obtain ⟨hpl,hlen,ho0,ho1⟩:=hcond
 obtain rfl:=Option.some.inj h
 clear h
 have hmm:=@run_makeMap Tryz.prog
 have hmk:=run_make_row' (P:=Tryz.prog) 40 3 (.int .i64 0) 8 Tryz.underlying40 (by kernel_rfl) rfl .i64 .i64 43201 (by decide) (by decide)
 simp only [show ((43201:Nat):Int)=43201 from rfl] at hmk
 go_enter Tryz.func109,Tryz.ntmps109
 go_wp2
 go_loopg [20] (l1.length+1) (fun kq v20 w'=>∃ i:Nat,v20=.int .i64 (i:Int)∧kq+i=l1.length+1∧i≤l1.length∧Aside0 (OftenIs w' w.heap.size i ((l1.map (placeOf a0 a2)).take i))∧Aside0 (Below w.heap.size w w'))
 case atStart=>exact ⟨0,rfl,rfl,Nat.zero_le _,⟨.map [],World.ownsMap_made _ _ _ _,fun p=>rfl⟩,⟨(Below.refl _ _).alloc (Nat.le_refl _) _⟩⟩
 case round=>
  obtain ⟨i,rfl,hki,hil,HM,HB⟩:=hrel
  obtain ⟨D,hown,hD⟩:=HM.out
  by_cases hi:i<l1.length
  ·have c0:decide ((i:Int)<(l1.length:Int))=true:=decide_eq_true (by omega)
   obtain ⟨ad,e,hx⟩:=Kd.at_int HR.out (i:Int) (by omega) (by omega)
   cases e
   have hx2:=(HB.out.cell (World.block_lt_of_cell? w _ hx)).trans hx
   have hrd:rd l1 (i:Int)=l1[i]:=rd_nat l1 i hi
   rw [hrd,Int.toNat_natCast] at hx2
   obtain ⟨hre,hp0,hp1⟩:=placed_at hpl hi
   have i0:(0:Int)≤(i:Int):=by omega
   have i1:(i:Int)<(l1.length:Int):=by omega
   have hkey:keyOf Tryz.prog 3 (.int .i64 (placeOf a0 a2 l1[i]))=some (.int .i64 (placeOf a0 a2 l1[i])):=keyOf_int_mk Tryz.underlying3 (by rw [show placeOf a0 a2 l1[i]=wrap64 (placeOf a0 a2 l1[i]) from by unfold wrap64;omega];exact wrap64_wf _)
   have hcnt:=tally_le ((l1.map (placeOf a0 a2)).take i) (placeOf a0 a2 l1[i])
   have hcl:(((l1.map (placeOf a0 a2)).take i).length:Int)≤l1.length:=by simp;omega
   have hwrap:wrap64 (tally ((l1.map (placeOf a0 a2)).take i) (placeOf a0 a2 l1[i])+1)=tally ((l1.map (placeOf a0 a2)).take i) (placeOf a0 a2 l1[i])+1:=by unfold wrap64;omega
   go_wp2_with fail
   refine (sky_reached.calls a0 l1[i] a2 (placeOf a0 a2 l1[i]) _ hre).mono ?_
   rintro e w1 ⟨rfl,⟨nd,rfl⟩⟩
   go_wp2_with (first
    |(at_lookup;refine wpList_lookup_own_int _ rfl _ _ 163 rfl 3 3 .i64 left_keyed Tryz.underlying163 Tryz.underlying3 (left_zero _) w.heap.size i _ rfl hown _ _ rfl hkey ?_;intro c hat hwc)
    |(at_mapUpdate;refine wpList_mapUpdate_own _ rfl _ _ _ 163 rfl 3 3 left_keyed Tryz.underlying163 _ w.heap.size i _ rfl hown (by unfold maxLen;omega) _ _ _ rfl rfl hkey _ [] (plainElem_int Tryz.underlying3 (wrap64_wf _)) ?_;intro w2 hown1 hgrow1)
    |go_in)
   have hpi:i<(l1.map (placeOf a0 a2)).length:=by simpa using hi
   have hge:(l1.map (placeOf a0 a2))[i]=placeOf a0 a2 l1[i]:=by simp
   have HM2:=often_step hpi hown hD (by rw [hge];exact hat) (by simpa using hlen) (by rw [hge];exact hown1)
   have HB2:=(pw_below_drewN HB.out nd).grown hgrow1 (pw_below_drewN HB.out nd).size (fun j hj=>by cases hj;exact Nat.le_refl _)
   go_roundg (gk - 1)
   case measure=>omega
   case rel=>exact ⟨i+1,by simp,by omega,by omega,⟨HM2⟩,⟨HB2⟩⟩
  ·have c0:decide ((i:Int)<(l1.length:Int))=false:=decide_eq_false (by omega)
   obtain rfl:i=l1.length:=by omega
   have HRow:=A0_ (World.rowIs_made wr (.int .i64 0) 43201 3)
   have HM2:Aside0 (OftenIs (wr.alloc (.cells (madeCells #[.int .i64 0] 43201) 3)) w.heap.size l1.length (l1.map (placeOf a0 a2))):=⟨D,hown.alloc _,by rw [List.take_of_length_le (by simp)] at hD;exact hD⟩
   have HB2:=A0_ (below_alloc HB.out (.cells (madeCells #[.int .i64 0] 43201) 3))
   have hgm:w.heap.size<wr.heap.size:=hown.lt
   clear HM HB hown hD hmm;go_wp2
   generalize hW:wr.alloc (.cells (madeCells #[.int .i64 0] 43201) 3)=W2 at HRow HM2 HB2 ⊢
   generalize hG:wr.heap.size=g at HRow hgm ⊢
   clear hW hG hmk
   go_loopg [33] 43201 (fun kq v33 w'=>∃ n:Nat,v33=.int .i64 (n:Int)∧kq+n=43201∧n≤43200∧Aside0 (OftenIs w' w.heap.size l1.length (l1.map (placeOf a0 a2)))∧Aside0 (w'.rowIs g 3 43201 (fun j=>.int .i64 (if j≤n then beforeN (l1.map (placeOf a0 a2)) j else 0)))∧Aside0 (Below w.heap.size w w'))
   case atStart=>exact ⟨0,rfl,rfl,Nat.zero_le _,HM2,⟨HRow.out.congr (fun j hj=>row0 _ j)⟩,HB2⟩
   case round=>
    clear HRow HM2 HB2
    obtain ⟨n,rfl,hkn,hn,HM,HW,HB⟩:=hrel
    by_cases hn2:n<43200
    ·have c1:decide ((n:Int)<43200)=true:=decide_eq_true (by omega)
     obtain ⟨D,hown,hD⟩:=HM.out
     have hkey:keyOf Tryz.prog 3 (.int .i64 (((n:Int) % 21600)))=some (.int .i64 (((n:Int) % 21600))):=keyOf_int_mk Tryz.underlying3 (by rw [show ((n:Int) % 21600)=wrap64 (((n:Int) % 21600)) from by unfold wrap64;omega];exact wrap64_wf _)
     obtain ⟨c,hrun,hat,hwc⟩:=hown.drew.lookup_int left_keyed Tryz.underlying163 Tryz.underlying3 (left_zero _) hkey
     have hx:=HW.out.cell (i:=n) (by omega)
     have hx1:=HW.out.cell (i:=n+1) (by omega)
     have hz1:=HW.out.frozen (n+1)
     rw [if_pos (Nat.le_refl n)] at hx
     rw [if_neg (by omega)] at hx1
     have hwn:IntKind.i64.wrap ((n:Int)+1)=(n:Int)+1:=by rw [i64_w];unfold wrap64;omega
     have j0:(0:Int)≤(n:Int):=by omega
     have j1:(n:Int)<43201:=by omega
     have j2:(0:Int)≤(n:Int)+1:=by omega
     have j3:(n:Int)+1<43201:=by omega
     have j4:((n:Int)+1).toNat=n+1:=by omega
     go_wp2
     have hc:c=tally (l1.map (placeOf a0 a2)) ((n % 21600:Nat):Int):=by
      have:=hat.symm.trans (hD _)
      simpa using this
     have hb1:=beforeN_le (l1.map (placeOf a0 a2)) n
     have hb2:=tally_le (l1.map (placeOf a0 a2)) ((n % 21600:Nat):Int)
     have hb3:((l1.map (placeOf a0 a2)).length:Int)≤1000000000:=by simp;omega
     have hb4:(n:Int)*((l1.map (placeOf a0 a2)).length:Int)≤43200*1000000000:=Int.mul_le_mul (by omega) hb3 (by omega) (by omega)
     have hwc2:wrap64 (beforeN (l1.map (placeOf a0 a2)) n+c)=beforeN (l1.map (placeOf a0 a2)) (n+1):=by
      rw [show beforeN (l1.map (placeOf a0 a2)) (n+1)=beforeN (l1.map (placeOf a0 a2)) n+tally (l1.map (placeOf a0 a2)) ((n % 21600:Nat):Int) from rfl,hc]
      unfold wrap64
      omega
     clear hc;clear hb1 hb2 hb3 hb4
     go_region
     all_goals go_wp2
     go_roundg (43200 - n)
     case measure=>omega
     case rel=>exact ⟨n+1,by simp,by omega,by omega,⟨D,hown.drew.setCell (by simp only;omega) _,hD⟩,⟨(HW.out.drew.set (n+1) _).congr (fun j hj=>rowStep _ n j)⟩,⟨below_set (below_drew1 HB.out) (by omega)⟩⟩
    ·have c1:decide ((n:Int)<43200)=false:=decide_eq_false (by omega)
     have hn43:n=43200:=by omega
     have HW2:=HW.out.congr (g:=fun j=>.int .i64 (beforeN (l1.map (placeOf a0 a2)) j)) (fun j hj=>by rw [if_pos (by omega)])
     have hwm:IntKind.i64.wrap (2*a3)=2*a3:=by rw [i64_w];unfold wrap64;omega
     have hwm1:IntKind.i64.wrap (2*a3+1)=2*a3+1:=by rw [i64_w];unfold wrap64;omega
     have hmin:(2*a3+1≤21600∧mn (2*a3+1) 21600=2*a3+1)∨(¬ 2*a3+1≤21600∧mn (2*a3+1) 21600=21600):=by unfold mn;split <;> omega
     have HB1:=HB;have HWA:=A0_ HW2;clear HW HM HB HW2
     rcases hmin with ⟨hm,hmv⟩|⟨hm,hmv⟩
     ·go_wp2
      have hwd:(((2*a3+1).toNat:Nat):Int)=2*a3+1:=by omega
      go_loopg [15,54] 21601 (fun kq v15 v54 w'=>∃ n:Nat,v54=.int .i64 (n:Int)∧kq+n=21601∧n≤21600∧v15=.int .i64 (mostFrom (l1.map (placeOf a0 a2)) (2*a3+1).toNat n)∧Aside0 (w'.rowIs g 3 43201 (fun j=>.int .i64 (beforeN (l1.map (placeOf a0 a2)) j)))∧Aside0 (Below w.heap.size w w'))
      case atStart=>exact ⟨0,rfl,rfl,Nat.zero_le _,rfl,HWA,HB1⟩
      case round=>
       clear HWA HB1
       obtain ⟨n,rfl,hkn,hn,rfl,HW,HB⟩:=hrel
       by_cases hn2:n<21600
       ·have d1:decide ((n:Int)<21600)=true:=decide_eq_true (by omega)
        have hx:=HW.out.cell (i:=n) (by omega)
        have hx1:=HW.out.cell (i:=n+(2*a3+1).toNat) (by omega)
        have hwn:IntKind.i64.wrap ((n:Int)+(2*a3+1))=(n:Int)+(2*a3+1):=by rw [i64_w];unfold wrap64;omega
        have hwn1:IntKind.i64.wrap ((n:Int)+1)=(n:Int)+1:=by rw [i64_w];unfold wrap64;omega
        have j0:(0:Int)≤(n:Int):=by omega
        have j1:(n:Int)<43201:=by omega
        have j2:(0:Int)≤(n:Int)+(2*a3+1):=by omega
        have j3:(n:Int)+(2*a3+1)<43201:=by omega
        have j4:((n:Int)+(2*a3+1)).toNat=n+(2*a3+1).toNat:=by omega
        have hb3:((l1.map (placeOf a0 a2)).length:Int)≤1000000000:=by simp;omega
        have hb1:=beforeN_le (l1.map (placeOf a0 a2)) n
        have hb2:=beforeN_le (l1.map (placeOf a0 a2)) (n+(2*a3+1).toNat)
        have hb4:(n:Int)*((l1.map (placeOf a0 a2)).length:Int)≤43200*1000000000:=Int.mul_le_mul (by omega) hb3 (by omega) (by omega)
        have hb5:((n+(2*a3+1).toNat:Nat):Int)*((l1.map (placeOf a0 a2)).length:Int)≤43200*1000000000:=Int.mul_le_mul (by omega) hb3 (by omega) (by omega)
        have hwd2:IntKind.i64.wrap (beforeN (l1.map (placeOf a0 a2)) (n+(2*a3+1).toNat) - beforeN (l1.map (placeOf a0 a2)) n)=beforeN (l1.map (placeOf a0 a2)) (n+(2*a3+1).toNat) - beforeN (l1.map (placeOf a0 a2)) n:=by rw [i64_w];unfold wrap64;omega
        clear hb1 hb2 hb3 hb4 hb5
        have hV:(if mostFrom (l1.map (placeOf a0 a2)) (2*a3+1).toNat n<(beforeN (l1.map (placeOf a0 a2)) (n+(2*a3+1).toNat) - beforeN (l1.map (placeOf a0 a2)) n) then (beforeN (l1.map (placeOf a0 a2)) (n+(2*a3+1).toNat) - beforeN (l1.map (placeOf a0 a2)) n) else mostFrom (l1.map (placeOf a0 a2)) (2*a3+1).toNat n)=mostFrom (l1.map (placeOf a0 a2)) (2*a3+1).toNat (n+1):=rfl
        generalize hMV:mostFrom (l1.map (placeOf a0 a2)) (2*a3+1).toNat (n+1)=MV at hV
        go_wp2
        go_region
        clear hV;go_wp2
        go_roundg (21600 - n)
        case measure=>omega
        case rel=>exact ⟨n+1,by simp,by omega,by omega,by rw [hMV],⟨HW.out.drew⟩,⟨below_drew1 HB.out⟩⟩
       ·have d1:decide ((n:Int)<21600)=false:=decide_eq_false (by omega)
        have hn216:n=21600:=by omega
        go_wp2;go_ret;subst hn216
        rw [hmv]
        exact ⟨rfl,HB.out⟩
     ·go_wp2
      skip
      go_loopg [15,54] 21601 (fun kq v15 v54 w'=>∃ n:Nat,v54=.int .i64 (n:Int)∧kq+n=21601∧n≤21600∧v15=.int .i64 (mostFrom (l1.map (placeOf a0 a2)) 21600 n)∧Aside0 (w'.rowIs g 3 43201 (fun j=>.int .i64 (beforeN (l1.map (placeOf a0 a2)) j)))∧Aside0 (Below w.heap.size w w'))
      case atStart=>exact ⟨0,rfl,rfl,Nat.zero_le _,rfl,HWA,HB1⟩
      case round=>
       clear HWA HB1
       obtain ⟨n,rfl,hkn,hn,rfl,HW,HB⟩:=hrel
       by_cases hn2:n<21600
       ·have d1:decide ((n:Int)<21600)=true:=decide_eq_true (by omega)
        have hx:=HW.out.cell (i:=n) (by omega)
        have hx1:=HW.out.cell (i:=n+21600) (by omega)
        have hwn:IntKind.i64.wrap ((n:Int)+21600)=(n:Int)+21600:=by rw [i64_w];unfold wrap64;omega
        have hwn1:IntKind.i64.wrap ((n:Int)+1)=(n:Int)+1:=by rw [i64_w];unfold wrap64;omega
        have j0:(0:Int)≤(n:Int):=by omega
        have j1:(n:Int)<43201:=by omega
        have j2:(0:Int)≤(n:Int)+21600:=by omega
        have j3:(n:Int)+21600<43201:=by omega
        have j4:((n:Int)+21600).toNat=n+21600:=by omega
        have hb3:((l1.map (placeOf a0 a2)).length:Int)≤1000000000:=by simp;omega
        have hb1:=beforeN_le (l1.map (placeOf a0 a2)) n
        have hb2:=beforeN_le (l1.map (placeOf a0 a2)) (n+21600)
        have hb4:(n:Int)*((l1.map (placeOf a0 a2)).length:Int)≤43200*1000000000:=Int.mul_le_mul (by omega) hb3 (by omega) (by omega)
        have hb5:((n+21600:Nat):Int)*((l1.map (placeOf a0 a2)).length:Int)≤43200*1000000000:=Int.mul_le_mul (by omega) hb3 (by omega) (by omega)
        have hwd2:IntKind.i64.wrap (beforeN (l1.map (placeOf a0 a2)) (n+21600) - beforeN (l1.map (placeOf a0 a2)) n)=beforeN (l1.map (placeOf a0 a2)) (n+21600) - beforeN (l1.map (placeOf a0 a2)) n:=by rw [i64_w];unfold wrap64;omega
        clear hb1 hb2 hb3 hb4 hb5
        have hV:(if mostFrom (l1.map (placeOf a0 a2)) 21600 n<(beforeN (l1.map (placeOf a0 a2)) (n+21600) - beforeN (l1.map (placeOf a0 a2)) n) then (beforeN (l1.map (placeOf a0 a2)) (n+21600) - beforeN (l1.map (placeOf a0 a2)) n) else mostFrom (l1.map (placeOf a0 a2)) 21600 n)=mostFrom (l1.map (placeOf a0 a2)) 21600 (n+1):=rfl
        generalize hMV:mostFrom (l1.map (placeOf a0 a2)) 21600 (n+1)=MV at hV
        go_wp2
        go_region
        clear hV;go_wp2
        go_roundg (21600 - n)
        case measure=>omega
        case rel=>exact ⟨n+1,by simp,by omega,by omega,by rw [hMV],⟨HW.out.drew⟩,⟨below_drew1 HB.out⟩⟩
       ·have d1:decide ((n:Int)<21600)=false:=decide_eq_false (by omega)
        have hn216:n=21600:=by omega
        go_wp2;go_ret;subst hn216
        rw [hmv,show (21600:Int).toNat=21600 from rfl]
        exact ⟨rfl,HB.out⟩
end Go.Proofs.YtjahbgldccjbfaaGreatDoor.PSky
end
section
namespace Go.Proofs.YtjahbgldccjbfaaGreatDoor.PSky
open Go.RowKit Go.Proofs.YtjahbgldccjbfaaGreatDoorW.PrintWords Go.Proofs.YtjahbgldccjbfaaGreatDoorW.PrintLast Go.Proofs.YtjahbgldccjbfaaGreatDoorW.PrintMore
set_option maxRecDepth 100000 in
set_option maxHeartbeats 1600000 in
theorem Watch_c2.calls (k:Nat) (A1:Option Addr) (c1:Nat) (l1:List S89) (a0 a2 a3:Int) (r:List Int) (b0 b1 b2 b3 ob:Nat) (w:World)
  (h0:w.heap[b0]?=some (.cells #[.int .i64 a0] 3 (0,0))) (h1:w.heap[b1]?=some (.cells #[.slice A1 l1.length c1] 91 (0,0)))
  (h2:w.heap[b2]?=some (.cells #[.int .i64 a2] 3 (0,0))) (h3:w.heap[b3]?=some (.cells #[.int .i64 a3] 3 (0,0)))
  (ho:w.heap[ob]?=some (.cells #[.slice none 0 0] 40 (0,0)))
  (hr:Kd.C k89 w A1 l1.length l1) (hc:l1.length≤c1) (h:sky_agreeing.f k a0 l1 a2 a3=some r):
  Calls Tryz.prog 108 #[.pointer (some ⟨b0,0,none⟩),.pointer (some ⟨b1,0,none⟩),.pointer (some ⟨b2,0,none⟩),.pointer (some ⟨b3,0,none⟩),.pointer (some ⟨ob,0,none⟩)] w (AgreeEnds ob r w):=by
 have HR:=A0_ hr;have HC:=A0_ hc;have HF:=A0_ h
 have x0:=blk_cell h0 0
 have x1:=blk_cell h1 0
 have x2:=blk_cell h2 0
 have x3:=blk_cell h3 0
 simp at x0 x1 x2 x3
 have HO:=A0_ ho;clear hr hc h h0 h1 h2 h3 ho
 go_enter Tryz.func108,Tryz.ntmps108
 go_wp2_with fail
 refine (sky_agreeing.calls k a0 A1 c1 l1 a2 a3 r _ HR.out HC.out HF.out).mono ?_
 rintro e w1 (⟨hr,rfl,hb⟩|⟨hr,v,rfl,hv,hb⟩)
 ·exact ⟨rfl,Or.inl ⟨hr,rfl,hb⟩⟩
 ·have y0:=blk_cell (blk_below HO.out hb) 0
  have y1:=blk_frozen (blk_below HO.out hb) 0
  simp at y0 y1
  have HV:=A0_ hv
  obtain ⟨A,c,rfl,-⟩:=Kd.R_reads hv
  clear hv
  go_wp2_with fail
  go_end0
  exact Or.inr ⟨hr,rfl,_,w1,HV.out,hb,rfl⟩
theorem in_true {x a b:Int} (h:sky_in.f x a b=some true):a≤x∧x≤b:=by
 unfold sky_in.f at h
 by_cases h1:x ≥ a
 ·rw [if_pos h1] at h
  exact ⟨h1,by simpa using h⟩
 ·rw [if_neg h1] at h
  simp at h
theorem info_watch:(Tryz.prog.info? 137).map (fun i=>(i.zero,i.size,i.bytes))=some (some (.agg #[(.int .i64 0),(.int .i64 0)]),2,16):=by kernel_rfl
theorem und_watch:Tryz.prog.underlying 134=some (.slice 137):=by kernel_rfl
def leftOf (start:Int) (l:List Int) (off d:Int):Int:=(sky_left.f start l d off).getD 0
def watchList (start:Int) (l:List Int) (off:Int) (days:List Int) (n:Nat):List S137:=(List.range n).map (fun i:Nat=>(⟨(i:Int),leftOf start l off (rd days (i:Int))⟩:S137))
theorem watchList_succ (start:Int) (l:List Int) (off:Int) (days:List Int) (n:Nat):watchList start l off days (n+1)=watchList start l off days n ++ [(⟨(n:Int),leftOf start l off (rd days (n:Int))⟩:S137)]:=by
 unfold watchList
 rw [List.range_succ,List.map_append]
 rfl
theorem watchList_zero (start:Int) (l:List Int) (off:Int) (days:List Int):watchList start l off days 0=[]:=rfl
theorem watchList_length (start:Int) (l:List Int) (off:Int) (days:List Int) (n:Nat):(watchList start l off days n).length=n:=by simp [watchList]
theorem left_some {a0:Int} {r:List Int} {a5 d:Int} (h:(sky_left.f a0 r d a5).isSome=true):sky_left.f a0 r d a5=some (leftOf a0 r a5 d):=by
 unfold leftOf
 cases hq:sky_left.f a0 r d a5 with
 |none=>rw [hq] at h;cases h
 |some q=>rfl
def sky_Watch.f (k:Nat) (a0:Int) (l:List S89) (a2 a3:Int) (days:List Int) (off:Int):Option (Int × Int × Int):=
 (sky_areNotes.f k a0 l a2 a3).bind fun b1=>if b1=true then (sky_in.f (days.length:Int) 1 6).bind fun b2=>if b2=true then (cF_Watch_c1.f k days).bind fun b3=>if b3=false then (sky_isOff.f off).bind fun b4=>if b4=true then
  (sky_agreeing.f k a0 l a2 a3).bind fun r=>if r=[] then some (0,0,5) else if ∀ d∈days,(sky_left.f a0 r d off).isSome=true then (at_best_Watch_c3.f k (watchList a0 r off days days.length)).bind fun w=>some (w.1,w.2,0) else none
  else some (0,0,2) else some (0,0,2) else some (0,0,2) else some (0,0,2)
attribute [local irreducible] watchList leftOf
set_option maxRecDepth 100000 in
set_option maxHeartbeats 3200000 in
theorem sky_Watch.calls (k:Nat) (a0:Int) (A1:Option Addr) (c1:Nat) (l1:List S89) (a2 a3:Int) (A4:Option Addr) (c4:Nat) (l4:List Int) (a5 r1 r2 r3:Int) (w:World)
  (hr1:Kd.C k89 w A1 l1.length l1) (hc1:l1.length≤c1) (hr4:Kd.C (Kd.int .i64) w A4 l4.length l4) (hc4:l4.length≤c4) (h:sky_Watch.f k a0 l1 a2 a3 l4 a5=some (r1,r2,r3)):
  Calls Tryz.prog 56 #[.int .i64 a0,.slice A1 l1.length c1,.int .i64 a2,.int .i64 a3,.slice A4 l4.length c4,.int .i64 a5] w fun e w'=>e=.returned (.tuple #[.int .i64 r1,.int .i64 r2,.int .i64 r3])∧Below w.heap.size w w':=by
 have HR:=A0_ hr1;have HC:=A0_ hc1;have HR4:=A0_ hr4;have HC4:=A0_ hc4;clear hr1 hc1 hr4 hc4
 have hmf:∀ (fn:Fn) (first cap:Array Value) (w:World),(Instr.makeFunc fn first cap).run Tryz.prog w=.ok (.func fn first cap) w:=fun _ _ _ _=>rfl
 have hcf:∀ (args:Array Value) (W:World),(callFunc 108 args).run Tryz.prog W=.ok (.enter 108 args) W:=fun _ _=>rfl
 obtain ⟨b1,hb1,h1⟩:=Option.bind_eq_some_iff.mp h
 have HB0:=A0_ hb1;clear h hb1
 have q0:=blk_alloc (blk_alloc (blk_alloc (blk_new w (.cells #[.int .i64 a0] 3)) (.cells #[.slice A1 l1.length c1] 91)) (.cells #[.int .i64 a2] 3)) (.cells #[.int .i64 a3] 3)
 have q1:=blk_alloc (blk_alloc (blk_new (w.alloc (.cells #[.int .i64 a0] 3)) (.cells #[.slice A1 l1.length c1] 91)) (.cells #[.int .i64 a2] 3)) (.cells #[.int .i64 a3] 3)
 have q2:=blk_alloc (blk_new ((w.alloc (.cells #[.int .i64 a0] 3)).alloc (.cells #[.slice A1 l1.length c1] 91)) (.cells #[.int .i64 a2] 3)) (.cells #[.int .i64 a3] 3)
 have q3:=blk_new (((w.alloc (.cells #[.int .i64 a0] 3)).alloc (.cells #[.slice A1 l1.length c1] 91)).alloc (.cells #[.int .i64 a2] 3)) (.cells #[.int .i64 a3] 3)
 have HB:=A0_ (below_alloc (below_alloc (below_alloc (below_alloc (Below.refl w.heap.size w) (.cells #[.int .i64 a0] 3)) (.cells #[.slice A1 l1.length c1] 91)) (.cells #[.int .i64 a2] 3)) (.cells #[.int .i64 a3] 3))
 simp only [World.size_alloc] at q1 q2 q3
 have Q0:=A0_ q0;have Q1:=A0_ q1;have Q2:=A0_ q2;have Q3:=A0_ q3;clear q0 q1 q2 q3
 go_enter Tryz.func56,Tryz.ntmps56
 go_wp2_with fail
 refine (sky_areNotes.calls k a0 A1 c1 l1 a2 a3 b1 _ (Kd.C_below HR.out HB.out) HC.out HB0.out).mono ?_
 rintro e w1 ⟨rfl,hb⟩
 have P0:=A0_ (blk_below Q0.out hb)
 have P1:=A0_ (blk_below Q1.out hb)
 have P2:=A0_ (blk_below Q2.out hb)
 have P3:=A0_ (blk_below Q3.out hb)
 have HBa:=A0_ (below_step HB.out hb)
 clear Q0 Q1 Q2 Q3 HB hb
 cases b1 with
 |false=>
  obtain ⟨rfl,rfl,rfl⟩:(0:Int)=r1∧(0:Int)=r2∧(2:Int)=r3:=by simpa using h1
  go_wp2
  go_ret3
  exact ⟨rfl,HBa.out⟩
 |true=>
 obtain ⟨b2,hb2,h2⟩:=Option.bind_eq_some_iff.mp (show ((sky_in.f (l4.length:Int) 1 6).bind _)=some (r1,r2,r3) from by simpa using h1)
 have HB2:=A0_ hb2;clear h1 hb2
 go_wp2_with fail
 refine (sky_in.calls _ _ _ b2 _ HB2.out).mono ?_
 rintro e w2 ⟨rfl,⟨nd,rfl⟩⟩
 have P0a:=A0_ (blk_drewN P0.out nd)
 have P1a:=A0_ (blk_drewN P1.out nd)
 have P2a:=A0_ (blk_drewN P2.out nd)
 have P3a:=A0_ (blk_drewN P3.out nd)
 have HBb:=A0_ (pw_below_drewN HBa.out nd)
 clear P0 P1 P2 P3 HBa
 generalize w1.drewN nd=w3 at P0a P1a P2a P3a HBb ⊢
 cases b2 with
 |false=>
  obtain ⟨rfl,rfl,rfl⟩:(0:Int)=r1∧(0:Int)=r2∧(2:Int)=r3:=by simpa using h2
  go_wp2
  go_ret3
  exact ⟨rfl,HBb.out⟩
 |true=>
 obtain ⟨b3,hb3,h3⟩:=Option.bind_eq_some_iff.mp (show ((cF_Watch_c1.f k l4).bind _)=some (r1,r2,r3) from by simpa using h2)
 have HB3:=A0_ hb3;clear h2 hb3
 go_wp2_with fail
 refine (cF_Watch_c1.calls k A4 c4 l4 b3 _ (Kd.C_below HR4.out HBb.out) HC4.out HB3.out).mono ?_
 rintro e w2 ⟨rfl,⟨nd,rfl⟩⟩
 have P0b:=A0_ (blk_drewN P0a.out nd)
 have P1b:=A0_ (blk_drewN P1a.out nd)
 have P2b:=A0_ (blk_drewN P2a.out nd)
 have P3b:=A0_ (blk_drewN P3a.out nd)
 have HBc:=A0_ (pw_below_drewN HBb.out nd)
 clear P0a P1a P2a P3a HBb
 generalize w3.drewN nd=w4 at P0b P1b P2b P3b HBc ⊢
 cases b3 with
 |true=>
  obtain ⟨rfl,rfl,rfl⟩:(0:Int)=r1∧(0:Int)=r2∧(2:Int)=r3:=by simpa using h3
  go_wp2
  go_ret3
  exact ⟨rfl,HBc.out⟩
 |false=>
 obtain ⟨b4,hb4,h4⟩:=Option.bind_eq_some_iff.mp (show ((sky_isOff.f a5).bind _)=some (r1,r2,r3) from by simpa using h3)
 have HB4:=A0_ hb4;clear h3 hb4
 go_wp2_with fail
 refine (sky_isOff.calls _ b4 _ HB4.out).mono ?_
 rintro e w2 ⟨rfl,⟨nd,rfl⟩⟩
 have P0c:=A0_ (blk_drewN P0b.out nd)
 have P1c:=A0_ (blk_drewN P1b.out nd)
 have P2c:=A0_ (blk_drewN P2b.out nd)
 have P3c:=A0_ (blk_drewN P3b.out nd)
 have HBd:=A0_ (pw_below_drewN HBc.out nd)
 clear P0b P1b P2b P3b HBc
 generalize w4.drewN nd=w5 at P0c P1c P2c P3c HBd ⊢
 cases b4 with
 |false=>
  obtain ⟨rfl,rfl,rfl⟩:(0:Int)=r1∧(0:Int)=r2∧(2:Int)=r3:=by simpa using h4
  go_wp2
  go_ret3
  exact ⟨rfl,HBd.out⟩
 |true=>
 obtain ⟨r,hr0,h5⟩:=Option.bind_eq_some_iff.mp (show ((sky_agreeing.f k a0 l1 a2 a3).bind _)=some (r1,r2,r3) from by simpa using h4)
 clear h4
 have hle:=HBd.out.size
 have hlt:=blk_lt P3c.out
 go_wp2_with fail
 have p0:=blk_alloc (blk_alloc P0c.out (.cells #[.slice none 0 0] 40)) (.cells #[.int .i64 0] 30)
 have p1:=blk_alloc (blk_alloc P1c.out (.cells #[.slice none 0 0] 40)) (.cells #[.int .i64 0] 30)
 have p2:=blk_alloc (blk_alloc P2c.out (.cells #[.slice none 0 0] 40)) (.cells #[.int .i64 0] 30)
 have p3:=blk_alloc (blk_alloc P3c.out (.cells #[.slice none 0 0] 40)) (.cells #[.int .i64 0] 30)
 have po:=blk_alloc (blk_new w5 (.cells #[.slice none 0 0] 40)) (.cells #[.int .i64 0] 30)
 have pe:=blk_new (w5.alloc (.cells #[.slice none 0 0] 40)) (.cells #[.int .i64 0] 30)
 have HBe:=A0_ (below_alloc (below_alloc HBd.out (.cells #[.slice none 0 0] 40)) (.cells #[.int .i64 0] 30))
 have hcc:=Watch_c2.calls k A1 c1 l1 a0 a2 a3 r w.heap.size (w.heap.size+1) (w.heap.size+1+1) (w.heap.size+1+1+1) w5.heap.size _ p0 p1 p2 p3 po (Kd.C_below HR.out HBe.out) HC.out hr0
 simp only [World.size_alloc] at pe
 by_cases hrn:r=[]
 ·rw [if_pos hrn] at h5
  obtain ⟨rfl,rfl,rfl⟩:(0:Int)=r1∧(0:Int)=r2∧(5:Int)=r3:=by simpa using h5
  refine (try_gaveUp _ _ 5 _ (fun w'=>Below w.heap.size w w') (hcf _) (hcc.mono ?_)).mono ?_
  ·rintro e w2 (⟨-,rfl,hb⟩|⟨hn,-⟩)
   ·simp only [World.size_alloc]
    exact ⟨trivial,(blk_cell (blk_below pe hb) 0).trans rfl,blk_frozen (blk_below pe hb) 0,below_step HBe.out hb⟩
   ·exact absurd hrn hn
  rintro e w2 ⟨rfl,w6,hb,rfl⟩
  clear p0 p1 p2 p3 po pe hcc
  go_wp2_with fail
  go_ret3
  exact ⟨rfl,below_alloc (below_set hb y32_) _⟩
 ·rw [if_neg hrn] at h5
  by_cases hall:∀ d∈l4,(sky_left.f a0 r d a5).isSome=true
  ·rw [if_pos hall] at h5
   obtain ⟨wt,hwt,h6⟩:=Option.bind_eq_some_iff.mp h5
   obtain ⟨t1,t2⟩:=wt
   obtain ⟨rfl,rfl,rfl⟩:t1=r1∧t2=r2∧(0:Int)=r3:=by simpa using h6
   have HWT:=A0_ hwt;have HALL:=A0_ hall;clear h5 h6 hwt hall
   refine (try_done _ _ _ (fun w'=>Below w.heap.size w w'∧w'.heap[w.heap.size]?=some (.cells #[.int .i64 a0] 3 (0,0))∧∃ v,Kd.R (Kd.int .i64) 3 w' w.heap.size (fun _=>True) v r∧w'.heap[w5.heap.size]?=some (.cells #[v] 40 (0,0))∧w'.heap[w5.heap.size+1]?=some (.cells #[.int .i64 0] 30 (0,0))) (hcf _) (hcc.mono ?_)).mono ?_
   ·rintro e w2 (⟨hn,-⟩|⟨-,rfl,v,w6,hv,hb,rfl⟩)
    ·exact absurd hn hrn
    ·simp only [World.size_alloc]
     have po2:=blk_below po hb
     have pe2:=blk_far (p:=⟨w5.heap.size,0,none⟩) (blk_below pe hb) (by simp) v
     refine ⟨trivial,(blk_cell pe2 0).trans rfl,blk_frozen pe2 0,below_set (below_step HBe.out hb) hle,blk_far (blk_below p0 hb) (by simp;omega) _,v,Kd.R_set (Kd.R_lower hv (by simp only [World.size_alloc];omega)) po2 (by decide) _ _,blk_set po2 0 _,pe2⟩
   rintro e w2 ⟨rfl,w6,⟨hb,hs,v,hv,hov,hpe⟩,rfl⟩
   simp only [World.size_alloc]
   have S0:=A0_ (blk_far (p:=⟨w5.heap.size+1,0,none⟩) hs (by simp only;omega) (.int .i64 0))
   have SO:=A0_ (blk_far (p:=⟨w5.heap.size+1,0,none⟩) hov (by simp) (.int .i64 0))
   have SV:=A0_ (Kd.R_set hv hpe (by decide) 0 (.int .i64 0))
   have HBf:=A0_ (below_set (g:=w5.heap.size+1) (j:=0) (v:=.int .i64 0) hb (by omega))
   generalize w6.setCell ⟨w5.heap.size+1,0,none⟩ (.int .i64 0)=w7 at S0 SO SV HBf ⊢
   clear hs hov hv hb hpe p0 p1 p2 p3 po pe hcc P0c P1c P2c P3c
   generalize w5.heap.size=ob at SO hle ⊢
   go_wp2
   go_loopg [17,49] (l4.length+1) (fun kq v17 v49 w'=>∃ n:Nat,v49=.int .i64 (n:Int)∧kq+n=l4.length+1∧n≤l4.length∧Aside0 (Kd.R k137 137 w' w.heap.size (fun _=>True) v17 (watchList a0 r a5 l4 n))
    ∧ Aside0 (w'.heap[w.heap.size]?=some (.cells #[.int .i64 a0] 3 (0,0)))∧Aside0 (w'.heap[ob]?=some (.cells #[v] 40 (0,0)))∧Aside0 (Kd.R (Kd.int .i64) 3 w' w.heap.size (fun _=>True) v r)∧Aside0 (Below w.heap.size w w'))
   case atStart=>exact ⟨0,rfl,by omega,Nat.zero_le _,⟨by rw [watchList_zero];exact Kd.R_nil _ _ _ _ _⟩,S0,SO,SV,HBf⟩
   case round=>
    clear S0 SO SV HBf
    obtain ⟨n,rfl,hkn,hn,HL,S0,SO,SV,HBf⟩:=hrel
    by_cases hi:n<l4.length
    ·have c0:decide ((n:Int)<(l4.length:Int))=true:=decide_eq_true (by omega)
     obtain ⟨ad,e,hx⟩:=Kd.at_int HR4.out (n:Int) (by omega) (by omega)
     cases e
     have hx2:=(HBf.out.cell (World.block_lt_of_cell? w _ hx)).trans hx
     rw [Int.toNat_natCast] at hx2
     have i0:(0:Int)≤(n:Int):=by omega
     have i1:(n:Int)<(l4.length:Int):=by omega
     obtain ⟨A,c,rfl,hcl,hCl⟩:=Kd.R_reads SV.out
     have z0:=blk_cell S0.out 0
     have z1:=blk_cell SO.out 0
     simp at z0 z1
     have hlf:=left_some (HALL.out (rd l4 (n:Int)) (by rw [rd_nat l4 n hi];exact List.getElem_mem hi))
     have HCL:=A0_ hCl;have HCC:=A0_ hcl;clear hCl hcl hx
     go_wp2_with fail
     refine (sky_left.calls a0 A c r (rd l4 (n:Int)) a5 _ _ HCL.out HCC.out hlf).mono ?_
     rintro e w8 ⟨rfl,hb⟩
     have HL2:=A0_ (Kd.R_below HL.out hb)
     have S02:=A0_ (blk_below S0.out hb)
     have SO2:=A0_ (blk_below SO.out hb)
     have SV2:=A0_ (Kd.R_below SV.out hb)
     have HBg:=A0_ (below_step HBf.out hb)
     clear hb HL S0 SO SV HBf z0 z1 hx2
     have hl6:=(in_true HB2.out).2
     have hwl:=watchList_length a0 r a5 l4 n
     have HWL:=A0_ hwl;clear hwl
     go_wp2_with (first|((with_reducible refine gate_builtin (b:=.append) (xs:=#[.tmp 54,.tmp 62]) rfl ?_);at_builtin;refine Kd.R_append k137 (w0:=w) w.heap.size rfl (.tmp 54) (.tmp 62) 134 137 (.agg #[(.int .i64 0),(.int .i64 0)]) 16 rfl und_watch info_watch rfl (by decide) (by omega) u17 (watchList a0 r a5 l4 n) (⟨(n:Int),leftOf a0 r a5 (rd l4 (n:Int))⟩:S137) [.int .i64 (n:Int),.int .i64 (leftOf a0 r a5 (rd l4 (n:Int)))] (fun _=>True) (fun _=>False) rfl rfl ?aP (fun _ hk=>hk.elim) ?aF ?aO ?aB ?aS ?aL ?_;(case aP=>exact k137_mkM _ _ _ (⟨(n:Int),leftOf a0 r a5 (rd l4 (n:Int))⟩:S137));(case aB=>exact HBg.out);(case aF=>exact (fun _ _=>trivial));(case aO=>exact HL2.out);(case aS=>exact HBg.out.size);(case aL=>rw [HWL.out];omega);intro v1 w9 ho hb hg hat))
     have HL3:=A0_ ho
     have S03:=A0_ (blk_grown S02.out hg (Kd.R_ne HL2.out S02.out (by decide)))
     have SO3:=A0_ (blk_grown SO2.out hg (Kd.R_ne HL2.out SO2.out (by decide)))
     have SV3:=A0_ (Kd.R_over' SV2.out (Kd.R_typed HL2.out) (by decide) hg)
     have HBh:=A0_ hb
     go_roundg (l4.length - n)
     case measure=>omega
     case rel=>exact ⟨n+1,by simp,by omega,by omega,by rw [watchList_succ];exact HL3,S03,SO3,SV3,HBh⟩
    ·have c0:decide ((n:Int)<(l4.length:Int))=false:=decide_eq_false (by omega)
     have hnl:n=l4.length:=by omega
     subst hnl
     obtain ⟨A,c,rfl,hcl,hCl⟩:=Kd.R_reads HL.out
     go_wp2_with fail
     refine (at_best_Watch_c3.calls k A c (watchList a0 r a5 l4 l4.length) t1 t2 _ hCl hcl HWT.out).mono ?_
     rintro e w8 ⟨rfl,hb⟩
     have HBg:=A0_ (below_step HBf.out hb)
     clear hb;go_wp2
     go_region
     all_goals go_wp2
     all_goals go_ret3
     all_goals exact ⟨rfl,below_drew1 (below_alloc HBg.out _)⟩
  ·rw [if_neg hall] at h5
   cases h5
end Go.Proofs.YtjahbgldccjbfaaGreatDoor.PSky
end
section
namespace Go.Proofs.YtjahbgldccjbfaaGreatDoor.PSky
open Go.RowKit Go.Proofs.YtjahbgldccjbfaaGreatDoorW.PrintWords Go.Proofs.YtjahbgldccjbfaaGreatDoorW.PrintLast Go.Proofs.YtjahbgldccjbfaaGreatDoorW.PrintMore
def exK:Nat:=3000
def skyS:List S74:=[⟨⟨360,1⟩,0,[0]⟩,⟨⟨27,1⟩,0,[0,300,0,-300]⟩]
def exMoons:List S95:=[⟨15,true⟩,⟨30,false⟩,⟨44,true⟩]
def exEcl:List S98:=[⟨15,true,187⟩]
def exMeets:List Int:=[30,59]
def exSky:List S74:=[⟨⟨4,1⟩,0,[0]⟩,⟨⟨4,1⟩,0,[0]⟩]
def exText:ByteArray:=⟨#[115,107,121,32,50,10,98,111,100,121,32,52,32,49,32,48,32,48,10,98,111,100,121,32,52,32,49,32,48,32,48,10,110,111,100,101,32,52,32,49,32,48,10,101,110,100,32,48,50,48,10]⟩
def exNotes:List S89:=[⟨100,10800,0⟩,⟨1000,5,2⟩]
theorem ex_place:sky_Place.f exK skyS 6000 1 1000 1 15=some (11933,0):=by kernel_rfl
theorem ex_node:sky_Node.f exK skyS 6000 1 1000 15=some (946,0):=by kernel_rfl
theorem ex_between:sky_Between.f exK skyS 6000 1 1000 1 0 15=some (11033,0):=by kernel_rfl
theorem ex_moons:sky_Moons.f exK skyS 6000 1 1000 1 44=some (exMoons,0):=by kernel_rfl
theorem ex_eclipses:sky_Eclipses.f exK skyS 6000 1 1000 900 600 1 44=some (exEcl,0):=by kernel_rfl
theorem ex_meets:sky_Meets.f exK skyS 6000 1 1000 0 1 1 60=some (exMeets,0):=by kernel_rfl
theorem ex_month:sky_Month.f exK skyS 6000 1 1000=some (1080,37,0):=by kernel_rfl
theorem ex_cycle:sky_Cycle.f exK skyS 6000 1 1000 400=some (6,0):=by kernel_rfl
theorem ex_speeds:sky_Speeds.f exK 0 exNotes 107900 108200=some (108003,108007,5,0):=by kernel_rfl
theorem tally_count (ps:List Int) (p:Int):tally ps p=(ps.count p:Int):=by
 unfold tally
 rw [List.count_eq_length_filter]
theorem mostFrom_le (ps:List Int) (m:Int) (h0:0≤m) (h:∀ p,tally ps p≤m):∀ N,mostFrom ps 1 N≤m
 |0=>h0
 |N+1=>by
  have h1:=mostFrom_le ps m h0 h N
  have h2:=h ((N % 21600:Nat):Int)
  simp only [mostFrom,beforeN]
  unfold mx
  split <;> omega
theorem mostFrom_ge (ps:List Int):∀ (N n:Nat),n<N→tally ps ((n % 21600:Nat):Int)≤mostFrom ps 1 N
 |N+1,n,h=>by
  simp only [mostFrom,beforeN]
  by_cases hq:n=N
  ·subst hq
   unfold mx
   split <;> omega
  ·have:=mostFrom_ge ps N n (by omega)
   unfold mx
   split <;> omega
theorem left_one (start:Int) (l:List Int) (day:Int) (ps:List Int) (p:Nat) (m:Int) (hp:placed start day l=true) (hl:l.length≤1000000000) (hps:l.map (placeOf start day)=ps) (h0:0≤m) (hle:∀ q,tally ps q≤m) (hp0:p<21600) (he:tally ps (p:Int)=m):leftOf start l 0 day=m:=by
 unfold leftOf sky_left.f
 rw [if_pos ⟨hp,hl,by decide,by decide⟩,hps,Option.getD_some,show (mn (2*0+1) 21600).toNat=1 by kernel_rfl]
 have h1:=mostFrom_le ps m h0 hle
 have h2:=fun N h=>mostFrom_ge ps N p h
 rw [Nat.mod_eq_of_lt hp0,he] at h2
 generalize (21600:Nat)=N at hp0 ⊢
 have:=h1 N
 have:=h2 N hp0
 omega
def exAgree:List Int:=[108000,108001,108002,108003,108004,108005,108006,108007,108008,108009]
theorem ex_agree:sky_agreeing.f exK 0 [⟨100,10800,0⟩] 107900 108200=some exAgree:=by kernel_rfl
def exFar:List Int:=[0,1,2,3,4,5,6,7,8,9]
theorem ex_left1:leftOf 0 exAgree 0 100=10:=
 left_one 0 exAgree 100 (List.replicate 10 10800) 10800 10 (by kernel_rfl) (by decide) (by kernel_rfl) (by decide) (fun q=>by
  rw [tally_count]
  have:=List.count_le_length (a:=q) (l:=List.replicate 10 (10800:Int))
  simp only [List.length_replicate] at this
  omega) (by decide) (by kernel_rfl)
theorem ex_left2:leftOf 0 exAgree 0 1000=1:=
 left_one 0 exAgree 1000 exFar 0 1 (by kernel_rfl) (by decide) (by kernel_rfl) (by decide) (fun q=>by
  rw [tally_count]
  have h:exFar.Nodup:=by decide
  have:=List.nodup_iff_count.mp h q
  omega) (by decide) (by kernel_rfl)
theorem ex_lefts (d:Int) (hd:d∈[(100:Int),1000]):(sky_left.f 0 exAgree d 0).isSome=true:=by
 unfold sky_left.f
 have h1:placed 0 d exAgree=true:=by
  simp only [List.mem_cons,List.not_mem_nil,or_false] at hd
  rcases hd with rfl|rfl
  ·kernel_rfl
  ·kernel_rfl
 rw [if_pos ⟨h1,by decide,by decide,by decide⟩]
 rfl
theorem ex_list:watchList 0 exAgree 0 [100,1000] 2=[⟨0,10⟩,⟨1,1⟩]:=by
 rw [watchList_succ,watchList_succ,watchList_zero,show rd [100,1000] ((0:Nat):Int)=100 from rfl,show rd [100,1000] ((1:Nat):Int)=1000 from rfl,ex_left1,ex_left2]
 rfl
attribute [local irreducible] watchList
theorem ex_watch:sky_Watch.f exK 0 [⟨100,10800,0⟩] 107900 108200 [100,1000] 0=some (1,1,0):=by
 unfold sky_Watch.f
 have h1:sky_areNotes.f exK 0 [⟨100,10800,0⟩] 107900 108200=some true:=by kernel_rfl
 have h2:sky_in.f (([(100:Int),1000].length:Nat):Int) 1 6=some true:=by kernel_rfl
 have h3:cF_Watch_c1.f exK [100,1000]=some false:=by kernel_rfl
 have h4:sky_isOff.f 0=some true:=by kernel_rfl
 have h5:at_best_Watch_c3.f exK [⟨0,10⟩,⟨1,1⟩]=some (1,1):=by kernel_rfl
 have h6:watchList 0 exAgree 0 [100,1000] [(100:Int),1000].length=[⟨0,10⟩,⟨1,1⟩]:=ex_list
 rw [h1,Option.bind_some,if_pos rfl,h2,Option.bind_some,if_pos rfl,h3,Option.bind_some,if_pos rfl,h4,Option.bind_some,if_pos rfl,ex_agree,Option.bind_some,if_neg (by decide),if_pos ex_lefts,h6,h5]
 rfl
theorem ex_samemoons:tr_SameMoons.f exK exMoons exMoons=some true:=by kernel_rfl
theorem ex_sameecl:tr_SameEclipses.f exK exEcl exEcl=some true:=by kernel_rfl
theorem ex_samemeets:tr_Same.f exK exMeets exMeets=some true:=by kernel_rfl
theorem ex_print:tr_Print.f exK exSky 4 1 0=some exText:=by kernel_rfl
theorem ex_read:sky_Read.f exK exText=some (exSky,4,1,0,0):=by kernel_rfl
end Go.Proofs.YtjahbgldccjbfaaGreatDoor.PSky
end
section
namespace Go.Proofs.YtjahbgldccjbfaaGreatDoor.PSky
open Go.RowKit Go.Proofs.YtjahbgldccjbfaaGreatDoorW.PrintWords Go.Proofs.YtjahbgldccjbfaaGreatDoorW.PrintLast Go.Proofs.YtjahbgldccjbfaaGreatDoorW.PrintMore
theorem S_now (w:World):Calls Tryz.prog 51 #[] w fun e w'=>∃ A c,e=.returned (.agg #[.slice A skyS.length c,.int .i64 6000,.int .i64 1,.int .i64 1000])∧Kd.C k74 w' A skyS.length skyS∧skyS.length≤c∧Below w.heap.size w w':=by
 refine (tl_S.calls skyS 6000 1 1000 w rfl).mono ?_
 rintro e w' ⟨v,rfl,hv,hb⟩
 obtain ⟨A,c,rfl⟩:=Kd.N_slice hv
 obtain ⟨-,hc,hC⟩:=Kd.N_reads' hv
 exact ⟨A,c,rfl,hC,hc,hb⟩
theorem lit_R {α:Type} (d:Kd α) (W:World) (e:Nat) (xs:List α) (inner:List Value) (hrep:Reps (d.M W W.heap.size (fun _=>False)) d.sz xs inner) (hm:xs.length≤9223372036854775807):
  d.R e (W.alloc (.cells inner.toArray e)) W.heap.size (fun _=>True) (.slice (some ⟨W.heap.size,0,none⟩) xs.length xs.length) xs:=by
 refine ⟨fun _ _=>trivial,inner,?_,?_⟩
 ·have h2:=World.ownsRow_lit (base:=W.heap.size) (e:=e) (size:=d.sz) W inner.toArray xs.length (Nat.le_refl _) (by simpa [maxLen] using hm) (by simpa using hrep.1)
  simpa using h2
 ·refine hrep.imp_ (fun p c hp=>d.M_mono (fun k hk=>hk.1.elim) (Kd.M_below (d.M_bound hp) (below_alloc (Below.refl _ _) _)))
theorem notes2 (W:World) (b:Nat) (ok:Nat→Prop):Reps (k89.M W b ok) 3 exNotes [.int .i64 100,.int .i64 10800,.int .i64 0,.int .i64 1000,.int .i64 5,.int .i64 2]:=
 Reps.snoc (Reps.snoc (Reps.none _ 3) (k89_mkM W b ok ⟨100,10800,0⟩) rfl) (k89_mkM W b ok ⟨1000,5,2⟩) rfl
theorem notes1 (W:World) (b:Nat) (ok:Nat→Prop):Reps (k89.M W b ok) 3 [⟨100,10800,0⟩] [.int .i64 100,.int .i64 10800,.int .i64 0]:=
 Reps.snoc (Reps.none _ 3) (k89_mkM W b ok ⟨100,10800,0⟩) rfl
theorem ints_reps (W:World) (b:Nat) (ok:Nat→Prop):∀ xs:List Int,Reps ((Kd.int .i64).M W b ok) 1 xs (xs.map (.int .i64 ·))
 |[]=>Reps.none _ _
 |_ :: xs=>Reps.one rfl (ints_reps W b ok xs)
theorem moons3 (W:World) (b:Nat) (ok:Nat→Prop):Reps (k95.M W b ok) 2 [⟨15,true⟩,⟨30,false⟩,⟨44,true⟩] [.int .i64 15,.bool true,.int .i64 30,.bool false,.int .i64 44,.bool true]:=
 Reps.snoc (Reps.snoc (Reps.snoc (Reps.none _ 2) (k95_mkM W b ok ⟨15,true⟩) rfl) (k95_mkM W b ok ⟨30,false⟩) rfl) (k95_mkM W b ok ⟨44,true⟩) rfl
theorem ecl1 (W:World) (b:Nat) (ok:Nat→Prop):Reps (k98.M W b ok) 3 [⟨15,true,187⟩] [.int .i64 15,.bool true,.int .i64 187]:=
 Reps.snoc (Reps.none _ 3) (k98_mkM W b ok ⟨15,true,187⟩) rfl
theorem same_m:tr_SameMoons.f exK exMoons [⟨15,true⟩,⟨30,false⟩,⟨44,true⟩]=some true:=ex_samemoons
theorem same_e:tr_SameEclipses.f exK exEcl [⟨15,true,187⟩]=some true:=ex_sameecl
theorem same_d:tr_Same.f exK exMeets [30,59]=some true:=ex_samemeets
theorem notes_le:exNotes.length≤9223372036854775807:=by decide
attribute [local irreducible] skyS exMoons exEcl exMeets exSky exK
set_option maxRecDepth 100000 in
set_option maxHeartbeats 3200000 in
theorem known_calls (w:World) (hLD:LD w):Calls Tryz.prog 11 #[] w fun e w'=>e=.returned (.bool true)∧Below w.heap.size w w':=by
 have HLD:=A0_ hLD;clear hLD
 have HB:=A0_ (Below.refl w.heap.size w)
 go_enter Tryz.func11,Tryz.ntmps11
 go_wp2_with fail
 refine (S_now _).mono ?_
 rintro e w1 ⟨A,c,rfl,hC,hc,hb⟩
 replace HB:=A0_ (below_step HB.out hb)
 clear hb
 go_wp2_with fail
 refine (sky_Place.calls exK A c skyS 6000 1 1000 1 15 11933 0 _ hC hc ex_place).mono ?_
 rintro e w2 ⟨rfl,hb⟩
 replace HB:=A0_ (below_step HB.out hb)
 clear hb hC hc
 go_wp2_with fail
 refine (S_now _).mono ?_
 rintro e w1 ⟨A,c,rfl,hC,hc,hb⟩
 replace HB:=A0_ (below_step HB.out hb)
 clear hb
 go_wp2_with fail
 refine (sky_Node.calls exK A c skyS 6000 1 1000 15 946 0 _ hC hc ex_node).mono ?_
 rintro e w2 ⟨rfl,hb⟩
 replace HB:=A0_ (below_step HB.out hb)
 clear hb hC hc
 go_wp2_with fail
 refine (S_now _).mono ?_
 rintro e w1 ⟨A,c,rfl,hC,hc,hb⟩
 replace HB:=A0_ (below_step HB.out hb)
 clear hb
 go_wp2_with fail
 refine (sky_Between.calls exK A c skyS 6000 1 1000 1 0 15 11033 0 _ hC hc ex_between).mono ?_
 rintro e w2 ⟨rfl,hb⟩
 replace HB:=A0_ (below_step HB.out hb)
 clear hb hC hc
 go_wp2_with fail
 refine (S_now _).mono ?_
 rintro e w1 ⟨A,c,rfl,hC,hc,hb⟩
 replace HB:=A0_ (below_step HB.out hb)
 clear hb
 go_wp2_with fail
 refine (sky_Moons.calls exK A c skyS 6000 1 1000 1 44 exMoons 0 _ hC hc ex_moons).mono ?_
 rintro e w2 ⟨v,rfl,hv,hb⟩
 replace HB:=A0_ (below_step HB.out hb)
 clear hb hC hc
 obtain ⟨Am,cm,rfl,hlm,hCm⟩:=Kd.R_reads hv
 have Cm:=A0_ hCm;have Lm:=A0_ hlm;clear hv hCm hlm
 go_wp2_with fail
 refine (S_now _).mono ?_
 rintro e w1 ⟨A,c,rfl,hC,hc,hb⟩
 replace Cm:=A0_ (Kd.C_below Cm.out hb)
 replace HB:=A0_ (below_step HB.out hb)
 clear hb
 go_wp2_with fail
 refine (sky_Eclipses.calls exK A c skyS 6000 1 1000 900 600 1 44 exEcl 0 _ hC hc ex_eclipses).mono ?_
 rintro e w2 ⟨v,rfl,hv,hb⟩
 replace Cm:=A0_ (Kd.C_below Cm.out hb)
 replace HB:=A0_ (below_step HB.out hb)
 clear hb hC hc
 obtain ⟨Ae,ce,rfl,hle,hCe⟩:=Kd.R_reads hv
 have Ce:=A0_ hCe;have Le:=A0_ hle;clear hv hCe hle
 go_wp2_with fail
 refine (S_now _).mono ?_
 rintro e w1 ⟨A,c,rfl,hC,hc,hb⟩
 replace Cm:=A0_ (Kd.C_below Cm.out hb)
 replace Ce:=A0_ (Kd.C_below Ce.out hb)
 replace HB:=A0_ (below_step HB.out hb)
 clear hb
 go_wp2_with fail
 refine (sky_Meets.calls exK A c skyS 6000 1 1000 0 1 1 60 exMeets 0 _ hC hc ex_meets).mono ?_
 rintro e w2 ⟨v,rfl,hv,hb⟩
 replace Cm:=A0_ (Kd.C_below Cm.out hb)
 replace Ce:=A0_ (Kd.C_below Ce.out hb)
 replace HB:=A0_ (below_step HB.out hb)
 clear hb hC hc
 obtain ⟨Ad,cd,rfl,hld,hCd⟩:=Kd.R_reads hv
 have Cd:=A0_ hCd;have Ld:=A0_ hld;clear hv hCd hld
 go_wp2_with fail
 refine (S_now _).mono ?_
 rintro e w1 ⟨A,c,rfl,hC,hc,hb⟩
 replace Cm:=A0_ (Kd.C_below Cm.out hb)
 replace Ce:=A0_ (Kd.C_below Ce.out hb)
 replace Cd:=A0_ (Kd.C_below Cd.out hb)
 replace HB:=A0_ (below_step HB.out hb)
 clear hb
 go_wp2_with fail
 refine (sky_Month.calls exK A c skyS 6000 1 1000 1080 37 0 _ hC hc ex_month).mono ?_
 rintro e w2 ⟨rfl,hb⟩
 replace Cm:=A0_ (Kd.C_below Cm.out hb)
 replace Ce:=A0_ (Kd.C_below Ce.out hb)
 replace Cd:=A0_ (Kd.C_below Cd.out hb)
 replace HB:=A0_ (below_step HB.out hb)
 clear hb hC hc
 go_wp2_with fail
 refine (S_now _).mono ?_
 rintro e w1 ⟨A,c,rfl,hC,hc,hb⟩
 replace Cm:=A0_ (Kd.C_below Cm.out hb)
 replace Ce:=A0_ (Kd.C_below Ce.out hb)
 replace Cd:=A0_ (Kd.C_below Cd.out hb)
 replace HB:=A0_ (below_step HB.out hb)
 clear hb
 go_wp2_with fail
 refine (sky_Cycle.calls exK A c skyS 6000 1 1000 400 6 0 _ hC hc ex_cycle).mono ?_
 rintro e w2 ⟨rfl,hb⟩
 replace Cm:=A0_ (Kd.C_below Cm.out hb)
 replace Ce:=A0_ (Kd.C_below Ce.out hb)
 replace Cd:=A0_ (Kd.C_below Cd.out hb)
 replace HB:=A0_ (below_step HB.out hb)
 clear hb hC hc
 go_wp2_with fail
 refine (tl_A.calls 100 10800 0 _ rfl).mono ?_
 rintro e w1 ⟨rfl,hb⟩
 replace Cm:=A0_ (Kd.C_below Cm.out hb)
 replace Ce:=A0_ (Kd.C_below Ce.out hb)
 replace Cd:=A0_ (Kd.C_below Cd.out hb)
 replace HB:=A0_ (below_step HB.out hb)
 clear hb
 go_wp2_with fail
 refine (tl_B.calls 1000 5 2 _ rfl).mono ?_
 rintro e w1 ⟨rfl,hb⟩
 replace Cm:=A0_ (Kd.C_below Cm.out hb)
 replace Ce:=A0_ (Kd.C_below Ce.out hb)
 replace Cd:=A0_ (Kd.C_below Cd.out hb)
 replace HB:=A0_ (below_step HB.out hb)
 clear hb
 go_wp2_with fail
 have hrn:=lit_R k89 (w1) 89 exNotes [.int .i64 100,.int .i64 10800,.int .i64 0,.int .i64 1000,.int .i64 5,.int .i64 2] (notes2 _ _ _) notes_le
 have hbn:=below_alloc (Below.refl (w1).heap.size (w1)) (.cells #[.int .i64 100,.int .i64 10800,.int .i64 0,.int .i64 1000,.int .i64 5,.int .i64 2] 89)
 obtain ⟨-,hcN,hC⟩:=Kd.R_reads' hrn
 generalize (w1).alloc (.cells #[.int .i64 100,.int .i64 10800,.int .i64 0,.int .i64 1000,.int .i64 5,.int .i64 2] 89)=w3 at hrn hbn hC ⊢
 replace Cm:=A0_ (Kd.C_below Cm.out hbn)
 replace Ce:=A0_ (Kd.C_below Ce.out hbn)
 replace Cd:=A0_ (Kd.C_below Cd.out hbn)
 replace HB:=A0_ (below_step HB.out hbn)
 refine (sky_Speeds.calls exK 0 _ _ exNotes 107900 108200 108003 108007 5 0 _ hC hcN ex_speeds).mono ?_
 rintro e w2 ⟨rfl,hb⟩
 replace Cm:=A0_ (Kd.C_below Cm.out hb)
 replace Ce:=A0_ (Kd.C_below Ce.out hb)
 replace Cd:=A0_ (Kd.C_below Cd.out hb)
 replace HB:=A0_ (below_step HB.out hb)
 clear hb hrn hbn hC hcN
 go_wp2_with fail
 have p18:=blk_new w2 (.cells #[.int .i64 108003,.int .i64 108007] 85)
 have hb:=below_alloc (Below.refl w2.heap.size w2) (.cells #[.int .i64 108003,.int .i64 108007] 85)
 obtain ⟨g18,hg18⟩:∃ g,g=w2.heap.size:=⟨_,rfl⟩
 rw [← hg18] at p18 ⊢
 generalize w2.alloc (.cells #[.int .i64 108003,.int .i64 108007] 85)=w3 at p18 hb ⊢
 replace Cm:=A0_ (Kd.C_below Cm.out hb)
 replace Ce:=A0_ (Kd.C_below Ce.out hb)
 replace Cd:=A0_ (Kd.C_below Cd.out hb)
 replace HB:=A0_ (below_step HB.out hb)
 have P18:=A0_ p18;clear p18 hb hg18
 refine (tl_A.calls 100 10800 0 _ rfl).mono ?_
 rintro e w1 ⟨rfl,hb⟩
 replace Cm:=A0_ (Kd.C_below Cm.out hb)
 replace Ce:=A0_ (Kd.C_below Ce.out hb)
 replace Cd:=A0_ (Kd.C_below Cd.out hb)
 replace P18:=A0_ (blk_below P18.out hb)
 replace HB:=A0_ (below_step HB.out hb)
 clear hb
 go_wp2_with fail
 have hrn:=lit_R k89 (w1) 89 [⟨100,10800,0⟩] [.int .i64 100,.int .i64 10800,.int .i64 0] (notes1 _ _ _) (by decide)
 have hbn:=below_alloc (Below.refl (w1).heap.size (w1)) (.cells #[.int .i64 100,.int .i64 10800,.int .i64 0] 89)
 have hrd:=lit_R (Kd.int .i64) ((w1).alloc (.cells #[.int .i64 100,.int .i64 10800,.int .i64 0] 89)) 3 [100,1000] [.int .i64 100,.int .i64 1000] (ints_reps _ _ _ [100,1000]) (by decide)
 have hbd:=below_alloc (Below.refl ((w1).alloc (.cells #[.int .i64 100,.int .i64 10800,.int .i64 0] 89)).heap.size ((w1).alloc (.cells #[.int .i64 100,.int .i64 10800,.int .i64 0] 89))) (.cells #[.int .i64 100,.int .i64 1000] 3)
 have hrn2:=Kd.R_below hrn hbd
 have hbb:=below_step hbn hbd
 obtain ⟨-,hcN,hC⟩:=Kd.R_reads' hrn2
 obtain ⟨-,hcD,hD⟩:=Kd.R_reads' hrd
 simp only [World.size_alloc] at hD
 replace Cm:=A0_ (Kd.C_below Cm.out hbb)
 replace Ce:=A0_ (Kd.C_below Ce.out hbb)
 replace Cd:=A0_ (Kd.C_below Cd.out hbb)
 replace P18:=A0_ (blk_below P18.out hbb)
 replace HB:=A0_ (below_step HB.out hbb)
 refine (sky_Watch.calls exK 0 _ _ [⟨100,10800,0⟩] 107900 108200 _ _ [100,1000] 0 1 1 0 _ hC hcN hD hcD ex_watch).mono ?_
 rintro e w2 ⟨rfl,hb⟩
 replace Cm:=A0_ (Kd.C_below Cm.out hb)
 replace Ce:=A0_ (Kd.C_below Ce.out hb)
 replace Cd:=A0_ (Kd.C_below Cd.out hb)
 replace P18:=A0_ (blk_below P18.out hb)
 replace HB:=A0_ (below_step HB.out hb)
 clear hb hrn hrd hrn2 hbn hbd hbb hcN hC hcD hD
 go_wp2_with fail
 refine (sky_Read.calls exK exText exSky 4 1 0 0 _ ex_read (LD.below HLD.out HB.out)).mono ?_
 rintro e w4 ⟨v,rfl,hv,hb⟩
 replace Cm:=A0_ (Kd.C_below Cm.out hb)
 replace Ce:=A0_ (Kd.C_below Ce.out hb)
 replace Cd:=A0_ (Kd.C_below Cd.out hb)
 replace P18:=A0_ (blk_below P18.out hb)
 replace HB:=A0_ (below_step HB.out hb)
 obtain ⟨Ay,cy,rfl⟩:=Kd.V_slice hv
 obtain ⟨-,hly,hCy⟩:=Kd.V_reads' hv
 have Cy:=A0_ hCy;have Ly:=A0_ hly;clear hb hv hCy hly
 go_wp2_with fail
 have p24:=blk_new w4 (.cells #[.slice Ay exSky.length cy,.int .i64 4,.int .i64 1,.int .i64 0] 29)
 have hb:=below_alloc (Below.refl w4.heap.size w4) (.cells #[.slice Ay exSky.length cy,.int .i64 4,.int .i64 1,.int .i64 0] 29)
 have hr:=lit_R k95 (w4.alloc (.cells #[.slice Ay exSky.length cy,.int .i64 4,.int .i64 1,.int .i64 0] 29)) 95 [⟨15,true⟩,⟨30,false⟩,⟨44,true⟩] [.int .i64 15,.bool true,.int .i64 30,.bool false,.int .i64 44,.bool true] (moons3 _ _ _) (by decide)
 have hbl:=below_alloc (Below.refl (w4.alloc (.cells #[.slice Ay exSky.length cy,.int .i64 4,.int .i64 1,.int .i64 0] 29)).heap.size (w4.alloc (.cells #[.slice Ay exSky.length cy,.int .i64 4,.int .i64 1,.int .i64 0] 29))) (.cells #[.int .i64 15,.bool true,.int .i64 30,.bool false,.int .i64 44,.bool true] 95)
 replace hbl:=below_step hb hbl
 obtain ⟨-,hl,hC⟩:=Kd.R_reads' hr
 simp only [World.size_alloc] at hC
 replace Cm:=A0_ (Kd.C_below Cm.out hbl)
 replace Ce:=A0_ (Kd.C_below Ce.out hbl)
 replace Cd:=A0_ (Kd.C_below Cd.out hbl)
 replace P18:=A0_ (blk_below P18.out hbl)
 replace Cy:=A0_ (Kd.C_below Cy.out hbl)
 replace HB:=A0_ (below_step HB.out hbl)
 have P24:=A0_ (blk_alloc p24 (.cells #[.int .i64 15,.bool true,.int .i64 30,.bool false,.int .i64 44,.bool true] 95))
 clear p24 hb;clear hr hbl
 generalize (w4.alloc (.cells #[.slice Ay exSky.length cy,.int .i64 4,.int .i64 1,.int .i64 0] 29)).alloc (.cells #[.int .i64 15,.bool true,.int .i64 30,.bool false,.int .i64 44,.bool true] 95)=w6 at hC HB Cm Ce Cd P18 Cy P24 ⊢
 refine (tr_SameMoons.calls exK Am cm exMoons _ _ [⟨15,true⟩,⟨30,false⟩,⟨44,true⟩] true _ Cm.out Lm.out hC hl same_m).mono ?_
 rintro e w7 ⟨rfl,⟨nd,rfl⟩⟩
 have hb:=pw_below_drewN (Below.refl w6.heap.size w6) nd
 replace Cm:=A0_ (Kd.C_below Cm.out hb)
 replace Ce:=A0_ (Kd.C_below Ce.out hb)
 replace Cd:=A0_ (Kd.C_below Cd.out hb)
 replace P18:=A0_ (blk_below P18.out hb)
 replace Cy:=A0_ (Kd.C_below Cy.out hb)
 replace P24:=A0_ (blk_below P24.out hb)
 replace HB:=A0_ (below_step HB.out hb)
 clear hb hC hl
 generalize w6.drewN nd=w8 at HB Cm Ce Cd P18 Cy P24 ⊢
 go_wp2_with fail
 have hr:=lit_R k98 (w8) 98 [⟨15,true,187⟩] [.int .i64 15,.bool true,.int .i64 187] (ecl1 _ _ _) (by decide)
 have hbl:=below_alloc (Below.refl (w8).heap.size (w8)) (.cells #[.int .i64 15,.bool true,.int .i64 187] 98)
 obtain ⟨-,hl,hC⟩:=Kd.R_reads' hr
 replace Cm:=A0_ (Kd.C_below Cm.out hbl)
 replace Ce:=A0_ (Kd.C_below Ce.out hbl)
 replace Cd:=A0_ (Kd.C_below Cd.out hbl)
 replace P18:=A0_ (blk_below P18.out hbl)
 replace Cy:=A0_ (Kd.C_below Cy.out hbl)
 replace P24:=A0_ (blk_below P24.out hbl)
 replace HB:=A0_ (below_step HB.out hbl)
 clear hr hbl
 generalize (w8).alloc (.cells #[.int .i64 15,.bool true,.int .i64 187] 98)=w6 at hC HB Cm Ce Cd P18 Cy P24 ⊢
 refine (tr_SameEclipses.calls exK Ae ce exEcl _ _ [⟨15,true,187⟩] true _ Ce.out Le.out hC hl same_e).mono ?_
 rintro e w7 ⟨rfl,⟨nd,rfl⟩⟩
 have hb:=pw_below_drewN (Below.refl w6.heap.size w6) nd
 replace Cm:=A0_ (Kd.C_below Cm.out hb)
 replace Ce:=A0_ (Kd.C_below Ce.out hb)
 replace Cd:=A0_ (Kd.C_below Cd.out hb)
 replace P18:=A0_ (blk_below P18.out hb)
 replace Cy:=A0_ (Kd.C_below Cy.out hb)
 replace P24:=A0_ (blk_below P24.out hb)
 replace HB:=A0_ (below_step HB.out hb)
 clear hb hC hl
 generalize w6.drewN nd=w8 at HB Cm Ce Cd P18 Cy P24 ⊢
 go_wp2_with fail
 have hr:=lit_R (Kd.int .i64) (w8) 3 [30,59] [.int .i64 30,.int .i64 59] (ints_reps _ _ _ [30,59]) (by decide)
 have hbl:=below_alloc (Below.refl (w8).heap.size (w8)) (.cells #[.int .i64 30,.int .i64 59] 3)
 obtain ⟨-,hl,hC⟩:=Kd.R_reads' hr
 replace Cm:=A0_ (Kd.C_below Cm.out hbl)
 replace Ce:=A0_ (Kd.C_below Ce.out hbl)
 replace Cd:=A0_ (Kd.C_below Cd.out hbl)
 replace P18:=A0_ (blk_below P18.out hbl)
 replace Cy:=A0_ (Kd.C_below Cy.out hbl)
 replace P24:=A0_ (blk_below P24.out hbl)
 replace HB:=A0_ (below_step HB.out hbl)
 clear hr hbl
 generalize (w8).alloc (.cells #[.int .i64 30,.int .i64 59] 3)=w6 at hC HB Cm Ce Cd P18 Cy P24 ⊢
 refine (tr_Same.calls exK Ad cd exMeets _ _ [30,59] true _ Cd.out Ld.out hC hl same_d).mono ?_
 rintro e w7 ⟨rfl,⟨nd,rfl⟩⟩
 have hb:=pw_below_drewN (Below.refl w6.heap.size w6) nd
 replace Cm:=A0_ (Kd.C_below Cm.out hb)
 replace Ce:=A0_ (Kd.C_below Ce.out hb)
 replace Cd:=A0_ (Kd.C_below Cd.out hb)
 replace P18:=A0_ (blk_below P18.out hb)
 replace Cy:=A0_ (Kd.C_below Cy.out hb)
 replace P24:=A0_ (blk_below P24.out hb)
 replace HB:=A0_ (below_step HB.out hb)
 clear hb hC hl
 generalize w6.drewN nd=w8 at HB Cm Ce Cd P18 Cy P24 ⊢
 have x0:=blk_cell P18.out 0
 have x1:=blk_cell P18.out 1
 have y0:=blk_cell P24.out 0
 have y1:=blk_cell P24.out 1
 have y2:=blk_cell P24.out 2
 have y3:=blk_cell P24.out 3
 simp at x0 x1 y0 y1 y2 y3
 go_wp2_with fail
 refine (tr_Print.calls exK Ay cy exSky 4 1 0 exText _ Cy.out Ly.out ex_print).mono ?_
 rintro e w9 ⟨rfl,hb⟩
 replace HB:=A0_ (below_step HB.out hb)
 clear hb x0 x1 y0 y1 y2 y3
 have ht:exText.toList=[115,107,121,32,50,10,98,111,100,121,32,52,32,49,32,48,32,48,10,98,111,100,121,32,52,32,49,32,48,32,48,10,110,111,100,101,32,52,32,49,32,48,10,101,110,100,32,48,50,48,10]:=by kernel_rfl
 go_wp2;go_ret
 exact ⟨rfl,HB.out⟩
def tl_known.f:Option Bool:=some true
theorem tl_known.calls (r:Bool) (w:World) (h:tl_known.f=some r) (hLD:LD w):Calls Tryz.prog 11 #[] w fun e w'=>e=.returned (.bool r)∧Below w.heap.size w w':=by
 obtain rfl:true=r:=Option.some.inj h
 exact known_calls w hLD
end Go.Proofs.YtjahbgldccjbfaaGreatDoor.PSky
end
section
namespace Go.Proofs.YtjahbgldccjbfaaGreatDoor.PSky
open Go.RowKit Go.Deep Go.ChangeShapes Go.Proofs.YtjahbgldccjbfaaGreatDoorW.PrintWords Go.Proofs.YtjahbgldccjbfaaGreatDoorW.PrintLast Go.Proofs.YtjahbgldccjbfaaGreatDoorW.PrintMore
theorem list_of {α:Type} (Q:Nat→α→Prop):∀ n,(∀ j,j<n→∃ p,Q j p)→∃ xs:List α,xs.length=n∧∀ j p,xs[j]?=some p→Q j p
 |0,_=>⟨[],rfl,fun j p h=>by simp at h⟩
 |n+1,h=>by
  obtain ⟨xs,hl,hq⟩:=list_of Q n (fun j hj=>h j (by omega))
  obtain ⟨p,hp⟩:=h n (by omega)
  refine ⟨xs ++ [p],by simp [hl],fun j q hj=>?_⟩
  rcases Nat.lt_or_ge j xs.length with h1|h1
  ·rw [List.getElem?_append_left h1] at hj
   exact hq j q hj
  ·rw [List.getElem?_append_right h1] at hj
   have h2:j - xs.length=0:=by
    rcases Nat.eq_zero_or_pos (j - xs.length) with h3|h3
    ·exact h3
    ·rw [List.getElem?_eq_none (by simp;omega)] at hj
     cases hj
   rw [h2] at hj
   obtain rfl:p=q:=by simpa using hj
   rw [show j=n by omega]
   exact hp
theorem len4 {cs:List Value} (h:cs.length=4):∃ a b c d,cs=[a,b,c,d]:=by
 match cs,h with
 |[a,b,c,d],_=>exact ⟨a,b,c,d,rfl⟩
theorem len2 {cs:List Value} (h:cs.length=2):∃ a b,cs=[a,b]:=by
 match cs,h with
 |[a,b],_=>exact ⟨a,b,rfl⟩
section
variable {H:Type} {enc:TypeId × Value→H} {w:World} {base:Nat} {spare:Nat→Bool} {held:Bool}
theorem reads_of_trod {α:Type} (d:Kd α) {t e fuel:Nat} {cs:List Value} {x:DataW H × List MemPlace} (ht:Tryz.prog.underlying t=some (.slice e)) (hs:Tryz.prog.cellsOf e=d.sz)
  (el:∀ n cs x,DataW.trod enc Tryz.prog w base spare held n e cs=some x→∃ p,d.K w p cs) (h:DataW.trod enc Tryz.prog w base spare held fuel t cs=some x):
  ∃ (A:Option Addr) (c:Nat) (xs:List α),cs=[.slice A xs.length c]∧xs.length≤c∧c≤maxLen∧d.C w A xs.length xs:=by
 rcases open_slice ht h with ⟨rfl,-⟩|⟨a,len,cap,m,n,D,Pl,rfl,-,hl,hc,hm,-,hel⟩
 ·exact ⟨none,0,[],rfl,Nat.le_refl _,Nat.zero_le _,rfl,Nat.zero_le _,fun h=>absurd h (Nat.lt_irrefl 0)⟩
 ·have hlm:len≤m:=by rw [hm];split <;> omega
  obtain ⟨xs,hxl,hq⟩:=list_of (fun j p=>∃ c,c.length=d.sz∧d.K w p c∧∀ i u,c[i]?=some u→w.cell? (a.add (j*d.sz+i))=some u) len (fun j hj=>by
   obtain ⟨cs',h1,h2⟩:=hel j (by omega)
   obtain ⟨p,hp⟩:=el n cs' _ h2
   rw [hs] at h1
   refine ⟨p,cs',d.K_len hp,hp,fun i u hu=>?_⟩
   obtain ⟨-,hcl,hcell⟩:=World.cells?_some h1
   have hi:i<d.sz:=by rw [← hcl];exact (List.getElem?_eq_some_iff.mp hu).1
   have:=hcell i hi
   rw [Go.Deep.add_add] at this
   exact this.trans hu)
  subst hxl
  exact ⟨some a,cap,xs,rfl,hl,hc,rfl,by simp only [maxLen] at hc;omega,fun _=>⟨a,rfl,hq⟩⟩
theorem elem_int:∀ n cs x,DataW.trod enc Tryz.prog w base spare held n 3 cs=some x→∃ p,(Kd.int .i64).K w p cs:=by
 intro n cs x h
 obtain ⟨k,rfl,-,-⟩:=DataW.trod_int Tryz.underlying3 h
 exact ⟨k,rfl⟩
theorem cells24:Tryz.prog.cellsOf 25=2:=by kernel_rfl
theorem cells83:Tryz.prog.cellsOf 74=4:=by kernel_rfl
theorem cells26:Tryz.prog.cellsOf 27=3:=by kernel_rfl
theorem cells28:Tryz.prog.cellsOf 29=4:=by kernel_rfl
theorem cells3:Tryz.prog.cellsOf 3=1:=by kernel_rfl
theorem cells63:Tryz.prog.cellsOf 40=1:=by kernel_rfl
theorem cells22:Tryz.prog.cellsOf 23=1:=by kernel_rfl
theorem elem24:∀ n cs x,DataW.trod enc Tryz.prog w base spare held n 25 cs=some x→∃ a b,cs=[.int .i64 a,.int .i64 b]:=by
 intro n cs x h
 obtain ⟨y0,y1,m,-,hl,h0,h1⟩:=trod_struct2 Tryz.underlying25 h
 rw [cells24] at hl
 ·obtain ⟨c0,c1,rfl⟩:=len2 hl
  simp only [cells3] at h0 h1
  obtain ⟨a,ea,-,-⟩:=DataW.trod_int Tryz.underlying3 h0
  obtain ⟨b,eb,-,-⟩:=DataW.trod_int Tryz.underlying3 h1
  simp at ea eb
  subst ea eb
  exact ⟨a,b,rfl⟩
theorem elem83:∀ n cs x,DataW.trod enc Tryz.prog w base spare held n 74 cs=some x→∃ p,k74.K w p cs:=by
 intro n cs x h
 obtain ⟨y0,y1,y2,m,-,hl,h0,h1,h2⟩:=trod_struct3 Tryz.underlying74 h
 rw [cells83] at hl
 ·obtain ⟨c0,c1,c2,c3,rfl⟩:=len4 hl
  simp only [cells24,cells3,cells63] at h0 h1 h2
  obtain ⟨a,b,ea⟩:=elem24 _ _ _ h0
  obtain ⟨c,ec,-,-⟩:=DataW.trod_int Tryz.underlying3 h1
  obtain ⟨A,cp,l,el,hlc,-,hC⟩:=reads_of_trod (Kd.int .i64) Tryz.underlying40 cells3 elem_int h2
  simp at ea ec el
  obtain ⟨rfl,rfl⟩:=ea
  subst ec el
  exact ⟨⟨⟨a,b⟩,c,l⟩,k74_mk w ⟨⟨a,b⟩,c,l⟩ hlc hC⟩
theorem open_sky {fuel:Nat} {cs:List Value} {x:DataW H × List MemPlace} (h:DataW.trod enc Tryz.prog w base spare held fuel 29 cs=some x):
  ∃ (A:Option Addr) (c:Nat) (l:List S74) (a1 a2 a3:Int),cs=[.slice A l.length c,.int .i64 a1,.int .i64 a2,.int .i64 a3]∧l.length≤c∧k74.C w A l.length l:=by
 obtain ⟨y0,y1,m,-,hl,h0,h1⟩:=trod_struct2 Tryz.underlying29 h
 rw [cells28] at hl
 ·obtain ⟨c0,c1,c2,c3,rfl⟩:=len4 hl
  simp only [cells22,cells26] at h0 h1
  obtain ⟨z0,z1,m',-,hl',g0,g1⟩:=trod_struct2 Tryz.underlying27 h1
  simp only [cells24,cells3] at g0 g1
  obtain ⟨a,b,ea⟩:=elem24 _ _ _ g0
  obtain ⟨c,ec,-,-⟩:=DataW.trod_int Tryz.underlying3 g1
  obtain ⟨A,cp,l,el,hlc,-,hC⟩:=reads_of_trod k74 Tryz.underlying23 cells83 elem83 h0
  simp at ea ec el
  obtain ⟨rfl,rfl⟩:=ea
  subst ec el
  exact ⟨A,cp,l,a,b,c,rfl,hlc,hC⟩
end
end Go.Proofs.YtjahbgldccjbfaaGreatDoor.PSky
end
section
namespace Go.Proofs.YtjahbgldccjbfaaGreatDoor
open Go.ChangeShapes Go.WideShapes Go.ChangeAt Go.RowKit
theorem own:ownKnob Tryz.prog.godebug=none:=by kernel_rfl
theorem laidOut:laidOutB Tryz.prog=true:=by kernel_rfl
theorem gPow:Tryz.prog.globalNamed "internal/strconv.uint64pow10" = some 1:=by kernel_rfl
theorem gPowType:(Tryz.prog.globals[1]?).map (·.type)=some 200:=by kernel_rfl
theorem cellsPow:Tryz.prog.cellsOf 200=20:=by kernel_rfl
theorem cellsU64:Tryz.prog.cellsOf 192=1:=by kernel_rfl
def litCells:DataW Unit→List Value
 |.lit (.int k n)=>[.int k n]
 |.agg l=>l.flatMap fun|.lit (.int k n)=>[.int k n]|_=>[]
 |_=>[]
def tabCells:DataW Unit→List Value
 |.agg l=>l.flatMap litCells
 |_=>[]
def lay (d:DataW Unit):Obj→Obj
 |.cells _ t fz=>.cells (tabCells d).toArray t fz
 |o=>o
noncomputable def laidWorld (os:Os):World:=
 { World.holding Tryz.prog os ⟨#[],#[],[]⟩ with heap:=(((((World.holding Tryz.prog os ⟨#[],#[],[]⟩).heap.modify 1 (lay Rows.laid_internal_strconv_uint64pow10)).modify 2 (lay Rows.laid_unicode_utf8_first)).modify 3 (lay Rows.laid_unicode_utf8_acceptRanges)).modify 4 (lay Rows.laid_math_bits_deBruijn32tab)).modify 5 (lay Rows.laid_math_bits_deBruijn64tab) }
def laidList:List (String × DataW Unit):=[("math/bits.deBruijn32tab",Rows.laid_math_bits_deBruijn32tab),("math/bits.deBruijn64tab",Rows.laid_math_bits_deBruijn64tab),("internal/strconv.uint64pow10",Rows.laid_internal_strconv_uint64pow10),("unicode/utf8.acceptRanges",Rows.laid_unicode_utf8_acceptRanges),("unicode/utf8.first",Rows.laid_unicode_utf8_first)]
theorem laid_met (os:Os) (args:Array Value):laidMetH Tryz.prog laidList ((laidWorld os).forCall (fun _ _=>0) ⟨#[],args,[]⟩).memory:=by
 rw [MakeChecks.laidMetH_plain _ _ _ (by kernel_rfl)]
 exact laidMet_of_run' 8 (by kernel_rfl) (by kernel_rfl)
theorem agg_of {v:Value} {cs:List Value} (h:v.cells.toList=cs) (hl:cs.length=4):v=.agg cs.toArray:=by
 cases v with
 |agg a=>simp only [Value.cells] at h;rw [← h]
 |_=>simp [Value.cells] at h;rw [← h] at hl;simp at hl
theorem ld_of {W:World} (hL:laidMetH Tryz.prog laidList W) (hsh:W.ShapedOpen Tryz.prog):PSky.LD W:=by
 rw [MakeChecks.laidMetH_plain _ _ _ (by kernel_rfl)] at hL
 have h3:=laidMet.tail (laidMet.tail hL)
 exact ⟨Lib.tabIs_of_head gPow gPowType Tryz.underlying200 Tryz.underlying192 cellsU64 cellsPow h3,Tryz.laysM219.s1_3 W hsh⟩
end Go.Proofs.YtjahbgldccjbfaaGreatDoor
end
