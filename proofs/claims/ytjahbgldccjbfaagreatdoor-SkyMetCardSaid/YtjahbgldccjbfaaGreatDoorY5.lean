/- A part of the proof of a law of the layer sky. -/
import Derived.Deep.AppendLies
import Derived.Deep.RegionLaw
import Derived.Defers
import Derived.Laws.Entries
import Derived.Laws.NewBlocks
import Derived.Laws.Pointers
import Derived.LoopN
import Derived.Outline
import Derived.RangeFuncBox
import Derived.Recover
import Derived.StillTactics
import Derived.Test.YtjahbgldccjbfaaGreatDoorY4
section
namespace Go.Proofs.YtjahbgldccjbfaaGreatDoor.PSky
open Go.RowKit Go.Proofs.YtjahbgldccjbfaaGreatDoorW.PrintWords Go.Proofs.YtjahbgldccjbfaaGreatDoorW.PrintLast Go.Proofs.YtjahbgldccjbfaaGreatDoorW.PrintMore
theorem info_moon:(Tryz.prog.info? 95).map (fun i=>(i.zero,i.size,i.bytes))=some (some (.agg #[(.int .i64 0),(.bool false)]),2,16):=by kernel_rfl
theorem held_box {w:World} {Bo Bx:Nat} {t t':TypeId} {v a b c d e:Value} (hO:w.heap[Bo]?=some (.cells #[v] t (0,0))) (hX:w.heap[Bx]?=some (.cells #[a,b,c,d,e] t' (0,0))):
  w.cell? ⟨Bo,0,none⟩=some v∧w.cell? ⟨Bx,4,none⟩=some e∧w.frozen? ⟨Bo,0,none⟩=false:=
 ⟨by have:=blk_cell hO 0;simpa using this,by have:=blk_cell hX 4;simpa using this,blk_frozen hO 0⟩
theorem blk_eq_alloc2 (w:World) (o o':Obj) (i:Nat) (hi:i<w.heap.size):((w.alloc o).alloc o').drew.heap[i]?=w.heap[i]?:=by
 show ((w.alloc o).alloc o').heap[i]?=_
 rw [Below.heap_alloc (w.alloc o) o' i (by simp;omega),Below.heap_alloc w o i hi]
theorem moons_close {W w1 w2:World} {Bo n₀ gg cap T:Nat} {v:Value} {xs:List S95} {inner:List Value} {day:Int} {b:Bool}
  (hO:W.heap[Bo]?=some (.cells #[v] 57 (0,0))) (hn:n₀≤Bo) (HB:Below W.heap.size W w1) (hO1:w1.heap[Bo]?=some (.cells #[v] 57 (0,0)))
  (hown:w1.ownsRow n₀ 95 2 v xs.length inner) (hreps:Reps (k95.M w1 n₀ (fun k=>True∧some k≠v.ownBlock)) k95.sz xs inner)
  (hown1:w2.ownsRow n₀ 95 2 (.slice (some ⟨gg,0,none⟩) (xs.length+1) cap) (xs.length+1) (inner ++ [.int .i64 day,.bool b]))
  (hgrow:(((w1.alloc (.cells #[] T)).alloc (.cells #[.int .i64 day,.bool b] 95)).drew).grownBy w2 v.ownBlock):
  ∃ v',(w2.setCell ⟨Bo,0,none⟩ (.slice (some ⟨gg,0,none⟩) (xs.length+1) cap)).heap[Bo]?=some (.cells #[v'] 57 (0,0)) ∧
   Kd.R k95 95 (w2.setCell ⟨Bo,0,none⟩ (.slice (some ⟨gg,0,none⟩) (xs.length+1) cap)) n₀ (fun _=>True) v' (xs ++ [⟨day,b⟩]) ∧
   KeepBut W (w2.setCell ⟨Bo,0,none⟩ (.slice (some ⟨gg,0,none⟩) (xs.length+1) cap)) Bo v.ownBlock ∧
   Below n₀ W (w2.setCell ⟨Bo,0,none⟩ (.slice (some ⟨gg,0,none⟩) (xs.length+1) cap)):=by
 have hne:some Bo≠v.ownBlock:=Boxed.not_row (t:=57) hO1 (by decide) hown
 have hO2:w2.heap[Bo]?=some (.cells #[v] 57 (0,0)):=blk_grown (blk_drew (blk_alloc (blk_alloc hO1 _) _)) hgrow hne
 have hlo:=blk_lt hO
 have hz:=HB.size
 have hnW:n₀≤W.heap.size:=by omega
 have hn1:n₀≤w1.heap.size:=by omega
 refine ⟨.slice (some ⟨gg,0,none⟩) (xs.length+1) cap,blk_put hO2 0 _ rfl,?_,?_,?_⟩
 ·have h2:Kd.R k95 95 w2 n₀ (fun _=>True) (.slice (some ⟨gg,0,none⟩) (xs.length+1) cap) (xs ++ [⟨day,b⟩]):=by
   refine ⟨fun _ _=>trivial,inner ++ [.int .i64 day,.bool b],by rw [List.length_append];exact hown1,?_⟩
   refine Reps.snoc (hreps.imp_ fun p c hp=>?_) (k95_mkM w2 n₀ _ ⟨day,b⟩) rfl
   obtain rfl:=k95_openM hp
   exact k95_mkM w2 n₀ _ p
  exact Kd.R_set h2 hO2 (by intro q hq;simp [k95,Kd.iso,Kd.pair,Kd.int,Kd.bool,Kd.scalar] at hq;subst hq;decide) 0 _
 ·refine ⟨?_,fun i hi h1 h2=>?_⟩
  ·have:=hgrow.size;simp [World.setCell] at this ⊢;omega
  ·rw [Below.heap_setCell _ _ _ i h1,hgrow.block i (by simp;omega) h2]
   exact (blk_eq_alloc2 w1 _ _ i (by omega)).trans (HB.block i hi)
 ·refine Below.setCell (p:=⟨Bo,0,none⟩) ?_ hn _
  refine Below.grown ?_ hgrow (by simp;omega) (fun j e=>?_)
  ·exact below_drew (((HB.mono hnW).alloc hn1 _).alloc (by simp;omega) _)
  ·exact own_base hown j e
theorem full_new (w:World):Calls Tryz.prog 199 #[.agg #[]] w fun e w'=>e=.returned (.bool false)∧w'=w.alloc (.cells #[] 157):=by
 go_enter Tryz.func199,Tryz.ntmps199
 go_wp2;go_ret
 exact ⟨rfl,rfl⟩
theorem full_full (w:World):Calls Tryz.prog 198 #[.agg #[]] w fun e w'=>e=.returned (.bool true)∧w'=w.alloc (.cells #[] 153):=by
 go_enter Tryz.func198,Tryz.ntmps198
 go_wp2;go_ret
 exact ⟨rfl,rfl⟩
set_option maxRecDepth 100000 in
set_option maxHeartbeats 1600000 in
theorem moons_c1_new_no (k:Nat) (A0:Option Addr) (c0:Nat) (l0:List S74) (i1 i2 i3 day:Int) (Bo Bx:Nat) (W:World)
  (hC:Kd.C k74 W A0 l0.length l0) (hc:l0.length≤c0)
  (hX:W.heap[Bx]?=some (.cells #[.slice A0 l0.length c0,.int .i64 i1,.int .i64 i2,.int .i64 i3,.int .i64 day] 112 (0,0)))
  (h:at_has_new.f k l0 i1 i2 i3 day=some false):
  Calls Tryz.prog 132 #[.iface 157 (.agg #[]),.pointer (some ⟨Bx,0,none⟩),.pointer (some ⟨Bo,0,none⟩)] W fun e W'=>e=.returned (.tuple #[])∧Below W.heap.size W W':=by
 have HC:=A0_ hC;have HX:=A0_ hX;have H:=A0_ h
 have x0:=blk_cell hX 0
 have x1:=blk_cell hX 1
 have x2:=blk_cell hX 2
 have x3:=blk_cell hX 3
 have x4:=blk_cell hX 4
 simp at x0 x1 x2 x3 x4
 clear hC hX h
 go_enter Tryz.func132,Tryz.ntmps132
 go_wp2_with fail
 refine (at_has_new.calls k A0 c0 l0 i1 i2 i3 day false _ ?h1 hc H.out).mono ?_
 case h1=>exact HC.out
 rintro e w1 ⟨rfl,hb⟩;have HB:=A0_ hb;clear hb;go_wp2
 go_end0
 exact ⟨rfl,HB.out⟩
set_option maxRecDepth 100000 in
set_option maxHeartbeats 1600000 in
theorem moons_c1_new_yes (k:Nat) (A0:Option Addr) (c0:Nat) (l0:List S74) (i1 i2 i3 day:Int) (n₀ Bo Bx:Nat) (v:Value) (xs:List S95) (W:World)
  (hC:Kd.C k74 W A0 l0.length l0) (hc:l0.length≤c0)
  (hX:W.heap[Bx]?=some (.cells #[.slice A0 l0.length c0,.int .i64 i1,.int .i64 i2,.int .i64 i3,.int .i64 day] 112 (0,0)))
  (hO:W.heap[Bo]?=some (.cells #[v] 57 (0,0))) (hR:Kd.R k95 95 W n₀ (fun _=>True) v xs) (hn:n₀≤Bo) (hl:(xs.length+1)*16≤140737488355328)
  (h:at_has_new.f k l0 i1 i2 i3 day=some true):
  Calls Tryz.prog 132 #[.iface 157 (.agg #[]),.pointer (some ⟨Bx,0,none⟩),.pointer (some ⟨Bo,0,none⟩)] W fun e W'=>e=.returned (.tuple #[]) ∧
   ∃ v',W'.heap[Bo]?=some (.cells #[v'] 57 (0,0))∧Kd.R k95 95 W' n₀ (fun _=>True) v' (xs ++ [⟨day,false⟩])∧KeepBut W W' Bo v.ownBlock∧Below n₀ W W':=by
 have HC:=A0_ hC;have HX:=A0_ hX;have HO:=A0_ hO;have HR:=A0_ hR;have H:=A0_ h
 have x0:=blk_cell hX 0
 have x1:=blk_cell hX 1
 have x2:=blk_cell hX 2
 have x3:=blk_cell hX 3
 have x4:=blk_cell hX 4
 simp at x0 x1 x2 x3 x4
 clear hC hX hO hR h
 have hna:∀ w,(nilAhead 325 157 (.agg #[]) "tellurion/sky.full").run Tryz.prog w=.ok (some false) w:=fun _=>by kernel_rfl
 have hme:∀ w,(method 325 157 (.agg #[]) "tellurion/sky.full").run Tryz.prog w=.ok (199,.agg #[]) w:=fun _=>by kernel_rfl
 go_enter Tryz.func132,Tryz.ntmps132
 go_wp2_with fail
 refine (at_has_new.calls k A0 c0 l0 i1 i2 i3 day true _ ?h1 hc H.out).mono ?_
 case h1=>exact HC.out
 rintro e w1 ⟨rfl,hb⟩
 have HX1:=A0_ (blk_below HX.out hb)
 have HO1:=A0_ (blk_below HO.out hb)
 have HR1:=A0_ (Kd.R_below HR.out hb)
 have HB:=A0_ hb;clear hb x0 x1 x2 x3 x4
 have y4:=blk_cell HX1.out 4
 have o0:=blk_cell HO1.out 0
 have of:=blk_frozen HO1.out 0
 simp at y4 o0
 go_wp2_with fail
 have lo:=blk_lt HO1.out
 have lx:=blk_lt HX1.out
 obtain ⟨hr0,inner,hown,hreps⟩:=HR1.out
 obtain ⟨i0,hi0,hz0,hz1,hz2⟩:=info_parts info_moon
 have hbs:=HB.out.size
 have hnb:n₀≤w1.heap.size:=by omega
 have hmx:xs.length+1≤maxLen:=by unfold maxLen;omega
 have HNE:=A0_ (show some Bo≠v.ownBlock from Boxed.not_row (t:=57) HO1.out (by decide) hown)
 have HNX:=A0_ (show some Bx≠v.ownBlock from fun e'=>by
  obtain ⟨cells,hc'⟩:=own_typed hown Bx e'.symm
  rw [HX1.out] at hc'
  simp at hc')
 go_region_law
  ((first|(go_simp;go_at_call 199;refine (full_new _).mono ?_;rintro e w' ⟨rfl,rfl⟩)|(refine step_append_lies _ (by rfl) _ _ _ (by rfl) n₀ 95 i0 _ 2 16 Tryz.underlying57 hi0 hz0 hz1 hz2 rfl (by omega) v xs.length inner (by rfl) (((hown.alloc _).alloc _).drew) ⟨w1.heap.size+1,0,none⟩ 1 1 [.int .i64 day,.bool false] (by rfl) (by rfl) (World.news_of_block (cs:=#[.int .i64 day,.bool false]) (t:=95) (fr:=(0,0)) (by rw [show w1.heap.size+1=(w1.alloc (.cells #[] 157)).heap.size from by simp];exact heap_alloc_new _ _)) (by simp [Value.oneCell']) (by omega) hmx hl (by simp;omega) (w1.heap.size+2) (by simp) ?_;intro gg cap w2 hown1 hgrow hat hlt;obtain ⟨q20,q21,q22⟩:=held_box (blk_grown (blk_drew (blk_alloc (blk_alloc HO1.out _) _)) hgrow HNE.out) (blk_grown (blk_drew (blk_alloc (blk_alloc HX1.out _) _)) hgrow HNX.out))))
 all_goals
  go_wp2
  go_end0
  exact ⟨rfl,moons_close HO.out hn HB.out HO1.out hown hreps hown1 hgrow⟩
set_option maxRecDepth 100000 in
set_option maxHeartbeats 1600000 in
theorem moons_c1_full_no (k:Nat) (A0:Option Addr) (c0:Nat) (l0:List S74) (i1 i2 i3 day:Int) (Bo Bx:Nat) (W:World)
  (hC:Kd.C k74 W A0 l0.length l0) (hc:l0.length≤c0)
  (hX:W.heap[Bx]?=some (.cells #[.slice A0 l0.length c0,.int .i64 i1,.int .i64 i2,.int .i64 i3,.int .i64 day] 112 (0,0)))
  (h:at_has_full.f k l0 i1 i2 i3 day=some false):
  Calls Tryz.prog 132 #[.iface 153 (.agg #[]),.pointer (some ⟨Bx,0,none⟩),.pointer (some ⟨Bo,0,none⟩)] W fun e W'=>e=.returned (.tuple #[])∧Below W.heap.size W W':=by
 have HC:=A0_ hC;have HX:=A0_ hX;have H:=A0_ h
 have x0:=blk_cell hX 0
 have x1:=blk_cell hX 1
 have x2:=blk_cell hX 2
 have x3:=blk_cell hX 3
 have x4:=blk_cell hX 4
 simp at x0 x1 x2 x3 x4
 clear hC hX h
 go_enter Tryz.func132,Tryz.ntmps132
 go_wp2_with fail
 refine (at_has_full.calls k A0 c0 l0 i1 i2 i3 day false _ ?h1 hc H.out).mono ?_
 case h1=>exact HC.out
 rintro e w1 ⟨rfl,hb⟩;have HB:=A0_ hb;clear hb;go_wp2
 go_end0
 exact ⟨rfl,HB.out⟩
set_option maxRecDepth 100000 in
set_option maxHeartbeats 1600000 in
theorem moons_c1_full_yes (k:Nat) (A0:Option Addr) (c0:Nat) (l0:List S74) (i1 i2 i3 day:Int) (n₀ Bo Bx:Nat) (v:Value) (xs:List S95) (W:World)
  (hC:Kd.C k74 W A0 l0.length l0) (hc:l0.length≤c0)
  (hX:W.heap[Bx]?=some (.cells #[.slice A0 l0.length c0,.int .i64 i1,.int .i64 i2,.int .i64 i3,.int .i64 day] 112 (0,0)))
  (hO:W.heap[Bo]?=some (.cells #[v] 57 (0,0))) (hR:Kd.R k95 95 W n₀ (fun _=>True) v xs) (hn:n₀≤Bo) (hl:(xs.length+1)*16≤140737488355328)
  (h:at_has_full.f k l0 i1 i2 i3 day=some true):
  Calls Tryz.prog 132 #[.iface 153 (.agg #[]),.pointer (some ⟨Bx,0,none⟩),.pointer (some ⟨Bo,0,none⟩)] W fun e W'=>e=.returned (.tuple #[]) ∧
   ∃ v',W'.heap[Bo]?=some (.cells #[v'] 57 (0,0))∧Kd.R k95 95 W' n₀ (fun _=>True) v' (xs ++ [⟨day,true⟩])∧KeepBut W W' Bo v.ownBlock∧Below n₀ W W':=by
 have HC:=A0_ hC;have HX:=A0_ hX;have HO:=A0_ hO;have HR:=A0_ hR;have H:=A0_ h
 have x0:=blk_cell hX 0
 have x1:=blk_cell hX 1
 have x2:=blk_cell hX 2
 have x3:=blk_cell hX 3
 have x4:=blk_cell hX 4
 simp at x0 x1 x2 x3 x4
 clear hC hX hO hR h
 have hna:∀ w,(nilAhead 325 153 (.agg #[]) "tellurion/sky.full").run Tryz.prog w=.ok (some false) w:=fun _=>by kernel_rfl
 have hme:∀ w,(method 325 153 (.agg #[]) "tellurion/sky.full").run Tryz.prog w=.ok (198,.agg #[]) w:=fun _=>by kernel_rfl
 go_enter Tryz.func132,Tryz.ntmps132
 go_wp2_with fail
 refine (at_has_full.calls k A0 c0 l0 i1 i2 i3 day true _ ?h1 hc H.out).mono ?_
 case h1=>exact HC.out
 rintro e w1 ⟨rfl,hb⟩
 have HX1:=A0_ (blk_below HX.out hb)
 have HO1:=A0_ (blk_below HO.out hb)
 have HR1:=A0_ (Kd.R_below HR.out hb)
 have HB:=A0_ hb;clear hb x0 x1 x2 x3 x4
 have y4:=blk_cell HX1.out 4
 have o0:=blk_cell HO1.out 0
 have of:=blk_frozen HO1.out 0
 simp at y4 o0
 go_wp2_with fail
 have lo:=blk_lt HO1.out
 have lx:=blk_lt HX1.out
 obtain ⟨hr0,inner,hown,hreps⟩:=HR1.out
 obtain ⟨i0,hi0,hz0,hz1,hz2⟩:=info_parts info_moon
 have hbs:=HB.out.size
 have hnb:n₀≤w1.heap.size:=by omega
 have hmx:xs.length+1≤maxLen:=by unfold maxLen;omega
 have HNE:=A0_ (show some Bo≠v.ownBlock from Boxed.not_row (t:=57) HO1.out (by decide) hown)
 have HNX:=A0_ (show some Bx≠v.ownBlock from fun e'=>by
  obtain ⟨cells,hc'⟩:=own_typed hown Bx e'.symm
  rw [HX1.out] at hc'
  simp at hc')
 go_region_law
  ((first|(go_simp;go_at_call 198;refine (full_full _).mono ?_;rintro e w' ⟨rfl,rfl⟩)|(refine step_append_lies _ (by rfl) _ _ _ (by rfl) n₀ 95 i0 _ 2 16 Tryz.underlying57 hi0 hz0 hz1 hz2 rfl (by omega) v xs.length inner (by rfl) (((hown.alloc _).alloc _).drew) ⟨w1.heap.size+1,0,none⟩ 1 1 [.int .i64 day,.bool true] (by rfl) (by rfl) (World.news_of_block (cs:=#[.int .i64 day,.bool true]) (t:=95) (fr:=(0,0)) (by rw [show w1.heap.size+1=(w1.alloc (.cells #[] 153)).heap.size from by simp];exact heap_alloc_new _ _)) (by simp [Value.oneCell']) (by omega) hmx hl (by simp;omega) (w1.heap.size+2) (by simp) ?_;intro gg cap w2 hown1 hgrow hat hlt;obtain ⟨q20,q21,q22⟩:=held_box (blk_grown (blk_drew (blk_alloc (blk_alloc HO1.out _) _)) hgrow HNE.out) (blk_grown (blk_drew (blk_alloc (blk_alloc HX1.out _) _)) hgrow HNX.out))))
 all_goals
  go_wp2
  go_end0
  exact ⟨rfl,moons_close HO.out hn HB.out HO1.out hown hreps hown1 hgrow⟩
end Go.Proofs.YtjahbgldccjbfaaGreatDoor.PSky
end
section
namespace Go.Proofs.YtjahbgldccjbfaaGreatDoor.PSky
open Go.RowKit Go.Shelf Go.Proofs.YtjahbgldccjbfaaGreatDoorW.PrintWords Go.Proofs.YtjahbgldccjbfaaGreatDoorW.PrintLast Go.Proofs.YtjahbgldccjbfaaGreatDoorW.PrintMore
attribute [local go_sem] Oper.semAt_some
theorem moons_c1_new (k:Nat) (A0:Option Addr) (c0:Nat) (l0:List S74) (i1 i2 i3 day:Int) (n₀ Bo Bx:Nat) (v:Value) (xs:List S95) (r:Bool) (W:World)
  (hC:Kd.C k74 W A0 l0.length l0) (hc:l0.length≤c0)
  (hX:W.heap[Bx]?=some (.cells #[.slice A0 l0.length c0,.int .i64 i1,.int .i64 i2,.int .i64 i3,.int .i64 day] 112 (0,0)))
  (hO:W.heap[Bo]?=some (.cells #[v] 57 (0,0))) (hR:Kd.R k95 95 W n₀ (fun _=>True) v xs) (hn:n₀≤Bo) (hl:(xs.length+1)*16≤140737488355328)
  (h:at_has_new.f k l0 i1 i2 i3 day=some r):
  Calls Tryz.prog 132 #[.iface 157 (.agg #[]),.pointer (some ⟨Bx,0,none⟩),.pointer (some ⟨Bo,0,none⟩)] W fun e W'=>e=.returned (.tuple #[]) ∧
   ∃ v',W'.heap[Bo]?=some (.cells #[v'] 57 (0,0))∧Kd.R k95 95 W' n₀ (fun _=>True) v' (xs ++ if r then [⟨day,false⟩] else [])∧KeepBut W W' Bo v.ownBlock∧Below n₀ W W':=by
 cases r with
 |true=>exact moons_c1_new_yes k A0 c0 l0 i1 i2 i3 day n₀ Bo Bx v xs W hC hc hX hO hR hn hl h
 |false=>
  refine (moons_c1_new_no k A0 c0 l0 i1 i2 i3 day Bo Bx W hC hc hX h).mono ?_
  rintro e W' ⟨rfl,hb⟩
  exact ⟨rfl,v,blk_below hO hb,by simpa using Kd.R_below hR hb,KeepBut.of_below hb _ _,hb.mono (by have:=blk_lt hO;omega)⟩
theorem moons_c1_full (k:Nat) (A0:Option Addr) (c0:Nat) (l0:List S74) (i1 i2 i3 day:Int) (n₀ Bo Bx:Nat) (v:Value) (xs:List S95) (r:Bool) (W:World)
  (hC:Kd.C k74 W A0 l0.length l0) (hc:l0.length≤c0)
  (hX:W.heap[Bx]?=some (.cells #[.slice A0 l0.length c0,.int .i64 i1,.int .i64 i2,.int .i64 i3,.int .i64 day] 112 (0,0)))
  (hO:W.heap[Bo]?=some (.cells #[v] 57 (0,0))) (hR:Kd.R k95 95 W n₀ (fun _=>True) v xs) (hn:n₀≤Bo) (hl:(xs.length+1)*16≤140737488355328)
  (h:at_has_full.f k l0 i1 i2 i3 day=some r):
  Calls Tryz.prog 132 #[.iface 153 (.agg #[]),.pointer (some ⟨Bx,0,none⟩),.pointer (some ⟨Bo,0,none⟩)] W fun e W'=>e=.returned (.tuple #[]) ∧
   ∃ v',W'.heap[Bo]?=some (.cells #[v'] 57 (0,0))∧Kd.R k95 95 W' n₀ (fun _=>True) v' (xs ++ if r then [⟨day,true⟩] else [])∧KeepBut W W' Bo v.ownBlock∧Below n₀ W W':=by
 cases r with
 |true=>exact moons_c1_full_yes k A0 c0 l0 i1 i2 i3 day n₀ Bo Bx v xs W hC hc hX hO hR hn hl h
 |false=>
  refine (moons_c1_full_no k A0 c0 l0 i1 i2 i3 day Bo Bx W hC hc hX h).mono ?_
  rintro e W' ⟨rfl,hb⟩
  exact ⟨rfl,v,blk_below hO hb,by simpa using Kd.R_below hR hb,KeepBut.of_below hb _ _,hb.mono (by have:=blk_lt hO;omega)⟩
def moonsAt (k:Nat) (l:List S74) (i1 i2 i3 d:Int):List S95:=
 (if at_has_new.f k l i1 i2 i3 d=some true then [⟨d,false⟩] else []) ++ (if at_has_full.f k l i1 i2 i3 d=some true then [⟨d,true⟩] else [])
def daysOf (lo hi:Int):List Int:=(List.range (hi+1 - lo).toNat).map fun j=>lo+(j:Nat)
def sky_moons.f (k:Nat) (l:List S74) (i1 i2 i3 lo hi:Int):Option (List S95):=
 if 0≤lo∧lo≤hi+1∧hi≤20000∧∀ d∈daysOf lo hi,(at_has_new.f k l i1 i2 i3 d).isSome=true∧(at_has_full.f k l i1 i2 i3 d).isSome=true then some ((daysOf lo hi).flatMap (moonsAt k l i1 i2 i3)) else none
theorem leo_isSome {α:Type} {a b:Option α} (h:LeO a b) (hs:a.isSome=true):b=a:=by
 cases a with
 |none=>simp at hs
 |some x=>exact h x rfl
theorem R_ownFrom {α:Type} {d:Kd α} {e base:Nat} {X Y:World} {v:Value} {xs:List α} {row:Option Nat} (h:d.R e X base (fun _=>True) v xs) (hg:X.grownBy Y row) (hr:∀ r,row=some r→∃ o:Obj,X.heap[r]?=some o∧o.isCells=false):
  d.R e Y base (fun _=>True) v xs:=
 Kd.R_mono (Kd.R_grown (Kd.R_bound h) hg (fun k hk e'=>by
  obtain ⟨_,_,_,q,_,cells,hc⟩:=hk
  obtain ⟨o,ho,hno⟩:=hr k e'.symm
  rw [hc] at ho
  cases ho
  cases hno)) (fun _ _=>trivial)
theorem blk_ownFrom {X Y:World} {b t:Nat} {cs:Array Value} {row:Option Nat} (h:X.heap[b]?=some (.cells cs t (0,0))) (hg:X.grownBy Y row) (hr:∀ r,row=some r→∃ o:Obj,X.heap[r]?=some o∧o.isCells=false):
  Y.heap[b]?=some (.cells cs t (0,0)):=
 blk_grown h hg (fun e'=>by
  obtain ⟨o,ho,hno⟩:=hr b e'.symm
  rw [h] at ho
  cases ho
  cases hno)
structure MoonsI (w W0:World) (A0:Option Addr) (c0 len:Nat) (i1 i2 i3 lo hi:Int) (xs:List S95) (W:World):Prop where
 out:∃ v,W.heap[w.heap.size+1]?=some (.cells #[v] 57 (0,0))∧Kd.R k95 95 W w.heap.size (fun _=>True) v xs
 below:Below w.heap.size w W
 size:W0.heap.size≤W.heap.size
 s:W.heap[w.heap.size+2]?=some (.cells #[.slice A0 len c0,.int .i64 i1,.int .i64 i2,.int .i64 i3] 29 (0,0))
 lo:W.heap[w.heap.size+3]?=some (.cells #[.int .i64 lo] 3 (0,0))
 hi:W.heap[w.heap.size+4]?=some (.cells #[.int .i64 hi] 3 (0,0))
theorem MoonsI.own {w W0:World} {A0:Option Addr} {c0 len:Nat} {i1 i2 i3 lo hi:Int} {β:Type} {f:β→List S95} {B:Nat} (hB:w.heap.size≤B):
  OwnFrom B (fun (s:β) W=>MoonsI w W0 A0 c0 len i1 i2 i3 lo hi (f s) W):=by
 intro s X Y row h hg hr
 have hr':∀ r,row=some r→∃ o:Obj,X.heap[r]?=some o∧o.isCells=false:=fun r e=>(hr r e).2
 obtain ⟨⟨v,h1,h2⟩,h3,h4,h5,h6,h7⟩:=h
 exact ⟨⟨v,blk_ownFrom h1 hg hr',R_ownFrom h2 hg hr'⟩,h3.grown hg h3.size (fun k e=>by have:=(hr k e).1;omega),Nat.le_trans h4 hg.size,blk_ownFrom h5 hg hr',blk_ownFrom h6 hg hr',blk_ownFrom h7 hg hr'⟩
theorem row_ne {α:Type} {d:Kd α} {e base b t:Nat} {ok:Nat→Prop} {W:World} {v:Value} {xs:List α} {cs:Array Value} (h:d.R e W base ok v xs) (hb:W.heap[b]?=some (.cells cs t (0,0))) (ht:e≠t):some b≠v.ownBlock:=Kd.R_ne h hb ht
theorem MoonsI.step {w W0 W W':World} {A0:Option Addr} {c0 len:Nat} {i1 i2 i3 lo hi:Int} {xs ys:List S95} {v v':Value} (h:MoonsI w W0 A0 c0 len i1 i2 i3 lo hi xs W)
  (hO:W.heap[w.heap.size+1]?=some (.cells #[v] 57 (0,0))) (hR:Kd.R k95 95 W w.heap.size (fun _=>True) v xs)
  (hO':W'.heap[w.heap.size+1]?=some (.cells #[v'] 57 (0,0))) (hR':Kd.R k95 95 W' w.heap.size (fun _=>True) v' ys)
  (hk:KeepBut W W' (w.heap.size+1) v.ownBlock) (hb:Below w.heap.size W W'):
  MoonsI w W0 A0 c0 len i1 i2 i3 lo hi ys W'∧KeepsFrom W0.heap.size W W'∧KpD (w.heap.size+2) W W':=by
 have e1:=hk.2 (w.heap.size+2) (blk_lt h.s) (by omega) (row_ne hR h.s (by decide))
 have e2:=hk.2 (w.heap.size+3) (blk_lt h.lo) (by omega) (row_ne hR h.lo (by decide))
 have e3:=hk.2 (w.heap.size+4) (blk_lt h.hi) (by omega) (row_ne hR h.hi (by decide))
 refine ⟨⟨⟨v',hO',hR'⟩,h.below.trans hb,Nat.le_trans h.size hk.1,e1.trans h.s,e2.trans h.lo,e3.trans h.hi⟩,⟨hk.1,fun i o _ hi hc=>?_⟩,fun i h1 h2=>?_⟩
 ·refine (hk.2 i (Array.getElem?_eq_some_iff.1 hi).1 (fun e=>?_) (fun e=>?_)).trans hi
  ·rw [e,hO] at hi;cases hi;cases hc
  ·obtain ⟨inner,ho⟩:=Kd.R_own hR
   obtain ⟨cells,hcl⟩:=own_typed ho i e.symm
   rw [hcl] at hi;cases hi;cases hc
 ·have:i=w.heap.size+2∨i=w.heap.size+3∨i=w.heap.size+4:=by omega
  rcases this with rfl|rfl|rfl
  ·exact e1
  ·exact e2
  ·exact e3
theorem mem_daysOf {lo hi d:Int}:d∈daysOf lo hi ↔ lo≤d∧d≤hi:=by
 unfold daysOf
 rw [List.mem_map]
 constructor
 ·rintro ⟨j,hj,rfl⟩
  have:=List.mem_range.1 hj
  omega
 ·intro h
  exact ⟨(d - lo).toNat,List.mem_range.2 (by omega),by omega⟩
theorem upDays_val {lo hi:Int}:∀ {n:Nat} (h:lo+n≤hi+1),(upDays lo hi n h).map (·.1)=(List.range n).map fun j=>lo+(j:Nat)
 |0,_=>rfl
 |n+1,h=>by rw [upDays,List.map_append,upDays_val,List.range_succ,List.map_append];rfl
theorem allDays_val {lo hi:Int} {ys:List (DayIn lo hi)} (h:AllDays lo hi ys):ys.map (·.1)=daysOf lo hi:=by
 obtain ⟨k,hk,h1,rfl⟩:=h
 rw [upDays_val,daysOf,show (hi+1 - lo).toNat=k from by omega]
theorem flatMap_val {α β:Type} {p:α→Prop} (f:α→List β) (ys:List { x:α // p x }):(ys.flatMap fun x=>f x.1)=(ys.map (·.1)).flatMap f:=by
 induction ys with
 |nil=>rfl
 |cons y ys ih=>simp [List.flatMap_cons,ih]
theorem moonsAt_length (k:Nat) (l:List S74) (i1 i2 i3 d:Int):(moonsAt k l i1 i2 i3 d).length≤2:=by
 unfold moonsAt
 split <;> split <;> simp
theorem moons_length (k:Nat) (l:List S74) (i1 i2 i3:Int) {lo hi:Int} (pre:List (DayIn lo hi)):(pre.flatMap fun x=>moonsAt k l i1 i2 i3 x.1).length≤2*pre.length:=by
 induction pre with
 |nil=>simp
 |cons y ys ih=>rw [List.flatMap_cons,List.length_append,List.length_cons];have:=moonsAt_length k l i1 i2 i3 y.1;omega
set_option maxRecDepth 100000 in
set_option maxHeartbeats 1600000 in
theorem sky_moons.calls (k:Nat) (A0_0:Option Addr) (c0_0:Nat) (l0_0:List S74) (a0_1 a0_2 a0_3 a1 a2:Int) (r:List S95) (w:World)
  (hr0_0:Kd.C k74 w A0_0 l0_0.length l0_0) (hc0_0:l0_0.length≤c0_0) (h:sky_moons.f k l0_0 a0_1 a0_2 a0_3 a1 a2=some r):
  Calls Tryz.prog 83 #[.agg #[.slice A0_0 l0_0.length c0_0,.int .i64 a0_1,.int .i64 a0_2,.int .i64 a0_3],.int .i64 a1,.int .i64 a2] w fun e w'=>∃ v0_:Value,e=.returned (v0_)∧Kd.R k95 95 w' w.heap.size (fun _=>True) v0_ r∧Below w.heap.size w w':=by
 have HR:=A0_ hr0_0;have HC:=A0_ hc0_0;have HF:=A0_ h;clear hr0_0 hc0_0 h
 have hmf:∀ (fn:Fn) (first cap:Array Value) (w:World),(Instr.makeFunc fn first cap).run Tryz.prog w=.ok (.func fn first cap) w:=fun _ _ _ _=>rfl
 refine (callsIn_wide (n:=5)).1 ?_
 refine callsIn_of_wp_marks Tryz.func83 rfl trivial ?_ rfl
 simp only [Tryz.ntmps83,List.size_toArray,List.length_cons,List.length_nil,Nat.reduceAdd,Nat.reduceSub,Array.replicate_succ,Array.replicate_zero,List.push_toArray,List.append_toArray,List.nil_append,List.cons_append]
 gi_wp2_with (refine ⟨trivial,?_⟩;gi_at_call 70;refine (callsIn_wide.2 (days_calls A0_0 c0_0 l0_0.length a0_1 a0_2 a0_3 a1 a2 _)).mono ?_;rintro e w' ⟨rfl,rfl⟩)
 have hcond:0≤a1∧a1≤a2+1∧a2≤20000∧∀ d∈daysOf a1 a2,(at_has_new.f k l0_0 a0_1 a0_2 a0_3 d).isSome=true∧(at_has_full.f k l0_0 a0_1 a0_2 a0_3 d).isSome=true:=by
  have h:=HF.out
  unfold sky_moons.f at h
  split at h
  ·assumption
  ·cases h
 have hres:(daysOf a1 a2).flatMap (moonsAt k l0_0 a0_1 a0_2 a0_3)=r:=by
  have h:=HF.out
  unfold sky_moons.f at h
  rw [if_pos hcond] at h
  exact Option.some.inj h
 obtain ⟨hc1,hc2,hc3,hc4⟩:=hcond
 have HRES:=A0_ hres;have HC4:=A0_ hc4;clear hres hc4
 have hB0:Below w.heap.size w (((((w.alloc (.cells #[.slice A0_0 l0_0.length c0_0,.int .i64 a0_1,.int .i64 a0_2,.int .i64 a0_3] 29)).alloc (.cells #[.slice none 0 0] 57)).alloc (.cells #[.slice A0_0 l0_0.length c0_0,.int .i64 a0_1,.int .i64 a0_2,.int .i64 a0_3] 29)).alloc (.cells #[.int .i64 a1] 3)).alloc (.cells #[.int .i64 a2] 3)):=
  below_alloc (below_alloc (below_alloc (below_alloc (below_alloc (Below.refl _ _) _) _) _) _) _
 have hO:=blk_alloc (blk_alloc (blk_alloc (blk_new (w.alloc (.cells #[.slice A0_0 l0_0.length c0_0,.int .i64 a0_1,.int .i64 a0_2,.int .i64 a0_3] 29)) (.cells #[.slice none 0 0] 57)) (.cells #[.slice A0_0 l0_0.length c0_0,.int .i64 a0_1,.int .i64 a0_2,.int .i64 a0_3] 29)) (.cells #[.int .i64 a1] 3)) (.cells #[.int .i64 a2] 3)
 have hS:=blk_alloc (blk_alloc (blk_new ((w.alloc (.cells #[.slice A0_0 l0_0.length c0_0,.int .i64 a0_1,.int .i64 a0_2,.int .i64 a0_3] 29)).alloc (.cells #[.slice none 0 0] 57)) (.cells #[.slice A0_0 l0_0.length c0_0,.int .i64 a0_1,.int .i64 a0_2,.int .i64 a0_3] 29)) (.cells #[.int .i64 a1] 3)) (.cells #[.int .i64 a2] 3)
 have hL:=blk_alloc (blk_new (((w.alloc (.cells #[.slice A0_0 l0_0.length c0_0,.int .i64 a0_1,.int .i64 a0_2,.int .i64 a0_3] 29)).alloc (.cells #[.slice none 0 0] 57)).alloc (.cells #[.slice A0_0 l0_0.length c0_0,.int .i64 a0_1,.int .i64 a0_2,.int .i64 a0_3] 29)) (.cells #[.int .i64 a1] 3)) (.cells #[.int .i64 a2] 3)
 have hH:=blk_new ((((w.alloc (.cells #[.slice A0_0 l0_0.length c0_0,.int .i64 a0_1,.int .i64 a0_2,.int .i64 a0_3] 29)).alloc (.cells #[.slice none 0 0] 57)).alloc (.cells #[.slice A0_0 l0_0.length c0_0,.int .i64 a0_1,.int .i64 a0_2,.int .i64 a0_3] 29)).alloc (.cells #[.int .i64 a1] 3)) (.cells #[.int .i64 a2] 3)
 have hsz:(((((w.alloc (.cells #[.slice A0_0 l0_0.length c0_0,.int .i64 a0_1,.int .i64 a0_2,.int .i64 a0_3] 29)).alloc (.cells #[.slice none 0 0] 57)).alloc (.cells #[.slice A0_0 l0_0.length c0_0,.int .i64 a0_1,.int .i64 a0_2,.int .i64 a0_3] 29)).alloc (.cells #[.int .i64 a1] 3)).alloc (.cells #[.int .i64 a2] 3)).heap.size=w.heap.size+5:=by simp
 simp only [World.size_alloc] at hO hS hL hH
 generalize (((((w.alloc (.cells #[.slice A0_0 l0_0.length c0_0,.int .i64 a0_1,.int .i64 a0_2,.int .i64 a0_3] 29)).alloc (.cells #[.slice none 0 0] 57)).alloc (.cells #[.slice A0_0 l0_0.length c0_0,.int .i64 a0_1,.int .i64 a0_2,.int .i64 a0_3] 29)).alloc (.cells #[.int .i64 a1] 3)).alloc (.cells #[.int .i64 a2] 3))=W0 at hO hS hL hH hsz hB0 ⊢
 refine wpIn_rangeFunc_ownH rfl (by omega) (gf:=126) (lb:=#[.pointer (some ⟨w.heap.size+3,0,none⟩),.pointer (some ⟨w.heap.size+4,0,none⟩),.pointer (some ⟨w.heap.size+2,0,none⟩)]) rfl trivial (enters_of Tryz.func126 (by kernel_rfl) rfl)
  (days_stops (5 - 1) (by omega) (w.heap.size+2) A0_0 c0_0 l0_0.length a0_1 a0_2 a0_3 a1 a2 hc1 hc2 hc3 W0 hS hL hH) KpD_t (KpD_b (by omega)) (Below.refl _ _) (fun _=>rfl)
  (fun pre W=>MoonsI w W0 A0_0 c0_0 l0_0.length a0_1 a0_2 a0_3 a1 a2 (pre.flatMap fun x=>moonsAt k l0_0 a0_1 a0_2 a0_3 x.1) W)
  (fun _ _ _=>False)
  (MoonsI.own (by omega)) (fun _ _ _ _ _ hs _ _=>hs) ⟨⟨_,hO,Kd.R_nil _ _ _ _ _⟩,hB0,Nat.le_refl _,hS,hL,hH⟩
  (fun x a' W=>∃ Bx,W0.heap.size≤Bx∧W.heap[Bx]?=some (.cells #[.slice A0_0 l0_0.length c0_0,.int .i64 a0_1,.int .i64 a0_2,.int .i64 a0_3,.int .i64 x.1] 112 (0,0))∧a'={ tmps:=#[.agg #[.slice A0_0 l0_0.length c0_0,.int .i64 a0_1,.int .i64 a0_2,.int .i64 a0_3],.int .i64 a1,.int .i64 a2,.pointer (some ⟨w.heap.size,0,none⟩),undef,undef,.slice none 0 0,.pointer (some ⟨w.heap.size+1,0,none⟩),.pointer (some ⟨Bx,0,none⟩),undef,.agg #[.slice A0_0 l0_0.length c0_0,.int .i64 a0_1,.int .i64 a0_2,.int .i64 a0_3],.int .i64 a1,.int .i64 a2,.func (.func 126) #[] #[.pointer (some ⟨w.heap.size+3,0,none⟩),.pointer (some ⟨w.heap.size+4,0,none⟩),.pointer (some ⟨w.heap.size+2,0,none⟩)],.agg #[.slice A0_0 l0_0.length c0_0,.int .i64 a0_1,.int .i64 a0_2,.int .i64 a0_3,.int .i64 x.1],undef,undef,undef,undef,undef,undef,undef,undef,undef,undef],defers:=[] })
  ?hAx ?assign ?body ?done ?stop
 case hAx=>
  rintro x a' _ X Y row ⟨Bx,h1,h2,h3⟩ hg hr
  exact ⟨Bx,h1,blk_ownFrom h2 hg (fun r e=>(hr r e).2),h3⟩
 case assign=>
  rintro l pre x W K hI hK
  dsimp only [encDay]
  have hs:=hI.size
  obtain ⟨⟨v,hOv,hRv⟩,hBW,hsW,hSW,hLW,hHW⟩:=hI
  gi_wp2
  exact hK _ _ ((KeepsOthers.alloc _ _).from _) (fun i h1 h2=>Below.heap_alloc _ _ _ (by omega)) ⟨⟨v,blk_alloc hOv _,Kd.R_alloc hRv _⟩,below_alloc hBW _,by simp;omega,blk_alloc hSW _,blk_alloc hLW _,blk_alloc hHW _⟩ ⟨W.heap.size,hs,blk_new _ _,rfl⟩
 case body=>
  rintro l pre x a' W hl ⟨rr,hrr⟩ hI ⟨Bx,hBx,hX,rfl⟩ hlt
  have hlen:=moons_length k l0_0 a0_1 a0_2 a0_3 pre
  obtain ⟨hn0,hf0⟩:=HC4.out x.1 (mem_daysOf.2 x.2)
  obtain ⟨b1,hb1⟩:=Option.isSome_iff_exists.1 hn0
  obtain ⟨b2,hb2⟩:=Option.isSome_iff_exists.1 hf0
  obtain ⟨v,hOv,hRv⟩:=hI.out
  have HB1:=A0_ hb1;have HB2:=A0_ hb2;have HX:=A0_ hX;have HOv:=A0_ hOv;have HRv:=A0_ hRv;have HI:=A0_ hI;clear hn0 hf0 hb1 hb2 hX hOv hRv hI hO hS hL hH hrr
  gi_wp2_with fail
  refine ⟨trivial,?_⟩
  refine (CallsIn.inRound l (callsIn_wide.2 (moons_c1_new k A0_0 c0_0 l0_0 a0_1 a0_2 a0_3 x.1 w.heap.size (w.heap.size+1) Bx v _ b1 W (Kd.C_below HR.out HI.out.below) HC.out HX.out HOv.out HRv.out (Nat.le_succ _) (by omega) HB1.out))).mono ?_
  rintro e W1 ⟨rfl,v1,hO1,hR1,hk1,hbl1⟩
  have st1:=MoonsI.step HI.out HOv.out HRv.out hO1 hR1 hk1 hbl1
  have HI1:=A0_ st1.1
  have HK1:=A0_ st1.2.1
  have HP1:=A0_ st1.2.2
  have hX1:=(hk1.2 Bx (blk_lt HX.out) (by omega) (row_ne HRv.out HX.out (by decide))).trans HX.out
  have HX1:=A0_ hX1;have HO1:=A0_ hO1;have HR1:=A0_ hR1
  have hlen1:(if b1=true then ([⟨x.1,false⟩]:List S95) else []).length≤1:=by split <;> simp
  clear st1 hO1 hR1 hk1 hbl1 hX1
  gi_wp2_with fail
  refine ⟨trivial,?_⟩
  refine (CallsIn.inRound l (callsIn_wide.2 (moons_c1_full k A0_0 c0_0 l0_0 a0_1 a0_2 a0_3 x.1 w.heap.size (w.heap.size+1) Bx v1 _ b2 W1 (Kd.C_below HR.out HI1.out.below) HC.out HX1.out HO1.out HR1.out (Nat.le_succ _) (by rw [List.length_append];omega) HB2.out))).mono ?_
  rintro e W2 ⟨rfl,v2,hO2,hR2,hk2,hbl2⟩
  have st2:=MoonsI.step HI1.out HO1.out HR1.out hO2 hR2 hk2 hbl2
  have HI2:=A0_ st2.1
  have HK2:=A0_ (HK1.out.trans st2.2.1)
  have HP2:=A0_ (KpD_t HP1.out st2.2.2)
  clear st2 hO2 hR2 hk2 hbl2 hlen1
  gi_wp2
  refine ⟨HK2.out,HP2.out,?_⟩
  have e1:(pre ++ [x]).flatMap (fun x=>moonsAt k l0_0 a0_1 a0_2 a0_3 x.1)=(pre.flatMap fun x=>moonsAt k l0_0 a0_1 a0_2 a0_3 x.1) ++ (if b1=true then [⟨x.1,false⟩] else []) ++ (if b2=true then [⟨x.1,true⟩] else []):=by
   rw [List.flatMap_append,List.flatMap_cons,List.flatMap_nil,List.append_nil,List.append_assoc]
   congr 1
   unfold moonsAt
   rw [HB1.out,HB2.out]
   simp only [Option.some.injEq]
  dsimp only
  rw [e1]
  exact HI2.out
 case done=>
  rintro D ys W hD hys hI hK
  obtain ⟨v,hOv,hRv⟩:=hI.out
  have o0:=blk_cell hOv 0
  simp at o0
  have HI:=A0_ hI;have HRv:=A0_ hRv;have HYS:=A0_ hys;clear hI hRv hOv hys hO hS hL hH
  gi_wp2
  refine ⟨by simp,.inl ⟨_,_,rfl,run_takeDeferred hK,?_⟩⟩
  refine ⟨_,results_tmp rfl _ _ _,v,rfl,?_,HI.out.below.trans (belowK_b (w:=w) (Nat.le_refl _) W D _ _ (by omega) hK rfl rfl)⟩
  have hr:(ys.flatMap fun x=>moonsAt k l0_0 a0_1 a0_2 a0_3 x.1)=r:=by rw [flatMap_val (moonsAt k l0_0 a0_1 a0_2 a0_3) ys,allDays_val HYS.out];exact HRES.out
  rw [← hr]
  exact R_ownFrom HRv.out (grownBy_putObj' W D (.deferred none)) (fun q e=>by cases e;exact ⟨_,hK,rfl⟩)
 case stop=>
  rintro D c pre W _ _ h _
  exact h.elim
end Go.Proofs.YtjahbgldccjbfaaGreatDoor.PSky
end
section
namespace Go.Proofs.YtjahbgldccjbfaaGreatDoor.PSky
open Go.RowKit Go.Proofs.YtjahbgldccjbfaaGreatDoorW.PrintWords Go.Proofs.YtjahbgldccjbfaaGreatDoorW.PrintLast Go.Proofs.YtjahbgldccjbfaaGreatDoorW.PrintMore
attribute [local go_sem] max2_int min2_int max_two min_two max_three min_three max_four min_four
set_option linter.unusedVariables false
set_option linter.unusedSimpArgs false
def sky_line.l0:Nat→ByteArray→List Int→Int→Int→Option (ByteArray)
 |0,_,_,_,_=>none
 |k+1,x0,x7,x8,x9=>if x9<x8 then (if 0≤x9 then (if x9<(x7.length:Int) then ((strconv_Itoa.f (rd x7 x9)).bind fun t229=>(if 1+t229.size≤9223372036854775807 then (if x0.size+((⟨#[32]⟩:ByteArray) ++ t229).size≤9223372036854775807 then (sky_line.l0 k (x0 ++ ((⟨#[32]⟩:ByteArray) ++ t229)) x7 x8 (wrap64 (x9+1))) else (none)) else (none))) else (none)) else (none)) else (some x0)
def sky_line.f (k:Nat) (a0:ByteArray) (l1:List Int):Option (ByteArray):=sky_line.l0 k a0 l1 (l1.length:Int) 0
set_option maxHeartbeats 8000000 in
set_option maxRecDepth 100000 in
theorem sky_line.calls (k:Nat) (a0:ByteArray) (A1:Option Addr) (c1:Nat) (l1:List Int) (r:ByteArray) (w:World) (hr1:Kd.C (Kd.int .i64) w A1 l1.length l1) (hc1:l1.length≤c1) (h:sky_line.f k a0 l1=some r) (hLD:LD w):
  Calls Tryz.prog 123 #[.string a0,.slice A1 l1.length c1] w fun e w'=>e=.returned (.string r)∧Below w.heap.size w w':=by
 have HLD:=A0_ hLD;clear hLD;have HR1:=A0_ hr1;have HC1:=A0_ hc1;clear hr1 hc1
 have HB:=A0_ (Below.refl w.heap.size w)
 have H:(sky_line.l0 k a0 l1 (l1.length:Int) 0)=some r:=h
 clear h
 have H':=A0_ H
 clear H
 go_enter Tryz.func123,Tryz.ntmps123
 go_wp2
 go_loopg [0,9] k (fun kq v0 v9 w'=>∃ (x0_1:ByteArray) (x9_1:Int),v0=.string x0_1∧v9=.int .i64 x9_1∧Aside0 (sky_line.l0 kq x0_1 l1 (l1.length:Int) x9_1=some r)∧Aside0 (kq≤k)∧Aside0 (Below w.heap.size w w'))
 case atStart=>exact ⟨(a0),(0),y4_,y4_,H',⟨Nat.le_refl _⟩,⟨y0_⟩⟩
 case round=>
  clear H'
  (try clear c1);(try clear p2)
  obtain ⟨x0_1,x9_1,rfl,rfl,HA,HK1,HB⟩:=hrel
  cases gk with
  |zero=>exact absurd HA.out (by simp [sky_line.l0])
  |succ k1=>
   have H:=HA.out
   clear HA
   simp only [sky_line.l0] at H
   by_cases c3:x9_1<(l1.length:Int)
   ·rw [if_pos c3] at H;have c3b0:decide (x9_1<(l1.length:Int))=true:=decide_eq_true c3;clear c3
    by_cases c4:0≤x9_1
    ·rw [if_pos c4] at H;have c4b0:decide (0≤x9_1)=true:=decide_eq_true c4;clear c4
     by_cases c5:x9_1<(l1.length:Int)
     ·rw [if_pos c5] at H;have c5b0:decide (x9_1<(l1.length:Int))=true:=decide_eq_true c5;clear c5;replace H:=Option.bind_eq_some_iff.mp H;obtain ⟨t229,A60,H⟩:=H
      replace H:(if 1+t229.size≤9223372036854775807 then (if x0_1.size+((⟨#[32]⟩:ByteArray) ++ t229).size≤9223372036854775807 then (sky_line.l0 k1 (x0_1 ++ ((⟨#[32]⟩:ByteArray) ++ t229)) l1 (l1.length:Int) (wrap64 (x9_1+1))) else (none)) else (none))=some r:=H
      have A6:=A0_ A60;clear A60
      by_cases c7:1+t229.size≤9223372036854775807
      ·rw [if_pos c7] at H;have c7b0:=eq_true c7;have c7b1:decide (1+t229.size≤9223372036854775807)=true:=decide_eq_true c7
       try have c7b2:(9223372036854775807<1+t229.size)=False:=eq_false (Nat.not_lt.2 c7)
       by_cases c8:x0_1.size+((⟨#[32]⟩:ByteArray) ++ t229).size≤9223372036854775807
       ·rw [if_pos c8] at H
        have c8s:x0_1.size+(1+t229.size)≤9223372036854775807:=by
         have h_:=c8
         simp only [ByteArray.size_append] at h_
         exact h_
        have c8b0:=eq_true c8;have c8b1:decide (x0_1.size+((⟨#[32]⟩:ByteArray) ++ t229).size≤9223372036854775807)=true:=decide_eq_true c8
        try have c8b2:(9223372036854775807<x0_1.size+((⟨#[32]⟩:ByteArray) ++ t229).size)=False:=eq_false (Nat.not_lt.2 c8)
        have H':=A0_ H
        clear H
        have p228:0≤(x9_1:Int):=of_decide_eq_true y5_
        have q228:x9_1<(l1.length:Int):=of_decide_eq_true y5_
        obtain ⟨ad228,e228,hx228_0⟩:=Kd.at_int HR1.out x9_1 p228 q228
        cases e228
        replace hx228_0:=(HB.out.cell (World.block_lt_of_cell? w _ hx228_0)).trans hx228_0
        replace p228:=eq_true p228
        replace q228:=eq_true q228
        go_wp2_with (first|((with_reducible refine gate_callee (f:=125) rfl ?_);refine goesL_ (some 15) rfl rfl Tryz.func125 (by kernel_rfl) rfl #[.int .i64 (rd l1 x9_1)] rfl y1_ ?_;(with_reducible refine (strconv_Itoa.calls (rd l1 x9_1) t229 _ A6.out ?side1).mono ?_);(case side1=>exact LD.below HLD.out y0_);rintro e w9 ⟨rfl,hb⟩;refine ⟨_,rfl,?_⟩;have n0_:=A0_ (below_step y0_ hb);clear HB;have HB:=n0_;clear n0_;(try clear hb);(try clear hb2);(try clear hk);(try clear hi)))
        go_roundg k1
        case measure=>have:=HK1.out;omega
        case rel=>exact ⟨(x0_1 ++ ((⟨#[32]⟩:ByteArray) ++ t229)),(wrap64 (x9_1+1)),y4_,y4_,H',⟨by have:=HK1.out;omega⟩,⟨y0_⟩⟩
       ·rw [if_neg c8] at H;exact absurd H (by simp)
      ·rw [if_neg c7] at H;exact absurd H (by simp)
     ·rw [if_neg c5] at H;exact absurd H (by simp)
    ·rw [if_neg c4] at H;exact absurd H (by simp)
   ·rw [if_neg c3] at H;have c3b0:decide (x9_1<(l1.length:Int))=false:=decide_eq_false c3;clear c3;obtain rfl:=Option.some.inj H;go_wp2;go_ret
    exact ⟨y2_,y0_⟩
mutual
def sky_text.l0:Nat→List ByteArray→Int→Int→List (S74)→Int→Int→Int→Option (ByteArray)
 |0,_,_,_,_,_,_,_=>none
 |k+1,x3,x18,x19,x231000,x231001,x231002,x231003=>if x19<x18 then (if 0≤x19 then (if x19<(x231000.length:Int) then ((some (([(rd_T74 x231000 x19).f0.f0,(rd_T74 x231000 x19).f0.f1,(rd_T74 x231000 x19).f1]:List Int):List Int)).bind fun y240=>(if y240.length+((rd_T74 x231000 x19).f2).length<17592186044416 then ((sky_line.f k (⟨#[98,111,100,121]⟩:ByteArray) (y240 ++ ((rd_T74 x231000 x19).f2))).bind fun t246=>(if x3.length<8796093022208 then (sky_text.l0 k (x3 ++ [t246]) x18 (wrap64 (x19+1)) x231000 x231001 x231002 x231003) else (none))) else (none))) else (none)) else (none)) else ((sky_line.f k (⟨#[110,111,100,101]⟩:ByteArray) (([x231001,x231002,x231003]:List Int))).bind fun t253=>(if x3.length<8796093022208 then ((some (x3 ++ [t253]:List ByteArray)).bind fun y254=>(sky_text.l1 k y254 0 y254 (y254.length:Int) 0)) else (none)))
def sky_text.l1:Nat→List ByteArray→Int→List ByteArray→Int→Int→Option (ByteArray)
 |0,_,_,_,_,_=>none
 |k+1,x3,x6,x60,x61,x62=>if x62<x61 then (if 0≤x62 then (if x62<(x60.length:Int) then (sky_text.l2 k x3 x6 x62 (rdOf ByteArray.empty x60 x62) x60 x61 x62 ((rdOf ByteArray.empty x60 x62).size:Int) 0) else (none)) else (none)) else ((strings_Join.f x3 (⟨#[10]⟩:ByteArray)).bind fun t258=>(if t258.size+5≤9223372036854775807 then ((strconv_Itoa.f (wrap64 (Int.tdiv (Int.tmod x6 137) 100))).bind fun t259=>(if (t258 ++ (⟨#[10,101,110,100,32]⟩:ByteArray)).size+t259.size≤9223372036854775807 then ((strconv_Itoa.f (Int.tmod (wrap64 (Int.tdiv (Int.tmod x6 137) 10)) 10)).bind fun t260=>(if ((t258 ++ (⟨#[10,101,110,100,32]⟩:ByteArray)) ++ t259).size+t260.size≤9223372036854775807 then ((strconv_Itoa.f (Int.tmod (Int.tmod x6 137) 10)).bind fun t261=>(if (((t258 ++ (⟨#[10,101,110,100,32]⟩:ByteArray)) ++ t259) ++ t260).size+t261.size≤9223372036854775807 then (if ((((t258 ++ (⟨#[10,101,110,100,32]⟩:ByteArray)) ++ t259) ++ t260) ++ t261).size+1≤9223372036854775807 then (some (((((t258 ++ (⟨#[10,101,110,100,32]⟩:ByteArray)) ++ t259) ++ t260) ++ t261) ++ (⟨#[10]⟩:ByteArray))) else (none)) else (none))) else (none))) else (none))) else (none)))
def sky_text.l2:Nat→List ByteArray→Int→Int→ByteArray→List ByteArray→Int→Int→Int→Int→Option (ByteArray)
 |0,_,_,_,_,_,_,_,_,_=>none
 |k+1,x3,x6,x7,x8,x60,x61,x62,x68,x69=>if x69<x68 then (if 0≤x69 then (if x69<(x8.size:Int) then (sky_text.l2 k x3 (wrap64 (x6+(wrap64 ((wrap64 ((wrap64 (bt x8 x69))*(wrap64 (x69+1))))*(wrap64 (x7+1)))))) x7 x8 x60 x61 x62 x68 (wrap64 (x69+1))) else (none)) else (none)) else (sky_text.l1 k x3 x6 x60 x61 (wrap64 (x62+1)))
end
def sky_text.f (k:Nat) (l0_0:List (S74)) (a0_1:Int) (a0_2:Int) (a0_3:Int):Option (ByteArray):=(sky_line.f k (⟨#[115,107,121]⟩:ByteArray) (([(l0_0.length:Int)]:List Int))).bind fun t234=>(sky_text.l0 k (([t234]:List ByteArray)) (l0_0.length:Int) 0 l0_0 a0_1 a0_2 a0_3)
set_option maxHeartbeats 8000000 in
set_option maxRecDepth 100000 in
theorem sky_text.calls (k:Nat) (A0_0:Option Addr) (c0_0:Nat) (l0_0:List (S74)) (a0_1:Int) (a0_2:Int) (a0_3:Int) (r:ByteArray) (w:World) (hr0_0:Kd.C k74 w A0_0 l0_0.length l0_0) (hc0_0:l0_0.length≤c0_0) (h:sky_text.f k l0_0 a0_1 a0_2 a0_3=some r) (hLD:LD w):
  Calls Tryz.prog 67 #[.agg #[.slice A0_0 l0_0.length c0_0,.int .i64 a0_1,.int .i64 a0_2,.int .i64 a0_3]] w fun e w'=>e=.returned (.string r)∧Below w.heap.size w w':=by
 have HLD:=A0_ hLD;clear hLD
 have hu29:=Tryz.underlying29
 have hu74:=Tryz.underlying74
 have HR0_0:=A0_ hr0_0;have HC0_0:=A0_ hc0_0;clear hr0_0 hc0_0
 have HB:=A0_ (Below.refl w.heap.size w)
 have H:((sky_line.f k (⟨#[115,107,121]⟩:ByteArray) (([(l0_0.length:Int)]:List Int))).bind fun t234=>(sky_text.l0 k (([t234]:List ByteArray)) (l0_0.length:Int) 0 l0_0 a0_1 a0_2 a0_3))=some r:=h
 clear h
 obtain ⟨y231,hy231⟩:∃ y_:List Int,y_=(([(l0_0.length:Int)]:List Int)):=⟨_,rfl⟩
 replace H:((sky_line.f k (⟨#[115,107,121]⟩:ByteArray) y231).bind fun t234=>(sky_text.l0 k (([t234]:List ByteArray)) (l0_0.length:Int) 0 l0_0 a0_1 a0_2 a0_3))=some r:=by first|(rw [hy231];with_reducible exact H)|(have H2_:=(Option.bind_some _ _).symm.trans H;rw [hy231];with_reducible exact H2_)|(have H2_:=(Option.bind_some _ _).symm.trans H;with_reducible exact H2_)|with_reducible exact H|(rw [hy231];exact H)|exact H
 have Ny231:=A0_ hy231;clear hy231;replace H:=Option.bind_eq_some_iff.mp H;obtain ⟨t234,A20,H⟩:=H
 replace H:(sky_text.l0 k (([t234]:List ByteArray)) (l0_0.length:Int) 0 l0_0 a0_1 a0_2 a0_3)=some r:=H
 have A2:=A0_ A20;clear A20
 obtain ⟨y235,hy235⟩:∃ y_:List ByteArray,y_=(([t234]:List ByteArray)):=⟨_,rfl⟩
 replace H:(sky_text.l0 k y235 (l0_0.length:Int) 0 l0_0 a0_1 a0_2 a0_3)=some r:=by first|(rw [hy235];with_reducible exact H)|(have H2_:=(Option.bind_some _ _).symm.trans H;rw [hy235];with_reducible exact H2_)|(have H2_:=(Option.bind_some _ _).symm.trans H;with_reducible exact H2_)|with_reducible exact H|(rw [hy235];exact H)|exact H
 have Ny235:=A0_ hy235;clear hy235
 have H':=A0_ H
 clear H
 go_enter Tryz.func67,Tryz.ntmps67
 go_wp2_with (first|((with_reducible refine gate_dst (N:=1) rfl ?_);refine box_event ?hg (N:=1) ?hd (cs:=#[.slice A0_0 l0_0.length c0_0,.int .i64 a0_1,.int .i64 a0_2,.int .i64 a0_3]) (t:=29) ?hr ?_;(case hd=>rfl);(case hg=>rfl);(case hr=>first|(go_simp;done)|(go_simp;rfl));intro gb230 hg w3 hbox hb;have n0_:=A0_ (below_step y0_ hb);have n1_:=A0_ (hbox);have n2_:=A0_ ((by rw [hg];exact (below_size y0_):w.heap.size≤gb230));have n3_:=A0_ ((by rw [hg];exact (below_size y0_):w.heap.size≤gb230));clear HB;have HB:=n0_;have BK230:=n1_;have GW230:=n2_;have GE230:=n3_;clear n0_ n1_ n2_ n3_;clear hb hbox hg;obtain ⟨hcz4_0,hcz4_1,hcz4_2,hcz4_3,hfz4_0,hfz4_1,hfz4_2,hfz4_3⟩:=bq4_ BK230.out)|((with_reducible refine gate_dst (N:=13) rfl ?_);refine Kd.R_lit (Kd.int .i64) _ 3 ?hg (N:=13) ?hd (xs:=([(l0_0.length:Int)]:List Int)) (inner:=[.int .i64 (l0_0.length:Int)]) (ok:=fun _=>True) (okp:=fun _=>True) ?hr ?hp (fun _ hk=>hk) trivial (Below.refl _ _) (Nat.le_refl _) (by simp) ?_;(case hd=>rfl);(case hg=>rfl);(case hr=>first|(go_simp;done)|(go_simp;rfl));(case hp=>exact (Reps.one (show Kd.M (Kd.int .i64) _ _ _ (l0_0.length:Int) [.int .i64 (l0_0.length:Int)] from rfl) (Reps.none _ _)));intro v232 w5 ho6 hb hg_ hnew_;clear hg_ hnew_;(first|rw [← Ny231.out] at ho6|(simp only [Int.reduceToNat] at ho6;rw [← Ny231.out] at ho6));have n0_:=A0_ (Kd.R_lower ho6 (below_size y6_));have n1_:=A0_ (blk_below (g:=gb230) (o:=.cells #[.slice A0_0 l0_0.length c0_0,.int .i64 a0_1,.int .i64 a0_2,.int .i64 a0_3] 29 (0,0)) (bd_ BK230.out) hb);have n2_:=A0_ (below_step y6_ hb);clear BK230;clear HB;have HO233:=n0_;have BK230:=n1_;have HB:=n2_;clear n0_ n1_ n2_;clear hb ho6;obtain ⟨Ao7,co7,eo7⟩:=Kd.R_slice HO233.out;subst eo7)|((with_reducible refine gate_callee (f:=123) rfl ?_);refine goesL_ (some 14) rfl rfl Tryz.func123 (by kernel_rfl) rfl #[.string (⟨#[115,107,121]⟩:ByteArray),.slice Ao7 y231.length co7] rfl y1_ ?_;(with_reducible refine (sky_line.calls k (⟨#[115,107,121]⟩:ByteArray) _ _ y231 t234 _ ?side1 ?side2 A2.out ?side3).mono ?_);(case side1=>repeat (first|exact (Kd.R_reads' HO233.out).2.2|(with_reducible refine Kd.C_alloc ?_ _)|(with_reducible refine Kd.C_drewN ?_ _)|(with_reducible refine Kd.C_drew ?_)));(case side2=>exact (Kd.R_reads' HO233.out).2.1);(case side3=>exact LD.below HLD.out y6_);rintro e w8 ⟨rfl,hb⟩;refine ⟨_,rfl,?_⟩;have n0_:=A0_ (Kd.R_below (rd_ HO233.out) hb);have n1_:=A0_ (blk_below (g:=gb230) (o:=.cells #[.slice A0_0 l0_0.length c0_0,.int .i64 a0_1,.int .i64 a0_2,.int .i64 a0_3] 29 (0,0)) (bd_ BK230.out) hb);have n2_:=A0_ (below_step y6_ hb);clear HO233;clear BK230;clear HB;have HO233:=n0_;have BK230:=n1_;have HB:=n2_;clear n0_ n1_ n2_;(try clear hb);(try clear hb2);(try clear hk);(try clear hi))|((with_reducible refine gate_dst (N:=15) rfl ?_);refine Kd.R_lit Kd.string _ 9 ?hg (N:=15) ?hd (xs:=([t234]:List ByteArray)) (inner:=[.string t234]) (ok:=fun _=>True) (okp:=fun _=>True) ?hr ?hp (fun _ hk=>hk) trivial (Below.refl _ _) (Nat.le_refl _) (by simp) ?_;(case hd=>rfl);(case hg=>rfl);(case hr=>first|(go_simp;done)|(go_simp;rfl));(case hp=>exact (Reps.one (show Kd.M Kd.string _ _ _ t234 [.string t234] from rfl) (Reps.none _ _)));intro v236 w9 ho10 hb hg_ hnew_;clear hg_ hnew_;(first|rw [← Ny235.out] at ho10|(simp only [Int.reduceToNat] at ho10;rw [← Ny235.out] at ho10));have n0_:=A0_ (Kd.R_below (rd_ HO233.out) hb);have n1_:=A0_ (Kd.R_lower ho10 (below_size y6_));have n2_:=A0_ (blk_below (g:=gb230) (o:=.cells #[.slice A0_0 l0_0.length c0_0,.int .i64 a0_1,.int .i64 a0_2,.int .i64 a0_3] 29 (0,0)) (bd_ BK230.out) hb);have n3_:=A0_ (below_step y6_ hb);clear HO233;clear BK230;clear HB;have HO233:=n0_;have HO237:=n1_;have BK230:=n2_;have HB:=n3_;clear n0_ n1_ n2_ n3_;clear hb ho10;obtain ⟨hcz11_0,hcz11_1,hcz11_2,hcz11_3,hfz11_0,hfz11_1,hfz11_2,hfz11_3⟩:=bq4_ BK230.out))
 go_loopg [3,19] k (fun kq v3 v19 w'=>∃ (x3_1:List ByteArray) (x19_1:Int),v19=.int .i64 x19_1∧Aside0 (sky_text.l0 kq x3_1 (l0_0.length:Int) x19_1 l0_0 a0_1 a0_2 a0_3=some r)∧Aside0 (kq≤k)∧Aside0 (Kd.R Kd.string 9 w' w.heap.size (fun _=>True) v3 x3_1)∧Aside0 (w'.heap[gb230]?=some (.cells #[(.slice A0_0 l0_0.length c0_0),.int .i64 a0_1,.int .i64 a0_2,.int .i64 a0_3] 29 (0,0)))∧Aside0 (Below w.heap.size w w'))
 case atStart=>exact ⟨(y235),(0),y4_,H',⟨Nat.le_refl _⟩,⟨by (with_reducible repeat (first|apply Kd.R_alloc|apply Kd.R_drewN|apply Kd.R_drew));exact HO237.out⟩,⟨by (with_reducible repeat (first|refine blk_drewN ?_ _|refine blk_drew ?_|refine blk_alloc ?_ _));exact BK230.out⟩,⟨y6_⟩⟩
 case round=>
  clear H'
  (try clear c1);(try clear p2);(try clear c6);(try clear hcz11_0);(try clear hcz11_1);(try clear hcz11_2);(try clear hcz11_3);(try clear hcz4_0);(try clear hcz4_1);(try clear hcz4_2);(try clear hcz4_3);(try clear hfz11_0);(try clear hfz11_1);(try clear hfz11_2);(try clear hfz11_3);(try clear hfz4_0);(try clear hfz4_1);(try clear hfz4_2);(try clear hfz4_3)
  obtain ⟨x3_1,x19_1,rfl,HA,HK1,HO_3,BK230,HB⟩:=hrel
  cases gk with
  |zero=>exact absurd HA.out (by simp [sky_text.l0])
  |succ k1=>
   have H:=HA.out
   clear HA
   simp only [sky_text.l0] at H
   by_cases c12:x19_1<(l0_0.length:Int)
   ·rw [if_pos c12] at H;have c12b0:decide (x19_1<(l0_0.length:Int))=true:=decide_eq_true c12;clear c12
    by_cases c13:0≤x19_1
    ·rw [if_pos c13] at H;have c13b0:decide (0≤x19_1)=true:=decide_eq_true c13;clear c13
     by_cases c14:x19_1<(l0_0.length:Int)
     ·rw [if_pos c14] at H;have c14b0:decide (x19_1<(l0_0.length:Int))=true:=decide_eq_true c14;clear c14
      obtain ⟨y240,hy240⟩:∃ y_:List Int,y_=(([(rd_T74 l0_0 x19_1).f0.f0,(rd_T74 l0_0 x19_1).f0.f1,(rd_T74 l0_0 x19_1).f1]:List Int)):=⟨_,rfl⟩
      replace H:(if y240.length+((rd_T74 l0_0 x19_1).f2).length<17592186044416 then ((sky_line.f k1 (⟨#[98,111,100,121]⟩:ByteArray) (y240 ++ ((rd_T74 l0_0 x19_1).f2))).bind fun t246=>(if x3_1.length<8796093022208 then (sky_text.l0 k1 (x3_1 ++ [t246]) (l0_0.length:Int) (wrap64 (x19_1+1)) l0_0 a0_1 a0_2 a0_3) else (none))) else (none))=some r:=by first|(rw [hy240];with_reducible exact H)|(have H2_:=(Option.bind_some _ _).symm.trans H;rw [hy240];with_reducible exact H2_)|(have H2_:=(Option.bind_some _ _).symm.trans H;with_reducible exact H2_)|with_reducible exact H|(rw [hy240];exact H)|exact H
      have Ny240:=A0_ hy240;clear hy240
      by_cases c15:y240.length+((rd_T74 l0_0 x19_1).f2).length<17592186044416
      ·rw [if_pos c15] at H;have LMc15:=A0_ c15;clear c15
       obtain ⟨y243,hy243⟩:∃ y_:List Int,y_=(y240 ++ ((rd_T74 l0_0 x19_1).f2)):=⟨_,rfl⟩
       replace H:((sky_line.f k1 (⟨#[98,111,100,121]⟩:ByteArray) y243).bind fun t246=>(if x3_1.length<8796093022208 then (sky_text.l0 k1 (x3_1 ++ [t246]) (l0_0.length:Int) (wrap64 (x19_1+1)) l0_0 a0_1 a0_2 a0_3) else (none)))=some r:=by first|(rw [hy243];with_reducible exact H)|(have H2_:=(Option.bind_some _ _).symm.trans H;rw [hy243];with_reducible exact H2_)|(have H2_:=(Option.bind_some _ _).symm.trans H;with_reducible exact H2_)|with_reducible exact H|(rw [hy243];exact H)|exact H
       have Ny243:=A0_ hy243;clear hy243;replace H:=Option.bind_eq_some_iff.mp H;obtain ⟨t246,A160,H⟩:=H
       replace H:(if x3_1.length<8796093022208 then (sky_text.l0 k1 (x3_1 ++ [t246]) (l0_0.length:Int) (wrap64 (x19_1+1)) l0_0 a0_1 a0_2 a0_3) else (none))=some r:=H
       have A16:=A0_ A160;clear A160
       by_cases c17:x3_1.length<8796093022208
       ·rw [if_pos c17] at H;have LMc17:=A0_ c17;clear c17
        obtain ⟨y247,hy247⟩:∃ y_:List ByteArray,y_=(x3_1 ++ [t246]):=⟨_,rfl⟩
        replace H:(sky_text.l0 k1 y247 (l0_0.length:Int) (wrap64 (x19_1+1)) l0_0 a0_1 a0_2 a0_3)=some r:=by first|(rw [hy247];with_reducible exact H)|(have H2_:=(Option.bind_some _ _).symm.trans H;rw [hy247];with_reducible exact H2_)|(have H2_:=(Option.bind_some _ _).symm.trans H;with_reducible exact H2_)|with_reducible exact H|(rw [hy247];exact H)|exact H
        have Ny247:=A0_ hy247;clear hy247
        have H':=A0_ H
        clear H;obtain ⟨hcz18_0,hcz18_1,hcz18_2,hcz18_3,hfz18_0,hfz18_1,hfz18_2,hfz18_3⟩:=bq4_ BK230.out
        have p238:0≤(x19_1:Int):=of_decide_eq_true y5_
        have q238:x19_1<(l0_0.length:Int):=of_decide_eq_true y5_
        obtain ⟨ad238,A238_3,c238_3,e238,hx238_0,hx238_1,hx238_2,hx238_3,hl238_3,hi238_3⟩:=at_T74 HR0_0.out x19_1 p238 q238
        cases e238
        replace hx238_0:=(HB.out.cell (World.block_lt_of_cell? w _ hx238_0)).trans hx238_0
        replace hx238_1:=(HB.out.cell (World.block_lt_of_cell? w _ hx238_1)).trans hx238_1
        replace hx238_2:=(HB.out.cell (World.block_lt_of_cell? w _ hx238_2)).trans hx238_2
        replace hx238_3:=(HB.out.cell (World.block_lt_of_cell? w _ hx238_3)).trans hx238_3
        have HR238_3:=A0_ hi238_3;have HC238_3:=A0_ hl238_3;clear hi238_3 hl238_3
        replace p238:=eq_true p238
        replace q238:=eq_true q238
        go_wp2_with (first|((with_reducible refine gate_dst (N:=5) rfl ?_);refine box_event ?hg (N:=5) ?hd (cs:=#[.int .i64 0,.int .i64 0,.int .i64 0,.slice none 0 0]) (t:=74) ?hr ?_;(case hd=>rfl);(case hg=>rfl);(case hr=>first|(go_simp;done)|(go_simp;rfl));intro gb239 hg w19 hbox hb;have n0_:=A0_ (Kd.R_below (rd_ HO_3.out) hb);have n1_:=A0_ (blk_below (g:=gb230) (o:=.cells #[.slice (some ad238) l0_0.length c0_0,.int .i64 a0_1,.int .i64 a0_2,.int .i64 a0_3] 29 (0,0)) (bd_ BK230.out) hb);have n2_:=A0_ (below_step y6_ hb);have n3_:=A0_ (hbox);have n4_:=A0_ ((by rw [hg];exact (below_size y6_):w.heap.size≤gb239));have n5_:=A0_ ((by rw [hg];exact (below_size y6_):w.heap.size≤gb239));have n6_:=A0_ ((by rw [hg];exact Nat.ne_of_lt (blk_lt (g:=gb230) (o:=.cells #[.slice (some ad238) l0_0.length c0_0,.int .i64 a0_1,.int .i64 a0_2,.int .i64 a0_3] 29 (0,0)) (bd_ BK230.out)):gb230≠gb239));have n7_:=A0_ ((by rw [hg];exact Nat.ne_of_gt (blk_lt (g:=gb230) (o:=.cells #[.slice (some ad238) l0_0.length c0_0,.int .i64 a0_1,.int .i64 a0_2,.int .i64 a0_3] 29 (0,0)) (bd_ BK230.out)):gb239≠gb230));clear HO_3;clear BK230;clear HB;have HO_3:=n0_;have BK230:=n1_;have HB:=n2_;have BK239:=n3_;have GW239:=n4_;have GE239:=n5_;have NB230_239:=n6_;have NB239_230:=n7_;clear n0_ n1_ n2_ n3_ n4_ n5_ n6_ n7_;clear hb hbox hg;have hnb20:=NB239_230.out;have hnc20:=NB230_239.out;obtain ⟨hcz21_0,hcz21_1,hcz21_2,hcz21_3,hfz21_0,hfz21_1,hfz21_2,hfz21_3⟩:=bq4_ BK239.out)|((with_reducible refine gate_dst (N:=36) rfl ?_);refine Kd.R_lit (Kd.int .i64) _ 3 ?hg (N:=36) ?hd (xs:=([(rd_T74 l0_0 x19_1).f0.f0,(rd_T74 l0_0 x19_1).f0.f1,(rd_T74 l0_0 x19_1).f1]:List Int)) (inner:=[.int .i64 ((rd_T74 l0_0 x19_1).f0.f0),.int .i64 ((rd_T74 l0_0 x19_1).f0.f1),.int .i64 ((rd_T74 l0_0 x19_1).f1)]) (ok:=fun _=>True) (okp:=fun _=>True) ?hr ?hp (fun _ hk=>hk) trivial (Below.refl _ _) (Nat.le_refl _) (by simp) ?_;(case hd=>rfl);(case hg=>rfl);(case hr=>first|(go_simp;done)|(go_simp;rfl));(case hp=>exact (Reps.one (show Kd.M (Kd.int .i64) _ _ _ ((rd_T74 l0_0 x19_1).f0.f0) [.int .i64 ((rd_T74 l0_0 x19_1).f0.f0)] from rfl) (Reps.one (show Kd.M (Kd.int .i64) _ _ _ ((rd_T74 l0_0 x19_1).f0.f1) [.int .i64 ((rd_T74 l0_0 x19_1).f0.f1)] from rfl) (Reps.one (show Kd.M (Kd.int .i64) _ _ _ ((rd_T74 l0_0 x19_1).f1) [.int .i64 ((rd_T74 l0_0 x19_1).f1)] from rfl) (Reps.none _ _)))));intro v241 w22 ho23 hb hg_ hnew_;clear hg_ hnew_;(first|rw [← Ny240.out] at ho23|(simp only [Int.reduceToNat] at ho23;rw [← Ny240.out] at ho23));have n0_:=A0_ (Kd.R_below (by (with_reducible repeat (first|apply Kd.R_alloc|apply Kd.R_drewN|apply Kd.R_drew));exact (Kd.R_mono (Kd.R_far (p:=⟨gb239,3,none⟩) (Kd.R_far (p:=⟨gb239,2,none⟩) (Kd.R_far (p:=⟨gb239,1,none⟩) (Kd.R_far (p:=⟨gb239,0,none⟩) (Kd.R_types HO_3.out BK239.out (by decide)) (fun _ hk=>hk.2) (.int .i64 ((rd_T74 l0_0 x19_1).f0.f0))) (fun _ hk=>hk.2) (.int .i64 ((rd_T74 l0_0 x19_1).f0.f1))) (fun _ hk=>hk.2) (.int .i64 ((rd_T74 l0_0 x19_1).f1))) (fun _ hk=>hk.2) (.slice A238_3 ((rd_T74 l0_0 x19_1).f2).length c238_3)) (fun _ h_=>h_.1))) hb);have n1_:=A0_ (Kd.R_lower ho23 (below_size yu_));have n2_:=A0_ (blk_below (g:=gb230) (o:=.cells #[.slice (some ad238) l0_0.length c0_0,.int .i64 a0_1,.int .i64 a0_2,.int .i64 a0_3] 29 (0,0)) (by (with_reducible repeat (first|refine blk_drewN ?_ _|refine blk_drew ?_|refine blk_alloc ?_ _));refine blk_far ?_ NB230_239.out _;(with_reducible repeat (first|refine blk_drewN ?_ _|refine blk_drew ?_|refine blk_alloc ?_ _));refine blk_far ?_ NB230_239.out _;(with_reducible repeat (first|refine blk_drewN ?_ _|refine blk_drew ?_|refine blk_alloc ?_ _));refine blk_far ?_ NB230_239.out _;(with_reducible repeat (first|refine blk_drewN ?_ _|refine blk_drew ?_|refine blk_alloc ?_ _));refine blk_far ?_ NB230_239.out _;(with_reducible repeat (first|refine blk_drewN ?_ _|refine blk_drew ?_|refine blk_alloc ?_ _));exact BK230.out) hb);have n3_:=A0_ (blk_below (g:=gb239) (o:=.cells #[.int .i64 ((rd_T74 l0_0 x19_1).f0.f0),.int .i64 ((rd_T74 l0_0 x19_1).f0.f1),.int .i64 ((rd_T74 l0_0 x19_1).f1),.slice A238_3 ((rd_T74 l0_0 x19_1).f2).length c238_3] 74 (0,0)) (by (with_reducible repeat (first|refine blk_drewN ?_ _|refine blk_drew ?_|refine blk_alloc ?_ _));refine blk_put (cs:=#[.int .i64 ((rd_T74 l0_0 x19_1).f0.f0),.int .i64 ((rd_T74 l0_0 x19_1).f0.f1),.int .i64 ((rd_T74 l0_0 x19_1).f1),.slice none 0 0]) ?_ 3 _ rfl;(with_reducible repeat (first|refine blk_drewN ?_ _|refine blk_drew ?_|refine blk_alloc ?_ _));refine blk_put (cs:=#[.int .i64 ((rd_T74 l0_0 x19_1).f0.f0),.int .i64 ((rd_T74 l0_0 x19_1).f0.f1),.int .i64 0,.slice none 0 0]) ?_ 2 _ rfl;(with_reducible repeat (first|refine blk_drewN ?_ _|refine blk_drew ?_|refine blk_alloc ?_ _));refine blk_put (cs:=#[.int .i64 ((rd_T74 l0_0 x19_1).f0.f0),.int .i64 0,.int .i64 0,.slice none 0 0]) ?_ 1 _ rfl;(with_reducible repeat (first|refine blk_drewN ?_ _|refine blk_drew ?_|refine blk_alloc ?_ _));refine blk_put (cs:=#[.int .i64 0,.int .i64 0,.int .i64 0,.slice none 0 0]) ?_ 0 _ rfl;(with_reducible repeat (first|refine blk_drewN ?_ _|refine blk_drew ?_|refine blk_alloc ?_ _));exact BK239.out) hb);have n4_:=A0_ (below_step yu_ hb);clear HO_3;clear BK230;clear BK239;clear HB;have HO_3:=n0_;have HO242:=n1_;have BK230:=n2_;have BK239:=n3_;have HB:=n4_;clear n0_ n1_ n2_ n3_ n4_;clear hb ho23;obtain ⟨hcz24_0,hcz24_1,hcz24_2,hcz24_3,hfz24_0,hfz24_1,hfz24_2,hfz24_3⟩:=bq4_ BK239.out)|((with_reducible refine gate_builtin (b:=.append) (xs:=#[.tmp 36,.tmp 38]) rfl ?_);at_builtin;refine Kd.R_append_rows (Kd.int .i64) (w0:=w) w.heap.size rfl (.tmp 36) (.tmp 38) 40 3 (.int .i64 0) 8 rfl Tryz.underlying40 info3 rfl (by decide) (by omega) v241 y240 ((rd_T74 l0_0 x19_1).f2) _ _ _ (fun _=>True) (fun _=>False) rfl rfl ?aO ?aR (fun _ _ h=>h) (fun _ h=>h.elim) ?aF ?aB ?aS ?aL ?_;(case aR=>repeat (first|exact (Kd.C_below HR238_3.out HB.out)|(with_reducible refine Kd.C_alloc ?_ _)|(with_reducible refine Kd.C_drewN ?_ _)|(with_reducible refine Kd.C_drew ?_)));(case aB=>exact yu_);(case aF=>exact (fun _ _=>trivial));(case aO=>exact (rd_ HO242.out));(case aS=>exact (below_size yu_));(case aL=>have:=LMc15.out;omega);intro v244 w25 ho hb hg hat;rw [← Ny243.out] at ho;have n0_:=A0_ (Kd.R_over' (rd_ HO_3.out) (Kd.R_typed (rd_ HO242.out)) (by decide) hg);have n1_:=A0_ (blk_grown (g:=gb230) (o:=.cells #[.slice (some ad238) l0_0.length c0_0,.int .i64 a0_1,.int .i64 a0_2,.int .i64 a0_3] 29 (0,0)) (bd_ BK230.out) hg (Kd.R_ne HO242.out BK230.out (by decide)));have n2_:=A0_ (blk_grown (g:=gb239) (o:=.cells #[.int .i64 ((rd_T74 l0_0 x19_1).f0.f0),.int .i64 ((rd_T74 l0_0 x19_1).f0.f1),.int .i64 ((rd_T74 l0_0 x19_1).f1),.slice A238_3 ((rd_T74 l0_0 x19_1).f2).length c238_3] 74 (0,0)) (bd_ BK239.out) hg (Kd.R_ne HO242.out BK239.out (by decide)));have n3_:=A0_ (hb);have n4_:=A0_ (ho);clear HO_3;clear BK230;clear BK239;clear HB;clear HO242;have HO_3:=n0_;have BK230:=n1_;have BK239:=n2_;have HB:=n3_;have HO245:=n4_;clear n0_ n1_ n2_ n3_ n4_;clear ho hb hg hat;obtain ⟨Ao26,co26,eo26⟩:=Kd.R_slice HO245.out;subst eo26)|((with_reducible refine gate_callee (f:=123) rfl ?_);refine goesL_ (some 40) rfl rfl Tryz.func123 (by kernel_rfl) rfl #[.string (⟨#[98,111,100,121]⟩:ByteArray),.slice Ao26 y243.length co26] rfl y1_ ?_;(with_reducible refine (sky_line.calls k1 (⟨#[98,111,100,121]⟩:ByteArray) _ _ y243 t246 _ ?side1 ?side2 A16.out ?side3).mono ?_);(case side1=>repeat (first|exact (Kd.R_reads' HO245.out).2.2|(with_reducible refine Kd.C_alloc ?_ _)|(with_reducible refine Kd.C_drewN ?_ _)|(with_reducible refine Kd.C_drew ?_)));(case side2=>exact (Kd.R_reads' HO245.out).2.1);(case side3=>exact LD.below HLD.out yu_);rintro e w27 ⟨rfl,hb⟩;refine ⟨_,rfl,?_⟩;have n0_:=A0_ (Kd.R_below (rd_ HO_3.out) hb);have n1_:=A0_ (Kd.R_below (rd_ HO245.out) hb);have n2_:=A0_ (blk_below (g:=gb230) (o:=.cells #[.slice (some ad238) l0_0.length c0_0,.int .i64 a0_1,.int .i64 a0_2,.int .i64 a0_3] 29 (0,0)) (bd_ BK230.out) hb);have n3_:=A0_ (blk_below (g:=gb239) (o:=.cells #[.int .i64 ((rd_T74 l0_0 x19_1).f0.f0),.int .i64 ((rd_T74 l0_0 x19_1).f0.f1),.int .i64 ((rd_T74 l0_0 x19_1).f1),.slice A238_3 ((rd_T74 l0_0 x19_1).f2).length c238_3] 74 (0,0)) (bd_ BK239.out) hb);have n4_:=A0_ (below_step yu_ hb);clear HO_3;clear HO245;clear BK230;clear BK239;clear HB;have HO_3:=n0_;have HO245:=n1_;have BK230:=n2_;have BK239:=n3_;have HB:=n4_;clear n0_ n1_ n2_ n3_ n4_;(try clear hb);(try clear hb2);(try clear hk);(try clear hi))|((with_reducible refine gate_builtin (b:=.append) (xs:=#[.tmp 27,.tmp 41]) rfl ?_);at_builtin;refine Kd.R_append Kd.string (w0:=w) w.heap.size rfl (.tmp 27) (.tmp 41) 103 9 (.string ⟨#[]⟩) 16 rfl Tryz.underlying103 info9 rfl (by decide) (by omega) u3 x3_1 t246 [.string t246] (fun _=>True) (fun _=>False) rfl rfl ?aP (fun _ hk=>hk.elim) ?aF ?aO ?aB ?aS ?aL ?_;(case aP=>exact rfl);(case aB=>exact yu_);(case aF=>exact (fun _ _=>trivial));(case aO=>exact (rd_ HO_3.out));(case aS=>exact (below_size yu_));(case aL=>have:=LMc17.out;omega);intro v248 w28 ho hb hg hat;rw [← Ny247.out] at ho;have n0_:=A0_ (blk_grown (g:=gb230) (o:=.cells #[.slice (some ad238) l0_0.length c0_0,.int .i64 a0_1,.int .i64 a0_2,.int .i64 a0_3] 29 (0,0)) (bd_ BK230.out) hg (Kd.R_ne HO_3.out BK230.out (by decide)));have n1_:=A0_ (blk_grown (g:=gb239) (o:=.cells #[.int .i64 ((rd_T74 l0_0 x19_1).f0.f0),.int .i64 ((rd_T74 l0_0 x19_1).f0.f1),.int .i64 ((rd_T74 l0_0 x19_1).f1),.slice A238_3 ((rd_T74 l0_0 x19_1).f2).length c238_3] 74 (0,0)) (bd_ BK239.out) hg (Kd.R_ne HO_3.out BK239.out (by decide)));have n2_:=A0_ (Kd.R_over' (rd_ HO245.out) (Kd.R_typed (rd_ HO_3.out)) (by decide) hg);have n3_:=A0_ (hb);have n4_:=A0_ (ho);clear BK230;clear BK239;clear HO245;clear HB;clear HO_3;have BK230:=n0_;have BK239:=n1_;have HO245:=n2_;have HB:=n3_;have HO249:=n4_;clear n0_ n1_ n2_ n3_ n4_;clear ho hb hg hat))
        go_roundg k1
        case measure=>have:=HK1.out;omega
        case rel=>exact ⟨(y247),(wrap64 (x19_1+1)),y4_,H',⟨by have:=HK1.out;omega⟩,⟨by (with_reducible repeat (first|apply Kd.R_alloc|apply Kd.R_drewN|apply Kd.R_drew));exact HO249.out⟩,⟨by (with_reducible repeat (first|refine blk_drewN ?_ _|refine blk_drew ?_|refine blk_alloc ?_ _));exact BK230.out⟩,⟨yu_⟩⟩
       ·rw [if_neg c17] at H;exact absurd H (by simp)
      ·rw [if_neg c15] at H;exact absurd H (by simp)
     ·rw [if_neg c14] at H;exact absurd H (by simp)
    ·rw [if_neg c13] at H;exact absurd H (by simp)
   ·rw [if_neg c12] at H;have c12b0:decide (x19_1<(l0_0.length:Int))=false:=decide_eq_false c12;clear c12
    obtain ⟨y250,hy250⟩:∃ y_:List Int,y_=(([a0_1,a0_2,a0_3]:List Int)):=⟨_,rfl⟩
    replace H:((sky_line.f k1 (⟨#[110,111,100,101]⟩:ByteArray) y250).bind fun t253=>(if x3_1.length<8796093022208 then ((some (x3_1 ++ [t253]:List ByteArray)).bind fun y254=>(sky_text.l1 k1 y254 0 y254 (y254.length:Int) 0)) else (none)))=some r:=by first|(rw [hy250];with_reducible exact H)|(have H2_:=(Option.bind_some _ _).symm.trans H;rw [hy250];with_reducible exact H2_)|(have H2_:=(Option.bind_some _ _).symm.trans H;with_reducible exact H2_)|with_reducible exact H|(rw [hy250];exact H)|exact H
    have Ny250:=A0_ hy250;clear hy250;replace H:=Option.bind_eq_some_iff.mp H;obtain ⟨t253,A290,H⟩:=H
    replace H:(if x3_1.length<8796093022208 then ((some (x3_1 ++ [t253]:List ByteArray)).bind fun y254=>(sky_text.l1 k1 y254 0 y254 (y254.length:Int) 0)) else (none))=some r:=H
    have A29:=A0_ A290;clear A290
    by_cases c30:x3_1.length<8796093022208
    ·rw [if_pos c30] at H;have LMc30:=A0_ c30;clear c30
     obtain ⟨y254,hy254⟩:∃ y_:List ByteArray,y_=(x3_1 ++ [t253]):=⟨_,rfl⟩
     replace H:(sky_text.l1 k1 y254 0 y254 (y254.length:Int) 0)=some r:=by first|(rw [hy254];with_reducible exact H)|(have H2_:=(Option.bind_some _ _).symm.trans H;rw [hy254];with_reducible exact H2_)|(have H2_:=(Option.bind_some _ _).symm.trans H;with_reducible exact H2_)|with_reducible exact H|(rw [hy254];exact H)|exact H
     have Ny254:=A0_ hy254;clear hy254
     have H':=A0_ H
     clear H;obtain ⟨hcz31_0,hcz31_1,hcz31_2,hcz31_3,hfz31_0,hfz31_1,hfz31_2,hfz31_3⟩:=bq4_ BK230.out
     go_wp2_with (first|((with_reducible refine gate_dst (N:=56) rfl ?_);refine Kd.R_lit (Kd.int .i64) _ 3 ?hg (N:=56) ?hd (xs:=([a0_1,a0_2,a0_3]:List Int)) (inner:=[.int .i64 a0_1,.int .i64 a0_2,.int .i64 a0_3]) (ok:=fun _=>True) (okp:=fun _=>True) ?hr ?hp (fun _ hk=>hk) trivial (Below.refl _ _) (Nat.le_refl _) (by simp) ?_;(case hd=>rfl);(case hg=>rfl);(case hr=>first|(go_simp;done)|(go_simp;rfl));(case hp=>exact (Reps.one (show Kd.M (Kd.int .i64) _ _ _ a0_1 [.int .i64 a0_1] from rfl) (Reps.one (show Kd.M (Kd.int .i64) _ _ _ a0_2 [.int .i64 a0_2] from rfl) (Reps.one (show Kd.M (Kd.int .i64) _ _ _ a0_3 [.int .i64 a0_3] from rfl) (Reps.none _ _)))));intro v251 w32 ho33 hb hg_ hnew_;clear hg_ hnew_;(first|rw [← Ny250.out] at ho33|(simp only [Int.reduceToNat] at ho33;rw [← Ny250.out] at ho33));have n0_:=A0_ (Kd.R_below (rd_ HO_3.out) hb);have n1_:=A0_ (Kd.R_lower ho33 (below_size y6_));have n2_:=A0_ (blk_below (g:=gb230) (o:=.cells #[.slice A0_0 l0_0.length c0_0,.int .i64 a0_1,.int .i64 a0_2,.int .i64 a0_3] 29 (0,0)) (bd_ BK230.out) hb);have n3_:=A0_ (below_step y6_ hb);clear HO_3;clear BK230;clear HB;have HO_3:=n0_;have HO252:=n1_;have BK230:=n2_;have HB:=n3_;clear n0_ n1_ n2_ n3_;clear hb ho33;obtain ⟨Ao34,co34,eo34⟩:=Kd.R_slice HO252.out;subst eo34)|((with_reducible refine gate_callee (f:=123) rfl ?_);refine goesL_ (some 57) rfl rfl Tryz.func123 (by kernel_rfl) rfl #[.string (⟨#[110,111,100,101]⟩:ByteArray),.slice Ao34 y250.length co34] rfl y1_ ?_;(with_reducible refine (sky_line.calls k1 (⟨#[110,111,100,101]⟩:ByteArray) _ _ y250 t253 _ ?side1 ?side2 A29.out ?side3).mono ?_);(case side1=>repeat (first|exact (Kd.R_reads' HO252.out).2.2|(with_reducible refine Kd.C_alloc ?_ _)|(with_reducible refine Kd.C_drewN ?_ _)|(with_reducible refine Kd.C_drew ?_)));(case side2=>exact (Kd.R_reads' HO252.out).2.1);(case side3=>exact LD.below HLD.out y6_);rintro e w35 ⟨rfl,hb⟩;refine ⟨_,rfl,?_⟩;have n0_:=A0_ (Kd.R_below (rd_ HO_3.out) hb);have n1_:=A0_ (Kd.R_below (rd_ HO252.out) hb);have n2_:=A0_ (blk_below (g:=gb230) (o:=.cells #[.slice A0_0 l0_0.length c0_0,.int .i64 a0_1,.int .i64 a0_2,.int .i64 a0_3] 29 (0,0)) (bd_ BK230.out) hb);have n3_:=A0_ (below_step y6_ hb);clear HO_3;clear HO252;clear BK230;clear HB;have HO_3:=n0_;have HO252:=n1_;have BK230:=n2_;have HB:=n3_;clear n0_ n1_ n2_ n3_;(try clear hb);(try clear hb2);(try clear hk);(try clear hi))|((with_reducible refine gate_builtin (b:=.append) (xs:=#[.tmp 44,.tmp 58]) rfl ?_);at_builtin;refine Kd.R_append Kd.string (w0:=w) w.heap.size rfl (.tmp 44) (.tmp 58) 103 9 (.string ⟨#[]⟩) 16 rfl Tryz.underlying103 info9 rfl (by decide) (by omega) u3 x3_1 t253 [.string t253] (fun _=>True) (fun _=>False) rfl rfl ?aP (fun _ hk=>hk.elim) ?aF ?aO ?aB ?aS ?aL ?_;(case aP=>exact rfl);(case aB=>exact y6_);(case aF=>exact (fun _ _=>trivial));(case aO=>exact (rd_ HO_3.out));(case aS=>exact (below_size y6_));(case aL=>have:=LMc30.out;omega);intro v255 w36 ho hb hg hat;rw [← Ny254.out] at ho;have n0_:=A0_ (blk_grown (g:=gb230) (o:=.cells #[.slice A0_0 l0_0.length c0_0,.int .i64 a0_1,.int .i64 a0_2,.int .i64 a0_3] 29 (0,0)) (bd_ BK230.out) hg (Kd.R_ne HO_3.out BK230.out (by decide)));have n1_:=A0_ (Kd.R_over' (rd_ HO252.out) (Kd.R_typed (rd_ HO_3.out)) (by decide) hg);have n2_:=A0_ (hb);have n3_:=A0_ (ho);clear BK230;clear HO252;clear HB;clear HO_3;have BK230:=n0_;have HO252:=n1_;have HB:=n2_;have HO256:=n3_;clear n0_ n1_ n2_ n3_;clear ho hb hg hat;obtain ⟨Ao37,co37,eo37⟩:=Kd.R_slice HO256.out;subst eo37))
     go_loopg [6,62] k1 (fun kq v6 v62 w'=>∃ (x6_2:Int) (x62_2:Int),v6=.int .i64 x6_2∧v62=.int .i64 x62_2∧Aside0 (sky_text.l1 kq y254 x6_2 y254 (y254.length:Int) x62_2=some r)∧Aside0 (kq≤k1)∧Aside0 (Kd.R Kd.string 9 w' w.heap.size (fun _=>True) (.slice Ao37 y254.length co37) y254)∧Aside0 (Kd.R Kd.string 9 w' w.heap.size (fun _=>True) (.slice Ao37 y254.length co37) y254)∧Aside0 (w'.heap[gb230]?=some (.cells #[(.slice A0_0 l0_0.length c0_0),.int .i64 a0_1,.int .i64 a0_2,.int .i64 a0_3] 29 (0,0)))∧Aside0 (Below w.heap.size w w'))
     case atStart=>exact ⟨(0),(0),y4_,y4_,H',⟨Nat.le_refl _⟩,⟨by (with_reducible repeat (first|apply Kd.R_alloc|apply Kd.R_drewN|apply Kd.R_drew));exact HO256.out⟩,⟨by (with_reducible repeat (first|apply Kd.R_alloc|apply Kd.R_drewN|apply Kd.R_drew));exact HO256.out⟩,⟨by (with_reducible repeat (first|refine blk_drewN ?_ _|refine blk_drew ?_|refine blk_alloc ?_ _));exact BK230.out⟩,⟨y6_⟩⟩
     case round=>
      clear H'
      (try clear c1);(try clear c2);(try clear p2);(try clear q2);(try clear hx2);(try clear c3);(try clear c6);(try clear p6);(try clear c12);(try clear c12b0);(try clear c13);(try clear c13b0);(try clear c14);(try clear c14b0);(try clear c15);(try clear c17);(try clear c20);(try clear c23);(try clear p23);(try clear q23);(try clear hx23);(try clear c30);(try clear hcz11_0);(try clear hcz11_1);(try clear hcz11_2);(try clear hcz11_3);(try clear hcz18_0);(try clear hcz18_1);(try clear hcz18_2);(try clear hcz18_3);(try clear hcz21_0);(try clear hcz21_1);(try clear hcz21_2);(try clear hcz21_3);(try clear hcz24_0);(try clear hcz24_1);(try clear hcz24_2);(try clear hcz24_3);(try clear hcz31_0);(try clear hcz31_1);(try clear hcz31_2);(try clear hcz31_3);(try clear hcz4_0);(try clear hcz4_1);(try clear hcz4_2);(try clear hcz4_3);(try clear hfz11_0);(try clear hfz11_1);(try clear hfz11_2);(try clear hfz11_3);(try clear hfz18_0);(try clear hfz18_1);(try clear hfz18_2);(try clear hfz18_3);(try clear hfz21_0);(try clear hfz21_1);(try clear hfz21_2);(try clear hfz21_3);(try clear hfz24_0);(try clear hfz24_1);(try clear hfz24_2);(try clear hfz24_3);(try clear hfz31_0);(try clear hfz31_1);(try clear hfz31_2);(try clear hfz31_3);(try clear hfz4_0);(try clear hfz4_1);(try clear hfz4_2);(try clear hfz4_3);(try clear hx238_0);(try clear hx238_1);(try clear hx238_2);(try clear hx238_3);(try clear p2);(try clear p238);(try clear q238)
      obtain ⟨x6_2,x62_2,rfl,rfl,HA,HK2,HO_3,HO_60,BK230,HB⟩:=hrel
      cases gk with
      |zero=>exact absurd HA.out (by simp [sky_text.l1])
      |succ k2=>
       have H:=HA.out
       clear HA
       simp only [sky_text.l1] at H
       by_cases c38:x62_2<(y254.length:Int)
       ·rw [if_pos c38] at H;have c38b0:decide (x62_2<(y254.length:Int))=true:=decide_eq_true c38;clear c38
        by_cases c39:0≤x62_2
        ·rw [if_pos c39] at H;have c39b0:decide (0≤x62_2)=true:=decide_eq_true c39;clear c39
         by_cases c40:x62_2<(y254.length:Int)
         ·rw [if_pos c40] at H;have c40b0:decide (x62_2<(y254.length:Int))=true:=decide_eq_true c40;clear c40
          have H':=A0_ H
          clear H
          have p257:0≤(x62_2:Int):=of_decide_eq_true y5_
          have q257:x62_2<(y254.length:Int):=of_decide_eq_true y5_
          obtain ⟨ad257,e257,hx257_0⟩:=Kd.at_string (Kd.R_reads' HO_60.out).2.2 x62_2 p257 q257
          cases e257
          replace p257:=eq_true p257
          replace q257:=eq_true q257
          go_wp2
          go_loopg [6,69] k2 (fun kq v6 v69 w'=>∃ (x6_3:Int) (x69_3:Int),v6=.int .i64 x6_3∧v69=.int .i64 x69_3∧Aside0 (sky_text.l2 kq y254 x6_3 x62_2 (rdOf ByteArray.empty y254 x62_2) y254 (y254.length:Int) x62_2 ((rdOf ByteArray.empty y254 x62_2).size:Int) x69_3=some r)∧Aside0 (kq≤k2)∧Aside0 (Kd.R Kd.string 9 w' w.heap.size (fun _=>True) (.slice (some ad257) y254.length co37) y254)∧Aside0 (Kd.R Kd.string 9 w' w.heap.size (fun _=>True) (.slice (some ad257) y254.length co37) y254)∧Aside0 (w'.heap[gb230]?=some (.cells #[(.slice A0_0 l0_0.length c0_0),.int .i64 a0_1,.int .i64 a0_2,.int .i64 a0_3] 29 (0,0)))∧Aside0 (Below w.heap.size w w'))
          case atStart=>exact ⟨(x6_2),(0),y4_,y4_,H',⟨Nat.le_refl _⟩,⟨by (with_reducible repeat (first|apply Kd.R_alloc|apply Kd.R_drewN|apply Kd.R_drew));exact HO_3.out⟩,⟨by (with_reducible repeat (first|apply Kd.R_alloc|apply Kd.R_drewN|apply Kd.R_drew));exact HO_60.out⟩,⟨by (with_reducible repeat (first|refine blk_drewN ?_ _|refine blk_drew ?_|refine blk_alloc ?_ _));exact BK230.out⟩,⟨y6_⟩⟩
          case round=>
           clear H'
           (try clear c1);(try clear c2);(try clear p2);(try clear q2);(try clear hx2);(try clear c3);(try clear c4);(try clear c6);(try clear p6);(try clear c12);(try clear c12b0);(try clear c13);(try clear c13b0);(try clear c14);(try clear c14b0);(try clear c15);(try clear c17);(try clear c20);(try clear c23);(try clear p23);(try clear q23);(try clear hx23);(try clear p25);(try clear q25);(try clear hx25);(try clear c30);(try clear c38);(try clear c38b0);(try clear c39);(try clear c39b0);(try clear c40);(try clear c40b0);(try clear hcz11_0);(try clear hcz11_1);(try clear hcz11_2);(try clear hcz11_3);(try clear hcz18_0);(try clear hcz18_1);(try clear hcz18_2);(try clear hcz18_3);(try clear hcz21_0);(try clear hcz21_1);(try clear hcz21_2);(try clear hcz21_3);(try clear hcz24_0);(try clear hcz24_1);(try clear hcz24_2);(try clear hcz24_3);(try clear hcz31_0);(try clear hcz31_1);(try clear hcz31_2);(try clear hcz31_3);(try clear hcz4_0);(try clear hcz4_1);(try clear hcz4_2);(try clear hcz4_3);(try clear hfz11_0);(try clear hfz11_1);(try clear hfz11_2);(try clear hfz11_3);(try clear hfz18_0);(try clear hfz18_1);(try clear hfz18_2);(try clear hfz18_3);(try clear hfz21_0);(try clear hfz21_1);(try clear hfz21_2);(try clear hfz21_3);(try clear hfz24_0);(try clear hfz24_1);(try clear hfz24_2);(try clear hfz24_3);(try clear hfz31_0);(try clear hfz31_1);(try clear hfz31_2);(try clear hfz31_3);(try clear hfz4_0);(try clear hfz4_1);(try clear hfz4_2);(try clear hfz4_3);(try clear hx238_0);(try clear hx238_1);(try clear hx238_2);(try clear hx238_3);(try clear hx257_0);(try clear p2);(try clear p23);(try clear p238);(try clear p257);(try clear p6);(try clear q2);(try clear q23);(try clear q238);(try clear q257)
           obtain ⟨x6_3,x69_3,rfl,rfl,HA,HK3,HO_3,HO_60,BK230,HB⟩:=hrel
           cases gk with
           |zero=>exact absurd HA.out (by simp [sky_text.l2])
           |succ k3=>
            have H:=HA.out
            clear HA
            simp only [sky_text.l2] at H
            by_cases c41:x69_3<((rdOf ByteArray.empty y254 x62_2).size:Int)
            ·rw [if_pos c41] at H;have c41b0:decide (x69_3<((rdOf ByteArray.empty y254 x62_2).size:Int))=true:=decide_eq_true c41;clear c41
             by_cases c42:0≤x69_3
             ·rw [if_pos c42] at H;have c42b0:decide (0≤x69_3)=true:=decide_eq_true c42;clear c42
              by_cases c43:x69_3<((rdOf ByteArray.empty y254 x62_2).size:Int)
              ·rw [if_pos c43] at H;have c43b0:decide (x69_3<((rdOf ByteArray.empty y254 x62_2).size:Int))=true:=decide_eq_true c43;clear c43
               have H':=A0_ H
               clear H
               have p44:0≤(x69_3:Int):=of_decide_eq_true y5_
               have q44:x69_3<((rdOf ByteArray.empty y254 x62_2).size:Int):=of_decide_eq_true y5_
               have hx44:=bt_at (rdOf ByteArray.empty y254 x62_2) x69_3
               replace p44:=eq_true p44
               replace q44:=eq_true q44
               go_wp2
               go_roundg k3
               case measure=>have:=HK1.out;have:=HK2.out;have:=HK3.out;omega
               case rel=>exact ⟨(wrap64 (x6_3+(wrap64 ((wrap64 ((wrap64 (bt (rdOf ByteArray.empty y254 x62_2) x69_3))*(wrap64 (x69_3+1))))*(wrap64 (x62_2+1)))))),(wrap64 (x69_3+1)),y4_,y4_,H',⟨by have:=HK1.out;have:=HK2.out;have:=HK3.out;omega⟩,⟨by (with_reducible repeat (first|apply Kd.R_alloc|apply Kd.R_drewN|apply Kd.R_drew));exact HO_3.out⟩,⟨by (with_reducible repeat (first|apply Kd.R_alloc|apply Kd.R_drewN|apply Kd.R_drew));exact HO_60.out⟩,⟨by (with_reducible repeat (first|refine blk_drewN ?_ _|refine blk_drew ?_|refine blk_alloc ?_ _));exact BK230.out⟩,⟨y6_⟩⟩
              ·rw [if_neg c43] at H;exact absurd H (by simp)
             ·rw [if_neg c42] at H;exact absurd H (by simp)
            ·rw [if_neg c41] at H;have c41b0:decide (x69_3<((rdOf ByteArray.empty y254 x62_2).size:Int))=false:=decide_eq_false c41;clear c41
             have H':=A0_ H
             clear H;go_wp2
             go_roundg k3
             case measure=>have:=HK1.out;have:=HK2.out;have:=HK3.out;omega
             case rel=>exact ⟨(x6_3),(wrap64 (x62_2+1)),y4_,y4_,H',⟨by have:=HK1.out;have:=HK2.out;have:=HK3.out;omega⟩,⟨by (with_reducible repeat (first|apply Kd.R_alloc|apply Kd.R_drewN|apply Kd.R_drew));exact HO_3.out⟩,⟨by (with_reducible repeat (first|apply Kd.R_alloc|apply Kd.R_drewN|apply Kd.R_drew));exact HO_60.out⟩,⟨by (with_reducible repeat (first|refine blk_drewN ?_ _|refine blk_drew ?_|refine blk_alloc ?_ _));exact BK230.out⟩,⟨y6_⟩⟩
         ·rw [if_neg c40] at H;exact absurd H (by simp)
        ·rw [if_neg c39] at H;exact absurd H (by simp)
       ·rw [if_neg c38] at H;have c38b0:decide (x62_2<(y254.length:Int))=false:=decide_eq_false c38;clear c38;replace H:=Option.bind_eq_some_iff.mp H;obtain ⟨t258,A450,H⟩:=H
        replace H:(if t258.size+5≤9223372036854775807 then ((strconv_Itoa.f (wrap64 (Int.tdiv (Int.tmod x6_2 137) 100))).bind fun t259=>(if (t258 ++ (⟨#[10,101,110,100,32]⟩:ByteArray)).size+t259.size≤9223372036854775807 then ((strconv_Itoa.f (Int.tmod (wrap64 (Int.tdiv (Int.tmod x6_2 137) 10)) 10)).bind fun t260=>(if ((t258 ++ (⟨#[10,101,110,100,32]⟩:ByteArray)) ++ t259).size+t260.size≤9223372036854775807 then ((strconv_Itoa.f (Int.tmod (Int.tmod x6_2 137) 10)).bind fun t261=>(if (((t258 ++ (⟨#[10,101,110,100,32]⟩:ByteArray)) ++ t259) ++ t260).size+t261.size≤9223372036854775807 then (if ((((t258 ++ (⟨#[10,101,110,100,32]⟩:ByteArray)) ++ t259) ++ t260) ++ t261).size+1≤9223372036854775807 then (some (((((t258 ++ (⟨#[10,101,110,100,32]⟩:ByteArray)) ++ t259) ++ t260) ++ t261) ++ (⟨#[10]⟩:ByteArray))) else (none)) else (none))) else (none))) else (none))) else (none))=some r:=H
        have A45:=A0_ A450;clear A450
        by_cases c46:t258.size+5≤9223372036854775807
        ·rw [if_pos c46] at H;have c46b0:=eq_true c46;have c46b1:decide (t258.size+5≤9223372036854775807)=true:=decide_eq_true c46
         try have c46b2:(9223372036854775807<t258.size+5)=False:=eq_false (Nat.not_lt.2 c46)
         replace H:=Option.bind_eq_some_iff.mp H;obtain ⟨t259,A470,H⟩:=H
         replace H:(if (t258 ++ (⟨#[10,101,110,100,32]⟩:ByteArray)).size+t259.size≤9223372036854775807 then ((strconv_Itoa.f (Int.tmod (wrap64 (Int.tdiv (Int.tmod x6_2 137) 10)) 10)).bind fun t260=>(if ((t258 ++ (⟨#[10,101,110,100,32]⟩:ByteArray)) ++ t259).size+t260.size≤9223372036854775807 then ((strconv_Itoa.f (Int.tmod (Int.tmod x6_2 137) 10)).bind fun t261=>(if (((t258 ++ (⟨#[10,101,110,100,32]⟩:ByteArray)) ++ t259) ++ t260).size+t261.size≤9223372036854775807 then (if ((((t258 ++ (⟨#[10,101,110,100,32]⟩:ByteArray)) ++ t259) ++ t260) ++ t261).size+1≤9223372036854775807 then (some (((((t258 ++ (⟨#[10,101,110,100,32]⟩:ByteArray)) ++ t259) ++ t260) ++ t261) ++ (⟨#[10]⟩:ByteArray))) else (none)) else (none))) else (none))) else (none))=some r:=H
         have A47:=A0_ A470;clear A470
         by_cases c48:(t258 ++ (⟨#[10,101,110,100,32]⟩:ByteArray)).size+t259.size≤9223372036854775807
         ·rw [if_pos c48] at H
          have c48s:t258.size+5+t259.size≤9223372036854775807:=by
           have h_:=c48
           simp only [ByteArray.size_append] at h_
           exact h_
          have c48b0:=eq_true c48;have c48b1:decide ((t258 ++ (⟨#[10,101,110,100,32]⟩:ByteArray)).size+t259.size≤9223372036854775807)=true:=decide_eq_true c48
          try have c48b2:(9223372036854775807<(t258 ++ (⟨#[10,101,110,100,32]⟩:ByteArray)).size+t259.size)=False:=eq_false (Nat.not_lt.2 c48)
          replace H:=Option.bind_eq_some_iff.mp H;obtain ⟨t260,A490,H⟩:=H
          replace H:(if ((t258 ++ (⟨#[10,101,110,100,32]⟩:ByteArray)) ++ t259).size+t260.size≤9223372036854775807 then ((strconv_Itoa.f (Int.tmod (Int.tmod x6_2 137) 10)).bind fun t261=>(if (((t258 ++ (⟨#[10,101,110,100,32]⟩:ByteArray)) ++ t259) ++ t260).size+t261.size≤9223372036854775807 then (if ((((t258 ++ (⟨#[10,101,110,100,32]⟩:ByteArray)) ++ t259) ++ t260) ++ t261).size+1≤9223372036854775807 then (some (((((t258 ++ (⟨#[10,101,110,100,32]⟩:ByteArray)) ++ t259) ++ t260) ++ t261) ++ (⟨#[10]⟩:ByteArray))) else (none)) else (none))) else (none))=some r:=H
          have A49:=A0_ A490;clear A490
          by_cases c50:((t258 ++ (⟨#[10,101,110,100,32]⟩:ByteArray)) ++ t259).size+t260.size≤9223372036854775807
          ·rw [if_pos c50] at H
           have c50s:t258.size+5+t259.size+t260.size≤9223372036854775807:=by
            have h_:=c50
            simp only [ByteArray.size_append] at h_
            exact h_
           have c50b0:=eq_true c50;have c50b1:decide (((t258 ++ (⟨#[10,101,110,100,32]⟩:ByteArray)) ++ t259).size+t260.size≤9223372036854775807)=true:=decide_eq_true c50
           try have c50b2:(9223372036854775807<((t258 ++ (⟨#[10,101,110,100,32]⟩:ByteArray)) ++ t259).size+t260.size)=False:=eq_false (Nat.not_lt.2 c50)
           replace H:=Option.bind_eq_some_iff.mp H;obtain ⟨t261,A510,H⟩:=H
           replace H:(if (((t258 ++ (⟨#[10,101,110,100,32]⟩:ByteArray)) ++ t259) ++ t260).size+t261.size≤9223372036854775807 then (if ((((t258 ++ (⟨#[10,101,110,100,32]⟩:ByteArray)) ++ t259) ++ t260) ++ t261).size+1≤9223372036854775807 then (some (((((t258 ++ (⟨#[10,101,110,100,32]⟩:ByteArray)) ++ t259) ++ t260) ++ t261) ++ (⟨#[10]⟩:ByteArray))) else (none)) else (none))=some r:=H
           have A51:=A0_ A510;clear A510
           by_cases c52:(((t258 ++ (⟨#[10,101,110,100,32]⟩:ByteArray)) ++ t259) ++ t260).size+t261.size≤9223372036854775807
           ·rw [if_pos c52] at H
            have c52s:t258.size+5+t259.size+t260.size+t261.size≤9223372036854775807:=by
             have h_:=c52
             simp only [ByteArray.size_append] at h_
             exact h_
            have c52b0:=eq_true c52;have c52b1:decide ((((t258 ++ (⟨#[10,101,110,100,32]⟩:ByteArray)) ++ t259) ++ t260).size+t261.size≤9223372036854775807)=true:=decide_eq_true c52
            try have c52b2:(9223372036854775807<(((t258 ++ (⟨#[10,101,110,100,32]⟩:ByteArray)) ++ t259) ++ t260).size+t261.size)=False:=eq_false (Nat.not_lt.2 c52)
            by_cases c53:((((t258 ++ (⟨#[10,101,110,100,32]⟩:ByteArray)) ++ t259) ++ t260) ++ t261).size+1≤9223372036854775807
            ·rw [if_pos c53] at H
             have c53s:t258.size+5+t259.size+t260.size+t261.size+1≤9223372036854775807:=by
              have h_:=c53
              simp only [ByteArray.size_append] at h_
              exact h_
             have c53b0:=eq_true c53;have c53b1:decide (((((t258 ++ (⟨#[10,101,110,100,32]⟩:ByteArray)) ++ t259) ++ t260) ++ t261).size+1≤9223372036854775807)=true:=decide_eq_true c53
             try have c53b2:(9223372036854775807<((((t258 ++ (⟨#[10,101,110,100,32]⟩:ByteArray)) ++ t259) ++ t260) ++ t261).size+1)=False:=eq_false (Nat.not_lt.2 c53)
             obtain rfl:=Option.some.inj H
             go_wp2_with (first|((with_reducible refine gate_callee (f:=124) rfl ?_);refine goesL_ (some 89) rfl rfl Tryz.func124 (by kernel_rfl) rfl #[.slice Ao37 y254.length co37,.string (⟨#[10]⟩:ByteArray)] rfl y1_ ?_;(with_reducible refine (strings_Join.calls _ _ y254 (⟨#[10]⟩:ByteArray) t258 _ ?side1 ?side2 A45.out).mono ?_);(case side1=>repeat (first|exact (Kd.R_reads' HO_3.out).2.2|(with_reducible refine Kd.C_alloc ?_ _)|(with_reducible refine Kd.C_drewN ?_ _)|(with_reducible refine Kd.C_drew ?_)));(case side2=>exact (Kd.R_reads' HO_3.out).2.1);rintro e w54 ⟨rfl,hb⟩;refine ⟨_,rfl,?_⟩;have n0_:=A0_ (Kd.R_below (rd_ HO_3.out) hb);have n1_:=A0_ (Kd.R_below (rd_ HO_60.out) hb);have n2_:=A0_ (blk_below (g:=gb230) (o:=.cells #[.slice A0_0 l0_0.length c0_0,.int .i64 a0_1,.int .i64 a0_2,.int .i64 a0_3] 29 (0,0)) (bd_ BK230.out) hb);have n3_:=A0_ (below_step y6_ hb);clear HO_3;clear HO_60;clear BK230;clear HB;have HO_3:=n0_;have HO_60:=n1_;have BK230:=n2_;have HB:=n3_;clear n0_ n1_ n2_ n3_;(try clear hb);(try clear hb2);(try clear hk);(try clear hi))|((with_reducible refine gate_callee (f:=125) rfl ?_);refine goesL_ (some 93) rfl rfl Tryz.func125 (by kernel_rfl) rfl #[.int .i64 (wrap64 (Int.tdiv (Int.tmod x6_2 137) 100))] rfl y1_ ?_;(with_reducible refine (strconv_Itoa.calls (wrap64 (Int.tdiv (Int.tmod x6_2 137) 100)) t259 _ A47.out ?side1).mono ?_);(case side1=>exact LD.below HLD.out y6_);rintro e w55 ⟨rfl,hb⟩;refine ⟨_,rfl,?_⟩;have n0_:=A0_ (Kd.R_below (rd_ HO_3.out) hb);have n1_:=A0_ (Kd.R_below (rd_ HO_60.out) hb);have n2_:=A0_ (blk_below (g:=gb230) (o:=.cells #[.slice A0_0 l0_0.length c0_0,.int .i64 a0_1,.int .i64 a0_2,.int .i64 a0_3] 29 (0,0)) (bd_ BK230.out) hb);have n3_:=A0_ (below_step y6_ hb);clear HO_3;clear HO_60;clear BK230;clear HB;have HO_3:=n0_;have HO_60:=n1_;have BK230:=n2_;have HB:=n3_;clear n0_ n1_ n2_ n3_;(try clear hb);(try clear hb2);(try clear hk);(try clear hi))|((with_reducible refine gate_callee (f:=125) rfl ?_);refine goesL_ (some 98) rfl rfl Tryz.func125 (by kernel_rfl) rfl #[.int .i64 (Int.tmod (wrap64 (Int.tdiv (Int.tmod x6_2 137) 10)) 10)] rfl y1_ ?_;(with_reducible refine (strconv_Itoa.calls (Int.tmod (wrap64 (Int.tdiv (Int.tmod x6_2 137) 10)) 10) t260 _ A49.out ?side1).mono ?_);(case side1=>exact LD.below HLD.out y6_);rintro e w56 ⟨rfl,hb⟩;refine ⟨_,rfl,?_⟩;have n0_:=A0_ (Kd.R_below (rd_ HO_3.out) hb);have n1_:=A0_ (Kd.R_below (rd_ HO_60.out) hb);have n2_:=A0_ (blk_below (g:=gb230) (o:=.cells #[.slice A0_0 l0_0.length c0_0,.int .i64 a0_1,.int .i64 a0_2,.int .i64 a0_3] 29 (0,0)) (bd_ BK230.out) hb);have n3_:=A0_ (below_step y6_ hb);clear HO_3;clear HO_60;clear BK230;clear HB;have HO_3:=n0_;have HO_60:=n1_;have BK230:=n2_;have HB:=n3_;clear n0_ n1_ n2_ n3_;(try clear hb);(try clear hb2);(try clear hk);(try clear hi))|((with_reducible refine gate_callee (f:=125) rfl ?_);refine goesL_ (some 102) rfl rfl Tryz.func125 (by kernel_rfl) rfl #[.int .i64 (Int.tmod (Int.tmod x6_2 137) 10)] rfl y1_ ?_;(with_reducible refine (strconv_Itoa.calls (Int.tmod (Int.tmod x6_2 137) 10) t261 _ A51.out ?side1).mono ?_);(case side1=>exact LD.below HLD.out y6_);rintro e w57 ⟨rfl,hb⟩;refine ⟨_,rfl,?_⟩;have n0_:=A0_ (Kd.R_below (rd_ HO_3.out) hb);have n1_:=A0_ (Kd.R_below (rd_ HO_60.out) hb);have n2_:=A0_ (blk_below (g:=gb230) (o:=.cells #[.slice A0_0 l0_0.length c0_0,.int .i64 a0_1,.int .i64 a0_2,.int .i64 a0_3] 29 (0,0)) (bd_ BK230.out) hb);have n3_:=A0_ (below_step y6_ hb);clear HO_3;clear HO_60;clear BK230;clear HB;have HO_3:=n0_;have HO_60:=n1_;have BK230:=n2_;have HB:=n3_;clear n0_ n1_ n2_ n3_;(try clear hb);(try clear hb2);(try clear hk);(try clear hi)))
             go_ret
             exact ⟨y2_,y6_⟩
            ·rw [if_neg c53] at H;exact absurd H (by simp)
           ·rw [if_neg c52] at H;exact absurd H (by simp)
          ·rw [if_neg c50] at H;exact absurd H (by simp)
         ·rw [if_neg c48] at H;exact absurd H (by simp)
        ·rw [if_neg c46] at H;exact absurd H (by simp)
    ·rw [if_neg c30] at H;exact absurd H (by simp)
def sky_Moons.f (k:Nat) (l0_0:List (S74)) (a0_1:Int) (a0_2:Int) (a0_3:Int) (a1:Int) (a2:Int):Option ((List (S95)) × Int):=(sky_isSky.f k l0_0 a0_1 a0_2 a0_3).bind fun t423=>(if t423=true then ((sky_isSpan.f a1 a2).bind fun t424=>(if t424=true then ((sky_moons.f k l0_0 a0_1 a0_2 a0_3 a1 a2).bind fun t425=>(some (t425,0))) else (some (([]:List (S95)),2)))) else (some (([]:List (S95)),2)))
set_option maxHeartbeats 8000000 in
set_option maxRecDepth 100000 in
theorem sky_Moons.calls (k:Nat) (A0_0:Option Addr) (c0_0:Nat) (l0_0:List (S74)) (a0_1:Int) (a0_2:Int) (a0_3:Int) (a1:Int) (a2:Int) (r1:List (S95)) (r2:Int) (w:World) (hr0_0:Kd.C k74 w A0_0 l0_0.length l0_0) (hc0_0:l0_0.length≤c0_0) (h:sky_Moons.f k l0_0 a0_1 a0_2 a0_3 a1 a2=some (r1,r2)):
  Calls Tryz.prog 30 #[.agg #[.slice A0_0 l0_0.length c0_0,.int .i64 a0_1,.int .i64 a0_2,.int .i64 a0_3],.int .i64 a1,.int .i64 a2] w fun e w'=>∃ v0_:Value,e=.returned (.tuple #[v0_,.int .i64 r2])∧Kd.R k95 95 w' w.heap.size (fun _=>True) v0_ r1∧Below w.heap.size w w':=by
 have hu29:=Tryz.underlying29
 have HR0_0:=A0_ hr0_0;have HC0_0:=A0_ hc0_0;clear hr0_0 hc0_0
 have HB:=A0_ (Below.refl w.heap.size w)
 have H:((sky_isSky.f k l0_0 a0_1 a0_2 a0_3).bind fun t423=>(if t423=true then ((sky_isSpan.f a1 a2).bind fun t424=>(if t424=true then ((sky_moons.f k l0_0 a0_1 a0_2 a0_3 a1 a2).bind fun t425=>(some (t425,0))) else (some (([]:List (S95)),2)))) else (some (([]:List (S95)),2))))=some (r1,r2):=h
 clear h;replace H:=Option.bind_eq_some_iff.mp H;obtain ⟨t423,A40,H⟩:=H
 replace H:(if t423=true then ((sky_isSpan.f a1 a2).bind fun t424=>(if t424=true then ((sky_moons.f k l0_0 a0_1 a0_2 a0_3 a1 a2).bind fun t425=>(some (t425,0))) else (some (([]:List (S95)),2)))) else (some (([]:List (S95)),2)))=some (r1,r2):=H
 have A4:=A0_ A40;clear A40
 by_cases c5:t423=true
 ·subst c5
  have H1:((sky_isSpan.f a1 a2).bind fun t424=>(if t424=true then ((sky_moons.f k l0_0 a0_1 a0_2 a0_3 a1 a2).bind fun t425=>(some (t425,0))) else (some (([]:List (S95)),2))))=some (r1,r2):=by rw [if_pos rfl] at H;exact H
  clear H;have H:=H1;clear H1;replace H:=Option.bind_eq_some_iff.mp H;obtain ⟨t424,A60,H⟩:=H
  replace H:(if t424=true then ((sky_moons.f k l0_0 a0_1 a0_2 a0_3 a1 a2).bind fun t425=>(some (t425,0))) else (some (([]:List (S95)),2)))=some (r1,r2):=H
  have A6:=A0_ A60;clear A60
  by_cases c7:t424=true
  ·subst c7
   have H1:((sky_moons.f k l0_0 a0_1 a0_2 a0_3 a1 a2).bind fun t425=>(some (t425,0)))=some (r1,r2):=by rw [if_pos rfl] at H;exact H
   clear H;have H:=H1;clear H1;replace H:=Option.bind_eq_some_iff.mp H;obtain ⟨t425,A80,H⟩:=H
   replace H:(some (t425,0))=some (r1,r2):=H
   have A8:=A0_ A80;clear A80
   simp only [Option.some.injEq,Prod.mk.injEq] at H
   obtain ⟨rfl,rfl⟩:=H
   go_enter Tryz.func30,Tryz.ntmps30
   go_wp2_with (first|((with_reducible refine gate_dst (N:=3) rfl ?_);refine box_event ?hg (N:=3) ?hd (cs:=#[.slice A0_0 l0_0.length c0_0,.int .i64 a0_1,.int .i64 a0_2,.int .i64 a0_3]) (t:=29) ?hr ?_;(case hd=>rfl);(case hg=>rfl);(case hr=>first|(go_simp;done)|(go_simp;rfl));intro gb422 hg w9 hbox hb;have n0_:=A0_ (below_step y0_ hb);have n1_:=A0_ (hbox);have n2_:=A0_ ((by rw [hg];exact (below_size y0_):w.heap.size≤gb422));have n3_:=A0_ ((by rw [hg];exact (below_size y0_):w.heap.size≤gb422));clear HB;have HB:=n0_;have BK422:=n1_;have GW422:=n2_;have GE422:=n3_;clear n0_ n1_ n2_ n3_;clear hb hbox hg;obtain ⟨hcz10_0,hcz10_1,hcz10_2,hcz10_3,hfz10_0,hfz10_1,hfz10_2,hfz10_3⟩:=bq4_ BK422.out)|((with_reducible refine gate_callee (f:=62) rfl ?_);refine goesL_ (some 9) rfl rfl Tryz.func62 (by kernel_rfl) rfl #[.agg #[.slice A0_0 l0_0.length c0_0,.int .i64 a0_1,.int .i64 a0_2,.int .i64 a0_3]] rfl y1_ ?_;(with_reducible refine (sky_isSky.calls k _ _ l0_0 a0_1 a0_2 a0_3 true _ ?side1 ?side2 A4.out).mono ?_);(case side1=>repeat (first|exact (Kd.C_below HR0_0.out HB.out)|(with_reducible refine Kd.C_alloc ?_ _)|(with_reducible refine Kd.C_drewN ?_ _)|(with_reducible refine Kd.C_drew ?_)));(case side2=>exact HC0_0.out);rintro e w11 ⟨rfl,hb⟩;refine ⟨_,rfl,?_⟩;have n0_:=A0_ (blk_below (g:=gb422) (o:=.cells #[.slice A0_0 l0_0.length c0_0,.int .i64 a0_1,.int .i64 a0_2,.int .i64 a0_3] 29 (0,0)) (bd_ BK422.out) hb);have n1_:=A0_ (below_step y10_ hb);clear BK422;clear HB;have BK422:=n0_;have HB:=n1_;clear n0_ n1_;(try clear hb);(try clear hb2);(try clear hk);(try clear hi))|(go_at_call 69;(with_reducible refine (sky_isSpan.calls a1 a2 true _ A6.out).mono ?_);rintro e w' ⟨rfl,⟨nd,rfl⟩⟩;obtain ⟨hcz12_0,hcz12_1,hcz12_2,hcz12_3,hfz12_0,hfz12_1,hfz12_2,hfz12_3⟩:=bq4_ BK422.out)|((with_reducible refine gate_callee (f:=83) rfl ?_);refine goesL_ (some 20) rfl rfl Tryz.func83 (by kernel_rfl) rfl #[.agg #[.slice A0_0 l0_0.length c0_0,.int .i64 a0_1,.int .i64 a0_2,.int .i64 a0_3],.int .i64 a1,.int .i64 a2] rfl y1_ ?_;(with_reducible refine (sky_moons.calls k _ _ l0_0 a0_1 a0_2 a0_3 a1 a2 t425 _ ?side1 ?side2 A8.out).mono ?_);(case side1=>repeat (first|exact (Kd.C_below HR0_0.out y10_)|(with_reducible refine Kd.C_alloc ?_ _)|(with_reducible refine Kd.C_drewN ?_ _)|(with_reducible refine Kd.C_drew ?_)));(case side2=>exact HC0_0.out);rintro e w13 ⟨v426,rfl,ho0,hb⟩;refine ⟨_,rfl,?_⟩;have n0_:=A0_ (Kd.R_lower ho0 (below_size y10_));have n1_:=A0_ (blk_below (g:=gb422) (o:=.cells #[.slice A0_0 l0_0.length c0_0,.int .i64 a0_1,.int .i64 a0_2,.int .i64 a0_3] 29 (0,0)) (bd_ BK422.out) hb);have n2_:=A0_ (below_step y10_ hb);clear BK422;clear HB;have HO427:=n0_;have BK422:=n1_;have HB:=n2_;clear n0_ n1_ n2_;(try clear hb);(try clear hb2);(try clear hk);(try clear hi);(try clear ho0)))
   go_ret2
   exact ⟨_,y2_,by (with_reducible repeat (first|apply Kd.R_alloc|apply Kd.R_drewN|apply Kd.R_drew));exact HO427.out,y10_⟩
  ·replace c7:=Bool.eq_false_iff.mpr c7;subst c7
   have H1:(some (([]:List (S95)),2))=some (r1,r2):=by rw [if_neg (show ¬ (false=true) by decide)] at H;exact H
   clear H;have H:=H1;clear H1
   simp only [Option.some.injEq,Prod.mk.injEq] at H
   obtain ⟨rfl,rfl⟩:=H
   go_enter Tryz.func30,Tryz.ntmps30
   go_wp2_with (first|((with_reducible refine gate_dst (N:=3) rfl ?_);refine box_event ?hg (N:=3) ?hd (cs:=#[.slice A0_0 l0_0.length c0_0,.int .i64 a0_1,.int .i64 a0_2,.int .i64 a0_3]) (t:=29) ?hr ?_;(case hd=>rfl);(case hg=>rfl);(case hr=>first|(go_simp;done)|(go_simp;rfl));intro gb422 hg w14 hbox hb;have n0_:=A0_ (below_step y0_ hb);have n1_:=A0_ (hbox);have n2_:=A0_ ((by rw [hg];exact (below_size y0_):w.heap.size≤gb422));have n3_:=A0_ ((by rw [hg];exact (below_size y0_):w.heap.size≤gb422));clear HB;have HB:=n0_;have BK422:=n1_;have GW422:=n2_;have GE422:=n3_;clear n0_ n1_ n2_ n3_;clear hb hbox hg;obtain ⟨hcz15_0,hcz15_1,hcz15_2,hcz15_3,hfz15_0,hfz15_1,hfz15_2,hfz15_3⟩:=bq4_ BK422.out)|((with_reducible refine gate_callee (f:=62) rfl ?_);refine goesL_ (some 9) rfl rfl Tryz.func62 (by kernel_rfl) rfl #[.agg #[.slice A0_0 l0_0.length c0_0,.int .i64 a0_1,.int .i64 a0_2,.int .i64 a0_3]] rfl y1_ ?_;(with_reducible refine (sky_isSky.calls k _ _ l0_0 a0_1 a0_2 a0_3 true _ ?side1 ?side2 A4.out).mono ?_);(case side1=>repeat (first|exact (Kd.C_below HR0_0.out HB.out)|(with_reducible refine Kd.C_alloc ?_ _)|(with_reducible refine Kd.C_drewN ?_ _)|(with_reducible refine Kd.C_drew ?_)));(case side2=>exact HC0_0.out);rintro e w16 ⟨rfl,hb⟩;refine ⟨_,rfl,?_⟩;have n0_:=A0_ (blk_below (g:=gb422) (o:=.cells #[.slice A0_0 l0_0.length c0_0,.int .i64 a0_1,.int .i64 a0_2,.int .i64 a0_3] 29 (0,0)) (bd_ BK422.out) hb);have n1_:=A0_ (below_step y10_ hb);clear BK422;clear HB;have BK422:=n0_;have HB:=n1_;clear n0_ n1_;(try clear hb);(try clear hb2);(try clear hk);(try clear hi))|(go_at_call 69;(with_reducible refine (sky_isSpan.calls a1 a2 false _ A6.out).mono ?_);rintro e w' ⟨rfl,⟨nd,rfl⟩⟩))
   go_ret2
   exact ⟨_,y2_,by first|exact Kd.R_nil _ _ _ _ _|exact Kd.N_nil _ _ _ _ _|exact Kd.V_nil _ _ _ _ _|exact Kd.Q_nil _ _ _ _ _|exact Kd.S_nil _ _ _ _ _,y10_⟩
 ·replace c5:=Bool.eq_false_iff.mpr c5;subst c5
  have H1:(some (([]:List (S95)),2))=some (r1,r2):=by rw [if_neg (show ¬ (false=true) by decide)] at H;exact H
  clear H;have H:=H1;clear H1
  simp only [Option.some.injEq,Prod.mk.injEq] at H
  obtain ⟨rfl,rfl⟩:=H
  go_enter Tryz.func30,Tryz.ntmps30
  go_wp2_with (first|((with_reducible refine gate_dst (N:=3) rfl ?_);refine box_event ?hg (N:=3) ?hd (cs:=#[.slice A0_0 l0_0.length c0_0,.int .i64 a0_1,.int .i64 a0_2,.int .i64 a0_3]) (t:=29) ?hr ?_;(case hd=>rfl);(case hg=>rfl);(case hr=>first|(go_simp;done)|(go_simp;rfl));intro gb422 hg w17 hbox hb;have n0_:=A0_ (below_step y0_ hb);have n1_:=A0_ (hbox);have n2_:=A0_ ((by rw [hg];exact (below_size y0_):w.heap.size≤gb422));have n3_:=A0_ ((by rw [hg];exact (below_size y0_):w.heap.size≤gb422));clear HB;have HB:=n0_;have BK422:=n1_;have GW422:=n2_;have GE422:=n3_;clear n0_ n1_ n2_ n3_;clear hb hbox hg;obtain ⟨hcz18_0,hcz18_1,hcz18_2,hcz18_3,hfz18_0,hfz18_1,hfz18_2,hfz18_3⟩:=bq4_ BK422.out)|((with_reducible refine gate_callee (f:=62) rfl ?_);refine goesL_ (some 9) rfl rfl Tryz.func62 (by kernel_rfl) rfl #[.agg #[.slice A0_0 l0_0.length c0_0,.int .i64 a0_1,.int .i64 a0_2,.int .i64 a0_3]] rfl y1_ ?_;(with_reducible refine (sky_isSky.calls k _ _ l0_0 a0_1 a0_2 a0_3 false _ ?side1 ?side2 A4.out).mono ?_);(case side1=>repeat (first|exact (Kd.C_below HR0_0.out HB.out)|(with_reducible refine Kd.C_alloc ?_ _)|(with_reducible refine Kd.C_drewN ?_ _)|(with_reducible refine Kd.C_drew ?_)));(case side2=>exact HC0_0.out);rintro e w19 ⟨rfl,hb⟩;refine ⟨_,rfl,?_⟩;have n0_:=A0_ (blk_below (g:=gb422) (o:=.cells #[.slice A0_0 l0_0.length c0_0,.int .i64 a0_1,.int .i64 a0_2,.int .i64 a0_3] 29 (0,0)) (bd_ BK422.out) hb);have n1_:=A0_ (below_step y10_ hb);clear BK422;clear HB;have BK422:=n0_;have HB:=n1_;clear n0_ n1_;(try clear hb);(try clear hb2);(try clear hk);(try clear hi)))
  go_ret2
  exact ⟨_,y2_,by first|exact Kd.R_nil _ _ _ _ _|exact Kd.N_nil _ _ _ _ _|exact Kd.V_nil _ _ _ _ _|exact Kd.Q_nil _ _ _ _ _|exact Kd.S_nil _ _ _ _ _,y10_⟩
end Go.Proofs.YtjahbgldccjbfaaGreatDoor.PSky
end
section
namespace Go.Proofs.YtjahbgldccjbfaaGreatDoor.PSky
open Go.RowKit Go.Proofs.YtjahbgldccjbfaaGreatDoorW.PrintWords Go.Proofs.YtjahbgldccjbfaaGreatDoorW.PrintLast Go.Proofs.YtjahbgldccjbfaaGreatDoorW.PrintMore
attribute [local go_sem] max2_int min2_int max_two min_two max_three min_three max_four min_four
set_option linter.unusedVariables false
set_option linter.unusedSimpArgs false
mutual
def sky_Eclipses.j0:Nat→Int→Int→Int→Int→Bool→List (S74)→Int→Int→Int→Option ((List (S98)) × Int)
 |0,_,_,_,_,_,_,_,_,_=>none
 |k+1,x1,x2,x3,x4,x35,x715000,x715001,x715002,x715003=>if x35=true then (some (([]:List (S98)),2)) else ((sky_moons.f k x715000 x715001 x715002 x715003 x3 x4).bind fun t719=>(sky_Eclipses.l0 k x1 x2 ([]:List (S98)) t719 (t719.length:Int) 0 x715000 x715001 x715002 x715003))
def sky_Eclipses.l0:Nat→Int→Int→List (S98)→List (S95)→Int→Int→List (S74)→Int→Int→Int→Option ((List (S98)) × Int)
 |0,_,_,_,_,_,_,_,_,_,_=>none
 |k+1,x1,x2,x12,x39,x40,x41,x715000,x715001,x715002,x715003=>if x41<x40 then (if 0≤x41 then (if x41<(x39.length:Int) then (if (rd_T95 x39 x41).f1=true then ((ss_far.f k x715000 x715001 x715002 x715003 ((rd_T95 x39 x41).f0)).bind fun t724=>(if t724≤x2 then (if x12.length<5864062014805 then (sky_Eclipses.l0 k x1 x2 (x12 ++ [(⟨(rd_T95 x39 x41).f0,(rd_T95 x39 x41).f1,t724⟩:S98)]) x39 x40 (wrap64 (x41+1)) x715000 x715001 x715002 x715003) else (none)) else (sky_Eclipses.l0 k x1 x2 x12 x39 x40 (wrap64 (x41+1)) x715000 x715001 x715002 x715003))) else ((ss_far.f k x715000 x715001 x715002 x715003 ((rd_T95 x39 x41).f0)).bind fun t728=>(if t728≤x1 then (if x12.length<5864062014805 then (sky_Eclipses.l0 k x1 x2 (x12 ++ [(⟨(rd_T95 x39 x41).f0,(rd_T95 x39 x41).f1,t728⟩:S98)]) x39 x40 (wrap64 (x41+1)) x715000 x715001 x715002 x715003) else (none)) else (sky_Eclipses.l0 k x1 x2 x12 x39 x40 (wrap64 (x41+1)) x715000 x715001 x715002 x715003)))) else (none)) else (none)) else (some (x12,0))
end
def sky_Eclipses.f (k:Nat) (l0_0:List (S74)) (a0_1:Int) (a0_2:Int) (a0_3:Int) (a1:Int) (a2:Int) (a3:Int) (a4:Int):Option ((List (S98)) × Int):=(sky_isSky.f k l0_0 a0_1 a0_2 a0_3).bind fun t715=>(if t715=true then ((sky_isLimit.f a1).bind fun t716=>(if t716=true then ((sky_isLimit.f a2).bind fun t717=>(if t717=true then ((sky_isSpan.f a3 a4).bind fun t718=>(sky_Eclipses.j0 k a1 a2 a3 a4 (!t718) l0_0 a0_1 a0_2 a0_3)) else (sky_Eclipses.j0 k a1 a2 a3 a4 true l0_0 a0_1 a0_2 a0_3))) else (sky_Eclipses.j0 k a1 a2 a3 a4 true l0_0 a0_1 a0_2 a0_3))) else (sky_Eclipses.j0 k a1 a2 a3 a4 true l0_0 a0_1 a0_2 a0_3))
set_option maxHeartbeats 8000000 in
set_option maxRecDepth 100000 in
theorem sky_Eclipses.calls (k:Nat) (A0_0:Option Addr) (c0_0:Nat) (l0_0:List (S74)) (a0_1:Int) (a0_2:Int) (a0_3:Int) (a1:Int) (a2:Int) (a3:Int) (a4:Int) (r1:List (S98)) (r2:Int) (w:World) (hr0_0:Kd.C k74 w A0_0 l0_0.length l0_0) (hc0_0:l0_0.length≤c0_0) (h:sky_Eclipses.f k l0_0 a0_1 a0_2 a0_3 a1 a2 a3 a4=some (r1,r2)):
  Calls Tryz.prog 52 #[.agg #[.slice A0_0 l0_0.length c0_0,.int .i64 a0_1,.int .i64 a0_2,.int .i64 a0_3],.int .i64 a1,.int .i64 a2,.int .i64 a3,.int .i64 a4] w fun e w'=>∃ v0_:Value,e=.returned (.tuple #[v0_,.int .i64 r2])∧Kd.R k98 98 w' w.heap.size (fun _=>True) v0_ r1∧Below w.heap.size w w':=by
 have hu29:=Tryz.underlying29
 have hu95:=Tryz.underlying95
 have hu112:=Tryz.underlying112
 have hu98:=Tryz.underlying98
 have HR0_0:=A0_ hr0_0;have HC0_0:=A0_ hc0_0;clear hr0_0 hc0_0
 have HB:=A0_ (Below.refl w.heap.size w)
 have H:((sky_isSky.f k l0_0 a0_1 a0_2 a0_3).bind fun t715=>(if t715=true then ((sky_isLimit.f a1).bind fun t716=>(if t716=true then ((sky_isLimit.f a2).bind fun t717=>(if t717=true then ((sky_isSpan.f a3 a4).bind fun t718=>(sky_Eclipses.j0 k a1 a2 a3 a4 (!t718) l0_0 a0_1 a0_2 a0_3)) else (sky_Eclipses.j0 k a1 a2 a3 a4 true l0_0 a0_1 a0_2 a0_3))) else (sky_Eclipses.j0 k a1 a2 a3 a4 true l0_0 a0_1 a0_2 a0_3))) else (sky_Eclipses.j0 k a1 a2 a3 a4 true l0_0 a0_1 a0_2 a0_3)))=some (r1,r2):=h
 clear h;have HC6:=A0_ H;clear H
 go_enter Tryz.func52,Tryz.ntmps52
 go_upto_region 1 with (first|((with_reducible refine gate_dst (N:=5) rfl ?_);refine box_event ?hg (N:=5) ?hd (cs:=#[.slice A0_0 l0_0.length c0_0,.int .i64 a0_1,.int .i64 a0_2,.int .i64 a0_3]) (t:=29) ?hr ?_;(case hd=>rfl);(case hg=>rfl);(case hr=>first|(go_simp;done)|(go_simp;rfl));intro gb714 hg w7 hbox hb;have n0_:=A0_ (below_step y0_ hb);have n1_:=A0_ (hbox);have n2_:=A0_ ((by rw [hg];exact (below_size y0_):w.heap.size≤gb714));have n3_:=A0_ ((by rw [hg];exact (below_size y0_):w.heap.size≤gb714));clear HB;have HB:=n0_;have BK714:=n1_;have GW714:=n2_;have GE714:=n3_;clear n0_ n1_ n2_ n3_;clear hb hbox hg))
 (try simp only [Act.put,List.setIfInBounds_toArray,List.set_cons_zero,List.set_cons_succ])
 go_cut [35] (fun v35 wc=>∃ (kq:Nat) (x35_5:Bool),v35=.bool x35_5∧Aside0 (sky_Eclipses.j0 kq a1 a2 a3 a4 x35_5 l0_0 a0_1 a0_2 a0_3=some (r1,r2))∧Aside0 (kq≤k)∧Aside0 (wc.heap[gb714]?=some (.cells #[(.slice A0_0 l0_0.length c0_0),.int .i64 a0_1,.int .i64 a0_2,.int .i64 a0_3] 29 (0,0)))∧Aside0 (Below w.heap.size w wc))
 case first=>
  have H:=HC6.out
  clear HC6;replace H:=Option.bind_eq_some_iff.mp H;obtain ⟨t715,A80,H⟩:=H
  replace H:(if t715=true then ((sky_isLimit.f a1).bind fun t716=>(if t716=true then ((sky_isLimit.f a2).bind fun t717=>(if t717=true then ((sky_isSpan.f a3 a4).bind fun t718=>(sky_Eclipses.j0 k a1 a2 a3 a4 (!t718) l0_0 a0_1 a0_2 a0_3)) else (sky_Eclipses.j0 k a1 a2 a3 a4 true l0_0 a0_1 a0_2 a0_3))) else (sky_Eclipses.j0 k a1 a2 a3 a4 true l0_0 a0_1 a0_2 a0_3))) else (sky_Eclipses.j0 k a1 a2 a3 a4 true l0_0 a0_1 a0_2 a0_3))=some (r1,r2):=H
  have A8:=A0_ A80;clear A80
  by_cases c9:t715=true
  ·subst c9
   have H1:((sky_isLimit.f a1).bind fun t716=>(if t716=true then ((sky_isLimit.f a2).bind fun t717=>(if t717=true then ((sky_isSpan.f a3 a4).bind fun t718=>(sky_Eclipses.j0 k a1 a2 a3 a4 (!t718) l0_0 a0_1 a0_2 a0_3)) else (sky_Eclipses.j0 k a1 a2 a3 a4 true l0_0 a0_1 a0_2 a0_3))) else (sky_Eclipses.j0 k a1 a2 a3 a4 true l0_0 a0_1 a0_2 a0_3)))=some (r1,r2):=by rw [if_pos rfl] at H;exact H
   clear H;have H:=H1;clear H1;replace H:=Option.bind_eq_some_iff.mp H;obtain ⟨t716,A100,H⟩:=H
   replace H:(if t716=true then ((sky_isLimit.f a2).bind fun t717=>(if t717=true then ((sky_isSpan.f a3 a4).bind fun t718=>(sky_Eclipses.j0 k a1 a2 a3 a4 (!t718) l0_0 a0_1 a0_2 a0_3)) else (sky_Eclipses.j0 k a1 a2 a3 a4 true l0_0 a0_1 a0_2 a0_3))) else (sky_Eclipses.j0 k a1 a2 a3 a4 true l0_0 a0_1 a0_2 a0_3))=some (r1,r2):=H
   have A10:=A0_ A100;clear A100
   by_cases c11:t716=true
   ·subst c11
    have H1:((sky_isLimit.f a2).bind fun t717=>(if t717=true then ((sky_isSpan.f a3 a4).bind fun t718=>(sky_Eclipses.j0 k a1 a2 a3 a4 (!t718) l0_0 a0_1 a0_2 a0_3)) else (sky_Eclipses.j0 k a1 a2 a3 a4 true l0_0 a0_1 a0_2 a0_3)))=some (r1,r2):=by rw [if_pos rfl] at H;exact H
    clear H;have H:=H1;clear H1;replace H:=Option.bind_eq_some_iff.mp H;obtain ⟨t717,A120,H⟩:=H
    replace H:(if t717=true then ((sky_isSpan.f a3 a4).bind fun t718=>(sky_Eclipses.j0 k a1 a2 a3 a4 (!t718) l0_0 a0_1 a0_2 a0_3)) else (sky_Eclipses.j0 k a1 a2 a3 a4 true l0_0 a0_1 a0_2 a0_3))=some (r1,r2):=H
    have A12:=A0_ A120;clear A120
    by_cases c13:t717=true
    ·subst c13
     have H1:((sky_isSpan.f a3 a4).bind fun t718=>(sky_Eclipses.j0 k a1 a2 a3 a4 (!t718) l0_0 a0_1 a0_2 a0_3))=some (r1,r2):=by rw [if_pos rfl] at H;exact H
     clear H;have H:=H1;clear H1;replace H:=Option.bind_eq_some_iff.mp H;obtain ⟨t718,A140,H⟩:=H
     replace H:(sky_Eclipses.j0 k a1 a2 a3 a4 (!t718) l0_0 a0_1 a0_2 a0_3)=some (r1,r2):=H
     have A14:=A0_ A140;clear A140
     have H':=A0_ H
     clear H;obtain ⟨hcz15_0,hcz15_1,hcz15_2,hcz15_3,hfz15_0,hfz15_1,hfz15_2,hfz15_3⟩:=bq4_ BK714.out
     go_wp2_with (first|((with_reducible refine gate_callee (f:=62) rfl ?_);refine goesL_ (some 18) rfl rfl Tryz.func62 (by kernel_rfl) rfl #[.agg #[.slice A0_0 l0_0.length c0_0,.int .i64 a0_1,.int .i64 a0_2,.int .i64 a0_3]] rfl y1_ ?_;(with_reducible refine (sky_isSky.calls k _ _ l0_0 a0_1 a0_2 a0_3 true _ ?side1 ?side2 A8.out).mono ?_);(case side1=>repeat (first|exact (Kd.C_below HR0_0.out HB.out)|(with_reducible refine Kd.C_alloc ?_ _)|(with_reducible refine Kd.C_drewN ?_ _)|(with_reducible refine Kd.C_drew ?_)));(case side2=>exact HC0_0.out);rintro e w16 ⟨rfl,hb⟩;refine ⟨_,rfl,?_⟩;have n0_:=A0_ (blk_below (g:=gb714) (o:=.cells #[.slice A0_0 l0_0.length c0_0,.int .i64 a0_1,.int .i64 a0_2,.int .i64 a0_3] 29 (0,0)) (bd_ BK714.out) hb);have n1_:=A0_ (below_step y8_ hb);clear BK714;clear HB;have BK714:=n0_;have HB:=n1_;clear n0_ n1_;(try clear hb);(try clear hb2);(try clear hk);(try clear hi))|(go_at_call 91;(with_reducible refine (sky_isLimit.calls a1 true _ A10.out).mono ?_);rintro e w' ⟨rfl,⟨nd,rfl⟩⟩)|(go_at_call 91;(with_reducible refine (sky_isLimit.calls a2 true _ A12.out).mono ?_);rintro e w' ⟨rfl,⟨nd,rfl⟩⟩)|(go_at_call 69;(with_reducible refine (sky_isSpan.calls a3 a4 t718 _ A14.out).mono ?_);rintro e w' ⟨rfl,⟨nd,rfl⟩⟩))
     go_meet
     case rel=>exact ⟨_,(!t718),y4_,H',⟨by first|omega|exact Nat.le_refl _⟩,⟨by (with_reducible repeat (first|refine blk_drewN ?_ _|refine blk_drew ?_|refine blk_alloc ?_ _));exact BK714.out⟩,⟨y8_⟩⟩
    ·replace c13:=Bool.eq_false_iff.mpr c13;subst c13
     have H1:(sky_Eclipses.j0 k a1 a2 a3 a4 true l0_0 a0_1 a0_2 a0_3)=some (r1,r2):=by rw [if_neg (show ¬ (false=true) by decide)] at H;exact H
     clear H;have H:=H1;clear H1
     have H':=A0_ H
     clear H;obtain ⟨hcz17_0,hcz17_1,hcz17_2,hcz17_3,hfz17_0,hfz17_1,hfz17_2,hfz17_3⟩:=bq4_ BK714.out
     go_wp2_with (first|((with_reducible refine gate_callee (f:=62) rfl ?_);refine goesL_ (some 18) rfl rfl Tryz.func62 (by kernel_rfl) rfl #[.agg #[.slice A0_0 l0_0.length c0_0,.int .i64 a0_1,.int .i64 a0_2,.int .i64 a0_3]] rfl y1_ ?_;(with_reducible refine (sky_isSky.calls k _ _ l0_0 a0_1 a0_2 a0_3 true _ ?side1 ?side2 A8.out).mono ?_);(case side1=>repeat (first|exact (Kd.C_below HR0_0.out HB.out)|(with_reducible refine Kd.C_alloc ?_ _)|(with_reducible refine Kd.C_drewN ?_ _)|(with_reducible refine Kd.C_drew ?_)));(case side2=>exact HC0_0.out);rintro e w18 ⟨rfl,hb⟩;refine ⟨_,rfl,?_⟩;have n0_:=A0_ (blk_below (g:=gb714) (o:=.cells #[.slice A0_0 l0_0.length c0_0,.int .i64 a0_1,.int .i64 a0_2,.int .i64 a0_3] 29 (0,0)) (bd_ BK714.out) hb);have n1_:=A0_ (below_step y8_ hb);clear BK714;clear HB;have BK714:=n0_;have HB:=n1_;clear n0_ n1_;(try clear hb);(try clear hb2);(try clear hk);(try clear hi))|(go_at_call 91;(with_reducible refine (sky_isLimit.calls a1 true _ A10.out).mono ?_);rintro e w' ⟨rfl,⟨nd,rfl⟩⟩)|(go_at_call 91;(with_reducible refine (sky_isLimit.calls a2 false _ A12.out).mono ?_);rintro e w' ⟨rfl,⟨nd,rfl⟩⟩))
     go_meet
     case rel=>exact ⟨_,(true),y4_,H',⟨by first|omega|exact Nat.le_refl _⟩,⟨by (with_reducible repeat (first|refine blk_drewN ?_ _|refine blk_drew ?_|refine blk_alloc ?_ _));exact BK714.out⟩,⟨y8_⟩⟩
   ·replace c11:=Bool.eq_false_iff.mpr c11;subst c11
    have H1:(sky_Eclipses.j0 k a1 a2 a3 a4 true l0_0 a0_1 a0_2 a0_3)=some (r1,r2):=by rw [if_neg (show ¬ (false=true) by decide)] at H;exact H
    clear H;have H:=H1;clear H1
    have H':=A0_ H
    clear H;obtain ⟨hcz19_0,hcz19_1,hcz19_2,hcz19_3,hfz19_0,hfz19_1,hfz19_2,hfz19_3⟩:=bq4_ BK714.out
    go_wp2_with (first|((with_reducible refine gate_callee (f:=62) rfl ?_);refine goesL_ (some 18) rfl rfl Tryz.func62 (by kernel_rfl) rfl #[.agg #[.slice A0_0 l0_0.length c0_0,.int .i64 a0_1,.int .i64 a0_2,.int .i64 a0_3]] rfl y1_ ?_;(with_reducible refine (sky_isSky.calls k _ _ l0_0 a0_1 a0_2 a0_3 true _ ?side1 ?side2 A8.out).mono ?_);(case side1=>repeat (first|exact (Kd.C_below HR0_0.out HB.out)|(with_reducible refine Kd.C_alloc ?_ _)|(with_reducible refine Kd.C_drewN ?_ _)|(with_reducible refine Kd.C_drew ?_)));(case side2=>exact HC0_0.out);rintro e w20 ⟨rfl,hb⟩;refine ⟨_,rfl,?_⟩;have n0_:=A0_ (blk_below (g:=gb714) (o:=.cells #[.slice A0_0 l0_0.length c0_0,.int .i64 a0_1,.int .i64 a0_2,.int .i64 a0_3] 29 (0,0)) (bd_ BK714.out) hb);have n1_:=A0_ (below_step y8_ hb);clear BK714;clear HB;have BK714:=n0_;have HB:=n1_;clear n0_ n1_;(try clear hb);(try clear hb2);(try clear hk);(try clear hi))|(go_at_call 91;(with_reducible refine (sky_isLimit.calls a1 false _ A10.out).mono ?_);rintro e w' ⟨rfl,⟨nd,rfl⟩⟩))
    go_meet
    case rel=>exact ⟨_,(true),y4_,H',⟨by first|omega|exact Nat.le_refl _⟩,⟨by (with_reducible repeat (first|refine blk_drewN ?_ _|refine blk_drew ?_|refine blk_alloc ?_ _));exact BK714.out⟩,⟨y8_⟩⟩
  ·replace c9:=Bool.eq_false_iff.mpr c9;subst c9
   have H1:(sky_Eclipses.j0 k a1 a2 a3 a4 true l0_0 a0_1 a0_2 a0_3)=some (r1,r2):=by rw [if_neg (show ¬ (false=true) by decide)] at H;exact H
   clear H;have H:=H1;clear H1
   have H':=A0_ H
   clear H;obtain ⟨hcz21_0,hcz21_1,hcz21_2,hcz21_3,hfz21_0,hfz21_1,hfz21_2,hfz21_3⟩:=bq4_ BK714.out
   go_wp2_with (first|((with_reducible refine gate_callee (f:=62) rfl ?_);refine goesL_ (some 18) rfl rfl Tryz.func62 (by kernel_rfl) rfl #[.agg #[.slice A0_0 l0_0.length c0_0,.int .i64 a0_1,.int .i64 a0_2,.int .i64 a0_3]] rfl y1_ ?_;(with_reducible refine (sky_isSky.calls k _ _ l0_0 a0_1 a0_2 a0_3 false _ ?side1 ?side2 A8.out).mono ?_);(case side1=>repeat (first|exact (Kd.C_below HR0_0.out HB.out)|(with_reducible refine Kd.C_alloc ?_ _)|(with_reducible refine Kd.C_drewN ?_ _)|(with_reducible refine Kd.C_drew ?_)));(case side2=>exact HC0_0.out);rintro e w22 ⟨rfl,hb⟩;refine ⟨_,rfl,?_⟩;have n0_:=A0_ (blk_below (g:=gb714) (o:=.cells #[.slice A0_0 l0_0.length c0_0,.int .i64 a0_1,.int .i64 a0_2,.int .i64 a0_3] 29 (0,0)) (bd_ BK714.out) hb);have n1_:=A0_ (below_step y8_ hb);clear BK714;clear HB;have BK714:=n0_;have HB:=n1_;clear n0_ n1_;(try clear hb);(try clear hb2);(try clear hk);(try clear hi)))
   go_meet
   case rel=>exact ⟨_,(true),y4_,H',⟨by first|omega|exact Nat.le_refl _⟩,⟨by (with_reducible repeat (first|refine blk_drewN ?_ _|refine blk_drew ?_|refine blk_alloc ?_ _));exact BK714.out⟩,⟨y8_⟩⟩
 case rest=>
  clear HC6;(try clear c1);(try clear p2);(try clear c5);(try clear c6);(try clear c9);(try clear c11);(try clear c13);(try clear hcz15_0);(try clear hcz15_1);(try clear hcz15_2);(try clear hcz15_3);(try clear hcz17_0);(try clear hcz17_1);(try clear hcz17_2);(try clear hcz17_3);(try clear hcz19_0);(try clear hcz19_1);(try clear hcz19_2);(try clear hcz19_3);(try clear hcz21_0);(try clear hcz21_1);(try clear hcz21_2);(try clear hcz21_3);(try clear hfz15_0);(try clear hfz15_1);(try clear hfz15_2);(try clear hfz15_3);(try clear hfz17_0);(try clear hfz17_1);(try clear hfz17_2);(try clear hfz17_3);(try clear hfz19_0);(try clear hfz19_1);(try clear hfz19_2);(try clear hfz19_3);(try clear hfz21_0);(try clear hfz21_1);(try clear hfz21_2);(try clear hfz21_3)
  obtain ⟨kq,x35_5,rfl,HA,HJ5,BK714,HB⟩:=hcut
  cases kq with
  |zero=>exact absurd HA.out (by simp [sky_Eclipses.j0])
  |succ kj5=>
   have H:=HA.out
   clear HA
   simp only [sky_Eclipses.j0] at H
   by_cases c23:x35_5=true
   ·subst c23
    have H1:(some (([]:List (S98)),2))=some (r1,r2):=by rw [if_pos rfl] at H;exact H
    clear H;have H:=H1;clear H1
    simp only [Option.some.injEq,Prod.mk.injEq] at H
    obtain ⟨rfl,rfl⟩:=H;go_wp2
    go_ret2
    exact ⟨_,y2_,by first|exact Kd.R_nil _ _ _ _ _|exact Kd.N_nil _ _ _ _ _|exact Kd.V_nil _ _ _ _ _|exact Kd.Q_nil _ _ _ _ _|exact Kd.S_nil _ _ _ _ _,y8_⟩
   ·replace c23:=Bool.eq_false_iff.mpr c23;subst c23
    have H1:((sky_moons.f kj5 l0_0 a0_1 a0_2 a0_3 a3 a4).bind fun t719=>(sky_Eclipses.l0 kj5 a1 a2 ([]:List (S98)) t719 (t719.length:Int) 0 l0_0 a0_1 a0_2 a0_3))=some (r1,r2):=by rw [if_neg (show ¬ (false=true) by decide)] at H;exact H
    clear H;have H:=H1;clear H1;replace H:=Option.bind_eq_some_iff.mp H;obtain ⟨t719,A240,H⟩:=H
    replace H:(sky_Eclipses.l0 kj5 a1 a2 ([]:List (S98)) t719 (t719.length:Int) 0 l0_0 a0_1 a0_2 a0_3)=some (r1,r2):=H
    have A24:=A0_ A240;clear A240
    have H':=A0_ H
    clear H;obtain ⟨hcz25_0,hcz25_1,hcz25_2,hcz25_3,hfz25_0,hfz25_1,hfz25_2,hfz25_3⟩:=bq4_ BK714.out
    go_wp2_with (first|((with_reducible refine gate_callee (f:=83) rfl ?_);refine goesL_ (some 39) rfl rfl Tryz.func83 (by kernel_rfl) rfl #[.agg #[.slice A0_0 l0_0.length c0_0,.int .i64 a0_1,.int .i64 a0_2,.int .i64 a0_3],.int .i64 a3,.int .i64 a4] rfl y1_ ?_;(with_reducible refine (sky_moons.calls kj5 _ _ l0_0 a0_1 a0_2 a0_3 a3 a4 t719 _ ?side1 ?side2 A24.out).mono ?_);(case side1=>repeat (first|exact (Kd.C_below HR0_0.out HB.out)|(with_reducible refine Kd.C_alloc ?_ _)|(with_reducible refine Kd.C_drewN ?_ _)|(with_reducible refine Kd.C_drew ?_)));(case side2=>exact HC0_0.out);rintro e w26 ⟨v720,rfl,ho0,hb⟩;refine ⟨_,rfl,?_⟩;have n0_:=A0_ (Kd.R_lower ho0 (below_size y8_));have n1_:=A0_ (blk_below (g:=gb714) (o:=.cells #[.slice A0_0 l0_0.length c0_0,.int .i64 a0_1,.int .i64 a0_2,.int .i64 a0_3] 29 (0,0)) (bd_ BK714.out) hb);have n2_:=A0_ (below_step y8_ hb);clear BK714;clear HB;have HO721:=n0_;have BK714:=n1_;have HB:=n2_;clear n0_ n1_ n2_;(try clear hb);(try clear hb2);(try clear hk);(try clear hi);(try clear ho0);obtain ⟨Ao27,co27,eo27⟩:=Kd.R_slice HO721.out;subst eo27))
    go_loopg [12,41] kj5 (fun kq v12 v41 w'=>∃ (x12_2:List (S98)) (x41_2:Int),v41=.int .i64 x41_2∧Aside0 (sky_Eclipses.l0 kq a1 a2 x12_2 t719 (t719.length:Int) x41_2 l0_0 a0_1 a0_2 a0_3=some (r1,r2))∧Aside0 (kq≤kj5)∧Aside0 (Kd.R k98 98 w' w.heap.size (fun _=>True) v12 x12_2)∧Aside0 (Kd.R k95 95 w' w.heap.size (fun _=>True) (.slice Ao27 t719.length co27) t719)∧Aside0 (w'.heap[gb714]?=some (.cells #[(.slice A0_0 l0_0.length c0_0),.int .i64 a0_1,.int .i64 a0_2,.int .i64 a0_3] 29 (0,0)))∧Aside0 (Below w.heap.size w w'))
    case atStart=>exact ⟨(([]:List (S98))),(0),y4_,H',⟨Nat.le_refl _⟩,⟨by first|exact Kd.R_nil _ _ _ _ _|exact Kd.N_nil _ _ _ _ _|exact Kd.V_nil _ _ _ _ _|exact Kd.Q_nil _ _ _ _ _|exact Kd.S_nil _ _ _ _ _⟩,⟨by (with_reducible repeat (first|apply Kd.R_alloc|apply Kd.R_drewN|apply Kd.R_drew));exact HO721.out⟩,⟨by (with_reducible repeat (first|refine blk_drewN ?_ _|refine blk_drew ?_|refine blk_alloc ?_ _));exact BK714.out⟩,⟨y8_⟩⟩
    case round=>
     clear H'
     (try clear c1);(try clear c2);(try clear p2);(try clear c5);(try clear c6);(try clear c8);(try clear c9);(try clear c11);(try clear c13);(try clear c23);(try clear hcz15_0);(try clear hcz15_1);(try clear hcz15_2);(try clear hcz15_3);(try clear hcz17_0);(try clear hcz17_1);(try clear hcz17_2);(try clear hcz17_3);(try clear hcz19_0);(try clear hcz19_1);(try clear hcz19_2);(try clear hcz19_3);(try clear hcz21_0);(try clear hcz21_1);(try clear hcz21_2);(try clear hcz21_3);(try clear hcz25_0);(try clear hcz25_1);(try clear hcz25_2);(try clear hcz25_3);(try clear hfz15_0);(try clear hfz15_1);(try clear hfz15_2);(try clear hfz15_3);(try clear hfz17_0);(try clear hfz17_1);(try clear hfz17_2);(try clear hfz17_3);(try clear hfz19_0);(try clear hfz19_1);(try clear hfz19_2);(try clear hfz19_3);(try clear hfz21_0);(try clear hfz21_1);(try clear hfz21_2);(try clear hfz21_3);(try clear hfz25_0);(try clear hfz25_1);(try clear hfz25_2);(try clear hfz25_3);(try clear p2)
     obtain ⟨x12_2,x41_2,rfl,HA,HK2,HO_12,HO_39,BK714,HB⟩:=hrel
     cases gk with
     |zero=>exact absurd HA.out (by simp [sky_Eclipses.l0])
     |succ k2=>
      have H:=HA.out
      clear HA
      simp only [sky_Eclipses.l0] at H
      by_cases c28:x41_2<(t719.length:Int)
      ·rw [if_pos c28] at H;have c28b0:decide (x41_2<(t719.length:Int))=true:=decide_eq_true c28;clear c28
       by_cases c29:0≤x41_2
       ·rw [if_pos c29] at H;have c29b0:decide (0≤x41_2)=true:=decide_eq_true c29;clear c29
        by_cases c30:x41_2<(t719.length:Int)
        ·rw [if_pos c30] at H;have c30b0:decide (x41_2<(t719.length:Int))=true:=decide_eq_true c30;clear c30
         obtain ⟨bq31,hbq31⟩:∃ b_:Bool,b_=((rd_T95 t719 x41_2).f1):=⟨_,rfl⟩
         replace H:(if bq31=true then ((ss_far.f k2 l0_0 a0_1 a0_2 a0_3 ((rd_T95 t719 x41_2).f0)).bind fun t724=>(if t724≤a2 then (if x12_2.length<5864062014805 then (sky_Eclipses.l0 k2 a1 a2 (x12_2 ++ [(⟨(rd_T95 t719 x41_2).f0,bq31,t724⟩:S98)]) t719 (t719.length:Int) (wrap64 (x41_2+1)) l0_0 a0_1 a0_2 a0_3) else (none)) else (sky_Eclipses.l0 k2 a1 a2 x12_2 t719 (t719.length:Int) (wrap64 (x41_2+1)) l0_0 a0_1 a0_2 a0_3))) else ((ss_far.f k2 l0_0 a0_1 a0_2 a0_3 ((rd_T95 t719 x41_2).f0)).bind fun t728=>(if t728≤a1 then (if x12_2.length<5864062014805 then (sky_Eclipses.l0 k2 a1 a2 (x12_2 ++ [(⟨(rd_T95 t719 x41_2).f0,bq31,t728⟩:S98)]) t719 (t719.length:Int) (wrap64 (x41_2+1)) l0_0 a0_1 a0_2 a0_3) else (none)) else (sky_Eclipses.l0 k2 a1 a2 x12_2 t719 (t719.length:Int) (wrap64 (x41_2+1)) l0_0 a0_1 a0_2 a0_3))))=some (r1,r2):=by rw [← hbq31] at H;exact H
         have Nbq31:=A0_ hbq31;clear hbq31
         by_cases c32:bq31=true
         ·subst c32
          have H1:((ss_far.f k2 l0_0 a0_1 a0_2 a0_3 ((rd_T95 t719 x41_2).f0)).bind fun t724=>(if t724≤a2 then (if x12_2.length<5864062014805 then (sky_Eclipses.l0 k2 a1 a2 (x12_2 ++ [(⟨(rd_T95 t719 x41_2).f0,true,t724⟩:S98)]) t719 (t719.length:Int) (wrap64 (x41_2+1)) l0_0 a0_1 a0_2 a0_3) else (none)) else (sky_Eclipses.l0 k2 a1 a2 x12_2 t719 (t719.length:Int) (wrap64 (x41_2+1)) l0_0 a0_1 a0_2 a0_3)))=some (r1,r2):=by rw [if_pos rfl] at H;exact H
          clear H;have H:=H1;clear H1;replace H:=Option.bind_eq_some_iff.mp H;obtain ⟨t724,A330,H⟩:=H
          replace H:(if t724≤a2 then (if x12_2.length<5864062014805 then (sky_Eclipses.l0 k2 a1 a2 (x12_2 ++ [(⟨(rd_T95 t719 x41_2).f0,true,t724⟩:S98)]) t719 (t719.length:Int) (wrap64 (x41_2+1)) l0_0 a0_1 a0_2 a0_3) else (none)) else (sky_Eclipses.l0 k2 a1 a2 x12_2 t719 (t719.length:Int) (wrap64 (x41_2+1)) l0_0 a0_1 a0_2 a0_3))=some (r1,r2):=H
          have A33:=A0_ A330;clear A330
          by_cases c34:t724≤a2
          ·rw [if_pos c34] at H;have c34b0:decide (t724≤a2)=true:=decide_eq_true c34;clear c34
           by_cases c35:x12_2.length<5864062014805
           ·rw [if_pos c35] at H;have LMc35:=A0_ c35;clear c35
            obtain ⟨y725,hy725⟩:∃ y_:List (S98),y_=(x12_2 ++ [(⟨(rd_T95 t719 x41_2).f0,true,t724⟩:S98)]):=⟨_,rfl⟩
            replace H:(sky_Eclipses.l0 k2 a1 a2 y725 t719 (t719.length:Int) (wrap64 (x41_2+1)) l0_0 a0_1 a0_2 a0_3)=some (r1,r2):=by first|(rw [hy725];with_reducible exact H)|(have H2_:=(Option.bind_some _ _).symm.trans H;rw [hy725];with_reducible exact H2_)|(have H2_:=(Option.bind_some _ _).symm.trans H;with_reducible exact H2_)|with_reducible exact H|(rw [hy725];exact H)|exact H
            have Ny725:=A0_ hy725;clear hy725
            have H':=A0_ H
            clear H
            have p722:0≤(x41_2:Int):=of_decide_eq_true y5_
            have q722:x41_2<(t719.length:Int):=of_decide_eq_true y5_
            obtain ⟨ad722,e722,hx722_0,hx722_1⟩:=at_T95 (Kd.R_reads' HO_39.out).2.2 x41_2 p722 q722
            (try rw [← Nbq31.out] at hx722_1)
            cases e722
            replace p722:=eq_true p722
            replace q722:=eq_true q722
            go_wp2_with (first|((with_reducible refine gate_dst (N:=14) rfl ?_);refine box_event ?hg (N:=14) ?hd (cs:=#[.int .i64 0,.bool false]) (t:=95) ?hr ?_;(case hd=>rfl);(case hg=>rfl);(case hr=>first|(go_simp;done)|(go_simp;rfl));intro gb723 hg w36 hbox hb;have n0_:=A0_ (Kd.R_below (rd_ HO_12.out) hb);have n1_:=A0_ (Kd.R_below (Kd.R_elderB (rd_ HO_39.out) gb723 (Nat.le_of_eq hg.symm)) hb);have n2_:=A0_ (blk_below (g:=gb714) (o:=.cells #[.slice A0_0 l0_0.length c0_0,.int .i64 a0_1,.int .i64 a0_2,.int .i64 a0_3] 29 (0,0)) (bd_ BK714.out) hb);have n3_:=A0_ (below_step y8_ hb);have n4_:=A0_ (hbox);have n5_:=A0_ ((by rw [hg];exact (below_size y8_):w.heap.size≤gb723));have n6_:=A0_ ((by rw [hg];exact (below_size y8_):w.heap.size≤gb723));have n7_:=A0_ ((by rw [hg];exact Nat.ne_of_lt (blk_lt (g:=gb714) (o:=.cells #[.slice A0_0 l0_0.length c0_0,.int .i64 a0_1,.int .i64 a0_2,.int .i64 a0_3] 29 (0,0)) (bd_ BK714.out)):gb714≠gb723));have n8_:=A0_ ((by rw [hg];exact Nat.ne_of_gt (blk_lt (g:=gb714) (o:=.cells #[.slice A0_0 l0_0.length c0_0,.int .i64 a0_1,.int .i64 a0_2,.int .i64 a0_3] 29 (0,0)) (bd_ BK714.out)):gb723≠gb714));clear HO_12;clear HO_39;clear BK714;clear HB;have HO_12:=n0_;have HO_39:=n1_;have BK714:=n2_;have HB:=n3_;have BK723:=n4_;have GW723:=n5_;have GE723:=n6_;have NB714_723:=n7_;have NB723_714:=n8_;clear n0_ n1_ n2_ n3_ n4_ n5_ n6_ n7_ n8_;clear hb hbox hg;have hnb37:=NB723_714.out;have hnc37:=NB714_723.out;obtain ⟨hcz38_0,hcz38_1,hfz38_0,hfz38_1⟩:=bq2_ BK723.out;obtain ⟨hcz39_0,hcz39_1,hcz39_2,hcz39_3,hfz39_0,hfz39_1,hfz39_2,hfz39_3⟩:=bq4_ BK714.out)|((with_reducible refine gate_callee (f:=100) rfl ?_);refine goesL_ (some 53) rfl rfl Tryz.func100 (by kernel_rfl) rfl #[.agg #[.slice A0_0 l0_0.length c0_0,.int .i64 a0_1,.int .i64 a0_2,.int .i64 a0_3,.int .i64 ((rd_T95 t719 x41_2).f0)]] rfl y1_ ?_;(with_reducible refine (ss_far.calls k2 _ _ l0_0 a0_1 a0_2 a0_3 ((rd_T95 t719 x41_2).f0) t724 _ ?side1 ?side2 A33.out).mono ?_);(case side1=>exact Kd.C_below HR0_0.out ya_);(case side2=>exact HC0_0.out);rintro e w40 ⟨rfl,hb⟩;refine ⟨_,rfl,?_⟩;have n0_:=A0_ (Kd.R_below y2l_ hb);have n1_:=A0_ (Kd.R_below y2j_ hb);have n2_:=A0_ (blk_below (g:=gb714) (o:=.cells #[.slice A0_0 l0_0.length c0_0,.int .i64 a0_1,.int .i64 a0_2,.int .i64 a0_3] 29 (0,0)) y17_ hb);have n3_:=A0_ (blk_below (g:=gb723) (o:=.cells #[.int .i64 ((rd_T95 t719 x41_2).f0),.bool true] 95 (0,0)) yx_ hb);have n4_:=A0_ (below_step ya_ hb);clear HO_12;clear HO_39;clear BK714;clear BK723;clear HB;have HO_12:=n0_;have HO_39:=n1_;have BK714:=n2_;have BK723:=n3_;have HB:=n4_;clear n0_ n1_ n2_ n3_ n4_;(try clear hb);(try clear hb2);(try clear hk);(try clear hi);obtain ⟨hcz41_0,hcz41_1,hfz41_0,hfz41_1⟩:=bq2_ BK723.out)|((with_reducible refine gate_builtin (b:=.append) (xs:=#[.tmp 57,.tmp 64]) rfl ?_);at_builtin;refine Kd.R_append k98 (w0:=w) w.heap.size rfl (.tmp 57) (.tmp 64) 81 98 (.agg #[(.int .i64 0),(.bool false),(.int .i64 0)]) 24 rfl Tryz.underlying81 info98 rfl (by decide) (by omega) u12 x12_2 (⟨(rd_T95 t719 x41_2).f0,true,t724⟩:S98) [.int .i64 ((rd_T95 t719 x41_2).f0),.bool true,.int .i64 t724] (fun _=>True) (fun _=>False) rfl rfl ?aP (fun _ hk=>hk.elim) ?aF ?aO ?aB ?aS ?aL ?_;(case aP=>exact k98_mkM _ _ _ (⟨(rd_T95 t719 x41_2).f0,true,t724⟩:S98));(case aB=>exact ya_);(case aF=>exact (fun _ _=>trivial));(case aO=>exact (rd_ HO_12.out));(case aS=>exact (below_size ya_));(case aL=>have:=LMc35.out;omega);intro v726 w42 ho hb hg hat;rw [← Ny725.out] at ho;have n0_:=A0_ (Kd.R_over' (rd_ HO_39.out) (Kd.R_typed (rd_ HO_12.out)) (by decide) hg);have n1_:=A0_ (blk_grown (g:=gb714) (o:=.cells #[.slice A0_0 l0_0.length c0_0,.int .i64 a0_1,.int .i64 a0_2,.int .i64 a0_3] 29 (0,0)) (bd_ BK714.out) hg (Kd.R_ne HO_12.out BK714.out (by decide)));have n2_:=A0_ (blk_grown (g:=gb723) (o:=.cells #[.int .i64 ((rd_T95 t719 x41_2).f0),.bool true] 95 (0,0)) (bd_ BK723.out) hg (Kd.R_ne HO_12.out BK723.out (by decide)));have n3_:=A0_ (hb);have n4_:=A0_ (ho);clear HO_39;clear BK714;clear BK723;clear HB;clear HO_12;have HO_39:=n0_;have BK714:=n1_;have BK723:=n2_;have HB:=n3_;have HO727:=n4_;clear n0_ n1_ n2_ n3_ n4_;clear ho hb hg hat))
            go_roundg k2
            case measure=>have:=HJ5.out;have:=HK2.out;omega
            case rel=>exact ⟨(y725),(wrap64 (x41_2+1)),y4_,H',⟨by have:=HJ5.out;have:=HK2.out;omega⟩,⟨by (with_reducible repeat (first|apply Kd.R_alloc|apply Kd.R_drewN|apply Kd.R_drew));exact HO727.out⟩,⟨by (with_reducible repeat (first|apply Kd.R_alloc|apply Kd.R_drewN|apply Kd.R_drew));exact Kd.R_mono HO_39.out (fun _ hk=>trivial)⟩,⟨by (with_reducible repeat (first|refine blk_drewN ?_ _|refine blk_drew ?_|refine blk_alloc ?_ _));exact BK714.out⟩,⟨ya_⟩⟩
           ·rw [if_neg c35] at H;exact absurd H (by simp)
          ·rw [if_neg c34] at H;have c34b0:decide (t724≤a2)=false:=decide_eq_false c34;clear c34
           have H':=A0_ H
           clear H
           have p722:0≤(x41_2:Int):=of_decide_eq_true y5_
           have q722:x41_2<(t719.length:Int):=of_decide_eq_true y5_
           obtain ⟨ad722,e722,hx722_0,hx722_1⟩:=at_T95 (Kd.R_reads' HO_39.out).2.2 x41_2 p722 q722
           (try rw [← Nbq31.out] at hx722_1)
           cases e722
           replace p722:=eq_true p722
           replace q722:=eq_true q722
           go_wp2_with (first|((with_reducible refine gate_dst (N:=14) rfl ?_);refine box_event ?hg (N:=14) ?hd (cs:=#[.int .i64 0,.bool false]) (t:=95) ?hr ?_;(case hd=>rfl);(case hg=>rfl);(case hr=>first|(go_simp;done)|(go_simp;rfl));intro gb723 hg w43 hbox hb;have n0_:=A0_ (Kd.R_below (rd_ HO_12.out) hb);have n1_:=A0_ (Kd.R_below (Kd.R_elderB (rd_ HO_39.out) gb723 (Nat.le_of_eq hg.symm)) hb);have n2_:=A0_ (blk_below (g:=gb714) (o:=.cells #[.slice A0_0 l0_0.length c0_0,.int .i64 a0_1,.int .i64 a0_2,.int .i64 a0_3] 29 (0,0)) (bd_ BK714.out) hb);have n3_:=A0_ (below_step y8_ hb);have n4_:=A0_ (hbox);have n5_:=A0_ ((by rw [hg];exact (below_size y8_):w.heap.size≤gb723));have n6_:=A0_ ((by rw [hg];exact (below_size y8_):w.heap.size≤gb723));have n7_:=A0_ ((by rw [hg];exact Nat.ne_of_lt (blk_lt (g:=gb714) (o:=.cells #[.slice A0_0 l0_0.length c0_0,.int .i64 a0_1,.int .i64 a0_2,.int .i64 a0_3] 29 (0,0)) (bd_ BK714.out)):gb714≠gb723));have n8_:=A0_ ((by rw [hg];exact Nat.ne_of_gt (blk_lt (g:=gb714) (o:=.cells #[.slice A0_0 l0_0.length c0_0,.int .i64 a0_1,.int .i64 a0_2,.int .i64 a0_3] 29 (0,0)) (bd_ BK714.out)):gb723≠gb714));clear HO_12;clear HO_39;clear BK714;clear HB;have HO_12:=n0_;have HO_39:=n1_;have BK714:=n2_;have HB:=n3_;have BK723:=n4_;have GW723:=n5_;have GE723:=n6_;have NB714_723:=n7_;have NB723_714:=n8_;clear n0_ n1_ n2_ n3_ n4_ n5_ n6_ n7_ n8_;clear hb hbox hg;have hnb44:=NB723_714.out;have hnc44:=NB714_723.out;obtain ⟨hcz45_0,hcz45_1,hfz45_0,hfz45_1⟩:=bq2_ BK723.out;obtain ⟨hcz46_0,hcz46_1,hcz46_2,hcz46_3,hfz46_0,hfz46_1,hfz46_2,hfz46_3⟩:=bq4_ BK714.out)|((with_reducible refine gate_callee (f:=100) rfl ?_);refine goesL_ (some 53) rfl rfl Tryz.func100 (by kernel_rfl) rfl #[.agg #[.slice A0_0 l0_0.length c0_0,.int .i64 a0_1,.int .i64 a0_2,.int .i64 a0_3,.int .i64 ((rd_T95 t719 x41_2).f0)]] rfl y1_ ?_;(with_reducible refine (ss_far.calls k2 _ _ l0_0 a0_1 a0_2 a0_3 ((rd_T95 t719 x41_2).f0) t724 _ ?side1 ?side2 A33.out).mono ?_);(case side1=>exact Kd.C_below HR0_0.out ya_);(case side2=>exact HC0_0.out);rintro e w47 ⟨rfl,hb⟩;refine ⟨_,rfl,?_⟩;have n0_:=A0_ (Kd.R_below y2l_ hb);have n1_:=A0_ (Kd.R_below y2j_ hb);have n2_:=A0_ (blk_below (g:=gb714) (o:=.cells #[.slice A0_0 l0_0.length c0_0,.int .i64 a0_1,.int .i64 a0_2,.int .i64 a0_3] 29 (0,0)) y17_ hb);have n3_:=A0_ (blk_below (g:=gb723) (o:=.cells #[.int .i64 ((rd_T95 t719 x41_2).f0),.bool true] 95 (0,0)) yx_ hb);have n4_:=A0_ (below_step ya_ hb);clear HO_12;clear HO_39;clear BK714;clear BK723;clear HB;have HO_12:=n0_;have HO_39:=n1_;have BK714:=n2_;have BK723:=n3_;have HB:=n4_;clear n0_ n1_ n2_ n3_ n4_;(try clear hb);(try clear hb2);(try clear hk);(try clear hi)))
           go_roundg k2
           case measure=>have:=HJ5.out;have:=HK2.out;omega
           case rel=>exact ⟨(x12_2),(wrap64 (x41_2+1)),y4_,H',⟨by have:=HJ5.out;have:=HK2.out;omega⟩,⟨by (with_reducible repeat (first|apply Kd.R_alloc|apply Kd.R_drewN|apply Kd.R_drew));exact HO_12.out⟩,⟨by (with_reducible repeat (first|apply Kd.R_alloc|apply Kd.R_drewN|apply Kd.R_drew));exact Kd.R_mono HO_39.out (fun _ hk=>trivial)⟩,⟨by (with_reducible repeat (first|refine blk_drewN ?_ _|refine blk_drew ?_|refine blk_alloc ?_ _));exact BK714.out⟩,⟨ya_⟩⟩
         ·replace c32:=Bool.eq_false_iff.mpr c32;subst c32
          have H1:((ss_far.f k2 l0_0 a0_1 a0_2 a0_3 ((rd_T95 t719 x41_2).f0)).bind fun t728=>(if t728≤a1 then (if x12_2.length<5864062014805 then (sky_Eclipses.l0 k2 a1 a2 (x12_2 ++ [(⟨(rd_T95 t719 x41_2).f0,false,t728⟩:S98)]) t719 (t719.length:Int) (wrap64 (x41_2+1)) l0_0 a0_1 a0_2 a0_3) else (none)) else (sky_Eclipses.l0 k2 a1 a2 x12_2 t719 (t719.length:Int) (wrap64 (x41_2+1)) l0_0 a0_1 a0_2 a0_3)))=some (r1,r2):=by rw [if_neg (show ¬ (false=true) by decide)] at H;exact H
          clear H;have H:=H1;clear H1;replace H:=Option.bind_eq_some_iff.mp H;obtain ⟨t728,A480,H⟩:=H
          replace H:(if t728≤a1 then (if x12_2.length<5864062014805 then (sky_Eclipses.l0 k2 a1 a2 (x12_2 ++ [(⟨(rd_T95 t719 x41_2).f0,false,t728⟩:S98)]) t719 (t719.length:Int) (wrap64 (x41_2+1)) l0_0 a0_1 a0_2 a0_3) else (none)) else (sky_Eclipses.l0 k2 a1 a2 x12_2 t719 (t719.length:Int) (wrap64 (x41_2+1)) l0_0 a0_1 a0_2 a0_3))=some (r1,r2):=H
          have A48:=A0_ A480;clear A480
          by_cases c49:t728≤a1
          ·rw [if_pos c49] at H;have c49b0:decide (t728≤a1)=true:=decide_eq_true c49;clear c49
           by_cases c50:x12_2.length<5864062014805
           ·rw [if_pos c50] at H;have LMc50:=A0_ c50;clear c50
            obtain ⟨y729,hy729⟩:∃ y_:List (S98),y_=(x12_2 ++ [(⟨(rd_T95 t719 x41_2).f0,false,t728⟩:S98)]):=⟨_,rfl⟩
            replace H:(sky_Eclipses.l0 k2 a1 a2 y729 t719 (t719.length:Int) (wrap64 (x41_2+1)) l0_0 a0_1 a0_2 a0_3)=some (r1,r2):=by first|(rw [hy729];with_reducible exact H)|(have H2_:=(Option.bind_some _ _).symm.trans H;rw [hy729];with_reducible exact H2_)|(have H2_:=(Option.bind_some _ _).symm.trans H;with_reducible exact H2_)|with_reducible exact H|(rw [hy729];exact H)|exact H
            have Ny729:=A0_ hy729;clear hy729
            have H':=A0_ H
            clear H
            have p722:0≤(x41_2:Int):=of_decide_eq_true y5_
            have q722:x41_2<(t719.length:Int):=of_decide_eq_true y5_
            obtain ⟨ad722,e722,hx722_0,hx722_1⟩:=at_T95 (Kd.R_reads' HO_39.out).2.2 x41_2 p722 q722
            (try rw [← Nbq31.out] at hx722_1)
            cases e722
            replace p722:=eq_true p722
            replace q722:=eq_true q722
            go_wp2_with (first|((with_reducible refine gate_dst (N:=14) rfl ?_);refine box_event ?hg (N:=14) ?hd (cs:=#[.int .i64 0,.bool false]) (t:=95) ?hr ?_;(case hd=>rfl);(case hg=>rfl);(case hr=>first|(go_simp;done)|(go_simp;rfl));intro gb723 hg w51 hbox hb;have n0_:=A0_ (Kd.R_below (rd_ HO_12.out) hb);have n1_:=A0_ (Kd.R_below (Kd.R_elderB (rd_ HO_39.out) gb723 (Nat.le_of_eq hg.symm)) hb);have n2_:=A0_ (blk_below (g:=gb714) (o:=.cells #[.slice A0_0 l0_0.length c0_0,.int .i64 a0_1,.int .i64 a0_2,.int .i64 a0_3] 29 (0,0)) (bd_ BK714.out) hb);have n3_:=A0_ (below_step y8_ hb);have n4_:=A0_ (hbox);have n5_:=A0_ ((by rw [hg];exact (below_size y8_):w.heap.size≤gb723));have n6_:=A0_ ((by rw [hg];exact (below_size y8_):w.heap.size≤gb723));have n7_:=A0_ ((by rw [hg];exact Nat.ne_of_lt (blk_lt (g:=gb714) (o:=.cells #[.slice A0_0 l0_0.length c0_0,.int .i64 a0_1,.int .i64 a0_2,.int .i64 a0_3] 29 (0,0)) (bd_ BK714.out)):gb714≠gb723));have n8_:=A0_ ((by rw [hg];exact Nat.ne_of_gt (blk_lt (g:=gb714) (o:=.cells #[.slice A0_0 l0_0.length c0_0,.int .i64 a0_1,.int .i64 a0_2,.int .i64 a0_3] 29 (0,0)) (bd_ BK714.out)):gb723≠gb714));clear HO_12;clear HO_39;clear BK714;clear HB;have HO_12:=n0_;have HO_39:=n1_;have BK714:=n2_;have HB:=n3_;have BK723:=n4_;have GW723:=n5_;have GE723:=n6_;have NB714_723:=n7_;have NB723_714:=n8_;clear n0_ n1_ n2_ n3_ n4_ n5_ n6_ n7_ n8_;clear hb hbox hg;have hnb52:=NB723_714.out;have hnc52:=NB714_723.out;obtain ⟨hcz53_0,hcz53_1,hfz53_0,hfz53_1⟩:=bq2_ BK723.out;obtain ⟨hcz54_0,hcz54_1,hcz54_2,hcz54_3,hfz54_0,hfz54_1,hfz54_2,hfz54_3⟩:=bq4_ BK714.out)|((with_reducible refine gate_callee (f:=100) rfl ?_);refine goesL_ (some 53) rfl rfl Tryz.func100 (by kernel_rfl) rfl #[.agg #[.slice A0_0 l0_0.length c0_0,.int .i64 a0_1,.int .i64 a0_2,.int .i64 a0_3,.int .i64 ((rd_T95 t719 x41_2).f0)]] rfl y1_ ?_;(with_reducible refine (ss_far.calls k2 _ _ l0_0 a0_1 a0_2 a0_3 ((rd_T95 t719 x41_2).f0) t728 _ ?side1 ?side2 A48.out).mono ?_);(case side1=>exact Kd.C_below HR0_0.out ya_);(case side2=>exact HC0_0.out);rintro e w55 ⟨rfl,hb⟩;refine ⟨_,rfl,?_⟩;have n0_:=A0_ (Kd.R_below y2k_ hb);have n1_:=A0_ (Kd.R_below y2i_ hb);have n2_:=A0_ (blk_below (g:=gb714) (o:=.cells #[.slice A0_0 l0_0.length c0_0,.int .i64 a0_1,.int .i64 a0_2,.int .i64 a0_3] 29 (0,0)) y17_ hb);have n3_:=A0_ (blk_below (g:=gb723) (o:=.cells #[.int .i64 ((rd_T95 t719 x41_2).f0),.bool false] 95 (0,0)) yx_ hb);have n4_:=A0_ (below_step ya_ hb);clear HO_12;clear HO_39;clear BK714;clear BK723;clear HB;have HO_12:=n0_;have HO_39:=n1_;have BK714:=n2_;have BK723:=n3_;have HB:=n4_;clear n0_ n1_ n2_ n3_ n4_;(try clear hb);(try clear hb2);(try clear hk);(try clear hi);obtain ⟨hcz56_0,hcz56_1,hfz56_0,hfz56_1⟩:=bq2_ BK723.out)|((with_reducible refine gate_builtin (b:=.append) (xs:=#[.tmp 57,.tmp 64]) rfl ?_);at_builtin;refine Kd.R_append k98 (w0:=w) w.heap.size rfl (.tmp 57) (.tmp 64) 81 98 (.agg #[(.int .i64 0),(.bool false),(.int .i64 0)]) 24 rfl Tryz.underlying81 info98 rfl (by decide) (by omega) u12 x12_2 (⟨(rd_T95 t719 x41_2).f0,false,t728⟩:S98) [.int .i64 ((rd_T95 t719 x41_2).f0),.bool false,.int .i64 t728] (fun _=>True) (fun _=>False) rfl rfl ?aP (fun _ hk=>hk.elim) ?aF ?aO ?aB ?aS ?aL ?_;(case aP=>exact k98_mkM _ _ _ (⟨(rd_T95 t719 x41_2).f0,false,t728⟩:S98));(case aB=>exact ya_);(case aF=>exact (fun _ _=>trivial));(case aO=>exact (rd_ HO_12.out));(case aS=>exact (below_size ya_));(case aL=>have:=LMc50.out;omega);intro v730 w57 ho hb hg hat;rw [← Ny729.out] at ho;have n0_:=A0_ (Kd.R_over' (rd_ HO_39.out) (Kd.R_typed (rd_ HO_12.out)) (by decide) hg);have n1_:=A0_ (blk_grown (g:=gb714) (o:=.cells #[.slice A0_0 l0_0.length c0_0,.int .i64 a0_1,.int .i64 a0_2,.int .i64 a0_3] 29 (0,0)) (bd_ BK714.out) hg (Kd.R_ne HO_12.out BK714.out (by decide)));have n2_:=A0_ (blk_grown (g:=gb723) (o:=.cells #[.int .i64 ((rd_T95 t719 x41_2).f0),.bool false] 95 (0,0)) (bd_ BK723.out) hg (Kd.R_ne HO_12.out BK723.out (by decide)));have n3_:=A0_ (hb);have n4_:=A0_ (ho);clear HO_39;clear BK714;clear BK723;clear HB;clear HO_12;have HO_39:=n0_;have BK714:=n1_;have BK723:=n2_;have HB:=n3_;have HO731:=n4_;clear n0_ n1_ n2_ n3_ n4_;clear ho hb hg hat))
            go_roundg k2
            case measure=>have:=HJ5.out;have:=HK2.out;omega
            case rel=>exact ⟨(y729),(wrap64 (x41_2+1)),y4_,H',⟨by have:=HJ5.out;have:=HK2.out;omega⟩,⟨by (with_reducible repeat (first|apply Kd.R_alloc|apply Kd.R_drewN|apply Kd.R_drew));exact HO731.out⟩,⟨by (with_reducible repeat (first|apply Kd.R_alloc|apply Kd.R_drewN|apply Kd.R_drew));exact Kd.R_mono HO_39.out (fun _ hk=>trivial)⟩,⟨by (with_reducible repeat (first|refine blk_drewN ?_ _|refine blk_drew ?_|refine blk_alloc ?_ _));exact BK714.out⟩,⟨ya_⟩⟩
           ·rw [if_neg c50] at H;exact absurd H (by simp)
          ·rw [if_neg c49] at H;have c49b0:decide (t728≤a1)=false:=decide_eq_false c49;clear c49
           have H':=A0_ H
           clear H
           have p722:0≤(x41_2:Int):=of_decide_eq_true y5_
           have q722:x41_2<(t719.length:Int):=of_decide_eq_true y5_
           obtain ⟨ad722,e722,hx722_0,hx722_1⟩:=at_T95 (Kd.R_reads' HO_39.out).2.2 x41_2 p722 q722
           (try rw [← Nbq31.out] at hx722_1)
           cases e722
           replace p722:=eq_true p722
           replace q722:=eq_true q722
           go_wp2_with (first|((with_reducible refine gate_dst (N:=14) rfl ?_);refine box_event ?hg (N:=14) ?hd (cs:=#[.int .i64 0,.bool false]) (t:=95) ?hr ?_;(case hd=>rfl);(case hg=>rfl);(case hr=>first|(go_simp;done)|(go_simp;rfl));intro gb723 hg w58 hbox hb;have n0_:=A0_ (Kd.R_below (rd_ HO_12.out) hb);have n1_:=A0_ (Kd.R_below (Kd.R_elderB (rd_ HO_39.out) gb723 (Nat.le_of_eq hg.symm)) hb);have n2_:=A0_ (blk_below (g:=gb714) (o:=.cells #[.slice A0_0 l0_0.length c0_0,.int .i64 a0_1,.int .i64 a0_2,.int .i64 a0_3] 29 (0,0)) (bd_ BK714.out) hb);have n3_:=A0_ (below_step y8_ hb);have n4_:=A0_ (hbox);have n5_:=A0_ ((by rw [hg];exact (below_size y8_):w.heap.size≤gb723));have n6_:=A0_ ((by rw [hg];exact (below_size y8_):w.heap.size≤gb723));have n7_:=A0_ ((by rw [hg];exact Nat.ne_of_lt (blk_lt (g:=gb714) (o:=.cells #[.slice A0_0 l0_0.length c0_0,.int .i64 a0_1,.int .i64 a0_2,.int .i64 a0_3] 29 (0,0)) (bd_ BK714.out)):gb714≠gb723));have n8_:=A0_ ((by rw [hg];exact Nat.ne_of_gt (blk_lt (g:=gb714) (o:=.cells #[.slice A0_0 l0_0.length c0_0,.int .i64 a0_1,.int .i64 a0_2,.int .i64 a0_3] 29 (0,0)) (bd_ BK714.out)):gb723≠gb714));clear HO_12;clear HO_39;clear BK714;clear HB;have HO_12:=n0_;have HO_39:=n1_;have BK714:=n2_;have HB:=n3_;have BK723:=n4_;have GW723:=n5_;have GE723:=n6_;have NB714_723:=n7_;have NB723_714:=n8_;clear n0_ n1_ n2_ n3_ n4_ n5_ n6_ n7_ n8_;clear hb hbox hg;have hnb59:=NB723_714.out;have hnc59:=NB714_723.out;obtain ⟨hcz60_0,hcz60_1,hfz60_0,hfz60_1⟩:=bq2_ BK723.out;obtain ⟨hcz61_0,hcz61_1,hcz61_2,hcz61_3,hfz61_0,hfz61_1,hfz61_2,hfz61_3⟩:=bq4_ BK714.out)|((with_reducible refine gate_callee (f:=100) rfl ?_);refine goesL_ (some 53) rfl rfl Tryz.func100 (by kernel_rfl) rfl #[.agg #[.slice A0_0 l0_0.length c0_0,.int .i64 a0_1,.int .i64 a0_2,.int .i64 a0_3,.int .i64 ((rd_T95 t719 x41_2).f0)]] rfl y1_ ?_;(with_reducible refine (ss_far.calls k2 _ _ l0_0 a0_1 a0_2 a0_3 ((rd_T95 t719 x41_2).f0) t728 _ ?side1 ?side2 A48.out).mono ?_);(case side1=>exact Kd.C_below HR0_0.out ya_);(case side2=>exact HC0_0.out);rintro e w62 ⟨rfl,hb⟩;refine ⟨_,rfl,?_⟩;have n0_:=A0_ (Kd.R_below y2k_ hb);have n1_:=A0_ (Kd.R_below y2i_ hb);have n2_:=A0_ (blk_below (g:=gb714) (o:=.cells #[.slice A0_0 l0_0.length c0_0,.int .i64 a0_1,.int .i64 a0_2,.int .i64 a0_3] 29 (0,0)) y17_ hb);have n3_:=A0_ (blk_below (g:=gb723) (o:=.cells #[.int .i64 ((rd_T95 t719 x41_2).f0),.bool false] 95 (0,0)) yx_ hb);have n4_:=A0_ (below_step ya_ hb);clear HO_12;clear HO_39;clear BK714;clear BK723;clear HB;have HO_12:=n0_;have HO_39:=n1_;have BK714:=n2_;have BK723:=n3_;have HB:=n4_;clear n0_ n1_ n2_ n3_ n4_;(try clear hb);(try clear hb2);(try clear hk);(try clear hi)))
           go_roundg k2
           case measure=>have:=HJ5.out;have:=HK2.out;omega
           case rel=>exact ⟨(x12_2),(wrap64 (x41_2+1)),y4_,H',⟨by have:=HJ5.out;have:=HK2.out;omega⟩,⟨by (with_reducible repeat (first|apply Kd.R_alloc|apply Kd.R_drewN|apply Kd.R_drew));exact HO_12.out⟩,⟨by (with_reducible repeat (first|apply Kd.R_alloc|apply Kd.R_drewN|apply Kd.R_drew));exact Kd.R_mono HO_39.out (fun _ hk=>trivial)⟩,⟨by (with_reducible repeat (first|refine blk_drewN ?_ _|refine blk_drew ?_|refine blk_alloc ?_ _));exact BK714.out⟩,⟨ya_⟩⟩
        ·rw [if_neg c30] at H;exact absurd H (by simp)
       ·rw [if_neg c29] at H;exact absurd H (by simp)
      ·rw [if_neg c28] at H;have c28b0:decide (x41_2<(t719.length:Int))=false:=decide_eq_false c28;clear c28
       simp only [Option.some.injEq,Prod.mk.injEq] at H
       obtain ⟨rfl,rfl⟩:=H;go_wp2
       go_ret2
       exact ⟨_,y2_,by (with_reducible repeat (first|apply Kd.R_alloc|apply Kd.R_drewN|apply Kd.R_drew));exact HO_12.out,y8_⟩
end Go.Proofs.YtjahbgldccjbfaaGreatDoor.PSky
end
section
namespace Go.Proofs.YtjahbgldccjbfaaGreatDoor.PSky
open Go.RowKit Go.Proofs.YtjahbgldccjbfaaGreatDoorW.PrintWords Go.Proofs.YtjahbgldccjbfaaGreatDoorW.PrintLast Go.Proofs.YtjahbgldccjbfaaGreatDoorW.PrintMore
set_option maxRecDepth 100000 in
theorem try_idle (p:Addr) (w:World):
  CallsD Tryz.prog 133 #[.pointer (some p)] .returning w fun e u' w'=>e=.returned (.tuple #[])∧u'=.returning∧w'=w:=by
 refine callsD_of_wpS Tryz.func133 rfl fun c₀ cs hu=>?_
 simp only [Tryz.ntmps133,List.size_toArray,List.length_cons,List.length_nil,Nat.reduceAdd,Nat.reduceSub,Array.replicate_succ,
   Array.replicate_zero,List.push_toArray,List.append_toArray,List.nil_append,List.cons_append]
 apply wpS_seq
 apply wpS_region
 simp [wpOpsS,go_sem,recoverD,hu,Exit.thenS]
 refine wpS_of_wp ?_
 go_wp2
 cases c₀
 simp_all [bodyPostS,results,Tryz.results133]
set_option maxRecDepth 100000 in
theorem try_panicking (bk:Nat) (x n:Int) (older:List PanicEntry) (w:World) (hc:w.cell? ⟨bk,0,none⟩=some (.int .i64 x)) (hz:w.frozen? ⟨bk,0,none⟩=false):
  CallsD Tryz.prog 133 #[.pointer (some ⟨bk,0,none⟩)] (.panicking ({ v:=.iface 126 (.agg #[.int .i64 n]),recovered:=false } :: older)) w fun e u' w'=>
   e=.returned (.tuple #[])∧u'=.panicking ({ v:=.iface 126 (.agg #[.int .i64 n]),recovered:=true } :: older) ∧
    w'=(w.setCell ⟨bk,0,none⟩ (.int .i64 n)).alloc (.cells #[.int .i64 n] 126):=by
 refine callsD_of_wpS Tryz.func133 rfl fun c₀ cs hu=>?_
 simp only [Tryz.ntmps133,List.size_toArray,List.length_cons,List.length_nil,Nat.reduceAdd,Nat.reduceSub,Array.replicate_succ,
   Array.replicate_zero,List.push_toArray,List.append_toArray,List.nil_append,List.cons_append]
 apply wpS_seq
 apply wpS_region
 simp [wpOpsS,go_sem,recoverD,hu,Exit.thenS]
 refine wpS_of_wp ?_
 have hta:∀ (x:Value) (W:World),(Instr.typeAssert (.iface 126 (.agg #[x])) 20 126 true).run Tryz.prog W=.ok (.tuple #[(.agg #[x]),.bool true]) W:=fun _ _=>by kernel_rfl
 have hlt:bk<w.heap.size:=World.block_lt_of_cell? w ⟨bk,0,none⟩ hc
 have hne:bk≠w.heap.size:=Nat.ne_of_lt hlt
 go_wp2
 cases c₀
 simp_all [bodyPostS,results,Tryz.results133]
set_option maxRecDepth 100000 in
theorem try_done (g:FuncId) (lb:Array Value) (w:World) (R:World→Prop) (hg:∀ W,(callFunc g lb).run Tryz.prog W=.ok (.enter g lb) W)
  (hdo:Calls Tryz.prog g lb (w.alloc (.cells #[.int .i64 0] 30)) fun e w'=>e=.returned (.tuple #[])∧w'.cell? ⟨w.heap.size,0,none⟩=some (.int .i64 0)∧w'.frozen? ⟨w.heap.size,0,none⟩=false∧R w'):
  Calls Tryz.prog 84 #[.func (.func g) #[] lb] w fun e w'=>e=.returned (.int .i64 0)∧∃ w1,R w1∧w'=w1.setCell ⟨w.heap.size,0,none⟩ (.int .i64 0):=by
 have hmf:∀ (fn:Fn) (first cap:Array Value) (w:World),(Instr.makeFunc fn first cap).run Tryz.prog w=.ok (.func fn first cap) w:=fun _ _ _ _=>rfl
 go_enter_defers Tryz.func84,Tryz.ntmps84
 go_wp2_with fail
 refine hdo.mono ?_
 rintro e w1 ⟨rfl,hc,hz,hR⟩
 go_wp2
 refine leaves_cons (f:=133) (args:=#[.pointer (some ⟨w.heap.size,0,none⟩)]) (by simp) (by simp [go_sem]) ?_
 refine (try_idle _ _).mono ?_
 rintro e u' w'' ⟨rfl,rfl,rfl⟩
 simp [Leaves,settle,results,Tryz.results84,go_sem,hc]
 exact ⟨w1,hR,rfl⟩
set_option maxRecDepth 100000 in
theorem try_gaveUp (g:FuncId) (lb:Array Value) (n:Int) (w:World) (R:World→Prop) (hg:∀ W,(callFunc g lb).run Tryz.prog W=.ok (.enter g lb) W)
  (hdo:Calls Tryz.prog g lb (w.alloc (.cells #[.int .i64 0] 30)) fun e w'=>e=.panicked [{ v:=.iface 126 (.agg #[.int .i64 n]),recovered:=false }]∧w'.cell? ⟨w.heap.size,0,none⟩=some (.int .i64 0)∧w'.frozen? ⟨w.heap.size,0,none⟩=false∧R w'):
  Calls Tryz.prog 84 #[.func (.func g) #[] lb] w fun e w'=>e=.returned (.int .i64 n)∧∃ w1,R w1∧w'=(w1.setCell ⟨w.heap.size,0,none⟩ (.int .i64 n)).alloc (.cells #[.int .i64 n] 126):=by
 have hmf:∀ (fn:Fn) (first cap:Array Value) (w:World),(Instr.makeFunc fn first cap).run Tryz.prog w=.ok (.func fn first cap) w:=fun _ _ _ _=>rfl
 go_enter_defers Tryz.func84,Tryz.ntmps84
 go_wp2_with fail
 refine hdo.mono ?_
 rintro e w1 ⟨rfl,hc,hz,hR⟩
 go_wp2
 refine leaves_cons (f:=133) (args:=#[.pointer (some ⟨w.heap.size,0,none⟩)]) (by simp) (by simp [go_sem]) ?_
 refine (try_panicking _ _ _ _ _ hc hz).mono ?_
 rintro e u' w'' ⟨rfl,rfl,rfl⟩
 have hlt:w.heap.size<w1.heap.size:=World.block_lt_of_cell? w1 ⟨w.heap.size,0,none⟩ hc
 have hne:w.heap.size≠w1.heap.size:=Nat.ne_of_lt hlt
 have h1:((w1.setCell ⟨w.heap.size,0,none⟩ (.int .i64 n)).alloc (.cells #[.int .i64 n] 126)).cell? ⟨w.heap.size,0,none⟩=some (.int .i64 n):=by
  rw [World.cell?_alloc_past _ _ _ (by simp;exact hlt)]
  exact World.cell?_setCell_same' _ _ _ (by simp [hc])
 simp [Leaves,settle,results,Tryz.results84,go_sem,h1]
 exact ⟨w1,hR,rfl⟩
end Go.Proofs.YtjahbgldccjbfaaGreatDoor.PSky
end
section
namespace Go.Proofs.YtjahbgldccjbfaaGreatDoor.PSky
open Go.RowKit Go.Proofs.YtjahbgldccjbfaaGreatDoorW.PrintWords Go.Proofs.YtjahbgldccjbfaaGreatDoorW.PrintLast Go.Proofs.YtjahbgldccjbfaaGreatDoorW.PrintMore
def monthNum (l:List S74):Int:=wrap64 (((rd_T74 l 1).f0.f0)*((rd_T74 l 0).f0.f0))
def monthDen (l:List S74):Int:=wrap64 ((wrap64 (((rd_T74 l 1).f0.f1)*((rd_T74 l 0).f0.f0))) - (wrap64 (((rd_T74 l 0).f0.f1)*((rd_T74 l 1).f0.f0))))
set_option maxRecDepth 100000 in
set_option maxHeartbeats 800000 in
theorem Month_c1.calls (A0_0:Option Addr) (c0_0:Nat) (l0_0:List S74) (a0_1 a0_2 a0_3:Int) (r1 r2 x y:Int) (sb nb db:Nat) (w:World)
  (hs:w.heap[sb]?=some (.cells #[.slice A0_0 l0_0.length c0_0,.int .i64 a0_1,.int .i64 a0_2,.int .i64 a0_3] 29 (0,0)))
  (hn:w.heap[nb]?=some (.cells #[.int .i64 x] 3 (0,0))) (hd:w.heap[db]?=some (.cells #[.int .i64 y] 3 (0,0))) (hne:nb≠db)
  (hr0_0:Kd.C k74 w A0_0 l0_0.length l0_0) (hc0_0:l0_0.length≤c0_0) (h:sky_month.f l0_0 a0_1 a0_2 a0_3=some (r1,r2)):
  Calls Tryz.prog 85 #[.pointer (some ⟨sb,0,none⟩),.pointer (some ⟨nb,0,none⟩),.pointer (some ⟨db,0,none⟩)] w fun e w'=>e=.returned (.tuple #[])∧∃ w1,Below w.heap.size w w1∧w'=(w1.setCell ⟨nb,0,none⟩ (.int .i64 r1)).setCell ⟨db,0,none⟩ (.int .i64 r2):=by
 have HR:=A0_ hr0_0;have HC:=A0_ hc0_0;have HF:=A0_ h
 have x0:=blk_cell hs 0
 have x1:=blk_cell hs 1
 have x2:=blk_cell hs 2
 have x3:=blk_cell hs 3
 simp at x0 x1 x2 x3
 have HN:=A0_ hn;have HD:=A0_ hd;clear hr0_0 hc0_0 h hn hd hs
 have hne':=hne.symm
 go_enter Tryz.func85,Tryz.ntmps85
 go_wp2_with fail
 refine (sky_month.calls A0_0 c0_0 l0_0 a0_1 a0_2 a0_3 r1 r2 _ HR.out HC.out HF.out).mono ?_
 rintro e w1 ⟨rfl,hb⟩
 have y0:=blk_cell (blk_below HN.out hb) 0
 have y1:=blk_frozen (blk_below HN.out hb) 0
 have z0:=blk_cell (blk_below HD.out hb) 0
 have z1:=blk_frozen (blk_below HD.out hb) 0
 simp at y0 z0 y1 z1
 go_wp2_with fail
 go_end0
 exact ⟨rfl,w1,hb,rfl⟩
set_option maxRecDepth 100000 in
set_option maxHeartbeats 800000 in
theorem Month_c1.gaveUp (A0_0:Option Addr) (c0_0:Nat) (l0_0:List S74) (a0_1 a0_2 a0_3:Int) (sb nb db:Nat) (w:World)
  (hs:w.heap[sb]?=some (.cells #[.slice A0_0 l0_0.length c0_0,.int .i64 a0_1,.int .i64 a0_2,.int .i64 a0_3] 29 (0,0)))
  (hr0_0:Kd.C k74 w A0_0 l0_0.length l0_0) (hc0_0:l0_0.length≤c0_0) (h2:1<(l0_0.length:Int)) (h:monthDen l0_0≤0):
  Calls Tryz.prog 85 #[.pointer (some ⟨sb,0,none⟩),.pointer (some ⟨nb,0,none⟩),.pointer (some ⟨db,0,none⟩)] w fun e w'=>e=.panicked [{ v:=.iface 126 (.agg #[.int .i64 7]),recovered:=false }]∧Below w.heap.size w w':=by
 have HR:=A0_ hr0_0;have HC:=A0_ hc0_0
 have x0:=blk_cell hs 0
 have x1:=blk_cell hs 1
 have x2:=blk_cell hs 2
 have x3:=blk_cell hs 3
 simp at x0 x1 x2 x3
 clear hr0_0 hc0_0 hs
 go_enter Tryz.func85,Tryz.ntmps85
 go_wp2_with fail
 refine (sky_month.gaveUp A0_0 c0_0 l0_0 a0_1 a0_2 a0_3 _ HR.out HC.out h2 h).mono ?_
 rintro e w1 ⟨rfl,hb⟩
 exact ⟨rfl,rfl,hb⟩
theorem sky_month_some {l:List S74} {a1 a2 a3:Int} (h2:1<(l.length:Int)) (h:¬ monthDen l≤0):sky_month.f l a1 a2 a3=some (monthNum l,monthDen l):=by
 unfold sky_month.f
 rw [if_pos (by omega),if_pos h2]
 exact if_neg h
def sky_Month.f (k:Nat) (l:List S74) (a1 a2 a3:Int):Option (Int × Int × Int):=
 (sky_isSky.f k l a1 a2 a3).bind fun b=>if b=true then (if 1<(l.length:Int) then (if monthDen l≤0 then some (0,0,7) else (sky_gcd.f k (monthNum l) (monthDen l)).bind fun g=>if g=0 then none else some (wrap64 ((monthNum l).tdiv g),wrap64 ((monthDen l).tdiv g),0)) else none) else some (0,0,2)
set_option maxRecDepth 100000 in
set_option maxHeartbeats 1600000 in
theorem sky_Month.calls (k:Nat) (A0_0:Option Addr) (c0_0:Nat) (l0_0:List S74) (a0_1 a0_2 a0_3 r1 r2 r3:Int) (w:World)
  (hr0_0:Kd.C k74 w A0_0 l0_0.length l0_0) (hc0_0:l0_0.length≤c0_0) (h:sky_Month.f k l0_0 a0_1 a0_2 a0_3=some (r1,r2,r3)):
  Calls Tryz.prog 32 #[.agg #[.slice A0_0 l0_0.length c0_0,.int .i64 a0_1,.int .i64 a0_2,.int .i64 a0_3]] w fun e w'=>e=.returned (.tuple #[.int .i64 r1,.int .i64 r2,.int .i64 r3])∧Below w.heap.size w w':=by
 have HR:=A0_ hr0_0;have HC:=A0_ hc0_0;clear hr0_0 hc0_0
 have hmf:∀ (fn:Fn) (first cap:Array Value) (w:World),(Instr.makeFunc fn first cap).run Tryz.prog w=.ok (.func fn first cap) w:=fun _ _ _ _=>rfl
 have hcf:∀ (args:Array Value) (W:World),(callFunc 85 args).run Tryz.prog W=.ok (.enter 85 args) W:=fun _ _=>rfl
 obtain ⟨b,hb0,h1⟩:=Option.bind_eq_some_iff.mp h
 have HB0:=A0_ hb0;clear h hb0
 go_enter Tryz.func32,Tryz.ntmps32
 go_wp2_with fail
 refine (sky_isSky.calls k A0_0 c0_0 l0_0 a0_1 a0_2 a0_3 b _ ?hC HC.out HB0.out).mono ?_
 case hC=>exact Kd.C_alloc HR.out _
 rintro e w1 ⟨rfl,hb⟩
 have HS:=A0_ (blk_below (blk_new w (.cells #[.slice A0_0 l0_0.length c0_0,.int .i64 a0_1,.int .i64 a0_2,.int .i64 a0_3] 29)) hb)
 have HB:=A0_ (below_step (below_alloc (Below.refl _ _) _) hb)
 clear hb
 cases b with
 |false=>
  obtain ⟨rfl,rfl,rfl⟩:(0:Int)=r1∧(0:Int)=r2∧(2:Int)=r3:=by simpa using h1
  go_wp2
  go_ret3
  exact ⟨rfl,HB.out⟩
 |true=>
 have hl:1<(l0_0.length:Int):=by
  by_cases c:1<(l0_0.length:Int)
  ·exact c
  ·simp [c] at h1
 rw [if_pos rfl,if_pos hl] at h1
 go_wp2_with fail
 have hs1:=blk_alloc (blk_alloc (blk_alloc HS.out (.cells #[.int .i64 0] 3)) (.cells #[.int .i64 1] 3)) (.cells #[.int .i64 0] 30)
 have hn1:=blk_alloc (blk_alloc (blk_new w1 (.cells #[.int .i64 0] 3)) (.cells #[.int .i64 1] 3)) (.cells #[.int .i64 0] 30)
 have hd1:=blk_alloc (blk_new (w1.alloc (.cells #[.int .i64 0] 3)) (.cells #[.int .i64 1] 3)) (.cells #[.int .i64 0] 30)
 have he1:=blk_new ((w1.alloc (.cells #[.int .i64 0] 3)).alloc (.cells #[.int .i64 1] 3)) (.cells #[.int .i64 0] 30)
 have hC1:=Kd.C_below HR.out (below_alloc (below_alloc (below_alloc HB.out (.cells #[.int .i64 0] 3)) (.cells #[.int .i64 1] 3)) (.cells #[.int .i64 0] 30))
 have HB1:=A0_ (below_alloc (below_alloc (below_alloc HB.out (.cells #[.int .i64 0] 3)) (.cells #[.int .i64 1] 3)) (.cells #[.int .i64 0] 30))
 simp only [World.size_alloc] at hd1 he1
 have hsz:=blk_lt HS.out
 have hle:=HB.out.size
 by_cases hden:monthDen l0_0≤0
 ·obtain ⟨rfl,rfl,rfl⟩:(0:Int)=r1∧(0:Int)=r2∧(7:Int)=r3:=by simpa [hden] using h1
  refine (try_gaveUp _ _ 7 _ (fun w'=>Below w.heap.size w w') (hcf _) ((Month_c1.gaveUp A0_0 c0_0 l0_0 a0_1 a0_2 a0_3 _ _ _ _ hs1 hC1 HC.out hl hden).mono ?_)).mono ?_
  ·rintro e w2 ⟨rfl,hb⟩
   simp only [World.size_alloc]
   refine ⟨trivial,?_,?_,below_step HB1.out hb⟩
   ·exact (blk_cell (blk_below he1 hb) 0).trans rfl
   ·exact blk_frozen (blk_below he1 hb) 0
  rintro e w2 ⟨rfl,w3,hb,rfl⟩
  go_wp2_with fail
  go_ret3
  refine ⟨rfl,?_⟩
  exact below_alloc (below_set hb y32_) _
 ·rw [if_neg hden] at h1
  obtain ⟨g,hg0,h2⟩:=Option.bind_eq_some_iff.mp h1
  have HG:=A0_ hg0;clear hg0 h1
  by_cases hgz:g=0
  ·simp [hgz] at h2
  rw [if_neg hgz] at h2
  obtain ⟨rfl,rfl,rfl⟩:wrap64 ((monthNum l0_0).tdiv g)=r1∧wrap64 ((monthDen l0_0).tdiv g)=r2∧(0:Int)=r3:=by simpa using h2
  refine (try_done _ _ _ (fun w'=>Below w.heap.size w w'∧w'.heap[w1.heap.size]?=some (.cells #[.int .i64 (monthNum l0_0)] 3 (0,0))∧w'.heap[w1.heap.size+1]?=some (.cells #[.int .i64 (monthDen l0_0)] 3 (0,0))) (hcf _) ((Month_c1.calls A0_0 c0_0 l0_0 a0_1 a0_2 a0_3 _ _ _ _ _ _ _ _ hs1 hn1 hd1 (by omega) hC1 HC.out (sky_month_some hl hden)).mono ?_)).mono ?_
  ·rintro e w2 ⟨rfl,w3,hb,rfl⟩
   simp only [World.size_alloc]
   have q:=blk_far (p:=⟨w1.heap.size+1,0,none⟩) (blk_far (p:=⟨w1.heap.size,0,none⟩) (blk_below he1 hb) (by simp;omega) (.int .i64 (monthNum l0_0))) (by simp) (.int .i64 (monthDen l0_0))
   refine ⟨trivial,?_,?_,below_set (below_set (below_step HB1.out hb) (by omega)) (by omega),?_,?_⟩
   ·exact (blk_cell q 0).trans rfl
   ·exact blk_frozen q 0
   ·exact blk_far (blk_set (blk_below hn1 hb) 0 _) (by simp) _
   ·exact blk_set (blk_far (blk_below hd1 hb) (by simp) _) 0 _
  rintro e w2 ⟨rfl,w3,⟨hb,hn3,hd3⟩,rfl⟩
  have hn4:=blk_far (p:=⟨w1.heap.size+2,0,none⟩) hn3 (by simp) (.int .i64 0)
  have hd4:=blk_far (p:=⟨w1.heap.size+2,0,none⟩) hd3 (by simp) (.int .i64 0)
  have hb4:=below_set (g:=w1.heap.size+2) (j:=0) (v:=.int .i64 0) hb (by omega)
  simp only [World.size_alloc] at hn4 hd4 hb4 ⊢
  have y0:=blk_cell hn4 0
  have z0:=blk_cell hd4 0
  simp at y0 z0
  have HB4:=A0_ hb4;have HN4:=A0_ hn4;have HD4:=A0_ hd4;clear hn3 hd3 hb hb4 hs1 hn1 hd1 he1 hC1
  go_wp2_with fail
  refine (sky_gcd.calls k _ _ g _ HG.out).mono ?_
  rintro e w5 ⟨rfl,⟨nd,rfl⟩⟩
  have HB5:=A0_ (pw_below_drewN HB4.out nd)
  have HN5:=A0_ (blk_drewN HN4.out nd)
  have HD5:=A0_ (blk_drewN HD4.out nd)
  generalize ((w3.setCell ⟨w1.heap.size+1+1,0,none⟩ (.int .i64 0)).drewN nd)=w6 at HB5 HN5 HD5 ⊢
  have y1:=blk_cell HN5.out 0
  have z1:=blk_cell HD5.out 0
  simp at y1 z1
  go_wp2
  have hg2:(g == 0)=false:=beq_eq_false_iff_ne.mpr hgz
  have hg3:(g != 0)=true:=bne_iff_ne.mpr hgz
  repeat (go_quiet (fail);try go_wp2)
  go_ret3
  exact ⟨rfl,pw_below_drewN HB5.out _⟩
end Go.Proofs.YtjahbgldccjbfaaGreatDoor.PSky
end
section
namespace Go.Proofs.YtjahbgldccjbfaaGreatDoor.PSky
open Go.RowKit Go.Proofs.YtjahbgldccjbfaaGreatDoorW.PrintWords Go.Proofs.YtjahbgldccjbfaaGreatDoorW.PrintLast Go.Proofs.YtjahbgldccjbfaaGreatDoorW.PrintMore
set_option maxRecDepth 100000 in
set_option maxHeartbeats 800000 in
theorem sky_drift.gaveUp (A0_0:Option Addr) (c0_0:Nat) (l0_0:List S74) (a0_1 a0_2 a0_3 a1:Int) (w:World)
  (hr0_0:Kd.C k74 w A0_0 l0_0.length l0_0) (hc0_0:l0_0.length≤c0_0) (h2:1<(l0_0.length:Int)) (h:monthDen l0_0≤0):
  Calls Tryz.prog 90 #[.agg #[.slice A0_0 l0_0.length c0_0,.int .i64 a0_1,.int .i64 a0_2,.int .i64 a0_3],.int .i64 a1] w fun e w'=>e=.panicked [{ v:=.iface 126 (.agg #[.int .i64 7]),recovered:=false }]∧Below w.heap.size w w':=by
 have HR:=A0_ hr0_0;have HC:=A0_ hc0_0;clear hr0_0 hc0_0
 go_enter Tryz.func90,Tryz.ntmps90
 go_wp2_with fail
 refine (sky_month.gaveUp A0_0 c0_0 l0_0 a0_1 a0_2 a0_3 _ ?hC HC.out h2 h).mono ?_
 case hC=>exact Kd.C_alloc HR.out _
 rintro e w1 ⟨rfl,hb⟩
 exact ⟨rfl,rfl,below_step (below_alloc (Below.refl _ _) _) hb⟩
def cycleFrom (D:Int→Option Int) (limit:Int):Nat→Int→Option (Option Int)
 |0,_=>some none
 |m+1,n=>(D n).bind fun d=>if d≤limit then some (some n) else cycleFrom D limit m (n+1)
def CycleEnds (nb:Nat):Option Int→Ending→World→Prop
 |some n,e,w'=>e=.returned (.tuple #[])∧w'.heap[nb]?=some (.cells #[.int .i64 n] 3 (0,0))
 |none,e,_=>e=.panicked [{ v:=.iface 126 (.agg #[.int .i64 5]),recovered:=false }]
set_option maxRecDepth 100000 in
set_option maxHeartbeats 1600000 in
theorem Cycle_c1.calls (A0_0:Option Addr) (c0_0:Nat) (l0_0:List S74) (a0_1 a0_2 a0_3 limit x:Int) (res:Option Int) (nb sb lb eb:Nat) (W0 w:World)
  (hs:w.heap[sb]?=some (.cells #[.slice A0_0 l0_0.length c0_0,.int .i64 a0_1,.int .i64 a0_2,.int .i64 a0_3] 29 (0,0)))
  (hl:w.heap[lb]?=some (.cells #[.int .i64 limit] 3 (0,0))) (hn:w.heap[nb]?=some (.cells #[.int .i64 x] 3 (0,0)))
  (he:w.heap[eb]?=some (.cells #[.int .i64 0] 30 (0,0))) (hW0:Below W0.heap.size W0 w) (hnb:W0.heap.size≤nb)
  (hns:nb≠sb) (hnl:nb≠lb) (hnee:nb≠eb)
  (hr0_0:Kd.C k74 W0 A0_0 l0_0.length l0_0) (hc0_0:l0_0.length≤c0_0) (h:cycleFrom (fun n=>sky_drift.f l0_0 a0_1 a0_2 a0_3 n) limit 400 1=some res):
  Calls Tryz.prog 92 #[.pointer (some ⟨nb,0,none⟩),.pointer (some ⟨sb,0,none⟩),.pointer (some ⟨lb,0,none⟩)] w fun e w'=>
   CycleEnds nb res e w' ∧
   w'.heap[eb]?=some (.cells #[.int .i64 0] 30 (0,0))∧Below W0.heap.size W0 w':=by
 have HR:=A0_ hr0_0;have HC:=A0_ hc0_0;have HF:=A0_ h
 have y0:=blk_cell hn 0
 have y1:=blk_frozen hn 0
 simp at y0 y1
 have HS:=A0_ (blk_far (p:=⟨nb,0,none⟩) hs hns.symm (.int .i64 1))
 have HL:=A0_ (blk_far (p:=⟨nb,0,none⟩) hl hnl.symm (.int .i64 1))
 have HE:=A0_ (blk_far (p:=⟨nb,0,none⟩) he hnee.symm (.int .i64 1))
 have HN:=A0_ (blk_set hn 0 (.int .i64 1))
 have HW:=A0_ (below_set (j:=0) (v:=.int .i64 1) hW0 hnb)
 have HNS:=A0_ hns;have HNL:=A0_ hnl;have HNE:=A0_ hnee;have HNB:=A0_ hnb;clear hr0_0 hc0_0 h hn hs hl he hW0 hns hnl hnee hnb
 go_enter Tryz.func92,Tryz.ntmps92
 go_wp2
 go_loopg [] 401 (fun kq w'=>∃ (n:Int),(kq:Int)+n=402∧1≤n∧n≤401∧Aside0 (cycleFrom (fun n=>sky_drift.f l0_0 a0_1 a0_2 a0_3 n) limit (kq - 1) n=some res)
  ∧ Aside0 (w'.heap[sb]?=some (.cells #[.slice A0_0 l0_0.length c0_0,.int .i64 a0_1,.int .i64 a0_2,.int .i64 a0_3] 29 (0,0)))∧Aside0 (w'.heap[lb]?=some (.cells #[.int .i64 limit] 3 (0,0)))
  ∧ Aside0 (w'.heap[nb]?=some (.cells #[.int .i64 n] 3 (0,0)))∧Aside0 (w'.heap[eb]?=some (.cells #[.int .i64 0] 30 (0,0)))∧Aside0 (Below W0.heap.size W0 w'))
 case atStart=>exact ⟨(1:Int),rfl,by decide,by decide,HF,HS,HL,HN,HE,HW⟩
 case round=>
  obtain ⟨n,hkn,hn1,hn2,HF1,HS1,HL1,HN1,HE1,HW1⟩:=hrel
  clear HF HS HL HN HE HW y0 y1
  have x0:=blk_cell HS1.out 0
  have x1:=blk_cell HS1.out 1
  have x2:=blk_cell HS1.out 2
  have x3:=blk_cell HS1.out 3
  have x4:=blk_cell HL1.out 0
  have x5:=blk_cell HN1.out 0
  simp at x0 x1 x2 x3 x4 x5
  by_cases c4:n≤400
  ·have c4b0:decide (n≤400)=true:=decide_eq_true c4
   obtain ⟨m,rfl⟩:∃ m,gk=m+2:=⟨gk - 2,by omega⟩
   have hF:=HF1.out
   simp only [Nat.add_succ_sub_one,cycleFrom] at hF
   obtain ⟨d,hd0,hF2⟩:=Option.bind_eq_some_iff.mp hF
   have HD:=A0_ hd0;clear hF hd0 HF1
   by_cases c5:d≤limit
   ·have c5b0:decide (d≤limit)=true:=decide_eq_true c5
    rw [if_pos c5] at hF2
    clear c5
    obtain rfl:=Option.some.inj hF2
    go_wp2
    go_region_law ((go_simp;go_at_call 90;refine (sky_drift.calls A0_0 c0_0 l0_0 a0_1 a0_2 a0_3 n d _ (by first|exact Kd.C_below HR.out HW1.out|exact Kd.C_below HR.out (below_drew1 HW1.out)) HC.out HD.out).mono ?_;rintro e w2 ⟨rfl,hb⟩;have x4':=blk_cell (blk_below (blk_drew HL1.out) hb) 0;simp at x4';have HN2:=A0_ (blk_below (blk_drew HN1.out) hb);have HE2:=A0_ (blk_below (blk_drew HE1.out) hb);have HW2:=A0_ (below_step (below_drew1 HW1.out) hb);clear hb))
    all_goals go_wp2
    all_goals (try simp only [Exit.inBlock,Exit.then])
    all_goals refine bodyPost_ret (results_none rfl _ _ _) rfl ?_
    all_goals exact ⟨⟨rfl,HN2.out⟩,HE2.out,HW2.out⟩
   ·have c5b0:decide (d≤limit)=false:=decide_eq_false c5
    rw [if_neg c5] at hF2
    clear c5;have HF2:=A0_ hF2;clear hF2
    have hw1:wrap64 (n+1)=n+1:=by unfold wrap64;omega
    go_wp2
    go_region_law ((go_simp;go_at_call 90;refine (sky_drift.calls A0_0 c0_0 l0_0 a0_1 a0_2 a0_3 n d _ (by first|exact Kd.C_below HR.out HW1.out|exact Kd.C_below HR.out (below_drew1 HW1.out)) HC.out HD.out).mono ?_;rintro e w2 ⟨rfl,hb⟩;have x4':=blk_cell (blk_below (blk_drew HL1.out) hb) 0;simp at x4';have HN2:=A0_ (blk_below (blk_drew HN1.out) hb);have HE2:=A0_ (blk_below (blk_drew HE1.out) hb);have HW2:=A0_ (below_step (below_drew1 HW1.out) hb);have HS2:=A0_ (blk_below (blk_drew HS1.out) hb);have HL2:=A0_ (blk_below (blk_drew HL1.out) hb);have x6:=blk_cell HN2.out 0;have x7:=blk_frozen HN2.out 0;simp at x6 x7;clear hb))
    all_goals go_wp2
    all_goals go_roundg (m+1)
    all_goals first
     |omega
     |exact ⟨n+1,by omega,by omega,by omega,HF2,⟨blk_far HS2.out HNS.out.symm _⟩,⟨blk_far HL2.out HNL.out.symm _⟩,⟨blk_set HN2.out 0 _⟩,⟨blk_far HE2.out HNE.out.symm _⟩,⟨below_set HW2.out HNB.out⟩⟩
  ·have c4b0:decide (n≤400)=false:=decide_eq_false c4
   obtain rfl:gk=1:=by omega
   have hF:=HF1.out
   simp only [Nat.sub_self,cycleFrom] at hF
   obtain rfl:=Option.some.inj hF
   go_wp2
   exact ⟨rfl,rfl,HE1.out,HW1.out⟩
set_option maxRecDepth 100000 in
set_option maxHeartbeats 800000 in
theorem Cycle_c1.gaveUp (A0_0:Option Addr) (c0_0:Nat) (l0_0:List S74) (a0_1 a0_2 a0_3 limit x:Int) (nb sb lb eb:Nat) (W0 w:World)
  (hs:w.heap[sb]?=some (.cells #[.slice A0_0 l0_0.length c0_0,.int .i64 a0_1,.int .i64 a0_2,.int .i64 a0_3] 29 (0,0)))
  (hl:w.heap[lb]?=some (.cells #[.int .i64 limit] 3 (0,0))) (hnl:nb≠lb)
  (hn:w.heap[nb]?=some (.cells #[.int .i64 x] 3 (0,0))) (he:w.heap[eb]?=some (.cells #[.int .i64 0] 30 (0,0)))
  (hW0:Below W0.heap.size W0 w) (hnb:W0.heap.size≤nb) (hns:nb≠sb) (hnee:nb≠eb)
  (hr0_0:Kd.C k74 W0 A0_0 l0_0.length l0_0) (hc0_0:l0_0.length≤c0_0) (h2:1<(l0_0.length:Int)) (h:monthDen l0_0≤0):
  Calls Tryz.prog 92 #[.pointer (some ⟨nb,0,none⟩),.pointer (some ⟨sb,0,none⟩),.pointer (some ⟨lb,0,none⟩)] w fun e w'=>e=.panicked [{ v:=.iface 126 (.agg #[.int .i64 7]),recovered:=false }]∧w'.heap[eb]?=some (.cells #[.int .i64 0] 30 (0,0))∧Below W0.heap.size W0 w':=by
 have HR:=A0_ hr0_0;have HC:=A0_ hc0_0
 have y0:=blk_cell hn 0
 have y1:=blk_frozen hn 0
 simp at y0 y1
 have HS:=A0_ (blk_far (p:=⟨nb,0,none⟩) hs hns.symm (.int .i64 1))
 have HL:=A0_ (blk_far (p:=⟨nb,0,none⟩) hl hnl.symm (.int .i64 1))
 have HN:=A0_ (blk_set hn 0 (.int .i64 1))
 have HE:=A0_ (blk_far (p:=⟨nb,0,none⟩) he hnee.symm (.int .i64 1))
 have HW:=A0_ (below_set (j:=0) (v:=.int .i64 1) hW0 hnb)
 clear hr0_0 hc0_0 hn hs he hW0 hns hnee hnb
 go_enter Tryz.func92,Tryz.ntmps92
 go_wp2
 generalize w.setCell ⟨nb,0,none⟩ (.int .i64 1)=w1 at HS HL HN HE HW ⊢
 have x0:=blk_cell HS.out 0
 have x1:=blk_cell HS.out 1
 have x2:=blk_cell HS.out 2
 have x3:=blk_cell HS.out 3
 have x4:=blk_cell HL.out 0
 have x5:=blk_cell HN.out 0
 simp at x0 x1 x2 x3 x4 x5
 refine wp_loop_rounds 1 ?_
 rw [rounds_succ]
 go_wp2
 refine start_ (n:=5) (S:=fun w'=>w'.cell? ⟨sb,0,none⟩=some (.slice A0_0 l0_0.length c0_0)∧w'.cell? ⟨sb,1,none⟩=some (.int .i64 a0_1)∧w'.cell? ⟨sb,2,none⟩=some (.int .i64 a0_2)∧w'.cell? ⟨sb,3,none⟩=some (.int .i64 a0_3)∧w'.cell? ⟨nb,0,none⟩=some (.int .i64 1)∧w'.cell? ⟨lb,0,none⟩=some (.int .i64 limit)) (ds:=[]) #[false,false,false,false,false] (by kernel_rfl) rfl rfl ⟨x0,x1,x2,x3,x5,x4⟩ (fun hHeld=>?_)
 refine take_ (i:=0) (N:=some 7) (v:=?_) (a':=?_) #[true,false,false,false,false] rfl rfl (by kernel_rfl) (fun _ _ _ h=>h) (Or.inl ⟨by rfl,?_⟩) hHeld ?_ ?_
 rotate_left
 ·rintro w' ⟨s0,s1,s2,s3,s4,s5⟩
  go_simp
  with_reducible rfl
 rotate_left
 ·simp only [Act.put,List.setIfInBounds_toArray,List.set_cons_zero,List.set_cons_succ]
  rfl
 refine take_ (i:=1) (N:=some 8) (v:=?_) (a':=?_) #[true,true,false,false,false] rfl rfl (by kernel_rfl) (fun _ _ _ h=>h) (Or.inl ⟨by rfl,?_⟩) hHeld ?_ ?_
 rotate_left
 ·rintro w' ⟨s0,s1,s2,s3,s4,s5⟩
  go_simp
  with_reducible rfl
 rotate_left
 ·simp only [Act.put,List.setIfInBounds_toArray,List.set_cons_zero,List.set_cons_succ]
  rfl
 refine take_ (i:=3) (N:=some 10) (v:=?_) (a':=?_) #[true,true,false,true,false] rfl rfl (by kernel_rfl) (fun _ _ _ h=>h) (Or.inl ⟨by rfl,?_⟩) hHeld ?_ ?_
 rotate_left
 ·rintro w' ⟨s0,s1,s2,s3,s4,s5⟩
  go_simp
  with_reducible rfl
 rotate_left
 ·simp only [Act.put,List.setIfInBounds_toArray,List.set_cons_zero,List.set_cons_succ]
  rfl
 refine one_ (i:=2) (N:=some 9) #[true,true,true,true,false] rfl rfl (by kernel_rfl) (by decide) (fun K hK=>?_)
 go_simp
 refine (sky_drift.gaveUp A0_0 c0_0 l0_0 a0_1 a0_2 a0_3 1 _ (Kd.C_below HR.out (below_drew1 HW.out)) HC.out h2 h).mono ?_
 rintro e w2 ⟨rfl,hb⟩
 exact ⟨rfl,rfl,blk_below (blk_drew HE.out) hb,below_step (below_drew1 HW.out) hb⟩
def sky_Cycle.f (k:Nat) (l:List S74) (a1 a2 a3 m:Int):Option (Int × Int):=
 (sky_isSky.f k l a1 a2 a3).bind fun b=>if b=true then (sky_isLimit.f m).bind fun b2=>if b2=true then (if 1<(l.length:Int) then (if monthDen l≤0 then some (0,7) else (cycleFrom (fun n=>sky_drift.f l a1 a2 a3 n) m 400 1).bind fun r=>match r with|some n=>some (n,0)|none=>some (0,5)) else none) else some (0,2) else some (0,2)
set_option maxRecDepth 100000 in
set_option maxHeartbeats 1600000 in
theorem sky_Cycle.calls (k:Nat) (A0_0:Option Addr) (c0_0:Nat) (l0_0:List S74) (a0_1 a0_2 a0_3 a1 r1 r2:Int) (w:World)
  (hr0_0:Kd.C k74 w A0_0 l0_0.length l0_0) (hc0_0:l0_0.length≤c0_0) (h:sky_Cycle.f k l0_0 a0_1 a0_2 a0_3 a1=some (r1,r2)):
  Calls Tryz.prog 34 #[.agg #[.slice A0_0 l0_0.length c0_0,.int .i64 a0_1,.int .i64 a0_2,.int .i64 a0_3],.int .i64 a1] w fun e w'=>e=.returned (.tuple #[.int .i64 r1,.int .i64 r2])∧Below w.heap.size w w':=by
 have HR:=A0_ hr0_0;have HC:=A0_ hc0_0;clear hr0_0 hc0_0
 have hmf:∀ (fn:Fn) (first cap:Array Value) (w:World),(Instr.makeFunc fn first cap).run Tryz.prog w=.ok (.func fn first cap) w:=fun _ _ _ _=>rfl
 have hcf:∀ (args:Array Value) (W:World),(callFunc 92 args).run Tryz.prog W=.ok (.enter 92 args) W:=fun _ _=>rfl
 obtain ⟨b,hb0,h1⟩:=Option.bind_eq_some_iff.mp h
 have HB0:=A0_ hb0;clear h hb0
 go_enter Tryz.func34,Tryz.ntmps34
 go_wp2_with fail
 refine (sky_isSky.calls k A0_0 c0_0 l0_0 a0_1 a0_2 a0_3 b _ ?hC HC.out HB0.out).mono ?_
 case hC=>exact Kd.C_alloc (Kd.C_alloc HR.out _) _
 rintro e w1 ⟨rfl,hb⟩
 have HS:=A0_ (blk_below (blk_alloc (blk_new w (.cells #[.slice A0_0 l0_0.length c0_0,.int .i64 a0_1,.int .i64 a0_2,.int .i64 a0_3] 29)) (.cells #[.int .i64 a1] 3)) hb)
 have HM:=A0_ (blk_below (blk_new (w.alloc (.cells #[.slice A0_0 l0_0.length c0_0,.int .i64 a0_1,.int .i64 a0_2,.int .i64 a0_3] 29)) (.cells #[.int .i64 a1] 3)) hb)
 simp only [World.size_alloc] at HM
 have HB:=A0_ (below_step (below_alloc (below_alloc (Below.refl _ _) _) _) hb)
 clear hb
 cases b with
 |false=>
  obtain ⟨rfl,rfl⟩:(0:Int)=r1∧(2:Int)=r2:=by simpa using h1
  go_wp2
  go_ret2
  exact ⟨rfl,HB.out⟩
 |true=>
 obtain ⟨b2,hb2,h2⟩:=Option.bind_eq_some_iff.mp (show ((sky_isLimit.f a1).bind _)=some (r1,r2) from by simpa using h1)
 have HB2:=A0_ hb2;clear h1 hb2
 have m0:=blk_cell HM.out 0
 simp at m0
 go_wp2_with fail
 refine (sky_isLimit.calls a1 b2 _ HB2.out).mono ?_
 rintro e w2 ⟨rfl,⟨nd,rfl⟩⟩
 clear m0
 have HS2:=A0_ (blk_drewN HS.out nd)
 have HM2:=A0_ (blk_drewN HM.out nd)
 have HBB:=A0_ (pw_below_drewN HB.out nd)
 clear HS HM HB
 generalize w1.drewN nd=w3 at HS2 HM2 HBB ⊢
 cases b2 with
 |false=>
  obtain ⟨rfl,rfl⟩:(0:Int)=r1∧(2:Int)=r2:=by simpa using h2
  go_wp2
  go_ret2
  exact ⟨rfl,HBB.out⟩
 |true=>
 have hl:1<(l0_0.length:Int):=by
  by_cases c:1<(l0_0.length:Int)
  ·exact c
  ·simp [c] at h2
 rw [if_pos rfl,if_pos hl] at h2
 go_wp2_with fail
 have hs1:=blk_alloc (blk_alloc HS2.out (.cells #[.int .i64 0] 3)) (.cells #[.int .i64 0] 30)
 have hm1:=blk_alloc (blk_alloc HM2.out (.cells #[.int .i64 0] 3)) (.cells #[.int .i64 0] 30)
 have hn1:=blk_alloc (blk_new w3 (.cells #[.int .i64 0] 3)) (.cells #[.int .i64 0] 30)
 have he1:=blk_new (w3.alloc (.cells #[.int .i64 0] 3)) (.cells #[.int .i64 0] 30)
 have hC1:=Kd.C_below HR.out (below_alloc (below_alloc HBB.out (.cells #[.int .i64 0] 3)) (.cells #[.int .i64 0] 30))
 have HB1:=A0_ (below_alloc (below_alloc HBB.out (.cells #[.int .i64 0] 3)) (.cells #[.int .i64 0] 30))
 simp only [World.size_alloc] at he1
 have hle:=HBB.out.size
 have hlt:=blk_lt HM2.out
 by_cases hden:monthDen l0_0≤0
 ·obtain ⟨rfl,rfl⟩:(0:Int)=r1∧(7:Int)=r2:=by simpa [hden] using h2
  refine (try_gaveUp _ _ 7 _ (fun w'=>Below w.heap.size w w') (hcf _) ((Cycle_c1.gaveUp A0_0 c0_0 l0_0 a0_1 a0_2 a0_3 _ _ _ _ _ _ _ _ hs1 hm1 (by omega) hn1 he1 HB1.out hle (by omega) (by omega) HR.out HC.out hl hden).mono ?_)).mono ?_
  ·rintro e w4 ⟨rfl,he4,hb⟩
   simp only [World.size_alloc]
   exact ⟨trivial,(blk_cell he4 0).trans rfl,blk_frozen he4 0,hb⟩
  rintro e w4 ⟨rfl,w5,hb,rfl⟩
  go_wp2_with fail
  go_ret2
  refine ⟨rfl,?_⟩
  exact below_alloc (below_set hb y32_) _
 ·rw [if_neg hden] at h2
  obtain ⟨res,hres0,h3⟩:=Option.bind_eq_some_iff.mp h2
  have hcc:=Cycle_c1.calls A0_0 c0_0 l0_0 a0_1 a0_2 a0_3 a1 0 res w3.heap.size w.heap.size (w.heap.size+1) (w3.heap.size+1) w _ hs1 hm1 hn1 he1 HB1.out hle (by omega) (by omega) (by omega) HR.out HC.out hres0
  cases res with
  |none=>
   obtain ⟨rfl,rfl⟩:(0:Int)=r1∧(5:Int)=r2:=by simpa using h3
   refine (try_gaveUp _ _ 5 _ (fun w'=>Below w.heap.size w w') (hcf _) (hcc.mono ?_)).mono ?_
   ·rintro e w4 ⟨rfl,he4,hb4⟩
    simp only [World.size_alloc]
    exact ⟨trivial,(blk_cell he4 0).trans rfl,blk_frozen he4 0,hb4⟩
   rintro e w4 ⟨rfl,w5,hb,rfl⟩
   go_wp2_with fail
   go_ret2
   refine ⟨rfl,?_⟩
   exact below_alloc (below_set hb y32_) _
  |some d=>
   obtain ⟨rfl,rfl⟩:d=r1∧(0:Int)=r2:=by simpa using h3
   refine (try_done _ _ _ (fun w'=>Below w.heap.size w w'∧w'.heap[w3.heap.size]?=some (.cells #[.int .i64 d] 3 (0,0))) (hcf _) (hcc.mono ?_)).mono ?_
   ·rintro e w4 ⟨⟨rfl,hn4⟩,he4,hb4⟩
    simp only [World.size_alloc]
    exact ⟨trivial,(blk_cell he4 0).trans rfl,blk_frozen he4 0,hb4,hn4⟩
   rintro e w4 ⟨rfl,w5,⟨hb,hn3⟩,rfl⟩
   have hn4:=blk_far (p:=⟨w3.heap.size+1,0,none⟩) hn3 (by simp) (.int .i64 0)
   have hb4:=below_set (g:=w3.heap.size+1) (j:=0) (v:=.int .i64 0) hb (by omega)
   simp only [World.size_alloc] at hn4 hb4 ⊢
   have y0:=blk_cell hn4 0
   simp at y0
   have HB4:=A0_ hb4;clear hn3 hn4 hb hb4 hs1 hm1 hn1 he1 hC1 hcc
   go_wp2_with fail
   go_ret2
   exact ⟨rfl,HB4.out⟩
end Go.Proofs.YtjahbgldccjbfaaGreatDoor.PSky
end
