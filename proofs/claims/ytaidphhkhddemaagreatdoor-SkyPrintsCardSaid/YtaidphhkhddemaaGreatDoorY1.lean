/- A part of the proof of a law of the layer sky. -/
import Derived.ArgAppend
import Derived.Below
import Derived.BigQuiet
import Derived.Deep.AppendLies
import Derived.Deep.CutBlock
import Derived.Deep.DeepCutAuto
import Derived.Deep.Draws
import Derived.Deep.LoopGhost
import Derived.Deep.OwnRows
import Derived.Deep.QuietTactic
import Derived.Deep.RegionHeld3
import Derived.KernelRfl
import Derived.Laws.BitsLemmas
import Derived.Laws.BytesArg
import Derived.Laws.IdiomCopy
import Derived.Laws.MakeOwn
import Derived.Laws.OwnMore
import Derived.Laws.Rows
import Derived.Laws.Slices
import Derived.Lib.AppendStr
import Derived.Lib.ConvBytes
import Derived.Maps.AppendAt
import Derived.OrdersHeld
import Derived.OwnWalk
import Derived.RowKit
import Derived.RowKit3
import Derived.Tactics
import Derived.Test.YtaidphhkhddemaaGreatDoorProg
import Derived.WalkKit
import Derived.WideLaws
import Derived.Test.YtaidphhkhddemaaGreatDoorY0
section
namespace Go.Proofs.YtaidphhkhddemaaGreatDoorW.PrintWords
end Go.Proofs.YtaidphhkhddemaaGreatDoorW.PrintWords
namespace Go.Proofs.YtaidphhkhddemaaGreatDoorW.PrintLast
end Go.Proofs.YtaidphhkhddemaaGreatDoorW.PrintLast
namespace Go.Proofs.YtaidphhkhddemaaGreatDoorW.PrintMore
end Go.Proofs.YtaidphhkhddemaaGreatDoorW.PrintMore
namespace Go.Proofs.YtaidphhkhddemaaGreatDoor.PSky
open Go.RowKit Go.Proofs.YtaidphhkhddemaaGreatDoorW.PrintWords Go.Proofs.YtaidphhkhddemaaGreatDoorW.PrintLast Go.Proofs.YtaidphhkhddemaaGreatDoorW.PrintMore
attribute [local go_sem] max2_int min2_int max_two min_two max_three min_three max_four min_four
set_option linter.unusedVariables false
set_option linter.unusedSimpArgs false
def errW:Option Int→Value
 |none=>.nilIface
 |some c=>.iface 0 (.int .i64 c)
theorem errW_none:errW none=.nilIface:=rfl
theorem errW_some (c:Int):errW (some c)=.iface 0 (.int .i64 c):=rfl
theorem info3:(Tryz.prog.info? 3).map (fun i=>(i.zero,i.size,i.bytes))=some (some (.int .i64 0),1,8):=by kernel_rfl
theorem info9:(Tryz.prog.info? 9).map (fun i=>(i.zero,i.size,i.bytes))=some (some (.string ⟨#[]⟩),1,16):=by kernel_rfl
theorem info51:(Tryz.prog.info? 51).map (fun i=>(i.zero,i.size,i.bytes))=some (some (.agg #[(.int .i64 0),(.bool false)]),2,16):=by kernel_rfl
theorem info54:(Tryz.prog.info? 54).map (fun i=>(i.zero,i.size,i.bytes))=some (some (.agg #[(.int .i64 0),(.bool false),(.int .i64 0)]),3,24):=by kernel_rfl
theorem info83:(Tryz.prog.info? 83).map (fun i=>(i.zero,i.size,i.bytes))=some (some (.agg #[(.int .i64 0),(.int .i64 0),(.int .i64 0),(.slice none 0 0)]),4,48):=by kernel_rfl
structure S24 where
 f0:Int
 f1:Int
def z24:S24:=⟨(0:Int),(0:Int)⟩
def k24:Kd S24:=Kd.iso (Kd.pair (Kd.int .i64) (Kd.int .i64)) (fun x:S24=>(x.f0,x.f1))
theorem k24_open {w:World} {x:S24} {cs:List Value} (h:k24.K w x cs):cs=[.int .i64 x.f0,.int .i64 x.f1]:=by
 obtain ⟨_,_,rfl,rfl,rfl⟩:=h
 exact rfl
theorem k24_mk (w:World) (x:S24)  : k24.K w x [.int .i64 x.f0,.int .i64 x.f1]:=⟨[.int .i64 x.f0],[.int .i64 x.f1],rfl,rfl,rfl⟩
structure S83 where
 f0:S24
 f1:Int
 f2:(List Int)
def z83:S83:=⟨z24,(0:Int),([]:List Int)⟩
def k83:Kd S83:=Kd.iso (Kd.pair k24 (Kd.pair (Kd.int .i64) (Kd.slice 3 (Kd.int .i64)))) (fun x:S83=>(x.f0,x.f1,x.f2))
theorem k83_open {w:World} {x:S83} {cs:List Value} (h:k83.K w x cs):∃ A3 c3,cs=[.int .i64 x.f0.f0,.int .i64 x.f0.f1,.int .i64 x.f1,.slice A3 x.f2.length c3]∧x.f2.length≤c3∧(Kd.int .i64).C w A3 x.f2.length x.f2:=by
 obtain ⟨_,_,rfl,s0,⟨_,_,rfl,rfl,⟨A3,c3,rfl,l3,g3⟩⟩⟩:=h
 obtain rfl:=k24_open s0
 exact ⟨A3,c3,rfl,l3,g3⟩
theorem k83_mk (w:World) (x:S83) {A3:Option Addr} {c3:Nat} (l3:x.f2.length≤c3) (g3:(Kd.int .i64).C w A3 x.f2.length x.f2):k83.K w x [.int .i64 x.f0.f0,.int .i64 x.f0.f1,.int .i64 x.f1,.slice A3 x.f2.length c3]:=⟨[.int .i64 x.f0.f0,.int .i64 x.f0.f1],[.int .i64 x.f1,.slice A3 x.f2.length c3],rfl,(k24_mk w x.f0 ),⟨[.int .i64 x.f1],[.slice A3 x.f2.length c3],rfl,rfl,⟨A3,c3,rfl,l3,g3⟩⟩⟩
theorem k83_mkF (W:World) (ok:Nat→Prop) (x:S83) {A3:Option Addr} {c3:Nat} (l3:x.f2.length≤c3) (g3:Kd.F (Kd.int .i64) W ok A3 x.f2.length x.f2):Kd.FK k83 W ok x [.int .i64 x.f0.f0,.int .i64 x.f0.f1,.int .i64 x.f1,.slice A3 x.f2.length c3]:=fun W2 hW=>k83_mk W2 x l3 (g3 W2 hW)
def rd_T83 (xs:List S83) (i:Int):S83:=xs.getD i.toNat z83
theorem at_T83 {w:World} {A:Option Addr} {n:Nat} {xs:List S83} (h:Kd.C k83 w A n xs) (i:Int) (h0:0≤i) (h1:i<n):∃ ad A3 c3,A=some ad∧w.cell? (ad.add (i.toNat*4))=some (.int .i64 (rd_T83 xs i).f0.f0)∧w.cell? ⟨(ad.add (i.toNat*4)).block,(ad.add (i.toNat*4)).off+1,none⟩=some (.int .i64 (rd_T83 xs i).f0.f1)∧w.cell? ⟨(ad.add (i.toNat*4)).block,(ad.add (i.toNat*4)).off+2,none⟩=some (.int .i64 (rd_T83 xs i).f1)∧w.cell? ⟨(ad.add (i.toNat*4)).block,(ad.add (i.toNat*4)).off+3,none⟩=some (.slice A3 (rd_T83 xs i).f2.length c3)∧(rd_T83 xs i).f2.length≤c3∧(Kd.int .i64).C w A3 (rd_T83 xs i).f2.length (rd_T83 xs i).f2:=by
 obtain ⟨ad,c,e,_,hK,hc0⟩:=Kd.C_get h z83 i h0 h1
 have hc:∀ j u,c[j]?=some u→w.cell? (ad.add (i.toNat*4+j))=some u:=hc0
 obtain ⟨A3,c3,rfl,l3,g3⟩:=k83_open hK
 exact ⟨ad,A3,c3,e,hc 0 _ rfl,by rw [← add_field _ _ 1 (by omega)];exact hc 1 _ rfl,by rw [← add_field _ _ 2 (by omega)];exact hc 2 _ rfl,by rw [← add_field _ _ 3 (by omega)];exact hc 3 _ rfl,l3,g3⟩
structure S51 where
 f0:Int
 f1:Bool
def z51:S51:=⟨(0:Int),false⟩
def k51:Kd S51:=Kd.iso (Kd.pair (Kd.int .i64) Kd.bool) (fun x:S51=>(x.f0,x.f1))
theorem k51_open {w:World} {x:S51} {cs:List Value} (h:k51.K w x cs):cs=[.int .i64 x.f0,.bool x.f1]:=by
 obtain ⟨_,_,rfl,rfl,rfl⟩:=h
 exact rfl
theorem k51_openM {w:World} {base:Nat} {ok:Nat→Prop} {x:S51} {cs:List Value} (h:k51.M w base ok x cs):cs=[.int .i64 x.f0,.bool x.f1]:=by
 obtain ⟨_,_,rfl,rfl,rfl⟩:=h
 exact rfl
theorem k51_mkM (w:World) (base:Nat) (ok:Nat→Prop) (x:S51)  : k51.M w base ok x [.int .i64 x.f0,.bool x.f1]:=⟨[.int .i64 x.f0],[.bool x.f1],rfl,rfl,rfl⟩
def rd_T51 (xs:List S51) (i:Int):S51:=xs.getD i.toNat z51
theorem at_T51 {w:World} {A:Option Addr} {n:Nat} {xs:List S51} (h:Kd.C k51 w A n xs) (i:Int) (h0:0≤i) (h1:i<n):∃ ad ,A=some ad∧w.cell? (ad.add (i.toNat*2))=some (.int .i64 (rd_T51 xs i).f0)∧w.cell? ⟨(ad.add (i.toNat*2)).block,(ad.add (i.toNat*2)).off+1,none⟩=some (.bool (rd_T51 xs i).f1):=by
 obtain ⟨ad,c,e,_,hK,hc0⟩:=Kd.C_get h z51 i h0 h1
 have hc:∀ j u,c[j]?=some u→w.cell? (ad.add (i.toNat*2+j))=some u:=hc0
 obtain rfl:=k51_open hK
 exact ⟨ad,e,hc 0 _ rfl,by rw [← add_field _ _ 1 (by omega)];exact hc 1 _ rfl⟩
structure S54 where
 f0:Int
 f1:Bool
 f2:Int
def z54:S54:=⟨(0:Int),false,(0:Int)⟩
def k54:Kd S54:=Kd.iso (Kd.pair (Kd.int .i64) (Kd.pair Kd.bool (Kd.int .i64))) (fun x:S54=>(x.f0,x.f1,x.f2))
theorem k54_open {w:World} {x:S54} {cs:List Value} (h:k54.K w x cs):cs=[.int .i64 x.f0,.bool x.f1,.int .i64 x.f2]:=by
 obtain ⟨_,_,rfl,rfl,⟨_,_,rfl,rfl,rfl⟩⟩:=h
 exact rfl
theorem k54_mkM (w:World) (base:Nat) (ok:Nat→Prop) (x:S54)  : k54.M w base ok x [.int .i64 x.f0,.bool x.f1,.int .i64 x.f2]:=⟨[.int .i64 x.f0],[.bool x.f1,.int .i64 x.f2],rfl,rfl,⟨[.bool x.f1],[.int .i64 x.f2],rfl,rfl,rfl⟩⟩
def rd_T54 (xs:List S54) (i:Int):S54:=xs.getD i.toNat z54
theorem at_T54 {w:World} {A:Option Addr} {n:Nat} {xs:List S54} (h:Kd.C k54 w A n xs) (i:Int) (h0:0≤i) (h1:i<n):∃ ad ,A=some ad∧w.cell? (ad.add (i.toNat*3))=some (.int .i64 (rd_T54 xs i).f0)∧w.cell? ⟨(ad.add (i.toNat*3)).block,(ad.add (i.toNat*3)).off+1,none⟩=some (.bool (rd_T54 xs i).f1)∧w.cell? ⟨(ad.add (i.toNat*3)).block,(ad.add (i.toNat*3)).off+2,none⟩=some (.int .i64 (rd_T54 xs i).f2):=by
 obtain ⟨ad,c,e,_,hK,hc0⟩:=Kd.C_get h z54 i h0 h1
 have hc:∀ j u,c[j]?=some u→w.cell? (ad.add (i.toNat*3+j))=some u:=hc0
 obtain rfl:=k54_open hK
 exact ⟨ad,e,hc 0 _ rfl,by rw [← add_field _ _ 1 (by omega)];exact hc 1 _ rfl,by rw [← add_field _ _ 2 (by omega)];exact hc 2 _ rfl⟩
structure S89 where
 f0:Int
 f1:Int
 f2:Int
def z89:S89:=⟨(0:Int),(0:Int),(0:Int)⟩
def k89:Kd S89:=Kd.iso (Kd.pair (Kd.int .i64) (Kd.pair (Kd.int .i64) (Kd.int .i64))) (fun x:S89=>(x.f0,x.f1,x.f2))
theorem k89_open {w:World} {x:S89} {cs:List Value} (h:k89.K w x cs):cs=[.int .i64 x.f0,.int .i64 x.f1,.int .i64 x.f2]:=by
 obtain ⟨_,_,rfl,rfl,⟨_,_,rfl,rfl,rfl⟩⟩:=h
 exact rfl
theorem k89_mkM (w:World) (base:Nat) (ok:Nat→Prop) (x:S89)  : k89.M w base ok x [.int .i64 x.f0,.int .i64 x.f1,.int .i64 x.f2]:=⟨[.int .i64 x.f0],[.int .i64 x.f1,.int .i64 x.f2],rfl,rfl,⟨[.int .i64 x.f1],[.int .i64 x.f2],rfl,rfl,rfl⟩⟩
def rd_T89 (xs:List S89) (i:Int):S89:=xs.getD i.toNat z89
theorem at_T89 {w:World} {A:Option Addr} {n:Nat} {xs:List S89} (h:Kd.C k89 w A n xs) (i:Int) (h0:0≤i) (h1:i<n):∃ ad ,A=some ad∧w.cell? (ad.add (i.toNat*3))=some (.int .i64 (rd_T89 xs i).f0)∧w.cell? ⟨(ad.add (i.toNat*3)).block,(ad.add (i.toNat*3)).off+1,none⟩=some (.int .i64 (rd_T89 xs i).f1)∧w.cell? ⟨(ad.add (i.toNat*3)).block,(ad.add (i.toNat*3)).off+2,none⟩=some (.int .i64 (rd_T89 xs i).f2):=by
 obtain ⟨ad,c,e,_,hK,hc0⟩:=Kd.C_get h z89 i h0 h1
 have hc:∀ j u,c[j]?=some u→w.cell? (ad.add (i.toNat*3+j))=some u:=hc0
 obtain rfl:=k89_open hK
 exact ⟨ad,e,hc 0 _ rfl,by rw [← add_field _ _ 1 (by omega)];exact hc 1 _ rfl,by rw [← add_field _ _ 2 (by omega)];exact hc 2 _ rfl⟩
structure S105 where
 f0:Int
 f1:Int
def z105:S105:=⟨(0:Int),(0:Int)⟩
def k105:Kd S105:=Kd.iso (Kd.pair (Kd.int .i64) (Kd.int .i64)) (fun x:S105=>(x.f0,x.f1))
theorem k105_open {w:World} {x:S105} {cs:List Value} (h:k105.K w x cs):cs=[.int .i64 x.f0,.int .i64 x.f1]:=by
 obtain ⟨_,_,rfl,rfl,rfl⟩:=h
 exact rfl
theorem k105_mkM (w:World) (base:Nat) (ok:Nat→Prop) (x:S105)  : k105.M w base ok x [.int .i64 x.f0,.int .i64 x.f1]:=⟨[.int .i64 x.f0],[.int .i64 x.f1],rfl,rfl,rfl⟩
def rd_T105 (xs:List S105) (i:Int):S105:=xs.getD i.toNat z105
theorem at_T105 {w:World} {A:Option Addr} {n:Nat} {xs:List S105} (h:Kd.C k105 w A n xs) (i:Int) (h0:0≤i) (h1:i<n):∃ ad ,A=some ad∧w.cell? (ad.add (i.toNat*2))=some (.int .i64 (rd_T105 xs i).f0)∧w.cell? ⟨(ad.add (i.toNat*2)).block,(ad.add (i.toNat*2)).off+1,none⟩=some (.int .i64 (rd_T105 xs i).f1):=by
 obtain ⟨ad,c,e,_,hK,hc0⟩:=Kd.C_get h z105 i h0 h1
 have hc:∀ j u,c[j]?=some u→w.cell? (ad.add (i.toNat*2+j))=some u:=hc0
 obtain rfl:=k105_open hK
 exact ⟨ad,e,hc 0 _ rfl,by rw [← add_field _ _ 1 (by omega)];exact hc 1 _ rfl⟩
theorem A0_ {p:Prop} (h:p):Aside0 p:=⟨h⟩
theorem bd_ {p q:Prop} (h:q) (k:q→p:=by intro h_;(with_reducible repeat (first|refine blk_drewN ?_ _|refine blk_drew ?_|refine blk_alloc ?_ _));exact h_):p:=k h
theorem rd_ {p q:Prop} (h:q) (k:q→p:=by intro h_;(with_reducible repeat (first|apply Kd.R_alloc|apply Kd.R_drewN|apply Kd.R_drew));exact h_):p:=k h
theorem nd_ {p q:Prop} (h:q) (k:q→p:=by intro h_;(with_reducible repeat (first|apply Kd.N_alloc|apply Kd.N_drewN|apply Kd.N_drew));exact h_):p:=k h
theorem vd_ {p q:Prop} (h:q) (k:q→p:=by intro h_;(with_reducible repeat (first|apply Kd.V_alloc|apply Kd.V_drewN|apply Kd.V_drew));exact h_):p:=k h
theorem qd_ {p q:Prop} (h:q) (k:q→p:=by intro h_;(with_reducible repeat (first|apply Kd.Q_alloc|apply Kd.Q_drewN|apply Kd.Q_drew));exact h_):p:=k h
theorem sd_ {p q:Prop} (h:q) (k:q→p:=by intro h_;(with_reducible repeat (first|apply Kd.S_alloc|apply Kd.S_drewN|apply Kd.S_drew));exact h_):p:=k h
section
variable {P:Program} {md:Region.Mode} {ops:Array Oper} {Q:Exit→Act→World→Prop} {S:World→Prop} {ds:List Nat}
theorem pu_ {i:Nat} {N:Option Tmp} {oi:Oper} {v:Value} {fuel:Nat} {l:Array Bool} {a a':Act} {w:World} (h:wpAnyLast P md ops Q S ds fuel (l.setIfInBounds i true) a' w) (hi:ops[i]?=some oi:=by rfl) (hN:oi.dst=N:=by rfl) (hc:anyB md ops l (l.setIfInBounds i true) i=true:=by exact any_of HT_.out (by kernel_rfl)) (hQ:∀ c a w,Q (.panic c) (a.put oi.dst v) w→Q (.panic c) a w:=by exact (fun _ _ _ h=>h)) (hy:Yields P ops oi v a:=by (refine Or.inl ⟨by rfl,?_⟩;intro w';go_simp;with_reducible rfl)) (ha:a.put N v=a':=by (simp only [Act.put,List.setIfInBounds_toArray,List.set_cons_zero,List.set_cons_succ,i64_w,i32_w];rfl)):wpAnyLast P md ops Q S ds (fuel+1) l a w:=pure_ _ hi hN hc hQ hy ha h
theorem ta_ {i:Nat} {N:Option Tmp} {oi:Oper} {v:Value} {fuel:Nat} {l:Array Bool} {a a':Act} {w:World} (h:wpAnyLast P md ops Q S ds fuel (l.setIfInBounds i true) a' w) (hi:ops[i]?=some oi:=by rfl) (hN:oi.dst=N:=by rfl) (hc:takeB md ops ds l (l.setIfInBounds i true) i=true:=by exact take_ofW HT_.out HW_.out (by kernel_rfl)) (hQ:∀ c a w,Q (.panic c) (a.put oi.dst v) w→Q (.panic c) a w:=by exact (fun _ _ _ h=>h)) (hy:YieldsIf P ops S oi v a:=by (refine Or.inl ⟨by rfl,?_⟩;intro w' hs_;(try dsimp only at hs_);(repeat (rcases (show _∧_ from hs_) with ⟨_,hs_⟩));go_simp;with_reducible rfl)) (hS:S w:=by exact hHeld) (ha:a.put N v=a':=by (simp only [Act.put,List.setIfInBounds_toArray,List.set_cons_zero,List.set_cons_succ,i64_w,i32_w];rfl)):wpAnyLast P md ops Q S ds (fuel+1) l a w:=take_ _ hi hN hc hQ hy hS ha h
end
theorem bq2_ {w:World} {g:Nat} {t:TypeId} {a0 a1:Value} (h:w.heap[g]?=some (.cells #[a0,a1] t (0,0))):w.cell? ⟨g,0,none⟩=some a0∧w.cell? ⟨g,1,none⟩=some a1∧w.frozen? ⟨g,0,none⟩=false∧w.frozen? ⟨g,1,none⟩=false:=⟨(blk_cell h 0).trans rfl,(blk_cell h 1).trans rfl,blk_frozen h 0,blk_frozen h 1⟩
theorem bq3_ {w:World} {g:Nat} {t:TypeId} {a0 a1 a2:Value} (h:w.heap[g]?=some (.cells #[a0,a1,a2] t (0,0))):w.cell? ⟨g,0,none⟩=some a0∧w.cell? ⟨g,1,none⟩=some a1∧w.cell? ⟨g,2,none⟩=some a2∧w.frozen? ⟨g,0,none⟩=false∧w.frozen? ⟨g,1,none⟩=false∧w.frozen? ⟨g,2,none⟩=false:=⟨(blk_cell h 0).trans rfl,(blk_cell h 1).trans rfl,(blk_cell h 2).trans rfl,blk_frozen h 0,blk_frozen h 1,blk_frozen h 2⟩
theorem bq4_ {w:World} {g:Nat} {t:TypeId} {a0 a1 a2 a3:Value} (h:w.heap[g]?=some (.cells #[a0,a1,a2,a3] t (0,0))):w.cell? ⟨g,0,none⟩=some a0∧w.cell? ⟨g,1,none⟩=some a1∧w.cell? ⟨g,2,none⟩=some a2∧w.cell? ⟨g,3,none⟩=some a3∧w.frozen? ⟨g,0,none⟩=false∧w.frozen? ⟨g,1,none⟩=false∧w.frozen? ⟨g,2,none⟩=false∧w.frozen? ⟨g,3,none⟩=false:=⟨(blk_cell h 0).trans rfl,(blk_cell h 1).trans rfl,(blk_cell h 2).trans rfl,(blk_cell h 3).trans rfl,blk_frozen h 0,blk_frozen h 1,blk_frozen h 2,blk_frozen h 3⟩
theorem bq5_ {w:World} {g:Nat} {t:TypeId} {a0 a1 a2 a3 a4:Value} (h:w.heap[g]?=some (.cells #[a0,a1,a2,a3,a4] t (0,0))):w.cell? ⟨g,0,none⟩=some a0∧w.cell? ⟨g,1,none⟩=some a1∧w.cell? ⟨g,2,none⟩=some a2∧w.cell? ⟨g,3,none⟩=some a3∧w.cell? ⟨g,4,none⟩=some a4∧w.frozen? ⟨g,0,none⟩=false∧w.frozen? ⟨g,1,none⟩=false∧w.frozen? ⟨g,2,none⟩=false∧w.frozen? ⟨g,3,none⟩=false∧w.frozen? ⟨g,4,none⟩=false:=⟨(blk_cell h 0).trans rfl,(blk_cell h 1).trans rfl,(blk_cell h 2).trans rfl,(blk_cell h 3).trans rfl,(blk_cell h 4).trans rfl,blk_frozen h 0,blk_frozen h 1,blk_frozen h 2,blk_frozen h 3,blk_frozen h 4⟩
theorem y0_ {p:Prop} (h:p:=by repeat (first|(with_reducible first|exact HB.out|apply below_alloc|apply pw_below_drewN|apply below_drew1)|exact HB.out)):p:=h
theorem y1_ {p:Prop} (h:p:=by (try simp only [List.map_toArray,List.map_cons,List.map_nil]);first|done|rfl|(simp only [List.length_drop,List.length_take];rfl)):p:=h
theorem y2_ {p:Prop} (h:p:=by repeat (first|(with_reducible first|exact HB.out|apply below_alloc|apply pw_below_drewN|apply below_drew1|refine below_set ?_ GE562.out)|exact HB.out)):p:=h
theorem y3_ {p:Prop} (h:p:=by first|rfl|(simp [errW_none,errW_some] <;> rfl)|(simp [*,errW_none,errW_some] <;> rfl)):p:=h
theorem y4_ {p:Prop} (h:p:=by (with_reducible repeat (first|refine blk_drewN ?_ _|refine blk_drew ?_|refine blk_alloc ?_ _));refine blk_put (cs:=#[.slice A0_0 l0_0.length c0_0,.int .i64 a0_1,.int .i64 a0_2,.int .i64 a0_3,.int .i64 0]) ?_ 4 _ rfl;(with_reducible repeat (first|refine blk_drewN ?_ _|refine blk_drew ?_|refine blk_alloc ?_ _));refine blk_put (cs:=#[.slice A0_0 l0_0.length c0_0,.int .i64 a0_1,.int .i64 a0_2,.int .i64 0,.int .i64 0]) ?_ 3 _ rfl;(with_reducible repeat (first|refine blk_drewN ?_ _|refine blk_drew ?_|refine blk_alloc ?_ _));refine blk_put (cs:=#[.slice A0_0 l0_0.length c0_0,.int .i64 a0_1,.int .i64 0,.int .i64 0,.int .i64 0]) ?_ 2 _ rfl;(with_reducible repeat (first|refine blk_drewN ?_ _|refine blk_drew ?_|refine blk_alloc ?_ _));refine blk_put (cs:=#[.slice A0_0 l0_0.length c0_0,.int .i64 0,.int .i64 0,.int .i64 0,.int .i64 0]) ?_ 1 _ rfl;(with_reducible repeat (first|refine blk_drewN ?_ _|refine blk_drew ?_|refine blk_alloc ?_ _));refine blk_put (cs:=#[.slice none 0 0,.int .i64 0,.int .i64 0,.int .i64 0,.int .i64 0]) ?_ 0 _ rfl;(with_reducible repeat (first|refine blk_drewN ?_ _|refine blk_drew ?_|refine blk_alloc ?_ _));exact BK647.out):p:=h
theorem y5_ {p:Prop} (h:p:=by first|rfl|(simp;done)|(simp [*];done)):p:=h
theorem y6_ {p:Prop} (h:p:=by first|(with_reducible assumption)|assumption):p:=h
theorem y7_ {p:Prop} (h:p:=by repeat (first|(with_reducible first|exact HB.out|apply below_alloc|apply pw_below_drewN|apply below_drew1|refine below_set ?_ GE486.out)|exact HB.out)):p:=h
theorem y8_ {p:Prop} (h:p:=by (with_reducible repeat (first|refine blk_drewN ?_ _|refine blk_drew ?_|refine blk_alloc ?_ _));refine blk_far ?_ NB646_647.out _;(with_reducible repeat (first|refine blk_drewN ?_ _|refine blk_drew ?_|refine blk_alloc ?_ _));refine blk_far ?_ NB646_647.out _;(with_reducible repeat (first|refine blk_drewN ?_ _|refine blk_drew ?_|refine blk_alloc ?_ _));refine blk_far ?_ NB646_647.out _;(with_reducible repeat (first|refine blk_drewN ?_ _|refine blk_drew ?_|refine blk_alloc ?_ _));refine blk_far ?_ NB646_647.out _;(with_reducible repeat (first|refine blk_drewN ?_ _|refine blk_drew ?_|refine blk_alloc ?_ _));refine blk_far ?_ NB646_647.out _;(with_reducible repeat (first|refine blk_drewN ?_ _|refine blk_drew ?_|refine blk_alloc ?_ _));exact BK646.out):p:=h
theorem y9_ {p:Prop} (h:p:=by repeat (first|(with_reducible first|exact HB.out|apply below_alloc|apply pw_below_drewN|apply below_drew1|refine below_set ?_ GE246.out)|exact HB.out)):p:=h
theorem ya_ {p:Prop} (h:p:=by repeat (first|(with_reducible first|exact HB.out|apply below_alloc|apply pw_below_drewN|apply below_drew1|refine below_set ?_ GE529.out)|exact HB.out)):p:=h
theorem yb_ {p:Prop} (h:p:=by repeat (first|(with_reducible first|exact HB.out|apply below_alloc|apply pw_below_drewN|apply below_drew1|refine below_set ?_ GE562.out|refine below_set ?_ GE576.out)|exact HB.out)):p:=h
theorem yc_ {p:Prop} (h:p:=by repeat (first|(with_reducible first|exact HB.out|apply below_alloc|apply pw_below_drewN|apply below_drew1|refine below_set ?_ GE246.out|refine below_set ?_ GE255.out)|exact HB.out)):p:=h
theorem yt_ {p:Prop} (h:p:=by repeat (first|exact Drawn0.refl _|apply Drawn0.step)):p:=h
theorem yu_ {p:Prop} (h:p:=by (with_reducible repeat (first|refine blk_drewN ?_ _|refine blk_drew ?_|refine blk_alloc ?_ _));refine blk_put (cs:=#[.slice A0_0 l0_0.length c0_0,.int .i64 a0_1,.int .i64 a0_2,.int .i64 a0_3,.int .i64 0]) ?_ 4 _ rfl;(with_reducible repeat (first|refine blk_drewN ?_ _|refine blk_drew ?_|refine blk_alloc ?_ _));refine blk_put (cs:=#[.slice A0_0 l0_0.length c0_0,.int .i64 a0_1,.int .i64 a0_2,.int .i64 0,.int .i64 0]) ?_ 3 _ rfl;(with_reducible repeat (first|refine blk_drewN ?_ _|refine blk_drew ?_|refine blk_alloc ?_ _));refine blk_put (cs:=#[.slice A0_0 l0_0.length c0_0,.int .i64 a0_1,.int .i64 0,.int .i64 0,.int .i64 0]) ?_ 2 _ rfl;(with_reducible repeat (first|refine blk_drewN ?_ _|refine blk_drew ?_|refine blk_alloc ?_ _));refine blk_put (cs:=#[.slice A0_0 l0_0.length c0_0,.int .i64 0,.int .i64 0,.int .i64 0,.int .i64 0]) ?_ 1 _ rfl;(with_reducible repeat (first|refine blk_drewN ?_ _|refine blk_drew ?_|refine blk_alloc ?_ _));refine blk_put (cs:=#[.slice none 0 0,.int .i64 0,.int .i64 0,.int .i64 0,.int .i64 0]) ?_ 0 _ rfl;(with_reducible repeat (first|refine blk_drewN ?_ _|refine blk_drew ?_|refine blk_alloc ?_ _));exact BK641.out):p:=h
theorem yv_ {p:Prop} (h:p:=by first|(simp only [putAll,Act.put,List.setIfInBounds_toArray,List.set_cons_zero,List.set_cons_succ];done)|(simp only [putAll,Act.put,List.setIfInBounds_toArray,List.set_cons_zero,List.set_cons_succ];rfl)):p:=h
theorem yw_ {p:Prop} (h:p:=by (with_reducible repeat (first|refine blk_drewN ?_ _|refine blk_drew ?_|refine blk_alloc ?_ _));refine blk_put (cs:=#[.int .i64 ((rd_T83 l0_0 x3_1).f0.f0),.int .i64 ((rd_T83 l0_0 x3_1).f0.f1),.int .i64 ((rd_T83 l0_0 x3_1).f1),.slice none 0 0]) ?_ 3 _ rfl;(with_reducible repeat (first|refine blk_drewN ?_ _|refine blk_drew ?_|refine blk_alloc ?_ _));refine blk_put (cs:=#[.int .i64 ((rd_T83 l0_0 x3_1).f0.f0),.int .i64 ((rd_T83 l0_0 x3_1).f0.f1),.int .i64 0,.slice none 0 0]) ?_ 2 _ rfl;(with_reducible repeat (first|refine blk_drewN ?_ _|refine blk_drew ?_|refine blk_alloc ?_ _));refine blk_put (cs:=#[.int .i64 ((rd_T83 l0_0 x3_1).f0.f0),.int .i64 0,.int .i64 0,.slice none 0 0]) ?_ 1 _ rfl;(with_reducible repeat (first|refine blk_drewN ?_ _|refine blk_drew ?_|refine blk_alloc ?_ _));refine blk_put (cs:=#[.int .i64 0,.int .i64 0,.int .i64 0,.slice none 0 0]) ?_ 0 _ rfl;(with_reducible repeat (first|refine blk_drewN ?_ _|refine blk_drew ?_|refine blk_alloc ?_ _));exact BK141.out):p:=h
theorem y15_ {p:Prop} (h:p:=by first|exact Nat.ne_of_lt (Nat.lt_of_lt_of_le (by have:=World.block_lt_of_cell? _ _ hw583_3;first|rwa [add_block] at this|exact this) GW585.out)|(rw [add_block];exact Nat.ne_of_lt (Nat.lt_of_lt_of_le (by have:=World.block_lt_of_cell? _ _ hw583_3;first|rwa [add_block] at this|exact this) GW585.out))|(show (Addr.add _ _).block≠_;rw [add_block];exact Nat.ne_of_lt (Nat.lt_of_lt_of_le (by have:=World.block_lt_of_cell? _ _ hw583_3;first|rwa [add_block] at this|exact this) GW585.out))|(dsimp only;exact Nat.ne_of_lt (Nat.lt_of_lt_of_le (by have:=World.block_lt_of_cell? _ _ hw583_3;first|rwa [add_block] at this|exact this) GW585.out))):p:=h
theorem y16_ {p:Prop} (h:p:=by first|exact Nat.ne_of_lt (Nat.lt_of_lt_of_le (by have:=World.block_lt_of_cell? _ _ hw583_3;first|rwa [add_block] at this|exact this) GW584.out)|(rw [add_block];exact Nat.ne_of_lt (Nat.lt_of_lt_of_le (by have:=World.block_lt_of_cell? _ _ hw583_3;first|rwa [add_block] at this|exact this) GW584.out))|(show (Addr.add _ _).block≠_;rw [add_block];exact Nat.ne_of_lt (Nat.lt_of_lt_of_le (by have:=World.block_lt_of_cell? _ _ hw583_3;first|rwa [add_block] at this|exact this) GW584.out))|(dsimp only;exact Nat.ne_of_lt (Nat.lt_of_lt_of_le (by have:=World.block_lt_of_cell? _ _ hw583_3;first|rwa [add_block] at this|exact this) GW584.out))):p:=h
theorem y17_ {p:Prop} (h:p:=by first|exact Nat.ne_of_lt (Nat.lt_of_lt_of_le (by have:=World.block_lt_of_cell? _ _ hw583_2;first|rwa [add_block] at this|exact this) GW585.out)|(rw [add_block];exact Nat.ne_of_lt (Nat.lt_of_lt_of_le (by have:=World.block_lt_of_cell? _ _ hw583_2;first|rwa [add_block] at this|exact this) GW585.out))|(show (Addr.add _ _).block≠_;rw [add_block];exact Nat.ne_of_lt (Nat.lt_of_lt_of_le (by have:=World.block_lt_of_cell? _ _ hw583_2;first|rwa [add_block] at this|exact this) GW585.out))|(dsimp only;exact Nat.ne_of_lt (Nat.lt_of_lt_of_le (by have:=World.block_lt_of_cell? _ _ hw583_2;first|rwa [add_block] at this|exact this) GW585.out))):p:=h
theorem y18_ {p:Prop} (h:p:=by first|exact Nat.ne_of_lt (Nat.lt_of_lt_of_le (by have:=World.block_lt_of_cell? _ _ hw583_2;first|rwa [add_block] at this|exact this) GW584.out)|(rw [add_block];exact Nat.ne_of_lt (Nat.lt_of_lt_of_le (by have:=World.block_lt_of_cell? _ _ hw583_2;first|rwa [add_block] at this|exact this) GW584.out))|(show (Addr.add _ _).block≠_;rw [add_block];exact Nat.ne_of_lt (Nat.lt_of_lt_of_le (by have:=World.block_lt_of_cell? _ _ hw583_2;first|rwa [add_block] at this|exact this) GW584.out))|(dsimp only;exact Nat.ne_of_lt (Nat.lt_of_lt_of_le (by have:=World.block_lt_of_cell? _ _ hw583_2;first|rwa [add_block] at this|exact this) GW584.out))):p:=h
theorem y19_ {p:Prop} (h:p:=by first|exact Nat.ne_of_lt (Nat.lt_of_lt_of_le (by have:=World.block_lt_of_cell? _ _ hw583_1;first|rwa [add_block] at this|exact this) GW585.out)|(rw [add_block];exact Nat.ne_of_lt (Nat.lt_of_lt_of_le (by have:=World.block_lt_of_cell? _ _ hw583_1;first|rwa [add_block] at this|exact this) GW585.out))|(show (Addr.add _ _).block≠_;rw [add_block];exact Nat.ne_of_lt (Nat.lt_of_lt_of_le (by have:=World.block_lt_of_cell? _ _ hw583_1;first|rwa [add_block] at this|exact this) GW585.out))|(dsimp only;exact Nat.ne_of_lt (Nat.lt_of_lt_of_le (by have:=World.block_lt_of_cell? _ _ hw583_1;first|rwa [add_block] at this|exact this) GW585.out))):p:=h
theorem y1a_ {p:Prop} (h:p:=by first|exact Nat.ne_of_lt (Nat.lt_of_lt_of_le (by have:=World.block_lt_of_cell? _ _ hw583_1;first|rwa [add_block] at this|exact this) GW584.out)|(rw [add_block];exact Nat.ne_of_lt (Nat.lt_of_lt_of_le (by have:=World.block_lt_of_cell? _ _ hw583_1;first|rwa [add_block] at this|exact this) GW584.out))|(show (Addr.add _ _).block≠_;rw [add_block];exact Nat.ne_of_lt (Nat.lt_of_lt_of_le (by have:=World.block_lt_of_cell? _ _ hw583_1;first|rwa [add_block] at this|exact this) GW584.out))|(dsimp only;exact Nat.ne_of_lt (Nat.lt_of_lt_of_le (by have:=World.block_lt_of_cell? _ _ hw583_1;first|rwa [add_block] at this|exact this) GW584.out))):p:=h
theorem y1b_ {p:Prop} (h:p:=by first|exact Nat.ne_of_lt (Nat.lt_of_lt_of_le (by have:=World.block_lt_of_cell? _ _ hw583_0;first|rwa [add_block] at this|exact this) GW585.out)|(rw [add_block];exact Nat.ne_of_lt (Nat.lt_of_lt_of_le (by have:=World.block_lt_of_cell? _ _ hw583_0;first|rwa [add_block] at this|exact this) GW585.out))|(show (Addr.add _ _).block≠_;rw [add_block];exact Nat.ne_of_lt (Nat.lt_of_lt_of_le (by have:=World.block_lt_of_cell? _ _ hw583_0;first|rwa [add_block] at this|exact this) GW585.out))|(dsimp only;exact Nat.ne_of_lt (Nat.lt_of_lt_of_le (by have:=World.block_lt_of_cell? _ _ hw583_0;first|rwa [add_block] at this|exact this) GW585.out))):p:=h
theorem y1c_ {p:Prop} (h:p:=by first|exact Nat.ne_of_lt (Nat.lt_of_lt_of_le (by have:=World.block_lt_of_cell? _ _ hw583_0;first|rwa [add_block] at this|exact this) GW584.out)|(rw [add_block];exact Nat.ne_of_lt (Nat.lt_of_lt_of_le (by have:=World.block_lt_of_cell? _ _ hw583_0;first|rwa [add_block] at this|exact this) GW584.out))|(show (Addr.add _ _).block≠_;rw [add_block];exact Nat.ne_of_lt (Nat.lt_of_lt_of_le (by have:=World.block_lt_of_cell? _ _ hw583_0;first|rwa [add_block] at this|exact this) GW584.out))|(dsimp only;exact Nat.ne_of_lt (Nat.lt_of_lt_of_le (by have:=World.block_lt_of_cell? _ _ hw583_0;first|rwa [add_block] at this|exact this) GW584.out))):p:=h
theorem y1d_ {p:Prop} (h:p:=by first|exact Nat.ne_of_lt (Nat.lt_of_lt_of_le (by have:=World.block_lt_of_cell? _ _ hw582_3;first|rwa [add_block] at this|exact this) GW585.out)|(rw [add_block];exact Nat.ne_of_lt (Nat.lt_of_lt_of_le (by have:=World.block_lt_of_cell? _ _ hw582_3;first|rwa [add_block] at this|exact this) GW585.out))|(show (Addr.add _ _).block≠_;rw [add_block];exact Nat.ne_of_lt (Nat.lt_of_lt_of_le (by have:=World.block_lt_of_cell? _ _ hw582_3;first|rwa [add_block] at this|exact this) GW585.out))|(dsimp only;exact Nat.ne_of_lt (Nat.lt_of_lt_of_le (by have:=World.block_lt_of_cell? _ _ hw582_3;first|rwa [add_block] at this|exact this) GW585.out))):p:=h
theorem y1e_ {p:Prop} (h:p:=by first|exact Nat.ne_of_lt (Nat.lt_of_lt_of_le (by have:=World.block_lt_of_cell? _ _ hw582_3;first|rwa [add_block] at this|exact this) GW584.out)|(rw [add_block];exact Nat.ne_of_lt (Nat.lt_of_lt_of_le (by have:=World.block_lt_of_cell? _ _ hw582_3;first|rwa [add_block] at this|exact this) GW584.out))|(show (Addr.add _ _).block≠_;rw [add_block];exact Nat.ne_of_lt (Nat.lt_of_lt_of_le (by have:=World.block_lt_of_cell? _ _ hw582_3;first|rwa [add_block] at this|exact this) GW584.out))|(dsimp only;exact Nat.ne_of_lt (Nat.lt_of_lt_of_le (by have:=World.block_lt_of_cell? _ _ hw582_3;first|rwa [add_block] at this|exact this) GW584.out))):p:=h
theorem y1f_ {p:Prop} (h:p:=by first|exact Nat.ne_of_lt (Nat.lt_of_lt_of_le (by have:=World.block_lt_of_cell? _ _ hw582_2;first|rwa [add_block] at this|exact this) GW585.out)|(rw [add_block];exact Nat.ne_of_lt (Nat.lt_of_lt_of_le (by have:=World.block_lt_of_cell? _ _ hw582_2;first|rwa [add_block] at this|exact this) GW585.out))|(show (Addr.add _ _).block≠_;rw [add_block];exact Nat.ne_of_lt (Nat.lt_of_lt_of_le (by have:=World.block_lt_of_cell? _ _ hw582_2;first|rwa [add_block] at this|exact this) GW585.out))|(dsimp only;exact Nat.ne_of_lt (Nat.lt_of_lt_of_le (by have:=World.block_lt_of_cell? _ _ hw582_2;first|rwa [add_block] at this|exact this) GW585.out))):p:=h
theorem y1g_ {p:Prop} (h:p:=by first|exact Nat.ne_of_lt (Nat.lt_of_lt_of_le (by have:=World.block_lt_of_cell? _ _ hw582_2;first|rwa [add_block] at this|exact this) GW584.out)|(rw [add_block];exact Nat.ne_of_lt (Nat.lt_of_lt_of_le (by have:=World.block_lt_of_cell? _ _ hw582_2;first|rwa [add_block] at this|exact this) GW584.out))|(show (Addr.add _ _).block≠_;rw [add_block];exact Nat.ne_of_lt (Nat.lt_of_lt_of_le (by have:=World.block_lt_of_cell? _ _ hw582_2;first|rwa [add_block] at this|exact this) GW584.out))|(dsimp only;exact Nat.ne_of_lt (Nat.lt_of_lt_of_le (by have:=World.block_lt_of_cell? _ _ hw582_2;first|rwa [add_block] at this|exact this) GW584.out))):p:=h
theorem y1h_ {p:Prop} (h:p:=by first|exact Nat.ne_of_lt (Nat.lt_of_lt_of_le (by have:=World.block_lt_of_cell? _ _ hw582_1;first|rwa [add_block] at this|exact this) GW585.out)|(rw [add_block];exact Nat.ne_of_lt (Nat.lt_of_lt_of_le (by have:=World.block_lt_of_cell? _ _ hw582_1;first|rwa [add_block] at this|exact this) GW585.out))|(show (Addr.add _ _).block≠_;rw [add_block];exact Nat.ne_of_lt (Nat.lt_of_lt_of_le (by have:=World.block_lt_of_cell? _ _ hw582_1;first|rwa [add_block] at this|exact this) GW585.out))|(dsimp only;exact Nat.ne_of_lt (Nat.lt_of_lt_of_le (by have:=World.block_lt_of_cell? _ _ hw582_1;first|rwa [add_block] at this|exact this) GW585.out))):p:=h
theorem y1i_ {p:Prop} (h:p:=by first|exact Nat.ne_of_lt (Nat.lt_of_lt_of_le (by have:=World.block_lt_of_cell? _ _ hw582_1;first|rwa [add_block] at this|exact this) GW584.out)|(rw [add_block];exact Nat.ne_of_lt (Nat.lt_of_lt_of_le (by have:=World.block_lt_of_cell? _ _ hw582_1;first|rwa [add_block] at this|exact this) GW584.out))|(show (Addr.add _ _).block≠_;rw [add_block];exact Nat.ne_of_lt (Nat.lt_of_lt_of_le (by have:=World.block_lt_of_cell? _ _ hw582_1;first|rwa [add_block] at this|exact this) GW584.out))|(dsimp only;exact Nat.ne_of_lt (Nat.lt_of_lt_of_le (by have:=World.block_lt_of_cell? _ _ hw582_1;first|rwa [add_block] at this|exact this) GW584.out))):p:=h
theorem y1j_ {p:Prop} (h:p:=by first|exact Nat.ne_of_lt (Nat.lt_of_lt_of_le (by have:=World.block_lt_of_cell? _ _ hw582_0;first|rwa [add_block] at this|exact this) GW585.out)|(rw [add_block];exact Nat.ne_of_lt (Nat.lt_of_lt_of_le (by have:=World.block_lt_of_cell? _ _ hw582_0;first|rwa [add_block] at this|exact this) GW585.out))|(show (Addr.add _ _).block≠_;rw [add_block];exact Nat.ne_of_lt (Nat.lt_of_lt_of_le (by have:=World.block_lt_of_cell? _ _ hw582_0;first|rwa [add_block] at this|exact this) GW585.out))|(dsimp only;exact Nat.ne_of_lt (Nat.lt_of_lt_of_le (by have:=World.block_lt_of_cell? _ _ hw582_0;first|rwa [add_block] at this|exact this) GW585.out))):p:=h
theorem y1k_ {p:Prop} (h:p:=by first|exact Nat.ne_of_lt (Nat.lt_of_lt_of_le (by have:=World.block_lt_of_cell? _ _ hw582_0;first|rwa [add_block] at this|exact this) GW584.out)|(rw [add_block];exact Nat.ne_of_lt (Nat.lt_of_lt_of_le (by have:=World.block_lt_of_cell? _ _ hw582_0;first|rwa [add_block] at this|exact this) GW584.out))|(show (Addr.add _ _).block≠_;rw [add_block];exact Nat.ne_of_lt (Nat.lt_of_lt_of_le (by have:=World.block_lt_of_cell? _ _ hw582_0;first|rwa [add_block] at this|exact this) GW584.out))|(dsimp only;exact Nat.ne_of_lt (Nat.lt_of_lt_of_le (by have:=World.block_lt_of_cell? _ _ hw582_0;first|rwa [add_block] at this|exact this) GW584.out))):p:=h
theorem y1l_ {p:Prop} (h:p:=by first|exact Nat.ne_of_lt (Nat.lt_of_lt_of_le (by have:=World.block_lt_of_cell? _ _ hw222_3;first|rwa [add_block] at this|exact this) GW224.out)|(rw [add_block];exact Nat.ne_of_lt (Nat.lt_of_lt_of_le (by have:=World.block_lt_of_cell? _ _ hw222_3;first|rwa [add_block] at this|exact this) GW224.out))|(show (Addr.add _ _).block≠_;rw [add_block];exact Nat.ne_of_lt (Nat.lt_of_lt_of_le (by have:=World.block_lt_of_cell? _ _ hw222_3;first|rwa [add_block] at this|exact this) GW224.out))|(dsimp only;exact Nat.ne_of_lt (Nat.lt_of_lt_of_le (by have:=World.block_lt_of_cell? _ _ hw222_3;first|rwa [add_block] at this|exact this) GW224.out))):p:=h
theorem y1m_ {p:Prop} (h:p:=by first|exact Nat.ne_of_lt (Nat.lt_of_lt_of_le (by have:=World.block_lt_of_cell? _ _ hw222_3;first|rwa [add_block] at this|exact this) GW223.out)|(rw [add_block];exact Nat.ne_of_lt (Nat.lt_of_lt_of_le (by have:=World.block_lt_of_cell? _ _ hw222_3;first|rwa [add_block] at this|exact this) GW223.out))|(show (Addr.add _ _).block≠_;rw [add_block];exact Nat.ne_of_lt (Nat.lt_of_lt_of_le (by have:=World.block_lt_of_cell? _ _ hw222_3;first|rwa [add_block] at this|exact this) GW223.out))|(dsimp only;exact Nat.ne_of_lt (Nat.lt_of_lt_of_le (by have:=World.block_lt_of_cell? _ _ hw222_3;first|rwa [add_block] at this|exact this) GW223.out))):p:=h
theorem y1n_ {p:Prop} (h:p:=by first|exact Nat.ne_of_lt (Nat.lt_of_lt_of_le (by have:=World.block_lt_of_cell? _ _ hw222_2;first|rwa [add_block] at this|exact this) GW224.out)|(rw [add_block];exact Nat.ne_of_lt (Nat.lt_of_lt_of_le (by have:=World.block_lt_of_cell? _ _ hw222_2;first|rwa [add_block] at this|exact this) GW224.out))|(show (Addr.add _ _).block≠_;rw [add_block];exact Nat.ne_of_lt (Nat.lt_of_lt_of_le (by have:=World.block_lt_of_cell? _ _ hw222_2;first|rwa [add_block] at this|exact this) GW224.out))|(dsimp only;exact Nat.ne_of_lt (Nat.lt_of_lt_of_le (by have:=World.block_lt_of_cell? _ _ hw222_2;first|rwa [add_block] at this|exact this) GW224.out))):p:=h
theorem y1o_ {p:Prop} (h:p:=by first|exact Nat.ne_of_lt (Nat.lt_of_lt_of_le (by have:=World.block_lt_of_cell? _ _ hw222_2;first|rwa [add_block] at this|exact this) GW223.out)|(rw [add_block];exact Nat.ne_of_lt (Nat.lt_of_lt_of_le (by have:=World.block_lt_of_cell? _ _ hw222_2;first|rwa [add_block] at this|exact this) GW223.out))|(show (Addr.add _ _).block≠_;rw [add_block];exact Nat.ne_of_lt (Nat.lt_of_lt_of_le (by have:=World.block_lt_of_cell? _ _ hw222_2;first|rwa [add_block] at this|exact this) GW223.out))|(dsimp only;exact Nat.ne_of_lt (Nat.lt_of_lt_of_le (by have:=World.block_lt_of_cell? _ _ hw222_2;first|rwa [add_block] at this|exact this) GW223.out))):p:=h
theorem y1p_ {p:Prop} (h:p:=by first|exact Nat.ne_of_lt (Nat.lt_of_lt_of_le (by have:=World.block_lt_of_cell? _ _ hw222_1;first|rwa [add_block] at this|exact this) GW224.out)|(rw [add_block];exact Nat.ne_of_lt (Nat.lt_of_lt_of_le (by have:=World.block_lt_of_cell? _ _ hw222_1;first|rwa [add_block] at this|exact this) GW224.out))|(show (Addr.add _ _).block≠_;rw [add_block];exact Nat.ne_of_lt (Nat.lt_of_lt_of_le (by have:=World.block_lt_of_cell? _ _ hw222_1;first|rwa [add_block] at this|exact this) GW224.out))|(dsimp only;exact Nat.ne_of_lt (Nat.lt_of_lt_of_le (by have:=World.block_lt_of_cell? _ _ hw222_1;first|rwa [add_block] at this|exact this) GW224.out))):p:=h
theorem y1q_ {p:Prop} (h:p:=by first|exact Nat.ne_of_lt (Nat.lt_of_lt_of_le (by have:=World.block_lt_of_cell? _ _ hw222_1;first|rwa [add_block] at this|exact this) GW223.out)|(rw [add_block];exact Nat.ne_of_lt (Nat.lt_of_lt_of_le (by have:=World.block_lt_of_cell? _ _ hw222_1;first|rwa [add_block] at this|exact this) GW223.out))|(show (Addr.add _ _).block≠_;rw [add_block];exact Nat.ne_of_lt (Nat.lt_of_lt_of_le (by have:=World.block_lt_of_cell? _ _ hw222_1;first|rwa [add_block] at this|exact this) GW223.out))|(dsimp only;exact Nat.ne_of_lt (Nat.lt_of_lt_of_le (by have:=World.block_lt_of_cell? _ _ hw222_1;first|rwa [add_block] at this|exact this) GW223.out))):p:=h
theorem y1r_ {p:Prop} (h:p:=by first|exact Nat.ne_of_lt (Nat.lt_of_lt_of_le (by have:=World.block_lt_of_cell? _ _ hw222_0;first|rwa [add_block] at this|exact this) GW224.out)|(rw [add_block];exact Nat.ne_of_lt (Nat.lt_of_lt_of_le (by have:=World.block_lt_of_cell? _ _ hw222_0;first|rwa [add_block] at this|exact this) GW224.out))|(show (Addr.add _ _).block≠_;rw [add_block];exact Nat.ne_of_lt (Nat.lt_of_lt_of_le (by have:=World.block_lt_of_cell? _ _ hw222_0;first|rwa [add_block] at this|exact this) GW224.out))|(dsimp only;exact Nat.ne_of_lt (Nat.lt_of_lt_of_le (by have:=World.block_lt_of_cell? _ _ hw222_0;first|rwa [add_block] at this|exact this) GW224.out))):p:=h
theorem y1s_ {p:Prop} (h:p:=by first|exact Nat.ne_of_lt (Nat.lt_of_lt_of_le (by have:=World.block_lt_of_cell? _ _ hw222_0;first|rwa [add_block] at this|exact this) GW223.out)|(rw [add_block];exact Nat.ne_of_lt (Nat.lt_of_lt_of_le (by have:=World.block_lt_of_cell? _ _ hw222_0;first|rwa [add_block] at this|exact this) GW223.out))|(show (Addr.add _ _).block≠_;rw [add_block];exact Nat.ne_of_lt (Nat.lt_of_lt_of_le (by have:=World.block_lt_of_cell? _ _ hw222_0;first|rwa [add_block] at this|exact this) GW223.out))|(dsimp only;exact Nat.ne_of_lt (Nat.lt_of_lt_of_le (by have:=World.block_lt_of_cell? _ _ hw222_0;first|rwa [add_block] at this|exact this) GW223.out))):p:=h
theorem y1t_ {p:Prop} (h:p:=by first|exact Nat.ne_of_lt (Nat.lt_of_lt_of_le (by have:=World.block_lt_of_cell? _ _ hw221_3;first|rwa [add_block] at this|exact this) GW224.out)|(rw [add_block];exact Nat.ne_of_lt (Nat.lt_of_lt_of_le (by have:=World.block_lt_of_cell? _ _ hw221_3;first|rwa [add_block] at this|exact this) GW224.out))|(show (Addr.add _ _).block≠_;rw [add_block];exact Nat.ne_of_lt (Nat.lt_of_lt_of_le (by have:=World.block_lt_of_cell? _ _ hw221_3;first|rwa [add_block] at this|exact this) GW224.out))|(dsimp only;exact Nat.ne_of_lt (Nat.lt_of_lt_of_le (by have:=World.block_lt_of_cell? _ _ hw221_3;first|rwa [add_block] at this|exact this) GW224.out))):p:=h
theorem y1u_ {p:Prop} (h:p:=by first|exact Nat.ne_of_lt (Nat.lt_of_lt_of_le (by have:=World.block_lt_of_cell? _ _ hw221_3;first|rwa [add_block] at this|exact this) GW223.out)|(rw [add_block];exact Nat.ne_of_lt (Nat.lt_of_lt_of_le (by have:=World.block_lt_of_cell? _ _ hw221_3;first|rwa [add_block] at this|exact this) GW223.out))|(show (Addr.add _ _).block≠_;rw [add_block];exact Nat.ne_of_lt (Nat.lt_of_lt_of_le (by have:=World.block_lt_of_cell? _ _ hw221_3;first|rwa [add_block] at this|exact this) GW223.out))|(dsimp only;exact Nat.ne_of_lt (Nat.lt_of_lt_of_le (by have:=World.block_lt_of_cell? _ _ hw221_3;first|rwa [add_block] at this|exact this) GW223.out))):p:=h
theorem y1v_ {p:Prop} (h:p:=by first|exact Nat.ne_of_lt (Nat.lt_of_lt_of_le (by have:=World.block_lt_of_cell? _ _ hw221_2;first|rwa [add_block] at this|exact this) GW224.out)|(rw [add_block];exact Nat.ne_of_lt (Nat.lt_of_lt_of_le (by have:=World.block_lt_of_cell? _ _ hw221_2;first|rwa [add_block] at this|exact this) GW224.out))|(show (Addr.add _ _).block≠_;rw [add_block];exact Nat.ne_of_lt (Nat.lt_of_lt_of_le (by have:=World.block_lt_of_cell? _ _ hw221_2;first|rwa [add_block] at this|exact this) GW224.out))|(dsimp only;exact Nat.ne_of_lt (Nat.lt_of_lt_of_le (by have:=World.block_lt_of_cell? _ _ hw221_2;first|rwa [add_block] at this|exact this) GW224.out))):p:=h
theorem y1w_ {p:Prop} (h:p:=by first|exact Nat.ne_of_lt (Nat.lt_of_lt_of_le (by have:=World.block_lt_of_cell? _ _ hw221_2;first|rwa [add_block] at this|exact this) GW223.out)|(rw [add_block];exact Nat.ne_of_lt (Nat.lt_of_lt_of_le (by have:=World.block_lt_of_cell? _ _ hw221_2;first|rwa [add_block] at this|exact this) GW223.out))|(show (Addr.add _ _).block≠_;rw [add_block];exact Nat.ne_of_lt (Nat.lt_of_lt_of_le (by have:=World.block_lt_of_cell? _ _ hw221_2;first|rwa [add_block] at this|exact this) GW223.out))|(dsimp only;exact Nat.ne_of_lt (Nat.lt_of_lt_of_le (by have:=World.block_lt_of_cell? _ _ hw221_2;first|rwa [add_block] at this|exact this) GW223.out))):p:=h
theorem y1x_ {p:Prop} (h:p:=by first|exact Nat.ne_of_lt (Nat.lt_of_lt_of_le (by have:=World.block_lt_of_cell? _ _ hw221_1;first|rwa [add_block] at this|exact this) GW224.out)|(rw [add_block];exact Nat.ne_of_lt (Nat.lt_of_lt_of_le (by have:=World.block_lt_of_cell? _ _ hw221_1;first|rwa [add_block] at this|exact this) GW224.out))|(show (Addr.add _ _).block≠_;rw [add_block];exact Nat.ne_of_lt (Nat.lt_of_lt_of_le (by have:=World.block_lt_of_cell? _ _ hw221_1;first|rwa [add_block] at this|exact this) GW224.out))|(dsimp only;exact Nat.ne_of_lt (Nat.lt_of_lt_of_le (by have:=World.block_lt_of_cell? _ _ hw221_1;first|rwa [add_block] at this|exact this) GW224.out))):p:=h
theorem y1y_ {p:Prop} (h:p:=by first|exact Nat.ne_of_lt (Nat.lt_of_lt_of_le (by have:=World.block_lt_of_cell? _ _ hw221_1;first|rwa [add_block] at this|exact this) GW223.out)|(rw [add_block];exact Nat.ne_of_lt (Nat.lt_of_lt_of_le (by have:=World.block_lt_of_cell? _ _ hw221_1;first|rwa [add_block] at this|exact this) GW223.out))|(show (Addr.add _ _).block≠_;rw [add_block];exact Nat.ne_of_lt (Nat.lt_of_lt_of_le (by have:=World.block_lt_of_cell? _ _ hw221_1;first|rwa [add_block] at this|exact this) GW223.out))|(dsimp only;exact Nat.ne_of_lt (Nat.lt_of_lt_of_le (by have:=World.block_lt_of_cell? _ _ hw221_1;first|rwa [add_block] at this|exact this) GW223.out))):p:=h
theorem y1z_ {p:Prop} (h:p:=by first|exact Nat.ne_of_lt (Nat.lt_of_lt_of_le (by have:=World.block_lt_of_cell? _ _ hw221_0;first|rwa [add_block] at this|exact this) GW224.out)|(rw [add_block];exact Nat.ne_of_lt (Nat.lt_of_lt_of_le (by have:=World.block_lt_of_cell? _ _ hw221_0;first|rwa [add_block] at this|exact this) GW224.out))|(show (Addr.add _ _).block≠_;rw [add_block];exact Nat.ne_of_lt (Nat.lt_of_lt_of_le (by have:=World.block_lt_of_cell? _ _ hw221_0;first|rwa [add_block] at this|exact this) GW224.out))|(dsimp only;exact Nat.ne_of_lt (Nat.lt_of_lt_of_le (by have:=World.block_lt_of_cell? _ _ hw221_0;first|rwa [add_block] at this|exact this) GW224.out))):p:=h
theorem y20_ {p:Prop} (h:p:=by first|exact Nat.ne_of_lt (Nat.lt_of_lt_of_le (by have:=World.block_lt_of_cell? _ _ hw221_0;first|rwa [add_block] at this|exact this) GW223.out)|(rw [add_block];exact Nat.ne_of_lt (Nat.lt_of_lt_of_le (by have:=World.block_lt_of_cell? _ _ hw221_0;first|rwa [add_block] at this|exact this) GW223.out))|(show (Addr.add _ _).block≠_;rw [add_block];exact Nat.ne_of_lt (Nat.lt_of_lt_of_le (by have:=World.block_lt_of_cell? _ _ hw221_0;first|rwa [add_block] at this|exact this) GW223.out))|(dsimp only;exact Nat.ne_of_lt (Nat.lt_of_lt_of_le (by have:=World.block_lt_of_cell? _ _ hw221_0;first|rwa [add_block] at this|exact this) GW223.out))):p:=h
theorem y21_ {p:Prop} (h:p:=by (with_reducible repeat (first|refine blk_drewN ?_ _|refine blk_drew ?_|refine blk_alloc ?_ _));refine blk_far ?_ NB562_576.out _;(with_reducible repeat (first|refine blk_drewN ?_ _|refine blk_drew ?_|refine blk_alloc ?_ _));refine blk_far ?_ NB562_576.out _;(with_reducible repeat (first|refine blk_drewN ?_ _|refine blk_drew ?_|refine blk_alloc ?_ _));refine blk_far ?_ NB562_576.out _;(with_reducible repeat (first|refine blk_drewN ?_ _|refine blk_drew ?_|refine blk_alloc ?_ _));refine blk_far ?_ NB562_576.out _;(with_reducible repeat (first|refine blk_drewN ?_ _|refine blk_drew ?_|refine blk_alloc ?_ _));exact BK562.out):p:=h
theorem y22_ {p:Prop} (h:p:=by repeat (first|(with_reducible first|exact HB.out|apply below_alloc|apply pw_below_drewN|apply below_drew1|refine below_set ?_ GE626.out|refine below_set ?_ GE627.out)|exact HB.out)):p:=h
theorem y23_ {p:Prop} (h:p:=by repeat (first|(with_reducible first|exact HB.out|apply below_alloc|apply pw_below_drewN|apply below_drew1|refine below_set ?_ GE136.out|refine below_set ?_ GE141.out)|exact HB.out)):p:=h
theorem y24_ {p:Prop} (h:p:=by repeat (first|(with_reducible first|exact HB.out|apply below_alloc|apply pw_below_drewN|apply below_drew1|refine below_set ?_ GE581.out)|exact HB.out)):p:=h
theorem y25_ {p:Prop} (h:p:=by repeat (first|(with_reducible first|exact HB.out|apply below_alloc|apply pw_below_drewN|apply below_drew1|refine below_set ?_ GE219.out|refine below_set ?_ GE220.out)|exact HB.out)):p:=h
theorem y26_ {p:Prop} (h:p:=by repeat (first|(with_reducible first|exact HB.out|apply below_alloc|apply pw_below_drewN|apply below_drew1|refine below_set ?_ GE453.out)|exact HB.out)):p:=h
theorem y27_ {p:Prop} (h:p:=by repeat (first|(with_reducible first|exact HB.out|apply below_alloc|apply pw_below_drewN|apply below_drew1|refine below_set ?_ GE314.out)|exact HB.out)):p:=h
theorem y28_ {p:Prop} (h:p:=by (with_reducible repeat (first|refine blk_drewN ?_ _|refine blk_drew ?_|refine blk_alloc ?_ _));refine blk_far ?_ NB640_641.out _;(with_reducible repeat (first|refine blk_drewN ?_ _|refine blk_drew ?_|refine blk_alloc ?_ _));refine blk_far ?_ NB640_641.out _;(with_reducible repeat (first|refine blk_drewN ?_ _|refine blk_drew ?_|refine blk_alloc ?_ _));refine blk_far ?_ NB640_641.out _;(with_reducible repeat (first|refine blk_drewN ?_ _|refine blk_drew ?_|refine blk_alloc ?_ _));refine blk_far ?_ NB640_641.out _;(with_reducible repeat (first|refine blk_drewN ?_ _|refine blk_drew ?_|refine blk_alloc ?_ _));refine blk_far ?_ NB640_641.out _;(with_reducible repeat (first|refine blk_drewN ?_ _|refine blk_drew ?_|refine blk_alloc ?_ _));exact BK640.out):p:=h
theorem y29_ {p:Prop} (h:p:=by repeat (first|(with_reducible first|exact HB.out|apply below_alloc|apply pw_below_drewN|apply below_drew1|refine below_set ?_ GE646.out|refine below_set ?_ GE647.out|refine below_set ?_ GE648.out)|exact HB.out)):p:=h
theorem y2a_ {p:Prop} (h:p:=by repeat (first|(with_reducible first|exact HB.out|apply below_alloc|apply pw_below_drewN|apply below_drew1|refine below_set ?_ GE486.out|refine below_set ?_ GE495.out)|exact HB.out)):p:=h
theorem y2b_ {p:Prop} (h:p:=by repeat (first|(with_reducible first|exact HB.out|apply below_alloc|apply pw_below_drewN|apply below_drew1|refine below_set ?_ GE655.out)|exact HB.out)):p:=h
theorem y2c_ {p:Prop} (h:p:=by repeat (first|(with_reducible first|exact HB.out|apply below_alloc|apply pw_below_drewN|apply below_drew1|refine below_set ?_ GE586.out)|exact HB.out)):p:=h
theorem y2d_ {p:Prop} (h:p:=by (with_reducible repeat (first|refine blk_drewN ?_ _|refine blk_drew ?_|refine blk_alloc ?_ _));refine blk_put (cs:=#[.int .i64 ((rd_T51 t251 x41_2).f0),.bool false]) ?_ 1 _ rfl;(with_reducible repeat (first|refine blk_drewN ?_ _|refine blk_drew ?_|refine blk_alloc ?_ _));refine blk_put (cs:=#[.int .i64 0,.bool false]) ?_ 0 _ rfl;(with_reducible repeat (first|refine blk_drewN ?_ _|refine blk_drew ?_|refine blk_alloc ?_ _));exact BK255.out):p:=h
theorem y2e_ {p:Prop} (h:p:=by repeat (first|(with_reducible first|exact HB.out|apply below_alloc|apply pw_below_drewN|apply below_drew1|refine below_set ?_ GE529.out|refine below_set ?_ GE538.out)|exact HB.out)):p:=h
theorem y2f_ {p:Prop} (h:p:=by (with_reducible repeat (first|refine blk_drewN ?_ _|refine blk_drew ?_|refine blk_alloc ?_ _));refine blk_far ?_ NB136_141.out _;(with_reducible repeat (first|refine blk_drewN ?_ _|refine blk_drew ?_|refine blk_alloc ?_ _));refine blk_far ?_ NB136_141.out _;(with_reducible repeat (first|refine blk_drewN ?_ _|refine blk_drew ?_|refine blk_alloc ?_ _));refine blk_far ?_ NB136_141.out _;(with_reducible repeat (first|refine blk_drewN ?_ _|refine blk_drew ?_|refine blk_alloc ?_ _));refine blk_far ?_ NB136_141.out _;(with_reducible repeat (first|refine blk_drewN ?_ _|refine blk_drew ?_|refine blk_alloc ?_ _));exact BK136.out):p:=h
theorem y2g_ {p:Prop} (h:p:=by repeat (first|(with_reducible first|exact HB.out|apply below_alloc|apply pw_below_drewN|apply below_drew1|refine below_set ?_ GE136.out)|exact HB.out)):p:=h
theorem y2h_ {p:Prop} (h:p:=by repeat (first|(with_reducible first|exact HB.out|apply below_alloc|apply pw_below_drewN|apply below_drew1|refine below_set ?_ GE126.out)|exact HB.out)):p:=h
theorem y2i_ {p:Prop} (h:p:=by repeat (first|(with_reducible first|exact HB.out|apply below_alloc|apply pw_below_drewN|apply below_drew1|refine below_set ?_ GE119.out)|exact HB.out)):p:=h
theorem y2j_ {p:Prop} (h:p:=by repeat (first|(with_reducible first|exact HB.out|apply below_alloc|apply pw_below_drewN|apply below_drew1|refine below_set ?_ GE111.out)|exact HB.out)):p:=h
theorem y2k_ {p:Prop} (h:p:=by repeat (first|(with_reducible first|exact HB.out|apply below_alloc|apply pw_below_drewN|apply below_drew1|refine below_set ?_ GE586.out|refine below_set ?_ GE593.out)|exact HB.out)):p:=h
theorem y2l_ {p:Prop} (h:p:=by repeat (first|(with_reducible first|exact HB.out|apply below_alloc|apply pw_below_drewN|apply below_drew1|refine below_set ?_ GE586.out|refine below_set ?_ GE592.out)|exact HB.out)):p:=h
theorem y2m_ {p:Prop} (h:p:=by repeat (first|(with_reducible first|exact HB.out|apply below_alloc|apply pw_below_drewN|apply below_drew1|refine below_set ?_ GE586.out|refine below_set ?_ GE591.out)|exact HB.out)):p:=h
theorem y2n_ {p:Prop} (h:p:=by (with_reducible repeat (first|refine blk_drewN ?_ _|refine blk_drew ?_|refine blk_alloc ?_ _));refine blk_far ?_ NB246_255.out _;(with_reducible repeat (first|refine blk_drewN ?_ _|refine blk_drew ?_|refine blk_alloc ?_ _));refine blk_far ?_ NB246_255.out _;(with_reducible repeat (first|refine blk_drewN ?_ _|refine blk_drew ?_|refine blk_alloc ?_ _));exact BK246.out):p:=h
theorem y2o_ {p:Prop} (h:p:=by repeat (first|(with_reducible first|exact HB.out|apply below_alloc|apply pw_below_drewN|apply below_drew1|refine below_set ?_ GE447.out)|exact HB.out)):p:=h
theorem y2p_ {p:Prop} (h:p:=by repeat (first|(with_reducible first|exact HB.out|apply below_alloc|apply pw_below_drewN|apply below_drew1|refine below_set ?_ GE320.out)|exact HB.out)):p:=h
theorem y2q_ {p:Prop} (h:p:=by repeat (first|(with_reducible first|exact HB.out|apply below_alloc|apply pw_below_drewN|apply below_drew1|refine below_set ?_ GE646.out|refine below_set ?_ GE647.out)|exact HB.out)):p:=h
theorem y2r_ {p:Prop} (h:p:=by repeat (first|(with_reducible first|exact HB.out|apply below_alloc|apply pw_below_drewN|apply below_drew1|refine below_set ?_ GE581.out|refine below_set ?_ GE585.out)|exact HB.out)):p:=h
theorem y2s_ {p:Prop} (h:p:=by repeat (first|(with_reducible first|exact HB.out|apply below_alloc|apply pw_below_drewN|apply below_drew1|refine below_set ?_ GE581.out|refine below_set ?_ GE584.out)|exact HB.out)):p:=h
theorem y2t_ {p:Prop} (h:p:=by repeat (first|(with_reducible first|exact HB.out|apply below_alloc|apply pw_below_drewN|apply below_drew1|refine below_set ?_ GE626.out|refine below_set ?_ GE627.out|refine below_set ?_ GE629.out)|exact HB.out)):p:=h
theorem y2u_ {p:Prop} (h:p:=by repeat (first|(with_reducible first|exact HB.out|apply below_alloc|apply pw_below_drewN|apply below_drew1|refine below_set ?_ GE581.out|refine below_set ?_ GE584.out|refine below_set ?_ GE585.out)|exact HB.out)):p:=h
theorem y2v_ {p:Prop} (h:p:=by repeat (first|(with_reducible first|exact HB.out|apply below_alloc|apply pw_below_drewN|apply below_drew1|refine below_set ?_ GE646.out)|exact HB.out)):p:=h
theorem y2w_ {p:Prop} (h:p:=by repeat (first|(with_reducible first|exact HB.out|apply below_alloc|apply pw_below_drewN|apply below_drew1|refine below_set ?_ GE603.out)|exact HB.out)):p:=h
theorem y2x_ {p:Prop} (h:p:=by repeat (first|(with_reducible first|exact HB.out|apply below_alloc|apply pw_below_drewN|apply below_drew1|refine below_set ?_ GE518.out)|exact HB.out)):p:=h
theorem y2y_ {p:Prop} (h:p:=by repeat (first|(with_reducible first|exact HB.out|apply below_alloc|apply pw_below_drewN|apply below_drew1|refine below_set ?_ GE101.out)|exact HB.out)):p:=h
theorem y2z_ {p:Prop} (h:p:=by repeat (first|(with_reducible first|exact HB.out|apply below_alloc|apply pw_below_drewN|apply below_drew1|refine below_set ?_ GE216.out|refine below_set ?_ GE218.out)|exact HB.out)):p:=h
theorem y30_ {p:Prop} (h:p:=by repeat (first|(with_reducible first|exact HB.out|apply below_alloc|apply pw_below_drewN|apply below_drew1|refine below_set ?_ GE219.out|refine below_set ?_ GE220.out|refine below_set ?_ GE223.out|refine below_set ?_ GE224.out)|exact HB.out)):p:=h
theorem y31_ {p:Prop} (h:p:=by repeat (first|(with_reducible first|exact HB.out|apply below_alloc|apply pw_below_drewN|apply below_drew1|refine below_set ?_ GE586.out|refine below_set ?_ GE592.out|refine below_set ?_ GE593.out)|exact HB.out)):p:=h
theorem y32_ {p:Prop} (h:p:=by repeat (first|(with_reducible first|exact HB.out|apply below_alloc|apply pw_below_drewN|apply below_drew1|refine below_set ?_ GE586.out|refine below_set ?_ GE591.out|refine below_set ?_ GE593.out)|exact HB.out)):p:=h
theorem y33_ {p:Prop} (h:p:=by repeat (first|(with_reducible first|exact HB.out|apply below_alloc|apply pw_below_drewN|apply below_drew1|refine below_set ?_ GE586.out|refine below_set ?_ GE591.out|refine below_set ?_ GE592.out)|exact HB.out)):p:=h
theorem y34_ {p:Prop} (h:p:=by first|exact Nat.ne_of_lt (Nat.lt_of_lt_of_le (by have:=World.block_lt_of_cell? _ _ hw590_3;first|rwa [add_block] at this|exact this) GW593.out)|(rw [add_block];exact Nat.ne_of_lt (Nat.lt_of_lt_of_le (by have:=World.block_lt_of_cell? _ _ hw590_3;first|rwa [add_block] at this|exact this) GW593.out))|(show (Addr.add _ _).block≠_;rw [add_block];exact Nat.ne_of_lt (Nat.lt_of_lt_of_le (by have:=World.block_lt_of_cell? _ _ hw590_3;first|rwa [add_block] at this|exact this) GW593.out))|(dsimp only;exact Nat.ne_of_lt (Nat.lt_of_lt_of_le (by have:=World.block_lt_of_cell? _ _ hw590_3;first|rwa [add_block] at this|exact this) GW593.out))):p:=h
theorem y35_ {p:Prop} (h:p:=by first|exact Nat.ne_of_lt (Nat.lt_of_lt_of_le (by have:=World.block_lt_of_cell? _ _ hw590_3;first|rwa [add_block] at this|exact this) GW592.out)|(rw [add_block];exact Nat.ne_of_lt (Nat.lt_of_lt_of_le (by have:=World.block_lt_of_cell? _ _ hw590_3;first|rwa [add_block] at this|exact this) GW592.out))|(show (Addr.add _ _).block≠_;rw [add_block];exact Nat.ne_of_lt (Nat.lt_of_lt_of_le (by have:=World.block_lt_of_cell? _ _ hw590_3;first|rwa [add_block] at this|exact this) GW592.out))|(dsimp only;exact Nat.ne_of_lt (Nat.lt_of_lt_of_le (by have:=World.block_lt_of_cell? _ _ hw590_3;first|rwa [add_block] at this|exact this) GW592.out))):p:=h
theorem y36_ {p:Prop} (h:p:=by first|exact Nat.ne_of_lt (Nat.lt_of_lt_of_le (by have:=World.block_lt_of_cell? _ _ hw590_3;first|rwa [add_block] at this|exact this) GW591.out)|(rw [add_block];exact Nat.ne_of_lt (Nat.lt_of_lt_of_le (by have:=World.block_lt_of_cell? _ _ hw590_3;first|rwa [add_block] at this|exact this) GW591.out))|(show (Addr.add _ _).block≠_;rw [add_block];exact Nat.ne_of_lt (Nat.lt_of_lt_of_le (by have:=World.block_lt_of_cell? _ _ hw590_3;first|rwa [add_block] at this|exact this) GW591.out))|(dsimp only;exact Nat.ne_of_lt (Nat.lt_of_lt_of_le (by have:=World.block_lt_of_cell? _ _ hw590_3;first|rwa [add_block] at this|exact this) GW591.out))):p:=h
theorem y37_ {p:Prop} (h:p:=by first|exact Nat.ne_of_lt (Nat.lt_of_lt_of_le (by have:=World.block_lt_of_cell? _ _ hw590_2;first|rwa [add_block] at this|exact this) GW593.out)|(rw [add_block];exact Nat.ne_of_lt (Nat.lt_of_lt_of_le (by have:=World.block_lt_of_cell? _ _ hw590_2;first|rwa [add_block] at this|exact this) GW593.out))|(show (Addr.add _ _).block≠_;rw [add_block];exact Nat.ne_of_lt (Nat.lt_of_lt_of_le (by have:=World.block_lt_of_cell? _ _ hw590_2;first|rwa [add_block] at this|exact this) GW593.out))|(dsimp only;exact Nat.ne_of_lt (Nat.lt_of_lt_of_le (by have:=World.block_lt_of_cell? _ _ hw590_2;first|rwa [add_block] at this|exact this) GW593.out))):p:=h
theorem y38_ {p:Prop} (h:p:=by first|exact Nat.ne_of_lt (Nat.lt_of_lt_of_le (by have:=World.block_lt_of_cell? _ _ hw590_2;first|rwa [add_block] at this|exact this) GW592.out)|(rw [add_block];exact Nat.ne_of_lt (Nat.lt_of_lt_of_le (by have:=World.block_lt_of_cell? _ _ hw590_2;first|rwa [add_block] at this|exact this) GW592.out))|(show (Addr.add _ _).block≠_;rw [add_block];exact Nat.ne_of_lt (Nat.lt_of_lt_of_le (by have:=World.block_lt_of_cell? _ _ hw590_2;first|rwa [add_block] at this|exact this) GW592.out))|(dsimp only;exact Nat.ne_of_lt (Nat.lt_of_lt_of_le (by have:=World.block_lt_of_cell? _ _ hw590_2;first|rwa [add_block] at this|exact this) GW592.out))):p:=h
theorem y39_ {p:Prop} (h:p:=by first|exact Nat.ne_of_lt (Nat.lt_of_lt_of_le (by have:=World.block_lt_of_cell? _ _ hw590_2;first|rwa [add_block] at this|exact this) GW591.out)|(rw [add_block];exact Nat.ne_of_lt (Nat.lt_of_lt_of_le (by have:=World.block_lt_of_cell? _ _ hw590_2;first|rwa [add_block] at this|exact this) GW591.out))|(show (Addr.add _ _).block≠_;rw [add_block];exact Nat.ne_of_lt (Nat.lt_of_lt_of_le (by have:=World.block_lt_of_cell? _ _ hw590_2;first|rwa [add_block] at this|exact this) GW591.out))|(dsimp only;exact Nat.ne_of_lt (Nat.lt_of_lt_of_le (by have:=World.block_lt_of_cell? _ _ hw590_2;first|rwa [add_block] at this|exact this) GW591.out))):p:=h
theorem y3a_ {p:Prop} (h:p:=by first|exact Nat.ne_of_lt (Nat.lt_of_lt_of_le (by have:=World.block_lt_of_cell? _ _ hw590_1;first|rwa [add_block] at this|exact this) GW593.out)|(rw [add_block];exact Nat.ne_of_lt (Nat.lt_of_lt_of_le (by have:=World.block_lt_of_cell? _ _ hw590_1;first|rwa [add_block] at this|exact this) GW593.out))|(show (Addr.add _ _).block≠_;rw [add_block];exact Nat.ne_of_lt (Nat.lt_of_lt_of_le (by have:=World.block_lt_of_cell? _ _ hw590_1;first|rwa [add_block] at this|exact this) GW593.out))|(dsimp only;exact Nat.ne_of_lt (Nat.lt_of_lt_of_le (by have:=World.block_lt_of_cell? _ _ hw590_1;first|rwa [add_block] at this|exact this) GW593.out))):p:=h
theorem y3b_ {p:Prop} (h:p:=by first|exact Nat.ne_of_lt (Nat.lt_of_lt_of_le (by have:=World.block_lt_of_cell? _ _ hw590_1;first|rwa [add_block] at this|exact this) GW592.out)|(rw [add_block];exact Nat.ne_of_lt (Nat.lt_of_lt_of_le (by have:=World.block_lt_of_cell? _ _ hw590_1;first|rwa [add_block] at this|exact this) GW592.out))|(show (Addr.add _ _).block≠_;rw [add_block];exact Nat.ne_of_lt (Nat.lt_of_lt_of_le (by have:=World.block_lt_of_cell? _ _ hw590_1;first|rwa [add_block] at this|exact this) GW592.out))|(dsimp only;exact Nat.ne_of_lt (Nat.lt_of_lt_of_le (by have:=World.block_lt_of_cell? _ _ hw590_1;first|rwa [add_block] at this|exact this) GW592.out))):p:=h
theorem y3c_ {p:Prop} (h:p:=by first|exact Nat.ne_of_lt (Nat.lt_of_lt_of_le (by have:=World.block_lt_of_cell? _ _ hw590_1;first|rwa [add_block] at this|exact this) GW591.out)|(rw [add_block];exact Nat.ne_of_lt (Nat.lt_of_lt_of_le (by have:=World.block_lt_of_cell? _ _ hw590_1;first|rwa [add_block] at this|exact this) GW591.out))|(show (Addr.add _ _).block≠_;rw [add_block];exact Nat.ne_of_lt (Nat.lt_of_lt_of_le (by have:=World.block_lt_of_cell? _ _ hw590_1;first|rwa [add_block] at this|exact this) GW591.out))|(dsimp only;exact Nat.ne_of_lt (Nat.lt_of_lt_of_le (by have:=World.block_lt_of_cell? _ _ hw590_1;first|rwa [add_block] at this|exact this) GW591.out))):p:=h
theorem y3d_ {p:Prop} (h:p:=by first|exact Nat.ne_of_lt (Nat.lt_of_lt_of_le (by have:=World.block_lt_of_cell? _ _ hw590_0;first|rwa [add_block] at this|exact this) GW593.out)|(rw [add_block];exact Nat.ne_of_lt (Nat.lt_of_lt_of_le (by have:=World.block_lt_of_cell? _ _ hw590_0;first|rwa [add_block] at this|exact this) GW593.out))|(show (Addr.add _ _).block≠_;rw [add_block];exact Nat.ne_of_lt (Nat.lt_of_lt_of_le (by have:=World.block_lt_of_cell? _ _ hw590_0;first|rwa [add_block] at this|exact this) GW593.out))|(dsimp only;exact Nat.ne_of_lt (Nat.lt_of_lt_of_le (by have:=World.block_lt_of_cell? _ _ hw590_0;first|rwa [add_block] at this|exact this) GW593.out))):p:=h
theorem y3e_ {p:Prop} (h:p:=by first|exact Nat.ne_of_lt (Nat.lt_of_lt_of_le (by have:=World.block_lt_of_cell? _ _ hw590_0;first|rwa [add_block] at this|exact this) GW592.out)|(rw [add_block];exact Nat.ne_of_lt (Nat.lt_of_lt_of_le (by have:=World.block_lt_of_cell? _ _ hw590_0;first|rwa [add_block] at this|exact this) GW592.out))|(show (Addr.add _ _).block≠_;rw [add_block];exact Nat.ne_of_lt (Nat.lt_of_lt_of_le (by have:=World.block_lt_of_cell? _ _ hw590_0;first|rwa [add_block] at this|exact this) GW592.out))|(dsimp only;exact Nat.ne_of_lt (Nat.lt_of_lt_of_le (by have:=World.block_lt_of_cell? _ _ hw590_0;first|rwa [add_block] at this|exact this) GW592.out))):p:=h
theorem y3f_ {p:Prop} (h:p:=by first|exact Nat.ne_of_lt (Nat.lt_of_lt_of_le (by have:=World.block_lt_of_cell? _ _ hw590_0;first|rwa [add_block] at this|exact this) GW591.out)|(rw [add_block];exact Nat.ne_of_lt (Nat.lt_of_lt_of_le (by have:=World.block_lt_of_cell? _ _ hw590_0;first|rwa [add_block] at this|exact this) GW591.out))|(show (Addr.add _ _).block≠_;rw [add_block];exact Nat.ne_of_lt (Nat.lt_of_lt_of_le (by have:=World.block_lt_of_cell? _ _ hw590_0;first|rwa [add_block] at this|exact this) GW591.out))|(dsimp only;exact Nat.ne_of_lt (Nat.lt_of_lt_of_le (by have:=World.block_lt_of_cell? _ _ hw590_0;first|rwa [add_block] at this|exact this) GW591.out))):p:=h
theorem y3g_ {p:Prop} (h:p:=by first|exact Nat.ne_of_lt (Nat.lt_of_lt_of_le (by have:=World.block_lt_of_cell? _ _ hw589_3;first|rwa [add_block] at this|exact this) GW593.out)|(rw [add_block];exact Nat.ne_of_lt (Nat.lt_of_lt_of_le (by have:=World.block_lt_of_cell? _ _ hw589_3;first|rwa [add_block] at this|exact this) GW593.out))|(show (Addr.add _ _).block≠_;rw [add_block];exact Nat.ne_of_lt (Nat.lt_of_lt_of_le (by have:=World.block_lt_of_cell? _ _ hw589_3;first|rwa [add_block] at this|exact this) GW593.out))|(dsimp only;exact Nat.ne_of_lt (Nat.lt_of_lt_of_le (by have:=World.block_lt_of_cell? _ _ hw589_3;first|rwa [add_block] at this|exact this) GW593.out))):p:=h
theorem y3h_ {p:Prop} (h:p:=by first|exact Nat.ne_of_lt (Nat.lt_of_lt_of_le (by have:=World.block_lt_of_cell? _ _ hw589_3;first|rwa [add_block] at this|exact this) GW592.out)|(rw [add_block];exact Nat.ne_of_lt (Nat.lt_of_lt_of_le (by have:=World.block_lt_of_cell? _ _ hw589_3;first|rwa [add_block] at this|exact this) GW592.out))|(show (Addr.add _ _).block≠_;rw [add_block];exact Nat.ne_of_lt (Nat.lt_of_lt_of_le (by have:=World.block_lt_of_cell? _ _ hw589_3;first|rwa [add_block] at this|exact this) GW592.out))|(dsimp only;exact Nat.ne_of_lt (Nat.lt_of_lt_of_le (by have:=World.block_lt_of_cell? _ _ hw589_3;first|rwa [add_block] at this|exact this) GW592.out))):p:=h
theorem y3i_ {p:Prop} (h:p:=by first|exact Nat.ne_of_lt (Nat.lt_of_lt_of_le (by have:=World.block_lt_of_cell? _ _ hw589_3;first|rwa [add_block] at this|exact this) GW591.out)|(rw [add_block];exact Nat.ne_of_lt (Nat.lt_of_lt_of_le (by have:=World.block_lt_of_cell? _ _ hw589_3;first|rwa [add_block] at this|exact this) GW591.out))|(show (Addr.add _ _).block≠_;rw [add_block];exact Nat.ne_of_lt (Nat.lt_of_lt_of_le (by have:=World.block_lt_of_cell? _ _ hw589_3;first|rwa [add_block] at this|exact this) GW591.out))|(dsimp only;exact Nat.ne_of_lt (Nat.lt_of_lt_of_le (by have:=World.block_lt_of_cell? _ _ hw589_3;first|rwa [add_block] at this|exact this) GW591.out))):p:=h
theorem y3j_ {p:Prop} (h:p:=by first|exact Nat.ne_of_lt (Nat.lt_of_lt_of_le (by have:=World.block_lt_of_cell? _ _ hw589_2;first|rwa [add_block] at this|exact this) GW593.out)|(rw [add_block];exact Nat.ne_of_lt (Nat.lt_of_lt_of_le (by have:=World.block_lt_of_cell? _ _ hw589_2;first|rwa [add_block] at this|exact this) GW593.out))|(show (Addr.add _ _).block≠_;rw [add_block];exact Nat.ne_of_lt (Nat.lt_of_lt_of_le (by have:=World.block_lt_of_cell? _ _ hw589_2;first|rwa [add_block] at this|exact this) GW593.out))|(dsimp only;exact Nat.ne_of_lt (Nat.lt_of_lt_of_le (by have:=World.block_lt_of_cell? _ _ hw589_2;first|rwa [add_block] at this|exact this) GW593.out))):p:=h
theorem y3k_ {p:Prop} (h:p:=by first|exact Nat.ne_of_lt (Nat.lt_of_lt_of_le (by have:=World.block_lt_of_cell? _ _ hw589_2;first|rwa [add_block] at this|exact this) GW592.out)|(rw [add_block];exact Nat.ne_of_lt (Nat.lt_of_lt_of_le (by have:=World.block_lt_of_cell? _ _ hw589_2;first|rwa [add_block] at this|exact this) GW592.out))|(show (Addr.add _ _).block≠_;rw [add_block];exact Nat.ne_of_lt (Nat.lt_of_lt_of_le (by have:=World.block_lt_of_cell? _ _ hw589_2;first|rwa [add_block] at this|exact this) GW592.out))|(dsimp only;exact Nat.ne_of_lt (Nat.lt_of_lt_of_le (by have:=World.block_lt_of_cell? _ _ hw589_2;first|rwa [add_block] at this|exact this) GW592.out))):p:=h
theorem y3l_ {p:Prop} (h:p:=by first|exact Nat.ne_of_lt (Nat.lt_of_lt_of_le (by have:=World.block_lt_of_cell? _ _ hw589_2;first|rwa [add_block] at this|exact this) GW591.out)|(rw [add_block];exact Nat.ne_of_lt (Nat.lt_of_lt_of_le (by have:=World.block_lt_of_cell? _ _ hw589_2;first|rwa [add_block] at this|exact this) GW591.out))|(show (Addr.add _ _).block≠_;rw [add_block];exact Nat.ne_of_lt (Nat.lt_of_lt_of_le (by have:=World.block_lt_of_cell? _ _ hw589_2;first|rwa [add_block] at this|exact this) GW591.out))|(dsimp only;exact Nat.ne_of_lt (Nat.lt_of_lt_of_le (by have:=World.block_lt_of_cell? _ _ hw589_2;first|rwa [add_block] at this|exact this) GW591.out))):p:=h
theorem y3m_ {p:Prop} (h:p:=by first|exact Nat.ne_of_lt (Nat.lt_of_lt_of_le (by have:=World.block_lt_of_cell? _ _ hw589_1;first|rwa [add_block] at this|exact this) GW593.out)|(rw [add_block];exact Nat.ne_of_lt (Nat.lt_of_lt_of_le (by have:=World.block_lt_of_cell? _ _ hw589_1;first|rwa [add_block] at this|exact this) GW593.out))|(show (Addr.add _ _).block≠_;rw [add_block];exact Nat.ne_of_lt (Nat.lt_of_lt_of_le (by have:=World.block_lt_of_cell? _ _ hw589_1;first|rwa [add_block] at this|exact this) GW593.out))|(dsimp only;exact Nat.ne_of_lt (Nat.lt_of_lt_of_le (by have:=World.block_lt_of_cell? _ _ hw589_1;first|rwa [add_block] at this|exact this) GW593.out))):p:=h
theorem y3n_ {p:Prop} (h:p:=by first|exact Nat.ne_of_lt (Nat.lt_of_lt_of_le (by have:=World.block_lt_of_cell? _ _ hw589_1;first|rwa [add_block] at this|exact this) GW592.out)|(rw [add_block];exact Nat.ne_of_lt (Nat.lt_of_lt_of_le (by have:=World.block_lt_of_cell? _ _ hw589_1;first|rwa [add_block] at this|exact this) GW592.out))|(show (Addr.add _ _).block≠_;rw [add_block];exact Nat.ne_of_lt (Nat.lt_of_lt_of_le (by have:=World.block_lt_of_cell? _ _ hw589_1;first|rwa [add_block] at this|exact this) GW592.out))|(dsimp only;exact Nat.ne_of_lt (Nat.lt_of_lt_of_le (by have:=World.block_lt_of_cell? _ _ hw589_1;first|rwa [add_block] at this|exact this) GW592.out))):p:=h
theorem y3o_ {p:Prop} (h:p:=by first|exact Nat.ne_of_lt (Nat.lt_of_lt_of_le (by have:=World.block_lt_of_cell? _ _ hw589_1;first|rwa [add_block] at this|exact this) GW591.out)|(rw [add_block];exact Nat.ne_of_lt (Nat.lt_of_lt_of_le (by have:=World.block_lt_of_cell? _ _ hw589_1;first|rwa [add_block] at this|exact this) GW591.out))|(show (Addr.add _ _).block≠_;rw [add_block];exact Nat.ne_of_lt (Nat.lt_of_lt_of_le (by have:=World.block_lt_of_cell? _ _ hw589_1;first|rwa [add_block] at this|exact this) GW591.out))|(dsimp only;exact Nat.ne_of_lt (Nat.lt_of_lt_of_le (by have:=World.block_lt_of_cell? _ _ hw589_1;first|rwa [add_block] at this|exact this) GW591.out))):p:=h
theorem y3p_ {p:Prop} (h:p:=by first|exact Nat.ne_of_lt (Nat.lt_of_lt_of_le (by have:=World.block_lt_of_cell? _ _ hw589_0;first|rwa [add_block] at this|exact this) GW593.out)|(rw [add_block];exact Nat.ne_of_lt (Nat.lt_of_lt_of_le (by have:=World.block_lt_of_cell? _ _ hw589_0;first|rwa [add_block] at this|exact this) GW593.out))|(show (Addr.add _ _).block≠_;rw [add_block];exact Nat.ne_of_lt (Nat.lt_of_lt_of_le (by have:=World.block_lt_of_cell? _ _ hw589_0;first|rwa [add_block] at this|exact this) GW593.out))|(dsimp only;exact Nat.ne_of_lt (Nat.lt_of_lt_of_le (by have:=World.block_lt_of_cell? _ _ hw589_0;first|rwa [add_block] at this|exact this) GW593.out))):p:=h
theorem y3q_ {p:Prop} (h:p:=by first|exact Nat.ne_of_lt (Nat.lt_of_lt_of_le (by have:=World.block_lt_of_cell? _ _ hw589_0;first|rwa [add_block] at this|exact this) GW592.out)|(rw [add_block];exact Nat.ne_of_lt (Nat.lt_of_lt_of_le (by have:=World.block_lt_of_cell? _ _ hw589_0;first|rwa [add_block] at this|exact this) GW592.out))|(show (Addr.add _ _).block≠_;rw [add_block];exact Nat.ne_of_lt (Nat.lt_of_lt_of_le (by have:=World.block_lt_of_cell? _ _ hw589_0;first|rwa [add_block] at this|exact this) GW592.out))|(dsimp only;exact Nat.ne_of_lt (Nat.lt_of_lt_of_le (by have:=World.block_lt_of_cell? _ _ hw589_0;first|rwa [add_block] at this|exact this) GW592.out))):p:=h
theorem y3r_ {p:Prop} (h:p:=by first|exact Nat.ne_of_lt (Nat.lt_of_lt_of_le (by have:=World.block_lt_of_cell? _ _ hw589_0;first|rwa [add_block] at this|exact this) GW591.out)|(rw [add_block];exact Nat.ne_of_lt (Nat.lt_of_lt_of_le (by have:=World.block_lt_of_cell? _ _ hw589_0;first|rwa [add_block] at this|exact this) GW591.out))|(show (Addr.add _ _).block≠_;rw [add_block];exact Nat.ne_of_lt (Nat.lt_of_lt_of_le (by have:=World.block_lt_of_cell? _ _ hw589_0;first|rwa [add_block] at this|exact this) GW591.out))|(dsimp only;exact Nat.ne_of_lt (Nat.lt_of_lt_of_le (by have:=World.block_lt_of_cell? _ _ hw589_0;first|rwa [add_block] at this|exact this) GW591.out))):p:=h
theorem y3s_ {p:Prop} (h:p:=by simp only [List.length_append,List.length_cons,List.length_nil];omega):p:=h
theorem y3t_ {p:Prop} (h:p:=by repeat (first|(with_reducible first|exact HB.out|apply below_alloc|apply pw_below_drewN|apply below_drew1|refine below_set ?_ GE635.out|refine below_set ?_ GE636.out)|exact HB.out)):p:=h
theorem y3u_ {p:Prop} (h:p:=by repeat (first|(with_reducible first|exact HB.out|apply below_alloc|apply pw_below_drewN|apply below_drew1|refine below_set ?_ GE586.out|refine below_set ?_ GE591.out|refine below_set ?_ GE592.out|refine below_set ?_ GE593.out)|exact HB.out)):p:=h
theorem y3v_ {p:Prop} (h:p:=by repeat (first|(with_reducible first|exact HB.out|apply below_alloc|apply pw_below_drewN|apply below_drew1|refine below_set ?_ GE224.out)|exact HB.out)):p:=h
theorem y3w_ {p:Prop} (h:p:=by simp only [putAll,Act.put,List.setIfInBounds_toArray,List.set_cons_zero,List.set_cons_succ]):p:=h
theorem y3x_ {p:Prop} (h:p:=by (with_reducible repeat (first|refine blk_drewN ?_ _|refine blk_drew ?_|refine blk_alloc ?_ _));refine blk_put (cs:=#[.int .i64 ((rd_T105 l0 x10_1).f0),.int .i64 0]) ?_ 1 _ rfl;(with_reducible repeat (first|refine blk_drewN ?_ _|refine blk_drew ?_|refine blk_alloc ?_ _));refine blk_put (cs:=#[.int .i64 0,.int .i64 0]) ?_ 0 _ rfl;(with_reducible repeat (first|refine blk_drewN ?_ _|refine blk_drew ?_|refine blk_alloc ?_ _));exact BK629.out):p:=h
theorem y3y_ {p:Prop} (h:p:=by repeat (first|(with_reducible first|exact HB.out|apply below_alloc|apply pw_below_drewN|apply below_drew1|refine below_set ?_ GE640.out|refine below_set ?_ GE641.out|refine below_set ?_ GE642.out)|exact HB.out)):p:=h
theorem y3z_ {p:Prop} (h:p:=by repeat (first|(with_reducible first|exact HB.out|apply below_alloc|apply pw_below_drewN|apply below_drew1|refine below_set ?_ GE219.out|refine below_set ?_ GE220.out|refine below_set ?_ GE224.out)|exact HB.out)):p:=h
theorem y40_ {p:Prop} (h:p:=by repeat (first|(with_reducible first|exact HB.out|apply below_alloc|apply pw_below_drewN|apply below_drew1|refine below_set ?_ GE219.out|refine below_set ?_ GE220.out|refine below_set ?_ GE223.out)|exact HB.out)):p:=h
theorem y41_ {p:Prop} (h:p:=by repeat (first|(with_reducible first|exact HB.out|apply below_alloc|apply pw_below_drewN|apply below_drew1|refine below_set ?_ GE640.out|refine below_set ?_ GE641.out)|exact HB.out)):p:=h
theorem y42_ {p:Prop} (h:p:=by (with_reducible repeat (first|refine blk_drewN ?_ _|refine blk_drew ?_|refine blk_alloc ?_ _));refine blk_far ?_ NB627_629.out _;(with_reducible repeat (first|refine blk_drewN ?_ _|refine blk_drew ?_|refine blk_alloc ?_ _));refine blk_far ?_ NB627_629.out _;(with_reducible repeat (first|refine blk_drewN ?_ _|refine blk_drew ?_|refine blk_alloc ?_ _));exact BK627.out):p:=h
theorem y43_ {p:Prop} (h:p:=by (with_reducible repeat (first|refine blk_drewN ?_ _|refine blk_drew ?_|refine blk_alloc ?_ _));refine blk_far ?_ NB626_629.out _;(with_reducible repeat (first|refine blk_drewN ?_ _|refine blk_drew ?_|refine blk_alloc ?_ _));refine blk_far ?_ NB626_629.out _;(with_reducible repeat (first|refine blk_drewN ?_ _|refine blk_drew ?_|refine blk_alloc ?_ _));exact BK626.out):p:=h
theorem y44_ {p:Prop} (h:p:=by (with_reducible repeat (first|apply Kd.R_alloc|apply Kd.R_drewN|apply Kd.R_drew));exact (Kd.R_mono (Kd.R_far (p:=⟨gb255,1,none⟩) (Kd.R_far (p:=⟨gb255,0,none⟩) (Kd.R_mono HO_39.out (fun k_ hk=>(⟨hk,hk.2⟩:_∧k_≠gb255))) (fun _ hk=>hk.2) (.int .i64 ((rd_T51 t251 x41_2).f0))) (fun _ hk=>hk.2) (.bool false)) (fun _ h_=>h_.1))):p:=h
theorem y45_ {p:Prop} (h:p:=by (with_reducible repeat (first|apply Kd.R_alloc|apply Kd.R_drewN|apply Kd.R_drew));exact (Kd.R_mono (Kd.R_far (p:=⟨gb255,1,none⟩) (Kd.R_far (p:=⟨gb255,0,none⟩) (Kd.R_mono HO_39.out (fun k_ hk=>(⟨hk,hk.2⟩:_∧k_≠gb255))) (fun _ hk=>hk.2) (.int .i64 ((rd_T51 t251 x41_2).f0))) (fun _ hk=>hk.2) (.bool true)) (fun _ h_=>h_.1))):p:=h
theorem y46_ {p:Prop} (h:p:=by (with_reducible repeat (first|apply Kd.R_alloc|apply Kd.R_drewN|apply Kd.R_drew));exact (Kd.R_mono (Kd.R_far (p:=⟨gb255,1,none⟩) (Kd.R_far (p:=⟨gb255,0,none⟩) (Kd.R_types HO_12.out BK255.out (by decide)) (fun _ hk=>hk.2) (.int .i64 ((rd_T51 t251 x41_2).f0))) (fun _ hk=>hk.2) (.bool false)) (fun _ h_=>h_.1))):p:=h
theorem y47_ {p:Prop} (h:p:=by (with_reducible repeat (first|apply Kd.R_alloc|apply Kd.R_drewN|apply Kd.R_drew));exact (Kd.R_mono (Kd.R_far (p:=⟨gb255,1,none⟩) (Kd.R_far (p:=⟨gb255,0,none⟩) (Kd.R_types HO_12.out BK255.out (by decide)) (fun _ hk=>hk.2) (.int .i64 ((rd_T51 t251 x41_2).f0))) (fun _ hk=>hk.2) (.bool true)) (fun _ h_=>h_.1))):p:=h
theorem y48_ {p:Prop} (h:p:=by repeat (first|(with_reducible first|exact HB.out|apply below_alloc|apply pw_below_drewN|apply below_drew1|refine below_set ?_ GE640.out)|exact HB.out)):p:=h
theorem y49_ {p:Prop} (h:p:=by repeat (first|(with_reducible first|exact HB.out|apply below_alloc|apply pw_below_drewN|apply below_drew1|refine below_set ?_ GE635.out)|exact HB.out)):p:=h
theorem y4a_ {p:Prop} (h:p:=by repeat (first|(with_reducible first|exact HB.out|apply below_alloc|apply pw_below_drewN|apply below_drew1|refine below_set ?_ GE626.out)|exact HB.out)):p:=h
theorem y4b_ {p:Prop} (h:p:=by repeat (first|(with_reducible first|exact HB.out|apply below_alloc|apply pw_below_drewN|apply below_drew1|refine below_set ?_ GE624.out)|exact HB.out)):p:=h
theorem y4c_ {p:Prop} (h:p:=by repeat (first|(with_reducible first|exact HB.out|apply below_alloc|apply pw_below_drewN|apply below_drew1|refine below_set ?_ GE611.out)|exact HB.out)):p:=h
theorem y4d_ {p:Prop} (h:p:=by repeat (first|(with_reducible first|exact HB.out|apply below_alloc|apply pw_below_drewN|apply below_drew1|refine below_set ?_ GE450.out)|exact HB.out)):p:=h
theorem y4e_ {p:Prop} (h:p:=by repeat (first|(with_reducible first|exact HB.out|apply below_alloc|apply pw_below_drewN|apply below_drew1|refine below_set ?_ GE241.out)|exact HB.out)):p:=h
theorem y4f_ {p:Prop} (h:p:=by repeat (first|(with_reducible first|exact HB.out|apply below_alloc|apply pw_below_drewN|apply below_drew1|refine below_set ?_ GE219.out)|exact HB.out)):p:=h
theorem y4g_ {p:Prop} (h:p:=by repeat (first|(with_reducible first|exact HB.out|apply below_alloc|apply pw_below_drewN|apply below_drew1|refine below_set ?_ GE216.out)|exact HB.out)):p:=h
theorem y4h_ {p:Prop} (h:p:=by repeat (first|(with_reducible first|exact HB.out|apply below_alloc|apply pw_below_drewN|apply below_drew1|refine below_set ?_ GE208.out)|exact HB.out)):p:=h
theorem y4i_ {p:Prop} (h:p:=by repeat (first|(with_reducible first|exact HB.out|apply below_alloc|apply pw_below_drewN|apply below_drew1|refine below_set ?_ GE133.out)|exact HB.out)):p:=h
theorem y4j_ {p:Prop} (h:p:=by repeat (first|(with_reducible first|exact HB.out|apply below_alloc|apply pw_below_drewN|apply below_drew1|refine below_set ?_ GE103.out)|exact HB.out)):p:=h
theorem y4k_ {p:Prop} (h:p:=by repeat (first|(with_reducible first|exact HB.out|apply below_alloc|apply pw_below_drewN|apply below_drew1|refine below_set ?_ GE581.out|refine below_set ?_ GE585.out|refine below_set ?_ GE584.out)|exact HB.out)):p:=h
theorem y4l_ {p:Prop} (h:p:=by rw [List.length_map];omega):p:=h
theorem y4m_ {p:Prop} (h:p:=by repeat (first|(with_reducible first|exact HB.out|apply below_alloc|apply pw_below_drewN|apply below_drew1|refine below_set ?_ GE622.out)|exact HB.out)):p:=h
theorem y4n_ {p:Prop} (h:p:=by repeat (first|(with_reducible first|exact HB.out|apply below_alloc|apply pw_below_drewN|apply below_drew1|refine below_set ?_ GE239.out)|exact HB.out)):p:=h
theorem y4o_ {p:Prop} (h:p:=by repeat (first|(with_reducible first|exact HB.out|apply below_alloc|apply pw_below_drewN|apply below_drew1|refine below_set ?_ GE212.out)|exact HB.out)):p:=h
theorem y4p_ {p:Prop} (h:p:=by (try simp only [World.size_alloc]);omega):p:=h
end Go.Proofs.YtaidphhkhddemaaGreatDoor.PSky
end
section
namespace Go.Proofs.YtaidphhkhddemaaGreatDoor.PSky
open Go.RowKit Go.Proofs.YtaidphhkhddemaaGreatDoorW.PrintWords Go.Proofs.YtaidphhkhddemaaGreatDoorW.PrintLast Go.Proofs.YtaidphhkhddemaaGreatDoorW.PrintMore
attribute [local go_sem] max2_int min2_int max_two min_two max_three min_three max_four min_four
set_option linter.unusedVariables false
set_option linter.unusedSimpArgs false
theorem eqA51 (d:Nat) (w:World) (x0 y0:Int) (x1 y1:Bool):
  (Op.equalIn (d+2) 51 (.agg #[.int .i64 x0,.bool x1]) (.agg #[.int .i64 y0,.bool y1])).run Tryz.prog w=.ok (x0 == y0 && (x1 == y1)) w:=by
 refine eqA_of Tryz.underlying51 (by kernel_rfl) ?_
 refine eqf_cons (by rfl) (by go_simp;rfl) (by go_simp;rfl) (by go_simp) ?_
 exact eqf_last (by rfl) (by go_simp;rfl) (by go_simp;rfl) (by go_simp)
end Go.Proofs.YtaidphhkhddemaaGreatDoor.PSky
end
section
namespace Go.Proofs.YtaidphhkhddemaaGreatDoor.PSky
open Go.RowKit Go.Proofs.YtaidphhkhddemaaGreatDoorW.PrintWords Go.Proofs.YtaidphhkhddemaaGreatDoorW.PrintLast Go.Proofs.YtaidphhkhddemaaGreatDoorW.PrintMore
attribute [local go_sem] max2_int min2_int max_two min_two max_three min_three max_four min_four
set_option linter.unusedVariables false
set_option linter.unusedSimpArgs false
theorem eqA54 (d:Nat) (w:World) (x0 y0:Int) (x1 y1:Bool) (x2 y2:Int):
  (Op.equalIn (d+2) 54 (.agg #[.int .i64 x0,.bool x1,.int .i64 x2]) (.agg #[.int .i64 y0,.bool y1,.int .i64 y2])).run Tryz.prog w=.ok (x0 == y0 && (x1 == y1 && (x2 == y2))) w:=by
 refine eqA_of Tryz.underlying54 (by kernel_rfl) ?_
 refine eqf_cons (by rfl) (by go_simp;rfl) (by go_simp;rfl) (by go_simp) ?_
 refine eqf_cons (by rfl) (by go_simp;rfl) (by go_simp;rfl) (by go_simp) ?_
 exact eqf_last (by rfl) (by go_simp;rfl) (by go_simp;rfl) (by go_simp)
end Go.Proofs.YtaidphhkhddemaaGreatDoor.PSky
end
section
namespace Go.Proofs.YtaidphhkhddemaaGreatDoor.PSky
open Go.RowKit Go.Proofs.YtaidphhkhddemaaGreatDoorW.PrintWords Go.Proofs.YtaidphhkhddemaaGreatDoorW.PrintLast Go.Proofs.YtaidphhkhddemaaGreatDoorW.PrintMore
attribute [local go_sem] max2_int min2_int max_two min_two max_three min_three max_four min_four
set_option linter.unusedVariables false
set_option linter.unusedSimpArgs false
def sky_in.f (a0:Int) (a1:Int) (a2:Int):Option (Bool):=if a0 ≥ a1 then (some (decide (a0≤a2))) else (some false)
set_option maxHeartbeats 8000000 in
set_option maxRecDepth 100000 in
theorem sky_in.calls (a0:Int) (a1:Int) (a2:Int) (r:Bool) (w:World) (h:sky_in.f a0 a1 a2=some r):
  Calls Tryz.prog 71 #[.int .i64 a0,.int .i64 a1,.int .i64 a2] w fun e w'=>e=.returned (.bool r)∧Drawn0 w w':=by
 have H:(if a0 ≥ a1 then (some (decide (a0≤a2))) else (some false))=some r:=h
 clear h
 by_cases c4:a0 ≥ a1
 ·rw [if_pos c4] at H;have c4b0:decide (a1≤a0)=true:=decide_eq_true c4;clear c4;obtain rfl:=Option.some.inj H
  go_enter Tryz.func71,Tryz.ntmps71
  go_wp2;go_ret
  exact ⟨y5_,yt_⟩
 ·rw [if_neg c4] at H;have c4b0:decide (a1≤a0)=false:=decide_eq_false c4;clear c4;obtain rfl:=Option.some.inj H
  go_enter Tryz.func71,Tryz.ntmps71
  go_wp2;go_ret
  exact ⟨y5_,yt_⟩
def sky_isPeriod.f (a0_0:Int) (a0_1:Int):Option (Bool):=(sky_in.f a0_0 1 10000).bind fun t104=>(if t104=true then ((sky_in.f a0_1 1 10000).bind fun t105=>(if t105=true then (some (decide (a0_0 ≥ (wrap64 (4*a0_1))))) else (some false))) else (some false))
set_option maxHeartbeats 8000000 in
set_option maxRecDepth 100000 in
theorem sky_isPeriod.calls (a0_0:Int) (a0_1:Int) (r:Bool) (w:World) (h:sky_isPeriod.f a0_0 a0_1=some r):
  Calls Tryz.prog 96 #[.agg #[.int .i64 a0_0,.int .i64 a0_1]] w fun e w'=>e=.returned (.bool r)∧Below w.heap.size w w':=by
 have hu24:=Tryz.underlying24
 have HB:=A0_ (Below.refl w.heap.size w)
 have H:((sky_in.f a0_0 1 10000).bind fun t104=>(if t104=true then ((sky_in.f a0_1 1 10000).bind fun t105=>(if t105=true then (some (decide (a0_0 ≥ (wrap64 (4*a0_1))))) else (some false))) else (some false)))=some r:=h
 clear h;replace H:=Option.bind_eq_some_iff.mp H;obtain ⟨t104,A20,H⟩:=H
 replace H:(if t104=true then ((sky_in.f a0_1 1 10000).bind fun t105=>(if t105=true then (some (decide (a0_0 ≥ (wrap64 (4*a0_1))))) else (some false))) else (some false))=some r:=H
 have A2:=A0_ A20;clear A20
 by_cases c3:t104=true
 ·subst c3
  have H1:((sky_in.f a0_1 1 10000).bind fun t105=>(if t105=true then (some (decide (a0_0 ≥ (wrap64 (4*a0_1))))) else (some false)))=some r:=by rw [if_pos rfl] at H;exact H
  clear H;have H:=H1;clear H1;replace H:=Option.bind_eq_some_iff.mp H;obtain ⟨t105,A40,H⟩:=H
  replace H:(if t105=true then (some (decide (a0_0 ≥ (wrap64 (4*a0_1))))) else (some false))=some r:=H
  have A4:=A0_ A40;clear A40
  by_cases c5:t105=true
  ·subst c5
   have H1:(some (decide (a0_0 ≥ (wrap64 (4*a0_1)))))=some r:=by rw [if_pos rfl] at H;exact H
   clear H;have H:=H1;clear H1;obtain rfl:=Option.some.inj H
   go_enter Tryz.func96,Tryz.ntmps96
   go_wp2_with (first|((with_reducible refine gate_dst (N:=1) rfl ?_);refine box_event ?hg (N:=1) ?hd (cs:=#[.int .i64 a0_0,.int .i64 a0_1]) (t:=24) ?hr ?_;(case hd=>rfl);(case hg=>rfl);(case hr=>first|(go_simp;done)|(go_simp;rfl));intro gb103 hg w6 hbox hb;have n0_:=A0_ (below_step y0_ hb);have n1_:=A0_ (hbox);have n2_:=A0_ ((by rw [hg];exact (below_size y0_):w.heap.size≤gb103));have n3_:=A0_ ((by rw [hg];exact (below_size y0_):w.heap.size≤gb103));clear HB;have HB:=n0_;have BK103:=n1_;have GW103:=n2_;have GE103:=n3_;clear n0_ n1_ n2_ n3_;clear hb hbox hg;obtain ⟨hcz7_0,hcz7_1,hfz7_0,hfz7_1⟩:=bq2_ BK103.out)|((with_reducible refine gate_callee (f:=71) rfl ?_);refine goesL_ (some 5) rfl rfl Tryz.func71 (by kernel_rfl) rfl #[.int .i64 a0_0,.int .i64 1,.int .i64 10000] rfl y1_ ?_;(with_reducible refine (sky_in.calls a0_0 1 10000 true _ A2.out).mono ?_);rintro e w' ⟨rfl,⟨nd,rfl⟩⟩;refine ⟨_,rfl,?_⟩)|(go_at_call 71;(with_reducible refine (sky_in.calls a0_1 1 10000 true _ A4.out).mono ?_);rintro e w' ⟨rfl,⟨nd,rfl⟩⟩))
   go_ret
   exact ⟨y3_,y4j_⟩
  ·replace c5:=Bool.eq_false_iff.mpr c5;subst c5
   have H1:(some false)=some r:=by rw [if_neg (show ¬ (false=true) by decide)] at H;exact H
   clear H;have H:=H1;clear H1;obtain rfl:=Option.some.inj H
   go_enter Tryz.func96,Tryz.ntmps96
   go_wp2_with (first|((with_reducible refine gate_dst (N:=1) rfl ?_);refine box_event ?hg (N:=1) ?hd (cs:=#[.int .i64 a0_0,.int .i64 a0_1]) (t:=24) ?hr ?_;(case hd=>rfl);(case hg=>rfl);(case hr=>first|(go_simp;done)|(go_simp;rfl));intro gb103 hg w8 hbox hb;have n0_:=A0_ (below_step y0_ hb);have n1_:=A0_ (hbox);have n2_:=A0_ ((by rw [hg];exact (below_size y0_):w.heap.size≤gb103));have n3_:=A0_ ((by rw [hg];exact (below_size y0_):w.heap.size≤gb103));clear HB;have HB:=n0_;have BK103:=n1_;have GW103:=n2_;have GE103:=n3_;clear n0_ n1_ n2_ n3_;clear hb hbox hg;obtain ⟨hcz9_0,hcz9_1,hfz9_0,hfz9_1⟩:=bq2_ BK103.out)|((with_reducible refine gate_callee (f:=71) rfl ?_);refine goesL_ (some 5) rfl rfl Tryz.func71 (by kernel_rfl) rfl #[.int .i64 a0_0,.int .i64 1,.int .i64 10000] rfl y1_ ?_;(with_reducible refine (sky_in.calls a0_0 1 10000 true _ A2.out).mono ?_);rintro e w' ⟨rfl,⟨nd,rfl⟩⟩;refine ⟨_,rfl,?_⟩)|(go_at_call 71;(with_reducible refine (sky_in.calls a0_1 1 10000 false _ A4.out).mono ?_);rintro e w' ⟨rfl,⟨nd,rfl⟩⟩))
   go_ret
   exact ⟨y3_,y4j_⟩
 ·replace c3:=Bool.eq_false_iff.mpr c3;subst c3
  have H1:(some false)=some r:=by rw [if_neg (show ¬ (false=true) by decide)] at H;exact H
  clear H;have H:=H1;clear H1;obtain rfl:=Option.some.inj H
  go_enter Tryz.func96,Tryz.ntmps96
  go_wp2_with (first|((with_reducible refine gate_dst (N:=1) rfl ?_);refine box_event ?hg (N:=1) ?hd (cs:=#[.int .i64 a0_0,.int .i64 a0_1]) (t:=24) ?hr ?_;(case hd=>rfl);(case hg=>rfl);(case hr=>first|(go_simp;done)|(go_simp;rfl));intro gb103 hg w10 hbox hb;have n0_:=A0_ (below_step y0_ hb);have n1_:=A0_ (hbox);have n2_:=A0_ ((by rw [hg];exact (below_size y0_):w.heap.size≤gb103));have n3_:=A0_ ((by rw [hg];exact (below_size y0_):w.heap.size≤gb103));clear HB;have HB:=n0_;have BK103:=n1_;have GW103:=n2_;have GE103:=n3_;clear n0_ n1_ n2_ n3_;clear hb hbox hg;obtain ⟨hcz11_0,hcz11_1,hfz11_0,hfz11_1⟩:=bq2_ BK103.out)|((with_reducible refine gate_callee (f:=71) rfl ?_);refine goesL_ (some 5) rfl rfl Tryz.func71 (by kernel_rfl) rfl #[.int .i64 a0_0,.int .i64 1,.int .i64 10000] rfl y1_ ?_;(with_reducible refine (sky_in.calls a0_0 1 10000 false _ A2.out).mono ?_);rintro e w' ⟨rfl,⟨nd,rfl⟩⟩;refine ⟨_,rfl,?_⟩))
  go_ret
  exact ⟨y3_,y4j_⟩
def sky_isPlace.f (a0:Int):Option (Bool):=(sky_in.f a0 0 21599).bind fun t106=>(some t106)
set_option maxHeartbeats 8000000 in
set_option maxRecDepth 100000 in
theorem sky_isPlace.calls (a0:Int) (r:Bool) (w:World) (h:sky_isPlace.f a0=some r):
  Calls Tryz.prog 97 #[.int .i64 a0] w fun e w'=>e=.returned (.bool r)∧Drawn0 w w':=by
 have H:((sky_in.f a0 0 21599).bind fun t106=>(some t106))=some r:=h
 clear h;replace H:=Option.bind_eq_some_iff.mp H;obtain ⟨t106,A20,H⟩:=H
 replace H:(some t106)=some r:=H
 have A2:=A0_ A20;clear A20;obtain rfl:=Option.some.inj H
 go_enter Tryz.func97,Tryz.ntmps97
 go_wp2_with (first|((with_reducible refine gate_callee (f:=71) rfl ?_);refine goesL_ (some 4) rfl rfl Tryz.func71 (by kernel_rfl) rfl #[.int .i64 a0,.int .i64 0,.int .i64 21599] rfl y1_ ?_;(with_reducible refine (sky_in.calls a0 0 21599 t106 _ A2.out).mono ?_);rintro e w' ⟨rfl,⟨nd,rfl⟩⟩;refine ⟨_,rfl,?_⟩))
 go_ret
 exact ⟨y5_,yt_⟩
def sky_isSky_c1_c1.f (a0:Int):Option (Bool):=(sky_in.f a0 (-600) 600).bind fun t107=>(some (!t107))
set_option maxHeartbeats 8000000 in
set_option maxRecDepth 100000 in
theorem sky_isSky_c1_c1.calls (a0:Int) (r:Bool) (w:World) (h:sky_isSky_c1_c1.f a0=some r):
  Calls Tryz.prog 100 #[.int .i64 a0] w fun e w'=>e=.returned (.bool r)∧Drawn0 w w':=by
 have H:((sky_in.f a0 (-600) 600).bind fun t107=>(some (!t107)))=some r:=h
 clear h;replace H:=Option.bind_eq_some_iff.mp H;obtain ⟨t107,A20,H⟩:=H
 replace H:(some (!t107))=some r:=H
 have A2:=A0_ A20;clear A20;obtain rfl:=Option.some.inj H
 go_enter Tryz.func100,Tryz.ntmps100
 go_wp2_with (first|((with_reducible refine gate_callee (f:=71) rfl ?_);refine goesL_ (some 4) rfl rfl Tryz.func71 (by kernel_rfl) rfl #[.int .i64 a0,.int .i64 (-600),.int .i64 600] rfl y1_ ?_;(with_reducible refine (sky_in.calls a0 (-600) 600 t107 _ A2.out).mono ?_);rintro e w' ⟨rfl,⟨nd,rfl⟩⟩;refine ⟨_,rfl,?_⟩))
 go_ret
 exact ⟨y5_,yt_⟩
def iF_isSky_c1_c1.l0:Nat→List Int→Int→Int→Option (Int)
 |0,_,_,_=>none
 |k+1,x0,x7,x8=>if x8<x7 then (if 0≤x8 then (if x8<(x0.length:Int) then ((sky_isSky_c1_c1.f (rd x0 x8)).bind fun t109=>(if t109=true then (some x8) else (iF_isSky_c1_c1.l0 k x0 x7 (wrap64 (x8+1))))) else (none)) else (none)) else (some (-1))
def iF_isSky_c1_c1.f (k:Nat) (l0:List Int)  : Option (Int):=iF_isSky_c1_c1.l0 k l0 (l0.length:Int) 0
set_option maxHeartbeats 8000000 in
set_option maxRecDepth 100000 in
theorem iF_isSky_c1_c1.calls (k:Nat) (A0:Option Addr) (c0:Nat) (l0:List Int)  (r:Int) (w:World) (hr0:Kd.C (Kd.int .i64) w A0 l0.length l0) (hc0:l0.length≤c0) (h:iF_isSky_c1_c1.f k l0=some r):
  Calls Tryz.prog 116 #[.slice A0 l0.length c0,.func (.func 100) #[] #[]] w fun e w'=>e=.returned (.int .i64 r)∧Drawn0 w w':=by
 have HR0:=A0_ hr0;have HC0:=A0_ hc0;clear hr0 hc0
 have H:(iF_isSky_c1_c1.l0 k l0 (l0.length:Int) 0)=some r:=h
 clear h
 have H':=A0_ H
 clear H
 go_enter Tryz.func116,Tryz.ntmps116
 go_wp2
 go_loopg [8] k (fun kq v8 w'=>∃ (x8_1:Int),v8=.int .i64 x8_1∧Aside0 (iF_isSky_c1_c1.l0 kq l0 (l0.length:Int) x8_1=some r)∧Aside0 (kq≤k)∧Drawn0 w w')
 case atStart=>exact ⟨(0),y5_,H',⟨Nat.le_refl _⟩,yt_⟩
 case round=>
  clear H'
  (try clear c1);(try clear p2)
  obtain ⟨x8_1,rfl,HA,HK1,⟨m1,rfl⟩⟩:=hrel
  cases gk with
  |zero=>exact absurd HA.out (by simp [iF_isSky_c1_c1.l0])
  |succ k1=>
   have H:=HA.out
   clear HA
   simp only [iF_isSky_c1_c1.l0] at H
   by_cases c3:x8_1<(l0.length:Int)
   ·rw [if_pos c3] at H;have c3b0:decide (x8_1<(l0.length:Int))=true:=decide_eq_true c3;clear c3
    by_cases c4:0≤x8_1
    ·rw [if_pos c4] at H;have c4b0:decide (0≤x8_1)=true:=decide_eq_true c4;clear c4
     by_cases c5:x8_1<(l0.length:Int)
     ·rw [if_pos c5] at H;have c5b0:decide (x8_1<(l0.length:Int))=true:=decide_eq_true c5;clear c5;replace H:=Option.bind_eq_some_iff.mp H;obtain ⟨t109,A60,H⟩:=H
      replace H:(if t109=true then (some x8_1) else (iF_isSky_c1_c1.l0 k1 l0 (l0.length:Int) (wrap64 (x8_1+1))))=some r:=H
      have A6:=A0_ A60;clear A60
      by_cases c7:t109=true
      ·subst c7
       have H1:(some x8_1)=some r:=by rw [if_pos rfl] at H;exact H
       clear H;have H:=H1;clear H1;obtain rfl:=Option.some.inj H
       have p108:0≤(x8_1:Int):=of_decide_eq_true y6_
       have q108:x8_1<(l0.length:Int):=of_decide_eq_true y6_
       obtain ⟨ad108,e108,hx108_0⟩:=Kd.at_int HR0.out x8_1 p108 q108
       cases e108
       replace p108:=eq_true p108
       replace q108:=eq_true q108
       go_wp2_with (first|(go_at_call 100;(with_reducible refine (sky_isSky_c1_c1.calls (rd l0 x8_1) true _ A6.out).mono ?_);rintro e w' ⟨rfl,⟨nd,rfl⟩⟩))
       go_ret
       exact ⟨y5_,yt_⟩
      ·replace c7:=Bool.eq_false_iff.mpr c7;subst c7
       have H1:(iF_isSky_c1_c1.l0 k1 l0 (l0.length:Int) (wrap64 (x8_1+1)))=some r:=by rw [if_neg (show ¬ (false=true) by decide)] at H;exact H
       clear H;have H:=H1;clear H1
       have H':=A0_ H
       clear H
       have p108:0≤(x8_1:Int):=of_decide_eq_true y6_
       have q108:x8_1<(l0.length:Int):=of_decide_eq_true y6_
       obtain ⟨ad108,e108,hx108_0⟩:=Kd.at_int HR0.out x8_1 p108 q108
       cases e108
       replace p108:=eq_true p108
       replace q108:=eq_true q108
       go_wp2_with (first|(go_at_call 100;(with_reducible refine (sky_isSky_c1_c1.calls (rd l0 x8_1) false _ A6.out).mono ?_);rintro e w' ⟨rfl,⟨nd,rfl⟩⟩))
       go_roundg k1
       case measure=>have:=HK1.out;omega
       case rel=>exact ⟨(wrap64 (x8_1+1)),y5_,H',⟨by have:=HK1.out;omega⟩,yt_⟩
     ·rw [if_neg c5] at H;exact absurd H (by simp)
    ·rw [if_neg c4] at H;exact absurd H (by simp)
   ·rw [if_neg c3] at H;have c3b0:decide (x8_1<(l0.length:Int))=false:=decide_eq_false c3;clear c3;obtain rfl:=Option.some.inj H;go_wp2;go_ret
    exact ⟨y5_,yt_⟩
def cF_isSky_c1_c1.f (k:Nat) (l0:List Int)  : Option (Bool):=(iF_isSky_c1_c1.f k l0).bind fun t110=>(some (decide (t110 ≥ 0)))
set_option maxHeartbeats 8000000 in
set_option maxRecDepth 100000 in
theorem cF_isSky_c1_c1.calls (k:Nat) (A0:Option Addr) (c0:Nat) (l0:List Int)  (r:Bool) (w:World) (hr0:Kd.C (Kd.int .i64) w A0 l0.length l0) (hc0:l0.length≤c0) (h:cF_isSky_c1_c1.f k l0=some r):
  Calls Tryz.prog 72 #[.slice A0 l0.length c0,.func (.func 100) #[] #[]] w fun e w'=>e=.returned (.bool r)∧Drawn0 w w':=by
 have HR0:=A0_ hr0;have HC0:=A0_ hc0;clear hr0 hc0
 have H:((iF_isSky_c1_c1.f k l0).bind fun t110=>(some (decide (t110 ≥ 0))))=some r:=h
 clear h;replace H:=Option.bind_eq_some_iff.mp H;obtain ⟨t110,A30,H⟩:=H
 replace H:(some (decide (t110 ≥ 0)))=some r:=H
 have A3:=A0_ A30;clear A30;obtain rfl:=Option.some.inj H
 go_enter Tryz.func72,Tryz.ntmps72
 go_wp2_with (first|(go_at_call 116;(with_reducible refine (iF_isSky_c1_c1.calls k _ _ l0  t110 _ ?side1 ?side2 A3.out).mono ?_);(case side1=>repeat (first|exact HR0.out|(with_reducible refine Kd.C_alloc ?_ _)|(with_reducible refine Kd.C_drewN ?_ _)|(with_reducible refine Kd.C_drew ?_)));(case side2=>exact HC0.out);rintro e w' ⟨rfl,⟨nd,rfl⟩⟩))
 go_ret
 exact ⟨y5_,yt_⟩
def sky_isSky_c1.f (k:Nat) (a0_0:Int) (a0_1:Int) (a0_2:Int) (l0_3:List Int):Option (Bool):=(sky_isPeriod.f a0_0 a0_1).bind fun t112=>(if t112=true then ((sky_isPlace.f a0_2).bind fun t113=>(if t113=true then ((sky_in.f (l0_3.length:Int) 1 8).bind fun t114=>(if t114=true then ((cF_isSky_c1_c1.f k l0_3).bind fun t115=>(some t115)) else (some true))) else (some true))) else (some true))
set_option maxHeartbeats 8000000 in
set_option maxRecDepth 100000 in
theorem sky_isSky_c1.calls (k:Nat) (a0_0:Int) (a0_1:Int) (a0_2:Int) (A0_3:Option Addr) (c0_3:Nat) (l0_3:List Int) (r:Bool) (w:World) (hr0_3:Kd.C (Kd.int .i64) w A0_3 l0_3.length l0_3) (hc0_3:l0_3.length≤c0_3) (h:sky_isSky_c1.f k a0_0 a0_1 a0_2 l0_3=some r):
  Calls Tryz.prog 99 #[.agg #[.int .i64 a0_0,.int .i64 a0_1,.int .i64 a0_2,.slice A0_3 l0_3.length c0_3]] w fun e w'=>e=.returned (.bool r)∧Below w.heap.size w w':=by
 have hu83:=Tryz.underlying83
 have hu24:=Tryz.underlying24
 have HR0_3:=A0_ hr0_3;have HC0_3:=A0_ hc0_3;clear hr0_3 hc0_3
 have HB:=A0_ (Below.refl w.heap.size w)
 have H:((sky_isPeriod.f a0_0 a0_1).bind fun t112=>(if t112=true then ((sky_isPlace.f a0_2).bind fun t113=>(if t113=true then ((sky_in.f (l0_3.length:Int) 1 8).bind fun t114=>(if t114=true then ((cF_isSky_c1_c1.f k l0_3).bind fun t115=>(some t115)) else (some true))) else (some true))) else (some true)))=some r:=h
 clear h;replace H:=Option.bind_eq_some_iff.mp H;obtain ⟨t112,A20,H⟩:=H
 replace H:(if t112=true then ((sky_isPlace.f a0_2).bind fun t113=>(if t113=true then ((sky_in.f (l0_3.length:Int) 1 8).bind fun t114=>(if t114=true then ((cF_isSky_c1_c1.f k l0_3).bind fun t115=>(some t115)) else (some true))) else (some true))) else (some true))=some r:=H
 have A2:=A0_ A20;clear A20
 by_cases c3:t112=true
 ·subst c3
  have H1:((sky_isPlace.f a0_2).bind fun t113=>(if t113=true then ((sky_in.f (l0_3.length:Int) 1 8).bind fun t114=>(if t114=true then ((cF_isSky_c1_c1.f k l0_3).bind fun t115=>(some t115)) else (some true))) else (some true)))=some r:=by rw [if_pos rfl] at H;exact H
  clear H;have H:=H1;clear H1;replace H:=Option.bind_eq_some_iff.mp H;obtain ⟨t113,A40,H⟩:=H
  replace H:(if t113=true then ((sky_in.f (l0_3.length:Int) 1 8).bind fun t114=>(if t114=true then ((cF_isSky_c1_c1.f k l0_3).bind fun t115=>(some t115)) else (some true))) else (some true))=some r:=H
  have A4:=A0_ A40;clear A40
  by_cases c5:t113=true
  ·subst c5
   have H1:((sky_in.f (l0_3.length:Int) 1 8).bind fun t114=>(if t114=true then ((cF_isSky_c1_c1.f k l0_3).bind fun t115=>(some t115)) else (some true)))=some r:=by rw [if_pos rfl] at H;exact H
   clear H;have H:=H1;clear H1;replace H:=Option.bind_eq_some_iff.mp H;obtain ⟨t114,A60,H⟩:=H
   replace H:(if t114=true then ((cF_isSky_c1_c1.f k l0_3).bind fun t115=>(some t115)) else (some true))=some r:=H
   have A6:=A0_ A60;clear A60
   by_cases c7:t114=true
   ·subst c7
    have H1:((cF_isSky_c1_c1.f k l0_3).bind fun t115=>(some t115))=some r:=by rw [if_pos rfl] at H;exact H
    clear H;have H:=H1;clear H1;replace H:=Option.bind_eq_some_iff.mp H;obtain ⟨t115,A80,H⟩:=H
    replace H:(some t115)=some r:=H
    have A8:=A0_ A80;clear A80;obtain rfl:=Option.some.inj H
    go_enter Tryz.func99,Tryz.ntmps99
    go_wp2_with (first|((with_reducible refine gate_dst (N:=1) rfl ?_);(try (refine gate_guard (by rfl) ?_;dsimp only));refine box_event ?hg (N:=1) ?hd (cs:=#[.int .i64 a0_0,.int .i64 a0_1,.int .i64 a0_2,.slice A0_3 l0_3.length c0_3]) (t:=83) ?hr ?_;(case hd=>rfl);(case hg=>rfl);(case hr=>first|(go_simp;done)|(go_simp;rfl));intro gb111 hg w9 hbox hb;have n0_:=A0_ (below_step y0_ hb);have n1_:=A0_ (hbox);have n2_:=A0_ ((by rw [hg];exact (below_size y0_):w.heap.size≤gb111));have n3_:=A0_ ((by rw [hg];exact (below_size y0_):w.heap.size≤gb111));clear HB;have HB:=n0_;have BK111:=n1_;have GW111:=n2_;have GE111:=n3_;clear n0_ n1_ n2_ n3_;clear hb hbox hg;obtain ⟨hcz10_0,hcz10_1,hcz10_2,hcz10_3,hfz10_0,hfz10_1,hfz10_2,hfz10_3⟩:=bq4_ BK111.out)|((with_reducible refine gate_callee (f:=96) rfl ?_);refine goesL_ (some 5) rfl rfl Tryz.func96 (by kernel_rfl) rfl #[.agg #[.int .i64 a0_0,.int .i64 a0_1]] rfl y1_ ?_;(with_reducible refine (sky_isPeriod.calls a0_0 a0_1 true _ A2.out).mono ?_);rintro e w11 ⟨rfl,hb⟩;refine ⟨_,rfl,?_⟩;have n0_:=A0_ (blk_below (g:=gb111) (o:=.cells #[.int .i64 a0_0,.int .i64 a0_1,.int .i64 a0_2,.slice A0_3 l0_3.length c0_3] 83 (0,0)) (bd_ BK111.out) hb);have n1_:=A0_ (below_step y2j_ hb);clear BK111;clear HB;have BK111:=n0_;have HB:=n1_;clear n0_ n1_;(try clear hb);(try clear hb2);(try clear hk);(try clear hi);obtain ⟨hcz12_0,hcz12_1,hcz12_2,hcz12_3,hfz12_0,hfz12_1,hfz12_2,hfz12_3⟩:=bq4_ BK111.out)|(go_at_call 97;(with_reducible refine (sky_isPlace.calls a0_2 true _ A4.out).mono ?_);rintro e w' ⟨rfl,⟨nd,rfl⟩⟩)|(go_at_call 71;(with_reducible refine (sky_in.calls (l0_3.length:Int) 1 8 true _ A6.out).mono ?_);rintro e w' ⟨rfl,⟨nd,rfl⟩⟩)|(go_at_call 72;(with_reducible refine (cF_isSky_c1_c1.calls k _ _ l0_3  t115 _ ?side1 ?side2 A8.out).mono ?_);(case side1=>repeat (first|exact (Kd.C_below HR0_3.out y2j_)|(with_reducible refine Kd.C_alloc ?_ _)|(with_reducible refine Kd.C_drewN ?_ _)|(with_reducible refine Kd.C_drew ?_)));(case side2=>exact HC0_3.out);rintro e w' ⟨rfl,⟨nd,rfl⟩⟩))
    go_ret
    exact ⟨y3_,y2j_⟩
   ·replace c7:=Bool.eq_false_iff.mpr c7;subst c7
    have H1:(some true)=some r:=by rw [if_neg (show ¬ (false=true) by decide)] at H;exact H
    clear H;have H:=H1;clear H1;obtain rfl:=Option.some.inj H
    go_enter Tryz.func99,Tryz.ntmps99
    go_wp2_with (first|((with_reducible refine gate_dst (N:=1) rfl ?_);(try (refine gate_guard (by rfl) ?_;dsimp only));refine box_event ?hg (N:=1) ?hd (cs:=#[.int .i64 a0_0,.int .i64 a0_1,.int .i64 a0_2,.slice A0_3 l0_3.length c0_3]) (t:=83) ?hr ?_;(case hd=>rfl);(case hg=>rfl);(case hr=>first|(go_simp;done)|(go_simp;rfl));intro gb111 hg w13 hbox hb;have n0_:=A0_ (below_step y0_ hb);have n1_:=A0_ (hbox);have n2_:=A0_ ((by rw [hg];exact (below_size y0_):w.heap.size≤gb111));have n3_:=A0_ ((by rw [hg];exact (below_size y0_):w.heap.size≤gb111));clear HB;have HB:=n0_;have BK111:=n1_;have GW111:=n2_;have GE111:=n3_;clear n0_ n1_ n2_ n3_;clear hb hbox hg;obtain ⟨hcz14_0,hcz14_1,hcz14_2,hcz14_3,hfz14_0,hfz14_1,hfz14_2,hfz14_3⟩:=bq4_ BK111.out)|((with_reducible refine gate_callee (f:=96) rfl ?_);refine goesL_ (some 5) rfl rfl Tryz.func96 (by kernel_rfl) rfl #[.agg #[.int .i64 a0_0,.int .i64 a0_1]] rfl y1_ ?_;(with_reducible refine (sky_isPeriod.calls a0_0 a0_1 true _ A2.out).mono ?_);rintro e w15 ⟨rfl,hb⟩;refine ⟨_,rfl,?_⟩;have n0_:=A0_ (blk_below (g:=gb111) (o:=.cells #[.int .i64 a0_0,.int .i64 a0_1,.int .i64 a0_2,.slice A0_3 l0_3.length c0_3] 83 (0,0)) (bd_ BK111.out) hb);have n1_:=A0_ (below_step y2j_ hb);clear BK111;clear HB;have BK111:=n0_;have HB:=n1_;clear n0_ n1_;(try clear hb);(try clear hb2);(try clear hk);(try clear hi);obtain ⟨hcz16_0,hcz16_1,hcz16_2,hcz16_3,hfz16_0,hfz16_1,hfz16_2,hfz16_3⟩:=bq4_ BK111.out)|(go_at_call 97;(with_reducible refine (sky_isPlace.calls a0_2 true _ A4.out).mono ?_);rintro e w' ⟨rfl,⟨nd,rfl⟩⟩)|(go_at_call 71;(with_reducible refine (sky_in.calls (l0_3.length:Int) 1 8 false _ A6.out).mono ?_);rintro e w' ⟨rfl,⟨nd,rfl⟩⟩))
    go_ret
    exact ⟨y3_,y2j_⟩
  ·replace c5:=Bool.eq_false_iff.mpr c5;subst c5
   have H1:(some true)=some r:=by rw [if_neg (show ¬ (false=true) by decide)] at H;exact H
   clear H;have H:=H1;clear H1;obtain rfl:=Option.some.inj H
   go_enter Tryz.func99,Tryz.ntmps99
   go_wp2_with (first|((with_reducible refine gate_dst (N:=1) rfl ?_);(try (refine gate_guard (by rfl) ?_;dsimp only));refine box_event ?hg (N:=1) ?hd (cs:=#[.int .i64 a0_0,.int .i64 a0_1,.int .i64 a0_2,.slice A0_3 l0_3.length c0_3]) (t:=83) ?hr ?_;(case hd=>rfl);(case hg=>rfl);(case hr=>first|(go_simp;done)|(go_simp;rfl));intro gb111 hg w17 hbox hb;have n0_:=A0_ (below_step y0_ hb);have n1_:=A0_ (hbox);have n2_:=A0_ ((by rw [hg];exact (below_size y0_):w.heap.size≤gb111));have n3_:=A0_ ((by rw [hg];exact (below_size y0_):w.heap.size≤gb111));clear HB;have HB:=n0_;have BK111:=n1_;have GW111:=n2_;have GE111:=n3_;clear n0_ n1_ n2_ n3_;clear hb hbox hg;obtain ⟨hcz18_0,hcz18_1,hcz18_2,hcz18_3,hfz18_0,hfz18_1,hfz18_2,hfz18_3⟩:=bq4_ BK111.out)|((with_reducible refine gate_callee (f:=96) rfl ?_);refine goesL_ (some 5) rfl rfl Tryz.func96 (by kernel_rfl) rfl #[.agg #[.int .i64 a0_0,.int .i64 a0_1]] rfl y1_ ?_;(with_reducible refine (sky_isPeriod.calls a0_0 a0_1 true _ A2.out).mono ?_);rintro e w19 ⟨rfl,hb⟩;refine ⟨_,rfl,?_⟩;have n0_:=A0_ (blk_below (g:=gb111) (o:=.cells #[.int .i64 a0_0,.int .i64 a0_1,.int .i64 a0_2,.slice A0_3 l0_3.length c0_3] 83 (0,0)) (bd_ BK111.out) hb);have n1_:=A0_ (below_step y2j_ hb);clear BK111;clear HB;have BK111:=n0_;have HB:=n1_;clear n0_ n1_;(try clear hb);(try clear hb2);(try clear hk);(try clear hi);obtain ⟨hcz20_0,hcz20_1,hcz20_2,hcz20_3,hfz20_0,hfz20_1,hfz20_2,hfz20_3⟩:=bq4_ BK111.out)|(go_at_call 97;(with_reducible refine (sky_isPlace.calls a0_2 false _ A4.out).mono ?_);rintro e w' ⟨rfl,⟨nd,rfl⟩⟩))
   go_ret
   exact ⟨y3_,y2j_⟩
 ·replace c3:=Bool.eq_false_iff.mpr c3;subst c3
  have H1:(some true)=some r:=by rw [if_neg (show ¬ (false=true) by decide)] at H;exact H
  clear H;have H:=H1;clear H1;obtain rfl:=Option.some.inj H
  go_enter Tryz.func99,Tryz.ntmps99
  go_wp2_with (first|((with_reducible refine gate_dst (N:=1) rfl ?_);(try (refine gate_guard (by rfl) ?_;dsimp only));refine box_event ?hg (N:=1) ?hd (cs:=#[.int .i64 a0_0,.int .i64 a0_1,.int .i64 a0_2,.slice A0_3 l0_3.length c0_3]) (t:=83) ?hr ?_;(case hd=>rfl);(case hg=>rfl);(case hr=>first|(go_simp;done)|(go_simp;rfl));intro gb111 hg w21 hbox hb;have n0_:=A0_ (below_step y0_ hb);have n1_:=A0_ (hbox);have n2_:=A0_ ((by rw [hg];exact (below_size y0_):w.heap.size≤gb111));have n3_:=A0_ ((by rw [hg];exact (below_size y0_):w.heap.size≤gb111));clear HB;have HB:=n0_;have BK111:=n1_;have GW111:=n2_;have GE111:=n3_;clear n0_ n1_ n2_ n3_;clear hb hbox hg;obtain ⟨hcz22_0,hcz22_1,hcz22_2,hcz22_3,hfz22_0,hfz22_1,hfz22_2,hfz22_3⟩:=bq4_ BK111.out)|((with_reducible refine gate_callee (f:=96) rfl ?_);refine goesL_ (some 5) rfl rfl Tryz.func96 (by kernel_rfl) rfl #[.agg #[.int .i64 a0_0,.int .i64 a0_1]] rfl y1_ ?_;(with_reducible refine (sky_isPeriod.calls a0_0 a0_1 false _ A2.out).mono ?_);rintro e w23 ⟨rfl,hb⟩;refine ⟨_,rfl,?_⟩;have n0_:=A0_ (blk_below (g:=gb111) (o:=.cells #[.int .i64 a0_0,.int .i64 a0_1,.int .i64 a0_2,.slice A0_3 l0_3.length c0_3] 83 (0,0)) (bd_ BK111.out) hb);have n1_:=A0_ (below_step y2j_ hb);clear BK111;clear HB;have BK111:=n0_;have HB:=n1_;clear n0_ n1_;(try clear hb);(try clear hb2);(try clear hk);(try clear hi)))
  go_ret
  exact ⟨y3_,y2j_⟩
def iF_isSky_c1.l0:Nat→List (S83)→Int→Int→Option (Int)
 |0,_,_,_=>none
 |k+1,x0,x7,x8=>if x8<x7 then (if 0≤x8 then (if x8<(x0.length:Int) then ((sky_isSky_c1.f k ((rd_T83 x0 x8).f0.f0) ((rd_T83 x0 x8).f0.f1) ((rd_T83 x0 x8).f1) ((rd_T83 x0 x8).f2)).bind fun t117=>(if t117=true then (some x8) else (iF_isSky_c1.l0 k x0 x7 (wrap64 (x8+1))))) else (none)) else (none)) else (some (-1))
def iF_isSky_c1.f (k:Nat) (l0:List (S83))  : Option (Int):=iF_isSky_c1.l0 k l0 (l0.length:Int) 0
set_option maxHeartbeats 8000000 in
set_option maxRecDepth 100000 in
theorem iF_isSky_c1.calls (k:Nat) (A0:Option Addr) (c0:Nat) (l0:List (S83))  (r:Int) (w:World) (hr0:Kd.C k83 w A0 l0.length l0) (hc0:l0.length≤c0) (h:iF_isSky_c1.f k l0=some r):
  Calls Tryz.prog 126 #[.slice A0 l0.length c0,.func (.func 99) #[] #[]] w fun e w'=>e=.returned (.int .i64 r)∧Below w.heap.size w w':=by
 have hu83:=Tryz.underlying83
 have HR0:=A0_ hr0;have HC0:=A0_ hc0;clear hr0 hc0
 have HB:=A0_ (Below.refl w.heap.size w)
 have H:(iF_isSky_c1.l0 k l0 (l0.length:Int) 0)=some r:=h
 clear h
 have H':=A0_ H
 clear H
 go_enter Tryz.func126,Tryz.ntmps126
 go_wp2
 go_loopg [8] k (fun kq v8 w'=>∃ (x8_1:Int),v8=.int .i64 x8_1∧Aside0 (iF_isSky_c1.l0 kq l0 (l0.length:Int) x8_1=some r)∧Aside0 (kq≤k)∧Aside0 (Below w.heap.size w w'))
 case atStart=>exact ⟨(0),y5_,H',⟨Nat.le_refl _⟩,⟨y0_⟩⟩
 case round=>
  clear H'
  (try clear c1);(try clear p2)
  obtain ⟨x8_1,rfl,HA,HK1,HB⟩:=hrel
  cases gk with
  |zero=>exact absurd HA.out (by simp [iF_isSky_c1.l0])
  |succ k1=>
   have H:=HA.out
   clear HA
   simp only [iF_isSky_c1.l0] at H
   by_cases c3:x8_1<(l0.length:Int)
   ·rw [if_pos c3] at H;have c3b0:decide (x8_1<(l0.length:Int))=true:=decide_eq_true c3;clear c3
    by_cases c4:0≤x8_1
    ·rw [if_pos c4] at H;have c4b0:decide (0≤x8_1)=true:=decide_eq_true c4;clear c4
     by_cases c5:x8_1<(l0.length:Int)
     ·rw [if_pos c5] at H;have c5b0:decide (x8_1<(l0.length:Int))=true:=decide_eq_true c5;clear c5;replace H:=Option.bind_eq_some_iff.mp H;obtain ⟨t117,A60,H⟩:=H
      replace H:(if t117=true then (some x8_1) else (iF_isSky_c1.l0 k1 l0 (l0.length:Int) (wrap64 (x8_1+1))))=some r:=H
      have A6:=A0_ A60;clear A60
      by_cases c7:t117=true
      ·subst c7
       have H1:(some x8_1)=some r:=by rw [if_pos rfl] at H;exact H
       clear H;have H:=H1;clear H1;obtain rfl:=Option.some.inj H
       have p116:0≤(x8_1:Int):=of_decide_eq_true y6_
       have q116:x8_1<(l0.length:Int):=of_decide_eq_true y6_
       obtain ⟨ad116,A116_3,c116_3,e116,hx116_0,hx116_1,hx116_2,hx116_3,hl116_3,hi116_3⟩:=at_T83 HR0.out x8_1 p116 q116
       cases e116
       replace hx116_0:=(HB.out.cell (World.block_lt_of_cell? w _ hx116_0)).trans hx116_0
       replace hx116_1:=(HB.out.cell (World.block_lt_of_cell? w _ hx116_1)).trans hx116_1
       replace hx116_2:=(HB.out.cell (World.block_lt_of_cell? w _ hx116_2)).trans hx116_2
       replace hx116_3:=(HB.out.cell (World.block_lt_of_cell? w _ hx116_3)).trans hx116_3
       have HR116_3:=A0_ hi116_3;have HC116_3:=A0_ hl116_3;clear hi116_3 hl116_3
       replace p116:=eq_true p116
       replace q116:=eq_true q116
       go_wp2_with (first|(go_at_call 99;(with_reducible refine (sky_isSky_c1.calls k1 ((rd_T83 l0 x8_1).f0.f0) ((rd_T83 l0 x8_1).f0.f1) ((rd_T83 l0 x8_1).f1) _ _ ((rd_T83 l0 x8_1).f2) true _ ?side1 ?side2 A6.out).mono ?_);(case side1=>repeat (first|exact (Kd.C_below HR116_3.out HB.out)|(with_reducible refine Kd.C_alloc ?_ _)|(with_reducible refine Kd.C_drewN ?_ _)|(with_reducible refine Kd.C_drew ?_)));(case side2=>exact HC116_3.out);rintro e w8 ⟨rfl,hb⟩;have n0_:=A0_ (below_step y0_ hb);clear HB;have HB:=n0_;clear n0_;(try clear hb);(try clear hb2);(try clear hk);(try clear hi)))
       go_ret
       exact ⟨y3_,y0_⟩
      ·replace c7:=Bool.eq_false_iff.mpr c7;subst c7
       have H1:(iF_isSky_c1.l0 k1 l0 (l0.length:Int) (wrap64 (x8_1+1)))=some r:=by rw [if_neg (show ¬ (false=true) by decide)] at H;exact H
       clear H;have H:=H1;clear H1
       have H':=A0_ H
       clear H
       have p116:0≤(x8_1:Int):=of_decide_eq_true y6_
       have q116:x8_1<(l0.length:Int):=of_decide_eq_true y6_
       obtain ⟨ad116,A116_3,c116_3,e116,hx116_0,hx116_1,hx116_2,hx116_3,hl116_3,hi116_3⟩:=at_T83 HR0.out x8_1 p116 q116
       cases e116
       replace hx116_0:=(HB.out.cell (World.block_lt_of_cell? w _ hx116_0)).trans hx116_0
       replace hx116_1:=(HB.out.cell (World.block_lt_of_cell? w _ hx116_1)).trans hx116_1
       replace hx116_2:=(HB.out.cell (World.block_lt_of_cell? w _ hx116_2)).trans hx116_2
       replace hx116_3:=(HB.out.cell (World.block_lt_of_cell? w _ hx116_3)).trans hx116_3
       have HR116_3:=A0_ hi116_3;have HC116_3:=A0_ hl116_3;clear hi116_3 hl116_3
       replace p116:=eq_true p116
       replace q116:=eq_true q116
       go_wp2_with (first|(go_at_call 99;(with_reducible refine (sky_isSky_c1.calls k1 ((rd_T83 l0 x8_1).f0.f0) ((rd_T83 l0 x8_1).f0.f1) ((rd_T83 l0 x8_1).f1) _ _ ((rd_T83 l0 x8_1).f2) false _ ?side1 ?side2 A6.out).mono ?_);(case side1=>repeat (first|exact (Kd.C_below HR116_3.out HB.out)|(with_reducible refine Kd.C_alloc ?_ _)|(with_reducible refine Kd.C_drewN ?_ _)|(with_reducible refine Kd.C_drew ?_)));(case side2=>exact HC116_3.out);rintro e w9 ⟨rfl,hb⟩;have n0_:=A0_ (below_step y0_ hb);clear HB;have HB:=n0_;clear n0_;(try clear hb);(try clear hb2);(try clear hk);(try clear hi)))
       go_roundg k1
       case measure=>have:=HK1.out;omega
       case rel=>exact ⟨(wrap64 (x8_1+1)),y5_,H',⟨by have:=HK1.out;omega⟩,⟨y0_⟩⟩
     ·rw [if_neg c5] at H;exact absurd H (by simp)
    ·rw [if_neg c4] at H;exact absurd H (by simp)
   ·rw [if_neg c3] at H;have c3b0:decide (x8_1<(l0.length:Int))=false:=decide_eq_false c3;clear c3;obtain rfl:=Option.some.inj H;go_wp2;go_ret
    exact ⟨y3_,y0_⟩
def cF_isSky_c1.f (k:Nat) (l0:List (S83))  : Option (Bool):=(iF_isSky_c1.f k l0).bind fun t118=>(some (decide (t118 ≥ 0)))
set_option maxHeartbeats 8000000 in
set_option maxRecDepth 100000 in
theorem cF_isSky_c1.calls (k:Nat) (A0:Option Addr) (c0:Nat) (l0:List (S83))  (r:Bool) (w:World) (hr0:Kd.C k83 w A0 l0.length l0) (hc0:l0.length≤c0) (h:cF_isSky_c1.f k l0=some r):
  Calls Tryz.prog 98 #[.slice A0 l0.length c0,.func (.func 99) #[] #[]] w fun e w'=>e=.returned (.bool r)∧Below w.heap.size w w':=by
 have HR0:=A0_ hr0;have HC0:=A0_ hc0;clear hr0 hc0
 have HB:=A0_ (Below.refl w.heap.size w)
 have H:((iF_isSky_c1.f k l0).bind fun t118=>(some (decide (t118 ≥ 0))))=some r:=h
 clear h;replace H:=Option.bind_eq_some_iff.mp H;obtain ⟨t118,A30,H⟩:=H
 replace H:(some (decide (t118 ≥ 0)))=some r:=H
 have A3:=A0_ A30;clear A30;obtain rfl:=Option.some.inj H
 go_enter Tryz.func98,Tryz.ntmps98
 go_wp2_with (first|(go_at_call 126;(with_reducible refine (iF_isSky_c1.calls k _ _ l0  t118 _ ?side1 ?side2 A3.out).mono ?_);(case side1=>repeat (first|exact HR0.out|(with_reducible refine Kd.C_alloc ?_ _)|(with_reducible refine Kd.C_drewN ?_ _)|(with_reducible refine Kd.C_drew ?_)));(case side2=>exact HC0.out);rintro e w4 ⟨rfl,hb⟩;have n0_:=A0_ (below_step y0_ hb);clear HB;have HB:=n0_;clear n0_;(try clear hb);(try clear hb2);(try clear hk);(try clear hi)))
 go_ret
 exact ⟨y3_,y0_⟩
def sky_isSky.f (k:Nat) (l0_0:List (S83)) (a0_1:Int) (a0_2:Int) (a0_3:Int):Option (Bool):=(sky_in.f (l0_0.length:Int) 2 4).bind fun t120=>(if t120=true then ((sky_isPeriod.f a0_1 a0_2).bind fun t121=>(if t121=true then ((sky_isPlace.f a0_3).bind fun t122=>(if t122=true then ((cF_isSky_c1.f k l0_0).bind fun t123=>(some (!t123))) else (some false))) else (some false))) else (some false))
set_option maxHeartbeats 8000000 in
set_option maxRecDepth 100000 in
theorem sky_isSky.calls (k:Nat) (A0_0:Option Addr) (c0_0:Nat) (l0_0:List (S83)) (a0_1:Int) (a0_2:Int) (a0_3:Int) (r:Bool) (w:World) (hr0_0:Kd.C k83 w A0_0 l0_0.length l0_0) (hc0_0:l0_0.length≤c0_0) (h:sky_isSky.f k l0_0 a0_1 a0_2 a0_3=some r):
  Calls Tryz.prog 52 #[.agg #[.slice A0_0 l0_0.length c0_0,.int .i64 a0_1,.int .i64 a0_2,.int .i64 a0_3]] w fun e w'=>e=.returned (.bool r)∧Below w.heap.size w w':=by
 have hu28:=Tryz.underlying28
 have hu24:=Tryz.underlying24
 have HR0_0:=A0_ hr0_0;have HC0_0:=A0_ hc0_0;clear hr0_0 hc0_0
 have HB:=A0_ (Below.refl w.heap.size w)
 have H:((sky_in.f (l0_0.length:Int) 2 4).bind fun t120=>(if t120=true then ((sky_isPeriod.f a0_1 a0_2).bind fun t121=>(if t121=true then ((sky_isPlace.f a0_3).bind fun t122=>(if t122=true then ((cF_isSky_c1.f k l0_0).bind fun t123=>(some (!t123))) else (some false))) else (some false))) else (some false)))=some r:=h
 clear h;replace H:=Option.bind_eq_some_iff.mp H;obtain ⟨t120,A20,H⟩:=H
 replace H:(if t120=true then ((sky_isPeriod.f a0_1 a0_2).bind fun t121=>(if t121=true then ((sky_isPlace.f a0_3).bind fun t122=>(if t122=true then ((cF_isSky_c1.f k l0_0).bind fun t123=>(some (!t123))) else (some false))) else (some false))) else (some false))=some r:=H
 have A2:=A0_ A20;clear A20
 by_cases c3:t120=true
 ·subst c3
  have H1:((sky_isPeriod.f a0_1 a0_2).bind fun t121=>(if t121=true then ((sky_isPlace.f a0_3).bind fun t122=>(if t122=true then ((cF_isSky_c1.f k l0_0).bind fun t123=>(some (!t123))) else (some false))) else (some false)))=some r:=by rw [if_pos rfl] at H;exact H
  clear H;have H:=H1;clear H1;replace H:=Option.bind_eq_some_iff.mp H;obtain ⟨t121,A40,H⟩:=H
  replace H:(if t121=true then ((sky_isPlace.f a0_3).bind fun t122=>(if t122=true then ((cF_isSky_c1.f k l0_0).bind fun t123=>(some (!t123))) else (some false))) else (some false))=some r:=H
  have A4:=A0_ A40;clear A40
  by_cases c5:t121=true
  ·subst c5
   have H1:((sky_isPlace.f a0_3).bind fun t122=>(if t122=true then ((cF_isSky_c1.f k l0_0).bind fun t123=>(some (!t123))) else (some false)))=some r:=by rw [if_pos rfl] at H;exact H
   clear H;have H:=H1;clear H1;replace H:=Option.bind_eq_some_iff.mp H;obtain ⟨t122,A60,H⟩:=H
   replace H:(if t122=true then ((cF_isSky_c1.f k l0_0).bind fun t123=>(some (!t123))) else (some false))=some r:=H
   have A6:=A0_ A60;clear A60
   by_cases c7:t122=true
   ·subst c7
    have H1:((cF_isSky_c1.f k l0_0).bind fun t123=>(some (!t123)))=some r:=by rw [if_pos rfl] at H;exact H
    clear H;have H:=H1;clear H1;replace H:=Option.bind_eq_some_iff.mp H;obtain ⟨t123,A80,H⟩:=H
    replace H:(some (!t123))=some r:=H
    have A8:=A0_ A80;clear A80;obtain rfl:=Option.some.inj H
    go_enter Tryz.func52,Tryz.ntmps52
    go_wp2_with (first|((with_reducible refine gate_dst (N:=1) rfl ?_);refine box_event ?hg (N:=1) ?hd (cs:=#[.slice A0_0 l0_0.length c0_0,.int .i64 a0_1,.int .i64 a0_2,.int .i64 a0_3]) (t:=28) ?hr ?_;(case hd=>rfl);(case hg=>rfl);(case hr=>first|(go_simp;done)|(go_simp;rfl));intro gb119 hg w9 hbox hb;have n0_:=A0_ (below_step y0_ hb);have n1_:=A0_ (hbox);have n2_:=A0_ ((by rw [hg];exact (below_size y0_):w.heap.size≤gb119));have n3_:=A0_ ((by rw [hg];exact (below_size y0_):w.heap.size≤gb119));clear HB;have HB:=n0_;have BK119:=n1_;have GW119:=n2_;have GE119:=n3_;clear n0_ n1_ n2_ n3_;clear hb hbox hg;obtain ⟨hcz10_0,hcz10_1,hcz10_2,hcz10_3,hfz10_0,hfz10_1,hfz10_2,hfz10_3⟩:=bq4_ BK119.out)|((with_reducible refine gate_callee (f:=71) rfl ?_);refine goesL_ (some 6) rfl rfl Tryz.func71 (by kernel_rfl) rfl #[.int .i64 (l0_0.length:Int),.int .i64 2,.int .i64 4] rfl y1_ ?_;(with_reducible refine (sky_in.calls (l0_0.length:Int) 2 4 true _ A2.out).mono ?_);rintro e w' ⟨rfl,⟨nd,rfl⟩⟩;refine ⟨_,rfl,?_⟩)|(go_at_call 96;(with_reducible refine (sky_isPeriod.calls a0_1 a0_2 true _ A4.out).mono ?_);rintro e w11 ⟨rfl,hb⟩;have n0_:=A0_ (blk_below (g:=gb119) (o:=.cells #[.slice A0_0 l0_0.length c0_0,.int .i64 a0_1,.int .i64 a0_2,.int .i64 a0_3] 28 (0,0)) (bd_ BK119.out) hb);have n1_:=A0_ (below_step y2i_ hb);clear BK119;clear HB;have BK119:=n0_;have HB:=n1_;clear n0_ n1_;(try clear hb);(try clear hb2);(try clear hk);(try clear hi);obtain ⟨hcz12_0,hcz12_1,hcz12_2,hcz12_3,hfz12_0,hfz12_1,hfz12_2,hfz12_3⟩:=bq4_ BK119.out)|(go_at_call 97;(with_reducible refine (sky_isPlace.calls a0_3 true _ A6.out).mono ?_);rintro e w' ⟨rfl,⟨nd,rfl⟩⟩)|(go_at_call 98;(with_reducible refine (cF_isSky_c1.calls k _ _ l0_0  t123 _ ?side1 ?side2 A8.out).mono ?_);(case side1=>repeat (first|exact (Kd.C_below HR0_0.out y2i_)|(with_reducible refine Kd.C_alloc ?_ _)|(with_reducible refine Kd.C_drewN ?_ _)|(with_reducible refine Kd.C_drew ?_)));(case side2=>exact HC0_0.out);rintro e w13 ⟨rfl,hb⟩;have n0_:=A0_ (blk_below (g:=gb119) (o:=.cells #[.slice A0_0 l0_0.length c0_0,.int .i64 a0_1,.int .i64 a0_2,.int .i64 a0_3] 28 (0,0)) (bd_ BK119.out) hb);have n1_:=A0_ (below_step y2i_ hb);clear BK119;clear HB;have BK119:=n0_;have HB:=n1_;clear n0_ n1_;(try clear hb);(try clear hb2);(try clear hk);(try clear hi)))
    go_ret
    exact ⟨y3_,y2i_⟩
   ·replace c7:=Bool.eq_false_iff.mpr c7;subst c7
    have H1:(some false)=some r:=by rw [if_neg (show ¬ (false=true) by decide)] at H;exact H
    clear H;have H:=H1;clear H1;obtain rfl:=Option.some.inj H
    go_enter Tryz.func52,Tryz.ntmps52
    go_wp2_with (first|((with_reducible refine gate_dst (N:=1) rfl ?_);refine box_event ?hg (N:=1) ?hd (cs:=#[.slice A0_0 l0_0.length c0_0,.int .i64 a0_1,.int .i64 a0_2,.int .i64 a0_3]) (t:=28) ?hr ?_;(case hd=>rfl);(case hg=>rfl);(case hr=>first|(go_simp;done)|(go_simp;rfl));intro gb119 hg w14 hbox hb;have n0_:=A0_ (below_step y0_ hb);have n1_:=A0_ (hbox);have n2_:=A0_ ((by rw [hg];exact (below_size y0_):w.heap.size≤gb119));have n3_:=A0_ ((by rw [hg];exact (below_size y0_):w.heap.size≤gb119));clear HB;have HB:=n0_;have BK119:=n1_;have GW119:=n2_;have GE119:=n3_;clear n0_ n1_ n2_ n3_;clear hb hbox hg;obtain ⟨hcz15_0,hcz15_1,hcz15_2,hcz15_3,hfz15_0,hfz15_1,hfz15_2,hfz15_3⟩:=bq4_ BK119.out)|((with_reducible refine gate_callee (f:=71) rfl ?_);refine goesL_ (some 6) rfl rfl Tryz.func71 (by kernel_rfl) rfl #[.int .i64 (l0_0.length:Int),.int .i64 2,.int .i64 4] rfl y1_ ?_;(with_reducible refine (sky_in.calls (l0_0.length:Int) 2 4 true _ A2.out).mono ?_);rintro e w' ⟨rfl,⟨nd,rfl⟩⟩;refine ⟨_,rfl,?_⟩)|(go_at_call 96;(with_reducible refine (sky_isPeriod.calls a0_1 a0_2 true _ A4.out).mono ?_);rintro e w16 ⟨rfl,hb⟩;have n0_:=A0_ (blk_below (g:=gb119) (o:=.cells #[.slice A0_0 l0_0.length c0_0,.int .i64 a0_1,.int .i64 a0_2,.int .i64 a0_3] 28 (0,0)) (bd_ BK119.out) hb);have n1_:=A0_ (below_step y2i_ hb);clear BK119;clear HB;have BK119:=n0_;have HB:=n1_;clear n0_ n1_;(try clear hb);(try clear hb2);(try clear hk);(try clear hi);obtain ⟨hcz17_0,hcz17_1,hcz17_2,hcz17_3,hfz17_0,hfz17_1,hfz17_2,hfz17_3⟩:=bq4_ BK119.out)|(go_at_call 97;(with_reducible refine (sky_isPlace.calls a0_3 false _ A6.out).mono ?_);rintro e w' ⟨rfl,⟨nd,rfl⟩⟩))
    go_ret
    exact ⟨y3_,y2i_⟩
  ·replace c5:=Bool.eq_false_iff.mpr c5;subst c5
   have H1:(some false)=some r:=by rw [if_neg (show ¬ (false=true) by decide)] at H;exact H
   clear H;have H:=H1;clear H1;obtain rfl:=Option.some.inj H
   go_enter Tryz.func52,Tryz.ntmps52
   go_wp2_with (first|((with_reducible refine gate_dst (N:=1) rfl ?_);refine box_event ?hg (N:=1) ?hd (cs:=#[.slice A0_0 l0_0.length c0_0,.int .i64 a0_1,.int .i64 a0_2,.int .i64 a0_3]) (t:=28) ?hr ?_;(case hd=>rfl);(case hg=>rfl);(case hr=>first|(go_simp;done)|(go_simp;rfl));intro gb119 hg w18 hbox hb;have n0_:=A0_ (below_step y0_ hb);have n1_:=A0_ (hbox);have n2_:=A0_ ((by rw [hg];exact (below_size y0_):w.heap.size≤gb119));have n3_:=A0_ ((by rw [hg];exact (below_size y0_):w.heap.size≤gb119));clear HB;have HB:=n0_;have BK119:=n1_;have GW119:=n2_;have GE119:=n3_;clear n0_ n1_ n2_ n3_;clear hb hbox hg;obtain ⟨hcz19_0,hcz19_1,hcz19_2,hcz19_3,hfz19_0,hfz19_1,hfz19_2,hfz19_3⟩:=bq4_ BK119.out)|((with_reducible refine gate_callee (f:=71) rfl ?_);refine goesL_ (some 6) rfl rfl Tryz.func71 (by kernel_rfl) rfl #[.int .i64 (l0_0.length:Int),.int .i64 2,.int .i64 4] rfl y1_ ?_;(with_reducible refine (sky_in.calls (l0_0.length:Int) 2 4 true _ A2.out).mono ?_);rintro e w' ⟨rfl,⟨nd,rfl⟩⟩;refine ⟨_,rfl,?_⟩)|(go_at_call 96;(with_reducible refine (sky_isPeriod.calls a0_1 a0_2 false _ A4.out).mono ?_);rintro e w20 ⟨rfl,hb⟩;have n0_:=A0_ (blk_below (g:=gb119) (o:=.cells #[.slice A0_0 l0_0.length c0_0,.int .i64 a0_1,.int .i64 a0_2,.int .i64 a0_3] 28 (0,0)) (bd_ BK119.out) hb);have n1_:=A0_ (below_step y2i_ hb);clear BK119;clear HB;have BK119:=n0_;have HB:=n1_;clear n0_ n1_;(try clear hb);(try clear hb2);(try clear hk);(try clear hi)))
   go_ret
   exact ⟨y3_,y2i_⟩
 ·replace c3:=Bool.eq_false_iff.mpr c3;subst c3
  have H1:(some false)=some r:=by rw [if_neg (show ¬ (false=true) by decide)] at H;exact H
  clear H;have H:=H1;clear H1;obtain rfl:=Option.some.inj H
  go_enter Tryz.func52,Tryz.ntmps52
  go_wp2_with (first|((with_reducible refine gate_dst (N:=1) rfl ?_);refine box_event ?hg (N:=1) ?hd (cs:=#[.slice A0_0 l0_0.length c0_0,.int .i64 a0_1,.int .i64 a0_2,.int .i64 a0_3]) (t:=28) ?hr ?_;(case hd=>rfl);(case hg=>rfl);(case hr=>first|(go_simp;done)|(go_simp;rfl));intro gb119 hg w21 hbox hb;have n0_:=A0_ (below_step y0_ hb);have n1_:=A0_ (hbox);have n2_:=A0_ ((by rw [hg];exact (below_size y0_):w.heap.size≤gb119));have n3_:=A0_ ((by rw [hg];exact (below_size y0_):w.heap.size≤gb119));clear HB;have HB:=n0_;have BK119:=n1_;have GW119:=n2_;have GE119:=n3_;clear n0_ n1_ n2_ n3_;clear hb hbox hg;obtain ⟨hcz22_0,hcz22_1,hcz22_2,hcz22_3,hfz22_0,hfz22_1,hfz22_2,hfz22_3⟩:=bq4_ BK119.out)|((with_reducible refine gate_callee (f:=71) rfl ?_);refine goesL_ (some 6) rfl rfl Tryz.func71 (by kernel_rfl) rfl #[.int .i64 (l0_0.length:Int),.int .i64 2,.int .i64 4] rfl y1_ ?_;(with_reducible refine (sky_in.calls (l0_0.length:Int) 2 4 false _ A2.out).mono ?_);rintro e w' ⟨rfl,⟨nd,rfl⟩⟩;refine ⟨_,rfl,?_⟩))
  go_ret
  exact ⟨y3_,y2i_⟩
def sky_isSpan.f (a0:Int) (a1:Int):Option (Bool):=(sky_in.f a0 1 20000).bind fun t124=>(if t124=true then ((sky_in.f a1 a0 20000).bind fun t125=>(if t125=true then (some (decide ((wrap64 (a1 - a0))≤800))) else (some false))) else (some false))
set_option maxHeartbeats 8000000 in
set_option maxRecDepth 100000 in
theorem sky_isSpan.calls (a0:Int) (a1:Int) (r:Bool) (w:World) (h:sky_isSpan.f a0 a1=some r):
  Calls Tryz.prog 53 #[.int .i64 a0,.int .i64 a1] w fun e w'=>e=.returned (.bool r)∧Drawn0 w w':=by
 have H:((sky_in.f a0 1 20000).bind fun t124=>(if t124=true then ((sky_in.f a1 a0 20000).bind fun t125=>(if t125=true then (some (decide ((wrap64 (a1 - a0))≤800))) else (some false))) else (some false)))=some r:=h
 clear h;replace H:=Option.bind_eq_some_iff.mp H;obtain ⟨t124,A30,H⟩:=H
 replace H:(if t124=true then ((sky_in.f a1 a0 20000).bind fun t125=>(if t125=true then (some (decide ((wrap64 (a1 - a0))≤800))) else (some false))) else (some false))=some r:=H
 have A3:=A0_ A30;clear A30
 by_cases c4:t124=true
 ·subst c4
  have H1:((sky_in.f a1 a0 20000).bind fun t125=>(if t125=true then (some (decide ((wrap64 (a1 - a0))≤800))) else (some false)))=some r:=by rw [if_pos rfl] at H;exact H
  clear H;have H:=H1;clear H1;replace H:=Option.bind_eq_some_iff.mp H;obtain ⟨t125,A50,H⟩:=H
  replace H:(if t125=true then (some (decide ((wrap64 (a1 - a0))≤800))) else (some false))=some r:=H
  have A5:=A0_ A50;clear A50
  by_cases c6:t125=true
  ·subst c6
   have H1:(some (decide ((wrap64 (a1 - a0))≤800)))=some r:=by rw [if_pos rfl] at H;exact H
   clear H;have H:=H1;clear H1;obtain rfl:=Option.some.inj H
   go_enter Tryz.func53,Tryz.ntmps53
   go_wp2_with (first|((with_reducible refine gate_callee (f:=71) rfl ?_);refine goesL_ (some 6) rfl rfl Tryz.func71 (by kernel_rfl) rfl #[.int .i64 a0,.int .i64 1,.int .i64 20000] rfl y1_ ?_;(with_reducible refine (sky_in.calls a0 1 20000 true _ A3.out).mono ?_);rintro e w' ⟨rfl,⟨nd,rfl⟩⟩;refine ⟨_,rfl,?_⟩)|(go_at_call 71;(with_reducible refine (sky_in.calls a1 a0 20000 true _ A5.out).mono ?_);rintro e w' ⟨rfl,⟨nd,rfl⟩⟩))
   go_ret
   exact ⟨y5_,yt_⟩
  ·replace c6:=Bool.eq_false_iff.mpr c6;subst c6
   have H1:(some false)=some r:=by rw [if_neg (show ¬ (false=true) by decide)] at H;exact H
   clear H;have H:=H1;clear H1;obtain rfl:=Option.some.inj H
   go_enter Tryz.func53,Tryz.ntmps53
   go_wp2_with (first|((with_reducible refine gate_callee (f:=71) rfl ?_);refine goesL_ (some 6) rfl rfl Tryz.func71 (by kernel_rfl) rfl #[.int .i64 a0,.int .i64 1,.int .i64 20000] rfl y1_ ?_;(with_reducible refine (sky_in.calls a0 1 20000 true _ A3.out).mono ?_);rintro e w' ⟨rfl,⟨nd,rfl⟩⟩;refine ⟨_,rfl,?_⟩)|(go_at_call 71;(with_reducible refine (sky_in.calls a1 a0 20000 false _ A5.out).mono ?_);rintro e w' ⟨rfl,⟨nd,rfl⟩⟩))
   go_ret
   exact ⟨y5_,yt_⟩
 ·replace c4:=Bool.eq_false_iff.mpr c4;subst c4
  have H1:(some false)=some r:=by rw [if_neg (show ¬ (false=true) by decide)] at H;exact H
  clear H;have H:=H1;clear H1;obtain rfl:=Option.some.inj H
  go_enter Tryz.func53,Tryz.ntmps53
  go_wp2_with (first|((with_reducible refine gate_callee (f:=71) rfl ?_);refine goesL_ (some 6) rfl rfl Tryz.func71 (by kernel_rfl) rfl #[.int .i64 a0,.int .i64 1,.int .i64 20000] rfl y1_ ?_;(with_reducible refine (sky_in.calls a0 1 20000 false _ A3.out).mono ?_);rintro e w' ⟨rfl,⟨nd,rfl⟩⟩;refine ⟨_,rfl,?_⟩))
  go_ret
  exact ⟨y5_,yt_⟩
def tr_in.f (a0:Int) (a1:Int) (a2:Int):Option (Bool):=if a0 ≥ a1 then (some (decide (a0≤a2))) else (some false)
set_option maxHeartbeats 8000000 in
set_option maxRecDepth 100000 in
theorem tr_in.calls (a0:Int) (a1:Int) (a2:Int) (r:Bool) (w:World) (h:tr_in.f a0 a1 a2=some r):
  Calls Tryz.prog 56 #[.int .i64 a0,.int .i64 a1,.int .i64 a2] w fun e w'=>e=.returned (.bool r)∧Drawn0 w w':=by
 have H:(if a0 ≥ a1 then (some (decide (a0≤a2))) else (some false))=some r:=h
 clear h
 by_cases c4:a0 ≥ a1
 ·rw [if_pos c4] at H;have c4b0:decide (a1≤a0)=true:=decide_eq_true c4;clear c4;obtain rfl:=Option.some.inj H
  go_enter Tryz.func56,Tryz.ntmps56
  go_wp2;go_ret
  exact ⟨y5_,yt_⟩
 ·rw [if_neg c4] at H;have c4b0:decide (a1≤a0)=false:=decide_eq_false c4;clear c4;obtain rfl:=Option.some.inj H
  go_enter Tryz.func56,Tryz.ntmps56
  go_wp2;go_ret
  exact ⟨y5_,yt_⟩
def tr_Spot.f (a0:Int):Option (Bool):=(tr_in.f a0 0 21599).bind fun t132=>(some t132)
set_option maxHeartbeats 8000000 in
set_option maxRecDepth 100000 in
theorem tr_Spot.calls (a0:Int) (r:Bool) (w:World) (h:tr_Spot.f a0=some r):
  Calls Tryz.prog 23 #[.int .i64 a0] w fun e w'=>e=.returned (.bool r)∧Drawn0 w w':=by
 have H:((tr_in.f a0 0 21599).bind fun t132=>(some t132))=some r:=h
 clear h;replace H:=Option.bind_eq_some_iff.mp H;obtain ⟨t132,A20,H⟩:=H
 replace H:(some t132)=some r:=H
 have A2:=A0_ A20;clear A20;obtain rfl:=Option.some.inj H
 go_enter Tryz.func23,Tryz.ntmps23
 go_wp2_with (first|((with_reducible refine gate_callee (f:=56) rfl ?_);refine goesL_ (some 4) rfl rfl Tryz.func56 (by kernel_rfl) rfl #[.int .i64 a0,.int .i64 0,.int .i64 21599] rfl y1_ ?_;(with_reducible refine (tr_in.calls a0 0 21599 t132 _ A2.out).mono ?_);rintro e w' ⟨rfl,⟨nd,rfl⟩⟩;refine ⟨_,rfl,?_⟩))
 go_ret
 exact ⟨y5_,yt_⟩
end Go.Proofs.YtaidphhkhddemaaGreatDoor.PSky
end
section
namespace Go.Proofs.YtaidphhkhddemaaGreatDoor.PSky
open Go.RowKit Go.Proofs.YtaidphhkhddemaaGreatDoorW.PrintWords Go.Proofs.YtaidphhkhddemaaGreatDoorW.PrintLast Go.Proofs.YtaidphhkhddemaaGreatDoorW.PrintMore
attribute [local go_sem] max2_int min2_int max_two min_two max_three min_three max_four min_four
set_option linter.unusedVariables false
set_option linter.unusedSimpArgs false
attribute [local go_sem high] eqA51
def tr_SameMoons.l0:Nat→List (S51)→List (S51)→Int→Option (Bool)
 |0,_,_,_=>none
 |k+1,x0,x1,x5=>if x5<(x0.length:Int) then (if 0≤x5 then (if x5<(x1.length:Int) then (if (!(((rd_T51 x0 x5).f0) == ((rd_T51 x1 x5).f0)) || (!(((rd_T51 x0 x5).f1) == ((rd_T51 x1 x5).f1))))=true then (some false) else (tr_SameMoons.l0 k x0 x1 (wrap64 (x5+1)))) else (none)) else (none)) else (some true)
def tr_SameMoons.f (k:Nat) (l0:List (S51)) (l1:List (S51)):Option (Bool):=if (l0.length:Int)=(l1.length:Int) then (tr_SameMoons.l0 k l0 l1 0) else (some false)
set_option maxHeartbeats 8000000 in
set_option maxRecDepth 100000 in
theorem tr_SameMoons.calls (k:Nat) (A0:Option Addr) (c0:Nat) (l0:List (S51)) (A1:Option Addr) (c1:Nat) (l1:List (S51)) (r:Bool) (w:World) (hr0:Kd.C k51 w A0 l0.length l0) (hc0:l0.length≤c0) (hr1:Kd.C k51 w A1 l1.length l1) (hc1:l1.length≤c1) (h:tr_SameMoons.f k l0 l1=some r):
  Calls Tryz.prog 15 #[.slice A0 l0.length c0,.slice A1 l1.length c1] w fun e w'=>e=.returned (.bool r)∧Drawn0 w w':=by
 have hu51:=Tryz.underlying51
 have HR0:=A0_ hr0;have HC0:=A0_ hc0;clear hr0 hc0;have HR1:=A0_ hr1;have HC1:=A0_ hc1;clear hr1 hc1
 have H:(if (l0.length:Int)=(l1.length:Int) then (tr_SameMoons.l0 k l0 l1 0) else (some false))=some r:=h
 clear h
 by_cases c3:(l0.length:Int)=(l1.length:Int)
 ·rw [if_pos c3] at H
  have c3b0:((l0.length:Int) == (l1.length:Int))=true:=beq_iff_eq.mpr c3
  have c3b1:((l0.length:Int) != (l1.length:Int))=false:=bne_eq_false_iff_eq.mpr c3
  have c3b2:(l0.length == l1.length)=true:=by first|simpa using c3|(simp at c3 ⊢;omega)
  clear c3
  have H':=A0_ H
  clear H
  go_enter Tryz.func15,Tryz.ntmps15
  go_wp2
  repeat (go_quiet (fail);try go_wp2)
  go_loopg [5] k (fun kq v5 w'=>∃ (x5_1:Int),v5=.int .i64 x5_1∧Aside0 (tr_SameMoons.l0 kq l0 l1 x5_1=some r)∧Aside0 (kq≤k)∧Drawn0 w w')
  case atStart=>exact ⟨(0),y5_,H',⟨Nat.le_refl _⟩,yt_⟩
  case round=>
   clear H'
   (try clear c1);(try clear p2);(try clear c3);(try clear c3b0);(try clear c3b1);(try clear c3b2)
   obtain ⟨x5_1,rfl,HA,HK1,⟨m1,rfl⟩⟩:=hrel
   cases gk with
   |zero=>exact absurd HA.out (by simp [tr_SameMoons.l0])
   |succ k1=>
    have H:=HA.out
    clear HA
    simp only [tr_SameMoons.l0] at H
    by_cases c4:x5_1<(l0.length:Int)
    ·rw [if_pos c4] at H;have c4b0:decide (x5_1<(l0.length:Int))=true:=decide_eq_true c4;clear c4
     by_cases c5:0≤x5_1
     ·rw [if_pos c5] at H;have c5b0:decide (0≤x5_1)=true:=decide_eq_true c5;clear c5
      by_cases c6:x5_1<(l1.length:Int)
      ·rw [if_pos c6] at H;have c6b0:decide (x5_1<(l1.length:Int))=true:=decide_eq_true c6;clear c6
       by_cases c7:(!(((rd_T51 l0 x5_1).f0) == ((rd_T51 l1 x5_1).f0)) || (!(((rd_T51 l0 x5_1).f1) == ((rd_T51 l1 x5_1).f1))))=true
       ·rw [if_pos c7] at H
        have c7b0:(!(((rd_T51 l0 x5_1).f0) == ((rd_T51 l1 x5_1).f0)) || (!(((rd_T51 l0 x5_1).f1) == ((rd_T51 l1 x5_1).f1))))=true:=c7
        clear c7;obtain rfl:=Option.some.inj H
        have p149:0≤(x5_1:Int):=of_decide_eq_true y6_
        have q149:x5_1<(l0.length:Int):=of_decide_eq_true y6_
        obtain ⟨ad149,e149,hx149_0,hx149_1⟩:=at_T51 HR0.out x5_1 p149 q149
        cases e149
        replace p149:=eq_true p149
        replace q149:=eq_true q149
        have p150:0≤(x5_1:Int):=of_decide_eq_true y6_
        have q150:x5_1<(l1.length:Int):=of_decide_eq_true y6_
        obtain ⟨ad150,e150,hx150_0,hx150_1⟩:=at_T51 HR1.out x5_1 p150 q150
        cases e150
        replace p150:=eq_true p150
        replace q150:=eq_true q150
        go_wp2
        repeat (go_quiet (fail);try go_wp2)
        go_ret
        exact ⟨y5_,yt_⟩
       ·rw [if_neg c7] at H
        have c7b0:(!(((rd_T51 l0 x5_1).f0) == ((rd_T51 l1 x5_1).f0)) || (!(((rd_T51 l0 x5_1).f1) == ((rd_T51 l1 x5_1).f1))))=false:=by simpa using c7
        clear c7
        have H':=A0_ H
        clear H
        have p149:0≤(x5_1:Int):=of_decide_eq_true y6_
        have q149:x5_1<(l0.length:Int):=of_decide_eq_true y6_
        obtain ⟨ad149,e149,hx149_0,hx149_1⟩:=at_T51 HR0.out x5_1 p149 q149
        cases e149
        replace p149:=eq_true p149
        replace q149:=eq_true q149
        have p150:0≤(x5_1:Int):=of_decide_eq_true y6_
        have q150:x5_1<(l1.length:Int):=of_decide_eq_true y6_
        obtain ⟨ad150,e150,hx150_0,hx150_1⟩:=at_T51 HR1.out x5_1 p150 q150
        cases e150
        replace p150:=eq_true p150
        replace q150:=eq_true q150
        go_wp2
        repeat (go_quiet (fail);try go_wp2)
        go_roundg k1
        case measure=>have:=HK1.out;omega
        case rel=>exact ⟨(wrap64 (x5_1+1)),y5_,H',⟨by have:=HK1.out;omega⟩,yt_⟩
      ·rw [if_neg c6] at H;exact absurd H (by simp)
     ·rw [if_neg c5] at H;exact absurd H (by simp)
    ·rw [if_neg c4] at H;have c4b0:decide (x5_1<(l0.length:Int))=false:=decide_eq_false c4;clear c4;obtain rfl:=Option.some.inj H;go_wp2
     repeat (go_quiet (fail);try go_wp2)
     go_ret
     exact ⟨y5_,yt_⟩
 ·rw [if_neg c3] at H
  have c3b0:((l0.length:Int) == (l1.length:Int))=false:=beq_eq_false_iff_ne.mpr c3
  have c3b1:((l0.length:Int) != (l1.length:Int))=true:=bne_iff_ne.mpr c3
  have c3b2:(l0.length == l1.length)=false:=by first|simpa using c3|(simp at c3 ⊢;omega)
  obtain rfl:=Option.some.inj H
  go_enter Tryz.func15,Tryz.ntmps15
  go_wp2
  repeat (go_quiet (fail);try go_wp2)
  go_ret
  exact ⟨y5_,yt_⟩
def sky_isLimit.f (a0:Int):Option (Bool):=(sky_in.f a0 0 5400).bind fun t205=>(some t205)
set_option maxHeartbeats 8000000 in
set_option maxRecDepth 100000 in
theorem sky_isLimit.calls (a0:Int) (r:Bool) (w:World) (h:sky_isLimit.f a0=some r):
  Calls Tryz.prog 58 #[.int .i64 a0] w fun e w'=>e=.returned (.bool r)∧Drawn0 w w':=by
 have H:((sky_in.f a0 0 5400).bind fun t205=>(some t205))=some r:=h
 clear h;replace H:=Option.bind_eq_some_iff.mp H;obtain ⟨t205,A20,H⟩:=H
 replace H:(some t205)=some r:=H
 have A2:=A0_ A20;clear A20;obtain rfl:=Option.some.inj H
 go_enter Tryz.func58,Tryz.ntmps58
 go_wp2_with (first|((with_reducible refine gate_callee (f:=71) rfl ?_);refine goesL_ (some 4) rfl rfl Tryz.func71 (by kernel_rfl) rfl #[.int .i64 a0,.int .i64 0,.int .i64 5400] rfl y1_ ?_;(with_reducible refine (sky_in.calls a0 0 5400 t205 _ A2.out).mono ?_);rintro e w' ⟨rfl,⟨nd,rfl⟩⟩;refine ⟨_,rfl,?_⟩))
 go_ret
 exact ⟨y5_,yt_⟩
def sky_floor.f (a0:Int) (a1:Int):Option (Int × Int):=if a1=0 then (none) else (if (Int.tmod a0 a1)<0 then (some (wrap64 ((wrap64 (Int.tdiv a0 a1)) - 1),wrap64 ((Int.tmod a0 a1)+a1))) else (some (wrap64 (Int.tdiv a0 a1),Int.tmod a0 a1)))
set_option maxHeartbeats 8000000 in
set_option maxRecDepth 100000 in
theorem sky_floor.calls (a0:Int) (a1:Int) (r1:Int) (r2:Int) (w:World) (h:sky_floor.f a0 a1=some (r1,r2)):
  Calls Tryz.prog 104 #[.int .i64 a0,.int .i64 a1] w fun e w'=>e=.returned (.tuple #[.int .i64 r1,.int .i64 r2])∧Drawn0 w w':=by
 have H:(if a1=0 then (none) else (if (Int.tmod a0 a1)<0 then (some (wrap64 ((wrap64 (Int.tdiv a0 a1)) - 1),wrap64 ((Int.tmod a0 a1)+a1))) else (some (wrap64 (Int.tdiv a0 a1),Int.tmod a0 a1))))=some (r1,r2):=h
 clear h
 by_cases c3:a1=0
 ·rw [if_pos c3] at H;exact absurd H (by simp)
 ·rw [if_neg c3] at H
  have c3b0:(a1 == 0)=false:=beq_eq_false_iff_ne.mpr c3
  have c3b1:(a1 != 0)=true:=bne_iff_ne.mpr c3
  by_cases c4:(Int.tmod a0 a1)<0
  ·rw [if_pos c4] at H;have c4b0:decide ((Int.tmod a0 a1)<0)=true:=decide_eq_true c4;clear c4
   simp only [Option.some.injEq,Prod.mk.injEq] at H
   obtain ⟨rfl,rfl⟩:=H
   go_enter Tryz.func104,Tryz.ntmps104
   go_wp2
   repeat (go_quiet (fail);try go_wp2)
   go_ret2
   exact ⟨y5_,yt_⟩
  ·rw [if_neg c4] at H;have c4b0:decide ((Int.tmod a0 a1)<0)=false:=decide_eq_false c4;clear c4
   simp only [Option.some.injEq,Prod.mk.injEq] at H
   obtain ⟨rfl,rfl⟩:=H
   go_enter Tryz.func104,Tryz.ntmps104
   go_wp2
   repeat (go_quiet (fail);try go_wp2)
   go_ret2
   exact ⟨y5_,yt_⟩
def sky_around.f (a0:Int):Option (Int):=(sky_floor.f a0 21600).bind fun bt206=>(some bt206.2)
set_option maxHeartbeats 8000000 in
set_option maxRecDepth 100000 in
theorem sky_around.calls (a0:Int) (r:Int) (w:World) (h:sky_around.f a0=some r):
  Calls Tryz.prog 63 #[.int .i64 a0] w fun e w'=>e=.returned (.int .i64 r)∧Drawn0 w w':=by
 have H:((sky_floor.f a0 21600).bind fun bt206=>(some bt206.2))=some r:=h
 clear h;replace H:=Option.bind_eq_some_iff.mp H
 obtain ⟨⟨t206,t207⟩,A20,H⟩:=H
 replace H:(some t207)=some r:=H
 have A2:=A0_ A20;clear A20;obtain rfl:=Option.some.inj H
 go_enter Tryz.func63,Tryz.ntmps63
 go_wp2_with (first|((with_reducible refine gate_callee (f:=104) rfl ?_);refine goesL_ (some 7) rfl rfl Tryz.func104 (by kernel_rfl) rfl #[.int .i64 a0,.int .i64 21600] rfl y1_ ?_;(with_reducible refine (sky_floor.calls a0 21600 t206 t207 _ A2.out).mono ?_);rintro e w' ⟨rfl,⟨nd,rfl⟩⟩;refine ⟨_,rfl,?_⟩))
 go_ret
 exact ⟨y5_,yt_⟩
def ss_gone.f (l0_0:List (S83)) (a0_1:Int) (a0_2:Int) (a0_3:Int) (a0_4:Int) (a1_0:Int) (a1_1:Int):Option (Int):=(sky_floor.f (wrap64 ((wrap64 (a0_4*21600))*a1_1)) a1_0).bind fun bt210=>(some bt210.1)
set_option maxHeartbeats 8000000 in
set_option maxRecDepth 100000 in
theorem ss_gone.calls (A0_0:Option Addr) (c0_0:Nat) (l0_0:List (S83)) (a0_1:Int) (a0_2:Int) (a0_3:Int) (a0_4:Int) (a1_0:Int) (a1_1:Int) (r:Int) (w:World) (hr0_0:Kd.C k83 w A0_0 l0_0.length l0_0) (hc0_0:l0_0.length≤c0_0) (h:ss_gone.f l0_0 a0_1 a0_2 a0_3 a0_4 a1_0 a1_1=some r):
  Calls Tryz.prog 109 #[.agg #[.slice A0_0 l0_0.length c0_0,.int .i64 a0_1,.int .i64 a0_2,.int .i64 a0_3,.int .i64 a0_4],.agg #[.int .i64 a1_0,.int .i64 a1_1]] w fun e w'=>e=.returned (.int .i64 r)∧Below w.heap.size w w':=by
 have hu96:=Tryz.underlying96
 have hu24:=Tryz.underlying24
 have HR0_0:=A0_ hr0_0;have HC0_0:=A0_ hc0_0;clear hr0_0 hc0_0
 have HB:=A0_ (Below.refl w.heap.size w)
 have H:((sky_floor.f (wrap64 ((wrap64 (a0_4*21600))*a1_1)) a1_0).bind fun bt210=>(some bt210.1))=some r:=h
 clear h;replace H:=Option.bind_eq_some_iff.mp H
 obtain ⟨⟨t210,t211⟩,A30,H⟩:=H
 replace H:(some t210)=some r:=H
 have A3:=A0_ A30;clear A30;obtain rfl:=Option.some.inj H
 go_enter Tryz.func109,Tryz.ntmps109
 go_wp2_with (first|((with_reducible refine gate_dst (N:=2) rfl ?_);refine box_event ?hg (N:=2) ?hd (cs:=#[.slice A0_0 l0_0.length c0_0,.int .i64 a0_1,.int .i64 a0_2,.int .i64 a0_3,.int .i64 a0_4]) (t:=96) ?hr ?_;(case hd=>rfl);(case hg=>rfl);(case hr=>first|(go_simp;done)|(go_simp;rfl));intro gb208 hg w4 hbox hb;have n0_:=A0_ (below_step y0_ hb);have n1_:=A0_ (hbox);have n2_:=A0_ ((by rw [hg];exact (below_size y0_):w.heap.size≤gb208));have n3_:=A0_ ((by rw [hg];exact (below_size y0_):w.heap.size≤gb208));clear HB;have HB:=n0_;have BK208:=n1_;have GW208:=n2_;have GE208:=n3_;clear n0_ n1_ n2_ n3_;clear hb hbox hg)|((with_reducible refine gate_dst (N:=3) rfl ?_);refine box_event ?hg (N:=3) ?hd (cs:=#[.int .i64 a1_0,.int .i64 a1_1]) (t:=24) ?hr ?_;(case hd=>rfl);(case hg=>rfl);(case hr=>first|(go_simp;done)|(go_simp;rfl));intro gb209 hg w5 hbox hb;have n0_:=A0_ (blk_below (g:=gb208) (o:=.cells #[.slice A0_0 l0_0.length c0_0,.int .i64 a0_1,.int .i64 a0_2,.int .i64 a0_3,.int .i64 a0_4] 96 (0,0)) (bd_ BK208.out) hb);have n1_:=A0_ (below_step y4h_ hb);have n2_:=A0_ (hbox);have n3_:=A0_ ((by rw [hg];exact (below_size y4h_):w.heap.size≤gb209));have n4_:=A0_ ((by rw [hg];exact (below_size y4h_):w.heap.size≤gb209));have n5_:=A0_ ((by rw [hg];exact Nat.ne_of_lt (blk_lt (g:=gb208) (o:=.cells #[.slice A0_0 l0_0.length c0_0,.int .i64 a0_1,.int .i64 a0_2,.int .i64 a0_3,.int .i64 a0_4] 96 (0,0)) (bd_ BK208.out)):gb208≠gb209));have n6_:=A0_ ((by rw [hg];exact Nat.ne_of_gt (blk_lt (g:=gb208) (o:=.cells #[.slice A0_0 l0_0.length c0_0,.int .i64 a0_1,.int .i64 a0_2,.int .i64 a0_3,.int .i64 a0_4] 96 (0,0)) (bd_ BK208.out)):gb209≠gb208));clear BK208;clear HB;have BK208:=n0_;have HB:=n1_;have BK209:=n2_;have GW209:=n3_;have GE209:=n4_;have NB208_209:=n5_;have NB209_208:=n6_;clear n0_ n1_ n2_ n3_ n4_ n5_ n6_;clear hb hbox hg;have hnb6:=NB208_209.out;have hnc6:=NB209_208.out;obtain ⟨hcz7_0,hcz7_1,hcz7_2,hcz7_3,hcz7_4,hfz7_0,hfz7_1,hfz7_2,hfz7_3,hfz7_4⟩:=bq5_ BK208.out;obtain ⟨hcz8_0,hcz8_1,hfz8_0,hfz8_1⟩:=bq2_ BK209.out)|((with_reducible refine gate_callee (f:=104) rfl ?_);refine goesL_ (some 16) rfl rfl Tryz.func104 (by kernel_rfl) rfl #[.int .i64 (wrap64 ((wrap64 (a0_4*21600))*a1_1)),.int .i64 a1_0] rfl y1_ ?_;(with_reducible refine (sky_floor.calls (wrap64 ((wrap64 (a0_4*21600))*a1_1)) a1_0 t210 t211 _ A3.out).mono ?_);rintro e w' ⟨rfl,⟨nd,rfl⟩⟩;refine ⟨_,rfl,?_⟩))
 go_ret
 exact ⟨y3_,(by repeat (first|(with_reducible first|exact HB.out|apply below_alloc|apply pw_below_drewN|apply below_drew1|refine below_set ?_ GE208.out|refine below_set ?_ GE209.out)|exact HB.out))⟩
def ss_node.f (l0_0:List (S83)) (a0_1:Int) (a0_2:Int) (a0_3:Int) (a0_4:Int):Option (Int):=(ss_gone.f l0_0 a0_1 a0_2 a0_3 a0_4 a0_1 a0_2).bind fun t213=>((sky_around.f (wrap64 (a0_3 - t213))).bind fun t214=>(some t214))
def ss_node.T1:Bool × List (List Nat × List Nat):=(true,[([],[]),([0],[0]),([1],[1]),([2],[2]),([],[]),([],[]),([5],[5]),([6],[6]),([7],[7]),([4,8],[4,8]),([3,9],[3,9]),([10,9],[10]),([11,11,0,1,2,3,4,5,6,7,8,9,10,11],[11])])
def ss_node.B1:List Nat:=[0,1,3,7,0,0,32,96,224,496,1023,2047,4095]
theorem ss_node.tab1:rtab .any (opsOf Tryz.f65 1)=ss_node.T1:=by kernel_rfl
theorem ss_node.bits1:waitsOk ss_node.T1.2 ss_node.B1=true:=by kernel_rfl
set_option maxHeartbeats 8000000 in
set_option maxRecDepth 100000 in
theorem ss_node.calls (A0_0:Option Addr) (c0_0:Nat) (l0_0:List (S83)) (a0_1:Int) (a0_2:Int) (a0_3:Int) (a0_4:Int) (r:Int) (w:World) (hr0_0:Kd.C k83 w A0_0 l0_0.length l0_0) (hc0_0:l0_0.length≤c0_0) (h:ss_node.f l0_0 a0_1 a0_2 a0_3 a0_4=some r):
  Calls Tryz.prog 65 #[.agg #[.slice A0_0 l0_0.length c0_0,.int .i64 a0_1,.int .i64 a0_2,.int .i64 a0_3,.int .i64 a0_4]] w fun e w'=>e=.returned (.int .i64 r)∧Below w.heap.size w w':=by
 have hu96:=Tryz.underlying96
 have hu24:=Tryz.underlying24
 have HR0_0:=A0_ hr0_0;have HC0_0:=A0_ hc0_0;clear hr0_0 hc0_0
 have HB:=A0_ (Below.refl w.heap.size w)
 have H:((ss_gone.f l0_0 a0_1 a0_2 a0_3 a0_4 a0_1 a0_2).bind fun t213=>((sky_around.f (wrap64 (a0_3 - t213))).bind fun t214=>(some t214)))=some r:=h
 clear h;replace H:=Option.bind_eq_some_iff.mp H;obtain ⟨t213,A20,H⟩:=H
 replace H:((sky_around.f (wrap64 (a0_3 - t213))).bind fun t214=>(some t214))=some r:=H
 have A2:=A0_ A20;clear A20;replace H:=Option.bind_eq_some_iff.mp H;obtain ⟨t214,A30,H⟩:=H
 replace H:(some t214)=some r:=H
 have A3:=A0_ A30;clear A30;obtain rfl:=Option.some.inj H
 go_enter Tryz.func65,Tryz.ntmps65
 try go_wp2_with (first|((with_reducible refine gate_dst (N:=1) rfl ?_);refine box_event ?hg (N:=1) ?hd (cs:=#[.slice A0_0 l0_0.length c0_0,.int .i64 a0_1,.int .i64 a0_2,.int .i64 a0_3,.int .i64 a0_4]) (t:=96) ?hr ?_;(case hd=>rfl);(case hg=>rfl);(case hr=>first|(go_simp;done)|(go_simp;rfl));intro gb212 hg w4 hbox hb;have n0_:=A0_ (below_step y0_ hb);have n1_:=A0_ (hbox);have n2_:=A0_ ((by rw [hg];exact (below_size y0_):w.heap.size≤gb212));have n3_:=A0_ ((by rw [hg];exact (below_size y0_):w.heap.size≤gb212));clear HB;have HB:=n0_;have BK212:=n1_;have GW212:=n2_;have GE212:=n3_;clear n0_ n1_ n2_ n3_;clear hb hbox hg))
 have n0_:=A0_ (blk_drew BK212.out);have n1_:=A0_ (below_drew1 HB.out);clear BK212;clear HB;have BK212:=n0_;have HB:=n1_;clear n0_ n1_
 refine start_ (n:=13) (S:=fun w'=>w'.cell? ⟨gb212,0,none⟩=some (.slice A0_0 l0_0.length c0_0)∧w'.cell? ⟨gb212,1,none⟩=some (.int .i64 a0_1)∧w'.cell? ⟨gb212,2,none⟩=some (.int .i64 a0_2)∧w'.cell? ⟨gb212,3,none⟩=some (.int .i64 a0_3)∧w'.cell? ⟨gb212,4,none⟩=some (.int .i64 a0_4)) (ds:=[]) #[false,false,false,false,false,false,false,false,false,false,false,false,false] (by kernel_rfl) rfl rfl ⟨(blk_cell BK212.out 0).trans rfl,(blk_cell BK212.out 1).trans rfl,(blk_cell BK212.out 2).trans rfl,(blk_cell BK212.out 3).trans rfl,(blk_cell BK212.out 4).trans rfl⟩ (fun hHeld=>?_);refine with_tabW ss_node.tab1 ss_node.bits1 (fun HT_ HW_=>?_)
 generalize w4.drew=w5 at BK212 HB hHeld ⊢
 refine pu_ (i:=0) (N:=some 3) ?_;refine pu_ (i:=1) (N:=some 4) ?_;refine pu_ (i:=2) (N:=some 5) ?_;refine pu_ (i:=5) (N:=some 8) ?_;refine pu_ (i:=6) (N:=some 9) ?_;refine pu_ (i:=7) (N:=some 10) ?_;refine ta_ (i:=3) (N:=some 6) ?_;refine ta_ (i:=4) (N:=some 7) ?_;refine ta_ (i:=8) (N:=some 11) ?_
 refine one_ (i:=9) (N:=some 12) #[true,true,true,true,true,true,true,true,true,true,false,false,false] rfl rfl (one_of HT_.out (by kernel_rfl)) (by decide) (fun K hK=>?_)
 refine goes_ Tryz.func109 (by kernel_rfl) rfl #[.agg #[.slice A0_0 l0_0.length c0_0,.int .i64 a0_1,.int .i64 a0_2,.int .i64 a0_3,.int .i64 a0_4],.agg #[.int .i64 a0_1,.int .i64 a0_2]] (by rfl) rfl rfl y1_ ?_
 with_reducible refine (ss_gone.calls _ _ l0_0 a0_1 a0_2 a0_3 a0_4 a0_1 a0_2 t213 _ ?side1 ?side2 A2.out).mono ?_
 (case side1=>repeat (first|exact (Kd.C_below HR0_0.out HB.out)|(with_reducible refine Kd.C_alloc ?_ _)|(with_reducible refine Kd.C_drewN ?_ _)|(with_reducible refine Kd.C_drew ?_)))
 (case side2=>exact HC0_0.out)
 rintro e w6 ⟨rfl,hb⟩
 refine ⟨_,rfl,?_⟩
 have n0_:=A0_ (blk_below (g:=gb212) (o:=.cells #[.slice A0_0 l0_0.length c0_0,.int .i64 a0_1,.int .i64 a0_2,.int .i64 a0_3,.int .i64 a0_4] 96 (0,0)) (bd_ BK212.out) hb);have n1_:=A0_ (below_step y4o_ hb);clear BK212;clear HB;have BK212:=n0_;have HB:=n1_;clear n0_ n1_;(try clear hb);(try clear hb2);(try clear hk);(try clear hi)
 refine hK.out _ _ ⟨(blk_cell BK212.out 0).trans rfl,(blk_cell BK212.out 1).trans rfl,(blk_cell BK212.out 2).trans rfl,(blk_cell BK212.out 3).trans rfl,(blk_cell BK212.out 4).trans rfl⟩ (fun hHeld=>?_)
 clear hK K
 refine norm_ (a':=?_) ?_ ?_
 rotate_left
 ·show Act.put _ (some 12) _=_
  simp only [Act.put,List.setIfInBounds_toArray,List.set_cons_zero,List.set_cons_succ,i64_w,i32_w]
  rfl
 refine pu_ (i:=10) (N:=some 13) ?_
 refine one_ (i:=11) (N:=some 14) #[true,true,true,true,true,true,true,true,true,true,true,true,false] rfl rfl (one_of HT_.out (by kernel_rfl)) (by decide) (fun K hK=>?_)
 refine goes_ Tryz.func63 (by kernel_rfl) rfl #[.int .i64 (wrap64 (a0_3 - t213))] (by rfl) rfl rfl y1_ ?_
 with_reducible refine (sky_around.calls (wrap64 (a0_3 - t213)) t214 _ A3.out).mono ?_
 rintro e w' ⟨rfl,⟨nd,rfl⟩⟩
 refine ⟨_,rfl,?_⟩
 refine hK.out _ _ ⟨(blk_cell BK212.out 0).trans rfl,(blk_cell BK212.out 1).trans rfl,(blk_cell BK212.out 2).trans rfl,(blk_cell BK212.out 3).trans rfl,(blk_cell BK212.out 4).trans rfl⟩ (fun hHeld=>?_)
 clear hK K
 refine norm_ (a':=?_) ?_ ?_
 rotate_left
 ·show Act.put _ (some 14) _=_
  simp only [Act.put,List.setIfInBounds_toArray,List.set_cons_zero,List.set_cons_succ,i64_w,i32_w]
  rfl
 refine pu_ (i:=12) (N:=some 2) ?_
 refine done_ (done_of HT_.out (by kernel_rfl)) ?_
 try go_wp2
 go_ret
 exact ⟨y3_,y4o_⟩
def sky_sum.l0:Nat→Int→List Int→Int→Int→Option (Int)
 |0,_,_,_,_=>none
 |k+1,x3,x6,x7,x8=>if x8<x7 then (if 0≤x8 then (if x8<(x6.length:Int) then (sky_sum.l0 k (wrap64 (x3+(rd x6 x8))) x6 x7 (wrap64 (x8+1))) else (none)) else (none)) else (some x3)
def sky_sum.f (k:Nat) (l0:List Int):Option (Int):=sky_sum.l0 k 0 l0 (l0.length:Int) 0
set_option maxHeartbeats 8000000 in
set_option maxRecDepth 100000 in
theorem sky_sum.calls (k:Nat) (A0:Option Addr) (c0:Nat) (l0:List Int) (r:Int) (w:World) (hr0:Kd.C (Kd.int .i64) w A0 l0.length l0) (hc0:l0.length≤c0) (h:sky_sum.f k l0=some r):
  Calls Tryz.prog 108 #[.slice A0 l0.length c0] w fun e w'=>e=.returned (.int .i64 r)∧Drawn0 w w':=by
 have HR0:=A0_ hr0;have HC0:=A0_ hc0;clear hr0 hc0
 have H:(sky_sum.l0 k 0 l0 (l0.length:Int) 0)=some r:=h
 clear h
 have H':=A0_ H
 clear H
 go_enter Tryz.func108,Tryz.ntmps108
 go_wp2
 go_loopg [3,8] k (fun kq v3 v8 w'=>∃ (x3_1:Int) (x8_1:Int),v3=.int .i64 x3_1∧v8=.int .i64 x8_1∧Aside0 (sky_sum.l0 kq x3_1 l0 (l0.length:Int) x8_1=some r)∧Aside0 (kq≤k)∧Drawn0 w w')
 case atStart=>exact ⟨(0),(0),y5_,y5_,H',⟨Nat.le_refl _⟩,yt_⟩
 case round=>
  clear H'
  (try clear c1)
  obtain ⟨x3_1,x8_1,rfl,rfl,HA,HK1,⟨m1,rfl⟩⟩:=hrel
  cases gk with
  |zero=>exact absurd HA.out (by simp [sky_sum.l0])
  |succ k1=>
   have H:=HA.out
   clear HA
   simp only [sky_sum.l0] at H
   by_cases c2:x8_1<(l0.length:Int)
   ·rw [if_pos c2] at H;have c2b0:decide (x8_1<(l0.length:Int))=true:=decide_eq_true c2;clear c2
    by_cases c3:0≤x8_1
    ·rw [if_pos c3] at H;have c3b0:decide (0≤x8_1)=true:=decide_eq_true c3;clear c3
     by_cases c4:x8_1<(l0.length:Int)
     ·rw [if_pos c4] at H;have c4b0:decide (x8_1<(l0.length:Int))=true:=decide_eq_true c4;clear c4
      have H':=A0_ H
      clear H
      have p215:0≤(x8_1:Int):=of_decide_eq_true y6_
      have q215:x8_1<(l0.length:Int):=of_decide_eq_true y6_
      obtain ⟨ad215,e215,hx215_0⟩:=Kd.at_int HR0.out x8_1 p215 q215
      cases e215
      replace p215:=eq_true p215
      replace q215:=eq_true q215
      go_wp2
      go_roundg k1
      case measure=>have:=HK1.out;omega
      case rel=>exact ⟨(wrap64 (x3_1+(rd l0 x8_1))),(wrap64 (x8_1+1)),y5_,y5_,H',⟨by have:=HK1.out;omega⟩,yt_⟩
     ·rw [if_neg c4] at H;exact absurd H (by simp)
    ·rw [if_neg c3] at H;exact absurd H (by simp)
   ·rw [if_neg c2] at H;have c2b0:decide (x8_1<(l0.length:Int))=false:=decide_eq_false c2;clear c2;obtain rfl:=Option.some.inj H;go_wp2;go_ret
    exact ⟨y5_,yt_⟩
def ss_mean.f (k:Nat) (l0_0:List (S83)) (a0_1:Int) (a0_2:Int) (a0_3:Int) (a0_4:Int) (a1:Int):Option (Int):=if 0≤a1 then (if a1<(l0_0.length:Int) then ((ss_gone.f l0_0 a0_1 a0_2 a0_3 a0_4 ((rd_T83 l0_0 a1).f0.f0) ((rd_T83 l0_0 a1).f0.f1)).bind fun t219=>((sky_sum.f k (([(rd_T83 l0_0 a1).f1,t219]:List Int))).bind fun t223=>(some t223))) else (none)) else (none)
def ss_mean.T2:Bool × List (List Nat × List Nat):=(true,[([],[]),([0],[0]),([],[]),([],[]),([3],[3]),([2,4],[2,4]),([1,5],[1,5]),([6,5],[6]),([7,7,0,1,2,3,4,5,6,7],[7])])
def ss_mean.B2:List Nat:=[0,1,0,0,8,28,63,127,255]
theorem ss_mean.tab2:rtab .any (opsOf Tryz.f80 2)=ss_mean.T2:=by kernel_rfl
theorem ss_mean.bits2:waitsOk ss_mean.T2.2 ss_mean.B2=true:=by kernel_rfl
set_option maxHeartbeats 8000000 in
set_option maxRecDepth 100000 in
theorem ss_mean.calls (k:Nat) (A0_0:Option Addr) (c0_0:Nat) (l0_0:List (S83)) (a0_1:Int) (a0_2:Int) (a0_3:Int) (a0_4:Int) (a1:Int) (r:Int) (w:World) (hr0_0:Kd.C k83 w A0_0 l0_0.length l0_0) (hc0_0:l0_0.length≤c0_0) (h:ss_mean.f k l0_0 a0_1 a0_2 a0_3 a0_4 a1=some r):
  Calls Tryz.prog 80 #[.agg #[.slice A0_0 l0_0.length c0_0,.int .i64 a0_1,.int .i64 a0_2,.int .i64 a0_3,.int .i64 a0_4],.int .i64 a1] w fun e w'=>e=.returned (.int .i64 r)∧Below w.heap.size w w':=by
 have hu96:=Tryz.underlying96
 have hu83:=Tryz.underlying83
 have hu24:=Tryz.underlying24
 have HR0_0:=A0_ hr0_0;have HC0_0:=A0_ hc0_0;clear hr0_0 hc0_0
 have HB:=A0_ (Below.refl w.heap.size w)
 have H:(if 0≤a1 then (if a1<(l0_0.length:Int) then ((ss_gone.f l0_0 a0_1 a0_2 a0_3 a0_4 ((rd_T83 l0_0 a1).f0.f0) ((rd_T83 l0_0 a1).f0.f1)).bind fun t219=>((sky_sum.f k (([(rd_T83 l0_0 a1).f1,t219]:List Int))).bind fun t223=>(some t223))) else (none)) else (none))=some r:=h
 clear h
 by_cases c3:0≤a1
 ·rw [if_pos c3] at H;have c3b0:decide (0≤a1)=true:=decide_eq_true c3;clear c3
  by_cases c4:a1<(l0_0.length:Int)
  ·rw [if_pos c4] at H;have c4b0:decide (a1<(l0_0.length:Int))=true:=decide_eq_true c4;clear c4;replace H:=Option.bind_eq_some_iff.mp H;obtain ⟨t219,A50,H⟩:=H
   replace H:((sky_sum.f k (([(rd_T83 l0_0 a1).f1,t219]:List Int))).bind fun t223=>(some t223))=some r:=H
   have A5:=A0_ A50;clear A50
   obtain ⟨y220,hy220⟩:∃ y_:List Int,y_=(([(rd_T83 l0_0 a1).f1,t219]:List Int)):=⟨_,rfl⟩
   replace H:((sky_sum.f k y220).bind fun t223=>(some t223))=some r:=by first|(rw [hy220];with_reducible exact H)|(have H2_:=(Option.bind_some _ _).symm.trans H;rw [hy220];with_reducible exact H2_)|(have H2_:=(Option.bind_some _ _).symm.trans H;with_reducible exact H2_)|with_reducible exact H|(rw [hy220];exact H)|exact H
   have Ny220:=A0_ hy220;clear hy220;replace H:=Option.bind_eq_some_iff.mp H;obtain ⟨t223,A60,H⟩:=H
   replace H:(some t223)=some r:=H
   have A6:=A0_ A60;clear A60;obtain rfl:=Option.some.inj H
   go_enter Tryz.func80,Tryz.ntmps80
   try go_wp2_with (first|((with_reducible refine gate_dst (N:=2) rfl ?_);refine box_event ?hg (N:=2) ?hd (cs:=#[.slice A0_0 l0_0.length c0_0,.int .i64 a0_1,.int .i64 a0_2,.int .i64 a0_3,.int .i64 a0_4]) (t:=96) ?hr ?_;(case hd=>rfl);(case hg=>rfl);(case hr=>first|(go_simp;done)|(go_simp;rfl));intro gb216 hg w7 hbox hb;have n0_:=A0_ (below_step y0_ hb);have n1_:=A0_ (hbox);have n2_:=A0_ ((by rw [hg];exact (below_size y0_):w.heap.size≤gb216));have n3_:=A0_ ((by rw [hg];exact (below_size y0_):w.heap.size≤gb216));clear HB;have HB:=n0_;have BK216:=n1_;have GW216:=n2_;have GE216:=n3_;clear n0_ n1_ n2_ n3_;clear hb hbox hg;obtain ⟨hcz8_0,hcz8_1,hcz8_2,hcz8_3,hcz8_4,hfz8_0,hfz8_1,hfz8_2,hfz8_3,hfz8_4⟩:=bq5_ BK216.out;have p217:0≤(a1:Int):=of_decide_eq_true y6_;have q217:a1<(l0_0.length:Int):=of_decide_eq_true y6_;obtain ⟨ad217,A217_3,c217_3,e217,hx217_0,hx217_1,hx217_2,hx217_3,hl217_3,hi217_3⟩:=at_T83 HR0_0.out a1 p217 q217;cases e217;replace hx217_0:=(HB.out.cell (World.block_lt_of_cell? w _ hx217_0)).trans hx217_0;replace hx217_1:=(HB.out.cell (World.block_lt_of_cell? w _ hx217_1)).trans hx217_1;replace hx217_2:=(HB.out.cell (World.block_lt_of_cell? w _ hx217_2)).trans hx217_2;replace hx217_3:=(HB.out.cell (World.block_lt_of_cell? w _ hx217_3)).trans hx217_3;have HR217_3:=A0_ hi217_3;have HC217_3:=A0_ hl217_3;clear hi217_3 hl217_3;replace p217:=eq_true p217;replace q217:=eq_true q217)|((with_reducible refine gate_dst (N:=5) rfl ?_);refine box_event ?hg (N:=5) ?hd (cs:=#[.int .i64 0,.int .i64 0,.int .i64 0,.slice none 0 0]) (t:=83) ?hr ?_;(case hd=>rfl);(case hg=>rfl);(case hr=>first|(go_simp;done)|(go_simp;rfl));intro gb218 hg w9 hbox hb;have n0_:=A0_ (blk_below (g:=gb216) (o:=.cells #[.slice (some ad217) l0_0.length c0_0,.int .i64 a0_1,.int .i64 a0_2,.int .i64 a0_3,.int .i64 a0_4] 96 (0,0)) (bd_ BK216.out) hb);have n1_:=A0_ (below_step y4g_ hb);have n2_:=A0_ (hbox);have n3_:=A0_ ((by rw [hg];exact (below_size y4g_):w.heap.size≤gb218));have n4_:=A0_ ((by rw [hg];exact (below_size y4g_):w.heap.size≤gb218));have n5_:=A0_ ((by rw [hg];exact Nat.ne_of_lt (blk_lt (g:=gb216) (o:=.cells #[.slice (some ad217) l0_0.length c0_0,.int .i64 a0_1,.int .i64 a0_2,.int .i64 a0_3,.int .i64 a0_4] 96 (0,0)) (bd_ BK216.out)):gb216≠gb218));have n6_:=A0_ ((by rw [hg];exact Nat.ne_of_gt (blk_lt (g:=gb216) (o:=.cells #[.slice (some ad217) l0_0.length c0_0,.int .i64 a0_1,.int .i64 a0_2,.int .i64 a0_3,.int .i64 a0_4] 96 (0,0)) (bd_ BK216.out)):gb218≠gb216));clear BK216;clear HB;have BK216:=n0_;have HB:=n1_;have BK218:=n2_;have GW218:=n3_;have GE218:=n4_;have NB216_218:=n5_;have NB218_216:=n6_;clear n0_ n1_ n2_ n3_ n4_ n5_ n6_;clear hb hbox hg;have hnb10:=NB218_216.out;have hnc10:=NB216_218.out;obtain ⟨hcz11_0,hcz11_1,hcz11_2,hcz11_3,hfz11_0,hfz11_1,hfz11_2,hfz11_3⟩:=bq4_ BK218.out))
   have n0_:Aside0 (((((w9.setCell ⟨gb218,0,none⟩ (.int .i64 ((rd_T83 l0_0 a1).f0.f0))).setCell ⟨gb218,1,none⟩ (.int .i64 ((rd_T83 l0_0 a1).f0.f1))).setCell ⟨gb218,2,none⟩ (.int .i64 ((rd_T83 l0_0 a1).f1))).setCell ⟨gb218,3,none⟩ (.slice A217_3 ((rd_T83 l0_0 a1).f2).length c217_3)).heap[gb216]?=some (.cells #[.slice (some ad217) l0_0.length c0_0,.int .i64 a0_1,.int .i64 a0_2,.int .i64 a0_3,.int .i64 a0_4] 96 (0,0))):=⟨by (with_reducible repeat (first|refine blk_drewN ?_ _|refine blk_drew ?_|refine blk_alloc ?_ _));refine blk_far ?_ NB216_218.out _;(with_reducible repeat (first|refine blk_drewN ?_ _|refine blk_drew ?_|refine blk_alloc ?_ _));refine blk_far ?_ NB216_218.out _;(with_reducible repeat (first|refine blk_drewN ?_ _|refine blk_drew ?_|refine blk_alloc ?_ _));refine blk_far ?_ NB216_218.out _;(with_reducible repeat (first|refine blk_drewN ?_ _|refine blk_drew ?_|refine blk_alloc ?_ _));refine blk_far ?_ NB216_218.out _;(with_reducible repeat (first|refine blk_drewN ?_ _|refine blk_drew ?_|refine blk_alloc ?_ _));exact BK216.out⟩
   have n1_:Aside0 (((((w9.setCell ⟨gb218,0,none⟩ (.int .i64 ((rd_T83 l0_0 a1).f0.f0))).setCell ⟨gb218,1,none⟩ (.int .i64 ((rd_T83 l0_0 a1).f0.f1))).setCell ⟨gb218,2,none⟩ (.int .i64 ((rd_T83 l0_0 a1).f1))).setCell ⟨gb218,3,none⟩ (.slice A217_3 ((rd_T83 l0_0 a1).f2).length c217_3)).heap[gb218]?=some (.cells #[.int .i64 ((rd_T83 l0_0 a1).f0.f0),.int .i64 ((rd_T83 l0_0 a1).f0.f1),.int .i64 ((rd_T83 l0_0 a1).f1),.slice A217_3 ((rd_T83 l0_0 a1).f2).length c217_3] 83 (0,0))):=⟨by (with_reducible repeat (first|refine blk_drewN ?_ _|refine blk_drew ?_|refine blk_alloc ?_ _));refine blk_put (cs:=#[.int .i64 ((rd_T83 l0_0 a1).f0.f0),.int .i64 ((rd_T83 l0_0 a1).f0.f1),.int .i64 ((rd_T83 l0_0 a1).f1),.slice none 0 0]) ?_ 3 _ rfl;(with_reducible repeat (first|refine blk_drewN ?_ _|refine blk_drew ?_|refine blk_alloc ?_ _));refine blk_put (cs:=#[.int .i64 ((rd_T83 l0_0 a1).f0.f0),.int .i64 ((rd_T83 l0_0 a1).f0.f1),.int .i64 0,.slice none 0 0]) ?_ 2 _ rfl;(with_reducible repeat (first|refine blk_drewN ?_ _|refine blk_drew ?_|refine blk_alloc ?_ _));refine blk_put (cs:=#[.int .i64 ((rd_T83 l0_0 a1).f0.f0),.int .i64 0,.int .i64 0,.slice none 0 0]) ?_ 1 _ rfl;(with_reducible repeat (first|refine blk_drewN ?_ _|refine blk_drew ?_|refine blk_alloc ?_ _));refine blk_put (cs:=#[.int .i64 0,.int .i64 0,.int .i64 0,.slice none 0 0]) ?_ 0 _ rfl;(with_reducible repeat (first|refine blk_drewN ?_ _|refine blk_drew ?_|refine blk_alloc ?_ _));exact BK218.out⟩
   have n2_:Aside0 (Below w.heap.size w ((((w9.setCell ⟨gb218,0,none⟩ (.int .i64 ((rd_T83 l0_0 a1).f0.f0))).setCell ⟨gb218,1,none⟩ (.int .i64 ((rd_T83 l0_0 a1).f0.f1))).setCell ⟨gb218,2,none⟩ (.int .i64 ((rd_T83 l0_0 a1).f1))).setCell ⟨gb218,3,none⟩ (.slice A217_3 ((rd_T83 l0_0 a1).f2).length c217_3))):=⟨y2z_⟩
   (try clear BK216);(try clear BK218);(try clear HB)
   generalize ((((w9.setCell ⟨gb218,0,none⟩ (.int .i64 ((rd_T83 l0_0 a1).f0.f0))).setCell ⟨gb218,1,none⟩ (.int .i64 ((rd_T83 l0_0 a1).f0.f1))).setCell ⟨gb218,2,none⟩ (.int .i64 ((rd_T83 l0_0 a1).f1))).setCell ⟨gb218,3,none⟩ (.slice A217_3 ((rd_T83 l0_0 a1).f2).length c217_3))=w12 at n0_ n1_ n2_ ⊢
   have BK216:=n0_;have BK218:=n1_;have HB:=n2_;clear n0_ n1_ n2_;have n0_:=A0_ (blk_drew BK216.out);have n1_:=A0_ (blk_drew BK218.out);have n2_:=A0_ (below_drew1 HB.out);clear BK216;clear BK218;clear HB;have BK216:=n0_;have BK218:=n1_;have HB:=n2_;clear n0_ n1_ n2_
   refine start_ (n:=9) (S:=fun w'=>w'.cell? ⟨gb218,0,none⟩=some (.int .i64 ((rd_T83 l0_0 a1).f0.f0))∧w'.cell? ⟨gb218,1,none⟩=some (.int .i64 ((rd_T83 l0_0 a1).f0.f1))∧w'.cell? ⟨gb218,2,none⟩=some (.int .i64 ((rd_T83 l0_0 a1).f1))∧w'.cell? ⟨gb218,3,none⟩=some (.slice A217_3 ((rd_T83 l0_0 a1).f2).length c217_3)∧w'.cell? ⟨gb216,0,none⟩=some (.slice (some ad217) l0_0.length c0_0)∧w'.cell? ⟨gb216,1,none⟩=some (.int .i64 a0_1)∧w'.cell? ⟨gb216,2,none⟩=some (.int .i64 a0_2)∧w'.cell? ⟨gb216,3,none⟩=some (.int .i64 a0_3)∧w'.cell? ⟨gb216,4,none⟩=some (.int .i64 a0_4)) (ds:=[]) #[false,false,false,false,false,false,false,false,false] (by kernel_rfl) rfl rfl ⟨(blk_cell BK218.out 0).trans rfl,(blk_cell BK218.out 1).trans rfl,(blk_cell BK218.out 2).trans rfl,(blk_cell BK218.out 3).trans rfl,(blk_cell BK216.out 0).trans rfl,(blk_cell BK216.out 1).trans rfl,(blk_cell BK216.out 2).trans rfl,(blk_cell BK216.out 3).trans rfl,(blk_cell BK216.out 4).trans rfl⟩ (fun hHeld=>?_);refine with_tabW ss_mean.tab2 ss_mean.bits2 (fun HT_ HW_=>?_)
   generalize w12.drew=w13 at BK216 BK218 HB hHeld ⊢
   refine pu_ (i:=0) (N:=some 12) ?_;refine pu_ (i:=3) (N:=some 15) ?_;refine ta_ (i:=1) (N:=some 13) ?_;refine ta_ (i:=2) (N:=some 14) ?_;refine ta_ (i:=4) (N:=some 16) ?_
   refine one_ (i:=5) (N:=some 17) #[true,true,true,true,true,true,false,false,false] rfl rfl (one_of HT_.out (by kernel_rfl)) (by decide) (fun K hK=>?_)
   refine goes_ Tryz.func109 (by kernel_rfl) rfl #[.agg #[.slice (some ad217) l0_0.length c0_0,.int .i64 a0_1,.int .i64 a0_2,.int .i64 a0_3,.int .i64 a0_4],.agg #[.int .i64 ((rd_T83 l0_0 a1).f0.f0),.int .i64 ((rd_T83 l0_0 a1).f0.f1)]] (by rfl) rfl rfl y1_ ?_
   with_reducible refine (ss_gone.calls _ _ l0_0 a0_1 a0_2 a0_3 a0_4 ((rd_T83 l0_0 a1).f0.f0) ((rd_T83 l0_0 a1).f0.f1) t219 _ ?side1 ?side2 A5.out).mono ?_
   (case side1=>repeat (first|exact (Kd.C_below HR0_0.out HB.out)|(with_reducible refine Kd.C_alloc ?_ _)|(with_reducible refine Kd.C_drewN ?_ _)|(with_reducible refine Kd.C_drew ?_)))
   (case side2=>exact HC0_0.out)
   rintro e w14 ⟨rfl,hb⟩
   refine ⟨_,rfl,?_⟩
   have n0_:=A0_ (blk_below (g:=gb216) (o:=.cells #[.slice (some ad217) l0_0.length c0_0,.int .i64 a0_1,.int .i64 a0_2,.int .i64 a0_3,.int .i64 a0_4] 96 (0,0)) (bd_ BK216.out) hb);have n1_:=A0_ (blk_below (g:=gb218) (o:=.cells #[.int .i64 ((rd_T83 l0_0 a1).f0.f0),.int .i64 ((rd_T83 l0_0 a1).f0.f1),.int .i64 ((rd_T83 l0_0 a1).f1),.slice A217_3 ((rd_T83 l0_0 a1).f2).length c217_3] 83 (0,0)) (bd_ BK218.out) hb);have n2_:=A0_ (below_step y2z_ hb);clear BK216;clear BK218;clear HB;have BK216:=n0_;have BK218:=n1_;have HB:=n2_;clear n0_ n1_ n2_;(try clear hb);(try clear hb2);(try clear hk);(try clear hi)
   refine hK.out _ _ ⟨(blk_cell BK218.out 0).trans rfl,(blk_cell BK218.out 1).trans rfl,(blk_cell BK218.out 2).trans rfl,(blk_cell BK218.out 3).trans rfl,(blk_cell BK216.out 0).trans rfl,(blk_cell BK216.out 1).trans rfl,(blk_cell BK216.out 2).trans rfl,(blk_cell BK216.out 3).trans rfl,(blk_cell BK216.out 4).trans rfl⟩ (fun hHeld=>?_)
   clear hK K
   refine norm_ (a':=?_) ?_ ?_
   rotate_left
   ·show Act.put _ (some 17) _=_
    simp only [Act.put,List.setIfInBounds_toArray,List.set_cons_zero,List.set_cons_succ,i64_w,i32_w]
    rfl
   refine one_ (i:=6) (N:=some 18) #[true,true,true,true,true,true,true,false,false] rfl rfl (one_of HT_.out (by kernel_rfl)) (by decide) (fun K hK=>?_)
   refine Kd.R_lit_step (Kd.int .i64) _ 3 ?hg (N:=18) ?hd (xs:=([(rd_T83 l0_0 a1).f1,t219]:List Int)) (inner:=[.int .i64 ((rd_T83 l0_0 a1).f1),.int .i64 t219]) (ok:=fun _=>True) (okp:=fun _=>True) ?hr ?hp (fun _ hk=>hk) trivial (Below.refl _ _) (Nat.le_refl _) (by simp) ?_;(case hd=>rfl);(case hg=>rfl);(case hr=>first|(go_simp;done)|(go_simp;rfl));(case hp=>exact (Reps.one (show Kd.M (Kd.int .i64) _ _ _ ((rd_T83 l0_0 a1).f1) [.int .i64 ((rd_T83 l0_0 a1).f1)] from rfl) (Reps.one (show Kd.M (Kd.int .i64) _ _ _ t219 [.int .i64 t219] from rfl) (Reps.none _ _))))
   intro v221 w15 ho16 hb hg_ hnew_
   clear hg_ hnew_
   (first|rw [← Ny220.out] at ho16|(simp only [Int.reduceToNat] at ho16;rw [← Ny220.out] at ho16))
   have n0_:=A0_ (Kd.R_lower ho16 (below_size y2z_));have n1_:=A0_ (blk_below (g:=gb216) (o:=.cells #[.slice (some ad217) l0_0.length c0_0,.int .i64 a0_1,.int .i64 a0_2,.int .i64 a0_3,.int .i64 a0_4] 96 (0,0)) (bd_ BK216.out) hb);have n2_:=A0_ (blk_below (g:=gb218) (o:=.cells #[.int .i64 ((rd_T83 l0_0 a1).f0.f0),.int .i64 ((rd_T83 l0_0 a1).f0.f1),.int .i64 ((rd_T83 l0_0 a1).f1),.slice A217_3 ((rd_T83 l0_0 a1).f2).length c217_3] 83 (0,0)) (bd_ BK218.out) hb);have n3_:=A0_ (below_step y2z_ hb);clear BK216;clear BK218;clear HB;have HO222:=n0_;have BK216:=n1_;have BK218:=n2_;have HB:=n3_;clear n0_ n1_ n2_ n3_;clear hb ho16
   obtain ⟨Ao17,co17,eo17⟩:=Kd.R_slice HO222.out
   (first|subst eo17|(injection eo17 with f1_ f2_ f3_;have f4_:=f1_.symm;have f5_:=f3_.symm;clear f1_ f2_ f3_;subst f4_;subst f5_))
   refine hK.out _ _ ⟨(blk_cell BK218.out 0).trans rfl,(blk_cell BK218.out 1).trans rfl,(blk_cell BK218.out 2).trans rfl,(blk_cell BK218.out 3).trans rfl,(blk_cell BK216.out 0).trans rfl,(blk_cell BK216.out 1).trans rfl,(blk_cell BK216.out 2).trans rfl,(blk_cell BK216.out 3).trans rfl,(blk_cell BK216.out 4).trans rfl⟩ (fun hHeld=>?_)
   clear hK K
   refine norm_ (a':=?_) ?_ ?_
   rotate_left
   ·show Act.put _ (some 18) _=_
    simp only [Act.put,List.setIfInBounds_toArray,List.set_cons_zero,List.set_cons_succ,i64_w,i32_w]
    rfl
   refine one_ (i:=7) (N:=some 19) #[true,true,true,true,true,true,true,true,false] rfl rfl (one_of HT_.out (by kernel_rfl)) (by decide) (fun K hK=>?_)
   refine goes_ Tryz.func108 (by kernel_rfl) rfl #[.slice Ao17 y220.length co17] (by rfl) rfl rfl y1_ ?_
   with_reducible refine (sky_sum.calls k _ _ y220 t223 _ ?side1 ?side2 A6.out).mono ?_
   (case side1=>repeat (first|exact (Kd.R_reads' HO222.out).2.2|(with_reducible refine Kd.C_alloc ?_ _)|(with_reducible refine Kd.C_drewN ?_ _)|(with_reducible refine Kd.C_drew ?_)))
   (case side2=>exact (Kd.R_reads' HO222.out).2.1)
   rintro e w' ⟨rfl,⟨nd,rfl⟩⟩
   refine ⟨_,rfl,?_⟩
   refine hK.out _ _ ⟨(blk_cell BK218.out 0).trans rfl,(blk_cell BK218.out 1).trans rfl,(blk_cell BK218.out 2).trans rfl,(blk_cell BK218.out 3).trans rfl,(blk_cell BK216.out 0).trans rfl,(blk_cell BK216.out 1).trans rfl,(blk_cell BK216.out 2).trans rfl,(blk_cell BK216.out 3).trans rfl,(blk_cell BK216.out 4).trans rfl⟩ (fun hHeld=>?_)
   clear hK K
   refine norm_ (a':=?_) ?_ ?_
   rotate_left
   ·show Act.put _ (some 19) _=_
    simp only [Act.put,List.setIfInBounds_toArray,List.set_cons_zero,List.set_cons_succ,i64_w,i32_w]
    rfl
   refine pu_ (i:=8) (N:=some 4) ?_
   refine done_ (done_of HT_.out (by kernel_rfl)) ?_
   try go_wp2
   go_ret
   exact ⟨y3_,y2z_⟩
  ·rw [if_neg c4] at H;exact absurd H (by simp)
 ·rw [if_neg c3] at H;exact absurd H (by simp)
def ss_way.f (k:Nat) (l0_0:List (S83)) (a0_1:Int) (a0_2:Int) (a0_3:Int) (a0_4:Int) (a1:Int):Option (Int):=if 0≤a1 then (if a1<(l0_0.length:Int) then ((ss_mean.f k l0_0 a0_1 a0_2 a0_3 a0_4 a1).bind fun t226=>((sky_around.f t226).bind fun t227=>((sky_floor.f (wrap64 (t227*(((rd_T83 l0_0 a1).f2).length:Int))) 21600).bind fun bt228=>(if (((rd_T83 l0_0 a1).f2).length:Int)=0 then (none) else (if 0≤(Int.tmod (wrap64 (bt228.1+1)) (((rd_T83 l0_0 a1).f2).length:Int)) then (if (Int.tmod (wrap64 (bt228.1+1)) (((rd_T83 l0_0 a1).f2).length:Int))<(((rd_T83 l0_0 a1).f2).length:Int) then (if 0≤bt228.1 then (if bt228.1<(((rd_T83 l0_0 a1).f2).length:Int) then ((sky_floor.f (wrap64 ((wrap64 ((rd ((rd_T83 l0_0 a1).f2) (Int.tmod (wrap64 (bt228.1+1)) (((rd_T83 l0_0 a1).f2).length:Int))) - (rd ((rd_T83 l0_0 a1).f2) bt228.1)))*bt228.2)) 21600).bind fun bt232=>((sky_sum.f k (([t226,rd ((rd_T83 l0_0 a1).f2) bt228.1,bt232.1]:List Int))).bind fun t238=>(some t238))) else (none)) else (none)) else (none)) else (none)))))) else (none)) else (none)
set_option maxHeartbeats 8000000 in
set_option maxRecDepth 100000 in
theorem ss_way.calls (k:Nat) (A0_0:Option Addr) (c0_0:Nat) (l0_0:List (S83)) (a0_1:Int) (a0_2:Int) (a0_3:Int) (a0_4:Int) (a1:Int) (r:Int) (w:World) (hr0_0:Kd.C k83 w A0_0 l0_0.length l0_0) (hc0_0:l0_0.length≤c0_0) (h:ss_way.f k l0_0 a0_1 a0_2 a0_3 a0_4 a1=some r):
  Calls Tryz.prog 64 #[.agg #[.slice A0_0 l0_0.length c0_0,.int .i64 a0_1,.int .i64 a0_2,.int .i64 a0_3,.int .i64 a0_4],.int .i64 a1] w fun e w'=>e=.returned (.int .i64 r)∧Below w.heap.size w w':=by
 have hu96:=Tryz.underlying96
 have HR0_0:=A0_ hr0_0;have HC0_0:=A0_ hc0_0;clear hr0_0 hc0_0
 have HB:=A0_ (Below.refl w.heap.size w)
 have H:(if 0≤a1 then (if a1<(l0_0.length:Int) then ((ss_mean.f k l0_0 a0_1 a0_2 a0_3 a0_4 a1).bind fun t226=>((sky_around.f t226).bind fun t227=>((sky_floor.f (wrap64 (t227*(((rd_T83 l0_0 a1).f2).length:Int))) 21600).bind fun bt228=>(if (((rd_T83 l0_0 a1).f2).length:Int)=0 then (none) else (if 0≤(Int.tmod (wrap64 (bt228.1+1)) (((rd_T83 l0_0 a1).f2).length:Int)) then (if (Int.tmod (wrap64 (bt228.1+1)) (((rd_T83 l0_0 a1).f2).length:Int))<(((rd_T83 l0_0 a1).f2).length:Int) then (if 0≤bt228.1 then (if bt228.1<(((rd_T83 l0_0 a1).f2).length:Int) then ((sky_floor.f (wrap64 ((wrap64 ((rd ((rd_T83 l0_0 a1).f2) (Int.tmod (wrap64 (bt228.1+1)) (((rd_T83 l0_0 a1).f2).length:Int))) - (rd ((rd_T83 l0_0 a1).f2) bt228.1)))*bt228.2)) 21600).bind fun bt232=>((sky_sum.f k (([t226,rd ((rd_T83 l0_0 a1).f2) bt228.1,bt232.1]:List Int))).bind fun t238=>(some t238))) else (none)) else (none)) else (none)) else (none)))))) else (none)) else (none))=some r:=h
 clear h
 by_cases c3:0≤a1
 ·rw [if_pos c3] at H;have c3b0:decide (0≤a1)=true:=decide_eq_true c3;clear c3
  by_cases c4:a1<(l0_0.length:Int)
  ·rw [if_pos c4] at H;have c4b0:decide (a1<(l0_0.length:Int))=true:=decide_eq_true c4;clear c4;replace H:=Option.bind_eq_some_iff.mp H;obtain ⟨t226,A50,H⟩:=H
   replace H:((sky_around.f t226).bind fun t227=>((sky_floor.f (wrap64 (t227*(((rd_T83 l0_0 a1).f2).length:Int))) 21600).bind fun bt228=>(if (((rd_T83 l0_0 a1).f2).length:Int)=0 then (none) else (if 0≤(Int.tmod (wrap64 (bt228.1+1)) (((rd_T83 l0_0 a1).f2).length:Int)) then (if (Int.tmod (wrap64 (bt228.1+1)) (((rd_T83 l0_0 a1).f2).length:Int))<(((rd_T83 l0_0 a1).f2).length:Int) then (if 0≤bt228.1 then (if bt228.1<(((rd_T83 l0_0 a1).f2).length:Int) then ((sky_floor.f (wrap64 ((wrap64 ((rd ((rd_T83 l0_0 a1).f2) (Int.tmod (wrap64 (bt228.1+1)) (((rd_T83 l0_0 a1).f2).length:Int))) - (rd ((rd_T83 l0_0 a1).f2) bt228.1)))*bt228.2)) 21600).bind fun bt232=>((sky_sum.f k (([t226,rd ((rd_T83 l0_0 a1).f2) bt228.1,bt232.1]:List Int))).bind fun t238=>(some t238))) else (none)) else (none)) else (none)) else (none)))))=some r:=H
   have A5:=A0_ A50;clear A50;replace H:=Option.bind_eq_some_iff.mp H;obtain ⟨t227,A60,H⟩:=H
   replace H:((sky_floor.f (wrap64 (t227*(((rd_T83 l0_0 a1).f2).length:Int))) 21600).bind fun bt228=>(if (((rd_T83 l0_0 a1).f2).length:Int)=0 then (none) else (if 0≤(Int.tmod (wrap64 (bt228.1+1)) (((rd_T83 l0_0 a1).f2).length:Int)) then (if (Int.tmod (wrap64 (bt228.1+1)) (((rd_T83 l0_0 a1).f2).length:Int))<(((rd_T83 l0_0 a1).f2).length:Int) then (if 0≤bt228.1 then (if bt228.1<(((rd_T83 l0_0 a1).f2).length:Int) then ((sky_floor.f (wrap64 ((wrap64 ((rd ((rd_T83 l0_0 a1).f2) (Int.tmod (wrap64 (bt228.1+1)) (((rd_T83 l0_0 a1).f2).length:Int))) - (rd ((rd_T83 l0_0 a1).f2) bt228.1)))*bt228.2)) 21600).bind fun bt232=>((sky_sum.f k (([t226,rd ((rd_T83 l0_0 a1).f2) bt228.1,bt232.1]:List Int))).bind fun t238=>(some t238))) else (none)) else (none)) else (none)) else (none))))=some r:=H
   have A6:=A0_ A60;clear A60;replace H:=Option.bind_eq_some_iff.mp H
   obtain ⟨⟨t228,t229⟩,A70,H⟩:=H
   replace H:(if (((rd_T83 l0_0 a1).f2).length:Int)=0 then (none) else (if 0≤(Int.tmod (wrap64 (t228+1)) (((rd_T83 l0_0 a1).f2).length:Int)) then (if (Int.tmod (wrap64 (t228+1)) (((rd_T83 l0_0 a1).f2).length:Int))<(((rd_T83 l0_0 a1).f2).length:Int) then (if 0≤t228 then (if t228<(((rd_T83 l0_0 a1).f2).length:Int) then ((sky_floor.f (wrap64 ((wrap64 ((rd ((rd_T83 l0_0 a1).f2) (Int.tmod (wrap64 (t228+1)) (((rd_T83 l0_0 a1).f2).length:Int))) - (rd ((rd_T83 l0_0 a1).f2) t228)))*t229)) 21600).bind fun bt232=>((sky_sum.f k (([t226,rd ((rd_T83 l0_0 a1).f2) t228,bt232.1]:List Int))).bind fun t238=>(some t238))) else (none)) else (none)) else (none)) else (none)))=some r:=H
   have A7:=A0_ A70;clear A70
   by_cases c8:(((rd_T83 l0_0 a1).f2).length:Int)=0
   ·rw [if_pos c8] at H;exact absurd H (by simp)
   ·rw [if_neg c8] at H
    have c8b0:((((rd_T83 l0_0 a1).f2).length:Int) == 0)=false:=beq_eq_false_iff_ne.mpr c8
    have c8b1:((((rd_T83 l0_0 a1).f2).length:Int) != 0)=true:=bne_iff_ne.mpr c8
    have c8b2:¬ (((rd_T83 l0_0 a1).f2)=[]):=fun h_=>c8 (by rw [h_];rfl)
    obtain ⟨ji9,hji9⟩:∃ j_:Int,(Int.tmod (wrap64 (t228+1)) (((rd_T83 l0_0 a1).f2).length:Int))=j_:=⟨_,rfl⟩
    replace H:(if 0≤(ji9) then (if (ji9)<(((rd_T83 l0_0 a1).f2).length:Int) then (if 0≤t228 then (if t228<(((rd_T83 l0_0 a1).f2).length:Int) then ((sky_floor.f (wrap64 ((wrap64 ((rd ((rd_T83 l0_0 a1).f2) (ji9)) - (rd ((rd_T83 l0_0 a1).f2) t228)))*t229)) 21600).bind fun bt232=>((sky_sum.f k (([t226,rd ((rd_T83 l0_0 a1).f2) t228,bt232.1]:List Int))).bind fun t238=>(some t238))) else (none)) else (none)) else (none)) else (none))=some r:=by first|(rw [hji9] at H;exact H)|(simp only [hji9] at H ⊢;exact H)
    (try rw [hji9] at A5)
    (try rw [hji9] at A6)
    (try rw [hji9] at A7)
    by_cases c10:0≤(ji9)
    ·rw [if_pos c10] at H;have c10b0:decide (0≤(ji9))=true:=decide_eq_true c10;clear c10
     by_cases c11:(ji9)<(((rd_T83 l0_0 a1).f2).length:Int)
     ·rw [if_pos c11] at H;have c11b0:decide ((ji9)<(((rd_T83 l0_0 a1).f2).length:Int))=true:=decide_eq_true c11;clear c11
      by_cases c12:0≤t228
      ·rw [if_pos c12] at H;have c12b0:decide (0≤t228)=true:=decide_eq_true c12;clear c12
       by_cases c13:t228<(((rd_T83 l0_0 a1).f2).length:Int)
       ·rw [if_pos c13] at H;have c13b0:decide (t228<(((rd_T83 l0_0 a1).f2).length:Int))=true:=decide_eq_true c13;clear c13;replace H:=Option.bind_eq_some_iff.mp H
        obtain ⟨⟨t232,t233⟩,A140,H⟩:=H
        replace H:((sky_sum.f k (([t226,rd ((rd_T83 l0_0 a1).f2) t228,t232]:List Int))).bind fun t238=>(some t238))=some r:=H
        have A14:=A0_ A140;clear A140
        obtain ⟨y235,hy235⟩:∃ y_:List Int,y_=(([t226,rd ((rd_T83 l0_0 a1).f2) t228,t232]:List Int)):=⟨_,rfl⟩
        replace H:((sky_sum.f k y235).bind fun t238=>(some t238))=some r:=by first|(rw [hy235];with_reducible exact H)|(have H2_:=(Option.bind_some _ _).symm.trans H;rw [hy235];with_reducible exact H2_)|(have H2_:=(Option.bind_some _ _).symm.trans H;with_reducible exact H2_)|with_reducible exact H|(rw [hy235];exact H)|exact H
        have Ny235:=A0_ hy235;clear hy235;replace H:=Option.bind_eq_some_iff.mp H;obtain ⟨t238,A150,H⟩:=H
        replace H:(some t238)=some r:=H
        have A15:=A0_ A150;clear A150;obtain rfl:=Option.some.inj H
        go_enter Tryz.func64,Tryz.ntmps64
        go_wp2_with (first|((with_reducible refine gate_dst (N:=2) rfl ?_);refine box_event ?hg (N:=2) ?hd (cs:=#[.slice A0_0 l0_0.length c0_0,.int .i64 a0_1,.int .i64 a0_2,.int .i64 a0_3,.int .i64 a0_4]) (t:=96) ?hr ?_;(case hd=>rfl);(case hg=>rfl);(case hr=>first|(go_simp;done)|(go_simp;rfl));intro gb224 hg w16 hbox hb;have n0_:=A0_ (below_step y0_ hb);have n1_:=A0_ (hbox);have n2_:=A0_ ((by rw [hg];exact (below_size y0_):w.heap.size≤gb224));have n3_:=A0_ ((by rw [hg];exact (below_size y0_):w.heap.size≤gb224));clear HB;have HB:=n0_;have BK224:=n1_;have GW224:=n2_;have GE224:=n3_;clear n0_ n1_ n2_ n3_;clear hb hbox hg;obtain ⟨hcz17_0,hcz17_1,hcz17_2,hcz17_3,hcz17_4,hfz17_0,hfz17_1,hfz17_2,hfz17_3,hfz17_4⟩:=bq5_ BK224.out;have p225:0≤(a1:Int):=of_decide_eq_true y6_;have q225:a1<(l0_0.length:Int):=of_decide_eq_true y6_;obtain ⟨ad225,A225_3,c225_3,e225,hx225_0,hx225_1,hx225_2,hx225_3,hl225_3,hi225_3⟩:=at_T83 HR0_0.out a1 p225 q225;cases e225;replace hx225_0:=(HB.out.cell (World.block_lt_of_cell? w _ hx225_0)).trans hx225_0;replace hx225_1:=(HB.out.cell (World.block_lt_of_cell? w _ hx225_1)).trans hx225_1;replace hx225_2:=(HB.out.cell (World.block_lt_of_cell? w _ hx225_2)).trans hx225_2;replace hx225_3:=(HB.out.cell (World.block_lt_of_cell? w _ hx225_3)).trans hx225_3;have HR225_3:=A0_ hi225_3;have HC225_3:=A0_ hl225_3;clear hi225_3 hl225_3;replace p225:=eq_true p225;replace q225:=eq_true q225)|((with_reducible refine gate_callee (f:=80) rfl ?_);refine goesL_ (some 21) rfl rfl Tryz.func80 (by kernel_rfl) rfl #[.agg #[.slice (some ad225) l0_0.length c0_0,.int .i64 a0_1,.int .i64 a0_2,.int .i64 a0_3,.int .i64 a0_4],.int .i64 a1] rfl y1_ ?_;(with_reducible refine (ss_mean.calls k _ _ l0_0 a0_1 a0_2 a0_3 a0_4 a1 t226 _ ?side1 ?side2 A5.out).mono ?_);(case side1=>repeat (first|exact (Kd.C_below HR0_0.out HB.out)|(with_reducible refine Kd.C_alloc ?_ _)|(with_reducible refine Kd.C_drewN ?_ _)|(with_reducible refine Kd.C_drew ?_)));(case side2=>exact HC0_0.out);rintro e w18 ⟨rfl,hb⟩;refine ⟨_,rfl,?_⟩;have n0_:=A0_ (blk_below (g:=gb224) (o:=.cells #[.slice (some ad225) l0_0.length c0_0,.int .i64 a0_1,.int .i64 a0_2,.int .i64 a0_3,.int .i64 a0_4] 96 (0,0)) (bd_ BK224.out) hb);have n1_:=A0_ (below_step y3v_ hb);clear BK224;clear HB;have BK224:=n0_;have HB:=n1_;clear n0_ n1_;(try clear hb);(try clear hb2);(try clear hk);(try clear hi))|((with_reducible refine gate_callee (f:=63) rfl ?_);refine goesL_ (some 24) rfl rfl Tryz.func63 (by kernel_rfl) rfl #[.int .i64 t226] rfl y1_ ?_;(with_reducible refine (sky_around.calls t226 t227 _ A6.out).mono ?_);rintro e w' ⟨rfl,⟨nd,rfl⟩⟩;refine ⟨_,rfl,?_⟩)|((with_reducible refine gate_callee (f:=104) rfl ?_);refine goesL_ (some 28) rfl rfl Tryz.func104 (by kernel_rfl) rfl #[.int .i64 (wrap64 (t227*(((rd_T83 l0_0 a1).f2).length:Int))),.int .i64 21600] rfl y1_ ?_;(with_reducible refine (sky_floor.calls (wrap64 (t227*(((rd_T83 l0_0 a1).f2).length:Int))) 21600 t228 t229 _ A7.out).mono ?_);rintro e w' ⟨rfl,⟨nd,rfl⟩⟩;refine ⟨_,rfl,?_⟩;have p230:0≤((ji9):Int):=of_decide_eq_true y6_;have q230:(ji9)<(((rd_T83 l0_0 a1).f2).length:Int):=of_decide_eq_true y6_;obtain ⟨ad230,e230,hx230_0⟩:=Kd.at_int HR225_3.out (ji9) p230 q230;cases e230;replace hx230_0:=(HB.out.cell (World.block_lt_of_cell? w _ hx230_0)).trans hx230_0;replace p230:=eq_true p230;replace q230:=eq_true q230;have p231:0≤(t228:Int):=of_decide_eq_true y6_;have q231:t228<(((rd_T83 l0_0 a1).f2).length:Int):=of_decide_eq_true y6_;obtain ⟨ad231,e231,hx231_0⟩:=Kd.at_int HR225_3.out t228 p231 q231;obtain rfl:ad230=ad231:=(by injection e231);replace hx231_0:=(HB.out.cell (World.block_lt_of_cell? w _ hx231_0)).trans hx231_0;replace p231:=eq_true p231;replace q231:=eq_true q231)|((with_reducible refine gate_callee (f:=104) rfl ?_);refine goesL_ (some 48) rfl rfl Tryz.func104 (by kernel_rfl) rfl #[.int .i64 (wrap64 ((wrap64 ((rd ((rd_T83 l0_0 a1).f2) (ji9)) - (rd ((rd_T83 l0_0 a1).f2) t228)))*t229)),.int .i64 21600] rfl (by (try simp only [List.map_toArray,List.map_cons,List.map_nil]);first|done|(simp only [hji9];rfl)|rfl|(simp only [List.length_drop,List.length_take];rfl)) ?_;(with_reducible refine (sky_floor.calls (wrap64 ((wrap64 ((rd ((rd_T83 l0_0 a1).f2) (ji9)) - (rd ((rd_T83 l0_0 a1).f2) t228)))*t229)) 21600 t232 t233 _ A14.out).mono ?_);rintro e w' ⟨rfl,⟨nd,rfl⟩⟩;refine ⟨_,rfl,?_⟩;have p234:0≤(t228:Int):=of_decide_eq_true y6_;have q234:t228<(((rd_T83 l0_0 a1).f2).length:Int):=of_decide_eq_true y6_;obtain ⟨ad234,e234,hx234_0⟩:=Kd.at_int HR225_3.out t228 p234 q234;obtain rfl:ad230=ad234:=(by injection e234);replace hx234_0:=(HB.out.cell (World.block_lt_of_cell? w _ hx234_0)).trans hx234_0;replace p234:=eq_true p234;replace q234:=eq_true q234)|((with_reducible refine gate_dst (N:=57) rfl ?_);refine Kd.R_lit (Kd.int .i64) _ 3 ?hg (N:=57) ?hd (xs:=([t226,rd ((rd_T83 l0_0 a1).f2) t228,t232]:List Int)) (inner:=[.int .i64 t226,.int .i64 (rd ((rd_T83 l0_0 a1).f2) t228),.int .i64 t232]) (ok:=fun _=>True) (okp:=fun _=>True) ?hr ?hp (fun _ hk=>hk) trivial (Below.refl _ _) (Nat.le_refl _) (by simp) ?_;(case hd=>rfl);(case hg=>rfl);(case hr=>first|(go_simp;done)|(go_simp;rfl));(case hp=>exact (Reps.one (show Kd.M (Kd.int .i64) _ _ _ t226 [.int .i64 t226] from rfl) (Reps.one (show Kd.M (Kd.int .i64) _ _ _ (rd ((rd_T83 l0_0 a1).f2) t228) [.int .i64 (rd ((rd_T83 l0_0 a1).f2) t228)] from rfl) (Reps.one (show Kd.M (Kd.int .i64) _ _ _ t232 [.int .i64 t232] from rfl) (Reps.none _ _)))));intro v236 w19 ho20 hb hg_ hnew_;clear hg_ hnew_;(first|rw [← Ny235.out] at ho20|(simp only [Int.reduceToNat] at ho20;rw [← Ny235.out] at ho20));have n0_:=A0_ (Kd.R_lower ho20 (below_size y3v_));have n1_:=A0_ (blk_below (g:=gb224) (o:=.cells #[.slice (some ad225) l0_0.length c0_0,.int .i64 a0_1,.int .i64 a0_2,.int .i64 a0_3,.int .i64 a0_4] 96 (0,0)) (bd_ BK224.out) hb);have n2_:=A0_ (below_step y3v_ hb);clear BK224;clear HB;have HO237:=n0_;have BK224:=n1_;have HB:=n2_;clear n0_ n1_ n2_;clear hb ho20;obtain ⟨Ao21,co21,eo21⟩:=Kd.R_slice HO237.out;subst eo21)|((with_reducible refine gate_callee (f:=108) rfl ?_);refine goesL_ (some 58) rfl rfl Tryz.func108 (by kernel_rfl) rfl #[.slice Ao21 y235.length co21] rfl y1_ ?_;(with_reducible refine (sky_sum.calls k _ _ y235 t238 _ ?side1 ?side2 A15.out).mono ?_);(case side1=>repeat (first|exact (Kd.R_reads' HO237.out).2.2|(with_reducible refine Kd.C_alloc ?_ _)|(with_reducible refine Kd.C_drewN ?_ _)|(with_reducible refine Kd.C_drew ?_)));(case side2=>exact (Kd.R_reads' HO237.out).2.1);rintro e w' ⟨rfl,⟨nd,rfl⟩⟩;refine ⟨_,rfl,?_⟩))
        go_ret
        exact ⟨by first|rfl|(simp [errW_none,errW_some] <;> rfl)|(simp only [← hji9];first|rfl|(simp [errW_none,errW_some] <;> rfl))|(simp [*,errW_none,errW_some] <;> rfl),y3v_⟩
       ·rw [if_neg c13] at H;exact absurd H (by simp)
      ·rw [if_neg c12] at H;exact absurd H (by simp)
     ·rw [if_neg c11] at H;exact absurd H (by simp)
    ·rw [if_neg c10] at H;exact absurd H (by simp)
  ·rw [if_neg c4] at H;exact absurd H (by simp)
 ·rw [if_neg c3] at H;exact absurd H (by simp)
def ss_moon.f (k:Nat) (l0_0:List (S83)) (a0_1:Int) (a0_2:Int) (a0_3:Int) (a0_4:Int):Option (Int):=(ss_way.f k l0_0 a0_1 a0_2 a0_3 a0_4 1).bind fun t240=>(some t240)
set_option maxHeartbeats 8000000 in
set_option maxRecDepth 100000 in
theorem ss_moon.calls (k:Nat) (A0_0:Option Addr) (c0_0:Nat) (l0_0:List (S83)) (a0_1:Int) (a0_2:Int) (a0_3:Int) (a0_4:Int) (r:Int) (w:World) (hr0_0:Kd.C k83 w A0_0 l0_0.length l0_0) (hc0_0:l0_0.length≤c0_0) (h:ss_moon.f k l0_0 a0_1 a0_2 a0_3 a0_4=some r):
  Calls Tryz.prog 105 #[.agg #[.slice A0_0 l0_0.length c0_0,.int .i64 a0_1,.int .i64 a0_2,.int .i64 a0_3,.int .i64 a0_4]] w fun e w'=>e=.returned (.int .i64 r)∧Below w.heap.size w w':=by
 have hu96:=Tryz.underlying96
 have HR0_0:=A0_ hr0_0;have HC0_0:=A0_ hc0_0;clear hr0_0 hc0_0
 have HB:=A0_ (Below.refl w.heap.size w)
 have H:((ss_way.f k l0_0 a0_1 a0_2 a0_3 a0_4 1).bind fun t240=>(some t240))=some r:=h
 clear h;replace H:=Option.bind_eq_some_iff.mp H;obtain ⟨t240,A20,H⟩:=H
 replace H:(some t240)=some r:=H
 have A2:=A0_ A20;clear A20;obtain rfl:=Option.some.inj H
 go_enter Tryz.func105,Tryz.ntmps105
 go_wp2_with (first|((with_reducible refine gate_dst (N:=1) rfl ?_);refine box_event ?hg (N:=1) ?hd (cs:=#[.slice A0_0 l0_0.length c0_0,.int .i64 a0_1,.int .i64 a0_2,.int .i64 a0_3,.int .i64 a0_4]) (t:=96) ?hr ?_;(case hd=>rfl);(case hg=>rfl);(case hr=>first|(go_simp;done)|(go_simp;rfl));intro gb239 hg w3 hbox hb;have n0_:=A0_ (below_step y0_ hb);have n1_:=A0_ (hbox);have n2_:=A0_ ((by rw [hg];exact (below_size y0_):w.heap.size≤gb239));have n3_:=A0_ ((by rw [hg];exact (below_size y0_):w.heap.size≤gb239));clear HB;have HB:=n0_;have BK239:=n1_;have GW239:=n2_;have GE239:=n3_;clear n0_ n1_ n2_ n3_;clear hb hbox hg;obtain ⟨hcz4_0,hcz4_1,hcz4_2,hcz4_3,hcz4_4,hfz4_0,hfz4_1,hfz4_2,hfz4_3,hfz4_4⟩:=bq5_ BK239.out)|((with_reducible refine gate_callee (f:=64) rfl ?_);refine goesL_ (some 4) rfl rfl Tryz.func64 (by kernel_rfl) rfl #[.agg #[.slice A0_0 l0_0.length c0_0,.int .i64 a0_1,.int .i64 a0_2,.int .i64 a0_3,.int .i64 a0_4],.int .i64 1] rfl y1_ ?_;(with_reducible refine (ss_way.calls k _ _ l0_0 a0_1 a0_2 a0_3 a0_4 1 t240 _ ?side1 ?side2 A2.out).mono ?_);(case side1=>repeat (first|exact (Kd.C_below HR0_0.out HB.out)|(with_reducible refine Kd.C_alloc ?_ _)|(with_reducible refine Kd.C_drewN ?_ _)|(with_reducible refine Kd.C_drew ?_)));(case side2=>exact HC0_0.out);rintro e w5 ⟨rfl,hb⟩;refine ⟨_,rfl,?_⟩;have n0_:=A0_ (blk_below (g:=gb239) (o:=.cells #[.slice A0_0 l0_0.length c0_0,.int .i64 a0_1,.int .i64 a0_2,.int .i64 a0_3,.int .i64 a0_4] 96 (0,0)) (bd_ BK239.out) hb);have n1_:=A0_ (below_step y4n_ hb);clear BK239;clear HB;have BK239:=n0_;have HB:=n1_;clear n0_ n1_;(try clear hb);(try clear hb2);(try clear hk);(try clear hi)))
 go_ret
 exact ⟨y3_,y4n_⟩
end Go.Proofs.YtaidphhkhddemaaGreatDoor.PSky
end
