/- A part of the proof of a law of the layer sky. -/
import Derived.ArgAppend
import Derived.Below
import Derived.BigQuiet
import Derived.Deep.AppendLies
import Derived.Deep.CutBlock
import Derived.Deep.DeepCutAuto
import Derived.Deep.Draws
import Derived.Deep.LoopGhost
import Derived.Deep.OwnRows
import Derived.Deep.QuietTactic
import Derived.Deep.RegionHeld3
import Derived.KernelRfl
import Derived.Laws.BitsLemmas
import Derived.Laws.BytesArg
import Derived.Laws.IdiomCopy
import Derived.Laws.MakeOwn
import Derived.Laws.OwnMore
import Derived.Laws.Rows
import Derived.Laws.Slices
import Derived.Lib.AppendStr
import Derived.Lib.ConvBytes
import Derived.Maps.AppendAt
import Derived.OrdersHeld
import Derived.OwnWalk
import Derived.RowKit
import Derived.RowKit3
import Derived.Tactics
import Derived.Test.YtjahbgldccjbfaaGreatDoorProg
import Derived.WalkKit
import Derived.WideLaws
import Derived.Test.YtjahbgldccjbfaaGreatDoorY0
section
namespace Go.Proofs.YtjahbgldccjbfaaGreatDoorW.PrintWords
end Go.Proofs.YtjahbgldccjbfaaGreatDoorW.PrintWords
namespace Go.Proofs.YtjahbgldccjbfaaGreatDoorW.PrintLast
end Go.Proofs.YtjahbgldccjbfaaGreatDoorW.PrintLast
namespace Go.Proofs.YtjahbgldccjbfaaGreatDoorW.PrintMore
end Go.Proofs.YtjahbgldccjbfaaGreatDoorW.PrintMore
namespace Go.Proofs.YtjahbgldccjbfaaGreatDoor.PSky
open Go.RowKit Go.Proofs.YtjahbgldccjbfaaGreatDoorW.PrintWords Go.Proofs.YtjahbgldccjbfaaGreatDoorW.PrintLast Go.Proofs.YtjahbgldccjbfaaGreatDoorW.PrintMore
attribute [local go_sem] max2_int min2_int max_two min_two max_three min_three max_four min_four
set_option linter.unusedVariables false
set_option linter.unusedSimpArgs false
def errW:Option Int→Value
 |none=>.nilIface
 |some c=>.iface 0 (.int .i64 c)
theorem errW_none:errW none=.nilIface:=rfl
theorem errW_some (c:Int):errW (some c)=.iface 0 (.int .i64 c):=rfl
theorem info3:(Tryz.prog.info? 3).map (fun i=>(i.zero,i.size,i.bytes))=some (some (.int .i64 0),1,8):=by kernel_rfl
theorem info9:(Tryz.prog.info? 9).map (fun i=>(i.zero,i.size,i.bytes))=some (some (.string ⟨#[]⟩),1,16):=by kernel_rfl
theorem info74:(Tryz.prog.info? 74).map (fun i=>(i.zero,i.size,i.bytes))=some (some (.agg #[(.int .i64 0),(.int .i64 0),(.int .i64 0),(.slice none 0 0)]),4,48):=by kernel_rfl
theorem info98:(Tryz.prog.info? 98).map (fun i=>(i.zero,i.size,i.bytes))=some (some (.agg #[(.int .i64 0),(.bool false),(.int .i64 0)]),3,24):=by kernel_rfl
structure S25 where
 f0:Int
 f1:Int
def z25:S25:=⟨(0:Int),(0:Int)⟩
def k25:Kd S25:=Kd.iso (Kd.pair (Kd.int .i64) (Kd.int .i64)) (fun x:S25=>(x.f0,x.f1))
theorem k25_open {w:World} {x:S25} {cs:List Value} (h:k25.K w x cs):cs=[.int .i64 x.f0,.int .i64 x.f1]:=by
 obtain ⟨_,_,rfl,rfl,rfl⟩:=h
 exact rfl
theorem k25_mk (w:World) (x:S25)  : k25.K w x [.int .i64 x.f0,.int .i64 x.f1]:=⟨[.int .i64 x.f0],[.int .i64 x.f1],rfl,rfl,rfl⟩
structure S74 where
 f0:S25
 f1:Int
 f2:(List Int)
def z74:S74:=⟨z25,(0:Int),([]:List Int)⟩
def k74:Kd S74:=Kd.iso (Kd.pair k25 (Kd.pair (Kd.int .i64) (Kd.slice 3 (Kd.int .i64)))) (fun x:S74=>(x.f0,x.f1,x.f2))
theorem k74_open {w:World} {x:S74} {cs:List Value} (h:k74.K w x cs):∃ A3 c3,cs=[.int .i64 x.f0.f0,.int .i64 x.f0.f1,.int .i64 x.f1,.slice A3 x.f2.length c3]∧x.f2.length≤c3∧(Kd.int .i64).C w A3 x.f2.length x.f2:=by
 obtain ⟨_,_,rfl,s0,⟨_,_,rfl,rfl,⟨A3,c3,rfl,l3,g3⟩⟩⟩:=h
 obtain rfl:=k25_open s0
 exact ⟨A3,c3,rfl,l3,g3⟩
theorem k74_mk (w:World) (x:S74) {A3:Option Addr} {c3:Nat} (l3:x.f2.length≤c3) (g3:(Kd.int .i64).C w A3 x.f2.length x.f2):k74.K w x [.int .i64 x.f0.f0,.int .i64 x.f0.f1,.int .i64 x.f1,.slice A3 x.f2.length c3]:=⟨[.int .i64 x.f0.f0,.int .i64 x.f0.f1],[.int .i64 x.f1,.slice A3 x.f2.length c3],rfl,(k25_mk w x.f0 ),⟨[.int .i64 x.f1],[.slice A3 x.f2.length c3],rfl,rfl,⟨A3,c3,rfl,l3,g3⟩⟩⟩
theorem k74_mkF (W:World) (ok:Nat→Prop) (x:S74) {A3:Option Addr} {c3:Nat} (l3:x.f2.length≤c3) (g3:Kd.F (Kd.int .i64) W ok A3 x.f2.length x.f2):Kd.FK k74 W ok x [.int .i64 x.f0.f0,.int .i64 x.f0.f1,.int .i64 x.f1,.slice A3 x.f2.length c3]:=fun W2 hW=>k74_mk W2 x l3 (g3 W2 hW)
def rd_T74 (xs:List S74) (i:Int):S74:=xs.getD i.toNat z74
theorem at_T74 {w:World} {A:Option Addr} {n:Nat} {xs:List S74} (h:Kd.C k74 w A n xs) (i:Int) (h0:0≤i) (h1:i<n):∃ ad A3 c3,A=some ad∧w.cell? (ad.add (i.toNat*4))=some (.int .i64 (rd_T74 xs i).f0.f0)∧w.cell? ⟨(ad.add (i.toNat*4)).block,(ad.add (i.toNat*4)).off+1,none⟩=some (.int .i64 (rd_T74 xs i).f0.f1)∧w.cell? ⟨(ad.add (i.toNat*4)).block,(ad.add (i.toNat*4)).off+2,none⟩=some (.int .i64 (rd_T74 xs i).f1)∧w.cell? ⟨(ad.add (i.toNat*4)).block,(ad.add (i.toNat*4)).off+3,none⟩=some (.slice A3 (rd_T74 xs i).f2.length c3)∧(rd_T74 xs i).f2.length≤c3∧(Kd.int .i64).C w A3 (rd_T74 xs i).f2.length (rd_T74 xs i).f2:=by
 obtain ⟨ad,c,e,_,hK,hc0⟩:=Kd.C_get h z74 i h0 h1
 have hc:∀ j u,c[j]?=some u→w.cell? (ad.add (i.toNat*4+j))=some u:=hc0
 obtain ⟨A3,c3,rfl,l3,g3⟩:=k74_open hK
 exact ⟨ad,A3,c3,e,hc 0 _ rfl,by rw [← add_field _ _ 1 (by omega)];exact hc 1 _ rfl,by rw [← add_field _ _ 2 (by omega)];exact hc 2 _ rfl,by rw [← add_field _ _ 3 (by omega)];exact hc 3 _ rfl,l3,g3⟩
structure S95 where
 f0:Int
 f1:Bool
def z95:S95:=⟨(0:Int),false⟩
def k95:Kd S95:=Kd.iso (Kd.pair (Kd.int .i64) Kd.bool) (fun x:S95=>(x.f0,x.f1))
theorem k95_open {w:World} {x:S95} {cs:List Value} (h:k95.K w x cs):cs=[.int .i64 x.f0,.bool x.f1]:=by
 obtain ⟨_,_,rfl,rfl,rfl⟩:=h
 exact rfl
theorem k95_openM {w:World} {base:Nat} {ok:Nat→Prop} {x:S95} {cs:List Value} (h:k95.M w base ok x cs):cs=[.int .i64 x.f0,.bool x.f1]:=by
 obtain ⟨_,_,rfl,rfl,rfl⟩:=h
 exact rfl
theorem k95_mkM (w:World) (base:Nat) (ok:Nat→Prop) (x:S95)  : k95.M w base ok x [.int .i64 x.f0,.bool x.f1]:=⟨[.int .i64 x.f0],[.bool x.f1],rfl,rfl,rfl⟩
def rd_T95 (xs:List S95) (i:Int):S95:=xs.getD i.toNat z95
theorem at_T95 {w:World} {A:Option Addr} {n:Nat} {xs:List S95} (h:Kd.C k95 w A n xs) (i:Int) (h0:0≤i) (h1:i<n):∃ ad ,A=some ad∧w.cell? (ad.add (i.toNat*2))=some (.int .i64 (rd_T95 xs i).f0)∧w.cell? ⟨(ad.add (i.toNat*2)).block,(ad.add (i.toNat*2)).off+1,none⟩=some (.bool (rd_T95 xs i).f1):=by
 obtain ⟨ad,c,e,_,hK,hc0⟩:=Kd.C_get h z95 i h0 h1
 have hc:∀ j u,c[j]?=some u→w.cell? (ad.add (i.toNat*2+j))=some u:=hc0
 obtain rfl:=k95_open hK
 exact ⟨ad,e,hc 0 _ rfl,by rw [← add_field _ _ 1 (by omega)];exact hc 1 _ rfl⟩
structure S89 where
 f0:Int
 f1:Int
 f2:Int
def z89:S89:=⟨(0:Int),(0:Int),(0:Int)⟩
def k89:Kd S89:=Kd.iso (Kd.pair (Kd.int .i64) (Kd.pair (Kd.int .i64) (Kd.int .i64))) (fun x:S89=>(x.f0,x.f1,x.f2))
theorem k89_open {w:World} {x:S89} {cs:List Value} (h:k89.K w x cs):cs=[.int .i64 x.f0,.int .i64 x.f1,.int .i64 x.f2]:=by
 obtain ⟨_,_,rfl,rfl,⟨_,_,rfl,rfl,rfl⟩⟩:=h
 exact rfl
theorem k89_mkM (w:World) (base:Nat) (ok:Nat→Prop) (x:S89)  : k89.M w base ok x [.int .i64 x.f0,.int .i64 x.f1,.int .i64 x.f2]:=⟨[.int .i64 x.f0],[.int .i64 x.f1,.int .i64 x.f2],rfl,rfl,⟨[.int .i64 x.f1],[.int .i64 x.f2],rfl,rfl,rfl⟩⟩
def rd_T89 (xs:List S89) (i:Int):S89:=xs.getD i.toNat z89
theorem at_T89 {w:World} {A:Option Addr} {n:Nat} {xs:List S89} (h:Kd.C k89 w A n xs) (i:Int) (h0:0≤i) (h1:i<n):∃ ad ,A=some ad∧w.cell? (ad.add (i.toNat*3))=some (.int .i64 (rd_T89 xs i).f0)∧w.cell? ⟨(ad.add (i.toNat*3)).block,(ad.add (i.toNat*3)).off+1,none⟩=some (.int .i64 (rd_T89 xs i).f1)∧w.cell? ⟨(ad.add (i.toNat*3)).block,(ad.add (i.toNat*3)).off+2,none⟩=some (.int .i64 (rd_T89 xs i).f2):=by
 obtain ⟨ad,c,e,_,hK,hc0⟩:=Kd.C_get h z89 i h0 h1
 have hc:∀ j u,c[j]?=some u→w.cell? (ad.add (i.toNat*3+j))=some u:=hc0
 obtain rfl:=k89_open hK
 exact ⟨ad,e,hc 0 _ rfl,by rw [← add_field _ _ 1 (by omega)];exact hc 1 _ rfl,by rw [← add_field _ _ 2 (by omega)];exact hc 2 _ rfl⟩
structure S137 where
 f0:Int
 f1:Int
def z137:S137:=⟨(0:Int),(0:Int)⟩
def k137:Kd S137:=Kd.iso (Kd.pair (Kd.int .i64) (Kd.int .i64)) (fun x:S137=>(x.f0,x.f1))
theorem k137_open {w:World} {x:S137} {cs:List Value} (h:k137.K w x cs):cs=[.int .i64 x.f0,.int .i64 x.f1]:=by
 obtain ⟨_,_,rfl,rfl,rfl⟩:=h
 exact rfl
theorem k137_mkM (w:World) (base:Nat) (ok:Nat→Prop) (x:S137)  : k137.M w base ok x [.int .i64 x.f0,.int .i64 x.f1]:=⟨[.int .i64 x.f0],[.int .i64 x.f1],rfl,rfl,rfl⟩
def rd_T137 (xs:List S137) (i:Int):S137:=xs.getD i.toNat z137
theorem at_T137 {w:World} {A:Option Addr} {n:Nat} {xs:List S137} (h:Kd.C k137 w A n xs) (i:Int) (h0:0≤i) (h1:i<n):∃ ad ,A=some ad∧w.cell? (ad.add (i.toNat*2))=some (.int .i64 (rd_T137 xs i).f0)∧w.cell? ⟨(ad.add (i.toNat*2)).block,(ad.add (i.toNat*2)).off+1,none⟩=some (.int .i64 (rd_T137 xs i).f1):=by
 obtain ⟨ad,c,e,_,hK,hc0⟩:=Kd.C_get h z137 i h0 h1
 have hc:∀ j u,c[j]?=some u→w.cell? (ad.add (i.toNat*2+j))=some u:=hc0
 obtain rfl:=k137_open hK
 exact ⟨ad,e,hc 0 _ rfl,by rw [← add_field _ _ 1 (by omega)];exact hc 1 _ rfl⟩
structure S119 where
 f0:Int
 f1:Int
def z119:S119:=⟨(0:Int),(0:Int)⟩
def k119:Kd S119:=Kd.iso (Kd.pair (Kd.int .i64) (Kd.int .i64)) (fun x:S119=>(x.f0,x.f1))
theorem k119_open {w:World} {x:S119} {cs:List Value} (h:k119.K w x cs):cs=[.int .i64 x.f0,.int .i64 x.f1]:=by
 obtain ⟨_,_,rfl,rfl,rfl⟩:=h
 exact rfl
theorem k119_mkM (w:World) (base:Nat) (ok:Nat→Prop) (x:S119)  : k119.M w base ok x [.int .i64 x.f0,.int .i64 x.f1]:=⟨[.int .i64 x.f0],[.int .i64 x.f1],rfl,rfl,rfl⟩
def rd_T119 (xs:List S119) (i:Int):S119:=xs.getD i.toNat z119
theorem at_T119 {w:World} {A:Option Addr} {n:Nat} {xs:List S119} (h:Kd.C k119 w A n xs) (i:Int) (h0:0≤i) (h1:i<n):∃ ad ,A=some ad∧w.cell? (ad.add (i.toNat*2))=some (.int .i64 (rd_T119 xs i).f0)∧w.cell? ⟨(ad.add (i.toNat*2)).block,(ad.add (i.toNat*2)).off+1,none⟩=some (.int .i64 (rd_T119 xs i).f1):=by
 obtain ⟨ad,c,e,_,hK,hc0⟩:=Kd.C_get h z119 i h0 h1
 have hc:∀ j u,c[j]?=some u→w.cell? (ad.add (i.toNat*2+j))=some u:=hc0
 obtain rfl:=k119_open hK
 exact ⟨ad,e,hc 0 _ rfl,by rw [← add_field _ _ 1 (by omega)];exact hc 1 _ rfl⟩
structure S98 where
 f0:Int
 f1:Bool
 f2:Int
def z98:S98:=⟨(0:Int),false,(0:Int)⟩
def k98:Kd S98:=Kd.iso (Kd.pair (Kd.int .i64) (Kd.pair Kd.bool (Kd.int .i64))) (fun x:S98=>(x.f0,x.f1,x.f2))
theorem k98_open {w:World} {x:S98} {cs:List Value} (h:k98.K w x cs):cs=[.int .i64 x.f0,.bool x.f1,.int .i64 x.f2]:=by
 obtain ⟨_,_,rfl,rfl,⟨_,_,rfl,rfl,rfl⟩⟩:=h
 exact rfl
theorem k98_mkM (w:World) (base:Nat) (ok:Nat→Prop) (x:S98)  : k98.M w base ok x [.int .i64 x.f0,.bool x.f1,.int .i64 x.f2]:=⟨[.int .i64 x.f0],[.bool x.f1,.int .i64 x.f2],rfl,rfl,⟨[.bool x.f1],[.int .i64 x.f2],rfl,rfl,rfl⟩⟩
def rd_T98 (xs:List S98) (i:Int):S98:=xs.getD i.toNat z98
theorem at_T98 {w:World} {A:Option Addr} {n:Nat} {xs:List S98} (h:Kd.C k98 w A n xs) (i:Int) (h0:0≤i) (h1:i<n):∃ ad ,A=some ad∧w.cell? (ad.add (i.toNat*3))=some (.int .i64 (rd_T98 xs i).f0)∧w.cell? ⟨(ad.add (i.toNat*3)).block,(ad.add (i.toNat*3)).off+1,none⟩=some (.bool (rd_T98 xs i).f1)∧w.cell? ⟨(ad.add (i.toNat*3)).block,(ad.add (i.toNat*3)).off+2,none⟩=some (.int .i64 (rd_T98 xs i).f2):=by
 obtain ⟨ad,c,e,_,hK,hc0⟩:=Kd.C_get h z98 i h0 h1
 have hc:∀ j u,c[j]?=some u→w.cell? (ad.add (i.toNat*3+j))=some u:=hc0
 obtain rfl:=k98_open hK
 exact ⟨ad,e,hc 0 _ rfl,by rw [← add_field _ _ 1 (by omega)];exact hc 1 _ rfl,by rw [← add_field _ _ 2 (by omega)];exact hc 2 _ rfl⟩
theorem A0_ {p:Prop} (h:p):Aside0 p:=⟨h⟩
theorem bd_ {p q:Prop} (h:q) (k:q→p:=by intro h_;(with_reducible repeat (first|refine blk_drewN ?_ _|refine blk_drew ?_|refine blk_alloc ?_ _));exact h_):p:=k h
theorem rd_ {p q:Prop} (h:q) (k:q→p:=by intro h_;(with_reducible repeat (first|apply Kd.R_alloc|apply Kd.R_drewN|apply Kd.R_drew));exact h_):p:=k h
theorem nd_ {p q:Prop} (h:q) (k:q→p:=by intro h_;(with_reducible repeat (first|apply Kd.N_alloc|apply Kd.N_drewN|apply Kd.N_drew));exact h_):p:=k h
theorem vd_ {p q:Prop} (h:q) (k:q→p:=by intro h_;(with_reducible repeat (first|apply Kd.V_alloc|apply Kd.V_drewN|apply Kd.V_drew));exact h_):p:=k h
theorem qd_ {p q:Prop} (h:q) (k:q→p:=by intro h_;(with_reducible repeat (first|apply Kd.Q_alloc|apply Kd.Q_drewN|apply Kd.Q_drew));exact h_):p:=k h
theorem sd_ {p q:Prop} (h:q) (k:q→p:=by intro h_;(with_reducible repeat (first|apply Kd.S_alloc|apply Kd.S_drewN|apply Kd.S_drew));exact h_):p:=k h
section
variable {P:Program} {md:Region.Mode} {ops:Array Oper} {Q:Exit→Act→World→Prop} {S:World→Prop} {ds:List Nat}
theorem pu_ {i:Nat} {N:Option Tmp} {oi:Oper} {v:Value} {fuel:Nat} {l:Array Bool} {a a':Act} {w:World} (h:wpAnyLast P md ops Q S ds fuel (l.setIfInBounds i true) a' w) (hi:ops[i]?=some oi:=by rfl) (hN:oi.dst=N:=by rfl) (hc:anyB md ops l (l.setIfInBounds i true) i=true:=by exact any_of HT_.out (by kernel_rfl)) (hQ:∀ c a w,Q (.panic c) (a.put oi.dst v) w→Q (.panic c) a w:=by exact (fun _ _ _ h=>h)) (hy:Yields P ops oi v a:=by (refine Or.inl ⟨by rfl,?_⟩;intro w';go_simp;with_reducible rfl)) (ha:a.put N v=a':=by (simp only [Act.put,List.setIfInBounds_toArray,List.set_cons_zero,List.set_cons_succ,i64_w,i32_w];rfl)):wpAnyLast P md ops Q S ds (fuel+1) l a w:=pure_ _ hi hN hc hQ hy ha h
theorem ta_ {i:Nat} {N:Option Tmp} {oi:Oper} {v:Value} {fuel:Nat} {l:Array Bool} {a a':Act} {w:World} (h:wpAnyLast P md ops Q S ds fuel (l.setIfInBounds i true) a' w) (hi:ops[i]?=some oi:=by rfl) (hN:oi.dst=N:=by rfl) (hc:takeB md ops ds l (l.setIfInBounds i true) i=true:=by exact take_ofW HT_.out HW_.out (by kernel_rfl)) (hQ:∀ c a w,Q (.panic c) (a.put oi.dst v) w→Q (.panic c) a w:=by exact (fun _ _ _ h=>h)) (hy:YieldsIf P ops S oi v a:=by (refine Or.inl ⟨by rfl,?_⟩;intro w' hs_;(try dsimp only at hs_);(repeat (rcases (show _∧_ from hs_) with ⟨_,hs_⟩));go_simp;with_reducible rfl)) (hS:S w:=by exact hHeld) (ha:a.put N v=a':=by (simp only [Act.put,List.setIfInBounds_toArray,List.set_cons_zero,List.set_cons_succ,i64_w,i32_w];rfl)):wpAnyLast P md ops Q S ds (fuel+1) l a w:=take_ _ hi hN hc hQ hy hS ha h
end
theorem bq2_ {w:World} {g:Nat} {t:TypeId} {a0 a1:Value} (h:w.heap[g]?=some (.cells #[a0,a1] t (0,0))):w.cell? ⟨g,0,none⟩=some a0∧w.cell? ⟨g,1,none⟩=some a1∧w.frozen? ⟨g,0,none⟩=false∧w.frozen? ⟨g,1,none⟩=false:=⟨(blk_cell h 0).trans rfl,(blk_cell h 1).trans rfl,blk_frozen h 0,blk_frozen h 1⟩
theorem bq3_ {w:World} {g:Nat} {t:TypeId} {a0 a1 a2:Value} (h:w.heap[g]?=some (.cells #[a0,a1,a2] t (0,0))):w.cell? ⟨g,0,none⟩=some a0∧w.cell? ⟨g,1,none⟩=some a1∧w.cell? ⟨g,2,none⟩=some a2∧w.frozen? ⟨g,0,none⟩=false∧w.frozen? ⟨g,1,none⟩=false∧w.frozen? ⟨g,2,none⟩=false:=⟨(blk_cell h 0).trans rfl,(blk_cell h 1).trans rfl,(blk_cell h 2).trans rfl,blk_frozen h 0,blk_frozen h 1,blk_frozen h 2⟩
theorem bq4_ {w:World} {g:Nat} {t:TypeId} {a0 a1 a2 a3:Value} (h:w.heap[g]?=some (.cells #[a0,a1,a2,a3] t (0,0))):w.cell? ⟨g,0,none⟩=some a0∧w.cell? ⟨g,1,none⟩=some a1∧w.cell? ⟨g,2,none⟩=some a2∧w.cell? ⟨g,3,none⟩=some a3∧w.frozen? ⟨g,0,none⟩=false∧w.frozen? ⟨g,1,none⟩=false∧w.frozen? ⟨g,2,none⟩=false∧w.frozen? ⟨g,3,none⟩=false:=⟨(blk_cell h 0).trans rfl,(blk_cell h 1).trans rfl,(blk_cell h 2).trans rfl,(blk_cell h 3).trans rfl,blk_frozen h 0,blk_frozen h 1,blk_frozen h 2,blk_frozen h 3⟩
theorem bq5_ {w:World} {g:Nat} {t:TypeId} {a0 a1 a2 a3 a4:Value} (h:w.heap[g]?=some (.cells #[a0,a1,a2,a3,a4] t (0,0))):w.cell? ⟨g,0,none⟩=some a0∧w.cell? ⟨g,1,none⟩=some a1∧w.cell? ⟨g,2,none⟩=some a2∧w.cell? ⟨g,3,none⟩=some a3∧w.cell? ⟨g,4,none⟩=some a4∧w.frozen? ⟨g,0,none⟩=false∧w.frozen? ⟨g,1,none⟩=false∧w.frozen? ⟨g,2,none⟩=false∧w.frozen? ⟨g,3,none⟩=false∧w.frozen? ⟨g,4,none⟩=false:=⟨(blk_cell h 0).trans rfl,(blk_cell h 1).trans rfl,(blk_cell h 2).trans rfl,(blk_cell h 3).trans rfl,(blk_cell h 4).trans rfl,blk_frozen h 0,blk_frozen h 1,blk_frozen h 2,blk_frozen h 3,blk_frozen h 4⟩
theorem bq6_ {w:World} {g:Nat} {t:TypeId} {a0 a1 a2 a3 a4 a5:Value} (h:w.heap[g]?=some (.cells #[a0,a1,a2,a3,a4,a5] t (0,0))):w.cell? ⟨g,0,none⟩=some a0∧w.cell? ⟨g,1,none⟩=some a1∧w.cell? ⟨g,2,none⟩=some a2∧w.cell? ⟨g,3,none⟩=some a3∧w.cell? ⟨g,4,none⟩=some a4∧w.cell? ⟨g,5,none⟩=some a5∧w.frozen? ⟨g,0,none⟩=false∧w.frozen? ⟨g,1,none⟩=false∧w.frozen? ⟨g,2,none⟩=false∧w.frozen? ⟨g,3,none⟩=false∧w.frozen? ⟨g,4,none⟩=false∧w.frozen? ⟨g,5,none⟩=false:=⟨(blk_cell h 0).trans rfl,(blk_cell h 1).trans rfl,(blk_cell h 2).trans rfl,(blk_cell h 3).trans rfl,(blk_cell h 4).trans rfl,(blk_cell h 5).trans rfl,blk_frozen h 0,blk_frozen h 1,blk_frozen h 2,blk_frozen h 3,blk_frozen h 4,blk_frozen h 5⟩
theorem bq7_ {w:World} {g:Nat} {t:TypeId} {a0 a1 a2 a3 a4 a5 a6:Value} (h:w.heap[g]?=some (.cells #[a0,a1,a2,a3,a4,a5,a6] t (0,0))):w.cell? ⟨g,0,none⟩=some a0∧w.cell? ⟨g,1,none⟩=some a1∧w.cell? ⟨g,2,none⟩=some a2∧w.cell? ⟨g,3,none⟩=some a3∧w.cell? ⟨g,4,none⟩=some a4∧w.cell? ⟨g,5,none⟩=some a5∧w.cell? ⟨g,6,none⟩=some a6∧w.frozen? ⟨g,0,none⟩=false∧w.frozen? ⟨g,1,none⟩=false∧w.frozen? ⟨g,2,none⟩=false∧w.frozen? ⟨g,3,none⟩=false∧w.frozen? ⟨g,4,none⟩=false∧w.frozen? ⟨g,5,none⟩=false∧w.frozen? ⟨g,6,none⟩=false:=⟨(blk_cell h 0).trans rfl,(blk_cell h 1).trans rfl,(blk_cell h 2).trans rfl,(blk_cell h 3).trans rfl,(blk_cell h 4).trans rfl,(blk_cell h 5).trans rfl,(blk_cell h 6).trans rfl,blk_frozen h 0,blk_frozen h 1,blk_frozen h 2,blk_frozen h 3,blk_frozen h 4,blk_frozen h 5,blk_frozen h 6⟩
theorem bq8_ {w:World} {g:Nat} {t:TypeId} {a0 a1 a2 a3 a4 a5 a6 a7:Value} (h:w.heap[g]?=some (.cells #[a0,a1,a2,a3,a4,a5,a6,a7] t (0,0))):w.cell? ⟨g,0,none⟩=some a0∧w.cell? ⟨g,1,none⟩=some a1∧w.cell? ⟨g,2,none⟩=some a2∧w.cell? ⟨g,3,none⟩=some a3∧w.cell? ⟨g,4,none⟩=some a4∧w.cell? ⟨g,5,none⟩=some a5∧w.cell? ⟨g,6,none⟩=some a6∧w.cell? ⟨g,7,none⟩=some a7∧w.frozen? ⟨g,0,none⟩=false∧w.frozen? ⟨g,1,none⟩=false∧w.frozen? ⟨g,2,none⟩=false∧w.frozen? ⟨g,3,none⟩=false∧w.frozen? ⟨g,4,none⟩=false∧w.frozen? ⟨g,5,none⟩=false∧w.frozen? ⟨g,6,none⟩=false∧w.frozen? ⟨g,7,none⟩=false:=⟨(blk_cell h 0).trans rfl,(blk_cell h 1).trans rfl,(blk_cell h 2).trans rfl,(blk_cell h 3).trans rfl,(blk_cell h 4).trans rfl,(blk_cell h 5).trans rfl,(blk_cell h 6).trans rfl,(blk_cell h 7).trans rfl,blk_frozen h 0,blk_frozen h 1,blk_frozen h 2,blk_frozen h 3,blk_frozen h 4,blk_frozen h 5,blk_frozen h 6,blk_frozen h 7⟩
theorem bq9_ {w:World} {g:Nat} {t:TypeId} {a0 a1 a2 a3 a4 a5 a6 a7 a8:Value} (h:w.heap[g]?=some (.cells #[a0,a1,a2,a3,a4,a5,a6,a7,a8] t (0,0))):w.cell? ⟨g,0,none⟩=some a0∧w.cell? ⟨g,1,none⟩=some a1∧w.cell? ⟨g,2,none⟩=some a2∧w.cell? ⟨g,3,none⟩=some a3∧w.cell? ⟨g,4,none⟩=some a4∧w.cell? ⟨g,5,none⟩=some a5∧w.cell? ⟨g,6,none⟩=some a6∧w.cell? ⟨g,7,none⟩=some a7∧w.cell? ⟨g,8,none⟩=some a8∧w.frozen? ⟨g,0,none⟩=false∧w.frozen? ⟨g,1,none⟩=false∧w.frozen? ⟨g,2,none⟩=false∧w.frozen? ⟨g,3,none⟩=false∧w.frozen? ⟨g,4,none⟩=false∧w.frozen? ⟨g,5,none⟩=false∧w.frozen? ⟨g,6,none⟩=false∧w.frozen? ⟨g,7,none⟩=false∧w.frozen? ⟨g,8,none⟩=false:=⟨(blk_cell h 0).trans rfl,(blk_cell h 1).trans rfl,(blk_cell h 2).trans rfl,(blk_cell h 3).trans rfl,(blk_cell h 4).trans rfl,(blk_cell h 5).trans rfl,(blk_cell h 6).trans rfl,(blk_cell h 7).trans rfl,(blk_cell h 8).trans rfl,blk_frozen h 0,blk_frozen h 1,blk_frozen h 2,blk_frozen h 3,blk_frozen h 4,blk_frozen h 5,blk_frozen h 6,blk_frozen h 7,blk_frozen h 8⟩
theorem y0_ {p:Prop} (h:p:=by repeat (first|(with_reducible first|exact HB.out|apply below_alloc|apply pw_below_drewN|apply below_drew1)|exact HB.out)):p:=h
theorem y1_ {p:Prop} (h:p:=by (try simp only [List.map_toArray,List.map_cons,List.map_nil]);first|done|rfl|(simp only [List.length_drop,List.length_take];rfl)):p:=h
theorem y2_ {p:Prop} (h:p:=by first|rfl|(simp [errW_none,errW_some] <;> rfl)|(simp [*,errW_none,errW_some] <;> rfl)):p:=h
theorem y3_ {p:Prop} (h:p:=by (with_reducible repeat (first|refine blk_drewN ?_ _|refine blk_drew ?_|refine blk_alloc ?_ _));refine blk_put (cs:=#[.slice A0_0 l0_0.length c0_0,.int .i64 a0_1,.int .i64 a0_2,.int .i64 a0_3,.int .i64 0]) ?_ 4 _ rfl;(with_reducible repeat (first|refine blk_drewN ?_ _|refine blk_drew ?_|refine blk_alloc ?_ _));refine blk_put (cs:=#[.slice A0_0 l0_0.length c0_0,.int .i64 a0_1,.int .i64 a0_2,.int .i64 0,.int .i64 0]) ?_ 3 _ rfl;(with_reducible repeat (first|refine blk_drewN ?_ _|refine blk_drew ?_|refine blk_alloc ?_ _));refine blk_put (cs:=#[.slice A0_0 l0_0.length c0_0,.int .i64 a0_1,.int .i64 0,.int .i64 0,.int .i64 0]) ?_ 2 _ rfl;(with_reducible repeat (first|refine blk_drewN ?_ _|refine blk_drew ?_|refine blk_alloc ?_ _));refine blk_put (cs:=#[.slice A0_0 l0_0.length c0_0,.int .i64 0,.int .i64 0,.int .i64 0,.int .i64 0]) ?_ 1 _ rfl;(with_reducible repeat (first|refine blk_drewN ?_ _|refine blk_drew ?_|refine blk_alloc ?_ _));refine blk_put (cs:=#[.slice none 0 0,.int .i64 0,.int .i64 0,.int .i64 0,.int .i64 0]) ?_ 0 _ rfl;(with_reducible repeat (first|refine blk_drewN ?_ _|refine blk_drew ?_|refine blk_alloc ?_ _));exact BK708.out):p:=h
theorem y4_ {p:Prop} (h:p:=by first|rfl|(simp;done)|(simp [*];done)):p:=h
theorem y5_ {p:Prop} (h:p:=by first|(with_reducible assumption)|assumption):p:=h
theorem y6_ {p:Prop} (h:p:=by repeat (first|(with_reducible first|exact HB.out|apply below_alloc|apply pw_below_drewN|apply below_drew1|refine below_set ?_ GE230.out)|exact HB.out)):p:=h
theorem y7_ {p:Prop} (h:p:=by (with_reducible repeat (first|refine blk_drewN ?_ _|refine blk_drew ?_|refine blk_alloc ?_ _));refine blk_far ?_ NB707_708.out _;(with_reducible repeat (first|refine blk_drewN ?_ _|refine blk_drew ?_|refine blk_alloc ?_ _));refine blk_far ?_ NB707_708.out _;(with_reducible repeat (first|refine blk_drewN ?_ _|refine blk_drew ?_|refine blk_alloc ?_ _));refine blk_far ?_ NB707_708.out _;(with_reducible repeat (first|refine blk_drewN ?_ _|refine blk_drew ?_|refine blk_alloc ?_ _));refine blk_far ?_ NB707_708.out _;(with_reducible repeat (first|refine blk_drewN ?_ _|refine blk_drew ?_|refine blk_alloc ?_ _));refine blk_far ?_ NB707_708.out _;(with_reducible repeat (first|refine blk_drewN ?_ _|refine blk_drew ?_|refine blk_alloc ?_ _));exact BK707.out):p:=h
theorem y8_ {p:Prop} (h:p:=by repeat (first|(with_reducible first|exact HB.out|apply below_alloc|apply pw_below_drewN|apply below_drew1|refine below_set ?_ GE714.out)|exact HB.out)):p:=h
theorem y9_ {p:Prop} (h:p:=by repeat (first|(with_reducible first|exact HB.out|apply below_alloc|apply pw_below_drewN|apply below_drew1|refine below_set ?_ GE109.out)|exact HB.out)):p:=h
theorem ya_ {p:Prop} (h:p:=by repeat (first|(with_reducible first|exact HB.out|apply below_alloc|apply pw_below_drewN|apply below_drew1|refine below_set ?_ GE714.out|refine below_set ?_ GE723.out)|exact HB.out)):p:=h
theorem yb_ {p:Prop} (h:p:=by repeat (first|exact Drawn0.refl _|apply Drawn0.step)):p:=h
theorem yc_ {p:Prop} (h:p:=by (with_reducible repeat (first|refine blk_drewN ?_ _|refine blk_drew ?_|refine blk_alloc ?_ _));refine blk_put (cs:=#[.slice A0_0 l0_0.length c0_0,.int .i64 a0_1,.int .i64 a0_2,.int .i64 a0_3,.int .i64 0]) ?_ 4 _ rfl;(with_reducible repeat (first|refine blk_drewN ?_ _|refine blk_drew ?_|refine blk_alloc ?_ _));refine blk_put (cs:=#[.slice A0_0 l0_0.length c0_0,.int .i64 a0_1,.int .i64 a0_2,.int .i64 0,.int .i64 0]) ?_ 3 _ rfl;(with_reducible repeat (first|refine blk_drewN ?_ _|refine blk_drew ?_|refine blk_alloc ?_ _));refine blk_put (cs:=#[.slice A0_0 l0_0.length c0_0,.int .i64 a0_1,.int .i64 0,.int .i64 0,.int .i64 0]) ?_ 2 _ rfl;(with_reducible repeat (first|refine blk_drewN ?_ _|refine blk_drew ?_|refine blk_alloc ?_ _));refine blk_put (cs:=#[.slice A0_0 l0_0.length c0_0,.int .i64 0,.int .i64 0,.int .i64 0,.int .i64 0]) ?_ 1 _ rfl;(with_reducible repeat (first|refine blk_drewN ?_ _|refine blk_drew ?_|refine blk_alloc ?_ _));refine blk_put (cs:=#[.slice none 0 0,.int .i64 0,.int .i64 0,.int .i64 0,.int .i64 0]) ?_ 0 _ rfl;(with_reducible repeat (first|refine blk_drewN ?_ _|refine blk_drew ?_|refine blk_alloc ?_ _));exact BK702.out):p:=h
theorem yd_ {p:Prop} (h:p:=by first|(simp only [putAll,Act.put,List.setIfInBounds_toArray,List.set_cons_zero,List.set_cons_succ];done)|(simp only [putAll,Act.put,List.setIfInBounds_toArray,List.set_cons_zero,List.set_cons_succ];rfl)):p:=h
theorem ye_ {p:Prop} (h:p:=by (with_reducible repeat (first|refine blk_drewN ?_ _|refine blk_drew ?_|refine blk_alloc ?_ _));refine blk_put (cs:=#[.int .i64 ((rd_T74 l0_0 x3_1).f0.f0),.int .i64 ((rd_T74 l0_0 x3_1).f0.f1),.int .i64 ((rd_T74 l0_0 x3_1).f1),.slice none 0 0]) ?_ 3 _ rfl;(with_reducible repeat (first|refine blk_drewN ?_ _|refine blk_drew ?_|refine blk_alloc ?_ _));refine blk_put (cs:=#[.int .i64 ((rd_T74 l0_0 x3_1).f0.f0),.int .i64 ((rd_T74 l0_0 x3_1).f0.f1),.int .i64 0,.slice none 0 0]) ?_ 2 _ rfl;(with_reducible repeat (first|refine blk_drewN ?_ _|refine blk_drew ?_|refine blk_alloc ?_ _));refine blk_put (cs:=#[.int .i64 ((rd_T74 l0_0 x3_1).f0.f0),.int .i64 0,.int .i64 0,.slice none 0 0]) ?_ 1 _ rfl;(with_reducible repeat (first|refine blk_drewN ?_ _|refine blk_drew ?_|refine blk_alloc ?_ _));refine blk_put (cs:=#[.int .i64 0,.int .i64 0,.int .i64 0,.slice none 0 0]) ?_ 0 _ rfl;(with_reducible repeat (first|refine blk_drewN ?_ _|refine blk_drew ?_|refine blk_alloc ?_ _));exact BK201.out):p:=h
theorem yn_ {p:Prop} (h:p:=by repeat (first|(with_reducible first|exact HB.out|apply below_alloc|apply pw_below_drewN|apply below_drew1|refine below_set ?_ GE687.out|refine below_set ?_ GE688.out)|exact HB.out)):p:=h
theorem yo_ {p:Prop} (h:p:=by repeat (first|(with_reducible first|exact HB.out|apply below_alloc|apply pw_below_drewN|apply below_drew1|refine below_set ?_ GE680.out|refine below_set ?_ GE681.out)|exact HB.out)):p:=h
theorem yp_ {p:Prop} (h:p:=by repeat (first|(with_reducible first|exact HB.out|apply below_alloc|apply pw_below_drewN|apply below_drew1|refine below_set ?_ GE196.out|refine below_set ?_ GE201.out)|exact HB.out)):p:=h
theorem yq_ {p:Prop} (h:p:=by repeat (first|(with_reducible first|exact HB.out|apply below_alloc|apply pw_below_drewN|apply below_drew1|refine below_set ?_ GE405.out)|exact HB.out)):p:=h
theorem yr_ {p:Prop} (h:p:=by repeat (first|(with_reducible first|exact HB.out|apply below_alloc|apply pw_below_drewN|apply below_drew1|refine below_set ?_ GE392.out)|exact HB.out)):p:=h
theorem ys_ {p:Prop} (h:p:=by (with_reducible repeat (first|refine blk_drewN ?_ _|refine blk_drew ?_|refine blk_alloc ?_ _));refine blk_far ?_ NB701_702.out _;(with_reducible repeat (first|refine blk_drewN ?_ _|refine blk_drew ?_|refine blk_alloc ?_ _));refine blk_far ?_ NB701_702.out _;(with_reducible repeat (first|refine blk_drewN ?_ _|refine blk_drew ?_|refine blk_alloc ?_ _));refine blk_far ?_ NB701_702.out _;(with_reducible repeat (first|refine blk_drewN ?_ _|refine blk_drew ?_|refine blk_alloc ?_ _));refine blk_far ?_ NB701_702.out _;(with_reducible repeat (first|refine blk_drewN ?_ _|refine blk_drew ?_|refine blk_alloc ?_ _));refine blk_far ?_ NB701_702.out _;(with_reducible repeat (first|refine blk_drewN ?_ _|refine blk_drew ?_|refine blk_alloc ?_ _));exact BK701.out):p:=h
theorem yt_ {p:Prop} (h:p:=by repeat (first|(with_reducible first|exact HB.out|apply below_alloc|apply pw_below_drewN|apply below_drew1|refine below_set ?_ GE707.out|refine below_set ?_ GE708.out|refine below_set ?_ GE709.out)|exact HB.out)):p:=h
theorem yu_ {p:Prop} (h:p:=by repeat (first|(with_reducible first|exact HB.out|apply below_alloc|apply pw_below_drewN|apply below_drew1|refine below_set ?_ GE230.out|refine below_set ?_ GE239.out)|exact HB.out)):p:=h
theorem yv_ {p:Prop} (h:p:=by repeat (first|(with_reducible first|exact HB.out|apply below_alloc|apply pw_below_drewN|apply below_drew1|refine below_set ?_ GE736.out)|exact HB.out)):p:=h
theorem yw_ {p:Prop} (h:p:=by repeat (first|(with_reducible first|exact HB.out|apply below_alloc|apply pw_below_drewN|apply below_drew1|refine below_set ?_ GE631.out)|exact HB.out)):p:=h
theorem yx_ {p:Prop} (h:p:=by (with_reducible repeat (first|refine blk_drewN ?_ _|refine blk_drew ?_|refine blk_alloc ?_ _));refine blk_put (cs:=#[.int .i64 ((rd_T95 t719 x41_2).f0),.bool false]) ?_ 1 _ rfl;(with_reducible repeat (first|refine blk_drewN ?_ _|refine blk_drew ?_|refine blk_alloc ?_ _));refine blk_put (cs:=#[.int .i64 0,.bool false]) ?_ 0 _ rfl;(with_reducible repeat (first|refine blk_drewN ?_ _|refine blk_drew ?_|refine blk_alloc ?_ _));exact BK723.out):p:=h
theorem yy_ {p:Prop} (h:p:=by repeat (first|(with_reducible first|exact HB.out|apply below_alloc|apply pw_below_drewN|apply below_drew1|refine below_set ?_ GE109.out|refine below_set ?_ GE118.out)|exact HB.out)):p:=h
theorem yz_ {p:Prop} (h:p:=by (with_reducible repeat (first|refine blk_drewN ?_ _|refine blk_drew ?_|refine blk_alloc ?_ _));refine blk_far ?_ NB196_201.out _;(with_reducible repeat (first|refine blk_drewN ?_ _|refine blk_drew ?_|refine blk_alloc ?_ _));refine blk_far ?_ NB196_201.out _;(with_reducible repeat (first|refine blk_drewN ?_ _|refine blk_drew ?_|refine blk_alloc ?_ _));refine blk_far ?_ NB196_201.out _;(with_reducible repeat (first|refine blk_drewN ?_ _|refine blk_drew ?_|refine blk_alloc ?_ _));refine blk_far ?_ NB196_201.out _;(with_reducible repeat (first|refine blk_drewN ?_ _|refine blk_drew ?_|refine blk_alloc ?_ _));exact BK196.out):p:=h
theorem y10_ {p:Prop} (h:p:=by repeat (first|(with_reducible first|exact HB.out|apply below_alloc|apply pw_below_drewN|apply below_drew1|refine below_set ?_ GE422.out)|exact HB.out)):p:=h
theorem y11_ {p:Prop} (h:p:=by repeat (first|(with_reducible first|exact HB.out|apply below_alloc|apply pw_below_drewN|apply below_drew1|refine below_set ?_ GE223.out)|exact HB.out)):p:=h
theorem y12_ {p:Prop} (h:p:=by repeat (first|(with_reducible first|exact HB.out|apply below_alloc|apply pw_below_drewN|apply below_drew1|refine below_set ?_ GE215.out)|exact HB.out)):p:=h
theorem y13_ {p:Prop} (h:p:=by repeat (first|(with_reducible first|exact HB.out|apply below_alloc|apply pw_below_drewN|apply below_drew1|refine below_set ?_ GE196.out)|exact HB.out)):p:=h
theorem y14_ {p:Prop} (h:p:=by repeat (first|(with_reducible first|exact HB.out|apply below_alloc|apply pw_below_drewN|apply below_drew1|refine below_set ?_ GE631.out|refine below_set ?_ GE638.out)|exact HB.out)):p:=h
theorem y15_ {p:Prop} (h:p:=by repeat (first|(with_reducible first|exact HB.out|apply below_alloc|apply pw_below_drewN|apply below_drew1|refine below_set ?_ GE631.out|refine below_set ?_ GE637.out)|exact HB.out)):p:=h
theorem y16_ {p:Prop} (h:p:=by repeat (first|(with_reducible first|exact HB.out|apply below_alloc|apply pw_below_drewN|apply below_drew1|refine below_set ?_ GE631.out|refine below_set ?_ GE636.out)|exact HB.out)):p:=h
theorem y17_ {p:Prop} (h:p:=by (with_reducible repeat (first|refine blk_drewN ?_ _|refine blk_drew ?_|refine blk_alloc ?_ _));refine blk_far ?_ NB714_723.out _;(with_reducible repeat (first|refine blk_drewN ?_ _|refine blk_drew ?_|refine blk_alloc ?_ _));refine blk_far ?_ NB714_723.out _;(with_reducible repeat (first|refine blk_drewN ?_ _|refine blk_drew ?_|refine blk_alloc ?_ _));exact BK714.out):p:=h
theorem y18_ {p:Prop} (h:p:=by repeat (first|(with_reducible first|exact HB.out|apply below_alloc|apply pw_below_drewN|apply below_drew1|refine below_set ?_ GE547.out)|exact HB.out)):p:=h
theorem y19_ {p:Prop} (h:p:=by repeat (first|(with_reducible first|exact HB.out|apply below_alloc|apply pw_below_drewN|apply below_drew1|refine below_set ?_ GE399.out)|exact HB.out)):p:=h
theorem y1a_ {p:Prop} (h:p:=by repeat (first|(with_reducible first|exact HB.out|apply below_alloc|apply pw_below_drewN|apply below_drew1|refine below_set ?_ GE707.out|refine below_set ?_ GE708.out)|exact HB.out)):p:=h
theorem y1b_ {p:Prop} (h:p:=by repeat (first|(with_reducible first|exact HB.out|apply below_alloc|apply pw_below_drewN|apply below_drew1|refine below_set ?_ GE687.out|refine below_set ?_ GE688.out|refine below_set ?_ GE690.out)|exact HB.out)):p:=h
theorem y1c_ {p:Prop} (h:p:=by repeat (first|(with_reducible first|exact HB.out|apply below_alloc|apply pw_below_drewN|apply below_drew1|refine below_set ?_ GE680.out|refine below_set ?_ GE681.out|refine below_set ?_ GE683.out)|exact HB.out)):p:=h
theorem y1d_ {p:Prop} (h:p:=by repeat (first|(with_reducible first|exact HB.out|apply below_alloc|apply pw_below_drewN|apply below_drew1|refine below_set ?_ GE707.out)|exact HB.out)):p:=h
theorem y1e_ {p:Prop} (h:p:=by repeat (first|(with_reducible first|exact HB.out|apply below_alloc|apply pw_below_drewN|apply below_drew1|refine below_set ?_ GE648.out)|exact HB.out)):p:=h
theorem y1f_ {p:Prop} (h:p:=by repeat (first|(with_reducible first|exact HB.out|apply below_alloc|apply pw_below_drewN|apply below_drew1|refine below_set ?_ GE369.out|refine below_set ?_ GE371.out)|exact HB.out)):p:=h
theorem y1g_ {p:Prop} (h:p:=by repeat (first|(with_reducible first|exact HB.out|apply below_alloc|apply pw_below_drewN|apply below_drew1|refine below_set ?_ GE631.out|refine below_set ?_ GE637.out|refine below_set ?_ GE638.out)|exact HB.out)):p:=h
theorem y1h_ {p:Prop} (h:p:=by repeat (first|(with_reducible first|exact HB.out|apply below_alloc|apply pw_below_drewN|apply below_drew1|refine below_set ?_ GE631.out|refine below_set ?_ GE636.out|refine below_set ?_ GE638.out)|exact HB.out)):p:=h
theorem y1i_ {p:Prop} (h:p:=by repeat (first|(with_reducible first|exact HB.out|apply below_alloc|apply pw_below_drewN|apply below_drew1|refine below_set ?_ GE631.out|refine below_set ?_ GE636.out|refine below_set ?_ GE637.out)|exact HB.out)):p:=h
theorem y1j_ {p:Prop} (h:p:=by first|exact Nat.ne_of_lt (Nat.lt_of_lt_of_le (by have:=World.block_lt_of_cell? _ _ hw635_3;first|rwa [add_block] at this|exact this) GW638.out)|(rw [add_block];exact Nat.ne_of_lt (Nat.lt_of_lt_of_le (by have:=World.block_lt_of_cell? _ _ hw635_3;first|rwa [add_block] at this|exact this) GW638.out))|(show (Addr.add _ _).block≠_;rw [add_block];exact Nat.ne_of_lt (Nat.lt_of_lt_of_le (by have:=World.block_lt_of_cell? _ _ hw635_3;first|rwa [add_block] at this|exact this) GW638.out))|(dsimp only;exact Nat.ne_of_lt (Nat.lt_of_lt_of_le (by have:=World.block_lt_of_cell? _ _ hw635_3;first|rwa [add_block] at this|exact this) GW638.out))):p:=h
theorem y1k_ {p:Prop} (h:p:=by first|exact Nat.ne_of_lt (Nat.lt_of_lt_of_le (by have:=World.block_lt_of_cell? _ _ hw635_3;first|rwa [add_block] at this|exact this) GW637.out)|(rw [add_block];exact Nat.ne_of_lt (Nat.lt_of_lt_of_le (by have:=World.block_lt_of_cell? _ _ hw635_3;first|rwa [add_block] at this|exact this) GW637.out))|(show (Addr.add _ _).block≠_;rw [add_block];exact Nat.ne_of_lt (Nat.lt_of_lt_of_le (by have:=World.block_lt_of_cell? _ _ hw635_3;first|rwa [add_block] at this|exact this) GW637.out))|(dsimp only;exact Nat.ne_of_lt (Nat.lt_of_lt_of_le (by have:=World.block_lt_of_cell? _ _ hw635_3;first|rwa [add_block] at this|exact this) GW637.out))):p:=h
theorem y1l_ {p:Prop} (h:p:=by first|exact Nat.ne_of_lt (Nat.lt_of_lt_of_le (by have:=World.block_lt_of_cell? _ _ hw635_3;first|rwa [add_block] at this|exact this) GW636.out)|(rw [add_block];exact Nat.ne_of_lt (Nat.lt_of_lt_of_le (by have:=World.block_lt_of_cell? _ _ hw635_3;first|rwa [add_block] at this|exact this) GW636.out))|(show (Addr.add _ _).block≠_;rw [add_block];exact Nat.ne_of_lt (Nat.lt_of_lt_of_le (by have:=World.block_lt_of_cell? _ _ hw635_3;first|rwa [add_block] at this|exact this) GW636.out))|(dsimp only;exact Nat.ne_of_lt (Nat.lt_of_lt_of_le (by have:=World.block_lt_of_cell? _ _ hw635_3;first|rwa [add_block] at this|exact this) GW636.out))):p:=h
theorem y1m_ {p:Prop} (h:p:=by first|exact Nat.ne_of_lt (Nat.lt_of_lt_of_le (by have:=World.block_lt_of_cell? _ _ hw635_2;first|rwa [add_block] at this|exact this) GW638.out)|(rw [add_block];exact Nat.ne_of_lt (Nat.lt_of_lt_of_le (by have:=World.block_lt_of_cell? _ _ hw635_2;first|rwa [add_block] at this|exact this) GW638.out))|(show (Addr.add _ _).block≠_;rw [add_block];exact Nat.ne_of_lt (Nat.lt_of_lt_of_le (by have:=World.block_lt_of_cell? _ _ hw635_2;first|rwa [add_block] at this|exact this) GW638.out))|(dsimp only;exact Nat.ne_of_lt (Nat.lt_of_lt_of_le (by have:=World.block_lt_of_cell? _ _ hw635_2;first|rwa [add_block] at this|exact this) GW638.out))):p:=h
theorem y1n_ {p:Prop} (h:p:=by first|exact Nat.ne_of_lt (Nat.lt_of_lt_of_le (by have:=World.block_lt_of_cell? _ _ hw635_2;first|rwa [add_block] at this|exact this) GW637.out)|(rw [add_block];exact Nat.ne_of_lt (Nat.lt_of_lt_of_le (by have:=World.block_lt_of_cell? _ _ hw635_2;first|rwa [add_block] at this|exact this) GW637.out))|(show (Addr.add _ _).block≠_;rw [add_block];exact Nat.ne_of_lt (Nat.lt_of_lt_of_le (by have:=World.block_lt_of_cell? _ _ hw635_2;first|rwa [add_block] at this|exact this) GW637.out))|(dsimp only;exact Nat.ne_of_lt (Nat.lt_of_lt_of_le (by have:=World.block_lt_of_cell? _ _ hw635_2;first|rwa [add_block] at this|exact this) GW637.out))):p:=h
theorem y1o_ {p:Prop} (h:p:=by first|exact Nat.ne_of_lt (Nat.lt_of_lt_of_le (by have:=World.block_lt_of_cell? _ _ hw635_2;first|rwa [add_block] at this|exact this) GW636.out)|(rw [add_block];exact Nat.ne_of_lt (Nat.lt_of_lt_of_le (by have:=World.block_lt_of_cell? _ _ hw635_2;first|rwa [add_block] at this|exact this) GW636.out))|(show (Addr.add _ _).block≠_;rw [add_block];exact Nat.ne_of_lt (Nat.lt_of_lt_of_le (by have:=World.block_lt_of_cell? _ _ hw635_2;first|rwa [add_block] at this|exact this) GW636.out))|(dsimp only;exact Nat.ne_of_lt (Nat.lt_of_lt_of_le (by have:=World.block_lt_of_cell? _ _ hw635_2;first|rwa [add_block] at this|exact this) GW636.out))):p:=h
theorem y1p_ {p:Prop} (h:p:=by first|exact Nat.ne_of_lt (Nat.lt_of_lt_of_le (by have:=World.block_lt_of_cell? _ _ hw635_1;first|rwa [add_block] at this|exact this) GW638.out)|(rw [add_block];exact Nat.ne_of_lt (Nat.lt_of_lt_of_le (by have:=World.block_lt_of_cell? _ _ hw635_1;first|rwa [add_block] at this|exact this) GW638.out))|(show (Addr.add _ _).block≠_;rw [add_block];exact Nat.ne_of_lt (Nat.lt_of_lt_of_le (by have:=World.block_lt_of_cell? _ _ hw635_1;first|rwa [add_block] at this|exact this) GW638.out))|(dsimp only;exact Nat.ne_of_lt (Nat.lt_of_lt_of_le (by have:=World.block_lt_of_cell? _ _ hw635_1;first|rwa [add_block] at this|exact this) GW638.out))):p:=h
theorem y1q_ {p:Prop} (h:p:=by first|exact Nat.ne_of_lt (Nat.lt_of_lt_of_le (by have:=World.block_lt_of_cell? _ _ hw635_1;first|rwa [add_block] at this|exact this) GW637.out)|(rw [add_block];exact Nat.ne_of_lt (Nat.lt_of_lt_of_le (by have:=World.block_lt_of_cell? _ _ hw635_1;first|rwa [add_block] at this|exact this) GW637.out))|(show (Addr.add _ _).block≠_;rw [add_block];exact Nat.ne_of_lt (Nat.lt_of_lt_of_le (by have:=World.block_lt_of_cell? _ _ hw635_1;first|rwa [add_block] at this|exact this) GW637.out))|(dsimp only;exact Nat.ne_of_lt (Nat.lt_of_lt_of_le (by have:=World.block_lt_of_cell? _ _ hw635_1;first|rwa [add_block] at this|exact this) GW637.out))):p:=h
theorem y1r_ {p:Prop} (h:p:=by first|exact Nat.ne_of_lt (Nat.lt_of_lt_of_le (by have:=World.block_lt_of_cell? _ _ hw635_1;first|rwa [add_block] at this|exact this) GW636.out)|(rw [add_block];exact Nat.ne_of_lt (Nat.lt_of_lt_of_le (by have:=World.block_lt_of_cell? _ _ hw635_1;first|rwa [add_block] at this|exact this) GW636.out))|(show (Addr.add _ _).block≠_;rw [add_block];exact Nat.ne_of_lt (Nat.lt_of_lt_of_le (by have:=World.block_lt_of_cell? _ _ hw635_1;first|rwa [add_block] at this|exact this) GW636.out))|(dsimp only;exact Nat.ne_of_lt (Nat.lt_of_lt_of_le (by have:=World.block_lt_of_cell? _ _ hw635_1;first|rwa [add_block] at this|exact this) GW636.out))):p:=h
theorem y1s_ {p:Prop} (h:p:=by first|exact Nat.ne_of_lt (Nat.lt_of_lt_of_le (by have:=World.block_lt_of_cell? _ _ hw635_0;first|rwa [add_block] at this|exact this) GW638.out)|(rw [add_block];exact Nat.ne_of_lt (Nat.lt_of_lt_of_le (by have:=World.block_lt_of_cell? _ _ hw635_0;first|rwa [add_block] at this|exact this) GW638.out))|(show (Addr.add _ _).block≠_;rw [add_block];exact Nat.ne_of_lt (Nat.lt_of_lt_of_le (by have:=World.block_lt_of_cell? _ _ hw635_0;first|rwa [add_block] at this|exact this) GW638.out))|(dsimp only;exact Nat.ne_of_lt (Nat.lt_of_lt_of_le (by have:=World.block_lt_of_cell? _ _ hw635_0;first|rwa [add_block] at this|exact this) GW638.out))):p:=h
theorem y1t_ {p:Prop} (h:p:=by first|exact Nat.ne_of_lt (Nat.lt_of_lt_of_le (by have:=World.block_lt_of_cell? _ _ hw635_0;first|rwa [add_block] at this|exact this) GW637.out)|(rw [add_block];exact Nat.ne_of_lt (Nat.lt_of_lt_of_le (by have:=World.block_lt_of_cell? _ _ hw635_0;first|rwa [add_block] at this|exact this) GW637.out))|(show (Addr.add _ _).block≠_;rw [add_block];exact Nat.ne_of_lt (Nat.lt_of_lt_of_le (by have:=World.block_lt_of_cell? _ _ hw635_0;first|rwa [add_block] at this|exact this) GW637.out))|(dsimp only;exact Nat.ne_of_lt (Nat.lt_of_lt_of_le (by have:=World.block_lt_of_cell? _ _ hw635_0;first|rwa [add_block] at this|exact this) GW637.out))):p:=h
theorem y1u_ {p:Prop} (h:p:=by first|exact Nat.ne_of_lt (Nat.lt_of_lt_of_le (by have:=World.block_lt_of_cell? _ _ hw635_0;first|rwa [add_block] at this|exact this) GW636.out)|(rw [add_block];exact Nat.ne_of_lt (Nat.lt_of_lt_of_le (by have:=World.block_lt_of_cell? _ _ hw635_0;first|rwa [add_block] at this|exact this) GW636.out))|(show (Addr.add _ _).block≠_;rw [add_block];exact Nat.ne_of_lt (Nat.lt_of_lt_of_le (by have:=World.block_lt_of_cell? _ _ hw635_0;first|rwa [add_block] at this|exact this) GW636.out))|(dsimp only;exact Nat.ne_of_lt (Nat.lt_of_lt_of_le (by have:=World.block_lt_of_cell? _ _ hw635_0;first|rwa [add_block] at this|exact this) GW636.out))):p:=h
theorem y1v_ {p:Prop} (h:p:=by first|exact Nat.ne_of_lt (Nat.lt_of_lt_of_le (by have:=World.block_lt_of_cell? _ _ hw634_3;first|rwa [add_block] at this|exact this) GW638.out)|(rw [add_block];exact Nat.ne_of_lt (Nat.lt_of_lt_of_le (by have:=World.block_lt_of_cell? _ _ hw634_3;first|rwa [add_block] at this|exact this) GW638.out))|(show (Addr.add _ _).block≠_;rw [add_block];exact Nat.ne_of_lt (Nat.lt_of_lt_of_le (by have:=World.block_lt_of_cell? _ _ hw634_3;first|rwa [add_block] at this|exact this) GW638.out))|(dsimp only;exact Nat.ne_of_lt (Nat.lt_of_lt_of_le (by have:=World.block_lt_of_cell? _ _ hw634_3;first|rwa [add_block] at this|exact this) GW638.out))):p:=h
theorem y1w_ {p:Prop} (h:p:=by first|exact Nat.ne_of_lt (Nat.lt_of_lt_of_le (by have:=World.block_lt_of_cell? _ _ hw634_3;first|rwa [add_block] at this|exact this) GW637.out)|(rw [add_block];exact Nat.ne_of_lt (Nat.lt_of_lt_of_le (by have:=World.block_lt_of_cell? _ _ hw634_3;first|rwa [add_block] at this|exact this) GW637.out))|(show (Addr.add _ _).block≠_;rw [add_block];exact Nat.ne_of_lt (Nat.lt_of_lt_of_le (by have:=World.block_lt_of_cell? _ _ hw634_3;first|rwa [add_block] at this|exact this) GW637.out))|(dsimp only;exact Nat.ne_of_lt (Nat.lt_of_lt_of_le (by have:=World.block_lt_of_cell? _ _ hw634_3;first|rwa [add_block] at this|exact this) GW637.out))):p:=h
theorem y1x_ {p:Prop} (h:p:=by first|exact Nat.ne_of_lt (Nat.lt_of_lt_of_le (by have:=World.block_lt_of_cell? _ _ hw634_3;first|rwa [add_block] at this|exact this) GW636.out)|(rw [add_block];exact Nat.ne_of_lt (Nat.lt_of_lt_of_le (by have:=World.block_lt_of_cell? _ _ hw634_3;first|rwa [add_block] at this|exact this) GW636.out))|(show (Addr.add _ _).block≠_;rw [add_block];exact Nat.ne_of_lt (Nat.lt_of_lt_of_le (by have:=World.block_lt_of_cell? _ _ hw634_3;first|rwa [add_block] at this|exact this) GW636.out))|(dsimp only;exact Nat.ne_of_lt (Nat.lt_of_lt_of_le (by have:=World.block_lt_of_cell? _ _ hw634_3;first|rwa [add_block] at this|exact this) GW636.out))):p:=h
theorem y1y_ {p:Prop} (h:p:=by first|exact Nat.ne_of_lt (Nat.lt_of_lt_of_le (by have:=World.block_lt_of_cell? _ _ hw634_2;first|rwa [add_block] at this|exact this) GW638.out)|(rw [add_block];exact Nat.ne_of_lt (Nat.lt_of_lt_of_le (by have:=World.block_lt_of_cell? _ _ hw634_2;first|rwa [add_block] at this|exact this) GW638.out))|(show (Addr.add _ _).block≠_;rw [add_block];exact Nat.ne_of_lt (Nat.lt_of_lt_of_le (by have:=World.block_lt_of_cell? _ _ hw634_2;first|rwa [add_block] at this|exact this) GW638.out))|(dsimp only;exact Nat.ne_of_lt (Nat.lt_of_lt_of_le (by have:=World.block_lt_of_cell? _ _ hw634_2;first|rwa [add_block] at this|exact this) GW638.out))):p:=h
theorem y1z_ {p:Prop} (h:p:=by first|exact Nat.ne_of_lt (Nat.lt_of_lt_of_le (by have:=World.block_lt_of_cell? _ _ hw634_2;first|rwa [add_block] at this|exact this) GW637.out)|(rw [add_block];exact Nat.ne_of_lt (Nat.lt_of_lt_of_le (by have:=World.block_lt_of_cell? _ _ hw634_2;first|rwa [add_block] at this|exact this) GW637.out))|(show (Addr.add _ _).block≠_;rw [add_block];exact Nat.ne_of_lt (Nat.lt_of_lt_of_le (by have:=World.block_lt_of_cell? _ _ hw634_2;first|rwa [add_block] at this|exact this) GW637.out))|(dsimp only;exact Nat.ne_of_lt (Nat.lt_of_lt_of_le (by have:=World.block_lt_of_cell? _ _ hw634_2;first|rwa [add_block] at this|exact this) GW637.out))):p:=h
theorem y20_ {p:Prop} (h:p:=by first|exact Nat.ne_of_lt (Nat.lt_of_lt_of_le (by have:=World.block_lt_of_cell? _ _ hw634_2;first|rwa [add_block] at this|exact this) GW636.out)|(rw [add_block];exact Nat.ne_of_lt (Nat.lt_of_lt_of_le (by have:=World.block_lt_of_cell? _ _ hw634_2;first|rwa [add_block] at this|exact this) GW636.out))|(show (Addr.add _ _).block≠_;rw [add_block];exact Nat.ne_of_lt (Nat.lt_of_lt_of_le (by have:=World.block_lt_of_cell? _ _ hw634_2;first|rwa [add_block] at this|exact this) GW636.out))|(dsimp only;exact Nat.ne_of_lt (Nat.lt_of_lt_of_le (by have:=World.block_lt_of_cell? _ _ hw634_2;first|rwa [add_block] at this|exact this) GW636.out))):p:=h
theorem y21_ {p:Prop} (h:p:=by first|exact Nat.ne_of_lt (Nat.lt_of_lt_of_le (by have:=World.block_lt_of_cell? _ _ hw634_1;first|rwa [add_block] at this|exact this) GW638.out)|(rw [add_block];exact Nat.ne_of_lt (Nat.lt_of_lt_of_le (by have:=World.block_lt_of_cell? _ _ hw634_1;first|rwa [add_block] at this|exact this) GW638.out))|(show (Addr.add _ _).block≠_;rw [add_block];exact Nat.ne_of_lt (Nat.lt_of_lt_of_le (by have:=World.block_lt_of_cell? _ _ hw634_1;first|rwa [add_block] at this|exact this) GW638.out))|(dsimp only;exact Nat.ne_of_lt (Nat.lt_of_lt_of_le (by have:=World.block_lt_of_cell? _ _ hw634_1;first|rwa [add_block] at this|exact this) GW638.out))):p:=h
theorem y22_ {p:Prop} (h:p:=by first|exact Nat.ne_of_lt (Nat.lt_of_lt_of_le (by have:=World.block_lt_of_cell? _ _ hw634_1;first|rwa [add_block] at this|exact this) GW637.out)|(rw [add_block];exact Nat.ne_of_lt (Nat.lt_of_lt_of_le (by have:=World.block_lt_of_cell? _ _ hw634_1;first|rwa [add_block] at this|exact this) GW637.out))|(show (Addr.add _ _).block≠_;rw [add_block];exact Nat.ne_of_lt (Nat.lt_of_lt_of_le (by have:=World.block_lt_of_cell? _ _ hw634_1;first|rwa [add_block] at this|exact this) GW637.out))|(dsimp only;exact Nat.ne_of_lt (Nat.lt_of_lt_of_le (by have:=World.block_lt_of_cell? _ _ hw634_1;first|rwa [add_block] at this|exact this) GW637.out))):p:=h
theorem y23_ {p:Prop} (h:p:=by first|exact Nat.ne_of_lt (Nat.lt_of_lt_of_le (by have:=World.block_lt_of_cell? _ _ hw634_1;first|rwa [add_block] at this|exact this) GW636.out)|(rw [add_block];exact Nat.ne_of_lt (Nat.lt_of_lt_of_le (by have:=World.block_lt_of_cell? _ _ hw634_1;first|rwa [add_block] at this|exact this) GW636.out))|(show (Addr.add _ _).block≠_;rw [add_block];exact Nat.ne_of_lt (Nat.lt_of_lt_of_le (by have:=World.block_lt_of_cell? _ _ hw634_1;first|rwa [add_block] at this|exact this) GW636.out))|(dsimp only;exact Nat.ne_of_lt (Nat.lt_of_lt_of_le (by have:=World.block_lt_of_cell? _ _ hw634_1;first|rwa [add_block] at this|exact this) GW636.out))):p:=h
theorem y24_ {p:Prop} (h:p:=by first|exact Nat.ne_of_lt (Nat.lt_of_lt_of_le (by have:=World.block_lt_of_cell? _ _ hw634_0;first|rwa [add_block] at this|exact this) GW638.out)|(rw [add_block];exact Nat.ne_of_lt (Nat.lt_of_lt_of_le (by have:=World.block_lt_of_cell? _ _ hw634_0;first|rwa [add_block] at this|exact this) GW638.out))|(show (Addr.add _ _).block≠_;rw [add_block];exact Nat.ne_of_lt (Nat.lt_of_lt_of_le (by have:=World.block_lt_of_cell? _ _ hw634_0;first|rwa [add_block] at this|exact this) GW638.out))|(dsimp only;exact Nat.ne_of_lt (Nat.lt_of_lt_of_le (by have:=World.block_lt_of_cell? _ _ hw634_0;first|rwa [add_block] at this|exact this) GW638.out))):p:=h
theorem y25_ {p:Prop} (h:p:=by first|exact Nat.ne_of_lt (Nat.lt_of_lt_of_le (by have:=World.block_lt_of_cell? _ _ hw634_0;first|rwa [add_block] at this|exact this) GW637.out)|(rw [add_block];exact Nat.ne_of_lt (Nat.lt_of_lt_of_le (by have:=World.block_lt_of_cell? _ _ hw634_0;first|rwa [add_block] at this|exact this) GW637.out))|(show (Addr.add _ _).block≠_;rw [add_block];exact Nat.ne_of_lt (Nat.lt_of_lt_of_le (by have:=World.block_lt_of_cell? _ _ hw634_0;first|rwa [add_block] at this|exact this) GW637.out))|(dsimp only;exact Nat.ne_of_lt (Nat.lt_of_lt_of_le (by have:=World.block_lt_of_cell? _ _ hw634_0;first|rwa [add_block] at this|exact this) GW637.out))):p:=h
theorem y26_ {p:Prop} (h:p:=by first|exact Nat.ne_of_lt (Nat.lt_of_lt_of_le (by have:=World.block_lt_of_cell? _ _ hw634_0;first|rwa [add_block] at this|exact this) GW636.out)|(rw [add_block];exact Nat.ne_of_lt (Nat.lt_of_lt_of_le (by have:=World.block_lt_of_cell? _ _ hw634_0;first|rwa [add_block] at this|exact this) GW636.out))|(show (Addr.add _ _).block≠_;rw [add_block];exact Nat.ne_of_lt (Nat.lt_of_lt_of_le (by have:=World.block_lt_of_cell? _ _ hw634_0;first|rwa [add_block] at this|exact this) GW636.out))|(dsimp only;exact Nat.ne_of_lt (Nat.lt_of_lt_of_le (by have:=World.block_lt_of_cell? _ _ hw634_0;first|rwa [add_block] at this|exact this) GW636.out))):p:=h
theorem y27_ {p:Prop} (h:p:=by repeat (first|(with_reducible first|exact HB.out|apply below_alloc|apply pw_below_drewN|apply below_drew1|refine below_set ?_ GE696.out|refine below_set ?_ GE697.out)|exact HB.out)):p:=h
theorem y28_ {p:Prop} (h:p:=by repeat (first|(with_reducible first|exact HB.out|apply below_alloc|apply pw_below_drewN|apply below_drew1|refine below_set ?_ GE631.out|refine below_set ?_ GE636.out|refine below_set ?_ GE637.out|refine below_set ?_ GE638.out)|exact HB.out)):p:=h
theorem y29_ {p:Prop} (h:p:=by repeat (first|(with_reducible first|exact HB.out|apply below_alloc|apply pw_below_drewN|apply below_drew1|refine below_set ?_ GE377.out)|exact HB.out)):p:=h
theorem y2a_ {p:Prop} (h:p:=by (with_reducible repeat (first|refine blk_drewN ?_ _|refine blk_drew ?_|refine blk_alloc ?_ _));refine blk_put (cs:=#[.int .i64 ((rd_T137 l0 x10_1).f0),.int .i64 0]) ?_ 1 _ rfl;(with_reducible repeat (first|refine blk_drewN ?_ _|refine blk_drew ?_|refine blk_alloc ?_ _));refine blk_put (cs:=#[.int .i64 0,.int .i64 0]) ?_ 0 _ rfl;(with_reducible repeat (first|refine blk_drewN ?_ _|refine blk_drew ?_|refine blk_alloc ?_ _));exact BK683.out):p:=h
theorem y2b_ {p:Prop} (h:p:=by (with_reducible repeat (first|refine blk_drewN ?_ _|refine blk_drew ?_|refine blk_alloc ?_ _));refine blk_put (cs:=#[.int .i64 ((rd_T119 l0 x10_1).f0),.int .i64 0]) ?_ 1 _ rfl;(with_reducible repeat (first|refine blk_drewN ?_ _|refine blk_drew ?_|refine blk_alloc ?_ _));refine blk_put (cs:=#[.int .i64 0,.int .i64 0]) ?_ 0 _ rfl;(with_reducible repeat (first|refine blk_drewN ?_ _|refine blk_drew ?_|refine blk_alloc ?_ _));exact BK690.out):p:=h
theorem y2c_ {p:Prop} (h:p:=by repeat (first|(with_reducible first|exact HB.out|apply below_alloc|apply pw_below_drewN|apply below_drew1|refine below_set ?_ GE701.out|refine below_set ?_ GE702.out|refine below_set ?_ GE703.out)|exact HB.out)):p:=h
theorem y2d_ {p:Prop} (h:p:=by repeat (first|(with_reducible first|exact HB.out|apply below_alloc|apply pw_below_drewN|apply below_drew1|refine below_set ?_ GE701.out|refine below_set ?_ GE702.out)|exact HB.out)):p:=h
theorem y2e_ {p:Prop} (h:p:=by (with_reducible repeat (first|refine blk_drewN ?_ _|refine blk_drew ?_|refine blk_alloc ?_ _));refine blk_far ?_ NB688_690.out _;(with_reducible repeat (first|refine blk_drewN ?_ _|refine blk_drew ?_|refine blk_alloc ?_ _));refine blk_far ?_ NB688_690.out _;(with_reducible repeat (first|refine blk_drewN ?_ _|refine blk_drew ?_|refine blk_alloc ?_ _));exact BK688.out):p:=h
theorem y2f_ {p:Prop} (h:p:=by (with_reducible repeat (first|refine blk_drewN ?_ _|refine blk_drew ?_|refine blk_alloc ?_ _));refine blk_far ?_ NB687_690.out _;(with_reducible repeat (first|refine blk_drewN ?_ _|refine blk_drew ?_|refine blk_alloc ?_ _));refine blk_far ?_ NB687_690.out _;(with_reducible repeat (first|refine blk_drewN ?_ _|refine blk_drew ?_|refine blk_alloc ?_ _));exact BK687.out):p:=h
theorem y2g_ {p:Prop} (h:p:=by (with_reducible repeat (first|refine blk_drewN ?_ _|refine blk_drew ?_|refine blk_alloc ?_ _));refine blk_far ?_ NB681_683.out _;(with_reducible repeat (first|refine blk_drewN ?_ _|refine blk_drew ?_|refine blk_alloc ?_ _));refine blk_far ?_ NB681_683.out _;(with_reducible repeat (first|refine blk_drewN ?_ _|refine blk_drew ?_|refine blk_alloc ?_ _));exact BK681.out):p:=h
theorem y2h_ {p:Prop} (h:p:=by (with_reducible repeat (first|refine blk_drewN ?_ _|refine blk_drew ?_|refine blk_alloc ?_ _));refine blk_far ?_ NB680_683.out _;(with_reducible repeat (first|refine blk_drewN ?_ _|refine blk_drew ?_|refine blk_alloc ?_ _));refine blk_far ?_ NB680_683.out _;(with_reducible repeat (first|refine blk_drewN ?_ _|refine blk_drew ?_|refine blk_alloc ?_ _));exact BK680.out):p:=h
theorem y2i_ {p:Prop} (h:p:=by (with_reducible repeat (first|apply Kd.R_alloc|apply Kd.R_drewN|apply Kd.R_drew));exact (Kd.R_mono (Kd.R_far (p:=⟨gb723,1,none⟩) (Kd.R_far (p:=⟨gb723,0,none⟩) (Kd.R_mono HO_39.out (fun k_ hk=>(⟨hk,hk.2⟩:_∧k_≠gb723))) (fun _ hk=>hk.2) (.int .i64 ((rd_T95 t719 x41_2).f0))) (fun _ hk=>hk.2) (.bool false)) (fun _ h_=>h_.1))):p:=h
theorem y2j_ {p:Prop} (h:p:=by (with_reducible repeat (first|apply Kd.R_alloc|apply Kd.R_drewN|apply Kd.R_drew));exact (Kd.R_mono (Kd.R_far (p:=⟨gb723,1,none⟩) (Kd.R_far (p:=⟨gb723,0,none⟩) (Kd.R_mono HO_39.out (fun k_ hk=>(⟨hk,hk.2⟩:_∧k_≠gb723))) (fun _ hk=>hk.2) (.int .i64 ((rd_T95 t719 x41_2).f0))) (fun _ hk=>hk.2) (.bool true)) (fun _ h_=>h_.1))):p:=h
theorem y2k_ {p:Prop} (h:p:=by (with_reducible repeat (first|apply Kd.R_alloc|apply Kd.R_drewN|apply Kd.R_drew));exact (Kd.R_mono (Kd.R_far (p:=⟨gb723,1,none⟩) (Kd.R_far (p:=⟨gb723,0,none⟩) (Kd.R_types HO_12.out BK723.out (by decide)) (fun _ hk=>hk.2) (.int .i64 ((rd_T95 t719 x41_2).f0))) (fun _ hk=>hk.2) (.bool false)) (fun _ h_=>h_.1))):p:=h
theorem y2l_ {p:Prop} (h:p:=by (with_reducible repeat (first|apply Kd.R_alloc|apply Kd.R_drewN|apply Kd.R_drew));exact (Kd.R_mono (Kd.R_far (p:=⟨gb723,1,none⟩) (Kd.R_far (p:=⟨gb723,0,none⟩) (Kd.R_types HO_12.out BK723.out (by decide)) (fun _ hk=>hk.2) (.int .i64 ((rd_T95 t719 x41_2).f0))) (fun _ hk=>hk.2) (.bool true)) (fun _ h_=>h_.1))):p:=h
theorem y2m_ {p:Prop} (h:p:=by repeat (first|(with_reducible first|exact HB.out|apply below_alloc|apply pw_below_drewN|apply below_drew1|refine below_set ?_ GE701.out)|exact HB.out)):p:=h
theorem y2n_ {p:Prop} (h:p:=by repeat (first|(with_reducible first|exact HB.out|apply below_alloc|apply pw_below_drewN|apply below_drew1|refine below_set ?_ GE696.out)|exact HB.out)):p:=h
theorem y2o_ {p:Prop} (h:p:=by repeat (first|(with_reducible first|exact HB.out|apply below_alloc|apply pw_below_drewN|apply below_drew1|refine below_set ?_ GE687.out)|exact HB.out)):p:=h
theorem y2p_ {p:Prop} (h:p:=by repeat (first|(with_reducible first|exact HB.out|apply below_alloc|apply pw_below_drewN|apply below_drew1|refine below_set ?_ GE685.out)|exact HB.out)):p:=h
theorem y2q_ {p:Prop} (h:p:=by repeat (first|(with_reducible first|exact HB.out|apply below_alloc|apply pw_below_drewN|apply below_drew1|refine below_set ?_ GE680.out)|exact HB.out)):p:=h
theorem y2r_ {p:Prop} (h:p:=by repeat (first|(with_reducible first|exact HB.out|apply below_alloc|apply pw_below_drewN|apply below_drew1|refine below_set ?_ GE678.out)|exact HB.out)):p:=h
theorem y2s_ {p:Prop} (h:p:=by repeat (first|(with_reducible first|exact HB.out|apply below_alloc|apply pw_below_drewN|apply below_drew1|refine below_set ?_ GE673.out)|exact HB.out)):p:=h
theorem y2t_ {p:Prop} (h:p:=by repeat (first|(with_reducible first|exact HB.out|apply below_alloc|apply pw_below_drewN|apply below_drew1|refine below_set ?_ GE657.out)|exact HB.out)):p:=h
theorem y2u_ {p:Prop} (h:p:=by repeat (first|(with_reducible first|exact HB.out|apply below_alloc|apply pw_below_drewN|apply below_drew1|refine below_set ?_ GE402.out)|exact HB.out)):p:=h
theorem y2v_ {p:Prop} (h:p:=by repeat (first|(with_reducible first|exact HB.out|apply below_alloc|apply pw_below_drewN|apply below_drew1|refine below_set ?_ GE369.out)|exact HB.out)):p:=h
theorem y2w_ {p:Prop} (h:p:=by repeat (first|(with_reducible first|exact HB.out|apply below_alloc|apply pw_below_drewN|apply below_drew1|refine below_set ?_ GE365.out)|exact HB.out)):p:=h
theorem y2x_ {p:Prop} (h:p:=by repeat (first|(with_reducible first|exact HB.out|apply below_alloc|apply pw_below_drewN|apply below_drew1|refine below_set ?_ GE207.out)|exact HB.out)):p:=h
theorem y2y_ {p:Prop} (h:p:=by repeat (first|(with_reducible first|exact HB.out|apply below_alloc|apply pw_below_drewN|apply below_drew1|refine below_set ?_ GE193.out)|exact HB.out)):p:=h
theorem y2z_ {p:Prop} (h:p:=by repeat (first|(with_reducible first|exact HB.out|apply below_alloc|apply pw_below_drewN|apply below_drew1|refine below_set ?_ GE671.out)|exact HB.out)):p:=h
theorem y30_ {p:Prop} (h:p:=by repeat (first|(with_reducible first|exact HB.out|apply below_alloc|apply pw_below_drewN|apply below_drew1|refine below_set ?_ GE669.out)|exact HB.out)):p:=h
theorem y31_ {p:Prop} (h:p:=by repeat (first|(with_reducible first|exact HB.out|apply below_alloc|apply pw_below_drewN|apply below_drew1|refine below_set ?_ GE544.out)|exact HB.out)):p:=h
theorem y32_ {p:Prop} (h:p:=by (try simp only [World.size_alloc]);omega):p:=h
end Go.Proofs.YtjahbgldccjbfaaGreatDoor.PSky
end
section
namespace Go.Proofs.YtjahbgldccjbfaaGreatDoor.PSky
open Go.RowKit Go.Proofs.YtjahbgldccjbfaaGreatDoorW.PrintWords Go.Proofs.YtjahbgldccjbfaaGreatDoorW.PrintLast Go.Proofs.YtjahbgldccjbfaaGreatDoorW.PrintMore
attribute [local go_sem] max2_int min2_int max_two min_two max_three min_three max_four min_four
set_option linter.unusedVariables false
set_option linter.unusedSimpArgs false
theorem eqA95 (d:Nat) (w:World) (x0 y0:Int) (x1 y1:Bool):
  (Op.equalIn (d+2) 95 (.agg #[.int .i64 x0,.bool x1]) (.agg #[.int .i64 y0,.bool y1])).run Tryz.prog w=.ok (x0 == y0 && (x1 == y1)) w:=by
 refine eqA_of Tryz.underlying95 (by kernel_rfl) ?_
 refine eqf_cons (by rfl) (by go_simp;rfl) (by go_simp;rfl) (by go_simp) ?_
 exact eqf_last (by rfl) (by go_simp;rfl) (by go_simp;rfl) (by go_simp)
end Go.Proofs.YtjahbgldccjbfaaGreatDoor.PSky
end
section
namespace Go.Proofs.YtjahbgldccjbfaaGreatDoor.PSky
open Go.RowKit Go.Proofs.YtjahbgldccjbfaaGreatDoorW.PrintWords Go.Proofs.YtjahbgldccjbfaaGreatDoorW.PrintLast Go.Proofs.YtjahbgldccjbfaaGreatDoorW.PrintMore
attribute [local go_sem] max2_int min2_int max_two min_two max_three min_three max_four min_four
set_option linter.unusedVariables false
set_option linter.unusedSimpArgs false
theorem eqA98 (d:Nat) (w:World) (x0 y0:Int) (x1 y1:Bool) (x2 y2:Int):
  (Op.equalIn (d+2) 98 (.agg #[.int .i64 x0,.bool x1,.int .i64 x2]) (.agg #[.int .i64 y0,.bool y1,.int .i64 y2])).run Tryz.prog w=.ok (x0 == y0 && (x1 == y1 && (x2 == y2))) w:=by
 refine eqA_of Tryz.underlying98 (by kernel_rfl) ?_
 refine eqf_cons (by rfl) (by go_simp;rfl) (by go_simp;rfl) (by go_simp) ?_
 refine eqf_cons (by rfl) (by go_simp;rfl) (by go_simp;rfl) (by go_simp) ?_
 exact eqf_last (by rfl) (by go_simp;rfl) (by go_simp;rfl) (by go_simp)
end Go.Proofs.YtjahbgldccjbfaaGreatDoor.PSky
end
section
namespace Go.Proofs.YtjahbgldccjbfaaGreatDoor.PSky
open Go.RowKit Go.Proofs.YtjahbgldccjbfaaGreatDoorW.PrintWords Go.Proofs.YtjahbgldccjbfaaGreatDoorW.PrintLast Go.Proofs.YtjahbgldccjbfaaGreatDoorW.PrintMore
attribute [local go_sem] max2_int min2_int max_two min_two max_three min_three max_four min_four
set_option linter.unusedVariables false
set_option linter.unusedSimpArgs false
def tr_Decimal.l0:Nat→Int→ByteArray→Int→Option (ByteArray)
 |0,_,_,_=>none
 |k+1,x0,x3,x4=>if x4=0 then (if x3.toList=([]:List UInt8) then ((some (([(wrap64 (48+(mx (Int.tmod x4 10) (wrap64 (-(Int.tmod x4 10)))))) % 256]:List Int):List Int)).bind fun y101=>(if (strOfNums y101).size+x3.size≤9223372036854775807 then (tr_Decimal.l0 k x0 ((strOfNums y101) ++ x3) (wrap64 (Int.tdiv x4 10))) else (none))) else (if x0<0 then (if 1+x3.size≤9223372036854775807 then (some ((⟨#[45]⟩:ByteArray) ++ x3)) else (none)) else (some x3))) else ((some (([(wrap64 (48+(mx (Int.tmod x4 10) (wrap64 (-(Int.tmod x4 10)))))) % 256]:List Int):List Int)).bind fun y104=>(if (strOfNums y104).size+x3.size≤9223372036854775807 then (tr_Decimal.l0 k x0 ((strOfNums y104) ++ x3) (wrap64 (Int.tdiv x4 10))) else (none)))
def tr_Decimal.f (k:Nat) (a0:Int):Option (ByteArray):=tr_Decimal.l0 k a0 (⟨#[]⟩:ByteArray) a0
set_option maxHeartbeats 8000000 in
set_option maxRecDepth 100000 in
theorem tr_Decimal.calls (k:Nat) (a0:Int) (r:ByteArray) (w:World) (h:tr_Decimal.f k a0=some r):
  Calls Tryz.prog 113 #[.int .i64 a0] w fun e w'=>e=.returned (.string r)∧Below w.heap.size w w':=by
 have HB:=A0_ (Below.refl w.heap.size w)
 have H:(tr_Decimal.l0 k a0 (⟨#[]⟩:ByteArray) a0)=some r:=h
 clear h
 have H':=A0_ H
 clear H
 go_enter Tryz.func113,Tryz.ntmps113
 go_wp2
 go_loopg [3,4] k (fun kq v3 v4 w'=>∃ (x3_1:ByteArray) (x4_1:Int),v3=.string x3_1∧v4=.int .i64 x4_1∧Aside0 (tr_Decimal.l0 kq a0 x3_1 x4_1=some r)∧Aside0 (kq≤k)∧Aside0 (Below w.heap.size w w'))
 case atStart=>exact ⟨((⟨#[]⟩:ByteArray)),(a0),y4_,y4_,H',⟨Nat.le_refl _⟩,⟨y0_⟩⟩
 case round=>
  clear H'
  (try clear c1)
  obtain ⟨x3_1,x4_1,rfl,rfl,HA,HK1,HB⟩:=hrel
  cases gk with
  |zero=>exact absurd HA.out (by simp [tr_Decimal.l0])
  |succ k1=>
   have H:=HA.out
   clear HA
   simp only [tr_Decimal.l0] at H
   by_cases c2:x4_1=0
   ·rw [if_pos c2] at H
    have c2b0:(x4_1 == 0)=true:=beq_iff_eq.mpr c2
    have c2b1:(x4_1 != 0)=false:=bne_eq_false_iff_eq.mpr c2
    clear c2
    by_cases c3:x3_1.toList=([]:List UInt8)
    ·rw [if_pos c3] at H
     have c3b0:(x3_1.toList == ([]:List UInt8))=true:=beq_iff_eq.mpr c3
     have c3b1:(x3_1.toList != ([]:List UInt8))=false:=bne_eq_false_iff_eq.mpr c3
     clear c3
     obtain ⟨ji4,hji4⟩:∃ j_:Int,(mx (Int.tmod x4_1 10) (wrap64 (-(Int.tmod x4_1 10))))=j_:=⟨_,rfl⟩
     replace H:((some (([(wrap64 (48+(ji4))) % 256]:List Int):List Int)).bind fun y101=>(if (strOfNums y101).size+x3_1.size≤9223372036854775807 then (tr_Decimal.l0 k1 a0 ((strOfNums y101) ++ x3_1) (wrap64 (Int.tdiv x4_1 10))) else (none)))=some r:=by first|(rw [hji4] at H;exact H)|(simp only [hji4] at H ⊢;exact H)
     have hji4_:(if (Int.tmod x4_1 10)<(wrap64 (-(Int.tmod x4_1 10))) then (wrap64 (-(Int.tmod x4_1 10))) else (Int.tmod x4_1 10))=ji4:=hji4
     obtain ⟨y101,hy101⟩:∃ y_:List Int,y_=(([(wrap64 (48+(ji4))) % 256]:List Int)):=⟨_,rfl⟩
     replace H:(if (strOfNums y101).size+x3_1.size≤9223372036854775807 then (tr_Decimal.l0 k1 a0 ((strOfNums y101) ++ x3_1) (wrap64 (Int.tdiv x4_1 10))) else (none))=some r:=by first|(rw [hy101];with_reducible exact H)|(have H2_:=(Option.bind_some _ _).symm.trans H;rw [hy101];with_reducible exact H2_)|(have H2_:=(Option.bind_some _ _).symm.trans H;with_reducible exact H2_)|with_reducible exact H|(rw [hy101];exact H)|exact H
     have Ny101:=A0_ hy101;clear hy101
     by_cases c5:(strOfNums y101).size+x3_1.size≤9223372036854775807
     ·rw [if_pos c5] at H;have c5b0:=eq_true c5;have c5b1:decide ((strOfNums y101).size+x3_1.size≤9223372036854775807)=true:=decide_eq_true c5
      try have c5b2:(9223372036854775807<(strOfNums y101).size+x3_1.size)=False:=eq_false (Nat.not_lt.2 c5)
      have H':=A0_ H
      clear H
      go_wp2_with (first|((with_reducible refine gate_dst (N:=23) rfl ?_);refine Kd.R_lit (Kd.int .u8) _ 5 ?hg (N:=23) ?hd (xs:=([(wrap64 (48+(ji4))) % 256]:List Int)) (inner:=[.int .u8 ((wrap64 (48+(ji4))) % 256)]) (ok:=fun _=>True) (okp:=fun _=>True) ?hr ?hp (fun _ hk=>hk) trivial (Below.refl _ _) (Nat.le_refl _) (by simp) ?_;(case hd=>rfl);(case hg=>rfl);(case hr=>first|(go_simp;done)|(go_simp;rfl));(case hp=>exact (Reps.one (show Kd.M (Kd.int .u8) _ _ _ ((wrap64 (48+(ji4))) % 256) [.int .u8 ((wrap64 (48+(ji4))) % 256)] from rfl) (Reps.none _ _)));intro v102 w6 ho7 hb hg_ hnew_;clear hg_ hnew_;(first|rw [← Ny101.out] at ho7|(simp only [Int.reduceToNat] at ho7;rw [← Ny101.out] at ho7));have n0_:=A0_ (Kd.R_lower ho7 (below_size y0_));have n1_:=A0_ (below_step y0_ hb);clear HB;have HO103:=n0_;have HB:=n1_;clear n0_ n1_;clear hb ho7;have hcv8:=own_string (P:=Tryz.prog) Tryz.underlying164 Tryz.underlying5 Tryz.underlying9 (Kd.own_of_R HO103.out)))
      go_roundg k1
      case measure=>have:=HK1.out;omega
      case rel=>exact ⟨((strOfNums y101) ++ x3_1),(wrap64 (Int.tdiv x4_1 10)),y4_,y4_,H',⟨by have:=HK1.out;omega⟩,⟨y0_⟩⟩
     ·rw [if_neg c5] at H;exact absurd H (by simp)
    ·rw [if_neg c3] at H
     have c3b0:(x3_1.toList == ([]:List UInt8))=false:=beq_eq_false_iff_ne.mpr c3
     have c3b1:(x3_1.toList != ([]:List UInt8))=true:=bne_iff_ne.mpr c3
     by_cases c9:a0<0
     ·rw [if_pos c9] at H;have c9b0:decide (a0<0)=true:=decide_eq_true c9;clear c9
      by_cases c10:1+x3_1.size≤9223372036854775807
      ·rw [if_pos c10] at H;have c10b0:=eq_true c10;have c10b1:decide (1+x3_1.size≤9223372036854775807)=true:=decide_eq_true c10
       try have c10b2:(9223372036854775807<1+x3_1.size)=False:=eq_false (Nat.not_lt.2 c10)
       obtain rfl:=Option.some.inj H;go_wp2;go_ret
       exact ⟨y2_,y0_⟩
      ·rw [if_neg c10] at H;exact absurd H (by simp)
     ·rw [if_neg c9] at H;have c9b0:decide (a0<0)=false:=decide_eq_false c9;clear c9;obtain rfl:=Option.some.inj H;go_wp2;go_ret
      exact ⟨y2_,y0_⟩
   ·rw [if_neg c2] at H
    have c2b0:(x4_1 == 0)=false:=beq_eq_false_iff_ne.mpr c2
    have c2b1:(x4_1 != 0)=true:=bne_iff_ne.mpr c2
    obtain ⟨ji11,hji11⟩:∃ j_:Int,(mx (Int.tmod x4_1 10) (wrap64 (-(Int.tmod x4_1 10))))=j_:=⟨_,rfl⟩
    replace H:((some (([(wrap64 (48+(ji11))) % 256]:List Int):List Int)).bind fun y104=>(if (strOfNums y104).size+x3_1.size≤9223372036854775807 then (tr_Decimal.l0 k1 a0 ((strOfNums y104) ++ x3_1) (wrap64 (Int.tdiv x4_1 10))) else (none)))=some r:=by first|(rw [hji11] at H;exact H)|(simp only [hji11] at H ⊢;exact H)
    (try rw [hji11] at hji4)
    have hji11_:(if (Int.tmod x4_1 10)<(wrap64 (-(Int.tmod x4_1 10))) then (wrap64 (-(Int.tmod x4_1 10))) else (Int.tmod x4_1 10))=ji11:=hji11
    obtain ⟨y104,hy104⟩:∃ y_:List Int,y_=(([(wrap64 (48+(ji11))) % 256]:List Int)):=⟨_,rfl⟩
    replace H:(if (strOfNums y104).size+x3_1.size≤9223372036854775807 then (tr_Decimal.l0 k1 a0 ((strOfNums y104) ++ x3_1) (wrap64 (Int.tdiv x4_1 10))) else (none))=some r:=by first|(rw [hy104];with_reducible exact H)|(have H2_:=(Option.bind_some _ _).symm.trans H;rw [hy104];with_reducible exact H2_)|(have H2_:=(Option.bind_some _ _).symm.trans H;with_reducible exact H2_)|with_reducible exact H|(rw [hy104];exact H)|exact H
    have Ny104:=A0_ hy104;clear hy104
    by_cases c12:(strOfNums y104).size+x3_1.size≤9223372036854775807
    ·rw [if_pos c12] at H;have c12b0:=eq_true c12;have c12b1:decide ((strOfNums y104).size+x3_1.size≤9223372036854775807)=true:=decide_eq_true c12
     try have c12b2:(9223372036854775807<(strOfNums y104).size+x3_1.size)=False:=eq_false (Nat.not_lt.2 c12)
     have H':=A0_ H
     clear H
     go_wp2_with (first|((with_reducible refine gate_dst (N:=23) rfl ?_);refine Kd.R_lit (Kd.int .u8) _ 5 ?hg (N:=23) ?hd (xs:=([(wrap64 (48+(ji11))) % 256]:List Int)) (inner:=[.int .u8 ((wrap64 (48+(ji11))) % 256)]) (ok:=fun _=>True) (okp:=fun _=>True) ?hr ?hp (fun _ hk=>hk) trivial (Below.refl _ _) (Nat.le_refl _) (by simp) ?_;(case hd=>rfl);(case hg=>rfl);(case hr=>first|(go_simp;done)|(go_simp;rfl));(case hp=>exact (Reps.one (show Kd.M (Kd.int .u8) _ _ _ ((wrap64 (48+(ji11))) % 256) [.int .u8 ((wrap64 (48+(ji11))) % 256)] from rfl) (Reps.none _ _)));intro v105 w13 ho14 hb hg_ hnew_;clear hg_ hnew_;(first|rw [← Ny104.out] at ho14|(simp only [Int.reduceToNat] at ho14;rw [← Ny104.out] at ho14));have n0_:=A0_ (Kd.R_lower ho14 (below_size y0_));have n1_:=A0_ (below_step y0_ hb);clear HB;have HO106:=n0_;have HB:=n1_;clear n0_ n1_;clear hb ho14;have hcv15:=own_string (P:=Tryz.prog) Tryz.underlying164 Tryz.underlying5 Tryz.underlying9 (Kd.own_of_R HO106.out)))
     go_roundg k1
     case measure=>have:=HK1.out;omega
     case rel=>exact ⟨((strOfNums y104) ++ x3_1),(wrap64 (Int.tdiv x4_1 10)),y4_,y4_,H',⟨by have:=HK1.out;omega⟩,⟨y0_⟩⟩
    ·rw [if_neg c12] at H;exact absurd H (by simp)
def tr_row.l0:Nat→ByteArray→List Int→Int→Option (ByteArray)
 |0,_,_,_=>none
 |k+1,x0,x1,x5=>if x5<(x1.length:Int) then (if x0.size+1≤9223372036854775807 then (if 0≤x5 then ((tr_Decimal.f k (rd x1 x5)).bind fun t108=>(if (x0 ++ (⟨#[32]⟩:ByteArray)).size+t108.size≤9223372036854775807 then (tr_row.l0 k ((x0 ++ (⟨#[32]⟩:ByteArray)) ++ t108) x1 (wrap64 (x5+1))) else (none))) else (none)) else (none)) else (some x0)
def tr_row.f (k:Nat) (a0:ByteArray) (l1:List Int):Option (ByteArray):=tr_row.l0 k a0 l1 0
set_option maxHeartbeats 8000000 in
set_option maxRecDepth 100000 in
theorem tr_row.calls (k:Nat) (a0:ByteArray) (A1:Option Addr) (c1:Nat) (l1:List Int) (r:ByteArray) (w:World) (hr1:Kd.C (Kd.int .i64) w A1 l1.length l1) (hc1:l1.length≤c1) (h:tr_row.f k a0 l1=some r):
  Calls Tryz.prog 112 #[.string a0,.slice A1 l1.length c1] w fun e w'=>e=.returned (.string r)∧Below w.heap.size w w':=by
 have HR1:=A0_ hr1;have HC1:=A0_ hc1;clear hr1 hc1
 have HB:=A0_ (Below.refl w.heap.size w)
 have H:(tr_row.l0 k a0 l1 0)=some r:=h
 clear h
 have H':=A0_ H
 clear H
 go_enter Tryz.func112,Tryz.ntmps112
 go_wp2
 go_loopg [0,5] k (fun kq v0 v5 w'=>∃ (x0_1:ByteArray) (x5_1:Int),v0=.string x0_1∧v5=.int .i64 x5_1∧Aside0 (tr_row.l0 kq x0_1 l1 x5_1=some r)∧Aside0 (kq≤k)∧Aside0 (Below w.heap.size w w'))
 case atStart=>exact ⟨(a0),(0),y4_,y4_,H',⟨Nat.le_refl _⟩,⟨y0_⟩⟩
 case round=>
  clear H'
  (try clear c1);(try clear p2)
  obtain ⟨x0_1,x5_1,rfl,rfl,HA,HK1,HB⟩:=hrel
  cases gk with
  |zero=>exact absurd HA.out (by simp [tr_row.l0])
  |succ k1=>
   have H:=HA.out
   clear HA
   simp only [tr_row.l0] at H
   by_cases c3:x5_1<(l1.length:Int)
   ·rw [if_pos c3] at H;have c3b0:decide (x5_1<(l1.length:Int))=true:=decide_eq_true c3;clear c3
    by_cases c4:x0_1.size+1≤9223372036854775807
    ·rw [if_pos c4] at H;have c4b0:=eq_true c4;have c4b1:decide (x0_1.size+1≤9223372036854775807)=true:=decide_eq_true c4
     try have c4b2:(9223372036854775807<x0_1.size+1)=False:=eq_false (Nat.not_lt.2 c4)
     by_cases c5:0≤x5_1
     ·rw [if_pos c5] at H;have c5b0:decide (0≤x5_1)=true:=decide_eq_true c5;clear c5;replace H:=Option.bind_eq_some_iff.mp H;obtain ⟨t108,A60,H⟩:=H
      replace H:(if (x0_1 ++ (⟨#[32]⟩:ByteArray)).size+t108.size≤9223372036854775807 then (tr_row.l0 k1 ((x0_1 ++ (⟨#[32]⟩:ByteArray)) ++ t108) l1 (wrap64 (x5_1+1))) else (none))=some r:=H
      have A6:=A0_ A60;clear A60
      by_cases c7:(x0_1 ++ (⟨#[32]⟩:ByteArray)).size+t108.size≤9223372036854775807
      ·rw [if_pos c7] at H
       have c7s:x0_1.size+1+t108.size≤9223372036854775807:=by
        have h_:=c7
        simp only [ByteArray.size_append] at h_
        exact h_
       have c7b0:=eq_true c7;have c7b1:decide ((x0_1 ++ (⟨#[32]⟩:ByteArray)).size+t108.size≤9223372036854775807)=true:=decide_eq_true c7
       try have c7b2:(9223372036854775807<(x0_1 ++ (⟨#[32]⟩:ByteArray)).size+t108.size)=False:=eq_false (Nat.not_lt.2 c7)
       have H':=A0_ H
       clear H
       have p107:0≤(x5_1:Int):=of_decide_eq_true y5_
       have q107:x5_1<(l1.length:Int):=of_decide_eq_true y5_
       obtain ⟨ad107,e107,hx107_0⟩:=Kd.at_int HR1.out x5_1 p107 q107
       cases e107
       replace hx107_0:=(HB.out.cell (World.block_lt_of_cell? w _ hx107_0)).trans hx107_0
       replace p107:=eq_true p107
       replace q107:=eq_true q107
       go_wp2_with (first|((with_reducible refine gate_callee (f:=113) rfl ?_);refine goesL_ (some 18) rfl rfl Tryz.func113 (by kernel_rfl) rfl #[.int .i64 (rd l1 x5_1)] rfl y1_ ?_;(with_reducible refine (tr_Decimal.calls k1 (rd l1 x5_1) t108 _ A6.out).mono ?_);rintro e w8 ⟨rfl,hb⟩;refine ⟨_,rfl,?_⟩;have n0_:=A0_ (below_step y0_ hb);clear HB;have HB:=n0_;clear n0_;(try clear hb);(try clear hb2);(try clear hk);(try clear hi)))
       go_roundg k1
       case measure=>have:=HK1.out;omega
       case rel=>exact ⟨((x0_1 ++ (⟨#[32]⟩:ByteArray)) ++ t108),(wrap64 (x5_1+1)),y4_,y4_,H',⟨by have:=HK1.out;omega⟩,⟨y0_⟩⟩
      ·rw [if_neg c7] at H;exact absurd H (by simp)
     ·rw [if_neg c5] at H;exact absurd H (by simp)
    ·rw [if_neg c4] at H;exact absurd H (by simp)
   ·rw [if_neg c3] at H;have c3b0:decide (x5_1<(l1.length:Int))=false:=decide_eq_false c3;clear c3;obtain rfl:=Option.some.inj H;go_wp2;go_ret
    exact ⟨y2_,y0_⟩
mutual
def tr_Print.l0:Nat→List ByteArray→Int→List (S74)→Int→Int→Int→Option (ByteArray)
 |0,_,_,_,_,_,_=>none
 |k+1,x3,x4,x110000,x110001,x110002,x110003=>if x4<(x110000.length:Int) then (if 0≤x4 then ((some (([(rd_T74 x110000 x4).f0.f0,(rd_T74 x110000 x4).f0.f1,(rd_T74 x110000 x4).f1]:List Int):List Int)).bind fun y119=>(if y119.length+((rd_T74 x110000 x4).f2).length<17592186044416 then ((tr_row.f k (⟨#[98,111,100,121]⟩:ByteArray) (y119 ++ ((rd_T74 x110000 x4).f2))).bind fun t125=>(if x3.length<8796093022208 then (tr_Print.l0 k (x3 ++ [t125]) (wrap64 (x4+1)) x110000 x110001 x110002 x110003) else (none))) else (none))) else (none)) else ((tr_row.f k (⟨#[110,111,100,101]⟩:ByteArray) (([x110001,x110002,x110003]:List Int))).bind fun t132=>(if x3.length<8796093022208 then (tr_Print.l1 k (x3 ++ [t132]) (⟨#[]⟩:ByteArray) 0 0) else (none)))
def tr_Print.l1:Nat→List ByteArray→ByteArray→Int→Int→Option (ByteArray)
 |0,_,_,_,_=>none
 |k+1,x3,x6,x7,x8=>if x8<(x3.length:Int) then (tr_Print.l2 k x3 x6 x7 x8 0) else (if x6.size+4≤9223372036854775807 then ((tr_Decimal.f k (wrap64 (Int.tdiv (Int.tmod x7 137) 100))).bind fun t136=>(if (x6 ++ (⟨#[101,110,100,32]⟩:ByteArray)).size+t136.size≤9223372036854775807 then ((tr_Decimal.f k (Int.tmod (wrap64 (Int.tdiv (Int.tmod x7 137) 10)) 10)).bind fun t137=>(if ((x6 ++ (⟨#[101,110,100,32]⟩:ByteArray)) ++ t136).size+t137.size≤9223372036854775807 then ((tr_Decimal.f k (Int.tmod (Int.tmod x7 137) 10)).bind fun t138=>(if (((x6 ++ (⟨#[101,110,100,32]⟩:ByteArray)) ++ t136) ++ t137).size+t138.size≤9223372036854775807 then (if ((((x6 ++ (⟨#[101,110,100,32]⟩:ByteArray)) ++ t136) ++ t137) ++ t138).size+1≤9223372036854775807 then (some (((((x6 ++ (⟨#[101,110,100,32]⟩:ByteArray)) ++ t136) ++ t137) ++ t138) ++ (⟨#[10]⟩:ByteArray))) else (none)) else (none))) else (none))) else (none))) else (none))
def tr_Print.l2:Nat→List ByteArray→ByteArray→Int→Int→Int→Option (ByteArray)
 |0,_,_,_,_,_=>none
 |k+1,x3,x6,x7,x8,x9=>if 0≤x8 then (if x8<(x3.length:Int) then (if x9<((rdOf ByteArray.empty x3 x8).size:Int) then (if 0≤x9 then (tr_Print.l2 k x3 x6 (wrap64 (x7+(wrap64 ((wrap64 ((wrap64 (bt (rdOf ByteArray.empty x3 x8) x9))*(wrap64 (x9+1))))*(wrap64 (x8+1)))))) x8 (wrap64 (x9+1))) else (none)) else (if x6.size+(rdOf ByteArray.empty x3 x8).size≤9223372036854775807 then (if (x6 ++ (rdOf ByteArray.empty x3 x8)).size+1≤9223372036854775807 then (tr_Print.l1 k x3 ((x6 ++ (rdOf ByteArray.empty x3 x8)) ++ (⟨#[10]⟩:ByteArray)) x7 (wrap64 (x8+1))) else (none)) else (none))) else (none)) else (none)
end
def tr_Print.f (k:Nat) (l0_0:List (S74)) (a0_1:Int) (a0_2:Int) (a0_3:Int):Option (ByteArray):=(tr_row.f k (⟨#[115,107,121]⟩:ByteArray) (([(l0_0.length:Int)]:List Int))).bind fun t113=>(tr_Print.l0 k (([t113]:List ByteArray)) 0 l0_0 a0_1 a0_2 a0_3)
set_option maxHeartbeats 8000000 in
set_option maxRecDepth 100000 in
theorem tr_Print.calls (k:Nat) (A0_0:Option Addr) (c0_0:Nat) (l0_0:List (S74)) (a0_1:Int) (a0_2:Int) (a0_3:Int) (r:ByteArray) (w:World) (hr0_0:Kd.C k74 w A0_0 l0_0.length l0_0) (hc0_0:l0_0.length≤c0_0) (h:tr_Print.f k l0_0 a0_1 a0_2 a0_3=some r):
  Calls Tryz.prog 59 #[.agg #[.slice A0_0 l0_0.length c0_0,.int .i64 a0_1,.int .i64 a0_2,.int .i64 a0_3]] w fun e w'=>e=.returned (.string r)∧Below w.heap.size w w':=by
 have hu29:=Tryz.underlying29
 have hu74:=Tryz.underlying74
 have HR0_0:=A0_ hr0_0;have HC0_0:=A0_ hc0_0;clear hr0_0 hc0_0
 have HB:=A0_ (Below.refl w.heap.size w)
 have H:((tr_row.f k (⟨#[115,107,121]⟩:ByteArray) (([(l0_0.length:Int)]:List Int))).bind fun t113=>(tr_Print.l0 k (([t113]:List ByteArray)) 0 l0_0 a0_1 a0_2 a0_3))=some r:=h
 clear h
 obtain ⟨y110,hy110⟩:∃ y_:List Int,y_=(([(l0_0.length:Int)]:List Int)):=⟨_,rfl⟩
 replace H:((tr_row.f k (⟨#[115,107,121]⟩:ByteArray) y110).bind fun t113=>(tr_Print.l0 k (([t113]:List ByteArray)) 0 l0_0 a0_1 a0_2 a0_3))=some r:=by first|(rw [hy110];with_reducible exact H)|(have H2_:=(Option.bind_some _ _).symm.trans H;rw [hy110];with_reducible exact H2_)|(have H2_:=(Option.bind_some _ _).symm.trans H;with_reducible exact H2_)|with_reducible exact H|(rw [hy110];exact H)|exact H
 have Ny110:=A0_ hy110;clear hy110;replace H:=Option.bind_eq_some_iff.mp H;obtain ⟨t113,A20,H⟩:=H
 replace H:(tr_Print.l0 k (([t113]:List ByteArray)) 0 l0_0 a0_1 a0_2 a0_3)=some r:=H
 have A2:=A0_ A20;clear A20
 obtain ⟨y114,hy114⟩:∃ y_:List ByteArray,y_=(([t113]:List ByteArray)):=⟨_,rfl⟩
 replace H:(tr_Print.l0 k y114 0 l0_0 a0_1 a0_2 a0_3)=some r:=by first|(rw [hy114];with_reducible exact H)|(have H2_:=(Option.bind_some _ _).symm.trans H;rw [hy114];with_reducible exact H2_)|(have H2_:=(Option.bind_some _ _).symm.trans H;with_reducible exact H2_)|with_reducible exact H|(rw [hy114];exact H)|exact H
 have Ny114:=A0_ hy114;clear hy114
 have H':=A0_ H
 clear H
 go_enter Tryz.func59,Tryz.ntmps59
 go_wp2_with (first|((with_reducible refine gate_dst (N:=1) rfl ?_);refine box_event ?hg (N:=1) ?hd (cs:=#[.slice A0_0 l0_0.length c0_0,.int .i64 a0_1,.int .i64 a0_2,.int .i64 a0_3]) (t:=29) ?hr ?_;(case hd=>rfl);(case hg=>rfl);(case hr=>first|(go_simp;done)|(go_simp;rfl));intro gb109 hg w3 hbox hb;have n0_:=A0_ (below_step y0_ hb);have n1_:=A0_ (hbox);have n2_:=A0_ ((by rw [hg];exact (below_size y0_):w.heap.size≤gb109));have n3_:=A0_ ((by rw [hg];exact (below_size y0_):w.heap.size≤gb109));clear HB;have HB:=n0_;have BK109:=n1_;have GW109:=n2_;have GE109:=n3_;clear n0_ n1_ n2_ n3_;clear hb hbox hg;obtain ⟨hcz4_0,hcz4_1,hcz4_2,hcz4_3,hfz4_0,hfz4_1,hfz4_2,hfz4_3⟩:=bq4_ BK109.out)|((with_reducible refine gate_dst (N:=13) rfl ?_);refine Kd.R_lit (Kd.int .i64) _ 3 ?hg (N:=13) ?hd (xs:=([(l0_0.length:Int)]:List Int)) (inner:=[.int .i64 (l0_0.length:Int)]) (ok:=fun _=>True) (okp:=fun _=>True) ?hr ?hp (fun _ hk=>hk) trivial (Below.refl _ _) (Nat.le_refl _) (by simp) ?_;(case hd=>rfl);(case hg=>rfl);(case hr=>first|(go_simp;done)|(go_simp;rfl));(case hp=>exact (Reps.one (show Kd.M (Kd.int .i64) _ _ _ (l0_0.length:Int) [.int .i64 (l0_0.length:Int)] from rfl) (Reps.none _ _)));intro v111 w5 ho6 hb hg_ hnew_;clear hg_ hnew_;(first|rw [← Ny110.out] at ho6|(simp only [Int.reduceToNat] at ho6;rw [← Ny110.out] at ho6));have n0_:=A0_ (Kd.R_lower ho6 (below_size y9_));have n1_:=A0_ (blk_below (g:=gb109) (o:=.cells #[.slice A0_0 l0_0.length c0_0,.int .i64 a0_1,.int .i64 a0_2,.int .i64 a0_3] 29 (0,0)) (bd_ BK109.out) hb);have n2_:=A0_ (below_step y9_ hb);clear BK109;clear HB;have HO112:=n0_;have BK109:=n1_;have HB:=n2_;clear n0_ n1_ n2_;clear hb ho6;obtain ⟨Ao7,co7,eo7⟩:=Kd.R_slice HO112.out;subst eo7)|((with_reducible refine gate_callee (f:=112) rfl ?_);refine goesL_ (some 14) rfl rfl Tryz.func112 (by kernel_rfl) rfl #[.string (⟨#[115,107,121]⟩:ByteArray),.slice Ao7 y110.length co7] rfl y1_ ?_;(with_reducible refine (tr_row.calls k (⟨#[115,107,121]⟩:ByteArray) _ _ y110 t113 _ ?side1 ?side2 A2.out).mono ?_);(case side1=>repeat (first|exact (Kd.R_reads' HO112.out).2.2|(with_reducible refine Kd.C_alloc ?_ _)|(with_reducible refine Kd.C_drewN ?_ _)|(with_reducible refine Kd.C_drew ?_)));(case side2=>exact (Kd.R_reads' HO112.out).2.1);rintro e w8 ⟨rfl,hb⟩;refine ⟨_,rfl,?_⟩;have n0_:=A0_ (Kd.R_below (rd_ HO112.out) hb);have n1_:=A0_ (blk_below (g:=gb109) (o:=.cells #[.slice A0_0 l0_0.length c0_0,.int .i64 a0_1,.int .i64 a0_2,.int .i64 a0_3] 29 (0,0)) (bd_ BK109.out) hb);have n2_:=A0_ (below_step y9_ hb);clear HO112;clear BK109;clear HB;have HO112:=n0_;have BK109:=n1_;have HB:=n2_;clear n0_ n1_ n2_;(try clear hb);(try clear hb2);(try clear hk);(try clear hi))|((with_reducible refine gate_dst (N:=15) rfl ?_);refine Kd.R_lit Kd.string _ 9 ?hg (N:=15) ?hd (xs:=([t113]:List ByteArray)) (inner:=[.string t113]) (ok:=fun _=>True) (okp:=fun _=>True) ?hr ?hp (fun _ hk=>hk) trivial (Below.refl _ _) (Nat.le_refl _) (by simp) ?_;(case hd=>rfl);(case hg=>rfl);(case hr=>first|(go_simp;done)|(go_simp;rfl));(case hp=>exact (Reps.one (show Kd.M Kd.string _ _ _ t113 [.string t113] from rfl) (Reps.none _ _)));intro v115 w9 ho10 hb hg_ hnew_;clear hg_ hnew_;(first|rw [← Ny114.out] at ho10|(simp only [Int.reduceToNat] at ho10;rw [← Ny114.out] at ho10));have n0_:=A0_ (Kd.R_below (rd_ HO112.out) hb);have n1_:=A0_ (Kd.R_lower ho10 (below_size y9_));have n2_:=A0_ (blk_below (g:=gb109) (o:=.cells #[.slice A0_0 l0_0.length c0_0,.int .i64 a0_1,.int .i64 a0_2,.int .i64 a0_3] 29 (0,0)) (bd_ BK109.out) hb);have n3_:=A0_ (below_step y9_ hb);clear HO112;clear BK109;clear HB;have HO112:=n0_;have HO116:=n1_;have BK109:=n2_;have HB:=n3_;clear n0_ n1_ n2_ n3_;clear hb ho10))
 go_loopg [3,4] k (fun kq v3 v4 w'=>∃ (x3_1:List ByteArray) (x4_1:Int),v4=.int .i64 x4_1∧Aside0 (tr_Print.l0 kq x3_1 x4_1 l0_0 a0_1 a0_2 a0_3=some r)∧Aside0 (kq≤k)∧Aside0 (Kd.R Kd.string 9 w' w.heap.size (fun _=>True) v3 x3_1)∧Aside0 (w'.heap[gb109]?=some (.cells #[(.slice A0_0 l0_0.length c0_0),.int .i64 a0_1,.int .i64 a0_2,.int .i64 a0_3] 29 (0,0)))∧Aside0 (Below w.heap.size w w'))
 case atStart=>exact ⟨(y114),(0),y4_,H',⟨Nat.le_refl _⟩,⟨by (with_reducible repeat (first|apply Kd.R_alloc|apply Kd.R_drewN|apply Kd.R_drew));exact HO116.out⟩,⟨by (with_reducible repeat (first|refine blk_drewN ?_ _|refine blk_drew ?_|refine blk_alloc ?_ _));exact BK109.out⟩,⟨y9_⟩⟩
 case round=>
  clear H'
  (try clear c1);(try clear p2);(try clear c5);(try clear hcz4_0);(try clear hcz4_1);(try clear hcz4_2);(try clear hcz4_3);(try clear hfz4_0);(try clear hfz4_1);(try clear hfz4_2);(try clear hfz4_3)
  obtain ⟨x3_1,x4_1,rfl,HA,HK1,HO_3,BK109,HB⟩:=hrel
  cases gk with
  |zero=>exact absurd HA.out (by simp [tr_Print.l0])
  |succ k1=>
   have H:=HA.out
   clear HA
   simp only [tr_Print.l0] at H
   by_cases c11:x4_1<(l0_0.length:Int)
   ·rw [if_pos c11] at H;have c11b0:decide (x4_1<(l0_0.length:Int))=true:=decide_eq_true c11;clear c11
    by_cases c12:0≤x4_1
    ·rw [if_pos c12] at H;have c12b0:decide (0≤x4_1)=true:=decide_eq_true c12;clear c12
     obtain ⟨y119,hy119⟩:∃ y_:List Int,y_=(([(rd_T74 l0_0 x4_1).f0.f0,(rd_T74 l0_0 x4_1).f0.f1,(rd_T74 l0_0 x4_1).f1]:List Int)):=⟨_,rfl⟩
     replace H:(if y119.length+((rd_T74 l0_0 x4_1).f2).length<17592186044416 then ((tr_row.f k1 (⟨#[98,111,100,121]⟩:ByteArray) (y119 ++ ((rd_T74 l0_0 x4_1).f2))).bind fun t125=>(if x3_1.length<8796093022208 then (tr_Print.l0 k1 (x3_1 ++ [t125]) (wrap64 (x4_1+1)) l0_0 a0_1 a0_2 a0_3) else (none))) else (none))=some r:=by first|(rw [hy119];with_reducible exact H)|(have H2_:=(Option.bind_some _ _).symm.trans H;rw [hy119];with_reducible exact H2_)|(have H2_:=(Option.bind_some _ _).symm.trans H;with_reducible exact H2_)|with_reducible exact H|(rw [hy119];exact H)|exact H
     have Ny119:=A0_ hy119;clear hy119
     by_cases c13:y119.length+((rd_T74 l0_0 x4_1).f2).length<17592186044416
     ·rw [if_pos c13] at H;have LMc13:=A0_ c13;clear c13
      obtain ⟨y122,hy122⟩:∃ y_:List Int,y_=(y119 ++ ((rd_T74 l0_0 x4_1).f2)):=⟨_,rfl⟩
      replace H:((tr_row.f k1 (⟨#[98,111,100,121]⟩:ByteArray) y122).bind fun t125=>(if x3_1.length<8796093022208 then (tr_Print.l0 k1 (x3_1 ++ [t125]) (wrap64 (x4_1+1)) l0_0 a0_1 a0_2 a0_3) else (none)))=some r:=by first|(rw [hy122];with_reducible exact H)|(have H2_:=(Option.bind_some _ _).symm.trans H;rw [hy122];with_reducible exact H2_)|(have H2_:=(Option.bind_some _ _).symm.trans H;with_reducible exact H2_)|with_reducible exact H|(rw [hy122];exact H)|exact H
      have Ny122:=A0_ hy122;clear hy122;replace H:=Option.bind_eq_some_iff.mp H;obtain ⟨t125,A140,H⟩:=H
      replace H:(if x3_1.length<8796093022208 then (tr_Print.l0 k1 (x3_1 ++ [t125]) (wrap64 (x4_1+1)) l0_0 a0_1 a0_2 a0_3) else (none))=some r:=H
      have A14:=A0_ A140;clear A140
      by_cases c15:x3_1.length<8796093022208
      ·rw [if_pos c15] at H;have LMc15:=A0_ c15;clear c15
       obtain ⟨y126,hy126⟩:∃ y_:List ByteArray,y_=(x3_1 ++ [t125]):=⟨_,rfl⟩
       replace H:(tr_Print.l0 k1 y126 (wrap64 (x4_1+1)) l0_0 a0_1 a0_2 a0_3)=some r:=by first|(rw [hy126];with_reducible exact H)|(have H2_:=(Option.bind_some _ _).symm.trans H;rw [hy126];with_reducible exact H2_)|(have H2_:=(Option.bind_some _ _).symm.trans H;with_reducible exact H2_)|with_reducible exact H|(rw [hy126];exact H)|exact H
       have Ny126:=A0_ hy126;clear hy126
       have H':=A0_ H
       clear H;obtain ⟨hcz16_0,hcz16_1,hcz16_2,hcz16_3,hfz16_0,hfz16_1,hfz16_2,hfz16_3⟩:=bq4_ BK109.out
       have p117:0≤(x4_1:Int):=of_decide_eq_true y5_
       have q117:x4_1<(l0_0.length:Int):=of_decide_eq_true y5_
       obtain ⟨ad117,A117_3,c117_3,e117,hx117_0,hx117_1,hx117_2,hx117_3,hl117_3,hi117_3⟩:=at_T74 HR0_0.out x4_1 p117 q117
       cases e117
       replace hx117_0:=(HB.out.cell (World.block_lt_of_cell? w _ hx117_0)).trans hx117_0
       replace hx117_1:=(HB.out.cell (World.block_lt_of_cell? w _ hx117_1)).trans hx117_1
       replace hx117_2:=(HB.out.cell (World.block_lt_of_cell? w _ hx117_2)).trans hx117_2
       replace hx117_3:=(HB.out.cell (World.block_lt_of_cell? w _ hx117_3)).trans hx117_3
       have HR117_3:=A0_ hi117_3;have HC117_3:=A0_ hl117_3;clear hi117_3 hl117_3
       replace p117:=eq_true p117
       replace q117:=eq_true q117
       go_wp2_with (first|((with_reducible refine gate_dst (N:=5) rfl ?_);refine box_event ?hg (N:=5) ?hd (cs:=#[.int .i64 0,.int .i64 0,.int .i64 0,.slice none 0 0]) (t:=74) ?hr ?_;(case hd=>rfl);(case hg=>rfl);(case hr=>first|(go_simp;done)|(go_simp;rfl));intro gb118 hg w17 hbox hb;have n0_:=A0_ (Kd.R_below (rd_ HO_3.out) hb);have n1_:=A0_ (blk_below (g:=gb109) (o:=.cells #[.slice (some ad117) l0_0.length c0_0,.int .i64 a0_1,.int .i64 a0_2,.int .i64 a0_3] 29 (0,0)) (bd_ BK109.out) hb);have n2_:=A0_ (below_step y9_ hb);have n3_:=A0_ (hbox);have n4_:=A0_ ((by rw [hg];exact (below_size y9_):w.heap.size≤gb118));have n5_:=A0_ ((by rw [hg];exact (below_size y9_):w.heap.size≤gb118));have n6_:=A0_ ((by rw [hg];exact Nat.ne_of_lt (blk_lt (g:=gb109) (o:=.cells #[.slice (some ad117) l0_0.length c0_0,.int .i64 a0_1,.int .i64 a0_2,.int .i64 a0_3] 29 (0,0)) (bd_ BK109.out)):gb109≠gb118));have n7_:=A0_ ((by rw [hg];exact Nat.ne_of_gt (blk_lt (g:=gb109) (o:=.cells #[.slice (some ad117) l0_0.length c0_0,.int .i64 a0_1,.int .i64 a0_2,.int .i64 a0_3] 29 (0,0)) (bd_ BK109.out)):gb118≠gb109));clear HO_3;clear BK109;clear HB;have HO_3:=n0_;have BK109:=n1_;have HB:=n2_;have BK118:=n3_;have GW118:=n4_;have GE118:=n5_;have NB109_118:=n6_;have NB118_109:=n7_;clear n0_ n1_ n2_ n3_ n4_ n5_ n6_ n7_;clear hb hbox hg;have hnb18:=NB118_109.out;have hnc18:=NB109_118.out;obtain ⟨hcz19_0,hcz19_1,hcz19_2,hcz19_3,hfz19_0,hfz19_1,hfz19_2,hfz19_3⟩:=bq4_ BK118.out)|((with_reducible refine gate_dst (N:=37) rfl ?_);refine Kd.R_lit (Kd.int .i64) _ 3 ?hg (N:=37) ?hd (xs:=([(rd_T74 l0_0 x4_1).f0.f0,(rd_T74 l0_0 x4_1).f0.f1,(rd_T74 l0_0 x4_1).f1]:List Int)) (inner:=[.int .i64 ((rd_T74 l0_0 x4_1).f0.f0),.int .i64 ((rd_T74 l0_0 x4_1).f0.f1),.int .i64 ((rd_T74 l0_0 x4_1).f1)]) (ok:=fun _=>True) (okp:=fun _=>True) ?hr ?hp (fun _ hk=>hk) trivial (Below.refl _ _) (Nat.le_refl _) (by simp) ?_;(case hd=>rfl);(case hg=>rfl);(case hr=>first|(go_simp;done)|(go_simp;rfl));(case hp=>exact (Reps.one (show Kd.M (Kd.int .i64) _ _ _ ((rd_T74 l0_0 x4_1).f0.f0) [.int .i64 ((rd_T74 l0_0 x4_1).f0.f0)] from rfl) (Reps.one (show Kd.M (Kd.int .i64) _ _ _ ((rd_T74 l0_0 x4_1).f0.f1) [.int .i64 ((rd_T74 l0_0 x4_1).f0.f1)] from rfl) (Reps.one (show Kd.M (Kd.int .i64) _ _ _ ((rd_T74 l0_0 x4_1).f1) [.int .i64 ((rd_T74 l0_0 x4_1).f1)] from rfl) (Reps.none _ _)))));intro v120 w20 ho21 hb hg_ hnew_;clear hg_ hnew_;(first|rw [← Ny119.out] at ho21|(simp only [Int.reduceToNat] at ho21;rw [← Ny119.out] at ho21));have n0_:=A0_ (Kd.R_below (by (with_reducible repeat (first|apply Kd.R_alloc|apply Kd.R_drewN|apply Kd.R_drew));exact (Kd.R_mono (Kd.R_far (p:=⟨gb118,3,none⟩) (Kd.R_far (p:=⟨gb118,2,none⟩) (Kd.R_far (p:=⟨gb118,1,none⟩) (Kd.R_far (p:=⟨gb118,0,none⟩) (Kd.R_types HO_3.out BK118.out (by decide)) (fun _ hk=>hk.2) (.int .i64 ((rd_T74 l0_0 x4_1).f0.f0))) (fun _ hk=>hk.2) (.int .i64 ((rd_T74 l0_0 x4_1).f0.f1))) (fun _ hk=>hk.2) (.int .i64 ((rd_T74 l0_0 x4_1).f1))) (fun _ hk=>hk.2) (.slice A117_3 ((rd_T74 l0_0 x4_1).f2).length c117_3)) (fun _ h_=>h_.1))) hb);have n1_:=A0_ (Kd.R_lower ho21 (below_size yy_));have n2_:=A0_ (blk_below (g:=gb109) (o:=.cells #[.slice (some ad117) l0_0.length c0_0,.int .i64 a0_1,.int .i64 a0_2,.int .i64 a0_3] 29 (0,0)) (by (with_reducible repeat (first|refine blk_drewN ?_ _|refine blk_drew ?_|refine blk_alloc ?_ _));refine blk_far ?_ NB109_118.out _;(with_reducible repeat (first|refine blk_drewN ?_ _|refine blk_drew ?_|refine blk_alloc ?_ _));refine blk_far ?_ NB109_118.out _;(with_reducible repeat (first|refine blk_drewN ?_ _|refine blk_drew ?_|refine blk_alloc ?_ _));refine blk_far ?_ NB109_118.out _;(with_reducible repeat (first|refine blk_drewN ?_ _|refine blk_drew ?_|refine blk_alloc ?_ _));refine blk_far ?_ NB109_118.out _;(with_reducible repeat (first|refine blk_drewN ?_ _|refine blk_drew ?_|refine blk_alloc ?_ _));exact BK109.out) hb);have n3_:=A0_ (blk_below (g:=gb118) (o:=.cells #[.int .i64 ((rd_T74 l0_0 x4_1).f0.f0),.int .i64 ((rd_T74 l0_0 x4_1).f0.f1),.int .i64 ((rd_T74 l0_0 x4_1).f1),.slice A117_3 ((rd_T74 l0_0 x4_1).f2).length c117_3] 74 (0,0)) (by (with_reducible repeat (first|refine blk_drewN ?_ _|refine blk_drew ?_|refine blk_alloc ?_ _));refine blk_put (cs:=#[.int .i64 ((rd_T74 l0_0 x4_1).f0.f0),.int .i64 ((rd_T74 l0_0 x4_1).f0.f1),.int .i64 ((rd_T74 l0_0 x4_1).f1),.slice none 0 0]) ?_ 3 _ rfl;(with_reducible repeat (first|refine blk_drewN ?_ _|refine blk_drew ?_|refine blk_alloc ?_ _));refine blk_put (cs:=#[.int .i64 ((rd_T74 l0_0 x4_1).f0.f0),.int .i64 ((rd_T74 l0_0 x4_1).f0.f1),.int .i64 0,.slice none 0 0]) ?_ 2 _ rfl;(with_reducible repeat (first|refine blk_drewN ?_ _|refine blk_drew ?_|refine blk_alloc ?_ _));refine blk_put (cs:=#[.int .i64 ((rd_T74 l0_0 x4_1).f0.f0),.int .i64 0,.int .i64 0,.slice none 0 0]) ?_ 1 _ rfl;(with_reducible repeat (first|refine blk_drewN ?_ _|refine blk_drew ?_|refine blk_alloc ?_ _));refine blk_put (cs:=#[.int .i64 0,.int .i64 0,.int .i64 0,.slice none 0 0]) ?_ 0 _ rfl;(with_reducible repeat (first|refine blk_drewN ?_ _|refine blk_drew ?_|refine blk_alloc ?_ _));exact BK118.out) hb);have n4_:=A0_ (below_step yy_ hb);clear HO_3;clear BK109;clear BK118;clear HB;have HO_3:=n0_;have HO121:=n1_;have BK109:=n2_;have BK118:=n3_;have HB:=n4_;clear n0_ n1_ n2_ n3_ n4_;clear hb ho21;obtain ⟨hcz22_0,hcz22_1,hcz22_2,hcz22_3,hfz22_0,hfz22_1,hfz22_2,hfz22_3⟩:=bq4_ BK118.out)|((with_reducible refine gate_builtin (b:=.append) (xs:=#[.tmp 37,.tmp 39]) rfl ?_);at_builtin;refine Kd.R_append_rows (Kd.int .i64) (w0:=w) w.heap.size rfl (.tmp 37) (.tmp 39) 40 3 (.int .i64 0) 8 rfl Tryz.underlying40 info3 rfl (by decide) (by omega) v120 y119 ((rd_T74 l0_0 x4_1).f2) _ _ _ (fun _=>True) (fun _=>False) rfl rfl ?aO ?aR (fun _ _ h=>h) (fun _ h=>h.elim) ?aF ?aB ?aS ?aL ?_;(case aR=>repeat (first|exact (Kd.C_below HR117_3.out HB.out)|(with_reducible refine Kd.C_alloc ?_ _)|(with_reducible refine Kd.C_drewN ?_ _)|(with_reducible refine Kd.C_drew ?_)));(case aB=>exact yy_);(case aF=>exact (fun _ _=>trivial));(case aO=>exact (rd_ HO121.out));(case aS=>exact (below_size yy_));(case aL=>have:=LMc13.out;omega);intro v123 w23 ho hb hg hat;rw [← Ny122.out] at ho;have n0_:=A0_ (Kd.R_over' (rd_ HO_3.out) (Kd.R_typed (rd_ HO121.out)) (by decide) hg);have n1_:=A0_ (blk_grown (g:=gb109) (o:=.cells #[.slice (some ad117) l0_0.length c0_0,.int .i64 a0_1,.int .i64 a0_2,.int .i64 a0_3] 29 (0,0)) (bd_ BK109.out) hg (Kd.R_ne HO121.out BK109.out (by decide)));have n2_:=A0_ (blk_grown (g:=gb118) (o:=.cells #[.int .i64 ((rd_T74 l0_0 x4_1).f0.f0),.int .i64 ((rd_T74 l0_0 x4_1).f0.f1),.int .i64 ((rd_T74 l0_0 x4_1).f1),.slice A117_3 ((rd_T74 l0_0 x4_1).f2).length c117_3] 74 (0,0)) (bd_ BK118.out) hg (Kd.R_ne HO121.out BK118.out (by decide)));have n3_:=A0_ (hb);have n4_:=A0_ (ho);clear HO_3;clear BK109;clear BK118;clear HB;clear HO121;have HO_3:=n0_;have BK109:=n1_;have BK118:=n2_;have HB:=n3_;have HO124:=n4_;clear n0_ n1_ n2_ n3_ n4_;clear ho hb hg hat;obtain ⟨Ao24,co24,eo24⟩:=Kd.R_slice HO124.out;subst eo24)|((with_reducible refine gate_callee (f:=112) rfl ?_);refine goesL_ (some 41) rfl rfl Tryz.func112 (by kernel_rfl) rfl #[.string (⟨#[98,111,100,121]⟩:ByteArray),.slice Ao24 y122.length co24] rfl y1_ ?_;(with_reducible refine (tr_row.calls k1 (⟨#[98,111,100,121]⟩:ByteArray) _ _ y122 t125 _ ?side1 ?side2 A14.out).mono ?_);(case side1=>repeat (first|exact (Kd.R_reads' HO124.out).2.2|(with_reducible refine Kd.C_alloc ?_ _)|(with_reducible refine Kd.C_drewN ?_ _)|(with_reducible refine Kd.C_drew ?_)));(case side2=>exact (Kd.R_reads' HO124.out).2.1);rintro e w25 ⟨rfl,hb⟩;refine ⟨_,rfl,?_⟩;have n0_:=A0_ (Kd.R_below (rd_ HO_3.out) hb);have n1_:=A0_ (Kd.R_below (rd_ HO124.out) hb);have n2_:=A0_ (blk_below (g:=gb109) (o:=.cells #[.slice (some ad117) l0_0.length c0_0,.int .i64 a0_1,.int .i64 a0_2,.int .i64 a0_3] 29 (0,0)) (bd_ BK109.out) hb);have n3_:=A0_ (blk_below (g:=gb118) (o:=.cells #[.int .i64 ((rd_T74 l0_0 x4_1).f0.f0),.int .i64 ((rd_T74 l0_0 x4_1).f0.f1),.int .i64 ((rd_T74 l0_0 x4_1).f1),.slice A117_3 ((rd_T74 l0_0 x4_1).f2).length c117_3] 74 (0,0)) (bd_ BK118.out) hb);have n4_:=A0_ (below_step yy_ hb);clear HO_3;clear HO124;clear BK109;clear BK118;clear HB;have HO_3:=n0_;have HO124:=n1_;have BK109:=n2_;have BK118:=n3_;have HB:=n4_;clear n0_ n1_ n2_ n3_ n4_;(try clear hb);(try clear hb2);(try clear hk);(try clear hi))|((with_reducible refine gate_builtin (b:=.append) (xs:=#[.tmp 28,.tmp 42]) rfl ?_);at_builtin;refine Kd.R_append Kd.string (w0:=w) w.heap.size rfl (.tmp 28) (.tmp 42) 103 9 (.string ⟨#[]⟩) 16 rfl Tryz.underlying103 info9 rfl (by decide) (by omega) u3 x3_1 t125 [.string t125] (fun _=>True) (fun _=>False) rfl rfl ?aP (fun _ hk=>hk.elim) ?aF ?aO ?aB ?aS ?aL ?_;(case aP=>exact rfl);(case aB=>exact yy_);(case aF=>exact (fun _ _=>trivial));(case aO=>exact (rd_ HO_3.out));(case aS=>exact (below_size yy_));(case aL=>have:=LMc15.out;omega);intro v127 w26 ho hb hg hat;rw [← Ny126.out] at ho;have n0_:=A0_ (blk_grown (g:=gb109) (o:=.cells #[.slice (some ad117) l0_0.length c0_0,.int .i64 a0_1,.int .i64 a0_2,.int .i64 a0_3] 29 (0,0)) (bd_ BK109.out) hg (Kd.R_ne HO_3.out BK109.out (by decide)));have n1_:=A0_ (blk_grown (g:=gb118) (o:=.cells #[.int .i64 ((rd_T74 l0_0 x4_1).f0.f0),.int .i64 ((rd_T74 l0_0 x4_1).f0.f1),.int .i64 ((rd_T74 l0_0 x4_1).f1),.slice A117_3 ((rd_T74 l0_0 x4_1).f2).length c117_3] 74 (0,0)) (bd_ BK118.out) hg (Kd.R_ne HO_3.out BK118.out (by decide)));have n2_:=A0_ (Kd.R_over' (rd_ HO124.out) (Kd.R_typed (rd_ HO_3.out)) (by decide) hg);have n3_:=A0_ (hb);have n4_:=A0_ (ho);clear BK109;clear BK118;clear HO124;clear HB;clear HO_3;have BK109:=n0_;have BK118:=n1_;have HO124:=n2_;have HB:=n3_;have HO128:=n4_;clear n0_ n1_ n2_ n3_ n4_;clear ho hb hg hat))
       go_roundg k1
       case measure=>have:=HK1.out;omega
       case rel=>exact ⟨(y126),(wrap64 (x4_1+1)),y4_,H',⟨by have:=HK1.out;omega⟩,⟨by (with_reducible repeat (first|apply Kd.R_alloc|apply Kd.R_drewN|apply Kd.R_drew));exact HO128.out⟩,⟨by (with_reducible repeat (first|refine blk_drewN ?_ _|refine blk_drew ?_|refine blk_alloc ?_ _));exact BK109.out⟩,⟨yy_⟩⟩
      ·rw [if_neg c15] at H;exact absurd H (by simp)
     ·rw [if_neg c13] at H;exact absurd H (by simp)
    ·rw [if_neg c12] at H;exact absurd H (by simp)
   ·rw [if_neg c11] at H;have c11b0:decide (x4_1<(l0_0.length:Int))=false:=decide_eq_false c11;clear c11
    obtain ⟨y129,hy129⟩:∃ y_:List Int,y_=(([a0_1,a0_2,a0_3]:List Int)):=⟨_,rfl⟩
    replace H:((tr_row.f k1 (⟨#[110,111,100,101]⟩:ByteArray) y129).bind fun t132=>(if x3_1.length<8796093022208 then (tr_Print.l1 k1 (x3_1 ++ [t132]) (⟨#[]⟩:ByteArray) 0 0) else (none)))=some r:=by first|(rw [hy129];with_reducible exact H)|(have H2_:=(Option.bind_some _ _).symm.trans H;rw [hy129];with_reducible exact H2_)|(have H2_:=(Option.bind_some _ _).symm.trans H;with_reducible exact H2_)|with_reducible exact H|(rw [hy129];exact H)|exact H
    have Ny129:=A0_ hy129;clear hy129;replace H:=Option.bind_eq_some_iff.mp H;obtain ⟨t132,A270,H⟩:=H
    replace H:(if x3_1.length<8796093022208 then (tr_Print.l1 k1 (x3_1 ++ [t132]) (⟨#[]⟩:ByteArray) 0 0) else (none))=some r:=H
    have A27:=A0_ A270;clear A270
    by_cases c28:x3_1.length<8796093022208
    ·rw [if_pos c28] at H;have LMc28:=A0_ c28;clear c28
     obtain ⟨y133,hy133⟩:∃ y_:List ByteArray,y_=(x3_1 ++ [t132]):=⟨_,rfl⟩
     replace H:(tr_Print.l1 k1 y133 (⟨#[]⟩:ByteArray) 0 0)=some r:=by first|(rw [hy133];with_reducible exact H)|(have H2_:=(Option.bind_some _ _).symm.trans H;rw [hy133];with_reducible exact H2_)|(have H2_:=(Option.bind_some _ _).symm.trans H;with_reducible exact H2_)|with_reducible exact H|(rw [hy133];exact H)|exact H
     have Ny133:=A0_ hy133;clear hy133
     have H':=A0_ H
     clear H;obtain ⟨hcz29_0,hcz29_1,hcz29_2,hcz29_3,hfz29_0,hfz29_1,hfz29_2,hfz29_3⟩:=bq4_ BK109.out
     go_wp2_with (first|((with_reducible refine gate_dst (N:=56) rfl ?_);refine Kd.R_lit (Kd.int .i64) _ 3 ?hg (N:=56) ?hd (xs:=([a0_1,a0_2,a0_3]:List Int)) (inner:=[.int .i64 a0_1,.int .i64 a0_2,.int .i64 a0_3]) (ok:=fun _=>True) (okp:=fun _=>True) ?hr ?hp (fun _ hk=>hk) trivial (Below.refl _ _) (Nat.le_refl _) (by simp) ?_;(case hd=>rfl);(case hg=>rfl);(case hr=>first|(go_simp;done)|(go_simp;rfl));(case hp=>exact (Reps.one (show Kd.M (Kd.int .i64) _ _ _ a0_1 [.int .i64 a0_1] from rfl) (Reps.one (show Kd.M (Kd.int .i64) _ _ _ a0_2 [.int .i64 a0_2] from rfl) (Reps.one (show Kd.M (Kd.int .i64) _ _ _ a0_3 [.int .i64 a0_3] from rfl) (Reps.none _ _)))));intro v130 w30 ho31 hb hg_ hnew_;clear hg_ hnew_;(first|rw [← Ny129.out] at ho31|(simp only [Int.reduceToNat] at ho31;rw [← Ny129.out] at ho31));have n0_:=A0_ (Kd.R_below (rd_ HO_3.out) hb);have n1_:=A0_ (Kd.R_lower ho31 (below_size y9_));have n2_:=A0_ (blk_below (g:=gb109) (o:=.cells #[.slice A0_0 l0_0.length c0_0,.int .i64 a0_1,.int .i64 a0_2,.int .i64 a0_3] 29 (0,0)) (bd_ BK109.out) hb);have n3_:=A0_ (below_step y9_ hb);clear HO_3;clear BK109;clear HB;have HO_3:=n0_;have HO131:=n1_;have BK109:=n2_;have HB:=n3_;clear n0_ n1_ n2_ n3_;clear hb ho31;obtain ⟨Ao32,co32,eo32⟩:=Kd.R_slice HO131.out;subst eo32)|((with_reducible refine gate_callee (f:=112) rfl ?_);refine goesL_ (some 57) rfl rfl Tryz.func112 (by kernel_rfl) rfl #[.string (⟨#[110,111,100,101]⟩:ByteArray),.slice Ao32 y129.length co32] rfl y1_ ?_;(with_reducible refine (tr_row.calls k1 (⟨#[110,111,100,101]⟩:ByteArray) _ _ y129 t132 _ ?side1 ?side2 A27.out).mono ?_);(case side1=>repeat (first|exact (Kd.R_reads' HO131.out).2.2|(with_reducible refine Kd.C_alloc ?_ _)|(with_reducible refine Kd.C_drewN ?_ _)|(with_reducible refine Kd.C_drew ?_)));(case side2=>exact (Kd.R_reads' HO131.out).2.1);rintro e w33 ⟨rfl,hb⟩;refine ⟨_,rfl,?_⟩;have n0_:=A0_ (Kd.R_below (rd_ HO_3.out) hb);have n1_:=A0_ (Kd.R_below (rd_ HO131.out) hb);have n2_:=A0_ (blk_below (g:=gb109) (o:=.cells #[.slice A0_0 l0_0.length c0_0,.int .i64 a0_1,.int .i64 a0_2,.int .i64 a0_3] 29 (0,0)) (bd_ BK109.out) hb);have n3_:=A0_ (below_step y9_ hb);clear HO_3;clear HO131;clear BK109;clear HB;have HO_3:=n0_;have HO131:=n1_;have BK109:=n2_;have HB:=n3_;clear n0_ n1_ n2_ n3_;(try clear hb);(try clear hb2);(try clear hk);(try clear hi))|((with_reducible refine gate_builtin (b:=.append) (xs:=#[.tmp 44,.tmp 58]) rfl ?_);at_builtin;refine Kd.R_append Kd.string (w0:=w) w.heap.size rfl (.tmp 44) (.tmp 58) 103 9 (.string ⟨#[]⟩) 16 rfl Tryz.underlying103 info9 rfl (by decide) (by omega) u3 x3_1 t132 [.string t132] (fun _=>True) (fun _=>False) rfl rfl ?aP (fun _ hk=>hk.elim) ?aF ?aO ?aB ?aS ?aL ?_;(case aP=>exact rfl);(case aB=>exact y9_);(case aF=>exact (fun _ _=>trivial));(case aO=>exact (rd_ HO_3.out));(case aS=>exact (below_size y9_));(case aL=>have:=LMc28.out;omega);intro v134 w34 ho hb hg hat;rw [← Ny133.out] at ho;have n0_:=A0_ (blk_grown (g:=gb109) (o:=.cells #[.slice A0_0 l0_0.length c0_0,.int .i64 a0_1,.int .i64 a0_2,.int .i64 a0_3] 29 (0,0)) (bd_ BK109.out) hg (Kd.R_ne HO_3.out BK109.out (by decide)));have n1_:=A0_ (Kd.R_over' (rd_ HO131.out) (Kd.R_typed (rd_ HO_3.out)) (by decide) hg);have n2_:=A0_ (hb);have n3_:=A0_ (ho);clear BK109;clear HO131;clear HB;clear HO_3;have BK109:=n0_;have HO131:=n1_;have HB:=n2_;have HO135:=n3_;clear n0_ n1_ n2_ n3_;clear ho hb hg hat))
     go_loopg [6,7,8] k1 (fun kq v6 v7 v8 w'=>∃ (x6_2:ByteArray) (x7_2:Int) (x8_2:Int),v6=.string x6_2∧v7=.int .i64 x7_2∧v8=.int .i64 x8_2∧Aside0 (tr_Print.l1 kq y133 x6_2 x7_2 x8_2=some r)∧Aside0 (kq≤k1)∧Aside0 (Kd.R Kd.string 9 w' w.heap.size (fun _=>True) v134 y133)∧Aside0 (w'.heap[gb109]?=some (.cells #[(.slice A0_0 l0_0.length c0_0),.int .i64 a0_1,.int .i64 a0_2,.int .i64 a0_3] 29 (0,0)))∧Aside0 (Below w.heap.size w w'))
     case atStart=>exact ⟨((⟨#[]⟩:ByteArray)),(0),(0),y4_,y4_,y4_,H',⟨Nat.le_refl _⟩,⟨by (with_reducible repeat (first|apply Kd.R_alloc|apply Kd.R_drewN|apply Kd.R_drew));exact HO135.out⟩,⟨by (with_reducible repeat (first|refine blk_drewN ?_ _|refine blk_drew ?_|refine blk_alloc ?_ _));exact BK109.out⟩,⟨y9_⟩⟩
     case round=>
      clear H'
      (try clear c1);(try clear p1);(try clear q1);(try clear hx1);(try clear c2);(try clear p2);(try clear c5);(try clear p6);(try clear c11);(try clear c11b0);(try clear p11);(try clear q11);(try clear hx11);(try clear c12);(try clear c12b0);(try clear c13);(try clear c15);(try clear c18);(try clear c28);(try clear hcz16_0);(try clear hcz16_1);(try clear hcz16_2);(try clear hcz16_3);(try clear hcz19_0);(try clear hcz19_1);(try clear hcz19_2);(try clear hcz19_3);(try clear hcz22_0);(try clear hcz22_1);(try clear hcz22_2);(try clear hcz22_3);(try clear hcz29_0);(try clear hcz29_1);(try clear hcz29_2);(try clear hcz29_3);(try clear hcz4_0);(try clear hcz4_1);(try clear hcz4_2);(try clear hcz4_3);(try clear hfz16_0);(try clear hfz16_1);(try clear hfz16_2);(try clear hfz16_3);(try clear hfz19_0);(try clear hfz19_1);(try clear hfz19_2);(try clear hfz19_3);(try clear hfz22_0);(try clear hfz22_1);(try clear hfz22_2);(try clear hfz22_3);(try clear hfz29_0);(try clear hfz29_1);(try clear hfz29_2);(try clear hfz29_3);(try clear hfz4_0);(try clear hfz4_1);(try clear hfz4_2);(try clear hfz4_3);(try clear hx117_0);(try clear hx117_1);(try clear hx117_2);(try clear hx117_3);(try clear p117);(try clear p2);(try clear q117)
      obtain ⟨x6_2,x7_2,x8_2,rfl,rfl,rfl,HA,HK2,HO_3,BK109,HB⟩:=hrel
      cases gk with
      |zero=>exact absurd HA.out (by simp [tr_Print.l1])
      |succ k2=>
       have H:=HA.out
       clear HA
       simp only [tr_Print.l1] at H
       by_cases c35:x8_2<(y133.length:Int)
       ·rw [if_pos c35] at H;have c35b0:decide (x8_2<(y133.length:Int))=true:=decide_eq_true c35;clear c35
        have H':=A0_ H
        clear H
        obtain ⟨Ao36,co36,eo36⟩:=Kd.R_slice HO_3.out
        subst eo36;go_wp2
        go_loopg [7,9] k2 (fun kq v7 v9 w'=>∃ (x7_3:Int) (x9_3:Int),v7=.int .i64 x7_3∧v9=.int .i64 x9_3∧Aside0 (tr_Print.l2 kq y133 x6_2 x7_3 x8_2 x9_3=some r)∧Aside0 (kq≤k2)∧Aside0 (Kd.R Kd.string 9 w' w.heap.size (fun _=>True) (.slice Ao36 y133.length co36) y133)∧Aside0 (w'.heap[gb109]?=some (.cells #[(.slice A0_0 l0_0.length c0_0),.int .i64 a0_1,.int .i64 a0_2,.int .i64 a0_3] 29 (0,0)))∧Aside0 (Below w.heap.size w w'))
        case atStart=>exact ⟨(x7_2),(0),y4_,y4_,H',⟨Nat.le_refl _⟩,⟨by (with_reducible repeat (first|apply Kd.R_alloc|apply Kd.R_drewN|apply Kd.R_drew));exact HO_3.out⟩,⟨by (with_reducible repeat (first|refine blk_drewN ?_ _|refine blk_drew ?_|refine blk_alloc ?_ _));exact BK109.out⟩,⟨y9_⟩⟩
        case round=>
         clear H'
         (try clear c1);(try clear p1);(try clear q1);(try clear hx1);(try clear c2);(try clear p2);(try clear c3);(try clear c5);(try clear p6);(try clear c11);(try clear c11b0);(try clear p11);(try clear q11);(try clear hx11);(try clear c12);(try clear c12b0);(try clear c13);(try clear c15);(try clear c18);(try clear c28);(try clear c35);(try clear c35b0);(try clear hcz16_0);(try clear hcz16_1);(try clear hcz16_2);(try clear hcz16_3);(try clear hcz19_0);(try clear hcz19_1);(try clear hcz19_2);(try clear hcz19_3);(try clear hcz22_0);(try clear hcz22_1);(try clear hcz22_2);(try clear hcz22_3);(try clear hcz29_0);(try clear hcz29_1);(try clear hcz29_2);(try clear hcz29_3);(try clear hcz4_0);(try clear hcz4_1);(try clear hcz4_2);(try clear hcz4_3);(try clear hfz16_0);(try clear hfz16_1);(try clear hfz16_2);(try clear hfz16_3);(try clear hfz19_0);(try clear hfz19_1);(try clear hfz19_2);(try clear hfz19_3);(try clear hfz22_0);(try clear hfz22_1);(try clear hfz22_2);(try clear hfz22_3);(try clear hfz29_0);(try clear hfz29_1);(try clear hfz29_2);(try clear hfz29_3);(try clear hfz4_0);(try clear hfz4_1);(try clear hfz4_2);(try clear hfz4_3);(try clear hx117_0);(try clear hx117_1);(try clear hx117_2);(try clear hx117_3);(try clear p1);(try clear p11);(try clear p117);(try clear p2);(try clear p6);(try clear q1);(try clear q11);(try clear q117)
         obtain ⟨x7_3,x9_3,rfl,rfl,HA,HK3,HO_3,BK109,HB⟩:=hrel
         cases gk with
         |zero=>exact absurd HA.out (by simp [tr_Print.l2])
         |succ k3=>
          have H:=HA.out
          clear HA
          simp only [tr_Print.l2] at H
          by_cases c37:0≤x8_2
          ·rw [if_pos c37] at H;have c37b0:decide (0≤x8_2)=true:=decide_eq_true c37;clear c37
           by_cases c38:x8_2<(y133.length:Int)
           ·rw [if_pos c38] at H;have c38b0:decide (x8_2<(y133.length:Int))=true:=decide_eq_true c38;clear c38
            by_cases c39:x9_3<((rdOf ByteArray.empty y133 x8_2).size:Int)
            ·rw [if_pos c39] at H;have c39b0:decide (x9_3<((rdOf ByteArray.empty y133 x8_2).size:Int))=true:=decide_eq_true c39;clear c39
             by_cases c40:0≤x9_3
             ·rw [if_pos c40] at H;have c40b0:decide (0≤x9_3)=true:=decide_eq_true c40;clear c40
              have H':=A0_ H
              clear H
              have p139:0≤(x8_2:Int):=of_decide_eq_true y5_
              have q139:x8_2<(y133.length:Int):=of_decide_eq_true y5_
              obtain ⟨ad139,e139,hx139_0⟩:=Kd.at_string (Kd.R_reads' HO_3.out).2.2 x8_2 p139 q139
              cases e139
              replace p139:=eq_true p139
              replace q139:=eq_true q139
              have p140:0≤(x8_2:Int):=of_decide_eq_true y5_
              have q140:x8_2<(y133.length:Int):=of_decide_eq_true y5_
              obtain ⟨ad140,e140,hx140_0⟩:=Kd.at_string (Kd.R_reads' HO_3.out).2.2 x8_2 p140 q140
              obtain rfl:ad139=ad140:=(by injection e140)
              replace p140:=eq_true p140
              replace q140:=eq_true q140
              have p41:0≤(x9_3:Int):=of_decide_eq_true y5_
              have q41:x9_3<((rdOf ByteArray.empty y133 x8_2).size:Int):=of_decide_eq_true y5_
              have hx41:=bt_at (rdOf ByteArray.empty y133 x8_2) x9_3
              replace p41:=eq_true p41
              replace q41:=eq_true q41
              go_wp2
              go_roundg k3
              case measure=>have:=HK1.out;have:=HK2.out;have:=HK3.out;omega
              case rel=>exact ⟨(wrap64 (x7_3+(wrap64 ((wrap64 ((wrap64 (bt (rdOf ByteArray.empty y133 x8_2) x9_3))*(wrap64 (x9_3+1))))*(wrap64 (x8_2+1)))))),(wrap64 (x9_3+1)),y4_,y4_,H',⟨by have:=HK1.out;have:=HK2.out;have:=HK3.out;omega⟩,⟨by (with_reducible repeat (first|apply Kd.R_alloc|apply Kd.R_drewN|apply Kd.R_drew));exact HO_3.out⟩,⟨by (with_reducible repeat (first|refine blk_drewN ?_ _|refine blk_drew ?_|refine blk_alloc ?_ _));exact BK109.out⟩,⟨y9_⟩⟩
             ·rw [if_neg c40] at H;exact absurd H (by simp)
            ·rw [if_neg c39] at H;have c39b0:decide (x9_3<((rdOf ByteArray.empty y133 x8_2).size:Int))=false:=decide_eq_false c39;clear c39
             by_cases c42:x6_2.size+(rdOf ByteArray.empty y133 x8_2).size≤9223372036854775807
             ·rw [if_pos c42] at H;have c42b0:=eq_true c42;have c42b1:decide (x6_2.size+(rdOf ByteArray.empty y133 x8_2).size≤9223372036854775807)=true:=decide_eq_true c42
              try have c42b2:(9223372036854775807<x6_2.size+(rdOf ByteArray.empty y133 x8_2).size)=False:=eq_false (Nat.not_lt.2 c42)
              by_cases c43:(x6_2 ++ (rdOf ByteArray.empty y133 x8_2)).size+1≤9223372036854775807
              ·rw [if_pos c43] at H
               have c43s:x6_2.size+(rdOf ByteArray.empty y133 x8_2).size+1≤9223372036854775807:=by
                have h_:=c43
                simp only [ByteArray.size_append] at h_
                exact h_
               have c43b0:=eq_true c43;have c43b1:decide ((x6_2 ++ (rdOf ByteArray.empty y133 x8_2)).size+1≤9223372036854775807)=true:=decide_eq_true c43
               try have c43b2:(9223372036854775807<(x6_2 ++ (rdOf ByteArray.empty y133 x8_2)).size+1)=False:=eq_false (Nat.not_lt.2 c43)
               have H':=A0_ H
               clear H
               have p139:0≤(x8_2:Int):=of_decide_eq_true y5_
               have q139:x8_2<(y133.length:Int):=of_decide_eq_true y5_
               obtain ⟨ad139,e139,hx139_0⟩:=Kd.at_string (Kd.R_reads' HO_3.out).2.2 x8_2 p139 q139
               cases e139
               replace p139:=eq_true p139
               replace q139:=eq_true q139
               have p141:0≤(x8_2:Int):=of_decide_eq_true y5_
               have q141:x8_2<(y133.length:Int):=of_decide_eq_true y5_
               obtain ⟨ad141,e141,hx141_0⟩:=Kd.at_string (Kd.R_reads' HO_3.out).2.2 x8_2 p141 q141
               obtain rfl:ad139=ad141:=(by injection e141)
               replace p141:=eq_true p141
               replace q141:=eq_true q141
               go_wp2
               go_roundg k3
               case measure=>have:=HK1.out;have:=HK2.out;have:=HK3.out;omega
               case rel=>exact ⟨((x6_2 ++ (rdOf ByteArray.empty y133 x8_2)) ++ (⟨#[10]⟩:ByteArray)),(x7_3),(wrap64 (x8_2+1)),y4_,y4_,y4_,H',⟨by have:=HK1.out;have:=HK2.out;have:=HK3.out;omega⟩,⟨by (with_reducible repeat (first|apply Kd.R_alloc|apply Kd.R_drewN|apply Kd.R_drew));exact HO_3.out⟩,⟨by (with_reducible repeat (first|refine blk_drewN ?_ _|refine blk_drew ?_|refine blk_alloc ?_ _));exact BK109.out⟩,⟨y9_⟩⟩
              ·rw [if_neg c43] at H;exact absurd H (by simp)
             ·rw [if_neg c42] at H;exact absurd H (by simp)
           ·rw [if_neg c38] at H;exact absurd H (by simp)
          ·rw [if_neg c37] at H;exact absurd H (by simp)
       ·rw [if_neg c35] at H;have c35b0:decide (x8_2<(y133.length:Int))=false:=decide_eq_false c35;clear c35
        by_cases c44:x6_2.size+4≤9223372036854775807
        ·rw [if_pos c44] at H;have c44b0:=eq_true c44;have c44b1:decide (x6_2.size+4≤9223372036854775807)=true:=decide_eq_true c44
         try have c44b2:(9223372036854775807<x6_2.size+4)=False:=eq_false (Nat.not_lt.2 c44)
         replace H:=Option.bind_eq_some_iff.mp H;obtain ⟨t136,A450,H⟩:=H
         replace H:(if (x6_2 ++ (⟨#[101,110,100,32]⟩:ByteArray)).size+t136.size≤9223372036854775807 then ((tr_Decimal.f k2 (Int.tmod (wrap64 (Int.tdiv (Int.tmod x7_2 137) 10)) 10)).bind fun t137=>(if ((x6_2 ++ (⟨#[101,110,100,32]⟩:ByteArray)) ++ t136).size+t137.size≤9223372036854775807 then ((tr_Decimal.f k2 (Int.tmod (Int.tmod x7_2 137) 10)).bind fun t138=>(if (((x6_2 ++ (⟨#[101,110,100,32]⟩:ByteArray)) ++ t136) ++ t137).size+t138.size≤9223372036854775807 then (if ((((x6_2 ++ (⟨#[101,110,100,32]⟩:ByteArray)) ++ t136) ++ t137) ++ t138).size+1≤9223372036854775807 then (some (((((x6_2 ++ (⟨#[101,110,100,32]⟩:ByteArray)) ++ t136) ++ t137) ++ t138) ++ (⟨#[10]⟩:ByteArray))) else (none)) else (none))) else (none))) else (none))=some r:=H
         have A45:=A0_ A450;clear A450
         by_cases c46:(x6_2 ++ (⟨#[101,110,100,32]⟩:ByteArray)).size+t136.size≤9223372036854775807
         ·rw [if_pos c46] at H
          have c46s:x6_2.size+4+t136.size≤9223372036854775807:=by
           have h_:=c46
           simp only [ByteArray.size_append] at h_
           exact h_
          have c46b0:=eq_true c46;have c46b1:decide ((x6_2 ++ (⟨#[101,110,100,32]⟩:ByteArray)).size+t136.size≤9223372036854775807)=true:=decide_eq_true c46
          try have c46b2:(9223372036854775807<(x6_2 ++ (⟨#[101,110,100,32]⟩:ByteArray)).size+t136.size)=False:=eq_false (Nat.not_lt.2 c46)
          replace H:=Option.bind_eq_some_iff.mp H;obtain ⟨t137,A470,H⟩:=H
          replace H:(if ((x6_2 ++ (⟨#[101,110,100,32]⟩:ByteArray)) ++ t136).size+t137.size≤9223372036854775807 then ((tr_Decimal.f k2 (Int.tmod (Int.tmod x7_2 137) 10)).bind fun t138=>(if (((x6_2 ++ (⟨#[101,110,100,32]⟩:ByteArray)) ++ t136) ++ t137).size+t138.size≤9223372036854775807 then (if ((((x6_2 ++ (⟨#[101,110,100,32]⟩:ByteArray)) ++ t136) ++ t137) ++ t138).size+1≤9223372036854775807 then (some (((((x6_2 ++ (⟨#[101,110,100,32]⟩:ByteArray)) ++ t136) ++ t137) ++ t138) ++ (⟨#[10]⟩:ByteArray))) else (none)) else (none))) else (none))=some r:=H
          have A47:=A0_ A470;clear A470
          by_cases c48:((x6_2 ++ (⟨#[101,110,100,32]⟩:ByteArray)) ++ t136).size+t137.size≤9223372036854775807
          ·rw [if_pos c48] at H
           have c48s:x6_2.size+4+t136.size+t137.size≤9223372036854775807:=by
            have h_:=c48
            simp only [ByteArray.size_append] at h_
            exact h_
           have c48b0:=eq_true c48;have c48b1:decide (((x6_2 ++ (⟨#[101,110,100,32]⟩:ByteArray)) ++ t136).size+t137.size≤9223372036854775807)=true:=decide_eq_true c48
           try have c48b2:(9223372036854775807<((x6_2 ++ (⟨#[101,110,100,32]⟩:ByteArray)) ++ t136).size+t137.size)=False:=eq_false (Nat.not_lt.2 c48)
           replace H:=Option.bind_eq_some_iff.mp H;obtain ⟨t138,A490,H⟩:=H
           replace H:(if (((x6_2 ++ (⟨#[101,110,100,32]⟩:ByteArray)) ++ t136) ++ t137).size+t138.size≤9223372036854775807 then (if ((((x6_2 ++ (⟨#[101,110,100,32]⟩:ByteArray)) ++ t136) ++ t137) ++ t138).size+1≤9223372036854775807 then (some (((((x6_2 ++ (⟨#[101,110,100,32]⟩:ByteArray)) ++ t136) ++ t137) ++ t138) ++ (⟨#[10]⟩:ByteArray))) else (none)) else (none))=some r:=H
           have A49:=A0_ A490;clear A490
           by_cases c50:(((x6_2 ++ (⟨#[101,110,100,32]⟩:ByteArray)) ++ t136) ++ t137).size+t138.size≤9223372036854775807
           ·rw [if_pos c50] at H
            have c50s:x6_2.size+4+t136.size+t137.size+t138.size≤9223372036854775807:=by
             have h_:=c50
             simp only [ByteArray.size_append] at h_
             exact h_
            have c50b0:=eq_true c50;have c50b1:decide ((((x6_2 ++ (⟨#[101,110,100,32]⟩:ByteArray)) ++ t136) ++ t137).size+t138.size≤9223372036854775807)=true:=decide_eq_true c50
            try have c50b2:(9223372036854775807<(((x6_2 ++ (⟨#[101,110,100,32]⟩:ByteArray)) ++ t136) ++ t137).size+t138.size)=False:=eq_false (Nat.not_lt.2 c50)
            by_cases c51:((((x6_2 ++ (⟨#[101,110,100,32]⟩:ByteArray)) ++ t136) ++ t137) ++ t138).size+1≤9223372036854775807
            ·rw [if_pos c51] at H
             have c51s:x6_2.size+4+t136.size+t137.size+t138.size+1≤9223372036854775807:=by
              have h_:=c51
              simp only [ByteArray.size_append] at h_
              exact h_
             have c51b0:=eq_true c51;have c51b1:decide (((((x6_2 ++ (⟨#[101,110,100,32]⟩:ByteArray)) ++ t136) ++ t137) ++ t138).size+1≤9223372036854775807)=true:=decide_eq_true c51
             try have c51b2:(9223372036854775807<((((x6_2 ++ (⟨#[101,110,100,32]⟩:ByteArray)) ++ t136) ++ t137) ++ t138).size+1)=False:=eq_false (Nat.not_lt.2 c51)
             obtain rfl:=Option.some.inj H
             obtain ⟨Ao52,co52,eo52⟩:=Kd.R_slice HO_3.out
             subst eo52
             go_wp2_with (first|((with_reducible refine gate_callee (f:=113) rfl ?_);refine goesL_ (some 103) rfl rfl Tryz.func113 (by kernel_rfl) rfl #[.int .i64 (wrap64 (Int.tdiv (Int.tmod x7_2 137) 100))] rfl y1_ ?_;(with_reducible refine (tr_Decimal.calls k2 (wrap64 (Int.tdiv (Int.tmod x7_2 137) 100)) t136 _ A45.out).mono ?_);rintro e w53 ⟨rfl,hb⟩;refine ⟨_,rfl,?_⟩;have n0_:=A0_ (Kd.R_below (rd_ HO_3.out) hb);have n1_:=A0_ (blk_below (g:=gb109) (o:=.cells #[.slice A0_0 l0_0.length c0_0,.int .i64 a0_1,.int .i64 a0_2,.int .i64 a0_3] 29 (0,0)) (bd_ BK109.out) hb);have n2_:=A0_ (below_step y9_ hb);clear HO_3;clear BK109;clear HB;have HO_3:=n0_;have BK109:=n1_;have HB:=n2_;clear n0_ n1_ n2_;(try clear hb);(try clear hb2);(try clear hk);(try clear hi))|((with_reducible refine gate_callee (f:=113) rfl ?_);refine goesL_ (some 108) rfl rfl Tryz.func113 (by kernel_rfl) rfl #[.int .i64 (Int.tmod (wrap64 (Int.tdiv (Int.tmod x7_2 137) 10)) 10)] rfl y1_ ?_;(with_reducible refine (tr_Decimal.calls k2 (Int.tmod (wrap64 (Int.tdiv (Int.tmod x7_2 137) 10)) 10) t137 _ A47.out).mono ?_);rintro e w54 ⟨rfl,hb⟩;refine ⟨_,rfl,?_⟩;have n0_:=A0_ (Kd.R_below (rd_ HO_3.out) hb);have n1_:=A0_ (blk_below (g:=gb109) (o:=.cells #[.slice A0_0 l0_0.length c0_0,.int .i64 a0_1,.int .i64 a0_2,.int .i64 a0_3] 29 (0,0)) (bd_ BK109.out) hb);have n2_:=A0_ (below_step y9_ hb);clear HO_3;clear BK109;clear HB;have HO_3:=n0_;have BK109:=n1_;have HB:=n2_;clear n0_ n1_ n2_;(try clear hb);(try clear hb2);(try clear hk);(try clear hi))|((with_reducible refine gate_callee (f:=113) rfl ?_);refine goesL_ (some 112) rfl rfl Tryz.func113 (by kernel_rfl) rfl #[.int .i64 (Int.tmod (Int.tmod x7_2 137) 10)] rfl y1_ ?_;(with_reducible refine (tr_Decimal.calls k2 (Int.tmod (Int.tmod x7_2 137) 10) t138 _ A49.out).mono ?_);rintro e w55 ⟨rfl,hb⟩;refine ⟨_,rfl,?_⟩;have n0_:=A0_ (Kd.R_below (rd_ HO_3.out) hb);have n1_:=A0_ (blk_below (g:=gb109) (o:=.cells #[.slice A0_0 l0_0.length c0_0,.int .i64 a0_1,.int .i64 a0_2,.int .i64 a0_3] 29 (0,0)) (bd_ BK109.out) hb);have n2_:=A0_ (below_step y9_ hb);clear HO_3;clear BK109;clear HB;have HO_3:=n0_;have BK109:=n1_;have HB:=n2_;clear n0_ n1_ n2_;(try clear hb);(try clear hb2);(try clear hk);(try clear hi)))
             go_ret
             exact ⟨y2_,y9_⟩
            ·rw [if_neg c51] at H;exact absurd H (by simp)
           ·rw [if_neg c50] at H;exact absurd H (by simp)
          ·rw [if_neg c48] at H;exact absurd H (by simp)
         ·rw [if_neg c46] at H;exact absurd H (by simp)
        ·rw [if_neg c44] at H;exact absurd H (by simp)
    ·rw [if_neg c28] at H;exact absurd H (by simp)
def tr_in.f (a0:Int) (a1:Int) (a2:Int):Option (Bool):=if a0 ≥ a1 then (some (decide (a0≤a2))) else (some false)
set_option maxHeartbeats 8000000 in
set_option maxRecDepth 100000 in
theorem tr_in.calls (a0:Int) (a1:Int) (a2:Int) (r:Bool) (w:World) (h:tr_in.f a0 a1 a2=some r):
  Calls Tryz.prog 66 #[.int .i64 a0,.int .i64 a1,.int .i64 a2] w fun e w'=>e=.returned (.bool r)∧Drawn0 w w':=by
 have H:(if a0 ≥ a1 then (some (decide (a0≤a2))) else (some false))=some r:=h
 clear h
 by_cases c4:a0 ≥ a1
 ·rw [if_pos c4] at H;have c4b0:decide (a1≤a0)=true:=decide_eq_true c4;clear c4;obtain rfl:=Option.some.inj H
  go_enter Tryz.func66,Tryz.ntmps66
  go_wp2;go_ret
  exact ⟨y4_,yb_⟩
 ·rw [if_neg c4] at H;have c4b0:decide (a1≤a0)=false:=decide_eq_false c4;clear c4;obtain rfl:=Option.some.inj H
  go_enter Tryz.func66,Tryz.ntmps66
  go_wp2;go_ret
  exact ⟨y4_,yb_⟩
def tr_Spot.f (a0:Int):Option (Bool):=(tr_in.f a0 0 21599).bind fun t192=>(some t192)
set_option maxHeartbeats 8000000 in
set_option maxRecDepth 100000 in
theorem tr_Spot.calls (a0:Int) (r:Bool) (w:World) (h:tr_Spot.f a0=some r):
  Calls Tryz.prog 26 #[.int .i64 a0] w fun e w'=>e=.returned (.bool r)∧Drawn0 w w':=by
 have H:((tr_in.f a0 0 21599).bind fun t192=>(some t192))=some r:=h
 clear h;replace H:=Option.bind_eq_some_iff.mp H;obtain ⟨t192,A20,H⟩:=H
 replace H:(some t192)=some r:=H
 have A2:=A0_ A20;clear A20;obtain rfl:=Option.some.inj H
 go_enter Tryz.func26,Tryz.ntmps26
 go_wp2_with (first|((with_reducible refine gate_callee (f:=66) rfl ?_);refine goesL_ (some 4) rfl rfl Tryz.func66 (by kernel_rfl) rfl #[.int .i64 a0,.int .i64 0,.int .i64 21599] rfl y1_ ?_;(with_reducible refine (tr_in.calls a0 0 21599 t192 _ A2.out).mono ?_);rintro e w' ⟨rfl,⟨nd,rfl⟩⟩;refine ⟨_,rfl,?_⟩))
 go_ret
 exact ⟨y4_,yb_⟩
end Go.Proofs.YtjahbgldccjbfaaGreatDoor.PSky
end
section
namespace Go.Proofs.YtjahbgldccjbfaaGreatDoor.PSky
open Go.RowKit Go.Proofs.YtjahbgldccjbfaaGreatDoorW.PrintWords Go.Proofs.YtjahbgldccjbfaaGreatDoorW.PrintLast Go.Proofs.YtjahbgldccjbfaaGreatDoorW.PrintMore
attribute [local go_sem] max2_int min2_int max_two min_two max_three min_three max_four min_four
set_option linter.unusedVariables false
set_option linter.unusedSimpArgs false
def tr_period.f (a0_0:Int) (a0_1:Int):Option (Bool):=(tr_in.f a0_0 1 10000).bind fun t194=>(if t194=true then ((tr_in.f a0_1 1 10000).bind fun t195=>(if t195=true then (some (decide (a0_0 ≥ (wrap64 (4*a0_1))))) else (some false))) else (some false))
set_option maxHeartbeats 8000000 in
set_option maxRecDepth 100000 in
theorem tr_period.calls (a0_0:Int) (a0_1:Int) (r:Bool) (w:World) (h:tr_period.f a0_0 a0_1=some r):
  Calls Tryz.prog 65 #[.agg #[.int .i64 a0_0,.int .i64 a0_1]] w fun e w'=>e=.returned (.bool r)∧Below w.heap.size w w':=by
 have hu25:=Tryz.underlying25
 have HB:=A0_ (Below.refl w.heap.size w)
 have H:((tr_in.f a0_0 1 10000).bind fun t194=>(if t194=true then ((tr_in.f a0_1 1 10000).bind fun t195=>(if t195=true then (some (decide (a0_0 ≥ (wrap64 (4*a0_1))))) else (some false))) else (some false)))=some r:=h
 clear h;replace H:=Option.bind_eq_some_iff.mp H;obtain ⟨t194,A20,H⟩:=H
 replace H:(if t194=true then ((tr_in.f a0_1 1 10000).bind fun t195=>(if t195=true then (some (decide (a0_0 ≥ (wrap64 (4*a0_1))))) else (some false))) else (some false))=some r:=H
 have A2:=A0_ A20;clear A20
 by_cases c3:t194=true
 ·subst c3
  have H1:((tr_in.f a0_1 1 10000).bind fun t195=>(if t195=true then (some (decide (a0_0 ≥ (wrap64 (4*a0_1))))) else (some false)))=some r:=by rw [if_pos rfl] at H;exact H
  clear H;have H:=H1;clear H1;replace H:=Option.bind_eq_some_iff.mp H;obtain ⟨t195,A40,H⟩:=H
  replace H:(if t195=true then (some (decide (a0_0 ≥ (wrap64 (4*a0_1))))) else (some false))=some r:=H
  have A4:=A0_ A40;clear A40
  by_cases c5:t195=true
  ·subst c5
   have H1:(some (decide (a0_0 ≥ (wrap64 (4*a0_1)))))=some r:=by rw [if_pos rfl] at H;exact H
   clear H;have H:=H1;clear H1;obtain rfl:=Option.some.inj H
   go_enter Tryz.func65,Tryz.ntmps65
   go_wp2_with (first|((with_reducible refine gate_dst (N:=1) rfl ?_);refine box_event ?hg (N:=1) ?hd (cs:=#[.int .i64 a0_0,.int .i64 a0_1]) (t:=25) ?hr ?_;(case hd=>rfl);(case hg=>rfl);(case hr=>first|(go_simp;done)|(go_simp;rfl));intro gb193 hg w6 hbox hb;have n0_:=A0_ (below_step y0_ hb);have n1_:=A0_ (hbox);have n2_:=A0_ ((by rw [hg];exact (below_size y0_):w.heap.size≤gb193));have n3_:=A0_ ((by rw [hg];exact (below_size y0_):w.heap.size≤gb193));clear HB;have HB:=n0_;have BK193:=n1_;have GW193:=n2_;have GE193:=n3_;clear n0_ n1_ n2_ n3_;clear hb hbox hg;obtain ⟨hcz7_0,hcz7_1,hfz7_0,hfz7_1⟩:=bq2_ BK193.out)|((with_reducible refine gate_callee (f:=66) rfl ?_);refine goesL_ (some 5) rfl rfl Tryz.func66 (by kernel_rfl) rfl #[.int .i64 a0_0,.int .i64 1,.int .i64 10000] rfl y1_ ?_;(with_reducible refine (tr_in.calls a0_0 1 10000 true _ A2.out).mono ?_);rintro e w' ⟨rfl,⟨nd,rfl⟩⟩;refine ⟨_,rfl,?_⟩)|(go_at_call 66;(with_reducible refine (tr_in.calls a0_1 1 10000 true _ A4.out).mono ?_);rintro e w' ⟨rfl,⟨nd,rfl⟩⟩))
   go_ret
   exact ⟨y2_,y2y_⟩
  ·replace c5:=Bool.eq_false_iff.mpr c5;subst c5
   have H1:(some false)=some r:=by rw [if_neg (show ¬ (false=true) by decide)] at H;exact H
   clear H;have H:=H1;clear H1;obtain rfl:=Option.some.inj H
   go_enter Tryz.func65,Tryz.ntmps65
   go_wp2_with (first|((with_reducible refine gate_dst (N:=1) rfl ?_);refine box_event ?hg (N:=1) ?hd (cs:=#[.int .i64 a0_0,.int .i64 a0_1]) (t:=25) ?hr ?_;(case hd=>rfl);(case hg=>rfl);(case hr=>first|(go_simp;done)|(go_simp;rfl));intro gb193 hg w8 hbox hb;have n0_:=A0_ (below_step y0_ hb);have n1_:=A0_ (hbox);have n2_:=A0_ ((by rw [hg];exact (below_size y0_):w.heap.size≤gb193));have n3_:=A0_ ((by rw [hg];exact (below_size y0_):w.heap.size≤gb193));clear HB;have HB:=n0_;have BK193:=n1_;have GW193:=n2_;have GE193:=n3_;clear n0_ n1_ n2_ n3_;clear hb hbox hg;obtain ⟨hcz9_0,hcz9_1,hfz9_0,hfz9_1⟩:=bq2_ BK193.out)|((with_reducible refine gate_callee (f:=66) rfl ?_);refine goesL_ (some 5) rfl rfl Tryz.func66 (by kernel_rfl) rfl #[.int .i64 a0_0,.int .i64 1,.int .i64 10000] rfl y1_ ?_;(with_reducible refine (tr_in.calls a0_0 1 10000 true _ A2.out).mono ?_);rintro e w' ⟨rfl,⟨nd,rfl⟩⟩;refine ⟨_,rfl,?_⟩)|(go_at_call 66;(with_reducible refine (tr_in.calls a0_1 1 10000 false _ A4.out).mono ?_);rintro e w' ⟨rfl,⟨nd,rfl⟩⟩))
   go_ret
   exact ⟨y2_,y2y_⟩
 ·replace c3:=Bool.eq_false_iff.mpr c3;subst c3
  have H1:(some false)=some r:=by rw [if_neg (show ¬ (false=true) by decide)] at H;exact H
  clear H;have H:=H1;clear H1;obtain rfl:=Option.some.inj H
  go_enter Tryz.func65,Tryz.ntmps65
  go_wp2_with (first|((with_reducible refine gate_dst (N:=1) rfl ?_);refine box_event ?hg (N:=1) ?hd (cs:=#[.int .i64 a0_0,.int .i64 a0_1]) (t:=25) ?hr ?_;(case hd=>rfl);(case hg=>rfl);(case hr=>first|(go_simp;done)|(go_simp;rfl));intro gb193 hg w10 hbox hb;have n0_:=A0_ (below_step y0_ hb);have n1_:=A0_ (hbox);have n2_:=A0_ ((by rw [hg];exact (below_size y0_):w.heap.size≤gb193));have n3_:=A0_ ((by rw [hg];exact (below_size y0_):w.heap.size≤gb193));clear HB;have HB:=n0_;have BK193:=n1_;have GW193:=n2_;have GE193:=n3_;clear n0_ n1_ n2_ n3_;clear hb hbox hg;obtain ⟨hcz11_0,hcz11_1,hfz11_0,hfz11_1⟩:=bq2_ BK193.out)|((with_reducible refine gate_callee (f:=66) rfl ?_);refine goesL_ (some 5) rfl rfl Tryz.func66 (by kernel_rfl) rfl #[.int .i64 a0_0,.int .i64 1,.int .i64 10000] rfl y1_ ?_;(with_reducible refine (tr_in.calls a0_0 1 10000 false _ A2.out).mono ?_);rintro e w' ⟨rfl,⟨nd,rfl⟩⟩;refine ⟨_,rfl,?_⟩))
  go_ret
  exact ⟨y2_,y2y_⟩
mutual
def tr_Sky.l0:Nat→Int→List (S74)→Int→Int→Int→Option (Bool)
 |0,_,_,_,_,_=>none
 |k+1,x3,x197000,x197001,x197002,x197003=>if x3<(x197000.length:Int) then (if 0≤x3 then ((tr_period.f ((rd_T74 x197000 x3).f0.f0) ((rd_T74 x197000 x3).f0.f1)).bind fun t202=>(if t202=true then ((tr_Spot.f ((rd_T74 x197000 x3).f1)).bind fun t203=>(if t203=true then ((tr_in.f (((rd_T74 x197000 x3).f2).length:Int) 1 8).bind fun t204=>(tr_Sky.j1 k x3 (!t204) x197000 x197001 x197002 x197003 ((rd_T74 x197000 x3).f0.f0) ((rd_T74 x197000 x3).f0.f1) ((rd_T74 x197000 x3).f1) ((rd_T74 x197000 x3).f2))) else (tr_Sky.j1 k x3 true x197000 x197001 x197002 x197003 ((rd_T74 x197000 x3).f0.f0) ((rd_T74 x197000 x3).f0.f1) ((rd_T74 x197000 x3).f1) ((rd_T74 x197000 x3).f2)))) else (tr_Sky.j1 k x3 true x197000 x197001 x197002 x197003 ((rd_T74 x197000 x3).f0.f0) ((rd_T74 x197000 x3).f0.f1) ((rd_T74 x197000 x3).f1) ((rd_T74 x197000 x3).f2)))) else (none)) else ((tr_in.f (x197000.length:Int) 2 4).bind fun t197=>(if t197=true then ((tr_period.f x197001 x197002).bind fun t198=>(if t198=true then ((tr_Spot.f x197003).bind fun t199=>(some t199)) else (some false))) else (some false)))
def tr_Sky.j1:Nat→Int→Bool→List (S74)→Int→Int→Int→Int→Int→Int→List Int→Option (Bool)
 |0,_,_,_,_,_,_,_,_,_,_=>none
 |k+1,x3,x34,x197000,x197001,x197002,x197003,x202000,x202001,x202002,x202003=>if x34=true then (some false) else (tr_Sky.l1 k x3 0 x197000 x197001 x197002 x197003 x202000 x202001 x202002 x202003)
def tr_Sky.l1:Nat→Int→Int→List (S74)→Int→Int→Int→Int→Int→Int→List Int→Option (Bool)
 |0,_,_,_,_,_,_,_,_,_,_=>none
 |k+1,x3,x5,x197000,x197001,x197002,x197003,x202000,x202001,x202002,x202003=>if x5<(x202003.length:Int) then (if 0≤x5 then ((tr_in.f (rd x202003 x5) (-600) 600).bind fun t206=>(if t206=true then (tr_Sky.l1 k x3 (wrap64 (x5+1)) x197000 x197001 x197002 x197003 x202000 x202001 x202002 x202003) else (some false))) else (none)) else (tr_Sky.l0 k (wrap64 (x3+1)) x197000 x197001 x197002 x197003)
end
def tr_Sky.f (k:Nat) (l0_0:List (S74)) (a0_1:Int) (a0_2:Int) (a0_3:Int):Option (Bool):=tr_Sky.l0 k 0 l0_0 a0_1 a0_2 a0_3
set_option maxHeartbeats 8000000 in
set_option maxRecDepth 100000 in
theorem tr_Sky.calls (k:Nat) (A0_0:Option Addr) (c0_0:Nat) (l0_0:List (S74)) (a0_1:Int) (a0_2:Int) (a0_3:Int) (r:Bool) (w:World) (hr0_0:Kd.C k74 w A0_0 l0_0.length l0_0) (hc0_0:l0_0.length≤c0_0) (h:tr_Sky.f k l0_0 a0_1 a0_2 a0_3=some r):
  Calls Tryz.prog 14 #[.agg #[.slice A0_0 l0_0.length c0_0,.int .i64 a0_1,.int .i64 a0_2,.int .i64 a0_3]] w fun e w'=>e=.returned (.bool r)∧Below w.heap.size w w':=by
 have hu29:=Tryz.underlying29
 have hu74:=Tryz.underlying74
 have hu25:=Tryz.underlying25
 have HR0_0:=A0_ hr0_0;have HC0_0:=A0_ hc0_0;clear hr0_0 hc0_0
 have HB:=A0_ (Below.refl w.heap.size w)
 have H:(tr_Sky.l0 k 0 l0_0 a0_1 a0_2 a0_3)=some r:=h
 clear h
 have H':=A0_ H
 clear H
 go_enter Tryz.func14,Tryz.ntmps14
 go_wp2_with (first|((with_reducible refine gate_dst (N:=1) rfl ?_);(try (refine gate_guard (by rfl) ?_;dsimp only));refine box_event ?hg (N:=1) ?hd (cs:=#[.slice A0_0 l0_0.length c0_0,.int .i64 a0_1,.int .i64 a0_2,.int .i64 a0_3]) (t:=29) ?hr ?_;(case hd=>rfl);(case hg=>rfl);(case hr=>first|(go_simp;done)|(go_simp;rfl));intro gb196 hg w2 hbox hb;have n0_:=A0_ (below_step y0_ hb);have n1_:=A0_ (hbox);have n2_:=A0_ ((by rw [hg];exact (below_size y0_):w.heap.size≤gb196));have n3_:=A0_ ((by rw [hg];exact (below_size y0_):w.heap.size≤gb196));clear HB;have HB:=n0_;have BK196:=n1_;have GW196:=n2_;have GE196:=n3_;clear n0_ n1_ n2_ n3_;clear hb hbox hg))
 go_loopg [3] k (fun kq v3 w'=>∃ (x3_1:Int),v3=.int .i64 x3_1∧Aside0 (tr_Sky.l0 kq x3_1 l0_0 a0_1 a0_2 a0_3=some r)∧Aside0 (kq≤k)∧Aside0 (w'.heap[gb196]?=some (.cells #[(.slice A0_0 l0_0.length c0_0),.int .i64 a0_1,.int .i64 a0_2,.int .i64 a0_3] 29 (0,0)))∧Aside0 (Below w.heap.size w w'))
 case atStart=>exact ⟨(0),y4_,H',⟨Nat.le_refl _⟩,⟨by (with_reducible repeat (first|refine blk_drewN ?_ _|refine blk_drew ?_|refine blk_alloc ?_ _));exact BK196.out⟩,⟨y13_⟩⟩
 case round=>
  clear H'
  (try clear c1);(try clear p2)
  obtain ⟨x3_1,rfl,HA,HK1,BK196,HB⟩:=hrel
  cases gk with
  |zero=>exact absurd HA.out (by simp [tr_Sky.l0])
  |succ k1=>
   have H:=HA.out
   clear HA
   simp only [tr_Sky.l0] at H
   by_cases c3:x3_1<(l0_0.length:Int)
   ·rw [if_pos c3] at H;have c3b0:decide (x3_1<(l0_0.length:Int))=true:=decide_eq_true c3;clear c3
    by_cases c4:0≤x3_1
    ·rw [if_pos c4] at H;have c4b0:decide (0≤x3_1)=true:=decide_eq_true c4;clear c4;have HC5:=A0_ H;clear H;obtain ⟨hcz6_0,hcz6_1,hcz6_2,hcz6_3,hfz6_0,hfz6_1,hfz6_2,hfz6_3⟩:=bq4_ BK196.out
     have p200:0≤(x3_1:Int):=of_decide_eq_true y5_
     have q200:x3_1<(l0_0.length:Int):=of_decide_eq_true y5_
     obtain ⟨ad200,A200_3,c200_3,e200,hx200_0,hx200_1,hx200_2,hx200_3,hl200_3,hi200_3⟩:=at_T74 HR0_0.out x3_1 p200 q200
     cases e200
     replace hx200_0:=(HB.out.cell (World.block_lt_of_cell? w _ hx200_0)).trans hx200_0
     replace hx200_1:=(HB.out.cell (World.block_lt_of_cell? w _ hx200_1)).trans hx200_1
     replace hx200_2:=(HB.out.cell (World.block_lt_of_cell? w _ hx200_2)).trans hx200_2
     replace hx200_3:=(HB.out.cell (World.block_lt_of_cell? w _ hx200_3)).trans hx200_3
     have HR200_3:=A0_ hi200_3;have HC200_3:=A0_ hl200_3;clear hi200_3 hl200_3
     replace p200:=eq_true p200
     replace q200:=eq_true q200
     go_upto_region 5 with (first|((with_reducible refine gate_dst (N:=4) rfl ?_);(try (refine gate_guard (by rfl) ?_;dsimp only));refine box_event ?hg (N:=4) ?hd (cs:=#[.int .i64 0,.int .i64 0,.int .i64 0,.slice none 0 0]) (t:=74) ?hr ?_;(case hd=>rfl);(case hg=>rfl);(case hr=>first|(go_simp;done)|(go_simp;rfl));intro gb201 hg w7 hbox hb;have n0_:=A0_ (blk_below (g:=gb196) (o:=.cells #[.slice (some ad200) l0_0.length c0_0,.int .i64 a0_1,.int .i64 a0_2,.int .i64 a0_3] 29 (0,0)) (bd_ BK196.out) hb);have n1_:=A0_ (below_step y13_ hb);have n2_:=A0_ (hbox);have n3_:=A0_ ((by rw [hg];exact (below_size y13_):w.heap.size≤gb201));have n4_:=A0_ ((by rw [hg];exact (below_size y13_):w.heap.size≤gb201));have n5_:=A0_ ((by rw [hg];exact Nat.ne_of_lt (blk_lt (g:=gb196) (o:=.cells #[.slice (some ad200) l0_0.length c0_0,.int .i64 a0_1,.int .i64 a0_2,.int .i64 a0_3] 29 (0,0)) (bd_ BK196.out)):gb196≠gb201));have n6_:=A0_ ((by rw [hg];exact Nat.ne_of_gt (blk_lt (g:=gb196) (o:=.cells #[.slice (some ad200) l0_0.length c0_0,.int .i64 a0_1,.int .i64 a0_2,.int .i64 a0_3] 29 (0,0)) (bd_ BK196.out)):gb201≠gb196));clear BK196;clear HB;have BK196:=n0_;have HB:=n1_;have BK201:=n2_;have GW201:=n3_;have GE201:=n4_;have NB196_201:=n5_;have NB201_196:=n6_;clear n0_ n1_ n2_ n3_ n4_ n5_ n6_;clear hb hbox hg;have hnb8:=NB201_196.out;have hnc8:=NB196_201.out;obtain ⟨hcz9_0,hcz9_1,hcz9_2,hcz9_3,hfz9_0,hfz9_1,hfz9_2,hfz9_3⟩:=bq4_ BK201.out))
     (try simp only [Act.put,List.setIfInBounds_toArray,List.set_cons_zero,List.set_cons_succ])
     go_cut [34] (fun v34 wc=>∃ (kq:Nat) (x34_4:Bool),v34=.bool x34_4∧Aside0 (tr_Sky.j1 kq x3_1 x34_4 l0_0 a0_1 a0_2 a0_3 ((rd_T74 l0_0 x3_1).f0.f0) ((rd_T74 l0_0 x3_1).f0.f1) ((rd_T74 l0_0 x3_1).f1) ((rd_T74 l0_0 x3_1).f2)=some r)∧Aside0 (kq≤k1)∧Aside0 (wc.heap[gb196]?=some (.cells #[(.slice (some ad200) l0_0.length c0_0),.int .i64 a0_1,.int .i64 a0_2,.int .i64 a0_3] 29 (0,0)))∧Aside0 (wc.heap[gb201]?=some (.cells #[.int .i64 ((rd_T74 l0_0 x3_1).f0.f0),.int .i64 ((rd_T74 l0_0 x3_1).f0.f1),.int .i64 ((rd_T74 l0_0 x3_1).f1),(.slice A200_3 ((rd_T74 l0_0 x3_1).f2).length c200_3)] 74 (0,0)))∧Aside0 (Below w.heap.size w wc))
     case first=>
      have H:=HC5.out
      clear HC5;replace H:=Option.bind_eq_some_iff.mp H;obtain ⟨t202,A100,H⟩:=H
      replace H:(if t202=true then ((tr_Spot.f ((rd_T74 l0_0 x3_1).f1)).bind fun t203=>(if t203=true then ((tr_in.f (((rd_T74 l0_0 x3_1).f2).length:Int) 1 8).bind fun t204=>(tr_Sky.j1 k1 x3_1 (!t204) l0_0 a0_1 a0_2 a0_3 ((rd_T74 l0_0 x3_1).f0.f0) ((rd_T74 l0_0 x3_1).f0.f1) ((rd_T74 l0_0 x3_1).f1) ((rd_T74 l0_0 x3_1).f2))) else (tr_Sky.j1 k1 x3_1 true l0_0 a0_1 a0_2 a0_3 ((rd_T74 l0_0 x3_1).f0.f0) ((rd_T74 l0_0 x3_1).f0.f1) ((rd_T74 l0_0 x3_1).f1) ((rd_T74 l0_0 x3_1).f2)))) else (tr_Sky.j1 k1 x3_1 true l0_0 a0_1 a0_2 a0_3 ((rd_T74 l0_0 x3_1).f0.f0) ((rd_T74 l0_0 x3_1).f0.f1) ((rd_T74 l0_0 x3_1).f1) ((rd_T74 l0_0 x3_1).f2)))=some r:=H
      have A10:=A0_ A100;clear A100
      by_cases c11:t202=true
      ·subst c11
       have H1:((tr_Spot.f ((rd_T74 l0_0 x3_1).f1)).bind fun t203=>(if t203=true then ((tr_in.f (((rd_T74 l0_0 x3_1).f2).length:Int) 1 8).bind fun t204=>(tr_Sky.j1 k1 x3_1 (!t204) l0_0 a0_1 a0_2 a0_3 ((rd_T74 l0_0 x3_1).f0.f0) ((rd_T74 l0_0 x3_1).f0.f1) ((rd_T74 l0_0 x3_1).f1) ((rd_T74 l0_0 x3_1).f2))) else (tr_Sky.j1 k1 x3_1 true l0_0 a0_1 a0_2 a0_3 ((rd_T74 l0_0 x3_1).f0.f0) ((rd_T74 l0_0 x3_1).f0.f1) ((rd_T74 l0_0 x3_1).f1) ((rd_T74 l0_0 x3_1).f2))))=some r:=by rw [if_pos rfl] at H;exact H
       clear H;have H:=H1;clear H1;replace H:=Option.bind_eq_some_iff.mp H;obtain ⟨t203,A120,H⟩:=H
       replace H:(if t203=true then ((tr_in.f (((rd_T74 l0_0 x3_1).f2).length:Int) 1 8).bind fun t204=>(tr_Sky.j1 k1 x3_1 (!t204) l0_0 a0_1 a0_2 a0_3 ((rd_T74 l0_0 x3_1).f0.f0) ((rd_T74 l0_0 x3_1).f0.f1) ((rd_T74 l0_0 x3_1).f1) ((rd_T74 l0_0 x3_1).f2))) else (tr_Sky.j1 k1 x3_1 true l0_0 a0_1 a0_2 a0_3 ((rd_T74 l0_0 x3_1).f0.f0) ((rd_T74 l0_0 x3_1).f0.f1) ((rd_T74 l0_0 x3_1).f1) ((rd_T74 l0_0 x3_1).f2)))=some r:=H
       have A12:=A0_ A120;clear A120
       by_cases c13:t203=true
       ·subst c13
        have H1:((tr_in.f (((rd_T74 l0_0 x3_1).f2).length:Int) 1 8).bind fun t204=>(tr_Sky.j1 k1 x3_1 (!t204) l0_0 a0_1 a0_2 a0_3 ((rd_T74 l0_0 x3_1).f0.f0) ((rd_T74 l0_0 x3_1).f0.f1) ((rd_T74 l0_0 x3_1).f1) ((rd_T74 l0_0 x3_1).f2)))=some r:=by rw [if_pos rfl] at H;exact H
        clear H;have H:=H1;clear H1;replace H:=Option.bind_eq_some_iff.mp H;obtain ⟨t204,A140,H⟩:=H
        replace H:(tr_Sky.j1 k1 x3_1 (!t204) l0_0 a0_1 a0_2 a0_3 ((rd_T74 l0_0 x3_1).f0.f0) ((rd_T74 l0_0 x3_1).f0.f1) ((rd_T74 l0_0 x3_1).f1) ((rd_T74 l0_0 x3_1).f2))=some r:=H
        have A14:=A0_ A140;clear A140
        have H':=A0_ H
        clear H
        have hnb15:=NB201_196.out
        have hnc15:=NB196_201.out
        obtain ⟨hcz16_0,hcz16_1,hcz16_2,hcz16_3,hfz16_0,hfz16_1,hfz16_2,hfz16_3⟩:=bq4_ BK201.out
        go_wp2_with (first|((with_reducible refine gate_callee (f:=65) rfl ?_);refine goesL_ (some 20) rfl rfl Tryz.func65 (by kernel_rfl) rfl #[.agg #[.int .i64 ((rd_T74 l0_0 x3_1).f0.f0),.int .i64 ((rd_T74 l0_0 x3_1).f0.f1)]] rfl y1_ ?_;(with_reducible refine (tr_period.calls ((rd_T74 l0_0 x3_1).f0.f0) ((rd_T74 l0_0 x3_1).f0.f1) true _ A10.out).mono ?_);rintro e w17 ⟨rfl,hb⟩;refine ⟨_,rfl,?_⟩;have n0_:=A0_ (blk_below (g:=gb196) (o:=.cells #[.slice (some ad200) l0_0.length c0_0,.int .i64 a0_1,.int .i64 a0_2,.int .i64 a0_3] 29 (0,0)) yz_ hb);have n1_:=A0_ (blk_below (g:=gb201) (o:=.cells #[.int .i64 ((rd_T74 l0_0 x3_1).f0.f0),.int .i64 ((rd_T74 l0_0 x3_1).f0.f1),.int .i64 ((rd_T74 l0_0 x3_1).f1),.slice A200_3 ((rd_T74 l0_0 x3_1).f2).length c200_3] 74 (0,0)) ye_ hb);have n2_:=A0_ (below_step yp_ hb);clear BK196;clear BK201;clear HB;have BK196:=n0_;have BK201:=n1_;have HB:=n2_;clear n0_ n1_ n2_;(try clear hb);(try clear hb2);(try clear hk);(try clear hi);obtain ⟨hcz18_0,hcz18_1,hcz18_2,hcz18_3,hfz18_0,hfz18_1,hfz18_2,hfz18_3⟩:=bq4_ BK201.out)|(go_at_call 26;(with_reducible refine (tr_Spot.calls ((rd_T74 l0_0 x3_1).f1) true _ A12.out).mono ?_);rintro e w' ⟨rfl,⟨nd,rfl⟩⟩)|(go_at_call 66;(with_reducible refine (tr_in.calls (((rd_T74 l0_0 x3_1).f2).length:Int) 1 8 t204 _ A14.out).mono ?_);rintro e w' ⟨rfl,⟨nd,rfl⟩⟩))
        go_meet
        case rel=>exact ⟨_,(!t204),y4_,H',⟨by have:=HK1.out;first|omega|exact Nat.le_refl _⟩,⟨by (with_reducible repeat (first|refine blk_drewN ?_ _|refine blk_drew ?_|refine blk_alloc ?_ _));exact BK196.out⟩,⟨by (with_reducible repeat (first|refine blk_drewN ?_ _|refine blk_drew ?_|refine blk_alloc ?_ _));exact BK201.out⟩,⟨yp_⟩⟩
       ·replace c13:=Bool.eq_false_iff.mpr c13;subst c13
        have H1:(tr_Sky.j1 k1 x3_1 true l0_0 a0_1 a0_2 a0_3 ((rd_T74 l0_0 x3_1).f0.f0) ((rd_T74 l0_0 x3_1).f0.f1) ((rd_T74 l0_0 x3_1).f1) ((rd_T74 l0_0 x3_1).f2))=some r:=by rw [if_neg (show ¬ (false=true) by decide)] at H;exact H
        clear H;have H:=H1;clear H1
        have H':=A0_ H
        clear H
        have hnb19:=NB201_196.out
        have hnc19:=NB196_201.out
        obtain ⟨hcz20_0,hcz20_1,hcz20_2,hcz20_3,hfz20_0,hfz20_1,hfz20_2,hfz20_3⟩:=bq4_ BK201.out
        go_wp2_with (first|((with_reducible refine gate_callee (f:=65) rfl ?_);refine goesL_ (some 20) rfl rfl Tryz.func65 (by kernel_rfl) rfl #[.agg #[.int .i64 ((rd_T74 l0_0 x3_1).f0.f0),.int .i64 ((rd_T74 l0_0 x3_1).f0.f1)]] rfl y1_ ?_;(with_reducible refine (tr_period.calls ((rd_T74 l0_0 x3_1).f0.f0) ((rd_T74 l0_0 x3_1).f0.f1) true _ A10.out).mono ?_);rintro e w21 ⟨rfl,hb⟩;refine ⟨_,rfl,?_⟩;have n0_:=A0_ (blk_below (g:=gb196) (o:=.cells #[.slice (some ad200) l0_0.length c0_0,.int .i64 a0_1,.int .i64 a0_2,.int .i64 a0_3] 29 (0,0)) yz_ hb);have n1_:=A0_ (blk_below (g:=gb201) (o:=.cells #[.int .i64 ((rd_T74 l0_0 x3_1).f0.f0),.int .i64 ((rd_T74 l0_0 x3_1).f0.f1),.int .i64 ((rd_T74 l0_0 x3_1).f1),.slice A200_3 ((rd_T74 l0_0 x3_1).f2).length c200_3] 74 (0,0)) ye_ hb);have n2_:=A0_ (below_step yp_ hb);clear BK196;clear BK201;clear HB;have BK196:=n0_;have BK201:=n1_;have HB:=n2_;clear n0_ n1_ n2_;(try clear hb);(try clear hb2);(try clear hk);(try clear hi);obtain ⟨hcz22_0,hcz22_1,hcz22_2,hcz22_3,hfz22_0,hfz22_1,hfz22_2,hfz22_3⟩:=bq4_ BK201.out)|(go_at_call 26;(with_reducible refine (tr_Spot.calls ((rd_T74 l0_0 x3_1).f1) false _ A12.out).mono ?_);rintro e w' ⟨rfl,⟨nd,rfl⟩⟩))
        go_meet
        case rel=>exact ⟨_,(true),y4_,H',⟨by have:=HK1.out;first|omega|exact Nat.le_refl _⟩,⟨by (with_reducible repeat (first|refine blk_drewN ?_ _|refine blk_drew ?_|refine blk_alloc ?_ _));exact BK196.out⟩,⟨by (with_reducible repeat (first|refine blk_drewN ?_ _|refine blk_drew ?_|refine blk_alloc ?_ _));exact BK201.out⟩,⟨yp_⟩⟩
      ·replace c11:=Bool.eq_false_iff.mpr c11;subst c11
       have H1:(tr_Sky.j1 k1 x3_1 true l0_0 a0_1 a0_2 a0_3 ((rd_T74 l0_0 x3_1).f0.f0) ((rd_T74 l0_0 x3_1).f0.f1) ((rd_T74 l0_0 x3_1).f1) ((rd_T74 l0_0 x3_1).f2))=some r:=by rw [if_neg (show ¬ (false=true) by decide)] at H;exact H
       clear H;have H:=H1;clear H1
       have H':=A0_ H
       clear H
       have hnb23:=NB201_196.out
       have hnc23:=NB196_201.out
       obtain ⟨hcz24_0,hcz24_1,hcz24_2,hcz24_3,hfz24_0,hfz24_1,hfz24_2,hfz24_3⟩:=bq4_ BK201.out
       go_wp2_with (first|((with_reducible refine gate_callee (f:=65) rfl ?_);refine goesL_ (some 20) rfl rfl Tryz.func65 (by kernel_rfl) rfl #[.agg #[.int .i64 ((rd_T74 l0_0 x3_1).f0.f0),.int .i64 ((rd_T74 l0_0 x3_1).f0.f1)]] rfl y1_ ?_;(with_reducible refine (tr_period.calls ((rd_T74 l0_0 x3_1).f0.f0) ((rd_T74 l0_0 x3_1).f0.f1) false _ A10.out).mono ?_);rintro e w25 ⟨rfl,hb⟩;refine ⟨_,rfl,?_⟩;have n0_:=A0_ (blk_below (g:=gb196) (o:=.cells #[.slice (some ad200) l0_0.length c0_0,.int .i64 a0_1,.int .i64 a0_2,.int .i64 a0_3] 29 (0,0)) yz_ hb);have n1_:=A0_ (blk_below (g:=gb201) (o:=.cells #[.int .i64 ((rd_T74 l0_0 x3_1).f0.f0),.int .i64 ((rd_T74 l0_0 x3_1).f0.f1),.int .i64 ((rd_T74 l0_0 x3_1).f1),.slice A200_3 ((rd_T74 l0_0 x3_1).f2).length c200_3] 74 (0,0)) ye_ hb);have n2_:=A0_ (below_step yp_ hb);clear BK196;clear BK201;clear HB;have BK196:=n0_;have BK201:=n1_;have HB:=n2_;clear n0_ n1_ n2_;(try clear hb);(try clear hb2);(try clear hk);(try clear hi)))
       go_meet
       case rel=>exact ⟨_,(true),y4_,H',⟨by have:=HK1.out;first|omega|exact Nat.le_refl _⟩,⟨by (with_reducible repeat (first|refine blk_drewN ?_ _|refine blk_drew ?_|refine blk_alloc ?_ _));exact BK196.out⟩,⟨by (with_reducible repeat (first|refine blk_drewN ?_ _|refine blk_drew ?_|refine blk_alloc ?_ _));exact BK201.out⟩,⟨yp_⟩⟩
     case rest=>
      clear HC5;(try clear c1);(try clear c2);(try clear p2);(try clear q2);(try clear hx2);(try clear c3);(try clear c3b0);(try clear c4);(try clear c4b0);(try clear c6);(try clear c8);(try clear c11);(try clear c13);(try clear c14);(try clear c15);(try clear c19);(try clear c20);(try clear p20);(try clear q20);(try clear hx20);(try clear c23);(try clear hcz16_0);(try clear hcz16_1);(try clear hcz16_2);(try clear hcz16_3);(try clear hcz18_0);(try clear hcz18_1);(try clear hcz18_2);(try clear hcz18_3);(try clear hcz20_0);(try clear hcz20_1);(try clear hcz20_2);(try clear hcz20_3);(try clear hcz22_0);(try clear hcz22_1);(try clear hcz22_2);(try clear hcz22_3);(try clear hcz24_0);(try clear hcz24_1);(try clear hcz24_2);(try clear hcz24_3);(try clear hcz6_0);(try clear hcz6_1);(try clear hcz6_2);(try clear hcz6_3);(try clear hcz9_0);(try clear hcz9_1);(try clear hcz9_2);(try clear hcz9_3);(try clear hfz16_0);(try clear hfz16_1);(try clear hfz16_2);(try clear hfz16_3);(try clear hfz18_0);(try clear hfz18_1);(try clear hfz18_2);(try clear hfz18_3);(try clear hfz20_0);(try clear hfz20_1);(try clear hfz20_2);(try clear hfz20_3);(try clear hfz22_0);(try clear hfz22_1);(try clear hfz22_2);(try clear hfz22_3);(try clear hfz24_0);(try clear hfz24_1);(try clear hfz24_2);(try clear hfz24_3);(try clear hfz6_0);(try clear hfz6_1);(try clear hfz6_2);(try clear hfz6_3);(try clear hfz9_0);(try clear hfz9_1);(try clear hfz9_2);(try clear hfz9_3);(try clear hx200_0);(try clear hx200_1);(try clear hx200_2);(try clear hx200_3);(try clear p2);(try clear p200);(try clear q200)
      obtain ⟨kq,x34_4,rfl,HA,HJ4,BK196,BK201,HB⟩:=hcut
      cases kq with
      |zero=>exact absurd HA.out (by simp [tr_Sky.j1])
      |succ kj4=>
       have H:=HA.out
       clear HA
       simp only [tr_Sky.j1] at H
       by_cases c26:x34_4=true
       ·subst c26
        have H1:(some false)=some r:=by rw [if_pos rfl] at H;exact H
        clear H;have H:=H1;clear H1;obtain rfl:=Option.some.inj H;go_wp2;go_ret
        exact ⟨y2_,yp_⟩
       ·replace c26:=Bool.eq_false_iff.mpr c26;subst c26
        have H1:(tr_Sky.l1 kj4 x3_1 0 l0_0 a0_1 a0_2 a0_3 ((rd_T74 l0_0 x3_1).f0.f0) ((rd_T74 l0_0 x3_1).f0.f1) ((rd_T74 l0_0 x3_1).f1) ((rd_T74 l0_0 x3_1).f2))=some r:=by rw [if_neg (show ¬ (false=true) by decide)] at H;exact H
        clear H;have H:=H1;clear H1
        have H':=A0_ H
        clear H;go_wp2
        go_loopg [5] kj4 (fun kq v5 w'=>∃ (x5_3:Int),v5=.int .i64 x5_3∧Aside0 (tr_Sky.l1 kq x3_1 x5_3 l0_0 a0_1 a0_2 a0_3 ((rd_T74 l0_0 x3_1).f0.f0) ((rd_T74 l0_0 x3_1).f0.f1) ((rd_T74 l0_0 x3_1).f1) ((rd_T74 l0_0 x3_1).f2)=some r)∧Aside0 (kq≤kj4)∧Aside0 (w'.heap[gb196]?=some (.cells #[(.slice (some ad200) l0_0.length c0_0),.int .i64 a0_1,.int .i64 a0_2,.int .i64 a0_3] 29 (0,0)))∧Aside0 (w'.heap[gb201]?=some (.cells #[.int .i64 ((rd_T74 l0_0 x3_1).f0.f0),.int .i64 ((rd_T74 l0_0 x3_1).f0.f1),.int .i64 ((rd_T74 l0_0 x3_1).f1),(.slice A200_3 ((rd_T74 l0_0 x3_1).f2).length c200_3)] 74 (0,0)))∧Aside0 (Below w.heap.size w w'))
        case atStart=>exact ⟨(0),y4_,H',⟨Nat.le_refl _⟩,⟨by (with_reducible repeat (first|refine blk_drewN ?_ _|refine blk_drew ?_|refine blk_alloc ?_ _));exact BK196.out⟩,⟨by (with_reducible repeat (first|refine blk_drewN ?_ _|refine blk_drew ?_|refine blk_alloc ?_ _));exact BK201.out⟩,⟨yp_⟩⟩
        case round=>
         clear H'
         (try clear c1);(try clear c2);(try clear p2);(try clear q2);(try clear hx2);(try clear c3);(try clear c3b0);(try clear c4);(try clear c4b0);(try clear c6);(try clear c8);(try clear c11);(try clear c13);(try clear c14);(try clear c15);(try clear c19);(try clear c20);(try clear p20);(try clear q20);(try clear hx20);(try clear c23);(try clear c26);(try clear hcz16_0);(try clear hcz16_1);(try clear hcz16_2);(try clear hcz16_3);(try clear hcz18_0);(try clear hcz18_1);(try clear hcz18_2);(try clear hcz18_3);(try clear hcz20_0);(try clear hcz20_1);(try clear hcz20_2);(try clear hcz20_3);(try clear hcz22_0);(try clear hcz22_1);(try clear hcz22_2);(try clear hcz22_3);(try clear hcz24_0);(try clear hcz24_1);(try clear hcz24_2);(try clear hcz24_3);(try clear hcz6_0);(try clear hcz6_1);(try clear hcz6_2);(try clear hcz6_3);(try clear hcz9_0);(try clear hcz9_1);(try clear hcz9_2);(try clear hcz9_3);(try clear hfz16_0);(try clear hfz16_1);(try clear hfz16_2);(try clear hfz16_3);(try clear hfz18_0);(try clear hfz18_1);(try clear hfz18_2);(try clear hfz18_3);(try clear hfz20_0);(try clear hfz20_1);(try clear hfz20_2);(try clear hfz20_3);(try clear hfz22_0);(try clear hfz22_1);(try clear hfz22_2);(try clear hfz22_3);(try clear hfz24_0);(try clear hfz24_1);(try clear hfz24_2);(try clear hfz24_3);(try clear hfz6_0);(try clear hfz6_1);(try clear hfz6_2);(try clear hfz6_3);(try clear hfz9_0);(try clear hfz9_1);(try clear hfz9_2);(try clear hfz9_3);(try clear hx200_0);(try clear hx200_1);(try clear hx200_2);(try clear hx200_3);(try clear p2);(try clear p20);(try clear p200);(try clear q2);(try clear q20);(try clear q200)
         obtain ⟨x5_3,rfl,HA,HK3,BK196,BK201,HB⟩:=hrel
         cases gk with
         |zero=>exact absurd HA.out (by simp [tr_Sky.l1])
         |succ k3=>
          have H:=HA.out
          clear HA
          simp only [tr_Sky.l1] at H
          by_cases c27:x5_3<(((rd_T74 l0_0 x3_1).f2).length:Int)
          ·rw [if_pos c27] at H;have c27b0:decide (x5_3<(((rd_T74 l0_0 x3_1).f2).length:Int))=true:=decide_eq_true c27;clear c27
           by_cases c28:0≤x5_3
           ·rw [if_pos c28] at H;have c28b0:decide (0≤x5_3)=true:=decide_eq_true c28;clear c28;replace H:=Option.bind_eq_some_iff.mp H;obtain ⟨t206,A290,H⟩:=H
            replace H:(if t206=true then (tr_Sky.l1 k3 x3_1 (wrap64 (x5_3+1)) l0_0 a0_1 a0_2 a0_3 ((rd_T74 l0_0 x3_1).f0.f0) ((rd_T74 l0_0 x3_1).f0.f1) ((rd_T74 l0_0 x3_1).f1) ((rd_T74 l0_0 x3_1).f2)) else (some false))=some r:=H
            have A29:=A0_ A290;clear A290
            by_cases c30:t206=true
            ·subst c30
             have H1:(tr_Sky.l1 k3 x3_1 (wrap64 (x5_3+1)) l0_0 a0_1 a0_2 a0_3 ((rd_T74 l0_0 x3_1).f0.f0) ((rd_T74 l0_0 x3_1).f0.f1) ((rd_T74 l0_0 x3_1).f1) ((rd_T74 l0_0 x3_1).f2))=some r:=by rw [if_pos rfl] at H;exact H
             clear H;have H:=H1;clear H1
             have H':=A0_ H
             clear H
             have hnb31:=NB201_196.out
             have hnc31:=NB196_201.out
             obtain ⟨hcz32_0,hcz32_1,hcz32_2,hcz32_3,hfz32_0,hfz32_1,hfz32_2,hfz32_3⟩:=bq4_ BK201.out
             have p205:0≤(x5_3:Int):=of_decide_eq_true y5_
             have q205:x5_3<(((rd_T74 l0_0 x3_1).f2).length:Int):=of_decide_eq_true y5_
             obtain ⟨ad205,e205,hx205_0⟩:=Kd.at_int HR200_3.out x5_3 p205 q205
             cases e205
             replace hx205_0:=(HB.out.cell (World.block_lt_of_cell? w _ hx205_0)).trans hx205_0
             replace p205:=eq_true p205
             replace q205:=eq_true q205
             go_wp2_with (first|((with_reducible refine gate_callee (f:=66) rfl ?_);refine goesL_ (some 47) rfl rfl Tryz.func66 (by kernel_rfl) rfl #[.int .i64 (rd ((rd_T74 l0_0 x3_1).f2) x5_3),.int .i64 (-600),.int .i64 600] rfl y1_ ?_;(with_reducible refine (tr_in.calls (rd ((rd_T74 l0_0 x3_1).f2) x5_3) (-600) 600 true _ A29.out).mono ?_);rintro e w' ⟨rfl,⟨nd,rfl⟩⟩;refine ⟨_,rfl,?_⟩))
             go_roundg k3
             case measure=>have:=HK1.out;have:=HJ4.out;have:=HK3.out;omega
             case rel=>exact ⟨(wrap64 (x5_3+1)),y4_,H',⟨by have:=HK1.out;have:=HJ4.out;have:=HK3.out;omega⟩,⟨by (with_reducible repeat (first|refine blk_drewN ?_ _|refine blk_drew ?_|refine blk_alloc ?_ _));exact BK196.out⟩,⟨by (with_reducible repeat (first|refine blk_drewN ?_ _|refine blk_drew ?_|refine blk_alloc ?_ _));exact BK201.out⟩,⟨yp_⟩⟩
            ·replace c30:=Bool.eq_false_iff.mpr c30;subst c30
             have H1:(some false)=some r:=by rw [if_neg (show ¬ (false=true) by decide)] at H;exact H
             clear H;have H:=H1;clear H1;obtain rfl:=Option.some.inj H
             have hnb33:=NB201_196.out
             have hnc33:=NB196_201.out
             obtain ⟨hcz34_0,hcz34_1,hcz34_2,hcz34_3,hfz34_0,hfz34_1,hfz34_2,hfz34_3⟩:=bq4_ BK201.out
             have p205:0≤(x5_3:Int):=of_decide_eq_true y5_
             have q205:x5_3<(((rd_T74 l0_0 x3_1).f2).length:Int):=of_decide_eq_true y5_
             obtain ⟨ad205,e205,hx205_0⟩:=Kd.at_int HR200_3.out x5_3 p205 q205
             cases e205
             replace hx205_0:=(HB.out.cell (World.block_lt_of_cell? w _ hx205_0)).trans hx205_0
             replace p205:=eq_true p205
             replace q205:=eq_true q205
             go_wp2_with (first|((with_reducible refine gate_callee (f:=66) rfl ?_);refine goesL_ (some 47) rfl rfl Tryz.func66 (by kernel_rfl) rfl #[.int .i64 (rd ((rd_T74 l0_0 x3_1).f2) x5_3),.int .i64 (-600),.int .i64 600] rfl y1_ ?_;(with_reducible refine (tr_in.calls (rd ((rd_T74 l0_0 x3_1).f2) x5_3) (-600) 600 false _ A29.out).mono ?_);rintro e w' ⟨rfl,⟨nd,rfl⟩⟩;refine ⟨_,rfl,?_⟩))
             go_ret
             exact ⟨y2_,yp_⟩
           ·rw [if_neg c28] at H;exact absurd H (by simp)
          ·rw [if_neg c27] at H;have c27b0:decide (x5_3<(((rd_T74 l0_0 x3_1).f2).length:Int))=false:=decide_eq_false c27;clear c27
           have H':=A0_ H
           clear H
           have hnb35:=NB201_196.out
           have hnc35:=NB196_201.out
           obtain ⟨hcz36_0,hcz36_1,hcz36_2,hcz36_3,hfz36_0,hfz36_1,hfz36_2,hfz36_3⟩:=bq4_ BK201.out;go_wp2
           go_roundg k3
           case measure=>have:=HK1.out;have:=HJ4.out;have:=HK3.out;omega
           case rel=>exact ⟨(wrap64 (x3_1+1)),y4_,H',⟨by have:=HK1.out;have:=HJ4.out;have:=HK3.out;omega⟩,⟨by (with_reducible repeat (first|refine blk_drewN ?_ _|refine blk_drew ?_|refine blk_alloc ?_ _));exact BK196.out⟩,⟨yp_⟩⟩
    ·rw [if_neg c4] at H;exact absurd H (by simp)
   ·rw [if_neg c3] at H;have c3b0:decide (x3_1<(l0_0.length:Int))=false:=decide_eq_false c3;clear c3;replace H:=Option.bind_eq_some_iff.mp H;obtain ⟨t197,A370,H⟩:=H
    replace H:(if t197=true then ((tr_period.f a0_1 a0_2).bind fun t198=>(if t198=true then ((tr_Spot.f a0_3).bind fun t199=>(some t199)) else (some false))) else (some false))=some r:=H
    have A37:=A0_ A370;clear A370
    by_cases c38:t197=true
    ·subst c38
     have H1:((tr_period.f a0_1 a0_2).bind fun t198=>(if t198=true then ((tr_Spot.f a0_3).bind fun t199=>(some t199)) else (some false)))=some r:=by rw [if_pos rfl] at H;exact H
     clear H;have H:=H1;clear H1;replace H:=Option.bind_eq_some_iff.mp H;obtain ⟨t198,A390,H⟩:=H
     replace H:(if t198=true then ((tr_Spot.f a0_3).bind fun t199=>(some t199)) else (some false))=some r:=H
     have A39:=A0_ A390;clear A390
     by_cases c40:t198=true
     ·subst c40
      have H1:((tr_Spot.f a0_3).bind fun t199=>(some t199))=some r:=by rw [if_pos rfl] at H;exact H
      clear H;have H:=H1;clear H1;replace H:=Option.bind_eq_some_iff.mp H;obtain ⟨t199,A410,H⟩:=H
      replace H:(some t199)=some r:=H
      have A41:=A0_ A410;clear A410;obtain rfl:=Option.some.inj H;obtain ⟨hcz42_0,hcz42_1,hcz42_2,hcz42_3,hfz42_0,hfz42_1,hfz42_2,hfz42_3⟩:=bq4_ BK196.out
      go_wp2_with (first|((with_reducible refine gate_callee (f:=66) rfl ?_);refine goesL_ (some 52) rfl rfl Tryz.func66 (by kernel_rfl) rfl #[.int .i64 (l0_0.length:Int),.int .i64 2,.int .i64 4] rfl y1_ ?_;(with_reducible refine (tr_in.calls (l0_0.length:Int) 2 4 true _ A37.out).mono ?_);rintro e w' ⟨rfl,⟨nd,rfl⟩⟩;refine ⟨_,rfl,?_⟩)|(go_at_call 65;(with_reducible refine (tr_period.calls a0_1 a0_2 true _ A39.out).mono ?_);rintro e w43 ⟨rfl,hb⟩;have n0_:=A0_ (blk_below (g:=gb196) (o:=.cells #[.slice A0_0 l0_0.length c0_0,.int .i64 a0_1,.int .i64 a0_2,.int .i64 a0_3] 29 (0,0)) (bd_ BK196.out) hb);have n1_:=A0_ (below_step y13_ hb);clear BK196;clear HB;have BK196:=n0_;have HB:=n1_;clear n0_ n1_;(try clear hb);(try clear hb2);(try clear hk);(try clear hi);obtain ⟨hcz44_0,hcz44_1,hcz44_2,hcz44_3,hfz44_0,hfz44_1,hfz44_2,hfz44_3⟩:=bq4_ BK196.out)|(go_at_call 26;(with_reducible refine (tr_Spot.calls a0_3 t199 _ A41.out).mono ?_);rintro e w' ⟨rfl,⟨nd,rfl⟩⟩))
      go_ret
      exact ⟨y2_,y13_⟩
     ·replace c40:=Bool.eq_false_iff.mpr c40;subst c40
      have H1:(some false)=some r:=by rw [if_neg (show ¬ (false=true) by decide)] at H;exact H
      clear H;have H:=H1;clear H1;obtain rfl:=Option.some.inj H;obtain ⟨hcz45_0,hcz45_1,hcz45_2,hcz45_3,hfz45_0,hfz45_1,hfz45_2,hfz45_3⟩:=bq4_ BK196.out
      go_wp2_with (first|((with_reducible refine gate_callee (f:=66) rfl ?_);refine goesL_ (some 52) rfl rfl Tryz.func66 (by kernel_rfl) rfl #[.int .i64 (l0_0.length:Int),.int .i64 2,.int .i64 4] rfl y1_ ?_;(with_reducible refine (tr_in.calls (l0_0.length:Int) 2 4 true _ A37.out).mono ?_);rintro e w' ⟨rfl,⟨nd,rfl⟩⟩;refine ⟨_,rfl,?_⟩)|(go_at_call 65;(with_reducible refine (tr_period.calls a0_1 a0_2 false _ A39.out).mono ?_);rintro e w46 ⟨rfl,hb⟩;have n0_:=A0_ (blk_below (g:=gb196) (o:=.cells #[.slice A0_0 l0_0.length c0_0,.int .i64 a0_1,.int .i64 a0_2,.int .i64 a0_3] 29 (0,0)) (bd_ BK196.out) hb);have n1_:=A0_ (below_step y13_ hb);clear BK196;clear HB;have BK196:=n0_;have HB:=n1_;clear n0_ n1_;(try clear hb);(try clear hb2);(try clear hk);(try clear hi)))
      go_ret
      exact ⟨y2_,y13_⟩
    ·replace c38:=Bool.eq_false_iff.mpr c38;subst c38
     have H1:(some false)=some r:=by rw [if_neg (show ¬ (false=true) by decide)] at H;exact H
     clear H;have H:=H1;clear H1;obtain rfl:=Option.some.inj H;obtain ⟨hcz47_0,hcz47_1,hcz47_2,hcz47_3,hfz47_0,hfz47_1,hfz47_2,hfz47_3⟩:=bq4_ BK196.out
     go_wp2_with (first|((with_reducible refine gate_callee (f:=66) rfl ?_);refine goesL_ (some 52) rfl rfl Tryz.func66 (by kernel_rfl) rfl #[.int .i64 (l0_0.length:Int),.int .i64 2,.int .i64 4] rfl y1_ ?_;(with_reducible refine (tr_in.calls (l0_0.length:Int) 2 4 false _ A37.out).mono ?_);rintro e w' ⟨rfl,⟨nd,rfl⟩⟩;refine ⟨_,rfl,?_⟩))
     go_ret
     exact ⟨y2_,y13_⟩
def sky_in.f (a0:Int) (a1:Int) (a2:Int):Option (Bool):=if a0 ≥ a1 then (some (decide (a0≤a2))) else (some false)
set_option maxHeartbeats 8000000 in
set_option maxRecDepth 100000 in
theorem sky_in.calls (a0:Int) (a1:Int) (a2:Int) (r:Bool) (w:World) (h:sky_in.f a0 a1 a2=some r):
  Calls Tryz.prog 104 #[.int .i64 a0,.int .i64 a1,.int .i64 a2] w fun e w'=>e=.returned (.bool r)∧Drawn0 w w':=by
 have H:(if a0 ≥ a1 then (some (decide (a0≤a2))) else (some false))=some r:=h
 clear h
 by_cases c4:a0 ≥ a1
 ·rw [if_pos c4] at H;have c4b0:decide (a1≤a0)=true:=decide_eq_true c4;clear c4;obtain rfl:=Option.some.inj H
  go_enter Tryz.func104,Tryz.ntmps104
  go_wp2;go_ret
  exact ⟨y4_,yb_⟩
 ·rw [if_neg c4] at H;have c4b0:decide (a1≤a0)=false:=decide_eq_false c4;clear c4;obtain rfl:=Option.some.inj H
  go_enter Tryz.func104,Tryz.ntmps104
  go_wp2;go_ret
  exact ⟨y4_,yb_⟩
def sky_isPeriod.f (a0_0:Int) (a0_1:Int):Option (Bool):=(sky_in.f a0_0 1 10000).bind fun t208=>(if t208=true then ((sky_in.f a0_1 1 10000).bind fun t209=>(if t209=true then (some (decide (a0_0 ≥ (wrap64 (4*a0_1))))) else (some false))) else (some false))
set_option maxHeartbeats 8000000 in
set_option maxRecDepth 100000 in
theorem sky_isPeriod.calls (a0_0:Int) (a0_1:Int) (r:Bool) (w:World) (h:sky_isPeriod.f a0_0 a0_1=some r):
  Calls Tryz.prog 117 #[.agg #[.int .i64 a0_0,.int .i64 a0_1]] w fun e w'=>e=.returned (.bool r)∧Below w.heap.size w w':=by
 have hu25:=Tryz.underlying25
 have HB:=A0_ (Below.refl w.heap.size w)
 have H:((sky_in.f a0_0 1 10000).bind fun t208=>(if t208=true then ((sky_in.f a0_1 1 10000).bind fun t209=>(if t209=true then (some (decide (a0_0 ≥ (wrap64 (4*a0_1))))) else (some false))) else (some false)))=some r:=h
 clear h;replace H:=Option.bind_eq_some_iff.mp H;obtain ⟨t208,A20,H⟩:=H
 replace H:(if t208=true then ((sky_in.f a0_1 1 10000).bind fun t209=>(if t209=true then (some (decide (a0_0 ≥ (wrap64 (4*a0_1))))) else (some false))) else (some false))=some r:=H
 have A2:=A0_ A20;clear A20
 by_cases c3:t208=true
 ·subst c3
  have H1:((sky_in.f a0_1 1 10000).bind fun t209=>(if t209=true then (some (decide (a0_0 ≥ (wrap64 (4*a0_1))))) else (some false)))=some r:=by rw [if_pos rfl] at H;exact H
  clear H;have H:=H1;clear H1;replace H:=Option.bind_eq_some_iff.mp H;obtain ⟨t209,A40,H⟩:=H
  replace H:(if t209=true then (some (decide (a0_0 ≥ (wrap64 (4*a0_1))))) else (some false))=some r:=H
  have A4:=A0_ A40;clear A40
  by_cases c5:t209=true
  ·subst c5
   have H1:(some (decide (a0_0 ≥ (wrap64 (4*a0_1)))))=some r:=by rw [if_pos rfl] at H;exact H
   clear H;have H:=H1;clear H1;obtain rfl:=Option.some.inj H
   go_enter Tryz.func117,Tryz.ntmps117
   go_wp2_with (first|((with_reducible refine gate_dst (N:=1) rfl ?_);refine box_event ?hg (N:=1) ?hd (cs:=#[.int .i64 a0_0,.int .i64 a0_1]) (t:=25) ?hr ?_;(case hd=>rfl);(case hg=>rfl);(case hr=>first|(go_simp;done)|(go_simp;rfl));intro gb207 hg w6 hbox hb;have n0_:=A0_ (below_step y0_ hb);have n1_:=A0_ (hbox);have n2_:=A0_ ((by rw [hg];exact (below_size y0_):w.heap.size≤gb207));have n3_:=A0_ ((by rw [hg];exact (below_size y0_):w.heap.size≤gb207));clear HB;have HB:=n0_;have BK207:=n1_;have GW207:=n2_;have GE207:=n3_;clear n0_ n1_ n2_ n3_;clear hb hbox hg;obtain ⟨hcz7_0,hcz7_1,hfz7_0,hfz7_1⟩:=bq2_ BK207.out)|((with_reducible refine gate_callee (f:=104) rfl ?_);refine goesL_ (some 5) rfl rfl Tryz.func104 (by kernel_rfl) rfl #[.int .i64 a0_0,.int .i64 1,.int .i64 10000] rfl y1_ ?_;(with_reducible refine (sky_in.calls a0_0 1 10000 true _ A2.out).mono ?_);rintro e w' ⟨rfl,⟨nd,rfl⟩⟩;refine ⟨_,rfl,?_⟩)|(go_at_call 104;(with_reducible refine (sky_in.calls a0_1 1 10000 true _ A4.out).mono ?_);rintro e w' ⟨rfl,⟨nd,rfl⟩⟩))
   go_ret
   exact ⟨y2_,y2x_⟩
  ·replace c5:=Bool.eq_false_iff.mpr c5;subst c5
   have H1:(some false)=some r:=by rw [if_neg (show ¬ (false=true) by decide)] at H;exact H
   clear H;have H:=H1;clear H1;obtain rfl:=Option.some.inj H
   go_enter Tryz.func117,Tryz.ntmps117
   go_wp2_with (first|((with_reducible refine gate_dst (N:=1) rfl ?_);refine box_event ?hg (N:=1) ?hd (cs:=#[.int .i64 a0_0,.int .i64 a0_1]) (t:=25) ?hr ?_;(case hd=>rfl);(case hg=>rfl);(case hr=>first|(go_simp;done)|(go_simp;rfl));intro gb207 hg w8 hbox hb;have n0_:=A0_ (below_step y0_ hb);have n1_:=A0_ (hbox);have n2_:=A0_ ((by rw [hg];exact (below_size y0_):w.heap.size≤gb207));have n3_:=A0_ ((by rw [hg];exact (below_size y0_):w.heap.size≤gb207));clear HB;have HB:=n0_;have BK207:=n1_;have GW207:=n2_;have GE207:=n3_;clear n0_ n1_ n2_ n3_;clear hb hbox hg;obtain ⟨hcz9_0,hcz9_1,hfz9_0,hfz9_1⟩:=bq2_ BK207.out)|((with_reducible refine gate_callee (f:=104) rfl ?_);refine goesL_ (some 5) rfl rfl Tryz.func104 (by kernel_rfl) rfl #[.int .i64 a0_0,.int .i64 1,.int .i64 10000] rfl y1_ ?_;(with_reducible refine (sky_in.calls a0_0 1 10000 true _ A2.out).mono ?_);rintro e w' ⟨rfl,⟨nd,rfl⟩⟩;refine ⟨_,rfl,?_⟩)|(go_at_call 104;(with_reducible refine (sky_in.calls a0_1 1 10000 false _ A4.out).mono ?_);rintro e w' ⟨rfl,⟨nd,rfl⟩⟩))
   go_ret
   exact ⟨y2_,y2x_⟩
 ·replace c3:=Bool.eq_false_iff.mpr c3;subst c3
  have H1:(some false)=some r:=by rw [if_neg (show ¬ (false=true) by decide)] at H;exact H
  clear H;have H:=H1;clear H1;obtain rfl:=Option.some.inj H
  go_enter Tryz.func117,Tryz.ntmps117
  go_wp2_with (first|((with_reducible refine gate_dst (N:=1) rfl ?_);refine box_event ?hg (N:=1) ?hd (cs:=#[.int .i64 a0_0,.int .i64 a0_1]) (t:=25) ?hr ?_;(case hd=>rfl);(case hg=>rfl);(case hr=>first|(go_simp;done)|(go_simp;rfl));intro gb207 hg w10 hbox hb;have n0_:=A0_ (below_step y0_ hb);have n1_:=A0_ (hbox);have n2_:=A0_ ((by rw [hg];exact (below_size y0_):w.heap.size≤gb207));have n3_:=A0_ ((by rw [hg];exact (below_size y0_):w.heap.size≤gb207));clear HB;have HB:=n0_;have BK207:=n1_;have GW207:=n2_;have GE207:=n3_;clear n0_ n1_ n2_ n3_;clear hb hbox hg;obtain ⟨hcz11_0,hcz11_1,hfz11_0,hfz11_1⟩:=bq2_ BK207.out)|((with_reducible refine gate_callee (f:=104) rfl ?_);refine goesL_ (some 5) rfl rfl Tryz.func104 (by kernel_rfl) rfl #[.int .i64 a0_0,.int .i64 1,.int .i64 10000] rfl y1_ ?_;(with_reducible refine (sky_in.calls a0_0 1 10000 false _ A2.out).mono ?_);rintro e w' ⟨rfl,⟨nd,rfl⟩⟩;refine ⟨_,rfl,?_⟩))
  go_ret
  exact ⟨y2_,y2x_⟩
def sky_isPlace.f (a0:Int):Option (Bool):=(sky_in.f a0 0 21599).bind fun t210=>(some t210)
set_option maxHeartbeats 8000000 in
set_option maxRecDepth 100000 in
theorem sky_isPlace.calls (a0:Int) (r:Bool) (w:World) (h:sky_isPlace.f a0=some r):
  Calls Tryz.prog 118 #[.int .i64 a0] w fun e w'=>e=.returned (.bool r)∧Drawn0 w w':=by
 have H:((sky_in.f a0 0 21599).bind fun t210=>(some t210))=some r:=h
 clear h;replace H:=Option.bind_eq_some_iff.mp H;obtain ⟨t210,A20,H⟩:=H
 replace H:(some t210)=some r:=H
 have A2:=A0_ A20;clear A20;obtain rfl:=Option.some.inj H
 go_enter Tryz.func118,Tryz.ntmps118
 go_wp2_with (first|((with_reducible refine gate_callee (f:=104) rfl ?_);refine goesL_ (some 4) rfl rfl Tryz.func104 (by kernel_rfl) rfl #[.int .i64 a0,.int .i64 0,.int .i64 21599] rfl y1_ ?_;(with_reducible refine (sky_in.calls a0 0 21599 t210 _ A2.out).mono ?_);rintro e w' ⟨rfl,⟨nd,rfl⟩⟩;refine ⟨_,rfl,?_⟩))
 go_ret
 exact ⟨y4_,yb_⟩
def sky_isSky_c1_c1.f (a0:Int):Option (Bool):=(sky_in.f a0 (-600) 600).bind fun t211=>(some (!t211))
set_option maxHeartbeats 8000000 in
set_option maxRecDepth 100000 in
theorem sky_isSky_c1_c1.calls (a0:Int) (r:Bool) (w:World) (h:sky_isSky_c1_c1.f a0=some r):
  Calls Tryz.prog 121 #[.int .i64 a0] w fun e w'=>e=.returned (.bool r)∧Drawn0 w w':=by
 have H:((sky_in.f a0 (-600) 600).bind fun t211=>(some (!t211)))=some r:=h
 clear h;replace H:=Option.bind_eq_some_iff.mp H;obtain ⟨t211,A20,H⟩:=H
 replace H:(some (!t211))=some r:=H
 have A2:=A0_ A20;clear A20;obtain rfl:=Option.some.inj H
 go_enter Tryz.func121,Tryz.ntmps121
 go_wp2_with (first|((with_reducible refine gate_callee (f:=104) rfl ?_);refine goesL_ (some 4) rfl rfl Tryz.func104 (by kernel_rfl) rfl #[.int .i64 a0,.int .i64 (-600),.int .i64 600] rfl y1_ ?_;(with_reducible refine (sky_in.calls a0 (-600) 600 t211 _ A2.out).mono ?_);rintro e w' ⟨rfl,⟨nd,rfl⟩⟩;refine ⟨_,rfl,?_⟩))
 go_ret
 exact ⟨y4_,yb_⟩
end Go.Proofs.YtjahbgldccjbfaaGreatDoor.PSky
end
