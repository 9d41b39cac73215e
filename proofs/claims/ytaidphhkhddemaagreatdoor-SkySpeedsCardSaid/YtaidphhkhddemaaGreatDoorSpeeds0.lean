/- A part of the proof of a law of the layer sky. -/
import Derived.ArgAppend
import Derived.Below
import Derived.BigQuiet
import Derived.ChangeSame
import Derived.Deep.AppendLies
import Derived.Deep.CutBlock
import Derived.Deep.DeepCutAuto
import Derived.Deep.DeepHandedRow
import Derived.Deep.Draws
import Derived.Deep.LoopGhost
import Derived.Deep.OwnRows
import Derived.Deep.QuietTactic
import Derived.Deep.RegionHeld3
import Derived.Deep.RegionLaw
import Derived.Deep.Slices
import Derived.Deep.Strs
import Derived.Defers
import Derived.KernelRfl
import Derived.LaidMore
import Derived.Laws.BitsLemmas
import Derived.Laws.BytesArg
import Derived.Laws.Entries
import Derived.Laws.IdiomCopy
import Derived.Laws.LoneSync
import Derived.Laws.MakeOwn
import Derived.Laws.NewBlocks
import Derived.Laws.OwnMore
import Derived.Laws.Pointers
import Derived.Laws.Rows
import Derived.Laws.Slices
import Derived.Laws.StructEq
import Derived.Lib.AppendStr
import Derived.Lib.ConvBytes
import Derived.Lib.LaidTab
import Derived.Lib.OthersKept
import Derived.Lib.SplitLaws
import Derived.LoopIn
import Derived.LoopN
import Derived.LoopNIn
import Derived.Maps.AppendAt
import Derived.Maps.Own
import Derived.Maps.OwnOps
import Derived.Maps.OwnSet
import Derived.Maps.Views
import Derived.OpenShut
import Derived.OrdersHeld
import Derived.Outline
import Derived.OwnWalk
import Derived.OwnWalkIn
import Derived.ProofKit
import Derived.RangeFuncBound
import Derived.RangeFuncBox
import Derived.RangeFuncCalls
import Derived.RangeFuncLeaves
import Derived.RangeFuncNested
import Derived.Recover
import Derived.RowKit
import Derived.RowKit3
import Derived.Scope
import Derived.SevenTiedAt
import Derived.Shelf.Abstract
import Derived.Shelf.LaysM
import Derived.Shelf.RegionOpen
import Derived.Shelf.Strconv.Itoa0
import Derived.Shelf.Strconv.Itoa1
import Derived.Shelf.Strconv.Itoa2
import Derived.Shelf.Strconv.Itoa3
import Derived.Shelf.Strings.Builder1
import Derived.Shelf.Strings.Builder2
import Derived.Shelf.Strings.Count
import Derived.Shelf.Strings.OnBuilder
import Derived.Shelf.Strings.Prefix
import Derived.Shelf.Strings.Search1
import Derived.Shelf.Strings.Search2
import Derived.Shelf.Strings.Search3
import Derived.Shelf.Strings.Shaped
import Derived.Shelf.Strings.Split
import Derived.Shelf.Unicode.DecodeSlow
import Derived.SizedLaws
import Derived.StillTactics
import Derived.Stop.Joined
import Derived.Stop.LaidErr
import Derived.Tactics
import Derived.TacticsInMore
import Derived.WalkKit
import Derived.WideLaws
import Derived.Test.YtaidphhkhddemaaGreatDoorZ6
section
namespace Go.Proofs.YtaidphhkhddemaaGreatDoor.PSky
open Go.RowKit Go.Proofs.YtaidphhkhddemaaGreatDoorW.PrintWords Go.Proofs.YtaidphhkhddemaaGreatDoorW.PrintLast Go.Proofs.YtaidphhkhddemaaGreatDoorW.PrintMore
attribute [local go_sem] max2_int min2_int max_two min_two max_three min_three max_four min_four
set_option linter.unusedVariables false
set_option linter.unusedSimpArgs false
def tr_down.f (a0:Int) (a1:Int):Option (Int):=if a1=0 then (none) else (if (wrap64 ((wrap64 (Int.tdiv a0 a1))*a1)) > a0 then (some (wrap64 ((wrap64 (Int.tdiv a0 a1)) - 1))) else (some (wrap64 (Int.tdiv a0 a1))))
set_option maxHeartbeats 8000000 in
set_option maxRecDepth 100000 in
theorem tr_down.calls (a0:Int) (a1:Int) (r:Int) (w:World) (h:tr_down.f a0 a1=some r):
  Calls Tryz.prog 83 #[.int .i64 a0,.int .i64 a1] w fun e w'=>e=.returned (.int .i64 r)∧Drawn0 w w':=by
 have H:(if a1=0 then (none) else (if (wrap64 ((wrap64 (Int.tdiv a0 a1))*a1)) > a0 then (some (wrap64 ((wrap64 (Int.tdiv a0 a1)) - 1))) else (some (wrap64 (Int.tdiv a0 a1)))))=some r:=h
 clear h
 by_cases c3:a1=0
 ·rw [if_pos c3] at H;exact absurd H (by simp)
 ·rw [if_neg c3] at H
  have c3b0:(a1 == 0)=false:=beq_eq_false_iff_ne.mpr c3
  have c3b1:(a1 != 0)=true:=bne_iff_ne.mpr c3
  by_cases c4:(wrap64 ((wrap64 (Int.tdiv a0 a1))*a1)) > a0
  ·rw [if_pos c4] at H;have c4b0:decide (a0<(wrap64 ((wrap64 (Int.tdiv a0 a1))*a1)))=true:=decide_eq_true c4;clear c4;obtain rfl:=Option.some.inj H
   go_enter Tryz.func83,Tryz.ntmps83
   go_wp2;go_ret
   exact ⟨y4_,yb_⟩
  ·rw [if_neg c4] at H;have c4b0:decide (a0<(wrap64 ((wrap64 (Int.tdiv a0 a1))*a1)))=false:=decide_eq_false c4;clear c4;obtain rfl:=Option.some.inj H
   go_enter Tryz.func83,Tryz.ntmps83
   go_wp2;go_ret
   exact ⟨y4_,yb_⟩
def tr_Less.f (a0:Int):Option (Int):=(tr_down.f a0 21600).bind fun t153=>(some (wrap64 (a0 - (wrap64 (t153*21600)))))
set_option maxHeartbeats 8000000 in
set_option maxRecDepth 100000 in
theorem tr_Less.calls (a0:Int) (r:Int) (w:World) (h:tr_Less.f a0=some r):
  Calls Tryz.prog 40 #[.int .i64 a0] w fun e w'=>e=.returned (.int .i64 r)∧Drawn0 w w':=by
 have H:((tr_down.f a0 21600).bind fun t153=>(some (wrap64 (a0 - (wrap64 (t153*21600))))))=some r:=h
 clear h;replace H:=Option.bind_eq_some_iff.mp H;obtain ⟨t153,A20,H⟩:=H
 replace H:(some (wrap64 (a0 - (wrap64 (t153*21600)))))=some r:=H
 have A2:=A0_ A20;clear A20;obtain rfl:=Option.some.inj H
 go_enter Tryz.func40,Tryz.ntmps40
 go_wp2_with (first|((with_reducible refine gate_callee (f:=83) rfl ?_);refine goesL_ (some 5) rfl rfl Tryz.func83 (by kernel_rfl) rfl #[.int .i64 a0,.int .i64 21600] rfl y1_ ?_;(with_reducible refine (tr_down.calls a0 21600 t153 _ A2.out).mono ?_);rintro e w' ⟨rfl,⟨nd,rfl⟩⟩;refine ⟨_,rfl,?_⟩))
 go_ret
 exact ⟨y4_,yb_⟩
end Go.Proofs.YtaidphhkhddemaaGreatDoor.PSky
end
section
namespace Go.Proofs.YtaidphhkhddemaaGreatDoor.PSky
open Go.RowKit Go.Proofs.YtaidphhkhddemaaGreatDoorW.PrintWords Go.Proofs.YtaidphhkhddemaaGreatDoorW.PrintLast Go.Proofs.YtaidphhkhddemaaGreatDoorW.PrintMore
attribute [local go_sem] max2_int min2_int max_two min_two max_three min_three max_four min_four
set_option linter.unusedVariables false
set_option linter.unusedSimpArgs false
def tr_Apart.f (a0:Int) (a1:Int):Option (Int):=(tr_Less.f (wrap64 (a0 - a1))).bind fun t324=>(some (mn t324 (wrap64 (21600 - t324))))
set_option maxHeartbeats 8000000 in
set_option maxRecDepth 100000 in
theorem tr_Apart.calls (a0:Int) (a1:Int) (r:Int) (w:World) (h:tr_Apart.f a0 a1=some r):
  Calls Tryz.prog 24 #[.int .i64 a0,.int .i64 a1] w fun e w'=>e=.returned (.int .i64 r)∧Below w.heap.size w w':=by
 have HB:=A0_ (Below.refl w.heap.size w)
 have H:((tr_Less.f (wrap64 (a0 - a1))).bind fun t324=>(some (mn t324 (wrap64 (21600 - t324)))))=some r:=h
 clear h;replace H:=Option.bind_eq_some_iff.mp H;obtain ⟨t324,A30,H⟩:=H
 replace H:(some (mn t324 (wrap64 (21600 - t324))))=some r:=H
 have A3:=A0_ A30;clear A30
 obtain ⟨ji4,hji4⟩:∃ j_:Int,(mn t324 (wrap64 (21600 - t324)))=j_:=⟨_,rfl⟩
 replace H:(some ji4)=some r:=by first|(rw [hji4] at H;exact H)|(simp only [hji4] at H ⊢;exact H)
 (try rw [hji4] at A3)
 have hji4_:(if (wrap64 (21600 - t324))<t324 then (wrap64 (21600 - t324)) else t324)=ji4:=hji4
 obtain rfl:=Option.some.inj H
 go_enter Tryz.func24,Tryz.ntmps24
 go_wp2_with (first|((with_reducible refine gate_callee (f:=40) rfl ?_);refine goesL_ (some 9) rfl rfl Tryz.func40 (by kernel_rfl) rfl #[.int .i64 (wrap64 (a0 - a1))] rfl y1_ ?_;(with_reducible refine (tr_Less.calls (wrap64 (a0 - a1)) t324 _ A3.out).mono ?_);rintro e w' ⟨rfl,⟨nd,rfl⟩⟩;refine ⟨_,rfl,?_⟩))
 go_ret
 exact ⟨by first|rfl|(simp [errW_none,errW_some] <;> rfl)|(simp only [← hji4];first|rfl|(simp [errW_none,errW_some] <;> rfl))|(simp [*,errW_none,errW_some] <;> rfl),y0_⟩
end Go.Proofs.YtaidphhkhddemaaGreatDoor.PSky
end
section
namespace Go.Proofs.YtaidphhkhddemaaGreatDoor.PSky
open Go.RowKit Go.Proofs.YtaidphhkhddemaaGreatDoorW.PrintWords Go.Proofs.YtaidphhkhddemaaGreatDoorW.PrintLast Go.Proofs.YtaidphhkhddemaaGreatDoorW.PrintMore
attribute [local go_sem] max2_int min2_int max_two min_two max_three min_three max_four min_four
set_option linter.unusedVariables false
set_option linter.unusedSimpArgs false
def tr_Day.f (a0:Int):Option (Bool):=(tr_in.f a0 0 20000).bind fun t369=>(some t369)
set_option maxHeartbeats 8000000 in
set_option maxRecDepth 100000 in
theorem tr_Day.calls (a0:Int) (r:Bool) (w:World) (h:tr_Day.f a0=some r):
  Calls Tryz.prog 37 #[.int .i64 a0] w fun e w'=>e=.returned (.bool r)∧Drawn0 w w':=by
 have H:((tr_in.f a0 0 20000).bind fun t369=>(some t369))=some r:=h
 clear h;replace H:=Option.bind_eq_some_iff.mp H;obtain ⟨t369,A20,H⟩:=H
 replace H:(some t369)=some r:=H
 have A2:=A0_ A20;clear A20;obtain rfl:=Option.some.inj H
 go_enter Tryz.func37,Tryz.ntmps37
 go_wp2_with (first|((with_reducible refine gate_callee (f:=56) rfl ?_);refine goesL_ (some 4) rfl rfl Tryz.func56 (by kernel_rfl) rfl #[.int .i64 a0,.int .i64 0,.int .i64 20000] rfl y1_ ?_;(with_reducible refine (tr_in.calls a0 0 20000 t369 _ A2.out).mono ?_);rintro e w' ⟨rfl,⟨nd,rfl⟩⟩;refine ⟨_,rfl,?_⟩))
 go_ret
 exact ⟨y4_,yb_⟩
end Go.Proofs.YtaidphhkhddemaaGreatDoor.PSky
end
section
namespace Go.Proofs.YtaidphhkhddemaaGreatDoor.PSky
open Go.RowKit Go.Proofs.YtaidphhkhddemaaGreatDoorW.PrintWords Go.Proofs.YtaidphhkhddemaaGreatDoorW.PrintLast Go.Proofs.YtaidphhkhddemaaGreatDoorW.PrintMore
attribute [local go_sem] max2_int min2_int max_two min_two max_three min_three max_four min_four
set_option linter.unusedVariables false
set_option linter.unusedSimpArgs false
def tl_few.f (l0:List (S89)):Option (Bool):=some (decide ((l0.length:Int)≤8))
set_option maxHeartbeats 8000000 in
set_option maxRecDepth 100000 in
theorem tl_few.calls (A0:Option Addr) (c0:Nat) (l0:List (S89)) (r:Bool) (w:World) (hr0:Kd.C k89 w A0 l0.length l0) (hc0:l0.length≤c0) (h:tl_few.f l0=some r):
  Calls Tryz.prog 27 #[.slice A0 l0.length c0] w fun e w'=>e=.returned (.bool r)∧Drawn0 w w':=by
 have HR0:=A0_ hr0;have HC0:=A0_ hc0;clear hr0 hc0
 have H:(some (decide ((l0.length:Int)≤8)))=some r:=h
 clear h;obtain rfl:=Option.some.inj H
 go_enter Tryz.func27,Tryz.ntmps27
 go_wp2;go_ret
 exact ⟨y4_,yb_⟩
def tr_Off.f (a0:Int):Option (Bool):=(tr_in.f a0 0 10800).bind fun t368=>(some t368)
set_option maxHeartbeats 8000000 in
set_option maxRecDepth 100000 in
theorem tr_Off.calls (a0:Int) (r:Bool) (w:World) (h:tr_Off.f a0=some r):
  Calls Tryz.prog 34 #[.int .i64 a0] w fun e w'=>e=.returned (.bool r)∧Drawn0 w w':=by
 have H:((tr_in.f a0 0 10800).bind fun t368=>(some t368))=some r:=h
 clear h;replace H:=Option.bind_eq_some_iff.mp H;obtain ⟨t368,A20,H⟩:=H
 replace H:(some t368)=some r:=H
 have A2:=A0_ A20;clear A20;obtain rfl:=Option.some.inj H
 go_enter Tryz.func34,Tryz.ntmps34
 go_wp2_with (first|((with_reducible refine gate_callee (f:=56) rfl ?_);refine goesL_ (some 4) rfl rfl Tryz.func56 (by kernel_rfl) rfl #[.int .i64 a0,.int .i64 0,.int .i64 10800] rfl y1_ ?_;(with_reducible refine (tr_in.calls a0 0 10800 t368 _ A2.out).mono ?_);rintro e w' ⟨rfl,⟨nd,rfl⟩⟩;refine ⟨_,rfl,?_⟩))
 go_ret
 exact ⟨y4_,yb_⟩
def tr_Notes.l0:Nat→List (S89)→Int→Option (Bool)
 |0,_,_=>none
 |k+1,x0,x3=>if x3<(x0.length:Int) then (if 0≤x3 then ((tr_Day.f ((rd_T89 x0 x3).f0)).bind fun t371=>(if t371=true then ((tr_Spot.f ((rd_T89 x0 x3).f1)).bind fun t373=>(if t373=true then ((tr_Off.f ((rd_T89 x0 x3).f2)).bind fun t375=>(if t375=true then (tr_Notes.l0 k x0 (wrap64 (x3+1))) else (some false))) else (some false))) else (some false))) else (none)) else (some (decide ((x0.length:Int)≤6)))
def tr_Notes.f (k:Nat) (l0:List (S89)):Option (Bool):=tr_Notes.l0 k l0 0
set_option maxHeartbeats 8000000 in
set_option maxRecDepth 100000 in
theorem tr_Notes.calls (k:Nat) (A0:Option Addr) (c0:Nat) (l0:List (S89)) (r:Bool) (w:World) (hr0:Kd.C k89 w A0 l0.length l0) (hc0:l0.length≤c0) (h:tr_Notes.f k l0=some r):
  Calls Tryz.prog 29 #[.slice A0 l0.length c0] w fun e w'=>e=.returned (.bool r)∧Drawn0 w w':=by
 have HR0:=A0_ hr0;have HC0:=A0_ hc0;clear hr0 hc0
 have H:(tr_Notes.l0 k l0 0)=some r:=h
 clear h
 have H':=A0_ H
 clear H
 go_enter Tryz.func29,Tryz.ntmps29
 go_wp2
 go_loopg [3] k (fun kq v3 w'=>∃ (x3_1:Int),v3=.int .i64 x3_1∧Aside0 (tr_Notes.l0 kq l0 x3_1=some r)∧Aside0 (kq≤k)∧Drawn0 w w')
 case atStart=>exact ⟨(0),y4_,H',⟨Nat.le_refl _⟩,yb_⟩
 case round=>
  clear H'
  obtain ⟨x3_1,rfl,HA,HK1,⟨m1,rfl⟩⟩:=hrel
  cases gk with
  |zero=>exact absurd HA.out (by simp [tr_Notes.l0])
  |succ k1=>
   have H:=HA.out
   clear HA
   simp only [tr_Notes.l0] at H
   by_cases c2:x3_1<(l0.length:Int)
   ·rw [if_pos c2] at H;have c2b0:decide (x3_1<(l0.length:Int))=true:=decide_eq_true c2;clear c2
    by_cases c3:0≤x3_1
    ·rw [if_pos c3] at H;have c3b0:decide (0≤x3_1)=true:=decide_eq_true c3;clear c3;replace H:=Option.bind_eq_some_iff.mp H;obtain ⟨t371,A40,H⟩:=H
     replace H:(if t371=true then ((tr_Spot.f ((rd_T89 l0 x3_1).f1)).bind fun t373=>(if t373=true then ((tr_Off.f ((rd_T89 l0 x3_1).f2)).bind fun t375=>(if t375=true then (tr_Notes.l0 k1 l0 (wrap64 (x3_1+1))) else (some false))) else (some false))) else (some false))=some r:=H
     have A4:=A0_ A40;clear A40
     by_cases c5:t371=true
     ·subst c5
      have H1:((tr_Spot.f ((rd_T89 l0 x3_1).f1)).bind fun t373=>(if t373=true then ((tr_Off.f ((rd_T89 l0 x3_1).f2)).bind fun t375=>(if t375=true then (tr_Notes.l0 k1 l0 (wrap64 (x3_1+1))) else (some false))) else (some false)))=some r:=by rw [if_pos rfl] at H;exact H
      clear H;have H:=H1;clear H1;replace H:=Option.bind_eq_some_iff.mp H;obtain ⟨t373,A60,H⟩:=H
      replace H:(if t373=true then ((tr_Off.f ((rd_T89 l0 x3_1).f2)).bind fun t375=>(if t375=true then (tr_Notes.l0 k1 l0 (wrap64 (x3_1+1))) else (some false))) else (some false))=some r:=H
      have A6:=A0_ A60;clear A60
      by_cases c7:t373=true
      ·subst c7
       have H1:((tr_Off.f ((rd_T89 l0 x3_1).f2)).bind fun t375=>(if t375=true then (tr_Notes.l0 k1 l0 (wrap64 (x3_1+1))) else (some false)))=some r:=by rw [if_pos rfl] at H;exact H
       clear H;have H:=H1;clear H1;replace H:=Option.bind_eq_some_iff.mp H;obtain ⟨t375,A80,H⟩:=H
       replace H:(if t375=true then (tr_Notes.l0 k1 l0 (wrap64 (x3_1+1))) else (some false))=some r:=H
       have A8:=A0_ A80;clear A80
       by_cases c9:t375=true
       ·subst c9
        have H1:(tr_Notes.l0 k1 l0 (wrap64 (x3_1+1)))=some r:=by rw [if_pos rfl] at H;exact H
        clear H;have H:=H1;clear H1
        have H':=A0_ H
        clear H
        have p370:0≤(x3_1:Int):=of_decide_eq_true y2_
        have q370:x3_1<(l0.length:Int):=of_decide_eq_true y2_
        obtain ⟨ad370,e370,hx370_0,hx370_1,hx370_2⟩:=at_T89 HR0.out x3_1 p370 q370
        cases e370
        replace p370:=eq_true p370
        replace q370:=eq_true q370
        go_wp2_with (first|((with_reducible refine gate_callee (f:=37) rfl ?_);refine goesL_ (some 15) rfl rfl Tryz.func37 (by kernel_rfl) rfl #[.int .i64 ((rd_T89 l0 x3_1).f0)] rfl y1_ ?_;(with_reducible refine (tr_Day.calls ((rd_T89 l0 x3_1).f0) true _ A4.out).mono ?_);rintro e w' ⟨rfl,⟨nd,rfl⟩⟩;refine ⟨_,rfl,?_⟩;have p372:0≤(x3_1:Int):=of_decide_eq_true y2_;have q372:x3_1<(l0.length:Int):=of_decide_eq_true y2_;obtain ⟨ad372,e372,hx372_0,hx372_1,hx372_2⟩:=at_T89 HR0.out x3_1 p372 q372;obtain rfl:ad370=ad372:=(by injection e372);replace p372:=eq_true p372;replace q372:=eq_true q372)|(go_at_call 23;(with_reducible refine (tr_Spot.calls ((rd_T89 l0 x3_1).f1) true _ A6.out).mono ?_);rintro e w' ⟨rfl,⟨nd,rfl⟩⟩;have p374:0≤(x3_1:Int):=of_decide_eq_true y2_;have q374:x3_1<(l0.length:Int):=of_decide_eq_true y2_;obtain ⟨ad374,e374,hx374_0,hx374_1,hx374_2⟩:=at_T89 HR0.out x3_1 p374 q374;obtain rfl:ad370=ad374:=(by injection e374);replace p374:=eq_true p374;replace q374:=eq_true q374)|(go_at_call 34;(with_reducible refine (tr_Off.calls ((rd_T89 l0 x3_1).f2) true _ A8.out).mono ?_);rintro e w' ⟨rfl,⟨nd,rfl⟩⟩))
        go_roundg k1
        case measure=>have:=HK1.out;omega
        case rel=>exact ⟨(wrap64 (x3_1+1)),y4_,H',⟨by have:=HK1.out;omega⟩,yb_⟩
       ·replace c9:=Bool.eq_false_iff.mpr c9;subst c9
        have H1:(some false)=some r:=by rw [if_neg (show ¬ (false=true) by decide)] at H;exact H
        clear H;have H:=H1;clear H1;obtain rfl:=Option.some.inj H
        have p370:0≤(x3_1:Int):=of_decide_eq_true y2_
        have q370:x3_1<(l0.length:Int):=of_decide_eq_true y2_
        obtain ⟨ad370,e370,hx370_0,hx370_1,hx370_2⟩:=at_T89 HR0.out x3_1 p370 q370
        cases e370
        replace p370:=eq_true p370
        replace q370:=eq_true q370
        go_wp2_with (first|((with_reducible refine gate_callee (f:=37) rfl ?_);refine goesL_ (some 15) rfl rfl Tryz.func37 (by kernel_rfl) rfl #[.int .i64 ((rd_T89 l0 x3_1).f0)] rfl y1_ ?_;(with_reducible refine (tr_Day.calls ((rd_T89 l0 x3_1).f0) true _ A4.out).mono ?_);rintro e w' ⟨rfl,⟨nd,rfl⟩⟩;refine ⟨_,rfl,?_⟩;have p372:0≤(x3_1:Int):=of_decide_eq_true y2_;have q372:x3_1<(l0.length:Int):=of_decide_eq_true y2_;obtain ⟨ad372,e372,hx372_0,hx372_1,hx372_2⟩:=at_T89 HR0.out x3_1 p372 q372;obtain rfl:ad370=ad372:=(by injection e372);replace p372:=eq_true p372;replace q372:=eq_true q372)|(go_at_call 23;(with_reducible refine (tr_Spot.calls ((rd_T89 l0 x3_1).f1) true _ A6.out).mono ?_);rintro e w' ⟨rfl,⟨nd,rfl⟩⟩;have p374:0≤(x3_1:Int):=of_decide_eq_true y2_;have q374:x3_1<(l0.length:Int):=of_decide_eq_true y2_;obtain ⟨ad374,e374,hx374_0,hx374_1,hx374_2⟩:=at_T89 HR0.out x3_1 p374 q374;obtain rfl:ad370=ad374:=(by injection e374);replace p374:=eq_true p374;replace q374:=eq_true q374)|(go_at_call 34;(with_reducible refine (tr_Off.calls ((rd_T89 l0 x3_1).f2) false _ A8.out).mono ?_);rintro e w' ⟨rfl,⟨nd,rfl⟩⟩))
        go_ret
        exact ⟨y4_,yb_⟩
      ·replace c7:=Bool.eq_false_iff.mpr c7;subst c7
       have H1:(some false)=some r:=by rw [if_neg (show ¬ (false=true) by decide)] at H;exact H
       clear H;have H:=H1;clear H1;obtain rfl:=Option.some.inj H
       have p370:0≤(x3_1:Int):=of_decide_eq_true y2_
       have q370:x3_1<(l0.length:Int):=of_decide_eq_true y2_
       obtain ⟨ad370,e370,hx370_0,hx370_1,hx370_2⟩:=at_T89 HR0.out x3_1 p370 q370
       cases e370
       replace p370:=eq_true p370
       replace q370:=eq_true q370
       go_wp2_with (first|((with_reducible refine gate_callee (f:=37) rfl ?_);refine goesL_ (some 15) rfl rfl Tryz.func37 (by kernel_rfl) rfl #[.int .i64 ((rd_T89 l0 x3_1).f0)] rfl y1_ ?_;(with_reducible refine (tr_Day.calls ((rd_T89 l0 x3_1).f0) true _ A4.out).mono ?_);rintro e w' ⟨rfl,⟨nd,rfl⟩⟩;refine ⟨_,rfl,?_⟩;have p372:0≤(x3_1:Int):=of_decide_eq_true y2_;have q372:x3_1<(l0.length:Int):=of_decide_eq_true y2_;obtain ⟨ad372,e372,hx372_0,hx372_1,hx372_2⟩:=at_T89 HR0.out x3_1 p372 q372;obtain rfl:ad370=ad372:=(by injection e372);replace p372:=eq_true p372;replace q372:=eq_true q372)|(go_at_call 23;(with_reducible refine (tr_Spot.calls ((rd_T89 l0 x3_1).f1) false _ A6.out).mono ?_);rintro e w' ⟨rfl,⟨nd,rfl⟩⟩))
       go_ret
       exact ⟨y4_,yb_⟩
     ·replace c5:=Bool.eq_false_iff.mpr c5;subst c5
      have H1:(some false)=some r:=by rw [if_neg (show ¬ (false=true) by decide)] at H;exact H
      clear H;have H:=H1;clear H1;obtain rfl:=Option.some.inj H
      have p370:0≤(x3_1:Int):=of_decide_eq_true y2_
      have q370:x3_1<(l0.length:Int):=of_decide_eq_true y2_
      obtain ⟨ad370,e370,hx370_0,hx370_1,hx370_2⟩:=at_T89 HR0.out x3_1 p370 q370
      cases e370
      replace p370:=eq_true p370
      replace q370:=eq_true q370
      go_wp2_with (first|((with_reducible refine gate_callee (f:=37) rfl ?_);refine goesL_ (some 15) rfl rfl Tryz.func37 (by kernel_rfl) rfl #[.int .i64 ((rd_T89 l0 x3_1).f0)] rfl y1_ ?_;(with_reducible refine (tr_Day.calls ((rd_T89 l0 x3_1).f0) false _ A4.out).mono ?_);rintro e w' ⟨rfl,⟨nd,rfl⟩⟩;refine ⟨_,rfl,?_⟩))
      go_ret
      exact ⟨y4_,yb_⟩
    ·rw [if_neg c3] at H;exact absurd H (by simp)
   ·rw [if_neg c2] at H;have c2b0:decide (x3_1<(l0.length:Int))=false:=decide_eq_false c2;clear c2;obtain rfl:=Option.some.inj H;go_wp2;go_ret
    exact ⟨y4_,yb_⟩
def tr_Range.f (a0:Int) (a1:Int):Option (Bool):=(tr_in.f a0 0 1000000).bind fun t376=>(if t376=true then ((tr_in.f a1 a0 1000000).bind fun t377=>(if t377=true then (some (decide ((wrap64 (a1 - a0))≤5000))) else (some false))) else (some false))
set_option maxHeartbeats 8000000 in
set_option maxRecDepth 100000 in
theorem tr_Range.calls (a0:Int) (a1:Int) (r:Bool) (w:World) (h:tr_Range.f a0 a1=some r):
  Calls Tryz.prog 30 #[.int .i64 a0,.int .i64 a1] w fun e w'=>e=.returned (.bool r)∧Drawn0 w w':=by
 have H:((tr_in.f a0 0 1000000).bind fun t376=>(if t376=true then ((tr_in.f a1 a0 1000000).bind fun t377=>(if t377=true then (some (decide ((wrap64 (a1 - a0))≤5000))) else (some false))) else (some false)))=some r:=h
 clear h;replace H:=Option.bind_eq_some_iff.mp H;obtain ⟨t376,A30,H⟩:=H
 replace H:(if t376=true then ((tr_in.f a1 a0 1000000).bind fun t377=>(if t377=true then (some (decide ((wrap64 (a1 - a0))≤5000))) else (some false))) else (some false))=some r:=H
 have A3:=A0_ A30;clear A30
 by_cases c4:t376=true
 ·subst c4
  have H1:((tr_in.f a1 a0 1000000).bind fun t377=>(if t377=true then (some (decide ((wrap64 (a1 - a0))≤5000))) else (some false)))=some r:=by rw [if_pos rfl] at H;exact H
  clear H;have H:=H1;clear H1;replace H:=Option.bind_eq_some_iff.mp H;obtain ⟨t377,A50,H⟩:=H
  replace H:(if t377=true then (some (decide ((wrap64 (a1 - a0))≤5000))) else (some false))=some r:=H
  have A5:=A0_ A50;clear A50
  by_cases c6:t377=true
  ·subst c6
   have H1:(some (decide ((wrap64 (a1 - a0))≤5000)))=some r:=by rw [if_pos rfl] at H;exact H
   clear H;have H:=H1;clear H1;obtain rfl:=Option.some.inj H
   go_enter Tryz.func30,Tryz.ntmps30
   go_wp2_with (first|((with_reducible refine gate_callee (f:=56) rfl ?_);refine goesL_ (some 6) rfl rfl Tryz.func56 (by kernel_rfl) rfl #[.int .i64 a0,.int .i64 0,.int .i64 1000000] rfl y1_ ?_;(with_reducible refine (tr_in.calls a0 0 1000000 true _ A3.out).mono ?_);rintro e w' ⟨rfl,⟨nd,rfl⟩⟩;refine ⟨_,rfl,?_⟩)|(go_at_call 56;(with_reducible refine (tr_in.calls a1 a0 1000000 true _ A5.out).mono ?_);rintro e w' ⟨rfl,⟨nd,rfl⟩⟩))
   go_ret
   exact ⟨y4_,yb_⟩
  ·replace c6:=Bool.eq_false_iff.mpr c6;subst c6
   have H1:(some false)=some r:=by rw [if_neg (show ¬ (false=true) by decide)] at H;exact H
   clear H;have H:=H1;clear H1;obtain rfl:=Option.some.inj H
   go_enter Tryz.func30,Tryz.ntmps30
   go_wp2_with (first|((with_reducible refine gate_callee (f:=56) rfl ?_);refine goesL_ (some 6) rfl rfl Tryz.func56 (by kernel_rfl) rfl #[.int .i64 a0,.int .i64 0,.int .i64 1000000] rfl y1_ ?_;(with_reducible refine (tr_in.calls a0 0 1000000 true _ A3.out).mono ?_);rintro e w' ⟨rfl,⟨nd,rfl⟩⟩;refine ⟨_,rfl,?_⟩)|(go_at_call 56;(with_reducible refine (tr_in.calls a1 a0 1000000 false _ A5.out).mono ?_);rintro e w' ⟨rfl,⟨nd,rfl⟩⟩))
   go_ret
   exact ⟨y4_,yb_⟩
 ·replace c4:=Bool.eq_false_iff.mpr c4;subst c4
  have H1:(some false)=some r:=by rw [if_neg (show ¬ (false=true) by decide)] at H;exact H
  clear H;have H:=H1;clear H1;obtain rfl:=Option.some.inj H
  go_enter Tryz.func30,Tryz.ntmps30
  go_wp2_with (first|((with_reducible refine gate_callee (f:=56) rfl ?_);refine goesL_ (some 6) rfl rfl Tryz.func56 (by kernel_rfl) rfl #[.int .i64 a0,.int .i64 0,.int .i64 1000000] rfl y1_ ?_;(with_reducible refine (tr_in.calls a0 0 1000000 false _ A3.out).mono ?_);rintro e w' ⟨rfl,⟨nd,rfl⟩⟩;refine ⟨_,rfl,?_⟩))
  go_ret
  exact ⟨y4_,yb_⟩
def tr_at.f (a0:Int) (a1:Int) (a2:Int):Option (Int):=(tr_Less.f (wrap64 (a0+(wrap64 (Int.tdiv (wrap64 (a1*a2)) 1000))))).bind fun t378=>(some t378)
set_option maxHeartbeats 8000000 in
set_option maxRecDepth 100000 in
theorem tr_at.calls (a0:Int) (a1:Int) (a2:Int) (r:Int) (w:World) (h:tr_at.f a0 a1 a2=some r):
  Calls Tryz.prog 115 #[.int .i64 a0,.int .i64 a1,.int .i64 a2] w fun e w'=>e=.returned (.int .i64 r)∧Drawn0 w w':=by
 have H:((tr_Less.f (wrap64 (a0+(wrap64 (Int.tdiv (wrap64 (a1*a2)) 1000))))).bind fun t378=>(some t378))=some r:=h
 clear h;replace H:=Option.bind_eq_some_iff.mp H;obtain ⟨t378,A40,H⟩:=H
 replace H:(some t378)=some r:=H
 have A4:=A0_ A40;clear A40;obtain rfl:=Option.some.inj H
 go_enter Tryz.func115,Tryz.ntmps115
 go_wp2_with (first|((with_reducible refine gate_callee (f:=40) rfl ?_);refine goesL_ (some 13) rfl rfl Tryz.func40 (by kernel_rfl) rfl #[.int .i64 (wrap64 (a0+(wrap64 (Int.tdiv (wrap64 (a1*a2)) 1000))))] rfl y1_ ?_;(with_reducible refine (tr_Less.calls (wrap64 (a0+(wrap64 (Int.tdiv (wrap64 (a1*a2)) 1000)))) t378 _ A4.out).mono ?_);rintro e w' ⟨rfl,⟨nd,rfl⟩⟩;refine ⟨_,rfl,?_⟩))
 go_ret
 exact ⟨y4_,yb_⟩
def tr_Agrees.l0:Nat→Int→List (S89)→Int→Int→Option (Bool)
 |0,_,_,_,_=>none
 |k+1,x0,x1,x2,x7=>if x7<(x1.length:Int) then (if 0≤x7 then ((tr_at.f x0 x2 ((rd_T89 x1 x7).f0)).bind fun t380=>((tr_Apart.f t380 ((rd_T89 x1 x7).f1)).bind fun t382=>(if t382 > ((rd_T89 x1 x7).f2) then (some false) else (tr_Agrees.l0 k x0 x1 x2 (wrap64 (x7+1)))))) else (none)) else (some true)
def tr_Agrees.f (k:Nat) (a0:Int) (l1:List (S89)) (a2:Int):Option (Bool):=tr_Agrees.l0 k a0 l1 a2 0
def tr_Agrees.T4:Bool × List (List Nat × List Nat):=(true,[([],[]),([],[]),([],[]),([],[]),([2,3],[2,3]),([4],[4]),([5],[5]),([0,1,6],[0,1,6]),([],[]),([],[]),([8,9],[8,9]),([10],[10]),([11],[11]),([7,12,7],[7,12]),([],[]),([],[]),([14,15],[14,15]),([16],[16]),([17],[17]),([13,18],[13,18])])
def tr_Agrees.B4:List Nat:=[0,0,0,0,12,28,60,127,0,0,768,1792,3840,8191,0,0,49152,114688,245760,524287]
theorem tr_Agrees.tab4:rtab .any (opsOf Tryz.f70 4)=tr_Agrees.T4:=by kernel_rfl
theorem tr_Agrees.bits4:waitsOk tr_Agrees.T4.2 tr_Agrees.B4=true:=by kernel_rfl
set_option maxHeartbeats 8000000 in
set_option maxRecDepth 100000 in
theorem tr_Agrees.calls (k:Nat) (a0:Int) (A1:Option Addr) (c1:Nat) (l1:List (S89)) (a2:Int) (r:Bool) (w:World) (hr1:Kd.C k89 w A1 l1.length l1) (hc1:l1.length≤c1) (h:tr_Agrees.f k a0 l1 a2=some r):
  Calls Tryz.prog 70 #[.int .i64 a0,.slice A1 l1.length c1,.int .i64 a2] w fun e w'=>e=.returned (.bool r)∧Below w.heap.size w w':=by
 have HR1:=A0_ hr1;have HC1:=A0_ hc1;clear hr1 hc1
 have HB:=A0_ (Below.refl w.heap.size w)
 have H:(tr_Agrees.l0 k a0 l1 a2 0)=some r:=h
 clear h
 have H':=A0_ H
 clear H
 go_enter Tryz.func70,Tryz.ntmps70
 go_wp2
 go_loopg [7] k (fun kq v7 w'=>∃ (x7_1:Int),v7=.int .i64 x7_1∧Aside0 (tr_Agrees.l0 kq a0 l1 a2 x7_1=some r)∧Aside0 (kq≤k)∧Aside0 (Below w.heap.size w w'))
 case atStart=>exact ⟨(0),y4_,H',⟨Nat.le_refl _⟩,⟨y0_⟩⟩
 case round=>
  clear H'
  (try clear c1);(try clear p2)
  obtain ⟨x7_1,rfl,HA,HK1,HB⟩:=hrel
  cases gk with
  |zero=>exact absurd HA.out (by simp [tr_Agrees.l0])
  |succ k1=>
   have H:=HA.out
   clear HA
   simp only [tr_Agrees.l0] at H
   by_cases c4:x7_1<(l1.length:Int)
   ·rw [if_pos c4] at H;have c4b0:decide (x7_1<(l1.length:Int))=true:=decide_eq_true c4;clear c4
    by_cases c5:0≤x7_1
    ·rw [if_pos c5] at H;have c5b0:decide (0≤x7_1)=true:=decide_eq_true c5;clear c5;replace H:=Option.bind_eq_some_iff.mp H;obtain ⟨t380,A60,H⟩:=H
     replace H:((tr_Apart.f t380 ((rd_T89 l1 x7_1).f1)).bind fun t382=>(if t382 > ((rd_T89 l1 x7_1).f2) then (some false) else (tr_Agrees.l0 k1 a0 l1 a2 (wrap64 (x7_1+1)))))=some r:=H
     have A6:=A0_ A60;clear A60;replace H:=Option.bind_eq_some_iff.mp H;obtain ⟨t382,A70,H⟩:=H
     replace H:(if t382 > ((rd_T89 l1 x7_1).f2) then (some false) else (tr_Agrees.l0 k1 a0 l1 a2 (wrap64 (x7_1+1))))=some r:=H
     have A7:=A0_ A70;clear A70
     by_cases c8:t382 > ((rd_T89 l1 x7_1).f2)
     ·rw [if_pos c8] at H;have c8b0:decide (((rd_T89 l1 x7_1).f2)<t382)=true:=decide_eq_true c8;clear c8;obtain rfl:=Option.some.inj H
      try go_wp2
      have n0_:=A0_ (below_drew1 HB.out);clear HB;have HB:=n0_;clear n0_
      have p379:0≤(x7_1:Int):=of_decide_eq_true y2_
      have q379:x7_1<(l1.length:Int):=of_decide_eq_true y2_
      obtain ⟨ad379,e379,hx379_0,hx379_1,hx379_2⟩:=at_T89 HR1.out x7_1 p379 q379
      have hw379_2:=hx379_2;have hw379_1:=hx379_1;have hw379_0:=hx379_0
      cases e379
      replace hx379_0:=(HB.out.cell (World.block_lt_of_cell? w _ hx379_0)).trans hx379_0
      replace hx379_1:=(HB.out.cell (World.block_lt_of_cell? w _ hx379_1)).trans hx379_1
      replace hx379_2:=(HB.out.cell (World.block_lt_of_cell? w _ hx379_2)).trans hx379_2
      replace p379:=eq_true p379
      replace q379:=eq_true q379
      have p381:0≤(x7_1:Int):=of_decide_eq_true y2_
      have q381:x7_1<(l1.length:Int):=of_decide_eq_true y2_
      obtain ⟨ad381,e381,hx381_0,hx381_1,hx381_2⟩:=at_T89 HR1.out x7_1 p381 q381
      have hw381_2:=hx381_2;have hw381_1:=hx381_1;have hw381_0:=hx381_0
      obtain rfl:ad379=ad381:=(by injection e381)
      replace hx381_0:=(HB.out.cell (World.block_lt_of_cell? w _ hx381_0)).trans hx381_0
      replace hx381_1:=(HB.out.cell (World.block_lt_of_cell? w _ hx381_1)).trans hx381_1
      replace hx381_2:=(HB.out.cell (World.block_lt_of_cell? w _ hx381_2)).trans hx381_2
      replace p381:=eq_true p381
      replace q381:=eq_true q381
      have p383:0≤(x7_1:Int):=of_decide_eq_true y2_
      have q383:x7_1<(l1.length:Int):=of_decide_eq_true y2_
      obtain ⟨ad383,e383,hx383_0,hx383_1,hx383_2⟩:=at_T89 HR1.out x7_1 p383 q383
      have hw383_2:=hx383_2;have hw383_1:=hx383_1;have hw383_0:=hx383_0
      obtain rfl:ad379=ad383:=(by injection e383)
      replace hx383_0:=(HB.out.cell (World.block_lt_of_cell? w _ hx383_0)).trans hx383_0
      replace hx383_1:=(HB.out.cell (World.block_lt_of_cell? w _ hx383_1)).trans hx383_1
      replace hx383_2:=(HB.out.cell (World.block_lt_of_cell? w _ hx383_2)).trans hx383_2
      replace p383:=eq_true p383
      replace q383:=eq_true q383
      refine start_ (n:=20) (S:=fun w'=>w'.cell? (ad379.add ((x7_1).toNat*3))=some (.int .i64 ((rd_T89 l1 x7_1).f0))∧w'.cell? ⟨(ad379.add ((x7_1).toNat*3)).block,(ad379.add ((x7_1).toNat*3)).off+1,none⟩=some (.int .i64 ((rd_T89 l1 x7_1).f1))∧w'.cell? ⟨(ad379.add ((x7_1).toNat*3)).block,(ad379.add ((x7_1).toNat*3)).off+2,none⟩=some (.int .i64 ((rd_T89 l1 x7_1).f2))∧w'.cell? (ad379.add ((x7_1).toNat*3))=some (.int .i64 ((rd_T89 l1 x7_1).f0))∧w'.cell? ⟨(ad379.add ((x7_1).toNat*3)).block,(ad379.add ((x7_1).toNat*3)).off+1,none⟩=some (.int .i64 ((rd_T89 l1 x7_1).f1))∧w'.cell? ⟨(ad379.add ((x7_1).toNat*3)).block,(ad379.add ((x7_1).toNat*3)).off+2,none⟩=some (.int .i64 ((rd_T89 l1 x7_1).f2))∧w'.cell? (ad379.add ((x7_1).toNat*3))=some (.int .i64 ((rd_T89 l1 x7_1).f0))∧w'.cell? ⟨(ad379.add ((x7_1).toNat*3)).block,(ad379.add ((x7_1).toNat*3)).off+1,none⟩=some (.int .i64 ((rd_T89 l1 x7_1).f1))∧w'.cell? ⟨(ad379.add ((x7_1).toNat*3)).block,(ad379.add ((x7_1).toNat*3)).off+2,none⟩=some (.int .i64 ((rd_T89 l1 x7_1).f2))) (ds:=[]) #[false,false,false,false,false,false,false,false,false,false,false,false,false,false,false,false,false,false,false,false] (by kernel_rfl) rfl rfl ⟨((HB.out.cell (World.block_lt_of_cell? w _ hw379_0)).trans hw379_0),((HB.out.cell (World.block_lt_of_cell? w _ hw379_1)).trans hw379_1),((HB.out.cell (World.block_lt_of_cell? w _ hw379_2)).trans hw379_2),((HB.out.cell (World.block_lt_of_cell? w _ hw381_0)).trans hw381_0),((HB.out.cell (World.block_lt_of_cell? w _ hw381_1)).trans hw381_1),((HB.out.cell (World.block_lt_of_cell? w _ hw381_2)).trans hw381_2),((HB.out.cell (World.block_lt_of_cell? w _ hw383_0)).trans hw383_0),((HB.out.cell (World.block_lt_of_cell? w _ hw383_1)).trans hw383_1),((HB.out.cell (World.block_lt_of_cell? w _ hw383_2)).trans hw383_2)⟩ (fun hHeld=>?_);refine with_tabW tr_Agrees.tab4 tr_Agrees.bits4 (fun HT_ HW_=>?_)
      generalize wr.drew=w9 at HB hx379_0 hx379_1 hx379_2 hx381_0 hx381_1 hx381_2 hx383_0 hx383_1 hx383_2 hHeld ⊢
      refine pu_ (i:=0) (N:=some 14) ?_;refine pu_ (i:=1) (N:=some 15) ?_;refine pu_ (i:=2) (N:=some 16) ?_;refine pu_ (i:=3) (N:=some 17) ?_;refine pu_ (i:=4) (N:=some 18) ?_;refine pu_ (i:=5) (N:=some 19) ?_;refine pu_ (i:=8) (N:=some 22) ?_;refine pu_ (i:=9) (N:=some 23) ?_;refine pu_ (i:=10) (N:=some 24) ?_;refine pu_ (i:=11) (N:=some 25) ?_;refine pu_ (i:=14) (N:=some 28) ?_;refine pu_ (i:=15) (N:=some 29) ?_;refine pu_ (i:=16) (N:=some 30) ?_;refine pu_ (i:=17) (N:=some 31) ?_;refine ta_ (i:=6) (N:=some 20) ?_;refine ta_ (i:=12) (N:=some 26) ?_;refine ta_ (i:=18) (N:=some 32) ?_
      refine one_ (i:=7) (N:=some 21) #[true,true,true,true,true,true,true,true,true,true,true,true,true,false,true,true,true,true,true,false] rfl rfl (one_of HT_.out (by kernel_rfl)) (by decide) (fun K hK=>?_)
      refine goes_ Tryz.func115 (by kernel_rfl) rfl #[.int .i64 a0,.int .i64 a2,.int .i64 ((rd_T89 l1 x7_1).f0)] (by rfl) rfl rfl y1_ ?_
      with_reducible refine (tr_at.calls a0 a2 ((rd_T89 l1 x7_1).f0) t380 _ A6.out).mono ?_
      rintro e w' ⟨rfl,⟨nd,rfl⟩⟩
      refine ⟨_,rfl,?_⟩
      refine hK.out _ _ ⟨((HB.out.cell (World.block_lt_of_cell? w _ hw379_0)).trans hw379_0),((HB.out.cell (World.block_lt_of_cell? w _ hw379_1)).trans hw379_1),((HB.out.cell (World.block_lt_of_cell? w _ hw379_2)).trans hw379_2),((HB.out.cell (World.block_lt_of_cell? w _ hw381_0)).trans hw381_0),((HB.out.cell (World.block_lt_of_cell? w _ hw381_1)).trans hw381_1),((HB.out.cell (World.block_lt_of_cell? w _ hw381_2)).trans hw381_2),((HB.out.cell (World.block_lt_of_cell? w _ hw383_0)).trans hw383_0),((HB.out.cell (World.block_lt_of_cell? w _ hw383_1)).trans hw383_1),((HB.out.cell (World.block_lt_of_cell? w _ hw383_2)).trans hw383_2)⟩ (fun hHeld=>?_)
      clear hK K
      refine norm_ (a':=?_) ?_ ?_
      rotate_left
      ·show Act.put _ (some 21) _=_
       simp only [Act.put,List.setIfInBounds_toArray,List.set_cons_zero,List.set_cons_succ,i64_w,i32_w]
       rfl
      refine one_ (i:=13) (N:=some 27) #[true,true,true,true,true,true,true,true,true,true,true,true,true,true,true,true,true,true,true,false] rfl rfl (one_of HT_.out (by kernel_rfl)) (by decide) (fun K hK=>?_)
      refine goes_ Tryz.func24 (by kernel_rfl) rfl #[.int .i64 t380,.int .i64 ((rd_T89 l1 x7_1).f1)] (by rfl) rfl rfl y1_ ?_
      with_reducible refine (tr_Apart.calls t380 ((rd_T89 l1 x7_1).f1) t382 _ A7.out).mono ?_
      rintro e w10 ⟨rfl,hb⟩
      refine ⟨_,rfl,?_⟩
      have n0_:=A0_ (below_step y0_ hb);clear HB;have HB:=n0_;clear n0_;(try clear hb);(try clear hb2);(try clear hk);(try clear hi)
      refine hK.out _ _ ⟨((HB.out.cell (World.block_lt_of_cell? w _ hw379_0)).trans hw379_0),((HB.out.cell (World.block_lt_of_cell? w _ hw379_1)).trans hw379_1),((HB.out.cell (World.block_lt_of_cell? w _ hw379_2)).trans hw379_2),((HB.out.cell (World.block_lt_of_cell? w _ hw381_0)).trans hw381_0),((HB.out.cell (World.block_lt_of_cell? w _ hw381_1)).trans hw381_1),((HB.out.cell (World.block_lt_of_cell? w _ hw381_2)).trans hw381_2),((HB.out.cell (World.block_lt_of_cell? w _ hw383_0)).trans hw383_0),((HB.out.cell (World.block_lt_of_cell? w _ hw383_1)).trans hw383_1),((HB.out.cell (World.block_lt_of_cell? w _ hw383_2)).trans hw383_2)⟩ (fun hHeld=>?_)
      clear hK K
      refine norm_ (a':=?_) ?_ ?_
      rotate_left
      ·show Act.put _ (some 27) _=_
       simp only [Act.put,List.setIfInBounds_toArray,List.set_cons_zero,List.set_cons_succ,i64_w,i32_w]
       rfl
      refine pu_ (i:=19) (N:=some 33) ?_
      refine done_ (done_of HT_.out (by kernel_rfl)) ?_
      try go_wp2
      go_ret
      exact ⟨y3_,y0_⟩
     ·rw [if_neg c8] at H;have c8b0:decide (((rd_T89 l1 x7_1).f2)<t382)=false:=decide_eq_false c8;clear c8
      have H':=A0_ H
      clear H
      try go_wp2
      have n0_:=A0_ (below_drew1 HB.out);clear HB;have HB:=n0_;clear n0_
      have p379:0≤(x7_1:Int):=of_decide_eq_true y2_
      have q379:x7_1<(l1.length:Int):=of_decide_eq_true y2_
      obtain ⟨ad379,e379,hx379_0,hx379_1,hx379_2⟩:=at_T89 HR1.out x7_1 p379 q379
      have hw379_2:=hx379_2;have hw379_1:=hx379_1;have hw379_0:=hx379_0
      cases e379
      replace hx379_0:=(HB.out.cell (World.block_lt_of_cell? w _ hx379_0)).trans hx379_0
      replace hx379_1:=(HB.out.cell (World.block_lt_of_cell? w _ hx379_1)).trans hx379_1
      replace hx379_2:=(HB.out.cell (World.block_lt_of_cell? w _ hx379_2)).trans hx379_2
      replace p379:=eq_true p379
      replace q379:=eq_true q379
      have p381:0≤(x7_1:Int):=of_decide_eq_true y2_
      have q381:x7_1<(l1.length:Int):=of_decide_eq_true y2_
      obtain ⟨ad381,e381,hx381_0,hx381_1,hx381_2⟩:=at_T89 HR1.out x7_1 p381 q381
      have hw381_2:=hx381_2;have hw381_1:=hx381_1;have hw381_0:=hx381_0
      obtain rfl:ad379=ad381:=(by injection e381)
      replace hx381_0:=(HB.out.cell (World.block_lt_of_cell? w _ hx381_0)).trans hx381_0
      replace hx381_1:=(HB.out.cell (World.block_lt_of_cell? w _ hx381_1)).trans hx381_1
      replace hx381_2:=(HB.out.cell (World.block_lt_of_cell? w _ hx381_2)).trans hx381_2
      replace p381:=eq_true p381
      replace q381:=eq_true q381
      have p383:0≤(x7_1:Int):=of_decide_eq_true y2_
      have q383:x7_1<(l1.length:Int):=of_decide_eq_true y2_
      obtain ⟨ad383,e383,hx383_0,hx383_1,hx383_2⟩:=at_T89 HR1.out x7_1 p383 q383
      have hw383_2:=hx383_2;have hw383_1:=hx383_1;have hw383_0:=hx383_0
      obtain rfl:ad379=ad383:=(by injection e383)
      replace hx383_0:=(HB.out.cell (World.block_lt_of_cell? w _ hx383_0)).trans hx383_0
      replace hx383_1:=(HB.out.cell (World.block_lt_of_cell? w _ hx383_1)).trans hx383_1
      replace hx383_2:=(HB.out.cell (World.block_lt_of_cell? w _ hx383_2)).trans hx383_2
      replace p383:=eq_true p383
      replace q383:=eq_true q383
      refine start_ (n:=20) (S:=fun w'=>w'.cell? (ad379.add ((x7_1).toNat*3))=some (.int .i64 ((rd_T89 l1 x7_1).f0))∧w'.cell? ⟨(ad379.add ((x7_1).toNat*3)).block,(ad379.add ((x7_1).toNat*3)).off+1,none⟩=some (.int .i64 ((rd_T89 l1 x7_1).f1))∧w'.cell? ⟨(ad379.add ((x7_1).toNat*3)).block,(ad379.add ((x7_1).toNat*3)).off+2,none⟩=some (.int .i64 ((rd_T89 l1 x7_1).f2))∧w'.cell? (ad379.add ((x7_1).toNat*3))=some (.int .i64 ((rd_T89 l1 x7_1).f0))∧w'.cell? ⟨(ad379.add ((x7_1).toNat*3)).block,(ad379.add ((x7_1).toNat*3)).off+1,none⟩=some (.int .i64 ((rd_T89 l1 x7_1).f1))∧w'.cell? ⟨(ad379.add ((x7_1).toNat*3)).block,(ad379.add ((x7_1).toNat*3)).off+2,none⟩=some (.int .i64 ((rd_T89 l1 x7_1).f2))∧w'.cell? (ad379.add ((x7_1).toNat*3))=some (.int .i64 ((rd_T89 l1 x7_1).f0))∧w'.cell? ⟨(ad379.add ((x7_1).toNat*3)).block,(ad379.add ((x7_1).toNat*3)).off+1,none⟩=some (.int .i64 ((rd_T89 l1 x7_1).f1))∧w'.cell? ⟨(ad379.add ((x7_1).toNat*3)).block,(ad379.add ((x7_1).toNat*3)).off+2,none⟩=some (.int .i64 ((rd_T89 l1 x7_1).f2))) (ds:=[]) #[false,false,false,false,false,false,false,false,false,false,false,false,false,false,false,false,false,false,false,false] (by kernel_rfl) rfl rfl ⟨((HB.out.cell (World.block_lt_of_cell? w _ hw379_0)).trans hw379_0),((HB.out.cell (World.block_lt_of_cell? w _ hw379_1)).trans hw379_1),((HB.out.cell (World.block_lt_of_cell? w _ hw379_2)).trans hw379_2),((HB.out.cell (World.block_lt_of_cell? w _ hw381_0)).trans hw381_0),((HB.out.cell (World.block_lt_of_cell? w _ hw381_1)).trans hw381_1),((HB.out.cell (World.block_lt_of_cell? w _ hw381_2)).trans hw381_2),((HB.out.cell (World.block_lt_of_cell? w _ hw383_0)).trans hw383_0),((HB.out.cell (World.block_lt_of_cell? w _ hw383_1)).trans hw383_1),((HB.out.cell (World.block_lt_of_cell? w _ hw383_2)).trans hw383_2)⟩ (fun hHeld=>?_);refine with_tabW tr_Agrees.tab4 tr_Agrees.bits4 (fun HT_ HW_=>?_)
      generalize wr.drew=w11 at HB hx379_0 hx379_1 hx379_2 hx381_0 hx381_1 hx381_2 hx383_0 hx383_1 hx383_2 hHeld ⊢
      refine pu_ (i:=0) (N:=some 14) ?_;refine pu_ (i:=1) (N:=some 15) ?_;refine pu_ (i:=2) (N:=some 16) ?_;refine pu_ (i:=3) (N:=some 17) ?_;refine pu_ (i:=4) (N:=some 18) ?_;refine pu_ (i:=5) (N:=some 19) ?_;refine pu_ (i:=8) (N:=some 22) ?_;refine pu_ (i:=9) (N:=some 23) ?_;refine pu_ (i:=10) (N:=some 24) ?_;refine pu_ (i:=11) (N:=some 25) ?_;refine pu_ (i:=14) (N:=some 28) ?_;refine pu_ (i:=15) (N:=some 29) ?_;refine pu_ (i:=16) (N:=some 30) ?_;refine pu_ (i:=17) (N:=some 31) ?_;refine ta_ (i:=6) (N:=some 20) ?_;refine ta_ (i:=12) (N:=some 26) ?_;refine ta_ (i:=18) (N:=some 32) ?_
      refine one_ (i:=7) (N:=some 21) #[true,true,true,true,true,true,true,true,true,true,true,true,true,false,true,true,true,true,true,false] rfl rfl (one_of HT_.out (by kernel_rfl)) (by decide) (fun K hK=>?_)
      refine goes_ Tryz.func115 (by kernel_rfl) rfl #[.int .i64 a0,.int .i64 a2,.int .i64 ((rd_T89 l1 x7_1).f0)] (by rfl) rfl rfl y1_ ?_
      with_reducible refine (tr_at.calls a0 a2 ((rd_T89 l1 x7_1).f0) t380 _ A6.out).mono ?_
      rintro e w' ⟨rfl,⟨nd,rfl⟩⟩
      refine ⟨_,rfl,?_⟩
      refine hK.out _ _ ⟨((HB.out.cell (World.block_lt_of_cell? w _ hw379_0)).trans hw379_0),((HB.out.cell (World.block_lt_of_cell? w _ hw379_1)).trans hw379_1),((HB.out.cell (World.block_lt_of_cell? w _ hw379_2)).trans hw379_2),((HB.out.cell (World.block_lt_of_cell? w _ hw381_0)).trans hw381_0),((HB.out.cell (World.block_lt_of_cell? w _ hw381_1)).trans hw381_1),((HB.out.cell (World.block_lt_of_cell? w _ hw381_2)).trans hw381_2),((HB.out.cell (World.block_lt_of_cell? w _ hw383_0)).trans hw383_0),((HB.out.cell (World.block_lt_of_cell? w _ hw383_1)).trans hw383_1),((HB.out.cell (World.block_lt_of_cell? w _ hw383_2)).trans hw383_2)⟩ (fun hHeld=>?_)
      clear hK K
      refine norm_ (a':=?_) ?_ ?_
      rotate_left
      ·show Act.put _ (some 21) _=_
       simp only [Act.put,List.setIfInBounds_toArray,List.set_cons_zero,List.set_cons_succ,i64_w,i32_w]
       rfl
      refine one_ (i:=13) (N:=some 27) #[true,true,true,true,true,true,true,true,true,true,true,true,true,true,true,true,true,true,true,false] rfl rfl (one_of HT_.out (by kernel_rfl)) (by decide) (fun K hK=>?_)
      refine goes_ Tryz.func24 (by kernel_rfl) rfl #[.int .i64 t380,.int .i64 ((rd_T89 l1 x7_1).f1)] (by rfl) rfl rfl y1_ ?_
      with_reducible refine (tr_Apart.calls t380 ((rd_T89 l1 x7_1).f1) t382 _ A7.out).mono ?_
      rintro e w12 ⟨rfl,hb⟩
      refine ⟨_,rfl,?_⟩
      have n0_:=A0_ (below_step y0_ hb);clear HB;have HB:=n0_;clear n0_;(try clear hb);(try clear hb2);(try clear hk);(try clear hi)
      refine hK.out _ _ ⟨((HB.out.cell (World.block_lt_of_cell? w _ hw379_0)).trans hw379_0),((HB.out.cell (World.block_lt_of_cell? w _ hw379_1)).trans hw379_1),((HB.out.cell (World.block_lt_of_cell? w _ hw379_2)).trans hw379_2),((HB.out.cell (World.block_lt_of_cell? w _ hw381_0)).trans hw381_0),((HB.out.cell (World.block_lt_of_cell? w _ hw381_1)).trans hw381_1),((HB.out.cell (World.block_lt_of_cell? w _ hw381_2)).trans hw381_2),((HB.out.cell (World.block_lt_of_cell? w _ hw383_0)).trans hw383_0),((HB.out.cell (World.block_lt_of_cell? w _ hw383_1)).trans hw383_1),((HB.out.cell (World.block_lt_of_cell? w _ hw383_2)).trans hw383_2)⟩ (fun hHeld=>?_)
      clear hK K
      refine norm_ (a':=?_) ?_ ?_
      rotate_left
      ·show Act.put _ (some 27) _=_
       simp only [Act.put,List.setIfInBounds_toArray,List.set_cons_zero,List.set_cons_succ,i64_w,i32_w]
       rfl
      refine pu_ (i:=19) (N:=some 33) ?_
      refine done_ (done_of HT_.out (by kernel_rfl)) ?_
      try go_wp2
      go_roundg k1
      case measure=>have:=HK1.out;omega
      case rel=>exact ⟨(wrap64 (x7_1+1)),y4_,H',⟨by have:=HK1.out;omega⟩,⟨y0_⟩⟩
    ·rw [if_neg c5] at H;exact absurd H (by simp)
   ·rw [if_neg c4] at H;have c4b0:decide (x7_1<(l1.length:Int))=false:=decide_eq_false c4;clear c4;obtain rfl:=Option.some.inj H;go_wp2;go_ret
    exact ⟨y3_,y0_⟩
end Go.Proofs.YtaidphhkhddemaaGreatDoor.PSky
end
section
namespace Go.Proofs.YtaidphhkhddemaaGreatDoor.PSky
open Go.RowKit Go.Proofs.YtaidphhkhddemaaGreatDoorW.PrintWords Go.Proofs.YtaidphhkhddemaaGreatDoorW.PrintLast Go.Proofs.YtaidphhkhddemaaGreatDoorW.PrintMore
attribute [local go_sem] max2_int min2_int max_two min_two max_three min_three max_four min_four
set_option linter.unusedVariables false
set_option linter.unusedSimpArgs false
def tr_Speeds.l0:Nat→Int→List (S89)→Int→List Int→Int→Option (List Int)
 |0,_,_,_,_,_=>none
 |k+1,x0,x1,x3,x9,x10=>if x10≤x3 then ((tr_Agrees.f k x0 x1 x10).bind fun t384=>(if t384=true then (if x9.length<17592186044416 then (tr_Speeds.l0 k x0 x1 x3 (x9 ++ [x10]) (wrap64 (x10+1))) else (none)) else (tr_Speeds.l0 k x0 x1 x3 x9 (wrap64 (x10+1))))) else (some x9)
def tr_Speeds.f (k:Nat) (a0:Int) (l1:List (S89)) (a2:Int) (a3:Int):Option (List Int):=tr_Speeds.l0 k a0 l1 a3 ([]:List Int) a2
set_option maxHeartbeats 8000000 in
set_option maxRecDepth 100000 in
theorem tr_Speeds.calls (k:Nat) (a0:Int) (A1:Option Addr) (c1:Nat) (l1:List (S89)) (a2:Int) (a3:Int) (r:List Int) (w:World) (hr1:Kd.C k89 w A1 l1.length l1) (hc1:l1.length≤c1) (h:tr_Speeds.f k a0 l1 a2 a3=some r):
  Calls Tryz.prog 31 #[.int .i64 a0,.slice A1 l1.length c1,.int .i64 a2,.int .i64 a3] w fun e w'=>∃ v0_:Value,e=.returned (v0_)∧Kd.R (Kd.int .i64) 3 w' w.heap.size (fun _=>True) v0_ r∧Below w.heap.size w w':=by
 have HR1:=A0_ hr1;have HC1:=A0_ hc1;clear hr1 hc1
 have HB:=A0_ (Below.refl w.heap.size w)
 have H:(tr_Speeds.l0 k a0 l1 a3 ([]:List Int) a2)=some r:=h
 clear h
 have H':=A0_ H
 clear H
 go_enter Tryz.func31,Tryz.ntmps31
 go_wp2
 go_loopg [9,10] k (fun kq v9 v10 w'=>∃ (x9_1:List Int) (x10_1:Int),v10=.int .i64 x10_1∧Aside0 (tr_Speeds.l0 kq a0 l1 a3 x9_1 x10_1=some r)∧Aside0 (kq≤k)∧Aside0 (Kd.R (Kd.int .i64) 3 w' w.heap.size (fun _=>True) v9 x9_1)∧Aside0 (Below w.heap.size w w'))
 case atStart=>exact ⟨(([]:List Int)),(a2),y4_,H',⟨Nat.le_refl _⟩,⟨by first|exact Kd.R_nil _ _ _ _ _|exact Kd.N_nil _ _ _ _ _|exact Kd.V_nil _ _ _ _ _|exact Kd.Q_nil _ _ _ _ _|exact Kd.S_nil _ _ _ _ _⟩,⟨y0_⟩⟩
 case round=>
  clear H'
  (try clear c1);(try clear p2);(try clear c3)
  obtain ⟨x9_1,x10_1,rfl,HA,HK1,HO_9,HB⟩:=hrel
  cases gk with
  |zero=>exact absurd HA.out (by simp [tr_Speeds.l0])
  |succ k1=>
   have H:=HA.out
   clear HA
   simp only [tr_Speeds.l0] at H
   by_cases c5:x10_1≤a3
   ·rw [if_pos c5] at H;have c5b0:decide (x10_1≤a3)=true:=decide_eq_true c5;clear c5;replace H:=Option.bind_eq_some_iff.mp H;obtain ⟨t384,A60,H⟩:=H
    replace H:(if t384=true then (if x9_1.length<17592186044416 then (tr_Speeds.l0 k1 a0 l1 a3 (x9_1 ++ [x10_1]) (wrap64 (x10_1+1))) else (none)) else (tr_Speeds.l0 k1 a0 l1 a3 x9_1 (wrap64 (x10_1+1))))=some r:=H
    have A6:=A0_ A60;clear A60
    by_cases c7:t384=true
    ·subst c7
     have H1:(if x9_1.length<17592186044416 then (tr_Speeds.l0 k1 a0 l1 a3 (x9_1 ++ [x10_1]) (wrap64 (x10_1+1))) else (none))=some r:=by rw [if_pos rfl] at H;exact H
     clear H;have H:=H1;clear H1
     by_cases c8:x9_1.length<17592186044416
     ·rw [if_pos c8] at H;have LMc8:=A0_ c8;clear c8
      obtain ⟨y385,hy385⟩:∃ y_:List Int,y_=(x9_1 ++ [x10_1]):=⟨_,rfl⟩
      replace H:(tr_Speeds.l0 k1 a0 l1 a3 y385 (wrap64 (x10_1+1)))=some r:=by first|(rw [hy385];with_reducible exact H)|(have H2_:=(Option.bind_some _ _).symm.trans H;rw [hy385];with_reducible exact H2_)|(have H2_:=(Option.bind_some _ _).symm.trans H;with_reducible exact H2_)|with_reducible exact H|(rw [hy385];exact H)|exact H
      have Ny385:=A0_ hy385;clear hy385
      have H':=A0_ H
      clear H
      go_wp2_with (first|((with_reducible refine gate_callee (f:=70) rfl ?_);refine goesL_ (some 20) rfl rfl Tryz.func70 (by kernel_rfl) rfl #[.int .i64 a0,.slice A1 l1.length c1,.int .i64 x10_1] rfl y1_ ?_;(with_reducible refine (tr_Agrees.calls k1 a0 _ _ l1 x10_1 true _ ?side1 ?side2 A6.out).mono ?_);(case side1=>repeat (first|exact (Kd.C_below HR1.out HB.out)|(with_reducible refine Kd.C_alloc ?_ _)|(with_reducible refine Kd.C_drewN ?_ _)|(with_reducible refine Kd.C_drew ?_)));(case side2=>exact HC1.out);rintro e w9 ⟨rfl,hb⟩;refine ⟨_,rfl,?_⟩;have n0_:=A0_ (Kd.R_below (rd_ HO_9.out) hb);have n1_:=A0_ (below_step y0_ hb);clear HO_9;clear HB;have HO_9:=n0_;have HB:=n1_;clear n0_ n1_;(try clear hb);(try clear hb2);(try clear hk);(try clear hi))|((with_reducible refine gate_builtin (b:=.append) (xs:=#[.tmp 21,.tmp 23]) rfl ?_);at_builtin;refine Kd.R_append (Kd.int .i64) (w0:=w) w.heap.size rfl (.tmp 21) (.tmp 23) 63 3 (.int .i64 0) 8 rfl Tryz.underlying63 info3 rfl (by decide) (by omega) u9 x9_1 x10_1 [.int .i64 x10_1] (fun _=>True) (fun _=>False) rfl rfl ?aP (fun _ hk=>hk.elim) ?aF ?aO ?aB ?aS ?aL ?_;(case aP=>exact rfl);(case aB=>exact y0_);(case aF=>exact (fun _ _=>trivial));(case aO=>exact (rd_ HO_9.out));(case aS=>exact (below_size y0_));(case aL=>have:=LMc8.out;omega);intro v386 w10 ho hb hg hat;rw [← Ny385.out] at ho;have n0_:=A0_ (hb);have n1_:=A0_ (ho);clear HB;clear HO_9;have HB:=n0_;have HO387:=n1_;clear n0_ n1_;clear ho hb hg hat))
      go_roundg k1
      case measure=>have:=HK1.out;omega
      case rel=>exact ⟨(y385),(wrap64 (x10_1+1)),y4_,H',⟨by have:=HK1.out;omega⟩,⟨by (with_reducible repeat (first|apply Kd.R_alloc|apply Kd.R_drewN|apply Kd.R_drew));exact HO387.out⟩,⟨y0_⟩⟩
     ·rw [if_neg c8] at H;exact absurd H (by simp)
    ·replace c7:=Bool.eq_false_iff.mpr c7;subst c7
     have H1:(tr_Speeds.l0 k1 a0 l1 a3 x9_1 (wrap64 (x10_1+1)))=some r:=by rw [if_neg (show ¬ (false=true) by decide)] at H;exact H
     clear H;have H:=H1;clear H1
     have H':=A0_ H
     clear H
     go_wp2_with (first|((with_reducible refine gate_callee (f:=70) rfl ?_);refine goesL_ (some 20) rfl rfl Tryz.func70 (by kernel_rfl) rfl #[.int .i64 a0,.slice A1 l1.length c1,.int .i64 x10_1] rfl y1_ ?_;(with_reducible refine (tr_Agrees.calls k1 a0 _ _ l1 x10_1 false _ ?side1 ?side2 A6.out).mono ?_);(case side1=>repeat (first|exact (Kd.C_below HR1.out HB.out)|(with_reducible refine Kd.C_alloc ?_ _)|(with_reducible refine Kd.C_drewN ?_ _)|(with_reducible refine Kd.C_drew ?_)));(case side2=>exact HC1.out);rintro e w11 ⟨rfl,hb⟩;refine ⟨_,rfl,?_⟩;have n0_:=A0_ (Kd.R_below (rd_ HO_9.out) hb);have n1_:=A0_ (below_step y0_ hb);clear HO_9;clear HB;have HO_9:=n0_;have HB:=n1_;clear n0_ n1_;(try clear hb);(try clear hb2);(try clear hk);(try clear hi)))
     go_roundg k1
     case measure=>have:=HK1.out;omega
     case rel=>exact ⟨(x9_1),(wrap64 (x10_1+1)),y4_,H',⟨by have:=HK1.out;omega⟩,⟨by (with_reducible repeat (first|apply Kd.R_alloc|apply Kd.R_drewN|apply Kd.R_drew));exact HO_9.out⟩,⟨y0_⟩⟩
   ·rw [if_neg c5] at H;have c5b0:decide (x10_1≤a3)=false:=decide_eq_false c5;clear c5;obtain rfl:=Option.some.inj H;go_wp2;go_ret
    exact ⟨_,y3_,by (with_reducible repeat (first|apply Kd.R_alloc|apply Kd.R_drewN|apply Kd.R_drew));exact HO_9.out,y0_⟩
end Go.Proofs.YtaidphhkhddemaaGreatDoor.PSky
end
section
namespace Go.Proofs.YtaidphhkhddemaaGreatDoor.PSky
open Go.RowKit Go.Proofs.YtaidphhkhddemaaGreatDoorW.PrintWords Go.Proofs.YtaidphhkhddemaaGreatDoorW.PrintLast Go.Proofs.YtaidphhkhddemaaGreatDoorW.PrintMore
theorem Ev.pos {α:Type} {c:Prop} [Decidable c] {f g:Nat→Option α} {r:α} (h:c) (k:Ev f r):Ev (fun n=>if c then f n else g n) r:=by simpa only [if_pos h] using k
theorem Ev.neg {α:Type} {c:Prop} [Decidable c] {f g:Nat→Option α} {r:α} (h:¬ c) (k:Ev g r):Ev (fun n=>if c then f n else g n) r:=by simpa only [if_neg h] using k
theorem Ev.some {α:Type} (r:α):Ev (fun _=>Option.some r) r:=Ev.now r
theorem Ev.is {α:Type} {o:Option α} {r:α} (h:o=Option.some r):Ev (fun _=>o) r:=by rw [h];exact Ev.now r
theorem wrap_id {n:Int} (h:-9223372036854775808≤n∧n≤9223372036854775807):wrap64 n=n:=by unfold wrap64;omega
theorem scan {β:Type} (l:List β) (bad:β→Bool) (g:Nat→Nat→Option Int) (hlen:l.length≤1000000)
  (hyes:∀ i (h:i<l.length),bad l[i]=true→Ev (fun k=>g k i) (i:Int))
  (hno:∀ i (h:i<l.length),bad l[i]=false→∀ r,Ev (fun k=>g k (i+1)) r→Ev (fun k=>g k i) r)
  (hend:Ev (fun k=>g k l.length) (-1)):∀ m i,i+m=l.length→∃ r,Ev (fun k=>g k i) r∧decide (r ≥ 0)=(l.drop i).any bad
 |0,i,h=>⟨-1,by rw [show i=l.length by omega];exact hend,by rw [show i=l.length by omega,List.drop_length];rfl⟩
 |m+1,i,h=>by
  have hi:i<l.length:=by omega
  rw [List.drop_eq_getElem_cons hi,List.any_cons]
  cases hb:bad l[i] with
  |true=>exact ⟨i,hyes i hi hb,by simp⟩
  |false=>
   obtain ⟨r,hr,he⟩:=scan l bad g hlen hyes hno hend m (i+1) (by omega)
   exact ⟨r,hno i hi hb r hr,by simpa using he⟩
def okIn (a b c:Int):Bool:=decide (b≤a) && decide (a≤c)
theorem in_eq (a b c:Int):sky_in.f a b c=some (okIn a b c):=by
 unfold sky_in.f okIn
 by_cases h:a ≥ b
 ·rw [if_pos h,decide_eq_true (show b≤a from h),Bool.true_and]
 ·rw [if_neg h,decide_eq_false (show ¬ b≤a from h),Bool.false_and]
theorem rin_eq (a b c:Int):tr_in.f a b c=some (okIn a b c):=in_eq a b c
def okPlace (n:Int):Bool:=okIn n 0 21599
theorem isPlace_eq (n:Int):sky_isPlace.f n=some (okPlace n):=by unfold sky_isPlace.f;rw [in_eq];rfl
theorem Spot_eq (n:Int):tr_Spot.f n=some (okPlace n):=isPlace_eq n
end Go.Proofs.YtaidphhkhddemaaGreatDoor.PSky
end
section
namespace Go.Proofs.YtaidphhkhddemaaGreatDoor.PSky
open Go.RowKit Go.Proofs.YtaidphhkhddemaaGreatDoorW.PrintWords Go.Proofs.YtaidphhkhddemaaGreatDoorW.PrintLast Go.Proofs.YtaidphhkhddemaaGreatDoorW.PrintMore
theorem tquot {a b:Int} (hb:0<b):(Int.tmod a b<0→a / b=Int.tdiv a b - 1∧a % b=Int.tmod a b+b)∧(0≤Int.tmod a b→a / b=Int.tdiv a b∧a % b=Int.tmod a b):=by
 have h1:=Int.tmod_add_mul_tdiv a b
 have h2:=Int.tmod_lt_of_pos a hb
 have h3:=Int.lt_tmod_of_pos a hb
 refine ⟨fun h=>?_,fun h=>?_⟩
 ·exact (Int.ediv_emod_unique hb).mpr ⟨by rw [Int.mul_sub,Int.mul_one];omega,by omega,by omega⟩
 ·exact (Int.ediv_emod_unique hb).mpr ⟨by omega,h,h2⟩
theorem tdiv_le {a b:Int} (hb:0<b) {m:Int} (ha:-m≤a∧a≤m) (hm:0≤m):-m - 1≤a / b∧a / b≤m:=by
 constructor
 ·have:(-m - 1)≤a / b:=by
   rw [Int.le_ediv_iff_mul_le hb]
   have:=Int.mul_le_mul_of_nonneg_left (show (1:Int)≤b by omega) (show (0:Int)≤m+1 by omega)
   have e:(-m - 1)*b = -((m+1)*b):=by rw [← Int.neg_mul];congr 1;omega
   omega
  exact this
 ·have:a / b≤m:=by
   have h1:a / b*b≤a:=Int.ediv_mul_le a (by omega)
   rcases Int.lt_or_le (a / b) 0 with h|h
   ·omega
   ·have:=Int.mul_le_mul_of_nonneg_left (show (1:Int)≤b by omega) h
    omega
  exact this
theorem floor_eq {a b:Int} (hb:0<b) (hb2:b≤1000000000000) (ha:-1000000000000000000≤a∧a≤1000000000000000000):sky_floor.f a b=some (a / b,a % b):=by
 have q:=tdiv_le hb ha (by decide)
 have m0:=Int.emod_nonneg a (show b≠0 by omega)
 have m1:=Int.emod_lt_of_pos a hb
 unfold sky_floor.f
 rw [if_neg (by omega)]
 by_cases h:Int.tmod a b<0
 ·obtain ⟨e1,e2⟩:=(tquot (a:=a) hb).1 h
  rw [if_pos h,e1,e2]
  rw [e1] at q
  rw [e2] at m0 m1
  rw [wrap_id (show -9223372036854775808≤a.tdiv b∧a.tdiv b≤9223372036854775807 by omega),wrap_id (by omega),wrap_id (by omega)]
 ·obtain ⟨e1,e2⟩:=(tquot (a:=a) hb).2 (by omega)
  rw [if_neg h,e1,e2]
  rw [e1] at q
  rw [wrap_id (show -9223372036854775808≤a.tdiv b∧a.tdiv b≤9223372036854775807 by omega)]
theorem around_eq {a:Int} (ha:-1000000000000000000≤a∧a≤1000000000000000000):sky_around.f a=some (a % 21600):=by
 unfold sky_around.f
 rw [floor_eq (by decide) (by decide) ha]
 rfl
theorem down_eq {a b:Int} (hb:0<b) (hb2:b≤1000000) (ha:-1000000000000≤a∧a≤1000000000000):tr_down.f a b=some (a / b):=by
 have q:=tdiv_le hb ha (by decide)
 have h0:=Int.tmod_add_mul_tdiv a b
 have h2:=Int.tmod_lt_of_pos a hb
 have h3:=Int.lt_tmod_of_pos a hb
 have e0:a.tdiv b*b=b*a.tdiv b:=Int.mul_comm _ _
 unfold tr_down.f
 rw [if_neg (by omega)]
 by_cases h:Int.tmod a b<0
 ·obtain ⟨e1,e2⟩:=(tquot (a:=a) hb).1 h
  rw [e1] at q ⊢
  rw [wrap_id (show -9223372036854775808≤a.tdiv b∧a.tdiv b≤9223372036854775807 by omega),wrap_id (show -9223372036854775808≤a.tdiv b*b∧a.tdiv b*b≤9223372036854775807 by omega),if_pos (by omega),wrap_id (by omega)]
 ·obtain ⟨e1,e2⟩:=(tquot (a:=a) hb).2 (by omega)
  rw [e1] at q ⊢
  rw [wrap_id (show -9223372036854775808≤a.tdiv b∧a.tdiv b≤9223372036854775807 by omega),wrap_id (show -9223372036854775808≤a.tdiv b*b∧a.tdiv b*b≤9223372036854775807 by omega),if_neg (by omega)]
theorem Less_eq {a:Int} (ha:-1000000000000≤a∧a≤1000000000000):tr_Less.f a=some (a % 21600):=by
 unfold tr_Less.f
 rw [down_eq (by decide) (by decide) ha,Option.bind_some]
 have h1:=Int.emod_add_mul_ediv a 21600
 have h2:=Int.emod_nonneg a (show (21600:Int)≠0 by decide)
 have h3:=Int.emod_lt_of_pos a (show (0:Int)<21600 by decide)
 rw [wrap_id (show -9223372036854775808≤a / 21600*21600∧a / 21600*21600≤9223372036854775807 by omega),wrap_id (by omega)]
 congr 1
 omega
theorem okIn_iff {a b c:Int}:okIn a b c=true ↔ b≤a∧a≤c:=by simp [okIn]
end Go.Proofs.YtaidphhkhddemaaGreatDoor.PSky
end
section
namespace Go.Proofs.YtaidphhkhddemaaGreatDoor.PSky
open Go.RowKit Go.Proofs.YtaidphhkhddemaaGreatDoorW.PrintWords Go.Proofs.YtaidphhkhddemaaGreatDoorW.PrintLast Go.Proofs.YtaidphhkhddemaaGreatDoorW.PrintMore
theorem Ev.all {α β:Type} (g:α→Nat→Option β) (r:α→β):∀ l:List α,(∀ d∈l,Ev (g d) (r d))→∃ K,∀ k,K≤k→∀ d∈l,g d k=Option.some (r d)
 |[],_=>⟨0,fun _ _ d h=>by cases h⟩
 |x :: t,h=>by
  obtain ⟨K1,h1⟩:=h x (List.mem_cons_self ..)
  obtain ⟨K2,h2⟩:=Ev.all g r t (fun d hd=>h d (List.mem_cons_of_mem _ hd))
  refine ⟨max K1 K2,fun k hk d hd=>?_⟩
  rcases List.mem_cons.mp hd with rfl|hd
  ·exact h1 k (by omega)
  ·exact h2 k (by omega) d hd
end Go.Proofs.YtaidphhkhddemaaGreatDoor.PSky
end
section
namespace Go.Proofs.YtaidphhkhddemaaGreatDoor.PSky
open Go.RowKit Go.Proofs.YtaidphhkhddemaaGreatDoorW.PrintWords Go.Proofs.YtaidphhkhddemaaGreatDoorW.PrintLast Go.Proofs.YtaidphhkhddemaaGreatDoorW.PrintMore
theorem known_ev:Ev (fun _=>tl_known.f.bind fun t=>some t) true:=Ev.now true
end Go.Proofs.YtaidphhkhddemaaGreatDoor.PSky
end
section
namespace Go.Proofs.YtaidphhkhddemaaGreatDoor.PSky
open Go.RowKit Go.Proofs.YtaidphhkhddemaaGreatDoorW.PrintWords Go.Proofs.YtaidphhkhddemaaGreatDoorW.PrintLast Go.Proofs.YtaidphhkhddemaaGreatDoorW.PrintMore
theorem place_of2 {n:Int} (h:okPlace n=true):0≤n∧n≤21599:=by simp only [okPlace,okIn_iff] at h;exact h
def okDay (n:Int):Bool:=okIn n 0 20000
def okOff (n:Int):Bool:=okIn n 0 10800
theorem isDay_eq (n:Int):sky_isDay.f n=some (okDay n):=by unfold sky_isDay.f;rw [in_eq];rfl
theorem Day_eq (n:Int):tr_Day.f n=some (okDay n):=isDay_eq n
theorem isOff_eq (n:Int):sky_isOff.f n=some (okOff n):=by unfold sky_isOff.f;rw [in_eq];rfl
theorem Off_eq (n:Int):tr_Off.f n=some (okOff n):=isOff_eq n
def okNote (x:S89):Bool:=okDay x.f0 && (okPlace x.f1 && okOff x.f2)
theorem rdN_get (l:List S89) (i:Nat) (h:i<l.length):rd_T89 l (i:Int)=l[i]:=by unfold rd_T89;simp [h]
theorem note_eq (x:S89):sky_areNotes_c1.f x.f0 x.f1 x.f2=some (!okNote x):=by
 unfold sky_areNotes_c1.f okNote
 rw [isDay_eq,Option.bind_some]
 cases h1:okDay x.f0 with
 |false=>rfl
 |true=>
  rw [if_pos rfl,isPlace_eq,Option.bind_some]
  cases h2:okPlace x.f1 with
  |false=>rfl
  |true=>
   rw [if_pos rfl,isOff_eq,Option.bind_some]
   simp
theorem notes_ev (l:List S89) (hl:l.length≤1000000):Ev (fun k=>cF_areNotes_c1.f k l) (l.any (fun x=>!okNote x)):=by
 obtain ⟨r,hr,he⟩:=scan l (fun x=>!okNote x) (fun k i=>iF_areNotes_c1.l0 k l (l.length:Int) (i:Int)) hl
  (fun i h hb=>by
   refine Ev.step (fun k=>by rw [iF_areNotes_c1.l0]) ?_
   refine Ev.pos (by omega) (Ev.pos (by omega) (Ev.pos (by omega) ?_))
   rw [rdN_get l i h]
   refine Ev.bind (Ev.is (note_eq _)) ?_
   rw [hb]
   exact Ev.pos rfl (Ev.now _))
  (fun i h hb r hr=>by
   refine Ev.step (fun k=>by rw [iF_areNotes_c1.l0]) ?_
   refine Ev.pos (by omega) (Ev.pos (by omega) (Ev.pos (by omega) ?_))
   rw [rdN_get l i h]
   refine Ev.bind (Ev.is (note_eq _)) ?_
   rw [hb]
   refine Ev.neg (by simp) ?_
   rw [wrap_id (by omega)]
   exact hr)
  (by
   refine Ev.step (fun k=>by rw [iF_areNotes_c1.l0]) ?_
   exact Ev.neg (by omega) (Ev.now _)) l.length 0 (by omega)
 unfold cF_areNotes_c1.f iF_areNotes_c1.f
 refine Ev.bind hr ?_
 rw [he]
 exact Ev.now _
def okNotes (l:List S89):Bool:=l.all okNote && decide ((l.length:Int)≤6)
def okRange (a b:Int):Bool:=okIn a 0 1000000 && (okIn b a 1000000 && decide (b - a≤5000))
theorem any_all2 (f:S89→Bool) (l:List S89):(!l.any (fun b=>!f b))=l.all f:=by
 induction l with
 |nil=>rfl
 |cons b t ih=>simp [ih]
theorem areNotes_ev (s:Int) (l:List S89) (a b:Int):Ev (fun k=>sky_areNotes.f k s l a b) (okPlace s && (okNotes l && okRange a b)):=by
 unfold sky_areNotes.f okNotes okRange
 refine Ev.bind (Ev.is (isPlace_eq s)) ?_
 cases h1:okPlace s with
 |false=>exact Ev.neg (by simp) (Ev.now _)
 |true=>
  refine Ev.pos rfl (Ev.bind (Ev.is (in_eq _ _ _)) ?_)
  cases h2:okIn a 0 1000000 with
  |false=>
   rw [show (true && (l.all okNote && decide ((l.length:Int)≤6) && (false && (okIn b a 1000000 && decide (b - a≤5000)))))=false by simp]
   exact Ev.neg (by simp) (Ev.now _)
  |true=>
   refine Ev.pos rfl (Ev.bind (Ev.is (in_eq _ _ _)) ?_)
   cases h3:okIn b a 1000000 with
   |false=>
    rw [show (true && (l.all okNote && decide ((l.length:Int)≤6) && (true && (false && decide (b - a≤5000)))))=false by simp]
    exact Ev.neg (by simp) (Ev.now _)
   |true=>
    have h2':=okIn_iff.mp h2
    have h3':=okIn_iff.mp h3
    rw [wrap_id (show -9223372036854775808≤b - a∧b - a≤9223372036854775807 by omega)]
    refine Ev.pos rfl ?_
    by_cases h4:b - a≤5000
    ·refine Ev.pos h4 ?_
     by_cases h5:(l.length:Int)≤6
     ·refine Ev.pos h5 (Ev.bind (notes_ev l (by omega)) ?_)
      rw [any_all2,decide_eq_true h4,decide_eq_true h5]
      simp only [Bool.and_true,Bool.true_and]
      exact Ev.now _
     ·refine Ev.neg h5 ?_
      rw [decide_eq_false h5]
      simp only [Bool.and_false,Bool.false_and]
      exact Ev.now _
    ·refine Ev.neg h4 ?_
     rw [decide_eq_false h4]
     simp only [Bool.and_false]
     exact Ev.now _
theorem refNotes_ev (l:List S89) (hl:l.length≤1000000):Ev (fun k=>tr_Notes.f k l) (okNotes l):=by
 have key:∀ m i:Nat,i+m=l.length→Ev (fun k=>tr_Notes.l0 k l (i:Int)) ((l.drop i).all okNote && decide ((l.length:Int)≤6)):=by
  intro m
  induction m with
  |zero=>
   intro i h
   rw [show i=l.length by omega,List.drop_length]
   refine Ev.step (fun k=>by rw [tr_Notes.l0]) ?_
   refine Ev.neg (by omega) ?_
   simp only [List.all_nil,Bool.true_and]
   exact Ev.now _
  |succ m ih=>
   intro i h
   have hi:i<l.length:=by omega
   rw [List.drop_eq_getElem_cons hi,List.all_cons]
   have ih':=ih (i+1) (by omega)
   refine Ev.step (fun k=>by rw [tr_Notes.l0]) ?_
   rw [rdN_get l i hi,wrap_id (by omega)]
   generalize l[i]=x
   refine Ev.pos (by omega) (Ev.pos (by omega) (Ev.bind (Ev.is (Day_eq _)) ?_))
   unfold okNote
   cases h1:okDay x.f0 with
   |false=>exact Ev.neg (by simp) (Ev.now _)
   |true=>
    refine Ev.pos rfl (Ev.bind (Ev.is (Spot_eq _)) ?_)
    cases h2:okPlace x.f1 with
    |false=>exact Ev.neg (by simp) (Ev.now _)
    |true=>
     refine Ev.pos rfl (Ev.bind (Ev.is (Off_eq _)) ?_)
     cases h3:okOff x.f2 with
     |false=>exact Ev.neg (by simp) (Ev.now _)
     |true=>
      refine Ev.pos rfl ?_
      simp only [Bool.true_and]
      exact ih'
 exact key l.length 0 (by omega)
theorem Range_eq (a b:Int):tr_Range.f a b=some (okRange a b):=by
 unfold tr_Range.f okRange
 rw [rin_eq,Option.bind_some]
 cases h1:okIn a 0 1000000 with
 |false=>rfl
 |true=>
  rw [if_pos rfl,rin_eq,Option.bind_some]
  cases h2:okIn b a 1000000 with
  |false=>rfl
  |true=>
   have h1':=okIn_iff.mp h1
   have h2':=okIn_iff.mp h2
   rw [if_pos rfl,wrap_id (by omega)]
   rfl
def atOf (s v d:Int):Int:=(s+v*d / 1000) % 21600
def apartOf (a b:Int):Int:=mn ((a - b) % 21600) (21600 - (a - b) % 21600)
theorem reach_bounds {v d:Int} (hv:0≤v∧v≤1000000) (hd:0≤d∧d≤20000):0≤v*d∧v*d≤20000000000:=by
 have h0:0≤v*d:=Int.mul_nonneg hv.1 hd.1
 have h1:v*d≤1000000*d:=Int.mul_le_mul_of_nonneg_right hv.2 hd.1
 omega
theorem reached_eq {s v d:Int} (hs:0≤s∧s≤21599) (hv:0≤v∧v≤1000000) (hd:0≤d∧d≤20000):sky_reached.f s v d=some (atOf s v d):=by
 have hb:=reach_bounds hv hd
 unfold sky_reached.f atOf
 rw [wrap_id (show -9223372036854775808≤v*d∧v*d≤9223372036854775807 by omega),Int.tdiv_eq_ediv_of_nonneg hb.1,wrap_id (show -9223372036854775808≤v*d / 1000∧v*d / 1000≤9223372036854775807 by omega),wrap_id (by omega),around_eq (by omega)]
 rfl
theorem refat_eq {s v d:Int} (hs:0≤s∧s≤21599) (hv:0≤v∧v≤1000000) (hd:0≤d∧d≤20000):tr_at.f s v d=some (atOf s v d):=by
 have hb:=reach_bounds hv hd
 unfold tr_at.f atOf
 rw [wrap_id (show -9223372036854775808≤v*d∧v*d≤9223372036854775807 by omega),Int.tdiv_eq_ediv_of_nonneg hb.1,wrap_id (show -9223372036854775808≤v*d / 1000∧v*d / 1000≤9223372036854775807 by omega),wrap_id (by omega),Less_eq (by omega)]
 rfl
theorem at_bounds (s v d:Int):0≤atOf s v d∧atOf s v d<21600:=⟨Int.emod_nonneg _ (by decide),Int.emod_lt_of_pos _ (by decide)⟩
theorem round_eq {a:Int} (h:-1000000≤a∧a≤1000000):sky_round.f a=some (mn (a % 21600) (21600 - a % 21600)):=by
 unfold sky_round.f
 rw [around_eq (by omega),Option.bind_some,wrap_id (by omega)]
theorem Apart_eq {a b:Int} (ha:0≤a∧a<21600) (hb:0≤b∧b≤21599):tr_Apart.f a b=some (apartOf a b):=by
 unfold tr_Apart.f apartOf
 rw [wrap_id (by omega),Less_eq (by omega),Option.bind_some,wrap_id (by omega)]
def agrees1 (s v:Int) (x:S89):Bool:=decide (apartOf (atOf s v x.f0) x.f1≤x.f2)
def agreesOf (s:Int) (l:List S89) (v:Int):Bool:=l.all (agrees1 s v)
theorem note_of {l:List S89} (h:l.all okNote=true) {x:S89} (hx:x∈l):(0≤x.f0∧x.f0≤20000)∧(0≤x.f1∧x.f1≤21599)∧(0≤x.f2∧x.f2≤10800):=by
 have:=List.all_eq_true.mp h x hx
 simp only [okNote,okDay,okPlace,okOff,Bool.and_eq_true,okIn_iff] at this
 exact this
theorem refAgrees_ev {s:Int} (hs:0≤s∧s≤21599) {l:List S89} (hn:l.all okNote=true) (hl:l.length≤1000000) {v:Int} (hv:0≤v∧v≤1000000):Ev (fun k=>tr_Agrees.f k s l v) (agreesOf s l v):=by
 have key:∀ m i:Nat,i+m=l.length→Ev (fun k=>tr_Agrees.l0 k s l v (i:Int)) ((l.drop i).all (agrees1 s v)):=by
  intro m
  induction m with
  |zero=>
   intro i h
   rw [show i=l.length by omega,List.drop_length]
   refine Ev.step (fun k=>by rw [tr_Agrees.l0]) ?_
   exact Ev.neg (by omega) (Ev.now _)
  |succ m ih=>
   intro i h
   have hi:i<l.length:=by omega
   rw [List.drop_eq_getElem_cons hi,List.all_cons]
   have ih':=ih (i+1) (by omega)
   have hx:=note_of hn (List.getElem_mem hi)
   refine Ev.step (fun k=>by rw [tr_Agrees.l0]) ?_
   rw [rdN_get l i hi,wrap_id (by omega)]
   generalize l[i]=x at hx
   refine Ev.pos (by omega) (Ev.pos (by omega) (Ev.bind (Ev.is (refat_eq hs hv hx.1)) (Ev.bind (Ev.is (Apart_eq (at_bounds _ _ _) hx.2.1)) ?_)))
   by_cases hf:apartOf (atOf s v x.f0) x.f1≤x.f2
   ·rw [show agrees1 s v x=true from decide_eq_true hf,Bool.true_and]
    exact Ev.neg (by omega) ih'
   ·rw [show agrees1 s v x=false from decide_eq_false hf,Bool.false_and]
    exact Ev.pos (by omega) (Ev.now _)
 exact key l.length 0 (by omega)
def speedsOf (s:Int) (l:List S89) (a b:Int):List Int:=(daysOf a b).filter (agreesOf s l)
theorem days_cons (a:Int) (m:Nat):((List.range (m+1)).map fun j:Nat=>a+(j:Nat))=a :: ((List.range m).map fun j:Nat=>a+1+(j:Nat)):=by
 rw [List.range_succ_eq_map,List.map_cons,List.map_map]
 congr 1
 ·simp
 ·refine List.map_congr_left fun j _=>?_
  simp only [Function.comp_apply,Nat.succ_eq_add_one]
  omega
theorem refSpeeds_loop {s:Int} (hs:0≤s∧s≤21599) {l:List S89} (hn:l.all okNote=true) (hl:l.length≤1000000) {b:Int} (hb:b≤1000000):∀ (m:Nat) (a:Int) (acc:List Int),0≤a→a+m=b+1→acc.length+m≤1000000 →
  Ev (fun k=>tr_Speeds.l0 k s l b acc a) (acc ++ ((List.range m).map fun j:Nat=>a+(j:Nat)).filter (agreesOf s l))
 |0,a,acc,ha,hm,hc=>by
  refine Ev.step (fun k=>by rw [tr_Speeds.l0]) ?_
  refine Ev.neg (by omega) ?_
  simp only [List.range_zero,List.map_nil,List.filter_nil,List.append_nil]
  exact Ev.now _
 |m+1,a,acc,ha,hm,hc=>by
  rw [days_cons a m,List.filter_cons]
  have ih:=fun acc' hc'=>refSpeeds_loop hs hn hl hb m (a+1) acc' (by omega) (by omega) hc'
  refine Ev.step (fun k=>by rw [tr_Speeds.l0]) ?_
  rw [wrap_id (show -9223372036854775808≤a+1∧a+1≤9223372036854775807 by omega)]
  refine Ev.pos (by omega) (Ev.bind (refAgrees_ev hs hn hl (v:=a) (by omega)) ?_)
  cases hq:agreesOf s l a with
  |true=>
   rw [if_pos rfl]
   refine Ev.pos rfl (Ev.pos (by omega) ?_)
   have:=ih (acc ++ [a]) (by simp;omega)
   simpa using this
  |false=>
   rw [if_neg (by simp)]
   refine Ev.neg (by simp) ?_
   exact ih acc (by omega)
theorem agreeing_notes {s:Int} (hs:0≤s∧s≤21599) {l:List S89} (hn:l.all okNote=true) (hl:l.length≤1000000) {b v:Int} (hv:0≤v∧v≤1000000) (acc:List Int) (hc:acc.length≤1000000) (r:List Int)
  (hyes:agreesOf s l v=true→Ev (fun k=>sky_agreeing.l0 k s l b (acc ++ [v]) (v+1)) r) (hno:agreesOf s l v=false→Ev (fun k=>sky_agreeing.l0 k s l b acc (v+1)) r):∀ m i:Nat,i+m=l.length→(l.take i).all (agrees1 s v)=true →
  Ev (fun k=>sky_agreeing.l1 k s l b acc v l (l.length:Int) (i:Int)) r
 |0,i,h,ht=>by
  rw [show i=l.length by omega,List.take_length] at ht
  refine Ev.step (fun k=>by rw [sky_agreeing.l1]) ?_
  rw [wrap_id (show -9223372036854775808≤v+1∧v+1≤9223372036854775807 by omega)]
  exact Ev.neg (by omega) (Ev.pos (by omega) (hyes ht))
 |m+1,i,h,ht=>by
  have hi:i<l.length:=by omega
  have hx:=note_of hn (List.getElem_mem hi)
  have htk:(l.take (i+1)).all (agrees1 s v)=((l.take i).all (agrees1 s v) && agrees1 s v l[i]):=by
   rw [List.take_succ_eq_append_getElem hi,List.all_append]
   simp
  have ha2:=at_bounds s v l[i].f0
  refine Ev.step (fun k=>by rw [sky_agreeing.l1]) ?_
  rw [rdN_get l i hi,wrap_id (show -9223372036854775808≤v+1∧v+1≤9223372036854775807 by omega),wrap_id (show -9223372036854775808≤(i:Int)+1∧(i:Int)+1≤9223372036854775807 by omega)]
  refine Ev.pos (by omega) (Ev.pos (by omega) (Ev.pos (by omega) (Ev.bind (Ev.is (reached_eq hs hv hx.1)) ?_)))
  rw [wrap_id (by omega)]
  refine Ev.bind (Ev.is (round_eq (by omega))) ?_
  by_cases hf:apartOf (atOf s v l[i].f0) l[i].f1≤l[i].f2
  ·have h1:agrees1 s v l[i]=true:=decide_eq_true hf
   refine Ev.neg (by unfold apartOf at hf;omega) ?_
   exact agreeing_notes hs hn hl hv acc hc r hyes hno m (i+1) (by omega) (by rw [htk,ht,h1];rfl)
  ·have h1:agrees1 s v l[i]=false:=decide_eq_false hf
   refine Ev.pos (by unfold apartOf at hf;omega) (hno ?_)
   cases hq:agreesOf s l v with
   |false=>rfl
   |true=>
    have:=List.all_eq_true.mp hq l[i] (List.getElem_mem hi)
    rw [h1] at this
    cases this
theorem agreeing_loop {s:Int} (hs:0≤s∧s≤21599) {l:List S89} (hn:l.all okNote=true) (hl:l.length≤1000000) {b:Int} (hb:b≤1000000):∀ (m:Nat) (a:Int) (acc:List Int),0≤a→a+m=b+1→acc.length+m≤1000000 →
  Ev (fun k=>sky_agreeing.l0 k s l b acc a) (acc ++ ((List.range m).map fun j:Nat=>a+(j:Nat)).filter (agreesOf s l))
 |0,a,acc,ha,hm,hc=>by
  refine Ev.step (fun k=>by rw [sky_agreeing.l0]) ?_
  refine Ev.neg (by omega) ?_
  simp only [List.range_zero,List.map_nil,List.filter_nil,List.append_nil]
  by_cases h0:(acc.length:Int)=0
  ·exact Ev.pos h0 (Ev.now _)
  ·exact Ev.neg h0 (Ev.now _)
 |m+1,a,acc,ha,hm,hc=>by
  rw [days_cons a m,List.filter_cons]
  have ih:=fun acc' hc'=>agreeing_loop hs hn hl hb m (a+1) acc' (by omega) (by omega) hc'
  refine Ev.step (fun k=>by rw [sky_agreeing.l0]) ?_
  refine Ev.pos (by omega) ?_
  refine agreeing_notes hs hn hl (v:=a) (by omega) acc (by omega) _ (fun hq=>?_) (fun hq=>?_) l.length 0 (by omega) (by simp)
  ·rw [hq,if_pos rfl]
   have:=ih (acc ++ [a]) (by simp;omega)
   simpa using this
  ·rw [hq,if_neg (by simp)]
   exact ih acc (by omega)
theorem range_of {a b:Int} (h:okRange a b=true):0≤a∧a≤b∧b≤1000000∧b - a≤5000:=by
 simp only [okRange,Bool.and_eq_true,okIn_iff,decide_eq_true_eq] at h
 omega
theorem agreeing_ev {s:Int} (hs:okPlace s=true) {l:List S89} (hn:okNotes l=true) {a b:Int} (hr:okRange a b=true):Ev (fun k=>sky_agreeing.f k s l a b) (speedsOf s l a b):=by
 have hr':=range_of hr
 simp only [okNotes,Bool.and_eq_true,decide_eq_true_eq] at hn
 have:=agreeing_loop (place_of2 hs) hn.1 (by omega) (b:=b) (by omega) (b+1 - a).toNat a [] (by omega) (by omega) (by simp;omega)
 unfold sky_agreeing.f
 simpa [speedsOf,daysOf] using this
theorem refSpeeds_ev {s:Int} (hs:okPlace s=true) {l:List S89} (hn:okNotes l=true) {a b:Int} (hr:okRange a b=true):Ev (fun k=>tr_Speeds.f k s l a b) (speedsOf s l a b):=by
 have hr':=range_of hr
 simp only [okNotes,Bool.and_eq_true,decide_eq_true_eq] at hn
 have:=refSpeeds_loop (place_of2 hs) hn.1 (by omega) (b:=b) (by omega) (b+1 - a).toNat a [] (by omega) (by omega) (by simp;omega)
 unfold tr_Speeds.f
 simpa [speedsOf,daysOf] using this
theorem speeds_length {s:Int} {l:List S89} {a b:Int} (hr:okRange a b=true):(speedsOf s l a b).length≤5001:=by
 have hr':=range_of hr
 unfold speedsOf
 have h1:=List.length_filter_le (agreesOf s l) (daysOf a b)
 have h2:(daysOf a b).length=(b+1 - a).toNat:=by simp [daysOf]
 omega
end Go.Proofs.YtaidphhkhddemaaGreatDoor.PSky
end
section
namespace Go.Proofs.YtaidphhkhddemaaGreatDoor.PSky
open Go.RowKit Go.Proofs.YtaidphhkhddemaaGreatDoorW.PrintWords Go.Proofs.YtaidphhkhddemaaGreatDoorW.PrintLast Go.Proofs.YtaidphhkhddemaaGreatDoorW.PrintMore
attribute [local go_sem] max2_int min2_int max_two min_two max_three min_three max_four min_four
set_option linter.unusedVariables false
set_option linter.unusedSimpArgs false
attribute [local go_sem high] eqA60
def tl_SkySpeeds.j0:Nat→Int→List (S89)→Int→Int→Int→Int→Bool→Int→Int→Option (Bool)
 |0,_,_,_,_,_,_,_,_,_=>none
 |k+1,x0,x1,x2,x3,x10,x11,x39,x395000,x395001=>if x39=true then (if x11=2 then (if (x395000 == 0 && (x395001 == 0))=true then (if x10=0 then ((tl_known.f).bind fun t398=>(some t398)) else (some false)) else (some false)) else (some false)) else ((tr_Speeds.f k x0 x1 x2 x3).bind fun t399=>(if (t399.length:Int)=0 then (if x11=5 then (if (x395000 == 0 && (x395001 == 0))=true then (if x10=0 then ((tl_known.f).bind fun t402=>(some t402)) else (some false)) else (some false)) else (some false)) else (if x11=0 then (if 0<(t399.length:Int) then (if 0≤(wrap64 ((t399.length:Int) - 1)) then (if (wrap64 ((t399.length:Int) - 1))<(t399.length:Int) then (if (x395000 == (rd t399 0) && (x395001 == (rd t399 (wrap64 ((t399.length:Int) - 1)))))=true then (if x10=(t399.length:Int) then ((tl_known.f).bind fun t405=>(some t405)) else (some false)) else (some false)) else (none)) else (none)) else (none)) else (some false))))
def tl_SkySpeeds.f (k:Nat) (a0:Int) (l1:List (S89)) (a2:Int) (a3:Int):Option (Bool):=(tl_few.f l1).bind fun t388=>(if t388=true then ((sky_Speeds.f k a0 l1 a2 a3).bind fun bt390=>((tr_Spot.f a0).bind fun t395=>(if t395=true then ((tr_Notes.f k l1).bind fun t396=>(if t396=true then ((tr_Range.f a2 a3).bind fun t397=>(tl_SkySpeeds.j0 k a0 l1 a2 a3 bt390.2.2.1 bt390.2.2.2 (!t397) bt390.1 bt390.2.1)) else (tl_SkySpeeds.j0 k a0 l1 a2 a3 bt390.2.2.1 bt390.2.2.2 true bt390.1 bt390.2.1))) else (tl_SkySpeeds.j0 k a0 l1 a2 a3 bt390.2.2.1 bt390.2.2.2 true bt390.1 bt390.2.1)))) else ((tl_known.f).bind fun t389=>(some t389)))
def tl_SkySpeeds.T9:Bool × List (List Nat × List Nat):=(true,[([],[]),([0],[0]),([1],[1]),([2],[2]),([2],[2]),([4,2],[2,4]),([5,2],[2,5]),([2],[2]),([2],[2]),([8,2],[2,8]),([9,2],[2,9]),([7,10,2],[2,7,10]),([11,2],[2,11]),([6,12,2],[2,6,12]),([3,13,2],[2,3,13]),([2,14],[2,14]),([15,2],[15]),([16],[16]),([16],[16]),([18,16],[16,18]),([17,19,16],[16,17,19]),([16,20],[16,20]),([21,16],[21]),([22,22],[22]),([22,23],[22,23]),([24,23,0,1,2,3,4,5,6,7,8,9,10,11,12,13,14,15,16,17,18,19,20,21,22,23,24],[24])])
def tl_SkySpeeds.B9:List Nat:=[0,1,3,7,7,23,55,7,7,263,775,1927,3975,8183,16383,32767,65535,131071,131071,393215,1048575,2097151,4194303,8388607,16777215,33554431]
theorem tl_SkySpeeds.tab9:rtab .any (opsOf Tryz.f6 9)=tl_SkySpeeds.T9:=by kernel_rfl
theorem tl_SkySpeeds.bits9:waitsOk tl_SkySpeeds.T9.2 tl_SkySpeeds.B9=true:=by kernel_rfl
set_option maxHeartbeats 8000000 in
set_option maxRecDepth 100000 in
theorem tl_SkySpeeds.calls (k:Nat) (a0:Int) (A1:Option Addr) (c1:Nat) (l1:List (S89)) (a2:Int) (a3:Int) (r:Bool) (w:World) (hr1:Kd.C k89 w A1 l1.length l1) (hc1:l1.length≤c1) (h:tl_SkySpeeds.f k a0 l1 a2 a3=some r) (hLD:LD w):
  Calls Tryz.prog 6 #[.int .i64 a0,.slice A1 l1.length c1,.int .i64 a2,.int .i64 a3] w fun e w'=>e=.returned (.bool r)∧Below w.heap.size w w':=by
 have HLD:=A0_ hLD;clear hLD
 have hu60:=Tryz.underlying60
 have HR1:=A0_ hr1;have HC1:=A0_ hc1;clear hr1 hc1
 have HB:=A0_ (Below.refl w.heap.size w)
 have H:((tl_few.f l1).bind fun t388=>(if t388=true then ((sky_Speeds.f k a0 l1 a2 a3).bind fun bt390=>((tr_Spot.f a0).bind fun t395=>(if t395=true then ((tr_Notes.f k l1).bind fun t396=>(if t396=true then ((tr_Range.f a2 a3).bind fun t397=>(tl_SkySpeeds.j0 k a0 l1 a2 a3 bt390.2.2.1 bt390.2.2.2 (!t397) bt390.1 bt390.2.1)) else (tl_SkySpeeds.j0 k a0 l1 a2 a3 bt390.2.2.1 bt390.2.2.2 true bt390.1 bt390.2.1))) else (tl_SkySpeeds.j0 k a0 l1 a2 a3 bt390.2.2.1 bt390.2.2.2 true bt390.1 bt390.2.1)))) else ((tl_known.f).bind fun t389=>(some t389))))=some r:=h
 clear h;replace H:=Option.bind_eq_some_iff.mp H;obtain ⟨t388,A50,H⟩:=H
 replace H:(if t388=true then ((sky_Speeds.f k a0 l1 a2 a3).bind fun bt390=>((tr_Spot.f a0).bind fun t395=>(if t395=true then ((tr_Notes.f k l1).bind fun t396=>(if t396=true then ((tr_Range.f a2 a3).bind fun t397=>(tl_SkySpeeds.j0 k a0 l1 a2 a3 bt390.2.2.1 bt390.2.2.2 (!t397) bt390.1 bt390.2.1)) else (tl_SkySpeeds.j0 k a0 l1 a2 a3 bt390.2.2.1 bt390.2.2.2 true bt390.1 bt390.2.1))) else (tl_SkySpeeds.j0 k a0 l1 a2 a3 bt390.2.2.1 bt390.2.2.2 true bt390.1 bt390.2.1)))) else ((tl_known.f).bind fun t389=>(some t389)))=some r:=H
 have A5:=A0_ A50;clear A50
 by_cases c6:t388=true
 ·subst c6
  have H1:((sky_Speeds.f k a0 l1 a2 a3).bind fun bt390=>((tr_Spot.f a0).bind fun t395=>(if t395=true then ((tr_Notes.f k l1).bind fun t396=>(if t396=true then ((tr_Range.f a2 a3).bind fun t397=>(tl_SkySpeeds.j0 k a0 l1 a2 a3 bt390.2.2.1 bt390.2.2.2 (!t397) bt390.1 bt390.2.1)) else (tl_SkySpeeds.j0 k a0 l1 a2 a3 bt390.2.2.1 bt390.2.2.2 true bt390.1 bt390.2.1))) else (tl_SkySpeeds.j0 k a0 l1 a2 a3 bt390.2.2.1 bt390.2.2.2 true bt390.1 bt390.2.1))))=some r:=by rw [if_pos rfl] at H;exact H
  clear H;have H:=H1;clear H1;replace H:=Option.bind_eq_some_iff.mp H
  obtain ⟨⟨t390,t391,t392,t393⟩,A70,H⟩:=H
  replace H:((tr_Spot.f a0).bind fun t395=>(if t395=true then ((tr_Notes.f k l1).bind fun t396=>(if t396=true then ((tr_Range.f a2 a3).bind fun t397=>(tl_SkySpeeds.j0 k a0 l1 a2 a3 t392 t393 (!t397) t390 t391)) else (tl_SkySpeeds.j0 k a0 l1 a2 a3 t392 t393 true t390 t391))) else (tl_SkySpeeds.j0 k a0 l1 a2 a3 t392 t393 true t390 t391)))=some r:=H
  have A7:=A0_ A70;clear A70;have HC8:=A0_ H;clear H
  go_enter Tryz.func6,Tryz.ntmps6
  go_upto_region 4 with (first|((with_reducible refine gate_callee (f:=27) rfl ?_);refine goesL_ (some 14) rfl rfl Tryz.func27 (by kernel_rfl) rfl #[.slice A1 l1.length c1] rfl y1_ ?_;(with_reducible refine (tl_few.calls _ _ l1 true _ ?side1 ?side2 A5.out).mono ?_);(case side1=>repeat (first|exact HR1.out|(with_reducible refine Kd.C_alloc ?_ _)|(with_reducible refine Kd.C_drewN ?_ _)|(with_reducible refine Kd.C_drew ?_)));(case side2=>exact HC1.out);rintro e w' ⟨rfl,⟨nd,rfl⟩⟩;refine ⟨_,rfl,?_⟩)|((with_reducible refine gate_callee (f:=28) rfl ?_);refine goesL_ (some 22) rfl rfl Tryz.func28 (by kernel_rfl) rfl #[.int .i64 a0,.slice A1 l1.length c1,.int .i64 a2,.int .i64 a3] rfl y1_ ?_;(with_reducible refine (sky_Speeds.calls k a0 _ _ l1 a2 a3 t390 t391 t392 t393 _ ?side1 ?side2 A7.out).mono ?_);(case side1=>repeat (first|exact HR1.out|(with_reducible refine Kd.C_alloc ?_ _)|(with_reducible refine Kd.C_drewN ?_ _)|(with_reducible refine Kd.C_drew ?_)));(case side2=>exact HC1.out);rintro e w9 ⟨rfl,hb⟩;refine ⟨_,rfl,?_⟩;have n0_:=A0_ (below_step y0_ hb);clear HB;have HB:=n0_;clear n0_;(try clear hb);(try clear hb2);(try clear hk);(try clear hi))|((with_reducible refine gate_dst (N:=9) rfl ?_);(try (refine gate_guard (by rfl) ?_;dsimp only));refine box_event ?hg (N:=9) ?hd (cs:=#[.int .i64 0,.int .i64 0]) (t:=60) ?hr ?_;(case hd=>rfl);(case hg=>rfl);(case hr=>first|(go_simp;done)|(go_simp;rfl));intro gb394 hg w10 hbox hb;have n0_:=A0_ (below_step y0_ hb);have n1_:=A0_ (hbox);have n2_:=A0_ ((by rw [hg];exact (below_size y0_):w.heap.size≤gb394));have n3_:=A0_ ((by rw [hg];exact (below_size y0_):w.heap.size≤gb394));clear HB;have HB:=n0_;have BK394:=n1_;have GW394:=n2_;have GE394:=n3_;clear n0_ n1_ n2_ n3_;clear hb hbox hg;obtain ⟨hcz11_0,hcz11_1,hfz11_0,hfz11_1⟩:=bq2_ BK394.out))
  (try simp only [Act.put,List.setIfInBounds_toArray,List.set_cons_zero,List.set_cons_succ])
  go_cut [39] (fun v39 wc=>∃ (kq:Nat) (x39_7:Bool),v39=.bool x39_7∧Aside0 (tl_SkySpeeds.j0 kq a0 l1 a2 a3 t392 t393 x39_7 t390 t391=some r)∧Aside0 (kq≤k)∧Aside0 (wc.heap[gb394]?=some (.cells #[.int .i64 t390,.int .i64 t391] 60 (0,0)))∧Aside0 (Below w.heap.size w wc))
  case first=>
   have H:=HC8.out
   clear HC8;replace H:=Option.bind_eq_some_iff.mp H;obtain ⟨t395,A120,H⟩:=H
   replace H:(if t395=true then ((tr_Notes.f k l1).bind fun t396=>(if t396=true then ((tr_Range.f a2 a3).bind fun t397=>(tl_SkySpeeds.j0 k a0 l1 a2 a3 t392 t393 (!t397) t390 t391)) else (tl_SkySpeeds.j0 k a0 l1 a2 a3 t392 t393 true t390 t391))) else (tl_SkySpeeds.j0 k a0 l1 a2 a3 t392 t393 true t390 t391))=some r:=H
   have A12:=A0_ A120;clear A120
   by_cases c13:t395=true
   ·subst c13
    have H1:((tr_Notes.f k l1).bind fun t396=>(if t396=true then ((tr_Range.f a2 a3).bind fun t397=>(tl_SkySpeeds.j0 k a0 l1 a2 a3 t392 t393 (!t397) t390 t391)) else (tl_SkySpeeds.j0 k a0 l1 a2 a3 t392 t393 true t390 t391)))=some r:=by rw [if_pos rfl] at H;exact H
    clear H;have H:=H1;clear H1;replace H:=Option.bind_eq_some_iff.mp H;obtain ⟨t396,A140,H⟩:=H
    replace H:(if t396=true then ((tr_Range.f a2 a3).bind fun t397=>(tl_SkySpeeds.j0 k a0 l1 a2 a3 t392 t393 (!t397) t390 t391)) else (tl_SkySpeeds.j0 k a0 l1 a2 a3 t392 t393 true t390 t391))=some r:=H
    have A14:=A0_ A140;clear A140
    by_cases c15:t396=true
    ·subst c15
     have H1:((tr_Range.f a2 a3).bind fun t397=>(tl_SkySpeeds.j0 k a0 l1 a2 a3 t392 t393 (!t397) t390 t391))=some r:=by rw [if_pos rfl] at H;exact H
     clear H;have H:=H1;clear H1;replace H:=Option.bind_eq_some_iff.mp H;obtain ⟨t397,A160,H⟩:=H
     replace H:(tl_SkySpeeds.j0 k a0 l1 a2 a3 t392 t393 (!t397) t390 t391)=some r:=H
     have A16:=A0_ A160;clear A160
     have H':=A0_ H
     clear H
     go_wp2_with (first|((with_reducible refine gate_callee (f:=23) rfl ?_);refine goesL_ (some 27) rfl rfl Tryz.func23 (by kernel_rfl) rfl #[.int .i64 a0] rfl y1_ ?_;(with_reducible refine (tr_Spot.calls a0 true _ A12.out).mono ?_);rintro e w' ⟨rfl,⟨nd,rfl⟩⟩;refine ⟨_,rfl,?_⟩)|(go_at_call 29;(with_reducible refine (tr_Notes.calls k _ _ l1 true _ ?side1 ?side2 A14.out).mono ?_);(case side1=>exact Kd.C_below HR1.out y7_);(case side2=>exact HC1.out);rintro e w' ⟨rfl,⟨nd,rfl⟩⟩)|(go_at_call 30;(with_reducible refine (tr_Range.calls a2 a3 t397 _ A16.out).mono ?_);rintro e w' ⟨rfl,⟨nd,rfl⟩⟩))
     go_meet
     case rel=>exact ⟨_,(!t397),y4_,H',⟨by first|omega|exact Nat.le_refl _⟩,⟨by (with_reducible repeat (first|refine blk_drewN ?_ _|refine blk_drew ?_|refine blk_alloc ?_ _));refine blk_put (cs:=#[.int .i64 t390,.int .i64 0]) ?_ 1 _ rfl;(with_reducible repeat (first|refine blk_drewN ?_ _|refine blk_drew ?_|refine blk_alloc ?_ _));refine blk_put (cs:=#[.int .i64 0,.int .i64 0]) ?_ 0 _ rfl;(with_reducible repeat (first|refine blk_drewN ?_ _|refine blk_drew ?_|refine blk_alloc ?_ _));exact BK394.out⟩,⟨y7_⟩⟩
    ·replace c15:=Bool.eq_false_iff.mpr c15;subst c15
     have H1:(tl_SkySpeeds.j0 k a0 l1 a2 a3 t392 t393 true t390 t391)=some r:=by rw [if_neg (show ¬ (false=true) by decide)] at H;exact H
     clear H;have H:=H1;clear H1
     have H':=A0_ H
     clear H
     go_wp2_with (first|((with_reducible refine gate_callee (f:=23) rfl ?_);refine goesL_ (some 27) rfl rfl Tryz.func23 (by kernel_rfl) rfl #[.int .i64 a0] rfl y1_ ?_;(with_reducible refine (tr_Spot.calls a0 true _ A12.out).mono ?_);rintro e w' ⟨rfl,⟨nd,rfl⟩⟩;refine ⟨_,rfl,?_⟩)|(go_at_call 29;(with_reducible refine (tr_Notes.calls k _ _ l1 false _ ?side1 ?side2 A14.out).mono ?_);(case side1=>exact Kd.C_below HR1.out y7_);(case side2=>exact HC1.out);rintro e w' ⟨rfl,⟨nd,rfl⟩⟩))
     go_meet
     case rel=>exact ⟨_,(true),y4_,H',⟨by first|omega|exact Nat.le_refl _⟩,⟨by (with_reducible repeat (first|refine blk_drewN ?_ _|refine blk_drew ?_|refine blk_alloc ?_ _));refine blk_put (cs:=#[.int .i64 t390,.int .i64 0]) ?_ 1 _ rfl;(with_reducible repeat (first|refine blk_drewN ?_ _|refine blk_drew ?_|refine blk_alloc ?_ _));refine blk_put (cs:=#[.int .i64 0,.int .i64 0]) ?_ 0 _ rfl;(with_reducible repeat (first|refine blk_drewN ?_ _|refine blk_drew ?_|refine blk_alloc ?_ _));exact BK394.out⟩,⟨y7_⟩⟩
   ·replace c13:=Bool.eq_false_iff.mpr c13;subst c13
    have H1:(tl_SkySpeeds.j0 k a0 l1 a2 a3 t392 t393 true t390 t391)=some r:=by rw [if_neg (show ¬ (false=true) by decide)] at H;exact H
    clear H;have H:=H1;clear H1
    have H':=A0_ H
    clear H
    go_wp2_with (first|((with_reducible refine gate_callee (f:=23) rfl ?_);refine goesL_ (some 27) rfl rfl Tryz.func23 (by kernel_rfl) rfl #[.int .i64 a0] rfl y1_ ?_;(with_reducible refine (tr_Spot.calls a0 false _ A12.out).mono ?_);rintro e w' ⟨rfl,⟨nd,rfl⟩⟩;refine ⟨_,rfl,?_⟩))
    go_meet
    case rel=>exact ⟨_,(true),y4_,H',⟨by first|omega|exact Nat.le_refl _⟩,⟨by (with_reducible repeat (first|refine blk_drewN ?_ _|refine blk_drew ?_|refine blk_alloc ?_ _));refine blk_put (cs:=#[.int .i64 t390,.int .i64 0]) ?_ 1 _ rfl;(with_reducible repeat (first|refine blk_drewN ?_ _|refine blk_drew ?_|refine blk_alloc ?_ _));refine blk_put (cs:=#[.int .i64 0,.int .i64 0]) ?_ 0 _ rfl;(with_reducible repeat (first|refine blk_drewN ?_ _|refine blk_drew ?_|refine blk_alloc ?_ _));exact BK394.out⟩,⟨y7_⟩⟩
  case rest=>
   clear HC8;(try clear c1);(try clear c2);(try clear p2);(try clear c6);(try clear c13);(try clear c15);(try clear hcz11_0);(try clear hcz11_1);(try clear hfz11_0);(try clear hfz11_1)
   obtain ⟨kq,x39_7,rfl,HA,HJ7,BK394,HB⟩:=hcut
   cases kq with
   |zero=>exact absurd HA.out (by simp [tl_SkySpeeds.j0])
   |succ kj7=>
    have H:=HA.out
    clear HA
    simp only [tl_SkySpeeds.j0] at H
    by_cases c17:x39_7=true
    ·subst c17
     have H1:(if t393=2 then (if (t390 == 0 && (t391 == 0))=true then (if t392=0 then ((tl_known.f).bind fun t398=>(some t398)) else (some false)) else (some false)) else (some false))=some r:=by rw [if_pos rfl] at H;exact H
     clear H;have H:=H1;clear H1
     by_cases c18:t393=2
     ·rw [if_pos c18] at H
      have c18b0:(t393 == 2)=true:=beq_iff_eq.mpr c18
      have c18b1:(t393 != 2)=false:=bne_eq_false_iff_eq.mpr c18
      clear c18
      by_cases c19:(t390 == 0 && (t391 == 0))=true
      ·rw [if_pos c19] at H
       have c19b0:(t390 == 0 && (t391 == 0))=true:=c19
       (try (have c19b1:decide (t390=0 && (t391 == 0))=true:=by simpa using c19))
       (try (have c19b2:(t390 == 0 && (t391 == 0))=true:=by simpa using c19))
       clear c19
       by_cases c20:t392=0
       ·rw [if_pos c20] at H
        have c20b0:(t392 == 0)=true:=beq_iff_eq.mpr c20
        have c20b1:(t392 != 0)=false:=bne_eq_false_iff_eq.mpr c20
        clear c20;replace H:=Option.bind_eq_some_iff.mp H;obtain ⟨t398,A210,H⟩:=H
        replace H:(some t398)=some r:=H
        have A21:=A0_ A210;clear A210;obtain rfl:=Option.some.inj H;obtain ⟨hcz22_0,hcz22_1,hfz22_0,hfz22_1⟩:=bq2_ BK394.out
        go_wp2_with (first|(go_at_call 11;(with_reducible refine (tl_known.calls  t398 _ A21.out ?side1).mono ?_);(case side1=>exact LD.below HLD.out y7_);rintro e w23 ⟨rfl,hb⟩;have n0_:=A0_ (blk_below (g:=gb394) (o:=.cells #[.int .i64 t390,.int .i64 t391] 60 (0,0)) (bd_ BK394.out) hb);have n1_:=A0_ (below_step y7_ hb);clear BK394;clear HB;have BK394:=n0_;have HB:=n1_;clear n0_ n1_;(try clear hb);(try clear hb2);(try clear hk);(try clear hi)))
        go_ret
        exact ⟨y3_,y7_⟩
       ·rw [if_neg c20] at H
        have c20b0:(t392 == 0)=false:=beq_eq_false_iff_ne.mpr c20
        have c20b1:(t392 != 0)=true:=bne_iff_ne.mpr c20
        obtain rfl:=Option.some.inj H;obtain ⟨hcz24_0,hcz24_1,hfz24_0,hfz24_1⟩:=bq2_ BK394.out;go_wp2;go_ret
        exact ⟨y3_,y7_⟩
      ·rw [if_neg c19] at H
       have c19b0:(t390 == 0 && (t391 == 0))=false:=by simpa using c19
       (try (have c19b1:decide (t390=0 && (t391 == 0))=false:=by simpa using c19))
       (try (have c19b2:(t390 == 0 && (t391 == 0))=false:=by simpa using c19))
       (try (have c19b3:¬ (t390=0 && (t391 == 0)):=by simpa using c19))
       clear c19;obtain rfl:=Option.some.inj H;obtain ⟨hcz25_0,hcz25_1,hfz25_0,hfz25_1⟩:=bq2_ BK394.out;go_wp2;go_ret
       exact ⟨y3_,y7_⟩
     ·rw [if_neg c18] at H
      have c18b0:(t393 == 2)=false:=beq_eq_false_iff_ne.mpr c18
      have c18b1:(t393 != 2)=true:=bne_iff_ne.mpr c18
      obtain rfl:=Option.some.inj H;go_wp2;go_ret
      exact ⟨y3_,y7_⟩
    ·replace c17:=Bool.eq_false_iff.mpr c17;subst c17
     have H1:((tr_Speeds.f kj7 a0 l1 a2 a3).bind fun t399=>(if (t399.length:Int)=0 then (if t393=5 then (if (t390 == 0 && (t391 == 0))=true then (if t392=0 then ((tl_known.f).bind fun t402=>(some t402)) else (some false)) else (some false)) else (some false)) else (if t393=0 then (if 0<(t399.length:Int) then (if 0≤(wrap64 ((t399.length:Int) - 1)) then (if (wrap64 ((t399.length:Int) - 1))<(t399.length:Int) then (if (t390 == (rd t399 0) && (t391 == (rd t399 (wrap64 ((t399.length:Int) - 1)))))=true then (if t392=(t399.length:Int) then ((tl_known.f).bind fun t405=>(some t405)) else (some false)) else (some false)) else (none)) else (none)) else (none)) else (some false))))=some r:=by rw [if_neg (show ¬ (false=true) by decide)] at H;exact H
     clear H;have H:=H1;clear H1;replace H:=Option.bind_eq_some_iff.mp H;obtain ⟨t399,A260,H⟩:=H
     replace H:(if (t399.length:Int)=0 then (if t393=5 then (if (t390 == 0 && (t391 == 0))=true then (if t392=0 then ((tl_known.f).bind fun t402=>(some t402)) else (some false)) else (some false)) else (some false)) else (if t393=0 then (if 0<(t399.length:Int) then (if 0≤(wrap64 ((t399.length:Int) - 1)) then (if (wrap64 ((t399.length:Int) - 1))<(t399.length:Int) then (if (t390 == (rd t399 0) && (t391 == (rd t399 (wrap64 ((t399.length:Int) - 1)))))=true then (if t392=(t399.length:Int) then ((tl_known.f).bind fun t405=>(some t405)) else (some false)) else (some false)) else (none)) else (none)) else (none)) else (some false)))=some r:=H
     have A26:=A0_ A260;clear A260
     by_cases c27:(t399.length:Int)=0
     ·rw [if_pos c27] at H
      have c27b0:((t399.length:Int) == 0)=true:=beq_iff_eq.mpr c27
      have c27b1:((t399.length:Int) != 0)=false:=bne_eq_false_iff_eq.mpr c27
      clear c27
      by_cases c28:t393=5
      ·rw [if_pos c28] at H
       have c28b0:(t393 == 5)=true:=beq_iff_eq.mpr c28
       have c28b1:(t393 != 5)=false:=bne_eq_false_iff_eq.mpr c28
       clear c28
       by_cases c29:(t390 == 0 && (t391 == 0))=true
       ·rw [if_pos c29] at H
        have c29b0:(t390 == 0 && (t391 == 0))=true:=c29
        (try (have c29b1:decide (t390=0 && (t391 == 0))=true:=by simpa using c29))
        (try (have c29b2:(t390 == 0 && (t391 == 0))=true:=by simpa using c29))
        clear c29
        by_cases c30:t392=0
        ·rw [if_pos c30] at H
         have c30b0:(t392 == 0)=true:=beq_iff_eq.mpr c30
         have c30b1:(t392 != 0)=false:=bne_eq_false_iff_eq.mpr c30
         clear c30;replace H:=Option.bind_eq_some_iff.mp H;obtain ⟨t402,A310,H⟩:=H
         replace H:(some t402)=some r:=H
         have A31:=A0_ A310;clear A310;obtain rfl:=Option.some.inj H
         go_wp2_with (first|((with_reducible refine gate_callee (f:=31) rfl ?_);refine goesL_ (some 58) rfl rfl Tryz.func31 (by kernel_rfl) rfl #[.int .i64 a0,.slice A1 l1.length c1,.int .i64 a2,.int .i64 a3] rfl y1_ ?_;(with_reducible refine (tr_Speeds.calls kj7 a0 _ _ l1 a2 a3 t399 _ ?side1 ?side2 A26.out).mono ?_);(case side1=>repeat (first|exact (Kd.C_below HR1.out HB.out)|(with_reducible refine Kd.C_alloc ?_ _)|(with_reducible refine Kd.C_drewN ?_ _)|(with_reducible refine Kd.C_drew ?_)));(case side2=>exact HC1.out);rintro e w32 ⟨v400,rfl,ho0,hb⟩;refine ⟨_,rfl,?_⟩;have n0_:=A0_ (Kd.R_lower ho0 (below_size y7_));have n1_:=A0_ (blk_below (g:=gb394) (o:=.cells #[.int .i64 t390,.int .i64 t391] 60 (0,0)) (bd_ BK394.out) hb);have n2_:=A0_ (below_step y7_ hb);clear BK394;clear HB;have HO401:=n0_;have BK394:=n1_;have HB:=n2_;clear n0_ n1_ n2_;(try clear hb);(try clear hb2);(try clear hk);(try clear hi);(try clear ho0);obtain ⟨Ao33,co33,eo33⟩:=Kd.R_slice HO401.out;subst eo33;obtain ⟨hcz34_0,hcz34_1,hfz34_0,hfz34_1⟩:=bq2_ BK394.out)|(go_at_call 11;(with_reducible refine (tl_known.calls  t402 _ A31.out ?side1).mono ?_);(case side1=>exact LD.below HLD.out y7_);rintro e w35 ⟨rfl,hb⟩;have n0_:=A0_ (Kd.R_below (rd_ HO401.out) hb);have n1_:=A0_ (blk_below (g:=gb394) (o:=.cells #[.int .i64 t390,.int .i64 t391] 60 (0,0)) (bd_ BK394.out) hb);have n2_:=A0_ (below_step y7_ hb);clear HO401;clear BK394;clear HB;have HO401:=n0_;have BK394:=n1_;have HB:=n2_;clear n0_ n1_ n2_;(try clear hb);(try clear hb2);(try clear hk);(try clear hi)))
         go_ret
         exact ⟨y3_,y7_⟩
        ·rw [if_neg c30] at H
         have c30b0:(t392 == 0)=false:=beq_eq_false_iff_ne.mpr c30
         have c30b1:(t392 != 0)=true:=bne_iff_ne.mpr c30
         obtain rfl:=Option.some.inj H
         go_wp2_with (first|((with_reducible refine gate_callee (f:=31) rfl ?_);refine goesL_ (some 58) rfl rfl Tryz.func31 (by kernel_rfl) rfl #[.int .i64 a0,.slice A1 l1.length c1,.int .i64 a2,.int .i64 a3] rfl y1_ ?_;(with_reducible refine (tr_Speeds.calls kj7 a0 _ _ l1 a2 a3 t399 _ ?side1 ?side2 A26.out).mono ?_);(case side1=>repeat (first|exact (Kd.C_below HR1.out HB.out)|(with_reducible refine Kd.C_alloc ?_ _)|(with_reducible refine Kd.C_drewN ?_ _)|(with_reducible refine Kd.C_drew ?_)));(case side2=>exact HC1.out);rintro e w36 ⟨v400,rfl,ho0,hb⟩;refine ⟨_,rfl,?_⟩;have n0_:=A0_ (Kd.R_lower ho0 (below_size y7_));have n1_:=A0_ (blk_below (g:=gb394) (o:=.cells #[.int .i64 t390,.int .i64 t391] 60 (0,0)) (bd_ BK394.out) hb);have n2_:=A0_ (below_step y7_ hb);clear BK394;clear HB;have HO401:=n0_;have BK394:=n1_;have HB:=n2_;clear n0_ n1_ n2_;(try clear hb);(try clear hb2);(try clear hk);(try clear hi);(try clear ho0);obtain ⟨Ao37,co37,eo37⟩:=Kd.R_slice HO401.out;subst eo37;obtain ⟨hcz38_0,hcz38_1,hfz38_0,hfz38_1⟩:=bq2_ BK394.out))
         go_ret
         exact ⟨y3_,y7_⟩
       ·rw [if_neg c29] at H
        have c29b0:(t390 == 0 && (t391 == 0))=false:=by simpa using c29
        (try (have c29b1:decide (t390=0 && (t391 == 0))=false:=by simpa using c29))
        (try (have c29b2:(t390 == 0 && (t391 == 0))=false:=by simpa using c29))
        (try (have c29b3:¬ (t390=0 && (t391 == 0)):=by simpa using c29))
        clear c29;obtain rfl:=Option.some.inj H
        go_wp2_with (first|((with_reducible refine gate_callee (f:=31) rfl ?_);refine goesL_ (some 58) rfl rfl Tryz.func31 (by kernel_rfl) rfl #[.int .i64 a0,.slice A1 l1.length c1,.int .i64 a2,.int .i64 a3] rfl y1_ ?_;(with_reducible refine (tr_Speeds.calls kj7 a0 _ _ l1 a2 a3 t399 _ ?side1 ?side2 A26.out).mono ?_);(case side1=>repeat (first|exact (Kd.C_below HR1.out HB.out)|(with_reducible refine Kd.C_alloc ?_ _)|(with_reducible refine Kd.C_drewN ?_ _)|(with_reducible refine Kd.C_drew ?_)));(case side2=>exact HC1.out);rintro e w39 ⟨v400,rfl,ho0,hb⟩;refine ⟨_,rfl,?_⟩;have n0_:=A0_ (Kd.R_lower ho0 (below_size y7_));have n1_:=A0_ (blk_below (g:=gb394) (o:=.cells #[.int .i64 t390,.int .i64 t391] 60 (0,0)) (bd_ BK394.out) hb);have n2_:=A0_ (below_step y7_ hb);clear BK394;clear HB;have HO401:=n0_;have BK394:=n1_;have HB:=n2_;clear n0_ n1_ n2_;(try clear hb);(try clear hb2);(try clear hk);(try clear hi);(try clear ho0);obtain ⟨Ao40,co40,eo40⟩:=Kd.R_slice HO401.out;subst eo40;obtain ⟨hcz41_0,hcz41_1,hfz41_0,hfz41_1⟩:=bq2_ BK394.out))
        go_ret
        exact ⟨y3_,y7_⟩
      ·rw [if_neg c28] at H
       have c28b0:(t393 == 5)=false:=beq_eq_false_iff_ne.mpr c28
       have c28b1:(t393 != 5)=true:=bne_iff_ne.mpr c28
       obtain rfl:=Option.some.inj H
       go_wp2_with (first|((with_reducible refine gate_callee (f:=31) rfl ?_);refine goesL_ (some 58) rfl rfl Tryz.func31 (by kernel_rfl) rfl #[.int .i64 a0,.slice A1 l1.length c1,.int .i64 a2,.int .i64 a3] rfl y1_ ?_;(with_reducible refine (tr_Speeds.calls kj7 a0 _ _ l1 a2 a3 t399 _ ?side1 ?side2 A26.out).mono ?_);(case side1=>repeat (first|exact (Kd.C_below HR1.out HB.out)|(with_reducible refine Kd.C_alloc ?_ _)|(with_reducible refine Kd.C_drewN ?_ _)|(with_reducible refine Kd.C_drew ?_)));(case side2=>exact HC1.out);rintro e w42 ⟨v400,rfl,ho0,hb⟩;refine ⟨_,rfl,?_⟩;have n0_:=A0_ (Kd.R_lower ho0 (below_size y7_));have n1_:=A0_ (blk_below (g:=gb394) (o:=.cells #[.int .i64 t390,.int .i64 t391] 60 (0,0)) (bd_ BK394.out) hb);have n2_:=A0_ (below_step y7_ hb);clear BK394;clear HB;have HO401:=n0_;have BK394:=n1_;have HB:=n2_;clear n0_ n1_ n2_;(try clear hb);(try clear hb2);(try clear hk);(try clear hi);(try clear ho0);obtain ⟨Ao43,co43,eo43⟩:=Kd.R_slice HO401.out;subst eo43))
       go_ret
       exact ⟨y3_,y7_⟩
     ·rw [if_neg c27] at H
      have c27b0:((t399.length:Int) == 0)=false:=beq_eq_false_iff_ne.mpr c27
      have c27b1:((t399.length:Int) != 0)=true:=bne_iff_ne.mpr c27
      have c27b2:¬ (t399=[]):=fun h_=>c27 (by rw [h_];rfl)
      by_cases c44:t393=0
      ·rw [if_pos c44] at H
       have c44b0:(t393 == 0)=true:=beq_iff_eq.mpr c44
       have c44b1:(t393 != 0)=false:=bne_eq_false_iff_eq.mpr c44
       clear c44
       by_cases c45:0<(t399.length:Int)
       ·rw [if_pos c45] at H;have c45b0:decide (0<(t399.length:Int))=true:=decide_eq_true c45
        have c45b1:decide (0<t399.length)=true:=decide_eq_true (by omega)
        clear c45
        obtain ⟨ji46,hji46⟩:∃ j_:Int,(wrap64 ((t399.length:Int) - 1))=j_:=⟨_,rfl⟩
        replace H:(if 0≤(ji46) then (if (ji46)<(t399.length:Int) then (if (t390 == (rd t399 0) && (t391 == (rd t399 (ji46))))=true then (if t392=(t399.length:Int) then ((tl_known.f).bind fun t405=>(some t405)) else (some false)) else (some false)) else (none)) else (none))=some r:=by first|(rw [hji46] at H;exact H)|(simp only [hji46] at H ⊢;exact H)
        (try rw [hji46] at A26)
        have hji46w:(IntKind.i64.wrap ((t399.length:Int) - 1))=ji46:=(i64_w _).trans hji46
        by_cases c47:0≤(ji46)
        ·rw [if_pos c47] at H;have c47b0:decide (0≤(ji46))=true:=decide_eq_true c47;clear c47
         by_cases c48:(ji46)<(t399.length:Int)
         ·rw [if_pos c48] at H;have c48b0:decide ((ji46)<(t399.length:Int))=true:=decide_eq_true c48;clear c48
          by_cases c49:(t390 == (rd t399 0) && (t391 == (rd t399 (ji46))))=true
          ·rw [if_pos c49] at H
           have c49b0:(t390 == (rd t399 0) && (t391 == (rd t399 (ji46))))=true:=c49
           (try (have c49b1:decide (t390=(rd t399 0) && (t391 == (rd t399 (ji46))))=true:=by simpa using c49))
           (try (have c49b2:(t390 == (rd t399 0) && (t391 == (rd t399 (ji46))))=true:=by simpa using c49))
           clear c49
           by_cases c50:t392=(t399.length:Int)
           ·rw [if_pos c50] at H
            have c50b0:(t392 == (t399.length:Int))=true:=beq_iff_eq.mpr c50
            have c50b1:(t392 != (t399.length:Int))=false:=bne_eq_false_iff_eq.mpr c50
            clear c50;replace H:=Option.bind_eq_some_iff.mp H;obtain ⟨t405,A510,H⟩:=H
            replace H:(some t405)=some r:=H
            have A51:=A0_ A510;clear A510;obtain rfl:=Option.some.inj H
            try go_wp2_with (first|((with_reducible refine gate_callee (f:=31) rfl ?_);refine goesL_ (some 58) rfl rfl Tryz.func31 (by kernel_rfl) rfl #[.int .i64 a0,.slice A1 l1.length c1,.int .i64 a2,.int .i64 a3] rfl y1_ ?_;(with_reducible refine (tr_Speeds.calls kj7 a0 _ _ l1 a2 a3 t399 _ ?side1 ?side2 A26.out).mono ?_);(case side1=>repeat (first|exact (Kd.C_below HR1.out HB.out)|(with_reducible refine Kd.C_alloc ?_ _)|(with_reducible refine Kd.C_drewN ?_ _)|(with_reducible refine Kd.C_drew ?_)));(case side2=>exact HC1.out);rintro e w52 ⟨v400,rfl,ho0,hb⟩;refine ⟨_,rfl,?_⟩;have n0_:=A0_ (Kd.R_lower ho0 (below_size y7_));have n1_:=A0_ (blk_below (g:=gb394) (o:=.cells #[.int .i64 t390,.int .i64 t391] 60 (0,0)) (bd_ BK394.out) hb);have n2_:=A0_ (below_step y7_ hb);clear BK394;clear HB;have HO401:=n0_;have BK394:=n1_;have HB:=n2_;clear n0_ n1_ n2_;(try clear hb);(try clear hb2);(try clear hk);(try clear hi);(try clear ho0);obtain ⟨Ao53,co53,eo53⟩:=Kd.R_slice HO401.out;subst eo53))
            have n0_:=A0_ (Kd.R_drew HO401.out);have n1_:=A0_ (blk_drew BK394.out);have n2_:=A0_ (below_drew1 HB.out);clear HO401;clear BK394;clear HB;have HO401:=n0_;have BK394:=n1_;have HB:=n2_;clear n0_ n1_ n2_
            have p403:0≤(0:Int):=(by omega)
            have q403:0<(t399.length:Int):=of_decide_eq_true y2_
            obtain ⟨ad403,e403,hx403_0⟩:=Kd.at_int (Kd.R_reads' HO401.out).2.2 0 p403 q403
            cases e403
            have qi403:(0<t399.length)=True:=eq_true (by omega)
            (try rw [show ((0:Int)).toNat=0 from rfl] at hx403_0)
            (try rw [Addr.add_zero'] at hx403_0)
            replace p403:=eq_true p403
            replace q403:=eq_true q403
            have p404:0≤((ji46):Int):=of_decide_eq_true y2_
            have q404:(ji46)<(t399.length:Int):=of_decide_eq_true y2_
            obtain ⟨ad404,e404,hx404_0⟩:=Kd.at_int (Kd.R_reads' HO401.out).2.2 (ji46) p404 q404
            obtain rfl:ad403=ad404:=(by injection e404)
            replace p404:=eq_true p404
            replace q404:=eq_true q404
            refine start_ (n:=26) (S:=fun w'=>w'.cell? ⟨gb394,0,none⟩=some (.int .i64 t390)∧w'.cell? ⟨gb394,1,none⟩=some (.int .i64 t391)∧w'.cell? ad403=some (.int .i64 (rd t399 0))∧w'.cell? (ad403.add ((ji46)).toNat)=some (.int .i64 (rd t399 (ji46)))) (ds:=[]) #[false,false,false,false,false,false,false,false,false,false,false,false,false,false,false,false,false,false,false,false,false,false,false,false,false,false] (by kernel_rfl) rfl rfl ⟨(blk_cell BK394.out 0).trans rfl,(blk_cell BK394.out 1).trans rfl,hx403_0,hx404_0⟩ (fun hHeld=>?_);refine with_tabW tl_SkySpeeds.tab9 tl_SkySpeeds.bits9 (fun HT_ HW_=>?_)
            generalize w52.drew=w54 at HO401 BK394 HB hx403_0 hx404_0 hHeld ⊢
            refine pu_ (i:=0) (N:=some 76) ?_;refine pu_ (i:=1) (N:=some 77) ?_;refine pu_ (i:=2) (N:=some 78) ?_;refine pu_ (i:=4) (N:=some 80) ?_;refine pu_ (i:=5) (N:=some 81) ?_;refine pu_ (i:=7) (N:=some 83) ?_;refine pu_ (i:=8) (N:=some 84) ?_;refine pu_ (i:=9) (N:=some 85) ?_;refine pu_ (i:=10) (N:=some 86) ?_;refine pu_ (i:=11) (N:=some 87) ?_;refine ta_ (i:=3) (N:=some 79) ?_;refine ta_ (i:=6) (N:=some 82) ?_;refine ta_ (i:=12) (N:=some 88) ?_;refine pu_ (i:=13) (N:=some 89) ?_;refine pu_ (i:=14) (N:=some 90) ?_;refine pu_ (i:=15) (N:=some 91) ?_;refine pu_ (i:=16) (N:=some 92) ?_;refine pu_ (i:=17) (N:=some 93) ?_;refine pu_ (i:=18) (N:=some 94) ?_;refine pu_ (i:=19) (N:=some 95) ?_;refine pu_ (i:=20) (N:=some 96) ?_;refine pu_ (i:=21) (N:=some 97) ?_;refine pu_ (i:=22) (N:=some 98) ?_
            refine one_ (i:=23) (N:=some 99) #[true,true,true,true,true,true,true,true,true,true,true,true,true,true,true,true,true,true,true,true,true,true,true,true,false,false] rfl rfl (one_of HT_.out (by kernel_rfl)) (by decide) (fun K hK=>?_)
            refine goes_ Tryz.func11 (by kernel_rfl) rfl #[] (by rfl) rfl rfl y1_ ?_
            with_reducible refine (tl_known.calls  t405 _ A51.out ?side1).mono ?_
            (case side1=>exact LD.below HLD.out y7_)
            rintro e w55 ⟨rfl,hb⟩
            have HS2_:=(hb.cell (World.block_lt_of_cell? _ _ (hHeld.2.2.1))).trans (hHeld.2.2.1)
            have HS3_:=(hb.cell (World.block_lt_of_cell? _ _ (hHeld.2.2.2))).trans (hHeld.2.2.2)
            refine ⟨_,rfl,?_⟩
            have n0_:=A0_ (Kd.R_below (rd_ HO401.out) hb);have n1_:=A0_ (blk_below (g:=gb394) (o:=.cells #[.int .i64 t390,.int .i64 t391] 60 (0,0)) (bd_ BK394.out) hb);have n2_:=A0_ (below_step y7_ hb);clear HO401;clear BK394;clear HB;have HO401:=n0_;have BK394:=n1_;have HB:=n2_;clear n0_ n1_ n2_;(try clear hb);(try clear hb2);(try clear hk);(try clear hi)
            refine hK.out _ _ ⟨(blk_cell BK394.out 0).trans rfl,(blk_cell BK394.out 1).trans rfl,HS2_,HS3_⟩ (fun hHeld=>?_)
            clear hK K
            refine norm_ (a':=?_) ?_ ?_
            rotate_left
            ·show Act.put _ (some 99) _=_
             simp only [Act.put,List.setIfInBounds_toArray,List.set_cons_zero,List.set_cons_succ,i64_w,i32_w]
             rfl
            refine pu_ (i:=24) (N:=some 100) ?_;refine pu_ (i:=25) (N:=some 8) ?_
            refine done_ (done_of HT_.out (by kernel_rfl)) ?_
            try go_wp2
            go_ret
            exact ⟨by first|rfl|(simp [errW_none,errW_some] <;> rfl)|(simp only [← hji46];first|rfl|(simp [errW_none,errW_some] <;> rfl))|(simp [*,errW_none,errW_some] <;> rfl),y7_⟩
           ·rw [if_neg c50] at H
            have c50b0:(t392 == (t399.length:Int))=false:=beq_eq_false_iff_ne.mpr c50
            have c50b1:(t392 != (t399.length:Int))=true:=bne_iff_ne.mpr c50
            obtain rfl:=Option.some.inj H
            try go_wp2_with (first|((with_reducible refine gate_callee (f:=31) rfl ?_);refine goesL_ (some 58) rfl rfl Tryz.func31 (by kernel_rfl) rfl #[.int .i64 a0,.slice A1 l1.length c1,.int .i64 a2,.int .i64 a3] rfl y1_ ?_;(with_reducible refine (tr_Speeds.calls kj7 a0 _ _ l1 a2 a3 t399 _ ?side1 ?side2 A26.out).mono ?_);(case side1=>repeat (first|exact (Kd.C_below HR1.out HB.out)|(with_reducible refine Kd.C_alloc ?_ _)|(with_reducible refine Kd.C_drewN ?_ _)|(with_reducible refine Kd.C_drew ?_)));(case side2=>exact HC1.out);rintro e w56 ⟨v400,rfl,ho0,hb⟩;refine ⟨_,rfl,?_⟩;have n0_:=A0_ (Kd.R_lower ho0 (below_size y7_));have n1_:=A0_ (blk_below (g:=gb394) (o:=.cells #[.int .i64 t390,.int .i64 t391] 60 (0,0)) (bd_ BK394.out) hb);have n2_:=A0_ (below_step y7_ hb);clear BK394;clear HB;have HO401:=n0_;have BK394:=n1_;have HB:=n2_;clear n0_ n1_ n2_;(try clear hb);(try clear hb2);(try clear hk);(try clear hi);(try clear ho0);obtain ⟨Ao57,co57,eo57⟩:=Kd.R_slice HO401.out;subst eo57))
            have n0_:=A0_ (Kd.R_drew HO401.out);have n1_:=A0_ (blk_drew BK394.out);have n2_:=A0_ (below_drew1 HB.out);clear HO401;clear BK394;clear HB;have HO401:=n0_;have BK394:=n1_;have HB:=n2_;clear n0_ n1_ n2_
            have p403:0≤(0:Int):=(by omega)
            have q403:0<(t399.length:Int):=of_decide_eq_true y2_
            obtain ⟨ad403,e403,hx403_0⟩:=Kd.at_int (Kd.R_reads' HO401.out).2.2 0 p403 q403
            cases e403
            have qi403:(0<t399.length)=True:=eq_true (by omega)
            (try rw [show ((0:Int)).toNat=0 from rfl] at hx403_0)
            (try rw [Addr.add_zero'] at hx403_0)
            replace p403:=eq_true p403
            replace q403:=eq_true q403
            have p404:0≤((ji46):Int):=of_decide_eq_true y2_
            have q404:(ji46)<(t399.length:Int):=of_decide_eq_true y2_
            obtain ⟨ad404,e404,hx404_0⟩:=Kd.at_int (Kd.R_reads' HO401.out).2.2 (ji46) p404 q404
            obtain rfl:ad403=ad404:=(by injection e404)
            replace p404:=eq_true p404
            replace q404:=eq_true q404
            refine start_ (n:=26) (S:=fun w'=>w'.cell? ⟨gb394,0,none⟩=some (.int .i64 t390)∧w'.cell? ⟨gb394,1,none⟩=some (.int .i64 t391)∧w'.cell? ad403=some (.int .i64 (rd t399 0))∧w'.cell? (ad403.add ((ji46)).toNat)=some (.int .i64 (rd t399 (ji46)))) (ds:=[]) #[false,false,false,false,false,false,false,false,false,false,false,false,false,false,false,false,false,false,false,false,false,false,false,false,false,false] (by kernel_rfl) rfl rfl ⟨(blk_cell BK394.out 0).trans rfl,(blk_cell BK394.out 1).trans rfl,hx403_0,hx404_0⟩ (fun hHeld=>?_);refine with_tabW tl_SkySpeeds.tab9 tl_SkySpeeds.bits9 (fun HT_ HW_=>?_)
            generalize w56.drew=w58 at HO401 BK394 HB hx403_0 hx404_0 hHeld ⊢
            refine pu_ (i:=0) (N:=some 76) ?_;refine pu_ (i:=1) (N:=some 77) ?_;refine pu_ (i:=2) (N:=some 78) ?_;refine pu_ (i:=4) (N:=some 80) ?_;refine pu_ (i:=5) (N:=some 81) ?_;refine pu_ (i:=7) (N:=some 83) ?_;refine pu_ (i:=8) (N:=some 84) ?_;refine pu_ (i:=9) (N:=some 85) ?_;refine pu_ (i:=10) (N:=some 86) ?_;refine pu_ (i:=11) (N:=some 87) ?_;refine ta_ (i:=3) (N:=some 79) ?_;refine ta_ (i:=6) (N:=some 82) ?_;refine ta_ (i:=12) (N:=some 88) ?_;refine pu_ (i:=13) (N:=some 89) ?_;refine pu_ (i:=14) (N:=some 90) ?_;refine pu_ (i:=15) (N:=some 91) ?_;refine pu_ (i:=16) (N:=some 92) ?_;refine pu_ (i:=17) (N:=some 93) ?_;refine pu_ (i:=18) (N:=some 94) ?_;refine pu_ (i:=19) (N:=some 95) ?_;refine pu_ (i:=20) (N:=some 96) ?_;refine pu_ (i:=21) (N:=some 97) ?_;refine pu_ (i:=22) (N:=some 98) ?_
            refine pure_ (i:=23) (N:=some 99) (v:=undef) (a':=?_) #[true,true,true,true,true,true,true,true,true,true,true,true,true,true,true,true,true,true,true,true,true,true,true,true,false,false] rfl rfl (any_of HT_.out (by kernel_rfl)) (fun _ _ _ h=>h) (Or.inr ⟨by rfl,rfl⟩) ?_ ?_
            rotate_left
            ·simp only [Act.put,List.setIfInBounds_toArray,List.set_cons_zero,List.set_cons_succ,i64_w,i32_w]
             rfl
            refine pu_ (i:=24) (N:=some 100) ?_;refine pu_ (i:=25) (N:=some 8) ?_
            refine done_ (done_of HT_.out (by kernel_rfl)) ?_
            try go_wp2
            go_ret
            exact ⟨by first|rfl|(simp [errW_none,errW_some] <;> rfl)|(simp only [← hji46];first|rfl|(simp [errW_none,errW_some] <;> rfl))|(simp [*,errW_none,errW_some] <;> rfl),y7_⟩
          ·rw [if_neg c49] at H
           have c49b0:(t390 == (rd t399 0) && (t391 == (rd t399 (ji46))))=false:=by simpa using c49
           (try (have c49b1:decide (t390=(rd t399 0) && (t391 == (rd t399 (ji46))))=false:=by simpa using c49))
           (try (have c49b2:(t390 == (rd t399 0) && (t391 == (rd t399 (ji46))))=false:=by simpa using c49))
           (try (have c49b3:¬ (t390=(rd t399 0) && (t391 == (rd t399 (ji46)))):=by simpa using c49))
           clear c49;obtain rfl:=Option.some.inj H
           try go_wp2_with (first|((with_reducible refine gate_callee (f:=31) rfl ?_);refine goesL_ (some 58) rfl rfl Tryz.func31 (by kernel_rfl) rfl #[.int .i64 a0,.slice A1 l1.length c1,.int .i64 a2,.int .i64 a3] rfl y1_ ?_;(with_reducible refine (tr_Speeds.calls kj7 a0 _ _ l1 a2 a3 t399 _ ?side1 ?side2 A26.out).mono ?_);(case side1=>repeat (first|exact (Kd.C_below HR1.out HB.out)|(with_reducible refine Kd.C_alloc ?_ _)|(with_reducible refine Kd.C_drewN ?_ _)|(with_reducible refine Kd.C_drew ?_)));(case side2=>exact HC1.out);rintro e w59 ⟨v400,rfl,ho0,hb⟩;refine ⟨_,rfl,?_⟩;have n0_:=A0_ (Kd.R_lower ho0 (below_size y7_));have n1_:=A0_ (blk_below (g:=gb394) (o:=.cells #[.int .i64 t390,.int .i64 t391] 60 (0,0)) (bd_ BK394.out) hb);have n2_:=A0_ (below_step y7_ hb);clear BK394;clear HB;have HO401:=n0_;have BK394:=n1_;have HB:=n2_;clear n0_ n1_ n2_;(try clear hb);(try clear hb2);(try clear hk);(try clear hi);(try clear ho0);obtain ⟨Ao60,co60,eo60⟩:=Kd.R_slice HO401.out;subst eo60))
           have n0_:=A0_ (Kd.R_drew HO401.out);have n1_:=A0_ (blk_drew BK394.out);have n2_:=A0_ (below_drew1 HB.out);clear HO401;clear BK394;clear HB;have HO401:=n0_;have BK394:=n1_;have HB:=n2_;clear n0_ n1_ n2_
           have p403:0≤(0:Int):=(by omega)
           have q403:0<(t399.length:Int):=of_decide_eq_true y2_
           obtain ⟨ad403,e403,hx403_0⟩:=Kd.at_int (Kd.R_reads' HO401.out).2.2 0 p403 q403
           cases e403
           have qi403:(0<t399.length)=True:=eq_true (by omega)
           (try rw [show ((0:Int)).toNat=0 from rfl] at hx403_0)
           (try rw [Addr.add_zero'] at hx403_0)
           replace p403:=eq_true p403
           replace q403:=eq_true q403
           have p404:0≤((ji46):Int):=of_decide_eq_true y2_
           have q404:(ji46)<(t399.length:Int):=of_decide_eq_true y2_
           obtain ⟨ad404,e404,hx404_0⟩:=Kd.at_int (Kd.R_reads' HO401.out).2.2 (ji46) p404 q404
           obtain rfl:ad403=ad404:=(by injection e404)
           replace p404:=eq_true p404
           replace q404:=eq_true q404
           refine start_ (n:=26) (S:=fun w'=>w'.cell? ⟨gb394,0,none⟩=some (.int .i64 t390)∧w'.cell? ⟨gb394,1,none⟩=some (.int .i64 t391)∧w'.cell? ad403=some (.int .i64 (rd t399 0))∧w'.cell? (ad403.add ((ji46)).toNat)=some (.int .i64 (rd t399 (ji46)))) (ds:=[]) #[false,false,false,false,false,false,false,false,false,false,false,false,false,false,false,false,false,false,false,false,false,false,false,false,false,false] (by kernel_rfl) rfl rfl ⟨(blk_cell BK394.out 0).trans rfl,(blk_cell BK394.out 1).trans rfl,hx403_0,hx404_0⟩ (fun hHeld=>?_);refine with_tabW tl_SkySpeeds.tab9 tl_SkySpeeds.bits9 (fun HT_ HW_=>?_)
           generalize w59.drew=w61 at HO401 BK394 HB hx403_0 hx404_0 hHeld ⊢
           refine pu_ (i:=0) (N:=some 76) ?_;refine pu_ (i:=1) (N:=some 77) ?_;refine pu_ (i:=2) (N:=some 78) ?_;refine pu_ (i:=4) (N:=some 80) ?_;refine pu_ (i:=5) (N:=some 81) ?_;refine pu_ (i:=7) (N:=some 83) ?_;refine pu_ (i:=8) (N:=some 84) ?_;refine pu_ (i:=9) (N:=some 85) ?_;refine pu_ (i:=10) (N:=some 86) ?_;refine pu_ (i:=11) (N:=some 87) ?_;refine ta_ (i:=3) (N:=some 79) ?_;refine ta_ (i:=6) (N:=some 82) ?_;refine ta_ (i:=12) (N:=some 88) ?_;refine pu_ (i:=13) (N:=some 89) ?_;refine pu_ (i:=14) (N:=some 90) ?_;refine pu_ (i:=15) (N:=some 91) ?_;refine pu_ (i:=16) (N:=some 92) ?_
           refine pure_ (i:=17) (N:=some 93) (v:=undef) (a':=?_) #[true,true,true,true,true,true,true,true,true,true,true,true,true,true,true,true,true,true,false,false,false,false,false,false,false,false] rfl rfl (any_of HT_.out (by kernel_rfl)) (fun _ _ _ h=>h) (Or.inr ⟨by rfl,rfl⟩) ?_ ?_
           rotate_left
           ·simp only [Act.put,List.setIfInBounds_toArray,List.set_cons_zero,List.set_cons_succ,i64_w,i32_w]
            rfl
           refine pure_ (i:=18) (N:=some 94) (v:=undef) (a':=?_) #[true,true,true,true,true,true,true,true,true,true,true,true,true,true,true,true,true,true,true,false,false,false,false,false,false,false] rfl rfl (any_of HT_.out (by kernel_rfl)) (fun _ _ _ h=>h) (Or.inr ⟨by rfl,rfl⟩) ?_ ?_
           rotate_left
           ·simp only [Act.put,List.setIfInBounds_toArray,List.set_cons_zero,List.set_cons_succ,i64_w,i32_w]
            rfl
           refine pure_ (i:=19) (N:=some 95) (v:=undef) (a':=?_) #[true,true,true,true,true,true,true,true,true,true,true,true,true,true,true,true,true,true,true,true,false,false,false,false,false,false] rfl rfl (any_of HT_.out (by kernel_rfl)) (fun _ _ _ h=>h) (Or.inr ⟨by rfl,rfl⟩) ?_ ?_
           rotate_left
           ·simp only [Act.put,List.setIfInBounds_toArray,List.set_cons_zero,List.set_cons_succ,i64_w,i32_w]
            rfl
           refine pure_ (i:=20) (N:=some 96) (v:=undef) (a':=?_) #[true,true,true,true,true,true,true,true,true,true,true,true,true,true,true,true,true,true,true,true,true,false,false,false,false,false] rfl rfl (any_of HT_.out (by kernel_rfl)) (fun _ _ _ h=>h) (Or.inr ⟨by rfl,rfl⟩) ?_ ?_
           rotate_left
           ·simp only [Act.put,List.setIfInBounds_toArray,List.set_cons_zero,List.set_cons_succ,i64_w,i32_w]
            rfl
           refine pu_ (i:=21) (N:=some 97) ?_;refine pu_ (i:=22) (N:=some 98) ?_
           refine pure_ (i:=23) (N:=some 99) (v:=undef) (a':=?_) #[true,true,true,true,true,true,true,true,true,true,true,true,true,true,true,true,true,true,true,true,true,true,true,true,false,false] rfl rfl (any_of HT_.out (by kernel_rfl)) (fun _ _ _ h=>h) (Or.inr ⟨by rfl,rfl⟩) ?_ ?_
           rotate_left
           ·simp only [Act.put,List.setIfInBounds_toArray,List.set_cons_zero,List.set_cons_succ,i64_w,i32_w]
            rfl
           refine pu_ (i:=24) (N:=some 100) ?_;refine pu_ (i:=25) (N:=some 8) ?_
           refine done_ (done_of HT_.out (by kernel_rfl)) ?_
           try go_wp2
           go_ret
           exact ⟨by first|rfl|(simp [errW_none,errW_some] <;> rfl)|(simp only [← hji46];first|rfl|(simp [errW_none,errW_some] <;> rfl))|(simp [*,errW_none,errW_some] <;> rfl),y7_⟩
         ·rw [if_neg c48] at H;exact absurd H (by simp)
        ·rw [if_neg c47] at H;exact absurd H (by simp)
       ·rw [if_neg c45] at H;exact absurd H (by simp)
      ·rw [if_neg c44] at H
       have c44b0:(t393 == 0)=false:=beq_eq_false_iff_ne.mpr c44
       have c44b1:(t393 != 0)=true:=bne_iff_ne.mpr c44
       obtain rfl:=Option.some.inj H
       try go_wp2_with (first|((with_reducible refine gate_callee (f:=31) rfl ?_);refine goesL_ (some 58) rfl rfl Tryz.func31 (by kernel_rfl) rfl #[.int .i64 a0,.slice A1 l1.length c1,.int .i64 a2,.int .i64 a3] rfl y1_ ?_;(with_reducible refine (tr_Speeds.calls kj7 a0 _ _ l1 a2 a3 t399 _ ?side1 ?side2 A26.out).mono ?_);(case side1=>repeat (first|exact (Kd.C_below HR1.out HB.out)|(with_reducible refine Kd.C_alloc ?_ _)|(with_reducible refine Kd.C_drewN ?_ _)|(with_reducible refine Kd.C_drew ?_)));(case side2=>exact HC1.out);rintro e w62 ⟨v400,rfl,ho0,hb⟩;refine ⟨_,rfl,?_⟩;have n0_:=A0_ (Kd.R_lower ho0 (below_size y7_));have n1_:=A0_ (blk_below (g:=gb394) (o:=.cells #[.int .i64 t390,.int .i64 t391] 60 (0,0)) (bd_ BK394.out) hb);have n2_:=A0_ (below_step y7_ hb);clear BK394;clear HB;have HO401:=n0_;have BK394:=n1_;have HB:=n2_;clear n0_ n1_ n2_;(try clear hb);(try clear hb2);(try clear hk);(try clear hi);(try clear ho0);obtain ⟨Ao63,co63,eo63⟩:=Kd.R_slice HO401.out;subst eo63))
       have n0_:=A0_ (Kd.R_drew HO401.out);have n1_:=A0_ (blk_drew BK394.out);have n2_:=A0_ (below_drew1 HB.out);clear HO401;clear BK394;clear HB;have HO401:=n0_;have BK394:=n1_;have HB:=n2_;clear n0_ n1_ n2_
       refine start_ (n:=26) (S:=fun w'=>True) (ds:=[]) #[false,false,false,false,false,false,false,false,false,false,false,false,false,false,false,false,false,false,false,false,false,false,false,false,false,false] (by kernel_rfl) rfl rfl trivial (fun hHeld=>?_);refine with_tabW tl_SkySpeeds.tab9 tl_SkySpeeds.bits9 (fun HT_ HW_=>?_)
       generalize w62.drew=w64 at HO401 BK394 HB hHeld ⊢
       refine pu_ (i:=0) (N:=some 76) ?_;refine pu_ (i:=1) (N:=some 77) ?_;refine pu_ (i:=2) (N:=some 78) ?_
       refine pure_ (i:=3) (N:=some 79) (v:=undef) (a':=?_) #[true,true,true,true,false,false,false,false,false,false,false,false,false,false,false,false,false,false,false,false,false,false,false,false,false,false] rfl rfl (any_of HT_.out (by kernel_rfl)) (fun _ _ _ h=>h) (Or.inr ⟨by rfl,rfl⟩) ?_ ?_
       rotate_left
       ·simp only [Act.put,List.setIfInBounds_toArray,List.set_cons_zero,List.set_cons_succ,i64_w,i32_w]
        rfl
       refine pure_ (i:=4) (N:=some 80) (v:=undef) (a':=?_) #[true,true,true,true,true,false,false,false,false,false,false,false,false,false,false,false,false,false,false,false,false,false,false,false,false,false] rfl rfl (any_of HT_.out (by kernel_rfl)) (fun _ _ _ h=>h) (Or.inr ⟨by rfl,rfl⟩) ?_ ?_
       rotate_left
       ·simp only [Act.put,List.setIfInBounds_toArray,List.set_cons_zero,List.set_cons_succ,i64_w,i32_w]
        rfl
       refine pure_ (i:=5) (N:=some 81) (v:=undef) (a':=?_) #[true,true,true,true,true,true,false,false,false,false,false,false,false,false,false,false,false,false,false,false,false,false,false,false,false,false] rfl rfl (any_of HT_.out (by kernel_rfl)) (fun _ _ _ h=>h) (Or.inr ⟨by rfl,rfl⟩) ?_ ?_
       rotate_left
       ·simp only [Act.put,List.setIfInBounds_toArray,List.set_cons_zero,List.set_cons_succ,i64_w,i32_w]
        rfl
       refine pure_ (i:=6) (N:=some 82) (v:=undef) (a':=?_) #[true,true,true,true,true,true,true,false,false,false,false,false,false,false,false,false,false,false,false,false,false,false,false,false,false,false] rfl rfl (any_of HT_.out (by kernel_rfl)) (fun _ _ _ h=>h) (Or.inr ⟨by rfl,rfl⟩) ?_ ?_
       rotate_left
       ·simp only [Act.put,List.setIfInBounds_toArray,List.set_cons_zero,List.set_cons_succ,i64_w,i32_w]
        rfl
       refine pure_ (i:=7) (N:=some 83) (v:=undef) (a':=?_) #[true,true,true,true,true,true,true,true,false,false,false,false,false,false,false,false,false,false,false,false,false,false,false,false,false,false] rfl rfl (any_of HT_.out (by kernel_rfl)) (fun _ _ _ h=>h) (Or.inr ⟨by rfl,rfl⟩) ?_ ?_
       rotate_left
       ·simp only [Act.put,List.setIfInBounds_toArray,List.set_cons_zero,List.set_cons_succ,i64_w,i32_w]
        rfl
       refine pure_ (i:=8) (N:=some 84) (v:=undef) (a':=?_) #[true,true,true,true,true,true,true,true,true,false,false,false,false,false,false,false,false,false,false,false,false,false,false,false,false,false] rfl rfl (any_of HT_.out (by kernel_rfl)) (fun _ _ _ h=>h) (Or.inr ⟨by rfl,rfl⟩) ?_ ?_
       rotate_left
       ·simp only [Act.put,List.setIfInBounds_toArray,List.set_cons_zero,List.set_cons_succ,i64_w,i32_w]
        rfl
       refine pure_ (i:=9) (N:=some 85) (v:=undef) (a':=?_) #[true,true,true,true,true,true,true,true,true,true,false,false,false,false,false,false,false,false,false,false,false,false,false,false,false,false] rfl rfl (any_of HT_.out (by kernel_rfl)) (fun _ _ _ h=>h) (Or.inr ⟨by rfl,rfl⟩) ?_ ?_
       rotate_left
       ·simp only [Act.put,List.setIfInBounds_toArray,List.set_cons_zero,List.set_cons_succ,i64_w,i32_w]
        rfl
       refine pure_ (i:=10) (N:=some 86) (v:=undef) (a':=?_) #[true,true,true,true,true,true,true,true,true,true,true,false,false,false,false,false,false,false,false,false,false,false,false,false,false,false] rfl rfl (any_of HT_.out (by kernel_rfl)) (fun _ _ _ h=>h) (Or.inr ⟨by rfl,rfl⟩) ?_ ?_
       rotate_left
       ·simp only [Act.put,List.setIfInBounds_toArray,List.set_cons_zero,List.set_cons_succ,i64_w,i32_w]
        rfl
       refine pure_ (i:=11) (N:=some 87) (v:=undef) (a':=?_) #[true,true,true,true,true,true,true,true,true,true,true,true,false,false,false,false,false,false,false,false,false,false,false,false,false,false] rfl rfl (any_of HT_.out (by kernel_rfl)) (fun _ _ _ h=>h) (Or.inr ⟨by rfl,rfl⟩) ?_ ?_
       rotate_left
       ·simp only [Act.put,List.setIfInBounds_toArray,List.set_cons_zero,List.set_cons_succ,i64_w,i32_w]
        rfl
       refine pure_ (i:=12) (N:=some 88) (v:=undef) (a':=?_) #[true,true,true,true,true,true,true,true,true,true,true,true,true,false,false,false,false,false,false,false,false,false,false,false,false,false] rfl rfl (any_of HT_.out (by kernel_rfl)) (fun _ _ _ h=>h) (Or.inr ⟨by rfl,rfl⟩) ?_ ?_
       rotate_left
       ·simp only [Act.put,List.setIfInBounds_toArray,List.set_cons_zero,List.set_cons_succ,i64_w,i32_w]
        rfl
       refine pure_ (i:=13) (N:=some 89) (v:=undef) (a':=?_) #[true,true,true,true,true,true,true,true,true,true,true,true,true,true,false,false,false,false,false,false,false,false,false,false,false,false] rfl rfl (any_of HT_.out (by kernel_rfl)) (fun _ _ _ h=>h) (Or.inr ⟨by rfl,rfl⟩) ?_ ?_
       rotate_left
       ·simp only [Act.put,List.setIfInBounds_toArray,List.set_cons_zero,List.set_cons_succ,i64_w,i32_w]
        rfl
       refine pure_ (i:=14) (N:=some 90) (v:=undef) (a':=?_) #[true,true,true,true,true,true,true,true,true,true,true,true,true,true,true,false,false,false,false,false,false,false,false,false,false,false] rfl rfl (any_of HT_.out (by kernel_rfl)) (fun _ _ _ h=>h) (Or.inr ⟨by rfl,rfl⟩) ?_ ?_
       rotate_left
       ·simp only [Act.put,List.setIfInBounds_toArray,List.set_cons_zero,List.set_cons_succ,i64_w,i32_w]
        rfl
       refine pu_ (i:=15) (N:=some 91) ?_;refine pu_ (i:=16) (N:=some 92) ?_
       refine pure_ (i:=17) (N:=some 93) (v:=undef) (a':=?_) #[true,true,true,true,true,true,true,true,true,true,true,true,true,true,true,true,true,true,false,false,false,false,false,false,false,false] rfl rfl (any_of HT_.out (by kernel_rfl)) (fun _ _ _ h=>h) (Or.inr ⟨by rfl,rfl⟩) ?_ ?_
       rotate_left
       ·simp only [Act.put,List.setIfInBounds_toArray,List.set_cons_zero,List.set_cons_succ,i64_w,i32_w]
        rfl
       refine pure_ (i:=18) (N:=some 94) (v:=undef) (a':=?_) #[true,true,true,true,true,true,true,true,true,true,true,true,true,true,true,true,true,true,true,false,false,false,false,false,false,false] rfl rfl (any_of HT_.out (by kernel_rfl)) (fun _ _ _ h=>h) (Or.inr ⟨by rfl,rfl⟩) ?_ ?_
       rotate_left
       ·simp only [Act.put,List.setIfInBounds_toArray,List.set_cons_zero,List.set_cons_succ,i64_w,i32_w]
        rfl
       refine pure_ (i:=19) (N:=some 95) (v:=undef) (a':=?_) #[true,true,true,true,true,true,true,true,true,true,true,true,true,true,true,true,true,true,true,true,false,false,false,false,false,false] rfl rfl (any_of HT_.out (by kernel_rfl)) (fun _ _ _ h=>h) (Or.inr ⟨by rfl,rfl⟩) ?_ ?_
       rotate_left
       ·simp only [Act.put,List.setIfInBounds_toArray,List.set_cons_zero,List.set_cons_succ,i64_w,i32_w]
        rfl
       refine pure_ (i:=20) (N:=some 96) (v:=undef) (a':=?_) #[true,true,true,true,true,true,true,true,true,true,true,true,true,true,true,true,true,true,true,true,true,false,false,false,false,false] rfl rfl (any_of HT_.out (by kernel_rfl)) (fun _ _ _ h=>h) (Or.inr ⟨by rfl,rfl⟩) ?_ ?_
       rotate_left
       ·simp only [Act.put,List.setIfInBounds_toArray,List.set_cons_zero,List.set_cons_succ,i64_w,i32_w]
        rfl
       refine pu_ (i:=21) (N:=some 97) ?_;refine pu_ (i:=22) (N:=some 98) ?_
       refine pure_ (i:=23) (N:=some 99) (v:=undef) (a':=?_) #[true,true,true,true,true,true,true,true,true,true,true,true,true,true,true,true,true,true,true,true,true,true,true,true,false,false] rfl rfl (any_of HT_.out (by kernel_rfl)) (fun _ _ _ h=>h) (Or.inr ⟨by rfl,rfl⟩) ?_ ?_
       rotate_left
       ·simp only [Act.put,List.setIfInBounds_toArray,List.set_cons_zero,List.set_cons_succ,i64_w,i32_w]
        rfl
       refine pu_ (i:=24) (N:=some 100) ?_;refine pu_ (i:=25) (N:=some 8) ?_
       refine done_ (done_of HT_.out (by kernel_rfl)) ?_
       try go_wp2
       go_ret
       exact ⟨y3_,y7_⟩
 ·replace c6:=Bool.eq_false_iff.mpr c6;subst c6
  have H1:((tl_known.f).bind fun t389=>(some t389))=some r:=by rw [if_neg (show ¬ (false=true) by decide)] at H;exact H
  clear H;have H:=H1;clear H1;replace H:=Option.bind_eq_some_iff.mp H;obtain ⟨t389,A650,H⟩:=H
  replace H:(some t389)=some r:=H
  have A65:=A0_ A650;clear A650;obtain rfl:=Option.some.inj H
  go_enter Tryz.func6,Tryz.ntmps6
  go_wp2_with (first|((with_reducible refine gate_callee (f:=27) rfl ?_);refine goesL_ (some 14) rfl rfl Tryz.func27 (by kernel_rfl) rfl #[.slice A1 l1.length c1] rfl y1_ ?_;(with_reducible refine (tl_few.calls _ _ l1 false _ ?side1 ?side2 A5.out).mono ?_);(case side1=>repeat (first|exact HR1.out|(with_reducible refine Kd.C_alloc ?_ _)|(with_reducible refine Kd.C_drewN ?_ _)|(with_reducible refine Kd.C_drew ?_)));(case side2=>exact HC1.out);rintro e w' ⟨rfl,⟨nd,rfl⟩⟩;refine ⟨_,rfl,?_⟩)|((with_reducible refine gate_callee (f:=11) rfl ?_);refine goesL_ (some 16) rfl rfl Tryz.func11 (by kernel_rfl) rfl #[] rfl y1_ ?_;(with_reducible refine (tl_known.calls  t389 _ A65.out ?side1).mono ?_);(case side1=>exact LD.below HLD.out y0_);rintro e w66 ⟨rfl,hb⟩;refine ⟨_,rfl,?_⟩;have n0_:=A0_ (below_step y0_ hb);clear HB;have HB:=n0_;clear n0_;(try clear hb);(try clear hb2);(try clear hk);(try clear hi)))
  go_ret
  exact ⟨y3_,y0_⟩
end Go.Proofs.YtaidphhkhddemaaGreatDoor.PSky
end
section
namespace Go.Proofs.YtaidphhkhddemaaGreatDoor.PSky
open Go.RowKit Go.Proofs.YtaidphhkhddemaaGreatDoorW.PrintWords Go.Proofs.YtaidphhkhddemaaGreatDoorW.PrintLast Go.Proofs.YtaidphhkhddemaaGreatDoorW.PrintMore
theorem few_eq (l:List S89):tl_few.f l=some (decide ((l.length:Int)≤8)):=rfl
theorem Speeds_ev (s:Int) (l:List S89) (a b:Int):Ev (fun k=>sky_Speeds.f k s l a b) (if (okPlace s && (okNotes l && okRange a b))=true then (if speedsOf s l a b=[] then (0,0,0,5) else (rd (speedsOf s l a b) 0,rd (speedsOf s l a b) (((speedsOf s l a b).length:Int) - 1),((speedsOf s l a b).length:Int),0)) else (0,0,0,2)):=by
 unfold sky_Speeds.f
 refine Ev.bind (areNotes_ev s l a b) ?_
 cases h:(okPlace s && (okNotes l && okRange a b)) with
 |false=>rw [if_neg (by simp)];exact Ev.neg (by simp) (Ev.now _)
 |true=>
  simp only [Bool.and_eq_true] at h
  rw [if_pos rfl]
  refine Ev.pos rfl (Ev.bind (agreeing_ev h.1 h.2.1 h.2.2) ?_)
  have hn:=speeds_length (s:=s) (l:=l) h.2.2
  by_cases h0:speedsOf s l a b=[]
  ·refine Ev.pos h0 ?_
   rw [if_pos h0]
   exact Ev.now _
  ·refine Ev.neg h0 (Ev.pos (by omega) ?_)
   rw [if_neg h0]
   exact Ev.now _
theorem SkySpeeds_ev (s:Int) (l:List S89) (a b:Int):Ev (fun k=>tl_SkySpeeds.f k s l a b) true:=by
 unfold tl_SkySpeeds.f
 refine Ev.bind (Ev.is (few_eq l)) ?_
 by_cases hf:(l.length:Int)≤8
 ·rw [decide_eq_true hf]
  have bad:∀ c:Bool,c=true→Ev (fun k=>tl_SkySpeeds.j0 k s l a b 0 2 c 0 0) true:=fun c hc=>by
   refine Ev.step (fun k=>by rw [tl_SkySpeeds.j0]) ?_
   exact Ev.pos hc (Ev.pos rfl (Ev.pos rfl (Ev.pos rfl known_ev)))
  refine Ev.pos rfl (Ev.bind (Speeds_ev s l a b) (Ev.bind (Ev.is (Spot_eq s)) ?_))
  cases h1:okPlace s with
  |false=>rw [if_neg (by simp)];exact Ev.neg (by simp) (bad _ rfl)
  |true=>
   refine Ev.pos rfl (Ev.bind (refNotes_ev l (by omega)) ?_)
   cases h2:okNotes l with
   |false=>rw [if_neg (by simp)];exact Ev.neg (by simp) (bad _ rfl)
   |true=>
    refine Ev.pos rfl (Ev.bind (Ev.is (Range_eq a b)) ?_)
    cases h3:okRange a b with
    |false=>rw [if_neg (by simp)];exact bad _ rfl
    |true=>
     rw [if_pos (show (true && (true && true))=true from rfl)]
     have hn:=speeds_length (s:=s) (l:=l) h3
     by_cases h0:speedsOf s l a b=[]
     ·rw [if_pos h0]
      refine Ev.step (fun k=>by rw [tl_SkySpeeds.j0]) ?_
      refine Ev.neg (by simp) (Ev.bind (refSpeeds_ev h1 h2 h3) ?_)
      exact Ev.pos (by rw [h0];rfl) (Ev.pos rfl (Ev.pos rfl (Ev.pos rfl known_ev)))
     ·rw [if_neg h0]
      have hp:0<(speedsOf s l a b).length:=List.length_pos_iff.mpr h0
      refine Ev.step (fun k=>by rw [tl_SkySpeeds.j0]) ?_
      refine Ev.neg (by simp) (Ev.bind (refSpeeds_ev h1 h2 h3) ?_)
      rw [wrap_id (show -9223372036854775808≤((speedsOf s l a b).length:Int) - 1∧((speedsOf s l a b).length:Int) - 1≤9223372036854775807 by omega)]
      exact Ev.neg (by omega) (Ev.pos rfl (Ev.pos (by omega) (Ev.pos (by omega) (Ev.pos (by omega) (Ev.pos (by simp) (Ev.pos rfl known_ev))))))
 ·rw [decide_eq_false hf]
  exact Ev.neg (by simp) known_ev
end Go.Proofs.YtaidphhkhddemaaGreatDoor.PSky
end
section
namespace Go.Proofs.YtaidphhkhddemaaGreatDoor
open Go.ChangeShapes Go.WideShapes Go.ChangeAt Go.RowKit
set_option maxRecDepth 100000 in
set_option maxHeartbeats 1600000 in
theorem skySpeeds_lifted (os:Os) (started:os.Started) (H:Type) (enc:TypeId × Value→H) (F:Stop.Interp):
  ReturnsInHanded {} Tryz.checked os 6 .any ((OpenSpec.ofChange Rows.skySpeedsSpec).preRow enc Tryz.prog Tryz.f6 Rows.skySpeedsRow.domain false Rows.skySpeedsRow.laid) (((OpenSpec.ofChange Rows.skySpeedsSpec).at F).post enc Tryz.prog Tryz.f6 false true false false):=by
 refine returnsInHanded_of_row (C:=Tryz.checked) (s:=OpenSpec.ofChange Rows.skySpeedsSpec) own started (by kernel_rfl) Tryz.func6
  (witness_row_at (enc:=enc) (C:=Tryz.checked) false (laidWorld os) #[.int .i64 0,.slice none 0 0,.int .i64 0,.int .i64 0] rfl (by kernel_rfl) (by kernel_rfl) (by kernel_rfl) (OpenSpec.preRow_of_B rfl 8 (by kernel_rfl) (by kernel_rfl) (laid_met os _))) ?_
 intro W base args ds gs before hval0 hW _ _ hsz0 hL hsh _
 have hval:∀ (j:Nat) t v,Tryz.f6.params[j]?=some t→args[j]?=some v→Value.okWide Tryz.prog W .any base t v:=hval0
 have hW':=hW
 obtain ⟨p,q,hA0,hV,rfl,hfz,hnd⟩:=hW
 have hA:DataW.TrodAll enc Tryz.prog W 0 (fun _=>true) true Tryz.f6.params.toList args.toList ds p:=hA0
 rw [Tryz.params6] at hA hval
 obtain ⟨v0,vs0,d0,ds0,p0,q0,hargs,rfl,rfl,h0,r0⟩:=trodAll_cons hA
 obtain ⟨v1,vs1,d1,ds1,p1,q1,rfl,rfl,rfl,h1,r1⟩:=trodAll_cons r0
 obtain ⟨v2,vs2,d2,ds2,p2,q2,rfl,rfl,rfl,h2,r2⟩:=trodAll_cons r1
 obtain ⟨v3,vs3,d3,ds3,p3,q3,rfl,rfl,rfl,h3,r3⟩:=trodAll_cons r2
 obtain ⟨rfl,rfl,rfl⟩:=trodAll_nil r3
 obtain rfl:args=#[v0,v1,v2,v3]:=by cases args;simp_all
 obtain ⟨rfl,rfl⟩:=trodVars_none hV
 obtain ⟨x0,rfl,rfl,rfl,w0⟩:=open_int Tryz.underlying3 (hval 0 3 v0 rfl rfl) h0
 have k1:=h1
 have lt1:∀ x∈p1,x.block<W.heap.size:=by obtain ⟨m,hm⟩:=k1;exact DataW.trod_lt m _ _ _ hm
 obtain ⟨fuel1,hf1⟩:=h1
 obtain ⟨s1,n1,m1,rfl⟩:=okWide_slice Tryz.underlying57 (hval 1 57 v1 rfl rfl)
 obtain ⟨A1,c1,l1,hcs1,hlc1,hC1⟩:=PSky.open_notes hf1
 obtain ⟨rfl,rfl,rfl⟩:A1=s1∧l1.length=n1∧c1=m1:=by have hcs:s1=A1∧n1=l1.length∧m1=c1:=by { simpa [Value.cells] using hcs1 };exact ⟨hcs.1.symm,hcs.2.1.symm,hcs.2.2.symm⟩
 obtain ⟨x2,rfl,rfl,rfl,w2⟩:=open_int Tryz.underlying3 (hval 2 3 v2 rfl rfl) h2
 obtain ⟨x3,rfl,rfl,rfl,w3⟩:=open_int Tryz.underlying3 (hval 3 3 v3 rfl rfl) h3
 obtain ⟨k,hk⟩:=(PSky.SkySpeeds_ev x0 l1 x2 x3).rounds
 have hld:=ld_of hL hsh
 clear hA0 hval0 hsz0 hA hval hL hsh
 refine (PSky.tl_SkySpeeds.calls k x0 A1 c1 l1 x2 x3 true W hC1 hlc1 hk hld).mono fun e W' ⟨he,bel⟩=>?_
 subst he
 exact ⟨_,rfl,_,_,_,[],_,[],hW',trodAll_mk1 (shut_bool Tryz.underlying4 _),(trodAll_cons_mk (shut_int Tryz.underlying3 w0) (trodAll_cons_mk (Below.trod laidOut (by kernel_rfl) (of_decide_eq_true (by kernel_rfl)) k1 bel lt1) (trodAll_cons_mk (shut_int Tryz.underlying3 w2) (trodAll_cons_mk (shut_int Tryz.underlying3 w3) trodAll_mk0)))),rfl,bel.frame _,fun h=>by cases h⟩
theorem skySpeeds_holds:Rows.SkySpeedsSaid:=
 OpenClaim.holds_of_wide 6 Tryz.f6 rfl rfl rfl rfl rfl rfl rfl ⟨rfl,rfl,rfl,rfl,rfl⟩ rfl rfl rfl rfl rfl (by kernel_rfl) Tryz.func6 (by kernel_rfl)
  (of_decide_eq_true (by kernel_rfl)) PSky.y38_
  (fun os started H enc _=>skySpeeds_lifted os started H enc (fun _ _ _=>0))
end Go.Proofs.YtaidphhkhddemaaGreatDoor
end
