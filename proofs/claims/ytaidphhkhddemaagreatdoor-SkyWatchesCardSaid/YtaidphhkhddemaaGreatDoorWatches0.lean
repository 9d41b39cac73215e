/- A part of the proof of a law of the layer sky. -/
import Derived.ArgAppend
import Derived.Below
import Derived.BigQuiet
import Derived.ChangeSame
import Derived.Deep.AppendLies
import Derived.Deep.CutBlock
import Derived.Deep.DeepCutAuto
import Derived.Deep.DeepHandedRow
import Derived.Deep.Draws
import Derived.Deep.LoopGhost
import Derived.Deep.OwnRows
import Derived.Deep.QuietTactic
import Derived.Deep.RegionHeld3
import Derived.Deep.RegionLaw
import Derived.Deep.Slices
import Derived.Deep.Strs
import Derived.Defers
import Derived.KernelRfl
import Derived.LaidMore
import Derived.Laws.BitsLemmas
import Derived.Laws.BytesArg
import Derived.Laws.Entries
import Derived.Laws.IdiomCopy
import Derived.Laws.LoneSync
import Derived.Laws.MakeOwn
import Derived.Laws.NewBlocks
import Derived.Laws.OwnMore
import Derived.Laws.Pointers
import Derived.Laws.Rows
import Derived.Laws.Slices
import Derived.Laws.StructEq
import Derived.Lib.AppendStr
import Derived.Lib.ConvBytes
import Derived.Lib.LaidTab
import Derived.Lib.OthersKept
import Derived.Lib.SplitLaws
import Derived.LoopIn
import Derived.LoopN
import Derived.LoopNIn
import Derived.Maps.AppendAt
import Derived.Maps.Own
import Derived.Maps.OwnOps
import Derived.Maps.OwnSet
import Derived.Maps.Views
import Derived.OpenShut
import Derived.OrdersHeld
import Derived.Outline
import Derived.OwnWalk
import Derived.OwnWalkIn
import Derived.ProofKit
import Derived.RangeFuncBound
import Derived.RangeFuncBox
import Derived.RangeFuncCalls
import Derived.RangeFuncLeaves
import Derived.RangeFuncNested
import Derived.Recover
import Derived.RowKit
import Derived.RowKit3
import Derived.Scope
import Derived.SevenTiedAt
import Derived.Shelf.Abstract
import Derived.Shelf.LaysM
import Derived.Shelf.RegionOpen
import Derived.Shelf.Strconv.Itoa0
import Derived.Shelf.Strconv.Itoa1
import Derived.Shelf.Strconv.Itoa2
import Derived.Shelf.Strconv.Itoa3
import Derived.Shelf.Strings.Builder1
import Derived.Shelf.Strings.Builder2
import Derived.Shelf.Strings.Count
import Derived.Shelf.Strings.OnBuilder
import Derived.Shelf.Strings.Prefix
import Derived.Shelf.Strings.Search1
import Derived.Shelf.Strings.Search2
import Derived.Shelf.Strings.Search3
import Derived.Shelf.Strings.Shaped
import Derived.Shelf.Strings.Split
import Derived.Shelf.Unicode.DecodeSlow
import Derived.SizedLaws
import Derived.StillTactics
import Derived.Stop.Joined
import Derived.Stop.LaidErr
import Derived.Tactics
import Derived.TacticsInMore
import Derived.WalkKit
import Derived.WideLaws
import Derived.Test.YtaidphhkhddemaaGreatDoorZ6
section
namespace Go.Proofs.YtaidphhkhddemaaGreatDoor.PSky
open Go.RowKit Go.Proofs.YtaidphhkhddemaaGreatDoorW.PrintWords Go.Proofs.YtaidphhkhddemaaGreatDoorW.PrintLast Go.Proofs.YtaidphhkhddemaaGreatDoorW.PrintMore
attribute [local go_sem] max2_int min2_int max_two min_two max_three min_three max_four min_four
set_option linter.unusedVariables false
set_option linter.unusedSimpArgs false
def tr_down.f (a0:Int) (a1:Int):Option (Int):=if a1=0 then (none) else (if (wrap64 ((wrap64 (Int.tdiv a0 a1))*a1)) > a0 then (some (wrap64 ((wrap64 (Int.tdiv a0 a1)) - 1))) else (some (wrap64 (Int.tdiv a0 a1))))
set_option maxHeartbeats 8000000 in
set_option maxRecDepth 100000 in
theorem tr_down.calls (a0:Int) (a1:Int) (r:Int) (w:World) (h:tr_down.f a0 a1=some r):
  Calls Tryz.prog 83 #[.int .i64 a0,.int .i64 a1] w fun e w'=>e=.returned (.int .i64 r)∧Drawn0 w w':=by
 have H:(if a1=0 then (none) else (if (wrap64 ((wrap64 (Int.tdiv a0 a1))*a1)) > a0 then (some (wrap64 ((wrap64 (Int.tdiv a0 a1)) - 1))) else (some (wrap64 (Int.tdiv a0 a1)))))=some r:=h
 clear h
 by_cases c3:a1=0
 ·rw [if_pos c3] at H;exact absurd H (by simp)
 ·rw [if_neg c3] at H
  have c3b0:(a1 == 0)=false:=beq_eq_false_iff_ne.mpr c3
  have c3b1:(a1 != 0)=true:=bne_iff_ne.mpr c3
  by_cases c4:(wrap64 ((wrap64 (Int.tdiv a0 a1))*a1)) > a0
  ·rw [if_pos c4] at H;have c4b0:decide (a0<(wrap64 ((wrap64 (Int.tdiv a0 a1))*a1)))=true:=decide_eq_true c4;clear c4;obtain rfl:=Option.some.inj H
   go_enter Tryz.func83,Tryz.ntmps83
   go_wp2;go_ret
   exact ⟨y4_,yb_⟩
  ·rw [if_neg c4] at H;have c4b0:decide (a0<(wrap64 ((wrap64 (Int.tdiv a0 a1))*a1)))=false:=decide_eq_false c4;clear c4;obtain rfl:=Option.some.inj H
   go_enter Tryz.func83,Tryz.ntmps83
   go_wp2;go_ret
   exact ⟨y4_,yb_⟩
def tr_Less.f (a0:Int):Option (Int):=(tr_down.f a0 21600).bind fun t153=>(some (wrap64 (a0 - (wrap64 (t153*21600)))))
set_option maxHeartbeats 8000000 in
set_option maxRecDepth 100000 in
theorem tr_Less.calls (a0:Int) (r:Int) (w:World) (h:tr_Less.f a0=some r):
  Calls Tryz.prog 40 #[.int .i64 a0] w fun e w'=>e=.returned (.int .i64 r)∧Drawn0 w w':=by
 have H:((tr_down.f a0 21600).bind fun t153=>(some (wrap64 (a0 - (wrap64 (t153*21600))))))=some r:=h
 clear h;replace H:=Option.bind_eq_some_iff.mp H;obtain ⟨t153,A20,H⟩:=H
 replace H:(some (wrap64 (a0 - (wrap64 (t153*21600)))))=some r:=H
 have A2:=A0_ A20;clear A20;obtain rfl:=Option.some.inj H
 go_enter Tryz.func40,Tryz.ntmps40
 go_wp2_with (first|((with_reducible refine gate_callee (f:=83) rfl ?_);refine goesL_ (some 5) rfl rfl Tryz.func83 (by kernel_rfl) rfl #[.int .i64 a0,.int .i64 21600] rfl y1_ ?_;(with_reducible refine (tr_down.calls a0 21600 t153 _ A2.out).mono ?_);rintro e w' ⟨rfl,⟨nd,rfl⟩⟩;refine ⟨_,rfl,?_⟩))
 go_ret
 exact ⟨y4_,yb_⟩
end Go.Proofs.YtaidphhkhddemaaGreatDoor.PSky
end
section
namespace Go.Proofs.YtaidphhkhddemaaGreatDoor.PSky
open Go.RowKit Go.Proofs.YtaidphhkhddemaaGreatDoorW.PrintWords Go.Proofs.YtaidphhkhddemaaGreatDoorW.PrintLast Go.Proofs.YtaidphhkhddemaaGreatDoorW.PrintMore
attribute [local go_sem] max2_int min2_int max_two min_two max_three min_three max_four min_four
set_option linter.unusedVariables false
set_option linter.unusedSimpArgs false
def tr_Apart.f (a0:Int) (a1:Int):Option (Int):=(tr_Less.f (wrap64 (a0 - a1))).bind fun t324=>(some (mn t324 (wrap64 (21600 - t324))))
set_option maxHeartbeats 8000000 in
set_option maxRecDepth 100000 in
theorem tr_Apart.calls (a0:Int) (a1:Int) (r:Int) (w:World) (h:tr_Apart.f a0 a1=some r):
  Calls Tryz.prog 24 #[.int .i64 a0,.int .i64 a1] w fun e w'=>e=.returned (.int .i64 r)∧Below w.heap.size w w':=by
 have HB:=A0_ (Below.refl w.heap.size w)
 have H:((tr_Less.f (wrap64 (a0 - a1))).bind fun t324=>(some (mn t324 (wrap64 (21600 - t324)))))=some r:=h
 clear h;replace H:=Option.bind_eq_some_iff.mp H;obtain ⟨t324,A30,H⟩:=H
 replace H:(some (mn t324 (wrap64 (21600 - t324))))=some r:=H
 have A3:=A0_ A30;clear A30
 obtain ⟨ji4,hji4⟩:∃ j_:Int,(mn t324 (wrap64 (21600 - t324)))=j_:=⟨_,rfl⟩
 replace H:(some ji4)=some r:=by first|(rw [hji4] at H;exact H)|(simp only [hji4] at H ⊢;exact H)
 (try rw [hji4] at A3)
 have hji4_:(if (wrap64 (21600 - t324))<t324 then (wrap64 (21600 - t324)) else t324)=ji4:=hji4
 obtain rfl:=Option.some.inj H
 go_enter Tryz.func24,Tryz.ntmps24
 go_wp2_with (first|((with_reducible refine gate_callee (f:=40) rfl ?_);refine goesL_ (some 9) rfl rfl Tryz.func40 (by kernel_rfl) rfl #[.int .i64 (wrap64 (a0 - a1))] rfl y1_ ?_;(with_reducible refine (tr_Less.calls (wrap64 (a0 - a1)) t324 _ A3.out).mono ?_);rintro e w' ⟨rfl,⟨nd,rfl⟩⟩;refine ⟨_,rfl,?_⟩))
 go_ret
 exact ⟨by first|rfl|(simp [errW_none,errW_some] <;> rfl)|(simp only [← hji4];first|rfl|(simp [errW_none,errW_some] <;> rfl))|(simp [*,errW_none,errW_some] <;> rfl),y0_⟩
end Go.Proofs.YtaidphhkhddemaaGreatDoor.PSky
end
section
namespace Go.Proofs.YtaidphhkhddemaaGreatDoor.PSky
open Go.RowKit Go.Proofs.YtaidphhkhddemaaGreatDoorW.PrintWords Go.Proofs.YtaidphhkhddemaaGreatDoorW.PrintLast Go.Proofs.YtaidphhkhddemaaGreatDoorW.PrintMore
attribute [local go_sem] max2_int min2_int max_two min_two max_three min_three max_four min_four
set_option linter.unusedVariables false
set_option linter.unusedSimpArgs false
def tr_Day.f (a0:Int):Option (Bool):=(tr_in.f a0 0 20000).bind fun t369=>(some t369)
set_option maxHeartbeats 8000000 in
set_option maxRecDepth 100000 in
theorem tr_Day.calls (a0:Int) (r:Bool) (w:World) (h:tr_Day.f a0=some r):
  Calls Tryz.prog 37 #[.int .i64 a0] w fun e w'=>e=.returned (.bool r)∧Drawn0 w w':=by
 have H:((tr_in.f a0 0 20000).bind fun t369=>(some t369))=some r:=h
 clear h;replace H:=Option.bind_eq_some_iff.mp H;obtain ⟨t369,A20,H⟩:=H
 replace H:(some t369)=some r:=H
 have A2:=A0_ A20;clear A20;obtain rfl:=Option.some.inj H
 go_enter Tryz.func37,Tryz.ntmps37
 go_wp2_with (first|((with_reducible refine gate_callee (f:=56) rfl ?_);refine goesL_ (some 4) rfl rfl Tryz.func56 (by kernel_rfl) rfl #[.int .i64 a0,.int .i64 0,.int .i64 20000] rfl y1_ ?_;(with_reducible refine (tr_in.calls a0 0 20000 t369 _ A2.out).mono ?_);rintro e w' ⟨rfl,⟨nd,rfl⟩⟩;refine ⟨_,rfl,?_⟩))
 go_ret
 exact ⟨y4_,yb_⟩
end Go.Proofs.YtaidphhkhddemaaGreatDoor.PSky
end
section
namespace Go.Proofs.YtaidphhkhddemaaGreatDoor.PSky
open Go.RowKit Go.Proofs.YtaidphhkhddemaaGreatDoorW.PrintWords Go.Proofs.YtaidphhkhddemaaGreatDoorW.PrintLast Go.Proofs.YtaidphhkhddemaaGreatDoorW.PrintMore
attribute [local go_sem] max2_int min2_int max_two min_two max_three min_three max_four min_four
set_option linter.unusedVariables false
set_option linter.unusedSimpArgs false
def tl_few.f (l0:List (S89)):Option (Bool):=some (decide ((l0.length:Int)≤8))
set_option maxHeartbeats 8000000 in
set_option maxRecDepth 100000 in
theorem tl_few.calls (A0:Option Addr) (c0:Nat) (l0:List (S89)) (r:Bool) (w:World) (hr0:Kd.C k89 w A0 l0.length l0) (hc0:l0.length≤c0) (h:tl_few.f l0=some r):
  Calls Tryz.prog 27 #[.slice A0 l0.length c0] w fun e w'=>e=.returned (.bool r)∧Drawn0 w w':=by
 have HR0:=A0_ hr0;have HC0:=A0_ hc0;clear hr0 hc0
 have H:(some (decide ((l0.length:Int)≤8)))=some r:=h
 clear h;obtain rfl:=Option.some.inj H
 go_enter Tryz.func27,Tryz.ntmps27
 go_wp2;go_ret
 exact ⟨y4_,yb_⟩
def tr_Off.f (a0:Int):Option (Bool):=(tr_in.f a0 0 10800).bind fun t368=>(some t368)
set_option maxHeartbeats 8000000 in
set_option maxRecDepth 100000 in
theorem tr_Off.calls (a0:Int) (r:Bool) (w:World) (h:tr_Off.f a0=some r):
  Calls Tryz.prog 34 #[.int .i64 a0] w fun e w'=>e=.returned (.bool r)∧Drawn0 w w':=by
 have H:((tr_in.f a0 0 10800).bind fun t368=>(some t368))=some r:=h
 clear h;replace H:=Option.bind_eq_some_iff.mp H;obtain ⟨t368,A20,H⟩:=H
 replace H:(some t368)=some r:=H
 have A2:=A0_ A20;clear A20;obtain rfl:=Option.some.inj H
 go_enter Tryz.func34,Tryz.ntmps34
 go_wp2_with (first|((with_reducible refine gate_callee (f:=56) rfl ?_);refine goesL_ (some 4) rfl rfl Tryz.func56 (by kernel_rfl) rfl #[.int .i64 a0,.int .i64 0,.int .i64 10800] rfl y1_ ?_;(with_reducible refine (tr_in.calls a0 0 10800 t368 _ A2.out).mono ?_);rintro e w' ⟨rfl,⟨nd,rfl⟩⟩;refine ⟨_,rfl,?_⟩))
 go_ret
 exact ⟨y4_,yb_⟩
def tr_Notes.l0:Nat→List (S89)→Int→Option (Bool)
 |0,_,_=>none
 |k+1,x0,x3=>if x3<(x0.length:Int) then (if 0≤x3 then ((tr_Day.f ((rd_T89 x0 x3).f0)).bind fun t371=>(if t371=true then ((tr_Spot.f ((rd_T89 x0 x3).f1)).bind fun t373=>(if t373=true then ((tr_Off.f ((rd_T89 x0 x3).f2)).bind fun t375=>(if t375=true then (tr_Notes.l0 k x0 (wrap64 (x3+1))) else (some false))) else (some false))) else (some false))) else (none)) else (some (decide ((x0.length:Int)≤6)))
def tr_Notes.f (k:Nat) (l0:List (S89)):Option (Bool):=tr_Notes.l0 k l0 0
set_option maxHeartbeats 8000000 in
set_option maxRecDepth 100000 in
theorem tr_Notes.calls (k:Nat) (A0:Option Addr) (c0:Nat) (l0:List (S89)) (r:Bool) (w:World) (hr0:Kd.C k89 w A0 l0.length l0) (hc0:l0.length≤c0) (h:tr_Notes.f k l0=some r):
  Calls Tryz.prog 29 #[.slice A0 l0.length c0] w fun e w'=>e=.returned (.bool r)∧Drawn0 w w':=by
 have HR0:=A0_ hr0;have HC0:=A0_ hc0;clear hr0 hc0
 have H:(tr_Notes.l0 k l0 0)=some r:=h
 clear h
 have H':=A0_ H
 clear H
 go_enter Tryz.func29,Tryz.ntmps29
 go_wp2
 go_loopg [3] k (fun kq v3 w'=>∃ (x3_1:Int),v3=.int .i64 x3_1∧Aside0 (tr_Notes.l0 kq l0 x3_1=some r)∧Aside0 (kq≤k)∧Drawn0 w w')
 case atStart=>exact ⟨(0),y4_,H',⟨Nat.le_refl _⟩,yb_⟩
 case round=>
  clear H'
  obtain ⟨x3_1,rfl,HA,HK1,⟨m1,rfl⟩⟩:=hrel
  cases gk with
  |zero=>exact absurd HA.out (by simp [tr_Notes.l0])
  |succ k1=>
   have H:=HA.out
   clear HA
   simp only [tr_Notes.l0] at H
   by_cases c2:x3_1<(l0.length:Int)
   ·rw [if_pos c2] at H;have c2b0:decide (x3_1<(l0.length:Int))=true:=decide_eq_true c2;clear c2
    by_cases c3:0≤x3_1
    ·rw [if_pos c3] at H;have c3b0:decide (0≤x3_1)=true:=decide_eq_true c3;clear c3;replace H:=Option.bind_eq_some_iff.mp H;obtain ⟨t371,A40,H⟩:=H
     replace H:(if t371=true then ((tr_Spot.f ((rd_T89 l0 x3_1).f1)).bind fun t373=>(if t373=true then ((tr_Off.f ((rd_T89 l0 x3_1).f2)).bind fun t375=>(if t375=true then (tr_Notes.l0 k1 l0 (wrap64 (x3_1+1))) else (some false))) else (some false))) else (some false))=some r:=H
     have A4:=A0_ A40;clear A40
     by_cases c5:t371=true
     ·subst c5
      have H1:((tr_Spot.f ((rd_T89 l0 x3_1).f1)).bind fun t373=>(if t373=true then ((tr_Off.f ((rd_T89 l0 x3_1).f2)).bind fun t375=>(if t375=true then (tr_Notes.l0 k1 l0 (wrap64 (x3_1+1))) else (some false))) else (some false)))=some r:=by rw [if_pos rfl] at H;exact H
      clear H;have H:=H1;clear H1;replace H:=Option.bind_eq_some_iff.mp H;obtain ⟨t373,A60,H⟩:=H
      replace H:(if t373=true then ((tr_Off.f ((rd_T89 l0 x3_1).f2)).bind fun t375=>(if t375=true then (tr_Notes.l0 k1 l0 (wrap64 (x3_1+1))) else (some false))) else (some false))=some r:=H
      have A6:=A0_ A60;clear A60
      by_cases c7:t373=true
      ·subst c7
       have H1:((tr_Off.f ((rd_T89 l0 x3_1).f2)).bind fun t375=>(if t375=true then (tr_Notes.l0 k1 l0 (wrap64 (x3_1+1))) else (some false)))=some r:=by rw [if_pos rfl] at H;exact H
       clear H;have H:=H1;clear H1;replace H:=Option.bind_eq_some_iff.mp H;obtain ⟨t375,A80,H⟩:=H
       replace H:(if t375=true then (tr_Notes.l0 k1 l0 (wrap64 (x3_1+1))) else (some false))=some r:=H
       have A8:=A0_ A80;clear A80
       by_cases c9:t375=true
       ·subst c9
        have H1:(tr_Notes.l0 k1 l0 (wrap64 (x3_1+1)))=some r:=by rw [if_pos rfl] at H;exact H
        clear H;have H:=H1;clear H1
        have H':=A0_ H
        clear H
        have p370:0≤(x3_1:Int):=of_decide_eq_true y2_
        have q370:x3_1<(l0.length:Int):=of_decide_eq_true y2_
        obtain ⟨ad370,e370,hx370_0,hx370_1,hx370_2⟩:=at_T89 HR0.out x3_1 p370 q370
        cases e370
        replace p370:=eq_true p370
        replace q370:=eq_true q370
        go_wp2_with (first|((with_reducible refine gate_callee (f:=37) rfl ?_);refine goesL_ (some 15) rfl rfl Tryz.func37 (by kernel_rfl) rfl #[.int .i64 ((rd_T89 l0 x3_1).f0)] rfl y1_ ?_;(with_reducible refine (tr_Day.calls ((rd_T89 l0 x3_1).f0) true _ A4.out).mono ?_);rintro e w' ⟨rfl,⟨nd,rfl⟩⟩;refine ⟨_,rfl,?_⟩;have p372:0≤(x3_1:Int):=of_decide_eq_true y2_;have q372:x3_1<(l0.length:Int):=of_decide_eq_true y2_;obtain ⟨ad372,e372,hx372_0,hx372_1,hx372_2⟩:=at_T89 HR0.out x3_1 p372 q372;obtain rfl:ad370=ad372:=(by injection e372);replace p372:=eq_true p372;replace q372:=eq_true q372)|(go_at_call 23;(with_reducible refine (tr_Spot.calls ((rd_T89 l0 x3_1).f1) true _ A6.out).mono ?_);rintro e w' ⟨rfl,⟨nd,rfl⟩⟩;have p374:0≤(x3_1:Int):=of_decide_eq_true y2_;have q374:x3_1<(l0.length:Int):=of_decide_eq_true y2_;obtain ⟨ad374,e374,hx374_0,hx374_1,hx374_2⟩:=at_T89 HR0.out x3_1 p374 q374;obtain rfl:ad370=ad374:=(by injection e374);replace p374:=eq_true p374;replace q374:=eq_true q374)|(go_at_call 34;(with_reducible refine (tr_Off.calls ((rd_T89 l0 x3_1).f2) true _ A8.out).mono ?_);rintro e w' ⟨rfl,⟨nd,rfl⟩⟩))
        go_roundg k1
        case measure=>have:=HK1.out;omega
        case rel=>exact ⟨(wrap64 (x3_1+1)),y4_,H',⟨by have:=HK1.out;omega⟩,yb_⟩
       ·replace c9:=Bool.eq_false_iff.mpr c9;subst c9
        have H1:(some false)=some r:=by rw [if_neg (show ¬ (false=true) by decide)] at H;exact H
        clear H;have H:=H1;clear H1;obtain rfl:=Option.some.inj H
        have p370:0≤(x3_1:Int):=of_decide_eq_true y2_
        have q370:x3_1<(l0.length:Int):=of_decide_eq_true y2_
        obtain ⟨ad370,e370,hx370_0,hx370_1,hx370_2⟩:=at_T89 HR0.out x3_1 p370 q370
        cases e370
        replace p370:=eq_true p370
        replace q370:=eq_true q370
        go_wp2_with (first|((with_reducible refine gate_callee (f:=37) rfl ?_);refine goesL_ (some 15) rfl rfl Tryz.func37 (by kernel_rfl) rfl #[.int .i64 ((rd_T89 l0 x3_1).f0)] rfl y1_ ?_;(with_reducible refine (tr_Day.calls ((rd_T89 l0 x3_1).f0) true _ A4.out).mono ?_);rintro e w' ⟨rfl,⟨nd,rfl⟩⟩;refine ⟨_,rfl,?_⟩;have p372:0≤(x3_1:Int):=of_decide_eq_true y2_;have q372:x3_1<(l0.length:Int):=of_decide_eq_true y2_;obtain ⟨ad372,e372,hx372_0,hx372_1,hx372_2⟩:=at_T89 HR0.out x3_1 p372 q372;obtain rfl:ad370=ad372:=(by injection e372);replace p372:=eq_true p372;replace q372:=eq_true q372)|(go_at_call 23;(with_reducible refine (tr_Spot.calls ((rd_T89 l0 x3_1).f1) true _ A6.out).mono ?_);rintro e w' ⟨rfl,⟨nd,rfl⟩⟩;have p374:0≤(x3_1:Int):=of_decide_eq_true y2_;have q374:x3_1<(l0.length:Int):=of_decide_eq_true y2_;obtain ⟨ad374,e374,hx374_0,hx374_1,hx374_2⟩:=at_T89 HR0.out x3_1 p374 q374;obtain rfl:ad370=ad374:=(by injection e374);replace p374:=eq_true p374;replace q374:=eq_true q374)|(go_at_call 34;(with_reducible refine (tr_Off.calls ((rd_T89 l0 x3_1).f2) false _ A8.out).mono ?_);rintro e w' ⟨rfl,⟨nd,rfl⟩⟩))
        go_ret
        exact ⟨y4_,yb_⟩
      ·replace c7:=Bool.eq_false_iff.mpr c7;subst c7
       have H1:(some false)=some r:=by rw [if_neg (show ¬ (false=true) by decide)] at H;exact H
       clear H;have H:=H1;clear H1;obtain rfl:=Option.some.inj H
       have p370:0≤(x3_1:Int):=of_decide_eq_true y2_
       have q370:x3_1<(l0.length:Int):=of_decide_eq_true y2_
       obtain ⟨ad370,e370,hx370_0,hx370_1,hx370_2⟩:=at_T89 HR0.out x3_1 p370 q370
       cases e370
       replace p370:=eq_true p370
       replace q370:=eq_true q370
       go_wp2_with (first|((with_reducible refine gate_callee (f:=37) rfl ?_);refine goesL_ (some 15) rfl rfl Tryz.func37 (by kernel_rfl) rfl #[.int .i64 ((rd_T89 l0 x3_1).f0)] rfl y1_ ?_;(with_reducible refine (tr_Day.calls ((rd_T89 l0 x3_1).f0) true _ A4.out).mono ?_);rintro e w' ⟨rfl,⟨nd,rfl⟩⟩;refine ⟨_,rfl,?_⟩;have p372:0≤(x3_1:Int):=of_decide_eq_true y2_;have q372:x3_1<(l0.length:Int):=of_decide_eq_true y2_;obtain ⟨ad372,e372,hx372_0,hx372_1,hx372_2⟩:=at_T89 HR0.out x3_1 p372 q372;obtain rfl:ad370=ad372:=(by injection e372);replace p372:=eq_true p372;replace q372:=eq_true q372)|(go_at_call 23;(with_reducible refine (tr_Spot.calls ((rd_T89 l0 x3_1).f1) false _ A6.out).mono ?_);rintro e w' ⟨rfl,⟨nd,rfl⟩⟩))
       go_ret
       exact ⟨y4_,yb_⟩
     ·replace c5:=Bool.eq_false_iff.mpr c5;subst c5
      have H1:(some false)=some r:=by rw [if_neg (show ¬ (false=true) by decide)] at H;exact H
      clear H;have H:=H1;clear H1;obtain rfl:=Option.some.inj H
      have p370:0≤(x3_1:Int):=of_decide_eq_true y2_
      have q370:x3_1<(l0.length:Int):=of_decide_eq_true y2_
      obtain ⟨ad370,e370,hx370_0,hx370_1,hx370_2⟩:=at_T89 HR0.out x3_1 p370 q370
      cases e370
      replace p370:=eq_true p370
      replace q370:=eq_true q370
      go_wp2_with (first|((with_reducible refine gate_callee (f:=37) rfl ?_);refine goesL_ (some 15) rfl rfl Tryz.func37 (by kernel_rfl) rfl #[.int .i64 ((rd_T89 l0 x3_1).f0)] rfl y1_ ?_;(with_reducible refine (tr_Day.calls ((rd_T89 l0 x3_1).f0) false _ A4.out).mono ?_);rintro e w' ⟨rfl,⟨nd,rfl⟩⟩;refine ⟨_,rfl,?_⟩))
      go_ret
      exact ⟨y4_,yb_⟩
    ·rw [if_neg c3] at H;exact absurd H (by simp)
   ·rw [if_neg c2] at H;have c2b0:decide (x3_1<(l0.length:Int))=false:=decide_eq_false c2;clear c2;obtain rfl:=Option.some.inj H;go_wp2;go_ret
    exact ⟨y4_,yb_⟩
def tr_Range.f (a0:Int) (a1:Int):Option (Bool):=(tr_in.f a0 0 1000000).bind fun t376=>(if t376=true then ((tr_in.f a1 a0 1000000).bind fun t377=>(if t377=true then (some (decide ((wrap64 (a1 - a0))≤5000))) else (some false))) else (some false))
set_option maxHeartbeats 8000000 in
set_option maxRecDepth 100000 in
theorem tr_Range.calls (a0:Int) (a1:Int) (r:Bool) (w:World) (h:tr_Range.f a0 a1=some r):
  Calls Tryz.prog 30 #[.int .i64 a0,.int .i64 a1] w fun e w'=>e=.returned (.bool r)∧Drawn0 w w':=by
 have H:((tr_in.f a0 0 1000000).bind fun t376=>(if t376=true then ((tr_in.f a1 a0 1000000).bind fun t377=>(if t377=true then (some (decide ((wrap64 (a1 - a0))≤5000))) else (some false))) else (some false)))=some r:=h
 clear h;replace H:=Option.bind_eq_some_iff.mp H;obtain ⟨t376,A30,H⟩:=H
 replace H:(if t376=true then ((tr_in.f a1 a0 1000000).bind fun t377=>(if t377=true then (some (decide ((wrap64 (a1 - a0))≤5000))) else (some false))) else (some false))=some r:=H
 have A3:=A0_ A30;clear A30
 by_cases c4:t376=true
 ·subst c4
  have H1:((tr_in.f a1 a0 1000000).bind fun t377=>(if t377=true then (some (decide ((wrap64 (a1 - a0))≤5000))) else (some false)))=some r:=by rw [if_pos rfl] at H;exact H
  clear H;have H:=H1;clear H1;replace H:=Option.bind_eq_some_iff.mp H;obtain ⟨t377,A50,H⟩:=H
  replace H:(if t377=true then (some (decide ((wrap64 (a1 - a0))≤5000))) else (some false))=some r:=H
  have A5:=A0_ A50;clear A50
  by_cases c6:t377=true
  ·subst c6
   have H1:(some (decide ((wrap64 (a1 - a0))≤5000)))=some r:=by rw [if_pos rfl] at H;exact H
   clear H;have H:=H1;clear H1;obtain rfl:=Option.some.inj H
   go_enter Tryz.func30,Tryz.ntmps30
   go_wp2_with (first|((with_reducible refine gate_callee (f:=56) rfl ?_);refine goesL_ (some 6) rfl rfl Tryz.func56 (by kernel_rfl) rfl #[.int .i64 a0,.int .i64 0,.int .i64 1000000] rfl y1_ ?_;(with_reducible refine (tr_in.calls a0 0 1000000 true _ A3.out).mono ?_);rintro e w' ⟨rfl,⟨nd,rfl⟩⟩;refine ⟨_,rfl,?_⟩)|(go_at_call 56;(with_reducible refine (tr_in.calls a1 a0 1000000 true _ A5.out).mono ?_);rintro e w' ⟨rfl,⟨nd,rfl⟩⟩))
   go_ret
   exact ⟨y4_,yb_⟩
  ·replace c6:=Bool.eq_false_iff.mpr c6;subst c6
   have H1:(some false)=some r:=by rw [if_neg (show ¬ (false=true) by decide)] at H;exact H
   clear H;have H:=H1;clear H1;obtain rfl:=Option.some.inj H
   go_enter Tryz.func30,Tryz.ntmps30
   go_wp2_with (first|((with_reducible refine gate_callee (f:=56) rfl ?_);refine goesL_ (some 6) rfl rfl Tryz.func56 (by kernel_rfl) rfl #[.int .i64 a0,.int .i64 0,.int .i64 1000000] rfl y1_ ?_;(with_reducible refine (tr_in.calls a0 0 1000000 true _ A3.out).mono ?_);rintro e w' ⟨rfl,⟨nd,rfl⟩⟩;refine ⟨_,rfl,?_⟩)|(go_at_call 56;(with_reducible refine (tr_in.calls a1 a0 1000000 false _ A5.out).mono ?_);rintro e w' ⟨rfl,⟨nd,rfl⟩⟩))
   go_ret
   exact ⟨y4_,yb_⟩
 ·replace c4:=Bool.eq_false_iff.mpr c4;subst c4
  have H1:(some false)=some r:=by rw [if_neg (show ¬ (false=true) by decide)] at H;exact H
  clear H;have H:=H1;clear H1;obtain rfl:=Option.some.inj H
  go_enter Tryz.func30,Tryz.ntmps30
  go_wp2_with (first|((with_reducible refine gate_callee (f:=56) rfl ?_);refine goesL_ (some 6) rfl rfl Tryz.func56 (by kernel_rfl) rfl #[.int .i64 a0,.int .i64 0,.int .i64 1000000] rfl y1_ ?_;(with_reducible refine (tr_in.calls a0 0 1000000 false _ A3.out).mono ?_);rintro e w' ⟨rfl,⟨nd,rfl⟩⟩;refine ⟨_,rfl,?_⟩))
  go_ret
  exact ⟨y4_,yb_⟩
def tr_at.f (a0:Int) (a1:Int) (a2:Int):Option (Int):=(tr_Less.f (wrap64 (a0+(wrap64 (Int.tdiv (wrap64 (a1*a2)) 1000))))).bind fun t378=>(some t378)
set_option maxHeartbeats 8000000 in
set_option maxRecDepth 100000 in
theorem tr_at.calls (a0:Int) (a1:Int) (a2:Int) (r:Int) (w:World) (h:tr_at.f a0 a1 a2=some r):
  Calls Tryz.prog 115 #[.int .i64 a0,.int .i64 a1,.int .i64 a2] w fun e w'=>e=.returned (.int .i64 r)∧Drawn0 w w':=by
 have H:((tr_Less.f (wrap64 (a0+(wrap64 (Int.tdiv (wrap64 (a1*a2)) 1000))))).bind fun t378=>(some t378))=some r:=h
 clear h;replace H:=Option.bind_eq_some_iff.mp H;obtain ⟨t378,A40,H⟩:=H
 replace H:(some t378)=some r:=H
 have A4:=A0_ A40;clear A40;obtain rfl:=Option.some.inj H
 go_enter Tryz.func115,Tryz.ntmps115
 go_wp2_with (first|((with_reducible refine gate_callee (f:=40) rfl ?_);refine goesL_ (some 13) rfl rfl Tryz.func40 (by kernel_rfl) rfl #[.int .i64 (wrap64 (a0+(wrap64 (Int.tdiv (wrap64 (a1*a2)) 1000))))] rfl y1_ ?_;(with_reducible refine (tr_Less.calls (wrap64 (a0+(wrap64 (Int.tdiv (wrap64 (a1*a2)) 1000)))) t378 _ A4.out).mono ?_);rintro e w' ⟨rfl,⟨nd,rfl⟩⟩;refine ⟨_,rfl,?_⟩))
 go_ret
 exact ⟨y4_,yb_⟩
def tr_Agrees.l0:Nat→Int→List (S89)→Int→Int→Option (Bool)
 |0,_,_,_,_=>none
 |k+1,x0,x1,x2,x7=>if x7<(x1.length:Int) then (if 0≤x7 then ((tr_at.f x0 x2 ((rd_T89 x1 x7).f0)).bind fun t380=>((tr_Apart.f t380 ((rd_T89 x1 x7).f1)).bind fun t382=>(if t382 > ((rd_T89 x1 x7).f2) then (some false) else (tr_Agrees.l0 k x0 x1 x2 (wrap64 (x7+1)))))) else (none)) else (some true)
def tr_Agrees.f (k:Nat) (a0:Int) (l1:List (S89)) (a2:Int):Option (Bool):=tr_Agrees.l0 k a0 l1 a2 0
def tr_Agrees.T4:Bool × List (List Nat × List Nat):=(true,[([],[]),([],[]),([],[]),([],[]),([2,3],[2,3]),([4],[4]),([5],[5]),([0,1,6],[0,1,6]),([],[]),([],[]),([8,9],[8,9]),([10],[10]),([11],[11]),([7,12,7],[7,12]),([],[]),([],[]),([14,15],[14,15]),([16],[16]),([17],[17]),([13,18],[13,18])])
def tr_Agrees.B4:List Nat:=[0,0,0,0,12,28,60,127,0,0,768,1792,3840,8191,0,0,49152,114688,245760,524287]
theorem tr_Agrees.tab4:rtab .any (opsOf Tryz.f70 4)=tr_Agrees.T4:=by kernel_rfl
theorem tr_Agrees.bits4:waitsOk tr_Agrees.T4.2 tr_Agrees.B4=true:=by kernel_rfl
set_option maxHeartbeats 8000000 in
set_option maxRecDepth 100000 in
theorem tr_Agrees.calls (k:Nat) (a0:Int) (A1:Option Addr) (c1:Nat) (l1:List (S89)) (a2:Int) (r:Bool) (w:World) (hr1:Kd.C k89 w A1 l1.length l1) (hc1:l1.length≤c1) (h:tr_Agrees.f k a0 l1 a2=some r):
  Calls Tryz.prog 70 #[.int .i64 a0,.slice A1 l1.length c1,.int .i64 a2] w fun e w'=>e=.returned (.bool r)∧Below w.heap.size w w':=by
 have HR1:=A0_ hr1;have HC1:=A0_ hc1;clear hr1 hc1
 have HB:=A0_ (Below.refl w.heap.size w)
 have H:(tr_Agrees.l0 k a0 l1 a2 0)=some r:=h
 clear h
 have H':=A0_ H
 clear H
 go_enter Tryz.func70,Tryz.ntmps70
 go_wp2
 go_loopg [7] k (fun kq v7 w'=>∃ (x7_1:Int),v7=.int .i64 x7_1∧Aside0 (tr_Agrees.l0 kq a0 l1 a2 x7_1=some r)∧Aside0 (kq≤k)∧Aside0 (Below w.heap.size w w'))
 case atStart=>exact ⟨(0),y4_,H',⟨Nat.le_refl _⟩,⟨y0_⟩⟩
 case round=>
  clear H'
  (try clear c1);(try clear p2)
  obtain ⟨x7_1,rfl,HA,HK1,HB⟩:=hrel
  cases gk with
  |zero=>exact absurd HA.out (by simp [tr_Agrees.l0])
  |succ k1=>
   have H:=HA.out
   clear HA
   simp only [tr_Agrees.l0] at H
   by_cases c4:x7_1<(l1.length:Int)
   ·rw [if_pos c4] at H;have c4b0:decide (x7_1<(l1.length:Int))=true:=decide_eq_true c4;clear c4
    by_cases c5:0≤x7_1
    ·rw [if_pos c5] at H;have c5b0:decide (0≤x7_1)=true:=decide_eq_true c5;clear c5;replace H:=Option.bind_eq_some_iff.mp H;obtain ⟨t380,A60,H⟩:=H
     replace H:((tr_Apart.f t380 ((rd_T89 l1 x7_1).f1)).bind fun t382=>(if t382 > ((rd_T89 l1 x7_1).f2) then (some false) else (tr_Agrees.l0 k1 a0 l1 a2 (wrap64 (x7_1+1)))))=some r:=H
     have A6:=A0_ A60;clear A60;replace H:=Option.bind_eq_some_iff.mp H;obtain ⟨t382,A70,H⟩:=H
     replace H:(if t382 > ((rd_T89 l1 x7_1).f2) then (some false) else (tr_Agrees.l0 k1 a0 l1 a2 (wrap64 (x7_1+1))))=some r:=H
     have A7:=A0_ A70;clear A70
     by_cases c8:t382 > ((rd_T89 l1 x7_1).f2)
     ·rw [if_pos c8] at H;have c8b0:decide (((rd_T89 l1 x7_1).f2)<t382)=true:=decide_eq_true c8;clear c8;obtain rfl:=Option.some.inj H
      try go_wp2
      have n0_:=A0_ (below_drew1 HB.out);clear HB;have HB:=n0_;clear n0_
      have p379:0≤(x7_1:Int):=of_decide_eq_true y2_
      have q379:x7_1<(l1.length:Int):=of_decide_eq_true y2_
      obtain ⟨ad379,e379,hx379_0,hx379_1,hx379_2⟩:=at_T89 HR1.out x7_1 p379 q379
      have hw379_2:=hx379_2;have hw379_1:=hx379_1;have hw379_0:=hx379_0
      cases e379
      replace hx379_0:=(HB.out.cell (World.block_lt_of_cell? w _ hx379_0)).trans hx379_0
      replace hx379_1:=(HB.out.cell (World.block_lt_of_cell? w _ hx379_1)).trans hx379_1
      replace hx379_2:=(HB.out.cell (World.block_lt_of_cell? w _ hx379_2)).trans hx379_2
      replace p379:=eq_true p379
      replace q379:=eq_true q379
      have p381:0≤(x7_1:Int):=of_decide_eq_true y2_
      have q381:x7_1<(l1.length:Int):=of_decide_eq_true y2_
      obtain ⟨ad381,e381,hx381_0,hx381_1,hx381_2⟩:=at_T89 HR1.out x7_1 p381 q381
      have hw381_2:=hx381_2;have hw381_1:=hx381_1;have hw381_0:=hx381_0
      obtain rfl:ad379=ad381:=(by injection e381)
      replace hx381_0:=(HB.out.cell (World.block_lt_of_cell? w _ hx381_0)).trans hx381_0
      replace hx381_1:=(HB.out.cell (World.block_lt_of_cell? w _ hx381_1)).trans hx381_1
      replace hx381_2:=(HB.out.cell (World.block_lt_of_cell? w _ hx381_2)).trans hx381_2
      replace p381:=eq_true p381
      replace q381:=eq_true q381
      have p383:0≤(x7_1:Int):=of_decide_eq_true y2_
      have q383:x7_1<(l1.length:Int):=of_decide_eq_true y2_
      obtain ⟨ad383,e383,hx383_0,hx383_1,hx383_2⟩:=at_T89 HR1.out x7_1 p383 q383
      have hw383_2:=hx383_2;have hw383_1:=hx383_1;have hw383_0:=hx383_0
      obtain rfl:ad379=ad383:=(by injection e383)
      replace hx383_0:=(HB.out.cell (World.block_lt_of_cell? w _ hx383_0)).trans hx383_0
      replace hx383_1:=(HB.out.cell (World.block_lt_of_cell? w _ hx383_1)).trans hx383_1
      replace hx383_2:=(HB.out.cell (World.block_lt_of_cell? w _ hx383_2)).trans hx383_2
      replace p383:=eq_true p383
      replace q383:=eq_true q383
      refine start_ (n:=20) (S:=fun w'=>w'.cell? (ad379.add ((x7_1).toNat*3))=some (.int .i64 ((rd_T89 l1 x7_1).f0))∧w'.cell? ⟨(ad379.add ((x7_1).toNat*3)).block,(ad379.add ((x7_1).toNat*3)).off+1,none⟩=some (.int .i64 ((rd_T89 l1 x7_1).f1))∧w'.cell? ⟨(ad379.add ((x7_1).toNat*3)).block,(ad379.add ((x7_1).toNat*3)).off+2,none⟩=some (.int .i64 ((rd_T89 l1 x7_1).f2))∧w'.cell? (ad379.add ((x7_1).toNat*3))=some (.int .i64 ((rd_T89 l1 x7_1).f0))∧w'.cell? ⟨(ad379.add ((x7_1).toNat*3)).block,(ad379.add ((x7_1).toNat*3)).off+1,none⟩=some (.int .i64 ((rd_T89 l1 x7_1).f1))∧w'.cell? ⟨(ad379.add ((x7_1).toNat*3)).block,(ad379.add ((x7_1).toNat*3)).off+2,none⟩=some (.int .i64 ((rd_T89 l1 x7_1).f2))∧w'.cell? (ad379.add ((x7_1).toNat*3))=some (.int .i64 ((rd_T89 l1 x7_1).f0))∧w'.cell? ⟨(ad379.add ((x7_1).toNat*3)).block,(ad379.add ((x7_1).toNat*3)).off+1,none⟩=some (.int .i64 ((rd_T89 l1 x7_1).f1))∧w'.cell? ⟨(ad379.add ((x7_1).toNat*3)).block,(ad379.add ((x7_1).toNat*3)).off+2,none⟩=some (.int .i64 ((rd_T89 l1 x7_1).f2))) (ds:=[]) #[false,false,false,false,false,false,false,false,false,false,false,false,false,false,false,false,false,false,false,false] (by kernel_rfl) rfl rfl ⟨((HB.out.cell (World.block_lt_of_cell? w _ hw379_0)).trans hw379_0),((HB.out.cell (World.block_lt_of_cell? w _ hw379_1)).trans hw379_1),((HB.out.cell (World.block_lt_of_cell? w _ hw379_2)).trans hw379_2),((HB.out.cell (World.block_lt_of_cell? w _ hw381_0)).trans hw381_0),((HB.out.cell (World.block_lt_of_cell? w _ hw381_1)).trans hw381_1),((HB.out.cell (World.block_lt_of_cell? w _ hw381_2)).trans hw381_2),((HB.out.cell (World.block_lt_of_cell? w _ hw383_0)).trans hw383_0),((HB.out.cell (World.block_lt_of_cell? w _ hw383_1)).trans hw383_1),((HB.out.cell (World.block_lt_of_cell? w _ hw383_2)).trans hw383_2)⟩ (fun hHeld=>?_);refine with_tabW tr_Agrees.tab4 tr_Agrees.bits4 (fun HT_ HW_=>?_)
      generalize wr.drew=w9 at HB hx379_0 hx379_1 hx379_2 hx381_0 hx381_1 hx381_2 hx383_0 hx383_1 hx383_2 hHeld ⊢
      refine pu_ (i:=0) (N:=some 14) ?_;refine pu_ (i:=1) (N:=some 15) ?_;refine pu_ (i:=2) (N:=some 16) ?_;refine pu_ (i:=3) (N:=some 17) ?_;refine pu_ (i:=4) (N:=some 18) ?_;refine pu_ (i:=5) (N:=some 19) ?_;refine pu_ (i:=8) (N:=some 22) ?_;refine pu_ (i:=9) (N:=some 23) ?_;refine pu_ (i:=10) (N:=some 24) ?_;refine pu_ (i:=11) (N:=some 25) ?_;refine pu_ (i:=14) (N:=some 28) ?_;refine pu_ (i:=15) (N:=some 29) ?_;refine pu_ (i:=16) (N:=some 30) ?_;refine pu_ (i:=17) (N:=some 31) ?_;refine ta_ (i:=6) (N:=some 20) ?_;refine ta_ (i:=12) (N:=some 26) ?_;refine ta_ (i:=18) (N:=some 32) ?_
      refine one_ (i:=7) (N:=some 21) #[true,true,true,true,true,true,true,true,true,true,true,true,true,false,true,true,true,true,true,false] rfl rfl (one_of HT_.out (by kernel_rfl)) (by decide) (fun K hK=>?_)
      refine goes_ Tryz.func115 (by kernel_rfl) rfl #[.int .i64 a0,.int .i64 a2,.int .i64 ((rd_T89 l1 x7_1).f0)] (by rfl) rfl rfl y1_ ?_
      with_reducible refine (tr_at.calls a0 a2 ((rd_T89 l1 x7_1).f0) t380 _ A6.out).mono ?_
      rintro e w' ⟨rfl,⟨nd,rfl⟩⟩
      refine ⟨_,rfl,?_⟩
      refine hK.out _ _ ⟨((HB.out.cell (World.block_lt_of_cell? w _ hw379_0)).trans hw379_0),((HB.out.cell (World.block_lt_of_cell? w _ hw379_1)).trans hw379_1),((HB.out.cell (World.block_lt_of_cell? w _ hw379_2)).trans hw379_2),((HB.out.cell (World.block_lt_of_cell? w _ hw381_0)).trans hw381_0),((HB.out.cell (World.block_lt_of_cell? w _ hw381_1)).trans hw381_1),((HB.out.cell (World.block_lt_of_cell? w _ hw381_2)).trans hw381_2),((HB.out.cell (World.block_lt_of_cell? w _ hw383_0)).trans hw383_0),((HB.out.cell (World.block_lt_of_cell? w _ hw383_1)).trans hw383_1),((HB.out.cell (World.block_lt_of_cell? w _ hw383_2)).trans hw383_2)⟩ (fun hHeld=>?_)
      clear hK K
      refine norm_ (a':=?_) ?_ ?_
      rotate_left
      ·show Act.put _ (some 21) _=_
       simp only [Act.put,List.setIfInBounds_toArray,List.set_cons_zero,List.set_cons_succ,i64_w,i32_w]
       rfl
      refine one_ (i:=13) (N:=some 27) #[true,true,true,true,true,true,true,true,true,true,true,true,true,true,true,true,true,true,true,false] rfl rfl (one_of HT_.out (by kernel_rfl)) (by decide) (fun K hK=>?_)
      refine goes_ Tryz.func24 (by kernel_rfl) rfl #[.int .i64 t380,.int .i64 ((rd_T89 l1 x7_1).f1)] (by rfl) rfl rfl y1_ ?_
      with_reducible refine (tr_Apart.calls t380 ((rd_T89 l1 x7_1).f1) t382 _ A7.out).mono ?_
      rintro e w10 ⟨rfl,hb⟩
      refine ⟨_,rfl,?_⟩
      have n0_:=A0_ (below_step y0_ hb);clear HB;have HB:=n0_;clear n0_;(try clear hb);(try clear hb2);(try clear hk);(try clear hi)
      refine hK.out _ _ ⟨((HB.out.cell (World.block_lt_of_cell? w _ hw379_0)).trans hw379_0),((HB.out.cell (World.block_lt_of_cell? w _ hw379_1)).trans hw379_1),((HB.out.cell (World.block_lt_of_cell? w _ hw379_2)).trans hw379_2),((HB.out.cell (World.block_lt_of_cell? w _ hw381_0)).trans hw381_0),((HB.out.cell (World.block_lt_of_cell? w _ hw381_1)).trans hw381_1),((HB.out.cell (World.block_lt_of_cell? w _ hw381_2)).trans hw381_2),((HB.out.cell (World.block_lt_of_cell? w _ hw383_0)).trans hw383_0),((HB.out.cell (World.block_lt_of_cell? w _ hw383_1)).trans hw383_1),((HB.out.cell (World.block_lt_of_cell? w _ hw383_2)).trans hw383_2)⟩ (fun hHeld=>?_)
      clear hK K
      refine norm_ (a':=?_) ?_ ?_
      rotate_left
      ·show Act.put _ (some 27) _=_
       simp only [Act.put,List.setIfInBounds_toArray,List.set_cons_zero,List.set_cons_succ,i64_w,i32_w]
       rfl
      refine pu_ (i:=19) (N:=some 33) ?_
      refine done_ (done_of HT_.out (by kernel_rfl)) ?_
      try go_wp2
      go_ret
      exact ⟨y3_,y0_⟩
     ·rw [if_neg c8] at H;have c8b0:decide (((rd_T89 l1 x7_1).f2)<t382)=false:=decide_eq_false c8;clear c8
      have H':=A0_ H
      clear H
      try go_wp2
      have n0_:=A0_ (below_drew1 HB.out);clear HB;have HB:=n0_;clear n0_
      have p379:0≤(x7_1:Int):=of_decide_eq_true y2_
      have q379:x7_1<(l1.length:Int):=of_decide_eq_true y2_
      obtain ⟨ad379,e379,hx379_0,hx379_1,hx379_2⟩:=at_T89 HR1.out x7_1 p379 q379
      have hw379_2:=hx379_2;have hw379_1:=hx379_1;have hw379_0:=hx379_0
      cases e379
      replace hx379_0:=(HB.out.cell (World.block_lt_of_cell? w _ hx379_0)).trans hx379_0
      replace hx379_1:=(HB.out.cell (World.block_lt_of_cell? w _ hx379_1)).trans hx379_1
      replace hx379_2:=(HB.out.cell (World.block_lt_of_cell? w _ hx379_2)).trans hx379_2
      replace p379:=eq_true p379
      replace q379:=eq_true q379
      have p381:0≤(x7_1:Int):=of_decide_eq_true y2_
      have q381:x7_1<(l1.length:Int):=of_decide_eq_true y2_
      obtain ⟨ad381,e381,hx381_0,hx381_1,hx381_2⟩:=at_T89 HR1.out x7_1 p381 q381
      have hw381_2:=hx381_2;have hw381_1:=hx381_1;have hw381_0:=hx381_0
      obtain rfl:ad379=ad381:=(by injection e381)
      replace hx381_0:=(HB.out.cell (World.block_lt_of_cell? w _ hx381_0)).trans hx381_0
      replace hx381_1:=(HB.out.cell (World.block_lt_of_cell? w _ hx381_1)).trans hx381_1
      replace hx381_2:=(HB.out.cell (World.block_lt_of_cell? w _ hx381_2)).trans hx381_2
      replace p381:=eq_true p381
      replace q381:=eq_true q381
      have p383:0≤(x7_1:Int):=of_decide_eq_true y2_
      have q383:x7_1<(l1.length:Int):=of_decide_eq_true y2_
      obtain ⟨ad383,e383,hx383_0,hx383_1,hx383_2⟩:=at_T89 HR1.out x7_1 p383 q383
      have hw383_2:=hx383_2;have hw383_1:=hx383_1;have hw383_0:=hx383_0
      obtain rfl:ad379=ad383:=(by injection e383)
      replace hx383_0:=(HB.out.cell (World.block_lt_of_cell? w _ hx383_0)).trans hx383_0
      replace hx383_1:=(HB.out.cell (World.block_lt_of_cell? w _ hx383_1)).trans hx383_1
      replace hx383_2:=(HB.out.cell (World.block_lt_of_cell? w _ hx383_2)).trans hx383_2
      replace p383:=eq_true p383
      replace q383:=eq_true q383
      refine start_ (n:=20) (S:=fun w'=>w'.cell? (ad379.add ((x7_1).toNat*3))=some (.int .i64 ((rd_T89 l1 x7_1).f0))∧w'.cell? ⟨(ad379.add ((x7_1).toNat*3)).block,(ad379.add ((x7_1).toNat*3)).off+1,none⟩=some (.int .i64 ((rd_T89 l1 x7_1).f1))∧w'.cell? ⟨(ad379.add ((x7_1).toNat*3)).block,(ad379.add ((x7_1).toNat*3)).off+2,none⟩=some (.int .i64 ((rd_T89 l1 x7_1).f2))∧w'.cell? (ad379.add ((x7_1).toNat*3))=some (.int .i64 ((rd_T89 l1 x7_1).f0))∧w'.cell? ⟨(ad379.add ((x7_1).toNat*3)).block,(ad379.add ((x7_1).toNat*3)).off+1,none⟩=some (.int .i64 ((rd_T89 l1 x7_1).f1))∧w'.cell? ⟨(ad379.add ((x7_1).toNat*3)).block,(ad379.add ((x7_1).toNat*3)).off+2,none⟩=some (.int .i64 ((rd_T89 l1 x7_1).f2))∧w'.cell? (ad379.add ((x7_1).toNat*3))=some (.int .i64 ((rd_T89 l1 x7_1).f0))∧w'.cell? ⟨(ad379.add ((x7_1).toNat*3)).block,(ad379.add ((x7_1).toNat*3)).off+1,none⟩=some (.int .i64 ((rd_T89 l1 x7_1).f1))∧w'.cell? ⟨(ad379.add ((x7_1).toNat*3)).block,(ad379.add ((x7_1).toNat*3)).off+2,none⟩=some (.int .i64 ((rd_T89 l1 x7_1).f2))) (ds:=[]) #[false,false,false,false,false,false,false,false,false,false,false,false,false,false,false,false,false,false,false,false] (by kernel_rfl) rfl rfl ⟨((HB.out.cell (World.block_lt_of_cell? w _ hw379_0)).trans hw379_0),((HB.out.cell (World.block_lt_of_cell? w _ hw379_1)).trans hw379_1),((HB.out.cell (World.block_lt_of_cell? w _ hw379_2)).trans hw379_2),((HB.out.cell (World.block_lt_of_cell? w _ hw381_0)).trans hw381_0),((HB.out.cell (World.block_lt_of_cell? w _ hw381_1)).trans hw381_1),((HB.out.cell (World.block_lt_of_cell? w _ hw381_2)).trans hw381_2),((HB.out.cell (World.block_lt_of_cell? w _ hw383_0)).trans hw383_0),((HB.out.cell (World.block_lt_of_cell? w _ hw383_1)).trans hw383_1),((HB.out.cell (World.block_lt_of_cell? w _ hw383_2)).trans hw383_2)⟩ (fun hHeld=>?_);refine with_tabW tr_Agrees.tab4 tr_Agrees.bits4 (fun HT_ HW_=>?_)
      generalize wr.drew=w11 at HB hx379_0 hx379_1 hx379_2 hx381_0 hx381_1 hx381_2 hx383_0 hx383_1 hx383_2 hHeld ⊢
      refine pu_ (i:=0) (N:=some 14) ?_;refine pu_ (i:=1) (N:=some 15) ?_;refine pu_ (i:=2) (N:=some 16) ?_;refine pu_ (i:=3) (N:=some 17) ?_;refine pu_ (i:=4) (N:=some 18) ?_;refine pu_ (i:=5) (N:=some 19) ?_;refine pu_ (i:=8) (N:=some 22) ?_;refine pu_ (i:=9) (N:=some 23) ?_;refine pu_ (i:=10) (N:=some 24) ?_;refine pu_ (i:=11) (N:=some 25) ?_;refine pu_ (i:=14) (N:=some 28) ?_;refine pu_ (i:=15) (N:=some 29) ?_;refine pu_ (i:=16) (N:=some 30) ?_;refine pu_ (i:=17) (N:=some 31) ?_;refine ta_ (i:=6) (N:=some 20) ?_;refine ta_ (i:=12) (N:=some 26) ?_;refine ta_ (i:=18) (N:=some 32) ?_
      refine one_ (i:=7) (N:=some 21) #[true,true,true,true,true,true,true,true,true,true,true,true,true,false,true,true,true,true,true,false] rfl rfl (one_of HT_.out (by kernel_rfl)) (by decide) (fun K hK=>?_)
      refine goes_ Tryz.func115 (by kernel_rfl) rfl #[.int .i64 a0,.int .i64 a2,.int .i64 ((rd_T89 l1 x7_1).f0)] (by rfl) rfl rfl y1_ ?_
      with_reducible refine (tr_at.calls a0 a2 ((rd_T89 l1 x7_1).f0) t380 _ A6.out).mono ?_
      rintro e w' ⟨rfl,⟨nd,rfl⟩⟩
      refine ⟨_,rfl,?_⟩
      refine hK.out _ _ ⟨((HB.out.cell (World.block_lt_of_cell? w _ hw379_0)).trans hw379_0),((HB.out.cell (World.block_lt_of_cell? w _ hw379_1)).trans hw379_1),((HB.out.cell (World.block_lt_of_cell? w _ hw379_2)).trans hw379_2),((HB.out.cell (World.block_lt_of_cell? w _ hw381_0)).trans hw381_0),((HB.out.cell (World.block_lt_of_cell? w _ hw381_1)).trans hw381_1),((HB.out.cell (World.block_lt_of_cell? w _ hw381_2)).trans hw381_2),((HB.out.cell (World.block_lt_of_cell? w _ hw383_0)).trans hw383_0),((HB.out.cell (World.block_lt_of_cell? w _ hw383_1)).trans hw383_1),((HB.out.cell (World.block_lt_of_cell? w _ hw383_2)).trans hw383_2)⟩ (fun hHeld=>?_)
      clear hK K
      refine norm_ (a':=?_) ?_ ?_
      rotate_left
      ·show Act.put _ (some 21) _=_
       simp only [Act.put,List.setIfInBounds_toArray,List.set_cons_zero,List.set_cons_succ,i64_w,i32_w]
       rfl
      refine one_ (i:=13) (N:=some 27) #[true,true,true,true,true,true,true,true,true,true,true,true,true,true,true,true,true,true,true,false] rfl rfl (one_of HT_.out (by kernel_rfl)) (by decide) (fun K hK=>?_)
      refine goes_ Tryz.func24 (by kernel_rfl) rfl #[.int .i64 t380,.int .i64 ((rd_T89 l1 x7_1).f1)] (by rfl) rfl rfl y1_ ?_
      with_reducible refine (tr_Apart.calls t380 ((rd_T89 l1 x7_1).f1) t382 _ A7.out).mono ?_
      rintro e w12 ⟨rfl,hb⟩
      refine ⟨_,rfl,?_⟩
      have n0_:=A0_ (below_step y0_ hb);clear HB;have HB:=n0_;clear n0_;(try clear hb);(try clear hb2);(try clear hk);(try clear hi)
      refine hK.out _ _ ⟨((HB.out.cell (World.block_lt_of_cell? w _ hw379_0)).trans hw379_0),((HB.out.cell (World.block_lt_of_cell? w _ hw379_1)).trans hw379_1),((HB.out.cell (World.block_lt_of_cell? w _ hw379_2)).trans hw379_2),((HB.out.cell (World.block_lt_of_cell? w _ hw381_0)).trans hw381_0),((HB.out.cell (World.block_lt_of_cell? w _ hw381_1)).trans hw381_1),((HB.out.cell (World.block_lt_of_cell? w _ hw381_2)).trans hw381_2),((HB.out.cell (World.block_lt_of_cell? w _ hw383_0)).trans hw383_0),((HB.out.cell (World.block_lt_of_cell? w _ hw383_1)).trans hw383_1),((HB.out.cell (World.block_lt_of_cell? w _ hw383_2)).trans hw383_2)⟩ (fun hHeld=>?_)
      clear hK K
      refine norm_ (a':=?_) ?_ ?_
      rotate_left
      ·show Act.put _ (some 27) _=_
       simp only [Act.put,List.setIfInBounds_toArray,List.set_cons_zero,List.set_cons_succ,i64_w,i32_w]
       rfl
      refine pu_ (i:=19) (N:=some 33) ?_
      refine done_ (done_of HT_.out (by kernel_rfl)) ?_
      try go_wp2
      go_roundg k1
      case measure=>have:=HK1.out;omega
      case rel=>exact ⟨(wrap64 (x7_1+1)),y4_,H',⟨by have:=HK1.out;omega⟩,⟨y0_⟩⟩
    ·rw [if_neg c5] at H;exact absurd H (by simp)
   ·rw [if_neg c4] at H;have c4b0:decide (x7_1<(l1.length:Int))=false:=decide_eq_false c4;clear c4;obtain rfl:=Option.some.inj H;go_wp2;go_ret
    exact ⟨y3_,y0_⟩
end Go.Proofs.YtaidphhkhddemaaGreatDoor.PSky
end
section
namespace Go.Proofs.YtaidphhkhddemaaGreatDoor.PSky
open Go.RowKit Go.Proofs.YtaidphhkhddemaaGreatDoorW.PrintWords Go.Proofs.YtaidphhkhddemaaGreatDoorW.PrintLast Go.Proofs.YtaidphhkhddemaaGreatDoorW.PrintMore
attribute [local go_sem] max2_int min2_int max_two min_two max_three min_three max_four min_four
set_option linter.unusedVariables false
set_option linter.unusedSimpArgs false
def tr_Speeds.l0:Nat→Int→List (S89)→Int→List Int→Int→Option (List Int)
 |0,_,_,_,_,_=>none
 |k+1,x0,x1,x3,x9,x10=>if x10≤x3 then ((tr_Agrees.f k x0 x1 x10).bind fun t384=>(if t384=true then (if x9.length<17592186044416 then (tr_Speeds.l0 k x0 x1 x3 (x9 ++ [x10]) (wrap64 (x10+1))) else (none)) else (tr_Speeds.l0 k x0 x1 x3 x9 (wrap64 (x10+1))))) else (some x9)
def tr_Speeds.f (k:Nat) (a0:Int) (l1:List (S89)) (a2:Int) (a3:Int):Option (List Int):=tr_Speeds.l0 k a0 l1 a3 ([]:List Int) a2
set_option maxHeartbeats 8000000 in
set_option maxRecDepth 100000 in
theorem tr_Speeds.calls (k:Nat) (a0:Int) (A1:Option Addr) (c1:Nat) (l1:List (S89)) (a2:Int) (a3:Int) (r:List Int) (w:World) (hr1:Kd.C k89 w A1 l1.length l1) (hc1:l1.length≤c1) (h:tr_Speeds.f k a0 l1 a2 a3=some r):
  Calls Tryz.prog 31 #[.int .i64 a0,.slice A1 l1.length c1,.int .i64 a2,.int .i64 a3] w fun e w'=>∃ v0_:Value,e=.returned (v0_)∧Kd.R (Kd.int .i64) 3 w' w.heap.size (fun _=>True) v0_ r∧Below w.heap.size w w':=by
 have HR1:=A0_ hr1;have HC1:=A0_ hc1;clear hr1 hc1
 have HB:=A0_ (Below.refl w.heap.size w)
 have H:(tr_Speeds.l0 k a0 l1 a3 ([]:List Int) a2)=some r:=h
 clear h
 have H':=A0_ H
 clear H
 go_enter Tryz.func31,Tryz.ntmps31
 go_wp2
 go_loopg [9,10] k (fun kq v9 v10 w'=>∃ (x9_1:List Int) (x10_1:Int),v10=.int .i64 x10_1∧Aside0 (tr_Speeds.l0 kq a0 l1 a3 x9_1 x10_1=some r)∧Aside0 (kq≤k)∧Aside0 (Kd.R (Kd.int .i64) 3 w' w.heap.size (fun _=>True) v9 x9_1)∧Aside0 (Below w.heap.size w w'))
 case atStart=>exact ⟨(([]:List Int)),(a2),y4_,H',⟨Nat.le_refl _⟩,⟨by first|exact Kd.R_nil _ _ _ _ _|exact Kd.N_nil _ _ _ _ _|exact Kd.V_nil _ _ _ _ _|exact Kd.Q_nil _ _ _ _ _|exact Kd.S_nil _ _ _ _ _⟩,⟨y0_⟩⟩
 case round=>
  clear H'
  (try clear c1);(try clear p2);(try clear c3)
  obtain ⟨x9_1,x10_1,rfl,HA,HK1,HO_9,HB⟩:=hrel
  cases gk with
  |zero=>exact absurd HA.out (by simp [tr_Speeds.l0])
  |succ k1=>
   have H:=HA.out
   clear HA
   simp only [tr_Speeds.l0] at H
   by_cases c5:x10_1≤a3
   ·rw [if_pos c5] at H;have c5b0:decide (x10_1≤a3)=true:=decide_eq_true c5;clear c5;replace H:=Option.bind_eq_some_iff.mp H;obtain ⟨t384,A60,H⟩:=H
    replace H:(if t384=true then (if x9_1.length<17592186044416 then (tr_Speeds.l0 k1 a0 l1 a3 (x9_1 ++ [x10_1]) (wrap64 (x10_1+1))) else (none)) else (tr_Speeds.l0 k1 a0 l1 a3 x9_1 (wrap64 (x10_1+1))))=some r:=H
    have A6:=A0_ A60;clear A60
    by_cases c7:t384=true
    ·subst c7
     have H1:(if x9_1.length<17592186044416 then (tr_Speeds.l0 k1 a0 l1 a3 (x9_1 ++ [x10_1]) (wrap64 (x10_1+1))) else (none))=some r:=by rw [if_pos rfl] at H;exact H
     clear H;have H:=H1;clear H1
     by_cases c8:x9_1.length<17592186044416
     ·rw [if_pos c8] at H;have LMc8:=A0_ c8;clear c8
      obtain ⟨y385,hy385⟩:∃ y_:List Int,y_=(x9_1 ++ [x10_1]):=⟨_,rfl⟩
      replace H:(tr_Speeds.l0 k1 a0 l1 a3 y385 (wrap64 (x10_1+1)))=some r:=by first|(rw [hy385];with_reducible exact H)|(have H2_:=(Option.bind_some _ _).symm.trans H;rw [hy385];with_reducible exact H2_)|(have H2_:=(Option.bind_some _ _).symm.trans H;with_reducible exact H2_)|with_reducible exact H|(rw [hy385];exact H)|exact H
      have Ny385:=A0_ hy385;clear hy385
      have H':=A0_ H
      clear H
      go_wp2_with (first|((with_reducible refine gate_callee (f:=70) rfl ?_);refine goesL_ (some 20) rfl rfl Tryz.func70 (by kernel_rfl) rfl #[.int .i64 a0,.slice A1 l1.length c1,.int .i64 x10_1] rfl y1_ ?_;(with_reducible refine (tr_Agrees.calls k1 a0 _ _ l1 x10_1 true _ ?side1 ?side2 A6.out).mono ?_);(case side1=>repeat (first|exact (Kd.C_below HR1.out HB.out)|(with_reducible refine Kd.C_alloc ?_ _)|(with_reducible refine Kd.C_drewN ?_ _)|(with_reducible refine Kd.C_drew ?_)));(case side2=>exact HC1.out);rintro e w9 ⟨rfl,hb⟩;refine ⟨_,rfl,?_⟩;have n0_:=A0_ (Kd.R_below (rd_ HO_9.out) hb);have n1_:=A0_ (below_step y0_ hb);clear HO_9;clear HB;have HO_9:=n0_;have HB:=n1_;clear n0_ n1_;(try clear hb);(try clear hb2);(try clear hk);(try clear hi))|((with_reducible refine gate_builtin (b:=.append) (xs:=#[.tmp 21,.tmp 23]) rfl ?_);at_builtin;refine Kd.R_append (Kd.int .i64) (w0:=w) w.heap.size rfl (.tmp 21) (.tmp 23) 63 3 (.int .i64 0) 8 rfl Tryz.underlying63 info3 rfl (by decide) (by omega) u9 x9_1 x10_1 [.int .i64 x10_1] (fun _=>True) (fun _=>False) rfl rfl ?aP (fun _ hk=>hk.elim) ?aF ?aO ?aB ?aS ?aL ?_;(case aP=>exact rfl);(case aB=>exact y0_);(case aF=>exact (fun _ _=>trivial));(case aO=>exact (rd_ HO_9.out));(case aS=>exact (below_size y0_));(case aL=>have:=LMc8.out;omega);intro v386 w10 ho hb hg hat;rw [← Ny385.out] at ho;have n0_:=A0_ (hb);have n1_:=A0_ (ho);clear HB;clear HO_9;have HB:=n0_;have HO387:=n1_;clear n0_ n1_;clear ho hb hg hat))
      go_roundg k1
      case measure=>have:=HK1.out;omega
      case rel=>exact ⟨(y385),(wrap64 (x10_1+1)),y4_,H',⟨by have:=HK1.out;omega⟩,⟨by (with_reducible repeat (first|apply Kd.R_alloc|apply Kd.R_drewN|apply Kd.R_drew));exact HO387.out⟩,⟨y0_⟩⟩
     ·rw [if_neg c8] at H;exact absurd H (by simp)
    ·replace c7:=Bool.eq_false_iff.mpr c7;subst c7
     have H1:(tr_Speeds.l0 k1 a0 l1 a3 x9_1 (wrap64 (x10_1+1)))=some r:=by rw [if_neg (show ¬ (false=true) by decide)] at H;exact H
     clear H;have H:=H1;clear H1
     have H':=A0_ H
     clear H
     go_wp2_with (first|((with_reducible refine gate_callee (f:=70) rfl ?_);refine goesL_ (some 20) rfl rfl Tryz.func70 (by kernel_rfl) rfl #[.int .i64 a0,.slice A1 l1.length c1,.int .i64 x10_1] rfl y1_ ?_;(with_reducible refine (tr_Agrees.calls k1 a0 _ _ l1 x10_1 false _ ?side1 ?side2 A6.out).mono ?_);(case side1=>repeat (first|exact (Kd.C_below HR1.out HB.out)|(with_reducible refine Kd.C_alloc ?_ _)|(with_reducible refine Kd.C_drewN ?_ _)|(with_reducible refine Kd.C_drew ?_)));(case side2=>exact HC1.out);rintro e w11 ⟨rfl,hb⟩;refine ⟨_,rfl,?_⟩;have n0_:=A0_ (Kd.R_below (rd_ HO_9.out) hb);have n1_:=A0_ (below_step y0_ hb);clear HO_9;clear HB;have HO_9:=n0_;have HB:=n1_;clear n0_ n1_;(try clear hb);(try clear hb2);(try clear hk);(try clear hi)))
     go_roundg k1
     case measure=>have:=HK1.out;omega
     case rel=>exact ⟨(x9_1),(wrap64 (x10_1+1)),y4_,H',⟨by have:=HK1.out;omega⟩,⟨by (with_reducible repeat (first|apply Kd.R_alloc|apply Kd.R_drewN|apply Kd.R_drew));exact HO_9.out⟩,⟨y0_⟩⟩
   ·rw [if_neg c5] at H;have c5b0:decide (x10_1≤a3)=false:=decide_eq_false c5;clear c5;obtain rfl:=Option.some.inj H;go_wp2;go_ret
    exact ⟨_,y3_,by (with_reducible repeat (first|apply Kd.R_alloc|apply Kd.R_drewN|apply Kd.R_drew));exact HO_9.out,y0_⟩
end Go.Proofs.YtaidphhkhddemaaGreatDoor.PSky
end
section
namespace Go.Proofs.YtaidphhkhddemaaGreatDoor.PSky
open Go.RowKit Go.Proofs.YtaidphhkhddemaaGreatDoorW.PrintWords Go.Proofs.YtaidphhkhddemaaGreatDoorW.PrintLast Go.Proofs.YtaidphhkhddemaaGreatDoorW.PrintMore
attribute [local go_sem] max2_int min2_int max_two min_two max_three min_three max_four min_four
set_option linter.unusedVariables false
set_option linter.unusedSimpArgs false
def tr_Days.l0:Nat→List Int→Int→Option (Bool)
 |0,_,_=>none
 |k+1,x0,x3=>if x3<(x0.length:Int) then (if 0≤x3 then ((tr_Day.f (rd x0 x3)).bind fun t407=>(if t407=true then (tr_Days.l0 k x0 (wrap64 (x3+1))) else (some false))) else (none)) else ((tr_in.f (x0.length:Int) 1 6).bind fun t408=>(some t408))
def tr_Days.f (k:Nat) (l0:List Int):Option (Bool):=tr_Days.l0 k l0 0
set_option maxHeartbeats 8000000 in
set_option maxRecDepth 100000 in
theorem tr_Days.calls (k:Nat) (A0:Option Addr) (c0:Nat) (l0:List Int) (r:Bool) (w:World) (hr0:Kd.C (Kd.int .i64) w A0 l0.length l0) (hc0:l0.length≤c0) (h:tr_Days.f k l0=some r):
  Calls Tryz.prog 33 #[.slice A0 l0.length c0] w fun e w'=>e=.returned (.bool r)∧Drawn0 w w':=by
 have HR0:=A0_ hr0;have HC0:=A0_ hc0;clear hr0 hc0
 have H:(tr_Days.l0 k l0 0)=some r:=h
 clear h
 have H':=A0_ H
 clear H
 go_enter Tryz.func33,Tryz.ntmps33
 go_wp2
 go_loopg [3] k (fun kq v3 w'=>∃ (x3_1:Int),v3=.int .i64 x3_1∧Aside0 (tr_Days.l0 kq l0 x3_1=some r)∧Aside0 (kq≤k)∧Drawn0 w w')
 case atStart=>exact ⟨(0),y4_,H',⟨Nat.le_refl _⟩,yb_⟩
 case round=>
  clear H'
  obtain ⟨x3_1,rfl,HA,HK1,⟨m1,rfl⟩⟩:=hrel
  cases gk with
  |zero=>exact absurd HA.out (by simp [tr_Days.l0])
  |succ k1=>
   have H:=HA.out
   clear HA
   simp only [tr_Days.l0] at H
   by_cases c2:x3_1<(l0.length:Int)
   ·rw [if_pos c2] at H;have c2b0:decide (x3_1<(l0.length:Int))=true:=decide_eq_true c2;clear c2
    by_cases c3:0≤x3_1
    ·rw [if_pos c3] at H;have c3b0:decide (0≤x3_1)=true:=decide_eq_true c3;clear c3;replace H:=Option.bind_eq_some_iff.mp H;obtain ⟨t407,A40,H⟩:=H
     replace H:(if t407=true then (tr_Days.l0 k1 l0 (wrap64 (x3_1+1))) else (some false))=some r:=H
     have A4:=A0_ A40;clear A40
     by_cases c5:t407=true
     ·subst c5
      have H1:(tr_Days.l0 k1 l0 (wrap64 (x3_1+1)))=some r:=by rw [if_pos rfl] at H;exact H
      clear H;have H:=H1;clear H1
      have H':=A0_ H
      clear H
      have p406:0≤(x3_1:Int):=of_decide_eq_true y2_
      have q406:x3_1<(l0.length:Int):=of_decide_eq_true y2_
      obtain ⟨ad406,e406,hx406_0⟩:=Kd.at_int HR0.out x3_1 p406 q406
      cases e406
      replace p406:=eq_true p406
      replace q406:=eq_true q406
      go_wp2_with (first|((with_reducible refine gate_callee (f:=37) rfl ?_);refine goesL_ (some 14) rfl rfl Tryz.func37 (by kernel_rfl) rfl #[.int .i64 (rd l0 x3_1)] rfl y1_ ?_;(with_reducible refine (tr_Day.calls (rd l0 x3_1) true _ A4.out).mono ?_);rintro e w' ⟨rfl,⟨nd,rfl⟩⟩;refine ⟨_,rfl,?_⟩))
      go_roundg k1
      case measure=>have:=HK1.out;omega
      case rel=>exact ⟨(wrap64 (x3_1+1)),y4_,H',⟨by have:=HK1.out;omega⟩,yb_⟩
     ·replace c5:=Bool.eq_false_iff.mpr c5;subst c5
      have H1:(some false)=some r:=by rw [if_neg (show ¬ (false=true) by decide)] at H;exact H
      clear H;have H:=H1;clear H1;obtain rfl:=Option.some.inj H
      have p406:0≤(x3_1:Int):=of_decide_eq_true y2_
      have q406:x3_1<(l0.length:Int):=of_decide_eq_true y2_
      obtain ⟨ad406,e406,hx406_0⟩:=Kd.at_int HR0.out x3_1 p406 q406
      cases e406
      replace p406:=eq_true p406
      replace q406:=eq_true q406
      go_wp2_with (first|((with_reducible refine gate_callee (f:=37) rfl ?_);refine goesL_ (some 14) rfl rfl Tryz.func37 (by kernel_rfl) rfl #[.int .i64 (rd l0 x3_1)] rfl y1_ ?_;(with_reducible refine (tr_Day.calls (rd l0 x3_1) false _ A4.out).mono ?_);rintro e w' ⟨rfl,⟨nd,rfl⟩⟩;refine ⟨_,rfl,?_⟩))
      go_ret
      exact ⟨y4_,yb_⟩
    ·rw [if_neg c3] at H;exact absurd H (by simp)
   ·rw [if_neg c2] at H;have c2b0:decide (x3_1<(l0.length:Int))=false:=decide_eq_false c2;clear c2;replace H:=Option.bind_eq_some_iff.mp H;obtain ⟨t408,A60,H⟩:=H
    replace H:(some t408)=some r:=H
    have A6:=A0_ A60;clear A60;obtain rfl:=Option.some.inj H
    go_wp2_with (first|((with_reducible refine gate_callee (f:=56) rfl ?_);refine goesL_ (some 18) rfl rfl Tryz.func56 (by kernel_rfl) rfl #[.int .i64 (l0.length:Int),.int .i64 1,.int .i64 6] rfl y1_ ?_;(with_reducible refine (tr_in.calls (l0.length:Int) 1 6 t408 _ A6.out).mono ?_);rintro e w' ⟨rfl,⟨nd,rfl⟩⟩;refine ⟨_,rfl,?_⟩))
    go_ret
    exact ⟨y4_,yb_⟩
mutual
def tr_Left.l0:Nat→Int→List Int→Int→Int→List Int→Int→Option (Int)
 |0,_,_,_,_,_,_=>none
 |k+1,x0,x1,x2,x3,x9,x10=>if x10<(x1.length:Int) then (if 0≤x10 then ((tr_at.f x0 (rd x1 x10) x2).bind fun t413=>(if 0≤t413 then (if t413<(x9.length:Int) then (tr_Left.l0 k x0 x1 x2 x3 (x9.set (t413:Int).toNat (wrap64 ((rd x9 t413)+1))) (wrap64 (x10+1))) else (none)) else (none))) else (none)) else (tr_Left.l1 k x3 x9 0 0 0)
def tr_Left.l1:Nat→Int→List Int→Int→Int→Int→Option (Int)
 |0,_,_,_,_,_=>none
 |k+1,x3,x9,x12,x13,x14=>if x14≤(wrap64 (2*x3)) then (if 0≤x14 then (if x14<(x9.length:Int) then (tr_Left.l1 k x3 x9 (wrap64 (x12+(rd x9 x14))) x13 (wrap64 (x14+1))) else (none)) else (none)) else (tr_Left.l2 k x3 x9 x12 x13 0)
def tr_Left.l2:Nat→Int→List Int→Int→Int→Int→Option (Int)
 |0,_,_,_,_,_=>none
 |k+1,x3,x9,x12,x13,x15=>if x15<21600 then (if 0≤x15 then (if x15<(x9.length:Int) then (if 0≤(Int.tmod (wrap64 ((wrap64 (x15+(wrap64 (2*x3))))+1)) 21600) then (if (Int.tmod (wrap64 ((wrap64 (x15+(wrap64 (2*x3))))+1)) 21600)<(x9.length:Int) then (tr_Left.l2 k x3 x9 (wrap64 ((wrap64 (x12 - (rd x9 x15)))+(rd x9 (Int.tmod (wrap64 ((wrap64 (x15+(wrap64 (2*x3))))+1)) 21600)))) (mx x13 x12) (wrap64 (x15+1))) else (none)) else (none)) else (none)) else (none)) else (some x13)
end
def tr_Left.f (k:Nat) (a0:Int) (l1:List Int) (a2:Int) (a3:Int):Option (Int):=if (wrap64 ((wrap64 (2*a3))+1)) ≥ 21600 then (some (l1.length:Int)) else (if 21600≤35184372088832 then (tr_Left.l0 k a0 l1 a2 a3 (List.replicate 21600 0) 0) else (none))
set_option maxHeartbeats 8000000 in
set_option maxRecDepth 100000 in
theorem tr_Left.calls (k:Nat) (a0:Int) (A1:Option Addr) (c1:Nat) (l1:List Int) (a2:Int) (a3:Int) (r:Int) (w:World) (hr1:Kd.C (Kd.int .i64) w A1 l1.length l1) (hc1:l1.length≤c1) (h:tr_Left.f k a0 l1 a2 a3=some r):
  Calls Tryz.prog 79 #[.int .i64 a0,.slice A1 l1.length c1,.int .i64 a2,.int .i64 a3] w fun e w'=>e=.returned (.int .i64 r)∧Below w.heap.size w w':=by
 have HR1:=A0_ hr1;have HC1:=A0_ hc1;clear hr1 hc1
 have HB:=A0_ (Below.refl w.heap.size w)
 have H:(if (wrap64 ((wrap64 (2*a3))+1)) ≥ 21600 then (some (l1.length:Int)) else (if 21600≤35184372088832 then (tr_Left.l0 k a0 l1 a2 a3 (List.replicate 21600 0) 0) else (none)))=some r:=h
 clear h
 by_cases c5:(wrap64 ((wrap64 (2*a3))+1)) ≥ 21600
 ·rw [if_pos c5] at H;have c5b0:decide (21600≤(wrap64 ((wrap64 (2*a3))+1)))=true:=decide_eq_true c5;clear c5;obtain rfl:=Option.some.inj H
  go_enter Tryz.func79,Tryz.ntmps79
  go_wp2
  repeat (go_quiet (fail);try go_wp2)
  go_ret
  exact ⟨y3_,y0_⟩
 ·rw [if_neg c5] at H;have c5b0:decide (21600≤(wrap64 ((wrap64 (2*a3))+1)))=false:=decide_eq_false c5;clear c5
  by_cases c6:21600≤35184372088832
  ·rw [if_pos c6] at H;have c6b0:=eq_true c6;have c6b1:decide (21600≤35184372088832)=true:=decide_eq_true c6;clear c6
   obtain ⟨y409,hy409⟩:∃ y_:List Int,y_=(List.replicate 21600 0):=⟨_,rfl⟩
   replace H:(tr_Left.l0 k a0 l1 a2 a3 y409 0)=some r:=by first|(rw [hy409];with_reducible exact H)|(have H2_:=(Option.bind_some _ _).symm.trans H;rw [hy409];with_reducible exact H2_)|(have H2_:=(Option.bind_some _ _).symm.trans H;with_reducible exact H2_)|with_reducible exact H|(rw [hy409];exact H)|exact H
   have Ny409:=A0_ hy409;clear hy409
   have H':=A0_ H
   clear H
   go_enter Tryz.func79,Tryz.ntmps79
   go_wp2_with (first|((with_reducible refine gate_dst (N:=22) rfl ?_);refine Kd.R_make (Kd.int .i64) _ 3 rfl (N:=22) rfl 63 _ _ rfl 21600 rfl rfl Tryz.underlying63 (.int .i64 0) 8 info3 rfl (by decide) (by omega) 0 (ok:=fun _=>True) (okp:=fun _=>True) rfl (fun _ hk=>hk) trivial (by omega) (by omega) (Below.refl _ _) (Nat.le_refl _) ?_;intro v410 w7 ho8 hb hg_ hnew_;clear hg_ hnew_;(first|rw [← Ny409.out] at ho8|(simp only [Int.reduceToNat] at ho8;rw [← Ny409.out] at ho8));have n0_:=A0_ (Kd.R_lower ho8 (below_size y0_));have n1_:=A0_ (below_step y0_ hb);clear HB;have HO411:=n0_;have HB:=n1_;clear n0_ n1_;clear hb ho8))
   repeat (go_quiet (first|((with_reducible refine gate_dst (N:=22) rfl ?_);refine Kd.R_make (Kd.int .i64) _ 3 rfl (N:=22) rfl 63 _ _ rfl 21600 rfl rfl Tryz.underlying63 (.int .i64 0) 8 info3 rfl (by decide) (by omega) 0 (ok:=fun _=>True) (okp:=fun _=>True) rfl (fun _ hk=>hk) trivial (by omega) (by omega) (Below.refl _ _) (Nat.le_refl _) ?_;intro v410 w7 ho8 hb hg_ hnew_;clear hg_ hnew_;(first|rw [← Ny409.out] at ho8|(simp only [Int.reduceToNat] at ho8;rw [← Ny409.out] at ho8));have n0_:=A0_ (Kd.R_lower ho8 (below_size y0_));have n1_:=A0_ (below_step y0_ hb);clear HB;have HO411:=n0_;have HB:=n1_;clear n0_ n1_;clear hb ho8));try go_wp2_with (first|((with_reducible refine gate_dst (N:=22) rfl ?_);refine Kd.R_make (Kd.int .i64) _ 3 rfl (N:=22) rfl 63 _ _ rfl 21600 rfl rfl Tryz.underlying63 (.int .i64 0) 8 info3 rfl (by decide) (by omega) 0 (ok:=fun _=>True) (okp:=fun _=>True) rfl (fun _ hk=>hk) trivial (by omega) (by omega) (Below.refl _ _) (Nat.le_refl _) ?_;intro v410 w7 ho8 hb hg_ hnew_;clear hg_ hnew_;(first|rw [← Ny409.out] at ho8|(simp only [Int.reduceToNat] at ho8;rw [← Ny409.out] at ho8));have n0_:=A0_ (Kd.R_lower ho8 (below_size y0_));have n1_:=A0_ (below_step y0_ hb);clear HB;have HO411:=n0_;have HB:=n1_;clear n0_ n1_;clear hb ho8)))
   go_loopg [10] k (fun kq v10 w'=>∃ (x9_1:List Int) (x10_1:Int),v10=.int .i64 x10_1∧Aside0 (tr_Left.l0 kq a0 l1 a2 a3 x9_1 x10_1=some r)∧Aside0 (kq≤k)∧Aside0 (Kd.R (Kd.int .i64) 3 w' w.heap.size (fun _=>True) v410 x9_1)∧Aside0 (Below w.heap.size w w'))
   case atStart=>exact ⟨(y409),(0),y4_,H',⟨Nat.le_refl _⟩,⟨by (with_reducible repeat (first|apply Kd.R_alloc|apply Kd.R_drewN|apply Kd.R_drew));exact HO411.out⟩,⟨y0_⟩⟩
   case round=>
    clear H'
    (try clear c1);(try clear p2);(try clear c5);(try clear c5b0);(try clear c6);(try clear c6b0);(try clear c6b1);(try clear p6);(try clear c7)
    obtain ⟨x9_1,x10_1,rfl,HA,HK1,HO_9,HB⟩:=hrel
    cases gk with
    |zero=>exact absurd HA.out (by simp [tr_Left.l0])
    |succ k1=>
     have H:=HA.out
     clear HA
     simp only [tr_Left.l0] at H
     by_cases c9:x10_1<(l1.length:Int)
     ·rw [if_pos c9] at H;have c9b0:decide (x10_1<(l1.length:Int))=true:=decide_eq_true c9;clear c9
      by_cases c10:0≤x10_1
      ·rw [if_pos c10] at H;have c10b0:decide (0≤x10_1)=true:=decide_eq_true c10;clear c10;replace H:=Option.bind_eq_some_iff.mp H;obtain ⟨t413,A110,H⟩:=H
       replace H:(if 0≤t413 then (if t413<(x9_1.length:Int) then (tr_Left.l0 k1 a0 l1 a2 a3 (x9_1.set (t413:Int).toNat (wrap64 ((rd x9_1 t413)+1))) (wrap64 (x10_1+1))) else (none)) else (none))=some r:=H
       have A11:=A0_ A110;clear A110
       by_cases c12:0≤t413
       ·rw [if_pos c12] at H;have c12b0:decide (0≤t413)=true:=decide_eq_true c12;clear c12
        by_cases c13:t413<(x9_1.length:Int)
        ·rw [if_pos c13] at H;have c13b0:decide (t413<(x9_1.length:Int))=true:=decide_eq_true c13;clear c13
         obtain ⟨y415,hy415⟩:∃ y_:List Int,y_=(x9_1.set (t413:Int).toNat (wrap64 ((rd x9_1 t413)+1))):=⟨_,rfl⟩
         replace H:(tr_Left.l0 k1 a0 l1 a2 a3 y415 (wrap64 (x10_1+1)))=some r:=by first|(rw [hy415];with_reducible exact H)|(have H2_:=(Option.bind_some _ _).symm.trans H;rw [hy415];with_reducible exact H2_)|(have H2_:=(Option.bind_some _ _).symm.trans H;with_reducible exact H2_)|with_reducible exact H|(rw [hy415];exact H)|exact H
         have Ny415:=A0_ hy415;clear hy415
         have H':=A0_ H
         clear H
         have p412:0≤(x10_1:Int):=of_decide_eq_true y2_
         have q412:x10_1<(l1.length:Int):=of_decide_eq_true y2_
         obtain ⟨ad412,e412,hx412_0⟩:=Kd.at_int HR1.out x10_1 p412 q412
         cases e412
         replace hx412_0:=(HB.out.cell (World.block_lt_of_cell? w _ hx412_0)).trans hx412_0
         replace p412:=eq_true p412
         replace q412:=eq_true q412
         go_wp2_with (first|(go_at_call 115;(with_reducible refine (tr_at.calls a0 (rd l1 x10_1) a2 t413 _ A11.out).mono ?_);rintro e w' ⟨rfl,⟨nd,rfl⟩⟩;(try first|exact ⟨rfl,_,World.drewN_drewN _ _ _⟩|exact ⟨rfl,_,Eq.trans (World.drewN_drewN _ _ _) (congrArg (World.drewN _) (Nat.add_assoc _ _ _))⟩);obtain ⟨Ao15,co15,eo15⟩:=Kd.R_slice HO_9.out;subst eo15;have p414:0≤(t413:Int):=of_decide_eq_true y2_;have q414:t413<(x9_1.length:Int):=of_decide_eq_true y2_;obtain ⟨ad414,e414,hx414_0⟩:=Kd.at_int (Kd.R_reads' HO_9.out).2.2 t413 p414 q414;cases e414;replace p414:=eq_true p414;replace q414:=eq_true q414;have p14:0≤(t413:Int):=of_decide_eq_true y2_;have q14:(t413:Int)<((x9_1.length:Int):Int):=of_decide_eq_true y2_;obtain ⟨go14,co14,eo14,gb14,gl14,cl14,HG14⟩:=Kd.R_form HO_9.out (by omega);(first|cases eo14|(injection eo14 with ea_ en_ ec_;(first|subst ea_|(injection ea_ with ea_;subst ea_));subst ec_;clear en_));have GB14:=A0_ gb14;have GG14:=A0_ HG14;clear gb14 gl14 HG14;(first|simp only [add_plain] at hx414_0|skip);obtain ⟨hx14_0,hf14_0⟩:=Kd.R_celln 0 HO_9.out (t413:Int) p14 q14;replace p14:=eq_true p14;replace q14:=eq_true q14;obtain ⟨hy16_,hz16_⟩:=Kd.R_celln 0 HO_9.out (t413:Int) (of_decide_eq_true y2_) (of_decide_eq_true y2_);have HP16:=Kd.R_putg HO_9.out (t413:Int) (wrap64 ((rd x9_1 t413)+1)))|((with_reducible refine gate_store (t:=3) (p:=43) rfl ?_);(try (rw [drewN_self wr];generalize hq_:World.drewN wr _=wr;have n0_:=A0_ (Kd.R_at hq_ HO_9.out);have n1_:=A0_ (below_at hq_ HB.out);clear hq_ HO_9 HB;have HO_9:=n0_;have HB:=n1_;clear n0_ n1_;(try (obtain ⟨hy16_,hz16_⟩:=Kd.R_celln 0 HO_9.out (t413:Int) (of_decide_eq_true y2_) (of_decide_eq_true y2_)));(try (have HP16:=Kd.R_putg HO_9.out (t413:Int) (wrap64 ((rd x9_1 t413)+1))))));refine store_event (t:=3) (p:=43) (v:=?vo_w17) (w1:=(wr.setCell ⟨go14,(t413:Int).toNat,none⟩ (.int .i64 (wrap64 ((rd x9_1 t413)+1))))) ?hg ?ho ?hn ?hr ?_;(case ho=>rfl);(case hg=>rfl);(case hn=>rfl);(case hr=>first|(go_simp;done)|(go_simp;rfl));intro w17 hw;have hg:wr.grownBy w17 (some go14):=(by rw [hw];exact HP16.2);have hp_:Kd.R (Kd.int .i64) 3 w17 w.heap.size (fun _=>True) (.slice (some ⟨go14,0,none⟩) x9_1.length co15) y415:=(by rw [hw,Ny415.out];exact HP16.1);clear HP16;have n0_:=A0_ (hp_);have n1_:=A0_ ((by rw [hw];exact below_set (HB.out) GB14.out:Below w.heap.size w w17));clear HO_9;clear HB;have HO_9:=n0_;have HB:=n1_;clear n0_ n1_;clear hg hw hp_))
         repeat (go_quiet (first|(go_at_call 115;(with_reducible refine (tr_at.calls a0 (rd l1 x10_1) a2 t413 _ A11.out).mono ?_);rintro e w' ⟨rfl,⟨nd,rfl⟩⟩;(try first|exact ⟨rfl,_,World.drewN_drewN _ _ _⟩|exact ⟨rfl,_,Eq.trans (World.drewN_drewN _ _ _) (congrArg (World.drewN _) (Nat.add_assoc _ _ _))⟩);obtain ⟨Ao15,co15,eo15⟩:=Kd.R_slice HO_9.out;subst eo15;have p414:0≤(t413:Int):=of_decide_eq_true y2_;have q414:t413<(x9_1.length:Int):=of_decide_eq_true y2_;obtain ⟨ad414,e414,hx414_0⟩:=Kd.at_int (Kd.R_reads' HO_9.out).2.2 t413 p414 q414;cases e414;replace p414:=eq_true p414;replace q414:=eq_true q414;have p14:0≤(t413:Int):=of_decide_eq_true y2_;have q14:(t413:Int)<((x9_1.length:Int):Int):=of_decide_eq_true y2_;obtain ⟨go14,co14,eo14,gb14,gl14,cl14,HG14⟩:=Kd.R_form HO_9.out (by omega);(first|cases eo14|(injection eo14 with ea_ en_ ec_;(first|subst ea_|(injection ea_ with ea_;subst ea_));subst ec_;clear en_));have GB14:=A0_ gb14;have GG14:=A0_ HG14;clear gb14 gl14 HG14;(first|simp only [add_plain] at hx414_0|skip);obtain ⟨hx14_0,hf14_0⟩:=Kd.R_celln 0 HO_9.out (t413:Int) p14 q14;replace p14:=eq_true p14;replace q14:=eq_true q14;obtain ⟨hy16_,hz16_⟩:=Kd.R_celln 0 HO_9.out (t413:Int) (of_decide_eq_true y2_) (of_decide_eq_true y2_);have HP16:=Kd.R_putg HO_9.out (t413:Int) (wrap64 ((rd x9_1 t413)+1)))|((with_reducible refine gate_store (t:=3) (p:=43) rfl ?_);(try (rw [drewN_self wr];generalize hq_:World.drewN wr _=wr;have n0_:=A0_ (Kd.R_at hq_ HO_9.out);have n1_:=A0_ (below_at hq_ HB.out);clear hq_ HO_9 HB;have HO_9:=n0_;have HB:=n1_;clear n0_ n1_;(try (obtain ⟨hy16_,hz16_⟩:=Kd.R_celln 0 HO_9.out (t413:Int) (of_decide_eq_true y2_) (of_decide_eq_true y2_)));(try (have HP16:=Kd.R_putg HO_9.out (t413:Int) (wrap64 ((rd x9_1 t413)+1))))));refine store_event (t:=3) (p:=43) (v:=?vo_w17) (w1:=(wr.setCell ⟨go14,(t413:Int).toNat,none⟩ (.int .i64 (wrap64 ((rd x9_1 t413)+1))))) ?hg ?ho ?hn ?hr ?_;(case ho=>rfl);(case hg=>rfl);(case hn=>rfl);(case hr=>first|(go_simp;done)|(go_simp;rfl));intro w17 hw;have hg:wr.grownBy w17 (some go14):=(by rw [hw];exact HP16.2);have hp_:Kd.R (Kd.int .i64) 3 w17 w.heap.size (fun _=>True) (.slice (some ⟨go14,0,none⟩) x9_1.length co15) y415:=(by rw [hw,Ny415.out];exact HP16.1);clear HP16;have n0_:=A0_ (hp_);have n1_:=A0_ ((by rw [hw];exact below_set (HB.out) GB14.out:Below w.heap.size w w17));clear HO_9;clear HB;have HO_9:=n0_;have HB:=n1_;clear n0_ n1_;clear hg hw hp_));try go_wp2_with (first|(go_at_call 115;(with_reducible refine (tr_at.calls a0 (rd l1 x10_1) a2 t413 _ A11.out).mono ?_);rintro e w' ⟨rfl,⟨nd,rfl⟩⟩;(try first|exact ⟨rfl,_,World.drewN_drewN _ _ _⟩|exact ⟨rfl,_,Eq.trans (World.drewN_drewN _ _ _) (congrArg (World.drewN _) (Nat.add_assoc _ _ _))⟩);obtain ⟨Ao15,co15,eo15⟩:=Kd.R_slice HO_9.out;subst eo15;have p414:0≤(t413:Int):=of_decide_eq_true y2_;have q414:t413<(x9_1.length:Int):=of_decide_eq_true y2_;obtain ⟨ad414,e414,hx414_0⟩:=Kd.at_int (Kd.R_reads' HO_9.out).2.2 t413 p414 q414;cases e414;replace p414:=eq_true p414;replace q414:=eq_true q414;have p14:0≤(t413:Int):=of_decide_eq_true y2_;have q14:(t413:Int)<((x9_1.length:Int):Int):=of_decide_eq_true y2_;obtain ⟨go14,co14,eo14,gb14,gl14,cl14,HG14⟩:=Kd.R_form HO_9.out (by omega);(first|cases eo14|(injection eo14 with ea_ en_ ec_;(first|subst ea_|(injection ea_ with ea_;subst ea_));subst ec_;clear en_));have GB14:=A0_ gb14;have GG14:=A0_ HG14;clear gb14 gl14 HG14;(first|simp only [add_plain] at hx414_0|skip);obtain ⟨hx14_0,hf14_0⟩:=Kd.R_celln 0 HO_9.out (t413:Int) p14 q14;replace p14:=eq_true p14;replace q14:=eq_true q14;obtain ⟨hy16_,hz16_⟩:=Kd.R_celln 0 HO_9.out (t413:Int) (of_decide_eq_true y2_) (of_decide_eq_true y2_);have HP16:=Kd.R_putg HO_9.out (t413:Int) (wrap64 ((rd x9_1 t413)+1)))|((with_reducible refine gate_store (t:=3) (p:=43) rfl ?_);(try (rw [drewN_self wr];generalize hq_:World.drewN wr _=wr;have n0_:=A0_ (Kd.R_at hq_ HO_9.out);have n1_:=A0_ (below_at hq_ HB.out);clear hq_ HO_9 HB;have HO_9:=n0_;have HB:=n1_;clear n0_ n1_;(try (obtain ⟨hy16_,hz16_⟩:=Kd.R_celln 0 HO_9.out (t413:Int) (of_decide_eq_true y2_) (of_decide_eq_true y2_)));(try (have HP16:=Kd.R_putg HO_9.out (t413:Int) (wrap64 ((rd x9_1 t413)+1))))));refine store_event (t:=3) (p:=43) (v:=?vo_w17) (w1:=(wr.setCell ⟨go14,(t413:Int).toNat,none⟩ (.int .i64 (wrap64 ((rd x9_1 t413)+1))))) ?hg ?ho ?hn ?hr ?_;(case ho=>rfl);(case hg=>rfl);(case hn=>rfl);(case hr=>first|(go_simp;done)|(go_simp;rfl));intro w17 hw;have hg:wr.grownBy w17 (some go14):=(by rw [hw];exact HP16.2);have hp_:Kd.R (Kd.int .i64) 3 w17 w.heap.size (fun _=>True) (.slice (some ⟨go14,0,none⟩) x9_1.length co15) y415:=(by rw [hw,Ny415.out];exact HP16.1);clear HP16;have n0_:=A0_ (hp_);have n1_:=A0_ ((by rw [hw];exact below_set (HB.out) GB14.out:Below w.heap.size w w17));clear HO_9;clear HB;have HO_9:=n0_;have HB:=n1_;clear n0_ n1_;clear hg hw hp_)))
         go_roundg k1
         case measure=>have:=HK1.out;omega
         case rel=>exact ⟨(y415),(wrap64 (x10_1+1)),y4_,H',⟨by have:=HK1.out;omega⟩,⟨by (with_reducible repeat (first|apply Kd.R_alloc|apply Kd.R_drewN|apply Kd.R_drew));exact HO_9.out⟩,⟨y0_⟩⟩
        ·rw [if_neg c13] at H;exact absurd H (by simp)
       ·rw [if_neg c12] at H;exact absurd H (by simp)
      ·rw [if_neg c10] at H;exact absurd H (by simp)
     ·rw [if_neg c9] at H;have c9b0:decide (x10_1<(l1.length:Int))=false:=decide_eq_false c9;clear c9
      have H':=A0_ H
      clear H;go_wp2
      repeat (go_quiet (fail);try go_wp2)
      go_loopg [12,14] k1 (fun kq v12 v14 w'=>∃ (x12_2:Int) (x14_2:Int),v12=.int .i64 x12_2∧v14=.int .i64 x14_2∧Aside0 (tr_Left.l1 kq a3 x9_1 x12_2 0 x14_2=some r)∧Aside0 (kq≤k1)∧Aside0 (Kd.R (Kd.int .i64) 3 w' w.heap.size (fun _=>True) v410 x9_1)∧Aside0 (Below w.heap.size w w'))
      case atStart=>exact ⟨(0),(0),y4_,y4_,H',⟨Nat.le_refl _⟩,⟨by (with_reducible repeat (first|apply Kd.R_alloc|apply Kd.R_drewN|apply Kd.R_drew));exact HO_9.out⟩,⟨y0_⟩⟩
      case round=>
       clear H'
       (try clear c1);(try clear p1);(try clear q1);(try clear hx1);(try clear p2);(try clear p4);(try clear q4);(try clear hx4);(try clear c5);(try clear c5b0);(try clear c6);(try clear c6b0);(try clear c6b1);(try clear p6);(try clear c7);(try clear c9);(try clear c9b0);(try clear c10);(try clear c10b0);(try clear c12);(try clear c12b0);(try clear c13);(try clear c13b0);(try clear p14);(try clear q14);(try clear hx14);(try clear hf14);(try clear hx14_0);(try clear hx412_0);(try clear hx414_0);(try clear p14);(try clear p2);(try clear p412);(try clear p414);(try clear p6);(try clear q14);(try clear q412);(try clear q414)
       obtain ⟨x12_2,x14_2,rfl,rfl,HA,HK2,HO_9,HB⟩:=hrel
       cases gk with
       |zero=>exact absurd HA.out (by simp [tr_Left.l1])
       |succ k2=>
        have H:=HA.out
        clear HA
        simp only [tr_Left.l1] at H
        by_cases c18:x14_2≤(wrap64 (2*a3))
        ·rw [if_pos c18] at H;have c18b0:decide (x14_2≤(wrap64 (2*a3)))=true:=decide_eq_true c18;clear c18
         by_cases c19:0≤x14_2
         ·rw [if_pos c19] at H;have c19b0:decide (0≤x14_2)=true:=decide_eq_true c19;clear c19
          by_cases c20:x14_2<(x9_1.length:Int)
          ·rw [if_pos c20] at H;have c20b0:decide (x14_2<(x9_1.length:Int))=true:=decide_eq_true c20;clear c20
           have H':=A0_ H
           clear H
           obtain ⟨Ao21,co21,eo21⟩:=Kd.R_slice HO_9.out
           subst eo21
           have p416:0≤(x14_2:Int):=of_decide_eq_true y2_
           have q416:x14_2<(x9_1.length:Int):=of_decide_eq_true y2_
           obtain ⟨ad416,e416,hx416_0⟩:=Kd.at_int (Kd.R_reads' HO_9.out).2.2 x14_2 p416 q416
           cases e416
           replace p416:=eq_true p416
           replace q416:=eq_true q416
           go_wp2
           repeat (go_quiet (fail);try go_wp2)
           go_roundg k2
           case measure=>have:=HK1.out;have:=HK2.out;omega
           case rel=>exact ⟨(wrap64 (x12_2+(rd x9_1 x14_2))),(wrap64 (x14_2+1)),y4_,y4_,H',⟨by have:=HK1.out;have:=HK2.out;omega⟩,⟨by (with_reducible repeat (first|apply Kd.R_alloc|apply Kd.R_drewN|apply Kd.R_drew));exact HO_9.out⟩,⟨y0_⟩⟩
          ·rw [if_neg c20] at H;exact absurd H (by simp)
         ·rw [if_neg c19] at H;exact absurd H (by simp)
        ·rw [if_neg c18] at H;have c18b0:decide (x14_2≤(wrap64 (2*a3)))=false:=decide_eq_false c18;clear c18
         have H':=A0_ H
         clear H;go_wp2
         repeat (go_quiet (fail);try go_wp2)
         go_loopg [12,13,15] k2 (fun kq v12 v13 v15 w'=>∃ (x12_3:Int) (x13_3:Int) (x15_3:Int),v12=.int .i64 x12_3∧v13=.int .i64 x13_3∧v15=.int .i64 x15_3∧Aside0 (tr_Left.l2 kq a3 x9_1 x12_3 x13_3 x15_3=some r)∧Aside0 (kq≤k2)∧Aside0 (Kd.R (Kd.int .i64) 3 w' w.heap.size (fun _=>True) v410 x9_1)∧Aside0 (Below w.heap.size w w'))
         case atStart=>exact ⟨(x12_2),(0),(0),y4_,y4_,y4_,H',⟨Nat.le_refl _⟩,⟨by (with_reducible repeat (first|apply Kd.R_alloc|apply Kd.R_drewN|apply Kd.R_drew));exact HO_9.out⟩,⟨y0_⟩⟩
         case round=>
          clear H'
          (try clear c1);(try clear p1);(try clear q1);(try clear hx1);(try clear c2);(try clear p2);(try clear p4);(try clear q4);(try clear hx4);(try clear c5);(try clear c5b0);(try clear c6);(try clear c6b0);(try clear c6b1);(try clear p6);(try clear c7);(try clear c9);(try clear c9b0);(try clear c10);(try clear c10b0);(try clear c12);(try clear c12b0);(try clear c13);(try clear c13b0);(try clear p14);(try clear q14);(try clear hx14);(try clear hf14);(try clear c18);(try clear c18b0);(try clear c19);(try clear c19b0);(try clear c20);(try clear c20b0);(try clear hx14_0);(try clear hx412_0);(try clear hx414_0);(try clear hx416_0);(try clear p1);(try clear p14);(try clear p2);(try clear p4);(try clear p412);(try clear p414);(try clear p416);(try clear p6);(try clear q1);(try clear q14);(try clear q4);(try clear q412);(try clear q414);(try clear q416)
          obtain ⟨x12_3,x13_3,x15_3,rfl,rfl,rfl,HA,HK3,HO_9,HB⟩:=hrel
          cases gk with
          |zero=>exact absurd HA.out (by simp [tr_Left.l2])
          |succ k3=>
           have H:=HA.out
           clear HA
           simp only [tr_Left.l2] at H
           by_cases c22:x15_3<21600
           ·rw [if_pos c22] at H;have c22b0:decide (x15_3<21600)=true:=decide_eq_true c22;clear c22
            obtain ⟨ji23,hji23⟩:∃ j_:Int,(mx x13_3 x12_3)=j_:=⟨_,rfl⟩
            replace H:(if 0≤x15_3 then (if x15_3<(x9_1.length:Int) then (if 0≤(Int.tmod (wrap64 ((wrap64 (x15_3+(wrap64 (2*a3))))+1)) 21600) then (if (Int.tmod (wrap64 ((wrap64 (x15_3+(wrap64 (2*a3))))+1)) 21600)<(x9_1.length:Int) then (tr_Left.l2 k3 a3 x9_1 (wrap64 ((wrap64 (x12_3 - (rd x9_1 x15_3)))+(rd x9_1 (Int.tmod (wrap64 ((wrap64 (x15_3+(wrap64 (2*a3))))+1)) 21600)))) ji23 (wrap64 (x15_3+1))) else (none)) else (none)) else (none)) else (none))=some r:=by first|(rw [hji23] at H;exact H)|(simp only [hji23] at H ⊢;exact H)
            have hji23_:(if x13_3<x12_3 then x12_3 else x13_3)=ji23:=hji23
            by_cases c24:0≤x15_3
            ·rw [if_pos c24] at H;have c24b0:decide (0≤x15_3)=true:=decide_eq_true c24;clear c24
             by_cases c25:x15_3<(x9_1.length:Int)
             ·rw [if_pos c25] at H;have c25b0:decide (x15_3<(x9_1.length:Int))=true:=decide_eq_true c25;clear c25
              obtain ⟨ji26,hji26⟩:∃ j_:Int,(Int.tmod (wrap64 ((wrap64 (x15_3+(wrap64 (2*a3))))+1)) 21600)=j_:=⟨_,rfl⟩
              replace H:(if 0≤(ji26) then (if (ji26)<(x9_1.length:Int) then (tr_Left.l2 k3 a3 x9_1 (wrap64 ((wrap64 (x12_3 - (rd x9_1 x15_3)))+(rd x9_1 (ji26)))) ji23 (wrap64 (x15_3+1))) else (none)) else (none))=some r:=by first|(rw [hji26] at H;exact H)|(simp only [hji26] at H ⊢;exact H)
              (try rw [hji26] at hji23)
              by_cases c27:0≤(ji26)
              ·rw [if_pos c27] at H;have c27b0:decide (0≤(ji26))=true:=decide_eq_true c27;clear c27
               by_cases c28:(ji26)<(x9_1.length:Int)
               ·rw [if_pos c28] at H;have c28b0:decide ((ji26)<(x9_1.length:Int))=true:=decide_eq_true c28;clear c28
                have H':=A0_ H
                clear H
                obtain ⟨Ao29,co29,eo29⟩:=Kd.R_slice HO_9.out
                subst eo29
                have p417:0≤(x15_3:Int):=of_decide_eq_true y2_
                have q417:x15_3<(x9_1.length:Int):=of_decide_eq_true y2_
                obtain ⟨ad417,e417,hx417_0⟩:=Kd.at_int (Kd.R_reads' HO_9.out).2.2 x15_3 p417 q417
                cases e417
                replace p417:=eq_true p417
                replace q417:=eq_true q417
                have p418:0≤((ji26):Int):=of_decide_eq_true y2_
                have q418:(ji26)<(x9_1.length:Int):=of_decide_eq_true y2_
                obtain ⟨ad418,e418,hx418_0⟩:=Kd.at_int (Kd.R_reads' HO_9.out).2.2 (ji26) p418 q418
                obtain rfl:ad417=ad418:=(by injection e418)
                replace p418:=eq_true p418
                replace q418:=eq_true q418
                go_wp2
                repeat (go_quiet (fail);try go_wp2)
                go_roundg k3
                case measure=>have:=HK1.out;have:=HK2.out;have:=HK3.out;omega
                case rel=>exact ⟨(wrap64 ((wrap64 (x12_3 - (rd x9_1 x15_3)))+(rd x9_1 (ji26)))),(ji23),(wrap64 (x15_3+1)),(by first|rfl|(simp;done)|(simp only [← hji26] <;> (first|rfl|simp))|(simp [*];done)),(by first|rfl|(simp;done)|(simp only [← hji23] <;> (first|rfl|simp))|(simp [*];done)),y4_,H',⟨by have:=HK1.out;have:=HK2.out;have:=HK3.out;omega⟩,⟨by (with_reducible repeat (first|apply Kd.R_alloc|apply Kd.R_drewN|apply Kd.R_drew));exact HO_9.out⟩,⟨y0_⟩⟩
               ·rw [if_neg c28] at H;exact absurd H (by simp)
              ·rw [if_neg c27] at H;exact absurd H (by simp)
             ·rw [if_neg c25] at H;exact absurd H (by simp)
            ·rw [if_neg c24] at H;exact absurd H (by simp)
           ·rw [if_neg c22] at H;have c22b0:decide (x15_3<21600)=false:=decide_eq_false c22;clear c22;obtain rfl:=Option.some.inj H;go_wp2
            repeat (go_quiet (fail);try go_wp2)
            go_ret
            exact ⟨y3_,y0_⟩
  ·rw [if_neg c6] at H;exact absurd H (by simp)
def tr_Watch.l0:Nat→Int→List Int→List Int→Int→Int→Int→Int→Option (Int × Int)
 |0,_,_,_,_,_,_,_=>none
 |k+1,x0,x1,x2,x3,x10,x11,x12=>if x12<(x2.length:Int) then (if 0≤x12 then ((tr_Left.f k x0 x1 (rd x2 x12) x3).bind fun t420=>(if x12=0 then (tr_Watch.l0 k x0 x1 x2 x3 x12 t420 (wrap64 (x12+1))) else (if t420<x11 then (tr_Watch.l0 k x0 x1 x2 x3 x12 t420 (wrap64 (x12+1))) else (tr_Watch.l0 k x0 x1 x2 x3 x10 x11 (wrap64 (x12+1)))))) else (none)) else (some (x10,x11))
def tr_Watch.f (k:Nat) (a0:Int) (l1:List Int) (l2:List Int) (a3:Int):Option (Int × Int):=tr_Watch.l0 k a0 l1 l2 a3 0 0 0
set_option maxHeartbeats 8000000 in
set_option maxRecDepth 100000 in
theorem tr_Watch.calls (k:Nat) (a0:Int) (A1:Option Addr) (c1:Nat) (l1:List Int) (A2:Option Addr) (c2:Nat) (l2:List Int) (a3:Int) (r1:Int) (r2:Int) (w:World) (hr1:Kd.C (Kd.int .i64) w A1 l1.length l1) (hc1:l1.length≤c1) (hr2:Kd.C (Kd.int .i64) w A2 l2.length l2) (hc2:l2.length≤c2) (h:tr_Watch.f k a0 l1 l2 a3=some (r1,r2)):
  Calls Tryz.prog 35 #[.int .i64 a0,.slice A1 l1.length c1,.slice A2 l2.length c2,.int .i64 a3] w fun e w'=>e=.returned (.tuple #[.int .i64 r1,.int .i64 r2])∧Below w.heap.size w w':=by
 have HR1:=A0_ hr1;have HC1:=A0_ hc1;clear hr1 hc1;have HR2:=A0_ hr2;have HC2:=A0_ hc2;clear hr2 hc2
 have HB:=A0_ (Below.refl w.heap.size w)
 have H:(tr_Watch.l0 k a0 l1 l2 a3 0 0 0)=some (r1,r2):=h
 clear h
 have H':=A0_ H
 clear H
 go_enter Tryz.func35,Tryz.ntmps35
 go_wp2
 go_loopg [10,11,12] k (fun kq v10 v11 v12 w'=>∃ (x10_1:Int) (x11_1:Int) (x12_1:Int),v10=.int .i64 x10_1∧v11=.int .i64 x11_1∧v12=.int .i64 x12_1∧Aside0 (tr_Watch.l0 kq a0 l1 l2 a3 x10_1 x11_1 x12_1=some (r1,r2))∧Aside0 (kq≤k)∧Aside0 (Below w.heap.size w w'))
 case atStart=>exact ⟨(0),(0),(0),y4_,y4_,y4_,H',⟨Nat.le_refl _⟩,⟨y0_⟩⟩
 case round=>
  clear H'
  (try clear c1);(try clear c2);(try clear p2);(try clear c3)
  obtain ⟨x10_1,x11_1,x12_1,rfl,rfl,rfl,HA,HK1,HB⟩:=hrel
  cases gk with
  |zero=>exact absurd HA.out (by simp [tr_Watch.l0])
  |succ k1=>
   have H:=HA.out
   clear HA
   simp only [tr_Watch.l0] at H
   by_cases c5:x12_1<(l2.length:Int)
   ·rw [if_pos c5] at H;have c5b0:decide (x12_1<(l2.length:Int))=true:=decide_eq_true c5;clear c5
    by_cases c6:0≤x12_1
    ·rw [if_pos c6] at H;have c6b0:decide (0≤x12_1)=true:=decide_eq_true c6;clear c6;replace H:=Option.bind_eq_some_iff.mp H;obtain ⟨t420,A70,H⟩:=H
     replace H:(if x12_1=0 then (tr_Watch.l0 k1 a0 l1 l2 a3 x12_1 t420 (wrap64 (x12_1+1))) else (if t420<x11_1 then (tr_Watch.l0 k1 a0 l1 l2 a3 x12_1 t420 (wrap64 (x12_1+1))) else (tr_Watch.l0 k1 a0 l1 l2 a3 x10_1 x11_1 (wrap64 (x12_1+1)))))=some (r1,r2):=H
     have A7:=A0_ A70;clear A70
     by_cases c8:x12_1=0
     ·rw [if_pos c8] at H
      have c8b0:(x12_1 == 0)=true:=beq_iff_eq.mpr c8
      have c8b1:(x12_1 != 0)=false:=bne_eq_false_iff_eq.mpr c8
      clear c8
      have H':=A0_ H
      clear H
      have p419:0≤(x12_1:Int):=of_decide_eq_true y2_
      have q419:x12_1<(l2.length:Int):=of_decide_eq_true y2_
      obtain ⟨ad419,e419,hx419_0⟩:=Kd.at_int HR2.out x12_1 p419 q419
      cases e419
      replace hx419_0:=(HB.out.cell (World.block_lt_of_cell? w _ hx419_0)).trans hx419_0
      replace p419:=eq_true p419
      replace q419:=eq_true q419
      go_wp2_with (first|((with_reducible refine gate_callee (f:=79) rfl ?_);refine goesL_ (some 27) rfl rfl Tryz.func79 (by kernel_rfl) rfl #[.int .i64 a0,.slice A1 l1.length c1,.int .i64 (rd l2 x12_1),.int .i64 a3] rfl y1_ ?_;(with_reducible refine (tr_Left.calls k1 a0 _ _ l1 (rd l2 x12_1) a3 t420 _ ?side1 ?side2 A7.out).mono ?_);(case side1=>repeat (first|exact (Kd.C_below HR1.out HB.out)|(with_reducible refine Kd.C_alloc ?_ _)|(with_reducible refine Kd.C_drewN ?_ _)|(with_reducible refine Kd.C_drew ?_)));(case side2=>exact HC1.out);rintro e w9 ⟨rfl,hb⟩;refine ⟨_,rfl,?_⟩;have n0_:=A0_ (below_step y0_ hb);clear HB;have HB:=n0_;clear n0_;(try clear hb);(try clear hb2);(try clear hk);(try clear hi)))
      go_roundg k1
      case measure=>have:=HK1.out;omega
      case rel=>exact ⟨(x12_1),(t420),(wrap64 (x12_1+1)),y4_,y4_,y4_,H',⟨by have:=HK1.out;omega⟩,⟨y0_⟩⟩
     ·rw [if_neg c8] at H
      have c8b0:(x12_1 == 0)=false:=beq_eq_false_iff_ne.mpr c8
      have c8b1:(x12_1 != 0)=true:=bne_iff_ne.mpr c8
      by_cases c10:t420<x11_1
      ·rw [if_pos c10] at H;have c10b0:decide (t420<x11_1)=true:=decide_eq_true c10;clear c10
       have H':=A0_ H
       clear H
       have p419:0≤(x12_1:Int):=of_decide_eq_true y2_
       have q419:x12_1<(l2.length:Int):=of_decide_eq_true y2_
       obtain ⟨ad419,e419,hx419_0⟩:=Kd.at_int HR2.out x12_1 p419 q419
       cases e419
       replace hx419_0:=(HB.out.cell (World.block_lt_of_cell? w _ hx419_0)).trans hx419_0
       replace p419:=eq_true p419
       replace q419:=eq_true q419
       go_wp2_with (first|((with_reducible refine gate_callee (f:=79) rfl ?_);refine goesL_ (some 27) rfl rfl Tryz.func79 (by kernel_rfl) rfl #[.int .i64 a0,.slice A1 l1.length c1,.int .i64 (rd l2 x12_1),.int .i64 a3] rfl y1_ ?_;(with_reducible refine (tr_Left.calls k1 a0 _ _ l1 (rd l2 x12_1) a3 t420 _ ?side1 ?side2 A7.out).mono ?_);(case side1=>repeat (first|exact (Kd.C_below HR1.out HB.out)|(with_reducible refine Kd.C_alloc ?_ _)|(with_reducible refine Kd.C_drewN ?_ _)|(with_reducible refine Kd.C_drew ?_)));(case side2=>exact HC1.out);rintro e w11 ⟨rfl,hb⟩;refine ⟨_,rfl,?_⟩;have n0_:=A0_ (below_step y0_ hb);clear HB;have HB:=n0_;clear n0_;(try clear hb);(try clear hb2);(try clear hk);(try clear hi)))
       go_roundg k1
       case measure=>have:=HK1.out;omega
       case rel=>exact ⟨(x12_1),(t420),(wrap64 (x12_1+1)),y4_,y4_,y4_,H',⟨by have:=HK1.out;omega⟩,⟨y0_⟩⟩
      ·rw [if_neg c10] at H;have c10b0:decide (t420<x11_1)=false:=decide_eq_false c10;clear c10
       have H':=A0_ H
       clear H
       have p419:0≤(x12_1:Int):=of_decide_eq_true y2_
       have q419:x12_1<(l2.length:Int):=of_decide_eq_true y2_
       obtain ⟨ad419,e419,hx419_0⟩:=Kd.at_int HR2.out x12_1 p419 q419
       cases e419
       replace hx419_0:=(HB.out.cell (World.block_lt_of_cell? w _ hx419_0)).trans hx419_0
       replace p419:=eq_true p419
       replace q419:=eq_true q419
       go_wp2_with (first|((with_reducible refine gate_callee (f:=79) rfl ?_);refine goesL_ (some 27) rfl rfl Tryz.func79 (by kernel_rfl) rfl #[.int .i64 a0,.slice A1 l1.length c1,.int .i64 (rd l2 x12_1),.int .i64 a3] rfl y1_ ?_;(with_reducible refine (tr_Left.calls k1 a0 _ _ l1 (rd l2 x12_1) a3 t420 _ ?side1 ?side2 A7.out).mono ?_);(case side1=>repeat (first|exact (Kd.C_below HR1.out HB.out)|(with_reducible refine Kd.C_alloc ?_ _)|(with_reducible refine Kd.C_drewN ?_ _)|(with_reducible refine Kd.C_drew ?_)));(case side2=>exact HC1.out);rintro e w12 ⟨rfl,hb⟩;refine ⟨_,rfl,?_⟩;have n0_:=A0_ (below_step y0_ hb);clear HB;have HB:=n0_;clear n0_;(try clear hb);(try clear hb2);(try clear hk);(try clear hi)))
       go_roundg k1
       case measure=>have:=HK1.out;omega
       case rel=>exact ⟨(x10_1),(x11_1),(wrap64 (x12_1+1)),y4_,y4_,y4_,H',⟨by have:=HK1.out;omega⟩,⟨y0_⟩⟩
    ·rw [if_neg c6] at H;exact absurd H (by simp)
   ·rw [if_neg c5] at H;have c5b0:decide (x12_1<(l2.length:Int))=false:=decide_eq_false c5;clear c5
    simp only [Option.some.injEq,Prod.mk.injEq] at H
    obtain ⟨rfl,rfl⟩:=H;go_wp2
    go_ret2
    exact ⟨y3_,y0_⟩
end Go.Proofs.YtaidphhkhddemaaGreatDoor.PSky
end
section
namespace Go.Proofs.YtaidphhkhddemaaGreatDoor.PSky
open Go.RowKit Go.Proofs.YtaidphhkhddemaaGreatDoorW.PrintWords Go.Proofs.YtaidphhkhddemaaGreatDoorW.PrintLast Go.Proofs.YtaidphhkhddemaaGreatDoorW.PrintMore
theorem Ev.pos {α:Type} {c:Prop} [Decidable c] {f g:Nat→Option α} {r:α} (h:c) (k:Ev f r):Ev (fun n=>if c then f n else g n) r:=by simpa only [if_pos h] using k
theorem Ev.neg {α:Type} {c:Prop} [Decidable c] {f g:Nat→Option α} {r:α} (h:¬ c) (k:Ev g r):Ev (fun n=>if c then f n else g n) r:=by simpa only [if_neg h] using k
theorem Ev.some {α:Type} (r:α):Ev (fun _=>Option.some r) r:=Ev.now r
theorem Ev.is {α:Type} {o:Option α} {r:α} (h:o=Option.some r):Ev (fun _=>o) r:=by rw [h];exact Ev.now r
theorem wrap_id {n:Int} (h:-9223372036854775808≤n∧n≤9223372036854775807):wrap64 n=n:=by unfold wrap64;omega
theorem scan {β:Type} (l:List β) (bad:β→Bool) (g:Nat→Nat→Option Int) (hlen:l.length≤1000000)
  (hyes:∀ i (h:i<l.length),bad l[i]=true→Ev (fun k=>g k i) (i:Int))
  (hno:∀ i (h:i<l.length),bad l[i]=false→∀ r,Ev (fun k=>g k (i+1)) r→Ev (fun k=>g k i) r)
  (hend:Ev (fun k=>g k l.length) (-1)):∀ m i,i+m=l.length→∃ r,Ev (fun k=>g k i) r∧decide (r ≥ 0)=(l.drop i).any bad
 |0,i,h=>⟨-1,by rw [show i=l.length by omega];exact hend,by rw [show i=l.length by omega,List.drop_length];rfl⟩
 |m+1,i,h=>by
  have hi:i<l.length:=by omega
  rw [List.drop_eq_getElem_cons hi,List.any_cons]
  cases hb:bad l[i] with
  |true=>exact ⟨i,hyes i hi hb,by simp⟩
  |false=>
   obtain ⟨r,hr,he⟩:=scan l bad g hlen hyes hno hend m (i+1) (by omega)
   exact ⟨r,hno i hi hb r hr,by simpa using he⟩
def okIn (a b c:Int):Bool:=decide (b≤a) && decide (a≤c)
theorem in_eq (a b c:Int):sky_in.f a b c=some (okIn a b c):=by
 unfold sky_in.f okIn
 by_cases h:a ≥ b
 ·rw [if_pos h,decide_eq_true (show b≤a from h),Bool.true_and]
 ·rw [if_neg h,decide_eq_false (show ¬ b≤a from h),Bool.false_and]
theorem rin_eq (a b c:Int):tr_in.f a b c=some (okIn a b c):=in_eq a b c
def okPlace (n:Int):Bool:=okIn n 0 21599
theorem isPlace_eq (n:Int):sky_isPlace.f n=some (okPlace n):=by unfold sky_isPlace.f;rw [in_eq];rfl
theorem Spot_eq (n:Int):tr_Spot.f n=some (okPlace n):=isPlace_eq n
end Go.Proofs.YtaidphhkhddemaaGreatDoor.PSky
end
section
namespace Go.Proofs.YtaidphhkhddemaaGreatDoor.PSky
open Go.RowKit Go.Proofs.YtaidphhkhddemaaGreatDoorW.PrintWords Go.Proofs.YtaidphhkhddemaaGreatDoorW.PrintLast Go.Proofs.YtaidphhkhddemaaGreatDoorW.PrintMore
theorem tquot {a b:Int} (hb:0<b):(Int.tmod a b<0→a / b=Int.tdiv a b - 1∧a % b=Int.tmod a b+b)∧(0≤Int.tmod a b→a / b=Int.tdiv a b∧a % b=Int.tmod a b):=by
 have h1:=Int.tmod_add_mul_tdiv a b
 have h2:=Int.tmod_lt_of_pos a hb
 have h3:=Int.lt_tmod_of_pos a hb
 refine ⟨fun h=>?_,fun h=>?_⟩
 ·exact (Int.ediv_emod_unique hb).mpr ⟨by rw [Int.mul_sub,Int.mul_one];omega,by omega,by omega⟩
 ·exact (Int.ediv_emod_unique hb).mpr ⟨by omega,h,h2⟩
theorem tdiv_le {a b:Int} (hb:0<b) {m:Int} (ha:-m≤a∧a≤m) (hm:0≤m):-m - 1≤a / b∧a / b≤m:=by
 constructor
 ·have:(-m - 1)≤a / b:=by
   rw [Int.le_ediv_iff_mul_le hb]
   have:=Int.mul_le_mul_of_nonneg_left (show (1:Int)≤b by omega) (show (0:Int)≤m+1 by omega)
   have e:(-m - 1)*b = -((m+1)*b):=by rw [← Int.neg_mul];congr 1;omega
   omega
  exact this
 ·have:a / b≤m:=by
   have h1:a / b*b≤a:=Int.ediv_mul_le a (by omega)
   rcases Int.lt_or_le (a / b) 0 with h|h
   ·omega
   ·have:=Int.mul_le_mul_of_nonneg_left (show (1:Int)≤b by omega) h
    omega
  exact this
theorem floor_eq {a b:Int} (hb:0<b) (hb2:b≤1000000000000) (ha:-1000000000000000000≤a∧a≤1000000000000000000):sky_floor.f a b=some (a / b,a % b):=by
 have q:=tdiv_le hb ha (by decide)
 have m0:=Int.emod_nonneg a (show b≠0 by omega)
 have m1:=Int.emod_lt_of_pos a hb
 unfold sky_floor.f
 rw [if_neg (by omega)]
 by_cases h:Int.tmod a b<0
 ·obtain ⟨e1,e2⟩:=(tquot (a:=a) hb).1 h
  rw [if_pos h,e1,e2]
  rw [e1] at q
  rw [e2] at m0 m1
  rw [wrap_id (show -9223372036854775808≤a.tdiv b∧a.tdiv b≤9223372036854775807 by omega),wrap_id (by omega),wrap_id (by omega)]
 ·obtain ⟨e1,e2⟩:=(tquot (a:=a) hb).2 (by omega)
  rw [if_neg h,e1,e2]
  rw [e1] at q
  rw [wrap_id (show -9223372036854775808≤a.tdiv b∧a.tdiv b≤9223372036854775807 by omega)]
theorem around_eq {a:Int} (ha:-1000000000000000000≤a∧a≤1000000000000000000):sky_around.f a=some (a % 21600):=by
 unfold sky_around.f
 rw [floor_eq (by decide) (by decide) ha]
 rfl
theorem down_eq {a b:Int} (hb:0<b) (hb2:b≤1000000) (ha:-1000000000000≤a∧a≤1000000000000):tr_down.f a b=some (a / b):=by
 have q:=tdiv_le hb ha (by decide)
 have h0:=Int.tmod_add_mul_tdiv a b
 have h2:=Int.tmod_lt_of_pos a hb
 have h3:=Int.lt_tmod_of_pos a hb
 have e0:a.tdiv b*b=b*a.tdiv b:=Int.mul_comm _ _
 unfold tr_down.f
 rw [if_neg (by omega)]
 by_cases h:Int.tmod a b<0
 ·obtain ⟨e1,e2⟩:=(tquot (a:=a) hb).1 h
  rw [e1] at q ⊢
  rw [wrap_id (show -9223372036854775808≤a.tdiv b∧a.tdiv b≤9223372036854775807 by omega),wrap_id (show -9223372036854775808≤a.tdiv b*b∧a.tdiv b*b≤9223372036854775807 by omega),if_pos (by omega),wrap_id (by omega)]
 ·obtain ⟨e1,e2⟩:=(tquot (a:=a) hb).2 (by omega)
  rw [e1] at q ⊢
  rw [wrap_id (show -9223372036854775808≤a.tdiv b∧a.tdiv b≤9223372036854775807 by omega),wrap_id (show -9223372036854775808≤a.tdiv b*b∧a.tdiv b*b≤9223372036854775807 by omega),if_neg (by omega)]
theorem Less_eq {a:Int} (ha:-1000000000000≤a∧a≤1000000000000):tr_Less.f a=some (a % 21600):=by
 unfold tr_Less.f
 rw [down_eq (by decide) (by decide) ha,Option.bind_some]
 have h1:=Int.emod_add_mul_ediv a 21600
 have h2:=Int.emod_nonneg a (show (21600:Int)≠0 by decide)
 have h3:=Int.emod_lt_of_pos a (show (0:Int)<21600 by decide)
 rw [wrap_id (show -9223372036854775808≤a / 21600*21600∧a / 21600*21600≤9223372036854775807 by omega),wrap_id (by omega)]
 congr 1
 omega
theorem okIn_iff {a b c:Int}:okIn a b c=true ↔ b≤a∧a≤c:=by simp [okIn]
end Go.Proofs.YtaidphhkhddemaaGreatDoor.PSky
end
section
namespace Go.Proofs.YtaidphhkhddemaaGreatDoor.PSky
open Go.RowKit Go.Proofs.YtaidphhkhddemaaGreatDoorW.PrintWords Go.Proofs.YtaidphhkhddemaaGreatDoorW.PrintLast Go.Proofs.YtaidphhkhddemaaGreatDoorW.PrintMore
theorem Ev.all {α β:Type} (g:α→Nat→Option β) (r:α→β):∀ l:List α,(∀ d∈l,Ev (g d) (r d))→∃ K,∀ k,K≤k→∀ d∈l,g d k=Option.some (r d)
 |[],_=>⟨0,fun _ _ d h=>by cases h⟩
 |x :: t,h=>by
  obtain ⟨K1,h1⟩:=h x (List.mem_cons_self ..)
  obtain ⟨K2,h2⟩:=Ev.all g r t (fun d hd=>h d (List.mem_cons_of_mem _ hd))
  refine ⟨max K1 K2,fun k hk d hd=>?_⟩
  rcases List.mem_cons.mp hd with rfl|hd
  ·exact h1 k (by omega)
  ·exact h2 k (by omega) d hd
end Go.Proofs.YtaidphhkhddemaaGreatDoor.PSky
end
section
namespace Go.Proofs.YtaidphhkhddemaaGreatDoor.PSky
open Go.RowKit Go.Proofs.YtaidphhkhddemaaGreatDoorW.PrintWords Go.Proofs.YtaidphhkhddemaaGreatDoorW.PrintLast Go.Proofs.YtaidphhkhddemaaGreatDoorW.PrintMore
theorem known_ev:Ev (fun _=>tl_known.f.bind fun t=>some t) true:=Ev.now true
end Go.Proofs.YtaidphhkhddemaaGreatDoor.PSky
end
section
namespace Go.Proofs.YtaidphhkhddemaaGreatDoor.PSky
open Go.RowKit Go.Proofs.YtaidphhkhddemaaGreatDoorW.PrintWords Go.Proofs.YtaidphhkhddemaaGreatDoorW.PrintLast Go.Proofs.YtaidphhkhddemaaGreatDoorW.PrintMore
theorem place_of2 {n:Int} (h:okPlace n=true):0≤n∧n≤21599:=by simp only [okPlace,okIn_iff] at h;exact h
def okDay (n:Int):Bool:=okIn n 0 20000
def okOff (n:Int):Bool:=okIn n 0 10800
theorem isDay_eq (n:Int):sky_isDay.f n=some (okDay n):=by unfold sky_isDay.f;rw [in_eq];rfl
theorem Day_eq (n:Int):tr_Day.f n=some (okDay n):=isDay_eq n
theorem isOff_eq (n:Int):sky_isOff.f n=some (okOff n):=by unfold sky_isOff.f;rw [in_eq];rfl
theorem Off_eq (n:Int):tr_Off.f n=some (okOff n):=isOff_eq n
def okNote (x:S89):Bool:=okDay x.f0 && (okPlace x.f1 && okOff x.f2)
theorem rdN_get (l:List S89) (i:Nat) (h:i<l.length):rd_T89 l (i:Int)=l[i]:=by unfold rd_T89;simp [h]
theorem note_eq (x:S89):sky_areNotes_c1.f x.f0 x.f1 x.f2=some (!okNote x):=by
 unfold sky_areNotes_c1.f okNote
 rw [isDay_eq,Option.bind_some]
 cases h1:okDay x.f0 with
 |false=>rfl
 |true=>
  rw [if_pos rfl,isPlace_eq,Option.bind_some]
  cases h2:okPlace x.f1 with
  |false=>rfl
  |true=>
   rw [if_pos rfl,isOff_eq,Option.bind_some]
   simp
theorem notes_ev (l:List S89) (hl:l.length≤1000000):Ev (fun k=>cF_areNotes_c1.f k l) (l.any (fun x=>!okNote x)):=by
 obtain ⟨r,hr,he⟩:=scan l (fun x=>!okNote x) (fun k i=>iF_areNotes_c1.l0 k l (l.length:Int) (i:Int)) hl
  (fun i h hb=>by
   refine Ev.step (fun k=>by rw [iF_areNotes_c1.l0]) ?_
   refine Ev.pos (by omega) (Ev.pos (by omega) (Ev.pos (by omega) ?_))
   rw [rdN_get l i h]
   refine Ev.bind (Ev.is (note_eq _)) ?_
   rw [hb]
   exact Ev.pos rfl (Ev.now _))
  (fun i h hb r hr=>by
   refine Ev.step (fun k=>by rw [iF_areNotes_c1.l0]) ?_
   refine Ev.pos (by omega) (Ev.pos (by omega) (Ev.pos (by omega) ?_))
   rw [rdN_get l i h]
   refine Ev.bind (Ev.is (note_eq _)) ?_
   rw [hb]
   refine Ev.neg (by simp) ?_
   rw [wrap_id (by omega)]
   exact hr)
  (by
   refine Ev.step (fun k=>by rw [iF_areNotes_c1.l0]) ?_
   exact Ev.neg (by omega) (Ev.now _)) l.length 0 (by omega)
 unfold cF_areNotes_c1.f iF_areNotes_c1.f
 refine Ev.bind hr ?_
 rw [he]
 exact Ev.now _
def okNotes (l:List S89):Bool:=l.all okNote && decide ((l.length:Int)≤6)
def okRange (a b:Int):Bool:=okIn a 0 1000000 && (okIn b a 1000000 && decide (b - a≤5000))
theorem any_all2 (f:S89→Bool) (l:List S89):(!l.any (fun b=>!f b))=l.all f:=by
 induction l with
 |nil=>rfl
 |cons b t ih=>simp [ih]
theorem areNotes_ev (s:Int) (l:List S89) (a b:Int):Ev (fun k=>sky_areNotes.f k s l a b) (okPlace s && (okNotes l && okRange a b)):=by
 unfold sky_areNotes.f okNotes okRange
 refine Ev.bind (Ev.is (isPlace_eq s)) ?_
 cases h1:okPlace s with
 |false=>exact Ev.neg (by simp) (Ev.now _)
 |true=>
  refine Ev.pos rfl (Ev.bind (Ev.is (in_eq _ _ _)) ?_)
  cases h2:okIn a 0 1000000 with
  |false=>
   rw [show (true && (l.all okNote && decide ((l.length:Int)≤6) && (false && (okIn b a 1000000 && decide (b - a≤5000)))))=false by simp]
   exact Ev.neg (by simp) (Ev.now _)
  |true=>
   refine Ev.pos rfl (Ev.bind (Ev.is (in_eq _ _ _)) ?_)
   cases h3:okIn b a 1000000 with
   |false=>
    rw [show (true && (l.all okNote && decide ((l.length:Int)≤6) && (true && (false && decide (b - a≤5000)))))=false by simp]
    exact Ev.neg (by simp) (Ev.now _)
   |true=>
    have h2':=okIn_iff.mp h2
    have h3':=okIn_iff.mp h3
    rw [wrap_id (show -9223372036854775808≤b - a∧b - a≤9223372036854775807 by omega)]
    refine Ev.pos rfl ?_
    by_cases h4:b - a≤5000
    ·refine Ev.pos h4 ?_
     by_cases h5:(l.length:Int)≤6
     ·refine Ev.pos h5 (Ev.bind (notes_ev l (by omega)) ?_)
      rw [any_all2,decide_eq_true h4,decide_eq_true h5]
      simp only [Bool.and_true,Bool.true_and]
      exact Ev.now _
     ·refine Ev.neg h5 ?_
      rw [decide_eq_false h5]
      simp only [Bool.and_false,Bool.false_and]
      exact Ev.now _
    ·refine Ev.neg h4 ?_
     rw [decide_eq_false h4]
     simp only [Bool.and_false]
     exact Ev.now _
theorem refNotes_ev (l:List S89) (hl:l.length≤1000000):Ev (fun k=>tr_Notes.f k l) (okNotes l):=by
 have key:∀ m i:Nat,i+m=l.length→Ev (fun k=>tr_Notes.l0 k l (i:Int)) ((l.drop i).all okNote && decide ((l.length:Int)≤6)):=by
  intro m
  induction m with
  |zero=>
   intro i h
   rw [show i=l.length by omega,List.drop_length]
   refine Ev.step (fun k=>by rw [tr_Notes.l0]) ?_
   refine Ev.neg (by omega) ?_
   simp only [List.all_nil,Bool.true_and]
   exact Ev.now _
  |succ m ih=>
   intro i h
   have hi:i<l.length:=by omega
   rw [List.drop_eq_getElem_cons hi,List.all_cons]
   have ih':=ih (i+1) (by omega)
   refine Ev.step (fun k=>by rw [tr_Notes.l0]) ?_
   rw [rdN_get l i hi,wrap_id (by omega)]
   generalize l[i]=x
   refine Ev.pos (by omega) (Ev.pos (by omega) (Ev.bind (Ev.is (Day_eq _)) ?_))
   unfold okNote
   cases h1:okDay x.f0 with
   |false=>exact Ev.neg (by simp) (Ev.now _)
   |true=>
    refine Ev.pos rfl (Ev.bind (Ev.is (Spot_eq _)) ?_)
    cases h2:okPlace x.f1 with
    |false=>exact Ev.neg (by simp) (Ev.now _)
    |true=>
     refine Ev.pos rfl (Ev.bind (Ev.is (Off_eq _)) ?_)
     cases h3:okOff x.f2 with
     |false=>exact Ev.neg (by simp) (Ev.now _)
     |true=>
      refine Ev.pos rfl ?_
      simp only [Bool.true_and]
      exact ih'
 exact key l.length 0 (by omega)
theorem Range_eq (a b:Int):tr_Range.f a b=some (okRange a b):=by
 unfold tr_Range.f okRange
 rw [rin_eq,Option.bind_some]
 cases h1:okIn a 0 1000000 with
 |false=>rfl
 |true=>
  rw [if_pos rfl,rin_eq,Option.bind_some]
  cases h2:okIn b a 1000000 with
  |false=>rfl
  |true=>
   have h1':=okIn_iff.mp h1
   have h2':=okIn_iff.mp h2
   rw [if_pos rfl,wrap_id (by omega)]
   rfl
def atOf (s v d:Int):Int:=(s+v*d / 1000) % 21600
def apartOf (a b:Int):Int:=mn ((a - b) % 21600) (21600 - (a - b) % 21600)
theorem reach_bounds {v d:Int} (hv:0≤v∧v≤1000000) (hd:0≤d∧d≤20000):0≤v*d∧v*d≤20000000000:=by
 have h0:0≤v*d:=Int.mul_nonneg hv.1 hd.1
 have h1:v*d≤1000000*d:=Int.mul_le_mul_of_nonneg_right hv.2 hd.1
 omega
theorem reached_eq {s v d:Int} (hs:0≤s∧s≤21599) (hv:0≤v∧v≤1000000) (hd:0≤d∧d≤20000):sky_reached.f s v d=some (atOf s v d):=by
 have hb:=reach_bounds hv hd
 unfold sky_reached.f atOf
 rw [wrap_id (show -9223372036854775808≤v*d∧v*d≤9223372036854775807 by omega),Int.tdiv_eq_ediv_of_nonneg hb.1,wrap_id (show -9223372036854775808≤v*d / 1000∧v*d / 1000≤9223372036854775807 by omega),wrap_id (by omega),around_eq (by omega)]
 rfl
theorem refat_eq {s v d:Int} (hs:0≤s∧s≤21599) (hv:0≤v∧v≤1000000) (hd:0≤d∧d≤20000):tr_at.f s v d=some (atOf s v d):=by
 have hb:=reach_bounds hv hd
 unfold tr_at.f atOf
 rw [wrap_id (show -9223372036854775808≤v*d∧v*d≤9223372036854775807 by omega),Int.tdiv_eq_ediv_of_nonneg hb.1,wrap_id (show -9223372036854775808≤v*d / 1000∧v*d / 1000≤9223372036854775807 by omega),wrap_id (by omega),Less_eq (by omega)]
 rfl
theorem at_bounds (s v d:Int):0≤atOf s v d∧atOf s v d<21600:=⟨Int.emod_nonneg _ (by decide),Int.emod_lt_of_pos _ (by decide)⟩
theorem round_eq {a:Int} (h:-1000000≤a∧a≤1000000):sky_round.f a=some (mn (a % 21600) (21600 - a % 21600)):=by
 unfold sky_round.f
 rw [around_eq (by omega),Option.bind_some,wrap_id (by omega)]
theorem Apart_eq {a b:Int} (ha:0≤a∧a<21600) (hb:0≤b∧b≤21599):tr_Apart.f a b=some (apartOf a b):=by
 unfold tr_Apart.f apartOf
 rw [wrap_id (by omega),Less_eq (by omega),Option.bind_some,wrap_id (by omega)]
def agrees1 (s v:Int) (x:S89):Bool:=decide (apartOf (atOf s v x.f0) x.f1≤x.f2)
def agreesOf (s:Int) (l:List S89) (v:Int):Bool:=l.all (agrees1 s v)
theorem note_of {l:List S89} (h:l.all okNote=true) {x:S89} (hx:x∈l):(0≤x.f0∧x.f0≤20000)∧(0≤x.f1∧x.f1≤21599)∧(0≤x.f2∧x.f2≤10800):=by
 have:=List.all_eq_true.mp h x hx
 simp only [okNote,okDay,okPlace,okOff,Bool.and_eq_true,okIn_iff] at this
 exact this
theorem refAgrees_ev {s:Int} (hs:0≤s∧s≤21599) {l:List S89} (hn:l.all okNote=true) (hl:l.length≤1000000) {v:Int} (hv:0≤v∧v≤1000000):Ev (fun k=>tr_Agrees.f k s l v) (agreesOf s l v):=by
 have key:∀ m i:Nat,i+m=l.length→Ev (fun k=>tr_Agrees.l0 k s l v (i:Int)) ((l.drop i).all (agrees1 s v)):=by
  intro m
  induction m with
  |zero=>
   intro i h
   rw [show i=l.length by omega,List.drop_length]
   refine Ev.step (fun k=>by rw [tr_Agrees.l0]) ?_
   exact Ev.neg (by omega) (Ev.now _)
  |succ m ih=>
   intro i h
   have hi:i<l.length:=by omega
   rw [List.drop_eq_getElem_cons hi,List.all_cons]
   have ih':=ih (i+1) (by omega)
   have hx:=note_of hn (List.getElem_mem hi)
   refine Ev.step (fun k=>by rw [tr_Agrees.l0]) ?_
   rw [rdN_get l i hi,wrap_id (by omega)]
   generalize l[i]=x at hx
   refine Ev.pos (by omega) (Ev.pos (by omega) (Ev.bind (Ev.is (refat_eq hs hv hx.1)) (Ev.bind (Ev.is (Apart_eq (at_bounds _ _ _) hx.2.1)) ?_)))
   by_cases hf:apartOf (atOf s v x.f0) x.f1≤x.f2
   ·rw [show agrees1 s v x=true from decide_eq_true hf,Bool.true_and]
    exact Ev.neg (by omega) ih'
   ·rw [show agrees1 s v x=false from decide_eq_false hf,Bool.false_and]
    exact Ev.pos (by omega) (Ev.now _)
 exact key l.length 0 (by omega)
def speedsOf (s:Int) (l:List S89) (a b:Int):List Int:=(daysOf a b).filter (agreesOf s l)
theorem days_cons (a:Int) (m:Nat):((List.range (m+1)).map fun j:Nat=>a+(j:Nat))=a :: ((List.range m).map fun j:Nat=>a+1+(j:Nat)):=by
 rw [List.range_succ_eq_map,List.map_cons,List.map_map]
 congr 1
 ·simp
 ·refine List.map_congr_left fun j _=>?_
  simp only [Function.comp_apply,Nat.succ_eq_add_one]
  omega
theorem refSpeeds_loop {s:Int} (hs:0≤s∧s≤21599) {l:List S89} (hn:l.all okNote=true) (hl:l.length≤1000000) {b:Int} (hb:b≤1000000):∀ (m:Nat) (a:Int) (acc:List Int),0≤a→a+m=b+1→acc.length+m≤1000000 →
  Ev (fun k=>tr_Speeds.l0 k s l b acc a) (acc ++ ((List.range m).map fun j:Nat=>a+(j:Nat)).filter (agreesOf s l))
 |0,a,acc,ha,hm,hc=>by
  refine Ev.step (fun k=>by rw [tr_Speeds.l0]) ?_
  refine Ev.neg (by omega) ?_
  simp only [List.range_zero,List.map_nil,List.filter_nil,List.append_nil]
  exact Ev.now _
 |m+1,a,acc,ha,hm,hc=>by
  rw [days_cons a m,List.filter_cons]
  have ih:=fun acc' hc'=>refSpeeds_loop hs hn hl hb m (a+1) acc' (by omega) (by omega) hc'
  refine Ev.step (fun k=>by rw [tr_Speeds.l0]) ?_
  rw [wrap_id (show -9223372036854775808≤a+1∧a+1≤9223372036854775807 by omega)]
  refine Ev.pos (by omega) (Ev.bind (refAgrees_ev hs hn hl (v:=a) (by omega)) ?_)
  cases hq:agreesOf s l a with
  |true=>
   rw [if_pos rfl]
   refine Ev.pos rfl (Ev.pos (by omega) ?_)
   have:=ih (acc ++ [a]) (by simp;omega)
   simpa using this
  |false=>
   rw [if_neg (by simp)]
   refine Ev.neg (by simp) ?_
   exact ih acc (by omega)
theorem agreeing_notes {s:Int} (hs:0≤s∧s≤21599) {l:List S89} (hn:l.all okNote=true) (hl:l.length≤1000000) {b v:Int} (hv:0≤v∧v≤1000000) (acc:List Int) (hc:acc.length≤1000000) (r:List Int)
  (hyes:agreesOf s l v=true→Ev (fun k=>sky_agreeing.l0 k s l b (acc ++ [v]) (v+1)) r) (hno:agreesOf s l v=false→Ev (fun k=>sky_agreeing.l0 k s l b acc (v+1)) r):∀ m i:Nat,i+m=l.length→(l.take i).all (agrees1 s v)=true →
  Ev (fun k=>sky_agreeing.l1 k s l b acc v l (l.length:Int) (i:Int)) r
 |0,i,h,ht=>by
  rw [show i=l.length by omega,List.take_length] at ht
  refine Ev.step (fun k=>by rw [sky_agreeing.l1]) ?_
  rw [wrap_id (show -9223372036854775808≤v+1∧v+1≤9223372036854775807 by omega)]
  exact Ev.neg (by omega) (Ev.pos (by omega) (hyes ht))
 |m+1,i,h,ht=>by
  have hi:i<l.length:=by omega
  have hx:=note_of hn (List.getElem_mem hi)
  have htk:(l.take (i+1)).all (agrees1 s v)=((l.take i).all (agrees1 s v) && agrees1 s v l[i]):=by
   rw [List.take_succ_eq_append_getElem hi,List.all_append]
   simp
  have ha2:=at_bounds s v l[i].f0
  refine Ev.step (fun k=>by rw [sky_agreeing.l1]) ?_
  rw [rdN_get l i hi,wrap_id (show -9223372036854775808≤v+1∧v+1≤9223372036854775807 by omega),wrap_id (show -9223372036854775808≤(i:Int)+1∧(i:Int)+1≤9223372036854775807 by omega)]
  refine Ev.pos (by omega) (Ev.pos (by omega) (Ev.pos (by omega) (Ev.bind (Ev.is (reached_eq hs hv hx.1)) ?_)))
  rw [wrap_id (by omega)]
  refine Ev.bind (Ev.is (round_eq (by omega))) ?_
  by_cases hf:apartOf (atOf s v l[i].f0) l[i].f1≤l[i].f2
  ·have h1:agrees1 s v l[i]=true:=decide_eq_true hf
   refine Ev.neg (by unfold apartOf at hf;omega) ?_
   exact agreeing_notes hs hn hl hv acc hc r hyes hno m (i+1) (by omega) (by rw [htk,ht,h1];rfl)
  ·have h1:agrees1 s v l[i]=false:=decide_eq_false hf
   refine Ev.pos (by unfold apartOf at hf;omega) (hno ?_)
   cases hq:agreesOf s l v with
   |false=>rfl
   |true=>
    have:=List.all_eq_true.mp hq l[i] (List.getElem_mem hi)
    rw [h1] at this
    cases this
theorem agreeing_loop {s:Int} (hs:0≤s∧s≤21599) {l:List S89} (hn:l.all okNote=true) (hl:l.length≤1000000) {b:Int} (hb:b≤1000000):∀ (m:Nat) (a:Int) (acc:List Int),0≤a→a+m=b+1→acc.length+m≤1000000 →
  Ev (fun k=>sky_agreeing.l0 k s l b acc a) (acc ++ ((List.range m).map fun j:Nat=>a+(j:Nat)).filter (agreesOf s l))
 |0,a,acc,ha,hm,hc=>by
  refine Ev.step (fun k=>by rw [sky_agreeing.l0]) ?_
  refine Ev.neg (by omega) ?_
  simp only [List.range_zero,List.map_nil,List.filter_nil,List.append_nil]
  by_cases h0:(acc.length:Int)=0
  ·exact Ev.pos h0 (Ev.now _)
  ·exact Ev.neg h0 (Ev.now _)
 |m+1,a,acc,ha,hm,hc=>by
  rw [days_cons a m,List.filter_cons]
  have ih:=fun acc' hc'=>agreeing_loop hs hn hl hb m (a+1) acc' (by omega) (by omega) hc'
  refine Ev.step (fun k=>by rw [sky_agreeing.l0]) ?_
  refine Ev.pos (by omega) ?_
  refine agreeing_notes hs hn hl (v:=a) (by omega) acc (by omega) _ (fun hq=>?_) (fun hq=>?_) l.length 0 (by omega) (by simp)
  ·rw [hq,if_pos rfl]
   have:=ih (acc ++ [a]) (by simp;omega)
   simpa using this
  ·rw [hq,if_neg (by simp)]
   exact ih acc (by omega)
theorem range_of {a b:Int} (h:okRange a b=true):0≤a∧a≤b∧b≤1000000∧b - a≤5000:=by
 simp only [okRange,Bool.and_eq_true,okIn_iff,decide_eq_true_eq] at h
 omega
theorem agreeing_ev {s:Int} (hs:okPlace s=true) {l:List S89} (hn:okNotes l=true) {a b:Int} (hr:okRange a b=true):Ev (fun k=>sky_agreeing.f k s l a b) (speedsOf s l a b):=by
 have hr':=range_of hr
 simp only [okNotes,Bool.and_eq_true,decide_eq_true_eq] at hn
 have:=agreeing_loop (place_of2 hs) hn.1 (by omega) (b:=b) (by omega) (b+1 - a).toNat a [] (by omega) (by omega) (by simp;omega)
 unfold sky_agreeing.f
 simpa [speedsOf,daysOf] using this
theorem refSpeeds_ev {s:Int} (hs:okPlace s=true) {l:List S89} (hn:okNotes l=true) {a b:Int} (hr:okRange a b=true):Ev (fun k=>tr_Speeds.f k s l a b) (speedsOf s l a b):=by
 have hr':=range_of hr
 simp only [okNotes,Bool.and_eq_true,decide_eq_true_eq] at hn
 have:=refSpeeds_loop (place_of2 hs) hn.1 (by omega) (b:=b) (by omega) (b+1 - a).toNat a [] (by omega) (by omega) (by simp;omega)
 unfold tr_Speeds.f
 simpa [speedsOf,daysOf] using this
theorem speeds_length {s:Int} {l:List S89} {a b:Int} (hr:okRange a b=true):(speedsOf s l a b).length≤5001:=by
 have hr':=range_of hr
 unfold speedsOf
 have h1:=List.length_filter_le (agreesOf s l) (daysOf a b)
 have h2:(daysOf a b).length=(b+1 - a).toNat:=by simp [daysOf]
 omega
end Go.Proofs.YtaidphhkhddemaaGreatDoor.PSky
end
section
namespace Go.Proofs.YtaidphhkhddemaaGreatDoor.PSky
open Go.RowKit Go.Proofs.YtaidphhkhddemaaGreatDoorW.PrintWords Go.Proofs.YtaidphhkhddemaaGreatDoorW.PrintLast Go.Proofs.YtaidphhkhddemaaGreatDoorW.PrintMore
theorem few_eq (l:List S89):tl_few.f l=some (decide ((l.length:Int)≤8)):=rfl
end Go.Proofs.YtaidphhkhddemaaGreatDoor.PSky
end
section
namespace Go.Proofs.YtaidphhkhddemaaGreatDoor.PSky
open Go.RowKit Go.Proofs.YtaidphhkhddemaaGreatDoorW.PrintWords Go.Proofs.YtaidphhkhddemaaGreatDoorW.PrintLast Go.Proofs.YtaidphhkhddemaaGreatDoorW.PrintMore
attribute [local go_sem] max2_int min2_int max_two min_two max_three min_three max_four min_four
set_option linter.unusedVariables false
set_option linter.unusedSimpArgs false
mutual
def tl_SkyWatches.j0:Nat→Int→List (S89)→Int→Int→List Int→Int→Bool→Option (Bool)
 |0,_,_,_,_,_,_,_=>none
 |k+1,x0,x1,x2,x3,x4,x5,x26=>if x26=true then ((tl_known.f).bind fun t422=>(some t422)) else ((sky_Watch.f k x0 x1 x2 x3 x4 x5).bind fun bt423=>((tr_Spot.f x0).bind fun t426=>(if t426=true then ((tr_Notes.f k x1).bind fun t427=>(if t427=true then ((tr_Range.f x2 x3).bind fun t428=>(if t428=true then ((tr_Days.f k x4).bind fun t429=>(if t429=true then ((tr_Off.f x5).bind fun t430=>(tl_SkyWatches.j1 k x0 x1 x2 x3 x4 x5 bt423.1 bt423.2.1 bt423.2.2 (!t430))) else (tl_SkyWatches.j1 k x0 x1 x2 x3 x4 x5 bt423.1 bt423.2.1 bt423.2.2 true))) else (tl_SkyWatches.j1 k x0 x1 x2 x3 x4 x5 bt423.1 bt423.2.1 bt423.2.2 true))) else (tl_SkyWatches.j1 k x0 x1 x2 x3 x4 x5 bt423.1 bt423.2.1 bt423.2.2 true))) else (tl_SkyWatches.j1 k x0 x1 x2 x3 x4 x5 bt423.1 bt423.2.1 bt423.2.2 true))))
def tl_SkyWatches.j1:Nat→Int→List (S89)→Int→Int→List Int→Int→Int→Int→Int→Bool→Option (Bool)
 |0,_,_,_,_,_,_,_,_,_,_=>none
 |k+1,x0,x1,x2,x3,x4,x5,x13,x14,x15,x62=>if x62=true then (if x15=2 then (if x13=0 then (if x14=0 then ((tl_known.f).bind fun t431=>(some t431)) else (some false)) else (some false)) else (some false)) else ((tr_Speeds.f k x0 x1 x2 x3).bind fun t432=>(if (t432.length:Int)=0 then (if x15=5 then (if x13=0 then (if x14=0 then ((tl_known.f).bind fun t435=>(some t435)) else (some false)) else (some false)) else (some false)) else ((tr_Watch.f k x0 t432 x4 x5).bind fun bt436=>(if x15=0 then (if x13=bt436.1 then (if x14=bt436.2 then ((tl_known.f).bind fun t438=>(some t438)) else (some false)) else (some false)) else (some false)))))
end
def tl_SkyWatches.f (k:Nat) (a0:Int) (l1:List (S89)) (a2:Int) (a3:Int) (l4:List Int) (a5:Int):Option (Bool):=(tl_few.f l1).bind fun t421=>(if t421=true then (tl_SkyWatches.j0 k a0 l1 a2 a3 l4 a5 (decide ((l4.length:Int) > 8))) else (tl_SkyWatches.j0 k a0 l1 a2 a3 l4 a5 true))
set_option maxHeartbeats 8000000 in
set_option maxRecDepth 100000 in
theorem tl_SkyWatches.calls (k:Nat) (a0:Int) (A1:Option Addr) (c1:Nat) (l1:List (S89)) (a2:Int) (a3:Int) (A4:Option Addr) (c4:Nat) (l4:List Int) (a5:Int) (r:Bool) (w:World) (hr1:Kd.C k89 w A1 l1.length l1) (hc1:l1.length≤c1) (hr4:Kd.C (Kd.int .i64) w A4 l4.length l4) (hc4:l4.length≤c4) (h:tl_SkyWatches.f k a0 l1 a2 a3 l4 a5=some r) (hLD:LD w):
  Calls Tryz.prog 7 #[.int .i64 a0,.slice A1 l1.length c1,.int .i64 a2,.int .i64 a3,.slice A4 l4.length c4,.int .i64 a5] w fun e w'=>e=.returned (.bool r)∧Below w.heap.size w w':=by
 have HLD:=A0_ hLD;clear hLD;have HR1:=A0_ hr1;have HC1:=A0_ hc1;clear hr1 hc1;have HR4:=A0_ hr4;have HC4:=A0_ hc4;clear hr4 hc4
 have HB:=A0_ (Below.refl w.heap.size w)
 have H:((tl_few.f l1).bind fun t421=>(if t421=true then (tl_SkyWatches.j0 k a0 l1 a2 a3 l4 a5 (decide ((l4.length:Int) > 8))) else (tl_SkyWatches.j0 k a0 l1 a2 a3 l4 a5 true)))=some r:=h
 clear h;have HC7:=A0_ H;clear H
 go_enter Tryz.func7,Tryz.ntmps7
 go_upto_region 1 with (fail)
 go_cut [26] (fun v26 wc=>∃ (kq:Nat) (x26_6:Bool),v26=.bool x26_6∧Aside0 (tl_SkyWatches.j0 kq a0 l1 a2 a3 l4 a5 x26_6=some r)∧Aside0 (kq≤k)∧Aside0 (Below w.heap.size w wc))
 case first=>
  have H:=HC7.out
  clear HC7;replace H:=Option.bind_eq_some_iff.mp H;obtain ⟨t421,A80,H⟩:=H
  replace H:(if t421=true then (tl_SkyWatches.j0 k a0 l1 a2 a3 l4 a5 (decide ((l4.length:Int) > 8))) else (tl_SkyWatches.j0 k a0 l1 a2 a3 l4 a5 true))=some r:=H
  have A8:=A0_ A80;clear A80
  by_cases c9:t421=true
  ·subst c9
   have H1:(tl_SkyWatches.j0 k a0 l1 a2 a3 l4 a5 (decide ((l4.length:Int) > 8)))=some r:=by rw [if_pos rfl] at H;exact H
   clear H;have H:=H1;clear H1
   have H':=A0_ H
   clear H
   go_wp2_with (first|((with_reducible refine gate_callee (f:=27) rfl ?_);refine goesL_ (some 20) rfl rfl Tryz.func27 (by kernel_rfl) rfl #[.slice A1 l1.length c1] rfl y1_ ?_;(with_reducible refine (tl_few.calls _ _ l1 true _ ?side1 ?side2 A8.out).mono ?_);(case side1=>repeat (first|exact (Kd.C_below HR1.out HB.out)|(with_reducible refine Kd.C_alloc ?_ _)|(with_reducible refine Kd.C_drewN ?_ _)|(with_reducible refine Kd.C_drew ?_)));(case side2=>exact HC1.out);rintro e w' ⟨rfl,⟨nd,rfl⟩⟩;refine ⟨_,rfl,?_⟩))
   go_meet
   case rel=>exact ⟨_,(decide ((l4.length:Int) > 8)),y4_,H',⟨by first|omega|exact Nat.le_refl _⟩,⟨y0_⟩⟩
  ·replace c9:=Bool.eq_false_iff.mpr c9;subst c9
   have H1:(tl_SkyWatches.j0 k a0 l1 a2 a3 l4 a5 true)=some r:=by rw [if_neg (show ¬ (false=true) by decide)] at H;exact H
   clear H;have H:=H1;clear H1
   have H':=A0_ H
   clear H
   go_wp2_with (first|((with_reducible refine gate_callee (f:=27) rfl ?_);refine goesL_ (some 20) rfl rfl Tryz.func27 (by kernel_rfl) rfl #[.slice A1 l1.length c1] rfl y1_ ?_;(with_reducible refine (tl_few.calls _ _ l1 false _ ?side1 ?side2 A8.out).mono ?_);(case side1=>repeat (first|exact (Kd.C_below HR1.out HB.out)|(with_reducible refine Kd.C_alloc ?_ _)|(with_reducible refine Kd.C_drewN ?_ _)|(with_reducible refine Kd.C_drew ?_)));(case side2=>exact HC1.out);rintro e w' ⟨rfl,⟨nd,rfl⟩⟩;refine ⟨_,rfl,?_⟩))
   go_meet
   case rel=>exact ⟨_,(true),y4_,H',⟨by first|omega|exact Nat.le_refl _⟩,⟨y0_⟩⟩
 case rest=>
  clear HC7;(try clear c1);(try clear c2);(try clear p2);(try clear c4);(try clear c7);(try clear c9)
  obtain ⟨kq,x26_6,rfl,HA,HJ6,HB⟩:=hcut
  cases kq with
  |zero=>exact absurd HA.out (by simp [tl_SkyWatches.j0])
  |succ kj6=>
   have H:=HA.out
   clear HA
   simp only [tl_SkyWatches.j0] at H
   by_cases c10:x26_6=true
   ·subst c10
    have H1:((tl_known.f).bind fun t422=>(some t422))=some r:=by rw [if_pos rfl] at H;exact H
    clear H;have H:=H1;clear H1;replace H:=Option.bind_eq_some_iff.mp H;obtain ⟨t422,A110,H⟩:=H
    replace H:(some t422)=some r:=H
    have A11:=A0_ A110;clear A110;obtain rfl:=Option.some.inj H
    go_wp2_with (first|((with_reducible refine gate_callee (f:=11) rfl ?_);refine goesL_ (some 27) rfl rfl Tryz.func11 (by kernel_rfl) rfl #[] rfl y1_ ?_;(with_reducible refine (tl_known.calls  t422 _ A11.out ?side1).mono ?_);(case side1=>exact LD.below HLD.out y0_);rintro e w12 ⟨rfl,hb⟩;refine ⟨_,rfl,?_⟩;have n0_:=A0_ (below_step y0_ hb);clear HB;have HB:=n0_;clear n0_;(try clear hb);(try clear hb2);(try clear hk);(try clear hi)))
    go_ret
    exact ⟨y3_,y0_⟩
   ·replace c10:=Bool.eq_false_iff.mpr c10;subst c10
    have H1:((sky_Watch.f kj6 a0 l1 a2 a3 l4 a5).bind fun bt423=>((tr_Spot.f a0).bind fun t426=>(if t426=true then ((tr_Notes.f kj6 l1).bind fun t427=>(if t427=true then ((tr_Range.f a2 a3).bind fun t428=>(if t428=true then ((tr_Days.f kj6 l4).bind fun t429=>(if t429=true then ((tr_Off.f a5).bind fun t430=>(tl_SkyWatches.j1 kj6 a0 l1 a2 a3 l4 a5 bt423.1 bt423.2.1 bt423.2.2 (!t430))) else (tl_SkyWatches.j1 kj6 a0 l1 a2 a3 l4 a5 bt423.1 bt423.2.1 bt423.2.2 true))) else (tl_SkyWatches.j1 kj6 a0 l1 a2 a3 l4 a5 bt423.1 bt423.2.1 bt423.2.2 true))) else (tl_SkyWatches.j1 kj6 a0 l1 a2 a3 l4 a5 bt423.1 bt423.2.1 bt423.2.2 true))) else (tl_SkyWatches.j1 kj6 a0 l1 a2 a3 l4 a5 bt423.1 bt423.2.1 bt423.2.2 true))))=some r:=by rw [if_neg (show ¬ (false=true) by decide)] at H;exact H
    clear H;have H:=H1;clear H1;replace H:=Option.bind_eq_some_iff.mp H
    obtain ⟨⟨t423,t424,t425⟩,A130,H⟩:=H
    replace H:((tr_Spot.f a0).bind fun t426=>(if t426=true then ((tr_Notes.f kj6 l1).bind fun t427=>(if t427=true then ((tr_Range.f a2 a3).bind fun t428=>(if t428=true then ((tr_Days.f kj6 l4).bind fun t429=>(if t429=true then ((tr_Off.f a5).bind fun t430=>(tl_SkyWatches.j1 kj6 a0 l1 a2 a3 l4 a5 t423 t424 t425 (!t430))) else (tl_SkyWatches.j1 kj6 a0 l1 a2 a3 l4 a5 t423 t424 t425 true))) else (tl_SkyWatches.j1 kj6 a0 l1 a2 a3 l4 a5 t423 t424 t425 true))) else (tl_SkyWatches.j1 kj6 a0 l1 a2 a3 l4 a5 t423 t424 t425 true))) else (tl_SkyWatches.j1 kj6 a0 l1 a2 a3 l4 a5 t423 t424 t425 true)))=some r:=H
    have A13:=A0_ A130;clear A130;have HC14:=A0_ H;clear H
    go_upto_region 4 with (first|((with_reducible refine gate_callee (f:=32) rfl ?_);refine goesL_ (some 35) rfl rfl Tryz.func32 (by kernel_rfl) rfl #[.int .i64 a0,.slice A1 l1.length c1,.int .i64 a2,.int .i64 a3,.slice A4 l4.length c4,.int .i64 a5] rfl y1_ ?_;(with_reducible refine (sky_Watch.calls kj6 a0 _ _ l1 a2 a3 _ _ l4 a5 t423 t424 t425 _ ?side1 ?side2 ?side3 ?side4 A13.out).mono ?_);(case side1=>repeat (first|exact (Kd.C_below HR1.out HB.out)|(with_reducible refine Kd.C_alloc ?_ _)|(with_reducible refine Kd.C_drewN ?_ _)|(with_reducible refine Kd.C_drew ?_)));(case side2=>exact HC1.out);(case side3=>repeat (first|exact (Kd.C_below HR4.out HB.out)|(with_reducible refine Kd.C_alloc ?_ _)|(with_reducible refine Kd.C_drewN ?_ _)|(with_reducible refine Kd.C_drew ?_)));(case side4=>exact HC4.out);rintro e w15 ⟨rfl,hb⟩;refine ⟨_,rfl,?_⟩;have n0_:=A0_ (below_step y0_ hb);clear HB;have HB:=n0_;clear n0_;(try clear hb);(try clear hb2);(try clear hk);(try clear hi)))
    (try simp only [Act.put,List.setIfInBounds_toArray,List.set_cons_zero,List.set_cons_succ])
    go_cut [62] (fun v62 wc=>∃ (kq:Nat) (x62_13:Bool),v62=.bool x62_13∧Aside0 (tl_SkyWatches.j1 kq a0 l1 a2 a3 l4 a5 t423 t424 t425 x62_13=some r)∧Aside0 (kq≤kj6)∧Aside0 (Below w.heap.size w wc))
    case first=>
     have H:=HC14.out
     clear HC14;replace H:=Option.bind_eq_some_iff.mp H;obtain ⟨t426,A160,H⟩:=H
     replace H:(if t426=true then ((tr_Notes.f kj6 l1).bind fun t427=>(if t427=true then ((tr_Range.f a2 a3).bind fun t428=>(if t428=true then ((tr_Days.f kj6 l4).bind fun t429=>(if t429=true then ((tr_Off.f a5).bind fun t430=>(tl_SkyWatches.j1 kj6 a0 l1 a2 a3 l4 a5 t423 t424 t425 (!t430))) else (tl_SkyWatches.j1 kj6 a0 l1 a2 a3 l4 a5 t423 t424 t425 true))) else (tl_SkyWatches.j1 kj6 a0 l1 a2 a3 l4 a5 t423 t424 t425 true))) else (tl_SkyWatches.j1 kj6 a0 l1 a2 a3 l4 a5 t423 t424 t425 true))) else (tl_SkyWatches.j1 kj6 a0 l1 a2 a3 l4 a5 t423 t424 t425 true))=some r:=H
     have A16:=A0_ A160;clear A160
     by_cases c17:t426=true
     ·subst c17
      have H1:((tr_Notes.f kj6 l1).bind fun t427=>(if t427=true then ((tr_Range.f a2 a3).bind fun t428=>(if t428=true then ((tr_Days.f kj6 l4).bind fun t429=>(if t429=true then ((tr_Off.f a5).bind fun t430=>(tl_SkyWatches.j1 kj6 a0 l1 a2 a3 l4 a5 t423 t424 t425 (!t430))) else (tl_SkyWatches.j1 kj6 a0 l1 a2 a3 l4 a5 t423 t424 t425 true))) else (tl_SkyWatches.j1 kj6 a0 l1 a2 a3 l4 a5 t423 t424 t425 true))) else (tl_SkyWatches.j1 kj6 a0 l1 a2 a3 l4 a5 t423 t424 t425 true)))=some r:=by rw [if_pos rfl] at H;exact H
      clear H;have H:=H1;clear H1;replace H:=Option.bind_eq_some_iff.mp H;obtain ⟨t427,A180,H⟩:=H
      replace H:(if t427=true then ((tr_Range.f a2 a3).bind fun t428=>(if t428=true then ((tr_Days.f kj6 l4).bind fun t429=>(if t429=true then ((tr_Off.f a5).bind fun t430=>(tl_SkyWatches.j1 kj6 a0 l1 a2 a3 l4 a5 t423 t424 t425 (!t430))) else (tl_SkyWatches.j1 kj6 a0 l1 a2 a3 l4 a5 t423 t424 t425 true))) else (tl_SkyWatches.j1 kj6 a0 l1 a2 a3 l4 a5 t423 t424 t425 true))) else (tl_SkyWatches.j1 kj6 a0 l1 a2 a3 l4 a5 t423 t424 t425 true))=some r:=H
      have A18:=A0_ A180;clear A180
      by_cases c19:t427=true
      ·subst c19
       have H1:((tr_Range.f a2 a3).bind fun t428=>(if t428=true then ((tr_Days.f kj6 l4).bind fun t429=>(if t429=true then ((tr_Off.f a5).bind fun t430=>(tl_SkyWatches.j1 kj6 a0 l1 a2 a3 l4 a5 t423 t424 t425 (!t430))) else (tl_SkyWatches.j1 kj6 a0 l1 a2 a3 l4 a5 t423 t424 t425 true))) else (tl_SkyWatches.j1 kj6 a0 l1 a2 a3 l4 a5 t423 t424 t425 true)))=some r:=by rw [if_pos rfl] at H;exact H
       clear H;have H:=H1;clear H1;replace H:=Option.bind_eq_some_iff.mp H;obtain ⟨t428,A200,H⟩:=H
       replace H:(if t428=true then ((tr_Days.f kj6 l4).bind fun t429=>(if t429=true then ((tr_Off.f a5).bind fun t430=>(tl_SkyWatches.j1 kj6 a0 l1 a2 a3 l4 a5 t423 t424 t425 (!t430))) else (tl_SkyWatches.j1 kj6 a0 l1 a2 a3 l4 a5 t423 t424 t425 true))) else (tl_SkyWatches.j1 kj6 a0 l1 a2 a3 l4 a5 t423 t424 t425 true))=some r:=H
       have A20:=A0_ A200;clear A200
       by_cases c21:t428=true
       ·subst c21
        have H1:((tr_Days.f kj6 l4).bind fun t429=>(if t429=true then ((tr_Off.f a5).bind fun t430=>(tl_SkyWatches.j1 kj6 a0 l1 a2 a3 l4 a5 t423 t424 t425 (!t430))) else (tl_SkyWatches.j1 kj6 a0 l1 a2 a3 l4 a5 t423 t424 t425 true)))=some r:=by rw [if_pos rfl] at H;exact H
        clear H;have H:=H1;clear H1;replace H:=Option.bind_eq_some_iff.mp H;obtain ⟨t429,A220,H⟩:=H
        replace H:(if t429=true then ((tr_Off.f a5).bind fun t430=>(tl_SkyWatches.j1 kj6 a0 l1 a2 a3 l4 a5 t423 t424 t425 (!t430))) else (tl_SkyWatches.j1 kj6 a0 l1 a2 a3 l4 a5 t423 t424 t425 true))=some r:=H
        have A22:=A0_ A220;clear A220
        by_cases c23:t429=true
        ·subst c23
         have H1:((tr_Off.f a5).bind fun t430=>(tl_SkyWatches.j1 kj6 a0 l1 a2 a3 l4 a5 t423 t424 t425 (!t430)))=some r:=by rw [if_pos rfl] at H;exact H
         clear H;have H:=H1;clear H1;replace H:=Option.bind_eq_some_iff.mp H;obtain ⟨t430,A240,H⟩:=H
         replace H:(tl_SkyWatches.j1 kj6 a0 l1 a2 a3 l4 a5 t423 t424 t425 (!t430))=some r:=H
         have A24:=A0_ A240;clear A240
         have H':=A0_ H
         clear H
         go_wp2_with (first|((with_reducible refine gate_callee (f:=23) rfl ?_);refine goesL_ (some 40) rfl rfl Tryz.func23 (by kernel_rfl) rfl #[.int .i64 a0] rfl y1_ ?_;(with_reducible refine (tr_Spot.calls a0 true _ A16.out).mono ?_);rintro e w' ⟨rfl,⟨nd,rfl⟩⟩;refine ⟨_,rfl,?_⟩)|(go_at_call 29;(with_reducible refine (tr_Notes.calls kj6 _ _ l1 true _ ?side1 ?side2 A18.out).mono ?_);(case side1=>repeat (first|exact (Kd.C_below HR1.out y0_)|(with_reducible refine Kd.C_alloc ?_ _)|(with_reducible refine Kd.C_drewN ?_ _)|(with_reducible refine Kd.C_drew ?_)));(case side2=>exact HC1.out);rintro e w' ⟨rfl,⟨nd,rfl⟩⟩)|(go_at_call 30;(with_reducible refine (tr_Range.calls a2 a3 true _ A20.out).mono ?_);rintro e w' ⟨rfl,⟨nd,rfl⟩⟩)|(go_at_call 33;(with_reducible refine (tr_Days.calls kj6 _ _ l4 true _ ?side1 ?side2 A22.out).mono ?_);(case side1=>repeat (first|exact (Kd.C_below HR4.out y0_)|(with_reducible refine Kd.C_alloc ?_ _)|(with_reducible refine Kd.C_drewN ?_ _)|(with_reducible refine Kd.C_drew ?_)));(case side2=>exact HC4.out);rintro e w' ⟨rfl,⟨nd,rfl⟩⟩)|(go_at_call 34;(with_reducible refine (tr_Off.calls a5 t430 _ A24.out).mono ?_);rintro e w' ⟨rfl,⟨nd,rfl⟩⟩))
         go_meet
         case rel=>exact ⟨_,(!t430),y4_,H',⟨by have:=HJ6.out;first|omega|exact Nat.le_refl _⟩,⟨y0_⟩⟩
        ·replace c23:=Bool.eq_false_iff.mpr c23;subst c23
         have H1:(tl_SkyWatches.j1 kj6 a0 l1 a2 a3 l4 a5 t423 t424 t425 true)=some r:=by rw [if_neg (show ¬ (false=true) by decide)] at H;exact H
         clear H;have H:=H1;clear H1
         have H':=A0_ H
         clear H
         go_wp2_with (first|((with_reducible refine gate_callee (f:=23) rfl ?_);refine goesL_ (some 40) rfl rfl Tryz.func23 (by kernel_rfl) rfl #[.int .i64 a0] rfl y1_ ?_;(with_reducible refine (tr_Spot.calls a0 true _ A16.out).mono ?_);rintro e w' ⟨rfl,⟨nd,rfl⟩⟩;refine ⟨_,rfl,?_⟩)|(go_at_call 29;(with_reducible refine (tr_Notes.calls kj6 _ _ l1 true _ ?side1 ?side2 A18.out).mono ?_);(case side1=>repeat (first|exact (Kd.C_below HR1.out y0_)|(with_reducible refine Kd.C_alloc ?_ _)|(with_reducible refine Kd.C_drewN ?_ _)|(with_reducible refine Kd.C_drew ?_)));(case side2=>exact HC1.out);rintro e w' ⟨rfl,⟨nd,rfl⟩⟩)|(go_at_call 30;(with_reducible refine (tr_Range.calls a2 a3 true _ A20.out).mono ?_);rintro e w' ⟨rfl,⟨nd,rfl⟩⟩)|(go_at_call 33;(with_reducible refine (tr_Days.calls kj6 _ _ l4 false _ ?side1 ?side2 A22.out).mono ?_);(case side1=>repeat (first|exact (Kd.C_below HR4.out y0_)|(with_reducible refine Kd.C_alloc ?_ _)|(with_reducible refine Kd.C_drewN ?_ _)|(with_reducible refine Kd.C_drew ?_)));(case side2=>exact HC4.out);rintro e w' ⟨rfl,⟨nd,rfl⟩⟩))
         go_meet
         case rel=>exact ⟨_,(true),y4_,H',⟨by have:=HJ6.out;first|omega|exact Nat.le_refl _⟩,⟨y0_⟩⟩
       ·replace c21:=Bool.eq_false_iff.mpr c21;subst c21
        have H1:(tl_SkyWatches.j1 kj6 a0 l1 a2 a3 l4 a5 t423 t424 t425 true)=some r:=by rw [if_neg (show ¬ (false=true) by decide)] at H;exact H
        clear H;have H:=H1;clear H1
        have H':=A0_ H
        clear H
        go_wp2_with (first|((with_reducible refine gate_callee (f:=23) rfl ?_);refine goesL_ (some 40) rfl rfl Tryz.func23 (by kernel_rfl) rfl #[.int .i64 a0] rfl y1_ ?_;(with_reducible refine (tr_Spot.calls a0 true _ A16.out).mono ?_);rintro e w' ⟨rfl,⟨nd,rfl⟩⟩;refine ⟨_,rfl,?_⟩)|(go_at_call 29;(with_reducible refine (tr_Notes.calls kj6 _ _ l1 true _ ?side1 ?side2 A18.out).mono ?_);(case side1=>repeat (first|exact (Kd.C_below HR1.out y0_)|(with_reducible refine Kd.C_alloc ?_ _)|(with_reducible refine Kd.C_drewN ?_ _)|(with_reducible refine Kd.C_drew ?_)));(case side2=>exact HC1.out);rintro e w' ⟨rfl,⟨nd,rfl⟩⟩)|(go_at_call 30;(with_reducible refine (tr_Range.calls a2 a3 false _ A20.out).mono ?_);rintro e w' ⟨rfl,⟨nd,rfl⟩⟩))
        go_meet
        case rel=>exact ⟨_,(true),y4_,H',⟨by have:=HJ6.out;first|omega|exact Nat.le_refl _⟩,⟨y0_⟩⟩
      ·replace c19:=Bool.eq_false_iff.mpr c19;subst c19
       have H1:(tl_SkyWatches.j1 kj6 a0 l1 a2 a3 l4 a5 t423 t424 t425 true)=some r:=by rw [if_neg (show ¬ (false=true) by decide)] at H;exact H
       clear H;have H:=H1;clear H1
       have H':=A0_ H
       clear H
       go_wp2_with (first|((with_reducible refine gate_callee (f:=23) rfl ?_);refine goesL_ (some 40) rfl rfl Tryz.func23 (by kernel_rfl) rfl #[.int .i64 a0] rfl y1_ ?_;(with_reducible refine (tr_Spot.calls a0 true _ A16.out).mono ?_);rintro e w' ⟨rfl,⟨nd,rfl⟩⟩;refine ⟨_,rfl,?_⟩)|(go_at_call 29;(with_reducible refine (tr_Notes.calls kj6 _ _ l1 false _ ?side1 ?side2 A18.out).mono ?_);(case side1=>repeat (first|exact (Kd.C_below HR1.out y0_)|(with_reducible refine Kd.C_alloc ?_ _)|(with_reducible refine Kd.C_drewN ?_ _)|(with_reducible refine Kd.C_drew ?_)));(case side2=>exact HC1.out);rintro e w' ⟨rfl,⟨nd,rfl⟩⟩))
       go_meet
       case rel=>exact ⟨_,(true),y4_,H',⟨by have:=HJ6.out;first|omega|exact Nat.le_refl _⟩,⟨y0_⟩⟩
     ·replace c17:=Bool.eq_false_iff.mpr c17;subst c17
      have H1:(tl_SkyWatches.j1 kj6 a0 l1 a2 a3 l4 a5 t423 t424 t425 true)=some r:=by rw [if_neg (show ¬ (false=true) by decide)] at H;exact H
      clear H;have H:=H1;clear H1
      have H':=A0_ H
      clear H
      go_wp2_with (first|((with_reducible refine gate_callee (f:=23) rfl ?_);refine goesL_ (some 40) rfl rfl Tryz.func23 (by kernel_rfl) rfl #[.int .i64 a0] rfl y1_ ?_;(with_reducible refine (tr_Spot.calls a0 false _ A16.out).mono ?_);rintro e w' ⟨rfl,⟨nd,rfl⟩⟩;refine ⟨_,rfl,?_⟩))
      go_meet
      case rel=>exact ⟨_,(true),y4_,H',⟨by have:=HJ6.out;first|omega|exact Nat.le_refl _⟩,⟨y0_⟩⟩
    case rest=>
     clear HC14;(try clear c1);(try clear c2);(try clear p2);(try clear c3);(try clear c4);(try clear c7);(try clear c9);(try clear c10);(try clear c11);(try clear c17);(try clear c19);(try clear c21);(try clear c23);(try clear p2)
     obtain ⟨kq,x62_13,rfl,HA,HJ13,HB⟩:=hcut
     cases kq with
     |zero=>exact absurd HA.out (by simp [tl_SkyWatches.j1])
     |succ kj13=>
      have H:=HA.out
      clear HA
      simp only [tl_SkyWatches.j1] at H
      by_cases c25:x62_13=true
      ·subst c25
       have H1:(if t425=2 then (if t423=0 then (if t424=0 then ((tl_known.f).bind fun t431=>(some t431)) else (some false)) else (some false)) else (some false))=some r:=by rw [if_pos rfl] at H;exact H
       clear H;have H:=H1;clear H1
       by_cases c26:t425=2
       ·rw [if_pos c26] at H
        have c26b0:(t425 == 2)=true:=beq_iff_eq.mpr c26
        have c26b1:(t425 != 2)=false:=bne_eq_false_iff_eq.mpr c26
        clear c26
        by_cases c27:t423=0
        ·rw [if_pos c27] at H
         have c27b0:(t423 == 0)=true:=beq_iff_eq.mpr c27
         have c27b1:(t423 != 0)=false:=bne_eq_false_iff_eq.mpr c27
         clear c27
         by_cases c28:t424=0
         ·rw [if_pos c28] at H
          have c28b0:(t424 == 0)=true:=beq_iff_eq.mpr c28
          have c28b1:(t424 != 0)=false:=bne_eq_false_iff_eq.mpr c28
          clear c28;replace H:=Option.bind_eq_some_iff.mp H;obtain ⟨t431,A290,H⟩:=H
          replace H:(some t431)=some r:=H
          have A29:=A0_ A290;clear A290;obtain rfl:=Option.some.inj H
          go_wp2_with (first|(go_at_call 11;(with_reducible refine (tl_known.calls  t431 _ A29.out ?side1).mono ?_);(case side1=>exact LD.below HLD.out y0_);rintro e w30 ⟨rfl,hb⟩;have n0_:=A0_ (below_step y0_ hb);clear HB;have HB:=n0_;clear n0_;(try clear hb);(try clear hb2);(try clear hk);(try clear hi)))
          go_ret
          exact ⟨y3_,y0_⟩
         ·rw [if_neg c28] at H
          have c28b0:(t424 == 0)=false:=beq_eq_false_iff_ne.mpr c28
          have c28b1:(t424 != 0)=true:=bne_iff_ne.mpr c28
          obtain rfl:=Option.some.inj H;go_wp2;go_ret
          exact ⟨y3_,y0_⟩
        ·rw [if_neg c27] at H
         have c27b0:(t423 == 0)=false:=beq_eq_false_iff_ne.mpr c27
         have c27b1:(t423 != 0)=true:=bne_iff_ne.mpr c27
         obtain rfl:=Option.some.inj H;go_wp2;go_ret
         exact ⟨y3_,y0_⟩
       ·rw [if_neg c26] at H
        have c26b0:(t425 == 2)=false:=beq_eq_false_iff_ne.mpr c26
        have c26b1:(t425 != 2)=true:=bne_iff_ne.mpr c26
        obtain rfl:=Option.some.inj H;go_wp2;go_ret
        exact ⟨y3_,y0_⟩
      ·replace c25:=Bool.eq_false_iff.mpr c25;subst c25
       have H1:((tr_Speeds.f kj13 a0 l1 a2 a3).bind fun t432=>(if (t432.length:Int)=0 then (if t425=5 then (if t423=0 then (if t424=0 then ((tl_known.f).bind fun t435=>(some t435)) else (some false)) else (some false)) else (some false)) else ((tr_Watch.f kj13 a0 t432 l4 a5).bind fun bt436=>(if t425=0 then (if t423=bt436.1 then (if t424=bt436.2 then ((tl_known.f).bind fun t438=>(some t438)) else (some false)) else (some false)) else (some false)))))=some r:=by rw [if_neg (show ¬ (false=true) by decide)] at H;exact H
       clear H;have H:=H1;clear H1;replace H:=Option.bind_eq_some_iff.mp H;obtain ⟨t432,A310,H⟩:=H
       replace H:(if (t432.length:Int)=0 then (if t425=5 then (if t423=0 then (if t424=0 then ((tl_known.f).bind fun t435=>(some t435)) else (some false)) else (some false)) else (some false)) else ((tr_Watch.f kj13 a0 t432 l4 a5).bind fun bt436=>(if t425=0 then (if t423=bt436.1 then (if t424=bt436.2 then ((tl_known.f).bind fun t438=>(some t438)) else (some false)) else (some false)) else (some false))))=some r:=H
       have A31:=A0_ A310;clear A310
       by_cases c32:(t432.length:Int)=0
       ·rw [if_pos c32] at H
        have c32b0:((t432.length:Int) == 0)=true:=beq_iff_eq.mpr c32
        have c32b1:((t432.length:Int) != 0)=false:=bne_eq_false_iff_eq.mpr c32
        clear c32
        by_cases c33:t425=5
        ·rw [if_pos c33] at H
         have c33b0:(t425 == 5)=true:=beq_iff_eq.mpr c33
         have c33b1:(t425 != 5)=false:=bne_eq_false_iff_eq.mpr c33
         clear c33
         by_cases c34:t423=0
         ·rw [if_pos c34] at H
          have c34b0:(t423 == 0)=true:=beq_iff_eq.mpr c34
          have c34b1:(t423 != 0)=false:=bne_eq_false_iff_eq.mpr c34
          clear c34
          by_cases c35:t424=0
          ·rw [if_pos c35] at H
           have c35b0:(t424 == 0)=true:=beq_iff_eq.mpr c35
           have c35b1:(t424 != 0)=false:=bne_eq_false_iff_eq.mpr c35
           clear c35;replace H:=Option.bind_eq_some_iff.mp H;obtain ⟨t435,A360,H⟩:=H
           replace H:(some t435)=some r:=H
           have A36:=A0_ A360;clear A360;obtain rfl:=Option.some.inj H
           go_wp2_with (first|((with_reducible refine gate_callee (f:=31) rfl ?_);refine goesL_ (some 80) rfl rfl Tryz.func31 (by kernel_rfl) rfl #[.int .i64 a0,.slice A1 l1.length c1,.int .i64 a2,.int .i64 a3] rfl y1_ ?_;(with_reducible refine (tr_Speeds.calls kj13 a0 _ _ l1 a2 a3 t432 _ ?side1 ?side2 A31.out).mono ?_);(case side1=>repeat (first|exact (Kd.C_below HR1.out HB.out)|(with_reducible refine Kd.C_alloc ?_ _)|(with_reducible refine Kd.C_drewN ?_ _)|(with_reducible refine Kd.C_drew ?_)));(case side2=>exact HC1.out);rintro e w37 ⟨v433,rfl,ho0,hb⟩;refine ⟨_,rfl,?_⟩;have n0_:=A0_ (Kd.R_lower ho0 (below_size y0_));have n1_:=A0_ (below_step y0_ hb);clear HB;have HO434:=n0_;have HB:=n1_;clear n0_ n1_;(try clear hb);(try clear hb2);(try clear hk);(try clear hi);(try clear ho0);obtain ⟨Ao38,co38,eo38⟩:=Kd.R_slice HO434.out;subst eo38)|(go_at_call 11;(with_reducible refine (tl_known.calls  t435 _ A36.out ?side1).mono ?_);(case side1=>exact LD.below HLD.out y0_);rintro e w39 ⟨rfl,hb⟩;have n0_:=A0_ (Kd.R_below (rd_ HO434.out) hb);have n1_:=A0_ (below_step y0_ hb);clear HO434;clear HB;have HO434:=n0_;have HB:=n1_;clear n0_ n1_;(try clear hb);(try clear hb2);(try clear hk);(try clear hi)))
           go_ret
           exact ⟨y3_,y0_⟩
          ·rw [if_neg c35] at H
           have c35b0:(t424 == 0)=false:=beq_eq_false_iff_ne.mpr c35
           have c35b1:(t424 != 0)=true:=bne_iff_ne.mpr c35
           obtain rfl:=Option.some.inj H
           go_wp2_with (first|((with_reducible refine gate_callee (f:=31) rfl ?_);refine goesL_ (some 80) rfl rfl Tryz.func31 (by kernel_rfl) rfl #[.int .i64 a0,.slice A1 l1.length c1,.int .i64 a2,.int .i64 a3] rfl y1_ ?_;(with_reducible refine (tr_Speeds.calls kj13 a0 _ _ l1 a2 a3 t432 _ ?side1 ?side2 A31.out).mono ?_);(case side1=>repeat (first|exact (Kd.C_below HR1.out HB.out)|(with_reducible refine Kd.C_alloc ?_ _)|(with_reducible refine Kd.C_drewN ?_ _)|(with_reducible refine Kd.C_drew ?_)));(case side2=>exact HC1.out);rintro e w40 ⟨v433,rfl,ho0,hb⟩;refine ⟨_,rfl,?_⟩;have n0_:=A0_ (Kd.R_lower ho0 (below_size y0_));have n1_:=A0_ (below_step y0_ hb);clear HB;have HO434:=n0_;have HB:=n1_;clear n0_ n1_;(try clear hb);(try clear hb2);(try clear hk);(try clear hi);(try clear ho0);obtain ⟨Ao41,co41,eo41⟩:=Kd.R_slice HO434.out;subst eo41))
           go_ret
           exact ⟨y3_,y0_⟩
         ·rw [if_neg c34] at H
          have c34b0:(t423 == 0)=false:=beq_eq_false_iff_ne.mpr c34
          have c34b1:(t423 != 0)=true:=bne_iff_ne.mpr c34
          obtain rfl:=Option.some.inj H
          go_wp2_with (first|((with_reducible refine gate_callee (f:=31) rfl ?_);refine goesL_ (some 80) rfl rfl Tryz.func31 (by kernel_rfl) rfl #[.int .i64 a0,.slice A1 l1.length c1,.int .i64 a2,.int .i64 a3] rfl y1_ ?_;(with_reducible refine (tr_Speeds.calls kj13 a0 _ _ l1 a2 a3 t432 _ ?side1 ?side2 A31.out).mono ?_);(case side1=>repeat (first|exact (Kd.C_below HR1.out HB.out)|(with_reducible refine Kd.C_alloc ?_ _)|(with_reducible refine Kd.C_drewN ?_ _)|(with_reducible refine Kd.C_drew ?_)));(case side2=>exact HC1.out);rintro e w42 ⟨v433,rfl,ho0,hb⟩;refine ⟨_,rfl,?_⟩;have n0_:=A0_ (Kd.R_lower ho0 (below_size y0_));have n1_:=A0_ (below_step y0_ hb);clear HB;have HO434:=n0_;have HB:=n1_;clear n0_ n1_;(try clear hb);(try clear hb2);(try clear hk);(try clear hi);(try clear ho0);obtain ⟨Ao43,co43,eo43⟩:=Kd.R_slice HO434.out;subst eo43))
          go_ret
          exact ⟨y3_,y0_⟩
        ·rw [if_neg c33] at H
         have c33b0:(t425 == 5)=false:=beq_eq_false_iff_ne.mpr c33
         have c33b1:(t425 != 5)=true:=bne_iff_ne.mpr c33
         obtain rfl:=Option.some.inj H
         go_wp2_with (first|((with_reducible refine gate_callee (f:=31) rfl ?_);refine goesL_ (some 80) rfl rfl Tryz.func31 (by kernel_rfl) rfl #[.int .i64 a0,.slice A1 l1.length c1,.int .i64 a2,.int .i64 a3] rfl y1_ ?_;(with_reducible refine (tr_Speeds.calls kj13 a0 _ _ l1 a2 a3 t432 _ ?side1 ?side2 A31.out).mono ?_);(case side1=>repeat (first|exact (Kd.C_below HR1.out HB.out)|(with_reducible refine Kd.C_alloc ?_ _)|(with_reducible refine Kd.C_drewN ?_ _)|(with_reducible refine Kd.C_drew ?_)));(case side2=>exact HC1.out);rintro e w44 ⟨v433,rfl,ho0,hb⟩;refine ⟨_,rfl,?_⟩;have n0_:=A0_ (Kd.R_lower ho0 (below_size y0_));have n1_:=A0_ (below_step y0_ hb);clear HB;have HO434:=n0_;have HB:=n1_;clear n0_ n1_;(try clear hb);(try clear hb2);(try clear hk);(try clear hi);(try clear ho0);obtain ⟨Ao45,co45,eo45⟩:=Kd.R_slice HO434.out;subst eo45))
         go_ret
         exact ⟨y3_,y0_⟩
       ·rw [if_neg c32] at H
        have c32b0:((t432.length:Int) == 0)=false:=beq_eq_false_iff_ne.mpr c32
        have c32b1:((t432.length:Int) != 0)=true:=bne_iff_ne.mpr c32
        have c32b2:¬ (t432=[]):=fun h_=>c32 (by rw [h_];rfl)
        replace H:=Option.bind_eq_some_iff.mp H
        obtain ⟨⟨t436,t437⟩,A460,H⟩:=H
        replace H:(if t425=0 then (if t423=t436 then (if t424=t437 then ((tl_known.f).bind fun t438=>(some t438)) else (some false)) else (some false)) else (some false))=some r:=H
        have A46:=A0_ A460;clear A460
        by_cases c47:t425=0
        ·rw [if_pos c47] at H
         have c47b0:(t425 == 0)=true:=beq_iff_eq.mpr c47
         have c47b1:(t425 != 0)=false:=bne_eq_false_iff_eq.mpr c47
         clear c47
         by_cases c48:t423=t436
         ·rw [if_pos c48] at H
          have c48b0:(t423 == t436)=true:=beq_iff_eq.mpr c48
          have c48b1:(t423 != t436)=false:=bne_eq_false_iff_eq.mpr c48
          clear c48
          by_cases c49:t424=t437
          ·rw [if_pos c49] at H
           have c49b0:(t424 == t437)=true:=beq_iff_eq.mpr c49
           have c49b1:(t424 != t437)=false:=bne_eq_false_iff_eq.mpr c49
           clear c49;replace H:=Option.bind_eq_some_iff.mp H;obtain ⟨t438,A500,H⟩:=H
           replace H:(some t438)=some r:=H
           have A50:=A0_ A500;clear A500;obtain rfl:=Option.some.inj H
           go_wp2_with (first|((with_reducible refine gate_callee (f:=31) rfl ?_);refine goesL_ (some 80) rfl rfl Tryz.func31 (by kernel_rfl) rfl #[.int .i64 a0,.slice A1 l1.length c1,.int .i64 a2,.int .i64 a3] rfl y1_ ?_;(with_reducible refine (tr_Speeds.calls kj13 a0 _ _ l1 a2 a3 t432 _ ?side1 ?side2 A31.out).mono ?_);(case side1=>repeat (first|exact (Kd.C_below HR1.out HB.out)|(with_reducible refine Kd.C_alloc ?_ _)|(with_reducible refine Kd.C_drewN ?_ _)|(with_reducible refine Kd.C_drew ?_)));(case side2=>exact HC1.out);rintro e w51 ⟨v433,rfl,ho0,hb⟩;refine ⟨_,rfl,?_⟩;have n0_:=A0_ (Kd.R_lower ho0 (below_size y0_));have n1_:=A0_ (below_step y0_ hb);clear HB;have HO434:=n0_;have HB:=n1_;clear n0_ n1_;(try clear hb);(try clear hb2);(try clear hk);(try clear hi);(try clear ho0);obtain ⟨Ao52,co52,eo52⟩:=Kd.R_slice HO434.out;subst eo52)|((with_reducible refine gate_callee (f:=35) rfl ?_);refine goesL_ (some 102) rfl rfl Tryz.func35 (by kernel_rfl) rfl #[.int .i64 a0,.slice Ao52 t432.length co52,.slice A4 l4.length c4,.int .i64 a5] rfl y1_ ?_;(with_reducible refine (tr_Watch.calls kj13 a0 _ _ t432 _ _ l4 a5 t436 t437 _ ?side1 ?side2 ?side3 ?side4 A46.out).mono ?_);(case side1=>repeat (first|exact (Kd.R_reads' HO434.out).2.2|(with_reducible refine Kd.C_alloc ?_ _)|(with_reducible refine Kd.C_drewN ?_ _)|(with_reducible refine Kd.C_drew ?_)));(case side2=>exact (Kd.R_reads' HO434.out).2.1);(case side3=>repeat (first|exact (Kd.C_below HR4.out HB.out)|(with_reducible refine Kd.C_alloc ?_ _)|(with_reducible refine Kd.C_drewN ?_ _)|(with_reducible refine Kd.C_drew ?_)));(case side4=>exact HC4.out);rintro e w53 ⟨rfl,hb⟩;refine ⟨_,rfl,?_⟩;have n0_:=A0_ (Kd.R_below (rd_ HO434.out) hb);have n1_:=A0_ (below_step y0_ hb);clear HO434;clear HB;have HO434:=n0_;have HB:=n1_;clear n0_ n1_;(try clear hb);(try clear hb2);(try clear hk);(try clear hi))|(go_at_call 11;(with_reducible refine (tl_known.calls  t438 _ A50.out ?side1).mono ?_);(case side1=>exact LD.below HLD.out y0_);rintro e w54 ⟨rfl,hb⟩;have n0_:=A0_ (Kd.R_below (rd_ HO434.out) hb);have n1_:=A0_ (below_step y0_ hb);clear HO434;clear HB;have HO434:=n0_;have HB:=n1_;clear n0_ n1_;(try clear hb);(try clear hb2);(try clear hk);(try clear hi)))
           go_ret
           exact ⟨y3_,y0_⟩
          ·rw [if_neg c49] at H
           have c49b0:(t424 == t437)=false:=beq_eq_false_iff_ne.mpr c49
           have c49b1:(t424 != t437)=true:=bne_iff_ne.mpr c49
           obtain rfl:=Option.some.inj H
           go_wp2_with (first|((with_reducible refine gate_callee (f:=31) rfl ?_);refine goesL_ (some 80) rfl rfl Tryz.func31 (by kernel_rfl) rfl #[.int .i64 a0,.slice A1 l1.length c1,.int .i64 a2,.int .i64 a3] rfl y1_ ?_;(with_reducible refine (tr_Speeds.calls kj13 a0 _ _ l1 a2 a3 t432 _ ?side1 ?side2 A31.out).mono ?_);(case side1=>repeat (first|exact (Kd.C_below HR1.out HB.out)|(with_reducible refine Kd.C_alloc ?_ _)|(with_reducible refine Kd.C_drewN ?_ _)|(with_reducible refine Kd.C_drew ?_)));(case side2=>exact HC1.out);rintro e w55 ⟨v433,rfl,ho0,hb⟩;refine ⟨_,rfl,?_⟩;have n0_:=A0_ (Kd.R_lower ho0 (below_size y0_));have n1_:=A0_ (below_step y0_ hb);clear HB;have HO434:=n0_;have HB:=n1_;clear n0_ n1_;(try clear hb);(try clear hb2);(try clear hk);(try clear hi);(try clear ho0);obtain ⟨Ao56,co56,eo56⟩:=Kd.R_slice HO434.out;subst eo56)|((with_reducible refine gate_callee (f:=35) rfl ?_);refine goesL_ (some 102) rfl rfl Tryz.func35 (by kernel_rfl) rfl #[.int .i64 a0,.slice Ao56 t432.length co56,.slice A4 l4.length c4,.int .i64 a5] rfl y1_ ?_;(with_reducible refine (tr_Watch.calls kj13 a0 _ _ t432 _ _ l4 a5 t436 t437 _ ?side1 ?side2 ?side3 ?side4 A46.out).mono ?_);(case side1=>repeat (first|exact (Kd.R_reads' HO434.out).2.2|(with_reducible refine Kd.C_alloc ?_ _)|(with_reducible refine Kd.C_drewN ?_ _)|(with_reducible refine Kd.C_drew ?_)));(case side2=>exact (Kd.R_reads' HO434.out).2.1);(case side3=>repeat (first|exact (Kd.C_below HR4.out HB.out)|(with_reducible refine Kd.C_alloc ?_ _)|(with_reducible refine Kd.C_drewN ?_ _)|(with_reducible refine Kd.C_drew ?_)));(case side4=>exact HC4.out);rintro e w57 ⟨rfl,hb⟩;refine ⟨_,rfl,?_⟩;have n0_:=A0_ (Kd.R_below (rd_ HO434.out) hb);have n1_:=A0_ (below_step y0_ hb);clear HO434;clear HB;have HO434:=n0_;have HB:=n1_;clear n0_ n1_;(try clear hb);(try clear hb2);(try clear hk);(try clear hi)))
           go_ret
           exact ⟨y3_,y0_⟩
         ·rw [if_neg c48] at H
          have c48b0:(t423 == t436)=false:=beq_eq_false_iff_ne.mpr c48
          have c48b1:(t423 != t436)=true:=bne_iff_ne.mpr c48
          obtain rfl:=Option.some.inj H
          go_wp2_with (first|((with_reducible refine gate_callee (f:=31) rfl ?_);refine goesL_ (some 80) rfl rfl Tryz.func31 (by kernel_rfl) rfl #[.int .i64 a0,.slice A1 l1.length c1,.int .i64 a2,.int .i64 a3] rfl y1_ ?_;(with_reducible refine (tr_Speeds.calls kj13 a0 _ _ l1 a2 a3 t432 _ ?side1 ?side2 A31.out).mono ?_);(case side1=>repeat (first|exact (Kd.C_below HR1.out HB.out)|(with_reducible refine Kd.C_alloc ?_ _)|(with_reducible refine Kd.C_drewN ?_ _)|(with_reducible refine Kd.C_drew ?_)));(case side2=>exact HC1.out);rintro e w58 ⟨v433,rfl,ho0,hb⟩;refine ⟨_,rfl,?_⟩;have n0_:=A0_ (Kd.R_lower ho0 (below_size y0_));have n1_:=A0_ (below_step y0_ hb);clear HB;have HO434:=n0_;have HB:=n1_;clear n0_ n1_;(try clear hb);(try clear hb2);(try clear hk);(try clear hi);(try clear ho0);obtain ⟨Ao59,co59,eo59⟩:=Kd.R_slice HO434.out;subst eo59)|((with_reducible refine gate_callee (f:=35) rfl ?_);refine goesL_ (some 102) rfl rfl Tryz.func35 (by kernel_rfl) rfl #[.int .i64 a0,.slice Ao59 t432.length co59,.slice A4 l4.length c4,.int .i64 a5] rfl y1_ ?_;(with_reducible refine (tr_Watch.calls kj13 a0 _ _ t432 _ _ l4 a5 t436 t437 _ ?side1 ?side2 ?side3 ?side4 A46.out).mono ?_);(case side1=>repeat (first|exact (Kd.R_reads' HO434.out).2.2|(with_reducible refine Kd.C_alloc ?_ _)|(with_reducible refine Kd.C_drewN ?_ _)|(with_reducible refine Kd.C_drew ?_)));(case side2=>exact (Kd.R_reads' HO434.out).2.1);(case side3=>repeat (first|exact (Kd.C_below HR4.out HB.out)|(with_reducible refine Kd.C_alloc ?_ _)|(with_reducible refine Kd.C_drewN ?_ _)|(with_reducible refine Kd.C_drew ?_)));(case side4=>exact HC4.out);rintro e w60 ⟨rfl,hb⟩;refine ⟨_,rfl,?_⟩;have n0_:=A0_ (Kd.R_below (rd_ HO434.out) hb);have n1_:=A0_ (below_step y0_ hb);clear HO434;clear HB;have HO434:=n0_;have HB:=n1_;clear n0_ n1_;(try clear hb);(try clear hb2);(try clear hk);(try clear hi)))
          go_ret
          exact ⟨y3_,y0_⟩
        ·rw [if_neg c47] at H
         have c47b0:(t425 == 0)=false:=beq_eq_false_iff_ne.mpr c47
         have c47b1:(t425 != 0)=true:=bne_iff_ne.mpr c47
         obtain rfl:=Option.some.inj H
         go_wp2_with (first|((with_reducible refine gate_callee (f:=31) rfl ?_);refine goesL_ (some 80) rfl rfl Tryz.func31 (by kernel_rfl) rfl #[.int .i64 a0,.slice A1 l1.length c1,.int .i64 a2,.int .i64 a3] rfl y1_ ?_;(with_reducible refine (tr_Speeds.calls kj13 a0 _ _ l1 a2 a3 t432 _ ?side1 ?side2 A31.out).mono ?_);(case side1=>repeat (first|exact (Kd.C_below HR1.out HB.out)|(with_reducible refine Kd.C_alloc ?_ _)|(with_reducible refine Kd.C_drewN ?_ _)|(with_reducible refine Kd.C_drew ?_)));(case side2=>exact HC1.out);rintro e w61 ⟨v433,rfl,ho0,hb⟩;refine ⟨_,rfl,?_⟩;have n0_:=A0_ (Kd.R_lower ho0 (below_size y0_));have n1_:=A0_ (below_step y0_ hb);clear HB;have HO434:=n0_;have HB:=n1_;clear n0_ n1_;(try clear hb);(try clear hb2);(try clear hk);(try clear hi);(try clear ho0);obtain ⟨Ao62,co62,eo62⟩:=Kd.R_slice HO434.out;subst eo62)|((with_reducible refine gate_callee (f:=35) rfl ?_);refine goesL_ (some 102) rfl rfl Tryz.func35 (by kernel_rfl) rfl #[.int .i64 a0,.slice Ao62 t432.length co62,.slice A4 l4.length c4,.int .i64 a5] rfl y1_ ?_;(with_reducible refine (tr_Watch.calls kj13 a0 _ _ t432 _ _ l4 a5 t436 t437 _ ?side1 ?side2 ?side3 ?side4 A46.out).mono ?_);(case side1=>repeat (first|exact (Kd.R_reads' HO434.out).2.2|(with_reducible refine Kd.C_alloc ?_ _)|(with_reducible refine Kd.C_drewN ?_ _)|(with_reducible refine Kd.C_drew ?_)));(case side2=>exact (Kd.R_reads' HO434.out).2.1);(case side3=>repeat (first|exact (Kd.C_below HR4.out HB.out)|(with_reducible refine Kd.C_alloc ?_ _)|(with_reducible refine Kd.C_drewN ?_ _)|(with_reducible refine Kd.C_drew ?_)));(case side4=>exact HC4.out);rintro e w63 ⟨rfl,hb⟩;refine ⟨_,rfl,?_⟩;have n0_:=A0_ (Kd.R_below (rd_ HO434.out) hb);have n1_:=A0_ (below_step y0_ hb);clear HO434;clear HB;have HO434:=n0_;have HB:=n1_;clear n0_ n1_;(try clear hb);(try clear hb2);(try clear hk);(try clear hi)))
         go_ret
         exact ⟨y3_,y0_⟩
end Go.Proofs.YtaidphhkhddemaaGreatDoor.PSky
end
section
namespace Go.Proofs.YtaidphhkhddemaaGreatDoor.PSky
open Go.RowKit Go.Proofs.YtaidphhkhddemaaGreatDoorW.PrintWords Go.Proofs.YtaidphhkhddemaaGreatDoorW.PrintLast Go.Proofs.YtaidphhkhddemaaGreatDoorW.PrintMore
def okDays (l:List Int):Bool:=l.all okDay && okIn (l.length:Int) 1 6
theorem any_all3 (f:Int→Bool) (l:List Int):(!l.any (fun b=>!f b))=l.all f:=by
 induction l with
 |nil=>rfl
 |cons b t ih=>simp [ih]
theorem watchC1_eq (n:Int):sky_Watch_c1.f n=some (!okDay n):=by unfold sky_Watch_c1.f;rw [isDay_eq];rfl
theorem days_ev (l:List Int) (hl:l.length≤1000000):Ev (fun k=>cF_Watch_c1.f k l) (!l.all okDay):=by
 obtain ⟨r,hr,he⟩:=scan l (fun x=>!okDay x) (fun k i=>iF_Watch_c1.l0 k l (l.length:Int) (i:Int)) hl
  (fun i h hb=>by
   refine Ev.step (fun k=>by rw [iF_Watch_c1.l0]) ?_
   refine Ev.pos (by omega) (Ev.pos (by omega) (Ev.pos (by omega) ?_))
   rw [rd_nat l i h]
   refine Ev.bind (Ev.is (watchC1_eq _)) ?_
   rw [hb]
   exact Ev.pos rfl (Ev.now _))
  (fun i h hb r hr=>by
   refine Ev.step (fun k=>by rw [iF_Watch_c1.l0]) ?_
   refine Ev.pos (by omega) (Ev.pos (by omega) (Ev.pos (by omega) ?_))
   rw [rd_nat l i h]
   refine Ev.bind (Ev.is (watchC1_eq _)) ?_
   rw [hb]
   refine Ev.neg (by simp) ?_
   rw [wrap_id (by omega)]
   exact hr)
  (by
   refine Ev.step (fun k=>by rw [iF_Watch_c1.l0]) ?_
   exact Ev.neg (by omega) (Ev.now _)) l.length 0 (by omega)
 unfold cF_Watch_c1.f iF_Watch_c1.f
 refine Ev.bind hr ?_
 rw [he,← any_all3,Bool.not_not]
 exact Ev.now _
theorem refDays_ev (l:List Int) (hl:l.length≤1000000):Ev (fun k=>tr_Days.f k l) (okDays l):=by
 have key:∀ m i:Nat,i+m=l.length→Ev (fun k=>tr_Days.l0 k l (i:Int)) ((l.drop i).all okDay && okIn (l.length:Int) 1 6):=by
  intro m
  induction m with
  |zero=>
   intro i h
   rw [show i=l.length by omega,List.drop_length]
   refine Ev.step (fun k=>by rw [tr_Days.l0]) ?_
   refine Ev.neg (by omega) (Ev.bind (Ev.is (rin_eq _ _ _)) ?_)
   simp only [List.all_nil,Bool.true_and]
   exact Ev.now _
  |succ m ih=>
   intro i h
   have hi:i<l.length:=by omega
   rw [List.drop_eq_getElem_cons hi,List.all_cons]
   have ih':=ih (i+1) (by omega)
   refine Ev.step (fun k=>by rw [tr_Days.l0]) ?_
   rw [rd_nat l i hi,wrap_id (by omega)]
   refine Ev.pos (by omega) (Ev.pos (by omega) (Ev.bind (Ev.is (Day_eq _)) ?_))
   cases h1:okDay l[i] with
   |false=>exact Ev.neg (by simp) (Ev.now _)
   |true=>
    refine Ev.pos rfl ?_
    simp only [Bool.true_and]
    exact ih'
 exact key l.length 0 (by omega)
theorem tally_cons (q:Int) (ps:List Int) (p:Int):tally (q :: ps) p=tally ps p+(if q=p then 1 else 0):=by
 unfold tally
 by_cases h:q=p
 ·simp [h]
 ·simp [h]
theorem beforeN_cons (q:Int) (ps:List Int):∀ n:Nat,n≤21600→beforeN (q :: ps) n=beforeN ps n+(if 0≤q∧q<n then 1 else 0)
 |0,_=>by
  show (0:Int)=0+_
  rw [if_neg (by omega)]
  rfl
 |n+1,h=>by
  show beforeN (q :: ps) n+tally (q :: ps) ((n % 21600:Nat):Int)=beforeN ps n+tally ps ((n % 21600:Nat):Int)+_
  rw [beforeN_cons q ps n (by omega),tally_cons,Nat.mod_eq_of_lt (by omega)]
  split <;> split <;> split <;> omega
theorem beforeN_all:∀ ps:List Int,(∀ q∈ps,0≤q∧q<21600)→beforeN ps 21600=ps.length
 |[],_=>by
  have:∀ n,beforeN [] n=0:=fun n=>by
   induction n with
   |zero=>rfl
   |succ n ih=>show beforeN [] n+tally [] _=0;rw [ih];rfl
  exact this 21600
 |q :: ps,h=>by
  have h1:=h q (List.mem_cons_self ..)
  rw [beforeN_cons q ps 21600 (Nat.le_refl _),beforeN_all ps (fun x hx=>h x (List.mem_cons_of_mem _ hx)),if_pos (by omega)]
  simp
theorem beforeN_round (ps:List Int):∀ n:Nat,beforeN ps (n+21600)=beforeN ps n+beforeN ps 21600
 |0=>by
  rw [Nat.zero_add,show beforeN ps 0=0 from rfl]
  omega
 |n+1=>by
  have h1:beforeN ps (n+1+21600)=beforeN ps (n+21600)+tally ps (((n+21600) % 21600:Nat):Int):=by rw [Nat.add_right_comm];rfl
  have h2:beforeN ps (n+1)=beforeN ps n+tally ps ((n % 21600:Nat):Int):=rfl
  rw [h1,h2,beforeN_round ps n,Nat.add_mod_right]
  omega
theorem mostFrom_all {ps:List Int} (h:∀ q∈ps,0≤q∧q<21600):∀ n:Nat,mostFrom ps 21600 (n+1)=ps.length
 |0=>by
  show mx 0 (beforeN ps (0+21600) - beforeN ps 0)=_
  rw [beforeN_round,beforeN_all ps h]
  unfold mx
  split <;> omega
 |n+1=>by
  show mx (mostFrom ps 21600 (n+1)) (beforeN ps (n+1+21600) - beforeN ps (n+1))=_
  rw [beforeN_round,beforeN_all ps h,mostFrom_all h n]
  unfold mx
  split <;> omega
def spots (s d:Int) (l:List Int):List Int:=l.map fun v=>atOf s v d
theorem spots_in (s d:Int) (l:List Int):∀ q∈spots s d l,0≤q∧q<21600:=by
 intro q hq
 obtain ⟨v,-,rfl⟩:=List.mem_map.mp hq
 exact at_bounds s v d
def leftIs (s d off:Int) (l:List Int):Int:=mostFrom (spots s d l) (mn (2*off+1) 21600).toNat 21600
theorem left_eq {s d off:Int} (hs:0≤s∧s≤21599) (hd:0≤d∧d≤20000) (ho:0≤off∧off≤10800) {l:List Int} (hv:∀ v∈l,0≤v∧v≤1000000) (hl:l.length≤5001):sky_left.f s l d off=some (leftIs s d off l):=by
 have hp:placed s d l=true:=List.all_eq_true.mpr fun v h=>by
  rw [reached_eq hs (hv v h) hd]
  have:=at_bounds s v d
  simp [this.1,this.2]
 have hm:l.map (placeOf s d)=spots s d l:=List.map_congr_left fun v h=>by
  unfold placeOf
  rw [reached_eq hs (hv v h) hd]
  rfl
 unfold sky_left.f leftIs
 rw [if_pos ⟨hp,by omega,ho⟩,hm]
theorem tally_take {ps:List Int} {i:Nat} (h:i=ps.length) (p:Int):tally (ps.take i) p=tally ps p:=by rw [h,List.take_length]
theorem window_ev (ps many:List Int) (off:Int) (ho:0≤off∧off<10800) (hlen:ps.length≤5001) (hm1:many.length=21600) (hm:∀ p:Nat,p<21600→rd many (p:Int)=tally ps (p:Int)):
  ∀ m i:Nat,i+m=21600→Ev (fun k=>tr_Left.l2 k off many (beforeN ps (i+(2*off+1).toNat) - beforeN ps i) (mostFrom ps (2*off+1).toNat i) (i:Int)) (mostFrom ps (2*off+1).toNat 21600)
 |0,i,h=>by
  rw [show i=21600 by omega]
  refine Ev.step (fun k=>by rw [tr_Left.l2]) ?_
  exact Ev.neg (by omega) (Ev.now _)
 |m+1,i,h=>by
  have ih:=window_ev ps many off ho hlen hm1 hm m (i+1) (by omega)
  have hw:((2*off+1).toNat:Int)=2*off+1:=by omega
  generalize (2*off+1).toNat=W at ih hw
  have e1:wrap64 (wrap64 ((i:Int)+wrap64 (2*off))+1)=((i+W:Nat):Int):=by
   rw [wrap_id (show -9223372036854775808≤2*off∧2*off≤9223372036854775807 by omega),wrap_id (show -9223372036854775808≤(i:Int)+2*off∧(i:Int)+2*off≤9223372036854775807 by omega),wrap_id (by omega)]
   omega
  have e2:Int.tmod ((i+W:Nat):Int) 21600=(((i+W) % 21600:Nat):Int):=by
   rw [Int.tmod_eq_emod_of_nonneg (by omega)]
   rfl
  have hb1:=beforeN_le ps (i+W)
  have hb2:=beforeN_le ps i
  have hq:(i+W) % 21600<21600:=Nat.mod_lt _ (by omega)
  have t1:=tally_le ps (i:Int)
  have t2:=tally_le ps (((i+W) % 21600:Nat):Int)
  have c1:((i+W:Nat):Int)*(ps.length:Int)≤43200*5001:=Int.mul_le_mul (by omega) (by omega) (by omega) (by omega)
  have c2:(i:Int)*(ps.length:Int)≤43200*5001:=Int.mul_le_mul (by omega) (by omega) (by omega) (by omega)
  have s1:beforeN ps (i+1+W)=beforeN ps (i+W)+tally ps (((i+W) % 21600:Nat):Int):=by rw [Nat.add_right_comm];rfl
  have s2:beforeN ps (i+1)=beforeN ps i+tally ps (i:Int):=by
   show beforeN ps i+tally ps ((i % 21600:Nat):Int)=_
   rw [Nat.mod_eq_of_lt (by omega)]
  have s3:mostFrom ps W (i+1)=mx (mostFrom ps W i) (beforeN ps (i+W) - beforeN ps i):=rfl
  rw [s1,s2,s3] at ih
  refine Ev.step (fun k=>by rw [tr_Left.l2]) ?_
  rw [e1,e2,hm i (by omega),hm _ hq,wrap_id (show -9223372036854775808≤beforeN ps (i+W) - beforeN ps i - tally ps (i:Int)∧beforeN ps (i+W) - beforeN ps i - tally ps (i:Int)≤9223372036854775807 by omega),wrap_id (by omega),wrap_id (by omega)]
  refine Ev.pos (by omega) (Ev.pos (by omega) (Ev.pos (by omega) (Ev.pos (by omega) (Ev.pos (by omega) ?_))))
  rw [show beforeN ps (i+W) - beforeN ps i - tally ps (i:Int)+tally ps (((i+W) % 21600:Nat):Int)=beforeN ps (i+W)+tally ps (((i+W) % 21600:Nat):Int) - (beforeN ps i+tally ps (i:Int)) by omega]
  exact ih
theorem first_ev (ps many:List Int) (off:Int) (ho:0≤off∧off<10800) (hlen:ps.length≤5001) (hm1:many.length=21600) (hm:∀ p:Nat,p<21600→rd many (p:Int)=tally ps (p:Int)):
  ∀ m i:Nat,(i:Int)+m=2*off+1→Ev (fun k=>tr_Left.l1 k off many (beforeN ps i) 0 (i:Int)) (mostFrom ps (2*off+1).toNat 21600)
 |0,i,h=>by
  have:=window_ev ps many off ho hlen hm1 hm 21600 0 (by omega)
  refine Ev.step (fun k=>by rw [tr_Left.l1]) ?_
  rw [wrap_id (show -9223372036854775808≤2*off∧2*off≤9223372036854775807 by omega)]
  refine Ev.neg (by omega) ?_
  rw [Nat.zero_add,show (2*off+1).toNat=i by omega,show beforeN ps 0=0 from rfl,show mostFrom ps i 0=0 from rfl,Int.sub_zero] at this
  rw [show (2*off+1).toNat=i by omega]
  exact this
 |m+1,i,h=>by
  have ih:=first_ev ps many off ho hlen hm1 hm m (i+1) (by omega)
  have hb2:=beforeN_le ps i
  have t1:=tally_le ps (i:Int)
  have c2:(i:Int)*(ps.length:Int)≤43200*5001:=Int.mul_le_mul (by omega) (by omega) (by omega) (by omega)
  have s2:beforeN ps (i+1)=beforeN ps i+tally ps (i:Int):=by
   show beforeN ps i+tally ps ((i % 21600:Nat):Int)=_
   rw [Nat.mod_eq_of_lt (by omega)]
  rw [s2] at ih
  refine Ev.step (fun k=>by rw [tr_Left.l1]) ?_
  rw [wrap_id (show -9223372036854775808≤2*off∧2*off≤9223372036854775807 by omega),hm i (by omega),wrap_id (by omega),wrap_id (by omega)]
  exact Ev.pos (by omega) (Ev.pos (by omega) (Ev.pos (by omega) ih))
theorem rd_set {l:List Int} {j p:Nat} {v:Int} (hj:j<l.length) (hp:p<l.length):rd (l.set j v) (p:Int)=if j=p then v else rd l (p:Int):=by
 unfold rd
 rw [Int.toNat_natCast]
 by_cases h:j=p
 ·subst h
  simp [hj]
 ·simp [h,hp]
theorem many_ev {s d:Int} (hs:0≤s∧s≤21599) (hd:0≤d∧d≤20000) (l:List Int) (hv:∀ v∈l,0≤v∧v≤1000000) (hl:l.length≤5001) (off:Int) (ho:0≤off∧off<10800):
  ∀ (m i:Nat) (many:List Int),i+m=l.length→many.length=21600→(∀ p:Nat,p<21600→rd many (p:Int)=tally ((spots s d l).take i) (p:Int))→Ev (fun k=>tr_Left.l0 k s l d off many (i:Int)) (mostFrom (spots s d l) (2*off+1).toNat 21600)
 |0,i,many,h,hm1,hm=>by
  refine Ev.step (fun k=>by rw [tr_Left.l0]) ?_
  have hsl:(spots s d l).length=l.length:=by simp [spots]
  have:=first_ev (spots s d l) many off ho (by omega) hm1 (fun p hp=>by rw [hm p hp,tally_take (by omega)]) (2*off+1).toNat 0 (by omega)
  exact Ev.neg (by omega) this
 |m+1,i,many,h,hm1,hm=>by
  have hi:i<l.length:=by omega
  have hsl:(spots s d l).length=l.length:=by simp [spots]
  have hb:=at_bounds s l[i] d
  have hvi:=hv l[i] (List.getElem_mem hi)
  have hpi:(spots s d l)[i]'(by omega)=atOf s l[i] d:=by simp [spots]
  refine Ev.step (fun k=>by rw [tr_Left.l0]) ?_
  rw [rd_nat l i hi,wrap_id (show -9223372036854775808≤(i:Int)+1∧(i:Int)+1≤9223372036854775807 by omega)]
  refine Ev.pos (by omega) (Ev.pos (by omega) (Ev.bind (Ev.is (refat_eq hs hvi hd)) (Ev.pos (by omega) (Ev.pos (by omega) ?_))))
  have hq:((atOf s l[i] d).toNat:Int)=atOf s l[i] d:=by omega
  have ht:=tally_le ((spots s d l).take i) (atOf s l[i] d)
  have htl:((spots s d l).take i).length≤5001:=by simp;omega
  refine many_ev hs hd l hv hl off ho m (i+1) _ (by omega) (by simp [hm1]) (fun p hp=>?_)
  rw [rd_set (by omega) (by omega),tally_succ _ i (by omega),hpi,← hm p hp]
  by_cases hjp:(atOf s l[i] d).toNat=p
  ·have hjp':atOf s l[i] d=(p:Int):=by omega
   rw [if_pos hjp,if_pos hjp',hjp',hm p hp]
   rw [hjp'] at ht
   exact wrap_id (by omega)
  ·rw [if_neg hjp,if_neg (by omega)]
   omega
theorem refLeft_ev {s d off:Int} (hs:0≤s∧s≤21599) (hd:0≤d∧d≤20000) (ho:0≤off∧off≤10800) {l:List Int} (hv:∀ v∈l,0≤v∧v≤1000000) (hl:l.length≤5001):Ev (fun k=>tr_Left.f k s l d off) (leftIs s d off l):=by
 have hsl:(spots s d l).length=l.length:=by simp [spots]
 unfold tr_Left.f leftIs
 rw [wrap_id (show -9223372036854775808≤2*off∧2*off≤9223372036854775807 by omega),wrap_id (by omega)]
 by_cases h:2*off+1 ≥ 21600
 ·refine Ev.pos h ?_
  rw [show (mn (2*off+1) 21600).toNat=21600 by unfold mn;split <;> omega,mostFrom_all (spots_in s d l) 21599,hsl]
  exact Ev.now _
 ·refine Ev.neg h (Ev.pos (by omega) ?_)
  rw [show mn (2*off+1) 21600=2*off+1 by unfold mn;split <;> omega]
  refine many_ev hs hd l hv hl off (by omega) l.length 0 _ (by omega) List.length_replicate (fun p hp=>?_)
  rw [rd_nat _ p (by rw [List.length_replicate];exact hp),List.getElem_replicate]
  rfl
def pickOf (lf:Int→Int) (days:List Int):Nat→Int × Int
 |0=>(0,0)
 |n+1=>if n=0∨lf (rd days (n:Int))<(pickOf lf days n).2 then ((n:Int),lf (rd days (n:Int))) else pickOf lf days n
theorem rd_mem {l:List Int} {i:Nat} (h:i<l.length):rd l (i:Int)∈l:=by
 rw [rd_nat l i h]
 exact List.getElem_mem h
theorem refWatch_ev {s off:Int} {l days:List Int} (hd:days.length≤1000000) (hL:∀ d∈days,Ev (fun k=>tr_Left.f k s l d off) (leftIs s d off l)):Ev (fun k=>tr_Watch.f k s l days off) (pickOf (fun d=>leftIs s d off l) days days.length):=by
 have key:∀ m i:Nat,i+m=days.length→Ev (fun k=>tr_Watch.l0 k s l days off (pickOf (fun d=>leftIs s d off l) days i).1 (pickOf (fun d=>leftIs s d off l) days i).2 (i:Int)) (pickOf (fun d=>leftIs s d off l) days days.length):=by
  intro m
  induction m with
  |zero=>
   intro i h
   rw [show i=days.length by omega]
   refine Ev.step (fun k=>by rw [tr_Watch.l0]) ?_
   exact Ev.neg (by omega) (Ev.now _)
  |succ m ih=>
   intro i h
   have ih':=ih (i+1) (by omega)
   have hp:pickOf (fun d=>leftIs s d off l) days (i+1)=if i=0∨leftIs s (rd days (i:Int)) off l<(pickOf (fun d=>leftIs s d off l) days i).2 then ((i:Int),leftIs s (rd days (i:Int)) off l) else pickOf (fun d=>leftIs s d off l) days i:=rfl
   rw [hp] at ih'
   refine Ev.step (fun k=>by rw [tr_Watch.l0]) ?_
   rw [wrap_id (show -9223372036854775808≤(i:Int)+1∧(i:Int)+1≤9223372036854775807 by omega)]
   refine Ev.pos (by omega) (Ev.pos (by omega) (Ev.bind (hL _ (rd_mem (by omega))) ?_))
   by_cases h0:i=0
   ·rw [if_pos (Or.inl h0)] at ih'
    exact Ev.pos (by omega) ih'
   ·refine Ev.neg (by omega) ?_
    by_cases hlt:leftIs s (rd days (i:Int)) off l<(pickOf (fun d=>leftIs s d off l) days i).2
    ·rw [if_pos (Or.inr hlt)] at ih'
     exact Ev.pos hlt ih'
    ·rw [if_neg (by simp [h0,hlt])] at ih'
     exact Ev.neg hlt ih'
 exact key days.length 0 (by omega)
theorem watch_at (s:Int) (l:List Int) (off:Int) (days:List Int) (n i:Nat) (h:i<n):rd_T105 (watchList s l off days n) (i:Int)=⟨(i:Int),leftOf s l off (rd days (i:Int))⟩:=by
 unfold rd_T105 watchList
 simp [h]
theorem best_ev {s off:Int} {l days:List Int} (hd:days.length≤1000000) (hL:∀ d∈days,leftOf s l off d=leftIs s d off l):Ev (fun k=>at_best_Watch_c3.f k (watchList s l off days days.length)) (pickOf (fun d=>leftIs s d off l) days days.length):=by
 have hwl:=watchList_length s l off days days.length
 have key:∀ m i:Nat,i+m=days.length→Ev (fun k=>at_best_Watch_c3.l0 k (watchList s l off days days.length) (days.length:Int) (i:Int) (pickOf (fun d=>leftIs s d off l) days i).1 (pickOf (fun d=>leftIs s d off l) days i).2) (pickOf (fun d=>leftIs s d off l) days days.length):=by
  intro m
  induction m with
  |zero=>
   intro i h
   rw [show i=days.length by omega]
   refine Ev.step (fun k=>by rw [at_best_Watch_c3.l0]) ?_
   exact Ev.neg (by omega) (Ev.now _)
  |succ m ih=>
   intro i h
   have ih':=ih (i+1) (by omega)
   have hp:pickOf (fun d=>leftIs s d off l) days (i+1)=if i=0∨leftIs s (rd days (i:Int)) off l<(pickOf (fun d=>leftIs s d off l) days i).2 then ((i:Int),leftIs s (rd days (i:Int)) off l) else pickOf (fun d=>leftIs s d off l) days i:=rfl
   rw [hp] at ih'
   refine Ev.step (fun k=>by rw [at_best_Watch_c3.l0]) ?_
   rw [wrap_id (show -9223372036854775808≤(i:Int)+1∧(i:Int)+1≤9223372036854775807 by omega),watch_at s l off days days.length i (by omega),hwl,hL _ (rd_mem (by omega))]
   refine Ev.pos (by omega) (Ev.pos (by omega) (Ev.pos (by omega) ?_))
   by_cases h0:i=0
   ·rw [if_pos (Or.inl h0)] at ih'
    exact Ev.pos (by omega) ih'
   ·refine Ev.neg (by omega) (Ev.bind (Ev.now _) ?_)
    by_cases hlt:leftIs s (rd days (i:Int)) off l<(pickOf (fun d=>leftIs s d off l) days i).2
    ·rw [if_pos (Or.inr hlt)] at ih'
     exact Ev.pos (decide_eq_true hlt) ih'
    ·rw [if_neg (by simp [h0,hlt])] at ih'
     exact Ev.neg (by simp [hlt]) ih'
 have:=key days.length 0 (by omega)
 unfold at_best_Watch_c3.f
 rw [hwl]
 exact this
end Go.Proofs.YtaidphhkhddemaaGreatDoor.PSky
end
section
namespace Go.Proofs.YtaidphhkhddemaaGreatDoor.PSky
open Go.RowKit Go.Proofs.YtaidphhkhddemaaGreatDoorW.PrintWords Go.Proofs.YtaidphhkhddemaaGreatDoorW.PrintLast Go.Proofs.YtaidphhkhddemaaGreatDoorW.PrintMore
theorem speeds_in {s:Int} {l:List S89} {a b:Int} (hr:okRange a b=true):∀ v∈speedsOf s l a b,0≤v∧v≤1000000:=by
 intro v hv
 have h1:=(List.mem_filter.mp hv).1
 have hr':=range_of hr
 obtain ⟨j,hj,rfl⟩:=List.mem_map.mp h1
 have:=List.mem_range.mp hj
 omega
theorem day_of {n:Int} (h:okDay n=true):0≤n∧n≤20000:=by simp only [okDay,okIn_iff] at h;exact h
theorem off_of {n:Int} (h:okOff n=true):0≤n∧n≤10800:=by simp only [okOff,okIn_iff] at h;exact h
theorem days_of {l:List Int} (h:okDays l=true):(∀ d∈l,0≤d∧d≤20000)∧l.length≤6:=by
 simp only [okDays,Bool.and_eq_true,okIn_iff] at h
 exact ⟨fun d hd=>day_of (List.all_eq_true.mp h.1 d hd),by omega⟩
theorem leftOf_eq {s d off:Int} (hs:0≤s∧s≤21599) (hd:0≤d∧d≤20000) (ho:0≤off∧off≤10800) {l:List Int} (hv:∀ v∈l,0≤v∧v≤1000000) (hl:l.length≤5001):leftOf s l off d=leftIs s d off l:=by
 unfold leftOf
 rw [left_eq hs hd ho hv hl]
 rfl
def watchOf (s:Int) (l:List S89) (a b:Int) (ds:List Int) (o:Int):Int × Int:=pickOf (fun d=>leftIs s d o (speedsOf s l a b)) ds ds.length
theorem Watch_ev (s:Int) (l:List S89) (a b:Int) (ds:List Int) (o:Int) (hd:ds.length≤1000000):Ev (fun k=>sky_Watch.f k s l a b ds o) (if ((okPlace s && (okNotes l && okRange a b)) && (okDays ds && okOff o))=true then (if speedsOf s l a b=[] then (0,0,5) else ((watchOf s l a b ds o).1,(watchOf s l a b ds o).2,0)) else (0,0,2)):=by
 unfold sky_Watch.f
 refine Ev.bind (areNotes_ev s l a b) ?_
 cases h:(okPlace s && (okNotes l && okRange a b)) with
 |false=>rw [if_neg (by simp)];exact Ev.neg (by simp) (Ev.now _)
 |true=>
  refine Ev.pos rfl (Ev.bind (Ev.is (in_eq _ _ _)) ?_)
  cases h1:okIn (ds.length:Int) 1 6 with
  |false=>rw [if_neg (by simp [okDays,h1])];exact Ev.neg (by simp) (Ev.now _)
  |true=>
   refine Ev.pos rfl (Ev.bind (days_ev ds hd) ?_)
   cases h2:ds.all okDay with
   |false=>rw [if_neg (by simp only [okDays,h2];simp)];exact Ev.neg (by simp) (Ev.now _)
   |true=>
    refine Ev.pos rfl (Ev.bind (Ev.is (isOff_eq o)) ?_)
    cases h3:okOff o with
    |false=>rw [if_neg (by simp)];exact Ev.neg (by simp) (Ev.now _)
    |true=>
     have hds:okDays ds=true:=by unfold okDays;rw [h1,h2];rfl
     rw [if_pos (by rw [hds];rfl)]
     simp only [Bool.and_eq_true] at h
     refine Ev.pos rfl (Ev.bind (agreeing_ev h.1 h.2.1 h.2.2) ?_)
     by_cases h0:speedsOf s l a b=[]
     ·refine Ev.pos h0 ?_
      rw [if_pos h0]
      exact Ev.now _
     ·have hlen:=speeds_length (s:=s) (l:=l) h.2.2
      have hin:=speeds_in (s:=s) (l:=l) h.2.2
      have hd':=days_of hds
      refine Ev.neg h0 ?_
      rw [if_neg h0]
      refine Ev.pos (fun d hd1=>?_) (Ev.bind (best_ev (by omega) (fun d hd1=>leftOf_eq (place_of2 h.1) (hd'.1 d hd1) (off_of h3) hin hlen)) (Ev.now _))
      rw [left_eq (place_of2 h.1) (hd'.1 d hd1) (off_of h3) hin hlen]
      rfl
theorem SkyWatches_ev (s:Int) (l:List S89) (a b:Int) (ds:List Int) (o:Int):Ev (fun k=>tl_SkyWatches.f k s l a b ds o) true:=by
 unfold tl_SkyWatches.f
 have off_:∀ c:Bool,c=true→Ev (fun k=>tl_SkyWatches.j0 k s l a b ds o c) true:=fun c hc=>by
  refine Ev.step (fun k=>by rw [tl_SkyWatches.j0]) ?_
  exact Ev.pos hc known_ev
 refine Ev.bind (Ev.is (few_eq l)) ?_
 by_cases hf:(l.length:Int)≤8
 ·rw [decide_eq_true hf]
  refine Ev.pos rfl ?_
  by_cases h8:(ds.length:Int) > 8
  ·exact off_ _ (decide_eq_true h8)
  ·rw [decide_eq_false h8]
   have bad:∀ c:Bool,c=true→Ev (fun k=>tl_SkyWatches.j1 k s l a b ds o 0 0 2 c) true:=fun c hc=>by
    refine Ev.step (fun k=>by rw [tl_SkyWatches.j1]) ?_
    exact Ev.pos hc (Ev.pos rfl (Ev.pos rfl (Ev.pos rfl known_ev)))
   refine Ev.step (fun k=>by rw [tl_SkyWatches.j0]) ?_
   refine Ev.neg (by simp) (Ev.bind (Watch_ev s l a b ds o (by omega)) (Ev.bind (Ev.is (Spot_eq s)) ?_))
   cases h1:okPlace s with
   |false=>rw [if_neg (by simp)];exact Ev.neg (by simp) (bad _ rfl)
   |true=>
    refine Ev.pos rfl (Ev.bind (refNotes_ev l (by omega)) ?_)
    cases h2:okNotes l with
    |false=>rw [if_neg (by simp)];exact Ev.neg (by simp) (bad _ rfl)
    |true=>
     refine Ev.pos rfl (Ev.bind (Ev.is (Range_eq a b)) ?_)
     cases h3:okRange a b with
     |false=>rw [if_neg (by simp)];exact Ev.neg (by simp) (bad _ rfl)
     |true=>
      refine Ev.pos rfl (Ev.bind (refDays_ev ds (by omega)) ?_)
      cases h4:okDays ds with
      |false=>rw [if_neg (by simp)];exact Ev.neg (by simp) (bad _ rfl)
      |true=>
       refine Ev.pos rfl (Ev.bind (Ev.is (Off_eq o)) ?_)
       cases h5:okOff o with
       |false=>rw [if_neg (by simp)];exact bad _ rfl
       |true=>
        rw [if_pos (show ((true && (true && true)) && (true && true))=true from rfl)]
        have hlen:=speeds_length (s:=s) (l:=l) h3
        have hin:=speeds_in (s:=s) (l:=l) h3
        have hd':=days_of h4
        by_cases h0:speedsOf s l a b=[]
        ·rw [if_pos h0]
         refine Ev.step (fun k=>by rw [tl_SkyWatches.j1]) ?_
         refine Ev.neg (by simp) (Ev.bind (refSpeeds_ev h1 h2 h3) ?_)
         exact Ev.pos (by rw [h0];rfl) (Ev.pos rfl (Ev.pos rfl (Ev.pos rfl known_ev)))
        ·rw [if_neg h0]
         have hp:0<(speedsOf s l a b).length:=List.length_pos_iff.mpr h0
         refine Ev.step (fun k=>by rw [tl_SkyWatches.j1]) ?_
         refine Ev.neg (by simp) (Ev.bind (refSpeeds_ev h1 h2 h3) (Ev.neg (by omega) (Ev.bind (refWatch_ev (by omega) (fun d hd1=>refLeft_ev (place_of2 h1) (hd'.1 d hd1) (off_of h5) hin hlen)) ?_)))
         exact Ev.pos rfl (Ev.pos rfl (Ev.pos rfl known_ev))
 ·rw [decide_eq_false hf]
  exact Ev.neg (by simp) (off_ _ rfl)
end Go.Proofs.YtaidphhkhddemaaGreatDoor.PSky
end
section
namespace Go.Proofs.YtaidphhkhddemaaGreatDoor
open Go.ChangeShapes Go.WideShapes Go.ChangeAt Go.RowKit
set_option maxRecDepth 100000 in
set_option maxHeartbeats 1600000 in
theorem skyWatches_lifted (os:Os) (started:os.Started) (H:Type) (enc:TypeId × Value→H) (F:Stop.Interp):
  ReturnsInHanded {} Tryz.checked os 7 .any ((OpenSpec.ofChange Rows.skyWatchesSpec).preRow enc Tryz.prog Tryz.f7 Rows.skyWatchesRow.domain false Rows.skyWatchesRow.laid) (((OpenSpec.ofChange Rows.skyWatchesSpec).at F).post enc Tryz.prog Tryz.f7 false true false false):=by
 refine returnsInHanded_of_row (C:=Tryz.checked) (s:=OpenSpec.ofChange Rows.skyWatchesSpec) own started (by kernel_rfl) Tryz.func7
  (witness_row_at (enc:=enc) (C:=Tryz.checked) false (laidWorld os) #[.int .i64 0,.slice none 0 0,.int .i64 0,.int .i64 0,.slice none 0 0,.int .i64 0] rfl (by kernel_rfl) (by kernel_rfl) (by kernel_rfl) (OpenSpec.preRow_of_B rfl 8 (by kernel_rfl) (by kernel_rfl) (laid_met os _))) ?_
 intro W base args ds gs before hval0 hW _ _ hsz0 hL hsh _
 have hval:∀ (j:Nat) t v,Tryz.f7.params[j]?=some t→args[j]?=some v→Value.okWide Tryz.prog W .any base t v:=hval0
 have hW':=hW
 obtain ⟨p,q,hA0,hV,rfl,hfz,hnd⟩:=hW
 have hA:DataW.TrodAll enc Tryz.prog W 0 (fun _=>true) true Tryz.f7.params.toList args.toList ds p:=hA0
 rw [Tryz.params7] at hA hval
 obtain ⟨v0,vs0,d0,ds0,p0,q0,hargs,rfl,rfl,h0,r0⟩:=trodAll_cons hA
 obtain ⟨v1,vs1,d1,ds1,p1,q1,rfl,rfl,rfl,h1,r1⟩:=trodAll_cons r0
 obtain ⟨v2,vs2,d2,ds2,p2,q2,rfl,rfl,rfl,h2,r2⟩:=trodAll_cons r1
 obtain ⟨v3,vs3,d3,ds3,p3,q3,rfl,rfl,rfl,h3,r3⟩:=trodAll_cons r2
 obtain ⟨v4,vs4,d4,ds4,p4,q4,rfl,rfl,rfl,h4,r4⟩:=trodAll_cons r3
 obtain ⟨v5,vs5,d5,ds5,p5,q5,rfl,rfl,rfl,h5,r5⟩:=trodAll_cons r4
 obtain ⟨rfl,rfl,rfl⟩:=trodAll_nil r5
 obtain rfl:args=#[v0,v1,v2,v3,v4,v5]:=by cases args;simp_all
 obtain ⟨rfl,rfl⟩:=trodVars_none hV
 obtain ⟨x0,rfl,rfl,rfl,w0⟩:=open_int Tryz.underlying3 (hval 0 3 v0 rfl rfl) h0
 have k1:=h1
 have lt1:∀ x∈p1,x.block<W.heap.size:=by obtain ⟨m,hm⟩:=k1;exact DataW.trod_lt m _ _ _ hm
 obtain ⟨fuel1,hf1⟩:=h1
 obtain ⟨s1,n1,m1,rfl⟩:=okWide_slice Tryz.underlying57 (hval 1 57 v1 rfl rfl)
 obtain ⟨A1,c1,l1,hcs1,hlc1,hC1⟩:=PSky.open_notes hf1
 obtain ⟨rfl,rfl,rfl⟩:A1=s1∧l1.length=n1∧c1=m1:=by have hcs:s1=A1∧n1=l1.length∧m1=c1:=by { simpa [Value.cells] using hcs1 };exact ⟨hcs.1.symm,hcs.2.1.symm,hcs.2.2.symm⟩
 obtain ⟨x2,rfl,rfl,rfl,w2⟩:=open_int Tryz.underlying3 (hval 2 3 v2 rfl rfl) h2
 obtain ⟨x3,rfl,rfl,rfl,w3⟩:=open_int Tryz.underlying3 (hval 3 3 v3 rfl rfl) h3
 have k4:=h4
 have lt4:∀ x∈p4,x.block<W.heap.size:=by obtain ⟨m,hm⟩:=k4;exact DataW.trod_lt m _ _ _ hm
 obtain ⟨fuel4,hf4⟩:=h4
 obtain ⟨s4,n4,m4,rfl⟩:=okWide_slice Tryz.underlying63 (hval 4 63 v4 rfl rfl)
 obtain ⟨A4,c4,l4,hcs4,hlc4,hC4⟩:=PSky.open_ints hf4
 obtain ⟨rfl,rfl,rfl⟩:A4=s4∧l4.length=n4∧c4=m4:=by have hcs:s4=A4∧n4=l4.length∧m4=c4:=by { simpa [Value.cells] using hcs4 };exact ⟨hcs.1.symm,hcs.2.1.symm,hcs.2.2.symm⟩
 obtain ⟨x5,rfl,rfl,rfl,w5⟩:=open_int Tryz.underlying3 (hval 5 3 v5 rfl rfl) h5
 obtain ⟨k,hk⟩:=(PSky.SkyWatches_ev x0 l1 x2 x3 l4 x5).rounds
 have hld:=ld_of hL hsh
 clear hA0 hval0 hsz0 hA hval hL hsh
 refine (PSky.tl_SkyWatches.calls k x0 A1 c1 l1 x2 x3 A4 c4 l4 x5 true W hC1 hlc1 hC4 hlc4 hk hld).mono fun e W' ⟨he,bel⟩=>?_
 subst he
 exact ⟨_,rfl,_,_,_,[],_,[],hW',trodAll_mk1 (shut_bool Tryz.underlying4 _),(trodAll_cons_mk (shut_int Tryz.underlying3 w0) (trodAll_cons_mk (Below.trod laidOut (by kernel_rfl) (of_decide_eq_true (by kernel_rfl)) k1 bel lt1) (trodAll_cons_mk (shut_int Tryz.underlying3 w2) (trodAll_cons_mk (shut_int Tryz.underlying3 w3) (trodAll_cons_mk (Below.trod laidOut (by kernel_rfl) (of_decide_eq_true (by kernel_rfl)) k4 bel lt4) (trodAll_cons_mk (shut_int Tryz.underlying3 w5) trodAll_mk0)))))),rfl,bel.frame _,fun h=>by cases h⟩
theorem skyWatches_holds:Rows.SkyWatchesSaid:=
 OpenClaim.holds_of_wide 7 Tryz.f7 rfl rfl rfl rfl rfl rfl rfl ⟨rfl,rfl,rfl,rfl,rfl⟩ rfl rfl rfl rfl rfl (by kernel_rfl) Tryz.func7 (by kernel_rfl)
  (of_decide_eq_true (by kernel_rfl)) PSky.y38_
  (fun os started H enc _=>skyWatches_lifted os started H enc (fun _ _ _=>0))
end Go.Proofs.YtaidphhkhddemaaGreatDoor
end
