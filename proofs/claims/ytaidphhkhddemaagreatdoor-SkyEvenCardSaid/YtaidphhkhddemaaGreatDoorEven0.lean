/- A part of the proof of a law of the layer sky. -/
import Derived.ArgAppend
import Derived.Below
import Derived.BigQuiet
import Derived.ChangeSame
import Derived.Deep.AppendLies
import Derived.Deep.CutBlock
import Derived.Deep.DeepCutAuto
import Derived.Deep.DeepHandedRow
import Derived.Deep.Draws
import Derived.Deep.LoopGhost
import Derived.Deep.OwnRows
import Derived.Deep.QuietTactic
import Derived.Deep.RegionHeld3
import Derived.Deep.RegionLaw
import Derived.Deep.Slices
import Derived.Deep.Strs
import Derived.Defers
import Derived.KernelRfl
import Derived.LaidMore
import Derived.Laws.BitsLemmas
import Derived.Laws.BytesArg
import Derived.Laws.Entries
import Derived.Laws.IdiomCopy
import Derived.Laws.LoneSync
import Derived.Laws.MakeOwn
import Derived.Laws.NewBlocks
import Derived.Laws.OwnMore
import Derived.Laws.Pointers
import Derived.Laws.Rows
import Derived.Laws.Slices
import Derived.Laws.StructEq
import Derived.Lib.AppendStr
import Derived.Lib.ConvBytes
import Derived.Lib.LaidTab
import Derived.Lib.OthersKept
import Derived.Lib.SplitLaws
import Derived.LoopIn
import Derived.LoopN
import Derived.LoopNIn
import Derived.Maps.AppendAt
import Derived.Maps.Own
import Derived.Maps.OwnOps
import Derived.Maps.OwnSet
import Derived.Maps.Views
import Derived.OpenShut
import Derived.OrdersHeld
import Derived.Outline
import Derived.OwnWalk
import Derived.OwnWalkIn
import Derived.ProofKit
import Derived.RangeFuncBound
import Derived.RangeFuncBox
import Derived.RangeFuncCalls
import Derived.RangeFuncLeaves
import Derived.RangeFuncNested
import Derived.Recover
import Derived.RowKit
import Derived.RowKit3
import Derived.Scope
import Derived.SevenTiedAt
import Derived.Shelf.Abstract
import Derived.Shelf.LaysM
import Derived.Shelf.RegionOpen
import Derived.Shelf.Strconv.Itoa0
import Derived.Shelf.Strconv.Itoa1
import Derived.Shelf.Strconv.Itoa2
import Derived.Shelf.Strconv.Itoa3
import Derived.Shelf.Strings.Builder1
import Derived.Shelf.Strings.Builder2
import Derived.Shelf.Strings.Count
import Derived.Shelf.Strings.OnBuilder
import Derived.Shelf.Strings.Prefix
import Derived.Shelf.Strings.Search1
import Derived.Shelf.Strings.Search2
import Derived.Shelf.Strings.Search3
import Derived.Shelf.Strings.Shaped
import Derived.Shelf.Strings.Split
import Derived.Shelf.Unicode.DecodeSlow
import Derived.SizedLaws
import Derived.StillTactics
import Derived.Stop.Joined
import Derived.Stop.LaidErr
import Derived.Tactics
import Derived.TacticsInMore
import Derived.WalkKit
import Derived.WideLaws
import Derived.Test.YtaidphhkhddemaaGreatDoorZ6
section
namespace Go.Proofs.YtaidphhkhddemaaGreatDoor.PSky
open Go.RowKit Go.Proofs.YtaidphhkhddemaaGreatDoorW.PrintWords Go.Proofs.YtaidphhkhddemaaGreatDoorW.PrintLast Go.Proofs.YtaidphhkhddemaaGreatDoorW.PrintMore
attribute [local go_sem] max2_int min2_int max_two min_two max_three min_three max_four min_four
set_option linter.unusedVariables false
set_option linter.unusedSimpArgs false
mutual
def tl_short.l0:Nat→Int→List (S83)→Int→Int→Int→Option (Bool)
 |0,_,_,_,_,_=>none
 |k+1,x3,x102000,x102001,x102002,x102003=>if x3<(x102000.length:Int) then (tl_short.j1 k x3 (decide (x3<7)) x102000 x102001 x102002 x102003) else (tl_short.j1 k x3 false x102000 x102001 x102002 x102003)
def tl_short.j1:Nat→Int→Bool→List (S83)→Int→Int→Int→Option (Bool)
 |0,_,_,_,_,_,_=>none
 |k+1,x3,x12,x102000,x102001,x102002,x102003=>if x12=true then (if 0≤x3 then (if x3<(x102000.length:Int) then (if (((rd_T83 x102000 x3).f2).length:Int) > 10 then (some false) else (tl_short.l0 k (wrap64 (x3+1)) x102000 x102001 x102002 x102003)) else (none)) else (none)) else (some (decide ((x102000.length:Int)≤6)))
end
def tl_short.f (k:Nat) (l0_0:List (S83)) (a0_1:Int) (a0_2:Int) (a0_3:Int):Option (Bool):=tl_short.l0 k 0 l0_0 a0_1 a0_2 a0_3
set_option maxHeartbeats 8000000 in
set_option maxRecDepth 100000 in
theorem tl_short.calls (k:Nat) (A0_0:Option Addr) (c0_0:Nat) (l0_0:List (S83)) (a0_1:Int) (a0_2:Int) (a0_3:Int) (r:Bool) (w:World) (hr0_0:Kd.C k83 w A0_0 l0_0.length l0_0) (hc0_0:l0_0.length≤c0_0) (h:tl_short.f k l0_0 a0_1 a0_2 a0_3=some r):
  Calls Tryz.prog 10 #[.agg #[.slice A0_0 l0_0.length c0_0,.int .i64 a0_1,.int .i64 a0_2,.int .i64 a0_3]] w fun e w'=>e=.returned (.bool r)∧Below w.heap.size w w':=by
 have hu28:=Tryz.underlying28
 have HR0_0:=A0_ hr0_0;have HC0_0:=A0_ hc0_0;clear hr0_0 hc0_0
 have HB:=A0_ (Below.refl w.heap.size w)
 have H:(tl_short.l0 k 0 l0_0 a0_1 a0_2 a0_3)=some r:=h
 clear h
 have H':=A0_ H
 clear H
 go_enter Tryz.func10,Tryz.ntmps10
 go_wp2_with (first|((with_reducible refine gate_dst (N:=1) rfl ?_);refine box_event ?hg (N:=1) ?hd (cs:=#[.slice A0_0 l0_0.length c0_0,.int .i64 a0_1,.int .i64 a0_2,.int .i64 a0_3]) (t:=28) ?hr ?_;(case hd=>rfl);(case hg=>rfl);(case hr=>first|(go_simp;done)|(go_simp;rfl));intro gb101 hg w2 hbox hb;have n0_:=A0_ (below_step y0_ hb);have n1_:=A0_ (hbox);have n2_:=A0_ ((by rw [hg];exact (below_size y0_):w.heap.size≤gb101));have n3_:=A0_ ((by rw [hg];exact (below_size y0_):w.heap.size≤gb101));clear HB;have HB:=n0_;have BK101:=n1_;have GW101:=n2_;have GE101:=n3_;clear n0_ n1_ n2_ n3_;clear hb hbox hg))
 go_loopg [3] k (fun kq v3 w'=>∃ (x3_1:Int),v3=.int .i64 x3_1∧Aside0 (tl_short.l0 kq x3_1 l0_0 a0_1 a0_2 a0_3=some r)∧Aside0 (kq≤k)∧Aside0 (w'.heap[gb101]?=some (.cells #[(.slice A0_0 l0_0.length c0_0),.int .i64 a0_1,.int .i64 a0_2,.int .i64 a0_3] 28 (0,0)))∧Aside0 (Below w.heap.size w w'))
 case atStart=>exact ⟨(0),y4_,H',⟨Nat.le_refl _⟩,⟨by (with_reducible repeat (first|refine blk_drewN ?_ _|refine blk_drew ?_|refine blk_alloc ?_ _));exact BK101.out⟩,⟨y2e_⟩⟩
 case round=>
  clear H'
  (try clear c1);(try clear p2)
  obtain ⟨x3_1,rfl,HA,HK1,BK101,HB⟩:=hrel
  cases gk with
  |zero=>exact absurd HA.out (by simp [tl_short.l0])
  |succ k1=>
   have H:=HA.out
   clear HA
   simp only [tl_short.l0] at H
   have HC3:=A0_ H;clear H
   go_upto_region 2 with (fail)
   go_cut [12] (fun v12 wc=>∃ (kq:Nat) (x12_2:Bool),v12=.bool x12_2∧Aside0 (tl_short.j1 kq x3_1 x12_2 l0_0 a0_1 a0_2 a0_3=some r)∧Aside0 (kq≤k1)∧Aside0 (wc.heap[gb101]?=some (.cells #[(.slice A0_0 l0_0.length c0_0),.int .i64 a0_1,.int .i64 a0_2,.int .i64 a0_3] 28 (0,0)))∧Aside0 (Below w.heap.size w wc))
   case first=>
    have H:=HC3.out
    clear HC3
    by_cases c4:x3_1<(l0_0.length:Int)
    ·rw [if_pos c4] at H;have c4b0:decide (x3_1<(l0_0.length:Int))=true:=decide_eq_true c4;clear c4
     (first|rw [c4b0]|(simp only [i64_w,i32_w];rw [c4b0])|skip)
     have H':=A0_ H
     clear H;obtain ⟨hcz5_0,hcz5_1,hcz5_2,hcz5_3,hfz5_0,hfz5_1,hfz5_2,hfz5_3⟩:=bq4_ BK101.out;go_wp2
     go_meet
     case rel=>exact ⟨_,(decide (x3_1<7)),y4_,H',⟨by have:=HK1.out;first|omega|exact Nat.le_refl _⟩,⟨by (with_reducible repeat (first|refine blk_drewN ?_ _|refine blk_drew ?_|refine blk_alloc ?_ _));exact BK101.out⟩,⟨y2e_⟩⟩
    ·rw [if_neg c4] at H;have c4b0:decide (x3_1<(l0_0.length:Int))=false:=decide_eq_false c4;clear c4
     (first|rw [c4b0]|(simp only [i64_w,i32_w];rw [c4b0])|skip)
     have H':=A0_ H
     clear H;obtain ⟨hcz6_0,hcz6_1,hcz6_2,hcz6_3,hfz6_0,hfz6_1,hfz6_2,hfz6_3⟩:=bq4_ BK101.out;go_wp2
     go_meet
     case rel=>exact ⟨_,(false),y4_,H',⟨by have:=HK1.out;first|omega|exact Nat.le_refl _⟩,⟨by (with_reducible repeat (first|refine blk_drewN ?_ _|refine blk_drew ?_|refine blk_alloc ?_ _));exact BK101.out⟩,⟨y2e_⟩⟩
   case rest=>
    clear HC3;(try clear c1);(try clear p2);(try clear c4);(try clear c4b0);(try clear hcz5_0);(try clear hcz5_1);(try clear hcz5_2);(try clear hcz5_3);(try clear hcz6_0);(try clear hcz6_1);(try clear hcz6_2);(try clear hcz6_3);(try clear hfz5_0);(try clear hfz5_1);(try clear hfz5_2);(try clear hfz5_3);(try clear hfz6_0);(try clear hfz6_1);(try clear hfz6_2);(try clear hfz6_3);(try clear p2)
    obtain ⟨kq,x12_2,rfl,HA,HJ2,BK101,HB⟩:=hcut
    cases kq with
    |zero=>exact absurd HA.out (by simp [tl_short.j1])
    |succ kj2=>
     have H:=HA.out
     clear HA
     simp only [tl_short.j1] at H
     by_cases c7:x12_2=true
     ·subst c7
      have H1:(if 0≤x3_1 then (if x3_1<(l0_0.length:Int) then (if (((rd_T83 l0_0 x3_1).f2).length:Int) > 10 then (some false) else (tl_short.l0 kj2 (wrap64 (x3_1+1)) l0_0 a0_1 a0_2 a0_3)) else (none)) else (none))=some r:=by rw [if_pos rfl] at H;exact H
      clear H;have H:=H1;clear H1
      by_cases c8:0≤x3_1
      ·rw [if_pos c8] at H;have c8b0:decide (0≤x3_1)=true:=decide_eq_true c8;clear c8
       by_cases c9:x3_1<(l0_0.length:Int)
       ·rw [if_pos c9] at H;have c9b0:decide (x3_1<(l0_0.length:Int))=true:=decide_eq_true c9;clear c9
        by_cases c10:(((rd_T83 l0_0 x3_1).f2).length:Int) > 10
        ·rw [if_pos c10] at H;have c10b0:decide (10<(((rd_T83 l0_0 x3_1).f2).length:Int))=true:=decide_eq_true c10
         have c10b1:decide (10<((rd_T83 l0_0 x3_1).f2).length)=true:=decide_eq_true (by omega)
         clear c10;obtain rfl:=Option.some.inj H;obtain ⟨hcz11_0,hcz11_1,hcz11_2,hcz11_3,hfz11_0,hfz11_1,hfz11_2,hfz11_3⟩:=bq4_ BK101.out
         have p102:0≤(x3_1:Int):=of_decide_eq_true y2_
         have q102:x3_1<(l0_0.length:Int):=of_decide_eq_true y2_
         obtain ⟨ad102,A102_3,c102_3,e102,hx102_0,hx102_1,hx102_2,hx102_3,hl102_3,hi102_3⟩:=at_T83 HR0_0.out x3_1 p102 q102
         cases e102
         replace hx102_0:=(HB.out.cell (World.block_lt_of_cell? w _ hx102_0)).trans hx102_0
         replace hx102_1:=(HB.out.cell (World.block_lt_of_cell? w _ hx102_1)).trans hx102_1
         replace hx102_2:=(HB.out.cell (World.block_lt_of_cell? w _ hx102_2)).trans hx102_2
         replace hx102_3:=(HB.out.cell (World.block_lt_of_cell? w _ hx102_3)).trans hx102_3
         have HR102_3:=A0_ hi102_3;have HC102_3:=A0_ hl102_3;clear hi102_3 hl102_3
         replace p102:=eq_true p102
         replace q102:=eq_true q102
         go_wp2;go_ret
         exact ⟨y3_,y2e_⟩
        ·rw [if_neg c10] at H;have c10b0:decide (10<(((rd_T83 l0_0 x3_1).f2).length:Int))=false:=decide_eq_false c10
         have c10b1:decide (10<((rd_T83 l0_0 x3_1).f2).length)=false:=decide_eq_false (by omega)
         clear c10
         have H':=A0_ H
         clear H;obtain ⟨hcz12_0,hcz12_1,hcz12_2,hcz12_3,hfz12_0,hfz12_1,hfz12_2,hfz12_3⟩:=bq4_ BK101.out
         have p102:0≤(x3_1:Int):=of_decide_eq_true y2_
         have q102:x3_1<(l0_0.length:Int):=of_decide_eq_true y2_
         obtain ⟨ad102,A102_3,c102_3,e102,hx102_0,hx102_1,hx102_2,hx102_3,hl102_3,hi102_3⟩:=at_T83 HR0_0.out x3_1 p102 q102
         cases e102
         replace hx102_0:=(HB.out.cell (World.block_lt_of_cell? w _ hx102_0)).trans hx102_0
         replace hx102_1:=(HB.out.cell (World.block_lt_of_cell? w _ hx102_1)).trans hx102_1
         replace hx102_2:=(HB.out.cell (World.block_lt_of_cell? w _ hx102_2)).trans hx102_2
         replace hx102_3:=(HB.out.cell (World.block_lt_of_cell? w _ hx102_3)).trans hx102_3
         have HR102_3:=A0_ hi102_3;have HC102_3:=A0_ hl102_3;clear hi102_3 hl102_3
         replace p102:=eq_true p102
         replace q102:=eq_true q102
         go_wp2
         go_roundg kj2
         case measure=>have:=HK1.out;have:=HJ2.out;omega
         case rel=>exact ⟨(wrap64 (x3_1+1)),y4_,H',⟨by have:=HK1.out;have:=HJ2.out;omega⟩,⟨by (with_reducible repeat (first|refine blk_drewN ?_ _|refine blk_drew ?_|refine blk_alloc ?_ _));exact BK101.out⟩,⟨y2e_⟩⟩
       ·rw [if_neg c9] at H;exact absurd H (by simp)
      ·rw [if_neg c8] at H;exact absurd H (by simp)
     ·replace c7:=Bool.eq_false_iff.mpr c7;subst c7
      have H1:(some (decide ((l0_0.length:Int)≤6)))=some r:=by rw [if_neg (show ¬ (false=true) by decide)] at H;exact H
      clear H;have H:=H1;clear H1;obtain rfl:=Option.some.inj H;obtain ⟨hcz13_0,hcz13_1,hcz13_2,hcz13_3,hfz13_0,hfz13_1,hfz13_2,hfz13_3⟩:=bq4_ BK101.out;go_wp2;go_ret
      exact ⟨y3_,y2e_⟩
def tr_period.f (a0_0:Int) (a0_1:Int):Option (Bool):=(tr_in.f a0_0 1 10000).bind fun t134=>(if t134=true then ((tr_in.f a0_1 1 10000).bind fun t135=>(if t135=true then (some (decide (a0_0 ≥ (wrap64 (4*a0_1))))) else (some false))) else (some false))
set_option maxHeartbeats 8000000 in
set_option maxRecDepth 100000 in
theorem tr_period.calls (a0_0:Int) (a0_1:Int) (r:Bool) (w:World) (h:tr_period.f a0_0 a0_1=some r):
  Calls Tryz.prog 55 #[.agg #[.int .i64 a0_0,.int .i64 a0_1]] w fun e w'=>e=.returned (.bool r)∧Below w.heap.size w w':=by
 have hu24:=Tryz.underlying24
 have HB:=A0_ (Below.refl w.heap.size w)
 have H:((tr_in.f a0_0 1 10000).bind fun t134=>(if t134=true then ((tr_in.f a0_1 1 10000).bind fun t135=>(if t135=true then (some (decide (a0_0 ≥ (wrap64 (4*a0_1))))) else (some false))) else (some false)))=some r:=h
 clear h;replace H:=Option.bind_eq_some_iff.mp H;obtain ⟨t134,A20,H⟩:=H
 replace H:(if t134=true then ((tr_in.f a0_1 1 10000).bind fun t135=>(if t135=true then (some (decide (a0_0 ≥ (wrap64 (4*a0_1))))) else (some false))) else (some false))=some r:=H
 have A2:=A0_ A20;clear A20
 by_cases c3:t134=true
 ·subst c3
  have H1:((tr_in.f a0_1 1 10000).bind fun t135=>(if t135=true then (some (decide (a0_0 ≥ (wrap64 (4*a0_1))))) else (some false)))=some r:=by rw [if_pos rfl] at H;exact H
  clear H;have H:=H1;clear H1;replace H:=Option.bind_eq_some_iff.mp H;obtain ⟨t135,A40,H⟩:=H
  replace H:(if t135=true then (some (decide (a0_0 ≥ (wrap64 (4*a0_1))))) else (some false))=some r:=H
  have A4:=A0_ A40;clear A40
  by_cases c5:t135=true
  ·subst c5
   have H1:(some (decide (a0_0 ≥ (wrap64 (4*a0_1)))))=some r:=by rw [if_pos rfl] at H;exact H
   clear H;have H:=H1;clear H1;obtain rfl:=Option.some.inj H
   go_enter Tryz.func55,Tryz.ntmps55
   go_wp2_with (first|((with_reducible refine gate_dst (N:=1) rfl ?_);refine box_event ?hg (N:=1) ?hd (cs:=#[.int .i64 a0_0,.int .i64 a0_1]) (t:=24) ?hr ?_;(case hd=>rfl);(case hg=>rfl);(case hr=>first|(go_simp;done)|(go_simp;rfl));intro gb133 hg w6 hbox hb;have n0_:=A0_ (below_step y0_ hb);have n1_:=A0_ (hbox);have n2_:=A0_ ((by rw [hg];exact (below_size y0_):w.heap.size≤gb133));have n3_:=A0_ ((by rw [hg];exact (below_size y0_):w.heap.size≤gb133));clear HB;have HB:=n0_;have BK133:=n1_;have GW133:=n2_;have GE133:=n3_;clear n0_ n1_ n2_ n3_;clear hb hbox hg;obtain ⟨hcz7_0,hcz7_1,hfz7_0,hfz7_1⟩:=bq2_ BK133.out)|((with_reducible refine gate_callee (f:=56) rfl ?_);refine goesL_ (some 5) rfl rfl Tryz.func56 (by kernel_rfl) rfl #[.int .i64 a0_0,.int .i64 1,.int .i64 10000] rfl y1_ ?_;(with_reducible refine (tr_in.calls a0_0 1 10000 true _ A2.out).mono ?_);rintro e w' ⟨rfl,⟨nd,rfl⟩⟩;refine ⟨_,rfl,?_⟩)|(go_at_call 56;(with_reducible refine (tr_in.calls a0_1 1 10000 true _ A4.out).mono ?_);rintro e w' ⟨rfl,⟨nd,rfl⟩⟩))
   go_ret
   exact ⟨y3_,y3y_⟩
  ·replace c5:=Bool.eq_false_iff.mpr c5;subst c5
   have H1:(some false)=some r:=by rw [if_neg (show ¬ (false=true) by decide)] at H;exact H
   clear H;have H:=H1;clear H1;obtain rfl:=Option.some.inj H
   go_enter Tryz.func55,Tryz.ntmps55
   go_wp2_with (first|((with_reducible refine gate_dst (N:=1) rfl ?_);refine box_event ?hg (N:=1) ?hd (cs:=#[.int .i64 a0_0,.int .i64 a0_1]) (t:=24) ?hr ?_;(case hd=>rfl);(case hg=>rfl);(case hr=>first|(go_simp;done)|(go_simp;rfl));intro gb133 hg w8 hbox hb;have n0_:=A0_ (below_step y0_ hb);have n1_:=A0_ (hbox);have n2_:=A0_ ((by rw [hg];exact (below_size y0_):w.heap.size≤gb133));have n3_:=A0_ ((by rw [hg];exact (below_size y0_):w.heap.size≤gb133));clear HB;have HB:=n0_;have BK133:=n1_;have GW133:=n2_;have GE133:=n3_;clear n0_ n1_ n2_ n3_;clear hb hbox hg;obtain ⟨hcz9_0,hcz9_1,hfz9_0,hfz9_1⟩:=bq2_ BK133.out)|((with_reducible refine gate_callee (f:=56) rfl ?_);refine goesL_ (some 5) rfl rfl Tryz.func56 (by kernel_rfl) rfl #[.int .i64 a0_0,.int .i64 1,.int .i64 10000] rfl y1_ ?_;(with_reducible refine (tr_in.calls a0_0 1 10000 true _ A2.out).mono ?_);rintro e w' ⟨rfl,⟨nd,rfl⟩⟩;refine ⟨_,rfl,?_⟩)|(go_at_call 56;(with_reducible refine (tr_in.calls a0_1 1 10000 false _ A4.out).mono ?_);rintro e w' ⟨rfl,⟨nd,rfl⟩⟩))
   go_ret
   exact ⟨y3_,y3y_⟩
 ·replace c3:=Bool.eq_false_iff.mpr c3;subst c3
  have H1:(some false)=some r:=by rw [if_neg (show ¬ (false=true) by decide)] at H;exact H
  clear H;have H:=H1;clear H1;obtain rfl:=Option.some.inj H
  go_enter Tryz.func55,Tryz.ntmps55
  go_wp2_with (first|((with_reducible refine gate_dst (N:=1) rfl ?_);refine box_event ?hg (N:=1) ?hd (cs:=#[.int .i64 a0_0,.int .i64 a0_1]) (t:=24) ?hr ?_;(case hd=>rfl);(case hg=>rfl);(case hr=>first|(go_simp;done)|(go_simp;rfl));intro gb133 hg w10 hbox hb;have n0_:=A0_ (below_step y0_ hb);have n1_:=A0_ (hbox);have n2_:=A0_ ((by rw [hg];exact (below_size y0_):w.heap.size≤gb133));have n3_:=A0_ ((by rw [hg];exact (below_size y0_):w.heap.size≤gb133));clear HB;have HB:=n0_;have BK133:=n1_;have GW133:=n2_;have GE133:=n3_;clear n0_ n1_ n2_ n3_;clear hb hbox hg;obtain ⟨hcz11_0,hcz11_1,hfz11_0,hfz11_1⟩:=bq2_ BK133.out)|((with_reducible refine gate_callee (f:=56) rfl ?_);refine goesL_ (some 5) rfl rfl Tryz.func56 (by kernel_rfl) rfl #[.int .i64 a0_0,.int .i64 1,.int .i64 10000] rfl y1_ ?_;(with_reducible refine (tr_in.calls a0_0 1 10000 false _ A2.out).mono ?_);rintro e w' ⟨rfl,⟨nd,rfl⟩⟩;refine ⟨_,rfl,?_⟩))
  go_ret
  exact ⟨y3_,y3y_⟩
end Go.Proofs.YtaidphhkhddemaaGreatDoor.PSky
end
section
namespace Go.Proofs.YtaidphhkhddemaaGreatDoor.PSky
open Go.RowKit Go.Proofs.YtaidphhkhddemaaGreatDoorW.PrintWords Go.Proofs.YtaidphhkhddemaaGreatDoorW.PrintLast Go.Proofs.YtaidphhkhddemaaGreatDoorW.PrintMore
attribute [local go_sem] max2_int min2_int max_two min_two max_three min_three max_four min_four
set_option linter.unusedVariables false
set_option linter.unusedSimpArgs false
mutual
def tr_Sky.l0:Nat→Int→List (S83)→Int→Int→Int→Option (Bool)
 |0,_,_,_,_,_=>none
 |k+1,x3,x137000,x137001,x137002,x137003=>if x3<(x137000.length:Int) then (if 0≤x3 then ((tr_period.f ((rd_T83 x137000 x3).f0.f0) ((rd_T83 x137000 x3).f0.f1)).bind fun t142=>(if t142=true then ((tr_Spot.f ((rd_T83 x137000 x3).f1)).bind fun t143=>(if t143=true then ((tr_in.f (((rd_T83 x137000 x3).f2).length:Int) 1 8).bind fun t144=>(tr_Sky.j1 k x3 (!t144) x137000 x137001 x137002 x137003 ((rd_T83 x137000 x3).f0.f0) ((rd_T83 x137000 x3).f0.f1) ((rd_T83 x137000 x3).f1) ((rd_T83 x137000 x3).f2))) else (tr_Sky.j1 k x3 true x137000 x137001 x137002 x137003 ((rd_T83 x137000 x3).f0.f0) ((rd_T83 x137000 x3).f0.f1) ((rd_T83 x137000 x3).f1) ((rd_T83 x137000 x3).f2)))) else (tr_Sky.j1 k x3 true x137000 x137001 x137002 x137003 ((rd_T83 x137000 x3).f0.f0) ((rd_T83 x137000 x3).f0.f1) ((rd_T83 x137000 x3).f1) ((rd_T83 x137000 x3).f2)))) else (none)) else ((tr_in.f (x137000.length:Int) 2 4).bind fun t137=>(if t137=true then ((tr_period.f x137001 x137002).bind fun t138=>(if t138=true then ((tr_Spot.f x137003).bind fun t139=>(some t139)) else (some false))) else (some false)))
def tr_Sky.j1:Nat→Int→Bool→List (S83)→Int→Int→Int→Int→Int→Int→List Int→Option (Bool)
 |0,_,_,_,_,_,_,_,_,_,_=>none
 |k+1,x3,x34,x137000,x137001,x137002,x137003,x142000,x142001,x142002,x142003=>if x34=true then (some false) else (tr_Sky.l1 k x3 0 x137000 x137001 x137002 x137003 x142000 x142001 x142002 x142003)
def tr_Sky.l1:Nat→Int→Int→List (S83)→Int→Int→Int→Int→Int→Int→List Int→Option (Bool)
 |0,_,_,_,_,_,_,_,_,_,_=>none
 |k+1,x3,x5,x137000,x137001,x137002,x137003,x142000,x142001,x142002,x142003=>if x5<(x142003.length:Int) then (if 0≤x5 then ((tr_in.f (rd x142003 x5) (-600) 600).bind fun t146=>(if t146=true then (tr_Sky.l1 k x3 (wrap64 (x5+1)) x137000 x137001 x137002 x137003 x142000 x142001 x142002 x142003) else (some false))) else (none)) else (tr_Sky.l0 k (wrap64 (x3+1)) x137000 x137001 x137002 x137003)
end
def tr_Sky.f (k:Nat) (l0_0:List (S83)) (a0_1:Int) (a0_2:Int) (a0_3:Int):Option (Bool):=tr_Sky.l0 k 0 l0_0 a0_1 a0_2 a0_3
set_option maxHeartbeats 8000000 in
set_option maxRecDepth 100000 in
theorem tr_Sky.calls (k:Nat) (A0_0:Option Addr) (c0_0:Nat) (l0_0:List (S83)) (a0_1:Int) (a0_2:Int) (a0_3:Int) (r:Bool) (w:World) (hr0_0:Kd.C k83 w A0_0 l0_0.length l0_0) (hc0_0:l0_0.length≤c0_0) (h:tr_Sky.f k l0_0 a0_1 a0_2 a0_3=some r):
  Calls Tryz.prog 13 #[.agg #[.slice A0_0 l0_0.length c0_0,.int .i64 a0_1,.int .i64 a0_2,.int .i64 a0_3]] w fun e w'=>e=.returned (.bool r)∧Below w.heap.size w w':=by
 have hu28:=Tryz.underlying28
 have hu83:=Tryz.underlying83
 have hu24:=Tryz.underlying24
 have HR0_0:=A0_ hr0_0;have HC0_0:=A0_ hc0_0;clear hr0_0 hc0_0
 have HB:=A0_ (Below.refl w.heap.size w)
 have H:(tr_Sky.l0 k 0 l0_0 a0_1 a0_2 a0_3)=some r:=h
 clear h
 have H':=A0_ H
 clear H
 go_enter Tryz.func13,Tryz.ntmps13
 go_wp2_with (first|((with_reducible refine gate_dst (N:=1) rfl ?_);(try (refine gate_guard (by rfl) ?_;dsimp only));refine box_event ?hg (N:=1) ?hd (cs:=#[.slice A0_0 l0_0.length c0_0,.int .i64 a0_1,.int .i64 a0_2,.int .i64 a0_3]) (t:=28) ?hr ?_;(case hd=>rfl);(case hg=>rfl);(case hr=>first|(go_simp;done)|(go_simp;rfl));intro gb136 hg w2 hbox hb;have n0_:=A0_ (below_step y0_ hb);have n1_:=A0_ (hbox);have n2_:=A0_ ((by rw [hg];exact (below_size y0_):w.heap.size≤gb136));have n3_:=A0_ ((by rw [hg];exact (below_size y0_):w.heap.size≤gb136));clear HB;have HB:=n0_;have BK136:=n1_;have GW136:=n2_;have GE136:=n3_;clear n0_ n1_ n2_ n3_;clear hb hbox hg))
 go_loopg [3] k (fun kq v3 w'=>∃ (x3_1:Int),v3=.int .i64 x3_1∧Aside0 (tr_Sky.l0 kq x3_1 l0_0 a0_1 a0_2 a0_3=some r)∧Aside0 (kq≤k)∧Aside0 (w'.heap[gb136]?=some (.cells #[(.slice A0_0 l0_0.length c0_0),.int .i64 a0_1,.int .i64 a0_2,.int .i64 a0_3] 28 (0,0)))∧Aside0 (Below w.heap.size w w'))
 case atStart=>exact ⟨(0),y4_,H',⟨Nat.le_refl _⟩,⟨by (with_reducible repeat (first|refine blk_drewN ?_ _|refine blk_drew ?_|refine blk_alloc ?_ _));exact BK136.out⟩,⟨y1v_⟩⟩
 case round=>
  clear H'
  (try clear c1);(try clear p2)
  obtain ⟨x3_1,rfl,HA,HK1,BK136,HB⟩:=hrel
  cases gk with
  |zero=>exact absurd HA.out (by simp [tr_Sky.l0])
  |succ k1=>
   have H:=HA.out
   clear HA
   simp only [tr_Sky.l0] at H
   by_cases c3:x3_1<(l0_0.length:Int)
   ·rw [if_pos c3] at H;have c3b0:decide (x3_1<(l0_0.length:Int))=true:=decide_eq_true c3;clear c3
    by_cases c4:0≤x3_1
    ·rw [if_pos c4] at H;have c4b0:decide (0≤x3_1)=true:=decide_eq_true c4;clear c4;have HC5:=A0_ H;clear H;obtain ⟨hcz6_0,hcz6_1,hcz6_2,hcz6_3,hfz6_0,hfz6_1,hfz6_2,hfz6_3⟩:=bq4_ BK136.out
     have p140:0≤(x3_1:Int):=of_decide_eq_true y2_
     have q140:x3_1<(l0_0.length:Int):=of_decide_eq_true y2_
     obtain ⟨ad140,A140_3,c140_3,e140,hx140_0,hx140_1,hx140_2,hx140_3,hl140_3,hi140_3⟩:=at_T83 HR0_0.out x3_1 p140 q140
     cases e140
     replace hx140_0:=(HB.out.cell (World.block_lt_of_cell? w _ hx140_0)).trans hx140_0
     replace hx140_1:=(HB.out.cell (World.block_lt_of_cell? w _ hx140_1)).trans hx140_1
     replace hx140_2:=(HB.out.cell (World.block_lt_of_cell? w _ hx140_2)).trans hx140_2
     replace hx140_3:=(HB.out.cell (World.block_lt_of_cell? w _ hx140_3)).trans hx140_3
     have HR140_3:=A0_ hi140_3;have HC140_3:=A0_ hl140_3;clear hi140_3 hl140_3
     replace p140:=eq_true p140
     replace q140:=eq_true q140
     go_upto_region 5 with (first|((with_reducible refine gate_dst (N:=4) rfl ?_);(try (refine gate_guard (by rfl) ?_;dsimp only));refine box_event ?hg (N:=4) ?hd (cs:=#[.int .i64 0,.int .i64 0,.int .i64 0,.slice none 0 0]) (t:=83) ?hr ?_;(case hd=>rfl);(case hg=>rfl);(case hr=>first|(go_simp;done)|(go_simp;rfl));intro gb141 hg w7 hbox hb;have n0_:=A0_ (blk_below (g:=gb136) (o:=.cells #[.slice (some ad140) l0_0.length c0_0,.int .i64 a0_1,.int .i64 a0_2,.int .i64 a0_3] 28 (0,0)) (bd_ BK136.out) hb);have n1_:=A0_ (below_step y1v_ hb);have n2_:=A0_ (hbox);have n3_:=A0_ ((by rw [hg];exact (below_size y1v_):w.heap.size≤gb141));have n4_:=A0_ ((by rw [hg];exact (below_size y1v_):w.heap.size≤gb141));have n5_:=A0_ ((by rw [hg];exact Nat.ne_of_lt (blk_lt (g:=gb136) (o:=.cells #[.slice (some ad140) l0_0.length c0_0,.int .i64 a0_1,.int .i64 a0_2,.int .i64 a0_3] 28 (0,0)) (bd_ BK136.out)):gb136≠gb141));have n6_:=A0_ ((by rw [hg];exact Nat.ne_of_gt (blk_lt (g:=gb136) (o:=.cells #[.slice (some ad140) l0_0.length c0_0,.int .i64 a0_1,.int .i64 a0_2,.int .i64 a0_3] 28 (0,0)) (bd_ BK136.out)):gb141≠gb136));clear BK136;clear HB;have BK136:=n0_;have HB:=n1_;have BK141:=n2_;have GW141:=n3_;have GE141:=n4_;have NB136_141:=n5_;have NB141_136:=n6_;clear n0_ n1_ n2_ n3_ n4_ n5_ n6_;clear hb hbox hg;have hnb8:=NB141_136.out;have hnc8:=NB136_141.out;obtain ⟨hcz9_0,hcz9_1,hcz9_2,hcz9_3,hfz9_0,hfz9_1,hfz9_2,hfz9_3⟩:=bq4_ BK141.out))
     (try simp only [Act.put,List.setIfInBounds_toArray,List.set_cons_zero,List.set_cons_succ])
     go_cut [34] (fun v34 wc=>∃ (kq:Nat) (x34_4:Bool),v34=.bool x34_4∧Aside0 (tr_Sky.j1 kq x3_1 x34_4 l0_0 a0_1 a0_2 a0_3 ((rd_T83 l0_0 x3_1).f0.f0) ((rd_T83 l0_0 x3_1).f0.f1) ((rd_T83 l0_0 x3_1).f1) ((rd_T83 l0_0 x3_1).f2)=some r)∧Aside0 (kq≤k1)∧Aside0 (wc.heap[gb136]?=some (.cells #[(.slice (some ad140) l0_0.length c0_0),.int .i64 a0_1,.int .i64 a0_2,.int .i64 a0_3] 28 (0,0)))∧Aside0 (wc.heap[gb141]?=some (.cells #[.int .i64 ((rd_T83 l0_0 x3_1).f0.f0),.int .i64 ((rd_T83 l0_0 x3_1).f0.f1),.int .i64 ((rd_T83 l0_0 x3_1).f1),(.slice A140_3 ((rd_T83 l0_0 x3_1).f2).length c140_3)] 83 (0,0)))∧Aside0 (Below w.heap.size w wc))
     case first=>
      have H:=HC5.out
      clear HC5;replace H:=Option.bind_eq_some_iff.mp H;obtain ⟨t142,A100,H⟩:=H
      replace H:(if t142=true then ((tr_Spot.f ((rd_T83 l0_0 x3_1).f1)).bind fun t143=>(if t143=true then ((tr_in.f (((rd_T83 l0_0 x3_1).f2).length:Int) 1 8).bind fun t144=>(tr_Sky.j1 k1 x3_1 (!t144) l0_0 a0_1 a0_2 a0_3 ((rd_T83 l0_0 x3_1).f0.f0) ((rd_T83 l0_0 x3_1).f0.f1) ((rd_T83 l0_0 x3_1).f1) ((rd_T83 l0_0 x3_1).f2))) else (tr_Sky.j1 k1 x3_1 true l0_0 a0_1 a0_2 a0_3 ((rd_T83 l0_0 x3_1).f0.f0) ((rd_T83 l0_0 x3_1).f0.f1) ((rd_T83 l0_0 x3_1).f1) ((rd_T83 l0_0 x3_1).f2)))) else (tr_Sky.j1 k1 x3_1 true l0_0 a0_1 a0_2 a0_3 ((rd_T83 l0_0 x3_1).f0.f0) ((rd_T83 l0_0 x3_1).f0.f1) ((rd_T83 l0_0 x3_1).f1) ((rd_T83 l0_0 x3_1).f2)))=some r:=H
      have A10:=A0_ A100;clear A100
      by_cases c11:t142=true
      ·subst c11
       have H1:((tr_Spot.f ((rd_T83 l0_0 x3_1).f1)).bind fun t143=>(if t143=true then ((tr_in.f (((rd_T83 l0_0 x3_1).f2).length:Int) 1 8).bind fun t144=>(tr_Sky.j1 k1 x3_1 (!t144) l0_0 a0_1 a0_2 a0_3 ((rd_T83 l0_0 x3_1).f0.f0) ((rd_T83 l0_0 x3_1).f0.f1) ((rd_T83 l0_0 x3_1).f1) ((rd_T83 l0_0 x3_1).f2))) else (tr_Sky.j1 k1 x3_1 true l0_0 a0_1 a0_2 a0_3 ((rd_T83 l0_0 x3_1).f0.f0) ((rd_T83 l0_0 x3_1).f0.f1) ((rd_T83 l0_0 x3_1).f1) ((rd_T83 l0_0 x3_1).f2))))=some r:=by rw [if_pos rfl] at H;exact H
       clear H;have H:=H1;clear H1;replace H:=Option.bind_eq_some_iff.mp H;obtain ⟨t143,A120,H⟩:=H
       replace H:(if t143=true then ((tr_in.f (((rd_T83 l0_0 x3_1).f2).length:Int) 1 8).bind fun t144=>(tr_Sky.j1 k1 x3_1 (!t144) l0_0 a0_1 a0_2 a0_3 ((rd_T83 l0_0 x3_1).f0.f0) ((rd_T83 l0_0 x3_1).f0.f1) ((rd_T83 l0_0 x3_1).f1) ((rd_T83 l0_0 x3_1).f2))) else (tr_Sky.j1 k1 x3_1 true l0_0 a0_1 a0_2 a0_3 ((rd_T83 l0_0 x3_1).f0.f0) ((rd_T83 l0_0 x3_1).f0.f1) ((rd_T83 l0_0 x3_1).f1) ((rd_T83 l0_0 x3_1).f2)))=some r:=H
       have A12:=A0_ A120;clear A120
       by_cases c13:t143=true
       ·subst c13
        have H1:((tr_in.f (((rd_T83 l0_0 x3_1).f2).length:Int) 1 8).bind fun t144=>(tr_Sky.j1 k1 x3_1 (!t144) l0_0 a0_1 a0_2 a0_3 ((rd_T83 l0_0 x3_1).f0.f0) ((rd_T83 l0_0 x3_1).f0.f1) ((rd_T83 l0_0 x3_1).f1) ((rd_T83 l0_0 x3_1).f2)))=some r:=by rw [if_pos rfl] at H;exact H
        clear H;have H:=H1;clear H1;replace H:=Option.bind_eq_some_iff.mp H;obtain ⟨t144,A140,H⟩:=H
        replace H:(tr_Sky.j1 k1 x3_1 (!t144) l0_0 a0_1 a0_2 a0_3 ((rd_T83 l0_0 x3_1).f0.f0) ((rd_T83 l0_0 x3_1).f0.f1) ((rd_T83 l0_0 x3_1).f1) ((rd_T83 l0_0 x3_1).f2))=some r:=H
        have A14:=A0_ A140;clear A140
        have H':=A0_ H
        clear H
        have hnb15:=NB141_136.out
        have hnc15:=NB136_141.out
        obtain ⟨hcz16_0,hcz16_1,hcz16_2,hcz16_3,hfz16_0,hfz16_1,hfz16_2,hfz16_3⟩:=bq4_ BK141.out
        go_wp2_with (first|((with_reducible refine gate_callee (f:=55) rfl ?_);refine goesL_ (some 20) rfl rfl Tryz.func55 (by kernel_rfl) rfl #[.agg #[.int .i64 ((rd_T83 l0_0 x3_1).f0.f0),.int .i64 ((rd_T83 l0_0 x3_1).f0.f1)]] rfl y1_ ?_;(with_reducible refine (tr_period.calls ((rd_T83 l0_0 x3_1).f0.f0) ((rd_T83 l0_0 x3_1).f0.f1) true _ A10.out).mono ?_);rintro e w17 ⟨rfl,hb⟩;refine ⟨_,rfl,?_⟩;have n0_:=A0_ (blk_below (g:=gb136) (o:=.cells #[.slice (some ad140) l0_0.length c0_0,.int .i64 a0_1,.int .i64 a0_2,.int .i64 a0_3] 28 (0,0)) y1u_ hb);have n1_:=A0_ (blk_below (g:=gb141) (o:=.cells #[.int .i64 ((rd_T83 l0_0 x3_1).f0.f0),.int .i64 ((rd_T83 l0_0 x3_1).f0.f1),.int .i64 ((rd_T83 l0_0 x3_1).f1),.slice A140_3 ((rd_T83 l0_0 x3_1).f2).length c140_3] 83 (0,0)) ys_ hb);have n2_:=A0_ (below_step y1i_ hb);clear BK136;clear BK141;clear HB;have BK136:=n0_;have BK141:=n1_;have HB:=n2_;clear n0_ n1_ n2_;(try clear hb);(try clear hb2);(try clear hk);(try clear hi);obtain ⟨hcz18_0,hcz18_1,hcz18_2,hcz18_3,hfz18_0,hfz18_1,hfz18_2,hfz18_3⟩:=bq4_ BK141.out)|(go_at_call 23;(with_reducible refine (tr_Spot.calls ((rd_T83 l0_0 x3_1).f1) true _ A12.out).mono ?_);rintro e w' ⟨rfl,⟨nd,rfl⟩⟩)|(go_at_call 56;(with_reducible refine (tr_in.calls (((rd_T83 l0_0 x3_1).f2).length:Int) 1 8 t144 _ A14.out).mono ?_);rintro e w' ⟨rfl,⟨nd,rfl⟩⟩))
        go_meet
        case rel=>exact ⟨_,(!t144),y4_,H',⟨by have:=HK1.out;first|omega|exact Nat.le_refl _⟩,⟨by (with_reducible repeat (first|refine blk_drewN ?_ _|refine blk_drew ?_|refine blk_alloc ?_ _));exact BK136.out⟩,⟨by (with_reducible repeat (first|refine blk_drewN ?_ _|refine blk_drew ?_|refine blk_alloc ?_ _));exact BK141.out⟩,⟨y1i_⟩⟩
       ·replace c13:=Bool.eq_false_iff.mpr c13;subst c13
        have H1:(tr_Sky.j1 k1 x3_1 true l0_0 a0_1 a0_2 a0_3 ((rd_T83 l0_0 x3_1).f0.f0) ((rd_T83 l0_0 x3_1).f0.f1) ((rd_T83 l0_0 x3_1).f1) ((rd_T83 l0_0 x3_1).f2))=some r:=by rw [if_neg (show ¬ (false=true) by decide)] at H;exact H
        clear H;have H:=H1;clear H1
        have H':=A0_ H
        clear H
        have hnb19:=NB141_136.out
        have hnc19:=NB136_141.out
        obtain ⟨hcz20_0,hcz20_1,hcz20_2,hcz20_3,hfz20_0,hfz20_1,hfz20_2,hfz20_3⟩:=bq4_ BK141.out
        go_wp2_with (first|((with_reducible refine gate_callee (f:=55) rfl ?_);refine goesL_ (some 20) rfl rfl Tryz.func55 (by kernel_rfl) rfl #[.agg #[.int .i64 ((rd_T83 l0_0 x3_1).f0.f0),.int .i64 ((rd_T83 l0_0 x3_1).f0.f1)]] rfl y1_ ?_;(with_reducible refine (tr_period.calls ((rd_T83 l0_0 x3_1).f0.f0) ((rd_T83 l0_0 x3_1).f0.f1) true _ A10.out).mono ?_);rintro e w21 ⟨rfl,hb⟩;refine ⟨_,rfl,?_⟩;have n0_:=A0_ (blk_below (g:=gb136) (o:=.cells #[.slice (some ad140) l0_0.length c0_0,.int .i64 a0_1,.int .i64 a0_2,.int .i64 a0_3] 28 (0,0)) y1u_ hb);have n1_:=A0_ (blk_below (g:=gb141) (o:=.cells #[.int .i64 ((rd_T83 l0_0 x3_1).f0.f0),.int .i64 ((rd_T83 l0_0 x3_1).f0.f1),.int .i64 ((rd_T83 l0_0 x3_1).f1),.slice A140_3 ((rd_T83 l0_0 x3_1).f2).length c140_3] 83 (0,0)) ys_ hb);have n2_:=A0_ (below_step y1i_ hb);clear BK136;clear BK141;clear HB;have BK136:=n0_;have BK141:=n1_;have HB:=n2_;clear n0_ n1_ n2_;(try clear hb);(try clear hb2);(try clear hk);(try clear hi);obtain ⟨hcz22_0,hcz22_1,hcz22_2,hcz22_3,hfz22_0,hfz22_1,hfz22_2,hfz22_3⟩:=bq4_ BK141.out)|(go_at_call 23;(with_reducible refine (tr_Spot.calls ((rd_T83 l0_0 x3_1).f1) false _ A12.out).mono ?_);rintro e w' ⟨rfl,⟨nd,rfl⟩⟩))
        go_meet
        case rel=>exact ⟨_,(true),y4_,H',⟨by have:=HK1.out;first|omega|exact Nat.le_refl _⟩,⟨by (with_reducible repeat (first|refine blk_drewN ?_ _|refine blk_drew ?_|refine blk_alloc ?_ _));exact BK136.out⟩,⟨by (with_reducible repeat (first|refine blk_drewN ?_ _|refine blk_drew ?_|refine blk_alloc ?_ _));exact BK141.out⟩,⟨y1i_⟩⟩
      ·replace c11:=Bool.eq_false_iff.mpr c11;subst c11
       have H1:(tr_Sky.j1 k1 x3_1 true l0_0 a0_1 a0_2 a0_3 ((rd_T83 l0_0 x3_1).f0.f0) ((rd_T83 l0_0 x3_1).f0.f1) ((rd_T83 l0_0 x3_1).f1) ((rd_T83 l0_0 x3_1).f2))=some r:=by rw [if_neg (show ¬ (false=true) by decide)] at H;exact H
       clear H;have H:=H1;clear H1
       have H':=A0_ H
       clear H
       have hnb23:=NB141_136.out
       have hnc23:=NB136_141.out
       obtain ⟨hcz24_0,hcz24_1,hcz24_2,hcz24_3,hfz24_0,hfz24_1,hfz24_2,hfz24_3⟩:=bq4_ BK141.out
       go_wp2_with (first|((with_reducible refine gate_callee (f:=55) rfl ?_);refine goesL_ (some 20) rfl rfl Tryz.func55 (by kernel_rfl) rfl #[.agg #[.int .i64 ((rd_T83 l0_0 x3_1).f0.f0),.int .i64 ((rd_T83 l0_0 x3_1).f0.f1)]] rfl y1_ ?_;(with_reducible refine (tr_period.calls ((rd_T83 l0_0 x3_1).f0.f0) ((rd_T83 l0_0 x3_1).f0.f1) false _ A10.out).mono ?_);rintro e w25 ⟨rfl,hb⟩;refine ⟨_,rfl,?_⟩;have n0_:=A0_ (blk_below (g:=gb136) (o:=.cells #[.slice (some ad140) l0_0.length c0_0,.int .i64 a0_1,.int .i64 a0_2,.int .i64 a0_3] 28 (0,0)) y1u_ hb);have n1_:=A0_ (blk_below (g:=gb141) (o:=.cells #[.int .i64 ((rd_T83 l0_0 x3_1).f0.f0),.int .i64 ((rd_T83 l0_0 x3_1).f0.f1),.int .i64 ((rd_T83 l0_0 x3_1).f1),.slice A140_3 ((rd_T83 l0_0 x3_1).f2).length c140_3] 83 (0,0)) ys_ hb);have n2_:=A0_ (below_step y1i_ hb);clear BK136;clear BK141;clear HB;have BK136:=n0_;have BK141:=n1_;have HB:=n2_;clear n0_ n1_ n2_;(try clear hb);(try clear hb2);(try clear hk);(try clear hi)))
       go_meet
       case rel=>exact ⟨_,(true),y4_,H',⟨by have:=HK1.out;first|omega|exact Nat.le_refl _⟩,⟨by (with_reducible repeat (first|refine blk_drewN ?_ _|refine blk_drew ?_|refine blk_alloc ?_ _));exact BK136.out⟩,⟨by (with_reducible repeat (first|refine blk_drewN ?_ _|refine blk_drew ?_|refine blk_alloc ?_ _));exact BK141.out⟩,⟨y1i_⟩⟩
     case rest=>
      clear HC5;(try clear c1);(try clear p1);(try clear q1);(try clear hx1);(try clear c2);(try clear p2);(try clear c3);(try clear c3b0);(try clear c4);(try clear c4b0);(try clear c5);(try clear c8);(try clear c11);(try clear c13);(try clear c14);(try clear p14);(try clear q14);(try clear hx14);(try clear c15);(try clear c19);(try clear c23);(try clear hcz16_0);(try clear hcz16_1);(try clear hcz16_2);(try clear hcz16_3);(try clear hcz18_0);(try clear hcz18_1);(try clear hcz18_2);(try clear hcz18_3);(try clear hcz20_0);(try clear hcz20_1);(try clear hcz20_2);(try clear hcz20_3);(try clear hcz22_0);(try clear hcz22_1);(try clear hcz22_2);(try clear hcz22_3);(try clear hcz24_0);(try clear hcz24_1);(try clear hcz24_2);(try clear hcz24_3);(try clear hcz6_0);(try clear hcz6_1);(try clear hcz6_2);(try clear hcz6_3);(try clear hcz9_0);(try clear hcz9_1);(try clear hcz9_2);(try clear hcz9_3);(try clear hfz16_0);(try clear hfz16_1);(try clear hfz16_2);(try clear hfz16_3);(try clear hfz18_0);(try clear hfz18_1);(try clear hfz18_2);(try clear hfz18_3);(try clear hfz20_0);(try clear hfz20_1);(try clear hfz20_2);(try clear hfz20_3);(try clear hfz22_0);(try clear hfz22_1);(try clear hfz22_2);(try clear hfz22_3);(try clear hfz24_0);(try clear hfz24_1);(try clear hfz24_2);(try clear hfz24_3);(try clear hfz6_0);(try clear hfz6_1);(try clear hfz6_2);(try clear hfz6_3);(try clear hfz9_0);(try clear hfz9_1);(try clear hfz9_2);(try clear hfz9_3);(try clear hx140_0);(try clear hx140_1);(try clear hx140_2);(try clear hx140_3);(try clear p140);(try clear p2);(try clear q140)
      obtain ⟨kq,x34_4,rfl,HA,HJ4,BK136,BK141,HB⟩:=hcut
      cases kq with
      |zero=>exact absurd HA.out (by simp [tr_Sky.j1])
      |succ kj4=>
       have H:=HA.out
       clear HA
       simp only [tr_Sky.j1] at H
       by_cases c26:x34_4=true
       ·subst c26
        have H1:(some false)=some r:=by rw [if_pos rfl] at H;exact H
        clear H;have H:=H1;clear H1;obtain rfl:=Option.some.inj H;go_wp2;go_ret
        exact ⟨y3_,y1i_⟩
       ·replace c26:=Bool.eq_false_iff.mpr c26;subst c26
        have H1:(tr_Sky.l1 kj4 x3_1 0 l0_0 a0_1 a0_2 a0_3 ((rd_T83 l0_0 x3_1).f0.f0) ((rd_T83 l0_0 x3_1).f0.f1) ((rd_T83 l0_0 x3_1).f1) ((rd_T83 l0_0 x3_1).f2))=some r:=by rw [if_neg (show ¬ (false=true) by decide)] at H;exact H
        clear H;have H:=H1;clear H1
        have H':=A0_ H
        clear H;go_wp2
        go_loopg [5] kj4 (fun kq v5 w'=>∃ (x5_3:Int),v5=.int .i64 x5_3∧Aside0 (tr_Sky.l1 kq x3_1 x5_3 l0_0 a0_1 a0_2 a0_3 ((rd_T83 l0_0 x3_1).f0.f0) ((rd_T83 l0_0 x3_1).f0.f1) ((rd_T83 l0_0 x3_1).f1) ((rd_T83 l0_0 x3_1).f2)=some r)∧Aside0 (kq≤kj4)∧Aside0 (w'.heap[gb136]?=some (.cells #[(.slice (some ad140) l0_0.length c0_0),.int .i64 a0_1,.int .i64 a0_2,.int .i64 a0_3] 28 (0,0)))∧Aside0 (w'.heap[gb141]?=some (.cells #[.int .i64 ((rd_T83 l0_0 x3_1).f0.f0),.int .i64 ((rd_T83 l0_0 x3_1).f0.f1),.int .i64 ((rd_T83 l0_0 x3_1).f1),(.slice A140_3 ((rd_T83 l0_0 x3_1).f2).length c140_3)] 83 (0,0)))∧Aside0 (Below w.heap.size w w'))
        case atStart=>exact ⟨(0),y4_,H',⟨Nat.le_refl _⟩,⟨by (with_reducible repeat (first|refine blk_drewN ?_ _|refine blk_drew ?_|refine blk_alloc ?_ _));exact BK136.out⟩,⟨by (with_reducible repeat (first|refine blk_drewN ?_ _|refine blk_drew ?_|refine blk_alloc ?_ _));exact BK141.out⟩,⟨y1i_⟩⟩
        case round=>
         clear H'
         (try clear c1);(try clear p1);(try clear q1);(try clear hx1);(try clear c2);(try clear p2);(try clear c3);(try clear c3b0);(try clear c4);(try clear c4b0);(try clear c5);(try clear c8);(try clear c11);(try clear c13);(try clear c14);(try clear p14);(try clear q14);(try clear hx14);(try clear c15);(try clear c19);(try clear c23);(try clear c26);(try clear hcz16_0);(try clear hcz16_1);(try clear hcz16_2);(try clear hcz16_3);(try clear hcz18_0);(try clear hcz18_1);(try clear hcz18_2);(try clear hcz18_3);(try clear hcz20_0);(try clear hcz20_1);(try clear hcz20_2);(try clear hcz20_3);(try clear hcz22_0);(try clear hcz22_1);(try clear hcz22_2);(try clear hcz22_3);(try clear hcz24_0);(try clear hcz24_1);(try clear hcz24_2);(try clear hcz24_3);(try clear hcz6_0);(try clear hcz6_1);(try clear hcz6_2);(try clear hcz6_3);(try clear hcz9_0);(try clear hcz9_1);(try clear hcz9_2);(try clear hcz9_3);(try clear hfz16_0);(try clear hfz16_1);(try clear hfz16_2);(try clear hfz16_3);(try clear hfz18_0);(try clear hfz18_1);(try clear hfz18_2);(try clear hfz18_3);(try clear hfz20_0);(try clear hfz20_1);(try clear hfz20_2);(try clear hfz20_3);(try clear hfz22_0);(try clear hfz22_1);(try clear hfz22_2);(try clear hfz22_3);(try clear hfz24_0);(try clear hfz24_1);(try clear hfz24_2);(try clear hfz24_3);(try clear hfz6_0);(try clear hfz6_1);(try clear hfz6_2);(try clear hfz6_3);(try clear hfz9_0);(try clear hfz9_1);(try clear hfz9_2);(try clear hfz9_3);(try clear hx140_0);(try clear hx140_1);(try clear hx140_2);(try clear hx140_3);(try clear p1);(try clear p14);(try clear p140);(try clear p2);(try clear q1);(try clear q14);(try clear q140)
         obtain ⟨x5_3,rfl,HA,HK3,BK136,BK141,HB⟩:=hrel
         cases gk with
         |zero=>exact absurd HA.out (by simp [tr_Sky.l1])
         |succ k3=>
          have H:=HA.out
          clear HA
          simp only [tr_Sky.l1] at H
          by_cases c27:x5_3<(((rd_T83 l0_0 x3_1).f2).length:Int)
          ·rw [if_pos c27] at H;have c27b0:decide (x5_3<(((rd_T83 l0_0 x3_1).f2).length:Int))=true:=decide_eq_true c27;clear c27
           by_cases c28:0≤x5_3
           ·rw [if_pos c28] at H;have c28b0:decide (0≤x5_3)=true:=decide_eq_true c28;clear c28;replace H:=Option.bind_eq_some_iff.mp H;obtain ⟨t146,A290,H⟩:=H
            replace H:(if t146=true then (tr_Sky.l1 k3 x3_1 (wrap64 (x5_3+1)) l0_0 a0_1 a0_2 a0_3 ((rd_T83 l0_0 x3_1).f0.f0) ((rd_T83 l0_0 x3_1).f0.f1) ((rd_T83 l0_0 x3_1).f1) ((rd_T83 l0_0 x3_1).f2)) else (some false))=some r:=H
            have A29:=A0_ A290;clear A290
            by_cases c30:t146=true
            ·subst c30
             have H1:(tr_Sky.l1 k3 x3_1 (wrap64 (x5_3+1)) l0_0 a0_1 a0_2 a0_3 ((rd_T83 l0_0 x3_1).f0.f0) ((rd_T83 l0_0 x3_1).f0.f1) ((rd_T83 l0_0 x3_1).f1) ((rd_T83 l0_0 x3_1).f2))=some r:=by rw [if_pos rfl] at H;exact H
             clear H;have H:=H1;clear H1
             have H':=A0_ H
             clear H
             have hnb31:=NB141_136.out
             have hnc31:=NB136_141.out
             obtain ⟨hcz32_0,hcz32_1,hcz32_2,hcz32_3,hfz32_0,hfz32_1,hfz32_2,hfz32_3⟩:=bq4_ BK141.out
             have p145:0≤(x5_3:Int):=of_decide_eq_true y2_
             have q145:x5_3<(((rd_T83 l0_0 x3_1).f2).length:Int):=of_decide_eq_true y2_
             obtain ⟨ad145,e145,hx145_0⟩:=Kd.at_int HR140_3.out x5_3 p145 q145
             cases e145
             replace hx145_0:=(HB.out.cell (World.block_lt_of_cell? w _ hx145_0)).trans hx145_0
             replace p145:=eq_true p145
             replace q145:=eq_true q145
             go_wp2_with (first|((with_reducible refine gate_callee (f:=56) rfl ?_);refine goesL_ (some 47) rfl rfl Tryz.func56 (by kernel_rfl) rfl #[.int .i64 (rd ((rd_T83 l0_0 x3_1).f2) x5_3),.int .i64 (-600),.int .i64 600] rfl y1_ ?_;(with_reducible refine (tr_in.calls (rd ((rd_T83 l0_0 x3_1).f2) x5_3) (-600) 600 true _ A29.out).mono ?_);rintro e w' ⟨rfl,⟨nd,rfl⟩⟩;refine ⟨_,rfl,?_⟩))
             go_roundg k3
             case measure=>have:=HK1.out;have:=HJ4.out;have:=HK3.out;omega
             case rel=>exact ⟨(wrap64 (x5_3+1)),y4_,H',⟨by have:=HK1.out;have:=HJ4.out;have:=HK3.out;omega⟩,⟨by (with_reducible repeat (first|refine blk_drewN ?_ _|refine blk_drew ?_|refine blk_alloc ?_ _));exact BK136.out⟩,⟨by (with_reducible repeat (first|refine blk_drewN ?_ _|refine blk_drew ?_|refine blk_alloc ?_ _));exact BK141.out⟩,⟨y1i_⟩⟩
            ·replace c30:=Bool.eq_false_iff.mpr c30;subst c30
             have H1:(some false)=some r:=by rw [if_neg (show ¬ (false=true) by decide)] at H;exact H
             clear H;have H:=H1;clear H1;obtain rfl:=Option.some.inj H
             have hnb33:=NB141_136.out
             have hnc33:=NB136_141.out
             obtain ⟨hcz34_0,hcz34_1,hcz34_2,hcz34_3,hfz34_0,hfz34_1,hfz34_2,hfz34_3⟩:=bq4_ BK141.out
             have p145:0≤(x5_3:Int):=of_decide_eq_true y2_
             have q145:x5_3<(((rd_T83 l0_0 x3_1).f2).length:Int):=of_decide_eq_true y2_
             obtain ⟨ad145,e145,hx145_0⟩:=Kd.at_int HR140_3.out x5_3 p145 q145
             cases e145
             replace hx145_0:=(HB.out.cell (World.block_lt_of_cell? w _ hx145_0)).trans hx145_0
             replace p145:=eq_true p145
             replace q145:=eq_true q145
             go_wp2_with (first|((with_reducible refine gate_callee (f:=56) rfl ?_);refine goesL_ (some 47) rfl rfl Tryz.func56 (by kernel_rfl) rfl #[.int .i64 (rd ((rd_T83 l0_0 x3_1).f2) x5_3),.int .i64 (-600),.int .i64 600] rfl y1_ ?_;(with_reducible refine (tr_in.calls (rd ((rd_T83 l0_0 x3_1).f2) x5_3) (-600) 600 false _ A29.out).mono ?_);rintro e w' ⟨rfl,⟨nd,rfl⟩⟩;refine ⟨_,rfl,?_⟩))
             go_ret
             exact ⟨y3_,y1i_⟩
           ·rw [if_neg c28] at H;exact absurd H (by simp)
          ·rw [if_neg c27] at H;have c27b0:decide (x5_3<(((rd_T83 l0_0 x3_1).f2).length:Int))=false:=decide_eq_false c27;clear c27
           have H':=A0_ H
           clear H
           have hnb35:=NB141_136.out
           have hnc35:=NB136_141.out
           obtain ⟨hcz36_0,hcz36_1,hcz36_2,hcz36_3,hfz36_0,hfz36_1,hfz36_2,hfz36_3⟩:=bq4_ BK141.out;go_wp2
           go_roundg k3
           case measure=>have:=HK1.out;have:=HJ4.out;have:=HK3.out;omega
           case rel=>exact ⟨(wrap64 (x3_1+1)),y4_,H',⟨by have:=HK1.out;have:=HJ4.out;have:=HK3.out;omega⟩,⟨by (with_reducible repeat (first|refine blk_drewN ?_ _|refine blk_drew ?_|refine blk_alloc ?_ _));exact BK136.out⟩,⟨y1i_⟩⟩
    ·rw [if_neg c4] at H;exact absurd H (by simp)
   ·rw [if_neg c3] at H;have c3b0:decide (x3_1<(l0_0.length:Int))=false:=decide_eq_false c3;clear c3;replace H:=Option.bind_eq_some_iff.mp H;obtain ⟨t137,A370,H⟩:=H
    replace H:(if t137=true then ((tr_period.f a0_1 a0_2).bind fun t138=>(if t138=true then ((tr_Spot.f a0_3).bind fun t139=>(some t139)) else (some false))) else (some false))=some r:=H
    have A37:=A0_ A370;clear A370
    by_cases c38:t137=true
    ·subst c38
     have H1:((tr_period.f a0_1 a0_2).bind fun t138=>(if t138=true then ((tr_Spot.f a0_3).bind fun t139=>(some t139)) else (some false)))=some r:=by rw [if_pos rfl] at H;exact H
     clear H;have H:=H1;clear H1;replace H:=Option.bind_eq_some_iff.mp H;obtain ⟨t138,A390,H⟩:=H
     replace H:(if t138=true then ((tr_Spot.f a0_3).bind fun t139=>(some t139)) else (some false))=some r:=H
     have A39:=A0_ A390;clear A390
     by_cases c40:t138=true
     ·subst c40
      have H1:((tr_Spot.f a0_3).bind fun t139=>(some t139))=some r:=by rw [if_pos rfl] at H;exact H
      clear H;have H:=H1;clear H1;replace H:=Option.bind_eq_some_iff.mp H;obtain ⟨t139,A410,H⟩:=H
      replace H:(some t139)=some r:=H
      have A41:=A0_ A410;clear A410;obtain rfl:=Option.some.inj H;obtain ⟨hcz42_0,hcz42_1,hcz42_2,hcz42_3,hfz42_0,hfz42_1,hfz42_2,hfz42_3⟩:=bq4_ BK136.out
      go_wp2_with (first|((with_reducible refine gate_callee (f:=56) rfl ?_);refine goesL_ (some 52) rfl rfl Tryz.func56 (by kernel_rfl) rfl #[.int .i64 (l0_0.length:Int),.int .i64 2,.int .i64 4] rfl y1_ ?_;(with_reducible refine (tr_in.calls (l0_0.length:Int) 2 4 true _ A37.out).mono ?_);rintro e w' ⟨rfl,⟨nd,rfl⟩⟩;refine ⟨_,rfl,?_⟩)|(go_at_call 55;(with_reducible refine (tr_period.calls a0_1 a0_2 true _ A39.out).mono ?_);rintro e w43 ⟨rfl,hb⟩;have n0_:=A0_ (blk_below (g:=gb136) (o:=.cells #[.slice A0_0 l0_0.length c0_0,.int .i64 a0_1,.int .i64 a0_2,.int .i64 a0_3] 28 (0,0)) (bd_ BK136.out) hb);have n1_:=A0_ (below_step y1v_ hb);clear BK136;clear HB;have BK136:=n0_;have HB:=n1_;clear n0_ n1_;(try clear hb);(try clear hb2);(try clear hk);(try clear hi);obtain ⟨hcz44_0,hcz44_1,hcz44_2,hcz44_3,hfz44_0,hfz44_1,hfz44_2,hfz44_3⟩:=bq4_ BK136.out)|(go_at_call 23;(with_reducible refine (tr_Spot.calls a0_3 t139 _ A41.out).mono ?_);rintro e w' ⟨rfl,⟨nd,rfl⟩⟩))
      go_ret
      exact ⟨y3_,y1v_⟩
     ·replace c40:=Bool.eq_false_iff.mpr c40;subst c40
      have H1:(some false)=some r:=by rw [if_neg (show ¬ (false=true) by decide)] at H;exact H
      clear H;have H:=H1;clear H1;obtain rfl:=Option.some.inj H;obtain ⟨hcz45_0,hcz45_1,hcz45_2,hcz45_3,hfz45_0,hfz45_1,hfz45_2,hfz45_3⟩:=bq4_ BK136.out
      go_wp2_with (first|((with_reducible refine gate_callee (f:=56) rfl ?_);refine goesL_ (some 52) rfl rfl Tryz.func56 (by kernel_rfl) rfl #[.int .i64 (l0_0.length:Int),.int .i64 2,.int .i64 4] rfl y1_ ?_;(with_reducible refine (tr_in.calls (l0_0.length:Int) 2 4 true _ A37.out).mono ?_);rintro e w' ⟨rfl,⟨nd,rfl⟩⟩;refine ⟨_,rfl,?_⟩)|(go_at_call 55;(with_reducible refine (tr_period.calls a0_1 a0_2 false _ A39.out).mono ?_);rintro e w46 ⟨rfl,hb⟩;have n0_:=A0_ (blk_below (g:=gb136) (o:=.cells #[.slice A0_0 l0_0.length c0_0,.int .i64 a0_1,.int .i64 a0_2,.int .i64 a0_3] 28 (0,0)) (bd_ BK136.out) hb);have n1_:=A0_ (below_step y1v_ hb);clear BK136;clear HB;have BK136:=n0_;have HB:=n1_;clear n0_ n1_;(try clear hb);(try clear hb2);(try clear hk);(try clear hi)))
      go_ret
      exact ⟨y3_,y1v_⟩
    ·replace c38:=Bool.eq_false_iff.mpr c38;subst c38
     have H1:(some false)=some r:=by rw [if_neg (show ¬ (false=true) by decide)] at H;exact H
     clear H;have H:=H1;clear H1;obtain rfl:=Option.some.inj H;obtain ⟨hcz47_0,hcz47_1,hcz47_2,hcz47_3,hfz47_0,hfz47_1,hfz47_2,hfz47_3⟩:=bq4_ BK136.out
     go_wp2_with (first|((with_reducible refine gate_callee (f:=56) rfl ?_);refine goesL_ (some 52) rfl rfl Tryz.func56 (by kernel_rfl) rfl #[.int .i64 (l0_0.length:Int),.int .i64 2,.int .i64 4] rfl y1_ ?_;(with_reducible refine (tr_in.calls (l0_0.length:Int) 2 4 false _ A37.out).mono ?_);rintro e w' ⟨rfl,⟨nd,rfl⟩⟩;refine ⟨_,rfl,?_⟩))
     go_ret
     exact ⟨y3_,y1v_⟩
end Go.Proofs.YtaidphhkhddemaaGreatDoor.PSky
end
section
namespace Go.Proofs.YtaidphhkhddemaaGreatDoor.PSky
open Go.RowKit Go.Proofs.YtaidphhkhddemaaGreatDoorW.PrintWords Go.Proofs.YtaidphhkhddemaaGreatDoorW.PrintLast Go.Proofs.YtaidphhkhddemaaGreatDoorW.PrintMore
attribute [local go_sem] max2_int min2_int max_two min_two max_three min_three max_four min_four
set_option linter.unusedVariables false
set_option linter.unusedSimpArgs false
def tr_down.f (a0:Int) (a1:Int):Option (Int):=if a1=0 then (none) else (if (wrap64 ((wrap64 (Int.tdiv a0 a1))*a1)) > a0 then (some (wrap64 ((wrap64 (Int.tdiv a0 a1)) - 1))) else (some (wrap64 (Int.tdiv a0 a1))))
set_option maxHeartbeats 8000000 in
set_option maxRecDepth 100000 in
theorem tr_down.calls (a0:Int) (a1:Int) (r:Int) (w:World) (h:tr_down.f a0 a1=some r):
  Calls Tryz.prog 83 #[.int .i64 a0,.int .i64 a1] w fun e w'=>e=.returned (.int .i64 r)∧Drawn0 w w':=by
 have H:(if a1=0 then (none) else (if (wrap64 ((wrap64 (Int.tdiv a0 a1))*a1)) > a0 then (some (wrap64 ((wrap64 (Int.tdiv a0 a1)) - 1))) else (some (wrap64 (Int.tdiv a0 a1)))))=some r:=h
 clear h
 by_cases c3:a1=0
 ·rw [if_pos c3] at H;exact absurd H (by simp)
 ·rw [if_neg c3] at H
  have c3b0:(a1 == 0)=false:=beq_eq_false_iff_ne.mpr c3
  have c3b1:(a1 != 0)=true:=bne_iff_ne.mpr c3
  by_cases c4:(wrap64 ((wrap64 (Int.tdiv a0 a1))*a1)) > a0
  ·rw [if_pos c4] at H;have c4b0:decide (a0<(wrap64 ((wrap64 (Int.tdiv a0 a1))*a1)))=true:=decide_eq_true c4;clear c4;obtain rfl:=Option.some.inj H
   go_enter Tryz.func83,Tryz.ntmps83
   go_wp2;go_ret
   exact ⟨y4_,yb_⟩
  ·rw [if_neg c4] at H;have c4b0:decide (a0<(wrap64 ((wrap64 (Int.tdiv a0 a1))*a1)))=false:=decide_eq_false c4;clear c4;obtain rfl:=Option.some.inj H
   go_enter Tryz.func83,Tryz.ntmps83
   go_wp2;go_ret
   exact ⟨y4_,yb_⟩
def tr_Less.f (a0:Int):Option (Int):=(tr_down.f a0 21600).bind fun t153=>(some (wrap64 (a0 - (wrap64 (t153*21600)))))
set_option maxHeartbeats 8000000 in
set_option maxRecDepth 100000 in
theorem tr_Less.calls (a0:Int) (r:Int) (w:World) (h:tr_Less.f a0=some r):
  Calls Tryz.prog 40 #[.int .i64 a0] w fun e w'=>e=.returned (.int .i64 r)∧Drawn0 w w':=by
 have H:((tr_down.f a0 21600).bind fun t153=>(some (wrap64 (a0 - (wrap64 (t153*21600))))))=some r:=h
 clear h;replace H:=Option.bind_eq_some_iff.mp H;obtain ⟨t153,A20,H⟩:=H
 replace H:(some (wrap64 (a0 - (wrap64 (t153*21600)))))=some r:=H
 have A2:=A0_ A20;clear A20;obtain rfl:=Option.some.inj H
 go_enter Tryz.func40,Tryz.ntmps40
 go_wp2_with (first|((with_reducible refine gate_callee (f:=83) rfl ?_);refine goesL_ (some 5) rfl rfl Tryz.func83 (by kernel_rfl) rfl #[.int .i64 a0,.int .i64 21600] rfl y1_ ?_;(with_reducible refine (tr_down.calls a0 21600 t153 _ A2.out).mono ?_);rintro e w' ⟨rfl,⟨nd,rfl⟩⟩;refine ⟨_,rfl,?_⟩))
 go_ret
 exact ⟨y4_,yb_⟩
end Go.Proofs.YtaidphhkhddemaaGreatDoor.PSky
end
section
namespace Go.Proofs.YtaidphhkhddemaaGreatDoor.PSky
open Go.RowKit Go.Proofs.YtaidphhkhddemaaGreatDoorW.PrintWords Go.Proofs.YtaidphhkhddemaaGreatDoorW.PrintLast Go.Proofs.YtaidphhkhddemaaGreatDoorW.PrintMore
attribute [local go_sem] max2_int min2_int max_two min_two max_three min_three max_four min_four
set_option linter.unusedVariables false
set_option linter.unusedSimpArgs false
def tr_Apart.f (a0:Int) (a1:Int):Option (Int):=(tr_Less.f (wrap64 (a0 - a1))).bind fun t324=>(some (mn t324 (wrap64 (21600 - t324))))
set_option maxHeartbeats 8000000 in
set_option maxRecDepth 100000 in
theorem tr_Apart.calls (a0:Int) (a1:Int) (r:Int) (w:World) (h:tr_Apart.f a0 a1=some r):
  Calls Tryz.prog 24 #[.int .i64 a0,.int .i64 a1] w fun e w'=>e=.returned (.int .i64 r)∧Below w.heap.size w w':=by
 have HB:=A0_ (Below.refl w.heap.size w)
 have H:((tr_Less.f (wrap64 (a0 - a1))).bind fun t324=>(some (mn t324 (wrap64 (21600 - t324)))))=some r:=h
 clear h;replace H:=Option.bind_eq_some_iff.mp H;obtain ⟨t324,A30,H⟩:=H
 replace H:(some (mn t324 (wrap64 (21600 - t324))))=some r:=H
 have A3:=A0_ A30;clear A30
 obtain ⟨ji4,hji4⟩:∃ j_:Int,(mn t324 (wrap64 (21600 - t324)))=j_:=⟨_,rfl⟩
 replace H:(some ji4)=some r:=by first|(rw [hji4] at H;exact H)|(simp only [hji4] at H ⊢;exact H)
 (try rw [hji4] at A3)
 have hji4_:(if (wrap64 (21600 - t324))<t324 then (wrap64 (21600 - t324)) else t324)=ji4:=hji4
 obtain rfl:=Option.some.inj H
 go_enter Tryz.func24,Tryz.ntmps24
 go_wp2_with (first|((with_reducible refine gate_callee (f:=40) rfl ?_);refine goesL_ (some 9) rfl rfl Tryz.func40 (by kernel_rfl) rfl #[.int .i64 (wrap64 (a0 - a1))] rfl y1_ ?_;(with_reducible refine (tr_Less.calls (wrap64 (a0 - a1)) t324 _ A3.out).mono ?_);rintro e w' ⟨rfl,⟨nd,rfl⟩⟩;refine ⟨_,rfl,?_⟩))
 go_ret
 exact ⟨by first|rfl|(simp [errW_none,errW_some] <;> rfl)|(simp only [← hji4];first|rfl|(simp [errW_none,errW_some] <;> rfl))|(simp [*,errW_none,errW_some] <;> rfl),y0_⟩
end Go.Proofs.YtaidphhkhddemaaGreatDoor.PSky
end
section
namespace Go.Proofs.YtaidphhkhddemaaGreatDoor.PSky
open Go.RowKit Go.Proofs.YtaidphhkhddemaaGreatDoorW.PrintWords Go.Proofs.YtaidphhkhddemaaGreatDoorW.PrintLast Go.Proofs.YtaidphhkhddemaaGreatDoorW.PrintMore
attribute [local go_sem] max2_int min2_int max_two min_two max_three min_three max_four min_four
set_option linter.unusedVariables false
set_option linter.unusedSimpArgs false
def tr_Day.f (a0:Int):Option (Bool):=(tr_in.f a0 0 20000).bind fun t369=>(some t369)
set_option maxHeartbeats 8000000 in
set_option maxRecDepth 100000 in
theorem tr_Day.calls (a0:Int) (r:Bool) (w:World) (h:tr_Day.f a0=some r):
  Calls Tryz.prog 37 #[.int .i64 a0] w fun e w'=>e=.returned (.bool r)∧Drawn0 w w':=by
 have H:((tr_in.f a0 0 20000).bind fun t369=>(some t369))=some r:=h
 clear h;replace H:=Option.bind_eq_some_iff.mp H;obtain ⟨t369,A20,H⟩:=H
 replace H:(some t369)=some r:=H
 have A2:=A0_ A20;clear A20;obtain rfl:=Option.some.inj H
 go_enter Tryz.func37,Tryz.ntmps37
 go_wp2_with (first|((with_reducible refine gate_callee (f:=56) rfl ?_);refine goesL_ (some 4) rfl rfl Tryz.func56 (by kernel_rfl) rfl #[.int .i64 a0,.int .i64 0,.int .i64 20000] rfl y1_ ?_;(with_reducible refine (tr_in.calls a0 0 20000 t369 _ A2.out).mono ?_);rintro e w' ⟨rfl,⟨nd,rfl⟩⟩;refine ⟨_,rfl,?_⟩))
 go_ret
 exact ⟨y4_,yb_⟩
end Go.Proofs.YtaidphhkhddemaaGreatDoor.PSky
end
section
namespace Go.Proofs.YtaidphhkhddemaaGreatDoor.PSky
open Go.RowKit Go.Proofs.YtaidphhkhddemaaGreatDoorW.PrintWords Go.Proofs.YtaidphhkhddemaaGreatDoorW.PrintLast Go.Proofs.YtaidphhkhddemaaGreatDoorW.PrintMore
attribute [local go_sem] max2_int min2_int max_two min_two max_three min_three max_four min_four
set_option linter.unusedVariables false
set_option linter.unusedSimpArgs false
def tr_Body.f (l0_0:List (S83)) (a0_1:Int) (a0_2:Int) (a0_3:Int) (a1:Int):Option (Bool):=(tr_in.f a1 0 (wrap64 ((l0_0.length:Int) - 1))).bind fun t440=>(some t440)
set_option maxHeartbeats 8000000 in
set_option maxRecDepth 100000 in
theorem tr_Body.calls (A0_0:Option Addr) (c0_0:Nat) (l0_0:List (S83)) (a0_1:Int) (a0_2:Int) (a0_3:Int) (a1:Int) (r:Bool) (w:World) (hr0_0:Kd.C k83 w A0_0 l0_0.length l0_0) (hc0_0:l0_0.length≤c0_0) (h:tr_Body.f l0_0 a0_1 a0_2 a0_3 a1=some r):
  Calls Tryz.prog 36 #[.agg #[.slice A0_0 l0_0.length c0_0,.int .i64 a0_1,.int .i64 a0_2,.int .i64 a0_3],.int .i64 a1] w fun e w'=>e=.returned (.bool r)∧Below w.heap.size w w':=by
 have hu28:=Tryz.underlying28
 have HR0_0:=A0_ hr0_0;have HC0_0:=A0_ hc0_0;clear hr0_0 hc0_0
 have HB:=A0_ (Below.refl w.heap.size w)
 have H:((tr_in.f a1 0 (wrap64 ((l0_0.length:Int) - 1))).bind fun t440=>(some t440))=some r:=h
 clear h;replace H:=Option.bind_eq_some_iff.mp H;obtain ⟨t440,A30,H⟩:=H
 replace H:(some t440)=some r:=H
 have A3:=A0_ A30;clear A30;obtain rfl:=Option.some.inj H
 go_enter Tryz.func36,Tryz.ntmps36
 go_wp2_with (first|((with_reducible refine gate_dst (N:=2) rfl ?_);refine box_event ?hg (N:=2) ?hd (cs:=#[.slice A0_0 l0_0.length c0_0,.int .i64 a0_1,.int .i64 a0_2,.int .i64 a0_3]) (t:=28) ?hr ?_;(case hd=>rfl);(case hg=>rfl);(case hr=>first|(go_simp;done)|(go_simp;rfl));intro gb439 hg w4 hbox hb;have n0_:=A0_ (below_step y0_ hb);have n1_:=A0_ (hbox);have n2_:=A0_ ((by rw [hg];exact (below_size y0_):w.heap.size≤gb439));have n3_:=A0_ ((by rw [hg];exact (below_size y0_):w.heap.size≤gb439));clear HB;have HB:=n0_;have BK439:=n1_;have GW439:=n2_;have GE439:=n3_;clear n0_ n1_ n2_ n3_;clear hb hbox hg;obtain ⟨hcz5_0,hcz5_1,hcz5_2,hcz5_3,hfz5_0,hfz5_1,hfz5_2,hfz5_3⟩:=bq4_ BK439.out)|((with_reducible refine gate_callee (f:=56) rfl ?_);refine goesL_ (some 10) rfl rfl Tryz.func56 (by kernel_rfl) rfl #[.int .i64 a1,.int .i64 0,.int .i64 (wrap64 ((l0_0.length:Int) - 1))] rfl y1_ ?_;(with_reducible refine (tr_in.calls a1 0 (wrap64 ((l0_0.length:Int) - 1)) t440 _ A3.out).mono ?_);rintro e w' ⟨rfl,⟨nd,rfl⟩⟩;refine ⟨_,rfl,?_⟩))
 go_ret
 exact ⟨y3_,(by repeat (first|(with_reducible first|exact HB.out|apply below_alloc|apply pw_below_drewN|apply below_drew1|refine below_set ?_ GE439.out)|exact HB.out))⟩
def sky_Mean.j0:Nat→Int→Int→Bool→List (S83)→Int→Int→Int→Option (Int × Int)
 |0,_,_,_,_,_,_,_=>none
 |k+1,x1,x2,x21,x442000,x442001,x442002,x442003=>if x21=true then (some (0,2)) else ((ss_mean.f k x442000 x442001 x442002 x442003 x2 x1).bind fun t445=>((sky_around.f t445).bind fun t446=>(some (t446,0))))
def sky_Mean.f (k:Nat) (l0_0:List (S83)) (a0_1:Int) (a0_2:Int) (a0_3:Int) (a1:Int) (a2:Int):Option (Int × Int):=(sky_isSky.f k l0_0 a0_1 a0_2 a0_3).bind fun t442=>(if t442=true then ((sky_isBody.f l0_0 a0_1 a0_2 a0_3 a1).bind fun t443=>(if t443=true then ((sky_isDay.f a2).bind fun t444=>(sky_Mean.j0 k a1 a2 (!t444) l0_0 a0_1 a0_2 a0_3)) else (sky_Mean.j0 k a1 a2 true l0_0 a0_1 a0_2 a0_3))) else (sky_Mean.j0 k a1 a2 true l0_0 a0_1 a0_2 a0_3))
set_option maxHeartbeats 8000000 in
set_option maxRecDepth 100000 in
theorem sky_Mean.calls (k:Nat) (A0_0:Option Addr) (c0_0:Nat) (l0_0:List (S83)) (a0_1:Int) (a0_2:Int) (a0_3:Int) (a1:Int) (a2:Int) (r1:Int) (r2:Int) (w:World) (hr0_0:Kd.C k83 w A0_0 l0_0.length l0_0) (hc0_0:l0_0.length≤c0_0) (h:sky_Mean.f k l0_0 a0_1 a0_2 a0_3 a1 a2=some (r1,r2)):
  Calls Tryz.prog 38 #[.agg #[.slice A0_0 l0_0.length c0_0,.int .i64 a0_1,.int .i64 a0_2,.int .i64 a0_3],.int .i64 a1,.int .i64 a2] w fun e w'=>e=.returned (.tuple #[.int .i64 r1,.int .i64 r2])∧Below w.heap.size w w':=by
 have hu28:=Tryz.underlying28
 have hu96:=Tryz.underlying96
 have HR0_0:=A0_ hr0_0;have HC0_0:=A0_ hc0_0;clear hr0_0 hc0_0
 have HB:=A0_ (Below.refl w.heap.size w)
 have H:((sky_isSky.f k l0_0 a0_1 a0_2 a0_3).bind fun t442=>(if t442=true then ((sky_isBody.f l0_0 a0_1 a0_2 a0_3 a1).bind fun t443=>(if t443=true then ((sky_isDay.f a2).bind fun t444=>(sky_Mean.j0 k a1 a2 (!t444) l0_0 a0_1 a0_2 a0_3)) else (sky_Mean.j0 k a1 a2 true l0_0 a0_1 a0_2 a0_3))) else (sky_Mean.j0 k a1 a2 true l0_0 a0_1 a0_2 a0_3)))=some (r1,r2):=h
 clear h;have HC4:=A0_ H;clear H
 go_enter Tryz.func38,Tryz.ntmps38
 go_upto_region 1 with (first|((with_reducible refine gate_dst (N:=3) rfl ?_);refine box_event ?hg (N:=3) ?hd (cs:=#[.slice A0_0 l0_0.length c0_0,.int .i64 a0_1,.int .i64 a0_2,.int .i64 a0_3]) (t:=28) ?hr ?_;(case hd=>rfl);(case hg=>rfl);(case hr=>first|(go_simp;done)|(go_simp;rfl));intro gb441 hg w5 hbox hb;have n0_:=A0_ (below_step y0_ hb);have n1_:=A0_ (hbox);have n2_:=A0_ ((by rw [hg];exact (below_size y0_):w.heap.size≤gb441));have n3_:=A0_ ((by rw [hg];exact (below_size y0_):w.heap.size≤gb441));clear HB;have HB:=n0_;have BK441:=n1_;have GW441:=n2_;have GE441:=n3_;clear n0_ n1_ n2_ n3_;clear hb hbox hg))
 (try simp only [Act.put,List.setIfInBounds_toArray,List.set_cons_zero,List.set_cons_succ])
 go_cut [21] (fun v21 wc=>∃ (kq:Nat) (x21_3:Bool),v21=.bool x21_3∧Aside0 (sky_Mean.j0 kq a1 a2 x21_3 l0_0 a0_1 a0_2 a0_3=some (r1,r2))∧Aside0 (kq≤k)∧Aside0 (wc.heap[gb441]?=some (.cells #[(.slice A0_0 l0_0.length c0_0),.int .i64 a0_1,.int .i64 a0_2,.int .i64 a0_3] 28 (0,0)))∧Aside0 (Below w.heap.size w wc))
 case first=>
  have H:=HC4.out
  clear HC4;replace H:=Option.bind_eq_some_iff.mp H;obtain ⟨t442,A60,H⟩:=H
  replace H:(if t442=true then ((sky_isBody.f l0_0 a0_1 a0_2 a0_3 a1).bind fun t443=>(if t443=true then ((sky_isDay.f a2).bind fun t444=>(sky_Mean.j0 k a1 a2 (!t444) l0_0 a0_1 a0_2 a0_3)) else (sky_Mean.j0 k a1 a2 true l0_0 a0_1 a0_2 a0_3))) else (sky_Mean.j0 k a1 a2 true l0_0 a0_1 a0_2 a0_3))=some (r1,r2):=H
  have A6:=A0_ A60;clear A60
  by_cases c7:t442=true
  ·subst c7
   have H1:((sky_isBody.f l0_0 a0_1 a0_2 a0_3 a1).bind fun t443=>(if t443=true then ((sky_isDay.f a2).bind fun t444=>(sky_Mean.j0 k a1 a2 (!t444) l0_0 a0_1 a0_2 a0_3)) else (sky_Mean.j0 k a1 a2 true l0_0 a0_1 a0_2 a0_3)))=some (r1,r2):=by rw [if_pos rfl] at H;exact H
   clear H;have H:=H1;clear H1;replace H:=Option.bind_eq_some_iff.mp H;obtain ⟨t443,A80,H⟩:=H
   replace H:(if t443=true then ((sky_isDay.f a2).bind fun t444=>(sky_Mean.j0 k a1 a2 (!t444) l0_0 a0_1 a0_2 a0_3)) else (sky_Mean.j0 k a1 a2 true l0_0 a0_1 a0_2 a0_3))=some (r1,r2):=H
   have A8:=A0_ A80;clear A80
   by_cases c9:t443=true
   ·subst c9
    have H1:((sky_isDay.f a2).bind fun t444=>(sky_Mean.j0 k a1 a2 (!t444) l0_0 a0_1 a0_2 a0_3))=some (r1,r2):=by rw [if_pos rfl] at H;exact H
    clear H;have H:=H1;clear H1;replace H:=Option.bind_eq_some_iff.mp H;obtain ⟨t444,A100,H⟩:=H
    replace H:(sky_Mean.j0 k a1 a2 (!t444) l0_0 a0_1 a0_2 a0_3)=some (r1,r2):=H
    have A10:=A0_ A100;clear A100
    have H':=A0_ H
    clear H;obtain ⟨hcz11_0,hcz11_1,hcz11_2,hcz11_3,hfz11_0,hfz11_1,hfz11_2,hfz11_3⟩:=bq4_ BK441.out
    go_wp2_with (first|((with_reducible refine gate_callee (f:=52) rfl ?_);refine goesL_ (some 9) rfl rfl Tryz.func52 (by kernel_rfl) rfl #[.agg #[.slice A0_0 l0_0.length c0_0,.int .i64 a0_1,.int .i64 a0_2,.int .i64 a0_3]] rfl y1_ ?_;(with_reducible refine (sky_isSky.calls k _ _ l0_0 a0_1 a0_2 a0_3 true _ ?side1 ?side2 A6.out).mono ?_);(case side1=>repeat (first|exact (Kd.C_below HR0_0.out HB.out)|(with_reducible refine Kd.C_alloc ?_ _)|(with_reducible refine Kd.C_drewN ?_ _)|(with_reducible refine Kd.C_drew ?_)));(case side2=>exact HC0_0.out);rintro e w12 ⟨rfl,hb⟩;refine ⟨_,rfl,?_⟩;have n0_:=A0_ (blk_below (g:=gb441) (o:=.cells #[.slice A0_0 l0_0.length c0_0,.int .i64 a0_1,.int .i64 a0_2,.int .i64 a0_3] 28 (0,0)) (bd_ BK441.out) hb);have n1_:=A0_ (below_step y1l_ hb);clear BK441;clear HB;have BK441:=n0_;have HB:=n1_;clear n0_ n1_;(try clear hb);(try clear hb2);(try clear hk);(try clear hi);obtain ⟨hcz13_0,hcz13_1,hcz13_2,hcz13_3,hfz13_0,hfz13_1,hfz13_2,hfz13_3⟩:=bq4_ BK441.out)|(go_at_call 61;(with_reducible refine (sky_isBody.calls _ _ l0_0 a0_1 a0_2 a0_3 a1 true _ ?side1 ?side2 A8.out).mono ?_);(case side1=>repeat (first|exact (Kd.C_below HR0_0.out HB.out)|(with_reducible refine Kd.C_alloc ?_ _)|(with_reducible refine Kd.C_drewN ?_ _)|(with_reducible refine Kd.C_drew ?_)));(case side2=>exact HC0_0.out);rintro e w14 ⟨rfl,hb⟩;have n0_:=A0_ (blk_below (g:=gb441) (o:=.cells #[.slice A0_0 l0_0.length c0_0,.int .i64 a0_1,.int .i64 a0_2,.int .i64 a0_3] 28 (0,0)) (bd_ BK441.out) hb);have n1_:=A0_ (below_step y1l_ hb);clear BK441;clear HB;have BK441:=n0_;have HB:=n1_;clear n0_ n1_;(try clear hb);(try clear hb2);(try clear hk);(try clear hi))|(go_at_call 62;(with_reducible refine (sky_isDay.calls a2 t444 _ A10.out).mono ?_);rintro e w' ⟨rfl,⟨nd,rfl⟩⟩))
    go_meet
    case rel=>exact ⟨_,(!t444),y4_,H',⟨by first|omega|exact Nat.le_refl _⟩,⟨by (with_reducible repeat (first|refine blk_drewN ?_ _|refine blk_drew ?_|refine blk_alloc ?_ _));exact BK441.out⟩,⟨y1l_⟩⟩
   ·replace c9:=Bool.eq_false_iff.mpr c9;subst c9
    have H1:(sky_Mean.j0 k a1 a2 true l0_0 a0_1 a0_2 a0_3)=some (r1,r2):=by rw [if_neg (show ¬ (false=true) by decide)] at H;exact H
    clear H;have H:=H1;clear H1
    have H':=A0_ H
    clear H;obtain ⟨hcz15_0,hcz15_1,hcz15_2,hcz15_3,hfz15_0,hfz15_1,hfz15_2,hfz15_3⟩:=bq4_ BK441.out
    go_wp2_with (first|((with_reducible refine gate_callee (f:=52) rfl ?_);refine goesL_ (some 9) rfl rfl Tryz.func52 (by kernel_rfl) rfl #[.agg #[.slice A0_0 l0_0.length c0_0,.int .i64 a0_1,.int .i64 a0_2,.int .i64 a0_3]] rfl y1_ ?_;(with_reducible refine (sky_isSky.calls k _ _ l0_0 a0_1 a0_2 a0_3 true _ ?side1 ?side2 A6.out).mono ?_);(case side1=>repeat (first|exact (Kd.C_below HR0_0.out HB.out)|(with_reducible refine Kd.C_alloc ?_ _)|(with_reducible refine Kd.C_drewN ?_ _)|(with_reducible refine Kd.C_drew ?_)));(case side2=>exact HC0_0.out);rintro e w16 ⟨rfl,hb⟩;refine ⟨_,rfl,?_⟩;have n0_:=A0_ (blk_below (g:=gb441) (o:=.cells #[.slice A0_0 l0_0.length c0_0,.int .i64 a0_1,.int .i64 a0_2,.int .i64 a0_3] 28 (0,0)) (bd_ BK441.out) hb);have n1_:=A0_ (below_step y1l_ hb);clear BK441;clear HB;have BK441:=n0_;have HB:=n1_;clear n0_ n1_;(try clear hb);(try clear hb2);(try clear hk);(try clear hi);obtain ⟨hcz17_0,hcz17_1,hcz17_2,hcz17_3,hfz17_0,hfz17_1,hfz17_2,hfz17_3⟩:=bq4_ BK441.out)|(go_at_call 61;(with_reducible refine (sky_isBody.calls _ _ l0_0 a0_1 a0_2 a0_3 a1 false _ ?side1 ?side2 A8.out).mono ?_);(case side1=>repeat (first|exact (Kd.C_below HR0_0.out HB.out)|(with_reducible refine Kd.C_alloc ?_ _)|(with_reducible refine Kd.C_drewN ?_ _)|(with_reducible refine Kd.C_drew ?_)));(case side2=>exact HC0_0.out);rintro e w18 ⟨rfl,hb⟩;have n0_:=A0_ (blk_below (g:=gb441) (o:=.cells #[.slice A0_0 l0_0.length c0_0,.int .i64 a0_1,.int .i64 a0_2,.int .i64 a0_3] 28 (0,0)) (bd_ BK441.out) hb);have n1_:=A0_ (below_step y1l_ hb);clear BK441;clear HB;have BK441:=n0_;have HB:=n1_;clear n0_ n1_;(try clear hb);(try clear hb2);(try clear hk);(try clear hi)))
    go_meet
    case rel=>exact ⟨_,(true),y4_,H',⟨by first|omega|exact Nat.le_refl _⟩,⟨by (with_reducible repeat (first|refine blk_drewN ?_ _|refine blk_drew ?_|refine blk_alloc ?_ _));exact BK441.out⟩,⟨y1l_⟩⟩
  ·replace c7:=Bool.eq_false_iff.mpr c7;subst c7
   have H1:(sky_Mean.j0 k a1 a2 true l0_0 a0_1 a0_2 a0_3)=some (r1,r2):=by rw [if_neg (show ¬ (false=true) by decide)] at H;exact H
   clear H;have H:=H1;clear H1
   have H':=A0_ H
   clear H;obtain ⟨hcz19_0,hcz19_1,hcz19_2,hcz19_3,hfz19_0,hfz19_1,hfz19_2,hfz19_3⟩:=bq4_ BK441.out
   go_wp2_with (first|((with_reducible refine gate_callee (f:=52) rfl ?_);refine goesL_ (some 9) rfl rfl Tryz.func52 (by kernel_rfl) rfl #[.agg #[.slice A0_0 l0_0.length c0_0,.int .i64 a0_1,.int .i64 a0_2,.int .i64 a0_3]] rfl y1_ ?_;(with_reducible refine (sky_isSky.calls k _ _ l0_0 a0_1 a0_2 a0_3 false _ ?side1 ?side2 A6.out).mono ?_);(case side1=>repeat (first|exact (Kd.C_below HR0_0.out HB.out)|(with_reducible refine Kd.C_alloc ?_ _)|(with_reducible refine Kd.C_drewN ?_ _)|(with_reducible refine Kd.C_drew ?_)));(case side2=>exact HC0_0.out);rintro e w20 ⟨rfl,hb⟩;refine ⟨_,rfl,?_⟩;have n0_:=A0_ (blk_below (g:=gb441) (o:=.cells #[.slice A0_0 l0_0.length c0_0,.int .i64 a0_1,.int .i64 a0_2,.int .i64 a0_3] 28 (0,0)) (bd_ BK441.out) hb);have n1_:=A0_ (below_step y1l_ hb);clear BK441;clear HB;have BK441:=n0_;have HB:=n1_;clear n0_ n1_;(try clear hb);(try clear hb2);(try clear hk);(try clear hi)))
   go_meet
   case rel=>exact ⟨_,(true),y4_,H',⟨by first|omega|exact Nat.le_refl _⟩,⟨by (with_reducible repeat (first|refine blk_drewN ?_ _|refine blk_drew ?_|refine blk_alloc ?_ _));exact BK441.out⟩,⟨y1l_⟩⟩
 case rest=>
  clear HC4;(try clear p2);(try clear c3);(try clear c5);(try clear c7);(try clear c9);(try clear hcz11_0);(try clear hcz11_1);(try clear hcz11_2);(try clear hcz11_3);(try clear hcz13_0);(try clear hcz13_1);(try clear hcz13_2);(try clear hcz13_3);(try clear hcz15_0);(try clear hcz15_1);(try clear hcz15_2);(try clear hcz15_3);(try clear hcz17_0);(try clear hcz17_1);(try clear hcz17_2);(try clear hcz17_3);(try clear hcz19_0);(try clear hcz19_1);(try clear hcz19_2);(try clear hcz19_3);(try clear hfz11_0);(try clear hfz11_1);(try clear hfz11_2);(try clear hfz11_3);(try clear hfz13_0);(try clear hfz13_1);(try clear hfz13_2);(try clear hfz13_3);(try clear hfz15_0);(try clear hfz15_1);(try clear hfz15_2);(try clear hfz15_3);(try clear hfz17_0);(try clear hfz17_1);(try clear hfz17_2);(try clear hfz17_3);(try clear hfz19_0);(try clear hfz19_1);(try clear hfz19_2);(try clear hfz19_3)
  obtain ⟨kq,x21_3,rfl,HA,HJ3,BK441,HB⟩:=hcut
  cases kq with
  |zero=>exact absurd HA.out (by simp [sky_Mean.j0])
  |succ kj3=>
   have H:=HA.out
   clear HA
   simp only [sky_Mean.j0] at H
   by_cases c21:x21_3=true
   ·subst c21
    have H1:(some (0,2))=some (r1,r2):=by rw [if_pos rfl] at H;exact H
    clear H;have H:=H1;clear H1
    simp only [Option.some.injEq,Prod.mk.injEq] at H
    obtain ⟨rfl,rfl⟩:=H;go_wp2
    go_ret2
    exact ⟨y3_,y1l_⟩
   ·replace c21:=Bool.eq_false_iff.mpr c21;subst c21
    have H1:((ss_mean.f kj3 l0_0 a0_1 a0_2 a0_3 a2 a1).bind fun t445=>((sky_around.f t445).bind fun t446=>(some (t446,0))))=some (r1,r2):=by rw [if_neg (show ¬ (false=true) by decide)] at H;exact H
    clear H;have H:=H1;clear H1;replace H:=Option.bind_eq_some_iff.mp H;obtain ⟨t445,A220,H⟩:=H
    replace H:((sky_around.f t445).bind fun t446=>(some (t446,0)))=some (r1,r2):=H
    have A22:=A0_ A220;clear A220;replace H:=Option.bind_eq_some_iff.mp H;obtain ⟨t446,A230,H⟩:=H
    replace H:(some (t446,0))=some (r1,r2):=H
    have A23:=A0_ A230;clear A230
    simp only [Option.some.injEq,Prod.mk.injEq] at H
    obtain ⟨rfl,rfl⟩:=H;obtain ⟨hcz24_0,hcz24_1,hcz24_2,hcz24_3,hfz24_0,hfz24_1,hfz24_2,hfz24_3⟩:=bq4_ BK441.out
    go_wp2_with (first|((with_reducible refine gate_callee (f:=80) rfl ?_);refine goesL_ (some 26) rfl rfl Tryz.func80 (by kernel_rfl) rfl #[.agg #[.slice A0_0 l0_0.length c0_0,.int .i64 a0_1,.int .i64 a0_2,.int .i64 a0_3,.int .i64 a2],.int .i64 a1] rfl y1_ ?_;(with_reducible refine (ss_mean.calls kj3 _ _ l0_0 a0_1 a0_2 a0_3 a2 a1 t445 _ ?side1 ?side2 A22.out).mono ?_);(case side1=>repeat (first|exact (Kd.C_below HR0_0.out HB.out)|(with_reducible refine Kd.C_alloc ?_ _)|(with_reducible refine Kd.C_drewN ?_ _)|(with_reducible refine Kd.C_drew ?_)));(case side2=>exact HC0_0.out);rintro e w25 ⟨rfl,hb⟩;refine ⟨_,rfl,?_⟩;have n0_:=A0_ (blk_below (g:=gb441) (o:=.cells #[.slice A0_0 l0_0.length c0_0,.int .i64 a0_1,.int .i64 a0_2,.int .i64 a0_3] 28 (0,0)) (bd_ BK441.out) hb);have n1_:=A0_ (below_step y1l_ hb);clear BK441;clear HB;have BK441:=n0_;have HB:=n1_;clear n0_ n1_;(try clear hb);(try clear hb2);(try clear hk);(try clear hi))|((with_reducible refine gate_callee (f:=63) rfl ?_);refine goesL_ (some 27) rfl rfl Tryz.func63 (by kernel_rfl) rfl #[.int .i64 t445] rfl y1_ ?_;(with_reducible refine (sky_around.calls t445 t446 _ A23.out).mono ?_);rintro e w' ⟨rfl,⟨nd,rfl⟩⟩;refine ⟨_,rfl,?_⟩))
    go_ret2
    exact ⟨y3_,y1l_⟩
end Go.Proofs.YtaidphhkhddemaaGreatDoor.PSky
end
section
namespace Go.Proofs.YtaidphhkhddemaaGreatDoor.PSky
open Go.RowKit Go.Proofs.YtaidphhkhddemaaGreatDoorW.PrintWords Go.Proofs.YtaidphhkhddemaaGreatDoorW.PrintLast Go.Proofs.YtaidphhkhddemaaGreatDoorW.PrintMore
theorem Ev.pos {α:Type} {c:Prop} [Decidable c] {f g:Nat→Option α} {r:α} (h:c) (k:Ev f r):Ev (fun n=>if c then f n else g n) r:=by simpa only [if_pos h] using k
theorem Ev.neg {α:Type} {c:Prop} [Decidable c] {f g:Nat→Option α} {r:α} (h:¬ c) (k:Ev g r):Ev (fun n=>if c then f n else g n) r:=by simpa only [if_neg h] using k
theorem Ev.some {α:Type} (r:α):Ev (fun _=>Option.some r) r:=Ev.now r
theorem Ev.is {α:Type} {o:Option α} {r:α} (h:o=Option.some r):Ev (fun _=>o) r:=by rw [h];exact Ev.now r
theorem wrap_id {n:Int} (h:-9223372036854775808≤n∧n≤9223372036854775807):wrap64 n=n:=by unfold wrap64;omega
theorem scan {β:Type} (l:List β) (bad:β→Bool) (g:Nat→Nat→Option Int) (hlen:l.length≤1000000)
  (hyes:∀ i (h:i<l.length),bad l[i]=true→Ev (fun k=>g k i) (i:Int))
  (hno:∀ i (h:i<l.length),bad l[i]=false→∀ r,Ev (fun k=>g k (i+1)) r→Ev (fun k=>g k i) r)
  (hend:Ev (fun k=>g k l.length) (-1)):∀ m i,i+m=l.length→∃ r,Ev (fun k=>g k i) r∧decide (r ≥ 0)=(l.drop i).any bad
 |0,i,h=>⟨-1,by rw [show i=l.length by omega];exact hend,by rw [show i=l.length by omega,List.drop_length];rfl⟩
 |m+1,i,h=>by
  have hi:i<l.length:=by omega
  rw [List.drop_eq_getElem_cons hi,List.any_cons]
  cases hb:bad l[i] with
  |true=>exact ⟨i,hyes i hi hb,by simp⟩
  |false=>
   obtain ⟨r,hr,he⟩:=scan l bad g hlen hyes hno hend m (i+1) (by omega)
   exact ⟨r,hno i hi hb r hr,by simpa using he⟩
def okIn (a b c:Int):Bool:=decide (b≤a) && decide (a≤c)
theorem in_eq (a b c:Int):sky_in.f a b c=some (okIn a b c):=by
 unfold sky_in.f okIn
 by_cases h:a ≥ b
 ·rw [if_pos h,decide_eq_true (show b≤a from h),Bool.true_and]
 ·rw [if_neg h,decide_eq_false (show ¬ b≤a from h),Bool.false_and]
theorem rin_eq (a b c:Int):tr_in.f a b c=some (okIn a b c):=in_eq a b c
def okPeriod (p q:Int):Bool:=okIn p 1 10000 && (okIn q 1 10000 && decide (4*q≤p))
theorem isPeriod_eq (p q:Int):sky_isPeriod.f p q=some (okPeriod p q):=by
 unfold sky_isPeriod.f okPeriod
 simp only [in_eq,Option.bind_some]
 cases h1:okIn p 1 10000 with
 |false=>rfl
 |true=>
  cases h2:okIn q 1 10000 with
  |false=>rfl
  |true=>
   have hq:wrap64 (4*q)=4*q:=wrap_id (by simp [okIn] at h2;omega)
   rw [hq]
   rfl
theorem period_eq (p q:Int):tr_period.f p q=some (okPeriod p q):=isPeriod_eq p q
def okPlace (n:Int):Bool:=okIn n 0 21599
theorem isPlace_eq (n:Int):sky_isPlace.f n=some (okPlace n):=by unfold sky_isPlace.f;rw [in_eq];rfl
theorem Spot_eq (n:Int):tr_Spot.f n=some (okPlace n):=isPlace_eq n
def okRoad (l:List Int):Bool:=!l.any (fun n=>!okIn n (-600) 600)
def okBody (b:S83):Bool:=okPeriod b.f0.f0 b.f0.f1 && (okPlace b.f1 && (okIn (b.f2.length:Int) 1 8 && okRoad b.f2))
def okSky (l:List S83) (p q n:Int):Bool:=okIn (l.length:Int) 2 4 && (okPeriod p q && (okPlace n && !l.any (fun b=>!okBody b)))
theorem rd_get (l:List Int) (i:Nat) (h:i<l.length):rd l (i:Int)=l[i]:=by unfold rd;simp [h]
theorem rdT_get (l:List S83) (i:Nat) (h:i<l.length):rd_T83 l (i:Int)=l[i]:=by unfold rd_T83;simp [h]
theorem road_ev (l:List Int) (hl:l.length≤1000000):Ev (fun k=>cF_isSky_c1_c1.f k l) (l.any (fun n=>!okIn n (-600) 600)):=by
 obtain ⟨r,hr,he⟩:=scan l (fun n=>!okIn n (-600) 600) (fun k i=>iF_isSky_c1_c1.l0 k l (l.length:Int) (i:Int)) hl
  (fun i h hb=>by
   refine Ev.step (fun k=>by rw [iF_isSky_c1_c1.l0]) ?_
   refine Ev.pos (by omega) (Ev.pos (by omega) (Ev.pos (by omega) ?_))
   refine Ev.bind (a:=true) (Ev.is (by unfold sky_isSky_c1_c1.f;rw [in_eq,rd_get l i h];simp [hb])) ?_
   exact Ev.pos rfl (Ev.now _))
  (fun i h hb r hr=>by
   refine Ev.step (fun k=>by rw [iF_isSky_c1_c1.l0]) ?_
   refine Ev.pos (by omega) (Ev.pos (by omega) (Ev.pos (by omega) ?_))
   refine Ev.bind (a:=false) (Ev.is (by unfold sky_isSky_c1_c1.f;rw [in_eq,rd_get l i h];simp [hb])) ?_
   refine Ev.neg (by simp) ?_
   rw [wrap_id (by omega)]
   exact hr)
  (by
   refine Ev.step (fun k=>by rw [iF_isSky_c1_c1.l0]) ?_
   exact Ev.neg (by omega) (Ev.now _)) l.length 0 (by omega)
 unfold cF_isSky_c1_c1.f iF_isSky_c1_c1.f
 refine Ev.bind hr ?_
 rw [he]
 exact Ev.now _
theorem body_ev (b:S83):Ev (fun k=>sky_isSky_c1.f k b.f0.f0 b.f0.f1 b.f1 b.f2) (!okBody b):=by
 unfold sky_isSky_c1.f okBody
 refine Ev.bind (Ev.is (isPeriod_eq _ _)) ?_
 cases h1:okPeriod b.f0.f0 b.f0.f1 with
 |false=>exact Ev.neg (by simp) (Ev.now _)
 |true=>
  refine Ev.pos rfl (Ev.bind (Ev.is (isPlace_eq _)) ?_)
  cases h2:okPlace b.f1 with
  |false=>exact Ev.neg (by simp) (Ev.now _)
  |true=>
   refine Ev.pos rfl (Ev.bind (Ev.is (in_eq _ _ _)) ?_)
   cases h3:okIn (b.f2.length:Int) 1 8 with
   |false=>exact Ev.neg (by simp) (Ev.now _)
   |true=>
    refine Ev.pos rfl (Ev.bind (road_ev b.f2 (by simp [okIn] at h3;omega)) ?_)
    simp only [okRoad,Bool.true_and,Bool.not_not]
    exact Ev.now _
theorem bodies_ev (l:List S83) (hl:l.length≤1000000):Ev (fun k=>cF_isSky_c1.f k l) (l.any (fun b=>!okBody b)):=by
 obtain ⟨r,hr,he⟩:=scan l (fun b=>!okBody b) (fun k i=>iF_isSky_c1.l0 k l (l.length:Int) (i:Int)) hl
  (fun i h hb=>by
   refine Ev.step (fun k=>by rw [iF_isSky_c1.l0]) ?_
   refine Ev.pos (by omega) (Ev.pos (by omega) (Ev.pos (by omega) ?_))
   rw [rdT_get l i h]
   refine Ev.bind (body_ev _) ?_
   rw [hb]
   exact Ev.pos rfl (Ev.now _))
  (fun i h hb r hr=>by
   refine Ev.step (fun k=>by rw [iF_isSky_c1.l0]) ?_
   refine Ev.pos (by omega) (Ev.pos (by omega) (Ev.pos (by omega) ?_))
   rw [rdT_get l i h]
   refine Ev.bind (body_ev _) ?_
   rw [hb]
   refine Ev.neg (by simp) ?_
   rw [wrap_id (by omega)]
   exact hr)
  (by
   refine Ev.step (fun k=>by rw [iF_isSky_c1.l0]) ?_
   exact Ev.neg (by omega) (Ev.now _)) l.length 0 (by omega)
 unfold cF_isSky_c1.f iF_isSky_c1.f
 refine Ev.bind hr ?_
 rw [he]
 exact Ev.now _
theorem isSky_ev (l:List S83) (p q n:Int):Ev (fun k=>sky_isSky.f k l p q n) (okSky l p q n):=by
 unfold sky_isSky.f okSky
 refine Ev.bind (Ev.is (in_eq _ _ _)) ?_
 cases h1:okIn (l.length:Int) 2 4 with
 |false=>exact Ev.neg (by simp) (Ev.now _)
 |true=>
  refine Ev.pos rfl (Ev.bind (Ev.is (isPeriod_eq _ _)) ?_)
  cases h2:okPeriod p q with
  |false=>exact Ev.neg (by simp) (Ev.now _)
  |true=>
   refine Ev.pos rfl (Ev.bind (Ev.is (isPlace_eq _)) ?_)
   cases h3:okPlace n with
   |false=>exact Ev.neg (by simp) (Ev.now _)
   |true=>
    refine Ev.pos rfl (Ev.bind (bodies_ev l (by simp [okIn] at h1;omega)) ?_)
    simp only [Bool.true_and]
    exact Ev.now _
theorem refroad_ok (l:List S83) (p q n:Int) (i:Int) (b:S83) (hb:b.f2.length≤1000000) (r:Bool) (hall:∀ x∈b.f2,okIn x (-600) 600=true)
  (hr:Ev (fun k=>tr_Sky.l0 k (wrap64 (i+1)) l p q n) r):∀ m j:Nat,j+m=b.f2.length →
  Ev (fun k=>tr_Sky.l1 k i (j:Int) l p q n b.f0.f0 b.f0.f1 b.f1 b.f2) r
 |0,j,h=>by
  refine Ev.step (fun k=>by rw [tr_Sky.l1]) ?_
  exact Ev.neg (by omega) hr
 |m+1,j,h=>by
  have hj:j<b.f2.length:=by omega
  refine Ev.step (fun k=>by rw [tr_Sky.l1]) ?_
  refine Ev.pos (by omega) (Ev.pos (by omega) ?_)
  refine Ev.bind (a:=true) (Ev.is (by rw [rin_eq,rd_get _ j hj,hall _ (List.getElem_mem hj)])) (Ev.pos rfl ?_)
  rw [wrap_id (by omega)]
  exact refroad_ok l p q n i b hb r hall hr m (j+1) (by omega)
theorem refroad_bad (l:List S83) (p q n:Int) (i:Int) (b:S83) (hb:b.f2.length≤1000000):∀ m j:Nat,j+m=b.f2.length→(b.f2.drop j).any (fun n=>!okIn n (-600) 600)=true →
  Ev (fun k=>tr_Sky.l1 k i (j:Int) l p q n b.f0.f0 b.f0.f1 b.f1 b.f2) false
 |0,j,h,hbad=>by
  rw [show j=b.f2.length by omega,List.drop_length] at hbad
  cases hbad
 |m+1,j,h,hbad=>by
  have hj:j<b.f2.length:=by omega
  rw [List.drop_eq_getElem_cons hj,List.any_cons] at hbad
  refine Ev.step (fun k=>by rw [tr_Sky.l1]) ?_
  refine Ev.pos (by omega) (Ev.pos (by omega) ?_)
  refine Ev.bind (Ev.is (by rw [rin_eq,rd_get _ j hj])) ?_
  cases hq:okIn b.f2[j] (-600) 600 with
  |false=>exact Ev.neg (by simp) (Ev.now _)
  |true=>
   rw [hq] at hbad
   refine Ev.pos rfl ?_
   rw [wrap_id (by omega)]
   exact refroad_bad l p q n i b hb m (j+1) (by omega) (by simpa using hbad)
theorem refSky_loop (l:List S83) (p q n:Int) (hl:l.length≤1000000):∀ m i:Nat,i+m=l.length →
  Ev (fun k=>tr_Sky.l0 k (i:Int) l p q n) ((l.drop i).all okBody && (okIn (l.length:Int) 2 4 && (okPeriod p q && okPlace n)))
 |0,i,h=>by
  rw [show i=l.length by omega,List.drop_length]
  refine Ev.step (fun k=>by rw [tr_Sky.l0]) ?_
  refine Ev.neg (by omega) (Ev.bind (Ev.is (rin_eq _ _ _)) ?_)
  cases h1:okIn (l.length:Int) 2 4 with
  |false=>exact Ev.neg (by simp) (Ev.now _)
  |true=>
   refine Ev.pos rfl (Ev.bind (Ev.is (period_eq _ _)) ?_)
   cases h2:okPeriod p q with
   |false=>exact Ev.neg (by simp) (Ev.now _)
   |true=>
    refine Ev.pos rfl (Ev.bind (Ev.is (Spot_eq _)) ?_)
    simp only [List.all_nil,Bool.true_and]
    exact Ev.now _
 |m+1,i,h=>by
  have hi:i<l.length:=by omega
  rw [List.drop_eq_getElem_cons hi,List.all_cons]
  have ih:=refSky_loop l p q n hl m (i+1) (by omega)
  refine Ev.step (fun k=>by rw [tr_Sky.l0]) ?_
  refine Ev.pos (by omega) (Ev.pos (by omega) ?_)
  rw [rdT_get l i hi]
  generalize l[i]=b
  have bad:∀ R:Bool,Ev (fun k=>tr_Sky.j1 k (i:Int) true l p q n b.f0.f0 b.f0.f1 b.f1 b.f2) (false && R):=fun R=>by
   refine Ev.step (fun k=>by rw [tr_Sky.j1]) ?_
   exact Ev.pos rfl (Ev.now _)
  unfold okBody
  refine Ev.bind (Ev.is (period_eq _ _)) ?_
  cases h1:okPeriod b.f0.f0 b.f0.f1 with
  |false=>exact Ev.neg (by simp) (bad _)
  |true=>
   refine Ev.pos rfl (Ev.bind (Ev.is (Spot_eq _)) ?_)
   cases h2:okPlace b.f1 with
   |false=>exact Ev.neg (by simp) (bad _)
   |true=>
    refine Ev.pos rfl (Ev.bind (Ev.is (rin_eq _ _ _)) ?_)
    cases h3:okIn (b.f2.length:Int) 1 8 with
    |false=>exact bad _
    |true=>
     have hbl:b.f2.length≤1000000:=by simp [okIn] at h3;omega
     refine Ev.step (fun k=>by rw [tr_Sky.j1]) ?_
     refine Ev.neg (by simp) ?_
     cases h4:okRoad b.f2 with
     |false=>exact refroad_bad l p q n i b hbl b.f2.length 0 (by omega) (by simpa [okRoad] using h4)
     |true=>
      simp only [Bool.true_and]
      have h5:∀ x∈b.f2,okIn x (-600) 600=true:=by
       intro x hx
       unfold okRoad at h4
       cases hq:okIn x (-600) 600 with
       |true=>rfl
       |false=>
        have:b.f2.any (fun n=>!okIn n (-600) 600)=true:=List.any_eq_true.mpr ⟨x,hx,by simp [hq]⟩
        rw [this] at h4
        cases h4
      refine refroad_ok l p q n i b hbl _ h5 ?_ b.f2.length 0 (by omega)
      rw [wrap_id (by omega)]
      exact ih
theorem any_all (f:S83→Bool) (l:List S83):(!l.any (fun b=>!f b))=l.all f:=by
 induction l with
 |nil=>rfl
 |cons b t ih=>simp [ih]
theorem refSky_ev (l:List S83) (p q n:Int) (hl:l.length≤1000000):Ev (fun k=>tr_Sky.f k l p q n) (okSky l p q n):=by
 have h:=refSky_loop l p q n hl l.length 0 (by omega)
 rw [List.drop_zero] at h
 have e:okSky l p q n=(l.all okBody && (okIn (l.length:Int) 2 4 && (okPeriod p q && okPlace n))):=by
  unfold okSky
  rw [any_all]
  cases l.all okBody <;> cases okIn (l.length:Int) 2 4 <;> cases okPeriod p q <;> cases okPlace n <;> rfl
 rw [e]
 exact h
theorem short_ev (l:List S83) (p q n:Int):∃ b,Ev (fun k=>tl_short.f k l p q n) b∧(b=true→l.length≤6):=by
 have key:∀ m i:Nat,i+m=7→∃ b,Ev (fun k=>tl_short.l0 k (i:Int) l p q n) b∧(b=true→l.length≤6):=by
  intro m
  induction m with
  |zero=>
   intro i h
   have fin:∀ c:Bool,c=false→Ev (fun k=>tl_short.j1 k (i:Int) c l p q n) (decide ((l.length:Int)≤6)):=fun c hc=>by
    refine Ev.step (fun k=>by rw [tl_short.j1]) ?_
    exact Ev.neg (by simp [hc]) (Ev.now _)
   refine ⟨decide ((l.length:Int)≤6),?_,fun h=>by have:=of_decide_eq_true h;omega⟩
   refine Ev.step (fun k=>by rw [tl_short.l0]) ?_
   by_cases hi:(i:Int)<(l.length:Int)
   ·exact Ev.pos hi (fin _ (decide_eq_false (by omega)))
   ·exact Ev.neg hi (fin _ rfl)
  |succ m ih=>
   intro i h
   by_cases hi:(i:Int)<(l.length:Int)
   ·by_cases hr:((rd_T83 l (i:Int)).f2.length:Int) > 10
    ·refine ⟨false,?_,fun h=>by cases h⟩
     refine Ev.step (fun k=>by rw [tl_short.l0]) (Ev.pos hi ?_)
     refine Ev.step (fun k=>by rw [tl_short.j1]) (Ev.pos (by simp;omega) ?_)
     exact Ev.pos (by omega) (Ev.pos hi (Ev.pos hr (Ev.now _)))
    ·obtain ⟨b,hb,hb6⟩:=ih (i+1) (by omega)
     refine ⟨b,?_,hb6⟩
     refine Ev.step (fun k=>by rw [tl_short.l0]) (Ev.pos hi ?_)
     refine Ev.step (fun k=>by rw [tl_short.j1]) (Ev.pos (by simp;omega) ?_)
     refine Ev.pos (by omega) (Ev.pos hi (Ev.neg hr ?_))
     rw [wrap_id (by omega)]
     exact hb
   ·refine ⟨decide ((l.length:Int)≤6),?_,fun h=>by have:=of_decide_eq_true h;omega⟩
    refine Ev.step (fun k=>by rw [tl_short.l0]) (Ev.neg hi ?_)
    refine Ev.step (fun k=>by rw [tl_short.j1]) ?_
    exact Ev.neg (by simp) (Ev.now _)
 unfold tl_short.f
 exact key 7 0 rfl
end Go.Proofs.YtaidphhkhddemaaGreatDoor.PSky
end
section
namespace Go.Proofs.YtaidphhkhddemaaGreatDoor.PSky
open Go.RowKit Go.Proofs.YtaidphhkhddemaaGreatDoorW.PrintWords Go.Proofs.YtaidphhkhddemaaGreatDoorW.PrintLast Go.Proofs.YtaidphhkhddemaaGreatDoorW.PrintMore
theorem tquot {a b:Int} (hb:0<b):(Int.tmod a b<0→a / b=Int.tdiv a b - 1∧a % b=Int.tmod a b+b)∧(0≤Int.tmod a b→a / b=Int.tdiv a b∧a % b=Int.tmod a b):=by
 have h1:=Int.tmod_add_mul_tdiv a b
 have h2:=Int.tmod_lt_of_pos a hb
 have h3:=Int.lt_tmod_of_pos a hb
 refine ⟨fun h=>?_,fun h=>?_⟩
 ·exact (Int.ediv_emod_unique hb).mpr ⟨by rw [Int.mul_sub,Int.mul_one];omega,by omega,by omega⟩
 ·exact (Int.ediv_emod_unique hb).mpr ⟨by omega,h,h2⟩
theorem tdiv_le {a b:Int} (hb:0<b) {m:Int} (ha:-m≤a∧a≤m) (hm:0≤m):-m - 1≤a / b∧a / b≤m:=by
 constructor
 ·have:(-m - 1)≤a / b:=by
   rw [Int.le_ediv_iff_mul_le hb]
   have:=Int.mul_le_mul_of_nonneg_left (show (1:Int)≤b by omega) (show (0:Int)≤m+1 by omega)
   have e:(-m - 1)*b = -((m+1)*b):=by rw [← Int.neg_mul];congr 1;omega
   omega
  exact this
 ·have:a / b≤m:=by
   have h1:a / b*b≤a:=Int.ediv_mul_le a (by omega)
   rcases Int.lt_or_le (a / b) 0 with h|h
   ·omega
   ·have:=Int.mul_le_mul_of_nonneg_left (show (1:Int)≤b by omega) h
    omega
  exact this
theorem floor_eq {a b:Int} (hb:0<b) (hb2:b≤1000000000000) (ha:-1000000000000000000≤a∧a≤1000000000000000000):sky_floor.f a b=some (a / b,a % b):=by
 have q:=tdiv_le hb ha (by decide)
 have m0:=Int.emod_nonneg a (show b≠0 by omega)
 have m1:=Int.emod_lt_of_pos a hb
 unfold sky_floor.f
 rw [if_neg (by omega)]
 by_cases h:Int.tmod a b<0
 ·obtain ⟨e1,e2⟩:=(tquot (a:=a) hb).1 h
  rw [if_pos h,e1,e2]
  rw [e1] at q
  rw [e2] at m0 m1
  rw [wrap_id (show -9223372036854775808≤a.tdiv b∧a.tdiv b≤9223372036854775807 by omega),wrap_id (by omega),wrap_id (by omega)]
 ·obtain ⟨e1,e2⟩:=(tquot (a:=a) hb).2 (by omega)
  rw [if_neg h,e1,e2]
  rw [e1] at q
  rw [wrap_id (show -9223372036854775808≤a.tdiv b∧a.tdiv b≤9223372036854775807 by omega)]
theorem around_eq {a:Int} (ha:-1000000000000000000≤a∧a≤1000000000000000000):sky_around.f a=some (a % 21600):=by
 unfold sky_around.f
 rw [floor_eq (by decide) (by decide) ha]
 rfl
theorem down_eq {a b:Int} (hb:0<b) (hb2:b≤1000000) (ha:-1000000000000≤a∧a≤1000000000000):tr_down.f a b=some (a / b):=by
 have q:=tdiv_le hb ha (by decide)
 have h0:=Int.tmod_add_mul_tdiv a b
 have h2:=Int.tmod_lt_of_pos a hb
 have h3:=Int.lt_tmod_of_pos a hb
 have e0:a.tdiv b*b=b*a.tdiv b:=Int.mul_comm _ _
 unfold tr_down.f
 rw [if_neg (by omega)]
 by_cases h:Int.tmod a b<0
 ·obtain ⟨e1,e2⟩:=(tquot (a:=a) hb).1 h
  rw [e1] at q ⊢
  rw [wrap_id (show -9223372036854775808≤a.tdiv b∧a.tdiv b≤9223372036854775807 by omega),wrap_id (show -9223372036854775808≤a.tdiv b*b∧a.tdiv b*b≤9223372036854775807 by omega),if_pos (by omega),wrap_id (by omega)]
 ·obtain ⟨e1,e2⟩:=(tquot (a:=a) hb).2 (by omega)
  rw [e1] at q ⊢
  rw [wrap_id (show -9223372036854775808≤a.tdiv b∧a.tdiv b≤9223372036854775807 by omega),wrap_id (show -9223372036854775808≤a.tdiv b*b∧a.tdiv b*b≤9223372036854775807 by omega),if_neg (by omega)]
theorem Less_eq {a:Int} (ha:-1000000000000≤a∧a≤1000000000000):tr_Less.f a=some (a % 21600):=by
 unfold tr_Less.f
 rw [down_eq (by decide) (by decide) ha,Option.bind_some]
 have h1:=Int.emod_add_mul_ediv a 21600
 have h2:=Int.emod_nonneg a (show (21600:Int)≠0 by decide)
 have h3:=Int.emod_lt_of_pos a (show (0:Int)<21600 by decide)
 rw [wrap_id (show -9223372036854775808≤a / 21600*21600∧a / 21600*21600≤9223372036854775807 by omega),wrap_id (by omega)]
 congr 1
 omega
def goneOf (p q d:Int):Int:=d*21600*q / p
def meanOf (b:S83) (d:Int):Int:=b.f1+goneOf b.f0.f0 b.f0.f1 d
def stepOf (b:S83) (d:Int):Int:=(meanOf b d % 21600)*(b.f2.length:Int)
def wayOf (b:S83) (d:Int):Int:=
 meanOf b d+rd b.f2 (stepOf b d / 21600)+(rd b.f2 ((stepOf b d / 21600+1) % (b.f2.length:Int)) - rd b.f2 (stepOf b d / 21600))*(stepOf b d % 21600) / 21600
theorem okIn_iff {a b c:Int}:okIn a b c=true ↔ b≤a∧a≤c:=by simp [okIn]
theorem period_of {p q:Int} (h:okPeriod p q=true):1≤p∧p≤10000∧1≤q∧q≤10000∧4*q≤p:=by
 simp only [okPeriod,Bool.and_eq_true,okIn_iff,decide_eq_true_eq] at h
 omega
theorem gone_bounds {p q d:Int} (h:okPeriod p q=true) (hd:0≤d∧d≤20000):0≤goneOf p q d∧goneOf p q d≤108000000∧0≤d*21600*q∧d*21600*q≤4320000000000:=by
 have hp:=period_of h
 have h1:d*21600*q=d*q*21600:=by rw [Int.mul_assoc,Int.mul_comm 21600 q,← Int.mul_assoc]
 have h0:0≤d*q:=Int.mul_nonneg hd.1 (by omega)
 have h2:d*q≤20000*q:=Int.mul_le_mul_of_nonneg_right hd.2 (by omega)
 refine ⟨Int.ediv_nonneg (by omega) (by omega),?_,by omega,by omega⟩
 unfold goneOf
 have h3:d*21600*q / p*p≤d*21600*q:=Int.ediv_mul_le _ (by omega)
 rcases Int.lt_or_le (d*21600*q / p) 108000001 with h4|h4
 ·omega
 ·have h5:=Int.mul_le_mul h4 (show 4*q≤p by omega) (by omega) (by omega)
  have h6:108000001*(4*q)=432000004*q:=by omega
  omega
theorem mean_bounds {b:S83} {d:Int} (h:okBody b=true) (hd:0≤d∧d≤20000):0≤meanOf b d∧meanOf b d≤108021599:=by
 simp only [okBody,Bool.and_eq_true,okPlace,okIn_iff] at h
 have:=gone_bounds h.1 hd
 unfold meanOf
 omega
theorem road_bounds {b:S83} (h:okBody b=true) (i:Int):-600≤rd b.f2 i∧rd b.f2 i≤600:=by
 simp only [okBody,Bool.and_eq_true] at h
 have h4:=h.2.2.2
 unfold rd
 rw [List.getD_eq_getElem?_getD]
 cases hq:b.f2[i.toNat]? with
 |none=>decide
 |some x=>
  have hx:=List.mem_of_getElem? hq
  have:okIn x (-600) 600=true:=by
   cases h5:okIn x (-600) 600 with
   |true=>rfl
   |false=>
    unfold okRoad at h4
    rw [List.any_eq_true.mpr ⟨x,hx,by simp [h5]⟩] at h4
    cases h4
  exact okIn_iff.mp this
theorem body_len {b:S83} (h:okBody b=true):1≤b.f2.length∧b.f2.length≤8:=by
 simp only [okBody,Bool.and_eq_true,okIn_iff] at h
 omega
theorem step_bounds {b:S83} {d:Int} (h:okBody b=true):0≤stepOf b d∧stepOf b d≤172800∧0≤stepOf b d / 21600∧stepOf b d / 21600<(b.f2.length:Int):=by
 have hl:=body_len h
 have h2:=Int.emod_nonneg (meanOf b d) (show (21600:Int)≠0 by decide)
 have h3:=Int.emod_lt_of_pos (meanOf b d) (show (0:Int)<21600 by decide)
 unfold stepOf
 generalize meanOf b d % 21600=x at h2 h3 ⊢
 have h4:0≤x*(b.f2.length:Int):=Int.mul_nonneg h2 (by omega)
 have h5:x*(b.f2.length:Int)≤21599*(b.f2.length:Int):=Int.mul_le_mul_of_nonneg_right (by omega) (by omega)
 refine ⟨h4,by omega,by omega,by omega⟩
theorem gone_eq (l:List S83) (a1 a2 a3:Int) {p q d:Int} (h:okPeriod p q=true) (hd:0≤d∧d≤20000):ss_gone.f l a1 a2 a3 d p q=some (goneOf p q d):=by
 have hg:=gone_bounds h hd
 have hp:=period_of h
 unfold ss_gone.f
 rw [wrap_id (show -9223372036854775808≤d*21600∧d*21600≤9223372036854775807 by omega),wrap_id (by omega),floor_eq (by omega) (by omega) (by omega)]
 rfl
theorem sum2_ev (a b:Int) (h:-1000000000≤a∧a≤1000000000) (h':-1000000000≤b∧b≤1000000000):Ev (fun k=>sky_sum.f k [a,b]) (a+b):=by
 unfold sky_sum.f
 rw [show (([a,b].length:Nat):Int)=2 from rfl]
 have w1:wrap64 (0+1)=1:=by kernel_rfl
 have w2:wrap64 (1+1)=2:=by kernel_rfl
 refine Ev.step (fun k=>by rw [sky_sum.l0]) ?_
 refine Ev.pos (by decide) (Ev.pos (by decide) (Ev.pos (by show (0:Int)<2;decide) ?_))
 rw [w1]
 refine Ev.step (fun k=>by rw [sky_sum.l0]) ?_
 refine Ev.pos (by decide) (Ev.pos (by decide) (Ev.pos (by show (1:Int)<2;decide) ?_))
 rw [w2]
 refine Ev.step (fun k=>by rw [sky_sum.l0]) ?_
 refine Ev.neg (by decide) ?_
 rw [show rd [a,b] 0=a from rfl,show rd [a,b] 1=b from rfl,wrap_id (show -9223372036854775808≤0+a∧0+a≤9223372036854775807 by omega),wrap_id (by omega),Int.zero_add]
 exact Ev.now _
theorem sum3_ev (a b c:Int) (h:-1000000000≤a∧a≤1000000000) (h':-1000000000≤b∧b≤1000000000) (h'':-1000000000≤c∧c≤1000000000):Ev (fun k=>sky_sum.f k [a,b,c]) (a+b+c):=by
 unfold sky_sum.f
 rw [show (([a,b,c].length:Nat):Int)=3 from rfl]
 have w1:wrap64 (0+1)=1:=by kernel_rfl
 have w2:wrap64 (1+1)=2:=by kernel_rfl
 have w3:wrap64 (2+1)=3:=by kernel_rfl
 refine Ev.step (fun k=>by rw [sky_sum.l0]) ?_
 refine Ev.pos (by decide) (Ev.pos (by decide) (Ev.pos (by show (0:Int)<3;decide) ?_))
 rw [w1]
 refine Ev.step (fun k=>by rw [sky_sum.l0]) ?_
 refine Ev.pos (by decide) (Ev.pos (by decide) (Ev.pos (by show (1:Int)<3;decide) ?_))
 rw [w2]
 refine Ev.step (fun k=>by rw [sky_sum.l0]) ?_
 refine Ev.pos (by decide) (Ev.pos (by decide) (Ev.pos (by show (2:Int)<3;decide) ?_))
 rw [w3]
 refine Ev.step (fun k=>by rw [sky_sum.l0]) ?_
 refine Ev.neg (by decide) ?_
 rw [show rd [a,b,c] 0=a from rfl,show rd [a,b,c] 1=b from rfl,show rd [a,b,c] 2=c from rfl,wrap_id (show -9223372036854775808≤0+a∧0+a≤9223372036854775807 by omega),wrap_id (show -9223372036854775808≤0+a+b∧0+a+b≤9223372036854775807 by omega),wrap_id (by omega),Int.zero_add]
 exact Ev.now _
theorem mean_ev (l:List S83) (a1 a2 a3 d:Int) (i:Nat) (hi:i<l.length) (h:okBody l[i]=true) (hd:0≤d∧d≤20000):Ev (fun k=>ss_mean.f k l a1 a2 a3 d (i:Int)) (meanOf l[i] d):=by
 unfold ss_mean.f
 refine Ev.pos (by omega) (Ev.pos (by omega) ?_)
 rw [rdT_get l i hi]
 generalize l[i]=b at h
 have hp:okPeriod b.f0.f0 b.f0.f1=true:=by simp only [okBody,Bool.and_eq_true] at h;exact h.1
 have hs:0≤b.f1∧b.f1≤21599:=by simp only [okBody,Bool.and_eq_true,okPlace,okIn_iff] at h;exact h.2.1
 have hg:=gone_bounds hp hd
 refine Ev.bind (Ev.is (gone_eq l a1 a2 a3 hp hd)) (Ev.bind (sum2_ev _ _ (by omega) (by omega)) (Ev.now _))
theorem way_ev (l:List S83) (a1 a2 a3 d:Int) (i:Nat) (hi:i<l.length) (h:okBody l[i]=true) (hd:0≤d∧d≤20000):Ev (fun k=>ss_way.f k l a1 a2 a3 d (i:Int)) (wayOf l[i] d):=by
 have hm:=mean_ev l a1 a2 a3 d i hi h hd
 unfold ss_way.f
 refine Ev.pos (by omega) (Ev.pos (by omega) (Ev.bind hm ?_))
 rw [rdT_get l i hi]
 generalize l[i]=b at h
 have hmb:=mean_bounds h hd
 have hl:=body_len h
 have hs:=step_bounds (d:=d) h
 refine Ev.bind (Ev.is (around_eq (by omega))) ?_
 rw [show meanOf b d % 21600*(b.f2.length:Int)=stepOf b d from rfl,wrap_id (show -9223372036854775808≤stepOf b d∧stepOf b d≤9223372036854775807 by omega)]
 refine Ev.bind (Ev.is (floor_eq (by decide) (by decide) (by omega))) ?_
 simp only
 rw [wrap_id (show -9223372036854775808≤stepOf b d / 21600+1∧stepOf b d / 21600+1≤9223372036854775807 by omega)]
 have ht:Int.tmod (stepOf b d / 21600+1) (b.f2.length:Int)=(stepOf b d / 21600+1) % (b.f2.length:Int):=Int.tmod_eq_emod_of_nonneg (by omega)
 rw [ht]
 have h2:=Int.emod_nonneg (stepOf b d / 21600+1) (show (b.f2.length:Int)≠0 by omega)
 have h3:=Int.emod_lt_of_pos (stepOf b d / 21600+1) (show (0:Int)<(b.f2.length:Int) by omega)
 refine Ev.neg (by omega) (Ev.pos h2 (Ev.pos h3 (Ev.pos hs.2.2.1 (Ev.pos hs.2.2.2 ?_))))
 have r1:=road_bounds h (stepOf b d / 21600)
 have r2:=road_bounds h ((stepOf b d / 21600+1) % (b.f2.length:Int))
 have p0:=Int.emod_nonneg (stepOf b d) (show (21600:Int)≠0 by decide)
 have p1:=Int.emod_lt_of_pos (stepOf b d) (show (0:Int)<21600 by decide)
 unfold wayOf
 generalize rd b.f2 (stepOf b d / 21600)=x at r1 ⊢
 generalize rd b.f2 ((stepOf b d / 21600+1) % (b.f2.length:Int))=y at r2 ⊢
 generalize stepOf b d % 21600=z at p0 p1 ⊢
 have q:-25920000≤(y - x)*z∧(y - x)*z≤25920000:=by
  constructor
  ·have:=Int.mul_le_mul_of_nonneg_right (show -1200≤y - x by omega) p0
   omega
  ·have:=Int.mul_le_mul_of_nonneg_right (show y - x≤1200 by omega) p0
   omega
 rw [wrap_id (show -9223372036854775808≤y - x∧y - x≤9223372036854775807 by omega),wrap_id (show -9223372036854775808≤(y - x)*z∧(y - x)*z≤9223372036854775807 by omega)]
 refine Ev.bind (Ev.is (floor_eq (by decide) (by decide) (by omega))) (Ev.bind (sum3_ev _ _ _ (by omega) (by omega) (by simp only;omega)) (Ev.now _))
theorem way_bounds {b:S83} {d:Int} (h:okBody b=true) (hd:0≤d∧d≤20000):-2000≤wayOf b d∧wayOf b d≤108030000:=by
 have hmb:=mean_bounds h hd
 have r1:=road_bounds h (stepOf b d / 21600)
 have r2:=road_bounds h ((stepOf b d / 21600+1) % (b.f2.length:Int))
 have p0:=Int.emod_nonneg (stepOf b d) (show (21600:Int)≠0 by decide)
 have p1:=Int.emod_lt_of_pos (stepOf b d) (show (0:Int)<21600 by decide)
 unfold wayOf
 generalize rd b.f2 (stepOf b d / 21600)=x at r1 ⊢
 generalize rd b.f2 ((stepOf b d / 21600+1) % (b.f2.length:Int))=y at r2 ⊢
 generalize stepOf b d % 21600=z at p0 p1 ⊢
 have q:-25920000≤(y - x)*z∧(y - x)*z≤25920000:=by
  constructor
  ·have:=Int.mul_le_mul_of_nonneg_right (show -1200≤y - x by omega) p0
   omega
  ·have:=Int.mul_le_mul_of_nonneg_right (show y - x≤1200 by omega) p0
   omega
 omega
end Go.Proofs.YtaidphhkhddemaaGreatDoor.PSky
end
section
namespace Go.Proofs.YtaidphhkhddemaaGreatDoor.PSky
open Go.RowKit Go.Proofs.YtaidphhkhddemaaGreatDoorW.PrintWords Go.Proofs.YtaidphhkhddemaaGreatDoorW.PrintLast Go.Proofs.YtaidphhkhddemaaGreatDoorW.PrintMore
def aheadOf (l:List S83) (i j:Nat) (d:Int):Int:=wayOf (rd_T83 l (i:Int)) d - wayOf (rd_T83 l (j:Int)) d
theorem ok_at {l:List S83} {p q n:Int} (h:okSky l p q n=true):2≤l.length∧l.length≤4∧okPeriod p q=true∧okPlace n=true∧∀ i:Nat,i<l.length→okBody (rd_T83 l (i:Int))=true:=by
 simp only [okSky,Bool.and_eq_true,okIn_iff] at h
 refine ⟨by omega,by omega,h.2.1,h.2.2.1,fun i hi=>?_⟩
 have h4:=h.2.2.2
 rw [any_all] at h4
 rw [rdT_get l i hi]
 exact List.all_eq_true.mp h4 _ (List.getElem_mem hi)
theorem wayT_ev {l:List S83} {p q n:Int} (h:okSky l p q n=true) (i:Nat) (hi:i<l.length) {d:Int} (hd:0≤d∧d≤20000):Ev (fun k=>ss_way.f k l p q n d (i:Int)) (wayOf (rd_T83 l (i:Int)) d):=by
 have hb:=(ok_at h).2.2.2.2 i hi
 rw [rdT_get l i hi] at hb ⊢
 exact way_ev l p q n d i hi hb hd
theorem ahead_bounds {l:List S83} {p q n:Int} (h:okSky l p q n=true) (i j:Nat) (hi:i<l.length) (hj:j<l.length) {d:Int} (hd:0≤d∧d≤20000):-200000000≤aheadOf l i j d∧aheadOf l i j d≤200000000:=by
 obtain ⟨-,-,-,-,hb⟩:=ok_at h
 have b1:=way_bounds (hb i hi) hd
 have b2:=way_bounds (hb j hj) hd
 unfold aheadOf
 omega
theorem Ev.all {α β:Type} (g:α→Nat→Option β) (r:α→β):∀ l:List α,(∀ d∈l,Ev (g d) (r d))→∃ K,∀ k,K≤k→∀ d∈l,g d k=Option.some (r d)
 |[],_=>⟨0,fun _ _ d h=>by cases h⟩
 |x :: t,h=>by
  obtain ⟨K1,h1⟩:=h x (List.mem_cons_self ..)
  obtain ⟨K2,h2⟩:=Ev.all g r t (fun d hd=>h d (List.mem_cons_of_mem _ hd))
  refine ⟨max K1 K2,fun k hk d hd=>?_⟩
  rcases List.mem_cons.mp hd with rfl|hd
  ·exact h1 k (by omega)
  ·exact h2 k (by omega) d hd
end Go.Proofs.YtaidphhkhddemaaGreatDoor.PSky
end
section
namespace Go.Proofs.YtaidphhkhddemaaGreatDoor.PSky
open Go.RowKit Go.Proofs.YtaidphhkhddemaaGreatDoorW.PrintWords Go.Proofs.YtaidphhkhddemaaGreatDoorW.PrintLast Go.Proofs.YtaidphhkhddemaaGreatDoorW.PrintMore
theorem known_ev:Ev (fun _=>tl_known.f.bind fun t=>some t) true:=Ev.now true
end Go.Proofs.YtaidphhkhddemaaGreatDoor.PSky
end
section
namespace Go.Proofs.YtaidphhkhddemaaGreatDoor.PSky
open Go.RowKit Go.Proofs.YtaidphhkhddemaaGreatDoorW.PrintWords Go.Proofs.YtaidphhkhddemaaGreatDoorW.PrintLast Go.Proofs.YtaidphhkhddemaaGreatDoorW.PrintMore
def okDay (n:Int):Bool:=okIn n 0 20000
theorem isDay_eq (n:Int):sky_isDay.f n=some (okDay n):=by unfold sky_isDay.f;rw [in_eq];rfl
theorem Day_eq (n:Int):tr_Day.f n=some (okDay n):=isDay_eq n
def apartOf (a b:Int):Int:=mn ((a - b) % 21600) (21600 - (a - b) % 21600)
theorem Apart_eq {a b:Int} (ha:0≤a∧a<21600) (hb:0≤b∧b≤21599):tr_Apart.f a b=some (apartOf a b):=by
 unfold tr_Apart.f apartOf
 rw [wrap_id (by omega),Less_eq (by omega),Option.bind_some,wrap_id (by omega)]
end Go.Proofs.YtaidphhkhddemaaGreatDoor.PSky
end
section
namespace Go.Proofs.YtaidphhkhddemaaGreatDoor.PSky
open Go.RowKit Go.Proofs.YtaidphhkhddemaaGreatDoorW.PrintWords Go.Proofs.YtaidphhkhddemaaGreatDoorW.PrintLast Go.Proofs.YtaidphhkhddemaaGreatDoorW.PrintMore
attribute [local go_sem] max2_int min2_int max_two min_two max_three min_three max_four min_four
set_option linter.unusedVariables false
set_option linter.unusedSimpArgs false
mutual
def tl_SkyEven.j0:Nat→Int→Int→Int→Bool→List (S83)→Int→Int→Int→Option (Bool)
 |0,_,_,_,_,_,_,_,_=>none
 |k+1,x1,x2,x3,x52,x460000,x460001,x460002,x460003=>if x52=true then ((tl_known.f).bind fun t465=>(some t465)) else ((sky_Mean.f k x460000 x460001 x460002 x460003 x1 x3).bind fun bt466=>((sky_Place.f k x460000 x460001 x460002 x460003 x1 x3).bind fun bt468=>((sky_Place.f k x460000 x460001 x460002 x460003 x1 (wrap64 (x3+1))).bind fun bt470=>((sky_Place.f k x460000 x460001 x460002 x460003 x2 x3).bind fun bt472=>((sky_Between.f k x460000 x460001 x460002 x460003 x1 x2 x3).bind fun bt474=>(if bt466.2=0 then (if bt468.2=0 then (if bt470.2=0 then (if bt472.2=0 then (if bt474.2=0 then ((tr_Spot.f bt466.1).bind fun t476=>(if t476=true then ((tr_Spot.f bt468.1).bind fun t477=>(if t477=true then ((tr_Spot.f bt470.1).bind fun t478=>(if t478=true then ((tr_Spot.f bt472.1).bind fun t479=>(tl_SkyEven.j1 k bt466.1 bt468.1 bt470.1 bt472.1 bt474.1 (!t479))) else (tl_SkyEven.j1 k bt466.1 bt468.1 bt470.1 bt472.1 bt474.1 true))) else (tl_SkyEven.j1 k bt466.1 bt468.1 bt470.1 bt472.1 bt474.1 true))) else (tl_SkyEven.j1 k bt466.1 bt468.1 bt470.1 bt472.1 bt474.1 true))) else (tl_SkyEven.j1 k bt466.1 bt468.1 bt470.1 bt472.1 bt474.1 true)) else (tl_SkyEven.j1 k bt466.1 bt468.1 bt470.1 bt472.1 bt474.1 true)) else (tl_SkyEven.j1 k bt466.1 bt468.1 bt470.1 bt472.1 bt474.1 true)) else (tl_SkyEven.j1 k bt466.1 bt468.1 bt470.1 bt472.1 bt474.1 true)) else (tl_SkyEven.j1 k bt466.1 bt468.1 bt470.1 bt472.1 bt474.1 true)))))))
def tl_SkyEven.j1:Nat→Int→Int→Int→Int→Int→Bool→Option (Bool)
 |0,_,_,_,_,_,_=>none
 |k+1,x9,x11,x13,x15,x17,x128=>if x128=true then (some false) else ((tr_Apart.f x9 x11).bind fun t480=>(if t480≤600 then ((tr_Less.f (wrap64 (x13 - x11))).bind fun t481=>(if t481<10800 then ((tr_Less.f (wrap64 (x11 - x15))).bind fun t482=>(if x17=t482 then ((tl_known.f).bind fun t483=>(some t483)) else (some false))) else (some false))) else (some false)))
end
def tl_SkyEven.f (k:Nat) (l0_0:List (S83)) (a0_1:Int) (a0_2:Int) (a0_3:Int) (a1:Int) (a2:Int) (a3:Int):Option (Bool):=(tl_short.f k l0_0 a0_1 a0_2 a0_3).bind fun t460=>(if t460=true then ((tr_Sky.f k l0_0 a0_1 a0_2 a0_3).bind fun t461=>(if t461=true then ((tr_Body.f l0_0 a0_1 a0_2 a0_3 a1).bind fun t462=>(if t462=true then ((tr_Body.f l0_0 a0_1 a0_2 a0_3 a2).bind fun t463=>(if t463=true then (if a1=a2 then (tl_SkyEven.j0 k a1 a2 a3 true l0_0 a0_1 a0_2 a0_3) else ((tr_Day.f a3).bind fun t464=>(if t464=true then (tl_SkyEven.j0 k a1 a2 a3 (a3 == 20000) l0_0 a0_1 a0_2 a0_3) else (tl_SkyEven.j0 k a1 a2 a3 true l0_0 a0_1 a0_2 a0_3)))) else (tl_SkyEven.j0 k a1 a2 a3 true l0_0 a0_1 a0_2 a0_3))) else (tl_SkyEven.j0 k a1 a2 a3 true l0_0 a0_1 a0_2 a0_3))) else (tl_SkyEven.j0 k a1 a2 a3 true l0_0 a0_1 a0_2 a0_3))) else (tl_SkyEven.j0 k a1 a2 a3 true l0_0 a0_1 a0_2 a0_3))
set_option maxHeartbeats 8000000 in
set_option maxRecDepth 100000 in
theorem tl_SkyEven.calls (k:Nat) (A0_0:Option Addr) (c0_0:Nat) (l0_0:List (S83)) (a0_1:Int) (a0_2:Int) (a0_3:Int) (a1:Int) (a2:Int) (a3:Int) (r:Bool) (w:World) (hr0_0:Kd.C k83 w A0_0 l0_0.length l0_0) (hc0_0:l0_0.length≤c0_0) (h:tl_SkyEven.f k l0_0 a0_1 a0_2 a0_3 a1 a2 a3=some r) (hLD:LD w):
  Calls Tryz.prog 8 #[.agg #[.slice A0_0 l0_0.length c0_0,.int .i64 a0_1,.int .i64 a0_2,.int .i64 a0_3],.int .i64 a1,.int .i64 a2,.int .i64 a3] w fun e w'=>e=.returned (.bool r)∧Below w.heap.size w w':=by
 have HLD:=A0_ hLD;clear hLD
 have hu28:=Tryz.underlying28
 have HR0_0:=A0_ hr0_0;have HC0_0:=A0_ hc0_0;clear hr0_0 hc0_0
 have HB:=A0_ (Below.refl w.heap.size w)
 have H:((tl_short.f k l0_0 a0_1 a0_2 a0_3).bind fun t460=>(if t460=true then ((tr_Sky.f k l0_0 a0_1 a0_2 a0_3).bind fun t461=>(if t461=true then ((tr_Body.f l0_0 a0_1 a0_2 a0_3 a1).bind fun t462=>(if t462=true then ((tr_Body.f l0_0 a0_1 a0_2 a0_3 a2).bind fun t463=>(if t463=true then (if a1=a2 then (tl_SkyEven.j0 k a1 a2 a3 true l0_0 a0_1 a0_2 a0_3) else ((tr_Day.f a3).bind fun t464=>(if t464=true then (tl_SkyEven.j0 k a1 a2 a3 (a3 == 20000) l0_0 a0_1 a0_2 a0_3) else (tl_SkyEven.j0 k a1 a2 a3 true l0_0 a0_1 a0_2 a0_3)))) else (tl_SkyEven.j0 k a1 a2 a3 true l0_0 a0_1 a0_2 a0_3))) else (tl_SkyEven.j0 k a1 a2 a3 true l0_0 a0_1 a0_2 a0_3))) else (tl_SkyEven.j0 k a1 a2 a3 true l0_0 a0_1 a0_2 a0_3))) else (tl_SkyEven.j0 k a1 a2 a3 true l0_0 a0_1 a0_2 a0_3)))=some r:=h
 clear h;have HC5:=A0_ H;clear H
 go_enter Tryz.func8,Tryz.ntmps8
 go_upto_region 1 with (first|((with_reducible refine gate_dst (N:=4) rfl ?_);refine box_event ?hg (N:=4) ?hd (cs:=#[.slice A0_0 l0_0.length c0_0,.int .i64 a0_1,.int .i64 a0_2,.int .i64 a0_3]) (t:=28) ?hr ?_;(case hd=>rfl);(case hg=>rfl);(case hr=>first|(go_simp;done)|(go_simp;rfl));intro gb459 hg w6 hbox hb;have n0_:=A0_ (below_step y0_ hb);have n1_:=A0_ (hbox);have n2_:=A0_ ((by rw [hg];exact (below_size y0_):w.heap.size≤gb459));have n3_:=A0_ ((by rw [hg];exact (below_size y0_):w.heap.size≤gb459));clear HB;have HB:=n0_;have BK459:=n1_;have GW459:=n2_;have GE459:=n3_;clear n0_ n1_ n2_ n3_;clear hb hbox hg))
 (try simp only [Act.put,List.setIfInBounds_toArray,List.set_cons_zero,List.set_cons_succ])
 go_cut [52] (fun v52 wc=>∃ (kq:Nat) (x52_4:Bool),v52=.bool x52_4∧Aside0 (tl_SkyEven.j0 kq a1 a2 a3 x52_4 l0_0 a0_1 a0_2 a0_3=some r)∧Aside0 (kq≤k)∧Aside0 (wc.heap[gb459]?=some (.cells #[(.slice A0_0 l0_0.length c0_0),.int .i64 a0_1,.int .i64 a0_2,.int .i64 a0_3] 28 (0,0)))∧Aside0 (Below w.heap.size w wc))
 case first=>
  have H:=HC5.out
  clear HC5;replace H:=Option.bind_eq_some_iff.mp H;obtain ⟨t460,A70,H⟩:=H
  replace H:(if t460=true then ((tr_Sky.f k l0_0 a0_1 a0_2 a0_3).bind fun t461=>(if t461=true then ((tr_Body.f l0_0 a0_1 a0_2 a0_3 a1).bind fun t462=>(if t462=true then ((tr_Body.f l0_0 a0_1 a0_2 a0_3 a2).bind fun t463=>(if t463=true then (if a1=a2 then (tl_SkyEven.j0 k a1 a2 a3 true l0_0 a0_1 a0_2 a0_3) else ((tr_Day.f a3).bind fun t464=>(if t464=true then (tl_SkyEven.j0 k a1 a2 a3 (a3 == 20000) l0_0 a0_1 a0_2 a0_3) else (tl_SkyEven.j0 k a1 a2 a3 true l0_0 a0_1 a0_2 a0_3)))) else (tl_SkyEven.j0 k a1 a2 a3 true l0_0 a0_1 a0_2 a0_3))) else (tl_SkyEven.j0 k a1 a2 a3 true l0_0 a0_1 a0_2 a0_3))) else (tl_SkyEven.j0 k a1 a2 a3 true l0_0 a0_1 a0_2 a0_3))) else (tl_SkyEven.j0 k a1 a2 a3 true l0_0 a0_1 a0_2 a0_3))=some r:=H
  have A7:=A0_ A70;clear A70
  by_cases c8:t460=true
  ·subst c8
   have H1:((tr_Sky.f k l0_0 a0_1 a0_2 a0_3).bind fun t461=>(if t461=true then ((tr_Body.f l0_0 a0_1 a0_2 a0_3 a1).bind fun t462=>(if t462=true then ((tr_Body.f l0_0 a0_1 a0_2 a0_3 a2).bind fun t463=>(if t463=true then (if a1=a2 then (tl_SkyEven.j0 k a1 a2 a3 true l0_0 a0_1 a0_2 a0_3) else ((tr_Day.f a3).bind fun t464=>(if t464=true then (tl_SkyEven.j0 k a1 a2 a3 (a3 == 20000) l0_0 a0_1 a0_2 a0_3) else (tl_SkyEven.j0 k a1 a2 a3 true l0_0 a0_1 a0_2 a0_3)))) else (tl_SkyEven.j0 k a1 a2 a3 true l0_0 a0_1 a0_2 a0_3))) else (tl_SkyEven.j0 k a1 a2 a3 true l0_0 a0_1 a0_2 a0_3))) else (tl_SkyEven.j0 k a1 a2 a3 true l0_0 a0_1 a0_2 a0_3)))=some r:=by rw [if_pos rfl] at H;exact H
   clear H;have H:=H1;clear H1;replace H:=Option.bind_eq_some_iff.mp H;obtain ⟨t461,A90,H⟩:=H
   replace H:(if t461=true then ((tr_Body.f l0_0 a0_1 a0_2 a0_3 a1).bind fun t462=>(if t462=true then ((tr_Body.f l0_0 a0_1 a0_2 a0_3 a2).bind fun t463=>(if t463=true then (if a1=a2 then (tl_SkyEven.j0 k a1 a2 a3 true l0_0 a0_1 a0_2 a0_3) else ((tr_Day.f a3).bind fun t464=>(if t464=true then (tl_SkyEven.j0 k a1 a2 a3 (a3 == 20000) l0_0 a0_1 a0_2 a0_3) else (tl_SkyEven.j0 k a1 a2 a3 true l0_0 a0_1 a0_2 a0_3)))) else (tl_SkyEven.j0 k a1 a2 a3 true l0_0 a0_1 a0_2 a0_3))) else (tl_SkyEven.j0 k a1 a2 a3 true l0_0 a0_1 a0_2 a0_3))) else (tl_SkyEven.j0 k a1 a2 a3 true l0_0 a0_1 a0_2 a0_3))=some r:=H
   have A9:=A0_ A90;clear A90
   by_cases c10:t461=true
   ·subst c10
    have H1:((tr_Body.f l0_0 a0_1 a0_2 a0_3 a1).bind fun t462=>(if t462=true then ((tr_Body.f l0_0 a0_1 a0_2 a0_3 a2).bind fun t463=>(if t463=true then (if a1=a2 then (tl_SkyEven.j0 k a1 a2 a3 true l0_0 a0_1 a0_2 a0_3) else ((tr_Day.f a3).bind fun t464=>(if t464=true then (tl_SkyEven.j0 k a1 a2 a3 (a3 == 20000) l0_0 a0_1 a0_2 a0_3) else (tl_SkyEven.j0 k a1 a2 a3 true l0_0 a0_1 a0_2 a0_3)))) else (tl_SkyEven.j0 k a1 a2 a3 true l0_0 a0_1 a0_2 a0_3))) else (tl_SkyEven.j0 k a1 a2 a3 true l0_0 a0_1 a0_2 a0_3)))=some r:=by rw [if_pos rfl] at H;exact H
    clear H;have H:=H1;clear H1;replace H:=Option.bind_eq_some_iff.mp H;obtain ⟨t462,A110,H⟩:=H
    replace H:(if t462=true then ((tr_Body.f l0_0 a0_1 a0_2 a0_3 a2).bind fun t463=>(if t463=true then (if a1=a2 then (tl_SkyEven.j0 k a1 a2 a3 true l0_0 a0_1 a0_2 a0_3) else ((tr_Day.f a3).bind fun t464=>(if t464=true then (tl_SkyEven.j0 k a1 a2 a3 (a3 == 20000) l0_0 a0_1 a0_2 a0_3) else (tl_SkyEven.j0 k a1 a2 a3 true l0_0 a0_1 a0_2 a0_3)))) else (tl_SkyEven.j0 k a1 a2 a3 true l0_0 a0_1 a0_2 a0_3))) else (tl_SkyEven.j0 k a1 a2 a3 true l0_0 a0_1 a0_2 a0_3))=some r:=H
    have A11:=A0_ A110;clear A110
    by_cases c12:t462=true
    ·subst c12
     have H1:((tr_Body.f l0_0 a0_1 a0_2 a0_3 a2).bind fun t463=>(if t463=true then (if a1=a2 then (tl_SkyEven.j0 k a1 a2 a3 true l0_0 a0_1 a0_2 a0_3) else ((tr_Day.f a3).bind fun t464=>(if t464=true then (tl_SkyEven.j0 k a1 a2 a3 (a3 == 20000) l0_0 a0_1 a0_2 a0_3) else (tl_SkyEven.j0 k a1 a2 a3 true l0_0 a0_1 a0_2 a0_3)))) else (tl_SkyEven.j0 k a1 a2 a3 true l0_0 a0_1 a0_2 a0_3)))=some r:=by rw [if_pos rfl] at H;exact H
     clear H;have H:=H1;clear H1;replace H:=Option.bind_eq_some_iff.mp H;obtain ⟨t463,A130,H⟩:=H
     replace H:(if t463=true then (if a1=a2 then (tl_SkyEven.j0 k a1 a2 a3 true l0_0 a0_1 a0_2 a0_3) else ((tr_Day.f a3).bind fun t464=>(if t464=true then (tl_SkyEven.j0 k a1 a2 a3 (a3 == 20000) l0_0 a0_1 a0_2 a0_3) else (tl_SkyEven.j0 k a1 a2 a3 true l0_0 a0_1 a0_2 a0_3)))) else (tl_SkyEven.j0 k a1 a2 a3 true l0_0 a0_1 a0_2 a0_3))=some r:=H
     have A13:=A0_ A130;clear A130
     by_cases c14:t463=true
     ·subst c14
      have H1:(if a1=a2 then (tl_SkyEven.j0 k a1 a2 a3 true l0_0 a0_1 a0_2 a0_3) else ((tr_Day.f a3).bind fun t464=>(if t464=true then (tl_SkyEven.j0 k a1 a2 a3 (a3 == 20000) l0_0 a0_1 a0_2 a0_3) else (tl_SkyEven.j0 k a1 a2 a3 true l0_0 a0_1 a0_2 a0_3))))=some r:=by rw [if_pos rfl] at H;exact H
      clear H;have H:=H1;clear H1
      by_cases c15:a1=a2
      ·rw [if_pos c15] at H
       have c15b0:(a1 == a2)=true:=beq_iff_eq.mpr c15
       have c15b1:(a1 != a2)=false:=bne_eq_false_iff_eq.mpr c15
       clear c15
       (first|rw [c15b0]|(simp only [i64_w,i32_w];rw [c15b0])|skip)
       have H':=A0_ H
       clear H;obtain ⟨hcz16_0,hcz16_1,hcz16_2,hcz16_3,hfz16_0,hfz16_1,hfz16_2,hfz16_3⟩:=bq4_ BK459.out
       go_wp2_with (first|((with_reducible refine gate_callee (f:=10) rfl ?_);refine goesL_ (some 20) rfl rfl Tryz.func10 (by kernel_rfl) rfl #[.agg #[.slice A0_0 l0_0.length c0_0,.int .i64 a0_1,.int .i64 a0_2,.int .i64 a0_3]] rfl y1_ ?_;(with_reducible refine (tl_short.calls k _ _ l0_0 a0_1 a0_2 a0_3 true _ ?side1 ?side2 A7.out).mono ?_);(case side1=>repeat (first|exact (Kd.C_below HR0_0.out HB.out)|(with_reducible refine Kd.C_alloc ?_ _)|(with_reducible refine Kd.C_drewN ?_ _)|(with_reducible refine Kd.C_drew ?_)));(case side2=>exact HC0_0.out);rintro e w17 ⟨rfl,hb⟩;refine ⟨_,rfl,?_⟩;have n0_:=A0_ (blk_below (g:=gb459) (o:=.cells #[.slice A0_0 l0_0.length c0_0,.int .i64 a0_1,.int .i64 a0_2,.int .i64 a0_3] 28 (0,0)) (bd_ BK459.out) hb);have n1_:=A0_ (below_step y6_ hb);clear BK459;clear HB;have BK459:=n0_;have HB:=n1_;clear n0_ n1_;(try clear hb);(try clear hb2);(try clear hk);(try clear hi);obtain ⟨hcz18_0,hcz18_1,hcz18_2,hcz18_3,hfz18_0,hfz18_1,hfz18_2,hfz18_3⟩:=bq4_ BK459.out)|(go_at_call 13;(with_reducible refine (tr_Sky.calls k _ _ l0_0 a0_1 a0_2 a0_3 true _ ?side1 ?side2 A9.out).mono ?_);(case side1=>repeat (first|exact (Kd.C_below HR0_0.out HB.out)|(with_reducible refine Kd.C_alloc ?_ _)|(with_reducible refine Kd.C_drewN ?_ _)|(with_reducible refine Kd.C_drew ?_)));(case side2=>exact HC0_0.out);rintro e w19 ⟨rfl,hb⟩;have n0_:=A0_ (blk_below (g:=gb459) (o:=.cells #[.slice A0_0 l0_0.length c0_0,.int .i64 a0_1,.int .i64 a0_2,.int .i64 a0_3] 28 (0,0)) (bd_ BK459.out) hb);have n1_:=A0_ (below_step y6_ hb);clear BK459;clear HB;have BK459:=n0_;have HB:=n1_;clear n0_ n1_;(try clear hb);(try clear hb2);(try clear hk);(try clear hi);obtain ⟨hcz20_0,hcz20_1,hcz20_2,hcz20_3,hfz20_0,hfz20_1,hfz20_2,hfz20_3⟩:=bq4_ BK459.out)|(go_at_call 36;(with_reducible refine (tr_Body.calls _ _ l0_0 a0_1 a0_2 a0_3 a1 true _ ?side1 ?side2 A11.out).mono ?_);(case side1=>repeat (first|exact (Kd.C_below HR0_0.out HB.out)|(with_reducible refine Kd.C_alloc ?_ _)|(with_reducible refine Kd.C_drewN ?_ _)|(with_reducible refine Kd.C_drew ?_)));(case side2=>exact HC0_0.out);rintro e w21 ⟨rfl,hb⟩;have n0_:=A0_ (blk_below (g:=gb459) (o:=.cells #[.slice A0_0 l0_0.length c0_0,.int .i64 a0_1,.int .i64 a0_2,.int .i64 a0_3] 28 (0,0)) (bd_ BK459.out) hb);have n1_:=A0_ (below_step y6_ hb);clear BK459;clear HB;have BK459:=n0_;have HB:=n1_;clear n0_ n1_;(try clear hb);(try clear hb2);(try clear hk);(try clear hi);obtain ⟨hcz22_0,hcz22_1,hcz22_2,hcz22_3,hfz22_0,hfz22_1,hfz22_2,hfz22_3⟩:=bq4_ BK459.out)|(go_at_call 36;(with_reducible refine (tr_Body.calls _ _ l0_0 a0_1 a0_2 a0_3 a2 true _ ?side1 ?side2 A13.out).mono ?_);(case side1=>repeat (first|exact (Kd.C_below HR0_0.out HB.out)|(with_reducible refine Kd.C_alloc ?_ _)|(with_reducible refine Kd.C_drewN ?_ _)|(with_reducible refine Kd.C_drew ?_)));(case side2=>exact HC0_0.out);rintro e w23 ⟨rfl,hb⟩;have n0_:=A0_ (blk_below (g:=gb459) (o:=.cells #[.slice A0_0 l0_0.length c0_0,.int .i64 a0_1,.int .i64 a0_2,.int .i64 a0_3] 28 (0,0)) (bd_ BK459.out) hb);have n1_:=A0_ (below_step y6_ hb);clear BK459;clear HB;have BK459:=n0_;have HB:=n1_;clear n0_ n1_;(try clear hb);(try clear hb2);(try clear hk);(try clear hi)))
       go_meet
       case rel=>exact ⟨_,(true),y4_,H',⟨by first|omega|exact Nat.le_refl _⟩,⟨by (with_reducible repeat (first|refine blk_drewN ?_ _|refine blk_drew ?_|refine blk_alloc ?_ _));exact BK459.out⟩,⟨y6_⟩⟩
      ·rw [if_neg c15] at H
       have c15b0:(a1 == a2)=false:=beq_eq_false_iff_ne.mpr c15
       have c15b1:(a1 != a2)=true:=bne_iff_ne.mpr c15
       (first|rw [c15b0]|(simp only [i64_w,i32_w];rw [c15b0])|skip)
       replace H:=Option.bind_eq_some_iff.mp H;obtain ⟨t464,A240,H⟩:=H
       replace H:(if t464=true then (tl_SkyEven.j0 k a1 a2 a3 (a3 == 20000) l0_0 a0_1 a0_2 a0_3) else (tl_SkyEven.j0 k a1 a2 a3 true l0_0 a0_1 a0_2 a0_3))=some r:=H
       have A24:=A0_ A240;clear A240
       by_cases c25:t464=true
       ·subst c25
        have H1:(tl_SkyEven.j0 k a1 a2 a3 (a3 == 20000) l0_0 a0_1 a0_2 a0_3)=some r:=by rw [if_pos rfl] at H;exact H
        clear H;have H:=H1;clear H1
        have H':=A0_ H
        clear H;obtain ⟨hcz26_0,hcz26_1,hcz26_2,hcz26_3,hfz26_0,hfz26_1,hfz26_2,hfz26_3⟩:=bq4_ BK459.out
        go_wp2_with (first|((with_reducible refine gate_callee (f:=10) rfl ?_);refine goesL_ (some 20) rfl rfl Tryz.func10 (by kernel_rfl) rfl #[.agg #[.slice A0_0 l0_0.length c0_0,.int .i64 a0_1,.int .i64 a0_2,.int .i64 a0_3]] rfl y1_ ?_;(with_reducible refine (tl_short.calls k _ _ l0_0 a0_1 a0_2 a0_3 true _ ?side1 ?side2 A7.out).mono ?_);(case side1=>repeat (first|exact (Kd.C_below HR0_0.out HB.out)|(with_reducible refine Kd.C_alloc ?_ _)|(with_reducible refine Kd.C_drewN ?_ _)|(with_reducible refine Kd.C_drew ?_)));(case side2=>exact HC0_0.out);rintro e w27 ⟨rfl,hb⟩;refine ⟨_,rfl,?_⟩;have n0_:=A0_ (blk_below (g:=gb459) (o:=.cells #[.slice A0_0 l0_0.length c0_0,.int .i64 a0_1,.int .i64 a0_2,.int .i64 a0_3] 28 (0,0)) (bd_ BK459.out) hb);have n1_:=A0_ (below_step y6_ hb);clear BK459;clear HB;have BK459:=n0_;have HB:=n1_;clear n0_ n1_;(try clear hb);(try clear hb2);(try clear hk);(try clear hi);obtain ⟨hcz28_0,hcz28_1,hcz28_2,hcz28_3,hfz28_0,hfz28_1,hfz28_2,hfz28_3⟩:=bq4_ BK459.out)|(go_at_call 13;(with_reducible refine (tr_Sky.calls k _ _ l0_0 a0_1 a0_2 a0_3 true _ ?side1 ?side2 A9.out).mono ?_);(case side1=>repeat (first|exact (Kd.C_below HR0_0.out HB.out)|(with_reducible refine Kd.C_alloc ?_ _)|(with_reducible refine Kd.C_drewN ?_ _)|(with_reducible refine Kd.C_drew ?_)));(case side2=>exact HC0_0.out);rintro e w29 ⟨rfl,hb⟩;have n0_:=A0_ (blk_below (g:=gb459) (o:=.cells #[.slice A0_0 l0_0.length c0_0,.int .i64 a0_1,.int .i64 a0_2,.int .i64 a0_3] 28 (0,0)) (bd_ BK459.out) hb);have n1_:=A0_ (below_step y6_ hb);clear BK459;clear HB;have BK459:=n0_;have HB:=n1_;clear n0_ n1_;(try clear hb);(try clear hb2);(try clear hk);(try clear hi);obtain ⟨hcz30_0,hcz30_1,hcz30_2,hcz30_3,hfz30_0,hfz30_1,hfz30_2,hfz30_3⟩:=bq4_ BK459.out)|(go_at_call 36;(with_reducible refine (tr_Body.calls _ _ l0_0 a0_1 a0_2 a0_3 a1 true _ ?side1 ?side2 A11.out).mono ?_);(case side1=>repeat (first|exact (Kd.C_below HR0_0.out HB.out)|(with_reducible refine Kd.C_alloc ?_ _)|(with_reducible refine Kd.C_drewN ?_ _)|(with_reducible refine Kd.C_drew ?_)));(case side2=>exact HC0_0.out);rintro e w31 ⟨rfl,hb⟩;have n0_:=A0_ (blk_below (g:=gb459) (o:=.cells #[.slice A0_0 l0_0.length c0_0,.int .i64 a0_1,.int .i64 a0_2,.int .i64 a0_3] 28 (0,0)) (bd_ BK459.out) hb);have n1_:=A0_ (below_step y6_ hb);clear BK459;clear HB;have BK459:=n0_;have HB:=n1_;clear n0_ n1_;(try clear hb);(try clear hb2);(try clear hk);(try clear hi);obtain ⟨hcz32_0,hcz32_1,hcz32_2,hcz32_3,hfz32_0,hfz32_1,hfz32_2,hfz32_3⟩:=bq4_ BK459.out)|(go_at_call 36;(with_reducible refine (tr_Body.calls _ _ l0_0 a0_1 a0_2 a0_3 a2 true _ ?side1 ?side2 A13.out).mono ?_);(case side1=>repeat (first|exact (Kd.C_below HR0_0.out HB.out)|(with_reducible refine Kd.C_alloc ?_ _)|(with_reducible refine Kd.C_drewN ?_ _)|(with_reducible refine Kd.C_drew ?_)));(case side2=>exact HC0_0.out);rintro e w33 ⟨rfl,hb⟩;have n0_:=A0_ (blk_below (g:=gb459) (o:=.cells #[.slice A0_0 l0_0.length c0_0,.int .i64 a0_1,.int .i64 a0_2,.int .i64 a0_3] 28 (0,0)) (bd_ BK459.out) hb);have n1_:=A0_ (below_step y6_ hb);clear BK459;clear HB;have BK459:=n0_;have HB:=n1_;clear n0_ n1_;(try clear hb);(try clear hb2);(try clear hk);(try clear hi))|(go_at_call 37;(with_reducible refine (tr_Day.calls a3 true _ A24.out).mono ?_);rintro e w' ⟨rfl,⟨nd,rfl⟩⟩))
        go_meet
        case rel=>exact ⟨_,((a3 == 20000)),y4_,H',⟨by first|omega|exact Nat.le_refl _⟩,⟨by (with_reducible repeat (first|refine blk_drewN ?_ _|refine blk_drew ?_|refine blk_alloc ?_ _));exact BK459.out⟩,⟨y6_⟩⟩
       ·replace c25:=Bool.eq_false_iff.mpr c25;subst c25
        have H1:(tl_SkyEven.j0 k a1 a2 a3 true l0_0 a0_1 a0_2 a0_3)=some r:=by rw [if_neg (show ¬ (false=true) by decide)] at H;exact H
        clear H;have H:=H1;clear H1
        have H':=A0_ H
        clear H;obtain ⟨hcz34_0,hcz34_1,hcz34_2,hcz34_3,hfz34_0,hfz34_1,hfz34_2,hfz34_3⟩:=bq4_ BK459.out
        go_wp2_with (first|((with_reducible refine gate_callee (f:=10) rfl ?_);refine goesL_ (some 20) rfl rfl Tryz.func10 (by kernel_rfl) rfl #[.agg #[.slice A0_0 l0_0.length c0_0,.int .i64 a0_1,.int .i64 a0_2,.int .i64 a0_3]] rfl y1_ ?_;(with_reducible refine (tl_short.calls k _ _ l0_0 a0_1 a0_2 a0_3 true _ ?side1 ?side2 A7.out).mono ?_);(case side1=>repeat (first|exact (Kd.C_below HR0_0.out HB.out)|(with_reducible refine Kd.C_alloc ?_ _)|(with_reducible refine Kd.C_drewN ?_ _)|(with_reducible refine Kd.C_drew ?_)));(case side2=>exact HC0_0.out);rintro e w35 ⟨rfl,hb⟩;refine ⟨_,rfl,?_⟩;have n0_:=A0_ (blk_below (g:=gb459) (o:=.cells #[.slice A0_0 l0_0.length c0_0,.int .i64 a0_1,.int .i64 a0_2,.int .i64 a0_3] 28 (0,0)) (bd_ BK459.out) hb);have n1_:=A0_ (below_step y6_ hb);clear BK459;clear HB;have BK459:=n0_;have HB:=n1_;clear n0_ n1_;(try clear hb);(try clear hb2);(try clear hk);(try clear hi);obtain ⟨hcz36_0,hcz36_1,hcz36_2,hcz36_3,hfz36_0,hfz36_1,hfz36_2,hfz36_3⟩:=bq4_ BK459.out)|(go_at_call 13;(with_reducible refine (tr_Sky.calls k _ _ l0_0 a0_1 a0_2 a0_3 true _ ?side1 ?side2 A9.out).mono ?_);(case side1=>repeat (first|exact (Kd.C_below HR0_0.out HB.out)|(with_reducible refine Kd.C_alloc ?_ _)|(with_reducible refine Kd.C_drewN ?_ _)|(with_reducible refine Kd.C_drew ?_)));(case side2=>exact HC0_0.out);rintro e w37 ⟨rfl,hb⟩;have n0_:=A0_ (blk_below (g:=gb459) (o:=.cells #[.slice A0_0 l0_0.length c0_0,.int .i64 a0_1,.int .i64 a0_2,.int .i64 a0_3] 28 (0,0)) (bd_ BK459.out) hb);have n1_:=A0_ (below_step y6_ hb);clear BK459;clear HB;have BK459:=n0_;have HB:=n1_;clear n0_ n1_;(try clear hb);(try clear hb2);(try clear hk);(try clear hi);obtain ⟨hcz38_0,hcz38_1,hcz38_2,hcz38_3,hfz38_0,hfz38_1,hfz38_2,hfz38_3⟩:=bq4_ BK459.out)|(go_at_call 36;(with_reducible refine (tr_Body.calls _ _ l0_0 a0_1 a0_2 a0_3 a1 true _ ?side1 ?side2 A11.out).mono ?_);(case side1=>repeat (first|exact (Kd.C_below HR0_0.out HB.out)|(with_reducible refine Kd.C_alloc ?_ _)|(with_reducible refine Kd.C_drewN ?_ _)|(with_reducible refine Kd.C_drew ?_)));(case side2=>exact HC0_0.out);rintro e w39 ⟨rfl,hb⟩;have n0_:=A0_ (blk_below (g:=gb459) (o:=.cells #[.slice A0_0 l0_0.length c0_0,.int .i64 a0_1,.int .i64 a0_2,.int .i64 a0_3] 28 (0,0)) (bd_ BK459.out) hb);have n1_:=A0_ (below_step y6_ hb);clear BK459;clear HB;have BK459:=n0_;have HB:=n1_;clear n0_ n1_;(try clear hb);(try clear hb2);(try clear hk);(try clear hi);obtain ⟨hcz40_0,hcz40_1,hcz40_2,hcz40_3,hfz40_0,hfz40_1,hfz40_2,hfz40_3⟩:=bq4_ BK459.out)|(go_at_call 36;(with_reducible refine (tr_Body.calls _ _ l0_0 a0_1 a0_2 a0_3 a2 true _ ?side1 ?side2 A13.out).mono ?_);(case side1=>repeat (first|exact (Kd.C_below HR0_0.out HB.out)|(with_reducible refine Kd.C_alloc ?_ _)|(with_reducible refine Kd.C_drewN ?_ _)|(with_reducible refine Kd.C_drew ?_)));(case side2=>exact HC0_0.out);rintro e w41 ⟨rfl,hb⟩;have n0_:=A0_ (blk_below (g:=gb459) (o:=.cells #[.slice A0_0 l0_0.length c0_0,.int .i64 a0_1,.int .i64 a0_2,.int .i64 a0_3] 28 (0,0)) (bd_ BK459.out) hb);have n1_:=A0_ (below_step y6_ hb);clear BK459;clear HB;have BK459:=n0_;have HB:=n1_;clear n0_ n1_;(try clear hb);(try clear hb2);(try clear hk);(try clear hi))|(go_at_call 37;(with_reducible refine (tr_Day.calls a3 false _ A24.out).mono ?_);rintro e w' ⟨rfl,⟨nd,rfl⟩⟩))
        go_meet
        case rel=>exact ⟨_,(true),y4_,H',⟨by first|omega|exact Nat.le_refl _⟩,⟨by (with_reducible repeat (first|refine blk_drewN ?_ _|refine blk_drew ?_|refine blk_alloc ?_ _));exact BK459.out⟩,⟨y6_⟩⟩
     ·replace c14:=Bool.eq_false_iff.mpr c14;subst c14
      have H1:(tl_SkyEven.j0 k a1 a2 a3 true l0_0 a0_1 a0_2 a0_3)=some r:=by rw [if_neg (show ¬ (false=true) by decide)] at H;exact H
      clear H;have H:=H1;clear H1
      have H':=A0_ H
      clear H;obtain ⟨hcz42_0,hcz42_1,hcz42_2,hcz42_3,hfz42_0,hfz42_1,hfz42_2,hfz42_3⟩:=bq4_ BK459.out
      go_wp2_with (first|((with_reducible refine gate_callee (f:=10) rfl ?_);refine goesL_ (some 20) rfl rfl Tryz.func10 (by kernel_rfl) rfl #[.agg #[.slice A0_0 l0_0.length c0_0,.int .i64 a0_1,.int .i64 a0_2,.int .i64 a0_3]] rfl y1_ ?_;(with_reducible refine (tl_short.calls k _ _ l0_0 a0_1 a0_2 a0_3 true _ ?side1 ?side2 A7.out).mono ?_);(case side1=>repeat (first|exact (Kd.C_below HR0_0.out HB.out)|(with_reducible refine Kd.C_alloc ?_ _)|(with_reducible refine Kd.C_drewN ?_ _)|(with_reducible refine Kd.C_drew ?_)));(case side2=>exact HC0_0.out);rintro e w43 ⟨rfl,hb⟩;refine ⟨_,rfl,?_⟩;have n0_:=A0_ (blk_below (g:=gb459) (o:=.cells #[.slice A0_0 l0_0.length c0_0,.int .i64 a0_1,.int .i64 a0_2,.int .i64 a0_3] 28 (0,0)) (bd_ BK459.out) hb);have n1_:=A0_ (below_step y6_ hb);clear BK459;clear HB;have BK459:=n0_;have HB:=n1_;clear n0_ n1_;(try clear hb);(try clear hb2);(try clear hk);(try clear hi);obtain ⟨hcz44_0,hcz44_1,hcz44_2,hcz44_3,hfz44_0,hfz44_1,hfz44_2,hfz44_3⟩:=bq4_ BK459.out)|(go_at_call 13;(with_reducible refine (tr_Sky.calls k _ _ l0_0 a0_1 a0_2 a0_3 true _ ?side1 ?side2 A9.out).mono ?_);(case side1=>repeat (first|exact (Kd.C_below HR0_0.out HB.out)|(with_reducible refine Kd.C_alloc ?_ _)|(with_reducible refine Kd.C_drewN ?_ _)|(with_reducible refine Kd.C_drew ?_)));(case side2=>exact HC0_0.out);rintro e w45 ⟨rfl,hb⟩;have n0_:=A0_ (blk_below (g:=gb459) (o:=.cells #[.slice A0_0 l0_0.length c0_0,.int .i64 a0_1,.int .i64 a0_2,.int .i64 a0_3] 28 (0,0)) (bd_ BK459.out) hb);have n1_:=A0_ (below_step y6_ hb);clear BK459;clear HB;have BK459:=n0_;have HB:=n1_;clear n0_ n1_;(try clear hb);(try clear hb2);(try clear hk);(try clear hi);obtain ⟨hcz46_0,hcz46_1,hcz46_2,hcz46_3,hfz46_0,hfz46_1,hfz46_2,hfz46_3⟩:=bq4_ BK459.out)|(go_at_call 36;(with_reducible refine (tr_Body.calls _ _ l0_0 a0_1 a0_2 a0_3 a1 true _ ?side1 ?side2 A11.out).mono ?_);(case side1=>repeat (first|exact (Kd.C_below HR0_0.out HB.out)|(with_reducible refine Kd.C_alloc ?_ _)|(with_reducible refine Kd.C_drewN ?_ _)|(with_reducible refine Kd.C_drew ?_)));(case side2=>exact HC0_0.out);rintro e w47 ⟨rfl,hb⟩;have n0_:=A0_ (blk_below (g:=gb459) (o:=.cells #[.slice A0_0 l0_0.length c0_0,.int .i64 a0_1,.int .i64 a0_2,.int .i64 a0_3] 28 (0,0)) (bd_ BK459.out) hb);have n1_:=A0_ (below_step y6_ hb);clear BK459;clear HB;have BK459:=n0_;have HB:=n1_;clear n0_ n1_;(try clear hb);(try clear hb2);(try clear hk);(try clear hi);obtain ⟨hcz48_0,hcz48_1,hcz48_2,hcz48_3,hfz48_0,hfz48_1,hfz48_2,hfz48_3⟩:=bq4_ BK459.out)|(go_at_call 36;(with_reducible refine (tr_Body.calls _ _ l0_0 a0_1 a0_2 a0_3 a2 false _ ?side1 ?side2 A13.out).mono ?_);(case side1=>repeat (first|exact (Kd.C_below HR0_0.out HB.out)|(with_reducible refine Kd.C_alloc ?_ _)|(with_reducible refine Kd.C_drewN ?_ _)|(with_reducible refine Kd.C_drew ?_)));(case side2=>exact HC0_0.out);rintro e w49 ⟨rfl,hb⟩;have n0_:=A0_ (blk_below (g:=gb459) (o:=.cells #[.slice A0_0 l0_0.length c0_0,.int .i64 a0_1,.int .i64 a0_2,.int .i64 a0_3] 28 (0,0)) (bd_ BK459.out) hb);have n1_:=A0_ (below_step y6_ hb);clear BK459;clear HB;have BK459:=n0_;have HB:=n1_;clear n0_ n1_;(try clear hb);(try clear hb2);(try clear hk);(try clear hi)))
      go_meet
      case rel=>exact ⟨_,(true),y4_,H',⟨by first|omega|exact Nat.le_refl _⟩,⟨by (with_reducible repeat (first|refine blk_drewN ?_ _|refine blk_drew ?_|refine blk_alloc ?_ _));exact BK459.out⟩,⟨y6_⟩⟩
    ·replace c12:=Bool.eq_false_iff.mpr c12;subst c12
     have H1:(tl_SkyEven.j0 k a1 a2 a3 true l0_0 a0_1 a0_2 a0_3)=some r:=by rw [if_neg (show ¬ (false=true) by decide)] at H;exact H
     clear H;have H:=H1;clear H1
     have H':=A0_ H
     clear H;obtain ⟨hcz50_0,hcz50_1,hcz50_2,hcz50_3,hfz50_0,hfz50_1,hfz50_2,hfz50_3⟩:=bq4_ BK459.out
     go_wp2_with (first|((with_reducible refine gate_callee (f:=10) rfl ?_);refine goesL_ (some 20) rfl rfl Tryz.func10 (by kernel_rfl) rfl #[.agg #[.slice A0_0 l0_0.length c0_0,.int .i64 a0_1,.int .i64 a0_2,.int .i64 a0_3]] rfl y1_ ?_;(with_reducible refine (tl_short.calls k _ _ l0_0 a0_1 a0_2 a0_3 true _ ?side1 ?side2 A7.out).mono ?_);(case side1=>repeat (first|exact (Kd.C_below HR0_0.out HB.out)|(with_reducible refine Kd.C_alloc ?_ _)|(with_reducible refine Kd.C_drewN ?_ _)|(with_reducible refine Kd.C_drew ?_)));(case side2=>exact HC0_0.out);rintro e w51 ⟨rfl,hb⟩;refine ⟨_,rfl,?_⟩;have n0_:=A0_ (blk_below (g:=gb459) (o:=.cells #[.slice A0_0 l0_0.length c0_0,.int .i64 a0_1,.int .i64 a0_2,.int .i64 a0_3] 28 (0,0)) (bd_ BK459.out) hb);have n1_:=A0_ (below_step y6_ hb);clear BK459;clear HB;have BK459:=n0_;have HB:=n1_;clear n0_ n1_;(try clear hb);(try clear hb2);(try clear hk);(try clear hi);obtain ⟨hcz52_0,hcz52_1,hcz52_2,hcz52_3,hfz52_0,hfz52_1,hfz52_2,hfz52_3⟩:=bq4_ BK459.out)|(go_at_call 13;(with_reducible refine (tr_Sky.calls k _ _ l0_0 a0_1 a0_2 a0_3 true _ ?side1 ?side2 A9.out).mono ?_);(case side1=>repeat (first|exact (Kd.C_below HR0_0.out HB.out)|(with_reducible refine Kd.C_alloc ?_ _)|(with_reducible refine Kd.C_drewN ?_ _)|(with_reducible refine Kd.C_drew ?_)));(case side2=>exact HC0_0.out);rintro e w53 ⟨rfl,hb⟩;have n0_:=A0_ (blk_below (g:=gb459) (o:=.cells #[.slice A0_0 l0_0.length c0_0,.int .i64 a0_1,.int .i64 a0_2,.int .i64 a0_3] 28 (0,0)) (bd_ BK459.out) hb);have n1_:=A0_ (below_step y6_ hb);clear BK459;clear HB;have BK459:=n0_;have HB:=n1_;clear n0_ n1_;(try clear hb);(try clear hb2);(try clear hk);(try clear hi);obtain ⟨hcz54_0,hcz54_1,hcz54_2,hcz54_3,hfz54_0,hfz54_1,hfz54_2,hfz54_3⟩:=bq4_ BK459.out)|(go_at_call 36;(with_reducible refine (tr_Body.calls _ _ l0_0 a0_1 a0_2 a0_3 a1 false _ ?side1 ?side2 A11.out).mono ?_);(case side1=>repeat (first|exact (Kd.C_below HR0_0.out HB.out)|(with_reducible refine Kd.C_alloc ?_ _)|(with_reducible refine Kd.C_drewN ?_ _)|(with_reducible refine Kd.C_drew ?_)));(case side2=>exact HC0_0.out);rintro e w55 ⟨rfl,hb⟩;have n0_:=A0_ (blk_below (g:=gb459) (o:=.cells #[.slice A0_0 l0_0.length c0_0,.int .i64 a0_1,.int .i64 a0_2,.int .i64 a0_3] 28 (0,0)) (bd_ BK459.out) hb);have n1_:=A0_ (below_step y6_ hb);clear BK459;clear HB;have BK459:=n0_;have HB:=n1_;clear n0_ n1_;(try clear hb);(try clear hb2);(try clear hk);(try clear hi)))
     go_meet
     case rel=>exact ⟨_,(true),y4_,H',⟨by first|omega|exact Nat.le_refl _⟩,⟨by (with_reducible repeat (first|refine blk_drewN ?_ _|refine blk_drew ?_|refine blk_alloc ?_ _));exact BK459.out⟩,⟨y6_⟩⟩
   ·replace c10:=Bool.eq_false_iff.mpr c10;subst c10
    have H1:(tl_SkyEven.j0 k a1 a2 a3 true l0_0 a0_1 a0_2 a0_3)=some r:=by rw [if_neg (show ¬ (false=true) by decide)] at H;exact H
    clear H;have H:=H1;clear H1
    have H':=A0_ H
    clear H;obtain ⟨hcz56_0,hcz56_1,hcz56_2,hcz56_3,hfz56_0,hfz56_1,hfz56_2,hfz56_3⟩:=bq4_ BK459.out
    go_wp2_with (first|((with_reducible refine gate_callee (f:=10) rfl ?_);refine goesL_ (some 20) rfl rfl Tryz.func10 (by kernel_rfl) rfl #[.agg #[.slice A0_0 l0_0.length c0_0,.int .i64 a0_1,.int .i64 a0_2,.int .i64 a0_3]] rfl y1_ ?_;(with_reducible refine (tl_short.calls k _ _ l0_0 a0_1 a0_2 a0_3 true _ ?side1 ?side2 A7.out).mono ?_);(case side1=>repeat (first|exact (Kd.C_below HR0_0.out HB.out)|(with_reducible refine Kd.C_alloc ?_ _)|(with_reducible refine Kd.C_drewN ?_ _)|(with_reducible refine Kd.C_drew ?_)));(case side2=>exact HC0_0.out);rintro e w57 ⟨rfl,hb⟩;refine ⟨_,rfl,?_⟩;have n0_:=A0_ (blk_below (g:=gb459) (o:=.cells #[.slice A0_0 l0_0.length c0_0,.int .i64 a0_1,.int .i64 a0_2,.int .i64 a0_3] 28 (0,0)) (bd_ BK459.out) hb);have n1_:=A0_ (below_step y6_ hb);clear BK459;clear HB;have BK459:=n0_;have HB:=n1_;clear n0_ n1_;(try clear hb);(try clear hb2);(try clear hk);(try clear hi);obtain ⟨hcz58_0,hcz58_1,hcz58_2,hcz58_3,hfz58_0,hfz58_1,hfz58_2,hfz58_3⟩:=bq4_ BK459.out)|(go_at_call 13;(with_reducible refine (tr_Sky.calls k _ _ l0_0 a0_1 a0_2 a0_3 false _ ?side1 ?side2 A9.out).mono ?_);(case side1=>repeat (first|exact (Kd.C_below HR0_0.out HB.out)|(with_reducible refine Kd.C_alloc ?_ _)|(with_reducible refine Kd.C_drewN ?_ _)|(with_reducible refine Kd.C_drew ?_)));(case side2=>exact HC0_0.out);rintro e w59 ⟨rfl,hb⟩;have n0_:=A0_ (blk_below (g:=gb459) (o:=.cells #[.slice A0_0 l0_0.length c0_0,.int .i64 a0_1,.int .i64 a0_2,.int .i64 a0_3] 28 (0,0)) (bd_ BK459.out) hb);have n1_:=A0_ (below_step y6_ hb);clear BK459;clear HB;have BK459:=n0_;have HB:=n1_;clear n0_ n1_;(try clear hb);(try clear hb2);(try clear hk);(try clear hi)))
    go_meet
    case rel=>exact ⟨_,(true),y4_,H',⟨by first|omega|exact Nat.le_refl _⟩,⟨by (with_reducible repeat (first|refine blk_drewN ?_ _|refine blk_drew ?_|refine blk_alloc ?_ _));exact BK459.out⟩,⟨y6_⟩⟩
  ·replace c8:=Bool.eq_false_iff.mpr c8;subst c8
   have H1:(tl_SkyEven.j0 k a1 a2 a3 true l0_0 a0_1 a0_2 a0_3)=some r:=by rw [if_neg (show ¬ (false=true) by decide)] at H;exact H
   clear H;have H:=H1;clear H1
   have H':=A0_ H
   clear H;obtain ⟨hcz60_0,hcz60_1,hcz60_2,hcz60_3,hfz60_0,hfz60_1,hfz60_2,hfz60_3⟩:=bq4_ BK459.out
   go_wp2_with (first|((with_reducible refine gate_callee (f:=10) rfl ?_);refine goesL_ (some 20) rfl rfl Tryz.func10 (by kernel_rfl) rfl #[.agg #[.slice A0_0 l0_0.length c0_0,.int .i64 a0_1,.int .i64 a0_2,.int .i64 a0_3]] rfl y1_ ?_;(with_reducible refine (tl_short.calls k _ _ l0_0 a0_1 a0_2 a0_3 false _ ?side1 ?side2 A7.out).mono ?_);(case side1=>repeat (first|exact (Kd.C_below HR0_0.out HB.out)|(with_reducible refine Kd.C_alloc ?_ _)|(with_reducible refine Kd.C_drewN ?_ _)|(with_reducible refine Kd.C_drew ?_)));(case side2=>exact HC0_0.out);rintro e w61 ⟨rfl,hb⟩;refine ⟨_,rfl,?_⟩;have n0_:=A0_ (blk_below (g:=gb459) (o:=.cells #[.slice A0_0 l0_0.length c0_0,.int .i64 a0_1,.int .i64 a0_2,.int .i64 a0_3] 28 (0,0)) (bd_ BK459.out) hb);have n1_:=A0_ (below_step y6_ hb);clear BK459;clear HB;have BK459:=n0_;have HB:=n1_;clear n0_ n1_;(try clear hb);(try clear hb2);(try clear hk);(try clear hi)))
   go_meet
   case rel=>exact ⟨_,(true),y4_,H',⟨by first|omega|exact Nat.le_refl _⟩,⟨by (with_reducible repeat (first|refine blk_drewN ?_ _|refine blk_drew ?_|refine blk_alloc ?_ _));exact BK459.out⟩,⟨y6_⟩⟩
 case rest=>
  clear HC5;(try clear c1);(try clear c2);(try clear p2);(try clear c8);(try clear c10);(try clear c12);(try clear c14);(try clear c15);(try clear c15b0);(try clear c15b1);(try clear c25);(try clear hcz16_0);(try clear hcz16_1);(try clear hcz16_2);(try clear hcz16_3);(try clear hcz18_0);(try clear hcz18_1);(try clear hcz18_2);(try clear hcz18_3);(try clear hcz20_0);(try clear hcz20_1);(try clear hcz20_2);(try clear hcz20_3);(try clear hcz22_0);(try clear hcz22_1);(try clear hcz22_2);(try clear hcz22_3);(try clear hcz26_0);(try clear hcz26_1);(try clear hcz26_2);(try clear hcz26_3);(try clear hcz28_0);(try clear hcz28_1);(try clear hcz28_2);(try clear hcz28_3);(try clear hcz30_0);(try clear hcz30_1);(try clear hcz30_2);(try clear hcz30_3);(try clear hcz32_0);(try clear hcz32_1);(try clear hcz32_2);(try clear hcz32_3);(try clear hcz34_0);(try clear hcz34_1);(try clear hcz34_2);(try clear hcz34_3);(try clear hcz36_0);(try clear hcz36_1);(try clear hcz36_2);(try clear hcz36_3);(try clear hcz38_0);(try clear hcz38_1);(try clear hcz38_2);(try clear hcz38_3);(try clear hcz40_0);(try clear hcz40_1);(try clear hcz40_2);(try clear hcz40_3);(try clear hcz42_0);(try clear hcz42_1);(try clear hcz42_2);(try clear hcz42_3);(try clear hcz44_0);(try clear hcz44_1);(try clear hcz44_2);(try clear hcz44_3);(try clear hcz46_0);(try clear hcz46_1);(try clear hcz46_2);(try clear hcz46_3);(try clear hcz48_0);(try clear hcz48_1);(try clear hcz48_2);(try clear hcz48_3);(try clear hcz50_0);(try clear hcz50_1);(try clear hcz50_2);(try clear hcz50_3);(try clear hcz52_0);(try clear hcz52_1);(try clear hcz52_2);(try clear hcz52_3);(try clear hcz54_0);(try clear hcz54_1);(try clear hcz54_2);(try clear hcz54_3);(try clear hcz56_0);(try clear hcz56_1);(try clear hcz56_2);(try clear hcz56_3);(try clear hcz58_0);(try clear hcz58_1);(try clear hcz58_2);(try clear hcz58_3);(try clear hcz60_0);(try clear hcz60_1);(try clear hcz60_2);(try clear hcz60_3);(try clear hfz16_0);(try clear hfz16_1);(try clear hfz16_2);(try clear hfz16_3);(try clear hfz18_0);(try clear hfz18_1);(try clear hfz18_2);(try clear hfz18_3);(try clear hfz20_0);(try clear hfz20_1);(try clear hfz20_2);(try clear hfz20_3);(try clear hfz22_0);(try clear hfz22_1);(try clear hfz22_2);(try clear hfz22_3);(try clear hfz26_0);(try clear hfz26_1);(try clear hfz26_2);(try clear hfz26_3);(try clear hfz28_0);(try clear hfz28_1);(try clear hfz28_2);(try clear hfz28_3);(try clear hfz30_0);(try clear hfz30_1);(try clear hfz30_2);(try clear hfz30_3);(try clear hfz32_0);(try clear hfz32_1);(try clear hfz32_2);(try clear hfz32_3);(try clear hfz34_0);(try clear hfz34_1);(try clear hfz34_2);(try clear hfz34_3);(try clear hfz36_0);(try clear hfz36_1);(try clear hfz36_2);(try clear hfz36_3);(try clear hfz38_0);(try clear hfz38_1);(try clear hfz38_2);(try clear hfz38_3);(try clear hfz40_0);(try clear hfz40_1)
  (try clear hfz40_2);(try clear hfz40_3);(try clear hfz42_0);(try clear hfz42_1);(try clear hfz42_2);(try clear hfz42_3);(try clear hfz44_0);(try clear hfz44_1);(try clear hfz44_2);(try clear hfz44_3);(try clear hfz46_0);(try clear hfz46_1);(try clear hfz46_2);(try clear hfz46_3);(try clear hfz48_0);(try clear hfz48_1);(try clear hfz48_2);(try clear hfz48_3);(try clear hfz50_0);(try clear hfz50_1);(try clear hfz50_2);(try clear hfz50_3);(try clear hfz52_0);(try clear hfz52_1);(try clear hfz52_2);(try clear hfz52_3);(try clear hfz54_0);(try clear hfz54_1);(try clear hfz54_2);(try clear hfz54_3);(try clear hfz56_0);(try clear hfz56_1);(try clear hfz56_2);(try clear hfz56_3);(try clear hfz58_0);(try clear hfz58_1);(try clear hfz58_2);(try clear hfz58_3);(try clear hfz60_0);(try clear hfz60_1);(try clear hfz60_2);(try clear hfz60_3)
  obtain ⟨kq,x52_4,rfl,HA,HJ4,BK459,HB⟩:=hcut
  cases kq with
  |zero=>exact absurd HA.out (by simp [tl_SkyEven.j0])
  |succ kj4=>
   have H:=HA.out
   clear HA
   simp only [tl_SkyEven.j0] at H
   by_cases c62:x52_4=true
   ·subst c62
    have H1:((tl_known.f).bind fun t465=>(some t465))=some r:=by rw [if_pos rfl] at H;exact H
    clear H;have H:=H1;clear H1;replace H:=Option.bind_eq_some_iff.mp H;obtain ⟨t465,A630,H⟩:=H
    replace H:(some t465)=some r:=H
    have A63:=A0_ A630;clear A630;obtain rfl:=Option.some.inj H
    go_wp2_with (first|((with_reducible refine gate_callee (f:=11) rfl ?_);refine goesL_ (some 53) rfl rfl Tryz.func11 (by kernel_rfl) rfl #[] rfl y1_ ?_;(with_reducible refine (tl_known.calls  t465 _ A63.out ?side1).mono ?_);(case side1=>exact LD.below HLD.out y6_);rintro e w64 ⟨rfl,hb⟩;refine ⟨_,rfl,?_⟩;have n0_:=A0_ (blk_below (g:=gb459) (o:=.cells #[.slice A0_0 l0_0.length c0_0,.int .i64 a0_1,.int .i64 a0_2,.int .i64 a0_3] 28 (0,0)) (bd_ BK459.out) hb);have n1_:=A0_ (below_step y6_ hb);clear BK459;clear HB;have BK459:=n0_;have HB:=n1_;clear n0_ n1_;(try clear hb);(try clear hb2);(try clear hk);(try clear hi)))
    go_ret
    exact ⟨y3_,y6_⟩
   ·replace c62:=Bool.eq_false_iff.mpr c62;subst c62
    have H1:((sky_Mean.f kj4 l0_0 a0_1 a0_2 a0_3 a1 a3).bind fun bt466=>((sky_Place.f kj4 l0_0 a0_1 a0_2 a0_3 a1 a3).bind fun bt468=>((sky_Place.f kj4 l0_0 a0_1 a0_2 a0_3 a1 (wrap64 (a3+1))).bind fun bt470=>((sky_Place.f kj4 l0_0 a0_1 a0_2 a0_3 a2 a3).bind fun bt472=>((sky_Between.f kj4 l0_0 a0_1 a0_2 a0_3 a1 a2 a3).bind fun bt474=>(if bt466.2=0 then (if bt468.2=0 then (if bt470.2=0 then (if bt472.2=0 then (if bt474.2=0 then ((tr_Spot.f bt466.1).bind fun t476=>(if t476=true then ((tr_Spot.f bt468.1).bind fun t477=>(if t477=true then ((tr_Spot.f bt470.1).bind fun t478=>(if t478=true then ((tr_Spot.f bt472.1).bind fun t479=>(tl_SkyEven.j1 kj4 bt466.1 bt468.1 bt470.1 bt472.1 bt474.1 (!t479))) else (tl_SkyEven.j1 kj4 bt466.1 bt468.1 bt470.1 bt472.1 bt474.1 true))) else (tl_SkyEven.j1 kj4 bt466.1 bt468.1 bt470.1 bt472.1 bt474.1 true))) else (tl_SkyEven.j1 kj4 bt466.1 bt468.1 bt470.1 bt472.1 bt474.1 true))) else (tl_SkyEven.j1 kj4 bt466.1 bt468.1 bt470.1 bt472.1 bt474.1 true)) else (tl_SkyEven.j1 kj4 bt466.1 bt468.1 bt470.1 bt472.1 bt474.1 true)) else (tl_SkyEven.j1 kj4 bt466.1 bt468.1 bt470.1 bt472.1 bt474.1 true)) else (tl_SkyEven.j1 kj4 bt466.1 bt468.1 bt470.1 bt472.1 bt474.1 true)) else (tl_SkyEven.j1 kj4 bt466.1 bt468.1 bt470.1 bt472.1 bt474.1 true)))))))=some r:=by rw [if_neg (show ¬ (false=true) by decide)] at H;exact H
    clear H;have H:=H1;clear H1;replace H:=Option.bind_eq_some_iff.mp H
    obtain ⟨⟨t466,t467⟩,A650,H⟩:=H
    replace H:((sky_Place.f kj4 l0_0 a0_1 a0_2 a0_3 a1 a3).bind fun bt468=>((sky_Place.f kj4 l0_0 a0_1 a0_2 a0_3 a1 (wrap64 (a3+1))).bind fun bt470=>((sky_Place.f kj4 l0_0 a0_1 a0_2 a0_3 a2 a3).bind fun bt472=>((sky_Between.f kj4 l0_0 a0_1 a0_2 a0_3 a1 a2 a3).bind fun bt474=>(if t467=0 then (if bt468.2=0 then (if bt470.2=0 then (if bt472.2=0 then (if bt474.2=0 then ((tr_Spot.f t466).bind fun t476=>(if t476=true then ((tr_Spot.f bt468.1).bind fun t477=>(if t477=true then ((tr_Spot.f bt470.1).bind fun t478=>(if t478=true then ((tr_Spot.f bt472.1).bind fun t479=>(tl_SkyEven.j1 kj4 t466 bt468.1 bt470.1 bt472.1 bt474.1 (!t479))) else (tl_SkyEven.j1 kj4 t466 bt468.1 bt470.1 bt472.1 bt474.1 true))) else (tl_SkyEven.j1 kj4 t466 bt468.1 bt470.1 bt472.1 bt474.1 true))) else (tl_SkyEven.j1 kj4 t466 bt468.1 bt470.1 bt472.1 bt474.1 true))) else (tl_SkyEven.j1 kj4 t466 bt468.1 bt470.1 bt472.1 bt474.1 true)) else (tl_SkyEven.j1 kj4 t466 bt468.1 bt470.1 bt472.1 bt474.1 true)) else (tl_SkyEven.j1 kj4 t466 bt468.1 bt470.1 bt472.1 bt474.1 true)) else (tl_SkyEven.j1 kj4 t466 bt468.1 bt470.1 bt472.1 bt474.1 true)) else (tl_SkyEven.j1 kj4 t466 bt468.1 bt470.1 bt472.1 bt474.1 true))))))=some r:=H
    have A65:=A0_ A650;clear A650;replace H:=Option.bind_eq_some_iff.mp H
    obtain ⟨⟨t468,t469⟩,A660,H⟩:=H
    replace H:((sky_Place.f kj4 l0_0 a0_1 a0_2 a0_3 a1 (wrap64 (a3+1))).bind fun bt470=>((sky_Place.f kj4 l0_0 a0_1 a0_2 a0_3 a2 a3).bind fun bt472=>((sky_Between.f kj4 l0_0 a0_1 a0_2 a0_3 a1 a2 a3).bind fun bt474=>(if t467=0 then (if t469=0 then (if bt470.2=0 then (if bt472.2=0 then (if bt474.2=0 then ((tr_Spot.f t466).bind fun t476=>(if t476=true then ((tr_Spot.f t468).bind fun t477=>(if t477=true then ((tr_Spot.f bt470.1).bind fun t478=>(if t478=true then ((tr_Spot.f bt472.1).bind fun t479=>(tl_SkyEven.j1 kj4 t466 t468 bt470.1 bt472.1 bt474.1 (!t479))) else (tl_SkyEven.j1 kj4 t466 t468 bt470.1 bt472.1 bt474.1 true))) else (tl_SkyEven.j1 kj4 t466 t468 bt470.1 bt472.1 bt474.1 true))) else (tl_SkyEven.j1 kj4 t466 t468 bt470.1 bt472.1 bt474.1 true))) else (tl_SkyEven.j1 kj4 t466 t468 bt470.1 bt472.1 bt474.1 true)) else (tl_SkyEven.j1 kj4 t466 t468 bt470.1 bt472.1 bt474.1 true)) else (tl_SkyEven.j1 kj4 t466 t468 bt470.1 bt472.1 bt474.1 true)) else (tl_SkyEven.j1 kj4 t466 t468 bt470.1 bt472.1 bt474.1 true)) else (tl_SkyEven.j1 kj4 t466 t468 bt470.1 bt472.1 bt474.1 true)))))=some r:=H
    have A66:=A0_ A660;clear A660;replace H:=Option.bind_eq_some_iff.mp H
    obtain ⟨⟨t470,t471⟩,A670,H⟩:=H
    replace H:((sky_Place.f kj4 l0_0 a0_1 a0_2 a0_3 a2 a3).bind fun bt472=>((sky_Between.f kj4 l0_0 a0_1 a0_2 a0_3 a1 a2 a3).bind fun bt474=>(if t467=0 then (if t469=0 then (if t471=0 then (if bt472.2=0 then (if bt474.2=0 then ((tr_Spot.f t466).bind fun t476=>(if t476=true then ((tr_Spot.f t468).bind fun t477=>(if t477=true then ((tr_Spot.f t470).bind fun t478=>(if t478=true then ((tr_Spot.f bt472.1).bind fun t479=>(tl_SkyEven.j1 kj4 t466 t468 t470 bt472.1 bt474.1 (!t479))) else (tl_SkyEven.j1 kj4 t466 t468 t470 bt472.1 bt474.1 true))) else (tl_SkyEven.j1 kj4 t466 t468 t470 bt472.1 bt474.1 true))) else (tl_SkyEven.j1 kj4 t466 t468 t470 bt472.1 bt474.1 true))) else (tl_SkyEven.j1 kj4 t466 t468 t470 bt472.1 bt474.1 true)) else (tl_SkyEven.j1 kj4 t466 t468 t470 bt472.1 bt474.1 true)) else (tl_SkyEven.j1 kj4 t466 t468 t470 bt472.1 bt474.1 true)) else (tl_SkyEven.j1 kj4 t466 t468 t470 bt472.1 bt474.1 true)) else (tl_SkyEven.j1 kj4 t466 t468 t470 bt472.1 bt474.1 true))))=some r:=H
    have A67:=A0_ A670;clear A670;replace H:=Option.bind_eq_some_iff.mp H
    obtain ⟨⟨t472,t473⟩,A680,H⟩:=H
    replace H:((sky_Between.f kj4 l0_0 a0_1 a0_2 a0_3 a1 a2 a3).bind fun bt474=>(if t467=0 then (if t469=0 then (if t471=0 then (if t473=0 then (if bt474.2=0 then ((tr_Spot.f t466).bind fun t476=>(if t476=true then ((tr_Spot.f t468).bind fun t477=>(if t477=true then ((tr_Spot.f t470).bind fun t478=>(if t478=true then ((tr_Spot.f t472).bind fun t479=>(tl_SkyEven.j1 kj4 t466 t468 t470 t472 bt474.1 (!t479))) else (tl_SkyEven.j1 kj4 t466 t468 t470 t472 bt474.1 true))) else (tl_SkyEven.j1 kj4 t466 t468 t470 t472 bt474.1 true))) else (tl_SkyEven.j1 kj4 t466 t468 t470 t472 bt474.1 true))) else (tl_SkyEven.j1 kj4 t466 t468 t470 t472 bt474.1 true)) else (tl_SkyEven.j1 kj4 t466 t468 t470 t472 bt474.1 true)) else (tl_SkyEven.j1 kj4 t466 t468 t470 t472 bt474.1 true)) else (tl_SkyEven.j1 kj4 t466 t468 t470 t472 bt474.1 true)) else (tl_SkyEven.j1 kj4 t466 t468 t470 t472 bt474.1 true)))=some r:=H
    have A68:=A0_ A680;clear A680;replace H:=Option.bind_eq_some_iff.mp H
    obtain ⟨⟨t474,t475⟩,A690,H⟩:=H
    replace H:(if t467=0 then (if t469=0 then (if t471=0 then (if t473=0 then (if t475=0 then ((tr_Spot.f t466).bind fun t476=>(if t476=true then ((tr_Spot.f t468).bind fun t477=>(if t477=true then ((tr_Spot.f t470).bind fun t478=>(if t478=true then ((tr_Spot.f t472).bind fun t479=>(tl_SkyEven.j1 kj4 t466 t468 t470 t472 t474 (!t479))) else (tl_SkyEven.j1 kj4 t466 t468 t470 t472 t474 true))) else (tl_SkyEven.j1 kj4 t466 t468 t470 t472 t474 true))) else (tl_SkyEven.j1 kj4 t466 t468 t470 t472 t474 true))) else (tl_SkyEven.j1 kj4 t466 t468 t470 t472 t474 true)) else (tl_SkyEven.j1 kj4 t466 t468 t470 t472 t474 true)) else (tl_SkyEven.j1 kj4 t466 t468 t470 t472 t474 true)) else (tl_SkyEven.j1 kj4 t466 t468 t470 t472 t474 true)) else (tl_SkyEven.j1 kj4 t466 t468 t470 t472 t474 true))=some r:=H
    have A69:=A0_ A690;clear A690;have HC70:=A0_ H;clear H;obtain ⟨hcz71_0,hcz71_1,hcz71_2,hcz71_3,hfz71_0,hfz71_1,hfz71_2,hfz71_3⟩:=bq4_ BK459.out
    go_upto_region 8 with (first|((with_reducible refine gate_callee (f:=38) rfl ?_);refine goesL_ (some 58) rfl rfl Tryz.func38 (by kernel_rfl) rfl #[.agg #[.slice A0_0 l0_0.length c0_0,.int .i64 a0_1,.int .i64 a0_2,.int .i64 a0_3],.int .i64 a1,.int .i64 a3] rfl y1_ ?_;(with_reducible refine (sky_Mean.calls kj4 _ _ l0_0 a0_1 a0_2 a0_3 a1 a3 t466 t467 _ ?side1 ?side2 A65.out).mono ?_);(case side1=>repeat (first|exact (Kd.C_below HR0_0.out HB.out)|(with_reducible refine Kd.C_alloc ?_ _)|(with_reducible refine Kd.C_drewN ?_ _)|(with_reducible refine Kd.C_drew ?_)));(case side2=>exact HC0_0.out);rintro e w72 ⟨rfl,hb⟩;refine ⟨_,rfl,?_⟩;have n0_:=A0_ (blk_below (g:=gb459) (o:=.cells #[.slice A0_0 l0_0.length c0_0,.int .i64 a0_1,.int .i64 a0_2,.int .i64 a0_3] 28 (0,0)) (bd_ BK459.out) hb);have n1_:=A0_ (below_step y6_ hb);clear BK459;clear HB;have BK459:=n0_;have HB:=n1_;clear n0_ n1_;(try clear hb);(try clear hb2);(try clear hk);(try clear hi);obtain ⟨hcz73_0,hcz73_1,hcz73_2,hcz73_3,hfz73_0,hfz73_1,hfz73_2,hfz73_3⟩:=bq4_ BK459.out)|((with_reducible refine gate_callee (f:=21) rfl ?_);refine goesL_ (some 65) rfl rfl Tryz.func21 (by kernel_rfl) rfl #[.agg #[.slice A0_0 l0_0.length c0_0,.int .i64 a0_1,.int .i64 a0_2,.int .i64 a0_3],.int .i64 a1,.int .i64 a3] rfl y1_ ?_;(with_reducible refine (sky_Place.calls kj4 _ _ l0_0 a0_1 a0_2 a0_3 a1 a3 t468 t469 _ ?side1 ?side2 A66.out).mono ?_);(case side1=>repeat (first|exact (Kd.C_below HR0_0.out HB.out)|(with_reducible refine Kd.C_alloc ?_ _)|(with_reducible refine Kd.C_drewN ?_ _)|(with_reducible refine Kd.C_drew ?_)));(case side2=>exact HC0_0.out);rintro e w74 ⟨rfl,hb⟩;refine ⟨_,rfl,?_⟩;have n0_:=A0_ (blk_below (g:=gb459) (o:=.cells #[.slice A0_0 l0_0.length c0_0,.int .i64 a0_1,.int .i64 a0_2,.int .i64 a0_3] 28 (0,0)) (bd_ BK459.out) hb);have n1_:=A0_ (below_step y6_ hb);clear BK459;clear HB;have BK459:=n0_;have HB:=n1_;clear n0_ n1_;(try clear hb);(try clear hb2);(try clear hk);(try clear hi);obtain ⟨hcz75_0,hcz75_1,hcz75_2,hcz75_3,hfz75_0,hfz75_1,hfz75_2,hfz75_3⟩:=bq4_ BK459.out)|((with_reducible refine gate_callee (f:=21) rfl ?_);refine goesL_ (some 73) rfl rfl Tryz.func21 (by kernel_rfl) rfl #[.agg #[.slice A0_0 l0_0.length c0_0,.int .i64 a0_1,.int .i64 a0_2,.int .i64 a0_3],.int .i64 a1,.int .i64 (wrap64 (a3+1))] rfl y1_ ?_;(with_reducible refine (sky_Place.calls kj4 _ _ l0_0 a0_1 a0_2 a0_3 a1 (wrap64 (a3+1)) t470 t471 _ ?side1 ?side2 A67.out).mono ?_);(case side1=>repeat (first|exact (Kd.C_below HR0_0.out HB.out)|(with_reducible refine Kd.C_alloc ?_ _)|(with_reducible refine Kd.C_drewN ?_ _)|(with_reducible refine Kd.C_drew ?_)));(case side2=>exact HC0_0.out);rintro e w76 ⟨rfl,hb⟩;refine ⟨_,rfl,?_⟩;have n0_:=A0_ (blk_below (g:=gb459) (o:=.cells #[.slice A0_0 l0_0.length c0_0,.int .i64 a0_1,.int .i64 a0_2,.int .i64 a0_3] 28 (0,0)) (bd_ BK459.out) hb);have n1_:=A0_ (below_step y6_ hb);clear BK459;clear HB;have BK459:=n0_;have HB:=n1_;clear n0_ n1_;(try clear hb);(try clear hb2);(try clear hk);(try clear hi);obtain ⟨hcz77_0,hcz77_1,hcz77_2,hcz77_3,hfz77_0,hfz77_1,hfz77_2,hfz77_3⟩:=bq4_ BK459.out)|((with_reducible refine gate_callee (f:=21) rfl ?_);refine goesL_ (some 80) rfl rfl Tryz.func21 (by kernel_rfl) rfl #[.agg #[.slice A0_0 l0_0.length c0_0,.int .i64 a0_1,.int .i64 a0_2,.int .i64 a0_3],.int .i64 a2,.int .i64 a3] rfl y1_ ?_;(with_reducible refine (sky_Place.calls kj4 _ _ l0_0 a0_1 a0_2 a0_3 a2 a3 t472 t473 _ ?side1 ?side2 A68.out).mono ?_);(case side1=>repeat (first|exact (Kd.C_below HR0_0.out HB.out)|(with_reducible refine Kd.C_alloc ?_ _)|(with_reducible refine Kd.C_drewN ?_ _)|(with_reducible refine Kd.C_drew ?_)));(case side2=>exact HC0_0.out);rintro e w78 ⟨rfl,hb⟩;refine ⟨_,rfl,?_⟩;have n0_:=A0_ (blk_below (g:=gb459) (o:=.cells #[.slice A0_0 l0_0.length c0_0,.int .i64 a0_1,.int .i64 a0_2,.int .i64 a0_3] 28 (0,0)) (bd_ BK459.out) hb);have n1_:=A0_ (below_step y6_ hb);clear BK459;clear HB;have BK459:=n0_;have HB:=n1_;clear n0_ n1_;(try clear hb);(try clear hb2);(try clear hk);(try clear hi);obtain ⟨hcz79_0,hcz79_1,hcz79_2,hcz79_3,hfz79_0,hfz79_1,hfz79_2,hfz79_3⟩:=bq4_ BK459.out)|((with_reducible refine gate_callee (f:=39) rfl ?_);refine goesL_ (some 88) rfl rfl Tryz.func39 (by kernel_rfl) rfl #[.agg #[.slice A0_0 l0_0.length c0_0,.int .i64 a0_1,.int .i64 a0_2,.int .i64 a0_3],.int .i64 a1,.int .i64 a2,.int .i64 a3] rfl y1_ ?_;(with_reducible refine (sky_Between.calls kj4 _ _ l0_0 a0_1 a0_2 a0_3 a1 a2 a3 t474 t475 _ ?side1 ?side2 A69.out).mono ?_);(case side1=>repeat (first|exact (Kd.C_below HR0_0.out HB.out)|(with_reducible refine Kd.C_alloc ?_ _)|(with_reducible refine Kd.C_drewN ?_ _)|(with_reducible refine Kd.C_drew ?_)));(case side2=>exact HC0_0.out);rintro e w80 ⟨rfl,hb⟩;refine ⟨_,rfl,?_⟩;have n0_:=A0_ (blk_below (g:=gb459) (o:=.cells #[.slice A0_0 l0_0.length c0_0,.int .i64 a0_1,.int .i64 a0_2,.int .i64 a0_3] 28 (0,0)) (bd_ BK459.out) hb);have n1_:=A0_ (below_step y6_ hb);clear BK459;clear HB;have BK459:=n0_;have HB:=n1_;clear n0_ n1_;(try clear hb);(try clear hb2);(try clear hk);(try clear hi)))
    (try simp only [Act.put,List.setIfInBounds_toArray,List.set_cons_zero,List.set_cons_succ])
    go_cut [128] (fun v128 wc=>∃ (kq:Nat) (x128_69:Bool),v128=.bool x128_69∧Aside0 (tl_SkyEven.j1 kq t466 t468 t470 t472 t474 x128_69=some r)∧Aside0 (kq≤kj4)∧Aside0 (wc.heap[gb459]?=some (.cells #[(.slice A0_0 l0_0.length c0_0),.int .i64 a0_1,.int .i64 a0_2,.int .i64 a0_3] 28 (0,0)))∧Aside0 (Below w.heap.size w wc))
    case first=>
     have H:=HC70.out
     clear HC70
     by_cases c81:t467=0
     ·rw [if_pos c81] at H
      have c81b0:(t467 == 0)=true:=beq_iff_eq.mpr c81
      have c81b1:(t467 != 0)=false:=bne_eq_false_iff_eq.mpr c81
      clear c81
      (first|rw [c81b0]|(simp only [i64_w,i32_w];rw [c81b0])|skip)
      by_cases c82:t469=0
      ·rw [if_pos c82] at H
       have c82b0:(t469 == 0)=true:=beq_iff_eq.mpr c82
       have c82b1:(t469 != 0)=false:=bne_eq_false_iff_eq.mpr c82
       clear c82
       by_cases c83:t471=0
       ·rw [if_pos c83] at H
        have c83b0:(t471 == 0)=true:=beq_iff_eq.mpr c83
        have c83b1:(t471 != 0)=false:=bne_eq_false_iff_eq.mpr c83
        clear c83
        by_cases c84:t473=0
        ·rw [if_pos c84] at H
         have c84b0:(t473 == 0)=true:=beq_iff_eq.mpr c84
         have c84b1:(t473 != 0)=false:=bne_eq_false_iff_eq.mpr c84
         clear c84
         by_cases c85:t475=0
         ·rw [if_pos c85] at H
          have c85b0:(t475 == 0)=true:=beq_iff_eq.mpr c85
          have c85b1:(t475 != 0)=false:=bne_eq_false_iff_eq.mpr c85
          clear c85;replace H:=Option.bind_eq_some_iff.mp H;obtain ⟨t476,A860,H⟩:=H
          replace H:(if t476=true then ((tr_Spot.f t468).bind fun t477=>(if t477=true then ((tr_Spot.f t470).bind fun t478=>(if t478=true then ((tr_Spot.f t472).bind fun t479=>(tl_SkyEven.j1 kj4 t466 t468 t470 t472 t474 (!t479))) else (tl_SkyEven.j1 kj4 t466 t468 t470 t472 t474 true))) else (tl_SkyEven.j1 kj4 t466 t468 t470 t472 t474 true))) else (tl_SkyEven.j1 kj4 t466 t468 t470 t472 t474 true))=some r:=H
          have A86:=A0_ A860;clear A860
          by_cases c87:t476=true
          ·subst c87
           have H1:((tr_Spot.f t468).bind fun t477=>(if t477=true then ((tr_Spot.f t470).bind fun t478=>(if t478=true then ((tr_Spot.f t472).bind fun t479=>(tl_SkyEven.j1 kj4 t466 t468 t470 t472 t474 (!t479))) else (tl_SkyEven.j1 kj4 t466 t468 t470 t472 t474 true))) else (tl_SkyEven.j1 kj4 t466 t468 t470 t472 t474 true)))=some r:=by rw [if_pos rfl] at H;exact H
           clear H;have H:=H1;clear H1;replace H:=Option.bind_eq_some_iff.mp H;obtain ⟨t477,A880,H⟩:=H
           replace H:(if t477=true then ((tr_Spot.f t470).bind fun t478=>(if t478=true then ((tr_Spot.f t472).bind fun t479=>(tl_SkyEven.j1 kj4 t466 t468 t470 t472 t474 (!t479))) else (tl_SkyEven.j1 kj4 t466 t468 t470 t472 t474 true))) else (tl_SkyEven.j1 kj4 t466 t468 t470 t472 t474 true))=some r:=H
           have A88:=A0_ A880;clear A880
           by_cases c89:t477=true
           ·subst c89
            have H1:((tr_Spot.f t470).bind fun t478=>(if t478=true then ((tr_Spot.f t472).bind fun t479=>(tl_SkyEven.j1 kj4 t466 t468 t470 t472 t474 (!t479))) else (tl_SkyEven.j1 kj4 t466 t468 t470 t472 t474 true)))=some r:=by rw [if_pos rfl] at H;exact H
            clear H;have H:=H1;clear H1;replace H:=Option.bind_eq_some_iff.mp H;obtain ⟨t478,A900,H⟩:=H
            replace H:(if t478=true then ((tr_Spot.f t472).bind fun t479=>(tl_SkyEven.j1 kj4 t466 t468 t470 t472 t474 (!t479))) else (tl_SkyEven.j1 kj4 t466 t468 t470 t472 t474 true))=some r:=H
            have A90:=A0_ A900;clear A900
            by_cases c91:t478=true
            ·subst c91
             have H1:((tr_Spot.f t472).bind fun t479=>(tl_SkyEven.j1 kj4 t466 t468 t470 t472 t474 (!t479)))=some r:=by rw [if_pos rfl] at H;exact H
             clear H;have H:=H1;clear H1;replace H:=Option.bind_eq_some_iff.mp H;obtain ⟨t479,A920,H⟩:=H
             replace H:(tl_SkyEven.j1 kj4 t466 t468 t470 t472 t474 (!t479))=some r:=H
             have A92:=A0_ A920;clear A920
             have H':=A0_ H
             clear H
             go_wp2_with (first|(go_at_call 23;(with_reducible refine (tr_Spot.calls t466 true _ A86.out).mono ?_);rintro e w' ⟨rfl,⟨nd,rfl⟩⟩)|(go_at_call 23;(with_reducible refine (tr_Spot.calls t468 true _ A88.out).mono ?_);rintro e w' ⟨rfl,⟨nd,rfl⟩⟩)|(go_at_call 23;(with_reducible refine (tr_Spot.calls t470 true _ A90.out).mono ?_);rintro e w' ⟨rfl,⟨nd,rfl⟩⟩)|(go_at_call 23;(with_reducible refine (tr_Spot.calls t472 t479 _ A92.out).mono ?_);rintro e w' ⟨rfl,⟨nd,rfl⟩⟩))
             go_meet
             case rel=>exact ⟨_,(!t479),y4_,H',⟨by have:=HJ4.out;first|omega|exact Nat.le_refl _⟩,⟨by (with_reducible repeat (first|refine blk_drewN ?_ _|refine blk_drew ?_|refine blk_alloc ?_ _));exact BK459.out⟩,⟨y6_⟩⟩
            ·replace c91:=Bool.eq_false_iff.mpr c91;subst c91
             have H1:(tl_SkyEven.j1 kj4 t466 t468 t470 t472 t474 true)=some r:=by rw [if_neg (show ¬ (false=true) by decide)] at H;exact H
             clear H;have H:=H1;clear H1
             have H':=A0_ H
             clear H
             go_wp2_with (first|(go_at_call 23;(with_reducible refine (tr_Spot.calls t466 true _ A86.out).mono ?_);rintro e w' ⟨rfl,⟨nd,rfl⟩⟩)|(go_at_call 23;(with_reducible refine (tr_Spot.calls t468 true _ A88.out).mono ?_);rintro e w' ⟨rfl,⟨nd,rfl⟩⟩)|(go_at_call 23;(with_reducible refine (tr_Spot.calls t470 false _ A90.out).mono ?_);rintro e w' ⟨rfl,⟨nd,rfl⟩⟩))
             go_meet
             case rel=>exact ⟨_,(true),y4_,H',⟨by have:=HJ4.out;first|omega|exact Nat.le_refl _⟩,⟨by (with_reducible repeat (first|refine blk_drewN ?_ _|refine blk_drew ?_|refine blk_alloc ?_ _));exact BK459.out⟩,⟨y6_⟩⟩
           ·replace c89:=Bool.eq_false_iff.mpr c89;subst c89
            have H1:(tl_SkyEven.j1 kj4 t466 t468 t470 t472 t474 true)=some r:=by rw [if_neg (show ¬ (false=true) by decide)] at H;exact H
            clear H;have H:=H1;clear H1
            have H':=A0_ H
            clear H
            go_wp2_with (first|(go_at_call 23;(with_reducible refine (tr_Spot.calls t466 true _ A86.out).mono ?_);rintro e w' ⟨rfl,⟨nd,rfl⟩⟩)|(go_at_call 23;(with_reducible refine (tr_Spot.calls t468 false _ A88.out).mono ?_);rintro e w' ⟨rfl,⟨nd,rfl⟩⟩))
            go_meet
            case rel=>exact ⟨_,(true),y4_,H',⟨by have:=HJ4.out;first|omega|exact Nat.le_refl _⟩,⟨by (with_reducible repeat (first|refine blk_drewN ?_ _|refine blk_drew ?_|refine blk_alloc ?_ _));exact BK459.out⟩,⟨y6_⟩⟩
          ·replace c87:=Bool.eq_false_iff.mpr c87;subst c87
           have H1:(tl_SkyEven.j1 kj4 t466 t468 t470 t472 t474 true)=some r:=by rw [if_neg (show ¬ (false=true) by decide)] at H;exact H
           clear H;have H:=H1;clear H1
           have H':=A0_ H
           clear H
           go_wp2_with (first|(go_at_call 23;(with_reducible refine (tr_Spot.calls t466 false _ A86.out).mono ?_);rintro e w' ⟨rfl,⟨nd,rfl⟩⟩))
           go_meet
           case rel=>exact ⟨_,(true),y4_,H',⟨by have:=HJ4.out;first|omega|exact Nat.le_refl _⟩,⟨by (with_reducible repeat (first|refine blk_drewN ?_ _|refine blk_drew ?_|refine blk_alloc ?_ _));exact BK459.out⟩,⟨y6_⟩⟩
         ·rw [if_neg c85] at H
          have c85b0:(t475 == 0)=false:=beq_eq_false_iff_ne.mpr c85
          have c85b1:(t475 != 0)=true:=bne_iff_ne.mpr c85
          have H':=A0_ H
          clear H;go_wp2
          go_meet
          case rel=>exact ⟨_,(true),y4_,H',⟨by have:=HJ4.out;first|omega|exact Nat.le_refl _⟩,⟨by (with_reducible repeat (first|refine blk_drewN ?_ _|refine blk_drew ?_|refine blk_alloc ?_ _));exact BK459.out⟩,⟨y6_⟩⟩
        ·rw [if_neg c84] at H
         have c84b0:(t473 == 0)=false:=beq_eq_false_iff_ne.mpr c84
         have c84b1:(t473 != 0)=true:=bne_iff_ne.mpr c84
         have H':=A0_ H
         clear H;go_wp2
         go_meet
         case rel=>exact ⟨_,(true),y4_,H',⟨by have:=HJ4.out;first|omega|exact Nat.le_refl _⟩,⟨by (with_reducible repeat (first|refine blk_drewN ?_ _|refine blk_drew ?_|refine blk_alloc ?_ _));exact BK459.out⟩,⟨y6_⟩⟩
       ·rw [if_neg c83] at H
        have c83b0:(t471 == 0)=false:=beq_eq_false_iff_ne.mpr c83
        have c83b1:(t471 != 0)=true:=bne_iff_ne.mpr c83
        have H':=A0_ H
        clear H;go_wp2
        go_meet
        case rel=>exact ⟨_,(true),y4_,H',⟨by have:=HJ4.out;first|omega|exact Nat.le_refl _⟩,⟨by (with_reducible repeat (first|refine blk_drewN ?_ _|refine blk_drew ?_|refine blk_alloc ?_ _));exact BK459.out⟩,⟨y6_⟩⟩
      ·rw [if_neg c82] at H
       have c82b0:(t469 == 0)=false:=beq_eq_false_iff_ne.mpr c82
       have c82b1:(t469 != 0)=true:=bne_iff_ne.mpr c82
       have H':=A0_ H
       clear H;go_wp2
       go_meet
       case rel=>exact ⟨_,(true),y4_,H',⟨by have:=HJ4.out;first|omega|exact Nat.le_refl _⟩,⟨by (with_reducible repeat (first|refine blk_drewN ?_ _|refine blk_drew ?_|refine blk_alloc ?_ _));exact BK459.out⟩,⟨y6_⟩⟩
     ·rw [if_neg c81] at H
      have c81b0:(t467 == 0)=false:=beq_eq_false_iff_ne.mpr c81
      have c81b1:(t467 != 0)=true:=bne_iff_ne.mpr c81
      (first|rw [c81b0]|(simp only [i64_w,i32_w];rw [c81b0])|skip)
      have H':=A0_ H
      clear H;go_wp2
      go_meet
      case rel=>exact ⟨_,(true),y4_,H',⟨by have:=HJ4.out;first|omega|exact Nat.le_refl _⟩,⟨by (with_reducible repeat (first|refine blk_drewN ?_ _|refine blk_drew ?_|refine blk_alloc ?_ _));exact BK459.out⟩,⟨y6_⟩⟩
    case rest=>
     clear HC70;(try clear c1);(try clear c2);(try clear p2);(try clear c3);(try clear c6);(try clear p6);(try clear c8);(try clear c9);(try clear c10);(try clear c11);(try clear c12);(try clear c14);(try clear c15);(try clear c15b0);(try clear c15b1);(try clear c21);(try clear c25);(try clear c38);(try clear c39);(try clear c62);(try clear p64);(try clear c81);(try clear c81b0);(try clear c81b1);(try clear c82);(try clear c82b0);(try clear c82b1);(try clear c83);(try clear c83b0);(try clear c83b1);(try clear c84);(try clear c84b0);(try clear c84b1);(try clear c85);(try clear c85b0);(try clear c85b1);(try clear c87);(try clear c89);(try clear c91);(try clear hcz16_0);(try clear hcz16_1);(try clear hcz16_2);(try clear hcz16_3);(try clear hcz18_0);(try clear hcz18_1);(try clear hcz18_2);(try clear hcz18_3);(try clear hcz20_0);(try clear hcz20_1);(try clear hcz20_2);(try clear hcz20_3);(try clear hcz22_0);(try clear hcz22_1);(try clear hcz22_2);(try clear hcz22_3);(try clear hcz26_0);(try clear hcz26_1);(try clear hcz26_2);(try clear hcz26_3);(try clear hcz28_0);(try clear hcz28_1);(try clear hcz28_2);(try clear hcz28_3);(try clear hcz30_0);(try clear hcz30_1);(try clear hcz30_2);(try clear hcz30_3);(try clear hcz32_0);(try clear hcz32_1);(try clear hcz32_2);(try clear hcz32_3);(try clear hcz34_0);(try clear hcz34_1);(try clear hcz34_2);(try clear hcz34_3);(try clear hcz36_0);(try clear hcz36_1);(try clear hcz36_2);(try clear hcz36_3);(try clear hcz38_0);(try clear hcz38_1);(try clear hcz38_2);(try clear hcz38_3);(try clear hcz40_0);(try clear hcz40_1);(try clear hcz40_2);(try clear hcz40_3);(try clear hcz42_0);(try clear hcz42_1);(try clear hcz42_2);(try clear hcz42_3);(try clear hcz44_0);(try clear hcz44_1);(try clear hcz44_2);(try clear hcz44_3);(try clear hcz46_0);(try clear hcz46_1);(try clear hcz46_2);(try clear hcz46_3);(try clear hcz48_0);(try clear hcz48_1);(try clear hcz48_2);(try clear hcz48_3);(try clear hcz50_0);(try clear hcz50_1);(try clear hcz50_2);(try clear hcz50_3);(try clear hcz52_0);(try clear hcz52_1);(try clear hcz52_2);(try clear hcz52_3);(try clear hcz54_0);(try clear hcz54_1);(try clear hcz54_2);(try clear hcz54_3);(try clear hcz56_0);(try clear hcz56_1);(try clear hcz56_2);(try clear hcz56_3);(try clear hcz58_0);(try clear hcz58_1);(try clear hcz58_2);(try clear hcz58_3);(try clear hcz60_0);(try clear hcz60_1);(try clear hcz60_2);(try clear hcz60_3);(try clear hcz71_0);(try clear hcz71_1);(try clear hcz71_2);(try clear hcz71_3);(try clear hcz73_0);(try clear hcz73_1);(try clear hcz73_2);(try clear hcz73_3);(try clear hcz75_0);(try clear hcz75_1);(try clear hcz75_2);(try clear hcz75_3);(try clear hcz77_0);(try clear hcz77_1);(try clear hcz77_2);(try clear hcz77_3);(try clear hcz79_0);(try clear hcz79_1);(try clear hcz79_2);(try clear hcz79_3);(try clear hfz16_0);(try clear hfz16_1);(try clear hfz16_2)
     (try clear hfz16_3);(try clear hfz18_0);(try clear hfz18_1);(try clear hfz18_2);(try clear hfz18_3);(try clear hfz20_0);(try clear hfz20_1);(try clear hfz20_2);(try clear hfz20_3);(try clear hfz22_0);(try clear hfz22_1);(try clear hfz22_2);(try clear hfz22_3);(try clear hfz26_0);(try clear hfz26_1);(try clear hfz26_2);(try clear hfz26_3);(try clear hfz28_0);(try clear hfz28_1);(try clear hfz28_2);(try clear hfz28_3);(try clear hfz30_0);(try clear hfz30_1);(try clear hfz30_2);(try clear hfz30_3);(try clear hfz32_0);(try clear hfz32_1);(try clear hfz32_2);(try clear hfz32_3);(try clear hfz34_0);(try clear hfz34_1);(try clear hfz34_2);(try clear hfz34_3);(try clear hfz36_0);(try clear hfz36_1);(try clear hfz36_2);(try clear hfz36_3);(try clear hfz38_0);(try clear hfz38_1);(try clear hfz38_2);(try clear hfz38_3);(try clear hfz40_0);(try clear hfz40_1);(try clear hfz40_2);(try clear hfz40_3);(try clear hfz42_0);(try clear hfz42_1);(try clear hfz42_2);(try clear hfz42_3);(try clear hfz44_0);(try clear hfz44_1);(try clear hfz44_2);(try clear hfz44_3);(try clear hfz46_0);(try clear hfz46_1);(try clear hfz46_2);(try clear hfz46_3);(try clear hfz48_0);(try clear hfz48_1);(try clear hfz48_2);(try clear hfz48_3);(try clear hfz50_0);(try clear hfz50_1);(try clear hfz50_2);(try clear hfz50_3);(try clear hfz52_0);(try clear hfz52_1);(try clear hfz52_2);(try clear hfz52_3);(try clear hfz54_0);(try clear hfz54_1);(try clear hfz54_2);(try clear hfz54_3);(try clear hfz56_0);(try clear hfz56_1);(try clear hfz56_2);(try clear hfz56_3);(try clear hfz58_0);(try clear hfz58_1);(try clear hfz58_2);(try clear hfz58_3);(try clear hfz60_0);(try clear hfz60_1);(try clear hfz60_2);(try clear hfz60_3);(try clear hfz71_0);(try clear hfz71_1);(try clear hfz71_2);(try clear hfz71_3);(try clear hfz73_0);(try clear hfz73_1);(try clear hfz73_2);(try clear hfz73_3);(try clear hfz75_0);(try clear hfz75_1);(try clear hfz75_2);(try clear hfz75_3);(try clear hfz77_0);(try clear hfz77_1);(try clear hfz77_2);(try clear hfz77_3);(try clear hfz79_0);(try clear hfz79_1);(try clear hfz79_2);(try clear hfz79_3);(try clear p2)
     obtain ⟨kq,x128_69,rfl,HA,HJ69,BK459,HB⟩:=hcut
     cases kq with
     |zero=>exact absurd HA.out (by simp [tl_SkyEven.j1])
     |succ kj69=>
      have H:=HA.out
      clear HA
      simp only [tl_SkyEven.j1] at H
      by_cases c93:x128_69=true
      ·subst c93
       have H1:(some false)=some r:=by rw [if_pos rfl] at H;exact H
       clear H;have H:=H1;clear H1;obtain rfl:=Option.some.inj H;go_wp2;go_ret
       exact ⟨y3_,y6_⟩
      ·replace c93:=Bool.eq_false_iff.mpr c93;subst c93
       have H1:((tr_Apart.f t466 t468).bind fun t480=>(if t480≤600 then ((tr_Less.f (wrap64 (t470 - t468))).bind fun t481=>(if t481<10800 then ((tr_Less.f (wrap64 (t468 - t472))).bind fun t482=>(if t474=t482 then ((tl_known.f).bind fun t483=>(some t483)) else (some false))) else (some false))) else (some false)))=some r:=by rw [if_neg (show ¬ (false=true) by decide)] at H;exact H
       clear H;have H:=H1;clear H1;replace H:=Option.bind_eq_some_iff.mp H;obtain ⟨t480,A940,H⟩:=H
       replace H:(if t480≤600 then ((tr_Less.f (wrap64 (t470 - t468))).bind fun t481=>(if t481<10800 then ((tr_Less.f (wrap64 (t468 - t472))).bind fun t482=>(if t474=t482 then ((tl_known.f).bind fun t483=>(some t483)) else (some false))) else (some false))) else (some false))=some r:=H
       have A94:=A0_ A940;clear A940
       by_cases c95:t480≤600
       ·rw [if_pos c95] at H;have c95b0:decide (t480≤600)=true:=decide_eq_true c95;clear c95;replace H:=Option.bind_eq_some_iff.mp H;obtain ⟨t481,A960,H⟩:=H
        replace H:(if t481<10800 then ((tr_Less.f (wrap64 (t468 - t472))).bind fun t482=>(if t474=t482 then ((tl_known.f).bind fun t483=>(some t483)) else (some false))) else (some false))=some r:=H
        have A96:=A0_ A960;clear A960
        by_cases c97:t481<10800
        ·rw [if_pos c97] at H;have c97b0:decide (t481<10800)=true:=decide_eq_true c97;clear c97;replace H:=Option.bind_eq_some_iff.mp H;obtain ⟨t482,A980,H⟩:=H
         replace H:(if t474=t482 then ((tl_known.f).bind fun t483=>(some t483)) else (some false))=some r:=H
         have A98:=A0_ A980;clear A980
         by_cases c99:t474=t482
         ·rw [if_pos c99] at H
          have c99b0:(t474 == t482)=true:=beq_iff_eq.mpr c99
          have c99b1:(t474 != t482)=false:=bne_eq_false_iff_eq.mpr c99
          clear c99;replace H:=Option.bind_eq_some_iff.mp H;obtain ⟨t483,A1000,H⟩:=H
          replace H:(some t483)=some r:=H
          have A100:=A0_ A1000;clear A1000;obtain rfl:=Option.some.inj H
          go_wp2_with (first|((with_reducible refine gate_callee (f:=24) rfl ?_);refine goesL_ (some 131) rfl rfl Tryz.func24 (by kernel_rfl) rfl #[.int .i64 t466,.int .i64 t468] rfl y1_ ?_;(with_reducible refine (tr_Apart.calls t466 t468 t480 _ A94.out).mono ?_);rintro e w101 ⟨rfl,hb⟩;refine ⟨_,rfl,?_⟩;have n0_:=A0_ (blk_below (g:=gb459) (o:=.cells #[.slice A0_0 l0_0.length c0_0,.int .i64 a0_1,.int .i64 a0_2,.int .i64 a0_3] 28 (0,0)) (bd_ BK459.out) hb);have n1_:=A0_ (below_step y6_ hb);clear BK459;clear HB;have BK459:=n0_;have HB:=n1_;clear n0_ n1_;(try clear hb);(try clear hb2);(try clear hk);(try clear hi))|(go_at_call 40;(with_reducible refine (tr_Less.calls (wrap64 (t470 - t468)) t481 _ A96.out).mono ?_);rintro e w' ⟨rfl,⟨nd,rfl⟩⟩)|(go_at_call 40;(with_reducible refine (tr_Less.calls (wrap64 (t468 - t472)) t482 _ A98.out).mono ?_);rintro e w' ⟨rfl,⟨nd,rfl⟩⟩)|(go_at_call 11;(with_reducible refine (tl_known.calls  t483 _ A100.out ?side1).mono ?_);(case side1=>exact LD.below HLD.out y6_);rintro e w102 ⟨rfl,hb⟩;have n0_:=A0_ (blk_below (g:=gb459) (o:=.cells #[.slice A0_0 l0_0.length c0_0,.int .i64 a0_1,.int .i64 a0_2,.int .i64 a0_3] 28 (0,0)) (bd_ BK459.out) hb);have n1_:=A0_ (below_step y6_ hb);clear BK459;clear HB;have BK459:=n0_;have HB:=n1_;clear n0_ n1_;(try clear hb);(try clear hb2);(try clear hk);(try clear hi)))
          go_ret
          exact ⟨y3_,y6_⟩
         ·rw [if_neg c99] at H
          have c99b0:(t474 == t482)=false:=beq_eq_false_iff_ne.mpr c99
          have c99b1:(t474 != t482)=true:=bne_iff_ne.mpr c99
          obtain rfl:=Option.some.inj H
          go_wp2_with (first|((with_reducible refine gate_callee (f:=24) rfl ?_);refine goesL_ (some 131) rfl rfl Tryz.func24 (by kernel_rfl) rfl #[.int .i64 t466,.int .i64 t468] rfl y1_ ?_;(with_reducible refine (tr_Apart.calls t466 t468 t480 _ A94.out).mono ?_);rintro e w103 ⟨rfl,hb⟩;refine ⟨_,rfl,?_⟩;have n0_:=A0_ (blk_below (g:=gb459) (o:=.cells #[.slice A0_0 l0_0.length c0_0,.int .i64 a0_1,.int .i64 a0_2,.int .i64 a0_3] 28 (0,0)) (bd_ BK459.out) hb);have n1_:=A0_ (below_step y6_ hb);clear BK459;clear HB;have BK459:=n0_;have HB:=n1_;clear n0_ n1_;(try clear hb);(try clear hb2);(try clear hk);(try clear hi))|(go_at_call 40;(with_reducible refine (tr_Less.calls (wrap64 (t470 - t468)) t481 _ A96.out).mono ?_);rintro e w' ⟨rfl,⟨nd,rfl⟩⟩)|(go_at_call 40;(with_reducible refine (tr_Less.calls (wrap64 (t468 - t472)) t482 _ A98.out).mono ?_);rintro e w' ⟨rfl,⟨nd,rfl⟩⟩))
          go_ret
          exact ⟨y3_,y6_⟩
        ·rw [if_neg c97] at H;have c97b0:decide (t481<10800)=false:=decide_eq_false c97;clear c97;obtain rfl:=Option.some.inj H
         go_wp2_with (first|((with_reducible refine gate_callee (f:=24) rfl ?_);refine goesL_ (some 131) rfl rfl Tryz.func24 (by kernel_rfl) rfl #[.int .i64 t466,.int .i64 t468] rfl y1_ ?_;(with_reducible refine (tr_Apart.calls t466 t468 t480 _ A94.out).mono ?_);rintro e w104 ⟨rfl,hb⟩;refine ⟨_,rfl,?_⟩;have n0_:=A0_ (blk_below (g:=gb459) (o:=.cells #[.slice A0_0 l0_0.length c0_0,.int .i64 a0_1,.int .i64 a0_2,.int .i64 a0_3] 28 (0,0)) (bd_ BK459.out) hb);have n1_:=A0_ (below_step y6_ hb);clear BK459;clear HB;have BK459:=n0_;have HB:=n1_;clear n0_ n1_;(try clear hb);(try clear hb2);(try clear hk);(try clear hi))|(go_at_call 40;(with_reducible refine (tr_Less.calls (wrap64 (t470 - t468)) t481 _ A96.out).mono ?_);rintro e w' ⟨rfl,⟨nd,rfl⟩⟩))
         go_ret
         exact ⟨y3_,y6_⟩
       ·rw [if_neg c95] at H;have c95b0:decide (t480≤600)=false:=decide_eq_false c95;clear c95;obtain rfl:=Option.some.inj H
        go_wp2_with (first|((with_reducible refine gate_callee (f:=24) rfl ?_);refine goesL_ (some 131) rfl rfl Tryz.func24 (by kernel_rfl) rfl #[.int .i64 t466,.int .i64 t468] rfl y1_ ?_;(with_reducible refine (tr_Apart.calls t466 t468 t480 _ A94.out).mono ?_);rintro e w105 ⟨rfl,hb⟩;refine ⟨_,rfl,?_⟩;have n0_:=A0_ (blk_below (g:=gb459) (o:=.cells #[.slice A0_0 l0_0.length c0_0,.int .i64 a0_1,.int .i64 a0_2,.int .i64 a0_3] 28 (0,0)) (bd_ BK459.out) hb);have n1_:=A0_ (below_step y6_ hb);clear BK459;clear HB;have BK459:=n0_;have HB:=n1_;clear n0_ n1_;(try clear hb);(try clear hb2);(try clear hk);(try clear hi)))
        go_ret
        exact ⟨y3_,y6_⟩
end Go.Proofs.YtaidphhkhddemaaGreatDoor.PSky
end
section
namespace Go.Proofs.YtaidphhkhddemaaGreatDoor.PSky
open Go.RowKit Go.Proofs.YtaidphhkhddemaaGreatDoorW.PrintWords Go.Proofs.YtaidphhkhddemaaGreatDoorW.PrintLast Go.Proofs.YtaidphhkhddemaaGreatDoorW.PrintMore
def curveF (f:Int→Int) (L m:Int):Int:=f (m % 21600*L / 21600)+(f ((m % 21600*L / 21600+1) % L) - f (m % 21600*L / 21600))*(m % 21600*L % 21600) / 21600
theorem idx (L m:Int) (hL:1≤L∧L≤8):((m+1) % 21600*L / 21600=m % 21600*L / 21600∧(m+1) % 21600*L % 21600=m % 21600*L % 21600+L) ∨
  ((m+1) % 21600*L / 21600=(m % 21600*L / 21600+1) % L∧21592≤m % 21600*L % 21600∧0≤(m+1) % 21600*L % 21600∧(m+1) % 21600*L % 21600≤7):=by
 have hx:(m+1) % 21600=m % 21600+1∧m % 21600<21599∨(m+1) % 21600=0∧m % 21600=21599:=by omega
 have h0:=Int.emod_nonneg m (show (21600:Int)≠0 by decide)
 generalize (m+1) % 21600=y at hx ⊢
 generalize m % 21600=x at hx h0 ⊢
 rcases hx with ⟨rfl,hx⟩|⟨rfl,rfl⟩
 ·have h1:(x+1)*L≤21599*L:=Int.mul_le_mul_of_nonneg_right (by omega) (by omega)
  have h2:0≤x*L:=Int.mul_nonneg h0 (by omega)
  rw [Int.add_mul,Int.one_mul] at h1 ⊢
  generalize x*L=s at h1 h2 ⊢
  rcases (show (s+L) / 21600=s / 21600∨(s+L) / 21600=s / 21600+1 by omega) with h3|h3
  ·exact Or.inl ⟨h3,by omega⟩
  ·rw [Int.emod_eq_of_lt (show 0≤s / 21600+1 by omega) (by omega)]
   exact Or.inr ⟨h3,by omega,by omega,by omega⟩
 ·have q:21599*L / 21600=L - 1:=by omega
  rw [Int.zero_mul,show 21599*L / 21600+1=L by omega,Int.emod_self]
  exact Or.inr ⟨by decide,by omega,by decide,by decide⟩
theorem curve_step (f:Int→Int) (hf:∀ i,-600≤f i∧f i≤600) (L m:Int) (hL:1≤L∧L≤8):curveF f L m≤1+curveF f L (m+1):=by
 have hi:=idx L m hL
 have hz:=Int.emod_lt_of_pos (m % 21600*L) (show (0:Int)<21600 by decide)
 unfold curveF
 rcases hi with ⟨e1,e2⟩|⟨e1,e2,e3,e4⟩
 ·rw [e1,e2]
  have h1:=hf (m % 21600*L / 21600)
  have h2:=hf ((m % 21600*L / 21600+1) % L)
  generalize f (m % 21600*L / 21600)=a at h1 ⊢
  generalize f ((m % 21600*L / 21600+1) % L)=b at h2 ⊢
  generalize m % 21600*L % 21600=z
  rw [Int.mul_add]
  have h3:-1200*L≤(b - a)*L:=Int.mul_le_mul_of_nonneg_right (by omega) (by omega)
  omega
 ·rw [e1]
  have h1:=hf (m % 21600*L / 21600)
  have h2:=hf ((m % 21600*L / 21600+1) % L)
  have h3:=hf (((m % 21600*L / 21600+1) % L+1) % L)
  generalize f (m % 21600*L / 21600)=a at h1 ⊢
  generalize f (((m % 21600*L / 21600+1) % L+1) % L)=c at h3 ⊢
  generalize f ((m % 21600*L / 21600+1) % L)=b at h2 h3 ⊢
  generalize m % 21600*L % 21600=z at hz e2 ⊢
  generalize (m+1) % 21600*L % 21600=y at e3 e4 ⊢
  have h4:-1200*y≤(c - b)*y:=Int.mul_le_mul_of_nonneg_right (by omega) (by omega)
  have h5:-1200*(21600 - z)≤(b - a)*(21600 - z):=Int.mul_le_mul_of_nonneg_right (by omega) (by omega)
  have h6:(b - a)*(21600 - z)=(b - a)*21600 - (b - a)*z:=Int.mul_sub _ _ _
  omega
theorem curve_in (f:Int→Int) (hf:∀ i,-600≤f i∧f i≤600) (L m:Int):-600≤curveF f L m∧curveF f L m≤600:=by
 have h1:=hf (m % 21600*L / 21600)
 have h2:=hf ((m % 21600*L / 21600+1) % L)
 have hz:=Int.emod_lt_of_pos (m % 21600*L) (show (0:Int)<21600 by decide)
 have hy:=Int.emod_nonneg (m % 21600*L) (show (21600:Int)≠0 by decide)
 unfold curveF
 generalize f (m % 21600*L / 21600)=a at h1 ⊢
 generalize f ((m % 21600*L / 21600+1) % L)=b at h2 ⊢
 generalize m % 21600*L % 21600=z at hz hy ⊢
 rcases Int.le_total a b with h|h
 ·have h3:0≤(b - a)*z:=Int.mul_nonneg (by omega) hy
  have h4:(b - a)*z≤(b - a)*21600:=Int.mul_le_mul_of_nonneg_left (by omega) (by omega)
  omega
 ·have h3:0≤(a - b)*z:=Int.mul_nonneg (by omega) hy
  have h4:(a - b)*z≤(a - b)*21600:=Int.mul_le_mul_of_nonneg_left (by omega) (by omega)
  have h5:(b - a)*z = -((a - b)*z):=by rw [← Int.neg_mul];congr 1;omega
  omega
theorem curve_up (f:Int→Int) (hf:∀ i,-600≤f i∧f i≤600) (L m:Int) (hL:1≤L∧L≤8):∀ n:Nat,m+curveF f L m≤m+n+curveF f L (m+n)
 |0=>by simp
 |n+1=>by
  have h1:=curve_up f hf L m hL n
  have h2:=curve_step f hf L (m+n) hL
  rw [show m+((n+1:Nat):Int)=m+n+1 by omega]
  omega
theorem way_curve (b:S83) (d:Int):wayOf b d=meanOf b d+curveF (rd b.f2) (b.f2.length:Int) (meanOf b d):=by
 unfold wayOf stepOf curveF
 omega
theorem way_near {b:S83} (h:okBody b=true) (d:Int):-600≤wayOf b d - meanOf b d∧wayOf b d - meanOf b d≤600:=by
 have:=curve_in (rd b.f2) (road_bounds h) (b.f2.length:Int) (meanOf b d)
 rw [way_curve]
 omega
theorem gone_next {p q:Int} (h:okPeriod p q=true) (d:Int):goneOf p q d≤goneOf p q (d+1)∧goneOf p q (d+1)≤goneOf p q d+5400:=by
 have hp:=period_of h
 have e:(d+1)*21600*q=d*21600*q+21600*q:=by rw [Int.add_mul,Int.add_mul,Int.one_mul]
 unfold goneOf
 rw [e]
 constructor
 ·exact Int.ediv_le_ediv (by omega) (by omega)
 ·rw [← Int.add_mul_ediv_right _ _ (show p≠0 by omega)]
  exact Int.ediv_le_ediv (by omega) (by omega)
theorem way_next {b:S83} (h:okBody b=true) (d:Int):0≤wayOf b (d+1) - wayOf b d∧wayOf b (d+1) - wayOf b d≤6600:=by
 have hp:okPeriod b.f0.f0 b.f0.f1=true:=by simp only [okBody,Bool.and_eq_true] at h;exact h.1
 have hg:=gone_next hp d
 have hl:=body_len h
 have hm:meanOf b (d+1)=meanOf b d+((goneOf b.f0.f0 b.f0.f1 (d+1) - goneOf b.f0.f0 b.f0.f1 d).toNat:Int):=by
  unfold meanOf
  omega
 have hu:=curve_up (rd b.f2) (road_bounds h) (b.f2.length:Int) (meanOf b d) (by omega) (goneOf b.f0.f0 b.f0.f1 (d+1) - goneOf b.f0.f0 b.f0.f1 d).toNat
 rw [← hm] at hu
 have h1:=way_near h d
 have h2:=way_near h (d+1)
 rw [way_curve,way_curve] at *
 omega
def okBodyN (l:List S83) (n:Int):Bool:=okIn n 0 ((l.length:Int) - 1)
theorem isBody_eq {l:List S83} (hl:l.length≤1000000) (p q n i:Int):sky_isBody.f l p q n i=some (okBodyN l i):=by
 unfold sky_isBody.f okBodyN
 rw [wrap_id (by omega),in_eq]
 rfl
theorem Body_eq {l:List S83} (hl:l.length≤1000000) (p q n i:Int):tr_Body.f l p q n i=some (okBodyN l i):=isBody_eq hl p q n i
theorem meanT_ev {l:List S83} {p q n:Int} (h:okSky l p q n=true) (i:Nat) (hi:i<l.length) {d:Int} (hd:0≤d∧d≤20000):Ev (fun k=>ss_mean.f k l p q n d (i:Int)) (meanOf (rd_T83 l (i:Int)) d):=by
 have hb:=(ok_at h).2.2.2.2 i hi
 rw [rdT_get l i hi] at hb ⊢
 exact mean_ev l p q n d i hi hb hd
theorem Mean_ev {l:List S83} {p q n:Int} (h:okSky l p q n=true) (i:Nat) (hi:i<l.length) {d:Int} (hd:0≤d∧d≤20000):Ev (fun k=>sky_Mean.f k l p q n (i:Int) d) (meanOf (rd_T83 l (i:Int)) d % 21600,0):=by
 have hk:=ok_at h
 have hm:=mean_bounds (hk.2.2.2.2 i hi) hd
 unfold sky_Mean.f
 refine Ev.bind (isSky_ev l p q n) ?_
 rw [h]
 refine Ev.pos rfl (Ev.bind (Ev.is (isBody_eq (by omega) p q n i)) (Ev.pos (okIn_iff.mpr (by omega)) (Ev.bind (Ev.is (isDay_eq d)) ?_)))
 rw [show okDay d=true from okIn_iff.mpr hd]
 refine Ev.step (fun k=>by rw [sky_Mean.j0]) ?_
 exact Ev.neg (by simp) (Ev.bind (meanT_ev h i hi hd) (Ev.bind (Ev.is (around_eq (by omega))) (Ev.now _)))
theorem Place_ev {l:List S83} {p q n:Int} (h:okSky l p q n=true) (i:Nat) (hi:i<l.length) {d:Int} (hd:0≤d∧d≤20000):Ev (fun k=>sky_Place.f k l p q n (i:Int) d) (wayOf (rd_T83 l (i:Int)) d % 21600,0):=by
 have hk:=ok_at h
 have hm:=way_bounds (hk.2.2.2.2 i hi) hd
 unfold sky_Place.f
 refine Ev.bind (isSky_ev l p q n) ?_
 rw [h]
 refine Ev.pos rfl (Ev.bind (Ev.is (isBody_eq (by omega) p q n i)) (Ev.pos (okIn_iff.mpr (by omega)) (Ev.bind (Ev.is (isDay_eq d)) ?_)))
 rw [show okDay d=true from okIn_iff.mpr hd]
 refine Ev.step (fun k=>by rw [sky_Place.j0]) ?_
 exact Ev.neg (by simp) (Ev.bind (wayT_ev h i hi hd) (Ev.bind (Ev.is (around_eq (by omega))) (Ev.now _)))
theorem ahead_ev {l:List S83} {p q n:Int} (h:okSky l p q n=true) (i j:Nat) (hi:i<l.length) (hj:j<l.length) {d:Int} (hd:0≤d∧d≤20000):Ev (fun k=>ss_ahead.f k l p q n d (i:Int) (j:Int)) (aheadOf l i j d):=by
 have hb:=ahead_bounds h i j hi hj hd
 unfold ss_ahead.f
 refine Ev.bind (wayT_ev h i hi hd) (Ev.bind (wayT_ev h j hj hd) ?_)
 rw [show wayOf (rd_T83 l (i:Int)) d - wayOf (rd_T83 l (j:Int)) d=aheadOf l i j d from rfl,wrap_id (by omega)]
 exact Ev.now _
theorem areTwo_eq {l:List S83} (p q n:Int) (i j:Nat) (hi:i<l.length) (hj:j<l.length) (hl:l.length≤1000000) (hij:i≠j):sky_areTwo.f l p q n (i:Int) (j:Int)=some true:=by
 unfold sky_areTwo.f
 rw [isBody_eq hl,Option.bind_some,show okBodyN l (i:Int)=true from okIn_iff.mpr (by omega),if_pos rfl,isBody_eq hl,Option.bind_some,show okBodyN l (j:Int)=true from okIn_iff.mpr (by omega),if_pos rfl]
 congr 1
 simp
 omega
theorem Between_ev {l:List S83} {p q n:Int} (h:okSky l p q n=true) (i j:Nat) (hi:i<l.length) (hj:j<l.length) (hij:i≠j) {d:Int} (hd:0≤d∧d≤20000):Ev (fun k=>sky_Between.f k l p q n (i:Int) (j:Int) d) (aheadOf l i j d % 21600,0):=by
 have hk:=ok_at h
 have hm:=ahead_bounds h i j hi hj hd
 unfold sky_Between.f
 refine Ev.bind (isSky_ev l p q n) ?_
 rw [h]
 refine Ev.pos rfl (Ev.bind (Ev.is (areTwo_eq p q n i j hi hj (by omega) hij)) (Ev.pos rfl (Ev.bind (Ev.is (isDay_eq d)) ?_)))
 rw [show okDay d=true from okIn_iff.mpr hd]
 refine Ev.step (fun k=>by rw [sky_Between.j0]) ?_
 exact Ev.neg (by simp) (Ev.bind (ahead_ev h i j hi hj hd) (Ev.bind (Ev.is (around_eq (by omega))) (Ev.now _)))
theorem spot_mod (x:Int):tr_Spot.f (x % 21600)=some true:=by
 rw [Spot_eq]
 exact congrArg some (okIn_iff.mpr (by omega))
theorem SkyEven_ev (l:List S83) (p q n one other d:Int):Ev (fun k=>tl_SkyEven.f k l p q n one other d) true:=by
 obtain ⟨s,hs,hs6⟩:=short_ev l p q n
 unfold tl_SkyEven.f
 have bad:∀ c:Bool,c=true→Ev (fun k=>tl_SkyEven.j0 k one other d c l p q n) true:=fun c hc=>by
  refine Ev.step (fun k=>by rw [tl_SkyEven.j0]) ?_
  exact Ev.pos hc known_ev
 refine Ev.bind hs ?_
 cases s with
 |false=>exact Ev.neg (by simp) (bad _ rfl)
 |true=>
  have hl:=hs6 rfl
  refine Ev.pos rfl (Ev.bind (refSky_ev l p q n (by omega)) ?_)
  cases h:okSky l p q n with
  |false=>exact Ev.neg (by simp) (bad _ rfl)
  |true=>
   refine Ev.pos rfl (Ev.bind (Ev.is (Body_eq (by omega) p q n one)) ?_)
   cases h1:okBodyN l one with
   |false=>exact Ev.neg (by simp) (bad _ rfl)
   |true=>
    refine Ev.pos rfl (Ev.bind (Ev.is (Body_eq (by omega) p q n other)) ?_)
    cases h2:okBodyN l other with
    |false=>exact Ev.neg (by simp) (bad _ rfl)
    |true=>
     refine Ev.pos rfl ?_
     by_cases h3:one=other
     ·exact Ev.pos h3 (bad _ rfl)
     ·refine Ev.neg h3 (Ev.bind (Ev.is (Day_eq d)) ?_)
      cases h4:okDay d with
      |false=>exact Ev.neg (by simp) (bad _ rfl)
      |true=>
       refine Ev.pos rfl ?_
       by_cases h5:d=20000
       ·exact bad _ (by simp [h5])
       ·rw [show (d == 20000)=false by simp [h5]]
        have hd:0≤d∧d≤20000:=okIn_iff.mp h4
        have hb1:=okIn_iff.mp h1
        have hb2:=okIn_iff.mp h2
        obtain ⟨i,rfl⟩:∃ i:Nat,one=i:=⟨one.toNat,by omega⟩
        obtain ⟨j,rfl⟩:∃ j:Nat,other=j:=⟨other.toNat,by omega⟩
        have hi:i<l.length:=by omega
        have hj:j<l.length:=by omega
        have hok:=(ok_at h).2.2.2.2 i hi
        have hw:=way_bounds hok hd
        have hw2:=way_bounds ((ok_at h).2.2.2.2 j hj) hd
        have hnear:=way_near hok d
        have hnext:=way_next hok d
        refine Ev.step (fun k=>by rw [tl_SkyEven.j0]) ?_
        rw [wrap_id (show -9223372036854775808≤d+1∧d+1≤9223372036854775807 by omega)]
        refine Ev.neg (by simp) (Ev.bind (Mean_ev h i hi hd) (Ev.bind (Place_ev h i hi hd) (Ev.bind (Place_ev h i hi (d:=d+1) (by omega)) (Ev.bind (Place_ev h j hj hd) (Ev.bind (Between_ev h i j hi hj (by omega) hd) ?_)))))
        rw [show aheadOf l i j d=wayOf (rd_T83 l (i:Int)) d - wayOf (rd_T83 l (j:Int)) d from rfl]
        generalize wayOf (rd_T83 l (j:Int)) d=y at hw2 ⊢
        generalize wayOf (rd_T83 l (i:Int)) (d+1)=z at hnext ⊢
        generalize wayOf (rd_T83 l (i:Int)) d=x at hnext hnear hw ⊢
        generalize meanOf (rd_T83 l (i:Int)) d=m at hnear ⊢
        refine Ev.pos rfl (Ev.pos rfl (Ev.pos rfl (Ev.pos rfl (Ev.pos rfl ?_))))
        refine Ev.bind (Ev.is (spot_mod _)) (Ev.pos rfl (Ev.bind (Ev.is (spot_mod _)) (Ev.pos rfl ?_)))
        refine Ev.bind (Ev.is (spot_mod _)) (Ev.pos rfl (Ev.bind (Ev.is (spot_mod _)) ?_))
        refine Ev.step (fun k=>by rw [tl_SkyEven.j1]) ?_
        refine Ev.neg (by simp) (Ev.bind (Ev.is (Apart_eq (by omega) (by omega))) ?_)
        refine Ev.pos (by unfold apartOf mn;simp only;split <;> omega) ?_
        rw [wrap_id (by simp only;omega),wrap_id (by simp only;omega)]
        refine Ev.bind (Ev.is (Less_eq (by simp only;omega))) (Ev.pos (by simp only;omega) (Ev.bind (Ev.is (Less_eq (by simp only;omega))) (Ev.pos (by simp only;omega) known_ev)))
end Go.Proofs.YtaidphhkhddemaaGreatDoor.PSky
end
section
namespace Go.Proofs.YtaidphhkhddemaaGreatDoor
open Go.ChangeShapes Go.WideShapes Go.ChangeAt Go.RowKit
set_option maxRecDepth 100000 in
set_option maxHeartbeats 1600000 in
theorem skyEven_lifted (os:Os) (started:os.Started) (H:Type) (enc:TypeId × Value→H) (F:Stop.Interp):
  ReturnsInHanded {} Tryz.checked os 8 .any ((OpenSpec.ofChange Rows.skyEvenSpec).preRow enc Tryz.prog Tryz.f8 Rows.skyEvenRow.domain false Rows.skyEvenRow.laid) (((OpenSpec.ofChange Rows.skyEvenSpec).at F).post enc Tryz.prog Tryz.f8 false true false false):=by
 refine returnsInHanded_of_row (C:=Tryz.checked) (s:=OpenSpec.ofChange Rows.skyEvenSpec) own started (by kernel_rfl) Tryz.func8
  (witness_row_at (enc:=enc) (C:=Tryz.checked) false (laidWorld os) #[.agg #[.slice none 0 0,.int .i64 0,.int .i64 0,.int .i64 0],.int .i64 0,.int .i64 0,.int .i64 0] rfl (by kernel_rfl) (by kernel_rfl) (by kernel_rfl) (OpenSpec.preRow_of_B rfl 8 (by kernel_rfl) (by kernel_rfl) (laid_met os _))) ?_
 intro W base args ds gs before hval0 hW _ _ hsz0 hL hsh _
 have hval:∀ (j:Nat) t v,Tryz.f8.params[j]?=some t→args[j]?=some v→Value.okWide Tryz.prog W .any base t v:=hval0
 have hW':=hW
 obtain ⟨p,q,hA0,hV,rfl,hfz,hnd⟩:=hW
 have hA:DataW.TrodAll enc Tryz.prog W 0 (fun _=>true) true Tryz.f8.params.toList args.toList ds p:=hA0
 rw [Tryz.params8] at hA hval
 obtain ⟨v0,vs0,d0,ds0,p0,q0,hargs,rfl,rfl,h0,r0⟩:=trodAll_cons hA
 obtain ⟨v1,vs1,d1,ds1,p1,q1,rfl,rfl,rfl,h1,r1⟩:=trodAll_cons r0
 obtain ⟨v2,vs2,d2,ds2,p2,q2,rfl,rfl,rfl,h2,r2⟩:=trodAll_cons r1
 obtain ⟨v3,vs3,d3,ds3,p3,q3,rfl,rfl,rfl,h3,r3⟩:=trodAll_cons r2
 obtain ⟨rfl,rfl,rfl⟩:=trodAll_nil r3
 obtain rfl:args=#[v0,v1,v2,v3]:=by cases args;simp_all
 obtain ⟨rfl,rfl⟩:=trodVars_none hV
 have k0:=h0
 have lt0:∀ x∈p0,x.block<W.heap.size:=by obtain ⟨m,hm⟩:=k0;exact DataW.trod_lt m _ _ _ hm
 obtain ⟨fuel0,hf0⟩:=h0
 obtain ⟨A0,c0,l0,a0,b0,e0,hcs0,hlc0,hC0⟩:=PSky.open_sky hf0
 obtain rfl:=agg_of hcs0 rfl
 obtain ⟨x1,rfl,rfl,rfl,w1⟩:=open_int Tryz.underlying3 (hval 1 3 v1 rfl rfl) h1
 obtain ⟨x2,rfl,rfl,rfl,w2⟩:=open_int Tryz.underlying3 (hval 2 3 v2 rfl rfl) h2
 obtain ⟨x3,rfl,rfl,rfl,w3⟩:=open_int Tryz.underlying3 (hval 3 3 v3 rfl rfl) h3
 obtain ⟨k,hk⟩:=(PSky.SkyEven_ev l0 a0 b0 e0 x1 x2 x3).rounds
 have hld:=ld_of hL hsh
 clear hA0 hval0 hsz0 hA hval hL hsh
 refine (PSky.tl_SkyEven.calls k A0 c0 l0 a0 b0 e0 x1 x2 x3 true W hC0 hlc0 hk hld).mono fun e W' ⟨he,bel⟩=>?_
 subst he
 exact ⟨_,rfl,_,_,_,[],_,[],hW',trodAll_mk1 (shut_bool Tryz.underlying4 _),(trodAll_cons_mk (Below.trod laidOut (by kernel_rfl) (of_decide_eq_true (by kernel_rfl)) k0 bel lt0) (trodAll_cons_mk (shut_int Tryz.underlying3 w1) (trodAll_cons_mk (shut_int Tryz.underlying3 w2) (trodAll_cons_mk (shut_int Tryz.underlying3 w3) trodAll_mk0)))),rfl,bel.frame _,fun h=>by cases h⟩
theorem skyEven_holds:Rows.SkyEvenSaid:=
 OpenClaim.holds_of_wide 8 Tryz.f8 rfl rfl rfl rfl rfl rfl rfl ⟨rfl,rfl,rfl,rfl,rfl⟩ rfl rfl rfl rfl rfl (by kernel_rfl) Tryz.func8 (by kernel_rfl)
  (of_decide_eq_true (by kernel_rfl)) PSky.y38_
  (fun os started H enc _=>skyEven_lifted os started H enc (fun _ _ _=>0))
end Go.Proofs.YtaidphhkhddemaaGreatDoor
end
