/- A part of the proof of a law of the layer sky. -/
import Derived.ArgAppend
import Derived.Below
import Derived.BigQuiet
import Derived.ChangeSame
import Derived.Deep.AppendLies
import Derived.Deep.CutBlock
import Derived.Deep.DeepCutAuto
import Derived.Deep.DeepHandedRow
import Derived.Deep.Draws
import Derived.Deep.LoopGhost
import Derived.Deep.OwnRows
import Derived.Deep.QuietTactic
import Derived.Deep.RegionHeld3
import Derived.Deep.RegionLaw
import Derived.Deep.Slices
import Derived.Deep.Strs
import Derived.Defers
import Derived.KernelRfl
import Derived.LaidMore
import Derived.Laws.BitsLemmas
import Derived.Laws.BytesArg
import Derived.Laws.Entries
import Derived.Laws.IdiomCopy
import Derived.Laws.LoneSync
import Derived.Laws.MakeOwn
import Derived.Laws.NewBlocks
import Derived.Laws.OwnMore
import Derived.Laws.Pointers
import Derived.Laws.Rows
import Derived.Laws.Slices
import Derived.Laws.StructEq
import Derived.Lib.AppendStr
import Derived.Lib.ConvBytes
import Derived.Lib.LaidTab
import Derived.Lib.OthersKept
import Derived.Lib.SplitLaws
import Derived.LoopIn
import Derived.LoopN
import Derived.LoopNIn
import Derived.Maps.AppendAt
import Derived.Maps.Own
import Derived.Maps.OwnOps
import Derived.Maps.OwnSet
import Derived.Maps.Views
import Derived.OpenShut
import Derived.OrdersHeld
import Derived.Outline
import Derived.OwnWalk
import Derived.OwnWalkIn
import Derived.ProofKit
import Derived.RangeFuncBound
import Derived.RangeFuncBox
import Derived.RangeFuncCalls
import Derived.RangeFuncLeaves
import Derived.RangeFuncNested
import Derived.Recover
import Derived.RowKit
import Derived.RowKit3
import Derived.Scope
import Derived.SevenTiedAt
import Derived.Shelf.Abstract
import Derived.Shelf.LaysM
import Derived.Shelf.RegionOpen
import Derived.Shelf.Strconv.Itoa0
import Derived.Shelf.Strconv.Itoa1
import Derived.Shelf.Strconv.Itoa2
import Derived.Shelf.Strconv.Itoa3
import Derived.Shelf.Strings.Builder1
import Derived.Shelf.Strings.Builder2
import Derived.Shelf.Strings.Count
import Derived.Shelf.Strings.OnBuilder
import Derived.Shelf.Strings.Prefix
import Derived.Shelf.Strings.Search1
import Derived.Shelf.Strings.Search2
import Derived.Shelf.Strings.Search3
import Derived.Shelf.Strings.Shaped
import Derived.Shelf.Strings.Split
import Derived.Shelf.Unicode.DecodeSlow
import Derived.SizedLaws
import Derived.StillTactics
import Derived.Stop.Joined
import Derived.Stop.LaidErr
import Derived.Tactics
import Derived.TacticsInMore
import Derived.WalkKit
import Derived.WideLaws
import Derived.Test.YtaidphhkhddemaaGreatDoorZ6
section
namespace Go.Proofs.YtaidphhkhddemaaGreatDoor.PSky
open Go.RowKit Go.Proofs.YtaidphhkhddemaaGreatDoorW.PrintWords Go.Proofs.YtaidphhkhddemaaGreatDoorW.PrintLast Go.Proofs.YtaidphhkhddemaaGreatDoorW.PrintMore
attribute [local go_sem] max2_int min2_int max_two min_two max_three min_three max_four min_four
set_option linter.unusedVariables false
set_option linter.unusedSimpArgs false
mutual
def tl_short.l0:Nat→Int→List (S83)→Int→Int→Int→Option (Bool)
 |0,_,_,_,_,_=>none
 |k+1,x3,x102000,x102001,x102002,x102003=>if x3<(x102000.length:Int) then (tl_short.j1 k x3 (decide (x3<7)) x102000 x102001 x102002 x102003) else (tl_short.j1 k x3 false x102000 x102001 x102002 x102003)
def tl_short.j1:Nat→Int→Bool→List (S83)→Int→Int→Int→Option (Bool)
 |0,_,_,_,_,_,_=>none
 |k+1,x3,x12,x102000,x102001,x102002,x102003=>if x12=true then (if 0≤x3 then (if x3<(x102000.length:Int) then (if (((rd_T83 x102000 x3).f2).length:Int) > 10 then (some false) else (tl_short.l0 k (wrap64 (x3+1)) x102000 x102001 x102002 x102003)) else (none)) else (none)) else (some (decide ((x102000.length:Int)≤6)))
end
def tl_short.f (k:Nat) (l0_0:List (S83)) (a0_1:Int) (a0_2:Int) (a0_3:Int):Option (Bool):=tl_short.l0 k 0 l0_0 a0_1 a0_2 a0_3
set_option maxHeartbeats 8000000 in
set_option maxRecDepth 100000 in
theorem tl_short.calls (k:Nat) (A0_0:Option Addr) (c0_0:Nat) (l0_0:List (S83)) (a0_1:Int) (a0_2:Int) (a0_3:Int) (r:Bool) (w:World) (hr0_0:Kd.C k83 w A0_0 l0_0.length l0_0) (hc0_0:l0_0.length≤c0_0) (h:tl_short.f k l0_0 a0_1 a0_2 a0_3=some r):
  Calls Tryz.prog 10 #[.agg #[.slice A0_0 l0_0.length c0_0,.int .i64 a0_1,.int .i64 a0_2,.int .i64 a0_3]] w fun e w'=>e=.returned (.bool r)∧Below w.heap.size w w':=by
 have hu28:=Tryz.underlying28
 have HR0_0:=A0_ hr0_0;have HC0_0:=A0_ hc0_0;clear hr0_0 hc0_0
 have HB:=A0_ (Below.refl w.heap.size w)
 have H:(tl_short.l0 k 0 l0_0 a0_1 a0_2 a0_3)=some r:=h
 clear h
 have H':=A0_ H
 clear H
 go_enter Tryz.func10,Tryz.ntmps10
 go_wp2_with (first|((with_reducible refine gate_dst (N:=1) rfl ?_);refine box_event ?hg (N:=1) ?hd (cs:=#[.slice A0_0 l0_0.length c0_0,.int .i64 a0_1,.int .i64 a0_2,.int .i64 a0_3]) (t:=28) ?hr ?_;(case hd=>rfl);(case hg=>rfl);(case hr=>first|(go_simp;done)|(go_simp;rfl));intro gb101 hg w2 hbox hb;have n0_:=A0_ (below_step y0_ hb);have n1_:=A0_ (hbox);have n2_:=A0_ ((by rw [hg];exact (below_size y0_):w.heap.size≤gb101));have n3_:=A0_ ((by rw [hg];exact (below_size y0_):w.heap.size≤gb101));clear HB;have HB:=n0_;have BK101:=n1_;have GW101:=n2_;have GE101:=n3_;clear n0_ n1_ n2_ n3_;clear hb hbox hg))
 go_loopg [3] k (fun kq v3 w'=>∃ (x3_1:Int),v3=.int .i64 x3_1∧Aside0 (tl_short.l0 kq x3_1 l0_0 a0_1 a0_2 a0_3=some r)∧Aside0 (kq≤k)∧Aside0 (w'.heap[gb101]?=some (.cells #[(.slice A0_0 l0_0.length c0_0),.int .i64 a0_1,.int .i64 a0_2,.int .i64 a0_3] 28 (0,0)))∧Aside0 (Below w.heap.size w w'))
 case atStart=>exact ⟨(0),y4_,H',⟨Nat.le_refl _⟩,⟨by (with_reducible repeat (first|refine blk_drewN ?_ _|refine blk_drew ?_|refine blk_alloc ?_ _));exact BK101.out⟩,⟨y2e_⟩⟩
 case round=>
  clear H'
  (try clear c1);(try clear p2)
  obtain ⟨x3_1,rfl,HA,HK1,BK101,HB⟩:=hrel
  cases gk with
  |zero=>exact absurd HA.out (by simp [tl_short.l0])
  |succ k1=>
   have H:=HA.out
   clear HA
   simp only [tl_short.l0] at H
   have HC3:=A0_ H;clear H
   go_upto_region 2 with (fail)
   go_cut [12] (fun v12 wc=>∃ (kq:Nat) (x12_2:Bool),v12=.bool x12_2∧Aside0 (tl_short.j1 kq x3_1 x12_2 l0_0 a0_1 a0_2 a0_3=some r)∧Aside0 (kq≤k1)∧Aside0 (wc.heap[gb101]?=some (.cells #[(.slice A0_0 l0_0.length c0_0),.int .i64 a0_1,.int .i64 a0_2,.int .i64 a0_3] 28 (0,0)))∧Aside0 (Below w.heap.size w wc))
   case first=>
    have H:=HC3.out
    clear HC3
    by_cases c4:x3_1<(l0_0.length:Int)
    ·rw [if_pos c4] at H;have c4b0:decide (x3_1<(l0_0.length:Int))=true:=decide_eq_true c4;clear c4
     (first|rw [c4b0]|(simp only [i64_w,i32_w];rw [c4b0])|skip)
     have H':=A0_ H
     clear H;obtain ⟨hcz5_0,hcz5_1,hcz5_2,hcz5_3,hfz5_0,hfz5_1,hfz5_2,hfz5_3⟩:=bq4_ BK101.out;go_wp2
     go_meet
     case rel=>exact ⟨_,(decide (x3_1<7)),y4_,H',⟨by have:=HK1.out;first|omega|exact Nat.le_refl _⟩,⟨by (with_reducible repeat (first|refine blk_drewN ?_ _|refine blk_drew ?_|refine blk_alloc ?_ _));exact BK101.out⟩,⟨y2e_⟩⟩
    ·rw [if_neg c4] at H;have c4b0:decide (x3_1<(l0_0.length:Int))=false:=decide_eq_false c4;clear c4
     (first|rw [c4b0]|(simp only [i64_w,i32_w];rw [c4b0])|skip)
     have H':=A0_ H
     clear H;obtain ⟨hcz6_0,hcz6_1,hcz6_2,hcz6_3,hfz6_0,hfz6_1,hfz6_2,hfz6_3⟩:=bq4_ BK101.out;go_wp2
     go_meet
     case rel=>exact ⟨_,(false),y4_,H',⟨by have:=HK1.out;first|omega|exact Nat.le_refl _⟩,⟨by (with_reducible repeat (first|refine blk_drewN ?_ _|refine blk_drew ?_|refine blk_alloc ?_ _));exact BK101.out⟩,⟨y2e_⟩⟩
   case rest=>
    clear HC3;(try clear c1);(try clear p2);(try clear c4);(try clear c4b0);(try clear hcz5_0);(try clear hcz5_1);(try clear hcz5_2);(try clear hcz5_3);(try clear hcz6_0);(try clear hcz6_1);(try clear hcz6_2);(try clear hcz6_3);(try clear hfz5_0);(try clear hfz5_1);(try clear hfz5_2);(try clear hfz5_3);(try clear hfz6_0);(try clear hfz6_1);(try clear hfz6_2);(try clear hfz6_3);(try clear p2)
    obtain ⟨kq,x12_2,rfl,HA,HJ2,BK101,HB⟩:=hcut
    cases kq with
    |zero=>exact absurd HA.out (by simp [tl_short.j1])
    |succ kj2=>
     have H:=HA.out
     clear HA
     simp only [tl_short.j1] at H
     by_cases c7:x12_2=true
     ·subst c7
      have H1:(if 0≤x3_1 then (if x3_1<(l0_0.length:Int) then (if (((rd_T83 l0_0 x3_1).f2).length:Int) > 10 then (some false) else (tl_short.l0 kj2 (wrap64 (x3_1+1)) l0_0 a0_1 a0_2 a0_3)) else (none)) else (none))=some r:=by rw [if_pos rfl] at H;exact H
      clear H;have H:=H1;clear H1
      by_cases c8:0≤x3_1
      ·rw [if_pos c8] at H;have c8b0:decide (0≤x3_1)=true:=decide_eq_true c8;clear c8
       by_cases c9:x3_1<(l0_0.length:Int)
       ·rw [if_pos c9] at H;have c9b0:decide (x3_1<(l0_0.length:Int))=true:=decide_eq_true c9;clear c9
        by_cases c10:(((rd_T83 l0_0 x3_1).f2).length:Int) > 10
        ·rw [if_pos c10] at H;have c10b0:decide (10<(((rd_T83 l0_0 x3_1).f2).length:Int))=true:=decide_eq_true c10
         have c10b1:decide (10<((rd_T83 l0_0 x3_1).f2).length)=true:=decide_eq_true (by omega)
         clear c10;obtain rfl:=Option.some.inj H;obtain ⟨hcz11_0,hcz11_1,hcz11_2,hcz11_3,hfz11_0,hfz11_1,hfz11_2,hfz11_3⟩:=bq4_ BK101.out
         have p102:0≤(x3_1:Int):=of_decide_eq_true y2_
         have q102:x3_1<(l0_0.length:Int):=of_decide_eq_true y2_
         obtain ⟨ad102,A102_3,c102_3,e102,hx102_0,hx102_1,hx102_2,hx102_3,hl102_3,hi102_3⟩:=at_T83 HR0_0.out x3_1 p102 q102
         cases e102
         replace hx102_0:=(HB.out.cell (World.block_lt_of_cell? w _ hx102_0)).trans hx102_0
         replace hx102_1:=(HB.out.cell (World.block_lt_of_cell? w _ hx102_1)).trans hx102_1
         replace hx102_2:=(HB.out.cell (World.block_lt_of_cell? w _ hx102_2)).trans hx102_2
         replace hx102_3:=(HB.out.cell (World.block_lt_of_cell? w _ hx102_3)).trans hx102_3
         have HR102_3:=A0_ hi102_3;have HC102_3:=A0_ hl102_3;clear hi102_3 hl102_3
         replace p102:=eq_true p102
         replace q102:=eq_true q102
         go_wp2;go_ret
         exact ⟨y3_,y2e_⟩
        ·rw [if_neg c10] at H;have c10b0:decide (10<(((rd_T83 l0_0 x3_1).f2).length:Int))=false:=decide_eq_false c10
         have c10b1:decide (10<((rd_T83 l0_0 x3_1).f2).length)=false:=decide_eq_false (by omega)
         clear c10
         have H':=A0_ H
         clear H;obtain ⟨hcz12_0,hcz12_1,hcz12_2,hcz12_3,hfz12_0,hfz12_1,hfz12_2,hfz12_3⟩:=bq4_ BK101.out
         have p102:0≤(x3_1:Int):=of_decide_eq_true y2_
         have q102:x3_1<(l0_0.length:Int):=of_decide_eq_true y2_
         obtain ⟨ad102,A102_3,c102_3,e102,hx102_0,hx102_1,hx102_2,hx102_3,hl102_3,hi102_3⟩:=at_T83 HR0_0.out x3_1 p102 q102
         cases e102
         replace hx102_0:=(HB.out.cell (World.block_lt_of_cell? w _ hx102_0)).trans hx102_0
         replace hx102_1:=(HB.out.cell (World.block_lt_of_cell? w _ hx102_1)).trans hx102_1
         replace hx102_2:=(HB.out.cell (World.block_lt_of_cell? w _ hx102_2)).trans hx102_2
         replace hx102_3:=(HB.out.cell (World.block_lt_of_cell? w _ hx102_3)).trans hx102_3
         have HR102_3:=A0_ hi102_3;have HC102_3:=A0_ hl102_3;clear hi102_3 hl102_3
         replace p102:=eq_true p102
         replace q102:=eq_true q102
         go_wp2
         go_roundg kj2
         case measure=>have:=HK1.out;have:=HJ2.out;omega
         case rel=>exact ⟨(wrap64 (x3_1+1)),y4_,H',⟨by have:=HK1.out;have:=HJ2.out;omega⟩,⟨by (with_reducible repeat (first|refine blk_drewN ?_ _|refine blk_drew ?_|refine blk_alloc ?_ _));exact BK101.out⟩,⟨y2e_⟩⟩
       ·rw [if_neg c9] at H;exact absurd H (by simp)
      ·rw [if_neg c8] at H;exact absurd H (by simp)
     ·replace c7:=Bool.eq_false_iff.mpr c7;subst c7
      have H1:(some (decide ((l0_0.length:Int)≤6)))=some r:=by rw [if_neg (show ¬ (false=true) by decide)] at H;exact H
      clear H;have H:=H1;clear H1;obtain rfl:=Option.some.inj H;obtain ⟨hcz13_0,hcz13_1,hcz13_2,hcz13_3,hfz13_0,hfz13_1,hfz13_2,hfz13_3⟩:=bq4_ BK101.out;go_wp2;go_ret
      exact ⟨y3_,y2e_⟩
def tr_period.f (a0_0:Int) (a0_1:Int):Option (Bool):=(tr_in.f a0_0 1 10000).bind fun t134=>(if t134=true then ((tr_in.f a0_1 1 10000).bind fun t135=>(if t135=true then (some (decide (a0_0 ≥ (wrap64 (4*a0_1))))) else (some false))) else (some false))
set_option maxHeartbeats 8000000 in
set_option maxRecDepth 100000 in
theorem tr_period.calls (a0_0:Int) (a0_1:Int) (r:Bool) (w:World) (h:tr_period.f a0_0 a0_1=some r):
  Calls Tryz.prog 55 #[.agg #[.int .i64 a0_0,.int .i64 a0_1]] w fun e w'=>e=.returned (.bool r)∧Below w.heap.size w w':=by
 have hu24:=Tryz.underlying24
 have HB:=A0_ (Below.refl w.heap.size w)
 have H:((tr_in.f a0_0 1 10000).bind fun t134=>(if t134=true then ((tr_in.f a0_1 1 10000).bind fun t135=>(if t135=true then (some (decide (a0_0 ≥ (wrap64 (4*a0_1))))) else (some false))) else (some false)))=some r:=h
 clear h;replace H:=Option.bind_eq_some_iff.mp H;obtain ⟨t134,A20,H⟩:=H
 replace H:(if t134=true then ((tr_in.f a0_1 1 10000).bind fun t135=>(if t135=true then (some (decide (a0_0 ≥ (wrap64 (4*a0_1))))) else (some false))) else (some false))=some r:=H
 have A2:=A0_ A20;clear A20
 by_cases c3:t134=true
 ·subst c3
  have H1:((tr_in.f a0_1 1 10000).bind fun t135=>(if t135=true then (some (decide (a0_0 ≥ (wrap64 (4*a0_1))))) else (some false)))=some r:=by rw [if_pos rfl] at H;exact H
  clear H;have H:=H1;clear H1;replace H:=Option.bind_eq_some_iff.mp H;obtain ⟨t135,A40,H⟩:=H
  replace H:(if t135=true then (some (decide (a0_0 ≥ (wrap64 (4*a0_1))))) else (some false))=some r:=H
  have A4:=A0_ A40;clear A40
  by_cases c5:t135=true
  ·subst c5
   have H1:(some (decide (a0_0 ≥ (wrap64 (4*a0_1)))))=some r:=by rw [if_pos rfl] at H;exact H
   clear H;have H:=H1;clear H1;obtain rfl:=Option.some.inj H
   go_enter Tryz.func55,Tryz.ntmps55
   go_wp2_with (first|((with_reducible refine gate_dst (N:=1) rfl ?_);refine box_event ?hg (N:=1) ?hd (cs:=#[.int .i64 a0_0,.int .i64 a0_1]) (t:=24) ?hr ?_;(case hd=>rfl);(case hg=>rfl);(case hr=>first|(go_simp;done)|(go_simp;rfl));intro gb133 hg w6 hbox hb;have n0_:=A0_ (below_step y0_ hb);have n1_:=A0_ (hbox);have n2_:=A0_ ((by rw [hg];exact (below_size y0_):w.heap.size≤gb133));have n3_:=A0_ ((by rw [hg];exact (below_size y0_):w.heap.size≤gb133));clear HB;have HB:=n0_;have BK133:=n1_;have GW133:=n2_;have GE133:=n3_;clear n0_ n1_ n2_ n3_;clear hb hbox hg;obtain ⟨hcz7_0,hcz7_1,hfz7_0,hfz7_1⟩:=bq2_ BK133.out)|((with_reducible refine gate_callee (f:=56) rfl ?_);refine goesL_ (some 5) rfl rfl Tryz.func56 (by kernel_rfl) rfl #[.int .i64 a0_0,.int .i64 1,.int .i64 10000] rfl y1_ ?_;(with_reducible refine (tr_in.calls a0_0 1 10000 true _ A2.out).mono ?_);rintro e w' ⟨rfl,⟨nd,rfl⟩⟩;refine ⟨_,rfl,?_⟩)|(go_at_call 56;(with_reducible refine (tr_in.calls a0_1 1 10000 true _ A4.out).mono ?_);rintro e w' ⟨rfl,⟨nd,rfl⟩⟩))
   go_ret
   exact ⟨y3_,y3y_⟩
  ·replace c5:=Bool.eq_false_iff.mpr c5;subst c5
   have H1:(some false)=some r:=by rw [if_neg (show ¬ (false=true) by decide)] at H;exact H
   clear H;have H:=H1;clear H1;obtain rfl:=Option.some.inj H
   go_enter Tryz.func55,Tryz.ntmps55
   go_wp2_with (first|((with_reducible refine gate_dst (N:=1) rfl ?_);refine box_event ?hg (N:=1) ?hd (cs:=#[.int .i64 a0_0,.int .i64 a0_1]) (t:=24) ?hr ?_;(case hd=>rfl);(case hg=>rfl);(case hr=>first|(go_simp;done)|(go_simp;rfl));intro gb133 hg w8 hbox hb;have n0_:=A0_ (below_step y0_ hb);have n1_:=A0_ (hbox);have n2_:=A0_ ((by rw [hg];exact (below_size y0_):w.heap.size≤gb133));have n3_:=A0_ ((by rw [hg];exact (below_size y0_):w.heap.size≤gb133));clear HB;have HB:=n0_;have BK133:=n1_;have GW133:=n2_;have GE133:=n3_;clear n0_ n1_ n2_ n3_;clear hb hbox hg;obtain ⟨hcz9_0,hcz9_1,hfz9_0,hfz9_1⟩:=bq2_ BK133.out)|((with_reducible refine gate_callee (f:=56) rfl ?_);refine goesL_ (some 5) rfl rfl Tryz.func56 (by kernel_rfl) rfl #[.int .i64 a0_0,.int .i64 1,.int .i64 10000] rfl y1_ ?_;(with_reducible refine (tr_in.calls a0_0 1 10000 true _ A2.out).mono ?_);rintro e w' ⟨rfl,⟨nd,rfl⟩⟩;refine ⟨_,rfl,?_⟩)|(go_at_call 56;(with_reducible refine (tr_in.calls a0_1 1 10000 false _ A4.out).mono ?_);rintro e w' ⟨rfl,⟨nd,rfl⟩⟩))
   go_ret
   exact ⟨y3_,y3y_⟩
 ·replace c3:=Bool.eq_false_iff.mpr c3;subst c3
  have H1:(some false)=some r:=by rw [if_neg (show ¬ (false=true) by decide)] at H;exact H
  clear H;have H:=H1;clear H1;obtain rfl:=Option.some.inj H
  go_enter Tryz.func55,Tryz.ntmps55
  go_wp2_with (first|((with_reducible refine gate_dst (N:=1) rfl ?_);refine box_event ?hg (N:=1) ?hd (cs:=#[.int .i64 a0_0,.int .i64 a0_1]) (t:=24) ?hr ?_;(case hd=>rfl);(case hg=>rfl);(case hr=>first|(go_simp;done)|(go_simp;rfl));intro gb133 hg w10 hbox hb;have n0_:=A0_ (below_step y0_ hb);have n1_:=A0_ (hbox);have n2_:=A0_ ((by rw [hg];exact (below_size y0_):w.heap.size≤gb133));have n3_:=A0_ ((by rw [hg];exact (below_size y0_):w.heap.size≤gb133));clear HB;have HB:=n0_;have BK133:=n1_;have GW133:=n2_;have GE133:=n3_;clear n0_ n1_ n2_ n3_;clear hb hbox hg;obtain ⟨hcz11_0,hcz11_1,hfz11_0,hfz11_1⟩:=bq2_ BK133.out)|((with_reducible refine gate_callee (f:=56) rfl ?_);refine goesL_ (some 5) rfl rfl Tryz.func56 (by kernel_rfl) rfl #[.int .i64 a0_0,.int .i64 1,.int .i64 10000] rfl y1_ ?_;(with_reducible refine (tr_in.calls a0_0 1 10000 false _ A2.out).mono ?_);rintro e w' ⟨rfl,⟨nd,rfl⟩⟩;refine ⟨_,rfl,?_⟩))
  go_ret
  exact ⟨y3_,y3y_⟩
end Go.Proofs.YtaidphhkhddemaaGreatDoor.PSky
end
section
namespace Go.Proofs.YtaidphhkhddemaaGreatDoor.PSky
open Go.RowKit Go.Proofs.YtaidphhkhddemaaGreatDoorW.PrintWords Go.Proofs.YtaidphhkhddemaaGreatDoorW.PrintLast Go.Proofs.YtaidphhkhddemaaGreatDoorW.PrintMore
attribute [local go_sem] max2_int min2_int max_two min_two max_three min_three max_four min_four
set_option linter.unusedVariables false
set_option linter.unusedSimpArgs false
mutual
def tr_Sky.l0:Nat→Int→List (S83)→Int→Int→Int→Option (Bool)
 |0,_,_,_,_,_=>none
 |k+1,x3,x137000,x137001,x137002,x137003=>if x3<(x137000.length:Int) then (if 0≤x3 then ((tr_period.f ((rd_T83 x137000 x3).f0.f0) ((rd_T83 x137000 x3).f0.f1)).bind fun t142=>(if t142=true then ((tr_Spot.f ((rd_T83 x137000 x3).f1)).bind fun t143=>(if t143=true then ((tr_in.f (((rd_T83 x137000 x3).f2).length:Int) 1 8).bind fun t144=>(tr_Sky.j1 k x3 (!t144) x137000 x137001 x137002 x137003 ((rd_T83 x137000 x3).f0.f0) ((rd_T83 x137000 x3).f0.f1) ((rd_T83 x137000 x3).f1) ((rd_T83 x137000 x3).f2))) else (tr_Sky.j1 k x3 true x137000 x137001 x137002 x137003 ((rd_T83 x137000 x3).f0.f0) ((rd_T83 x137000 x3).f0.f1) ((rd_T83 x137000 x3).f1) ((rd_T83 x137000 x3).f2)))) else (tr_Sky.j1 k x3 true x137000 x137001 x137002 x137003 ((rd_T83 x137000 x3).f0.f0) ((rd_T83 x137000 x3).f0.f1) ((rd_T83 x137000 x3).f1) ((rd_T83 x137000 x3).f2)))) else (none)) else ((tr_in.f (x137000.length:Int) 2 4).bind fun t137=>(if t137=true then ((tr_period.f x137001 x137002).bind fun t138=>(if t138=true then ((tr_Spot.f x137003).bind fun t139=>(some t139)) else (some false))) else (some false)))
def tr_Sky.j1:Nat→Int→Bool→List (S83)→Int→Int→Int→Int→Int→Int→List Int→Option (Bool)
 |0,_,_,_,_,_,_,_,_,_,_=>none
 |k+1,x3,x34,x137000,x137001,x137002,x137003,x142000,x142001,x142002,x142003=>if x34=true then (some false) else (tr_Sky.l1 k x3 0 x137000 x137001 x137002 x137003 x142000 x142001 x142002 x142003)
def tr_Sky.l1:Nat→Int→Int→List (S83)→Int→Int→Int→Int→Int→Int→List Int→Option (Bool)
 |0,_,_,_,_,_,_,_,_,_,_=>none
 |k+1,x3,x5,x137000,x137001,x137002,x137003,x142000,x142001,x142002,x142003=>if x5<(x142003.length:Int) then (if 0≤x5 then ((tr_in.f (rd x142003 x5) (-600) 600).bind fun t146=>(if t146=true then (tr_Sky.l1 k x3 (wrap64 (x5+1)) x137000 x137001 x137002 x137003 x142000 x142001 x142002 x142003) else (some false))) else (none)) else (tr_Sky.l0 k (wrap64 (x3+1)) x137000 x137001 x137002 x137003)
end
def tr_Sky.f (k:Nat) (l0_0:List (S83)) (a0_1:Int) (a0_2:Int) (a0_3:Int):Option (Bool):=tr_Sky.l0 k 0 l0_0 a0_1 a0_2 a0_3
set_option maxHeartbeats 8000000 in
set_option maxRecDepth 100000 in
theorem tr_Sky.calls (k:Nat) (A0_0:Option Addr) (c0_0:Nat) (l0_0:List (S83)) (a0_1:Int) (a0_2:Int) (a0_3:Int) (r:Bool) (w:World) (hr0_0:Kd.C k83 w A0_0 l0_0.length l0_0) (hc0_0:l0_0.length≤c0_0) (h:tr_Sky.f k l0_0 a0_1 a0_2 a0_3=some r):
  Calls Tryz.prog 13 #[.agg #[.slice A0_0 l0_0.length c0_0,.int .i64 a0_1,.int .i64 a0_2,.int .i64 a0_3]] w fun e w'=>e=.returned (.bool r)∧Below w.heap.size w w':=by
 have hu28:=Tryz.underlying28
 have hu83:=Tryz.underlying83
 have hu24:=Tryz.underlying24
 have HR0_0:=A0_ hr0_0;have HC0_0:=A0_ hc0_0;clear hr0_0 hc0_0
 have HB:=A0_ (Below.refl w.heap.size w)
 have H:(tr_Sky.l0 k 0 l0_0 a0_1 a0_2 a0_3)=some r:=h
 clear h
 have H':=A0_ H
 clear H
 go_enter Tryz.func13,Tryz.ntmps13
 go_wp2_with (first|((with_reducible refine gate_dst (N:=1) rfl ?_);(try (refine gate_guard (by rfl) ?_;dsimp only));refine box_event ?hg (N:=1) ?hd (cs:=#[.slice A0_0 l0_0.length c0_0,.int .i64 a0_1,.int .i64 a0_2,.int .i64 a0_3]) (t:=28) ?hr ?_;(case hd=>rfl);(case hg=>rfl);(case hr=>first|(go_simp;done)|(go_simp;rfl));intro gb136 hg w2 hbox hb;have n0_:=A0_ (below_step y0_ hb);have n1_:=A0_ (hbox);have n2_:=A0_ ((by rw [hg];exact (below_size y0_):w.heap.size≤gb136));have n3_:=A0_ ((by rw [hg];exact (below_size y0_):w.heap.size≤gb136));clear HB;have HB:=n0_;have BK136:=n1_;have GW136:=n2_;have GE136:=n3_;clear n0_ n1_ n2_ n3_;clear hb hbox hg))
 go_loopg [3] k (fun kq v3 w'=>∃ (x3_1:Int),v3=.int .i64 x3_1∧Aside0 (tr_Sky.l0 kq x3_1 l0_0 a0_1 a0_2 a0_3=some r)∧Aside0 (kq≤k)∧Aside0 (w'.heap[gb136]?=some (.cells #[(.slice A0_0 l0_0.length c0_0),.int .i64 a0_1,.int .i64 a0_2,.int .i64 a0_3] 28 (0,0)))∧Aside0 (Below w.heap.size w w'))
 case atStart=>exact ⟨(0),y4_,H',⟨Nat.le_refl _⟩,⟨by (with_reducible repeat (first|refine blk_drewN ?_ _|refine blk_drew ?_|refine blk_alloc ?_ _));exact BK136.out⟩,⟨y1v_⟩⟩
 case round=>
  clear H'
  (try clear c1);(try clear p2)
  obtain ⟨x3_1,rfl,HA,HK1,BK136,HB⟩:=hrel
  cases gk with
  |zero=>exact absurd HA.out (by simp [tr_Sky.l0])
  |succ k1=>
   have H:=HA.out
   clear HA
   simp only [tr_Sky.l0] at H
   by_cases c3:x3_1<(l0_0.length:Int)
   ·rw [if_pos c3] at H;have c3b0:decide (x3_1<(l0_0.length:Int))=true:=decide_eq_true c3;clear c3
    by_cases c4:0≤x3_1
    ·rw [if_pos c4] at H;have c4b0:decide (0≤x3_1)=true:=decide_eq_true c4;clear c4;have HC5:=A0_ H;clear H;obtain ⟨hcz6_0,hcz6_1,hcz6_2,hcz6_3,hfz6_0,hfz6_1,hfz6_2,hfz6_3⟩:=bq4_ BK136.out
     have p140:0≤(x3_1:Int):=of_decide_eq_true y2_
     have q140:x3_1<(l0_0.length:Int):=of_decide_eq_true y2_
     obtain ⟨ad140,A140_3,c140_3,e140,hx140_0,hx140_1,hx140_2,hx140_3,hl140_3,hi140_3⟩:=at_T83 HR0_0.out x3_1 p140 q140
     cases e140
     replace hx140_0:=(HB.out.cell (World.block_lt_of_cell? w _ hx140_0)).trans hx140_0
     replace hx140_1:=(HB.out.cell (World.block_lt_of_cell? w _ hx140_1)).trans hx140_1
     replace hx140_2:=(HB.out.cell (World.block_lt_of_cell? w _ hx140_2)).trans hx140_2
     replace hx140_3:=(HB.out.cell (World.block_lt_of_cell? w _ hx140_3)).trans hx140_3
     have HR140_3:=A0_ hi140_3;have HC140_3:=A0_ hl140_3;clear hi140_3 hl140_3
     replace p140:=eq_true p140
     replace q140:=eq_true q140
     go_upto_region 5 with (first|((with_reducible refine gate_dst (N:=4) rfl ?_);(try (refine gate_guard (by rfl) ?_;dsimp only));refine box_event ?hg (N:=4) ?hd (cs:=#[.int .i64 0,.int .i64 0,.int .i64 0,.slice none 0 0]) (t:=83) ?hr ?_;(case hd=>rfl);(case hg=>rfl);(case hr=>first|(go_simp;done)|(go_simp;rfl));intro gb141 hg w7 hbox hb;have n0_:=A0_ (blk_below (g:=gb136) (o:=.cells #[.slice (some ad140) l0_0.length c0_0,.int .i64 a0_1,.int .i64 a0_2,.int .i64 a0_3] 28 (0,0)) (bd_ BK136.out) hb);have n1_:=A0_ (below_step y1v_ hb);have n2_:=A0_ (hbox);have n3_:=A0_ ((by rw [hg];exact (below_size y1v_):w.heap.size≤gb141));have n4_:=A0_ ((by rw [hg];exact (below_size y1v_):w.heap.size≤gb141));have n5_:=A0_ ((by rw [hg];exact Nat.ne_of_lt (blk_lt (g:=gb136) (o:=.cells #[.slice (some ad140) l0_0.length c0_0,.int .i64 a0_1,.int .i64 a0_2,.int .i64 a0_3] 28 (0,0)) (bd_ BK136.out)):gb136≠gb141));have n6_:=A0_ ((by rw [hg];exact Nat.ne_of_gt (blk_lt (g:=gb136) (o:=.cells #[.slice (some ad140) l0_0.length c0_0,.int .i64 a0_1,.int .i64 a0_2,.int .i64 a0_3] 28 (0,0)) (bd_ BK136.out)):gb141≠gb136));clear BK136;clear HB;have BK136:=n0_;have HB:=n1_;have BK141:=n2_;have GW141:=n3_;have GE141:=n4_;have NB136_141:=n5_;have NB141_136:=n6_;clear n0_ n1_ n2_ n3_ n4_ n5_ n6_;clear hb hbox hg;have hnb8:=NB141_136.out;have hnc8:=NB136_141.out;obtain ⟨hcz9_0,hcz9_1,hcz9_2,hcz9_3,hfz9_0,hfz9_1,hfz9_2,hfz9_3⟩:=bq4_ BK141.out))
     (try simp only [Act.put,List.setIfInBounds_toArray,List.set_cons_zero,List.set_cons_succ])
     go_cut [34] (fun v34 wc=>∃ (kq:Nat) (x34_4:Bool),v34=.bool x34_4∧Aside0 (tr_Sky.j1 kq x3_1 x34_4 l0_0 a0_1 a0_2 a0_3 ((rd_T83 l0_0 x3_1).f0.f0) ((rd_T83 l0_0 x3_1).f0.f1) ((rd_T83 l0_0 x3_1).f1) ((rd_T83 l0_0 x3_1).f2)=some r)∧Aside0 (kq≤k1)∧Aside0 (wc.heap[gb136]?=some (.cells #[(.slice (some ad140) l0_0.length c0_0),.int .i64 a0_1,.int .i64 a0_2,.int .i64 a0_3] 28 (0,0)))∧Aside0 (wc.heap[gb141]?=some (.cells #[.int .i64 ((rd_T83 l0_0 x3_1).f0.f0),.int .i64 ((rd_T83 l0_0 x3_1).f0.f1),.int .i64 ((rd_T83 l0_0 x3_1).f1),(.slice A140_3 ((rd_T83 l0_0 x3_1).f2).length c140_3)] 83 (0,0)))∧Aside0 (Below w.heap.size w wc))
     case first=>
      have H:=HC5.out
      clear HC5;replace H:=Option.bind_eq_some_iff.mp H;obtain ⟨t142,A100,H⟩:=H
      replace H:(if t142=true then ((tr_Spot.f ((rd_T83 l0_0 x3_1).f1)).bind fun t143=>(if t143=true then ((tr_in.f (((rd_T83 l0_0 x3_1).f2).length:Int) 1 8).bind fun t144=>(tr_Sky.j1 k1 x3_1 (!t144) l0_0 a0_1 a0_2 a0_3 ((rd_T83 l0_0 x3_1).f0.f0) ((rd_T83 l0_0 x3_1).f0.f1) ((rd_T83 l0_0 x3_1).f1) ((rd_T83 l0_0 x3_1).f2))) else (tr_Sky.j1 k1 x3_1 true l0_0 a0_1 a0_2 a0_3 ((rd_T83 l0_0 x3_1).f0.f0) ((rd_T83 l0_0 x3_1).f0.f1) ((rd_T83 l0_0 x3_1).f1) ((rd_T83 l0_0 x3_1).f2)))) else (tr_Sky.j1 k1 x3_1 true l0_0 a0_1 a0_2 a0_3 ((rd_T83 l0_0 x3_1).f0.f0) ((rd_T83 l0_0 x3_1).f0.f1) ((rd_T83 l0_0 x3_1).f1) ((rd_T83 l0_0 x3_1).f2)))=some r:=H
      have A10:=A0_ A100;clear A100
      by_cases c11:t142=true
      ·subst c11
       have H1:((tr_Spot.f ((rd_T83 l0_0 x3_1).f1)).bind fun t143=>(if t143=true then ((tr_in.f (((rd_T83 l0_0 x3_1).f2).length:Int) 1 8).bind fun t144=>(tr_Sky.j1 k1 x3_1 (!t144) l0_0 a0_1 a0_2 a0_3 ((rd_T83 l0_0 x3_1).f0.f0) ((rd_T83 l0_0 x3_1).f0.f1) ((rd_T83 l0_0 x3_1).f1) ((rd_T83 l0_0 x3_1).f2))) else (tr_Sky.j1 k1 x3_1 true l0_0 a0_1 a0_2 a0_3 ((rd_T83 l0_0 x3_1).f0.f0) ((rd_T83 l0_0 x3_1).f0.f1) ((rd_T83 l0_0 x3_1).f1) ((rd_T83 l0_0 x3_1).f2))))=some r:=by rw [if_pos rfl] at H;exact H
       clear H;have H:=H1;clear H1;replace H:=Option.bind_eq_some_iff.mp H;obtain ⟨t143,A120,H⟩:=H
       replace H:(if t143=true then ((tr_in.f (((rd_T83 l0_0 x3_1).f2).length:Int) 1 8).bind fun t144=>(tr_Sky.j1 k1 x3_1 (!t144) l0_0 a0_1 a0_2 a0_3 ((rd_T83 l0_0 x3_1).f0.f0) ((rd_T83 l0_0 x3_1).f0.f1) ((rd_T83 l0_0 x3_1).f1) ((rd_T83 l0_0 x3_1).f2))) else (tr_Sky.j1 k1 x3_1 true l0_0 a0_1 a0_2 a0_3 ((rd_T83 l0_0 x3_1).f0.f0) ((rd_T83 l0_0 x3_1).f0.f1) ((rd_T83 l0_0 x3_1).f1) ((rd_T83 l0_0 x3_1).f2)))=some r:=H
       have A12:=A0_ A120;clear A120
       by_cases c13:t143=true
       ·subst c13
        have H1:((tr_in.f (((rd_T83 l0_0 x3_1).f2).length:Int) 1 8).bind fun t144=>(tr_Sky.j1 k1 x3_1 (!t144) l0_0 a0_1 a0_2 a0_3 ((rd_T83 l0_0 x3_1).f0.f0) ((rd_T83 l0_0 x3_1).f0.f1) ((rd_T83 l0_0 x3_1).f1) ((rd_T83 l0_0 x3_1).f2)))=some r:=by rw [if_pos rfl] at H;exact H
        clear H;have H:=H1;clear H1;replace H:=Option.bind_eq_some_iff.mp H;obtain ⟨t144,A140,H⟩:=H
        replace H:(tr_Sky.j1 k1 x3_1 (!t144) l0_0 a0_1 a0_2 a0_3 ((rd_T83 l0_0 x3_1).f0.f0) ((rd_T83 l0_0 x3_1).f0.f1) ((rd_T83 l0_0 x3_1).f1) ((rd_T83 l0_0 x3_1).f2))=some r:=H
        have A14:=A0_ A140;clear A140
        have H':=A0_ H
        clear H
        have hnb15:=NB141_136.out
        have hnc15:=NB136_141.out
        obtain ⟨hcz16_0,hcz16_1,hcz16_2,hcz16_3,hfz16_0,hfz16_1,hfz16_2,hfz16_3⟩:=bq4_ BK141.out
        go_wp2_with (first|((with_reducible refine gate_callee (f:=55) rfl ?_);refine goesL_ (some 20) rfl rfl Tryz.func55 (by kernel_rfl) rfl #[.agg #[.int .i64 ((rd_T83 l0_0 x3_1).f0.f0),.int .i64 ((rd_T83 l0_0 x3_1).f0.f1)]] rfl y1_ ?_;(with_reducible refine (tr_period.calls ((rd_T83 l0_0 x3_1).f0.f0) ((rd_T83 l0_0 x3_1).f0.f1) true _ A10.out).mono ?_);rintro e w17 ⟨rfl,hb⟩;refine ⟨_,rfl,?_⟩;have n0_:=A0_ (blk_below (g:=gb136) (o:=.cells #[.slice (some ad140) l0_0.length c0_0,.int .i64 a0_1,.int .i64 a0_2,.int .i64 a0_3] 28 (0,0)) y1u_ hb);have n1_:=A0_ (blk_below (g:=gb141) (o:=.cells #[.int .i64 ((rd_T83 l0_0 x3_1).f0.f0),.int .i64 ((rd_T83 l0_0 x3_1).f0.f1),.int .i64 ((rd_T83 l0_0 x3_1).f1),.slice A140_3 ((rd_T83 l0_0 x3_1).f2).length c140_3] 83 (0,0)) ys_ hb);have n2_:=A0_ (below_step y1i_ hb);clear BK136;clear BK141;clear HB;have BK136:=n0_;have BK141:=n1_;have HB:=n2_;clear n0_ n1_ n2_;(try clear hb);(try clear hb2);(try clear hk);(try clear hi);obtain ⟨hcz18_0,hcz18_1,hcz18_2,hcz18_3,hfz18_0,hfz18_1,hfz18_2,hfz18_3⟩:=bq4_ BK141.out)|(go_at_call 23;(with_reducible refine (tr_Spot.calls ((rd_T83 l0_0 x3_1).f1) true _ A12.out).mono ?_);rintro e w' ⟨rfl,⟨nd,rfl⟩⟩)|(go_at_call 56;(with_reducible refine (tr_in.calls (((rd_T83 l0_0 x3_1).f2).length:Int) 1 8 t144 _ A14.out).mono ?_);rintro e w' ⟨rfl,⟨nd,rfl⟩⟩))
        go_meet
        case rel=>exact ⟨_,(!t144),y4_,H',⟨by have:=HK1.out;first|omega|exact Nat.le_refl _⟩,⟨by (with_reducible repeat (first|refine blk_drewN ?_ _|refine blk_drew ?_|refine blk_alloc ?_ _));exact BK136.out⟩,⟨by (with_reducible repeat (first|refine blk_drewN ?_ _|refine blk_drew ?_|refine blk_alloc ?_ _));exact BK141.out⟩,⟨y1i_⟩⟩
       ·replace c13:=Bool.eq_false_iff.mpr c13;subst c13
        have H1:(tr_Sky.j1 k1 x3_1 true l0_0 a0_1 a0_2 a0_3 ((rd_T83 l0_0 x3_1).f0.f0) ((rd_T83 l0_0 x3_1).f0.f1) ((rd_T83 l0_0 x3_1).f1) ((rd_T83 l0_0 x3_1).f2))=some r:=by rw [if_neg (show ¬ (false=true) by decide)] at H;exact H
        clear H;have H:=H1;clear H1
        have H':=A0_ H
        clear H
        have hnb19:=NB141_136.out
        have hnc19:=NB136_141.out
        obtain ⟨hcz20_0,hcz20_1,hcz20_2,hcz20_3,hfz20_0,hfz20_1,hfz20_2,hfz20_3⟩:=bq4_ BK141.out
        go_wp2_with (first|((with_reducible refine gate_callee (f:=55) rfl ?_);refine goesL_ (some 20) rfl rfl Tryz.func55 (by kernel_rfl) rfl #[.agg #[.int .i64 ((rd_T83 l0_0 x3_1).f0.f0),.int .i64 ((rd_T83 l0_0 x3_1).f0.f1)]] rfl y1_ ?_;(with_reducible refine (tr_period.calls ((rd_T83 l0_0 x3_1).f0.f0) ((rd_T83 l0_0 x3_1).f0.f1) true _ A10.out).mono ?_);rintro e w21 ⟨rfl,hb⟩;refine ⟨_,rfl,?_⟩;have n0_:=A0_ (blk_below (g:=gb136) (o:=.cells #[.slice (some ad140) l0_0.length c0_0,.int .i64 a0_1,.int .i64 a0_2,.int .i64 a0_3] 28 (0,0)) y1u_ hb);have n1_:=A0_ (blk_below (g:=gb141) (o:=.cells #[.int .i64 ((rd_T83 l0_0 x3_1).f0.f0),.int .i64 ((rd_T83 l0_0 x3_1).f0.f1),.int .i64 ((rd_T83 l0_0 x3_1).f1),.slice A140_3 ((rd_T83 l0_0 x3_1).f2).length c140_3] 83 (0,0)) ys_ hb);have n2_:=A0_ (below_step y1i_ hb);clear BK136;clear BK141;clear HB;have BK136:=n0_;have BK141:=n1_;have HB:=n2_;clear n0_ n1_ n2_;(try clear hb);(try clear hb2);(try clear hk);(try clear hi);obtain ⟨hcz22_0,hcz22_1,hcz22_2,hcz22_3,hfz22_0,hfz22_1,hfz22_2,hfz22_3⟩:=bq4_ BK141.out)|(go_at_call 23;(with_reducible refine (tr_Spot.calls ((rd_T83 l0_0 x3_1).f1) false _ A12.out).mono ?_);rintro e w' ⟨rfl,⟨nd,rfl⟩⟩))
        go_meet
        case rel=>exact ⟨_,(true),y4_,H',⟨by have:=HK1.out;first|omega|exact Nat.le_refl _⟩,⟨by (with_reducible repeat (first|refine blk_drewN ?_ _|refine blk_drew ?_|refine blk_alloc ?_ _));exact BK136.out⟩,⟨by (with_reducible repeat (first|refine blk_drewN ?_ _|refine blk_drew ?_|refine blk_alloc ?_ _));exact BK141.out⟩,⟨y1i_⟩⟩
      ·replace c11:=Bool.eq_false_iff.mpr c11;subst c11
       have H1:(tr_Sky.j1 k1 x3_1 true l0_0 a0_1 a0_2 a0_3 ((rd_T83 l0_0 x3_1).f0.f0) ((rd_T83 l0_0 x3_1).f0.f1) ((rd_T83 l0_0 x3_1).f1) ((rd_T83 l0_0 x3_1).f2))=some r:=by rw [if_neg (show ¬ (false=true) by decide)] at H;exact H
       clear H;have H:=H1;clear H1
       have H':=A0_ H
       clear H
       have hnb23:=NB141_136.out
       have hnc23:=NB136_141.out
       obtain ⟨hcz24_0,hcz24_1,hcz24_2,hcz24_3,hfz24_0,hfz24_1,hfz24_2,hfz24_3⟩:=bq4_ BK141.out
       go_wp2_with (first|((with_reducible refine gate_callee (f:=55) rfl ?_);refine goesL_ (some 20) rfl rfl Tryz.func55 (by kernel_rfl) rfl #[.agg #[.int .i64 ((rd_T83 l0_0 x3_1).f0.f0),.int .i64 ((rd_T83 l0_0 x3_1).f0.f1)]] rfl y1_ ?_;(with_reducible refine (tr_period.calls ((rd_T83 l0_0 x3_1).f0.f0) ((rd_T83 l0_0 x3_1).f0.f1) false _ A10.out).mono ?_);rintro e w25 ⟨rfl,hb⟩;refine ⟨_,rfl,?_⟩;have n0_:=A0_ (blk_below (g:=gb136) (o:=.cells #[.slice (some ad140) l0_0.length c0_0,.int .i64 a0_1,.int .i64 a0_2,.int .i64 a0_3] 28 (0,0)) y1u_ hb);have n1_:=A0_ (blk_below (g:=gb141) (o:=.cells #[.int .i64 ((rd_T83 l0_0 x3_1).f0.f0),.int .i64 ((rd_T83 l0_0 x3_1).f0.f1),.int .i64 ((rd_T83 l0_0 x3_1).f1),.slice A140_3 ((rd_T83 l0_0 x3_1).f2).length c140_3] 83 (0,0)) ys_ hb);have n2_:=A0_ (below_step y1i_ hb);clear BK136;clear BK141;clear HB;have BK136:=n0_;have BK141:=n1_;have HB:=n2_;clear n0_ n1_ n2_;(try clear hb);(try clear hb2);(try clear hk);(try clear hi)))
       go_meet
       case rel=>exact ⟨_,(true),y4_,H',⟨by have:=HK1.out;first|omega|exact Nat.le_refl _⟩,⟨by (with_reducible repeat (first|refine blk_drewN ?_ _|refine blk_drew ?_|refine blk_alloc ?_ _));exact BK136.out⟩,⟨by (with_reducible repeat (first|refine blk_drewN ?_ _|refine blk_drew ?_|refine blk_alloc ?_ _));exact BK141.out⟩,⟨y1i_⟩⟩
     case rest=>
      clear HC5;(try clear c1);(try clear p1);(try clear q1);(try clear hx1);(try clear c2);(try clear p2);(try clear c3);(try clear c3b0);(try clear c4);(try clear c4b0);(try clear c5);(try clear c8);(try clear c11);(try clear c13);(try clear c14);(try clear p14);(try clear q14);(try clear hx14);(try clear c15);(try clear c19);(try clear c23);(try clear hcz16_0);(try clear hcz16_1);(try clear hcz16_2);(try clear hcz16_3);(try clear hcz18_0);(try clear hcz18_1);(try clear hcz18_2);(try clear hcz18_3);(try clear hcz20_0);(try clear hcz20_1);(try clear hcz20_2);(try clear hcz20_3);(try clear hcz22_0);(try clear hcz22_1);(try clear hcz22_2);(try clear hcz22_3);(try clear hcz24_0);(try clear hcz24_1);(try clear hcz24_2);(try clear hcz24_3);(try clear hcz6_0);(try clear hcz6_1);(try clear hcz6_2);(try clear hcz6_3);(try clear hcz9_0);(try clear hcz9_1);(try clear hcz9_2);(try clear hcz9_3);(try clear hfz16_0);(try clear hfz16_1);(try clear hfz16_2);(try clear hfz16_3);(try clear hfz18_0);(try clear hfz18_1);(try clear hfz18_2);(try clear hfz18_3);(try clear hfz20_0);(try clear hfz20_1);(try clear hfz20_2);(try clear hfz20_3);(try clear hfz22_0);(try clear hfz22_1);(try clear hfz22_2);(try clear hfz22_3);(try clear hfz24_0);(try clear hfz24_1);(try clear hfz24_2);(try clear hfz24_3);(try clear hfz6_0);(try clear hfz6_1);(try clear hfz6_2);(try clear hfz6_3);(try clear hfz9_0);(try clear hfz9_1);(try clear hfz9_2);(try clear hfz9_3);(try clear hx140_0);(try clear hx140_1);(try clear hx140_2);(try clear hx140_3);(try clear p140);(try clear p2);(try clear q140)
      obtain ⟨kq,x34_4,rfl,HA,HJ4,BK136,BK141,HB⟩:=hcut
      cases kq with
      |zero=>exact absurd HA.out (by simp [tr_Sky.j1])
      |succ kj4=>
       have H:=HA.out
       clear HA
       simp only [tr_Sky.j1] at H
       by_cases c26:x34_4=true
       ·subst c26
        have H1:(some false)=some r:=by rw [if_pos rfl] at H;exact H
        clear H;have H:=H1;clear H1;obtain rfl:=Option.some.inj H;go_wp2;go_ret
        exact ⟨y3_,y1i_⟩
       ·replace c26:=Bool.eq_false_iff.mpr c26;subst c26
        have H1:(tr_Sky.l1 kj4 x3_1 0 l0_0 a0_1 a0_2 a0_3 ((rd_T83 l0_0 x3_1).f0.f0) ((rd_T83 l0_0 x3_1).f0.f1) ((rd_T83 l0_0 x3_1).f1) ((rd_T83 l0_0 x3_1).f2))=some r:=by rw [if_neg (show ¬ (false=true) by decide)] at H;exact H
        clear H;have H:=H1;clear H1
        have H':=A0_ H
        clear H;go_wp2
        go_loopg [5] kj4 (fun kq v5 w'=>∃ (x5_3:Int),v5=.int .i64 x5_3∧Aside0 (tr_Sky.l1 kq x3_1 x5_3 l0_0 a0_1 a0_2 a0_3 ((rd_T83 l0_0 x3_1).f0.f0) ((rd_T83 l0_0 x3_1).f0.f1) ((rd_T83 l0_0 x3_1).f1) ((rd_T83 l0_0 x3_1).f2)=some r)∧Aside0 (kq≤kj4)∧Aside0 (w'.heap[gb136]?=some (.cells #[(.slice (some ad140) l0_0.length c0_0),.int .i64 a0_1,.int .i64 a0_2,.int .i64 a0_3] 28 (0,0)))∧Aside0 (w'.heap[gb141]?=some (.cells #[.int .i64 ((rd_T83 l0_0 x3_1).f0.f0),.int .i64 ((rd_T83 l0_0 x3_1).f0.f1),.int .i64 ((rd_T83 l0_0 x3_1).f1),(.slice A140_3 ((rd_T83 l0_0 x3_1).f2).length c140_3)] 83 (0,0)))∧Aside0 (Below w.heap.size w w'))
        case atStart=>exact ⟨(0),y4_,H',⟨Nat.le_refl _⟩,⟨by (with_reducible repeat (first|refine blk_drewN ?_ _|refine blk_drew ?_|refine blk_alloc ?_ _));exact BK136.out⟩,⟨by (with_reducible repeat (first|refine blk_drewN ?_ _|refine blk_drew ?_|refine blk_alloc ?_ _));exact BK141.out⟩,⟨y1i_⟩⟩
        case round=>
         clear H'
         (try clear c1);(try clear p1);(try clear q1);(try clear hx1);(try clear c2);(try clear p2);(try clear c3);(try clear c3b0);(try clear c4);(try clear c4b0);(try clear c5);(try clear c8);(try clear c11);(try clear c13);(try clear c14);(try clear p14);(try clear q14);(try clear hx14);(try clear c15);(try clear c19);(try clear c23);(try clear c26);(try clear hcz16_0);(try clear hcz16_1);(try clear hcz16_2);(try clear hcz16_3);(try clear hcz18_0);(try clear hcz18_1);(try clear hcz18_2);(try clear hcz18_3);(try clear hcz20_0);(try clear hcz20_1);(try clear hcz20_2);(try clear hcz20_3);(try clear hcz22_0);(try clear hcz22_1);(try clear hcz22_2);(try clear hcz22_3);(try clear hcz24_0);(try clear hcz24_1);(try clear hcz24_2);(try clear hcz24_3);(try clear hcz6_0);(try clear hcz6_1);(try clear hcz6_2);(try clear hcz6_3);(try clear hcz9_0);(try clear hcz9_1);(try clear hcz9_2);(try clear hcz9_3);(try clear hfz16_0);(try clear hfz16_1);(try clear hfz16_2);(try clear hfz16_3);(try clear hfz18_0);(try clear hfz18_1);(try clear hfz18_2);(try clear hfz18_3);(try clear hfz20_0);(try clear hfz20_1);(try clear hfz20_2);(try clear hfz20_3);(try clear hfz22_0);(try clear hfz22_1);(try clear hfz22_2);(try clear hfz22_3);(try clear hfz24_0);(try clear hfz24_1);(try clear hfz24_2);(try clear hfz24_3);(try clear hfz6_0);(try clear hfz6_1);(try clear hfz6_2);(try clear hfz6_3);(try clear hfz9_0);(try clear hfz9_1);(try clear hfz9_2);(try clear hfz9_3);(try clear hx140_0);(try clear hx140_1);(try clear hx140_2);(try clear hx140_3);(try clear p1);(try clear p14);(try clear p140);(try clear p2);(try clear q1);(try clear q14);(try clear q140)
         obtain ⟨x5_3,rfl,HA,HK3,BK136,BK141,HB⟩:=hrel
         cases gk with
         |zero=>exact absurd HA.out (by simp [tr_Sky.l1])
         |succ k3=>
          have H:=HA.out
          clear HA
          simp only [tr_Sky.l1] at H
          by_cases c27:x5_3<(((rd_T83 l0_0 x3_1).f2).length:Int)
          ·rw [if_pos c27] at H;have c27b0:decide (x5_3<(((rd_T83 l0_0 x3_1).f2).length:Int))=true:=decide_eq_true c27;clear c27
           by_cases c28:0≤x5_3
           ·rw [if_pos c28] at H;have c28b0:decide (0≤x5_3)=true:=decide_eq_true c28;clear c28;replace H:=Option.bind_eq_some_iff.mp H;obtain ⟨t146,A290,H⟩:=H
            replace H:(if t146=true then (tr_Sky.l1 k3 x3_1 (wrap64 (x5_3+1)) l0_0 a0_1 a0_2 a0_3 ((rd_T83 l0_0 x3_1).f0.f0) ((rd_T83 l0_0 x3_1).f0.f1) ((rd_T83 l0_0 x3_1).f1) ((rd_T83 l0_0 x3_1).f2)) else (some false))=some r:=H
            have A29:=A0_ A290;clear A290
            by_cases c30:t146=true
            ·subst c30
             have H1:(tr_Sky.l1 k3 x3_1 (wrap64 (x5_3+1)) l0_0 a0_1 a0_2 a0_3 ((rd_T83 l0_0 x3_1).f0.f0) ((rd_T83 l0_0 x3_1).f0.f1) ((rd_T83 l0_0 x3_1).f1) ((rd_T83 l0_0 x3_1).f2))=some r:=by rw [if_pos rfl] at H;exact H
             clear H;have H:=H1;clear H1
             have H':=A0_ H
             clear H
             have hnb31:=NB141_136.out
             have hnc31:=NB136_141.out
             obtain ⟨hcz32_0,hcz32_1,hcz32_2,hcz32_3,hfz32_0,hfz32_1,hfz32_2,hfz32_3⟩:=bq4_ BK141.out
             have p145:0≤(x5_3:Int):=of_decide_eq_true y2_
             have q145:x5_3<(((rd_T83 l0_0 x3_1).f2).length:Int):=of_decide_eq_true y2_
             obtain ⟨ad145,e145,hx145_0⟩:=Kd.at_int HR140_3.out x5_3 p145 q145
             cases e145
             replace hx145_0:=(HB.out.cell (World.block_lt_of_cell? w _ hx145_0)).trans hx145_0
             replace p145:=eq_true p145
             replace q145:=eq_true q145
             go_wp2_with (first|((with_reducible refine gate_callee (f:=56) rfl ?_);refine goesL_ (some 47) rfl rfl Tryz.func56 (by kernel_rfl) rfl #[.int .i64 (rd ((rd_T83 l0_0 x3_1).f2) x5_3),.int .i64 (-600),.int .i64 600] rfl y1_ ?_;(with_reducible refine (tr_in.calls (rd ((rd_T83 l0_0 x3_1).f2) x5_3) (-600) 600 true _ A29.out).mono ?_);rintro e w' ⟨rfl,⟨nd,rfl⟩⟩;refine ⟨_,rfl,?_⟩))
             go_roundg k3
             case measure=>have:=HK1.out;have:=HJ4.out;have:=HK3.out;omega
             case rel=>exact ⟨(wrap64 (x5_3+1)),y4_,H',⟨by have:=HK1.out;have:=HJ4.out;have:=HK3.out;omega⟩,⟨by (with_reducible repeat (first|refine blk_drewN ?_ _|refine blk_drew ?_|refine blk_alloc ?_ _));exact BK136.out⟩,⟨by (with_reducible repeat (first|refine blk_drewN ?_ _|refine blk_drew ?_|refine blk_alloc ?_ _));exact BK141.out⟩,⟨y1i_⟩⟩
            ·replace c30:=Bool.eq_false_iff.mpr c30;subst c30
             have H1:(some false)=some r:=by rw [if_neg (show ¬ (false=true) by decide)] at H;exact H
             clear H;have H:=H1;clear H1;obtain rfl:=Option.some.inj H
             have hnb33:=NB141_136.out
             have hnc33:=NB136_141.out
             obtain ⟨hcz34_0,hcz34_1,hcz34_2,hcz34_3,hfz34_0,hfz34_1,hfz34_2,hfz34_3⟩:=bq4_ BK141.out
             have p145:0≤(x5_3:Int):=of_decide_eq_true y2_
             have q145:x5_3<(((rd_T83 l0_0 x3_1).f2).length:Int):=of_decide_eq_true y2_
             obtain ⟨ad145,e145,hx145_0⟩:=Kd.at_int HR140_3.out x5_3 p145 q145
             cases e145
             replace hx145_0:=(HB.out.cell (World.block_lt_of_cell? w _ hx145_0)).trans hx145_0
             replace p145:=eq_true p145
             replace q145:=eq_true q145
             go_wp2_with (first|((with_reducible refine gate_callee (f:=56) rfl ?_);refine goesL_ (some 47) rfl rfl Tryz.func56 (by kernel_rfl) rfl #[.int .i64 (rd ((rd_T83 l0_0 x3_1).f2) x5_3),.int .i64 (-600),.int .i64 600] rfl y1_ ?_;(with_reducible refine (tr_in.calls (rd ((rd_T83 l0_0 x3_1).f2) x5_3) (-600) 600 false _ A29.out).mono ?_);rintro e w' ⟨rfl,⟨nd,rfl⟩⟩;refine ⟨_,rfl,?_⟩))
             go_ret
             exact ⟨y3_,y1i_⟩
           ·rw [if_neg c28] at H;exact absurd H (by simp)
          ·rw [if_neg c27] at H;have c27b0:decide (x5_3<(((rd_T83 l0_0 x3_1).f2).length:Int))=false:=decide_eq_false c27;clear c27
           have H':=A0_ H
           clear H
           have hnb35:=NB141_136.out
           have hnc35:=NB136_141.out
           obtain ⟨hcz36_0,hcz36_1,hcz36_2,hcz36_3,hfz36_0,hfz36_1,hfz36_2,hfz36_3⟩:=bq4_ BK141.out;go_wp2
           go_roundg k3
           case measure=>have:=HK1.out;have:=HJ4.out;have:=HK3.out;omega
           case rel=>exact ⟨(wrap64 (x3_1+1)),y4_,H',⟨by have:=HK1.out;have:=HJ4.out;have:=HK3.out;omega⟩,⟨by (with_reducible repeat (first|refine blk_drewN ?_ _|refine blk_drew ?_|refine blk_alloc ?_ _));exact BK136.out⟩,⟨y1i_⟩⟩
    ·rw [if_neg c4] at H;exact absurd H (by simp)
   ·rw [if_neg c3] at H;have c3b0:decide (x3_1<(l0_0.length:Int))=false:=decide_eq_false c3;clear c3;replace H:=Option.bind_eq_some_iff.mp H;obtain ⟨t137,A370,H⟩:=H
    replace H:(if t137=true then ((tr_period.f a0_1 a0_2).bind fun t138=>(if t138=true then ((tr_Spot.f a0_3).bind fun t139=>(some t139)) else (some false))) else (some false))=some r:=H
    have A37:=A0_ A370;clear A370
    by_cases c38:t137=true
    ·subst c38
     have H1:((tr_period.f a0_1 a0_2).bind fun t138=>(if t138=true then ((tr_Spot.f a0_3).bind fun t139=>(some t139)) else (some false)))=some r:=by rw [if_pos rfl] at H;exact H
     clear H;have H:=H1;clear H1;replace H:=Option.bind_eq_some_iff.mp H;obtain ⟨t138,A390,H⟩:=H
     replace H:(if t138=true then ((tr_Spot.f a0_3).bind fun t139=>(some t139)) else (some false))=some r:=H
     have A39:=A0_ A390;clear A390
     by_cases c40:t138=true
     ·subst c40
      have H1:((tr_Spot.f a0_3).bind fun t139=>(some t139))=some r:=by rw [if_pos rfl] at H;exact H
      clear H;have H:=H1;clear H1;replace H:=Option.bind_eq_some_iff.mp H;obtain ⟨t139,A410,H⟩:=H
      replace H:(some t139)=some r:=H
      have A41:=A0_ A410;clear A410;obtain rfl:=Option.some.inj H;obtain ⟨hcz42_0,hcz42_1,hcz42_2,hcz42_3,hfz42_0,hfz42_1,hfz42_2,hfz42_3⟩:=bq4_ BK136.out
      go_wp2_with (first|((with_reducible refine gate_callee (f:=56) rfl ?_);refine goesL_ (some 52) rfl rfl Tryz.func56 (by kernel_rfl) rfl #[.int .i64 (l0_0.length:Int),.int .i64 2,.int .i64 4] rfl y1_ ?_;(with_reducible refine (tr_in.calls (l0_0.length:Int) 2 4 true _ A37.out).mono ?_);rintro e w' ⟨rfl,⟨nd,rfl⟩⟩;refine ⟨_,rfl,?_⟩)|(go_at_call 55;(with_reducible refine (tr_period.calls a0_1 a0_2 true _ A39.out).mono ?_);rintro e w43 ⟨rfl,hb⟩;have n0_:=A0_ (blk_below (g:=gb136) (o:=.cells #[.slice A0_0 l0_0.length c0_0,.int .i64 a0_1,.int .i64 a0_2,.int .i64 a0_3] 28 (0,0)) (bd_ BK136.out) hb);have n1_:=A0_ (below_step y1v_ hb);clear BK136;clear HB;have BK136:=n0_;have HB:=n1_;clear n0_ n1_;(try clear hb);(try clear hb2);(try clear hk);(try clear hi);obtain ⟨hcz44_0,hcz44_1,hcz44_2,hcz44_3,hfz44_0,hfz44_1,hfz44_2,hfz44_3⟩:=bq4_ BK136.out)|(go_at_call 23;(with_reducible refine (tr_Spot.calls a0_3 t139 _ A41.out).mono ?_);rintro e w' ⟨rfl,⟨nd,rfl⟩⟩))
      go_ret
      exact ⟨y3_,y1v_⟩
     ·replace c40:=Bool.eq_false_iff.mpr c40;subst c40
      have H1:(some false)=some r:=by rw [if_neg (show ¬ (false=true) by decide)] at H;exact H
      clear H;have H:=H1;clear H1;obtain rfl:=Option.some.inj H;obtain ⟨hcz45_0,hcz45_1,hcz45_2,hcz45_3,hfz45_0,hfz45_1,hfz45_2,hfz45_3⟩:=bq4_ BK136.out
      go_wp2_with (first|((with_reducible refine gate_callee (f:=56) rfl ?_);refine goesL_ (some 52) rfl rfl Tryz.func56 (by kernel_rfl) rfl #[.int .i64 (l0_0.length:Int),.int .i64 2,.int .i64 4] rfl y1_ ?_;(with_reducible refine (tr_in.calls (l0_0.length:Int) 2 4 true _ A37.out).mono ?_);rintro e w' ⟨rfl,⟨nd,rfl⟩⟩;refine ⟨_,rfl,?_⟩)|(go_at_call 55;(with_reducible refine (tr_period.calls a0_1 a0_2 false _ A39.out).mono ?_);rintro e w46 ⟨rfl,hb⟩;have n0_:=A0_ (blk_below (g:=gb136) (o:=.cells #[.slice A0_0 l0_0.length c0_0,.int .i64 a0_1,.int .i64 a0_2,.int .i64 a0_3] 28 (0,0)) (bd_ BK136.out) hb);have n1_:=A0_ (below_step y1v_ hb);clear BK136;clear HB;have BK136:=n0_;have HB:=n1_;clear n0_ n1_;(try clear hb);(try clear hb2);(try clear hk);(try clear hi)))
      go_ret
      exact ⟨y3_,y1v_⟩
    ·replace c38:=Bool.eq_false_iff.mpr c38;subst c38
     have H1:(some false)=some r:=by rw [if_neg (show ¬ (false=true) by decide)] at H;exact H
     clear H;have H:=H1;clear H1;obtain rfl:=Option.some.inj H;obtain ⟨hcz47_0,hcz47_1,hcz47_2,hcz47_3,hfz47_0,hfz47_1,hfz47_2,hfz47_3⟩:=bq4_ BK136.out
     go_wp2_with (first|((with_reducible refine gate_callee (f:=56) rfl ?_);refine goesL_ (some 52) rfl rfl Tryz.func56 (by kernel_rfl) rfl #[.int .i64 (l0_0.length:Int),.int .i64 2,.int .i64 4] rfl y1_ ?_;(with_reducible refine (tr_in.calls (l0_0.length:Int) 2 4 false _ A37.out).mono ?_);rintro e w' ⟨rfl,⟨nd,rfl⟩⟩;refine ⟨_,rfl,?_⟩))
     go_ret
     exact ⟨y3_,y1v_⟩
end Go.Proofs.YtaidphhkhddemaaGreatDoor.PSky
end
section
namespace Go.Proofs.YtaidphhkhddemaaGreatDoor.PSky
open Go.RowKit Go.Proofs.YtaidphhkhddemaaGreatDoorW.PrintWords Go.Proofs.YtaidphhkhddemaaGreatDoorW.PrintLast Go.Proofs.YtaidphhkhddemaaGreatDoorW.PrintMore
attribute [local go_sem] max2_int min2_int max_two min_two max_three min_three max_four min_four
set_option linter.unusedVariables false
set_option linter.unusedSimpArgs false
def tr_down.f (a0:Int) (a1:Int):Option (Int):=if a1=0 then (none) else (if (wrap64 ((wrap64 (Int.tdiv a0 a1))*a1)) > a0 then (some (wrap64 ((wrap64 (Int.tdiv a0 a1)) - 1))) else (some (wrap64 (Int.tdiv a0 a1))))
set_option maxHeartbeats 8000000 in
set_option maxRecDepth 100000 in
theorem tr_down.calls (a0:Int) (a1:Int) (r:Int) (w:World) (h:tr_down.f a0 a1=some r):
  Calls Tryz.prog 83 #[.int .i64 a0,.int .i64 a1] w fun e w'=>e=.returned (.int .i64 r)∧Drawn0 w w':=by
 have H:(if a1=0 then (none) else (if (wrap64 ((wrap64 (Int.tdiv a0 a1))*a1)) > a0 then (some (wrap64 ((wrap64 (Int.tdiv a0 a1)) - 1))) else (some (wrap64 (Int.tdiv a0 a1)))))=some r:=h
 clear h
 by_cases c3:a1=0
 ·rw [if_pos c3] at H;exact absurd H (by simp)
 ·rw [if_neg c3] at H
  have c3b0:(a1 == 0)=false:=beq_eq_false_iff_ne.mpr c3
  have c3b1:(a1 != 0)=true:=bne_iff_ne.mpr c3
  by_cases c4:(wrap64 ((wrap64 (Int.tdiv a0 a1))*a1)) > a0
  ·rw [if_pos c4] at H;have c4b0:decide (a0<(wrap64 ((wrap64 (Int.tdiv a0 a1))*a1)))=true:=decide_eq_true c4;clear c4;obtain rfl:=Option.some.inj H
   go_enter Tryz.func83,Tryz.ntmps83
   go_wp2;go_ret
   exact ⟨y4_,yb_⟩
  ·rw [if_neg c4] at H;have c4b0:decide (a0<(wrap64 ((wrap64 (Int.tdiv a0 a1))*a1)))=false:=decide_eq_false c4;clear c4;obtain rfl:=Option.some.inj H
   go_enter Tryz.func83,Tryz.ntmps83
   go_wp2;go_ret
   exact ⟨y4_,yb_⟩
def tr_Less.f (a0:Int):Option (Int):=(tr_down.f a0 21600).bind fun t153=>(some (wrap64 (a0 - (wrap64 (t153*21600)))))
set_option maxHeartbeats 8000000 in
set_option maxRecDepth 100000 in
theorem tr_Less.calls (a0:Int) (r:Int) (w:World) (h:tr_Less.f a0=some r):
  Calls Tryz.prog 40 #[.int .i64 a0] w fun e w'=>e=.returned (.int .i64 r)∧Drawn0 w w':=by
 have H:((tr_down.f a0 21600).bind fun t153=>(some (wrap64 (a0 - (wrap64 (t153*21600))))))=some r:=h
 clear h;replace H:=Option.bind_eq_some_iff.mp H;obtain ⟨t153,A20,H⟩:=H
 replace H:(some (wrap64 (a0 - (wrap64 (t153*21600)))))=some r:=H
 have A2:=A0_ A20;clear A20;obtain rfl:=Option.some.inj H
 go_enter Tryz.func40,Tryz.ntmps40
 go_wp2_with (first|((with_reducible refine gate_callee (f:=83) rfl ?_);refine goesL_ (some 5) rfl rfl Tryz.func83 (by kernel_rfl) rfl #[.int .i64 a0,.int .i64 21600] rfl y1_ ?_;(with_reducible refine (tr_down.calls a0 21600 t153 _ A2.out).mono ?_);rintro e w' ⟨rfl,⟨nd,rfl⟩⟩;refine ⟨_,rfl,?_⟩))
 go_ret
 exact ⟨y4_,yb_⟩
end Go.Proofs.YtaidphhkhddemaaGreatDoor.PSky
end
section
namespace Go.Proofs.YtaidphhkhddemaaGreatDoor.PSky
open Go.RowKit Go.Proofs.YtaidphhkhddemaaGreatDoorW.PrintWords Go.Proofs.YtaidphhkhddemaaGreatDoorW.PrintLast Go.Proofs.YtaidphhkhddemaaGreatDoorW.PrintMore
attribute [local go_sem] max2_int min2_int max_two min_two max_three min_three max_four min_four
set_option linter.unusedVariables false
set_option linter.unusedSimpArgs false
def tr_Span.f (a0:Int) (a1:Int):Option (Bool):=(tr_in.f a0 1 20000).bind fun t147=>(if t147=true then ((tr_in.f a1 a0 20000).bind fun t148=>(if t148=true then (some (decide ((wrap64 (a1 - a0))≤800))) else (some false))) else (some false))
set_option maxHeartbeats 8000000 in
set_option maxRecDepth 100000 in
theorem tr_Span.calls (a0:Int) (a1:Int) (r:Bool) (w:World) (h:tr_Span.f a0 a1=some r):
  Calls Tryz.prog 14 #[.int .i64 a0,.int .i64 a1] w fun e w'=>e=.returned (.bool r)∧Drawn0 w w':=by
 have H:((tr_in.f a0 1 20000).bind fun t147=>(if t147=true then ((tr_in.f a1 a0 20000).bind fun t148=>(if t148=true then (some (decide ((wrap64 (a1 - a0))≤800))) else (some false))) else (some false)))=some r:=h
 clear h;replace H:=Option.bind_eq_some_iff.mp H;obtain ⟨t147,A30,H⟩:=H
 replace H:(if t147=true then ((tr_in.f a1 a0 20000).bind fun t148=>(if t148=true then (some (decide ((wrap64 (a1 - a0))≤800))) else (some false))) else (some false))=some r:=H
 have A3:=A0_ A30;clear A30
 by_cases c4:t147=true
 ·subst c4
  have H1:((tr_in.f a1 a0 20000).bind fun t148=>(if t148=true then (some (decide ((wrap64 (a1 - a0))≤800))) else (some false)))=some r:=by rw [if_pos rfl] at H;exact H
  clear H;have H:=H1;clear H1;replace H:=Option.bind_eq_some_iff.mp H;obtain ⟨t148,A50,H⟩:=H
  replace H:(if t148=true then (some (decide ((wrap64 (a1 - a0))≤800))) else (some false))=some r:=H
  have A5:=A0_ A50;clear A50
  by_cases c6:t148=true
  ·subst c6
   have H1:(some (decide ((wrap64 (a1 - a0))≤800)))=some r:=by rw [if_pos rfl] at H;exact H
   clear H;have H:=H1;clear H1;obtain rfl:=Option.some.inj H
   go_enter Tryz.func14,Tryz.ntmps14
   go_wp2_with (first|((with_reducible refine gate_callee (f:=56) rfl ?_);refine goesL_ (some 6) rfl rfl Tryz.func56 (by kernel_rfl) rfl #[.int .i64 a0,.int .i64 1,.int .i64 20000] rfl y1_ ?_;(with_reducible refine (tr_in.calls a0 1 20000 true _ A3.out).mono ?_);rintro e w' ⟨rfl,⟨nd,rfl⟩⟩;refine ⟨_,rfl,?_⟩)|(go_at_call 56;(with_reducible refine (tr_in.calls a1 a0 20000 true _ A5.out).mono ?_);rintro e w' ⟨rfl,⟨nd,rfl⟩⟩))
   go_ret
   exact ⟨y4_,yb_⟩
  ·replace c6:=Bool.eq_false_iff.mpr c6;subst c6
   have H1:(some false)=some r:=by rw [if_neg (show ¬ (false=true) by decide)] at H;exact H
   clear H;have H:=H1;clear H1;obtain rfl:=Option.some.inj H
   go_enter Tryz.func14,Tryz.ntmps14
   go_wp2_with (first|((with_reducible refine gate_callee (f:=56) rfl ?_);refine goesL_ (some 6) rfl rfl Tryz.func56 (by kernel_rfl) rfl #[.int .i64 a0,.int .i64 1,.int .i64 20000] rfl y1_ ?_;(with_reducible refine (tr_in.calls a0 1 20000 true _ A3.out).mono ?_);rintro e w' ⟨rfl,⟨nd,rfl⟩⟩;refine ⟨_,rfl,?_⟩)|(go_at_call 56;(with_reducible refine (tr_in.calls a1 a0 20000 false _ A5.out).mono ?_);rintro e w' ⟨rfl,⟨nd,rfl⟩⟩))
   go_ret
   exact ⟨y4_,yb_⟩
 ·replace c4:=Bool.eq_false_iff.mpr c4;subst c4
  have H1:(some false)=some r:=by rw [if_neg (show ¬ (false=true) by decide)] at H;exact H
  clear H;have H:=H1;clear H1;obtain rfl:=Option.some.inj H
  go_enter Tryz.func14,Tryz.ntmps14
  go_wp2_with (first|((with_reducible refine gate_callee (f:=56) rfl ?_);refine goesL_ (some 6) rfl rfl Tryz.func56 (by kernel_rfl) rfl #[.int .i64 a0,.int .i64 1,.int .i64 20000] rfl y1_ ?_;(with_reducible refine (tr_in.calls a0 1 20000 false _ A3.out).mono ?_);rintro e w' ⟨rfl,⟨nd,rfl⟩⟩;refine ⟨_,rfl,?_⟩))
  go_ret
  exact ⟨y4_,yb_⟩
end Go.Proofs.YtaidphhkhddemaaGreatDoor.PSky
end
section
namespace Go.Proofs.YtaidphhkhddemaaGreatDoor.PSky
open Go.RowKit Go.Proofs.YtaidphhkhddemaaGreatDoorW.PrintWords Go.Proofs.YtaidphhkhddemaaGreatDoorW.PrintLast Go.Proofs.YtaidphhkhddemaaGreatDoorW.PrintMore
attribute [local go_sem] max2_int min2_int max_two min_two max_three min_three max_four min_four
set_option linter.unusedVariables false
set_option linter.unusedSimpArgs false
def tr_Limit.f (a0:Int):Option (Bool):=(tr_in.f a0 0 5400).bind fun t264=>(some t264)
set_option maxHeartbeats 8000000 in
set_option maxRecDepth 100000 in
theorem tr_Limit.calls (a0:Int) (r:Bool) (w:World) (h:tr_Limit.f a0=some r):
  Calls Tryz.prog 18 #[.int .i64 a0] w fun e w'=>e=.returned (.bool r)∧Drawn0 w w':=by
 have H:((tr_in.f a0 0 5400).bind fun t264=>(some t264))=some r:=h
 clear h;replace H:=Option.bind_eq_some_iff.mp H;obtain ⟨t264,A20,H⟩:=H
 replace H:(some t264)=some r:=H
 have A2:=A0_ A20;clear A20;obtain rfl:=Option.some.inj H
 go_enter Tryz.func18,Tryz.ntmps18
 go_wp2_with (first|((with_reducible refine gate_callee (f:=56) rfl ?_);refine goesL_ (some 4) rfl rfl Tryz.func56 (by kernel_rfl) rfl #[.int .i64 a0,.int .i64 0,.int .i64 5400] rfl y1_ ?_;(with_reducible refine (tr_in.calls a0 0 5400 t264 _ A2.out).mono ?_);rintro e w' ⟨rfl,⟨nd,rfl⟩⟩;refine ⟨_,rfl,?_⟩))
 go_ret
 exact ⟨y4_,yb_⟩
end Go.Proofs.YtaidphhkhddemaaGreatDoor.PSky
end
section
namespace Go.Proofs.YtaidphhkhddemaaGreatDoor.PSky
open Go.RowKit Go.Proofs.YtaidphhkhddemaaGreatDoorW.PrintWords Go.Proofs.YtaidphhkhddemaaGreatDoorW.PrintLast Go.Proofs.YtaidphhkhddemaaGreatDoorW.PrintMore
attribute [local go_sem] max2_int min2_int max_two min_two max_three min_three max_four min_four
set_option linter.unusedVariables false
set_option linter.unusedSimpArgs false
def tr_Apart.f (a0:Int) (a1:Int):Option (Int):=(tr_Less.f (wrap64 (a0 - a1))).bind fun t324=>(some (mn t324 (wrap64 (21600 - t324))))
set_option maxHeartbeats 8000000 in
set_option maxRecDepth 100000 in
theorem tr_Apart.calls (a0:Int) (a1:Int) (r:Int) (w:World) (h:tr_Apart.f a0 a1=some r):
  Calls Tryz.prog 24 #[.int .i64 a0,.int .i64 a1] w fun e w'=>e=.returned (.int .i64 r)∧Below w.heap.size w w':=by
 have HB:=A0_ (Below.refl w.heap.size w)
 have H:((tr_Less.f (wrap64 (a0 - a1))).bind fun t324=>(some (mn t324 (wrap64 (21600 - t324)))))=some r:=h
 clear h;replace H:=Option.bind_eq_some_iff.mp H;obtain ⟨t324,A30,H⟩:=H
 replace H:(some (mn t324 (wrap64 (21600 - t324))))=some r:=H
 have A3:=A0_ A30;clear A30
 obtain ⟨ji4,hji4⟩:∃ j_:Int,(mn t324 (wrap64 (21600 - t324)))=j_:=⟨_,rfl⟩
 replace H:(some ji4)=some r:=by first|(rw [hji4] at H;exact H)|(simp only [hji4] at H ⊢;exact H)
 (try rw [hji4] at A3)
 have hji4_:(if (wrap64 (21600 - t324))<t324 then (wrap64 (21600 - t324)) else t324)=ji4:=hji4
 obtain rfl:=Option.some.inj H
 go_enter Tryz.func24,Tryz.ntmps24
 go_wp2_with (first|((with_reducible refine gate_callee (f:=40) rfl ?_);refine goesL_ (some 9) rfl rfl Tryz.func40 (by kernel_rfl) rfl #[.int .i64 (wrap64 (a0 - a1))] rfl y1_ ?_;(with_reducible refine (tr_Less.calls (wrap64 (a0 - a1)) t324 _ A3.out).mono ?_);rintro e w' ⟨rfl,⟨nd,rfl⟩⟩;refine ⟨_,rfl,?_⟩))
 go_ret
 exact ⟨by first|rfl|(simp [errW_none,errW_some] <;> rfl)|(simp only [← hji4];first|rfl|(simp [errW_none,errW_some] <;> rfl))|(simp [*,errW_none,errW_some] <;> rfl),y0_⟩
end Go.Proofs.YtaidphhkhddemaaGreatDoor.PSky
end
section
namespace Go.Proofs.YtaidphhkhddemaaGreatDoor.PSky
open Go.RowKit Go.Proofs.YtaidphhkhddemaaGreatDoorW.PrintWords Go.Proofs.YtaidphhkhddemaaGreatDoorW.PrintLast Go.Proofs.YtaidphhkhddemaaGreatDoorW.PrintMore
attribute [local go_sem] max2_int min2_int max_two min_two max_three min_three max_four min_four
set_option linter.unusedVariables false
set_option linter.unusedSimpArgs false
attribute [local go_sem high] eqA54
def tl_met.l0:Nat→List (S54)→Int→Int→Bool→Int→Option (Bool)
 |0,_,_,_,_,_=>none
 |k+1,x0,x5,x326000,x326001,x326002=>if x5<(x0.length:Int) then (if 0≤x5 then (if (((rd_T54 x0 x5).f0) == x326000 && (((rd_T54 x0 x5).f1) == x326001 && (((rd_T54 x0 x5).f2) == x326002)))=true then (some true) else (tl_met.l0 k x0 (wrap64 (x5+1)) x326000 x326001 x326002)) else (none)) else (some false)
def tl_met.f (k:Nat) (l0:List (S54)) (a1_0:Int) (a1_1:Bool) (a1_2:Int):Option (Bool):=tl_met.l0 k l0 0 a1_0 a1_1 a1_2
set_option maxHeartbeats 8000000 in
set_option maxRecDepth 100000 in
theorem tl_met.calls (k:Nat) (A0:Option Addr) (c0:Nat) (l0:List (S54)) (a1_0:Int) (a1_1:Bool) (a1_2:Int) (r:Bool) (w:World) (hr0:Kd.C k54 w A0 l0.length l0) (hc0:l0.length≤c0) (h:tl_met.f k l0 a1_0 a1_1 a1_2=some r):
  Calls Tryz.prog 25 #[.slice A0 l0.length c0,.agg #[.int .i64 a1_0,.bool a1_1,.int .i64 a1_2]] w fun e w'=>e=.returned (.bool r)∧Below w.heap.size w w':=by
 have hu54:=Tryz.underlying54
 have HR0:=A0_ hr0;have HC0:=A0_ hc0;clear hr0 hc0
 have HB:=A0_ (Below.refl w.heap.size w)
 have H:(tl_met.l0 k l0 0 a1_0 a1_1 a1_2)=some r:=h
 clear h
 have H':=A0_ H
 clear H
 go_enter Tryz.func25,Tryz.ntmps25
 go_wp2_with (first|((with_reducible refine gate_dst (N:=3) rfl ?_);refine box_event ?hg (N:=3) ?hd (cs:=#[.int .i64 a1_0,.bool a1_1,.int .i64 a1_2]) (t:=54) ?hr ?_;(case hd=>rfl);(case hg=>rfl);(case hr=>first|(go_simp;done)|(go_simp;rfl));intro gb325 hg w3 hbox hb;have n0_:=A0_ (below_step y0_ hb);have n1_:=A0_ (hbox);have n2_:=A0_ ((by rw [hg];exact (below_size y0_):w.heap.size≤gb325));have n3_:=A0_ ((by rw [hg];exact (below_size y0_):w.heap.size≤gb325));clear HB;have HB:=n0_;have BK325:=n1_;have GW325:=n2_;have GE325:=n3_;clear n0_ n1_ n2_ n3_;clear hb hbox hg))
 repeat (go_quiet (first|((with_reducible refine gate_dst (N:=3) rfl ?_);refine box_event ?hg (N:=3) ?hd (cs:=#[.int .i64 a1_0,.bool a1_1,.int .i64 a1_2]) (t:=54) ?hr ?_;(case hd=>rfl);(case hg=>rfl);(case hr=>first|(go_simp;done)|(go_simp;rfl));intro gb325 hg w3 hbox hb;have n0_:=A0_ (below_step y0_ hb);have n1_:=A0_ (hbox);have n2_:=A0_ ((by rw [hg];exact (below_size y0_):w.heap.size≤gb325));have n3_:=A0_ ((by rw [hg];exact (below_size y0_):w.heap.size≤gb325));clear HB;have HB:=n0_;have BK325:=n1_;have GW325:=n2_;have GE325:=n3_;clear n0_ n1_ n2_ n3_;clear hb hbox hg));try go_wp2_with (first|((with_reducible refine gate_dst (N:=3) rfl ?_);refine box_event ?hg (N:=3) ?hd (cs:=#[.int .i64 a1_0,.bool a1_1,.int .i64 a1_2]) (t:=54) ?hr ?_;(case hd=>rfl);(case hg=>rfl);(case hr=>first|(go_simp;done)|(go_simp;rfl));intro gb325 hg w3 hbox hb;have n0_:=A0_ (below_step y0_ hb);have n1_:=A0_ (hbox);have n2_:=A0_ ((by rw [hg];exact (below_size y0_):w.heap.size≤gb325));have n3_:=A0_ ((by rw [hg];exact (below_size y0_):w.heap.size≤gb325));clear HB;have HB:=n0_;have BK325:=n1_;have GW325:=n2_;have GE325:=n3_;clear n0_ n1_ n2_ n3_;clear hb hbox hg)))
 go_loopg [5] k (fun kq v5 w'=>∃ (x5_1:Int),v5=.int .i64 x5_1∧Aside0 (tl_met.l0 kq l0 x5_1 a1_0 a1_1 a1_2=some r)∧Aside0 (kq≤k)∧Aside0 (w'.heap[gb325]?=some (.cells #[.int .i64 a1_0,.bool a1_1,.int .i64 a1_2] 54 (0,0)))∧Aside0 (Below w.heap.size w w'))
 case atStart=>exact ⟨(0),y4_,H',⟨Nat.le_refl _⟩,⟨by (with_reducible repeat (first|refine blk_drewN ?_ _|refine blk_drew ?_|refine blk_alloc ?_ _));exact BK325.out⟩,⟨y3b_⟩⟩
 case round=>
  clear H'
  (try clear c2);(try clear p2)
  obtain ⟨x5_1,rfl,HA,HK1,BK325,HB⟩:=hrel
  cases gk with
  |zero=>exact absurd HA.out (by simp [tl_met.l0])
  |succ k1=>
   have H:=HA.out
   clear HA
   simp only [tl_met.l0] at H
   by_cases c4:x5_1<(l0.length:Int)
   ·rw [if_pos c4] at H;have c4b0:decide (x5_1<(l0.length:Int))=true:=decide_eq_true c4;clear c4
    by_cases c5:0≤x5_1
    ·rw [if_pos c5] at H;have c5b0:decide (0≤x5_1)=true:=decide_eq_true c5;clear c5
     by_cases c6:(((rd_T54 l0 x5_1).f0) == a1_0 && (((rd_T54 l0 x5_1).f1) == a1_1 && (((rd_T54 l0 x5_1).f2) == a1_2)))=true
     ·rw [if_pos c6] at H
      have c6b0:(((rd_T54 l0 x5_1).f0) == a1_0 && (((rd_T54 l0 x5_1).f1) == a1_1 && (((rd_T54 l0 x5_1).f2) == a1_2)))=true:=c6
      (try (have c6b1:decide (((rd_T54 l0 x5_1).f0)=a1_0 && (((rd_T54 l0 x5_1).f1) == a1_1 && (((rd_T54 l0 x5_1).f2) == a1_2)))=true:=by simpa using c6))
      (try (have c6b2:(((rd_T54 l0 x5_1).f0) == a1_0 && (((rd_T54 l0 x5_1).f1) == a1_1 && (((rd_T54 l0 x5_1).f2) == a1_2)))=true:=by simpa using c6))
      clear c6;obtain rfl:=Option.some.inj H
      have p326:0≤(x5_1:Int):=of_decide_eq_true y2_
      have q326:x5_1<(l0.length:Int):=of_decide_eq_true y2_
      obtain ⟨ad326,e326,hx326_0,hx326_1,hx326_2⟩:=at_T54 HR0.out x5_1 p326 q326
      cases e326
      replace hx326_0:=(HB.out.cell (World.block_lt_of_cell? w _ hx326_0)).trans hx326_0
      replace hx326_1:=(HB.out.cell (World.block_lt_of_cell? w _ hx326_1)).trans hx326_1
      replace hx326_2:=(HB.out.cell (World.block_lt_of_cell? w _ hx326_2)).trans hx326_2
      replace p326:=eq_true p326
      replace q326:=eq_true q326
      obtain ⟨hcz7_0,hcz7_1,hcz7_2,hfz7_0,hfz7_1,hfz7_2⟩:=bq3_ BK325.out;go_wp2
      repeat (go_quiet (fail);try go_wp2)
      go_ret
      exact ⟨y3_,y3b_⟩
     ·rw [if_neg c6] at H
      have c6b0:(((rd_T54 l0 x5_1).f0) == a1_0 && (((rd_T54 l0 x5_1).f1) == a1_1 && (((rd_T54 l0 x5_1).f2) == a1_2)))=false:=by simpa using c6
      (try (have c6b1:decide (((rd_T54 l0 x5_1).f0)=a1_0 && (((rd_T54 l0 x5_1).f1) == a1_1 && (((rd_T54 l0 x5_1).f2) == a1_2)))=false:=by simpa using c6))
      (try (have c6b2:(((rd_T54 l0 x5_1).f0) == a1_0 && (((rd_T54 l0 x5_1).f1) == a1_1 && (((rd_T54 l0 x5_1).f2) == a1_2)))=false:=by simpa using c6))
      (try (have c6b3:¬ (((rd_T54 l0 x5_1).f0)=a1_0 && (((rd_T54 l0 x5_1).f1) == a1_1 && (((rd_T54 l0 x5_1).f2) == a1_2))):=by simpa using c6))
      clear c6
      have H':=A0_ H
      clear H
      have p326:0≤(x5_1:Int):=of_decide_eq_true y2_
      have q326:x5_1<(l0.length:Int):=of_decide_eq_true y2_
      obtain ⟨ad326,e326,hx326_0,hx326_1,hx326_2⟩:=at_T54 HR0.out x5_1 p326 q326
      cases e326
      replace hx326_0:=(HB.out.cell (World.block_lt_of_cell? w _ hx326_0)).trans hx326_0
      replace hx326_1:=(HB.out.cell (World.block_lt_of_cell? w _ hx326_1)).trans hx326_1
      replace hx326_2:=(HB.out.cell (World.block_lt_of_cell? w _ hx326_2)).trans hx326_2
      replace p326:=eq_true p326
      replace q326:=eq_true q326
      obtain ⟨hcz8_0,hcz8_1,hcz8_2,hfz8_0,hfz8_1,hfz8_2⟩:=bq3_ BK325.out;go_wp2
      repeat (go_quiet (fail);try go_wp2)
      go_roundg k1
      case measure=>have:=HK1.out;omega
      case rel=>exact ⟨(wrap64 (x5_1+1)),y4_,H',⟨by have:=HK1.out;omega⟩,⟨by (with_reducible repeat (first|refine blk_drewN ?_ _|refine blk_drew ?_|refine blk_alloc ?_ _));exact BK325.out⟩,⟨y3b_⟩⟩
    ·rw [if_neg c5] at H;exact absurd H (by simp)
   ·rw [if_neg c4] at H;have c4b0:decide (x5_1<(l0.length:Int))=false:=decide_eq_false c4;clear c4;obtain rfl:=Option.some.inj H;go_wp2
    repeat (go_quiet (fail);try go_wp2)
    go_ret
    exact ⟨y3_,y3b_⟩
def tl_listed.l0:Nat→List (S51)→Int→Bool→Int→Option (Bool)
 |0,_,_,_,_=>none
 |k+1,x0,x1,x2,x7=>if x7<(x0.length:Int) then (if 0≤x7 then (if ((rd_T51 x0 x7).f0)=x1 then (if (((rd_T51 x0 x7).f1) == x2)=true then (some true) else (tl_listed.l0 k x0 x1 x2 (wrap64 (x7+1)))) else (tl_listed.l0 k x0 x1 x2 (wrap64 (x7+1)))) else (none)) else (some false)
def tl_listed.f (k:Nat) (l0:List (S51)) (a1:Int) (a2:Bool):Option (Bool):=tl_listed.l0 k l0 a1 a2 0
set_option maxHeartbeats 8000000 in
set_option maxRecDepth 100000 in
theorem tl_listed.calls (k:Nat) (A0:Option Addr) (c0:Nat) (l0:List (S51)) (a1:Int) (a2:Bool) (r:Bool) (w:World) (hr0:Kd.C k51 w A0 l0.length l0) (hc0:l0.length≤c0) (h:tl_listed.f k l0 a1 a2=some r):
  Calls Tryz.prog 26 #[.slice A0 l0.length c0,.int .i64 a1,.bool a2] w fun e w'=>e=.returned (.bool r)∧Drawn0 w w':=by
 have HR0:=A0_ hr0;have HC0:=A0_ hc0;clear hr0 hc0
 have H:(tl_listed.l0 k l0 a1 a2 0)=some r:=h
 clear h
 have H':=A0_ H
 clear H
 go_enter Tryz.func26,Tryz.ntmps26
 go_wp2
 go_loopg [7] k (fun kq v7 w'=>∃ (x7_1:Int),v7=.int .i64 x7_1∧Aside0 (tl_listed.l0 kq l0 a1 a2 x7_1=some r)∧Aside0 (kq≤k)∧Drawn0 w w')
 case atStart=>exact ⟨(0),y4_,H',⟨Nat.le_refl _⟩,yb_⟩
 case round=>
  clear H'
  (try clear c2);(try clear p2)
  obtain ⟨x7_1,rfl,HA,HK1,⟨m1,rfl⟩⟩:=hrel
  cases gk with
  |zero=>exact absurd HA.out (by simp [tl_listed.l0])
  |succ k1=>
   have H:=HA.out
   clear HA
   simp only [tl_listed.l0] at H
   by_cases c4:x7_1<(l0.length:Int)
   ·rw [if_pos c4] at H;have c4b0:decide (x7_1<(l0.length:Int))=true:=decide_eq_true c4;clear c4
    by_cases c5:0≤x7_1
    ·rw [if_pos c5] at H;have c5b0:decide (0≤x7_1)=true:=decide_eq_true c5;clear c5
     by_cases c6:((rd_T51 l0 x7_1).f0)=a1
     ·rw [if_pos c6] at H
      have c6b0:(((rd_T51 l0 x7_1).f0) == a1)=true:=beq_iff_eq.mpr c6
      have c6b1:(((rd_T51 l0 x7_1).f0) != a1)=false:=bne_eq_false_iff_eq.mpr c6
      clear c6
      by_cases c7:(((rd_T51 l0 x7_1).f1) == a2)=true
      ·rw [if_pos c7] at H
       have c7b0:(((rd_T51 l0 x7_1).f1) == a2)=true:=c7
       (try (have c7b1:decide (((rd_T51 l0 x7_1).f1)=a2)=true:=by simpa using c7))
       (try (have c7b2:(((rd_T51 l0 x7_1).f1) == a2)=true:=by simpa using c7))
       clear c7;obtain rfl:=Option.some.inj H
       have p327:0≤(x7_1:Int):=of_decide_eq_true y2_
       have q327:x7_1<(l0.length:Int):=of_decide_eq_true y2_
       obtain ⟨ad327,e327,hx327_0,hx327_1⟩:=at_T51 HR0.out x7_1 p327 q327
       cases e327
       replace p327:=eq_true p327
       replace q327:=eq_true q327
       have p328:0≤(x7_1:Int):=of_decide_eq_true y2_
       have q328:x7_1<(l0.length:Int):=of_decide_eq_true y2_
       obtain ⟨ad328,e328,hx328_0,hx328_1⟩:=at_T51 HR0.out x7_1 p328 q328
       obtain rfl:ad327=ad328:=(by injection e328)
       replace p328:=eq_true p328
       replace q328:=eq_true q328
       go_wp2;go_ret
       exact ⟨y4_,yb_⟩
      ·rw [if_neg c7] at H
       have c7b0:(((rd_T51 l0 x7_1).f1) == a2)=false:=by simpa using c7
       (try (have c7b1:decide (((rd_T51 l0 x7_1).f1)=a2)=false:=by simpa using c7))
       (try (have c7b2:(((rd_T51 l0 x7_1).f1) == a2)=false:=by simpa using c7))
       (try (have c7b3:¬ (((rd_T51 l0 x7_1).f1)=a2):=by simpa using c7))
       clear c7
       have H':=A0_ H
       clear H
       have p327:0≤(x7_1:Int):=of_decide_eq_true y2_
       have q327:x7_1<(l0.length:Int):=of_decide_eq_true y2_
       obtain ⟨ad327,e327,hx327_0,hx327_1⟩:=at_T51 HR0.out x7_1 p327 q327
       cases e327
       replace p327:=eq_true p327
       replace q327:=eq_true q327
       have p328:0≤(x7_1:Int):=of_decide_eq_true y2_
       have q328:x7_1<(l0.length:Int):=of_decide_eq_true y2_
       obtain ⟨ad328,e328,hx328_0,hx328_1⟩:=at_T51 HR0.out x7_1 p328 q328
       obtain rfl:ad327=ad328:=(by injection e328)
       replace p328:=eq_true p328
       replace q328:=eq_true q328
       go_wp2
       go_roundg k1
       case measure=>have:=HK1.out;omega
       case rel=>exact ⟨(wrap64 (x7_1+1)),y4_,H',⟨by have:=HK1.out;omega⟩,yb_⟩
     ·rw [if_neg c6] at H
      have c6b0:(((rd_T51 l0 x7_1).f0) == a1)=false:=beq_eq_false_iff_ne.mpr c6
      have c6b1:(((rd_T51 l0 x7_1).f0) != a1)=true:=bne_iff_ne.mpr c6
      have H':=A0_ H
      clear H
      have p327:0≤(x7_1:Int):=of_decide_eq_true y2_
      have q327:x7_1<(l0.length:Int):=of_decide_eq_true y2_
      obtain ⟨ad327,e327,hx327_0,hx327_1⟩:=at_T51 HR0.out x7_1 p327 q327
      cases e327
      replace p327:=eq_true p327
      replace q327:=eq_true q327
      go_wp2
      go_roundg k1
      case measure=>have:=HK1.out;omega
      case rel=>exact ⟨(wrap64 (x7_1+1)),y4_,H',⟨by have:=HK1.out;omega⟩,yb_⟩
    ·rw [if_neg c5] at H;exact absurd H (by simp)
   ·rw [if_neg c4] at H;have c4b0:decide (x7_1<(l0.length:Int))=false:=decide_eq_false c4;clear c4;obtain rfl:=Option.some.inj H;go_wp2;go_ret
    exact ⟨y4_,yb_⟩
end Go.Proofs.YtaidphhkhddemaaGreatDoor.PSky
end
section
namespace Go.Proofs.YtaidphhkhddemaaGreatDoor.PSky
open Go.RowKit Go.Proofs.YtaidphhkhddemaaGreatDoorW.PrintWords Go.Proofs.YtaidphhkhddemaaGreatDoorW.PrintLast Go.Proofs.YtaidphhkhddemaaGreatDoorW.PrintMore
theorem Ev.pos {α:Type} {c:Prop} [Decidable c] {f g:Nat→Option α} {r:α} (h:c) (k:Ev f r):Ev (fun n=>if c then f n else g n) r:=by simpa only [if_pos h] using k
theorem Ev.neg {α:Type} {c:Prop} [Decidable c] {f g:Nat→Option α} {r:α} (h:¬ c) (k:Ev g r):Ev (fun n=>if c then f n else g n) r:=by simpa only [if_neg h] using k
theorem Ev.some {α:Type} (r:α):Ev (fun _=>Option.some r) r:=Ev.now r
theorem Ev.is {α:Type} {o:Option α} {r:α} (h:o=Option.some r):Ev (fun _=>o) r:=by rw [h];exact Ev.now r
theorem wrap_id {n:Int} (h:-9223372036854775808≤n∧n≤9223372036854775807):wrap64 n=n:=by unfold wrap64;omega
theorem scan {β:Type} (l:List β) (bad:β→Bool) (g:Nat→Nat→Option Int) (hlen:l.length≤1000000)
  (hyes:∀ i (h:i<l.length),bad l[i]=true→Ev (fun k=>g k i) (i:Int))
  (hno:∀ i (h:i<l.length),bad l[i]=false→∀ r,Ev (fun k=>g k (i+1)) r→Ev (fun k=>g k i) r)
  (hend:Ev (fun k=>g k l.length) (-1)):∀ m i,i+m=l.length→∃ r,Ev (fun k=>g k i) r∧decide (r ≥ 0)=(l.drop i).any bad
 |0,i,h=>⟨-1,by rw [show i=l.length by omega];exact hend,by rw [show i=l.length by omega,List.drop_length];rfl⟩
 |m+1,i,h=>by
  have hi:i<l.length:=by omega
  rw [List.drop_eq_getElem_cons hi,List.any_cons]
  cases hb:bad l[i] with
  |true=>exact ⟨i,hyes i hi hb,by simp⟩
  |false=>
   obtain ⟨r,hr,he⟩:=scan l bad g hlen hyes hno hend m (i+1) (by omega)
   exact ⟨r,hno i hi hb r hr,by simpa using he⟩
def okIn (a b c:Int):Bool:=decide (b≤a) && decide (a≤c)
theorem in_eq (a b c:Int):sky_in.f a b c=some (okIn a b c):=by
 unfold sky_in.f okIn
 by_cases h:a ≥ b
 ·rw [if_pos h,decide_eq_true (show b≤a from h),Bool.true_and]
 ·rw [if_neg h,decide_eq_false (show ¬ b≤a from h),Bool.false_and]
theorem rin_eq (a b c:Int):tr_in.f a b c=some (okIn a b c):=in_eq a b c
def okPeriod (p q:Int):Bool:=okIn p 1 10000 && (okIn q 1 10000 && decide (4*q≤p))
theorem isPeriod_eq (p q:Int):sky_isPeriod.f p q=some (okPeriod p q):=by
 unfold sky_isPeriod.f okPeriod
 simp only [in_eq,Option.bind_some]
 cases h1:okIn p 1 10000 with
 |false=>rfl
 |true=>
  cases h2:okIn q 1 10000 with
  |false=>rfl
  |true=>
   have hq:wrap64 (4*q)=4*q:=wrap_id (by simp [okIn] at h2;omega)
   rw [hq]
   rfl
theorem period_eq (p q:Int):tr_period.f p q=some (okPeriod p q):=isPeriod_eq p q
def okPlace (n:Int):Bool:=okIn n 0 21599
theorem isPlace_eq (n:Int):sky_isPlace.f n=some (okPlace n):=by unfold sky_isPlace.f;rw [in_eq];rfl
theorem Spot_eq (n:Int):tr_Spot.f n=some (okPlace n):=isPlace_eq n
def okRoad (l:List Int):Bool:=!l.any (fun n=>!okIn n (-600) 600)
def okBody (b:S83):Bool:=okPeriod b.f0.f0 b.f0.f1 && (okPlace b.f1 && (okIn (b.f2.length:Int) 1 8 && okRoad b.f2))
def okSky (l:List S83) (p q n:Int):Bool:=okIn (l.length:Int) 2 4 && (okPeriod p q && (okPlace n && !l.any (fun b=>!okBody b)))
theorem rd_get (l:List Int) (i:Nat) (h:i<l.length):rd l (i:Int)=l[i]:=by unfold rd;simp [h]
theorem rdT_get (l:List S83) (i:Nat) (h:i<l.length):rd_T83 l (i:Int)=l[i]:=by unfold rd_T83;simp [h]
theorem road_ev (l:List Int) (hl:l.length≤1000000):Ev (fun k=>cF_isSky_c1_c1.f k l) (l.any (fun n=>!okIn n (-600) 600)):=by
 obtain ⟨r,hr,he⟩:=scan l (fun n=>!okIn n (-600) 600) (fun k i=>iF_isSky_c1_c1.l0 k l (l.length:Int) (i:Int)) hl
  (fun i h hb=>by
   refine Ev.step (fun k=>by rw [iF_isSky_c1_c1.l0]) ?_
   refine Ev.pos (by omega) (Ev.pos (by omega) (Ev.pos (by omega) ?_))
   refine Ev.bind (a:=true) (Ev.is (by unfold sky_isSky_c1_c1.f;rw [in_eq,rd_get l i h];simp [hb])) ?_
   exact Ev.pos rfl (Ev.now _))
  (fun i h hb r hr=>by
   refine Ev.step (fun k=>by rw [iF_isSky_c1_c1.l0]) ?_
   refine Ev.pos (by omega) (Ev.pos (by omega) (Ev.pos (by omega) ?_))
   refine Ev.bind (a:=false) (Ev.is (by unfold sky_isSky_c1_c1.f;rw [in_eq,rd_get l i h];simp [hb])) ?_
   refine Ev.neg (by simp) ?_
   rw [wrap_id (by omega)]
   exact hr)
  (by
   refine Ev.step (fun k=>by rw [iF_isSky_c1_c1.l0]) ?_
   exact Ev.neg (by omega) (Ev.now _)) l.length 0 (by omega)
 unfold cF_isSky_c1_c1.f iF_isSky_c1_c1.f
 refine Ev.bind hr ?_
 rw [he]
 exact Ev.now _
theorem body_ev (b:S83):Ev (fun k=>sky_isSky_c1.f k b.f0.f0 b.f0.f1 b.f1 b.f2) (!okBody b):=by
 unfold sky_isSky_c1.f okBody
 refine Ev.bind (Ev.is (isPeriod_eq _ _)) ?_
 cases h1:okPeriod b.f0.f0 b.f0.f1 with
 |false=>exact Ev.neg (by simp) (Ev.now _)
 |true=>
  refine Ev.pos rfl (Ev.bind (Ev.is (isPlace_eq _)) ?_)
  cases h2:okPlace b.f1 with
  |false=>exact Ev.neg (by simp) (Ev.now _)
  |true=>
   refine Ev.pos rfl (Ev.bind (Ev.is (in_eq _ _ _)) ?_)
   cases h3:okIn (b.f2.length:Int) 1 8 with
   |false=>exact Ev.neg (by simp) (Ev.now _)
   |true=>
    refine Ev.pos rfl (Ev.bind (road_ev b.f2 (by simp [okIn] at h3;omega)) ?_)
    simp only [okRoad,Bool.true_and,Bool.not_not]
    exact Ev.now _
theorem bodies_ev (l:List S83) (hl:l.length≤1000000):Ev (fun k=>cF_isSky_c1.f k l) (l.any (fun b=>!okBody b)):=by
 obtain ⟨r,hr,he⟩:=scan l (fun b=>!okBody b) (fun k i=>iF_isSky_c1.l0 k l (l.length:Int) (i:Int)) hl
  (fun i h hb=>by
   refine Ev.step (fun k=>by rw [iF_isSky_c1.l0]) ?_
   refine Ev.pos (by omega) (Ev.pos (by omega) (Ev.pos (by omega) ?_))
   rw [rdT_get l i h]
   refine Ev.bind (body_ev _) ?_
   rw [hb]
   exact Ev.pos rfl (Ev.now _))
  (fun i h hb r hr=>by
   refine Ev.step (fun k=>by rw [iF_isSky_c1.l0]) ?_
   refine Ev.pos (by omega) (Ev.pos (by omega) (Ev.pos (by omega) ?_))
   rw [rdT_get l i h]
   refine Ev.bind (body_ev _) ?_
   rw [hb]
   refine Ev.neg (by simp) ?_
   rw [wrap_id (by omega)]
   exact hr)
  (by
   refine Ev.step (fun k=>by rw [iF_isSky_c1.l0]) ?_
   exact Ev.neg (by omega) (Ev.now _)) l.length 0 (by omega)
 unfold cF_isSky_c1.f iF_isSky_c1.f
 refine Ev.bind hr ?_
 rw [he]
 exact Ev.now _
theorem isSky_ev (l:List S83) (p q n:Int):Ev (fun k=>sky_isSky.f k l p q n) (okSky l p q n):=by
 unfold sky_isSky.f okSky
 refine Ev.bind (Ev.is (in_eq _ _ _)) ?_
 cases h1:okIn (l.length:Int) 2 4 with
 |false=>exact Ev.neg (by simp) (Ev.now _)
 |true=>
  refine Ev.pos rfl (Ev.bind (Ev.is (isPeriod_eq _ _)) ?_)
  cases h2:okPeriod p q with
  |false=>exact Ev.neg (by simp) (Ev.now _)
  |true=>
   refine Ev.pos rfl (Ev.bind (Ev.is (isPlace_eq _)) ?_)
   cases h3:okPlace n with
   |false=>exact Ev.neg (by simp) (Ev.now _)
   |true=>
    refine Ev.pos rfl (Ev.bind (bodies_ev l (by simp [okIn] at h1;omega)) ?_)
    simp only [Bool.true_and]
    exact Ev.now _
theorem refroad_ok (l:List S83) (p q n:Int) (i:Int) (b:S83) (hb:b.f2.length≤1000000) (r:Bool) (hall:∀ x∈b.f2,okIn x (-600) 600=true)
  (hr:Ev (fun k=>tr_Sky.l0 k (wrap64 (i+1)) l p q n) r):∀ m j:Nat,j+m=b.f2.length →
  Ev (fun k=>tr_Sky.l1 k i (j:Int) l p q n b.f0.f0 b.f0.f1 b.f1 b.f2) r
 |0,j,h=>by
  refine Ev.step (fun k=>by rw [tr_Sky.l1]) ?_
  exact Ev.neg (by omega) hr
 |m+1,j,h=>by
  have hj:j<b.f2.length:=by omega
  refine Ev.step (fun k=>by rw [tr_Sky.l1]) ?_
  refine Ev.pos (by omega) (Ev.pos (by omega) ?_)
  refine Ev.bind (a:=true) (Ev.is (by rw [rin_eq,rd_get _ j hj,hall _ (List.getElem_mem hj)])) (Ev.pos rfl ?_)
  rw [wrap_id (by omega)]
  exact refroad_ok l p q n i b hb r hall hr m (j+1) (by omega)
theorem refroad_bad (l:List S83) (p q n:Int) (i:Int) (b:S83) (hb:b.f2.length≤1000000):∀ m j:Nat,j+m=b.f2.length→(b.f2.drop j).any (fun n=>!okIn n (-600) 600)=true →
  Ev (fun k=>tr_Sky.l1 k i (j:Int) l p q n b.f0.f0 b.f0.f1 b.f1 b.f2) false
 |0,j,h,hbad=>by
  rw [show j=b.f2.length by omega,List.drop_length] at hbad
  cases hbad
 |m+1,j,h,hbad=>by
  have hj:j<b.f2.length:=by omega
  rw [List.drop_eq_getElem_cons hj,List.any_cons] at hbad
  refine Ev.step (fun k=>by rw [tr_Sky.l1]) ?_
  refine Ev.pos (by omega) (Ev.pos (by omega) ?_)
  refine Ev.bind (Ev.is (by rw [rin_eq,rd_get _ j hj])) ?_
  cases hq:okIn b.f2[j] (-600) 600 with
  |false=>exact Ev.neg (by simp) (Ev.now _)
  |true=>
   rw [hq] at hbad
   refine Ev.pos rfl ?_
   rw [wrap_id (by omega)]
   exact refroad_bad l p q n i b hb m (j+1) (by omega) (by simpa using hbad)
theorem refSky_loop (l:List S83) (p q n:Int) (hl:l.length≤1000000):∀ m i:Nat,i+m=l.length →
  Ev (fun k=>tr_Sky.l0 k (i:Int) l p q n) ((l.drop i).all okBody && (okIn (l.length:Int) 2 4 && (okPeriod p q && okPlace n)))
 |0,i,h=>by
  rw [show i=l.length by omega,List.drop_length]
  refine Ev.step (fun k=>by rw [tr_Sky.l0]) ?_
  refine Ev.neg (by omega) (Ev.bind (Ev.is (rin_eq _ _ _)) ?_)
  cases h1:okIn (l.length:Int) 2 4 with
  |false=>exact Ev.neg (by simp) (Ev.now _)
  |true=>
   refine Ev.pos rfl (Ev.bind (Ev.is (period_eq _ _)) ?_)
   cases h2:okPeriod p q with
   |false=>exact Ev.neg (by simp) (Ev.now _)
   |true=>
    refine Ev.pos rfl (Ev.bind (Ev.is (Spot_eq _)) ?_)
    simp only [List.all_nil,Bool.true_and]
    exact Ev.now _
 |m+1,i,h=>by
  have hi:i<l.length:=by omega
  rw [List.drop_eq_getElem_cons hi,List.all_cons]
  have ih:=refSky_loop l p q n hl m (i+1) (by omega)
  refine Ev.step (fun k=>by rw [tr_Sky.l0]) ?_
  refine Ev.pos (by omega) (Ev.pos (by omega) ?_)
  rw [rdT_get l i hi]
  generalize l[i]=b
  have bad:∀ R:Bool,Ev (fun k=>tr_Sky.j1 k (i:Int) true l p q n b.f0.f0 b.f0.f1 b.f1 b.f2) (false && R):=fun R=>by
   refine Ev.step (fun k=>by rw [tr_Sky.j1]) ?_
   exact Ev.pos rfl (Ev.now _)
  unfold okBody
  refine Ev.bind (Ev.is (period_eq _ _)) ?_
  cases h1:okPeriod b.f0.f0 b.f0.f1 with
  |false=>exact Ev.neg (by simp) (bad _)
  |true=>
   refine Ev.pos rfl (Ev.bind (Ev.is (Spot_eq _)) ?_)
   cases h2:okPlace b.f1 with
   |false=>exact Ev.neg (by simp) (bad _)
   |true=>
    refine Ev.pos rfl (Ev.bind (Ev.is (rin_eq _ _ _)) ?_)
    cases h3:okIn (b.f2.length:Int) 1 8 with
    |false=>exact bad _
    |true=>
     have hbl:b.f2.length≤1000000:=by simp [okIn] at h3;omega
     refine Ev.step (fun k=>by rw [tr_Sky.j1]) ?_
     refine Ev.neg (by simp) ?_
     cases h4:okRoad b.f2 with
     |false=>exact refroad_bad l p q n i b hbl b.f2.length 0 (by omega) (by simpa [okRoad] using h4)
     |true=>
      simp only [Bool.true_and]
      have h5:∀ x∈b.f2,okIn x (-600) 600=true:=by
       intro x hx
       unfold okRoad at h4
       cases hq:okIn x (-600) 600 with
       |true=>rfl
       |false=>
        have:b.f2.any (fun n=>!okIn n (-600) 600)=true:=List.any_eq_true.mpr ⟨x,hx,by simp [hq]⟩
        rw [this] at h4
        cases h4
      refine refroad_ok l p q n i b hbl _ h5 ?_ b.f2.length 0 (by omega)
      rw [wrap_id (by omega)]
      exact ih
theorem any_all (f:S83→Bool) (l:List S83):(!l.any (fun b=>!f b))=l.all f:=by
 induction l with
 |nil=>rfl
 |cons b t ih=>simp [ih]
theorem refSky_ev (l:List S83) (p q n:Int) (hl:l.length≤1000000):Ev (fun k=>tr_Sky.f k l p q n) (okSky l p q n):=by
 have h:=refSky_loop l p q n hl l.length 0 (by omega)
 rw [List.drop_zero] at h
 have e:okSky l p q n=(l.all okBody && (okIn (l.length:Int) 2 4 && (okPeriod p q && okPlace n))):=by
  unfold okSky
  rw [any_all]
  cases l.all okBody <;> cases okIn (l.length:Int) 2 4 <;> cases okPeriod p q <;> cases okPlace n <;> rfl
 rw [e]
 exact h
theorem short_ev (l:List S83) (p q n:Int):∃ b,Ev (fun k=>tl_short.f k l p q n) b∧(b=true→l.length≤6):=by
 have key:∀ m i:Nat,i+m=7→∃ b,Ev (fun k=>tl_short.l0 k (i:Int) l p q n) b∧(b=true→l.length≤6):=by
  intro m
  induction m with
  |zero=>
   intro i h
   have fin:∀ c:Bool,c=false→Ev (fun k=>tl_short.j1 k (i:Int) c l p q n) (decide ((l.length:Int)≤6)):=fun c hc=>by
    refine Ev.step (fun k=>by rw [tl_short.j1]) ?_
    exact Ev.neg (by simp [hc]) (Ev.now _)
   refine ⟨decide ((l.length:Int)≤6),?_,fun h=>by have:=of_decide_eq_true h;omega⟩
   refine Ev.step (fun k=>by rw [tl_short.l0]) ?_
   by_cases hi:(i:Int)<(l.length:Int)
   ·exact Ev.pos hi (fin _ (decide_eq_false (by omega)))
   ·exact Ev.neg hi (fin _ rfl)
  |succ m ih=>
   intro i h
   by_cases hi:(i:Int)<(l.length:Int)
   ·by_cases hr:((rd_T83 l (i:Int)).f2.length:Int) > 10
    ·refine ⟨false,?_,fun h=>by cases h⟩
     refine Ev.step (fun k=>by rw [tl_short.l0]) (Ev.pos hi ?_)
     refine Ev.step (fun k=>by rw [tl_short.j1]) (Ev.pos (by simp;omega) ?_)
     exact Ev.pos (by omega) (Ev.pos hi (Ev.pos hr (Ev.now _)))
    ·obtain ⟨b,hb,hb6⟩:=ih (i+1) (by omega)
     refine ⟨b,?_,hb6⟩
     refine Ev.step (fun k=>by rw [tl_short.l0]) (Ev.pos hi ?_)
     refine Ev.step (fun k=>by rw [tl_short.j1]) (Ev.pos (by simp;omega) ?_)
     refine Ev.pos (by omega) (Ev.pos hi (Ev.neg hr ?_))
     rw [wrap_id (by omega)]
     exact hb
   ·refine ⟨decide ((l.length:Int)≤6),?_,fun h=>by have:=of_decide_eq_true h;omega⟩
    refine Ev.step (fun k=>by rw [tl_short.l0]) (Ev.neg hi ?_)
    refine Ev.step (fun k=>by rw [tl_short.j1]) ?_
    exact Ev.neg (by simp) (Ev.now _)
 unfold tl_short.f
 exact key 7 0 rfl
def okSpan (a b:Int):Bool:=okIn a 1 20000 && (okIn b a 20000 && decide (b - a≤800))
theorem isSpan_eq (a b:Int):sky_isSpan.f a b=some (okSpan a b):=by
 unfold sky_isSpan.f okSpan
 rw [in_eq,Option.bind_some]
 cases h1:okIn a 1 20000 with
 |false=>rfl
 |true=>
  rw [in_eq]
  cases h2:okIn b a 20000 with
  |false=>rfl
  |true=>
   have hq:wrap64 (b - a)=b - a:=wrap_id (by simp [okIn] at h1 h2;omega)
   rw [hq]
   rfl
end Go.Proofs.YtaidphhkhddemaaGreatDoor.PSky
end
section
namespace Go.Proofs.YtaidphhkhddemaaGreatDoor.PSky
open Go.RowKit Go.Proofs.YtaidphhkhddemaaGreatDoorW.PrintWords Go.Proofs.YtaidphhkhddemaaGreatDoorW.PrintLast Go.Proofs.YtaidphhkhddemaaGreatDoorW.PrintMore
theorem tquot {a b:Int} (hb:0<b):(Int.tmod a b<0→a / b=Int.tdiv a b - 1∧a % b=Int.tmod a b+b)∧(0≤Int.tmod a b→a / b=Int.tdiv a b∧a % b=Int.tmod a b):=by
 have h1:=Int.tmod_add_mul_tdiv a b
 have h2:=Int.tmod_lt_of_pos a hb
 have h3:=Int.lt_tmod_of_pos a hb
 refine ⟨fun h=>?_,fun h=>?_⟩
 ·exact (Int.ediv_emod_unique hb).mpr ⟨by rw [Int.mul_sub,Int.mul_one];omega,by omega,by omega⟩
 ·exact (Int.ediv_emod_unique hb).mpr ⟨by omega,h,h2⟩
theorem tdiv_le {a b:Int} (hb:0<b) {m:Int} (ha:-m≤a∧a≤m) (hm:0≤m):-m - 1≤a / b∧a / b≤m:=by
 constructor
 ·have:(-m - 1)≤a / b:=by
   rw [Int.le_ediv_iff_mul_le hb]
   have:=Int.mul_le_mul_of_nonneg_left (show (1:Int)≤b by omega) (show (0:Int)≤m+1 by omega)
   have e:(-m - 1)*b = -((m+1)*b):=by rw [← Int.neg_mul];congr 1;omega
   omega
  exact this
 ·have:a / b≤m:=by
   have h1:a / b*b≤a:=Int.ediv_mul_le a (by omega)
   rcases Int.lt_or_le (a / b) 0 with h|h
   ·omega
   ·have:=Int.mul_le_mul_of_nonneg_left (show (1:Int)≤b by omega) h
    omega
  exact this
theorem floor_eq {a b:Int} (hb:0<b) (hb2:b≤1000000000000) (ha:-1000000000000000000≤a∧a≤1000000000000000000):sky_floor.f a b=some (a / b,a % b):=by
 have q:=tdiv_le hb ha (by decide)
 have m0:=Int.emod_nonneg a (show b≠0 by omega)
 have m1:=Int.emod_lt_of_pos a hb
 unfold sky_floor.f
 rw [if_neg (by omega)]
 by_cases h:Int.tmod a b<0
 ·obtain ⟨e1,e2⟩:=(tquot (a:=a) hb).1 h
  rw [if_pos h,e1,e2]
  rw [e1] at q
  rw [e2] at m0 m1
  rw [wrap_id (show -9223372036854775808≤a.tdiv b∧a.tdiv b≤9223372036854775807 by omega),wrap_id (by omega),wrap_id (by omega)]
 ·obtain ⟨e1,e2⟩:=(tquot (a:=a) hb).2 (by omega)
  rw [if_neg h,e1,e2]
  rw [e1] at q
  rw [wrap_id (show -9223372036854775808≤a.tdiv b∧a.tdiv b≤9223372036854775807 by omega)]
theorem around_eq {a:Int} (ha:-1000000000000000000≤a∧a≤1000000000000000000):sky_around.f a=some (a % 21600):=by
 unfold sky_around.f
 rw [floor_eq (by decide) (by decide) ha]
 rfl
theorem down_eq {a b:Int} (hb:0<b) (hb2:b≤1000000) (ha:-1000000000000≤a∧a≤1000000000000):tr_down.f a b=some (a / b):=by
 have q:=tdiv_le hb ha (by decide)
 have h0:=Int.tmod_add_mul_tdiv a b
 have h2:=Int.tmod_lt_of_pos a hb
 have h3:=Int.lt_tmod_of_pos a hb
 have e0:a.tdiv b*b=b*a.tdiv b:=Int.mul_comm _ _
 unfold tr_down.f
 rw [if_neg (by omega)]
 by_cases h:Int.tmod a b<0
 ·obtain ⟨e1,e2⟩:=(tquot (a:=a) hb).1 h
  rw [e1] at q ⊢
  rw [wrap_id (show -9223372036854775808≤a.tdiv b∧a.tdiv b≤9223372036854775807 by omega),wrap_id (show -9223372036854775808≤a.tdiv b*b∧a.tdiv b*b≤9223372036854775807 by omega),if_pos (by omega),wrap_id (by omega)]
 ·obtain ⟨e1,e2⟩:=(tquot (a:=a) hb).2 (by omega)
  rw [e1] at q ⊢
  rw [wrap_id (show -9223372036854775808≤a.tdiv b∧a.tdiv b≤9223372036854775807 by omega),wrap_id (show -9223372036854775808≤a.tdiv b*b∧a.tdiv b*b≤9223372036854775807 by omega),if_neg (by omega)]
theorem Less_eq {a:Int} (ha:-1000000000000≤a∧a≤1000000000000):tr_Less.f a=some (a % 21600):=by
 unfold tr_Less.f
 rw [down_eq (by decide) (by decide) ha,Option.bind_some]
 have h1:=Int.emod_add_mul_ediv a 21600
 have h2:=Int.emod_nonneg a (show (21600:Int)≠0 by decide)
 have h3:=Int.emod_lt_of_pos a (show (0:Int)<21600 by decide)
 rw [wrap_id (show -9223372036854775808≤a / 21600*21600∧a / 21600*21600≤9223372036854775807 by omega),wrap_id (by omega)]
 congr 1
 omega
def goneOf (p q d:Int):Int:=d*21600*q / p
def meanOf (b:S83) (d:Int):Int:=b.f1+goneOf b.f0.f0 b.f0.f1 d
def stepOf (b:S83) (d:Int):Int:=(meanOf b d % 21600)*(b.f2.length:Int)
def wayOf (b:S83) (d:Int):Int:=
 meanOf b d+rd b.f2 (stepOf b d / 21600)+(rd b.f2 ((stepOf b d / 21600+1) % (b.f2.length:Int)) - rd b.f2 (stepOf b d / 21600))*(stepOf b d % 21600) / 21600
theorem okIn_iff {a b c:Int}:okIn a b c=true ↔ b≤a∧a≤c:=by simp [okIn]
theorem period_of {p q:Int} (h:okPeriod p q=true):1≤p∧p≤10000∧1≤q∧q≤10000∧4*q≤p:=by
 simp only [okPeriod,Bool.and_eq_true,okIn_iff,decide_eq_true_eq] at h
 omega
theorem gone_bounds {p q d:Int} (h:okPeriod p q=true) (hd:0≤d∧d≤20000):0≤goneOf p q d∧goneOf p q d≤108000000∧0≤d*21600*q∧d*21600*q≤4320000000000:=by
 have hp:=period_of h
 have h1:d*21600*q=d*q*21600:=by rw [Int.mul_assoc,Int.mul_comm 21600 q,← Int.mul_assoc]
 have h0:0≤d*q:=Int.mul_nonneg hd.1 (by omega)
 have h2:d*q≤20000*q:=Int.mul_le_mul_of_nonneg_right hd.2 (by omega)
 refine ⟨Int.ediv_nonneg (by omega) (by omega),?_,by omega,by omega⟩
 unfold goneOf
 have h3:d*21600*q / p*p≤d*21600*q:=Int.ediv_mul_le _ (by omega)
 rcases Int.lt_or_le (d*21600*q / p) 108000001 with h4|h4
 ·omega
 ·have h5:=Int.mul_le_mul h4 (show 4*q≤p by omega) (by omega) (by omega)
  have h6:108000001*(4*q)=432000004*q:=by omega
  omega
theorem mean_bounds {b:S83} {d:Int} (h:okBody b=true) (hd:0≤d∧d≤20000):0≤meanOf b d∧meanOf b d≤108021599:=by
 simp only [okBody,Bool.and_eq_true,okPlace,okIn_iff] at h
 have:=gone_bounds h.1 hd
 unfold meanOf
 omega
theorem road_bounds {b:S83} (h:okBody b=true) (i:Int):-600≤rd b.f2 i∧rd b.f2 i≤600:=by
 simp only [okBody,Bool.and_eq_true] at h
 have h4:=h.2.2.2
 unfold rd
 rw [List.getD_eq_getElem?_getD]
 cases hq:b.f2[i.toNat]? with
 |none=>decide
 |some x=>
  have hx:=List.mem_of_getElem? hq
  have:okIn x (-600) 600=true:=by
   cases h5:okIn x (-600) 600 with
   |true=>rfl
   |false=>
    unfold okRoad at h4
    rw [List.any_eq_true.mpr ⟨x,hx,by simp [h5]⟩] at h4
    cases h4
  exact okIn_iff.mp this
theorem body_len {b:S83} (h:okBody b=true):1≤b.f2.length∧b.f2.length≤8:=by
 simp only [okBody,Bool.and_eq_true,okIn_iff] at h
 omega
theorem step_bounds {b:S83} {d:Int} (h:okBody b=true):0≤stepOf b d∧stepOf b d≤172800∧0≤stepOf b d / 21600∧stepOf b d / 21600<(b.f2.length:Int):=by
 have hl:=body_len h
 have h2:=Int.emod_nonneg (meanOf b d) (show (21600:Int)≠0 by decide)
 have h3:=Int.emod_lt_of_pos (meanOf b d) (show (0:Int)<21600 by decide)
 unfold stepOf
 generalize meanOf b d % 21600=x at h2 h3 ⊢
 have h4:0≤x*(b.f2.length:Int):=Int.mul_nonneg h2 (by omega)
 have h5:x*(b.f2.length:Int)≤21599*(b.f2.length:Int):=Int.mul_le_mul_of_nonneg_right (by omega) (by omega)
 refine ⟨h4,by omega,by omega,by omega⟩
theorem gone_eq (l:List S83) (a1 a2 a3:Int) {p q d:Int} (h:okPeriod p q=true) (hd:0≤d∧d≤20000):ss_gone.f l a1 a2 a3 d p q=some (goneOf p q d):=by
 have hg:=gone_bounds h hd
 have hp:=period_of h
 unfold ss_gone.f
 rw [wrap_id (show -9223372036854775808≤d*21600∧d*21600≤9223372036854775807 by omega),wrap_id (by omega),floor_eq (by omega) (by omega) (by omega)]
 rfl
theorem sum2_ev (a b:Int) (h:-1000000000≤a∧a≤1000000000) (h':-1000000000≤b∧b≤1000000000):Ev (fun k=>sky_sum.f k [a,b]) (a+b):=by
 unfold sky_sum.f
 rw [show (([a,b].length:Nat):Int)=2 from rfl]
 have w1:wrap64 (0+1)=1:=by kernel_rfl
 have w2:wrap64 (1+1)=2:=by kernel_rfl
 refine Ev.step (fun k=>by rw [sky_sum.l0]) ?_
 refine Ev.pos (by decide) (Ev.pos (by decide) (Ev.pos (by show (0:Int)<2;decide) ?_))
 rw [w1]
 refine Ev.step (fun k=>by rw [sky_sum.l0]) ?_
 refine Ev.pos (by decide) (Ev.pos (by decide) (Ev.pos (by show (1:Int)<2;decide) ?_))
 rw [w2]
 refine Ev.step (fun k=>by rw [sky_sum.l0]) ?_
 refine Ev.neg (by decide) ?_
 rw [show rd [a,b] 0=a from rfl,show rd [a,b] 1=b from rfl,wrap_id (show -9223372036854775808≤0+a∧0+a≤9223372036854775807 by omega),wrap_id (by omega),Int.zero_add]
 exact Ev.now _
theorem sum3_ev (a b c:Int) (h:-1000000000≤a∧a≤1000000000) (h':-1000000000≤b∧b≤1000000000) (h'':-1000000000≤c∧c≤1000000000):Ev (fun k=>sky_sum.f k [a,b,c]) (a+b+c):=by
 unfold sky_sum.f
 rw [show (([a,b,c].length:Nat):Int)=3 from rfl]
 have w1:wrap64 (0+1)=1:=by kernel_rfl
 have w2:wrap64 (1+1)=2:=by kernel_rfl
 have w3:wrap64 (2+1)=3:=by kernel_rfl
 refine Ev.step (fun k=>by rw [sky_sum.l0]) ?_
 refine Ev.pos (by decide) (Ev.pos (by decide) (Ev.pos (by show (0:Int)<3;decide) ?_))
 rw [w1]
 refine Ev.step (fun k=>by rw [sky_sum.l0]) ?_
 refine Ev.pos (by decide) (Ev.pos (by decide) (Ev.pos (by show (1:Int)<3;decide) ?_))
 rw [w2]
 refine Ev.step (fun k=>by rw [sky_sum.l0]) ?_
 refine Ev.pos (by decide) (Ev.pos (by decide) (Ev.pos (by show (2:Int)<3;decide) ?_))
 rw [w3]
 refine Ev.step (fun k=>by rw [sky_sum.l0]) ?_
 refine Ev.neg (by decide) ?_
 rw [show rd [a,b,c] 0=a from rfl,show rd [a,b,c] 1=b from rfl,show rd [a,b,c] 2=c from rfl,wrap_id (show -9223372036854775808≤0+a∧0+a≤9223372036854775807 by omega),wrap_id (show -9223372036854775808≤0+a+b∧0+a+b≤9223372036854775807 by omega),wrap_id (by omega),Int.zero_add]
 exact Ev.now _
theorem mean_ev (l:List S83) (a1 a2 a3 d:Int) (i:Nat) (hi:i<l.length) (h:okBody l[i]=true) (hd:0≤d∧d≤20000):Ev (fun k=>ss_mean.f k l a1 a2 a3 d (i:Int)) (meanOf l[i] d):=by
 unfold ss_mean.f
 refine Ev.pos (by omega) (Ev.pos (by omega) ?_)
 rw [rdT_get l i hi]
 generalize l[i]=b at h
 have hp:okPeriod b.f0.f0 b.f0.f1=true:=by simp only [okBody,Bool.and_eq_true] at h;exact h.1
 have hs:0≤b.f1∧b.f1≤21599:=by simp only [okBody,Bool.and_eq_true,okPlace,okIn_iff] at h;exact h.2.1
 have hg:=gone_bounds hp hd
 refine Ev.bind (Ev.is (gone_eq l a1 a2 a3 hp hd)) (Ev.bind (sum2_ev _ _ (by omega) (by omega)) (Ev.now _))
theorem way_ev (l:List S83) (a1 a2 a3 d:Int) (i:Nat) (hi:i<l.length) (h:okBody l[i]=true) (hd:0≤d∧d≤20000):Ev (fun k=>ss_way.f k l a1 a2 a3 d (i:Int)) (wayOf l[i] d):=by
 have hm:=mean_ev l a1 a2 a3 d i hi h hd
 unfold ss_way.f
 refine Ev.pos (by omega) (Ev.pos (by omega) (Ev.bind hm ?_))
 rw [rdT_get l i hi]
 generalize l[i]=b at h
 have hmb:=mean_bounds h hd
 have hl:=body_len h
 have hs:=step_bounds (d:=d) h
 refine Ev.bind (Ev.is (around_eq (by omega))) ?_
 rw [show meanOf b d % 21600*(b.f2.length:Int)=stepOf b d from rfl,wrap_id (show -9223372036854775808≤stepOf b d∧stepOf b d≤9223372036854775807 by omega)]
 refine Ev.bind (Ev.is (floor_eq (by decide) (by decide) (by omega))) ?_
 simp only
 rw [wrap_id (show -9223372036854775808≤stepOf b d / 21600+1∧stepOf b d / 21600+1≤9223372036854775807 by omega)]
 have ht:Int.tmod (stepOf b d / 21600+1) (b.f2.length:Int)=(stepOf b d / 21600+1) % (b.f2.length:Int):=Int.tmod_eq_emod_of_nonneg (by omega)
 rw [ht]
 have h2:=Int.emod_nonneg (stepOf b d / 21600+1) (show (b.f2.length:Int)≠0 by omega)
 have h3:=Int.emod_lt_of_pos (stepOf b d / 21600+1) (show (0:Int)<(b.f2.length:Int) by omega)
 refine Ev.neg (by omega) (Ev.pos h2 (Ev.pos h3 (Ev.pos hs.2.2.1 (Ev.pos hs.2.2.2 ?_))))
 have r1:=road_bounds h (stepOf b d / 21600)
 have r2:=road_bounds h ((stepOf b d / 21600+1) % (b.f2.length:Int))
 have p0:=Int.emod_nonneg (stepOf b d) (show (21600:Int)≠0 by decide)
 have p1:=Int.emod_lt_of_pos (stepOf b d) (show (0:Int)<21600 by decide)
 unfold wayOf
 generalize rd b.f2 (stepOf b d / 21600)=x at r1 ⊢
 generalize rd b.f2 ((stepOf b d / 21600+1) % (b.f2.length:Int))=y at r2 ⊢
 generalize stepOf b d % 21600=z at p0 p1 ⊢
 have q:-25920000≤(y - x)*z∧(y - x)*z≤25920000:=by
  constructor
  ·have:=Int.mul_le_mul_of_nonneg_right (show -1200≤y - x by omega) p0
   omega
  ·have:=Int.mul_le_mul_of_nonneg_right (show y - x≤1200 by omega) p0
   omega
 rw [wrap_id (show -9223372036854775808≤y - x∧y - x≤9223372036854775807 by omega),wrap_id (show -9223372036854775808≤(y - x)*z∧(y - x)*z≤9223372036854775807 by omega)]
 refine Ev.bind (Ev.is (floor_eq (by decide) (by decide) (by omega))) (Ev.bind (sum3_ev _ _ _ (by omega) (by omega) (by simp only;omega)) (Ev.now _))
theorem way_bounds {b:S83} {d:Int} (h:okBody b=true) (hd:0≤d∧d≤20000):-2000≤wayOf b d∧wayOf b d≤108030000:=by
 have hmb:=mean_bounds h hd
 have r1:=road_bounds h (stepOf b d / 21600)
 have r2:=road_bounds h ((stepOf b d / 21600+1) % (b.f2.length:Int))
 have p0:=Int.emod_nonneg (stepOf b d) (show (21600:Int)≠0 by decide)
 have p1:=Int.emod_lt_of_pos (stepOf b d) (show (0:Int)<21600 by decide)
 unfold wayOf
 generalize rd b.f2 (stepOf b d / 21600)=x at r1 ⊢
 generalize rd b.f2 ((stepOf b d / 21600+1) % (b.f2.length:Int))=y at r2 ⊢
 generalize stepOf b d % 21600=z at p0 p1 ⊢
 have q:-25920000≤(y - x)*z∧(y - x)*z≤25920000:=by
  constructor
  ·have:=Int.mul_le_mul_of_nonneg_right (show -1200≤y - x by omega) p0
   omega
  ·have:=Int.mul_le_mul_of_nonneg_right (show y - x≤1200 by omega) p0
   omega
 omega
end Go.Proofs.YtaidphhkhddemaaGreatDoor.PSky
end
section
namespace Go.Proofs.YtaidphhkhddemaaGreatDoor.PSky
open Go.RowKit Go.Proofs.YtaidphhkhddemaaGreatDoorW.PrintWords Go.Proofs.YtaidphhkhddemaaGreatDoorW.PrintLast Go.Proofs.YtaidphhkhddemaaGreatDoorW.PrintMore
def aheadOf (l:List S83) (i j:Nat) (d:Int):Int:=wayOf (rd_T83 l (i:Int)) d - wayOf (rd_T83 l (j:Int)) d
theorem ok_at {l:List S83} {p q n:Int} (h:okSky l p q n=true):2≤l.length∧l.length≤4∧okPeriod p q=true∧okPlace n=true∧∀ i:Nat,i<l.length→okBody (rd_T83 l (i:Int))=true:=by
 simp only [okSky,Bool.and_eq_true,okIn_iff] at h
 refine ⟨by omega,by omega,h.2.1,h.2.2.1,fun i hi=>?_⟩
 have h4:=h.2.2.2
 rw [any_all] at h4
 rw [rdT_get l i hi]
 exact List.all_eq_true.mp h4 _ (List.getElem_mem hi)
theorem wayT_ev {l:List S83} {p q n:Int} (h:okSky l p q n=true) (i:Nat) (hi:i<l.length) {d:Int} (hd:0≤d∧d≤20000):Ev (fun k=>ss_way.f k l p q n d (i:Int)) (wayOf (rd_T83 l (i:Int)) d):=by
 have hb:=(ok_at h).2.2.2.2 i hi
 rw [rdT_get l i hi] at hb ⊢
 exact way_ev l p q n d i hi hb hd
theorem lunar_ev {l:List S83} {p q n:Int} (h:okSky l p q n=true) {d:Int} (hd:0≤d∧d≤20000):Ev (fun k=>ss_lunar.f k l p q n d) (aheadOf l 1 0 d):=by
 obtain ⟨h2,-,-,-,hb⟩:=ok_at h
 have b1:=way_bounds (hb 1 (by omega)) hd
 have b2:=way_bounds (hb 0 (by omega)) hd
 unfold ss_lunar.f aheadOf
 refine Ev.bind (a:=wayOf (rd_T83 l ((0:Nat):Int)) d) ?_ (Ev.bind (a:=wayOf (rd_T83 l ((1:Nat):Int)) d) ?_ ?_)
 ·unfold ss_sun.f
  exact Ev.bind (wayT_ev h 0 (by omega) hd) (Ev.now _)
 ·unfold ss_moon.f
  exact Ev.bind (wayT_ev h 1 (by omega) hd) (Ev.now _)
 ·rw [wrap_id (by omega)]
  exact Ev.now _
theorem ahead_bounds {l:List S83} {p q n:Int} (h:okSky l p q n=true) (i j:Nat) (hi:i<l.length) (hj:j<l.length) {d:Int} (hd:0≤d∧d≤20000):-200000000≤aheadOf l i j d∧aheadOf l i j d≤200000000:=by
 obtain ⟨-,-,-,-,hb⟩:=ok_at h
 have b1:=way_bounds (hb i hi) hd
 have b2:=way_bounds (hb j hj) hd
 unfold aheadOf
 omega
theorem passes_eq {a b:Int} (ha:-1000000000≤a∧a≤1000000000) (hb:-1000000000≤b∧b≤1000000000):sky_passes.f a b=some (decide (b / 21600 > a / 21600)):=by
 unfold sky_passes.f
 rw [floor_eq (by decide) (by decide) (by omega),Option.bind_some,floor_eq (by decide) (by decide) (by omega),Option.bind_some]
def isMoon (l:List S83) (half d:Int):Bool:=decide ((aheadOf l 1 0 d - half) / 21600 > (aheadOf l 1 0 (d - 1) - half) / 21600)
theorem new_ev {l:List S83} {p q n:Int} (h:okSky l p q n=true) {d:Int} (hd:1≤d∧d≤20000):Ev (fun k=>at_has_new.f k l p q n d) (isMoon l 0 d):=by
 have h2:=(ok_at h).1
 have b1:=ahead_bounds h 1 0 (by omega) (by omega) (d:=d) (by omega)
 have b2:=ahead_bounds h 1 0 (by omega) (by omega) (d:=d - 1) (by omega)
 unfold at_has_new.f isMoon
 rw [wrap_id (show -9223372036854775808≤d - 1∧d - 1≤9223372036854775807 by omega)]
 refine Ev.bind (lunar_ev h (by omega)) (Ev.bind (lunar_ev h (by omega)) (Ev.bind (Ev.is (passes_eq (by omega) (by omega))) ?_))
 simp only [Int.sub_zero]
 exact Ev.now _
theorem full_ev {l:List S83} {p q n:Int} (h:okSky l p q n=true) {d:Int} (hd:1≤d∧d≤20000):Ev (fun k=>at_has_full.f k l p q n d) (isMoon l 10800 d):=by
 have h2:=(ok_at h).1
 have b1:=ahead_bounds h 1 0 (by omega) (by omega) (d:=d) (by omega)
 have b2:=ahead_bounds h 1 0 (by omega) (by omega) (d:=d - 1) (by omega)
 unfold at_has_full.f isMoon
 rw [wrap_id (show -9223372036854775808≤d - 1∧d - 1≤9223372036854775807 by omega)]
 refine Ev.bind (lunar_ev h (by omega)) (Ev.bind (lunar_ev h (by omega)) ?_)
 rw [wrap_id (show -9223372036854775808≤aheadOf l 1 0 (d - 1) - 10800∧aheadOf l 1 0 (d - 1) - 10800≤9223372036854775807 by omega),wrap_id (show -9223372036854775808≤aheadOf l 1 0 d - 10800∧aheadOf l 1 0 d - 10800≤9223372036854775807 by omega)]
 exact Ev.bind (Ev.is (passes_eq (by omega) (by omega))) (Ev.now _)
def moonOn (l:List S83) (d:Int):List S51:=(if isMoon l 0 d=true then [⟨d,false⟩] else []) ++ (if isMoon l 10800 d=true then [⟨d,true⟩] else [])
theorem Ev.all {α β:Type} (g:α→Nat→Option β) (r:α→β):∀ l:List α,(∀ d∈l,Ev (g d) (r d))→∃ K,∀ k,K≤k→∀ d∈l,g d k=Option.some (r d)
 |[],_=>⟨0,fun _ _ d h=>by cases h⟩
 |x :: t,h=>by
  obtain ⟨K1,h1⟩:=h x (List.mem_cons_self ..)
  obtain ⟨K2,h2⟩:=Ev.all g r t (fun d hd=>h d (List.mem_cons_of_mem _ hd))
  refine ⟨max K1 K2,fun k hk d hd=>?_⟩
  rcases List.mem_cons.mp hd with rfl|hd
  ·exact h1 k (by omega)
  ·exact h2 k (by omega) d hd
theorem span_of {a b:Int} (h:okSpan a b=true):1≤a∧a≤b∧b≤20000∧b - a≤800:=by
 simp only [okSpan,Bool.and_eq_true,okIn_iff,decide_eq_true_eq] at h
 omega
theorem moons_ev {l:List S83} {p q n:Int} (h:okSky l p q n=true) {lo hi:Int} (hs:okSpan lo hi=true):Ev (fun k=>sky_moons.f k l p q n lo hi) ((daysOf lo hi).flatMap (moonOn l)):=by
 have hsp:=span_of hs
 have hday:∀ d∈daysOf lo hi,1≤d∧d≤20000:=by
  intro d hd
  unfold daysOf at hd
  obtain ⟨j,hj,rfl⟩:=List.mem_map.mp hd
  have:=List.mem_range.mp hj
  omega
 obtain ⟨K1,h1⟩:=Ev.all (fun d k=>at_has_new.f k l p q n d) (fun d=>isMoon l 0 d) (daysOf lo hi) (fun d hd=>new_ev h (hday d hd))
 obtain ⟨K2,h2⟩:=Ev.all (fun d k=>at_has_full.f k l p q n d) (fun d=>isMoon l 10800 d) (daysOf lo hi) (fun d hd=>full_ev h (hday d hd))
 refine ⟨max K1 K2,fun k hk=>?_⟩
 show sky_moons.f k l p q n lo hi=_
 unfold sky_moons.f
 rw [if_pos ⟨by omega,by omega,by omega,fun d hd=>⟨by rw [h1 k (by omega) d hd];rfl,by rw [h2 k (by omega) d hd];rfl⟩⟩]
 congr 1
 rw [List.flatMap_def,List.flatMap_def]
 congr 1
 refine List.map_congr_left fun d hd=>?_
 unfold moonsAt moonOn
 rw [h1 k (by omega) d hd,h2 k (by omega) d hd]
 simp only [Option.some.injEq]
theorem moonOn_length (l:List S83) (d:Int):(moonOn l d).length≤2:=by
 unfold moonOn
 split <;> split <;> simp
end Go.Proofs.YtaidphhkhddemaaGreatDoor.PSky
end
section
namespace Go.Proofs.YtaidphhkhddemaaGreatDoor.PSky
open Go.RowKit Go.Proofs.YtaidphhkhddemaaGreatDoorW.PrintWords Go.Proofs.YtaidphhkhddemaaGreatDoorW.PrintLast Go.Proofs.YtaidphhkhddemaaGreatDoorW.PrintMore
theorem known_ev:Ev (fun _=>tl_known.f.bind fun t=>some t) true:=Ev.now true
theorem Span_eq (a b:Int):tr_Span.f a b=some (okSpan a b):=isSpan_eq a b
theorem Moons_ev (l:List S83) (p q n a b:Int):Ev (fun k=>sky_Moons.f k l p q n a b) (if okSky l p q n=true∧okSpan a b=true then ((daysOf a b).flatMap (moonOn l),0) else ([],2)):=by
 unfold sky_Moons.f
 refine Ev.bind (isSky_ev l p q n) ?_
 cases h1:okSky l p q n with
 |false=>
  refine Ev.neg (by simp) ?_
  rw [if_neg (by simp)]
  exact Ev.now _
 |true=>
  refine Ev.pos rfl (Ev.bind (Ev.is (isSpan_eq a b)) ?_)
  cases h2:okSpan a b with
  |false=>
   refine Ev.neg (by simp) ?_
   rw [if_neg (by simp)]
   exact Ev.now _
  |true=>
   rw [if_pos ⟨rfl,rfl⟩]
   exact Ev.pos rfl (Ev.bind (moons_ev h1 h2) (Ev.now _))
theorem flat_length {l:List S83}:∀ ds:List Int,(ds.flatMap (moonOn l)).length≤2*ds.length
 |[]=>by simp
 |d :: ds=>by
  have:=moonOn_length l d
  have:=flat_length (l:=l) ds
  simp only [List.flatMap_cons,List.length_append,List.length_cons]
  omega
end Go.Proofs.YtaidphhkhddemaaGreatDoor.PSky
end
section
namespace Go.Proofs.YtaidphhkhddemaaGreatDoor.PSky
open Go.RowKit Go.Proofs.YtaidphhkhddemaaGreatDoorW.PrintWords Go.Proofs.YtaidphhkhddemaaGreatDoorW.PrintLast Go.Proofs.YtaidphhkhddemaaGreatDoorW.PrintMore
def nodeOf (p q n d:Int):Int:=(n - goneOf p q d) % 21600
def farOf (l:List S83) (p q n d:Int):Int:=mn ((wayOf (rd_T83 l ((1:Nat):Int)) d - nodeOf p q n d) % 10800) (10800 - (wayOf (rd_T83 l ((1:Nat):Int)) d - nodeOf p q n d) % 10800)
theorem place_of {n:Int} (h:okPlace n=true):0≤n∧n≤21599:=by simp only [okPlace,okIn_iff] at h;exact h
theorem node_eq {l:List S83} {p q n:Int} (hp:okPeriod p q=true) (hn:okPlace n=true) {d:Int} (hd:0≤d∧d≤20000):ss_node.f l p q n d=some (nodeOf p q n d):=by
 have hg:=gone_bounds hp hd
 have hs:=place_of hn
 unfold ss_node.f nodeOf
 rw [gone_eq l p q n hp hd,Option.bind_some,wrap_id (by omega),around_eq (by omega)]
 rfl
theorem node_bounds (p q n d:Int):0≤nodeOf p q n d∧nodeOf p q n d<21600:=⟨Int.emod_nonneg _ (by decide),Int.emod_lt_of_pos _ (by decide)⟩
theorem far_ev {l:List S83} {p q n:Int} (h:okSky l p q n=true) {d:Int} (hd:0≤d∧d≤20000):Ev (fun k=>ss_far.f k l p q n d) (farOf l p q n d):=by
 obtain ⟨h2,-,hp,hn,hb⟩:=ok_at h
 have b1:=way_bounds (hb 1 (by omega)) hd
 have b2:=node_bounds p q n d
 unfold ss_far.f farOf
 refine Ev.bind (a:=wayOf (rd_T83 l ((1:Nat):Int)) d) ?_ (Ev.bind (Ev.is (node_eq hp hn hd)) ?_)
 ·unfold ss_moon.f
  exact Ev.bind (wayT_ev h 1 (by omega) hd) (Ev.now _)
 ·generalize wayOf (rd_T83 l ((1:Nat):Int)) d=x at b1 ⊢
  generalize nodeOf p q n d=y at b2 ⊢
  rw [wrap_id (show -9223372036854775808≤x - y∧x - y≤9223372036854775807 by omega)]
  refine Ev.bind (Ev.is (floor_eq (by decide) (by decide) (by omega))) ?_
  rw [wrap_id (by simp only;omega)]
  exact Ev.now _
def eclOf (l:List S83) (p q n new full:Int) (m:S51):List S54:=if farOf l p q n m.f0≤(if m.f1=true then full else new) then [⟨m.f0,m.f1,farOf l p q n m.f0⟩] else []
theorem rdM_get (l:List S51) (i:Nat) (h:i<l.length):rd_T51 l (i:Int)=l[i]:=by unfold rd_T51;simp [h]
theorem ecl_loop {l:List S83} {p q n:Int} (h:okSky l p q n=true) (new full:Int) (ms:List S51) (hl:ms.length≤1000000) (hd:∀ m∈ms,0≤m.f0∧m.f0≤20000):∀ (m i:Nat) (acc:List S54),i+m=ms.length→acc.length≤i →
  Ev (fun k=>sky_Eclipses.l0 k new full acc ms (ms.length:Int) (i:Int) l p q n) (acc ++ (ms.drop i).flatMap (eclOf l p q n new full),0)
 |0,i,acc,hi,ha=>by
  rw [show i=ms.length by omega,List.drop_length]
  refine Ev.step (fun k=>by rw [sky_Eclipses.l0]) ?_
  refine Ev.neg (by omega) ?_
  simp only [List.flatMap_nil,List.append_nil]
  exact Ev.now _
 |m+1,i,acc,hi,ha=>by
  have hlt:i<ms.length:=by omega
  rw [List.drop_eq_getElem_cons hlt,List.flatMap_cons]
  have ih:=fun acc' ha'=>ecl_loop h new full ms hl hd m (i+1) acc' (by omega) ha'
  have hdi:=hd ms[i] (List.getElem_mem hlt)
  refine Ev.step (fun k=>by rw [sky_Eclipses.l0]) ?_
  rw [rdM_get ms i hlt,wrap_id (by omega)]
  generalize ms[i]=x at hdi ⊢
  refine Ev.pos (by omega) (Ev.pos (by omega) (Ev.pos (by omega) ?_))
  cases hx:x.f1 with
  |true=>
   by_cases hf:farOf l p q n x.f0≤full
   ·rw [show eclOf l p q n new full x=[⟨x.f0,true,farOf l p q n x.f0⟩] by unfold eclOf;rw [hx,if_pos rfl,if_pos hf]]
    refine Ev.pos rfl (Ev.bind (far_ev h hdi) (Ev.pos hf (Ev.pos (by omega) ?_)))
    have:=ih (acc ++ [⟨x.f0,true,farOf l p q n x.f0⟩]) (by simp;omega)
    simpa using this
   ·rw [show eclOf l p q n new full x=[] by unfold eclOf;rw [hx,if_pos rfl,if_neg hf]]
    refine Ev.pos rfl (Ev.bind (far_ev h hdi) (Ev.neg hf ?_))
    have:=ih acc (by omega)
    simpa using this
  |false=>
   by_cases hf:farOf l p q n x.f0≤new
   ·rw [show eclOf l p q n new full x=[⟨x.f0,false,farOf l p q n x.f0⟩] by unfold eclOf;rw [hx,if_neg (show ¬ (false=true) by simp),if_pos hf]]
    refine Ev.neg (by simp) (Ev.bind (far_ev h hdi) (Ev.pos hf (Ev.pos (by omega) ?_)))
    have:=ih (acc ++ [⟨x.f0,false,farOf l p q n x.f0⟩]) (by simp;omega)
    simpa using this
   ·rw [show eclOf l p q n new full x=[] by unfold eclOf;rw [hx,if_neg (show ¬ (false=true) by simp),if_neg hf]]
    refine Ev.neg (by simp) (Ev.bind (far_ev h hdi) (Ev.neg hf ?_))
    have:=ih acc (by omega)
    simpa using this
theorem moonOn_days (l:List S83) (d:Int):∀ m∈moonOn l d,m.f0=d:=by
 intro m hm
 unfold moonOn at hm
 rcases List.mem_append.mp hm with h|h
 ·split at h
  ·rw [List.mem_singleton.mp h]
  ·cases h
 ·split at h
  ·rw [List.mem_singleton.mp h]
  ·cases h
theorem moons_days (l:List S83) {a b:Int} (_hs:okSpan a b=true):∀ m∈(daysOf a b).flatMap (moonOn l),a≤m.f0∧m.f0≤b:=by
 intro m hm
 obtain ⟨d,hd,hm⟩:=List.mem_flatMap.mp hm
 rw [moonOn_days l d m hm]
 unfold daysOf at hd
 obtain ⟨j,hj,rfl⟩:=List.mem_map.mp hd
 have:=List.mem_range.mp hj
 omega
theorem moonlist_length (l:List S83) {a b:Int} (hs:okSpan a b=true):((daysOf a b).flatMap (moonOn l)).length≤1602:=by
 have:=flat_length (l:=l) (daysOf a b)
 have hsp:=span_of hs
 have:(daysOf a b).length=(b+1 - a).toNat:=by simp [daysOf]
 omega
def okLimit (n:Int):Bool:=okIn n 0 5400
theorem isLimit_eq (n:Int):sky_isLimit.f n=some (okLimit n):=by unfold sky_isLimit.f;rw [in_eq];rfl
theorem Limit_eq (n:Int):tr_Limit.f n=some (okLimit n):=isLimit_eq n
def eclsOf (l:List S83) (p q n new full a b:Int):List S54:=((daysOf a b).flatMap (moonOn l)).flatMap (eclOf l p q n new full)
theorem Eclipses_ev (l:List S83) (p q n new full a b:Int):Ev (fun k=>sky_Eclipses.f k l p q n new full a b) (if okSky l p q n=true∧okLimit new=true∧okLimit full=true∧okSpan a b=true then (eclsOf l p q n new full a b,0) else ([],2)):=by
 have bad:∀ c:Bool,c=true→Ev (fun k=>sky_Eclipses.j0 k new full a b c l p q n) ([],2):=fun c hc=>by
  refine Ev.step (fun k=>by rw [sky_Eclipses.j0]) ?_
  exact Ev.pos hc (Ev.now _)
 unfold sky_Eclipses.f
 refine Ev.bind (isSky_ev l p q n) ?_
 cases h1:okSky l p q n with
 |false=>rw [if_neg (by simp)];exact Ev.neg (by simp) (bad _ rfl)
 |true=>
  refine Ev.pos rfl (Ev.bind (Ev.is (isLimit_eq new)) ?_)
  cases h2:okLimit new with
  |false=>rw [if_neg (by simp)];exact Ev.neg (by simp) (bad _ rfl)
  |true=>
   refine Ev.pos rfl (Ev.bind (Ev.is (isLimit_eq full)) ?_)
   cases h3:okLimit full with
   |false=>rw [if_neg (by simp)];exact Ev.neg (by simp) (bad _ rfl)
   |true=>
    refine Ev.pos rfl (Ev.bind (Ev.is (isSpan_eq a b)) ?_)
    cases h4:okSpan a b with
    |false=>rw [if_neg (by simp)];exact bad _ rfl
    |true=>
     rw [if_pos ⟨rfl,rfl,rfl,rfl⟩]
     refine Ev.step (fun k=>by rw [sky_Eclipses.j0]) ?_
     refine Ev.neg (by simp) (Ev.bind (moons_ev h1 h4) ?_)
     have hsp:=span_of h4
     have:=ecl_loop h1 new full ((daysOf a b).flatMap (moonOn l)) (by have:=moonlist_length l h4;omega) (fun m hm=>by have:=moons_days l h4 m hm;omega) ((daysOf a b).flatMap (moonOn l)).length 0 [] (Nat.zero_add _) (Nat.le_refl _)
     simpa [eclsOf] using this
theorem eclOf_length (l:List S83) (p q n new full:Int):∀ ms:List S51,(ms.flatMap (eclOf l p q n new full)).length≤ms.length
 |[]=>by simp
 |m :: ms=>by
  have:=eclOf_length l p q n new full ms
  have h1:(eclOf l p q n new full m).length≤1:=by
   unfold eclOf
   by_cases hc:farOf l p q n m.f0≤(if m.f1=true then full else new)
   ·rw [if_pos hc]
    simp
   ·rw [if_neg hc]
    simp
  simp only [List.flatMap_cons,List.length_append,List.length_cons]
  omega
end Go.Proofs.YtaidphhkhddemaaGreatDoor.PSky
end
section
namespace Go.Proofs.YtaidphhkhddemaaGreatDoor.PSky
open Go.RowKit Go.Proofs.YtaidphhkhddemaaGreatDoorW.PrintWords Go.Proofs.YtaidphhkhddemaaGreatDoorW.PrintLast Go.Proofs.YtaidphhkhddemaaGreatDoorW.PrintMore
def okDay (n:Int):Bool:=okIn n 0 20000
theorem isDay_eq (n:Int):sky_isDay.f n=some (okDay n):=by unfold sky_isDay.f;rw [in_eq];rfl
def apartOf (a b:Int):Int:=mn ((a - b) % 21600) (21600 - (a - b) % 21600)
theorem Apart_eq {a b:Int} (ha:0≤a∧a<21600) (hb:0≤b∧b≤21599):tr_Apart.f a b=some (apartOf a b):=by
 unfold tr_Apart.f apartOf
 rw [wrap_id (by omega),Less_eq (by omega),Option.bind_some,wrap_id (by omega)]
end Go.Proofs.YtaidphhkhddemaaGreatDoor.PSky
end
section
namespace Go.Proofs.YtaidphhkhddemaaGreatDoor.PSky
open Go.RowKit Go.Proofs.YtaidphhkhddemaaGreatDoorW.PrintWords Go.Proofs.YtaidphhkhddemaaGreatDoorW.PrintLast Go.Proofs.YtaidphhkhddemaaGreatDoorW.PrintMore
def okBodyN (l:List S83) (n:Int):Bool:=okIn n 0 ((l.length:Int) - 1)
theorem isBody_eq {l:List S83} (hl:l.length≤1000000) (p q n i:Int):sky_isBody.f l p q n i=some (okBodyN l i):=by
 unfold sky_isBody.f okBodyN
 rw [wrap_id (by omega),in_eq]
 rfl
theorem Place_ev {l:List S83} {p q n:Int} (h:okSky l p q n=true) (i:Nat) (hi:i<l.length) {d:Int} (hd:0≤d∧d≤20000):Ev (fun k=>sky_Place.f k l p q n (i:Int) d) (wayOf (rd_T83 l (i:Int)) d % 21600,0):=by
 have hk:=ok_at h
 have hm:=way_bounds (hk.2.2.2.2 i hi) hd
 unfold sky_Place.f
 refine Ev.bind (isSky_ev l p q n) ?_
 rw [h]
 refine Ev.pos rfl (Ev.bind (Ev.is (isBody_eq (by omega) p q n i)) (Ev.pos (okIn_iff.mpr (by omega)) (Ev.bind (Ev.is (isDay_eq d)) ?_)))
 rw [show okDay d=true from okIn_iff.mpr hd]
 refine Ev.step (fun k=>by rw [sky_Place.j0]) ?_
 exact Ev.neg (by simp) (Ev.bind (wayT_ev h i hi hd) (Ev.bind (Ev.is (around_eq (by omega))) (Ev.now _)))
theorem spot_mod (x:Int):tr_Spot.f (x % 21600)=some true:=by
 rw [Spot_eq]
 exact congrArg some (okIn_iff.mpr (by omega))
end Go.Proofs.YtaidphhkhddemaaGreatDoor.PSky
end
