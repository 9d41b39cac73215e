/- A part of the proof of a law of the layer sky. -/
import Derived.ArgAppend
import Derived.Below
import Derived.BigQuiet
import Derived.ChangeSame
import Derived.Deep.AppendLies
import Derived.Deep.CutBlock
import Derived.Deep.DeepCutAuto
import Derived.Deep.DeepHandedRow
import Derived.Deep.Draws
import Derived.Deep.LoopGhost
import Derived.Deep.OwnRows
import Derived.Deep.QuietTactic
import Derived.Deep.RegionHeld3
import Derived.Deep.RegionLaw
import Derived.Deep.Slices
import Derived.Deep.Strs
import Derived.Defers
import Derived.KernelRfl
import Derived.LaidMore
import Derived.Laws.BitsLemmas
import Derived.Laws.BytesArg
import Derived.Laws.Entries
import Derived.Laws.IdiomCopy
import Derived.Laws.LoneSync
import Derived.Laws.MakeOwn
import Derived.Laws.NewBlocks
import Derived.Laws.OwnMore
import Derived.Laws.Pointers
import Derived.Laws.Rows
import Derived.Laws.Slices
import Derived.Laws.StructEq
import Derived.Lib.AppendStr
import Derived.Lib.ConvBytes
import Derived.Lib.LaidTab
import Derived.Lib.OthersKept
import Derived.Lib.SplitLaws
import Derived.LoopIn
import Derived.LoopN
import Derived.LoopNIn
import Derived.Maps.AppendAt
import Derived.Maps.Own
import Derived.Maps.OwnOps
import Derived.Maps.OwnSet
import Derived.Maps.Views
import Derived.OpenShut
import Derived.OrdersHeld
import Derived.Outline
import Derived.OwnWalk
import Derived.OwnWalkIn
import Derived.ProofKit
import Derived.RangeFuncBound
import Derived.RangeFuncBox
import Derived.RangeFuncCalls
import Derived.RangeFuncLeaves
import Derived.RangeFuncNested
import Derived.Recover
import Derived.RowKit
import Derived.RowKit3
import Derived.Scope
import Derived.Shelf.Abstract
import Derived.Shelf.LaysM
import Derived.Shelf.RegionOpen
import Derived.Shelf.Strconv.Itoa0
import Derived.Shelf.Strconv.Itoa1
import Derived.Shelf.Strconv.Itoa2
import Derived.Shelf.Strconv.Itoa3
import Derived.Shelf.Strings.Builder1
import Derived.Shelf.Strings.Builder2
import Derived.Shelf.Strings.Count
import Derived.Shelf.Strings.OnBuilder
import Derived.Shelf.Strings.Prefix
import Derived.Shelf.Strings.Search1
import Derived.Shelf.Strings.Search2
import Derived.Shelf.Strings.Search3
import Derived.Shelf.Strings.Shaped
import Derived.Shelf.Strings.Split
import Derived.Shelf.Unicode.DecodeSlow
import Derived.SizedLaws
import Derived.StillTactics
import Derived.Stop.Joined
import Derived.Stop.LaidErr
import Derived.Tactics
import Derived.TacticsInMore
import Derived.WalkKit
import Derived.WideLaws
import Derived.Test.YtaidphhkhddemaaGreatDoorZ6
section
namespace Go.Proofs.YtaidphhkhddemaaGreatDoor.PSky
open Go.RowKit Go.Proofs.YtaidphhkhddemaaGreatDoorW.PrintWords Go.Proofs.YtaidphhkhddemaaGreatDoorW.PrintLast Go.Proofs.YtaidphhkhddemaaGreatDoorW.PrintMore
attribute [local go_sem] max2_int min2_int max_two min_two max_three min_three max_four min_four
set_option linter.unusedVariables false
set_option linter.unusedSimpArgs false
mutual
def tl_short.l0:Nat→Int→List (S83)→Int→Int→Int→Option (Bool)
 |0,_,_,_,_,_=>none
 |k+1,x3,x102000,x102001,x102002,x102003=>if x3<(x102000.length:Int) then (tl_short.j1 k x3 (decide (x3<7)) x102000 x102001 x102002 x102003) else (tl_short.j1 k x3 false x102000 x102001 x102002 x102003)
def tl_short.j1:Nat→Int→Bool→List (S83)→Int→Int→Int→Option (Bool)
 |0,_,_,_,_,_,_=>none
 |k+1,x3,x12,x102000,x102001,x102002,x102003=>if x12=true then (if 0≤x3 then (if x3<(x102000.length:Int) then (if (((rd_T83 x102000 x3).f2).length:Int) > 10 then (some false) else (tl_short.l0 k (wrap64 (x3+1)) x102000 x102001 x102002 x102003)) else (none)) else (none)) else (some (decide ((x102000.length:Int)≤6)))
end
def tl_short.f (k:Nat) (l0_0:List (S83)) (a0_1:Int) (a0_2:Int) (a0_3:Int):Option (Bool):=tl_short.l0 k 0 l0_0 a0_1 a0_2 a0_3
set_option maxHeartbeats 8000000 in
set_option maxRecDepth 100000 in
theorem tl_short.calls (k:Nat) (A0_0:Option Addr) (c0_0:Nat) (l0_0:List (S83)) (a0_1:Int) (a0_2:Int) (a0_3:Int) (r:Bool) (w:World) (hr0_0:Kd.C k83 w A0_0 l0_0.length l0_0) (hc0_0:l0_0.length≤c0_0) (h:tl_short.f k l0_0 a0_1 a0_2 a0_3=some r):
  Calls Tryz.prog 10 #[.agg #[.slice A0_0 l0_0.length c0_0,.int .i64 a0_1,.int .i64 a0_2,.int .i64 a0_3]] w fun e w'=>e=.returned (.bool r)∧Below w.heap.size w w':=by
 have hu28:=Tryz.underlying28
 have HR0_0:=A0_ hr0_0;have HC0_0:=A0_ hc0_0;clear hr0_0 hc0_0
 have HB:=A0_ (Below.refl w.heap.size w)
 have H:(tl_short.l0 k 0 l0_0 a0_1 a0_2 a0_3)=some r:=h
 clear h
 have H':=A0_ H
 clear H
 go_enter Tryz.func10,Tryz.ntmps10
 go_wp2_with (first|((with_reducible refine gate_dst (N:=1) rfl ?_);refine box_event ?hg (N:=1) ?hd (cs:=#[.slice A0_0 l0_0.length c0_0,.int .i64 a0_1,.int .i64 a0_2,.int .i64 a0_3]) (t:=28) ?hr ?_;(case hd=>rfl);(case hg=>rfl);(case hr=>first|(go_simp;done)|(go_simp;rfl));intro gb101 hg w2 hbox hb;have n0_:=A0_ (below_step y0_ hb);have n1_:=A0_ (hbox);have n2_:=A0_ ((by rw [hg];exact (below_size y0_):w.heap.size≤gb101));have n3_:=A0_ ((by rw [hg];exact (below_size y0_):w.heap.size≤gb101));clear HB;have HB:=n0_;have BK101:=n1_;have GW101:=n2_;have GE101:=n3_;clear n0_ n1_ n2_ n3_;clear hb hbox hg))
 go_loopg [3] k (fun kq v3 w'=>∃ (x3_1:Int),v3=.int .i64 x3_1∧Aside0 (tl_short.l0 kq x3_1 l0_0 a0_1 a0_2 a0_3=some r)∧Aside0 (kq≤k)∧Aside0 (w'.heap[gb101]?=some (.cells #[(.slice A0_0 l0_0.length c0_0),.int .i64 a0_1,.int .i64 a0_2,.int .i64 a0_3] 28 (0,0)))∧Aside0 (Below w.heap.size w w'))
 case atStart=>exact ⟨(0),y4_,H',⟨Nat.le_refl _⟩,⟨by (with_reducible repeat (first|refine blk_drewN ?_ _|refine blk_drew ?_|refine blk_alloc ?_ _));exact BK101.out⟩,⟨y2e_⟩⟩
 case round=>
  clear H'
  (try clear c1);(try clear p2)
  obtain ⟨x3_1,rfl,HA,HK1,BK101,HB⟩:=hrel
  cases gk with
  |zero=>exact absurd HA.out (by simp [tl_short.l0])
  |succ k1=>
   have H:=HA.out
   clear HA
   simp only [tl_short.l0] at H
   have HC3:=A0_ H;clear H
   go_upto_region 2 with (fail)
   go_cut [12] (fun v12 wc=>∃ (kq:Nat) (x12_2:Bool),v12=.bool x12_2∧Aside0 (tl_short.j1 kq x3_1 x12_2 l0_0 a0_1 a0_2 a0_3=some r)∧Aside0 (kq≤k1)∧Aside0 (wc.heap[gb101]?=some (.cells #[(.slice A0_0 l0_0.length c0_0),.int .i64 a0_1,.int .i64 a0_2,.int .i64 a0_3] 28 (0,0)))∧Aside0 (Below w.heap.size w wc))
   case first=>
    have H:=HC3.out
    clear HC3
    by_cases c4:x3_1<(l0_0.length:Int)
    ·rw [if_pos c4] at H;have c4b0:decide (x3_1<(l0_0.length:Int))=true:=decide_eq_true c4;clear c4
     (first|rw [c4b0]|(simp only [i64_w,i32_w];rw [c4b0])|skip)
     have H':=A0_ H
     clear H;obtain ⟨hcz5_0,hcz5_1,hcz5_2,hcz5_3,hfz5_0,hfz5_1,hfz5_2,hfz5_3⟩:=bq4_ BK101.out;go_wp2
     go_meet
     case rel=>exact ⟨_,(decide (x3_1<7)),y4_,H',⟨by have:=HK1.out;first|omega|exact Nat.le_refl _⟩,⟨by (with_reducible repeat (first|refine blk_drewN ?_ _|refine blk_drew ?_|refine blk_alloc ?_ _));exact BK101.out⟩,⟨y2e_⟩⟩
    ·rw [if_neg c4] at H;have c4b0:decide (x3_1<(l0_0.length:Int))=false:=decide_eq_false c4;clear c4
     (first|rw [c4b0]|(simp only [i64_w,i32_w];rw [c4b0])|skip)
     have H':=A0_ H
     clear H;obtain ⟨hcz6_0,hcz6_1,hcz6_2,hcz6_3,hfz6_0,hfz6_1,hfz6_2,hfz6_3⟩:=bq4_ BK101.out;go_wp2
     go_meet
     case rel=>exact ⟨_,(false),y4_,H',⟨by have:=HK1.out;first|omega|exact Nat.le_refl _⟩,⟨by (with_reducible repeat (first|refine blk_drewN ?_ _|refine blk_drew ?_|refine blk_alloc ?_ _));exact BK101.out⟩,⟨y2e_⟩⟩
   case rest=>
    clear HC3;(try clear c1);(try clear p2);(try clear c4);(try clear c4b0);(try clear hcz5_0);(try clear hcz5_1);(try clear hcz5_2);(try clear hcz5_3);(try clear hcz6_0);(try clear hcz6_1);(try clear hcz6_2);(try clear hcz6_3);(try clear hfz5_0);(try clear hfz5_1);(try clear hfz5_2);(try clear hfz5_3);(try clear hfz6_0);(try clear hfz6_1);(try clear hfz6_2);(try clear hfz6_3);(try clear p2)
    obtain ⟨kq,x12_2,rfl,HA,HJ2,BK101,HB⟩:=hcut
    cases kq with
    |zero=>exact absurd HA.out (by simp [tl_short.j1])
    |succ kj2=>
     have H:=HA.out
     clear HA
     simp only [tl_short.j1] at H
     by_cases c7:x12_2=true
     ·subst c7
      have H1:(if 0≤x3_1 then (if x3_1<(l0_0.length:Int) then (if (((rd_T83 l0_0 x3_1).f2).length:Int) > 10 then (some false) else (tl_short.l0 kj2 (wrap64 (x3_1+1)) l0_0 a0_1 a0_2 a0_3)) else (none)) else (none))=some r:=by rw [if_pos rfl] at H;exact H
      clear H;have H:=H1;clear H1
      by_cases c8:0≤x3_1
      ·rw [if_pos c8] at H;have c8b0:decide (0≤x3_1)=true:=decide_eq_true c8;clear c8
       by_cases c9:x3_1<(l0_0.length:Int)
       ·rw [if_pos c9] at H;have c9b0:decide (x3_1<(l0_0.length:Int))=true:=decide_eq_true c9;clear c9
        by_cases c10:(((rd_T83 l0_0 x3_1).f2).length:Int) > 10
        ·rw [if_pos c10] at H;have c10b0:decide (10<(((rd_T83 l0_0 x3_1).f2).length:Int))=true:=decide_eq_true c10
         have c10b1:decide (10<((rd_T83 l0_0 x3_1).f2).length)=true:=decide_eq_true (by omega)
         clear c10;obtain rfl:=Option.some.inj H;obtain ⟨hcz11_0,hcz11_1,hcz11_2,hcz11_3,hfz11_0,hfz11_1,hfz11_2,hfz11_3⟩:=bq4_ BK101.out
         have p102:0≤(x3_1:Int):=of_decide_eq_true y2_
         have q102:x3_1<(l0_0.length:Int):=of_decide_eq_true y2_
         obtain ⟨ad102,A102_3,c102_3,e102,hx102_0,hx102_1,hx102_2,hx102_3,hl102_3,hi102_3⟩:=at_T83 HR0_0.out x3_1 p102 q102
         cases e102
         replace hx102_0:=(HB.out.cell (World.block_lt_of_cell? w _ hx102_0)).trans hx102_0
         replace hx102_1:=(HB.out.cell (World.block_lt_of_cell? w _ hx102_1)).trans hx102_1
         replace hx102_2:=(HB.out.cell (World.block_lt_of_cell? w _ hx102_2)).trans hx102_2
         replace hx102_3:=(HB.out.cell (World.block_lt_of_cell? w _ hx102_3)).trans hx102_3
         have HR102_3:=A0_ hi102_3;have HC102_3:=A0_ hl102_3;clear hi102_3 hl102_3
         replace p102:=eq_true p102
         replace q102:=eq_true q102
         go_wp2;go_ret
         exact ⟨y3_,y2e_⟩
        ·rw [if_neg c10] at H;have c10b0:decide (10<(((rd_T83 l0_0 x3_1).f2).length:Int))=false:=decide_eq_false c10
         have c10b1:decide (10<((rd_T83 l0_0 x3_1).f2).length)=false:=decide_eq_false (by omega)
         clear c10
         have H':=A0_ H
         clear H;obtain ⟨hcz12_0,hcz12_1,hcz12_2,hcz12_3,hfz12_0,hfz12_1,hfz12_2,hfz12_3⟩:=bq4_ BK101.out
         have p102:0≤(x3_1:Int):=of_decide_eq_true y2_
         have q102:x3_1<(l0_0.length:Int):=of_decide_eq_true y2_
         obtain ⟨ad102,A102_3,c102_3,e102,hx102_0,hx102_1,hx102_2,hx102_3,hl102_3,hi102_3⟩:=at_T83 HR0_0.out x3_1 p102 q102
         cases e102
         replace hx102_0:=(HB.out.cell (World.block_lt_of_cell? w _ hx102_0)).trans hx102_0
         replace hx102_1:=(HB.out.cell (World.block_lt_of_cell? w _ hx102_1)).trans hx102_1
         replace hx102_2:=(HB.out.cell (World.block_lt_of_cell? w _ hx102_2)).trans hx102_2
         replace hx102_3:=(HB.out.cell (World.block_lt_of_cell? w _ hx102_3)).trans hx102_3
         have HR102_3:=A0_ hi102_3;have HC102_3:=A0_ hl102_3;clear hi102_3 hl102_3
         replace p102:=eq_true p102
         replace q102:=eq_true q102
         go_wp2
         go_roundg kj2
         case measure=>have:=HK1.out;have:=HJ2.out;omega
         case rel=>exact ⟨(wrap64 (x3_1+1)),y4_,H',⟨by have:=HK1.out;have:=HJ2.out;omega⟩,⟨by (with_reducible repeat (first|refine blk_drewN ?_ _|refine blk_drew ?_|refine blk_alloc ?_ _));exact BK101.out⟩,⟨y2e_⟩⟩
       ·rw [if_neg c9] at H;exact absurd H (by simp)
      ·rw [if_neg c8] at H;exact absurd H (by simp)
     ·replace c7:=Bool.eq_false_iff.mpr c7;subst c7
      have H1:(some (decide ((l0_0.length:Int)≤6)))=some r:=by rw [if_neg (show ¬ (false=true) by decide)] at H;exact H
      clear H;have H:=H1;clear H1;obtain rfl:=Option.some.inj H;obtain ⟨hcz13_0,hcz13_1,hcz13_2,hcz13_3,hfz13_0,hfz13_1,hfz13_2,hfz13_3⟩:=bq4_ BK101.out;go_wp2;go_ret
      exact ⟨y3_,y2e_⟩
def tr_period.f (a0_0:Int) (a0_1:Int):Option (Bool):=(tr_in.f a0_0 1 10000).bind fun t134=>(if t134=true then ((tr_in.f a0_1 1 10000).bind fun t135=>(if t135=true then (some (decide (a0_0 ≥ (wrap64 (4*a0_1))))) else (some false))) else (some false))
set_option maxHeartbeats 8000000 in
set_option maxRecDepth 100000 in
theorem tr_period.calls (a0_0:Int) (a0_1:Int) (r:Bool) (w:World) (h:tr_period.f a0_0 a0_1=some r):
  Calls Tryz.prog 55 #[.agg #[.int .i64 a0_0,.int .i64 a0_1]] w fun e w'=>e=.returned (.bool r)∧Below w.heap.size w w':=by
 have hu24:=Tryz.underlying24
 have HB:=A0_ (Below.refl w.heap.size w)
 have H:((tr_in.f a0_0 1 10000).bind fun t134=>(if t134=true then ((tr_in.f a0_1 1 10000).bind fun t135=>(if t135=true then (some (decide (a0_0 ≥ (wrap64 (4*a0_1))))) else (some false))) else (some false)))=some r:=h
 clear h;replace H:=Option.bind_eq_some_iff.mp H;obtain ⟨t134,A20,H⟩:=H
 replace H:(if t134=true then ((tr_in.f a0_1 1 10000).bind fun t135=>(if t135=true then (some (decide (a0_0 ≥ (wrap64 (4*a0_1))))) else (some false))) else (some false))=some r:=H
 have A2:=A0_ A20;clear A20
 by_cases c3:t134=true
 ·subst c3
  have H1:((tr_in.f a0_1 1 10000).bind fun t135=>(if t135=true then (some (decide (a0_0 ≥ (wrap64 (4*a0_1))))) else (some false)))=some r:=by rw [if_pos rfl] at H;exact H
  clear H;have H:=H1;clear H1;replace H:=Option.bind_eq_some_iff.mp H;obtain ⟨t135,A40,H⟩:=H
  replace H:(if t135=true then (some (decide (a0_0 ≥ (wrap64 (4*a0_1))))) else (some false))=some r:=H
  have A4:=A0_ A40;clear A40
  by_cases c5:t135=true
  ·subst c5
   have H1:(some (decide (a0_0 ≥ (wrap64 (4*a0_1)))))=some r:=by rw [if_pos rfl] at H;exact H
   clear H;have H:=H1;clear H1;obtain rfl:=Option.some.inj H
   go_enter Tryz.func55,Tryz.ntmps55
   go_wp2_with (first|((with_reducible refine gate_dst (N:=1) rfl ?_);refine box_event ?hg (N:=1) ?hd (cs:=#[.int .i64 a0_0,.int .i64 a0_1]) (t:=24) ?hr ?_;(case hd=>rfl);(case hg=>rfl);(case hr=>first|(go_simp;done)|(go_simp;rfl));intro gb133 hg w6 hbox hb;have n0_:=A0_ (below_step y0_ hb);have n1_:=A0_ (hbox);have n2_:=A0_ ((by rw [hg];exact (below_size y0_):w.heap.size≤gb133));have n3_:=A0_ ((by rw [hg];exact (below_size y0_):w.heap.size≤gb133));clear HB;have HB:=n0_;have BK133:=n1_;have GW133:=n2_;have GE133:=n3_;clear n0_ n1_ n2_ n3_;clear hb hbox hg;obtain ⟨hcz7_0,hcz7_1,hfz7_0,hfz7_1⟩:=bq2_ BK133.out)|((with_reducible refine gate_callee (f:=56) rfl ?_);refine goesL_ (some 5) rfl rfl Tryz.func56 (by kernel_rfl) rfl #[.int .i64 a0_0,.int .i64 1,.int .i64 10000] rfl y1_ ?_;(with_reducible refine (tr_in.calls a0_0 1 10000 true _ A2.out).mono ?_);rintro e w' ⟨rfl,⟨nd,rfl⟩⟩;refine ⟨_,rfl,?_⟩)|(go_at_call 56;(with_reducible refine (tr_in.calls a0_1 1 10000 true _ A4.out).mono ?_);rintro e w' ⟨rfl,⟨nd,rfl⟩⟩))
   go_ret
   exact ⟨y3_,y3y_⟩
  ·replace c5:=Bool.eq_false_iff.mpr c5;subst c5
   have H1:(some false)=some r:=by rw [if_neg (show ¬ (false=true) by decide)] at H;exact H
   clear H;have H:=H1;clear H1;obtain rfl:=Option.some.inj H
   go_enter Tryz.func55,Tryz.ntmps55
   go_wp2_with (first|((with_reducible refine gate_dst (N:=1) rfl ?_);refine box_event ?hg (N:=1) ?hd (cs:=#[.int .i64 a0_0,.int .i64 a0_1]) (t:=24) ?hr ?_;(case hd=>rfl);(case hg=>rfl);(case hr=>first|(go_simp;done)|(go_simp;rfl));intro gb133 hg w8 hbox hb;have n0_:=A0_ (below_step y0_ hb);have n1_:=A0_ (hbox);have n2_:=A0_ ((by rw [hg];exact (below_size y0_):w.heap.size≤gb133));have n3_:=A0_ ((by rw [hg];exact (below_size y0_):w.heap.size≤gb133));clear HB;have HB:=n0_;have BK133:=n1_;have GW133:=n2_;have GE133:=n3_;clear n0_ n1_ n2_ n3_;clear hb hbox hg;obtain ⟨hcz9_0,hcz9_1,hfz9_0,hfz9_1⟩:=bq2_ BK133.out)|((with_reducible refine gate_callee (f:=56) rfl ?_);refine goesL_ (some 5) rfl rfl Tryz.func56 (by kernel_rfl) rfl #[.int .i64 a0_0,.int .i64 1,.int .i64 10000] rfl y1_ ?_;(with_reducible refine (tr_in.calls a0_0 1 10000 true _ A2.out).mono ?_);rintro e w' ⟨rfl,⟨nd,rfl⟩⟩;refine ⟨_,rfl,?_⟩)|(go_at_call 56;(with_reducible refine (tr_in.calls a0_1 1 10000 false _ A4.out).mono ?_);rintro e w' ⟨rfl,⟨nd,rfl⟩⟩))
   go_ret
   exact ⟨y3_,y3y_⟩
 ·replace c3:=Bool.eq_false_iff.mpr c3;subst c3
  have H1:(some false)=some r:=by rw [if_neg (show ¬ (false=true) by decide)] at H;exact H
  clear H;have H:=H1;clear H1;obtain rfl:=Option.some.inj H
  go_enter Tryz.func55,Tryz.ntmps55
  go_wp2_with (first|((with_reducible refine gate_dst (N:=1) rfl ?_);refine box_event ?hg (N:=1) ?hd (cs:=#[.int .i64 a0_0,.int .i64 a0_1]) (t:=24) ?hr ?_;(case hd=>rfl);(case hg=>rfl);(case hr=>first|(go_simp;done)|(go_simp;rfl));intro gb133 hg w10 hbox hb;have n0_:=A0_ (below_step y0_ hb);have n1_:=A0_ (hbox);have n2_:=A0_ ((by rw [hg];exact (below_size y0_):w.heap.size≤gb133));have n3_:=A0_ ((by rw [hg];exact (below_size y0_):w.heap.size≤gb133));clear HB;have HB:=n0_;have BK133:=n1_;have GW133:=n2_;have GE133:=n3_;clear n0_ n1_ n2_ n3_;clear hb hbox hg;obtain ⟨hcz11_0,hcz11_1,hfz11_0,hfz11_1⟩:=bq2_ BK133.out)|((with_reducible refine gate_callee (f:=56) rfl ?_);refine goesL_ (some 5) rfl rfl Tryz.func56 (by kernel_rfl) rfl #[.int .i64 a0_0,.int .i64 1,.int .i64 10000] rfl y1_ ?_;(with_reducible refine (tr_in.calls a0_0 1 10000 false _ A2.out).mono ?_);rintro e w' ⟨rfl,⟨nd,rfl⟩⟩;refine ⟨_,rfl,?_⟩))
  go_ret
  exact ⟨y3_,y3y_⟩
end Go.Proofs.YtaidphhkhddemaaGreatDoor.PSky
end
section
namespace Go.Proofs.YtaidphhkhddemaaGreatDoor.PSky
open Go.RowKit Go.Proofs.YtaidphhkhddemaaGreatDoorW.PrintWords Go.Proofs.YtaidphhkhddemaaGreatDoorW.PrintLast Go.Proofs.YtaidphhkhddemaaGreatDoorW.PrintMore
attribute [local go_sem] max2_int min2_int max_two min_two max_three min_three max_four min_four
set_option linter.unusedVariables false
set_option linter.unusedSimpArgs false
mutual
def tr_Sky.l0:Nat→Int→List (S83)→Int→Int→Int→Option (Bool)
 |0,_,_,_,_,_=>none
 |k+1,x3,x137000,x137001,x137002,x137003=>if x3<(x137000.length:Int) then (if 0≤x3 then ((tr_period.f ((rd_T83 x137000 x3).f0.f0) ((rd_T83 x137000 x3).f0.f1)).bind fun t142=>(if t142=true then ((tr_Spot.f ((rd_T83 x137000 x3).f1)).bind fun t143=>(if t143=true then ((tr_in.f (((rd_T83 x137000 x3).f2).length:Int) 1 8).bind fun t144=>(tr_Sky.j1 k x3 (!t144) x137000 x137001 x137002 x137003 ((rd_T83 x137000 x3).f0.f0) ((rd_T83 x137000 x3).f0.f1) ((rd_T83 x137000 x3).f1) ((rd_T83 x137000 x3).f2))) else (tr_Sky.j1 k x3 true x137000 x137001 x137002 x137003 ((rd_T83 x137000 x3).f0.f0) ((rd_T83 x137000 x3).f0.f1) ((rd_T83 x137000 x3).f1) ((rd_T83 x137000 x3).f2)))) else (tr_Sky.j1 k x3 true x137000 x137001 x137002 x137003 ((rd_T83 x137000 x3).f0.f0) ((rd_T83 x137000 x3).f0.f1) ((rd_T83 x137000 x3).f1) ((rd_T83 x137000 x3).f2)))) else (none)) else ((tr_in.f (x137000.length:Int) 2 4).bind fun t137=>(if t137=true then ((tr_period.f x137001 x137002).bind fun t138=>(if t138=true then ((tr_Spot.f x137003).bind fun t139=>(some t139)) else (some false))) else (some false)))
def tr_Sky.j1:Nat→Int→Bool→List (S83)→Int→Int→Int→Int→Int→Int→List Int→Option (Bool)
 |0,_,_,_,_,_,_,_,_,_,_=>none
 |k+1,x3,x34,x137000,x137001,x137002,x137003,x142000,x142001,x142002,x142003=>if x34=true then (some false) else (tr_Sky.l1 k x3 0 x137000 x137001 x137002 x137003 x142000 x142001 x142002 x142003)
def tr_Sky.l1:Nat→Int→Int→List (S83)→Int→Int→Int→Int→Int→Int→List Int→Option (Bool)
 |0,_,_,_,_,_,_,_,_,_,_=>none
 |k+1,x3,x5,x137000,x137001,x137002,x137003,x142000,x142001,x142002,x142003=>if x5<(x142003.length:Int) then (if 0≤x5 then ((tr_in.f (rd x142003 x5) (-600) 600).bind fun t146=>(if t146=true then (tr_Sky.l1 k x3 (wrap64 (x5+1)) x137000 x137001 x137002 x137003 x142000 x142001 x142002 x142003) else (some false))) else (none)) else (tr_Sky.l0 k (wrap64 (x3+1)) x137000 x137001 x137002 x137003)
end
def tr_Sky.f (k:Nat) (l0_0:List (S83)) (a0_1:Int) (a0_2:Int) (a0_3:Int):Option (Bool):=tr_Sky.l0 k 0 l0_0 a0_1 a0_2 a0_3
set_option maxHeartbeats 8000000 in
set_option maxRecDepth 100000 in
theorem tr_Sky.calls (k:Nat) (A0_0:Option Addr) (c0_0:Nat) (l0_0:List (S83)) (a0_1:Int) (a0_2:Int) (a0_3:Int) (r:Bool) (w:World) (hr0_0:Kd.C k83 w A0_0 l0_0.length l0_0) (hc0_0:l0_0.length≤c0_0) (h:tr_Sky.f k l0_0 a0_1 a0_2 a0_3=some r):
  Calls Tryz.prog 13 #[.agg #[.slice A0_0 l0_0.length c0_0,.int .i64 a0_1,.int .i64 a0_2,.int .i64 a0_3]] w fun e w'=>e=.returned (.bool r)∧Below w.heap.size w w':=by
 have hu28:=Tryz.underlying28
 have hu83:=Tryz.underlying83
 have hu24:=Tryz.underlying24
 have HR0_0:=A0_ hr0_0;have HC0_0:=A0_ hc0_0;clear hr0_0 hc0_0
 have HB:=A0_ (Below.refl w.heap.size w)
 have H:(tr_Sky.l0 k 0 l0_0 a0_1 a0_2 a0_3)=some r:=h
 clear h
 have H':=A0_ H
 clear H
 go_enter Tryz.func13,Tryz.ntmps13
 go_wp2_with (first|((with_reducible refine gate_dst (N:=1) rfl ?_);(try (refine gate_guard (by rfl) ?_;dsimp only));refine box_event ?hg (N:=1) ?hd (cs:=#[.slice A0_0 l0_0.length c0_0,.int .i64 a0_1,.int .i64 a0_2,.int .i64 a0_3]) (t:=28) ?hr ?_;(case hd=>rfl);(case hg=>rfl);(case hr=>first|(go_simp;done)|(go_simp;rfl));intro gb136 hg w2 hbox hb;have n0_:=A0_ (below_step y0_ hb);have n1_:=A0_ (hbox);have n2_:=A0_ ((by rw [hg];exact (below_size y0_):w.heap.size≤gb136));have n3_:=A0_ ((by rw [hg];exact (below_size y0_):w.heap.size≤gb136));clear HB;have HB:=n0_;have BK136:=n1_;have GW136:=n2_;have GE136:=n3_;clear n0_ n1_ n2_ n3_;clear hb hbox hg))
 go_loopg [3] k (fun kq v3 w'=>∃ (x3_1:Int),v3=.int .i64 x3_1∧Aside0 (tr_Sky.l0 kq x3_1 l0_0 a0_1 a0_2 a0_3=some r)∧Aside0 (kq≤k)∧Aside0 (w'.heap[gb136]?=some (.cells #[(.slice A0_0 l0_0.length c0_0),.int .i64 a0_1,.int .i64 a0_2,.int .i64 a0_3] 28 (0,0)))∧Aside0 (Below w.heap.size w w'))
 case atStart=>exact ⟨(0),y4_,H',⟨Nat.le_refl _⟩,⟨by (with_reducible repeat (first|refine blk_drewN ?_ _|refine blk_drew ?_|refine blk_alloc ?_ _));exact BK136.out⟩,⟨y1v_⟩⟩
 case round=>
  clear H'
  (try clear c1);(try clear p2)
  obtain ⟨x3_1,rfl,HA,HK1,BK136,HB⟩:=hrel
  cases gk with
  |zero=>exact absurd HA.out (by simp [tr_Sky.l0])
  |succ k1=>
   have H:=HA.out
   clear HA
   simp only [tr_Sky.l0] at H
   by_cases c3:x3_1<(l0_0.length:Int)
   ·rw [if_pos c3] at H;have c3b0:decide (x3_1<(l0_0.length:Int))=true:=decide_eq_true c3;clear c3
    by_cases c4:0≤x3_1
    ·rw [if_pos c4] at H;have c4b0:decide (0≤x3_1)=true:=decide_eq_true c4;clear c4;have HC5:=A0_ H;clear H;obtain ⟨hcz6_0,hcz6_1,hcz6_2,hcz6_3,hfz6_0,hfz6_1,hfz6_2,hfz6_3⟩:=bq4_ BK136.out
     have p140:0≤(x3_1:Int):=of_decide_eq_true y2_
     have q140:x3_1<(l0_0.length:Int):=of_decide_eq_true y2_
     obtain ⟨ad140,A140_3,c140_3,e140,hx140_0,hx140_1,hx140_2,hx140_3,hl140_3,hi140_3⟩:=at_T83 HR0_0.out x3_1 p140 q140
     cases e140
     replace hx140_0:=(HB.out.cell (World.block_lt_of_cell? w _ hx140_0)).trans hx140_0
     replace hx140_1:=(HB.out.cell (World.block_lt_of_cell? w _ hx140_1)).trans hx140_1
     replace hx140_2:=(HB.out.cell (World.block_lt_of_cell? w _ hx140_2)).trans hx140_2
     replace hx140_3:=(HB.out.cell (World.block_lt_of_cell? w _ hx140_3)).trans hx140_3
     have HR140_3:=A0_ hi140_3;have HC140_3:=A0_ hl140_3;clear hi140_3 hl140_3
     replace p140:=eq_true p140
     replace q140:=eq_true q140
     go_upto_region 5 with (first|((with_reducible refine gate_dst (N:=4) rfl ?_);(try (refine gate_guard (by rfl) ?_;dsimp only));refine box_event ?hg (N:=4) ?hd (cs:=#[.int .i64 0,.int .i64 0,.int .i64 0,.slice none 0 0]) (t:=83) ?hr ?_;(case hd=>rfl);(case hg=>rfl);(case hr=>first|(go_simp;done)|(go_simp;rfl));intro gb141 hg w7 hbox hb;have n0_:=A0_ (blk_below (g:=gb136) (o:=.cells #[.slice (some ad140) l0_0.length c0_0,.int .i64 a0_1,.int .i64 a0_2,.int .i64 a0_3] 28 (0,0)) (bd_ BK136.out) hb);have n1_:=A0_ (below_step y1v_ hb);have n2_:=A0_ (hbox);have n3_:=A0_ ((by rw [hg];exact (below_size y1v_):w.heap.size≤gb141));have n4_:=A0_ ((by rw [hg];exact (below_size y1v_):w.heap.size≤gb141));have n5_:=A0_ ((by rw [hg];exact Nat.ne_of_lt (blk_lt (g:=gb136) (o:=.cells #[.slice (some ad140) l0_0.length c0_0,.int .i64 a0_1,.int .i64 a0_2,.int .i64 a0_3] 28 (0,0)) (bd_ BK136.out)):gb136≠gb141));have n6_:=A0_ ((by rw [hg];exact Nat.ne_of_gt (blk_lt (g:=gb136) (o:=.cells #[.slice (some ad140) l0_0.length c0_0,.int .i64 a0_1,.int .i64 a0_2,.int .i64 a0_3] 28 (0,0)) (bd_ BK136.out)):gb141≠gb136));clear BK136;clear HB;have BK136:=n0_;have HB:=n1_;have BK141:=n2_;have GW141:=n3_;have GE141:=n4_;have NB136_141:=n5_;have NB141_136:=n6_;clear n0_ n1_ n2_ n3_ n4_ n5_ n6_;clear hb hbox hg;have hnb8:=NB141_136.out;have hnc8:=NB136_141.out;obtain ⟨hcz9_0,hcz9_1,hcz9_2,hcz9_3,hfz9_0,hfz9_1,hfz9_2,hfz9_3⟩:=bq4_ BK141.out))
     (try simp only [Act.put,List.setIfInBounds_toArray,List.set_cons_zero,List.set_cons_succ])
     go_cut [34] (fun v34 wc=>∃ (kq:Nat) (x34_4:Bool),v34=.bool x34_4∧Aside0 (tr_Sky.j1 kq x3_1 x34_4 l0_0 a0_1 a0_2 a0_3 ((rd_T83 l0_0 x3_1).f0.f0) ((rd_T83 l0_0 x3_1).f0.f1) ((rd_T83 l0_0 x3_1).f1) ((rd_T83 l0_0 x3_1).f2)=some r)∧Aside0 (kq≤k1)∧Aside0 (wc.heap[gb136]?=some (.cells #[(.slice (some ad140) l0_0.length c0_0),.int .i64 a0_1,.int .i64 a0_2,.int .i64 a0_3] 28 (0,0)))∧Aside0 (wc.heap[gb141]?=some (.cells #[.int .i64 ((rd_T83 l0_0 x3_1).f0.f0),.int .i64 ((rd_T83 l0_0 x3_1).f0.f1),.int .i64 ((rd_T83 l0_0 x3_1).f1),(.slice A140_3 ((rd_T83 l0_0 x3_1).f2).length c140_3)] 83 (0,0)))∧Aside0 (Below w.heap.size w wc))
     case first=>
      have H:=HC5.out
      clear HC5;replace H:=Option.bind_eq_some_iff.mp H;obtain ⟨t142,A100,H⟩:=H
      replace H:(if t142=true then ((tr_Spot.f ((rd_T83 l0_0 x3_1).f1)).bind fun t143=>(if t143=true then ((tr_in.f (((rd_T83 l0_0 x3_1).f2).length:Int) 1 8).bind fun t144=>(tr_Sky.j1 k1 x3_1 (!t144) l0_0 a0_1 a0_2 a0_3 ((rd_T83 l0_0 x3_1).f0.f0) ((rd_T83 l0_0 x3_1).f0.f1) ((rd_T83 l0_0 x3_1).f1) ((rd_T83 l0_0 x3_1).f2))) else (tr_Sky.j1 k1 x3_1 true l0_0 a0_1 a0_2 a0_3 ((rd_T83 l0_0 x3_1).f0.f0) ((rd_T83 l0_0 x3_1).f0.f1) ((rd_T83 l0_0 x3_1).f1) ((rd_T83 l0_0 x3_1).f2)))) else (tr_Sky.j1 k1 x3_1 true l0_0 a0_1 a0_2 a0_3 ((rd_T83 l0_0 x3_1).f0.f0) ((rd_T83 l0_0 x3_1).f0.f1) ((rd_T83 l0_0 x3_1).f1) ((rd_T83 l0_0 x3_1).f2)))=some r:=H
      have A10:=A0_ A100;clear A100
      by_cases c11:t142=true
      ·subst c11
       have H1:((tr_Spot.f ((rd_T83 l0_0 x3_1).f1)).bind fun t143=>(if t143=true then ((tr_in.f (((rd_T83 l0_0 x3_1).f2).length:Int) 1 8).bind fun t144=>(tr_Sky.j1 k1 x3_1 (!t144) l0_0 a0_1 a0_2 a0_3 ((rd_T83 l0_0 x3_1).f0.f0) ((rd_T83 l0_0 x3_1).f0.f1) ((rd_T83 l0_0 x3_1).f1) ((rd_T83 l0_0 x3_1).f2))) else (tr_Sky.j1 k1 x3_1 true l0_0 a0_1 a0_2 a0_3 ((rd_T83 l0_0 x3_1).f0.f0) ((rd_T83 l0_0 x3_1).f0.f1) ((rd_T83 l0_0 x3_1).f1) ((rd_T83 l0_0 x3_1).f2))))=some r:=by rw [if_pos rfl] at H;exact H
       clear H;have H:=H1;clear H1;replace H:=Option.bind_eq_some_iff.mp H;obtain ⟨t143,A120,H⟩:=H
       replace H:(if t143=true then ((tr_in.f (((rd_T83 l0_0 x3_1).f2).length:Int) 1 8).bind fun t144=>(tr_Sky.j1 k1 x3_1 (!t144) l0_0 a0_1 a0_2 a0_3 ((rd_T83 l0_0 x3_1).f0.f0) ((rd_T83 l0_0 x3_1).f0.f1) ((rd_T83 l0_0 x3_1).f1) ((rd_T83 l0_0 x3_1).f2))) else (tr_Sky.j1 k1 x3_1 true l0_0 a0_1 a0_2 a0_3 ((rd_T83 l0_0 x3_1).f0.f0) ((rd_T83 l0_0 x3_1).f0.f1) ((rd_T83 l0_0 x3_1).f1) ((rd_T83 l0_0 x3_1).f2)))=some r:=H
       have A12:=A0_ A120;clear A120
       by_cases c13:t143=true
       ·subst c13
        have H1:((tr_in.f (((rd_T83 l0_0 x3_1).f2).length:Int) 1 8).bind fun t144=>(tr_Sky.j1 k1 x3_1 (!t144) l0_0 a0_1 a0_2 a0_3 ((rd_T83 l0_0 x3_1).f0.f0) ((rd_T83 l0_0 x3_1).f0.f1) ((rd_T83 l0_0 x3_1).f1) ((rd_T83 l0_0 x3_1).f2)))=some r:=by rw [if_pos rfl] at H;exact H
        clear H;have H:=H1;clear H1;replace H:=Option.bind_eq_some_iff.mp H;obtain ⟨t144,A140,H⟩:=H
        replace H:(tr_Sky.j1 k1 x3_1 (!t144) l0_0 a0_1 a0_2 a0_3 ((rd_T83 l0_0 x3_1).f0.f0) ((rd_T83 l0_0 x3_1).f0.f1) ((rd_T83 l0_0 x3_1).f1) ((rd_T83 l0_0 x3_1).f2))=some r:=H
        have A14:=A0_ A140;clear A140
        have H':=A0_ H
        clear H
        have hnb15:=NB141_136.out
        have hnc15:=NB136_141.out
        obtain ⟨hcz16_0,hcz16_1,hcz16_2,hcz16_3,hfz16_0,hfz16_1,hfz16_2,hfz16_3⟩:=bq4_ BK141.out
        go_wp2_with (first|((with_reducible refine gate_callee (f:=55) rfl ?_);refine goesL_ (some 20) rfl rfl Tryz.func55 (by kernel_rfl) rfl #[.agg #[.int .i64 ((rd_T83 l0_0 x3_1).f0.f0),.int .i64 ((rd_T83 l0_0 x3_1).f0.f1)]] rfl y1_ ?_;(with_reducible refine (tr_period.calls ((rd_T83 l0_0 x3_1).f0.f0) ((rd_T83 l0_0 x3_1).f0.f1) true _ A10.out).mono ?_);rintro e w17 ⟨rfl,hb⟩;refine ⟨_,rfl,?_⟩;have n0_:=A0_ (blk_below (g:=gb136) (o:=.cells #[.slice (some ad140) l0_0.length c0_0,.int .i64 a0_1,.int .i64 a0_2,.int .i64 a0_3] 28 (0,0)) y1u_ hb);have n1_:=A0_ (blk_below (g:=gb141) (o:=.cells #[.int .i64 ((rd_T83 l0_0 x3_1).f0.f0),.int .i64 ((rd_T83 l0_0 x3_1).f0.f1),.int .i64 ((rd_T83 l0_0 x3_1).f1),.slice A140_3 ((rd_T83 l0_0 x3_1).f2).length c140_3] 83 (0,0)) ys_ hb);have n2_:=A0_ (below_step y1i_ hb);clear BK136;clear BK141;clear HB;have BK136:=n0_;have BK141:=n1_;have HB:=n2_;clear n0_ n1_ n2_;(try clear hb);(try clear hb2);(try clear hk);(try clear hi);obtain ⟨hcz18_0,hcz18_1,hcz18_2,hcz18_3,hfz18_0,hfz18_1,hfz18_2,hfz18_3⟩:=bq4_ BK141.out)|(go_at_call 23;(with_reducible refine (tr_Spot.calls ((rd_T83 l0_0 x3_1).f1) true _ A12.out).mono ?_);rintro e w' ⟨rfl,⟨nd,rfl⟩⟩)|(go_at_call 56;(with_reducible refine (tr_in.calls (((rd_T83 l0_0 x3_1).f2).length:Int) 1 8 t144 _ A14.out).mono ?_);rintro e w' ⟨rfl,⟨nd,rfl⟩⟩))
        go_meet
        case rel=>exact ⟨_,(!t144),y4_,H',⟨by have:=HK1.out;first|omega|exact Nat.le_refl _⟩,⟨by (with_reducible repeat (first|refine blk_drewN ?_ _|refine blk_drew ?_|refine blk_alloc ?_ _));exact BK136.out⟩,⟨by (with_reducible repeat (first|refine blk_drewN ?_ _|refine blk_drew ?_|refine blk_alloc ?_ _));exact BK141.out⟩,⟨y1i_⟩⟩
       ·replace c13:=Bool.eq_false_iff.mpr c13;subst c13
        have H1:(tr_Sky.j1 k1 x3_1 true l0_0 a0_1 a0_2 a0_3 ((rd_T83 l0_0 x3_1).f0.f0) ((rd_T83 l0_0 x3_1).f0.f1) ((rd_T83 l0_0 x3_1).f1) ((rd_T83 l0_0 x3_1).f2))=some r:=by rw [if_neg (show ¬ (false=true) by decide)] at H;exact H
        clear H;have H:=H1;clear H1
        have H':=A0_ H
        clear H
        have hnb19:=NB141_136.out
        have hnc19:=NB136_141.out
        obtain ⟨hcz20_0,hcz20_1,hcz20_2,hcz20_3,hfz20_0,hfz20_1,hfz20_2,hfz20_3⟩:=bq4_ BK141.out
        go_wp2_with (first|((with_reducible refine gate_callee (f:=55) rfl ?_);refine goesL_ (some 20) rfl rfl Tryz.func55 (by kernel_rfl) rfl #[.agg #[.int .i64 ((rd_T83 l0_0 x3_1).f0.f0),.int .i64 ((rd_T83 l0_0 x3_1).f0.f1)]] rfl y1_ ?_;(with_reducible refine (tr_period.calls ((rd_T83 l0_0 x3_1).f0.f0) ((rd_T83 l0_0 x3_1).f0.f1) true _ A10.out).mono ?_);rintro e w21 ⟨rfl,hb⟩;refine ⟨_,rfl,?_⟩;have n0_:=A0_ (blk_below (g:=gb136) (o:=.cells #[.slice (some ad140) l0_0.length c0_0,.int .i64 a0_1,.int .i64 a0_2,.int .i64 a0_3] 28 (0,0)) y1u_ hb);have n1_:=A0_ (blk_below (g:=gb141) (o:=.cells #[.int .i64 ((rd_T83 l0_0 x3_1).f0.f0),.int .i64 ((rd_T83 l0_0 x3_1).f0.f1),.int .i64 ((rd_T83 l0_0 x3_1).f1),.slice A140_3 ((rd_T83 l0_0 x3_1).f2).length c140_3] 83 (0,0)) ys_ hb);have n2_:=A0_ (below_step y1i_ hb);clear BK136;clear BK141;clear HB;have BK136:=n0_;have BK141:=n1_;have HB:=n2_;clear n0_ n1_ n2_;(try clear hb);(try clear hb2);(try clear hk);(try clear hi);obtain ⟨hcz22_0,hcz22_1,hcz22_2,hcz22_3,hfz22_0,hfz22_1,hfz22_2,hfz22_3⟩:=bq4_ BK141.out)|(go_at_call 23;(with_reducible refine (tr_Spot.calls ((rd_T83 l0_0 x3_1).f1) false _ A12.out).mono ?_);rintro e w' ⟨rfl,⟨nd,rfl⟩⟩))
        go_meet
        case rel=>exact ⟨_,(true),y4_,H',⟨by have:=HK1.out;first|omega|exact Nat.le_refl _⟩,⟨by (with_reducible repeat (first|refine blk_drewN ?_ _|refine blk_drew ?_|refine blk_alloc ?_ _));exact BK136.out⟩,⟨by (with_reducible repeat (first|refine blk_drewN ?_ _|refine blk_drew ?_|refine blk_alloc ?_ _));exact BK141.out⟩,⟨y1i_⟩⟩
      ·replace c11:=Bool.eq_false_iff.mpr c11;subst c11
       have H1:(tr_Sky.j1 k1 x3_1 true l0_0 a0_1 a0_2 a0_3 ((rd_T83 l0_0 x3_1).f0.f0) ((rd_T83 l0_0 x3_1).f0.f1) ((rd_T83 l0_0 x3_1).f1) ((rd_T83 l0_0 x3_1).f2))=some r:=by rw [if_neg (show ¬ (false=true) by decide)] at H;exact H
       clear H;have H:=H1;clear H1
       have H':=A0_ H
       clear H
       have hnb23:=NB141_136.out
       have hnc23:=NB136_141.out
       obtain ⟨hcz24_0,hcz24_1,hcz24_2,hcz24_3,hfz24_0,hfz24_1,hfz24_2,hfz24_3⟩:=bq4_ BK141.out
       go_wp2_with (first|((with_reducible refine gate_callee (f:=55) rfl ?_);refine goesL_ (some 20) rfl rfl Tryz.func55 (by kernel_rfl) rfl #[.agg #[.int .i64 ((rd_T83 l0_0 x3_1).f0.f0),.int .i64 ((rd_T83 l0_0 x3_1).f0.f1)]] rfl y1_ ?_;(with_reducible refine (tr_period.calls ((rd_T83 l0_0 x3_1).f0.f0) ((rd_T83 l0_0 x3_1).f0.f1) false _ A10.out).mono ?_);rintro e w25 ⟨rfl,hb⟩;refine ⟨_,rfl,?_⟩;have n0_:=A0_ (blk_below (g:=gb136) (o:=.cells #[.slice (some ad140) l0_0.length c0_0,.int .i64 a0_1,.int .i64 a0_2,.int .i64 a0_3] 28 (0,0)) y1u_ hb);have n1_:=A0_ (blk_below (g:=gb141) (o:=.cells #[.int .i64 ((rd_T83 l0_0 x3_1).f0.f0),.int .i64 ((rd_T83 l0_0 x3_1).f0.f1),.int .i64 ((rd_T83 l0_0 x3_1).f1),.slice A140_3 ((rd_T83 l0_0 x3_1).f2).length c140_3] 83 (0,0)) ys_ hb);have n2_:=A0_ (below_step y1i_ hb);clear BK136;clear BK141;clear HB;have BK136:=n0_;have BK141:=n1_;have HB:=n2_;clear n0_ n1_ n2_;(try clear hb);(try clear hb2);(try clear hk);(try clear hi)))
       go_meet
       case rel=>exact ⟨_,(true),y4_,H',⟨by have:=HK1.out;first|omega|exact Nat.le_refl _⟩,⟨by (with_reducible repeat (first|refine blk_drewN ?_ _|refine blk_drew ?_|refine blk_alloc ?_ _));exact BK136.out⟩,⟨by (with_reducible repeat (first|refine blk_drewN ?_ _|refine blk_drew ?_|refine blk_alloc ?_ _));exact BK141.out⟩,⟨y1i_⟩⟩
     case rest=>
      clear HC5;(try clear c1);(try clear p1);(try clear q1);(try clear hx1);(try clear c2);(try clear p2);(try clear c3);(try clear c3b0);(try clear c4);(try clear c4b0);(try clear c5);(try clear c8);(try clear c11);(try clear c13);(try clear c14);(try clear p14);(try clear q14);(try clear hx14);(try clear c15);(try clear c19);(try clear c23);(try clear hcz16_0);(try clear hcz16_1);(try clear hcz16_2);(try clear hcz16_3);(try clear hcz18_0);(try clear hcz18_1);(try clear hcz18_2);(try clear hcz18_3);(try clear hcz20_0);(try clear hcz20_1);(try clear hcz20_2);(try clear hcz20_3);(try clear hcz22_0);(try clear hcz22_1);(try clear hcz22_2);(try clear hcz22_3);(try clear hcz24_0);(try clear hcz24_1);(try clear hcz24_2);(try clear hcz24_3);(try clear hcz6_0);(try clear hcz6_1);(try clear hcz6_2);(try clear hcz6_3);(try clear hcz9_0);(try clear hcz9_1);(try clear hcz9_2);(try clear hcz9_3);(try clear hfz16_0);(try clear hfz16_1);(try clear hfz16_2);(try clear hfz16_3);(try clear hfz18_0);(try clear hfz18_1);(try clear hfz18_2);(try clear hfz18_3);(try clear hfz20_0);(try clear hfz20_1);(try clear hfz20_2);(try clear hfz20_3);(try clear hfz22_0);(try clear hfz22_1);(try clear hfz22_2);(try clear hfz22_3);(try clear hfz24_0);(try clear hfz24_1);(try clear hfz24_2);(try clear hfz24_3);(try clear hfz6_0);(try clear hfz6_1);(try clear hfz6_2);(try clear hfz6_3);(try clear hfz9_0);(try clear hfz9_1);(try clear hfz9_2);(try clear hfz9_3);(try clear hx140_0);(try clear hx140_1);(try clear hx140_2);(try clear hx140_3);(try clear p140);(try clear p2);(try clear q140)
      obtain ⟨kq,x34_4,rfl,HA,HJ4,BK136,BK141,HB⟩:=hcut
      cases kq with
      |zero=>exact absurd HA.out (by simp [tr_Sky.j1])
      |succ kj4=>
       have H:=HA.out
       clear HA
       simp only [tr_Sky.j1] at H
       by_cases c26:x34_4=true
       ·subst c26
        have H1:(some false)=some r:=by rw [if_pos rfl] at H;exact H
        clear H;have H:=H1;clear H1;obtain rfl:=Option.some.inj H;go_wp2;go_ret
        exact ⟨y3_,y1i_⟩
       ·replace c26:=Bool.eq_false_iff.mpr c26;subst c26
        have H1:(tr_Sky.l1 kj4 x3_1 0 l0_0 a0_1 a0_2 a0_3 ((rd_T83 l0_0 x3_1).f0.f0) ((rd_T83 l0_0 x3_1).f0.f1) ((rd_T83 l0_0 x3_1).f1) ((rd_T83 l0_0 x3_1).f2))=some r:=by rw [if_neg (show ¬ (false=true) by decide)] at H;exact H
        clear H;have H:=H1;clear H1
        have H':=A0_ H
        clear H;go_wp2
        go_loopg [5] kj4 (fun kq v5 w'=>∃ (x5_3:Int),v5=.int .i64 x5_3∧Aside0 (tr_Sky.l1 kq x3_1 x5_3 l0_0 a0_1 a0_2 a0_3 ((rd_T83 l0_0 x3_1).f0.f0) ((rd_T83 l0_0 x3_1).f0.f1) ((rd_T83 l0_0 x3_1).f1) ((rd_T83 l0_0 x3_1).f2)=some r)∧Aside0 (kq≤kj4)∧Aside0 (w'.heap[gb136]?=some (.cells #[(.slice (some ad140) l0_0.length c0_0),.int .i64 a0_1,.int .i64 a0_2,.int .i64 a0_3] 28 (0,0)))∧Aside0 (w'.heap[gb141]?=some (.cells #[.int .i64 ((rd_T83 l0_0 x3_1).f0.f0),.int .i64 ((rd_T83 l0_0 x3_1).f0.f1),.int .i64 ((rd_T83 l0_0 x3_1).f1),(.slice A140_3 ((rd_T83 l0_0 x3_1).f2).length c140_3)] 83 (0,0)))∧Aside0 (Below w.heap.size w w'))
        case atStart=>exact ⟨(0),y4_,H',⟨Nat.le_refl _⟩,⟨by (with_reducible repeat (first|refine blk_drewN ?_ _|refine blk_drew ?_|refine blk_alloc ?_ _));exact BK136.out⟩,⟨by (with_reducible repeat (first|refine blk_drewN ?_ _|refine blk_drew ?_|refine blk_alloc ?_ _));exact BK141.out⟩,⟨y1i_⟩⟩
        case round=>
         clear H'
         (try clear c1);(try clear p1);(try clear q1);(try clear hx1);(try clear c2);(try clear p2);(try clear c3);(try clear c3b0);(try clear c4);(try clear c4b0);(try clear c5);(try clear c8);(try clear c11);(try clear c13);(try clear c14);(try clear p14);(try clear q14);(try clear hx14);(try clear c15);(try clear c19);(try clear c23);(try clear c26);(try clear hcz16_0);(try clear hcz16_1);(try clear hcz16_2);(try clear hcz16_3);(try clear hcz18_0);(try clear hcz18_1);(try clear hcz18_2);(try clear hcz18_3);(try clear hcz20_0);(try clear hcz20_1);(try clear hcz20_2);(try clear hcz20_3);(try clear hcz22_0);(try clear hcz22_1);(try clear hcz22_2);(try clear hcz22_3);(try clear hcz24_0);(try clear hcz24_1);(try clear hcz24_2);(try clear hcz24_3);(try clear hcz6_0);(try clear hcz6_1);(try clear hcz6_2);(try clear hcz6_3);(try clear hcz9_0);(try clear hcz9_1);(try clear hcz9_2);(try clear hcz9_3);(try clear hfz16_0);(try clear hfz16_1);(try clear hfz16_2);(try clear hfz16_3);(try clear hfz18_0);(try clear hfz18_1);(try clear hfz18_2);(try clear hfz18_3);(try clear hfz20_0);(try clear hfz20_1);(try clear hfz20_2);(try clear hfz20_3);(try clear hfz22_0);(try clear hfz22_1);(try clear hfz22_2);(try clear hfz22_3);(try clear hfz24_0);(try clear hfz24_1);(try clear hfz24_2);(try clear hfz24_3);(try clear hfz6_0);(try clear hfz6_1);(try clear hfz6_2);(try clear hfz6_3);(try clear hfz9_0);(try clear hfz9_1);(try clear hfz9_2);(try clear hfz9_3);(try clear hx140_0);(try clear hx140_1);(try clear hx140_2);(try clear hx140_3);(try clear p1);(try clear p14);(try clear p140);(try clear p2);(try clear q1);(try clear q14);(try clear q140)
         obtain ⟨x5_3,rfl,HA,HK3,BK136,BK141,HB⟩:=hrel
         cases gk with
         |zero=>exact absurd HA.out (by simp [tr_Sky.l1])
         |succ k3=>
          have H:=HA.out
          clear HA
          simp only [tr_Sky.l1] at H
          by_cases c27:x5_3<(((rd_T83 l0_0 x3_1).f2).length:Int)
          ·rw [if_pos c27] at H;have c27b0:decide (x5_3<(((rd_T83 l0_0 x3_1).f2).length:Int))=true:=decide_eq_true c27;clear c27
           by_cases c28:0≤x5_3
           ·rw [if_pos c28] at H;have c28b0:decide (0≤x5_3)=true:=decide_eq_true c28;clear c28;replace H:=Option.bind_eq_some_iff.mp H;obtain ⟨t146,A290,H⟩:=H
            replace H:(if t146=true then (tr_Sky.l1 k3 x3_1 (wrap64 (x5_3+1)) l0_0 a0_1 a0_2 a0_3 ((rd_T83 l0_0 x3_1).f0.f0) ((rd_T83 l0_0 x3_1).f0.f1) ((rd_T83 l0_0 x3_1).f1) ((rd_T83 l0_0 x3_1).f2)) else (some false))=some r:=H
            have A29:=A0_ A290;clear A290
            by_cases c30:t146=true
            ·subst c30
             have H1:(tr_Sky.l1 k3 x3_1 (wrap64 (x5_3+1)) l0_0 a0_1 a0_2 a0_3 ((rd_T83 l0_0 x3_1).f0.f0) ((rd_T83 l0_0 x3_1).f0.f1) ((rd_T83 l0_0 x3_1).f1) ((rd_T83 l0_0 x3_1).f2))=some r:=by rw [if_pos rfl] at H;exact H
             clear H;have H:=H1;clear H1
             have H':=A0_ H
             clear H
             have hnb31:=NB141_136.out
             have hnc31:=NB136_141.out
             obtain ⟨hcz32_0,hcz32_1,hcz32_2,hcz32_3,hfz32_0,hfz32_1,hfz32_2,hfz32_3⟩:=bq4_ BK141.out
             have p145:0≤(x5_3:Int):=of_decide_eq_true y2_
             have q145:x5_3<(((rd_T83 l0_0 x3_1).f2).length:Int):=of_decide_eq_true y2_
             obtain ⟨ad145,e145,hx145_0⟩:=Kd.at_int HR140_3.out x5_3 p145 q145
             cases e145
             replace hx145_0:=(HB.out.cell (World.block_lt_of_cell? w _ hx145_0)).trans hx145_0
             replace p145:=eq_true p145
             replace q145:=eq_true q145
             go_wp2_with (first|((with_reducible refine gate_callee (f:=56) rfl ?_);refine goesL_ (some 47) rfl rfl Tryz.func56 (by kernel_rfl) rfl #[.int .i64 (rd ((rd_T83 l0_0 x3_1).f2) x5_3),.int .i64 (-600),.int .i64 600] rfl y1_ ?_;(with_reducible refine (tr_in.calls (rd ((rd_T83 l0_0 x3_1).f2) x5_3) (-600) 600 true _ A29.out).mono ?_);rintro e w' ⟨rfl,⟨nd,rfl⟩⟩;refine ⟨_,rfl,?_⟩))
             go_roundg k3
             case measure=>have:=HK1.out;have:=HJ4.out;have:=HK3.out;omega
             case rel=>exact ⟨(wrap64 (x5_3+1)),y4_,H',⟨by have:=HK1.out;have:=HJ4.out;have:=HK3.out;omega⟩,⟨by (with_reducible repeat (first|refine blk_drewN ?_ _|refine blk_drew ?_|refine blk_alloc ?_ _));exact BK136.out⟩,⟨by (with_reducible repeat (first|refine blk_drewN ?_ _|refine blk_drew ?_|refine blk_alloc ?_ _));exact BK141.out⟩,⟨y1i_⟩⟩
            ·replace c30:=Bool.eq_false_iff.mpr c30;subst c30
             have H1:(some false)=some r:=by rw [if_neg (show ¬ (false=true) by decide)] at H;exact H
             clear H;have H:=H1;clear H1;obtain rfl:=Option.some.inj H
             have hnb33:=NB141_136.out
             have hnc33:=NB136_141.out
             obtain ⟨hcz34_0,hcz34_1,hcz34_2,hcz34_3,hfz34_0,hfz34_1,hfz34_2,hfz34_3⟩:=bq4_ BK141.out
             have p145:0≤(x5_3:Int):=of_decide_eq_true y2_
             have q145:x5_3<(((rd_T83 l0_0 x3_1).f2).length:Int):=of_decide_eq_true y2_
             obtain ⟨ad145,e145,hx145_0⟩:=Kd.at_int HR140_3.out x5_3 p145 q145
             cases e145
             replace hx145_0:=(HB.out.cell (World.block_lt_of_cell? w _ hx145_0)).trans hx145_0
             replace p145:=eq_true p145
             replace q145:=eq_true q145
             go_wp2_with (first|((with_reducible refine gate_callee (f:=56) rfl ?_);refine goesL_ (some 47) rfl rfl Tryz.func56 (by kernel_rfl) rfl #[.int .i64 (rd ((rd_T83 l0_0 x3_1).f2) x5_3),.int .i64 (-600),.int .i64 600] rfl y1_ ?_;(with_reducible refine (tr_in.calls (rd ((rd_T83 l0_0 x3_1).f2) x5_3) (-600) 600 false _ A29.out).mono ?_);rintro e w' ⟨rfl,⟨nd,rfl⟩⟩;refine ⟨_,rfl,?_⟩))
             go_ret
             exact ⟨y3_,y1i_⟩
           ·rw [if_neg c28] at H;exact absurd H (by simp)
          ·rw [if_neg c27] at H;have c27b0:decide (x5_3<(((rd_T83 l0_0 x3_1).f2).length:Int))=false:=decide_eq_false c27;clear c27
           have H':=A0_ H
           clear H
           have hnb35:=NB141_136.out
           have hnc35:=NB136_141.out
           obtain ⟨hcz36_0,hcz36_1,hcz36_2,hcz36_3,hfz36_0,hfz36_1,hfz36_2,hfz36_3⟩:=bq4_ BK141.out;go_wp2
           go_roundg k3
           case measure=>have:=HK1.out;have:=HJ4.out;have:=HK3.out;omega
           case rel=>exact ⟨(wrap64 (x3_1+1)),y4_,H',⟨by have:=HK1.out;have:=HJ4.out;have:=HK3.out;omega⟩,⟨by (with_reducible repeat (first|refine blk_drewN ?_ _|refine blk_drew ?_|refine blk_alloc ?_ _));exact BK136.out⟩,⟨y1i_⟩⟩
    ·rw [if_neg c4] at H;exact absurd H (by simp)
   ·rw [if_neg c3] at H;have c3b0:decide (x3_1<(l0_0.length:Int))=false:=decide_eq_false c3;clear c3;replace H:=Option.bind_eq_some_iff.mp H;obtain ⟨t137,A370,H⟩:=H
    replace H:(if t137=true then ((tr_period.f a0_1 a0_2).bind fun t138=>(if t138=true then ((tr_Spot.f a0_3).bind fun t139=>(some t139)) else (some false))) else (some false))=some r:=H
    have A37:=A0_ A370;clear A370
    by_cases c38:t137=true
    ·subst c38
     have H1:((tr_period.f a0_1 a0_2).bind fun t138=>(if t138=true then ((tr_Spot.f a0_3).bind fun t139=>(some t139)) else (some false)))=some r:=by rw [if_pos rfl] at H;exact H
     clear H;have H:=H1;clear H1;replace H:=Option.bind_eq_some_iff.mp H;obtain ⟨t138,A390,H⟩:=H
     replace H:(if t138=true then ((tr_Spot.f a0_3).bind fun t139=>(some t139)) else (some false))=some r:=H
     have A39:=A0_ A390;clear A390
     by_cases c40:t138=true
     ·subst c40
      have H1:((tr_Spot.f a0_3).bind fun t139=>(some t139))=some r:=by rw [if_pos rfl] at H;exact H
      clear H;have H:=H1;clear H1;replace H:=Option.bind_eq_some_iff.mp H;obtain ⟨t139,A410,H⟩:=H
      replace H:(some t139)=some r:=H
      have A41:=A0_ A410;clear A410;obtain rfl:=Option.some.inj H;obtain ⟨hcz42_0,hcz42_1,hcz42_2,hcz42_3,hfz42_0,hfz42_1,hfz42_2,hfz42_3⟩:=bq4_ BK136.out
      go_wp2_with (first|((with_reducible refine gate_callee (f:=56) rfl ?_);refine goesL_ (some 52) rfl rfl Tryz.func56 (by kernel_rfl) rfl #[.int .i64 (l0_0.length:Int),.int .i64 2,.int .i64 4] rfl y1_ ?_;(with_reducible refine (tr_in.calls (l0_0.length:Int) 2 4 true _ A37.out).mono ?_);rintro e w' ⟨rfl,⟨nd,rfl⟩⟩;refine ⟨_,rfl,?_⟩)|(go_at_call 55;(with_reducible refine (tr_period.calls a0_1 a0_2 true _ A39.out).mono ?_);rintro e w43 ⟨rfl,hb⟩;have n0_:=A0_ (blk_below (g:=gb136) (o:=.cells #[.slice A0_0 l0_0.length c0_0,.int .i64 a0_1,.int .i64 a0_2,.int .i64 a0_3] 28 (0,0)) (bd_ BK136.out) hb);have n1_:=A0_ (below_step y1v_ hb);clear BK136;clear HB;have BK136:=n0_;have HB:=n1_;clear n0_ n1_;(try clear hb);(try clear hb2);(try clear hk);(try clear hi);obtain ⟨hcz44_0,hcz44_1,hcz44_2,hcz44_3,hfz44_0,hfz44_1,hfz44_2,hfz44_3⟩:=bq4_ BK136.out)|(go_at_call 23;(with_reducible refine (tr_Spot.calls a0_3 t139 _ A41.out).mono ?_);rintro e w' ⟨rfl,⟨nd,rfl⟩⟩))
      go_ret
      exact ⟨y3_,y1v_⟩
     ·replace c40:=Bool.eq_false_iff.mpr c40;subst c40
      have H1:(some false)=some r:=by rw [if_neg (show ¬ (false=true) by decide)] at H;exact H
      clear H;have H:=H1;clear H1;obtain rfl:=Option.some.inj H;obtain ⟨hcz45_0,hcz45_1,hcz45_2,hcz45_3,hfz45_0,hfz45_1,hfz45_2,hfz45_3⟩:=bq4_ BK136.out
      go_wp2_with (first|((with_reducible refine gate_callee (f:=56) rfl ?_);refine goesL_ (some 52) rfl rfl Tryz.func56 (by kernel_rfl) rfl #[.int .i64 (l0_0.length:Int),.int .i64 2,.int .i64 4] rfl y1_ ?_;(with_reducible refine (tr_in.calls (l0_0.length:Int) 2 4 true _ A37.out).mono ?_);rintro e w' ⟨rfl,⟨nd,rfl⟩⟩;refine ⟨_,rfl,?_⟩)|(go_at_call 55;(with_reducible refine (tr_period.calls a0_1 a0_2 false _ A39.out).mono ?_);rintro e w46 ⟨rfl,hb⟩;have n0_:=A0_ (blk_below (g:=gb136) (o:=.cells #[.slice A0_0 l0_0.length c0_0,.int .i64 a0_1,.int .i64 a0_2,.int .i64 a0_3] 28 (0,0)) (bd_ BK136.out) hb);have n1_:=A0_ (below_step y1v_ hb);clear BK136;clear HB;have BK136:=n0_;have HB:=n1_;clear n0_ n1_;(try clear hb);(try clear hb2);(try clear hk);(try clear hi)))
      go_ret
      exact ⟨y3_,y1v_⟩
    ·replace c38:=Bool.eq_false_iff.mpr c38;subst c38
     have H1:(some false)=some r:=by rw [if_neg (show ¬ (false=true) by decide)] at H;exact H
     clear H;have H:=H1;clear H1;obtain rfl:=Option.some.inj H;obtain ⟨hcz47_0,hcz47_1,hcz47_2,hcz47_3,hfz47_0,hfz47_1,hfz47_2,hfz47_3⟩:=bq4_ BK136.out
     go_wp2_with (first|((with_reducible refine gate_callee (f:=56) rfl ?_);refine goesL_ (some 52) rfl rfl Tryz.func56 (by kernel_rfl) rfl #[.int .i64 (l0_0.length:Int),.int .i64 2,.int .i64 4] rfl y1_ ?_;(with_reducible refine (tr_in.calls (l0_0.length:Int) 2 4 false _ A37.out).mono ?_);rintro e w' ⟨rfl,⟨nd,rfl⟩⟩;refine ⟨_,rfl,?_⟩))
     go_ret
     exact ⟨y3_,y1v_⟩
end Go.Proofs.YtaidphhkhddemaaGreatDoor.PSky
end
section
namespace Go.Proofs.YtaidphhkhddemaaGreatDoor.PSky
open Go.RowKit Go.Proofs.YtaidphhkhddemaaGreatDoorW.PrintWords Go.Proofs.YtaidphhkhddemaaGreatDoorW.PrintLast Go.Proofs.YtaidphhkhddemaaGreatDoorW.PrintMore
attribute [local go_sem] max2_int min2_int max_two min_two max_three min_three max_four min_four
set_option linter.unusedVariables false
set_option linter.unusedSimpArgs false
def tr_down.f (a0:Int) (a1:Int):Option (Int):=if a1=0 then (none) else (if (wrap64 ((wrap64 (Int.tdiv a0 a1))*a1)) > a0 then (some (wrap64 ((wrap64 (Int.tdiv a0 a1)) - 1))) else (some (wrap64 (Int.tdiv a0 a1))))
set_option maxHeartbeats 8000000 in
set_option maxRecDepth 100000 in
theorem tr_down.calls (a0:Int) (a1:Int) (r:Int) (w:World) (h:tr_down.f a0 a1=some r):
  Calls Tryz.prog 83 #[.int .i64 a0,.int .i64 a1] w fun e w'=>e=.returned (.int .i64 r)∧Drawn0 w w':=by
 have H:(if a1=0 then (none) else (if (wrap64 ((wrap64 (Int.tdiv a0 a1))*a1)) > a0 then (some (wrap64 ((wrap64 (Int.tdiv a0 a1)) - 1))) else (some (wrap64 (Int.tdiv a0 a1)))))=some r:=h
 clear h
 by_cases c3:a1=0
 ·rw [if_pos c3] at H;exact absurd H (by simp)
 ·rw [if_neg c3] at H
  have c3b0:(a1 == 0)=false:=beq_eq_false_iff_ne.mpr c3
  have c3b1:(a1 != 0)=true:=bne_iff_ne.mpr c3
  by_cases c4:(wrap64 ((wrap64 (Int.tdiv a0 a1))*a1)) > a0
  ·rw [if_pos c4] at H;have c4b0:decide (a0<(wrap64 ((wrap64 (Int.tdiv a0 a1))*a1)))=true:=decide_eq_true c4;clear c4;obtain rfl:=Option.some.inj H
   go_enter Tryz.func83,Tryz.ntmps83
   go_wp2;go_ret
   exact ⟨y4_,yb_⟩
  ·rw [if_neg c4] at H;have c4b0:decide (a0<(wrap64 ((wrap64 (Int.tdiv a0 a1))*a1)))=false:=decide_eq_false c4;clear c4;obtain rfl:=Option.some.inj H
   go_enter Tryz.func83,Tryz.ntmps83
   go_wp2;go_ret
   exact ⟨y4_,yb_⟩
def tr_Less.f (a0:Int):Option (Int):=(tr_down.f a0 21600).bind fun t153=>(some (wrap64 (a0 - (wrap64 (t153*21600)))))
set_option maxHeartbeats 8000000 in
set_option maxRecDepth 100000 in
theorem tr_Less.calls (a0:Int) (r:Int) (w:World) (h:tr_Less.f a0=some r):
  Calls Tryz.prog 40 #[.int .i64 a0] w fun e w'=>e=.returned (.int .i64 r)∧Drawn0 w w':=by
 have H:((tr_down.f a0 21600).bind fun t153=>(some (wrap64 (a0 - (wrap64 (t153*21600))))))=some r:=h
 clear h;replace H:=Option.bind_eq_some_iff.mp H;obtain ⟨t153,A20,H⟩:=H
 replace H:(some (wrap64 (a0 - (wrap64 (t153*21600)))))=some r:=H
 have A2:=A0_ A20;clear A20;obtain rfl:=Option.some.inj H
 go_enter Tryz.func40,Tryz.ntmps40
 go_wp2_with (first|((with_reducible refine gate_callee (f:=83) rfl ?_);refine goesL_ (some 5) rfl rfl Tryz.func83 (by kernel_rfl) rfl #[.int .i64 a0,.int .i64 21600] rfl y1_ ?_;(with_reducible refine (tr_down.calls a0 21600 t153 _ A2.out).mono ?_);rintro e w' ⟨rfl,⟨nd,rfl⟩⟩;refine ⟨_,rfl,?_⟩))
 go_ret
 exact ⟨y4_,yb_⟩
end Go.Proofs.YtaidphhkhddemaaGreatDoor.PSky
end
section
namespace Go.Proofs.YtaidphhkhddemaaGreatDoor.PSky
open Go.RowKit Go.Proofs.YtaidphhkhddemaaGreatDoorW.PrintWords Go.Proofs.YtaidphhkhddemaaGreatDoorW.PrintLast Go.Proofs.YtaidphhkhddemaaGreatDoorW.PrintMore
attribute [local go_sem] max2_int min2_int max_two min_two max_three min_three max_four min_four
set_option linter.unusedVariables false
set_option linter.unusedSimpArgs false
def tr_passed.f (a0:Int) (a1:Int):Option (Bool):=(tr_down.f a1 21600).bind fun t151=>((tr_down.f a0 21600).bind fun t152=>(some (decide (t151 > t152))))
set_option maxHeartbeats 8000000 in
set_option maxRecDepth 100000 in
theorem tr_passed.calls (a0:Int) (a1:Int) (r:Bool) (w:World) (h:tr_passed.f a0 a1=some r):
  Calls Tryz.prog 102 #[.int .i64 a0,.int .i64 a1] w fun e w'=>e=.returned (.bool r)∧Drawn0 w w':=by
 have H:((tr_down.f a1 21600).bind fun t151=>((tr_down.f a0 21600).bind fun t152=>(some (decide (t151 > t152)))))=some r:=h
 clear h;replace H:=Option.bind_eq_some_iff.mp H;obtain ⟨t151,A30,H⟩:=H
 replace H:((tr_down.f a0 21600).bind fun t152=>(some (decide (t151 > t152))))=some r:=H
 have A3:=A0_ A30;clear A30;replace H:=Option.bind_eq_some_iff.mp H;obtain ⟨t152,A40,H⟩:=H
 replace H:(some (decide (t151 > t152)))=some r:=H
 have A4:=A0_ A40;clear A40;obtain rfl:=Option.some.inj H
 go_enter Tryz.func102,Tryz.ntmps102
 go_wp2_with (first|((with_reducible refine gate_callee (f:=83) rfl ?_);refine goesL_ (some 6) rfl rfl Tryz.func83 (by kernel_rfl) rfl #[.int .i64 a1,.int .i64 21600] rfl y1_ ?_;(with_reducible refine (tr_down.calls a1 21600 t151 _ A3.out).mono ?_);rintro e w' ⟨rfl,⟨nd,rfl⟩⟩;refine ⟨_,rfl,?_⟩)|((with_reducible refine gate_callee (f:=83) rfl ?_);refine goesL_ (some 8) rfl rfl Tryz.func83 (by kernel_rfl) rfl #[.int .i64 a0,.int .i64 21600] rfl y1_ ?_;(with_reducible refine (tr_down.calls a0 21600 t152 _ A4.out).mono ?_);rintro e w' ⟨rfl,⟨nd,rfl⟩⟩;refine ⟨_,rfl,?_⟩))
 go_ret
 exact ⟨y4_,yb_⟩
def tr_mean.f (a0_0:Int) (a0_1:Int) (a0_2:Int) (l0_3:List Int) (a1:Int):Option (Int):=if a0_0=0 then (none) else (some (wrap64 (a0_2+(wrap64 (Int.tdiv (wrap64 ((wrap64 (a1*21600))*a0_1)) a0_0)))))
set_option maxHeartbeats 8000000 in
set_option maxRecDepth 100000 in
theorem tr_mean.calls (a0_0:Int) (a0_1:Int) (a0_2:Int) (A0_3:Option Addr) (c0_3:Nat) (l0_3:List Int) (a1:Int) (r:Int) (w:World) (hr0_3:Kd.C (Kd.int .i64) w A0_3 l0_3.length l0_3) (hc0_3:l0_3.length≤c0_3) (h:tr_mean.f a0_0 a0_1 a0_2 l0_3 a1=some r):
  Calls Tryz.prog 137 #[.agg #[.int .i64 a0_0,.int .i64 a0_1,.int .i64 a0_2,.slice A0_3 l0_3.length c0_3],.int .i64 a1] w fun e w'=>e=.returned (.int .i64 r)∧Below w.heap.size w w':=by
 have hu83:=Tryz.underlying83
 have HR0_3:=A0_ hr0_3;have HC0_3:=A0_ hc0_3;clear hr0_3 hc0_3
 have HB:=A0_ (Below.refl w.heap.size w)
 have H:(if a0_0=0 then (none) else (some (wrap64 (a0_2+(wrap64 (Int.tdiv (wrap64 ((wrap64 (a1*21600))*a0_1)) a0_0))))))=some r:=h
 clear h
 by_cases c3:a0_0=0
 ·rw [if_pos c3] at H;exact absurd H (by simp)
 ·rw [if_neg c3] at H
  have c3b0:(a0_0 == 0)=false:=beq_eq_false_iff_ne.mpr c3
  have c3b1:(a0_0 != 0)=true:=bne_iff_ne.mpr c3
  obtain rfl:=Option.some.inj H
  go_enter Tryz.func137,Tryz.ntmps137
  go_wp2_with (first|((with_reducible refine gate_dst (N:=2) rfl ?_);refine box_event ?hg (N:=2) ?hd (cs:=#[.int .i64 a0_0,.int .i64 a0_1,.int .i64 a0_2,.slice A0_3 l0_3.length c0_3]) (t:=83) ?hr ?_;(case hd=>rfl);(case hg=>rfl);(case hr=>first|(go_simp;done)|(go_simp;rfl));intro gb154 hg w4 hbox hb;have n0_:=A0_ (below_step y0_ hb);have n1_:=A0_ (hbox);have n2_:=A0_ ((by rw [hg];exact (below_size y0_):w.heap.size≤gb154));have n3_:=A0_ ((by rw [hg];exact (below_size y0_):w.heap.size≤gb154));clear HB;have HB:=n0_;have BK154:=n1_;have GW154:=n2_;have GE154:=n3_;clear n0_ n1_ n2_ n3_;clear hb hbox hg;obtain ⟨hcz5_0,hcz5_1,hcz5_2,hcz5_3,hfz5_0,hfz5_1,hfz5_2,hfz5_3⟩:=bq4_ BK154.out))
  repeat (go_quiet (first|((with_reducible refine gate_dst (N:=2) rfl ?_);refine box_event ?hg (N:=2) ?hd (cs:=#[.int .i64 a0_0,.int .i64 a0_1,.int .i64 a0_2,.slice A0_3 l0_3.length c0_3]) (t:=83) ?hr ?_;(case hd=>rfl);(case hg=>rfl);(case hr=>first|(go_simp;done)|(go_simp;rfl));intro gb154 hg w4 hbox hb;have n0_:=A0_ (below_step y0_ hb);have n1_:=A0_ (hbox);have n2_:=A0_ ((by rw [hg];exact (below_size y0_):w.heap.size≤gb154));have n3_:=A0_ ((by rw [hg];exact (below_size y0_):w.heap.size≤gb154));clear HB;have HB:=n0_;have BK154:=n1_;have GW154:=n2_;have GE154:=n3_;clear n0_ n1_ n2_ n3_;clear hb hbox hg;obtain ⟨hcz5_0,hcz5_1,hcz5_2,hcz5_3,hfz5_0,hfz5_1,hfz5_2,hfz5_3⟩:=bq4_ BK154.out));try go_wp2_with (first|((with_reducible refine gate_dst (N:=2) rfl ?_);refine box_event ?hg (N:=2) ?hd (cs:=#[.int .i64 a0_0,.int .i64 a0_1,.int .i64 a0_2,.slice A0_3 l0_3.length c0_3]) (t:=83) ?hr ?_;(case hd=>rfl);(case hg=>rfl);(case hr=>first|(go_simp;done)|(go_simp;rfl));intro gb154 hg w4 hbox hb;have n0_:=A0_ (below_step y0_ hb);have n1_:=A0_ (hbox);have n2_:=A0_ ((by rw [hg];exact (below_size y0_):w.heap.size≤gb154));have n3_:=A0_ ((by rw [hg];exact (below_size y0_):w.heap.size≤gb154));clear HB;have HB:=n0_;have BK154:=n1_;have GW154:=n2_;have GE154:=n3_;clear n0_ n1_ n2_ n3_;clear hb hbox hg;obtain ⟨hcz5_0,hcz5_1,hcz5_2,hcz5_3,hfz5_0,hfz5_1,hfz5_2,hfz5_3⟩:=bq4_ BK154.out)))
  go_ret
  exact ⟨y3_,(by repeat (first|(with_reducible first|exact HB.out|apply below_alloc|apply pw_below_drewN|apply below_drew1|refine below_set ?_ GE154.out)|exact HB.out))⟩
def tr_Mean.f (a0_0:Int) (a0_1:Int) (a0_2:Int) (l0_3:List Int) (a1:Int):Option (Int):=(tr_mean.f a0_0 a0_1 a0_2 l0_3 a1).bind fun t156=>((tr_Less.f t156).bind fun t157=>(some t157))
set_option maxHeartbeats 8000000 in
set_option maxRecDepth 100000 in
theorem tr_Mean.calls (a0_0:Int) (a0_1:Int) (a0_2:Int) (A0_3:Option Addr) (c0_3:Nat) (l0_3:List Int) (a1:Int) (r:Int) (w:World) (hr0_3:Kd.C (Kd.int .i64) w A0_3 l0_3.length l0_3) (hc0_3:l0_3.length≤c0_3) (h:tr_Mean.f a0_0 a0_1 a0_2 l0_3 a1=some r):
  Calls Tryz.prog 136 #[.agg #[.int .i64 a0_0,.int .i64 a0_1,.int .i64 a0_2,.slice A0_3 l0_3.length c0_3],.int .i64 a1] w fun e w'=>e=.returned (.int .i64 r)∧Below w.heap.size w w':=by
 have hu83:=Tryz.underlying83
 have HR0_3:=A0_ hr0_3;have HC0_3:=A0_ hc0_3;clear hr0_3 hc0_3
 have HB:=A0_ (Below.refl w.heap.size w)
 have H:((tr_mean.f a0_0 a0_1 a0_2 l0_3 a1).bind fun t156=>((tr_Less.f t156).bind fun t157=>(some t157)))=some r:=h
 clear h;replace H:=Option.bind_eq_some_iff.mp H;obtain ⟨t156,A30,H⟩:=H
 replace H:((tr_Less.f t156).bind fun t157=>(some t157))=some r:=H
 have A3:=A0_ A30;clear A30;replace H:=Option.bind_eq_some_iff.mp H;obtain ⟨t157,A40,H⟩:=H
 replace H:(some t157)=some r:=H
 have A4:=A0_ A40;clear A40;obtain rfl:=Option.some.inj H
 go_enter Tryz.func136,Tryz.ntmps136
 go_wp2_with (first|((with_reducible refine gate_dst (N:=2) rfl ?_);refine box_event ?hg (N:=2) ?hd (cs:=#[.int .i64 a0_0,.int .i64 a0_1,.int .i64 a0_2,.slice A0_3 l0_3.length c0_3]) (t:=83) ?hr ?_;(case hd=>rfl);(case hg=>rfl);(case hr=>first|(go_simp;done)|(go_simp;rfl));intro gb155 hg w5 hbox hb;have n0_:=A0_ (below_step y0_ hb);have n1_:=A0_ (hbox);have n2_:=A0_ ((by rw [hg];exact (below_size y0_):w.heap.size≤gb155));have n3_:=A0_ ((by rw [hg];exact (below_size y0_):w.heap.size≤gb155));clear HB;have HB:=n0_;have BK155:=n1_;have GW155:=n2_;have GE155:=n3_;clear n0_ n1_ n2_ n3_;clear hb hbox hg;obtain ⟨hcz6_0,hcz6_1,hcz6_2,hcz6_3,hfz6_0,hfz6_1,hfz6_2,hfz6_3⟩:=bq4_ BK155.out)|((with_reducible refine gate_callee (f:=137) rfl ?_);refine goesL_ (some 7) rfl rfl Tryz.func137 (by kernel_rfl) rfl #[.agg #[.int .i64 a0_0,.int .i64 a0_1,.int .i64 a0_2,.slice A0_3 l0_3.length c0_3],.int .i64 a1] rfl y1_ ?_;(with_reducible refine (tr_mean.calls a0_0 a0_1 a0_2 _ _ l0_3 a1 t156 _ ?side1 ?side2 A3.out).mono ?_);(case side1=>repeat (first|exact (Kd.C_below HR0_3.out HB.out)|(with_reducible refine Kd.C_alloc ?_ _)|(with_reducible refine Kd.C_drewN ?_ _)|(with_reducible refine Kd.C_drew ?_)));(case side2=>exact HC0_3.out);rintro e w7 ⟨rfl,hb⟩;refine ⟨_,rfl,?_⟩;have n0_:=A0_ (blk_below (g:=gb155) (o:=.cells #[.int .i64 a0_0,.int .i64 a0_1,.int .i64 a0_2,.slice A0_3 l0_3.length c0_3] 83 (0,0)) (bd_ BK155.out) hb);have n1_:=A0_ (below_step y46_ hb);clear BK155;clear HB;have BK155:=n0_;have HB:=n1_;clear n0_ n1_;(try clear hb);(try clear hb2);(try clear hk);(try clear hi))|((with_reducible refine gate_callee (f:=40) rfl ?_);refine goesL_ (some 8) rfl rfl Tryz.func40 (by kernel_rfl) rfl #[.int .i64 t156] rfl y1_ ?_;(with_reducible refine (tr_Less.calls t156 t157 _ A4.out).mono ?_);rintro e w' ⟨rfl,⟨nd,rfl⟩⟩;refine ⟨_,rfl,?_⟩))
 go_ret
 exact ⟨y3_,y46_⟩
def tr_way.f (a0_0:Int) (a0_1:Int) (a0_2:Int) (l0_3:List Int) (a1:Int):Option (Int):=(tr_Mean.f a0_0 a0_1 a0_2 l0_3 a1).bind fun t159=>(if (l0_3.length:Int)=0 then (none) else (if 0≤(Int.tmod (wrap64 ((wrap64 (Int.tdiv (wrap64 (t159*(l0_3.length:Int))) 21600))+1)) (l0_3.length:Int)) then (if (Int.tmod (wrap64 ((wrap64 (Int.tdiv (wrap64 (t159*(l0_3.length:Int))) 21600))+1)) (l0_3.length:Int))<(l0_3.length:Int) then ((tr_mean.f a0_0 a0_1 a0_2 l0_3 a1).bind fun t161=>(if 0≤(wrap64 (Int.tdiv (wrap64 (t159*(l0_3.length:Int))) 21600)) then (if (wrap64 (Int.tdiv (wrap64 (t159*(l0_3.length:Int))) 21600))<(l0_3.length:Int) then ((tr_down.f (wrap64 ((wrap64 ((rd l0_3 (Int.tmod (wrap64 ((wrap64 (Int.tdiv (wrap64 (t159*(l0_3.length:Int))) 21600))+1)) (l0_3.length:Int))) - (rd l0_3 (wrap64 (Int.tdiv (wrap64 (t159*(l0_3.length:Int))) 21600)))))*(Int.tmod (wrap64 (t159*(l0_3.length:Int))) 21600))) 21600).bind fun t164=>(some (wrap64 ((wrap64 (t161+(rd l0_3 (wrap64 (Int.tdiv (wrap64 (t159*(l0_3.length:Int))) 21600)))))+t164)))) else (none)) else (none))) else (none)) else (none)))
def tr_way.T1:Bool × List (List Nat × List Nat):=(true,[([],[]),([],[]),([0,1],[0,1]),([],[]),([3],[3]),([4],[4]),([2,5],[2,5]),([6,2,0,1,2,3,4,5,6],[6])])
def tr_way.B1:List Nat:=[0,0,3,0,8,24,63,127]
theorem tr_way.tab1:rtab .any (opsOf Tryz.f127 1)=tr_way.T1:=by kernel_rfl
theorem tr_way.bits1:waitsOk tr_way.T1.2 tr_way.B1=true:=by kernel_rfl
def tr_way.T3:Bool × List (List Nat × List Nat):=(true,[([],[]),([0],[0]),([],[]),([2],[2]),([],[]),([4],[4]),([5],[5]),([3,6],[3,6]),([1,7],[1,7]),([8],[8]),([9,0,1,2,3,4,5,6,7,8,9],[9])])
def tr_way.B3:List Nat:=[0,1,0,4,0,16,48,124,255,511,1023]
theorem tr_way.tab3:rtab .any (opsOf Tryz.f127 3)=tr_way.T3:=by kernel_rfl
theorem tr_way.bits3:waitsOk tr_way.T3.2 tr_way.B3=true:=by kernel_rfl
def tr_way.T4:Bool × List (List Nat × List Nat):=(true,[([],[]),([],[]),([0,1],[0,1]),([],[]),([3],[3]),([],[]),([4,5],[4,5]),([6],[6]),([2,7],[2,7]),([],[]),([],[]),([10],[10]),([],[]),([11,12],[11,12]),([13],[13]),([9,14],[9,14]),([],[]),([16],[16]),([15,17],[15,17]),([18,2],[18]),([8,19],[8,19]),([20,19,0,1,2,3,4,5,6,7,8,9,10,11,12,13,14,15,16,17,18,19,20],[20])])
def tr_way.B4:List Nat:=[0,0,3,0,8,0,56,120,255,0,0,1024,0,7168,15360,32256,0,65536,261632,523783,1048575,2097151]
theorem tr_way.tab4:rtab .any (opsOf Tryz.f127 4)=tr_way.T4:=by kernel_rfl
theorem tr_way.bits4:waitsOk tr_way.T4.2 tr_way.B4=true:=by kernel_rfl
set_option maxHeartbeats 8000000 in
set_option maxRecDepth 100000 in
theorem tr_way.calls (a0_0:Int) (a0_1:Int) (a0_2:Int) (A0_3:Option Addr) (c0_3:Nat) (l0_3:List Int) (a1:Int) (r:Int) (w:World) (hr0_3:Kd.C (Kd.int .i64) w A0_3 l0_3.length l0_3) (hc0_3:l0_3.length≤c0_3) (h:tr_way.f a0_0 a0_1 a0_2 l0_3 a1=some r):
  Calls Tryz.prog 127 #[.agg #[.int .i64 a0_0,.int .i64 a0_1,.int .i64 a0_2,.slice A0_3 l0_3.length c0_3],.int .i64 a1] w fun e w'=>e=.returned (.int .i64 r)∧Below w.heap.size w w':=by
 have hu83:=Tryz.underlying83
 have HR0_3:=A0_ hr0_3;have HC0_3:=A0_ hc0_3;clear hr0_3 hc0_3
 have HB:=A0_ (Below.refl w.heap.size w)
 have H:((tr_Mean.f a0_0 a0_1 a0_2 l0_3 a1).bind fun t159=>(if (l0_3.length:Int)=0 then (none) else (if 0≤(Int.tmod (wrap64 ((wrap64 (Int.tdiv (wrap64 (t159*(l0_3.length:Int))) 21600))+1)) (l0_3.length:Int)) then (if (Int.tmod (wrap64 ((wrap64 (Int.tdiv (wrap64 (t159*(l0_3.length:Int))) 21600))+1)) (l0_3.length:Int))<(l0_3.length:Int) then ((tr_mean.f a0_0 a0_1 a0_2 l0_3 a1).bind fun t161=>(if 0≤(wrap64 (Int.tdiv (wrap64 (t159*(l0_3.length:Int))) 21600)) then (if (wrap64 (Int.tdiv (wrap64 (t159*(l0_3.length:Int))) 21600))<(l0_3.length:Int) then ((tr_down.f (wrap64 ((wrap64 ((rd l0_3 (Int.tmod (wrap64 ((wrap64 (Int.tdiv (wrap64 (t159*(l0_3.length:Int))) 21600))+1)) (l0_3.length:Int))) - (rd l0_3 (wrap64 (Int.tdiv (wrap64 (t159*(l0_3.length:Int))) 21600)))))*(Int.tmod (wrap64 (t159*(l0_3.length:Int))) 21600))) 21600).bind fun t164=>(some (wrap64 ((wrap64 (t161+(rd l0_3 (wrap64 (Int.tdiv (wrap64 (t159*(l0_3.length:Int))) 21600)))))+t164)))) else (none)) else (none))) else (none)) else (none))))=some r:=h
 clear h;replace H:=Option.bind_eq_some_iff.mp H;obtain ⟨t159,A30,H⟩:=H
 replace H:(if (l0_3.length:Int)=0 then (none) else (if 0≤(Int.tmod (wrap64 ((wrap64 (Int.tdiv (wrap64 (t159*(l0_3.length:Int))) 21600))+1)) (l0_3.length:Int)) then (if (Int.tmod (wrap64 ((wrap64 (Int.tdiv (wrap64 (t159*(l0_3.length:Int))) 21600))+1)) (l0_3.length:Int))<(l0_3.length:Int) then ((tr_mean.f a0_0 a0_1 a0_2 l0_3 a1).bind fun t161=>(if 0≤(wrap64 (Int.tdiv (wrap64 (t159*(l0_3.length:Int))) 21600)) then (if (wrap64 (Int.tdiv (wrap64 (t159*(l0_3.length:Int))) 21600))<(l0_3.length:Int) then ((tr_down.f (wrap64 ((wrap64 ((rd l0_3 (Int.tmod (wrap64 ((wrap64 (Int.tdiv (wrap64 (t159*(l0_3.length:Int))) 21600))+1)) (l0_3.length:Int))) - (rd l0_3 (wrap64 (Int.tdiv (wrap64 (t159*(l0_3.length:Int))) 21600)))))*(Int.tmod (wrap64 (t159*(l0_3.length:Int))) 21600))) 21600).bind fun t164=>(some (wrap64 ((wrap64 (t161+(rd l0_3 (wrap64 (Int.tdiv (wrap64 (t159*(l0_3.length:Int))) 21600)))))+t164)))) else (none)) else (none))) else (none)) else (none)))=some r:=H
 have A3:=A0_ A30;clear A30
 by_cases c4:(l0_3.length:Int)=0
 ·rw [if_pos c4] at H;exact absurd H (by simp)
 ·rw [if_neg c4] at H
  have c4b0:((l0_3.length:Int) == 0)=false:=beq_eq_false_iff_ne.mpr c4
  have c4b1:((l0_3.length:Int) != 0)=true:=bne_iff_ne.mpr c4
  have c4b2:¬ (l0_3=[]):=fun h_=>c4 (by rw [h_];rfl)
  obtain ⟨ji5,hji5⟩:∃ j_:Int,(Int.tmod (wrap64 ((wrap64 (Int.tdiv (wrap64 (t159*(l0_3.length:Int))) 21600))+1)) (l0_3.length:Int))=j_:=⟨_,rfl⟩
  replace H:(if 0≤(ji5) then (if (ji5)<(l0_3.length:Int) then ((tr_mean.f a0_0 a0_1 a0_2 l0_3 a1).bind fun t161=>(if 0≤(wrap64 (Int.tdiv (wrap64 (t159*(l0_3.length:Int))) 21600)) then (if (wrap64 (Int.tdiv (wrap64 (t159*(l0_3.length:Int))) 21600))<(l0_3.length:Int) then ((tr_down.f (wrap64 ((wrap64 ((rd l0_3 (ji5)) - (rd l0_3 (wrap64 (Int.tdiv (wrap64 (t159*(l0_3.length:Int))) 21600)))))*(Int.tmod (wrap64 (t159*(l0_3.length:Int))) 21600))) 21600).bind fun t164=>(some (wrap64 ((wrap64 (t161+(rd l0_3 (wrap64 (Int.tdiv (wrap64 (t159*(l0_3.length:Int))) 21600)))))+t164)))) else (none)) else (none))) else (none)) else (none))=some r:=by first|(rw [hji5] at H;exact H)|(simp only [hji5] at H ⊢;exact H)
  (try rw [hji5] at A3)
  by_cases c6:0≤(ji5)
  ·rw [if_pos c6] at H;have c6b0:decide (0≤(ji5))=true:=decide_eq_true c6;clear c6
   by_cases c7:(ji5)<(l0_3.length:Int)
   ·rw [if_pos c7] at H;have c7b0:decide ((ji5)<(l0_3.length:Int))=true:=decide_eq_true c7;clear c7;replace H:=Option.bind_eq_some_iff.mp H;obtain ⟨t161,A80,H⟩:=H
    replace H:(if 0≤(wrap64 (Int.tdiv (wrap64 (t159*(l0_3.length:Int))) 21600)) then (if (wrap64 (Int.tdiv (wrap64 (t159*(l0_3.length:Int))) 21600))<(l0_3.length:Int) then ((tr_down.f (wrap64 ((wrap64 ((rd l0_3 (ji5)) - (rd l0_3 (wrap64 (Int.tdiv (wrap64 (t159*(l0_3.length:Int))) 21600)))))*(Int.tmod (wrap64 (t159*(l0_3.length:Int))) 21600))) 21600).bind fun t164=>(some (wrap64 ((wrap64 (t161+(rd l0_3 (wrap64 (Int.tdiv (wrap64 (t159*(l0_3.length:Int))) 21600)))))+t164)))) else (none)) else (none))=some r:=H
    have A8:=A0_ A80;clear A80
    obtain ⟨ji9,hji9⟩:∃ j_:Int,(wrap64 (Int.tdiv (wrap64 (t159*(l0_3.length:Int))) 21600))=j_:=⟨_,rfl⟩
    replace H:(if 0≤(ji9) then (if (ji9)<(l0_3.length:Int) then ((tr_down.f (wrap64 ((wrap64 ((rd l0_3 (ji5)) - (rd l0_3 (ji9))))*(Int.tmod (wrap64 (t159*(l0_3.length:Int))) 21600))) 21600).bind fun t164=>(some (wrap64 ((wrap64 (t161+(rd l0_3 (ji9))))+t164)))) else (none)) else (none))=some r:=by first|(rw [hji9] at H;exact H)|(simp only [hji9] at H ⊢;exact H)
    (try rw [hji9] at hji5)
    (try rw [hji9] at A3)
    (try rw [hji9] at A8)
    have hji9w:(IntKind.i64.wrap (Int.tdiv (wrap64 (t159*(l0_3.length:Int))) 21600))=ji9:=(i64_w _).trans hji9
    by_cases c10:0≤(ji9)
    ·rw [if_pos c10] at H;have c10b0:decide (0≤(ji9))=true:=decide_eq_true c10;clear c10
     by_cases c11:(ji9)<(l0_3.length:Int)
     ·rw [if_pos c11] at H;have c11b0:decide ((ji9)<(l0_3.length:Int))=true:=decide_eq_true c11;clear c11;replace H:=Option.bind_eq_some_iff.mp H;obtain ⟨t164,A120,H⟩:=H
      replace H:(some (wrap64 ((wrap64 (t161+(rd l0_3 (ji9))))+t164)))=some r:=H
      have A12:=A0_ A120;clear A120;obtain rfl:=Option.some.inj H
      go_enter Tryz.func127,Tryz.ntmps127
      try go_wp2_with (first|((with_reducible refine gate_dst (N:=2) rfl ?_);refine box_event ?hg (N:=2) ?hd (cs:=#[.int .i64 a0_0,.int .i64 a0_1,.int .i64 a0_2,.slice A0_3 l0_3.length c0_3]) (t:=83) ?hr ?_;(case hd=>rfl);(case hg=>rfl);(case hr=>first|(go_simp;done)|(go_simp;rfl));intro gb158 hg w13 hbox hb;have n0_:=A0_ (below_step y0_ hb);have n1_:=A0_ (hbox);have n2_:=A0_ ((by rw [hg];exact (below_size y0_):w.heap.size≤gb158));have n3_:=A0_ ((by rw [hg];exact (below_size y0_):w.heap.size≤gb158));clear HB;have HB:=n0_;have BK158:=n1_;have GW158:=n2_;have GE158:=n3_;clear n0_ n1_ n2_ n3_;clear hb hbox hg))
      have n0_:=A0_ (blk_drew BK158.out);have n1_:=A0_ (below_drew1 HB.out);clear BK158;clear HB;have BK158:=n0_;have HB:=n1_;clear n0_ n1_
      refine start_ (n:=8) (S:=fun w'=>w'.cell? ⟨gb158,0,none⟩=some (.int .i64 a0_0)∧w'.cell? ⟨gb158,1,none⟩=some (.int .i64 a0_1)∧w'.cell? ⟨gb158,2,none⟩=some (.int .i64 a0_2)∧w'.cell? ⟨gb158,3,none⟩=some (.slice A0_3 l0_3.length c0_3)) (ds:=[]) #[false,false,false,false,false,false,false,false] (by kernel_rfl) rfl rfl ⟨(blk_cell BK158.out 0).trans rfl,(blk_cell BK158.out 1).trans rfl,(blk_cell BK158.out 2).trans rfl,(blk_cell BK158.out 3).trans rfl⟩ (fun hHeld=>?_);refine with_tabW tr_way.tab1 tr_way.bits1 (fun HT_ HW_=>?_)
      generalize w13.drew=w14 at BK158 HB hHeld ⊢
      refine pu_ (i:=1) (N:=some 9) ?_;refine pu_ (i:=3) (N:=some 11) ?_;refine ta_ (i:=0) (N:=some 8) ?_;refine ta_ (i:=4) (N:=some 12) ?_;refine pu_ (i:=5) (N:=some 13) ?_
      refine one_ (i:=2) (N:=some 10) #[true,true,true,true,true,true,false,false] rfl rfl (one_of HT_.out (by kernel_rfl)) (by decide) (fun K hK=>?_)
      refine goes_ Tryz.func136 (by kernel_rfl) rfl #[.agg #[.int .i64 a0_0,.int .i64 a0_1,.int .i64 a0_2,.slice A0_3 l0_3.length c0_3],.int .i64 a1] (by rfl) rfl rfl y1_ ?_
      with_reducible refine (tr_Mean.calls a0_0 a0_1 a0_2 _ _ l0_3 a1 t159 _ ?side1 ?side2 A3.out).mono ?_
      (case side1=>repeat (first|exact (Kd.C_below HR0_3.out HB.out)|(with_reducible refine Kd.C_alloc ?_ _)|(with_reducible refine Kd.C_drewN ?_ _)|(with_reducible refine Kd.C_drew ?_)))
      (case side2=>exact HC0_3.out)
      rintro e w15 ⟨rfl,hb⟩
      refine ⟨_,rfl,?_⟩
      have n0_:=A0_ (blk_below (g:=gb158) (o:=.cells #[.int .i64 a0_0,.int .i64 a0_1,.int .i64 a0_2,.slice A0_3 l0_3.length c0_3] 83 (0,0)) (bd_ BK158.out) hb);have n1_:=A0_ (below_step y3x_ hb);clear BK158;clear HB;have BK158:=n0_;have HB:=n1_;clear n0_ n1_;(try clear hb);(try clear hb2);(try clear hk);(try clear hi)
      refine hK.out _ _ ⟨(blk_cell BK158.out 0).trans rfl,(blk_cell BK158.out 1).trans rfl,(blk_cell BK158.out 2).trans rfl,(blk_cell BK158.out 3).trans rfl⟩ (fun hHeld=>?_)
      clear hK K
      refine norm_ (a':=?_) ?_ ?_
      rotate_left
      ·show Act.put _ (some 10) _=_
       simp only [Act.put,List.setIfInBounds_toArray,List.set_cons_zero,List.set_cons_succ,i64_w,i32_w]
       rfl
      refine pu_ (i:=6) (N:=some 14) ?_;refine pu_ (i:=7) (N:=some 5) ?_
      refine done_ (done_of HT_.out (by kernel_rfl)) ?_
      try go_wp2
      have n0_:=A0_ (blk_drew BK158.out);have n1_:=A0_ (below_drew1 HB.out);clear BK158;clear HB;have BK158:=n0_;have HB:=n1_;clear n0_ n1_
      have p160:0≤((ji5):Int):=of_decide_eq_true y2_
      have q160:(ji5)<(l0_3.length:Int):=of_decide_eq_true y2_
      obtain ⟨ad160,e160,hx160_0⟩:=Kd.at_int HR0_3.out (ji5) p160 q160
      have hw160_0:=hx160_0
      cases e160
      replace hx160_0:=(HB.out.cell (World.block_lt_of_cell? w _ hx160_0)).trans hx160_0
      replace p160:=eq_true p160
      replace q160:=eq_true q160
      refine start_ (n:=11) (S:=fun w'=>w'.cell? ⟨gb158,0,none⟩=some (.int .i64 a0_0)∧w'.cell? ⟨gb158,1,none⟩=some (.int .i64 a0_1)∧w'.cell? ⟨gb158,2,none⟩=some (.int .i64 a0_2)∧w'.cell? ⟨gb158,3,none⟩=some (.slice (some ad160) l0_3.length c0_3)∧w'.cell? (ad160.add ((ji5)).toNat)=some (.int .i64 (rd l0_3 (ji5)))) (ds:=[]) #[false,false,false,false,false,false,false,false,false,false,false] (by kernel_rfl) rfl rfl ⟨(blk_cell BK158.out 0).trans rfl,(blk_cell BK158.out 1).trans rfl,(blk_cell BK158.out 2).trans rfl,(blk_cell BK158.out 3).trans rfl,((HB.out.cell (World.block_lt_of_cell? w _ hw160_0)).trans hw160_0)⟩ (fun hHeld=>?_);refine with_tabW tr_way.tab3 tr_way.bits3 (fun HT_ HW_=>?_)
      generalize w15.drew=w16 at BK158 HB hx160_0 hHeld ⊢
      refine pu_ (i:=0) (N:=some 17) ?_;refine pu_ (i:=2) (N:=some 19) ?_;refine pu_ (i:=3) (N:=some 20) ?_;refine pu_ (i:=4) (N:=some 21) ?_;refine ta_ (i:=1) (N:=some 18) ?_;refine ta_ (i:=5) (N:=some 22) ?_;refine pu_ (i:=6) (N:=some 23) ?_;refine pu_ (i:=7) (N:=some 24) ?_;refine pu_ (i:=8) (N:=some 25) ?_;refine ta_ (i:=9) (N:=some 26) ?_;refine pu_ (i:=10) (N:=some 7) ?_
      refine done_ (done_of HT_.out (by kernel_rfl)) ?_
      try go_wp2
      have n0_:=A0_ (blk_drew BK158.out);have n1_:=A0_ (below_drew1 HB.out);clear BK158;clear HB;have BK158:=n0_;have HB:=n1_;clear n0_ n1_
      have p162:0≤((ji9):Int):=of_decide_eq_true y2_
      have q162:(ji9)<(l0_3.length:Int):=of_decide_eq_true y2_
      obtain ⟨ad162,e162,hx162_0⟩:=Kd.at_int HR0_3.out (ji9) p162 q162
      have hw162_0:=hx162_0
      obtain rfl:ad160=ad162:=(by injection e162)
      replace hx162_0:=(HB.out.cell (World.block_lt_of_cell? w _ hx162_0)).trans hx162_0
      replace p162:=eq_true p162
      replace q162:=eq_true q162
      have p163:0≤((ji9):Int):=of_decide_eq_true y2_
      have q163:(ji9)<(l0_3.length:Int):=of_decide_eq_true y2_
      obtain ⟨ad163,e163,hx163_0⟩:=Kd.at_int HR0_3.out (ji9) p163 q163
      have hw163_0:=hx163_0
      obtain rfl:ad160=ad163:=(by injection e163)
      replace hx163_0:=(HB.out.cell (World.block_lt_of_cell? w _ hx163_0)).trans hx163_0
      replace p163:=eq_true p163
      replace q163:=eq_true q163
      refine start_ (n:=22) (S:=fun w'=>w'.cell? ⟨gb158,0,none⟩=some (.int .i64 a0_0)∧w'.cell? ⟨gb158,1,none⟩=some (.int .i64 a0_1)∧w'.cell? ⟨gb158,2,none⟩=some (.int .i64 a0_2)∧w'.cell? ⟨gb158,3,none⟩=some (.slice (some ad160) l0_3.length c0_3)∧w'.cell? (ad160.add ((ji9)).toNat)=some (.int .i64 (rd l0_3 (ji9)))∧w'.cell? (ad160.add ((ji9)).toNat)=some (.int .i64 (rd l0_3 (ji9)))) (ds:=[]) #[false,false,false,false,false,false,false,false,false,false,false,false,false,false,false,false,false,false,false,false,false,false] (by kernel_rfl) rfl rfl ⟨(blk_cell BK158.out 0).trans rfl,(blk_cell BK158.out 1).trans rfl,(blk_cell BK158.out 2).trans rfl,(blk_cell BK158.out 3).trans rfl,((HB.out.cell (World.block_lt_of_cell? w _ hw162_0)).trans hw162_0),((HB.out.cell (World.block_lt_of_cell? w _ hw163_0)).trans hw163_0)⟩ (fun hHeld=>?_);refine with_tabW tr_way.tab4 tr_way.bits4 (fun HT_ HW_=>?_)
      generalize w16.drew=w17 at BK158 HB hx162_0 hx163_0 hHeld ⊢
      refine pu_ (i:=1) (N:=some 28) ?_;refine pu_ (i:=3) (N:=some 30) ?_;refine pu_ (i:=5) (N:=some 32) ?_;refine pu_ (i:=9) (N:=some 36) ?_;refine pu_ (i:=10) (N:=some 37) ?_;refine pu_ (i:=12) (N:=some 39) ?_;refine pu_ (i:=16) (N:=some 43) ?_;refine pu_ (i:=17) (N:=some 44) ?_;refine ta_ (i:=0) (N:=some 27) ?_;refine ta_ (i:=4) (N:=some 31) ?_;refine pu_ (i:=6) (N:=some 33) ?_;refine ta_ (i:=7) (N:=some 34) ?_;refine ta_ (i:=11) (N:=some 38) ?_;refine pu_ (i:=13) (N:=some 40) ?_;refine ta_ (i:=14) (N:=some 41) ?_;refine pu_ (i:=15) (N:=some 42) ?_;refine pu_ (i:=18) (N:=some 45) ?_
      refine one_ (i:=2) (N:=some 29) #[true,true,true,true,true,true,true,true,false,true,true,true,true,true,true,true,true,true,true,false,false,false] rfl rfl (one_of HT_.out (by kernel_rfl)) (by decide) (fun K hK=>?_)
      refine goes_ Tryz.func137 (by kernel_rfl) rfl #[.agg #[.int .i64 a0_0,.int .i64 a0_1,.int .i64 a0_2,.slice (some ad160) l0_3.length c0_3],.int .i64 a1] (by rfl) rfl rfl y1_ ?_
      with_reducible refine (tr_mean.calls a0_0 a0_1 a0_2 _ _ l0_3 a1 t161 _ ?side1 ?side2 A8.out).mono ?_
      (case side1=>repeat (first|exact (Kd.C_below HR0_3.out HB.out)|(with_reducible refine Kd.C_alloc ?_ _)|(with_reducible refine Kd.C_drewN ?_ _)|(with_reducible refine Kd.C_drew ?_)))
      (case side2=>exact HC0_3.out)
      rintro e w18 ⟨rfl,hb⟩
      refine ⟨_,rfl,?_⟩
      have n0_:=A0_ (blk_below (g:=gb158) (o:=.cells #[.int .i64 a0_0,.int .i64 a0_1,.int .i64 a0_2,.slice (some ad160) l0_3.length c0_3] 83 (0,0)) (bd_ BK158.out) hb);have n1_:=A0_ (below_step y3x_ hb);clear BK158;clear HB;have BK158:=n0_;have HB:=n1_;clear n0_ n1_;(try clear hb);(try clear hb2);(try clear hk);(try clear hi)
      refine hK.out _ _ ⟨(blk_cell BK158.out 0).trans rfl,(blk_cell BK158.out 1).trans rfl,(blk_cell BK158.out 2).trans rfl,(blk_cell BK158.out 3).trans rfl,((HB.out.cell (World.block_lt_of_cell? w _ hw162_0)).trans hw162_0),((HB.out.cell (World.block_lt_of_cell? w _ hw163_0)).trans hw163_0)⟩ (fun hHeld=>?_)
      clear hK K
      refine norm_ (a':=?_) ?_ ?_
      rotate_left
      ·show Act.put _ (some 29) _=_
       simp only [Act.put,List.setIfInBounds_toArray,List.set_cons_zero,List.set_cons_succ,i64_w,i32_w]
       rfl
      refine pu_ (i:=8) (N:=some 35) ?_
      refine one_ (i:=19) (N:=some 46) #[true,true,true,true,true,true,true,true,true,true,true,true,true,true,true,true,true,true,true,true,false,false] rfl rfl (one_of HT_.out (by kernel_rfl)) (by decide) (fun K hK=>?_)
      refine goes_ Tryz.func83 (by kernel_rfl) rfl #[.int .i64 (wrap64 ((wrap64 ((rd l0_3 (ji5)) - (rd l0_3 (ji9))))*(Int.tmod (wrap64 (t159*(l0_3.length:Int))) 21600))),.int .i64 21600] (by rfl) rfl rfl (by (try simp only [List.map_toArray,List.map_cons,List.map_nil]);first|done|(simp only [hji5,hji9];rfl)|rfl|(simp only [List.length_drop,List.length_take];rfl)) ?_
      with_reducible refine (tr_down.calls (wrap64 ((wrap64 ((rd l0_3 (ji5)) - (rd l0_3 (ji9))))*(Int.tmod (wrap64 (t159*(l0_3.length:Int))) 21600))) 21600 t164 _ A12.out).mono ?_
      rintro e w' ⟨rfl,⟨nd,rfl⟩⟩
      refine ⟨_,rfl,?_⟩
      refine hK.out _ _ ⟨(blk_cell BK158.out 0).trans rfl,(blk_cell BK158.out 1).trans rfl,(blk_cell BK158.out 2).trans rfl,(blk_cell BK158.out 3).trans rfl,((HB.out.cell (World.block_lt_of_cell? w _ hw162_0)).trans hw162_0),((HB.out.cell (World.block_lt_of_cell? w _ hw163_0)).trans hw163_0)⟩ (fun hHeld=>?_)
      clear hK K
      refine norm_ (a':=?_) ?_ ?_
      rotate_left
      ·show Act.put _ (some 46) _=_
       simp only [Act.put,List.setIfInBounds_toArray,List.set_cons_zero,List.set_cons_succ,i64_w,i32_w]
       rfl
      refine pu_ (i:=20) (N:=some 47) ?_;refine pu_ (i:=21) (N:=some 4) ?_
      refine done_ (done_of HT_.out (by kernel_rfl)) ?_
      try go_wp2
      go_ret
      exact ⟨by first|rfl|(simp [errW_none,errW_some] <;> rfl)|(simp only [← hji5,← hji9];first|rfl|(simp [errW_none,errW_some] <;> rfl))|(simp [*,errW_none,errW_some] <;> rfl),y3x_⟩
     ·rw [if_neg c11] at H;exact absurd H (by simp)
    ·rw [if_neg c10] at H;exact absurd H (by simp)
   ·rw [if_neg c7] at H;exact absurd H (by simp)
  ·rw [if_neg c6] at H;exact absurd H (by simp)
def tr_ahead.f (l0_0:List (S83)) (a0_1:Int) (a0_2:Int) (a0_3:Int) (a1:Int) (a2:Int) (a3:Int):Option (Int):=if 0≤a1 then (if a1<(l0_0.length:Int) then ((tr_way.f ((rd_T83 l0_0 a1).f0.f0) ((rd_T83 l0_0 a1).f0.f1) ((rd_T83 l0_0 a1).f1) ((rd_T83 l0_0 a1).f2) a3).bind fun t167=>(if 0≤a2 then (if a2<(l0_0.length:Int) then ((tr_way.f ((rd_T83 l0_0 a2).f0.f0) ((rd_T83 l0_0 a2).f0.f1) ((rd_T83 l0_0 a2).f1) ((rd_T83 l0_0 a2).f2) a3).bind fun t169=>(some (wrap64 (t167 - t169)))) else (none)) else (none))) else (none)) else (none)
def tr_ahead.T1:Bool × List (List Nat × List Nat):=(true,[([],[]),([0],[0]),([],[]),([1,2],[1,2]),([3],[3]),([],[]),([4,5],[4,5]),([],[]),([7],[7]),([],[]),([8,9],[8,9]),([10],[10]),([],[]),([11,12,6],[11,12]),([6,13],[6,13]),([14,13,0,1,2,3,4,5,6,7,8,9,10,11,12,13,14],[14])])
def tr_ahead.B1:List Nat:=[0,1,0,7,15,0,63,0,128,0,896,1920,0,8191,16383,32767]
theorem tr_ahead.tab1:rtab .any (opsOf Tryz.f103 1)=tr_ahead.T1:=by kernel_rfl
theorem tr_ahead.bits1:waitsOk tr_ahead.T1.2 tr_ahead.B1=true:=by kernel_rfl
set_option maxHeartbeats 8000000 in
set_option maxRecDepth 100000 in
theorem tr_ahead.calls (A0_0:Option Addr) (c0_0:Nat) (l0_0:List (S83)) (a0_1:Int) (a0_2:Int) (a0_3:Int) (a1:Int) (a2:Int) (a3:Int) (r:Int) (w:World) (hr0_0:Kd.C k83 w A0_0 l0_0.length l0_0) (hc0_0:l0_0.length≤c0_0) (h:tr_ahead.f l0_0 a0_1 a0_2 a0_3 a1 a2 a3=some r):
  Calls Tryz.prog 103 #[.agg #[.slice A0_0 l0_0.length c0_0,.int .i64 a0_1,.int .i64 a0_2,.int .i64 a0_3],.int .i64 a1,.int .i64 a2,.int .i64 a3] w fun e w'=>e=.returned (.int .i64 r)∧Below w.heap.size w w':=by
 have hu28:=Tryz.underlying28
 have hu83:=Tryz.underlying83
 have HR0_0:=A0_ hr0_0;have HC0_0:=A0_ hc0_0;clear hr0_0 hc0_0
 have HB:=A0_ (Below.refl w.heap.size w)
 have H:(if 0≤a1 then (if a1<(l0_0.length:Int) then ((tr_way.f ((rd_T83 l0_0 a1).f0.f0) ((rd_T83 l0_0 a1).f0.f1) ((rd_T83 l0_0 a1).f1) ((rd_T83 l0_0 a1).f2) a3).bind fun t167=>(if 0≤a2 then (if a2<(l0_0.length:Int) then ((tr_way.f ((rd_T83 l0_0 a2).f0.f0) ((rd_T83 l0_0 a2).f0.f1) ((rd_T83 l0_0 a2).f1) ((rd_T83 l0_0 a2).f2) a3).bind fun t169=>(some (wrap64 (t167 - t169)))) else (none)) else (none))) else (none)) else (none))=some r:=h
 clear h
 by_cases c5:0≤a1
 ·rw [if_pos c5] at H;have c5b0:decide (0≤a1)=true:=decide_eq_true c5;clear c5
  by_cases c6:a1<(l0_0.length:Int)
  ·rw [if_pos c6] at H;have c6b0:decide (a1<(l0_0.length:Int))=true:=decide_eq_true c6;clear c6;replace H:=Option.bind_eq_some_iff.mp H;obtain ⟨t167,A70,H⟩:=H
   replace H:(if 0≤a2 then (if a2<(l0_0.length:Int) then ((tr_way.f ((rd_T83 l0_0 a2).f0.f0) ((rd_T83 l0_0 a2).f0.f1) ((rd_T83 l0_0 a2).f1) ((rd_T83 l0_0 a2).f2) a3).bind fun t169=>(some (wrap64 (t167 - t169)))) else (none)) else (none))=some r:=H
   have A7:=A0_ A70;clear A70
   by_cases c8:0≤a2
   ·rw [if_pos c8] at H;have c8b0:decide (0≤a2)=true:=decide_eq_true c8;clear c8
    by_cases c9:a2<(l0_0.length:Int)
    ·rw [if_pos c9] at H;have c9b0:decide (a2<(l0_0.length:Int))=true:=decide_eq_true c9;clear c9;replace H:=Option.bind_eq_some_iff.mp H;obtain ⟨t169,A100,H⟩:=H
     replace H:(some (wrap64 (t167 - t169)))=some r:=H
     have A10:=A0_ A100;clear A100;obtain rfl:=Option.some.inj H
     go_enter Tryz.func103,Tryz.ntmps103
     try go_wp2_with (first|((with_reducible refine gate_dst (N:=4) rfl ?_);refine box_event ?hg (N:=4) ?hd (cs:=#[.slice A0_0 l0_0.length c0_0,.int .i64 a0_1,.int .i64 a0_2,.int .i64 a0_3]) (t:=28) ?hr ?_;(case hd=>rfl);(case hg=>rfl);(case hr=>first|(go_simp;done)|(go_simp;rfl));intro gb165 hg w11 hbox hb;have n0_:=A0_ (below_step y0_ hb);have n1_:=A0_ (hbox);have n2_:=A0_ ((by rw [hg];exact (below_size y0_):w.heap.size≤gb165));have n3_:=A0_ ((by rw [hg];exact (below_size y0_):w.heap.size≤gb165));clear HB;have HB:=n0_;have BK165:=n1_;have GW165:=n2_;have GE165:=n3_;clear n0_ n1_ n2_ n3_;clear hb hbox hg))
     have n0_:=A0_ (blk_drew BK165.out);have n1_:=A0_ (below_drew1 HB.out);clear BK165;clear HB;have BK165:=n0_;have HB:=n1_;clear n0_ n1_
     have p166:0≤(a1:Int):=of_decide_eq_true y2_
     have q166:a1<(l0_0.length:Int):=of_decide_eq_true y2_
     obtain ⟨ad166,A166_3,c166_3,e166,hx166_0,hx166_1,hx166_2,hx166_3,hl166_3,hi166_3⟩:=at_T83 HR0_0.out a1 p166 q166
     have hw166_3:=hx166_3;have hw166_2:=hx166_2;have hw166_1:=hx166_1;have hw166_0:=hx166_0
     cases e166
     replace hx166_0:=(HB.out.cell (World.block_lt_of_cell? w _ hx166_0)).trans hx166_0
     replace hx166_1:=(HB.out.cell (World.block_lt_of_cell? w _ hx166_1)).trans hx166_1
     replace hx166_2:=(HB.out.cell (World.block_lt_of_cell? w _ hx166_2)).trans hx166_2
     replace hx166_3:=(HB.out.cell (World.block_lt_of_cell? w _ hx166_3)).trans hx166_3
     have HR166_3:=A0_ hi166_3;have HC166_3:=A0_ hl166_3;clear hi166_3 hl166_3
     replace p166:=eq_true p166
     replace q166:=eq_true q166
     have p168:0≤(a2:Int):=of_decide_eq_true y2_
     have q168:a2<(l0_0.length:Int):=of_decide_eq_true y2_
     obtain ⟨ad168,A168_3,c168_3,e168,hx168_0,hx168_1,hx168_2,hx168_3,hl168_3,hi168_3⟩:=at_T83 HR0_0.out a2 p168 q168
     have hw168_3:=hx168_3;have hw168_2:=hx168_2;have hw168_1:=hx168_1;have hw168_0:=hx168_0
     obtain rfl:ad166=ad168:=(by injection e168)
     replace hx168_0:=(HB.out.cell (World.block_lt_of_cell? w _ hx168_0)).trans hx168_0
     replace hx168_1:=(HB.out.cell (World.block_lt_of_cell? w _ hx168_1)).trans hx168_1
     replace hx168_2:=(HB.out.cell (World.block_lt_of_cell? w _ hx168_2)).trans hx168_2
     replace hx168_3:=(HB.out.cell (World.block_lt_of_cell? w _ hx168_3)).trans hx168_3
     have HR168_3:=A0_ hi168_3;have HC168_3:=A0_ hl168_3;clear hi168_3 hl168_3
     replace p168:=eq_true p168
     replace q168:=eq_true q168
     refine start_ (n:=16) (S:=fun w'=>w'.cell? ⟨gb165,0,none⟩=some (.slice (some ad166) l0_0.length c0_0)∧w'.cell? ⟨gb165,1,none⟩=some (.int .i64 a0_1)∧w'.cell? ⟨gb165,2,none⟩=some (.int .i64 a0_2)∧w'.cell? ⟨gb165,3,none⟩=some (.int .i64 a0_3)∧w'.cell? (ad166.add ((a1).toNat*4))=some (.int .i64 ((rd_T83 l0_0 a1).f0.f0))∧w'.cell? ⟨(ad166.add ((a1).toNat*4)).block,(ad166.add ((a1).toNat*4)).off+1,none⟩=some (.int .i64 ((rd_T83 l0_0 a1).f0.f1))∧w'.cell? ⟨(ad166.add ((a1).toNat*4)).block,(ad166.add ((a1).toNat*4)).off+2,none⟩=some (.int .i64 ((rd_T83 l0_0 a1).f1))∧w'.cell? ⟨(ad166.add ((a1).toNat*4)).block,(ad166.add ((a1).toNat*4)).off+3,none⟩=some (.slice A166_3 ((rd_T83 l0_0 a1).f2).length c166_3)∧w'.cell? (ad166.add ((a2).toNat*4))=some (.int .i64 ((rd_T83 l0_0 a2).f0.f0))∧w'.cell? ⟨(ad166.add ((a2).toNat*4)).block,(ad166.add ((a2).toNat*4)).off+1,none⟩=some (.int .i64 ((rd_T83 l0_0 a2).f0.f1))∧w'.cell? ⟨(ad166.add ((a2).toNat*4)).block,(ad166.add ((a2).toNat*4)).off+2,none⟩=some (.int .i64 ((rd_T83 l0_0 a2).f1))∧w'.cell? ⟨(ad166.add ((a2).toNat*4)).block,(ad166.add ((a2).toNat*4)).off+3,none⟩=some (.slice A168_3 ((rd_T83 l0_0 a2).f2).length c168_3)) (ds:=[]) #[false,false,false,false,false,false,false,false,false,false,false,false,false,false,false,false] (by kernel_rfl) rfl rfl ⟨(blk_cell BK165.out 0).trans rfl,(blk_cell BK165.out 1).trans rfl,(blk_cell BK165.out 2).trans rfl,(blk_cell BK165.out 3).trans rfl,((HB.out.cell (World.block_lt_of_cell? w _ hw166_0)).trans hw166_0),((HB.out.cell (World.block_lt_of_cell? w _ hw166_1)).trans hw166_1),((HB.out.cell (World.block_lt_of_cell? w _ hw166_2)).trans hw166_2),((HB.out.cell (World.block_lt_of_cell? w _ hw166_3)).trans hw166_3),((HB.out.cell (World.block_lt_of_cell? w _ hw168_0)).trans hw168_0),((HB.out.cell (World.block_lt_of_cell? w _ hw168_1)).trans hw168_1),((HB.out.cell (World.block_lt_of_cell? w _ hw168_2)).trans hw168_2),((HB.out.cell (World.block_lt_of_cell? w _ hw168_3)).trans hw168_3)⟩ (fun hHeld=>?_);refine with_tabW tr_ahead.tab1 tr_ahead.bits1 (fun HT_ HW_=>?_)
     generalize w11.drew=w12 at BK165 HB HR166_3 HR168_3 hx166_0 hx166_1 hx166_2 hx166_3 hx168_0 hx168_1 hx168_2 hx168_3 hHeld ⊢
     refine pu_ (i:=0) (N:=some 9) ?_;refine pu_ (i:=2) (N:=some 11) ?_;refine pu_ (i:=5) (N:=some 14) ?_;refine pu_ (i:=7) (N:=some 16) ?_;refine pu_ (i:=9) (N:=some 18) ?_;refine pu_ (i:=12) (N:=some 21) ?_;refine ta_ (i:=1) (N:=some 10) ?_;refine pu_ (i:=3) (N:=some 12) ?_;refine ta_ (i:=4) (N:=some 13) ?_;refine ta_ (i:=8) (N:=some 17) ?_;refine pu_ (i:=10) (N:=some 19) ?_;refine ta_ (i:=11) (N:=some 20) ?_
     refine one_ (i:=6) (N:=some 15) #[true,true,true,true,true,true,true,true,true,true,true,true,true,false,false,false] rfl rfl (one_of HT_.out (by kernel_rfl)) (by decide) (fun K hK=>?_)
     refine goes_ Tryz.func127 (by kernel_rfl) rfl #[.agg #[.int .i64 ((rd_T83 l0_0 a1).f0.f0),.int .i64 ((rd_T83 l0_0 a1).f0.f1),.int .i64 ((rd_T83 l0_0 a1).f1),.slice A166_3 ((rd_T83 l0_0 a1).f2).length c166_3],.int .i64 a3] (by rfl) rfl rfl y1_ ?_
     with_reducible refine (tr_way.calls ((rd_T83 l0_0 a1).f0.f0) ((rd_T83 l0_0 a1).f0.f1) ((rd_T83 l0_0 a1).f1) _ _ ((rd_T83 l0_0 a1).f2) a3 t167 _ ?side1 ?side2 A7.out).mono ?_
     (case side1=>repeat (first|exact (Kd.C_below HR166_3.out HB.out)|(with_reducible refine Kd.C_alloc ?_ _)|(with_reducible refine Kd.C_drewN ?_ _)|(with_reducible refine Kd.C_drew ?_)))
     (case side2=>exact HC166_3.out)
     rintro e w13 ⟨rfl,hb⟩
     refine ⟨_,rfl,?_⟩
     have n0_:=A0_ (blk_below (g:=gb165) (o:=.cells #[.slice (some ad166) l0_0.length c0_0,.int .i64 a0_1,.int .i64 a0_2,.int .i64 a0_3] 28 (0,0)) (bd_ BK165.out) hb);have n1_:=A0_ (below_step y3w_ hb);clear BK165;clear HB;have BK165:=n0_;have HB:=n1_;clear n0_ n1_;(try clear hb);(try clear hb2);(try clear hk);(try clear hi)
     refine hK.out _ _ ⟨(blk_cell BK165.out 0).trans rfl,(blk_cell BK165.out 1).trans rfl,(blk_cell BK165.out 2).trans rfl,(blk_cell BK165.out 3).trans rfl,((HB.out.cell (World.block_lt_of_cell? w _ hw166_0)).trans hw166_0),((HB.out.cell (World.block_lt_of_cell? w _ hw166_1)).trans hw166_1),((HB.out.cell (World.block_lt_of_cell? w _ hw166_2)).trans hw166_2),((HB.out.cell (World.block_lt_of_cell? w _ hw166_3)).trans hw166_3),((HB.out.cell (World.block_lt_of_cell? w _ hw168_0)).trans hw168_0),((HB.out.cell (World.block_lt_of_cell? w _ hw168_1)).trans hw168_1),((HB.out.cell (World.block_lt_of_cell? w _ hw168_2)).trans hw168_2),((HB.out.cell (World.block_lt_of_cell? w _ hw168_3)).trans hw168_3)⟩ (fun hHeld=>?_)
     clear hK K
     refine norm_ (a':=?_) ?_ ?_
     rotate_left
     ·show Act.put _ (some 15) _=_
      simp only [Act.put,List.setIfInBounds_toArray,List.set_cons_zero,List.set_cons_succ,i64_w,i32_w]
      rfl
     refine one_ (i:=13) (N:=some 22) #[true,true,true,true,true,true,true,true,true,true,true,true,true,true,false,false] rfl rfl (one_of HT_.out (by kernel_rfl)) (by decide) (fun K hK=>?_)
     refine goes_ Tryz.func127 (by kernel_rfl) rfl #[.agg #[.int .i64 ((rd_T83 l0_0 a2).f0.f0),.int .i64 ((rd_T83 l0_0 a2).f0.f1),.int .i64 ((rd_T83 l0_0 a2).f1),.slice A168_3 ((rd_T83 l0_0 a2).f2).length c168_3],.int .i64 a3] (by rfl) rfl rfl y1_ ?_
     with_reducible refine (tr_way.calls ((rd_T83 l0_0 a2).f0.f0) ((rd_T83 l0_0 a2).f0.f1) ((rd_T83 l0_0 a2).f1) _ _ ((rd_T83 l0_0 a2).f2) a3 t169 _ ?side1 ?side2 A10.out).mono ?_
     (case side1=>repeat (first|exact (Kd.C_below HR168_3.out HB.out)|(with_reducible refine Kd.C_alloc ?_ _)|(with_reducible refine Kd.C_drewN ?_ _)|(with_reducible refine Kd.C_drew ?_)))
     (case side2=>exact HC168_3.out)
     rintro e w14 ⟨rfl,hb⟩
     refine ⟨_,rfl,?_⟩
     have n0_:=A0_ (blk_below (g:=gb165) (o:=.cells #[.slice (some ad166) l0_0.length c0_0,.int .i64 a0_1,.int .i64 a0_2,.int .i64 a0_3] 28 (0,0)) (bd_ BK165.out) hb);have n1_:=A0_ (below_step y3w_ hb);clear BK165;clear HB;have BK165:=n0_;have HB:=n1_;clear n0_ n1_;(try clear hb);(try clear hb2);(try clear hk);(try clear hi)
     refine hK.out _ _ ⟨(blk_cell BK165.out 0).trans rfl,(blk_cell BK165.out 1).trans rfl,(blk_cell BK165.out 2).trans rfl,(blk_cell BK165.out 3).trans rfl,((HB.out.cell (World.block_lt_of_cell? w _ hw166_0)).trans hw166_0),((HB.out.cell (World.block_lt_of_cell? w _ hw166_1)).trans hw166_1),((HB.out.cell (World.block_lt_of_cell? w _ hw166_2)).trans hw166_2),((HB.out.cell (World.block_lt_of_cell? w _ hw166_3)).trans hw166_3),((HB.out.cell (World.block_lt_of_cell? w _ hw168_0)).trans hw168_0),((HB.out.cell (World.block_lt_of_cell? w _ hw168_1)).trans hw168_1),((HB.out.cell (World.block_lt_of_cell? w _ hw168_2)).trans hw168_2),((HB.out.cell (World.block_lt_of_cell? w _ hw168_3)).trans hw168_3)⟩ (fun hHeld=>?_)
     clear hK K
     refine norm_ (a':=?_) ?_ ?_
     rotate_left
     ·show Act.put _ (some 22) _=_
      simp only [Act.put,List.setIfInBounds_toArray,List.set_cons_zero,List.set_cons_succ,i64_w,i32_w]
      rfl
     refine pu_ (i:=14) (N:=some 23) ?_;refine pu_ (i:=15) (N:=some 8) ?_
     refine done_ (done_of HT_.out (by kernel_rfl)) ?_
     try go_wp2
     go_ret
     exact ⟨y3_,y3w_⟩
    ·rw [if_neg c9] at H;exact absurd H (by simp)
   ·rw [if_neg c8] at H;exact absurd H (by simp)
  ·rw [if_neg c6] at H;exact absurd H (by simp)
 ·rw [if_neg c5] at H;exact absurd H (by simp)
end Go.Proofs.YtaidphhkhddemaaGreatDoor.PSky
end
section
namespace Go.Proofs.YtaidphhkhddemaaGreatDoor.PSky
open Go.RowKit Go.Proofs.YtaidphhkhddemaaGreatDoorW.PrintWords Go.Proofs.YtaidphhkhddemaaGreatDoorW.PrintLast Go.Proofs.YtaidphhkhddemaaGreatDoorW.PrintMore
attribute [local go_sem] max2_int min2_int max_two min_two max_three min_three max_four min_four
set_option linter.unusedVariables false
set_option linter.unusedSimpArgs false
def tr_Moon.f (l0_0:List (S83)) (a0_1:Int) (a0_2:Int) (a0_3:Int) (a1:Int) (a2:Bool):Option (Bool):=if a2=true then ((tr_ahead.f l0_0 a0_1 a0_2 a0_3 1 0 (wrap64 (a1 - 1))).bind fun t171=>((tr_ahead.f l0_0 a0_1 a0_2 a0_3 1 0 a1).bind fun t172=>((tr_passed.f (wrap64 (t171 - 10800)) (wrap64 (t172 - 10800))).bind fun t173=>(some t173)))) else ((tr_ahead.f l0_0 a0_1 a0_2 a0_3 1 0 (wrap64 (a1 - 1))).bind fun t174=>((tr_ahead.f l0_0 a0_1 a0_2 a0_3 1 0 a1).bind fun t175=>((tr_passed.f (wrap64 (t174 - 0)) (wrap64 (t175 - 0))).bind fun t176=>(some t176))))
def tr_Moon.T4:Bool × List (List Nat × List Nat):=(true,[([],[]),([],[]),([1],[1]),([0,2],[0,2]),([],[]),([3,4],[3,4]),([],[]),([],[]),([6,7,3],[6,7]),([],[]),([8,9],[8,9]),([5,10,8],[5,10]),([11,11,0,1,2,3,4,5,6,7,8,9,10,11],[11])])
def tr_Moon.B4:List Nat:=[0,0,2,7,0,31,0,0,207,0,975,2047,4095]
theorem tr_Moon.tab4:rtab .any (opsOf Tryz.f57 4)=tr_Moon.T4:=by kernel_rfl
theorem tr_Moon.bits4:waitsOk tr_Moon.T4.2 tr_Moon.B4=true:=by kernel_rfl
set_option maxHeartbeats 8000000 in
set_option maxRecDepth 100000 in
theorem tr_Moon.calls (A0_0:Option Addr) (c0_0:Nat) (l0_0:List (S83)) (a0_1:Int) (a0_2:Int) (a0_3:Int) (a1:Int) (a2:Bool) (r:Bool) (w:World) (hr0_0:Kd.C k83 w A0_0 l0_0.length l0_0) (hc0_0:l0_0.length≤c0_0) (h:tr_Moon.f l0_0 a0_1 a0_2 a0_3 a1 a2=some r):
  Calls Tryz.prog 57 #[.agg #[.slice A0_0 l0_0.length c0_0,.int .i64 a0_1,.int .i64 a0_2,.int .i64 a0_3],.int .i64 a1,.bool a2] w fun e w'=>e=.returned (.bool r)∧Below w.heap.size w w':=by
 have hu28:=Tryz.underlying28
 have HR0_0:=A0_ hr0_0;have HC0_0:=A0_ hc0_0;clear hr0_0 hc0_0
 have HB:=A0_ (Below.refl w.heap.size w)
 have H:(if a2=true then ((tr_ahead.f l0_0 a0_1 a0_2 a0_3 1 0 (wrap64 (a1 - 1))).bind fun t171=>((tr_ahead.f l0_0 a0_1 a0_2 a0_3 1 0 a1).bind fun t172=>((tr_passed.f (wrap64 (t171 - 10800)) (wrap64 (t172 - 10800))).bind fun t173=>(some t173)))) else ((tr_ahead.f l0_0 a0_1 a0_2 a0_3 1 0 (wrap64 (a1 - 1))).bind fun t174=>((tr_ahead.f l0_0 a0_1 a0_2 a0_3 1 0 a1).bind fun t175=>((tr_passed.f (wrap64 (t174 - 0)) (wrap64 (t175 - 0))).bind fun t176=>(some t176)))))=some r:=h
 clear h
 by_cases c4:a2=true
 ·subst c4
  have H1:((tr_ahead.f l0_0 a0_1 a0_2 a0_3 1 0 (wrap64 (a1 - 1))).bind fun t171=>((tr_ahead.f l0_0 a0_1 a0_2 a0_3 1 0 a1).bind fun t172=>((tr_passed.f (wrap64 (t171 - 10800)) (wrap64 (t172 - 10800))).bind fun t173=>(some t173))))=some r:=by rw [if_pos rfl] at H;exact H
  clear H;have H:=H1;clear H1;replace H:=Option.bind_eq_some_iff.mp H;obtain ⟨t171,A50,H⟩:=H
  replace H:((tr_ahead.f l0_0 a0_1 a0_2 a0_3 1 0 a1).bind fun t172=>((tr_passed.f (wrap64 (t171 - 10800)) (wrap64 (t172 - 10800))).bind fun t173=>(some t173)))=some r:=H
  have A5:=A0_ A50;clear A50;replace H:=Option.bind_eq_some_iff.mp H;obtain ⟨t172,A60,H⟩:=H
  replace H:((tr_passed.f (wrap64 (t171 - 10800)) (wrap64 (t172 - 10800))).bind fun t173=>(some t173))=some r:=H
  have A6:=A0_ A60;clear A60;replace H:=Option.bind_eq_some_iff.mp H;obtain ⟨t173,A70,H⟩:=H
  replace H:(some t173)=some r:=H
  have A7:=A0_ A70;clear A70;obtain rfl:=Option.some.inj H
  go_enter Tryz.func57,Tryz.ntmps57
  try go_wp2_with (first|((with_reducible refine gate_dst (N:=3) rfl ?_);refine box_event ?hg (N:=3) ?hd (cs:=#[.slice A0_0 l0_0.length c0_0,.int .i64 a0_1,.int .i64 a0_2,.int .i64 a0_3]) (t:=28) ?hr ?_;(case hd=>rfl);(case hg=>rfl);(case hr=>first|(go_simp;done)|(go_simp;rfl));intro gb170 hg w8 hbox hb;have n0_:=A0_ (below_step y0_ hb);have n1_:=A0_ (hbox);have n2_:=A0_ ((by rw [hg];exact (below_size y0_):w.heap.size≤gb170));have n3_:=A0_ ((by rw [hg];exact (below_size y0_):w.heap.size≤gb170));clear HB;have HB:=n0_;have BK170:=n1_;have GW170:=n2_;have GE170:=n3_;clear n0_ n1_ n2_ n3_;clear hb hbox hg))
  have n0_:=A0_ (blk_drew BK170.out);have n1_:=A0_ (below_drew1 HB.out);clear BK170;clear HB;have BK170:=n0_;have HB:=n1_;clear n0_ n1_
  refine start_ (n:=13) (S:=fun w'=>w'.cell? ⟨gb170,0,none⟩=some (.slice A0_0 l0_0.length c0_0)∧w'.cell? ⟨gb170,1,none⟩=some (.int .i64 a0_1)∧w'.cell? ⟨gb170,2,none⟩=some (.int .i64 a0_2)∧w'.cell? ⟨gb170,3,none⟩=some (.int .i64 a0_3)) (ds:=[]) #[false,false,false,false,false,false,false,false,false,false,false,false,false] (by kernel_rfl) rfl rfl ⟨(blk_cell BK170.out 0).trans rfl,(blk_cell BK170.out 1).trans rfl,(blk_cell BK170.out 2).trans rfl,(blk_cell BK170.out 3).trans rfl⟩ (fun hHeld=>?_);refine with_tabW tr_Moon.tab4 tr_Moon.bits4 (fun HT_ HW_=>?_)
  generalize w8.drew=w9 at BK170 HB hHeld ⊢
  refine pu_ (i:=1) (N:=some 10) ?_;refine pu_ (i:=2) (N:=some 11) ?_;refine pu_ (i:=4) (N:=some 13) ?_;refine pu_ (i:=7) (N:=some 16) ?_;refine pu_ (i:=9) (N:=some 18) ?_;refine ta_ (i:=0) (N:=some 9) ?_;refine ta_ (i:=6) (N:=some 15) ?_
  refine one_ (i:=3) (N:=some 12) #[true,true,true,true,true,false,true,true,false,true,false,false,false] rfl rfl (one_of HT_.out (by kernel_rfl)) (by decide) (fun K hK=>?_)
  refine goes_ Tryz.func103 (by kernel_rfl) rfl #[.agg #[.slice A0_0 l0_0.length c0_0,.int .i64 a0_1,.int .i64 a0_2,.int .i64 a0_3],.int .i64 1,.int .i64 0,.int .i64 (wrap64 (a1 - 1))] (by rfl) rfl rfl y2a_ ?_
  with_reducible refine (tr_ahead.calls _ _ l0_0 a0_1 a0_2 a0_3 1 0 (wrap64 (a1 - 1)) t171 _ ?side1 ?side2 A5.out).mono ?_
  (case side1=>repeat (first|exact (Kd.C_below HR0_0.out HB.out)|(with_reducible refine Kd.C_alloc ?_ _)|(with_reducible refine Kd.C_drewN ?_ _)|(with_reducible refine Kd.C_drew ?_)))
  (case side2=>exact HC0_0.out)
  rintro e w10 ⟨rfl,hb⟩
  refine ⟨_,rfl,?_⟩
  have n0_:=A0_ (blk_below (g:=gb170) (o:=.cells #[.slice A0_0 l0_0.length c0_0,.int .i64 a0_1,.int .i64 a0_2,.int .i64 a0_3] 28 (0,0)) (bd_ BK170.out) hb);have n1_:=A0_ (below_step y2d_ hb);clear BK170;clear HB;have BK170:=n0_;have HB:=n1_;clear n0_ n1_;(try clear hb);(try clear hb2);(try clear hk);(try clear hi)
  refine hK.out _ _ ⟨(blk_cell BK170.out 0).trans rfl,(blk_cell BK170.out 1).trans rfl,(blk_cell BK170.out 2).trans rfl,(blk_cell BK170.out 3).trans rfl⟩ (fun hHeld=>?_)
  clear hK K
  refine norm_ (a':=?_) ?_ ?_
  rotate_left
  ·show Act.put _ (some 12) _=_
   simp only [Act.put,List.setIfInBounds_toArray,List.set_cons_zero,List.set_cons_succ,i64_w,i32_w]
   rfl
  refine pu_ (i:=5) (N:=some 14) ?_
  refine one_ (i:=8) (N:=some 17) #[true,true,true,true,true,true,true,true,true,true,false,false,false] rfl rfl (one_of HT_.out (by kernel_rfl)) (by decide) (fun K hK=>?_)
  refine goes_ Tryz.func103 (by kernel_rfl) rfl #[.agg #[.slice A0_0 l0_0.length c0_0,.int .i64 a0_1,.int .i64 a0_2,.int .i64 a0_3],.int .i64 1,.int .i64 0,.int .i64 a1] (by rfl) rfl rfl y2a_ ?_
  with_reducible refine (tr_ahead.calls _ _ l0_0 a0_1 a0_2 a0_3 1 0 a1 t172 _ ?side1 ?side2 A6.out).mono ?_
  (case side1=>repeat (first|exact (Kd.C_below HR0_0.out HB.out)|(with_reducible refine Kd.C_alloc ?_ _)|(with_reducible refine Kd.C_drewN ?_ _)|(with_reducible refine Kd.C_drew ?_)))
  (case side2=>exact HC0_0.out)
  rintro e w11 ⟨rfl,hb⟩
  refine ⟨_,rfl,?_⟩
  have n0_:=A0_ (blk_below (g:=gb170) (o:=.cells #[.slice A0_0 l0_0.length c0_0,.int .i64 a0_1,.int .i64 a0_2,.int .i64 a0_3] 28 (0,0)) (bd_ BK170.out) hb);have n1_:=A0_ (below_step y2d_ hb);clear BK170;clear HB;have BK170:=n0_;have HB:=n1_;clear n0_ n1_;(try clear hb);(try clear hb2);(try clear hk);(try clear hi)
  refine hK.out _ _ ⟨(blk_cell BK170.out 0).trans rfl,(blk_cell BK170.out 1).trans rfl,(blk_cell BK170.out 2).trans rfl,(blk_cell BK170.out 3).trans rfl⟩ (fun hHeld=>?_)
  clear hK K
  refine norm_ (a':=?_) ?_ ?_
  rotate_left
  ·show Act.put _ (some 17) _=_
   simp only [Act.put,List.setIfInBounds_toArray,List.set_cons_zero,List.set_cons_succ,i64_w,i32_w]
   rfl
  refine pu_ (i:=10) (N:=some 19) ?_
  refine one_ (i:=11) (N:=some 20) #[true,true,true,true,true,true,true,true,true,true,true,true,false] rfl rfl (one_of HT_.out (by kernel_rfl)) (by decide) (fun K hK=>?_)
  refine goes_ Tryz.func102 (by kernel_rfl) rfl #[.int .i64 (wrap64 (t171 - 10800)),.int .i64 (wrap64 (t172 - 10800))] (by rfl) rfl rfl y2a_ ?_
  with_reducible refine (tr_passed.calls (wrap64 (t171 - 10800)) (wrap64 (t172 - 10800)) t173 _ A7.out).mono ?_
  rintro e w' ⟨rfl,⟨nd,rfl⟩⟩
  refine ⟨_,rfl,?_⟩
  refine hK.out _ _ ⟨(blk_cell BK170.out 0).trans rfl,(blk_cell BK170.out 1).trans rfl,(blk_cell BK170.out 2).trans rfl,(blk_cell BK170.out 3).trans rfl⟩ (fun hHeld=>?_)
  clear hK K
  refine norm_ (a':=?_) ?_ ?_
  rotate_left
  ·show Act.put _ (some 20) _=_
   simp only [Act.put,List.setIfInBounds_toArray,List.set_cons_zero,List.set_cons_succ,i64_w,i32_w]
   rfl
  refine pu_ (i:=12) (N:=some 6) ?_
  refine done_ (done_of HT_.out (by kernel_rfl)) ?_
  try go_wp2
  go_ret
  exact ⟨y3_,y2d_⟩
 ·replace c4:=Bool.eq_false_iff.mpr c4;subst c4
  have H1:((tr_ahead.f l0_0 a0_1 a0_2 a0_3 1 0 (wrap64 (a1 - 1))).bind fun t174=>((tr_ahead.f l0_0 a0_1 a0_2 a0_3 1 0 a1).bind fun t175=>((tr_passed.f (wrap64 (t174 - 0)) (wrap64 (t175 - 0))).bind fun t176=>(some t176))))=some r:=by rw [if_neg (show ¬ (false=true) by decide)] at H;exact H
  clear H;have H:=H1;clear H1;replace H:=Option.bind_eq_some_iff.mp H;obtain ⟨t174,A120,H⟩:=H
  replace H:((tr_ahead.f l0_0 a0_1 a0_2 a0_3 1 0 a1).bind fun t175=>((tr_passed.f (wrap64 (t174 - 0)) (wrap64 (t175 - 0))).bind fun t176=>(some t176)))=some r:=H
  have A12:=A0_ A120;clear A120;replace H:=Option.bind_eq_some_iff.mp H;obtain ⟨t175,A130,H⟩:=H
  replace H:((tr_passed.f (wrap64 (t174 - 0)) (wrap64 (t175 - 0))).bind fun t176=>(some t176))=some r:=H
  have A13:=A0_ A130;clear A130;replace H:=Option.bind_eq_some_iff.mp H;obtain ⟨t176,A140,H⟩:=H
  replace H:(some t176)=some r:=H
  have A14:=A0_ A140;clear A140;obtain rfl:=Option.some.inj H
  go_enter Tryz.func57,Tryz.ntmps57
  try go_wp2_with (first|((with_reducible refine gate_dst (N:=3) rfl ?_);refine box_event ?hg (N:=3) ?hd (cs:=#[.slice A0_0 l0_0.length c0_0,.int .i64 a0_1,.int .i64 a0_2,.int .i64 a0_3]) (t:=28) ?hr ?_;(case hd=>rfl);(case hg=>rfl);(case hr=>first|(go_simp;done)|(go_simp;rfl));intro gb170 hg w15 hbox hb;have n0_:=A0_ (below_step y0_ hb);have n1_:=A0_ (hbox);have n2_:=A0_ ((by rw [hg];exact (below_size y0_):w.heap.size≤gb170));have n3_:=A0_ ((by rw [hg];exact (below_size y0_):w.heap.size≤gb170));clear HB;have HB:=n0_;have BK170:=n1_;have GW170:=n2_;have GE170:=n3_;clear n0_ n1_ n2_ n3_;clear hb hbox hg))
  have n0_:=A0_ (blk_drew BK170.out);have n1_:=A0_ (below_drew1 HB.out);clear BK170;clear HB;have BK170:=n0_;have HB:=n1_;clear n0_ n1_
  refine start_ (n:=13) (S:=fun w'=>w'.cell? ⟨gb170,0,none⟩=some (.slice A0_0 l0_0.length c0_0)∧w'.cell? ⟨gb170,1,none⟩=some (.int .i64 a0_1)∧w'.cell? ⟨gb170,2,none⟩=some (.int .i64 a0_2)∧w'.cell? ⟨gb170,3,none⟩=some (.int .i64 a0_3)) (ds:=[]) #[false,false,false,false,false,false,false,false,false,false,false,false,false] (by kernel_rfl) rfl rfl ⟨(blk_cell BK170.out 0).trans rfl,(blk_cell BK170.out 1).trans rfl,(blk_cell BK170.out 2).trans rfl,(blk_cell BK170.out 3).trans rfl⟩ (fun hHeld=>?_);refine with_tabW tr_Moon.tab4 tr_Moon.bits4 (fun HT_ HW_=>?_)
  generalize w15.drew=w16 at BK170 HB hHeld ⊢
  refine pu_ (i:=1) (N:=some 10) ?_;refine pu_ (i:=2) (N:=some 11) ?_;refine pu_ (i:=4) (N:=some 13) ?_;refine pu_ (i:=7) (N:=some 16) ?_;refine pu_ (i:=9) (N:=some 18) ?_;refine ta_ (i:=0) (N:=some 9) ?_;refine ta_ (i:=6) (N:=some 15) ?_
  refine one_ (i:=3) (N:=some 12) #[true,true,true,true,true,false,true,true,false,true,false,false,false] rfl rfl (one_of HT_.out (by kernel_rfl)) (by decide) (fun K hK=>?_)
  refine goes_ Tryz.func103 (by kernel_rfl) rfl #[.agg #[.slice A0_0 l0_0.length c0_0,.int .i64 a0_1,.int .i64 a0_2,.int .i64 a0_3],.int .i64 1,.int .i64 0,.int .i64 (wrap64 (a1 - 1))] (by rfl) rfl rfl y2a_ ?_
  with_reducible refine (tr_ahead.calls _ _ l0_0 a0_1 a0_2 a0_3 1 0 (wrap64 (a1 - 1)) t174 _ ?side1 ?side2 A12.out).mono ?_
  (case side1=>repeat (first|exact (Kd.C_below HR0_0.out HB.out)|(with_reducible refine Kd.C_alloc ?_ _)|(with_reducible refine Kd.C_drewN ?_ _)|(with_reducible refine Kd.C_drew ?_)))
  (case side2=>exact HC0_0.out)
  rintro e w17 ⟨rfl,hb⟩
  refine ⟨_,rfl,?_⟩
  have n0_:=A0_ (blk_below (g:=gb170) (o:=.cells #[.slice A0_0 l0_0.length c0_0,.int .i64 a0_1,.int .i64 a0_2,.int .i64 a0_3] 28 (0,0)) (bd_ BK170.out) hb);have n1_:=A0_ (below_step y2d_ hb);clear BK170;clear HB;have BK170:=n0_;have HB:=n1_;clear n0_ n1_;(try clear hb);(try clear hb2);(try clear hk);(try clear hi)
  refine hK.out _ _ ⟨(blk_cell BK170.out 0).trans rfl,(blk_cell BK170.out 1).trans rfl,(blk_cell BK170.out 2).trans rfl,(blk_cell BK170.out 3).trans rfl⟩ (fun hHeld=>?_)
  clear hK K
  refine norm_ (a':=?_) ?_ ?_
  rotate_left
  ·show Act.put _ (some 12) _=_
   simp only [Act.put,List.setIfInBounds_toArray,List.set_cons_zero,List.set_cons_succ,i64_w,i32_w]
   rfl
  refine pu_ (i:=5) (N:=some 14) ?_
  refine one_ (i:=8) (N:=some 17) #[true,true,true,true,true,true,true,true,true,true,false,false,false] rfl rfl (one_of HT_.out (by kernel_rfl)) (by decide) (fun K hK=>?_)
  refine goes_ Tryz.func103 (by kernel_rfl) rfl #[.agg #[.slice A0_0 l0_0.length c0_0,.int .i64 a0_1,.int .i64 a0_2,.int .i64 a0_3],.int .i64 1,.int .i64 0,.int .i64 a1] (by rfl) rfl rfl y2a_ ?_
  with_reducible refine (tr_ahead.calls _ _ l0_0 a0_1 a0_2 a0_3 1 0 a1 t175 _ ?side1 ?side2 A13.out).mono ?_
  (case side1=>repeat (first|exact (Kd.C_below HR0_0.out HB.out)|(with_reducible refine Kd.C_alloc ?_ _)|(with_reducible refine Kd.C_drewN ?_ _)|(with_reducible refine Kd.C_drew ?_)))
  (case side2=>exact HC0_0.out)
  rintro e w18 ⟨rfl,hb⟩
  refine ⟨_,rfl,?_⟩
  have n0_:=A0_ (blk_below (g:=gb170) (o:=.cells #[.slice A0_0 l0_0.length c0_0,.int .i64 a0_1,.int .i64 a0_2,.int .i64 a0_3] 28 (0,0)) (bd_ BK170.out) hb);have n1_:=A0_ (below_step y2d_ hb);clear BK170;clear HB;have BK170:=n0_;have HB:=n1_;clear n0_ n1_;(try clear hb);(try clear hb2);(try clear hk);(try clear hi)
  refine hK.out _ _ ⟨(blk_cell BK170.out 0).trans rfl,(blk_cell BK170.out 1).trans rfl,(blk_cell BK170.out 2).trans rfl,(blk_cell BK170.out 3).trans rfl⟩ (fun hHeld=>?_)
  clear hK K
  refine norm_ (a':=?_) ?_ ?_
  rotate_left
  ·show Act.put _ (some 17) _=_
   simp only [Act.put,List.setIfInBounds_toArray,List.set_cons_zero,List.set_cons_succ,i64_w,i32_w]
   rfl
  refine pu_ (i:=10) (N:=some 19) ?_
  refine one_ (i:=11) (N:=some 20) #[true,true,true,true,true,true,true,true,true,true,true,true,false] rfl rfl (one_of HT_.out (by kernel_rfl)) (by decide) (fun K hK=>?_)
  refine goes_ Tryz.func102 (by kernel_rfl) rfl #[.int .i64 (wrap64 (t174 - 0)),.int .i64 (wrap64 (t175 - 0))] (by rfl) rfl rfl y2a_ ?_
  with_reducible refine (tr_passed.calls (wrap64 (t174 - 0)) (wrap64 (t175 - 0)) t176 _ A14.out).mono ?_
  rintro e w' ⟨rfl,⟨nd,rfl⟩⟩
  refine ⟨_,rfl,?_⟩
  refine hK.out _ _ ⟨(blk_cell BK170.out 0).trans rfl,(blk_cell BK170.out 1).trans rfl,(blk_cell BK170.out 2).trans rfl,(blk_cell BK170.out 3).trans rfl⟩ (fun hHeld=>?_)
  clear hK K
  refine norm_ (a':=?_) ?_ ?_
  rotate_left
  ·show Act.put _ (some 20) _=_
   simp only [Act.put,List.setIfInBounds_toArray,List.set_cons_zero,List.set_cons_succ,i64_w,i32_w]
   rfl
  refine pu_ (i:=12) (N:=some 6) ?_
  refine done_ (done_of HT_.out (by kernel_rfl)) ?_
  try go_wp2
  go_ret
  exact ⟨y3_,y2d_⟩
def tr_Moons.l0:Nat→Int→List (S51)→Int→List (S83)→Int→Int→Int→Option ((List (S51)))
 |0,_,_,_,_,_,_,_=>none
 |k+1,x2,x7,x8,x178000,x178001,x178002,x178003=>if x8≤x2 then ((tr_Moon.f x178000 x178001 x178002 x178003 x8 false).bind fun t178=>(if t178=true then (if x7.length<8796093022208 then ((some (x7 ++ [(⟨x8,false⟩:S51)]:List (S51))).bind fun y179=>((tr_Moon.f x178000 x178001 x178002 x178003 x8 true).bind fun t182=>(if t182=true then (if y179.length<8796093022208 then (tr_Moons.l0 k x2 (y179 ++ [(⟨x8,true⟩:S51)]) (wrap64 (x8+1)) x178000 x178001 x178002 x178003) else (none)) else (tr_Moons.l0 k x2 y179 (wrap64 (x8+1)) x178000 x178001 x178002 x178003)))) else (none)) else ((tr_Moon.f x178000 x178001 x178002 x178003 x8 true).bind fun t186=>(if t186=true then (if x7.length<8796093022208 then (tr_Moons.l0 k x2 (x7 ++ [(⟨x8,true⟩:S51)]) (wrap64 (x8+1)) x178000 x178001 x178002 x178003) else (none)) else (tr_Moons.l0 k x2 x7 (wrap64 (x8+1)) x178000 x178001 x178002 x178003))))) else (some x7)
def tr_Moons.f (k:Nat) (l0_0:List (S83)) (a0_1:Int) (a0_2:Int) (a0_3:Int) (a1:Int) (a2:Int):Option ((List (S51))):=tr_Moons.l0 k a2 ([]:List (S51)) a1 l0_0 a0_1 a0_2 a0_3
set_option maxHeartbeats 8000000 in
set_option maxRecDepth 100000 in
theorem tr_Moons.calls (k:Nat) (A0_0:Option Addr) (c0_0:Nat) (l0_0:List (S83)) (a0_1:Int) (a0_2:Int) (a0_3:Int) (a1:Int) (a2:Int) (r:List (S51)) (w:World) (hr0_0:Kd.C k83 w A0_0 l0_0.length l0_0) (hc0_0:l0_0.length≤c0_0) (h:tr_Moons.f k l0_0 a0_1 a0_2 a0_3 a1 a2=some r):
  Calls Tryz.prog 16 #[.agg #[.slice A0_0 l0_0.length c0_0,.int .i64 a0_1,.int .i64 a0_2,.int .i64 a0_3],.int .i64 a1,.int .i64 a2] w fun e w'=>∃ v0_:Value,e=.returned (v0_)∧Kd.R k51 51 w' w.heap.size (fun _=>True) v0_ r∧Below w.heap.size w w':=by
 have hu28:=Tryz.underlying28
 have hu51:=Tryz.underlying51
 have HR0_0:=A0_ hr0_0;have HC0_0:=A0_ hc0_0;clear hr0_0 hc0_0
 have HB:=A0_ (Below.refl w.heap.size w)
 have H:(tr_Moons.l0 k a2 ([]:List (S51)) a1 l0_0 a0_1 a0_2 a0_3)=some r:=h
 clear h
 have H':=A0_ H
 clear H
 go_enter Tryz.func16,Tryz.ntmps16
 go_wp2_with (first|((with_reducible refine gate_dst (N:=3) rfl ?_);refine box_event ?hg (N:=3) ?hd (cs:=#[.slice A0_0 l0_0.length c0_0,.int .i64 a0_1,.int .i64 a0_2,.int .i64 a0_3]) (t:=28) ?hr ?_;(case hd=>rfl);(case hg=>rfl);(case hr=>first|(go_simp;done)|(go_simp;rfl));intro gb177 hg w4 hbox hb;have n0_:=A0_ (below_step y0_ hb);have n1_:=A0_ (hbox);have n2_:=A0_ ((by rw [hg];exact (below_size y0_):w.heap.size≤gb177));have n3_:=A0_ ((by rw [hg];exact (below_size y0_):w.heap.size≤gb177));clear HB;have HB:=n0_;have BK177:=n1_;have GW177:=n2_;have GE177:=n3_;clear n0_ n1_ n2_ n3_;clear hb hbox hg))
 go_loopg [7,8] k (fun kq v7 v8 w'=>∃ (x7_1:List (S51)) (x8_1:Int),v8=.int .i64 x8_1∧Aside0 (tr_Moons.l0 kq a2 x7_1 x8_1 l0_0 a0_1 a0_2 a0_3=some r)∧Aside0 (kq≤k)∧Aside0 (Kd.R k51 51 w' w.heap.size (fun _=>True) v7 x7_1)∧Aside0 (w'.heap[gb177]?=some (.cells #[(.slice A0_0 l0_0.length c0_0),.int .i64 a0_1,.int .i64 a0_2,.int .i64 a0_3] 28 (0,0)))∧Aside0 (Below w.heap.size w w'))
 case atStart=>exact ⟨(([]:List (S51))),(a1),y4_,H',⟨Nat.le_refl _⟩,⟨by first|exact Kd.R_nil _ _ _ _ _|exact Kd.N_nil _ _ _ _ _|exact Kd.V_nil _ _ _ _ _|exact Kd.Q_nil _ _ _ _ _|exact Kd.S_nil _ _ _ _ _⟩,⟨by (with_reducible repeat (first|refine blk_drewN ?_ _|refine blk_drew ?_|refine blk_alloc ?_ _));exact BK177.out⟩,⟨yf_⟩⟩
 case round=>
  clear H'
  (try clear c1);(try clear p2)
  obtain ⟨x7_1,x8_1,rfl,HA,HK1,HO_7,BK177,HB⟩:=hrel
  cases gk with
  |zero=>exact absurd HA.out (by simp [tr_Moons.l0])
  |succ k1=>
   have H:=HA.out
   clear HA
   simp only [tr_Moons.l0] at H
   by_cases c5:x8_1≤a2
   ·rw [if_pos c5] at H;have c5b0:decide (x8_1≤a2)=true:=decide_eq_true c5;clear c5;replace H:=Option.bind_eq_some_iff.mp H;obtain ⟨t178,A60,H⟩:=H
    replace H:(if t178=true then (if x7_1.length<8796093022208 then ((some (x7_1 ++ [(⟨x8_1,false⟩:S51)]:List (S51))).bind fun y179=>((tr_Moon.f l0_0 a0_1 a0_2 a0_3 x8_1 true).bind fun t182=>(if t182=true then (if y179.length<8796093022208 then (tr_Moons.l0 k1 a2 (y179 ++ [(⟨x8_1,true⟩:S51)]) (wrap64 (x8_1+1)) l0_0 a0_1 a0_2 a0_3) else (none)) else (tr_Moons.l0 k1 a2 y179 (wrap64 (x8_1+1)) l0_0 a0_1 a0_2 a0_3)))) else (none)) else ((tr_Moon.f l0_0 a0_1 a0_2 a0_3 x8_1 true).bind fun t186=>(if t186=true then (if x7_1.length<8796093022208 then (tr_Moons.l0 k1 a2 (x7_1 ++ [(⟨x8_1,true⟩:S51)]) (wrap64 (x8_1+1)) l0_0 a0_1 a0_2 a0_3) else (none)) else (tr_Moons.l0 k1 a2 x7_1 (wrap64 (x8_1+1)) l0_0 a0_1 a0_2 a0_3))))=some r:=H
    have A6:=A0_ A60;clear A60
    by_cases c7:t178=true
    ·subst c7
     have H1:(if x7_1.length<8796093022208 then ((some (x7_1 ++ [(⟨x8_1,false⟩:S51)]:List (S51))).bind fun y179=>((tr_Moon.f l0_0 a0_1 a0_2 a0_3 x8_1 true).bind fun t182=>(if t182=true then (if y179.length<8796093022208 then (tr_Moons.l0 k1 a2 (y179 ++ [(⟨x8_1,true⟩:S51)]) (wrap64 (x8_1+1)) l0_0 a0_1 a0_2 a0_3) else (none)) else (tr_Moons.l0 k1 a2 y179 (wrap64 (x8_1+1)) l0_0 a0_1 a0_2 a0_3)))) else (none))=some r:=by rw [if_pos rfl] at H;exact H
     clear H;have H:=H1;clear H1
     by_cases c8:x7_1.length<8796093022208
     ·rw [if_pos c8] at H;have LMc8:=A0_ c8;clear c8
      obtain ⟨y179,hy179⟩:∃ y_:List (S51),y_=(x7_1 ++ [(⟨x8_1,false⟩:S51)]):=⟨_,rfl⟩
      replace H:((tr_Moon.f l0_0 a0_1 a0_2 a0_3 x8_1 true).bind fun t182=>(if t182=true then (if y179.length<8796093022208 then (tr_Moons.l0 k1 a2 (y179 ++ [(⟨x8_1,true⟩:S51)]) (wrap64 (x8_1+1)) l0_0 a0_1 a0_2 a0_3) else (none)) else (tr_Moons.l0 k1 a2 y179 (wrap64 (x8_1+1)) l0_0 a0_1 a0_2 a0_3)))=some r:=by first|(rw [hy179];with_reducible exact H)|(have H2_:=(Option.bind_some _ _).symm.trans H;rw [hy179];with_reducible exact H2_)|(have H2_:=(Option.bind_some _ _).symm.trans H;with_reducible exact H2_)|with_reducible exact H|(rw [hy179];exact H)|exact H
      have Ny179:=A0_ hy179;clear hy179;replace H:=Option.bind_eq_some_iff.mp H;obtain ⟨t182,A90,H⟩:=H
      replace H:(if t182=true then (if y179.length<8796093022208 then (tr_Moons.l0 k1 a2 (y179 ++ [(⟨x8_1,true⟩:S51)]) (wrap64 (x8_1+1)) l0_0 a0_1 a0_2 a0_3) else (none)) else (tr_Moons.l0 k1 a2 y179 (wrap64 (x8_1+1)) l0_0 a0_1 a0_2 a0_3))=some r:=H
      have A9:=A0_ A90;clear A90
      by_cases c10:t182=true
      ·subst c10
       have H1:(if y179.length<8796093022208 then (tr_Moons.l0 k1 a2 (y179 ++ [(⟨x8_1,true⟩:S51)]) (wrap64 (x8_1+1)) l0_0 a0_1 a0_2 a0_3) else (none))=some r:=by rw [if_pos rfl] at H;exact H
       clear H;have H:=H1;clear H1
       by_cases c11:y179.length<8796093022208
       ·rw [if_pos c11] at H;have LMc11:=A0_ c11;clear c11
        obtain ⟨y183,hy183⟩:∃ y_:List (S51),y_=(y179 ++ [(⟨x8_1,true⟩:S51)]):=⟨_,rfl⟩
        replace H:(tr_Moons.l0 k1 a2 y183 (wrap64 (x8_1+1)) l0_0 a0_1 a0_2 a0_3)=some r:=by first|(rw [hy183];with_reducible exact H)|(have H2_:=(Option.bind_some _ _).symm.trans H;rw [hy183];with_reducible exact H2_)|(have H2_:=(Option.bind_some _ _).symm.trans H;with_reducible exact H2_)|with_reducible exact H|(rw [hy183];exact H)|exact H
        have Ny183:=A0_ hy183;clear hy183
        have H':=A0_ H
        clear H;obtain ⟨hcz12_0,hcz12_1,hcz12_2,hcz12_3,hfz12_0,hfz12_1,hfz12_2,hfz12_3⟩:=bq4_ BK177.out
        go_wp2_with (first|((with_reducible refine gate_callee (f:=57) rfl ?_);refine goesL_ (some 17) rfl rfl Tryz.func57 (by kernel_rfl) rfl #[.agg #[.slice A0_0 l0_0.length c0_0,.int .i64 a0_1,.int .i64 a0_2,.int .i64 a0_3],.int .i64 x8_1,.bool false] rfl y1_ ?_;(with_reducible refine (tr_Moon.calls _ _ l0_0 a0_1 a0_2 a0_3 x8_1 false true _ ?side1 ?side2 A6.out).mono ?_);(case side1=>repeat (first|exact (Kd.C_below HR0_0.out HB.out)|(with_reducible refine Kd.C_alloc ?_ _)|(with_reducible refine Kd.C_drewN ?_ _)|(with_reducible refine Kd.C_drew ?_)));(case side2=>exact HC0_0.out);rintro e w13 ⟨rfl,hb⟩;refine ⟨_,rfl,?_⟩;have n0_:=A0_ (Kd.R_below (rd_ HO_7.out) hb);have n1_:=A0_ (blk_below (g:=gb177) (o:=.cells #[.slice A0_0 l0_0.length c0_0,.int .i64 a0_1,.int .i64 a0_2,.int .i64 a0_3] 28 (0,0)) (bd_ BK177.out) hb);have n2_:=A0_ (below_step yf_ hb);clear HO_7;clear BK177;clear HB;have HO_7:=n0_;have BK177:=n1_;have HB:=n2_;clear n0_ n1_ n2_;(try clear hb);(try clear hb2);(try clear hk);(try clear hi))|((with_reducible refine gate_builtin (b:=.append) (xs:=#[.tmp 18,.tmp 21]) rfl ?_);at_builtin;refine Kd.R_append k51 (w0:=w) w.heap.size rfl (.tmp 18) (.tmp 21) 31 51 (.agg #[(.int .i64 0),(.bool false)]) 16 rfl Tryz.underlying31 info51 rfl (by decide) (by omega) u7 x7_1 (⟨x8_1,false⟩:S51) [.int .i64 x8_1,.bool false] (fun _=>True) (fun _=>False) rfl rfl ?aP (fun _ hk=>hk.elim) ?aF ?aO ?aB ?aS ?aL ?_;(case aP=>exact k51_mkM _ _ _ (⟨x8_1,false⟩:S51));(case aB=>exact yf_);(case aF=>exact (fun _ _=>trivial));(case aO=>exact (rd_ HO_7.out));(case aS=>exact (below_size yf_));(case aL=>have:=LMc8.out;omega);intro v180 w14 ho hb hg hat;rw [← Ny179.out] at ho;have n0_:=A0_ (blk_grown (g:=gb177) (o:=.cells #[.slice A0_0 l0_0.length c0_0,.int .i64 a0_1,.int .i64 a0_2,.int .i64 a0_3] 28 (0,0)) (bd_ BK177.out) hg (Kd.R_ne HO_7.out BK177.out (by decide)));have n1_:=A0_ (hb);have n2_:=A0_ (ho);clear BK177;clear HB;clear HO_7;have BK177:=n0_;have HB:=n1_;have HO181:=n2_;clear n0_ n1_ n2_;clear ho hb hg hat;obtain ⟨hcz15_0,hcz15_1,hcz15_2,hcz15_3,hfz15_0,hfz15_1,hfz15_2,hfz15_3⟩:=bq4_ BK177.out)|((with_reducible refine gate_callee (f:=57) rfl ?_);refine goesL_ (some 25) rfl rfl Tryz.func57 (by kernel_rfl) rfl #[.agg #[.slice A0_0 l0_0.length c0_0,.int .i64 a0_1,.int .i64 a0_2,.int .i64 a0_3],.int .i64 x8_1,.bool true] rfl y1_ ?_;(with_reducible refine (tr_Moon.calls _ _ l0_0 a0_1 a0_2 a0_3 x8_1 true true _ ?side1 ?side2 A9.out).mono ?_);(case side1=>repeat (first|exact (Kd.C_below HR0_0.out HB.out)|(with_reducible refine Kd.C_alloc ?_ _)|(with_reducible refine Kd.C_drewN ?_ _)|(with_reducible refine Kd.C_drew ?_)));(case side2=>exact HC0_0.out);rintro e w16 ⟨rfl,hb⟩;refine ⟨_,rfl,?_⟩;have n0_:=A0_ (Kd.R_below (rd_ HO181.out) hb);have n1_:=A0_ (blk_below (g:=gb177) (o:=.cells #[.slice A0_0 l0_0.length c0_0,.int .i64 a0_1,.int .i64 a0_2,.int .i64 a0_3] 28 (0,0)) (bd_ BK177.out) hb);have n2_:=A0_ (below_step yf_ hb);clear HO181;clear BK177;clear HB;have HO181:=n0_;have BK177:=n1_;have HB:=n2_;clear n0_ n1_ n2_;(try clear hb);(try clear hb2);(try clear hk);(try clear hi))|((with_reducible refine gate_builtin (b:=.append) (xs:=#[.tmp 26,.tmp 29]) rfl ?_);at_builtin;refine Kd.R_append k51 (w0:=w) w.heap.size rfl (.tmp 26) (.tmp 29) 31 51 (.agg #[(.int .i64 0),(.bool false)]) 16 rfl Tryz.underlying31 info51 rfl (by decide) (by omega) v180 y179 (⟨x8_1,true⟩:S51) [.int .i64 x8_1,.bool true] (fun _=>True) (fun _=>False) rfl rfl ?aP (fun _ hk=>hk.elim) ?aF ?aO ?aB ?aS ?aL ?_;(case aP=>exact k51_mkM _ _ _ (⟨x8_1,true⟩:S51));(case aB=>exact yf_);(case aF=>exact (fun _ _=>trivial));(case aO=>exact (rd_ HO181.out));(case aS=>exact (below_size yf_));(case aL=>have:=LMc11.out;omega);intro v184 w17 ho hb hg hat;rw [← Ny183.out] at ho;have n0_:=A0_ (blk_grown (g:=gb177) (o:=.cells #[.slice A0_0 l0_0.length c0_0,.int .i64 a0_1,.int .i64 a0_2,.int .i64 a0_3] 28 (0,0)) (bd_ BK177.out) hg (Kd.R_ne HO181.out BK177.out (by decide)));have n1_:=A0_ (hb);have n2_:=A0_ (ho);clear BK177;clear HB;clear HO181;have BK177:=n0_;have HB:=n1_;have HO185:=n2_;clear n0_ n1_ n2_;clear ho hb hg hat))
        go_roundg k1
        case measure=>have:=HK1.out;omega
        case rel=>exact ⟨(y183),(wrap64 (x8_1+1)),y4_,H',⟨by have:=HK1.out;omega⟩,⟨by (with_reducible repeat (first|apply Kd.R_alloc|apply Kd.R_drewN|apply Kd.R_drew));exact HO185.out⟩,⟨by (with_reducible repeat (first|refine blk_drewN ?_ _|refine blk_drew ?_|refine blk_alloc ?_ _));exact BK177.out⟩,⟨yf_⟩⟩
       ·rw [if_neg c11] at H;exact absurd H (by simp)
      ·replace c10:=Bool.eq_false_iff.mpr c10;subst c10
       have H1:(tr_Moons.l0 k1 a2 y179 (wrap64 (x8_1+1)) l0_0 a0_1 a0_2 a0_3)=some r:=by rw [if_neg (show ¬ (false=true) by decide)] at H;exact H
       clear H;have H:=H1;clear H1
       have H':=A0_ H
       clear H;obtain ⟨hcz18_0,hcz18_1,hcz18_2,hcz18_3,hfz18_0,hfz18_1,hfz18_2,hfz18_3⟩:=bq4_ BK177.out
       go_wp2_with (first|((with_reducible refine gate_callee (f:=57) rfl ?_);refine goesL_ (some 17) rfl rfl Tryz.func57 (by kernel_rfl) rfl #[.agg #[.slice A0_0 l0_0.length c0_0,.int .i64 a0_1,.int .i64 a0_2,.int .i64 a0_3],.int .i64 x8_1,.bool false] rfl y1_ ?_;(with_reducible refine (tr_Moon.calls _ _ l0_0 a0_1 a0_2 a0_3 x8_1 false true _ ?side1 ?side2 A6.out).mono ?_);(case side1=>repeat (first|exact (Kd.C_below HR0_0.out HB.out)|(with_reducible refine Kd.C_alloc ?_ _)|(with_reducible refine Kd.C_drewN ?_ _)|(with_reducible refine Kd.C_drew ?_)));(case side2=>exact HC0_0.out);rintro e w19 ⟨rfl,hb⟩;refine ⟨_,rfl,?_⟩;have n0_:=A0_ (Kd.R_below (rd_ HO_7.out) hb);have n1_:=A0_ (blk_below (g:=gb177) (o:=.cells #[.slice A0_0 l0_0.length c0_0,.int .i64 a0_1,.int .i64 a0_2,.int .i64 a0_3] 28 (0,0)) (bd_ BK177.out) hb);have n2_:=A0_ (below_step yf_ hb);clear HO_7;clear BK177;clear HB;have HO_7:=n0_;have BK177:=n1_;have HB:=n2_;clear n0_ n1_ n2_;(try clear hb);(try clear hb2);(try clear hk);(try clear hi))|((with_reducible refine gate_builtin (b:=.append) (xs:=#[.tmp 18,.tmp 21]) rfl ?_);at_builtin;refine Kd.R_append k51 (w0:=w) w.heap.size rfl (.tmp 18) (.tmp 21) 31 51 (.agg #[(.int .i64 0),(.bool false)]) 16 rfl Tryz.underlying31 info51 rfl (by decide) (by omega) u7 x7_1 (⟨x8_1,false⟩:S51) [.int .i64 x8_1,.bool false] (fun _=>True) (fun _=>False) rfl rfl ?aP (fun _ hk=>hk.elim) ?aF ?aO ?aB ?aS ?aL ?_;(case aP=>exact k51_mkM _ _ _ (⟨x8_1,false⟩:S51));(case aB=>exact yf_);(case aF=>exact (fun _ _=>trivial));(case aO=>exact (rd_ HO_7.out));(case aS=>exact (below_size yf_));(case aL=>have:=LMc8.out;omega);intro v180 w20 ho hb hg hat;rw [← Ny179.out] at ho;have n0_:=A0_ (blk_grown (g:=gb177) (o:=.cells #[.slice A0_0 l0_0.length c0_0,.int .i64 a0_1,.int .i64 a0_2,.int .i64 a0_3] 28 (0,0)) (bd_ BK177.out) hg (Kd.R_ne HO_7.out BK177.out (by decide)));have n1_:=A0_ (hb);have n2_:=A0_ (ho);clear BK177;clear HB;clear HO_7;have BK177:=n0_;have HB:=n1_;have HO181:=n2_;clear n0_ n1_ n2_;clear ho hb hg hat;obtain ⟨hcz21_0,hcz21_1,hcz21_2,hcz21_3,hfz21_0,hfz21_1,hfz21_2,hfz21_3⟩:=bq4_ BK177.out)|((with_reducible refine gate_callee (f:=57) rfl ?_);refine goesL_ (some 25) rfl rfl Tryz.func57 (by kernel_rfl) rfl #[.agg #[.slice A0_0 l0_0.length c0_0,.int .i64 a0_1,.int .i64 a0_2,.int .i64 a0_3],.int .i64 x8_1,.bool true] rfl y1_ ?_;(with_reducible refine (tr_Moon.calls _ _ l0_0 a0_1 a0_2 a0_3 x8_1 true false _ ?side1 ?side2 A9.out).mono ?_);(case side1=>repeat (first|exact (Kd.C_below HR0_0.out HB.out)|(with_reducible refine Kd.C_alloc ?_ _)|(with_reducible refine Kd.C_drewN ?_ _)|(with_reducible refine Kd.C_drew ?_)));(case side2=>exact HC0_0.out);rintro e w22 ⟨rfl,hb⟩;refine ⟨_,rfl,?_⟩;have n0_:=A0_ (Kd.R_below (rd_ HO181.out) hb);have n1_:=A0_ (blk_below (g:=gb177) (o:=.cells #[.slice A0_0 l0_0.length c0_0,.int .i64 a0_1,.int .i64 a0_2,.int .i64 a0_3] 28 (0,0)) (bd_ BK177.out) hb);have n2_:=A0_ (below_step yf_ hb);clear HO181;clear BK177;clear HB;have HO181:=n0_;have BK177:=n1_;have HB:=n2_;clear n0_ n1_ n2_;(try clear hb);(try clear hb2);(try clear hk);(try clear hi)))
       go_roundg k1
       case measure=>have:=HK1.out;omega
       case rel=>exact ⟨(y179),(wrap64 (x8_1+1)),y4_,H',⟨by have:=HK1.out;omega⟩,⟨by (with_reducible repeat (first|apply Kd.R_alloc|apply Kd.R_drewN|apply Kd.R_drew));exact HO181.out⟩,⟨by (with_reducible repeat (first|refine blk_drewN ?_ _|refine blk_drew ?_|refine blk_alloc ?_ _));exact BK177.out⟩,⟨yf_⟩⟩
     ·rw [if_neg c8] at H;exact absurd H (by simp)
    ·replace c7:=Bool.eq_false_iff.mpr c7;subst c7
     have H1:((tr_Moon.f l0_0 a0_1 a0_2 a0_3 x8_1 true).bind fun t186=>(if t186=true then (if x7_1.length<8796093022208 then (tr_Moons.l0 k1 a2 (x7_1 ++ [(⟨x8_1,true⟩:S51)]) (wrap64 (x8_1+1)) l0_0 a0_1 a0_2 a0_3) else (none)) else (tr_Moons.l0 k1 a2 x7_1 (wrap64 (x8_1+1)) l0_0 a0_1 a0_2 a0_3)))=some r:=by rw [if_neg (show ¬ (false=true) by decide)] at H;exact H
     clear H;have H:=H1;clear H1;replace H:=Option.bind_eq_some_iff.mp H;obtain ⟨t186,A230,H⟩:=H
     replace H:(if t186=true then (if x7_1.length<8796093022208 then (tr_Moons.l0 k1 a2 (x7_1 ++ [(⟨x8_1,true⟩:S51)]) (wrap64 (x8_1+1)) l0_0 a0_1 a0_2 a0_3) else (none)) else (tr_Moons.l0 k1 a2 x7_1 (wrap64 (x8_1+1)) l0_0 a0_1 a0_2 a0_3))=some r:=H
     have A23:=A0_ A230;clear A230
     by_cases c24:t186=true
     ·subst c24
      have H1:(if x7_1.length<8796093022208 then (tr_Moons.l0 k1 a2 (x7_1 ++ [(⟨x8_1,true⟩:S51)]) (wrap64 (x8_1+1)) l0_0 a0_1 a0_2 a0_3) else (none))=some r:=by rw [if_pos rfl] at H;exact H
      clear H;have H:=H1;clear H1
      by_cases c25:x7_1.length<8796093022208
      ·rw [if_pos c25] at H;have LMc25:=A0_ c25;clear c25
       obtain ⟨y187,hy187⟩:∃ y_:List (S51),y_=(x7_1 ++ [(⟨x8_1,true⟩:S51)]):=⟨_,rfl⟩
       replace H:(tr_Moons.l0 k1 a2 y187 (wrap64 (x8_1+1)) l0_0 a0_1 a0_2 a0_3)=some r:=by first|(rw [hy187];with_reducible exact H)|(have H2_:=(Option.bind_some _ _).symm.trans H;rw [hy187];with_reducible exact H2_)|(have H2_:=(Option.bind_some _ _).symm.trans H;with_reducible exact H2_)|with_reducible exact H|(rw [hy187];exact H)|exact H
       have Ny187:=A0_ hy187;clear hy187
       have H':=A0_ H
       clear H;obtain ⟨hcz26_0,hcz26_1,hcz26_2,hcz26_3,hfz26_0,hfz26_1,hfz26_2,hfz26_3⟩:=bq4_ BK177.out
       go_wp2_with (first|((with_reducible refine gate_callee (f:=57) rfl ?_);refine goesL_ (some 17) rfl rfl Tryz.func57 (by kernel_rfl) rfl #[.agg #[.slice A0_0 l0_0.length c0_0,.int .i64 a0_1,.int .i64 a0_2,.int .i64 a0_3],.int .i64 x8_1,.bool false] rfl y1_ ?_;(with_reducible refine (tr_Moon.calls _ _ l0_0 a0_1 a0_2 a0_3 x8_1 false false _ ?side1 ?side2 A6.out).mono ?_);(case side1=>repeat (first|exact (Kd.C_below HR0_0.out HB.out)|(with_reducible refine Kd.C_alloc ?_ _)|(with_reducible refine Kd.C_drewN ?_ _)|(with_reducible refine Kd.C_drew ?_)));(case side2=>exact HC0_0.out);rintro e w27 ⟨rfl,hb⟩;refine ⟨_,rfl,?_⟩;have n0_:=A0_ (Kd.R_below (rd_ HO_7.out) hb);have n1_:=A0_ (blk_below (g:=gb177) (o:=.cells #[.slice A0_0 l0_0.length c0_0,.int .i64 a0_1,.int .i64 a0_2,.int .i64 a0_3] 28 (0,0)) (bd_ BK177.out) hb);have n2_:=A0_ (below_step yf_ hb);clear HO_7;clear BK177;clear HB;have HO_7:=n0_;have BK177:=n1_;have HB:=n2_;clear n0_ n1_ n2_;(try clear hb);(try clear hb2);(try clear hk);(try clear hi);obtain ⟨hcz28_0,hcz28_1,hcz28_2,hcz28_3,hfz28_0,hfz28_1,hfz28_2,hfz28_3⟩:=bq4_ BK177.out)|((with_reducible refine gate_callee (f:=57) rfl ?_);refine goesL_ (some 25) rfl rfl Tryz.func57 (by kernel_rfl) rfl #[.agg #[.slice A0_0 l0_0.length c0_0,.int .i64 a0_1,.int .i64 a0_2,.int .i64 a0_3],.int .i64 x8_1,.bool true] rfl y1_ ?_;(with_reducible refine (tr_Moon.calls _ _ l0_0 a0_1 a0_2 a0_3 x8_1 true true _ ?side1 ?side2 A23.out).mono ?_);(case side1=>repeat (first|exact (Kd.C_below HR0_0.out HB.out)|(with_reducible refine Kd.C_alloc ?_ _)|(with_reducible refine Kd.C_drewN ?_ _)|(with_reducible refine Kd.C_drew ?_)));(case side2=>exact HC0_0.out);rintro e w29 ⟨rfl,hb⟩;refine ⟨_,rfl,?_⟩;have n0_:=A0_ (Kd.R_below (rd_ HO_7.out) hb);have n1_:=A0_ (blk_below (g:=gb177) (o:=.cells #[.slice A0_0 l0_0.length c0_0,.int .i64 a0_1,.int .i64 a0_2,.int .i64 a0_3] 28 (0,0)) (bd_ BK177.out) hb);have n2_:=A0_ (below_step yf_ hb);clear HO_7;clear BK177;clear HB;have HO_7:=n0_;have BK177:=n1_;have HB:=n2_;clear n0_ n1_ n2_;(try clear hb);(try clear hb2);(try clear hk);(try clear hi))|((with_reducible refine gate_builtin (b:=.append) (xs:=#[.tmp 26,.tmp 29]) rfl ?_);at_builtin;refine Kd.R_append k51 (w0:=w) w.heap.size rfl (.tmp 26) (.tmp 29) 31 51 (.agg #[(.int .i64 0),(.bool false)]) 16 rfl Tryz.underlying31 info51 rfl (by decide) (by omega) u7 x7_1 (⟨x8_1,true⟩:S51) [.int .i64 x8_1,.bool true] (fun _=>True) (fun _=>False) rfl rfl ?aP (fun _ hk=>hk.elim) ?aF ?aO ?aB ?aS ?aL ?_;(case aP=>exact k51_mkM _ _ _ (⟨x8_1,true⟩:S51));(case aB=>exact yf_);(case aF=>exact (fun _ _=>trivial));(case aO=>exact (rd_ HO_7.out));(case aS=>exact (below_size yf_));(case aL=>have:=LMc25.out;omega);intro v188 w30 ho hb hg hat;rw [← Ny187.out] at ho;have n0_:=A0_ (blk_grown (g:=gb177) (o:=.cells #[.slice A0_0 l0_0.length c0_0,.int .i64 a0_1,.int .i64 a0_2,.int .i64 a0_3] 28 (0,0)) (bd_ BK177.out) hg (Kd.R_ne HO_7.out BK177.out (by decide)));have n1_:=A0_ (hb);have n2_:=A0_ (ho);clear BK177;clear HB;clear HO_7;have BK177:=n0_;have HB:=n1_;have HO189:=n2_;clear n0_ n1_ n2_;clear ho hb hg hat))
       go_roundg k1
       case measure=>have:=HK1.out;omega
       case rel=>exact ⟨(y187),(wrap64 (x8_1+1)),y4_,H',⟨by have:=HK1.out;omega⟩,⟨by (with_reducible repeat (first|apply Kd.R_alloc|apply Kd.R_drewN|apply Kd.R_drew));exact HO189.out⟩,⟨by (with_reducible repeat (first|refine blk_drewN ?_ _|refine blk_drew ?_|refine blk_alloc ?_ _));exact BK177.out⟩,⟨yf_⟩⟩
      ·rw [if_neg c25] at H;exact absurd H (by simp)
     ·replace c24:=Bool.eq_false_iff.mpr c24;subst c24
      have H1:(tr_Moons.l0 k1 a2 x7_1 (wrap64 (x8_1+1)) l0_0 a0_1 a0_2 a0_3)=some r:=by rw [if_neg (show ¬ (false=true) by decide)] at H;exact H
      clear H;have H:=H1;clear H1
      have H':=A0_ H
      clear H;obtain ⟨hcz31_0,hcz31_1,hcz31_2,hcz31_3,hfz31_0,hfz31_1,hfz31_2,hfz31_3⟩:=bq4_ BK177.out
      go_wp2_with (first|((with_reducible refine gate_callee (f:=57) rfl ?_);refine goesL_ (some 17) rfl rfl Tryz.func57 (by kernel_rfl) rfl #[.agg #[.slice A0_0 l0_0.length c0_0,.int .i64 a0_1,.int .i64 a0_2,.int .i64 a0_3],.int .i64 x8_1,.bool false] rfl y1_ ?_;(with_reducible refine (tr_Moon.calls _ _ l0_0 a0_1 a0_2 a0_3 x8_1 false false _ ?side1 ?side2 A6.out).mono ?_);(case side1=>repeat (first|exact (Kd.C_below HR0_0.out HB.out)|(with_reducible refine Kd.C_alloc ?_ _)|(with_reducible refine Kd.C_drewN ?_ _)|(with_reducible refine Kd.C_drew ?_)));(case side2=>exact HC0_0.out);rintro e w32 ⟨rfl,hb⟩;refine ⟨_,rfl,?_⟩;have n0_:=A0_ (Kd.R_below (rd_ HO_7.out) hb);have n1_:=A0_ (blk_below (g:=gb177) (o:=.cells #[.slice A0_0 l0_0.length c0_0,.int .i64 a0_1,.int .i64 a0_2,.int .i64 a0_3] 28 (0,0)) (bd_ BK177.out) hb);have n2_:=A0_ (below_step yf_ hb);clear HO_7;clear BK177;clear HB;have HO_7:=n0_;have BK177:=n1_;have HB:=n2_;clear n0_ n1_ n2_;(try clear hb);(try clear hb2);(try clear hk);(try clear hi);obtain ⟨hcz33_0,hcz33_1,hcz33_2,hcz33_3,hfz33_0,hfz33_1,hfz33_2,hfz33_3⟩:=bq4_ BK177.out)|((with_reducible refine gate_callee (f:=57) rfl ?_);refine goesL_ (some 25) rfl rfl Tryz.func57 (by kernel_rfl) rfl #[.agg #[.slice A0_0 l0_0.length c0_0,.int .i64 a0_1,.int .i64 a0_2,.int .i64 a0_3],.int .i64 x8_1,.bool true] rfl y1_ ?_;(with_reducible refine (tr_Moon.calls _ _ l0_0 a0_1 a0_2 a0_3 x8_1 true false _ ?side1 ?side2 A23.out).mono ?_);(case side1=>repeat (first|exact (Kd.C_below HR0_0.out HB.out)|(with_reducible refine Kd.C_alloc ?_ _)|(with_reducible refine Kd.C_drewN ?_ _)|(with_reducible refine Kd.C_drew ?_)));(case side2=>exact HC0_0.out);rintro e w34 ⟨rfl,hb⟩;refine ⟨_,rfl,?_⟩;have n0_:=A0_ (Kd.R_below (rd_ HO_7.out) hb);have n1_:=A0_ (blk_below (g:=gb177) (o:=.cells #[.slice A0_0 l0_0.length c0_0,.int .i64 a0_1,.int .i64 a0_2,.int .i64 a0_3] 28 (0,0)) (bd_ BK177.out) hb);have n2_:=A0_ (below_step yf_ hb);clear HO_7;clear BK177;clear HB;have HO_7:=n0_;have BK177:=n1_;have HB:=n2_;clear n0_ n1_ n2_;(try clear hb);(try clear hb2);(try clear hk);(try clear hi)))
      go_roundg k1
      case measure=>have:=HK1.out;omega
      case rel=>exact ⟨(x7_1),(wrap64 (x8_1+1)),y4_,H',⟨by have:=HK1.out;omega⟩,⟨by (with_reducible repeat (first|apply Kd.R_alloc|apply Kd.R_drewN|apply Kd.R_drew));exact HO_7.out⟩,⟨by (with_reducible repeat (first|refine blk_drewN ?_ _|refine blk_drew ?_|refine blk_alloc ?_ _));exact BK177.out⟩,⟨yf_⟩⟩
   ·rw [if_neg c5] at H;have c5b0:decide (x8_1≤a2)=false:=decide_eq_false c5;clear c5;obtain rfl:=Option.some.inj H;go_wp2;go_ret
    exact ⟨_,y3_,by (with_reducible repeat (first|apply Kd.R_alloc|apply Kd.R_drewN|apply Kd.R_drew));exact HO_7.out,yf_⟩
end Go.Proofs.YtaidphhkhddemaaGreatDoor.PSky
end
section
namespace Go.Proofs.YtaidphhkhddemaaGreatDoor.PSky
open Go.RowKit Go.Proofs.YtaidphhkhddemaaGreatDoorW.PrintWords Go.Proofs.YtaidphhkhddemaaGreatDoorW.PrintLast Go.Proofs.YtaidphhkhddemaaGreatDoorW.PrintMore
attribute [local go_sem] max2_int min2_int max_two min_two max_three min_three max_four min_four
set_option linter.unusedVariables false
set_option linter.unusedSimpArgs false
def tr_Span.f (a0:Int) (a1:Int):Option (Bool):=(tr_in.f a0 1 20000).bind fun t147=>(if t147=true then ((tr_in.f a1 a0 20000).bind fun t148=>(if t148=true then (some (decide ((wrap64 (a1 - a0))≤800))) else (some false))) else (some false))
set_option maxHeartbeats 8000000 in
set_option maxRecDepth 100000 in
theorem tr_Span.calls (a0:Int) (a1:Int) (r:Bool) (w:World) (h:tr_Span.f a0 a1=some r):
  Calls Tryz.prog 14 #[.int .i64 a0,.int .i64 a1] w fun e w'=>e=.returned (.bool r)∧Drawn0 w w':=by
 have H:((tr_in.f a0 1 20000).bind fun t147=>(if t147=true then ((tr_in.f a1 a0 20000).bind fun t148=>(if t148=true then (some (decide ((wrap64 (a1 - a0))≤800))) else (some false))) else (some false)))=some r:=h
 clear h;replace H:=Option.bind_eq_some_iff.mp H;obtain ⟨t147,A30,H⟩:=H
 replace H:(if t147=true then ((tr_in.f a1 a0 20000).bind fun t148=>(if t148=true then (some (decide ((wrap64 (a1 - a0))≤800))) else (some false))) else (some false))=some r:=H
 have A3:=A0_ A30;clear A30
 by_cases c4:t147=true
 ·subst c4
  have H1:((tr_in.f a1 a0 20000).bind fun t148=>(if t148=true then (some (decide ((wrap64 (a1 - a0))≤800))) else (some false)))=some r:=by rw [if_pos rfl] at H;exact H
  clear H;have H:=H1;clear H1;replace H:=Option.bind_eq_some_iff.mp H;obtain ⟨t148,A50,H⟩:=H
  replace H:(if t148=true then (some (decide ((wrap64 (a1 - a0))≤800))) else (some false))=some r:=H
  have A5:=A0_ A50;clear A50
  by_cases c6:t148=true
  ·subst c6
   have H1:(some (decide ((wrap64 (a1 - a0))≤800)))=some r:=by rw [if_pos rfl] at H;exact H
   clear H;have H:=H1;clear H1;obtain rfl:=Option.some.inj H
   go_enter Tryz.func14,Tryz.ntmps14
   go_wp2_with (first|((with_reducible refine gate_callee (f:=56) rfl ?_);refine goesL_ (some 6) rfl rfl Tryz.func56 (by kernel_rfl) rfl #[.int .i64 a0,.int .i64 1,.int .i64 20000] rfl y1_ ?_;(with_reducible refine (tr_in.calls a0 1 20000 true _ A3.out).mono ?_);rintro e w' ⟨rfl,⟨nd,rfl⟩⟩;refine ⟨_,rfl,?_⟩)|(go_at_call 56;(with_reducible refine (tr_in.calls a1 a0 20000 true _ A5.out).mono ?_);rintro e w' ⟨rfl,⟨nd,rfl⟩⟩))
   go_ret
   exact ⟨y4_,yb_⟩
  ·replace c6:=Bool.eq_false_iff.mpr c6;subst c6
   have H1:(some false)=some r:=by rw [if_neg (show ¬ (false=true) by decide)] at H;exact H
   clear H;have H:=H1;clear H1;obtain rfl:=Option.some.inj H
   go_enter Tryz.func14,Tryz.ntmps14
   go_wp2_with (first|((with_reducible refine gate_callee (f:=56) rfl ?_);refine goesL_ (some 6) rfl rfl Tryz.func56 (by kernel_rfl) rfl #[.int .i64 a0,.int .i64 1,.int .i64 20000] rfl y1_ ?_;(with_reducible refine (tr_in.calls a0 1 20000 true _ A3.out).mono ?_);rintro e w' ⟨rfl,⟨nd,rfl⟩⟩;refine ⟨_,rfl,?_⟩)|(go_at_call 56;(with_reducible refine (tr_in.calls a1 a0 20000 false _ A5.out).mono ?_);rintro e w' ⟨rfl,⟨nd,rfl⟩⟩))
   go_ret
   exact ⟨y4_,yb_⟩
 ·replace c4:=Bool.eq_false_iff.mpr c4;subst c4
  have H1:(some false)=some r:=by rw [if_neg (show ¬ (false=true) by decide)] at H;exact H
  clear H;have H:=H1;clear H1;obtain rfl:=Option.some.inj H
  go_enter Tryz.func14,Tryz.ntmps14
  go_wp2_with (first|((with_reducible refine gate_callee (f:=56) rfl ?_);refine goesL_ (some 6) rfl rfl Tryz.func56 (by kernel_rfl) rfl #[.int .i64 a0,.int .i64 1,.int .i64 20000] rfl y1_ ?_;(with_reducible refine (tr_in.calls a0 1 20000 false _ A3.out).mono ?_);rintro e w' ⟨rfl,⟨nd,rfl⟩⟩;refine ⟨_,rfl,?_⟩))
  go_ret
  exact ⟨y4_,yb_⟩
end Go.Proofs.YtaidphhkhddemaaGreatDoor.PSky
end
section
namespace Go.Proofs.YtaidphhkhddemaaGreatDoor.PSky
open Go.RowKit Go.Proofs.YtaidphhkhddemaaGreatDoorW.PrintWords Go.Proofs.YtaidphhkhddemaaGreatDoorW.PrintLast Go.Proofs.YtaidphhkhddemaaGreatDoorW.PrintMore
attribute [local go_sem] max2_int min2_int max_two min_two max_three min_three max_four min_four
set_option linter.unusedVariables false
set_option linter.unusedSimpArgs false
def tr_Limit.f (a0:Int):Option (Bool):=(tr_in.f a0 0 5400).bind fun t264=>(some t264)
set_option maxHeartbeats 8000000 in
set_option maxRecDepth 100000 in
theorem tr_Limit.calls (a0:Int) (r:Bool) (w:World) (h:tr_Limit.f a0=some r):
  Calls Tryz.prog 18 #[.int .i64 a0] w fun e w'=>e=.returned (.bool r)∧Drawn0 w w':=by
 have H:((tr_in.f a0 0 5400).bind fun t264=>(some t264))=some r:=h
 clear h;replace H:=Option.bind_eq_some_iff.mp H;obtain ⟨t264,A20,H⟩:=H
 replace H:(some t264)=some r:=H
 have A2:=A0_ A20;clear A20;obtain rfl:=Option.some.inj H
 go_enter Tryz.func18,Tryz.ntmps18
 go_wp2_with (first|((with_reducible refine gate_callee (f:=56) rfl ?_);refine goesL_ (some 4) rfl rfl Tryz.func56 (by kernel_rfl) rfl #[.int .i64 a0,.int .i64 0,.int .i64 5400] rfl y1_ ?_;(with_reducible refine (tr_in.calls a0 0 5400 t264 _ A2.out).mono ?_);rintro e w' ⟨rfl,⟨nd,rfl⟩⟩;refine ⟨_,rfl,?_⟩))
 go_ret
 exact ⟨y4_,yb_⟩
end Go.Proofs.YtaidphhkhddemaaGreatDoor.PSky
end
section
namespace Go.Proofs.YtaidphhkhddemaaGreatDoor.PSky
open Go.RowKit Go.Proofs.YtaidphhkhddemaaGreatDoorW.PrintWords Go.Proofs.YtaidphhkhddemaaGreatDoorW.PrintLast Go.Proofs.YtaidphhkhddemaaGreatDoorW.PrintMore
attribute [local go_sem] max2_int min2_int max_two min_two max_three min_three max_four min_four
set_option linter.unusedVariables false
set_option linter.unusedSimpArgs false
def tr_Place.f (a0_0:Int) (a0_1:Int) (a0_2:Int) (l0_3:List Int) (a1:Int):Option (Int):=(tr_way.f a0_0 a0_1 a0_2 l0_3 a1).bind fun t268=>((tr_Less.f t268).bind fun t269=>(some t269))
set_option maxHeartbeats 8000000 in
set_option maxRecDepth 100000 in
theorem tr_Place.calls (a0_0:Int) (a0_1:Int) (a0_2:Int) (A0_3:Option Addr) (c0_3:Nat) (l0_3:List Int) (a1:Int) (r:Int) (w:World) (hr0_3:Kd.C (Kd.int .i64) w A0_3 l0_3.length l0_3) (hc0_3:l0_3.length≤c0_3) (h:tr_Place.f a0_0 a0_1 a0_2 l0_3 a1=some r):
  Calls Tryz.prog 106 #[.agg #[.int .i64 a0_0,.int .i64 a0_1,.int .i64 a0_2,.slice A0_3 l0_3.length c0_3],.int .i64 a1] w fun e w'=>e=.returned (.int .i64 r)∧Below w.heap.size w w':=by
 have hu83:=Tryz.underlying83
 have HR0_3:=A0_ hr0_3;have HC0_3:=A0_ hc0_3;clear hr0_3 hc0_3
 have HB:=A0_ (Below.refl w.heap.size w)
 have H:((tr_way.f a0_0 a0_1 a0_2 l0_3 a1).bind fun t268=>((tr_Less.f t268).bind fun t269=>(some t269)))=some r:=h
 clear h;replace H:=Option.bind_eq_some_iff.mp H;obtain ⟨t268,A30,H⟩:=H
 replace H:((tr_Less.f t268).bind fun t269=>(some t269))=some r:=H
 have A3:=A0_ A30;clear A30;replace H:=Option.bind_eq_some_iff.mp H;obtain ⟨t269,A40,H⟩:=H
 replace H:(some t269)=some r:=H
 have A4:=A0_ A40;clear A40;obtain rfl:=Option.some.inj H
 go_enter Tryz.func106,Tryz.ntmps106
 go_wp2_with (first|((with_reducible refine gate_dst (N:=2) rfl ?_);refine box_event ?hg (N:=2) ?hd (cs:=#[.int .i64 a0_0,.int .i64 a0_1,.int .i64 a0_2,.slice A0_3 l0_3.length c0_3]) (t:=83) ?hr ?_;(case hd=>rfl);(case hg=>rfl);(case hr=>first|(go_simp;done)|(go_simp;rfl));intro gb267 hg w5 hbox hb;have n0_:=A0_ (below_step y0_ hb);have n1_:=A0_ (hbox);have n2_:=A0_ ((by rw [hg];exact (below_size y0_):w.heap.size≤gb267));have n3_:=A0_ ((by rw [hg];exact (below_size y0_):w.heap.size≤gb267));clear HB;have HB:=n0_;have BK267:=n1_;have GW267:=n2_;have GE267:=n3_;clear n0_ n1_ n2_ n3_;clear hb hbox hg;obtain ⟨hcz6_0,hcz6_1,hcz6_2,hcz6_3,hfz6_0,hfz6_1,hfz6_2,hfz6_3⟩:=bq4_ BK267.out)|((with_reducible refine gate_callee (f:=127) rfl ?_);refine goesL_ (some 7) rfl rfl Tryz.func127 (by kernel_rfl) rfl #[.agg #[.int .i64 a0_0,.int .i64 a0_1,.int .i64 a0_2,.slice A0_3 l0_3.length c0_3],.int .i64 a1] rfl y1_ ?_;(with_reducible refine (tr_way.calls a0_0 a0_1 a0_2 _ _ l0_3 a1 t268 _ ?side1 ?side2 A3.out).mono ?_);(case side1=>repeat (first|exact (Kd.C_below HR0_3.out HB.out)|(with_reducible refine Kd.C_alloc ?_ _)|(with_reducible refine Kd.C_drewN ?_ _)|(with_reducible refine Kd.C_drew ?_)));(case side2=>exact HC0_3.out);rintro e w7 ⟨rfl,hb⟩;refine ⟨_,rfl,?_⟩;have n0_:=A0_ (blk_below (g:=gb267) (o:=.cells #[.int .i64 a0_0,.int .i64 a0_1,.int .i64 a0_2,.slice A0_3 l0_3.length c0_3] 83 (0,0)) (bd_ BK267.out) hb);have n1_:=A0_ (below_step y43_ hb);clear BK267;clear HB;have BK267:=n0_;have HB:=n1_;clear n0_ n1_;(try clear hb);(try clear hb2);(try clear hk);(try clear hi))|((with_reducible refine gate_callee (f:=40) rfl ?_);refine goesL_ (some 8) rfl rfl Tryz.func40 (by kernel_rfl) rfl #[.int .i64 t268] rfl y1_ ?_;(with_reducible refine (tr_Less.calls t268 t269 _ A4.out).mono ?_);rintro e w' ⟨rfl,⟨nd,rfl⟩⟩;refine ⟨_,rfl,?_⟩))
 go_ret
 exact ⟨y3_,y43_⟩
def tr_Node.f (a0_0:Int) (a0_1:Int) (a0_2:Int) (a1:Int):Option (Int):=if a0_0=0 then (none) else ((tr_Less.f (wrap64 (a0_2 - (wrap64 (Int.tdiv (wrap64 ((wrap64 (a1*21600))*a0_1)) a0_0))))).bind fun t271=>(some t271))
set_option maxHeartbeats 8000000 in
set_option maxRecDepth 100000 in
theorem tr_Node.calls (a0_0:Int) (a0_1:Int) (a0_2:Int) (a1:Int) (r:Int) (w:World) (h:tr_Node.f a0_0 a0_1 a0_2 a1=some r):
  Calls Tryz.prog 107 #[.agg #[.int .i64 a0_0,.int .i64 a0_1,.int .i64 a0_2],.int .i64 a1] w fun e w'=>e=.returned (.int .i64 r)∧Below w.heap.size w w':=by
 have hu26:=Tryz.underlying26
 have HB:=A0_ (Below.refl w.heap.size w)
 have H:(if a0_0=0 then (none) else ((tr_Less.f (wrap64 (a0_2 - (wrap64 (Int.tdiv (wrap64 ((wrap64 (a1*21600))*a0_1)) a0_0))))).bind fun t271=>(some t271)))=some r:=h
 clear h
 by_cases c3:a0_0=0
 ·rw [if_pos c3] at H;exact absurd H (by simp)
 ·rw [if_neg c3] at H
  have c3b0:(a0_0 == 0)=false:=beq_eq_false_iff_ne.mpr c3
  have c3b1:(a0_0 != 0)=true:=bne_iff_ne.mpr c3
  replace H:=Option.bind_eq_some_iff.mp H;obtain ⟨t271,A40,H⟩:=H
  replace H:(some t271)=some r:=H
  have A4:=A0_ A40;clear A40;obtain rfl:=Option.some.inj H
  go_enter Tryz.func107,Tryz.ntmps107
  go_wp2_with (first|((with_reducible refine gate_dst (N:=2) rfl ?_);refine box_event ?hg (N:=2) ?hd (cs:=#[.int .i64 a0_0,.int .i64 a0_1,.int .i64 a0_2]) (t:=26) ?hr ?_;(case hd=>rfl);(case hg=>rfl);(case hr=>first|(go_simp;done)|(go_simp;rfl));intro gb270 hg w5 hbox hb;have n0_:=A0_ (below_step y0_ hb);have n1_:=A0_ (hbox);have n2_:=A0_ ((by rw [hg];exact (below_size y0_):w.heap.size≤gb270));have n3_:=A0_ ((by rw [hg];exact (below_size y0_):w.heap.size≤gb270));clear HB;have HB:=n0_;have BK270:=n1_;have GW270:=n2_;have GE270:=n3_;clear n0_ n1_ n2_ n3_;clear hb hbox hg;obtain ⟨hcz6_0,hcz6_1,hcz6_2,hfz6_0,hfz6_1,hfz6_2⟩:=bq3_ BK270.out)|(go_at_call 40;(with_reducible refine (tr_Less.calls (wrap64 (a0_2 - (wrap64 (Int.tdiv (wrap64 ((wrap64 (a1*21600))*a0_1)) a0_0)))) t271 _ A4.out).mono ?_);rintro e w' ⟨rfl,⟨nd,rfl⟩⟩;(try first|exact ⟨rfl,_,World.drewN_drewN _ _ _⟩|exact ⟨rfl,_,Eq.trans (World.drewN_drewN _ _ _) (congrArg (World.drewN _) (Nat.add_assoc _ _ _))⟩)))
  repeat (go_quiet (first|((with_reducible refine gate_dst (N:=2) rfl ?_);refine box_event ?hg (N:=2) ?hd (cs:=#[.int .i64 a0_0,.int .i64 a0_1,.int .i64 a0_2]) (t:=26) ?hr ?_;(case hd=>rfl);(case hg=>rfl);(case hr=>first|(go_simp;done)|(go_simp;rfl));intro gb270 hg w5 hbox hb;have n0_:=A0_ (below_step y0_ hb);have n1_:=A0_ (hbox);have n2_:=A0_ ((by rw [hg];exact (below_size y0_):w.heap.size≤gb270));have n3_:=A0_ ((by rw [hg];exact (below_size y0_):w.heap.size≤gb270));clear HB;have HB:=n0_;have BK270:=n1_;have GW270:=n2_;have GE270:=n3_;clear n0_ n1_ n2_ n3_;clear hb hbox hg;obtain ⟨hcz6_0,hcz6_1,hcz6_2,hfz6_0,hfz6_1,hfz6_2⟩:=bq3_ BK270.out)|(go_at_call 40;(with_reducible refine (tr_Less.calls (wrap64 (a0_2 - (wrap64 (Int.tdiv (wrap64 ((wrap64 (a1*21600))*a0_1)) a0_0)))) t271 _ A4.out).mono ?_);rintro e w' ⟨rfl,⟨nd,rfl⟩⟩;(try first|exact ⟨rfl,_,World.drewN_drewN _ _ _⟩|exact ⟨rfl,_,Eq.trans (World.drewN_drewN _ _ _) (congrArg (World.drewN _) (Nat.add_assoc _ _ _))⟩)));try go_wp2_with (first|((with_reducible refine gate_dst (N:=2) rfl ?_);refine box_event ?hg (N:=2) ?hd (cs:=#[.int .i64 a0_0,.int .i64 a0_1,.int .i64 a0_2]) (t:=26) ?hr ?_;(case hd=>rfl);(case hg=>rfl);(case hr=>first|(go_simp;done)|(go_simp;rfl));intro gb270 hg w5 hbox hb;have n0_:=A0_ (below_step y0_ hb);have n1_:=A0_ (hbox);have n2_:=A0_ ((by rw [hg];exact (below_size y0_):w.heap.size≤gb270));have n3_:=A0_ ((by rw [hg];exact (below_size y0_):w.heap.size≤gb270));clear HB;have HB:=n0_;have BK270:=n1_;have GW270:=n2_;have GE270:=n3_;clear n0_ n1_ n2_ n3_;clear hb hbox hg;obtain ⟨hcz6_0,hcz6_1,hcz6_2,hfz6_0,hfz6_1,hfz6_2⟩:=bq3_ BK270.out)|(go_at_call 40;(with_reducible refine (tr_Less.calls (wrap64 (a0_2 - (wrap64 (Int.tdiv (wrap64 ((wrap64 (a1*21600))*a0_1)) a0_0)))) t271 _ A4.out).mono ?_);rintro e w' ⟨rfl,⟨nd,rfl⟩⟩;(try first|exact ⟨rfl,_,World.drewN_drewN _ _ _⟩|exact ⟨rfl,_,Eq.trans (World.drewN_drewN _ _ _) (congrArg (World.drewN _) (Nat.add_assoc _ _ _))⟩))))
  go_ret
  exact ⟨y3_,(by repeat (first|(with_reducible first|exact HB.out|apply below_alloc|apply pw_below_drewN|apply below_drew1|refine below_set ?_ GE270.out)|exact HB.out))⟩
def tr_Far.f (l0_0:List (S83)) (a0_1:Int) (a0_2:Int) (a0_3:Int) (a1:Int):Option (Int):=if 1<(l0_0.length:Int) then ((tr_Place.f ((rd_T83 l0_0 1).f0.f0) ((rd_T83 l0_0 1).f0.f1) ((rd_T83 l0_0 1).f1) ((rd_T83 l0_0 1).f2) a1).bind fun t274=>((tr_Node.f a0_1 a0_2 a0_3 a1).bind fun t275=>((tr_Less.f (wrap64 (t274 - t275))).bind fun t276=>(some (mn (Int.tmod t276 10800) (wrap64 (10800 - (Int.tmod t276 10800)))))))) else (none)
def tr_Far.T1:Bool × List (List Nat × List Nat):=(true,[([],[]),([0],[0]),([1],[1]),([2],[2]),([],[]),([3,4],[3,4]),([],[]),([6],[6]),([],[]),([7,8,5],[7,8]),([5,9],[5,9]),([10,9],[10]),([11],[11]),([12,11,0,1,2,3,4,5,6,7,8,9,10,11,12],[12])])
def tr_Far.B1:List Nat:=[0,1,3,7,0,31,0,64,0,511,1023,2047,4095,8191]
theorem tr_Far.tab1:rtab .any (opsOf Tryz.f60 1)=tr_Far.T1:=by kernel_rfl
theorem tr_Far.bits1:waitsOk tr_Far.T1.2 tr_Far.B1=true:=by kernel_rfl
set_option maxHeartbeats 8000000 in
set_option maxRecDepth 100000 in
theorem tr_Far.calls (A0_0:Option Addr) (c0_0:Nat) (l0_0:List (S83)) (a0_1:Int) (a0_2:Int) (a0_3:Int) (a1:Int) (r:Int) (w:World) (hr0_0:Kd.C k83 w A0_0 l0_0.length l0_0) (hc0_0:l0_0.length≤c0_0) (h:tr_Far.f l0_0 a0_1 a0_2 a0_3 a1=some r):
  Calls Tryz.prog 60 #[.agg #[.slice A0_0 l0_0.length c0_0,.int .i64 a0_1,.int .i64 a0_2,.int .i64 a0_3],.int .i64 a1] w fun e w'=>e=.returned (.int .i64 r)∧Below w.heap.size w w':=by
 have hu28:=Tryz.underlying28
 have hu83:=Tryz.underlying83
 have hu26:=Tryz.underlying26
 have HR0_0:=A0_ hr0_0;have HC0_0:=A0_ hc0_0;clear hr0_0 hc0_0
 have HB:=A0_ (Below.refl w.heap.size w)
 have H:(if 1<(l0_0.length:Int) then ((tr_Place.f ((rd_T83 l0_0 1).f0.f0) ((rd_T83 l0_0 1).f0.f1) ((rd_T83 l0_0 1).f1) ((rd_T83 l0_0 1).f2) a1).bind fun t274=>((tr_Node.f a0_1 a0_2 a0_3 a1).bind fun t275=>((tr_Less.f (wrap64 (t274 - t275))).bind fun t276=>(some (mn (Int.tmod t276 10800) (wrap64 (10800 - (Int.tmod t276 10800)))))))) else (none))=some r:=h
 clear h
 by_cases c3:1<(l0_0.length:Int)
 ·rw [if_pos c3] at H;have c3b0:decide (1<(l0_0.length:Int))=true:=decide_eq_true c3
  have c3b1:decide (1<l0_0.length)=true:=decide_eq_true (by omega)
  clear c3;replace H:=Option.bind_eq_some_iff.mp H;obtain ⟨t274,A40,H⟩:=H
  replace H:((tr_Node.f a0_1 a0_2 a0_3 a1).bind fun t275=>((tr_Less.f (wrap64 (t274 - t275))).bind fun t276=>(some (mn (Int.tmod t276 10800) (wrap64 (10800 - (Int.tmod t276 10800)))))))=some r:=H
  have A4:=A0_ A40;clear A40;replace H:=Option.bind_eq_some_iff.mp H;obtain ⟨t275,A50,H⟩:=H
  replace H:((tr_Less.f (wrap64 (t274 - t275))).bind fun t276=>(some (mn (Int.tmod t276 10800) (wrap64 (10800 - (Int.tmod t276 10800))))))=some r:=H
  have A5:=A0_ A50;clear A50;replace H:=Option.bind_eq_some_iff.mp H;obtain ⟨t276,A60,H⟩:=H
  replace H:(some (mn (Int.tmod t276 10800) (wrap64 (10800 - (Int.tmod t276 10800)))))=some r:=H
  have A6:=A0_ A60;clear A60
  obtain ⟨ji7,hji7⟩:∃ j_:Int,(mn (Int.tmod t276 10800) (wrap64 (10800 - (Int.tmod t276 10800))))=j_:=⟨_,rfl⟩
  replace H:(some ji7)=some r:=by first|(rw [hji7] at H;exact H)|(simp only [hji7] at H ⊢;exact H)
  (try rw [hji7] at A4)
  (try rw [hji7] at A5)
  (try rw [hji7] at A6)
  have hji7_:(if (wrap64 (10800 - (Int.tmod t276 10800)))<(Int.tmod t276 10800) then (wrap64 (10800 - (Int.tmod t276 10800))) else (Int.tmod t276 10800))=ji7:=hji7
  obtain rfl:=Option.some.inj H
  go_enter Tryz.func60,Tryz.ntmps60
  try go_wp2_with (first|((with_reducible refine gate_dst (N:=2) rfl ?_);refine box_event ?hg (N:=2) ?hd (cs:=#[.slice A0_0 l0_0.length c0_0,.int .i64 a0_1,.int .i64 a0_2,.int .i64 a0_3]) (t:=28) ?hr ?_;(case hd=>rfl);(case hg=>rfl);(case hr=>first|(go_simp;done)|(go_simp;rfl));intro gb272 hg w8 hbox hb;have n0_:=A0_ (below_step y0_ hb);have n1_:=A0_ (hbox);have n2_:=A0_ ((by rw [hg];exact (below_size y0_):w.heap.size≤gb272));have n3_:=A0_ ((by rw [hg];exact (below_size y0_):w.heap.size≤gb272));clear HB;have HB:=n0_;have BK272:=n1_;have GW272:=n2_;have GE272:=n3_;clear n0_ n1_ n2_ n3_;clear hb hbox hg))
  have n0_:=A0_ (blk_drew BK272.out);have n1_:=A0_ (below_drew1 HB.out);clear BK272;clear HB;have BK272:=n0_;have HB:=n1_;clear n0_ n1_
  have p273:0≤(1:Int):=(by omega)
  have q273:1<(l0_0.length:Int):=of_decide_eq_true y2_
  obtain ⟨ad273,A273_3,c273_3,e273,hx273_0,hx273_1,hx273_2,hx273_3,hl273_3,hi273_3⟩:=at_T83 HR0_0.out 1 p273 q273
  have hw273_3:=hx273_3
  (try rw [show ((1:Int)).toNat=1 from rfl] at hw273_3)
  (try rw [show 1*4=4 from rfl] at hw273_3)
  (try simp only [Nat.reduceMul,Nat.reduceEqDiff,Go.Addr.add,↓reduceIte] at hw273_3)
  have hw273_2:=hx273_2
  (try rw [show ((1:Int)).toNat=1 from rfl] at hw273_2)
  (try rw [show 1*4=4 from rfl] at hw273_2)
  (try simp only [Nat.reduceMul,Nat.reduceEqDiff,Go.Addr.add,↓reduceIte] at hw273_2)
  have hw273_1:=hx273_1
  (try rw [show ((1:Int)).toNat=1 from rfl] at hw273_1)
  (try rw [show 1*4=4 from rfl] at hw273_1)
  (try simp only [Nat.reduceMul,Nat.reduceEqDiff,Go.Addr.add,↓reduceIte] at hw273_1)
  have hw273_0:=hx273_0
  (try rw [show ((1:Int)).toNat=1 from rfl] at hw273_0)
  (try rw [show 1*4=4 from rfl] at hw273_0)
  (try simp only [Nat.reduceMul,Nat.reduceEqDiff,Go.Addr.add,↓reduceIte] at hw273_0)
  cases e273
  (try simp only [show (1:Int).toNat=1 from rfl,Nat.reduceMul,Nat.reduceEqDiff,Go.Addr.add,↓reduceIte] at hx273_0)
  (try simp only [show (1:Int).toNat=1 from rfl,Nat.reduceMul,Nat.reduceEqDiff,Go.Addr.add,↓reduceIte] at hx273_1)
  (try simp only [show (1:Int).toNat=1 from rfl,Nat.reduceMul,Nat.reduceEqDiff,Go.Addr.add,↓reduceIte] at hx273_2)
  (try simp only [show (1:Int).toNat=1 from rfl,Nat.reduceMul,Nat.reduceEqDiff,Go.Addr.add,↓reduceIte] at hx273_3)
  have qi273:(1<l0_0.length)=True:=eq_true (by omega)
  (try rw [show ((1:Int)).toNat=1 from rfl] at hx273_0)
  (try rw [show 1*4=4 from rfl] at hx273_0)
  (try rw [show ((1:Int)).toNat=1 from rfl] at hx273_1)
  (try rw [show 1*4=4 from rfl] at hx273_1)
  (try rw [show ((1:Int)).toNat=1 from rfl] at hx273_2)
  (try rw [show 1*4=4 from rfl] at hx273_2)
  (try rw [show ((1:Int)).toNat=1 from rfl] at hx273_3)
  (try rw [show 1*4=4 from rfl] at hx273_3)
  replace hx273_0:=(HB.out.cell (World.block_lt_of_cell? w _ hx273_0)).trans hx273_0
  replace hx273_1:=(HB.out.cell (World.block_lt_of_cell? w _ hx273_1)).trans hx273_1
  replace hx273_2:=(HB.out.cell (World.block_lt_of_cell? w _ hx273_2)).trans hx273_2
  replace hx273_3:=(HB.out.cell (World.block_lt_of_cell? w _ hx273_3)).trans hx273_3
  have HR273_3:=A0_ hi273_3;have HC273_3:=A0_ hl273_3;clear hi273_3 hl273_3
  replace p273:=eq_true p273
  replace q273:=eq_true q273
  refine start_ (n:=14) (S:=fun w'=>w'.cell? ⟨gb272,0,none⟩=some (.slice (some ad273) l0_0.length c0_0)∧w'.cell? ⟨gb272,1,none⟩=some (.int .i64 a0_1)∧w'.cell? ⟨gb272,2,none⟩=some (.int .i64 a0_2)∧w'.cell? ⟨gb272,3,none⟩=some (.int .i64 a0_3)∧w'.cell? ⟨ad273.block,ad273.off+4,none⟩=some (.int .i64 ((rd_T83 l0_0 1).f0.f0))∧w'.cell? ⟨ad273.block,ad273.off+4+1,none⟩=some (.int .i64 ((rd_T83 l0_0 1).f0.f1))∧w'.cell? ⟨ad273.block,ad273.off+4+2,none⟩=some (.int .i64 ((rd_T83 l0_0 1).f1))∧w'.cell? ⟨ad273.block,ad273.off+4+3,none⟩=some (.slice A273_3 ((rd_T83 l0_0 1).f2).length c273_3)) (ds:=[]) #[false,false,false,false,false,false,false,false,false,false,false,false,false,false] (by kernel_rfl) rfl rfl ⟨(blk_cell BK272.out 0).trans rfl,(blk_cell BK272.out 1).trans rfl,(blk_cell BK272.out 2).trans rfl,(blk_cell BK272.out 3).trans rfl,((HB.out.cell (World.block_lt_of_cell? w _ hw273_0)).trans hw273_0),((HB.out.cell (World.block_lt_of_cell? w _ hw273_1)).trans hw273_1),((HB.out.cell (World.block_lt_of_cell? w _ hw273_2)).trans hw273_2),((HB.out.cell (World.block_lt_of_cell? w _ hw273_3)).trans hw273_3)⟩ (fun hHeld=>?_);refine with_tabW tr_Far.tab1 tr_Far.bits1 (fun HT_ HW_=>?_)
  generalize w8.drew=w9 at BK272 HB HR273_3 hx273_0 hx273_1 hx273_2 hx273_3 hHeld ⊢
  refine pu_ (i:=0) (N:=some 6) ?_;refine pu_ (i:=4) (N:=some 10) ?_;refine pu_ (i:=6) (N:=some 12) ?_;refine pu_ (i:=8) (N:=some 14) ?_;refine ta_ (i:=1) (N:=some 7) ?_;refine pu_ (i:=2) (N:=some 8) ?_;refine ta_ (i:=3) (N:=some 9) ?_;refine ta_ (i:=7) (N:=some 13) ?_
  refine one_ (i:=5) (N:=some 11) #[true,true,true,true,true,true,true,true,true,false,false,false,false,false] rfl rfl (one_of HT_.out (by kernel_rfl)) (by decide) (fun K hK=>?_)
  refine goes_ Tryz.func106 (by kernel_rfl) rfl #[.agg #[.int .i64 ((rd_T83 l0_0 1).f0.f0),.int .i64 ((rd_T83 l0_0 1).f0.f1),.int .i64 ((rd_T83 l0_0 1).f1),.slice A273_3 ((rd_T83 l0_0 1).f2).length c273_3],.int .i64 a1] (by rfl) rfl rfl y1_ ?_
  with_reducible refine (tr_Place.calls ((rd_T83 l0_0 1).f0.f0) ((rd_T83 l0_0 1).f0.f1) ((rd_T83 l0_0 1).f1) _ _ ((rd_T83 l0_0 1).f2) a1 t274 _ ?side1 ?side2 A4.out).mono ?_
  (case side1=>repeat (first|exact (Kd.C_below HR273_3.out HB.out)|(with_reducible refine Kd.C_alloc ?_ _)|(with_reducible refine Kd.C_drewN ?_ _)|(with_reducible refine Kd.C_drew ?_)))
  (case side2=>exact HC273_3.out)
  rintro e w10 ⟨rfl,hb⟩
  refine ⟨_,rfl,?_⟩
  have n0_:=A0_ (blk_below (g:=gb272) (o:=.cells #[.slice (some ad273) l0_0.length c0_0,.int .i64 a0_1,.int .i64 a0_2,.int .i64 a0_3] 28 (0,0)) (bd_ BK272.out) hb);have n1_:=A0_ (below_step y3s_ hb);clear BK272;clear HB;have BK272:=n0_;have HB:=n1_;clear n0_ n1_;(try clear hb);(try clear hb2);(try clear hk);(try clear hi)
  refine hK.out _ _ ⟨(blk_cell BK272.out 0).trans rfl,(blk_cell BK272.out 1).trans rfl,(blk_cell BK272.out 2).trans rfl,(blk_cell BK272.out 3).trans rfl,((HB.out.cell (World.block_lt_of_cell? w _ hw273_0)).trans hw273_0),((HB.out.cell (World.block_lt_of_cell? w _ hw273_1)).trans hw273_1),((HB.out.cell (World.block_lt_of_cell? w _ hw273_2)).trans hw273_2),((HB.out.cell (World.block_lt_of_cell? w _ hw273_3)).trans hw273_3)⟩ (fun hHeld=>?_)
  clear hK K
  refine norm_ (a':=?_) ?_ ?_
  rotate_left
  ·show Act.put _ (some 11) _=_
   simp only [Act.put,List.setIfInBounds_toArray,List.set_cons_zero,List.set_cons_succ,i64_w,i32_w]
   rfl
  refine one_ (i:=9) (N:=some 15) #[true,true,true,true,true,true,true,true,true,true,false,false,false,false] rfl rfl (one_of HT_.out (by kernel_rfl)) (by decide) (fun K hK=>?_)
  refine goes_ Tryz.func107 (by kernel_rfl) rfl #[.agg #[.int .i64 a0_1,.int .i64 a0_2,.int .i64 a0_3],.int .i64 a1] (by rfl) rfl rfl y1_ ?_
  with_reducible refine (tr_Node.calls a0_1 a0_2 a0_3 a1 t275 _ A5.out).mono ?_
  rintro e w11 ⟨rfl,hb⟩
  refine ⟨_,rfl,?_⟩
  have n0_:=A0_ (blk_below (g:=gb272) (o:=.cells #[.slice (some ad273) l0_0.length c0_0,.int .i64 a0_1,.int .i64 a0_2,.int .i64 a0_3] 28 (0,0)) (bd_ BK272.out) hb);have n1_:=A0_ (below_step y3s_ hb);clear BK272;clear HB;have BK272:=n0_;have HB:=n1_;clear n0_ n1_;(try clear hb);(try clear hb2);(try clear hk);(try clear hi)
  refine hK.out _ _ ⟨(blk_cell BK272.out 0).trans rfl,(blk_cell BK272.out 1).trans rfl,(blk_cell BK272.out 2).trans rfl,(blk_cell BK272.out 3).trans rfl,((HB.out.cell (World.block_lt_of_cell? w _ hw273_0)).trans hw273_0),((HB.out.cell (World.block_lt_of_cell? w _ hw273_1)).trans hw273_1),((HB.out.cell (World.block_lt_of_cell? w _ hw273_2)).trans hw273_2),((HB.out.cell (World.block_lt_of_cell? w _ hw273_3)).trans hw273_3)⟩ (fun hHeld=>?_)
  clear hK K
  refine norm_ (a':=?_) ?_ ?_
  rotate_left
  ·show Act.put _ (some 15) _=_
   simp only [Act.put,List.setIfInBounds_toArray,List.set_cons_zero,List.set_cons_succ,i64_w,i32_w]
   rfl
  refine pu_ (i:=10) (N:=some 16) ?_
  refine one_ (i:=11) (N:=some 17) #[true,true,true,true,true,true,true,true,true,true,true,true,false,false] rfl rfl (one_of HT_.out (by kernel_rfl)) (by decide) (fun K hK=>?_)
  refine goes_ Tryz.func40 (by kernel_rfl) rfl #[.int .i64 (wrap64 (t274 - t275))] (by rfl) rfl rfl y1_ ?_
  with_reducible refine (tr_Less.calls (wrap64 (t274 - t275)) t276 _ A6.out).mono ?_
  rintro e w' ⟨rfl,⟨nd,rfl⟩⟩
  refine ⟨_,rfl,?_⟩
  refine hK.out _ _ ⟨(blk_cell BK272.out 0).trans rfl,(blk_cell BK272.out 1).trans rfl,(blk_cell BK272.out 2).trans rfl,(blk_cell BK272.out 3).trans rfl,((HB.out.cell (World.block_lt_of_cell? w _ hw273_0)).trans hw273_0),((HB.out.cell (World.block_lt_of_cell? w _ hw273_1)).trans hw273_1),((HB.out.cell (World.block_lt_of_cell? w _ hw273_2)).trans hw273_2),((HB.out.cell (World.block_lt_of_cell? w _ hw273_3)).trans hw273_3)⟩ (fun hHeld=>?_)
  clear hK K
  refine norm_ (a':=?_) ?_ ?_
  rotate_left
  ·show Act.put _ (some 17) _=_
   simp only [Act.put,List.setIfInBounds_toArray,List.set_cons_zero,List.set_cons_succ,i64_w,i32_w]
   rfl
  refine pu_ (i:=12) (N:=some 18) ?_;refine pu_ (i:=13) (N:=some 5) ?_
  refine done_ (done_of HT_.out (by kernel_rfl)) ?_
  try go_wp2
  go_ret
  exact ⟨by first|rfl|(simp [errW_none,errW_some] <;> rfl)|(simp only [← hji7];first|rfl|(simp [errW_none,errW_some] <;> rfl))|(simp [*,errW_none,errW_some] <;> rfl),y3s_⟩
 ·rw [if_neg c3] at H;exact absurd H (by simp)
end Go.Proofs.YtaidphhkhddemaaGreatDoor.PSky
end
