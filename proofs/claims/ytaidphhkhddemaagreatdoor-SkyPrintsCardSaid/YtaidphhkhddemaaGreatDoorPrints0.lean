/- A part of the proof of a law of the layer sky. -/
import Derived.ArgAppend
import Derived.Below
import Derived.BigQuiet
import Derived.ChangeSame
import Derived.Deep.AppendLies
import Derived.Deep.CutBlock
import Derived.Deep.DeepCutAuto
import Derived.Deep.DeepHandedRow
import Derived.Deep.Draws
import Derived.Deep.LoopGhost
import Derived.Deep.OwnRows
import Derived.Deep.QuietTactic
import Derived.Deep.RegionHeld3
import Derived.Deep.RegionLaw
import Derived.Deep.Slices
import Derived.Deep.Strs
import Derived.Defers
import Derived.KernelRfl
import Derived.LaidMore
import Derived.Laws.BitsLemmas
import Derived.Laws.BytesArg
import Derived.Laws.Entries
import Derived.Laws.IdiomCopy
import Derived.Laws.LoneSync
import Derived.Laws.MakeOwn
import Derived.Laws.NewBlocks
import Derived.Laws.OwnMore
import Derived.Laws.Pointers
import Derived.Laws.Rows
import Derived.Laws.Slices
import Derived.Laws.StructEq
import Derived.Lib.AppendStr
import Derived.Lib.Bytes
import Derived.Lib.ConvBytes
import Derived.Lib.LaidTab
import Derived.Lib.OthersKept
import Derived.Lib.SplitLaws
import Derived.LoopIn
import Derived.LoopN
import Derived.LoopNIn
import Derived.Maps.AppendAt
import Derived.Maps.Own
import Derived.Maps.OwnOps
import Derived.Maps.OwnSet
import Derived.Maps.Views
import Derived.OpenShut
import Derived.OrdersHeld
import Derived.Outline
import Derived.OwnWalk
import Derived.OwnWalkIn
import Derived.ProofKit
import Derived.RangeFuncBound
import Derived.RangeFuncBox
import Derived.RangeFuncCalls
import Derived.RangeFuncLeaves
import Derived.RangeFuncNested
import Derived.Recover
import Derived.RowKit
import Derived.RowKit3
import Derived.Scope
import Derived.Shelf.Abstract
import Derived.Shelf.LaysM
import Derived.Shelf.RegionOpen
import Derived.Shelf.Strconv.Itoa0
import Derived.Shelf.Strconv.Itoa1
import Derived.Shelf.Strconv.Itoa2
import Derived.Shelf.Strconv.Itoa3
import Derived.Shelf.Strings.Builder1
import Derived.Shelf.Strings.Builder2
import Derived.Shelf.Strings.Count
import Derived.Shelf.Strings.OnBuilder
import Derived.Shelf.Strings.Prefix
import Derived.Shelf.Strings.Search1
import Derived.Shelf.Strings.Search2
import Derived.Shelf.Strings.Search3
import Derived.Shelf.Strings.Shaped
import Derived.Shelf.Strings.Split
import Derived.Shelf.Unicode.DecodeSlow
import Derived.SizedLaws
import Derived.StillTactics
import Derived.Stop.Joined
import Derived.Stop.LaidErr
import Derived.Tactics
import Derived.TacticsInMore
import Derived.WalkKit
import Derived.WideLaws
import Derived.Test.YtaidphhkhddemaaGreatDoorY6
section
namespace Go.Proofs.YtaidphhkhddemaaGreatDoor.PSky
open Go.RowKit Go.Proofs.YtaidphhkhddemaaGreatDoorW.PrintWords Go.Proofs.YtaidphhkhddemaaGreatDoorW.PrintLast Go.Proofs.YtaidphhkhddemaaGreatDoorW.PrintMore
attribute [local go_sem] max2_int min2_int max_two min_two max_three min_three max_four min_four
set_option linter.unusedVariables false
set_option linter.unusedSimpArgs false
mutual
def tl_short.l0:Nat→Int→List (S83)→Int→Int→Int→Option (Bool)
 |0,_,_,_,_,_=>none
 |k+1,x3,x102000,x102001,x102002,x102003=>if x3<(x102000.length:Int) then (tl_short.j1 k x3 (decide (x3<7)) x102000 x102001 x102002 x102003) else (tl_short.j1 k x3 false x102000 x102001 x102002 x102003)
def tl_short.j1:Nat→Int→Bool→List (S83)→Int→Int→Int→Option (Bool)
 |0,_,_,_,_,_,_=>none
 |k+1,x3,x12,x102000,x102001,x102002,x102003=>if x12=true then (if 0≤x3 then (if x3<(x102000.length:Int) then (if (((rd_T83 x102000 x3).f2).length:Int) > 10 then (some false) else (tl_short.l0 k (wrap64 (x3+1)) x102000 x102001 x102002 x102003)) else (none)) else (none)) else (some (decide ((x102000.length:Int)≤6)))
end
def tl_short.f (k:Nat) (l0_0:List (S83)) (a0_1:Int) (a0_2:Int) (a0_3:Int):Option (Bool):=tl_short.l0 k 0 l0_0 a0_1 a0_2 a0_3
set_option maxHeartbeats 8000000 in
set_option maxRecDepth 100000 in
theorem tl_short.calls (k:Nat) (A0_0:Option Addr) (c0_0:Nat) (l0_0:List (S83)) (a0_1:Int) (a0_2:Int) (a0_3:Int) (r:Bool) (w:World) (hr0_0:Kd.C k83 w A0_0 l0_0.length l0_0) (hc0_0:l0_0.length≤c0_0) (h:tl_short.f k l0_0 a0_1 a0_2 a0_3=some r):
  Calls Tryz.prog 10 #[.agg #[.slice A0_0 l0_0.length c0_0,.int .i64 a0_1,.int .i64 a0_2,.int .i64 a0_3]] w fun e w'=>e=.returned (.bool r)∧Below w.heap.size w w':=by
 have hu28:=Tryz.underlying28
 have HR0_0:=A0_ hr0_0;have HC0_0:=A0_ hc0_0;clear hr0_0 hc0_0
 have HB:=A0_ (Below.refl w.heap.size w)
 have H:(tl_short.l0 k 0 l0_0 a0_1 a0_2 a0_3)=some r:=h
 clear h
 have H':=A0_ H
 clear H
 go_enter Tryz.func10,Tryz.ntmps10
 go_wp2_with (first|((with_reducible refine gate_dst (N:=1) rfl ?_);refine box_event ?hg (N:=1) ?hd (cs:=#[.slice A0_0 l0_0.length c0_0,.int .i64 a0_1,.int .i64 a0_2,.int .i64 a0_3]) (t:=28) ?hr ?_;(case hd=>rfl);(case hg=>rfl);(case hr=>first|(go_simp;done)|(go_simp;rfl));intro gb101 hg w2 hbox hb;have n0_:=A0_ (below_step y0_ hb);have n1_:=A0_ (hbox);have n2_:=A0_ ((by rw [hg];exact (below_size y0_):w.heap.size≤gb101));have n3_:=A0_ ((by rw [hg];exact (below_size y0_):w.heap.size≤gb101));clear HB;have HB:=n0_;have BK101:=n1_;have GW101:=n2_;have GE101:=n3_;clear n0_ n1_ n2_ n3_;clear hb hbox hg))
 go_loopg [3] k (fun kq v3 w'=>∃ (x3_1:Int),v3=.int .i64 x3_1∧Aside0 (tl_short.l0 kq x3_1 l0_0 a0_1 a0_2 a0_3=some r)∧Aside0 (kq≤k)∧Aside0 (w'.heap[gb101]?=some (.cells #[(.slice A0_0 l0_0.length c0_0),.int .i64 a0_1,.int .i64 a0_2,.int .i64 a0_3] 28 (0,0)))∧Aside0 (Below w.heap.size w w'))
 case atStart=>exact ⟨(0),y5_,H',⟨Nat.le_refl _⟩,⟨by (with_reducible repeat (first|refine blk_drewN ?_ _|refine blk_drew ?_|refine blk_alloc ?_ _));exact BK101.out⟩,⟨y2y_⟩⟩
 case round=>
  clear H'
  (try clear c1);(try clear p2)
  obtain ⟨x3_1,rfl,HA,HK1,BK101,HB⟩:=hrel
  cases gk with
  |zero=>exact absurd HA.out (by simp [tl_short.l0])
  |succ k1=>
   have H:=HA.out
   clear HA
   simp only [tl_short.l0] at H
   have HC3:=A0_ H;clear H
   go_upto_region 2 with (fail)
   go_cut [12] (fun v12 wc=>∃ (kq:Nat) (x12_2:Bool),v12=.bool x12_2∧Aside0 (tl_short.j1 kq x3_1 x12_2 l0_0 a0_1 a0_2 a0_3=some r)∧Aside0 (kq≤k1)∧Aside0 (wc.heap[gb101]?=some (.cells #[(.slice A0_0 l0_0.length c0_0),.int .i64 a0_1,.int .i64 a0_2,.int .i64 a0_3] 28 (0,0)))∧Aside0 (Below w.heap.size w wc))
   case first=>
    have H:=HC3.out
    clear HC3
    by_cases c4:x3_1<(l0_0.length:Int)
    ·rw [if_pos c4] at H;have c4b0:decide (x3_1<(l0_0.length:Int))=true:=decide_eq_true c4;clear c4
     (first|rw [c4b0]|(simp only [i64_w,i32_w];rw [c4b0])|skip)
     have H':=A0_ H
     clear H;obtain ⟨hcz5_0,hcz5_1,hcz5_2,hcz5_3,hfz5_0,hfz5_1,hfz5_2,hfz5_3⟩:=bq4_ BK101.out;go_wp2
     go_meet
     case rel=>exact ⟨_,(decide (x3_1<7)),y5_,H',⟨by have:=HK1.out;first|omega|exact Nat.le_refl _⟩,⟨by (with_reducible repeat (first|refine blk_drewN ?_ _|refine blk_drew ?_|refine blk_alloc ?_ _));exact BK101.out⟩,⟨y2y_⟩⟩
    ·rw [if_neg c4] at H;have c4b0:decide (x3_1<(l0_0.length:Int))=false:=decide_eq_false c4;clear c4
     (first|rw [c4b0]|(simp only [i64_w,i32_w];rw [c4b0])|skip)
     have H':=A0_ H
     clear H;obtain ⟨hcz6_0,hcz6_1,hcz6_2,hcz6_3,hfz6_0,hfz6_1,hfz6_2,hfz6_3⟩:=bq4_ BK101.out;go_wp2
     go_meet
     case rel=>exact ⟨_,(false),y5_,H',⟨by have:=HK1.out;first|omega|exact Nat.le_refl _⟩,⟨by (with_reducible repeat (first|refine blk_drewN ?_ _|refine blk_drew ?_|refine blk_alloc ?_ _));exact BK101.out⟩,⟨y2y_⟩⟩
   case rest=>
    clear HC3;(try clear c1);(try clear p2);(try clear c4);(try clear c4b0);(try clear hcz5_0);(try clear hcz5_1);(try clear hcz5_2);(try clear hcz5_3);(try clear hcz6_0);(try clear hcz6_1);(try clear hcz6_2);(try clear hcz6_3);(try clear hfz5_0);(try clear hfz5_1);(try clear hfz5_2);(try clear hfz5_3);(try clear hfz6_0);(try clear hfz6_1);(try clear hfz6_2);(try clear hfz6_3);(try clear p2)
    obtain ⟨kq,x12_2,rfl,HA,HJ2,BK101,HB⟩:=hcut
    cases kq with
    |zero=>exact absurd HA.out (by simp [tl_short.j1])
    |succ kj2=>
     have H:=HA.out
     clear HA
     simp only [tl_short.j1] at H
     by_cases c7:x12_2=true
     ·subst c7
      have H1:(if 0≤x3_1 then (if x3_1<(l0_0.length:Int) then (if (((rd_T83 l0_0 x3_1).f2).length:Int) > 10 then (some false) else (tl_short.l0 kj2 (wrap64 (x3_1+1)) l0_0 a0_1 a0_2 a0_3)) else (none)) else (none))=some r:=by rw [if_pos rfl] at H;exact H
      clear H;have H:=H1;clear H1
      by_cases c8:0≤x3_1
      ·rw [if_pos c8] at H;have c8b0:decide (0≤x3_1)=true:=decide_eq_true c8;clear c8
       by_cases c9:x3_1<(l0_0.length:Int)
       ·rw [if_pos c9] at H;have c9b0:decide (x3_1<(l0_0.length:Int))=true:=decide_eq_true c9;clear c9
        by_cases c10:(((rd_T83 l0_0 x3_1).f2).length:Int) > 10
        ·rw [if_pos c10] at H;have c10b0:decide (10<(((rd_T83 l0_0 x3_1).f2).length:Int))=true:=decide_eq_true c10
         have c10b1:decide (10<((rd_T83 l0_0 x3_1).f2).length)=true:=decide_eq_true (by omega)
         clear c10;obtain rfl:=Option.some.inj H;obtain ⟨hcz11_0,hcz11_1,hcz11_2,hcz11_3,hfz11_0,hfz11_1,hfz11_2,hfz11_3⟩:=bq4_ BK101.out
         have p102:0≤(x3_1:Int):=of_decide_eq_true y6_
         have q102:x3_1<(l0_0.length:Int):=of_decide_eq_true y6_
         obtain ⟨ad102,A102_3,c102_3,e102,hx102_0,hx102_1,hx102_2,hx102_3,hl102_3,hi102_3⟩:=at_T83 HR0_0.out x3_1 p102 q102
         cases e102
         replace hx102_0:=(HB.out.cell (World.block_lt_of_cell? w _ hx102_0)).trans hx102_0
         replace hx102_1:=(HB.out.cell (World.block_lt_of_cell? w _ hx102_1)).trans hx102_1
         replace hx102_2:=(HB.out.cell (World.block_lt_of_cell? w _ hx102_2)).trans hx102_2
         replace hx102_3:=(HB.out.cell (World.block_lt_of_cell? w _ hx102_3)).trans hx102_3
         have HR102_3:=A0_ hi102_3;have HC102_3:=A0_ hl102_3;clear hi102_3 hl102_3
         replace p102:=eq_true p102
         replace q102:=eq_true q102
         go_wp2;go_ret
         exact ⟨y3_,y2y_⟩
        ·rw [if_neg c10] at H;have c10b0:decide (10<(((rd_T83 l0_0 x3_1).f2).length:Int))=false:=decide_eq_false c10
         have c10b1:decide (10<((rd_T83 l0_0 x3_1).f2).length)=false:=decide_eq_false (by omega)
         clear c10
         have H':=A0_ H
         clear H;obtain ⟨hcz12_0,hcz12_1,hcz12_2,hcz12_3,hfz12_0,hfz12_1,hfz12_2,hfz12_3⟩:=bq4_ BK101.out
         have p102:0≤(x3_1:Int):=of_decide_eq_true y6_
         have q102:x3_1<(l0_0.length:Int):=of_decide_eq_true y6_
         obtain ⟨ad102,A102_3,c102_3,e102,hx102_0,hx102_1,hx102_2,hx102_3,hl102_3,hi102_3⟩:=at_T83 HR0_0.out x3_1 p102 q102
         cases e102
         replace hx102_0:=(HB.out.cell (World.block_lt_of_cell? w _ hx102_0)).trans hx102_0
         replace hx102_1:=(HB.out.cell (World.block_lt_of_cell? w _ hx102_1)).trans hx102_1
         replace hx102_2:=(HB.out.cell (World.block_lt_of_cell? w _ hx102_2)).trans hx102_2
         replace hx102_3:=(HB.out.cell (World.block_lt_of_cell? w _ hx102_3)).trans hx102_3
         have HR102_3:=A0_ hi102_3;have HC102_3:=A0_ hl102_3;clear hi102_3 hl102_3
         replace p102:=eq_true p102
         replace q102:=eq_true q102
         go_wp2
         go_roundg kj2
         case measure=>have:=HK1.out;have:=HJ2.out;omega
         case rel=>exact ⟨(wrap64 (x3_1+1)),y5_,H',⟨by have:=HK1.out;have:=HJ2.out;omega⟩,⟨by (with_reducible repeat (first|refine blk_drewN ?_ _|refine blk_drew ?_|refine blk_alloc ?_ _));exact BK101.out⟩,⟨y2y_⟩⟩
       ·rw [if_neg c9] at H;exact absurd H (by simp)
      ·rw [if_neg c8] at H;exact absurd H (by simp)
     ·replace c7:=Bool.eq_false_iff.mpr c7;subst c7
      have H1:(some (decide ((l0_0.length:Int)≤6)))=some r:=by rw [if_neg (show ¬ (false=true) by decide)] at H;exact H
      clear H;have H:=H1;clear H1;obtain rfl:=Option.some.inj H;obtain ⟨hcz13_0,hcz13_1,hcz13_2,hcz13_3,hfz13_0,hfz13_1,hfz13_2,hfz13_3⟩:=bq4_ BK101.out;go_wp2;go_ret
      exact ⟨y3_,y2y_⟩
def tr_period.f (a0_0:Int) (a0_1:Int):Option (Bool):=(tr_in.f a0_0 1 10000).bind fun t134=>(if t134=true then ((tr_in.f a0_1 1 10000).bind fun t135=>(if t135=true then (some (decide (a0_0 ≥ (wrap64 (4*a0_1))))) else (some false))) else (some false))
set_option maxHeartbeats 8000000 in
set_option maxRecDepth 100000 in
theorem tr_period.calls (a0_0:Int) (a0_1:Int) (r:Bool) (w:World) (h:tr_period.f a0_0 a0_1=some r):
  Calls Tryz.prog 55 #[.agg #[.int .i64 a0_0,.int .i64 a0_1]] w fun e w'=>e=.returned (.bool r)∧Below w.heap.size w w':=by
 have hu24:=Tryz.underlying24
 have HB:=A0_ (Below.refl w.heap.size w)
 have H:((tr_in.f a0_0 1 10000).bind fun t134=>(if t134=true then ((tr_in.f a0_1 1 10000).bind fun t135=>(if t135=true then (some (decide (a0_0 ≥ (wrap64 (4*a0_1))))) else (some false))) else (some false)))=some r:=h
 clear h;replace H:=Option.bind_eq_some_iff.mp H;obtain ⟨t134,A20,H⟩:=H
 replace H:(if t134=true then ((tr_in.f a0_1 1 10000).bind fun t135=>(if t135=true then (some (decide (a0_0 ≥ (wrap64 (4*a0_1))))) else (some false))) else (some false))=some r:=H
 have A2:=A0_ A20;clear A20
 by_cases c3:t134=true
 ·subst c3
  have H1:((tr_in.f a0_1 1 10000).bind fun t135=>(if t135=true then (some (decide (a0_0 ≥ (wrap64 (4*a0_1))))) else (some false)))=some r:=by rw [if_pos rfl] at H;exact H
  clear H;have H:=H1;clear H1;replace H:=Option.bind_eq_some_iff.mp H;obtain ⟨t135,A40,H⟩:=H
  replace H:(if t135=true then (some (decide (a0_0 ≥ (wrap64 (4*a0_1))))) else (some false))=some r:=H
  have A4:=A0_ A40;clear A40
  by_cases c5:t135=true
  ·subst c5
   have H1:(some (decide (a0_0 ≥ (wrap64 (4*a0_1)))))=some r:=by rw [if_pos rfl] at H;exact H
   clear H;have H:=H1;clear H1;obtain rfl:=Option.some.inj H
   go_enter Tryz.func55,Tryz.ntmps55
   go_wp2_with (first|((with_reducible refine gate_dst (N:=1) rfl ?_);refine box_event ?hg (N:=1) ?hd (cs:=#[.int .i64 a0_0,.int .i64 a0_1]) (t:=24) ?hr ?_;(case hd=>rfl);(case hg=>rfl);(case hr=>first|(go_simp;done)|(go_simp;rfl));intro gb133 hg w6 hbox hb;have n0_:=A0_ (below_step y0_ hb);have n1_:=A0_ (hbox);have n2_:=A0_ ((by rw [hg];exact (below_size y0_):w.heap.size≤gb133));have n3_:=A0_ ((by rw [hg];exact (below_size y0_):w.heap.size≤gb133));clear HB;have HB:=n0_;have BK133:=n1_;have GW133:=n2_;have GE133:=n3_;clear n0_ n1_ n2_ n3_;clear hb hbox hg;obtain ⟨hcz7_0,hcz7_1,hfz7_0,hfz7_1⟩:=bq2_ BK133.out)|((with_reducible refine gate_callee (f:=56) rfl ?_);refine goesL_ (some 5) rfl rfl Tryz.func56 (by kernel_rfl) rfl #[.int .i64 a0_0,.int .i64 1,.int .i64 10000] rfl y1_ ?_;(with_reducible refine (tr_in.calls a0_0 1 10000 true _ A2.out).mono ?_);rintro e w' ⟨rfl,⟨nd,rfl⟩⟩;refine ⟨_,rfl,?_⟩)|(go_at_call 56;(with_reducible refine (tr_in.calls a0_1 1 10000 true _ A4.out).mono ?_);rintro e w' ⟨rfl,⟨nd,rfl⟩⟩))
   go_ret
   exact ⟨y3_,y4i_⟩
  ·replace c5:=Bool.eq_false_iff.mpr c5;subst c5
   have H1:(some false)=some r:=by rw [if_neg (show ¬ (false=true) by decide)] at H;exact H
   clear H;have H:=H1;clear H1;obtain rfl:=Option.some.inj H
   go_enter Tryz.func55,Tryz.ntmps55
   go_wp2_with (first|((with_reducible refine gate_dst (N:=1) rfl ?_);refine box_event ?hg (N:=1) ?hd (cs:=#[.int .i64 a0_0,.int .i64 a0_1]) (t:=24) ?hr ?_;(case hd=>rfl);(case hg=>rfl);(case hr=>first|(go_simp;done)|(go_simp;rfl));intro gb133 hg w8 hbox hb;have n0_:=A0_ (below_step y0_ hb);have n1_:=A0_ (hbox);have n2_:=A0_ ((by rw [hg];exact (below_size y0_):w.heap.size≤gb133));have n3_:=A0_ ((by rw [hg];exact (below_size y0_):w.heap.size≤gb133));clear HB;have HB:=n0_;have BK133:=n1_;have GW133:=n2_;have GE133:=n3_;clear n0_ n1_ n2_ n3_;clear hb hbox hg;obtain ⟨hcz9_0,hcz9_1,hfz9_0,hfz9_1⟩:=bq2_ BK133.out)|((with_reducible refine gate_callee (f:=56) rfl ?_);refine goesL_ (some 5) rfl rfl Tryz.func56 (by kernel_rfl) rfl #[.int .i64 a0_0,.int .i64 1,.int .i64 10000] rfl y1_ ?_;(with_reducible refine (tr_in.calls a0_0 1 10000 true _ A2.out).mono ?_);rintro e w' ⟨rfl,⟨nd,rfl⟩⟩;refine ⟨_,rfl,?_⟩)|(go_at_call 56;(with_reducible refine (tr_in.calls a0_1 1 10000 false _ A4.out).mono ?_);rintro e w' ⟨rfl,⟨nd,rfl⟩⟩))
   go_ret
   exact ⟨y3_,y4i_⟩
 ·replace c3:=Bool.eq_false_iff.mpr c3;subst c3
  have H1:(some false)=some r:=by rw [if_neg (show ¬ (false=true) by decide)] at H;exact H
  clear H;have H:=H1;clear H1;obtain rfl:=Option.some.inj H
  go_enter Tryz.func55,Tryz.ntmps55
  go_wp2_with (first|((with_reducible refine gate_dst (N:=1) rfl ?_);refine box_event ?hg (N:=1) ?hd (cs:=#[.int .i64 a0_0,.int .i64 a0_1]) (t:=24) ?hr ?_;(case hd=>rfl);(case hg=>rfl);(case hr=>first|(go_simp;done)|(go_simp;rfl));intro gb133 hg w10 hbox hb;have n0_:=A0_ (below_step y0_ hb);have n1_:=A0_ (hbox);have n2_:=A0_ ((by rw [hg];exact (below_size y0_):w.heap.size≤gb133));have n3_:=A0_ ((by rw [hg];exact (below_size y0_):w.heap.size≤gb133));clear HB;have HB:=n0_;have BK133:=n1_;have GW133:=n2_;have GE133:=n3_;clear n0_ n1_ n2_ n3_;clear hb hbox hg;obtain ⟨hcz11_0,hcz11_1,hfz11_0,hfz11_1⟩:=bq2_ BK133.out)|((with_reducible refine gate_callee (f:=56) rfl ?_);refine goesL_ (some 5) rfl rfl Tryz.func56 (by kernel_rfl) rfl #[.int .i64 a0_0,.int .i64 1,.int .i64 10000] rfl y1_ ?_;(with_reducible refine (tr_in.calls a0_0 1 10000 false _ A2.out).mono ?_);rintro e w' ⟨rfl,⟨nd,rfl⟩⟩;refine ⟨_,rfl,?_⟩))
  go_ret
  exact ⟨y3_,y4i_⟩
end Go.Proofs.YtaidphhkhddemaaGreatDoor.PSky
end
section
namespace Go.Proofs.YtaidphhkhddemaaGreatDoor.PSky
open Go.RowKit Go.Proofs.YtaidphhkhddemaaGreatDoorW.PrintWords Go.Proofs.YtaidphhkhddemaaGreatDoorW.PrintLast Go.Proofs.YtaidphhkhddemaaGreatDoorW.PrintMore
attribute [local go_sem] max2_int min2_int max_two min_two max_three min_three max_four min_four
set_option linter.unusedVariables false
set_option linter.unusedSimpArgs false
mutual
def tr_Sky.l0:Nat→Int→List (S83)→Int→Int→Int→Option (Bool)
 |0,_,_,_,_,_=>none
 |k+1,x3,x137000,x137001,x137002,x137003=>if x3<(x137000.length:Int) then (if 0≤x3 then ((tr_period.f ((rd_T83 x137000 x3).f0.f0) ((rd_T83 x137000 x3).f0.f1)).bind fun t142=>(if t142=true then ((tr_Spot.f ((rd_T83 x137000 x3).f1)).bind fun t143=>(if t143=true then ((tr_in.f (((rd_T83 x137000 x3).f2).length:Int) 1 8).bind fun t144=>(tr_Sky.j1 k x3 (!t144) x137000 x137001 x137002 x137003 ((rd_T83 x137000 x3).f0.f0) ((rd_T83 x137000 x3).f0.f1) ((rd_T83 x137000 x3).f1) ((rd_T83 x137000 x3).f2))) else (tr_Sky.j1 k x3 true x137000 x137001 x137002 x137003 ((rd_T83 x137000 x3).f0.f0) ((rd_T83 x137000 x3).f0.f1) ((rd_T83 x137000 x3).f1) ((rd_T83 x137000 x3).f2)))) else (tr_Sky.j1 k x3 true x137000 x137001 x137002 x137003 ((rd_T83 x137000 x3).f0.f0) ((rd_T83 x137000 x3).f0.f1) ((rd_T83 x137000 x3).f1) ((rd_T83 x137000 x3).f2)))) else (none)) else ((tr_in.f (x137000.length:Int) 2 4).bind fun t137=>(if t137=true then ((tr_period.f x137001 x137002).bind fun t138=>(if t138=true then ((tr_Spot.f x137003).bind fun t139=>(some t139)) else (some false))) else (some false)))
def tr_Sky.j1:Nat→Int→Bool→List (S83)→Int→Int→Int→Int→Int→Int→List Int→Option (Bool)
 |0,_,_,_,_,_,_,_,_,_,_=>none
 |k+1,x3,x34,x137000,x137001,x137002,x137003,x142000,x142001,x142002,x142003=>if x34=true then (some false) else (tr_Sky.l1 k x3 0 x137000 x137001 x137002 x137003 x142000 x142001 x142002 x142003)
def tr_Sky.l1:Nat→Int→Int→List (S83)→Int→Int→Int→Int→Int→Int→List Int→Option (Bool)
 |0,_,_,_,_,_,_,_,_,_,_=>none
 |k+1,x3,x5,x137000,x137001,x137002,x137003,x142000,x142001,x142002,x142003=>if x5<(x142003.length:Int) then (if 0≤x5 then ((tr_in.f (rd x142003 x5) (-600) 600).bind fun t146=>(if t146=true then (tr_Sky.l1 k x3 (wrap64 (x5+1)) x137000 x137001 x137002 x137003 x142000 x142001 x142002 x142003) else (some false))) else (none)) else (tr_Sky.l0 k (wrap64 (x3+1)) x137000 x137001 x137002 x137003)
end
def tr_Sky.f (k:Nat) (l0_0:List (S83)) (a0_1:Int) (a0_2:Int) (a0_3:Int):Option (Bool):=tr_Sky.l0 k 0 l0_0 a0_1 a0_2 a0_3
set_option maxHeartbeats 8000000 in
set_option maxRecDepth 100000 in
theorem tr_Sky.calls (k:Nat) (A0_0:Option Addr) (c0_0:Nat) (l0_0:List (S83)) (a0_1:Int) (a0_2:Int) (a0_3:Int) (r:Bool) (w:World) (hr0_0:Kd.C k83 w A0_0 l0_0.length l0_0) (hc0_0:l0_0.length≤c0_0) (h:tr_Sky.f k l0_0 a0_1 a0_2 a0_3=some r):
  Calls Tryz.prog 13 #[.agg #[.slice A0_0 l0_0.length c0_0,.int .i64 a0_1,.int .i64 a0_2,.int .i64 a0_3]] w fun e w'=>e=.returned (.bool r)∧Below w.heap.size w w':=by
 have hu28:=Tryz.underlying28
 have hu83:=Tryz.underlying83
 have hu24:=Tryz.underlying24
 have HR0_0:=A0_ hr0_0;have HC0_0:=A0_ hc0_0;clear hr0_0 hc0_0
 have HB:=A0_ (Below.refl w.heap.size w)
 have H:(tr_Sky.l0 k 0 l0_0 a0_1 a0_2 a0_3)=some r:=h
 clear h
 have H':=A0_ H
 clear H
 go_enter Tryz.func13,Tryz.ntmps13
 go_wp2_with (first|((with_reducible refine gate_dst (N:=1) rfl ?_);(try (refine gate_guard (by rfl) ?_;dsimp only));refine box_event ?hg (N:=1) ?hd (cs:=#[.slice A0_0 l0_0.length c0_0,.int .i64 a0_1,.int .i64 a0_2,.int .i64 a0_3]) (t:=28) ?hr ?_;(case hd=>rfl);(case hg=>rfl);(case hr=>first|(go_simp;done)|(go_simp;rfl));intro gb136 hg w2 hbox hb;have n0_:=A0_ (below_step y0_ hb);have n1_:=A0_ (hbox);have n2_:=A0_ ((by rw [hg];exact (below_size y0_):w.heap.size≤gb136));have n3_:=A0_ ((by rw [hg];exact (below_size y0_):w.heap.size≤gb136));clear HB;have HB:=n0_;have BK136:=n1_;have GW136:=n2_;have GE136:=n3_;clear n0_ n1_ n2_ n3_;clear hb hbox hg))
 go_loopg [3] k (fun kq v3 w'=>∃ (x3_1:Int),v3=.int .i64 x3_1∧Aside0 (tr_Sky.l0 kq x3_1 l0_0 a0_1 a0_2 a0_3=some r)∧Aside0 (kq≤k)∧Aside0 (w'.heap[gb136]?=some (.cells #[(.slice A0_0 l0_0.length c0_0),.int .i64 a0_1,.int .i64 a0_2,.int .i64 a0_3] 28 (0,0)))∧Aside0 (Below w.heap.size w w'))
 case atStart=>exact ⟨(0),y5_,H',⟨Nat.le_refl _⟩,⟨by (with_reducible repeat (first|refine blk_drewN ?_ _|refine blk_drew ?_|refine blk_alloc ?_ _));exact BK136.out⟩,⟨y2g_⟩⟩
 case round=>
  clear H'
  (try clear c1);(try clear p2)
  obtain ⟨x3_1,rfl,HA,HK1,BK136,HB⟩:=hrel
  cases gk with
  |zero=>exact absurd HA.out (by simp [tr_Sky.l0])
  |succ k1=>
   have H:=HA.out
   clear HA
   simp only [tr_Sky.l0] at H
   by_cases c3:x3_1<(l0_0.length:Int)
   ·rw [if_pos c3] at H;have c3b0:decide (x3_1<(l0_0.length:Int))=true:=decide_eq_true c3;clear c3
    by_cases c4:0≤x3_1
    ·rw [if_pos c4] at H;have c4b0:decide (0≤x3_1)=true:=decide_eq_true c4;clear c4;have HC5:=A0_ H;clear H;obtain ⟨hcz6_0,hcz6_1,hcz6_2,hcz6_3,hfz6_0,hfz6_1,hfz6_2,hfz6_3⟩:=bq4_ BK136.out
     have p140:0≤(x3_1:Int):=of_decide_eq_true y6_
     have q140:x3_1<(l0_0.length:Int):=of_decide_eq_true y6_
     obtain ⟨ad140,A140_3,c140_3,e140,hx140_0,hx140_1,hx140_2,hx140_3,hl140_3,hi140_3⟩:=at_T83 HR0_0.out x3_1 p140 q140
     cases e140
     replace hx140_0:=(HB.out.cell (World.block_lt_of_cell? w _ hx140_0)).trans hx140_0
     replace hx140_1:=(HB.out.cell (World.block_lt_of_cell? w _ hx140_1)).trans hx140_1
     replace hx140_2:=(HB.out.cell (World.block_lt_of_cell? w _ hx140_2)).trans hx140_2
     replace hx140_3:=(HB.out.cell (World.block_lt_of_cell? w _ hx140_3)).trans hx140_3
     have HR140_3:=A0_ hi140_3;have HC140_3:=A0_ hl140_3;clear hi140_3 hl140_3
     replace p140:=eq_true p140
     replace q140:=eq_true q140
     go_upto_region 5 with (first|((with_reducible refine gate_dst (N:=4) rfl ?_);(try (refine gate_guard (by rfl) ?_;dsimp only));refine box_event ?hg (N:=4) ?hd (cs:=#[.int .i64 0,.int .i64 0,.int .i64 0,.slice none 0 0]) (t:=83) ?hr ?_;(case hd=>rfl);(case hg=>rfl);(case hr=>first|(go_simp;done)|(go_simp;rfl));intro gb141 hg w7 hbox hb;have n0_:=A0_ (blk_below (g:=gb136) (o:=.cells #[.slice (some ad140) l0_0.length c0_0,.int .i64 a0_1,.int .i64 a0_2,.int .i64 a0_3] 28 (0,0)) (bd_ BK136.out) hb);have n1_:=A0_ (below_step y2g_ hb);have n2_:=A0_ (hbox);have n3_:=A0_ ((by rw [hg];exact (below_size y2g_):w.heap.size≤gb141));have n4_:=A0_ ((by rw [hg];exact (below_size y2g_):w.heap.size≤gb141));have n5_:=A0_ ((by rw [hg];exact Nat.ne_of_lt (blk_lt (g:=gb136) (o:=.cells #[.slice (some ad140) l0_0.length c0_0,.int .i64 a0_1,.int .i64 a0_2,.int .i64 a0_3] 28 (0,0)) (bd_ BK136.out)):gb136≠gb141));have n6_:=A0_ ((by rw [hg];exact Nat.ne_of_gt (blk_lt (g:=gb136) (o:=.cells #[.slice (some ad140) l0_0.length c0_0,.int .i64 a0_1,.int .i64 a0_2,.int .i64 a0_3] 28 (0,0)) (bd_ BK136.out)):gb141≠gb136));clear BK136;clear HB;have BK136:=n0_;have HB:=n1_;have BK141:=n2_;have GW141:=n3_;have GE141:=n4_;have NB136_141:=n5_;have NB141_136:=n6_;clear n0_ n1_ n2_ n3_ n4_ n5_ n6_;clear hb hbox hg;have hnb8:=NB141_136.out;have hnc8:=NB136_141.out;obtain ⟨hcz9_0,hcz9_1,hcz9_2,hcz9_3,hfz9_0,hfz9_1,hfz9_2,hfz9_3⟩:=bq4_ BK141.out))
     (try simp only [Act.put,List.setIfInBounds_toArray,List.set_cons_zero,List.set_cons_succ])
     go_cut [34] (fun v34 wc=>∃ (kq:Nat) (x34_4:Bool),v34=.bool x34_4∧Aside0 (tr_Sky.j1 kq x3_1 x34_4 l0_0 a0_1 a0_2 a0_3 ((rd_T83 l0_0 x3_1).f0.f0) ((rd_T83 l0_0 x3_1).f0.f1) ((rd_T83 l0_0 x3_1).f1) ((rd_T83 l0_0 x3_1).f2)=some r)∧Aside0 (kq≤k1)∧Aside0 (wc.heap[gb136]?=some (.cells #[(.slice (some ad140) l0_0.length c0_0),.int .i64 a0_1,.int .i64 a0_2,.int .i64 a0_3] 28 (0,0)))∧Aside0 (wc.heap[gb141]?=some (.cells #[.int .i64 ((rd_T83 l0_0 x3_1).f0.f0),.int .i64 ((rd_T83 l0_0 x3_1).f0.f1),.int .i64 ((rd_T83 l0_0 x3_1).f1),(.slice A140_3 ((rd_T83 l0_0 x3_1).f2).length c140_3)] 83 (0,0)))∧Aside0 (Below w.heap.size w wc))
     case first=>
      have H:=HC5.out
      clear HC5;replace H:=Option.bind_eq_some_iff.mp H;obtain ⟨t142,A100,H⟩:=H
      replace H:(if t142=true then ((tr_Spot.f ((rd_T83 l0_0 x3_1).f1)).bind fun t143=>(if t143=true then ((tr_in.f (((rd_T83 l0_0 x3_1).f2).length:Int) 1 8).bind fun t144=>(tr_Sky.j1 k1 x3_1 (!t144) l0_0 a0_1 a0_2 a0_3 ((rd_T83 l0_0 x3_1).f0.f0) ((rd_T83 l0_0 x3_1).f0.f1) ((rd_T83 l0_0 x3_1).f1) ((rd_T83 l0_0 x3_1).f2))) else (tr_Sky.j1 k1 x3_1 true l0_0 a0_1 a0_2 a0_3 ((rd_T83 l0_0 x3_1).f0.f0) ((rd_T83 l0_0 x3_1).f0.f1) ((rd_T83 l0_0 x3_1).f1) ((rd_T83 l0_0 x3_1).f2)))) else (tr_Sky.j1 k1 x3_1 true l0_0 a0_1 a0_2 a0_3 ((rd_T83 l0_0 x3_1).f0.f0) ((rd_T83 l0_0 x3_1).f0.f1) ((rd_T83 l0_0 x3_1).f1) ((rd_T83 l0_0 x3_1).f2)))=some r:=H
      have A10:=A0_ A100;clear A100
      by_cases c11:t142=true
      ·subst c11
       have H1:((tr_Spot.f ((rd_T83 l0_0 x3_1).f1)).bind fun t143=>(if t143=true then ((tr_in.f (((rd_T83 l0_0 x3_1).f2).length:Int) 1 8).bind fun t144=>(tr_Sky.j1 k1 x3_1 (!t144) l0_0 a0_1 a0_2 a0_3 ((rd_T83 l0_0 x3_1).f0.f0) ((rd_T83 l0_0 x3_1).f0.f1) ((rd_T83 l0_0 x3_1).f1) ((rd_T83 l0_0 x3_1).f2))) else (tr_Sky.j1 k1 x3_1 true l0_0 a0_1 a0_2 a0_3 ((rd_T83 l0_0 x3_1).f0.f0) ((rd_T83 l0_0 x3_1).f0.f1) ((rd_T83 l0_0 x3_1).f1) ((rd_T83 l0_0 x3_1).f2))))=some r:=by rw [if_pos rfl] at H;exact H
       clear H;have H:=H1;clear H1;replace H:=Option.bind_eq_some_iff.mp H;obtain ⟨t143,A120,H⟩:=H
       replace H:(if t143=true then ((tr_in.f (((rd_T83 l0_0 x3_1).f2).length:Int) 1 8).bind fun t144=>(tr_Sky.j1 k1 x3_1 (!t144) l0_0 a0_1 a0_2 a0_3 ((rd_T83 l0_0 x3_1).f0.f0) ((rd_T83 l0_0 x3_1).f0.f1) ((rd_T83 l0_0 x3_1).f1) ((rd_T83 l0_0 x3_1).f2))) else (tr_Sky.j1 k1 x3_1 true l0_0 a0_1 a0_2 a0_3 ((rd_T83 l0_0 x3_1).f0.f0) ((rd_T83 l0_0 x3_1).f0.f1) ((rd_T83 l0_0 x3_1).f1) ((rd_T83 l0_0 x3_1).f2)))=some r:=H
       have A12:=A0_ A120;clear A120
       by_cases c13:t143=true
       ·subst c13
        have H1:((tr_in.f (((rd_T83 l0_0 x3_1).f2).length:Int) 1 8).bind fun t144=>(tr_Sky.j1 k1 x3_1 (!t144) l0_0 a0_1 a0_2 a0_3 ((rd_T83 l0_0 x3_1).f0.f0) ((rd_T83 l0_0 x3_1).f0.f1) ((rd_T83 l0_0 x3_1).f1) ((rd_T83 l0_0 x3_1).f2)))=some r:=by rw [if_pos rfl] at H;exact H
        clear H;have H:=H1;clear H1;replace H:=Option.bind_eq_some_iff.mp H;obtain ⟨t144,A140,H⟩:=H
        replace H:(tr_Sky.j1 k1 x3_1 (!t144) l0_0 a0_1 a0_2 a0_3 ((rd_T83 l0_0 x3_1).f0.f0) ((rd_T83 l0_0 x3_1).f0.f1) ((rd_T83 l0_0 x3_1).f1) ((rd_T83 l0_0 x3_1).f2))=some r:=H
        have A14:=A0_ A140;clear A140
        have H':=A0_ H
        clear H
        have hnb15:=NB141_136.out
        have hnc15:=NB136_141.out
        obtain ⟨hcz16_0,hcz16_1,hcz16_2,hcz16_3,hfz16_0,hfz16_1,hfz16_2,hfz16_3⟩:=bq4_ BK141.out
        go_wp2_with (first|((with_reducible refine gate_callee (f:=55) rfl ?_);refine goesL_ (some 20) rfl rfl Tryz.func55 (by kernel_rfl) rfl #[.agg #[.int .i64 ((rd_T83 l0_0 x3_1).f0.f0),.int .i64 ((rd_T83 l0_0 x3_1).f0.f1)]] rfl y1_ ?_;(with_reducible refine (tr_period.calls ((rd_T83 l0_0 x3_1).f0.f0) ((rd_T83 l0_0 x3_1).f0.f1) true _ A10.out).mono ?_);rintro e w17 ⟨rfl,hb⟩;refine ⟨_,rfl,?_⟩;have n0_:=A0_ (blk_below (g:=gb136) (o:=.cells #[.slice (some ad140) l0_0.length c0_0,.int .i64 a0_1,.int .i64 a0_2,.int .i64 a0_3] 28 (0,0)) y2f_ hb);have n1_:=A0_ (blk_below (g:=gb141) (o:=.cells #[.int .i64 ((rd_T83 l0_0 x3_1).f0.f0),.int .i64 ((rd_T83 l0_0 x3_1).f0.f1),.int .i64 ((rd_T83 l0_0 x3_1).f1),.slice A140_3 ((rd_T83 l0_0 x3_1).f2).length c140_3] 83 (0,0)) yw_ hb);have n2_:=A0_ (below_step y23_ hb);clear BK136;clear BK141;clear HB;have BK136:=n0_;have BK141:=n1_;have HB:=n2_;clear n0_ n1_ n2_;(try clear hb);(try clear hb2);(try clear hk);(try clear hi);obtain ⟨hcz18_0,hcz18_1,hcz18_2,hcz18_3,hfz18_0,hfz18_1,hfz18_2,hfz18_3⟩:=bq4_ BK141.out)|(go_at_call 23;(with_reducible refine (tr_Spot.calls ((rd_T83 l0_0 x3_1).f1) true _ A12.out).mono ?_);rintro e w' ⟨rfl,⟨nd,rfl⟩⟩)|(go_at_call 56;(with_reducible refine (tr_in.calls (((rd_T83 l0_0 x3_1).f2).length:Int) 1 8 t144 _ A14.out).mono ?_);rintro e w' ⟨rfl,⟨nd,rfl⟩⟩))
        go_meet
        case rel=>exact ⟨_,(!t144),y5_,H',⟨by have:=HK1.out;first|omega|exact Nat.le_refl _⟩,⟨by (with_reducible repeat (first|refine blk_drewN ?_ _|refine blk_drew ?_|refine blk_alloc ?_ _));exact BK136.out⟩,⟨by (with_reducible repeat (first|refine blk_drewN ?_ _|refine blk_drew ?_|refine blk_alloc ?_ _));exact BK141.out⟩,⟨y23_⟩⟩
       ·replace c13:=Bool.eq_false_iff.mpr c13;subst c13
        have H1:(tr_Sky.j1 k1 x3_1 true l0_0 a0_1 a0_2 a0_3 ((rd_T83 l0_0 x3_1).f0.f0) ((rd_T83 l0_0 x3_1).f0.f1) ((rd_T83 l0_0 x3_1).f1) ((rd_T83 l0_0 x3_1).f2))=some r:=by rw [if_neg (show ¬ (false=true) by decide)] at H;exact H
        clear H;have H:=H1;clear H1
        have H':=A0_ H
        clear H
        have hnb19:=NB141_136.out
        have hnc19:=NB136_141.out
        obtain ⟨hcz20_0,hcz20_1,hcz20_2,hcz20_3,hfz20_0,hfz20_1,hfz20_2,hfz20_3⟩:=bq4_ BK141.out
        go_wp2_with (first|((with_reducible refine gate_callee (f:=55) rfl ?_);refine goesL_ (some 20) rfl rfl Tryz.func55 (by kernel_rfl) rfl #[.agg #[.int .i64 ((rd_T83 l0_0 x3_1).f0.f0),.int .i64 ((rd_T83 l0_0 x3_1).f0.f1)]] rfl y1_ ?_;(with_reducible refine (tr_period.calls ((rd_T83 l0_0 x3_1).f0.f0) ((rd_T83 l0_0 x3_1).f0.f1) true _ A10.out).mono ?_);rintro e w21 ⟨rfl,hb⟩;refine ⟨_,rfl,?_⟩;have n0_:=A0_ (blk_below (g:=gb136) (o:=.cells #[.slice (some ad140) l0_0.length c0_0,.int .i64 a0_1,.int .i64 a0_2,.int .i64 a0_3] 28 (0,0)) y2f_ hb);have n1_:=A0_ (blk_below (g:=gb141) (o:=.cells #[.int .i64 ((rd_T83 l0_0 x3_1).f0.f0),.int .i64 ((rd_T83 l0_0 x3_1).f0.f1),.int .i64 ((rd_T83 l0_0 x3_1).f1),.slice A140_3 ((rd_T83 l0_0 x3_1).f2).length c140_3] 83 (0,0)) yw_ hb);have n2_:=A0_ (below_step y23_ hb);clear BK136;clear BK141;clear HB;have BK136:=n0_;have BK141:=n1_;have HB:=n2_;clear n0_ n1_ n2_;(try clear hb);(try clear hb2);(try clear hk);(try clear hi);obtain ⟨hcz22_0,hcz22_1,hcz22_2,hcz22_3,hfz22_0,hfz22_1,hfz22_2,hfz22_3⟩:=bq4_ BK141.out)|(go_at_call 23;(with_reducible refine (tr_Spot.calls ((rd_T83 l0_0 x3_1).f1) false _ A12.out).mono ?_);rintro e w' ⟨rfl,⟨nd,rfl⟩⟩))
        go_meet
        case rel=>exact ⟨_,(true),y5_,H',⟨by have:=HK1.out;first|omega|exact Nat.le_refl _⟩,⟨by (with_reducible repeat (first|refine blk_drewN ?_ _|refine blk_drew ?_|refine blk_alloc ?_ _));exact BK136.out⟩,⟨by (with_reducible repeat (first|refine blk_drewN ?_ _|refine blk_drew ?_|refine blk_alloc ?_ _));exact BK141.out⟩,⟨y23_⟩⟩
      ·replace c11:=Bool.eq_false_iff.mpr c11;subst c11
       have H1:(tr_Sky.j1 k1 x3_1 true l0_0 a0_1 a0_2 a0_3 ((rd_T83 l0_0 x3_1).f0.f0) ((rd_T83 l0_0 x3_1).f0.f1) ((rd_T83 l0_0 x3_1).f1) ((rd_T83 l0_0 x3_1).f2))=some r:=by rw [if_neg (show ¬ (false=true) by decide)] at H;exact H
       clear H;have H:=H1;clear H1
       have H':=A0_ H
       clear H
       have hnb23:=NB141_136.out
       have hnc23:=NB136_141.out
       obtain ⟨hcz24_0,hcz24_1,hcz24_2,hcz24_3,hfz24_0,hfz24_1,hfz24_2,hfz24_3⟩:=bq4_ BK141.out
       go_wp2_with (first|((with_reducible refine gate_callee (f:=55) rfl ?_);refine goesL_ (some 20) rfl rfl Tryz.func55 (by kernel_rfl) rfl #[.agg #[.int .i64 ((rd_T83 l0_0 x3_1).f0.f0),.int .i64 ((rd_T83 l0_0 x3_1).f0.f1)]] rfl y1_ ?_;(with_reducible refine (tr_period.calls ((rd_T83 l0_0 x3_1).f0.f0) ((rd_T83 l0_0 x3_1).f0.f1) false _ A10.out).mono ?_);rintro e w25 ⟨rfl,hb⟩;refine ⟨_,rfl,?_⟩;have n0_:=A0_ (blk_below (g:=gb136) (o:=.cells #[.slice (some ad140) l0_0.length c0_0,.int .i64 a0_1,.int .i64 a0_2,.int .i64 a0_3] 28 (0,0)) y2f_ hb);have n1_:=A0_ (blk_below (g:=gb141) (o:=.cells #[.int .i64 ((rd_T83 l0_0 x3_1).f0.f0),.int .i64 ((rd_T83 l0_0 x3_1).f0.f1),.int .i64 ((rd_T83 l0_0 x3_1).f1),.slice A140_3 ((rd_T83 l0_0 x3_1).f2).length c140_3] 83 (0,0)) yw_ hb);have n2_:=A0_ (below_step y23_ hb);clear BK136;clear BK141;clear HB;have BK136:=n0_;have BK141:=n1_;have HB:=n2_;clear n0_ n1_ n2_;(try clear hb);(try clear hb2);(try clear hk);(try clear hi)))
       go_meet
       case rel=>exact ⟨_,(true),y5_,H',⟨by have:=HK1.out;first|omega|exact Nat.le_refl _⟩,⟨by (with_reducible repeat (first|refine blk_drewN ?_ _|refine blk_drew ?_|refine blk_alloc ?_ _));exact BK136.out⟩,⟨by (with_reducible repeat (first|refine blk_drewN ?_ _|refine blk_drew ?_|refine blk_alloc ?_ _));exact BK141.out⟩,⟨y23_⟩⟩
     case rest=>
      clear HC5;(try clear c1);(try clear p1);(try clear q1);(try clear hx1);(try clear c2);(try clear p2);(try clear c3);(try clear c3b0);(try clear c4);(try clear c4b0);(try clear c5);(try clear c8);(try clear c11);(try clear c13);(try clear c14);(try clear p14);(try clear q14);(try clear hx14);(try clear c15);(try clear c19);(try clear c23);(try clear hcz16_0);(try clear hcz16_1);(try clear hcz16_2);(try clear hcz16_3);(try clear hcz18_0);(try clear hcz18_1);(try clear hcz18_2);(try clear hcz18_3);(try clear hcz20_0);(try clear hcz20_1);(try clear hcz20_2);(try clear hcz20_3);(try clear hcz22_0);(try clear hcz22_1);(try clear hcz22_2);(try clear hcz22_3);(try clear hcz24_0);(try clear hcz24_1);(try clear hcz24_2);(try clear hcz24_3);(try clear hcz6_0);(try clear hcz6_1);(try clear hcz6_2);(try clear hcz6_3);(try clear hcz9_0);(try clear hcz9_1);(try clear hcz9_2);(try clear hcz9_3);(try clear hfz16_0);(try clear hfz16_1);(try clear hfz16_2);(try clear hfz16_3);(try clear hfz18_0);(try clear hfz18_1);(try clear hfz18_2);(try clear hfz18_3);(try clear hfz20_0);(try clear hfz20_1);(try clear hfz20_2);(try clear hfz20_3);(try clear hfz22_0);(try clear hfz22_1);(try clear hfz22_2);(try clear hfz22_3);(try clear hfz24_0);(try clear hfz24_1);(try clear hfz24_2);(try clear hfz24_3);(try clear hfz6_0);(try clear hfz6_1);(try clear hfz6_2);(try clear hfz6_3);(try clear hfz9_0);(try clear hfz9_1);(try clear hfz9_2);(try clear hfz9_3);(try clear hx140_0);(try clear hx140_1);(try clear hx140_2);(try clear hx140_3);(try clear p140);(try clear p2);(try clear q140)
      obtain ⟨kq,x34_4,rfl,HA,HJ4,BK136,BK141,HB⟩:=hcut
      cases kq with
      |zero=>exact absurd HA.out (by simp [tr_Sky.j1])
      |succ kj4=>
       have H:=HA.out
       clear HA
       simp only [tr_Sky.j1] at H
       by_cases c26:x34_4=true
       ·subst c26
        have H1:(some false)=some r:=by rw [if_pos rfl] at H;exact H
        clear H;have H:=H1;clear H1;obtain rfl:=Option.some.inj H;go_wp2;go_ret
        exact ⟨y3_,y23_⟩
       ·replace c26:=Bool.eq_false_iff.mpr c26;subst c26
        have H1:(tr_Sky.l1 kj4 x3_1 0 l0_0 a0_1 a0_2 a0_3 ((rd_T83 l0_0 x3_1).f0.f0) ((rd_T83 l0_0 x3_1).f0.f1) ((rd_T83 l0_0 x3_1).f1) ((rd_T83 l0_0 x3_1).f2))=some r:=by rw [if_neg (show ¬ (false=true) by decide)] at H;exact H
        clear H;have H:=H1;clear H1
        have H':=A0_ H
        clear H;go_wp2
        go_loopg [5] kj4 (fun kq v5 w'=>∃ (x5_3:Int),v5=.int .i64 x5_3∧Aside0 (tr_Sky.l1 kq x3_1 x5_3 l0_0 a0_1 a0_2 a0_3 ((rd_T83 l0_0 x3_1).f0.f0) ((rd_T83 l0_0 x3_1).f0.f1) ((rd_T83 l0_0 x3_1).f1) ((rd_T83 l0_0 x3_1).f2)=some r)∧Aside0 (kq≤kj4)∧Aside0 (w'.heap[gb136]?=some (.cells #[(.slice (some ad140) l0_0.length c0_0),.int .i64 a0_1,.int .i64 a0_2,.int .i64 a0_3] 28 (0,0)))∧Aside0 (w'.heap[gb141]?=some (.cells #[.int .i64 ((rd_T83 l0_0 x3_1).f0.f0),.int .i64 ((rd_T83 l0_0 x3_1).f0.f1),.int .i64 ((rd_T83 l0_0 x3_1).f1),(.slice A140_3 ((rd_T83 l0_0 x3_1).f2).length c140_3)] 83 (0,0)))∧Aside0 (Below w.heap.size w w'))
        case atStart=>exact ⟨(0),y5_,H',⟨Nat.le_refl _⟩,⟨by (with_reducible repeat (first|refine blk_drewN ?_ _|refine blk_drew ?_|refine blk_alloc ?_ _));exact BK136.out⟩,⟨by (with_reducible repeat (first|refine blk_drewN ?_ _|refine blk_drew ?_|refine blk_alloc ?_ _));exact BK141.out⟩,⟨y23_⟩⟩
        case round=>
         clear H'
         (try clear c1);(try clear p1);(try clear q1);(try clear hx1);(try clear c2);(try clear p2);(try clear c3);(try clear c3b0);(try clear c4);(try clear c4b0);(try clear c5);(try clear c8);(try clear c11);(try clear c13);(try clear c14);(try clear p14);(try clear q14);(try clear hx14);(try clear c15);(try clear c19);(try clear c23);(try clear c26);(try clear hcz16_0);(try clear hcz16_1);(try clear hcz16_2);(try clear hcz16_3);(try clear hcz18_0);(try clear hcz18_1);(try clear hcz18_2);(try clear hcz18_3);(try clear hcz20_0);(try clear hcz20_1);(try clear hcz20_2);(try clear hcz20_3);(try clear hcz22_0);(try clear hcz22_1);(try clear hcz22_2);(try clear hcz22_3);(try clear hcz24_0);(try clear hcz24_1);(try clear hcz24_2);(try clear hcz24_3);(try clear hcz6_0);(try clear hcz6_1);(try clear hcz6_2);(try clear hcz6_3);(try clear hcz9_0);(try clear hcz9_1);(try clear hcz9_2);(try clear hcz9_3);(try clear hfz16_0);(try clear hfz16_1);(try clear hfz16_2);(try clear hfz16_3);(try clear hfz18_0);(try clear hfz18_1);(try clear hfz18_2);(try clear hfz18_3);(try clear hfz20_0);(try clear hfz20_1);(try clear hfz20_2);(try clear hfz20_3);(try clear hfz22_0);(try clear hfz22_1);(try clear hfz22_2);(try clear hfz22_3);(try clear hfz24_0);(try clear hfz24_1);(try clear hfz24_2);(try clear hfz24_3);(try clear hfz6_0);(try clear hfz6_1);(try clear hfz6_2);(try clear hfz6_3);(try clear hfz9_0);(try clear hfz9_1);(try clear hfz9_2);(try clear hfz9_3);(try clear hx140_0);(try clear hx140_1);(try clear hx140_2);(try clear hx140_3);(try clear p1);(try clear p14);(try clear p140);(try clear p2);(try clear q1);(try clear q14);(try clear q140)
         obtain ⟨x5_3,rfl,HA,HK3,BK136,BK141,HB⟩:=hrel
         cases gk with
         |zero=>exact absurd HA.out (by simp [tr_Sky.l1])
         |succ k3=>
          have H:=HA.out
          clear HA
          simp only [tr_Sky.l1] at H
          by_cases c27:x5_3<(((rd_T83 l0_0 x3_1).f2).length:Int)
          ·rw [if_pos c27] at H;have c27b0:decide (x5_3<(((rd_T83 l0_0 x3_1).f2).length:Int))=true:=decide_eq_true c27;clear c27
           by_cases c28:0≤x5_3
           ·rw [if_pos c28] at H;have c28b0:decide (0≤x5_3)=true:=decide_eq_true c28;clear c28;replace H:=Option.bind_eq_some_iff.mp H;obtain ⟨t146,A290,H⟩:=H
            replace H:(if t146=true then (tr_Sky.l1 k3 x3_1 (wrap64 (x5_3+1)) l0_0 a0_1 a0_2 a0_3 ((rd_T83 l0_0 x3_1).f0.f0) ((rd_T83 l0_0 x3_1).f0.f1) ((rd_T83 l0_0 x3_1).f1) ((rd_T83 l0_0 x3_1).f2)) else (some false))=some r:=H
            have A29:=A0_ A290;clear A290
            by_cases c30:t146=true
            ·subst c30
             have H1:(tr_Sky.l1 k3 x3_1 (wrap64 (x5_3+1)) l0_0 a0_1 a0_2 a0_3 ((rd_T83 l0_0 x3_1).f0.f0) ((rd_T83 l0_0 x3_1).f0.f1) ((rd_T83 l0_0 x3_1).f1) ((rd_T83 l0_0 x3_1).f2))=some r:=by rw [if_pos rfl] at H;exact H
             clear H;have H:=H1;clear H1
             have H':=A0_ H
             clear H
             have hnb31:=NB141_136.out
             have hnc31:=NB136_141.out
             obtain ⟨hcz32_0,hcz32_1,hcz32_2,hcz32_3,hfz32_0,hfz32_1,hfz32_2,hfz32_3⟩:=bq4_ BK141.out
             have p145:0≤(x5_3:Int):=of_decide_eq_true y6_
             have q145:x5_3<(((rd_T83 l0_0 x3_1).f2).length:Int):=of_decide_eq_true y6_
             obtain ⟨ad145,e145,hx145_0⟩:=Kd.at_int HR140_3.out x5_3 p145 q145
             cases e145
             replace hx145_0:=(HB.out.cell (World.block_lt_of_cell? w _ hx145_0)).trans hx145_0
             replace p145:=eq_true p145
             replace q145:=eq_true q145
             go_wp2_with (first|((with_reducible refine gate_callee (f:=56) rfl ?_);refine goesL_ (some 47) rfl rfl Tryz.func56 (by kernel_rfl) rfl #[.int .i64 (rd ((rd_T83 l0_0 x3_1).f2) x5_3),.int .i64 (-600),.int .i64 600] rfl y1_ ?_;(with_reducible refine (tr_in.calls (rd ((rd_T83 l0_0 x3_1).f2) x5_3) (-600) 600 true _ A29.out).mono ?_);rintro e w' ⟨rfl,⟨nd,rfl⟩⟩;refine ⟨_,rfl,?_⟩))
             go_roundg k3
             case measure=>have:=HK1.out;have:=HJ4.out;have:=HK3.out;omega
             case rel=>exact ⟨(wrap64 (x5_3+1)),y5_,H',⟨by have:=HK1.out;have:=HJ4.out;have:=HK3.out;omega⟩,⟨by (with_reducible repeat (first|refine blk_drewN ?_ _|refine blk_drew ?_|refine blk_alloc ?_ _));exact BK136.out⟩,⟨by (with_reducible repeat (first|refine blk_drewN ?_ _|refine blk_drew ?_|refine blk_alloc ?_ _));exact BK141.out⟩,⟨y23_⟩⟩
            ·replace c30:=Bool.eq_false_iff.mpr c30;subst c30
             have H1:(some false)=some r:=by rw [if_neg (show ¬ (false=true) by decide)] at H;exact H
             clear H;have H:=H1;clear H1;obtain rfl:=Option.some.inj H
             have hnb33:=NB141_136.out
             have hnc33:=NB136_141.out
             obtain ⟨hcz34_0,hcz34_1,hcz34_2,hcz34_3,hfz34_0,hfz34_1,hfz34_2,hfz34_3⟩:=bq4_ BK141.out
             have p145:0≤(x5_3:Int):=of_decide_eq_true y6_
             have q145:x5_3<(((rd_T83 l0_0 x3_1).f2).length:Int):=of_decide_eq_true y6_
             obtain ⟨ad145,e145,hx145_0⟩:=Kd.at_int HR140_3.out x5_3 p145 q145
             cases e145
             replace hx145_0:=(HB.out.cell (World.block_lt_of_cell? w _ hx145_0)).trans hx145_0
             replace p145:=eq_true p145
             replace q145:=eq_true q145
             go_wp2_with (first|((with_reducible refine gate_callee (f:=56) rfl ?_);refine goesL_ (some 47) rfl rfl Tryz.func56 (by kernel_rfl) rfl #[.int .i64 (rd ((rd_T83 l0_0 x3_1).f2) x5_3),.int .i64 (-600),.int .i64 600] rfl y1_ ?_;(with_reducible refine (tr_in.calls (rd ((rd_T83 l0_0 x3_1).f2) x5_3) (-600) 600 false _ A29.out).mono ?_);rintro e w' ⟨rfl,⟨nd,rfl⟩⟩;refine ⟨_,rfl,?_⟩))
             go_ret
             exact ⟨y3_,y23_⟩
           ·rw [if_neg c28] at H;exact absurd H (by simp)
          ·rw [if_neg c27] at H;have c27b0:decide (x5_3<(((rd_T83 l0_0 x3_1).f2).length:Int))=false:=decide_eq_false c27;clear c27
           have H':=A0_ H
           clear H
           have hnb35:=NB141_136.out
           have hnc35:=NB136_141.out
           obtain ⟨hcz36_0,hcz36_1,hcz36_2,hcz36_3,hfz36_0,hfz36_1,hfz36_2,hfz36_3⟩:=bq4_ BK141.out;go_wp2
           go_roundg k3
           case measure=>have:=HK1.out;have:=HJ4.out;have:=HK3.out;omega
           case rel=>exact ⟨(wrap64 (x3_1+1)),y5_,H',⟨by have:=HK1.out;have:=HJ4.out;have:=HK3.out;omega⟩,⟨by (with_reducible repeat (first|refine blk_drewN ?_ _|refine blk_drew ?_|refine blk_alloc ?_ _));exact BK136.out⟩,⟨y23_⟩⟩
    ·rw [if_neg c4] at H;exact absurd H (by simp)
   ·rw [if_neg c3] at H;have c3b0:decide (x3_1<(l0_0.length:Int))=false:=decide_eq_false c3;clear c3;replace H:=Option.bind_eq_some_iff.mp H;obtain ⟨t137,A370,H⟩:=H
    replace H:(if t137=true then ((tr_period.f a0_1 a0_2).bind fun t138=>(if t138=true then ((tr_Spot.f a0_3).bind fun t139=>(some t139)) else (some false))) else (some false))=some r:=H
    have A37:=A0_ A370;clear A370
    by_cases c38:t137=true
    ·subst c38
     have H1:((tr_period.f a0_1 a0_2).bind fun t138=>(if t138=true then ((tr_Spot.f a0_3).bind fun t139=>(some t139)) else (some false)))=some r:=by rw [if_pos rfl] at H;exact H
     clear H;have H:=H1;clear H1;replace H:=Option.bind_eq_some_iff.mp H;obtain ⟨t138,A390,H⟩:=H
     replace H:(if t138=true then ((tr_Spot.f a0_3).bind fun t139=>(some t139)) else (some false))=some r:=H
     have A39:=A0_ A390;clear A390
     by_cases c40:t138=true
     ·subst c40
      have H1:((tr_Spot.f a0_3).bind fun t139=>(some t139))=some r:=by rw [if_pos rfl] at H;exact H
      clear H;have H:=H1;clear H1;replace H:=Option.bind_eq_some_iff.mp H;obtain ⟨t139,A410,H⟩:=H
      replace H:(some t139)=some r:=H
      have A41:=A0_ A410;clear A410;obtain rfl:=Option.some.inj H;obtain ⟨hcz42_0,hcz42_1,hcz42_2,hcz42_3,hfz42_0,hfz42_1,hfz42_2,hfz42_3⟩:=bq4_ BK136.out
      go_wp2_with (first|((with_reducible refine gate_callee (f:=56) rfl ?_);refine goesL_ (some 52) rfl rfl Tryz.func56 (by kernel_rfl) rfl #[.int .i64 (l0_0.length:Int),.int .i64 2,.int .i64 4] rfl y1_ ?_;(with_reducible refine (tr_in.calls (l0_0.length:Int) 2 4 true _ A37.out).mono ?_);rintro e w' ⟨rfl,⟨nd,rfl⟩⟩;refine ⟨_,rfl,?_⟩)|(go_at_call 55;(with_reducible refine (tr_period.calls a0_1 a0_2 true _ A39.out).mono ?_);rintro e w43 ⟨rfl,hb⟩;have n0_:=A0_ (blk_below (g:=gb136) (o:=.cells #[.slice A0_0 l0_0.length c0_0,.int .i64 a0_1,.int .i64 a0_2,.int .i64 a0_3] 28 (0,0)) (bd_ BK136.out) hb);have n1_:=A0_ (below_step y2g_ hb);clear BK136;clear HB;have BK136:=n0_;have HB:=n1_;clear n0_ n1_;(try clear hb);(try clear hb2);(try clear hk);(try clear hi);obtain ⟨hcz44_0,hcz44_1,hcz44_2,hcz44_3,hfz44_0,hfz44_1,hfz44_2,hfz44_3⟩:=bq4_ BK136.out)|(go_at_call 23;(with_reducible refine (tr_Spot.calls a0_3 t139 _ A41.out).mono ?_);rintro e w' ⟨rfl,⟨nd,rfl⟩⟩))
      go_ret
      exact ⟨y3_,y2g_⟩
     ·replace c40:=Bool.eq_false_iff.mpr c40;subst c40
      have H1:(some false)=some r:=by rw [if_neg (show ¬ (false=true) by decide)] at H;exact H
      clear H;have H:=H1;clear H1;obtain rfl:=Option.some.inj H;obtain ⟨hcz45_0,hcz45_1,hcz45_2,hcz45_3,hfz45_0,hfz45_1,hfz45_2,hfz45_3⟩:=bq4_ BK136.out
      go_wp2_with (first|((with_reducible refine gate_callee (f:=56) rfl ?_);refine goesL_ (some 52) rfl rfl Tryz.func56 (by kernel_rfl) rfl #[.int .i64 (l0_0.length:Int),.int .i64 2,.int .i64 4] rfl y1_ ?_;(with_reducible refine (tr_in.calls (l0_0.length:Int) 2 4 true _ A37.out).mono ?_);rintro e w' ⟨rfl,⟨nd,rfl⟩⟩;refine ⟨_,rfl,?_⟩)|(go_at_call 55;(with_reducible refine (tr_period.calls a0_1 a0_2 false _ A39.out).mono ?_);rintro e w46 ⟨rfl,hb⟩;have n0_:=A0_ (blk_below (g:=gb136) (o:=.cells #[.slice A0_0 l0_0.length c0_0,.int .i64 a0_1,.int .i64 a0_2,.int .i64 a0_3] 28 (0,0)) (bd_ BK136.out) hb);have n1_:=A0_ (below_step y2g_ hb);clear BK136;clear HB;have BK136:=n0_;have HB:=n1_;clear n0_ n1_;(try clear hb);(try clear hb2);(try clear hk);(try clear hi)))
      go_ret
      exact ⟨y3_,y2g_⟩
    ·replace c38:=Bool.eq_false_iff.mpr c38;subst c38
     have H1:(some false)=some r:=by rw [if_neg (show ¬ (false=true) by decide)] at H;exact H
     clear H;have H:=H1;clear H1;obtain rfl:=Option.some.inj H;obtain ⟨hcz47_0,hcz47_1,hcz47_2,hcz47_3,hfz47_0,hfz47_1,hfz47_2,hfz47_3⟩:=bq4_ BK136.out
     go_wp2_with (first|((with_reducible refine gate_callee (f:=56) rfl ?_);refine goesL_ (some 52) rfl rfl Tryz.func56 (by kernel_rfl) rfl #[.int .i64 (l0_0.length:Int),.int .i64 2,.int .i64 4] rfl y1_ ?_;(with_reducible refine (tr_in.calls (l0_0.length:Int) 2 4 false _ A37.out).mono ?_);rintro e w' ⟨rfl,⟨nd,rfl⟩⟩;refine ⟨_,rfl,?_⟩))
     go_ret
     exact ⟨y3_,y2g_⟩
end Go.Proofs.YtaidphhkhddemaaGreatDoor.PSky
end
section
namespace Go.Proofs.YtaidphhkhddemaaGreatDoor.PSky
open Go.RowKit Go.Proofs.YtaidphhkhddemaaGreatDoorW.PrintWords Go.Proofs.YtaidphhkhddemaaGreatDoorW.PrintLast Go.Proofs.YtaidphhkhddemaaGreatDoorW.PrintMore
theorem Ev.pos {α:Type} {c:Prop} [Decidable c] {f g:Nat→Option α} {r:α} (h:c) (k:Ev f r):Ev (fun n=>if c then f n else g n) r:=by simpa only [if_pos h] using k
theorem Ev.neg {α:Type} {c:Prop} [Decidable c] {f g:Nat→Option α} {r:α} (h:¬ c) (k:Ev g r):Ev (fun n=>if c then f n else g n) r:=by simpa only [if_neg h] using k
theorem Ev.some {α:Type} (r:α):Ev (fun _=>Option.some r) r:=Ev.now r
theorem Ev.is {α:Type} {o:Option α} {r:α} (h:o=Option.some r):Ev (fun _=>o) r:=by rw [h];exact Ev.now r
theorem wrap_id {n:Int} (h:-9223372036854775808≤n∧n≤9223372036854775807):wrap64 n=n:=by unfold wrap64;omega
theorem scan {β:Type} (l:List β) (bad:β→Bool) (g:Nat→Nat→Option Int) (hlen:l.length≤1000000)
  (hyes:∀ i (h:i<l.length),bad l[i]=true→Ev (fun k=>g k i) (i:Int))
  (hno:∀ i (h:i<l.length),bad l[i]=false→∀ r,Ev (fun k=>g k (i+1)) r→Ev (fun k=>g k i) r)
  (hend:Ev (fun k=>g k l.length) (-1)):∀ m i,i+m=l.length→∃ r,Ev (fun k=>g k i) r∧decide (r ≥ 0)=(l.drop i).any bad
 |0,i,h=>⟨-1,by rw [show i=l.length by omega];exact hend,by rw [show i=l.length by omega,List.drop_length];rfl⟩
 |m+1,i,h=>by
  have hi:i<l.length:=by omega
  rw [List.drop_eq_getElem_cons hi,List.any_cons]
  cases hb:bad l[i] with
  |true=>exact ⟨i,hyes i hi hb,by simp⟩
  |false=>
   obtain ⟨r,hr,he⟩:=scan l bad g hlen hyes hno hend m (i+1) (by omega)
   exact ⟨r,hno i hi hb r hr,by simpa using he⟩
def okIn (a b c:Int):Bool:=decide (b≤a) && decide (a≤c)
theorem in_eq (a b c:Int):sky_in.f a b c=some (okIn a b c):=by
 unfold sky_in.f okIn
 by_cases h:a ≥ b
 ·rw [if_pos h,decide_eq_true (show b≤a from h),Bool.true_and]
 ·rw [if_neg h,decide_eq_false (show ¬ b≤a from h),Bool.false_and]
theorem rin_eq (a b c:Int):tr_in.f a b c=some (okIn a b c):=in_eq a b c
def okPeriod (p q:Int):Bool:=okIn p 1 10000 && (okIn q 1 10000 && decide (4*q≤p))
theorem isPeriod_eq (p q:Int):sky_isPeriod.f p q=some (okPeriod p q):=by
 unfold sky_isPeriod.f okPeriod
 simp only [in_eq,Option.bind_some]
 cases h1:okIn p 1 10000 with
 |false=>rfl
 |true=>
  cases h2:okIn q 1 10000 with
  |false=>rfl
  |true=>
   have hq:wrap64 (4*q)=4*q:=wrap_id (by simp [okIn] at h2;omega)
   rw [hq]
   rfl
theorem period_eq (p q:Int):tr_period.f p q=some (okPeriod p q):=isPeriod_eq p q
def okPlace (n:Int):Bool:=okIn n 0 21599
theorem isPlace_eq (n:Int):sky_isPlace.f n=some (okPlace n):=by unfold sky_isPlace.f;rw [in_eq];rfl
theorem Spot_eq (n:Int):tr_Spot.f n=some (okPlace n):=isPlace_eq n
def okRoad (l:List Int):Bool:=!l.any (fun n=>!okIn n (-600) 600)
def okBody (b:S83):Bool:=okPeriod b.f0.f0 b.f0.f1 && (okPlace b.f1 && (okIn (b.f2.length:Int) 1 8 && okRoad b.f2))
def okSky (l:List S83) (p q n:Int):Bool:=okIn (l.length:Int) 2 4 && (okPeriod p q && (okPlace n && !l.any (fun b=>!okBody b)))
theorem rd_get (l:List Int) (i:Nat) (h:i<l.length):rd l (i:Int)=l[i]:=by unfold rd;simp [h]
theorem rdT_get (l:List S83) (i:Nat) (h:i<l.length):rd_T83 l (i:Int)=l[i]:=by unfold rd_T83;simp [h]
theorem road_ev (l:List Int) (hl:l.length≤1000000):Ev (fun k=>cF_isSky_c1_c1.f k l) (l.any (fun n=>!okIn n (-600) 600)):=by
 obtain ⟨r,hr,he⟩:=scan l (fun n=>!okIn n (-600) 600) (fun k i=>iF_isSky_c1_c1.l0 k l (l.length:Int) (i:Int)) hl
  (fun i h hb=>by
   refine Ev.step (fun k=>by rw [iF_isSky_c1_c1.l0]) ?_
   refine Ev.pos (by omega) (Ev.pos (by omega) (Ev.pos (by omega) ?_))
   refine Ev.bind (a:=true) (Ev.is (by unfold sky_isSky_c1_c1.f;rw [in_eq,rd_get l i h];simp [hb])) ?_
   exact Ev.pos rfl (Ev.now _))
  (fun i h hb r hr=>by
   refine Ev.step (fun k=>by rw [iF_isSky_c1_c1.l0]) ?_
   refine Ev.pos (by omega) (Ev.pos (by omega) (Ev.pos (by omega) ?_))
   refine Ev.bind (a:=false) (Ev.is (by unfold sky_isSky_c1_c1.f;rw [in_eq,rd_get l i h];simp [hb])) ?_
   refine Ev.neg (by simp) ?_
   rw [wrap_id (by omega)]
   exact hr)
  (by
   refine Ev.step (fun k=>by rw [iF_isSky_c1_c1.l0]) ?_
   exact Ev.neg (by omega) (Ev.now _)) l.length 0 (by omega)
 unfold cF_isSky_c1_c1.f iF_isSky_c1_c1.f
 refine Ev.bind hr ?_
 rw [he]
 exact Ev.now _
theorem body_ev (b:S83):Ev (fun k=>sky_isSky_c1.f k b.f0.f0 b.f0.f1 b.f1 b.f2) (!okBody b):=by
 unfold sky_isSky_c1.f okBody
 refine Ev.bind (Ev.is (isPeriod_eq _ _)) ?_
 cases h1:okPeriod b.f0.f0 b.f0.f1 with
 |false=>exact Ev.neg (by simp) (Ev.now _)
 |true=>
  refine Ev.pos rfl (Ev.bind (Ev.is (isPlace_eq _)) ?_)
  cases h2:okPlace b.f1 with
  |false=>exact Ev.neg (by simp) (Ev.now _)
  |true=>
   refine Ev.pos rfl (Ev.bind (Ev.is (in_eq _ _ _)) ?_)
   cases h3:okIn (b.f2.length:Int) 1 8 with
   |false=>exact Ev.neg (by simp) (Ev.now _)
   |true=>
    refine Ev.pos rfl (Ev.bind (road_ev b.f2 (by simp [okIn] at h3;omega)) ?_)
    simp only [okRoad,Bool.true_and,Bool.not_not]
    exact Ev.now _
theorem bodies_ev (l:List S83) (hl:l.length≤1000000):Ev (fun k=>cF_isSky_c1.f k l) (l.any (fun b=>!okBody b)):=by
 obtain ⟨r,hr,he⟩:=scan l (fun b=>!okBody b) (fun k i=>iF_isSky_c1.l0 k l (l.length:Int) (i:Int)) hl
  (fun i h hb=>by
   refine Ev.step (fun k=>by rw [iF_isSky_c1.l0]) ?_
   refine Ev.pos (by omega) (Ev.pos (by omega) (Ev.pos (by omega) ?_))
   rw [rdT_get l i h]
   refine Ev.bind (body_ev _) ?_
   rw [hb]
   exact Ev.pos rfl (Ev.now _))
  (fun i h hb r hr=>by
   refine Ev.step (fun k=>by rw [iF_isSky_c1.l0]) ?_
   refine Ev.pos (by omega) (Ev.pos (by omega) (Ev.pos (by omega) ?_))
   rw [rdT_get l i h]
   refine Ev.bind (body_ev _) ?_
   rw [hb]
   refine Ev.neg (by simp) ?_
   rw [wrap_id (by omega)]
   exact hr)
  (by
   refine Ev.step (fun k=>by rw [iF_isSky_c1.l0]) ?_
   exact Ev.neg (by omega) (Ev.now _)) l.length 0 (by omega)
 unfold cF_isSky_c1.f iF_isSky_c1.f
 refine Ev.bind hr ?_
 rw [he]
 exact Ev.now _
theorem isSky_ev (l:List S83) (p q n:Int):Ev (fun k=>sky_isSky.f k l p q n) (okSky l p q n):=by
 unfold sky_isSky.f okSky
 refine Ev.bind (Ev.is (in_eq _ _ _)) ?_
 cases h1:okIn (l.length:Int) 2 4 with
 |false=>exact Ev.neg (by simp) (Ev.now _)
 |true=>
  refine Ev.pos rfl (Ev.bind (Ev.is (isPeriod_eq _ _)) ?_)
  cases h2:okPeriod p q with
  |false=>exact Ev.neg (by simp) (Ev.now _)
  |true=>
   refine Ev.pos rfl (Ev.bind (Ev.is (isPlace_eq _)) ?_)
   cases h3:okPlace n with
   |false=>exact Ev.neg (by simp) (Ev.now _)
   |true=>
    refine Ev.pos rfl (Ev.bind (bodies_ev l (by simp [okIn] at h1;omega)) ?_)
    simp only [Bool.true_and]
    exact Ev.now _
theorem refroad_ok (l:List S83) (p q n:Int) (i:Int) (b:S83) (hb:b.f2.length≤1000000) (r:Bool) (hall:∀ x∈b.f2,okIn x (-600) 600=true)
  (hr:Ev (fun k=>tr_Sky.l0 k (wrap64 (i+1)) l p q n) r):∀ m j:Nat,j+m=b.f2.length →
  Ev (fun k=>tr_Sky.l1 k i (j:Int) l p q n b.f0.f0 b.f0.f1 b.f1 b.f2) r
 |0,j,h=>by
  refine Ev.step (fun k=>by rw [tr_Sky.l1]) ?_
  exact Ev.neg (by omega) hr
 |m+1,j,h=>by
  have hj:j<b.f2.length:=by omega
  refine Ev.step (fun k=>by rw [tr_Sky.l1]) ?_
  refine Ev.pos (by omega) (Ev.pos (by omega) ?_)
  refine Ev.bind (a:=true) (Ev.is (by rw [rin_eq,rd_get _ j hj,hall _ (List.getElem_mem hj)])) (Ev.pos rfl ?_)
  rw [wrap_id (by omega)]
  exact refroad_ok l p q n i b hb r hall hr m (j+1) (by omega)
theorem refroad_bad (l:List S83) (p q n:Int) (i:Int) (b:S83) (hb:b.f2.length≤1000000):∀ m j:Nat,j+m=b.f2.length→(b.f2.drop j).any (fun n=>!okIn n (-600) 600)=true →
  Ev (fun k=>tr_Sky.l1 k i (j:Int) l p q n b.f0.f0 b.f0.f1 b.f1 b.f2) false
 |0,j,h,hbad=>by
  rw [show j=b.f2.length by omega,List.drop_length] at hbad
  cases hbad
 |m+1,j,h,hbad=>by
  have hj:j<b.f2.length:=by omega
  rw [List.drop_eq_getElem_cons hj,List.any_cons] at hbad
  refine Ev.step (fun k=>by rw [tr_Sky.l1]) ?_
  refine Ev.pos (by omega) (Ev.pos (by omega) ?_)
  refine Ev.bind (Ev.is (by rw [rin_eq,rd_get _ j hj])) ?_
  cases hq:okIn b.f2[j] (-600) 600 with
  |false=>exact Ev.neg (by simp) (Ev.now _)
  |true=>
   rw [hq] at hbad
   refine Ev.pos rfl ?_
   rw [wrap_id (by omega)]
   exact refroad_bad l p q n i b hb m (j+1) (by omega) (by simpa using hbad)
theorem refSky_loop (l:List S83) (p q n:Int) (hl:l.length≤1000000):∀ m i:Nat,i+m=l.length →
  Ev (fun k=>tr_Sky.l0 k (i:Int) l p q n) ((l.drop i).all okBody && (okIn (l.length:Int) 2 4 && (okPeriod p q && okPlace n)))
 |0,i,h=>by
  rw [show i=l.length by omega,List.drop_length]
  refine Ev.step (fun k=>by rw [tr_Sky.l0]) ?_
  refine Ev.neg (by omega) (Ev.bind (Ev.is (rin_eq _ _ _)) ?_)
  cases h1:okIn (l.length:Int) 2 4 with
  |false=>exact Ev.neg (by simp) (Ev.now _)
  |true=>
   refine Ev.pos rfl (Ev.bind (Ev.is (period_eq _ _)) ?_)
   cases h2:okPeriod p q with
   |false=>exact Ev.neg (by simp) (Ev.now _)
   |true=>
    refine Ev.pos rfl (Ev.bind (Ev.is (Spot_eq _)) ?_)
    simp only [List.all_nil,Bool.true_and]
    exact Ev.now _
 |m+1,i,h=>by
  have hi:i<l.length:=by omega
  rw [List.drop_eq_getElem_cons hi,List.all_cons]
  have ih:=refSky_loop l p q n hl m (i+1) (by omega)
  refine Ev.step (fun k=>by rw [tr_Sky.l0]) ?_
  refine Ev.pos (by omega) (Ev.pos (by omega) ?_)
  rw [rdT_get l i hi]
  generalize l[i]=b
  have bad:∀ R:Bool,Ev (fun k=>tr_Sky.j1 k (i:Int) true l p q n b.f0.f0 b.f0.f1 b.f1 b.f2) (false && R):=fun R=>by
   refine Ev.step (fun k=>by rw [tr_Sky.j1]) ?_
   exact Ev.pos rfl (Ev.now _)
  unfold okBody
  refine Ev.bind (Ev.is (period_eq _ _)) ?_
  cases h1:okPeriod b.f0.f0 b.f0.f1 with
  |false=>exact Ev.neg (by simp) (bad _)
  |true=>
   refine Ev.pos rfl (Ev.bind (Ev.is (Spot_eq _)) ?_)
   cases h2:okPlace b.f1 with
   |false=>exact Ev.neg (by simp) (bad _)
   |true=>
    refine Ev.pos rfl (Ev.bind (Ev.is (rin_eq _ _ _)) ?_)
    cases h3:okIn (b.f2.length:Int) 1 8 with
    |false=>exact bad _
    |true=>
     have hbl:b.f2.length≤1000000:=by simp [okIn] at h3;omega
     refine Ev.step (fun k=>by rw [tr_Sky.j1]) ?_
     refine Ev.neg (by simp) ?_
     cases h4:okRoad b.f2 with
     |false=>exact refroad_bad l p q n i b hbl b.f2.length 0 (by omega) (by simpa [okRoad] using h4)
     |true=>
      simp only [Bool.true_and]
      have h5:∀ x∈b.f2,okIn x (-600) 600=true:=by
       intro x hx
       unfold okRoad at h4
       cases hq:okIn x (-600) 600 with
       |true=>rfl
       |false=>
        have:b.f2.any (fun n=>!okIn n (-600) 600)=true:=List.any_eq_true.mpr ⟨x,hx,by simp [hq]⟩
        rw [this] at h4
        cases h4
      refine refroad_ok l p q n i b hbl _ h5 ?_ b.f2.length 0 (by omega)
      rw [wrap_id (by omega)]
      exact ih
theorem any_all (f:S83→Bool) (l:List S83):(!l.any (fun b=>!f b))=l.all f:=by
 induction l with
 |nil=>rfl
 |cons b t ih=>simp [ih]
theorem refSky_ev (l:List S83) (p q n:Int) (hl:l.length≤1000000):Ev (fun k=>tr_Sky.f k l p q n) (okSky l p q n):=by
 have h:=refSky_loop l p q n hl l.length 0 (by omega)
 rw [List.drop_zero] at h
 have e:okSky l p q n=(l.all okBody && (okIn (l.length:Int) 2 4 && (okPeriod p q && okPlace n))):=by
  unfold okSky
  rw [any_all]
  cases l.all okBody <;> cases okIn (l.length:Int) 2 4 <;> cases okPeriod p q <;> cases okPlace n <;> rfl
 rw [e]
 exact h
theorem short_ev (l:List S83) (p q n:Int):∃ b,Ev (fun k=>tl_short.f k l p q n) b∧(b=true→l.length≤6):=by
 have key:∀ m i:Nat,i+m=7→∃ b,Ev (fun k=>tl_short.l0 k (i:Int) l p q n) b∧(b=true→l.length≤6):=by
  intro m
  induction m with
  |zero=>
   intro i h
   have fin:∀ c:Bool,c=false→Ev (fun k=>tl_short.j1 k (i:Int) c l p q n) (decide ((l.length:Int)≤6)):=fun c hc=>by
    refine Ev.step (fun k=>by rw [tl_short.j1]) ?_
    exact Ev.neg (by simp [hc]) (Ev.now _)
   refine ⟨decide ((l.length:Int)≤6),?_,fun h=>by have:=of_decide_eq_true h;omega⟩
   refine Ev.step (fun k=>by rw [tl_short.l0]) ?_
   by_cases hi:(i:Int)<(l.length:Int)
   ·exact Ev.pos hi (fin _ (decide_eq_false (by omega)))
   ·exact Ev.neg hi (fin _ rfl)
  |succ m ih=>
   intro i h
   by_cases hi:(i:Int)<(l.length:Int)
   ·by_cases hr:((rd_T83 l (i:Int)).f2.length:Int) > 10
    ·refine ⟨false,?_,fun h=>by cases h⟩
     refine Ev.step (fun k=>by rw [tl_short.l0]) (Ev.pos hi ?_)
     refine Ev.step (fun k=>by rw [tl_short.j1]) (Ev.pos (by simp;omega) ?_)
     exact Ev.pos (by omega) (Ev.pos hi (Ev.pos hr (Ev.now _)))
    ·obtain ⟨b,hb,hb6⟩:=ih (i+1) (by omega)
     refine ⟨b,?_,hb6⟩
     refine Ev.step (fun k=>by rw [tl_short.l0]) (Ev.pos hi ?_)
     refine Ev.step (fun k=>by rw [tl_short.j1]) (Ev.pos (by simp;omega) ?_)
     refine Ev.pos (by omega) (Ev.pos hi (Ev.neg hr ?_))
     rw [wrap_id (by omega)]
     exact hb
   ·refine ⟨decide ((l.length:Int)≤6),?_,fun h=>by have:=of_decide_eq_true h;omega⟩
    refine Ev.step (fun k=>by rw [tl_short.l0]) (Ev.neg hi ?_)
    refine Ev.step (fun k=>by rw [tl_short.j1]) ?_
    exact Ev.neg (by simp) (Ev.now _)
 unfold tl_short.f
 exact key 7 0 rfl
end Go.Proofs.YtaidphhkhddemaaGreatDoor.PSky
end
section
namespace Go.Proofs.YtaidphhkhddemaaGreatDoor.PSky
open Go.Lib Go.RowKit Go.Proofs.YtaidphhkhddemaaGreatDoorW.PrintWords Go.Proofs.YtaidphhkhddemaaGreatDoorW.PrintLast Go.Proofs.YtaidphhkhddemaaGreatDoorW.PrintMore
def cutL (c:UInt8):List UInt8→List (List UInt8)
 |[]=>[[]]
 |b :: l=>if b=c then [] :: cutL c l else match cutL c l with|[]=>[[b]]|x :: t=>(b :: x) :: t
theorem splitK_cutL (c:UInt8):∀ s:List UInt8,splitK [c] 0 (count s [c]) s=cutL c s
 |[]=>by rw [count_miss (by simp [index])];rfl
 |b :: l=>by
  have ih:=splitK_cutL c l
  by_cases h:b=c
  ·subst h
   have hix:index (b :: l) [b]=((0:Nat):Int):=by rw [index];simp [List.isPrefixOf]
   rw [count_cons_eq,Nat.add_comm 1,splitK,hix]
   simp [cutL,ih]
  ·have hp:([c]:List UInt8).isPrefixOf (b :: l)=false:=by simp [List.isPrefixOf,Ne.symm h]
   have hix:index (b :: l) [c]=if index l [c] == -1 then -1 else index l [c]+1:=by rw [index,hp];simp
   rw [count_cons_ne b c l h]
   have hs:cutL c (b :: l)=match cutL c l with|[]=>[[b]]|x :: t=>(b :: x) :: t:=by rw [cutL,if_neg h]
   rw [hs,← ih]
   cases hk:count l [c] with
   |zero=>rfl
   |succ k=>
    have hm:index l [c] ≠ -1:=fun hm=>by rw [count_miss hm] at hk;cases hk
    have hge:=index_ge l [c]
    obtain ⟨j,hj⟩:∃ j:Nat,index l [c]=j:=⟨(index l [c]).toNat,by omega⟩
    have hm2:¬ ((j:Int) == -1)=true:=fun e=>by have:=beq_iff_eq.1 e;omega
    have hix':index (b :: l) [c]=((j+1:Nat):Int):=by rw [hix,hj,if_neg hm2];omega
    have hm3:¬ (((j+1:Nat):Int) == -1)=true:=fun e=>by have:=beq_iff_eq.1 e;omega
    rw [splitK,splitK,hix',hj,if_neg hm2,if_neg hm3]
    simp
theorem cutL_at (c:UInt8):∀ (a r:List UInt8),c ∉ a→cutL c (a ++ c :: r)=a :: cutL c r
 |[],r,_=>by simp [cutL]
 |b :: a,r,h=>by
  have hb:b≠c:=fun e=>h (by simp [e])
  rw [List.cons_append,cutL,if_neg hb,cutL_at c a r (fun e=>h (List.mem_cons_of_mem _ e))]
theorem cutL_end (c:UInt8):∀ (a:List UInt8),c ∉ a→cutL c a=[a]
 |[],_=>rfl
 |b :: a,h=>by
  have hb:b≠c:=fun e=>h (by simp [e])
  rw [cutL,if_neg hb,cutL_end c a (fun e=>h (List.mem_cons_of_mem _ e))]
def digB (b:UInt8):Prop:=48≤b.toNat∧b.toNat≤57
def valD (n:Int) (l:List UInt8):Int:=l.foldl (fun n b=>10*n+((b.toNat:Int) - 48)) n
theorem decD_digits (u:Nat):∀ b∈decDigits u,digB b:=by
 induction u using Nat.strongRecOn with
 |_ u ih=>
  intro b hb
  rw [decDigits] at hb
  split at hb
  ·rename_i h
   rw [List.mem_singleton.mp hb]
   unfold digB
   simp [UInt8.toNat_ofNat']
   omega
  ·rename_i h
   rcases List.mem_append.mp hb with hb|hb
   ·exact ih (u / 10) (by omega) b hb
   ·rw [List.mem_singleton.mp hb]
    unfold digB
    simp [UInt8.toNat_ofNat']
    omega
theorem valD_dec (u:Nat):valD 0 (decDigits u)=u:=by
 induction u using Nat.strongRecOn with
 |_ u ih=>
  rw [decDigits]
  split
  ·rename_i h
   simp [valD,UInt8.toNat_ofNat']
   omega
  ·rename_i h
   have:=ih (u / 10) (by omega)
   unfold valD at this ⊢
   rw [List.foldl_append,this]
   simp [UInt8.toNat_ofNat']
   omega
theorem decD_length {u:Nat} (h:u≤99999):1≤(decDigits u).length∧(decDigits u).length≤5:=by
 rw [decDigits_length]
 refine ⟨nDigits_pos u,?_⟩
 have h1:∀ k u:Nat,u<10 ^ (k+1)→nDigits u≤k+1:=by
  intro k
  induction k with
  |zero=>intro u hu;rw [nDigits_small (by simpa using hu)];exact Nat.le_refl _
  |succ k ih=>
   intro u hu
   by_cases h:u<10
   ·rw [nDigits_small h];omega
   ·rw [nDigits_big h]
    have:=ih (u / 10) (by rw [Nat.pow_succ] at hu;omega)
    omega
 exact h1 4 u (by omega)
def mkB (l:List UInt8):ByteArray:=⟨l.toArray⟩
theorem mkB_data (l:List UInt8):(mkB l).data.toList=l:=rfl
theorem mkB_append (a b:List UInt8):mkB a ++ mkB b=mkB (a ++ b):=by
 apply ByteArray.ext
 simp [mkB]
theorem mkB_size (l:List UInt8):(mkB l).size=l.length:=by simp [mkB,ByteArray.size]
theorem mkB_list (l:List UInt8):(mkB l).toList=l:=by rw [ByteArray.toList_eq];rfl
theorem mkB_bt (l:List UInt8) (i:Nat) (h:i<l.length):bt (mkB l) (i:Int)=((l[i]'h).toNat:Int):=by
 unfold bt
 rw [dif_pos (by rw [mkB_size];simpa using h)]
 rfl
theorem splitB_cutL (c:UInt8) (l:List UInt8):splitB ⟨#[c]⟩ 0 (countB (mkB l) ⟨#[c]⟩) (mkB l)=(cutL c l).map mkB:=by
 have h:=splitB_data ⟨#[c]⟩ 0 (countB (mkB l) ⟨#[c]⟩) (mkB l)
 have h2:splitK [c] 0 (count l [c]) l=cutL c l:=splitK_cutL c l
 have h3:(splitB ⟨#[c]⟩ 0 (countB (mkB l) ⟨#[c]⟩) (mkB l)).map (·.data.toList)=cutL c l:=h.trans h2
 rw [← h3,List.map_map]
 have:(mkB ∘ fun x:ByteArray=>x.data.toList)=id:=rfl
 rw [this,List.map_id]
theorem numFrom_val {l:List UInt8} (hd:∀ b∈l,digB b) (h5:l.length≤5):∀ (m pos:Nat) (n:Int),pos+m=l.length→0≤n→n+1≤10 ^ pos→numFrom (mkB l) (m+1) pos n=some (valD n (l.drop pos))
 |0,pos,n,h,h0,hn=>by
  rw [numFrom,if_neg (by rw [mkB_size];omega),show pos=l.length by omega,List.drop_length]
  rfl
 |m+1,pos,n,h,h0,hn=>by
  have hp:pos<l.length:=by omega
  have hb:=hd l[pos] (List.getElem_mem hp)
  have hps:pos<(mkB l).size:=by rw [mkB_size];exact hp
  have hget:(mkB l)[pos]'hps=l[pos]:=rfl
  unfold digB at hb
  have hdec:Utf8.decode (mkB l) pos=((l[pos]).toNat,1):=by rw [decode_ascii (mkB l) pos hps (by rw [hget];omega),hget]
  have hpw:(10:Int) ^ pos≤10000:=by
   have:pos=0∨pos=1∨pos=2∨pos=3∨pos=4:=by omega
   rcases this with rfl|rfl|rfl|rfl|rfl <;> decide
  rw [numFrom,if_pos hps,hdec,if_pos ⟨by simp [isDigit];omega,by rw [mkB_size];omega⟩,List.drop_eq_getElem_cons hp]
  simp only []
  generalize l[pos]'hp=b at hb ⊢
  rw [wrap_id (show -9223372036854775808≤10*n∧10*n≤9223372036854775807 by omega),wrap_id (show -9223372036854775808≤10*n+((b.toNat:Int) - 48)∧10*n+((b.toNat:Int) - 48)≤9223372036854775807 by omega)]
  rw [numFrom_val hd h5 m (pos+1) (10*n+((b.toNat:Int) - 48)) (by omega) (by omega) (by rw [Int.pow_succ];omega)]
  rfl
theorem itoa_bytes (n:Int):∀ b∈itoa n,b=45∨digB b:=by
 intro b hb
 unfold itoa at hb
 split at hb
 ·rcases List.mem_cons.mp hb with rfl|hb
  ·exact Or.inl rfl
  ·exact Or.inr (decD_digits _ b hb)
 ·exact Or.inr (decD_digits _ b hb)
theorem itoa_clean (n:Int):(32:UInt8) ∉ itoa n∧(10:UInt8) ∉ itoa n:=by
 refine ⟨fun h=>?_,fun h=>?_⟩ <;> rcases itoa_bytes n _ h with e|e <;> first|(revert e;decide)|(unfold digB at e;revert e;decide)
theorem itoa_length {n:Int} (h:-99999≤n∧n≤99999):1≤(itoa n).length∧(itoa n).length≤6:=by
 unfold itoa
 split
 ·have:=decD_length (u:=n.natAbs) (by omega)
  simp only [List.length_cons]
  omega
 ·have:=decD_length (u:=n.toNat) (by omega)
  omega
theorem dec_head {u:Nat}:∃ b t,decDigits u=b :: t∧digB b:=by
 have h:=decD_digits u
 have hl:0<(decDigits u).length:=by rw [decDigits_length];exact nDigits_pos u
 cases hq:decDigits u with
 |nil=>rw [hq] at hl;simp at hl
 |cons b t=>exact ⟨b,t,rfl,h b (by rw [hq];exact List.mem_cons_self ..)⟩
theorem numberOf_itoa {n:Int} (h:-99999≤n∧n≤99999):numberOf (mkB (itoa n))=some n:=by
 by_cases hn:n<0
 ·have hi:itoa n=45 :: decDigits n.natAbs:=by unfold itoa;rw [if_pos hn]
  have hd:digitsOf (mkB (itoa n))=mkB (decDigits n.natAbs):=by
   unfold digitsOf
   rw [mkB_data,hi]
   rfl
  have hl:=decD_length (u:=n.natAbs) (by omega)
  have hv:=numFrom_val (decD_digits n.natAbs) hl.2 (decDigits n.natAbs).length 0 0 (by omega) (by decide) (by decide)
  rw [List.drop_zero,valD_dec] at hv
  have hw:wrap64 (-((n.natAbs:Nat):Int))=n:=by rw [wrap_id (by omega)];omega
  unfold numberOf
  rw [hd,mkB_size,hv,Option.bind_some,if_pos (show (decDigits n.natAbs).length<(mkB (itoa n)).size by rw [mkB_size,hi,List.length_cons];omega),hw,mkB_list,mkB_list]
  obtain ⟨b,t,e,-⟩:=dec_head (u:=n.natAbs)
  rw [e]
  simp
 ·have hi:itoa n=decDigits n.toNat:=by unfold itoa;rw [if_neg hn]
  have hd:digitsOf (mkB (itoa n))=mkB (decDigits n.toNat):=by
   unfold digitsOf
   rw [mkB_data,hi]
   obtain ⟨b,t,e,hb⟩:=dec_head (u:=n.toNat)
   unfold trimPrefix hasPrefix
   rw [e,if_neg ?_]
   ·rfl
   ·have:b≠45:=fun e=>by rw [e] at hb;unfold digB at hb;revert hb;decide
    simp [List.isPrefixOf,Ne.symm this]
  have hl:=decD_length (u:=n.toNat) (by omega)
  have hv:=numFrom_val (decD_digits n.toNat) hl.2 (decDigits n.toNat).length 0 0 (by omega) (by decide) (by decide)
  rw [List.drop_zero,valD_dec] at hv
  have hw:((n.toNat:Nat):Int)=n:=by omega
  unfold numberOf
  rw [hd,mkB_size,hv,Option.bind_some,if_neg (show ¬ (decDigits n.toNat).length<(mkB (itoa n)).size by rw [mkB_size,hi];omega),hw,mkB_list,mkB_list]
  obtain ⟨b,t,e,-⟩:=dec_head (u:=n.toNat)
  rw [hi,e]
  simp
end Go.Proofs.YtaidphhkhddemaaGreatDoor.PSky
end
section
namespace Go.Proofs.YtaidphhkhddemaaGreatDoor.PSky
open Go.Lib Go.RowKit Go.Proofs.YtaidphhkhddemaaGreatDoorW.PrintWords Go.Proofs.YtaidphhkhddemaaGreatDoorW.PrintLast Go.Proofs.YtaidphhkhddemaaGreatDoorW.PrintMore
def numB (n:Int):Prop:=-99999≤n∧n≤99999
def wordL (n:Int):List UInt8:=32 :: itoa n
def lineL (name:List UInt8) (l:List Int):List UInt8:=name ++ l.flatMap wordL
def nSky:List UInt8:=[115,107,121]
def nBody:List UInt8:=[98,111,100,121]
def nNode:List UInt8:=[110,111,100,101]
def nEnd:List UInt8:=[101,110,100,32]
def numsB (b:S83):List Int:=[b.f0.f0,b.f0.f1,b.f1] ++ b.f2
def bodyL (b:S83):List UInt8:=lineL nBody (numsB b)
def rowsL (l:List S83) (p q n:Int):List (List UInt8):=(lineL nSky [(l.length:Int)] :: l.map bodyL) ++ [lineL nNode [p,q,n]]
def chkL (k i:Nat):List UInt8→Int
 |[]=>0
 |b :: t=>(b.toNat:Int)*((k:Int)+1)*((i:Int)+1)+chkL (k+1) i t
def chksL (i:Nat):List (List UInt8)→Int
 |[]=>0
 |r :: t=>chkL 0 i r+chksL (i+1) t
def endL (c:Int):List UInt8:=nEnd ++ itoa (c / 100) ++ itoa (c / 10 % 10) ++ itoa (c % 10)
def tableL (l:List S83) (p q n:Int):List UInt8:=((rowsL l p q n).flatMap fun r=>r ++ [10]) ++ endL (chksL 0 (rowsL l p q n) % 137) ++ [10]
def soundB (b:S83):Prop:=b.f2.length≤500∧∀ x∈numsB b,numB x
def soundL (l:List S83) (p q n:Int):Prop:=l.length≤500∧(∀ b∈l,soundB b)∧numB p∧numB q∧numB n
theorem itoa_eq {n:Int} (h:numB n):strconv_Itoa.f n=some (mkB (itoa n)):=by
 unfold numB at h
 unfold strconv_Itoa.f
 rw [if_pos (by omega)]
 rfl
theorem words_length':∀ {l:List Int},(∀ x∈l,numB x)→(l.flatMap wordL).length≤7*l.length
 |[],_=>by simp
 |x :: t,h=>by
  have h1:=itoa_length (h x (List.mem_cons_self ..))
  have h2:=words_length' (l:=t) (fun y hy=>h y (List.mem_cons_of_mem _ hy))
  simp only [List.flatMap_cons,List.length_append,List.length_cons,wordL]
  omega
theorem line_loop {l:List Int} (hl:l.length≤600) (hb:∀ x∈l,numB x):∀ (m i:Nat) (acc:List UInt8),i+m=l.length→acc.length+7*m≤100000 →
  Ev (fun k=>sky_line.l0 k (mkB acc) l (l.length:Int) (i:Int)) (mkB (acc ++ (l.drop i).flatMap wordL))
 |0,i,acc,h,ha=>by
  rw [show i=l.length by omega,List.drop_length]
  refine Ev.step (fun k=>by rw [sky_line.l0]) ?_
  refine Ev.neg (by omega) ?_
  rw [List.flatMap_nil,List.append_nil]
  exact Ev.now _
 |m+1,i,acc,h,ha=>by
  have hi:i<l.length:=by omega
  have hx:=hb l[i] (List.getElem_mem hi)
  have hlen:=itoa_length hx
  have ih:=line_loop hl hb m (i+1) (acc ++ wordL l[i]) (by omega) (by simp only [List.length_append,wordL,List.length_cons];omega)
  rw [List.drop_eq_getElem_cons hi,List.flatMap_cons,← List.append_assoc]
  refine Ev.step (fun k=>by rw [sky_line.l0]) ?_
  rw [rd_get l i hi,wrap_id (show -9223372036854775808≤(i:Int)+1∧(i:Int)+1≤9223372036854775807 by omega)]
  refine Ev.pos (by omega) (Ev.pos (by omega) (Ev.pos (by omega) (Ev.bind (Ev.is (itoa_eq hx)) ?_)))
  rw [show (⟨#[32]⟩:ByteArray)=mkB [32] from rfl,mkB_append,mkB_append,mkB_size,mkB_size,mkB_size]
  refine Ev.pos (by omega) (Ev.pos y3s_ ih)
theorem line_ev {name:List UInt8} (hn:name.length≤10) {l:List Int} (hl:l.length≤600) (hb:∀ x∈l,numB x):Ev (fun k=>sky_line.f k (mkB name) l) (mkB (lineL name l)):=line_loop hl hb l.length 0 name (by omega) (by omega)
theorem tmod_abs (r:Int):mx (Int.tmod r 10) (wrap64 (-(Int.tmod r 10)))=((r.natAbs % 10:Nat):Int):=by
 have h1:Int.tmod r 10=if 0≤r then ((r.natAbs % 10:Nat):Int) else -((r.natAbs % 10:Nat):Int):=by
  split
  ·rw [Int.tmod_eq_emod_of_nonneg (by omega)]
   omega
  ·have:r = -((r.natAbs:Nat):Int):=by omega
   rw [this,Int.neg_tmod,Int.tmod_eq_emod_of_nonneg (by omega)]
   omega
 rw [h1]
 split
 ·rw [wrap_id (by omega)]
  unfold mx
  split <;> omega
 ·rw [wrap_id (by omega)]
  unfold mx
  split <;> omega
theorem tdiv_abs (r:Int):(Int.tdiv r 10).natAbs=r.natAbs / 10:=by
 rw [Int.natAbs_tdiv]
 rfl
def sgnL (n:Int) (s:List UInt8):List UInt8:=if n<0 then 45 :: s else s
theorem dec_done (n:Int) (acc:List UInt8) (ha:acc≠[]) (hl:acc.length≤1000000):Ev (fun k=>tr_Decimal.l0 k n (mkB acc) 0) (mkB (sgnL n acc)):=by
 refine Ev.step (fun k=>by rw [tr_Decimal.l0]) ?_
 refine Ev.pos rfl (Ev.neg (by rw [mkB_list];exact ha) ?_)
 by_cases h:n<0
 ·rw [show sgnL n acc=45 :: acc from if_pos h]
  refine Ev.pos h ?_
  rw [show (⟨#[45]⟩:ByteArray)=mkB [45] from rfl,mkB_append,mkB_size]
  exact Ev.pos (by omega) (Ev.now _)
 ·rw [show sgnL n acc=acc from if_neg h]
  exact Ev.neg h (Ev.now _)
theorem dec_loop (n:Int):∀ (u:Nat) (r:Int) (acc:List UInt8),r.natAbs=u→(r≠0∨acc=[])→acc.length+u≤999999→Ev (fun k=>tr_Decimal.l0 k n (mkB acc) r) (mkB (sgnL n (decDigits u ++ acc))):=by
 intro u
 induction u using Nat.strongRecOn with
 |_ u ih=>
  intro r acc hu hr hl
  have hby:strOfNums [(wrap64 (48+(mx (Int.tmod r 10) (wrap64 (-(Int.tmod r 10)))))) % 256]=mkB [UInt8.ofNat (48+u % 10)]:=by
   rw [tmod_abs,hu,wrap_id (by omega)]
   unfold strOfNums mkB
   congr 3
   simp only [List.map_cons,List.map_nil,List.cons.injEq,and_true]
   congr 1
   omega
  have hq:=tdiv_abs r
  rw [hu] at hq
  have next:Ev (fun k=>tr_Decimal.l0 k n (mkB (UInt8.ofNat (48+u % 10) :: acc)) (wrap64 (Int.tdiv r 10))) (mkB (sgnL n (decDigits u ++ acc))):=by
   rw [wrap_id (by omega)]
   by_cases h10:u<10
   ·rw [show Int.tdiv r 10=0 by omega,decDigits,dif_pos h10,Nat.mod_eq_of_lt h10]
    exact dec_done n _ (by simp) (by simp only [List.length_cons];omega)
   ·rw [decDigits,dif_neg h10,List.append_assoc]
    exact ih (u / 10) (by omega) (Int.tdiv r 10) (UInt8.ofNat (48+u % 10) :: acc) hq (Or.inl (by omega)) (by simp only [List.length_cons];omega)
  refine Ev.step (fun k=>by rw [tr_Decimal.l0]) ?_
  by_cases h0:r=0
  ·rw [h0] at next hby ⊢
   refine Ev.pos rfl (Ev.pos (by rw [mkB_list];rcases hr with h|h;exact absurd h0 h;exact h) (Ev.bind (Ev.now _) ?_))
   rw [hby,mkB_append,mkB_size,mkB_size]
   exact Ev.pos (by simp only [List.length_cons,List.length_nil];omega) next
  ·refine Ev.neg h0 (Ev.bind (Ev.now _) ?_)
   rw [hby,mkB_append,mkB_size,mkB_size]
   exact Ev.pos (by simp only [List.length_cons,List.length_nil];omega) next
theorem Decimal_ev {n:Int} (h:numB n):Ev (fun k=>tr_Decimal.f k n) (mkB (itoa n)):=by
 unfold numB at h
 have:=dec_loop n n.natAbs n [] rfl (Or.inr rfl) (by simp only [List.length_nil];omega)
 unfold tr_Decimal.f
 rw [List.append_nil] at this
 have e:itoa n=sgnL n (decDigits n.natAbs):=by
  unfold itoa sgnL
  split
  ·rfl
  ·congr 1
   omega
 rw [e]
 exact this
theorem row_loop {l:List Int} (hl:l.length≤600) (hb:∀ x∈l,numB x):∀ (m i:Nat) (acc:List UInt8),i+m=l.length→acc.length+7*m≤100000 →
  Ev (fun k=>tr_row.l0 k (mkB acc) l (i:Int)) (mkB (acc ++ (l.drop i).flatMap wordL))
 |0,i,acc,h,ha=>by
  rw [show i=l.length by omega,List.drop_length]
  refine Ev.step (fun k=>by rw [tr_row.l0]) ?_
  refine Ev.neg (by omega) ?_
  rw [List.flatMap_nil,List.append_nil]
  exact Ev.now _
 |m+1,i,acc,h,ha=>by
  have hi:i<l.length:=by omega
  have hx:=hb l[i] (List.getElem_mem hi)
  have hlen:=itoa_length hx
  have ih:=row_loop hl hb m (i+1) (acc ++ wordL l[i]) (by omega) (by simp only [List.length_append,wordL,List.length_cons];omega)
  rw [List.drop_eq_getElem_cons hi,List.flatMap_cons,← List.append_assoc]
  refine Ev.step (fun k=>by rw [tr_row.l0]) ?_
  rw [rd_get l i hi,wrap_id (show -9223372036854775808≤(i:Int)+1∧(i:Int)+1≤9223372036854775807 by omega),show (⟨#[32]⟩:ByteArray)=mkB [32] from rfl,mkB_append,mkB_size,mkB_size]
  refine Ev.pos (by omega) (Ev.pos (by omega) (Ev.pos (by omega) (Ev.bind (Decimal_ev hx) ?_)))
  rw [mkB_append,mkB_size]
  refine Ev.pos y3s_ ?_
  rw [List.append_assoc]
  exact ih
theorem row_ev {name:List UInt8} (hn:name.length≤10) {l:List Int} (hl:l.length≤600) (hb:∀ x∈l,numB x):Ev (fun k=>tr_row.f k (mkB name) l) (mkB (lineL name l)):=row_loop hl hb l.length 0 name (by omega) (by omega)
theorem term_bounds {b k i:Int} (hb:0≤b∧b≤255) (hk:0≤k∧k≤4000) (hi:0≤i∧i≤1000):0≤b*(k+1)*(i+1)∧b*(k+1)*(i+1)≤1100000000∧0≤b*(k+1)∧b*(k+1)≤1100000:=by
 have h1:0≤b*(k+1):=Int.mul_nonneg hb.1 (by omega)
 have h2:b*(k+1)≤255*(k+1):=Int.mul_le_mul_of_nonneg_right hb.2 (by omega)
 have h3:0≤b*(k+1)*(i+1):=Int.mul_nonneg h1 (by omega)
 have h4:b*(k+1)*(i+1)≤1020255*(i+1):=Int.mul_le_mul_of_nonneg_right (by omega) (by omega)
 omega
theorem term_eq {b k i acc:Int} (hb:0≤b∧b≤255) (hk:0≤k∧k≤4000) (hi:0≤i∧i≤1000) (ha:0≤acc∧acc≤1000000000000000000):wrap64 (acc+wrap64 (wrap64 (wrap64 b*wrap64 (k+1))*wrap64 (i+1)))=acc+b*(k+1)*(i+1):=by
 have h:=term_bounds hb hk hi
 rw [wrap_id (show -9223372036854775808≤b∧b≤9223372036854775807 by omega),wrap_id (show -9223372036854775808≤k+1∧k+1≤9223372036854775807 by omega),wrap_id (show -9223372036854775808≤i+1∧i+1≤9223372036854775807 by omega),
  wrap_id (show -9223372036854775808≤b*(k+1)∧b*(k+1)≤9223372036854775807 by omega),wrap_id (show -9223372036854775808≤b*(k+1)*(i+1)∧b*(k+1)*(i+1)≤9223372036854775807 by omega),wrap_id (by omega)]
theorem chkL_bounds {i:Nat} (hi:i≤1000):∀ (r:List UInt8) (k:Nat),k+r.length≤4000→0≤chkL k i r∧chkL k i r≤1100000000*(r.length:Int)
 |[],k,h=>by simp [chkL]
 |b :: t,k,h=>by
  simp only [List.length_cons] at h ⊢
  have h1:=chkL_bounds hi t (k+1) (by omega)
  have hb:=b.toNat_lt
  have h2:=term_bounds (b:=(b.toNat:Int)) (k:=(k:Int)) (i:=(i:Int)) (by omega) (by omega) (by omega)
  rw [chkL]
  omega
theorem rdB_map {rs:List (List UInt8)} {i:Nat} (h:i<rs.length):rdOf ByteArray.empty (rs.map mkB) (i:Int)=mkB rs[i]:=by
 unfold rdOf
 simp [h]
end Go.Proofs.YtaidphhkhddemaaGreatDoor.PSky
end
section
namespace Go.Proofs.YtaidphhkhddemaaGreatDoor.PSky
open Go.Lib Go.RowKit Go.Proofs.YtaidphhkhddemaaGreatDoorW.PrintWords Go.Proofs.YtaidphhkhddemaaGreatDoorW.PrintLast Go.Proofs.YtaidphhkhddemaaGreatDoorW.PrintMore
theorem text_l2 {x3 x60:List ByteArray} {x61:Int} {i:Nat} (hi:i≤999) {r:List UInt8} (hr:r.length≤4000) {res:ByteArray}:∀ (m k:Nat) (acc:Int),k+m=r.length→0≤acc→acc+1100000000*(m:Int)≤1000000000000000000 →
  Ev (fun K=>sky_text.l1 K x3 (acc+chkL k i (r.drop k)) x60 x61 ((i+1:Nat):Int)) res→Ev (fun K=>sky_text.l2 K x3 acc (i:Int) (mkB r) x60 x61 (i:Int) (r.length:Int) (k:Int)) res
 |0,k,acc,h,h0,ha,hz=>by
  rw [show k=r.length by omega,List.drop_length,chkL,Int.add_zero] at hz
  refine Ev.step (fun k=>by rw [sky_text.l2]) ?_
  rw [wrap_id (show -9223372036854775808≤(i:Int)+1∧(i:Int)+1≤9223372036854775807 by omega)]
  exact Ev.neg (by omega) hz
 |m+1,k,acc,h,h0,ha,hz=>by
  have hk:k<r.length:=by omega
  have hb:=r[k].toNat_lt
  have ht:=term_bounds (b:=(r[k].toNat:Int)) (k:=(k:Int)) (i:=(i:Int)) (by omega) (by omega) (by omega)
  rw [List.drop_eq_getElem_cons hk,chkL,← Int.add_assoc] at hz
  have ih:=text_l2 (x3:=x3) (x60:=x60) (x61:=x61) hi hr m (k+1) (acc+(r[k].toNat:Int)*((k:Int)+1)*((i:Int)+1)) (by omega) (by omega) (by omega) hz
  refine Ev.step (fun k=>by rw [sky_text.l2]) ?_
  rw [mkB_bt r k hk,mkB_size,term_eq (by omega) (by omega) (by omega) (by omega),wrap_id (show -9223372036854775808≤(k:Int)+1∧(k:Int)+1≤9223372036854775807 by omega)]
  exact Ev.pos (by omega) (Ev.pos (by omega) (Ev.pos (by omega) ih))
def nlL (r:List UInt8):List UInt8:=r ++ [10]
theorem join_nl:∀ {rs:List (List UInt8)},rs≠[]→Lib.join rs [10] ++ [10]=rs.flatMap nlL
 |[],h=>absurd rfl h
 |[r],_=>by simp [Lib.join,List.intercalate,nlL]
 |a :: b :: t,_=>by
  have ih:=join_nl (rs:=b :: t) (by simp)
  rw [List.flatMap_cons,← ih]
  simp [Lib.join,List.intercalate,nlL]
theorem nl_length:∀ {rs:List (List UInt8)},(∀ r∈rs,r.length≤4000)→(rs.flatMap nlL).length≤4001*rs.length
 |[],_=>by simp
 |r :: t,h=>by
  have h1:=h r (List.mem_cons_self ..)
  have h2:=nl_length (rs:=t) (fun x hx=>h x (List.mem_cons_of_mem _ hx))
  simp only [List.flatMap_cons,List.length_append,List.length_cons,nlL,List.length_nil]
  omega
theorem join_eq {rs:List (List UInt8)} (h0:rs≠[]) (hl:rs.length≤1000) (h:∀ r∈rs,r.length≤4000):strings_Join.f (rs.map mkB) (mkB [10])=some (mkB (Lib.join rs [10]))∧(Lib.join rs [10]).length≤4001000:=by
 have h1:=congrArg List.length (join_nl h0)
 have h2:=nl_length h
 have hm:(rs.map mkB).map (·.data.toList)=rs:=by
  rw [List.map_map]
  exact List.map_id rs
 rw [List.length_append,List.length_singleton] at h1
 refine ⟨?_,by omega⟩
 unfold strings_Join.f
 rw [hm,mkB_data,List.length_map,if_pos (by omega)]
 rfl
theorem digits_eq {c:Int} (hc:0≤c∧c≤1000000000000000000):wrap64 (Int.tdiv (Int.tmod c 137) 100)=c % 137 / 100∧Int.tmod (wrap64 (Int.tdiv (Int.tmod c 137) 10)) 10=c % 137 / 10 % 10∧Int.tmod (Int.tmod c 137) 10=c % 137 % 10:=by
 rw [Int.tmod_eq_emod_of_nonneg hc.1,Int.tdiv_eq_ediv_of_nonneg (by omega),Int.tdiv_eq_ediv_of_nonneg (by omega),wrap_id (by omega),wrap_id (by omega),Int.tmod_eq_emod_of_nonneg (by omega),Int.tmod_eq_emod_of_nonneg (by omega)]
 exact ⟨rfl,rfl,rfl⟩
def tailL (rs:List (List UInt8)) (c:Int):List UInt8:=rs.flatMap nlL ++ endL (c % 137) ++ [10]
theorem text_fin {rs:List (List UInt8)} (h0:rs≠[]) (hl:rs.length≤1000) (h:∀ r∈rs,r.length≤4000) {c:Int} (hc:0≤c∧c≤1000000000000000000) (xs:List ByteArray):Ev (fun K=>sky_text.l1 K (rs.map mkB) c xs (rs.length:Int) (rs.length:Int)) (mkB (tailL rs c)):=by
 obtain ⟨hj,hjl⟩:=join_eq h0 hl h
 obtain ⟨e1,e2,e3⟩:=digits_eq hc
 have n1:numB (c % 137 / 100):=⟨by omega,by omega⟩
 have n2:numB (c % 137 / 10 % 10):=⟨by omega,by omega⟩
 have n3:numB (c % 137 % 10):=⟨by omega,by omega⟩
 have l1:=itoa_length n1
 have l2:=itoa_length n2
 have l3:=itoa_length n3
 have hfin:tailL rs c=Lib.join rs [10] ++ [10,101,110,100,32] ++ itoa (c % 137 / 100) ++ itoa (c % 137 / 10 % 10) ++ itoa (c % 137 % 10) ++ [10]:=by
  unfold tailL endL nEnd
  rw [← join_nl h0]
  simp
 refine Ev.step (fun k=>by rw [sky_text.l1]) ?_
 rw [show (⟨#[10]⟩:ByteArray)=mkB [10] from rfl,show (⟨#[10,101,110,100,32]⟩:ByteArray)=mkB [10,101,110,100,32] from rfl,e1,e2,e3]
 refine Ev.neg (by omega) (Ev.bind (Ev.is hj) ?_)
 rw [mkB_append,mkB_size]
 refine Ev.pos (by omega) (Ev.bind (Ev.is (itoa_eq n1)) ?_)
 rw [mkB_append,mkB_size,mkB_size]
 refine Ev.pos y3s_ (Ev.bind (Ev.is (itoa_eq n2)) ?_)
 rw [mkB_append,mkB_size,mkB_size]
 refine Ev.pos y3s_ (Ev.bind (Ev.is (itoa_eq n3)) ?_)
 rw [mkB_append,mkB_append,mkB_size,mkB_size,mkB_size]
 refine Ev.pos y3s_ (Ev.pos y3s_ ?_)
 rw [hfin]
 exact Ev.now _
theorem text_l1 {rs:List (List UInt8)} (h0:rs≠[]) (hl:rs.length≤1000) (hr:∀ r∈rs,r.length≤4000):∀ (m i:Nat) (acc:Int),i+m=rs.length→0≤acc→acc+4400000000000*(m:Int)≤100000000000000000 →
  Ev (fun K=>sky_text.l1 K (rs.map mkB) acc (rs.map mkB) (rs.length:Int) (i:Int)) (mkB (tailL rs (acc+chksL i (rs.drop i))))
 |0,i,acc,h,ha,hb=>by
  rw [show i=rs.length by omega,List.drop_length,chksL,Int.add_zero]
  exact text_fin h0 hl hr (by omega) _
 |m+1,i,acc,h,ha,hb=>by
  have hi:i<rs.length:=by omega
  have hri:=hr rs[i] (List.getElem_mem hi)
  have hcb:=chkL_bounds (i:=i) (by omega) rs[i] 0 (by omega)
  have ih:=text_l1 h0 hl hr m (i+1) (acc+chkL 0 i rs[i]) (by omega) (by omega) (by omega)
  rw [List.drop_eq_getElem_cons hi,chksL,← Int.add_assoc]
  refine Ev.step (fun k=>by rw [sky_text.l1]) ?_
  rw [rdB_map hi,mkB_size]
  refine Ev.pos (by omega) (Ev.pos (by omega) (Ev.pos y4l_ ?_))
  exact text_l2 (by omega) hri rs[i].length 0 acc (by omega) ha (by omega) ih
theorem text_l0 {l:List S83} {p q n:Int} (hs:soundL l p q n) {res:ByteArray}:∀ (m i:Nat) (acc:List (List UInt8)),i+m=l.length→acc.length+m≤600 →
  Ev (fun K=>sky_text.l1 K ((acc ++ (l.drop i).map bodyL ++ [lineL nNode [p,q,n]]).map mkB) 0 ((acc ++ (l.drop i).map bodyL ++ [lineL nNode [p,q,n]]).map mkB) ((acc ++ (l.drop i).map bodyL ++ [lineL nNode [p,q,n]]).length:Int) 0) res →
  Ev (fun K=>sky_text.l0 K (acc.map mkB) (l.length:Int) (i:Int) l p q n) res
 |0,i,acc,h,ha,hz=>by
  have hnode:∀ x∈[p,q,n],numB x:=by
   intro x hx
   simp only [List.mem_cons,List.not_mem_nil,or_false] at hx
   rcases hx with rfl|rfl|rfl
   ·exact hs.2.2.1
   ·exact hs.2.2.2.1
   ·exact hs.2.2.2.2
  rw [show i=l.length by omega,List.drop_length,List.map_nil,List.append_nil,List.map_append,List.map_cons,List.map_nil] at hz
  refine Ev.step (fun k=>by rw [sky_text.l0]) ?_
  refine Ev.neg (by omega) (Ev.bind (line_ev (name:=nNode) (by decide) (by simp) hnode) (Ev.pos y4l_ (Ev.bind (Ev.now _) ?_)))
  have hlen:((acc.map mkB ++ [mkB (lineL nNode [p,q,n])]).length:Int)=((acc ++ [lineL nNode [p,q,n]]).length:Int):=by simp
  rw [hlen]
  exact hz
 |m+1,i,acc,h,ha,hz=>by
  have hi:i<l.length:=by omega
  have hb:=hs.2.1 l[i] (List.getElem_mem hi)
  rw [List.drop_eq_getElem_cons hi,List.map_cons] at hz
  have ih:=text_l0 hs (res:=res) m (i+1) (acc ++ [bodyL l[i]]) (by omega) (by simp;omega) (by simpa using hz)
  rw [List.map_append,List.map_cons,List.map_nil] at ih
  refine Ev.step (fun k=>by rw [sky_text.l0]) ?_
  rw [rdT_get l i hi,wrap_id (show -9223372036854775808≤(i:Int)+1∧(i:Int)+1≤9223372036854775807 by have:=hs.1;omega)]
  generalize l[i]=b at hb ih ⊢
  refine Ev.pos (by omega) (Ev.pos (by omega) (Ev.pos (by omega) (Ev.bind (Ev.now _) (Ev.pos ?_ (Ev.bind (line_ev (name:=nBody) (by decide) ?_ hb.2) (Ev.pos y4l_ ih))))))
  ·have:=hb.1
   simp only [List.length_cons,List.length_nil]
   omega
  ·have:=hb.1
   simp only [List.length_append,List.length_cons,List.length_nil]
   omega
theorem line_length {name:List UInt8} (hn:name.length≤10) {l:List Int} (hl:l.length≤510) (hb:∀ x∈l,numB x):(lineL name l).length≤4000:=by
 have:=words_length' hb
 unfold lineL
 rw [List.length_append]
 omega
theorem rows_ok {l:List S83} {p q n:Int} (hs:soundL l p q n):rowsL l p q n≠[]∧(rowsL l p q n).length=l.length+2∧∀ r∈rowsL l p q n,r.length≤4000:=by
 refine ⟨by unfold rowsL;simp,by unfold rowsL;simp,fun r hr=>?_⟩
 unfold rowsL at hr
 simp only [List.cons_append,List.mem_cons,List.mem_append,List.mem_map,List.not_mem_nil,or_false] at hr
 rcases hr with rfl|⟨b,hb,rfl⟩|rfl
 ·refine line_length (by decide) (by simp) (fun x hx=>?_)
  rw [List.mem_singleton.mp hx]
  have:=hs.1
  exact ⟨by omega,by omega⟩
 ·have:=hs.2.1 b hb
  refine line_length (by decide) ?_ this.2
  have:=this.1
  unfold numsB
  simp only [List.length_append,List.length_cons,List.length_nil]
  omega
 ·refine line_length (by decide) (by simp) (fun x hx=>?_)
  simp only [List.mem_cons,List.not_mem_nil,or_false] at hx
  rcases hx with rfl|rfl|rfl
  ·exact hs.2.2.1
  ·exact hs.2.2.2.1
  ·exact hs.2.2.2.2
theorem tableL_eq (l:List S83) (p q n:Int):tableL l p q n=tailL (rowsL l p q n) (chksL 0 (rowsL l p q n)):=rfl
theorem text_ev {l:List S83} {p q n:Int} (hs:soundL l p q n):Ev (fun k=>sky_text.f k l p q n) (mkB (tableL l p q n)):=by
 obtain ⟨r0,r1,r2⟩:=rows_ok hs
 have hs1:=hs.1
 have h1:=text_l1 r0 (by omega) r2 (rowsL l p q n).length 0 0 (by omega) (by decide) (by omega)
 rw [List.drop_zero,Int.zero_add] at h1
 unfold sky_text.f
 refine Ev.bind (line_ev (name:=nSky) (by decide) (by simp) (fun x hx=>?_)) ?_
 ·rw [List.mem_singleton.mp hx]
  exact ⟨by omega,by omega⟩
 ·refine text_l0 hs l.length 0 [lineL nSky [(l.length:Int)]] (by omega) (by simp;omega) ?_
  exact h1
theorem print_l2 {rs:List (List UInt8)} {i:Nat} (hi:i≤999) (hil:i<rs.length) (hr:rs[i].length≤4000) {out:List UInt8} (ho:out.length≤1000000000) {res:ByteArray}:∀ (m k:Nat) (acc:Int),k+m=rs[i].length→0≤acc→acc+1100000000*(m:Int)≤1000000000000000000 →
  Ev (fun K=>tr_Print.l1 K (rs.map mkB) (mkB (out ++ nlL rs[i])) (acc+chkL k i (rs[i].drop k)) ((i+1:Nat):Int)) res→Ev (fun K=>tr_Print.l2 K (rs.map mkB) (mkB out) acc (i:Int) (k:Int)) res
 |0,k,acc,h,h0,ha,hz=>by
  rw [show k=rs[i].length by omega,List.drop_length,chkL,Int.add_zero] at hz
  refine Ev.step (fun k=>by rw [tr_Print.l2]) ?_
  rw [rdB_map hil,mkB_size,wrap_id (show -9223372036854775808≤(i:Int)+1∧(i:Int)+1≤9223372036854775807 by omega),show (⟨#[10]⟩:ByteArray)=mkB [10] from rfl,mkB_append,mkB_append,mkB_size,mkB_size,List.append_assoc]
  exact Ev.pos (by omega) (Ev.pos y4l_ (Ev.neg (by omega) (Ev.pos (by omega) (Ev.pos (by rw [List.length_append];omega) hz))))
 |m+1,k,acc,h,h0,ha,hz=>by
  have hk:k<rs[i].length:=by omega
  have hb:=rs[i][k].toNat_lt
  have ht:=term_bounds (b:=(rs[i][k].toNat:Int)) (k:=(k:Int)) (i:=(i:Int)) (by omega) (by omega) (by omega)
  rw [List.drop_eq_getElem_cons hk,chkL,← Int.add_assoc] at hz
  have ih:=print_l2 hi hil hr ho m (k+1) (acc+(rs[i][k].toNat:Int)*((k:Int)+1)*((i:Int)+1)) (by omega) (by omega) (by omega) hz
  refine Ev.step (fun k=>by rw [tr_Print.l2]) ?_
  rw [rdB_map hil,mkB_bt rs[i] k hk,mkB_size,term_eq (by omega) (by omega) (by omega) (by omega),wrap_id (show -9223372036854775808≤(k:Int)+1∧(k:Int)+1≤9223372036854775807 by omega)]
  exact Ev.pos (by omega) (Ev.pos y4l_ (Ev.pos (by omega) (Ev.pos (by omega) ih)))
theorem print_fin {rs:List (List UInt8)} {out:List UInt8} (ho:out.length≤1000000000) {c:Int} (hc:0≤c∧c≤1000000000000000000):Ev (fun K=>tr_Print.l1 K (rs.map mkB) (mkB out) c (rs.length:Int)) (mkB (out ++ endL (c % 137) ++ [10])):=by
 obtain ⟨e1,e2,e3⟩:=digits_eq hc
 have n1:numB (c % 137 / 100):=⟨by omega,by omega⟩
 have n2:numB (c % 137 / 10 % 10):=⟨by omega,by omega⟩
 have n3:numB (c % 137 % 10):=⟨by omega,by omega⟩
 have l1:=itoa_length n1
 have l2:=itoa_length n2
 have l3:=itoa_length n3
 have hfin:out ++ endL (c % 137) ++ [10]=out ++ [101,110,100,32] ++ itoa (c % 137 / 100) ++ itoa (c % 137 / 10 % 10) ++ itoa (c % 137 % 10) ++ [10]:=by
  unfold endL nEnd
  simp
 refine Ev.step (fun k=>by rw [tr_Print.l1]) ?_
 rw [show (⟨#[10]⟩:ByteArray)=mkB [10] from rfl,show (⟨#[101,110,100,32]⟩:ByteArray)=mkB [101,110,100,32] from rfl,e1,e2,e3]
 refine Ev.neg y4l_ ?_
 rw [mkB_append,mkB_size]
 refine Ev.pos (by omega) (Ev.bind (Decimal_ev n1) ?_)
 rw [mkB_append,mkB_size,mkB_size]
 refine Ev.pos y3s_ (Ev.bind (Decimal_ev n2) ?_)
 rw [mkB_append,mkB_size,mkB_size]
 refine Ev.pos y3s_ (Ev.bind (Decimal_ev n3) ?_)
 rw [mkB_append,mkB_append,mkB_size,mkB_size,mkB_size]
 refine Ev.pos y3s_ (Ev.pos y3s_ ?_)
 rw [hfin]
 exact Ev.now _
theorem print_l1 {rs:List (List UInt8)} (hl:rs.length≤1000) (hr:∀ r∈rs,r.length≤4000):∀ (m i:Nat) (out:List UInt8) (acc:Int),i+m=rs.length→0≤acc→acc+4400000000000*(m:Int)≤100000000000000000→out.length+4001*m≤100000000 →
  Ev (fun K=>tr_Print.l1 K (rs.map mkB) (mkB out) acc (i:Int)) (mkB (out ++ (rs.drop i).flatMap nlL ++ endL ((acc+chksL i (rs.drop i)) % 137) ++ [10]))
 |0,i,out,acc,h,ha,hb,ho=>by
  rw [show i=rs.length by omega,List.drop_length,chksL,Int.add_zero,List.flatMap_nil,List.append_nil]
  exact print_fin (by omega) (by omega)
 |m+1,i,out,acc,h,ha,hb,ho=>by
  have hi:i<rs.length:=by omega
  have hri:=hr rs[i] (List.getElem_mem hi)
  have hcb:=chkL_bounds (i:=i) (by omega) rs[i] 0 (by omega)
  have ih:=print_l1 hl hr m (i+1) (out ++ nlL rs[i]) (acc+chkL 0 i rs[i]) (by omega) (by omega) (by omega) (by simp only [nlL,List.length_append,List.length_cons,List.length_nil];omega)
  rw [List.drop_eq_getElem_cons hi,chksL,← Int.add_assoc,List.flatMap_cons,← List.append_assoc out]
  refine Ev.step (fun k=>by rw [tr_Print.l1]) ?_
  refine Ev.pos y4l_ ?_
  exact print_l2 (by omega) hi hri (by omega) rs[i].length 0 acc (by omega) ha (by omega) ih
theorem print_l0 {l:List S83} {p q n:Int} (hs:soundL l p q n) {res:ByteArray}:∀ (m i:Nat) (acc:List (List UInt8)),i+m=l.length→acc.length+m≤600 →
  Ev (fun K=>tr_Print.l1 K ((acc ++ (l.drop i).map bodyL ++ [lineL nNode [p,q,n]]).map mkB) (mkB []) 0 0) res →
  Ev (fun K=>tr_Print.l0 K (acc.map mkB) (i:Int) l p q n) res
 |0,i,acc,h,ha,hz=>by
  have hnode:∀ x∈[p,q,n],numB x:=by
   intro x hx
   simp only [List.mem_cons,List.not_mem_nil,or_false] at hx
   rcases hx with rfl|rfl|rfl
   ·exact hs.2.2.1
   ·exact hs.2.2.2.1
   ·exact hs.2.2.2.2
  rw [show i=l.length by omega,List.drop_length,List.map_nil,List.append_nil,List.map_append,List.map_cons,List.map_nil] at hz
  refine Ev.step (fun k=>by rw [tr_Print.l0]) ?_
  exact Ev.neg (by omega) (Ev.bind (row_ev (name:=nNode) (by decide) (by simp) hnode) (Ev.pos y4l_ hz))
 |m+1,i,acc,h,ha,hz=>by
  have hi:i<l.length:=by omega
  have hb:=hs.2.1 l[i] (List.getElem_mem hi)
  rw [List.drop_eq_getElem_cons hi,List.map_cons] at hz
  have ih:=print_l0 hs (res:=res) m (i+1) (acc ++ [bodyL l[i]]) (by omega) (by simp;omega) (by simpa using hz)
  rw [List.map_append,List.map_cons,List.map_nil] at ih
  refine Ev.step (fun k=>by rw [tr_Print.l0]) ?_
  rw [rdT_get l i hi,wrap_id (show -9223372036854775808≤(i:Int)+1∧(i:Int)+1≤9223372036854775807 by have:=hs.1;omega)]
  generalize l[i]=b at hb ih ⊢
  refine Ev.pos (by omega) (Ev.pos (by omega) (Ev.bind (Ev.now _) (Ev.pos ?_ (Ev.bind (row_ev (name:=nBody) (by decide) ?_ hb.2) (Ev.pos y4l_ ih)))))
  ·have:=hb.1
   simp only [List.length_cons,List.length_nil]
   omega
  ·have:=hb.1
   simp only [List.length_append,List.length_cons,List.length_nil]
   omega
theorem refPrint_ev {l:List S83} {p q n:Int} (hs:soundL l p q n):Ev (fun k=>tr_Print.f k l p q n) (mkB (tableL l p q n)):=by
 obtain ⟨r0,r1,r2⟩:=rows_ok hs
 have hs1:=hs.1
 have h1:=print_l1 (by omega) r2 (rowsL l p q n).length 0 [] 0 (by omega) (by decide) (by omega) (by simp only [List.length_nil];omega)
 rw [List.drop_zero,Int.zero_add,List.nil_append] at h1
 unfold tr_Print.f
 refine Ev.bind (row_ev (name:=nSky) (by decide) (by simp) (fun x hx=>?_)) ?_
 ·rw [List.mem_singleton.mp hx]
  exact ⟨by omega,by omega⟩
 ·refine print_l0 hs l.length 0 [lineL nSky [(l.length:Int)]] (by omega) (by simp;omega) ?_
  exact h1
end Go.Proofs.YtaidphhkhddemaaGreatDoor.PSky
end
section
namespace Go.Proofs.YtaidphhkhddemaaGreatDoor.PSky
open Go.RowKit Go.Proofs.YtaidphhkhddemaaGreatDoorW.PrintWords Go.Proofs.YtaidphhkhddemaaGreatDoorW.PrintLast Go.Proofs.YtaidphhkhddemaaGreatDoorW.PrintMore
theorem okIn_iff {a b c:Int}:okIn a b c=true ↔ b≤a∧a≤c:=by simp [okIn]
theorem period_of {p q:Int} (h:okPeriod p q=true):1≤p∧p≤10000∧1≤q∧q≤10000∧4*q≤p:=by
 simp only [okPeriod,Bool.and_eq_true,okIn_iff,decide_eq_true_eq] at h
 omega
theorem road_bounds {b:S83} (h:okBody b=true) (i:Int):-600≤rd b.f2 i∧rd b.f2 i≤600:=by
 simp only [okBody,Bool.and_eq_true] at h
 have h4:=h.2.2.2
 unfold rd
 rw [List.getD_eq_getElem?_getD]
 cases hq:b.f2[i.toNat]? with
 |none=>decide
 |some x=>
  have hx:=List.mem_of_getElem? hq
  have:okIn x (-600) 600=true:=by
   cases h5:okIn x (-600) 600 with
   |true=>rfl
   |false=>
    unfold okRoad at h4
    rw [List.any_eq_true.mpr ⟨x,hx,by simp [h5]⟩] at h4
    cases h4
  exact okIn_iff.mp this
theorem body_len {b:S83} (h:okBody b=true):1≤b.f2.length∧b.f2.length≤8:=by
 simp only [okBody,Bool.and_eq_true,okIn_iff] at h
 omega
end Go.Proofs.YtaidphhkhddemaaGreatDoor.PSky
end
section
namespace Go.Proofs.YtaidphhkhddemaaGreatDoor.PSky
open Go.RowKit Go.Proofs.YtaidphhkhddemaaGreatDoorW.PrintWords Go.Proofs.YtaidphhkhddemaaGreatDoorW.PrintLast Go.Proofs.YtaidphhkhddemaaGreatDoorW.PrintMore
theorem ok_at {l:List S83} {p q n:Int} (h:okSky l p q n=true):2≤l.length∧l.length≤4∧okPeriod p q=true∧okPlace n=true∧∀ i:Nat,i<l.length→okBody (rd_T83 l (i:Int))=true:=by
 simp only [okSky,Bool.and_eq_true,okIn_iff] at h
 refine ⟨by omega,by omega,h.2.1,h.2.2.1,fun i hi=>?_⟩
 have h4:=h.2.2.2
 rw [any_all] at h4
 rw [rdT_get l i hi]
 exact List.all_eq_true.mp h4 _ (List.getElem_mem hi)
theorem Ev.all {α β:Type} (g:α→Nat→Option β) (r:α→β):∀ l:List α,(∀ d∈l,Ev (g d) (r d))→∃ K,∀ k,K≤k→∀ d∈l,g d k=Option.some (r d)
 |[],_=>⟨0,fun _ _ d h=>by cases h⟩
 |x :: t,h=>by
  obtain ⟨K1,h1⟩:=h x (List.mem_cons_self ..)
  obtain ⟨K2,h2⟩:=Ev.all g r t (fun d hd=>h d (List.mem_cons_of_mem _ hd))
  refine ⟨max K1 K2,fun k hk d hd=>?_⟩
  rcases List.mem_cons.mp hd with rfl|hd
  ·exact h1 k (by omega)
  ·exact h2 k (by omega) d hd
end Go.Proofs.YtaidphhkhddemaaGreatDoor.PSky
end
section
namespace Go.Proofs.YtaidphhkhddemaaGreatDoor.PSky
open Go.Lib Go.RowKit Go.Proofs.YtaidphhkhddemaaGreatDoorW.PrintWords Go.Proofs.YtaidphhkhddemaaGreatDoorW.PrintLast Go.Proofs.YtaidphhkhddemaaGreatDoorW.PrintMore
theorem lines_cut (t:List UInt8):linesOf (mkB t)=(cutL 10 t).map mkB:=splitB_cutL 10 t
theorem words_cut (t:List UInt8):wordsOf (mkB t)=(cutL 32 t).map mkB:=splitB_cutL 32 t
theorem cut_rows:∀ (rs:List (List UInt8)) (e:List UInt8),(∀ r∈rs,(10:UInt8) ∉ r)→cutL 10 (rs.flatMap nlL ++ e)=rs ++ cutL 10 e
 |[],e,_=>rfl
 |r :: t,e,h=>by
  have ih:=cut_rows t e (fun x hx=>h x (List.mem_cons_of_mem _ hx))
  rw [List.flatMap_cons,nlL,List.append_assoc,List.append_assoc,List.singleton_append,cutL_at 10 r _ (h r (List.mem_cons_self ..)),ih]
  rfl
theorem cut_words:∀ (l:List Int) (name:List UInt8),(32:UInt8) ∉ name→cutL 32 (lineL name l)=name :: l.map itoa
 |[],name,h=>by
  unfold lineL
  rw [List.flatMap_nil,List.append_nil,cutL_end 32 name h]
  rfl
 |x :: t,name,h=>by
  have ih:=cut_words t (itoa x) (itoa_clean x).1
  have e:lineL name (x :: t)=name ++ 32 :: lineL (itoa x) t:=by
   unfold lineL
   rw [List.flatMap_cons,wordL]
   simp
  rw [e,cutL_at 32 name _ h,ih]
  rfl
theorem line_clean:∀ (l:List Int) (name:List UInt8),(10:UInt8) ∉ name→(10:UInt8) ∉ lineL name l
 |[],name,h=>by
  unfold lineL
  rw [List.flatMap_nil,List.append_nil]
  exact h
 |x :: t,name,h=>by
  have ih:=line_clean t (name ++ wordL x) (by
   unfold wordL
   intro hc
   rcases List.mem_append.mp hc with hc|hc
   ·exact h hc
   ·rcases List.mem_cons.mp hc with e|hc
    ·revert e;decide
    ·exact (itoa_clean x).2 hc)
  have e:lineL name (x :: t)=lineL (name ++ wordL x) t:=by
   unfold lineL
   rw [List.flatMap_cons,List.append_assoc]
  rw [e]
  exact ih
theorem nums_itoa:∀ {l:List Int},(∀ x∈l,numB x)→numsOf ((l.map itoa).map mkB)=some l
 |[],_=>rfl
 |x :: t,h=>by
  have ih:=nums_itoa (l:=t) (fun y hy=>h y (List.mem_cons_of_mem _ hy))
  rw [List.map_cons,List.map_cons,numsOf,numberOf_itoa (h x (List.mem_cons_self ..)),Option.bind_some,ih]
  rfl
theorem rdB_0 (x:ByteArray) (t:List ByteArray):rdOf ByteArray.empty (x :: t) 0=x:=rfl
theorem numbersOf_line {name:List UInt8} (hn:(32:UInt8) ∉ name) {l:List Int} (hb:∀ x∈l,numB x) {least:Int} (hl:least≤(l.length:Int)):numbersOf (mkB (lineL name l)) (mkB name) least=some l:=by
 have hw:wordsOf (mkB (lineL name l))=mkB name :: (l.map itoa).map mkB:=by rw [words_cut,cut_words l name hn];rfl
 unfold numbersOf
 rw [hw,rdB_0,if_pos ⟨rfl,by simp;omega⟩]
 exact nums_itoa hb
theorem bodies_of:∀ {l:List S83},(∀ b∈l,soundB b)→bodiesOf ((l.map bodyL).map mkB)=some l
 |[],_=>rfl
 |b :: t,h=>by
  have hb:=h b (List.mem_cons_self ..)
  have ih:=bodies_of (l:=t) (fun y hy=>h y (List.mem_cons_of_mem _ hy))
  have h1:numbersOf (mkB (bodyL b)) wBody 3=some (numsB b):=numbersOf_line (name:=nBody) (by decide) hb.2 (by simp [numsB];omega)
  rw [List.map_cons,List.map_cons,bodiesOf,h1,Option.bind_some,ih]
  rfl
theorem rows_clean (l:List S83) (p q n:Int):∀ r∈rowsL l p q n,(10:UInt8) ∉ r:=by
 intro r hr
 unfold rowsL at hr
 simp only [List.cons_append,List.mem_cons,List.mem_append,List.mem_map,List.not_mem_nil,or_false] at hr
 rcases hr with rfl|⟨b,hb,rfl⟩|rfl
 ·exact line_clean _ _ (by decide)
 ·exact line_clean _ _ (by decide)
 ·exact line_clean _ _ (by decide)
theorem end_clean (c:Int):(10:UInt8) ∉ endL c:=by
 unfold endL
 intro h
 rcases List.mem_append.mp h with h|h
 ·rcases List.mem_append.mp h with h|h
  ·rcases List.mem_append.mp h with h|h
   ·revert h;decide
   ·exact (itoa_clean _).2 h
  ·exact (itoa_clean _).2 h
 ·exact (itoa_clean _).2 h
theorem cut_table (l:List S83) (p q n:Int):cutL 10 (tableL l p q n)=rowsL l p q n ++ [endL (chksL 0 (rowsL l p q n) % 137),[]]:=by
 rw [tableL_eq]
 unfold tailL
 rw [List.append_assoc,cut_rows _ _ (rows_clean l p q n),cutL_at 10 _ [] (end_clean _)]
 rfl
theorem pre_table {l:List S83} {p q n:Int} (hs:soundL l p q n):preOf (mkB (tableL l p q n))=some (l,p,q,n):=by
 obtain ⟨c,hc⟩:∃ c,c=chksL 0 (rowsL l p q n) % 137:=⟨_,rfl⟩
 have hL:linesOf (mkB (tableL l p q n))=mkB (lineL nSky [(l.length:Int)]) :: ((l.map bodyL).map mkB ++ [mkB (lineL nNode [p,q,n]),mkB (endL c),mkB []]):=by
  rw [lines_cut,cut_table,← hc]
  unfold rowsL
  simp
 have hlen:(linesOf (mkB (tableL l p q n))).length=l.length+4:=by rw [hL];simp
 have hs1:=hs.1
 have hh:headOf (mkB (tableL l p q n))=some (l.length:Int):=by
  have h1:numbersOf (mkB (lineL nSky [(l.length:Int)])) wSky 1=some [(l.length:Int)]:=numbersOf_line (name:=nSky) (by decide) (fun x hx=>by rw [List.mem_singleton.mp hx];exact ⟨by omega,by omega⟩) (by simp)
  unfold headOf
  rw [hlen,hL,rdB_0,h1,Option.bind_some,show rd [(l.length:Int)] 0=(l.length:Int) from rfl,wrap_id (by omega),if_pos ⟨by omega,by omega⟩]
 have hb:((linesOf (mkB (tableL l p q n))).take ((l.length:Int)+1).toNat).drop 1=(l.map bodyL).map mkB:=by
  rw [hL,show ((l.length:Int)+1).toNat=l.length+1 by omega,List.take_succ_cons,List.drop_succ_cons,List.drop_zero,List.take_append_of_le_length (by simp)]
  rw [List.take_of_length_le (by simp)]
 have hn:rdOf ByteArray.empty (linesOf (mkB (tableL l p q n))) ((l.length:Int)+1)=mkB (lineL nNode [p,q,n]):=by
  unfold rdOf
  rw [hL,show ((l.length:Int)+1).toNat=l.length+1 by omega]
  simp
 have h3:numbersOf (mkB (lineL nNode [p,q,n])) wNode 3=some [p,q,n]:=numbersOf_line (name:=nNode) (by decide) (fun x hx=>by
  simp only [List.mem_cons,List.not_mem_nil,or_false] at hx
  rcases hx with rfl|rfl|rfl
  ·exact hs.2.2.1
  ·exact hs.2.2.2.1
  ·exact hs.2.2.2.2) (by simp)
 unfold preOf
 rw [hh,Option.bind_some,hb,bodies_of hs.2.1,Option.bind_some,hn,h3]
 rfl
theorem Read_own {l:List S83} {p q n:Int} (hs:soundL l p q n) (ht:(tableL l p q n).length≤400):Ev (fun k=>sky_Read.f k (mkB (tableL l p q n))) (if okSky l p q n=true then (l,p,q,n,0) else ([],0,0,0,2)):=by
 unfold sky_Read.f
 refine Ev.neg (by rw [mkB_size];omega) (Ev.bind (a:=(l,p,q,n)) ?_ (Ev.bind (isSky_ev l p q n) ?_))
 ·unfold sky_parsed.f
  refine Ev.pos (by rw [mkB_size];omega) (Ev.bind (Ev.is (pre_table hs)) (Ev.bind (text_ev hs) (Ev.pos rfl (Ev.now _))))
 ·cases okSky l p q n with
  |true=>exact Ev.pos rfl (Ev.now _)
  |false=>exact Ev.neg (by simp) (Ev.now _)
theorem body_sound {b:S83} (h:okBody b=true):soundB b∧b.f2.length≤8:=by
 have hl:=body_len h
 have hr:=road_bounds h
 simp only [okBody,Bool.and_eq_true,okPlace] at h
 have hp:=period_of h.1
 have hs:=okIn_iff.mp h.2.1
 refine ⟨⟨by omega,fun x hx=>?_⟩,hl.2⟩
 unfold numsB at hx
 rcases List.mem_append.mp hx with hx|hx
 ·simp only [List.mem_cons,List.not_mem_nil,or_false] at hx
  rcases hx with rfl|rfl|rfl <;> exact ⟨by omega,by omega⟩
 ·obtain ⟨i,hi,rfl⟩:=List.getElem_of_mem hx
  have:=hr (i:Int)
  rw [rd_get b.f2 i hi] at this
  exact ⟨by omega,by omega⟩
theorem sky_sound {l:List S83} {p q n:Int} (h:okSky l p q n=true):soundL l p q n∧(tableL l p q n).length≤400:=by
 have hk:=ok_at h
 have hp:=period_of hk.2.2.1
 have hn:=okIn_iff.mp hk.2.2.2.1
 have hb:∀ b∈l,okBody b=true:=fun b hb=>by
  obtain ⟨i,hi,rfl⟩:=List.getElem_of_mem hb
  have:=hk.2.2.2.2 i hi
  rwa [rdT_get l i hi] at this
 have hs:soundL l p q n:=⟨by omega,fun b hb'=>(body_sound (hb b hb')).1,⟨by omega,by omega⟩,⟨by omega,by omega⟩,⟨by omega,by omega⟩⟩
 refine ⟨hs,?_⟩
 have hbl:∀ b∈l,(nlL (bodyL b)).length≤82:=fun b hb'=>by
  have h1:=body_sound (hb b hb')
  have h2:=words_length' h1.1.2
  unfold nlL bodyL lineL nBody
  simp only [List.length_append,List.length_cons,List.length_nil]
  have:(numsB b).length≤11:=by unfold numsB;simp;omega
  omega
 have hm:∀ l':List S83,(∀ b∈l',(nlL (bodyL b)).length≤82)→((l'.map bodyL).flatMap nlL).length≤82*l'.length:=by
  intro l'
  induction l' with
  |nil=>intro _;simp
  |cons b t ih=>
   intro h'
   have h1:=ih (fun y hy=>h' y (List.mem_cons_of_mem _ hy))
   have h2:=h' b (List.mem_cons_self ..)
   simp only [List.map_cons,List.flatMap_cons,List.length_append,List.length_cons]
   omega
 have h1:=hm l hbl
 have h2:=words_length' (l:=[(l.length:Int)]) (fun x hx=>by rw [List.mem_singleton.mp hx];exact ⟨by omega,by omega⟩)
 have h3:=words_length' (l:=[p,q,n]) (fun x hx=>by
  simp only [List.mem_cons,List.not_mem_nil,or_false] at hx
  rcases hx with rfl|rfl|rfl
  ·exact hs.2.2.1
  ·exact hs.2.2.2.1
  ·exact hs.2.2.2.2)
 generalize hc:chksL 0 (rowsL l p q n) % 137=c
 have hc1:0≤c∧c<137:=by omega
 have e1:=itoa_length (n:=c / 100) ⟨by omega,by omega⟩
 have e2:=itoa_length (n:=c / 10 % 10) ⟨by omega,by omega⟩
 have e3:=itoa_length (n:=c % 10) ⟨by omega,by omega⟩
 unfold tableL
 rw [hc]
 unfold rowsL endL nEnd
 rw [show (fun r:List UInt8=>r ++ [10])=nlL from rfl]
 simp only [List.flatMap_append,List.flatMap_cons,List.flatMap_nil,List.length_append,List.length_cons,List.length_nil,nlL,lineL,nSky,nNode] at h1 h2 h3 ⊢
 omega
end Go.Proofs.YtaidphhkhddemaaGreatDoor.PSky
end
section
namespace Go.Proofs.YtaidphhkhddemaaGreatDoor.PSky
open Go.RowKit Go.Proofs.YtaidphhkhddemaaGreatDoorW.PrintWords Go.Proofs.YtaidphhkhddemaaGreatDoorW.PrintLast Go.Proofs.YtaidphhkhddemaaGreatDoorW.PrintMore
theorem known_ev:Ev (fun _=>tl_known.f.bind fun t=>some t) true:=Ev.now true
end Go.Proofs.YtaidphhkhddemaaGreatDoor.PSky
end
section
namespace Go.Proofs.YtaidphhkhddemaaGreatDoor.PSky
open Go.RowKit Go.Proofs.YtaidphhkhddemaaGreatDoorW.PrintWords Go.Proofs.YtaidphhkhddemaaGreatDoorW.PrintLast Go.Proofs.YtaidphhkhddemaaGreatDoorW.PrintMore
attribute [local go_sem] max2_int min2_int max_two min_two max_three min_three max_four min_four
set_option linter.unusedVariables false
set_option linter.unusedSimpArgs false
theorem eqA24 (d:Nat) (w:World) (x0 y0:Int) (x1 y1:Int):
  (Op.equalIn (d+2) 24 (.agg #[.int .i64 x0,.int .i64 x1]) (.agg #[.int .i64 y0,.int .i64 y1])).run Tryz.prog w=.ok (x0 == y0 && (x1 == y1)) w:=by
 refine eqA_of Tryz.underlying24 (by kernel_rfl) ?_
 refine eqf_cons (by rfl) (by go_simp;rfl) (by go_simp;rfl) (by go_simp) ?_
 exact eqf_last (by rfl) (by go_simp;rfl) (by go_simp;rfl) (by go_simp)
theorem eqA26 (d:Nat) (w:World) (x0 y0:Int) (x1 y1:Int) (x2 y2:Int):
  (Op.equalIn (d+3) 26 (.agg #[.int .i64 x0,.int .i64 x1,.int .i64 x2]) (.agg #[.int .i64 y0,.int .i64 y1,.int .i64 y2])).run Tryz.prog w=.ok ((x0 == y0 && (x1 == y1)) && (x2 == y2)) w:=by
 refine eqA_of Tryz.underlying26 (by kernel_rfl) ?_
 refine eqf_cons (by rfl) (by go_simp) (by go_simp) (eqA24 (d+0) w _ _ _ _) ?_
 exact eqf_last (by rfl) (by go_simp;rfl) (by go_simp;rfl) (by go_simp)
attribute [local go_sem high] eqA24 eqA26
mutual
def SameSkies0.j0:Nat→Bool→List (S83)→Int→Int→Int→List (S83)→Int→Int→Int→Option (Bool)
 |0,_,_,_,_,_,_,_,_,_=>none
 |k+1,x21,x220000,x220001,x220002,x220003,x221000,x221001,x221002,x221003=>if x21=true then (some false) else (SameSkies0.l0 k 0 x220000 x220001 x220002 x220003 x221000 x221001 x221002 x221003)
def SameSkies0.l0:Nat→Int→List (S83)→Int→Int→Int→List (S83)→Int→Int→Int→Option (Bool)
 |0,_,_,_,_,_,_,_,_,_=>none
 |k+1,x5,x220000,x220001,x220002,x220003,x221000,x221001,x221002,x221003=>if x5<(x220000.length:Int) then (if 0≤x5 then (if x5<(x221000.length:Int) then (if (!(((rd_T83 x220000 x5).f0.f0) == ((rd_T83 x221000 x5).f0.f0)) || (!(((rd_T83 x220000 x5).f0.f1) == ((rd_T83 x221000 x5).f0.f1))))=true then (some false) else (if ((rd_T83 x220000 x5).f1)=((rd_T83 x221000 x5).f1) then ((tr_Same.f k ((rd_T83 x220000 x5).f2) ((rd_T83 x221000 x5).f2)).bind fun t225=>(if t225=true then (SameSkies0.l0 k (wrap64 (x5+1)) x220000 x220001 x220002 x220003 x221000 x221001 x221002 x221003) else (some false))) else (some false))) else (none)) else (none)) else (some true)
end
def SameSkies0.f (k:Nat) (l0_0:List (S83)) (a0_1:Int) (a0_2:Int) (a0_3:Int) (l1_0:List (S83)) (a1_1:Int) (a1_2:Int) (a1_3:Int):Option (Bool):=if (l0_0.length:Int)=(l1_0.length:Int) then (SameSkies0.j0 k ((!(a0_1 == a1_1) || (!(a0_2 == a1_2))) || (!(a0_3 == a1_3))) l0_0 a0_1 a0_2 a0_3 l1_0 a1_1 a1_2 a1_3) else (SameSkies0.j0 k true l0_0 a0_1 a0_2 a0_3 l1_0 a1_1 a1_2 a1_3)
theorem SameSkies0.mono_l:∀ k,(∀ y0 y1 y2 y3 y4 y5 y6 y7 y8,LeO (SameSkies0.j0 k y0 y1 y2 y3 y4 y5 y6 y7 y8) (SameSkies0.j0 (k+1) y0 y1 y2 y3 y4 y5 y6 y7 y8))∧(∀ y0 y1 y2 y3 y4 y5 y6 y7 y8,LeO (SameSkies0.l0 k y0 y1 y2 y3 y4 y5 y6 y7 y8) (SameSkies0.l0 (k+1) y0 y1 y2 y3 y4 y5 y6 y7 y8))
 |0=>⟨fun _ _ _ _ _ _ _ _ _ r h=>by simp [SameSkies0.j0] at h,fun _ _ _ _ _ _ _ _ _ r h=>by simp [SameSkies0.l0] at h⟩
 |k+1=>by
  obtain ⟨ih0,ih1⟩:=SameSkies0.mono_l k
  refine ⟨?_,?_⟩
  ·intro y0 y1 y2 y3 y4 y5 y6 y7 y8
   unfold SameSkies0.j0
   repeat' first
   |(with_reducible exact ih0 _ _ _ _ _ _ _ _ _)
   |(with_reducible exact ih1 _ _ _ _ _ _ _ _ _)
   |(with_reducible exact tr_Same.mono _ _ _)
   |(with_reducible exact LeO.refl _)
   |(with_reducible exact LeO.none _)
   |(with_reducible refine LeO.ite ?_ ?_)
   |(with_reducible refine LeO.bind ?_ (fun _=>?_))
   |exact ih0 _ _ _ _ _ _ _ _ _
   |exact ih1 _ _ _ _ _ _ _ _ _
   |exact tr_Same.mono _ _ _
   |exact LeO.none _
   |refine LeO.ite ?_ ?_
   |refine LeO.bind ?_ (fun _=>?_)
  ·intro y0 y1 y2 y3 y4 y5 y6 y7 y8
   unfold SameSkies0.l0
   repeat' first
   |(with_reducible exact ih0 _ _ _ _ _ _ _ _ _)
   |(with_reducible exact ih1 _ _ _ _ _ _ _ _ _)
   |(with_reducible exact tr_Same.mono _ _ _)
   |(with_reducible exact LeO.refl _)
   |(with_reducible exact LeO.none _)
   |(with_reducible refine LeO.ite ?_ ?_)
   |(with_reducible refine LeO.bind ?_ (fun _=>?_))
   |exact ih0 _ _ _ _ _ _ _ _ _
   |exact ih1 _ _ _ _ _ _ _ _ _
   |exact tr_Same.mono _ _ _
   |exact LeO.none _
   |refine LeO.ite ?_ ?_
   |refine LeO.bind ?_ (fun _=>?_)
theorem SameSkies0.mono:∀ a0 a1 a2 a3 a4 a5 a6 a7 k,LeO (SameSkies0.f k a0 a1 a2 a3 a4 a5 a6 a7) (SameSkies0.f (k+1) a0 a1 a2 a3 a4 a5 a6 a7):=by
 intro a0 a1 a2 a3 a4 a5 a6 a7 k
 obtain ⟨ih0,ih1⟩:=SameSkies0.mono_l k
 unfold SameSkies0.f
 repeat' first
   |(with_reducible exact ih0 _ _ _ _ _ _ _ _ _)
   |(with_reducible exact ih1 _ _ _ _ _ _ _ _ _)
   |(with_reducible exact tr_Same.mono _ _ _)
   |(with_reducible exact LeO.refl _)
   |(with_reducible exact LeO.none _)
   |(with_reducible refine LeO.ite ?_ ?_)
   |(with_reducible refine LeO.bind ?_ (fun _=>?_))
   |exact ih0 _ _ _ _ _ _ _ _ _
   |exact ih1 _ _ _ _ _ _ _ _ _
   |exact tr_Same.mono _ _ _
   |exact LeO.none _
   |refine LeO.ite ?_ ?_
   |refine LeO.bind ?_ (fun _=>?_)
def SameSkies0.T6:Bool × List (List Nat × List Nat):=(true,[([],[]),([0],[0]),([],[]),([1,2],[1,2]),([3],[3]),([],[]),([5],[5]),([],[]),([6,7],[6,7]),([8],[8]),([],[]),([],[]),([10,4,0,1,2,3,4,10,11],[4,10]),([11,9,12,0,1,2,3,4,5,6,7,8,9,10,11,12],[9,11])])
def SameSkies0.B6:List Nat:=[0,1,0,7,15,0,32,0,224,480,0,0,3103,8191]
theorem SameSkies0.tab6:rtab .any (opsOf Tryz.f44 6)=SameSkies0.T6:=by kernel_rfl
theorem SameSkies0.bits6:waitsOk SameSkies0.T6.2 SameSkies0.B6=true:=by kernel_rfl
set_option maxHeartbeats 8000000 in
set_option maxRecDepth 100000 in
theorem SameSkies0.calls (k:Nat) (A0_0:Option Addr) (c0_0:Nat) (l0_0:List (S83)) (a0_1:Int) (a0_2:Int) (a0_3:Int) (A1_0:Option Addr) (c1_0:Nat) (l1_0:List (S83)) (a1_1:Int) (a1_2:Int) (a1_3:Int) (w:World) (hr0_0:Kd.C k83 w A0_0 l0_0.length l0_0) (hc0_0:l0_0.length≤c0_0) (hr1_0:Kd.C k83 w A1_0 l1_0.length l1_0) (hc1_0:l1_0.length≤c1_0) (h:SameSkies0.f k l0_0 a0_1 a0_2 a0_3 l1_0 a1_1 a1_2 a1_3=some true):
  Calls Tryz.prog 44 #[.agg #[.slice A0_0 l0_0.length c0_0,.int .i64 a0_1,.int .i64 a0_2,.int .i64 a0_3],.agg #[.slice A1_0 l1_0.length c1_0,.int .i64 a1_1,.int .i64 a1_2,.int .i64 a1_3]] w fun e w'=>e=.returned (.bool true)∧Below w.heap.size w w':=by
 have hu28:=Tryz.underlying28
 have hu26:=Tryz.underlying26
 have hu83:=Tryz.underlying83
 have hu24:=Tryz.underlying24
 have HR0_0:=A0_ hr0_0;have HC0_0:=A0_ hc0_0;clear hr0_0 hc0_0;have HR1_0:=A0_ hr1_0;have HC1_0:=A0_ hc1_0;clear hr1_0 hc1_0
 have HB:=A0_ (Below.refl w.heap.size w)
 have H:(if (l0_0.length:Int)=(l1_0.length:Int) then (SameSkies0.j0 k ((!(a0_1 == a1_1) || (!(a0_2 == a1_2))) || (!(a0_3 == a1_3))) l0_0 a0_1 a0_2 a0_3 l1_0 a1_1 a1_2 a1_3) else (SameSkies0.j0 k true l0_0 a0_1 a0_2 a0_3 l1_0 a1_1 a1_2 a1_3))=some true:=h
 clear h;have HC3:=A0_ H;clear H
 go_enter Tryz.func44,Tryz.ntmps44
 go_upto_region 1 with (first|((with_reducible refine gate_dst (N:=2) rfl ?_);refine box_event ?hg (N:=2) ?hd (cs:=#[.slice A0_0 l0_0.length c0_0,.int .i64 a0_1,.int .i64 a0_2,.int .i64 a0_3]) (t:=28) ?hr ?_;(case hd=>rfl);(case hg=>rfl);(case hr=>first|(go_simp;done)|(go_simp;rfl));intro gb219 hg w4 hbox hb;have n0_:=A0_ (below_step y0_ hb);have n1_:=A0_ (hbox);have n2_:=A0_ ((by rw [hg];exact (below_size y0_):w.heap.size≤gb219));have n3_:=A0_ ((by rw [hg];exact (below_size y0_):w.heap.size≤gb219));clear HB;have HB:=n0_;have BK219:=n1_;have GW219:=n2_;have GE219:=n3_;clear n0_ n1_ n2_ n3_;clear hb hbox hg)|((with_reducible refine gate_dst (N:=3) rfl ?_);refine box_event ?hg (N:=3) ?hd (cs:=#[.slice A1_0 l1_0.length c1_0,.int .i64 a1_1,.int .i64 a1_2,.int .i64 a1_3]) (t:=28) ?hr ?_;(case hd=>rfl);(case hg=>rfl);(case hr=>first|(go_simp;done)|(go_simp;rfl));intro gb220 hg w5 hbox hb;have n0_:=A0_ (blk_below (g:=gb219) (o:=.cells #[.slice A0_0 l0_0.length c0_0,.int .i64 a0_1,.int .i64 a0_2,.int .i64 a0_3] 28 (0,0)) (bd_ BK219.out) hb);have n1_:=A0_ (below_step y4f_ hb);have n2_:=A0_ (hbox);have n3_:=A0_ ((by rw [hg];exact (below_size y4f_):w.heap.size≤gb220));have n4_:=A0_ ((by rw [hg];exact (below_size y4f_):w.heap.size≤gb220));have n5_:=A0_ ((by rw [hg];exact Nat.ne_of_lt (blk_lt (g:=gb219) (o:=.cells #[.slice A0_0 l0_0.length c0_0,.int .i64 a0_1,.int .i64 a0_2,.int .i64 a0_3] 28 (0,0)) (bd_ BK219.out)):gb219≠gb220));have n6_:=A0_ ((by rw [hg];exact Nat.ne_of_gt (blk_lt (g:=gb219) (o:=.cells #[.slice A0_0 l0_0.length c0_0,.int .i64 a0_1,.int .i64 a0_2,.int .i64 a0_3] 28 (0,0)) (bd_ BK219.out)):gb220≠gb219));clear BK219;clear HB;have BK219:=n0_;have HB:=n1_;have BK220:=n2_;have GW220:=n3_;have GE220:=n4_;have NB219_220:=n5_;have NB220_219:=n6_;clear n0_ n1_ n2_ n3_ n4_ n5_ n6_;clear hb hbox hg))
 (try simp only [Act.put,List.setIfInBounds_toArray,List.set_cons_zero,List.set_cons_succ])
 go_cut [21] (fun v21 wc=>∃ (kq:Nat) (x21_2:Bool),v21=.bool x21_2∧Aside0 (SameSkies0.j0 kq x21_2 l0_0 a0_1 a0_2 a0_3 l1_0 a1_1 a1_2 a1_3=some true)∧Aside0 (kq≤k)∧Aside0 (wc.heap[gb219]?=some (.cells #[(.slice A0_0 l0_0.length c0_0),.int .i64 a0_1,.int .i64 a0_2,.int .i64 a0_3] 28 (0,0)))∧Aside0 (wc.heap[gb220]?=some (.cells #[(.slice A1_0 l1_0.length c1_0),.int .i64 a1_1,.int .i64 a1_2,.int .i64 a1_3] 28 (0,0)))∧Aside0 (Below w.heap.size w wc))
 case first=>
  have H:=HC3.out
  clear HC3
  by_cases c6:(l0_0.length:Int)=(l1_0.length:Int)
  ·rw [if_pos c6] at H
   have c6b0:((l0_0.length:Int) == (l1_0.length:Int))=true:=beq_iff_eq.mpr c6
   have c6b1:((l0_0.length:Int) != (l1_0.length:Int))=false:=bne_eq_false_iff_eq.mpr c6
   have c6b2:(l0_0.length == l1_0.length)=true:=by first|simpa using c6|(simp at c6 ⊢;omega)
   clear c6
   (first|rw [c6b0]|(simp only [i64_w,i32_w];rw [c6b0])|skip)
   have H':=A0_ H
   clear H
   have hnb7:=NB219_220.out
   have hnc7:=NB220_219.out
   obtain ⟨hcz8_0,hcz8_1,hcz8_2,hcz8_3,hfz8_0,hfz8_1,hfz8_2,hfz8_3⟩:=bq4_ BK219.out;obtain ⟨hcz9_0,hcz9_1,hcz9_2,hcz9_3,hfz9_0,hfz9_1,hfz9_2,hfz9_3⟩:=bq4_ BK220.out;go_wp2
   go_meet
   case rel=>exact ⟨_,(((!(a0_1 == a1_1) || (!(a0_2 == a1_2))) || (!(a0_3 == a1_3)))),y5_,H',⟨by first|omega|exact Nat.le_refl _⟩,⟨by (with_reducible repeat (first|refine blk_drewN ?_ _|refine blk_drew ?_|refine blk_alloc ?_ _));exact BK219.out⟩,⟨by (with_reducible repeat (first|refine blk_drewN ?_ _|refine blk_drew ?_|refine blk_alloc ?_ _));exact BK220.out⟩,⟨y25_⟩⟩
  ·rw [if_neg c6] at H
   have c6b0:((l0_0.length:Int) == (l1_0.length:Int))=false:=beq_eq_false_iff_ne.mpr c6
   have c6b1:((l0_0.length:Int) != (l1_0.length:Int))=true:=bne_iff_ne.mpr c6
   have c6b2:(l0_0.length == l1_0.length)=false:=by first|simpa using c6|(simp at c6 ⊢;omega)
   (first|rw [c6b0]|(simp only [i64_w,i32_w];rw [c6b0])|skip)
   have H':=A0_ H
   clear H
   have hnb10:=NB219_220.out
   have hnc10:=NB220_219.out
   obtain ⟨hcz11_0,hcz11_1,hcz11_2,hcz11_3,hfz11_0,hfz11_1,hfz11_2,hfz11_3⟩:=bq4_ BK219.out;obtain ⟨hcz12_0,hcz12_1,hcz12_2,hcz12_3,hfz12_0,hfz12_1,hfz12_2,hfz12_3⟩:=bq4_ BK220.out;go_wp2
   go_meet
   case rel=>exact ⟨_,(true),y5_,H',⟨by first|omega|exact Nat.le_refl _⟩,⟨by (with_reducible repeat (first|refine blk_drewN ?_ _|refine blk_drew ?_|refine blk_alloc ?_ _));exact BK219.out⟩,⟨by (with_reducible repeat (first|refine blk_drewN ?_ _|refine blk_drew ?_|refine blk_alloc ?_ _));exact BK220.out⟩,⟨y25_⟩⟩
 case rest=>
  clear HC3;(try clear c1);(try clear p2);(try clear c4);(try clear c6);(try clear c6b0);(try clear c6b1);(try clear c6b2);(try clear c7);(try clear c10);(try clear hcz11_0);(try clear hcz11_1);(try clear hcz11_2);(try clear hcz11_3);(try clear hcz12_0);(try clear hcz12_1);(try clear hcz12_2);(try clear hcz12_3);(try clear hcz8_0);(try clear hcz8_1);(try clear hcz8_2);(try clear hcz8_3);(try clear hcz9_0);(try clear hcz9_1);(try clear hcz9_2);(try clear hcz9_3);(try clear hfz11_0);(try clear hfz11_1);(try clear hfz11_2);(try clear hfz11_3);(try clear hfz12_0);(try clear hfz12_1);(try clear hfz12_2);(try clear hfz12_3);(try clear hfz8_0);(try clear hfz8_1);(try clear hfz8_2);(try clear hfz8_3);(try clear hfz9_0);(try clear hfz9_1);(try clear hfz9_2);(try clear hfz9_3)
  obtain ⟨kq,x21_2,rfl,HA,HJ2,BK219,BK220,HB⟩:=hcut
  cases kq with
  |zero=>exact absurd HA.out (by simp [SameSkies0.j0])
  |succ kj2=>
   have H:=HA.out
   clear HA
   simp only [SameSkies0.j0] at H
   by_cases c13:x21_2=true
   ·subst c13
    have H1:(some false)=some true:=by rw [if_pos rfl] at H;exact H
    clear H;have H:=H1;clear H1;exact absurd H (by simp)
   ·replace c13:=Bool.eq_false_iff.mpr c13;subst c13
    have H1:(SameSkies0.l0 kj2 0 l0_0 a0_1 a0_2 a0_3 l1_0 a1_1 a1_2 a1_3)=some true:=by rw [if_neg (show ¬ (false=true) by decide)] at H;exact H
    clear H;have H:=H1;clear H1
    have H':=A0_ H
    clear H;go_wp2
    go_loopg [5] kj2 (fun kq v5 w'=>∃ (x5_2:Int),v5=.int .i64 x5_2∧Aside0 (SameSkies0.l0 kq x5_2 l0_0 a0_1 a0_2 a0_3 l1_0 a1_1 a1_2 a1_3=some true)∧Aside0 (kq≤kj2)∧Aside0 (w'.heap[gb219]?=some (.cells #[(.slice A0_0 l0_0.length c0_0),.int .i64 a0_1,.int .i64 a0_2,.int .i64 a0_3] 28 (0,0)))∧Aside0 (w'.heap[gb220]?=some (.cells #[(.slice A1_0 l1_0.length c1_0),.int .i64 a1_1,.int .i64 a1_2,.int .i64 a1_3] 28 (0,0)))∧Aside0 (Below w.heap.size w w'))
    case atStart=>exact ⟨(0),y5_,H',⟨Nat.le_refl _⟩,⟨by (with_reducible repeat (first|refine blk_drewN ?_ _|refine blk_drew ?_|refine blk_alloc ?_ _));exact BK219.out⟩,⟨by (with_reducible repeat (first|refine blk_drewN ?_ _|refine blk_drew ?_|refine blk_alloc ?_ _));exact BK220.out⟩,⟨y25_⟩⟩
    case round=>
     clear H'
     (try clear c1);(try clear p2);(try clear c4);(try clear c6);(try clear c6b0);(try clear c6b1);(try clear c6b2);(try clear c7);(try clear c10);(try clear c13);(try clear hcz11_0);(try clear hcz11_1);(try clear hcz11_2);(try clear hcz11_3);(try clear hcz12_0);(try clear hcz12_1);(try clear hcz12_2);(try clear hcz12_3);(try clear hcz8_0);(try clear hcz8_1);(try clear hcz8_2);(try clear hcz8_3);(try clear hcz9_0);(try clear hcz9_1);(try clear hcz9_2);(try clear hcz9_3);(try clear hfz11_0);(try clear hfz11_1);(try clear hfz11_2);(try clear hfz11_3);(try clear hfz12_0);(try clear hfz12_1);(try clear hfz12_2);(try clear hfz12_3);(try clear hfz8_0);(try clear hfz8_1);(try clear hfz8_2);(try clear hfz8_3);(try clear hfz9_0);(try clear hfz9_1);(try clear hfz9_2);(try clear hfz9_3);(try clear p2)
     obtain ⟨x5_2,rfl,HA,HK2,BK219,BK220,HB⟩:=hrel
     cases gk with
     |zero=>exact absurd HA.out (by simp [SameSkies0.l0])
     |succ k2=>
      have H:=HA.out
      clear HA
      simp only [SameSkies0.l0] at H
      by_cases c14:x5_2<(l0_0.length:Int)
      ·rw [if_pos c14] at H;have c14b0:decide (x5_2<(l0_0.length:Int))=true:=decide_eq_true c14;clear c14
       by_cases c15:0≤x5_2
       ·rw [if_pos c15] at H;have c15b0:decide (0≤x5_2)=true:=decide_eq_true c15;clear c15
        by_cases c16:x5_2<(l1_0.length:Int)
        ·rw [if_pos c16] at H;have c16b0:decide (x5_2<(l1_0.length:Int))=true:=decide_eq_true c16;clear c16
         by_cases c17:(!(((rd_T83 l0_0 x5_2).f0.f0) == ((rd_T83 l1_0 x5_2).f0.f0)) || (!(((rd_T83 l0_0 x5_2).f0.f1) == ((rd_T83 l1_0 x5_2).f0.f1))))=true
         ·rw [if_pos c17] at H
          have c17b0:(!(((rd_T83 l0_0 x5_2).f0.f0) == ((rd_T83 l1_0 x5_2).f0.f0)) || (!(((rd_T83 l0_0 x5_2).f0.f1) == ((rd_T83 l1_0 x5_2).f0.f1))))=true:=c17
          clear c17;exact absurd H (by simp)
         ·rw [if_neg c17] at H
          have c17b0:(!(((rd_T83 l0_0 x5_2).f0.f0) == ((rd_T83 l1_0 x5_2).f0.f0)) || (!(((rd_T83 l0_0 x5_2).f0.f1) == ((rd_T83 l1_0 x5_2).f0.f1))))=false:=by simpa using c17
          clear c17
          by_cases c39:((rd_T83 l0_0 x5_2).f1)=((rd_T83 l1_0 x5_2).f1)
          ·rw [if_pos c39] at H
           have c39b0:(((rd_T83 l0_0 x5_2).f1) == ((rd_T83 l1_0 x5_2).f1))=true:=beq_iff_eq.mpr c39
           have c39b1:(((rd_T83 l0_0 x5_2).f1) != ((rd_T83 l1_0 x5_2).f1))=false:=bne_eq_false_iff_eq.mpr c39
           clear c39;replace H:=Option.bind_eq_some_iff.mp H;obtain ⟨t225,A400,H⟩:=H
           replace H:(if t225=true then (SameSkies0.l0 k2 (wrap64 (x5_2+1)) l0_0 a0_1 a0_2 a0_3 l1_0 a1_1 a1_2 a1_3) else (some false))=some true:=H
           have A40:=A0_ A400;clear A400
           by_cases c41:t225=true
           ·subst c41
            have H1:(SameSkies0.l0 k2 (wrap64 (x5_2+1)) l0_0 a0_1 a0_2 a0_3 l1_0 a1_1 a1_2 a1_3)=some true:=by rw [if_pos rfl] at H;exact H
            clear H;have H:=H1;clear H1
            have H':=A0_ H
            clear H
            have hnb42:=NB219_220.out
            have hnc42:=NB220_219.out
            obtain ⟨hcz43_0,hcz43_1,hcz43_2,hcz43_3,hfz43_0,hfz43_1,hfz43_2,hfz43_3⟩:=bq4_ BK219.out
            try go_wp2
            have n0_:=A0_ (blk_drew BK219.out);have n1_:=A0_ (blk_drew BK220.out);have n2_:=A0_ (below_drew1 HB.out);clear BK219;clear BK220;clear HB;have BK219:=n0_;have BK220:=n1_;have HB:=n2_;clear n0_ n1_ n2_
            have p221:0≤(x5_2:Int):=of_decide_eq_true y6_
            have q221:x5_2<(l0_0.length:Int):=of_decide_eq_true y6_
            obtain ⟨ad221,A221_3,c221_3,e221,hx221_0,hx221_1,hx221_2,hx221_3,hl221_3,hi221_3⟩:=at_T83 HR0_0.out x5_2 p221 q221
            have hw221_3:=hx221_3;have hw221_2:=hx221_2;have hw221_1:=hx221_1;have hw221_0:=hx221_0
            cases e221
            replace hx221_0:=(HB.out.cell (World.block_lt_of_cell? w _ hx221_0)).trans hx221_0
            replace hx221_1:=(HB.out.cell (World.block_lt_of_cell? w _ hx221_1)).trans hx221_1
            replace hx221_2:=(HB.out.cell (World.block_lt_of_cell? w _ hx221_2)).trans hx221_2
            replace hx221_3:=(HB.out.cell (World.block_lt_of_cell? w _ hx221_3)).trans hx221_3
            have HR221_3:=A0_ hi221_3;have HC221_3:=A0_ hl221_3;clear hi221_3 hl221_3
            replace p221:=eq_true p221
            replace q221:=eq_true q221
            have p222:0≤(x5_2:Int):=of_decide_eq_true y6_
            have q222:x5_2<(l1_0.length:Int):=of_decide_eq_true y6_
            obtain ⟨ad222,A222_3,c222_3,e222,hx222_0,hx222_1,hx222_2,hx222_3,hl222_3,hi222_3⟩:=at_T83 HR1_0.out x5_2 p222 q222
            have hw222_3:=hx222_3;have hw222_2:=hx222_2;have hw222_1:=hx222_1;have hw222_0:=hx222_0
            cases e222
            replace hx222_0:=(HB.out.cell (World.block_lt_of_cell? w _ hx222_0)).trans hx222_0
            replace hx222_1:=(HB.out.cell (World.block_lt_of_cell? w _ hx222_1)).trans hx222_1
            replace hx222_2:=(HB.out.cell (World.block_lt_of_cell? w _ hx222_2)).trans hx222_2
            replace hx222_3:=(HB.out.cell (World.block_lt_of_cell? w _ hx222_3)).trans hx222_3
            have HR222_3:=A0_ hi222_3;have HC222_3:=A0_ hl222_3;clear hi222_3 hl222_3
            replace p222:=eq_true p222
            replace q222:=eq_true q222
            refine start_ (n:=14) (S:=fun w'=>w'.cell? ⟨gb219,0,none⟩=some (.slice (some ad221) l0_0.length c0_0)∧w'.cell? ⟨gb219,1,none⟩=some (.int .i64 a0_1)∧w'.cell? ⟨gb219,2,none⟩=some (.int .i64 a0_2)∧w'.cell? ⟨gb219,3,none⟩=some (.int .i64 a0_3)∧w'.cell? ⟨gb220,0,none⟩=some (.slice (some ad222) l1_0.length c1_0)∧w'.cell? ⟨gb220,1,none⟩=some (.int .i64 a1_1)∧w'.cell? ⟨gb220,2,none⟩=some (.int .i64 a1_2)∧w'.cell? ⟨gb220,3,none⟩=some (.int .i64 a1_3)∧w'.cell? (ad221.add ((x5_2).toNat*4))=some (.int .i64 ((rd_T83 l0_0 x5_2).f0.f0))∧w'.cell? ⟨(ad221.add ((x5_2).toNat*4)).block,(ad221.add ((x5_2).toNat*4)).off+1,none⟩=some (.int .i64 ((rd_T83 l0_0 x5_2).f0.f1))∧w'.cell? ⟨(ad221.add ((x5_2).toNat*4)).block,(ad221.add ((x5_2).toNat*4)).off+2,none⟩=some (.int .i64 ((rd_T83 l0_0 x5_2).f1))∧w'.cell? ⟨(ad221.add ((x5_2).toNat*4)).block,(ad221.add ((x5_2).toNat*4)).off+3,none⟩=some (.slice A221_3 ((rd_T83 l0_0 x5_2).f2).length c221_3)∧w'.cell? (ad222.add ((x5_2).toNat*4))=some (.int .i64 ((rd_T83 l1_0 x5_2).f0.f0))∧w'.cell? ⟨(ad222.add ((x5_2).toNat*4)).block,(ad222.add ((x5_2).toNat*4)).off+1,none⟩=some (.int .i64 ((rd_T83 l1_0 x5_2).f0.f1))∧w'.cell? ⟨(ad222.add ((x5_2).toNat*4)).block,(ad222.add ((x5_2).toNat*4)).off+2,none⟩=some (.int .i64 ((rd_T83 l1_0 x5_2).f1))∧w'.cell? ⟨(ad222.add ((x5_2).toNat*4)).block,(ad222.add ((x5_2).toNat*4)).off+3,none⟩=some (.slice A222_3 ((rd_T83 l1_0 x5_2).f2).length c222_3)) (ds:=[]) #[false,false,false,false,false,false,false,false,false,false,false,false,false,false] (by kernel_rfl) rfl rfl ⟨(blk_cell BK219.out 0).trans rfl,(blk_cell BK219.out 1).trans rfl,(blk_cell BK219.out 2).trans rfl,(blk_cell BK219.out 3).trans rfl,(blk_cell BK220.out 0).trans rfl,(blk_cell BK220.out 1).trans rfl,(blk_cell BK220.out 2).trans rfl,(blk_cell BK220.out 3).trans rfl,((HB.out.cell (World.block_lt_of_cell? w _ hw221_0)).trans hw221_0),((HB.out.cell (World.block_lt_of_cell? w _ hw221_1)).trans hw221_1),((HB.out.cell (World.block_lt_of_cell? w _ hw221_2)).trans hw221_2),((HB.out.cell (World.block_lt_of_cell? w _ hw221_3)).trans hw221_3),((HB.out.cell (World.block_lt_of_cell? w _ hw222_0)).trans hw222_0),((HB.out.cell (World.block_lt_of_cell? w _ hw222_1)).trans hw222_1),((HB.out.cell (World.block_lt_of_cell? w _ hw222_2)).trans hw222_2),((HB.out.cell (World.block_lt_of_cell? w _ hw222_3)).trans hw222_3)⟩ (fun hHeld=>?_);refine with_tabW SameSkies0.tab6 SameSkies0.bits6 (fun HT_ HW_=>?_)
            generalize wr.drew=w44 at BK219 BK220 HB HR221_3 HR222_3 hx221_0 hx221_1 hx221_2 hx221_3 hx222_0 hx222_1 hx222_2 hx222_3 hHeld ⊢
            refine pu_ (i:=0) (N:=some 29) ?_;refine pu_ (i:=2) (N:=some 31) ?_;refine pu_ (i:=5) (N:=some 34) ?_;refine pu_ (i:=7) (N:=some 36) ?_;refine ta_ (i:=1) (N:=some 30) ?_;refine pu_ (i:=3) (N:=some 32) ?_;refine ta_ (i:=4) (N:=some 33) ?_;refine ta_ (i:=6) (N:=some 35) ?_;refine pu_ (i:=8) (N:=some 37) ?_;refine ta_ (i:=9) (N:=some 38) ?_
            refine join_ (σ:=Nat × Nat) 2 #[true,true,true,true,true,true,true,true,true,true,true,true,false,false] (fun s_=>[(6,.pointer (some ⟨s_.1,0,none⟩)),(7,.pointer (some ⟨s_.2,0,none⟩))]) (fun s_ w'=>(w'.cell? ⟨gb219,0,none⟩=some (.slice (some ad221) l0_0.length c0_0)∧w'.cell? ⟨gb219,1,none⟩=some (.int .i64 a0_1)∧w'.cell? ⟨gb219,2,none⟩=some (.int .i64 a0_2)∧w'.cell? ⟨gb219,3,none⟩=some (.int .i64 a0_3)∧w'.cell? ⟨gb220,0,none⟩=some (.slice (some ad222) l1_0.length c1_0)∧w'.cell? ⟨gb220,1,none⟩=some (.int .i64 a1_1)∧w'.cell? ⟨gb220,2,none⟩=some (.int .i64 a1_2)∧w'.cell? ⟨gb220,3,none⟩=some (.int .i64 a1_3)∧w'.cell? (ad221.add ((x5_2).toNat*4))=some (.int .i64 ((rd_T83 l0_0 x5_2).f0.f0))∧w'.cell? ⟨(ad221.add ((x5_2).toNat*4)).block,(ad221.add ((x5_2).toNat*4)).off+1,none⟩=some (.int .i64 ((rd_T83 l0_0 x5_2).f0.f1))∧w'.cell? ⟨(ad221.add ((x5_2).toNat*4)).block,(ad221.add ((x5_2).toNat*4)).off+2,none⟩=some (.int .i64 ((rd_T83 l0_0 x5_2).f1))∧w'.cell? ⟨(ad221.add ((x5_2).toNat*4)).block,(ad221.add ((x5_2).toNat*4)).off+3,none⟩=some (.slice A221_3 ((rd_T83 l0_0 x5_2).f2).length c221_3)∧w'.cell? (ad222.add ((x5_2).toNat*4))=some (.int .i64 ((rd_T83 l1_0 x5_2).f0.f0))∧w'.cell? ⟨(ad222.add ((x5_2).toNat*4)).block,(ad222.add ((x5_2).toNat*4)).off+1,none⟩=some (.int .i64 ((rd_T83 l1_0 x5_2).f0.f1))∧w'.cell? ⟨(ad222.add ((x5_2).toNat*4)).block,(ad222.add ((x5_2).toNat*4)).off+2,none⟩=some (.int .i64 ((rd_T83 l1_0 x5_2).f1))∧w'.cell? ⟨(ad222.add ((x5_2).toNat*4)).block,(ad222.add ((x5_2).toNat*4)).off+3,none⟩=some (.slice A222_3 ((rd_T83 l1_0 x5_2).f2).length c222_3))∧(w'.heap[gb219]?=some (.cells #[.slice (some ad221) l0_0.length c0_0,.int .i64 a0_1,.int .i64 a0_2,.int .i64 a0_3] 28 (0,0)))∧(w'.heap[gb220]?=some (.cells #[.slice (some ad222) l1_0.length c1_0,.int .i64 a1_1,.int .i64 a1_2,.int .i64 a1_3] 28 (0,0)))∧(w'.heap[s_.1]?=some (.cells #[.int .i64 0,.int .i64 0,.int .i64 0,.slice none 0 0] 83 (0,0)))∧(w'.heap[s_.2]?=some (.cells #[.int .i64 0,.int .i64 0,.int .i64 0,.slice none 0 0] 83 (0,0)))∧(w.heap.size≤s_.1)∧(w.heap.size≤s_.1)∧(gb219≠s_.1)∧(s_.1≠gb219)∧(gb220≠s_.1)∧(s_.1≠gb220)∧(s_.2≠s_.1)∧(s_.1≠s_.2)∧(w.heap.size≤s_.2)∧(w.heap.size≤s_.2)∧(gb219≠s_.2)∧(s_.2≠gb219)∧(gb220≠s_.2)∧(s_.2≠gb220)∧(Below w.heap.size w w')) ?_ ?_
            rotate_left
            ·intro hCont
             refine two_ (i:=10) (j:=11) (Ni:=some 6) (Nj:=some 7) #[true,true,true,true,true,true,true,true,true,true,true,false,false,false] #[true,true,true,true,true,true,true,true,true,true,false,true,false,false] rfl rfl rfl rfl (two_of HT_.out (by kernel_rfl)) (by decide) (by decide) (fun K hK=>?_) (fun K hK=>?_)
             ·skip
              refine box_step ?hg (N:=6) ?hd (cs:=#[.int .i64 0,.int .i64 0,.int .i64 0,.slice none 0 0]) (t:=83) ?hr ?_;(case hd=>rfl);(case hg=>rfl);(case hr=>first|(go_simp;done)|(go_simp;rfl))
              intro gb223 hg w45 hbox hb
              have n0_:=A0_ (blk_below (g:=gb219) (o:=.cells #[.slice (some ad221) l0_0.length c0_0,.int .i64 a0_1,.int .i64 a0_2,.int .i64 a0_3] 28 (0,0)) (bd_ BK219.out) hb);have n1_:=A0_ (blk_below (g:=gb220) (o:=.cells #[.slice (some ad222) l1_0.length c1_0,.int .i64 a1_1,.int .i64 a1_2,.int .i64 a1_3] 28 (0,0)) (bd_ BK220.out) hb);have n2_:=A0_ (below_step y25_ hb);have n3_:=A0_ (hbox)
              have n4_:=A0_ ((by rw [hg];exact (below_size y25_):w.heap.size≤gb223))
              have n5_:=A0_ ((by rw [hg];exact (below_size y25_):w.heap.size≤gb223))
              have n6_:=A0_ ((by rw [hg];exact Nat.ne_of_lt (blk_lt (g:=gb219) (o:=.cells #[.slice (some ad221) l0_0.length c0_0,.int .i64 a0_1,.int .i64 a0_2,.int .i64 a0_3] 28 (0,0)) (bd_ BK219.out)):gb219≠gb223))
              have n7_:=A0_ ((by rw [hg];exact Nat.ne_of_gt (blk_lt (g:=gb219) (o:=.cells #[.slice (some ad221) l0_0.length c0_0,.int .i64 a0_1,.int .i64 a0_2,.int .i64 a0_3] 28 (0,0)) (bd_ BK219.out)):gb223≠gb219))
              have n8_:=A0_ ((by rw [hg];exact Nat.ne_of_lt (blk_lt (g:=gb220) (o:=.cells #[.slice (some ad222) l1_0.length c1_0,.int .i64 a1_1,.int .i64 a1_2,.int .i64 a1_3] 28 (0,0)) (bd_ BK220.out)):gb220≠gb223))
              have n9_:=A0_ ((by rw [hg];exact Nat.ne_of_gt (blk_lt (g:=gb220) (o:=.cells #[.slice (some ad222) l1_0.length c1_0,.int .i64 a1_1,.int .i64 a1_2,.int .i64 a1_3] 28 (0,0)) (bd_ BK220.out)):gb223≠gb220))
              clear BK219;clear BK220;clear HB;have BK219:=n0_;have BK220:=n1_;have HB:=n2_;have BK223:=n3_;have GW223:=n4_;have GE223:=n5_;have NB219_223:=n6_;have NB223_219:=n7_;have NB220_223:=n8_;have NB223_220:=n9_;clear n0_ n1_ n2_ n3_ n4_ n5_ n6_ n7_ n8_ n9_;clear hb hbox hg
              refine hK.out _ _ ⟨(blk_cell BK219.out 0).trans rfl,(blk_cell BK219.out 1).trans rfl,(blk_cell BK219.out 2).trans rfl,(blk_cell BK219.out 3).trans rfl,(blk_cell BK220.out 0).trans rfl,(blk_cell BK220.out 1).trans rfl,(blk_cell BK220.out 2).trans rfl,(blk_cell BK220.out 3).trans rfl,((HB.out.cell (World.block_lt_of_cell? w _ hw221_0)).trans hw221_0),((HB.out.cell (World.block_lt_of_cell? w _ hw221_1)).trans hw221_1),((HB.out.cell (World.block_lt_of_cell? w _ hw221_2)).trans hw221_2),((HB.out.cell (World.block_lt_of_cell? w _ hw221_3)).trans hw221_3),((HB.out.cell (World.block_lt_of_cell? w _ hw222_0)).trans hw222_0),((HB.out.cell (World.block_lt_of_cell? w _ hw222_1)).trans hw222_1),((HB.out.cell (World.block_lt_of_cell? w _ hw222_2)).trans hw222_2),((HB.out.cell (World.block_lt_of_cell? w _ hw222_3)).trans hw222_3)⟩ (fun hHeld=>?_)
              clear hK K
              refine norm_ (a':=?_) ?_ ?_
              rotate_left
              ·show Act.put _ (some 6) _=_
               simp only [Act.put,List.setIfInBounds_toArray,List.set_cons_zero,List.set_cons_succ,i64_w,i32_w]
               rfl
              refine one_ (i:=11) (N:=some 7) #[true,true,true,true,true,true,true,true,true,true,true,true,false,false] rfl rfl (one_of HT_.out (by kernel_rfl)) (by decide) (fun K hK=>?_)
              refine box_step ?hg (N:=7) ?hd (cs:=#[.int .i64 0,.int .i64 0,.int .i64 0,.slice none 0 0]) (t:=83) ?hr ?_;(case hd=>rfl);(case hg=>rfl);(case hr=>first|(go_simp;done)|(go_simp;rfl))
              intro gb224 hg w46 hbox hb
              have n0_:=A0_ (blk_below (g:=gb219) (o:=.cells #[.slice (some ad221) l0_0.length c0_0,.int .i64 a0_1,.int .i64 a0_2,.int .i64 a0_3] 28 (0,0)) (bd_ BK219.out) hb);have n1_:=A0_ (blk_below (g:=gb220) (o:=.cells #[.slice (some ad222) l1_0.length c1_0,.int .i64 a1_1,.int .i64 a1_2,.int .i64 a1_3] 28 (0,0)) (bd_ BK220.out) hb);have n2_:=A0_ (blk_below (g:=gb223) (o:=.cells #[.int .i64 0,.int .i64 0,.int .i64 0,.slice none 0 0] 83 (0,0)) (bd_ BK223.out) hb);have n3_:=A0_ (below_step y40_ hb);have n4_:=A0_ (hbox)
              have n5_:=A0_ ((by rw [hg];exact (below_size y40_):w.heap.size≤gb224))
              have n6_:=A0_ ((by rw [hg];exact (below_size y40_):w.heap.size≤gb224))
              have n7_:=A0_ ((by rw [hg];exact Nat.ne_of_lt (blk_lt (g:=gb219) (o:=.cells #[.slice (some ad221) l0_0.length c0_0,.int .i64 a0_1,.int .i64 a0_2,.int .i64 a0_3] 28 (0,0)) (bd_ BK219.out)):gb219≠gb224))
              have n8_:=A0_ ((by rw [hg];exact Nat.ne_of_gt (blk_lt (g:=gb219) (o:=.cells #[.slice (some ad221) l0_0.length c0_0,.int .i64 a0_1,.int .i64 a0_2,.int .i64 a0_3] 28 (0,0)) (bd_ BK219.out)):gb224≠gb219))
              have n9_:=A0_ ((by rw [hg];exact Nat.ne_of_lt (blk_lt (g:=gb220) (o:=.cells #[.slice (some ad222) l1_0.length c1_0,.int .i64 a1_1,.int .i64 a1_2,.int .i64 a1_3] 28 (0,0)) (bd_ BK220.out)):gb220≠gb224))
              have n10_:=A0_ ((by rw [hg];exact Nat.ne_of_gt (blk_lt (g:=gb220) (o:=.cells #[.slice (some ad222) l1_0.length c1_0,.int .i64 a1_1,.int .i64 a1_2,.int .i64 a1_3] 28 (0,0)) (bd_ BK220.out)):gb224≠gb220))
              have n11_:=A0_ ((by rw [hg];exact Nat.ne_of_lt (blk_lt (g:=gb223) (o:=.cells #[.int .i64 0,.int .i64 0,.int .i64 0,.slice none 0 0] 83 (0,0)) (bd_ BK223.out)):gb223≠gb224))
              have n12_:=A0_ ((by rw [hg];exact Nat.ne_of_gt (blk_lt (g:=gb223) (o:=.cells #[.int .i64 0,.int .i64 0,.int .i64 0,.slice none 0 0] 83 (0,0)) (bd_ BK223.out)):gb224≠gb223))
              clear BK219;clear BK220;clear BK223;clear HB;have BK219:=n0_;have BK220:=n1_;have BK223:=n2_;have HB:=n3_;have BK224:=n4_;have GW224:=n5_;have GE224:=n6_;have NB219_224:=n7_;have NB224_219:=n8_;have NB220_224:=n9_;have NB224_220:=n10_;have NB223_224:=n11_;have NB224_223:=n12_;clear n0_ n1_ n2_ n3_ n4_ n5_ n6_ n7_ n8_ n9_ n10_ n11_ n12_;clear hb hbox hg
              refine hK.out _ _ ⟨(blk_cell BK219.out 0).trans rfl,(blk_cell BK219.out 1).trans rfl,(blk_cell BK219.out 2).trans rfl,(blk_cell BK219.out 3).trans rfl,(blk_cell BK220.out 0).trans rfl,(blk_cell BK220.out 1).trans rfl,(blk_cell BK220.out 2).trans rfl,(blk_cell BK220.out 3).trans rfl,((HB.out.cell (World.block_lt_of_cell? w _ hw221_0)).trans hw221_0),((HB.out.cell (World.block_lt_of_cell? w _ hw221_1)).trans hw221_1),((HB.out.cell (World.block_lt_of_cell? w _ hw221_2)).trans hw221_2),((HB.out.cell (World.block_lt_of_cell? w _ hw221_3)).trans hw221_3),((HB.out.cell (World.block_lt_of_cell? w _ hw222_0)).trans hw222_0),((HB.out.cell (World.block_lt_of_cell? w _ hw222_1)).trans hw222_1),((HB.out.cell (World.block_lt_of_cell? w _ hw222_2)).trans hw222_2),((HB.out.cell (World.block_lt_of_cell? w _ hw222_3)).trans hw222_3)⟩ (fun hHeld=>?_)
              clear hK K
              refine norm_ (a':=?_) ?_ ?_
              rotate_left
              ·show Act.put _ (some 7) _=_
               simp only [Act.put,List.setIfInBounds_toArray,List.set_cons_zero,List.set_cons_succ,i64_w,i32_w]
               rfl
              exact norm_ y3w_ (hCont (gb223,gb224) _ ⟨hHeld,(bd_ BK219.out),(bd_ BK220.out),(bd_ BK223.out),(bd_ BK224.out),GW223.out,GE223.out,NB219_223.out,NB223_219.out,NB220_223.out,NB223_220.out,NB224_223.out,NB223_224.out,GW224.out,GE224.out,NB219_224.out,NB224_219.out,NB220_224.out,NB224_220.out,y30_⟩)
             ·skip
              refine box_step ?hg (N:=7) ?hd (cs:=#[.int .i64 0,.int .i64 0,.int .i64 0,.slice none 0 0]) (t:=83) ?hr ?_;(case hd=>rfl);(case hg=>rfl);(case hr=>first|(go_simp;done)|(go_simp;rfl))
              intro gb224 hg w45 hbox hb
              have n0_:=A0_ (blk_below (g:=gb219) (o:=.cells #[.slice (some ad221) l0_0.length c0_0,.int .i64 a0_1,.int .i64 a0_2,.int .i64 a0_3] 28 (0,0)) (bd_ BK219.out) hb);have n1_:=A0_ (blk_below (g:=gb220) (o:=.cells #[.slice (some ad222) l1_0.length c1_0,.int .i64 a1_1,.int .i64 a1_2,.int .i64 a1_3] 28 (0,0)) (bd_ BK220.out) hb);have n2_:=A0_ (below_step y25_ hb);have n3_:=A0_ (hbox)
              have n4_:=A0_ ((by rw [hg];exact (below_size y25_):w.heap.size≤gb224))
              have n5_:=A0_ ((by rw [hg];exact (below_size y25_):w.heap.size≤gb224))
              have n6_:=A0_ ((by rw [hg];exact Nat.ne_of_lt (blk_lt (g:=gb219) (o:=.cells #[.slice (some ad221) l0_0.length c0_0,.int .i64 a0_1,.int .i64 a0_2,.int .i64 a0_3] 28 (0,0)) (bd_ BK219.out)):gb219≠gb224))
              have n7_:=A0_ ((by rw [hg];exact Nat.ne_of_gt (blk_lt (g:=gb219) (o:=.cells #[.slice (some ad221) l0_0.length c0_0,.int .i64 a0_1,.int .i64 a0_2,.int .i64 a0_3] 28 (0,0)) (bd_ BK219.out)):gb224≠gb219))
              have n8_:=A0_ ((by rw [hg];exact Nat.ne_of_lt (blk_lt (g:=gb220) (o:=.cells #[.slice (some ad222) l1_0.length c1_0,.int .i64 a1_1,.int .i64 a1_2,.int .i64 a1_3] 28 (0,0)) (bd_ BK220.out)):gb220≠gb224))
              have n9_:=A0_ ((by rw [hg];exact Nat.ne_of_gt (blk_lt (g:=gb220) (o:=.cells #[.slice (some ad222) l1_0.length c1_0,.int .i64 a1_1,.int .i64 a1_2,.int .i64 a1_3] 28 (0,0)) (bd_ BK220.out)):gb224≠gb220))
              clear BK219;clear BK220;clear HB;have BK219:=n0_;have BK220:=n1_;have HB:=n2_;have BK224:=n3_;have GW224:=n4_;have GE224:=n5_;have NB219_224:=n6_;have NB224_219:=n7_;have NB220_224:=n8_;have NB224_220:=n9_;clear n0_ n1_ n2_ n3_ n4_ n5_ n6_ n7_ n8_ n9_;clear hb hbox hg
              refine hK.out _ _ ⟨(blk_cell BK219.out 0).trans rfl,(blk_cell BK219.out 1).trans rfl,(blk_cell BK219.out 2).trans rfl,(blk_cell BK219.out 3).trans rfl,(blk_cell BK220.out 0).trans rfl,(blk_cell BK220.out 1).trans rfl,(blk_cell BK220.out 2).trans rfl,(blk_cell BK220.out 3).trans rfl,((HB.out.cell (World.block_lt_of_cell? w _ hw221_0)).trans hw221_0),((HB.out.cell (World.block_lt_of_cell? w _ hw221_1)).trans hw221_1),((HB.out.cell (World.block_lt_of_cell? w _ hw221_2)).trans hw221_2),((HB.out.cell (World.block_lt_of_cell? w _ hw221_3)).trans hw221_3),((HB.out.cell (World.block_lt_of_cell? w _ hw222_0)).trans hw222_0),((HB.out.cell (World.block_lt_of_cell? w _ hw222_1)).trans hw222_1),((HB.out.cell (World.block_lt_of_cell? w _ hw222_2)).trans hw222_2),((HB.out.cell (World.block_lt_of_cell? w _ hw222_3)).trans hw222_3)⟩ (fun hHeld=>?_)
              clear hK K
              refine norm_ (a':=?_) ?_ ?_
              rotate_left
              ·show Act.put _ (some 7) _=_
               simp only [Act.put,List.setIfInBounds_toArray,List.set_cons_zero,List.set_cons_succ,i64_w,i32_w]
               rfl
              refine one_ (i:=10) (N:=some 6) #[true,true,true,true,true,true,true,true,true,true,true,true,false,false] rfl rfl (one_of HT_.out (by kernel_rfl)) (by decide) (fun K hK=>?_)
              refine box_step ?hg (N:=6) ?hd (cs:=#[.int .i64 0,.int .i64 0,.int .i64 0,.slice none 0 0]) (t:=83) ?hr ?_;(case hd=>rfl);(case hg=>rfl);(case hr=>first|(go_simp;done)|(go_simp;rfl))
              intro gb223 hg w46 hbox hb
              have n0_:=A0_ (blk_below (g:=gb219) (o:=.cells #[.slice (some ad221) l0_0.length c0_0,.int .i64 a0_1,.int .i64 a0_2,.int .i64 a0_3] 28 (0,0)) (bd_ BK219.out) hb);have n1_:=A0_ (blk_below (g:=gb220) (o:=.cells #[.slice (some ad222) l1_0.length c1_0,.int .i64 a1_1,.int .i64 a1_2,.int .i64 a1_3] 28 (0,0)) (bd_ BK220.out) hb);have n2_:=A0_ (blk_below (g:=gb224) (o:=.cells #[.int .i64 0,.int .i64 0,.int .i64 0,.slice none 0 0] 83 (0,0)) (bd_ BK224.out) hb);have n3_:=A0_ (below_step y3z_ hb);have n4_:=A0_ (hbox)
              have n5_:=A0_ ((by rw [hg];exact (below_size y3z_):w.heap.size≤gb223))
              have n6_:=A0_ ((by rw [hg];exact (below_size y3z_):w.heap.size≤gb223))
              have n7_:=A0_ ((by rw [hg];exact Nat.ne_of_lt (blk_lt (g:=gb219) (o:=.cells #[.slice (some ad221) l0_0.length c0_0,.int .i64 a0_1,.int .i64 a0_2,.int .i64 a0_3] 28 (0,0)) (bd_ BK219.out)):gb219≠gb223))
              have n8_:=A0_ ((by rw [hg];exact Nat.ne_of_gt (blk_lt (g:=gb219) (o:=.cells #[.slice (some ad221) l0_0.length c0_0,.int .i64 a0_1,.int .i64 a0_2,.int .i64 a0_3] 28 (0,0)) (bd_ BK219.out)):gb223≠gb219))
              have n9_:=A0_ ((by rw [hg];exact Nat.ne_of_lt (blk_lt (g:=gb220) (o:=.cells #[.slice (some ad222) l1_0.length c1_0,.int .i64 a1_1,.int .i64 a1_2,.int .i64 a1_3] 28 (0,0)) (bd_ BK220.out)):gb220≠gb223))
              have n10_:=A0_ ((by rw [hg];exact Nat.ne_of_gt (blk_lt (g:=gb220) (o:=.cells #[.slice (some ad222) l1_0.length c1_0,.int .i64 a1_1,.int .i64 a1_2,.int .i64 a1_3] 28 (0,0)) (bd_ BK220.out)):gb223≠gb220))
              have n11_:=A0_ ((by rw [hg];exact Nat.ne_of_lt (blk_lt (g:=gb224) (o:=.cells #[.int .i64 0,.int .i64 0,.int .i64 0,.slice none 0 0] 83 (0,0)) (bd_ BK224.out)):gb224≠gb223))
              have n12_:=A0_ ((by rw [hg];exact Nat.ne_of_gt (blk_lt (g:=gb224) (o:=.cells #[.int .i64 0,.int .i64 0,.int .i64 0,.slice none 0 0] 83 (0,0)) (bd_ BK224.out)):gb223≠gb224))
              clear BK219;clear BK220;clear BK224;clear HB;have BK219:=n0_;have BK220:=n1_;have BK224:=n2_;have HB:=n3_;have BK223:=n4_;have GW223:=n5_;have GE223:=n6_;have NB219_223:=n7_;have NB223_219:=n8_;have NB220_223:=n9_;have NB223_220:=n10_;have NB224_223:=n11_;have NB223_224:=n12_;clear n0_ n1_ n2_ n3_ n4_ n5_ n6_ n7_ n8_ n9_ n10_ n11_ n12_;clear hb hbox hg
              refine hK.out _ _ ⟨(blk_cell BK219.out 0).trans rfl,(blk_cell BK219.out 1).trans rfl,(blk_cell BK219.out 2).trans rfl,(blk_cell BK219.out 3).trans rfl,(blk_cell BK220.out 0).trans rfl,(blk_cell BK220.out 1).trans rfl,(blk_cell BK220.out 2).trans rfl,(blk_cell BK220.out 3).trans rfl,((HB.out.cell (World.block_lt_of_cell? w _ hw221_0)).trans hw221_0),((HB.out.cell (World.block_lt_of_cell? w _ hw221_1)).trans hw221_1),((HB.out.cell (World.block_lt_of_cell? w _ hw221_2)).trans hw221_2),((HB.out.cell (World.block_lt_of_cell? w _ hw221_3)).trans hw221_3),((HB.out.cell (World.block_lt_of_cell? w _ hw222_0)).trans hw222_0),((HB.out.cell (World.block_lt_of_cell? w _ hw222_1)).trans hw222_1),((HB.out.cell (World.block_lt_of_cell? w _ hw222_2)).trans hw222_2),((HB.out.cell (World.block_lt_of_cell? w _ hw222_3)).trans hw222_3)⟩ (fun hHeld=>?_)
              clear hK K
              refine norm_ (a':=?_) ?_ ?_
              rotate_left
              ·show Act.put _ (some 6) _=_
               simp only [Act.put,List.setIfInBounds_toArray,List.set_cons_zero,List.set_cons_succ,i64_w,i32_w]
               rfl
              exact norm_ y3w_ (hCont (gb223,gb224) _ ⟨hHeld,(bd_ BK219.out),(bd_ BK220.out),(bd_ BK223.out),(bd_ BK224.out),GW223.out,GE223.out,NB219_223.out,NB223_219.out,NB220_223.out,NB223_220.out,NB224_223.out,NB223_224.out,GW224.out,GE224.out,NB219_224.out,NB224_219.out,NB220_224.out,NB224_220.out,(by repeat (first|(with_reducible first|exact HB.out|apply below_alloc|apply pw_below_drewN|apply below_drew1|refine below_set ?_ GE219.out|refine below_set ?_ GE220.out|refine below_set ?_ GE224.out|refine below_set ?_ GE223.out)|exact HB.out))⟩)
            rintro ⟨gb223,gb224⟩ w47 ⟨hS_,h0_,h1_,h2_,h3_,h4_,h5_,h6_,h7_,h8_,h9_,h10_,h11_,h12_,h13_,h14_,h15_,h16_,h17_,h18_⟩
            have n0_:Aside0 (w47.heap[gb219]?=some (.cells #[.slice (some ad221) l0_0.length c0_0,.int .i64 a0_1,.int .i64 a0_2,.int .i64 a0_3] 28 (0,0))):=⟨h0_⟩
            have n1_:Aside0 (w47.heap[gb220]?=some (.cells #[.slice (some ad222) l1_0.length c1_0,.int .i64 a1_1,.int .i64 a1_2,.int .i64 a1_3] 28 (0,0))):=⟨h1_⟩
            have n2_:Aside0 (w47.heap[gb223]?=some (.cells #[.int .i64 0,.int .i64 0,.int .i64 0,.slice none 0 0] 83 (0,0))):=⟨h2_⟩
            have n3_:Aside0 (w47.heap[gb224]?=some (.cells #[.int .i64 0,.int .i64 0,.int .i64 0,.slice none 0 0] 83 (0,0))):=⟨h3_⟩
            have n4_:Aside0 (w.heap.size≤gb223):=⟨h4_⟩
            have n5_:Aside0 (w.heap.size≤gb223):=⟨h5_⟩
            have n6_:Aside0 (gb219≠gb223):=⟨h6_⟩
            have n7_:Aside0 (gb223≠gb219):=⟨h7_⟩
            have n8_:Aside0 (gb220≠gb223):=⟨h8_⟩
            have n9_:Aside0 (gb223≠gb220):=⟨h9_⟩
            have n10_:Aside0 (gb224≠gb223):=⟨h10_⟩
            have n11_:Aside0 (gb223≠gb224):=⟨h11_⟩
            have n12_:Aside0 (w.heap.size≤gb224):=⟨h12_⟩
            have n13_:Aside0 (w.heap.size≤gb224):=⟨h13_⟩
            have n14_:Aside0 (gb219≠gb224):=⟨h14_⟩
            have n15_:Aside0 (gb224≠gb219):=⟨h15_⟩
            have n16_:Aside0 (gb220≠gb224):=⟨h16_⟩
            have n17_:Aside0 (gb224≠gb220):=⟨h17_⟩
            have n18_:Aside0 (Below w.heap.size w w47):=⟨h18_⟩
            clear BK219;clear BK220;clear HB;clear h0_ h1_ h2_ h3_ h4_ h5_ h6_ h7_ h8_ h9_ h10_ h11_ h12_ h13_ h14_ h15_ h16_ h17_ h18_;have BK219:=n0_;have BK220:=n1_;have BK223:=n2_;have BK224:=n3_;have GW223:=n4_;have GE223:=n5_;have NB219_223:=n6_;have NB223_219:=n7_;have NB220_223:=n8_;have NB223_220:=n9_;have NB224_223:=n10_;have NB223_224:=n11_;have GW224:=n12_;have GE224:=n13_;have NB219_224:=n14_;have NB224_219:=n15_;have NB220_224:=n16_;have NB224_220:=n17_;have HB:=n18_;clear n0_ n1_ n2_ n3_ n4_ n5_ n6_ n7_ n8_ n9_ n10_ n11_ n12_ n13_ n14_ n15_ n16_ n17_ n18_
            have hHeld:w47.cell? ⟨gb219,0,none⟩=some (.slice (some ad221) l0_0.length c0_0)∧w47.cell? ⟨gb219,1,none⟩=some (.int .i64 a0_1)∧w47.cell? ⟨gb219,2,none⟩=some (.int .i64 a0_2)∧w47.cell? ⟨gb219,3,none⟩=some (.int .i64 a0_3)∧w47.cell? ⟨gb220,0,none⟩=some (.slice (some ad222) l1_0.length c1_0)∧w47.cell? ⟨gb220,1,none⟩=some (.int .i64 a1_1)∧w47.cell? ⟨gb220,2,none⟩=some (.int .i64 a1_2)∧w47.cell? ⟨gb220,3,none⟩=some (.int .i64 a1_3)∧w47.cell? (ad221.add ((x5_2).toNat*4))=some (.int .i64 ((rd_T83 l0_0 x5_2).f0.f0))∧w47.cell? ⟨(ad221.add ((x5_2).toNat*4)).block,(ad221.add ((x5_2).toNat*4)).off+1,none⟩=some (.int .i64 ((rd_T83 l0_0 x5_2).f0.f1))∧w47.cell? ⟨(ad221.add ((x5_2).toNat*4)).block,(ad221.add ((x5_2).toNat*4)).off+2,none⟩=some (.int .i64 ((rd_T83 l0_0 x5_2).f1))∧w47.cell? ⟨(ad221.add ((x5_2).toNat*4)).block,(ad221.add ((x5_2).toNat*4)).off+3,none⟩=some (.slice A221_3 ((rd_T83 l0_0 x5_2).f2).length c221_3)∧w47.cell? (ad222.add ((x5_2).toNat*4))=some (.int .i64 ((rd_T83 l1_0 x5_2).f0.f0))∧w47.cell? ⟨(ad222.add ((x5_2).toNat*4)).block,(ad222.add ((x5_2).toNat*4)).off+1,none⟩=some (.int .i64 ((rd_T83 l1_0 x5_2).f0.f1))∧w47.cell? ⟨(ad222.add ((x5_2).toNat*4)).block,(ad222.add ((x5_2).toNat*4)).off+2,none⟩=some (.int .i64 ((rd_T83 l1_0 x5_2).f1))∧w47.cell? ⟨(ad222.add ((x5_2).toNat*4)).block,(ad222.add ((x5_2).toNat*4)).off+3,none⟩=some (.slice A222_3 ((rd_T83 l1_0 x5_2).f2).length c222_3):=hS_
            refine norm_ (a':=?_) ?_ ?_
            rotate_left
            ·simp only [putAll,Act.put,List.setIfInBounds_toArray,List.set_cons_zero,List.set_cons_succ]
             rfl
            refine one_ (i:=12) (N:=none) #[true,true,true,true,true,true,true,true,true,true,true,true,true,false] rfl rfl (one_of HT_.out (by kernel_rfl)) (by decide) (fun K hK=>?_)
            have hs48:w47.cell? ⟨gb223,0,none⟩=some (.int .i64 0):=(blk_cell BK223.out 0).trans rfl
            have hfs48:=blk_frozen BK223.out 0
            have hns48_0:=NB219_223.out
            have hns48_1:=NB220_223.out
            have hns48_3:=NB224_223.out
            have hms48_0:=NB223_219.out
            have hms48_1:=NB223_220.out
            have hms48_3:=NB223_224.out
            have hs49:w47.cell? ⟨gb223,1,none⟩=some (.int .i64 0):=(blk_cell BK223.out 1).trans rfl
            have hfs49:=blk_frozen BK223.out 1
            have hns49_0:=NB219_223.out
            have hns49_1:=NB220_223.out
            have hns49_3:=NB224_223.out
            have hms49_0:=NB223_219.out
            have hms49_1:=NB223_220.out
            have hms49_3:=NB223_224.out
            have hs50:w47.cell? ⟨gb223,2,none⟩=some (.int .i64 0):=(blk_cell BK223.out 2).trans rfl
            have hfs50:=blk_frozen BK223.out 2
            have hns50_0:=NB219_223.out
            have hns50_1:=NB220_223.out
            have hns50_3:=NB224_223.out
            have hms50_0:=NB223_219.out
            have hms50_1:=NB223_220.out
            have hms50_3:=NB223_224.out
            have hs51:w47.cell? ⟨gb223,3,none⟩=some (.slice none 0 0):=(blk_cell BK223.out 3).trans rfl
            have hfs51:=blk_frozen BK223.out 3
            have hns51_0:=NB219_223.out
            have hns51_1:=NB220_223.out
            have hns51_3:=NB224_223.out
            have hms51_0:=NB223_219.out
            have hms51_1:=NB223_220.out
            have hms51_3:=NB223_224.out
            refine skip_ (w1:=?_) (by rfl) rfl ?_ ?_
            rotate_left
            ·go_simp
             rfl
            refine hK.out _ _ ⟨((cell_far (p:=⟨gb223,_,none⟩) NB219_223.out _).trans (((cell_far (p:=⟨gb223,_,none⟩) NB219_223.out _).trans (((cell_far (p:=⟨gb223,_,none⟩) NB219_223.out _).trans (((cell_far (p:=⟨gb223,_,none⟩) NB219_223.out _).trans (hHeld.1)))))))),((cell_far (p:=⟨gb223,_,none⟩) NB219_223.out _).trans (((cell_far (p:=⟨gb223,_,none⟩) NB219_223.out _).trans (((cell_far (p:=⟨gb223,_,none⟩) NB219_223.out _).trans (((cell_far (p:=⟨gb223,_,none⟩) NB219_223.out _).trans (hHeld.2.1)))))))),((cell_far (p:=⟨gb223,_,none⟩) NB219_223.out _).trans (((cell_far (p:=⟨gb223,_,none⟩) NB219_223.out _).trans (((cell_far (p:=⟨gb223,_,none⟩) NB219_223.out _).trans (((cell_far (p:=⟨gb223,_,none⟩) NB219_223.out _).trans (hHeld.2.2.1)))))))),((cell_far (p:=⟨gb223,_,none⟩) NB219_223.out _).trans (((cell_far (p:=⟨gb223,_,none⟩) NB219_223.out _).trans (((cell_far (p:=⟨gb223,_,none⟩) NB219_223.out _).trans (((cell_far (p:=⟨gb223,_,none⟩) NB219_223.out _).trans (hHeld.2.2.2.1)))))))),((cell_far (p:=⟨gb223,_,none⟩) NB220_223.out _).trans (((cell_far (p:=⟨gb223,_,none⟩) NB220_223.out _).trans (((cell_far (p:=⟨gb223,_,none⟩) NB220_223.out _).trans (((cell_far (p:=⟨gb223,_,none⟩) NB220_223.out _).trans (hHeld.2.2.2.2.1)))))))),((cell_far (p:=⟨gb223,_,none⟩) NB220_223.out _).trans (((cell_far (p:=⟨gb223,_,none⟩) NB220_223.out _).trans (((cell_far (p:=⟨gb223,_,none⟩) NB220_223.out _).trans (((cell_far (p:=⟨gb223,_,none⟩) NB220_223.out _).trans (hHeld.2.2.2.2.2.1)))))))),((cell_far (p:=⟨gb223,_,none⟩) NB220_223.out _).trans (((cell_far (p:=⟨gb223,_,none⟩) NB220_223.out _).trans (((cell_far (p:=⟨gb223,_,none⟩) NB220_223.out _).trans (((cell_far (p:=⟨gb223,_,none⟩) NB220_223.out _).trans (hHeld.2.2.2.2.2.2.1)))))))),((cell_far (p:=⟨gb223,_,none⟩) NB220_223.out _).trans (((cell_far (p:=⟨gb223,_,none⟩) NB220_223.out _).trans (((cell_far (p:=⟨gb223,_,none⟩) NB220_223.out _).trans (((cell_far (p:=⟨gb223,_,none⟩) NB220_223.out _).trans (hHeld.2.2.2.2.2.2.2.1)))))))),((cell_far (p:=⟨gb223,_,none⟩) y20_ _).trans (((cell_far (p:=⟨gb223,_,none⟩) y20_ _).trans (((cell_far (p:=⟨gb223,_,none⟩) y20_ _).trans (((cell_far (p:=⟨gb223,_,none⟩) y20_ _).trans (hHeld.2.2.2.2.2.2.2.2.1)))))))),((cell_far (p:=⟨gb223,_,none⟩) y1y_ _).trans (((cell_far (p:=⟨gb223,_,none⟩) y1y_ _).trans (((cell_far (p:=⟨gb223,_,none⟩) y1y_ _).trans (((cell_far (p:=⟨gb223,_,none⟩) y1y_ _).trans (hHeld.2.2.2.2.2.2.2.2.2.1)))))))),((cell_far (p:=⟨gb223,_,none⟩) y1w_ _).trans (((cell_far (p:=⟨gb223,_,none⟩) y1w_ _).trans (((cell_far (p:=⟨gb223,_,none⟩) y1w_ _).trans (((cell_far (p:=⟨gb223,_,none⟩) y1w_ _).trans (hHeld.2.2.2.2.2.2.2.2.2.2.1)))))))),((cell_far (p:=⟨gb223,_,none⟩) y1u_ _).trans (((cell_far (p:=⟨gb223,_,none⟩) y1u_ _).trans (((cell_far (p:=⟨gb223,_,none⟩) y1u_ _).trans (((cell_far (p:=⟨gb223,_,none⟩) y1u_ _).trans (hHeld.2.2.2.2.2.2.2.2.2.2.2.1)))))))),((cell_far (p:=⟨gb223,_,none⟩) y1s_ _).trans (((cell_far (p:=⟨gb223,_,none⟩) y1s_ _).trans (((cell_far (p:=⟨gb223,_,none⟩) y1s_ _).trans (((cell_far (p:=⟨gb223,_,none⟩) y1s_ _).trans (hHeld.2.2.2.2.2.2.2.2.2.2.2.2.1)))))))),((cell_far (p:=⟨gb223,_,none⟩) y1q_ _).trans (((cell_far (p:=⟨gb223,_,none⟩) y1q_ _).trans (((cell_far (p:=⟨gb223,_,none⟩) y1q_ _).trans (((cell_far (p:=⟨gb223,_,none⟩) y1q_ _).trans (hHeld.2.2.2.2.2.2.2.2.2.2.2.2.2.1)))))))),((cell_far (p:=⟨gb223,_,none⟩) y1o_ _).trans (((cell_far (p:=⟨gb223,_,none⟩) y1o_ _).trans (((cell_far (p:=⟨gb223,_,none⟩) y1o_ _).trans (((cell_far (p:=⟨gb223,_,none⟩) y1o_ _).trans (hHeld.2.2.2.2.2.2.2.2.2.2.2.2.2.2.1)))))))),((cell_far (p:=⟨gb223,_,none⟩) y1m_ _).trans (((cell_far (p:=⟨gb223,_,none⟩) y1m_ _).trans (((cell_far (p:=⟨gb223,_,none⟩) y1m_ _).trans (((cell_far (p:=⟨gb223,_,none⟩) y1m_ _).trans (hHeld.2.2.2.2.2.2.2.2.2.2.2.2.2.2.2))))))))⟩ (fun hHeld=>?_)
            clear hK K
            refine one_ (i:=13) (N:=none) #[true,true,true,true,true,true,true,true,true,true,true,true,true,true] rfl rfl (one_of HT_.out (by kernel_rfl)) (by decide) (fun K hK=>?_)
            have hs52:w47.cell? ⟨gb224,0,none⟩=some (.int .i64 0):=(blk_cell BK224.out 0).trans rfl
            have hfs52:=blk_frozen BK224.out 0
            have hns52_0:=NB219_224.out
            have hns52_1:=NB220_224.out
            have hns52_2:=NB223_224.out
            have hms52_0:=NB224_219.out
            have hms52_1:=NB224_220.out
            have hms52_2:=NB224_223.out
            have hs53:w47.cell? ⟨gb224,1,none⟩=some (.int .i64 0):=(blk_cell BK224.out 1).trans rfl
            have hfs53:=blk_frozen BK224.out 1
            have hns53_0:=NB219_224.out
            have hns53_1:=NB220_224.out
            have hns53_2:=NB223_224.out
            have hms53_0:=NB224_219.out
            have hms53_1:=NB224_220.out
            have hms53_2:=NB224_223.out
            have hs54:w47.cell? ⟨gb224,2,none⟩=some (.int .i64 0):=(blk_cell BK224.out 2).trans rfl
            have hfs54:=blk_frozen BK224.out 2
            have hns54_0:=NB219_224.out
            have hns54_1:=NB220_224.out
            have hns54_2:=NB223_224.out
            have hms54_0:=NB224_219.out
            have hms54_1:=NB224_220.out
            have hms54_2:=NB224_223.out
            have hs55:w47.cell? ⟨gb224,3,none⟩=some (.slice none 0 0):=(blk_cell BK224.out 3).trans rfl
            have hfs55:=blk_frozen BK224.out 3
            have hns55_0:=NB219_224.out
            have hns55_1:=NB220_224.out
            have hns55_2:=NB223_224.out
            have hms55_0:=NB224_219.out
            have hms55_1:=NB224_220.out
            have hms55_2:=NB224_223.out
            refine skip_ (w1:=?_) (by rfl) rfl ?_ ?_
            rotate_left
            ·go_simp
             rfl
            refine hK.out _ _ ⟨((cell_far (p:=⟨gb224,_,none⟩) NB219_224.out _).trans (((cell_far (p:=⟨gb224,_,none⟩) NB219_224.out _).trans (((cell_far (p:=⟨gb224,_,none⟩) NB219_224.out _).trans (((cell_far (p:=⟨gb224,_,none⟩) NB219_224.out _).trans (hHeld.1)))))))),((cell_far (p:=⟨gb224,_,none⟩) NB219_224.out _).trans (((cell_far (p:=⟨gb224,_,none⟩) NB219_224.out _).trans (((cell_far (p:=⟨gb224,_,none⟩) NB219_224.out _).trans (((cell_far (p:=⟨gb224,_,none⟩) NB219_224.out _).trans (hHeld.2.1)))))))),((cell_far (p:=⟨gb224,_,none⟩) NB219_224.out _).trans (((cell_far (p:=⟨gb224,_,none⟩) NB219_224.out _).trans (((cell_far (p:=⟨gb224,_,none⟩) NB219_224.out _).trans (((cell_far (p:=⟨gb224,_,none⟩) NB219_224.out _).trans (hHeld.2.2.1)))))))),((cell_far (p:=⟨gb224,_,none⟩) NB219_224.out _).trans (((cell_far (p:=⟨gb224,_,none⟩) NB219_224.out _).trans (((cell_far (p:=⟨gb224,_,none⟩) NB219_224.out _).trans (((cell_far (p:=⟨gb224,_,none⟩) NB219_224.out _).trans (hHeld.2.2.2.1)))))))),((cell_far (p:=⟨gb224,_,none⟩) NB220_224.out _).trans (((cell_far (p:=⟨gb224,_,none⟩) NB220_224.out _).trans (((cell_far (p:=⟨gb224,_,none⟩) NB220_224.out _).trans (((cell_far (p:=⟨gb224,_,none⟩) NB220_224.out _).trans (hHeld.2.2.2.2.1)))))))),((cell_far (p:=⟨gb224,_,none⟩) NB220_224.out _).trans (((cell_far (p:=⟨gb224,_,none⟩) NB220_224.out _).trans (((cell_far (p:=⟨gb224,_,none⟩) NB220_224.out _).trans (((cell_far (p:=⟨gb224,_,none⟩) NB220_224.out _).trans (hHeld.2.2.2.2.2.1)))))))),((cell_far (p:=⟨gb224,_,none⟩) NB220_224.out _).trans (((cell_far (p:=⟨gb224,_,none⟩) NB220_224.out _).trans (((cell_far (p:=⟨gb224,_,none⟩) NB220_224.out _).trans (((cell_far (p:=⟨gb224,_,none⟩) NB220_224.out _).trans (hHeld.2.2.2.2.2.2.1)))))))),((cell_far (p:=⟨gb224,_,none⟩) NB220_224.out _).trans (((cell_far (p:=⟨gb224,_,none⟩) NB220_224.out _).trans (((cell_far (p:=⟨gb224,_,none⟩) NB220_224.out _).trans (((cell_far (p:=⟨gb224,_,none⟩) NB220_224.out _).trans (hHeld.2.2.2.2.2.2.2.1)))))))),((cell_far (p:=⟨gb224,_,none⟩) y1z_ _).trans (((cell_far (p:=⟨gb224,_,none⟩) y1z_ _).trans (((cell_far (p:=⟨gb224,_,none⟩) y1z_ _).trans (((cell_far (p:=⟨gb224,_,none⟩) y1z_ _).trans (hHeld.2.2.2.2.2.2.2.2.1)))))))),((cell_far (p:=⟨gb224,_,none⟩) y1x_ _).trans (((cell_far (p:=⟨gb224,_,none⟩) y1x_ _).trans (((cell_far (p:=⟨gb224,_,none⟩) y1x_ _).trans (((cell_far (p:=⟨gb224,_,none⟩) y1x_ _).trans (hHeld.2.2.2.2.2.2.2.2.2.1)))))))),((cell_far (p:=⟨gb224,_,none⟩) y1v_ _).trans (((cell_far (p:=⟨gb224,_,none⟩) y1v_ _).trans (((cell_far (p:=⟨gb224,_,none⟩) y1v_ _).trans (((cell_far (p:=⟨gb224,_,none⟩) y1v_ _).trans (hHeld.2.2.2.2.2.2.2.2.2.2.1)))))))),((cell_far (p:=⟨gb224,_,none⟩) y1t_ _).trans (((cell_far (p:=⟨gb224,_,none⟩) y1t_ _).trans (((cell_far (p:=⟨gb224,_,none⟩) y1t_ _).trans (((cell_far (p:=⟨gb224,_,none⟩) y1t_ _).trans (hHeld.2.2.2.2.2.2.2.2.2.2.2.1)))))))),((cell_far (p:=⟨gb224,_,none⟩) y1r_ _).trans (((cell_far (p:=⟨gb224,_,none⟩) y1r_ _).trans (((cell_far (p:=⟨gb224,_,none⟩) y1r_ _).trans (((cell_far (p:=⟨gb224,_,none⟩) y1r_ _).trans (hHeld.2.2.2.2.2.2.2.2.2.2.2.2.1)))))))),((cell_far (p:=⟨gb224,_,none⟩) y1p_ _).trans (((cell_far (p:=⟨gb224,_,none⟩) y1p_ _).trans (((cell_far (p:=⟨gb224,_,none⟩) y1p_ _).trans (((cell_far (p:=⟨gb224,_,none⟩) y1p_ _).trans (hHeld.2.2.2.2.2.2.2.2.2.2.2.2.2.1)))))))),((cell_far (p:=⟨gb224,_,none⟩) y1n_ _).trans (((cell_far (p:=⟨gb224,_,none⟩) y1n_ _).trans (((cell_far (p:=⟨gb224,_,none⟩) y1n_ _).trans (((cell_far (p:=⟨gb224,_,none⟩) y1n_ _).trans (hHeld.2.2.2.2.2.2.2.2.2.2.2.2.2.2.1)))))))),((cell_far (p:=⟨gb224,_,none⟩) y1l_ _).trans (((cell_far (p:=⟨gb224,_,none⟩) y1l_ _).trans (((cell_far (p:=⟨gb224,_,none⟩) y1l_ _).trans (((cell_far (p:=⟨gb224,_,none⟩) y1l_ _).trans (hHeld.2.2.2.2.2.2.2.2.2.2.2.2.2.2.2))))))))⟩ (fun hHeld=>?_)
            clear hK K
            refine done_ (done_of HT_.out (by kernel_rfl)) ?_
            have hnb56:=NB223_219.out
            have hnc56:=NB219_223.out
            have hnb57:=NB223_220.out
            have hnc57:=NB220_223.out
            have hnb58:=NB223_224.out
            have hnc58:=NB224_223.out
            obtain ⟨hcz59_0,hcz59_1,hcz59_2,hcz59_3,hfz59_0,hfz59_1,hfz59_2,hfz59_3⟩:=bq4_ BK223.out
            have hnb60:=NB224_219.out
            have hnc60:=NB219_224.out
            have hnb61:=NB224_220.out
            have hnc61:=NB220_224.out
            obtain ⟨hcz62_0,hcz62_1,hcz62_2,hcz62_3,hfz62_0,hfz62_1,hfz62_2,hfz62_3⟩:=bq4_ BK224.out
            try go_wp2_with (first|(go_at_call 51;(with_reducible refine (tr_Same.calls k2 _ _ ((rd_T83 l0_0 x5_2).f2) _ _ ((rd_T83 l1_0 x5_2).f2) true _ ?side1 ?side2 ?side3 ?side4 A40.out).mono ?_);(case side1=>exact Kd.C_below HR221_3.out y30_);(case side2=>exact HC221_3.out);(case side3=>exact Kd.C_below HR222_3.out y30_);(case side4=>exact HC222_3.out);rintro e w' ⟨rfl,⟨nd,rfl⟩⟩))
            go_roundg k2
            case measure=>have:=HJ2.out;have:=HK2.out;omega
            case rel=>exact ⟨(wrap64 (x5_2+1)),y5_,H',⟨by have:=HJ2.out;have:=HK2.out;omega⟩,⟨by (with_reducible repeat (first|refine blk_drewN ?_ _|refine blk_drew ?_|refine blk_alloc ?_ _));refine blk_far ?_ NB219_224.out _;(with_reducible repeat (first|refine blk_drewN ?_ _|refine blk_drew ?_|refine blk_alloc ?_ _));refine blk_far ?_ NB219_224.out _;(with_reducible repeat (first|refine blk_drewN ?_ _|refine blk_drew ?_|refine blk_alloc ?_ _));refine blk_far ?_ NB219_224.out _;(with_reducible repeat (first|refine blk_drewN ?_ _|refine blk_drew ?_|refine blk_alloc ?_ _));refine blk_far ?_ NB219_224.out _;(with_reducible repeat (first|refine blk_drewN ?_ _|refine blk_drew ?_|refine blk_alloc ?_ _));refine blk_far ?_ NB219_223.out _;(with_reducible repeat (first|refine blk_drewN ?_ _|refine blk_drew ?_|refine blk_alloc ?_ _));refine blk_far ?_ NB219_223.out _;(with_reducible repeat (first|refine blk_drewN ?_ _|refine blk_drew ?_|refine blk_alloc ?_ _));refine blk_far ?_ NB219_223.out _;(with_reducible repeat (first|refine blk_drewN ?_ _|refine blk_drew ?_|refine blk_alloc ?_ _));refine blk_far ?_ NB219_223.out _;(with_reducible repeat (first|refine blk_drewN ?_ _|refine blk_drew ?_|refine blk_alloc ?_ _));exact BK219.out⟩,⟨by (with_reducible repeat (first|refine blk_drewN ?_ _|refine blk_drew ?_|refine blk_alloc ?_ _));refine blk_far ?_ NB220_224.out _;(with_reducible repeat (first|refine blk_drewN ?_ _|refine blk_drew ?_|refine blk_alloc ?_ _));refine blk_far ?_ NB220_224.out _;(with_reducible repeat (first|refine blk_drewN ?_ _|refine blk_drew ?_|refine blk_alloc ?_ _));refine blk_far ?_ NB220_224.out _;(with_reducible repeat (first|refine blk_drewN ?_ _|refine blk_drew ?_|refine blk_alloc ?_ _));refine blk_far ?_ NB220_224.out _;(with_reducible repeat (first|refine blk_drewN ?_ _|refine blk_drew ?_|refine blk_alloc ?_ _));refine blk_far ?_ NB220_223.out _;(with_reducible repeat (first|refine blk_drewN ?_ _|refine blk_drew ?_|refine blk_alloc ?_ _));refine blk_far ?_ NB220_223.out _;(with_reducible repeat (first|refine blk_drewN ?_ _|refine blk_drew ?_|refine blk_alloc ?_ _));refine blk_far ?_ NB220_223.out _;(with_reducible repeat (first|refine blk_drewN ?_ _|refine blk_drew ?_|refine blk_alloc ?_ _));refine blk_far ?_ NB220_223.out _;(with_reducible repeat (first|refine blk_drewN ?_ _|refine blk_drew ?_|refine blk_alloc ?_ _));exact BK220.out⟩,⟨y30_⟩⟩
           ·replace c41:=Bool.eq_false_iff.mpr c41;subst c41
            have H1:(some false)=some true:=by rw [if_neg (show ¬ (false=true) by decide)] at H;exact H
            clear H;have H:=H1;clear H1;exact absurd H (by simp)
          ·rw [if_neg c39] at H
           have c39b0:(((rd_T83 l0_0 x5_2).f1) == ((rd_T83 l1_0 x5_2).f1))=false:=beq_eq_false_iff_ne.mpr c39
           have c39b1:(((rd_T83 l0_0 x5_2).f1) != ((rd_T83 l1_0 x5_2).f1))=true:=bne_iff_ne.mpr c39
           exact absurd H (by simp)
        ·rw [if_neg c16] at H;exact absurd H (by simp)
       ·rw [if_neg c15] at H;exact absurd H (by simp)
      ·rw [if_neg c14] at H;have c14b0:decide (x5_2<(l0_0.length:Int))=false:=decide_eq_false c14;clear c14;clear H
       have hnb105:=NB219_220.out
       have hnc105:=NB220_219.out
       obtain ⟨hcz106_0,hcz106_1,hcz106_2,hcz106_3,hfz106_0,hfz106_1,hfz106_2,hfz106_3⟩:=bq4_ BK219.out;go_wp2;go_ret
       exact ⟨y3_,y25_⟩
def tr_SameSkies.f (k:Nat) (l0_0:List (S83)) (a0_1:Int) (a0_2:Int) (a0_3:Int) (l1_0:List (S83)) (a1_1:Int) (a1_2:Int) (a1_3:Int):Option (Bool):=if SameSkies0.f k l0_0 a0_1 a0_2 a0_3 l1_0 a1_1 a1_2 a1_3=some true then some true else none
theorem tr_SameSkies.calls (k:Nat) (A0_0:Option Addr) (c0_0:Nat) (l0_0:List (S83)) (a0_1:Int) (a0_2:Int) (a0_3:Int) (A1_0:Option Addr) (c1_0:Nat) (l1_0:List (S83)) (a1_1:Int) (a1_2:Int) (a1_3:Int) (r:Bool) (w:World) (hr0_0:Kd.C k83 w A0_0 l0_0.length l0_0) (hc0_0:l0_0.length≤c0_0) (hr1_0:Kd.C k83 w A1_0 l1_0.length l1_0) (hc1_0:l1_0.length≤c1_0) (h:tr_SameSkies.f k l0_0 a0_1 a0_2 a0_3 l1_0 a1_1 a1_2 a1_3=some r):
  Calls Tryz.prog 44 #[.agg #[.slice A0_0 l0_0.length c0_0,.int .i64 a0_1,.int .i64 a0_2,.int .i64 a0_3],.agg #[.slice A1_0 l1_0.length c1_0,.int .i64 a1_1,.int .i64 a1_2,.int .i64 a1_3]] w fun e w'=>e=.returned (.bool r)∧Below w.heap.size w w':=by
 unfold tr_SameSkies.f at h
 split at h
 ·rename_i h1
  obtain rfl:=Option.some.inj h
  exact SameSkies0.calls k A0_0 c0_0 l0_0 a0_1 a0_2 a0_3 A1_0 c1_0 l1_0 a1_1 a1_2 a1_3 w hr0_0 hc0_0 hr1_0 hc1_0 h1
 ·cases h
end Go.Proofs.YtaidphhkhddemaaGreatDoor.PSky
end
section
namespace Go.Proofs.YtaidphhkhddemaaGreatDoor.PSky
open Go.RowKit Go.Proofs.YtaidphhkhddemaaGreatDoorW.PrintWords Go.Proofs.YtaidphhkhddemaaGreatDoorW.PrintLast Go.Proofs.YtaidphhkhddemaaGreatDoorW.PrintMore
attribute [local go_sem] max2_int min2_int max_two min_two max_three min_three max_four min_four
set_option linter.unusedVariables false
set_option linter.unusedSimpArgs false
def sky_Print.f (k:Nat) (l0_0:List (S83)) (a0_1:Int) (a0_2:Int) (a0_3:Int):Option (ByteArray × Int):=(sky_isSky.f k l0_0 a0_1 a0_2 a0_3).bind fun t519=>(if t519=true then ((sky_text.f k l0_0 a0_1 a0_2 a0_3).bind fun t520=>(some (t520,0))) else (some ((⟨#[]⟩:ByteArray),2)))
set_option maxHeartbeats 8000000 in
set_option maxRecDepth 100000 in
theorem sky_Print.calls (k:Nat) (A0_0:Option Addr) (c0_0:Nat) (l0_0:List (S83)) (a0_1:Int) (a0_2:Int) (a0_3:Int) (r1:ByteArray) (r2:Int) (w:World) (hr0_0:Kd.C k83 w A0_0 l0_0.length l0_0) (hc0_0:l0_0.length≤c0_0) (h:sky_Print.f k l0_0 a0_1 a0_2 a0_3=some (r1,r2)) (hLD:LD w):
  Calls Tryz.prog 41 #[.agg #[.slice A0_0 l0_0.length c0_0,.int .i64 a0_1,.int .i64 a0_2,.int .i64 a0_3]] w fun e w'=>e=.returned (.tuple #[.string r1,.int .i64 r2])∧Below w.heap.size w w':=by
 have HLD:=A0_ hLD;clear hLD
 have hu28:=Tryz.underlying28
 have HR0_0:=A0_ hr0_0;have HC0_0:=A0_ hc0_0;clear hr0_0 hc0_0
 have HB:=A0_ (Below.refl w.heap.size w)
 have H:((sky_isSky.f k l0_0 a0_1 a0_2 a0_3).bind fun t519=>(if t519=true then ((sky_text.f k l0_0 a0_1 a0_2 a0_3).bind fun t520=>(some (t520,0))) else (some ((⟨#[]⟩:ByteArray),2))))=some (r1,r2):=h
 clear h;replace H:=Option.bind_eq_some_iff.mp H;obtain ⟨t519,A20,H⟩:=H
 replace H:(if t519=true then ((sky_text.f k l0_0 a0_1 a0_2 a0_3).bind fun t520=>(some (t520,0))) else (some ((⟨#[]⟩:ByteArray),2)))=some (r1,r2):=H
 have A2:=A0_ A20;clear A20
 by_cases c3:t519=true
 ·subst c3
  have H1:((sky_text.f k l0_0 a0_1 a0_2 a0_3).bind fun t520=>(some (t520,0)))=some (r1,r2):=by rw [if_pos rfl] at H;exact H
  clear H;have H:=H1;clear H1;replace H:=Option.bind_eq_some_iff.mp H;obtain ⟨t520,A40,H⟩:=H
  replace H:(some (t520,0))=some (r1,r2):=H
  have A4:=A0_ A40;clear A40
  simp only [Option.some.injEq,Prod.mk.injEq] at H
  obtain ⟨rfl,rfl⟩:=H
  go_enter Tryz.func41,Tryz.ntmps41
  go_wp2_with (first|((with_reducible refine gate_dst (N:=1) rfl ?_);refine box_event ?hg (N:=1) ?hd (cs:=#[.slice A0_0 l0_0.length c0_0,.int .i64 a0_1,.int .i64 a0_2,.int .i64 a0_3]) (t:=28) ?hr ?_;(case hd=>rfl);(case hg=>rfl);(case hr=>first|(go_simp;done)|(go_simp;rfl));intro gb518 hg w5 hbox hb;have n0_:=A0_ (below_step y0_ hb);have n1_:=A0_ (hbox);have n2_:=A0_ ((by rw [hg];exact (below_size y0_):w.heap.size≤gb518));have n3_:=A0_ ((by rw [hg];exact (below_size y0_):w.heap.size≤gb518));clear HB;have HB:=n0_;have BK518:=n1_;have GW518:=n2_;have GE518:=n3_;clear n0_ n1_ n2_ n3_;clear hb hbox hg;obtain ⟨hcz6_0,hcz6_1,hcz6_2,hcz6_3,hfz6_0,hfz6_1,hfz6_2,hfz6_3⟩:=bq4_ BK518.out)|((with_reducible refine gate_callee (f:=52) rfl ?_);refine goesL_ (some 5) rfl rfl Tryz.func52 (by kernel_rfl) rfl #[.agg #[.slice A0_0 l0_0.length c0_0,.int .i64 a0_1,.int .i64 a0_2,.int .i64 a0_3]] rfl y1_ ?_;(with_reducible refine (sky_isSky.calls k _ _ l0_0 a0_1 a0_2 a0_3 true _ ?side1 ?side2 A2.out).mono ?_);(case side1=>repeat (first|exact (Kd.C_below HR0_0.out HB.out)|(with_reducible refine Kd.C_alloc ?_ _)|(with_reducible refine Kd.C_drewN ?_ _)|(with_reducible refine Kd.C_drew ?_)));(case side2=>exact HC0_0.out);rintro e w7 ⟨rfl,hb⟩;refine ⟨_,rfl,?_⟩;have n0_:=A0_ (blk_below (g:=gb518) (o:=.cells #[.slice A0_0 l0_0.length c0_0,.int .i64 a0_1,.int .i64 a0_2,.int .i64 a0_3] 28 (0,0)) (bd_ BK518.out) hb);have n1_:=A0_ (below_step y2x_ hb);clear BK518;clear HB;have BK518:=n0_;have HB:=n1_;clear n0_ n1_;(try clear hb);(try clear hb2);(try clear hk);(try clear hi);obtain ⟨hcz8_0,hcz8_1,hcz8_2,hcz8_3,hfz8_0,hfz8_1,hfz8_2,hfz8_3⟩:=bq4_ BK518.out)|((with_reducible refine gate_callee (f:=84) rfl ?_);refine goesL_ (some 8) rfl rfl Tryz.func84 (by kernel_rfl) rfl #[.agg #[.slice A0_0 l0_0.length c0_0,.int .i64 a0_1,.int .i64 a0_2,.int .i64 a0_3]] rfl y1_ ?_;(with_reducible refine (sky_text.calls k _ _ l0_0 a0_1 a0_2 a0_3 t520 _ ?side1 ?side2 A4.out ?side3).mono ?_);(case side1=>repeat (first|exact (Kd.C_below HR0_0.out HB.out)|(with_reducible refine Kd.C_alloc ?_ _)|(with_reducible refine Kd.C_drewN ?_ _)|(with_reducible refine Kd.C_drew ?_)));(case side2=>exact HC0_0.out);(case side3=>exact LD.below HLD.out y2x_);rintro e w9 ⟨rfl,hb⟩;refine ⟨_,rfl,?_⟩;have n0_:=A0_ (blk_below (g:=gb518) (o:=.cells #[.slice A0_0 l0_0.length c0_0,.int .i64 a0_1,.int .i64 a0_2,.int .i64 a0_3] 28 (0,0)) (bd_ BK518.out) hb);have n1_:=A0_ (below_step y2x_ hb);clear BK518;clear HB;have BK518:=n0_;have HB:=n1_;clear n0_ n1_;(try clear hb);(try clear hb2);(try clear hk);(try clear hi)))
  go_ret2
  exact ⟨y3_,y2x_⟩
 ·replace c3:=Bool.eq_false_iff.mpr c3;subst c3
  have H1:(some ((⟨#[]⟩:ByteArray),2))=some (r1,r2):=by rw [if_neg (show ¬ (false=true) by decide)] at H;exact H
  clear H;have H:=H1;clear H1
  simp only [Option.some.injEq,Prod.mk.injEq] at H
  obtain ⟨rfl,rfl⟩:=H
  go_enter Tryz.func41,Tryz.ntmps41
  go_wp2_with (first|((with_reducible refine gate_dst (N:=1) rfl ?_);refine box_event ?hg (N:=1) ?hd (cs:=#[.slice A0_0 l0_0.length c0_0,.int .i64 a0_1,.int .i64 a0_2,.int .i64 a0_3]) (t:=28) ?hr ?_;(case hd=>rfl);(case hg=>rfl);(case hr=>first|(go_simp;done)|(go_simp;rfl));intro gb518 hg w10 hbox hb;have n0_:=A0_ (below_step y0_ hb);have n1_:=A0_ (hbox);have n2_:=A0_ ((by rw [hg];exact (below_size y0_):w.heap.size≤gb518));have n3_:=A0_ ((by rw [hg];exact (below_size y0_):w.heap.size≤gb518));clear HB;have HB:=n0_;have BK518:=n1_;have GW518:=n2_;have GE518:=n3_;clear n0_ n1_ n2_ n3_;clear hb hbox hg;obtain ⟨hcz11_0,hcz11_1,hcz11_2,hcz11_3,hfz11_0,hfz11_1,hfz11_2,hfz11_3⟩:=bq4_ BK518.out)|((with_reducible refine gate_callee (f:=52) rfl ?_);refine goesL_ (some 5) rfl rfl Tryz.func52 (by kernel_rfl) rfl #[.agg #[.slice A0_0 l0_0.length c0_0,.int .i64 a0_1,.int .i64 a0_2,.int .i64 a0_3]] rfl y1_ ?_;(with_reducible refine (sky_isSky.calls k _ _ l0_0 a0_1 a0_2 a0_3 false _ ?side1 ?side2 A2.out).mono ?_);(case side1=>repeat (first|exact (Kd.C_below HR0_0.out HB.out)|(with_reducible refine Kd.C_alloc ?_ _)|(with_reducible refine Kd.C_drewN ?_ _)|(with_reducible refine Kd.C_drew ?_)));(case side2=>exact HC0_0.out);rintro e w12 ⟨rfl,hb⟩;refine ⟨_,rfl,?_⟩;have n0_:=A0_ (blk_below (g:=gb518) (o:=.cells #[.slice A0_0 l0_0.length c0_0,.int .i64 a0_1,.int .i64 a0_2,.int .i64 a0_3] 28 (0,0)) (bd_ BK518.out) hb);have n1_:=A0_ (below_step y2x_ hb);clear BK518;clear HB;have BK518:=n0_;have HB:=n1_;clear n0_ n1_;(try clear hb);(try clear hb2);(try clear hk);(try clear hi)))
  go_ret2
  exact ⟨y3_,y2x_⟩
end Go.Proofs.YtaidphhkhddemaaGreatDoor.PSky
end
