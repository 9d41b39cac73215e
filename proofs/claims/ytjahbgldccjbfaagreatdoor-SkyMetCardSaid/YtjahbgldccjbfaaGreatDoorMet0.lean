/- A part of the proof of a law of the layer sky. -/
import Derived.ArgAppend
import Derived.Below
import Derived.BigQuiet
import Derived.BigRegion
import Derived.ChangeSame
import Derived.Deep.AppendLies
import Derived.Deep.CutBlock
import Derived.Deep.DeepCutAuto
import Derived.Deep.DeepHandedRow
import Derived.Deep.Draws
import Derived.Deep.LoopGhost
import Derived.Deep.OwnRows
import Derived.Deep.QuietTactic
import Derived.Deep.RegionHeld3
import Derived.Deep.RegionLaw
import Derived.Deep.Slices
import Derived.Deep.Strs
import Derived.Defers
import Derived.KernelRfl
import Derived.LaidMore
import Derived.Laws.BitsLemmas
import Derived.Laws.BytesArg
import Derived.Laws.Entries
import Derived.Laws.IdiomCopy
import Derived.Laws.LoneSync
import Derived.Laws.MakeOwn
import Derived.Laws.NewBlocks
import Derived.Laws.OwnMore
import Derived.Laws.Pointers
import Derived.Laws.Rows
import Derived.Laws.Slices
import Derived.Laws.StructEq
import Derived.Lib.AppendStr
import Derived.Lib.ConvBytes
import Derived.Lib.LaidTab
import Derived.Lib.OthersKept
import Derived.Lib.SplitLaws
import Derived.LoopIn
import Derived.LoopN
import Derived.LoopNIn
import Derived.Maps.AppendAt
import Derived.Maps.Own
import Derived.Maps.OwnOps
import Derived.Maps.OwnSet
import Derived.Maps.Views
import Derived.OpenShut
import Derived.OrdersHeld
import Derived.OrdersIn
import Derived.Outline
import Derived.OwnWalk
import Derived.OwnWalkIn
import Derived.ProofKit
import Derived.RangeFuncBound
import Derived.RangeFuncBox
import Derived.RangeFuncCalls
import Derived.RangeFuncLeaves
import Derived.RangeFuncNested
import Derived.Recover
import Derived.RegionIn
import Derived.RowKit
import Derived.RowKit3
import Derived.Scope
import Derived.SevenTiedAt
import Derived.Shelf.Abstract
import Derived.Shelf.LaysM
import Derived.Shelf.RegionOpen
import Derived.Shelf.Strconv.Itoa0
import Derived.Shelf.Strconv.Itoa1
import Derived.Shelf.Strconv.Itoa2
import Derived.Shelf.Strconv.Itoa3
import Derived.Shelf.Strings.Builder1
import Derived.Shelf.Strings.Builder2
import Derived.Shelf.Strings.Count
import Derived.Shelf.Strings.Explode
import Derived.Shelf.Strings.OnBuilder
import Derived.Shelf.Strings.Prefix
import Derived.Shelf.Strings.RuneCount
import Derived.Shelf.Strings.Search1
import Derived.Shelf.Strings.Search2
import Derived.Shelf.Strings.Search3
import Derived.Shelf.Strings.Shaped
import Derived.Shelf.Strings.Split
import Derived.Shelf.Strings.SplitShaped
import Derived.Shelf.Unicode.Decode
import Derived.Shelf.Unicode.DecodeAny
import Derived.Shelf.Unicode.DecodeSlow
import Derived.Shelf.Utf8.RuneCount
import Derived.SizedLaws
import Derived.StillTactics
import Derived.Stop.Joined
import Derived.Stop.LaidErr
import Derived.Tactics
import Derived.TacticsIn
import Derived.TacticsInMore
import Derived.WalkKit
import Derived.WideLaws
import Derived.Test.YtjahbgldccjbfaaGreatDoorY6
section
namespace Go.Proofs.YtjahbgldccjbfaaGreatDoor.PSky
open Go.RowKit Go.Proofs.YtjahbgldccjbfaaGreatDoorW.PrintWords Go.Proofs.YtjahbgldccjbfaaGreatDoorW.PrintLast Go.Proofs.YtjahbgldccjbfaaGreatDoorW.PrintMore
attribute [local go_sem] max2_int min2_int max_two min_two max_three min_three max_four min_four
set_option linter.unusedVariables false
set_option linter.unusedSimpArgs false
mutual
def tl_short.l0:Nat→Int→List (S74)→Int→Int→Int→Option (Bool)
 |0,_,_,_,_,_=>none
 |k+1,x3,x290000,x290001,x290002,x290003=>if x3<(x290000.length:Int) then (tl_short.j1 k x3 (decide (x3<7)) x290000 x290001 x290002 x290003) else (tl_short.j1 k x3 false x290000 x290001 x290002 x290003)
def tl_short.j1:Nat→Int→Bool→List (S74)→Int→Int→Int→Option (Bool)
 |0,_,_,_,_,_,_=>none
 |k+1,x3,x12,x290000,x290001,x290002,x290003=>if x12=true then (if 0≤x3 then (if x3<(x290000.length:Int) then (if (((rd_T74 x290000 x3).f2).length:Int) > 10 then (some false) else (tl_short.l0 k (wrap64 (x3+1)) x290000 x290001 x290002 x290003)) else (none)) else (none)) else (some (decide ((x290000.length:Int)≤6)))
end
def tl_short.f (k:Nat) (l0_0:List (S74)) (a0_1:Int) (a0_2:Int) (a0_3:Int):Option (Bool):=tl_short.l0 k 0 l0_0 a0_1 a0_2 a0_3
set_option maxHeartbeats 8000000 in
set_option maxRecDepth 100000 in
theorem tl_short.calls (k:Nat) (A0_0:Option Addr) (c0_0:Nat) (l0_0:List (S74)) (a0_1:Int) (a0_2:Int) (a0_3:Int) (r:Bool) (w:World) (hr0_0:Kd.C k74 w A0_0 l0_0.length l0_0) (hc0_0:l0_0.length≤c0_0) (h:tl_short.f k l0_0 a0_1 a0_2 a0_3=some r):
  Calls Tryz.prog 17 #[.agg #[.slice A0_0 l0_0.length c0_0,.int .i64 a0_1,.int .i64 a0_2,.int .i64 a0_3]] w fun e w'=>e=.returned (.bool r)∧Below w.heap.size w w':=by
 have hu29:=Tryz.underlying29
 have HR0_0:=A0_ hr0_0;have HC0_0:=A0_ hc0_0;clear hr0_0 hc0_0
 have HB:=A0_ (Below.refl w.heap.size w)
 have H:(tl_short.l0 k 0 l0_0 a0_1 a0_2 a0_3)=some r:=h
 clear h
 have H':=A0_ H
 clear H
 go_enter Tryz.func17,Tryz.ntmps17
 go_wp2_with (first|((with_reducible refine gate_dst (N:=1) rfl ?_);refine box_event ?hg (N:=1) ?hd (cs:=#[.slice A0_0 l0_0.length c0_0,.int .i64 a0_1,.int .i64 a0_2,.int .i64 a0_3]) (t:=29) ?hr ?_;(case hd=>rfl);(case hg=>rfl);(case hr=>first|(go_simp;done)|(go_simp;rfl));intro gb289 hg w2 hbox hb;have n0_:=A0_ (below_step y0_ hb);have n1_:=A0_ (hbox);have n2_:=A0_ ((by rw [hg];exact (below_size y0_):w.heap.size≤gb289));have n3_:=A0_ ((by rw [hg];exact (below_size y0_):w.heap.size≤gb289));clear HB;have HB:=n0_;have BK289:=n1_;have GW289:=n2_;have GE289:=n3_;clear n0_ n1_ n2_ n3_;clear hb hbox hg))
 go_loopg [3] k (fun kq v3 w'=>∃ (x3_1:Int),v3=.int .i64 x3_1∧Aside0 (tl_short.l0 kq x3_1 l0_0 a0_1 a0_2 a0_3=some r)∧Aside0 (kq≤k)∧Aside0 (w'.heap[gb289]?=some (.cells #[(.slice A0_0 l0_0.length c0_0),.int .i64 a0_1,.int .i64 a0_2,.int .i64 a0_3] 29 (0,0)))∧Aside0 (Below w.heap.size w w'))
 case atStart=>exact ⟨(0),y4_,H',⟨Nat.le_refl _⟩,⟨by (with_reducible repeat (first|refine blk_drewN ?_ _|refine blk_drew ?_|refine blk_alloc ?_ _));exact BK289.out⟩,⟨(by repeat (first|(with_reducible first|exact HB.out|apply below_alloc|apply pw_below_drewN|apply below_drew1|refine below_set ?_ GE289.out)|exact HB.out))⟩⟩
 case round=>
  clear H'
  (try clear c1);(try clear p2)
  obtain ⟨x3_1,rfl,HA,HK1,BK289,HB⟩:=hrel
  cases gk with
  |zero=>exact absurd HA.out (by simp [tl_short.l0])
  |succ k1=>
   have H:=HA.out
   clear HA
   simp only [tl_short.l0] at H
   have HC3:=A0_ H;clear H
   go_upto_region 2 with (fail)
   go_cut [12] (fun v12 wc=>∃ (kq:Nat) (x12_2:Bool),v12=.bool x12_2∧Aside0 (tl_short.j1 kq x3_1 x12_2 l0_0 a0_1 a0_2 a0_3=some r)∧Aside0 (kq≤k1)∧Aside0 (wc.heap[gb289]?=some (.cells #[(.slice A0_0 l0_0.length c0_0),.int .i64 a0_1,.int .i64 a0_2,.int .i64 a0_3] 29 (0,0)))∧Aside0 (Below w.heap.size w wc))
   case first=>
    have H:=HC3.out
    clear HC3
    by_cases c4:x3_1<(l0_0.length:Int)
    ·rw [if_pos c4] at H;have c4b0:decide (x3_1<(l0_0.length:Int))=true:=decide_eq_true c4;clear c4
     (first|rw [c4b0]|(simp only [i64_w,i32_w];rw [c4b0])|skip)
     have H':=A0_ H
     clear H;obtain ⟨hcz5_0,hcz5_1,hcz5_2,hcz5_3,hfz5_0,hfz5_1,hfz5_2,hfz5_3⟩:=bq4_ BK289.out;go_wp2
     go_meet
     case rel=>exact ⟨_,(decide (x3_1<7)),y4_,H',⟨by have:=HK1.out;first|omega|exact Nat.le_refl _⟩,⟨by (with_reducible repeat (first|refine blk_drewN ?_ _|refine blk_drew ?_|refine blk_alloc ?_ _));exact BK289.out⟩,⟨(by repeat (first|(with_reducible first|exact HB.out|apply below_alloc|apply pw_below_drewN|apply below_drew1|refine below_set ?_ GE289.out)|exact HB.out))⟩⟩
    ·rw [if_neg c4] at H;have c4b0:decide (x3_1<(l0_0.length:Int))=false:=decide_eq_false c4;clear c4
     (first|rw [c4b0]|(simp only [i64_w,i32_w];rw [c4b0])|skip)
     have H':=A0_ H
     clear H;obtain ⟨hcz6_0,hcz6_1,hcz6_2,hcz6_3,hfz6_0,hfz6_1,hfz6_2,hfz6_3⟩:=bq4_ BK289.out;go_wp2
     go_meet
     case rel=>exact ⟨_,(false),y4_,H',⟨by have:=HK1.out;first|omega|exact Nat.le_refl _⟩,⟨by (with_reducible repeat (first|refine blk_drewN ?_ _|refine blk_drew ?_|refine blk_alloc ?_ _));exact BK289.out⟩,⟨(by repeat (first|(with_reducible first|exact HB.out|apply below_alloc|apply pw_below_drewN|apply below_drew1|refine below_set ?_ GE289.out)|exact HB.out))⟩⟩
   case rest=>
    clear HC3;(try clear c1);(try clear p2);(try clear c4);(try clear c4b0);(try clear hcz5_0);(try clear hcz5_1);(try clear hcz5_2);(try clear hcz5_3);(try clear hcz6_0);(try clear hcz6_1);(try clear hcz6_2);(try clear hcz6_3);(try clear hfz5_0);(try clear hfz5_1);(try clear hfz5_2);(try clear hfz5_3);(try clear hfz6_0);(try clear hfz6_1);(try clear hfz6_2);(try clear hfz6_3);(try clear p2)
    obtain ⟨kq,x12_2,rfl,HA,HJ2,BK289,HB⟩:=hcut
    cases kq with
    |zero=>exact absurd HA.out (by simp [tl_short.j1])
    |succ kj2=>
     have H:=HA.out
     clear HA
     simp only [tl_short.j1] at H
     by_cases c7:x12_2=true
     ·subst c7
      have H1:(if 0≤x3_1 then (if x3_1<(l0_0.length:Int) then (if (((rd_T74 l0_0 x3_1).f2).length:Int) > 10 then (some false) else (tl_short.l0 kj2 (wrap64 (x3_1+1)) l0_0 a0_1 a0_2 a0_3)) else (none)) else (none))=some r:=by rw [if_pos rfl] at H;exact H
      clear H;have H:=H1;clear H1
      by_cases c8:0≤x3_1
      ·rw [if_pos c8] at H;have c8b0:decide (0≤x3_1)=true:=decide_eq_true c8;clear c8
       by_cases c9:x3_1<(l0_0.length:Int)
       ·rw [if_pos c9] at H;have c9b0:decide (x3_1<(l0_0.length:Int))=true:=decide_eq_true c9;clear c9
        by_cases c10:(((rd_T74 l0_0 x3_1).f2).length:Int) > 10
        ·rw [if_pos c10] at H;have c10b0:decide (10<(((rd_T74 l0_0 x3_1).f2).length:Int))=true:=decide_eq_true c10
         have c10b1:decide (10<((rd_T74 l0_0 x3_1).f2).length)=true:=decide_eq_true (by omega)
         clear c10;obtain rfl:=Option.some.inj H;obtain ⟨hcz11_0,hcz11_1,hcz11_2,hcz11_3,hfz11_0,hfz11_1,hfz11_2,hfz11_3⟩:=bq4_ BK289.out
         have p290:0≤(x3_1:Int):=of_decide_eq_true y5_
         have q290:x3_1<(l0_0.length:Int):=of_decide_eq_true y5_
         obtain ⟨ad290,A290_3,c290_3,e290,hx290_0,hx290_1,hx290_2,hx290_3,hl290_3,hi290_3⟩:=at_T74 HR0_0.out x3_1 p290 q290
         cases e290
         replace hx290_0:=(HB.out.cell (World.block_lt_of_cell? w _ hx290_0)).trans hx290_0
         replace hx290_1:=(HB.out.cell (World.block_lt_of_cell? w _ hx290_1)).trans hx290_1
         replace hx290_2:=(HB.out.cell (World.block_lt_of_cell? w _ hx290_2)).trans hx290_2
         replace hx290_3:=(HB.out.cell (World.block_lt_of_cell? w _ hx290_3)).trans hx290_3
         have HR290_3:=A0_ hi290_3;have HC290_3:=A0_ hl290_3;clear hi290_3 hl290_3
         replace p290:=eq_true p290
         replace q290:=eq_true q290
         go_wp2;go_ret
         exact ⟨y2_,(by repeat (first|(with_reducible first|exact HB.out|apply below_alloc|apply pw_below_drewN|apply below_drew1|refine below_set ?_ GE289.out)|exact HB.out))⟩
        ·rw [if_neg c10] at H;have c10b0:decide (10<(((rd_T74 l0_0 x3_1).f2).length:Int))=false:=decide_eq_false c10
         have c10b1:decide (10<((rd_T74 l0_0 x3_1).f2).length)=false:=decide_eq_false (by omega)
         clear c10
         have H':=A0_ H
         clear H;obtain ⟨hcz12_0,hcz12_1,hcz12_2,hcz12_3,hfz12_0,hfz12_1,hfz12_2,hfz12_3⟩:=bq4_ BK289.out
         have p290:0≤(x3_1:Int):=of_decide_eq_true y5_
         have q290:x3_1<(l0_0.length:Int):=of_decide_eq_true y5_
         obtain ⟨ad290,A290_3,c290_3,e290,hx290_0,hx290_1,hx290_2,hx290_3,hl290_3,hi290_3⟩:=at_T74 HR0_0.out x3_1 p290 q290
         cases e290
         replace hx290_0:=(HB.out.cell (World.block_lt_of_cell? w _ hx290_0)).trans hx290_0
         replace hx290_1:=(HB.out.cell (World.block_lt_of_cell? w _ hx290_1)).trans hx290_1
         replace hx290_2:=(HB.out.cell (World.block_lt_of_cell? w _ hx290_2)).trans hx290_2
         replace hx290_3:=(HB.out.cell (World.block_lt_of_cell? w _ hx290_3)).trans hx290_3
         have HR290_3:=A0_ hi290_3;have HC290_3:=A0_ hl290_3;clear hi290_3 hl290_3
         replace p290:=eq_true p290
         replace q290:=eq_true q290
         go_wp2
         go_roundg kj2
         case measure=>have:=HK1.out;have:=HJ2.out;omega
         case rel=>exact ⟨(wrap64 (x3_1+1)),y4_,H',⟨by have:=HK1.out;have:=HJ2.out;omega⟩,⟨by (with_reducible repeat (first|refine blk_drewN ?_ _|refine blk_drew ?_|refine blk_alloc ?_ _));exact BK289.out⟩,⟨(by repeat (first|(with_reducible first|exact HB.out|apply below_alloc|apply pw_below_drewN|apply below_drew1|refine below_set ?_ GE289.out)|exact HB.out))⟩⟩
       ·rw [if_neg c9] at H;exact absurd H (by simp)
      ·rw [if_neg c8] at H;exact absurd H (by simp)
     ·replace c7:=Bool.eq_false_iff.mpr c7;subst c7
      have H1:(some (decide ((l0_0.length:Int)≤6)))=some r:=by rw [if_neg (show ¬ (false=true) by decide)] at H;exact H
      clear H;have H:=H1;clear H1;obtain rfl:=Option.some.inj H;obtain ⟨hcz13_0,hcz13_1,hcz13_2,hcz13_3,hfz13_0,hfz13_1,hfz13_2,hfz13_3⟩:=bq4_ BK289.out;go_wp2;go_ret
      exact ⟨y2_,(by repeat (first|(with_reducible first|exact HB.out|apply below_alloc|apply pw_below_drewN|apply below_drew1|refine below_set ?_ GE289.out)|exact HB.out))⟩
end Go.Proofs.YtjahbgldccjbfaaGreatDoor.PSky
end
section
namespace Go.Proofs.YtjahbgldccjbfaaGreatDoor.PSky
open Go.RowKit Go.Proofs.YtjahbgldccjbfaaGreatDoorW.PrintWords Go.Proofs.YtjahbgldccjbfaaGreatDoorW.PrintLast Go.Proofs.YtjahbgldccjbfaaGreatDoorW.PrintMore
attribute [local go_sem] max2_int min2_int max_two min_two max_three min_three max_four min_four
set_option linter.unusedVariables false
set_option linter.unusedSimpArgs false
def tl_listed.l0:Nat→List (S95)→Int→Bool→Int→Option (Bool)
 |0,_,_,_,_=>none
 |k+1,x0,x1,x2,x7=>if x7<(x0.length:Int) then (if 0≤x7 then (if ((rd_T95 x0 x7).f0)=x1 then (if (((rd_T95 x0 x7).f1) == x2)=true then (some true) else (tl_listed.l0 k x0 x1 x2 (wrap64 (x7+1)))) else (tl_listed.l0 k x0 x1 x2 (wrap64 (x7+1)))) else (none)) else (some false)
def tl_listed.f (k:Nat) (l0:List (S95)) (a1:Int) (a2:Bool):Option (Bool):=tl_listed.l0 k l0 a1 a2 0
set_option maxHeartbeats 8000000 in
set_option maxRecDepth 100000 in
theorem tl_listed.calls (k:Nat) (A0:Option Addr) (c0:Nat) (l0:List (S95)) (a1:Int) (a2:Bool) (r:Bool) (w:World) (hr0:Kd.C k95 w A0 l0.length l0) (hc0:l0.length≤c0) (h:tl_listed.f k l0 a1 a2=some r):
  Calls Tryz.prog 31 #[.slice A0 l0.length c0,.int .i64 a1,.bool a2] w fun e w'=>e=.returned (.bool r)∧Drawn0 w w':=by
 have HR0:=A0_ hr0;have HC0:=A0_ hc0;clear hr0 hc0
 have H:(tl_listed.l0 k l0 a1 a2 0)=some r:=h
 clear h
 have H':=A0_ H
 clear H
 go_enter Tryz.func31,Tryz.ntmps31
 go_wp2
 go_loopg [7] k (fun kq v7 w'=>∃ (x7_1:Int),v7=.int .i64 x7_1∧Aside0 (tl_listed.l0 kq l0 a1 a2 x7_1=some r)∧Aside0 (kq≤k)∧Drawn0 w w')
 case atStart=>exact ⟨(0),y4_,H',⟨Nat.le_refl _⟩,yb_⟩
 case round=>
  clear H'
  (try clear p2);(try clear c3)
  obtain ⟨x7_1,rfl,HA,HK1,⟨m1,rfl⟩⟩:=hrel
  cases gk with
  |zero=>exact absurd HA.out (by simp [tl_listed.l0])
  |succ k1=>
   have H:=HA.out
   clear HA
   simp only [tl_listed.l0] at H
   by_cases c4:x7_1<(l0.length:Int)
   ·rw [if_pos c4] at H;have c4b0:decide (x7_1<(l0.length:Int))=true:=decide_eq_true c4;clear c4
    by_cases c5:0≤x7_1
    ·rw [if_pos c5] at H;have c5b0:decide (0≤x7_1)=true:=decide_eq_true c5;clear c5
     by_cases c6:((rd_T95 l0 x7_1).f0)=a1
     ·rw [if_pos c6] at H
      have c6b0:(((rd_T95 l0 x7_1).f0) == a1)=true:=beq_iff_eq.mpr c6
      have c6b1:(((rd_T95 l0 x7_1).f0) != a1)=false:=bne_eq_false_iff_eq.mpr c6
      clear c6
      by_cases c7:(((rd_T95 l0 x7_1).f1) == a2)=true
      ·rw [if_pos c7] at H
       have c7b0:(((rd_T95 l0 x7_1).f1) == a2)=true:=c7
       (try (have c7b1:decide (((rd_T95 l0 x7_1).f1)=a2)=true:=by simpa using c7))
       (try (have c7b2:(((rd_T95 l0 x7_1).f1) == a2)=true:=by simpa using c7))
       clear c7;obtain rfl:=Option.some.inj H
       have p428:0≤(x7_1:Int):=of_decide_eq_true y5_
       have q428:x7_1<(l0.length:Int):=of_decide_eq_true y5_
       obtain ⟨ad428,e428,hx428_0,hx428_1⟩:=at_T95 HR0.out x7_1 p428 q428
       cases e428
       replace p428:=eq_true p428
       replace q428:=eq_true q428
       have p429:0≤(x7_1:Int):=of_decide_eq_true y5_
       have q429:x7_1<(l0.length:Int):=of_decide_eq_true y5_
       obtain ⟨ad429,e429,hx429_0,hx429_1⟩:=at_T95 HR0.out x7_1 p429 q429
       obtain rfl:ad428=ad429:=(by injection e429)
       replace p429:=eq_true p429
       replace q429:=eq_true q429
       go_wp2;go_ret
       exact ⟨y4_,yb_⟩
      ·rw [if_neg c7] at H
       have c7b0:(((rd_T95 l0 x7_1).f1) == a2)=false:=by simpa using c7
       (try (have c7b1:decide (((rd_T95 l0 x7_1).f1)=a2)=false:=by simpa using c7))
       (try (have c7b2:(((rd_T95 l0 x7_1).f1) == a2)=false:=by simpa using c7))
       (try (have c7b3:¬ (((rd_T95 l0 x7_1).f1)=a2):=by simpa using c7))
       clear c7
       have H':=A0_ H
       clear H
       have p428:0≤(x7_1:Int):=of_decide_eq_true y5_
       have q428:x7_1<(l0.length:Int):=of_decide_eq_true y5_
       obtain ⟨ad428,e428,hx428_0,hx428_1⟩:=at_T95 HR0.out x7_1 p428 q428
       cases e428
       replace p428:=eq_true p428
       replace q428:=eq_true q428
       have p429:0≤(x7_1:Int):=of_decide_eq_true y5_
       have q429:x7_1<(l0.length:Int):=of_decide_eq_true y5_
       obtain ⟨ad429,e429,hx429_0,hx429_1⟩:=at_T95 HR0.out x7_1 p429 q429
       obtain rfl:ad428=ad429:=(by injection e429)
       replace p429:=eq_true p429
       replace q429:=eq_true q429
       go_wp2
       go_roundg k1
       case measure=>have:=HK1.out;omega
       case rel=>exact ⟨(wrap64 (x7_1+1)),y4_,H',⟨by have:=HK1.out;omega⟩,yb_⟩
     ·rw [if_neg c6] at H
      have c6b0:(((rd_T95 l0 x7_1).f0) == a1)=false:=beq_eq_false_iff_ne.mpr c6
      have c6b1:(((rd_T95 l0 x7_1).f0) != a1)=true:=bne_iff_ne.mpr c6
      have H':=A0_ H
      clear H
      have p428:0≤(x7_1:Int):=of_decide_eq_true y5_
      have q428:x7_1<(l0.length:Int):=of_decide_eq_true y5_
      obtain ⟨ad428,e428,hx428_0,hx428_1⟩:=at_T95 HR0.out x7_1 p428 q428
      cases e428
      replace p428:=eq_true p428
      replace q428:=eq_true q428
      go_wp2
      go_roundg k1
      case measure=>have:=HK1.out;omega
      case rel=>exact ⟨(wrap64 (x7_1+1)),y4_,H',⟨by have:=HK1.out;omega⟩,yb_⟩
    ·rw [if_neg c5] at H;exact absurd H (by simp)
   ·rw [if_neg c4] at H;have c4b0:decide (x7_1<(l0.length:Int))=false:=decide_eq_false c4;clear c4;obtain rfl:=Option.some.inj H;go_wp2;go_ret
    exact ⟨y4_,yb_⟩
end Go.Proofs.YtjahbgldccjbfaaGreatDoor.PSky
end
section
namespace Go.Proofs.YtjahbgldccjbfaaGreatDoor.PSky
open Go.RowKit Go.Proofs.YtjahbgldccjbfaaGreatDoorW.PrintWords Go.Proofs.YtjahbgldccjbfaaGreatDoorW.PrintLast Go.Proofs.YtjahbgldccjbfaaGreatDoorW.PrintMore
attribute [local go_sem] max2_int min2_int max_two min_two max_three min_three max_four min_four
set_option linter.unusedVariables false
set_option linter.unusedSimpArgs false
def tr_down.f (a0:Int) (a1:Int):Option (Int):=if a1=0 then (none) else (if (wrap64 ((wrap64 (Int.tdiv a0 a1))*a1)) > a0 then (some (wrap64 ((wrap64 (Int.tdiv a0 a1)) - 1))) else (some (wrap64 (Int.tdiv a0 a1))))
set_option maxHeartbeats 8000000 in
set_option maxRecDepth 100000 in
theorem tr_down.calls (a0:Int) (a1:Int) (r:Int) (w:World) (h:tr_down.f a0 a1=some r):
  Calls Tryz.prog 129 #[.int .i64 a0,.int .i64 a1] w fun e w'=>e=.returned (.int .i64 r)∧Drawn0 w w':=by
 have H:(if a1=0 then (none) else (if (wrap64 ((wrap64 (Int.tdiv a0 a1))*a1)) > a0 then (some (wrap64 ((wrap64 (Int.tdiv a0 a1)) - 1))) else (some (wrap64 (Int.tdiv a0 a1)))))=some r:=h
 clear h
 by_cases c3:a1=0
 ·rw [if_pos c3] at H;exact absurd H (by simp)
 ·rw [if_neg c3] at H
  have c3b0:(a1 == 0)=false:=beq_eq_false_iff_ne.mpr c3
  have c3b1:(a1 != 0)=true:=bne_iff_ne.mpr c3
  by_cases c4:(wrap64 ((wrap64 (Int.tdiv a0 a1))*a1)) > a0
  ·rw [if_pos c4] at H;have c4b0:decide (a0<(wrap64 ((wrap64 (Int.tdiv a0 a1))*a1)))=true:=decide_eq_true c4;clear c4;obtain rfl:=Option.some.inj H
   go_enter Tryz.func129,Tryz.ntmps129
   go_wp2;go_ret
   exact ⟨y4_,yb_⟩
  ·rw [if_neg c4] at H;have c4b0:decide (a0<(wrap64 ((wrap64 (Int.tdiv a0 a1))*a1)))=false:=decide_eq_false c4;clear c4;obtain rfl:=Option.some.inj H
   go_enter Tryz.func129,Tryz.ntmps129
   go_wp2;go_ret
   exact ⟨y4_,yb_⟩
def tr_Less.f (a0:Int):Option (Int):=(tr_down.f a0 21600).bind fun t295=>(some (wrap64 (a0 - (wrap64 (t295*21600)))))
set_option maxHeartbeats 8000000 in
set_option maxRecDepth 100000 in
theorem tr_Less.calls (a0:Int) (r:Int) (w:World) (h:tr_Less.f a0=some r):
  Calls Tryz.prog 82 #[.int .i64 a0] w fun e w'=>e=.returned (.int .i64 r)∧Drawn0 w w':=by
 have H:((tr_down.f a0 21600).bind fun t295=>(some (wrap64 (a0 - (wrap64 (t295*21600))))))=some r:=h
 clear h;replace H:=Option.bind_eq_some_iff.mp H;obtain ⟨t295,A20,H⟩:=H
 replace H:(some (wrap64 (a0 - (wrap64 (t295*21600)))))=some r:=H
 have A2:=A0_ A20;clear A20;obtain rfl:=Option.some.inj H
 go_enter Tryz.func82,Tryz.ntmps82
 go_wp2_with (first|((with_reducible refine gate_callee (f:=129) rfl ?_);refine goesL_ (some 5) rfl rfl Tryz.func129 (by kernel_rfl) rfl #[.int .i64 a0,.int .i64 21600] rfl y1_ ?_;(with_reducible refine (tr_down.calls a0 21600 t295 _ A2.out).mono ?_);rintro e w' ⟨rfl,⟨nd,rfl⟩⟩;refine ⟨_,rfl,?_⟩))
 go_ret
 exact ⟨y4_,yb_⟩
end Go.Proofs.YtjahbgldccjbfaaGreatDoor.PSky
end
section
namespace Go.Proofs.YtjahbgldccjbfaaGreatDoor.PSky
open Go.RowKit Go.Proofs.YtjahbgldccjbfaaGreatDoorW.PrintWords Go.Proofs.YtjahbgldccjbfaaGreatDoorW.PrintLast Go.Proofs.YtjahbgldccjbfaaGreatDoorW.PrintMore
attribute [local go_sem] max2_int min2_int max_two min_two max_three min_three max_four min_four
set_option linter.unusedVariables false
set_option linter.unusedSimpArgs false
def tr_Span.f (a0:Int) (a1:Int):Option (Bool):=(tr_in.f a0 1 20000).bind fun t293=>(if t293=true then ((tr_in.f a1 a0 20000).bind fun t294=>(if t294=true then (some (decide ((wrap64 (a1 - a0))≤800))) else (some false))) else (some false))
set_option maxHeartbeats 8000000 in
set_option maxRecDepth 100000 in
theorem tr_Span.calls (a0:Int) (a1:Int) (r:Bool) (w:World) (h:tr_Span.f a0 a1=some r):
  Calls Tryz.prog 21 #[.int .i64 a0,.int .i64 a1] w fun e w'=>e=.returned (.bool r)∧Drawn0 w w':=by
 have H:((tr_in.f a0 1 20000).bind fun t293=>(if t293=true then ((tr_in.f a1 a0 20000).bind fun t294=>(if t294=true then (some (decide ((wrap64 (a1 - a0))≤800))) else (some false))) else (some false)))=some r:=h
 clear h;replace H:=Option.bind_eq_some_iff.mp H;obtain ⟨t293,A30,H⟩:=H
 replace H:(if t293=true then ((tr_in.f a1 a0 20000).bind fun t294=>(if t294=true then (some (decide ((wrap64 (a1 - a0))≤800))) else (some false))) else (some false))=some r:=H
 have A3:=A0_ A30;clear A30
 by_cases c4:t293=true
 ·subst c4
  have H1:((tr_in.f a1 a0 20000).bind fun t294=>(if t294=true then (some (decide ((wrap64 (a1 - a0))≤800))) else (some false)))=some r:=by rw [if_pos rfl] at H;exact H
  clear H;have H:=H1;clear H1;replace H:=Option.bind_eq_some_iff.mp H;obtain ⟨t294,A50,H⟩:=H
  replace H:(if t294=true then (some (decide ((wrap64 (a1 - a0))≤800))) else (some false))=some r:=H
  have A5:=A0_ A50;clear A50
  by_cases c6:t294=true
  ·subst c6
   have H1:(some (decide ((wrap64 (a1 - a0))≤800)))=some r:=by rw [if_pos rfl] at H;exact H
   clear H;have H:=H1;clear H1;obtain rfl:=Option.some.inj H
   go_enter Tryz.func21,Tryz.ntmps21
   go_wp2_with (first|((with_reducible refine gate_callee (f:=66) rfl ?_);refine goesL_ (some 6) rfl rfl Tryz.func66 (by kernel_rfl) rfl #[.int .i64 a0,.int .i64 1,.int .i64 20000] rfl y1_ ?_;(with_reducible refine (tr_in.calls a0 1 20000 true _ A3.out).mono ?_);rintro e w' ⟨rfl,⟨nd,rfl⟩⟩;refine ⟨_,rfl,?_⟩)|(go_at_call 66;(with_reducible refine (tr_in.calls a1 a0 20000 true _ A5.out).mono ?_);rintro e w' ⟨rfl,⟨nd,rfl⟩⟩))
   go_ret
   exact ⟨y4_,yb_⟩
  ·replace c6:=Bool.eq_false_iff.mpr c6;subst c6
   have H1:(some false)=some r:=by rw [if_neg (show ¬ (false=true) by decide)] at H;exact H
   clear H;have H:=H1;clear H1;obtain rfl:=Option.some.inj H
   go_enter Tryz.func21,Tryz.ntmps21
   go_wp2_with (first|((with_reducible refine gate_callee (f:=66) rfl ?_);refine goesL_ (some 6) rfl rfl Tryz.func66 (by kernel_rfl) rfl #[.int .i64 a0,.int .i64 1,.int .i64 20000] rfl y1_ ?_;(with_reducible refine (tr_in.calls a0 1 20000 true _ A3.out).mono ?_);rintro e w' ⟨rfl,⟨nd,rfl⟩⟩;refine ⟨_,rfl,?_⟩)|(go_at_call 66;(with_reducible refine (tr_in.calls a1 a0 20000 false _ A5.out).mono ?_);rintro e w' ⟨rfl,⟨nd,rfl⟩⟩))
   go_ret
   exact ⟨y4_,yb_⟩
 ·replace c4:=Bool.eq_false_iff.mpr c4;subst c4
  have H1:(some false)=some r:=by rw [if_neg (show ¬ (false=true) by decide)] at H;exact H
  clear H;have H:=H1;clear H1;obtain rfl:=Option.some.inj H
  go_enter Tryz.func21,Tryz.ntmps21
  go_wp2_with (first|((with_reducible refine gate_callee (f:=66) rfl ?_);refine goesL_ (some 6) rfl rfl Tryz.func66 (by kernel_rfl) rfl #[.int .i64 a0,.int .i64 1,.int .i64 20000] rfl y1_ ?_;(with_reducible refine (tr_in.calls a0 1 20000 false _ A3.out).mono ?_);rintro e w' ⟨rfl,⟨nd,rfl⟩⟩;refine ⟨_,rfl,?_⟩))
  go_ret
  exact ⟨y4_,yb_⟩
def tr_Apart.f (a0:Int) (a1:Int):Option (Int):=(tr_Less.f (wrap64 (a0 - a1))).bind fun t296=>(some (mn t296 (wrap64 (21600 - t296))))
set_option maxHeartbeats 8000000 in
set_option maxRecDepth 100000 in
theorem tr_Apart.calls (a0:Int) (a1:Int) (r:Int) (w:World) (h:tr_Apart.f a0 a1=some r):
  Calls Tryz.prog 29 #[.int .i64 a0,.int .i64 a1] w fun e w'=>e=.returned (.int .i64 r)∧Below w.heap.size w w':=by
 have HB:=A0_ (Below.refl w.heap.size w)
 have H:((tr_Less.f (wrap64 (a0 - a1))).bind fun t296=>(some (mn t296 (wrap64 (21600 - t296)))))=some r:=h
 clear h;replace H:=Option.bind_eq_some_iff.mp H;obtain ⟨t296,A30,H⟩:=H
 replace H:(some (mn t296 (wrap64 (21600 - t296))))=some r:=H
 have A3:=A0_ A30;clear A30
 obtain ⟨ji4,hji4⟩:∃ j_:Int,(mn t296 (wrap64 (21600 - t296)))=j_:=⟨_,rfl⟩
 replace H:(some ji4)=some r:=by first|(rw [hji4] at H;exact H)|(simp only [hji4] at H ⊢;exact H)
 (try rw [hji4] at A3)
 have hji4_:(if (wrap64 (21600 - t296))<t296 then (wrap64 (21600 - t296)) else t296)=ji4:=hji4
 obtain rfl:=Option.some.inj H
 go_enter Tryz.func29,Tryz.ntmps29
 go_wp2_with (first|((with_reducible refine gate_callee (f:=82) rfl ?_);refine goesL_ (some 9) rfl rfl Tryz.func82 (by kernel_rfl) rfl #[.int .i64 (wrap64 (a0 - a1))] rfl y1_ ?_;(with_reducible refine (tr_Less.calls (wrap64 (a0 - a1)) t296 _ A3.out).mono ?_);rintro e w' ⟨rfl,⟨nd,rfl⟩⟩;refine ⟨_,rfl,?_⟩))
 go_ret
 exact ⟨by first|rfl|(simp [errW_none,errW_some] <;> rfl)|(simp only [← hji4];first|rfl|(simp [errW_none,errW_some] <;> rfl))|(simp [*,errW_none,errW_some] <;> rfl),y0_⟩
end Go.Proofs.YtjahbgldccjbfaaGreatDoor.PSky
end
section
namespace Go.Proofs.YtjahbgldccjbfaaGreatDoor.PSky
open Go.RowKit Go.Proofs.YtjahbgldccjbfaaGreatDoorW.PrintWords Go.Proofs.YtjahbgldccjbfaaGreatDoorW.PrintLast Go.Proofs.YtjahbgldccjbfaaGreatDoorW.PrintMore
attribute [local go_sem] max2_int min2_int max_two min_two max_three min_three max_four min_four
set_option linter.unusedVariables false
set_option linter.unusedSimpArgs false
def tr_Body.f (l0_0:List (S74)) (a0_1:Int) (a0_2:Int) (a0_3:Int) (a1:Int):Option (Bool):=(tr_in.f a1 0 (wrap64 ((l0_0.length:Int) - 1))).bind fun t292=>(some t292)
set_option maxHeartbeats 8000000 in
set_option maxRecDepth 100000 in
theorem tr_Body.calls (A0_0:Option Addr) (c0_0:Nat) (l0_0:List (S74)) (a0_1:Int) (a0_2:Int) (a0_3:Int) (a1:Int) (r:Bool) (w:World) (hr0_0:Kd.C k74 w A0_0 l0_0.length l0_0) (hc0_0:l0_0.length≤c0_0) (h:tr_Body.f l0_0 a0_1 a0_2 a0_3 a1=some r):
  Calls Tryz.prog 20 #[.agg #[.slice A0_0 l0_0.length c0_0,.int .i64 a0_1,.int .i64 a0_2,.int .i64 a0_3],.int .i64 a1] w fun e w'=>e=.returned (.bool r)∧Below w.heap.size w w':=by
 have hu29:=Tryz.underlying29
 have HR0_0:=A0_ hr0_0;have HC0_0:=A0_ hc0_0;clear hr0_0 hc0_0
 have HB:=A0_ (Below.refl w.heap.size w)
 have H:((tr_in.f a1 0 (wrap64 ((l0_0.length:Int) - 1))).bind fun t292=>(some t292))=some r:=h
 clear h;replace H:=Option.bind_eq_some_iff.mp H;obtain ⟨t292,A30,H⟩:=H
 replace H:(some t292)=some r:=H
 have A3:=A0_ A30;clear A30;obtain rfl:=Option.some.inj H
 go_enter Tryz.func20,Tryz.ntmps20
 go_wp2_with (first|((with_reducible refine gate_dst (N:=2) rfl ?_);refine box_event ?hg (N:=2) ?hd (cs:=#[.slice A0_0 l0_0.length c0_0,.int .i64 a0_1,.int .i64 a0_2,.int .i64 a0_3]) (t:=29) ?hr ?_;(case hd=>rfl);(case hg=>rfl);(case hr=>first|(go_simp;done)|(go_simp;rfl));intro gb291 hg w4 hbox hb;have n0_:=A0_ (below_step y0_ hb);have n1_:=A0_ (hbox);have n2_:=A0_ ((by rw [hg];exact (below_size y0_):w.heap.size≤gb291));have n3_:=A0_ ((by rw [hg];exact (below_size y0_):w.heap.size≤gb291));clear HB;have HB:=n0_;have BK291:=n1_;have GW291:=n2_;have GE291:=n3_;clear n0_ n1_ n2_ n3_;clear hb hbox hg;obtain ⟨hcz5_0,hcz5_1,hcz5_2,hcz5_3,hfz5_0,hfz5_1,hfz5_2,hfz5_3⟩:=bq4_ BK291.out)|((with_reducible refine gate_callee (f:=66) rfl ?_);refine goesL_ (some 10) rfl rfl Tryz.func66 (by kernel_rfl) rfl #[.int .i64 a1,.int .i64 0,.int .i64 (wrap64 ((l0_0.length:Int) - 1))] rfl y1_ ?_;(with_reducible refine (tr_in.calls a1 0 (wrap64 ((l0_0.length:Int) - 1)) t292 _ A3.out).mono ?_);rintro e w' ⟨rfl,⟨nd,rfl⟩⟩;refine ⟨_,rfl,?_⟩))
 go_ret
 exact ⟨y2_,(by repeat (first|(with_reducible first|exact HB.out|apply below_alloc|apply pw_below_drewN|apply below_drew1|refine below_set ?_ GE291.out)|exact HB.out))⟩
end Go.Proofs.YtjahbgldccjbfaaGreatDoor.PSky
end
section
namespace Go.Proofs.YtjahbgldccjbfaaGreatDoor.PSky
open Go.RowKit Go.Proofs.YtjahbgldccjbfaaGreatDoorW.PrintWords Go.Proofs.YtjahbgldccjbfaaGreatDoorW.PrintLast Go.Proofs.YtjahbgldccjbfaaGreatDoorW.PrintMore
attribute [local go_sem] max2_int min2_int max_two min_two max_three min_three max_four min_four
set_option linter.unusedVariables false
set_option linter.unusedSimpArgs false
def tl_has.l0:Nat→List Int→Int→Int→Option (Bool)
 |0,_,_,_=>none
 |k+1,x0,x1,x5=>if x5<(x0.length:Int) then (if 0≤x5 then (if (rd x0 x5)=x1 then (some true) else (tl_has.l0 k x0 x1 (wrap64 (x5+1)))) else (none)) else (some false)
def tl_has.f (k:Nat) (l0:List Int) (a1:Int):Option (Bool):=tl_has.l0 k l0 a1 0
set_option maxHeartbeats 8000000 in
set_option maxRecDepth 100000 in
theorem tl_has.calls (k:Nat) (A0:Option Addr) (c0:Nat) (l0:List Int) (a1:Int) (r:Bool) (w:World) (hr0:Kd.C (Kd.int .i64) w A0 l0.length l0) (hc0:l0.length≤c0) (h:tl_has.f k l0 a1=some r):
  Calls Tryz.prog 27 #[.slice A0 l0.length c0,.int .i64 a1] w fun e w'=>e=.returned (.bool r)∧Drawn0 w w':=by
 have HR0:=A0_ hr0;have HC0:=A0_ hc0;clear hr0 hc0
 have H:(tl_has.l0 k l0 a1 0)=some r:=h
 clear h
 have H':=A0_ H
 clear H
 go_enter Tryz.func27,Tryz.ntmps27
 go_wp2
 go_loopg [5] k (fun kq v5 w'=>∃ (x5_1:Int),v5=.int .i64 x5_1∧Aside0 (tl_has.l0 kq l0 a1 x5_1=some r)∧Aside0 (kq≤k)∧Drawn0 w w')
 case atStart=>exact ⟨(0),y4_,H',⟨Nat.le_refl _⟩,yb_⟩
 case round=>
  clear H'
  (try clear c2);(try clear p2)
  obtain ⟨x5_1,rfl,HA,HK1,⟨m1,rfl⟩⟩:=hrel
  cases gk with
  |zero=>exact absurd HA.out (by simp [tl_has.l0])
  |succ k1=>
   have H:=HA.out
   clear HA
   simp only [tl_has.l0] at H
   by_cases c3:x5_1<(l0.length:Int)
   ·rw [if_pos c3] at H;have c3b0:decide (x5_1<(l0.length:Int))=true:=decide_eq_true c3;clear c3
    by_cases c4:0≤x5_1
    ·rw [if_pos c4] at H;have c4b0:decide (0≤x5_1)=true:=decide_eq_true c4;clear c4
     by_cases c5:(rd l0 x5_1)=a1
     ·rw [if_pos c5] at H
      have c5b0:((rd l0 x5_1) == a1)=true:=beq_iff_eq.mpr c5
      have c5b1:((rd l0 x5_1) != a1)=false:=bne_eq_false_iff_eq.mpr c5
      clear c5;obtain rfl:=Option.some.inj H
      have p398:0≤(x5_1:Int):=of_decide_eq_true y5_
      have q398:x5_1<(l0.length:Int):=of_decide_eq_true y5_
      obtain ⟨ad398,e398,hx398_0⟩:=Kd.at_int HR0.out x5_1 p398 q398
      cases e398
      replace p398:=eq_true p398
      replace q398:=eq_true q398
      go_wp2;go_ret
      exact ⟨y4_,yb_⟩
     ·rw [if_neg c5] at H
      have c5b0:((rd l0 x5_1) == a1)=false:=beq_eq_false_iff_ne.mpr c5
      have c5b1:((rd l0 x5_1) != a1)=true:=bne_iff_ne.mpr c5
      have H':=A0_ H
      clear H
      have p398:0≤(x5_1:Int):=of_decide_eq_true y5_
      have q398:x5_1<(l0.length:Int):=of_decide_eq_true y5_
      obtain ⟨ad398,e398,hx398_0⟩:=Kd.at_int HR0.out x5_1 p398 q398
      cases e398
      replace p398:=eq_true p398
      replace q398:=eq_true q398
      go_wp2
      go_roundg k1
      case measure=>have:=HK1.out;omega
      case rel=>exact ⟨(wrap64 (x5_1+1)),y4_,H',⟨by have:=HK1.out;omega⟩,yb_⟩
    ·rw [if_neg c4] at H;exact absurd H (by simp)
   ·rw [if_neg c3] at H;have c3b0:decide (x5_1<(l0.length:Int))=false:=decide_eq_false c3;clear c3;obtain rfl:=Option.some.inj H;go_wp2;go_ret
    exact ⟨y4_,yb_⟩
def tl_crossed.j0:Nat→Int→Int→Int→Bool→Option (Bool)
 |0,_,_,_,_=>none
 |k+1,x4,x11,x13,x48=>if x48=true then (some false) else ((tr_Less.f (wrap64 (x11 - x4))).bind fun t418=>((tr_Less.f (wrap64 ((wrap64 ((wrap64 (x13 - x4)) - t418))+10800))).bind fun t419=>(if (wrap64 (t419 - 10800)) > 0 then (some (decide ((wrap64 (t418+(wrap64 (t419 - 10800)))) ≥ 21600))) else (some false))))
def tl_crossed.f (k:Nat) (l0_0:List (S74)) (a0_1:Int) (a0_2:Int) (a0_3:Int) (a1:Int) (a2:Int) (a3:Int) (a4:Int):Option (Bool):=(sky_Between.f k l0_0 a0_1 a0_2 a0_3 a1 a2 (wrap64 (a3 - 1))).bind fun bt412=>((sky_Between.f k l0_0 a0_1 a0_2 a0_3 a1 a2 a3).bind fun bt414=>(if bt412.2=0 then (if bt414.2=0 then ((tr_Spot.f bt412.1).bind fun t416=>(if t416=true then ((tr_Spot.f bt414.1).bind fun t417=>(tl_crossed.j0 k a4 bt412.1 bt414.1 (!t417))) else (tl_crossed.j0 k a4 bt412.1 bt414.1 true))) else (tl_crossed.j0 k a4 bt412.1 bt414.1 true)) else (tl_crossed.j0 k a4 bt412.1 bt414.1 true)))
set_option maxHeartbeats 8000000 in
set_option maxRecDepth 100000 in
theorem tl_crossed.calls (k:Nat) (A0_0:Option Addr) (c0_0:Nat) (l0_0:List (S74)) (a0_1:Int) (a0_2:Int) (a0_3:Int) (a1:Int) (a2:Int) (a3:Int) (a4:Int) (r:Bool) (w:World) (hr0_0:Kd.C k74 w A0_0 l0_0.length l0_0) (hc0_0:l0_0.length≤c0_0) (h:tl_crossed.f k l0_0 a0_1 a0_2 a0_3 a1 a2 a3 a4=some r):
  Calls Tryz.prog 28 #[.agg #[.slice A0_0 l0_0.length c0_0,.int .i64 a0_1,.int .i64 a0_2,.int .i64 a0_3],.int .i64 a1,.int .i64 a2,.int .i64 a3,.int .i64 a4] w fun e w'=>e=.returned (.bool r)∧Below w.heap.size w w':=by
 have hu29:=Tryz.underlying29
 have HR0_0:=A0_ hr0_0;have HC0_0:=A0_ hc0_0;clear hr0_0 hc0_0
 have HB:=A0_ (Below.refl w.heap.size w)
 have H:((sky_Between.f k l0_0 a0_1 a0_2 a0_3 a1 a2 (wrap64 (a3 - 1))).bind fun bt412=>((sky_Between.f k l0_0 a0_1 a0_2 a0_3 a1 a2 a3).bind fun bt414=>(if bt412.2=0 then (if bt414.2=0 then ((tr_Spot.f bt412.1).bind fun t416=>(if t416=true then ((tr_Spot.f bt414.1).bind fun t417=>(tl_crossed.j0 k a4 bt412.1 bt414.1 (!t417))) else (tl_crossed.j0 k a4 bt412.1 bt414.1 true))) else (tl_crossed.j0 k a4 bt412.1 bt414.1 true)) else (tl_crossed.j0 k a4 bt412.1 bt414.1 true))))=some r:=h
 clear h;replace H:=Option.bind_eq_some_iff.mp H
 obtain ⟨⟨t412,t413⟩,A60,H⟩:=H
 replace H:((sky_Between.f k l0_0 a0_1 a0_2 a0_3 a1 a2 a3).bind fun bt414=>(if t413=0 then (if bt414.2=0 then ((tr_Spot.f t412).bind fun t416=>(if t416=true then ((tr_Spot.f bt414.1).bind fun t417=>(tl_crossed.j0 k a4 t412 bt414.1 (!t417))) else (tl_crossed.j0 k a4 t412 bt414.1 true))) else (tl_crossed.j0 k a4 t412 bt414.1 true)) else (tl_crossed.j0 k a4 t412 bt414.1 true)))=some r:=H
 have A6:=A0_ A60;clear A60;replace H:=Option.bind_eq_some_iff.mp H
 obtain ⟨⟨t414,t415⟩,A70,H⟩:=H
 replace H:(if t413=0 then (if t415=0 then ((tr_Spot.f t412).bind fun t416=>(if t416=true then ((tr_Spot.f t414).bind fun t417=>(tl_crossed.j0 k a4 t412 t414 (!t417))) else (tl_crossed.j0 k a4 t412 t414 true))) else (tl_crossed.j0 k a4 t412 t414 true)) else (tl_crossed.j0 k a4 t412 t414 true))=some r:=H
 have A7:=A0_ A70;clear A70;have HC8:=A0_ H;clear H
 go_enter Tryz.func28,Tryz.ntmps28
 go_upto_region 3 with (first|((with_reducible refine gate_dst (N:=5) rfl ?_);refine box_event ?hg (N:=5) ?hd (cs:=#[.slice A0_0 l0_0.length c0_0,.int .i64 a0_1,.int .i64 a0_2,.int .i64 a0_3]) (t:=29) ?hr ?_;(case hd=>rfl);(case hg=>rfl);(case hr=>first|(go_simp;done)|(go_simp;rfl));intro gb411 hg w9 hbox hb;have n0_:=A0_ (below_step y0_ hb);have n1_:=A0_ (hbox);have n2_:=A0_ ((by rw [hg];exact (below_size y0_):w.heap.size≤gb411));have n3_:=A0_ ((by rw [hg];exact (below_size y0_):w.heap.size≤gb411));clear HB;have HB:=n0_;have BK411:=n1_;have GW411:=n2_;have GE411:=n3_;clear n0_ n1_ n2_ n3_;clear hb hbox hg;obtain ⟨hcz10_0,hcz10_1,hcz10_2,hcz10_3,hfz10_0,hfz10_1,hfz10_2,hfz10_3⟩:=bq4_ BK411.out)|((with_reducible refine gate_callee (f:=43) rfl ?_);refine goesL_ (some 22) rfl rfl Tryz.func43 (by kernel_rfl) rfl #[.agg #[.slice A0_0 l0_0.length c0_0,.int .i64 a0_1,.int .i64 a0_2,.int .i64 a0_3],.int .i64 a1,.int .i64 a2,.int .i64 (wrap64 (a3 - 1))] rfl y1_ ?_;(with_reducible refine (sky_Between.calls k _ _ l0_0 a0_1 a0_2 a0_3 a1 a2 (wrap64 (a3 - 1)) t412 t413 _ ?side1 ?side2 A6.out).mono ?_);(case side1=>repeat (first|exact (Kd.C_below HR0_0.out HB.out)|(with_reducible refine Kd.C_alloc ?_ _)|(with_reducible refine Kd.C_drewN ?_ _)|(with_reducible refine Kd.C_drew ?_)));(case side2=>exact HC0_0.out);rintro e w11 ⟨rfl,hb⟩;refine ⟨_,rfl,?_⟩;have n0_:=A0_ (blk_below (g:=gb411) (o:=.cells #[.slice A0_0 l0_0.length c0_0,.int .i64 a0_1,.int .i64 a0_2,.int .i64 a0_3] 29 (0,0)) (bd_ BK411.out) hb);have n1_:=A0_ (below_step (by repeat (first|(with_reducible first|exact HB.out|apply below_alloc|apply pw_below_drewN|apply below_drew1|refine below_set ?_ GE411.out)|exact HB.out)) hb);clear BK411;clear HB;have BK411:=n0_;have HB:=n1_;clear n0_ n1_;(try clear hb);(try clear hb2);(try clear hk);(try clear hi);obtain ⟨hcz12_0,hcz12_1,hcz12_2,hcz12_3,hfz12_0,hfz12_1,hfz12_2,hfz12_3⟩:=bq4_ BK411.out)|((with_reducible refine gate_callee (f:=43) rfl ?_);refine goesL_ (some 30) rfl rfl Tryz.func43 (by kernel_rfl) rfl #[.agg #[.slice A0_0 l0_0.length c0_0,.int .i64 a0_1,.int .i64 a0_2,.int .i64 a0_3],.int .i64 a1,.int .i64 a2,.int .i64 a3] rfl y1_ ?_;(with_reducible refine (sky_Between.calls k _ _ l0_0 a0_1 a0_2 a0_3 a1 a2 a3 t414 t415 _ ?side1 ?side2 A7.out).mono ?_);(case side1=>repeat (first|exact (Kd.C_below HR0_0.out HB.out)|(with_reducible refine Kd.C_alloc ?_ _)|(with_reducible refine Kd.C_drewN ?_ _)|(with_reducible refine Kd.C_drew ?_)));(case side2=>exact HC0_0.out);rintro e w13 ⟨rfl,hb⟩;refine ⟨_,rfl,?_⟩;have n0_:=A0_ (blk_below (g:=gb411) (o:=.cells #[.slice A0_0 l0_0.length c0_0,.int .i64 a0_1,.int .i64 a0_2,.int .i64 a0_3] 29 (0,0)) (bd_ BK411.out) hb);have n1_:=A0_ (below_step (by repeat (first|(with_reducible first|exact HB.out|apply below_alloc|apply pw_below_drewN|apply below_drew1|refine below_set ?_ GE411.out)|exact HB.out)) hb);clear BK411;clear HB;have BK411:=n0_;have HB:=n1_;clear n0_ n1_;(try clear hb);(try clear hb2);(try clear hk);(try clear hi)))
 (try simp only [Act.put,List.setIfInBounds_toArray,List.set_cons_zero,List.set_cons_succ])
 go_cut [48] (fun v48 wc=>∃ (kq:Nat) (x48_7:Bool),v48=.bool x48_7∧Aside0 (tl_crossed.j0 kq a4 t412 t414 x48_7=some r)∧Aside0 (kq≤k)∧Aside0 (wc.heap[gb411]?=some (.cells #[(.slice A0_0 l0_0.length c0_0),.int .i64 a0_1,.int .i64 a0_2,.int .i64 a0_3] 29 (0,0)))∧Aside0 (Below w.heap.size w wc))
 case first=>
  have H:=HC8.out
  clear HC8
  by_cases c14:t413=0
  ·rw [if_pos c14] at H
   have c14b0:(t413 == 0)=true:=beq_iff_eq.mpr c14
   have c14b1:(t413 != 0)=false:=bne_eq_false_iff_eq.mpr c14
   clear c14
   (first|rw [c14b0]|(simp only [i64_w,i32_w];rw [c14b0])|skip)
   by_cases c15:t415=0
   ·rw [if_pos c15] at H
    have c15b0:(t415 == 0)=true:=beq_iff_eq.mpr c15
    have c15b1:(t415 != 0)=false:=bne_eq_false_iff_eq.mpr c15
    clear c15;replace H:=Option.bind_eq_some_iff.mp H;obtain ⟨t416,A160,H⟩:=H
    replace H:(if t416=true then ((tr_Spot.f t414).bind fun t417=>(tl_crossed.j0 k a4 t412 t414 (!t417))) else (tl_crossed.j0 k a4 t412 t414 true))=some r:=H
    have A16:=A0_ A160;clear A160
    by_cases c17:t416=true
    ·subst c17
     have H1:((tr_Spot.f t414).bind fun t417=>(tl_crossed.j0 k a4 t412 t414 (!t417)))=some r:=by rw [if_pos rfl] at H;exact H
     clear H;have H:=H1;clear H1;replace H:=Option.bind_eq_some_iff.mp H;obtain ⟨t417,A180,H⟩:=H
     replace H:(tl_crossed.j0 k a4 t412 t414 (!t417))=some r:=H
     have A18:=A0_ A180;clear A180
     have H':=A0_ H
     clear H
     go_wp2_with (first|(go_at_call 26;(with_reducible refine (tr_Spot.calls t412 true _ A16.out).mono ?_);rintro e w' ⟨rfl,⟨nd,rfl⟩⟩)|(go_at_call 26;(with_reducible refine (tr_Spot.calls t414 t417 _ A18.out).mono ?_);rintro e w' ⟨rfl,⟨nd,rfl⟩⟩))
     go_meet
     case rel=>exact ⟨_,(!t417),y4_,H',⟨by first|omega|exact Nat.le_refl _⟩,⟨by (with_reducible repeat (first|refine blk_drewN ?_ _|refine blk_drew ?_|refine blk_alloc ?_ _));exact BK411.out⟩,⟨(by repeat (first|(with_reducible first|exact HB.out|apply below_alloc|apply pw_below_drewN|apply below_drew1|refine below_set ?_ GE411.out)|exact HB.out))⟩⟩
    ·replace c17:=Bool.eq_false_iff.mpr c17;subst c17
     have H1:(tl_crossed.j0 k a4 t412 t414 true)=some r:=by rw [if_neg (show ¬ (false=true) by decide)] at H;exact H
     clear H;have H:=H1;clear H1
     have H':=A0_ H
     clear H
     go_wp2_with (first|(go_at_call 26;(with_reducible refine (tr_Spot.calls t412 false _ A16.out).mono ?_);rintro e w' ⟨rfl,⟨nd,rfl⟩⟩))
     go_meet
     case rel=>exact ⟨_,(true),y4_,H',⟨by first|omega|exact Nat.le_refl _⟩,⟨by (with_reducible repeat (first|refine blk_drewN ?_ _|refine blk_drew ?_|refine blk_alloc ?_ _));exact BK411.out⟩,⟨(by repeat (first|(with_reducible first|exact HB.out|apply below_alloc|apply pw_below_drewN|apply below_drew1|refine below_set ?_ GE411.out)|exact HB.out))⟩⟩
   ·rw [if_neg c15] at H
    have c15b0:(t415 == 0)=false:=beq_eq_false_iff_ne.mpr c15
    have c15b1:(t415 != 0)=true:=bne_iff_ne.mpr c15
    have H':=A0_ H
    clear H;go_wp2
    go_meet
    case rel=>exact ⟨_,(true),y4_,H',⟨by first|omega|exact Nat.le_refl _⟩,⟨by (with_reducible repeat (first|refine blk_drewN ?_ _|refine blk_drew ?_|refine blk_alloc ?_ _));exact BK411.out⟩,⟨(by repeat (first|(with_reducible first|exact HB.out|apply below_alloc|apply pw_below_drewN|apply below_drew1|refine below_set ?_ GE411.out)|exact HB.out))⟩⟩
  ·rw [if_neg c14] at H
   have c14b0:(t413 == 0)=false:=beq_eq_false_iff_ne.mpr c14
   have c14b1:(t413 != 0)=true:=bne_iff_ne.mpr c14
   (first|rw [c14b0]|(simp only [i64_w,i32_w];rw [c14b0])|skip)
   have H':=A0_ H
   clear H;go_wp2
   go_meet
   case rel=>exact ⟨_,(true),y4_,H',⟨by first|omega|exact Nat.le_refl _⟩,⟨by (with_reducible repeat (first|refine blk_drewN ?_ _|refine blk_drew ?_|refine blk_alloc ?_ _));exact BK411.out⟩,⟨(by repeat (first|(with_reducible first|exact HB.out|apply below_alloc|apply pw_below_drewN|apply below_drew1|refine below_set ?_ GE411.out)|exact HB.out))⟩⟩
 case rest=>
  clear HC8;(try clear c1);(try clear c2);(try clear p2);(try clear c4);(try clear p6);(try clear c14);(try clear c14b0);(try clear c14b1);(try clear c15);(try clear c15b0);(try clear c15b1);(try clear c17);(try clear hcz10_0);(try clear hcz10_1);(try clear hcz10_2);(try clear hcz10_3);(try clear hcz12_0);(try clear hcz12_1);(try clear hcz12_2);(try clear hcz12_3);(try clear hfz10_0);(try clear hfz10_1);(try clear hfz10_2);(try clear hfz10_3);(try clear hfz12_0);(try clear hfz12_1);(try clear hfz12_2);(try clear hfz12_3)
  obtain ⟨kq,x48_7,rfl,HA,HJ7,BK411,HB⟩:=hcut
  cases kq with
  |zero=>exact absurd HA.out (by simp [tl_crossed.j0])
  |succ kj7=>
   have H:=HA.out
   clear HA
   simp only [tl_crossed.j0] at H
   by_cases c19:x48_7=true
   ·subst c19
    have H1:(some false)=some r:=by rw [if_pos rfl] at H;exact H
    clear H;have H:=H1;clear H1;obtain rfl:=Option.some.inj H;go_wp2;go_ret
    exact ⟨y2_,(by repeat (first|(with_reducible first|exact HB.out|apply below_alloc|apply pw_below_drewN|apply below_drew1|refine below_set ?_ GE411.out)|exact HB.out))⟩
   ·replace c19:=Bool.eq_false_iff.mpr c19;subst c19
    have H1:((tr_Less.f (wrap64 (t412 - a4))).bind fun t418=>((tr_Less.f (wrap64 ((wrap64 ((wrap64 (t414 - a4)) - t418))+10800))).bind fun t419=>(if (wrap64 (t419 - 10800)) > 0 then (some (decide ((wrap64 (t418+(wrap64 (t419 - 10800)))) ≥ 21600))) else (some false))))=some r:=by rw [if_neg (show ¬ (false=true) by decide)] at H;exact H
    clear H;have H:=H1;clear H1;replace H:=Option.bind_eq_some_iff.mp H;obtain ⟨t418,A200,H⟩:=H
    replace H:((tr_Less.f (wrap64 ((wrap64 ((wrap64 (t414 - a4)) - t418))+10800))).bind fun t419=>(if (wrap64 (t419 - 10800)) > 0 then (some (decide ((wrap64 (t418+(wrap64 (t419 - 10800)))) ≥ 21600))) else (some false)))=some r:=H
    have A20:=A0_ A200;clear A200;replace H:=Option.bind_eq_some_iff.mp H;obtain ⟨t419,A210,H⟩:=H
    replace H:(if (wrap64 (t419 - 10800)) > 0 then (some (decide ((wrap64 (t418+(wrap64 (t419 - 10800)))) ≥ 21600))) else (some false))=some r:=H
    have A21:=A0_ A210;clear A210
    by_cases c22:(wrap64 (t419 - 10800)) > 0
    ·rw [if_pos c22] at H;have c22b0:decide (0<(wrap64 (t419 - 10800)))=true:=decide_eq_true c22;clear c22;obtain rfl:=Option.some.inj H
     go_wp2_with (first|((with_reducible refine gate_callee (f:=82) rfl ?_);refine goesL_ (some 52) rfl rfl Tryz.func82 (by kernel_rfl) rfl #[.int .i64 (wrap64 (t412 - a4))] rfl y1_ ?_;(with_reducible refine (tr_Less.calls (wrap64 (t412 - a4)) t418 _ A20.out).mono ?_);rintro e w' ⟨rfl,⟨nd,rfl⟩⟩;refine ⟨_,rfl,?_⟩)|((with_reducible refine gate_callee (f:=82) rfl ?_);refine goesL_ (some 59) rfl rfl Tryz.func82 (by kernel_rfl) rfl #[.int .i64 (wrap64 ((wrap64 ((wrap64 (t414 - a4)) - t418))+10800))] rfl y1_ ?_;(with_reducible refine (tr_Less.calls (wrap64 ((wrap64 ((wrap64 (t414 - a4)) - t418))+10800)) t419 _ A21.out).mono ?_);rintro e w' ⟨rfl,⟨nd,rfl⟩⟩;refine ⟨_,rfl,?_⟩))
     go_ret
     exact ⟨y2_,(by repeat (first|(with_reducible first|exact HB.out|apply below_alloc|apply pw_below_drewN|apply below_drew1|refine below_set ?_ GE411.out)|exact HB.out))⟩
    ·rw [if_neg c22] at H;have c22b0:decide (0<(wrap64 (t419 - 10800)))=false:=decide_eq_false c22;clear c22;obtain rfl:=Option.some.inj H
     go_wp2_with (first|((with_reducible refine gate_callee (f:=82) rfl ?_);refine goesL_ (some 52) rfl rfl Tryz.func82 (by kernel_rfl) rfl #[.int .i64 (wrap64 (t412 - a4))] rfl y1_ ?_;(with_reducible refine (tr_Less.calls (wrap64 (t412 - a4)) t418 _ A20.out).mono ?_);rintro e w' ⟨rfl,⟨nd,rfl⟩⟩;refine ⟨_,rfl,?_⟩)|((with_reducible refine gate_callee (f:=82) rfl ?_);refine goesL_ (some 59) rfl rfl Tryz.func82 (by kernel_rfl) rfl #[.int .i64 (wrap64 ((wrap64 ((wrap64 (t414 - a4)) - t418))+10800))] rfl y1_ ?_;(with_reducible refine (tr_Less.calls (wrap64 ((wrap64 ((wrap64 (t414 - a4)) - t418))+10800)) t419 _ A21.out).mono ?_);rintro e w' ⟨rfl,⟨nd,rfl⟩⟩;refine ⟨_,rfl,?_⟩))
     go_ret
     exact ⟨y2_,(by repeat (first|(with_reducible first|exact HB.out|apply below_alloc|apply pw_below_drewN|apply below_drew1|refine below_set ?_ GE411.out)|exact HB.out))⟩
end Go.Proofs.YtjahbgldccjbfaaGreatDoor.PSky
end
section
namespace Go.Proofs.YtjahbgldccjbfaaGreatDoor.PSky
open Go.RowKit Go.Proofs.YtjahbgldccjbfaaGreatDoorW.PrintWords Go.Proofs.YtjahbgldccjbfaaGreatDoorW.PrintLast Go.Proofs.YtjahbgldccjbfaaGreatDoorW.PrintMore
theorem Ev.pos {α:Type} {c:Prop} [Decidable c] {f g:Nat→Option α} {r:α} (h:c) (k:Ev f r):Ev (fun n=>if c then f n else g n) r:=by simpa only [if_pos h] using k
theorem Ev.neg {α:Type} {c:Prop} [Decidable c] {f g:Nat→Option α} {r:α} (h:¬ c) (k:Ev g r):Ev (fun n=>if c then f n else g n) r:=by simpa only [if_neg h] using k
theorem Ev.some {α:Type} (r:α):Ev (fun _=>Option.some r) r:=Ev.now r
theorem Ev.is {α:Type} {o:Option α} {r:α} (h:o=Option.some r):Ev (fun _=>o) r:=by rw [h];exact Ev.now r
theorem wrap_id {n:Int} (h:-9223372036854775808≤n∧n≤9223372036854775807):wrap64 n=n:=by unfold wrap64;omega
theorem scan {β:Type} (l:List β) (bad:β→Bool) (g:Nat→Nat→Option Int) (hlen:l.length≤1000000)
  (hyes:∀ i (h:i<l.length),bad l[i]=true→Ev (fun k=>g k i) (i:Int))
  (hno:∀ i (h:i<l.length),bad l[i]=false→∀ r,Ev (fun k=>g k (i+1)) r→Ev (fun k=>g k i) r)
  (hend:Ev (fun k=>g k l.length) (-1)):∀ m i,i+m=l.length→∃ r,Ev (fun k=>g k i) r∧decide (r ≥ 0)=(l.drop i).any bad
 |0,i,h=>⟨-1,by rw [show i=l.length by omega];exact hend,by rw [show i=l.length by omega,List.drop_length];rfl⟩
 |m+1,i,h=>by
  have hi:i<l.length:=by omega
  rw [List.drop_eq_getElem_cons hi,List.any_cons]
  cases hb:bad l[i] with
  |true=>exact ⟨i,hyes i hi hb,by simp⟩
  |false=>
   obtain ⟨r,hr,he⟩:=scan l bad g hlen hyes hno hend m (i+1) (by omega)
   exact ⟨r,hno i hi hb r hr,by simpa using he⟩
def okIn (a b c:Int):Bool:=decide (b≤a) && decide (a≤c)
theorem in_eq (a b c:Int):sky_in.f a b c=some (okIn a b c):=by
 unfold sky_in.f okIn
 by_cases h:a ≥ b
 ·rw [if_pos h,decide_eq_true (show b≤a from h),Bool.true_and]
 ·rw [if_neg h,decide_eq_false (show ¬ b≤a from h),Bool.false_and]
theorem rin_eq (a b c:Int):tr_in.f a b c=some (okIn a b c):=in_eq a b c
def okPeriod (p q:Int):Bool:=okIn p 1 10000 && (okIn q 1 10000 && decide (4*q≤p))
theorem isPeriod_eq (p q:Int):sky_isPeriod.f p q=some (okPeriod p q):=by
 unfold sky_isPeriod.f okPeriod
 simp only [in_eq,Option.bind_some]
 cases h1:okIn p 1 10000 with
 |false=>rfl
 |true=>
  cases h2:okIn q 1 10000 with
  |false=>rfl
  |true=>
   have hq:wrap64 (4*q)=4*q:=wrap_id (by simp [okIn] at h2;omega)
   rw [hq]
   rfl
theorem period_eq (p q:Int):tr_period.f p q=some (okPeriod p q):=isPeriod_eq p q
def okPlace (n:Int):Bool:=okIn n 0 21599
theorem isPlace_eq (n:Int):sky_isPlace.f n=some (okPlace n):=by unfold sky_isPlace.f;rw [in_eq];rfl
theorem Spot_eq (n:Int):tr_Spot.f n=some (okPlace n):=isPlace_eq n
def okRoad (l:List Int):Bool:=!l.any (fun n=>!okIn n (-600) 600)
def okBody (b:S74):Bool:=okPeriod b.f0.f0 b.f0.f1 && (okPlace b.f1 && (okIn (b.f2.length:Int) 1 8 && okRoad b.f2))
def okSky (l:List S74) (p q n:Int):Bool:=okIn (l.length:Int) 2 4 && (okPeriod p q && (okPlace n && !l.any (fun b=>!okBody b)))
theorem rd_get (l:List Int) (i:Nat) (h:i<l.length):rd l (i:Int)=l[i]:=by unfold rd;simp [h]
theorem rdT_get (l:List S74) (i:Nat) (h:i<l.length):rd_T74 l (i:Int)=l[i]:=by unfold rd_T74;simp [h]
theorem road_ev (l:List Int) (hl:l.length≤1000000):Ev (fun k=>cF_isSky_c1_c1.f k l) (l.any (fun n=>!okIn n (-600) 600)):=by
 obtain ⟨r,hr,he⟩:=scan l (fun n=>!okIn n (-600) 600) (fun k i=>iF_isSky_c1_c1.l0 k l (l.length:Int) (i:Int)) hl
  (fun i h hb=>by
   refine Ev.step (fun k=>by rw [iF_isSky_c1_c1.l0]) ?_
   refine Ev.pos (by omega) (Ev.pos (by omega) (Ev.pos (by omega) ?_))
   refine Ev.bind (a:=true) (Ev.is (by unfold sky_isSky_c1_c1.f;rw [in_eq,rd_get l i h];simp [hb])) ?_
   exact Ev.pos rfl (Ev.now _))
  (fun i h hb r hr=>by
   refine Ev.step (fun k=>by rw [iF_isSky_c1_c1.l0]) ?_
   refine Ev.pos (by omega) (Ev.pos (by omega) (Ev.pos (by omega) ?_))
   refine Ev.bind (a:=false) (Ev.is (by unfold sky_isSky_c1_c1.f;rw [in_eq,rd_get l i h];simp [hb])) ?_
   refine Ev.neg (by simp) ?_
   rw [wrap_id (by omega)]
   exact hr)
  (by
   refine Ev.step (fun k=>by rw [iF_isSky_c1_c1.l0]) ?_
   exact Ev.neg (by omega) (Ev.now _)) l.length 0 (by omega)
 unfold cF_isSky_c1_c1.f iF_isSky_c1_c1.f
 refine Ev.bind hr ?_
 rw [he]
 exact Ev.now _
theorem body_ev (b:S74):Ev (fun k=>sky_isSky_c1.f k b.f0.f0 b.f0.f1 b.f1 b.f2) (!okBody b):=by
 unfold sky_isSky_c1.f okBody
 refine Ev.bind (Ev.is (isPeriod_eq _ _)) ?_
 cases h1:okPeriod b.f0.f0 b.f0.f1 with
 |false=>exact Ev.neg (by simp) (Ev.now _)
 |true=>
  refine Ev.pos rfl (Ev.bind (Ev.is (isPlace_eq _)) ?_)
  cases h2:okPlace b.f1 with
  |false=>exact Ev.neg (by simp) (Ev.now _)
  |true=>
   refine Ev.pos rfl (Ev.bind (Ev.is (in_eq _ _ _)) ?_)
   cases h3:okIn (b.f2.length:Int) 1 8 with
   |false=>exact Ev.neg (by simp) (Ev.now _)
   |true=>
    refine Ev.pos rfl (Ev.bind (road_ev b.f2 (by simp [okIn] at h3;omega)) ?_)
    simp only [okRoad,Bool.true_and,Bool.not_not]
    exact Ev.now _
theorem bodies_ev (l:List S74) (hl:l.length≤1000000):Ev (fun k=>cF_isSky_c1.f k l) (l.any (fun b=>!okBody b)):=by
 obtain ⟨r,hr,he⟩:=scan l (fun b=>!okBody b) (fun k i=>iF_isSky_c1.l0 k l (l.length:Int) (i:Int)) hl
  (fun i h hb=>by
   refine Ev.step (fun k=>by rw [iF_isSky_c1.l0]) ?_
   refine Ev.pos (by omega) (Ev.pos (by omega) (Ev.pos (by omega) ?_))
   rw [rdT_get l i h]
   refine Ev.bind (body_ev _) ?_
   rw [hb]
   exact Ev.pos rfl (Ev.now _))
  (fun i h hb r hr=>by
   refine Ev.step (fun k=>by rw [iF_isSky_c1.l0]) ?_
   refine Ev.pos (by omega) (Ev.pos (by omega) (Ev.pos (by omega) ?_))
   rw [rdT_get l i h]
   refine Ev.bind (body_ev _) ?_
   rw [hb]
   refine Ev.neg (by simp) ?_
   rw [wrap_id (by omega)]
   exact hr)
  (by
   refine Ev.step (fun k=>by rw [iF_isSky_c1.l0]) ?_
   exact Ev.neg (by omega) (Ev.now _)) l.length 0 (by omega)
 unfold cF_isSky_c1.f iF_isSky_c1.f
 refine Ev.bind hr ?_
 rw [he]
 exact Ev.now _
theorem isSky_ev (l:List S74) (p q n:Int):Ev (fun k=>sky_isSky.f k l p q n) (okSky l p q n):=by
 unfold sky_isSky.f okSky
 refine Ev.bind (Ev.is (in_eq _ _ _)) ?_
 cases h1:okIn (l.length:Int) 2 4 with
 |false=>exact Ev.neg (by simp) (Ev.now _)
 |true=>
  refine Ev.pos rfl (Ev.bind (Ev.is (isPeriod_eq _ _)) ?_)
  cases h2:okPeriod p q with
  |false=>exact Ev.neg (by simp) (Ev.now _)
  |true=>
   refine Ev.pos rfl (Ev.bind (Ev.is (isPlace_eq _)) ?_)
   cases h3:okPlace n with
   |false=>exact Ev.neg (by simp) (Ev.now _)
   |true=>
    refine Ev.pos rfl (Ev.bind (bodies_ev l (by simp [okIn] at h1;omega)) ?_)
    simp only [Bool.true_and]
    exact Ev.now _
theorem refroad_ok (l:List S74) (p q n:Int) (i:Int) (b:S74) (hb:b.f2.length≤1000000) (r:Bool) (hall:∀ x∈b.f2,okIn x (-600) 600=true)
  (hr:Ev (fun k=>tr_Sky.l0 k (wrap64 (i+1)) l p q n) r):∀ m j:Nat,j+m=b.f2.length →
  Ev (fun k=>tr_Sky.l1 k i (j:Int) l p q n b.f0.f0 b.f0.f1 b.f1 b.f2) r
 |0,j,h=>by
  refine Ev.step (fun k=>by rw [tr_Sky.l1]) ?_
  exact Ev.neg (by omega) hr
 |m+1,j,h=>by
  have hj:j<b.f2.length:=by omega
  refine Ev.step (fun k=>by rw [tr_Sky.l1]) ?_
  refine Ev.pos (by omega) (Ev.pos (by omega) ?_)
  refine Ev.bind (a:=true) (Ev.is (by rw [rin_eq,rd_get _ j hj,hall _ (List.getElem_mem hj)])) (Ev.pos rfl ?_)
  rw [wrap_id (by omega)]
  exact refroad_ok l p q n i b hb r hall hr m (j+1) (by omega)
theorem refroad_bad (l:List S74) (p q n:Int) (i:Int) (b:S74) (hb:b.f2.length≤1000000):∀ m j:Nat,j+m=b.f2.length→(b.f2.drop j).any (fun n=>!okIn n (-600) 600)=true →
  Ev (fun k=>tr_Sky.l1 k i (j:Int) l p q n b.f0.f0 b.f0.f1 b.f1 b.f2) false
 |0,j,h,hbad=>by
  rw [show j=b.f2.length by omega,List.drop_length] at hbad
  cases hbad
 |m+1,j,h,hbad=>by
  have hj:j<b.f2.length:=by omega
  rw [List.drop_eq_getElem_cons hj,List.any_cons] at hbad
  refine Ev.step (fun k=>by rw [tr_Sky.l1]) ?_
  refine Ev.pos (by omega) (Ev.pos (by omega) ?_)
  refine Ev.bind (Ev.is (by rw [rin_eq,rd_get _ j hj])) ?_
  cases hq:okIn b.f2[j] (-600) 600 with
  |false=>exact Ev.neg (by simp) (Ev.now _)
  |true=>
   rw [hq] at hbad
   refine Ev.pos rfl ?_
   rw [wrap_id (by omega)]
   exact refroad_bad l p q n i b hb m (j+1) (by omega) (by simpa using hbad)
theorem refSky_loop (l:List S74) (p q n:Int) (hl:l.length≤1000000):∀ m i:Nat,i+m=l.length →
  Ev (fun k=>tr_Sky.l0 k (i:Int) l p q n) ((l.drop i).all okBody && (okIn (l.length:Int) 2 4 && (okPeriod p q && okPlace n)))
 |0,i,h=>by
  rw [show i=l.length by omega,List.drop_length]
  refine Ev.step (fun k=>by rw [tr_Sky.l0]) ?_
  refine Ev.neg (by omega) (Ev.bind (Ev.is (rin_eq _ _ _)) ?_)
  cases h1:okIn (l.length:Int) 2 4 with
  |false=>exact Ev.neg (by simp) (Ev.now _)
  |true=>
   refine Ev.pos rfl (Ev.bind (Ev.is (period_eq _ _)) ?_)
   cases h2:okPeriod p q with
   |false=>exact Ev.neg (by simp) (Ev.now _)
   |true=>
    refine Ev.pos rfl (Ev.bind (Ev.is (Spot_eq _)) ?_)
    simp only [List.all_nil,Bool.true_and]
    exact Ev.now _
 |m+1,i,h=>by
  have hi:i<l.length:=by omega
  rw [List.drop_eq_getElem_cons hi,List.all_cons]
  have ih:=refSky_loop l p q n hl m (i+1) (by omega)
  refine Ev.step (fun k=>by rw [tr_Sky.l0]) ?_
  refine Ev.pos (by omega) (Ev.pos (by omega) ?_)
  rw [rdT_get l i hi]
  generalize l[i]=b
  have bad:∀ R:Bool,Ev (fun k=>tr_Sky.j1 k (i:Int) true l p q n b.f0.f0 b.f0.f1 b.f1 b.f2) (false && R):=fun R=>by
   refine Ev.step (fun k=>by rw [tr_Sky.j1]) ?_
   exact Ev.pos rfl (Ev.now _)
  unfold okBody
  refine Ev.bind (Ev.is (period_eq _ _)) ?_
  cases h1:okPeriod b.f0.f0 b.f0.f1 with
  |false=>exact Ev.neg (by simp) (bad _)
  |true=>
   refine Ev.pos rfl (Ev.bind (Ev.is (Spot_eq _)) ?_)
   cases h2:okPlace b.f1 with
   |false=>exact Ev.neg (by simp) (bad _)
   |true=>
    refine Ev.pos rfl (Ev.bind (Ev.is (rin_eq _ _ _)) ?_)
    cases h3:okIn (b.f2.length:Int) 1 8 with
    |false=>exact bad _
    |true=>
     have hbl:b.f2.length≤1000000:=by simp [okIn] at h3;omega
     refine Ev.step (fun k=>by rw [tr_Sky.j1]) ?_
     refine Ev.neg (by simp) ?_
     cases h4:okRoad b.f2 with
     |false=>exact refroad_bad l p q n i b hbl b.f2.length 0 (by omega) (by simpa [okRoad] using h4)
     |true=>
      simp only [Bool.true_and]
      have h5:∀ x∈b.f2,okIn x (-600) 600=true:=by
       intro x hx
       unfold okRoad at h4
       cases hq:okIn x (-600) 600 with
       |true=>rfl
       |false=>
        have:b.f2.any (fun n=>!okIn n (-600) 600)=true:=List.any_eq_true.mpr ⟨x,hx,by simp [hq]⟩
        rw [this] at h4
        cases h4
      refine refroad_ok l p q n i b hbl _ h5 ?_ b.f2.length 0 (by omega)
      rw [wrap_id (by omega)]
      exact ih
theorem any_all (f:S74→Bool) (l:List S74):(!l.any (fun b=>!f b))=l.all f:=by
 induction l with
 |nil=>rfl
 |cons b t ih=>simp [ih]
theorem refSky_ev (l:List S74) (p q n:Int) (hl:l.length≤1000000):Ev (fun k=>tr_Sky.f k l p q n) (okSky l p q n):=by
 have h:=refSky_loop l p q n hl l.length 0 (by omega)
 rw [List.drop_zero] at h
 have e:okSky l p q n=(l.all okBody && (okIn (l.length:Int) 2 4 && (okPeriod p q && okPlace n))):=by
  unfold okSky
  rw [any_all]
  cases l.all okBody <;> cases okIn (l.length:Int) 2 4 <;> cases okPeriod p q <;> cases okPlace n <;> rfl
 rw [e]
 exact h
theorem short_ev (l:List S74) (p q n:Int):∃ b,Ev (fun k=>tl_short.f k l p q n) b∧(b=true→l.length≤6):=by
 have key:∀ m i:Nat,i+m=7→∃ b,Ev (fun k=>tl_short.l0 k (i:Int) l p q n) b∧(b=true→l.length≤6):=by
  intro m
  induction m with
  |zero=>
   intro i h
   have fin:∀ c:Bool,c=false→Ev (fun k=>tl_short.j1 k (i:Int) c l p q n) (decide ((l.length:Int)≤6)):=fun c hc=>by
    refine Ev.step (fun k=>by rw [tl_short.j1]) ?_
    exact Ev.neg (by simp [hc]) (Ev.now _)
   refine ⟨decide ((l.length:Int)≤6),?_,fun h=>by have:=of_decide_eq_true h;omega⟩
   refine Ev.step (fun k=>by rw [tl_short.l0]) ?_
   by_cases hi:(i:Int)<(l.length:Int)
   ·exact Ev.pos hi (fin _ (decide_eq_false (by omega)))
   ·exact Ev.neg hi (fin _ rfl)
  |succ m ih=>
   intro i h
   by_cases hi:(i:Int)<(l.length:Int)
   ·by_cases hr:((rd_T74 l (i:Int)).f2.length:Int) > 10
    ·refine ⟨false,?_,fun h=>by cases h⟩
     refine Ev.step (fun k=>by rw [tl_short.l0]) (Ev.pos hi ?_)
     refine Ev.step (fun k=>by rw [tl_short.j1]) (Ev.pos (by simp;omega) ?_)
     exact Ev.pos (by omega) (Ev.pos hi (Ev.pos hr (Ev.now _)))
    ·obtain ⟨b,hb,hb6⟩:=ih (i+1) (by omega)
     refine ⟨b,?_,hb6⟩
     refine Ev.step (fun k=>by rw [tl_short.l0]) (Ev.pos hi ?_)
     refine Ev.step (fun k=>by rw [tl_short.j1]) (Ev.pos (by simp;omega) ?_)
     refine Ev.pos (by omega) (Ev.pos hi (Ev.neg hr ?_))
     rw [wrap_id (by omega)]
     exact hb
   ·refine ⟨decide ((l.length:Int)≤6),?_,fun h=>by have:=of_decide_eq_true h;omega⟩
    refine Ev.step (fun k=>by rw [tl_short.l0]) (Ev.neg hi ?_)
    refine Ev.step (fun k=>by rw [tl_short.j1]) ?_
    exact Ev.neg (by simp) (Ev.now _)
 unfold tl_short.f
 exact key 7 0 rfl
def okSpan (a b:Int):Bool:=okIn a 1 20000 && (okIn b a 20000 && decide (b - a≤800))
theorem isSpan_eq (a b:Int):sky_isSpan.f a b=some (okSpan a b):=by
 unfold sky_isSpan.f okSpan
 rw [in_eq,Option.bind_some]
 cases h1:okIn a 1 20000 with
 |false=>rfl
 |true=>
  rw [in_eq]
  cases h2:okIn b a 20000 with
  |false=>rfl
  |true=>
   have hq:wrap64 (b - a)=b - a:=wrap_id (by simp [okIn] at h1 h2;omega)
   rw [hq]
   rfl
end Go.Proofs.YtjahbgldccjbfaaGreatDoor.PSky
end
section
namespace Go.Proofs.YtjahbgldccjbfaaGreatDoor.PSky
open Go.RowKit Go.Proofs.YtjahbgldccjbfaaGreatDoorW.PrintWords Go.Proofs.YtjahbgldccjbfaaGreatDoorW.PrintLast Go.Proofs.YtjahbgldccjbfaaGreatDoorW.PrintMore
theorem tquot {a b:Int} (hb:0<b):(Int.tmod a b<0→a / b=Int.tdiv a b - 1∧a % b=Int.tmod a b+b)∧(0≤Int.tmod a b→a / b=Int.tdiv a b∧a % b=Int.tmod a b):=by
 have h1:=Int.tmod_add_mul_tdiv a b
 have h2:=Int.tmod_lt_of_pos a hb
 have h3:=Int.lt_tmod_of_pos a hb
 refine ⟨fun h=>?_,fun h=>?_⟩
 ·exact (Int.ediv_emod_unique hb).mpr ⟨by rw [Int.mul_sub,Int.mul_one];omega,by omega,by omega⟩
 ·exact (Int.ediv_emod_unique hb).mpr ⟨by omega,h,h2⟩
theorem tdiv_le {a b:Int} (hb:0<b) {m:Int} (ha:-m≤a∧a≤m) (hm:0≤m):-m - 1≤a / b∧a / b≤m:=by
 constructor
 ·have:(-m - 1)≤a / b:=by
   rw [Int.le_ediv_iff_mul_le hb]
   have:=Int.mul_le_mul_of_nonneg_left (show (1:Int)≤b by omega) (show (0:Int)≤m+1 by omega)
   have e:(-m - 1)*b = -((m+1)*b):=by rw [← Int.neg_mul];congr 1;omega
   omega
  exact this
 ·have:a / b≤m:=by
   have h1:a / b*b≤a:=Int.ediv_mul_le a (by omega)
   rcases Int.lt_or_le (a / b) 0 with h|h
   ·omega
   ·have:=Int.mul_le_mul_of_nonneg_left (show (1:Int)≤b by omega) h
    omega
  exact this
theorem floor_eq {a b:Int} (hb:0<b) (hb2:b≤1000000000000) (ha:-1000000000000000000≤a∧a≤1000000000000000000):sky_floor.f a b=some (a / b,a % b):=by
 have q:=tdiv_le hb ha (by decide)
 have m0:=Int.emod_nonneg a (show b≠0 by omega)
 have m1:=Int.emod_lt_of_pos a hb
 unfold sky_floor.f
 rw [if_neg (by omega)]
 by_cases h:Int.tmod a b<0
 ·obtain ⟨e1,e2⟩:=(tquot (a:=a) hb).1 h
  rw [if_pos h,e1,e2]
  rw [e1] at q
  rw [e2] at m0 m1
  rw [wrap_id (show -9223372036854775808≤a.tdiv b∧a.tdiv b≤9223372036854775807 by omega),wrap_id (by omega),wrap_id (by omega)]
 ·obtain ⟨e1,e2⟩:=(tquot (a:=a) hb).2 (by omega)
  rw [if_neg h,e1,e2]
  rw [e1] at q
  rw [wrap_id (show -9223372036854775808≤a.tdiv b∧a.tdiv b≤9223372036854775807 by omega)]
theorem around_eq {a:Int} (ha:-1000000000000000000≤a∧a≤1000000000000000000):sky_around.f a=some (a % 21600):=by
 unfold sky_around.f
 rw [floor_eq (by decide) (by decide) ha]
 rfl
theorem down_eq {a b:Int} (hb:0<b) (hb2:b≤1000000) (ha:-1000000000000≤a∧a≤1000000000000):tr_down.f a b=some (a / b):=by
 have q:=tdiv_le hb ha (by decide)
 have h0:=Int.tmod_add_mul_tdiv a b
 have h2:=Int.tmod_lt_of_pos a hb
 have h3:=Int.lt_tmod_of_pos a hb
 have e0:a.tdiv b*b=b*a.tdiv b:=Int.mul_comm _ _
 unfold tr_down.f
 rw [if_neg (by omega)]
 by_cases h:Int.tmod a b<0
 ·obtain ⟨e1,e2⟩:=(tquot (a:=a) hb).1 h
  rw [e1] at q ⊢
  rw [wrap_id (show -9223372036854775808≤a.tdiv b∧a.tdiv b≤9223372036854775807 by omega),wrap_id (show -9223372036854775808≤a.tdiv b*b∧a.tdiv b*b≤9223372036854775807 by omega),if_pos (by omega),wrap_id (by omega)]
 ·obtain ⟨e1,e2⟩:=(tquot (a:=a) hb).2 (by omega)
  rw [e1] at q ⊢
  rw [wrap_id (show -9223372036854775808≤a.tdiv b∧a.tdiv b≤9223372036854775807 by omega),wrap_id (show -9223372036854775808≤a.tdiv b*b∧a.tdiv b*b≤9223372036854775807 by omega),if_neg (by omega)]
theorem Less_eq {a:Int} (ha:-1000000000000≤a∧a≤1000000000000):tr_Less.f a=some (a % 21600):=by
 unfold tr_Less.f
 rw [down_eq (by decide) (by decide) ha,Option.bind_some]
 have h1:=Int.emod_add_mul_ediv a 21600
 have h2:=Int.emod_nonneg a (show (21600:Int)≠0 by decide)
 have h3:=Int.emod_lt_of_pos a (show (0:Int)<21600 by decide)
 rw [wrap_id (show -9223372036854775808≤a / 21600*21600∧a / 21600*21600≤9223372036854775807 by omega),wrap_id (by omega)]
 congr 1
 omega
def goneOf (p q d:Int):Int:=d*21600*q / p
def meanOf (b:S74) (d:Int):Int:=b.f1+goneOf b.f0.f0 b.f0.f1 d
def stepOf (b:S74) (d:Int):Int:=(meanOf b d % 21600)*(b.f2.length:Int)
def wayOf (b:S74) (d:Int):Int:=
 meanOf b d+rd b.f2 (stepOf b d / 21600)+(rd b.f2 ((stepOf b d / 21600+1) % (b.f2.length:Int)) - rd b.f2 (stepOf b d / 21600))*(stepOf b d % 21600) / 21600
theorem okIn_iff {a b c:Int}:okIn a b c=true ↔ b≤a∧a≤c:=by simp [okIn]
theorem period_of {p q:Int} (h:okPeriod p q=true):1≤p∧p≤10000∧1≤q∧q≤10000∧4*q≤p:=by
 simp only [okPeriod,Bool.and_eq_true,okIn_iff,decide_eq_true_eq] at h
 omega
theorem gone_bounds {p q d:Int} (h:okPeriod p q=true) (hd:0≤d∧d≤20000):0≤goneOf p q d∧goneOf p q d≤108000000∧0≤d*21600*q∧d*21600*q≤4320000000000:=by
 have hp:=period_of h
 have h1:d*21600*q=d*q*21600:=by rw [Int.mul_assoc,Int.mul_comm 21600 q,← Int.mul_assoc]
 have h0:0≤d*q:=Int.mul_nonneg hd.1 (by omega)
 have h2:d*q≤20000*q:=Int.mul_le_mul_of_nonneg_right hd.2 (by omega)
 refine ⟨Int.ediv_nonneg (by omega) (by omega),?_,by omega,by omega⟩
 unfold goneOf
 have h3:d*21600*q / p*p≤d*21600*q:=Int.ediv_mul_le _ (by omega)
 rcases Int.lt_or_le (d*21600*q / p) 108000001 with h4|h4
 ·omega
 ·have h5:=Int.mul_le_mul h4 (show 4*q≤p by omega) (by omega) (by omega)
  have h6:108000001*(4*q)=432000004*q:=by omega
  omega
theorem mean_bounds {b:S74} {d:Int} (h:okBody b=true) (hd:0≤d∧d≤20000):0≤meanOf b d∧meanOf b d≤108021599:=by
 simp only [okBody,Bool.and_eq_true,okPlace,okIn_iff] at h
 have:=gone_bounds h.1 hd
 unfold meanOf
 omega
theorem road_bounds {b:S74} (h:okBody b=true) (i:Int):-600≤rd b.f2 i∧rd b.f2 i≤600:=by
 simp only [okBody,Bool.and_eq_true] at h
 have h4:=h.2.2.2
 unfold rd
 rw [List.getD_eq_getElem?_getD]
 cases hq:b.f2[i.toNat]? with
 |none=>decide
 |some x=>
  have hx:=List.mem_of_getElem? hq
  have:okIn x (-600) 600=true:=by
   cases h5:okIn x (-600) 600 with
   |true=>rfl
   |false=>
    unfold okRoad at h4
    rw [List.any_eq_true.mpr ⟨x,hx,by simp [h5]⟩] at h4
    cases h4
  exact okIn_iff.mp this
theorem body_len {b:S74} (h:okBody b=true):1≤b.f2.length∧b.f2.length≤8:=by
 simp only [okBody,Bool.and_eq_true,okIn_iff] at h
 omega
theorem step_bounds {b:S74} {d:Int} (h:okBody b=true):0≤stepOf b d∧stepOf b d≤172800∧0≤stepOf b d / 21600∧stepOf b d / 21600<(b.f2.length:Int):=by
 have hl:=body_len h
 have h2:=Int.emod_nonneg (meanOf b d) (show (21600:Int)≠0 by decide)
 have h3:=Int.emod_lt_of_pos (meanOf b d) (show (0:Int)<21600 by decide)
 unfold stepOf
 generalize meanOf b d % 21600=x at h2 h3 ⊢
 have h4:0≤x*(b.f2.length:Int):=Int.mul_nonneg h2 (by omega)
 have h5:x*(b.f2.length:Int)≤21599*(b.f2.length:Int):=Int.mul_le_mul_of_nonneg_right (by omega) (by omega)
 refine ⟨h4,by omega,by omega,by omega⟩
theorem gone_eq (l:List S74) (a1 a2 a3:Int) {p q d:Int} (h:okPeriod p q=true) (hd:0≤d∧d≤20000):ss_gone.f l a1 a2 a3 d p q=some (goneOf p q d):=by
 have hg:=gone_bounds h hd
 have hp:=period_of h
 unfold ss_gone.f
 rw [wrap_id (show -9223372036854775808≤d*21600∧d*21600≤9223372036854775807 by omega),wrap_id (by omega),floor_eq (by omega) (by omega) (by omega)]
 rfl
theorem sum2_ev (a b:Int) (h:-1000000000≤a∧a≤1000000000) (h':-1000000000≤b∧b≤1000000000):Ev (fun k=>sky_sum.f k [a,b]) (a+b):=by
 unfold sky_sum.f
 rw [show (([a,b].length:Nat):Int)=2 from rfl]
 have w1:wrap64 (0+1)=1:=by kernel_rfl
 have w2:wrap64 (1+1)=2:=by kernel_rfl
 refine Ev.step (fun k=>by rw [sky_sum.l0]) ?_
 refine Ev.pos (by decide) (Ev.pos (by decide) (Ev.pos (by show (0:Int)<2;decide) ?_))
 rw [w1]
 refine Ev.step (fun k=>by rw [sky_sum.l0]) ?_
 refine Ev.pos (by decide) (Ev.pos (by decide) (Ev.pos (by show (1:Int)<2;decide) ?_))
 rw [w2]
 refine Ev.step (fun k=>by rw [sky_sum.l0]) ?_
 refine Ev.neg (by decide) ?_
 rw [show rd [a,b] 0=a from rfl,show rd [a,b] 1=b from rfl,wrap_id (show -9223372036854775808≤0+a∧0+a≤9223372036854775807 by omega),wrap_id (by omega),Int.zero_add]
 exact Ev.now _
theorem sum3_ev (a b c:Int) (h:-1000000000≤a∧a≤1000000000) (h':-1000000000≤b∧b≤1000000000) (h'':-1000000000≤c∧c≤1000000000):Ev (fun k=>sky_sum.f k [a,b,c]) (a+b+c):=by
 unfold sky_sum.f
 rw [show (([a,b,c].length:Nat):Int)=3 from rfl]
 have w1:wrap64 (0+1)=1:=by kernel_rfl
 have w2:wrap64 (1+1)=2:=by kernel_rfl
 have w3:wrap64 (2+1)=3:=by kernel_rfl
 refine Ev.step (fun k=>by rw [sky_sum.l0]) ?_
 refine Ev.pos (by decide) (Ev.pos (by decide) (Ev.pos (by show (0:Int)<3;decide) ?_))
 rw [w1]
 refine Ev.step (fun k=>by rw [sky_sum.l0]) ?_
 refine Ev.pos (by decide) (Ev.pos (by decide) (Ev.pos (by show (1:Int)<3;decide) ?_))
 rw [w2]
 refine Ev.step (fun k=>by rw [sky_sum.l0]) ?_
 refine Ev.pos (by decide) (Ev.pos (by decide) (Ev.pos (by show (2:Int)<3;decide) ?_))
 rw [w3]
 refine Ev.step (fun k=>by rw [sky_sum.l0]) ?_
 refine Ev.neg (by decide) ?_
 rw [show rd [a,b,c] 0=a from rfl,show rd [a,b,c] 1=b from rfl,show rd [a,b,c] 2=c from rfl,wrap_id (show -9223372036854775808≤0+a∧0+a≤9223372036854775807 by omega),wrap_id (show -9223372036854775808≤0+a+b∧0+a+b≤9223372036854775807 by omega),wrap_id (by omega),Int.zero_add]
 exact Ev.now _
theorem mean_ev (l:List S74) (a1 a2 a3 d:Int) (i:Nat) (hi:i<l.length) (h:okBody l[i]=true) (hd:0≤d∧d≤20000):Ev (fun k=>ss_mean.f k l a1 a2 a3 d (i:Int)) (meanOf l[i] d):=by
 unfold ss_mean.f
 refine Ev.pos (by omega) (Ev.pos (by omega) ?_)
 rw [rdT_get l i hi]
 generalize l[i]=b at h
 have hp:okPeriod b.f0.f0 b.f0.f1=true:=by simp only [okBody,Bool.and_eq_true] at h;exact h.1
 have hs:0≤b.f1∧b.f1≤21599:=by simp only [okBody,Bool.and_eq_true,okPlace,okIn_iff] at h;exact h.2.1
 have hg:=gone_bounds hp hd
 refine Ev.bind (Ev.is (gone_eq l a1 a2 a3 hp hd)) (Ev.bind (sum2_ev _ _ (by omega) (by omega)) (Ev.now _))
theorem way_ev (l:List S74) (a1 a2 a3 d:Int) (i:Nat) (hi:i<l.length) (h:okBody l[i]=true) (hd:0≤d∧d≤20000):Ev (fun k=>ss_way.f k l a1 a2 a3 d (i:Int)) (wayOf l[i] d):=by
 have hm:=mean_ev l a1 a2 a3 d i hi h hd
 unfold ss_way.f
 refine Ev.pos (by omega) (Ev.pos (by omega) (Ev.bind hm ?_))
 rw [rdT_get l i hi]
 generalize l[i]=b at h
 have hmb:=mean_bounds h hd
 have hl:=body_len h
 have hs:=step_bounds (d:=d) h
 refine Ev.bind (Ev.is (around_eq (by omega))) ?_
 rw [show meanOf b d % 21600*(b.f2.length:Int)=stepOf b d from rfl,wrap_id (show -9223372036854775808≤stepOf b d∧stepOf b d≤9223372036854775807 by omega)]
 refine Ev.bind (Ev.is (floor_eq (by decide) (by decide) (by omega))) ?_
 simp only
 rw [wrap_id (show -9223372036854775808≤stepOf b d / 21600+1∧stepOf b d / 21600+1≤9223372036854775807 by omega)]
 have ht:Int.tmod (stepOf b d / 21600+1) (b.f2.length:Int)=(stepOf b d / 21600+1) % (b.f2.length:Int):=Int.tmod_eq_emod_of_nonneg (by omega)
 rw [ht]
 have h2:=Int.emod_nonneg (stepOf b d / 21600+1) (show (b.f2.length:Int)≠0 by omega)
 have h3:=Int.emod_lt_of_pos (stepOf b d / 21600+1) (show (0:Int)<(b.f2.length:Int) by omega)
 refine Ev.neg (by omega) (Ev.pos h2 (Ev.pos h3 (Ev.pos hs.2.2.1 (Ev.pos hs.2.2.2 ?_))))
 have r1:=road_bounds h (stepOf b d / 21600)
 have r2:=road_bounds h ((stepOf b d / 21600+1) % (b.f2.length:Int))
 have p0:=Int.emod_nonneg (stepOf b d) (show (21600:Int)≠0 by decide)
 have p1:=Int.emod_lt_of_pos (stepOf b d) (show (0:Int)<21600 by decide)
 unfold wayOf
 generalize rd b.f2 (stepOf b d / 21600)=x at r1 ⊢
 generalize rd b.f2 ((stepOf b d / 21600+1) % (b.f2.length:Int))=y at r2 ⊢
 generalize stepOf b d % 21600=z at p0 p1 ⊢
 have q:-25920000≤(y - x)*z∧(y - x)*z≤25920000:=by
  constructor
  ·have:=Int.mul_le_mul_of_nonneg_right (show -1200≤y - x by omega) p0
   omega
  ·have:=Int.mul_le_mul_of_nonneg_right (show y - x≤1200 by omega) p0
   omega
 rw [wrap_id (show -9223372036854775808≤y - x∧y - x≤9223372036854775807 by omega),wrap_id (show -9223372036854775808≤(y - x)*z∧(y - x)*z≤9223372036854775807 by omega)]
 refine Ev.bind (Ev.is (floor_eq (by decide) (by decide) (by omega))) (Ev.bind (sum3_ev _ _ _ (by omega) (by omega) (by simp only;omega)) (Ev.now _))
theorem way_bounds {b:S74} {d:Int} (h:okBody b=true) (hd:0≤d∧d≤20000):-2000≤wayOf b d∧wayOf b d≤108030000:=by
 have hmb:=mean_bounds h hd
 have r1:=road_bounds h (stepOf b d / 21600)
 have r2:=road_bounds h ((stepOf b d / 21600+1) % (b.f2.length:Int))
 have p0:=Int.emod_nonneg (stepOf b d) (show (21600:Int)≠0 by decide)
 have p1:=Int.emod_lt_of_pos (stepOf b d) (show (0:Int)<21600 by decide)
 unfold wayOf
 generalize rd b.f2 (stepOf b d / 21600)=x at r1 ⊢
 generalize rd b.f2 ((stepOf b d / 21600+1) % (b.f2.length:Int))=y at r2 ⊢
 generalize stepOf b d % 21600=z at p0 p1 ⊢
 have q:-25920000≤(y - x)*z∧(y - x)*z≤25920000:=by
  constructor
  ·have:=Int.mul_le_mul_of_nonneg_right (show -1200≤y - x by omega) p0
   omega
  ·have:=Int.mul_le_mul_of_nonneg_right (show y - x≤1200 by omega) p0
   omega
 omega
end Go.Proofs.YtjahbgldccjbfaaGreatDoor.PSky
end
section
namespace Go.Proofs.YtjahbgldccjbfaaGreatDoor.PSky
open Go.RowKit Go.Proofs.YtjahbgldccjbfaaGreatDoorW.PrintWords Go.Proofs.YtjahbgldccjbfaaGreatDoorW.PrintLast Go.Proofs.YtjahbgldccjbfaaGreatDoorW.PrintMore
def aheadOf (l:List S74) (i j:Nat) (d:Int):Int:=wayOf (rd_T74 l (i:Int)) d - wayOf (rd_T74 l (j:Int)) d
theorem ok_at {l:List S74} {p q n:Int} (h:okSky l p q n=true):2≤l.length∧l.length≤4∧okPeriod p q=true∧okPlace n=true∧∀ i:Nat,i<l.length→okBody (rd_T74 l (i:Int))=true:=by
 simp only [okSky,Bool.and_eq_true,okIn_iff] at h
 refine ⟨by omega,by omega,h.2.1,h.2.2.1,fun i hi=>?_⟩
 have h4:=h.2.2.2
 rw [any_all] at h4
 rw [rdT_get l i hi]
 exact List.all_eq_true.mp h4 _ (List.getElem_mem hi)
theorem wayT_ev {l:List S74} {p q n:Int} (h:okSky l p q n=true) (i:Nat) (hi:i<l.length) {d:Int} (hd:0≤d∧d≤20000):Ev (fun k=>ss_way.f k l p q n d (i:Int)) (wayOf (rd_T74 l (i:Int)) d):=by
 have hb:=(ok_at h).2.2.2.2 i hi
 rw [rdT_get l i hi] at hb ⊢
 exact way_ev l p q n d i hi hb hd
theorem lunar_ev {l:List S74} {p q n:Int} (h:okSky l p q n=true) {d:Int} (hd:0≤d∧d≤20000):Ev (fun k=>ss_lunar.f k l p q n d) (aheadOf l 1 0 d):=by
 obtain ⟨h2,-,-,-,hb⟩:=ok_at h
 have b1:=way_bounds (hb 1 (by omega)) hd
 have b2:=way_bounds (hb 0 (by omega)) hd
 unfold ss_lunar.f aheadOf
 refine Ev.bind (a:=wayOf (rd_T74 l ((0:Nat):Int)) d) ?_ (Ev.bind (a:=wayOf (rd_T74 l ((1:Nat):Int)) d) ?_ ?_)
 ·unfold ss_sun.f
  exact Ev.bind (wayT_ev h 0 (by omega) hd) (Ev.now _)
 ·unfold ss_moon.f
  exact Ev.bind (wayT_ev h 1 (by omega) hd) (Ev.now _)
 ·rw [wrap_id (by omega)]
  exact Ev.now _
theorem ahead_bounds {l:List S74} {p q n:Int} (h:okSky l p q n=true) (i j:Nat) (hi:i<l.length) (hj:j<l.length) {d:Int} (hd:0≤d∧d≤20000):-200000000≤aheadOf l i j d∧aheadOf l i j d≤200000000:=by
 obtain ⟨-,-,-,-,hb⟩:=ok_at h
 have b1:=way_bounds (hb i hi) hd
 have b2:=way_bounds (hb j hj) hd
 unfold aheadOf
 omega
theorem passes_eq {a b:Int} (ha:-1000000000≤a∧a≤1000000000) (hb:-1000000000≤b∧b≤1000000000):sky_passes.f a b=some (decide (b / 21600 > a / 21600)):=by
 unfold sky_passes.f
 rw [floor_eq (by decide) (by decide) (by omega),Option.bind_some,floor_eq (by decide) (by decide) (by omega),Option.bind_some]
def isMoon (l:List S74) (half d:Int):Bool:=decide ((aheadOf l 1 0 d - half) / 21600 > (aheadOf l 1 0 (d - 1) - half) / 21600)
theorem new_ev {l:List S74} {p q n:Int} (h:okSky l p q n=true) {d:Int} (hd:1≤d∧d≤20000):Ev (fun k=>at_has_new.f k l p q n d) (isMoon l 0 d):=by
 have h2:=(ok_at h).1
 have b1:=ahead_bounds h 1 0 (by omega) (by omega) (d:=d) (by omega)
 have b2:=ahead_bounds h 1 0 (by omega) (by omega) (d:=d - 1) (by omega)
 unfold at_has_new.f isMoon
 rw [wrap_id (show -9223372036854775808≤d - 1∧d - 1≤9223372036854775807 by omega)]
 refine Ev.bind (lunar_ev h (by omega)) (Ev.bind (lunar_ev h (by omega)) (Ev.bind (Ev.is (passes_eq (by omega) (by omega))) ?_))
 simp only [Int.sub_zero]
 exact Ev.now _
theorem full_ev {l:List S74} {p q n:Int} (h:okSky l p q n=true) {d:Int} (hd:1≤d∧d≤20000):Ev (fun k=>at_has_full.f k l p q n d) (isMoon l 10800 d):=by
 have h2:=(ok_at h).1
 have b1:=ahead_bounds h 1 0 (by omega) (by omega) (d:=d) (by omega)
 have b2:=ahead_bounds h 1 0 (by omega) (by omega) (d:=d - 1) (by omega)
 unfold at_has_full.f isMoon
 rw [wrap_id (show -9223372036854775808≤d - 1∧d - 1≤9223372036854775807 by omega)]
 refine Ev.bind (lunar_ev h (by omega)) (Ev.bind (lunar_ev h (by omega)) ?_)
 rw [wrap_id (show -9223372036854775808≤aheadOf l 1 0 (d - 1) - 10800∧aheadOf l 1 0 (d - 1) - 10800≤9223372036854775807 by omega),wrap_id (show -9223372036854775808≤aheadOf l 1 0 d - 10800∧aheadOf l 1 0 d - 10800≤9223372036854775807 by omega)]
 exact Ev.bind (Ev.is (passes_eq (by omega) (by omega))) (Ev.now _)
def moonOn (l:List S74) (d:Int):List S95:=(if isMoon l 0 d=true then [⟨d,false⟩] else []) ++ (if isMoon l 10800 d=true then [⟨d,true⟩] else [])
theorem Ev.all {α β:Type} (g:α→Nat→Option β) (r:α→β):∀ l:List α,(∀ d∈l,Ev (g d) (r d))→∃ K,∀ k,K≤k→∀ d∈l,g d k=Option.some (r d)
 |[],_=>⟨0,fun _ _ d h=>by cases h⟩
 |x :: t,h=>by
  obtain ⟨K1,h1⟩:=h x (List.mem_cons_self ..)
  obtain ⟨K2,h2⟩:=Ev.all g r t (fun d hd=>h d (List.mem_cons_of_mem _ hd))
  refine ⟨max K1 K2,fun k hk d hd=>?_⟩
  rcases List.mem_cons.mp hd with rfl|hd
  ·exact h1 k (by omega)
  ·exact h2 k (by omega) d hd
theorem span_of {a b:Int} (h:okSpan a b=true):1≤a∧a≤b∧b≤20000∧b - a≤800:=by
 simp only [okSpan,Bool.and_eq_true,okIn_iff,decide_eq_true_eq] at h
 omega
theorem moons_ev {l:List S74} {p q n:Int} (h:okSky l p q n=true) {lo hi:Int} (hs:okSpan lo hi=true):Ev (fun k=>sky_moons.f k l p q n lo hi) ((daysOf lo hi).flatMap (moonOn l)):=by
 have hsp:=span_of hs
 have hday:∀ d∈daysOf lo hi,1≤d∧d≤20000:=by
  intro d hd
  unfold daysOf at hd
  obtain ⟨j,hj,rfl⟩:=List.mem_map.mp hd
  have:=List.mem_range.mp hj
  omega
 obtain ⟨K1,h1⟩:=Ev.all (fun d k=>at_has_new.f k l p q n d) (fun d=>isMoon l 0 d) (daysOf lo hi) (fun d hd=>new_ev h (hday d hd))
 obtain ⟨K2,h2⟩:=Ev.all (fun d k=>at_has_full.f k l p q n d) (fun d=>isMoon l 10800 d) (daysOf lo hi) (fun d hd=>full_ev h (hday d hd))
 refine ⟨max K1 K2,fun k hk=>?_⟩
 show sky_moons.f k l p q n lo hi=_
 unfold sky_moons.f
 rw [if_pos ⟨by omega,by omega,by omega,fun d hd=>⟨by rw [h1 k (by omega) d hd];rfl,by rw [h2 k (by omega) d hd];rfl⟩⟩]
 congr 1
 rw [List.flatMap_def,List.flatMap_def]
 congr 1
 refine List.map_congr_left fun d hd=>?_
 unfold moonsAt moonOn
 rw [h1 k (by omega) d hd,h2 k (by omega) d hd]
 simp only [Option.some.injEq]
theorem moonOn_length (l:List S74) (d:Int):(moonOn l d).length≤2:=by
 unfold moonOn
 split <;> split <;> simp
end Go.Proofs.YtjahbgldccjbfaaGreatDoor.PSky
end
section
namespace Go.Proofs.YtjahbgldccjbfaaGreatDoor.PSky
open Go.RowKit Go.Proofs.YtjahbgldccjbfaaGreatDoorW.PrintWords Go.Proofs.YtjahbgldccjbfaaGreatDoorW.PrintLast Go.Proofs.YtjahbgldccjbfaaGreatDoorW.PrintMore
theorem known_ev:Ev (fun _=>tl_known.f.bind fun t=>some t) true:=Ev.now true
theorem Span_eq (a b:Int):tr_Span.f a b=some (okSpan a b):=isSpan_eq a b
theorem Moons_ev (l:List S74) (p q n a b:Int):Ev (fun k=>sky_Moons.f k l p q n a b) (if okSky l p q n=true∧okSpan a b=true then ((daysOf a b).flatMap (moonOn l),0) else ([],2)):=by
 unfold sky_Moons.f
 refine Ev.bind (isSky_ev l p q n) ?_
 cases h1:okSky l p q n with
 |false=>
  refine Ev.neg (by simp) ?_
  rw [if_neg (by simp)]
  exact Ev.now _
 |true=>
  refine Ev.pos rfl (Ev.bind (Ev.is (isSpan_eq a b)) ?_)
  cases h2:okSpan a b with
  |false=>
   refine Ev.neg (by simp) ?_
   rw [if_neg (by simp)]
   exact Ev.now _
  |true=>
   rw [if_pos ⟨rfl,rfl⟩]
   exact Ev.pos rfl (Ev.bind (moons_ev h1 h2) (Ev.now _))
end Go.Proofs.YtjahbgldccjbfaaGreatDoor.PSky
end
section
namespace Go.Proofs.YtjahbgldccjbfaaGreatDoor.PSky
open Go.RowKit Go.Proofs.YtjahbgldccjbfaaGreatDoorW.PrintWords Go.Proofs.YtjahbgldccjbfaaGreatDoorW.PrintLast Go.Proofs.YtjahbgldccjbfaaGreatDoorW.PrintMore
theorem rdM_get (l:List S95) (i:Nat) (h:i<l.length):rd_T95 l (i:Int)=l[i]:=by unfold rd_T95;simp [h]
end Go.Proofs.YtjahbgldccjbfaaGreatDoor.PSky
end
section
namespace Go.Proofs.YtjahbgldccjbfaaGreatDoor.PSky
open Go.RowKit Go.Proofs.YtjahbgldccjbfaaGreatDoorW.PrintWords Go.Proofs.YtjahbgldccjbfaaGreatDoorW.PrintLast Go.Proofs.YtjahbgldccjbfaaGreatDoorW.PrintMore
def okDay (n:Int):Bool:=okIn n 0 20000
theorem isDay_eq (n:Int):sky_isDay.f n=some (okDay n):=by unfold sky_isDay.f;rw [in_eq];rfl
end Go.Proofs.YtjahbgldccjbfaaGreatDoor.PSky
end
section
namespace Go.Proofs.YtjahbgldccjbfaaGreatDoor.PSky
open Go.RowKit Go.Proofs.YtjahbgldccjbfaaGreatDoorW.PrintWords Go.Proofs.YtjahbgldccjbfaaGreatDoorW.PrintLast Go.Proofs.YtjahbgldccjbfaaGreatDoorW.PrintMore
def curveF (f:Int→Int) (L m:Int):Int:=f (m % 21600*L / 21600)+(f ((m % 21600*L / 21600+1) % L) - f (m % 21600*L / 21600))*(m % 21600*L % 21600) / 21600
theorem idx (L m:Int) (hL:1≤L∧L≤8):((m+1) % 21600*L / 21600=m % 21600*L / 21600∧(m+1) % 21600*L % 21600=m % 21600*L % 21600+L) ∨
  ((m+1) % 21600*L / 21600=(m % 21600*L / 21600+1) % L∧21592≤m % 21600*L % 21600∧0≤(m+1) % 21600*L % 21600∧(m+1) % 21600*L % 21600≤7):=by
 have hx:(m+1) % 21600=m % 21600+1∧m % 21600<21599∨(m+1) % 21600=0∧m % 21600=21599:=by omega
 have h0:=Int.emod_nonneg m (show (21600:Int)≠0 by decide)
 generalize (m+1) % 21600=y at hx ⊢
 generalize m % 21600=x at hx h0 ⊢
 rcases hx with ⟨rfl,hx⟩|⟨rfl,rfl⟩
 ·have h1:(x+1)*L≤21599*L:=Int.mul_le_mul_of_nonneg_right (by omega) (by omega)
  have h2:0≤x*L:=Int.mul_nonneg h0 (by omega)
  rw [Int.add_mul,Int.one_mul] at h1 ⊢
  generalize x*L=s at h1 h2 ⊢
  rcases (show (s+L) / 21600=s / 21600∨(s+L) / 21600=s / 21600+1 by omega) with h3|h3
  ·exact Or.inl ⟨h3,by omega⟩
  ·rw [Int.emod_eq_of_lt (show 0≤s / 21600+1 by omega) (by omega)]
   exact Or.inr ⟨h3,by omega,by omega,by omega⟩
 ·have q:21599*L / 21600=L - 1:=by omega
  rw [Int.zero_mul,show 21599*L / 21600+1=L by omega,Int.emod_self]
  exact Or.inr ⟨by decide,by omega,by decide,by decide⟩
theorem curve_step (f:Int→Int) (hf:∀ i,-600≤f i∧f i≤600) (L m:Int) (hL:1≤L∧L≤8):curveF f L m≤1+curveF f L (m+1):=by
 have hi:=idx L m hL
 have hz:=Int.emod_lt_of_pos (m % 21600*L) (show (0:Int)<21600 by decide)
 unfold curveF
 rcases hi with ⟨e1,e2⟩|⟨e1,e2,e3,e4⟩
 ·rw [e1,e2]
  have h1:=hf (m % 21600*L / 21600)
  have h2:=hf ((m % 21600*L / 21600+1) % L)
  generalize f (m % 21600*L / 21600)=a at h1 ⊢
  generalize f ((m % 21600*L / 21600+1) % L)=b at h2 ⊢
  generalize m % 21600*L % 21600=z
  rw [Int.mul_add]
  have h3:-1200*L≤(b - a)*L:=Int.mul_le_mul_of_nonneg_right (by omega) (by omega)
  omega
 ·rw [e1]
  have h1:=hf (m % 21600*L / 21600)
  have h2:=hf ((m % 21600*L / 21600+1) % L)
  have h3:=hf (((m % 21600*L / 21600+1) % L+1) % L)
  generalize f (m % 21600*L / 21600)=a at h1 ⊢
  generalize f (((m % 21600*L / 21600+1) % L+1) % L)=c at h3 ⊢
  generalize f ((m % 21600*L / 21600+1) % L)=b at h2 h3 ⊢
  generalize m % 21600*L % 21600=z at hz e2 ⊢
  generalize (m+1) % 21600*L % 21600=y at e3 e4 ⊢
  have h4:-1200*y≤(c - b)*y:=Int.mul_le_mul_of_nonneg_right (by omega) (by omega)
  have h5:-1200*(21600 - z)≤(b - a)*(21600 - z):=Int.mul_le_mul_of_nonneg_right (by omega) (by omega)
  have h6:(b - a)*(21600 - z)=(b - a)*21600 - (b - a)*z:=Int.mul_sub _ _ _
  omega
theorem curve_in (f:Int→Int) (hf:∀ i,-600≤f i∧f i≤600) (L m:Int):-600≤curveF f L m∧curveF f L m≤600:=by
 have h1:=hf (m % 21600*L / 21600)
 have h2:=hf ((m % 21600*L / 21600+1) % L)
 have hz:=Int.emod_lt_of_pos (m % 21600*L) (show (0:Int)<21600 by decide)
 have hy:=Int.emod_nonneg (m % 21600*L) (show (21600:Int)≠0 by decide)
 unfold curveF
 generalize f (m % 21600*L / 21600)=a at h1 ⊢
 generalize f ((m % 21600*L / 21600+1) % L)=b at h2 ⊢
 generalize m % 21600*L % 21600=z at hz hy ⊢
 rcases Int.le_total a b with h|h
 ·have h3:0≤(b - a)*z:=Int.mul_nonneg (by omega) hy
  have h4:(b - a)*z≤(b - a)*21600:=Int.mul_le_mul_of_nonneg_left (by omega) (by omega)
  omega
 ·have h3:0≤(a - b)*z:=Int.mul_nonneg (by omega) hy
  have h4:(a - b)*z≤(a - b)*21600:=Int.mul_le_mul_of_nonneg_left (by omega) (by omega)
  have h5:(b - a)*z = -((a - b)*z):=by rw [← Int.neg_mul];congr 1;omega
  omega
theorem curve_up (f:Int→Int) (hf:∀ i,-600≤f i∧f i≤600) (L m:Int) (hL:1≤L∧L≤8):∀ n:Nat,m+curveF f L m≤m+n+curveF f L (m+n)
 |0=>by simp
 |n+1=>by
  have h1:=curve_up f hf L m hL n
  have h2:=curve_step f hf L (m+n) hL
  rw [show m+((n+1:Nat):Int)=m+n+1 by omega]
  omega
theorem way_curve (b:S74) (d:Int):wayOf b d=meanOf b d+curveF (rd b.f2) (b.f2.length:Int) (meanOf b d):=by
 unfold wayOf stepOf curveF
 omega
theorem way_near {b:S74} (h:okBody b=true) (d:Int):-600≤wayOf b d - meanOf b d∧wayOf b d - meanOf b d≤600:=by
 have:=curve_in (rd b.f2) (road_bounds h) (b.f2.length:Int) (meanOf b d)
 rw [way_curve]
 omega
theorem gone_next {p q:Int} (h:okPeriod p q=true) (d:Int):goneOf p q d≤goneOf p q (d+1)∧goneOf p q (d+1)≤goneOf p q d+5400:=by
 have hp:=period_of h
 have e:(d+1)*21600*q=d*21600*q+21600*q:=by rw [Int.add_mul,Int.add_mul,Int.one_mul]
 unfold goneOf
 rw [e]
 constructor
 ·exact Int.ediv_le_ediv (by omega) (by omega)
 ·rw [← Int.add_mul_ediv_right _ _ (show p≠0 by omega)]
  exact Int.ediv_le_ediv (by omega) (by omega)
theorem way_next {b:S74} (h:okBody b=true) (d:Int):0≤wayOf b (d+1) - wayOf b d∧wayOf b (d+1) - wayOf b d≤6600:=by
 have hp:okPeriod b.f0.f0 b.f0.f1=true:=by simp only [okBody,Bool.and_eq_true] at h;exact h.1
 have hg:=gone_next hp d
 have hl:=body_len h
 have hm:meanOf b (d+1)=meanOf b d+((goneOf b.f0.f0 b.f0.f1 (d+1) - goneOf b.f0.f0 b.f0.f1 d).toNat:Int):=by
  unfold meanOf
  omega
 have hu:=curve_up (rd b.f2) (road_bounds h) (b.f2.length:Int) (meanOf b d) (by omega) (goneOf b.f0.f0 b.f0.f1 (d+1) - goneOf b.f0.f0 b.f0.f1 d).toNat
 rw [← hm] at hu
 have h1:=way_near h d
 have h2:=way_near h (d+1)
 rw [way_curve,way_curve] at *
 omega
def okBodyN (l:List S74) (n:Int):Bool:=okIn n 0 ((l.length:Int) - 1)
theorem isBody_eq {l:List S74} (hl:l.length≤1000000) (p q n i:Int):sky_isBody.f l p q n i=some (okBodyN l i):=by
 unfold sky_isBody.f okBodyN
 rw [wrap_id (by omega),in_eq]
 rfl
theorem Body_eq {l:List S74} (hl:l.length≤1000000) (p q n i:Int):tr_Body.f l p q n i=some (okBodyN l i):=isBody_eq hl p q n i
theorem Place_ev {l:List S74} {p q n:Int} (h:okSky l p q n=true) (i:Nat) (hi:i<l.length) {d:Int} (hd:0≤d∧d≤20000):Ev (fun k=>sky_Place.f k l p q n (i:Int) d) (wayOf (rd_T74 l (i:Int)) d % 21600,0):=by
 have hk:=ok_at h
 have hm:=way_bounds (hk.2.2.2.2 i hi) hd
 unfold sky_Place.f
 refine Ev.bind (isSky_ev l p q n) ?_
 rw [h]
 refine Ev.pos rfl (Ev.bind (Ev.is (isBody_eq (by omega) p q n i)) (Ev.pos (okIn_iff.mpr (by omega)) (Ev.bind (Ev.is (isDay_eq d)) ?_)))
 rw [show okDay d=true from okIn_iff.mpr hd]
 refine Ev.step (fun k=>by rw [sky_Place.j0]) ?_
 exact Ev.neg (by simp) (Ev.bind (wayT_ev h i hi hd) (Ev.bind (Ev.is (around_eq (by omega))) (Ev.now _)))
theorem ahead_ev {l:List S74} {p q n:Int} (h:okSky l p q n=true) (i j:Nat) (hi:i<l.length) (hj:j<l.length) {d:Int} (hd:0≤d∧d≤20000):Ev (fun k=>ss_ahead.f k l p q n d (i:Int) (j:Int)) (aheadOf l i j d):=by
 have hb:=ahead_bounds h i j hi hj hd
 unfold ss_ahead.f
 refine Ev.bind (wayT_ev h i hi hd) (Ev.bind (wayT_ev h j hj hd) ?_)
 rw [show wayOf (rd_T74 l (i:Int)) d - wayOf (rd_T74 l (j:Int)) d=aheadOf l i j d from rfl,wrap_id (by omega)]
 exact Ev.now _
theorem areTwo_eq {l:List S74} (p q n:Int) (i j:Nat) (hi:i<l.length) (hj:j<l.length) (hl:l.length≤1000000) (hij:i≠j):sky_areTwo.f l p q n (i:Int) (j:Int)=some true:=by
 unfold sky_areTwo.f
 rw [isBody_eq hl,Option.bind_some,show okBodyN l (i:Int)=true from okIn_iff.mpr (by omega),if_pos rfl,isBody_eq hl,Option.bind_some,show okBodyN l (j:Int)=true from okIn_iff.mpr (by omega),if_pos rfl]
 congr 1
 simp
 omega
theorem Between_ev {l:List S74} {p q n:Int} (h:okSky l p q n=true) (i j:Nat) (hi:i<l.length) (hj:j<l.length) (hij:i≠j) {d:Int} (hd:0≤d∧d≤20000):Ev (fun k=>sky_Between.f k l p q n (i:Int) (j:Int) d) (aheadOf l i j d % 21600,0):=by
 have hk:=ok_at h
 have hm:=ahead_bounds h i j hi hj hd
 unfold sky_Between.f
 refine Ev.bind (isSky_ev l p q n) ?_
 rw [h]
 refine Ev.pos rfl (Ev.bind (Ev.is (areTwo_eq p q n i j hi hj (by omega) hij)) (Ev.pos rfl (Ev.bind (Ev.is (isDay_eq d)) ?_)))
 rw [show okDay d=true from okIn_iff.mpr hd]
 refine Ev.step (fun k=>by rw [sky_Between.j0]) ?_
 exact Ev.neg (by simp) (Ev.bind (ahead_ev h i j hi hj hd) (Ev.bind (Ev.is (around_eq (by omega))) (Ev.now _)))
theorem spot_mod (x:Int):tr_Spot.f (x % 21600)=some true:=by
 rw [Spot_eq]
 exact congrArg some (okIn_iff.mpr (by omega))
end Go.Proofs.YtjahbgldccjbfaaGreatDoor.PSky
end
section
namespace Go.Proofs.YtjahbgldccjbfaaGreatDoor.PSky
open Go.RowKit Go.Proofs.YtjahbgldccjbfaaGreatDoorW.PrintWords Go.Proofs.YtjahbgldccjbfaaGreatDoorW.PrintLast Go.Proofs.YtjahbgldccjbfaaGreatDoorW.PrintMore
theorem body_at {l:List S74} {i:Int} (h:okBodyN l i=true):∃ j:Nat,i=j∧j<l.length:=by
 have:=okIn_iff.mp h
 exact ⟨i.toNat,by omega,by omega⟩
theorem Place_evG (l:List S74) (p q n i d:Int):Ev (fun k=>sky_Place.f k l p q n i d) (if okSky l p q n=true∧okBodyN l i=true∧okDay d=true then (wayOf (rd_T74 l i) d % 21600,0) else (0,2)):=by
 have bad:∀ c:Bool,c=true→Ev (fun k=>sky_Place.j0 k i d c l p q n) (0,2):=fun c hc=>by
  refine Ev.step (fun k=>by rw [sky_Place.j0]) ?_
  exact Ev.pos hc (Ev.now _)
 by_cases h:okSky l p q n=true∧okBodyN l i=true∧okDay d=true
 ·rw [if_pos h]
  obtain ⟨h1,h2,h3⟩:=h
  obtain ⟨j,rfl,hj⟩:=body_at h2
  exact Place_ev h1 j hj (okIn_iff.mp h3)
 ·rw [if_neg h]
  unfold sky_Place.f
  refine Ev.bind (isSky_ev l p q n) ?_
  cases h1:okSky l p q n with
  |false=>exact Ev.neg (by simp) (bad _ rfl)
  |true=>
   have hl:=(ok_at h1).2.1
   refine Ev.pos rfl (Ev.bind (Ev.is (isBody_eq (by omega) p q n i)) ?_)
   cases h2:okBodyN l i with
   |false=>exact Ev.neg (by simp) (bad _ rfl)
   |true=>
    refine Ev.pos rfl (Ev.bind (Ev.is (isDay_eq d)) (bad _ ?_))
    cases h3:okDay d with
    |false=>rfl
    |true=>exact absurd ⟨h1,h2,h3⟩ h
def okTwo (l:List S74) (i j:Int):Bool:=okBodyN l i && (okBodyN l j && (i != j))
theorem two_eq {l:List S74} (hl:l.length≤1000000) (p q n i j:Int):sky_areTwo.f l p q n i j=some (okTwo l i j):=by
 unfold sky_areTwo.f okTwo
 rw [isBody_eq hl,Option.bind_some]
 cases h1:okBodyN l i with
 |false=>rfl
 |true=>
  rw [if_pos rfl,isBody_eq hl,Option.bind_some]
  cases h2:okBodyN l j with
  |false=>rfl
  |true=>rfl
def aheadI (l:List S74) (i j d:Int):Int:=wayOf (rd_T74 l i) d - wayOf (rd_T74 l j) d
theorem two_at {l:List S74} {i j:Int} (h:okTwo l i j=true):∃ a b:Nat,i=a∧j=b∧a<l.length∧b<l.length∧a≠b:=by
 simp only [okTwo,Bool.and_eq_true,bne_iff_ne] at h
 obtain ⟨a,rfl,ha⟩:=body_at h.1
 obtain ⟨b,rfl,hb⟩:=body_at h.2.1
 exact ⟨a,b,rfl,rfl,ha,hb,fun e=>h.2.2 (by rw [e])⟩
theorem Between_evG (l:List S74) (p q n i j d:Int):Ev (fun k=>sky_Between.f k l p q n i j d) (if okSky l p q n=true∧okTwo l i j=true∧okDay d=true then (aheadI l i j d % 21600,0) else (0,2)):=by
 have bad:∀ c:Bool,c=true→Ev (fun k=>sky_Between.j0 k i j d c l p q n) (0,2):=fun c hc=>by
  refine Ev.step (fun k=>by rw [sky_Between.j0]) ?_
  exact Ev.pos hc (Ev.now _)
 by_cases h:okSky l p q n=true∧okTwo l i j=true∧okDay d=true
 ·rw [if_pos h]
  obtain ⟨h1,h2,h3⟩:=h
  obtain ⟨a,b,rfl,rfl,ha,hb,hab⟩:=two_at h2
  exact Between_ev h1 a b ha hb hab (okIn_iff.mp h3)
 ·rw [if_neg h]
  unfold sky_Between.f
  refine Ev.bind (isSky_ev l p q n) ?_
  cases h1:okSky l p q n with
  |false=>exact Ev.neg (by simp) (bad _ rfl)
  |true=>
   have hl:=(ok_at h1).2.1
   refine Ev.pos rfl (Ev.bind (Ev.is (two_eq (by omega) p q n i j)) ?_)
   cases h2:okTwo l i j with
   |false=>exact Ev.neg (by simp) (bad _ rfl)
   |true=>
    refine Ev.pos rfl (Ev.bind (Ev.is (isDay_eq d)) (bad _ ?_))
    cases h3:okDay d with
    |false=>rfl
    |true=>exact absurd ⟨h1,h2,h3⟩ h
def meetsOn (l:List S74) (i j d:Int):Bool:=decide (aheadI l i j d / 21600 > aheadI l i j (d - 1) / 21600) || decide (-aheadI l i j d / 21600 > -aheadI l i j (d - 1) / 21600)
theorem aheadI_bounds {l:List S74} {p q n:Int} (h:okSky l p q n=true) {i j:Int} (hij:okTwo l i j=true) {d:Int} (hd:0≤d∧d≤20000):-200000000≤aheadI l i j d∧aheadI l i j d≤200000000:=by
 obtain ⟨a,b,rfl,rfl,ha,hb,-⟩:=two_at hij
 exact ahead_bounds h a b ha hb hd
theorem meet_ev {l:List S74} {p q n:Int} (h:okSky l p q n=true) {i j:Int} (hij:okTwo l i j=true) {d:Int} (hd:1≤d∧d≤20000):Ev (fun k=>at_has_meet.f k l p q n d i j) (meetsOn l i j d):=by
 have b1:=aheadI_bounds h hij (d:=d) (by omega)
 have b2:=aheadI_bounds h hij (d:=d - 1) (by omega)
 have e1:Ev (fun k=>ss_ahead.f k l p q n d i j) (aheadI l i j d):=by
  obtain ⟨a,b,rfl,rfl,ha,hb,-⟩:=two_at hij
  exact ahead_ev h a b ha hb (by omega)
 have e2:Ev (fun k=>ss_ahead.f k l p q n (d - 1) i j) (aheadI l i j (d - 1)):=by
  obtain ⟨a,b,rfl,rfl,ha,hb,-⟩:=two_at hij
  exact ahead_ev h a b ha hb (by omega)
 unfold at_has_meet.f meetsOn
 rw [wrap_id (show -9223372036854775808≤d - 1∧d - 1≤9223372036854775807 by omega)]
 refine Ev.bind e2 (Ev.bind e1 (Ev.bind (Ev.is (passes_eq (by omega) (by omega))) ?_))
 by_cases hp:aheadI l i j d / 21600 > aheadI l i j (d - 1) / 21600
 ·rw [decide_eq_true hp,Bool.true_or]
  exact Ev.pos rfl (Ev.now _)
 ·rw [decide_eq_false hp,Bool.false_or]
  refine Ev.neg (by simp) ?_
  rw [wrap_id (show -9223372036854775808 ≤ -aheadI l i j (d - 1) ∧ -aheadI l i j (d - 1)≤9223372036854775807 by omega),wrap_id (show -9223372036854775808 ≤ -aheadI l i j d ∧ -aheadI l i j d≤9223372036854775807 by omega)]
  exact Ev.bind (Ev.is (passes_eq (by omega) (by omega))) (Ev.now _)
theorem day_span {a b d:Int} (h:okSpan a b=true) (hd:d∈daysOf a b):(1≤d∧d≤20000)∧a≤d∧d≤b:=by
 have hs:=span_of h
 unfold daysOf at hd
 obtain ⟨j,hj,rfl⟩:=List.mem_map.mp hd
 have:=List.mem_range.mp hj
 omega
theorem span_day {a b d:Int} (h1:a≤d) (h2:d≤b):d∈daysOf a b:=by
 unfold daysOf
 exact List.mem_map.mpr ⟨(d - a).toNat,List.mem_range.mpr (by omega),by omega⟩
def meetsOf (l:List S74) (i j a b:Int):List Int:=(daysOf a b).filter (meetsOn l i j)
theorem Meets_ev (l:List S74) (p q n i j a b:Int):Ev (fun k=>sky_Meets.f k l p q n i j a b) (if okSky l p q n=true∧okTwo l i j=true∧okSpan a b=true then (meetsOf l i j a b,0) else ([],2)):=by
 unfold sky_Meets.f
 refine Ev.bind (isSky_ev l p q n) ?_
 cases h1:okSky l p q n with
 |false=>
  refine Ev.neg (by simp) ?_
  rw [if_neg (by simp)]
  exact Ev.now _
 |true=>
  have hl:=(ok_at h1).2.1
  refine Ev.pos rfl (Ev.bind (Ev.is (two_eq (by omega) p q n i j)) ?_)
  cases h2:okTwo l i j with
  |false=>
   refine Ev.neg (by simp) ?_
   rw [if_neg (by simp)]
   exact Ev.now _
  |true=>
   refine Ev.pos rfl (Ev.bind (Ev.is (isSpan_eq a b)) ?_)
   cases h3:okSpan a b with
   |false=>
    refine Ev.neg (by simp) ?_
    rw [if_neg (by simp)]
    exact Ev.now _
   |true=>
    rw [if_pos (show true=true∧true=true∧true=true from ⟨rfl,rfl,rfl⟩)]
    refine Ev.pos rfl ?_
    obtain ⟨K,hK⟩:=Ev.all (fun d k=>at_has_meet.f k l p q n d i j) (fun d=>meetsOn l i j d) (daysOf a b) (fun d hd=>meet_ev h1 h2 (day_span h3 hd).1)
    refine ⟨K,fun k hk=>?_⟩
    have hk':=hK k hk
    show (if ∀ d∈daysOf a b,(at_has_meet.f k l p q n d i j).isSome=true then some ((daysOf a b).filter (fun d=>at_has_meet.f k l p q n d i j=some true),(0:Int)) else none)=some (meetsOf l i j a b,0)
    rw [if_pos (fun d hd=>by rw [hk' d hd];rfl)]
    congr 2
    unfold meetsOf
    refine List.filter_congr fun d hd=>?_
    rw [hk' d hd]
    simp
end Go.Proofs.YtjahbgldccjbfaaGreatDoor.PSky
end
section
namespace Go.Proofs.YtjahbgldccjbfaaGreatDoor.PSky
open Go.RowKit Go.Proofs.YtjahbgldccjbfaaGreatDoorW.PrintWords Go.Proofs.YtjahbgldccjbfaaGreatDoorW.PrintLast Go.Proofs.YtjahbgldccjbfaaGreatDoorW.PrintMore
theorem operIn_of {l n:Nat} {P:Program} {o:Oper} {a:Act} {w:World} {K:Act→World→Prop} {Q:Exit→Act→World→Prop} (hd:∀ c:Call,o.op≠Op.defer c) (h:o.wp P a w K Q):o.wpIn (Fence.wide.inRound l) n P a w K Q:=by
 unfold Oper.wp at h
 unfold Oper.wpIn
 refine ⟨fun _ _=>trivial,?_⟩
 rw [show (Fence.wide.inRound l).round=some l from rfl,Oper.semAt_some l _ _ hd]
 generalize (execOp a.eval o).run P w=r at *
 cases r with
 |ok x w'=>
  cases x with
  |value v=>exact h
  |skip=>exact h
  |defer d=>exact h
  |enter f args=>exact ⟨fun hh=>by simp [Fence.wide,Fence.inRound] at hh,CallsIn.inRound l (callsIn_wide.2 h)⟩
  |row r args=>exact ⟨fun hh=>by simp [Fence.wide,Fence.inRound] at hh,fun c cs _=>let ⟨v,w2,hr,hs⟩:=h c cs;⟨v,w2,hr,stepsIn_wide.2 hs⟩⟩
  |_=>exact h.elim
 |halt x w'=>cases x <;> exact h
theorem anyIn_of {l n:Nat} {P:Program} {md:Region.Mode} {ops:Array Oper} {Q:Exit→Act→World→Prop} (hd:∀ (i:Nat) (o:Oper),ops[i]?=some o→∀ c:Call,o.op≠Op.defer c) (hQ:¬ LetsOut Q):∀ (fuel:Nat) (listed:Array Bool) (a:Act) (w:World),
  wpAny P md ops Q fuel listed a w→wpAnyIn (Fence.wide.inRound l) n P md ops Q fuel listed a w
 |0,_,_,_,h=>h
 |fuel+1,listed,a,w,h=>by
  refine ⟨h.1,fun i hi=>?_⟩
  have h2:=h.2 i hi
  unfold wpOp at h2
  unfold wpOpIn
  cases ho:ops[i]? with
  |none=>
   rw [ho] at h2
   exact anyIn_of hd hQ fuel _ _ _ h2
  |some o=>
   rw [ho] at h2
   simp only at h2 ⊢
   split
   ·rename_i hw
    rw [if_pos hw] at h2
    rcases h2 with h2|h2
    ·exact Oper.wpIn_mono (fun a w hh=>anyIn_of hd hQ fuel _ a w hh) (operIn_of (hd i o ho) h2)
    ·exact absurd h2.2 hQ
   ·rename_i hw
    rw [if_neg hw] at h2
    exact ⟨fun _ _=>trivial,anyIn_of hd hQ fuel _ _ _ h2⟩
def onlyN (Q:Exit→Act→World→Prop):Exit→Act→World→Prop:=fun e a w=>e=.normal∧Q .normal a w
theorem onlyN_no {Q:Exit→Act→World→Prop} {c:List PanicEntry} {a a':Act} {w w':World} (h:onlyN Q (.panic c) a w):onlyN Q (.panic c) a' w':=by cases h.1
theorem startIn_ {l n m id:Nat} {P:Program} {ops:Array Oper} {Q:Exit→Act→World→Prop} {S:World→Prop} {ds:List Nat} {a:Act} {w:World} (L:Array Bool) (hm:P.follows .mixedOrders=true)
  (hd:(ops.toList.all fun (o:Oper)=>match o.op with|Op.defer _=>false|_=>true)=true) (hn:ops.size=m) (hl:Array.replicate m false=L) (hS:S w.drew)
  (h:S w.drew→wpAnyLast P .any ops (onlyN Q) S ds m L a w.drew):(Code.region id ops true).wpIn (Fence.wide.inRound l) n P Q a w:=by
 subst hn;subst hl
 have hd':∀ (i:Nat) (o:Oper),ops[i]?=some o→∀ c:Call,o.op≠Op.defer c:=by
  intro i o ho c hc
  have:=List.all_eq_true.mp hd o (by simpa using Array.mem_of_getElem? ho)
  rw [hc] at this
  cases this
 refine wpIn_mono (wpIn_region_any hm (anyIn_of hd' ?_ _ _ _ _ (wpAny_of_last _ _ _ _ (h hS)))) ?_
 ·rintro ⟨_,_,hh⟩
  cases hh.1
 ·rintro e a w ⟨rfl,hq⟩
  exact hq
end Go.Proofs.YtjahbgldccjbfaaGreatDoor.PSky
end
section
namespace Go.Proofs.YtjahbgldccjbfaaGreatDoor.PSky
open Go.RowKit Go.Shelf Go.Proofs.YtjahbgldccjbfaaGreatDoorW.PrintWords Go.Proofs.YtjahbgldccjbfaaGreatDoorW.PrintLast Go.Proofs.YtjahbgldccjbfaaGreatDoorW.PrintMore
attribute [local go_sem] Oper.semAt_some
theorem append_close2 {α:Type} {d:Kd α} {e t:Nat} {W w1:World} {Bo n₀ m₀:Nat} {v v1:Value} {ys:List α} (hO:W.heap[Bo]?=some (.cells #[v] t (0,0))) (hne:some Bo≠v.ownBlock)
  (hR:d.R e w1 n₀ (fun _=>True) v1 ys) (hE:d.E=[]) (hte:e≠t) (hg:W.grownBy w1 v.ownBlock) (hb:Below m₀ W w1) (hm:m₀≤Bo):
  (w1.setCell ⟨Bo,0,none⟩ v1).heap[Bo]?=some (.cells #[v1] t (0,0))∧d.R e (w1.setCell ⟨Bo,0,none⟩ v1) n₀ (fun _=>True) v1 ys∧KeepBut W (w1.setCell ⟨Bo,0,none⟩ v1) Bo v.ownBlock∧Below m₀ W (w1.setCell ⟨Bo,0,none⟩ v1):=by
 have hO2:=blk_grown hO hg hne
 refine ⟨blk_put hO2 0 _ rfl,Kd.R_set hR hO2 (by intro q hq;rw [hE] at hq;simp at hq;subst hq;exact hte) 0 _,⟨?_,fun i hi h1 h2=>?_⟩,Below.setCell (p:=⟨Bo,0,none⟩) hb hm _⟩
 ·have:=hg.size;simpa [World.setCell] using this
 ·rw [Below.heap_setCell _ _ _ i h1,hg.block i hi h2]
theorem info_apart:(Tryz.prog.info? 119).map (fun i=>(i.zero,i.size,i.bytes))=some (some (.agg #[(.int .i64 0),(.int .i64 0)]),2,16):=by kernel_rfl
theorem und_apart:Tryz.prog.underlying 116=some (.slice 119):=by kernel_rfl
def nearAt (k:Nat) (l:List S74) (i1 i2 i3 one other d:Int):Option Int:=(ss_ahead.f k l i1 i2 i3 d one other).bind fun a=>sky_round.f a
def nearOf (k:Nat) (l:List S74) (i1 i2 i3 one other d:Int):S119:=⟨d,(nearAt k l i1 i2 i3 one other d).getD 0⟩
def sky_Near.f (k:Nat) (l:List S74) (i1 i2 i3 one other lo hi:Int):Option (Int × Int × Int):=
 (sky_isSky.f k l i1 i2 i3).bind fun b1=>if b1=true then (sky_areTwo.f l i1 i2 i3 one other).bind fun b2=>if b2=true then (sky_isSpan.f lo hi).bind fun b3=>
  if b3=true then (if ∀ d∈daysOf lo hi,(nearAt k l i1 i2 i3 one other d).isSome=true then (at_best_Near_c1.f k ((daysOf lo hi).map (nearOf k l i1 i2 i3 one other))).bind fun t=>some (t.1,t.2,0) else none) else some (0,0,2) else some (0,0,2) else some (0,0,2)
set_option maxRecDepth 100000 in
set_option maxHeartbeats 1600000 in
theorem sky_Near.calls (k:Nat) (A0_0:Option Addr) (c0_0:Nat) (l0_0:List S74) (a0_1 a0_2 a0_3 a1 a2 a3 a4:Int) (r1 r2 r3:Int) (w:World)
  (hr0_0:Kd.C k74 w A0_0 l0_0.length l0_0) (hc0_0:l0_0.length≤c0_0) (h:sky_Near.f k l0_0 a0_1 a0_2 a0_3 a1 a2 a3 a4=some (r1,r2,r3)):
  Calls Tryz.prog 19 #[.agg #[.slice A0_0 l0_0.length c0_0,.int .i64 a0_1,.int .i64 a0_2,.int .i64 a0_3],.int .i64 a1,.int .i64 a2,.int .i64 a3,.int .i64 a4] w fun e w'=>e=.returned (.tuple #[.int .i64 r1,.int .i64 r2,.int .i64 r3])∧Below w.heap.size w w':=by
 have HR:=A0_ hr0_0;have HC:=A0_ hc0_0;clear hr0_0 hc0_0
 have hmf:∀ (fn:Fn) (first cap:Array Value) (w:World),(Instr.makeFunc fn first cap).run Tryz.prog w=.ok (.func fn first cap) w:=fun _ _ _ _=>rfl
 obtain ⟨b1,hb1,h1⟩:=Option.bind_eq_some_iff.mp h
 have HB1:=A0_ hb1;clear h hb1
 refine (callsIn_wide (n:=5)).1 ?_
 refine callsIn_of_wp_marks Tryz.func19 rfl trivial ?_ rfl
 simp only [Tryz.ntmps19,List.size_toArray,List.length_cons,List.length_nil,Nat.reduceAdd,Nat.reduceSub,Array.replicate_succ,Array.replicate_zero,List.push_toArray,List.append_toArray,List.nil_append,List.cons_append]
 cases b1 with
 |false=>
  obtain ⟨rfl,rfl,rfl⟩:0=r1∧0=r2∧2=r3:=by simpa using h1
  gi_wp2_with fail
  refine ⟨trivial,?_⟩
  refine (callsIn_wide.2 (sky_isSky.calls k A0_0 c0_0 l0_0 a0_1 a0_2 a0_3 false _ ?hC HC.out HB1.out)).mono ?_
  case hC=>exact Kd.C_alloc (Kd.C_alloc (Kd.C_alloc HR.out _) _) _
  rintro e w1 ⟨rfl,hb⟩
  have HB:=A0_ (below_step (below_alloc (below_alloc (below_alloc (Below.refl _ _) _) _) _) hb)
  clear hb
  gi_wp2
  refine ⟨trivial,?_⟩
  gi_wp2
  refine ⟨trivial,?_⟩
  gi_wp2
  exact ⟨_,results_tmp3 rfl _ _ _,rfl,HB.out⟩
 |true=>
 obtain ⟨b2,hb2,h2⟩:=Option.bind_eq_some_iff.mp (show ((sky_areTwo.f l0_0 a0_1 a0_2 a0_3 a1 a2).bind _)=some (r1,r2,r3) from by simpa using h1)
 have HB2:=A0_ hb2;clear h1 hb2
 cases b2 with
 |false=>
  obtain ⟨rfl,rfl,rfl⟩:0=r1∧0=r2∧2=r3:=by simpa using h2
  gi_wp2_with fail
  refine ⟨trivial,?_⟩
  refine (callsIn_wide.2 (sky_isSky.calls k A0_0 c0_0 l0_0 a0_1 a0_2 a0_3 true _ ?hC HC.out HB1.out)).mono ?_
  case hC=>exact Kd.C_alloc (Kd.C_alloc (Kd.C_alloc HR.out _) _) _
  rintro e w1 ⟨rfl,hb⟩
  have HB:=A0_ (below_step (below_alloc (below_alloc (below_alloc (Below.refl _ _) _) _) _) hb)
  have HS1:=A0_ (blk_below (blk_alloc (blk_alloc (blk_new w (.cells #[.slice A0_0 l0_0.length c0_0,.int .i64 a0_1,.int .i64 a0_2,.int .i64 a0_3] 29)) (.cells #[.int .i64 a1] 3)) (.cells #[.int .i64 a2] 3)) hb)
  have HO1:=A0_ (blk_below (blk_alloc (blk_new (w.alloc (.cells #[.slice A0_0 l0_0.length c0_0,.int .i64 a0_1,.int .i64 a0_2,.int .i64 a0_3] 29)) (.cells #[.int .i64 a1] 3)) (.cells #[.int .i64 a2] 3)) hb)
  have HT1:=A0_ (blk_below (blk_new ((w.alloc (.cells #[.slice A0_0 l0_0.length c0_0,.int .i64 a0_1,.int .i64 a0_2,.int .i64 a0_3] 29)).alloc (.cells #[.int .i64 a1] 3)) (.cells #[.int .i64 a2] 3)) hb)
  simp only [World.size_alloc] at HO1 HT1
  have x0:=blk_cell HS1.out 0
  have x1:=blk_cell HS1.out 1
  have x2:=blk_cell HS1.out 2
  have x3:=blk_cell HS1.out 3
  have y0:=blk_cell HO1.out 0
  have z0:=blk_cell HT1.out 0
  simp at x0 x1 x2 x3 y0 z0
  clear hb
  gi_wp2_with fail
  refine ⟨trivial,?_⟩
  refine (callsIn_wide.2 (sky_areTwo.calls A0_0 c0_0 l0_0 a0_1 a0_2 a0_3 a1 a2 false _ ?hC HC.out HB2.out)).mono ?_
  case hC=>exact Kd.C_below HR.out HB.out
  rintro e w2 ⟨rfl,hb⟩
  have HBB:=A0_ (below_step HB.out hb)
  clear hb
  gi_wp2
  refine ⟨trivial,?_⟩
  gi_wp2
  exact ⟨_,results_tmp3 rfl _ _ _,rfl,HBB.out⟩
 |true=>
 obtain ⟨b3,hb3,h3⟩:=Option.bind_eq_some_iff.mp (show ((sky_isSpan.f a3 a4).bind _)=some (r1,r2,r3) from by simpa using h2)
 have HB3:=A0_ hb3;clear h2 hb3
 gi_wp2_with fail
 refine ⟨trivial,?_⟩
 refine (callsIn_wide.2 (sky_isSky.calls k A0_0 c0_0 l0_0 a0_1 a0_2 a0_3 true _ ?hC HC.out HB1.out)).mono ?_
 case hC=>exact Kd.C_alloc (Kd.C_alloc (Kd.C_alloc HR.out _) _) _
 rintro e w1 ⟨rfl,hb⟩
 have HB:=A0_ (below_step (below_alloc (below_alloc (below_alloc (Below.refl _ _) _) _) _) hb)
 have HS1:=A0_ (blk_below (blk_alloc (blk_alloc (blk_new w (.cells #[.slice A0_0 l0_0.length c0_0,.int .i64 a0_1,.int .i64 a0_2,.int .i64 a0_3] 29)) (.cells #[.int .i64 a1] 3)) (.cells #[.int .i64 a2] 3)) hb)
 have HO1:=A0_ (blk_below (blk_alloc (blk_new (w.alloc (.cells #[.slice A0_0 l0_0.length c0_0,.int .i64 a0_1,.int .i64 a0_2,.int .i64 a0_3] 29)) (.cells #[.int .i64 a1] 3)) (.cells #[.int .i64 a2] 3)) hb)
 have HT1:=A0_ (blk_below (blk_new ((w.alloc (.cells #[.slice A0_0 l0_0.length c0_0,.int .i64 a0_1,.int .i64 a0_2,.int .i64 a0_3] 29)).alloc (.cells #[.int .i64 a1] 3)) (.cells #[.int .i64 a2] 3)) hb)
 simp only [World.size_alloc] at HO1 HT1
 have x0:=blk_cell HS1.out 0
 have x1:=blk_cell HS1.out 1
 have x2:=blk_cell HS1.out 2
 have x3:=blk_cell HS1.out 3
 have y0:=blk_cell HO1.out 0
 have z0:=blk_cell HT1.out 0
 simp at x0 x1 x2 x3 y0 z0
 clear hb
 gi_wp2_with fail
 refine ⟨trivial,?_⟩
 refine (callsIn_wide.2 (sky_areTwo.calls A0_0 c0_0 l0_0 a0_1 a0_2 a0_3 a1 a2 true _ ?hC HC.out HB2.out)).mono ?_
 case hC=>exact Kd.C_below HR.out HB.out
 rintro e w2 ⟨rfl,hb⟩
 have HBB:=A0_ (below_step HB.out hb)
 have HS2:=A0_ (blk_below HS1.out hb)
 have HO2:=A0_ (blk_below HO1.out hb)
 have HT2:=A0_ (blk_below HT1.out hb)
 clear hb x0 x1 x2 x3 y0 z0
 gi_wp2_with fail
 refine ⟨trivial,?_⟩
 refine (callsIn_wide.2 (sky_isSpan.calls a3 a4 b3 _ HB3.out)).mono ?_
 rintro e w' ⟨rfl,⟨nd,rfl⟩⟩
 cases b3 with
 |false=>
  obtain ⟨rfl,rfl,rfl⟩:0=r1∧0=r2∧2=r3:=by simpa using h3
  gi_wp2
  exact ⟨_,results_tmp3 rfl _ _ _,rfl,pw_below_drewN HBB.out nd⟩
 |true=>
 have HF:=A0_ h3;clear h3
 have HBW:=A0_ (pw_below_drewN HBB.out nd)
 have HSW:=A0_ (blk_drewN HS2.out nd)
 have HOW:=A0_ (blk_drewN HO2.out nd)
 have HTW:=A0_ (blk_drewN HT2.out nd)
 clear HS2 HO2 HT2 HBB HB HS1 HO1 HT1
 generalize w2.drewN nd=W1 at HBW HSW HOW HTW ⊢
 have x0:=blk_cell HSW.out 0
 have x1:=blk_cell HSW.out 1
 have x2:=blk_cell HSW.out 2
 have x3:=blk_cell HSW.out 3
 simp at x0 x1 x2 x3
 have lt1:=blk_lt HTW.out
 have lt0:=blk_lt HSW.out
 gi_wp2_with (refine ⟨trivial,?_⟩;gi_at_call 70;refine (callsIn_wide.2 (days_calls A0_0 c0_0 l0_0.length a0_1 a0_2 a0_3 a3 a4 _)).mono ?_;rintro e w' ⟨rfl,rfl⟩)
 have hcond:∀ d∈daysOf a3 a4,(nearAt k l0_0 a0_1 a0_2 a0_3 a1 a2 d).isSome=true:=by
  have h:=HF.out
  rw [if_pos trivial] at h
  split at h
  ·assumption
  ·cases h
 have hres:∃ t,at_best_Near_c1.f k ((daysOf a3 a4).map (nearOf k l0_0 a0_1 a0_2 a0_3 a1 a2))=some t∧t.1=r1∧t.2=r2∧0=r3:=by
  have h:=HF.out
  rw [if_pos trivial,if_pos hcond] at h
  obtain ⟨t,ht,h2⟩:=Option.bind_eq_some_iff.mp h
  exact ⟨t,ht,by simpa using h2⟩
 obtain ⟨⟨t1,t2⟩,hres,rfl,rfl,rfl⟩:=hres
 have hsp:=isSpan_true HB3.out
 obtain ⟨s1,s2,s3⟩:=hsp
 have HRES:=A0_ hres;have HCD:=A0_ hcond;clear hres hcond x0 x1 x2 x3
 have hB0:Below w.heap.size w ((((W1.alloc (.cells #[.slice none 0 0] 116)).alloc (.cells #[.slice A0_0 l0_0.length c0_0,.int .i64 a0_1,.int .i64 a0_2,.int .i64 a0_3] 29)).alloc (.cells #[.int .i64 a3] 3)).alloc (.cells #[.int .i64 a4] 3)):=below_alloc (below_alloc (below_alloc (below_alloc HBW.out _) _) _) _
 have hO:=blk_alloc (blk_alloc (blk_alloc (blk_new W1 (.cells #[.slice none 0 0] 116)) (.cells #[.slice A0_0 l0_0.length c0_0,.int .i64 a0_1,.int .i64 a0_2,.int .i64 a0_3] 29)) (.cells #[.int .i64 a3] 3)) (.cells #[.int .i64 a4] 3)
 have hS:=blk_alloc (blk_alloc (blk_new (W1.alloc (.cells #[.slice none 0 0] 116)) (.cells #[.slice A0_0 l0_0.length c0_0,.int .i64 a0_1,.int .i64 a0_2,.int .i64 a0_3] 29)) (.cells #[.int .i64 a3] 3)) (.cells #[.int .i64 a4] 3)
 have hL:=blk_alloc (blk_new ((W1.alloc (.cells #[.slice none 0 0] 116)).alloc (.cells #[.slice A0_0 l0_0.length c0_0,.int .i64 a0_1,.int .i64 a0_2,.int .i64 a0_3] 29)) (.cells #[.int .i64 a3] 3)) (.cells #[.int .i64 a4] 3)
 have hH:=blk_new (((W1.alloc (.cells #[.slice none 0 0] 116)).alloc (.cells #[.slice A0_0 l0_0.length c0_0,.int .i64 a0_1,.int .i64 a0_2,.int .i64 a0_3] 29)).alloc (.cells #[.int .i64 a3] 3)) (.cells #[.int .i64 a4] 3)
 have hP:=blk_alloc (blk_alloc (blk_alloc (blk_alloc HOW.out (.cells #[.slice none 0 0] 116)) (.cells #[.slice A0_0 l0_0.length c0_0,.int .i64 a0_1,.int .i64 a0_2,.int .i64 a0_3] 29)) (.cells #[.int .i64 a3] 3)) (.cells #[.int .i64 a4] 3)
 have hQ:=blk_alloc (blk_alloc (blk_alloc (blk_alloc HTW.out (.cells #[.slice none 0 0] 116)) (.cells #[.slice A0_0 l0_0.length c0_0,.int .i64 a0_1,.int .i64 a0_2,.int .i64 a0_3] 29)) (.cells #[.int .i64 a3] 3)) (.cells #[.int .i64 a4] 3)
 have hsz:((((W1.alloc (.cells #[.slice none 0 0] 116)).alloc (.cells #[.slice A0_0 l0_0.length c0_0,.int .i64 a0_1,.int .i64 a0_2,.int .i64 a0_3] 29)).alloc (.cells #[.int .i64 a3] 3)).alloc (.cells #[.int .i64 a4] 3)).heap.size=W1.heap.size+4:=by simp
 simp only [World.size_alloc] at hO hS hL hH
 clear HSW HOW HTW
 generalize ((((W1.alloc (.cells #[.slice none 0 0] 116)).alloc (.cells #[.slice A0_0 l0_0.length c0_0,.int .i64 a0_1,.int .i64 a0_2,.int .i64 a0_3] 29)).alloc (.cells #[.int .i64 a3] 3)).alloc (.cells #[.int .i64 a4] 3))=W0 at hO hS hL hH hP hQ hsz hB0 ⊢
 refine wpIn_rangeFunc_ownH rfl (by omega) (gf:=126) (lb:=#[.pointer (some ⟨W1.heap.size+2,0,none⟩),.pointer (some ⟨W1.heap.size+3,0,none⟩),.pointer (some ⟨W1.heap.size+1,0,none⟩)]) rfl trivial (enters_of Tryz.func126 (by kernel_rfl) rfl)
  (days_stops (5 - 1) (by omega) (W1.heap.size+1) A0_0 c0_0 l0_0.length a0_1 a0_2 a0_3 a3 a4 (by omega) (by omega) s3 W0 hS hL hH) KpD_t (KpD_b (by omega)) (Below.refl _ _) (fun _=>rfl)
  (fun pre W=>DaysI k119 119 116 w W0 W1.heap.size A0_0 c0_0 l0_0.length a0_1 a0_2 a0_3 a3 a4 a1 a2 ((pre.map (·.1)).map (nearOf k l0_0 a0_1 a0_2 a0_3 a1 a2)) W)
  (fun _ _ _=>False)
  (DaysI.own hB0.size) (fun _ _ _ _ _ hs _ _=>hs) ⟨⟨_,hO,Kd.R_nil _ _ _ _ _⟩,hB0,Nat.le_refl _,hS,hL,hH,hP,hQ⟩
  (fun x a' W=>∃ Bx,W0.heap.size≤Bx∧W.heap[Bx]?=some (.cells #[.slice A0_0 l0_0.length c0_0,.int .i64 a0_1,.int .i64 a0_2,.int .i64 a0_3,.int .i64 x.1] 112 (0,0))∧a'={ tmps:=#[.agg #[.slice A0_0 l0_0.length c0_0,.int .i64 a0_1,.int .i64 a0_2,.int .i64 a0_3],.int .i64 a1,.int .i64 a2,.int .i64 a3,.int .i64 a4,.pointer (some ⟨w.heap.size,0,none⟩),.pointer (some ⟨w.heap.size+1,0,none⟩),.pointer (some ⟨w.heap.size+1+1,0,none⟩),undef,undef,.int .i64 0,.int .i64 0,.int .i64 0,.pointer (some ⟨W1.heap.size,0,none⟩),.pointer (some ⟨Bx,0,none⟩),undef,.agg #[.slice A0_0 l0_0.length c0_0,.int .i64 a0_1,.int .i64 a0_2,.int .i64 a0_3],.bool true,.bool false,.bool false,.agg #[.slice A0_0 l0_0.length c0_0,.int .i64 a0_1,.int .i64 a0_2,.int .i64 a0_3],.int .i64 a1,.int .i64 a2,.bool true,.bool false,.bool false,.bool false,.int .i64 a3,.int .i64 a4,.bool true,.bool false,.bool false,.agg #[.slice A0_0 l0_0.length c0_0,.int .i64 a0_1,.int .i64 a0_2,.int .i64 a0_3],.int .i64 a3,.int .i64 a4,.func (.func 126) #[] #[.pointer (some ⟨W1.heap.size+1+1,0,none⟩),.pointer (some ⟨W1.heap.size+1+2,0,none⟩),.pointer (some ⟨W1.heap.size+1,0,none⟩)],.agg #[.slice A0_0 l0_0.length c0_0,.int .i64 a0_1,.int .i64 a0_2,.int .i64 a0_3,.int .i64 x.1],undef,undef,undef,undef,undef,undef,undef,undef,undef,undef,undef,undef,undef,undef,undef,undef,undef],defers:=[] })
  ?hAx ?assign ?body ?done ?stop
 case hAx=>
  rintro x a' _ X Y row ⟨Bx,h1,h2,h3⟩ hg hr
  exact ⟨Bx,h1,blk_ownFrom h2 hg (fun r e=>(hr r e).2),h3⟩
 case assign=>
  rintro l pre x W K hI hK
  dsimp only [encDay]
  have hs:=hI.size
  obtain ⟨⟨v,hOv,hRv⟩,hBW,hsW,hSW,hLW,hHW,hPW,hQW⟩:=hI
  gi_wp2
  exact hK _ _ ((KeepsOthers.alloc _ _).from _) (fun i h1 h2=>Below.heap_alloc _ _ _ (by omega)) ⟨⟨v,blk_alloc hOv _,Kd.R_alloc hRv _⟩,below_alloc hBW _,by simp;omega,blk_alloc hSW _,blk_alloc hLW _,blk_alloc hHW _,blk_alloc hPW _,blk_alloc hQW _⟩ ⟨W.heap.size,hs,blk_new _ _,rfl⟩
 case body=>
  rintro l pre x a' W hl ⟨rr,hrr⟩ hI ⟨Bx,hBx,hX,rfl⟩ hlt
  obtain ⟨r,hr⟩:=Option.isSome_iff_exists.1 (HCD.out x.1 (mem_daysOf.2 x.2))
  obtain ⟨ah,ha,hro⟩:=Option.bind_eq_some_iff.mp (show (ss_ahead.f k l0_0 a0_1 a0_2 a0_3 x.1 a1 a2).bind (fun a=>sky_round.f a)=some r from hr)
  have HA:=A0_ ha;have HRO:=A0_ hro
  have HNR:=A0_ (show nearOf k l0_0 a0_1 a0_2 a0_3 a1 a2 x.1=⟨x.1,r⟩ by unfold nearOf;rw [hr];rfl)
  clear ha hro hr
  have HI0:=A0_ (DaysI.stay hI (by omega) (by omega) (below_drew1 (Below.refl _ W))).1
  have hsW0:=hI.size
  have HK0:=A0_ (DaysI.stay hI (by omega) (by omega) (below_drew1 (Below.refl _ W))).2.1
  have HP0:=A0_ (DaysI.stay hI (by omega) (by omega) (below_drew1 (Below.refl _ W))).2.2
  have HX0:=A0_ (blk_drew hX)
  clear hI hX hO hS hL hH hP hQ hrr
  obtain ⟨v,hOv,hRv⟩:=HI0.out.out
  have HO0:=A0_ hOv;have HR0:=A0_ hRv;clear hOv hRv
  have hbW:W0.heap.size≤W.drew.heap.size:=HI0.out.size
  gi_wp2
  refine startIn_ (S:=fun w'=>w'.cell? ⟨W1.heap.size,0,none⟩=some v∧w'.cell? ⟨Bx,0,none⟩=some (.slice A0_0 l0_0.length c0_0)∧w'.cell? ⟨Bx,1,none⟩=some (.int .i64 a0_1)∧w'.cell? ⟨Bx,2,none⟩=some (.int .i64 a0_2)∧w'.cell? ⟨Bx,3,none⟩=some (.int .i64 a0_3)∧w'.cell? ⟨Bx,4,none⟩=some (.int .i64 x.1)∧w'.cell? ⟨w.heap.size+1,0,none⟩=some (.int .i64 a1)∧w'.cell? ⟨w.heap.size+2,0,none⟩=some (.int .i64 a2)) (ds:=[10,11]) #[false,false,false,false,false,false,false,false,false,false,false,false] (by kernel_rfl) (by kernel_rfl) rfl rfl ⟨(blk_cell HO0.out 0).trans rfl,(blk_cell HX0.out 0).trans rfl,(blk_cell HX0.out 1).trans rfl,(blk_cell HX0.out 2).trans rfl,(blk_cell HX0.out 3).trans rfl,(blk_cell HX0.out 4).trans rfl,(blk_cell HI0.out.one 0).trans rfl,(blk_cell HI0.out.other 0).trans rfl⟩ (fun hHeld=>?_)
  generalize W.drew=W2 at HI0 HK0 HP0 HX0 HO0 HR0 hbW hHeld ⊢
  refine take_ (i:=0) (N:=some 37) (v:=?_) (a':=?_) #[true,false,false,false,false,false,false,false,false,false,false,false] rfl rfl (by kernel_rfl) (fun _ _ _ h=>onlyN_no h) (Or.inl ⟨by rfl,?_⟩) hHeld ?_ ?_
  rotate_left
  ·rintro w' ⟨s0,s1,s2,s3,s4,s5,s6,s7⟩
   go_simp
   with_reducible rfl
  rotate_left
  ·simp only [Act.put,List.setIfInBounds_toArray,List.set_cons_zero,List.set_cons_succ]
   rfl
  refine pure_ (i:=1) (N:=some 38) (v:=?_) (a':=?_) #[true,true,false,false,false,false,false,false,false,false,false,false] rfl rfl (by kernel_rfl) (fun _ _ _ h=>onlyN_no h) (Or.inl ⟨by rfl,?_⟩) ?_ ?_
  rotate_left
  ·intro w'
   go_simp
   with_reducible rfl
  rotate_left
  ·simp only [Act.put,List.setIfInBounds_toArray,List.set_cons_zero,List.set_cons_succ]
   rfl
  refine take_ (i:=2) (N:=some 39) (v:=?_) (a':=?_) #[true,true,true,false,false,false,false,false,false,false,false,false] rfl rfl (by kernel_rfl) (fun _ _ _ h=>onlyN_no h) (Or.inl ⟨by rfl,?_⟩) hHeld ?_ ?_
  rotate_left
  ·rintro w' ⟨s0,s1,s2,s3,s4,s5,s6,s7⟩
   go_simp
   with_reducible rfl
  rotate_left
  ·simp only [Act.put,List.setIfInBounds_toArray,List.set_cons_zero,List.set_cons_succ]
   rfl
  refine take_ (i:=3) (N:=some 40) (v:=?_) (a':=?_) #[true,true,true,true,false,false,false,false,false,false,false,false] rfl rfl (by kernel_rfl) (fun _ _ _ h=>onlyN_no h) (Or.inl ⟨by rfl,?_⟩) hHeld ?_ ?_
  rotate_left
  ·rintro w' ⟨s0,s1,s2,s3,s4,s5,s6,s7⟩
   go_simp
   with_reducible rfl
  rotate_left
  ·simp only [Act.put,List.setIfInBounds_toArray,List.set_cons_zero,List.set_cons_succ]
   rfl
  refine take_ (i:=4) (N:=some 41) (v:=?_) (a':=?_) #[true,true,true,true,true,false,false,false,false,false,false,false] rfl rfl (by kernel_rfl) (fun _ _ _ h=>onlyN_no h) (Or.inl ⟨by rfl,?_⟩) hHeld ?_ ?_
  rotate_left
  ·rintro w' ⟨s0,s1,s2,s3,s4,s5,s6,s7⟩
   go_simp
   with_reducible rfl
  rotate_left
  ·simp only [Act.put,List.setIfInBounds_toArray,List.set_cons_zero,List.set_cons_succ]
   rfl
  refine take_ (i:=5) (N:=some 42) (v:=?_) (a':=?_) #[true,true,true,true,true,true,false,false,false,false,false,false] rfl rfl (by kernel_rfl) (fun _ _ _ h=>onlyN_no h) (Or.inl ⟨by rfl,?_⟩) hHeld ?_ ?_
  rotate_left
  ·rintro w' ⟨s0,s1,s2,s3,s4,s5,s6,s7⟩
   go_simp
   with_reducible rfl
  rotate_left
  ·simp only [Act.put,List.setIfInBounds_toArray,List.set_cons_zero,List.set_cons_succ]
   rfl
  refine one_ (i:=6) (N:=some 43) #[true,true,true,true,true,true,true,false,false,false,false,false] rfl rfl (by kernel_rfl) (by decide) (fun K hK=>?_)
  refine goes_ Tryz.func73 (by kernel_rfl) rfl #[.agg #[.slice A0_0 l0_0.length c0_0,.int .i64 a0_1,.int .i64 a0_2,.int .i64 a0_3,.int .i64 x.1],.int .i64 a1,.int .i64 a2] (by rfl) rfl rfl (by (try simp only [List.map_toArray,List.map_cons,List.map_nil]);rfl) ?_
  refine (ss_ahead.calls k _ _ l0_0 a0_1 a0_2 a0_3 x.1 a1 a2 ah _ (Kd.C_below HR.out HI0.out.below) HC.out HA.out).mono ?_
  rintro e w4 ⟨rfl,hb⟩
  refine ⟨_,rfl,?_⟩
  have st:=HI0.out.stay (by omega) (by omega) hb
  have HI1:=A0_ st.1
  have HK1:=A0_ (HK0.out.trans st.2.1)
  have HP1:=A0_ (KpD_t HP0.out st.2.2)
  have HX1:=A0_ (blk_below HX0.out hb)
  have HO1:=A0_ (blk_below HO0.out hb)
  have HR1:=A0_ (Kd.R_below HR0.out hb)
  clear hb st HI0 HK0 HP0 HX0 HO0 HR0 hHeld
  refine hK.out _ _ ⟨(blk_cell HO1.out 0).trans rfl,(blk_cell HX1.out 0).trans rfl,(blk_cell HX1.out 1).trans rfl,(blk_cell HX1.out 2).trans rfl,(blk_cell HX1.out 3).trans rfl,(blk_cell HX1.out 4).trans rfl,(blk_cell HI1.out.one 0).trans rfl,(blk_cell HI1.out.other 0).trans rfl⟩ (fun hHeld=>?_)
  clear hK K
  refine norm_ (a':=?_) ?_ ?_
  rotate_left
  ·show Act.put _ (some 43) _=_
   simp only [Act.put,List.setIfInBounds_toArray,List.set_cons_zero,List.set_cons_succ]
   rfl
  refine one_ (i:=7) (N:=some 44) #[true,true,true,true,true,true,true,true,false,false,false,false] rfl rfl (by kernel_rfl) (by decide) (fun K hK=>?_)
  refine goes_ Tryz.func72 (by kernel_rfl) rfl #[.int .i64 ah] (by rfl) rfl rfl (by (try simp only [List.map_toArray,List.map_cons,List.map_nil]);rfl) ?_
  refine (sky_round.calls ah r _ HRO.out).mono ?_
  rintro e w5 ⟨rfl,hb⟩
  refine ⟨_,rfl,?_⟩
  have st:=HI1.out.stay (by omega) (by omega) hb
  have HI2:=A0_ st.1
  have HK2:=A0_ (HK1.out.trans st.2.1)
  have HP2:=A0_ (KpD_t HP1.out st.2.2)
  have HX2:=A0_ (blk_below HX1.out hb)
  have HO2:=A0_ (blk_below HO1.out hb)
  have HR2:=A0_ (Kd.R_below HR1.out hb)
  clear hb st HI1 HK1 HP1 HX1 HO1 HR1 hHeld
  refine hK.out _ _ ⟨(blk_cell HO2.out 0).trans rfl,(blk_cell HX2.out 0).trans rfl,(blk_cell HX2.out 1).trans rfl,(blk_cell HX2.out 2).trans rfl,(blk_cell HX2.out 3).trans rfl,(blk_cell HX2.out 4).trans rfl,(blk_cell HI2.out.one 0).trans rfl,(blk_cell HI2.out.other 0).trans rfl⟩ (fun hHeld=>?_)
  clear hK K
  refine norm_ (a':=?_) ?_ ?_
  rotate_left
  ·show Act.put _ (some 44) _=_
   simp only [Act.put,List.setIfInBounds_toArray,List.set_cons_zero,List.set_cons_succ]
   rfl
  refine pure_ (i:=8) (N:=some 45) (v:=?_) (a':=?_) #[true,true,true,true,true,true,true,true,true,false,false,false] rfl rfl (by kernel_rfl) (fun _ _ _ h=>onlyN_no h) (Or.inl ⟨by rfl,?_⟩) ?_ ?_
  rotate_left
  ·intro w'
   go_simp
   with_reducible rfl
  rotate_left
  ·simp only [Act.put,List.setIfInBounds_toArray,List.set_cons_zero,List.set_cons_succ]
   rfl
  refine one_ (i:=9) (N:=some 46) #[true,true,true,true,true,true,true,true,true,true,false,false] rfl rfl (by kernel_rfl) (by decide) (fun K hK=>?_)
  refine value_ (w1:=?_) (v:=?_) (by rfl) rfl ?_ ?_
  rotate_left 2
  ·go_simp
   constructor
   ·rfl
   ·rfl
  refine hK.out _ _ ⟨(blk_cell (blk_alloc HO2.out _) 0).trans rfl,(blk_cell (blk_alloc HX2.out _) 0).trans rfl,(blk_cell (blk_alloc HX2.out _) 1).trans rfl,(blk_cell (blk_alloc HX2.out _) 2).trans rfl,(blk_cell (blk_alloc HX2.out _) 3).trans rfl,(blk_cell (blk_alloc HX2.out _) 4).trans rfl,(blk_cell (blk_alloc HI2.out.one _) 0).trans rfl,(blk_cell (blk_alloc HI2.out.other _) 0).trans rfl⟩ (fun hHeld=>?_)
  clear hK K
  refine norm_ (a':=?_) ?_ ?_
  rotate_left
  ·show Act.put _ (some 46) _=_
   simp only [Act.put,List.setIfInBounds_toArray,List.set_cons_zero,List.set_cons_succ]
   rfl
  refine last_ (i:=10) (N:=some 47) #[true,true,true,true,true,true,true,true,true,true,true,false] rfl rfl (by kernel_rfl) (by decide) (fun K hK=>?_)
  have hs2:W0.heap.size≤w5.heap.size:=HI2.out.size
  obtain ⟨hr0,inner,hown,hreps⟩:=HR2.out
  have hne:some W1.heap.size≠v.ownBlock:=Boxed.not_row (t:=116) HO2.out (by decide) hown
  have hlen:((pre.map (·.1)).map (nearOf k l0_0 a0_1 a0_2 a0_3 a1 a2)).length=pre.length:=by simp
  refine Kd.R_append_step k119 (w0:=w5) W0.heap.size (by rfl) (.tmp 37) (.tmp 46) 116 119 (.agg #[(.int .i64 0),(.int .i64 0)]) 16 rfl und_apart info_apart rfl (by decide) (by omega) v ((pre.map (·.1)).map (nearOf k l0_0 a0_1 a0_2 a0_3 a1 a2)) (⟨x.1,r⟩:S119) [.int .i64 x.1,.int .i64 r] (fun _=>True) (fun _=>False) rfl rfl (k119_mkM _ _ _ (⟨x.1,r⟩:S119)) (fun _ hk=>hk.elim) (fun _ _=>trivial) HR2.out (Below.refl _ _) hs2 (by rw [hlen];omega) ?_
  intro v1 w9 ho9 hb9 hg9 hat9
  obtain ⟨Av,cv,hv1⟩:=Kd.R_slice ho9
  rw [show ((pre.map (·.1)).map (nearOf k l0_0 a0_1 a0_2 a0_3 a1 a2) ++ [(⟨x.1,r⟩:S119)]).length=pre.length+1 by simp] at hv1
  subst hv1
  have hcl:=append_close2 (m₀:=w.heap.size) HO2.out hne ho9 (by decide) (by decide) hg9 (hb9.mono (by have:=hB0.size;omega)) (by omega)
  have HST:=A0_ (blk_grown HO2.out hg9 hne)
  refine hK.out _ _ ?_
  clear hK K
  refine norm_ (a':=?_) ?_ ?_
  rotate_left
  ·show Act.put _ (some 47) _=_
   simp only [Act.put,List.setIfInBounds_toArray,List.set_cons_zero,List.set_cons_succ]
   rfl
  refine last_ (i:=11) (N:=none) #[true,true,true,true,true,true,true,true,true,true,true,true] rfl rfl (by kernel_rfl) (by decide) (fun K hK=>?_)
  have hs41:w9.cell? ⟨W1.heap.size,0,none⟩=some v:=(blk_cell HST.out 0).trans rfl
  have hfs41:=blk_frozen HST.out 0
  refine skip_ (w1:=?_) (by rfl) rfl ?_ ?_
  rotate_left
  ·go_simp
   rfl
  refine hK.out _ _ ?_
  clear hK K
  refine done_ (by kernel_rfl) ?_
  refine ⟨rfl,?_⟩
  have st:=HI2.out.step (by omega) (by omega) HO2.out HR2.out hcl.1 hcl.2.1 hcl.2.2.1 hcl.2.2.2
  refine ⟨HK2.out.trans st.2.1,KpD_t HP2.out st.2.2,?_⟩
  dsimp only
  have e1:((pre ++ [x]).map (·.1)).map (nearOf k l0_0 a0_1 a0_2 a0_3 a1 a2)=((pre.map (·.1)).map (nearOf k l0_0 a0_1 a0_2 a0_3 a1 a2)) ++ [⟨x.1,r⟩]:=by
   rw [List.map_append,List.map_append]
   simp [HNR.out]
  rw [e1]
  exact st.1
 case done=>
  rintro D ys W hD hys hI hK
  obtain ⟨v,hOv,hRv⟩:=hI.out
  have o0:=blk_cell hOv 0
  simp at o0
  have HIb:=A0_ hI.below
  have HB0:=A0_ hB0;have HK:=A0_ hK
  have hL2:at_best_Near_c1.f k ((ys.map (·.1)).map (nearOf k l0_0 a0_1 a0_2 a0_3 a1 a2))=some (t1,t2):=by rw [allDays_val hys];exact HRES.out
  generalize (ys.map (·.1)).map (nearOf k l0_0 a0_1 a0_2 a0_3 a1 a2)=ls at hRv hL2
  have HL:=A0_ hL2;clear hI hOv hys hO hS hL hH hP hQ hK hL2 HF HCD HRES
  obtain ⟨A,c,rfl,hcl,hCl⟩:=Kd.R_reads hRv
  clear hRv
  gi_wp2_with fail
  refine ⟨trivial,?_⟩
  refine (callsIn_wide.2 (at_best_Near_c1.calls k A c ls t1 t2 _ hCl hcl HL.out)).mono ?_
  rintro e w8 ⟨rfl,hb⟩
  have HKd:=A0_ ((hb.block D (Array.getElem?_eq_some_iff.1 HK.out).1).trans HK.out)
  have HBd:=A0_ (HIb.out.trans (hb.mono HIb.out.size))
  have HDs:=A0_ (show D<w8.heap.size from Nat.lt_of_lt_of_le (Array.getElem?_eq_some_iff.1 HK.out).1 hb.size)
  clear hb o0
  gi_wp2_with fail
  have hK9:(w8.alloc (.cells #[.int .i64 t1,.int .i64 t2] 119)).drew.heap[D]?=some (.deferred (some [])):=(Below.heap_alloc _ _ _ HDs.out).trans HKd.out
  have hB9:=below_drew1 (below_alloc HBd.out (.cells #[.int .i64 t1,.int .i64 t2] 119))
  gi_region
  all_goals gi_wp2
  all_goals refine ⟨by simp,.inl ⟨_,_,rfl,run_takeDeferred hK9,?_⟩⟩
  all_goals exact ⟨_,results_tmp3 rfl _ _ _,rfl,hB9.trans (belowK_b (w:=w) (Nat.le_refl _) _ D _ _ (by have:=HB0.out.size;omega) hK9 rfl rfl)⟩
 case stop=>
  rintro D c pre W _ _ h _
  exact h.elim
end Go.Proofs.YtjahbgldccjbfaaGreatDoor.PSky
end
section
namespace Go.Proofs.YtjahbgldccjbfaaGreatDoor.PSky
open Go.RowKit Go.Proofs.YtjahbgldccjbfaaGreatDoorW.PrintWords Go.Proofs.YtjahbgldccjbfaaGreatDoorW.PrintLast Go.Proofs.YtjahbgldccjbfaaGreatDoorW.PrintMore
theorem sameI_ev (l:List Int) (hl:l.length≤1000000):Ev (fun k=>tr_Same.f k l l) true:=by
 have key:∀ m i:Nat,i+m=l.length→Ev (fun k=>tr_Same.l0 k l l (i:Int)) true:=by
  intro m
  induction m with
  |zero=>
   intro i h
   refine Ev.step (fun k=>by rw [tr_Same.l0]) ?_
   exact Ev.neg (by omega) (Ev.now _)
  |succ m ih=>
   intro i h
   refine Ev.step (fun k=>by rw [tr_Same.l0]) ?_
   refine Ev.pos (by omega) (Ev.pos (by omega) (Ev.pos (by omega) (Ev.pos rfl ?_)))
   rw [wrap_id (by omega)]
   exact ih (i+1) (by omega)
 unfold tr_Same.f
 exact Ev.pos rfl (key l.length 0 (by omega))
def gapOf (x:Int):Int:=mn (x % 21600) (21600 - x % 21600)
theorem gap_bounds (x:Int):0≤gapOf x∧gapOf x≤10800:=by
 unfold gapOf mn
 split <;> omega
def gapD (l:List S74) (i j d:Int):Int:=gapOf (aheadI l i j d)
def least (g:Int→Int) (s:Int × Int) (ds:List Int):Int × Int:=ds.foldl (fun s d=>if g d<s.2 then (d,g d) else s) s
theorem nearAt_ev {l:List S74} {p q n:Int} (h:okSky l p q n=true) {i j:Int} (hij:okTwo l i j=true) {d:Int} (hd:0≤d∧d≤20000):Ev (fun k=>nearAt k l p q n i j d) (gapD l i j d):=by
 have b1:=aheadI_bounds h hij (d:=d) (by omega)
 have e1:Ev (fun k=>ss_ahead.f k l p q n d i j) (aheadI l i j d):=by
  obtain ⟨a,b,rfl,rfl,ha,hb,-⟩:=two_at hij
  exact ahead_ev h a b ha hb (by omega)
 unfold nearAt
 refine Ev.bind e1 (Ev.is ?_)
 unfold sky_round.f
 rw [around_eq (by omega),Option.bind_some,wrap_id (by omega)]
 rfl
theorem rdA_get (l:List S119) (i:Nat) (h:i<l.length):rd_T119 l (i:Int)=l[i]:=by unfold rd_T119;simp [h]
def apartsOf (g:Int→Int) (ds:List Int):List S119:=ds.map fun d=>⟨d,g d⟩
theorem best_loop (g:Int→Int) (ds:List Int) (hL:ds.length≤1000000):∀ (m i:Nat) (s:Int × Int),i+m=ds.length→1≤i→Ev (fun k=>at_best_Near_c1.l0 k (apartsOf g ds) (ds.length:Int) (i:Int) s.1 s.2) (least g s (ds.drop i))
 |0,i,s,h,h1=>by
  refine Ev.step (fun k=>by rw [at_best_Near_c1.l0]) ?_
  rw [show ds.drop i=[] from List.drop_eq_nil_of_le (by omega)]
  exact Ev.neg (by omega) (Ev.now _)
 |m+1,i,s,h,h1=>by
  have hi:i<ds.length:=by omega
  have ih:=fun s'=>best_loop g ds hL m (i+1) s' (by omega) (by omega)
  refine Ev.step (fun k=>by rw [at_best_Near_c1.l0]) ?_
  have hl:(apartsOf g ds).length=ds.length:=by simp [apartsOf]
  rw [rdA_get _ i (by omega),wrap_id (by omega)]
  have e:(apartsOf g ds)[i]'(by omega)=⟨ds[i],g ds[i]⟩:=by simp [apartsOf]
  rw [e]
  refine Ev.pos (by omega) (Ev.pos (by omega) (Ev.pos (by omega) (Ev.neg (by omega) (Ev.bind (Ev.is rfl) ?_))))
  rw [List.drop_eq_getElem_cons hi]
  show Ev _ (least g (if g ds[i]<s.2 then (ds[i],g ds[i]) else s) (ds.drop (i+1)))
  by_cases hg:g ds[i]<s.2
  ·rw [if_pos hg]
   exact Ev.pos (by simpa using hg) (ih (ds[i],g ds[i]))
  ·rw [if_neg hg]
   exact Ev.neg (by simpa using hg) (ih s)
theorem best_ev (g:Int→Int) (d:Int) (ds:List Int) (hL:ds.length<1000000):Ev (fun k=>at_best_Near_c1.f k (apartsOf g (d :: ds))) (least g (d,g d) ds):=by
 unfold at_best_Near_c1.f
 refine Ev.step (fun k=>by rw [at_best_Near_c1.l0]) ?_
 have hl:(apartsOf g (d :: ds)).length=(d :: ds).length:=by simp [apartsOf]
 rw [hl,show (0:Int)=((0:Nat):Int) from rfl,rdA_get _ 0 (by rw [hl];simp),wrap_id (by omega)]
 refine Ev.pos (by simp) (Ev.pos (by omega) (Ev.pos (by simp) (Ev.pos (by omega) ?_)))
 exact best_loop g (d :: ds) (by simp;omega) ds.length 1 (d,g d) (by simp;omega) (by omega)
theorem least_first (g:Int→Int) (d:Int) (ds:List Int) (h:g d<21600):least g (0,21600) (d :: ds)=least g (d,g d) ds:=by
 show least g (if g d<21600 then (d,g d) else (0,21600)) ds=_
 rw [if_pos h]
theorem daysOf_cons {a b:Int} (h:a≤b):daysOf a b=a :: daysOf (a+1) b:=by
 unfold daysOf
 rw [show (b+1 - a).toNat=(b+1 - (a+1)).toNat+1 by omega,List.range_succ_eq_map,List.map_cons,List.map_map]
 congr 1
 ·simp
 ·refine List.map_congr_left fun j _=>?_
  simp only [Function.comp_apply,Nat.succ_eq_add_one]
  omega
def nearOn (l:List S74) (i j a b:Int):Int × Int:=least (gapD l i j) (0,21600) (daysOf a b)
theorem Near_ev (l:List S74) (p q n i j a b:Int):Ev (fun k=>sky_Near.f k l p q n i j a b) (if okSky l p q n=true∧okTwo l i j=true∧okSpan a b=true then ((nearOn l i j a b).1,(nearOn l i j a b).2,0) else (0,0,2)):=by
 unfold sky_Near.f
 refine Ev.bind (isSky_ev l p q n) ?_
 cases h1:okSky l p q n with
 |false=>
  refine Ev.neg (by simp) ?_
  rw [if_neg (by simp)]
  exact Ev.now _
 |true=>
  have hl:=(ok_at h1).2.1
  refine Ev.pos rfl (Ev.bind (Ev.is (two_eq (by omega) p q n i j)) ?_)
  cases h2:okTwo l i j with
  |false=>
   refine Ev.neg (by simp) ?_
   rw [if_neg (by simp)]
   exact Ev.now _
  |true=>
   refine Ev.pos rfl (Ev.bind (Ev.is (isSpan_eq a b)) ?_)
   cases h3:okSpan a b with
   |false=>
    refine Ev.neg (by simp) ?_
    rw [if_neg (by simp)]
    exact Ev.now _
   |true=>
    have hsp:=span_of h3
    rw [if_pos (show true=true∧true=true∧true=true from ⟨rfl,rfl,rfl⟩)]
    refine Ev.pos rfl ?_
    have hd:=daysOf_cons (a:=a) (b:=b) (by omega)
    have hbest:=best_ev (gapD l i j) a (daysOf (a+1) b) (by unfold daysOf;simp;omega)
    rw [← hd,← least_first (gapD l i j) a _ (by have:=gap_bounds (aheadI l i j a);unfold gapD;omega),← hd] at hbest
    obtain ⟨K,hK⟩:=Ev.all (fun d k=>nearAt k l p q n i j d) (fun d=>gapD l i j d) (daysOf a b) (fun d hd=>nearAt_ev h1 h2 (by have:=(day_span h3 hd).1;omega))
    obtain ⟨K2,hK2⟩:=hbest
    refine ⟨K+K2,fun k hk=>?_⟩
    have hk':=hK k (by omega)
    have hk2:=hK2 k (by omega)
    dsimp only at hk2
    show (if ∀ d∈daysOf a b,(nearAt k l p q n i j d).isSome=true then (at_best_Near_c1.f k ((daysOf a b).map (nearOf k l p q n i j))).bind fun t=>some (t.1,t.2,(0:Int)) else none)=_
    rw [if_pos (fun d hd=>by rw [hk' d hd];rfl)]
    have e:(daysOf a b).map (nearOf k l p q n i j)=apartsOf (gapD l i j) (daysOf a b):=by
     unfold apartsOf
     refine List.map_congr_left fun d hd=>?_
     unfold nearOf
     rw [hk' d hd]
     rfl
    rw [e,hk2]
    rfl
theorem refApart_eq {a b:Int} (ha:0≤a∧a<21600) (hb:0≤b∧b<21600):tr_Apart.f a b=some (gapOf (a - b)):=by
 unfold tr_Apart.f
 rw [wrap_id (by omega),Less_eq (by omega),Option.bind_some,wrap_id (by omega)]
 rfl
theorem range_cons (d:Int) (m:Nat):((List.range (m+1)).map fun j:Nat=>d+(j:Nat))=d :: ((List.range m).map fun j:Nat=>d+1+(j:Nat)):=by
 rw [List.range_succ_eq_map,List.map_cons,List.map_map]
 congr 1
 ·simp
 ·refine List.map_congr_left fun j _=>?_
  simp only [Function.comp_apply,Nat.succ_eq_add_one]
  omega
end Go.Proofs.YtjahbgldccjbfaaGreatDoor.PSky
end
section
namespace Go.Proofs.YtjahbgldccjbfaaGreatDoor.PSky
open Go.RowKit Go.Proofs.YtjahbgldccjbfaaGreatDoorW.PrintWords Go.Proofs.YtjahbgldccjbfaaGreatDoorW.PrintLast Go.Proofs.YtjahbgldccjbfaaGreatDoorW.PrintMore
def listC (d:Int) (f:Bool) (m:S95):Bool:=decide (m.f0=d) && (m.f1 == f)
theorem listedC_ev (l:List S95) (hl:l.length≤1000000) (d:Int) (f:Bool):Ev (fun k=>tl_listed.f k l d f) (l.any (listC d f)):=by
 have key:∀ m i:Nat,i+m=l.length→Ev (fun k=>tl_listed.l0 k l d f (i:Int)) ((l.drop i).any (listC d f)):=by
  intro m
  induction m with
  |zero=>
   intro i h
   rw [show i=l.length by omega,List.drop_length]
   refine Ev.step (fun k=>by rw [tl_listed.l0]) ?_
   exact Ev.neg (by omega) (Ev.now _)
  |succ m ih=>
   intro i h
   have hi:i<l.length:=by omega
   have ih':=ih (i+1) (by omega)
   rw [List.drop_eq_getElem_cons hi,List.any_cons]
   refine Ev.step (fun k=>by rw [tl_listed.l0]) ?_
   rw [rdM_get l i hi,wrap_id (by omega)]
   generalize l[i]=y
   refine Ev.pos (by omega) (Ev.pos (by omega) ?_)
   unfold listC
   by_cases h1:y.f0=d
   ·rw [decide_eq_true h1,Bool.true_and]
    refine Ev.pos h1 ?_
    cases hb:(y.f1 == f) with
    |true=>exact Ev.pos rfl (Ev.now _)
    |false=>
     refine Ev.neg (by simp) ?_
     rw [Bool.false_or]
     exact ih'
   ·rw [decide_eq_false h1,Bool.false_and,Bool.false_or]
    exact Ev.neg h1 ih'
 exact key l.length 0 (by omega)
theorem day_moons (l:List S74) (d:Int):(daysOf d d).flatMap (moonOn l)=moonOn l d:=by
 unfold daysOf
 rw [show (d+1 - d).toNat=1 by omega]
 simp
theorem moon_listed (l:List S74) (d:Int) (full:Bool):(moonOn l d).any (listC d full)=isMoon l (if full=true then 10800 else 0) d:=by
 unfold moonOn listC
 cases h0:isMoon l 0 d <;> cases h1:isMoon l 10800 d <;> cases full <;> simp [h0,h1]
theorem span_one {d:Int} (h:1≤d∧d≤20000):okSpan d d=true:=by
 unfold okSpan
 simp only [Bool.and_eq_true,okIn_iff,decide_eq_true_eq]
 omega
theorem Moons_day {l:List S74} {p q n:Int} (h:okSky l p q n=true) {d:Int} (hd:1≤d∧d≤20000):Ev (fun k=>sky_Moons.f k l p q n d d) (moonOn l d,0):=by
 have:=Moons_ev l p q n d d
 rw [if_pos ⟨h,span_one hd⟩,day_moons] at this
 exact this
end Go.Proofs.YtjahbgldccjbfaaGreatDoor.PSky
end
section
namespace Go.Proofs.YtjahbgldccjbfaaGreatDoor.PSky
open Go.RowKit Go.Proofs.YtjahbgldccjbfaaGreatDoorW.PrintWords Go.Proofs.YtjahbgldccjbfaaGreatDoorW.PrintLast Go.Proofs.YtjahbgldccjbfaaGreatDoorW.PrintMore
theorem ahead_next {l:List S74} {p q n:Int} (h:okSky l p q n=true) {i j:Int} (hij:okTwo l i j=true) (d:Int):-6600≤aheadI l i j d - aheadI l i j (d - 1)∧aheadI l i j d - aheadI l i j (d - 1)≤6600:=by
 obtain ⟨a,b,rfl,rfl,ha,hb,-⟩:=two_at hij
 have hk:=(ok_at h).2.2.2.2
 have e1:=way_next (hk a ha) (d - 1)
 have e2:=way_next (hk b hb) (d - 1)
 rw [show d - 1+1=d by omega] at e1 e2
 unfold aheadI
 omega
theorem crossed_math {A B h:Int} (h1:-6600≤B - A) (h2:B - A≤6600):
  (if (B % 21600 - h - (A % 21600 - h) % 21600+10800) % 21600 - 10800 > 0 then decide ((A % 21600 - h) % 21600+((B % 21600 - h - (A % 21600 - h) % 21600+10800) % 21600 - 10800) ≥ 21600) else false)=decide ((B - h) / 21600 > (A - h) / 21600):=by
 have e1:(A % 21600 - h) % 21600=(A - h) % 21600:=by omega
 have e2:(B % 21600 - h - (A - h) % 21600+10800) % 21600 - 10800=B - A:=by omega
 rw [e1,e2]
 by_cases hp:B - A > 0
 ·rw [if_pos hp]
  congr 1
  apply propext
  omega
 ·rw [if_neg hp]
  symm
  rw [decide_eq_false_iff_not]
  omega
theorem crossed_ev {l:List S74} {p q n:Int} (h:okSky l p q n=true) {i j:Int} (hij:okTwo l i j=true) {d:Int} (hd:1≤d∧d≤20000) {half:Int} (hh:half=0∨half=10800):
  Ev (fun k=>tl_crossed.f k l p q n i j d half) (decide ((aheadI l i j d - half) / 21600 > (aheadI l i j (d - 1) - half) / 21600)):=by
 have b1:=Between_evG l p q n i j (d - 1)
 have b2:=Between_evG l p q n i j d
 rw [if_pos ⟨h,hij,okIn_iff.mpr (by omega)⟩] at b1 b2
 have hn:=ahead_next h hij d
 have hm:=crossed_math (h:=half) hn.1 hn.2
 unfold tl_crossed.f
 rw [wrap_id (show -9223372036854775808≤d - 1∧d - 1≤9223372036854775807 by omega)]
 refine Ev.bind b1 (Ev.bind b2 (Ev.pos rfl (Ev.pos rfl (Ev.bind (Ev.is (spot_mod _)) (Ev.pos rfl (Ev.bind (Ev.is (spot_mod _)) ?_))))))
 refine Ev.step (fun k=>by rw [tl_crossed.j0]) ?_
 refine Ev.neg (by simp) ?_
 dsimp only
 generalize aheadI l i j d=B at hm ⊢
 generalize aheadI l i j (d - 1)=A at hm ⊢
 rw [wrap_id (show -9223372036854775808≤A % 21600 - half∧A % 21600 - half≤9223372036854775807 by omega)]
 refine Ev.bind (Ev.is (Less_eq (by omega))) ?_
 rw [wrap_id (show -9223372036854775808≤B % 21600 - half∧B % 21600 - half≤9223372036854775807 by omega)]
 generalize hA:(A % 21600 - half) % 21600=A' at hm ⊢
 rw [wrap_id (show -9223372036854775808≤B % 21600 - half - A'∧B % 21600 - half - A'≤9223372036854775807 by omega),wrap_id (show -9223372036854775808≤B % 21600 - half - A'+10800∧B % 21600 - half - A'+10800≤9223372036854775807 by omega)]
 refine Ev.bind (Ev.is (Less_eq (by omega))) ?_
 generalize hB:(B % 21600 - half - A'+10800) % 21600=B' at hm ⊢
 rw [wrap_id (show -9223372036854775808≤B' - 10800∧B' - 10800≤9223372036854775807 by omega),wrap_id (show -9223372036854775808≤A'+(B' - 10800)∧A'+(B' - 10800)≤9223372036854775807 by omega),← hm]
 by_cases hp:B' - 10800 > 0
 ·simp only [if_pos hp]
  exact Ev.now _
 ·simp only [if_neg hp]
  exact Ev.now _
theorem hasI_ev (l:List Int) (hl:l.length≤1000000) (d:Int):Ev (fun k=>tl_has.f k l d) (l.any (fun x=>decide (x=d))):=by
 have key:∀ m i:Nat,i+m=l.length→Ev (fun k=>tl_has.l0 k l d (i:Int)) ((l.drop i).any (fun x=>decide (x=d))):=by
  intro m
  induction m with
  |zero=>
   intro i h
   rw [show i=l.length by omega,List.drop_length]
   refine Ev.step (fun k=>by rw [tl_has.l0]) ?_
   exact Ev.neg (by omega) (Ev.now _)
  |succ m ih=>
   intro i h
   have hi:i<l.length:=by omega
   have ih':=ih (i+1) (by omega)
   rw [List.drop_eq_getElem_cons hi,List.any_cons]
   refine Ev.step (fun k=>by rw [tl_has.l0]) ?_
   rw [rd_get l i hi,wrap_id (by omega)]
   generalize l[i]=y
   refine Ev.pos (by omega) (Ev.pos (by omega) ?_)
   by_cases h1:y=d
   ·rw [decide_eq_true h1,Bool.true_or]
    exact Ev.pos h1 (Ev.now _)
   ·rw [decide_eq_false h1,Bool.false_or]
    exact Ev.neg h1 ih'
 exact key l.length 0 (by omega)
theorem has_meets {l:List S74} {i j a b d:Int} (h1:a≤d) (h2:d≤b):(meetsOf l i j a b).any (fun x=>decide (x=d))=meetsOn l i j d:=by
 cases h:meetsOn l i j d with
 |true=>exact List.any_eq_true.mpr ⟨d,List.mem_filter.mpr ⟨span_day h1 h2,h⟩,by simp⟩
 |false=>
  rw [List.any_eq_false]
  intro x hx
  have hx2:=(List.mem_filter.mp hx).2
  intro he
  rw [of_decide_eq_true he,h] at hx2
  cases hx2
theorem ahead_swap (l:List S74) (i j d:Int):aheadI l j i d = -aheadI l i j d:=by
 unfold aheadI
 omega
theorem meets_swap (l:List S74) (i j d:Int):meetsOn l j i d=meetsOn l i j d:=by
 unfold meetsOn
 rw [ahead_swap l i j d,ahead_swap l i j (d - 1),Int.neg_neg,Int.neg_neg,Bool.or_comm]
theorem least_spec (g:Int→Int):∀ (m:Nat) (d:Int) (s:Int × Int),
  (least g s ((List.range m).map fun j:Nat=>d+(j:Nat))=s∧(∀ y,d≤y→y<d+m→s.2≤g y)) ∨
  ∃ x,d≤x∧x<d+m∧least g s ((List.range m).map fun j:Nat=>d+(j:Nat))=(x,g x)∧g x<s.2∧(∀ y,d≤y→y<d+m→g x≤g y)∧∀ y,d≤y→y<x→g x<g y
 |0,d,s=>Or.inl ⟨rfl,fun y h1 h2=>by omega⟩
 |m+1,d,s=>by
  rw [range_cons]
  show (least g (if g d<s.2 then (d,g d) else s) _=s∧_)∨∃ x,_∧_∧least g (if g d<s.2 then (d,g d) else s) _=(x,g x)∧_
  by_cases hg:g d<s.2
  ·rw [if_pos hg]
   right
   rcases least_spec g m (d+1) (d,g d) with ⟨h1,h2⟩|⟨x,h1,h2,h3,h4,h5,h6⟩
   ·refine ⟨d,by omega,by omega,h1,hg,fun y y1 y2=>?_,fun y y1 y2=>by omega⟩
    by_cases hy:y=d
    ·rw [hy];omega
    ·exact h2 y (by omega) (by omega)
   ·refine ⟨x,by omega,by omega,h3,by have:g x<g d:=h4;omega,fun y y1 y2=>?_,fun y y1 y2=>?_⟩
    ·by_cases hy:y=d
     ·rw [hy];have:g x<g d:=h4;omega
     ·exact h5 y (by omega) (by omega)
    ·by_cases hy:y=d
     ·rw [hy];exact h4
     ·exact h6 y (by omega) y2
  ·rw [if_neg hg]
   rcases least_spec g m (d+1) s with ⟨h1,h2⟩|⟨x,h1,h2,h3,h4,h5,h6⟩
   ·left
    refine ⟨h1,fun y y1 y2=>?_⟩
    by_cases hy:y=d
    ·rw [hy];omega
    ·exact h2 y (by omega) (by omega)
   ·right
    refine ⟨x,by omega,by omega,h3,h4,fun y y1 y2=>?_,fun y y1 y2=>?_⟩
    ·by_cases hy:y=d
     ·rw [hy];omega
     ·exact h5 y (by omega) (by omega)
    ·by_cases hy:y=d
     ·rw [hy];omega
     ·exact h6 y (by omega) y2
theorem near_spec (l:List S74) (i j:Int) {a b:Int} (h:a≤b):∃ x,a≤x∧x≤b∧nearOn l i j a b=(x,gapD l i j x)∧(∀ y,a≤y→y≤b→gapD l i j x≤gapD l i j y)∧∀ y,a≤y→y<x→gapD l i j x<gapD l i j y:=by
 have hb:=gap_bounds (aheadI l i j a)
 unfold nearOn daysOf
 rcases least_spec (gapD l i j) (b+1 - a).toNat a (0,21600) with ⟨h1,h2⟩|⟨x,h1,h2,h3,h4,h5,h6⟩
 ·have h3:(21600:Int)≤gapOf (aheadI l i j a):=h2 a (by omega) (by omega)
  omega
 ·exact ⟨x,h1,by omega,h3,fun y y1 y2=>h5 y y1 (by omega),h6⟩
end Go.Proofs.YtjahbgldccjbfaaGreatDoor.PSky
end
