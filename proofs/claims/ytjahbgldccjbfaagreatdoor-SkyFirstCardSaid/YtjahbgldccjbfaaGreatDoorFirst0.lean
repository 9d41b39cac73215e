/- A part of the proof of a law of the layer sky. -/
import Derived.ArgAppend
import Derived.Below
import Derived.BigQuiet
import Derived.ChangeSame
import Derived.Deep.AppendLies
import Derived.Deep.CutBlock
import Derived.Deep.DeepCutAuto
import Derived.Deep.DeepHandedRow
import Derived.Deep.Draws
import Derived.Deep.LoopGhost
import Derived.Deep.OwnRows
import Derived.Deep.QuietTactic
import Derived.Deep.RegionHeld3
import Derived.Deep.RegionLaw
import Derived.Deep.Slices
import Derived.Deep.Strs
import Derived.Defers
import Derived.KernelRfl
import Derived.LaidMore
import Derived.Laws.BitsLemmas
import Derived.Laws.BytesArg
import Derived.Laws.Entries
import Derived.Laws.IdiomCopy
import Derived.Laws.LoneSync
import Derived.Laws.MakeOwn
import Derived.Laws.NewBlocks
import Derived.Laws.OwnMore
import Derived.Laws.Pointers
import Derived.Laws.Rows
import Derived.Laws.Slices
import Derived.Laws.StructEq
import Derived.Lib.AppendStr
import Derived.Lib.ConvBytes
import Derived.Lib.LaidTab
import Derived.Lib.OthersKept
import Derived.Lib.SplitLaws
import Derived.LoopIn
import Derived.LoopN
import Derived.LoopNIn
import Derived.Maps.AppendAt
import Derived.Maps.Own
import Derived.Maps.OwnOps
import Derived.Maps.OwnSet
import Derived.Maps.Views
import Derived.OpenShut
import Derived.OrdersHeld
import Derived.OrdersIn
import Derived.Outline
import Derived.OwnWalk
import Derived.OwnWalkIn
import Derived.ProofKit
import Derived.RangeFuncBound
import Derived.RangeFuncBox
import Derived.RangeFuncCalls
import Derived.RangeFuncLeaves
import Derived.RangeFuncNested
import Derived.Recover
import Derived.RegionIn
import Derived.RowKit
import Derived.RowKit3
import Derived.Scope
import Derived.SevenTiedAt
import Derived.Shelf.Abstract
import Derived.Shelf.LaysM
import Derived.Shelf.RegionOpen
import Derived.Shelf.Strconv.Itoa0
import Derived.Shelf.Strconv.Itoa1
import Derived.Shelf.Strconv.Itoa2
import Derived.Shelf.Strconv.Itoa3
import Derived.Shelf.Strings.Builder1
import Derived.Shelf.Strings.Builder2
import Derived.Shelf.Strings.Count
import Derived.Shelf.Strings.Explode
import Derived.Shelf.Strings.OnBuilder
import Derived.Shelf.Strings.Prefix
import Derived.Shelf.Strings.RuneCount
import Derived.Shelf.Strings.Search1
import Derived.Shelf.Strings.Search2
import Derived.Shelf.Strings.Search3
import Derived.Shelf.Strings.Shaped
import Derived.Shelf.Strings.Split
import Derived.Shelf.Strings.SplitShaped
import Derived.Shelf.Unicode.Decode
import Derived.Shelf.Unicode.DecodeAny
import Derived.Shelf.Unicode.DecodeSlow
import Derived.Shelf.Utf8.RuneCount
import Derived.SizedLaws
import Derived.StillTactics
import Derived.Stop.Joined
import Derived.Stop.LaidErr
import Derived.Tactics
import Derived.TacticsIn
import Derived.TacticsInMore
import Derived.WalkKit
import Derived.WideLaws
import Derived.Test.YtjahbgldccjbfaaGreatDoorZ6
section
namespace Go.Proofs.YtjahbgldccjbfaaGreatDoor.PSky
open Go.RowKit Go.Proofs.YtjahbgldccjbfaaGreatDoorW.PrintWords Go.Proofs.YtjahbgldccjbfaaGreatDoorW.PrintLast Go.Proofs.YtjahbgldccjbfaaGreatDoorW.PrintMore
attribute [local go_sem] max2_int min2_int max_two min_two max_three min_three max_four min_four
set_option linter.unusedVariables false
set_option linter.unusedSimpArgs false
mutual
def tl_short.l0:Nat→Int→List (S74)→Int→Int→Int→Option (Bool)
 |0,_,_,_,_,_=>none
 |k+1,x3,x290000,x290001,x290002,x290003=>if x3<(x290000.length:Int) then (tl_short.j1 k x3 (decide (x3<7)) x290000 x290001 x290002 x290003) else (tl_short.j1 k x3 false x290000 x290001 x290002 x290003)
def tl_short.j1:Nat→Int→Bool→List (S74)→Int→Int→Int→Option (Bool)
 |0,_,_,_,_,_,_=>none
 |k+1,x3,x12,x290000,x290001,x290002,x290003=>if x12=true then (if 0≤x3 then (if x3<(x290000.length:Int) then (if (((rd_T74 x290000 x3).f2).length:Int) > 10 then (some false) else (tl_short.l0 k (wrap64 (x3+1)) x290000 x290001 x290002 x290003)) else (none)) else (none)) else (some (decide ((x290000.length:Int)≤6)))
end
def tl_short.f (k:Nat) (l0_0:List (S74)) (a0_1:Int) (a0_2:Int) (a0_3:Int):Option (Bool):=tl_short.l0 k 0 l0_0 a0_1 a0_2 a0_3
set_option maxHeartbeats 8000000 in
set_option maxRecDepth 100000 in
theorem tl_short.calls (k:Nat) (A0_0:Option Addr) (c0_0:Nat) (l0_0:List (S74)) (a0_1:Int) (a0_2:Int) (a0_3:Int) (r:Bool) (w:World) (hr0_0:Kd.C k74 w A0_0 l0_0.length l0_0) (hc0_0:l0_0.length≤c0_0) (h:tl_short.f k l0_0 a0_1 a0_2 a0_3=some r):
  Calls Tryz.prog 17 #[.agg #[.slice A0_0 l0_0.length c0_0,.int .i64 a0_1,.int .i64 a0_2,.int .i64 a0_3]] w fun e w'=>e=.returned (.bool r)∧Below w.heap.size w w':=by
 have hu29:=Tryz.underlying29
 have HR0_0:=A0_ hr0_0;have HC0_0:=A0_ hc0_0;clear hr0_0 hc0_0
 have HB:=A0_ (Below.refl w.heap.size w)
 have H:(tl_short.l0 k 0 l0_0 a0_1 a0_2 a0_3)=some r:=h
 clear h
 have H':=A0_ H
 clear H
 go_enter Tryz.func17,Tryz.ntmps17
 go_wp2_with (first|((with_reducible refine gate_dst (N:=1) rfl ?_);refine box_event ?hg (N:=1) ?hd (cs:=#[.slice A0_0 l0_0.length c0_0,.int .i64 a0_1,.int .i64 a0_2,.int .i64 a0_3]) (t:=29) ?hr ?_;(case hd=>rfl);(case hg=>rfl);(case hr=>first|(go_simp;done)|(go_simp;rfl));intro gb289 hg w2 hbox hb;have n0_:=A0_ (below_step y0_ hb);have n1_:=A0_ (hbox);have n2_:=A0_ ((by rw [hg];exact (below_size y0_):w.heap.size≤gb289));have n3_:=A0_ ((by rw [hg];exact (below_size y0_):w.heap.size≤gb289));clear HB;have HB:=n0_;have BK289:=n1_;have GW289:=n2_;have GE289:=n3_;clear n0_ n1_ n2_ n3_;clear hb hbox hg))
 go_loopg [3] k (fun kq v3 w'=>∃ (x3_1:Int),v3=.int .i64 x3_1∧Aside0 (tl_short.l0 kq x3_1 l0_0 a0_1 a0_2 a0_3=some r)∧Aside0 (kq≤k)∧Aside0 (w'.heap[gb289]?=some (.cells #[(.slice A0_0 l0_0.length c0_0),.int .i64 a0_1,.int .i64 a0_2,.int .i64 a0_3] 29 (0,0)))∧Aside0 (Below w.heap.size w w'))
 case atStart=>exact ⟨(0),y4_,H',⟨Nat.le_refl _⟩,⟨by (with_reducible repeat (first|refine blk_drewN ?_ _|refine blk_drew ?_|refine blk_alloc ?_ _));exact BK289.out⟩,⟨(by repeat (first|(with_reducible first|exact HB.out|apply below_alloc|apply pw_below_drewN|apply below_drew1|refine below_set ?_ GE289.out)|exact HB.out))⟩⟩
 case round=>
  clear H'
  (try clear c1);(try clear p2)
  obtain ⟨x3_1,rfl,HA,HK1,BK289,HB⟩:=hrel
  cases gk with
  |zero=>exact absurd HA.out (by simp [tl_short.l0])
  |succ k1=>
   have H:=HA.out
   clear HA
   simp only [tl_short.l0] at H
   have HC3:=A0_ H;clear H
   go_upto_region 2 with (fail)
   go_cut [12] (fun v12 wc=>∃ (kq:Nat) (x12_2:Bool),v12=.bool x12_2∧Aside0 (tl_short.j1 kq x3_1 x12_2 l0_0 a0_1 a0_2 a0_3=some r)∧Aside0 (kq≤k1)∧Aside0 (wc.heap[gb289]?=some (.cells #[(.slice A0_0 l0_0.length c0_0),.int .i64 a0_1,.int .i64 a0_2,.int .i64 a0_3] 29 (0,0)))∧Aside0 (Below w.heap.size w wc))
   case first=>
    have H:=HC3.out
    clear HC3
    by_cases c4:x3_1<(l0_0.length:Int)
    ·rw [if_pos c4] at H;have c4b0:decide (x3_1<(l0_0.length:Int))=true:=decide_eq_true c4;clear c4
     (first|rw [c4b0]|(simp only [i64_w,i32_w];rw [c4b0])|skip)
     have H':=A0_ H
     clear H;obtain ⟨hcz5_0,hcz5_1,hcz5_2,hcz5_3,hfz5_0,hfz5_1,hfz5_2,hfz5_3⟩:=bq4_ BK289.out;go_wp2
     go_meet
     case rel=>exact ⟨_,(decide (x3_1<7)),y4_,H',⟨by have:=HK1.out;first|omega|exact Nat.le_refl _⟩,⟨by (with_reducible repeat (first|refine blk_drewN ?_ _|refine blk_drew ?_|refine blk_alloc ?_ _));exact BK289.out⟩,⟨(by repeat (first|(with_reducible first|exact HB.out|apply below_alloc|apply pw_below_drewN|apply below_drew1|refine below_set ?_ GE289.out)|exact HB.out))⟩⟩
    ·rw [if_neg c4] at H;have c4b0:decide (x3_1<(l0_0.length:Int))=false:=decide_eq_false c4;clear c4
     (first|rw [c4b0]|(simp only [i64_w,i32_w];rw [c4b0])|skip)
     have H':=A0_ H
     clear H;obtain ⟨hcz6_0,hcz6_1,hcz6_2,hcz6_3,hfz6_0,hfz6_1,hfz6_2,hfz6_3⟩:=bq4_ BK289.out;go_wp2
     go_meet
     case rel=>exact ⟨_,(false),y4_,H',⟨by have:=HK1.out;first|omega|exact Nat.le_refl _⟩,⟨by (with_reducible repeat (first|refine blk_drewN ?_ _|refine blk_drew ?_|refine blk_alloc ?_ _));exact BK289.out⟩,⟨(by repeat (first|(with_reducible first|exact HB.out|apply below_alloc|apply pw_below_drewN|apply below_drew1|refine below_set ?_ GE289.out)|exact HB.out))⟩⟩
   case rest=>
    clear HC3;(try clear c1);(try clear p2);(try clear c4);(try clear c4b0);(try clear hcz5_0);(try clear hcz5_1);(try clear hcz5_2);(try clear hcz5_3);(try clear hcz6_0);(try clear hcz6_1);(try clear hcz6_2);(try clear hcz6_3);(try clear hfz5_0);(try clear hfz5_1);(try clear hfz5_2);(try clear hfz5_3);(try clear hfz6_0);(try clear hfz6_1);(try clear hfz6_2);(try clear hfz6_3);(try clear p2)
    obtain ⟨kq,x12_2,rfl,HA,HJ2,BK289,HB⟩:=hcut
    cases kq with
    |zero=>exact absurd HA.out (by simp [tl_short.j1])
    |succ kj2=>
     have H:=HA.out
     clear HA
     simp only [tl_short.j1] at H
     by_cases c7:x12_2=true
     ·subst c7
      have H1:(if 0≤x3_1 then (if x3_1<(l0_0.length:Int) then (if (((rd_T74 l0_0 x3_1).f2).length:Int) > 10 then (some false) else (tl_short.l0 kj2 (wrap64 (x3_1+1)) l0_0 a0_1 a0_2 a0_3)) else (none)) else (none))=some r:=by rw [if_pos rfl] at H;exact H
      clear H;have H:=H1;clear H1
      by_cases c8:0≤x3_1
      ·rw [if_pos c8] at H;have c8b0:decide (0≤x3_1)=true:=decide_eq_true c8;clear c8
       by_cases c9:x3_1<(l0_0.length:Int)
       ·rw [if_pos c9] at H;have c9b0:decide (x3_1<(l0_0.length:Int))=true:=decide_eq_true c9;clear c9
        by_cases c10:(((rd_T74 l0_0 x3_1).f2).length:Int) > 10
        ·rw [if_pos c10] at H;have c10b0:decide (10<(((rd_T74 l0_0 x3_1).f2).length:Int))=true:=decide_eq_true c10
         have c10b1:decide (10<((rd_T74 l0_0 x3_1).f2).length)=true:=decide_eq_true (by omega)
         clear c10;obtain rfl:=Option.some.inj H;obtain ⟨hcz11_0,hcz11_1,hcz11_2,hcz11_3,hfz11_0,hfz11_1,hfz11_2,hfz11_3⟩:=bq4_ BK289.out
         have p290:0≤(x3_1:Int):=of_decide_eq_true y5_
         have q290:x3_1<(l0_0.length:Int):=of_decide_eq_true y5_
         obtain ⟨ad290,A290_3,c290_3,e290,hx290_0,hx290_1,hx290_2,hx290_3,hl290_3,hi290_3⟩:=at_T74 HR0_0.out x3_1 p290 q290
         cases e290
         replace hx290_0:=(HB.out.cell (World.block_lt_of_cell? w _ hx290_0)).trans hx290_0
         replace hx290_1:=(HB.out.cell (World.block_lt_of_cell? w _ hx290_1)).trans hx290_1
         replace hx290_2:=(HB.out.cell (World.block_lt_of_cell? w _ hx290_2)).trans hx290_2
         replace hx290_3:=(HB.out.cell (World.block_lt_of_cell? w _ hx290_3)).trans hx290_3
         have HR290_3:=A0_ hi290_3;have HC290_3:=A0_ hl290_3;clear hi290_3 hl290_3
         replace p290:=eq_true p290
         replace q290:=eq_true q290
         go_wp2;go_ret
         exact ⟨y2_,(by repeat (first|(with_reducible first|exact HB.out|apply below_alloc|apply pw_below_drewN|apply below_drew1|refine below_set ?_ GE289.out)|exact HB.out))⟩
        ·rw [if_neg c10] at H;have c10b0:decide (10<(((rd_T74 l0_0 x3_1).f2).length:Int))=false:=decide_eq_false c10
         have c10b1:decide (10<((rd_T74 l0_0 x3_1).f2).length)=false:=decide_eq_false (by omega)
         clear c10
         have H':=A0_ H
         clear H;obtain ⟨hcz12_0,hcz12_1,hcz12_2,hcz12_3,hfz12_0,hfz12_1,hfz12_2,hfz12_3⟩:=bq4_ BK289.out
         have p290:0≤(x3_1:Int):=of_decide_eq_true y5_
         have q290:x3_1<(l0_0.length:Int):=of_decide_eq_true y5_
         obtain ⟨ad290,A290_3,c290_3,e290,hx290_0,hx290_1,hx290_2,hx290_3,hl290_3,hi290_3⟩:=at_T74 HR0_0.out x3_1 p290 q290
         cases e290
         replace hx290_0:=(HB.out.cell (World.block_lt_of_cell? w _ hx290_0)).trans hx290_0
         replace hx290_1:=(HB.out.cell (World.block_lt_of_cell? w _ hx290_1)).trans hx290_1
         replace hx290_2:=(HB.out.cell (World.block_lt_of_cell? w _ hx290_2)).trans hx290_2
         replace hx290_3:=(HB.out.cell (World.block_lt_of_cell? w _ hx290_3)).trans hx290_3
         have HR290_3:=A0_ hi290_3;have HC290_3:=A0_ hl290_3;clear hi290_3 hl290_3
         replace p290:=eq_true p290
         replace q290:=eq_true q290
         go_wp2
         go_roundg kj2
         case measure=>have:=HK1.out;have:=HJ2.out;omega
         case rel=>exact ⟨(wrap64 (x3_1+1)),y4_,H',⟨by have:=HK1.out;have:=HJ2.out;omega⟩,⟨by (with_reducible repeat (first|refine blk_drewN ?_ _|refine blk_drew ?_|refine blk_alloc ?_ _));exact BK289.out⟩,⟨(by repeat (first|(with_reducible first|exact HB.out|apply below_alloc|apply pw_below_drewN|apply below_drew1|refine below_set ?_ GE289.out)|exact HB.out))⟩⟩
       ·rw [if_neg c9] at H;exact absurd H (by simp)
      ·rw [if_neg c8] at H;exact absurd H (by simp)
     ·replace c7:=Bool.eq_false_iff.mpr c7;subst c7
      have H1:(some (decide ((l0_0.length:Int)≤6)))=some r:=by rw [if_neg (show ¬ (false=true) by decide)] at H;exact H
      clear H;have H:=H1;clear H1;obtain rfl:=Option.some.inj H;obtain ⟨hcz13_0,hcz13_1,hcz13_2,hcz13_3,hfz13_0,hfz13_1,hfz13_2,hfz13_3⟩:=bq4_ BK289.out;go_wp2;go_ret
      exact ⟨y2_,(by repeat (first|(with_reducible first|exact HB.out|apply below_alloc|apply pw_below_drewN|apply below_drew1|refine below_set ?_ GE289.out)|exact HB.out))⟩
end Go.Proofs.YtjahbgldccjbfaaGreatDoor.PSky
end
section
namespace Go.Proofs.YtjahbgldccjbfaaGreatDoor.PSky
open Go.RowKit Go.Proofs.YtjahbgldccjbfaaGreatDoorW.PrintWords Go.Proofs.YtjahbgldccjbfaaGreatDoorW.PrintLast Go.Proofs.YtjahbgldccjbfaaGreatDoorW.PrintMore
attribute [local go_sem] max2_int min2_int max_two min_two max_three min_three max_four min_four
set_option linter.unusedVariables false
set_option linter.unusedSimpArgs false
def tl_listed.l0:Nat→List (S95)→Int→Bool→Int→Option (Bool)
 |0,_,_,_,_=>none
 |k+1,x0,x1,x2,x7=>if x7<(x0.length:Int) then (if 0≤x7 then (if ((rd_T95 x0 x7).f0)=x1 then (if (((rd_T95 x0 x7).f1) == x2)=true then (some true) else (tl_listed.l0 k x0 x1 x2 (wrap64 (x7+1)))) else (tl_listed.l0 k x0 x1 x2 (wrap64 (x7+1)))) else (none)) else (some false)
def tl_listed.f (k:Nat) (l0:List (S95)) (a1:Int) (a2:Bool):Option (Bool):=tl_listed.l0 k l0 a1 a2 0
set_option maxHeartbeats 8000000 in
set_option maxRecDepth 100000 in
theorem tl_listed.calls (k:Nat) (A0:Option Addr) (c0:Nat) (l0:List (S95)) (a1:Int) (a2:Bool) (r:Bool) (w:World) (hr0:Kd.C k95 w A0 l0.length l0) (hc0:l0.length≤c0) (h:tl_listed.f k l0 a1 a2=some r):
  Calls Tryz.prog 31 #[.slice A0 l0.length c0,.int .i64 a1,.bool a2] w fun e w'=>e=.returned (.bool r)∧Drawn0 w w':=by
 have HR0:=A0_ hr0;have HC0:=A0_ hc0;clear hr0 hc0
 have H:(tl_listed.l0 k l0 a1 a2 0)=some r:=h
 clear h
 have H':=A0_ H
 clear H
 go_enter Tryz.func31,Tryz.ntmps31
 go_wp2
 go_loopg [7] k (fun kq v7 w'=>∃ (x7_1:Int),v7=.int .i64 x7_1∧Aside0 (tl_listed.l0 kq l0 a1 a2 x7_1=some r)∧Aside0 (kq≤k)∧Drawn0 w w')
 case atStart=>exact ⟨(0),y4_,H',⟨Nat.le_refl _⟩,yb_⟩
 case round=>
  clear H'
  (try clear p2);(try clear c3)
  obtain ⟨x7_1,rfl,HA,HK1,⟨m1,rfl⟩⟩:=hrel
  cases gk with
  |zero=>exact absurd HA.out (by simp [tl_listed.l0])
  |succ k1=>
   have H:=HA.out
   clear HA
   simp only [tl_listed.l0] at H
   by_cases c4:x7_1<(l0.length:Int)
   ·rw [if_pos c4] at H;have c4b0:decide (x7_1<(l0.length:Int))=true:=decide_eq_true c4;clear c4
    by_cases c5:0≤x7_1
    ·rw [if_pos c5] at H;have c5b0:decide (0≤x7_1)=true:=decide_eq_true c5;clear c5
     by_cases c6:((rd_T95 l0 x7_1).f0)=a1
     ·rw [if_pos c6] at H
      have c6b0:(((rd_T95 l0 x7_1).f0) == a1)=true:=beq_iff_eq.mpr c6
      have c6b1:(((rd_T95 l0 x7_1).f0) != a1)=false:=bne_eq_false_iff_eq.mpr c6
      clear c6
      by_cases c7:(((rd_T95 l0 x7_1).f1) == a2)=true
      ·rw [if_pos c7] at H
       have c7b0:(((rd_T95 l0 x7_1).f1) == a2)=true:=c7
       (try (have c7b1:decide (((rd_T95 l0 x7_1).f1)=a2)=true:=by simpa using c7))
       (try (have c7b2:(((rd_T95 l0 x7_1).f1) == a2)=true:=by simpa using c7))
       clear c7;obtain rfl:=Option.some.inj H
       have p428:0≤(x7_1:Int):=of_decide_eq_true y5_
       have q428:x7_1<(l0.length:Int):=of_decide_eq_true y5_
       obtain ⟨ad428,e428,hx428_0,hx428_1⟩:=at_T95 HR0.out x7_1 p428 q428
       cases e428
       replace p428:=eq_true p428
       replace q428:=eq_true q428
       have p429:0≤(x7_1:Int):=of_decide_eq_true y5_
       have q429:x7_1<(l0.length:Int):=of_decide_eq_true y5_
       obtain ⟨ad429,e429,hx429_0,hx429_1⟩:=at_T95 HR0.out x7_1 p429 q429
       obtain rfl:ad428=ad429:=(by injection e429)
       replace p429:=eq_true p429
       replace q429:=eq_true q429
       go_wp2;go_ret
       exact ⟨y4_,yb_⟩
      ·rw [if_neg c7] at H
       have c7b0:(((rd_T95 l0 x7_1).f1) == a2)=false:=by simpa using c7
       (try (have c7b1:decide (((rd_T95 l0 x7_1).f1)=a2)=false:=by simpa using c7))
       (try (have c7b2:(((rd_T95 l0 x7_1).f1) == a2)=false:=by simpa using c7))
       (try (have c7b3:¬ (((rd_T95 l0 x7_1).f1)=a2):=by simpa using c7))
       clear c7
       have H':=A0_ H
       clear H
       have p428:0≤(x7_1:Int):=of_decide_eq_true y5_
       have q428:x7_1<(l0.length:Int):=of_decide_eq_true y5_
       obtain ⟨ad428,e428,hx428_0,hx428_1⟩:=at_T95 HR0.out x7_1 p428 q428
       cases e428
       replace p428:=eq_true p428
       replace q428:=eq_true q428
       have p429:0≤(x7_1:Int):=of_decide_eq_true y5_
       have q429:x7_1<(l0.length:Int):=of_decide_eq_true y5_
       obtain ⟨ad429,e429,hx429_0,hx429_1⟩:=at_T95 HR0.out x7_1 p429 q429
       obtain rfl:ad428=ad429:=(by injection e429)
       replace p429:=eq_true p429
       replace q429:=eq_true q429
       go_wp2
       go_roundg k1
       case measure=>have:=HK1.out;omega
       case rel=>exact ⟨(wrap64 (x7_1+1)),y4_,H',⟨by have:=HK1.out;omega⟩,yb_⟩
     ·rw [if_neg c6] at H
      have c6b0:(((rd_T95 l0 x7_1).f0) == a1)=false:=beq_eq_false_iff_ne.mpr c6
      have c6b1:(((rd_T95 l0 x7_1).f0) != a1)=true:=bne_iff_ne.mpr c6
      have H':=A0_ H
      clear H
      have p428:0≤(x7_1:Int):=of_decide_eq_true y5_
      have q428:x7_1<(l0.length:Int):=of_decide_eq_true y5_
      obtain ⟨ad428,e428,hx428_0,hx428_1⟩:=at_T95 HR0.out x7_1 p428 q428
      cases e428
      replace p428:=eq_true p428
      replace q428:=eq_true q428
      go_wp2
      go_roundg k1
      case measure=>have:=HK1.out;omega
      case rel=>exact ⟨(wrap64 (x7_1+1)),y4_,H',⟨by have:=HK1.out;omega⟩,yb_⟩
    ·rw [if_neg c5] at H;exact absurd H (by simp)
   ·rw [if_neg c4] at H;have c4b0:decide (x7_1<(l0.length:Int))=false:=decide_eq_false c4;clear c4;obtain rfl:=Option.some.inj H;go_wp2;go_ret
    exact ⟨y4_,yb_⟩
end Go.Proofs.YtjahbgldccjbfaaGreatDoor.PSky
end
section
namespace Go.Proofs.YtjahbgldccjbfaaGreatDoor.PSky
open Go.RowKit Go.Proofs.YtjahbgldccjbfaaGreatDoorW.PrintWords Go.Proofs.YtjahbgldccjbfaaGreatDoorW.PrintLast Go.Proofs.YtjahbgldccjbfaaGreatDoorW.PrintMore
attribute [local go_sem] max2_int min2_int max_two min_two max_three min_three max_four min_four
set_option linter.unusedVariables false
set_option linter.unusedSimpArgs false
def tr_Day.f (a0:Int):Option (Bool):=(tr_in.f a0 0 20000).bind fun t551=>(some t551)
set_option maxHeartbeats 8000000 in
set_option maxRecDepth 100000 in
theorem tr_Day.calls (a0:Int) (r:Bool) (w:World) (h:tr_Day.f a0=some r):
  Calls Tryz.prog 44 #[.int .i64 a0] w fun e w'=>e=.returned (.bool r)∧Drawn0 w w':=by
 have H:((tr_in.f a0 0 20000).bind fun t551=>(some t551))=some r:=h
 clear h;replace H:=Option.bind_eq_some_iff.mp H;obtain ⟨t551,A20,H⟩:=H
 replace H:(some t551)=some r:=H
 have A2:=A0_ A20;clear A20;obtain rfl:=Option.some.inj H
 go_enter Tryz.func44,Tryz.ntmps44
 go_wp2_with (first|((with_reducible refine gate_callee (f:=66) rfl ?_);refine goesL_ (some 4) rfl rfl Tryz.func66 (by kernel_rfl) rfl #[.int .i64 a0,.int .i64 0,.int .i64 20000] rfl y1_ ?_;(with_reducible refine (tr_in.calls a0 0 20000 t551 _ A2.out).mono ?_);rintro e w' ⟨rfl,⟨nd,rfl⟩⟩;refine ⟨_,rfl,?_⟩))
 go_ret
 exact ⟨y4_,yb_⟩
end Go.Proofs.YtjahbgldccjbfaaGreatDoor.PSky
end
section
namespace Go.Proofs.YtjahbgldccjbfaaGreatDoor.PSky
open Go.RowKit Go.Proofs.YtjahbgldccjbfaaGreatDoorW.PrintWords Go.Proofs.YtjahbgldccjbfaaGreatDoorW.PrintLast Go.Proofs.YtjahbgldccjbfaaGreatDoorW.PrintMore
theorem Ev.pos {α:Type} {c:Prop} [Decidable c] {f g:Nat→Option α} {r:α} (h:c) (k:Ev f r):Ev (fun n=>if c then f n else g n) r:=by simpa only [if_pos h] using k
theorem Ev.neg {α:Type} {c:Prop} [Decidable c] {f g:Nat→Option α} {r:α} (h:¬ c) (k:Ev g r):Ev (fun n=>if c then f n else g n) r:=by simpa only [if_neg h] using k
theorem Ev.some {α:Type} (r:α):Ev (fun _=>Option.some r) r:=Ev.now r
theorem Ev.is {α:Type} {o:Option α} {r:α} (h:o=Option.some r):Ev (fun _=>o) r:=by rw [h];exact Ev.now r
theorem wrap_id {n:Int} (h:-9223372036854775808≤n∧n≤9223372036854775807):wrap64 n=n:=by unfold wrap64;omega
theorem scan {β:Type} (l:List β) (bad:β→Bool) (g:Nat→Nat→Option Int) (hlen:l.length≤1000000)
  (hyes:∀ i (h:i<l.length),bad l[i]=true→Ev (fun k=>g k i) (i:Int))
  (hno:∀ i (h:i<l.length),bad l[i]=false→∀ r,Ev (fun k=>g k (i+1)) r→Ev (fun k=>g k i) r)
  (hend:Ev (fun k=>g k l.length) (-1)):∀ m i,i+m=l.length→∃ r,Ev (fun k=>g k i) r∧decide (r ≥ 0)=(l.drop i).any bad
 |0,i,h=>⟨-1,by rw [show i=l.length by omega];exact hend,by rw [show i=l.length by omega,List.drop_length];rfl⟩
 |m+1,i,h=>by
  have hi:i<l.length:=by omega
  rw [List.drop_eq_getElem_cons hi,List.any_cons]
  cases hb:bad l[i] with
  |true=>exact ⟨i,hyes i hi hb,by simp⟩
  |false=>
   obtain ⟨r,hr,he⟩:=scan l bad g hlen hyes hno hend m (i+1) (by omega)
   exact ⟨r,hno i hi hb r hr,by simpa using he⟩
def okIn (a b c:Int):Bool:=decide (b≤a) && decide (a≤c)
theorem in_eq (a b c:Int):sky_in.f a b c=some (okIn a b c):=by
 unfold sky_in.f okIn
 by_cases h:a ≥ b
 ·rw [if_pos h,decide_eq_true (show b≤a from h),Bool.true_and]
 ·rw [if_neg h,decide_eq_false (show ¬ b≤a from h),Bool.false_and]
theorem rin_eq (a b c:Int):tr_in.f a b c=some (okIn a b c):=in_eq a b c
def okPeriod (p q:Int):Bool:=okIn p 1 10000 && (okIn q 1 10000 && decide (4*q≤p))
theorem isPeriod_eq (p q:Int):sky_isPeriod.f p q=some (okPeriod p q):=by
 unfold sky_isPeriod.f okPeriod
 simp only [in_eq,Option.bind_some]
 cases h1:okIn p 1 10000 with
 |false=>rfl
 |true=>
  cases h2:okIn q 1 10000 with
  |false=>rfl
  |true=>
   have hq:wrap64 (4*q)=4*q:=wrap_id (by simp [okIn] at h2;omega)
   rw [hq]
   rfl
theorem period_eq (p q:Int):tr_period.f p q=some (okPeriod p q):=isPeriod_eq p q
def okPlace (n:Int):Bool:=okIn n 0 21599
theorem isPlace_eq (n:Int):sky_isPlace.f n=some (okPlace n):=by unfold sky_isPlace.f;rw [in_eq];rfl
theorem Spot_eq (n:Int):tr_Spot.f n=some (okPlace n):=isPlace_eq n
def okRoad (l:List Int):Bool:=!l.any (fun n=>!okIn n (-600) 600)
def okBody (b:S74):Bool:=okPeriod b.f0.f0 b.f0.f1 && (okPlace b.f1 && (okIn (b.f2.length:Int) 1 8 && okRoad b.f2))
def okSky (l:List S74) (p q n:Int):Bool:=okIn (l.length:Int) 2 4 && (okPeriod p q && (okPlace n && !l.any (fun b=>!okBody b)))
theorem rd_get (l:List Int) (i:Nat) (h:i<l.length):rd l (i:Int)=l[i]:=by unfold rd;simp [h]
theorem rdT_get (l:List S74) (i:Nat) (h:i<l.length):rd_T74 l (i:Int)=l[i]:=by unfold rd_T74;simp [h]
theorem road_ev (l:List Int) (hl:l.length≤1000000):Ev (fun k=>cF_isSky_c1_c1.f k l) (l.any (fun n=>!okIn n (-600) 600)):=by
 obtain ⟨r,hr,he⟩:=scan l (fun n=>!okIn n (-600) 600) (fun k i=>iF_isSky_c1_c1.l0 k l (l.length:Int) (i:Int)) hl
  (fun i h hb=>by
   refine Ev.step (fun k=>by rw [iF_isSky_c1_c1.l0]) ?_
   refine Ev.pos (by omega) (Ev.pos (by omega) (Ev.pos (by omega) ?_))
   refine Ev.bind (a:=true) (Ev.is (by unfold sky_isSky_c1_c1.f;rw [in_eq,rd_get l i h];simp [hb])) ?_
   exact Ev.pos rfl (Ev.now _))
  (fun i h hb r hr=>by
   refine Ev.step (fun k=>by rw [iF_isSky_c1_c1.l0]) ?_
   refine Ev.pos (by omega) (Ev.pos (by omega) (Ev.pos (by omega) ?_))
   refine Ev.bind (a:=false) (Ev.is (by unfold sky_isSky_c1_c1.f;rw [in_eq,rd_get l i h];simp [hb])) ?_
   refine Ev.neg (by simp) ?_
   rw [wrap_id (by omega)]
   exact hr)
  (by
   refine Ev.step (fun k=>by rw [iF_isSky_c1_c1.l0]) ?_
   exact Ev.neg (by omega) (Ev.now _)) l.length 0 (by omega)
 unfold cF_isSky_c1_c1.f iF_isSky_c1_c1.f
 refine Ev.bind hr ?_
 rw [he]
 exact Ev.now _
theorem body_ev (b:S74):Ev (fun k=>sky_isSky_c1.f k b.f0.f0 b.f0.f1 b.f1 b.f2) (!okBody b):=by
 unfold sky_isSky_c1.f okBody
 refine Ev.bind (Ev.is (isPeriod_eq _ _)) ?_
 cases h1:okPeriod b.f0.f0 b.f0.f1 with
 |false=>exact Ev.neg (by simp) (Ev.now _)
 |true=>
  refine Ev.pos rfl (Ev.bind (Ev.is (isPlace_eq _)) ?_)
  cases h2:okPlace b.f1 with
  |false=>exact Ev.neg (by simp) (Ev.now _)
  |true=>
   refine Ev.pos rfl (Ev.bind (Ev.is (in_eq _ _ _)) ?_)
   cases h3:okIn (b.f2.length:Int) 1 8 with
   |false=>exact Ev.neg (by simp) (Ev.now _)
   |true=>
    refine Ev.pos rfl (Ev.bind (road_ev b.f2 (by simp [okIn] at h3;omega)) ?_)
    simp only [okRoad,Bool.true_and,Bool.not_not]
    exact Ev.now _
theorem bodies_ev (l:List S74) (hl:l.length≤1000000):Ev (fun k=>cF_isSky_c1.f k l) (l.any (fun b=>!okBody b)):=by
 obtain ⟨r,hr,he⟩:=scan l (fun b=>!okBody b) (fun k i=>iF_isSky_c1.l0 k l (l.length:Int) (i:Int)) hl
  (fun i h hb=>by
   refine Ev.step (fun k=>by rw [iF_isSky_c1.l0]) ?_
   refine Ev.pos (by omega) (Ev.pos (by omega) (Ev.pos (by omega) ?_))
   rw [rdT_get l i h]
   refine Ev.bind (body_ev _) ?_
   rw [hb]
   exact Ev.pos rfl (Ev.now _))
  (fun i h hb r hr=>by
   refine Ev.step (fun k=>by rw [iF_isSky_c1.l0]) ?_
   refine Ev.pos (by omega) (Ev.pos (by omega) (Ev.pos (by omega) ?_))
   rw [rdT_get l i h]
   refine Ev.bind (body_ev _) ?_
   rw [hb]
   refine Ev.neg (by simp) ?_
   rw [wrap_id (by omega)]
   exact hr)
  (by
   refine Ev.step (fun k=>by rw [iF_isSky_c1.l0]) ?_
   exact Ev.neg (by omega) (Ev.now _)) l.length 0 (by omega)
 unfold cF_isSky_c1.f iF_isSky_c1.f
 refine Ev.bind hr ?_
 rw [he]
 exact Ev.now _
theorem isSky_ev (l:List S74) (p q n:Int):Ev (fun k=>sky_isSky.f k l p q n) (okSky l p q n):=by
 unfold sky_isSky.f okSky
 refine Ev.bind (Ev.is (in_eq _ _ _)) ?_
 cases h1:okIn (l.length:Int) 2 4 with
 |false=>exact Ev.neg (by simp) (Ev.now _)
 |true=>
  refine Ev.pos rfl (Ev.bind (Ev.is (isPeriod_eq _ _)) ?_)
  cases h2:okPeriod p q with
  |false=>exact Ev.neg (by simp) (Ev.now _)
  |true=>
   refine Ev.pos rfl (Ev.bind (Ev.is (isPlace_eq _)) ?_)
   cases h3:okPlace n with
   |false=>exact Ev.neg (by simp) (Ev.now _)
   |true=>
    refine Ev.pos rfl (Ev.bind (bodies_ev l (by simp [okIn] at h1;omega)) ?_)
    simp only [Bool.true_and]
    exact Ev.now _
theorem refroad_ok (l:List S74) (p q n:Int) (i:Int) (b:S74) (hb:b.f2.length≤1000000) (r:Bool) (hall:∀ x∈b.f2,okIn x (-600) 600=true)
  (hr:Ev (fun k=>tr_Sky.l0 k (wrap64 (i+1)) l p q n) r):∀ m j:Nat,j+m=b.f2.length →
  Ev (fun k=>tr_Sky.l1 k i (j:Int) l p q n b.f0.f0 b.f0.f1 b.f1 b.f2) r
 |0,j,h=>by
  refine Ev.step (fun k=>by rw [tr_Sky.l1]) ?_
  exact Ev.neg (by omega) hr
 |m+1,j,h=>by
  have hj:j<b.f2.length:=by omega
  refine Ev.step (fun k=>by rw [tr_Sky.l1]) ?_
  refine Ev.pos (by omega) (Ev.pos (by omega) ?_)
  refine Ev.bind (a:=true) (Ev.is (by rw [rin_eq,rd_get _ j hj,hall _ (List.getElem_mem hj)])) (Ev.pos rfl ?_)
  rw [wrap_id (by omega)]
  exact refroad_ok l p q n i b hb r hall hr m (j+1) (by omega)
theorem refroad_bad (l:List S74) (p q n:Int) (i:Int) (b:S74) (hb:b.f2.length≤1000000):∀ m j:Nat,j+m=b.f2.length→(b.f2.drop j).any (fun n=>!okIn n (-600) 600)=true →
  Ev (fun k=>tr_Sky.l1 k i (j:Int) l p q n b.f0.f0 b.f0.f1 b.f1 b.f2) false
 |0,j,h,hbad=>by
  rw [show j=b.f2.length by omega,List.drop_length] at hbad
  cases hbad
 |m+1,j,h,hbad=>by
  have hj:j<b.f2.length:=by omega
  rw [List.drop_eq_getElem_cons hj,List.any_cons] at hbad
  refine Ev.step (fun k=>by rw [tr_Sky.l1]) ?_
  refine Ev.pos (by omega) (Ev.pos (by omega) ?_)
  refine Ev.bind (Ev.is (by rw [rin_eq,rd_get _ j hj])) ?_
  cases hq:okIn b.f2[j] (-600) 600 with
  |false=>exact Ev.neg (by simp) (Ev.now _)
  |true=>
   rw [hq] at hbad
   refine Ev.pos rfl ?_
   rw [wrap_id (by omega)]
   exact refroad_bad l p q n i b hb m (j+1) (by omega) (by simpa using hbad)
theorem refSky_loop (l:List S74) (p q n:Int) (hl:l.length≤1000000):∀ m i:Nat,i+m=l.length →
  Ev (fun k=>tr_Sky.l0 k (i:Int) l p q n) ((l.drop i).all okBody && (okIn (l.length:Int) 2 4 && (okPeriod p q && okPlace n)))
 |0,i,h=>by
  rw [show i=l.length by omega,List.drop_length]
  refine Ev.step (fun k=>by rw [tr_Sky.l0]) ?_
  refine Ev.neg (by omega) (Ev.bind (Ev.is (rin_eq _ _ _)) ?_)
  cases h1:okIn (l.length:Int) 2 4 with
  |false=>exact Ev.neg (by simp) (Ev.now _)
  |true=>
   refine Ev.pos rfl (Ev.bind (Ev.is (period_eq _ _)) ?_)
   cases h2:okPeriod p q with
   |false=>exact Ev.neg (by simp) (Ev.now _)
   |true=>
    refine Ev.pos rfl (Ev.bind (Ev.is (Spot_eq _)) ?_)
    simp only [List.all_nil,Bool.true_and]
    exact Ev.now _
 |m+1,i,h=>by
  have hi:i<l.length:=by omega
  rw [List.drop_eq_getElem_cons hi,List.all_cons]
  have ih:=refSky_loop l p q n hl m (i+1) (by omega)
  refine Ev.step (fun k=>by rw [tr_Sky.l0]) ?_
  refine Ev.pos (by omega) (Ev.pos (by omega) ?_)
  rw [rdT_get l i hi]
  generalize l[i]=b
  have bad:∀ R:Bool,Ev (fun k=>tr_Sky.j1 k (i:Int) true l p q n b.f0.f0 b.f0.f1 b.f1 b.f2) (false && R):=fun R=>by
   refine Ev.step (fun k=>by rw [tr_Sky.j1]) ?_
   exact Ev.pos rfl (Ev.now _)
  unfold okBody
  refine Ev.bind (Ev.is (period_eq _ _)) ?_
  cases h1:okPeriod b.f0.f0 b.f0.f1 with
  |false=>exact Ev.neg (by simp) (bad _)
  |true=>
   refine Ev.pos rfl (Ev.bind (Ev.is (Spot_eq _)) ?_)
   cases h2:okPlace b.f1 with
   |false=>exact Ev.neg (by simp) (bad _)
   |true=>
    refine Ev.pos rfl (Ev.bind (Ev.is (rin_eq _ _ _)) ?_)
    cases h3:okIn (b.f2.length:Int) 1 8 with
    |false=>exact bad _
    |true=>
     have hbl:b.f2.length≤1000000:=by simp [okIn] at h3;omega
     refine Ev.step (fun k=>by rw [tr_Sky.j1]) ?_
     refine Ev.neg (by simp) ?_
     cases h4:okRoad b.f2 with
     |false=>exact refroad_bad l p q n i b hbl b.f2.length 0 (by omega) (by simpa [okRoad] using h4)
     |true=>
      simp only [Bool.true_and]
      have h5:∀ x∈b.f2,okIn x (-600) 600=true:=by
       intro x hx
       unfold okRoad at h4
       cases hq:okIn x (-600) 600 with
       |true=>rfl
       |false=>
        have:b.f2.any (fun n=>!okIn n (-600) 600)=true:=List.any_eq_true.mpr ⟨x,hx,by simp [hq]⟩
        rw [this] at h4
        cases h4
      refine refroad_ok l p q n i b hbl _ h5 ?_ b.f2.length 0 (by omega)
      rw [wrap_id (by omega)]
      exact ih
theorem any_all (f:S74→Bool) (l:List S74):(!l.any (fun b=>!f b))=l.all f:=by
 induction l with
 |nil=>rfl
 |cons b t ih=>simp [ih]
theorem refSky_ev (l:List S74) (p q n:Int) (hl:l.length≤1000000):Ev (fun k=>tr_Sky.f k l p q n) (okSky l p q n):=by
 have h:=refSky_loop l p q n hl l.length 0 (by omega)
 rw [List.drop_zero] at h
 have e:okSky l p q n=(l.all okBody && (okIn (l.length:Int) 2 4 && (okPeriod p q && okPlace n))):=by
  unfold okSky
  rw [any_all]
  cases l.all okBody <;> cases okIn (l.length:Int) 2 4 <;> cases okPeriod p q <;> cases okPlace n <;> rfl
 rw [e]
 exact h
theorem short_ev (l:List S74) (p q n:Int):∃ b,Ev (fun k=>tl_short.f k l p q n) b∧(b=true→l.length≤6):=by
 have key:∀ m i:Nat,i+m=7→∃ b,Ev (fun k=>tl_short.l0 k (i:Int) l p q n) b∧(b=true→l.length≤6):=by
  intro m
  induction m with
  |zero=>
   intro i h
   have fin:∀ c:Bool,c=false→Ev (fun k=>tl_short.j1 k (i:Int) c l p q n) (decide ((l.length:Int)≤6)):=fun c hc=>by
    refine Ev.step (fun k=>by rw [tl_short.j1]) ?_
    exact Ev.neg (by simp [hc]) (Ev.now _)
   refine ⟨decide ((l.length:Int)≤6),?_,fun h=>by have:=of_decide_eq_true h;omega⟩
   refine Ev.step (fun k=>by rw [tl_short.l0]) ?_
   by_cases hi:(i:Int)<(l.length:Int)
   ·exact Ev.pos hi (fin _ (decide_eq_false (by omega)))
   ·exact Ev.neg hi (fin _ rfl)
  |succ m ih=>
   intro i h
   by_cases hi:(i:Int)<(l.length:Int)
   ·by_cases hr:((rd_T74 l (i:Int)).f2.length:Int) > 10
    ·refine ⟨false,?_,fun h=>by cases h⟩
     refine Ev.step (fun k=>by rw [tl_short.l0]) (Ev.pos hi ?_)
     refine Ev.step (fun k=>by rw [tl_short.j1]) (Ev.pos (by simp;omega) ?_)
     exact Ev.pos (by omega) (Ev.pos hi (Ev.pos hr (Ev.now _)))
    ·obtain ⟨b,hb,hb6⟩:=ih (i+1) (by omega)
     refine ⟨b,?_,hb6⟩
     refine Ev.step (fun k=>by rw [tl_short.l0]) (Ev.pos hi ?_)
     refine Ev.step (fun k=>by rw [tl_short.j1]) (Ev.pos (by simp;omega) ?_)
     refine Ev.pos (by omega) (Ev.pos hi (Ev.neg hr ?_))
     rw [wrap_id (by omega)]
     exact hb
   ·refine ⟨decide ((l.length:Int)≤6),?_,fun h=>by have:=of_decide_eq_true h;omega⟩
    refine Ev.step (fun k=>by rw [tl_short.l0]) (Ev.neg hi ?_)
    refine Ev.step (fun k=>by rw [tl_short.j1]) ?_
    exact Ev.neg (by simp) (Ev.now _)
 unfold tl_short.f
 exact key 7 0 rfl
def okSpan (a b:Int):Bool:=okIn a 1 20000 && (okIn b a 20000 && decide (b - a≤800))
theorem isSpan_eq (a b:Int):sky_isSpan.f a b=some (okSpan a b):=by
 unfold sky_isSpan.f okSpan
 rw [in_eq,Option.bind_some]
 cases h1:okIn a 1 20000 with
 |false=>rfl
 |true=>
  rw [in_eq]
  cases h2:okIn b a 20000 with
  |false=>rfl
  |true=>
   have hq:wrap64 (b - a)=b - a:=wrap_id (by simp [okIn] at h1 h2;omega)
   rw [hq]
   rfl
end Go.Proofs.YtjahbgldccjbfaaGreatDoor.PSky
end
section
namespace Go.Proofs.YtjahbgldccjbfaaGreatDoor.PSky
open Go.RowKit Go.Proofs.YtjahbgldccjbfaaGreatDoorW.PrintWords Go.Proofs.YtjahbgldccjbfaaGreatDoorW.PrintLast Go.Proofs.YtjahbgldccjbfaaGreatDoorW.PrintMore
theorem tquot {a b:Int} (hb:0<b):(Int.tmod a b<0→a / b=Int.tdiv a b - 1∧a % b=Int.tmod a b+b)∧(0≤Int.tmod a b→a / b=Int.tdiv a b∧a % b=Int.tmod a b):=by
 have h1:=Int.tmod_add_mul_tdiv a b
 have h2:=Int.tmod_lt_of_pos a hb
 have h3:=Int.lt_tmod_of_pos a hb
 refine ⟨fun h=>?_,fun h=>?_⟩
 ·exact (Int.ediv_emod_unique hb).mpr ⟨by rw [Int.mul_sub,Int.mul_one];omega,by omega,by omega⟩
 ·exact (Int.ediv_emod_unique hb).mpr ⟨by omega,h,h2⟩
theorem tdiv_le {a b:Int} (hb:0<b) {m:Int} (ha:-m≤a∧a≤m) (hm:0≤m):-m - 1≤a / b∧a / b≤m:=by
 constructor
 ·have:(-m - 1)≤a / b:=by
   rw [Int.le_ediv_iff_mul_le hb]
   have:=Int.mul_le_mul_of_nonneg_left (show (1:Int)≤b by omega) (show (0:Int)≤m+1 by omega)
   have e:(-m - 1)*b = -((m+1)*b):=by rw [← Int.neg_mul];congr 1;omega
   omega
  exact this
 ·have:a / b≤m:=by
   have h1:a / b*b≤a:=Int.ediv_mul_le a (by omega)
   rcases Int.lt_or_le (a / b) 0 with h|h
   ·omega
   ·have:=Int.mul_le_mul_of_nonneg_left (show (1:Int)≤b by omega) h
    omega
  exact this
theorem floor_eq {a b:Int} (hb:0<b) (hb2:b≤1000000000000) (ha:-1000000000000000000≤a∧a≤1000000000000000000):sky_floor.f a b=some (a / b,a % b):=by
 have q:=tdiv_le hb ha (by decide)
 have m0:=Int.emod_nonneg a (show b≠0 by omega)
 have m1:=Int.emod_lt_of_pos a hb
 unfold sky_floor.f
 rw [if_neg (by omega)]
 by_cases h:Int.tmod a b<0
 ·obtain ⟨e1,e2⟩:=(tquot (a:=a) hb).1 h
  rw [if_pos h,e1,e2]
  rw [e1] at q
  rw [e2] at m0 m1
  rw [wrap_id (show -9223372036854775808≤a.tdiv b∧a.tdiv b≤9223372036854775807 by omega),wrap_id (by omega),wrap_id (by omega)]
 ·obtain ⟨e1,e2⟩:=(tquot (a:=a) hb).2 (by omega)
  rw [if_neg h,e1,e2]
  rw [e1] at q
  rw [wrap_id (show -9223372036854775808≤a.tdiv b∧a.tdiv b≤9223372036854775807 by omega)]
theorem around_eq {a:Int} (ha:-1000000000000000000≤a∧a≤1000000000000000000):sky_around.f a=some (a % 21600):=by
 unfold sky_around.f
 rw [floor_eq (by decide) (by decide) ha]
 rfl
def goneOf (p q d:Int):Int:=d*21600*q / p
def meanOf (b:S74) (d:Int):Int:=b.f1+goneOf b.f0.f0 b.f0.f1 d
def stepOf (b:S74) (d:Int):Int:=(meanOf b d % 21600)*(b.f2.length:Int)
def wayOf (b:S74) (d:Int):Int:=
 meanOf b d+rd b.f2 (stepOf b d / 21600)+(rd b.f2 ((stepOf b d / 21600+1) % (b.f2.length:Int)) - rd b.f2 (stepOf b d / 21600))*(stepOf b d % 21600) / 21600
theorem okIn_iff {a b c:Int}:okIn a b c=true ↔ b≤a∧a≤c:=by simp [okIn]
theorem period_of {p q:Int} (h:okPeriod p q=true):1≤p∧p≤10000∧1≤q∧q≤10000∧4*q≤p:=by
 simp only [okPeriod,Bool.and_eq_true,okIn_iff,decide_eq_true_eq] at h
 omega
theorem gone_bounds {p q d:Int} (h:okPeriod p q=true) (hd:0≤d∧d≤20000):0≤goneOf p q d∧goneOf p q d≤108000000∧0≤d*21600*q∧d*21600*q≤4320000000000:=by
 have hp:=period_of h
 have h1:d*21600*q=d*q*21600:=by rw [Int.mul_assoc,Int.mul_comm 21600 q,← Int.mul_assoc]
 have h0:0≤d*q:=Int.mul_nonneg hd.1 (by omega)
 have h2:d*q≤20000*q:=Int.mul_le_mul_of_nonneg_right hd.2 (by omega)
 refine ⟨Int.ediv_nonneg (by omega) (by omega),?_,by omega,by omega⟩
 unfold goneOf
 have h3:d*21600*q / p*p≤d*21600*q:=Int.ediv_mul_le _ (by omega)
 rcases Int.lt_or_le (d*21600*q / p) 108000001 with h4|h4
 ·omega
 ·have h5:=Int.mul_le_mul h4 (show 4*q≤p by omega) (by omega) (by omega)
  have h6:108000001*(4*q)=432000004*q:=by omega
  omega
theorem mean_bounds {b:S74} {d:Int} (h:okBody b=true) (hd:0≤d∧d≤20000):0≤meanOf b d∧meanOf b d≤108021599:=by
 simp only [okBody,Bool.and_eq_true,okPlace,okIn_iff] at h
 have:=gone_bounds h.1 hd
 unfold meanOf
 omega
theorem road_bounds {b:S74} (h:okBody b=true) (i:Int):-600≤rd b.f2 i∧rd b.f2 i≤600:=by
 simp only [okBody,Bool.and_eq_true] at h
 have h4:=h.2.2.2
 unfold rd
 rw [List.getD_eq_getElem?_getD]
 cases hq:b.f2[i.toNat]? with
 |none=>decide
 |some x=>
  have hx:=List.mem_of_getElem? hq
  have:okIn x (-600) 600=true:=by
   cases h5:okIn x (-600) 600 with
   |true=>rfl
   |false=>
    unfold okRoad at h4
    rw [List.any_eq_true.mpr ⟨x,hx,by simp [h5]⟩] at h4
    cases h4
  exact okIn_iff.mp this
theorem body_len {b:S74} (h:okBody b=true):1≤b.f2.length∧b.f2.length≤8:=by
 simp only [okBody,Bool.and_eq_true,okIn_iff] at h
 omega
theorem step_bounds {b:S74} {d:Int} (h:okBody b=true):0≤stepOf b d∧stepOf b d≤172800∧0≤stepOf b d / 21600∧stepOf b d / 21600<(b.f2.length:Int):=by
 have hl:=body_len h
 have h2:=Int.emod_nonneg (meanOf b d) (show (21600:Int)≠0 by decide)
 have h3:=Int.emod_lt_of_pos (meanOf b d) (show (0:Int)<21600 by decide)
 unfold stepOf
 generalize meanOf b d % 21600=x at h2 h3 ⊢
 have h4:0≤x*(b.f2.length:Int):=Int.mul_nonneg h2 (by omega)
 have h5:x*(b.f2.length:Int)≤21599*(b.f2.length:Int):=Int.mul_le_mul_of_nonneg_right (by omega) (by omega)
 refine ⟨h4,by omega,by omega,by omega⟩
theorem gone_eq (l:List S74) (a1 a2 a3:Int) {p q d:Int} (h:okPeriod p q=true) (hd:0≤d∧d≤20000):ss_gone.f l a1 a2 a3 d p q=some (goneOf p q d):=by
 have hg:=gone_bounds h hd
 have hp:=period_of h
 unfold ss_gone.f
 rw [wrap_id (show -9223372036854775808≤d*21600∧d*21600≤9223372036854775807 by omega),wrap_id (by omega),floor_eq (by omega) (by omega) (by omega)]
 rfl
theorem sum2_ev (a b:Int) (h:-1000000000≤a∧a≤1000000000) (h':-1000000000≤b∧b≤1000000000):Ev (fun k=>sky_sum.f k [a,b]) (a+b):=by
 unfold sky_sum.f
 rw [show (([a,b].length:Nat):Int)=2 from rfl]
 have w1:wrap64 (0+1)=1:=by kernel_rfl
 have w2:wrap64 (1+1)=2:=by kernel_rfl
 refine Ev.step (fun k=>by rw [sky_sum.l0]) ?_
 refine Ev.pos (by decide) (Ev.pos (by decide) (Ev.pos (by show (0:Int)<2;decide) ?_))
 rw [w1]
 refine Ev.step (fun k=>by rw [sky_sum.l0]) ?_
 refine Ev.pos (by decide) (Ev.pos (by decide) (Ev.pos (by show (1:Int)<2;decide) ?_))
 rw [w2]
 refine Ev.step (fun k=>by rw [sky_sum.l0]) ?_
 refine Ev.neg (by decide) ?_
 rw [show rd [a,b] 0=a from rfl,show rd [a,b] 1=b from rfl,wrap_id (show -9223372036854775808≤0+a∧0+a≤9223372036854775807 by omega),wrap_id (by omega),Int.zero_add]
 exact Ev.now _
theorem sum3_ev (a b c:Int) (h:-1000000000≤a∧a≤1000000000) (h':-1000000000≤b∧b≤1000000000) (h'':-1000000000≤c∧c≤1000000000):Ev (fun k=>sky_sum.f k [a,b,c]) (a+b+c):=by
 unfold sky_sum.f
 rw [show (([a,b,c].length:Nat):Int)=3 from rfl]
 have w1:wrap64 (0+1)=1:=by kernel_rfl
 have w2:wrap64 (1+1)=2:=by kernel_rfl
 have w3:wrap64 (2+1)=3:=by kernel_rfl
 refine Ev.step (fun k=>by rw [sky_sum.l0]) ?_
 refine Ev.pos (by decide) (Ev.pos (by decide) (Ev.pos (by show (0:Int)<3;decide) ?_))
 rw [w1]
 refine Ev.step (fun k=>by rw [sky_sum.l0]) ?_
 refine Ev.pos (by decide) (Ev.pos (by decide) (Ev.pos (by show (1:Int)<3;decide) ?_))
 rw [w2]
 refine Ev.step (fun k=>by rw [sky_sum.l0]) ?_
 refine Ev.pos (by decide) (Ev.pos (by decide) (Ev.pos (by show (2:Int)<3;decide) ?_))
 rw [w3]
 refine Ev.step (fun k=>by rw [sky_sum.l0]) ?_
 refine Ev.neg (by decide) ?_
 rw [show rd [a,b,c] 0=a from rfl,show rd [a,b,c] 1=b from rfl,show rd [a,b,c] 2=c from rfl,wrap_id (show -9223372036854775808≤0+a∧0+a≤9223372036854775807 by omega),wrap_id (show -9223372036854775808≤0+a+b∧0+a+b≤9223372036854775807 by omega),wrap_id (by omega),Int.zero_add]
 exact Ev.now _
theorem mean_ev (l:List S74) (a1 a2 a3 d:Int) (i:Nat) (hi:i<l.length) (h:okBody l[i]=true) (hd:0≤d∧d≤20000):Ev (fun k=>ss_mean.f k l a1 a2 a3 d (i:Int)) (meanOf l[i] d):=by
 unfold ss_mean.f
 refine Ev.pos (by omega) (Ev.pos (by omega) ?_)
 rw [rdT_get l i hi]
 generalize l[i]=b at h
 have hp:okPeriod b.f0.f0 b.f0.f1=true:=by simp only [okBody,Bool.and_eq_true] at h;exact h.1
 have hs:0≤b.f1∧b.f1≤21599:=by simp only [okBody,Bool.and_eq_true,okPlace,okIn_iff] at h;exact h.2.1
 have hg:=gone_bounds hp hd
 refine Ev.bind (Ev.is (gone_eq l a1 a2 a3 hp hd)) (Ev.bind (sum2_ev _ _ (by omega) (by omega)) (Ev.now _))
theorem way_ev (l:List S74) (a1 a2 a3 d:Int) (i:Nat) (hi:i<l.length) (h:okBody l[i]=true) (hd:0≤d∧d≤20000):Ev (fun k=>ss_way.f k l a1 a2 a3 d (i:Int)) (wayOf l[i] d):=by
 have hm:=mean_ev l a1 a2 a3 d i hi h hd
 unfold ss_way.f
 refine Ev.pos (by omega) (Ev.pos (by omega) (Ev.bind hm ?_))
 rw [rdT_get l i hi]
 generalize l[i]=b at h
 have hmb:=mean_bounds h hd
 have hl:=body_len h
 have hs:=step_bounds (d:=d) h
 refine Ev.bind (Ev.is (around_eq (by omega))) ?_
 rw [show meanOf b d % 21600*(b.f2.length:Int)=stepOf b d from rfl,wrap_id (show -9223372036854775808≤stepOf b d∧stepOf b d≤9223372036854775807 by omega)]
 refine Ev.bind (Ev.is (floor_eq (by decide) (by decide) (by omega))) ?_
 simp only
 rw [wrap_id (show -9223372036854775808≤stepOf b d / 21600+1∧stepOf b d / 21600+1≤9223372036854775807 by omega)]
 have ht:Int.tmod (stepOf b d / 21600+1) (b.f2.length:Int)=(stepOf b d / 21600+1) % (b.f2.length:Int):=Int.tmod_eq_emod_of_nonneg (by omega)
 rw [ht]
 have h2:=Int.emod_nonneg (stepOf b d / 21600+1) (show (b.f2.length:Int)≠0 by omega)
 have h3:=Int.emod_lt_of_pos (stepOf b d / 21600+1) (show (0:Int)<(b.f2.length:Int) by omega)
 refine Ev.neg (by omega) (Ev.pos h2 (Ev.pos h3 (Ev.pos hs.2.2.1 (Ev.pos hs.2.2.2 ?_))))
 have r1:=road_bounds h (stepOf b d / 21600)
 have r2:=road_bounds h ((stepOf b d / 21600+1) % (b.f2.length:Int))
 have p0:=Int.emod_nonneg (stepOf b d) (show (21600:Int)≠0 by decide)
 have p1:=Int.emod_lt_of_pos (stepOf b d) (show (0:Int)<21600 by decide)
 unfold wayOf
 generalize rd b.f2 (stepOf b d / 21600)=x at r1 ⊢
 generalize rd b.f2 ((stepOf b d / 21600+1) % (b.f2.length:Int))=y at r2 ⊢
 generalize stepOf b d % 21600=z at p0 p1 ⊢
 have q:-25920000≤(y - x)*z∧(y - x)*z≤25920000:=by
  constructor
  ·have:=Int.mul_le_mul_of_nonneg_right (show -1200≤y - x by omega) p0
   omega
  ·have:=Int.mul_le_mul_of_nonneg_right (show y - x≤1200 by omega) p0
   omega
 rw [wrap_id (show -9223372036854775808≤y - x∧y - x≤9223372036854775807 by omega),wrap_id (show -9223372036854775808≤(y - x)*z∧(y - x)*z≤9223372036854775807 by omega)]
 refine Ev.bind (Ev.is (floor_eq (by decide) (by decide) (by omega))) (Ev.bind (sum3_ev _ _ _ (by omega) (by omega) (by simp only;omega)) (Ev.now _))
theorem way_bounds {b:S74} {d:Int} (h:okBody b=true) (hd:0≤d∧d≤20000):-2000≤wayOf b d∧wayOf b d≤108030000:=by
 have hmb:=mean_bounds h hd
 have r1:=road_bounds h (stepOf b d / 21600)
 have r2:=road_bounds h ((stepOf b d / 21600+1) % (b.f2.length:Int))
 have p0:=Int.emod_nonneg (stepOf b d) (show (21600:Int)≠0 by decide)
 have p1:=Int.emod_lt_of_pos (stepOf b d) (show (0:Int)<21600 by decide)
 unfold wayOf
 generalize rd b.f2 (stepOf b d / 21600)=x at r1 ⊢
 generalize rd b.f2 ((stepOf b d / 21600+1) % (b.f2.length:Int))=y at r2 ⊢
 generalize stepOf b d % 21600=z at p0 p1 ⊢
 have q:-25920000≤(y - x)*z∧(y - x)*z≤25920000:=by
  constructor
  ·have:=Int.mul_le_mul_of_nonneg_right (show -1200≤y - x by omega) p0
   omega
  ·have:=Int.mul_le_mul_of_nonneg_right (show y - x≤1200 by omega) p0
   omega
 omega
end Go.Proofs.YtjahbgldccjbfaaGreatDoor.PSky
end
section
namespace Go.Proofs.YtjahbgldccjbfaaGreatDoor.PSky
open Go.RowKit Go.Proofs.YtjahbgldccjbfaaGreatDoorW.PrintWords Go.Proofs.YtjahbgldccjbfaaGreatDoorW.PrintLast Go.Proofs.YtjahbgldccjbfaaGreatDoorW.PrintMore
def aheadOf (l:List S74) (i j:Nat) (d:Int):Int:=wayOf (rd_T74 l (i:Int)) d - wayOf (rd_T74 l (j:Int)) d
theorem ok_at {l:List S74} {p q n:Int} (h:okSky l p q n=true):2≤l.length∧l.length≤4∧okPeriod p q=true∧okPlace n=true∧∀ i:Nat,i<l.length→okBody (rd_T74 l (i:Int))=true:=by
 simp only [okSky,Bool.and_eq_true,okIn_iff] at h
 refine ⟨by omega,by omega,h.2.1,h.2.2.1,fun i hi=>?_⟩
 have h4:=h.2.2.2
 rw [any_all] at h4
 rw [rdT_get l i hi]
 exact List.all_eq_true.mp h4 _ (List.getElem_mem hi)
theorem wayT_ev {l:List S74} {p q n:Int} (h:okSky l p q n=true) (i:Nat) (hi:i<l.length) {d:Int} (hd:0≤d∧d≤20000):Ev (fun k=>ss_way.f k l p q n d (i:Int)) (wayOf (rd_T74 l (i:Int)) d):=by
 have hb:=(ok_at h).2.2.2.2 i hi
 rw [rdT_get l i hi] at hb ⊢
 exact way_ev l p q n d i hi hb hd
theorem lunar_ev {l:List S74} {p q n:Int} (h:okSky l p q n=true) {d:Int} (hd:0≤d∧d≤20000):Ev (fun k=>ss_lunar.f k l p q n d) (aheadOf l 1 0 d):=by
 obtain ⟨h2,-,-,-,hb⟩:=ok_at h
 have b1:=way_bounds (hb 1 (by omega)) hd
 have b2:=way_bounds (hb 0 (by omega)) hd
 unfold ss_lunar.f aheadOf
 refine Ev.bind (a:=wayOf (rd_T74 l ((0:Nat):Int)) d) ?_ (Ev.bind (a:=wayOf (rd_T74 l ((1:Nat):Int)) d) ?_ ?_)
 ·unfold ss_sun.f
  exact Ev.bind (wayT_ev h 0 (by omega) hd) (Ev.now _)
 ·unfold ss_moon.f
  exact Ev.bind (wayT_ev h 1 (by omega) hd) (Ev.now _)
 ·rw [wrap_id (by omega)]
  exact Ev.now _
theorem ahead_bounds {l:List S74} {p q n:Int} (h:okSky l p q n=true) (i j:Nat) (hi:i<l.length) (hj:j<l.length) {d:Int} (hd:0≤d∧d≤20000):-200000000≤aheadOf l i j d∧aheadOf l i j d≤200000000:=by
 obtain ⟨-,-,-,-,hb⟩:=ok_at h
 have b1:=way_bounds (hb i hi) hd
 have b2:=way_bounds (hb j hj) hd
 unfold aheadOf
 omega
theorem passes_eq {a b:Int} (ha:-1000000000≤a∧a≤1000000000) (hb:-1000000000≤b∧b≤1000000000):sky_passes.f a b=some (decide (b / 21600 > a / 21600)):=by
 unfold sky_passes.f
 rw [floor_eq (by decide) (by decide) (by omega),Option.bind_some,floor_eq (by decide) (by decide) (by omega),Option.bind_some]
def isMoon (l:List S74) (half d:Int):Bool:=decide ((aheadOf l 1 0 d - half) / 21600 > (aheadOf l 1 0 (d - 1) - half) / 21600)
theorem new_ev {l:List S74} {p q n:Int} (h:okSky l p q n=true) {d:Int} (hd:1≤d∧d≤20000):Ev (fun k=>at_has_new.f k l p q n d) (isMoon l 0 d):=by
 have h2:=(ok_at h).1
 have b1:=ahead_bounds h 1 0 (by omega) (by omega) (d:=d) (by omega)
 have b2:=ahead_bounds h 1 0 (by omega) (by omega) (d:=d - 1) (by omega)
 unfold at_has_new.f isMoon
 rw [wrap_id (show -9223372036854775808≤d - 1∧d - 1≤9223372036854775807 by omega)]
 refine Ev.bind (lunar_ev h (by omega)) (Ev.bind (lunar_ev h (by omega)) (Ev.bind (Ev.is (passes_eq (by omega) (by omega))) ?_))
 simp only [Int.sub_zero]
 exact Ev.now _
theorem full_ev {l:List S74} {p q n:Int} (h:okSky l p q n=true) {d:Int} (hd:1≤d∧d≤20000):Ev (fun k=>at_has_full.f k l p q n d) (isMoon l 10800 d):=by
 have h2:=(ok_at h).1
 have b1:=ahead_bounds h 1 0 (by omega) (by omega) (d:=d) (by omega)
 have b2:=ahead_bounds h 1 0 (by omega) (by omega) (d:=d - 1) (by omega)
 unfold at_has_full.f isMoon
 rw [wrap_id (show -9223372036854775808≤d - 1∧d - 1≤9223372036854775807 by omega)]
 refine Ev.bind (lunar_ev h (by omega)) (Ev.bind (lunar_ev h (by omega)) ?_)
 rw [wrap_id (show -9223372036854775808≤aheadOf l 1 0 (d - 1) - 10800∧aheadOf l 1 0 (d - 1) - 10800≤9223372036854775807 by omega),wrap_id (show -9223372036854775808≤aheadOf l 1 0 d - 10800∧aheadOf l 1 0 d - 10800≤9223372036854775807 by omega)]
 exact Ev.bind (Ev.is (passes_eq (by omega) (by omega))) (Ev.now _)
def moonOn (l:List S74) (d:Int):List S95:=(if isMoon l 0 d=true then [⟨d,false⟩] else []) ++ (if isMoon l 10800 d=true then [⟨d,true⟩] else [])
theorem Ev.all {α β:Type} (g:α→Nat→Option β) (r:α→β):∀ l:List α,(∀ d∈l,Ev (g d) (r d))→∃ K,∀ k,K≤k→∀ d∈l,g d k=Option.some (r d)
 |[],_=>⟨0,fun _ _ d h=>by cases h⟩
 |x :: t,h=>by
  obtain ⟨K1,h1⟩:=h x (List.mem_cons_self ..)
  obtain ⟨K2,h2⟩:=Ev.all g r t (fun d hd=>h d (List.mem_cons_of_mem _ hd))
  refine ⟨max K1 K2,fun k hk d hd=>?_⟩
  rcases List.mem_cons.mp hd with rfl|hd
  ·exact h1 k (by omega)
  ·exact h2 k (by omega) d hd
theorem span_of {a b:Int} (h:okSpan a b=true):1≤a∧a≤b∧b≤20000∧b - a≤800:=by
 simp only [okSpan,Bool.and_eq_true,okIn_iff,decide_eq_true_eq] at h
 omega
theorem moons_ev {l:List S74} {p q n:Int} (h:okSky l p q n=true) {lo hi:Int} (hs:okSpan lo hi=true):Ev (fun k=>sky_moons.f k l p q n lo hi) ((daysOf lo hi).flatMap (moonOn l)):=by
 have hsp:=span_of hs
 have hday:∀ d∈daysOf lo hi,1≤d∧d≤20000:=by
  intro d hd
  unfold daysOf at hd
  obtain ⟨j,hj,rfl⟩:=List.mem_map.mp hd
  have:=List.mem_range.mp hj
  omega
 obtain ⟨K1,h1⟩:=Ev.all (fun d k=>at_has_new.f k l p q n d) (fun d=>isMoon l 0 d) (daysOf lo hi) (fun d hd=>new_ev h (hday d hd))
 obtain ⟨K2,h2⟩:=Ev.all (fun d k=>at_has_full.f k l p q n d) (fun d=>isMoon l 10800 d) (daysOf lo hi) (fun d hd=>full_ev h (hday d hd))
 refine ⟨max K1 K2,fun k hk=>?_⟩
 show sky_moons.f k l p q n lo hi=_
 unfold sky_moons.f
 rw [if_pos ⟨by omega,by omega,by omega,fun d hd=>⟨by rw [h1 k (by omega) d hd];rfl,by rw [h2 k (by omega) d hd];rfl⟩⟩]
 congr 1
 rw [List.flatMap_def,List.flatMap_def]
 congr 1
 refine List.map_congr_left fun d hd=>?_
 unfold moonsAt moonOn
 rw [h1 k (by omega) d hd,h2 k (by omega) d hd]
 simp only [Option.some.injEq]
theorem moonOn_length (l:List S74) (d:Int):(moonOn l d).length≤2:=by
 unfold moonOn
 split <;> split <;> simp
end Go.Proofs.YtjahbgldccjbfaaGreatDoor.PSky
end
section
namespace Go.Proofs.YtjahbgldccjbfaaGreatDoor.PSky
open Go.RowKit Go.Proofs.YtjahbgldccjbfaaGreatDoorW.PrintWords Go.Proofs.YtjahbgldccjbfaaGreatDoorW.PrintLast Go.Proofs.YtjahbgldccjbfaaGreatDoorW.PrintMore
theorem known_ev:Ev (fun _=>tl_known.f.bind fun t=>some t) true:=Ev.now true
theorem Moons_ev (l:List S74) (p q n a b:Int):Ev (fun k=>sky_Moons.f k l p q n a b) (if okSky l p q n=true∧okSpan a b=true then ((daysOf a b).flatMap (moonOn l),0) else ([],2)):=by
 unfold sky_Moons.f
 refine Ev.bind (isSky_ev l p q n) ?_
 cases h1:okSky l p q n with
 |false=>
  refine Ev.neg (by simp) ?_
  rw [if_neg (by simp)]
  exact Ev.now _
 |true=>
  refine Ev.pos rfl (Ev.bind (Ev.is (isSpan_eq a b)) ?_)
  cases h2:okSpan a b with
  |false=>
   refine Ev.neg (by simp) ?_
   rw [if_neg (by simp)]
   exact Ev.now _
  |true=>
   rw [if_pos ⟨rfl,rfl⟩]
   exact Ev.pos rfl (Ev.bind (moons_ev h1 h2) (Ev.now _))
end Go.Proofs.YtjahbgldccjbfaaGreatDoor.PSky
end
section
namespace Go.Proofs.YtjahbgldccjbfaaGreatDoor.PSky
open Go.RowKit Go.Proofs.YtjahbgldccjbfaaGreatDoorW.PrintWords Go.Proofs.YtjahbgldccjbfaaGreatDoorW.PrintLast Go.Proofs.YtjahbgldccjbfaaGreatDoorW.PrintMore
theorem rdM_get (l:List S95) (i:Nat) (h:i<l.length):rd_T95 l (i:Int)=l[i]:=by unfold rd_T95;simp [h]
end Go.Proofs.YtjahbgldccjbfaaGreatDoor.PSky
end
section
namespace Go.Proofs.YtjahbgldccjbfaaGreatDoor.PSky
open Go.RowKit Go.Proofs.YtjahbgldccjbfaaGreatDoorW.PrintWords Go.Proofs.YtjahbgldccjbfaaGreatDoorW.PrintLast Go.Proofs.YtjahbgldccjbfaaGreatDoorW.PrintMore
def okDay (n:Int):Bool:=okIn n 0 20000
theorem isDay_eq (n:Int):sky_isDay.f n=some (okDay n):=by unfold sky_isDay.f;rw [in_eq];rfl
theorem Day_eq (n:Int):tr_Day.f n=some (okDay n):=isDay_eq n
end Go.Proofs.YtjahbgldccjbfaaGreatDoor.PSky
end
section
namespace Go.Proofs.YtjahbgldccjbfaaGreatDoor.PSky
open Go.RowKit Go.Proofs.YtjahbgldccjbfaaGreatDoorW.PrintWords Go.Proofs.YtjahbgldccjbfaaGreatDoorW.PrintLast Go.Proofs.YtjahbgldccjbfaaGreatDoorW.PrintMore
theorem span_day {a b d:Int} (h1:a≤d) (h2:d≤b):d∈daysOf a b:=by
 unfold daysOf
 exact List.mem_map.mpr ⟨(d - a).toNat,List.mem_range.mpr (by omega),by omega⟩
end Go.Proofs.YtjahbgldccjbfaaGreatDoor.PSky
end
section
namespace Go.Proofs.YtjahbgldccjbfaaGreatDoor.PSky
open Go.RowKit Go.Proofs.YtjahbgldccjbfaaGreatDoorW.PrintWords Go.Proofs.YtjahbgldccjbfaaGreatDoorW.PrintLast Go.Proofs.YtjahbgldccjbfaaGreatDoorW.PrintMore
theorem operIn_of {l n:Nat} {P:Program} {o:Oper} {a:Act} {w:World} {K:Act→World→Prop} {Q:Exit→Act→World→Prop} (hd:∀ c:Call,o.op≠Op.defer c) (h:o.wp P a w K Q):o.wpIn (Fence.wide.inRound l) n P a w K Q:=by
 unfold Oper.wp at h
 unfold Oper.wpIn
 refine ⟨fun _ _=>trivial,?_⟩
 rw [show (Fence.wide.inRound l).round=some l from rfl,Oper.semAt_some l _ _ hd]
 generalize (execOp a.eval o).run P w=r at *
 cases r with
 |ok x w'=>
  cases x with
  |value v=>exact h
  |skip=>exact h
  |defer d=>exact h
  |enter f args=>exact ⟨fun hh=>by simp [Fence.wide,Fence.inRound] at hh,CallsIn.inRound l (callsIn_wide.2 h)⟩
  |row r args=>exact ⟨fun hh=>by simp [Fence.wide,Fence.inRound] at hh,fun c cs _=>let ⟨v,w2,hr,hs⟩:=h c cs;⟨v,w2,hr,stepsIn_wide.2 hs⟩⟩
  |_=>exact h.elim
 |halt x w'=>cases x <;> exact h
theorem anyIn_of {l n:Nat} {P:Program} {md:Region.Mode} {ops:Array Oper} {Q:Exit→Act→World→Prop} (hd:∀ (i:Nat) (o:Oper),ops[i]?=some o→∀ c:Call,o.op≠Op.defer c) (hQ:¬ LetsOut Q):∀ (fuel:Nat) (listed:Array Bool) (a:Act) (w:World),
  wpAny P md ops Q fuel listed a w→wpAnyIn (Fence.wide.inRound l) n P md ops Q fuel listed a w
 |0,_,_,_,h=>h
 |fuel+1,listed,a,w,h=>by
  refine ⟨h.1,fun i hi=>?_⟩
  have h2:=h.2 i hi
  unfold wpOp at h2
  unfold wpOpIn
  cases ho:ops[i]? with
  |none=>
   rw [ho] at h2
   exact anyIn_of hd hQ fuel _ _ _ h2
  |some o=>
   rw [ho] at h2
   simp only at h2 ⊢
   split
   ·rename_i hw
    rw [if_pos hw] at h2
    rcases h2 with h2|h2
    ·exact Oper.wpIn_mono (fun a w hh=>anyIn_of hd hQ fuel _ a w hh) (operIn_of (hd i o ho) h2)
    ·exact absurd h2.2 hQ
   ·rename_i hw
    rw [if_neg hw] at h2
    exact ⟨fun _ _=>trivial,anyIn_of hd hQ fuel _ _ _ h2⟩
def onlyN (Q:Exit→Act→World→Prop):Exit→Act→World→Prop:=fun e a w=>e=.normal∧Q .normal a w
theorem onlyN_no {Q:Exit→Act→World→Prop} {c:List PanicEntry} {a a':Act} {w w':World} (h:onlyN Q (.panic c) a w):onlyN Q (.panic c) a' w':=by cases h.1
theorem startIn_ {l n m id:Nat} {P:Program} {ops:Array Oper} {Q:Exit→Act→World→Prop} {S:World→Prop} {ds:List Nat} {a:Act} {w:World} (L:Array Bool) (hm:P.follows .mixedOrders=true)
  (hd:(ops.toList.all fun (o:Oper)=>match o.op with|Op.defer _=>false|_=>true)=true) (hn:ops.size=m) (hl:Array.replicate m false=L) (hS:S w.drew)
  (h:S w.drew→wpAnyLast P .any ops (onlyN Q) S ds m L a w.drew):(Code.region id ops true).wpIn (Fence.wide.inRound l) n P Q a w:=by
 subst hn;subst hl
 have hd':∀ (i:Nat) (o:Oper),ops[i]?=some o→∀ c:Call,o.op≠Op.defer c:=by
  intro i o ho c hc
  have:=List.all_eq_true.mp hd o (by simpa using Array.mem_of_getElem? ho)
  rw [hc] at this
  cases this
 refine wpIn_mono (wpIn_region_any hm (anyIn_of hd' ?_ _ _ _ _ (wpAny_of_last _ _ _ _ (h hS)))) ?_
 ·rintro ⟨_,_,hh⟩
  cases hh.1
 ·rintro e a w ⟨rfl,hq⟩
  exact hq
end Go.Proofs.YtjahbgldccjbfaaGreatDoor.PSky
end
section
namespace Go.Proofs.YtjahbgldccjbfaaGreatDoor.PSky
open Go.RowKit Go.Shelf Go.Proofs.YtjahbgldccjbfaaGreatDoorW.PrintWords Go.Proofs.YtjahbgldccjbfaaGreatDoorW.PrintLast Go.Proofs.YtjahbgldccjbfaaGreatDoorW.PrintMore
attribute [local go_sem] Oper.semAt_some max2_int min2_int max_two min_two
def moonTy (b:Bool):Nat:=if b=true then 153 else 157
set_option maxRecDepth 100000 in
theorem moonOf_calls (b:Bool) (w:World):Calls Tryz.prog 98 #[.bool b] w fun e w'=>e=.returned (.iface (moonTy b) (.agg #[]))∧w'=w:=by
 cases b with
 |true=>
  go_enter Tryz.func98,Tryz.ntmps98
  go_wp2;go_ret
  exact ⟨rfl,rfl⟩
 |false=>
  go_enter Tryz.func98,Tryz.ntmps98
  go_wp2;go_ret
  exact ⟨rfl,rfl⟩
def hasOf (k:Nat) (l:List S74) (i1 i2 i3:Int) (full:Bool) (d:Int):Option Bool:=if full=true then at_has_full.f k l i1 i2 i3 d else at_has_new.f k l i1 i2 i3 d
theorem hasOf_calls (k:Nat) (A0_0:Option Addr) (c0_0:Nat) (l0_0:List S74) (a0_1 a0_2 a0_3 d:Int) (full r:Bool) (w:World) (hr0_0:Kd.C k74 w A0_0 l0_0.length l0_0) (hc0_0:l0_0.length≤c0_0) (h:hasOf k l0_0 a0_1 a0_2 a0_3 full d=some r):
  Calls Tryz.prog 71 #[.agg #[.slice A0_0 l0_0.length c0_0,.int .i64 a0_1,.int .i64 a0_2,.int .i64 a0_3,.int .i64 d],.iface (moonTy full) (.agg #[])] w fun e w'=>e=.returned (.bool r)∧Below w.heap.size w w':=by
 cases full with
 |true=>exact at_has_full.calls k A0_0 c0_0 l0_0 a0_1 a0_2 a0_3 d r w hr0_0 hc0_0 (by unfold hasOf at h;rw [if_pos rfl] at h;exact h)
 |false=>exact at_has_new.calls k A0_0 c0_0 l0_0 a0_1 a0_2 a0_3 d r w hr0_0 hc0_0 (by unfold hasOf at h;rw [if_neg (by simp)] at h;exact h)
def sky_Next.f (k:Nat) (l:List S74) (i1 i2 i3 d:Int) (full:Bool):Option (Int × Int):=
 (sky_isSky.f k l i1 i2 i3).bind fun b1=>if b1=true then (sky_isDay.f d).bind fun b2=>if b2=true then
  (if ∀ x∈daysOf (mx 1 d) 20000,(hasOf k l i1 i2 i3 full x).isSome=true then (match (daysOf (mx 1 d) 20000).find? (fun x=>hasOf k l i1 i2 i3 full x=some true) with|some x=>some (x,0)|none=>some (0,5)) else none) else some (0,2) else some (0,2)
theorem find_congr {p q:Int→Bool}:∀ {l:List Int},(∀ x∈l,p x=q x)→l.find? p=l.find? q
 |[],_=>rfl
 |x :: t,h=>by
  rw [List.find?_cons,List.find?_cons,h x (List.mem_cons_self ..),find_congr (fun y hy=>h y (List.mem_cons_of_mem _ hy))]
theorem find_at {p:Int→Bool}:∀ (pre:List Int) (x:Int) (t:List Int),(∀ y∈pre,p y=false)→p x=true→(pre ++ x :: t).find? p=some x
 |[],x,t,_,h=>by rw [List.nil_append,List.find?_cons,h]
 |y :: pre,x,t,h,hx=>by
  rw [List.cons_append,List.find?_cons,h y (List.mem_cons_self ..)]
  exact find_at pre x t (fun z hz=>h z (List.mem_cons_of_mem _ hz)) hx
theorem up_map {lo hi:Int}:∀ (n:Nat) (h:lo+n≤hi+1),(upDays lo hi n h).map (·.1)=(List.range n).map fun j:Nat=>lo+(j:Nat)
 |0,_=>rfl
 |n+1,h=>by
  rw [upDays,List.map_append,up_map n (by omega),List.range_succ,List.map_append]
  rfl
theorem some_pre {lo hi:Int} {ys:List (DayIn lo hi)} (h:SomeDays lo hi ys):∃ t,daysOf lo hi=ys.map (·.1) ++ t:=by
 obtain ⟨k,hk,rfl⟩:=h
 refine ⟨(List.range ((hi+1 - lo).toNat - k)).map fun j:Nat=>lo+((k+j:Nat):Int),?_⟩
 rw [up_map]
 unfold daysOf
 rw [show (hi+1 - lo).toNat=k+((hi+1 - lo).toNat - k) by omega,List.range_add,List.map_append,List.map_map]
 simp only [Nat.add_sub_cancel_left]
 rfl
theorem in_true' {x a b:Int} (h:sky_in.f x a b=some true):a≤x∧x≤b:=by
 unfold sky_in.f at h
 by_cases h1:x ≥ a
 ·rw [if_pos h1] at h
  exact ⟨h1,by simpa using h⟩
 ·rw [if_neg h1] at h
  simp at h
structure NextI (w W0:World) (B:Nat) (A0:Option Addr) (c0 len:Nat) (i1 i2 i3 lo hi:Int) (b:Bool) (fine:Prop) (W:World):Prop where
 fine:fine
 below:Below w.heap.size w W
 size:W0.heap.size≤W.heap.size
 s:W.heap[B]?=some (.cells #[.slice A0 len c0,.int .i64 i1,.int .i64 i2,.int .i64 i3] 29 (0,0))
 lo:W.heap[B+1]?=some (.cells #[.int .i64 lo] 3 (0,0))
 hi:W.heap[B+2]?=some (.cells #[.int .i64 hi] 3 (0,0))
 full:W.heap[w.heap.size+1]?=some (.cells #[.bool b] 4 (0,0))
 n:W.heap[w.heap.size+2]?=some (.cells #[.int .i64 0] 3 (0,0))
 e:W.heap[w.heap.size+3]?=some (.cells #[.int .i64 0] 30 (0,0))
theorem NextI.own {w W0:World} {B:Nat} {A0:Option Addr} {c0 len:Nat} {i1 i2 i3 lo hi:Int} {b:Bool} {β:Type} {f:β→Prop} {C:Nat} (hC:w.heap.size≤C):
  OwnFrom C (fun (s:β) W=>NextI w W0 B A0 c0 len i1 i2 i3 lo hi b (f s) W):=by
 intro s X Y row h hg hr
 have hr':∀ r,row=some r→∃ o:Obj,X.heap[r]?=some o∧o.isCells=false:=fun r e=>(hr r e).2
 obtain ⟨h1,h3,h4,h5,h6,h7,h8,h9,h10⟩:=h
 exact ⟨h1,h3.grown hg h3.size (fun k e=>by have:=(hr k e).1;omega),Nat.le_trans h4 hg.size,blk_ownFrom h5 hg hr',blk_ownFrom h6 hg hr',blk_ownFrom h7 hg hr',blk_ownFrom h8 hg hr',blk_ownFrom h9 hg hr',blk_ownFrom h10 hg hr'⟩
theorem NextI.stay {w W0 W W':World} {B:Nat} {A0:Option Addr} {c0 len:Nat} {i1 i2 i3 lo hi:Int} {b:Bool} {f:Prop} (h:NextI w W0 B A0 c0 len i1 i2 i3 lo hi b f W) (hb:Below W.heap.size W W'):
  NextI w W0 B A0 c0 len i1 i2 i3 lo hi b f W'∧KeepsFrom W0.heap.size W W'∧KpD B W W':=by
 refine ⟨⟨h.fine,h.below.trans (hb.mono h.below.size),Nat.le_trans h.size hb.size,blk_below h.s hb,blk_below h.lo hb,blk_below h.hi hb,blk_below h.full hb,blk_below h.n hb,blk_below h.e hb⟩,⟨hb.size,fun i o _ hi _=>(hb.block i (Array.getElem?_eq_some_iff.1 hi).1).trans hi⟩,fun i h1 h2=>?_⟩
 have lts:=blk_lt h.hi
 exact hb.block i (by omega)
theorem heap_set2 {w:World} {p q:Addr} {u v:Value} {i:Nat} (hp:i≠p.block) (hq:i≠q.block):((w.setCell p u).setCell q v).heap[i]?=w.heap[i]?:=(Below.heap_setCell (w.setCell p u) q v i hq).trans (Below.heap_setCell w p u i hp)
def NextX (w:World) (f:Int→Option Bool) {lo hi:Int} (c:Code) (pre:List (DayIn lo hi)) (W:World):Prop:=
 c=.ret∧∃ (p:List (DayIn lo hi)) (x:DayIn lo hi),pre=p ++ [x]∧(∀ y∈p,f y.1=some false)∧f x.1=some true∧Below w.heap.size w W∧W.heap[w.heap.size+2]?=some (.cells #[.int .i64 x.1] 3 (0,0))∧W.heap[w.heap.size+3]?=some (.cells #[.int .i64 0] 30 (0,0))
theorem NextX.own {w:World} {f:Int→Option Bool} {lo hi:Int} (c:Code) {C:Nat} (hC:w.heap.size≤C):OwnFrom C (NextX w f (lo:=lo) (hi:=hi) c):=by
 intro s X Y row h hg hr
 have hr':∀ r,row=some r→∃ o:Obj,X.heap[r]?=some o∧o.isCells=false:=fun r e=>(hr r e).2
 obtain ⟨h0,p,x,h1,h2,h3,h4,h5,h6⟩:=h
 exact ⟨h0,p,x,h1,h2,h3,h4.grown hg h4.size (fun k e=>by have:=(hr k e).1;omega),blk_ownFrom h5 hg hr',blk_ownFrom h6 hg hr'⟩
set_option maxRecDepth 100000 in
set_option maxHeartbeats 1600000 in
theorem sky_Next.calls (k:Nat) (A0_0:Option Addr) (c0_0:Nat) (l0_0:List S74) (a0_1 a0_2 a0_3 a1:Int) (a2:Bool) (r1 r2:Int) (w:World)
  (hr0_0:Kd.C k74 w A0_0 l0_0.length l0_0) (hc0_0:l0_0.length≤c0_0) (h:sky_Next.f k l0_0 a0_1 a0_2 a0_3 a1 a2=some (r1,r2)):
  Calls Tryz.prog 49 #[.agg #[.slice A0_0 l0_0.length c0_0,.int .i64 a0_1,.int .i64 a0_2,.int .i64 a0_3],.int .i64 a1,.bool a2] w fun e w'=>e=.returned (.tuple #[.int .i64 r1,.int .i64 r2])∧Below w.heap.size w w':=by
 have HR:=A0_ hr0_0;have HC:=A0_ hc0_0;clear hr0_0 hc0_0
 have hmf:∀ (fn:Fn) (first cap:Array Value) (w:World),(Instr.makeFunc fn first cap).run Tryz.prog w=.ok (.func fn first cap) w:=fun _ _ _ _=>rfl
 obtain ⟨b1,hb1,h1⟩:=Option.bind_eq_some_iff.mp h
 have HB1:=A0_ hb1;clear h hb1
 refine (callsIn_wide (n:=5)).1 ?_
 refine callsIn_of_wp_marks Tryz.func49 rfl trivial ?_ rfl
 simp only [Tryz.ntmps49,List.size_toArray,List.length_cons,List.length_nil,Nat.reduceAdd,Nat.reduceSub,Array.replicate_succ,Array.replicate_zero,List.push_toArray,List.append_toArray,List.nil_append,List.cons_append]
 obtain ⟨W2,hW2⟩:∃ W2,W2=(((w.alloc (.cells #[.slice A0_0 l0_0.length c0_0,.int .i64 a0_1,.int .i64 a0_2,.int .i64 a0_3] 29)).alloc (.cells #[.bool a2] 4)).alloc (.cells #[.int .i64 0] 3)).alloc (.cells #[.int .i64 0] 30):=⟨_,rfl⟩
 have bS:=blk_alloc (blk_alloc (blk_alloc (blk_new w (.cells #[.slice A0_0 l0_0.length c0_0,.int .i64 a0_1,.int .i64 a0_2,.int .i64 a0_3] 29)) (.cells #[.bool a2] 4)) (.cells #[.int .i64 0] 3)) (.cells #[.int .i64 0] 30)
 have bF:=blk_alloc (blk_alloc (blk_new (w.alloc (.cells #[.slice A0_0 l0_0.length c0_0,.int .i64 a0_1,.int .i64 a0_2,.int .i64 a0_3] 29)) (.cells #[.bool a2] 4)) (.cells #[.int .i64 0] 3)) (.cells #[.int .i64 0] 30)
 have bN:=blk_alloc (blk_new ((w.alloc (.cells #[.slice A0_0 l0_0.length c0_0,.int .i64 a0_1,.int .i64 a0_2,.int .i64 a0_3] 29)).alloc (.cells #[.bool a2] 4)) (.cells #[.int .i64 0] 3)) (.cells #[.int .i64 0] 30)
 have bE:=blk_new (((w.alloc (.cells #[.slice A0_0 l0_0.length c0_0,.int .i64 a0_1,.int .i64 a0_2,.int .i64 a0_3] 29)).alloc (.cells #[.bool a2] 4)).alloc (.cells #[.int .i64 0] 3)) (.cells #[.int .i64 0] 30)
 have bB:=below_alloc (below_alloc (below_alloc (below_alloc (Below.refl w.heap.size w) (.cells #[.slice A0_0 l0_0.length c0_0,.int .i64 a0_1,.int .i64 a0_2,.int .i64 a0_3] 29)) (.cells #[.bool a2] 4)) (.cells #[.int .i64 0] 3)) (.cells #[.int .i64 0] 30)
 simp only [World.size_alloc] at bF bN bE
 gi_wp2_with fail
 refine ⟨trivial,?_⟩
 rw [← hW2] at bS bF bN bE bB ⊢
 refine (callsIn_wide.2 (sky_isSky.calls k A0_0 c0_0 l0_0 a0_1 a0_2 a0_3 b1 _ (Kd.C_below HR.out bB) HC.out HB1.out)).mono ?_
 rintro e w1 ⟨rfl,hb⟩
 have HB:=A0_ (below_step bB hb)
 have HS:=A0_ (blk_below bS hb)
 have HF:=A0_ (blk_below bF hb)
 have HN:=A0_ (blk_below bN hb)
 have HE:=A0_ (blk_below bE hb)
 clear hb bS bF bN bE bB hW2
 have n0:=blk_cell HN.out 0
 have n1:=blk_frozen HN.out 0
 have e0:=blk_cell HE.out 0
 have e1:=blk_frozen HE.out 0
 simp at n0 n1 e0 e1
 cases b1 with
 |false=>
  obtain ⟨rfl,rfl⟩:0=r1∧2=r2:=by simpa using h1
  gi_wp2
  refine ⟨trivial,?_⟩
  gi_wp2
  have q0:=blk_cell (blk_far (p:=⟨w.heap.size+1+1+1,0,none⟩) (blk_set HN.out 0 (.int .i64 0)) (by show w.heap.size+1+1≠w.heap.size+1+1+1;omega) (.int .i64 2)) 0
  have q1:=blk_cell (blk_set (blk_far (p:=⟨w.heap.size+1+1,0,none⟩) HE.out (by show w.heap.size+1+1+1≠w.heap.size+1+1;omega) (.int .i64 0)) 0 (.int .i64 2)) 0
  simp at q0 q1
  refine ⟨.tuple #[.int .i64 0,.int .i64 2],?_,rfl,?_⟩
  ·simp [results,Tryz.results49,go_sem,q0,q1]
  ·exact below_set (below_set HB.out (by omega)) (by omega)
 |true=>
 obtain ⟨b2,hb2,h2⟩:=Option.bind_eq_some_iff.mp (show ((sky_isDay.f a1).bind _)=some (r1,r2) from by simpa using h1)
 have HB2:=A0_ hb2;clear h1 hb2
 gi_wp2_with fail
 refine ⟨trivial,?_⟩
 refine (callsIn_wide.2 (sky_isDay.calls a1 b2 _ HB2.out)).mono ?_
 rintro e w' ⟨rfl,⟨nd,rfl⟩⟩
 have HBW:=A0_ (pw_below_drewN HB.out nd)
 have HSW:=A0_ (blk_drewN HS.out nd)
 have HFW:=A0_ (blk_drewN HF.out nd)
 have HNW:=A0_ (blk_drewN HN.out nd)
 have HEW:=A0_ (blk_drewN HE.out nd)
 clear HB HS HF HN HE n0 n1 e0 e1
 generalize w1.drewN nd=W1 at HBW HSW HFW HNW HEW ⊢
 have n0:=blk_cell HNW.out 0
 have n1:=blk_frozen HNW.out 0
 have e0:=blk_cell HEW.out 0
 have e1:=blk_frozen HEW.out 0
 have x0:=blk_cell HSW.out 0
 have x1:=blk_cell HSW.out 1
 have x2:=blk_cell HSW.out 2
 have x3:=blk_cell HSW.out 3
 simp at n0 n1 e0 e1 x0 x1 x2 x3
 cases b2 with
 |false=>
  obtain ⟨rfl,rfl⟩:0=r1∧2=r2:=by simpa using h2
  gi_wp2
  have q0:=blk_cell (blk_far (p:=⟨w.heap.size+1+1+1,0,none⟩) (blk_set HNW.out 0 (.int .i64 0)) (by show w.heap.size+1+1≠w.heap.size+1+1+1;omega) (.int .i64 2)) 0
  have q1:=blk_cell (blk_set (blk_far (p:=⟨w.heap.size+1+1,0,none⟩) HEW.out (by show w.heap.size+1+1+1≠w.heap.size+1+1;omega) (.int .i64 0)) 0 (.int .i64 2)) 0
  simp at q0 q1
  refine ⟨.tuple #[.int .i64 0,.int .i64 2],?_,rfl,?_⟩
  ·simp [results,Tryz.results49,go_sem,q0,q1]
  ·exact below_set (below_set HBW.out (by omega)) (by omega)
 |true=>
 have hday:0≤a1∧a1≤20000:=by
  have hd:=HB2.out
  unfold sky_isDay.f at hd
  obtain ⟨t,ht,h3⟩:=Option.bind_eq_some_iff.mp hd
  obtain rfl:=Option.some.inj h3
  exact in_true' ht
 rw [if_pos rfl] at h2
 have hcond:∀ x∈daysOf (mx 1 a1) 20000,(hasOf k l0_0 a0_1 a0_2 a0_3 a2 x).isSome=true:=by
  split at h2
  ·assumption
  ·cases h2
 rw [if_pos hcond] at h2
 have hlo:1≤mx 1 a1∧mx 1 a1≤20000:=by unfold mx;split <;> omega
 have HRES:=A0_ h2;have HCD:=A0_ hcond;clear h2 hcond
 have lt1:=blk_lt HEW.out
 gi_wp2_with (refine ⟨trivial,?_⟩;gi_at_call 70;refine (callsIn_wide.2 (days_calls A0_0 c0_0 l0_0.length a0_1 a0_2 a0_3 (mx 1 a1) 20000 _)).mono ?_;rintro e w' ⟨rfl,rfl⟩)
 all_goals
  have hB0:Below w.heap.size w (((W1.alloc (.cells #[.slice A0_0 l0_0.length c0_0,.int .i64 a0_1,.int .i64 a0_2,.int .i64 a0_3] 29)).alloc (.cells #[.int .i64 (mx 1 a1)] 3)).alloc (.cells #[.int .i64 20000] 3)):=below_alloc (below_alloc (below_alloc HBW.out _) _) _
  have hS:=blk_alloc (blk_alloc (blk_new W1 (.cells #[.slice A0_0 l0_0.length c0_0,.int .i64 a0_1,.int .i64 a0_2,.int .i64 a0_3] 29)) (.cells #[.int .i64 (mx 1 a1)] 3)) (.cells #[.int .i64 20000] 3)
  have hL:=blk_alloc (blk_new (W1.alloc (.cells #[.slice A0_0 l0_0.length c0_0,.int .i64 a0_1,.int .i64 a0_2,.int .i64 a0_3] 29)) (.cells #[.int .i64 (mx 1 a1)] 3)) (.cells #[.int .i64 20000] 3)
  have hH:=blk_new ((W1.alloc (.cells #[.slice A0_0 l0_0.length c0_0,.int .i64 a0_1,.int .i64 a0_2,.int .i64 a0_3] 29)).alloc (.cells #[.int .i64 (mx 1 a1)] 3)) (.cells #[.int .i64 20000] 3)
  have hF:=blk_alloc (blk_alloc (blk_alloc HFW.out (.cells #[.slice A0_0 l0_0.length c0_0,.int .i64 a0_1,.int .i64 a0_2,.int .i64 a0_3] 29)) (.cells #[.int .i64 (mx 1 a1)] 3)) (.cells #[.int .i64 20000] 3)
  have hN:=blk_alloc (blk_alloc (blk_alloc HNW.out (.cells #[.slice A0_0 l0_0.length c0_0,.int .i64 a0_1,.int .i64 a0_2,.int .i64 a0_3] 29)) (.cells #[.int .i64 (mx 1 a1)] 3)) (.cells #[.int .i64 20000] 3)
  have hE:=blk_alloc (blk_alloc (blk_alloc HEW.out (.cells #[.slice A0_0 l0_0.length c0_0,.int .i64 a0_1,.int .i64 a0_2,.int .i64 a0_3] 29)) (.cells #[.int .i64 (mx 1 a1)] 3)) (.cells #[.int .i64 20000] 3)
  have hsz:(((W1.alloc (.cells #[.slice A0_0 l0_0.length c0_0,.int .i64 a0_1,.int .i64 a0_2,.int .i64 a0_3] 29)).alloc (.cells #[.int .i64 (mx 1 a1)] 3)).alloc (.cells #[.int .i64 20000] 3)).heap.size=W1.heap.size+3:=by simp
  simp only [World.size_alloc] at hL hH
  clear HSW HFW HNW HEW n0 n1 e0 e1 x0 x1 x2 x3
  generalize (((W1.alloc (.cells #[.slice A0_0 l0_0.length c0_0,.int .i64 a0_1,.int .i64 a0_2,.int .i64 a0_3] 29)).alloc (.cells #[.int .i64 (mx 1 a1)] 3)).alloc (.cells #[.int .i64 20000] 3))=W0 at hS hL hH hF hN hE hsz hB0 ⊢
  refine wpIn_rangeFunc_ownH rfl (by omega) (gf:=126) (lb:=#[.pointer (some ⟨W1.heap.size+1,0,none⟩),.pointer (some ⟨W1.heap.size+2,0,none⟩),.pointer (some ⟨W1.heap.size,0,none⟩)]) rfl trivial (enters_of Tryz.func126 (by kernel_rfl) rfl)
   (days_stops (5 - 1) (by omega) W1.heap.size A0_0 c0_0 l0_0.length a0_1 a0_2 a0_3 (mx 1 a1) 20000 (by omega) (by omega) (by omega) W0 hS hL hH) KpD_t (KpD_b (by omega)) (Below.refl _ _) (fun _=>rfl)
   (fun pre W=>NextI w W0 W1.heap.size A0_0 c0_0 l0_0.length a0_1 a0_2 a0_3 (mx 1 a1) 20000 a2 (∀ y∈pre,hasOf k l0_0 a0_1 a0_2 a0_3 a2 y.1=some false) W)
   (NextX w (hasOf k l0_0 a0_1 a0_2 a0_3 a2))
   (NextI.own hB0.size) (fun c=>NextX.own c hB0.size) ⟨fun _ h=>(by cases h),hB0,Nat.le_refl _,hS,hL,hH,hF,hN,hE⟩
   (fun x a' W=>∃ Bx v,W0.heap.size≤Bx∧W.heap[Bx]?=some (.cells #[.slice A0_0 l0_0.length c0_0,.int .i64 a0_1,.int .i64 a0_2,.int .i64 a0_3,.int .i64 x.1] 112 (0,0))∧a'={ tmps:=#[.agg #[.slice A0_0 l0_0.length c0_0,.int .i64 a0_1,.int .i64 a0_2,.int .i64 a0_3],.int .i64 a1,.bool a2,.pointer (some ⟨w.heap.size,0,none⟩),undef,.pointer (some ⟨w.heap.size+1,0,none⟩),.pointer (some ⟨w.heap.size+1+1,0,none⟩),.pointer (some ⟨w.heap.size+1+1+1,0,none⟩),.pointer (some ⟨Bx,0,none⟩),.agg #[.slice A0_0 l0_0.length c0_0,.int .i64 a0_1,.int .i64 a0_2,.int .i64 a0_3],.bool true,.bool false,.bool false,.int .i64 a1,.bool true,.bool false,.bool false,.agg #[.slice A0_0 l0_0.length c0_0,.int .i64 a0_1,.int .i64 a0_2,.int .i64 a0_3],.int .i64 a1,.int .i64 v,.func (.func 126) #[] #[.pointer (some ⟨W1.heap.size+1,0,none⟩),.pointer (some ⟨W1.heap.size+2,0,none⟩),.pointer (some ⟨W1.heap.size,0,none⟩)],.agg #[.slice A0_0 l0_0.length c0_0,.int .i64 a0_1,.int .i64 a0_2,.int .i64 a0_3,.int .i64 x.1],undef,undef,undef,undef,undef,undef],defers:=[] })
   ?hAx ?assign ?body ?done ?stop
  case hAx=>
   rintro x a' _ X Y row ⟨Bx,v,h1,h2,h3⟩ hg hr
   exact ⟨Bx,v,h1,blk_ownFrom h2 hg (fun r e=>(hr r e).2),h3⟩
  case assign=>
   rintro l pre x W K hI hK
   dsimp only [encDay]
   have hs:=hI.size
   have hW:=NextI.stay hI (below_alloc (Below.refl _ W) (.cells #[.slice A0_0 l0_0.length c0_0,.int .i64 a0_1,.int .i64 a0_2,.int .i64 a0_3,.int .i64 x.1] 112))
   gi_wp2
   exact hK _ _ ((KeepsOthers.alloc _ _).from _) hW.2.2 hW.1 ⟨W.heap.size,_,hs,blk_new _ _,rfl⟩
  case body=>
   rintro l pre x a' W hl ⟨rr,hrr⟩ hI ⟨Bx,v,hBx,hX,rfl⟩ hlt
   obtain ⟨r,hr⟩:=Option.isSome_iff_exists.1 (HCD.out x.1 (mem_daysOf.2 x.2))
   have HA:=A0_ hr;clear hr
   have hstay:=NextI.stay hI (below_drew1 (Below.refl _ W))
   have HI0:=A0_ hstay.1
   have hsW0:=hI.size
   have HK0:=A0_ hstay.2.1
   have HP0:=A0_ hstay.2.2
   have HX0:=A0_ (blk_drew hX)
   clear hI hX hstay hS hL hH hF hN hE hrr
   have hbW:W0.heap.size≤W.drew.heap.size:=HI0.out.size
   gi_wp2
   rename_i K1 hK1
   refine startIn_ (S:=fun w'=>w'.cell? ⟨Bx,0,none⟩=some (.slice A0_0 l0_0.length c0_0)∧w'.cell? ⟨Bx,1,none⟩=some (.int .i64 a0_1)∧w'.cell? ⟨Bx,2,none⟩=some (.int .i64 a0_2)∧w'.cell? ⟨Bx,3,none⟩=some (.int .i64 a0_3)∧w'.cell? ⟨Bx,4,none⟩=some (.int .i64 x.1)∧w'.cell? ⟨w.heap.size+1,0,none⟩=some (.bool a2)) (ds:=[3]) #[false,false,false,false] (by kernel_rfl) (by kernel_rfl) rfl rfl ⟨(blk_cell HX0.out 0).trans rfl,(blk_cell HX0.out 1).trans rfl,(blk_cell HX0.out 2).trans rfl,(blk_cell HX0.out 3).trans rfl,(blk_cell HX0.out 4).trans rfl,(blk_cell HI0.out.full 0).trans rfl⟩ (fun hHeld=>?_)
   generalize W.drew=W2 at HI0 HK0 HP0 HX0 hbW hHeld ⊢
   refine take_ (i:=0) (N:=some 22) (v:=?_) (a':=?_) #[true,false,false,false] rfl rfl (by kernel_rfl) (fun _ _ _ h=>onlyN_no h) (Or.inl ⟨by rfl,?_⟩) hHeld ?_ ?_
   rotate_left
   ·rintro w' ⟨s0,s1,s2,s3,s4,s5⟩
    go_simp
    with_reducible rfl
   rotate_left
   ·simp only [Act.put,List.setIfInBounds_toArray,List.set_cons_zero,List.set_cons_succ]
    rfl
   refine take_ (i:=1) (N:=some 23) (v:=?_) (a':=?_) #[true,true,false,false] rfl rfl (by kernel_rfl) (fun _ _ _ h=>onlyN_no h) (Or.inl ⟨by rfl,?_⟩) hHeld ?_ ?_
   rotate_left
   ·rintro w' ⟨s0,s1,s2,s3,s4,s5⟩
    go_simp
    with_reducible rfl
   rotate_left
   ·simp only [Act.put,List.setIfInBounds_toArray,List.set_cons_zero,List.set_cons_succ]
    rfl
   refine one_ (i:=2) (N:=some 24) #[true,true,true,false] rfl rfl (by kernel_rfl) (by decide) (fun K hK=>?_)
   refine goes_ Tryz.func98 (by kernel_rfl) rfl #[.bool a2] (by rfl) rfl rfl (by (try simp only [List.map_toArray,List.map_cons,List.map_nil]);rfl) ?_
   refine (moonOf_calls a2 _).mono ?_
   rintro e w4 ⟨rfl,rfl⟩
   refine ⟨_,rfl,?_⟩
   refine hK.out _ _ ⟨(blk_cell HX0.out 0).trans rfl,(blk_cell HX0.out 1).trans rfl,(blk_cell HX0.out 2).trans rfl,(blk_cell HX0.out 3).trans rfl,(blk_cell HX0.out 4).trans rfl,(blk_cell HI0.out.full 0).trans rfl⟩ (fun hHeld=>?_)
   clear hK K
   refine norm_ (a':=?_) ?_ ?_
   rotate_left
   ·show Act.put _ (some 24) _=_
    simp only [Act.put,List.setIfInBounds_toArray,List.set_cons_zero,List.set_cons_succ]
    rfl
   refine last_ (i:=3) (N:=some 25) #[true,true,true,true] rfl rfl (by kernel_rfl) (by decide) (fun K hK=>?_)
   refine goes_ Tryz.func71 (by kernel_rfl) rfl #[.agg #[.slice A0_0 l0_0.length c0_0,.int .i64 a0_1,.int .i64 a0_2,.int .i64 a0_3,.int .i64 x.1],.iface (moonTy a2) (.agg #[])] (by rfl) rfl rfl (by (try simp only [List.map_toArray,List.map_cons,List.map_nil]);rfl) ?_
   refine (hasOf_calls k A0_0 c0_0 l0_0 a0_1 a0_2 a0_3 x.1 a2 r _ (Kd.C_below HR.out HI0.out.below) HC.out HA.out).mono ?_
   rintro e w5 ⟨rfl,hb⟩
   refine ⟨_,rfl,?_⟩
   have st:=NextI.stay HI0.out hb
   have HI1:=A0_ st.1
   have HK1:=A0_ (HK0.out.trans st.2.1)
   have HP1:=A0_ (KpD_t HP0.out st.2.2)
   have HX1:=A0_ (blk_below HX0.out hb)
   clear hb st HI0 HK0 HP0 HX0 hHeld
   refine hK.out _ _ ?_
   clear hK K
   refine norm_ (a':=?_) ?_ ?_
   rotate_left
   ·show Act.put _ (some 25) _=_
    simp only [Act.put,List.setIfInBounds_toArray,List.set_cons_zero,List.set_cons_succ]
    rfl
   refine done_ (by kernel_rfl) ?_
   refine ⟨rfl,hK1 _ _ ?_⟩
   clear hK1 K1
   cases r with
   |false=>
    gi_wp2
    have hI:=HI1.out
    refine ⟨HK1.out,HP1.out,⟨?_,hI.below,hI.size,hI.s,hI.lo,hI.hi,hI.full,hI.n,hI.e⟩⟩
    intro y hy
    rcases List.mem_append.1 hy with hy|hy
    ·exact hI.fine y hy
    ·rw [List.mem_singleton.1 hy];exact HA.out
   |true=>
    have n0:=blk_cell HI1.out.n 0
    have n1:=blk_frozen HI1.out.n 0
    have e0:=blk_cell HI1.out.e 0
    have e1:=blk_frozen HI1.out.e 0
    have x4:=(blk_cell HX1.out 4).trans rfl
    simp at n0 n1 e0 e1 x4
    gi_wp2
    have hI:=HI1.out
    have hsz0:=hB0.size
    refine ⟨HK1.out.trans ⟨by simp,fun i o hi hk _=>(heap_set2 (p:=⟨w.heap.size+1+1,0,none⟩) (q:=⟨w.heap.size+1+1+1,0,none⟩) (by show i≠w.heap.size+1+1;omega) (by show i≠w.heap.size+1+1+1;omega)).trans hk⟩,rfl,pre,x,rfl,hI.fine,HA.out,below_set (below_set hI.below (by omega)) (by omega),?_,?_⟩
    ·exact (blk_far (p:=⟨w.heap.size+1+1+1,0,none⟩) (blk_set hI.n 0 (.int .i64 x.1)) (by show w.heap.size+1+1≠w.heap.size+1+1+1;omega) (.int .i64 0)).trans rfl
    ·exact (blk_set (blk_far (p:=⟨w.heap.size+1+1,0,none⟩) hI.e (by show w.heap.size+1+1+1≠w.heap.size+1+1;omega) (.int .i64 x.1)) 0 (.int .i64 0)).trans rfl
  case done=>
   rintro D ys W hD hys hI hK
   have hnone:(daysOf (mx 1 a1) 20000).find? (fun x=>hasOf k l0_0 a0_1 a0_2 a0_3 a2 x=some true)=none:=by
    rw [← allDays_val hys,List.find?_eq_none]
    intro y hy
    obtain ⟨z,hz,rfl⟩:=List.mem_map.1 hy
    rw [hI.fine z hz]
    simp
   have hres:=HRES.out
   rw [hnone] at hres
   obtain ⟨rfl,rfl⟩:0=r1∧5=r2:=by simpa using hres
   have n0:=blk_cell hI.n 0
   have n1:=blk_frozen hI.n 0
   have e0:=blk_cell hI.e 0
   have e1:=blk_frozen hI.e 0
   simp at n0 n1 e0 e1
   gi_wp2
   have hsz0:=hB0.size
   have hK':((W.setCell ⟨w.heap.size+1+1,0,none⟩ (.int .i64 0)).setCell ⟨w.heap.size+1+1+1,0,none⟩ (.int .i64 5)).heap[D]?=some (.deferred (some [])):=(heap_set2 (p:=⟨w.heap.size+1+1,0,none⟩) (q:=⟨w.heap.size+1+1+1,0,none⟩) (by show D≠w.heap.size+1+1;omega) (by show D≠w.heap.size+1+1+1;omega)).trans hK
   have q0:=blk_cell ((World.putObj_heap_other (o:=.deferred none) (by omega:w.heap.size+2≠D)).trans (blk_far (p:=⟨w.heap.size+1+1+1,0,none⟩) (blk_set hI.n 0 (.int .i64 0)) (by show w.heap.size+1+1≠w.heap.size+1+1+1;omega) (.int .i64 5))) 0
   have q1:=blk_cell ((World.putObj_heap_other (o:=.deferred none) (by omega:w.heap.size+3≠D)).trans (blk_set (blk_far (p:=⟨w.heap.size+1+1,0,none⟩) hI.e (by show w.heap.size+1+1+1≠w.heap.size+1+1;omega) (.int .i64 0)) 0 (.int .i64 5))) 0
   simp at q0 q1
   refine ⟨by simp,.inl ⟨_,_,rfl,run_takeDeferred hK',?_⟩⟩
   refine ⟨.tuple #[.int .i64 0,.int .i64 5],?_,rfl,?_⟩
   ·simp [results,Tryz.results49,go_sem,q0,q1]
   ·exact (below_set (below_set hI.below (by omega)) (by omega)).trans (belowK_b (w:=w) (Nat.le_refl _) _ D _ _ (by omega) hK' rfl rfl)
  case stop=>
   rintro D c pre W hD hsp ⟨rfl,p,x,rfl,h1,h2,h3,h4,h5⟩ hK
   obtain ⟨t,ht⟩:=some_pre hsp
   rw [List.map_append,List.map_cons,List.map_nil,List.append_assoc,List.singleton_append] at ht
   have hres:=HRES.out
   rw [ht,find_at (p:=fun x=>decide (hasOf k l0_0 a0_1 a0_2 a0_3 a2 x=some true)) (p.map (·.1)) x.1 t (fun y hy=>by obtain ⟨z,hz,rfl⟩:=List.mem_map.1 hy;simp [h1 z hz]) (by simp [h2])] at hres
   obtain ⟨rfl,rfl⟩:x.1=r1∧0=r2:=by simpa using hres
   gi_wp2
   have hsz0:=hB0.size
   have hK':W.heap[D]?=some (.deferred (some [])):=hK
   have q0:=blk_cell ((World.putObj_heap_other (o:=.deferred none) (by omega:w.heap.size+2≠D)).trans (h4)) 0
   have q1:=blk_cell ((World.putObj_heap_other (o:=.deferred none) (by omega:w.heap.size+3≠D)).trans (h5)) 0
   simp at q0 q1
   refine ⟨by simp,.inl ⟨_,_,rfl,run_takeDeferred hK',?_⟩⟩
   refine ⟨.tuple #[.int .i64 x.1,.int .i64 0],?_,rfl,?_⟩
   ·simp [results,Tryz.results49,go_sem,q0,q1]
   ·exact h3.trans (belowK_b (w:=w) (Nat.le_refl _) _ D _ _ (by omega) hK' rfl rfl)
end Go.Proofs.YtjahbgldccjbfaaGreatDoor.PSky
end
section
namespace Go.Proofs.YtjahbgldccjbfaaGreatDoor.PSky
open Go.RowKit Go.Proofs.YtjahbgldccjbfaaGreatDoorW.PrintWords Go.Proofs.YtjahbgldccjbfaaGreatDoorW.PrintLast Go.Proofs.YtjahbgldccjbfaaGreatDoorW.PrintMore
def halfOf (full:Bool):Int:=if full=true then 10800 else 0
def firstMoon (l:List S74) (d:Int) (full:Bool):Option Int:=(daysOf (mx 1 d) 20000).find? (fun x=>isMoon l (halfOf full) x)
theorem mx_one (d:Int):1≤mx 1 d∧(d≤mx 1 d)∧(mx 1 d=1∨mx 1 d=d):=by
 unfold mx
 split <;> omega
theorem has_ev {l:List S74} {p q n:Int} (h:okSky l p q n=true) {d:Int} (hd:1≤d∧d≤20000) (full:Bool):Ev (fun k=>hasOf k l p q n full d) (isMoon l (halfOf full) d):=by
 cases full with
 |true=>exact full_ev h hd
 |false=>exact new_ev h hd
def nextOf (o:Option Int):Int × Int:=match o with
 |some x=>(x,0)
 |none=>(0,5)
theorem Next_ev (l:List S74) (p q n d:Int) (full:Bool):Ev (fun k=>sky_Next.f k l p q n d full) (if okSky l p q n=true∧okDay d=true then nextOf (firstMoon l d full) else (0,2)):=by
 unfold sky_Next.f
 refine Ev.bind (isSky_ev l p q n) ?_
 cases h1:okSky l p q n with
 |false=>
  refine Ev.neg (by simp) ?_
  rw [if_neg (by simp)]
  exact Ev.now _
 |true=>
  refine Ev.pos rfl (Ev.bind (Ev.is (isDay_eq d)) ?_)
  cases h2:okDay d with
  |false=>
   refine Ev.neg (by simp) ?_
   rw [if_neg (by simp)]
   exact Ev.now _
  |true=>
   rw [if_pos (show true=true∧true=true from ⟨rfl,rfl⟩)]
   refine Ev.pos rfl ?_
   have hm:=mx_one d
   obtain ⟨K,hK⟩:=Ev.all (fun x k=>hasOf k l p q n full x) (fun x=>isMoon l (halfOf full) x) (daysOf (mx 1 d) 20000) (fun x hx=>has_ev h1 (by
    unfold daysOf at hx
    obtain ⟨j,hj,rfl⟩:=List.mem_map.mp hx
    have:=List.mem_range.mp hj
    omega) full)
   refine ⟨K,fun k hk=>?_⟩
   have hk':=hK k hk
   show (if ∀ x∈daysOf (mx 1 d) 20000,(hasOf k l p q n full x).isSome=true then (match (daysOf (mx 1 d) 20000).find? (fun x=>hasOf k l p q n full x=some true) with|some x=>some (x,(0:Int))|none=>some (0,5)) else none)=_
   rw [if_pos (fun x hx=>by rw [hk' x hx];rfl),find_congr (q:=fun x=>isMoon l (halfOf full) x) (fun x hx=>by rw [hk' x hx];simp)]
   show (match firstMoon l d full with|some x=>some (x,(0:Int))|none=>some (0,5))=_
   cases firstMoon l d full with
   |some x=>rfl
   |none=>rfl
theorem first_least {P:Int→Bool} {x:Int}:∀ (m:Nat) (d:Int),((List.range m).map fun j:Nat=>d+(j:Nat)).find? P=some x→∀ y,d≤y→y<x→P y=false
 |0,d,h=>by cases h
 |m+1,d,h=>by
  intro y h1 h2
  have e:(List.range m).map ((fun j:Nat=>d+(j:Nat)) ∘ Nat.succ)=(List.range m).map fun j:Nat=>d+1+(j:Nat):=by
   refine List.map_congr_left fun j _=>?_
   simp only [Function.comp_apply,Nat.succ_eq_add_one]
   omega
  rw [List.range_succ_eq_map,List.map_cons,List.map_map,List.find?_cons,show d+((0:Nat):Int)=d by omega,e] at h
  cases hp:P d with
  |true=>
   rw [hp] at h
   have:d=x:=Option.some.inj h
   omega
  |false=>
   rw [hp] at h
   by_cases h3:y=d
   ·rw [h3];exact hp
   ·exact first_least m (d+1) h y (by omega) h2
theorem first_some {l:List S74} {d x:Int} {full:Bool} (h:firstMoon l d full=some x):(1≤x∧x≤20000∧d≤x)∧isMoon l (halfOf full) x=true∧∀ y,1≤y→d≤y→y<x→isMoon l (halfOf full) y=false:=by
 have hm:=mx_one d
 unfold firstMoon at h
 have h1:=List.find?_some h
 have h2:=List.mem_of_find?_eq_some h
 unfold daysOf at h2 h
 refine ⟨?_,h1,fun y y1 y2 y3=>first_least _ _ h y (by omega) y3⟩
 obtain ⟨j,hj,e⟩:=List.mem_map.mp h2
 have:=List.mem_range.mp hj
 omega
theorem first_none {l:List S74} {d:Int} {full:Bool} (h:firstMoon l d full=none):∀ y,1≤y→d≤y→y≤20000→isMoon l (halfOf full) y=false:=by
 have hm:=mx_one d
 intro y y1 y2 y3
 have:=List.find?_eq_none.mp h y (span_day (by omega) (by omega))
 simpa using this
end Go.Proofs.YtjahbgldccjbfaaGreatDoor.PSky
end
section
namespace Go.Proofs.YtjahbgldccjbfaaGreatDoor.PSky
open Go.RowKit Go.Proofs.YtjahbgldccjbfaaGreatDoorW.PrintWords Go.Proofs.YtjahbgldccjbfaaGreatDoorW.PrintLast Go.Proofs.YtjahbgldccjbfaaGreatDoorW.PrintMore
def listC (d:Int) (f:Bool) (m:S95):Bool:=decide (m.f0=d) && (m.f1 == f)
theorem listedC_ev (l:List S95) (hl:l.length≤1000000) (d:Int) (f:Bool):Ev (fun k=>tl_listed.f k l d f) (l.any (listC d f)):=by
 have key:∀ m i:Nat,i+m=l.length→Ev (fun k=>tl_listed.l0 k l d f (i:Int)) ((l.drop i).any (listC d f)):=by
  intro m
  induction m with
  |zero=>
   intro i h
   rw [show i=l.length by omega,List.drop_length]
   refine Ev.step (fun k=>by rw [tl_listed.l0]) ?_
   exact Ev.neg (by omega) (Ev.now _)
  |succ m ih=>
   intro i h
   have hi:i<l.length:=by omega
   have ih':=ih (i+1) (by omega)
   rw [List.drop_eq_getElem_cons hi,List.any_cons]
   refine Ev.step (fun k=>by rw [tl_listed.l0]) ?_
   rw [rdM_get l i hi,wrap_id (by omega)]
   generalize l[i]=y
   refine Ev.pos (by omega) (Ev.pos (by omega) ?_)
   unfold listC
   by_cases h1:y.f0=d
   ·rw [decide_eq_true h1,Bool.true_and]
    refine Ev.pos h1 ?_
    cases hb:(y.f1 == f) with
    |true=>exact Ev.pos rfl (Ev.now _)
    |false=>
     refine Ev.neg (by simp) ?_
     rw [Bool.false_or]
     exact ih'
   ·rw [decide_eq_false h1,Bool.false_and,Bool.false_or]
    exact Ev.neg h1 ih'
 exact key l.length 0 (by omega)
theorem day_moons (l:List S74) (d:Int):(daysOf d d).flatMap (moonOn l)=moonOn l d:=by
 unfold daysOf
 rw [show (d+1 - d).toNat=1 by omega]
 simp
theorem moon_listed (l:List S74) (d:Int) (full:Bool):(moonOn l d).any (listC d full)=isMoon l (if full=true then 10800 else 0) d:=by
 unfold moonOn listC
 cases h0:isMoon l 0 d <;> cases h1:isMoon l 10800 d <;> cases full <;> simp [h0,h1]
theorem span_one {d:Int} (h:1≤d∧d≤20000):okSpan d d=true:=by
 unfold okSpan
 simp only [Bool.and_eq_true,okIn_iff,decide_eq_true_eq]
 omega
theorem Moons_day {l:List S74} {p q n:Int} (h:okSky l p q n=true) {d:Int} (hd:1≤d∧d≤20000):Ev (fun k=>sky_Moons.f k l p q n d d) (moonOn l d,0):=by
 have:=Moons_ev l p q n d d
 rw [if_pos ⟨h,span_one hd⟩,day_moons] at this
 exact this
end Go.Proofs.YtjahbgldccjbfaaGreatDoor.PSky
end
section
namespace Go.Proofs.YtjahbgldccjbfaaGreatDoor.PSky
open Go.RowKit Go.Proofs.YtjahbgldccjbfaaGreatDoorW.PrintWords Go.Proofs.YtjahbgldccjbfaaGreatDoorW.PrintLast Go.Proofs.YtjahbgldccjbfaaGreatDoorW.PrintMore
attribute [local go_sem] max2_int min2_int max_two min_two max_three min_three max_four min_four
set_option linter.unusedVariables false
set_option linter.unusedSimpArgs false
mutual
def tl_SkyFirst.j0:Nat→Int→Bool→Int→Bool→List (S74)→Int→Int→Int→Option (Bool)
 |0,_,_,_,_,_,_,_,_=>none
 |k+1,x1,x2,x3,x42,x604000,x604001,x604002,x604003=>if x42=true then ((tl_known.f).bind fun t608=>(some t608)) else ((sky_Next.f k x604000 x604001 x604002 x604003 x1 x2).bind fun bt609=>((sky_Moons.f k x604000 x604001 x604002 x604003 x3 x3).bind fun bt611=>(if bt611.2=0 then (if (bt611.1.length:Int) > 2 then (tl_SkyFirst.j1 k x1 x2 x3 bt609.1 bt609.2 bt611.1 true x604000 x604001 x604002 x604003) else (if bt609.2=0 then (tl_SkyFirst.j1 k x1 x2 x3 bt609.1 bt609.2 bt611.1 false x604000 x604001 x604002 x604003) else (tl_SkyFirst.j1 k x1 x2 x3 bt609.1 bt609.2 bt611.1 (bt609.2 != 5) x604000 x604001 x604002 x604003))) else (tl_SkyFirst.j1 k x1 x2 x3 bt609.1 bt609.2 bt611.1 true x604000 x604001 x604002 x604003))))
def tl_SkyFirst.j1:Nat→Int→Bool→Int→Int→Int→List (S95)→Bool→List (S74)→Int→Int→Int→Option (Bool)
 |0,_,_,_,_,_,_,_,_,_,_,_=>none
 |k+1,x1,x2,x3,x9,x10,x11,x72,x604000,x604001,x604002,x604003=>if x72=true then (some false) else ((tl_listed.f k x11 x3 x2).bind fun t615=>(if x10=0 then ((tr_Day.f x9).bind fun t617=>(if t617=true then (if x9<1 then (tl_SkyFirst.j2 k x2 x3 x9 t615 true x604000 x604001 x604002 x604003) else (tl_SkyFirst.j2 k x2 x3 x9 t615 (decide (x9<x1)) x604000 x604001 x604002 x604003)) else (tl_SkyFirst.j2 k x2 x3 x9 t615 true x604000 x604001 x604002 x604003))) else (if t615=true then (some false) else ((tl_known.f).bind fun t616=>(some t616)))))
def tl_SkyFirst.j2:Nat→Bool→Int→Int→Bool→Bool→List (S74)→Int→Int→Int→Option (Bool)
 |0,_,_,_,_,_,_,_,_,_=>none
 |k+1,x2,x3,x9,x13,x95,x604000,x604001,x604002,x604003=>if x95=true then (some false) else ((sky_Moons.f k x604000 x604001 x604002 x604003 x9 x9).bind fun bt618=>(if bt618.2=0 then (if (bt618.1.length:Int)≤2 then ((tl_listed.f k bt618.1 x9 x2).bind fun t622=>(if t622=true then (if x13=true then (if x3 ≥ x9 then ((tl_known.f).bind fun t623=>(some t623)) else (some false)) else ((tl_known.f).bind fun t624=>(some t624))) else (some false))) else (some false)) else (some false)))
end
def tl_SkyFirst.f (k:Nat) (l0_0:List (S74)) (a0_1:Int) (a0_2:Int) (a0_3:Int) (a1:Int) (a2:Bool) (a3:Int):Option (Bool):=(tl_short.f k l0_0 a0_1 a0_2 a0_3).bind fun t604=>(if t604=true then ((tr_Sky.f k l0_0 a0_1 a0_2 a0_3).bind fun t605=>(if t605=true then ((tr_Day.f a1).bind fun t606=>(if t606=true then ((tr_Day.f a3).bind fun t607=>(if t607=true then (if a3<1 then (tl_SkyFirst.j0 k a1 a2 a3 true l0_0 a0_1 a0_2 a0_3) else (tl_SkyFirst.j0 k a1 a2 a3 (decide (a3<a1)) l0_0 a0_1 a0_2 a0_3)) else (tl_SkyFirst.j0 k a1 a2 a3 true l0_0 a0_1 a0_2 a0_3))) else (tl_SkyFirst.j0 k a1 a2 a3 true l0_0 a0_1 a0_2 a0_3))) else (tl_SkyFirst.j0 k a1 a2 a3 true l0_0 a0_1 a0_2 a0_3))) else (tl_SkyFirst.j0 k a1 a2 a3 true l0_0 a0_1 a0_2 a0_3))
set_option maxHeartbeats 8000000 in
set_option maxRecDepth 100000 in
theorem tl_SkyFirst.calls (k:Nat) (A0_0:Option Addr) (c0_0:Nat) (l0_0:List (S74)) (a0_1:Int) (a0_2:Int) (a0_3:Int) (a1:Int) (a2:Bool) (a3:Int) (r:Bool) (w:World) (hr0_0:Kd.C k74 w A0_0 l0_0.length l0_0) (hc0_0:l0_0.length≤c0_0) (h:tl_SkyFirst.f k l0_0 a0_1 a0_2 a0_3 a1 a2 a3=some r) (hLD:LD w):
  Calls Tryz.prog 10 #[.agg #[.slice A0_0 l0_0.length c0_0,.int .i64 a0_1,.int .i64 a0_2,.int .i64 a0_3],.int .i64 a1,.bool a2,.int .i64 a3] w fun e w'=>e=.returned (.bool r)∧Below w.heap.size w w':=by
 have HLD:=A0_ hLD;clear hLD
 have hu29:=Tryz.underlying29
 have HR0_0:=A0_ hr0_0;have HC0_0:=A0_ hc0_0;clear hr0_0 hc0_0
 have HB:=A0_ (Below.refl w.heap.size w)
 have H:((tl_short.f k l0_0 a0_1 a0_2 a0_3).bind fun t604=>(if t604=true then ((tr_Sky.f k l0_0 a0_1 a0_2 a0_3).bind fun t605=>(if t605=true then ((tr_Day.f a1).bind fun t606=>(if t606=true then ((tr_Day.f a3).bind fun t607=>(if t607=true then (if a3<1 then (tl_SkyFirst.j0 k a1 a2 a3 true l0_0 a0_1 a0_2 a0_3) else (tl_SkyFirst.j0 k a1 a2 a3 (decide (a3<a1)) l0_0 a0_1 a0_2 a0_3)) else (tl_SkyFirst.j0 k a1 a2 a3 true l0_0 a0_1 a0_2 a0_3))) else (tl_SkyFirst.j0 k a1 a2 a3 true l0_0 a0_1 a0_2 a0_3))) else (tl_SkyFirst.j0 k a1 a2 a3 true l0_0 a0_1 a0_2 a0_3))) else (tl_SkyFirst.j0 k a1 a2 a3 true l0_0 a0_1 a0_2 a0_3)))=some r:=h
 clear h;have HC5:=A0_ H;clear H
 go_enter Tryz.func10,Tryz.ntmps10
 go_upto_region 1 with (first|((with_reducible refine gate_dst (N:=4) rfl ?_);(try (refine gate_guard (by rfl) ?_;dsimp only));refine box_event ?hg (N:=4) ?hd (cs:=#[.slice A0_0 l0_0.length c0_0,.int .i64 a0_1,.int .i64 a0_2,.int .i64 a0_3]) (t:=29) ?hr ?_;(case hd=>rfl);(case hg=>rfl);(case hr=>first|(go_simp;done)|(go_simp;rfl));intro gb603 hg w6 hbox hb;have n0_:=A0_ (below_step y0_ hb);have n1_:=A0_ (hbox);have n2_:=A0_ ((by rw [hg];exact (below_size y0_):w.heap.size≤gb603));have n3_:=A0_ ((by rw [hg];exact (below_size y0_):w.heap.size≤gb603));clear HB;have HB:=n0_;have BK603:=n1_;have GW603:=n2_;have GE603:=n3_;clear n0_ n1_ n2_ n3_;clear hb hbox hg))
 (try simp only [Act.put,List.setIfInBounds_toArray,List.set_cons_zero,List.set_cons_succ])
 go_cut [42] (fun v42 wc=>∃ (kq:Nat) (x42_4:Bool),v42=.bool x42_4∧Aside0 (tl_SkyFirst.j0 kq a1 a2 a3 x42_4 l0_0 a0_1 a0_2 a0_3=some r)∧Aside0 (kq≤k)∧Aside0 (wc.heap[gb603]?=some (.cells #[(.slice A0_0 l0_0.length c0_0),.int .i64 a0_1,.int .i64 a0_2,.int .i64 a0_3] 29 (0,0)))∧Aside0 (Below w.heap.size w wc))
 case first=>
  have H:=HC5.out
  clear HC5;replace H:=Option.bind_eq_some_iff.mp H;obtain ⟨t604,A70,H⟩:=H
  replace H:(if t604=true then ((tr_Sky.f k l0_0 a0_1 a0_2 a0_3).bind fun t605=>(if t605=true then ((tr_Day.f a1).bind fun t606=>(if t606=true then ((tr_Day.f a3).bind fun t607=>(if t607=true then (if a3<1 then (tl_SkyFirst.j0 k a1 a2 a3 true l0_0 a0_1 a0_2 a0_3) else (tl_SkyFirst.j0 k a1 a2 a3 (decide (a3<a1)) l0_0 a0_1 a0_2 a0_3)) else (tl_SkyFirst.j0 k a1 a2 a3 true l0_0 a0_1 a0_2 a0_3))) else (tl_SkyFirst.j0 k a1 a2 a3 true l0_0 a0_1 a0_2 a0_3))) else (tl_SkyFirst.j0 k a1 a2 a3 true l0_0 a0_1 a0_2 a0_3))) else (tl_SkyFirst.j0 k a1 a2 a3 true l0_0 a0_1 a0_2 a0_3))=some r:=H
  have A7:=A0_ A70;clear A70
  by_cases c8:t604=true
  ·as_aux_lemma=>
   subst c8
   have H1:((tr_Sky.f k l0_0 a0_1 a0_2 a0_3).bind fun t605=>(if t605=true then ((tr_Day.f a1).bind fun t606=>(if t606=true then ((tr_Day.f a3).bind fun t607=>(if t607=true then (if a3<1 then (tl_SkyFirst.j0 k a1 a2 a3 true l0_0 a0_1 a0_2 a0_3) else (tl_SkyFirst.j0 k a1 a2 a3 (decide (a3<a1)) l0_0 a0_1 a0_2 a0_3)) else (tl_SkyFirst.j0 k a1 a2 a3 true l0_0 a0_1 a0_2 a0_3))) else (tl_SkyFirst.j0 k a1 a2 a3 true l0_0 a0_1 a0_2 a0_3))) else (tl_SkyFirst.j0 k a1 a2 a3 true l0_0 a0_1 a0_2 a0_3)))=some r:=by rw [if_pos rfl] at H;exact H
   clear H;have H:=H1;clear H1;replace H:=Option.bind_eq_some_iff.mp H;obtain ⟨t605,A90,H⟩:=H
   replace H:(if t605=true then ((tr_Day.f a1).bind fun t606=>(if t606=true then ((tr_Day.f a3).bind fun t607=>(if t607=true then (if a3<1 then (tl_SkyFirst.j0 k a1 a2 a3 true l0_0 a0_1 a0_2 a0_3) else (tl_SkyFirst.j0 k a1 a2 a3 (decide (a3<a1)) l0_0 a0_1 a0_2 a0_3)) else (tl_SkyFirst.j0 k a1 a2 a3 true l0_0 a0_1 a0_2 a0_3))) else (tl_SkyFirst.j0 k a1 a2 a3 true l0_0 a0_1 a0_2 a0_3))) else (tl_SkyFirst.j0 k a1 a2 a3 true l0_0 a0_1 a0_2 a0_3))=some r:=H
   have A9:=A0_ A90;clear A90
   by_cases c10:t605=true
   ·subst c10
    have H1:((tr_Day.f a1).bind fun t606=>(if t606=true then ((tr_Day.f a3).bind fun t607=>(if t607=true then (if a3<1 then (tl_SkyFirst.j0 k a1 a2 a3 true l0_0 a0_1 a0_2 a0_3) else (tl_SkyFirst.j0 k a1 a2 a3 (decide (a3<a1)) l0_0 a0_1 a0_2 a0_3)) else (tl_SkyFirst.j0 k a1 a2 a3 true l0_0 a0_1 a0_2 a0_3))) else (tl_SkyFirst.j0 k a1 a2 a3 true l0_0 a0_1 a0_2 a0_3)))=some r:=by rw [if_pos rfl] at H;exact H
    clear H;have H:=H1;clear H1;replace H:=Option.bind_eq_some_iff.mp H;obtain ⟨t606,A110,H⟩:=H
    replace H:(if t606=true then ((tr_Day.f a3).bind fun t607=>(if t607=true then (if a3<1 then (tl_SkyFirst.j0 k a1 a2 a3 true l0_0 a0_1 a0_2 a0_3) else (tl_SkyFirst.j0 k a1 a2 a3 (decide (a3<a1)) l0_0 a0_1 a0_2 a0_3)) else (tl_SkyFirst.j0 k a1 a2 a3 true l0_0 a0_1 a0_2 a0_3))) else (tl_SkyFirst.j0 k a1 a2 a3 true l0_0 a0_1 a0_2 a0_3))=some r:=H
    have A11:=A0_ A110;clear A110
    by_cases c12:t606=true
    ·subst c12
     have H1:((tr_Day.f a3).bind fun t607=>(if t607=true then (if a3<1 then (tl_SkyFirst.j0 k a1 a2 a3 true l0_0 a0_1 a0_2 a0_3) else (tl_SkyFirst.j0 k a1 a2 a3 (decide (a3<a1)) l0_0 a0_1 a0_2 a0_3)) else (tl_SkyFirst.j0 k a1 a2 a3 true l0_0 a0_1 a0_2 a0_3)))=some r:=by rw [if_pos rfl] at H;exact H
     clear H;have H:=H1;clear H1;replace H:=Option.bind_eq_some_iff.mp H;obtain ⟨t607,A130,H⟩:=H
     replace H:(if t607=true then (if a3<1 then (tl_SkyFirst.j0 k a1 a2 a3 true l0_0 a0_1 a0_2 a0_3) else (tl_SkyFirst.j0 k a1 a2 a3 (decide (a3<a1)) l0_0 a0_1 a0_2 a0_3)) else (tl_SkyFirst.j0 k a1 a2 a3 true l0_0 a0_1 a0_2 a0_3))=some r:=H
     have A13:=A0_ A130;clear A130
     by_cases c14:t607=true
     ·subst c14
      have H1:(if a3<1 then (tl_SkyFirst.j0 k a1 a2 a3 true l0_0 a0_1 a0_2 a0_3) else (tl_SkyFirst.j0 k a1 a2 a3 (decide (a3<a1)) l0_0 a0_1 a0_2 a0_3))=some r:=by rw [if_pos rfl] at H;exact H
      clear H;have H:=H1;clear H1
      by_cases c15:a3<1
      ·rw [if_pos c15] at H;have c15b0:decide (a3<1)=true:=decide_eq_true c15;clear c15
       (first|rw [c15b0]|(simp only [i64_w,i32_w];rw [c15b0])|skip)
       have H':=A0_ H
       clear H;obtain ⟨hcz16_0,hcz16_1,hcz16_2,hcz16_3,hfz16_0,hfz16_1,hfz16_2,hfz16_3⟩:=bq4_ BK603.out
       go_wp2_with (first|((with_reducible refine gate_callee (f:=17) rfl ?_);refine goesL_ (some 17) rfl rfl Tryz.func17 (by kernel_rfl) rfl #[.agg #[.slice A0_0 l0_0.length c0_0,.int .i64 a0_1,.int .i64 a0_2,.int .i64 a0_3]] rfl y1_ ?_;(with_reducible refine (tl_short.calls k _ _ l0_0 a0_1 a0_2 a0_3 true _ ?side1 ?side2 A7.out).mono ?_);(case side1=>repeat (first|exact (Kd.C_below HR0_0.out HB.out)|(with_reducible refine Kd.C_alloc ?_ _)|(with_reducible refine Kd.C_drewN ?_ _)|(with_reducible refine Kd.C_drew ?_)));(case side2=>exact HC0_0.out);rintro e w17 ⟨rfl,hb⟩;refine ⟨_,rfl,?_⟩;have n0_:=A0_ (blk_below (g:=gb603) (o:=.cells #[.slice A0_0 l0_0.length c0_0,.int .i64 a0_1,.int .i64 a0_2,.int .i64 a0_3] 29 (0,0)) (bd_ BK603.out) hb);have n1_:=A0_ (below_step (by repeat (first|(with_reducible first|exact HB.out|apply below_alloc|apply pw_below_drewN|apply below_drew1|refine below_set ?_ GE603.out)|exact HB.out)) hb);clear BK603;clear HB;have BK603:=n0_;have HB:=n1_;clear n0_ n1_;(try clear hb);(try clear hb2);(try clear hk);(try clear hi);obtain ⟨hcz18_0,hcz18_1,hcz18_2,hcz18_3,hfz18_0,hfz18_1,hfz18_2,hfz18_3⟩:=bq4_ BK603.out)|(go_at_call 14;(with_reducible refine (tr_Sky.calls k _ _ l0_0 a0_1 a0_2 a0_3 true _ ?side1 ?side2 A9.out).mono ?_);(case side1=>repeat (first|exact (Kd.C_below HR0_0.out HB.out)|(with_reducible refine Kd.C_alloc ?_ _)|(with_reducible refine Kd.C_drewN ?_ _)|(with_reducible refine Kd.C_drew ?_)));(case side2=>exact HC0_0.out);rintro e w19 ⟨rfl,hb⟩;have n0_:=A0_ (blk_below (g:=gb603) (o:=.cells #[.slice A0_0 l0_0.length c0_0,.int .i64 a0_1,.int .i64 a0_2,.int .i64 a0_3] 29 (0,0)) (bd_ BK603.out) hb);have n1_:=A0_ (below_step (by repeat (first|(with_reducible first|exact HB.out|apply below_alloc|apply pw_below_drewN|apply below_drew1|refine below_set ?_ GE603.out)|exact HB.out)) hb);clear BK603;clear HB;have BK603:=n0_;have HB:=n1_;clear n0_ n1_;(try clear hb);(try clear hb2);(try clear hk);(try clear hi))|(go_at_call 44;(with_reducible refine (tr_Day.calls a1 true _ A11.out).mono ?_);rintro e w' ⟨rfl,⟨nd,rfl⟩⟩)|(go_at_call 44;(with_reducible refine (tr_Day.calls a3 true _ A13.out).mono ?_);rintro e w' ⟨rfl,⟨nd,rfl⟩⟩))
       go_meet
       case rel=>exact ⟨_,(true),y4_,H',⟨by first|omega|exact Nat.le_refl _⟩,⟨by (with_reducible repeat (first|refine blk_drewN ?_ _|refine blk_drew ?_|refine blk_alloc ?_ _));exact BK603.out⟩,⟨(by repeat (first|(with_reducible first|exact HB.out|apply below_alloc|apply pw_below_drewN|apply below_drew1|refine below_set ?_ GE603.out)|exact HB.out))⟩⟩
      ·rw [if_neg c15] at H;have c15b0:decide (a3<1)=false:=decide_eq_false c15;clear c15
       (first|rw [c15b0]|(simp only [i64_w,i32_w];rw [c15b0])|skip)
       have H':=A0_ H
       clear H;obtain ⟨hcz20_0,hcz20_1,hcz20_2,hcz20_3,hfz20_0,hfz20_1,hfz20_2,hfz20_3⟩:=bq4_ BK603.out
       go_wp2_with (first|((with_reducible refine gate_callee (f:=17) rfl ?_);refine goesL_ (some 17) rfl rfl Tryz.func17 (by kernel_rfl) rfl #[.agg #[.slice A0_0 l0_0.length c0_0,.int .i64 a0_1,.int .i64 a0_2,.int .i64 a0_3]] rfl y1_ ?_;(with_reducible refine (tl_short.calls k _ _ l0_0 a0_1 a0_2 a0_3 true _ ?side1 ?side2 A7.out).mono ?_);(case side1=>repeat (first|exact (Kd.C_below HR0_0.out HB.out)|(with_reducible refine Kd.C_alloc ?_ _)|(with_reducible refine Kd.C_drewN ?_ _)|(with_reducible refine Kd.C_drew ?_)));(case side2=>exact HC0_0.out);rintro e w21 ⟨rfl,hb⟩;refine ⟨_,rfl,?_⟩;have n0_:=A0_ (blk_below (g:=gb603) (o:=.cells #[.slice A0_0 l0_0.length c0_0,.int .i64 a0_1,.int .i64 a0_2,.int .i64 a0_3] 29 (0,0)) (bd_ BK603.out) hb);have n1_:=A0_ (below_step (by repeat (first|(with_reducible first|exact HB.out|apply below_alloc|apply pw_below_drewN|apply below_drew1|refine below_set ?_ GE603.out)|exact HB.out)) hb);clear BK603;clear HB;have BK603:=n0_;have HB:=n1_;clear n0_ n1_;(try clear hb);(try clear hb2);(try clear hk);(try clear hi);obtain ⟨hcz22_0,hcz22_1,hcz22_2,hcz22_3,hfz22_0,hfz22_1,hfz22_2,hfz22_3⟩:=bq4_ BK603.out)|(go_at_call 14;(with_reducible refine (tr_Sky.calls k _ _ l0_0 a0_1 a0_2 a0_3 true _ ?side1 ?side2 A9.out).mono ?_);(case side1=>repeat (first|exact (Kd.C_below HR0_0.out HB.out)|(with_reducible refine Kd.C_alloc ?_ _)|(with_reducible refine Kd.C_drewN ?_ _)|(with_reducible refine Kd.C_drew ?_)));(case side2=>exact HC0_0.out);rintro e w23 ⟨rfl,hb⟩;have n0_:=A0_ (blk_below (g:=gb603) (o:=.cells #[.slice A0_0 l0_0.length c0_0,.int .i64 a0_1,.int .i64 a0_2,.int .i64 a0_3] 29 (0,0)) (bd_ BK603.out) hb);have n1_:=A0_ (below_step (by repeat (first|(with_reducible first|exact HB.out|apply below_alloc|apply pw_below_drewN|apply below_drew1|refine below_set ?_ GE603.out)|exact HB.out)) hb);clear BK603;clear HB;have BK603:=n0_;have HB:=n1_;clear n0_ n1_;(try clear hb);(try clear hb2);(try clear hk);(try clear hi))|(go_at_call 44;(with_reducible refine (tr_Day.calls a1 true _ A11.out).mono ?_);rintro e w' ⟨rfl,⟨nd,rfl⟩⟩)|(go_at_call 44;(with_reducible refine (tr_Day.calls a3 true _ A13.out).mono ?_);rintro e w' ⟨rfl,⟨nd,rfl⟩⟩))
       go_meet
       case rel=>exact ⟨_,(decide (a3<a1)),y4_,H',⟨by first|omega|exact Nat.le_refl _⟩,⟨by (with_reducible repeat (first|refine blk_drewN ?_ _|refine blk_drew ?_|refine blk_alloc ?_ _));exact BK603.out⟩,⟨(by repeat (first|(with_reducible first|exact HB.out|apply below_alloc|apply pw_below_drewN|apply below_drew1|refine below_set ?_ GE603.out)|exact HB.out))⟩⟩
     ·replace c14:=Bool.eq_false_iff.mpr c14;subst c14
      have H1:(tl_SkyFirst.j0 k a1 a2 a3 true l0_0 a0_1 a0_2 a0_3)=some r:=by rw [if_neg (show ¬ (false=true) by decide)] at H;exact H
      clear H;have H:=H1;clear H1
      have H':=A0_ H
      clear H;obtain ⟨hcz24_0,hcz24_1,hcz24_2,hcz24_3,hfz24_0,hfz24_1,hfz24_2,hfz24_3⟩:=bq4_ BK603.out
      go_wp2_with (first|((with_reducible refine gate_callee (f:=17) rfl ?_);refine goesL_ (some 17) rfl rfl Tryz.func17 (by kernel_rfl) rfl #[.agg #[.slice A0_0 l0_0.length c0_0,.int .i64 a0_1,.int .i64 a0_2,.int .i64 a0_3]] rfl y1_ ?_;(with_reducible refine (tl_short.calls k _ _ l0_0 a0_1 a0_2 a0_3 true _ ?side1 ?side2 A7.out).mono ?_);(case side1=>repeat (first|exact (Kd.C_below HR0_0.out HB.out)|(with_reducible refine Kd.C_alloc ?_ _)|(with_reducible refine Kd.C_drewN ?_ _)|(with_reducible refine Kd.C_drew ?_)));(case side2=>exact HC0_0.out);rintro e w25 ⟨rfl,hb⟩;refine ⟨_,rfl,?_⟩;have n0_:=A0_ (blk_below (g:=gb603) (o:=.cells #[.slice A0_0 l0_0.length c0_0,.int .i64 a0_1,.int .i64 a0_2,.int .i64 a0_3] 29 (0,0)) (bd_ BK603.out) hb);have n1_:=A0_ (below_step (by repeat (first|(with_reducible first|exact HB.out|apply below_alloc|apply pw_below_drewN|apply below_drew1|refine below_set ?_ GE603.out)|exact HB.out)) hb);clear BK603;clear HB;have BK603:=n0_;have HB:=n1_;clear n0_ n1_;(try clear hb);(try clear hb2);(try clear hk);(try clear hi);obtain ⟨hcz26_0,hcz26_1,hcz26_2,hcz26_3,hfz26_0,hfz26_1,hfz26_2,hfz26_3⟩:=bq4_ BK603.out)|(go_at_call 14;(with_reducible refine (tr_Sky.calls k _ _ l0_0 a0_1 a0_2 a0_3 true _ ?side1 ?side2 A9.out).mono ?_);(case side1=>repeat (first|exact (Kd.C_below HR0_0.out HB.out)|(with_reducible refine Kd.C_alloc ?_ _)|(with_reducible refine Kd.C_drewN ?_ _)|(with_reducible refine Kd.C_drew ?_)));(case side2=>exact HC0_0.out);rintro e w27 ⟨rfl,hb⟩;have n0_:=A0_ (blk_below (g:=gb603) (o:=.cells #[.slice A0_0 l0_0.length c0_0,.int .i64 a0_1,.int .i64 a0_2,.int .i64 a0_3] 29 (0,0)) (bd_ BK603.out) hb);have n1_:=A0_ (below_step (by repeat (first|(with_reducible first|exact HB.out|apply below_alloc|apply pw_below_drewN|apply below_drew1|refine below_set ?_ GE603.out)|exact HB.out)) hb);clear BK603;clear HB;have BK603:=n0_;have HB:=n1_;clear n0_ n1_;(try clear hb);(try clear hb2);(try clear hk);(try clear hi))|(go_at_call 44;(with_reducible refine (tr_Day.calls a1 true _ A11.out).mono ?_);rintro e w' ⟨rfl,⟨nd,rfl⟩⟩)|(go_at_call 44;(with_reducible refine (tr_Day.calls a3 false _ A13.out).mono ?_);rintro e w' ⟨rfl,⟨nd,rfl⟩⟩))
      go_meet
      case rel=>exact ⟨_,(true),y4_,H',⟨by first|omega|exact Nat.le_refl _⟩,⟨by (with_reducible repeat (first|refine blk_drewN ?_ _|refine blk_drew ?_|refine blk_alloc ?_ _));exact BK603.out⟩,⟨(by repeat (first|(with_reducible first|exact HB.out|apply below_alloc|apply pw_below_drewN|apply below_drew1|refine below_set ?_ GE603.out)|exact HB.out))⟩⟩
    ·replace c12:=Bool.eq_false_iff.mpr c12;subst c12
     have H1:(tl_SkyFirst.j0 k a1 a2 a3 true l0_0 a0_1 a0_2 a0_3)=some r:=by rw [if_neg (show ¬ (false=true) by decide)] at H;exact H
     clear H;have H:=H1;clear H1
     have H':=A0_ H
     clear H;obtain ⟨hcz28_0,hcz28_1,hcz28_2,hcz28_3,hfz28_0,hfz28_1,hfz28_2,hfz28_3⟩:=bq4_ BK603.out
     go_wp2_with (first|((with_reducible refine gate_callee (f:=17) rfl ?_);refine goesL_ (some 17) rfl rfl Tryz.func17 (by kernel_rfl) rfl #[.agg #[.slice A0_0 l0_0.length c0_0,.int .i64 a0_1,.int .i64 a0_2,.int .i64 a0_3]] rfl y1_ ?_;(with_reducible refine (tl_short.calls k _ _ l0_0 a0_1 a0_2 a0_3 true _ ?side1 ?side2 A7.out).mono ?_);(case side1=>repeat (first|exact (Kd.C_below HR0_0.out HB.out)|(with_reducible refine Kd.C_alloc ?_ _)|(with_reducible refine Kd.C_drewN ?_ _)|(with_reducible refine Kd.C_drew ?_)));(case side2=>exact HC0_0.out);rintro e w29 ⟨rfl,hb⟩;refine ⟨_,rfl,?_⟩;have n0_:=A0_ (blk_below (g:=gb603) (o:=.cells #[.slice A0_0 l0_0.length c0_0,.int .i64 a0_1,.int .i64 a0_2,.int .i64 a0_3] 29 (0,0)) (bd_ BK603.out) hb);have n1_:=A0_ (below_step (by repeat (first|(with_reducible first|exact HB.out|apply below_alloc|apply pw_below_drewN|apply below_drew1|refine below_set ?_ GE603.out)|exact HB.out)) hb);clear BK603;clear HB;have BK603:=n0_;have HB:=n1_;clear n0_ n1_;(try clear hb);(try clear hb2);(try clear hk);(try clear hi);obtain ⟨hcz30_0,hcz30_1,hcz30_2,hcz30_3,hfz30_0,hfz30_1,hfz30_2,hfz30_3⟩:=bq4_ BK603.out)|(go_at_call 14;(with_reducible refine (tr_Sky.calls k _ _ l0_0 a0_1 a0_2 a0_3 true _ ?side1 ?side2 A9.out).mono ?_);(case side1=>repeat (first|exact (Kd.C_below HR0_0.out HB.out)|(with_reducible refine Kd.C_alloc ?_ _)|(with_reducible refine Kd.C_drewN ?_ _)|(with_reducible refine Kd.C_drew ?_)));(case side2=>exact HC0_0.out);rintro e w31 ⟨rfl,hb⟩;have n0_:=A0_ (blk_below (g:=gb603) (o:=.cells #[.slice A0_0 l0_0.length c0_0,.int .i64 a0_1,.int .i64 a0_2,.int .i64 a0_3] 29 (0,0)) (bd_ BK603.out) hb);have n1_:=A0_ (below_step (by repeat (first|(with_reducible first|exact HB.out|apply below_alloc|apply pw_below_drewN|apply below_drew1|refine below_set ?_ GE603.out)|exact HB.out)) hb);clear BK603;clear HB;have BK603:=n0_;have HB:=n1_;clear n0_ n1_;(try clear hb);(try clear hb2);(try clear hk);(try clear hi))|(go_at_call 44;(with_reducible refine (tr_Day.calls a1 false _ A11.out).mono ?_);rintro e w' ⟨rfl,⟨nd,rfl⟩⟩))
     go_meet
     case rel=>exact ⟨_,(true),y4_,H',⟨by first|omega|exact Nat.le_refl _⟩,⟨by (with_reducible repeat (first|refine blk_drewN ?_ _|refine blk_drew ?_|refine blk_alloc ?_ _));exact BK603.out⟩,⟨(by repeat (first|(with_reducible first|exact HB.out|apply below_alloc|apply pw_below_drewN|apply below_drew1|refine below_set ?_ GE603.out)|exact HB.out))⟩⟩
   ·replace c10:=Bool.eq_false_iff.mpr c10;subst c10
    have H1:(tl_SkyFirst.j0 k a1 a2 a3 true l0_0 a0_1 a0_2 a0_3)=some r:=by rw [if_neg (show ¬ (false=true) by decide)] at H;exact H
    clear H;have H:=H1;clear H1
    have H':=A0_ H
    clear H;obtain ⟨hcz32_0,hcz32_1,hcz32_2,hcz32_3,hfz32_0,hfz32_1,hfz32_2,hfz32_3⟩:=bq4_ BK603.out
    go_wp2_with (first|((with_reducible refine gate_callee (f:=17) rfl ?_);refine goesL_ (some 17) rfl rfl Tryz.func17 (by kernel_rfl) rfl #[.agg #[.slice A0_0 l0_0.length c0_0,.int .i64 a0_1,.int .i64 a0_2,.int .i64 a0_3]] rfl y1_ ?_;(with_reducible refine (tl_short.calls k _ _ l0_0 a0_1 a0_2 a0_3 true _ ?side1 ?side2 A7.out).mono ?_);(case side1=>repeat (first|exact (Kd.C_below HR0_0.out HB.out)|(with_reducible refine Kd.C_alloc ?_ _)|(with_reducible refine Kd.C_drewN ?_ _)|(with_reducible refine Kd.C_drew ?_)));(case side2=>exact HC0_0.out);rintro e w33 ⟨rfl,hb⟩;refine ⟨_,rfl,?_⟩;have n0_:=A0_ (blk_below (g:=gb603) (o:=.cells #[.slice A0_0 l0_0.length c0_0,.int .i64 a0_1,.int .i64 a0_2,.int .i64 a0_3] 29 (0,0)) (bd_ BK603.out) hb);have n1_:=A0_ (below_step (by repeat (first|(with_reducible first|exact HB.out|apply below_alloc|apply pw_below_drewN|apply below_drew1|refine below_set ?_ GE603.out)|exact HB.out)) hb);clear BK603;clear HB;have BK603:=n0_;have HB:=n1_;clear n0_ n1_;(try clear hb);(try clear hb2);(try clear hk);(try clear hi);obtain ⟨hcz34_0,hcz34_1,hcz34_2,hcz34_3,hfz34_0,hfz34_1,hfz34_2,hfz34_3⟩:=bq4_ BK603.out)|(go_at_call 14;(with_reducible refine (tr_Sky.calls k _ _ l0_0 a0_1 a0_2 a0_3 false _ ?side1 ?side2 A9.out).mono ?_);(case side1=>repeat (first|exact (Kd.C_below HR0_0.out HB.out)|(with_reducible refine Kd.C_alloc ?_ _)|(with_reducible refine Kd.C_drewN ?_ _)|(with_reducible refine Kd.C_drew ?_)));(case side2=>exact HC0_0.out);rintro e w35 ⟨rfl,hb⟩;have n0_:=A0_ (blk_below (g:=gb603) (o:=.cells #[.slice A0_0 l0_0.length c0_0,.int .i64 a0_1,.int .i64 a0_2,.int .i64 a0_3] 29 (0,0)) (bd_ BK603.out) hb);have n1_:=A0_ (below_step (by repeat (first|(with_reducible first|exact HB.out|apply below_alloc|apply pw_below_drewN|apply below_drew1|refine below_set ?_ GE603.out)|exact HB.out)) hb);clear BK603;clear HB;have BK603:=n0_;have HB:=n1_;clear n0_ n1_;(try clear hb);(try clear hb2);(try clear hk);(try clear hi)))
    go_meet
    case rel=>exact ⟨_,(true),y4_,H',⟨by first|omega|exact Nat.le_refl _⟩,⟨by (with_reducible repeat (first|refine blk_drewN ?_ _|refine blk_drew ?_|refine blk_alloc ?_ _));exact BK603.out⟩,⟨(by repeat (first|(with_reducible first|exact HB.out|apply below_alloc|apply pw_below_drewN|apply below_drew1|refine below_set ?_ GE603.out)|exact HB.out))⟩⟩
  ·replace c8:=Bool.eq_false_iff.mpr c8;subst c8
   have H1:(tl_SkyFirst.j0 k a1 a2 a3 true l0_0 a0_1 a0_2 a0_3)=some r:=by rw [if_neg (show ¬ (false=true) by decide)] at H;exact H
   clear H;have H:=H1;clear H1
   have H':=A0_ H
   clear H;obtain ⟨hcz36_0,hcz36_1,hcz36_2,hcz36_3,hfz36_0,hfz36_1,hfz36_2,hfz36_3⟩:=bq4_ BK603.out
   go_wp2_with (first|((with_reducible refine gate_callee (f:=17) rfl ?_);refine goesL_ (some 17) rfl rfl Tryz.func17 (by kernel_rfl) rfl #[.agg #[.slice A0_0 l0_0.length c0_0,.int .i64 a0_1,.int .i64 a0_2,.int .i64 a0_3]] rfl y1_ ?_;(with_reducible refine (tl_short.calls k _ _ l0_0 a0_1 a0_2 a0_3 false _ ?side1 ?side2 A7.out).mono ?_);(case side1=>repeat (first|exact (Kd.C_below HR0_0.out HB.out)|(with_reducible refine Kd.C_alloc ?_ _)|(with_reducible refine Kd.C_drewN ?_ _)|(with_reducible refine Kd.C_drew ?_)));(case side2=>exact HC0_0.out);rintro e w37 ⟨rfl,hb⟩;refine ⟨_,rfl,?_⟩;have n0_:=A0_ (blk_below (g:=gb603) (o:=.cells #[.slice A0_0 l0_0.length c0_0,.int .i64 a0_1,.int .i64 a0_2,.int .i64 a0_3] 29 (0,0)) (bd_ BK603.out) hb);have n1_:=A0_ (below_step (by repeat (first|(with_reducible first|exact HB.out|apply below_alloc|apply pw_below_drewN|apply below_drew1|refine below_set ?_ GE603.out)|exact HB.out)) hb);clear BK603;clear HB;have BK603:=n0_;have HB:=n1_;clear n0_ n1_;(try clear hb);(try clear hb2);(try clear hk);(try clear hi)))
   go_meet
   case rel=>exact ⟨_,(true),y4_,H',⟨by first|omega|exact Nat.le_refl _⟩,⟨by (with_reducible repeat (first|refine blk_drewN ?_ _|refine blk_drew ?_|refine blk_alloc ?_ _));exact BK603.out⟩,⟨(by repeat (first|(with_reducible first|exact HB.out|apply below_alloc|apply pw_below_drewN|apply below_drew1|refine below_set ?_ GE603.out)|exact HB.out))⟩⟩
 case rest=>
  clear HC5;(try clear c1);(try clear p2);(try clear c8);(try clear c10);(try clear c12);(try clear c14);(try clear c15);(try clear c15b0);(try clear c17);(try clear hcz16_0);(try clear hcz16_1);(try clear hcz16_2);(try clear hcz16_3);(try clear hcz18_0);(try clear hcz18_1);(try clear hcz18_2);(try clear hcz18_3);(try clear hcz20_0);(try clear hcz20_1);(try clear hcz20_2);(try clear hcz20_3);(try clear hcz22_0);(try clear hcz22_1);(try clear hcz22_2);(try clear hcz22_3);(try clear hcz24_0);(try clear hcz24_1);(try clear hcz24_2);(try clear hcz24_3);(try clear hcz26_0);(try clear hcz26_1);(try clear hcz26_2);(try clear hcz26_3);(try clear hcz28_0);(try clear hcz28_1);(try clear hcz28_2);(try clear hcz28_3);(try clear hcz30_0);(try clear hcz30_1);(try clear hcz30_2);(try clear hcz30_3);(try clear hcz32_0);(try clear hcz32_1);(try clear hcz32_2);(try clear hcz32_3);(try clear hcz34_0);(try clear hcz34_1);(try clear hcz34_2);(try clear hcz34_3);(try clear hcz36_0);(try clear hcz36_1);(try clear hcz36_2);(try clear hcz36_3);(try clear hfz16_0);(try clear hfz16_1);(try clear hfz16_2);(try clear hfz16_3);(try clear hfz18_0);(try clear hfz18_1);(try clear hfz18_2);(try clear hfz18_3);(try clear hfz20_0);(try clear hfz20_1);(try clear hfz20_2);(try clear hfz20_3);(try clear hfz22_0);(try clear hfz22_1);(try clear hfz22_2);(try clear hfz22_3);(try clear hfz24_0);(try clear hfz24_1);(try clear hfz24_2);(try clear hfz24_3);(try clear hfz26_0);(try clear hfz26_1);(try clear hfz26_2);(try clear hfz26_3);(try clear hfz28_0);(try clear hfz28_1);(try clear hfz28_2);(try clear hfz28_3);(try clear hfz30_0);(try clear hfz30_1);(try clear hfz30_2);(try clear hfz30_3);(try clear hfz32_0);(try clear hfz32_1);(try clear hfz32_2);(try clear hfz32_3);(try clear hfz34_0);(try clear hfz34_1);(try clear hfz34_2);(try clear hfz34_3);(try clear hfz36_0);(try clear hfz36_1);(try clear hfz36_2);(try clear hfz36_3)
  obtain ⟨kq,x42_4,rfl,HA,HJ4,BK603,HB⟩:=hcut
  cases kq with
  |zero=>exact absurd HA.out (by simp [tl_SkyFirst.j0])
  |succ kj4=>
   have H:=HA.out
   clear HA
   simp only [tl_SkyFirst.j0] at H
   by_cases c38:x42_4=true
   ·subst c38
    have H1:((tl_known.f).bind fun t608=>(some t608))=some r:=by rw [if_pos rfl] at H;exact H
    clear H;have H:=H1;clear H1;replace H:=Option.bind_eq_some_iff.mp H;obtain ⟨t608,A390,H⟩:=H
    replace H:(some t608)=some r:=H
    have A39:=A0_ A390;clear A390;obtain rfl:=Option.some.inj H
    go_wp2_with (first|((with_reducible refine gate_callee (f:=11) rfl ?_);refine goesL_ (some 43) rfl rfl Tryz.func11 (by kernel_rfl) rfl #[] rfl y1_ ?_;(with_reducible refine (tl_known.calls  t608 _ A39.out ?side1).mono ?_);(case side1=>exact LD.below HLD.out (by repeat (first|(with_reducible first|exact HB.out|apply below_alloc|apply pw_below_drewN|apply below_drew1|refine below_set ?_ GE603.out)|exact HB.out)));rintro e w40 ⟨rfl,hb⟩;refine ⟨_,rfl,?_⟩;have n0_:=A0_ (blk_below (g:=gb603) (o:=.cells #[.slice A0_0 l0_0.length c0_0,.int .i64 a0_1,.int .i64 a0_2,.int .i64 a0_3] 29 (0,0)) (bd_ BK603.out) hb);have n1_:=A0_ (below_step (by repeat (first|(with_reducible first|exact HB.out|apply below_alloc|apply pw_below_drewN|apply below_drew1|refine below_set ?_ GE603.out)|exact HB.out)) hb);clear BK603;clear HB;have BK603:=n0_;have HB:=n1_;clear n0_ n1_;(try clear hb);(try clear hb2);(try clear hk);(try clear hi)))
    go_ret
    exact ⟨y2_,(by repeat (first|(with_reducible first|exact HB.out|apply below_alloc|apply pw_below_drewN|apply below_drew1|refine below_set ?_ GE603.out)|exact HB.out))⟩
   ·replace c38:=Bool.eq_false_iff.mpr c38;subst c38
    have H1:((sky_Next.f kj4 l0_0 a0_1 a0_2 a0_3 a1 a2).bind fun bt609=>((sky_Moons.f kj4 l0_0 a0_1 a0_2 a0_3 a3 a3).bind fun bt611=>(if bt611.2=0 then (if (bt611.1.length:Int) > 2 then (tl_SkyFirst.j1 kj4 a1 a2 a3 bt609.1 bt609.2 bt611.1 true l0_0 a0_1 a0_2 a0_3) else (if bt609.2=0 then (tl_SkyFirst.j1 kj4 a1 a2 a3 bt609.1 bt609.2 bt611.1 false l0_0 a0_1 a0_2 a0_3) else (tl_SkyFirst.j1 kj4 a1 a2 a3 bt609.1 bt609.2 bt611.1 (bt609.2 != 5) l0_0 a0_1 a0_2 a0_3))) else (tl_SkyFirst.j1 kj4 a1 a2 a3 bt609.1 bt609.2 bt611.1 true l0_0 a0_1 a0_2 a0_3))))=some r:=by rw [if_neg (show ¬ (false=true) by decide)] at H;exact H
    clear H;have H:=H1;clear H1;replace H:=Option.bind_eq_some_iff.mp H
    obtain ⟨⟨t609,t610⟩,A410,H⟩:=H
    replace H:((sky_Moons.f kj4 l0_0 a0_1 a0_2 a0_3 a3 a3).bind fun bt611=>(if bt611.2=0 then (if (bt611.1.length:Int) > 2 then (tl_SkyFirst.j1 kj4 a1 a2 a3 t609 t610 bt611.1 true l0_0 a0_1 a0_2 a0_3) else (if t610=0 then (tl_SkyFirst.j1 kj4 a1 a2 a3 t609 t610 bt611.1 false l0_0 a0_1 a0_2 a0_3) else (tl_SkyFirst.j1 kj4 a1 a2 a3 t609 t610 bt611.1 (t610 != 5) l0_0 a0_1 a0_2 a0_3))) else (tl_SkyFirst.j1 kj4 a1 a2 a3 t609 t610 bt611.1 true l0_0 a0_1 a0_2 a0_3)))=some r:=H
    have A41:=A0_ A410;clear A410;replace H:=Option.bind_eq_some_iff.mp H
    obtain ⟨⟨t611,t614⟩,A420,H⟩:=H
    replace H:(if t614=0 then (if (t611.length:Int) > 2 then (tl_SkyFirst.j1 kj4 a1 a2 a3 t609 t610 t611 true l0_0 a0_1 a0_2 a0_3) else (if t610=0 then (tl_SkyFirst.j1 kj4 a1 a2 a3 t609 t610 t611 false l0_0 a0_1 a0_2 a0_3) else (tl_SkyFirst.j1 kj4 a1 a2 a3 t609 t610 t611 (t610 != 5) l0_0 a0_1 a0_2 a0_3))) else (tl_SkyFirst.j1 kj4 a1 a2 a3 t609 t610 t611 true l0_0 a0_1 a0_2 a0_3))=some r:=H
    have A42:=A0_ A420;clear A420;have HC43:=A0_ H;clear H;obtain ⟨hcz44_0,hcz44_1,hcz44_2,hcz44_3,hfz44_0,hfz44_1,hfz44_2,hfz44_3⟩:=bq4_ BK603.out
    go_upto_region 5 with (first|((with_reducible refine gate_callee (f:=49) rfl ?_);refine goesL_ (some 48) rfl rfl Tryz.func49 (by kernel_rfl) rfl #[.agg #[.slice A0_0 l0_0.length c0_0,.int .i64 a0_1,.int .i64 a0_2,.int .i64 a0_3],.int .i64 a1,.bool a2] rfl y1_ ?_;(with_reducible refine (sky_Next.calls kj4 _ _ l0_0 a0_1 a0_2 a0_3 a1 a2 t609 t610 _ ?side1 ?side2 A41.out).mono ?_);(case side1=>repeat (first|exact (Kd.C_below HR0_0.out HB.out)|(with_reducible refine Kd.C_alloc ?_ _)|(with_reducible refine Kd.C_drewN ?_ _)|(with_reducible refine Kd.C_drew ?_)));(case side2=>exact HC0_0.out);rintro e w45 ⟨rfl,hb⟩;refine ⟨_,rfl,?_⟩;have n0_:=A0_ (blk_below (g:=gb603) (o:=.cells #[.slice A0_0 l0_0.length c0_0,.int .i64 a0_1,.int .i64 a0_2,.int .i64 a0_3] 29 (0,0)) (bd_ BK603.out) hb);have n1_:=A0_ (below_step (by repeat (first|(with_reducible first|exact HB.out|apply below_alloc|apply pw_below_drewN|apply below_drew1|refine below_set ?_ GE603.out)|exact HB.out)) hb);clear BK603;clear HB;have BK603:=n0_;have HB:=n1_;clear n0_ n1_;(try clear hb);(try clear hb2);(try clear hk);(try clear hi);obtain ⟨hcz46_0,hcz46_1,hcz46_2,hcz46_3,hfz46_0,hfz46_1,hfz46_2,hfz46_3⟩:=bq4_ BK603.out)|((with_reducible refine gate_callee (f:=30) rfl ?_);refine goesL_ (some 55) rfl rfl Tryz.func30 (by kernel_rfl) rfl #[.agg #[.slice A0_0 l0_0.length c0_0,.int .i64 a0_1,.int .i64 a0_2,.int .i64 a0_3],.int .i64 a3,.int .i64 a3] rfl y1_ ?_;(with_reducible refine (sky_Moons.calls kj4 _ _ l0_0 a0_1 a0_2 a0_3 a3 a3 t611 t614 _ ?side1 ?side2 A42.out).mono ?_);(case side1=>repeat (first|exact (Kd.C_below HR0_0.out HB.out)|(with_reducible refine Kd.C_alloc ?_ _)|(with_reducible refine Kd.C_drewN ?_ _)|(with_reducible refine Kd.C_drew ?_)));(case side2=>exact HC0_0.out);rintro e w47 ⟨v612,rfl,ho0,hb⟩;refine ⟨_,rfl,?_⟩;have n0_:=A0_ (Kd.R_lower ho0 (below_size (by repeat (first|(with_reducible first|exact HB.out|apply below_alloc|apply pw_below_drewN|apply below_drew1|refine below_set ?_ GE603.out)|exact HB.out))));have n1_:=A0_ (blk_below (g:=gb603) (o:=.cells #[.slice A0_0 l0_0.length c0_0,.int .i64 a0_1,.int .i64 a0_2,.int .i64 a0_3] 29 (0,0)) (bd_ BK603.out) hb);have n2_:=A0_ (below_step (by repeat (first|(with_reducible first|exact HB.out|apply below_alloc|apply pw_below_drewN|apply below_drew1|refine below_set ?_ GE603.out)|exact HB.out)) hb);clear BK603;clear HB;have HO613:=n0_;have BK603:=n1_;have HB:=n2_;clear n0_ n1_ n2_;(try clear hb);(try clear hb2);(try clear hk);(try clear hi);(try clear ho0)))
    (try simp only [Act.put,List.setIfInBounds_toArray,List.set_cons_zero,List.set_cons_succ])
    go_cut [72] (fun v72 wc=>∃ (kq:Nat) (x72_42:Bool),v72=.bool x72_42∧Aside0 (tl_SkyFirst.j1 kq a1 a2 a3 t609 t610 t611 x72_42 l0_0 a0_1 a0_2 a0_3=some r)∧Aside0 (kq≤kj4)∧Aside0 (Kd.R k95 95 wc w.heap.size (fun _=>True) v612 t611)∧Aside0 (wc.heap[gb603]?=some (.cells #[(.slice A0_0 l0_0.length c0_0),.int .i64 a0_1,.int .i64 a0_2,.int .i64 a0_3] 29 (0,0)))∧Aside0 (Below w.heap.size w wc))
    case first=>
     have H:=HC43.out
     clear HC43
     by_cases c48:t614=0
     ·as_aux_lemma=>
      rw [if_pos c48] at H
      have c48b0:(t614 == 0)=true:=beq_iff_eq.mpr c48
      have c48b1:(t614 != 0)=false:=bne_eq_false_iff_eq.mpr c48
      clear c48
      (first|rw [c48b0]|(simp only [i64_w,i32_w];rw [c48b0])|skip)
      by_cases c49:(t611.length:Int) > 2
      ·rw [if_pos c49] at H;have c49b0:decide (2<(t611.length:Int))=true:=decide_eq_true c49
       have c49b1:decide (2<t611.length)=true:=decide_eq_true (by omega)
       clear c49
       have H':=A0_ H
       clear H
       obtain ⟨Ao50,co50,eo50⟩:=Kd.R_slice HO613.out
       subst eo50;go_wp2
       go_meet
       case rel=>exact ⟨_,(true),y4_,H',⟨by have:=HJ4.out;first|omega|exact Nat.le_refl _⟩,⟨by (with_reducible repeat (first|apply Kd.R_alloc|apply Kd.R_drewN|apply Kd.R_drew));exact HO613.out⟩,⟨by (with_reducible repeat (first|refine blk_drewN ?_ _|refine blk_drew ?_|refine blk_alloc ?_ _));exact BK603.out⟩,⟨(by repeat (first|(with_reducible first|exact HB.out|apply below_alloc|apply pw_below_drewN|apply below_drew1|refine below_set ?_ GE603.out)|exact HB.out))⟩⟩
      ·rw [if_neg c49] at H;have c49b0:decide (2<(t611.length:Int))=false:=decide_eq_false c49
       have c49b1:decide (2<t611.length)=false:=decide_eq_false (by omega)
       clear c49
       by_cases c51:t610=0
       ·rw [if_pos c51] at H
        have c51b0:(t610 == 0)=true:=beq_iff_eq.mpr c51
        have c51b1:(t610 != 0)=false:=bne_eq_false_iff_eq.mpr c51
        clear c51
        have H':=A0_ H
        clear H
        obtain ⟨Ao52,co52,eo52⟩:=Kd.R_slice HO613.out
        subst eo52;go_wp2
        go_meet
        case rel=>exact ⟨_,(false),y4_,H',⟨by have:=HJ4.out;first|omega|exact Nat.le_refl _⟩,⟨by (with_reducible repeat (first|apply Kd.R_alloc|apply Kd.R_drewN|apply Kd.R_drew));exact HO613.out⟩,⟨by (with_reducible repeat (first|refine blk_drewN ?_ _|refine blk_drew ?_|refine blk_alloc ?_ _));exact BK603.out⟩,⟨(by repeat (first|(with_reducible first|exact HB.out|apply below_alloc|apply pw_below_drewN|apply below_drew1|refine below_set ?_ GE603.out)|exact HB.out))⟩⟩
       ·rw [if_neg c51] at H
        have c51b0:(t610 == 0)=false:=beq_eq_false_iff_ne.mpr c51
        have c51b1:(t610 != 0)=true:=bne_iff_ne.mpr c51
        have H':=A0_ H
        clear H
        obtain ⟨Ao53,co53,eo53⟩:=Kd.R_slice HO613.out
        subst eo53;go_wp2
        go_meet
        case rel=>exact ⟨_,((t610 != 5)),y4_,H',⟨by have:=HJ4.out;first|omega|exact Nat.le_refl _⟩,⟨by (with_reducible repeat (first|apply Kd.R_alloc|apply Kd.R_drewN|apply Kd.R_drew));exact HO613.out⟩,⟨by (with_reducible repeat (first|refine blk_drewN ?_ _|refine blk_drew ?_|refine blk_alloc ?_ _));exact BK603.out⟩,⟨(by repeat (first|(with_reducible first|exact HB.out|apply below_alloc|apply pw_below_drewN|apply below_drew1|refine below_set ?_ GE603.out)|exact HB.out))⟩⟩
     ·rw [if_neg c48] at H
      have c48b0:(t614 == 0)=false:=beq_eq_false_iff_ne.mpr c48
      have c48b1:(t614 != 0)=true:=bne_iff_ne.mpr c48
      (first|rw [c48b0]|(simp only [i64_w,i32_w];rw [c48b0])|skip)
      have H':=A0_ H
      clear H;go_wp2
      go_meet
      case rel=>exact ⟨_,(true),y4_,H',⟨by have:=HJ4.out;first|omega|exact Nat.le_refl _⟩,⟨by (with_reducible repeat (first|apply Kd.R_alloc|apply Kd.R_drewN|apply Kd.R_drew));exact HO613.out⟩,⟨by (with_reducible repeat (first|refine blk_drewN ?_ _|refine blk_drew ?_|refine blk_alloc ?_ _));exact BK603.out⟩,⟨(by repeat (first|(with_reducible first|exact HB.out|apply below_alloc|apply pw_below_drewN|apply below_drew1|refine below_set ?_ GE603.out)|exact HB.out))⟩⟩
    case rest=>
     clear HC43;(try clear c1);(try clear p2);(try clear c3);(try clear c4);(try clear c5);(try clear c8);(try clear c10);(try clear c11);(try clear c12);(try clear c14);(try clear c15);(try clear c15b0);(try clear c17);(try clear c30);(try clear c38);(try clear c48);(try clear c48b0);(try clear c48b1);(try clear c49);(try clear c49b0);(try clear c49b1);(try clear c51);(try clear c51b0);(try clear c51b1);(try clear hcz16_0);(try clear hcz16_1);(try clear hcz16_2);(try clear hcz16_3);(try clear hcz18_0);(try clear hcz18_1);(try clear hcz18_2);(try clear hcz18_3);(try clear hcz20_0);(try clear hcz20_1);(try clear hcz20_2);(try clear hcz20_3);(try clear hcz22_0);(try clear hcz22_1);(try clear hcz22_2);(try clear hcz22_3);(try clear hcz24_0);(try clear hcz24_1);(try clear hcz24_2);(try clear hcz24_3);(try clear hcz26_0);(try clear hcz26_1);(try clear hcz26_2);(try clear hcz26_3);(try clear hcz28_0);(try clear hcz28_1);(try clear hcz28_2);(try clear hcz28_3);(try clear hcz30_0);(try clear hcz30_1);(try clear hcz30_2);(try clear hcz30_3);(try clear hcz32_0);(try clear hcz32_1);(try clear hcz32_2);(try clear hcz32_3);(try clear hcz34_0);(try clear hcz34_1);(try clear hcz34_2);(try clear hcz34_3);(try clear hcz36_0);(try clear hcz36_1);(try clear hcz36_2);(try clear hcz36_3);(try clear hcz44_0);(try clear hcz44_1);(try clear hcz44_2);(try clear hcz44_3);(try clear hcz46_0);(try clear hcz46_1);(try clear hcz46_2);(try clear hcz46_3);(try clear hfz16_0);(try clear hfz16_1);(try clear hfz16_2);(try clear hfz16_3);(try clear hfz18_0);(try clear hfz18_1);(try clear hfz18_2);(try clear hfz18_3);(try clear hfz20_0);(try clear hfz20_1);(try clear hfz20_2);(try clear hfz20_3);(try clear hfz22_0);(try clear hfz22_1);(try clear hfz22_2);(try clear hfz22_3);(try clear hfz24_0);(try clear hfz24_1);(try clear hfz24_2);(try clear hfz24_3);(try clear hfz26_0);(try clear hfz26_1);(try clear hfz26_2);(try clear hfz26_3);(try clear hfz28_0);(try clear hfz28_1);(try clear hfz28_2);(try clear hfz28_3);(try clear hfz30_0);(try clear hfz30_1);(try clear hfz30_2);(try clear hfz30_3);(try clear hfz32_0);(try clear hfz32_1);(try clear hfz32_2);(try clear hfz32_3);(try clear hfz34_0);(try clear hfz34_1);(try clear hfz34_2);(try clear hfz34_3);(try clear hfz36_0);(try clear hfz36_1);(try clear hfz36_2);(try clear hfz36_3);(try clear hfz44_0);(try clear hfz44_1);(try clear hfz44_2);(try clear hfz44_3);(try clear hfz46_0);(try clear hfz46_1);(try clear hfz46_2);(try clear hfz46_3);(try clear p2)
     obtain ⟨kq,x72_42,rfl,HA,HJ42,HO_11,BK603,HB⟩:=hcut
     cases kq with
     |zero=>exact absurd HA.out (by simp [tl_SkyFirst.j1])
     |succ kj42=>
      have H:=HA.out
      clear HA
      simp only [tl_SkyFirst.j1] at H
      by_cases c54:x72_42=true
      ·subst c54
       have H1:(some false)=some r:=by rw [if_pos rfl] at H;exact H
       clear H;have H:=H1;clear H1;obtain rfl:=Option.some.inj H;go_wp2;go_ret
       exact ⟨y2_,(by repeat (first|(with_reducible first|exact HB.out|apply below_alloc|apply pw_below_drewN|apply below_drew1|refine below_set ?_ GE603.out)|exact HB.out))⟩
      ·replace c54:=Bool.eq_false_iff.mpr c54;subst c54
       have H1:((tl_listed.f kj42 t611 a3 a2).bind fun t615=>(if t610=0 then ((tr_Day.f t609).bind fun t617=>(if t617=true then (if t609<1 then (tl_SkyFirst.j2 kj42 a2 a3 t609 t615 true l0_0 a0_1 a0_2 a0_3) else (tl_SkyFirst.j2 kj42 a2 a3 t609 t615 (decide (t609<a1)) l0_0 a0_1 a0_2 a0_3)) else (tl_SkyFirst.j2 kj42 a2 a3 t609 t615 true l0_0 a0_1 a0_2 a0_3))) else (if t615=true then (some false) else ((tl_known.f).bind fun t616=>(some t616)))))=some r:=by rw [if_neg (show ¬ (false=true) by decide)] at H;exact H
       clear H;have H:=H1;clear H1;replace H:=Option.bind_eq_some_iff.mp H;obtain ⟨t615,A550,H⟩:=H
       replace H:(if t610=0 then ((tr_Day.f t609).bind fun t617=>(if t617=true then (if t609<1 then (tl_SkyFirst.j2 kj42 a2 a3 t609 t615 true l0_0 a0_1 a0_2 a0_3) else (tl_SkyFirst.j2 kj42 a2 a3 t609 t615 (decide (t609<a1)) l0_0 a0_1 a0_2 a0_3)) else (tl_SkyFirst.j2 kj42 a2 a3 t609 t615 true l0_0 a0_1 a0_2 a0_3))) else (if t615=true then (some false) else ((tl_known.f).bind fun t616=>(some t616))))=some r:=H
       have A55:=A0_ A550;clear A550
       by_cases c56:t610=0
       ·rw [if_pos c56] at H
        have c56b0:(t610 == 0)=true:=beq_iff_eq.mpr c56
        have c56b1:(t610 != 0)=false:=bne_eq_false_iff_eq.mpr c56
        clear c56;have HC57:=A0_ H;clear H
        obtain ⟨Ao58,co58,eo58⟩:=Kd.R_slice HO_11.out
        subst eo58
        go_upto_region 10 with (first|((with_reducible refine gate_callee (f:=31) rfl ?_);refine goesL_ (some 76) rfl rfl Tryz.func31 (by kernel_rfl) rfl #[.slice Ao58 t611.length co58,.int .i64 a3,.bool a2] rfl y1_ ?_;(with_reducible refine (tl_listed.calls kj42 _ _ t611 a3 a2 t615 _ ?side1 ?side2 A55.out).mono ?_);(case side1=>repeat (first|exact (Kd.R_reads' HO_11.out).2.2|(with_reducible refine Kd.C_alloc ?_ _)|(with_reducible refine Kd.C_drewN ?_ _)|(with_reducible refine Kd.C_drew ?_)));(case side2=>exact (Kd.R_reads' HO_11.out).2.1);rintro e w' ⟨rfl,⟨nd,rfl⟩⟩;refine ⟨_,rfl,?_⟩))
        (try simp only [Act.put,List.setIfInBounds_toArray,List.set_cons_zero,List.set_cons_succ])
        go_cut [95] (fun v95 wc=>∃ (kq:Nat) (x95_56:Bool),v95=.bool x95_56∧Aside0 (tl_SkyFirst.j2 kq a2 a3 t609 t615 x95_56 l0_0 a0_1 a0_2 a0_3=some r)∧Aside0 (kq≤kj42)∧Aside0 (wc.heap[gb603]?=some (.cells #[(.slice A0_0 l0_0.length c0_0),.int .i64 a0_1,.int .i64 a0_2,.int .i64 a0_3] 29 (0,0)))∧Aside0 (Below w.heap.size w wc))
        case first=>
         have H:=HC57.out
         clear HC57;replace H:=Option.bind_eq_some_iff.mp H;obtain ⟨t617,A590,H⟩:=H
         replace H:(if t617=true then (if t609<1 then (tl_SkyFirst.j2 kj42 a2 a3 t609 t615 true l0_0 a0_1 a0_2 a0_3) else (tl_SkyFirst.j2 kj42 a2 a3 t609 t615 (decide (t609<a1)) l0_0 a0_1 a0_2 a0_3)) else (tl_SkyFirst.j2 kj42 a2 a3 t609 t615 true l0_0 a0_1 a0_2 a0_3))=some r:=H
         have A59:=A0_ A590;clear A590
         by_cases c60:t617=true
         ·subst c60
          have H1:(if t609<1 then (tl_SkyFirst.j2 kj42 a2 a3 t609 t615 true l0_0 a0_1 a0_2 a0_3) else (tl_SkyFirst.j2 kj42 a2 a3 t609 t615 (decide (t609<a1)) l0_0 a0_1 a0_2 a0_3))=some r:=by rw [if_pos rfl] at H;exact H
          clear H;have H:=H1;clear H1
          by_cases c61:t609<1
          ·rw [if_pos c61] at H;have c61b0:decide (t609<1)=true:=decide_eq_true c61;clear c61
           (first|rw [c61b0]|(simp only [i64_w,i32_w];rw [c61b0])|skip)
           have H':=A0_ H
           clear H
           go_wp2_with (first|((with_reducible refine gate_callee (f:=44) rfl ?_);refine goesL_ (some 85) rfl rfl Tryz.func44 (by kernel_rfl) rfl #[.int .i64 t609] rfl y1_ ?_;(with_reducible refine (tr_Day.calls t609 true _ A59.out).mono ?_);rintro e w' ⟨rfl,⟨nd,rfl⟩⟩;refine ⟨_,rfl,?_⟩))
           go_meet
           case rel=>exact ⟨_,(true),y4_,H',⟨by have:=HJ4.out;have:=HJ42.out;first|omega|exact Nat.le_refl _⟩,⟨by (with_reducible repeat (first|refine blk_drewN ?_ _|refine blk_drew ?_|refine blk_alloc ?_ _));exact BK603.out⟩,⟨(by repeat (first|(with_reducible first|exact HB.out|apply below_alloc|apply pw_below_drewN|apply below_drew1|refine below_set ?_ GE603.out)|exact HB.out))⟩⟩
          ·rw [if_neg c61] at H;have c61b0:decide (t609<1)=false:=decide_eq_false c61;clear c61
           (first|rw [c61b0]|(simp only [i64_w,i32_w];rw [c61b0])|skip)
           have H':=A0_ H
           clear H
           go_wp2_with (first|((with_reducible refine gate_callee (f:=44) rfl ?_);refine goesL_ (some 85) rfl rfl Tryz.func44 (by kernel_rfl) rfl #[.int .i64 t609] rfl y1_ ?_;(with_reducible refine (tr_Day.calls t609 true _ A59.out).mono ?_);rintro e w' ⟨rfl,⟨nd,rfl⟩⟩;refine ⟨_,rfl,?_⟩))
           go_meet
           case rel=>exact ⟨_,(decide (t609<a1)),y4_,H',⟨by have:=HJ4.out;have:=HJ42.out;first|omega|exact Nat.le_refl _⟩,⟨by (with_reducible repeat (first|refine blk_drewN ?_ _|refine blk_drew ?_|refine blk_alloc ?_ _));exact BK603.out⟩,⟨(by repeat (first|(with_reducible first|exact HB.out|apply below_alloc|apply pw_below_drewN|apply below_drew1|refine below_set ?_ GE603.out)|exact HB.out))⟩⟩
         ·replace c60:=Bool.eq_false_iff.mpr c60;subst c60
          have H1:(tl_SkyFirst.j2 kj42 a2 a3 t609 t615 true l0_0 a0_1 a0_2 a0_3)=some r:=by rw [if_neg (show ¬ (false=true) by decide)] at H;exact H
          clear H;have H:=H1;clear H1
          have H':=A0_ H
          clear H
          go_wp2_with (first|((with_reducible refine gate_callee (f:=44) rfl ?_);refine goesL_ (some 85) rfl rfl Tryz.func44 (by kernel_rfl) rfl #[.int .i64 t609] rfl y1_ ?_;(with_reducible refine (tr_Day.calls t609 false _ A59.out).mono ?_);rintro e w' ⟨rfl,⟨nd,rfl⟩⟩;refine ⟨_,rfl,?_⟩))
          go_meet
          case rel=>exact ⟨_,(true),y4_,H',⟨by have:=HJ4.out;have:=HJ42.out;first|omega|exact Nat.le_refl _⟩,⟨by (with_reducible repeat (first|refine blk_drewN ?_ _|refine blk_drew ?_|refine blk_alloc ?_ _));exact BK603.out⟩,⟨(by repeat (first|(with_reducible first|exact HB.out|apply below_alloc|apply pw_below_drewN|apply below_drew1|refine below_set ?_ GE603.out)|exact HB.out))⟩⟩
        case rest=>
         clear HC57;(try clear c1);(try clear p2);(try clear c3);(try clear c4);(try clear c5);(try clear c6);(try clear c8);(try clear c10);(try clear c11);(try clear c12);(try clear c14);(try clear c15);(try clear c15b0);(try clear c17);(try clear c30);(try clear c31);(try clear c38);(try clear c44);(try clear c48);(try clear c48b0);(try clear c48b1);(try clear c49);(try clear c49b0);(try clear c49b1);(try clear c51);(try clear c51b0);(try clear c51b1);(try clear c54);(try clear c56);(try clear c56b0);(try clear c56b1);(try clear c60);(try clear c61);(try clear c61b0);(try clear hcz16_0);(try clear hcz16_1);(try clear hcz16_2);(try clear hcz16_3);(try clear hcz18_0);(try clear hcz18_1);(try clear hcz18_2);(try clear hcz18_3);(try clear hcz20_0);(try clear hcz20_1);(try clear hcz20_2);(try clear hcz20_3);(try clear hcz22_0);(try clear hcz22_1);(try clear hcz22_2);(try clear hcz22_3);(try clear hcz24_0);(try clear hcz24_1);(try clear hcz24_2);(try clear hcz24_3);(try clear hcz26_0);(try clear hcz26_1);(try clear hcz26_2);(try clear hcz26_3);(try clear hcz28_0);(try clear hcz28_1);(try clear hcz28_2);(try clear hcz28_3);(try clear hcz30_0);(try clear hcz30_1);(try clear hcz30_2);(try clear hcz30_3);(try clear hcz32_0);(try clear hcz32_1);(try clear hcz32_2);(try clear hcz32_3);(try clear hcz34_0);(try clear hcz34_1);(try clear hcz34_2);(try clear hcz34_3);(try clear hcz36_0);(try clear hcz36_1);(try clear hcz36_2);(try clear hcz36_3);(try clear hcz44_0);(try clear hcz44_1);(try clear hcz44_2);(try clear hcz44_3);(try clear hcz46_0);(try clear hcz46_1);(try clear hcz46_2);(try clear hcz46_3);(try clear hfz16_0);(try clear hfz16_1);(try clear hfz16_2);(try clear hfz16_3);(try clear hfz18_0);(try clear hfz18_1);(try clear hfz18_2);(try clear hfz18_3);(try clear hfz20_0);(try clear hfz20_1);(try clear hfz20_2);(try clear hfz20_3);(try clear hfz22_0);(try clear hfz22_1);(try clear hfz22_2);(try clear hfz22_3);(try clear hfz24_0);(try clear hfz24_1);(try clear hfz24_2);(try clear hfz24_3);(try clear hfz26_0);(try clear hfz26_1);(try clear hfz26_2);(try clear hfz26_3);(try clear hfz28_0);(try clear hfz28_1);(try clear hfz28_2);(try clear hfz28_3);(try clear hfz30_0);(try clear hfz30_1);(try clear hfz30_2);(try clear hfz30_3);(try clear hfz32_0);(try clear hfz32_1);(try clear hfz32_2);(try clear hfz32_3);(try clear hfz34_0);(try clear hfz34_1);(try clear hfz34_2);(try clear hfz34_3);(try clear hfz36_0);(try clear hfz36_1);(try clear hfz36_2);(try clear hfz36_3);(try clear hfz44_0);(try clear hfz44_1);(try clear hfz44_2);(try clear hfz44_3);(try clear hfz46_0);(try clear hfz46_1);(try clear hfz46_2);(try clear hfz46_3);(try clear p2)
         obtain ⟨kq,x95_56,rfl,HA,HJ56,BK603,HB⟩:=hcut
         cases kq with
         |zero=>exact absurd HA.out (by simp [tl_SkyFirst.j2])
         |succ kj56=>
          have H:=HA.out
          clear HA
          simp only [tl_SkyFirst.j2] at H
          by_cases c62:x95_56=true
          ·subst c62
           have H1:(some false)=some r:=by rw [if_pos rfl] at H;exact H
           clear H;have H:=H1;clear H1;obtain rfl:=Option.some.inj H;go_wp2;go_ret
           exact ⟨y2_,(by repeat (first|(with_reducible first|exact HB.out|apply below_alloc|apply pw_below_drewN|apply below_drew1|refine below_set ?_ GE603.out)|exact HB.out))⟩
          ·as_aux_lemma=>
           replace c62:=Bool.eq_false_iff.mpr c62;subst c62
           have H1:((sky_Moons.f kj56 l0_0 a0_1 a0_2 a0_3 t609 t609).bind fun bt618=>(if bt618.2=0 then (if (bt618.1.length:Int)≤2 then ((tl_listed.f kj56 bt618.1 t609 a2).bind fun t622=>(if t622=true then (if t615=true then (if a3 ≥ t609 then ((tl_known.f).bind fun t623=>(some t623)) else (some false)) else ((tl_known.f).bind fun t624=>(some t624))) else (some false))) else (some false)) else (some false)))=some r:=by rw [if_neg (show ¬ (false=true) by decide)] at H;exact H
           clear H;have H:=H1;clear H1;replace H:=Option.bind_eq_some_iff.mp H
           obtain ⟨⟨t618,t621⟩,A630,H⟩:=H
           replace H:(if t621=0 then (if (t618.length:Int)≤2 then ((tl_listed.f kj56 t618 t609 a2).bind fun t622=>(if t622=true then (if t615=true then (if a3 ≥ t609 then ((tl_known.f).bind fun t623=>(some t623)) else (some false)) else ((tl_known.f).bind fun t624=>(some t624))) else (some false))) else (some false)) else (some false))=some r:=H
           have A63:=A0_ A630;clear A630
           by_cases c64:t621=0
           ·rw [if_pos c64] at H
            have c64b0:(t621 == 0)=true:=beq_iff_eq.mpr c64
            have c64b1:(t621 != 0)=false:=bne_eq_false_iff_eq.mpr c64
            clear c64
            by_cases c65:(t618.length:Int)≤2
            ·rw [if_pos c65] at H;have c65b0:decide ((t618.length:Int)≤2)=true:=decide_eq_true c65
             have c65b1:decide (t618.length≤2)=true:=decide_eq_true (by omega)
             clear c65;replace H:=Option.bind_eq_some_iff.mp H;obtain ⟨t622,A660,H⟩:=H
             replace H:(if t622=true then (if t615=true then (if a3 ≥ t609 then ((tl_known.f).bind fun t623=>(some t623)) else (some false)) else ((tl_known.f).bind fun t624=>(some t624))) else (some false))=some r:=H
             have A66:=A0_ A660;clear A660
             by_cases c67:t622=true
             ·subst c67
              have H1:(if t615=true then (if a3 ≥ t609 then ((tl_known.f).bind fun t623=>(some t623)) else (some false)) else ((tl_known.f).bind fun t624=>(some t624)))=some r:=by rw [if_pos rfl] at H;exact H
              clear H;have H:=H1;clear H1
              by_cases c68:t615=true
              ·subst c68
               have H1:(if a3 ≥ t609 then ((tl_known.f).bind fun t623=>(some t623)) else (some false))=some r:=by rw [if_pos rfl] at H;exact H
               clear H;have H:=H1;clear H1
               by_cases c69:a3 ≥ t609
               ·rw [if_pos c69] at H;have c69b0:decide (t609≤a3)=true:=decide_eq_true c69;clear c69;replace H:=Option.bind_eq_some_iff.mp H;obtain ⟨t623,A700,H⟩:=H
                replace H:(some t623)=some r:=H
                have A70:=A0_ A700;clear A700;obtain rfl:=Option.some.inj H;obtain ⟨hcz71_0,hcz71_1,hcz71_2,hcz71_3,hfz71_0,hfz71_1,hfz71_2,hfz71_3⟩:=bq4_ BK603.out
                go_wp2_with (first|((with_reducible refine gate_callee (f:=30) rfl ?_);refine goesL_ (some 100) rfl rfl Tryz.func30 (by kernel_rfl) rfl #[.agg #[.slice A0_0 l0_0.length c0_0,.int .i64 a0_1,.int .i64 a0_2,.int .i64 a0_3],.int .i64 t609,.int .i64 t609] rfl y1_ ?_;(with_reducible refine (sky_Moons.calls kj56 _ _ l0_0 a0_1 a0_2 a0_3 t609 t609 t618 t621 _ ?side1 ?side2 A63.out).mono ?_);(case side1=>repeat (first|exact (Kd.C_below HR0_0.out HB.out)|(with_reducible refine Kd.C_alloc ?_ _)|(with_reducible refine Kd.C_drewN ?_ _)|(with_reducible refine Kd.C_drew ?_)));(case side2=>exact HC0_0.out);rintro e w72 ⟨v619,rfl,ho0,hb⟩;refine ⟨_,rfl,?_⟩;have n0_:=A0_ (Kd.R_lower ho0 (below_size (by repeat (first|(with_reducible first|exact HB.out|apply below_alloc|apply pw_below_drewN|apply below_drew1|refine below_set ?_ GE603.out)|exact HB.out))));have n1_:=A0_ (blk_below (g:=gb603) (o:=.cells #[.slice A0_0 l0_0.length c0_0,.int .i64 a0_1,.int .i64 a0_2,.int .i64 a0_3] 29 (0,0)) (bd_ BK603.out) hb);have n2_:=A0_ (below_step (by repeat (first|(with_reducible first|exact HB.out|apply below_alloc|apply pw_below_drewN|apply below_drew1|refine below_set ?_ GE603.out)|exact HB.out)) hb);clear BK603;clear HB;have HO620:=n0_;have BK603:=n1_;have HB:=n2_;clear n0_ n1_ n2_;(try clear hb);(try clear hb2);(try clear hk);(try clear hi);(try clear ho0);obtain ⟨Ao73,co73,eo73⟩:=Kd.R_slice HO620.out;subst eo73)|(go_at_call 31;(with_reducible refine (tl_listed.calls kj56 _ _ t618 t609 a2 true _ ?side1 ?side2 A66.out).mono ?_);(case side1=>repeat (first|exact (Kd.R_reads' HO620.out).2.2|(with_reducible refine Kd.C_alloc ?_ _)|(with_reducible refine Kd.C_drewN ?_ _)|(with_reducible refine Kd.C_drew ?_)));(case side2=>exact (Kd.R_reads' HO620.out).2.1);rintro e w' ⟨rfl,⟨nd,rfl⟩⟩)|(go_at_call 11;(with_reducible refine (tl_known.calls  t623 _ A70.out ?side1).mono ?_);(case side1=>exact LD.below HLD.out (by repeat (first|(with_reducible first|exact HB.out|apply below_alloc|apply pw_below_drewN|apply below_drew1|refine below_set ?_ GE603.out)|exact HB.out)));rintro e w74 ⟨rfl,hb⟩;have n0_:=A0_ (Kd.R_below (rd_ HO620.out) hb);have n1_:=A0_ (blk_below (g:=gb603) (o:=.cells #[.slice A0_0 l0_0.length c0_0,.int .i64 a0_1,.int .i64 a0_2,.int .i64 a0_3] 29 (0,0)) (bd_ BK603.out) hb);have n2_:=A0_ (below_step (by repeat (first|(with_reducible first|exact HB.out|apply below_alloc|apply pw_below_drewN|apply below_drew1|refine below_set ?_ GE603.out)|exact HB.out)) hb);clear HO620;clear BK603;clear HB;have HO620:=n0_;have BK603:=n1_;have HB:=n2_;clear n0_ n1_ n2_;(try clear hb);(try clear hb2);(try clear hk);(try clear hi)))
                go_ret
                exact ⟨y2_,(by repeat (first|(with_reducible first|exact HB.out|apply below_alloc|apply pw_below_drewN|apply below_drew1|refine below_set ?_ GE603.out)|exact HB.out))⟩
               ·rw [if_neg c69] at H;have c69b0:decide (t609≤a3)=false:=decide_eq_false c69;clear c69;obtain rfl:=Option.some.inj H;obtain ⟨hcz75_0,hcz75_1,hcz75_2,hcz75_3,hfz75_0,hfz75_1,hfz75_2,hfz75_3⟩:=bq4_ BK603.out
                go_wp2_with (first|((with_reducible refine gate_callee (f:=30) rfl ?_);refine goesL_ (some 100) rfl rfl Tryz.func30 (by kernel_rfl) rfl #[.agg #[.slice A0_0 l0_0.length c0_0,.int .i64 a0_1,.int .i64 a0_2,.int .i64 a0_3],.int .i64 t609,.int .i64 t609] rfl y1_ ?_;(with_reducible refine (sky_Moons.calls kj56 _ _ l0_0 a0_1 a0_2 a0_3 t609 t609 t618 t621 _ ?side1 ?side2 A63.out).mono ?_);(case side1=>repeat (first|exact (Kd.C_below HR0_0.out HB.out)|(with_reducible refine Kd.C_alloc ?_ _)|(with_reducible refine Kd.C_drewN ?_ _)|(with_reducible refine Kd.C_drew ?_)));(case side2=>exact HC0_0.out);rintro e w76 ⟨v619,rfl,ho0,hb⟩;refine ⟨_,rfl,?_⟩;have n0_:=A0_ (Kd.R_lower ho0 (below_size (by repeat (first|(with_reducible first|exact HB.out|apply below_alloc|apply pw_below_drewN|apply below_drew1|refine below_set ?_ GE603.out)|exact HB.out))));have n1_:=A0_ (blk_below (g:=gb603) (o:=.cells #[.slice A0_0 l0_0.length c0_0,.int .i64 a0_1,.int .i64 a0_2,.int .i64 a0_3] 29 (0,0)) (bd_ BK603.out) hb);have n2_:=A0_ (below_step (by repeat (first|(with_reducible first|exact HB.out|apply below_alloc|apply pw_below_drewN|apply below_drew1|refine below_set ?_ GE603.out)|exact HB.out)) hb);clear BK603;clear HB;have HO620:=n0_;have BK603:=n1_;have HB:=n2_;clear n0_ n1_ n2_;(try clear hb);(try clear hb2);(try clear hk);(try clear hi);(try clear ho0);obtain ⟨Ao77,co77,eo77⟩:=Kd.R_slice HO620.out;subst eo77)|(go_at_call 31;(with_reducible refine (tl_listed.calls kj56 _ _ t618 t609 a2 true _ ?side1 ?side2 A66.out).mono ?_);(case side1=>repeat (first|exact (Kd.R_reads' HO620.out).2.2|(with_reducible refine Kd.C_alloc ?_ _)|(with_reducible refine Kd.C_drewN ?_ _)|(with_reducible refine Kd.C_drew ?_)));(case side2=>exact (Kd.R_reads' HO620.out).2.1);rintro e w' ⟨rfl,⟨nd,rfl⟩⟩))
                go_ret
                exact ⟨y2_,(by repeat (first|(with_reducible first|exact HB.out|apply below_alloc|apply pw_below_drewN|apply below_drew1|refine below_set ?_ GE603.out)|exact HB.out))⟩
              ·replace c68:=Bool.eq_false_iff.mpr c68;subst c68
               have H1:((tl_known.f).bind fun t624=>(some t624))=some r:=by rw [if_neg (show ¬ (false=true) by decide)] at H;exact H
               clear H;have H:=H1;clear H1;replace H:=Option.bind_eq_some_iff.mp H;obtain ⟨t624,A780,H⟩:=H
               replace H:(some t624)=some r:=H
               have A78:=A0_ A780;clear A780;obtain rfl:=Option.some.inj H;obtain ⟨hcz79_0,hcz79_1,hcz79_2,hcz79_3,hfz79_0,hfz79_1,hfz79_2,hfz79_3⟩:=bq4_ BK603.out
               go_wp2_with (first|((with_reducible refine gate_callee (f:=30) rfl ?_);refine goesL_ (some 100) rfl rfl Tryz.func30 (by kernel_rfl) rfl #[.agg #[.slice A0_0 l0_0.length c0_0,.int .i64 a0_1,.int .i64 a0_2,.int .i64 a0_3],.int .i64 t609,.int .i64 t609] rfl y1_ ?_;(with_reducible refine (sky_Moons.calls kj56 _ _ l0_0 a0_1 a0_2 a0_3 t609 t609 t618 t621 _ ?side1 ?side2 A63.out).mono ?_);(case side1=>repeat (first|exact (Kd.C_below HR0_0.out HB.out)|(with_reducible refine Kd.C_alloc ?_ _)|(with_reducible refine Kd.C_drewN ?_ _)|(with_reducible refine Kd.C_drew ?_)));(case side2=>exact HC0_0.out);rintro e w80 ⟨v619,rfl,ho0,hb⟩;refine ⟨_,rfl,?_⟩;have n0_:=A0_ (Kd.R_lower ho0 (below_size (by repeat (first|(with_reducible first|exact HB.out|apply below_alloc|apply pw_below_drewN|apply below_drew1|refine below_set ?_ GE603.out)|exact HB.out))));have n1_:=A0_ (blk_below (g:=gb603) (o:=.cells #[.slice A0_0 l0_0.length c0_0,.int .i64 a0_1,.int .i64 a0_2,.int .i64 a0_3] 29 (0,0)) (bd_ BK603.out) hb);have n2_:=A0_ (below_step (by repeat (first|(with_reducible first|exact HB.out|apply below_alloc|apply pw_below_drewN|apply below_drew1|refine below_set ?_ GE603.out)|exact HB.out)) hb);clear BK603;clear HB;have HO620:=n0_;have BK603:=n1_;have HB:=n2_;clear n0_ n1_ n2_;(try clear hb);(try clear hb2);(try clear hk);(try clear hi);(try clear ho0);obtain ⟨Ao81,co81,eo81⟩:=Kd.R_slice HO620.out;subst eo81)|(go_at_call 31;(with_reducible refine (tl_listed.calls kj56 _ _ t618 t609 a2 true _ ?side1 ?side2 A66.out).mono ?_);(case side1=>repeat (first|exact (Kd.R_reads' HO620.out).2.2|(with_reducible refine Kd.C_alloc ?_ _)|(with_reducible refine Kd.C_drewN ?_ _)|(with_reducible refine Kd.C_drew ?_)));(case side2=>exact (Kd.R_reads' HO620.out).2.1);rintro e w' ⟨rfl,⟨nd,rfl⟩⟩)|(go_at_call 11;(with_reducible refine (tl_known.calls  t624 _ A78.out ?side1).mono ?_);(case side1=>exact LD.below HLD.out (by repeat (first|(with_reducible first|exact HB.out|apply below_alloc|apply pw_below_drewN|apply below_drew1|refine below_set ?_ GE603.out)|exact HB.out)));rintro e w82 ⟨rfl,hb⟩;have n0_:=A0_ (Kd.R_below (rd_ HO620.out) hb);have n1_:=A0_ (blk_below (g:=gb603) (o:=.cells #[.slice A0_0 l0_0.length c0_0,.int .i64 a0_1,.int .i64 a0_2,.int .i64 a0_3] 29 (0,0)) (bd_ BK603.out) hb);have n2_:=A0_ (below_step (by repeat (first|(with_reducible first|exact HB.out|apply below_alloc|apply pw_below_drewN|apply below_drew1|refine below_set ?_ GE603.out)|exact HB.out)) hb);clear HO620;clear BK603;clear HB;have HO620:=n0_;have BK603:=n1_;have HB:=n2_;clear n0_ n1_ n2_;(try clear hb);(try clear hb2);(try clear hk);(try clear hi)))
               go_ret
               exact ⟨y2_,(by repeat (first|(with_reducible first|exact HB.out|apply below_alloc|apply pw_below_drewN|apply below_drew1|refine below_set ?_ GE603.out)|exact HB.out))⟩
             ·replace c67:=Bool.eq_false_iff.mpr c67;subst c67
              have H1:(some false)=some r:=by rw [if_neg (show ¬ (false=true) by decide)] at H;exact H
              clear H;have H:=H1;clear H1;obtain rfl:=Option.some.inj H;obtain ⟨hcz83_0,hcz83_1,hcz83_2,hcz83_3,hfz83_0,hfz83_1,hfz83_2,hfz83_3⟩:=bq4_ BK603.out
              go_wp2_with (first|((with_reducible refine gate_callee (f:=30) rfl ?_);refine goesL_ (some 100) rfl rfl Tryz.func30 (by kernel_rfl) rfl #[.agg #[.slice A0_0 l0_0.length c0_0,.int .i64 a0_1,.int .i64 a0_2,.int .i64 a0_3],.int .i64 t609,.int .i64 t609] rfl y1_ ?_;(with_reducible refine (sky_Moons.calls kj56 _ _ l0_0 a0_1 a0_2 a0_3 t609 t609 t618 t621 _ ?side1 ?side2 A63.out).mono ?_);(case side1=>repeat (first|exact (Kd.C_below HR0_0.out HB.out)|(with_reducible refine Kd.C_alloc ?_ _)|(with_reducible refine Kd.C_drewN ?_ _)|(with_reducible refine Kd.C_drew ?_)));(case side2=>exact HC0_0.out);rintro e w84 ⟨v619,rfl,ho0,hb⟩;refine ⟨_,rfl,?_⟩;have n0_:=A0_ (Kd.R_lower ho0 (below_size (by repeat (first|(with_reducible first|exact HB.out|apply below_alloc|apply pw_below_drewN|apply below_drew1|refine below_set ?_ GE603.out)|exact HB.out))));have n1_:=A0_ (blk_below (g:=gb603) (o:=.cells #[.slice A0_0 l0_0.length c0_0,.int .i64 a0_1,.int .i64 a0_2,.int .i64 a0_3] 29 (0,0)) (bd_ BK603.out) hb);have n2_:=A0_ (below_step (by repeat (first|(with_reducible first|exact HB.out|apply below_alloc|apply pw_below_drewN|apply below_drew1|refine below_set ?_ GE603.out)|exact HB.out)) hb);clear BK603;clear HB;have HO620:=n0_;have BK603:=n1_;have HB:=n2_;clear n0_ n1_ n2_;(try clear hb);(try clear hb2);(try clear hk);(try clear hi);(try clear ho0);obtain ⟨Ao85,co85,eo85⟩:=Kd.R_slice HO620.out;subst eo85)|(go_at_call 31;(with_reducible refine (tl_listed.calls kj56 _ _ t618 t609 a2 false _ ?side1 ?side2 A66.out).mono ?_);(case side1=>repeat (first|exact (Kd.R_reads' HO620.out).2.2|(with_reducible refine Kd.C_alloc ?_ _)|(with_reducible refine Kd.C_drewN ?_ _)|(with_reducible refine Kd.C_drew ?_)));(case side2=>exact (Kd.R_reads' HO620.out).2.1);rintro e w' ⟨rfl,⟨nd,rfl⟩⟩))
              go_ret
              exact ⟨y2_,(by repeat (first|(with_reducible first|exact HB.out|apply below_alloc|apply pw_below_drewN|apply below_drew1|refine below_set ?_ GE603.out)|exact HB.out))⟩
            ·rw [if_neg c65] at H;have c65b0:decide ((t618.length:Int)≤2)=false:=decide_eq_false c65
             have c65b1:decide (t618.length≤2)=false:=decide_eq_false (by omega)
             clear c65;obtain rfl:=Option.some.inj H;obtain ⟨hcz86_0,hcz86_1,hcz86_2,hcz86_3,hfz86_0,hfz86_1,hfz86_2,hfz86_3⟩:=bq4_ BK603.out
             go_wp2_with (first|((with_reducible refine gate_callee (f:=30) rfl ?_);refine goesL_ (some 100) rfl rfl Tryz.func30 (by kernel_rfl) rfl #[.agg #[.slice A0_0 l0_0.length c0_0,.int .i64 a0_1,.int .i64 a0_2,.int .i64 a0_3],.int .i64 t609,.int .i64 t609] rfl y1_ ?_;(with_reducible refine (sky_Moons.calls kj56 _ _ l0_0 a0_1 a0_2 a0_3 t609 t609 t618 t621 _ ?side1 ?side2 A63.out).mono ?_);(case side1=>repeat (first|exact (Kd.C_below HR0_0.out HB.out)|(with_reducible refine Kd.C_alloc ?_ _)|(with_reducible refine Kd.C_drewN ?_ _)|(with_reducible refine Kd.C_drew ?_)));(case side2=>exact HC0_0.out);rintro e w87 ⟨v619,rfl,ho0,hb⟩;refine ⟨_,rfl,?_⟩;have n0_:=A0_ (Kd.R_lower ho0 (below_size (by repeat (first|(with_reducible first|exact HB.out|apply below_alloc|apply pw_below_drewN|apply below_drew1|refine below_set ?_ GE603.out)|exact HB.out))));have n1_:=A0_ (blk_below (g:=gb603) (o:=.cells #[.slice A0_0 l0_0.length c0_0,.int .i64 a0_1,.int .i64 a0_2,.int .i64 a0_3] 29 (0,0)) (bd_ BK603.out) hb);have n2_:=A0_ (below_step (by repeat (first|(with_reducible first|exact HB.out|apply below_alloc|apply pw_below_drewN|apply below_drew1|refine below_set ?_ GE603.out)|exact HB.out)) hb);clear BK603;clear HB;have HO620:=n0_;have BK603:=n1_;have HB:=n2_;clear n0_ n1_ n2_;(try clear hb);(try clear hb2);(try clear hk);(try clear hi);(try clear ho0);obtain ⟨Ao88,co88,eo88⟩:=Kd.R_slice HO620.out;subst eo88))
             go_ret
             exact ⟨y2_,(by repeat (first|(with_reducible first|exact HB.out|apply below_alloc|apply pw_below_drewN|apply below_drew1|refine below_set ?_ GE603.out)|exact HB.out))⟩
           ·rw [if_neg c64] at H
            have c64b0:(t621 == 0)=false:=beq_eq_false_iff_ne.mpr c64
            have c64b1:(t621 != 0)=true:=bne_iff_ne.mpr c64
            obtain rfl:=Option.some.inj H;obtain ⟨hcz89_0,hcz89_1,hcz89_2,hcz89_3,hfz89_0,hfz89_1,hfz89_2,hfz89_3⟩:=bq4_ BK603.out
            go_wp2_with (first|((with_reducible refine gate_callee (f:=30) rfl ?_);refine goesL_ (some 100) rfl rfl Tryz.func30 (by kernel_rfl) rfl #[.agg #[.slice A0_0 l0_0.length c0_0,.int .i64 a0_1,.int .i64 a0_2,.int .i64 a0_3],.int .i64 t609,.int .i64 t609] rfl y1_ ?_;(with_reducible refine (sky_Moons.calls kj56 _ _ l0_0 a0_1 a0_2 a0_3 t609 t609 t618 t621 _ ?side1 ?side2 A63.out).mono ?_);(case side1=>repeat (first|exact (Kd.C_below HR0_0.out HB.out)|(with_reducible refine Kd.C_alloc ?_ _)|(with_reducible refine Kd.C_drewN ?_ _)|(with_reducible refine Kd.C_drew ?_)));(case side2=>exact HC0_0.out);rintro e w90 ⟨v619,rfl,ho0,hb⟩;refine ⟨_,rfl,?_⟩;have n0_:=A0_ (Kd.R_lower ho0 (below_size (by repeat (first|(with_reducible first|exact HB.out|apply below_alloc|apply pw_below_drewN|apply below_drew1|refine below_set ?_ GE603.out)|exact HB.out))));have n1_:=A0_ (blk_below (g:=gb603) (o:=.cells #[.slice A0_0 l0_0.length c0_0,.int .i64 a0_1,.int .i64 a0_2,.int .i64 a0_3] 29 (0,0)) (bd_ BK603.out) hb);have n2_:=A0_ (below_step (by repeat (first|(with_reducible first|exact HB.out|apply below_alloc|apply pw_below_drewN|apply below_drew1|refine below_set ?_ GE603.out)|exact HB.out)) hb);clear BK603;clear HB;have HO620:=n0_;have BK603:=n1_;have HB:=n2_;clear n0_ n1_ n2_;(try clear hb);(try clear hb2);(try clear hk);(try clear hi);(try clear ho0)))
            go_ret
            exact ⟨y2_,(by repeat (first|(with_reducible first|exact HB.out|apply below_alloc|apply pw_below_drewN|apply below_drew1|refine below_set ?_ GE603.out)|exact HB.out))⟩
       ·rw [if_neg c56] at H
        have c56b0:(t610 == 0)=false:=beq_eq_false_iff_ne.mpr c56
        have c56b1:(t610 != 0)=true:=bne_iff_ne.mpr c56
        by_cases c91:t615=true
        ·subst c91
         have H1:(some false)=some r:=by rw [if_pos rfl] at H;exact H
         clear H;have H:=H1;clear H1;obtain rfl:=Option.some.inj H
         obtain ⟨Ao92,co92,eo92⟩:=Kd.R_slice HO_11.out
         subst eo92
         go_wp2_with (first|((with_reducible refine gate_callee (f:=31) rfl ?_);refine goesL_ (some 76) rfl rfl Tryz.func31 (by kernel_rfl) rfl #[.slice Ao92 t611.length co92,.int .i64 a3,.bool a2] rfl y1_ ?_;(with_reducible refine (tl_listed.calls kj42 _ _ t611 a3 a2 true _ ?side1 ?side2 A55.out).mono ?_);(case side1=>repeat (first|exact (Kd.R_reads' HO_11.out).2.2|(with_reducible refine Kd.C_alloc ?_ _)|(with_reducible refine Kd.C_drewN ?_ _)|(with_reducible refine Kd.C_drew ?_)));(case side2=>exact (Kd.R_reads' HO_11.out).2.1);rintro e w' ⟨rfl,⟨nd,rfl⟩⟩;refine ⟨_,rfl,?_⟩))
         go_ret
         exact ⟨y2_,(by repeat (first|(with_reducible first|exact HB.out|apply below_alloc|apply pw_below_drewN|apply below_drew1|refine below_set ?_ GE603.out)|exact HB.out))⟩
        ·replace c91:=Bool.eq_false_iff.mpr c91;subst c91
         have H1:((tl_known.f).bind fun t616=>(some t616))=some r:=by rw [if_neg (show ¬ (false=true) by decide)] at H;exact H
         clear H;have H:=H1;clear H1;replace H:=Option.bind_eq_some_iff.mp H;obtain ⟨t616,A930,H⟩:=H
         replace H:(some t616)=some r:=H
         have A93:=A0_ A930;clear A930;obtain rfl:=Option.some.inj H
         obtain ⟨Ao94,co94,eo94⟩:=Kd.R_slice HO_11.out
         subst eo94
         go_wp2_with (first|((with_reducible refine gate_callee (f:=31) rfl ?_);refine goesL_ (some 76) rfl rfl Tryz.func31 (by kernel_rfl) rfl #[.slice Ao94 t611.length co94,.int .i64 a3,.bool a2] rfl y1_ ?_;(with_reducible refine (tl_listed.calls kj42 _ _ t611 a3 a2 false _ ?side1 ?side2 A55.out).mono ?_);(case side1=>repeat (first|exact (Kd.R_reads' HO_11.out).2.2|(with_reducible refine Kd.C_alloc ?_ _)|(with_reducible refine Kd.C_drewN ?_ _)|(with_reducible refine Kd.C_drew ?_)));(case side2=>exact (Kd.R_reads' HO_11.out).2.1);rintro e w' ⟨rfl,⟨nd,rfl⟩⟩;refine ⟨_,rfl,?_⟩)|(go_at_call 11;(with_reducible refine (tl_known.calls  t616 _ A93.out ?side1).mono ?_);(case side1=>exact LD.below HLD.out (by repeat (first|(with_reducible first|exact HB.out|apply below_alloc|apply pw_below_drewN|apply below_drew1|refine below_set ?_ GE603.out)|exact HB.out)));rintro e w95 ⟨rfl,hb⟩;have n0_:=A0_ (Kd.R_below (rd_ HO_11.out) hb);have n1_:=A0_ (blk_below (g:=gb603) (o:=.cells #[.slice A0_0 l0_0.length c0_0,.int .i64 a0_1,.int .i64 a0_2,.int .i64 a0_3] 29 (0,0)) (bd_ BK603.out) hb);have n2_:=A0_ (below_step (by repeat (first|(with_reducible first|exact HB.out|apply below_alloc|apply pw_below_drewN|apply below_drew1|refine below_set ?_ GE603.out)|exact HB.out)) hb);clear HO_11;clear BK603;clear HB;have HO_11:=n0_;have BK603:=n1_;have HB:=n2_;clear n0_ n1_ n2_;(try clear hb);(try clear hb2);(try clear hk);(try clear hi)))
         go_ret
         exact ⟨y2_,(by repeat (first|(with_reducible first|exact HB.out|apply below_alloc|apply pw_below_drewN|apply below_drew1|refine below_set ?_ GE603.out)|exact HB.out))⟩
end Go.Proofs.YtjahbgldccjbfaaGreatDoor.PSky
end
section
namespace Go.Proofs.YtjahbgldccjbfaaGreatDoor.PSky
open Go.RowKit Go.Proofs.YtjahbgldccjbfaaGreatDoorW.PrintWords Go.Proofs.YtjahbgldccjbfaaGreatDoorW.PrintLast Go.Proofs.YtjahbgldccjbfaaGreatDoorW.PrintMore
theorem SkyFirst_ev (l:List S74) (p q n d:Int) (full:Bool) (o:Int):Ev (fun k=>tl_SkyFirst.f k l p q n d full o) true:=by
 obtain ⟨s,hs,hs6⟩:=short_ev l p q n
 have skip:∀ b:Bool,b=true→Ev (fun k=>tl_SkyFirst.j0 k d full o b l p q n) true:=fun b hb=>by
  refine Ev.step (fun k=>by rw [tl_SkyFirst.j0]) ?_
  exact Ev.pos hb known_ev
 unfold tl_SkyFirst.f
 refine Ev.bind hs ?_
 cases s with
 |false=>exact Ev.neg (by simp) (skip true rfl)
 |true=>
  have hl:=hs6 rfl
  refine Ev.pos rfl (Ev.bind (refSky_ev l p q n (by omega)) ?_)
  cases h1:okSky l p q n with
  |false=>exact Ev.neg (by simp) (skip true rfl)
  |true=>
   refine Ev.pos rfl (Ev.bind (Ev.is (Day_eq d)) ?_)
   cases h2:okDay d with
   |false=>exact Ev.neg (by simp) (skip true rfl)
   |true=>
    refine Ev.pos rfl (Ev.bind (Ev.is (Day_eq o)) ?_)
    cases h3:okDay o with
    |false=>exact Ev.neg (by simp) (skip true rfl)
    |true=>
     refine Ev.pos rfl ?_
     by_cases h4:o<1
     ·exact Ev.pos h4 (skip true rfl)
     refine Ev.neg h4 ?_
     by_cases h5:o<d
     ·exact skip _ (decide_eq_true h5)
     rw [decide_eq_false h5]
     have ho:=okIn_iff.mp h3
     have hn:=Next_ev l p q n d full
     rw [if_pos ⟨h1,h2⟩] at hn
     have hlen:∀ x,((moonOn l x).length:Int)≤2:=fun x=>by have:=moonOn_length l x;omega
     refine Ev.step (fun k=>by rw [tl_SkyFirst.j0]) ?_
     refine Ev.neg (by simp) (Ev.bind hn (Ev.bind (Moons_day h1 (by omega)) (Ev.pos rfl (Ev.neg (by have:=hlen o;show ¬ ((moonOn l o).length:Int) > 2;omega) ?_))))
     have hlist:Ev (fun k=>tl_listed.f k (moonOn l o) o full) (isMoon l (halfOf full) o):=by
      have:=listedC_ev (moonOn l o) (by have:=hlen o;omega) o full
      rw [moon_listed] at this
      exact this
     cases h6:firstMoon l d full with
     |none=>
      refine Ev.neg (by decide) ?_
      refine Ev.step (fun k=>by rw [tl_SkyFirst.j1]) ?_
      refine Ev.neg (by decide) (Ev.bind hlist (Ev.neg (by decide) ?_))
      rw [first_none h6 o (by omega) (by omega) (by omega)]
      exact Ev.neg (by simp) known_ev
     |some x=>
      obtain ⟨hx,hx1,hx2⟩:=first_some h6
      refine Ev.pos rfl ?_
      refine Ev.step (fun k=>by rw [tl_SkyFirst.j1]) ?_
      refine Ev.neg (by decide) (Ev.bind hlist (Ev.pos rfl (Ev.bind (Ev.is (Day_eq x)) (Ev.pos (okIn_iff.mpr (by omega)) (Ev.neg (show ¬ x<1 by omega) ?_)))))
      refine Ev.step (fun k=>by rw [tl_SkyFirst.j2]) ?_
      refine Ev.neg (by show ¬ decide (x<d)=true;simp;omega) (Ev.bind (Moons_day h1 (d:=x) (by omega)) (Ev.pos rfl (Ev.pos (hlen x) ?_)))
      have hl2:Ev (fun k=>tl_listed.f k (moonOn l x) x full) (isMoon l (halfOf full) x):=by
       have:=listedC_ev (moonOn l x) (by have:=hlen x;omega) x full
       rw [moon_listed] at this
       exact this
      refine Ev.bind hl2 (Ev.pos hx1 ?_)
      cases h7:isMoon l (halfOf full) o with
      |false=>exact Ev.neg (by simp) known_ev
      |true=>
       refine Ev.pos rfl (Ev.pos ?_ known_ev)
       show o ≥ x
       by_cases h8:o<x
       ·have:=hx2 o (by omega) (by omega) h8
        rw [h7] at this
        cases this
       ·omega
end Go.Proofs.YtjahbgldccjbfaaGreatDoor.PSky
end
section
namespace Go.Proofs.YtjahbgldccjbfaaGreatDoor
open Go.ChangeShapes Go.WideShapes Go.ChangeAt Go.RowKit
set_option maxRecDepth 100000 in
set_option maxHeartbeats 1600000 in
theorem skyFirst_lifted (os:Os) (started:os.Started) (H:Type) (enc:TypeId × Value→H) (F:Stop.Interp):
  ReturnsInHanded {} Tryz.checked os 10 .any ((OpenSpec.ofChange Rows.skyFirstSpec).preRow enc Tryz.prog Tryz.f10 Rows.skyFirstRow.domain false Rows.skyFirstRow.laid) (((OpenSpec.ofChange Rows.skyFirstSpec).at F).post enc Tryz.prog Tryz.f10 false true false false):=by
 refine returnsInHanded_of_row (C:=Tryz.checked) (s:=OpenSpec.ofChange Rows.skyFirstSpec) own started (by kernel_rfl) Tryz.func10
  (witness_row_at (enc:=enc) (C:=Tryz.checked) false (laidWorld os) #[.agg #[.slice none 0 0,.int .i64 0,.int .i64 0,.int .i64 0],.int .i64 0,.bool false,.int .i64 0] rfl (by kernel_rfl) (by kernel_rfl) (by kernel_rfl) (OpenSpec.preRow_of_B rfl 8 (by kernel_rfl) (by kernel_rfl) (laid_met os _))) ?_
 intro W base args ds gs before hval0 hW _ _ hsz0 hL hsh _
 have hval:∀ (j:Nat) t v,Tryz.f10.params[j]?=some t→args[j]?=some v→Value.okWide Tryz.prog W .any base t v:=hval0
 have hW':=hW
 obtain ⟨p,q,hA0,hV,rfl,hfz,hnd⟩:=hW
 have hA:DataW.TrodAll enc Tryz.prog W 0 (fun _=>true) true Tryz.f10.params.toList args.toList ds p:=hA0
 rw [Tryz.params10] at hA hval
 obtain ⟨v0,vs0,d0,ds0,p0,q0,hargs,rfl,rfl,h0,r0⟩:=trodAll_cons hA
 obtain ⟨v1,vs1,d1,ds1,p1,q1,rfl,rfl,rfl,h1,r1⟩:=trodAll_cons r0
 obtain ⟨v2,vs2,d2,ds2,p2,q2,rfl,rfl,rfl,h2,r2⟩:=trodAll_cons r1
 obtain ⟨v3,vs3,d3,ds3,p3,q3,rfl,rfl,rfl,h3,r3⟩:=trodAll_cons r2
 obtain ⟨rfl,rfl,rfl⟩:=trodAll_nil r3
 obtain rfl:args=#[v0,v1,v2,v3]:=by cases args;simp_all
 obtain ⟨rfl,rfl⟩:=trodVars_none hV
 have k0:=h0
 have lt0:∀ x∈p0,x.block<W.heap.size:=by obtain ⟨m,hm⟩:=k0;exact DataW.trod_lt m _ _ _ hm
 obtain ⟨fuel0,hf0⟩:=h0
 obtain ⟨A0,c0,l0,a0,b0,e0,hcs0,hlc0,hC0⟩:=PSky.open_sky hf0
 obtain rfl:=agg_of hcs0 rfl
 obtain ⟨x1,rfl,rfl,rfl,w1⟩:=open_int Tryz.underlying3 (hval 1 3 v1 rfl rfl) h1
 obtain ⟨x2,rfl,rfl,rfl⟩:=open_bool Tryz.underlying4 (hval 2 4 v2 rfl rfl) h2
 obtain ⟨x3,rfl,rfl,rfl,w3⟩:=open_int Tryz.underlying3 (hval 3 3 v3 rfl rfl) h3
 obtain ⟨k,hk⟩:=(PSky.SkyFirst_ev l0 a0 b0 e0 x1 x2 x3).rounds
 have hld:=ld_of hL hsh
 clear hA0 hval0 hsz0 hA hval hL hsh
 refine (PSky.tl_SkyFirst.calls k A0 c0 l0 a0 b0 e0 x1 x2 x3 true W hC0 hlc0 hk hld).mono fun e W' ⟨he,bel⟩=>?_
 subst he
 exact ⟨_,rfl,_,_,_,[],_,[],hW',trodAll_mk1 (shut_bool Tryz.underlying4 _),(trodAll_cons_mk (Below.trod laidOut (by kernel_rfl) (of_decide_eq_true (by kernel_rfl)) k0 bel lt0) (trodAll_cons_mk (shut_int Tryz.underlying3 w1) (trodAll_cons_mk (shut_bool Tryz.underlying4 _) (trodAll_cons_mk (shut_int Tryz.underlying3 w3) trodAll_mk0)))),rfl,bel.frame _,fun h=>by cases h⟩
theorem skyFirst_holds:Rows.SkyFirstSaid:=
 OpenClaim.holds_of_wide 10 Tryz.f10 rfl rfl rfl rfl rfl rfl rfl ⟨rfl,rfl,rfl,rfl,rfl⟩ rfl rfl rfl rfl rfl (by kernel_rfl) Tryz.func10 (by kernel_rfl)
  (of_decide_eq_true (by kernel_rfl)) (by unfold Func.isWrapper;first|(rw [if_pos (by decide +kernel)];kernel_rfl)|(rw [if_neg (by decide +kernel)];exact ⟨rfl,rfl⟩))
  (fun os started H enc _=>skyFirst_lifted os started H enc (fun _ _ _=>0))
end Go.Proofs.YtjahbgldccjbfaaGreatDoor
end
