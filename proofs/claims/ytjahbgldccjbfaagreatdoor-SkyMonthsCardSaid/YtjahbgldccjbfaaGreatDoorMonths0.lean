/- A part of the proof of a law of the layer sky. -/
import Derived.ArgAppend
import Derived.Below
import Derived.BigQuiet
import Derived.BigRegion
import Derived.ChangeSame
import Derived.Deep.AppendLies
import Derived.Deep.CutBlock
import Derived.Deep.DeepCutAuto
import Derived.Deep.DeepHandedRow
import Derived.Deep.Draws
import Derived.Deep.LoopGhost
import Derived.Deep.OwnRows
import Derived.Deep.QuietTactic
import Derived.Deep.RegionHeld3
import Derived.Deep.RegionLaw
import Derived.Deep.Slices
import Derived.Deep.Strs
import Derived.Defers
import Derived.KernelRfl
import Derived.LaidMore
import Derived.Laws.BitsLemmas
import Derived.Laws.BytesArg
import Derived.Laws.Entries
import Derived.Laws.IdiomCopy
import Derived.Laws.LoneSync
import Derived.Laws.MakeOwn
import Derived.Laws.NewBlocks
import Derived.Laws.OwnMore
import Derived.Laws.Pointers
import Derived.Laws.Rows
import Derived.Laws.Slices
import Derived.Laws.StructEq
import Derived.Lib.AppendStr
import Derived.Lib.ConvBytes
import Derived.Lib.LaidTab
import Derived.Lib.OthersKept
import Derived.Lib.SplitLaws
import Derived.LoopIn
import Derived.LoopN
import Derived.LoopNIn
import Derived.Maps.AppendAt
import Derived.Maps.Own
import Derived.Maps.OwnOps
import Derived.Maps.OwnSet
import Derived.Maps.Views
import Derived.OpenShut
import Derived.OrdersHeld
import Derived.Outline
import Derived.OwnWalk
import Derived.OwnWalkIn
import Derived.ProofKit
import Derived.RangeFuncBound
import Derived.RangeFuncBox
import Derived.RangeFuncCalls
import Derived.RangeFuncLeaves
import Derived.RangeFuncNested
import Derived.Recover
import Derived.RowKit
import Derived.RowKit3
import Derived.Scope
import Derived.Shelf.Abstract
import Derived.Shelf.LaysM
import Derived.Shelf.RegionOpen
import Derived.Shelf.Strconv.Itoa0
import Derived.Shelf.Strconv.Itoa1
import Derived.Shelf.Strconv.Itoa2
import Derived.Shelf.Strconv.Itoa3
import Derived.Shelf.Strings.Builder1
import Derived.Shelf.Strings.Builder2
import Derived.Shelf.Strings.Count
import Derived.Shelf.Strings.Explode
import Derived.Shelf.Strings.OnBuilder
import Derived.Shelf.Strings.Prefix
import Derived.Shelf.Strings.RuneCount
import Derived.Shelf.Strings.Search1
import Derived.Shelf.Strings.Search2
import Derived.Shelf.Strings.Search3
import Derived.Shelf.Strings.Shaped
import Derived.Shelf.Strings.Split
import Derived.Shelf.Strings.SplitShaped
import Derived.Shelf.Unicode.Decode
import Derived.Shelf.Unicode.DecodeAny
import Derived.Shelf.Unicode.DecodeSlow
import Derived.Shelf.Utf8.RuneCount
import Derived.SizedLaws
import Derived.StillTactics
import Derived.Stop.Joined
import Derived.Stop.LaidErr
import Derived.Tactics
import Derived.TacticsInMore
import Derived.WalkKit
import Derived.WideLaws
import Derived.Test.YtjahbgldccjbfaaGreatDoorY6
section
namespace Go.Proofs.YtjahbgldccjbfaaGreatDoor.PSky
open Go.RowKit Go.Proofs.YtjahbgldccjbfaaGreatDoorW.PrintWords Go.Proofs.YtjahbgldccjbfaaGreatDoorW.PrintLast Go.Proofs.YtjahbgldccjbfaaGreatDoorW.PrintMore
attribute [local go_sem] max2_int min2_int max_two min_two max_three min_three max_four min_four
set_option linter.unusedVariables false
set_option linter.unusedSimpArgs false
mutual
def tl_short.l0:Nat→Int→List (S74)→Int→Int→Int→Option (Bool)
 |0,_,_,_,_,_=>none
 |k+1,x3,x290000,x290001,x290002,x290003=>if x3<(x290000.length:Int) then (tl_short.j1 k x3 (decide (x3<7)) x290000 x290001 x290002 x290003) else (tl_short.j1 k x3 false x290000 x290001 x290002 x290003)
def tl_short.j1:Nat→Int→Bool→List (S74)→Int→Int→Int→Option (Bool)
 |0,_,_,_,_,_,_=>none
 |k+1,x3,x12,x290000,x290001,x290002,x290003=>if x12=true then (if 0≤x3 then (if x3<(x290000.length:Int) then (if (((rd_T74 x290000 x3).f2).length:Int) > 10 then (some false) else (tl_short.l0 k (wrap64 (x3+1)) x290000 x290001 x290002 x290003)) else (none)) else (none)) else (some (decide ((x290000.length:Int)≤6)))
end
def tl_short.f (k:Nat) (l0_0:List (S74)) (a0_1:Int) (a0_2:Int) (a0_3:Int):Option (Bool):=tl_short.l0 k 0 l0_0 a0_1 a0_2 a0_3
set_option maxHeartbeats 8000000 in
set_option maxRecDepth 100000 in
theorem tl_short.calls (k:Nat) (A0_0:Option Addr) (c0_0:Nat) (l0_0:List (S74)) (a0_1:Int) (a0_2:Int) (a0_3:Int) (r:Bool) (w:World) (hr0_0:Kd.C k74 w A0_0 l0_0.length l0_0) (hc0_0:l0_0.length≤c0_0) (h:tl_short.f k l0_0 a0_1 a0_2 a0_3=some r):
  Calls Tryz.prog 17 #[.agg #[.slice A0_0 l0_0.length c0_0,.int .i64 a0_1,.int .i64 a0_2,.int .i64 a0_3]] w fun e w'=>e=.returned (.bool r)∧Below w.heap.size w w':=by
 have hu29:=Tryz.underlying29
 have HR0_0:=A0_ hr0_0;have HC0_0:=A0_ hc0_0;clear hr0_0 hc0_0
 have HB:=A0_ (Below.refl w.heap.size w)
 have H:(tl_short.l0 k 0 l0_0 a0_1 a0_2 a0_3)=some r:=h
 clear h
 have H':=A0_ H
 clear H
 go_enter Tryz.func17,Tryz.ntmps17
 go_wp2_with (first|((with_reducible refine gate_dst (N:=1) rfl ?_);refine box_event ?hg (N:=1) ?hd (cs:=#[.slice A0_0 l0_0.length c0_0,.int .i64 a0_1,.int .i64 a0_2,.int .i64 a0_3]) (t:=29) ?hr ?_;(case hd=>rfl);(case hg=>rfl);(case hr=>first|(go_simp;done)|(go_simp;rfl));intro gb289 hg w2 hbox hb;have n0_:=A0_ (below_step y0_ hb);have n1_:=A0_ (hbox);have n2_:=A0_ ((by rw [hg];exact (below_size y0_):w.heap.size≤gb289));have n3_:=A0_ ((by rw [hg];exact (below_size y0_):w.heap.size≤gb289));clear HB;have HB:=n0_;have BK289:=n1_;have GW289:=n2_;have GE289:=n3_;clear n0_ n1_ n2_ n3_;clear hb hbox hg))
 go_loopg [3] k (fun kq v3 w'=>∃ (x3_1:Int),v3=.int .i64 x3_1∧Aside0 (tl_short.l0 kq x3_1 l0_0 a0_1 a0_2 a0_3=some r)∧Aside0 (kq≤k)∧Aside0 (w'.heap[gb289]?=some (.cells #[(.slice A0_0 l0_0.length c0_0),.int .i64 a0_1,.int .i64 a0_2,.int .i64 a0_3] 29 (0,0)))∧Aside0 (Below w.heap.size w w'))
 case atStart=>exact ⟨(0),y4_,H',⟨Nat.le_refl _⟩,⟨by (with_reducible repeat (first|refine blk_drewN ?_ _|refine blk_drew ?_|refine blk_alloc ?_ _));exact BK289.out⟩,⟨(by repeat (first|(with_reducible first|exact HB.out|apply below_alloc|apply pw_below_drewN|apply below_drew1|refine below_set ?_ GE289.out)|exact HB.out))⟩⟩
 case round=>
  clear H'
  (try clear c1);(try clear p2)
  obtain ⟨x3_1,rfl,HA,HK1,BK289,HB⟩:=hrel
  cases gk with
  |zero=>exact absurd HA.out (by simp [tl_short.l0])
  |succ k1=>
   have H:=HA.out
   clear HA
   simp only [tl_short.l0] at H
   have HC3:=A0_ H;clear H
   go_upto_region 2 with (fail)
   go_cut [12] (fun v12 wc=>∃ (kq:Nat) (x12_2:Bool),v12=.bool x12_2∧Aside0 (tl_short.j1 kq x3_1 x12_2 l0_0 a0_1 a0_2 a0_3=some r)∧Aside0 (kq≤k1)∧Aside0 (wc.heap[gb289]?=some (.cells #[(.slice A0_0 l0_0.length c0_0),.int .i64 a0_1,.int .i64 a0_2,.int .i64 a0_3] 29 (0,0)))∧Aside0 (Below w.heap.size w wc))
   case first=>
    have H:=HC3.out
    clear HC3
    by_cases c4:x3_1<(l0_0.length:Int)
    ·rw [if_pos c4] at H;have c4b0:decide (x3_1<(l0_0.length:Int))=true:=decide_eq_true c4;clear c4
     (first|rw [c4b0]|(simp only [i64_w,i32_w];rw [c4b0])|skip)
     have H':=A0_ H
     clear H;obtain ⟨hcz5_0,hcz5_1,hcz5_2,hcz5_3,hfz5_0,hfz5_1,hfz5_2,hfz5_3⟩:=bq4_ BK289.out;go_wp2
     go_meet
     case rel=>exact ⟨_,(decide (x3_1<7)),y4_,H',⟨by have:=HK1.out;first|omega|exact Nat.le_refl _⟩,⟨by (with_reducible repeat (first|refine blk_drewN ?_ _|refine blk_drew ?_|refine blk_alloc ?_ _));exact BK289.out⟩,⟨(by repeat (first|(with_reducible first|exact HB.out|apply below_alloc|apply pw_below_drewN|apply below_drew1|refine below_set ?_ GE289.out)|exact HB.out))⟩⟩
    ·rw [if_neg c4] at H;have c4b0:decide (x3_1<(l0_0.length:Int))=false:=decide_eq_false c4;clear c4
     (first|rw [c4b0]|(simp only [i64_w,i32_w];rw [c4b0])|skip)
     have H':=A0_ H
     clear H;obtain ⟨hcz6_0,hcz6_1,hcz6_2,hcz6_3,hfz6_0,hfz6_1,hfz6_2,hfz6_3⟩:=bq4_ BK289.out;go_wp2
     go_meet
     case rel=>exact ⟨_,(false),y4_,H',⟨by have:=HK1.out;first|omega|exact Nat.le_refl _⟩,⟨by (with_reducible repeat (first|refine blk_drewN ?_ _|refine blk_drew ?_|refine blk_alloc ?_ _));exact BK289.out⟩,⟨(by repeat (first|(with_reducible first|exact HB.out|apply below_alloc|apply pw_below_drewN|apply below_drew1|refine below_set ?_ GE289.out)|exact HB.out))⟩⟩
   case rest=>
    clear HC3;(try clear c1);(try clear p2);(try clear c4);(try clear c4b0);(try clear hcz5_0);(try clear hcz5_1);(try clear hcz5_2);(try clear hcz5_3);(try clear hcz6_0);(try clear hcz6_1);(try clear hcz6_2);(try clear hcz6_3);(try clear hfz5_0);(try clear hfz5_1);(try clear hfz5_2);(try clear hfz5_3);(try clear hfz6_0);(try clear hfz6_1);(try clear hfz6_2);(try clear hfz6_3);(try clear p2)
    obtain ⟨kq,x12_2,rfl,HA,HJ2,BK289,HB⟩:=hcut
    cases kq with
    |zero=>exact absurd HA.out (by simp [tl_short.j1])
    |succ kj2=>
     have H:=HA.out
     clear HA
     simp only [tl_short.j1] at H
     by_cases c7:x12_2=true
     ·subst c7
      have H1:(if 0≤x3_1 then (if x3_1<(l0_0.length:Int) then (if (((rd_T74 l0_0 x3_1).f2).length:Int) > 10 then (some false) else (tl_short.l0 kj2 (wrap64 (x3_1+1)) l0_0 a0_1 a0_2 a0_3)) else (none)) else (none))=some r:=by rw [if_pos rfl] at H;exact H
      clear H;have H:=H1;clear H1
      by_cases c8:0≤x3_1
      ·rw [if_pos c8] at H;have c8b0:decide (0≤x3_1)=true:=decide_eq_true c8;clear c8
       by_cases c9:x3_1<(l0_0.length:Int)
       ·rw [if_pos c9] at H;have c9b0:decide (x3_1<(l0_0.length:Int))=true:=decide_eq_true c9;clear c9
        by_cases c10:(((rd_T74 l0_0 x3_1).f2).length:Int) > 10
        ·rw [if_pos c10] at H;have c10b0:decide (10<(((rd_T74 l0_0 x3_1).f2).length:Int))=true:=decide_eq_true c10
         have c10b1:decide (10<((rd_T74 l0_0 x3_1).f2).length)=true:=decide_eq_true (by omega)
         clear c10;obtain rfl:=Option.some.inj H;obtain ⟨hcz11_0,hcz11_1,hcz11_2,hcz11_3,hfz11_0,hfz11_1,hfz11_2,hfz11_3⟩:=bq4_ BK289.out
         have p290:0≤(x3_1:Int):=of_decide_eq_true y5_
         have q290:x3_1<(l0_0.length:Int):=of_decide_eq_true y5_
         obtain ⟨ad290,A290_3,c290_3,e290,hx290_0,hx290_1,hx290_2,hx290_3,hl290_3,hi290_3⟩:=at_T74 HR0_0.out x3_1 p290 q290
         cases e290
         replace hx290_0:=(HB.out.cell (World.block_lt_of_cell? w _ hx290_0)).trans hx290_0
         replace hx290_1:=(HB.out.cell (World.block_lt_of_cell? w _ hx290_1)).trans hx290_1
         replace hx290_2:=(HB.out.cell (World.block_lt_of_cell? w _ hx290_2)).trans hx290_2
         replace hx290_3:=(HB.out.cell (World.block_lt_of_cell? w _ hx290_3)).trans hx290_3
         have HR290_3:=A0_ hi290_3;have HC290_3:=A0_ hl290_3;clear hi290_3 hl290_3
         replace p290:=eq_true p290
         replace q290:=eq_true q290
         go_wp2;go_ret
         exact ⟨y2_,(by repeat (first|(with_reducible first|exact HB.out|apply below_alloc|apply pw_below_drewN|apply below_drew1|refine below_set ?_ GE289.out)|exact HB.out))⟩
        ·rw [if_neg c10] at H;have c10b0:decide (10<(((rd_T74 l0_0 x3_1).f2).length:Int))=false:=decide_eq_false c10
         have c10b1:decide (10<((rd_T74 l0_0 x3_1).f2).length)=false:=decide_eq_false (by omega)
         clear c10
         have H':=A0_ H
         clear H;obtain ⟨hcz12_0,hcz12_1,hcz12_2,hcz12_3,hfz12_0,hfz12_1,hfz12_2,hfz12_3⟩:=bq4_ BK289.out
         have p290:0≤(x3_1:Int):=of_decide_eq_true y5_
         have q290:x3_1<(l0_0.length:Int):=of_decide_eq_true y5_
         obtain ⟨ad290,A290_3,c290_3,e290,hx290_0,hx290_1,hx290_2,hx290_3,hl290_3,hi290_3⟩:=at_T74 HR0_0.out x3_1 p290 q290
         cases e290
         replace hx290_0:=(HB.out.cell (World.block_lt_of_cell? w _ hx290_0)).trans hx290_0
         replace hx290_1:=(HB.out.cell (World.block_lt_of_cell? w _ hx290_1)).trans hx290_1
         replace hx290_2:=(HB.out.cell (World.block_lt_of_cell? w _ hx290_2)).trans hx290_2
         replace hx290_3:=(HB.out.cell (World.block_lt_of_cell? w _ hx290_3)).trans hx290_3
         have HR290_3:=A0_ hi290_3;have HC290_3:=A0_ hl290_3;clear hi290_3 hl290_3
         replace p290:=eq_true p290
         replace q290:=eq_true q290
         go_wp2
         go_roundg kj2
         case measure=>have:=HK1.out;have:=HJ2.out;omega
         case rel=>exact ⟨(wrap64 (x3_1+1)),y4_,H',⟨by have:=HK1.out;have:=HJ2.out;omega⟩,⟨by (with_reducible repeat (first|refine blk_drewN ?_ _|refine blk_drew ?_|refine blk_alloc ?_ _));exact BK289.out⟩,⟨(by repeat (first|(with_reducible first|exact HB.out|apply below_alloc|apply pw_below_drewN|apply below_drew1|refine below_set ?_ GE289.out)|exact HB.out))⟩⟩
       ·rw [if_neg c9] at H;exact absurd H (by simp)
      ·rw [if_neg c8] at H;exact absurd H (by simp)
     ·replace c7:=Bool.eq_false_iff.mpr c7;subst c7
      have H1:(some (decide ((l0_0.length:Int)≤6)))=some r:=by rw [if_neg (show ¬ (false=true) by decide)] at H;exact H
      clear H;have H:=H1;clear H1;obtain rfl:=Option.some.inj H;obtain ⟨hcz13_0,hcz13_1,hcz13_2,hcz13_3,hfz13_0,hfz13_1,hfz13_2,hfz13_3⟩:=bq4_ BK289.out;go_wp2;go_ret
      exact ⟨y2_,(by repeat (first|(with_reducible first|exact HB.out|apply below_alloc|apply pw_below_drewN|apply below_drew1|refine below_set ?_ GE289.out)|exact HB.out))⟩
end Go.Proofs.YtjahbgldccjbfaaGreatDoor.PSky
end
section
namespace Go.Proofs.YtjahbgldccjbfaaGreatDoor.PSky
open Go.RowKit Go.Proofs.YtjahbgldccjbfaaGreatDoorW.PrintWords Go.Proofs.YtjahbgldccjbfaaGreatDoorW.PrintLast Go.Proofs.YtjahbgldccjbfaaGreatDoorW.PrintMore
attribute [local go_sem] max2_int min2_int max_two min_two max_three min_three max_four min_four
set_option linter.unusedVariables false
set_option linter.unusedSimpArgs false
def tr_Months.f (a0:Int):Option (Bool):=(tr_in.f a0 0 400).bind fun t474=>(some t474)
set_option maxHeartbeats 8000000 in
set_option maxRecDepth 100000 in
theorem tr_Months.calls (a0:Int) (r:Bool) (w:World) (h:tr_Months.f a0=some r):
  Calls Tryz.prog 36 #[.int .i64 a0] w fun e w'=>e=.returned (.bool r)∧Drawn0 w w':=by
 have H:((tr_in.f a0 0 400).bind fun t474=>(some t474))=some r:=h
 clear h;replace H:=Option.bind_eq_some_iff.mp H;obtain ⟨t474,A20,H⟩:=H
 replace H:(some t474)=some r:=H
 have A2:=A0_ A20;clear A20;obtain rfl:=Option.some.inj H
 go_enter Tryz.func36,Tryz.ntmps36
 go_wp2_with (first|((with_reducible refine gate_callee (f:=66) rfl ?_);refine goesL_ (some 4) rfl rfl Tryz.func66 (by kernel_rfl) rfl #[.int .i64 a0,.int .i64 0,.int .i64 400] rfl y1_ ?_;(with_reducible refine (tr_in.calls a0 0 400 t474 _ A2.out).mono ?_);rintro e w' ⟨rfl,⟨nd,rfl⟩⟩;refine ⟨_,rfl,?_⟩))
 go_ret
 exact ⟨y4_,yb_⟩
def tr_Limit.f (a0:Int):Option (Bool):=(tr_in.f a0 0 5400).bind fun t475=>(some t475)
set_option maxHeartbeats 8000000 in
set_option maxRecDepth 100000 in
theorem tr_Limit.calls (a0:Int) (r:Bool) (w:World) (h:tr_Limit.f a0=some r):
  Calls Tryz.prog 37 #[.int .i64 a0] w fun e w'=>e=.returned (.bool r)∧Drawn0 w w':=by
 have H:((tr_in.f a0 0 5400).bind fun t475=>(some t475))=some r:=h
 clear h;replace H:=Option.bind_eq_some_iff.mp H;obtain ⟨t475,A20,H⟩:=H
 replace H:(some t475)=some r:=H
 have A2:=A0_ A20;clear A20;obtain rfl:=Option.some.inj H
 go_enter Tryz.func37,Tryz.ntmps37
 go_wp2_with (first|((with_reducible refine gate_callee (f:=66) rfl ?_);refine goesL_ (some 4) rfl rfl Tryz.func66 (by kernel_rfl) rfl #[.int .i64 a0,.int .i64 0,.int .i64 5400] rfl y1_ ?_;(with_reducible refine (tr_in.calls a0 0 5400 t475 _ A2.out).mono ?_);rintro e w' ⟨rfl,⟨nd,rfl⟩⟩;refine ⟨_,rfl,?_⟩))
 go_ret
 exact ⟨y4_,yb_⟩
end Go.Proofs.YtjahbgldccjbfaaGreatDoor.PSky
end
section
namespace Go.Proofs.YtjahbgldccjbfaaGreatDoor.PSky
open Go.RowKit Go.Proofs.YtjahbgldccjbfaaGreatDoorW.PrintWords Go.Proofs.YtjahbgldccjbfaaGreatDoorW.PrintLast Go.Proofs.YtjahbgldccjbfaaGreatDoorW.PrintMore
attribute [local go_sem] max2_int min2_int max_two min_two max_three min_three max_four min_four
set_option linter.unusedVariables false
set_option linter.unusedSimpArgs false
def tr_gcd.l0:Nat→Int→Int→Option (Int)
 |0,_,_=>none
 |k+1,x0,x1=>if x1 > 0 then (if x1=0 then (none) else (tr_gcd.l0 k x1 (Int.tmod x0 x1))) else (some x0)
def tr_gcd.f (k:Nat) (a0:Int) (a1:Int):Option (Int):=tr_gcd.l0 k a0 a1
set_option maxHeartbeats 8000000 in
set_option maxRecDepth 100000 in
theorem tr_gcd.calls (k:Nat) (a0:Int) (a1:Int) (r:Int) (w:World) (h:tr_gcd.f k a0 a1=some r):
  Calls Tryz.prog 93 #[.int .i64 a0,.int .i64 a1] w fun e w'=>e=.returned (.int .i64 r)∧Drawn0 w w':=by
 have H:(tr_gcd.l0 k a0 a1)=some r:=h
 clear h
 have H':=A0_ H
 clear H
 go_enter Tryz.func93,Tryz.ntmps93
 go_wp2
 repeat (go_quiet (fail);try go_wp2)
 go_loopg [0,1] k (fun kq v0 v1 w'=>∃ (x0_1:Int) (x1_1:Int),v0=.int .i64 x0_1∧v1=.int .i64 x1_1∧Aside0 (tr_gcd.l0 kq x0_1 x1_1=some r)∧Aside0 (kq≤k)∧Drawn0 w w')
 case atStart=>exact ⟨(a0),(a1),y4_,y4_,H',⟨Nat.le_refl _⟩,yb_⟩
 case round=>
  clear H'
  (try clear p2)
  obtain ⟨x0_1,x1_1,rfl,rfl,HA,HK1,⟨m1,rfl⟩⟩:=hrel
  cases gk with
  |zero=>exact absurd HA.out (by simp [tr_gcd.l0])
  |succ k1=>
   have H:=HA.out
   clear HA
   simp only [tr_gcd.l0] at H
   by_cases c3:x1_1 > 0
   ·rw [if_pos c3] at H;have c3b0:decide (0<x1_1)=true:=decide_eq_true c3;clear c3
    by_cases c4:x1_1=0
    ·rw [if_pos c4] at H;exact absurd H (by simp)
    ·rw [if_neg c4] at H
     have c4b0:(x1_1 == 0)=false:=beq_eq_false_iff_ne.mpr c4
     have c4b1:(x1_1 != 0)=true:=bne_iff_ne.mpr c4
     have H':=A0_ H
     clear H;go_wp2
     repeat (go_quiet (fail);try go_wp2)
     go_roundg k1
     case measure=>have:=HK1.out;omega
     case rel=>exact ⟨(x1_1),(Int.tmod x0_1 x1_1),y4_,y4_,H',⟨by have:=HK1.out;omega⟩,yb_⟩
   ·rw [if_neg c3] at H;have c3b0:decide (0<x1_1)=false:=decide_eq_false c3;clear c3;obtain rfl:=Option.some.inj H;go_wp2
    repeat (go_quiet (fail);try go_wp2)
    go_ret
    exact ⟨y4_,yb_⟩
end Go.Proofs.YtjahbgldccjbfaaGreatDoor.PSky
end
section
namespace Go.Proofs.YtjahbgldccjbfaaGreatDoor.PSky
open Go.RowKit Go.Proofs.YtjahbgldccjbfaaGreatDoorW.PrintWords Go.Proofs.YtjahbgldccjbfaaGreatDoorW.PrintLast Go.Proofs.YtjahbgldccjbfaaGreatDoorW.PrintMore
attribute [local go_sem] max2_int min2_int max_two min_two max_three min_three max_four min_four
set_option linter.unusedVariables false
set_option linter.unusedSimpArgs false
def tr_Month.f (k:Nat) (l0_0:List (S74)) (a0_1:Int) (a0_2:Int) (a0_3:Int):Option (Int × Int × Bool):=if 0<(l0_0.length:Int) then (if 1<(l0_0.length:Int) then (if (wrap64 ((wrap64 (((rd_T74 l0_0 1).f0.f1)*((rd_T74 l0_0 0).f0.f0))) - (wrap64 (((rd_T74 l0_0 0).f0.f1)*((rd_T74 l0_0 1).f0.f0)))))≤0 then (some (0,0,false)) else ((tr_gcd.f k (wrap64 (((rd_T74 l0_0 1).f0.f0)*((rd_T74 l0_0 0).f0.f0))) (wrap64 ((wrap64 (((rd_T74 l0_0 1).f0.f1)*((rd_T74 l0_0 0).f0.f0))) - (wrap64 (((rd_T74 l0_0 0).f0.f1)*((rd_T74 l0_0 1).f0.f0)))))).bind fun t473=>(if t473=0 then (none) else (some (wrap64 (Int.tdiv (wrap64 (((rd_T74 l0_0 1).f0.f0)*((rd_T74 l0_0 0).f0.f0))) t473),wrap64 (Int.tdiv (wrap64 ((wrap64 (((rd_T74 l0_0 1).f0.f1)*((rd_T74 l0_0 0).f0.f0))) - (wrap64 (((rd_T74 l0_0 0).f0.f1)*((rd_T74 l0_0 1).f0.f0))))) t473),true))))) else (none)) else (none)
set_option maxRecDepth 100000 in
set_option maxHeartbeats 8000000 in
theorem tr_Month.calls (k:Nat) (A0_0:Option Addr) (c0_0:Nat) (l0_0:List (S74)) (a0_1:Int) (a0_2:Int) (a0_3:Int) (r1:Int) (r2:Int) (r3:Bool) (w:World) (hr0_0:Kd.C k74 w A0_0 l0_0.length l0_0) (hc0_0:l0_0.length≤c0_0) (h:tr_Month.f k l0_0 a0_1 a0_2 a0_3=some (r1,r2,r3)):
  Calls Tryz.prog 35 #[.agg #[.slice A0_0 l0_0.length c0_0,.int .i64 a0_1,.int .i64 a0_2,.int .i64 a0_3]] w fun e w'=>e=.returned (.tuple #[.int .i64 r1,.int .i64 r2,.bool r3])∧Below w.heap.size w w':=by
 unfold tr_Month.f at h
 by_cases h0:0<(l0_0.length:Int)
 case neg=>rw [if_neg h0] at h;cases h
 rw [if_pos h0] at h
 by_cases h1:1<(l0_0.length:Int)
 case neg=>rw [if_neg h1] at h;cases h
 rw [if_pos h1] at h
 obtain ⟨D,hD⟩:∃ D,wrap64 (wrap64 ((rd_T74 l0_0 1).f0.f1*(rd_T74 l0_0 0).f0.f0) - wrap64 ((rd_T74 l0_0 0).f0.f1*(rd_T74 l0_0 1).f0.f0))=D:=⟨_,rfl⟩
 rw [hD] at h
 have HF:=A0_ h;clear h;have HR:=A0_ hr0_0;clear hr0_0
 obtain ⟨ad,A3,c3,rfl,p0,p1,-,-,-,-⟩:=at_T74 HR.out 0 (by omega) h0
 obtain ⟨ad',A4,c4,e,q0,q1,-,-,-,-⟩:=at_T74 HR.out 1 (by omega) h1
 obtain rfl:=Option.some.inj e
 clear e HR
 rw [show (0:Int).toNat*4=0 from rfl,Addr.add_zero'] at p0 p1
 go_enter Tryz.func35,Tryz.ntmps35
 go_wp2
 have hB:=below_alloc (Below.refl w.heap.size w) (.cells #[.slice (some ad) l0_0.length c0_0,.int .i64 a0_1,.int .i64 a0_2,.int .i64 a0_3] 29)
 have bS:=blk_new w (.cells #[.slice (some ad) l0_0.length c0_0,.int .i64 a0_1,.int .i64 a0_2,.int .i64 a0_3] 29)
 have x0:_=some (Value.slice (some ad) l0_0.length c0_0):=(blk_cell bS 0).trans rfl
 have x1:_=some (Value.int .i64 a0_1):=(blk_cell bS 1).trans rfl
 have x2:_=some (Value.int .i64 a0_2):=(blk_cell bS 2).trans rfl
 have hlt:=World.block_lt_of_cell? w _ p0
 replace p0:=(hB.cell hlt).trans p0
 replace p1:=(hB.cell (World.block_lt_of_cell? w _ p1)).trans p1
 replace q0:=(hB.cell (World.block_lt_of_cell? w _ q0)).trans q0
 replace q1:=(hB.cell (World.block_lt_of_cell? w _ q1)).trans q1
 generalize w.alloc (.cells #[.slice (some ad) l0_0.length c0_0,.int .i64 a0_1,.int .i64 a0_2,.int .i64 a0_3] 29)=W at *
 simp only [show (1:Int).toNat=1 from rfl,Nat.reduceMul,Nat.reduceEqDiff,Go.Addr.add,↓reduceIte] at q0 q1
 have l0:0<l0_0.length:=by omega
 have l1:1<l0_0.length:=by omega
 have l2:(1:Int)<(l0_0.length:Int):=h1
 have hlt2:ad.block<W.heap.size:=Nat.lt_of_lt_of_le hlt hB.size
 have hlt3:w.heap.size<W.heap.size:=blk_lt bS
 clear bS
 go_region
 all_goals
  have hC:=fun u v n=>pw_below_drewN (below_alloc (below_alloc hB u) v) n
  go_wp2
  go_quiet (fail)
  by_cases hd:D≤0
  ·have hx:=HF.out
   rw [if_pos hd] at hx
   obtain ⟨rfl,rfl,rfl⟩:0=r1∧0=r2∧false=r3:=by simpa using hx
   go_wp2
   go_ret3
   exact ⟨rfl,hC _ _ _⟩
  ·have hx:=HF.out
   rw [if_neg hd] at hx
   obtain ⟨g,hg,hx⟩:=Option.bind_eq_some_iff.mp hx
   have HG:=A0_ hg;clear hg
   by_cases hz:g=0
   ·rw [if_pos hz] at hx;cases hx
   rw [if_neg hz] at hx
   simp only [Option.some.injEq,Prod.mk.injEq] at hx
   obtain ⟨rfl,rfl,rfl⟩:=hx
   go_wp2_with fail
   refine (tr_gcd.calls k _ _ g _ HG.out).mono ?_
   rintro e w2 ⟨rfl,⟨n1,rfl⟩⟩
   go_wp2
   go_quiet (fail)
   go_wp2
   go_ret3
   exact ⟨rfl,by repeat first|exact hC _ _ _|apply pw_below_drewN⟩
end Go.Proofs.YtjahbgldccjbfaaGreatDoor.PSky
end
section
namespace Go.Proofs.YtjahbgldccjbfaaGreatDoor.PSky
open Go.RowKit Go.Proofs.YtjahbgldccjbfaaGreatDoorW.PrintWords Go.Proofs.YtjahbgldccjbfaaGreatDoorW.PrintLast Go.Proofs.YtjahbgldccjbfaaGreatDoorW.PrintMore
attribute [local go_sem] max2_int min2_int max_two min_two max_three min_three max_four min_four
set_option linter.unusedVariables false
set_option linter.unusedSimpArgs false
def tr_Drift.f (l0_0:List (S74)) (a0_1:Int) (a0_2:Int) (a0_3:Int) (a1:Int):Option (Int):=if 0<(l0_0.length:Int) then (if 1<(l0_0.length:Int) then (if (wrap64 (a0_1*(wrap64 ((wrap64 (((rd_T74 l0_0 1).f0.f1)*((rd_T74 l0_0 0).f0.f0))) - (wrap64 (((rd_T74 l0_0 0).f0.f1)*((rd_T74 l0_0 1).f0.f0)))))))=0 then (none) else (some (wrap64 (Int.tdiv (wrap64 ((mn (Int.tmod (wrap64 ((wrap64 (2*a1))*(wrap64 ((wrap64 ((wrap64 (((rd_T74 l0_0 1).f0.f1)*a0_1))+(wrap64 (a0_2*((rd_T74 l0_0 1).f0.f0)))))*((rd_T74 l0_0 0).f0.f0))))) (wrap64 (a0_1*(wrap64 ((wrap64 (((rd_T74 l0_0 1).f0.f1)*((rd_T74 l0_0 0).f0.f0))) - (wrap64 (((rd_T74 l0_0 0).f0.f1)*((rd_T74 l0_0 1).f0.f0)))))))) (wrap64 ((wrap64 (a0_1*(wrap64 ((wrap64 (((rd_T74 l0_0 1).f0.f1)*((rd_T74 l0_0 0).f0.f0))) - (wrap64 (((rd_T74 l0_0 0).f0.f1)*((rd_T74 l0_0 1).f0.f0))))))) - (Int.tmod (wrap64 ((wrap64 (2*a1))*(wrap64 ((wrap64 ((wrap64 (((rd_T74 l0_0 1).f0.f1)*a0_1))+(wrap64 (a0_2*((rd_T74 l0_0 1).f0.f0)))))*((rd_T74 l0_0 0).f0.f0))))) (wrap64 (a0_1*(wrap64 ((wrap64 (((rd_T74 l0_0 1).f0.f1)*((rd_T74 l0_0 0).f0.f0))) - (wrap64 (((rd_T74 l0_0 0).f0.f1)*((rd_T74 l0_0 1).f0.f0)))))))))))*10800)) (wrap64 (a0_1*(wrap64 ((wrap64 (((rd_T74 l0_0 1).f0.f1)*((rd_T74 l0_0 0).f0.f0))) - (wrap64 (((rd_T74 l0_0 0).f0.f1)*((rd_T74 l0_0 1).f0.f0))))))))))) else (none)) else (none)
def tr_Drift.T1:Bool × List (List Nat × List Nat):=(true,[([],[]),([0],[0]),([1],[1]),([2],[2]),([3],[3]),([],[]),([5],[5]),([6],[6]),([7],[7]),([8],[8]),([],[]),([10],[10]),([11],[11]),([],[]),([],[]),([],[]),([13,4,0,1,2,3,4,13,14,15],[4,13]),([14,9,16,0,1,2,3,4,5,6,7,8,9,13,14,15,16],[9,14]),([15,12,17,0,1,2,3,4,5,6,7,8,9,10,11,12,13,14,15,16,17],[12,15])])
def tr_Drift.B1:List Nat:=[0,1,3,7,15,0,32,96,224,480,0,1024,3072,0,0,0,57375,123903,262143]
theorem tr_Drift.tab1:rtab .any (opsOf Tryz.f39 1)=tr_Drift.T1:=by kernel_rfl
theorem tr_Drift.bits1:waitsOk tr_Drift.T1.2 tr_Drift.B1=true:=by kernel_rfl
set_option maxHeartbeats 8000000 in
set_option maxRecDepth 100000 in
theorem tr_Drift.calls (A0_0:Option Addr) (c0_0:Nat) (l0_0:List (S74)) (a0_1:Int) (a0_2:Int) (a0_3:Int) (a1:Int) (r:Int) (w:World) (hr0_0:Kd.C k74 w A0_0 l0_0.length l0_0) (hc0_0:l0_0.length≤c0_0) (h:tr_Drift.f l0_0 a0_1 a0_2 a0_3 a1=some r):
  Calls Tryz.prog 39 #[.agg #[.slice A0_0 l0_0.length c0_0,.int .i64 a0_1,.int .i64 a0_2,.int .i64 a0_3],.int .i64 a1] w fun e w'=>e=.returned (.int .i64 r)∧Below w.heap.size w w':=by
 have hu29:=Tryz.underlying29
 have hu25:=Tryz.underlying25
 have HR0_0:=A0_ hr0_0;have HC0_0:=A0_ hc0_0;clear hr0_0 hc0_0
 have HB:=A0_ (Below.refl w.heap.size w)
 have H:(if 0<(l0_0.length:Int) then (if 1<(l0_0.length:Int) then (if (wrap64 (a0_1*(wrap64 ((wrap64 (((rd_T74 l0_0 1).f0.f1)*((rd_T74 l0_0 0).f0.f0))) - (wrap64 (((rd_T74 l0_0 0).f0.f1)*((rd_T74 l0_0 1).f0.f0)))))))=0 then (none) else (some (wrap64 (Int.tdiv (wrap64 ((mn (Int.tmod (wrap64 ((wrap64 (2*a1))*(wrap64 ((wrap64 ((wrap64 (((rd_T74 l0_0 1).f0.f1)*a0_1))+(wrap64 (a0_2*((rd_T74 l0_0 1).f0.f0)))))*((rd_T74 l0_0 0).f0.f0))))) (wrap64 (a0_1*(wrap64 ((wrap64 (((rd_T74 l0_0 1).f0.f1)*((rd_T74 l0_0 0).f0.f0))) - (wrap64 (((rd_T74 l0_0 0).f0.f1)*((rd_T74 l0_0 1).f0.f0)))))))) (wrap64 ((wrap64 (a0_1*(wrap64 ((wrap64 (((rd_T74 l0_0 1).f0.f1)*((rd_T74 l0_0 0).f0.f0))) - (wrap64 (((rd_T74 l0_0 0).f0.f1)*((rd_T74 l0_0 1).f0.f0))))))) - (Int.tmod (wrap64 ((wrap64 (2*a1))*(wrap64 ((wrap64 ((wrap64 (((rd_T74 l0_0 1).f0.f1)*a0_1))+(wrap64 (a0_2*((rd_T74 l0_0 1).f0.f0)))))*((rd_T74 l0_0 0).f0.f0))))) (wrap64 (a0_1*(wrap64 ((wrap64 (((rd_T74 l0_0 1).f0.f1)*((rd_T74 l0_0 0).f0.f0))) - (wrap64 (((rd_T74 l0_0 0).f0.f1)*((rd_T74 l0_0 1).f0.f0)))))))))))*10800)) (wrap64 (a0_1*(wrap64 ((wrap64 (((rd_T74 l0_0 1).f0.f1)*((rd_T74 l0_0 0).f0.f0))) - (wrap64 (((rd_T74 l0_0 0).f0.f1)*((rd_T74 l0_0 1).f0.f0))))))))))) else (none)) else (none))=some r:=h
 clear h
 by_cases c3:0<(l0_0.length:Int)
 ·rw [if_pos c3] at H;have c3b0:decide (0<(l0_0.length:Int))=true:=decide_eq_true c3
  have c3b1:decide (0<l0_0.length)=true:=decide_eq_true (by omega)
  clear c3
  by_cases c4:1<(l0_0.length:Int)
  ·rw [if_pos c4] at H;have c4b0:decide (1<(l0_0.length:Int))=true:=decide_eq_true c4
   have c4b1:decide (1<l0_0.length)=true:=decide_eq_true (by omega)
   clear c4
   by_cases c5:(wrap64 (a0_1*(wrap64 ((wrap64 (((rd_T74 l0_0 1).f0.f1)*((rd_T74 l0_0 0).f0.f0))) - (wrap64 (((rd_T74 l0_0 0).f0.f1)*((rd_T74 l0_0 1).f0.f0)))))))=0
   ·rw [if_pos c5] at H;exact absurd H (by simp)
   ·rw [if_neg c5] at H
    have c5b0:((wrap64 (a0_1*(wrap64 ((wrap64 (((rd_T74 l0_0 1).f0.f1)*((rd_T74 l0_0 0).f0.f0))) - (wrap64 (((rd_T74 l0_0 0).f0.f1)*((rd_T74 l0_0 1).f0.f0))))))) == 0)=false:=beq_eq_false_iff_ne.mpr c5
    have c5b1:((wrap64 (a0_1*(wrap64 ((wrap64 (((rd_T74 l0_0 1).f0.f1)*((rd_T74 l0_0 0).f0.f0))) - (wrap64 (((rd_T74 l0_0 0).f0.f1)*((rd_T74 l0_0 1).f0.f0))))))) != 0)=true:=bne_iff_ne.mpr c5
    obtain ⟨ji6,hji6⟩:∃ j_:Int,(mn (Int.tmod (wrap64 ((wrap64 (2*a1))*(wrap64 ((wrap64 ((wrap64 (((rd_T74 l0_0 1).f0.f1)*a0_1))+(wrap64 (a0_2*((rd_T74 l0_0 1).f0.f0)))))*((rd_T74 l0_0 0).f0.f0))))) (wrap64 (a0_1*(wrap64 ((wrap64 (((rd_T74 l0_0 1).f0.f1)*((rd_T74 l0_0 0).f0.f0))) - (wrap64 (((rd_T74 l0_0 0).f0.f1)*((rd_T74 l0_0 1).f0.f0)))))))) (wrap64 ((wrap64 (a0_1*(wrap64 ((wrap64 (((rd_T74 l0_0 1).f0.f1)*((rd_T74 l0_0 0).f0.f0))) - (wrap64 (((rd_T74 l0_0 0).f0.f1)*((rd_T74 l0_0 1).f0.f0))))))) - (Int.tmod (wrap64 ((wrap64 (2*a1))*(wrap64 ((wrap64 ((wrap64 (((rd_T74 l0_0 1).f0.f1)*a0_1))+(wrap64 (a0_2*((rd_T74 l0_0 1).f0.f0)))))*((rd_T74 l0_0 0).f0.f0))))) (wrap64 (a0_1*(wrap64 ((wrap64 (((rd_T74 l0_0 1).f0.f1)*((rd_T74 l0_0 0).f0.f0))) - (wrap64 (((rd_T74 l0_0 0).f0.f1)*((rd_T74 l0_0 1).f0.f0)))))))))))=j_:=⟨_,rfl⟩
    replace H:(some (wrap64 (Int.tdiv (wrap64 ((ji6)*10800)) (wrap64 (a0_1*(wrap64 ((wrap64 (((rd_T74 l0_0 1).f0.f1)*((rd_T74 l0_0 0).f0.f0))) - (wrap64 (((rd_T74 l0_0 0).f0.f1)*((rd_T74 l0_0 1).f0.f0))))))))))=some r:=by first|(rw [hji6] at H;exact H)|(simp only [hji6] at H ⊢;exact H)
    have hji6_:(if (wrap64 ((wrap64 (a0_1*(wrap64 ((wrap64 (((rd_T74 l0_0 1).f0.f1)*((rd_T74 l0_0 0).f0.f0))) - (wrap64 (((rd_T74 l0_0 0).f0.f1)*((rd_T74 l0_0 1).f0.f0))))))) - (Int.tmod (wrap64 ((wrap64 (2*a1))*(wrap64 ((wrap64 ((wrap64 (((rd_T74 l0_0 1).f0.f1)*a0_1))+(wrap64 (a0_2*((rd_T74 l0_0 1).f0.f0)))))*((rd_T74 l0_0 0).f0.f0))))) (wrap64 (a0_1*(wrap64 ((wrap64 (((rd_T74 l0_0 1).f0.f1)*((rd_T74 l0_0 0).f0.f0))) - (wrap64 (((rd_T74 l0_0 0).f0.f1)*((rd_T74 l0_0 1).f0.f0))))))))))<(Int.tmod (wrap64 ((wrap64 (2*a1))*(wrap64 ((wrap64 ((wrap64 (((rd_T74 l0_0 1).f0.f1)*a0_1))+(wrap64 (a0_2*((rd_T74 l0_0 1).f0.f0)))))*((rd_T74 l0_0 0).f0.f0))))) (wrap64 (a0_1*(wrap64 ((wrap64 (((rd_T74 l0_0 1).f0.f1)*((rd_T74 l0_0 0).f0.f0))) - (wrap64 (((rd_T74 l0_0 0).f0.f1)*((rd_T74 l0_0 1).f0.f0)))))))) then (wrap64 ((wrap64 (a0_1*(wrap64 ((wrap64 (((rd_T74 l0_0 1).f0.f1)*((rd_T74 l0_0 0).f0.f0))) - (wrap64 (((rd_T74 l0_0 0).f0.f1)*((rd_T74 l0_0 1).f0.f0))))))) - (Int.tmod (wrap64 ((wrap64 (2*a1))*(wrap64 ((wrap64 ((wrap64 (((rd_T74 l0_0 1).f0.f1)*a0_1))+(wrap64 (a0_2*((rd_T74 l0_0 1).f0.f0)))))*((rd_T74 l0_0 0).f0.f0))))) (wrap64 (a0_1*(wrap64 ((wrap64 (((rd_T74 l0_0 1).f0.f1)*((rd_T74 l0_0 0).f0.f0))) - (wrap64 (((rd_T74 l0_0 0).f0.f1)*((rd_T74 l0_0 1).f0.f0)))))))))) else (Int.tmod (wrap64 ((wrap64 (2*a1))*(wrap64 ((wrap64 ((wrap64 (((rd_T74 l0_0 1).f0.f1)*a0_1))+(wrap64 (a0_2*((rd_T74 l0_0 1).f0.f0)))))*((rd_T74 l0_0 0).f0.f0))))) (wrap64 (a0_1*(wrap64 ((wrap64 (((rd_T74 l0_0 1).f0.f1)*((rd_T74 l0_0 0).f0.f0))) - (wrap64 (((rd_T74 l0_0 0).f0.f1)*((rd_T74 l0_0 1).f0.f0)))))))))=ji6:=hji6
    obtain rfl:=Option.some.inj H
    go_enter Tryz.func39,Tryz.ntmps39
    try go_wp2_with (first|((with_reducible refine gate_dst (N:=2) rfl ?_);refine box_event ?hg (N:=2) ?hd (cs:=#[.slice A0_0 l0_0.length c0_0,.int .i64 a0_1,.int .i64 a0_2,.int .i64 a0_3]) (t:=29) ?hr ?_;(case hd=>rfl);(case hg=>rfl);(case hr=>first|(go_simp;done)|(go_simp;rfl));intro gb476 hg w7 hbox hb;have n0_:=A0_ (below_step y0_ hb);have n1_:=A0_ (hbox);have n2_:=A0_ ((by rw [hg];exact (below_size y0_):w.heap.size≤gb476));have n3_:=A0_ ((by rw [hg];exact (below_size y0_):w.heap.size≤gb476));clear HB;have HB:=n0_;have BK476:=n1_;have GW476:=n2_;have GE476:=n3_;clear n0_ n1_ n2_ n3_;clear hb hbox hg))
    have n0_:=A0_ (blk_drew BK476.out);have n1_:=A0_ (below_drew1 HB.out);clear BK476;clear HB;have BK476:=n0_;have HB:=n1_;clear n0_ n1_
    have p477:0≤(0:Int):=(by omega)
    have q477:0<(l0_0.length:Int):=of_decide_eq_true y5_
    obtain ⟨ad477,A477_3,c477_3,e477,hx477_0,hx477_1,hx477_2,hx477_3,hl477_3,hi477_3⟩:=at_T74 HR0_0.out 0 p477 q477
    have hw477_3:=hx477_3
    (try rw [show ((0:Int)).toNat=0 from rfl] at hw477_3)
    (try rw [show 0*4=0 from rfl] at hw477_3)
    (try rw [Addr.add_zero'] at hw477_3)
    have hw477_2:=hx477_2
    (try rw [show ((0:Int)).toNat=0 from rfl] at hw477_2)
    (try rw [show 0*4=0 from rfl] at hw477_2)
    (try rw [Addr.add_zero'] at hw477_2)
    have hw477_1:=hx477_1
    (try rw [show ((0:Int)).toNat=0 from rfl] at hw477_1)
    (try rw [show 0*4=0 from rfl] at hw477_1)
    (try rw [Addr.add_zero'] at hw477_1)
    have hw477_0:=hx477_0
    (try rw [show ((0:Int)).toNat=0 from rfl] at hw477_0)
    (try rw [show 0*4=0 from rfl] at hw477_0)
    (try rw [Addr.add_zero'] at hw477_0)
    cases e477
    have qi477:(0<l0_0.length)=True:=eq_true (by omega)
    (try rw [show ((0:Int)).toNat=0 from rfl] at hx477_0)
    (try rw [show 0*4=0 from rfl] at hx477_0)
    (try rw [Addr.add_zero'] at hx477_0)
    (try rw [show ((0:Int)).toNat=0 from rfl] at hx477_1)
    (try rw [show 0*4=0 from rfl] at hx477_1)
    (try rw [Addr.add_zero'] at hx477_1)
    (try rw [show ((0:Int)).toNat=0 from rfl] at hx477_2)
    (try rw [show 0*4=0 from rfl] at hx477_2)
    (try rw [Addr.add_zero'] at hx477_2)
    (try rw [show ((0:Int)).toNat=0 from rfl] at hx477_3)
    (try rw [show 0*4=0 from rfl] at hx477_3)
    (try rw [Addr.add_zero'] at hx477_3)
    replace hx477_0:=(HB.out.cell (World.block_lt_of_cell? w _ hx477_0)).trans hx477_0
    replace hx477_1:=(HB.out.cell (World.block_lt_of_cell? w _ hx477_1)).trans hx477_1
    replace hx477_2:=(HB.out.cell (World.block_lt_of_cell? w _ hx477_2)).trans hx477_2
    replace hx477_3:=(HB.out.cell (World.block_lt_of_cell? w _ hx477_3)).trans hx477_3
    have HR477_3:=A0_ hi477_3;have HC477_3:=A0_ hl477_3;clear hi477_3 hl477_3
    replace p477:=eq_true p477
    replace q477:=eq_true q477
    have p478:0≤(1:Int):=(by omega)
    have q478:1<(l0_0.length:Int):=of_decide_eq_true y5_
    obtain ⟨ad478,A478_3,c478_3,e478,hx478_0,hx478_1,hx478_2,hx478_3,hl478_3,hi478_3⟩:=at_T74 HR0_0.out 1 p478 q478
    have hw478_3:=hx478_3
    (try rw [show ((1:Int)).toNat=1 from rfl] at hw478_3)
    (try rw [show 1*4=4 from rfl] at hw478_3)
    (try simp only [Nat.reduceMul,Nat.reduceEqDiff,Go.Addr.add,↓reduceIte] at hw478_3)
    have hw478_2:=hx478_2
    (try rw [show ((1:Int)).toNat=1 from rfl] at hw478_2)
    (try rw [show 1*4=4 from rfl] at hw478_2)
    (try simp only [Nat.reduceMul,Nat.reduceEqDiff,Go.Addr.add,↓reduceIte] at hw478_2)
    have hw478_1:=hx478_1
    (try rw [show ((1:Int)).toNat=1 from rfl] at hw478_1)
    (try rw [show 1*4=4 from rfl] at hw478_1)
    (try simp only [Nat.reduceMul,Nat.reduceEqDiff,Go.Addr.add,↓reduceIte] at hw478_1)
    have hw478_0:=hx478_0
    (try rw [show ((1:Int)).toNat=1 from rfl] at hw478_0)
    (try rw [show 1*4=4 from rfl] at hw478_0)
    (try simp only [Nat.reduceMul,Nat.reduceEqDiff,Go.Addr.add,↓reduceIte] at hw478_0)
    obtain rfl:ad477=ad478:=(by injection e478)
    (try simp only [show (1:Int).toNat=1 from rfl,Nat.reduceMul,Nat.reduceEqDiff,Go.Addr.add,↓reduceIte] at hx478_0)
    (try simp only [show (1:Int).toNat=1 from rfl,Nat.reduceMul,Nat.reduceEqDiff,Go.Addr.add,↓reduceIte] at hx478_1)
    (try simp only [show (1:Int).toNat=1 from rfl,Nat.reduceMul,Nat.reduceEqDiff,Go.Addr.add,↓reduceIte] at hx478_2)
    (try simp only [show (1:Int).toNat=1 from rfl,Nat.reduceMul,Nat.reduceEqDiff,Go.Addr.add,↓reduceIte] at hx478_3)
    have qi478:(1<l0_0.length)=True:=eq_true (by omega)
    (try rw [show ((1:Int)).toNat=1 from rfl] at hx478_0)
    (try rw [show 1*4=4 from rfl] at hx478_0)
    (try rw [show ((1:Int)).toNat=1 from rfl] at hx478_1)
    (try rw [show 1*4=4 from rfl] at hx478_1)
    (try rw [show ((1:Int)).toNat=1 from rfl] at hx478_2)
    (try rw [show 1*4=4 from rfl] at hx478_2)
    (try rw [show ((1:Int)).toNat=1 from rfl] at hx478_3)
    (try rw [show 1*4=4 from rfl] at hx478_3)
    replace hx478_0:=(HB.out.cell (World.block_lt_of_cell? w _ hx478_0)).trans hx478_0
    replace hx478_1:=(HB.out.cell (World.block_lt_of_cell? w _ hx478_1)).trans hx478_1
    replace hx478_2:=(HB.out.cell (World.block_lt_of_cell? w _ hx478_2)).trans hx478_2
    replace hx478_3:=(HB.out.cell (World.block_lt_of_cell? w _ hx478_3)).trans hx478_3
    have HR478_3:=A0_ hi478_3;have HC478_3:=A0_ hl478_3;clear hi478_3 hl478_3
    replace p478:=eq_true p478
    replace q478:=eq_true q478
    refine start_ (n:=19) (S:=fun w'=>w'.cell? ⟨gb476,0,none⟩=some (.slice (some ad477) l0_0.length c0_0)∧w'.cell? ⟨gb476,1,none⟩=some (.int .i64 a0_1)∧w'.cell? ⟨gb476,2,none⟩=some (.int .i64 a0_2)∧w'.cell? ⟨gb476,3,none⟩=some (.int .i64 a0_3)∧w'.cell? ad477=some (.int .i64 ((rd_T74 l0_0 0).f0.f0))∧w'.cell? ⟨ad477.block,ad477.off+1,none⟩=some (.int .i64 ((rd_T74 l0_0 0).f0.f1))∧w'.cell? ⟨ad477.block,ad477.off+2,none⟩=some (.int .i64 ((rd_T74 l0_0 0).f1))∧w'.cell? ⟨ad477.block,ad477.off+3,none⟩=some (.slice A477_3 ((rd_T74 l0_0 0).f2).length c477_3)∧w'.cell? ⟨ad477.block,ad477.off+4,none⟩=some (.int .i64 ((rd_T74 l0_0 1).f0.f0))∧w'.cell? ⟨ad477.block,ad477.off+4+1,none⟩=some (.int .i64 ((rd_T74 l0_0 1).f0.f1))∧w'.cell? ⟨ad477.block,ad477.off+4+2,none⟩=some (.int .i64 ((rd_T74 l0_0 1).f1))∧w'.cell? ⟨ad477.block,ad477.off+4+3,none⟩=some (.slice A478_3 ((rd_T74 l0_0 1).f2).length c478_3)) (ds:=[]) #[false,false,false,false,false,false,false,false,false,false,false,false,false,false,false,false,false,false,false] (by kernel_rfl) rfl rfl ⟨(blk_cell BK476.out 0).trans rfl,(blk_cell BK476.out 1).trans rfl,(blk_cell BK476.out 2).trans rfl,(blk_cell BK476.out 3).trans rfl,((HB.out.cell (World.block_lt_of_cell? w _ hw477_0)).trans hw477_0),((HB.out.cell (World.block_lt_of_cell? w _ hw477_1)).trans hw477_1),((HB.out.cell (World.block_lt_of_cell? w _ hw477_2)).trans hw477_2),((HB.out.cell (World.block_lt_of_cell? w _ hw477_3)).trans hw477_3),((HB.out.cell (World.block_lt_of_cell? w _ hw478_0)).trans hw478_0),((HB.out.cell (World.block_lt_of_cell? w _ hw478_1)).trans hw478_1),((HB.out.cell (World.block_lt_of_cell? w _ hw478_2)).trans hw478_2),((HB.out.cell (World.block_lt_of_cell? w _ hw478_3)).trans hw478_3)⟩ (fun hHeld=>?_);refine with_tabW tr_Drift.tab1 tr_Drift.bits1 (fun HT_ HW_=>?_)
    generalize w7.drew=w8 at BK476 HB HR477_3 HR478_3 hx477_0 hx477_1 hx477_2 hx477_3 hx478_0 hx478_1 hx478_2 hx478_3 hHeld ⊢
    refine pu_ (i:=0) (N:=some 11) ?_;refine pu_ (i:=5) (N:=some 16) ?_;refine pu_ (i:=10) (N:=some 21) ?_;refine pu_ (i:=11) (N:=some 22) ?_;refine ta_ (i:=1) (N:=some 12) ?_;refine pu_ (i:=2) (N:=some 13) ?_;refine pu_ (i:=3) (N:=some 14) ?_;refine ta_ (i:=4) (N:=some 15) ?_;refine ta_ (i:=6) (N:=some 17) ?_;refine pu_ (i:=7) (N:=some 18) ?_;refine pu_ (i:=8) (N:=some 19) ?_;refine ta_ (i:=9) (N:=some 20) ?_;refine ta_ (i:=12) (N:=some 23) ?_
    refine join_ (σ:=Nat × Nat × Nat) 3 #[true,true,true,true,true,true,true,true,true,true,true,true,true,true,true,true,false,false,false] (fun s_=>[(5,.pointer (some ⟨s_.1,0,none⟩)),(6,.pointer (some ⟨s_.2.1,0,none⟩)),(7,.pointer (some ⟨s_.2.2,0,none⟩))]) (fun s_ w'=>(w'.cell? ⟨gb476,0,none⟩=some (.slice (some ad477) l0_0.length c0_0)∧w'.cell? ⟨gb476,1,none⟩=some (.int .i64 a0_1)∧w'.cell? ⟨gb476,2,none⟩=some (.int .i64 a0_2)∧w'.cell? ⟨gb476,3,none⟩=some (.int .i64 a0_3)∧w'.cell? ad477=some (.int .i64 ((rd_T74 l0_0 0).f0.f0))∧w'.cell? ⟨ad477.block,ad477.off+1,none⟩=some (.int .i64 ((rd_T74 l0_0 0).f0.f1))∧w'.cell? ⟨ad477.block,ad477.off+2,none⟩=some (.int .i64 ((rd_T74 l0_0 0).f1))∧w'.cell? ⟨ad477.block,ad477.off+3,none⟩=some (.slice A477_3 ((rd_T74 l0_0 0).f2).length c477_3)∧w'.cell? ⟨ad477.block,ad477.off+4,none⟩=some (.int .i64 ((rd_T74 l0_0 1).f0.f0))∧w'.cell? ⟨ad477.block,ad477.off+4+1,none⟩=some (.int .i64 ((rd_T74 l0_0 1).f0.f1))∧w'.cell? ⟨ad477.block,ad477.off+4+2,none⟩=some (.int .i64 ((rd_T74 l0_0 1).f1))∧w'.cell? ⟨ad477.block,ad477.off+4+3,none⟩=some (.slice A478_3 ((rd_T74 l0_0 1).f2).length c478_3))∧(w'.heap[gb476]?=some (.cells #[.slice (some ad477) l0_0.length c0_0,.int .i64 a0_1,.int .i64 a0_2,.int .i64 a0_3] 29 (0,0)))∧(w'.heap[s_.1]?=some (.cells #[.int .i64 0,.int .i64 0] 25 (0,0)))∧(w'.heap[s_.2.1]?=some (.cells #[.int .i64 0,.int .i64 0] 25 (0,0)))∧(w'.heap[s_.2.2]?=some (.cells #[.int .i64 0,.int .i64 0] 25 (0,0)))∧(w.heap.size≤s_.1)∧(w.heap.size≤s_.1)∧(gb476≠s_.1)∧(s_.1≠gb476)∧(s_.2.1≠s_.1)∧(s_.1≠s_.2.1)∧(s_.2.2≠s_.1)∧(s_.1≠s_.2.2)∧(w.heap.size≤s_.2.1)∧(w.heap.size≤s_.2.1)∧(gb476≠s_.2.1)∧(s_.2.1≠gb476)∧(s_.2.2≠s_.2.1)∧(s_.2.1≠s_.2.2)∧(w.heap.size≤s_.2.2)∧(w.heap.size≤s_.2.2)∧(gb476≠s_.2.2)∧(s_.2.2≠gb476)∧(Below w.heap.size w w')) ?_ ?_
    rotate_left
    ·intro hJ13_14_15
     refine join_ (σ:=Nat × Nat) 4 #[true,true,true,true,true,true,true,true,true,true,true,true,true,true,true,false,false,false,false] (fun s_=>[(5,.pointer (some ⟨s_.1,0,none⟩)),(6,.pointer (some ⟨s_.2,0,none⟩))]) (fun s_ w'=>(w'.cell? ⟨gb476,0,none⟩=some (.slice (some ad477) l0_0.length c0_0)∧w'.cell? ⟨gb476,1,none⟩=some (.int .i64 a0_1)∧w'.cell? ⟨gb476,2,none⟩=some (.int .i64 a0_2)∧w'.cell? ⟨gb476,3,none⟩=some (.int .i64 a0_3)∧w'.cell? ad477=some (.int .i64 ((rd_T74 l0_0 0).f0.f0))∧w'.cell? ⟨ad477.block,ad477.off+1,none⟩=some (.int .i64 ((rd_T74 l0_0 0).f0.f1))∧w'.cell? ⟨ad477.block,ad477.off+2,none⟩=some (.int .i64 ((rd_T74 l0_0 0).f1))∧w'.cell? ⟨ad477.block,ad477.off+3,none⟩=some (.slice A477_3 ((rd_T74 l0_0 0).f2).length c477_3)∧w'.cell? ⟨ad477.block,ad477.off+4,none⟩=some (.int .i64 ((rd_T74 l0_0 1).f0.f0))∧w'.cell? ⟨ad477.block,ad477.off+4+1,none⟩=some (.int .i64 ((rd_T74 l0_0 1).f0.f1))∧w'.cell? ⟨ad477.block,ad477.off+4+2,none⟩=some (.int .i64 ((rd_T74 l0_0 1).f1))∧w'.cell? ⟨ad477.block,ad477.off+4+3,none⟩=some (.slice A478_3 ((rd_T74 l0_0 1).f2).length c478_3))∧(w'.heap[gb476]?=some (.cells #[.slice (some ad477) l0_0.length c0_0,.int .i64 a0_1,.int .i64 a0_2,.int .i64 a0_3] 29 (0,0)))∧(w'.heap[s_.1]?=some (.cells #[.int .i64 0,.int .i64 0] 25 (0,0)))∧(w'.heap[s_.2]?=some (.cells #[.int .i64 0,.int .i64 0] 25 (0,0)))∧(w.heap.size≤s_.1)∧(w.heap.size≤s_.1)∧(gb476≠s_.1)∧(s_.1≠gb476)∧(s_.2≠s_.1)∧(s_.1≠s_.2)∧(w.heap.size≤s_.2)∧(w.heap.size≤s_.2)∧(gb476≠s_.2)∧(s_.2≠gb476)∧(Below w.heap.size w w')) ?_ ?_
     rotate_left
     ·intro hJ13_14
      refine join_ (σ:=Nat × Nat) 4 #[true,true,true,true,true,true,true,true,true,true,true,true,true,true,false,true,false,false,false] (fun s_=>[(5,.pointer (some ⟨s_.1,0,none⟩)),(7,.pointer (some ⟨s_.2,0,none⟩))]) (fun s_ w'=>(w'.cell? ⟨gb476,0,none⟩=some (.slice (some ad477) l0_0.length c0_0)∧w'.cell? ⟨gb476,1,none⟩=some (.int .i64 a0_1)∧w'.cell? ⟨gb476,2,none⟩=some (.int .i64 a0_2)∧w'.cell? ⟨gb476,3,none⟩=some (.int .i64 a0_3)∧w'.cell? ad477=some (.int .i64 ((rd_T74 l0_0 0).f0.f0))∧w'.cell? ⟨ad477.block,ad477.off+1,none⟩=some (.int .i64 ((rd_T74 l0_0 0).f0.f1))∧w'.cell? ⟨ad477.block,ad477.off+2,none⟩=some (.int .i64 ((rd_T74 l0_0 0).f1))∧w'.cell? ⟨ad477.block,ad477.off+3,none⟩=some (.slice A477_3 ((rd_T74 l0_0 0).f2).length c477_3)∧w'.cell? ⟨ad477.block,ad477.off+4,none⟩=some (.int .i64 ((rd_T74 l0_0 1).f0.f0))∧w'.cell? ⟨ad477.block,ad477.off+4+1,none⟩=some (.int .i64 ((rd_T74 l0_0 1).f0.f1))∧w'.cell? ⟨ad477.block,ad477.off+4+2,none⟩=some (.int .i64 ((rd_T74 l0_0 1).f1))∧w'.cell? ⟨ad477.block,ad477.off+4+3,none⟩=some (.slice A478_3 ((rd_T74 l0_0 1).f2).length c478_3))∧(w'.heap[gb476]?=some (.cells #[.slice (some ad477) l0_0.length c0_0,.int .i64 a0_1,.int .i64 a0_2,.int .i64 a0_3] 29 (0,0)))∧(w'.heap[s_.1]?=some (.cells #[.int .i64 0,.int .i64 0] 25 (0,0)))∧(w'.heap[s_.2]?=some (.cells #[.int .i64 0,.int .i64 0] 25 (0,0)))∧(w.heap.size≤s_.1)∧(w.heap.size≤s_.1)∧(gb476≠s_.1)∧(s_.1≠gb476)∧(s_.2≠s_.1)∧(s_.1≠s_.2)∧(w.heap.size≤s_.2)∧(w.heap.size≤s_.2)∧(gb476≠s_.2)∧(s_.2≠gb476)∧(Below w.heap.size w w')) ?_ ?_
      rotate_left
      ·intro hJ13_15
       refine join_ (σ:=Nat × Nat) 4 #[true,true,true,true,true,true,true,true,true,true,true,true,true,false,true,true,false,false,false] (fun s_=>[(6,.pointer (some ⟨s_.1,0,none⟩)),(7,.pointer (some ⟨s_.2,0,none⟩))]) (fun s_ w'=>(w'.cell? ⟨gb476,0,none⟩=some (.slice (some ad477) l0_0.length c0_0)∧w'.cell? ⟨gb476,1,none⟩=some (.int .i64 a0_1)∧w'.cell? ⟨gb476,2,none⟩=some (.int .i64 a0_2)∧w'.cell? ⟨gb476,3,none⟩=some (.int .i64 a0_3)∧w'.cell? ad477=some (.int .i64 ((rd_T74 l0_0 0).f0.f0))∧w'.cell? ⟨ad477.block,ad477.off+1,none⟩=some (.int .i64 ((rd_T74 l0_0 0).f0.f1))∧w'.cell? ⟨ad477.block,ad477.off+2,none⟩=some (.int .i64 ((rd_T74 l0_0 0).f1))∧w'.cell? ⟨ad477.block,ad477.off+3,none⟩=some (.slice A477_3 ((rd_T74 l0_0 0).f2).length c477_3)∧w'.cell? ⟨ad477.block,ad477.off+4,none⟩=some (.int .i64 ((rd_T74 l0_0 1).f0.f0))∧w'.cell? ⟨ad477.block,ad477.off+4+1,none⟩=some (.int .i64 ((rd_T74 l0_0 1).f0.f1))∧w'.cell? ⟨ad477.block,ad477.off+4+2,none⟩=some (.int .i64 ((rd_T74 l0_0 1).f1))∧w'.cell? ⟨ad477.block,ad477.off+4+3,none⟩=some (.slice A478_3 ((rd_T74 l0_0 1).f2).length c478_3))∧(w'.heap[gb476]?=some (.cells #[.slice (some ad477) l0_0.length c0_0,.int .i64 a0_1,.int .i64 a0_2,.int .i64 a0_3] 29 (0,0)))∧(w'.heap[s_.1]?=some (.cells #[.int .i64 0,.int .i64 0] 25 (0,0)))∧(w'.heap[s_.2]?=some (.cells #[.int .i64 0,.int .i64 0] 25 (0,0)))∧(w.heap.size≤s_.1)∧(w.heap.size≤s_.1)∧(gb476≠s_.1)∧(s_.1≠gb476)∧(s_.2≠s_.1)∧(s_.1≠s_.2)∧(w.heap.size≤s_.2)∧(w.heap.size≤s_.2)∧(gb476≠s_.2)∧(s_.2≠gb476)∧(Below w.heap.size w w')) ?_ ?_
       rotate_left
       ·intro hJ14_15
        refine join_ (σ:=Nat) 5 #[true,true,true,true,true,true,true,true,true,true,true,true,true,true,false,false,false,false,false] (fun s_=>[(5,.pointer (some ⟨s_,0,none⟩))]) (fun s_ w'=>(w'.cell? ⟨gb476,0,none⟩=some (.slice (some ad477) l0_0.length c0_0)∧w'.cell? ⟨gb476,1,none⟩=some (.int .i64 a0_1)∧w'.cell? ⟨gb476,2,none⟩=some (.int .i64 a0_2)∧w'.cell? ⟨gb476,3,none⟩=some (.int .i64 a0_3)∧w'.cell? ad477=some (.int .i64 ((rd_T74 l0_0 0).f0.f0))∧w'.cell? ⟨ad477.block,ad477.off+1,none⟩=some (.int .i64 ((rd_T74 l0_0 0).f0.f1))∧w'.cell? ⟨ad477.block,ad477.off+2,none⟩=some (.int .i64 ((rd_T74 l0_0 0).f1))∧w'.cell? ⟨ad477.block,ad477.off+3,none⟩=some (.slice A477_3 ((rd_T74 l0_0 0).f2).length c477_3)∧w'.cell? ⟨ad477.block,ad477.off+4,none⟩=some (.int .i64 ((rd_T74 l0_0 1).f0.f0))∧w'.cell? ⟨ad477.block,ad477.off+4+1,none⟩=some (.int .i64 ((rd_T74 l0_0 1).f0.f1))∧w'.cell? ⟨ad477.block,ad477.off+4+2,none⟩=some (.int .i64 ((rd_T74 l0_0 1).f1))∧w'.cell? ⟨ad477.block,ad477.off+4+3,none⟩=some (.slice A478_3 ((rd_T74 l0_0 1).f2).length c478_3))∧(w'.heap[gb476]?=some (.cells #[.slice (some ad477) l0_0.length c0_0,.int .i64 a0_1,.int .i64 a0_2,.int .i64 a0_3] 29 (0,0)))∧(w'.heap[s_]?=some (.cells #[.int .i64 0,.int .i64 0] 25 (0,0)))∧(w.heap.size≤s_)∧(w.heap.size≤s_)∧(gb476≠s_)∧(s_≠gb476)∧(Below w.heap.size w w')) ?_ ?_
        rotate_left
        ·intro hJ13
         refine join_ (σ:=Nat) 5 #[true,true,true,true,true,true,true,true,true,true,true,true,true,false,true,false,false,false,false] (fun s_=>[(6,.pointer (some ⟨s_,0,none⟩))]) (fun s_ w'=>(w'.cell? ⟨gb476,0,none⟩=some (.slice (some ad477) l0_0.length c0_0)∧w'.cell? ⟨gb476,1,none⟩=some (.int .i64 a0_1)∧w'.cell? ⟨gb476,2,none⟩=some (.int .i64 a0_2)∧w'.cell? ⟨gb476,3,none⟩=some (.int .i64 a0_3)∧w'.cell? ad477=some (.int .i64 ((rd_T74 l0_0 0).f0.f0))∧w'.cell? ⟨ad477.block,ad477.off+1,none⟩=some (.int .i64 ((rd_T74 l0_0 0).f0.f1))∧w'.cell? ⟨ad477.block,ad477.off+2,none⟩=some (.int .i64 ((rd_T74 l0_0 0).f1))∧w'.cell? ⟨ad477.block,ad477.off+3,none⟩=some (.slice A477_3 ((rd_T74 l0_0 0).f2).length c477_3)∧w'.cell? ⟨ad477.block,ad477.off+4,none⟩=some (.int .i64 ((rd_T74 l0_0 1).f0.f0))∧w'.cell? ⟨ad477.block,ad477.off+4+1,none⟩=some (.int .i64 ((rd_T74 l0_0 1).f0.f1))∧w'.cell? ⟨ad477.block,ad477.off+4+2,none⟩=some (.int .i64 ((rd_T74 l0_0 1).f1))∧w'.cell? ⟨ad477.block,ad477.off+4+3,none⟩=some (.slice A478_3 ((rd_T74 l0_0 1).f2).length c478_3))∧(w'.heap[gb476]?=some (.cells #[.slice (some ad477) l0_0.length c0_0,.int .i64 a0_1,.int .i64 a0_2,.int .i64 a0_3] 29 (0,0)))∧(w'.heap[s_]?=some (.cells #[.int .i64 0,.int .i64 0] 25 (0,0)))∧(w.heap.size≤s_)∧(w.heap.size≤s_)∧(gb476≠s_)∧(s_≠gb476)∧(Below w.heap.size w w')) ?_ ?_
         rotate_left
         ·intro hJ14
          refine join_ (σ:=Nat) 5 #[true,true,true,true,true,true,true,true,true,true,true,true,true,false,false,true,false,false,false] (fun s_=>[(7,.pointer (some ⟨s_,0,none⟩))]) (fun s_ w'=>(w'.cell? ⟨gb476,0,none⟩=some (.slice (some ad477) l0_0.length c0_0)∧w'.cell? ⟨gb476,1,none⟩=some (.int .i64 a0_1)∧w'.cell? ⟨gb476,2,none⟩=some (.int .i64 a0_2)∧w'.cell? ⟨gb476,3,none⟩=some (.int .i64 a0_3)∧w'.cell? ad477=some (.int .i64 ((rd_T74 l0_0 0).f0.f0))∧w'.cell? ⟨ad477.block,ad477.off+1,none⟩=some (.int .i64 ((rd_T74 l0_0 0).f0.f1))∧w'.cell? ⟨ad477.block,ad477.off+2,none⟩=some (.int .i64 ((rd_T74 l0_0 0).f1))∧w'.cell? ⟨ad477.block,ad477.off+3,none⟩=some (.slice A477_3 ((rd_T74 l0_0 0).f2).length c477_3)∧w'.cell? ⟨ad477.block,ad477.off+4,none⟩=some (.int .i64 ((rd_T74 l0_0 1).f0.f0))∧w'.cell? ⟨ad477.block,ad477.off+4+1,none⟩=some (.int .i64 ((rd_T74 l0_0 1).f0.f1))∧w'.cell? ⟨ad477.block,ad477.off+4+2,none⟩=some (.int .i64 ((rd_T74 l0_0 1).f1))∧w'.cell? ⟨ad477.block,ad477.off+4+3,none⟩=some (.slice A478_3 ((rd_T74 l0_0 1).f2).length c478_3))∧(w'.heap[gb476]?=some (.cells #[.slice (some ad477) l0_0.length c0_0,.int .i64 a0_1,.int .i64 a0_2,.int .i64 a0_3] 29 (0,0)))∧(w'.heap[s_]?=some (.cells #[.int .i64 0,.int .i64 0] 25 (0,0)))∧(w.heap.size≤s_)∧(w.heap.size≤s_)∧(gb476≠s_)∧(s_≠gb476)∧(Below w.heap.size w w')) ?_ ?_
          rotate_left
          ·intro hJ15
           refine three_ (i:=13) (j:=14) (k:=15) (Ni:=some 5) (Nj:=some 6) (Nk:=some 7) #[true,true,true,true,true,true,true,true,true,true,true,true,true,true,false,false,false,false,false] #[true,true,true,true,true,true,true,true,true,true,true,true,true,false,true,false,false,false,false] #[true,true,true,true,true,true,true,true,true,true,true,true,true,false,false,true,false,false,false] rfl rfl rfl rfl rfl rfl (three_of HT_.out (by kernel_rfl)) (by decide) (by decide) (by decide) (fun K hK=>?_) (fun K hK=>?_) (fun K hK=>?_)
           ·skip
            refine box_step ?hg (N:=5) ?hd (cs:=#[.int .i64 0,.int .i64 0]) (t:=25) ?hr ?_;(case hd=>rfl);(case hg=>rfl);(case hr=>first|(go_simp;done)|(go_simp;rfl))
            intro gb479 hg w9 hbox hb
            have n0_:=A0_ (blk_below (g:=gb476) (o:=.cells #[.slice (some ad477) l0_0.length c0_0,.int .i64 a0_1,.int .i64 a0_2,.int .i64 a0_3] 29 (0,0)) (bd_ BK476.out) hb)
            have n1_:=A0_ (below_step (by repeat (first|(with_reducible first|exact HB.out|apply below_alloc|apply pw_below_drewN|apply below_drew1|refine below_set ?_ GE476.out)|exact HB.out)) hb)
            have n2_:=A0_ (hbox)
            have n3_:=A0_ ((by rw [hg];exact (below_size (by repeat (first|(with_reducible first|exact HB.out|apply below_alloc|apply pw_below_drewN|apply below_drew1|refine below_set ?_ GE476.out)|exact HB.out))):w.heap.size≤gb479))
            have n4_:=A0_ ((by rw [hg];exact (below_size (by repeat (first|(with_reducible first|exact HB.out|apply below_alloc|apply pw_below_drewN|apply below_drew1|refine below_set ?_ GE476.out)|exact HB.out))):w.heap.size≤gb479))
            have n5_:=A0_ ((by rw [hg];exact Nat.ne_of_lt (blk_lt (g:=gb476) (o:=.cells #[.slice (some ad477) l0_0.length c0_0,.int .i64 a0_1,.int .i64 a0_2,.int .i64 a0_3] 29 (0,0)) (bd_ BK476.out)):gb476≠gb479))
            have n6_:=A0_ ((by rw [hg];exact Nat.ne_of_gt (blk_lt (g:=gb476) (o:=.cells #[.slice (some ad477) l0_0.length c0_0,.int .i64 a0_1,.int .i64 a0_2,.int .i64 a0_3] 29 (0,0)) (bd_ BK476.out)):gb479≠gb476))
            clear BK476;clear HB;have BK476:=n0_;have HB:=n1_;have BK479:=n2_;have GW479:=n3_;have GE479:=n4_;have NB476_479:=n5_;have NB479_476:=n6_;clear n0_ n1_ n2_ n3_ n4_ n5_ n6_;clear hb hbox hg
            refine hK.out _ _ ⟨(blk_cell BK476.out 0).trans rfl,(blk_cell BK476.out 1).trans rfl,(blk_cell BK476.out 2).trans rfl,(blk_cell BK476.out 3).trans rfl,((HB.out.cell (World.block_lt_of_cell? w _ hw477_0)).trans hw477_0),((HB.out.cell (World.block_lt_of_cell? w _ hw477_1)).trans hw477_1),((HB.out.cell (World.block_lt_of_cell? w _ hw477_2)).trans hw477_2),((HB.out.cell (World.block_lt_of_cell? w _ hw477_3)).trans hw477_3),((HB.out.cell (World.block_lt_of_cell? w _ hw478_0)).trans hw478_0),((HB.out.cell (World.block_lt_of_cell? w _ hw478_1)).trans hw478_1),((HB.out.cell (World.block_lt_of_cell? w _ hw478_2)).trans hw478_2),((HB.out.cell (World.block_lt_of_cell? w _ hw478_3)).trans hw478_3)⟩ (fun hHeld=>?_)
            clear hK K
            refine norm_ (a':=?_) ?_ ?_
            rotate_left
            ·show Act.put _ (some 5) _=_
             simp only [Act.put,List.setIfInBounds_toArray,List.set_cons_zero,List.set_cons_succ,i64_w,i32_w]
             rfl
            exact norm_ yd_ (hJ13 (gb479) _ ⟨hHeld,(bd_ BK476.out),(bd_ BK479.out),GW479.out,GE479.out,NB476_479.out,NB479_476.out,(by repeat (first|(with_reducible first|exact HB.out|apply below_alloc|apply pw_below_drewN|apply below_drew1|refine below_set ?_ GE476.out|refine below_set ?_ GE479.out)|exact HB.out))⟩)
           ·skip
            refine box_step ?hg (N:=6) ?hd (cs:=#[.int .i64 0,.int .i64 0]) (t:=25) ?hr ?_;(case hd=>rfl);(case hg=>rfl);(case hr=>first|(go_simp;done)|(go_simp;rfl))
            intro gb480 hg w9 hbox hb
            have n0_:=A0_ (blk_below (g:=gb476) (o:=.cells #[.slice (some ad477) l0_0.length c0_0,.int .i64 a0_1,.int .i64 a0_2,.int .i64 a0_3] 29 (0,0)) (bd_ BK476.out) hb)
            have n1_:=A0_ (below_step (by repeat (first|(with_reducible first|exact HB.out|apply below_alloc|apply pw_below_drewN|apply below_drew1|refine below_set ?_ GE476.out)|exact HB.out)) hb)
            have n2_:=A0_ (hbox)
            have n3_:=A0_ ((by rw [hg];exact (below_size (by repeat (first|(with_reducible first|exact HB.out|apply below_alloc|apply pw_below_drewN|apply below_drew1|refine below_set ?_ GE476.out)|exact HB.out))):w.heap.size≤gb480))
            have n4_:=A0_ ((by rw [hg];exact (below_size (by repeat (first|(with_reducible first|exact HB.out|apply below_alloc|apply pw_below_drewN|apply below_drew1|refine below_set ?_ GE476.out)|exact HB.out))):w.heap.size≤gb480))
            have n5_:=A0_ ((by rw [hg];exact Nat.ne_of_lt (blk_lt (g:=gb476) (o:=.cells #[.slice (some ad477) l0_0.length c0_0,.int .i64 a0_1,.int .i64 a0_2,.int .i64 a0_3] 29 (0,0)) (bd_ BK476.out)):gb476≠gb480))
            have n6_:=A0_ ((by rw [hg];exact Nat.ne_of_gt (blk_lt (g:=gb476) (o:=.cells #[.slice (some ad477) l0_0.length c0_0,.int .i64 a0_1,.int .i64 a0_2,.int .i64 a0_3] 29 (0,0)) (bd_ BK476.out)):gb480≠gb476))
            clear BK476;clear HB;have BK476:=n0_;have HB:=n1_;have BK480:=n2_;have GW480:=n3_;have GE480:=n4_;have NB476_480:=n5_;have NB480_476:=n6_;clear n0_ n1_ n2_ n3_ n4_ n5_ n6_;clear hb hbox hg
            refine hK.out _ _ ⟨(blk_cell BK476.out 0).trans rfl,(blk_cell BK476.out 1).trans rfl,(blk_cell BK476.out 2).trans rfl,(blk_cell BK476.out 3).trans rfl,((HB.out.cell (World.block_lt_of_cell? w _ hw477_0)).trans hw477_0),((HB.out.cell (World.block_lt_of_cell? w _ hw477_1)).trans hw477_1),((HB.out.cell (World.block_lt_of_cell? w _ hw477_2)).trans hw477_2),((HB.out.cell (World.block_lt_of_cell? w _ hw477_3)).trans hw477_3),((HB.out.cell (World.block_lt_of_cell? w _ hw478_0)).trans hw478_0),((HB.out.cell (World.block_lt_of_cell? w _ hw478_1)).trans hw478_1),((HB.out.cell (World.block_lt_of_cell? w _ hw478_2)).trans hw478_2),((HB.out.cell (World.block_lt_of_cell? w _ hw478_3)).trans hw478_3)⟩ (fun hHeld=>?_)
            clear hK K
            refine norm_ (a':=?_) ?_ ?_
            rotate_left
            ·show Act.put _ (some 6) _=_
             simp only [Act.put,List.setIfInBounds_toArray,List.set_cons_zero,List.set_cons_succ,i64_w,i32_w]
             rfl
            exact norm_ yd_ (hJ14 (gb480) _ ⟨hHeld,(bd_ BK476.out),(bd_ BK480.out),GW480.out,GE480.out,NB476_480.out,NB480_476.out,(by repeat (first|(with_reducible first|exact HB.out|apply below_alloc|apply pw_below_drewN|apply below_drew1|refine below_set ?_ GE476.out|refine below_set ?_ GE480.out)|exact HB.out))⟩)
           ·skip
            refine box_step ?hg (N:=7) ?hd (cs:=#[.int .i64 0,.int .i64 0]) (t:=25) ?hr ?_;(case hd=>rfl);(case hg=>rfl);(case hr=>first|(go_simp;done)|(go_simp;rfl))
            intro gb481 hg w9 hbox hb
            have n0_:=A0_ (blk_below (g:=gb476) (o:=.cells #[.slice (some ad477) l0_0.length c0_0,.int .i64 a0_1,.int .i64 a0_2,.int .i64 a0_3] 29 (0,0)) (bd_ BK476.out) hb)
            have n1_:=A0_ (below_step (by repeat (first|(with_reducible first|exact HB.out|apply below_alloc|apply pw_below_drewN|apply below_drew1|refine below_set ?_ GE476.out)|exact HB.out)) hb)
            have n2_:=A0_ (hbox)
            have n3_:=A0_ ((by rw [hg];exact (below_size (by repeat (first|(with_reducible first|exact HB.out|apply below_alloc|apply pw_below_drewN|apply below_drew1|refine below_set ?_ GE476.out)|exact HB.out))):w.heap.size≤gb481))
            have n4_:=A0_ ((by rw [hg];exact (below_size (by repeat (first|(with_reducible first|exact HB.out|apply below_alloc|apply pw_below_drewN|apply below_drew1|refine below_set ?_ GE476.out)|exact HB.out))):w.heap.size≤gb481))
            have n5_:=A0_ ((by rw [hg];exact Nat.ne_of_lt (blk_lt (g:=gb476) (o:=.cells #[.slice (some ad477) l0_0.length c0_0,.int .i64 a0_1,.int .i64 a0_2,.int .i64 a0_3] 29 (0,0)) (bd_ BK476.out)):gb476≠gb481))
            have n6_:=A0_ ((by rw [hg];exact Nat.ne_of_gt (blk_lt (g:=gb476) (o:=.cells #[.slice (some ad477) l0_0.length c0_0,.int .i64 a0_1,.int .i64 a0_2,.int .i64 a0_3] 29 (0,0)) (bd_ BK476.out)):gb481≠gb476))
            clear BK476;clear HB;have BK476:=n0_;have HB:=n1_;have BK481:=n2_;have GW481:=n3_;have GE481:=n4_;have NB476_481:=n5_;have NB481_476:=n6_;clear n0_ n1_ n2_ n3_ n4_ n5_ n6_;clear hb hbox hg
            refine hK.out _ _ ⟨(blk_cell BK476.out 0).trans rfl,(blk_cell BK476.out 1).trans rfl,(blk_cell BK476.out 2).trans rfl,(blk_cell BK476.out 3).trans rfl,((HB.out.cell (World.block_lt_of_cell? w _ hw477_0)).trans hw477_0),((HB.out.cell (World.block_lt_of_cell? w _ hw477_1)).trans hw477_1),((HB.out.cell (World.block_lt_of_cell? w _ hw477_2)).trans hw477_2),((HB.out.cell (World.block_lt_of_cell? w _ hw477_3)).trans hw477_3),((HB.out.cell (World.block_lt_of_cell? w _ hw478_0)).trans hw478_0),((HB.out.cell (World.block_lt_of_cell? w _ hw478_1)).trans hw478_1),((HB.out.cell (World.block_lt_of_cell? w _ hw478_2)).trans hw478_2),((HB.out.cell (World.block_lt_of_cell? w _ hw478_3)).trans hw478_3)⟩ (fun hHeld=>?_)
            clear hK K
            refine norm_ (a':=?_) ?_ ?_
            rotate_left
            ·show Act.put _ (some 7) _=_
             simp only [Act.put,List.setIfInBounds_toArray,List.set_cons_zero,List.set_cons_succ,i64_w,i32_w]
             rfl
            exact norm_ yd_ (hJ15 (gb481) _ ⟨hHeld,(bd_ BK476.out),(bd_ BK481.out),GW481.out,GE481.out,NB476_481.out,NB481_476.out,(by repeat (first|(with_reducible first|exact HB.out|apply below_alloc|apply pw_below_drewN|apply below_drew1|refine below_set ?_ GE476.out|refine below_set ?_ GE481.out)|exact HB.out))⟩)
          ·skip
           rintro gb481 w10 ⟨hS_,h0_,h1_,h2_,h3_,h4_,h5_,h6_⟩
           have n0_:Aside0 (w10.heap[gb476]?=some (.cells #[.slice (some ad477) l0_0.length c0_0,.int .i64 a0_1,.int .i64 a0_2,.int .i64 a0_3] 29 (0,0))):=⟨h0_⟩
           have n1_:Aside0 (w10.heap[gb481]?=some (.cells #[.int .i64 0,.int .i64 0] 25 (0,0))):=⟨h1_⟩
           have n2_:Aside0 (w.heap.size≤gb481):=⟨h2_⟩
           have n3_:Aside0 (w.heap.size≤gb481):=⟨h3_⟩
           have n4_:Aside0 (gb476≠gb481):=⟨h4_⟩
           have n5_:Aside0 (gb481≠gb476):=⟨h5_⟩
           have n6_:Aside0 (Below w.heap.size w w10):=⟨h6_⟩
           clear BK476;clear HB;clear h0_ h1_ h2_ h3_ h4_ h5_ h6_;have BK476:=n0_;have BK481:=n1_;have GW481:=n2_;have GE481:=n3_;have NB476_481:=n4_;have NB481_476:=n5_;have HB:=n6_;clear n0_ n1_ n2_ n3_ n4_ n5_ n6_
           have hHeld:w10.cell? ⟨gb476,0,none⟩=some (.slice (some ad477) l0_0.length c0_0)∧w10.cell? ⟨gb476,1,none⟩=some (.int .i64 a0_1)∧w10.cell? ⟨gb476,2,none⟩=some (.int .i64 a0_2)∧w10.cell? ⟨gb476,3,none⟩=some (.int .i64 a0_3)∧w10.cell? ad477=some (.int .i64 ((rd_T74 l0_0 0).f0.f0))∧w10.cell? ⟨ad477.block,ad477.off+1,none⟩=some (.int .i64 ((rd_T74 l0_0 0).f0.f1))∧w10.cell? ⟨ad477.block,ad477.off+2,none⟩=some (.int .i64 ((rd_T74 l0_0 0).f1))∧w10.cell? ⟨ad477.block,ad477.off+3,none⟩=some (.slice A477_3 ((rd_T74 l0_0 0).f2).length c477_3)∧w10.cell? ⟨ad477.block,ad477.off+4,none⟩=some (.int .i64 ((rd_T74 l0_0 1).f0.f0))∧w10.cell? ⟨ad477.block,ad477.off+4+1,none⟩=some (.int .i64 ((rd_T74 l0_0 1).f0.f1))∧w10.cell? ⟨ad477.block,ad477.off+4+2,none⟩=some (.int .i64 ((rd_T74 l0_0 1).f1))∧w10.cell? ⟨ad477.block,ad477.off+4+3,none⟩=some (.slice A478_3 ((rd_T74 l0_0 1).f2).length c478_3):=hS_
           refine norm_ (a':=?_) ?_ ?_
           rotate_left
           ·simp only [putAll,Act.put,List.setIfInBounds_toArray,List.set_cons_zero,List.set_cons_succ]
            rfl
           refine two_ (i:=13) (j:=14) (Ni:=some 5) (Nj:=some 6) #[true,true,true,true,true,true,true,true,true,true,true,true,true,true,false,true,false,false,false] #[true,true,true,true,true,true,true,true,true,true,true,true,true,false,true,true,false,false,false] rfl rfl rfl rfl (two_of HT_.out (by kernel_rfl)) (by decide) (by decide) (fun K hK=>?_) (fun K hK=>?_)
           ·skip
            refine box_step ?hg (N:=5) ?hd (cs:=#[.int .i64 0,.int .i64 0]) (t:=25) ?hr ?_;(case hd=>rfl);(case hg=>rfl);(case hr=>first|(go_simp;done)|(go_simp;rfl))
            intro gb479 hg w11 hbox hb
            have n0_:=A0_ (blk_below (g:=gb476) (o:=.cells #[.slice (some ad477) l0_0.length c0_0,.int .i64 a0_1,.int .i64 a0_2,.int .i64 a0_3] 29 (0,0)) (bd_ BK476.out) hb);have n1_:=A0_ (blk_below (g:=gb481) (o:=.cells #[.int .i64 0,.int .i64 0] 25 (0,0)) (bd_ BK481.out) hb)
            have n2_:=A0_ (below_step (by repeat (first|(with_reducible first|exact HB.out|apply below_alloc|apply pw_below_drewN|apply below_drew1|refine below_set ?_ GE476.out|refine below_set ?_ GE481.out)|exact HB.out)) hb)
            have n3_:=A0_ (hbox)
            have n4_:=A0_ ((by rw [hg];exact (below_size (by repeat (first|(with_reducible first|exact HB.out|apply below_alloc|apply pw_below_drewN|apply below_drew1|refine below_set ?_ GE476.out|refine below_set ?_ GE481.out)|exact HB.out))):w.heap.size≤gb479))
            have n5_:=A0_ ((by rw [hg];exact (below_size (by repeat (first|(with_reducible first|exact HB.out|apply below_alloc|apply pw_below_drewN|apply below_drew1|refine below_set ?_ GE476.out|refine below_set ?_ GE481.out)|exact HB.out))):w.heap.size≤gb479))
            have n6_:=A0_ ((by rw [hg];exact Nat.ne_of_lt (blk_lt (g:=gb476) (o:=.cells #[.slice (some ad477) l0_0.length c0_0,.int .i64 a0_1,.int .i64 a0_2,.int .i64 a0_3] 29 (0,0)) (bd_ BK476.out)):gb476≠gb479))
            have n7_:=A0_ ((by rw [hg];exact Nat.ne_of_gt (blk_lt (g:=gb476) (o:=.cells #[.slice (some ad477) l0_0.length c0_0,.int .i64 a0_1,.int .i64 a0_2,.int .i64 a0_3] 29 (0,0)) (bd_ BK476.out)):gb479≠gb476))
            have n8_:=A0_ ((by rw [hg];exact Nat.ne_of_lt (blk_lt (g:=gb481) (o:=.cells #[.int .i64 0,.int .i64 0] 25 (0,0)) (bd_ BK481.out)):gb481≠gb479))
            have n9_:=A0_ ((by rw [hg];exact Nat.ne_of_gt (blk_lt (g:=gb481) (o:=.cells #[.int .i64 0,.int .i64 0] 25 (0,0)) (bd_ BK481.out)):gb479≠gb481))
            clear BK476;clear BK481;clear HB;have BK476:=n0_;have BK481:=n1_;have HB:=n2_;have BK479:=n3_;have GW479:=n4_;have GE479:=n5_;have NB476_479:=n6_;have NB479_476:=n7_;have NB481_479:=n8_;have NB479_481:=n9_;clear n0_ n1_ n2_ n3_ n4_ n5_ n6_ n7_ n8_ n9_;clear hb hbox hg
            refine hK.out _ _ ⟨(blk_cell BK476.out 0).trans rfl,(blk_cell BK476.out 1).trans rfl,(blk_cell BK476.out 2).trans rfl,(blk_cell BK476.out 3).trans rfl,((HB.out.cell (World.block_lt_of_cell? w _ hw477_0)).trans hw477_0),((HB.out.cell (World.block_lt_of_cell? w _ hw477_1)).trans hw477_1),((HB.out.cell (World.block_lt_of_cell? w _ hw477_2)).trans hw477_2),((HB.out.cell (World.block_lt_of_cell? w _ hw477_3)).trans hw477_3),((HB.out.cell (World.block_lt_of_cell? w _ hw478_0)).trans hw478_0),((HB.out.cell (World.block_lt_of_cell? w _ hw478_1)).trans hw478_1),((HB.out.cell (World.block_lt_of_cell? w _ hw478_2)).trans hw478_2),((HB.out.cell (World.block_lt_of_cell? w _ hw478_3)).trans hw478_3)⟩ (fun hHeld=>?_)
            clear hK K
            refine norm_ (a':=?_) ?_ ?_
            rotate_left
            ·show Act.put _ (some 5) _=_
             simp only [Act.put,List.setIfInBounds_toArray,List.set_cons_zero,List.set_cons_succ,i64_w,i32_w]
             rfl
            exact norm_ yd_ (hJ13_15 (gb479,gb481) _ ⟨hHeld,(bd_ BK476.out),(bd_ BK479.out),(bd_ BK481.out),GW479.out,GE479.out,NB476_479.out,NB479_476.out,NB481_479.out,NB479_481.out,GW481.out,GE481.out,NB476_481.out,NB481_476.out,(by repeat (first|(with_reducible first|exact HB.out|apply below_alloc|apply pw_below_drewN|apply below_drew1|refine below_set ?_ GE476.out|refine below_set ?_ GE481.out|refine below_set ?_ GE479.out)|exact HB.out))⟩)
           ·skip
            refine box_step ?hg (N:=6) ?hd (cs:=#[.int .i64 0,.int .i64 0]) (t:=25) ?hr ?_;(case hd=>rfl);(case hg=>rfl);(case hr=>first|(go_simp;done)|(go_simp;rfl))
            intro gb480 hg w11 hbox hb
            have n0_:=A0_ (blk_below (g:=gb476) (o:=.cells #[.slice (some ad477) l0_0.length c0_0,.int .i64 a0_1,.int .i64 a0_2,.int .i64 a0_3] 29 (0,0)) (bd_ BK476.out) hb);have n1_:=A0_ (blk_below (g:=gb481) (o:=.cells #[.int .i64 0,.int .i64 0] 25 (0,0)) (bd_ BK481.out) hb)
            have n2_:=A0_ (below_step (by repeat (first|(with_reducible first|exact HB.out|apply below_alloc|apply pw_below_drewN|apply below_drew1|refine below_set ?_ GE476.out|refine below_set ?_ GE481.out)|exact HB.out)) hb)
            have n3_:=A0_ (hbox)
            have n4_:=A0_ ((by rw [hg];exact (below_size (by repeat (first|(with_reducible first|exact HB.out|apply below_alloc|apply pw_below_drewN|apply below_drew1|refine below_set ?_ GE476.out|refine below_set ?_ GE481.out)|exact HB.out))):w.heap.size≤gb480))
            have n5_:=A0_ ((by rw [hg];exact (below_size (by repeat (first|(with_reducible first|exact HB.out|apply below_alloc|apply pw_below_drewN|apply below_drew1|refine below_set ?_ GE476.out|refine below_set ?_ GE481.out)|exact HB.out))):w.heap.size≤gb480))
            have n6_:=A0_ ((by rw [hg];exact Nat.ne_of_lt (blk_lt (g:=gb476) (o:=.cells #[.slice (some ad477) l0_0.length c0_0,.int .i64 a0_1,.int .i64 a0_2,.int .i64 a0_3] 29 (0,0)) (bd_ BK476.out)):gb476≠gb480))
            have n7_:=A0_ ((by rw [hg];exact Nat.ne_of_gt (blk_lt (g:=gb476) (o:=.cells #[.slice (some ad477) l0_0.length c0_0,.int .i64 a0_1,.int .i64 a0_2,.int .i64 a0_3] 29 (0,0)) (bd_ BK476.out)):gb480≠gb476))
            have n8_:=A0_ ((by rw [hg];exact Nat.ne_of_lt (blk_lt (g:=gb481) (o:=.cells #[.int .i64 0,.int .i64 0] 25 (0,0)) (bd_ BK481.out)):gb481≠gb480))
            have n9_:=A0_ ((by rw [hg];exact Nat.ne_of_gt (blk_lt (g:=gb481) (o:=.cells #[.int .i64 0,.int .i64 0] 25 (0,0)) (bd_ BK481.out)):gb480≠gb481))
            clear BK476;clear BK481;clear HB;have BK476:=n0_;have BK481:=n1_;have HB:=n2_;have BK480:=n3_;have GW480:=n4_;have GE480:=n5_;have NB476_480:=n6_;have NB480_476:=n7_;have NB481_480:=n8_;have NB480_481:=n9_;clear n0_ n1_ n2_ n3_ n4_ n5_ n6_ n7_ n8_ n9_;clear hb hbox hg
            refine hK.out _ _ ⟨(blk_cell BK476.out 0).trans rfl,(blk_cell BK476.out 1).trans rfl,(blk_cell BK476.out 2).trans rfl,(blk_cell BK476.out 3).trans rfl,((HB.out.cell (World.block_lt_of_cell? w _ hw477_0)).trans hw477_0),((HB.out.cell (World.block_lt_of_cell? w _ hw477_1)).trans hw477_1),((HB.out.cell (World.block_lt_of_cell? w _ hw477_2)).trans hw477_2),((HB.out.cell (World.block_lt_of_cell? w _ hw477_3)).trans hw477_3),((HB.out.cell (World.block_lt_of_cell? w _ hw478_0)).trans hw478_0),((HB.out.cell (World.block_lt_of_cell? w _ hw478_1)).trans hw478_1),((HB.out.cell (World.block_lt_of_cell? w _ hw478_2)).trans hw478_2),((HB.out.cell (World.block_lt_of_cell? w _ hw478_3)).trans hw478_3)⟩ (fun hHeld=>?_)
            clear hK K
            refine norm_ (a':=?_) ?_ ?_
            rotate_left
            ·show Act.put _ (some 6) _=_
             simp only [Act.put,List.setIfInBounds_toArray,List.set_cons_zero,List.set_cons_succ,i64_w,i32_w]
             rfl
            exact norm_ yd_ (hJ14_15 (gb480,gb481) _ ⟨hHeld,(bd_ BK476.out),(bd_ BK480.out),(bd_ BK481.out),GW480.out,GE480.out,NB476_480.out,NB480_476.out,NB481_480.out,NB480_481.out,GW481.out,GE481.out,NB476_481.out,NB481_476.out,(by repeat (first|(with_reducible first|exact HB.out|apply below_alloc|apply pw_below_drewN|apply below_drew1|refine below_set ?_ GE476.out|refine below_set ?_ GE481.out|refine below_set ?_ GE480.out)|exact HB.out))⟩)
         ·skip
          rintro gb480 w10 ⟨hS_,h0_,h1_,h2_,h3_,h4_,h5_,h6_⟩
          have n0_:Aside0 (w10.heap[gb476]?=some (.cells #[.slice (some ad477) l0_0.length c0_0,.int .i64 a0_1,.int .i64 a0_2,.int .i64 a0_3] 29 (0,0))):=⟨h0_⟩
          have n1_:Aside0 (w10.heap[gb480]?=some (.cells #[.int .i64 0,.int .i64 0] 25 (0,0))):=⟨h1_⟩
          have n2_:Aside0 (w.heap.size≤gb480):=⟨h2_⟩
          have n3_:Aside0 (w.heap.size≤gb480):=⟨h3_⟩
          have n4_:Aside0 (gb476≠gb480):=⟨h4_⟩
          have n5_:Aside0 (gb480≠gb476):=⟨h5_⟩
          have n6_:Aside0 (Below w.heap.size w w10):=⟨h6_⟩
          clear BK476;clear HB;clear h0_ h1_ h2_ h3_ h4_ h5_ h6_;have BK476:=n0_;have BK480:=n1_;have GW480:=n2_;have GE480:=n3_;have NB476_480:=n4_;have NB480_476:=n5_;have HB:=n6_;clear n0_ n1_ n2_ n3_ n4_ n5_ n6_
          have hHeld:w10.cell? ⟨gb476,0,none⟩=some (.slice (some ad477) l0_0.length c0_0)∧w10.cell? ⟨gb476,1,none⟩=some (.int .i64 a0_1)∧w10.cell? ⟨gb476,2,none⟩=some (.int .i64 a0_2)∧w10.cell? ⟨gb476,3,none⟩=some (.int .i64 a0_3)∧w10.cell? ad477=some (.int .i64 ((rd_T74 l0_0 0).f0.f0))∧w10.cell? ⟨ad477.block,ad477.off+1,none⟩=some (.int .i64 ((rd_T74 l0_0 0).f0.f1))∧w10.cell? ⟨ad477.block,ad477.off+2,none⟩=some (.int .i64 ((rd_T74 l0_0 0).f1))∧w10.cell? ⟨ad477.block,ad477.off+3,none⟩=some (.slice A477_3 ((rd_T74 l0_0 0).f2).length c477_3)∧w10.cell? ⟨ad477.block,ad477.off+4,none⟩=some (.int .i64 ((rd_T74 l0_0 1).f0.f0))∧w10.cell? ⟨ad477.block,ad477.off+4+1,none⟩=some (.int .i64 ((rd_T74 l0_0 1).f0.f1))∧w10.cell? ⟨ad477.block,ad477.off+4+2,none⟩=some (.int .i64 ((rd_T74 l0_0 1).f1))∧w10.cell? ⟨ad477.block,ad477.off+4+3,none⟩=some (.slice A478_3 ((rd_T74 l0_0 1).f2).length c478_3):=hS_
          refine norm_ (a':=?_) ?_ ?_
          rotate_left
          ·simp only [putAll,Act.put,List.setIfInBounds_toArray,List.set_cons_zero,List.set_cons_succ]
           rfl
          refine two_ (i:=13) (j:=15) (Ni:=some 5) (Nj:=some 7) #[true,true,true,true,true,true,true,true,true,true,true,true,true,true,true,false,false,false,false] #[true,true,true,true,true,true,true,true,true,true,true,true,true,false,true,true,false,false,false] rfl rfl rfl rfl (two_of HT_.out (by kernel_rfl)) (by decide) (by decide) (fun K hK=>?_) (fun K hK=>?_)
          ·skip
           refine box_step ?hg (N:=5) ?hd (cs:=#[.int .i64 0,.int .i64 0]) (t:=25) ?hr ?_;(case hd=>rfl);(case hg=>rfl);(case hr=>first|(go_simp;done)|(go_simp;rfl))
           intro gb479 hg w11 hbox hb
           have n0_:=A0_ (blk_below (g:=gb476) (o:=.cells #[.slice (some ad477) l0_0.length c0_0,.int .i64 a0_1,.int .i64 a0_2,.int .i64 a0_3] 29 (0,0)) (bd_ BK476.out) hb);have n1_:=A0_ (blk_below (g:=gb480) (o:=.cells #[.int .i64 0,.int .i64 0] 25 (0,0)) (bd_ BK480.out) hb)
           have n2_:=A0_ (below_step (by repeat (first|(with_reducible first|exact HB.out|apply below_alloc|apply pw_below_drewN|apply below_drew1|refine below_set ?_ GE476.out|refine below_set ?_ GE480.out)|exact HB.out)) hb)
           have n3_:=A0_ (hbox)
           have n4_:=A0_ ((by rw [hg];exact (below_size (by repeat (first|(with_reducible first|exact HB.out|apply below_alloc|apply pw_below_drewN|apply below_drew1|refine below_set ?_ GE476.out|refine below_set ?_ GE480.out)|exact HB.out))):w.heap.size≤gb479))
           have n5_:=A0_ ((by rw [hg];exact (below_size (by repeat (first|(with_reducible first|exact HB.out|apply below_alloc|apply pw_below_drewN|apply below_drew1|refine below_set ?_ GE476.out|refine below_set ?_ GE480.out)|exact HB.out))):w.heap.size≤gb479))
           have n6_:=A0_ ((by rw [hg];exact Nat.ne_of_lt (blk_lt (g:=gb476) (o:=.cells #[.slice (some ad477) l0_0.length c0_0,.int .i64 a0_1,.int .i64 a0_2,.int .i64 a0_3] 29 (0,0)) (bd_ BK476.out)):gb476≠gb479))
           have n7_:=A0_ ((by rw [hg];exact Nat.ne_of_gt (blk_lt (g:=gb476) (o:=.cells #[.slice (some ad477) l0_0.length c0_0,.int .i64 a0_1,.int .i64 a0_2,.int .i64 a0_3] 29 (0,0)) (bd_ BK476.out)):gb479≠gb476))
           have n8_:=A0_ ((by rw [hg];exact Nat.ne_of_lt (blk_lt (g:=gb480) (o:=.cells #[.int .i64 0,.int .i64 0] 25 (0,0)) (bd_ BK480.out)):gb480≠gb479))
           have n9_:=A0_ ((by rw [hg];exact Nat.ne_of_gt (blk_lt (g:=gb480) (o:=.cells #[.int .i64 0,.int .i64 0] 25 (0,0)) (bd_ BK480.out)):gb479≠gb480))
           clear BK476;clear BK480;clear HB;have BK476:=n0_;have BK480:=n1_;have HB:=n2_;have BK479:=n3_;have GW479:=n4_;have GE479:=n5_;have NB476_479:=n6_;have NB479_476:=n7_;have NB480_479:=n8_;have NB479_480:=n9_;clear n0_ n1_ n2_ n3_ n4_ n5_ n6_ n7_ n8_ n9_;clear hb hbox hg
           refine hK.out _ _ ⟨(blk_cell BK476.out 0).trans rfl,(blk_cell BK476.out 1).trans rfl,(blk_cell BK476.out 2).trans rfl,(blk_cell BK476.out 3).trans rfl,((HB.out.cell (World.block_lt_of_cell? w _ hw477_0)).trans hw477_0),((HB.out.cell (World.block_lt_of_cell? w _ hw477_1)).trans hw477_1),((HB.out.cell (World.block_lt_of_cell? w _ hw477_2)).trans hw477_2),((HB.out.cell (World.block_lt_of_cell? w _ hw477_3)).trans hw477_3),((HB.out.cell (World.block_lt_of_cell? w _ hw478_0)).trans hw478_0),((HB.out.cell (World.block_lt_of_cell? w _ hw478_1)).trans hw478_1),((HB.out.cell (World.block_lt_of_cell? w _ hw478_2)).trans hw478_2),((HB.out.cell (World.block_lt_of_cell? w _ hw478_3)).trans hw478_3)⟩ (fun hHeld=>?_)
           clear hK K
           refine norm_ (a':=?_) ?_ ?_
           rotate_left
           ·show Act.put _ (some 5) _=_
            simp only [Act.put,List.setIfInBounds_toArray,List.set_cons_zero,List.set_cons_succ,i64_w,i32_w]
            rfl
           exact norm_ yd_ (hJ13_14 (gb479,gb480) _ ⟨hHeld,(bd_ BK476.out),(bd_ BK479.out),(bd_ BK480.out),GW479.out,GE479.out,NB476_479.out,NB479_476.out,NB480_479.out,NB479_480.out,GW480.out,GE480.out,NB476_480.out,NB480_476.out,(by repeat (first|(with_reducible first|exact HB.out|apply below_alloc|apply pw_below_drewN|apply below_drew1|refine below_set ?_ GE476.out|refine below_set ?_ GE480.out|refine below_set ?_ GE479.out)|exact HB.out))⟩)
          ·skip
           refine box_step ?hg (N:=7) ?hd (cs:=#[.int .i64 0,.int .i64 0]) (t:=25) ?hr ?_;(case hd=>rfl);(case hg=>rfl);(case hr=>first|(go_simp;done)|(go_simp;rfl))
           intro gb481 hg w11 hbox hb
           have n0_:=A0_ (blk_below (g:=gb476) (o:=.cells #[.slice (some ad477) l0_0.length c0_0,.int .i64 a0_1,.int .i64 a0_2,.int .i64 a0_3] 29 (0,0)) (bd_ BK476.out) hb);have n1_:=A0_ (blk_below (g:=gb480) (o:=.cells #[.int .i64 0,.int .i64 0] 25 (0,0)) (bd_ BK480.out) hb)
           have n2_:=A0_ (below_step (by repeat (first|(with_reducible first|exact HB.out|apply below_alloc|apply pw_below_drewN|apply below_drew1|refine below_set ?_ GE476.out|refine below_set ?_ GE480.out)|exact HB.out)) hb)
           have n3_:=A0_ (hbox)
           have n4_:=A0_ ((by rw [hg];exact (below_size (by repeat (first|(with_reducible first|exact HB.out|apply below_alloc|apply pw_below_drewN|apply below_drew1|refine below_set ?_ GE476.out|refine below_set ?_ GE480.out)|exact HB.out))):w.heap.size≤gb481))
           have n5_:=A0_ ((by rw [hg];exact (below_size (by repeat (first|(with_reducible first|exact HB.out|apply below_alloc|apply pw_below_drewN|apply below_drew1|refine below_set ?_ GE476.out|refine below_set ?_ GE480.out)|exact HB.out))):w.heap.size≤gb481))
           have n6_:=A0_ ((by rw [hg];exact Nat.ne_of_lt (blk_lt (g:=gb476) (o:=.cells #[.slice (some ad477) l0_0.length c0_0,.int .i64 a0_1,.int .i64 a0_2,.int .i64 a0_3] 29 (0,0)) (bd_ BK476.out)):gb476≠gb481))
           have n7_:=A0_ ((by rw [hg];exact Nat.ne_of_gt (blk_lt (g:=gb476) (o:=.cells #[.slice (some ad477) l0_0.length c0_0,.int .i64 a0_1,.int .i64 a0_2,.int .i64 a0_3] 29 (0,0)) (bd_ BK476.out)):gb481≠gb476))
           have n8_:=A0_ ((by rw [hg];exact Nat.ne_of_lt (blk_lt (g:=gb480) (o:=.cells #[.int .i64 0,.int .i64 0] 25 (0,0)) (bd_ BK480.out)):gb480≠gb481))
           have n9_:=A0_ ((by rw [hg];exact Nat.ne_of_gt (blk_lt (g:=gb480) (o:=.cells #[.int .i64 0,.int .i64 0] 25 (0,0)) (bd_ BK480.out)):gb481≠gb480))
           clear BK476;clear BK480;clear HB;have BK476:=n0_;have BK480:=n1_;have HB:=n2_;have BK481:=n3_;have GW481:=n4_;have GE481:=n5_;have NB476_481:=n6_;have NB481_476:=n7_;have NB480_481:=n8_;have NB481_480:=n9_;clear n0_ n1_ n2_ n3_ n4_ n5_ n6_ n7_ n8_ n9_;clear hb hbox hg
           refine hK.out _ _ ⟨(blk_cell BK476.out 0).trans rfl,(blk_cell BK476.out 1).trans rfl,(blk_cell BK476.out 2).trans rfl,(blk_cell BK476.out 3).trans rfl,((HB.out.cell (World.block_lt_of_cell? w _ hw477_0)).trans hw477_0),((HB.out.cell (World.block_lt_of_cell? w _ hw477_1)).trans hw477_1),((HB.out.cell (World.block_lt_of_cell? w _ hw477_2)).trans hw477_2),((HB.out.cell (World.block_lt_of_cell? w _ hw477_3)).trans hw477_3),((HB.out.cell (World.block_lt_of_cell? w _ hw478_0)).trans hw478_0),((HB.out.cell (World.block_lt_of_cell? w _ hw478_1)).trans hw478_1),((HB.out.cell (World.block_lt_of_cell? w _ hw478_2)).trans hw478_2),((HB.out.cell (World.block_lt_of_cell? w _ hw478_3)).trans hw478_3)⟩ (fun hHeld=>?_)
           clear hK K
           refine norm_ (a':=?_) ?_ ?_
           rotate_left
           ·show Act.put _ (some 7) _=_
            simp only [Act.put,List.setIfInBounds_toArray,List.set_cons_zero,List.set_cons_succ,i64_w,i32_w]
            rfl
           exact norm_ yd_ (hJ14_15 (gb480,gb481) _ ⟨hHeld,(bd_ BK476.out),(bd_ BK480.out),(bd_ BK481.out),GW480.out,GE480.out,NB476_480.out,NB480_476.out,NB481_480.out,NB480_481.out,GW481.out,GE481.out,NB476_481.out,NB481_476.out,(by repeat (first|(with_reducible first|exact HB.out|apply below_alloc|apply pw_below_drewN|apply below_drew1|refine below_set ?_ GE476.out|refine below_set ?_ GE480.out|refine below_set ?_ GE481.out)|exact HB.out))⟩)
        ·skip
         rintro gb479 w10 ⟨hS_,h0_,h1_,h2_,h3_,h4_,h5_,h6_⟩
         have n0_:Aside0 (w10.heap[gb476]?=some (.cells #[.slice (some ad477) l0_0.length c0_0,.int .i64 a0_1,.int .i64 a0_2,.int .i64 a0_3] 29 (0,0))):=⟨h0_⟩
         have n1_:Aside0 (w10.heap[gb479]?=some (.cells #[.int .i64 0,.int .i64 0] 25 (0,0))):=⟨h1_⟩
         have n2_:Aside0 (w.heap.size≤gb479):=⟨h2_⟩
         have n3_:Aside0 (w.heap.size≤gb479):=⟨h3_⟩
         have n4_:Aside0 (gb476≠gb479):=⟨h4_⟩
         have n5_:Aside0 (gb479≠gb476):=⟨h5_⟩
         have n6_:Aside0 (Below w.heap.size w w10):=⟨h6_⟩
         clear BK476;clear HB;clear h0_ h1_ h2_ h3_ h4_ h5_ h6_;have BK476:=n0_;have BK479:=n1_;have GW479:=n2_;have GE479:=n3_;have NB476_479:=n4_;have NB479_476:=n5_;have HB:=n6_;clear n0_ n1_ n2_ n3_ n4_ n5_ n6_
         have hHeld:w10.cell? ⟨gb476,0,none⟩=some (.slice (some ad477) l0_0.length c0_0)∧w10.cell? ⟨gb476,1,none⟩=some (.int .i64 a0_1)∧w10.cell? ⟨gb476,2,none⟩=some (.int .i64 a0_2)∧w10.cell? ⟨gb476,3,none⟩=some (.int .i64 a0_3)∧w10.cell? ad477=some (.int .i64 ((rd_T74 l0_0 0).f0.f0))∧w10.cell? ⟨ad477.block,ad477.off+1,none⟩=some (.int .i64 ((rd_T74 l0_0 0).f0.f1))∧w10.cell? ⟨ad477.block,ad477.off+2,none⟩=some (.int .i64 ((rd_T74 l0_0 0).f1))∧w10.cell? ⟨ad477.block,ad477.off+3,none⟩=some (.slice A477_3 ((rd_T74 l0_0 0).f2).length c477_3)∧w10.cell? ⟨ad477.block,ad477.off+4,none⟩=some (.int .i64 ((rd_T74 l0_0 1).f0.f0))∧w10.cell? ⟨ad477.block,ad477.off+4+1,none⟩=some (.int .i64 ((rd_T74 l0_0 1).f0.f1))∧w10.cell? ⟨ad477.block,ad477.off+4+2,none⟩=some (.int .i64 ((rd_T74 l0_0 1).f1))∧w10.cell? ⟨ad477.block,ad477.off+4+3,none⟩=some (.slice A478_3 ((rd_T74 l0_0 1).f2).length c478_3):=hS_
         refine norm_ (a':=?_) ?_ ?_
         rotate_left
         ·simp only [putAll,Act.put,List.setIfInBounds_toArray,List.set_cons_zero,List.set_cons_succ]
          rfl
         refine two_ (i:=14) (j:=15) (Ni:=some 6) (Nj:=some 7) #[true,true,true,true,true,true,true,true,true,true,true,true,true,true,true,false,false,false,false] #[true,true,true,true,true,true,true,true,true,true,true,true,true,true,false,true,false,false,false] rfl rfl rfl rfl (two_of HT_.out (by kernel_rfl)) (by decide) (by decide) (fun K hK=>?_) (fun K hK=>?_)
         ·skip
          refine box_step ?hg (N:=6) ?hd (cs:=#[.int .i64 0,.int .i64 0]) (t:=25) ?hr ?_;(case hd=>rfl);(case hg=>rfl);(case hr=>first|(go_simp;done)|(go_simp;rfl))
          intro gb480 hg w11 hbox hb
          have n0_:=A0_ (blk_below (g:=gb476) (o:=.cells #[.slice (some ad477) l0_0.length c0_0,.int .i64 a0_1,.int .i64 a0_2,.int .i64 a0_3] 29 (0,0)) (bd_ BK476.out) hb);have n1_:=A0_ (blk_below (g:=gb479) (o:=.cells #[.int .i64 0,.int .i64 0] 25 (0,0)) (bd_ BK479.out) hb)
          have n2_:=A0_ (below_step (by repeat (first|(with_reducible first|exact HB.out|apply below_alloc|apply pw_below_drewN|apply below_drew1|refine below_set ?_ GE476.out|refine below_set ?_ GE479.out)|exact HB.out)) hb)
          have n3_:=A0_ (hbox)
          have n4_:=A0_ ((by rw [hg];exact (below_size (by repeat (first|(with_reducible first|exact HB.out|apply below_alloc|apply pw_below_drewN|apply below_drew1|refine below_set ?_ GE476.out|refine below_set ?_ GE479.out)|exact HB.out))):w.heap.size≤gb480))
          have n5_:=A0_ ((by rw [hg];exact (below_size (by repeat (first|(with_reducible first|exact HB.out|apply below_alloc|apply pw_below_drewN|apply below_drew1|refine below_set ?_ GE476.out|refine below_set ?_ GE479.out)|exact HB.out))):w.heap.size≤gb480))
          have n6_:=A0_ ((by rw [hg];exact Nat.ne_of_lt (blk_lt (g:=gb476) (o:=.cells #[.slice (some ad477) l0_0.length c0_0,.int .i64 a0_1,.int .i64 a0_2,.int .i64 a0_3] 29 (0,0)) (bd_ BK476.out)):gb476≠gb480))
          have n7_:=A0_ ((by rw [hg];exact Nat.ne_of_gt (blk_lt (g:=gb476) (o:=.cells #[.slice (some ad477) l0_0.length c0_0,.int .i64 a0_1,.int .i64 a0_2,.int .i64 a0_3] 29 (0,0)) (bd_ BK476.out)):gb480≠gb476))
          have n8_:=A0_ ((by rw [hg];exact Nat.ne_of_lt (blk_lt (g:=gb479) (o:=.cells #[.int .i64 0,.int .i64 0] 25 (0,0)) (bd_ BK479.out)):gb479≠gb480))
          have n9_:=A0_ ((by rw [hg];exact Nat.ne_of_gt (blk_lt (g:=gb479) (o:=.cells #[.int .i64 0,.int .i64 0] 25 (0,0)) (bd_ BK479.out)):gb480≠gb479))
          clear BK476;clear BK479;clear HB;have BK476:=n0_;have BK479:=n1_;have HB:=n2_;have BK480:=n3_;have GW480:=n4_;have GE480:=n5_;have NB476_480:=n6_;have NB480_476:=n7_;have NB479_480:=n8_;have NB480_479:=n9_;clear n0_ n1_ n2_ n3_ n4_ n5_ n6_ n7_ n8_ n9_;clear hb hbox hg
          refine hK.out _ _ ⟨(blk_cell BK476.out 0).trans rfl,(blk_cell BK476.out 1).trans rfl,(blk_cell BK476.out 2).trans rfl,(blk_cell BK476.out 3).trans rfl,((HB.out.cell (World.block_lt_of_cell? w _ hw477_0)).trans hw477_0),((HB.out.cell (World.block_lt_of_cell? w _ hw477_1)).trans hw477_1),((HB.out.cell (World.block_lt_of_cell? w _ hw477_2)).trans hw477_2),((HB.out.cell (World.block_lt_of_cell? w _ hw477_3)).trans hw477_3),((HB.out.cell (World.block_lt_of_cell? w _ hw478_0)).trans hw478_0),((HB.out.cell (World.block_lt_of_cell? w _ hw478_1)).trans hw478_1),((HB.out.cell (World.block_lt_of_cell? w _ hw478_2)).trans hw478_2),((HB.out.cell (World.block_lt_of_cell? w _ hw478_3)).trans hw478_3)⟩ (fun hHeld=>?_)
          clear hK K
          refine norm_ (a':=?_) ?_ ?_
          rotate_left
          ·show Act.put _ (some 6) _=_
           simp only [Act.put,List.setIfInBounds_toArray,List.set_cons_zero,List.set_cons_succ,i64_w,i32_w]
           rfl
          exact norm_ yd_ (hJ13_14 (gb479,gb480) _ ⟨hHeld,(bd_ BK476.out),(bd_ BK479.out),(bd_ BK480.out),GW479.out,GE479.out,NB476_479.out,NB479_476.out,NB480_479.out,NB479_480.out,GW480.out,GE480.out,NB476_480.out,NB480_476.out,(by repeat (first|(with_reducible first|exact HB.out|apply below_alloc|apply pw_below_drewN|apply below_drew1|refine below_set ?_ GE476.out|refine below_set ?_ GE479.out|refine below_set ?_ GE480.out)|exact HB.out))⟩)
         ·skip
          refine box_step ?hg (N:=7) ?hd (cs:=#[.int .i64 0,.int .i64 0]) (t:=25) ?hr ?_;(case hd=>rfl);(case hg=>rfl);(case hr=>first|(go_simp;done)|(go_simp;rfl))
          intro gb481 hg w11 hbox hb
          have n0_:=A0_ (blk_below (g:=gb476) (o:=.cells #[.slice (some ad477) l0_0.length c0_0,.int .i64 a0_1,.int .i64 a0_2,.int .i64 a0_3] 29 (0,0)) (bd_ BK476.out) hb);have n1_:=A0_ (blk_below (g:=gb479) (o:=.cells #[.int .i64 0,.int .i64 0] 25 (0,0)) (bd_ BK479.out) hb)
          have n2_:=A0_ (below_step (by repeat (first|(with_reducible first|exact HB.out|apply below_alloc|apply pw_below_drewN|apply below_drew1|refine below_set ?_ GE476.out|refine below_set ?_ GE479.out)|exact HB.out)) hb)
          have n3_:=A0_ (hbox)
          have n4_:=A0_ ((by rw [hg];exact (below_size (by repeat (first|(with_reducible first|exact HB.out|apply below_alloc|apply pw_below_drewN|apply below_drew1|refine below_set ?_ GE476.out|refine below_set ?_ GE479.out)|exact HB.out))):w.heap.size≤gb481))
          have n5_:=A0_ ((by rw [hg];exact (below_size (by repeat (first|(with_reducible first|exact HB.out|apply below_alloc|apply pw_below_drewN|apply below_drew1|refine below_set ?_ GE476.out|refine below_set ?_ GE479.out)|exact HB.out))):w.heap.size≤gb481))
          have n6_:=A0_ ((by rw [hg];exact Nat.ne_of_lt (blk_lt (g:=gb476) (o:=.cells #[.slice (some ad477) l0_0.length c0_0,.int .i64 a0_1,.int .i64 a0_2,.int .i64 a0_3] 29 (0,0)) (bd_ BK476.out)):gb476≠gb481))
          have n7_:=A0_ ((by rw [hg];exact Nat.ne_of_gt (blk_lt (g:=gb476) (o:=.cells #[.slice (some ad477) l0_0.length c0_0,.int .i64 a0_1,.int .i64 a0_2,.int .i64 a0_3] 29 (0,0)) (bd_ BK476.out)):gb481≠gb476))
          have n8_:=A0_ ((by rw [hg];exact Nat.ne_of_lt (blk_lt (g:=gb479) (o:=.cells #[.int .i64 0,.int .i64 0] 25 (0,0)) (bd_ BK479.out)):gb479≠gb481))
          have n9_:=A0_ ((by rw [hg];exact Nat.ne_of_gt (blk_lt (g:=gb479) (o:=.cells #[.int .i64 0,.int .i64 0] 25 (0,0)) (bd_ BK479.out)):gb481≠gb479))
          clear BK476;clear BK479;clear HB;have BK476:=n0_;have BK479:=n1_;have HB:=n2_;have BK481:=n3_;have GW481:=n4_;have GE481:=n5_;have NB476_481:=n6_;have NB481_476:=n7_;have NB479_481:=n8_;have NB481_479:=n9_;clear n0_ n1_ n2_ n3_ n4_ n5_ n6_ n7_ n8_ n9_;clear hb hbox hg
          refine hK.out _ _ ⟨(blk_cell BK476.out 0).trans rfl,(blk_cell BK476.out 1).trans rfl,(blk_cell BK476.out 2).trans rfl,(blk_cell BK476.out 3).trans rfl,((HB.out.cell (World.block_lt_of_cell? w _ hw477_0)).trans hw477_0),((HB.out.cell (World.block_lt_of_cell? w _ hw477_1)).trans hw477_1),((HB.out.cell (World.block_lt_of_cell? w _ hw477_2)).trans hw477_2),((HB.out.cell (World.block_lt_of_cell? w _ hw477_3)).trans hw477_3),((HB.out.cell (World.block_lt_of_cell? w _ hw478_0)).trans hw478_0),((HB.out.cell (World.block_lt_of_cell? w _ hw478_1)).trans hw478_1),((HB.out.cell (World.block_lt_of_cell? w _ hw478_2)).trans hw478_2),((HB.out.cell (World.block_lt_of_cell? w _ hw478_3)).trans hw478_3)⟩ (fun hHeld=>?_)
          clear hK K
          refine norm_ (a':=?_) ?_ ?_
          rotate_left
          ·show Act.put _ (some 7) _=_
           simp only [Act.put,List.setIfInBounds_toArray,List.set_cons_zero,List.set_cons_succ,i64_w,i32_w]
           rfl
          exact norm_ yd_ (hJ13_15 (gb479,gb481) _ ⟨hHeld,(bd_ BK476.out),(bd_ BK479.out),(bd_ BK481.out),GW479.out,GE479.out,NB476_479.out,NB479_476.out,NB481_479.out,NB479_481.out,GW481.out,GE481.out,NB476_481.out,NB481_476.out,(by repeat (first|(with_reducible first|exact HB.out|apply below_alloc|apply pw_below_drewN|apply below_drew1|refine below_set ?_ GE476.out|refine below_set ?_ GE479.out|refine below_set ?_ GE481.out)|exact HB.out))⟩)
       ·skip
        rintro ⟨gb480,gb481⟩ w11 ⟨hS_,h0_,h1_,h2_,h3_,h4_,h5_,h6_,h7_,h8_,h9_,h10_,h11_,h12_,h13_⟩
        have n0_:Aside0 (w11.heap[gb476]?=some (.cells #[.slice (some ad477) l0_0.length c0_0,.int .i64 a0_1,.int .i64 a0_2,.int .i64 a0_3] 29 (0,0))):=⟨h0_⟩
        have n1_:Aside0 (w11.heap[gb480]?=some (.cells #[.int .i64 0,.int .i64 0] 25 (0,0))):=⟨h1_⟩
        have n2_:Aside0 (w11.heap[gb481]?=some (.cells #[.int .i64 0,.int .i64 0] 25 (0,0))):=⟨h2_⟩
        have n3_:Aside0 (w.heap.size≤gb480):=⟨h3_⟩
        have n4_:Aside0 (w.heap.size≤gb480):=⟨h4_⟩
        have n5_:Aside0 (gb476≠gb480):=⟨h5_⟩
        have n6_:Aside0 (gb480≠gb476):=⟨h6_⟩
        have n7_:Aside0 (gb481≠gb480):=⟨h7_⟩
        have n8_:Aside0 (gb480≠gb481):=⟨h8_⟩
        have n9_:Aside0 (w.heap.size≤gb481):=⟨h9_⟩
        have n10_:Aside0 (w.heap.size≤gb481):=⟨h10_⟩
        have n11_:Aside0 (gb476≠gb481):=⟨h11_⟩
        have n12_:Aside0 (gb481≠gb476):=⟨h12_⟩
        have n13_:Aside0 (Below w.heap.size w w11):=⟨h13_⟩
        clear BK476;clear HB;clear h0_ h1_ h2_ h3_ h4_ h5_ h6_ h7_ h8_ h9_ h10_ h11_ h12_ h13_;have BK476:=n0_;have BK480:=n1_;have BK481:=n2_;have GW480:=n3_;have GE480:=n4_;have NB476_480:=n5_;have NB480_476:=n6_;have NB481_480:=n7_;have NB480_481:=n8_;have GW481:=n9_;have GE481:=n10_;have NB476_481:=n11_;have NB481_476:=n12_;have HB:=n13_;clear n0_ n1_ n2_ n3_ n4_ n5_ n6_ n7_ n8_ n9_ n10_ n11_ n12_ n13_
        have hHeld:w11.cell? ⟨gb476,0,none⟩=some (.slice (some ad477) l0_0.length c0_0)∧w11.cell? ⟨gb476,1,none⟩=some (.int .i64 a0_1)∧w11.cell? ⟨gb476,2,none⟩=some (.int .i64 a0_2)∧w11.cell? ⟨gb476,3,none⟩=some (.int .i64 a0_3)∧w11.cell? ad477=some (.int .i64 ((rd_T74 l0_0 0).f0.f0))∧w11.cell? ⟨ad477.block,ad477.off+1,none⟩=some (.int .i64 ((rd_T74 l0_0 0).f0.f1))∧w11.cell? ⟨ad477.block,ad477.off+2,none⟩=some (.int .i64 ((rd_T74 l0_0 0).f1))∧w11.cell? ⟨ad477.block,ad477.off+3,none⟩=some (.slice A477_3 ((rd_T74 l0_0 0).f2).length c477_3)∧w11.cell? ⟨ad477.block,ad477.off+4,none⟩=some (.int .i64 ((rd_T74 l0_0 1).f0.f0))∧w11.cell? ⟨ad477.block,ad477.off+4+1,none⟩=some (.int .i64 ((rd_T74 l0_0 1).f0.f1))∧w11.cell? ⟨ad477.block,ad477.off+4+2,none⟩=some (.int .i64 ((rd_T74 l0_0 1).f1))∧w11.cell? ⟨ad477.block,ad477.off+4+3,none⟩=some (.slice A478_3 ((rd_T74 l0_0 1).f2).length c478_3):=hS_
        refine norm_ (a':=?_) ?_ ?_
        rotate_left
        ·simp only [putAll,Act.put,List.setIfInBounds_toArray,List.set_cons_zero,List.set_cons_succ]
         rfl
        refine one_ (i:=13) (N:=some 5) #[true,true,true,true,true,true,true,true,true,true,true,true,true,true,true,true,false,false,false] rfl rfl (one_of HT_.out (by kernel_rfl)) (by decide) (fun K hK=>?_)
        refine box_step ?hg (N:=5) ?hd (cs:=#[.int .i64 0,.int .i64 0]) (t:=25) ?hr ?_;(case hd=>rfl);(case hg=>rfl);(case hr=>first|(go_simp;done)|(go_simp;rfl))
        intro gb479 hg w12 hbox hb
        have n0_:=A0_ (blk_below (g:=gb476) (o:=.cells #[.slice (some ad477) l0_0.length c0_0,.int .i64 a0_1,.int .i64 a0_2,.int .i64 a0_3] 29 (0,0)) (bd_ BK476.out) hb);have n1_:=A0_ (blk_below (g:=gb480) (o:=.cells #[.int .i64 0,.int .i64 0] 25 (0,0)) (bd_ BK480.out) hb);have n2_:=A0_ (blk_below (g:=gb481) (o:=.cells #[.int .i64 0,.int .i64 0] 25 (0,0)) (bd_ BK481.out) hb)
        have n3_:=A0_ (below_step (by repeat (first|(with_reducible first|exact HB.out|apply below_alloc|apply pw_below_drewN|apply below_drew1|refine below_set ?_ GE476.out|refine below_set ?_ GE480.out|refine below_set ?_ GE481.out)|exact HB.out)) hb)
        have n4_:=A0_ (hbox)
        have n5_:=A0_ ((by rw [hg];exact (below_size (by repeat (first|(with_reducible first|exact HB.out|apply below_alloc|apply pw_below_drewN|apply below_drew1|refine below_set ?_ GE476.out|refine below_set ?_ GE480.out|refine below_set ?_ GE481.out)|exact HB.out))):w.heap.size≤gb479))
        have n6_:=A0_ ((by rw [hg];exact (below_size (by repeat (first|(with_reducible first|exact HB.out|apply below_alloc|apply pw_below_drewN|apply below_drew1|refine below_set ?_ GE476.out|refine below_set ?_ GE480.out|refine below_set ?_ GE481.out)|exact HB.out))):w.heap.size≤gb479))
        have n7_:=A0_ ((by rw [hg];exact Nat.ne_of_lt (blk_lt (g:=gb476) (o:=.cells #[.slice (some ad477) l0_0.length c0_0,.int .i64 a0_1,.int .i64 a0_2,.int .i64 a0_3] 29 (0,0)) (bd_ BK476.out)):gb476≠gb479))
        have n8_:=A0_ ((by rw [hg];exact Nat.ne_of_gt (blk_lt (g:=gb476) (o:=.cells #[.slice (some ad477) l0_0.length c0_0,.int .i64 a0_1,.int .i64 a0_2,.int .i64 a0_3] 29 (0,0)) (bd_ BK476.out)):gb479≠gb476))
        have n9_:=A0_ ((by rw [hg];exact Nat.ne_of_lt (blk_lt (g:=gb480) (o:=.cells #[.int .i64 0,.int .i64 0] 25 (0,0)) (bd_ BK480.out)):gb480≠gb479))
        have n10_:=A0_ ((by rw [hg];exact Nat.ne_of_gt (blk_lt (g:=gb480) (o:=.cells #[.int .i64 0,.int .i64 0] 25 (0,0)) (bd_ BK480.out)):gb479≠gb480))
        have n11_:=A0_ ((by rw [hg];exact Nat.ne_of_lt (blk_lt (g:=gb481) (o:=.cells #[.int .i64 0,.int .i64 0] 25 (0,0)) (bd_ BK481.out)):gb481≠gb479))
        have n12_:=A0_ ((by rw [hg];exact Nat.ne_of_gt (blk_lt (g:=gb481) (o:=.cells #[.int .i64 0,.int .i64 0] 25 (0,0)) (bd_ BK481.out)):gb479≠gb481))
        clear BK476;clear BK480;clear BK481;clear HB;have BK476:=n0_;have BK480:=n1_;have BK481:=n2_;have HB:=n3_;have BK479:=n4_;have GW479:=n5_;have GE479:=n6_;have NB476_479:=n7_;have NB479_476:=n8_;have NB480_479:=n9_;have NB479_480:=n10_;have NB481_479:=n11_;have NB479_481:=n12_;clear n0_ n1_ n2_ n3_ n4_ n5_ n6_ n7_ n8_ n9_ n10_ n11_ n12_;clear hb hbox hg
        refine hK.out _ _ ⟨(blk_cell BK476.out 0).trans rfl,(blk_cell BK476.out 1).trans rfl,(blk_cell BK476.out 2).trans rfl,(blk_cell BK476.out 3).trans rfl,((HB.out.cell (World.block_lt_of_cell? w _ hw477_0)).trans hw477_0),((HB.out.cell (World.block_lt_of_cell? w _ hw477_1)).trans hw477_1),((HB.out.cell (World.block_lt_of_cell? w _ hw477_2)).trans hw477_2),((HB.out.cell (World.block_lt_of_cell? w _ hw477_3)).trans hw477_3),((HB.out.cell (World.block_lt_of_cell? w _ hw478_0)).trans hw478_0),((HB.out.cell (World.block_lt_of_cell? w _ hw478_1)).trans hw478_1),((HB.out.cell (World.block_lt_of_cell? w _ hw478_2)).trans hw478_2),((HB.out.cell (World.block_lt_of_cell? w _ hw478_3)).trans hw478_3)⟩ (fun hHeld=>?_)
        clear hK K
        refine norm_ (a':=?_) ?_ ?_
        rotate_left
        ·show Act.put _ (some 5) _=_
         simp only [Act.put,List.setIfInBounds_toArray,List.set_cons_zero,List.set_cons_succ,i64_w,i32_w]
         rfl
        exact norm_ yd_ (hJ13_14_15 (gb479,gb480,gb481) _ ⟨hHeld,(bd_ BK476.out),(bd_ BK479.out),(bd_ BK480.out),(bd_ BK481.out),GW479.out,GE479.out,NB476_479.out,NB479_476.out,NB480_479.out,NB479_480.out,NB481_479.out,NB479_481.out,GW480.out,GE480.out,NB476_480.out,NB480_476.out,NB481_480.out,NB480_481.out,GW481.out,GE481.out,NB476_481.out,NB481_476.out,(by repeat (first|(with_reducible first|exact HB.out|apply below_alloc|apply pw_below_drewN|apply below_drew1|refine below_set ?_ GE476.out|refine below_set ?_ GE480.out|refine below_set ?_ GE481.out|refine below_set ?_ GE479.out)|exact HB.out))⟩)
      ·skip
       rintro ⟨gb479,gb481⟩ w11 ⟨hS_,h0_,h1_,h2_,h3_,h4_,h5_,h6_,h7_,h8_,h9_,h10_,h11_,h12_,h13_⟩
       have n0_:Aside0 (w11.heap[gb476]?=some (.cells #[.slice (some ad477) l0_0.length c0_0,.int .i64 a0_1,.int .i64 a0_2,.int .i64 a0_3] 29 (0,0))):=⟨h0_⟩
       have n1_:Aside0 (w11.heap[gb479]?=some (.cells #[.int .i64 0,.int .i64 0] 25 (0,0))):=⟨h1_⟩
       have n2_:Aside0 (w11.heap[gb481]?=some (.cells #[.int .i64 0,.int .i64 0] 25 (0,0))):=⟨h2_⟩
       have n3_:Aside0 (w.heap.size≤gb479):=⟨h3_⟩
       have n4_:Aside0 (w.heap.size≤gb479):=⟨h4_⟩
       have n5_:Aside0 (gb476≠gb479):=⟨h5_⟩
       have n6_:Aside0 (gb479≠gb476):=⟨h6_⟩
       have n7_:Aside0 (gb481≠gb479):=⟨h7_⟩
       have n8_:Aside0 (gb479≠gb481):=⟨h8_⟩
       have n9_:Aside0 (w.heap.size≤gb481):=⟨h9_⟩
       have n10_:Aside0 (w.heap.size≤gb481):=⟨h10_⟩
       have n11_:Aside0 (gb476≠gb481):=⟨h11_⟩
       have n12_:Aside0 (gb481≠gb476):=⟨h12_⟩
       have n13_:Aside0 (Below w.heap.size w w11):=⟨h13_⟩
       clear BK476;clear HB;clear h0_ h1_ h2_ h3_ h4_ h5_ h6_ h7_ h8_ h9_ h10_ h11_ h12_ h13_;have BK476:=n0_;have BK479:=n1_;have BK481:=n2_;have GW479:=n3_;have GE479:=n4_;have NB476_479:=n5_;have NB479_476:=n6_;have NB481_479:=n7_;have NB479_481:=n8_;have GW481:=n9_;have GE481:=n10_;have NB476_481:=n11_;have NB481_476:=n12_;have HB:=n13_;clear n0_ n1_ n2_ n3_ n4_ n5_ n6_ n7_ n8_ n9_ n10_ n11_ n12_ n13_
       have hHeld:w11.cell? ⟨gb476,0,none⟩=some (.slice (some ad477) l0_0.length c0_0)∧w11.cell? ⟨gb476,1,none⟩=some (.int .i64 a0_1)∧w11.cell? ⟨gb476,2,none⟩=some (.int .i64 a0_2)∧w11.cell? ⟨gb476,3,none⟩=some (.int .i64 a0_3)∧w11.cell? ad477=some (.int .i64 ((rd_T74 l0_0 0).f0.f0))∧w11.cell? ⟨ad477.block,ad477.off+1,none⟩=some (.int .i64 ((rd_T74 l0_0 0).f0.f1))∧w11.cell? ⟨ad477.block,ad477.off+2,none⟩=some (.int .i64 ((rd_T74 l0_0 0).f1))∧w11.cell? ⟨ad477.block,ad477.off+3,none⟩=some (.slice A477_3 ((rd_T74 l0_0 0).f2).length c477_3)∧w11.cell? ⟨ad477.block,ad477.off+4,none⟩=some (.int .i64 ((rd_T74 l0_0 1).f0.f0))∧w11.cell? ⟨ad477.block,ad477.off+4+1,none⟩=some (.int .i64 ((rd_T74 l0_0 1).f0.f1))∧w11.cell? ⟨ad477.block,ad477.off+4+2,none⟩=some (.int .i64 ((rd_T74 l0_0 1).f1))∧w11.cell? ⟨ad477.block,ad477.off+4+3,none⟩=some (.slice A478_3 ((rd_T74 l0_0 1).f2).length c478_3):=hS_
       refine norm_ (a':=?_) ?_ ?_
       rotate_left
       ·simp only [putAll,Act.put,List.setIfInBounds_toArray,List.set_cons_zero,List.set_cons_succ]
        rfl
       refine one_ (i:=14) (N:=some 6) #[true,true,true,true,true,true,true,true,true,true,true,true,true,true,true,true,false,false,false] rfl rfl (one_of HT_.out (by kernel_rfl)) (by decide) (fun K hK=>?_)
       refine box_step ?hg (N:=6) ?hd (cs:=#[.int .i64 0,.int .i64 0]) (t:=25) ?hr ?_;(case hd=>rfl);(case hg=>rfl);(case hr=>first|(go_simp;done)|(go_simp;rfl))
       intro gb480 hg w12 hbox hb
       have n0_:=A0_ (blk_below (g:=gb476) (o:=.cells #[.slice (some ad477) l0_0.length c0_0,.int .i64 a0_1,.int .i64 a0_2,.int .i64 a0_3] 29 (0,0)) (bd_ BK476.out) hb);have n1_:=A0_ (blk_below (g:=gb479) (o:=.cells #[.int .i64 0,.int .i64 0] 25 (0,0)) (bd_ BK479.out) hb);have n2_:=A0_ (blk_below (g:=gb481) (o:=.cells #[.int .i64 0,.int .i64 0] 25 (0,0)) (bd_ BK481.out) hb)
       have n3_:=A0_ (below_step (by repeat (first|(with_reducible first|exact HB.out|apply below_alloc|apply pw_below_drewN|apply below_drew1|refine below_set ?_ GE476.out|refine below_set ?_ GE479.out|refine below_set ?_ GE481.out)|exact HB.out)) hb)
       have n4_:=A0_ (hbox)
       have n5_:=A0_ ((by rw [hg];exact (below_size (by repeat (first|(with_reducible first|exact HB.out|apply below_alloc|apply pw_below_drewN|apply below_drew1|refine below_set ?_ GE476.out|refine below_set ?_ GE479.out|refine below_set ?_ GE481.out)|exact HB.out))):w.heap.size≤gb480))
       have n6_:=A0_ ((by rw [hg];exact (below_size (by repeat (first|(with_reducible first|exact HB.out|apply below_alloc|apply pw_below_drewN|apply below_drew1|refine below_set ?_ GE476.out|refine below_set ?_ GE479.out|refine below_set ?_ GE481.out)|exact HB.out))):w.heap.size≤gb480))
       have n7_:=A0_ ((by rw [hg];exact Nat.ne_of_lt (blk_lt (g:=gb476) (o:=.cells #[.slice (some ad477) l0_0.length c0_0,.int .i64 a0_1,.int .i64 a0_2,.int .i64 a0_3] 29 (0,0)) (bd_ BK476.out)):gb476≠gb480))
       have n8_:=A0_ ((by rw [hg];exact Nat.ne_of_gt (blk_lt (g:=gb476) (o:=.cells #[.slice (some ad477) l0_0.length c0_0,.int .i64 a0_1,.int .i64 a0_2,.int .i64 a0_3] 29 (0,0)) (bd_ BK476.out)):gb480≠gb476))
       have n9_:=A0_ ((by rw [hg];exact Nat.ne_of_lt (blk_lt (g:=gb479) (o:=.cells #[.int .i64 0,.int .i64 0] 25 (0,0)) (bd_ BK479.out)):gb479≠gb480))
       have n10_:=A0_ ((by rw [hg];exact Nat.ne_of_gt (blk_lt (g:=gb479) (o:=.cells #[.int .i64 0,.int .i64 0] 25 (0,0)) (bd_ BK479.out)):gb480≠gb479))
       have n11_:=A0_ ((by rw [hg];exact Nat.ne_of_lt (blk_lt (g:=gb481) (o:=.cells #[.int .i64 0,.int .i64 0] 25 (0,0)) (bd_ BK481.out)):gb481≠gb480))
       have n12_:=A0_ ((by rw [hg];exact Nat.ne_of_gt (blk_lt (g:=gb481) (o:=.cells #[.int .i64 0,.int .i64 0] 25 (0,0)) (bd_ BK481.out)):gb480≠gb481))
       clear BK476;clear BK479;clear BK481;clear HB;have BK476:=n0_;have BK479:=n1_;have BK481:=n2_;have HB:=n3_;have BK480:=n4_;have GW480:=n5_;have GE480:=n6_;have NB476_480:=n7_;have NB480_476:=n8_;have NB479_480:=n9_;have NB480_479:=n10_;have NB481_480:=n11_;have NB480_481:=n12_;clear n0_ n1_ n2_ n3_ n4_ n5_ n6_ n7_ n8_ n9_ n10_ n11_ n12_;clear hb hbox hg
       refine hK.out _ _ ⟨(blk_cell BK476.out 0).trans rfl,(blk_cell BK476.out 1).trans rfl,(blk_cell BK476.out 2).trans rfl,(blk_cell BK476.out 3).trans rfl,((HB.out.cell (World.block_lt_of_cell? w _ hw477_0)).trans hw477_0),((HB.out.cell (World.block_lt_of_cell? w _ hw477_1)).trans hw477_1),((HB.out.cell (World.block_lt_of_cell? w _ hw477_2)).trans hw477_2),((HB.out.cell (World.block_lt_of_cell? w _ hw477_3)).trans hw477_3),((HB.out.cell (World.block_lt_of_cell? w _ hw478_0)).trans hw478_0),((HB.out.cell (World.block_lt_of_cell? w _ hw478_1)).trans hw478_1),((HB.out.cell (World.block_lt_of_cell? w _ hw478_2)).trans hw478_2),((HB.out.cell (World.block_lt_of_cell? w _ hw478_3)).trans hw478_3)⟩ (fun hHeld=>?_)
       clear hK K
       refine norm_ (a':=?_) ?_ ?_
       rotate_left
       ·show Act.put _ (some 6) _=_
        simp only [Act.put,List.setIfInBounds_toArray,List.set_cons_zero,List.set_cons_succ,i64_w,i32_w]
        rfl
       exact norm_ yd_ (hJ13_14_15 (gb479,gb480,gb481) _ ⟨hHeld,(bd_ BK476.out),(bd_ BK479.out),(bd_ BK480.out),(bd_ BK481.out),GW479.out,GE479.out,NB476_479.out,NB479_476.out,NB480_479.out,NB479_480.out,NB481_479.out,NB479_481.out,GW480.out,GE480.out,NB476_480.out,NB480_476.out,NB481_480.out,NB480_481.out,GW481.out,GE481.out,NB476_481.out,NB481_476.out,(by repeat (first|(with_reducible first|exact HB.out|apply below_alloc|apply pw_below_drewN|apply below_drew1|refine below_set ?_ GE476.out|refine below_set ?_ GE479.out|refine below_set ?_ GE481.out|refine below_set ?_ GE480.out)|exact HB.out))⟩)
     ·skip
      rintro ⟨gb479,gb480⟩ w11 ⟨hS_,h0_,h1_,h2_,h3_,h4_,h5_,h6_,h7_,h8_,h9_,h10_,h11_,h12_,h13_⟩
      have n0_:Aside0 (w11.heap[gb476]?=some (.cells #[.slice (some ad477) l0_0.length c0_0,.int .i64 a0_1,.int .i64 a0_2,.int .i64 a0_3] 29 (0,0))):=⟨h0_⟩
      have n1_:Aside0 (w11.heap[gb479]?=some (.cells #[.int .i64 0,.int .i64 0] 25 (0,0))):=⟨h1_⟩
      have n2_:Aside0 (w11.heap[gb480]?=some (.cells #[.int .i64 0,.int .i64 0] 25 (0,0))):=⟨h2_⟩
      have n3_:Aside0 (w.heap.size≤gb479):=⟨h3_⟩
      have n4_:Aside0 (w.heap.size≤gb479):=⟨h4_⟩
      have n5_:Aside0 (gb476≠gb479):=⟨h5_⟩
      have n6_:Aside0 (gb479≠gb476):=⟨h6_⟩
      have n7_:Aside0 (gb480≠gb479):=⟨h7_⟩
      have n8_:Aside0 (gb479≠gb480):=⟨h8_⟩
      have n9_:Aside0 (w.heap.size≤gb480):=⟨h9_⟩
      have n10_:Aside0 (w.heap.size≤gb480):=⟨h10_⟩
      have n11_:Aside0 (gb476≠gb480):=⟨h11_⟩
      have n12_:Aside0 (gb480≠gb476):=⟨h12_⟩
      have n13_:Aside0 (Below w.heap.size w w11):=⟨h13_⟩
      clear BK476;clear HB;clear h0_ h1_ h2_ h3_ h4_ h5_ h6_ h7_ h8_ h9_ h10_ h11_ h12_ h13_;have BK476:=n0_;have BK479:=n1_;have BK480:=n2_;have GW479:=n3_;have GE479:=n4_;have NB476_479:=n5_;have NB479_476:=n6_;have NB480_479:=n7_;have NB479_480:=n8_;have GW480:=n9_;have GE480:=n10_;have NB476_480:=n11_;have NB480_476:=n12_;have HB:=n13_;clear n0_ n1_ n2_ n3_ n4_ n5_ n6_ n7_ n8_ n9_ n10_ n11_ n12_ n13_
      have hHeld:w11.cell? ⟨gb476,0,none⟩=some (.slice (some ad477) l0_0.length c0_0)∧w11.cell? ⟨gb476,1,none⟩=some (.int .i64 a0_1)∧w11.cell? ⟨gb476,2,none⟩=some (.int .i64 a0_2)∧w11.cell? ⟨gb476,3,none⟩=some (.int .i64 a0_3)∧w11.cell? ad477=some (.int .i64 ((rd_T74 l0_0 0).f0.f0))∧w11.cell? ⟨ad477.block,ad477.off+1,none⟩=some (.int .i64 ((rd_T74 l0_0 0).f0.f1))∧w11.cell? ⟨ad477.block,ad477.off+2,none⟩=some (.int .i64 ((rd_T74 l0_0 0).f1))∧w11.cell? ⟨ad477.block,ad477.off+3,none⟩=some (.slice A477_3 ((rd_T74 l0_0 0).f2).length c477_3)∧w11.cell? ⟨ad477.block,ad477.off+4,none⟩=some (.int .i64 ((rd_T74 l0_0 1).f0.f0))∧w11.cell? ⟨ad477.block,ad477.off+4+1,none⟩=some (.int .i64 ((rd_T74 l0_0 1).f0.f1))∧w11.cell? ⟨ad477.block,ad477.off+4+2,none⟩=some (.int .i64 ((rd_T74 l0_0 1).f1))∧w11.cell? ⟨ad477.block,ad477.off+4+3,none⟩=some (.slice A478_3 ((rd_T74 l0_0 1).f2).length c478_3):=hS_
      refine norm_ (a':=?_) ?_ ?_
      rotate_left
      ·simp only [putAll,Act.put,List.setIfInBounds_toArray,List.set_cons_zero,List.set_cons_succ]
       rfl
      refine one_ (i:=15) (N:=some 7) #[true,true,true,true,true,true,true,true,true,true,true,true,true,true,true,true,false,false,false] rfl rfl (one_of HT_.out (by kernel_rfl)) (by decide) (fun K hK=>?_)
      refine box_step ?hg (N:=7) ?hd (cs:=#[.int .i64 0,.int .i64 0]) (t:=25) ?hr ?_;(case hd=>rfl);(case hg=>rfl);(case hr=>first|(go_simp;done)|(go_simp;rfl))
      intro gb481 hg w12 hbox hb
      have n0_:=A0_ (blk_below (g:=gb476) (o:=.cells #[.slice (some ad477) l0_0.length c0_0,.int .i64 a0_1,.int .i64 a0_2,.int .i64 a0_3] 29 (0,0)) (bd_ BK476.out) hb);have n1_:=A0_ (blk_below (g:=gb479) (o:=.cells #[.int .i64 0,.int .i64 0] 25 (0,0)) (bd_ BK479.out) hb);have n2_:=A0_ (blk_below (g:=gb480) (o:=.cells #[.int .i64 0,.int .i64 0] 25 (0,0)) (bd_ BK480.out) hb)
      have n3_:=A0_ (below_step (by repeat (first|(with_reducible first|exact HB.out|apply below_alloc|apply pw_below_drewN|apply below_drew1|refine below_set ?_ GE476.out|refine below_set ?_ GE479.out|refine below_set ?_ GE480.out)|exact HB.out)) hb)
      have n4_:=A0_ (hbox)
      have n5_:=A0_ ((by rw [hg];exact (below_size (by repeat (first|(with_reducible first|exact HB.out|apply below_alloc|apply pw_below_drewN|apply below_drew1|refine below_set ?_ GE476.out|refine below_set ?_ GE479.out|refine below_set ?_ GE480.out)|exact HB.out))):w.heap.size≤gb481))
      have n6_:=A0_ ((by rw [hg];exact (below_size (by repeat (first|(with_reducible first|exact HB.out|apply below_alloc|apply pw_below_drewN|apply below_drew1|refine below_set ?_ GE476.out|refine below_set ?_ GE479.out|refine below_set ?_ GE480.out)|exact HB.out))):w.heap.size≤gb481))
      have n7_:=A0_ ((by rw [hg];exact Nat.ne_of_lt (blk_lt (g:=gb476) (o:=.cells #[.slice (some ad477) l0_0.length c0_0,.int .i64 a0_1,.int .i64 a0_2,.int .i64 a0_3] 29 (0,0)) (bd_ BK476.out)):gb476≠gb481))
      have n8_:=A0_ ((by rw [hg];exact Nat.ne_of_gt (blk_lt (g:=gb476) (o:=.cells #[.slice (some ad477) l0_0.length c0_0,.int .i64 a0_1,.int .i64 a0_2,.int .i64 a0_3] 29 (0,0)) (bd_ BK476.out)):gb481≠gb476))
      have n9_:=A0_ ((by rw [hg];exact Nat.ne_of_lt (blk_lt (g:=gb479) (o:=.cells #[.int .i64 0,.int .i64 0] 25 (0,0)) (bd_ BK479.out)):gb479≠gb481))
      have n10_:=A0_ ((by rw [hg];exact Nat.ne_of_gt (blk_lt (g:=gb479) (o:=.cells #[.int .i64 0,.int .i64 0] 25 (0,0)) (bd_ BK479.out)):gb481≠gb479))
      have n11_:=A0_ ((by rw [hg];exact Nat.ne_of_lt (blk_lt (g:=gb480) (o:=.cells #[.int .i64 0,.int .i64 0] 25 (0,0)) (bd_ BK480.out)):gb480≠gb481))
      have n12_:=A0_ ((by rw [hg];exact Nat.ne_of_gt (blk_lt (g:=gb480) (o:=.cells #[.int .i64 0,.int .i64 0] 25 (0,0)) (bd_ BK480.out)):gb481≠gb480))
      clear BK476;clear BK479;clear BK480;clear HB;have BK476:=n0_;have BK479:=n1_;have BK480:=n2_;have HB:=n3_;have BK481:=n4_;have GW481:=n5_;have GE481:=n6_;have NB476_481:=n7_;have NB481_476:=n8_;have NB479_481:=n9_;have NB481_479:=n10_;have NB480_481:=n11_;have NB481_480:=n12_;clear n0_ n1_ n2_ n3_ n4_ n5_ n6_ n7_ n8_ n9_ n10_ n11_ n12_;clear hb hbox hg
      refine hK.out _ _ ⟨(blk_cell BK476.out 0).trans rfl,(blk_cell BK476.out 1).trans rfl,(blk_cell BK476.out 2).trans rfl,(blk_cell BK476.out 3).trans rfl,((HB.out.cell (World.block_lt_of_cell? w _ hw477_0)).trans hw477_0),((HB.out.cell (World.block_lt_of_cell? w _ hw477_1)).trans hw477_1),((HB.out.cell (World.block_lt_of_cell? w _ hw477_2)).trans hw477_2),((HB.out.cell (World.block_lt_of_cell? w _ hw477_3)).trans hw477_3),((HB.out.cell (World.block_lt_of_cell? w _ hw478_0)).trans hw478_0),((HB.out.cell (World.block_lt_of_cell? w _ hw478_1)).trans hw478_1),((HB.out.cell (World.block_lt_of_cell? w _ hw478_2)).trans hw478_2),((HB.out.cell (World.block_lt_of_cell? w _ hw478_3)).trans hw478_3)⟩ (fun hHeld=>?_)
      clear hK K
      refine norm_ (a':=?_) ?_ ?_
      rotate_left
      ·show Act.put _ (some 7) _=_
       simp only [Act.put,List.setIfInBounds_toArray,List.set_cons_zero,List.set_cons_succ,i64_w,i32_w]
       rfl
      exact norm_ yd_ (hJ13_14_15 (gb479,gb480,gb481) _ ⟨hHeld,(bd_ BK476.out),(bd_ BK479.out),(bd_ BK480.out),(bd_ BK481.out),GW479.out,GE479.out,NB476_479.out,NB479_476.out,NB480_479.out,NB479_480.out,NB481_479.out,NB479_481.out,GW480.out,GE480.out,NB476_480.out,NB480_476.out,NB481_480.out,NB480_481.out,GW481.out,GE481.out,NB476_481.out,NB481_476.out,(by repeat (first|(with_reducible first|exact HB.out|apply below_alloc|apply pw_below_drewN|apply below_drew1|refine below_set ?_ GE476.out|refine below_set ?_ GE479.out|refine below_set ?_ GE480.out|refine below_set ?_ GE481.out)|exact HB.out))⟩)
    rintro ⟨gb479,gb480,gb481⟩ w12 ⟨hS_,h0_,h1_,h2_,h3_,h4_,h5_,h6_,h7_,h8_,h9_,h10_,h11_,h12_,h13_,h14_,h15_,h16_,h17_,h18_,h19_,h20_,h21_,h22_⟩
    have n0_:Aside0 (w12.heap[gb476]?=some (.cells #[.slice (some ad477) l0_0.length c0_0,.int .i64 a0_1,.int .i64 a0_2,.int .i64 a0_3] 29 (0,0))):=⟨h0_⟩
    have n1_:Aside0 (w12.heap[gb479]?=some (.cells #[.int .i64 0,.int .i64 0] 25 (0,0))):=⟨h1_⟩
    have n2_:Aside0 (w12.heap[gb480]?=some (.cells #[.int .i64 0,.int .i64 0] 25 (0,0))):=⟨h2_⟩
    have n3_:Aside0 (w12.heap[gb481]?=some (.cells #[.int .i64 0,.int .i64 0] 25 (0,0))):=⟨h3_⟩
    have n4_:Aside0 (w.heap.size≤gb479):=⟨h4_⟩
    have n5_:Aside0 (w.heap.size≤gb479):=⟨h5_⟩
    have n6_:Aside0 (gb476≠gb479):=⟨h6_⟩
    have n7_:Aside0 (gb479≠gb476):=⟨h7_⟩
    have n8_:Aside0 (gb480≠gb479):=⟨h8_⟩
    have n9_:Aside0 (gb479≠gb480):=⟨h9_⟩
    have n10_:Aside0 (gb481≠gb479):=⟨h10_⟩
    have n11_:Aside0 (gb479≠gb481):=⟨h11_⟩
    have n12_:Aside0 (w.heap.size≤gb480):=⟨h12_⟩
    have n13_:Aside0 (w.heap.size≤gb480):=⟨h13_⟩
    have n14_:Aside0 (gb476≠gb480):=⟨h14_⟩
    have n15_:Aside0 (gb480≠gb476):=⟨h15_⟩
    have n16_:Aside0 (gb481≠gb480):=⟨h16_⟩
    have n17_:Aside0 (gb480≠gb481):=⟨h17_⟩
    have n18_:Aside0 (w.heap.size≤gb481):=⟨h18_⟩
    have n19_:Aside0 (w.heap.size≤gb481):=⟨h19_⟩
    have n20_:Aside0 (gb476≠gb481):=⟨h20_⟩
    have n21_:Aside0 (gb481≠gb476):=⟨h21_⟩
    have n22_:Aside0 (Below w.heap.size w w12):=⟨h22_⟩
    clear BK476;clear HB;clear h0_ h1_ h2_ h3_ h4_ h5_ h6_ h7_ h8_ h9_ h10_ h11_ h12_ h13_ h14_ h15_ h16_ h17_ h18_ h19_ h20_ h21_ h22_;have BK476:=n0_;have BK479:=n1_;have BK480:=n2_;have BK481:=n3_;have GW479:=n4_;have GE479:=n5_;have NB476_479:=n6_;have NB479_476:=n7_;have NB480_479:=n8_;have NB479_480:=n9_;have NB481_479:=n10_;have NB479_481:=n11_;have GW480:=n12_;have GE480:=n13_;have NB476_480:=n14_;have NB480_476:=n15_;have NB481_480:=n16_;have NB480_481:=n17_;have GW481:=n18_;have GE481:=n19_;have NB476_481:=n20_;have NB481_476:=n21_;have HB:=n22_;clear n0_ n1_ n2_ n3_ n4_ n5_ n6_ n7_ n8_ n9_ n10_ n11_ n12_ n13_ n14_ n15_ n16_ n17_ n18_ n19_ n20_ n21_ n22_
    have hHeld:w12.cell? ⟨gb476,0,none⟩=some (.slice (some ad477) l0_0.length c0_0)∧w12.cell? ⟨gb476,1,none⟩=some (.int .i64 a0_1)∧w12.cell? ⟨gb476,2,none⟩=some (.int .i64 a0_2)∧w12.cell? ⟨gb476,3,none⟩=some (.int .i64 a0_3)∧w12.cell? ad477=some (.int .i64 ((rd_T74 l0_0 0).f0.f0))∧w12.cell? ⟨ad477.block,ad477.off+1,none⟩=some (.int .i64 ((rd_T74 l0_0 0).f0.f1))∧w12.cell? ⟨ad477.block,ad477.off+2,none⟩=some (.int .i64 ((rd_T74 l0_0 0).f1))∧w12.cell? ⟨ad477.block,ad477.off+3,none⟩=some (.slice A477_3 ((rd_T74 l0_0 0).f2).length c477_3)∧w12.cell? ⟨ad477.block,ad477.off+4,none⟩=some (.int .i64 ((rd_T74 l0_0 1).f0.f0))∧w12.cell? ⟨ad477.block,ad477.off+4+1,none⟩=some (.int .i64 ((rd_T74 l0_0 1).f0.f1))∧w12.cell? ⟨ad477.block,ad477.off+4+2,none⟩=some (.int .i64 ((rd_T74 l0_0 1).f1))∧w12.cell? ⟨ad477.block,ad477.off+4+3,none⟩=some (.slice A478_3 ((rd_T74 l0_0 1).f2).length c478_3):=hS_
    refine norm_ (a':=?_) ?_ ?_
    rotate_left
    ·simp only [putAll,Act.put,List.setIfInBounds_toArray,List.set_cons_zero,List.set_cons_succ]
     rfl
    refine one_ (i:=16) (N:=none) #[true,true,true,true,true,true,true,true,true,true,true,true,true,true,true,true,true,false,false] rfl rfl (one_of HT_.out (by kernel_rfl)) (by decide) (fun K hK=>?_)
    have hs13:w12.cell? ⟨gb479,0,none⟩=some (.int .i64 0):=(blk_cell BK479.out 0).trans rfl
    have hfs13:=blk_frozen BK479.out 0
    have hns13_0:=NB476_479.out
    have hns13_2:=NB480_479.out
    have hns13_3:=NB481_479.out
    have hms13_0:=NB479_476.out
    have hms13_2:=NB479_480.out
    have hms13_3:=NB479_481.out
    have hs14:w12.cell? ⟨gb479,1,none⟩=some (.int .i64 0):=(blk_cell BK479.out 1).trans rfl
    have hfs14:=blk_frozen BK479.out 1
    have hns14_0:=NB476_479.out
    have hns14_2:=NB480_479.out
    have hns14_3:=NB481_479.out
    have hms14_0:=NB479_476.out
    have hms14_2:=NB479_480.out
    have hms14_3:=NB479_481.out
    refine skip_ (w1:=?_) (by rfl) rfl ?_ ?_
    rotate_left
    ·go_simp
     rfl
    refine hK.out _ _ ⟨((cell_far (p:=⟨gb479,_,none⟩) NB476_479.out _).trans (((cell_far (p:=⟨gb479,_,none⟩) NB476_479.out _).trans (hHeld.1)))),((cell_far (p:=⟨gb479,_,none⟩) NB476_479.out _).trans (((cell_far (p:=⟨gb479,_,none⟩) NB476_479.out _).trans (hHeld.2.1)))),((cell_far (p:=⟨gb479,_,none⟩) NB476_479.out _).trans (((cell_far (p:=⟨gb479,_,none⟩) NB476_479.out _).trans (hHeld.2.2.1)))),((cell_far (p:=⟨gb479,_,none⟩) NB476_479.out _).trans (((cell_far (p:=⟨gb479,_,none⟩) NB476_479.out _).trans (hHeld.2.2.2.1)))),((cell_far (p:=⟨gb479,_,none⟩) (by first|exact Nat.ne_of_lt (Nat.lt_of_lt_of_le (by have:=World.block_lt_of_cell? _ _ hw477_0;first|rwa [add_block] at this|exact this) GW479.out)|(rw [add_block];exact Nat.ne_of_lt (Nat.lt_of_lt_of_le (by have:=World.block_lt_of_cell? _ _ hw477_0;first|rwa [add_block] at this|exact this) GW479.out))|(show (Addr.add _ _).block≠_;rw [add_block];exact Nat.ne_of_lt (Nat.lt_of_lt_of_le (by have:=World.block_lt_of_cell? _ _ hw477_0;first|rwa [add_block] at this|exact this) GW479.out))|(dsimp only;exact Nat.ne_of_lt (Nat.lt_of_lt_of_le (by have:=World.block_lt_of_cell? _ _ hw477_0;first|rwa [add_block] at this|exact this) GW479.out))) _).trans (((cell_far (p:=⟨gb479,_,none⟩) (by first|exact Nat.ne_of_lt (Nat.lt_of_lt_of_le (by have:=World.block_lt_of_cell? _ _ hw477_0;first|rwa [add_block] at this|exact this) GW479.out)|(rw [add_block];exact Nat.ne_of_lt (Nat.lt_of_lt_of_le (by have:=World.block_lt_of_cell? _ _ hw477_0;first|rwa [add_block] at this|exact this) GW479.out))|(show (Addr.add _ _).block≠_;rw [add_block];exact Nat.ne_of_lt (Nat.lt_of_lt_of_le (by have:=World.block_lt_of_cell? _ _ hw477_0;first|rwa [add_block] at this|exact this) GW479.out))|(dsimp only;exact Nat.ne_of_lt (Nat.lt_of_lt_of_le (by have:=World.block_lt_of_cell? _ _ hw477_0;first|rwa [add_block] at this|exact this) GW479.out))) _).trans (hHeld.2.2.2.2.1)))),((cell_far (p:=⟨gb479,_,none⟩) (by first|exact Nat.ne_of_lt (Nat.lt_of_lt_of_le (by have:=World.block_lt_of_cell? _ _ hw477_1;first|rwa [add_block] at this|exact this) GW479.out)|(rw [add_block];exact Nat.ne_of_lt (Nat.lt_of_lt_of_le (by have:=World.block_lt_of_cell? _ _ hw477_1;first|rwa [add_block] at this|exact this) GW479.out))|(show (Addr.add _ _).block≠_;rw [add_block];exact Nat.ne_of_lt (Nat.lt_of_lt_of_le (by have:=World.block_lt_of_cell? _ _ hw477_1;first|rwa [add_block] at this|exact this) GW479.out))|(dsimp only;exact Nat.ne_of_lt (Nat.lt_of_lt_of_le (by have:=World.block_lt_of_cell? _ _ hw477_1;first|rwa [add_block] at this|exact this) GW479.out))) _).trans (((cell_far (p:=⟨gb479,_,none⟩) (by first|exact Nat.ne_of_lt (Nat.lt_of_lt_of_le (by have:=World.block_lt_of_cell? _ _ hw477_1;first|rwa [add_block] at this|exact this) GW479.out)|(rw [add_block];exact Nat.ne_of_lt (Nat.lt_of_lt_of_le (by have:=World.block_lt_of_cell? _ _ hw477_1;first|rwa [add_block] at this|exact this) GW479.out))|(show (Addr.add _ _).block≠_;rw [add_block];exact Nat.ne_of_lt (Nat.lt_of_lt_of_le (by have:=World.block_lt_of_cell? _ _ hw477_1;first|rwa [add_block] at this|exact this) GW479.out))|(dsimp only;exact Nat.ne_of_lt (Nat.lt_of_lt_of_le (by have:=World.block_lt_of_cell? _ _ hw477_1;first|rwa [add_block] at this|exact this) GW479.out))) _).trans (hHeld.2.2.2.2.2.1)))),((cell_far (p:=⟨gb479,_,none⟩) (by first|exact Nat.ne_of_lt (Nat.lt_of_lt_of_le (by have:=World.block_lt_of_cell? _ _ hw477_2;first|rwa [add_block] at this|exact this) GW479.out)|(rw [add_block];exact Nat.ne_of_lt (Nat.lt_of_lt_of_le (by have:=World.block_lt_of_cell? _ _ hw477_2;first|rwa [add_block] at this|exact this) GW479.out))|(show (Addr.add _ _).block≠_;rw [add_block];exact Nat.ne_of_lt (Nat.lt_of_lt_of_le (by have:=World.block_lt_of_cell? _ _ hw477_2;first|rwa [add_block] at this|exact this) GW479.out))|(dsimp only;exact Nat.ne_of_lt (Nat.lt_of_lt_of_le (by have:=World.block_lt_of_cell? _ _ hw477_2;first|rwa [add_block] at this|exact this) GW479.out))) _).trans (((cell_far (p:=⟨gb479,_,none⟩) (by first|exact Nat.ne_of_lt (Nat.lt_of_lt_of_le (by have:=World.block_lt_of_cell? _ _ hw477_2;first|rwa [add_block] at this|exact this) GW479.out)|(rw [add_block];exact Nat.ne_of_lt (Nat.lt_of_lt_of_le (by have:=World.block_lt_of_cell? _ _ hw477_2;first|rwa [add_block] at this|exact this) GW479.out))|(show (Addr.add _ _).block≠_;rw [add_block];exact Nat.ne_of_lt (Nat.lt_of_lt_of_le (by have:=World.block_lt_of_cell? _ _ hw477_2;first|rwa [add_block] at this|exact this) GW479.out))|(dsimp only;exact Nat.ne_of_lt (Nat.lt_of_lt_of_le (by have:=World.block_lt_of_cell? _ _ hw477_2;first|rwa [add_block] at this|exact this) GW479.out))) _).trans (hHeld.2.2.2.2.2.2.1)))),((cell_far (p:=⟨gb479,_,none⟩) (by first|exact Nat.ne_of_lt (Nat.lt_of_lt_of_le (by have:=World.block_lt_of_cell? _ _ hw477_3;first|rwa [add_block] at this|exact this) GW479.out)|(rw [add_block];exact Nat.ne_of_lt (Nat.lt_of_lt_of_le (by have:=World.block_lt_of_cell? _ _ hw477_3;first|rwa [add_block] at this|exact this) GW479.out))|(show (Addr.add _ _).block≠_;rw [add_block];exact Nat.ne_of_lt (Nat.lt_of_lt_of_le (by have:=World.block_lt_of_cell? _ _ hw477_3;first|rwa [add_block] at this|exact this) GW479.out))|(dsimp only;exact Nat.ne_of_lt (Nat.lt_of_lt_of_le (by have:=World.block_lt_of_cell? _ _ hw477_3;first|rwa [add_block] at this|exact this) GW479.out))) _).trans (((cell_far (p:=⟨gb479,_,none⟩) (by first|exact Nat.ne_of_lt (Nat.lt_of_lt_of_le (by have:=World.block_lt_of_cell? _ _ hw477_3;first|rwa [add_block] at this|exact this) GW479.out)|(rw [add_block];exact Nat.ne_of_lt (Nat.lt_of_lt_of_le (by have:=World.block_lt_of_cell? _ _ hw477_3;first|rwa [add_block] at this|exact this) GW479.out))|(show (Addr.add _ _).block≠_;rw [add_block];exact Nat.ne_of_lt (Nat.lt_of_lt_of_le (by have:=World.block_lt_of_cell? _ _ hw477_3;first|rwa [add_block] at this|exact this) GW479.out))|(dsimp only;exact Nat.ne_of_lt (Nat.lt_of_lt_of_le (by have:=World.block_lt_of_cell? _ _ hw477_3;first|rwa [add_block] at this|exact this) GW479.out))) _).trans (hHeld.2.2.2.2.2.2.2.1)))),((cell_far (p:=⟨gb479,_,none⟩) (by first|exact Nat.ne_of_lt (Nat.lt_of_lt_of_le (by have:=World.block_lt_of_cell? _ _ hw478_0;first|rwa [add_block] at this|exact this) GW479.out)|(rw [add_block];exact Nat.ne_of_lt (Nat.lt_of_lt_of_le (by have:=World.block_lt_of_cell? _ _ hw478_0;first|rwa [add_block] at this|exact this) GW479.out))|(show (Addr.add _ _).block≠_;rw [add_block];exact Nat.ne_of_lt (Nat.lt_of_lt_of_le (by have:=World.block_lt_of_cell? _ _ hw478_0;first|rwa [add_block] at this|exact this) GW479.out))|(dsimp only;exact Nat.ne_of_lt (Nat.lt_of_lt_of_le (by have:=World.block_lt_of_cell? _ _ hw478_0;first|rwa [add_block] at this|exact this) GW479.out))) _).trans (((cell_far (p:=⟨gb479,_,none⟩) (by first|exact Nat.ne_of_lt (Nat.lt_of_lt_of_le (by have:=World.block_lt_of_cell? _ _ hw478_0;first|rwa [add_block] at this|exact this) GW479.out)|(rw [add_block];exact Nat.ne_of_lt (Nat.lt_of_lt_of_le (by have:=World.block_lt_of_cell? _ _ hw478_0;first|rwa [add_block] at this|exact this) GW479.out))|(show (Addr.add _ _).block≠_;rw [add_block];exact Nat.ne_of_lt (Nat.lt_of_lt_of_le (by have:=World.block_lt_of_cell? _ _ hw478_0;first|rwa [add_block] at this|exact this) GW479.out))|(dsimp only;exact Nat.ne_of_lt (Nat.lt_of_lt_of_le (by have:=World.block_lt_of_cell? _ _ hw478_0;first|rwa [add_block] at this|exact this) GW479.out))) _).trans (hHeld.2.2.2.2.2.2.2.2.1)))),((cell_far (p:=⟨gb479,_,none⟩) (by first|exact Nat.ne_of_lt (Nat.lt_of_lt_of_le (by have:=World.block_lt_of_cell? _ _ hw478_1;first|rwa [add_block] at this|exact this) GW479.out)|(rw [add_block];exact Nat.ne_of_lt (Nat.lt_of_lt_of_le (by have:=World.block_lt_of_cell? _ _ hw478_1;first|rwa [add_block] at this|exact this) GW479.out))|(show (Addr.add _ _).block≠_;rw [add_block];exact Nat.ne_of_lt (Nat.lt_of_lt_of_le (by have:=World.block_lt_of_cell? _ _ hw478_1;first|rwa [add_block] at this|exact this) GW479.out))|(dsimp only;exact Nat.ne_of_lt (Nat.lt_of_lt_of_le (by have:=World.block_lt_of_cell? _ _ hw478_1;first|rwa [add_block] at this|exact this) GW479.out))) _).trans (((cell_far (p:=⟨gb479,_,none⟩) (by first|exact Nat.ne_of_lt (Nat.lt_of_lt_of_le (by have:=World.block_lt_of_cell? _ _ hw478_1;first|rwa [add_block] at this|exact this) GW479.out)|(rw [add_block];exact Nat.ne_of_lt (Nat.lt_of_lt_of_le (by have:=World.block_lt_of_cell? _ _ hw478_1;first|rwa [add_block] at this|exact this) GW479.out))|(show (Addr.add _ _).block≠_;rw [add_block];exact Nat.ne_of_lt (Nat.lt_of_lt_of_le (by have:=World.block_lt_of_cell? _ _ hw478_1;first|rwa [add_block] at this|exact this) GW479.out))|(dsimp only;exact Nat.ne_of_lt (Nat.lt_of_lt_of_le (by have:=World.block_lt_of_cell? _ _ hw478_1;first|rwa [add_block] at this|exact this) GW479.out))) _).trans (hHeld.2.2.2.2.2.2.2.2.2.1)))),((cell_far (p:=⟨gb479,_,none⟩) (by first|exact Nat.ne_of_lt (Nat.lt_of_lt_of_le (by have:=World.block_lt_of_cell? _ _ hw478_2;first|rwa [add_block] at this|exact this) GW479.out)|(rw [add_block];exact Nat.ne_of_lt (Nat.lt_of_lt_of_le (by have:=World.block_lt_of_cell? _ _ hw478_2;first|rwa [add_block] at this|exact this) GW479.out))|(show (Addr.add _ _).block≠_;rw [add_block];exact Nat.ne_of_lt (Nat.lt_of_lt_of_le (by have:=World.block_lt_of_cell? _ _ hw478_2;first|rwa [add_block] at this|exact this) GW479.out))|(dsimp only;exact Nat.ne_of_lt (Nat.lt_of_lt_of_le (by have:=World.block_lt_of_cell? _ _ hw478_2;first|rwa [add_block] at this|exact this) GW479.out))) _).trans (((cell_far (p:=⟨gb479,_,none⟩) (by first|exact Nat.ne_of_lt (Nat.lt_of_lt_of_le (by have:=World.block_lt_of_cell? _ _ hw478_2;first|rwa [add_block] at this|exact this) GW479.out)|(rw [add_block];exact Nat.ne_of_lt (Nat.lt_of_lt_of_le (by have:=World.block_lt_of_cell? _ _ hw478_2;first|rwa [add_block] at this|exact this) GW479.out))|(show (Addr.add _ _).block≠_;rw [add_block];exact Nat.ne_of_lt (Nat.lt_of_lt_of_le (by have:=World.block_lt_of_cell? _ _ hw478_2;first|rwa [add_block] at this|exact this) GW479.out))|(dsimp only;exact Nat.ne_of_lt (Nat.lt_of_lt_of_le (by have:=World.block_lt_of_cell? _ _ hw478_2;first|rwa [add_block] at this|exact this) GW479.out))) _).trans (hHeld.2.2.2.2.2.2.2.2.2.2.1)))),((cell_far (p:=⟨gb479,_,none⟩) (by first|exact Nat.ne_of_lt (Nat.lt_of_lt_of_le (by have:=World.block_lt_of_cell? _ _ hw478_3;first|rwa [add_block] at this|exact this) GW479.out)|(rw [add_block];exact Nat.ne_of_lt (Nat.lt_of_lt_of_le (by have:=World.block_lt_of_cell? _ _ hw478_3;first|rwa [add_block] at this|exact this) GW479.out))|(show (Addr.add _ _).block≠_;rw [add_block];exact Nat.ne_of_lt (Nat.lt_of_lt_of_le (by have:=World.block_lt_of_cell? _ _ hw478_3;first|rwa [add_block] at this|exact this) GW479.out))|(dsimp only;exact Nat.ne_of_lt (Nat.lt_of_lt_of_le (by have:=World.block_lt_of_cell? _ _ hw478_3;first|rwa [add_block] at this|exact this) GW479.out))) _).trans (((cell_far (p:=⟨gb479,_,none⟩) (by first|exact Nat.ne_of_lt (Nat.lt_of_lt_of_le (by have:=World.block_lt_of_cell? _ _ hw478_3;first|rwa [add_block] at this|exact this) GW479.out)|(rw [add_block];exact Nat.ne_of_lt (Nat.lt_of_lt_of_le (by have:=World.block_lt_of_cell? _ _ hw478_3;first|rwa [add_block] at this|exact this) GW479.out))|(show (Addr.add _ _).block≠_;rw [add_block];exact Nat.ne_of_lt (Nat.lt_of_lt_of_le (by have:=World.block_lt_of_cell? _ _ hw478_3;first|rwa [add_block] at this|exact this) GW479.out))|(dsimp only;exact Nat.ne_of_lt (Nat.lt_of_lt_of_le (by have:=World.block_lt_of_cell? _ _ hw478_3;first|rwa [add_block] at this|exact this) GW479.out))) _).trans (hHeld.2.2.2.2.2.2.2.2.2.2.2))))⟩ (fun hHeld=>?_)
    clear hK K
    refine one_ (i:=17) (N:=none) #[true,true,true,true,true,true,true,true,true,true,true,true,true,true,true,true,true,true,false] rfl rfl (one_of HT_.out (by kernel_rfl)) (by decide) (fun K hK=>?_)
    have hs15:w12.cell? ⟨gb480,0,none⟩=some (.int .i64 0):=(blk_cell BK480.out 0).trans rfl
    have hfs15:=blk_frozen BK480.out 0
    have hns15_0:=NB476_480.out
    have hns15_1:=NB479_480.out
    have hns15_3:=NB481_480.out
    have hms15_0:=NB480_476.out
    have hms15_1:=NB480_479.out
    have hms15_3:=NB480_481.out
    have hs16:w12.cell? ⟨gb480,1,none⟩=some (.int .i64 0):=(blk_cell BK480.out 1).trans rfl
    have hfs16:=blk_frozen BK480.out 1
    have hns16_0:=NB476_480.out
    have hns16_1:=NB479_480.out
    have hns16_3:=NB481_480.out
    have hms16_0:=NB480_476.out
    have hms16_1:=NB480_479.out
    have hms16_3:=NB480_481.out
    refine skip_ (w1:=?_) (by rfl) rfl ?_ ?_
    rotate_left
    ·go_simp
     rfl
    refine hK.out _ _ ⟨((cell_far (p:=⟨gb480,_,none⟩) NB476_480.out _).trans (((cell_far (p:=⟨gb480,_,none⟩) NB476_480.out _).trans (hHeld.1)))),((cell_far (p:=⟨gb480,_,none⟩) NB476_480.out _).trans (((cell_far (p:=⟨gb480,_,none⟩) NB476_480.out _).trans (hHeld.2.1)))),((cell_far (p:=⟨gb480,_,none⟩) NB476_480.out _).trans (((cell_far (p:=⟨gb480,_,none⟩) NB476_480.out _).trans (hHeld.2.2.1)))),((cell_far (p:=⟨gb480,_,none⟩) NB476_480.out _).trans (((cell_far (p:=⟨gb480,_,none⟩) NB476_480.out _).trans (hHeld.2.2.2.1)))),((cell_far (p:=⟨gb480,_,none⟩) (by first|exact Nat.ne_of_lt (Nat.lt_of_lt_of_le (by have:=World.block_lt_of_cell? _ _ hw477_0;first|rwa [add_block] at this|exact this) GW480.out)|(rw [add_block];exact Nat.ne_of_lt (Nat.lt_of_lt_of_le (by have:=World.block_lt_of_cell? _ _ hw477_0;first|rwa [add_block] at this|exact this) GW480.out))|(show (Addr.add _ _).block≠_;rw [add_block];exact Nat.ne_of_lt (Nat.lt_of_lt_of_le (by have:=World.block_lt_of_cell? _ _ hw477_0;first|rwa [add_block] at this|exact this) GW480.out))|(dsimp only;exact Nat.ne_of_lt (Nat.lt_of_lt_of_le (by have:=World.block_lt_of_cell? _ _ hw477_0;first|rwa [add_block] at this|exact this) GW480.out))) _).trans (((cell_far (p:=⟨gb480,_,none⟩) (by first|exact Nat.ne_of_lt (Nat.lt_of_lt_of_le (by have:=World.block_lt_of_cell? _ _ hw477_0;first|rwa [add_block] at this|exact this) GW480.out)|(rw [add_block];exact Nat.ne_of_lt (Nat.lt_of_lt_of_le (by have:=World.block_lt_of_cell? _ _ hw477_0;first|rwa [add_block] at this|exact this) GW480.out))|(show (Addr.add _ _).block≠_;rw [add_block];exact Nat.ne_of_lt (Nat.lt_of_lt_of_le (by have:=World.block_lt_of_cell? _ _ hw477_0;first|rwa [add_block] at this|exact this) GW480.out))|(dsimp only;exact Nat.ne_of_lt (Nat.lt_of_lt_of_le (by have:=World.block_lt_of_cell? _ _ hw477_0;first|rwa [add_block] at this|exact this) GW480.out))) _).trans (hHeld.2.2.2.2.1)))),((cell_far (p:=⟨gb480,_,none⟩) (by first|exact Nat.ne_of_lt (Nat.lt_of_lt_of_le (by have:=World.block_lt_of_cell? _ _ hw477_1;first|rwa [add_block] at this|exact this) GW480.out)|(rw [add_block];exact Nat.ne_of_lt (Nat.lt_of_lt_of_le (by have:=World.block_lt_of_cell? _ _ hw477_1;first|rwa [add_block] at this|exact this) GW480.out))|(show (Addr.add _ _).block≠_;rw [add_block];exact Nat.ne_of_lt (Nat.lt_of_lt_of_le (by have:=World.block_lt_of_cell? _ _ hw477_1;first|rwa [add_block] at this|exact this) GW480.out))|(dsimp only;exact Nat.ne_of_lt (Nat.lt_of_lt_of_le (by have:=World.block_lt_of_cell? _ _ hw477_1;first|rwa [add_block] at this|exact this) GW480.out))) _).trans (((cell_far (p:=⟨gb480,_,none⟩) (by first|exact Nat.ne_of_lt (Nat.lt_of_lt_of_le (by have:=World.block_lt_of_cell? _ _ hw477_1;first|rwa [add_block] at this|exact this) GW480.out)|(rw [add_block];exact Nat.ne_of_lt (Nat.lt_of_lt_of_le (by have:=World.block_lt_of_cell? _ _ hw477_1;first|rwa [add_block] at this|exact this) GW480.out))|(show (Addr.add _ _).block≠_;rw [add_block];exact Nat.ne_of_lt (Nat.lt_of_lt_of_le (by have:=World.block_lt_of_cell? _ _ hw477_1;first|rwa [add_block] at this|exact this) GW480.out))|(dsimp only;exact Nat.ne_of_lt (Nat.lt_of_lt_of_le (by have:=World.block_lt_of_cell? _ _ hw477_1;first|rwa [add_block] at this|exact this) GW480.out))) _).trans (hHeld.2.2.2.2.2.1)))),((cell_far (p:=⟨gb480,_,none⟩) (by first|exact Nat.ne_of_lt (Nat.lt_of_lt_of_le (by have:=World.block_lt_of_cell? _ _ hw477_2;first|rwa [add_block] at this|exact this) GW480.out)|(rw [add_block];exact Nat.ne_of_lt (Nat.lt_of_lt_of_le (by have:=World.block_lt_of_cell? _ _ hw477_2;first|rwa [add_block] at this|exact this) GW480.out))|(show (Addr.add _ _).block≠_;rw [add_block];exact Nat.ne_of_lt (Nat.lt_of_lt_of_le (by have:=World.block_lt_of_cell? _ _ hw477_2;first|rwa [add_block] at this|exact this) GW480.out))|(dsimp only;exact Nat.ne_of_lt (Nat.lt_of_lt_of_le (by have:=World.block_lt_of_cell? _ _ hw477_2;first|rwa [add_block] at this|exact this) GW480.out))) _).trans (((cell_far (p:=⟨gb480,_,none⟩) (by first|exact Nat.ne_of_lt (Nat.lt_of_lt_of_le (by have:=World.block_lt_of_cell? _ _ hw477_2;first|rwa [add_block] at this|exact this) GW480.out)|(rw [add_block];exact Nat.ne_of_lt (Nat.lt_of_lt_of_le (by have:=World.block_lt_of_cell? _ _ hw477_2;first|rwa [add_block] at this|exact this) GW480.out))|(show (Addr.add _ _).block≠_;rw [add_block];exact Nat.ne_of_lt (Nat.lt_of_lt_of_le (by have:=World.block_lt_of_cell? _ _ hw477_2;first|rwa [add_block] at this|exact this) GW480.out))|(dsimp only;exact Nat.ne_of_lt (Nat.lt_of_lt_of_le (by have:=World.block_lt_of_cell? _ _ hw477_2;first|rwa [add_block] at this|exact this) GW480.out))) _).trans (hHeld.2.2.2.2.2.2.1)))),((cell_far (p:=⟨gb480,_,none⟩) (by first|exact Nat.ne_of_lt (Nat.lt_of_lt_of_le (by have:=World.block_lt_of_cell? _ _ hw477_3;first|rwa [add_block] at this|exact this) GW480.out)|(rw [add_block];exact Nat.ne_of_lt (Nat.lt_of_lt_of_le (by have:=World.block_lt_of_cell? _ _ hw477_3;first|rwa [add_block] at this|exact this) GW480.out))|(show (Addr.add _ _).block≠_;rw [add_block];exact Nat.ne_of_lt (Nat.lt_of_lt_of_le (by have:=World.block_lt_of_cell? _ _ hw477_3;first|rwa [add_block] at this|exact this) GW480.out))|(dsimp only;exact Nat.ne_of_lt (Nat.lt_of_lt_of_le (by have:=World.block_lt_of_cell? _ _ hw477_3;first|rwa [add_block] at this|exact this) GW480.out))) _).trans (((cell_far (p:=⟨gb480,_,none⟩) (by first|exact Nat.ne_of_lt (Nat.lt_of_lt_of_le (by have:=World.block_lt_of_cell? _ _ hw477_3;first|rwa [add_block] at this|exact this) GW480.out)|(rw [add_block];exact Nat.ne_of_lt (Nat.lt_of_lt_of_le (by have:=World.block_lt_of_cell? _ _ hw477_3;first|rwa [add_block] at this|exact this) GW480.out))|(show (Addr.add _ _).block≠_;rw [add_block];exact Nat.ne_of_lt (Nat.lt_of_lt_of_le (by have:=World.block_lt_of_cell? _ _ hw477_3;first|rwa [add_block] at this|exact this) GW480.out))|(dsimp only;exact Nat.ne_of_lt (Nat.lt_of_lt_of_le (by have:=World.block_lt_of_cell? _ _ hw477_3;first|rwa [add_block] at this|exact this) GW480.out))) _).trans (hHeld.2.2.2.2.2.2.2.1)))),((cell_far (p:=⟨gb480,_,none⟩) (by first|exact Nat.ne_of_lt (Nat.lt_of_lt_of_le (by have:=World.block_lt_of_cell? _ _ hw478_0;first|rwa [add_block] at this|exact this) GW480.out)|(rw [add_block];exact Nat.ne_of_lt (Nat.lt_of_lt_of_le (by have:=World.block_lt_of_cell? _ _ hw478_0;first|rwa [add_block] at this|exact this) GW480.out))|(show (Addr.add _ _).block≠_;rw [add_block];exact Nat.ne_of_lt (Nat.lt_of_lt_of_le (by have:=World.block_lt_of_cell? _ _ hw478_0;first|rwa [add_block] at this|exact this) GW480.out))|(dsimp only;exact Nat.ne_of_lt (Nat.lt_of_lt_of_le (by have:=World.block_lt_of_cell? _ _ hw478_0;first|rwa [add_block] at this|exact this) GW480.out))) _).trans (((cell_far (p:=⟨gb480,_,none⟩) (by first|exact Nat.ne_of_lt (Nat.lt_of_lt_of_le (by have:=World.block_lt_of_cell? _ _ hw478_0;first|rwa [add_block] at this|exact this) GW480.out)|(rw [add_block];exact Nat.ne_of_lt (Nat.lt_of_lt_of_le (by have:=World.block_lt_of_cell? _ _ hw478_0;first|rwa [add_block] at this|exact this) GW480.out))|(show (Addr.add _ _).block≠_;rw [add_block];exact Nat.ne_of_lt (Nat.lt_of_lt_of_le (by have:=World.block_lt_of_cell? _ _ hw478_0;first|rwa [add_block] at this|exact this) GW480.out))|(dsimp only;exact Nat.ne_of_lt (Nat.lt_of_lt_of_le (by have:=World.block_lt_of_cell? _ _ hw478_0;first|rwa [add_block] at this|exact this) GW480.out))) _).trans (hHeld.2.2.2.2.2.2.2.2.1)))),((cell_far (p:=⟨gb480,_,none⟩) (by first|exact Nat.ne_of_lt (Nat.lt_of_lt_of_le (by have:=World.block_lt_of_cell? _ _ hw478_1;first|rwa [add_block] at this|exact this) GW480.out)|(rw [add_block];exact Nat.ne_of_lt (Nat.lt_of_lt_of_le (by have:=World.block_lt_of_cell? _ _ hw478_1;first|rwa [add_block] at this|exact this) GW480.out))|(show (Addr.add _ _).block≠_;rw [add_block];exact Nat.ne_of_lt (Nat.lt_of_lt_of_le (by have:=World.block_lt_of_cell? _ _ hw478_1;first|rwa [add_block] at this|exact this) GW480.out))|(dsimp only;exact Nat.ne_of_lt (Nat.lt_of_lt_of_le (by have:=World.block_lt_of_cell? _ _ hw478_1;first|rwa [add_block] at this|exact this) GW480.out))) _).trans (((cell_far (p:=⟨gb480,_,none⟩) (by first|exact Nat.ne_of_lt (Nat.lt_of_lt_of_le (by have:=World.block_lt_of_cell? _ _ hw478_1;first|rwa [add_block] at this|exact this) GW480.out)|(rw [add_block];exact Nat.ne_of_lt (Nat.lt_of_lt_of_le (by have:=World.block_lt_of_cell? _ _ hw478_1;first|rwa [add_block] at this|exact this) GW480.out))|(show (Addr.add _ _).block≠_;rw [add_block];exact Nat.ne_of_lt (Nat.lt_of_lt_of_le (by have:=World.block_lt_of_cell? _ _ hw478_1;first|rwa [add_block] at this|exact this) GW480.out))|(dsimp only;exact Nat.ne_of_lt (Nat.lt_of_lt_of_le (by have:=World.block_lt_of_cell? _ _ hw478_1;first|rwa [add_block] at this|exact this) GW480.out))) _).trans (hHeld.2.2.2.2.2.2.2.2.2.1)))),((cell_far (p:=⟨gb480,_,none⟩) (by first|exact Nat.ne_of_lt (Nat.lt_of_lt_of_le (by have:=World.block_lt_of_cell? _ _ hw478_2;first|rwa [add_block] at this|exact this) GW480.out)|(rw [add_block];exact Nat.ne_of_lt (Nat.lt_of_lt_of_le (by have:=World.block_lt_of_cell? _ _ hw478_2;first|rwa [add_block] at this|exact this) GW480.out))|(show (Addr.add _ _).block≠_;rw [add_block];exact Nat.ne_of_lt (Nat.lt_of_lt_of_le (by have:=World.block_lt_of_cell? _ _ hw478_2;first|rwa [add_block] at this|exact this) GW480.out))|(dsimp only;exact Nat.ne_of_lt (Nat.lt_of_lt_of_le (by have:=World.block_lt_of_cell? _ _ hw478_2;first|rwa [add_block] at this|exact this) GW480.out))) _).trans (((cell_far (p:=⟨gb480,_,none⟩) (by first|exact Nat.ne_of_lt (Nat.lt_of_lt_of_le (by have:=World.block_lt_of_cell? _ _ hw478_2;first|rwa [add_block] at this|exact this) GW480.out)|(rw [add_block];exact Nat.ne_of_lt (Nat.lt_of_lt_of_le (by have:=World.block_lt_of_cell? _ _ hw478_2;first|rwa [add_block] at this|exact this) GW480.out))|(show (Addr.add _ _).block≠_;rw [add_block];exact Nat.ne_of_lt (Nat.lt_of_lt_of_le (by have:=World.block_lt_of_cell? _ _ hw478_2;first|rwa [add_block] at this|exact this) GW480.out))|(dsimp only;exact Nat.ne_of_lt (Nat.lt_of_lt_of_le (by have:=World.block_lt_of_cell? _ _ hw478_2;first|rwa [add_block] at this|exact this) GW480.out))) _).trans (hHeld.2.2.2.2.2.2.2.2.2.2.1)))),((cell_far (p:=⟨gb480,_,none⟩) (by first|exact Nat.ne_of_lt (Nat.lt_of_lt_of_le (by have:=World.block_lt_of_cell? _ _ hw478_3;first|rwa [add_block] at this|exact this) GW480.out)|(rw [add_block];exact Nat.ne_of_lt (Nat.lt_of_lt_of_le (by have:=World.block_lt_of_cell? _ _ hw478_3;first|rwa [add_block] at this|exact this) GW480.out))|(show (Addr.add _ _).block≠_;rw [add_block];exact Nat.ne_of_lt (Nat.lt_of_lt_of_le (by have:=World.block_lt_of_cell? _ _ hw478_3;first|rwa [add_block] at this|exact this) GW480.out))|(dsimp only;exact Nat.ne_of_lt (Nat.lt_of_lt_of_le (by have:=World.block_lt_of_cell? _ _ hw478_3;first|rwa [add_block] at this|exact this) GW480.out))) _).trans (((cell_far (p:=⟨gb480,_,none⟩) (by first|exact Nat.ne_of_lt (Nat.lt_of_lt_of_le (by have:=World.block_lt_of_cell? _ _ hw478_3;first|rwa [add_block] at this|exact this) GW480.out)|(rw [add_block];exact Nat.ne_of_lt (Nat.lt_of_lt_of_le (by have:=World.block_lt_of_cell? _ _ hw478_3;first|rwa [add_block] at this|exact this) GW480.out))|(show (Addr.add _ _).block≠_;rw [add_block];exact Nat.ne_of_lt (Nat.lt_of_lt_of_le (by have:=World.block_lt_of_cell? _ _ hw478_3;first|rwa [add_block] at this|exact this) GW480.out))|(dsimp only;exact Nat.ne_of_lt (Nat.lt_of_lt_of_le (by have:=World.block_lt_of_cell? _ _ hw478_3;first|rwa [add_block] at this|exact this) GW480.out))) _).trans (hHeld.2.2.2.2.2.2.2.2.2.2.2))))⟩ (fun hHeld=>?_)
    clear hK K
    refine one_ (i:=18) (N:=none) #[true,true,true,true,true,true,true,true,true,true,true,true,true,true,true,true,true,true,true] rfl rfl (one_of HT_.out (by kernel_rfl)) (by decide) (fun K hK=>?_)
    have hs17:w12.cell? ⟨gb481,0,none⟩=some (.int .i64 0):=(blk_cell BK481.out 0).trans rfl
    have hfs17:=blk_frozen BK481.out 0
    have hns17_0:=NB476_481.out
    have hns17_1:=NB479_481.out
    have hns17_2:=NB480_481.out
    have hms17_0:=NB481_476.out
    have hms17_1:=NB481_479.out
    have hms17_2:=NB481_480.out
    have hs18:w12.cell? ⟨gb481,1,none⟩=some (.int .i64 0):=(blk_cell BK481.out 1).trans rfl
    have hfs18:=blk_frozen BK481.out 1
    have hns18_0:=NB476_481.out
    have hns18_1:=NB479_481.out
    have hns18_2:=NB480_481.out
    have hms18_0:=NB481_476.out
    have hms18_1:=NB481_479.out
    have hms18_2:=NB481_480.out
    refine skip_ (w1:=?_) (by rfl) rfl ?_ ?_
    rotate_left
    ·go_simp
     rfl
    refine hK.out _ _ ⟨((cell_far (p:=⟨gb481,_,none⟩) NB476_481.out _).trans (((cell_far (p:=⟨gb481,_,none⟩) NB476_481.out _).trans (hHeld.1)))),((cell_far (p:=⟨gb481,_,none⟩) NB476_481.out _).trans (((cell_far (p:=⟨gb481,_,none⟩) NB476_481.out _).trans (hHeld.2.1)))),((cell_far (p:=⟨gb481,_,none⟩) NB476_481.out _).trans (((cell_far (p:=⟨gb481,_,none⟩) NB476_481.out _).trans (hHeld.2.2.1)))),((cell_far (p:=⟨gb481,_,none⟩) NB476_481.out _).trans (((cell_far (p:=⟨gb481,_,none⟩) NB476_481.out _).trans (hHeld.2.2.2.1)))),((cell_far (p:=⟨gb481,_,none⟩) (by first|exact Nat.ne_of_lt (Nat.lt_of_lt_of_le (by have:=World.block_lt_of_cell? _ _ hw477_0;first|rwa [add_block] at this|exact this) GW481.out)|(rw [add_block];exact Nat.ne_of_lt (Nat.lt_of_lt_of_le (by have:=World.block_lt_of_cell? _ _ hw477_0;first|rwa [add_block] at this|exact this) GW481.out))|(show (Addr.add _ _).block≠_;rw [add_block];exact Nat.ne_of_lt (Nat.lt_of_lt_of_le (by have:=World.block_lt_of_cell? _ _ hw477_0;first|rwa [add_block] at this|exact this) GW481.out))|(dsimp only;exact Nat.ne_of_lt (Nat.lt_of_lt_of_le (by have:=World.block_lt_of_cell? _ _ hw477_0;first|rwa [add_block] at this|exact this) GW481.out))) _).trans (((cell_far (p:=⟨gb481,_,none⟩) (by first|exact Nat.ne_of_lt (Nat.lt_of_lt_of_le (by have:=World.block_lt_of_cell? _ _ hw477_0;first|rwa [add_block] at this|exact this) GW481.out)|(rw [add_block];exact Nat.ne_of_lt (Nat.lt_of_lt_of_le (by have:=World.block_lt_of_cell? _ _ hw477_0;first|rwa [add_block] at this|exact this) GW481.out))|(show (Addr.add _ _).block≠_;rw [add_block];exact Nat.ne_of_lt (Nat.lt_of_lt_of_le (by have:=World.block_lt_of_cell? _ _ hw477_0;first|rwa [add_block] at this|exact this) GW481.out))|(dsimp only;exact Nat.ne_of_lt (Nat.lt_of_lt_of_le (by have:=World.block_lt_of_cell? _ _ hw477_0;first|rwa [add_block] at this|exact this) GW481.out))) _).trans (hHeld.2.2.2.2.1)))),((cell_far (p:=⟨gb481,_,none⟩) (by first|exact Nat.ne_of_lt (Nat.lt_of_lt_of_le (by have:=World.block_lt_of_cell? _ _ hw477_1;first|rwa [add_block] at this|exact this) GW481.out)|(rw [add_block];exact Nat.ne_of_lt (Nat.lt_of_lt_of_le (by have:=World.block_lt_of_cell? _ _ hw477_1;first|rwa [add_block] at this|exact this) GW481.out))|(show (Addr.add _ _).block≠_;rw [add_block];exact Nat.ne_of_lt (Nat.lt_of_lt_of_le (by have:=World.block_lt_of_cell? _ _ hw477_1;first|rwa [add_block] at this|exact this) GW481.out))|(dsimp only;exact Nat.ne_of_lt (Nat.lt_of_lt_of_le (by have:=World.block_lt_of_cell? _ _ hw477_1;first|rwa [add_block] at this|exact this) GW481.out))) _).trans (((cell_far (p:=⟨gb481,_,none⟩) (by first|exact Nat.ne_of_lt (Nat.lt_of_lt_of_le (by have:=World.block_lt_of_cell? _ _ hw477_1;first|rwa [add_block] at this|exact this) GW481.out)|(rw [add_block];exact Nat.ne_of_lt (Nat.lt_of_lt_of_le (by have:=World.block_lt_of_cell? _ _ hw477_1;first|rwa [add_block] at this|exact this) GW481.out))|(show (Addr.add _ _).block≠_;rw [add_block];exact Nat.ne_of_lt (Nat.lt_of_lt_of_le (by have:=World.block_lt_of_cell? _ _ hw477_1;first|rwa [add_block] at this|exact this) GW481.out))|(dsimp only;exact Nat.ne_of_lt (Nat.lt_of_lt_of_le (by have:=World.block_lt_of_cell? _ _ hw477_1;first|rwa [add_block] at this|exact this) GW481.out))) _).trans (hHeld.2.2.2.2.2.1)))),((cell_far (p:=⟨gb481,_,none⟩) (by first|exact Nat.ne_of_lt (Nat.lt_of_lt_of_le (by have:=World.block_lt_of_cell? _ _ hw477_2;first|rwa [add_block] at this|exact this) GW481.out)|(rw [add_block];exact Nat.ne_of_lt (Nat.lt_of_lt_of_le (by have:=World.block_lt_of_cell? _ _ hw477_2;first|rwa [add_block] at this|exact this) GW481.out))|(show (Addr.add _ _).block≠_;rw [add_block];exact Nat.ne_of_lt (Nat.lt_of_lt_of_le (by have:=World.block_lt_of_cell? _ _ hw477_2;first|rwa [add_block] at this|exact this) GW481.out))|(dsimp only;exact Nat.ne_of_lt (Nat.lt_of_lt_of_le (by have:=World.block_lt_of_cell? _ _ hw477_2;first|rwa [add_block] at this|exact this) GW481.out))) _).trans (((cell_far (p:=⟨gb481,_,none⟩) (by first|exact Nat.ne_of_lt (Nat.lt_of_lt_of_le (by have:=World.block_lt_of_cell? _ _ hw477_2;first|rwa [add_block] at this|exact this) GW481.out)|(rw [add_block];exact Nat.ne_of_lt (Nat.lt_of_lt_of_le (by have:=World.block_lt_of_cell? _ _ hw477_2;first|rwa [add_block] at this|exact this) GW481.out))|(show (Addr.add _ _).block≠_;rw [add_block];exact Nat.ne_of_lt (Nat.lt_of_lt_of_le (by have:=World.block_lt_of_cell? _ _ hw477_2;first|rwa [add_block] at this|exact this) GW481.out))|(dsimp only;exact Nat.ne_of_lt (Nat.lt_of_lt_of_le (by have:=World.block_lt_of_cell? _ _ hw477_2;first|rwa [add_block] at this|exact this) GW481.out))) _).trans (hHeld.2.2.2.2.2.2.1)))),((cell_far (p:=⟨gb481,_,none⟩) (by first|exact Nat.ne_of_lt (Nat.lt_of_lt_of_le (by have:=World.block_lt_of_cell? _ _ hw477_3;first|rwa [add_block] at this|exact this) GW481.out)|(rw [add_block];exact Nat.ne_of_lt (Nat.lt_of_lt_of_le (by have:=World.block_lt_of_cell? _ _ hw477_3;first|rwa [add_block] at this|exact this) GW481.out))|(show (Addr.add _ _).block≠_;rw [add_block];exact Nat.ne_of_lt (Nat.lt_of_lt_of_le (by have:=World.block_lt_of_cell? _ _ hw477_3;first|rwa [add_block] at this|exact this) GW481.out))|(dsimp only;exact Nat.ne_of_lt (Nat.lt_of_lt_of_le (by have:=World.block_lt_of_cell? _ _ hw477_3;first|rwa [add_block] at this|exact this) GW481.out))) _).trans (((cell_far (p:=⟨gb481,_,none⟩) (by first|exact Nat.ne_of_lt (Nat.lt_of_lt_of_le (by have:=World.block_lt_of_cell? _ _ hw477_3;first|rwa [add_block] at this|exact this) GW481.out)|(rw [add_block];exact Nat.ne_of_lt (Nat.lt_of_lt_of_le (by have:=World.block_lt_of_cell? _ _ hw477_3;first|rwa [add_block] at this|exact this) GW481.out))|(show (Addr.add _ _).block≠_;rw [add_block];exact Nat.ne_of_lt (Nat.lt_of_lt_of_le (by have:=World.block_lt_of_cell? _ _ hw477_3;first|rwa [add_block] at this|exact this) GW481.out))|(dsimp only;exact Nat.ne_of_lt (Nat.lt_of_lt_of_le (by have:=World.block_lt_of_cell? _ _ hw477_3;first|rwa [add_block] at this|exact this) GW481.out))) _).trans (hHeld.2.2.2.2.2.2.2.1)))),((cell_far (p:=⟨gb481,_,none⟩) (by first|exact Nat.ne_of_lt (Nat.lt_of_lt_of_le (by have:=World.block_lt_of_cell? _ _ hw478_0;first|rwa [add_block] at this|exact this) GW481.out)|(rw [add_block];exact Nat.ne_of_lt (Nat.lt_of_lt_of_le (by have:=World.block_lt_of_cell? _ _ hw478_0;first|rwa [add_block] at this|exact this) GW481.out))|(show (Addr.add _ _).block≠_;rw [add_block];exact Nat.ne_of_lt (Nat.lt_of_lt_of_le (by have:=World.block_lt_of_cell? _ _ hw478_0;first|rwa [add_block] at this|exact this) GW481.out))|(dsimp only;exact Nat.ne_of_lt (Nat.lt_of_lt_of_le (by have:=World.block_lt_of_cell? _ _ hw478_0;first|rwa [add_block] at this|exact this) GW481.out))) _).trans (((cell_far (p:=⟨gb481,_,none⟩) (by first|exact Nat.ne_of_lt (Nat.lt_of_lt_of_le (by have:=World.block_lt_of_cell? _ _ hw478_0;first|rwa [add_block] at this|exact this) GW481.out)|(rw [add_block];exact Nat.ne_of_lt (Nat.lt_of_lt_of_le (by have:=World.block_lt_of_cell? _ _ hw478_0;first|rwa [add_block] at this|exact this) GW481.out))|(show (Addr.add _ _).block≠_;rw [add_block];exact Nat.ne_of_lt (Nat.lt_of_lt_of_le (by have:=World.block_lt_of_cell? _ _ hw478_0;first|rwa [add_block] at this|exact this) GW481.out))|(dsimp only;exact Nat.ne_of_lt (Nat.lt_of_lt_of_le (by have:=World.block_lt_of_cell? _ _ hw478_0;first|rwa [add_block] at this|exact this) GW481.out))) _).trans (hHeld.2.2.2.2.2.2.2.2.1)))),((cell_far (p:=⟨gb481,_,none⟩) (by first|exact Nat.ne_of_lt (Nat.lt_of_lt_of_le (by have:=World.block_lt_of_cell? _ _ hw478_1;first|rwa [add_block] at this|exact this) GW481.out)|(rw [add_block];exact Nat.ne_of_lt (Nat.lt_of_lt_of_le (by have:=World.block_lt_of_cell? _ _ hw478_1;first|rwa [add_block] at this|exact this) GW481.out))|(show (Addr.add _ _).block≠_;rw [add_block];exact Nat.ne_of_lt (Nat.lt_of_lt_of_le (by have:=World.block_lt_of_cell? _ _ hw478_1;first|rwa [add_block] at this|exact this) GW481.out))|(dsimp only;exact Nat.ne_of_lt (Nat.lt_of_lt_of_le (by have:=World.block_lt_of_cell? _ _ hw478_1;first|rwa [add_block] at this|exact this) GW481.out))) _).trans (((cell_far (p:=⟨gb481,_,none⟩) (by first|exact Nat.ne_of_lt (Nat.lt_of_lt_of_le (by have:=World.block_lt_of_cell? _ _ hw478_1;first|rwa [add_block] at this|exact this) GW481.out)|(rw [add_block];exact Nat.ne_of_lt (Nat.lt_of_lt_of_le (by have:=World.block_lt_of_cell? _ _ hw478_1;first|rwa [add_block] at this|exact this) GW481.out))|(show (Addr.add _ _).block≠_;rw [add_block];exact Nat.ne_of_lt (Nat.lt_of_lt_of_le (by have:=World.block_lt_of_cell? _ _ hw478_1;first|rwa [add_block] at this|exact this) GW481.out))|(dsimp only;exact Nat.ne_of_lt (Nat.lt_of_lt_of_le (by have:=World.block_lt_of_cell? _ _ hw478_1;first|rwa [add_block] at this|exact this) GW481.out))) _).trans (hHeld.2.2.2.2.2.2.2.2.2.1)))),((cell_far (p:=⟨gb481,_,none⟩) (by first|exact Nat.ne_of_lt (Nat.lt_of_lt_of_le (by have:=World.block_lt_of_cell? _ _ hw478_2;first|rwa [add_block] at this|exact this) GW481.out)|(rw [add_block];exact Nat.ne_of_lt (Nat.lt_of_lt_of_le (by have:=World.block_lt_of_cell? _ _ hw478_2;first|rwa [add_block] at this|exact this) GW481.out))|(show (Addr.add _ _).block≠_;rw [add_block];exact Nat.ne_of_lt (Nat.lt_of_lt_of_le (by have:=World.block_lt_of_cell? _ _ hw478_2;first|rwa [add_block] at this|exact this) GW481.out))|(dsimp only;exact Nat.ne_of_lt (Nat.lt_of_lt_of_le (by have:=World.block_lt_of_cell? _ _ hw478_2;first|rwa [add_block] at this|exact this) GW481.out))) _).trans (((cell_far (p:=⟨gb481,_,none⟩) (by first|exact Nat.ne_of_lt (Nat.lt_of_lt_of_le (by have:=World.block_lt_of_cell? _ _ hw478_2;first|rwa [add_block] at this|exact this) GW481.out)|(rw [add_block];exact Nat.ne_of_lt (Nat.lt_of_lt_of_le (by have:=World.block_lt_of_cell? _ _ hw478_2;first|rwa [add_block] at this|exact this) GW481.out))|(show (Addr.add _ _).block≠_;rw [add_block];exact Nat.ne_of_lt (Nat.lt_of_lt_of_le (by have:=World.block_lt_of_cell? _ _ hw478_2;first|rwa [add_block] at this|exact this) GW481.out))|(dsimp only;exact Nat.ne_of_lt (Nat.lt_of_lt_of_le (by have:=World.block_lt_of_cell? _ _ hw478_2;first|rwa [add_block] at this|exact this) GW481.out))) _).trans (hHeld.2.2.2.2.2.2.2.2.2.2.1)))),((cell_far (p:=⟨gb481,_,none⟩) (by first|exact Nat.ne_of_lt (Nat.lt_of_lt_of_le (by have:=World.block_lt_of_cell? _ _ hw478_3;first|rwa [add_block] at this|exact this) GW481.out)|(rw [add_block];exact Nat.ne_of_lt (Nat.lt_of_lt_of_le (by have:=World.block_lt_of_cell? _ _ hw478_3;first|rwa [add_block] at this|exact this) GW481.out))|(show (Addr.add _ _).block≠_;rw [add_block];exact Nat.ne_of_lt (Nat.lt_of_lt_of_le (by have:=World.block_lt_of_cell? _ _ hw478_3;first|rwa [add_block] at this|exact this) GW481.out))|(dsimp only;exact Nat.ne_of_lt (Nat.lt_of_lt_of_le (by have:=World.block_lt_of_cell? _ _ hw478_3;first|rwa [add_block] at this|exact this) GW481.out))) _).trans (((cell_far (p:=⟨gb481,_,none⟩) (by first|exact Nat.ne_of_lt (Nat.lt_of_lt_of_le (by have:=World.block_lt_of_cell? _ _ hw478_3;first|rwa [add_block] at this|exact this) GW481.out)|(rw [add_block];exact Nat.ne_of_lt (Nat.lt_of_lt_of_le (by have:=World.block_lt_of_cell? _ _ hw478_3;first|rwa [add_block] at this|exact this) GW481.out))|(show (Addr.add _ _).block≠_;rw [add_block];exact Nat.ne_of_lt (Nat.lt_of_lt_of_le (by have:=World.block_lt_of_cell? _ _ hw478_3;first|rwa [add_block] at this|exact this) GW481.out))|(dsimp only;exact Nat.ne_of_lt (Nat.lt_of_lt_of_le (by have:=World.block_lt_of_cell? _ _ hw478_3;first|rwa [add_block] at this|exact this) GW481.out))) _).trans (hHeld.2.2.2.2.2.2.2.2.2.2.2))))⟩ (fun hHeld=>?_)
    clear hK K
    refine done_ (done_of HT_.out (by kernel_rfl)) ?_
    have hnb19:=NB480_476.out
    have hnc19:=NB476_480.out
    have hnb20:=NB480_479.out
    have hnc20:=NB479_480.out
    have hnb21:=NB480_481.out
    have hnc21:=NB481_480.out
    obtain ⟨hcz22_0,hcz22_1,hfz22_0,hfz22_1⟩:=bq2_ BK480.out
    have hnb23:=NB481_476.out
    have hnc23:=NB476_481.out
    have hnb24:=NB481_479.out
    have hnc24:=NB479_481.out
    obtain ⟨hcz25_0,hcz25_1,hfz25_0,hfz25_1⟩:=bq2_ BK481.out
    have hnb26:=NB479_476.out
    have hnc26:=NB476_479.out
    obtain ⟨hcz27_0,hcz27_1,hfz27_0,hfz27_1⟩:=bq2_ BK479.out
    try go_wp2
    go_ret
    exact ⟨by first|rfl|(simp [errW_none,errW_some] <;> rfl)|(simp only [← hji6];first|rfl|(simp [errW_none,errW_some] <;> rfl))|(simp [*,errW_none,errW_some] <;> rfl),(by repeat (first|(with_reducible first|exact HB.out|apply below_alloc|apply pw_below_drewN|apply below_drew1|refine below_set ?_ GE476.out|refine below_set ?_ GE479.out|refine below_set ?_ GE480.out|refine below_set ?_ GE481.out)|exact HB.out))⟩
  ·rw [if_neg c4] at H;exact absurd H (by simp)
 ·rw [if_neg c3] at H;exact absurd H (by simp)
end Go.Proofs.YtjahbgldccjbfaaGreatDoor.PSky
end
section
namespace Go.Proofs.YtjahbgldccjbfaaGreatDoor.PSky
open Go.RowKit Go.Proofs.YtjahbgldccjbfaaGreatDoorW.PrintWords Go.Proofs.YtjahbgldccjbfaaGreatDoorW.PrintLast Go.Proofs.YtjahbgldccjbfaaGreatDoorW.PrintMore
attribute [local go_sem] max2_int min2_int max_two min_two max_three min_three max_four min_four
set_option linter.unusedVariables false
set_option linter.unusedSimpArgs false
def tr_Cycle.l0:Nat→Int→Int→List (S74)→Int→Int→Int→Option (Int)
 |0,_,_,_,_,_,_=>none
 |k+1,x1,x5,x483000,x483001,x483002,x483003=>if x5≤400 then ((tr_Drift.f x483000 x483001 x483002 x483003 x5).bind fun t483=>(if t483≤x1 then (some x5) else (tr_Cycle.l0 k x1 (wrap64 (x5+1)) x483000 x483001 x483002 x483003))) else (some (-1))
def tr_Cycle.f (k:Nat) (l0_0:List (S74)) (a0_1:Int) (a0_2:Int) (a0_3:Int) (a1:Int):Option (Int):=tr_Cycle.l0 k a1 1 l0_0 a0_1 a0_2 a0_3
set_option maxHeartbeats 8000000 in
set_option maxRecDepth 100000 in
theorem tr_Cycle.calls (k:Nat) (A0_0:Option Addr) (c0_0:Nat) (l0_0:List (S74)) (a0_1:Int) (a0_2:Int) (a0_3:Int) (a1:Int) (r:Int) (w:World) (hr0_0:Kd.C k74 w A0_0 l0_0.length l0_0) (hc0_0:l0_0.length≤c0_0) (h:tr_Cycle.f k l0_0 a0_1 a0_2 a0_3 a1=some r):
  Calls Tryz.prog 38 #[.agg #[.slice A0_0 l0_0.length c0_0,.int .i64 a0_1,.int .i64 a0_2,.int .i64 a0_3],.int .i64 a1] w fun e w'=>e=.returned (.int .i64 r)∧Below w.heap.size w w':=by
 have hu29:=Tryz.underlying29
 have HR0_0:=A0_ hr0_0;have HC0_0:=A0_ hc0_0;clear hr0_0 hc0_0
 have HB:=A0_ (Below.refl w.heap.size w)
 have H:(tr_Cycle.l0 k a1 1 l0_0 a0_1 a0_2 a0_3)=some r:=h
 clear h
 have H':=A0_ H
 clear H
 go_enter Tryz.func38,Tryz.ntmps38
 go_wp2_with (first|((with_reducible refine gate_dst (N:=2) rfl ?_);refine box_event ?hg (N:=2) ?hd (cs:=#[.slice A0_0 l0_0.length c0_0,.int .i64 a0_1,.int .i64 a0_2,.int .i64 a0_3]) (t:=29) ?hr ?_;(case hd=>rfl);(case hg=>rfl);(case hr=>first|(go_simp;done)|(go_simp;rfl));intro gb482 hg w3 hbox hb;have n0_:=A0_ (below_step y0_ hb);have n1_:=A0_ (hbox);have n2_:=A0_ ((by rw [hg];exact (below_size y0_):w.heap.size≤gb482));have n3_:=A0_ ((by rw [hg];exact (below_size y0_):w.heap.size≤gb482));clear HB;have HB:=n0_;have BK482:=n1_;have GW482:=n2_;have GE482:=n3_;clear n0_ n1_ n2_ n3_;clear hb hbox hg))
 go_loopg [5] k (fun kq v5 w'=>∃ (x5_1:Int),v5=.int .i64 x5_1∧Aside0 (tr_Cycle.l0 kq a1 x5_1 l0_0 a0_1 a0_2 a0_3=some r)∧Aside0 (kq≤k)∧Aside0 (w'.heap[gb482]?=some (.cells #[(.slice A0_0 l0_0.length c0_0),.int .i64 a0_1,.int .i64 a0_2,.int .i64 a0_3] 29 (0,0)))∧Aside0 (Below w.heap.size w w'))
 case atStart=>exact ⟨(1),y4_,H',⟨Nat.le_refl _⟩,⟨by (with_reducible repeat (first|refine blk_drewN ?_ _|refine blk_drew ?_|refine blk_alloc ?_ _));exact BK482.out⟩,⟨(by repeat (first|(with_reducible first|exact HB.out|apply below_alloc|apply pw_below_drewN|apply below_drew1|refine below_set ?_ GE482.out)|exact HB.out))⟩⟩
 case round=>
  clear H'
  (try clear p2);(try clear c3)
  obtain ⟨x5_1,rfl,HA,HK1,BK482,HB⟩:=hrel
  cases gk with
  |zero=>exact absurd HA.out (by simp [tr_Cycle.l0])
  |succ k1=>
   have H:=HA.out
   clear HA
   simp only [tr_Cycle.l0] at H
   by_cases c4:x5_1≤400
   ·rw [if_pos c4] at H;have c4b0:decide (x5_1≤400)=true:=decide_eq_true c4;clear c4;replace H:=Option.bind_eq_some_iff.mp H;obtain ⟨t483,A50,H⟩:=H
    replace H:(if t483≤a1 then (some x5_1) else (tr_Cycle.l0 k1 a1 (wrap64 (x5_1+1)) l0_0 a0_1 a0_2 a0_3))=some r:=H
    have A5:=A0_ A50;clear A50
    by_cases c6:t483≤a1
    ·rw [if_pos c6] at H;have c6b0:decide (t483≤a1)=true:=decide_eq_true c6;clear c6;obtain rfl:=Option.some.inj H;obtain ⟨hcz7_0,hcz7_1,hcz7_2,hcz7_3,hfz7_0,hfz7_1,hfz7_2,hfz7_3⟩:=bq4_ BK482.out
     go_wp2_with (first|((with_reducible refine gate_callee (f:=39) rfl ?_);refine goesL_ (some 12) rfl rfl Tryz.func39 (by kernel_rfl) rfl #[.agg #[.slice A0_0 l0_0.length c0_0,.int .i64 a0_1,.int .i64 a0_2,.int .i64 a0_3],.int .i64 x5_1] rfl y1_ ?_;(with_reducible refine (tr_Drift.calls _ _ l0_0 a0_1 a0_2 a0_3 x5_1 t483 _ ?side1 ?side2 A5.out).mono ?_);(case side1=>repeat (first|exact (Kd.C_below HR0_0.out HB.out)|(with_reducible refine Kd.C_alloc ?_ _)|(with_reducible refine Kd.C_drewN ?_ _)|(with_reducible refine Kd.C_drew ?_)));(case side2=>exact HC0_0.out);rintro e w8 ⟨rfl,hb⟩;refine ⟨_,rfl,?_⟩;have n0_:=A0_ (blk_below (g:=gb482) (o:=.cells #[.slice A0_0 l0_0.length c0_0,.int .i64 a0_1,.int .i64 a0_2,.int .i64 a0_3] 29 (0,0)) (bd_ BK482.out) hb);have n1_:=A0_ (below_step (by repeat (first|(with_reducible first|exact HB.out|apply below_alloc|apply pw_below_drewN|apply below_drew1|refine below_set ?_ GE482.out)|exact HB.out)) hb);clear BK482;clear HB;have BK482:=n0_;have HB:=n1_;clear n0_ n1_;(try clear hb);(try clear hb2);(try clear hk);(try clear hi)))
     go_ret
     exact ⟨y2_,(by repeat (first|(with_reducible first|exact HB.out|apply below_alloc|apply pw_below_drewN|apply below_drew1|refine below_set ?_ GE482.out)|exact HB.out))⟩
    ·rw [if_neg c6] at H;have c6b0:decide (t483≤a1)=false:=decide_eq_false c6;clear c6
     have H':=A0_ H
     clear H;obtain ⟨hcz9_0,hcz9_1,hcz9_2,hcz9_3,hfz9_0,hfz9_1,hfz9_2,hfz9_3⟩:=bq4_ BK482.out
     go_wp2_with (first|((with_reducible refine gate_callee (f:=39) rfl ?_);refine goesL_ (some 12) rfl rfl Tryz.func39 (by kernel_rfl) rfl #[.agg #[.slice A0_0 l0_0.length c0_0,.int .i64 a0_1,.int .i64 a0_2,.int .i64 a0_3],.int .i64 x5_1] rfl y1_ ?_;(with_reducible refine (tr_Drift.calls _ _ l0_0 a0_1 a0_2 a0_3 x5_1 t483 _ ?side1 ?side2 A5.out).mono ?_);(case side1=>repeat (first|exact (Kd.C_below HR0_0.out HB.out)|(with_reducible refine Kd.C_alloc ?_ _)|(with_reducible refine Kd.C_drewN ?_ _)|(with_reducible refine Kd.C_drew ?_)));(case side2=>exact HC0_0.out);rintro e w10 ⟨rfl,hb⟩;refine ⟨_,rfl,?_⟩;have n0_:=A0_ (blk_below (g:=gb482) (o:=.cells #[.slice A0_0 l0_0.length c0_0,.int .i64 a0_1,.int .i64 a0_2,.int .i64 a0_3] 29 (0,0)) (bd_ BK482.out) hb);have n1_:=A0_ (below_step (by repeat (first|(with_reducible first|exact HB.out|apply below_alloc|apply pw_below_drewN|apply below_drew1|refine below_set ?_ GE482.out)|exact HB.out)) hb);clear BK482;clear HB;have BK482:=n0_;have HB:=n1_;clear n0_ n1_;(try clear hb);(try clear hb2);(try clear hk);(try clear hi)))
     go_roundg k1
     case measure=>have:=HK1.out;omega
     case rel=>exact ⟨(wrap64 (x5_1+1)),y4_,H',⟨by have:=HK1.out;omega⟩,⟨by (with_reducible repeat (first|refine blk_drewN ?_ _|refine blk_drew ?_|refine blk_alloc ?_ _));exact BK482.out⟩,⟨(by repeat (first|(with_reducible first|exact HB.out|apply below_alloc|apply pw_below_drewN|apply below_drew1|refine below_set ?_ GE482.out)|exact HB.out))⟩⟩
   ·rw [if_neg c4] at H;have c4b0:decide (x5_1≤400)=false:=decide_eq_false c4;clear c4;obtain rfl:=Option.some.inj H;go_wp2;go_ret
    exact ⟨y2_,(by repeat (first|(with_reducible first|exact HB.out|apply below_alloc|apply pw_below_drewN|apply below_drew1|refine below_set ?_ GE482.out)|exact HB.out))⟩
end Go.Proofs.YtjahbgldccjbfaaGreatDoor.PSky
end
section
namespace Go.Proofs.YtjahbgldccjbfaaGreatDoor.PSky
open Go.RowKit Go.Proofs.YtjahbgldccjbfaaGreatDoorW.PrintWords Go.Proofs.YtjahbgldccjbfaaGreatDoorW.PrintLast Go.Proofs.YtjahbgldccjbfaaGreatDoorW.PrintMore
theorem Ev.pos {α:Type} {c:Prop} [Decidable c] {f g:Nat→Option α} {r:α} (h:c) (k:Ev f r):Ev (fun n=>if c then f n else g n) r:=by simpa only [if_pos h] using k
theorem Ev.neg {α:Type} {c:Prop} [Decidable c] {f g:Nat→Option α} {r:α} (h:¬ c) (k:Ev g r):Ev (fun n=>if c then f n else g n) r:=by simpa only [if_neg h] using k
theorem Ev.some {α:Type} (r:α):Ev (fun _=>Option.some r) r:=Ev.now r
theorem Ev.is {α:Type} {o:Option α} {r:α} (h:o=Option.some r):Ev (fun _=>o) r:=by rw [h];exact Ev.now r
theorem wrap_id {n:Int} (h:-9223372036854775808≤n∧n≤9223372036854775807):wrap64 n=n:=by unfold wrap64;omega
theorem scan {β:Type} (l:List β) (bad:β→Bool) (g:Nat→Nat→Option Int) (hlen:l.length≤1000000)
  (hyes:∀ i (h:i<l.length),bad l[i]=true→Ev (fun k=>g k i) (i:Int))
  (hno:∀ i (h:i<l.length),bad l[i]=false→∀ r,Ev (fun k=>g k (i+1)) r→Ev (fun k=>g k i) r)
  (hend:Ev (fun k=>g k l.length) (-1)):∀ m i,i+m=l.length→∃ r,Ev (fun k=>g k i) r∧decide (r ≥ 0)=(l.drop i).any bad
 |0,i,h=>⟨-1,by rw [show i=l.length by omega];exact hend,by rw [show i=l.length by omega,List.drop_length];rfl⟩
 |m+1,i,h=>by
  have hi:i<l.length:=by omega
  rw [List.drop_eq_getElem_cons hi,List.any_cons]
  cases hb:bad l[i] with
  |true=>exact ⟨i,hyes i hi hb,by simp⟩
  |false=>
   obtain ⟨r,hr,he⟩:=scan l bad g hlen hyes hno hend m (i+1) (by omega)
   exact ⟨r,hno i hi hb r hr,by simpa using he⟩
def okIn (a b c:Int):Bool:=decide (b≤a) && decide (a≤c)
theorem in_eq (a b c:Int):sky_in.f a b c=some (okIn a b c):=by
 unfold sky_in.f okIn
 by_cases h:a ≥ b
 ·rw [if_pos h,decide_eq_true (show b≤a from h),Bool.true_and]
 ·rw [if_neg h,decide_eq_false (show ¬ b≤a from h),Bool.false_and]
theorem rin_eq (a b c:Int):tr_in.f a b c=some (okIn a b c):=in_eq a b c
def okPeriod (p q:Int):Bool:=okIn p 1 10000 && (okIn q 1 10000 && decide (4*q≤p))
theorem isPeriod_eq (p q:Int):sky_isPeriod.f p q=some (okPeriod p q):=by
 unfold sky_isPeriod.f okPeriod
 simp only [in_eq,Option.bind_some]
 cases h1:okIn p 1 10000 with
 |false=>rfl
 |true=>
  cases h2:okIn q 1 10000 with
  |false=>rfl
  |true=>
   have hq:wrap64 (4*q)=4*q:=wrap_id (by simp [okIn] at h2;omega)
   rw [hq]
   rfl
theorem period_eq (p q:Int):tr_period.f p q=some (okPeriod p q):=isPeriod_eq p q
def okPlace (n:Int):Bool:=okIn n 0 21599
theorem isPlace_eq (n:Int):sky_isPlace.f n=some (okPlace n):=by unfold sky_isPlace.f;rw [in_eq];rfl
theorem Spot_eq (n:Int):tr_Spot.f n=some (okPlace n):=isPlace_eq n
def okRoad (l:List Int):Bool:=!l.any (fun n=>!okIn n (-600) 600)
def okBody (b:S74):Bool:=okPeriod b.f0.f0 b.f0.f1 && (okPlace b.f1 && (okIn (b.f2.length:Int) 1 8 && okRoad b.f2))
def okSky (l:List S74) (p q n:Int):Bool:=okIn (l.length:Int) 2 4 && (okPeriod p q && (okPlace n && !l.any (fun b=>!okBody b)))
theorem rd_get (l:List Int) (i:Nat) (h:i<l.length):rd l (i:Int)=l[i]:=by unfold rd;simp [h]
theorem rdT_get (l:List S74) (i:Nat) (h:i<l.length):rd_T74 l (i:Int)=l[i]:=by unfold rd_T74;simp [h]
theorem road_ev (l:List Int) (hl:l.length≤1000000):Ev (fun k=>cF_isSky_c1_c1.f k l) (l.any (fun n=>!okIn n (-600) 600)):=by
 obtain ⟨r,hr,he⟩:=scan l (fun n=>!okIn n (-600) 600) (fun k i=>iF_isSky_c1_c1.l0 k l (l.length:Int) (i:Int)) hl
  (fun i h hb=>by
   refine Ev.step (fun k=>by rw [iF_isSky_c1_c1.l0]) ?_
   refine Ev.pos (by omega) (Ev.pos (by omega) (Ev.pos (by omega) ?_))
   refine Ev.bind (a:=true) (Ev.is (by unfold sky_isSky_c1_c1.f;rw [in_eq,rd_get l i h];simp [hb])) ?_
   exact Ev.pos rfl (Ev.now _))
  (fun i h hb r hr=>by
   refine Ev.step (fun k=>by rw [iF_isSky_c1_c1.l0]) ?_
   refine Ev.pos (by omega) (Ev.pos (by omega) (Ev.pos (by omega) ?_))
   refine Ev.bind (a:=false) (Ev.is (by unfold sky_isSky_c1_c1.f;rw [in_eq,rd_get l i h];simp [hb])) ?_
   refine Ev.neg (by simp) ?_
   rw [wrap_id (by omega)]
   exact hr)
  (by
   refine Ev.step (fun k=>by rw [iF_isSky_c1_c1.l0]) ?_
   exact Ev.neg (by omega) (Ev.now _)) l.length 0 (by omega)
 unfold cF_isSky_c1_c1.f iF_isSky_c1_c1.f
 refine Ev.bind hr ?_
 rw [he]
 exact Ev.now _
theorem body_ev (b:S74):Ev (fun k=>sky_isSky_c1.f k b.f0.f0 b.f0.f1 b.f1 b.f2) (!okBody b):=by
 unfold sky_isSky_c1.f okBody
 refine Ev.bind (Ev.is (isPeriod_eq _ _)) ?_
 cases h1:okPeriod b.f0.f0 b.f0.f1 with
 |false=>exact Ev.neg (by simp) (Ev.now _)
 |true=>
  refine Ev.pos rfl (Ev.bind (Ev.is (isPlace_eq _)) ?_)
  cases h2:okPlace b.f1 with
  |false=>exact Ev.neg (by simp) (Ev.now _)
  |true=>
   refine Ev.pos rfl (Ev.bind (Ev.is (in_eq _ _ _)) ?_)
   cases h3:okIn (b.f2.length:Int) 1 8 with
   |false=>exact Ev.neg (by simp) (Ev.now _)
   |true=>
    refine Ev.pos rfl (Ev.bind (road_ev b.f2 (by simp [okIn] at h3;omega)) ?_)
    simp only [okRoad,Bool.true_and,Bool.not_not]
    exact Ev.now _
theorem bodies_ev (l:List S74) (hl:l.length≤1000000):Ev (fun k=>cF_isSky_c1.f k l) (l.any (fun b=>!okBody b)):=by
 obtain ⟨r,hr,he⟩:=scan l (fun b=>!okBody b) (fun k i=>iF_isSky_c1.l0 k l (l.length:Int) (i:Int)) hl
  (fun i h hb=>by
   refine Ev.step (fun k=>by rw [iF_isSky_c1.l0]) ?_
   refine Ev.pos (by omega) (Ev.pos (by omega) (Ev.pos (by omega) ?_))
   rw [rdT_get l i h]
   refine Ev.bind (body_ev _) ?_
   rw [hb]
   exact Ev.pos rfl (Ev.now _))
  (fun i h hb r hr=>by
   refine Ev.step (fun k=>by rw [iF_isSky_c1.l0]) ?_
   refine Ev.pos (by omega) (Ev.pos (by omega) (Ev.pos (by omega) ?_))
   rw [rdT_get l i h]
   refine Ev.bind (body_ev _) ?_
   rw [hb]
   refine Ev.neg (by simp) ?_
   rw [wrap_id (by omega)]
   exact hr)
  (by
   refine Ev.step (fun k=>by rw [iF_isSky_c1.l0]) ?_
   exact Ev.neg (by omega) (Ev.now _)) l.length 0 (by omega)
 unfold cF_isSky_c1.f iF_isSky_c1.f
 refine Ev.bind hr ?_
 rw [he]
 exact Ev.now _
theorem isSky_ev (l:List S74) (p q n:Int):Ev (fun k=>sky_isSky.f k l p q n) (okSky l p q n):=by
 unfold sky_isSky.f okSky
 refine Ev.bind (Ev.is (in_eq _ _ _)) ?_
 cases h1:okIn (l.length:Int) 2 4 with
 |false=>exact Ev.neg (by simp) (Ev.now _)
 |true=>
  refine Ev.pos rfl (Ev.bind (Ev.is (isPeriod_eq _ _)) ?_)
  cases h2:okPeriod p q with
  |false=>exact Ev.neg (by simp) (Ev.now _)
  |true=>
   refine Ev.pos rfl (Ev.bind (Ev.is (isPlace_eq _)) ?_)
   cases h3:okPlace n with
   |false=>exact Ev.neg (by simp) (Ev.now _)
   |true=>
    refine Ev.pos rfl (Ev.bind (bodies_ev l (by simp [okIn] at h1;omega)) ?_)
    simp only [Bool.true_and]
    exact Ev.now _
theorem refroad_ok (l:List S74) (p q n:Int) (i:Int) (b:S74) (hb:b.f2.length≤1000000) (r:Bool) (hall:∀ x∈b.f2,okIn x (-600) 600=true)
  (hr:Ev (fun k=>tr_Sky.l0 k (wrap64 (i+1)) l p q n) r):∀ m j:Nat,j+m=b.f2.length →
  Ev (fun k=>tr_Sky.l1 k i (j:Int) l p q n b.f0.f0 b.f0.f1 b.f1 b.f2) r
 |0,j,h=>by
  refine Ev.step (fun k=>by rw [tr_Sky.l1]) ?_
  exact Ev.neg (by omega) hr
 |m+1,j,h=>by
  have hj:j<b.f2.length:=by omega
  refine Ev.step (fun k=>by rw [tr_Sky.l1]) ?_
  refine Ev.pos (by omega) (Ev.pos (by omega) ?_)
  refine Ev.bind (a:=true) (Ev.is (by rw [rin_eq,rd_get _ j hj,hall _ (List.getElem_mem hj)])) (Ev.pos rfl ?_)
  rw [wrap_id (by omega)]
  exact refroad_ok l p q n i b hb r hall hr m (j+1) (by omega)
theorem refroad_bad (l:List S74) (p q n:Int) (i:Int) (b:S74) (hb:b.f2.length≤1000000):∀ m j:Nat,j+m=b.f2.length→(b.f2.drop j).any (fun n=>!okIn n (-600) 600)=true →
  Ev (fun k=>tr_Sky.l1 k i (j:Int) l p q n b.f0.f0 b.f0.f1 b.f1 b.f2) false
 |0,j,h,hbad=>by
  rw [show j=b.f2.length by omega,List.drop_length] at hbad
  cases hbad
 |m+1,j,h,hbad=>by
  have hj:j<b.f2.length:=by omega
  rw [List.drop_eq_getElem_cons hj,List.any_cons] at hbad
  refine Ev.step (fun k=>by rw [tr_Sky.l1]) ?_
  refine Ev.pos (by omega) (Ev.pos (by omega) ?_)
  refine Ev.bind (Ev.is (by rw [rin_eq,rd_get _ j hj])) ?_
  cases hq:okIn b.f2[j] (-600) 600 with
  |false=>exact Ev.neg (by simp) (Ev.now _)
  |true=>
   rw [hq] at hbad
   refine Ev.pos rfl ?_
   rw [wrap_id (by omega)]
   exact refroad_bad l p q n i b hb m (j+1) (by omega) (by simpa using hbad)
theorem refSky_loop (l:List S74) (p q n:Int) (hl:l.length≤1000000):∀ m i:Nat,i+m=l.length →
  Ev (fun k=>tr_Sky.l0 k (i:Int) l p q n) ((l.drop i).all okBody && (okIn (l.length:Int) 2 4 && (okPeriod p q && okPlace n)))
 |0,i,h=>by
  rw [show i=l.length by omega,List.drop_length]
  refine Ev.step (fun k=>by rw [tr_Sky.l0]) ?_
  refine Ev.neg (by omega) (Ev.bind (Ev.is (rin_eq _ _ _)) ?_)
  cases h1:okIn (l.length:Int) 2 4 with
  |false=>exact Ev.neg (by simp) (Ev.now _)
  |true=>
   refine Ev.pos rfl (Ev.bind (Ev.is (period_eq _ _)) ?_)
   cases h2:okPeriod p q with
   |false=>exact Ev.neg (by simp) (Ev.now _)
   |true=>
    refine Ev.pos rfl (Ev.bind (Ev.is (Spot_eq _)) ?_)
    simp only [List.all_nil,Bool.true_and]
    exact Ev.now _
 |m+1,i,h=>by
  have hi:i<l.length:=by omega
  rw [List.drop_eq_getElem_cons hi,List.all_cons]
  have ih:=refSky_loop l p q n hl m (i+1) (by omega)
  refine Ev.step (fun k=>by rw [tr_Sky.l0]) ?_
  refine Ev.pos (by omega) (Ev.pos (by omega) ?_)
  rw [rdT_get l i hi]
  generalize l[i]=b
  have bad:∀ R:Bool,Ev (fun k=>tr_Sky.j1 k (i:Int) true l p q n b.f0.f0 b.f0.f1 b.f1 b.f2) (false && R):=fun R=>by
   refine Ev.step (fun k=>by rw [tr_Sky.j1]) ?_
   exact Ev.pos rfl (Ev.now _)
  unfold okBody
  refine Ev.bind (Ev.is (period_eq _ _)) ?_
  cases h1:okPeriod b.f0.f0 b.f0.f1 with
  |false=>exact Ev.neg (by simp) (bad _)
  |true=>
   refine Ev.pos rfl (Ev.bind (Ev.is (Spot_eq _)) ?_)
   cases h2:okPlace b.f1 with
   |false=>exact Ev.neg (by simp) (bad _)
   |true=>
    refine Ev.pos rfl (Ev.bind (Ev.is (rin_eq _ _ _)) ?_)
    cases h3:okIn (b.f2.length:Int) 1 8 with
    |false=>exact bad _
    |true=>
     have hbl:b.f2.length≤1000000:=by simp [okIn] at h3;omega
     refine Ev.step (fun k=>by rw [tr_Sky.j1]) ?_
     refine Ev.neg (by simp) ?_
     cases h4:okRoad b.f2 with
     |false=>exact refroad_bad l p q n i b hbl b.f2.length 0 (by omega) (by simpa [okRoad] using h4)
     |true=>
      simp only [Bool.true_and]
      have h5:∀ x∈b.f2,okIn x (-600) 600=true:=by
       intro x hx
       unfold okRoad at h4
       cases hq:okIn x (-600) 600 with
       |true=>rfl
       |false=>
        have:b.f2.any (fun n=>!okIn n (-600) 600)=true:=List.any_eq_true.mpr ⟨x,hx,by simp [hq]⟩
        rw [this] at h4
        cases h4
      refine refroad_ok l p q n i b hbl _ h5 ?_ b.f2.length 0 (by omega)
      rw [wrap_id (by omega)]
      exact ih
theorem any_all (f:S74→Bool) (l:List S74):(!l.any (fun b=>!f b))=l.all f:=by
 induction l with
 |nil=>rfl
 |cons b t ih=>simp [ih]
theorem refSky_ev (l:List S74) (p q n:Int) (hl:l.length≤1000000):Ev (fun k=>tr_Sky.f k l p q n) (okSky l p q n):=by
 have h:=refSky_loop l p q n hl l.length 0 (by omega)
 rw [List.drop_zero] at h
 have e:okSky l p q n=(l.all okBody && (okIn (l.length:Int) 2 4 && (okPeriod p q && okPlace n))):=by
  unfold okSky
  rw [any_all]
  cases l.all okBody <;> cases okIn (l.length:Int) 2 4 <;> cases okPeriod p q <;> cases okPlace n <;> rfl
 rw [e]
 exact h
theorem short_ev (l:List S74) (p q n:Int):∃ b,Ev (fun k=>tl_short.f k l p q n) b∧(b=true→l.length≤6):=by
 have key:∀ m i:Nat,i+m=7→∃ b,Ev (fun k=>tl_short.l0 k (i:Int) l p q n) b∧(b=true→l.length≤6):=by
  intro m
  induction m with
  |zero=>
   intro i h
   have fin:∀ c:Bool,c=false→Ev (fun k=>tl_short.j1 k (i:Int) c l p q n) (decide ((l.length:Int)≤6)):=fun c hc=>by
    refine Ev.step (fun k=>by rw [tl_short.j1]) ?_
    exact Ev.neg (by simp [hc]) (Ev.now _)
   refine ⟨decide ((l.length:Int)≤6),?_,fun h=>by have:=of_decide_eq_true h;omega⟩
   refine Ev.step (fun k=>by rw [tl_short.l0]) ?_
   by_cases hi:(i:Int)<(l.length:Int)
   ·exact Ev.pos hi (fin _ (decide_eq_false (by omega)))
   ·exact Ev.neg hi (fin _ rfl)
  |succ m ih=>
   intro i h
   by_cases hi:(i:Int)<(l.length:Int)
   ·by_cases hr:((rd_T74 l (i:Int)).f2.length:Int) > 10
    ·refine ⟨false,?_,fun h=>by cases h⟩
     refine Ev.step (fun k=>by rw [tl_short.l0]) (Ev.pos hi ?_)
     refine Ev.step (fun k=>by rw [tl_short.j1]) (Ev.pos (by simp;omega) ?_)
     exact Ev.pos (by omega) (Ev.pos hi (Ev.pos hr (Ev.now _)))
    ·obtain ⟨b,hb,hb6⟩:=ih (i+1) (by omega)
     refine ⟨b,?_,hb6⟩
     refine Ev.step (fun k=>by rw [tl_short.l0]) (Ev.pos hi ?_)
     refine Ev.step (fun k=>by rw [tl_short.j1]) (Ev.pos (by simp;omega) ?_)
     refine Ev.pos (by omega) (Ev.pos hi (Ev.neg hr ?_))
     rw [wrap_id (by omega)]
     exact hb
   ·refine ⟨decide ((l.length:Int)≤6),?_,fun h=>by have:=of_decide_eq_true h;omega⟩
    refine Ev.step (fun k=>by rw [tl_short.l0]) (Ev.neg hi ?_)
    refine Ev.step (fun k=>by rw [tl_short.j1]) ?_
    exact Ev.neg (by simp) (Ev.now _)
 unfold tl_short.f
 exact key 7 0 rfl
end Go.Proofs.YtjahbgldccjbfaaGreatDoor.PSky
end
section
namespace Go.Proofs.YtjahbgldccjbfaaGreatDoor.PSky
open Go.RowKit Go.Proofs.YtjahbgldccjbfaaGreatDoorW.PrintWords Go.Proofs.YtjahbgldccjbfaaGreatDoorW.PrintLast Go.Proofs.YtjahbgldccjbfaaGreatDoorW.PrintMore
theorem tquot {a b:Int} (hb:0<b):(Int.tmod a b<0→a / b=Int.tdiv a b - 1∧a % b=Int.tmod a b+b)∧(0≤Int.tmod a b→a / b=Int.tdiv a b∧a % b=Int.tmod a b):=by
 have h1:=Int.tmod_add_mul_tdiv a b
 have h2:=Int.tmod_lt_of_pos a hb
 have h3:=Int.lt_tmod_of_pos a hb
 refine ⟨fun h=>?_,fun h=>?_⟩
 ·exact (Int.ediv_emod_unique hb).mpr ⟨by rw [Int.mul_sub,Int.mul_one];omega,by omega,by omega⟩
 ·exact (Int.ediv_emod_unique hb).mpr ⟨by omega,h,h2⟩
theorem tdiv_le {a b:Int} (hb:0<b) {m:Int} (ha:-m≤a∧a≤m) (hm:0≤m):-m - 1≤a / b∧a / b≤m:=by
 constructor
 ·have:(-m - 1)≤a / b:=by
   rw [Int.le_ediv_iff_mul_le hb]
   have:=Int.mul_le_mul_of_nonneg_left (show (1:Int)≤b by omega) (show (0:Int)≤m+1 by omega)
   have e:(-m - 1)*b = -((m+1)*b):=by rw [← Int.neg_mul];congr 1;omega
   omega
  exact this
 ·have:a / b≤m:=by
   have h1:a / b*b≤a:=Int.ediv_mul_le a (by omega)
   rcases Int.lt_or_le (a / b) 0 with h|h
   ·omega
   ·have:=Int.mul_le_mul_of_nonneg_left (show (1:Int)≤b by omega) h
    omega
  exact this
theorem floor_eq {a b:Int} (hb:0<b) (hb2:b≤1000000000000) (ha:-1000000000000000000≤a∧a≤1000000000000000000):sky_floor.f a b=some (a / b,a % b):=by
 have q:=tdiv_le hb ha (by decide)
 have m0:=Int.emod_nonneg a (show b≠0 by omega)
 have m1:=Int.emod_lt_of_pos a hb
 unfold sky_floor.f
 rw [if_neg (by omega)]
 by_cases h:Int.tmod a b<0
 ·obtain ⟨e1,e2⟩:=(tquot (a:=a) hb).1 h
  rw [if_pos h,e1,e2]
  rw [e1] at q
  rw [e2] at m0 m1
  rw [wrap_id (show -9223372036854775808≤a.tdiv b∧a.tdiv b≤9223372036854775807 by omega),wrap_id (by omega),wrap_id (by omega)]
 ·obtain ⟨e1,e2⟩:=(tquot (a:=a) hb).2 (by omega)
  rw [if_neg h,e1,e2]
  rw [e1] at q
  rw [wrap_id (show -9223372036854775808≤a.tdiv b∧a.tdiv b≤9223372036854775807 by omega)]
theorem okIn_iff {a b c:Int}:okIn a b c=true ↔ b≤a∧a≤c:=by simp [okIn]
theorem period_of {p q:Int} (h:okPeriod p q=true):1≤p∧p≤10000∧1≤q∧q≤10000∧4*q≤p:=by
 simp only [okPeriod,Bool.and_eq_true,okIn_iff,decide_eq_true_eq] at h
 omega
end Go.Proofs.YtjahbgldccjbfaaGreatDoor.PSky
end
section
namespace Go.Proofs.YtjahbgldccjbfaaGreatDoor.PSky
open Go.RowKit Go.Proofs.YtjahbgldccjbfaaGreatDoorW.PrintWords Go.Proofs.YtjahbgldccjbfaaGreatDoorW.PrintLast Go.Proofs.YtjahbgldccjbfaaGreatDoorW.PrintMore
theorem ok_at {l:List S74} {p q n:Int} (h:okSky l p q n=true):2≤l.length∧l.length≤4∧okPeriod p q=true∧okPlace n=true∧∀ i:Nat,i<l.length→okBody (rd_T74 l (i:Int))=true:=by
 simp only [okSky,Bool.and_eq_true,okIn_iff] at h
 refine ⟨by omega,by omega,h.2.1,h.2.2.1,fun i hi=>?_⟩
 have h4:=h.2.2.2
 rw [any_all] at h4
 rw [rdT_get l i hi]
 exact List.all_eq_true.mp h4 _ (List.getElem_mem hi)
theorem Ev.all {α β:Type} (g:α→Nat→Option β) (r:α→β):∀ l:List α,(∀ d∈l,Ev (g d) (r d))→∃ K,∀ k,K≤k→∀ d∈l,g d k=Option.some (r d)
 |[],_=>⟨0,fun _ _ d h=>by cases h⟩
 |x :: t,h=>by
  obtain ⟨K1,h1⟩:=h x (List.mem_cons_self ..)
  obtain ⟨K2,h2⟩:=Ev.all g r t (fun d hd=>h d (List.mem_cons_of_mem _ hd))
  refine ⟨max K1 K2,fun k hk d hd=>?_⟩
  rcases List.mem_cons.mp hd with rfl|hd
  ·exact h1 k (by omega)
  ·exact h2 k (by omega) d hd
end Go.Proofs.YtjahbgldccjbfaaGreatDoor.PSky
end
section
namespace Go.Proofs.YtjahbgldccjbfaaGreatDoor.PSky
open Go.RowKit Go.Proofs.YtjahbgldccjbfaaGreatDoorW.PrintWords Go.Proofs.YtjahbgldccjbfaaGreatDoorW.PrintLast Go.Proofs.YtjahbgldccjbfaaGreatDoorW.PrintMore
theorem known_ev:Ev (fun _=>tl_known.f.bind fun t=>some t) true:=Ev.now true
end Go.Proofs.YtjahbgldccjbfaaGreatDoor.PSky
end
section
namespace Go.Proofs.YtjahbgldccjbfaaGreatDoor.PSky
open Go.RowKit Go.Proofs.YtjahbgldccjbfaaGreatDoorW.PrintWords Go.Proofs.YtjahbgldccjbfaaGreatDoorW.PrintLast Go.Proofs.YtjahbgldccjbfaaGreatDoorW.PrintMore
def okLimit (n:Int):Bool:=okIn n 0 5400
theorem isLimit_eq (n:Int):sky_isLimit.f n=some (okLimit n):=by unfold sky_isLimit.f;rw [in_eq];rfl
theorem Limit_eq (n:Int):tr_Limit.f n=some (okLimit n):=isLimit_eq n
end Go.Proofs.YtjahbgldccjbfaaGreatDoor.PSky
end
