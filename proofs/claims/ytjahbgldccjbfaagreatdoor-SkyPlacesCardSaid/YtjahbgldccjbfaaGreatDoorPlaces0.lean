/- A part of the proof of a law of the layer sky. -/
import Derived.ArgAppend
import Derived.Below
import Derived.BigQuiet
import Derived.ChangeSame
import Derived.Deep.AppendLies
import Derived.Deep.CutBlock
import Derived.Deep.DeepCutAuto
import Derived.Deep.DeepHandedRow
import Derived.Deep.Draws
import Derived.Deep.LoopGhost
import Derived.Deep.OwnRows
import Derived.Deep.QuietTactic
import Derived.Deep.RegionHeld3
import Derived.Deep.RegionLaw
import Derived.Deep.Slices
import Derived.Deep.Strs
import Derived.Defers
import Derived.KernelRfl
import Derived.LaidMore
import Derived.Laws.BitsLemmas
import Derived.Laws.BytesArg
import Derived.Laws.Entries
import Derived.Laws.IdiomCopy
import Derived.Laws.LoneSync
import Derived.Laws.MakeOwn
import Derived.Laws.NewBlocks
import Derived.Laws.OwnMore
import Derived.Laws.Pointers
import Derived.Laws.Rows
import Derived.Laws.Slices
import Derived.Laws.StructEq
import Derived.Lib.AppendStr
import Derived.Lib.ConvBytes
import Derived.Lib.LaidTab
import Derived.Lib.OthersKept
import Derived.Lib.SplitLaws
import Derived.LoopIn
import Derived.LoopN
import Derived.LoopNIn
import Derived.Maps.AppendAt
import Derived.Maps.Own
import Derived.Maps.OwnOps
import Derived.Maps.OwnSet
import Derived.Maps.Views
import Derived.OpenShut
import Derived.OrdersHeld
import Derived.Outline
import Derived.OwnWalk
import Derived.OwnWalkIn
import Derived.ProofKit
import Derived.RangeFuncBound
import Derived.RangeFuncBox
import Derived.RangeFuncCalls
import Derived.RangeFuncLeaves
import Derived.RangeFuncNested
import Derived.Recover
import Derived.RowKit
import Derived.RowKit3
import Derived.Scope
import Derived.Shelf.Abstract
import Derived.Shelf.LaysM
import Derived.Shelf.RegionOpen
import Derived.Shelf.Strconv.Itoa0
import Derived.Shelf.Strconv.Itoa1
import Derived.Shelf.Strconv.Itoa2
import Derived.Shelf.Strconv.Itoa3
import Derived.Shelf.Strings.Builder1
import Derived.Shelf.Strings.Builder2
import Derived.Shelf.Strings.Count
import Derived.Shelf.Strings.Explode
import Derived.Shelf.Strings.OnBuilder
import Derived.Shelf.Strings.Prefix
import Derived.Shelf.Strings.RuneCount
import Derived.Shelf.Strings.Search1
import Derived.Shelf.Strings.Search2
import Derived.Shelf.Strings.Search3
import Derived.Shelf.Strings.Shaped
import Derived.Shelf.Strings.Split
import Derived.Shelf.Strings.SplitShaped
import Derived.Shelf.Unicode.Decode
import Derived.Shelf.Unicode.DecodeAny
import Derived.Shelf.Unicode.DecodeSlow
import Derived.Shelf.Utf8.RuneCount
import Derived.SizedLaws
import Derived.StillTactics
import Derived.Stop.Joined
import Derived.Stop.LaidErr
import Derived.Tactics
import Derived.TacticsInMore
import Derived.WalkKit
import Derived.WideLaws
import Derived.Test.YtjahbgldccjbfaaGreatDoorZ6
section
namespace Go.Proofs.YtjahbgldccjbfaaGreatDoor.PSky
open Go.RowKit Go.Proofs.YtjahbgldccjbfaaGreatDoorW.PrintWords Go.Proofs.YtjahbgldccjbfaaGreatDoorW.PrintLast Go.Proofs.YtjahbgldccjbfaaGreatDoorW.PrintMore
attribute [local go_sem] max2_int min2_int max_two min_two max_three min_three max_four min_four
set_option linter.unusedVariables false
set_option linter.unusedSimpArgs false
mutual
def tl_short.l0:Nat→Int→List (S74)→Int→Int→Int→Option (Bool)
 |0,_,_,_,_,_=>none
 |k+1,x3,x290000,x290001,x290002,x290003=>if x3<(x290000.length:Int) then (tl_short.j1 k x3 (decide (x3<7)) x290000 x290001 x290002 x290003) else (tl_short.j1 k x3 false x290000 x290001 x290002 x290003)
def tl_short.j1:Nat→Int→Bool→List (S74)→Int→Int→Int→Option (Bool)
 |0,_,_,_,_,_,_=>none
 |k+1,x3,x12,x290000,x290001,x290002,x290003=>if x12=true then (if 0≤x3 then (if x3<(x290000.length:Int) then (if (((rd_T74 x290000 x3).f2).length:Int) > 10 then (some false) else (tl_short.l0 k (wrap64 (x3+1)) x290000 x290001 x290002 x290003)) else (none)) else (none)) else (some (decide ((x290000.length:Int)≤6)))
end
def tl_short.f (k:Nat) (l0_0:List (S74)) (a0_1:Int) (a0_2:Int) (a0_3:Int):Option (Bool):=tl_short.l0 k 0 l0_0 a0_1 a0_2 a0_3
set_option maxHeartbeats 8000000 in
set_option maxRecDepth 100000 in
theorem tl_short.calls (k:Nat) (A0_0:Option Addr) (c0_0:Nat) (l0_0:List (S74)) (a0_1:Int) (a0_2:Int) (a0_3:Int) (r:Bool) (w:World) (hr0_0:Kd.C k74 w A0_0 l0_0.length l0_0) (hc0_0:l0_0.length≤c0_0) (h:tl_short.f k l0_0 a0_1 a0_2 a0_3=some r):
  Calls Tryz.prog 17 #[.agg #[.slice A0_0 l0_0.length c0_0,.int .i64 a0_1,.int .i64 a0_2,.int .i64 a0_3]] w fun e w'=>e=.returned (.bool r)∧Below w.heap.size w w':=by
 have hu29:=Tryz.underlying29
 have HR0_0:=A0_ hr0_0;have HC0_0:=A0_ hc0_0;clear hr0_0 hc0_0
 have HB:=A0_ (Below.refl w.heap.size w)
 have H:(tl_short.l0 k 0 l0_0 a0_1 a0_2 a0_3)=some r:=h
 clear h
 have H':=A0_ H
 clear H
 go_enter Tryz.func17,Tryz.ntmps17
 go_wp2_with (first|((with_reducible refine gate_dst (N:=1) rfl ?_);refine box_event ?hg (N:=1) ?hd (cs:=#[.slice A0_0 l0_0.length c0_0,.int .i64 a0_1,.int .i64 a0_2,.int .i64 a0_3]) (t:=29) ?hr ?_;(case hd=>rfl);(case hg=>rfl);(case hr=>first|(go_simp;done)|(go_simp;rfl));intro gb289 hg w2 hbox hb;have n0_:=A0_ (below_step y0_ hb);have n1_:=A0_ (hbox);have n2_:=A0_ ((by rw [hg];exact (below_size y0_):w.heap.size≤gb289));have n3_:=A0_ ((by rw [hg];exact (below_size y0_):w.heap.size≤gb289));clear HB;have HB:=n0_;have BK289:=n1_;have GW289:=n2_;have GE289:=n3_;clear n0_ n1_ n2_ n3_;clear hb hbox hg))
 go_loopg [3] k (fun kq v3 w'=>∃ (x3_1:Int),v3=.int .i64 x3_1∧Aside0 (tl_short.l0 kq x3_1 l0_0 a0_1 a0_2 a0_3=some r)∧Aside0 (kq≤k)∧Aside0 (w'.heap[gb289]?=some (.cells #[(.slice A0_0 l0_0.length c0_0),.int .i64 a0_1,.int .i64 a0_2,.int .i64 a0_3] 29 (0,0)))∧Aside0 (Below w.heap.size w w'))
 case atStart=>exact ⟨(0),y4_,H',⟨Nat.le_refl _⟩,⟨by (with_reducible repeat (first|refine blk_drewN ?_ _|refine blk_drew ?_|refine blk_alloc ?_ _));exact BK289.out⟩,⟨(by repeat (first|(with_reducible first|exact HB.out|apply below_alloc|apply pw_below_drewN|apply below_drew1|refine below_set ?_ GE289.out)|exact HB.out))⟩⟩
 case round=>
  clear H'
  (try clear c1);(try clear p2)
  obtain ⟨x3_1,rfl,HA,HK1,BK289,HB⟩:=hrel
  cases gk with
  |zero=>exact absurd HA.out (by simp [tl_short.l0])
  |succ k1=>
   have H:=HA.out
   clear HA
   simp only [tl_short.l0] at H
   have HC3:=A0_ H;clear H
   go_upto_region 2 with (fail)
   go_cut [12] (fun v12 wc=>∃ (kq:Nat) (x12_2:Bool),v12=.bool x12_2∧Aside0 (tl_short.j1 kq x3_1 x12_2 l0_0 a0_1 a0_2 a0_3=some r)∧Aside0 (kq≤k1)∧Aside0 (wc.heap[gb289]?=some (.cells #[(.slice A0_0 l0_0.length c0_0),.int .i64 a0_1,.int .i64 a0_2,.int .i64 a0_3] 29 (0,0)))∧Aside0 (Below w.heap.size w wc))
   case first=>
    have H:=HC3.out
    clear HC3
    by_cases c4:x3_1<(l0_0.length:Int)
    ·rw [if_pos c4] at H;have c4b0:decide (x3_1<(l0_0.length:Int))=true:=decide_eq_true c4;clear c4
     (first|rw [c4b0]|(simp only [i64_w,i32_w];rw [c4b0])|skip)
     have H':=A0_ H
     clear H;obtain ⟨hcz5_0,hcz5_1,hcz5_2,hcz5_3,hfz5_0,hfz5_1,hfz5_2,hfz5_3⟩:=bq4_ BK289.out;go_wp2
     go_meet
     case rel=>exact ⟨_,(decide (x3_1<7)),y4_,H',⟨by have:=HK1.out;first|omega|exact Nat.le_refl _⟩,⟨by (with_reducible repeat (first|refine blk_drewN ?_ _|refine blk_drew ?_|refine blk_alloc ?_ _));exact BK289.out⟩,⟨(by repeat (first|(with_reducible first|exact HB.out|apply below_alloc|apply pw_below_drewN|apply below_drew1|refine below_set ?_ GE289.out)|exact HB.out))⟩⟩
    ·rw [if_neg c4] at H;have c4b0:decide (x3_1<(l0_0.length:Int))=false:=decide_eq_false c4;clear c4
     (first|rw [c4b0]|(simp only [i64_w,i32_w];rw [c4b0])|skip)
     have H':=A0_ H
     clear H;obtain ⟨hcz6_0,hcz6_1,hcz6_2,hcz6_3,hfz6_0,hfz6_1,hfz6_2,hfz6_3⟩:=bq4_ BK289.out;go_wp2
     go_meet
     case rel=>exact ⟨_,(false),y4_,H',⟨by have:=HK1.out;first|omega|exact Nat.le_refl _⟩,⟨by (with_reducible repeat (first|refine blk_drewN ?_ _|refine blk_drew ?_|refine blk_alloc ?_ _));exact BK289.out⟩,⟨(by repeat (first|(with_reducible first|exact HB.out|apply below_alloc|apply pw_below_drewN|apply below_drew1|refine below_set ?_ GE289.out)|exact HB.out))⟩⟩
   case rest=>
    clear HC3;(try clear c1);(try clear p2);(try clear c4);(try clear c4b0);(try clear hcz5_0);(try clear hcz5_1);(try clear hcz5_2);(try clear hcz5_3);(try clear hcz6_0);(try clear hcz6_1);(try clear hcz6_2);(try clear hcz6_3);(try clear hfz5_0);(try clear hfz5_1);(try clear hfz5_2);(try clear hfz5_3);(try clear hfz6_0);(try clear hfz6_1);(try clear hfz6_2);(try clear hfz6_3);(try clear p2)
    obtain ⟨kq,x12_2,rfl,HA,HJ2,BK289,HB⟩:=hcut
    cases kq with
    |zero=>exact absurd HA.out (by simp [tl_short.j1])
    |succ kj2=>
     have H:=HA.out
     clear HA
     simp only [tl_short.j1] at H
     by_cases c7:x12_2=true
     ·subst c7
      have H1:(if 0≤x3_1 then (if x3_1<(l0_0.length:Int) then (if (((rd_T74 l0_0 x3_1).f2).length:Int) > 10 then (some false) else (tl_short.l0 kj2 (wrap64 (x3_1+1)) l0_0 a0_1 a0_2 a0_3)) else (none)) else (none))=some r:=by rw [if_pos rfl] at H;exact H
      clear H;have H:=H1;clear H1
      by_cases c8:0≤x3_1
      ·rw [if_pos c8] at H;have c8b0:decide (0≤x3_1)=true:=decide_eq_true c8;clear c8
       by_cases c9:x3_1<(l0_0.length:Int)
       ·rw [if_pos c9] at H;have c9b0:decide (x3_1<(l0_0.length:Int))=true:=decide_eq_true c9;clear c9
        by_cases c10:(((rd_T74 l0_0 x3_1).f2).length:Int) > 10
        ·rw [if_pos c10] at H;have c10b0:decide (10<(((rd_T74 l0_0 x3_1).f2).length:Int))=true:=decide_eq_true c10
         have c10b1:decide (10<((rd_T74 l0_0 x3_1).f2).length)=true:=decide_eq_true (by omega)
         clear c10;obtain rfl:=Option.some.inj H;obtain ⟨hcz11_0,hcz11_1,hcz11_2,hcz11_3,hfz11_0,hfz11_1,hfz11_2,hfz11_3⟩:=bq4_ BK289.out
         have p290:0≤(x3_1:Int):=of_decide_eq_true y5_
         have q290:x3_1<(l0_0.length:Int):=of_decide_eq_true y5_
         obtain ⟨ad290,A290_3,c290_3,e290,hx290_0,hx290_1,hx290_2,hx290_3,hl290_3,hi290_3⟩:=at_T74 HR0_0.out x3_1 p290 q290
         cases e290
         replace hx290_0:=(HB.out.cell (World.block_lt_of_cell? w _ hx290_0)).trans hx290_0
         replace hx290_1:=(HB.out.cell (World.block_lt_of_cell? w _ hx290_1)).trans hx290_1
         replace hx290_2:=(HB.out.cell (World.block_lt_of_cell? w _ hx290_2)).trans hx290_2
         replace hx290_3:=(HB.out.cell (World.block_lt_of_cell? w _ hx290_3)).trans hx290_3
         have HR290_3:=A0_ hi290_3;have HC290_3:=A0_ hl290_3;clear hi290_3 hl290_3
         replace p290:=eq_true p290
         replace q290:=eq_true q290
         go_wp2;go_ret
         exact ⟨y2_,(by repeat (first|(with_reducible first|exact HB.out|apply below_alloc|apply pw_below_drewN|apply below_drew1|refine below_set ?_ GE289.out)|exact HB.out))⟩
        ·rw [if_neg c10] at H;have c10b0:decide (10<(((rd_T74 l0_0 x3_1).f2).length:Int))=false:=decide_eq_false c10
         have c10b1:decide (10<((rd_T74 l0_0 x3_1).f2).length)=false:=decide_eq_false (by omega)
         clear c10
         have H':=A0_ H
         clear H;obtain ⟨hcz12_0,hcz12_1,hcz12_2,hcz12_3,hfz12_0,hfz12_1,hfz12_2,hfz12_3⟩:=bq4_ BK289.out
         have p290:0≤(x3_1:Int):=of_decide_eq_true y5_
         have q290:x3_1<(l0_0.length:Int):=of_decide_eq_true y5_
         obtain ⟨ad290,A290_3,c290_3,e290,hx290_0,hx290_1,hx290_2,hx290_3,hl290_3,hi290_3⟩:=at_T74 HR0_0.out x3_1 p290 q290
         cases e290
         replace hx290_0:=(HB.out.cell (World.block_lt_of_cell? w _ hx290_0)).trans hx290_0
         replace hx290_1:=(HB.out.cell (World.block_lt_of_cell? w _ hx290_1)).trans hx290_1
         replace hx290_2:=(HB.out.cell (World.block_lt_of_cell? w _ hx290_2)).trans hx290_2
         replace hx290_3:=(HB.out.cell (World.block_lt_of_cell? w _ hx290_3)).trans hx290_3
         have HR290_3:=A0_ hi290_3;have HC290_3:=A0_ hl290_3;clear hi290_3 hl290_3
         replace p290:=eq_true p290
         replace q290:=eq_true q290
         go_wp2
         go_roundg kj2
         case measure=>have:=HK1.out;have:=HJ2.out;omega
         case rel=>exact ⟨(wrap64 (x3_1+1)),y4_,H',⟨by have:=HK1.out;have:=HJ2.out;omega⟩,⟨by (with_reducible repeat (first|refine blk_drewN ?_ _|refine blk_drew ?_|refine blk_alloc ?_ _));exact BK289.out⟩,⟨(by repeat (first|(with_reducible first|exact HB.out|apply below_alloc|apply pw_below_drewN|apply below_drew1|refine below_set ?_ GE289.out)|exact HB.out))⟩⟩
       ·rw [if_neg c9] at H;exact absurd H (by simp)
      ·rw [if_neg c8] at H;exact absurd H (by simp)
     ·replace c7:=Bool.eq_false_iff.mpr c7;subst c7
      have H1:(some (decide ((l0_0.length:Int)≤6)))=some r:=by rw [if_neg (show ¬ (false=true) by decide)] at H;exact H
      clear H;have H:=H1;clear H1;obtain rfl:=Option.some.inj H;obtain ⟨hcz13_0,hcz13_1,hcz13_2,hcz13_3,hfz13_0,hfz13_1,hfz13_2,hfz13_3⟩:=bq4_ BK289.out;go_wp2;go_ret
      exact ⟨y2_,(by repeat (first|(with_reducible first|exact HB.out|apply below_alloc|apply pw_below_drewN|apply below_drew1|refine below_set ?_ GE289.out)|exact HB.out))⟩
end Go.Proofs.YtjahbgldccjbfaaGreatDoor.PSky
end
section
namespace Go.Proofs.YtjahbgldccjbfaaGreatDoor.PSky
open Go.RowKit Go.Proofs.YtjahbgldccjbfaaGreatDoorW.PrintWords Go.Proofs.YtjahbgldccjbfaaGreatDoorW.PrintLast Go.Proofs.YtjahbgldccjbfaaGreatDoorW.PrintMore
attribute [local go_sem] max2_int min2_int max_two min_two max_three min_three max_four min_four
set_option linter.unusedVariables false
set_option linter.unusedSimpArgs false
def tr_Day.f (a0:Int):Option (Bool):=(tr_in.f a0 0 20000).bind fun t551=>(some t551)
set_option maxHeartbeats 8000000 in
set_option maxRecDepth 100000 in
theorem tr_Day.calls (a0:Int) (r:Bool) (w:World) (h:tr_Day.f a0=some r):
  Calls Tryz.prog 44 #[.int .i64 a0] w fun e w'=>e=.returned (.bool r)∧Drawn0 w w':=by
 have H:((tr_in.f a0 0 20000).bind fun t551=>(some t551))=some r:=h
 clear h;replace H:=Option.bind_eq_some_iff.mp H;obtain ⟨t551,A20,H⟩:=H
 replace H:(some t551)=some r:=H
 have A2:=A0_ A20;clear A20;obtain rfl:=Option.some.inj H
 go_enter Tryz.func44,Tryz.ntmps44
 go_wp2_with (first|((with_reducible refine gate_callee (f:=66) rfl ?_);refine goesL_ (some 4) rfl rfl Tryz.func66 (by kernel_rfl) rfl #[.int .i64 a0,.int .i64 0,.int .i64 20000] rfl y1_ ?_;(with_reducible refine (tr_in.calls a0 0 20000 t551 _ A2.out).mono ?_);rintro e w' ⟨rfl,⟨nd,rfl⟩⟩;refine ⟨_,rfl,?_⟩))
 go_ret
 exact ⟨y4_,yb_⟩
end Go.Proofs.YtjahbgldccjbfaaGreatDoor.PSky
end
section
namespace Go.Proofs.YtjahbgldccjbfaaGreatDoor.PSky
open Go.RowKit Go.Proofs.YtjahbgldccjbfaaGreatDoorW.PrintWords Go.Proofs.YtjahbgldccjbfaaGreatDoorW.PrintLast Go.Proofs.YtjahbgldccjbfaaGreatDoorW.PrintMore
attribute [local go_sem] max2_int min2_int max_two min_two max_three min_three max_four min_four
set_option linter.unusedVariables false
set_option linter.unusedSimpArgs false
def tr_down.f (a0:Int) (a1:Int):Option (Int):=if a1=0 then (none) else (if (wrap64 ((wrap64 (Int.tdiv a0 a1))*a1)) > a0 then (some (wrap64 ((wrap64 (Int.tdiv a0 a1)) - 1))) else (some (wrap64 (Int.tdiv a0 a1))))
set_option maxHeartbeats 8000000 in
set_option maxRecDepth 100000 in
theorem tr_down.calls (a0:Int) (a1:Int) (r:Int) (w:World) (h:tr_down.f a0 a1=some r):
  Calls Tryz.prog 129 #[.int .i64 a0,.int .i64 a1] w fun e w'=>e=.returned (.int .i64 r)∧Drawn0 w w':=by
 have H:(if a1=0 then (none) else (if (wrap64 ((wrap64 (Int.tdiv a0 a1))*a1)) > a0 then (some (wrap64 ((wrap64 (Int.tdiv a0 a1)) - 1))) else (some (wrap64 (Int.tdiv a0 a1)))))=some r:=h
 clear h
 by_cases c3:a1=0
 ·rw [if_pos c3] at H;exact absurd H (by simp)
 ·rw [if_neg c3] at H
  have c3b0:(a1 == 0)=false:=beq_eq_false_iff_ne.mpr c3
  have c3b1:(a1 != 0)=true:=bne_iff_ne.mpr c3
  by_cases c4:(wrap64 ((wrap64 (Int.tdiv a0 a1))*a1)) > a0
  ·rw [if_pos c4] at H;have c4b0:decide (a0<(wrap64 ((wrap64 (Int.tdiv a0 a1))*a1)))=true:=decide_eq_true c4;clear c4;obtain rfl:=Option.some.inj H
   go_enter Tryz.func129,Tryz.ntmps129
   go_wp2;go_ret
   exact ⟨y4_,yb_⟩
  ·rw [if_neg c4] at H;have c4b0:decide (a0<(wrap64 ((wrap64 (Int.tdiv a0 a1))*a1)))=false:=decide_eq_false c4;clear c4;obtain rfl:=Option.some.inj H
   go_enter Tryz.func129,Tryz.ntmps129
   go_wp2;go_ret
   exact ⟨y4_,yb_⟩
def tr_Less.f (a0:Int):Option (Int):=(tr_down.f a0 21600).bind fun t295=>(some (wrap64 (a0 - (wrap64 (t295*21600)))))
set_option maxHeartbeats 8000000 in
set_option maxRecDepth 100000 in
theorem tr_Less.calls (a0:Int) (r:Int) (w:World) (h:tr_Less.f a0=some r):
  Calls Tryz.prog 82 #[.int .i64 a0] w fun e w'=>e=.returned (.int .i64 r)∧Drawn0 w w':=by
 have H:((tr_down.f a0 21600).bind fun t295=>(some (wrap64 (a0 - (wrap64 (t295*21600))))))=some r:=h
 clear h;replace H:=Option.bind_eq_some_iff.mp H;obtain ⟨t295,A20,H⟩:=H
 replace H:(some (wrap64 (a0 - (wrap64 (t295*21600)))))=some r:=H
 have A2:=A0_ A20;clear A20;obtain rfl:=Option.some.inj H
 go_enter Tryz.func82,Tryz.ntmps82
 go_wp2_with (first|((with_reducible refine gate_callee (f:=129) rfl ?_);refine goesL_ (some 5) rfl rfl Tryz.func129 (by kernel_rfl) rfl #[.int .i64 a0,.int .i64 21600] rfl y1_ ?_;(with_reducible refine (tr_down.calls a0 21600 t295 _ A2.out).mono ?_);rintro e w' ⟨rfl,⟨nd,rfl⟩⟩;refine ⟨_,rfl,?_⟩))
 go_ret
 exact ⟨y4_,yb_⟩
end Go.Proofs.YtjahbgldccjbfaaGreatDoor.PSky
end
section
namespace Go.Proofs.YtjahbgldccjbfaaGreatDoor.PSky
open Go.RowKit Go.Proofs.YtjahbgldccjbfaaGreatDoorW.PrintWords Go.Proofs.YtjahbgldccjbfaaGreatDoorW.PrintLast Go.Proofs.YtjahbgldccjbfaaGreatDoorW.PrintMore
attribute [local go_sem] max2_int min2_int max_two min_two max_three min_three max_four min_four
set_option linter.unusedVariables false
set_option linter.unusedSimpArgs false
def tr_Body.f (l0_0:List (S74)) (a0_1:Int) (a0_2:Int) (a0_3:Int) (a1:Int):Option (Bool):=(tr_in.f a1 0 (wrap64 ((l0_0.length:Int) - 1))).bind fun t292=>(some t292)
set_option maxHeartbeats 8000000 in
set_option maxRecDepth 100000 in
theorem tr_Body.calls (A0_0:Option Addr) (c0_0:Nat) (l0_0:List (S74)) (a0_1:Int) (a0_2:Int) (a0_3:Int) (a1:Int) (r:Bool) (w:World) (hr0_0:Kd.C k74 w A0_0 l0_0.length l0_0) (hc0_0:l0_0.length≤c0_0) (h:tr_Body.f l0_0 a0_1 a0_2 a0_3 a1=some r):
  Calls Tryz.prog 20 #[.agg #[.slice A0_0 l0_0.length c0_0,.int .i64 a0_1,.int .i64 a0_2,.int .i64 a0_3],.int .i64 a1] w fun e w'=>e=.returned (.bool r)∧Below w.heap.size w w':=by
 have hu29:=Tryz.underlying29
 have HR0_0:=A0_ hr0_0;have HC0_0:=A0_ hc0_0;clear hr0_0 hc0_0
 have HB:=A0_ (Below.refl w.heap.size w)
 have H:((tr_in.f a1 0 (wrap64 ((l0_0.length:Int) - 1))).bind fun t292=>(some t292))=some r:=h
 clear h;replace H:=Option.bind_eq_some_iff.mp H;obtain ⟨t292,A30,H⟩:=H
 replace H:(some t292)=some r:=H
 have A3:=A0_ A30;clear A30;obtain rfl:=Option.some.inj H
 go_enter Tryz.func20,Tryz.ntmps20
 go_wp2_with (first|((with_reducible refine gate_dst (N:=2) rfl ?_);refine box_event ?hg (N:=2) ?hd (cs:=#[.slice A0_0 l0_0.length c0_0,.int .i64 a0_1,.int .i64 a0_2,.int .i64 a0_3]) (t:=29) ?hr ?_;(case hd=>rfl);(case hg=>rfl);(case hr=>first|(go_simp;done)|(go_simp;rfl));intro gb291 hg w4 hbox hb;have n0_:=A0_ (below_step y0_ hb);have n1_:=A0_ (hbox);have n2_:=A0_ ((by rw [hg];exact (below_size y0_):w.heap.size≤gb291));have n3_:=A0_ ((by rw [hg];exact (below_size y0_):w.heap.size≤gb291));clear HB;have HB:=n0_;have BK291:=n1_;have GW291:=n2_;have GE291:=n3_;clear n0_ n1_ n2_ n3_;clear hb hbox hg;obtain ⟨hcz5_0,hcz5_1,hcz5_2,hcz5_3,hfz5_0,hfz5_1,hfz5_2,hfz5_3⟩:=bq4_ BK291.out)|((with_reducible refine gate_callee (f:=66) rfl ?_);refine goesL_ (some 10) rfl rfl Tryz.func66 (by kernel_rfl) rfl #[.int .i64 a1,.int .i64 0,.int .i64 (wrap64 ((l0_0.length:Int) - 1))] rfl y1_ ?_;(with_reducible refine (tr_in.calls a1 0 (wrap64 ((l0_0.length:Int) - 1)) t292 _ A3.out).mono ?_);rintro e w' ⟨rfl,⟨nd,rfl⟩⟩;refine ⟨_,rfl,?_⟩))
 go_ret
 exact ⟨y2_,(by repeat (first|(with_reducible first|exact HB.out|apply below_alloc|apply pw_below_drewN|apply below_drew1|refine below_set ?_ GE291.out)|exact HB.out))⟩
end Go.Proofs.YtjahbgldccjbfaaGreatDoor.PSky
end
section
namespace Go.Proofs.YtjahbgldccjbfaaGreatDoor.PSky
open Go.RowKit Go.Proofs.YtjahbgldccjbfaaGreatDoorW.PrintWords Go.Proofs.YtjahbgldccjbfaaGreatDoorW.PrintLast Go.Proofs.YtjahbgldccjbfaaGreatDoorW.PrintMore
attribute [local go_sem] max2_int min2_int max_two min_two max_three min_three max_four min_four
set_option linter.unusedVariables false
set_option linter.unusedSimpArgs false
def tr_mean.f (a0_0:Int) (a0_1:Int) (a0_2:Int) (l0_3:List Int) (a1:Int):Option (Int):=if a0_0=0 then (none) else (some (wrap64 (a0_2+(wrap64 (Int.tdiv (wrap64 ((wrap64 (a1*21600))*a0_1)) a0_0)))))
set_option maxHeartbeats 8000000 in
set_option maxRecDepth 100000 in
theorem tr_mean.calls (a0_0:Int) (a0_1:Int) (a0_2:Int) (A0_3:Option Addr) (c0_3:Nat) (l0_3:List Int) (a1:Int) (r:Int) (w:World) (hr0_3:Kd.C (Kd.int .i64) w A0_3 l0_3.length l0_3) (hc0_3:l0_3.length≤c0_3) (h:tr_mean.f a0_0 a0_1 a0_2 l0_3 a1=some r):
  Calls Tryz.prog 96 #[.agg #[.int .i64 a0_0,.int .i64 a0_1,.int .i64 a0_2,.slice A0_3 l0_3.length c0_3],.int .i64 a1] w fun e w'=>e=.returned (.int .i64 r)∧Below w.heap.size w w':=by
 have hu74:=Tryz.underlying74
 have HR0_3:=A0_ hr0_3;have HC0_3:=A0_ hc0_3;clear hr0_3 hc0_3
 have HB:=A0_ (Below.refl w.heap.size w)
 have H:(if a0_0=0 then (none) else (some (wrap64 (a0_2+(wrap64 (Int.tdiv (wrap64 ((wrap64 (a1*21600))*a0_1)) a0_0))))))=some r:=h
 clear h
 by_cases c3:a0_0=0
 ·rw [if_pos c3] at H;exact absurd H (by simp)
 ·rw [if_neg c3] at H
  have c3b0:(a0_0 == 0)=false:=beq_eq_false_iff_ne.mpr c3
  have c3b1:(a0_0 != 0)=true:=bne_iff_ne.mpr c3
  obtain rfl:=Option.some.inj H
  go_enter Tryz.func96,Tryz.ntmps96
  go_wp2_with (first|((with_reducible refine gate_dst (N:=2) rfl ?_);refine box_event ?hg (N:=2) ?hd (cs:=#[.int .i64 a0_0,.int .i64 a0_1,.int .i64 a0_2,.slice A0_3 l0_3.length c0_3]) (t:=74) ?hr ?_;(case hd=>rfl);(case hg=>rfl);(case hr=>first|(go_simp;done)|(go_simp;rfl));intro gb297 hg w4 hbox hb;have n0_:=A0_ (below_step y0_ hb);have n1_:=A0_ (hbox);have n2_:=A0_ ((by rw [hg];exact (below_size y0_):w.heap.size≤gb297));have n3_:=A0_ ((by rw [hg];exact (below_size y0_):w.heap.size≤gb297));clear HB;have HB:=n0_;have BK297:=n1_;have GW297:=n2_;have GE297:=n3_;clear n0_ n1_ n2_ n3_;clear hb hbox hg;obtain ⟨hcz5_0,hcz5_1,hcz5_2,hcz5_3,hfz5_0,hfz5_1,hfz5_2,hfz5_3⟩:=bq4_ BK297.out))
  repeat (go_quiet (first|((with_reducible refine gate_dst (N:=2) rfl ?_);refine box_event ?hg (N:=2) ?hd (cs:=#[.int .i64 a0_0,.int .i64 a0_1,.int .i64 a0_2,.slice A0_3 l0_3.length c0_3]) (t:=74) ?hr ?_;(case hd=>rfl);(case hg=>rfl);(case hr=>first|(go_simp;done)|(go_simp;rfl));intro gb297 hg w4 hbox hb;have n0_:=A0_ (below_step y0_ hb);have n1_:=A0_ (hbox);have n2_:=A0_ ((by rw [hg];exact (below_size y0_):w.heap.size≤gb297));have n3_:=A0_ ((by rw [hg];exact (below_size y0_):w.heap.size≤gb297));clear HB;have HB:=n0_;have BK297:=n1_;have GW297:=n2_;have GE297:=n3_;clear n0_ n1_ n2_ n3_;clear hb hbox hg;obtain ⟨hcz5_0,hcz5_1,hcz5_2,hcz5_3,hfz5_0,hfz5_1,hfz5_2,hfz5_3⟩:=bq4_ BK297.out));try go_wp2_with (first|((with_reducible refine gate_dst (N:=2) rfl ?_);refine box_event ?hg (N:=2) ?hd (cs:=#[.int .i64 a0_0,.int .i64 a0_1,.int .i64 a0_2,.slice A0_3 l0_3.length c0_3]) (t:=74) ?hr ?_;(case hd=>rfl);(case hg=>rfl);(case hr=>first|(go_simp;done)|(go_simp;rfl));intro gb297 hg w4 hbox hb;have n0_:=A0_ (below_step y0_ hb);have n1_:=A0_ (hbox);have n2_:=A0_ ((by rw [hg];exact (below_size y0_):w.heap.size≤gb297));have n3_:=A0_ ((by rw [hg];exact (below_size y0_):w.heap.size≤gb297));clear HB;have HB:=n0_;have BK297:=n1_;have GW297:=n2_;have GE297:=n3_;clear n0_ n1_ n2_ n3_;clear hb hbox hg;obtain ⟨hcz5_0,hcz5_1,hcz5_2,hcz5_3,hfz5_0,hfz5_1,hfz5_2,hfz5_3⟩:=bq4_ BK297.out)))
  go_ret
  exact ⟨y2_,(by repeat (first|(with_reducible first|exact HB.out|apply below_alloc|apply pw_below_drewN|apply below_drew1|refine below_set ?_ GE297.out)|exact HB.out))⟩
def tr_Mean.f (a0_0:Int) (a0_1:Int) (a0_2:Int) (l0_3:List Int) (a1:Int):Option (Int):=(tr_mean.f a0_0 a0_1 a0_2 l0_3 a1).bind fun t299=>((tr_Less.f t299).bind fun t300=>(some t300))
set_option maxHeartbeats 8000000 in
set_option maxRecDepth 100000 in
theorem tr_Mean.calls (a0_0:Int) (a0_1:Int) (a0_2:Int) (A0_3:Option Addr) (c0_3:Nat) (l0_3:List Int) (a1:Int) (r:Int) (w:World) (hr0_3:Kd.C (Kd.int .i64) w A0_3 l0_3.length l0_3) (hc0_3:l0_3.length≤c0_3) (h:tr_Mean.f a0_0 a0_1 a0_2 l0_3 a1=some r):
  Calls Tryz.prog 46 #[.agg #[.int .i64 a0_0,.int .i64 a0_1,.int .i64 a0_2,.slice A0_3 l0_3.length c0_3],.int .i64 a1] w fun e w'=>e=.returned (.int .i64 r)∧Below w.heap.size w w':=by
 have hu74:=Tryz.underlying74
 have HR0_3:=A0_ hr0_3;have HC0_3:=A0_ hc0_3;clear hr0_3 hc0_3
 have HB:=A0_ (Below.refl w.heap.size w)
 have H:((tr_mean.f a0_0 a0_1 a0_2 l0_3 a1).bind fun t299=>((tr_Less.f t299).bind fun t300=>(some t300)))=some r:=h
 clear h;replace H:=Option.bind_eq_some_iff.mp H;obtain ⟨t299,A30,H⟩:=H
 replace H:((tr_Less.f t299).bind fun t300=>(some t300))=some r:=H
 have A3:=A0_ A30;clear A30;replace H:=Option.bind_eq_some_iff.mp H;obtain ⟨t300,A40,H⟩:=H
 replace H:(some t300)=some r:=H
 have A4:=A0_ A40;clear A40;obtain rfl:=Option.some.inj H
 go_enter Tryz.func46,Tryz.ntmps46
 go_wp2_with (first|((with_reducible refine gate_dst (N:=2) rfl ?_);refine box_event ?hg (N:=2) ?hd (cs:=#[.int .i64 a0_0,.int .i64 a0_1,.int .i64 a0_2,.slice A0_3 l0_3.length c0_3]) (t:=74) ?hr ?_;(case hd=>rfl);(case hg=>rfl);(case hr=>first|(go_simp;done)|(go_simp;rfl));intro gb298 hg w5 hbox hb;have n0_:=A0_ (below_step y0_ hb);have n1_:=A0_ (hbox);have n2_:=A0_ ((by rw [hg];exact (below_size y0_):w.heap.size≤gb298));have n3_:=A0_ ((by rw [hg];exact (below_size y0_):w.heap.size≤gb298));clear HB;have HB:=n0_;have BK298:=n1_;have GW298:=n2_;have GE298:=n3_;clear n0_ n1_ n2_ n3_;clear hb hbox hg;obtain ⟨hcz6_0,hcz6_1,hcz6_2,hcz6_3,hfz6_0,hfz6_1,hfz6_2,hfz6_3⟩:=bq4_ BK298.out)|((with_reducible refine gate_callee (f:=96) rfl ?_);refine goesL_ (some 7) rfl rfl Tryz.func96 (by kernel_rfl) rfl #[.agg #[.int .i64 a0_0,.int .i64 a0_1,.int .i64 a0_2,.slice A0_3 l0_3.length c0_3],.int .i64 a1] rfl y1_ ?_;(with_reducible refine (tr_mean.calls a0_0 a0_1 a0_2 _ _ l0_3 a1 t299 _ ?side1 ?side2 A3.out).mono ?_);(case side1=>repeat (first|exact (Kd.C_below HR0_3.out HB.out)|(with_reducible refine Kd.C_alloc ?_ _)|(with_reducible refine Kd.C_drewN ?_ _)|(with_reducible refine Kd.C_drew ?_)));(case side2=>exact HC0_3.out);rintro e w7 ⟨rfl,hb⟩;refine ⟨_,rfl,?_⟩;have n0_:=A0_ (blk_below (g:=gb298) (o:=.cells #[.int .i64 a0_0,.int .i64 a0_1,.int .i64 a0_2,.slice A0_3 l0_3.length c0_3] 74 (0,0)) (bd_ BK298.out) hb);have n1_:=A0_ (below_step (by repeat (first|(with_reducible first|exact HB.out|apply below_alloc|apply pw_below_drewN|apply below_drew1|refine below_set ?_ GE298.out)|exact HB.out)) hb);clear BK298;clear HB;have BK298:=n0_;have HB:=n1_;clear n0_ n1_;(try clear hb);(try clear hb2);(try clear hk);(try clear hi))|((with_reducible refine gate_callee (f:=82) rfl ?_);refine goesL_ (some 8) rfl rfl Tryz.func82 (by kernel_rfl) rfl #[.int .i64 t299] rfl y1_ ?_;(with_reducible refine (tr_Less.calls t299 t300 _ A4.out).mono ?_);rintro e w' ⟨rfl,⟨nd,rfl⟩⟩;refine ⟨_,rfl,?_⟩))
 go_ret
 exact ⟨y2_,(by repeat (first|(with_reducible first|exact HB.out|apply below_alloc|apply pw_below_drewN|apply below_drew1|refine below_set ?_ GE298.out)|exact HB.out))⟩
def tr_way.f (a0_0:Int) (a0_1:Int) (a0_2:Int) (l0_3:List Int) (a1:Int):Option (Int):=(tr_Mean.f a0_0 a0_1 a0_2 l0_3 a1).bind fun t302=>(if (l0_3.length:Int)=0 then (none) else (if 0≤(Int.tmod (wrap64 ((wrap64 (Int.tdiv (wrap64 (t302*(l0_3.length:Int))) 21600))+1)) (l0_3.length:Int)) then (if (Int.tmod (wrap64 ((wrap64 (Int.tdiv (wrap64 (t302*(l0_3.length:Int))) 21600))+1)) (l0_3.length:Int))<(l0_3.length:Int) then ((tr_mean.f a0_0 a0_1 a0_2 l0_3 a1).bind fun t304=>(if 0≤(wrap64 (Int.tdiv (wrap64 (t302*(l0_3.length:Int))) 21600)) then (if (wrap64 (Int.tdiv (wrap64 (t302*(l0_3.length:Int))) 21600))<(l0_3.length:Int) then ((tr_down.f (wrap64 ((wrap64 ((rd l0_3 (Int.tmod (wrap64 ((wrap64 (Int.tdiv (wrap64 (t302*(l0_3.length:Int))) 21600))+1)) (l0_3.length:Int))) - (rd l0_3 (wrap64 (Int.tdiv (wrap64 (t302*(l0_3.length:Int))) 21600)))))*(Int.tmod (wrap64 (t302*(l0_3.length:Int))) 21600))) 21600).bind fun t307=>(some (wrap64 ((wrap64 (t304+(rd l0_3 (wrap64 (Int.tdiv (wrap64 (t302*(l0_3.length:Int))) 21600)))))+t307)))) else (none)) else (none))) else (none)) else (none)))
def tr_way.T1:Bool × List (List Nat × List Nat):=(true,[([],[]),([],[]),([0,1],[0,1]),([],[]),([3],[3]),([4],[4]),([2,5],[2,5]),([6,2,0,1,2,3,4,5,6],[6])])
def tr_way.B1:List Nat:=[0,0,3,0,8,24,63,127]
theorem tr_way.tab1:rtab .any (opsOf Tryz.f97 1)=tr_way.T1:=by kernel_rfl
theorem tr_way.bits1:waitsOk tr_way.T1.2 tr_way.B1=true:=by kernel_rfl
def tr_way.T3:Bool × List (List Nat × List Nat):=(true,[([],[]),([0],[0]),([],[]),([2],[2]),([],[]),([4],[4]),([5],[5]),([3,6],[3,6]),([1,7],[1,7]),([8],[8]),([9,0,1,2,3,4,5,6,7,8,9],[9])])
def tr_way.B3:List Nat:=[0,1,0,4,0,16,48,124,255,511,1023]
theorem tr_way.tab3:rtab .any (opsOf Tryz.f97 3)=tr_way.T3:=by kernel_rfl
theorem tr_way.bits3:waitsOk tr_way.T3.2 tr_way.B3=true:=by kernel_rfl
def tr_way.T4:Bool × List (List Nat × List Nat):=(true,[([],[]),([],[]),([0,1],[0,1]),([],[]),([3],[3]),([],[]),([4,5],[4,5]),([6],[6]),([2,7],[2,7]),([],[]),([],[]),([10],[10]),([],[]),([11,12],[11,12]),([13],[13]),([9,14],[9,14]),([],[]),([16],[16]),([15,17],[15,17]),([18,2],[18]),([8,19],[8,19]),([20,19,0,1,2,3,4,5,6,7,8,9,10,11,12,13,14,15,16,17,18,19,20],[20])])
def tr_way.B4:List Nat:=[0,0,3,0,8,0,56,120,255,0,0,1024,0,7168,15360,32256,0,65536,261632,523783,1048575,2097151]
theorem tr_way.tab4:rtab .any (opsOf Tryz.f97 4)=tr_way.T4:=by kernel_rfl
theorem tr_way.bits4:waitsOk tr_way.T4.2 tr_way.B4=true:=by kernel_rfl
set_option maxHeartbeats 8000000 in
set_option maxRecDepth 100000 in
theorem tr_way.calls (a0_0:Int) (a0_1:Int) (a0_2:Int) (A0_3:Option Addr) (c0_3:Nat) (l0_3:List Int) (a1:Int) (r:Int) (w:World) (hr0_3:Kd.C (Kd.int .i64) w A0_3 l0_3.length l0_3) (hc0_3:l0_3.length≤c0_3) (h:tr_way.f a0_0 a0_1 a0_2 l0_3 a1=some r):
  Calls Tryz.prog 97 #[.agg #[.int .i64 a0_0,.int .i64 a0_1,.int .i64 a0_2,.slice A0_3 l0_3.length c0_3],.int .i64 a1] w fun e w'=>e=.returned (.int .i64 r)∧Below w.heap.size w w':=by
 have hu74:=Tryz.underlying74
 have HR0_3:=A0_ hr0_3;have HC0_3:=A0_ hc0_3;clear hr0_3 hc0_3
 have HB:=A0_ (Below.refl w.heap.size w)
 have H:((tr_Mean.f a0_0 a0_1 a0_2 l0_3 a1).bind fun t302=>(if (l0_3.length:Int)=0 then (none) else (if 0≤(Int.tmod (wrap64 ((wrap64 (Int.tdiv (wrap64 (t302*(l0_3.length:Int))) 21600))+1)) (l0_3.length:Int)) then (if (Int.tmod (wrap64 ((wrap64 (Int.tdiv (wrap64 (t302*(l0_3.length:Int))) 21600))+1)) (l0_3.length:Int))<(l0_3.length:Int) then ((tr_mean.f a0_0 a0_1 a0_2 l0_3 a1).bind fun t304=>(if 0≤(wrap64 (Int.tdiv (wrap64 (t302*(l0_3.length:Int))) 21600)) then (if (wrap64 (Int.tdiv (wrap64 (t302*(l0_3.length:Int))) 21600))<(l0_3.length:Int) then ((tr_down.f (wrap64 ((wrap64 ((rd l0_3 (Int.tmod (wrap64 ((wrap64 (Int.tdiv (wrap64 (t302*(l0_3.length:Int))) 21600))+1)) (l0_3.length:Int))) - (rd l0_3 (wrap64 (Int.tdiv (wrap64 (t302*(l0_3.length:Int))) 21600)))))*(Int.tmod (wrap64 (t302*(l0_3.length:Int))) 21600))) 21600).bind fun t307=>(some (wrap64 ((wrap64 (t304+(rd l0_3 (wrap64 (Int.tdiv (wrap64 (t302*(l0_3.length:Int))) 21600)))))+t307)))) else (none)) else (none))) else (none)) else (none))))=some r:=h
 clear h;replace H:=Option.bind_eq_some_iff.mp H;obtain ⟨t302,A30,H⟩:=H
 replace H:(if (l0_3.length:Int)=0 then (none) else (if 0≤(Int.tmod (wrap64 ((wrap64 (Int.tdiv (wrap64 (t302*(l0_3.length:Int))) 21600))+1)) (l0_3.length:Int)) then (if (Int.tmod (wrap64 ((wrap64 (Int.tdiv (wrap64 (t302*(l0_3.length:Int))) 21600))+1)) (l0_3.length:Int))<(l0_3.length:Int) then ((tr_mean.f a0_0 a0_1 a0_2 l0_3 a1).bind fun t304=>(if 0≤(wrap64 (Int.tdiv (wrap64 (t302*(l0_3.length:Int))) 21600)) then (if (wrap64 (Int.tdiv (wrap64 (t302*(l0_3.length:Int))) 21600))<(l0_3.length:Int) then ((tr_down.f (wrap64 ((wrap64 ((rd l0_3 (Int.tmod (wrap64 ((wrap64 (Int.tdiv (wrap64 (t302*(l0_3.length:Int))) 21600))+1)) (l0_3.length:Int))) - (rd l0_3 (wrap64 (Int.tdiv (wrap64 (t302*(l0_3.length:Int))) 21600)))))*(Int.tmod (wrap64 (t302*(l0_3.length:Int))) 21600))) 21600).bind fun t307=>(some (wrap64 ((wrap64 (t304+(rd l0_3 (wrap64 (Int.tdiv (wrap64 (t302*(l0_3.length:Int))) 21600)))))+t307)))) else (none)) else (none))) else (none)) else (none)))=some r:=H
 have A3:=A0_ A30;clear A30
 by_cases c4:(l0_3.length:Int)=0
 ·rw [if_pos c4] at H;exact absurd H (by simp)
 ·rw [if_neg c4] at H
  have c4b0:((l0_3.length:Int) == 0)=false:=beq_eq_false_iff_ne.mpr c4
  have c4b1:((l0_3.length:Int) != 0)=true:=bne_iff_ne.mpr c4
  have c4b2:¬ (l0_3=[]):=fun h_=>c4 (by rw [h_];rfl)
  obtain ⟨ji5,hji5⟩:∃ j_:Int,(Int.tmod (wrap64 ((wrap64 (Int.tdiv (wrap64 (t302*(l0_3.length:Int))) 21600))+1)) (l0_3.length:Int))=j_:=⟨_,rfl⟩
  replace H:(if 0≤(ji5) then (if (ji5)<(l0_3.length:Int) then ((tr_mean.f a0_0 a0_1 a0_2 l0_3 a1).bind fun t304=>(if 0≤(wrap64 (Int.tdiv (wrap64 (t302*(l0_3.length:Int))) 21600)) then (if (wrap64 (Int.tdiv (wrap64 (t302*(l0_3.length:Int))) 21600))<(l0_3.length:Int) then ((tr_down.f (wrap64 ((wrap64 ((rd l0_3 (ji5)) - (rd l0_3 (wrap64 (Int.tdiv (wrap64 (t302*(l0_3.length:Int))) 21600)))))*(Int.tmod (wrap64 (t302*(l0_3.length:Int))) 21600))) 21600).bind fun t307=>(some (wrap64 ((wrap64 (t304+(rd l0_3 (wrap64 (Int.tdiv (wrap64 (t302*(l0_3.length:Int))) 21600)))))+t307)))) else (none)) else (none))) else (none)) else (none))=some r:=by first|(rw [hji5] at H;exact H)|(simp only [hji5] at H ⊢;exact H)
  (try rw [hji5] at A3)
  by_cases c6:0≤(ji5)
  ·rw [if_pos c6] at H;have c6b0:decide (0≤(ji5))=true:=decide_eq_true c6;clear c6
   by_cases c7:(ji5)<(l0_3.length:Int)
   ·rw [if_pos c7] at H;have c7b0:decide ((ji5)<(l0_3.length:Int))=true:=decide_eq_true c7;clear c7;replace H:=Option.bind_eq_some_iff.mp H;obtain ⟨t304,A80,H⟩:=H
    replace H:(if 0≤(wrap64 (Int.tdiv (wrap64 (t302*(l0_3.length:Int))) 21600)) then (if (wrap64 (Int.tdiv (wrap64 (t302*(l0_3.length:Int))) 21600))<(l0_3.length:Int) then ((tr_down.f (wrap64 ((wrap64 ((rd l0_3 (ji5)) - (rd l0_3 (wrap64 (Int.tdiv (wrap64 (t302*(l0_3.length:Int))) 21600)))))*(Int.tmod (wrap64 (t302*(l0_3.length:Int))) 21600))) 21600).bind fun t307=>(some (wrap64 ((wrap64 (t304+(rd l0_3 (wrap64 (Int.tdiv (wrap64 (t302*(l0_3.length:Int))) 21600)))))+t307)))) else (none)) else (none))=some r:=H
    have A8:=A0_ A80;clear A80
    obtain ⟨ji9,hji9⟩:∃ j_:Int,(wrap64 (Int.tdiv (wrap64 (t302*(l0_3.length:Int))) 21600))=j_:=⟨_,rfl⟩
    replace H:(if 0≤(ji9) then (if (ji9)<(l0_3.length:Int) then ((tr_down.f (wrap64 ((wrap64 ((rd l0_3 (ji5)) - (rd l0_3 (ji9))))*(Int.tmod (wrap64 (t302*(l0_3.length:Int))) 21600))) 21600).bind fun t307=>(some (wrap64 ((wrap64 (t304+(rd l0_3 (ji9))))+t307)))) else (none)) else (none))=some r:=by first|(rw [hji9] at H;exact H)|(simp only [hji9] at H ⊢;exact H)
    (try rw [hji9] at hji5)
    (try rw [hji9] at A3)
    (try rw [hji9] at A8)
    have hji9w:(IntKind.i64.wrap (Int.tdiv (wrap64 (t302*(l0_3.length:Int))) 21600))=ji9:=(i64_w _).trans hji9
    by_cases c10:0≤(ji9)
    ·rw [if_pos c10] at H;have c10b0:decide (0≤(ji9))=true:=decide_eq_true c10;clear c10
     by_cases c11:(ji9)<(l0_3.length:Int)
     ·rw [if_pos c11] at H;have c11b0:decide ((ji9)<(l0_3.length:Int))=true:=decide_eq_true c11;clear c11;replace H:=Option.bind_eq_some_iff.mp H;obtain ⟨t307,A120,H⟩:=H
      replace H:(some (wrap64 ((wrap64 (t304+(rd l0_3 (ji9))))+t307)))=some r:=H
      have A12:=A0_ A120;clear A120;obtain rfl:=Option.some.inj H
      go_enter Tryz.func97,Tryz.ntmps97
      try go_wp2_with (first|((with_reducible refine gate_dst (N:=2) rfl ?_);refine box_event ?hg (N:=2) ?hd (cs:=#[.int .i64 a0_0,.int .i64 a0_1,.int .i64 a0_2,.slice A0_3 l0_3.length c0_3]) (t:=74) ?hr ?_;(case hd=>rfl);(case hg=>rfl);(case hr=>first|(go_simp;done)|(go_simp;rfl));intro gb301 hg w13 hbox hb;have n0_:=A0_ (below_step y0_ hb);have n1_:=A0_ (hbox);have n2_:=A0_ ((by rw [hg];exact (below_size y0_):w.heap.size≤gb301));have n3_:=A0_ ((by rw [hg];exact (below_size y0_):w.heap.size≤gb301));clear HB;have HB:=n0_;have BK301:=n1_;have GW301:=n2_;have GE301:=n3_;clear n0_ n1_ n2_ n3_;clear hb hbox hg))
      have n0_:=A0_ (blk_drew BK301.out);have n1_:=A0_ (below_drew1 HB.out);clear BK301;clear HB;have BK301:=n0_;have HB:=n1_;clear n0_ n1_
      refine start_ (n:=8) (S:=fun w'=>w'.cell? ⟨gb301,0,none⟩=some (.int .i64 a0_0)∧w'.cell? ⟨gb301,1,none⟩=some (.int .i64 a0_1)∧w'.cell? ⟨gb301,2,none⟩=some (.int .i64 a0_2)∧w'.cell? ⟨gb301,3,none⟩=some (.slice A0_3 l0_3.length c0_3)) (ds:=[]) #[false,false,false,false,false,false,false,false] (by kernel_rfl) rfl rfl ⟨(blk_cell BK301.out 0).trans rfl,(blk_cell BK301.out 1).trans rfl,(blk_cell BK301.out 2).trans rfl,(blk_cell BK301.out 3).trans rfl⟩ (fun hHeld=>?_);refine with_tabW tr_way.tab1 tr_way.bits1 (fun HT_ HW_=>?_)
      generalize w13.drew=w14 at BK301 HB hHeld ⊢
      refine pu_ (i:=1) (N:=some 9) ?_;refine pu_ (i:=3) (N:=some 11) ?_;refine ta_ (i:=0) (N:=some 8) ?_;refine ta_ (i:=4) (N:=some 12) ?_;refine pu_ (i:=5) (N:=some 13) ?_
      refine one_ (i:=2) (N:=some 10) #[true,true,true,true,true,true,false,false] rfl rfl (one_of HT_.out (by kernel_rfl)) (by decide) (fun K hK=>?_)
      refine goes_ Tryz.func46 (by kernel_rfl) rfl #[.agg #[.int .i64 a0_0,.int .i64 a0_1,.int .i64 a0_2,.slice A0_3 l0_3.length c0_3],.int .i64 a1] (by rfl) rfl rfl y1_ ?_
      with_reducible refine (tr_Mean.calls a0_0 a0_1 a0_2 _ _ l0_3 a1 t302 _ ?side1 ?side2 A3.out).mono ?_
      (case side1=>repeat (first|exact (Kd.C_below HR0_3.out HB.out)|(with_reducible refine Kd.C_alloc ?_ _)|(with_reducible refine Kd.C_drewN ?_ _)|(with_reducible refine Kd.C_drew ?_)))
      (case side2=>exact HC0_3.out)
      rintro e w15 ⟨rfl,hb⟩
      refine ⟨_,rfl,?_⟩
      have n0_:=A0_ (blk_below (g:=gb301) (o:=.cells #[.int .i64 a0_0,.int .i64 a0_1,.int .i64 a0_2,.slice A0_3 l0_3.length c0_3] 74 (0,0)) (bd_ BK301.out) hb)
      have n1_:=A0_ (below_step (by repeat (first|(with_reducible first|exact HB.out|apply below_alloc|apply pw_below_drewN|apply below_drew1|refine below_set ?_ GE301.out)|exact HB.out)) hb)
      clear BK301;clear HB;have BK301:=n0_;have HB:=n1_;clear n0_ n1_;(try clear hb);(try clear hb2);(try clear hk);(try clear hi)
      refine hK.out _ _ ⟨(blk_cell BK301.out 0).trans rfl,(blk_cell BK301.out 1).trans rfl,(blk_cell BK301.out 2).trans rfl,(blk_cell BK301.out 3).trans rfl⟩ (fun hHeld=>?_)
      clear hK K
      refine norm_ (a':=?_) ?_ ?_
      rotate_left
      ·show Act.put _ (some 10) _=_
       simp only [Act.put,List.setIfInBounds_toArray,List.set_cons_zero,List.set_cons_succ,i64_w,i32_w]
       rfl
      refine pu_ (i:=6) (N:=some 14) ?_;refine pu_ (i:=7) (N:=some 5) ?_
      refine done_ (done_of HT_.out (by kernel_rfl)) ?_
      try go_wp2
      have n0_:=A0_ (blk_drew BK301.out);have n1_:=A0_ (below_drew1 HB.out);clear BK301;clear HB;have BK301:=n0_;have HB:=n1_;clear n0_ n1_
      have p303:0≤((ji5):Int):=of_decide_eq_true y5_
      have q303:(ji5)<(l0_3.length:Int):=of_decide_eq_true y5_
      obtain ⟨ad303,e303,hx303_0⟩:=Kd.at_int HR0_3.out (ji5) p303 q303
      have hw303_0:=hx303_0
      cases e303
      replace hx303_0:=(HB.out.cell (World.block_lt_of_cell? w _ hx303_0)).trans hx303_0
      replace p303:=eq_true p303
      replace q303:=eq_true q303
      refine start_ (n:=11) (S:=fun w'=>w'.cell? ⟨gb301,0,none⟩=some (.int .i64 a0_0)∧w'.cell? ⟨gb301,1,none⟩=some (.int .i64 a0_1)∧w'.cell? ⟨gb301,2,none⟩=some (.int .i64 a0_2)∧w'.cell? ⟨gb301,3,none⟩=some (.slice (some ad303) l0_3.length c0_3)∧w'.cell? (ad303.add ((ji5)).toNat)=some (.int .i64 (rd l0_3 (ji5)))) (ds:=[]) #[false,false,false,false,false,false,false,false,false,false,false] (by kernel_rfl) rfl rfl ⟨(blk_cell BK301.out 0).trans rfl,(blk_cell BK301.out 1).trans rfl,(blk_cell BK301.out 2).trans rfl,(blk_cell BK301.out 3).trans rfl,((HB.out.cell (World.block_lt_of_cell? w _ hw303_0)).trans hw303_0)⟩ (fun hHeld=>?_);refine with_tabW tr_way.tab3 tr_way.bits3 (fun HT_ HW_=>?_)
      generalize w15.drew=w16 at BK301 HB hx303_0 hHeld ⊢
      refine pu_ (i:=0) (N:=some 17) ?_;refine pu_ (i:=2) (N:=some 19) ?_;refine pu_ (i:=3) (N:=some 20) ?_;refine pu_ (i:=4) (N:=some 21) ?_;refine ta_ (i:=1) (N:=some 18) ?_;refine ta_ (i:=5) (N:=some 22) ?_;refine pu_ (i:=6) (N:=some 23) ?_;refine pu_ (i:=7) (N:=some 24) ?_;refine pu_ (i:=8) (N:=some 25) ?_;refine ta_ (i:=9) (N:=some 26) ?_;refine pu_ (i:=10) (N:=some 7) ?_
      refine done_ (done_of HT_.out (by kernel_rfl)) ?_
      try go_wp2
      have n0_:=A0_ (blk_drew BK301.out);have n1_:=A0_ (below_drew1 HB.out);clear BK301;clear HB;have BK301:=n0_;have HB:=n1_;clear n0_ n1_
      have p305:0≤((ji9):Int):=of_decide_eq_true y5_
      have q305:(ji9)<(l0_3.length:Int):=of_decide_eq_true y5_
      obtain ⟨ad305,e305,hx305_0⟩:=Kd.at_int HR0_3.out (ji9) p305 q305
      have hw305_0:=hx305_0
      obtain rfl:ad303=ad305:=(by injection e305)
      replace hx305_0:=(HB.out.cell (World.block_lt_of_cell? w _ hx305_0)).trans hx305_0
      replace p305:=eq_true p305
      replace q305:=eq_true q305
      have p306:0≤((ji9):Int):=of_decide_eq_true y5_
      have q306:(ji9)<(l0_3.length:Int):=of_decide_eq_true y5_
      obtain ⟨ad306,e306,hx306_0⟩:=Kd.at_int HR0_3.out (ji9) p306 q306
      have hw306_0:=hx306_0
      obtain rfl:ad303=ad306:=(by injection e306)
      replace hx306_0:=(HB.out.cell (World.block_lt_of_cell? w _ hx306_0)).trans hx306_0
      replace p306:=eq_true p306
      replace q306:=eq_true q306
      refine start_ (n:=22) (S:=fun w'=>w'.cell? ⟨gb301,0,none⟩=some (.int .i64 a0_0)∧w'.cell? ⟨gb301,1,none⟩=some (.int .i64 a0_1)∧w'.cell? ⟨gb301,2,none⟩=some (.int .i64 a0_2)∧w'.cell? ⟨gb301,3,none⟩=some (.slice (some ad303) l0_3.length c0_3)∧w'.cell? (ad303.add ((ji9)).toNat)=some (.int .i64 (rd l0_3 (ji9)))∧w'.cell? (ad303.add ((ji9)).toNat)=some (.int .i64 (rd l0_3 (ji9)))) (ds:=[]) #[false,false,false,false,false,false,false,false,false,false,false,false,false,false,false,false,false,false,false,false,false,false] (by kernel_rfl) rfl rfl ⟨(blk_cell BK301.out 0).trans rfl,(blk_cell BK301.out 1).trans rfl,(blk_cell BK301.out 2).trans rfl,(blk_cell BK301.out 3).trans rfl,((HB.out.cell (World.block_lt_of_cell? w _ hw305_0)).trans hw305_0),((HB.out.cell (World.block_lt_of_cell? w _ hw306_0)).trans hw306_0)⟩ (fun hHeld=>?_);refine with_tabW tr_way.tab4 tr_way.bits4 (fun HT_ HW_=>?_)
      generalize w16.drew=w17 at BK301 HB hx305_0 hx306_0 hHeld ⊢
      refine pu_ (i:=1) (N:=some 28) ?_;refine pu_ (i:=3) (N:=some 30) ?_;refine pu_ (i:=5) (N:=some 32) ?_;refine pu_ (i:=9) (N:=some 36) ?_;refine pu_ (i:=10) (N:=some 37) ?_;refine pu_ (i:=12) (N:=some 39) ?_;refine pu_ (i:=16) (N:=some 43) ?_;refine pu_ (i:=17) (N:=some 44) ?_;refine ta_ (i:=0) (N:=some 27) ?_;refine ta_ (i:=4) (N:=some 31) ?_;refine pu_ (i:=6) (N:=some 33) ?_;refine ta_ (i:=7) (N:=some 34) ?_;refine ta_ (i:=11) (N:=some 38) ?_;refine pu_ (i:=13) (N:=some 40) ?_;refine ta_ (i:=14) (N:=some 41) ?_;refine pu_ (i:=15) (N:=some 42) ?_;refine pu_ (i:=18) (N:=some 45) ?_
      refine one_ (i:=2) (N:=some 29) #[true,true,true,true,true,true,true,true,false,true,true,true,true,true,true,true,true,true,true,false,false,false] rfl rfl (one_of HT_.out (by kernel_rfl)) (by decide) (fun K hK=>?_)
      refine goes_ Tryz.func96 (by kernel_rfl) rfl #[.agg #[.int .i64 a0_0,.int .i64 a0_1,.int .i64 a0_2,.slice (some ad303) l0_3.length c0_3],.int .i64 a1] (by rfl) rfl rfl y1_ ?_
      with_reducible refine (tr_mean.calls a0_0 a0_1 a0_2 _ _ l0_3 a1 t304 _ ?side1 ?side2 A8.out).mono ?_
      (case side1=>repeat (first|exact (Kd.C_below HR0_3.out HB.out)|(with_reducible refine Kd.C_alloc ?_ _)|(with_reducible refine Kd.C_drewN ?_ _)|(with_reducible refine Kd.C_drew ?_)))
      (case side2=>exact HC0_3.out)
      rintro e w18 ⟨rfl,hb⟩
      refine ⟨_,rfl,?_⟩
      have n0_:=A0_ (blk_below (g:=gb301) (o:=.cells #[.int .i64 a0_0,.int .i64 a0_1,.int .i64 a0_2,.slice (some ad303) l0_3.length c0_3] 74 (0,0)) (bd_ BK301.out) hb)
      have n1_:=A0_ (below_step (by repeat (first|(with_reducible first|exact HB.out|apply below_alloc|apply pw_below_drewN|apply below_drew1|refine below_set ?_ GE301.out)|exact HB.out)) hb)
      clear BK301;clear HB;have BK301:=n0_;have HB:=n1_;clear n0_ n1_;(try clear hb);(try clear hb2);(try clear hk);(try clear hi)
      refine hK.out _ _ ⟨(blk_cell BK301.out 0).trans rfl,(blk_cell BK301.out 1).trans rfl,(blk_cell BK301.out 2).trans rfl,(blk_cell BK301.out 3).trans rfl,((HB.out.cell (World.block_lt_of_cell? w _ hw305_0)).trans hw305_0),((HB.out.cell (World.block_lt_of_cell? w _ hw306_0)).trans hw306_0)⟩ (fun hHeld=>?_)
      clear hK K
      refine norm_ (a':=?_) ?_ ?_
      rotate_left
      ·show Act.put _ (some 29) _=_
       simp only [Act.put,List.setIfInBounds_toArray,List.set_cons_zero,List.set_cons_succ,i64_w,i32_w]
       rfl
      refine pu_ (i:=8) (N:=some 35) ?_
      refine one_ (i:=19) (N:=some 46) #[true,true,true,true,true,true,true,true,true,true,true,true,true,true,true,true,true,true,true,true,false,false] rfl rfl (one_of HT_.out (by kernel_rfl)) (by decide) (fun K hK=>?_)
      refine goes_ Tryz.func129 (by kernel_rfl) rfl #[.int .i64 (wrap64 ((wrap64 ((rd l0_3 (ji5)) - (rd l0_3 (ji9))))*(Int.tmod (wrap64 (t302*(l0_3.length:Int))) 21600))),.int .i64 21600] (by rfl) rfl rfl (by (try simp only [List.map_toArray,List.map_cons,List.map_nil]);first|done|(simp only [hji5,hji9];rfl)|rfl|(simp only [List.length_drop,List.length_take];rfl)) ?_
      with_reducible refine (tr_down.calls (wrap64 ((wrap64 ((rd l0_3 (ji5)) - (rd l0_3 (ji9))))*(Int.tmod (wrap64 (t302*(l0_3.length:Int))) 21600))) 21600 t307 _ A12.out).mono ?_
      rintro e w' ⟨rfl,⟨nd,rfl⟩⟩
      refine ⟨_,rfl,?_⟩
      refine hK.out _ _ ⟨(blk_cell BK301.out 0).trans rfl,(blk_cell BK301.out 1).trans rfl,(blk_cell BK301.out 2).trans rfl,(blk_cell BK301.out 3).trans rfl,((HB.out.cell (World.block_lt_of_cell? w _ hw305_0)).trans hw305_0),((HB.out.cell (World.block_lt_of_cell? w _ hw306_0)).trans hw306_0)⟩ (fun hHeld=>?_)
      clear hK K
      refine norm_ (a':=?_) ?_ ?_
      rotate_left
      ·show Act.put _ (some 46) _=_
       simp only [Act.put,List.setIfInBounds_toArray,List.set_cons_zero,List.set_cons_succ,i64_w,i32_w]
       rfl
      refine pu_ (i:=20) (N:=some 47) ?_;refine pu_ (i:=21) (N:=some 4) ?_
      refine done_ (done_of HT_.out (by kernel_rfl)) ?_
      try go_wp2
      go_ret
      exact ⟨by first|rfl|(simp [errW_none,errW_some] <;> rfl)|(simp only [← hji5,← hji9];first|rfl|(simp [errW_none,errW_some] <;> rfl))|(simp [*,errW_none,errW_some] <;> rfl),(by repeat (first|(with_reducible first|exact HB.out|apply below_alloc|apply pw_below_drewN|apply below_drew1|refine below_set ?_ GE301.out)|exact HB.out))⟩
     ·rw [if_neg c11] at H;exact absurd H (by simp)
    ·rw [if_neg c10] at H;exact absurd H (by simp)
   ·rw [if_neg c7] at H;exact absurd H (by simp)
  ·rw [if_neg c6] at H;exact absurd H (by simp)
def tr_ahead.f (l0_0:List (S74)) (a0_1:Int) (a0_2:Int) (a0_3:Int) (a1:Int) (a2:Int) (a3:Int):Option (Int):=if 0≤a1 then (if a1<(l0_0.length:Int) then ((tr_way.f ((rd_T74 l0_0 a1).f0.f0) ((rd_T74 l0_0 a1).f0.f1) ((rd_T74 l0_0 a1).f1) ((rd_T74 l0_0 a1).f2) a3).bind fun t321=>(if 0≤a2 then (if a2<(l0_0.length:Int) then ((tr_way.f ((rd_T74 l0_0 a2).f0.f0) ((rd_T74 l0_0 a2).f0.f1) ((rd_T74 l0_0 a2).f1) ((rd_T74 l0_0 a2).f2) a3).bind fun t323=>(some (wrap64 (t321 - t323)))) else (none)) else (none))) else (none)) else (none)
def tr_ahead.T1:Bool × List (List Nat × List Nat):=(true,[([],[]),([0],[0]),([],[]),([1,2],[1,2]),([3],[3]),([],[]),([4,5],[4,5]),([],[]),([7],[7]),([],[]),([8,9],[8,9]),([10],[10]),([],[]),([11,12,6],[11,12]),([6,13],[6,13]),([14,13,0,1,2,3,4,5,6,7,8,9,10,11,12,13,14],[14])])
def tr_ahead.B1:List Nat:=[0,1,0,7,15,0,63,0,128,0,896,1920,0,8191,16383,32767]
theorem tr_ahead.tab1:rtab .any (opsOf Tryz.f76 1)=tr_ahead.T1:=by kernel_rfl
theorem tr_ahead.bits1:waitsOk tr_ahead.T1.2 tr_ahead.B1=true:=by kernel_rfl
set_option maxHeartbeats 8000000 in
set_option maxRecDepth 100000 in
theorem tr_ahead.calls (A0_0:Option Addr) (c0_0:Nat) (l0_0:List (S74)) (a0_1:Int) (a0_2:Int) (a0_3:Int) (a1:Int) (a2:Int) (a3:Int) (r:Int) (w:World) (hr0_0:Kd.C k74 w A0_0 l0_0.length l0_0) (hc0_0:l0_0.length≤c0_0) (h:tr_ahead.f l0_0 a0_1 a0_2 a0_3 a1 a2 a3=some r):
  Calls Tryz.prog 76 #[.agg #[.slice A0_0 l0_0.length c0_0,.int .i64 a0_1,.int .i64 a0_2,.int .i64 a0_3],.int .i64 a1,.int .i64 a2,.int .i64 a3] w fun e w'=>e=.returned (.int .i64 r)∧Below w.heap.size w w':=by
 have hu29:=Tryz.underlying29
 have hu74:=Tryz.underlying74
 have HR0_0:=A0_ hr0_0;have HC0_0:=A0_ hc0_0;clear hr0_0 hc0_0
 have HB:=A0_ (Below.refl w.heap.size w)
 have H:(if 0≤a1 then (if a1<(l0_0.length:Int) then ((tr_way.f ((rd_T74 l0_0 a1).f0.f0) ((rd_T74 l0_0 a1).f0.f1) ((rd_T74 l0_0 a1).f1) ((rd_T74 l0_0 a1).f2) a3).bind fun t321=>(if 0≤a2 then (if a2<(l0_0.length:Int) then ((tr_way.f ((rd_T74 l0_0 a2).f0.f0) ((rd_T74 l0_0 a2).f0.f1) ((rd_T74 l0_0 a2).f1) ((rd_T74 l0_0 a2).f2) a3).bind fun t323=>(some (wrap64 (t321 - t323)))) else (none)) else (none))) else (none)) else (none))=some r:=h
 clear h
 by_cases c5:0≤a1
 ·rw [if_pos c5] at H;have c5b0:decide (0≤a1)=true:=decide_eq_true c5;clear c5
  by_cases c6:a1<(l0_0.length:Int)
  ·rw [if_pos c6] at H;have c6b0:decide (a1<(l0_0.length:Int))=true:=decide_eq_true c6;clear c6;replace H:=Option.bind_eq_some_iff.mp H;obtain ⟨t321,A70,H⟩:=H
   replace H:(if 0≤a2 then (if a2<(l0_0.length:Int) then ((tr_way.f ((rd_T74 l0_0 a2).f0.f0) ((rd_T74 l0_0 a2).f0.f1) ((rd_T74 l0_0 a2).f1) ((rd_T74 l0_0 a2).f2) a3).bind fun t323=>(some (wrap64 (t321 - t323)))) else (none)) else (none))=some r:=H
   have A7:=A0_ A70;clear A70
   by_cases c8:0≤a2
   ·rw [if_pos c8] at H;have c8b0:decide (0≤a2)=true:=decide_eq_true c8;clear c8
    by_cases c9:a2<(l0_0.length:Int)
    ·rw [if_pos c9] at H;have c9b0:decide (a2<(l0_0.length:Int))=true:=decide_eq_true c9;clear c9;replace H:=Option.bind_eq_some_iff.mp H;obtain ⟨t323,A100,H⟩:=H
     replace H:(some (wrap64 (t321 - t323)))=some r:=H
     have A10:=A0_ A100;clear A100;obtain rfl:=Option.some.inj H
     go_enter Tryz.func76,Tryz.ntmps76
     try go_wp2_with (first|((with_reducible refine gate_dst (N:=4) rfl ?_);refine box_event ?hg (N:=4) ?hd (cs:=#[.slice A0_0 l0_0.length c0_0,.int .i64 a0_1,.int .i64 a0_2,.int .i64 a0_3]) (t:=29) ?hr ?_;(case hd=>rfl);(case hg=>rfl);(case hr=>first|(go_simp;done)|(go_simp;rfl));intro gb319 hg w11 hbox hb;have n0_:=A0_ (below_step y0_ hb);have n1_:=A0_ (hbox);have n2_:=A0_ ((by rw [hg];exact (below_size y0_):w.heap.size≤gb319));have n3_:=A0_ ((by rw [hg];exact (below_size y0_):w.heap.size≤gb319));clear HB;have HB:=n0_;have BK319:=n1_;have GW319:=n2_;have GE319:=n3_;clear n0_ n1_ n2_ n3_;clear hb hbox hg))
     have n0_:=A0_ (blk_drew BK319.out);have n1_:=A0_ (below_drew1 HB.out);clear BK319;clear HB;have BK319:=n0_;have HB:=n1_;clear n0_ n1_
     have p320:0≤(a1:Int):=of_decide_eq_true y5_
     have q320:a1<(l0_0.length:Int):=of_decide_eq_true y5_
     obtain ⟨ad320,A320_3,c320_3,e320,hx320_0,hx320_1,hx320_2,hx320_3,hl320_3,hi320_3⟩:=at_T74 HR0_0.out a1 p320 q320
     have hw320_3:=hx320_3;have hw320_2:=hx320_2;have hw320_1:=hx320_1;have hw320_0:=hx320_0
     cases e320
     replace hx320_0:=(HB.out.cell (World.block_lt_of_cell? w _ hx320_0)).trans hx320_0
     replace hx320_1:=(HB.out.cell (World.block_lt_of_cell? w _ hx320_1)).trans hx320_1
     replace hx320_2:=(HB.out.cell (World.block_lt_of_cell? w _ hx320_2)).trans hx320_2
     replace hx320_3:=(HB.out.cell (World.block_lt_of_cell? w _ hx320_3)).trans hx320_3
     have HR320_3:=A0_ hi320_3;have HC320_3:=A0_ hl320_3;clear hi320_3 hl320_3
     replace p320:=eq_true p320
     replace q320:=eq_true q320
     have p322:0≤(a2:Int):=of_decide_eq_true y5_
     have q322:a2<(l0_0.length:Int):=of_decide_eq_true y5_
     obtain ⟨ad322,A322_3,c322_3,e322,hx322_0,hx322_1,hx322_2,hx322_3,hl322_3,hi322_3⟩:=at_T74 HR0_0.out a2 p322 q322
     have hw322_3:=hx322_3;have hw322_2:=hx322_2;have hw322_1:=hx322_1;have hw322_0:=hx322_0
     obtain rfl:ad320=ad322:=(by injection e322)
     replace hx322_0:=(HB.out.cell (World.block_lt_of_cell? w _ hx322_0)).trans hx322_0
     replace hx322_1:=(HB.out.cell (World.block_lt_of_cell? w _ hx322_1)).trans hx322_1
     replace hx322_2:=(HB.out.cell (World.block_lt_of_cell? w _ hx322_2)).trans hx322_2
     replace hx322_3:=(HB.out.cell (World.block_lt_of_cell? w _ hx322_3)).trans hx322_3
     have HR322_3:=A0_ hi322_3;have HC322_3:=A0_ hl322_3;clear hi322_3 hl322_3
     replace p322:=eq_true p322
     replace q322:=eq_true q322
     refine start_ (n:=16) (S:=fun w'=>w'.cell? ⟨gb319,0,none⟩=some (.slice (some ad320) l0_0.length c0_0)∧w'.cell? ⟨gb319,1,none⟩=some (.int .i64 a0_1)∧w'.cell? ⟨gb319,2,none⟩=some (.int .i64 a0_2)∧w'.cell? ⟨gb319,3,none⟩=some (.int .i64 a0_3)∧w'.cell? (ad320.add ((a1).toNat*4))=some (.int .i64 ((rd_T74 l0_0 a1).f0.f0))∧w'.cell? ⟨(ad320.add ((a1).toNat*4)).block,(ad320.add ((a1).toNat*4)).off+1,none⟩=some (.int .i64 ((rd_T74 l0_0 a1).f0.f1))∧w'.cell? ⟨(ad320.add ((a1).toNat*4)).block,(ad320.add ((a1).toNat*4)).off+2,none⟩=some (.int .i64 ((rd_T74 l0_0 a1).f1))∧w'.cell? ⟨(ad320.add ((a1).toNat*4)).block,(ad320.add ((a1).toNat*4)).off+3,none⟩=some (.slice A320_3 ((rd_T74 l0_0 a1).f2).length c320_3)∧w'.cell? (ad320.add ((a2).toNat*4))=some (.int .i64 ((rd_T74 l0_0 a2).f0.f0))∧w'.cell? ⟨(ad320.add ((a2).toNat*4)).block,(ad320.add ((a2).toNat*4)).off+1,none⟩=some (.int .i64 ((rd_T74 l0_0 a2).f0.f1))∧w'.cell? ⟨(ad320.add ((a2).toNat*4)).block,(ad320.add ((a2).toNat*4)).off+2,none⟩=some (.int .i64 ((rd_T74 l0_0 a2).f1))∧w'.cell? ⟨(ad320.add ((a2).toNat*4)).block,(ad320.add ((a2).toNat*4)).off+3,none⟩=some (.slice A322_3 ((rd_T74 l0_0 a2).f2).length c322_3)) (ds:=[]) #[false,false,false,false,false,false,false,false,false,false,false,false,false,false,false,false] (by kernel_rfl) rfl rfl ⟨(blk_cell BK319.out 0).trans rfl,(blk_cell BK319.out 1).trans rfl,(blk_cell BK319.out 2).trans rfl,(blk_cell BK319.out 3).trans rfl,((HB.out.cell (World.block_lt_of_cell? w _ hw320_0)).trans hw320_0),((HB.out.cell (World.block_lt_of_cell? w _ hw320_1)).trans hw320_1),((HB.out.cell (World.block_lt_of_cell? w _ hw320_2)).trans hw320_2),((HB.out.cell (World.block_lt_of_cell? w _ hw320_3)).trans hw320_3),((HB.out.cell (World.block_lt_of_cell? w _ hw322_0)).trans hw322_0),((HB.out.cell (World.block_lt_of_cell? w _ hw322_1)).trans hw322_1),((HB.out.cell (World.block_lt_of_cell? w _ hw322_2)).trans hw322_2),((HB.out.cell (World.block_lt_of_cell? w _ hw322_3)).trans hw322_3)⟩ (fun hHeld=>?_);refine with_tabW tr_ahead.tab1 tr_ahead.bits1 (fun HT_ HW_=>?_)
     generalize w11.drew=w12 at BK319 HB HR320_3 HR322_3 hx320_0 hx320_1 hx320_2 hx320_3 hx322_0 hx322_1 hx322_2 hx322_3 hHeld ⊢
     refine pu_ (i:=0) (N:=some 9) ?_;refine pu_ (i:=2) (N:=some 11) ?_;refine pu_ (i:=5) (N:=some 14) ?_;refine pu_ (i:=7) (N:=some 16) ?_;refine pu_ (i:=9) (N:=some 18) ?_;refine pu_ (i:=12) (N:=some 21) ?_;refine ta_ (i:=1) (N:=some 10) ?_;refine pu_ (i:=3) (N:=some 12) ?_;refine ta_ (i:=4) (N:=some 13) ?_;refine ta_ (i:=8) (N:=some 17) ?_;refine pu_ (i:=10) (N:=some 19) ?_;refine ta_ (i:=11) (N:=some 20) ?_
     refine one_ (i:=6) (N:=some 15) #[true,true,true,true,true,true,true,true,true,true,true,true,true,false,false,false] rfl rfl (one_of HT_.out (by kernel_rfl)) (by decide) (fun K hK=>?_)
     refine goes_ Tryz.func97 (by kernel_rfl) rfl #[.agg #[.int .i64 ((rd_T74 l0_0 a1).f0.f0),.int .i64 ((rd_T74 l0_0 a1).f0.f1),.int .i64 ((rd_T74 l0_0 a1).f1),.slice A320_3 ((rd_T74 l0_0 a1).f2).length c320_3],.int .i64 a3] (by rfl) rfl rfl y1_ ?_
     with_reducible refine (tr_way.calls ((rd_T74 l0_0 a1).f0.f0) ((rd_T74 l0_0 a1).f0.f1) ((rd_T74 l0_0 a1).f1) _ _ ((rd_T74 l0_0 a1).f2) a3 t321 _ ?side1 ?side2 A7.out).mono ?_
     (case side1=>repeat (first|exact (Kd.C_below HR320_3.out HB.out)|(with_reducible refine Kd.C_alloc ?_ _)|(with_reducible refine Kd.C_drewN ?_ _)|(with_reducible refine Kd.C_drew ?_)))
     (case side2=>exact HC320_3.out)
     rintro e w13 ⟨rfl,hb⟩
     refine ⟨_,rfl,?_⟩
     have n0_:=A0_ (blk_below (g:=gb319) (o:=.cells #[.slice (some ad320) l0_0.length c0_0,.int .i64 a0_1,.int .i64 a0_2,.int .i64 a0_3] 29 (0,0)) (bd_ BK319.out) hb)
     have n1_:=A0_ (below_step (by repeat (first|(with_reducible first|exact HB.out|apply below_alloc|apply pw_below_drewN|apply below_drew1|refine below_set ?_ GE319.out)|exact HB.out)) hb)
     clear BK319;clear HB;have BK319:=n0_;have HB:=n1_;clear n0_ n1_;(try clear hb);(try clear hb2);(try clear hk);(try clear hi)
     refine hK.out _ _ ⟨(blk_cell BK319.out 0).trans rfl,(blk_cell BK319.out 1).trans rfl,(blk_cell BK319.out 2).trans rfl,(blk_cell BK319.out 3).trans rfl,((HB.out.cell (World.block_lt_of_cell? w _ hw320_0)).trans hw320_0),((HB.out.cell (World.block_lt_of_cell? w _ hw320_1)).trans hw320_1),((HB.out.cell (World.block_lt_of_cell? w _ hw320_2)).trans hw320_2),((HB.out.cell (World.block_lt_of_cell? w _ hw320_3)).trans hw320_3),((HB.out.cell (World.block_lt_of_cell? w _ hw322_0)).trans hw322_0),((HB.out.cell (World.block_lt_of_cell? w _ hw322_1)).trans hw322_1),((HB.out.cell (World.block_lt_of_cell? w _ hw322_2)).trans hw322_2),((HB.out.cell (World.block_lt_of_cell? w _ hw322_3)).trans hw322_3)⟩ (fun hHeld=>?_)
     clear hK K
     refine norm_ (a':=?_) ?_ ?_
     rotate_left
     ·show Act.put _ (some 15) _=_
      simp only [Act.put,List.setIfInBounds_toArray,List.set_cons_zero,List.set_cons_succ,i64_w,i32_w]
      rfl
     refine one_ (i:=13) (N:=some 22) #[true,true,true,true,true,true,true,true,true,true,true,true,true,true,false,false] rfl rfl (one_of HT_.out (by kernel_rfl)) (by decide) (fun K hK=>?_)
     refine goes_ Tryz.func97 (by kernel_rfl) rfl #[.agg #[.int .i64 ((rd_T74 l0_0 a2).f0.f0),.int .i64 ((rd_T74 l0_0 a2).f0.f1),.int .i64 ((rd_T74 l0_0 a2).f1),.slice A322_3 ((rd_T74 l0_0 a2).f2).length c322_3],.int .i64 a3] (by rfl) rfl rfl y1_ ?_
     with_reducible refine (tr_way.calls ((rd_T74 l0_0 a2).f0.f0) ((rd_T74 l0_0 a2).f0.f1) ((rd_T74 l0_0 a2).f1) _ _ ((rd_T74 l0_0 a2).f2) a3 t323 _ ?side1 ?side2 A10.out).mono ?_
     (case side1=>repeat (first|exact (Kd.C_below HR322_3.out HB.out)|(with_reducible refine Kd.C_alloc ?_ _)|(with_reducible refine Kd.C_drewN ?_ _)|(with_reducible refine Kd.C_drew ?_)))
     (case side2=>exact HC322_3.out)
     rintro e w14 ⟨rfl,hb⟩
     refine ⟨_,rfl,?_⟩
     have n0_:=A0_ (blk_below (g:=gb319) (o:=.cells #[.slice (some ad320) l0_0.length c0_0,.int .i64 a0_1,.int .i64 a0_2,.int .i64 a0_3] 29 (0,0)) (bd_ BK319.out) hb)
     have n1_:=A0_ (below_step (by repeat (first|(with_reducible first|exact HB.out|apply below_alloc|apply pw_below_drewN|apply below_drew1|refine below_set ?_ GE319.out)|exact HB.out)) hb)
     clear BK319;clear HB;have BK319:=n0_;have HB:=n1_;clear n0_ n1_;(try clear hb);(try clear hb2);(try clear hk);(try clear hi)
     refine hK.out _ _ ⟨(blk_cell BK319.out 0).trans rfl,(blk_cell BK319.out 1).trans rfl,(blk_cell BK319.out 2).trans rfl,(blk_cell BK319.out 3).trans rfl,((HB.out.cell (World.block_lt_of_cell? w _ hw320_0)).trans hw320_0),((HB.out.cell (World.block_lt_of_cell? w _ hw320_1)).trans hw320_1),((HB.out.cell (World.block_lt_of_cell? w _ hw320_2)).trans hw320_2),((HB.out.cell (World.block_lt_of_cell? w _ hw320_3)).trans hw320_3),((HB.out.cell (World.block_lt_of_cell? w _ hw322_0)).trans hw322_0),((HB.out.cell (World.block_lt_of_cell? w _ hw322_1)).trans hw322_1),((HB.out.cell (World.block_lt_of_cell? w _ hw322_2)).trans hw322_2),((HB.out.cell (World.block_lt_of_cell? w _ hw322_3)).trans hw322_3)⟩ (fun hHeld=>?_)
     clear hK K
     refine norm_ (a':=?_) ?_ ?_
     rotate_left
     ·show Act.put _ (some 22) _=_
      simp only [Act.put,List.setIfInBounds_toArray,List.set_cons_zero,List.set_cons_succ,i64_w,i32_w]
      rfl
     refine pu_ (i:=14) (N:=some 23) ?_;refine pu_ (i:=15) (N:=some 8) ?_
     refine done_ (done_of HT_.out (by kernel_rfl)) ?_
     try go_wp2
     go_ret
     exact ⟨y2_,(by repeat (first|(with_reducible first|exact HB.out|apply below_alloc|apply pw_below_drewN|apply below_drew1|refine below_set ?_ GE319.out)|exact HB.out))⟩
    ·rw [if_neg c9] at H;exact absurd H (by simp)
   ·rw [if_neg c8] at H;exact absurd H (by simp)
  ·rw [if_neg c6] at H;exact absurd H (by simp)
 ·rw [if_neg c5] at H;exact absurd H (by simp)
end Go.Proofs.YtjahbgldccjbfaaGreatDoor.PSky
end
section
namespace Go.Proofs.YtjahbgldccjbfaaGreatDoor.PSky
open Go.RowKit Go.Proofs.YtjahbgldccjbfaaGreatDoorW.PrintWords Go.Proofs.YtjahbgldccjbfaaGreatDoorW.PrintLast Go.Proofs.YtjahbgldccjbfaaGreatDoorW.PrintMore
attribute [local go_sem] max2_int min2_int max_two min_two max_three min_three max_four min_four
set_option linter.unusedVariables false
set_option linter.unusedSimpArgs false
def tr_Place.f (a0_0:Int) (a0_1:Int) (a0_2:Int) (l0_3:List Int) (a1:Int):Option (Int):=(tr_way.f a0_0 a0_1 a0_2 l0_3 a1).bind fun t309=>((tr_Less.f t309).bind fun t310=>(some t310))
set_option maxHeartbeats 8000000 in
set_option maxRecDepth 100000 in
theorem tr_Place.calls (a0_0:Int) (a0_1:Int) (a0_2:Int) (A0_3:Option Addr) (c0_3:Nat) (l0_3:List Int) (a1:Int) (r:Int) (w:World) (hr0_3:Kd.C (Kd.int .i64) w A0_3 l0_3.length l0_3) (hc0_3:l0_3.length≤c0_3) (h:tr_Place.f a0_0 a0_1 a0_2 l0_3 a1=some r):
  Calls Tryz.prog 47 #[.agg #[.int .i64 a0_0,.int .i64 a0_1,.int .i64 a0_2,.slice A0_3 l0_3.length c0_3],.int .i64 a1] w fun e w'=>e=.returned (.int .i64 r)∧Below w.heap.size w w':=by
 have hu74:=Tryz.underlying74
 have HR0_3:=A0_ hr0_3;have HC0_3:=A0_ hc0_3;clear hr0_3 hc0_3
 have HB:=A0_ (Below.refl w.heap.size w)
 have H:((tr_way.f a0_0 a0_1 a0_2 l0_3 a1).bind fun t309=>((tr_Less.f t309).bind fun t310=>(some t310)))=some r:=h
 clear h;replace H:=Option.bind_eq_some_iff.mp H;obtain ⟨t309,A30,H⟩:=H
 replace H:((tr_Less.f t309).bind fun t310=>(some t310))=some r:=H
 have A3:=A0_ A30;clear A30;replace H:=Option.bind_eq_some_iff.mp H;obtain ⟨t310,A40,H⟩:=H
 replace H:(some t310)=some r:=H
 have A4:=A0_ A40;clear A40;obtain rfl:=Option.some.inj H
 go_enter Tryz.func47,Tryz.ntmps47
 go_wp2_with (first|((with_reducible refine gate_dst (N:=2) rfl ?_);refine box_event ?hg (N:=2) ?hd (cs:=#[.int .i64 a0_0,.int .i64 a0_1,.int .i64 a0_2,.slice A0_3 l0_3.length c0_3]) (t:=74) ?hr ?_;(case hd=>rfl);(case hg=>rfl);(case hr=>first|(go_simp;done)|(go_simp;rfl));intro gb308 hg w5 hbox hb;have n0_:=A0_ (below_step y0_ hb);have n1_:=A0_ (hbox);have n2_:=A0_ ((by rw [hg];exact (below_size y0_):w.heap.size≤gb308));have n3_:=A0_ ((by rw [hg];exact (below_size y0_):w.heap.size≤gb308));clear HB;have HB:=n0_;have BK308:=n1_;have GW308:=n2_;have GE308:=n3_;clear n0_ n1_ n2_ n3_;clear hb hbox hg;obtain ⟨hcz6_0,hcz6_1,hcz6_2,hcz6_3,hfz6_0,hfz6_1,hfz6_2,hfz6_3⟩:=bq4_ BK308.out)|((with_reducible refine gate_callee (f:=97) rfl ?_);refine goesL_ (some 7) rfl rfl Tryz.func97 (by kernel_rfl) rfl #[.agg #[.int .i64 a0_0,.int .i64 a0_1,.int .i64 a0_2,.slice A0_3 l0_3.length c0_3],.int .i64 a1] rfl y1_ ?_;(with_reducible refine (tr_way.calls a0_0 a0_1 a0_2 _ _ l0_3 a1 t309 _ ?side1 ?side2 A3.out).mono ?_);(case side1=>repeat (first|exact (Kd.C_below HR0_3.out HB.out)|(with_reducible refine Kd.C_alloc ?_ _)|(with_reducible refine Kd.C_drewN ?_ _)|(with_reducible refine Kd.C_drew ?_)));(case side2=>exact HC0_3.out);rintro e w7 ⟨rfl,hb⟩;refine ⟨_,rfl,?_⟩;have n0_:=A0_ (blk_below (g:=gb308) (o:=.cells #[.int .i64 a0_0,.int .i64 a0_1,.int .i64 a0_2,.slice A0_3 l0_3.length c0_3] 74 (0,0)) (bd_ BK308.out) hb);have n1_:=A0_ (below_step (by repeat (first|(with_reducible first|exact HB.out|apply below_alloc|apply pw_below_drewN|apply below_drew1|refine below_set ?_ GE308.out)|exact HB.out)) hb);clear BK308;clear HB;have BK308:=n0_;have HB:=n1_;clear n0_ n1_;(try clear hb);(try clear hb2);(try clear hk);(try clear hi))|((with_reducible refine gate_callee (f:=82) rfl ?_);refine goesL_ (some 8) rfl rfl Tryz.func82 (by kernel_rfl) rfl #[.int .i64 t309] rfl y1_ ?_;(with_reducible refine (tr_Less.calls t309 t310 _ A4.out).mono ?_);rintro e w' ⟨rfl,⟨nd,rfl⟩⟩;refine ⟨_,rfl,?_⟩))
 go_ret
 exact ⟨y2_,(by repeat (first|(with_reducible first|exact HB.out|apply below_alloc|apply pw_below_drewN|apply below_drew1|refine below_set ?_ GE308.out)|exact HB.out))⟩
end Go.Proofs.YtjahbgldccjbfaaGreatDoor.PSky
end
section
namespace Go.Proofs.YtjahbgldccjbfaaGreatDoor.PSky
open Go.RowKit Go.Proofs.YtjahbgldccjbfaaGreatDoorW.PrintWords Go.Proofs.YtjahbgldccjbfaaGreatDoorW.PrintLast Go.Proofs.YtjahbgldccjbfaaGreatDoorW.PrintMore
attribute [local go_sem] max2_int min2_int max_two min_two max_three min_three max_four min_four
set_option linter.unusedVariables false
set_option linter.unusedSimpArgs false
def sky_Check.f (k:Nat) (l0_0:List (S74)) (a0_1:Int) (a0_2:Int) (a0_3:Int):Option (Int):=(sky_isSky.f k l0_0 a0_1 a0_2 a0_3).bind fun t537=>(if t537=true then (some 0) else (some 2))
set_option maxHeartbeats 8000000 in
set_option maxRecDepth 100000 in
theorem sky_Check.calls (k:Nat) (A0_0:Option Addr) (c0_0:Nat) (l0_0:List (S74)) (a0_1:Int) (a0_2:Int) (a0_3:Int) (r:Int) (w:World) (hr0_0:Kd.C k74 w A0_0 l0_0.length l0_0) (hc0_0:l0_0.length≤c0_0) (h:sky_Check.f k l0_0 a0_1 a0_2 a0_3=some r):
  Calls Tryz.prog 40 #[.agg #[.slice A0_0 l0_0.length c0_0,.int .i64 a0_1,.int .i64 a0_2,.int .i64 a0_3]] w fun e w'=>e=.returned (.int .i64 r)∧Below w.heap.size w w':=by
 have hu29:=Tryz.underlying29
 have HR0_0:=A0_ hr0_0;have HC0_0:=A0_ hc0_0;clear hr0_0 hc0_0
 have HB:=A0_ (Below.refl w.heap.size w)
 have H:((sky_isSky.f k l0_0 a0_1 a0_2 a0_3).bind fun t537=>(if t537=true then (some 0) else (some 2)))=some r:=h
 clear h;replace H:=Option.bind_eq_some_iff.mp H;obtain ⟨t537,A20,H⟩:=H
 replace H:(if t537=true then (some 0) else (some 2))=some r:=H
 have A2:=A0_ A20;clear A20
 by_cases c3:t537=true
 ·subst c3
  have H1:(some 0)=some r:=by rw [if_pos rfl] at H;exact H
  clear H;have H:=H1;clear H1;obtain rfl:=Option.some.inj H
  go_enter Tryz.func40,Tryz.ntmps40
  go_wp2_with (first|((with_reducible refine gate_dst (N:=1) rfl ?_);refine box_event ?hg (N:=1) ?hd (cs:=#[.slice A0_0 l0_0.length c0_0,.int .i64 a0_1,.int .i64 a0_2,.int .i64 a0_3]) (t:=29) ?hr ?_;(case hd=>rfl);(case hg=>rfl);(case hr=>first|(go_simp;done)|(go_simp;rfl));intro gb536 hg w4 hbox hb;have n0_:=A0_ (below_step y0_ hb);have n1_:=A0_ (hbox);have n2_:=A0_ ((by rw [hg];exact (below_size y0_):w.heap.size≤gb536));have n3_:=A0_ ((by rw [hg];exact (below_size y0_):w.heap.size≤gb536));clear HB;have HB:=n0_;have BK536:=n1_;have GW536:=n2_;have GE536:=n3_;clear n0_ n1_ n2_ n3_;clear hb hbox hg;obtain ⟨hcz5_0,hcz5_1,hcz5_2,hcz5_3,hfz5_0,hfz5_1,hfz5_2,hfz5_3⟩:=bq4_ BK536.out)|((with_reducible refine gate_callee (f:=62) rfl ?_);refine goesL_ (some 4) rfl rfl Tryz.func62 (by kernel_rfl) rfl #[.agg #[.slice A0_0 l0_0.length c0_0,.int .i64 a0_1,.int .i64 a0_2,.int .i64 a0_3]] rfl y1_ ?_;(with_reducible refine (sky_isSky.calls k _ _ l0_0 a0_1 a0_2 a0_3 true _ ?side1 ?side2 A2.out).mono ?_);(case side1=>repeat (first|exact (Kd.C_below HR0_0.out HB.out)|(with_reducible refine Kd.C_alloc ?_ _)|(with_reducible refine Kd.C_drewN ?_ _)|(with_reducible refine Kd.C_drew ?_)));(case side2=>exact HC0_0.out);rintro e w6 ⟨rfl,hb⟩;refine ⟨_,rfl,?_⟩;have n0_:=A0_ (blk_below (g:=gb536) (o:=.cells #[.slice A0_0 l0_0.length c0_0,.int .i64 a0_1,.int .i64 a0_2,.int .i64 a0_3] 29 (0,0)) (bd_ BK536.out) hb);have n1_:=A0_ (below_step (by repeat (first|(with_reducible first|exact HB.out|apply below_alloc|apply pw_below_drewN|apply below_drew1|refine below_set ?_ GE536.out)|exact HB.out)) hb);clear BK536;clear HB;have BK536:=n0_;have HB:=n1_;clear n0_ n1_;(try clear hb);(try clear hb2);(try clear hk);(try clear hi)))
  go_ret
  exact ⟨y2_,(by repeat (first|(with_reducible first|exact HB.out|apply below_alloc|apply pw_below_drewN|apply below_drew1|refine below_set ?_ GE536.out)|exact HB.out))⟩
 ·replace c3:=Bool.eq_false_iff.mpr c3;subst c3
  have H1:(some 2)=some r:=by rw [if_neg (show ¬ (false=true) by decide)] at H;exact H
  clear H;have H:=H1;clear H1;obtain rfl:=Option.some.inj H
  go_enter Tryz.func40,Tryz.ntmps40
  go_wp2_with (first|((with_reducible refine gate_dst (N:=1) rfl ?_);refine box_event ?hg (N:=1) ?hd (cs:=#[.slice A0_0 l0_0.length c0_0,.int .i64 a0_1,.int .i64 a0_2,.int .i64 a0_3]) (t:=29) ?hr ?_;(case hd=>rfl);(case hg=>rfl);(case hr=>first|(go_simp;done)|(go_simp;rfl));intro gb536 hg w7 hbox hb;have n0_:=A0_ (below_step y0_ hb);have n1_:=A0_ (hbox);have n2_:=A0_ ((by rw [hg];exact (below_size y0_):w.heap.size≤gb536));have n3_:=A0_ ((by rw [hg];exact (below_size y0_):w.heap.size≤gb536));clear HB;have HB:=n0_;have BK536:=n1_;have GW536:=n2_;have GE536:=n3_;clear n0_ n1_ n2_ n3_;clear hb hbox hg;obtain ⟨hcz8_0,hcz8_1,hcz8_2,hcz8_3,hfz8_0,hfz8_1,hfz8_2,hfz8_3⟩:=bq4_ BK536.out)|((with_reducible refine gate_callee (f:=62) rfl ?_);refine goesL_ (some 4) rfl rfl Tryz.func62 (by kernel_rfl) rfl #[.agg #[.slice A0_0 l0_0.length c0_0,.int .i64 a0_1,.int .i64 a0_2,.int .i64 a0_3]] rfl y1_ ?_;(with_reducible refine (sky_isSky.calls k _ _ l0_0 a0_1 a0_2 a0_3 false _ ?side1 ?side2 A2.out).mono ?_);(case side1=>repeat (first|exact (Kd.C_below HR0_0.out HB.out)|(with_reducible refine Kd.C_alloc ?_ _)|(with_reducible refine Kd.C_drewN ?_ _)|(with_reducible refine Kd.C_drew ?_)));(case side2=>exact HC0_0.out);rintro e w9 ⟨rfl,hb⟩;refine ⟨_,rfl,?_⟩;have n0_:=A0_ (blk_below (g:=gb536) (o:=.cells #[.slice A0_0 l0_0.length c0_0,.int .i64 a0_1,.int .i64 a0_2,.int .i64 a0_3] 29 (0,0)) (bd_ BK536.out) hb);have n1_:=A0_ (below_step (by repeat (first|(with_reducible first|exact HB.out|apply below_alloc|apply pw_below_drewN|apply below_drew1|refine below_set ?_ GE536.out)|exact HB.out)) hb);clear BK536;clear HB;have BK536:=n0_;have HB:=n1_;clear n0_ n1_;(try clear hb);(try clear hb2);(try clear hk);(try clear hi)))
  go_ret
  exact ⟨y2_,(by repeat (first|(with_reducible first|exact HB.out|apply below_alloc|apply pw_below_drewN|apply below_drew1|refine below_set ?_ GE536.out)|exact HB.out))⟩
def sky_Mean.j0:Nat→Int→Int→Bool→List (S74)→Int→Int→Int→Option (Int × Int)
 |0,_,_,_,_,_,_,_=>none
 |k+1,x1,x2,x21,x539000,x539001,x539002,x539003=>if x21=true then (some (0,2)) else ((ss_mean.f k x539000 x539001 x539002 x539003 x2 x1).bind fun t542=>((sky_around.f t542).bind fun t543=>(some (t543,0))))
def sky_Mean.f (k:Nat) (l0_0:List (S74)) (a0_1:Int) (a0_2:Int) (a0_3:Int) (a1:Int) (a2:Int):Option (Int × Int):=(sky_isSky.f k l0_0 a0_1 a0_2 a0_3).bind fun t539=>(if t539=true then ((sky_isBody.f l0_0 a0_1 a0_2 a0_3 a1).bind fun t540=>(if t540=true then ((sky_isDay.f a2).bind fun t541=>(sky_Mean.j0 k a1 a2 (!t541) l0_0 a0_1 a0_2 a0_3)) else (sky_Mean.j0 k a1 a2 true l0_0 a0_1 a0_2 a0_3))) else (sky_Mean.j0 k a1 a2 true l0_0 a0_1 a0_2 a0_3))
set_option maxHeartbeats 8000000 in
set_option maxRecDepth 100000 in
theorem sky_Mean.calls (k:Nat) (A0_0:Option Addr) (c0_0:Nat) (l0_0:List (S74)) (a0_1:Int) (a0_2:Int) (a0_3:Int) (a1:Int) (a2:Int) (r1:Int) (r2:Int) (w:World) (hr0_0:Kd.C k74 w A0_0 l0_0.length l0_0) (hc0_0:l0_0.length≤c0_0) (h:sky_Mean.f k l0_0 a0_1 a0_2 a0_3 a1 a2=some (r1,r2)):
  Calls Tryz.prog 41 #[.agg #[.slice A0_0 l0_0.length c0_0,.int .i64 a0_1,.int .i64 a0_2,.int .i64 a0_3],.int .i64 a1,.int .i64 a2] w fun e w'=>e=.returned (.tuple #[.int .i64 r1,.int .i64 r2])∧Below w.heap.size w w':=by
 have hu29:=Tryz.underlying29
 have hu112:=Tryz.underlying112
 have HR0_0:=A0_ hr0_0;have HC0_0:=A0_ hc0_0;clear hr0_0 hc0_0
 have HB:=A0_ (Below.refl w.heap.size w)
 have H:((sky_isSky.f k l0_0 a0_1 a0_2 a0_3).bind fun t539=>(if t539=true then ((sky_isBody.f l0_0 a0_1 a0_2 a0_3 a1).bind fun t540=>(if t540=true then ((sky_isDay.f a2).bind fun t541=>(sky_Mean.j0 k a1 a2 (!t541) l0_0 a0_1 a0_2 a0_3)) else (sky_Mean.j0 k a1 a2 true l0_0 a0_1 a0_2 a0_3))) else (sky_Mean.j0 k a1 a2 true l0_0 a0_1 a0_2 a0_3)))=some (r1,r2):=h
 clear h;have HC4:=A0_ H;clear H
 go_enter Tryz.func41,Tryz.ntmps41
 go_upto_region 1 with (first|((with_reducible refine gate_dst (N:=3) rfl ?_);refine box_event ?hg (N:=3) ?hd (cs:=#[.slice A0_0 l0_0.length c0_0,.int .i64 a0_1,.int .i64 a0_2,.int .i64 a0_3]) (t:=29) ?hr ?_;(case hd=>rfl);(case hg=>rfl);(case hr=>first|(go_simp;done)|(go_simp;rfl));intro gb538 hg w5 hbox hb;have n0_:=A0_ (below_step y0_ hb);have n1_:=A0_ (hbox);have n2_:=A0_ ((by rw [hg];exact (below_size y0_):w.heap.size≤gb538));have n3_:=A0_ ((by rw [hg];exact (below_size y0_):w.heap.size≤gb538));clear HB;have HB:=n0_;have BK538:=n1_;have GW538:=n2_;have GE538:=n3_;clear n0_ n1_ n2_ n3_;clear hb hbox hg))
 (try simp only [Act.put,List.setIfInBounds_toArray,List.set_cons_zero,List.set_cons_succ])
 go_cut [21] (fun v21 wc=>∃ (kq:Nat) (x21_3:Bool),v21=.bool x21_3∧Aside0 (sky_Mean.j0 kq a1 a2 x21_3 l0_0 a0_1 a0_2 a0_3=some (r1,r2))∧Aside0 (kq≤k)∧Aside0 (wc.heap[gb538]?=some (.cells #[(.slice A0_0 l0_0.length c0_0),.int .i64 a0_1,.int .i64 a0_2,.int .i64 a0_3] 29 (0,0)))∧Aside0 (Below w.heap.size w wc))
 case first=>
  have H:=HC4.out
  clear HC4;replace H:=Option.bind_eq_some_iff.mp H;obtain ⟨t539,A60,H⟩:=H
  replace H:(if t539=true then ((sky_isBody.f l0_0 a0_1 a0_2 a0_3 a1).bind fun t540=>(if t540=true then ((sky_isDay.f a2).bind fun t541=>(sky_Mean.j0 k a1 a2 (!t541) l0_0 a0_1 a0_2 a0_3)) else (sky_Mean.j0 k a1 a2 true l0_0 a0_1 a0_2 a0_3))) else (sky_Mean.j0 k a1 a2 true l0_0 a0_1 a0_2 a0_3))=some (r1,r2):=H
  have A6:=A0_ A60;clear A60
  by_cases c7:t539=true
  ·subst c7
   have H1:((sky_isBody.f l0_0 a0_1 a0_2 a0_3 a1).bind fun t540=>(if t540=true then ((sky_isDay.f a2).bind fun t541=>(sky_Mean.j0 k a1 a2 (!t541) l0_0 a0_1 a0_2 a0_3)) else (sky_Mean.j0 k a1 a2 true l0_0 a0_1 a0_2 a0_3)))=some (r1,r2):=by rw [if_pos rfl] at H;exact H
   clear H;have H:=H1;clear H1;replace H:=Option.bind_eq_some_iff.mp H;obtain ⟨t540,A80,H⟩:=H
   replace H:(if t540=true then ((sky_isDay.f a2).bind fun t541=>(sky_Mean.j0 k a1 a2 (!t541) l0_0 a0_1 a0_2 a0_3)) else (sky_Mean.j0 k a1 a2 true l0_0 a0_1 a0_2 a0_3))=some (r1,r2):=H
   have A8:=A0_ A80;clear A80
   by_cases c9:t540=true
   ·subst c9
    have H1:((sky_isDay.f a2).bind fun t541=>(sky_Mean.j0 k a1 a2 (!t541) l0_0 a0_1 a0_2 a0_3))=some (r1,r2):=by rw [if_pos rfl] at H;exact H
    clear H;have H:=H1;clear H1;replace H:=Option.bind_eq_some_iff.mp H;obtain ⟨t541,A100,H⟩:=H
    replace H:(sky_Mean.j0 k a1 a2 (!t541) l0_0 a0_1 a0_2 a0_3)=some (r1,r2):=H
    have A10:=A0_ A100;clear A100
    have H':=A0_ H
    clear H;obtain ⟨hcz11_0,hcz11_1,hcz11_2,hcz11_3,hfz11_0,hfz11_1,hfz11_2,hfz11_3⟩:=bq4_ BK538.out
    go_wp2_with (first|((with_reducible refine gate_callee (f:=62) rfl ?_);refine goesL_ (some 9) rfl rfl Tryz.func62 (by kernel_rfl) rfl #[.agg #[.slice A0_0 l0_0.length c0_0,.int .i64 a0_1,.int .i64 a0_2,.int .i64 a0_3]] rfl y1_ ?_;(with_reducible refine (sky_isSky.calls k _ _ l0_0 a0_1 a0_2 a0_3 true _ ?side1 ?side2 A6.out).mono ?_);(case side1=>repeat (first|exact (Kd.C_below HR0_0.out HB.out)|(with_reducible refine Kd.C_alloc ?_ _)|(with_reducible refine Kd.C_drewN ?_ _)|(with_reducible refine Kd.C_drew ?_)));(case side2=>exact HC0_0.out);rintro e w12 ⟨rfl,hb⟩;refine ⟨_,rfl,?_⟩;have n0_:=A0_ (blk_below (g:=gb538) (o:=.cells #[.slice A0_0 l0_0.length c0_0,.int .i64 a0_1,.int .i64 a0_2,.int .i64 a0_3] 29 (0,0)) (bd_ BK538.out) hb);have n1_:=A0_ (below_step (by repeat (first|(with_reducible first|exact HB.out|apply below_alloc|apply pw_below_drewN|apply below_drew1|refine below_set ?_ GE538.out)|exact HB.out)) hb);clear BK538;clear HB;have BK538:=n0_;have HB:=n1_;clear n0_ n1_;(try clear hb);(try clear hb2);(try clear hk);(try clear hi);obtain ⟨hcz13_0,hcz13_1,hcz13_2,hcz13_3,hfz13_0,hfz13_1,hfz13_2,hfz13_3⟩:=bq4_ BK538.out)|(go_at_call 78;(with_reducible refine (sky_isBody.calls _ _ l0_0 a0_1 a0_2 a0_3 a1 true _ ?side1 ?side2 A8.out).mono ?_);(case side1=>repeat (first|exact (Kd.C_below HR0_0.out HB.out)|(with_reducible refine Kd.C_alloc ?_ _)|(with_reducible refine Kd.C_drewN ?_ _)|(with_reducible refine Kd.C_drew ?_)));(case side2=>exact HC0_0.out);rintro e w14 ⟨rfl,hb⟩;have n0_:=A0_ (blk_below (g:=gb538) (o:=.cells #[.slice A0_0 l0_0.length c0_0,.int .i64 a0_1,.int .i64 a0_2,.int .i64 a0_3] 29 (0,0)) (bd_ BK538.out) hb);have n1_:=A0_ (below_step (by repeat (first|(with_reducible first|exact HB.out|apply below_alloc|apply pw_below_drewN|apply below_drew1|refine below_set ?_ GE538.out)|exact HB.out)) hb);clear BK538;clear HB;have BK538:=n0_;have HB:=n1_;clear n0_ n1_;(try clear hb);(try clear hb2);(try clear hk);(try clear hi))|(go_at_call 79;(with_reducible refine (sky_isDay.calls a2 t541 _ A10.out).mono ?_);rintro e w' ⟨rfl,⟨nd,rfl⟩⟩))
    go_meet
    case rel=>exact ⟨_,(!t541),y4_,H',⟨by first|omega|exact Nat.le_refl _⟩,⟨by (with_reducible repeat (first|refine blk_drewN ?_ _|refine blk_drew ?_|refine blk_alloc ?_ _));exact BK538.out⟩,⟨(by repeat (first|(with_reducible first|exact HB.out|apply below_alloc|apply pw_below_drewN|apply below_drew1|refine below_set ?_ GE538.out)|exact HB.out))⟩⟩
   ·replace c9:=Bool.eq_false_iff.mpr c9;subst c9
    have H1:(sky_Mean.j0 k a1 a2 true l0_0 a0_1 a0_2 a0_3)=some (r1,r2):=by rw [if_neg (show ¬ (false=true) by decide)] at H;exact H
    clear H;have H:=H1;clear H1
    have H':=A0_ H
    clear H;obtain ⟨hcz15_0,hcz15_1,hcz15_2,hcz15_3,hfz15_0,hfz15_1,hfz15_2,hfz15_3⟩:=bq4_ BK538.out
    go_wp2_with (first|((with_reducible refine gate_callee (f:=62) rfl ?_);refine goesL_ (some 9) rfl rfl Tryz.func62 (by kernel_rfl) rfl #[.agg #[.slice A0_0 l0_0.length c0_0,.int .i64 a0_1,.int .i64 a0_2,.int .i64 a0_3]] rfl y1_ ?_;(with_reducible refine (sky_isSky.calls k _ _ l0_0 a0_1 a0_2 a0_3 true _ ?side1 ?side2 A6.out).mono ?_);(case side1=>repeat (first|exact (Kd.C_below HR0_0.out HB.out)|(with_reducible refine Kd.C_alloc ?_ _)|(with_reducible refine Kd.C_drewN ?_ _)|(with_reducible refine Kd.C_drew ?_)));(case side2=>exact HC0_0.out);rintro e w16 ⟨rfl,hb⟩;refine ⟨_,rfl,?_⟩;have n0_:=A0_ (blk_below (g:=gb538) (o:=.cells #[.slice A0_0 l0_0.length c0_0,.int .i64 a0_1,.int .i64 a0_2,.int .i64 a0_3] 29 (0,0)) (bd_ BK538.out) hb);have n1_:=A0_ (below_step (by repeat (first|(with_reducible first|exact HB.out|apply below_alloc|apply pw_below_drewN|apply below_drew1|refine below_set ?_ GE538.out)|exact HB.out)) hb);clear BK538;clear HB;have BK538:=n0_;have HB:=n1_;clear n0_ n1_;(try clear hb);(try clear hb2);(try clear hk);(try clear hi);obtain ⟨hcz17_0,hcz17_1,hcz17_2,hcz17_3,hfz17_0,hfz17_1,hfz17_2,hfz17_3⟩:=bq4_ BK538.out)|(go_at_call 78;(with_reducible refine (sky_isBody.calls _ _ l0_0 a0_1 a0_2 a0_3 a1 false _ ?side1 ?side2 A8.out).mono ?_);(case side1=>repeat (first|exact (Kd.C_below HR0_0.out HB.out)|(with_reducible refine Kd.C_alloc ?_ _)|(with_reducible refine Kd.C_drewN ?_ _)|(with_reducible refine Kd.C_drew ?_)));(case side2=>exact HC0_0.out);rintro e w18 ⟨rfl,hb⟩;have n0_:=A0_ (blk_below (g:=gb538) (o:=.cells #[.slice A0_0 l0_0.length c0_0,.int .i64 a0_1,.int .i64 a0_2,.int .i64 a0_3] 29 (0,0)) (bd_ BK538.out) hb);have n1_:=A0_ (below_step (by repeat (first|(with_reducible first|exact HB.out|apply below_alloc|apply pw_below_drewN|apply below_drew1|refine below_set ?_ GE538.out)|exact HB.out)) hb);clear BK538;clear HB;have BK538:=n0_;have HB:=n1_;clear n0_ n1_;(try clear hb);(try clear hb2);(try clear hk);(try clear hi)))
    go_meet
    case rel=>exact ⟨_,(true),y4_,H',⟨by first|omega|exact Nat.le_refl _⟩,⟨by (with_reducible repeat (first|refine blk_drewN ?_ _|refine blk_drew ?_|refine blk_alloc ?_ _));exact BK538.out⟩,⟨(by repeat (first|(with_reducible first|exact HB.out|apply below_alloc|apply pw_below_drewN|apply below_drew1|refine below_set ?_ GE538.out)|exact HB.out))⟩⟩
  ·replace c7:=Bool.eq_false_iff.mpr c7;subst c7
   have H1:(sky_Mean.j0 k a1 a2 true l0_0 a0_1 a0_2 a0_3)=some (r1,r2):=by rw [if_neg (show ¬ (false=true) by decide)] at H;exact H
   clear H;have H:=H1;clear H1
   have H':=A0_ H
   clear H;obtain ⟨hcz19_0,hcz19_1,hcz19_2,hcz19_3,hfz19_0,hfz19_1,hfz19_2,hfz19_3⟩:=bq4_ BK538.out
   go_wp2_with (first|((with_reducible refine gate_callee (f:=62) rfl ?_);refine goesL_ (some 9) rfl rfl Tryz.func62 (by kernel_rfl) rfl #[.agg #[.slice A0_0 l0_0.length c0_0,.int .i64 a0_1,.int .i64 a0_2,.int .i64 a0_3]] rfl y1_ ?_;(with_reducible refine (sky_isSky.calls k _ _ l0_0 a0_1 a0_2 a0_3 false _ ?side1 ?side2 A6.out).mono ?_);(case side1=>repeat (first|exact (Kd.C_below HR0_0.out HB.out)|(with_reducible refine Kd.C_alloc ?_ _)|(with_reducible refine Kd.C_drewN ?_ _)|(with_reducible refine Kd.C_drew ?_)));(case side2=>exact HC0_0.out);rintro e w20 ⟨rfl,hb⟩;refine ⟨_,rfl,?_⟩;have n0_:=A0_ (blk_below (g:=gb538) (o:=.cells #[.slice A0_0 l0_0.length c0_0,.int .i64 a0_1,.int .i64 a0_2,.int .i64 a0_3] 29 (0,0)) (bd_ BK538.out) hb);have n1_:=A0_ (below_step (by repeat (first|(with_reducible first|exact HB.out|apply below_alloc|apply pw_below_drewN|apply below_drew1|refine below_set ?_ GE538.out)|exact HB.out)) hb);clear BK538;clear HB;have BK538:=n0_;have HB:=n1_;clear n0_ n1_;(try clear hb);(try clear hb2);(try clear hk);(try clear hi)))
   go_meet
   case rel=>exact ⟨_,(true),y4_,H',⟨by first|omega|exact Nat.le_refl _⟩,⟨by (with_reducible repeat (first|refine blk_drewN ?_ _|refine blk_drew ?_|refine blk_alloc ?_ _));exact BK538.out⟩,⟨(by repeat (first|(with_reducible first|exact HB.out|apply below_alloc|apply pw_below_drewN|apply below_drew1|refine below_set ?_ GE538.out)|exact HB.out))⟩⟩
 case rest=>
  clear HC4;(try clear p2);(try clear c4);(try clear c6);(try clear c7);(try clear c9);(try clear hcz11_0);(try clear hcz11_1);(try clear hcz11_2);(try clear hcz11_3);(try clear hcz13_0);(try clear hcz13_1);(try clear hcz13_2);(try clear hcz13_3);(try clear hcz15_0);(try clear hcz15_1);(try clear hcz15_2);(try clear hcz15_3);(try clear hcz17_0);(try clear hcz17_1);(try clear hcz17_2);(try clear hcz17_3);(try clear hcz19_0);(try clear hcz19_1);(try clear hcz19_2);(try clear hcz19_3);(try clear hfz11_0);(try clear hfz11_1);(try clear hfz11_2);(try clear hfz11_3);(try clear hfz13_0);(try clear hfz13_1);(try clear hfz13_2);(try clear hfz13_3);(try clear hfz15_0);(try clear hfz15_1);(try clear hfz15_2);(try clear hfz15_3);(try clear hfz17_0);(try clear hfz17_1);(try clear hfz17_2);(try clear hfz17_3);(try clear hfz19_0);(try clear hfz19_1);(try clear hfz19_2);(try clear hfz19_3)
  obtain ⟨kq,x21_3,rfl,HA,HJ3,BK538,HB⟩:=hcut
  cases kq with
  |zero=>exact absurd HA.out (by simp [sky_Mean.j0])
  |succ kj3=>
   have H:=HA.out
   clear HA
   simp only [sky_Mean.j0] at H
   by_cases c21:x21_3=true
   ·subst c21
    have H1:(some (0,2))=some (r1,r2):=by rw [if_pos rfl] at H;exact H
    clear H;have H:=H1;clear H1
    simp only [Option.some.injEq,Prod.mk.injEq] at H
    obtain ⟨rfl,rfl⟩:=H;go_wp2
    go_ret2
    exact ⟨y2_,(by repeat (first|(with_reducible first|exact HB.out|apply below_alloc|apply pw_below_drewN|apply below_drew1|refine below_set ?_ GE538.out)|exact HB.out))⟩
   ·replace c21:=Bool.eq_false_iff.mpr c21;subst c21
    have H1:((ss_mean.f kj3 l0_0 a0_1 a0_2 a0_3 a2 a1).bind fun t542=>((sky_around.f t542).bind fun t543=>(some (t543,0))))=some (r1,r2):=by rw [if_neg (show ¬ (false=true) by decide)] at H;exact H
    clear H;have H:=H1;clear H1;replace H:=Option.bind_eq_some_iff.mp H;obtain ⟨t542,A220,H⟩:=H
    replace H:((sky_around.f t542).bind fun t543=>(some (t543,0)))=some (r1,r2):=H
    have A22:=A0_ A220;clear A220;replace H:=Option.bind_eq_some_iff.mp H;obtain ⟨t543,A230,H⟩:=H
    replace H:(some (t543,0))=some (r1,r2):=H
    have A23:=A0_ A230;clear A230
    simp only [Option.some.injEq,Prod.mk.injEq] at H
    obtain ⟨rfl,rfl⟩:=H;obtain ⟨hcz24_0,hcz24_1,hcz24_2,hcz24_3,hfz24_0,hfz24_1,hfz24_2,hfz24_3⟩:=bq4_ BK538.out
    go_wp2_with (first|((with_reducible refine gate_callee (f:=94) rfl ?_);refine goesL_ (some 26) rfl rfl Tryz.func94 (by kernel_rfl) rfl #[.agg #[.slice A0_0 l0_0.length c0_0,.int .i64 a0_1,.int .i64 a0_2,.int .i64 a0_3,.int .i64 a2],.int .i64 a1] rfl y1_ ?_;(with_reducible refine (ss_mean.calls kj3 _ _ l0_0 a0_1 a0_2 a0_3 a2 a1 t542 _ ?side1 ?side2 A22.out).mono ?_);(case side1=>repeat (first|exact (Kd.C_below HR0_0.out HB.out)|(with_reducible refine Kd.C_alloc ?_ _)|(with_reducible refine Kd.C_drewN ?_ _)|(with_reducible refine Kd.C_drew ?_)));(case side2=>exact HC0_0.out);rintro e w25 ⟨rfl,hb⟩;refine ⟨_,rfl,?_⟩;have n0_:=A0_ (blk_below (g:=gb538) (o:=.cells #[.slice A0_0 l0_0.length c0_0,.int .i64 a0_1,.int .i64 a0_2,.int .i64 a0_3] 29 (0,0)) (bd_ BK538.out) hb);have n1_:=A0_ (below_step (by repeat (first|(with_reducible first|exact HB.out|apply below_alloc|apply pw_below_drewN|apply below_drew1|refine below_set ?_ GE538.out)|exact HB.out)) hb);clear BK538;clear HB;have BK538:=n0_;have HB:=n1_;clear n0_ n1_;(try clear hb);(try clear hb2);(try clear hk);(try clear hi))|((with_reducible refine gate_callee (f:=80) rfl ?_);refine goesL_ (some 27) rfl rfl Tryz.func80 (by kernel_rfl) rfl #[.int .i64 t542] rfl y1_ ?_;(with_reducible refine (sky_around.calls t542 t543 _ A23.out).mono ?_);rintro e w' ⟨rfl,⟨nd,rfl⟩⟩;refine ⟨_,rfl,?_⟩))
    go_ret2
    exact ⟨y2_,(by repeat (first|(with_reducible first|exact HB.out|apply below_alloc|apply pw_below_drewN|apply below_drew1|refine below_set ?_ GE538.out)|exact HB.out))⟩
def tr_Node.f (a0_0:Int) (a0_1:Int) (a0_2:Int) (a1:Int):Option (Int):=if a0_0=0 then (none) else ((tr_Less.f (wrap64 (a0_2 - (wrap64 (Int.tdiv (wrap64 ((wrap64 (a1*21600))*a0_1)) a0_0))))).bind fun t553=>(some t553))
set_option maxHeartbeats 8000000 in
set_option maxRecDepth 100000 in
theorem tr_Node.calls (a0_0:Int) (a0_1:Int) (a0_2:Int) (a1:Int) (r:Int) (w:World) (h:tr_Node.f a0_0 a0_1 a0_2 a1=some r):
  Calls Tryz.prog 45 #[.agg #[.int .i64 a0_0,.int .i64 a0_1,.int .i64 a0_2],.int .i64 a1] w fun e w'=>e=.returned (.int .i64 r)∧Below w.heap.size w w':=by
 have hu27:=Tryz.underlying27
 have HB:=A0_ (Below.refl w.heap.size w)
 have H:(if a0_0=0 then (none) else ((tr_Less.f (wrap64 (a0_2 - (wrap64 (Int.tdiv (wrap64 ((wrap64 (a1*21600))*a0_1)) a0_0))))).bind fun t553=>(some t553)))=some r:=h
 clear h
 by_cases c3:a0_0=0
 ·rw [if_pos c3] at H;exact absurd H (by simp)
 ·rw [if_neg c3] at H
  have c3b0:(a0_0 == 0)=false:=beq_eq_false_iff_ne.mpr c3
  have c3b1:(a0_0 != 0)=true:=bne_iff_ne.mpr c3
  replace H:=Option.bind_eq_some_iff.mp H;obtain ⟨t553,A40,H⟩:=H
  replace H:(some t553)=some r:=H
  have A4:=A0_ A40;clear A40;obtain rfl:=Option.some.inj H
  go_enter Tryz.func45,Tryz.ntmps45
  go_wp2_with (first|((with_reducible refine gate_dst (N:=2) rfl ?_);refine box_event ?hg (N:=2) ?hd (cs:=#[.int .i64 a0_0,.int .i64 a0_1,.int .i64 a0_2]) (t:=27) ?hr ?_;(case hd=>rfl);(case hg=>rfl);(case hr=>first|(go_simp;done)|(go_simp;rfl));intro gb552 hg w5 hbox hb;have n0_:=A0_ (below_step y0_ hb);have n1_:=A0_ (hbox);have n2_:=A0_ ((by rw [hg];exact (below_size y0_):w.heap.size≤gb552));have n3_:=A0_ ((by rw [hg];exact (below_size y0_):w.heap.size≤gb552));clear HB;have HB:=n0_;have BK552:=n1_;have GW552:=n2_;have GE552:=n3_;clear n0_ n1_ n2_ n3_;clear hb hbox hg;obtain ⟨hcz6_0,hcz6_1,hcz6_2,hfz6_0,hfz6_1,hfz6_2⟩:=bq3_ BK552.out)|(go_at_call 82;(with_reducible refine (tr_Less.calls (wrap64 (a0_2 - (wrap64 (Int.tdiv (wrap64 ((wrap64 (a1*21600))*a0_1)) a0_0)))) t553 _ A4.out).mono ?_);rintro e w' ⟨rfl,⟨nd,rfl⟩⟩;(try first|exact ⟨rfl,_,World.drewN_drewN _ _ _⟩|exact ⟨rfl,_,Eq.trans (World.drewN_drewN _ _ _) (congrArg (World.drewN _) (Nat.add_assoc _ _ _))⟩)))
  repeat (go_quiet (first|((with_reducible refine gate_dst (N:=2) rfl ?_);refine box_event ?hg (N:=2) ?hd (cs:=#[.int .i64 a0_0,.int .i64 a0_1,.int .i64 a0_2]) (t:=27) ?hr ?_;(case hd=>rfl);(case hg=>rfl);(case hr=>first|(go_simp;done)|(go_simp;rfl));intro gb552 hg w5 hbox hb;have n0_:=A0_ (below_step y0_ hb);have n1_:=A0_ (hbox);have n2_:=A0_ ((by rw [hg];exact (below_size y0_):w.heap.size≤gb552));have n3_:=A0_ ((by rw [hg];exact (below_size y0_):w.heap.size≤gb552));clear HB;have HB:=n0_;have BK552:=n1_;have GW552:=n2_;have GE552:=n3_;clear n0_ n1_ n2_ n3_;clear hb hbox hg;obtain ⟨hcz6_0,hcz6_1,hcz6_2,hfz6_0,hfz6_1,hfz6_2⟩:=bq3_ BK552.out)|(go_at_call 82;(with_reducible refine (tr_Less.calls (wrap64 (a0_2 - (wrap64 (Int.tdiv (wrap64 ((wrap64 (a1*21600))*a0_1)) a0_0)))) t553 _ A4.out).mono ?_);rintro e w' ⟨rfl,⟨nd,rfl⟩⟩;(try first|exact ⟨rfl,_,World.drewN_drewN _ _ _⟩|exact ⟨rfl,_,Eq.trans (World.drewN_drewN _ _ _) (congrArg (World.drewN _) (Nat.add_assoc _ _ _))⟩)));try go_wp2_with (first|((with_reducible refine gate_dst (N:=2) rfl ?_);refine box_event ?hg (N:=2) ?hd (cs:=#[.int .i64 a0_0,.int .i64 a0_1,.int .i64 a0_2]) (t:=27) ?hr ?_;(case hd=>rfl);(case hg=>rfl);(case hr=>first|(go_simp;done)|(go_simp;rfl));intro gb552 hg w5 hbox hb;have n0_:=A0_ (below_step y0_ hb);have n1_:=A0_ (hbox);have n2_:=A0_ ((by rw [hg];exact (below_size y0_):w.heap.size≤gb552));have n3_:=A0_ ((by rw [hg];exact (below_size y0_):w.heap.size≤gb552));clear HB;have HB:=n0_;have BK552:=n1_;have GW552:=n2_;have GE552:=n3_;clear n0_ n1_ n2_ n3_;clear hb hbox hg;obtain ⟨hcz6_0,hcz6_1,hcz6_2,hfz6_0,hfz6_1,hfz6_2⟩:=bq3_ BK552.out)|(go_at_call 82;(with_reducible refine (tr_Less.calls (wrap64 (a0_2 - (wrap64 (Int.tdiv (wrap64 ((wrap64 (a1*21600))*a0_1)) a0_0)))) t553 _ A4.out).mono ?_);rintro e w' ⟨rfl,⟨nd,rfl⟩⟩;(try first|exact ⟨rfl,_,World.drewN_drewN _ _ _⟩|exact ⟨rfl,_,Eq.trans (World.drewN_drewN _ _ _) (congrArg (World.drewN _) (Nat.add_assoc _ _ _))⟩))))
  go_ret
  exact ⟨y2_,(by repeat (first|(with_reducible first|exact HB.out|apply below_alloc|apply pw_below_drewN|apply below_drew1|refine below_set ?_ GE552.out)|exact HB.out))⟩
def tr_Between.f (l0_0:List (S74)) (a0_1:Int) (a0_2:Int) (a0_3:Int) (a1:Int) (a2:Int) (a3:Int):Option (Int):=(tr_ahead.f l0_0 a0_1 a0_2 a0_3 a1 a2 a3).bind fun t555=>((tr_Less.f t555).bind fun t556=>(some t556))
set_option maxHeartbeats 8000000 in
set_option maxRecDepth 100000 in
theorem tr_Between.calls (A0_0:Option Addr) (c0_0:Nat) (l0_0:List (S74)) (a0_1:Int) (a0_2:Int) (a0_3:Int) (a1:Int) (a2:Int) (a3:Int) (r:Int) (w:World) (hr0_0:Kd.C k74 w A0_0 l0_0.length l0_0) (hc0_0:l0_0.length≤c0_0) (h:tr_Between.f l0_0 a0_1 a0_2 a0_3 a1 a2 a3=some r):
  Calls Tryz.prog 48 #[.agg #[.slice A0_0 l0_0.length c0_0,.int .i64 a0_1,.int .i64 a0_2,.int .i64 a0_3],.int .i64 a1,.int .i64 a2,.int .i64 a3] w fun e w'=>e=.returned (.int .i64 r)∧Below w.heap.size w w':=by
 have hu29:=Tryz.underlying29
 have HR0_0:=A0_ hr0_0;have HC0_0:=A0_ hc0_0;clear hr0_0 hc0_0
 have HB:=A0_ (Below.refl w.heap.size w)
 have H:((tr_ahead.f l0_0 a0_1 a0_2 a0_3 a1 a2 a3).bind fun t555=>((tr_Less.f t555).bind fun t556=>(some t556)))=some r:=h
 clear h;replace H:=Option.bind_eq_some_iff.mp H;obtain ⟨t555,A50,H⟩:=H
 replace H:((tr_Less.f t555).bind fun t556=>(some t556))=some r:=H
 have A5:=A0_ A50;clear A50;replace H:=Option.bind_eq_some_iff.mp H;obtain ⟨t556,A60,H⟩:=H
 replace H:(some t556)=some r:=H
 have A6:=A0_ A60;clear A60;obtain rfl:=Option.some.inj H
 go_enter Tryz.func48,Tryz.ntmps48
 go_wp2_with (first|((with_reducible refine gate_dst (N:=4) rfl ?_);refine box_event ?hg (N:=4) ?hd (cs:=#[.slice A0_0 l0_0.length c0_0,.int .i64 a0_1,.int .i64 a0_2,.int .i64 a0_3]) (t:=29) ?hr ?_;(case hd=>rfl);(case hg=>rfl);(case hr=>first|(go_simp;done)|(go_simp;rfl));intro gb554 hg w7 hbox hb;have n0_:=A0_ (below_step y0_ hb);have n1_:=A0_ (hbox);have n2_:=A0_ ((by rw [hg];exact (below_size y0_):w.heap.size≤gb554));have n3_:=A0_ ((by rw [hg];exact (below_size y0_):w.heap.size≤gb554));clear HB;have HB:=n0_;have BK554:=n1_;have GW554:=n2_;have GE554:=n3_;clear n0_ n1_ n2_ n3_;clear hb hbox hg;obtain ⟨hcz8_0,hcz8_1,hcz8_2,hcz8_3,hfz8_0,hfz8_1,hfz8_2,hfz8_3⟩:=bq4_ BK554.out)|((with_reducible refine gate_callee (f:=76) rfl ?_);refine goesL_ (some 13) rfl rfl Tryz.func76 (by kernel_rfl) rfl #[.agg #[.slice A0_0 l0_0.length c0_0,.int .i64 a0_1,.int .i64 a0_2,.int .i64 a0_3],.int .i64 a1,.int .i64 a2,.int .i64 a3] rfl y1_ ?_;(with_reducible refine (tr_ahead.calls _ _ l0_0 a0_1 a0_2 a0_3 a1 a2 a3 t555 _ ?side1 ?side2 A5.out).mono ?_);(case side1=>repeat (first|exact (Kd.C_below HR0_0.out HB.out)|(with_reducible refine Kd.C_alloc ?_ _)|(with_reducible refine Kd.C_drewN ?_ _)|(with_reducible refine Kd.C_drew ?_)));(case side2=>exact HC0_0.out);rintro e w9 ⟨rfl,hb⟩;refine ⟨_,rfl,?_⟩;have n0_:=A0_ (blk_below (g:=gb554) (o:=.cells #[.slice A0_0 l0_0.length c0_0,.int .i64 a0_1,.int .i64 a0_2,.int .i64 a0_3] 29 (0,0)) (bd_ BK554.out) hb);have n1_:=A0_ (below_step (by repeat (first|(with_reducible first|exact HB.out|apply below_alloc|apply pw_below_drewN|apply below_drew1|refine below_set ?_ GE554.out)|exact HB.out)) hb);clear BK554;clear HB;have BK554:=n0_;have HB:=n1_;clear n0_ n1_;(try clear hb);(try clear hb2);(try clear hk);(try clear hi))|((with_reducible refine gate_callee (f:=82) rfl ?_);refine goesL_ (some 14) rfl rfl Tryz.func82 (by kernel_rfl) rfl #[.int .i64 t555] rfl y1_ ?_;(with_reducible refine (tr_Less.calls t555 t556 _ A6.out).mono ?_);rintro e w' ⟨rfl,⟨nd,rfl⟩⟩;refine ⟨_,rfl,?_⟩))
 go_ret
 exact ⟨y2_,(by repeat (first|(with_reducible first|exact HB.out|apply below_alloc|apply pw_below_drewN|apply below_drew1|refine below_set ?_ GE554.out)|exact HB.out))⟩
end Go.Proofs.YtjahbgldccjbfaaGreatDoor.PSky
end
section
namespace Go.Proofs.YtjahbgldccjbfaaGreatDoor.PSky
open Go.RowKit Go.Proofs.YtjahbgldccjbfaaGreatDoorW.PrintWords Go.Proofs.YtjahbgldccjbfaaGreatDoorW.PrintLast Go.Proofs.YtjahbgldccjbfaaGreatDoorW.PrintMore
theorem Ev.pos {α:Type} {c:Prop} [Decidable c] {f g:Nat→Option α} {r:α} (h:c) (k:Ev f r):Ev (fun n=>if c then f n else g n) r:=by simpa only [if_pos h] using k
theorem Ev.neg {α:Type} {c:Prop} [Decidable c] {f g:Nat→Option α} {r:α} (h:¬ c) (k:Ev g r):Ev (fun n=>if c then f n else g n) r:=by simpa only [if_neg h] using k
theorem Ev.some {α:Type} (r:α):Ev (fun _=>Option.some r) r:=Ev.now r
theorem Ev.is {α:Type} {o:Option α} {r:α} (h:o=Option.some r):Ev (fun _=>o) r:=by rw [h];exact Ev.now r
theorem wrap_id {n:Int} (h:-9223372036854775808≤n∧n≤9223372036854775807):wrap64 n=n:=by unfold wrap64;omega
theorem scan {β:Type} (l:List β) (bad:β→Bool) (g:Nat→Nat→Option Int) (hlen:l.length≤1000000)
  (hyes:∀ i (h:i<l.length),bad l[i]=true→Ev (fun k=>g k i) (i:Int))
  (hno:∀ i (h:i<l.length),bad l[i]=false→∀ r,Ev (fun k=>g k (i+1)) r→Ev (fun k=>g k i) r)
  (hend:Ev (fun k=>g k l.length) (-1)):∀ m i,i+m=l.length→∃ r,Ev (fun k=>g k i) r∧decide (r ≥ 0)=(l.drop i).any bad
 |0,i,h=>⟨-1,by rw [show i=l.length by omega];exact hend,by rw [show i=l.length by omega,List.drop_length];rfl⟩
 |m+1,i,h=>by
  have hi:i<l.length:=by omega
  rw [List.drop_eq_getElem_cons hi,List.any_cons]
  cases hb:bad l[i] with
  |true=>exact ⟨i,hyes i hi hb,by simp⟩
  |false=>
   obtain ⟨r,hr,he⟩:=scan l bad g hlen hyes hno hend m (i+1) (by omega)
   exact ⟨r,hno i hi hb r hr,by simpa using he⟩
def okIn (a b c:Int):Bool:=decide (b≤a) && decide (a≤c)
theorem in_eq (a b c:Int):sky_in.f a b c=some (okIn a b c):=by
 unfold sky_in.f okIn
 by_cases h:a ≥ b
 ·rw [if_pos h,decide_eq_true (show b≤a from h),Bool.true_and]
 ·rw [if_neg h,decide_eq_false (show ¬ b≤a from h),Bool.false_and]
theorem rin_eq (a b c:Int):tr_in.f a b c=some (okIn a b c):=in_eq a b c
def okPeriod (p q:Int):Bool:=okIn p 1 10000 && (okIn q 1 10000 && decide (4*q≤p))
theorem isPeriod_eq (p q:Int):sky_isPeriod.f p q=some (okPeriod p q):=by
 unfold sky_isPeriod.f okPeriod
 simp only [in_eq,Option.bind_some]
 cases h1:okIn p 1 10000 with
 |false=>rfl
 |true=>
  cases h2:okIn q 1 10000 with
  |false=>rfl
  |true=>
   have hq:wrap64 (4*q)=4*q:=wrap_id (by simp [okIn] at h2;omega)
   rw [hq]
   rfl
theorem period_eq (p q:Int):tr_period.f p q=some (okPeriod p q):=isPeriod_eq p q
def okPlace (n:Int):Bool:=okIn n 0 21599
theorem isPlace_eq (n:Int):sky_isPlace.f n=some (okPlace n):=by unfold sky_isPlace.f;rw [in_eq];rfl
theorem Spot_eq (n:Int):tr_Spot.f n=some (okPlace n):=isPlace_eq n
def okRoad (l:List Int):Bool:=!l.any (fun n=>!okIn n (-600) 600)
def okBody (b:S74):Bool:=okPeriod b.f0.f0 b.f0.f1 && (okPlace b.f1 && (okIn (b.f2.length:Int) 1 8 && okRoad b.f2))
def okSky (l:List S74) (p q n:Int):Bool:=okIn (l.length:Int) 2 4 && (okPeriod p q && (okPlace n && !l.any (fun b=>!okBody b)))
theorem rd_get (l:List Int) (i:Nat) (h:i<l.length):rd l (i:Int)=l[i]:=by unfold rd;simp [h]
theorem rdT_get (l:List S74) (i:Nat) (h:i<l.length):rd_T74 l (i:Int)=l[i]:=by unfold rd_T74;simp [h]
theorem road_ev (l:List Int) (hl:l.length≤1000000):Ev (fun k=>cF_isSky_c1_c1.f k l) (l.any (fun n=>!okIn n (-600) 600)):=by
 obtain ⟨r,hr,he⟩:=scan l (fun n=>!okIn n (-600) 600) (fun k i=>iF_isSky_c1_c1.l0 k l (l.length:Int) (i:Int)) hl
  (fun i h hb=>by
   refine Ev.step (fun k=>by rw [iF_isSky_c1_c1.l0]) ?_
   refine Ev.pos (by omega) (Ev.pos (by omega) (Ev.pos (by omega) ?_))
   refine Ev.bind (a:=true) (Ev.is (by unfold sky_isSky_c1_c1.f;rw [in_eq,rd_get l i h];simp [hb])) ?_
   exact Ev.pos rfl (Ev.now _))
  (fun i h hb r hr=>by
   refine Ev.step (fun k=>by rw [iF_isSky_c1_c1.l0]) ?_
   refine Ev.pos (by omega) (Ev.pos (by omega) (Ev.pos (by omega) ?_))
   refine Ev.bind (a:=false) (Ev.is (by unfold sky_isSky_c1_c1.f;rw [in_eq,rd_get l i h];simp [hb])) ?_
   refine Ev.neg (by simp) ?_
   rw [wrap_id (by omega)]
   exact hr)
  (by
   refine Ev.step (fun k=>by rw [iF_isSky_c1_c1.l0]) ?_
   exact Ev.neg (by omega) (Ev.now _)) l.length 0 (by omega)
 unfold cF_isSky_c1_c1.f iF_isSky_c1_c1.f
 refine Ev.bind hr ?_
 rw [he]
 exact Ev.now _
theorem body_ev (b:S74):Ev (fun k=>sky_isSky_c1.f k b.f0.f0 b.f0.f1 b.f1 b.f2) (!okBody b):=by
 unfold sky_isSky_c1.f okBody
 refine Ev.bind (Ev.is (isPeriod_eq _ _)) ?_
 cases h1:okPeriod b.f0.f0 b.f0.f1 with
 |false=>exact Ev.neg (by simp) (Ev.now _)
 |true=>
  refine Ev.pos rfl (Ev.bind (Ev.is (isPlace_eq _)) ?_)
  cases h2:okPlace b.f1 with
  |false=>exact Ev.neg (by simp) (Ev.now _)
  |true=>
   refine Ev.pos rfl (Ev.bind (Ev.is (in_eq _ _ _)) ?_)
   cases h3:okIn (b.f2.length:Int) 1 8 with
   |false=>exact Ev.neg (by simp) (Ev.now _)
   |true=>
    refine Ev.pos rfl (Ev.bind (road_ev b.f2 (by simp [okIn] at h3;omega)) ?_)
    simp only [okRoad,Bool.true_and,Bool.not_not]
    exact Ev.now _
theorem bodies_ev (l:List S74) (hl:l.length≤1000000):Ev (fun k=>cF_isSky_c1.f k l) (l.any (fun b=>!okBody b)):=by
 obtain ⟨r,hr,he⟩:=scan l (fun b=>!okBody b) (fun k i=>iF_isSky_c1.l0 k l (l.length:Int) (i:Int)) hl
  (fun i h hb=>by
   refine Ev.step (fun k=>by rw [iF_isSky_c1.l0]) ?_
   refine Ev.pos (by omega) (Ev.pos (by omega) (Ev.pos (by omega) ?_))
   rw [rdT_get l i h]
   refine Ev.bind (body_ev _) ?_
   rw [hb]
   exact Ev.pos rfl (Ev.now _))
  (fun i h hb r hr=>by
   refine Ev.step (fun k=>by rw [iF_isSky_c1.l0]) ?_
   refine Ev.pos (by omega) (Ev.pos (by omega) (Ev.pos (by omega) ?_))
   rw [rdT_get l i h]
   refine Ev.bind (body_ev _) ?_
   rw [hb]
   refine Ev.neg (by simp) ?_
   rw [wrap_id (by omega)]
   exact hr)
  (by
   refine Ev.step (fun k=>by rw [iF_isSky_c1.l0]) ?_
   exact Ev.neg (by omega) (Ev.now _)) l.length 0 (by omega)
 unfold cF_isSky_c1.f iF_isSky_c1.f
 refine Ev.bind hr ?_
 rw [he]
 exact Ev.now _
theorem isSky_ev (l:List S74) (p q n:Int):Ev (fun k=>sky_isSky.f k l p q n) (okSky l p q n):=by
 unfold sky_isSky.f okSky
 refine Ev.bind (Ev.is (in_eq _ _ _)) ?_
 cases h1:okIn (l.length:Int) 2 4 with
 |false=>exact Ev.neg (by simp) (Ev.now _)
 |true=>
  refine Ev.pos rfl (Ev.bind (Ev.is (isPeriod_eq _ _)) ?_)
  cases h2:okPeriod p q with
  |false=>exact Ev.neg (by simp) (Ev.now _)
  |true=>
   refine Ev.pos rfl (Ev.bind (Ev.is (isPlace_eq _)) ?_)
   cases h3:okPlace n with
   |false=>exact Ev.neg (by simp) (Ev.now _)
   |true=>
    refine Ev.pos rfl (Ev.bind (bodies_ev l (by simp [okIn] at h1;omega)) ?_)
    simp only [Bool.true_and]
    exact Ev.now _
theorem refroad_ok (l:List S74) (p q n:Int) (i:Int) (b:S74) (hb:b.f2.length≤1000000) (r:Bool) (hall:∀ x∈b.f2,okIn x (-600) 600=true)
  (hr:Ev (fun k=>tr_Sky.l0 k (wrap64 (i+1)) l p q n) r):∀ m j:Nat,j+m=b.f2.length →
  Ev (fun k=>tr_Sky.l1 k i (j:Int) l p q n b.f0.f0 b.f0.f1 b.f1 b.f2) r
 |0,j,h=>by
  refine Ev.step (fun k=>by rw [tr_Sky.l1]) ?_
  exact Ev.neg (by omega) hr
 |m+1,j,h=>by
  have hj:j<b.f2.length:=by omega
  refine Ev.step (fun k=>by rw [tr_Sky.l1]) ?_
  refine Ev.pos (by omega) (Ev.pos (by omega) ?_)
  refine Ev.bind (a:=true) (Ev.is (by rw [rin_eq,rd_get _ j hj,hall _ (List.getElem_mem hj)])) (Ev.pos rfl ?_)
  rw [wrap_id (by omega)]
  exact refroad_ok l p q n i b hb r hall hr m (j+1) (by omega)
theorem refroad_bad (l:List S74) (p q n:Int) (i:Int) (b:S74) (hb:b.f2.length≤1000000):∀ m j:Nat,j+m=b.f2.length→(b.f2.drop j).any (fun n=>!okIn n (-600) 600)=true →
  Ev (fun k=>tr_Sky.l1 k i (j:Int) l p q n b.f0.f0 b.f0.f1 b.f1 b.f2) false
 |0,j,h,hbad=>by
  rw [show j=b.f2.length by omega,List.drop_length] at hbad
  cases hbad
 |m+1,j,h,hbad=>by
  have hj:j<b.f2.length:=by omega
  rw [List.drop_eq_getElem_cons hj,List.any_cons] at hbad
  refine Ev.step (fun k=>by rw [tr_Sky.l1]) ?_
  refine Ev.pos (by omega) (Ev.pos (by omega) ?_)
  refine Ev.bind (Ev.is (by rw [rin_eq,rd_get _ j hj])) ?_
  cases hq:okIn b.f2[j] (-600) 600 with
  |false=>exact Ev.neg (by simp) (Ev.now _)
  |true=>
   rw [hq] at hbad
   refine Ev.pos rfl ?_
   rw [wrap_id (by omega)]
   exact refroad_bad l p q n i b hb m (j+1) (by omega) (by simpa using hbad)
theorem refSky_loop (l:List S74) (p q n:Int) (hl:l.length≤1000000):∀ m i:Nat,i+m=l.length →
  Ev (fun k=>tr_Sky.l0 k (i:Int) l p q n) ((l.drop i).all okBody && (okIn (l.length:Int) 2 4 && (okPeriod p q && okPlace n)))
 |0,i,h=>by
  rw [show i=l.length by omega,List.drop_length]
  refine Ev.step (fun k=>by rw [tr_Sky.l0]) ?_
  refine Ev.neg (by omega) (Ev.bind (Ev.is (rin_eq _ _ _)) ?_)
  cases h1:okIn (l.length:Int) 2 4 with
  |false=>exact Ev.neg (by simp) (Ev.now _)
  |true=>
   refine Ev.pos rfl (Ev.bind (Ev.is (period_eq _ _)) ?_)
   cases h2:okPeriod p q with
   |false=>exact Ev.neg (by simp) (Ev.now _)
   |true=>
    refine Ev.pos rfl (Ev.bind (Ev.is (Spot_eq _)) ?_)
    simp only [List.all_nil,Bool.true_and]
    exact Ev.now _
 |m+1,i,h=>by
  have hi:i<l.length:=by omega
  rw [List.drop_eq_getElem_cons hi,List.all_cons]
  have ih:=refSky_loop l p q n hl m (i+1) (by omega)
  refine Ev.step (fun k=>by rw [tr_Sky.l0]) ?_
  refine Ev.pos (by omega) (Ev.pos (by omega) ?_)
  rw [rdT_get l i hi]
  generalize l[i]=b
  have bad:∀ R:Bool,Ev (fun k=>tr_Sky.j1 k (i:Int) true l p q n b.f0.f0 b.f0.f1 b.f1 b.f2) (false && R):=fun R=>by
   refine Ev.step (fun k=>by rw [tr_Sky.j1]) ?_
   exact Ev.pos rfl (Ev.now _)
  unfold okBody
  refine Ev.bind (Ev.is (period_eq _ _)) ?_
  cases h1:okPeriod b.f0.f0 b.f0.f1 with
  |false=>exact Ev.neg (by simp) (bad _)
  |true=>
   refine Ev.pos rfl (Ev.bind (Ev.is (Spot_eq _)) ?_)
   cases h2:okPlace b.f1 with
   |false=>exact Ev.neg (by simp) (bad _)
   |true=>
    refine Ev.pos rfl (Ev.bind (Ev.is (rin_eq _ _ _)) ?_)
    cases h3:okIn (b.f2.length:Int) 1 8 with
    |false=>exact bad _
    |true=>
     have hbl:b.f2.length≤1000000:=by simp [okIn] at h3;omega
     refine Ev.step (fun k=>by rw [tr_Sky.j1]) ?_
     refine Ev.neg (by simp) ?_
     cases h4:okRoad b.f2 with
     |false=>exact refroad_bad l p q n i b hbl b.f2.length 0 (by omega) (by simpa [okRoad] using h4)
     |true=>
      simp only [Bool.true_and]
      have h5:∀ x∈b.f2,okIn x (-600) 600=true:=by
       intro x hx
       unfold okRoad at h4
       cases hq:okIn x (-600) 600 with
       |true=>rfl
       |false=>
        have:b.f2.any (fun n=>!okIn n (-600) 600)=true:=List.any_eq_true.mpr ⟨x,hx,by simp [hq]⟩
        rw [this] at h4
        cases h4
      refine refroad_ok l p q n i b hbl _ h5 ?_ b.f2.length 0 (by omega)
      rw [wrap_id (by omega)]
      exact ih
theorem any_all (f:S74→Bool) (l:List S74):(!l.any (fun b=>!f b))=l.all f:=by
 induction l with
 |nil=>rfl
 |cons b t ih=>simp [ih]
theorem refSky_ev (l:List S74) (p q n:Int) (hl:l.length≤1000000):Ev (fun k=>tr_Sky.f k l p q n) (okSky l p q n):=by
 have h:=refSky_loop l p q n hl l.length 0 (by omega)
 rw [List.drop_zero] at h
 have e:okSky l p q n=(l.all okBody && (okIn (l.length:Int) 2 4 && (okPeriod p q && okPlace n))):=by
  unfold okSky
  rw [any_all]
  cases l.all okBody <;> cases okIn (l.length:Int) 2 4 <;> cases okPeriod p q <;> cases okPlace n <;> rfl
 rw [e]
 exact h
theorem short_ev (l:List S74) (p q n:Int):∃ b,Ev (fun k=>tl_short.f k l p q n) b∧(b=true→l.length≤6):=by
 have key:∀ m i:Nat,i+m=7→∃ b,Ev (fun k=>tl_short.l0 k (i:Int) l p q n) b∧(b=true→l.length≤6):=by
  intro m
  induction m with
  |zero=>
   intro i h
   have fin:∀ c:Bool,c=false→Ev (fun k=>tl_short.j1 k (i:Int) c l p q n) (decide ((l.length:Int)≤6)):=fun c hc=>by
    refine Ev.step (fun k=>by rw [tl_short.j1]) ?_
    exact Ev.neg (by simp [hc]) (Ev.now _)
   refine ⟨decide ((l.length:Int)≤6),?_,fun h=>by have:=of_decide_eq_true h;omega⟩
   refine Ev.step (fun k=>by rw [tl_short.l0]) ?_
   by_cases hi:(i:Int)<(l.length:Int)
   ·exact Ev.pos hi (fin _ (decide_eq_false (by omega)))
   ·exact Ev.neg hi (fin _ rfl)
  |succ m ih=>
   intro i h
   by_cases hi:(i:Int)<(l.length:Int)
   ·by_cases hr:((rd_T74 l (i:Int)).f2.length:Int) > 10
    ·refine ⟨false,?_,fun h=>by cases h⟩
     refine Ev.step (fun k=>by rw [tl_short.l0]) (Ev.pos hi ?_)
     refine Ev.step (fun k=>by rw [tl_short.j1]) (Ev.pos (by simp;omega) ?_)
     exact Ev.pos (by omega) (Ev.pos hi (Ev.pos hr (Ev.now _)))
    ·obtain ⟨b,hb,hb6⟩:=ih (i+1) (by omega)
     refine ⟨b,?_,hb6⟩
     refine Ev.step (fun k=>by rw [tl_short.l0]) (Ev.pos hi ?_)
     refine Ev.step (fun k=>by rw [tl_short.j1]) (Ev.pos (by simp;omega) ?_)
     refine Ev.pos (by omega) (Ev.pos hi (Ev.neg hr ?_))
     rw [wrap_id (by omega)]
     exact hb
   ·refine ⟨decide ((l.length:Int)≤6),?_,fun h=>by have:=of_decide_eq_true h;omega⟩
    refine Ev.step (fun k=>by rw [tl_short.l0]) (Ev.neg hi ?_)
    refine Ev.step (fun k=>by rw [tl_short.j1]) ?_
    exact Ev.neg (by simp) (Ev.now _)
 unfold tl_short.f
 exact key 7 0 rfl
end Go.Proofs.YtjahbgldccjbfaaGreatDoor.PSky
end
section
namespace Go.Proofs.YtjahbgldccjbfaaGreatDoor.PSky
open Go.RowKit Go.Proofs.YtjahbgldccjbfaaGreatDoorW.PrintWords Go.Proofs.YtjahbgldccjbfaaGreatDoorW.PrintLast Go.Proofs.YtjahbgldccjbfaaGreatDoorW.PrintMore
theorem tquot {a b:Int} (hb:0<b):(Int.tmod a b<0→a / b=Int.tdiv a b - 1∧a % b=Int.tmod a b+b)∧(0≤Int.tmod a b→a / b=Int.tdiv a b∧a % b=Int.tmod a b):=by
 have h1:=Int.tmod_add_mul_tdiv a b
 have h2:=Int.tmod_lt_of_pos a hb
 have h3:=Int.lt_tmod_of_pos a hb
 refine ⟨fun h=>?_,fun h=>?_⟩
 ·exact (Int.ediv_emod_unique hb).mpr ⟨by rw [Int.mul_sub,Int.mul_one];omega,by omega,by omega⟩
 ·exact (Int.ediv_emod_unique hb).mpr ⟨by omega,h,h2⟩
theorem tdiv_le {a b:Int} (hb:0<b) {m:Int} (ha:-m≤a∧a≤m) (hm:0≤m):-m - 1≤a / b∧a / b≤m:=by
 constructor
 ·have:(-m - 1)≤a / b:=by
   rw [Int.le_ediv_iff_mul_le hb]
   have:=Int.mul_le_mul_of_nonneg_left (show (1:Int)≤b by omega) (show (0:Int)≤m+1 by omega)
   have e:(-m - 1)*b = -((m+1)*b):=by rw [← Int.neg_mul];congr 1;omega
   omega
  exact this
 ·have:a / b≤m:=by
   have h1:a / b*b≤a:=Int.ediv_mul_le a (by omega)
   rcases Int.lt_or_le (a / b) 0 with h|h
   ·omega
   ·have:=Int.mul_le_mul_of_nonneg_left (show (1:Int)≤b by omega) h
    omega
  exact this
theorem floor_eq {a b:Int} (hb:0<b) (hb2:b≤1000000000000) (ha:-1000000000000000000≤a∧a≤1000000000000000000):sky_floor.f a b=some (a / b,a % b):=by
 have q:=tdiv_le hb ha (by decide)
 have m0:=Int.emod_nonneg a (show b≠0 by omega)
 have m1:=Int.emod_lt_of_pos a hb
 unfold sky_floor.f
 rw [if_neg (by omega)]
 by_cases h:Int.tmod a b<0
 ·obtain ⟨e1,e2⟩:=(tquot (a:=a) hb).1 h
  rw [if_pos h,e1,e2]
  rw [e1] at q
  rw [e2] at m0 m1
  rw [wrap_id (show -9223372036854775808≤a.tdiv b∧a.tdiv b≤9223372036854775807 by omega),wrap_id (by omega),wrap_id (by omega)]
 ·obtain ⟨e1,e2⟩:=(tquot (a:=a) hb).2 (by omega)
  rw [if_neg h,e1,e2]
  rw [e1] at q
  rw [wrap_id (show -9223372036854775808≤a.tdiv b∧a.tdiv b≤9223372036854775807 by omega)]
theorem around_eq {a:Int} (ha:-1000000000000000000≤a∧a≤1000000000000000000):sky_around.f a=some (a % 21600):=by
 unfold sky_around.f
 rw [floor_eq (by decide) (by decide) ha]
 rfl
theorem down_eq {a b:Int} (hb:0<b) (hb2:b≤1000000) (ha:-1000000000000≤a∧a≤1000000000000):tr_down.f a b=some (a / b):=by
 have q:=tdiv_le hb ha (by decide)
 have h0:=Int.tmod_add_mul_tdiv a b
 have h2:=Int.tmod_lt_of_pos a hb
 have h3:=Int.lt_tmod_of_pos a hb
 have e0:a.tdiv b*b=b*a.tdiv b:=Int.mul_comm _ _
 unfold tr_down.f
 rw [if_neg (by omega)]
 by_cases h:Int.tmod a b<0
 ·obtain ⟨e1,e2⟩:=(tquot (a:=a) hb).1 h
  rw [e1] at q ⊢
  rw [wrap_id (show -9223372036854775808≤a.tdiv b∧a.tdiv b≤9223372036854775807 by omega),wrap_id (show -9223372036854775808≤a.tdiv b*b∧a.tdiv b*b≤9223372036854775807 by omega),if_pos (by omega),wrap_id (by omega)]
 ·obtain ⟨e1,e2⟩:=(tquot (a:=a) hb).2 (by omega)
  rw [e1] at q ⊢
  rw [wrap_id (show -9223372036854775808≤a.tdiv b∧a.tdiv b≤9223372036854775807 by omega),wrap_id (show -9223372036854775808≤a.tdiv b*b∧a.tdiv b*b≤9223372036854775807 by omega),if_neg (by omega)]
theorem Less_eq {a:Int} (ha:-1000000000000≤a∧a≤1000000000000):tr_Less.f a=some (a % 21600):=by
 unfold tr_Less.f
 rw [down_eq (by decide) (by decide) ha,Option.bind_some]
 have h1:=Int.emod_add_mul_ediv a 21600
 have h2:=Int.emod_nonneg a (show (21600:Int)≠0 by decide)
 have h3:=Int.emod_lt_of_pos a (show (0:Int)<21600 by decide)
 rw [wrap_id (show -9223372036854775808≤a / 21600*21600∧a / 21600*21600≤9223372036854775807 by omega),wrap_id (by omega)]
 congr 1
 omega
def goneOf (p q d:Int):Int:=d*21600*q / p
def meanOf (b:S74) (d:Int):Int:=b.f1+goneOf b.f0.f0 b.f0.f1 d
def stepOf (b:S74) (d:Int):Int:=(meanOf b d % 21600)*(b.f2.length:Int)
def wayOf (b:S74) (d:Int):Int:=
 meanOf b d+rd b.f2 (stepOf b d / 21600)+(rd b.f2 ((stepOf b d / 21600+1) % (b.f2.length:Int)) - rd b.f2 (stepOf b d / 21600))*(stepOf b d % 21600) / 21600
theorem okIn_iff {a b c:Int}:okIn a b c=true ↔ b≤a∧a≤c:=by simp [okIn]
theorem period_of {p q:Int} (h:okPeriod p q=true):1≤p∧p≤10000∧1≤q∧q≤10000∧4*q≤p:=by
 simp only [okPeriod,Bool.and_eq_true,okIn_iff,decide_eq_true_eq] at h
 omega
theorem gone_bounds {p q d:Int} (h:okPeriod p q=true) (hd:0≤d∧d≤20000):0≤goneOf p q d∧goneOf p q d≤108000000∧0≤d*21600*q∧d*21600*q≤4320000000000:=by
 have hp:=period_of h
 have h1:d*21600*q=d*q*21600:=by rw [Int.mul_assoc,Int.mul_comm 21600 q,← Int.mul_assoc]
 have h0:0≤d*q:=Int.mul_nonneg hd.1 (by omega)
 have h2:d*q≤20000*q:=Int.mul_le_mul_of_nonneg_right hd.2 (by omega)
 refine ⟨Int.ediv_nonneg (by omega) (by omega),?_,by omega,by omega⟩
 unfold goneOf
 have h3:d*21600*q / p*p≤d*21600*q:=Int.ediv_mul_le _ (by omega)
 rcases Int.lt_or_le (d*21600*q / p) 108000001 with h4|h4
 ·omega
 ·have h5:=Int.mul_le_mul h4 (show 4*q≤p by omega) (by omega) (by omega)
  have h6:108000001*(4*q)=432000004*q:=by omega
  omega
theorem mean_bounds {b:S74} {d:Int} (h:okBody b=true) (hd:0≤d∧d≤20000):0≤meanOf b d∧meanOf b d≤108021599:=by
 simp only [okBody,Bool.and_eq_true,okPlace,okIn_iff] at h
 have:=gone_bounds h.1 hd
 unfold meanOf
 omega
theorem road_bounds {b:S74} (h:okBody b=true) (i:Int):-600≤rd b.f2 i∧rd b.f2 i≤600:=by
 simp only [okBody,Bool.and_eq_true] at h
 have h4:=h.2.2.2
 unfold rd
 rw [List.getD_eq_getElem?_getD]
 cases hq:b.f2[i.toNat]? with
 |none=>decide
 |some x=>
  have hx:=List.mem_of_getElem? hq
  have:okIn x (-600) 600=true:=by
   cases h5:okIn x (-600) 600 with
   |true=>rfl
   |false=>
    unfold okRoad at h4
    rw [List.any_eq_true.mpr ⟨x,hx,by simp [h5]⟩] at h4
    cases h4
  exact okIn_iff.mp this
theorem body_len {b:S74} (h:okBody b=true):1≤b.f2.length∧b.f2.length≤8:=by
 simp only [okBody,Bool.and_eq_true,okIn_iff] at h
 omega
theorem step_bounds {b:S74} {d:Int} (h:okBody b=true):0≤stepOf b d∧stepOf b d≤172800∧0≤stepOf b d / 21600∧stepOf b d / 21600<(b.f2.length:Int):=by
 have hl:=body_len h
 have h2:=Int.emod_nonneg (meanOf b d) (show (21600:Int)≠0 by decide)
 have h3:=Int.emod_lt_of_pos (meanOf b d) (show (0:Int)<21600 by decide)
 unfold stepOf
 generalize meanOf b d % 21600=x at h2 h3 ⊢
 have h4:0≤x*(b.f2.length:Int):=Int.mul_nonneg h2 (by omega)
 have h5:x*(b.f2.length:Int)≤21599*(b.f2.length:Int):=Int.mul_le_mul_of_nonneg_right (by omega) (by omega)
 refine ⟨h4,by omega,by omega,by omega⟩
theorem gone_eq (l:List S74) (a1 a2 a3:Int) {p q d:Int} (h:okPeriod p q=true) (hd:0≤d∧d≤20000):ss_gone.f l a1 a2 a3 d p q=some (goneOf p q d):=by
 have hg:=gone_bounds h hd
 have hp:=period_of h
 unfold ss_gone.f
 rw [wrap_id (show -9223372036854775808≤d*21600∧d*21600≤9223372036854775807 by omega),wrap_id (by omega),floor_eq (by omega) (by omega) (by omega)]
 rfl
theorem sum2_ev (a b:Int) (h:-1000000000≤a∧a≤1000000000) (h':-1000000000≤b∧b≤1000000000):Ev (fun k=>sky_sum.f k [a,b]) (a+b):=by
 unfold sky_sum.f
 rw [show (([a,b].length:Nat):Int)=2 from rfl]
 have w1:wrap64 (0+1)=1:=by kernel_rfl
 have w2:wrap64 (1+1)=2:=by kernel_rfl
 refine Ev.step (fun k=>by rw [sky_sum.l0]) ?_
 refine Ev.pos (by decide) (Ev.pos (by decide) (Ev.pos (by show (0:Int)<2;decide) ?_))
 rw [w1]
 refine Ev.step (fun k=>by rw [sky_sum.l0]) ?_
 refine Ev.pos (by decide) (Ev.pos (by decide) (Ev.pos (by show (1:Int)<2;decide) ?_))
 rw [w2]
 refine Ev.step (fun k=>by rw [sky_sum.l0]) ?_
 refine Ev.neg (by decide) ?_
 rw [show rd [a,b] 0=a from rfl,show rd [a,b] 1=b from rfl,wrap_id (show -9223372036854775808≤0+a∧0+a≤9223372036854775807 by omega),wrap_id (by omega),Int.zero_add]
 exact Ev.now _
theorem sum3_ev (a b c:Int) (h:-1000000000≤a∧a≤1000000000) (h':-1000000000≤b∧b≤1000000000) (h'':-1000000000≤c∧c≤1000000000):Ev (fun k=>sky_sum.f k [a,b,c]) (a+b+c):=by
 unfold sky_sum.f
 rw [show (([a,b,c].length:Nat):Int)=3 from rfl]
 have w1:wrap64 (0+1)=1:=by kernel_rfl
 have w2:wrap64 (1+1)=2:=by kernel_rfl
 have w3:wrap64 (2+1)=3:=by kernel_rfl
 refine Ev.step (fun k=>by rw [sky_sum.l0]) ?_
 refine Ev.pos (by decide) (Ev.pos (by decide) (Ev.pos (by show (0:Int)<3;decide) ?_))
 rw [w1]
 refine Ev.step (fun k=>by rw [sky_sum.l0]) ?_
 refine Ev.pos (by decide) (Ev.pos (by decide) (Ev.pos (by show (1:Int)<3;decide) ?_))
 rw [w2]
 refine Ev.step (fun k=>by rw [sky_sum.l0]) ?_
 refine Ev.pos (by decide) (Ev.pos (by decide) (Ev.pos (by show (2:Int)<3;decide) ?_))
 rw [w3]
 refine Ev.step (fun k=>by rw [sky_sum.l0]) ?_
 refine Ev.neg (by decide) ?_
 rw [show rd [a,b,c] 0=a from rfl,show rd [a,b,c] 1=b from rfl,show rd [a,b,c] 2=c from rfl,wrap_id (show -9223372036854775808≤0+a∧0+a≤9223372036854775807 by omega),wrap_id (show -9223372036854775808≤0+a+b∧0+a+b≤9223372036854775807 by omega),wrap_id (by omega),Int.zero_add]
 exact Ev.now _
theorem mean_ev (l:List S74) (a1 a2 a3 d:Int) (i:Nat) (hi:i<l.length) (h:okBody l[i]=true) (hd:0≤d∧d≤20000):Ev (fun k=>ss_mean.f k l a1 a2 a3 d (i:Int)) (meanOf l[i] d):=by
 unfold ss_mean.f
 refine Ev.pos (by omega) (Ev.pos (by omega) ?_)
 rw [rdT_get l i hi]
 generalize l[i]=b at h
 have hp:okPeriod b.f0.f0 b.f0.f1=true:=by simp only [okBody,Bool.and_eq_true] at h;exact h.1
 have hs:0≤b.f1∧b.f1≤21599:=by simp only [okBody,Bool.and_eq_true,okPlace,okIn_iff] at h;exact h.2.1
 have hg:=gone_bounds hp hd
 refine Ev.bind (Ev.is (gone_eq l a1 a2 a3 hp hd)) (Ev.bind (sum2_ev _ _ (by omega) (by omega)) (Ev.now _))
theorem way_ev (l:List S74) (a1 a2 a3 d:Int) (i:Nat) (hi:i<l.length) (h:okBody l[i]=true) (hd:0≤d∧d≤20000):Ev (fun k=>ss_way.f k l a1 a2 a3 d (i:Int)) (wayOf l[i] d):=by
 have hm:=mean_ev l a1 a2 a3 d i hi h hd
 unfold ss_way.f
 refine Ev.pos (by omega) (Ev.pos (by omega) (Ev.bind hm ?_))
 rw [rdT_get l i hi]
 generalize l[i]=b at h
 have hmb:=mean_bounds h hd
 have hl:=body_len h
 have hs:=step_bounds (d:=d) h
 refine Ev.bind (Ev.is (around_eq (by omega))) ?_
 rw [show meanOf b d % 21600*(b.f2.length:Int)=stepOf b d from rfl,wrap_id (show -9223372036854775808≤stepOf b d∧stepOf b d≤9223372036854775807 by omega)]
 refine Ev.bind (Ev.is (floor_eq (by decide) (by decide) (by omega))) ?_
 simp only
 rw [wrap_id (show -9223372036854775808≤stepOf b d / 21600+1∧stepOf b d / 21600+1≤9223372036854775807 by omega)]
 have ht:Int.tmod (stepOf b d / 21600+1) (b.f2.length:Int)=(stepOf b d / 21600+1) % (b.f2.length:Int):=Int.tmod_eq_emod_of_nonneg (by omega)
 rw [ht]
 have h2:=Int.emod_nonneg (stepOf b d / 21600+1) (show (b.f2.length:Int)≠0 by omega)
 have h3:=Int.emod_lt_of_pos (stepOf b d / 21600+1) (show (0:Int)<(b.f2.length:Int) by omega)
 refine Ev.neg (by omega) (Ev.pos h2 (Ev.pos h3 (Ev.pos hs.2.2.1 (Ev.pos hs.2.2.2 ?_))))
 have r1:=road_bounds h (stepOf b d / 21600)
 have r2:=road_bounds h ((stepOf b d / 21600+1) % (b.f2.length:Int))
 have p0:=Int.emod_nonneg (stepOf b d) (show (21600:Int)≠0 by decide)
 have p1:=Int.emod_lt_of_pos (stepOf b d) (show (0:Int)<21600 by decide)
 unfold wayOf
 generalize rd b.f2 (stepOf b d / 21600)=x at r1 ⊢
 generalize rd b.f2 ((stepOf b d / 21600+1) % (b.f2.length:Int))=y at r2 ⊢
 generalize stepOf b d % 21600=z at p0 p1 ⊢
 have q:-25920000≤(y - x)*z∧(y - x)*z≤25920000:=by
  constructor
  ·have:=Int.mul_le_mul_of_nonneg_right (show -1200≤y - x by omega) p0
   omega
  ·have:=Int.mul_le_mul_of_nonneg_right (show y - x≤1200 by omega) p0
   omega
 rw [wrap_id (show -9223372036854775808≤y - x∧y - x≤9223372036854775807 by omega),wrap_id (show -9223372036854775808≤(y - x)*z∧(y - x)*z≤9223372036854775807 by omega)]
 refine Ev.bind (Ev.is (floor_eq (by decide) (by decide) (by omega))) (Ev.bind (sum3_ev _ _ _ (by omega) (by omega) (by simp only;omega)) (Ev.now _))
theorem way_bounds {b:S74} {d:Int} (h:okBody b=true) (hd:0≤d∧d≤20000):-2000≤wayOf b d∧wayOf b d≤108030000:=by
 have hmb:=mean_bounds h hd
 have r1:=road_bounds h (stepOf b d / 21600)
 have r2:=road_bounds h ((stepOf b d / 21600+1) % (b.f2.length:Int))
 have p0:=Int.emod_nonneg (stepOf b d) (show (21600:Int)≠0 by decide)
 have p1:=Int.emod_lt_of_pos (stepOf b d) (show (0:Int)<21600 by decide)
 unfold wayOf
 generalize rd b.f2 (stepOf b d / 21600)=x at r1 ⊢
 generalize rd b.f2 ((stepOf b d / 21600+1) % (b.f2.length:Int))=y at r2 ⊢
 generalize stepOf b d % 21600=z at p0 p1 ⊢
 have q:-25920000≤(y - x)*z∧(y - x)*z≤25920000:=by
  constructor
  ·have:=Int.mul_le_mul_of_nonneg_right (show -1200≤y - x by omega) p0
   omega
  ·have:=Int.mul_le_mul_of_nonneg_right (show y - x≤1200 by omega) p0
   omega
 omega
end Go.Proofs.YtjahbgldccjbfaaGreatDoor.PSky
end
section
namespace Go.Proofs.YtjahbgldccjbfaaGreatDoor.PSky
open Go.RowKit Go.Proofs.YtjahbgldccjbfaaGreatDoorW.PrintWords Go.Proofs.YtjahbgldccjbfaaGreatDoorW.PrintLast Go.Proofs.YtjahbgldccjbfaaGreatDoorW.PrintMore
theorem refmean_eq {b:S74} {d:Int} (h:okBody b=true) (hd:0≤d∧d≤20000):tr_mean.f b.f0.f0 b.f0.f1 b.f1 b.f2 d=some (meanOf b d):=by
 have hp:okPeriod b.f0.f0 b.f0.f1=true:=by simp only [okBody,Bool.and_eq_true] at h;exact h.1
 have hs:0≤b.f1∧b.f1≤21599:=by simp only [okBody,Bool.and_eq_true,okPlace,okIn_iff] at h;exact h.2.1
 have hg:=gone_bounds hp hd
 have hpp:=period_of hp
 unfold tr_mean.f
 rw [if_neg (by omega),wrap_id (show -9223372036854775808≤d*21600∧d*21600≤9223372036854775807 by omega),wrap_id (show -9223372036854775808≤d*21600*b.f0.f1∧d*21600*b.f0.f1≤9223372036854775807 by omega)]
 rw [Int.tdiv_eq_ediv_of_nonneg hg.2.2.1]
 rw [show d*21600*b.f0.f1 / b.f0.f0=goneOf b.f0.f0 b.f0.f1 d from rfl,wrap_id (show -9223372036854775808≤goneOf b.f0.f0 b.f0.f1 d∧goneOf b.f0.f0 b.f0.f1 d≤9223372036854775807 by omega),wrap_id (by omega)]
 rfl
theorem refway_eq {b:S74} {d:Int} (h:okBody b=true) (hd:0≤d∧d≤20000):tr_way.f b.f0.f0 b.f0.f1 b.f1 b.f2 d=some (wayOf b d):=by
 have hmb:=mean_bounds h hd
 have hl:=body_len h
 have hs:=step_bounds (d:=d) h
 unfold tr_way.f
 have hM:tr_Mean.f b.f0.f0 b.f0.f1 b.f1 b.f2 d=some (meanOf b d % 21600):=by
  unfold tr_Mean.f
  rw [refmean_eq h hd,Option.bind_some,Less_eq (by omega)]
  rfl
 rw [hM,Option.bind_some,if_neg (by omega),refmean_eq h hd]
 rw [show meanOf b d % 21600*(b.f2.length:Int)=stepOf b d from rfl,wrap_id (show -9223372036854775808≤stepOf b d∧stepOf b d≤9223372036854775807 by omega)]
 rw [Int.tdiv_eq_ediv_of_nonneg hs.1,Int.tmod_eq_emod_of_nonneg hs.1,wrap_id (show -9223372036854775808≤stepOf b d / 21600∧stepOf b d / 21600≤9223372036854775807 by omega),wrap_id (show -9223372036854775808≤stepOf b d / 21600+1∧stepOf b d / 21600+1≤9223372036854775807 by omega)]
 have ht:Int.tmod (stepOf b d / 21600+1) (b.f2.length:Int)=(stepOf b d / 21600+1) % (b.f2.length:Int):=Int.tmod_eq_emod_of_nonneg (by omega)
 rw [ht]
 have h2:=Int.emod_nonneg (stepOf b d / 21600+1) (show (b.f2.length:Int)≠0 by omega)
 have h3:=Int.emod_lt_of_pos (stepOf b d / 21600+1) (show (0:Int)<(b.f2.length:Int) by omega)
 rw [if_pos h2,if_pos h3,Option.bind_some,if_pos hs.2.2.1,if_pos hs.2.2.2]
 have r1:=road_bounds h (stepOf b d / 21600)
 have r2:=road_bounds h ((stepOf b d / 21600+1) % (b.f2.length:Int))
 have p0:=Int.emod_nonneg (stepOf b d) (show (21600:Int)≠0 by decide)
 have p1:=Int.emod_lt_of_pos (stepOf b d) (show (0:Int)<21600 by decide)
 unfold wayOf
 generalize rd b.f2 (stepOf b d / 21600)=x at r1 ⊢
 generalize rd b.f2 ((stepOf b d / 21600+1) % (b.f2.length:Int))=y at r2 ⊢
 generalize stepOf b d % 21600=z at p0 p1 ⊢
 have q:-25920000≤(y - x)*z∧(y - x)*z≤25920000:=by
  constructor
  ·have:=Int.mul_le_mul_of_nonneg_right (show -1200≤y - x by omega) p0
   omega
  ·have:=Int.mul_le_mul_of_nonneg_right (show y - x≤1200 by omega) p0
   omega
 rw [wrap_id (show -9223372036854775808≤y - x∧y - x≤9223372036854775807 by omega),wrap_id (show -9223372036854775808≤(y - x)*z∧(y - x)*z≤9223372036854775807 by omega)]
 rw [down_eq (by decide) (by decide) (by omega),Option.bind_some,wrap_id (show -9223372036854775808≤meanOf b d+x∧meanOf b d+x≤9223372036854775807 by omega),wrap_id (by omega)]
def aheadOf (l:List S74) (i j:Nat) (d:Int):Int:=wayOf (rd_T74 l (i:Int)) d - wayOf (rd_T74 l (j:Int)) d
theorem ok_at {l:List S74} {p q n:Int} (h:okSky l p q n=true):2≤l.length∧l.length≤4∧okPeriod p q=true∧okPlace n=true∧∀ i:Nat,i<l.length→okBody (rd_T74 l (i:Int))=true:=by
 simp only [okSky,Bool.and_eq_true,okIn_iff] at h
 refine ⟨by omega,by omega,h.2.1,h.2.2.1,fun i hi=>?_⟩
 have h4:=h.2.2.2
 rw [any_all] at h4
 rw [rdT_get l i hi]
 exact List.all_eq_true.mp h4 _ (List.getElem_mem hi)
theorem refahead_eq {l:List S74} {p q n:Int} (h:okSky l p q n=true) (i j:Nat) (hi:i<l.length) (hj:j<l.length) {d:Int} (hd:0≤d∧d≤20000):tr_ahead.f l p q n (i:Int) (j:Int) d=some (aheadOf l i j d):=by
 obtain ⟨-,-,-,-,hb⟩:=ok_at h
 have b1:=way_bounds (hb i hi) hd
 have b2:=way_bounds (hb j hj) hd
 unfold tr_ahead.f aheadOf
 rw [if_pos (by omega),if_pos (by omega),refway_eq (hb i hi) hd,Option.bind_some,if_pos (by omega),if_pos (by omega),refway_eq (hb j hj) hd,Option.bind_some,wrap_id (by omega)]
theorem wayT_ev {l:List S74} {p q n:Int} (h:okSky l p q n=true) (i:Nat) (hi:i<l.length) {d:Int} (hd:0≤d∧d≤20000):Ev (fun k=>ss_way.f k l p q n d (i:Int)) (wayOf (rd_T74 l (i:Int)) d):=by
 have hb:=(ok_at h).2.2.2.2 i hi
 rw [rdT_get l i hi] at hb ⊢
 exact way_ev l p q n d i hi hb hd
theorem ahead_bounds {l:List S74} {p q n:Int} (h:okSky l p q n=true) (i j:Nat) (hi:i<l.length) (hj:j<l.length) {d:Int} (hd:0≤d∧d≤20000):-200000000≤aheadOf l i j d∧aheadOf l i j d≤200000000:=by
 obtain ⟨-,-,-,-,hb⟩:=ok_at h
 have b1:=way_bounds (hb i hi) hd
 have b2:=way_bounds (hb j hj) hd
 unfold aheadOf
 omega
theorem Ev.all {α β:Type} (g:α→Nat→Option β) (r:α→β):∀ l:List α,(∀ d∈l,Ev (g d) (r d))→∃ K,∀ k,K≤k→∀ d∈l,g d k=Option.some (r d)
 |[],_=>⟨0,fun _ _ d h=>by cases h⟩
 |x :: t,h=>by
  obtain ⟨K1,h1⟩:=h x (List.mem_cons_self ..)
  obtain ⟨K2,h2⟩:=Ev.all g r t (fun d hd=>h d (List.mem_cons_of_mem _ hd))
  refine ⟨max K1 K2,fun k hk d hd=>?_⟩
  rcases List.mem_cons.mp hd with rfl|hd
  ·exact h1 k (by omega)
  ·exact h2 k (by omega) d hd
end Go.Proofs.YtjahbgldccjbfaaGreatDoor.PSky
end
section
namespace Go.Proofs.YtjahbgldccjbfaaGreatDoor.PSky
open Go.RowKit Go.Proofs.YtjahbgldccjbfaaGreatDoorW.PrintWords Go.Proofs.YtjahbgldccjbfaaGreatDoorW.PrintLast Go.Proofs.YtjahbgldccjbfaaGreatDoorW.PrintMore
theorem known_ev:Ev (fun _=>tl_known.f.bind fun t=>some t) true:=Ev.now true
end Go.Proofs.YtjahbgldccjbfaaGreatDoor.PSky
end
section
namespace Go.Proofs.YtjahbgldccjbfaaGreatDoor.PSky
open Go.RowKit Go.Proofs.YtjahbgldccjbfaaGreatDoorW.PrintWords Go.Proofs.YtjahbgldccjbfaaGreatDoorW.PrintLast Go.Proofs.YtjahbgldccjbfaaGreatDoorW.PrintMore
def nodeOf (p q n d:Int):Int:=(n - goneOf p q d) % 21600
theorem place_of {n:Int} (h:okPlace n=true):0≤n∧n≤21599:=by simp only [okPlace,okIn_iff] at h;exact h
theorem node_eq {l:List S74} {p q n:Int} (hp:okPeriod p q=true) (hn:okPlace n=true) {d:Int} (hd:0≤d∧d≤20000):ss_node.f l p q n d=some (nodeOf p q n d):=by
 have hg:=gone_bounds hp hd
 have hs:=place_of hn
 unfold ss_node.f nodeOf
 rw [gone_eq l p q n hp hd,Option.bind_some,wrap_id (by omega),around_eq (by omega)]
 rfl
theorem refnode_eq {p q n:Int} (hp:okPeriod p q=true) (hn:okPlace n=true) {d:Int} (hd:0≤d∧d≤20000):tr_Node.f p q n d=some (nodeOf p q n d):=by
 have hg:=gone_bounds hp hd
 have hs:=place_of hn
 have hpp:=period_of hp
 unfold tr_Node.f nodeOf
 rw [if_neg (by omega),wrap_id (show -9223372036854775808≤d*21600∧d*21600≤9223372036854775807 by omega),wrap_id (show -9223372036854775808≤d*21600*q∧d*21600*q≤9223372036854775807 by omega),Int.tdiv_eq_ediv_of_nonneg hg.2.2.1]
 rw [show d*21600*q / p=goneOf p q d from rfl,wrap_id (show -9223372036854775808≤goneOf p q d∧goneOf p q d≤9223372036854775807 by omega),wrap_id (by omega),Less_eq (by omega)]
 rfl
theorem refplace_eq {b:S74} {d:Int} (h:okBody b=true) (hd:0≤d∧d≤20000):tr_Place.f b.f0.f0 b.f0.f1 b.f1 b.f2 d=some (wayOf b d % 21600):=by
 have b1:=way_bounds h hd
 unfold tr_Place.f
 rw [refway_eq h hd,Option.bind_some,Less_eq (by omega)]
 rfl
end Go.Proofs.YtjahbgldccjbfaaGreatDoor.PSky
end
section
namespace Go.Proofs.YtjahbgldccjbfaaGreatDoor.PSky
open Go.RowKit Go.Proofs.YtjahbgldccjbfaaGreatDoorW.PrintWords Go.Proofs.YtjahbgldccjbfaaGreatDoorW.PrintLast Go.Proofs.YtjahbgldccjbfaaGreatDoorW.PrintMore
def okDay (n:Int):Bool:=okIn n 0 20000
theorem isDay_eq (n:Int):sky_isDay.f n=some (okDay n):=by unfold sky_isDay.f;rw [in_eq];rfl
theorem Day_eq (n:Int):tr_Day.f n=some (okDay n):=isDay_eq n
end Go.Proofs.YtjahbgldccjbfaaGreatDoor.PSky
end
section
namespace Go.Proofs.YtjahbgldccjbfaaGreatDoor.PSky
open Go.RowKit Go.Proofs.YtjahbgldccjbfaaGreatDoorW.PrintWords Go.Proofs.YtjahbgldccjbfaaGreatDoorW.PrintLast Go.Proofs.YtjahbgldccjbfaaGreatDoorW.PrintMore
def okBodyN (l:List S74) (n:Int):Bool:=okIn n 0 ((l.length:Int) - 1)
theorem isBody_eq {l:List S74} (hl:l.length≤1000000) (p q n i:Int):sky_isBody.f l p q n i=some (okBodyN l i):=by
 unfold sky_isBody.f okBodyN
 rw [wrap_id (by omega),in_eq]
 rfl
theorem Body_eq {l:List S74} (hl:l.length≤1000000) (p q n i:Int):tr_Body.f l p q n i=some (okBodyN l i):=isBody_eq hl p q n i
theorem meanT_ev {l:List S74} {p q n:Int} (h:okSky l p q n=true) (i:Nat) (hi:i<l.length) {d:Int} (hd:0≤d∧d≤20000):Ev (fun k=>ss_mean.f k l p q n d (i:Int)) (meanOf (rd_T74 l (i:Int)) d):=by
 have hb:=(ok_at h).2.2.2.2 i hi
 rw [rdT_get l i hi] at hb ⊢
 exact mean_ev l p q n d i hi hb hd
theorem Mean_ev {l:List S74} {p q n:Int} (h:okSky l p q n=true) (i:Nat) (hi:i<l.length) {d:Int} (hd:0≤d∧d≤20000):Ev (fun k=>sky_Mean.f k l p q n (i:Int) d) (meanOf (rd_T74 l (i:Int)) d % 21600,0):=by
 have hk:=ok_at h
 have hm:=mean_bounds (hk.2.2.2.2 i hi) hd
 unfold sky_Mean.f
 refine Ev.bind (isSky_ev l p q n) ?_
 rw [h]
 refine Ev.pos rfl (Ev.bind (Ev.is (isBody_eq (by omega) p q n i)) (Ev.pos (okIn_iff.mpr (by omega)) (Ev.bind (Ev.is (isDay_eq d)) ?_)))
 rw [show okDay d=true from okIn_iff.mpr hd]
 refine Ev.step (fun k=>by rw [sky_Mean.j0]) ?_
 exact Ev.neg (by simp) (Ev.bind (meanT_ev h i hi hd) (Ev.bind (Ev.is (around_eq (by omega))) (Ev.now _)))
theorem Place_ev {l:List S74} {p q n:Int} (h:okSky l p q n=true) (i:Nat) (hi:i<l.length) {d:Int} (hd:0≤d∧d≤20000):Ev (fun k=>sky_Place.f k l p q n (i:Int) d) (wayOf (rd_T74 l (i:Int)) d % 21600,0):=by
 have hk:=ok_at h
 have hm:=way_bounds (hk.2.2.2.2 i hi) hd
 unfold sky_Place.f
 refine Ev.bind (isSky_ev l p q n) ?_
 rw [h]
 refine Ev.pos rfl (Ev.bind (Ev.is (isBody_eq (by omega) p q n i)) (Ev.pos (okIn_iff.mpr (by omega)) (Ev.bind (Ev.is (isDay_eq d)) ?_)))
 rw [show okDay d=true from okIn_iff.mpr hd]
 refine Ev.step (fun k=>by rw [sky_Place.j0]) ?_
 exact Ev.neg (by simp) (Ev.bind (wayT_ev h i hi hd) (Ev.bind (Ev.is (around_eq (by omega))) (Ev.now _)))
theorem ahead_ev {l:List S74} {p q n:Int} (h:okSky l p q n=true) (i j:Nat) (hi:i<l.length) (hj:j<l.length) {d:Int} (hd:0≤d∧d≤20000):Ev (fun k=>ss_ahead.f k l p q n d (i:Int) (j:Int)) (aheadOf l i j d):=by
 have hb:=ahead_bounds h i j hi hj hd
 unfold ss_ahead.f
 refine Ev.bind (wayT_ev h i hi hd) (Ev.bind (wayT_ev h j hj hd) ?_)
 rw [show wayOf (rd_T74 l (i:Int)) d - wayOf (rd_T74 l (j:Int)) d=aheadOf l i j d from rfl,wrap_id (by omega)]
 exact Ev.now _
theorem areTwo_eq {l:List S74} (p q n:Int) (i j:Nat) (hi:i<l.length) (hj:j<l.length) (hl:l.length≤1000000) (hij:i≠j):sky_areTwo.f l p q n (i:Int) (j:Int)=some true:=by
 unfold sky_areTwo.f
 rw [isBody_eq hl,Option.bind_some,show okBodyN l (i:Int)=true from okIn_iff.mpr (by omega),if_pos rfl,isBody_eq hl,Option.bind_some,show okBodyN l (j:Int)=true from okIn_iff.mpr (by omega),if_pos rfl]
 congr 1
 simp
 omega
theorem Between_ev {l:List S74} {p q n:Int} (h:okSky l p q n=true) (i j:Nat) (hi:i<l.length) (hj:j<l.length) (hij:i≠j) {d:Int} (hd:0≤d∧d≤20000):Ev (fun k=>sky_Between.f k l p q n (i:Int) (j:Int) d) (aheadOf l i j d % 21600,0):=by
 have hk:=ok_at h
 have hm:=ahead_bounds h i j hi hj hd
 unfold sky_Between.f
 refine Ev.bind (isSky_ev l p q n) ?_
 rw [h]
 refine Ev.pos rfl (Ev.bind (Ev.is (areTwo_eq p q n i j hi hj (by omega) hij)) (Ev.pos rfl (Ev.bind (Ev.is (isDay_eq d)) ?_)))
 rw [show okDay d=true from okIn_iff.mpr hd]
 refine Ev.step (fun k=>by rw [sky_Between.j0]) ?_
 exact Ev.neg (by simp) (Ev.bind (ahead_ev h i j hi hj hd) (Ev.bind (Ev.is (around_eq (by omega))) (Ev.now _)))
end Go.Proofs.YtjahbgldccjbfaaGreatDoor.PSky
end
section
namespace Go.Proofs.YtjahbgldccjbfaaGreatDoor.PSky
open Go.RowKit Go.Proofs.YtjahbgldccjbfaaGreatDoorW.PrintWords Go.Proofs.YtjahbgldccjbfaaGreatDoorW.PrintLast Go.Proofs.YtjahbgldccjbfaaGreatDoorW.PrintMore
theorem body_at {l:List S74} {i:Int} (h:okBodyN l i=true):∃ j:Nat,i=j∧j<l.length:=by
 have:=okIn_iff.mp h
 exact ⟨i.toNat,by omega,by omega⟩
theorem Mean_evG (l:List S74) (p q n i d:Int):Ev (fun k=>sky_Mean.f k l p q n i d) (if okSky l p q n=true∧okBodyN l i=true∧okDay d=true then (meanOf (rd_T74 l i) d % 21600,0) else (0,2)):=by
 have bad:∀ c:Bool,c=true→Ev (fun k=>sky_Mean.j0 k i d c l p q n) (0,2):=fun c hc=>by
  refine Ev.step (fun k=>by rw [sky_Mean.j0]) ?_
  exact Ev.pos hc (Ev.now _)
 by_cases h:okSky l p q n=true∧okBodyN l i=true∧okDay d=true
 ·rw [if_pos h]
  obtain ⟨h1,h2,h3⟩:=h
  obtain ⟨j,rfl,hj⟩:=body_at h2
  exact Mean_ev h1 j hj (okIn_iff.mp h3)
 ·rw [if_neg h]
  unfold sky_Mean.f
  refine Ev.bind (isSky_ev l p q n) ?_
  cases h1:okSky l p q n with
  |false=>exact Ev.neg (by simp) (bad _ rfl)
  |true=>
   have hl:=(ok_at h1).2.1
   refine Ev.pos rfl (Ev.bind (Ev.is (isBody_eq (by omega) p q n i)) ?_)
   cases h2:okBodyN l i with
   |false=>exact Ev.neg (by simp) (bad _ rfl)
   |true=>
    refine Ev.pos rfl (Ev.bind (Ev.is (isDay_eq d)) (bad _ ?_))
    cases h3:okDay d with
    |false=>rfl
    |true=>exact absurd ⟨h1,h2,h3⟩ h
theorem Place_evG (l:List S74) (p q n i d:Int):Ev (fun k=>sky_Place.f k l p q n i d) (if okSky l p q n=true∧okBodyN l i=true∧okDay d=true then (wayOf (rd_T74 l i) d % 21600,0) else (0,2)):=by
 have bad:∀ c:Bool,c=true→Ev (fun k=>sky_Place.j0 k i d c l p q n) (0,2):=fun c hc=>by
  refine Ev.step (fun k=>by rw [sky_Place.j0]) ?_
  exact Ev.pos hc (Ev.now _)
 by_cases h:okSky l p q n=true∧okBodyN l i=true∧okDay d=true
 ·rw [if_pos h]
  obtain ⟨h1,h2,h3⟩:=h
  obtain ⟨j,rfl,hj⟩:=body_at h2
  exact Place_ev h1 j hj (okIn_iff.mp h3)
 ·rw [if_neg h]
  unfold sky_Place.f
  refine Ev.bind (isSky_ev l p q n) ?_
  cases h1:okSky l p q n with
  |false=>exact Ev.neg (by simp) (bad _ rfl)
  |true=>
   have hl:=(ok_at h1).2.1
   refine Ev.pos rfl (Ev.bind (Ev.is (isBody_eq (by omega) p q n i)) ?_)
   cases h2:okBodyN l i with
   |false=>exact Ev.neg (by simp) (bad _ rfl)
   |true=>
    refine Ev.pos rfl (Ev.bind (Ev.is (isDay_eq d)) (bad _ ?_))
    cases h3:okDay d with
    |false=>rfl
    |true=>exact absurd ⟨h1,h2,h3⟩ h
theorem Node_evG (l:List S74) (p q n d:Int):Ev (fun k=>sky_Node.f k l p q n d) (if okSky l p q n=true∧okDay d=true then (nodeOf p q n d,0) else (0,2)):=by
 unfold sky_Node.f
 refine Ev.bind (isSky_ev l p q n) ?_
 cases h1:okSky l p q n with
 |false=>
  refine Ev.neg (by simp) ?_
  rw [if_neg (by simp)]
  exact Ev.now _
 |true=>
  have hk:=ok_at h1
  refine Ev.pos rfl (Ev.bind (Ev.is (isDay_eq d)) ?_)
  cases h2:okDay d with
  |false=>
   refine Ev.neg (by simp) ?_
   rw [if_neg (by simp)]
   exact Ev.now _
  |true=>
   rw [if_pos (show true=true∧true=true from ⟨rfl,rfl⟩)]
   exact Ev.pos rfl (Ev.bind (Ev.is (node_eq hk.2.2.1 hk.2.2.2.1 (okIn_iff.mp h2))) (Ev.now _))
def okTwo (l:List S74) (i j:Int):Bool:=okBodyN l i && (okBodyN l j && (i != j))
theorem two_eq {l:List S74} (hl:l.length≤1000000) (p q n i j:Int):sky_areTwo.f l p q n i j=some (okTwo l i j):=by
 unfold sky_areTwo.f okTwo
 rw [isBody_eq hl,Option.bind_some]
 cases h1:okBodyN l i with
 |false=>rfl
 |true=>
  rw [if_pos rfl,isBody_eq hl,Option.bind_some]
  cases h2:okBodyN l j with
  |false=>rfl
  |true=>rfl
def aheadI (l:List S74) (i j d:Int):Int:=wayOf (rd_T74 l i) d - wayOf (rd_T74 l j) d
theorem two_at {l:List S74} {i j:Int} (h:okTwo l i j=true):∃ a b:Nat,i=a∧j=b∧a<l.length∧b<l.length∧a≠b:=by
 simp only [okTwo,Bool.and_eq_true,bne_iff_ne] at h
 obtain ⟨a,rfl,ha⟩:=body_at h.1
 obtain ⟨b,rfl,hb⟩:=body_at h.2.1
 exact ⟨a,b,rfl,rfl,ha,hb,fun e=>h.2.2 (by rw [e])⟩
theorem Between_evG (l:List S74) (p q n i j d:Int):Ev (fun k=>sky_Between.f k l p q n i j d) (if okSky l p q n=true∧okTwo l i j=true∧okDay d=true then (aheadI l i j d % 21600,0) else (0,2)):=by
 have bad:∀ c:Bool,c=true→Ev (fun k=>sky_Between.j0 k i j d c l p q n) (0,2):=fun c hc=>by
  refine Ev.step (fun k=>by rw [sky_Between.j0]) ?_
  exact Ev.pos hc (Ev.now _)
 by_cases h:okSky l p q n=true∧okTwo l i j=true∧okDay d=true
 ·rw [if_pos h]
  obtain ⟨h1,h2,h3⟩:=h
  obtain ⟨a,b,rfl,rfl,ha,hb,hab⟩:=two_at h2
  exact Between_ev h1 a b ha hb hab (okIn_iff.mp h3)
 ·rw [if_neg h]
  unfold sky_Between.f
  refine Ev.bind (isSky_ev l p q n) ?_
  cases h1:okSky l p q n with
  |false=>exact Ev.neg (by simp) (bad _ rfl)
  |true=>
   have hl:=(ok_at h1).2.1
   refine Ev.pos rfl (Ev.bind (Ev.is (two_eq (by omega) p q n i j)) ?_)
   cases h2:okTwo l i j with
   |false=>exact Ev.neg (by simp) (bad _ rfl)
   |true=>
    refine Ev.pos rfl (Ev.bind (Ev.is (isDay_eq d)) (bad _ ?_))
    cases h3:okDay d with
    |false=>rfl
    |true=>exact absurd ⟨h1,h2,h3⟩ h
end Go.Proofs.YtjahbgldccjbfaaGreatDoor.PSky
end
