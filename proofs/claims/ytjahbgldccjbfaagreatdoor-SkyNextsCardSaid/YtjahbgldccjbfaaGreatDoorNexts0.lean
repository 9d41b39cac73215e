/- A part of the proof of a law of the layer sky. -/
import Derived.ArgAppend
import Derived.Below
import Derived.BigQuiet
import Derived.ChangeSame
import Derived.Deep.AppendLies
import Derived.Deep.CutBlock
import Derived.Deep.DeepCutAuto
import Derived.Deep.DeepHandedRow
import Derived.Deep.Draws
import Derived.Deep.LoopGhost
import Derived.Deep.OwnRows
import Derived.Deep.QuietTactic
import Derived.Deep.RegionHeld3
import Derived.Deep.RegionLaw
import Derived.Deep.Slices
import Derived.Deep.Strs
import Derived.Defers
import Derived.KernelRfl
import Derived.LaidMore
import Derived.Laws.BitsLemmas
import Derived.Laws.BytesArg
import Derived.Laws.Entries
import Derived.Laws.IdiomCopy
import Derived.Laws.LoneSync
import Derived.Laws.MakeOwn
import Derived.Laws.NewBlocks
import Derived.Laws.OwnMore
import Derived.Laws.Pointers
import Derived.Laws.Rows
import Derived.Laws.Slices
import Derived.Laws.StructEq
import Derived.Lib.AppendStr
import Derived.Lib.ConvBytes
import Derived.Lib.LaidTab
import Derived.Lib.OthersKept
import Derived.Lib.SplitLaws
import Derived.LoopIn
import Derived.LoopN
import Derived.LoopNIn
import Derived.Maps.AppendAt
import Derived.Maps.Own
import Derived.Maps.OwnOps
import Derived.Maps.OwnSet
import Derived.Maps.Views
import Derived.OpenShut
import Derived.OrdersHeld
import Derived.OrdersIn
import Derived.Outline
import Derived.OwnWalk
import Derived.OwnWalkIn
import Derived.ProofKit
import Derived.RangeFuncBound
import Derived.RangeFuncBox
import Derived.RangeFuncCalls
import Derived.RangeFuncLeaves
import Derived.RangeFuncNested
import Derived.Recover
import Derived.RegionIn
import Derived.RowKit
import Derived.RowKit3
import Derived.Scope
import Derived.SevenTiedAt
import Derived.Shelf.Abstract
import Derived.Shelf.LaysM
import Derived.Shelf.RegionOpen
import Derived.Shelf.Strconv.Itoa0
import Derived.Shelf.Strconv.Itoa1
import Derived.Shelf.Strconv.Itoa2
import Derived.Shelf.Strconv.Itoa3
import Derived.Shelf.Strings.Builder1
import Derived.Shelf.Strings.Builder2
import Derived.Shelf.Strings.Count
import Derived.Shelf.Strings.Explode
import Derived.Shelf.Strings.OnBuilder
import Derived.Shelf.Strings.Prefix
import Derived.Shelf.Strings.RuneCount
import Derived.Shelf.Strings.Search1
import Derived.Shelf.Strings.Search2
import Derived.Shelf.Strings.Search3
import Derived.Shelf.Strings.Shaped
import Derived.Shelf.Strings.Split
import Derived.Shelf.Strings.SplitShaped
import Derived.Shelf.Unicode.Decode
import Derived.Shelf.Unicode.DecodeAny
import Derived.Shelf.Unicode.DecodeSlow
import Derived.Shelf.Utf8.RuneCount
import Derived.SizedLaws
import Derived.StillTactics
import Derived.Stop.Joined
import Derived.Stop.LaidErr
import Derived.Tactics
import Derived.TacticsIn
import Derived.TacticsInMore
import Derived.WalkKit
import Derived.WideLaws
import Derived.Test.YtjahbgldccjbfaaGreatDoorZ6
section
namespace Go.Proofs.YtjahbgldccjbfaaGreatDoor.PSky
open Go.RowKit Go.Proofs.YtjahbgldccjbfaaGreatDoorW.PrintWords Go.Proofs.YtjahbgldccjbfaaGreatDoorW.PrintLast Go.Proofs.YtjahbgldccjbfaaGreatDoorW.PrintMore
attribute [local go_sem] max2_int min2_int max_two min_two max_three min_three max_four min_four
set_option linter.unusedVariables false
set_option linter.unusedSimpArgs false
mutual
def tl_short.l0:Nat→Int→List (S74)→Int→Int→Int→Option (Bool)
 |0,_,_,_,_,_=>none
 |k+1,x3,x290000,x290001,x290002,x290003=>if x3<(x290000.length:Int) then (tl_short.j1 k x3 (decide (x3<7)) x290000 x290001 x290002 x290003) else (tl_short.j1 k x3 false x290000 x290001 x290002 x290003)
def tl_short.j1:Nat→Int→Bool→List (S74)→Int→Int→Int→Option (Bool)
 |0,_,_,_,_,_,_=>none
 |k+1,x3,x12,x290000,x290001,x290002,x290003=>if x12=true then (if 0≤x3 then (if x3<(x290000.length:Int) then (if (((rd_T74 x290000 x3).f2).length:Int) > 10 then (some false) else (tl_short.l0 k (wrap64 (x3+1)) x290000 x290001 x290002 x290003)) else (none)) else (none)) else (some (decide ((x290000.length:Int)≤6)))
end
def tl_short.f (k:Nat) (l0_0:List (S74)) (a0_1:Int) (a0_2:Int) (a0_3:Int):Option (Bool):=tl_short.l0 k 0 l0_0 a0_1 a0_2 a0_3
set_option maxHeartbeats 8000000 in
set_option maxRecDepth 100000 in
theorem tl_short.calls (k:Nat) (A0_0:Option Addr) (c0_0:Nat) (l0_0:List (S74)) (a0_1:Int) (a0_2:Int) (a0_3:Int) (r:Bool) (w:World) (hr0_0:Kd.C k74 w A0_0 l0_0.length l0_0) (hc0_0:l0_0.length≤c0_0) (h:tl_short.f k l0_0 a0_1 a0_2 a0_3=some r):
  Calls Tryz.prog 17 #[.agg #[.slice A0_0 l0_0.length c0_0,.int .i64 a0_1,.int .i64 a0_2,.int .i64 a0_3]] w fun e w'=>e=.returned (.bool r)∧Below w.heap.size w w':=by
 have hu29:=Tryz.underlying29
 have HR0_0:=A0_ hr0_0;have HC0_0:=A0_ hc0_0;clear hr0_0 hc0_0
 have HB:=A0_ (Below.refl w.heap.size w)
 have H:(tl_short.l0 k 0 l0_0 a0_1 a0_2 a0_3)=some r:=h
 clear h
 have H':=A0_ H
 clear H
 go_enter Tryz.func17,Tryz.ntmps17
 go_wp2_with (first|((with_reducible refine gate_dst (N:=1) rfl ?_);refine box_event ?hg (N:=1) ?hd (cs:=#[.slice A0_0 l0_0.length c0_0,.int .i64 a0_1,.int .i64 a0_2,.int .i64 a0_3]) (t:=29) ?hr ?_;(case hd=>rfl);(case hg=>rfl);(case hr=>first|(go_simp;done)|(go_simp;rfl));intro gb289 hg w2 hbox hb;have n0_:=A0_ (below_step y0_ hb);have n1_:=A0_ (hbox);have n2_:=A0_ ((by rw [hg];exact (below_size y0_):w.heap.size≤gb289));have n3_:=A0_ ((by rw [hg];exact (below_size y0_):w.heap.size≤gb289));clear HB;have HB:=n0_;have BK289:=n1_;have GW289:=n2_;have GE289:=n3_;clear n0_ n1_ n2_ n3_;clear hb hbox hg))
 go_loopg [3] k (fun kq v3 w'=>∃ (x3_1:Int),v3=.int .i64 x3_1∧Aside0 (tl_short.l0 kq x3_1 l0_0 a0_1 a0_2 a0_3=some r)∧Aside0 (kq≤k)∧Aside0 (w'.heap[gb289]?=some (.cells #[(.slice A0_0 l0_0.length c0_0),.int .i64 a0_1,.int .i64 a0_2,.int .i64 a0_3] 29 (0,0)))∧Aside0 (Below w.heap.size w w'))
 case atStart=>exact ⟨(0),y4_,H',⟨Nat.le_refl _⟩,⟨by (with_reducible repeat (first|refine blk_drewN ?_ _|refine blk_drew ?_|refine blk_alloc ?_ _));exact BK289.out⟩,⟨(by repeat (first|(with_reducible first|exact HB.out|apply below_alloc|apply pw_below_drewN|apply below_drew1|refine below_set ?_ GE289.out)|exact HB.out))⟩⟩
 case round=>
  clear H'
  (try clear c1);(try clear p2)
  obtain ⟨x3_1,rfl,HA,HK1,BK289,HB⟩:=hrel
  cases gk with
  |zero=>exact absurd HA.out (by simp [tl_short.l0])
  |succ k1=>
   have H:=HA.out
   clear HA
   simp only [tl_short.l0] at H
   have HC3:=A0_ H;clear H
   go_upto_region 2 with (fail)
   go_cut [12] (fun v12 wc=>∃ (kq:Nat) (x12_2:Bool),v12=.bool x12_2∧Aside0 (tl_short.j1 kq x3_1 x12_2 l0_0 a0_1 a0_2 a0_3=some r)∧Aside0 (kq≤k1)∧Aside0 (wc.heap[gb289]?=some (.cells #[(.slice A0_0 l0_0.length c0_0),.int .i64 a0_1,.int .i64 a0_2,.int .i64 a0_3] 29 (0,0)))∧Aside0 (Below w.heap.size w wc))
   case first=>
    have H:=HC3.out
    clear HC3
    by_cases c4:x3_1<(l0_0.length:Int)
    ·rw [if_pos c4] at H;have c4b0:decide (x3_1<(l0_0.length:Int))=true:=decide_eq_true c4;clear c4
     (first|rw [c4b0]|(simp only [i64_w,i32_w];rw [c4b0])|skip)
     have H':=A0_ H
     clear H;obtain ⟨hcz5_0,hcz5_1,hcz5_2,hcz5_3,hfz5_0,hfz5_1,hfz5_2,hfz5_3⟩:=bq4_ BK289.out;go_wp2
     go_meet
     case rel=>exact ⟨_,(decide (x3_1<7)),y4_,H',⟨by have:=HK1.out;first|omega|exact Nat.le_refl _⟩,⟨by (with_reducible repeat (first|refine blk_drewN ?_ _|refine blk_drew ?_|refine blk_alloc ?_ _));exact BK289.out⟩,⟨(by repeat (first|(with_reducible first|exact HB.out|apply below_alloc|apply pw_below_drewN|apply below_drew1|refine below_set ?_ GE289.out)|exact HB.out))⟩⟩
    ·rw [if_neg c4] at H;have c4b0:decide (x3_1<(l0_0.length:Int))=false:=decide_eq_false c4;clear c4
     (first|rw [c4b0]|(simp only [i64_w,i32_w];rw [c4b0])|skip)
     have H':=A0_ H
     clear H;obtain ⟨hcz6_0,hcz6_1,hcz6_2,hcz6_3,hfz6_0,hfz6_1,hfz6_2,hfz6_3⟩:=bq4_ BK289.out;go_wp2
     go_meet
     case rel=>exact ⟨_,(false),y4_,H',⟨by have:=HK1.out;first|omega|exact Nat.le_refl _⟩,⟨by (with_reducible repeat (first|refine blk_drewN ?_ _|refine blk_drew ?_|refine blk_alloc ?_ _));exact BK289.out⟩,⟨(by repeat (first|(with_reducible first|exact HB.out|apply below_alloc|apply pw_below_drewN|apply below_drew1|refine below_set ?_ GE289.out)|exact HB.out))⟩⟩
   case rest=>
    clear HC3;(try clear c1);(try clear p2);(try clear c4);(try clear c4b0);(try clear hcz5_0);(try clear hcz5_1);(try clear hcz5_2);(try clear hcz5_3);(try clear hcz6_0);(try clear hcz6_1);(try clear hcz6_2);(try clear hcz6_3);(try clear hfz5_0);(try clear hfz5_1);(try clear hfz5_2);(try clear hfz5_3);(try clear hfz6_0);(try clear hfz6_1);(try clear hfz6_2);(try clear hfz6_3);(try clear p2)
    obtain ⟨kq,x12_2,rfl,HA,HJ2,BK289,HB⟩:=hcut
    cases kq with
    |zero=>exact absurd HA.out (by simp [tl_short.j1])
    |succ kj2=>
     have H:=HA.out
     clear HA
     simp only [tl_short.j1] at H
     by_cases c7:x12_2=true
     ·subst c7
      have H1:(if 0≤x3_1 then (if x3_1<(l0_0.length:Int) then (if (((rd_T74 l0_0 x3_1).f2).length:Int) > 10 then (some false) else (tl_short.l0 kj2 (wrap64 (x3_1+1)) l0_0 a0_1 a0_2 a0_3)) else (none)) else (none))=some r:=by rw [if_pos rfl] at H;exact H
      clear H;have H:=H1;clear H1
      by_cases c8:0≤x3_1
      ·rw [if_pos c8] at H;have c8b0:decide (0≤x3_1)=true:=decide_eq_true c8;clear c8
       by_cases c9:x3_1<(l0_0.length:Int)
       ·rw [if_pos c9] at H;have c9b0:decide (x3_1<(l0_0.length:Int))=true:=decide_eq_true c9;clear c9
        by_cases c10:(((rd_T74 l0_0 x3_1).f2).length:Int) > 10
        ·rw [if_pos c10] at H;have c10b0:decide (10<(((rd_T74 l0_0 x3_1).f2).length:Int))=true:=decide_eq_true c10
         have c10b1:decide (10<((rd_T74 l0_0 x3_1).f2).length)=true:=decide_eq_true (by omega)
         clear c10;obtain rfl:=Option.some.inj H;obtain ⟨hcz11_0,hcz11_1,hcz11_2,hcz11_3,hfz11_0,hfz11_1,hfz11_2,hfz11_3⟩:=bq4_ BK289.out
         have p290:0≤(x3_1:Int):=of_decide_eq_true y5_
         have q290:x3_1<(l0_0.length:Int):=of_decide_eq_true y5_
         obtain ⟨ad290,A290_3,c290_3,e290,hx290_0,hx290_1,hx290_2,hx290_3,hl290_3,hi290_3⟩:=at_T74 HR0_0.out x3_1 p290 q290
         cases e290
         replace hx290_0:=(HB.out.cell (World.block_lt_of_cell? w _ hx290_0)).trans hx290_0
         replace hx290_1:=(HB.out.cell (World.block_lt_of_cell? w _ hx290_1)).trans hx290_1
         replace hx290_2:=(HB.out.cell (World.block_lt_of_cell? w _ hx290_2)).trans hx290_2
         replace hx290_3:=(HB.out.cell (World.block_lt_of_cell? w _ hx290_3)).trans hx290_3
         have HR290_3:=A0_ hi290_3;have HC290_3:=A0_ hl290_3;clear hi290_3 hl290_3
         replace p290:=eq_true p290
         replace q290:=eq_true q290
         go_wp2;go_ret
         exact ⟨y2_,(by repeat (first|(with_reducible first|exact HB.out|apply below_alloc|apply pw_below_drewN|apply below_drew1|refine below_set ?_ GE289.out)|exact HB.out))⟩
        ·rw [if_neg c10] at H;have c10b0:decide (10<(((rd_T74 l0_0 x3_1).f2).length:Int))=false:=decide_eq_false c10
         have c10b1:decide (10<((rd_T74 l0_0 x3_1).f2).length)=false:=decide_eq_false (by omega)
         clear c10
         have H':=A0_ H
         clear H;obtain ⟨hcz12_0,hcz12_1,hcz12_2,hcz12_3,hfz12_0,hfz12_1,hfz12_2,hfz12_3⟩:=bq4_ BK289.out
         have p290:0≤(x3_1:Int):=of_decide_eq_true y5_
         have q290:x3_1<(l0_0.length:Int):=of_decide_eq_true y5_
         obtain ⟨ad290,A290_3,c290_3,e290,hx290_0,hx290_1,hx290_2,hx290_3,hl290_3,hi290_3⟩:=at_T74 HR0_0.out x3_1 p290 q290
         cases e290
         replace hx290_0:=(HB.out.cell (World.block_lt_of_cell? w _ hx290_0)).trans hx290_0
         replace hx290_1:=(HB.out.cell (World.block_lt_of_cell? w _ hx290_1)).trans hx290_1
         replace hx290_2:=(HB.out.cell (World.block_lt_of_cell? w _ hx290_2)).trans hx290_2
         replace hx290_3:=(HB.out.cell (World.block_lt_of_cell? w _ hx290_3)).trans hx290_3
         have HR290_3:=A0_ hi290_3;have HC290_3:=A0_ hl290_3;clear hi290_3 hl290_3
         replace p290:=eq_true p290
         replace q290:=eq_true q290
         go_wp2
         go_roundg kj2
         case measure=>have:=HK1.out;have:=HJ2.out;omega
         case rel=>exact ⟨(wrap64 (x3_1+1)),y4_,H',⟨by have:=HK1.out;have:=HJ2.out;omega⟩,⟨by (with_reducible repeat (first|refine blk_drewN ?_ _|refine blk_drew ?_|refine blk_alloc ?_ _));exact BK289.out⟩,⟨(by repeat (first|(with_reducible first|exact HB.out|apply below_alloc|apply pw_below_drewN|apply below_drew1|refine below_set ?_ GE289.out)|exact HB.out))⟩⟩
       ·rw [if_neg c9] at H;exact absurd H (by simp)
      ·rw [if_neg c8] at H;exact absurd H (by simp)
     ·replace c7:=Bool.eq_false_iff.mpr c7;subst c7
      have H1:(some (decide ((l0_0.length:Int)≤6)))=some r:=by rw [if_neg (show ¬ (false=true) by decide)] at H;exact H
      clear H;have H:=H1;clear H1;obtain rfl:=Option.some.inj H;obtain ⟨hcz13_0,hcz13_1,hcz13_2,hcz13_3,hfz13_0,hfz13_1,hfz13_2,hfz13_3⟩:=bq4_ BK289.out;go_wp2;go_ret
      exact ⟨y2_,(by repeat (first|(with_reducible first|exact HB.out|apply below_alloc|apply pw_below_drewN|apply below_drew1|refine below_set ?_ GE289.out)|exact HB.out))⟩
end Go.Proofs.YtjahbgldccjbfaaGreatDoor.PSky
end
section
namespace Go.Proofs.YtjahbgldccjbfaaGreatDoor.PSky
open Go.RowKit Go.Proofs.YtjahbgldccjbfaaGreatDoorW.PrintWords Go.Proofs.YtjahbgldccjbfaaGreatDoorW.PrintLast Go.Proofs.YtjahbgldccjbfaaGreatDoorW.PrintMore
attribute [local go_sem] max2_int min2_int max_two min_two max_three min_three max_four min_four
set_option linter.unusedVariables false
set_option linter.unusedSimpArgs false
def tr_Day.f (a0:Int):Option (Bool):=(tr_in.f a0 0 20000).bind fun t551=>(some t551)
set_option maxHeartbeats 8000000 in
set_option maxRecDepth 100000 in
theorem tr_Day.calls (a0:Int) (r:Bool) (w:World) (h:tr_Day.f a0=some r):
  Calls Tryz.prog 44 #[.int .i64 a0] w fun e w'=>e=.returned (.bool r)∧Drawn0 w w':=by
 have H:((tr_in.f a0 0 20000).bind fun t551=>(some t551))=some r:=h
 clear h;replace H:=Option.bind_eq_some_iff.mp H;obtain ⟨t551,A20,H⟩:=H
 replace H:(some t551)=some r:=H
 have A2:=A0_ A20;clear A20;obtain rfl:=Option.some.inj H
 go_enter Tryz.func44,Tryz.ntmps44
 go_wp2_with (first|((with_reducible refine gate_callee (f:=66) rfl ?_);refine goesL_ (some 4) rfl rfl Tryz.func66 (by kernel_rfl) rfl #[.int .i64 a0,.int .i64 0,.int .i64 20000] rfl y1_ ?_;(with_reducible refine (tr_in.calls a0 0 20000 t551 _ A2.out).mono ?_);rintro e w' ⟨rfl,⟨nd,rfl⟩⟩;refine ⟨_,rfl,?_⟩))
 go_ret
 exact ⟨y4_,yb_⟩
end Go.Proofs.YtjahbgldccjbfaaGreatDoor.PSky
end
section
namespace Go.Proofs.YtjahbgldccjbfaaGreatDoor.PSky
open Go.RowKit Go.Proofs.YtjahbgldccjbfaaGreatDoorW.PrintWords Go.Proofs.YtjahbgldccjbfaaGreatDoorW.PrintLast Go.Proofs.YtjahbgldccjbfaaGreatDoorW.PrintMore
attribute [local go_sem] max2_int min2_int max_two min_two max_three min_three max_four min_four
set_option linter.unusedVariables false
set_option linter.unusedSimpArgs false
def tr_down.f (a0:Int) (a1:Int):Option (Int):=if a1=0 then (none) else (if (wrap64 ((wrap64 (Int.tdiv a0 a1))*a1)) > a0 then (some (wrap64 ((wrap64 (Int.tdiv a0 a1)) - 1))) else (some (wrap64 (Int.tdiv a0 a1))))
set_option maxHeartbeats 8000000 in
set_option maxRecDepth 100000 in
theorem tr_down.calls (a0:Int) (a1:Int) (r:Int) (w:World) (h:tr_down.f a0 a1=some r):
  Calls Tryz.prog 129 #[.int .i64 a0,.int .i64 a1] w fun e w'=>e=.returned (.int .i64 r)∧Drawn0 w w':=by
 have H:(if a1=0 then (none) else (if (wrap64 ((wrap64 (Int.tdiv a0 a1))*a1)) > a0 then (some (wrap64 ((wrap64 (Int.tdiv a0 a1)) - 1))) else (some (wrap64 (Int.tdiv a0 a1)))))=some r:=h
 clear h
 by_cases c3:a1=0
 ·rw [if_pos c3] at H;exact absurd H (by simp)
 ·rw [if_neg c3] at H
  have c3b0:(a1 == 0)=false:=beq_eq_false_iff_ne.mpr c3
  have c3b1:(a1 != 0)=true:=bne_iff_ne.mpr c3
  by_cases c4:(wrap64 ((wrap64 (Int.tdiv a0 a1))*a1)) > a0
  ·rw [if_pos c4] at H;have c4b0:decide (a0<(wrap64 ((wrap64 (Int.tdiv a0 a1))*a1)))=true:=decide_eq_true c4;clear c4;obtain rfl:=Option.some.inj H
   go_enter Tryz.func129,Tryz.ntmps129
   go_wp2;go_ret
   exact ⟨y4_,yb_⟩
  ·rw [if_neg c4] at H;have c4b0:decide (a0<(wrap64 ((wrap64 (Int.tdiv a0 a1))*a1)))=false:=decide_eq_false c4;clear c4;obtain rfl:=Option.some.inj H
   go_enter Tryz.func129,Tryz.ntmps129
   go_wp2;go_ret
   exact ⟨y4_,yb_⟩
def tr_Less.f (a0:Int):Option (Int):=(tr_down.f a0 21600).bind fun t295=>(some (wrap64 (a0 - (wrap64 (t295*21600)))))
set_option maxHeartbeats 8000000 in
set_option maxRecDepth 100000 in
theorem tr_Less.calls (a0:Int) (r:Int) (w:World) (h:tr_Less.f a0=some r):
  Calls Tryz.prog 82 #[.int .i64 a0] w fun e w'=>e=.returned (.int .i64 r)∧Drawn0 w w':=by
 have H:((tr_down.f a0 21600).bind fun t295=>(some (wrap64 (a0 - (wrap64 (t295*21600))))))=some r:=h
 clear h;replace H:=Option.bind_eq_some_iff.mp H;obtain ⟨t295,A20,H⟩:=H
 replace H:(some (wrap64 (a0 - (wrap64 (t295*21600)))))=some r:=H
 have A2:=A0_ A20;clear A20;obtain rfl:=Option.some.inj H
 go_enter Tryz.func82,Tryz.ntmps82
 go_wp2_with (first|((with_reducible refine gate_callee (f:=129) rfl ?_);refine goesL_ (some 5) rfl rfl Tryz.func129 (by kernel_rfl) rfl #[.int .i64 a0,.int .i64 21600] rfl y1_ ?_;(with_reducible refine (tr_down.calls a0 21600 t295 _ A2.out).mono ?_);rintro e w' ⟨rfl,⟨nd,rfl⟩⟩;refine ⟨_,rfl,?_⟩))
 go_ret
 exact ⟨y4_,yb_⟩
end Go.Proofs.YtjahbgldccjbfaaGreatDoor.PSky
end
section
namespace Go.Proofs.YtjahbgldccjbfaaGreatDoor.PSky
open Go.RowKit Go.Proofs.YtjahbgldccjbfaaGreatDoorW.PrintWords Go.Proofs.YtjahbgldccjbfaaGreatDoorW.PrintLast Go.Proofs.YtjahbgldccjbfaaGreatDoorW.PrintMore
attribute [local go_sem] max2_int min2_int max_two min_two max_three min_three max_four min_four
set_option linter.unusedVariables false
set_option linter.unusedSimpArgs false
def tr_passed.f (a0:Int) (a1:Int):Option (Bool):=(tr_down.f a1 21600).bind fun t324=>((tr_down.f a0 21600).bind fun t325=>(some (decide (t324 > t325))))
set_option maxHeartbeats 8000000 in
set_option maxRecDepth 100000 in
theorem tr_passed.calls (a0:Int) (a1:Int) (r:Bool) (w:World) (h:tr_passed.f a0 a1=some r):
  Calls Tryz.prog 77 #[.int .i64 a0,.int .i64 a1] w fun e w'=>e=.returned (.bool r)∧Drawn0 w w':=by
 have H:((tr_down.f a1 21600).bind fun t324=>((tr_down.f a0 21600).bind fun t325=>(some (decide (t324 > t325)))))=some r:=h
 clear h;replace H:=Option.bind_eq_some_iff.mp H;obtain ⟨t324,A30,H⟩:=H
 replace H:((tr_down.f a0 21600).bind fun t325=>(some (decide (t324 > t325))))=some r:=H
 have A3:=A0_ A30;clear A30;replace H:=Option.bind_eq_some_iff.mp H;obtain ⟨t325,A40,H⟩:=H
 replace H:(some (decide (t324 > t325)))=some r:=H
 have A4:=A0_ A40;clear A40;obtain rfl:=Option.some.inj H
 go_enter Tryz.func77,Tryz.ntmps77
 go_wp2_with (first|((with_reducible refine gate_callee (f:=129) rfl ?_);refine goesL_ (some 6) rfl rfl Tryz.func129 (by kernel_rfl) rfl #[.int .i64 a1,.int .i64 21600] rfl y1_ ?_;(with_reducible refine (tr_down.calls a1 21600 t324 _ A3.out).mono ?_);rintro e w' ⟨rfl,⟨nd,rfl⟩⟩;refine ⟨_,rfl,?_⟩)|((with_reducible refine gate_callee (f:=129) rfl ?_);refine goesL_ (some 8) rfl rfl Tryz.func129 (by kernel_rfl) rfl #[.int .i64 a0,.int .i64 21600] rfl y1_ ?_;(with_reducible refine (tr_down.calls a0 21600 t325 _ A4.out).mono ?_);rintro e w' ⟨rfl,⟨nd,rfl⟩⟩;refine ⟨_,rfl,?_⟩))
 go_ret
 exact ⟨y4_,yb_⟩
end Go.Proofs.YtjahbgldccjbfaaGreatDoor.PSky
end
section
namespace Go.Proofs.YtjahbgldccjbfaaGreatDoor.PSky
open Go.RowKit Go.Proofs.YtjahbgldccjbfaaGreatDoorW.PrintWords Go.Proofs.YtjahbgldccjbfaaGreatDoorW.PrintLast Go.Proofs.YtjahbgldccjbfaaGreatDoorW.PrintMore
attribute [local go_sem] max2_int min2_int max_two min_two max_three min_three max_four min_four
set_option linter.unusedVariables false
set_option linter.unusedSimpArgs false
def tr_mean.f (a0_0:Int) (a0_1:Int) (a0_2:Int) (l0_3:List Int) (a1:Int):Option (Int):=if a0_0=0 then (none) else (some (wrap64 (a0_2+(wrap64 (Int.tdiv (wrap64 ((wrap64 (a1*21600))*a0_1)) a0_0)))))
set_option maxHeartbeats 8000000 in
set_option maxRecDepth 100000 in
theorem tr_mean.calls (a0_0:Int) (a0_1:Int) (a0_2:Int) (A0_3:Option Addr) (c0_3:Nat) (l0_3:List Int) (a1:Int) (r:Int) (w:World) (hr0_3:Kd.C (Kd.int .i64) w A0_3 l0_3.length l0_3) (hc0_3:l0_3.length≤c0_3) (h:tr_mean.f a0_0 a0_1 a0_2 l0_3 a1=some r):
  Calls Tryz.prog 96 #[.agg #[.int .i64 a0_0,.int .i64 a0_1,.int .i64 a0_2,.slice A0_3 l0_3.length c0_3],.int .i64 a1] w fun e w'=>e=.returned (.int .i64 r)∧Below w.heap.size w w':=by
 have hu74:=Tryz.underlying74
 have HR0_3:=A0_ hr0_3;have HC0_3:=A0_ hc0_3;clear hr0_3 hc0_3
 have HB:=A0_ (Below.refl w.heap.size w)
 have H:(if a0_0=0 then (none) else (some (wrap64 (a0_2+(wrap64 (Int.tdiv (wrap64 ((wrap64 (a1*21600))*a0_1)) a0_0))))))=some r:=h
 clear h
 by_cases c3:a0_0=0
 ·rw [if_pos c3] at H;exact absurd H (by simp)
 ·rw [if_neg c3] at H
  have c3b0:(a0_0 == 0)=false:=beq_eq_false_iff_ne.mpr c3
  have c3b1:(a0_0 != 0)=true:=bne_iff_ne.mpr c3
  obtain rfl:=Option.some.inj H
  go_enter Tryz.func96,Tryz.ntmps96
  go_wp2_with (first|((with_reducible refine gate_dst (N:=2) rfl ?_);refine box_event ?hg (N:=2) ?hd (cs:=#[.int .i64 a0_0,.int .i64 a0_1,.int .i64 a0_2,.slice A0_3 l0_3.length c0_3]) (t:=74) ?hr ?_;(case hd=>rfl);(case hg=>rfl);(case hr=>first|(go_simp;done)|(go_simp;rfl));intro gb297 hg w4 hbox hb;have n0_:=A0_ (below_step y0_ hb);have n1_:=A0_ (hbox);have n2_:=A0_ ((by rw [hg];exact (below_size y0_):w.heap.size≤gb297));have n3_:=A0_ ((by rw [hg];exact (below_size y0_):w.heap.size≤gb297));clear HB;have HB:=n0_;have BK297:=n1_;have GW297:=n2_;have GE297:=n3_;clear n0_ n1_ n2_ n3_;clear hb hbox hg;obtain ⟨hcz5_0,hcz5_1,hcz5_2,hcz5_3,hfz5_0,hfz5_1,hfz5_2,hfz5_3⟩:=bq4_ BK297.out))
  repeat (go_quiet (first|((with_reducible refine gate_dst (N:=2) rfl ?_);refine box_event ?hg (N:=2) ?hd (cs:=#[.int .i64 a0_0,.int .i64 a0_1,.int .i64 a0_2,.slice A0_3 l0_3.length c0_3]) (t:=74) ?hr ?_;(case hd=>rfl);(case hg=>rfl);(case hr=>first|(go_simp;done)|(go_simp;rfl));intro gb297 hg w4 hbox hb;have n0_:=A0_ (below_step y0_ hb);have n1_:=A0_ (hbox);have n2_:=A0_ ((by rw [hg];exact (below_size y0_):w.heap.size≤gb297));have n3_:=A0_ ((by rw [hg];exact (below_size y0_):w.heap.size≤gb297));clear HB;have HB:=n0_;have BK297:=n1_;have GW297:=n2_;have GE297:=n3_;clear n0_ n1_ n2_ n3_;clear hb hbox hg;obtain ⟨hcz5_0,hcz5_1,hcz5_2,hcz5_3,hfz5_0,hfz5_1,hfz5_2,hfz5_3⟩:=bq4_ BK297.out));try go_wp2_with (first|((with_reducible refine gate_dst (N:=2) rfl ?_);refine box_event ?hg (N:=2) ?hd (cs:=#[.int .i64 a0_0,.int .i64 a0_1,.int .i64 a0_2,.slice A0_3 l0_3.length c0_3]) (t:=74) ?hr ?_;(case hd=>rfl);(case hg=>rfl);(case hr=>first|(go_simp;done)|(go_simp;rfl));intro gb297 hg w4 hbox hb;have n0_:=A0_ (below_step y0_ hb);have n1_:=A0_ (hbox);have n2_:=A0_ ((by rw [hg];exact (below_size y0_):w.heap.size≤gb297));have n3_:=A0_ ((by rw [hg];exact (below_size y0_):w.heap.size≤gb297));clear HB;have HB:=n0_;have BK297:=n1_;have GW297:=n2_;have GE297:=n3_;clear n0_ n1_ n2_ n3_;clear hb hbox hg;obtain ⟨hcz5_0,hcz5_1,hcz5_2,hcz5_3,hfz5_0,hfz5_1,hfz5_2,hfz5_3⟩:=bq4_ BK297.out)))
  go_ret
  exact ⟨y2_,(by repeat (first|(with_reducible first|exact HB.out|apply below_alloc|apply pw_below_drewN|apply below_drew1|refine below_set ?_ GE297.out)|exact HB.out))⟩
def tr_Mean.f (a0_0:Int) (a0_1:Int) (a0_2:Int) (l0_3:List Int) (a1:Int):Option (Int):=(tr_mean.f a0_0 a0_1 a0_2 l0_3 a1).bind fun t299=>((tr_Less.f t299).bind fun t300=>(some t300))
set_option maxHeartbeats 8000000 in
set_option maxRecDepth 100000 in
theorem tr_Mean.calls (a0_0:Int) (a0_1:Int) (a0_2:Int) (A0_3:Option Addr) (c0_3:Nat) (l0_3:List Int) (a1:Int) (r:Int) (w:World) (hr0_3:Kd.C (Kd.int .i64) w A0_3 l0_3.length l0_3) (hc0_3:l0_3.length≤c0_3) (h:tr_Mean.f a0_0 a0_1 a0_2 l0_3 a1=some r):
  Calls Tryz.prog 46 #[.agg #[.int .i64 a0_0,.int .i64 a0_1,.int .i64 a0_2,.slice A0_3 l0_3.length c0_3],.int .i64 a1] w fun e w'=>e=.returned (.int .i64 r)∧Below w.heap.size w w':=by
 have hu74:=Tryz.underlying74
 have HR0_3:=A0_ hr0_3;have HC0_3:=A0_ hc0_3;clear hr0_3 hc0_3
 have HB:=A0_ (Below.refl w.heap.size w)
 have H:((tr_mean.f a0_0 a0_1 a0_2 l0_3 a1).bind fun t299=>((tr_Less.f t299).bind fun t300=>(some t300)))=some r:=h
 clear h;replace H:=Option.bind_eq_some_iff.mp H;obtain ⟨t299,A30,H⟩:=H
 replace H:((tr_Less.f t299).bind fun t300=>(some t300))=some r:=H
 have A3:=A0_ A30;clear A30;replace H:=Option.bind_eq_some_iff.mp H;obtain ⟨t300,A40,H⟩:=H
 replace H:(some t300)=some r:=H
 have A4:=A0_ A40;clear A40;obtain rfl:=Option.some.inj H
 go_enter Tryz.func46,Tryz.ntmps46
 go_wp2_with (first|((with_reducible refine gate_dst (N:=2) rfl ?_);refine box_event ?hg (N:=2) ?hd (cs:=#[.int .i64 a0_0,.int .i64 a0_1,.int .i64 a0_2,.slice A0_3 l0_3.length c0_3]) (t:=74) ?hr ?_;(case hd=>rfl);(case hg=>rfl);(case hr=>first|(go_simp;done)|(go_simp;rfl));intro gb298 hg w5 hbox hb;have n0_:=A0_ (below_step y0_ hb);have n1_:=A0_ (hbox);have n2_:=A0_ ((by rw [hg];exact (below_size y0_):w.heap.size≤gb298));have n3_:=A0_ ((by rw [hg];exact (below_size y0_):w.heap.size≤gb298));clear HB;have HB:=n0_;have BK298:=n1_;have GW298:=n2_;have GE298:=n3_;clear n0_ n1_ n2_ n3_;clear hb hbox hg;obtain ⟨hcz6_0,hcz6_1,hcz6_2,hcz6_3,hfz6_0,hfz6_1,hfz6_2,hfz6_3⟩:=bq4_ BK298.out)|((with_reducible refine gate_callee (f:=96) rfl ?_);refine goesL_ (some 7) rfl rfl Tryz.func96 (by kernel_rfl) rfl #[.agg #[.int .i64 a0_0,.int .i64 a0_1,.int .i64 a0_2,.slice A0_3 l0_3.length c0_3],.int .i64 a1] rfl y1_ ?_;(with_reducible refine (tr_mean.calls a0_0 a0_1 a0_2 _ _ l0_3 a1 t299 _ ?side1 ?side2 A3.out).mono ?_);(case side1=>repeat (first|exact (Kd.C_below HR0_3.out HB.out)|(with_reducible refine Kd.C_alloc ?_ _)|(with_reducible refine Kd.C_drewN ?_ _)|(with_reducible refine Kd.C_drew ?_)));(case side2=>exact HC0_3.out);rintro e w7 ⟨rfl,hb⟩;refine ⟨_,rfl,?_⟩;have n0_:=A0_ (blk_below (g:=gb298) (o:=.cells #[.int .i64 a0_0,.int .i64 a0_1,.int .i64 a0_2,.slice A0_3 l0_3.length c0_3] 74 (0,0)) (bd_ BK298.out) hb);have n1_:=A0_ (below_step (by repeat (first|(with_reducible first|exact HB.out|apply below_alloc|apply pw_below_drewN|apply below_drew1|refine below_set ?_ GE298.out)|exact HB.out)) hb);clear BK298;clear HB;have BK298:=n0_;have HB:=n1_;clear n0_ n1_;(try clear hb);(try clear hb2);(try clear hk);(try clear hi))|((with_reducible refine gate_callee (f:=82) rfl ?_);refine goesL_ (some 8) rfl rfl Tryz.func82 (by kernel_rfl) rfl #[.int .i64 t299] rfl y1_ ?_;(with_reducible refine (tr_Less.calls t299 t300 _ A4.out).mono ?_);rintro e w' ⟨rfl,⟨nd,rfl⟩⟩;refine ⟨_,rfl,?_⟩))
 go_ret
 exact ⟨y2_,(by repeat (first|(with_reducible first|exact HB.out|apply below_alloc|apply pw_below_drewN|apply below_drew1|refine below_set ?_ GE298.out)|exact HB.out))⟩
def tr_way.f (a0_0:Int) (a0_1:Int) (a0_2:Int) (l0_3:List Int) (a1:Int):Option (Int):=(tr_Mean.f a0_0 a0_1 a0_2 l0_3 a1).bind fun t302=>(if (l0_3.length:Int)=0 then (none) else (if 0≤(Int.tmod (wrap64 ((wrap64 (Int.tdiv (wrap64 (t302*(l0_3.length:Int))) 21600))+1)) (l0_3.length:Int)) then (if (Int.tmod (wrap64 ((wrap64 (Int.tdiv (wrap64 (t302*(l0_3.length:Int))) 21600))+1)) (l0_3.length:Int))<(l0_3.length:Int) then ((tr_mean.f a0_0 a0_1 a0_2 l0_3 a1).bind fun t304=>(if 0≤(wrap64 (Int.tdiv (wrap64 (t302*(l0_3.length:Int))) 21600)) then (if (wrap64 (Int.tdiv (wrap64 (t302*(l0_3.length:Int))) 21600))<(l0_3.length:Int) then ((tr_down.f (wrap64 ((wrap64 ((rd l0_3 (Int.tmod (wrap64 ((wrap64 (Int.tdiv (wrap64 (t302*(l0_3.length:Int))) 21600))+1)) (l0_3.length:Int))) - (rd l0_3 (wrap64 (Int.tdiv (wrap64 (t302*(l0_3.length:Int))) 21600)))))*(Int.tmod (wrap64 (t302*(l0_3.length:Int))) 21600))) 21600).bind fun t307=>(some (wrap64 ((wrap64 (t304+(rd l0_3 (wrap64 (Int.tdiv (wrap64 (t302*(l0_3.length:Int))) 21600)))))+t307)))) else (none)) else (none))) else (none)) else (none)))
def tr_way.T1:Bool × List (List Nat × List Nat):=(true,[([],[]),([],[]),([0,1],[0,1]),([],[]),([3],[3]),([4],[4]),([2,5],[2,5]),([6,2,0,1,2,3,4,5,6],[6])])
def tr_way.B1:List Nat:=[0,0,3,0,8,24,63,127]
theorem tr_way.tab1:rtab .any (opsOf Tryz.f97 1)=tr_way.T1:=by kernel_rfl
theorem tr_way.bits1:waitsOk tr_way.T1.2 tr_way.B1=true:=by kernel_rfl
def tr_way.T3:Bool × List (List Nat × List Nat):=(true,[([],[]),([0],[0]),([],[]),([2],[2]),([],[]),([4],[4]),([5],[5]),([3,6],[3,6]),([1,7],[1,7]),([8],[8]),([9,0,1,2,3,4,5,6,7,8,9],[9])])
def tr_way.B3:List Nat:=[0,1,0,4,0,16,48,124,255,511,1023]
theorem tr_way.tab3:rtab .any (opsOf Tryz.f97 3)=tr_way.T3:=by kernel_rfl
theorem tr_way.bits3:waitsOk tr_way.T3.2 tr_way.B3=true:=by kernel_rfl
def tr_way.T4:Bool × List (List Nat × List Nat):=(true,[([],[]),([],[]),([0,1],[0,1]),([],[]),([3],[3]),([],[]),([4,5],[4,5]),([6],[6]),([2,7],[2,7]),([],[]),([],[]),([10],[10]),([],[]),([11,12],[11,12]),([13],[13]),([9,14],[9,14]),([],[]),([16],[16]),([15,17],[15,17]),([18,2],[18]),([8,19],[8,19]),([20,19,0,1,2,3,4,5,6,7,8,9,10,11,12,13,14,15,16,17,18,19,20],[20])])
def tr_way.B4:List Nat:=[0,0,3,0,8,0,56,120,255,0,0,1024,0,7168,15360,32256,0,65536,261632,523783,1048575,2097151]
theorem tr_way.tab4:rtab .any (opsOf Tryz.f97 4)=tr_way.T4:=by kernel_rfl
theorem tr_way.bits4:waitsOk tr_way.T4.2 tr_way.B4=true:=by kernel_rfl
set_option maxHeartbeats 8000000 in
set_option maxRecDepth 100000 in
theorem tr_way.calls (a0_0:Int) (a0_1:Int) (a0_2:Int) (A0_3:Option Addr) (c0_3:Nat) (l0_3:List Int) (a1:Int) (r:Int) (w:World) (hr0_3:Kd.C (Kd.int .i64) w A0_3 l0_3.length l0_3) (hc0_3:l0_3.length≤c0_3) (h:tr_way.f a0_0 a0_1 a0_2 l0_3 a1=some r):
  Calls Tryz.prog 97 #[.agg #[.int .i64 a0_0,.int .i64 a0_1,.int .i64 a0_2,.slice A0_3 l0_3.length c0_3],.int .i64 a1] w fun e w'=>e=.returned (.int .i64 r)∧Below w.heap.size w w':=by
 have hu74:=Tryz.underlying74
 have HR0_3:=A0_ hr0_3;have HC0_3:=A0_ hc0_3;clear hr0_3 hc0_3
 have HB:=A0_ (Below.refl w.heap.size w)
 have H:((tr_Mean.f a0_0 a0_1 a0_2 l0_3 a1).bind fun t302=>(if (l0_3.length:Int)=0 then (none) else (if 0≤(Int.tmod (wrap64 ((wrap64 (Int.tdiv (wrap64 (t302*(l0_3.length:Int))) 21600))+1)) (l0_3.length:Int)) then (if (Int.tmod (wrap64 ((wrap64 (Int.tdiv (wrap64 (t302*(l0_3.length:Int))) 21600))+1)) (l0_3.length:Int))<(l0_3.length:Int) then ((tr_mean.f a0_0 a0_1 a0_2 l0_3 a1).bind fun t304=>(if 0≤(wrap64 (Int.tdiv (wrap64 (t302*(l0_3.length:Int))) 21600)) then (if (wrap64 (Int.tdiv (wrap64 (t302*(l0_3.length:Int))) 21600))<(l0_3.length:Int) then ((tr_down.f (wrap64 ((wrap64 ((rd l0_3 (Int.tmod (wrap64 ((wrap64 (Int.tdiv (wrap64 (t302*(l0_3.length:Int))) 21600))+1)) (l0_3.length:Int))) - (rd l0_3 (wrap64 (Int.tdiv (wrap64 (t302*(l0_3.length:Int))) 21600)))))*(Int.tmod (wrap64 (t302*(l0_3.length:Int))) 21600))) 21600).bind fun t307=>(some (wrap64 ((wrap64 (t304+(rd l0_3 (wrap64 (Int.tdiv (wrap64 (t302*(l0_3.length:Int))) 21600)))))+t307)))) else (none)) else (none))) else (none)) else (none))))=some r:=h
 clear h;replace H:=Option.bind_eq_some_iff.mp H;obtain ⟨t302,A30,H⟩:=H
 replace H:(if (l0_3.length:Int)=0 then (none) else (if 0≤(Int.tmod (wrap64 ((wrap64 (Int.tdiv (wrap64 (t302*(l0_3.length:Int))) 21600))+1)) (l0_3.length:Int)) then (if (Int.tmod (wrap64 ((wrap64 (Int.tdiv (wrap64 (t302*(l0_3.length:Int))) 21600))+1)) (l0_3.length:Int))<(l0_3.length:Int) then ((tr_mean.f a0_0 a0_1 a0_2 l0_3 a1).bind fun t304=>(if 0≤(wrap64 (Int.tdiv (wrap64 (t302*(l0_3.length:Int))) 21600)) then (if (wrap64 (Int.tdiv (wrap64 (t302*(l0_3.length:Int))) 21600))<(l0_3.length:Int) then ((tr_down.f (wrap64 ((wrap64 ((rd l0_3 (Int.tmod (wrap64 ((wrap64 (Int.tdiv (wrap64 (t302*(l0_3.length:Int))) 21600))+1)) (l0_3.length:Int))) - (rd l0_3 (wrap64 (Int.tdiv (wrap64 (t302*(l0_3.length:Int))) 21600)))))*(Int.tmod (wrap64 (t302*(l0_3.length:Int))) 21600))) 21600).bind fun t307=>(some (wrap64 ((wrap64 (t304+(rd l0_3 (wrap64 (Int.tdiv (wrap64 (t302*(l0_3.length:Int))) 21600)))))+t307)))) else (none)) else (none))) else (none)) else (none)))=some r:=H
 have A3:=A0_ A30;clear A30
 by_cases c4:(l0_3.length:Int)=0
 ·rw [if_pos c4] at H;exact absurd H (by simp)
 ·rw [if_neg c4] at H
  have c4b0:((l0_3.length:Int) == 0)=false:=beq_eq_false_iff_ne.mpr c4
  have c4b1:((l0_3.length:Int) != 0)=true:=bne_iff_ne.mpr c4
  have c4b2:¬ (l0_3=[]):=fun h_=>c4 (by rw [h_];rfl)
  obtain ⟨ji5,hji5⟩:∃ j_:Int,(Int.tmod (wrap64 ((wrap64 (Int.tdiv (wrap64 (t302*(l0_3.length:Int))) 21600))+1)) (l0_3.length:Int))=j_:=⟨_,rfl⟩
  replace H:(if 0≤(ji5) then (if (ji5)<(l0_3.length:Int) then ((tr_mean.f a0_0 a0_1 a0_2 l0_3 a1).bind fun t304=>(if 0≤(wrap64 (Int.tdiv (wrap64 (t302*(l0_3.length:Int))) 21600)) then (if (wrap64 (Int.tdiv (wrap64 (t302*(l0_3.length:Int))) 21600))<(l0_3.length:Int) then ((tr_down.f (wrap64 ((wrap64 ((rd l0_3 (ji5)) - (rd l0_3 (wrap64 (Int.tdiv (wrap64 (t302*(l0_3.length:Int))) 21600)))))*(Int.tmod (wrap64 (t302*(l0_3.length:Int))) 21600))) 21600).bind fun t307=>(some (wrap64 ((wrap64 (t304+(rd l0_3 (wrap64 (Int.tdiv (wrap64 (t302*(l0_3.length:Int))) 21600)))))+t307)))) else (none)) else (none))) else (none)) else (none))=some r:=by first|(rw [hji5] at H;exact H)|(simp only [hji5] at H ⊢;exact H)
  (try rw [hji5] at A3)
  by_cases c6:0≤(ji5)
  ·rw [if_pos c6] at H;have c6b0:decide (0≤(ji5))=true:=decide_eq_true c6;clear c6
   by_cases c7:(ji5)<(l0_3.length:Int)
   ·rw [if_pos c7] at H;have c7b0:decide ((ji5)<(l0_3.length:Int))=true:=decide_eq_true c7;clear c7;replace H:=Option.bind_eq_some_iff.mp H;obtain ⟨t304,A80,H⟩:=H
    replace H:(if 0≤(wrap64 (Int.tdiv (wrap64 (t302*(l0_3.length:Int))) 21600)) then (if (wrap64 (Int.tdiv (wrap64 (t302*(l0_3.length:Int))) 21600))<(l0_3.length:Int) then ((tr_down.f (wrap64 ((wrap64 ((rd l0_3 (ji5)) - (rd l0_3 (wrap64 (Int.tdiv (wrap64 (t302*(l0_3.length:Int))) 21600)))))*(Int.tmod (wrap64 (t302*(l0_3.length:Int))) 21600))) 21600).bind fun t307=>(some (wrap64 ((wrap64 (t304+(rd l0_3 (wrap64 (Int.tdiv (wrap64 (t302*(l0_3.length:Int))) 21600)))))+t307)))) else (none)) else (none))=some r:=H
    have A8:=A0_ A80;clear A80
    obtain ⟨ji9,hji9⟩:∃ j_:Int,(wrap64 (Int.tdiv (wrap64 (t302*(l0_3.length:Int))) 21600))=j_:=⟨_,rfl⟩
    replace H:(if 0≤(ji9) then (if (ji9)<(l0_3.length:Int) then ((tr_down.f (wrap64 ((wrap64 ((rd l0_3 (ji5)) - (rd l0_3 (ji9))))*(Int.tmod (wrap64 (t302*(l0_3.length:Int))) 21600))) 21600).bind fun t307=>(some (wrap64 ((wrap64 (t304+(rd l0_3 (ji9))))+t307)))) else (none)) else (none))=some r:=by first|(rw [hji9] at H;exact H)|(simp only [hji9] at H ⊢;exact H)
    (try rw [hji9] at hji5)
    (try rw [hji9] at A3)
    (try rw [hji9] at A8)
    have hji9w:(IntKind.i64.wrap (Int.tdiv (wrap64 (t302*(l0_3.length:Int))) 21600))=ji9:=(i64_w _).trans hji9
    by_cases c10:0≤(ji9)
    ·rw [if_pos c10] at H;have c10b0:decide (0≤(ji9))=true:=decide_eq_true c10;clear c10
     by_cases c11:(ji9)<(l0_3.length:Int)
     ·rw [if_pos c11] at H;have c11b0:decide ((ji9)<(l0_3.length:Int))=true:=decide_eq_true c11;clear c11;replace H:=Option.bind_eq_some_iff.mp H;obtain ⟨t307,A120,H⟩:=H
      replace H:(some (wrap64 ((wrap64 (t304+(rd l0_3 (ji9))))+t307)))=some r:=H
      have A12:=A0_ A120;clear A120;obtain rfl:=Option.some.inj H
      go_enter Tryz.func97,Tryz.ntmps97
      try go_wp2_with (first|((with_reducible refine gate_dst (N:=2) rfl ?_);refine box_event ?hg (N:=2) ?hd (cs:=#[.int .i64 a0_0,.int .i64 a0_1,.int .i64 a0_2,.slice A0_3 l0_3.length c0_3]) (t:=74) ?hr ?_;(case hd=>rfl);(case hg=>rfl);(case hr=>first|(go_simp;done)|(go_simp;rfl));intro gb301 hg w13 hbox hb;have n0_:=A0_ (below_step y0_ hb);have n1_:=A0_ (hbox);have n2_:=A0_ ((by rw [hg];exact (below_size y0_):w.heap.size≤gb301));have n3_:=A0_ ((by rw [hg];exact (below_size y0_):w.heap.size≤gb301));clear HB;have HB:=n0_;have BK301:=n1_;have GW301:=n2_;have GE301:=n3_;clear n0_ n1_ n2_ n3_;clear hb hbox hg))
      have n0_:=A0_ (blk_drew BK301.out);have n1_:=A0_ (below_drew1 HB.out);clear BK301;clear HB;have BK301:=n0_;have HB:=n1_;clear n0_ n1_
      refine start_ (n:=8) (S:=fun w'=>w'.cell? ⟨gb301,0,none⟩=some (.int .i64 a0_0)∧w'.cell? ⟨gb301,1,none⟩=some (.int .i64 a0_1)∧w'.cell? ⟨gb301,2,none⟩=some (.int .i64 a0_2)∧w'.cell? ⟨gb301,3,none⟩=some (.slice A0_3 l0_3.length c0_3)) (ds:=[]) #[false,false,false,false,false,false,false,false] (by kernel_rfl) rfl rfl ⟨(blk_cell BK301.out 0).trans rfl,(blk_cell BK301.out 1).trans rfl,(blk_cell BK301.out 2).trans rfl,(blk_cell BK301.out 3).trans rfl⟩ (fun hHeld=>?_);refine with_tabW tr_way.tab1 tr_way.bits1 (fun HT_ HW_=>?_)
      generalize w13.drew=w14 at BK301 HB hHeld ⊢
      refine pu_ (i:=1) (N:=some 9) ?_;refine pu_ (i:=3) (N:=some 11) ?_;refine ta_ (i:=0) (N:=some 8) ?_;refine ta_ (i:=4) (N:=some 12) ?_;refine pu_ (i:=5) (N:=some 13) ?_
      refine one_ (i:=2) (N:=some 10) #[true,true,true,true,true,true,false,false] rfl rfl (one_of HT_.out (by kernel_rfl)) (by decide) (fun K hK=>?_)
      refine goes_ Tryz.func46 (by kernel_rfl) rfl #[.agg #[.int .i64 a0_0,.int .i64 a0_1,.int .i64 a0_2,.slice A0_3 l0_3.length c0_3],.int .i64 a1] (by rfl) rfl rfl y1_ ?_
      with_reducible refine (tr_Mean.calls a0_0 a0_1 a0_2 _ _ l0_3 a1 t302 _ ?side1 ?side2 A3.out).mono ?_
      (case side1=>repeat (first|exact (Kd.C_below HR0_3.out HB.out)|(with_reducible refine Kd.C_alloc ?_ _)|(with_reducible refine Kd.C_drewN ?_ _)|(with_reducible refine Kd.C_drew ?_)))
      (case side2=>exact HC0_3.out)
      rintro e w15 ⟨rfl,hb⟩
      refine ⟨_,rfl,?_⟩
      have n0_:=A0_ (blk_below (g:=gb301) (o:=.cells #[.int .i64 a0_0,.int .i64 a0_1,.int .i64 a0_2,.slice A0_3 l0_3.length c0_3] 74 (0,0)) (bd_ BK301.out) hb)
      have n1_:=A0_ (below_step (by repeat (first|(with_reducible first|exact HB.out|apply below_alloc|apply pw_below_drewN|apply below_drew1|refine below_set ?_ GE301.out)|exact HB.out)) hb)
      clear BK301;clear HB;have BK301:=n0_;have HB:=n1_;clear n0_ n1_;(try clear hb);(try clear hb2);(try clear hk);(try clear hi)
      refine hK.out _ _ ⟨(blk_cell BK301.out 0).trans rfl,(blk_cell BK301.out 1).trans rfl,(blk_cell BK301.out 2).trans rfl,(blk_cell BK301.out 3).trans rfl⟩ (fun hHeld=>?_)
      clear hK K
      refine norm_ (a':=?_) ?_ ?_
      rotate_left
      ·show Act.put _ (some 10) _=_
       simp only [Act.put,List.setIfInBounds_toArray,List.set_cons_zero,List.set_cons_succ,i64_w,i32_w]
       rfl
      refine pu_ (i:=6) (N:=some 14) ?_;refine pu_ (i:=7) (N:=some 5) ?_
      refine done_ (done_of HT_.out (by kernel_rfl)) ?_
      try go_wp2
      have n0_:=A0_ (blk_drew BK301.out);have n1_:=A0_ (below_drew1 HB.out);clear BK301;clear HB;have BK301:=n0_;have HB:=n1_;clear n0_ n1_
      have p303:0≤((ji5):Int):=of_decide_eq_true y5_
      have q303:(ji5)<(l0_3.length:Int):=of_decide_eq_true y5_
      obtain ⟨ad303,e303,hx303_0⟩:=Kd.at_int HR0_3.out (ji5) p303 q303
      have hw303_0:=hx303_0
      cases e303
      replace hx303_0:=(HB.out.cell (World.block_lt_of_cell? w _ hx303_0)).trans hx303_0
      replace p303:=eq_true p303
      replace q303:=eq_true q303
      refine start_ (n:=11) (S:=fun w'=>w'.cell? ⟨gb301,0,none⟩=some (.int .i64 a0_0)∧w'.cell? ⟨gb301,1,none⟩=some (.int .i64 a0_1)∧w'.cell? ⟨gb301,2,none⟩=some (.int .i64 a0_2)∧w'.cell? ⟨gb301,3,none⟩=some (.slice (some ad303) l0_3.length c0_3)∧w'.cell? (ad303.add ((ji5)).toNat)=some (.int .i64 (rd l0_3 (ji5)))) (ds:=[]) #[false,false,false,false,false,false,false,false,false,false,false] (by kernel_rfl) rfl rfl ⟨(blk_cell BK301.out 0).trans rfl,(blk_cell BK301.out 1).trans rfl,(blk_cell BK301.out 2).trans rfl,(blk_cell BK301.out 3).trans rfl,((HB.out.cell (World.block_lt_of_cell? w _ hw303_0)).trans hw303_0)⟩ (fun hHeld=>?_);refine with_tabW tr_way.tab3 tr_way.bits3 (fun HT_ HW_=>?_)
      generalize w15.drew=w16 at BK301 HB hx303_0 hHeld ⊢
      refine pu_ (i:=0) (N:=some 17) ?_;refine pu_ (i:=2) (N:=some 19) ?_;refine pu_ (i:=3) (N:=some 20) ?_;refine pu_ (i:=4) (N:=some 21) ?_;refine ta_ (i:=1) (N:=some 18) ?_;refine ta_ (i:=5) (N:=some 22) ?_;refine pu_ (i:=6) (N:=some 23) ?_;refine pu_ (i:=7) (N:=some 24) ?_;refine pu_ (i:=8) (N:=some 25) ?_;refine ta_ (i:=9) (N:=some 26) ?_;refine pu_ (i:=10) (N:=some 7) ?_
      refine done_ (done_of HT_.out (by kernel_rfl)) ?_
      try go_wp2
      have n0_:=A0_ (blk_drew BK301.out);have n1_:=A0_ (below_drew1 HB.out);clear BK301;clear HB;have BK301:=n0_;have HB:=n1_;clear n0_ n1_
      have p305:0≤((ji9):Int):=of_decide_eq_true y5_
      have q305:(ji9)<(l0_3.length:Int):=of_decide_eq_true y5_
      obtain ⟨ad305,e305,hx305_0⟩:=Kd.at_int HR0_3.out (ji9) p305 q305
      have hw305_0:=hx305_0
      obtain rfl:ad303=ad305:=(by injection e305)
      replace hx305_0:=(HB.out.cell (World.block_lt_of_cell? w _ hx305_0)).trans hx305_0
      replace p305:=eq_true p305
      replace q305:=eq_true q305
      have p306:0≤((ji9):Int):=of_decide_eq_true y5_
      have q306:(ji9)<(l0_3.length:Int):=of_decide_eq_true y5_
      obtain ⟨ad306,e306,hx306_0⟩:=Kd.at_int HR0_3.out (ji9) p306 q306
      have hw306_0:=hx306_0
      obtain rfl:ad303=ad306:=(by injection e306)
      replace hx306_0:=(HB.out.cell (World.block_lt_of_cell? w _ hx306_0)).trans hx306_0
      replace p306:=eq_true p306
      replace q306:=eq_true q306
      refine start_ (n:=22) (S:=fun w'=>w'.cell? ⟨gb301,0,none⟩=some (.int .i64 a0_0)∧w'.cell? ⟨gb301,1,none⟩=some (.int .i64 a0_1)∧w'.cell? ⟨gb301,2,none⟩=some (.int .i64 a0_2)∧w'.cell? ⟨gb301,3,none⟩=some (.slice (some ad303) l0_3.length c0_3)∧w'.cell? (ad303.add ((ji9)).toNat)=some (.int .i64 (rd l0_3 (ji9)))∧w'.cell? (ad303.add ((ji9)).toNat)=some (.int .i64 (rd l0_3 (ji9)))) (ds:=[]) #[false,false,false,false,false,false,false,false,false,false,false,false,false,false,false,false,false,false,false,false,false,false] (by kernel_rfl) rfl rfl ⟨(blk_cell BK301.out 0).trans rfl,(blk_cell BK301.out 1).trans rfl,(blk_cell BK301.out 2).trans rfl,(blk_cell BK301.out 3).trans rfl,((HB.out.cell (World.block_lt_of_cell? w _ hw305_0)).trans hw305_0),((HB.out.cell (World.block_lt_of_cell? w _ hw306_0)).trans hw306_0)⟩ (fun hHeld=>?_);refine with_tabW tr_way.tab4 tr_way.bits4 (fun HT_ HW_=>?_)
      generalize w16.drew=w17 at BK301 HB hx305_0 hx306_0 hHeld ⊢
      refine pu_ (i:=1) (N:=some 28) ?_;refine pu_ (i:=3) (N:=some 30) ?_;refine pu_ (i:=5) (N:=some 32) ?_;refine pu_ (i:=9) (N:=some 36) ?_;refine pu_ (i:=10) (N:=some 37) ?_;refine pu_ (i:=12) (N:=some 39) ?_;refine pu_ (i:=16) (N:=some 43) ?_;refine pu_ (i:=17) (N:=some 44) ?_;refine ta_ (i:=0) (N:=some 27) ?_;refine ta_ (i:=4) (N:=some 31) ?_;refine pu_ (i:=6) (N:=some 33) ?_;refine ta_ (i:=7) (N:=some 34) ?_;refine ta_ (i:=11) (N:=some 38) ?_;refine pu_ (i:=13) (N:=some 40) ?_;refine ta_ (i:=14) (N:=some 41) ?_;refine pu_ (i:=15) (N:=some 42) ?_;refine pu_ (i:=18) (N:=some 45) ?_
      refine one_ (i:=2) (N:=some 29) #[true,true,true,true,true,true,true,true,false,true,true,true,true,true,true,true,true,true,true,false,false,false] rfl rfl (one_of HT_.out (by kernel_rfl)) (by decide) (fun K hK=>?_)
      refine goes_ Tryz.func96 (by kernel_rfl) rfl #[.agg #[.int .i64 a0_0,.int .i64 a0_1,.int .i64 a0_2,.slice (some ad303) l0_3.length c0_3],.int .i64 a1] (by rfl) rfl rfl y1_ ?_
      with_reducible refine (tr_mean.calls a0_0 a0_1 a0_2 _ _ l0_3 a1 t304 _ ?side1 ?side2 A8.out).mono ?_
      (case side1=>repeat (first|exact (Kd.C_below HR0_3.out HB.out)|(with_reducible refine Kd.C_alloc ?_ _)|(with_reducible refine Kd.C_drewN ?_ _)|(with_reducible refine Kd.C_drew ?_)))
      (case side2=>exact HC0_3.out)
      rintro e w18 ⟨rfl,hb⟩
      refine ⟨_,rfl,?_⟩
      have n0_:=A0_ (blk_below (g:=gb301) (o:=.cells #[.int .i64 a0_0,.int .i64 a0_1,.int .i64 a0_2,.slice (some ad303) l0_3.length c0_3] 74 (0,0)) (bd_ BK301.out) hb)
      have n1_:=A0_ (below_step (by repeat (first|(with_reducible first|exact HB.out|apply below_alloc|apply pw_below_drewN|apply below_drew1|refine below_set ?_ GE301.out)|exact HB.out)) hb)
      clear BK301;clear HB;have BK301:=n0_;have HB:=n1_;clear n0_ n1_;(try clear hb);(try clear hb2);(try clear hk);(try clear hi)
      refine hK.out _ _ ⟨(blk_cell BK301.out 0).trans rfl,(blk_cell BK301.out 1).trans rfl,(blk_cell BK301.out 2).trans rfl,(blk_cell BK301.out 3).trans rfl,((HB.out.cell (World.block_lt_of_cell? w _ hw305_0)).trans hw305_0),((HB.out.cell (World.block_lt_of_cell? w _ hw306_0)).trans hw306_0)⟩ (fun hHeld=>?_)
      clear hK K
      refine norm_ (a':=?_) ?_ ?_
      rotate_left
      ·show Act.put _ (some 29) _=_
       simp only [Act.put,List.setIfInBounds_toArray,List.set_cons_zero,List.set_cons_succ,i64_w,i32_w]
       rfl
      refine pu_ (i:=8) (N:=some 35) ?_
      refine one_ (i:=19) (N:=some 46) #[true,true,true,true,true,true,true,true,true,true,true,true,true,true,true,true,true,true,true,true,false,false] rfl rfl (one_of HT_.out (by kernel_rfl)) (by decide) (fun K hK=>?_)
      refine goes_ Tryz.func129 (by kernel_rfl) rfl #[.int .i64 (wrap64 ((wrap64 ((rd l0_3 (ji5)) - (rd l0_3 (ji9))))*(Int.tmod (wrap64 (t302*(l0_3.length:Int))) 21600))),.int .i64 21600] (by rfl) rfl rfl (by (try simp only [List.map_toArray,List.map_cons,List.map_nil]);first|done|(simp only [hji5,hji9];rfl)|rfl|(simp only [List.length_drop,List.length_take];rfl)) ?_
      with_reducible refine (tr_down.calls (wrap64 ((wrap64 ((rd l0_3 (ji5)) - (rd l0_3 (ji9))))*(Int.tmod (wrap64 (t302*(l0_3.length:Int))) 21600))) 21600 t307 _ A12.out).mono ?_
      rintro e w' ⟨rfl,⟨nd,rfl⟩⟩
      refine ⟨_,rfl,?_⟩
      refine hK.out _ _ ⟨(blk_cell BK301.out 0).trans rfl,(blk_cell BK301.out 1).trans rfl,(blk_cell BK301.out 2).trans rfl,(blk_cell BK301.out 3).trans rfl,((HB.out.cell (World.block_lt_of_cell? w _ hw305_0)).trans hw305_0),((HB.out.cell (World.block_lt_of_cell? w _ hw306_0)).trans hw306_0)⟩ (fun hHeld=>?_)
      clear hK K
      refine norm_ (a':=?_) ?_ ?_
      rotate_left
      ·show Act.put _ (some 46) _=_
       simp only [Act.put,List.setIfInBounds_toArray,List.set_cons_zero,List.set_cons_succ,i64_w,i32_w]
       rfl
      refine pu_ (i:=20) (N:=some 47) ?_;refine pu_ (i:=21) (N:=some 4) ?_
      refine done_ (done_of HT_.out (by kernel_rfl)) ?_
      try go_wp2
      go_ret
      exact ⟨by first|rfl|(simp [errW_none,errW_some] <;> rfl)|(simp only [← hji5,← hji9];first|rfl|(simp [errW_none,errW_some] <;> rfl))|(simp [*,errW_none,errW_some] <;> rfl),(by repeat (first|(with_reducible first|exact HB.out|apply below_alloc|apply pw_below_drewN|apply below_drew1|refine below_set ?_ GE301.out)|exact HB.out))⟩
     ·rw [if_neg c11] at H;exact absurd H (by simp)
    ·rw [if_neg c10] at H;exact absurd H (by simp)
   ·rw [if_neg c7] at H;exact absurd H (by simp)
  ·rw [if_neg c6] at H;exact absurd H (by simp)
def tr_ahead.f (l0_0:List (S74)) (a0_1:Int) (a0_2:Int) (a0_3:Int) (a1:Int) (a2:Int) (a3:Int):Option (Int):=if 0≤a1 then (if a1<(l0_0.length:Int) then ((tr_way.f ((rd_T74 l0_0 a1).f0.f0) ((rd_T74 l0_0 a1).f0.f1) ((rd_T74 l0_0 a1).f1) ((rd_T74 l0_0 a1).f2) a3).bind fun t321=>(if 0≤a2 then (if a2<(l0_0.length:Int) then ((tr_way.f ((rd_T74 l0_0 a2).f0.f0) ((rd_T74 l0_0 a2).f0.f1) ((rd_T74 l0_0 a2).f1) ((rd_T74 l0_0 a2).f2) a3).bind fun t323=>(some (wrap64 (t321 - t323)))) else (none)) else (none))) else (none)) else (none)
def tr_ahead.T1:Bool × List (List Nat × List Nat):=(true,[([],[]),([0],[0]),([],[]),([1,2],[1,2]),([3],[3]),([],[]),([4,5],[4,5]),([],[]),([7],[7]),([],[]),([8,9],[8,9]),([10],[10]),([],[]),([11,12,6],[11,12]),([6,13],[6,13]),([14,13,0,1,2,3,4,5,6,7,8,9,10,11,12,13,14],[14])])
def tr_ahead.B1:List Nat:=[0,1,0,7,15,0,63,0,128,0,896,1920,0,8191,16383,32767]
theorem tr_ahead.tab1:rtab .any (opsOf Tryz.f76 1)=tr_ahead.T1:=by kernel_rfl
theorem tr_ahead.bits1:waitsOk tr_ahead.T1.2 tr_ahead.B1=true:=by kernel_rfl
set_option maxHeartbeats 8000000 in
set_option maxRecDepth 100000 in
theorem tr_ahead.calls (A0_0:Option Addr) (c0_0:Nat) (l0_0:List (S74)) (a0_1:Int) (a0_2:Int) (a0_3:Int) (a1:Int) (a2:Int) (a3:Int) (r:Int) (w:World) (hr0_0:Kd.C k74 w A0_0 l0_0.length l0_0) (hc0_0:l0_0.length≤c0_0) (h:tr_ahead.f l0_0 a0_1 a0_2 a0_3 a1 a2 a3=some r):
  Calls Tryz.prog 76 #[.agg #[.slice A0_0 l0_0.length c0_0,.int .i64 a0_1,.int .i64 a0_2,.int .i64 a0_3],.int .i64 a1,.int .i64 a2,.int .i64 a3] w fun e w'=>e=.returned (.int .i64 r)∧Below w.heap.size w w':=by
 have hu29:=Tryz.underlying29
 have hu74:=Tryz.underlying74
 have HR0_0:=A0_ hr0_0;have HC0_0:=A0_ hc0_0;clear hr0_0 hc0_0
 have HB:=A0_ (Below.refl w.heap.size w)
 have H:(if 0≤a1 then (if a1<(l0_0.length:Int) then ((tr_way.f ((rd_T74 l0_0 a1).f0.f0) ((rd_T74 l0_0 a1).f0.f1) ((rd_T74 l0_0 a1).f1) ((rd_T74 l0_0 a1).f2) a3).bind fun t321=>(if 0≤a2 then (if a2<(l0_0.length:Int) then ((tr_way.f ((rd_T74 l0_0 a2).f0.f0) ((rd_T74 l0_0 a2).f0.f1) ((rd_T74 l0_0 a2).f1) ((rd_T74 l0_0 a2).f2) a3).bind fun t323=>(some (wrap64 (t321 - t323)))) else (none)) else (none))) else (none)) else (none))=some r:=h
 clear h
 by_cases c5:0≤a1
 ·rw [if_pos c5] at H;have c5b0:decide (0≤a1)=true:=decide_eq_true c5;clear c5
  by_cases c6:a1<(l0_0.length:Int)
  ·rw [if_pos c6] at H;have c6b0:decide (a1<(l0_0.length:Int))=true:=decide_eq_true c6;clear c6;replace H:=Option.bind_eq_some_iff.mp H;obtain ⟨t321,A70,H⟩:=H
   replace H:(if 0≤a2 then (if a2<(l0_0.length:Int) then ((tr_way.f ((rd_T74 l0_0 a2).f0.f0) ((rd_T74 l0_0 a2).f0.f1) ((rd_T74 l0_0 a2).f1) ((rd_T74 l0_0 a2).f2) a3).bind fun t323=>(some (wrap64 (t321 - t323)))) else (none)) else (none))=some r:=H
   have A7:=A0_ A70;clear A70
   by_cases c8:0≤a2
   ·rw [if_pos c8] at H;have c8b0:decide (0≤a2)=true:=decide_eq_true c8;clear c8
    by_cases c9:a2<(l0_0.length:Int)
    ·rw [if_pos c9] at H;have c9b0:decide (a2<(l0_0.length:Int))=true:=decide_eq_true c9;clear c9;replace H:=Option.bind_eq_some_iff.mp H;obtain ⟨t323,A100,H⟩:=H
     replace H:(some (wrap64 (t321 - t323)))=some r:=H
     have A10:=A0_ A100;clear A100;obtain rfl:=Option.some.inj H
     go_enter Tryz.func76,Tryz.ntmps76
     try go_wp2_with (first|((with_reducible refine gate_dst (N:=4) rfl ?_);refine box_event ?hg (N:=4) ?hd (cs:=#[.slice A0_0 l0_0.length c0_0,.int .i64 a0_1,.int .i64 a0_2,.int .i64 a0_3]) (t:=29) ?hr ?_;(case hd=>rfl);(case hg=>rfl);(case hr=>first|(go_simp;done)|(go_simp;rfl));intro gb319 hg w11 hbox hb;have n0_:=A0_ (below_step y0_ hb);have n1_:=A0_ (hbox);have n2_:=A0_ ((by rw [hg];exact (below_size y0_):w.heap.size≤gb319));have n3_:=A0_ ((by rw [hg];exact (below_size y0_):w.heap.size≤gb319));clear HB;have HB:=n0_;have BK319:=n1_;have GW319:=n2_;have GE319:=n3_;clear n0_ n1_ n2_ n3_;clear hb hbox hg))
     have n0_:=A0_ (blk_drew BK319.out);have n1_:=A0_ (below_drew1 HB.out);clear BK319;clear HB;have BK319:=n0_;have HB:=n1_;clear n0_ n1_
     have p320:0≤(a1:Int):=of_decide_eq_true y5_
     have q320:a1<(l0_0.length:Int):=of_decide_eq_true y5_
     obtain ⟨ad320,A320_3,c320_3,e320,hx320_0,hx320_1,hx320_2,hx320_3,hl320_3,hi320_3⟩:=at_T74 HR0_0.out a1 p320 q320
     have hw320_3:=hx320_3;have hw320_2:=hx320_2;have hw320_1:=hx320_1;have hw320_0:=hx320_0
     cases e320
     replace hx320_0:=(HB.out.cell (World.block_lt_of_cell? w _ hx320_0)).trans hx320_0
     replace hx320_1:=(HB.out.cell (World.block_lt_of_cell? w _ hx320_1)).trans hx320_1
     replace hx320_2:=(HB.out.cell (World.block_lt_of_cell? w _ hx320_2)).trans hx320_2
     replace hx320_3:=(HB.out.cell (World.block_lt_of_cell? w _ hx320_3)).trans hx320_3
     have HR320_3:=A0_ hi320_3;have HC320_3:=A0_ hl320_3;clear hi320_3 hl320_3
     replace p320:=eq_true p320
     replace q320:=eq_true q320
     have p322:0≤(a2:Int):=of_decide_eq_true y5_
     have q322:a2<(l0_0.length:Int):=of_decide_eq_true y5_
     obtain ⟨ad322,A322_3,c322_3,e322,hx322_0,hx322_1,hx322_2,hx322_3,hl322_3,hi322_3⟩:=at_T74 HR0_0.out a2 p322 q322
     have hw322_3:=hx322_3;have hw322_2:=hx322_2;have hw322_1:=hx322_1;have hw322_0:=hx322_0
     obtain rfl:ad320=ad322:=(by injection e322)
     replace hx322_0:=(HB.out.cell (World.block_lt_of_cell? w _ hx322_0)).trans hx322_0
     replace hx322_1:=(HB.out.cell (World.block_lt_of_cell? w _ hx322_1)).trans hx322_1
     replace hx322_2:=(HB.out.cell (World.block_lt_of_cell? w _ hx322_2)).trans hx322_2
     replace hx322_3:=(HB.out.cell (World.block_lt_of_cell? w _ hx322_3)).trans hx322_3
     have HR322_3:=A0_ hi322_3;have HC322_3:=A0_ hl322_3;clear hi322_3 hl322_3
     replace p322:=eq_true p322
     replace q322:=eq_true q322
     refine start_ (n:=16) (S:=fun w'=>w'.cell? ⟨gb319,0,none⟩=some (.slice (some ad320) l0_0.length c0_0)∧w'.cell? ⟨gb319,1,none⟩=some (.int .i64 a0_1)∧w'.cell? ⟨gb319,2,none⟩=some (.int .i64 a0_2)∧w'.cell? ⟨gb319,3,none⟩=some (.int .i64 a0_3)∧w'.cell? (ad320.add ((a1).toNat*4))=some (.int .i64 ((rd_T74 l0_0 a1).f0.f0))∧w'.cell? ⟨(ad320.add ((a1).toNat*4)).block,(ad320.add ((a1).toNat*4)).off+1,none⟩=some (.int .i64 ((rd_T74 l0_0 a1).f0.f1))∧w'.cell? ⟨(ad320.add ((a1).toNat*4)).block,(ad320.add ((a1).toNat*4)).off+2,none⟩=some (.int .i64 ((rd_T74 l0_0 a1).f1))∧w'.cell? ⟨(ad320.add ((a1).toNat*4)).block,(ad320.add ((a1).toNat*4)).off+3,none⟩=some (.slice A320_3 ((rd_T74 l0_0 a1).f2).length c320_3)∧w'.cell? (ad320.add ((a2).toNat*4))=some (.int .i64 ((rd_T74 l0_0 a2).f0.f0))∧w'.cell? ⟨(ad320.add ((a2).toNat*4)).block,(ad320.add ((a2).toNat*4)).off+1,none⟩=some (.int .i64 ((rd_T74 l0_0 a2).f0.f1))∧w'.cell? ⟨(ad320.add ((a2).toNat*4)).block,(ad320.add ((a2).toNat*4)).off+2,none⟩=some (.int .i64 ((rd_T74 l0_0 a2).f1))∧w'.cell? ⟨(ad320.add ((a2).toNat*4)).block,(ad320.add ((a2).toNat*4)).off+3,none⟩=some (.slice A322_3 ((rd_T74 l0_0 a2).f2).length c322_3)) (ds:=[]) #[false,false,false,false,false,false,false,false,false,false,false,false,false,false,false,false] (by kernel_rfl) rfl rfl ⟨(blk_cell BK319.out 0).trans rfl,(blk_cell BK319.out 1).trans rfl,(blk_cell BK319.out 2).trans rfl,(blk_cell BK319.out 3).trans rfl,((HB.out.cell (World.block_lt_of_cell? w _ hw320_0)).trans hw320_0),((HB.out.cell (World.block_lt_of_cell? w _ hw320_1)).trans hw320_1),((HB.out.cell (World.block_lt_of_cell? w _ hw320_2)).trans hw320_2),((HB.out.cell (World.block_lt_of_cell? w _ hw320_3)).trans hw320_3),((HB.out.cell (World.block_lt_of_cell? w _ hw322_0)).trans hw322_0),((HB.out.cell (World.block_lt_of_cell? w _ hw322_1)).trans hw322_1),((HB.out.cell (World.block_lt_of_cell? w _ hw322_2)).trans hw322_2),((HB.out.cell (World.block_lt_of_cell? w _ hw322_3)).trans hw322_3)⟩ (fun hHeld=>?_);refine with_tabW tr_ahead.tab1 tr_ahead.bits1 (fun HT_ HW_=>?_)
     generalize w11.drew=w12 at BK319 HB HR320_3 HR322_3 hx320_0 hx320_1 hx320_2 hx320_3 hx322_0 hx322_1 hx322_2 hx322_3 hHeld ⊢
     refine pu_ (i:=0) (N:=some 9) ?_;refine pu_ (i:=2) (N:=some 11) ?_;refine pu_ (i:=5) (N:=some 14) ?_;refine pu_ (i:=7) (N:=some 16) ?_;refine pu_ (i:=9) (N:=some 18) ?_;refine pu_ (i:=12) (N:=some 21) ?_;refine ta_ (i:=1) (N:=some 10) ?_;refine pu_ (i:=3) (N:=some 12) ?_;refine ta_ (i:=4) (N:=some 13) ?_;refine ta_ (i:=8) (N:=some 17) ?_;refine pu_ (i:=10) (N:=some 19) ?_;refine ta_ (i:=11) (N:=some 20) ?_
     refine one_ (i:=6) (N:=some 15) #[true,true,true,true,true,true,true,true,true,true,true,true,true,false,false,false] rfl rfl (one_of HT_.out (by kernel_rfl)) (by decide) (fun K hK=>?_)
     refine goes_ Tryz.func97 (by kernel_rfl) rfl #[.agg #[.int .i64 ((rd_T74 l0_0 a1).f0.f0),.int .i64 ((rd_T74 l0_0 a1).f0.f1),.int .i64 ((rd_T74 l0_0 a1).f1),.slice A320_3 ((rd_T74 l0_0 a1).f2).length c320_3],.int .i64 a3] (by rfl) rfl rfl y1_ ?_
     with_reducible refine (tr_way.calls ((rd_T74 l0_0 a1).f0.f0) ((rd_T74 l0_0 a1).f0.f1) ((rd_T74 l0_0 a1).f1) _ _ ((rd_T74 l0_0 a1).f2) a3 t321 _ ?side1 ?side2 A7.out).mono ?_
     (case side1=>repeat (first|exact (Kd.C_below HR320_3.out HB.out)|(with_reducible refine Kd.C_alloc ?_ _)|(with_reducible refine Kd.C_drewN ?_ _)|(with_reducible refine Kd.C_drew ?_)))
     (case side2=>exact HC320_3.out)
     rintro e w13 ⟨rfl,hb⟩
     refine ⟨_,rfl,?_⟩
     have n0_:=A0_ (blk_below (g:=gb319) (o:=.cells #[.slice (some ad320) l0_0.length c0_0,.int .i64 a0_1,.int .i64 a0_2,.int .i64 a0_3] 29 (0,0)) (bd_ BK319.out) hb)
     have n1_:=A0_ (below_step (by repeat (first|(with_reducible first|exact HB.out|apply below_alloc|apply pw_below_drewN|apply below_drew1|refine below_set ?_ GE319.out)|exact HB.out)) hb)
     clear BK319;clear HB;have BK319:=n0_;have HB:=n1_;clear n0_ n1_;(try clear hb);(try clear hb2);(try clear hk);(try clear hi)
     refine hK.out _ _ ⟨(blk_cell BK319.out 0).trans rfl,(blk_cell BK319.out 1).trans rfl,(blk_cell BK319.out 2).trans rfl,(blk_cell BK319.out 3).trans rfl,((HB.out.cell (World.block_lt_of_cell? w _ hw320_0)).trans hw320_0),((HB.out.cell (World.block_lt_of_cell? w _ hw320_1)).trans hw320_1),((HB.out.cell (World.block_lt_of_cell? w _ hw320_2)).trans hw320_2),((HB.out.cell (World.block_lt_of_cell? w _ hw320_3)).trans hw320_3),((HB.out.cell (World.block_lt_of_cell? w _ hw322_0)).trans hw322_0),((HB.out.cell (World.block_lt_of_cell? w _ hw322_1)).trans hw322_1),((HB.out.cell (World.block_lt_of_cell? w _ hw322_2)).trans hw322_2),((HB.out.cell (World.block_lt_of_cell? w _ hw322_3)).trans hw322_3)⟩ (fun hHeld=>?_)
     clear hK K
     refine norm_ (a':=?_) ?_ ?_
     rotate_left
     ·show Act.put _ (some 15) _=_
      simp only [Act.put,List.setIfInBounds_toArray,List.set_cons_zero,List.set_cons_succ,i64_w,i32_w]
      rfl
     refine one_ (i:=13) (N:=some 22) #[true,true,true,true,true,true,true,true,true,true,true,true,true,true,false,false] rfl rfl (one_of HT_.out (by kernel_rfl)) (by decide) (fun K hK=>?_)
     refine goes_ Tryz.func97 (by kernel_rfl) rfl #[.agg #[.int .i64 ((rd_T74 l0_0 a2).f0.f0),.int .i64 ((rd_T74 l0_0 a2).f0.f1),.int .i64 ((rd_T74 l0_0 a2).f1),.slice A322_3 ((rd_T74 l0_0 a2).f2).length c322_3],.int .i64 a3] (by rfl) rfl rfl y1_ ?_
     with_reducible refine (tr_way.calls ((rd_T74 l0_0 a2).f0.f0) ((rd_T74 l0_0 a2).f0.f1) ((rd_T74 l0_0 a2).f1) _ _ ((rd_T74 l0_0 a2).f2) a3 t323 _ ?side1 ?side2 A10.out).mono ?_
     (case side1=>repeat (first|exact (Kd.C_below HR322_3.out HB.out)|(with_reducible refine Kd.C_alloc ?_ _)|(with_reducible refine Kd.C_drewN ?_ _)|(with_reducible refine Kd.C_drew ?_)))
     (case side2=>exact HC322_3.out)
     rintro e w14 ⟨rfl,hb⟩
     refine ⟨_,rfl,?_⟩
     have n0_:=A0_ (blk_below (g:=gb319) (o:=.cells #[.slice (some ad320) l0_0.length c0_0,.int .i64 a0_1,.int .i64 a0_2,.int .i64 a0_3] 29 (0,0)) (bd_ BK319.out) hb)
     have n1_:=A0_ (below_step (by repeat (first|(with_reducible first|exact HB.out|apply below_alloc|apply pw_below_drewN|apply below_drew1|refine below_set ?_ GE319.out)|exact HB.out)) hb)
     clear BK319;clear HB;have BK319:=n0_;have HB:=n1_;clear n0_ n1_;(try clear hb);(try clear hb2);(try clear hk);(try clear hi)
     refine hK.out _ _ ⟨(blk_cell BK319.out 0).trans rfl,(blk_cell BK319.out 1).trans rfl,(blk_cell BK319.out 2).trans rfl,(blk_cell BK319.out 3).trans rfl,((HB.out.cell (World.block_lt_of_cell? w _ hw320_0)).trans hw320_0),((HB.out.cell (World.block_lt_of_cell? w _ hw320_1)).trans hw320_1),((HB.out.cell (World.block_lt_of_cell? w _ hw320_2)).trans hw320_2),((HB.out.cell (World.block_lt_of_cell? w _ hw320_3)).trans hw320_3),((HB.out.cell (World.block_lt_of_cell? w _ hw322_0)).trans hw322_0),((HB.out.cell (World.block_lt_of_cell? w _ hw322_1)).trans hw322_1),((HB.out.cell (World.block_lt_of_cell? w _ hw322_2)).trans hw322_2),((HB.out.cell (World.block_lt_of_cell? w _ hw322_3)).trans hw322_3)⟩ (fun hHeld=>?_)
     clear hK K
     refine norm_ (a':=?_) ?_ ?_
     rotate_left
     ·show Act.put _ (some 22) _=_
      simp only [Act.put,List.setIfInBounds_toArray,List.set_cons_zero,List.set_cons_succ,i64_w,i32_w]
      rfl
     refine pu_ (i:=14) (N:=some 23) ?_;refine pu_ (i:=15) (N:=some 8) ?_
     refine done_ (done_of HT_.out (by kernel_rfl)) ?_
     try go_wp2
     go_ret
     exact ⟨y2_,(by repeat (first|(with_reducible first|exact HB.out|apply below_alloc|apply pw_below_drewN|apply below_drew1|refine below_set ?_ GE319.out)|exact HB.out))⟩
    ·rw [if_neg c9] at H;exact absurd H (by simp)
   ·rw [if_neg c8] at H;exact absurd H (by simp)
  ·rw [if_neg c6] at H;exact absurd H (by simp)
 ·rw [if_neg c5] at H;exact absurd H (by simp)
end Go.Proofs.YtjahbgldccjbfaaGreatDoor.PSky
end
section
namespace Go.Proofs.YtjahbgldccjbfaaGreatDoor.PSky
open Go.RowKit Go.Proofs.YtjahbgldccjbfaaGreatDoorW.PrintWords Go.Proofs.YtjahbgldccjbfaaGreatDoorW.PrintLast Go.Proofs.YtjahbgldccjbfaaGreatDoorW.PrintMore
attribute [local go_sem] max2_int min2_int max_two min_two max_three min_three max_four min_four
set_option linter.unusedVariables false
set_option linter.unusedSimpArgs false
def tr_Moon.f (l0_0:List (S74)) (a0_1:Int) (a0_2:Int) (a0_3:Int) (a1:Int) (a2:Bool):Option (Bool):=if a2=true then ((tr_ahead.f l0_0 a0_1 a0_2 a0_3 1 0 (wrap64 (a1 - 1))).bind fun t584=>((tr_ahead.f l0_0 a0_1 a0_2 a0_3 1 0 a1).bind fun t585=>((tr_passed.f (wrap64 (t584 - 10800)) (wrap64 (t585 - 10800))).bind fun t586=>(some t586)))) else ((tr_ahead.f l0_0 a0_1 a0_2 a0_3 1 0 (wrap64 (a1 - 1))).bind fun t587=>((tr_ahead.f l0_0 a0_1 a0_2 a0_3 1 0 a1).bind fun t588=>((tr_passed.f (wrap64 (t587 - 0)) (wrap64 (t588 - 0))).bind fun t589=>(some t589))))
def tr_Moon.T4:Bool × List (List Nat × List Nat):=(true,[([],[]),([],[]),([1],[1]),([0,2],[0,2]),([],[]),([3,4],[3,4]),([],[]),([],[]),([6,7,3],[6,7]),([],[]),([8,9],[8,9]),([5,10,8],[5,10]),([11,11,0,1,2,3,4,5,6,7,8,9,10,11],[11])])
def tr_Moon.B4:List Nat:=[0,0,2,7,0,31,0,0,207,0,975,2047,4095]
theorem tr_Moon.tab4:rtab .any (opsOf Tryz.f99 4)=tr_Moon.T4:=by kernel_rfl
theorem tr_Moon.bits4:waitsOk tr_Moon.T4.2 tr_Moon.B4=true:=by kernel_rfl
set_option maxHeartbeats 8000000 in
set_option maxRecDepth 100000 in
theorem tr_Moon.calls (A0_0:Option Addr) (c0_0:Nat) (l0_0:List (S74)) (a0_1:Int) (a0_2:Int) (a0_3:Int) (a1:Int) (a2:Bool) (r:Bool) (w:World) (hr0_0:Kd.C k74 w A0_0 l0_0.length l0_0) (hc0_0:l0_0.length≤c0_0) (h:tr_Moon.f l0_0 a0_1 a0_2 a0_3 a1 a2=some r):
  Calls Tryz.prog 99 #[.agg #[.slice A0_0 l0_0.length c0_0,.int .i64 a0_1,.int .i64 a0_2,.int .i64 a0_3],.int .i64 a1,.bool a2] w fun e w'=>e=.returned (.bool r)∧Below w.heap.size w w':=by
 have hu29:=Tryz.underlying29
 have HR0_0:=A0_ hr0_0;have HC0_0:=A0_ hc0_0;clear hr0_0 hc0_0
 have HB:=A0_ (Below.refl w.heap.size w)
 have H:(if a2=true then ((tr_ahead.f l0_0 a0_1 a0_2 a0_3 1 0 (wrap64 (a1 - 1))).bind fun t584=>((tr_ahead.f l0_0 a0_1 a0_2 a0_3 1 0 a1).bind fun t585=>((tr_passed.f (wrap64 (t584 - 10800)) (wrap64 (t585 - 10800))).bind fun t586=>(some t586)))) else ((tr_ahead.f l0_0 a0_1 a0_2 a0_3 1 0 (wrap64 (a1 - 1))).bind fun t587=>((tr_ahead.f l0_0 a0_1 a0_2 a0_3 1 0 a1).bind fun t588=>((tr_passed.f (wrap64 (t587 - 0)) (wrap64 (t588 - 0))).bind fun t589=>(some t589)))))=some r:=h
 clear h
 by_cases c4:a2=true
 ·subst c4
  have H1:((tr_ahead.f l0_0 a0_1 a0_2 a0_3 1 0 (wrap64 (a1 - 1))).bind fun t584=>((tr_ahead.f l0_0 a0_1 a0_2 a0_3 1 0 a1).bind fun t585=>((tr_passed.f (wrap64 (t584 - 10800)) (wrap64 (t585 - 10800))).bind fun t586=>(some t586))))=some r:=by rw [if_pos rfl] at H;exact H
  clear H;have H:=H1;clear H1;replace H:=Option.bind_eq_some_iff.mp H;obtain ⟨t584,A50,H⟩:=H
  replace H:((tr_ahead.f l0_0 a0_1 a0_2 a0_3 1 0 a1).bind fun t585=>((tr_passed.f (wrap64 (t584 - 10800)) (wrap64 (t585 - 10800))).bind fun t586=>(some t586)))=some r:=H
  have A5:=A0_ A50;clear A50;replace H:=Option.bind_eq_some_iff.mp H;obtain ⟨t585,A60,H⟩:=H
  replace H:((tr_passed.f (wrap64 (t584 - 10800)) (wrap64 (t585 - 10800))).bind fun t586=>(some t586))=some r:=H
  have A6:=A0_ A60;clear A60;replace H:=Option.bind_eq_some_iff.mp H;obtain ⟨t586,A70,H⟩:=H
  replace H:(some t586)=some r:=H
  have A7:=A0_ A70;clear A70;obtain rfl:=Option.some.inj H
  go_enter Tryz.func99,Tryz.ntmps99
  try go_wp2_with (first|((with_reducible refine gate_dst (N:=3) rfl ?_);refine box_event ?hg (N:=3) ?hd (cs:=#[.slice A0_0 l0_0.length c0_0,.int .i64 a0_1,.int .i64 a0_2,.int .i64 a0_3]) (t:=29) ?hr ?_;(case hd=>rfl);(case hg=>rfl);(case hr=>first|(go_simp;done)|(go_simp;rfl));intro gb583 hg w8 hbox hb;have n0_:=A0_ (below_step y0_ hb);have n1_:=A0_ (hbox);have n2_:=A0_ ((by rw [hg];exact (below_size y0_):w.heap.size≤gb583));have n3_:=A0_ ((by rw [hg];exact (below_size y0_):w.heap.size≤gb583));clear HB;have HB:=n0_;have BK583:=n1_;have GW583:=n2_;have GE583:=n3_;clear n0_ n1_ n2_ n3_;clear hb hbox hg))
  have n0_:=A0_ (blk_drew BK583.out);have n1_:=A0_ (below_drew1 HB.out);clear BK583;clear HB;have BK583:=n0_;have HB:=n1_;clear n0_ n1_
  refine start_ (n:=13) (S:=fun w'=>w'.cell? ⟨gb583,0,none⟩=some (.slice A0_0 l0_0.length c0_0)∧w'.cell? ⟨gb583,1,none⟩=some (.int .i64 a0_1)∧w'.cell? ⟨gb583,2,none⟩=some (.int .i64 a0_2)∧w'.cell? ⟨gb583,3,none⟩=some (.int .i64 a0_3)) (ds:=[]) #[false,false,false,false,false,false,false,false,false,false,false,false,false] (by kernel_rfl) rfl rfl ⟨(blk_cell BK583.out 0).trans rfl,(blk_cell BK583.out 1).trans rfl,(blk_cell BK583.out 2).trans rfl,(blk_cell BK583.out 3).trans rfl⟩ (fun hHeld=>?_);refine with_tabW tr_Moon.tab4 tr_Moon.bits4 (fun HT_ HW_=>?_)
  generalize w8.drew=w9 at BK583 HB hHeld ⊢
  refine pu_ (i:=1) (N:=some 10) ?_;refine pu_ (i:=2) (N:=some 11) ?_;refine pu_ (i:=4) (N:=some 13) ?_;refine pu_ (i:=7) (N:=some 16) ?_;refine pu_ (i:=9) (N:=some 18) ?_;refine ta_ (i:=0) (N:=some 9) ?_;refine ta_ (i:=6) (N:=some 15) ?_
  refine one_ (i:=3) (N:=some 12) #[true,true,true,true,true,false,true,true,false,true,false,false,false] rfl rfl (one_of HT_.out (by kernel_rfl)) (by decide) (fun K hK=>?_)
  refine goes_ Tryz.func76 (by kernel_rfl) rfl #[.agg #[.slice A0_0 l0_0.length c0_0,.int .i64 a0_1,.int .i64 a0_2,.int .i64 a0_3],.int .i64 1,.int .i64 0,.int .i64 (wrap64 (a1 - 1))] (by rfl) rfl rfl (by (try simp only [List.map_toArray,List.map_cons,List.map_nil]);first|done|rfl|(simp only [Int.sub_zero];rfl)|(simp only [List.length_drop,List.length_take];rfl)) ?_
  with_reducible refine (tr_ahead.calls _ _ l0_0 a0_1 a0_2 a0_3 1 0 (wrap64 (a1 - 1)) t584 _ ?side1 ?side2 A5.out).mono ?_
  (case side1=>repeat (first|exact (Kd.C_below HR0_0.out HB.out)|(with_reducible refine Kd.C_alloc ?_ _)|(with_reducible refine Kd.C_drewN ?_ _)|(with_reducible refine Kd.C_drew ?_)))
  (case side2=>exact HC0_0.out)
  rintro e w10 ⟨rfl,hb⟩
  refine ⟨_,rfl,?_⟩
  have n0_:=A0_ (blk_below (g:=gb583) (o:=.cells #[.slice A0_0 l0_0.length c0_0,.int .i64 a0_1,.int .i64 a0_2,.int .i64 a0_3] 29 (0,0)) (bd_ BK583.out) hb)
  have n1_:=A0_ (below_step (by repeat (first|(with_reducible first|exact HB.out|apply below_alloc|apply pw_below_drewN|apply below_drew1|refine below_set ?_ GE583.out)|exact HB.out)) hb)
  clear BK583;clear HB;have BK583:=n0_;have HB:=n1_;clear n0_ n1_;(try clear hb);(try clear hb2);(try clear hk);(try clear hi)
  refine hK.out _ _ ⟨(blk_cell BK583.out 0).trans rfl,(blk_cell BK583.out 1).trans rfl,(blk_cell BK583.out 2).trans rfl,(blk_cell BK583.out 3).trans rfl⟩ (fun hHeld=>?_)
  clear hK K
  refine norm_ (a':=?_) ?_ ?_
  rotate_left
  ·show Act.put _ (some 12) _=_
   simp only [Act.put,List.setIfInBounds_toArray,List.set_cons_zero,List.set_cons_succ,i64_w,i32_w]
   rfl
  refine pu_ (i:=5) (N:=some 14) ?_
  refine one_ (i:=8) (N:=some 17) #[true,true,true,true,true,true,true,true,true,true,false,false,false] rfl rfl (one_of HT_.out (by kernel_rfl)) (by decide) (fun K hK=>?_)
  refine goes_ Tryz.func76 (by kernel_rfl) rfl #[.agg #[.slice A0_0 l0_0.length c0_0,.int .i64 a0_1,.int .i64 a0_2,.int .i64 a0_3],.int .i64 1,.int .i64 0,.int .i64 a1] (by rfl) rfl rfl (by (try simp only [List.map_toArray,List.map_cons,List.map_nil]);first|done|rfl|(simp only [Int.sub_zero];rfl)|(simp only [List.length_drop,List.length_take];rfl)) ?_
  with_reducible refine (tr_ahead.calls _ _ l0_0 a0_1 a0_2 a0_3 1 0 a1 t585 _ ?side1 ?side2 A6.out).mono ?_
  (case side1=>repeat (first|exact (Kd.C_below HR0_0.out HB.out)|(with_reducible refine Kd.C_alloc ?_ _)|(with_reducible refine Kd.C_drewN ?_ _)|(with_reducible refine Kd.C_drew ?_)))
  (case side2=>exact HC0_0.out)
  rintro e w11 ⟨rfl,hb⟩
  refine ⟨_,rfl,?_⟩
  have n0_:=A0_ (blk_below (g:=gb583) (o:=.cells #[.slice A0_0 l0_0.length c0_0,.int .i64 a0_1,.int .i64 a0_2,.int .i64 a0_3] 29 (0,0)) (bd_ BK583.out) hb)
  have n1_:=A0_ (below_step (by repeat (first|(with_reducible first|exact HB.out|apply below_alloc|apply pw_below_drewN|apply below_drew1|refine below_set ?_ GE583.out)|exact HB.out)) hb)
  clear BK583;clear HB;have BK583:=n0_;have HB:=n1_;clear n0_ n1_;(try clear hb);(try clear hb2);(try clear hk);(try clear hi)
  refine hK.out _ _ ⟨(blk_cell BK583.out 0).trans rfl,(blk_cell BK583.out 1).trans rfl,(blk_cell BK583.out 2).trans rfl,(blk_cell BK583.out 3).trans rfl⟩ (fun hHeld=>?_)
  clear hK K
  refine norm_ (a':=?_) ?_ ?_
  rotate_left
  ·show Act.put _ (some 17) _=_
   simp only [Act.put,List.setIfInBounds_toArray,List.set_cons_zero,List.set_cons_succ,i64_w,i32_w]
   rfl
  refine pu_ (i:=10) (N:=some 19) ?_
  refine one_ (i:=11) (N:=some 20) #[true,true,true,true,true,true,true,true,true,true,true,true,false] rfl rfl (one_of HT_.out (by kernel_rfl)) (by decide) (fun K hK=>?_)
  refine goes_ Tryz.func77 (by kernel_rfl) rfl #[.int .i64 (wrap64 (t584 - 10800)),.int .i64 (wrap64 (t585 - 10800))] (by rfl) rfl rfl (by (try simp only [List.map_toArray,List.map_cons,List.map_nil]);first|done|rfl|(simp only [Int.sub_zero];rfl)|(simp only [List.length_drop,List.length_take];rfl)) ?_
  with_reducible refine (tr_passed.calls (wrap64 (t584 - 10800)) (wrap64 (t585 - 10800)) t586 _ A7.out).mono ?_
  rintro e w' ⟨rfl,⟨nd,rfl⟩⟩
  refine ⟨_,rfl,?_⟩
  refine hK.out _ _ ⟨(blk_cell BK583.out 0).trans rfl,(blk_cell BK583.out 1).trans rfl,(blk_cell BK583.out 2).trans rfl,(blk_cell BK583.out 3).trans rfl⟩ (fun hHeld=>?_)
  clear hK K
  refine norm_ (a':=?_) ?_ ?_
  rotate_left
  ·show Act.put _ (some 20) _=_
   simp only [Act.put,List.setIfInBounds_toArray,List.set_cons_zero,List.set_cons_succ,i64_w,i32_w]
   rfl
  refine pu_ (i:=12) (N:=some 6) ?_
  refine done_ (done_of HT_.out (by kernel_rfl)) ?_
  try go_wp2
  go_ret
  exact ⟨y2_,(by repeat (first|(with_reducible first|exact HB.out|apply below_alloc|apply pw_below_drewN|apply below_drew1|refine below_set ?_ GE583.out)|exact HB.out))⟩
 ·replace c4:=Bool.eq_false_iff.mpr c4;subst c4
  have H1:((tr_ahead.f l0_0 a0_1 a0_2 a0_3 1 0 (wrap64 (a1 - 1))).bind fun t587=>((tr_ahead.f l0_0 a0_1 a0_2 a0_3 1 0 a1).bind fun t588=>((tr_passed.f (wrap64 (t587 - 0)) (wrap64 (t588 - 0))).bind fun t589=>(some t589))))=some r:=by rw [if_neg (show ¬ (false=true) by decide)] at H;exact H
  clear H;have H:=H1;clear H1;replace H:=Option.bind_eq_some_iff.mp H;obtain ⟨t587,A120,H⟩:=H
  replace H:((tr_ahead.f l0_0 a0_1 a0_2 a0_3 1 0 a1).bind fun t588=>((tr_passed.f (wrap64 (t587 - 0)) (wrap64 (t588 - 0))).bind fun t589=>(some t589)))=some r:=H
  have A12:=A0_ A120;clear A120;replace H:=Option.bind_eq_some_iff.mp H;obtain ⟨t588,A130,H⟩:=H
  replace H:((tr_passed.f (wrap64 (t587 - 0)) (wrap64 (t588 - 0))).bind fun t589=>(some t589))=some r:=H
  have A13:=A0_ A130;clear A130;replace H:=Option.bind_eq_some_iff.mp H;obtain ⟨t589,A140,H⟩:=H
  replace H:(some t589)=some r:=H
  have A14:=A0_ A140;clear A140;obtain rfl:=Option.some.inj H
  go_enter Tryz.func99,Tryz.ntmps99
  try go_wp2_with (first|((with_reducible refine gate_dst (N:=3) rfl ?_);refine box_event ?hg (N:=3) ?hd (cs:=#[.slice A0_0 l0_0.length c0_0,.int .i64 a0_1,.int .i64 a0_2,.int .i64 a0_3]) (t:=29) ?hr ?_;(case hd=>rfl);(case hg=>rfl);(case hr=>first|(go_simp;done)|(go_simp;rfl));intro gb583 hg w15 hbox hb;have n0_:=A0_ (below_step y0_ hb);have n1_:=A0_ (hbox);have n2_:=A0_ ((by rw [hg];exact (below_size y0_):w.heap.size≤gb583));have n3_:=A0_ ((by rw [hg];exact (below_size y0_):w.heap.size≤gb583));clear HB;have HB:=n0_;have BK583:=n1_;have GW583:=n2_;have GE583:=n3_;clear n0_ n1_ n2_ n3_;clear hb hbox hg))
  have n0_:=A0_ (blk_drew BK583.out);have n1_:=A0_ (below_drew1 HB.out);clear BK583;clear HB;have BK583:=n0_;have HB:=n1_;clear n0_ n1_
  refine start_ (n:=13) (S:=fun w'=>w'.cell? ⟨gb583,0,none⟩=some (.slice A0_0 l0_0.length c0_0)∧w'.cell? ⟨gb583,1,none⟩=some (.int .i64 a0_1)∧w'.cell? ⟨gb583,2,none⟩=some (.int .i64 a0_2)∧w'.cell? ⟨gb583,3,none⟩=some (.int .i64 a0_3)) (ds:=[]) #[false,false,false,false,false,false,false,false,false,false,false,false,false] (by kernel_rfl) rfl rfl ⟨(blk_cell BK583.out 0).trans rfl,(blk_cell BK583.out 1).trans rfl,(blk_cell BK583.out 2).trans rfl,(blk_cell BK583.out 3).trans rfl⟩ (fun hHeld=>?_);refine with_tabW tr_Moon.tab4 tr_Moon.bits4 (fun HT_ HW_=>?_)
  generalize w15.drew=w16 at BK583 HB hHeld ⊢
  refine pu_ (i:=1) (N:=some 10) ?_;refine pu_ (i:=2) (N:=some 11) ?_;refine pu_ (i:=4) (N:=some 13) ?_;refine pu_ (i:=7) (N:=some 16) ?_;refine pu_ (i:=9) (N:=some 18) ?_;refine ta_ (i:=0) (N:=some 9) ?_;refine ta_ (i:=6) (N:=some 15) ?_
  refine one_ (i:=3) (N:=some 12) #[true,true,true,true,true,false,true,true,false,true,false,false,false] rfl rfl (one_of HT_.out (by kernel_rfl)) (by decide) (fun K hK=>?_)
  refine goes_ Tryz.func76 (by kernel_rfl) rfl #[.agg #[.slice A0_0 l0_0.length c0_0,.int .i64 a0_1,.int .i64 a0_2,.int .i64 a0_3],.int .i64 1,.int .i64 0,.int .i64 (wrap64 (a1 - 1))] (by rfl) rfl rfl (by (try simp only [List.map_toArray,List.map_cons,List.map_nil]);first|done|rfl|(simp only [Int.sub_zero];rfl)|(simp only [List.length_drop,List.length_take];rfl)) ?_
  with_reducible refine (tr_ahead.calls _ _ l0_0 a0_1 a0_2 a0_3 1 0 (wrap64 (a1 - 1)) t587 _ ?side1 ?side2 A12.out).mono ?_
  (case side1=>repeat (first|exact (Kd.C_below HR0_0.out HB.out)|(with_reducible refine Kd.C_alloc ?_ _)|(with_reducible refine Kd.C_drewN ?_ _)|(with_reducible refine Kd.C_drew ?_)))
  (case side2=>exact HC0_0.out)
  rintro e w17 ⟨rfl,hb⟩
  refine ⟨_,rfl,?_⟩
  have n0_:=A0_ (blk_below (g:=gb583) (o:=.cells #[.slice A0_0 l0_0.length c0_0,.int .i64 a0_1,.int .i64 a0_2,.int .i64 a0_3] 29 (0,0)) (bd_ BK583.out) hb)
  have n1_:=A0_ (below_step (by repeat (first|(with_reducible first|exact HB.out|apply below_alloc|apply pw_below_drewN|apply below_drew1|refine below_set ?_ GE583.out)|exact HB.out)) hb)
  clear BK583;clear HB;have BK583:=n0_;have HB:=n1_;clear n0_ n1_;(try clear hb);(try clear hb2);(try clear hk);(try clear hi)
  refine hK.out _ _ ⟨(blk_cell BK583.out 0).trans rfl,(blk_cell BK583.out 1).trans rfl,(blk_cell BK583.out 2).trans rfl,(blk_cell BK583.out 3).trans rfl⟩ (fun hHeld=>?_)
  clear hK K
  refine norm_ (a':=?_) ?_ ?_
  rotate_left
  ·show Act.put _ (some 12) _=_
   simp only [Act.put,List.setIfInBounds_toArray,List.set_cons_zero,List.set_cons_succ,i64_w,i32_w]
   rfl
  refine pu_ (i:=5) (N:=some 14) ?_
  refine one_ (i:=8) (N:=some 17) #[true,true,true,true,true,true,true,true,true,true,false,false,false] rfl rfl (one_of HT_.out (by kernel_rfl)) (by decide) (fun K hK=>?_)
  refine goes_ Tryz.func76 (by kernel_rfl) rfl #[.agg #[.slice A0_0 l0_0.length c0_0,.int .i64 a0_1,.int .i64 a0_2,.int .i64 a0_3],.int .i64 1,.int .i64 0,.int .i64 a1] (by rfl) rfl rfl (by (try simp only [List.map_toArray,List.map_cons,List.map_nil]);first|done|rfl|(simp only [Int.sub_zero];rfl)|(simp only [List.length_drop,List.length_take];rfl)) ?_
  with_reducible refine (tr_ahead.calls _ _ l0_0 a0_1 a0_2 a0_3 1 0 a1 t588 _ ?side1 ?side2 A13.out).mono ?_
  (case side1=>repeat (first|exact (Kd.C_below HR0_0.out HB.out)|(with_reducible refine Kd.C_alloc ?_ _)|(with_reducible refine Kd.C_drewN ?_ _)|(with_reducible refine Kd.C_drew ?_)))
  (case side2=>exact HC0_0.out)
  rintro e w18 ⟨rfl,hb⟩
  refine ⟨_,rfl,?_⟩
  have n0_:=A0_ (blk_below (g:=gb583) (o:=.cells #[.slice A0_0 l0_0.length c0_0,.int .i64 a0_1,.int .i64 a0_2,.int .i64 a0_3] 29 (0,0)) (bd_ BK583.out) hb)
  have n1_:=A0_ (below_step (by repeat (first|(with_reducible first|exact HB.out|apply below_alloc|apply pw_below_drewN|apply below_drew1|refine below_set ?_ GE583.out)|exact HB.out)) hb)
  clear BK583;clear HB;have BK583:=n0_;have HB:=n1_;clear n0_ n1_;(try clear hb);(try clear hb2);(try clear hk);(try clear hi)
  refine hK.out _ _ ⟨(blk_cell BK583.out 0).trans rfl,(blk_cell BK583.out 1).trans rfl,(blk_cell BK583.out 2).trans rfl,(blk_cell BK583.out 3).trans rfl⟩ (fun hHeld=>?_)
  clear hK K
  refine norm_ (a':=?_) ?_ ?_
  rotate_left
  ·show Act.put _ (some 17) _=_
   simp only [Act.put,List.setIfInBounds_toArray,List.set_cons_zero,List.set_cons_succ,i64_w,i32_w]
   rfl
  refine pu_ (i:=10) (N:=some 19) ?_
  refine one_ (i:=11) (N:=some 20) #[true,true,true,true,true,true,true,true,true,true,true,true,false] rfl rfl (one_of HT_.out (by kernel_rfl)) (by decide) (fun K hK=>?_)
  refine goes_ Tryz.func77 (by kernel_rfl) rfl #[.int .i64 (wrap64 (t587 - 0)),.int .i64 (wrap64 (t588 - 0))] (by rfl) rfl rfl (by (try simp only [List.map_toArray,List.map_cons,List.map_nil]);first|done|rfl|(simp only [Int.sub_zero];rfl)|(simp only [List.length_drop,List.length_take];rfl)) ?_
  with_reducible refine (tr_passed.calls (wrap64 (t587 - 0)) (wrap64 (t588 - 0)) t589 _ A14.out).mono ?_
  rintro e w' ⟨rfl,⟨nd,rfl⟩⟩
  refine ⟨_,rfl,?_⟩
  refine hK.out _ _ ⟨(blk_cell BK583.out 0).trans rfl,(blk_cell BK583.out 1).trans rfl,(blk_cell BK583.out 2).trans rfl,(blk_cell BK583.out 3).trans rfl⟩ (fun hHeld=>?_)
  clear hK K
  refine norm_ (a':=?_) ?_ ?_
  rotate_left
  ·show Act.put _ (some 20) _=_
   simp only [Act.put,List.setIfInBounds_toArray,List.set_cons_zero,List.set_cons_succ,i64_w,i32_w]
   rfl
  refine pu_ (i:=12) (N:=some 6) ?_
  refine done_ (done_of HT_.out (by kernel_rfl)) ?_
  try go_wp2
  go_ret
  exact ⟨y2_,(by repeat (first|(with_reducible first|exact HB.out|apply below_alloc|apply pw_below_drewN|apply below_drew1|refine below_set ?_ GE583.out)|exact HB.out))⟩
def tr_Next.l0:Nat→Bool→Int→List (S74)→Int→Int→Int→Option (Int)
 |0,_,_,_,_,_,_=>none
 |k+1,x2,x7,x591000,x591001,x591002,x591003=>if x7≤20000 then ((tr_Moon.f x591000 x591001 x591002 x591003 x7 x2).bind fun t591=>(if t591=true then (some x7) else (tr_Next.l0 k x2 (wrap64 (x7+1)) x591000 x591001 x591002 x591003))) else (some (-1))
def tr_Next.f (k:Nat) (l0_0:List (S74)) (a0_1:Int) (a0_2:Int) (a0_3:Int) (a1:Int) (a2:Bool):Option (Int):=tr_Next.l0 k a2 (mx 1 a1) l0_0 a0_1 a0_2 a0_3
set_option maxHeartbeats 8000000 in
set_option maxRecDepth 100000 in
theorem tr_Next.calls (k:Nat) (A0_0:Option Addr) (c0_0:Nat) (l0_0:List (S74)) (a0_1:Int) (a0_2:Int) (a0_3:Int) (a1:Int) (a2:Bool) (r:Int) (w:World) (hr0_0:Kd.C k74 w A0_0 l0_0.length l0_0) (hc0_0:l0_0.length≤c0_0) (h:tr_Next.f k l0_0 a0_1 a0_2 a0_3 a1 a2=some r):
  Calls Tryz.prog 50 #[.agg #[.slice A0_0 l0_0.length c0_0,.int .i64 a0_1,.int .i64 a0_2,.int .i64 a0_3],.int .i64 a1,.bool a2] w fun e w'=>e=.returned (.int .i64 r)∧Below w.heap.size w w':=by
 have hu29:=Tryz.underlying29
 have HR0_0:=A0_ hr0_0;have HC0_0:=A0_ hc0_0;clear hr0_0 hc0_0
 have HB:=A0_ (Below.refl w.heap.size w)
 have H:(tr_Next.l0 k a2 (mx 1 a1) l0_0 a0_1 a0_2 a0_3)=some r:=h
 clear h
 obtain ⟨ji4,hji4⟩:∃ j_:Int,(mx 1 a1)=j_:=⟨_,rfl⟩
 replace H:(tr_Next.l0 k a2 ji4 l0_0 a0_1 a0_2 a0_3)=some r:=by first|(rw [hji4] at H;exact H)|(simp only [hji4] at H ⊢;exact H)
 (try (have hji4l:1≤ji4:=by (rw [← hji4];unfold mx;(repeat' split) <;> omega)))
 (try (have hji4m:0≤ji4:=by omega))
 have hji4_:(if 1<a1 then a1 else 1)=ji4:=hji4
 have H':=A0_ H
 clear H
 go_enter Tryz.func50,Tryz.ntmps50
 go_wp2_with (first|((with_reducible refine gate_dst (N:=3) rfl ?_);refine box_event ?hg (N:=3) ?hd (cs:=#[.slice A0_0 l0_0.length c0_0,.int .i64 a0_1,.int .i64 a0_2,.int .i64 a0_3]) (t:=29) ?hr ?_;(case hd=>rfl);(case hg=>rfl);(case hr=>first|(go_simp;done)|(go_simp;rfl));intro gb590 hg w5 hbox hb;have n0_:=A0_ (below_step y0_ hb);have n1_:=A0_ (hbox);have n2_:=A0_ ((by rw [hg];exact (below_size y0_):w.heap.size≤gb590));have n3_:=A0_ ((by rw [hg];exact (below_size y0_):w.heap.size≤gb590));clear HB;have HB:=n0_;have BK590:=n1_;have GW590:=n2_;have GE590:=n3_;clear n0_ n1_ n2_ n3_;clear hb hbox hg))
 go_loopg [7] k (fun kq v7 w'=>∃ (x7_1:Int),v7=.int .i64 x7_1∧Aside0 (tr_Next.l0 kq a2 x7_1 l0_0 a0_1 a0_2 a0_3=some r)∧Aside0 (kq≤k)∧Aside0 (w'.heap[gb590]?=some (.cells #[(.slice A0_0 l0_0.length c0_0),.int .i64 a0_1,.int .i64 a0_2,.int .i64 a0_3] 29 (0,0)))∧Aside0 (Below w.heap.size w w'))
 case atStart=>exact ⟨(ji4),(by first|rfl|(simp;done)|(simp only [← hji4] <;> (first|rfl|simp))|(simp [*];done)),H',⟨Nat.le_refl _⟩,⟨by (with_reducible repeat (first|refine blk_drewN ?_ _|refine blk_drew ?_|refine blk_alloc ?_ _));exact BK590.out⟩,⟨(by repeat (first|(with_reducible first|exact HB.out|apply below_alloc|apply pw_below_drewN|apply below_drew1|refine below_set ?_ GE590.out)|exact HB.out))⟩⟩
 case round=>
  clear H'
  (try clear p2);(try clear c5)
  obtain ⟨x7_1,rfl,HA,HK1,BK590,HB⟩:=hrel
  cases gk with
  |zero=>exact absurd HA.out (by simp [tr_Next.l0])
  |succ k1=>
   have H:=HA.out
   clear HA
   simp only [tr_Next.l0] at H
   by_cases c6:x7_1≤20000
   ·rw [if_pos c6] at H;have c6b0:decide (x7_1≤20000)=true:=decide_eq_true c6;clear c6;replace H:=Option.bind_eq_some_iff.mp H;obtain ⟨t591,A70,H⟩:=H
    replace H:(if t591=true then (some x7_1) else (tr_Next.l0 k1 a2 (wrap64 (x7_1+1)) l0_0 a0_1 a0_2 a0_3))=some r:=H
    have A7:=A0_ A70;clear A70
    by_cases c8:t591=true
    ·subst c8
     have H1:(some x7_1)=some r:=by rw [if_pos rfl] at H;exact H
     clear H;have H:=H1;clear H1;obtain rfl:=Option.some.inj H;obtain ⟨hcz9_0,hcz9_1,hcz9_2,hcz9_3,hfz9_0,hfz9_1,hfz9_2,hfz9_3⟩:=bq4_ BK590.out
     go_wp2_with (first|((with_reducible refine gate_callee (f:=99) rfl ?_);refine goesL_ (some 17) rfl rfl Tryz.func99 (by kernel_rfl) rfl #[.agg #[.slice A0_0 l0_0.length c0_0,.int .i64 a0_1,.int .i64 a0_2,.int .i64 a0_3],.int .i64 x7_1,.bool a2] rfl y1_ ?_;(with_reducible refine (tr_Moon.calls _ _ l0_0 a0_1 a0_2 a0_3 x7_1 a2 true _ ?side1 ?side2 A7.out).mono ?_);(case side1=>repeat (first|exact (Kd.C_below HR0_0.out HB.out)|(with_reducible refine Kd.C_alloc ?_ _)|(with_reducible refine Kd.C_drewN ?_ _)|(with_reducible refine Kd.C_drew ?_)));(case side2=>exact HC0_0.out);rintro e w10 ⟨rfl,hb⟩;refine ⟨_,rfl,?_⟩;have n0_:=A0_ (blk_below (g:=gb590) (o:=.cells #[.slice A0_0 l0_0.length c0_0,.int .i64 a0_1,.int .i64 a0_2,.int .i64 a0_3] 29 (0,0)) (bd_ BK590.out) hb);have n1_:=A0_ (below_step (by repeat (first|(with_reducible first|exact HB.out|apply below_alloc|apply pw_below_drewN|apply below_drew1|refine below_set ?_ GE590.out)|exact HB.out)) hb);clear BK590;clear HB;have BK590:=n0_;have HB:=n1_;clear n0_ n1_;(try clear hb);(try clear hb2);(try clear hk);(try clear hi)))
     go_ret
     exact ⟨by first|rfl|(simp [errW_none,errW_some] <;> rfl)|(simp only [← hji4];first|rfl|(simp [errW_none,errW_some] <;> rfl))|(simp [*,errW_none,errW_some] <;> rfl),(by repeat (first|(with_reducible first|exact HB.out|apply below_alloc|apply pw_below_drewN|apply below_drew1|refine below_set ?_ GE590.out)|exact HB.out))⟩
    ·replace c8:=Bool.eq_false_iff.mpr c8;subst c8
     have H1:(tr_Next.l0 k1 a2 (wrap64 (x7_1+1)) l0_0 a0_1 a0_2 a0_3)=some r:=by rw [if_neg (show ¬ (false=true) by decide)] at H;exact H
     clear H;have H:=H1;clear H1
     have H':=A0_ H
     clear H;obtain ⟨hcz11_0,hcz11_1,hcz11_2,hcz11_3,hfz11_0,hfz11_1,hfz11_2,hfz11_3⟩:=bq4_ BK590.out
     go_wp2_with (first|((with_reducible refine gate_callee (f:=99) rfl ?_);refine goesL_ (some 17) rfl rfl Tryz.func99 (by kernel_rfl) rfl #[.agg #[.slice A0_0 l0_0.length c0_0,.int .i64 a0_1,.int .i64 a0_2,.int .i64 a0_3],.int .i64 x7_1,.bool a2] rfl y1_ ?_;(with_reducible refine (tr_Moon.calls _ _ l0_0 a0_1 a0_2 a0_3 x7_1 a2 false _ ?side1 ?side2 A7.out).mono ?_);(case side1=>repeat (first|exact (Kd.C_below HR0_0.out HB.out)|(with_reducible refine Kd.C_alloc ?_ _)|(with_reducible refine Kd.C_drewN ?_ _)|(with_reducible refine Kd.C_drew ?_)));(case side2=>exact HC0_0.out);rintro e w12 ⟨rfl,hb⟩;refine ⟨_,rfl,?_⟩;have n0_:=A0_ (blk_below (g:=gb590) (o:=.cells #[.slice A0_0 l0_0.length c0_0,.int .i64 a0_1,.int .i64 a0_2,.int .i64 a0_3] 29 (0,0)) (bd_ BK590.out) hb);have n1_:=A0_ (below_step (by repeat (first|(with_reducible first|exact HB.out|apply below_alloc|apply pw_below_drewN|apply below_drew1|refine below_set ?_ GE590.out)|exact HB.out)) hb);clear BK590;clear HB;have BK590:=n0_;have HB:=n1_;clear n0_ n1_;(try clear hb);(try clear hb2);(try clear hk);(try clear hi)))
     go_roundg k1
     case measure=>have:=HK1.out;omega
     case rel=>exact ⟨(wrap64 (x7_1+1)),y4_,H',⟨by have:=HK1.out;omega⟩,⟨by (with_reducible repeat (first|refine blk_drewN ?_ _|refine blk_drew ?_|refine blk_alloc ?_ _));exact BK590.out⟩,⟨(by repeat (first|(with_reducible first|exact HB.out|apply below_alloc|apply pw_below_drewN|apply below_drew1|refine below_set ?_ GE590.out)|exact HB.out))⟩⟩
   ·rw [if_neg c6] at H;have c6b0:decide (x7_1≤20000)=false:=decide_eq_false c6;clear c6;obtain rfl:=Option.some.inj H;go_wp2;go_ret
    exact ⟨by first|rfl|(simp [errW_none,errW_some] <;> rfl)|(simp only [← hji4];first|rfl|(simp [errW_none,errW_some] <;> rfl))|(simp [*,errW_none,errW_some] <;> rfl),(by repeat (first|(with_reducible first|exact HB.out|apply below_alloc|apply pw_below_drewN|apply below_drew1|refine below_set ?_ GE590.out)|exact HB.out))⟩
end Go.Proofs.YtjahbgldccjbfaaGreatDoor.PSky
end
section
namespace Go.Proofs.YtjahbgldccjbfaaGreatDoor.PSky
open Go.RowKit Go.Proofs.YtjahbgldccjbfaaGreatDoorW.PrintWords Go.Proofs.YtjahbgldccjbfaaGreatDoorW.PrintLast Go.Proofs.YtjahbgldccjbfaaGreatDoorW.PrintMore
theorem Ev.pos {α:Type} {c:Prop} [Decidable c] {f g:Nat→Option α} {r:α} (h:c) (k:Ev f r):Ev (fun n=>if c then f n else g n) r:=by simpa only [if_pos h] using k
theorem Ev.neg {α:Type} {c:Prop} [Decidable c] {f g:Nat→Option α} {r:α} (h:¬ c) (k:Ev g r):Ev (fun n=>if c then f n else g n) r:=by simpa only [if_neg h] using k
theorem Ev.some {α:Type} (r:α):Ev (fun _=>Option.some r) r:=Ev.now r
theorem Ev.is {α:Type} {o:Option α} {r:α} (h:o=Option.some r):Ev (fun _=>o) r:=by rw [h];exact Ev.now r
theorem wrap_id {n:Int} (h:-9223372036854775808≤n∧n≤9223372036854775807):wrap64 n=n:=by unfold wrap64;omega
theorem scan {β:Type} (l:List β) (bad:β→Bool) (g:Nat→Nat→Option Int) (hlen:l.length≤1000000)
  (hyes:∀ i (h:i<l.length),bad l[i]=true→Ev (fun k=>g k i) (i:Int))
  (hno:∀ i (h:i<l.length),bad l[i]=false→∀ r,Ev (fun k=>g k (i+1)) r→Ev (fun k=>g k i) r)
  (hend:Ev (fun k=>g k l.length) (-1)):∀ m i,i+m=l.length→∃ r,Ev (fun k=>g k i) r∧decide (r ≥ 0)=(l.drop i).any bad
 |0,i,h=>⟨-1,by rw [show i=l.length by omega];exact hend,by rw [show i=l.length by omega,List.drop_length];rfl⟩
 |m+1,i,h=>by
  have hi:i<l.length:=by omega
  rw [List.drop_eq_getElem_cons hi,List.any_cons]
  cases hb:bad l[i] with
  |true=>exact ⟨i,hyes i hi hb,by simp⟩
  |false=>
   obtain ⟨r,hr,he⟩:=scan l bad g hlen hyes hno hend m (i+1) (by omega)
   exact ⟨r,hno i hi hb r hr,by simpa using he⟩
def okIn (a b c:Int):Bool:=decide (b≤a) && decide (a≤c)
theorem in_eq (a b c:Int):sky_in.f a b c=some (okIn a b c):=by
 unfold sky_in.f okIn
 by_cases h:a ≥ b
 ·rw [if_pos h,decide_eq_true (show b≤a from h),Bool.true_and]
 ·rw [if_neg h,decide_eq_false (show ¬ b≤a from h),Bool.false_and]
theorem rin_eq (a b c:Int):tr_in.f a b c=some (okIn a b c):=in_eq a b c
def okPeriod (p q:Int):Bool:=okIn p 1 10000 && (okIn q 1 10000 && decide (4*q≤p))
theorem isPeriod_eq (p q:Int):sky_isPeriod.f p q=some (okPeriod p q):=by
 unfold sky_isPeriod.f okPeriod
 simp only [in_eq,Option.bind_some]
 cases h1:okIn p 1 10000 with
 |false=>rfl
 |true=>
  cases h2:okIn q 1 10000 with
  |false=>rfl
  |true=>
   have hq:wrap64 (4*q)=4*q:=wrap_id (by simp [okIn] at h2;omega)
   rw [hq]
   rfl
theorem period_eq (p q:Int):tr_period.f p q=some (okPeriod p q):=isPeriod_eq p q
def okPlace (n:Int):Bool:=okIn n 0 21599
theorem isPlace_eq (n:Int):sky_isPlace.f n=some (okPlace n):=by unfold sky_isPlace.f;rw [in_eq];rfl
theorem Spot_eq (n:Int):tr_Spot.f n=some (okPlace n):=isPlace_eq n
def okRoad (l:List Int):Bool:=!l.any (fun n=>!okIn n (-600) 600)
def okBody (b:S74):Bool:=okPeriod b.f0.f0 b.f0.f1 && (okPlace b.f1 && (okIn (b.f2.length:Int) 1 8 && okRoad b.f2))
def okSky (l:List S74) (p q n:Int):Bool:=okIn (l.length:Int) 2 4 && (okPeriod p q && (okPlace n && !l.any (fun b=>!okBody b)))
theorem rd_get (l:List Int) (i:Nat) (h:i<l.length):rd l (i:Int)=l[i]:=by unfold rd;simp [h]
theorem rdT_get (l:List S74) (i:Nat) (h:i<l.length):rd_T74 l (i:Int)=l[i]:=by unfold rd_T74;simp [h]
theorem road_ev (l:List Int) (hl:l.length≤1000000):Ev (fun k=>cF_isSky_c1_c1.f k l) (l.any (fun n=>!okIn n (-600) 600)):=by
 obtain ⟨r,hr,he⟩:=scan l (fun n=>!okIn n (-600) 600) (fun k i=>iF_isSky_c1_c1.l0 k l (l.length:Int) (i:Int)) hl
  (fun i h hb=>by
   refine Ev.step (fun k=>by rw [iF_isSky_c1_c1.l0]) ?_
   refine Ev.pos (by omega) (Ev.pos (by omega) (Ev.pos (by omega) ?_))
   refine Ev.bind (a:=true) (Ev.is (by unfold sky_isSky_c1_c1.f;rw [in_eq,rd_get l i h];simp [hb])) ?_
   exact Ev.pos rfl (Ev.now _))
  (fun i h hb r hr=>by
   refine Ev.step (fun k=>by rw [iF_isSky_c1_c1.l0]) ?_
   refine Ev.pos (by omega) (Ev.pos (by omega) (Ev.pos (by omega) ?_))
   refine Ev.bind (a:=false) (Ev.is (by unfold sky_isSky_c1_c1.f;rw [in_eq,rd_get l i h];simp [hb])) ?_
   refine Ev.neg (by simp) ?_
   rw [wrap_id (by omega)]
   exact hr)
  (by
   refine Ev.step (fun k=>by rw [iF_isSky_c1_c1.l0]) ?_
   exact Ev.neg (by omega) (Ev.now _)) l.length 0 (by omega)
 unfold cF_isSky_c1_c1.f iF_isSky_c1_c1.f
 refine Ev.bind hr ?_
 rw [he]
 exact Ev.now _
theorem body_ev (b:S74):Ev (fun k=>sky_isSky_c1.f k b.f0.f0 b.f0.f1 b.f1 b.f2) (!okBody b):=by
 unfold sky_isSky_c1.f okBody
 refine Ev.bind (Ev.is (isPeriod_eq _ _)) ?_
 cases h1:okPeriod b.f0.f0 b.f0.f1 with
 |false=>exact Ev.neg (by simp) (Ev.now _)
 |true=>
  refine Ev.pos rfl (Ev.bind (Ev.is (isPlace_eq _)) ?_)
  cases h2:okPlace b.f1 with
  |false=>exact Ev.neg (by simp) (Ev.now _)
  |true=>
   refine Ev.pos rfl (Ev.bind (Ev.is (in_eq _ _ _)) ?_)
   cases h3:okIn (b.f2.length:Int) 1 8 with
   |false=>exact Ev.neg (by simp) (Ev.now _)
   |true=>
    refine Ev.pos rfl (Ev.bind (road_ev b.f2 (by simp [okIn] at h3;omega)) ?_)
    simp only [okRoad,Bool.true_and,Bool.not_not]
    exact Ev.now _
theorem bodies_ev (l:List S74) (hl:l.length≤1000000):Ev (fun k=>cF_isSky_c1.f k l) (l.any (fun b=>!okBody b)):=by
 obtain ⟨r,hr,he⟩:=scan l (fun b=>!okBody b) (fun k i=>iF_isSky_c1.l0 k l (l.length:Int) (i:Int)) hl
  (fun i h hb=>by
   refine Ev.step (fun k=>by rw [iF_isSky_c1.l0]) ?_
   refine Ev.pos (by omega) (Ev.pos (by omega) (Ev.pos (by omega) ?_))
   rw [rdT_get l i h]
   refine Ev.bind (body_ev _) ?_
   rw [hb]
   exact Ev.pos rfl (Ev.now _))
  (fun i h hb r hr=>by
   refine Ev.step (fun k=>by rw [iF_isSky_c1.l0]) ?_
   refine Ev.pos (by omega) (Ev.pos (by omega) (Ev.pos (by omega) ?_))
   rw [rdT_get l i h]
   refine Ev.bind (body_ev _) ?_
   rw [hb]
   refine Ev.neg (by simp) ?_
   rw [wrap_id (by omega)]
   exact hr)
  (by
   refine Ev.step (fun k=>by rw [iF_isSky_c1.l0]) ?_
   exact Ev.neg (by omega) (Ev.now _)) l.length 0 (by omega)
 unfold cF_isSky_c1.f iF_isSky_c1.f
 refine Ev.bind hr ?_
 rw [he]
 exact Ev.now _
theorem isSky_ev (l:List S74) (p q n:Int):Ev (fun k=>sky_isSky.f k l p q n) (okSky l p q n):=by
 unfold sky_isSky.f okSky
 refine Ev.bind (Ev.is (in_eq _ _ _)) ?_
 cases h1:okIn (l.length:Int) 2 4 with
 |false=>exact Ev.neg (by simp) (Ev.now _)
 |true=>
  refine Ev.pos rfl (Ev.bind (Ev.is (isPeriod_eq _ _)) ?_)
  cases h2:okPeriod p q with
  |false=>exact Ev.neg (by simp) (Ev.now _)
  |true=>
   refine Ev.pos rfl (Ev.bind (Ev.is (isPlace_eq _)) ?_)
   cases h3:okPlace n with
   |false=>exact Ev.neg (by simp) (Ev.now _)
   |true=>
    refine Ev.pos rfl (Ev.bind (bodies_ev l (by simp [okIn] at h1;omega)) ?_)
    simp only [Bool.true_and]
    exact Ev.now _
theorem refroad_ok (l:List S74) (p q n:Int) (i:Int) (b:S74) (hb:b.f2.length≤1000000) (r:Bool) (hall:∀ x∈b.f2,okIn x (-600) 600=true)
  (hr:Ev (fun k=>tr_Sky.l0 k (wrap64 (i+1)) l p q n) r):∀ m j:Nat,j+m=b.f2.length →
  Ev (fun k=>tr_Sky.l1 k i (j:Int) l p q n b.f0.f0 b.f0.f1 b.f1 b.f2) r
 |0,j,h=>by
  refine Ev.step (fun k=>by rw [tr_Sky.l1]) ?_
  exact Ev.neg (by omega) hr
 |m+1,j,h=>by
  have hj:j<b.f2.length:=by omega
  refine Ev.step (fun k=>by rw [tr_Sky.l1]) ?_
  refine Ev.pos (by omega) (Ev.pos (by omega) ?_)
  refine Ev.bind (a:=true) (Ev.is (by rw [rin_eq,rd_get _ j hj,hall _ (List.getElem_mem hj)])) (Ev.pos rfl ?_)
  rw [wrap_id (by omega)]
  exact refroad_ok l p q n i b hb r hall hr m (j+1) (by omega)
theorem refroad_bad (l:List S74) (p q n:Int) (i:Int) (b:S74) (hb:b.f2.length≤1000000):∀ m j:Nat,j+m=b.f2.length→(b.f2.drop j).any (fun n=>!okIn n (-600) 600)=true →
  Ev (fun k=>tr_Sky.l1 k i (j:Int) l p q n b.f0.f0 b.f0.f1 b.f1 b.f2) false
 |0,j,h,hbad=>by
  rw [show j=b.f2.length by omega,List.drop_length] at hbad
  cases hbad
 |m+1,j,h,hbad=>by
  have hj:j<b.f2.length:=by omega
  rw [List.drop_eq_getElem_cons hj,List.any_cons] at hbad
  refine Ev.step (fun k=>by rw [tr_Sky.l1]) ?_
  refine Ev.pos (by omega) (Ev.pos (by omega) ?_)
  refine Ev.bind (Ev.is (by rw [rin_eq,rd_get _ j hj])) ?_
  cases hq:okIn b.f2[j] (-600) 600 with
  |false=>exact Ev.neg (by simp) (Ev.now _)
  |true=>
   rw [hq] at hbad
   refine Ev.pos rfl ?_
   rw [wrap_id (by omega)]
   exact refroad_bad l p q n i b hb m (j+1) (by omega) (by simpa using hbad)
theorem refSky_loop (l:List S74) (p q n:Int) (hl:l.length≤1000000):∀ m i:Nat,i+m=l.length →
  Ev (fun k=>tr_Sky.l0 k (i:Int) l p q n) ((l.drop i).all okBody && (okIn (l.length:Int) 2 4 && (okPeriod p q && okPlace n)))
 |0,i,h=>by
  rw [show i=l.length by omega,List.drop_length]
  refine Ev.step (fun k=>by rw [tr_Sky.l0]) ?_
  refine Ev.neg (by omega) (Ev.bind (Ev.is (rin_eq _ _ _)) ?_)
  cases h1:okIn (l.length:Int) 2 4 with
  |false=>exact Ev.neg (by simp) (Ev.now _)
  |true=>
   refine Ev.pos rfl (Ev.bind (Ev.is (period_eq _ _)) ?_)
   cases h2:okPeriod p q with
   |false=>exact Ev.neg (by simp) (Ev.now _)
   |true=>
    refine Ev.pos rfl (Ev.bind (Ev.is (Spot_eq _)) ?_)
    simp only [List.all_nil,Bool.true_and]
    exact Ev.now _
 |m+1,i,h=>by
  have hi:i<l.length:=by omega
  rw [List.drop_eq_getElem_cons hi,List.all_cons]
  have ih:=refSky_loop l p q n hl m (i+1) (by omega)
  refine Ev.step (fun k=>by rw [tr_Sky.l0]) ?_
  refine Ev.pos (by omega) (Ev.pos (by omega) ?_)
  rw [rdT_get l i hi]
  generalize l[i]=b
  have bad:∀ R:Bool,Ev (fun k=>tr_Sky.j1 k (i:Int) true l p q n b.f0.f0 b.f0.f1 b.f1 b.f2) (false && R):=fun R=>by
   refine Ev.step (fun k=>by rw [tr_Sky.j1]) ?_
   exact Ev.pos rfl (Ev.now _)
  unfold okBody
  refine Ev.bind (Ev.is (period_eq _ _)) ?_
  cases h1:okPeriod b.f0.f0 b.f0.f1 with
  |false=>exact Ev.neg (by simp) (bad _)
  |true=>
   refine Ev.pos rfl (Ev.bind (Ev.is (Spot_eq _)) ?_)
   cases h2:okPlace b.f1 with
   |false=>exact Ev.neg (by simp) (bad _)
   |true=>
    refine Ev.pos rfl (Ev.bind (Ev.is (rin_eq _ _ _)) ?_)
    cases h3:okIn (b.f2.length:Int) 1 8 with
    |false=>exact bad _
    |true=>
     have hbl:b.f2.length≤1000000:=by simp [okIn] at h3;omega
     refine Ev.step (fun k=>by rw [tr_Sky.j1]) ?_
     refine Ev.neg (by simp) ?_
     cases h4:okRoad b.f2 with
     |false=>exact refroad_bad l p q n i b hbl b.f2.length 0 (by omega) (by simpa [okRoad] using h4)
     |true=>
      simp only [Bool.true_and]
      have h5:∀ x∈b.f2,okIn x (-600) 600=true:=by
       intro x hx
       unfold okRoad at h4
       cases hq:okIn x (-600) 600 with
       |true=>rfl
       |false=>
        have:b.f2.any (fun n=>!okIn n (-600) 600)=true:=List.any_eq_true.mpr ⟨x,hx,by simp [hq]⟩
        rw [this] at h4
        cases h4
      refine refroad_ok l p q n i b hbl _ h5 ?_ b.f2.length 0 (by omega)
      rw [wrap_id (by omega)]
      exact ih
theorem any_all (f:S74→Bool) (l:List S74):(!l.any (fun b=>!f b))=l.all f:=by
 induction l with
 |nil=>rfl
 |cons b t ih=>simp [ih]
theorem refSky_ev (l:List S74) (p q n:Int) (hl:l.length≤1000000):Ev (fun k=>tr_Sky.f k l p q n) (okSky l p q n):=by
 have h:=refSky_loop l p q n hl l.length 0 (by omega)
 rw [List.drop_zero] at h
 have e:okSky l p q n=(l.all okBody && (okIn (l.length:Int) 2 4 && (okPeriod p q && okPlace n))):=by
  unfold okSky
  rw [any_all]
  cases l.all okBody <;> cases okIn (l.length:Int) 2 4 <;> cases okPeriod p q <;> cases okPlace n <;> rfl
 rw [e]
 exact h
theorem short_ev (l:List S74) (p q n:Int):∃ b,Ev (fun k=>tl_short.f k l p q n) b∧(b=true→l.length≤6):=by
 have key:∀ m i:Nat,i+m=7→∃ b,Ev (fun k=>tl_short.l0 k (i:Int) l p q n) b∧(b=true→l.length≤6):=by
  intro m
  induction m with
  |zero=>
   intro i h
   have fin:∀ c:Bool,c=false→Ev (fun k=>tl_short.j1 k (i:Int) c l p q n) (decide ((l.length:Int)≤6)):=fun c hc=>by
    refine Ev.step (fun k=>by rw [tl_short.j1]) ?_
    exact Ev.neg (by simp [hc]) (Ev.now _)
   refine ⟨decide ((l.length:Int)≤6),?_,fun h=>by have:=of_decide_eq_true h;omega⟩
   refine Ev.step (fun k=>by rw [tl_short.l0]) ?_
   by_cases hi:(i:Int)<(l.length:Int)
   ·exact Ev.pos hi (fin _ (decide_eq_false (by omega)))
   ·exact Ev.neg hi (fin _ rfl)
  |succ m ih=>
   intro i h
   by_cases hi:(i:Int)<(l.length:Int)
   ·by_cases hr:((rd_T74 l (i:Int)).f2.length:Int) > 10
    ·refine ⟨false,?_,fun h=>by cases h⟩
     refine Ev.step (fun k=>by rw [tl_short.l0]) (Ev.pos hi ?_)
     refine Ev.step (fun k=>by rw [tl_short.j1]) (Ev.pos (by simp;omega) ?_)
     exact Ev.pos (by omega) (Ev.pos hi (Ev.pos hr (Ev.now _)))
    ·obtain ⟨b,hb,hb6⟩:=ih (i+1) (by omega)
     refine ⟨b,?_,hb6⟩
     refine Ev.step (fun k=>by rw [tl_short.l0]) (Ev.pos hi ?_)
     refine Ev.step (fun k=>by rw [tl_short.j1]) (Ev.pos (by simp;omega) ?_)
     refine Ev.pos (by omega) (Ev.pos hi (Ev.neg hr ?_))
     rw [wrap_id (by omega)]
     exact hb
   ·refine ⟨decide ((l.length:Int)≤6),?_,fun h=>by have:=of_decide_eq_true h;omega⟩
    refine Ev.step (fun k=>by rw [tl_short.l0]) (Ev.neg hi ?_)
    refine Ev.step (fun k=>by rw [tl_short.j1]) ?_
    exact Ev.neg (by simp) (Ev.now _)
 unfold tl_short.f
 exact key 7 0 rfl
end Go.Proofs.YtjahbgldccjbfaaGreatDoor.PSky
end
section
namespace Go.Proofs.YtjahbgldccjbfaaGreatDoor.PSky
open Go.RowKit Go.Proofs.YtjahbgldccjbfaaGreatDoorW.PrintWords Go.Proofs.YtjahbgldccjbfaaGreatDoorW.PrintLast Go.Proofs.YtjahbgldccjbfaaGreatDoorW.PrintMore
theorem tquot {a b:Int} (hb:0<b):(Int.tmod a b<0→a / b=Int.tdiv a b - 1∧a % b=Int.tmod a b+b)∧(0≤Int.tmod a b→a / b=Int.tdiv a b∧a % b=Int.tmod a b):=by
 have h1:=Int.tmod_add_mul_tdiv a b
 have h2:=Int.tmod_lt_of_pos a hb
 have h3:=Int.lt_tmod_of_pos a hb
 refine ⟨fun h=>?_,fun h=>?_⟩
 ·exact (Int.ediv_emod_unique hb).mpr ⟨by rw [Int.mul_sub,Int.mul_one];omega,by omega,by omega⟩
 ·exact (Int.ediv_emod_unique hb).mpr ⟨by omega,h,h2⟩
theorem tdiv_le {a b:Int} (hb:0<b) {m:Int} (ha:-m≤a∧a≤m) (hm:0≤m):-m - 1≤a / b∧a / b≤m:=by
 constructor
 ·have:(-m - 1)≤a / b:=by
   rw [Int.le_ediv_iff_mul_le hb]
   have:=Int.mul_le_mul_of_nonneg_left (show (1:Int)≤b by omega) (show (0:Int)≤m+1 by omega)
   have e:(-m - 1)*b = -((m+1)*b):=by rw [← Int.neg_mul];congr 1;omega
   omega
  exact this
 ·have:a / b≤m:=by
   have h1:a / b*b≤a:=Int.ediv_mul_le a (by omega)
   rcases Int.lt_or_le (a / b) 0 with h|h
   ·omega
   ·have:=Int.mul_le_mul_of_nonneg_left (show (1:Int)≤b by omega) h
    omega
  exact this
theorem floor_eq {a b:Int} (hb:0<b) (hb2:b≤1000000000000) (ha:-1000000000000000000≤a∧a≤1000000000000000000):sky_floor.f a b=some (a / b,a % b):=by
 have q:=tdiv_le hb ha (by decide)
 have m0:=Int.emod_nonneg a (show b≠0 by omega)
 have m1:=Int.emod_lt_of_pos a hb
 unfold sky_floor.f
 rw [if_neg (by omega)]
 by_cases h:Int.tmod a b<0
 ·obtain ⟨e1,e2⟩:=(tquot (a:=a) hb).1 h
  rw [if_pos h,e1,e2]
  rw [e1] at q
  rw [e2] at m0 m1
  rw [wrap_id (show -9223372036854775808≤a.tdiv b∧a.tdiv b≤9223372036854775807 by omega),wrap_id (by omega),wrap_id (by omega)]
 ·obtain ⟨e1,e2⟩:=(tquot (a:=a) hb).2 (by omega)
  rw [if_neg h,e1,e2]
  rw [e1] at q
  rw [wrap_id (show -9223372036854775808≤a.tdiv b∧a.tdiv b≤9223372036854775807 by omega)]
theorem around_eq {a:Int} (ha:-1000000000000000000≤a∧a≤1000000000000000000):sky_around.f a=some (a % 21600):=by
 unfold sky_around.f
 rw [floor_eq (by decide) (by decide) ha]
 rfl
theorem down_eq {a b:Int} (hb:0<b) (hb2:b≤1000000) (ha:-1000000000000≤a∧a≤1000000000000):tr_down.f a b=some (a / b):=by
 have q:=tdiv_le hb ha (by decide)
 have h0:=Int.tmod_add_mul_tdiv a b
 have h2:=Int.tmod_lt_of_pos a hb
 have h3:=Int.lt_tmod_of_pos a hb
 have e0:a.tdiv b*b=b*a.tdiv b:=Int.mul_comm _ _
 unfold tr_down.f
 rw [if_neg (by omega)]
 by_cases h:Int.tmod a b<0
 ·obtain ⟨e1,e2⟩:=(tquot (a:=a) hb).1 h
  rw [e1] at q ⊢
  rw [wrap_id (show -9223372036854775808≤a.tdiv b∧a.tdiv b≤9223372036854775807 by omega),wrap_id (show -9223372036854775808≤a.tdiv b*b∧a.tdiv b*b≤9223372036854775807 by omega),if_pos (by omega),wrap_id (by omega)]
 ·obtain ⟨e1,e2⟩:=(tquot (a:=a) hb).2 (by omega)
  rw [e1] at q ⊢
  rw [wrap_id (show -9223372036854775808≤a.tdiv b∧a.tdiv b≤9223372036854775807 by omega),wrap_id (show -9223372036854775808≤a.tdiv b*b∧a.tdiv b*b≤9223372036854775807 by omega),if_neg (by omega)]
theorem Less_eq {a:Int} (ha:-1000000000000≤a∧a≤1000000000000):tr_Less.f a=some (a % 21600):=by
 unfold tr_Less.f
 rw [down_eq (by decide) (by decide) ha,Option.bind_some]
 have h1:=Int.emod_add_mul_ediv a 21600
 have h2:=Int.emod_nonneg a (show (21600:Int)≠0 by decide)
 have h3:=Int.emod_lt_of_pos a (show (0:Int)<21600 by decide)
 rw [wrap_id (show -9223372036854775808≤a / 21600*21600∧a / 21600*21600≤9223372036854775807 by omega),wrap_id (by omega)]
 congr 1
 omega
def goneOf (p q d:Int):Int:=d*21600*q / p
def meanOf (b:S74) (d:Int):Int:=b.f1+goneOf b.f0.f0 b.f0.f1 d
def stepOf (b:S74) (d:Int):Int:=(meanOf b d % 21600)*(b.f2.length:Int)
def wayOf (b:S74) (d:Int):Int:=
 meanOf b d+rd b.f2 (stepOf b d / 21600)+(rd b.f2 ((stepOf b d / 21600+1) % (b.f2.length:Int)) - rd b.f2 (stepOf b d / 21600))*(stepOf b d % 21600) / 21600
theorem okIn_iff {a b c:Int}:okIn a b c=true ↔ b≤a∧a≤c:=by simp [okIn]
theorem period_of {p q:Int} (h:okPeriod p q=true):1≤p∧p≤10000∧1≤q∧q≤10000∧4*q≤p:=by
 simp only [okPeriod,Bool.and_eq_true,okIn_iff,decide_eq_true_eq] at h
 omega
theorem gone_bounds {p q d:Int} (h:okPeriod p q=true) (hd:0≤d∧d≤20000):0≤goneOf p q d∧goneOf p q d≤108000000∧0≤d*21600*q∧d*21600*q≤4320000000000:=by
 have hp:=period_of h
 have h1:d*21600*q=d*q*21600:=by rw [Int.mul_assoc,Int.mul_comm 21600 q,← Int.mul_assoc]
 have h0:0≤d*q:=Int.mul_nonneg hd.1 (by omega)
 have h2:d*q≤20000*q:=Int.mul_le_mul_of_nonneg_right hd.2 (by omega)
 refine ⟨Int.ediv_nonneg (by omega) (by omega),?_,by omega,by omega⟩
 unfold goneOf
 have h3:d*21600*q / p*p≤d*21600*q:=Int.ediv_mul_le _ (by omega)
 rcases Int.lt_or_le (d*21600*q / p) 108000001 with h4|h4
 ·omega
 ·have h5:=Int.mul_le_mul h4 (show 4*q≤p by omega) (by omega) (by omega)
  have h6:108000001*(4*q)=432000004*q:=by omega
  omega
theorem mean_bounds {b:S74} {d:Int} (h:okBody b=true) (hd:0≤d∧d≤20000):0≤meanOf b d∧meanOf b d≤108021599:=by
 simp only [okBody,Bool.and_eq_true,okPlace,okIn_iff] at h
 have:=gone_bounds h.1 hd
 unfold meanOf
 omega
theorem road_bounds {b:S74} (h:okBody b=true) (i:Int):-600≤rd b.f2 i∧rd b.f2 i≤600:=by
 simp only [okBody,Bool.and_eq_true] at h
 have h4:=h.2.2.2
 unfold rd
 rw [List.getD_eq_getElem?_getD]
 cases hq:b.f2[i.toNat]? with
 |none=>decide
 |some x=>
  have hx:=List.mem_of_getElem? hq
  have:okIn x (-600) 600=true:=by
   cases h5:okIn x (-600) 600 with
   |true=>rfl
   |false=>
    unfold okRoad at h4
    rw [List.any_eq_true.mpr ⟨x,hx,by simp [h5]⟩] at h4
    cases h4
  exact okIn_iff.mp this
theorem body_len {b:S74} (h:okBody b=true):1≤b.f2.length∧b.f2.length≤8:=by
 simp only [okBody,Bool.and_eq_true,okIn_iff] at h
 omega
theorem step_bounds {b:S74} {d:Int} (h:okBody b=true):0≤stepOf b d∧stepOf b d≤172800∧0≤stepOf b d / 21600∧stepOf b d / 21600<(b.f2.length:Int):=by
 have hl:=body_len h
 have h2:=Int.emod_nonneg (meanOf b d) (show (21600:Int)≠0 by decide)
 have h3:=Int.emod_lt_of_pos (meanOf b d) (show (0:Int)<21600 by decide)
 unfold stepOf
 generalize meanOf b d % 21600=x at h2 h3 ⊢
 have h4:0≤x*(b.f2.length:Int):=Int.mul_nonneg h2 (by omega)
 have h5:x*(b.f2.length:Int)≤21599*(b.f2.length:Int):=Int.mul_le_mul_of_nonneg_right (by omega) (by omega)
 refine ⟨h4,by omega,by omega,by omega⟩
theorem gone_eq (l:List S74) (a1 a2 a3:Int) {p q d:Int} (h:okPeriod p q=true) (hd:0≤d∧d≤20000):ss_gone.f l a1 a2 a3 d p q=some (goneOf p q d):=by
 have hg:=gone_bounds h hd
 have hp:=period_of h
 unfold ss_gone.f
 rw [wrap_id (show -9223372036854775808≤d*21600∧d*21600≤9223372036854775807 by omega),wrap_id (by omega),floor_eq (by omega) (by omega) (by omega)]
 rfl
theorem sum2_ev (a b:Int) (h:-1000000000≤a∧a≤1000000000) (h':-1000000000≤b∧b≤1000000000):Ev (fun k=>sky_sum.f k [a,b]) (a+b):=by
 unfold sky_sum.f
 rw [show (([a,b].length:Nat):Int)=2 from rfl]
 have w1:wrap64 (0+1)=1:=by kernel_rfl
 have w2:wrap64 (1+1)=2:=by kernel_rfl
 refine Ev.step (fun k=>by rw [sky_sum.l0]) ?_
 refine Ev.pos (by decide) (Ev.pos (by decide) (Ev.pos (by show (0:Int)<2;decide) ?_))
 rw [w1]
 refine Ev.step (fun k=>by rw [sky_sum.l0]) ?_
 refine Ev.pos (by decide) (Ev.pos (by decide) (Ev.pos (by show (1:Int)<2;decide) ?_))
 rw [w2]
 refine Ev.step (fun k=>by rw [sky_sum.l0]) ?_
 refine Ev.neg (by decide) ?_
 rw [show rd [a,b] 0=a from rfl,show rd [a,b] 1=b from rfl,wrap_id (show -9223372036854775808≤0+a∧0+a≤9223372036854775807 by omega),wrap_id (by omega),Int.zero_add]
 exact Ev.now _
theorem sum3_ev (a b c:Int) (h:-1000000000≤a∧a≤1000000000) (h':-1000000000≤b∧b≤1000000000) (h'':-1000000000≤c∧c≤1000000000):Ev (fun k=>sky_sum.f k [a,b,c]) (a+b+c):=by
 unfold sky_sum.f
 rw [show (([a,b,c].length:Nat):Int)=3 from rfl]
 have w1:wrap64 (0+1)=1:=by kernel_rfl
 have w2:wrap64 (1+1)=2:=by kernel_rfl
 have w3:wrap64 (2+1)=3:=by kernel_rfl
 refine Ev.step (fun k=>by rw [sky_sum.l0]) ?_
 refine Ev.pos (by decide) (Ev.pos (by decide) (Ev.pos (by show (0:Int)<3;decide) ?_))
 rw [w1]
 refine Ev.step (fun k=>by rw [sky_sum.l0]) ?_
 refine Ev.pos (by decide) (Ev.pos (by decide) (Ev.pos (by show (1:Int)<3;decide) ?_))
 rw [w2]
 refine Ev.step (fun k=>by rw [sky_sum.l0]) ?_
 refine Ev.pos (by decide) (Ev.pos (by decide) (Ev.pos (by show (2:Int)<3;decide) ?_))
 rw [w3]
 refine Ev.step (fun k=>by rw [sky_sum.l0]) ?_
 refine Ev.neg (by decide) ?_
 rw [show rd [a,b,c] 0=a from rfl,show rd [a,b,c] 1=b from rfl,show rd [a,b,c] 2=c from rfl,wrap_id (show -9223372036854775808≤0+a∧0+a≤9223372036854775807 by omega),wrap_id (show -9223372036854775808≤0+a+b∧0+a+b≤9223372036854775807 by omega),wrap_id (by omega),Int.zero_add]
 exact Ev.now _
theorem mean_ev (l:List S74) (a1 a2 a3 d:Int) (i:Nat) (hi:i<l.length) (h:okBody l[i]=true) (hd:0≤d∧d≤20000):Ev (fun k=>ss_mean.f k l a1 a2 a3 d (i:Int)) (meanOf l[i] d):=by
 unfold ss_mean.f
 refine Ev.pos (by omega) (Ev.pos (by omega) ?_)
 rw [rdT_get l i hi]
 generalize l[i]=b at h
 have hp:okPeriod b.f0.f0 b.f0.f1=true:=by simp only [okBody,Bool.and_eq_true] at h;exact h.1
 have hs:0≤b.f1∧b.f1≤21599:=by simp only [okBody,Bool.and_eq_true,okPlace,okIn_iff] at h;exact h.2.1
 have hg:=gone_bounds hp hd
 refine Ev.bind (Ev.is (gone_eq l a1 a2 a3 hp hd)) (Ev.bind (sum2_ev _ _ (by omega) (by omega)) (Ev.now _))
theorem way_ev (l:List S74) (a1 a2 a3 d:Int) (i:Nat) (hi:i<l.length) (h:okBody l[i]=true) (hd:0≤d∧d≤20000):Ev (fun k=>ss_way.f k l a1 a2 a3 d (i:Int)) (wayOf l[i] d):=by
 have hm:=mean_ev l a1 a2 a3 d i hi h hd
 unfold ss_way.f
 refine Ev.pos (by omega) (Ev.pos (by omega) (Ev.bind hm ?_))
 rw [rdT_get l i hi]
 generalize l[i]=b at h
 have hmb:=mean_bounds h hd
 have hl:=body_len h
 have hs:=step_bounds (d:=d) h
 refine Ev.bind (Ev.is (around_eq (by omega))) ?_
 rw [show meanOf b d % 21600*(b.f2.length:Int)=stepOf b d from rfl,wrap_id (show -9223372036854775808≤stepOf b d∧stepOf b d≤9223372036854775807 by omega)]
 refine Ev.bind (Ev.is (floor_eq (by decide) (by decide) (by omega))) ?_
 simp only
 rw [wrap_id (show -9223372036854775808≤stepOf b d / 21600+1∧stepOf b d / 21600+1≤9223372036854775807 by omega)]
 have ht:Int.tmod (stepOf b d / 21600+1) (b.f2.length:Int)=(stepOf b d / 21600+1) % (b.f2.length:Int):=Int.tmod_eq_emod_of_nonneg (by omega)
 rw [ht]
 have h2:=Int.emod_nonneg (stepOf b d / 21600+1) (show (b.f2.length:Int)≠0 by omega)
 have h3:=Int.emod_lt_of_pos (stepOf b d / 21600+1) (show (0:Int)<(b.f2.length:Int) by omega)
 refine Ev.neg (by omega) (Ev.pos h2 (Ev.pos h3 (Ev.pos hs.2.2.1 (Ev.pos hs.2.2.2 ?_))))
 have r1:=road_bounds h (stepOf b d / 21600)
 have r2:=road_bounds h ((stepOf b d / 21600+1) % (b.f2.length:Int))
 have p0:=Int.emod_nonneg (stepOf b d) (show (21600:Int)≠0 by decide)
 have p1:=Int.emod_lt_of_pos (stepOf b d) (show (0:Int)<21600 by decide)
 unfold wayOf
 generalize rd b.f2 (stepOf b d / 21600)=x at r1 ⊢
 generalize rd b.f2 ((stepOf b d / 21600+1) % (b.f2.length:Int))=y at r2 ⊢
 generalize stepOf b d % 21600=z at p0 p1 ⊢
 have q:-25920000≤(y - x)*z∧(y - x)*z≤25920000:=by
  constructor
  ·have:=Int.mul_le_mul_of_nonneg_right (show -1200≤y - x by omega) p0
   omega
  ·have:=Int.mul_le_mul_of_nonneg_right (show y - x≤1200 by omega) p0
   omega
 rw [wrap_id (show -9223372036854775808≤y - x∧y - x≤9223372036854775807 by omega),wrap_id (show -9223372036854775808≤(y - x)*z∧(y - x)*z≤9223372036854775807 by omega)]
 refine Ev.bind (Ev.is (floor_eq (by decide) (by decide) (by omega))) (Ev.bind (sum3_ev _ _ _ (by omega) (by omega) (by simp only;omega)) (Ev.now _))
theorem way_bounds {b:S74} {d:Int} (h:okBody b=true) (hd:0≤d∧d≤20000):-2000≤wayOf b d∧wayOf b d≤108030000:=by
 have hmb:=mean_bounds h hd
 have r1:=road_bounds h (stepOf b d / 21600)
 have r2:=road_bounds h ((stepOf b d / 21600+1) % (b.f2.length:Int))
 have p0:=Int.emod_nonneg (stepOf b d) (show (21600:Int)≠0 by decide)
 have p1:=Int.emod_lt_of_pos (stepOf b d) (show (0:Int)<21600 by decide)
 unfold wayOf
 generalize rd b.f2 (stepOf b d / 21600)=x at r1 ⊢
 generalize rd b.f2 ((stepOf b d / 21600+1) % (b.f2.length:Int))=y at r2 ⊢
 generalize stepOf b d % 21600=z at p0 p1 ⊢
 have q:-25920000≤(y - x)*z∧(y - x)*z≤25920000:=by
  constructor
  ·have:=Int.mul_le_mul_of_nonneg_right (show -1200≤y - x by omega) p0
   omega
  ·have:=Int.mul_le_mul_of_nonneg_right (show y - x≤1200 by omega) p0
   omega
 omega
end Go.Proofs.YtjahbgldccjbfaaGreatDoor.PSky
end
section
namespace Go.Proofs.YtjahbgldccjbfaaGreatDoor.PSky
open Go.RowKit Go.Proofs.YtjahbgldccjbfaaGreatDoorW.PrintWords Go.Proofs.YtjahbgldccjbfaaGreatDoorW.PrintLast Go.Proofs.YtjahbgldccjbfaaGreatDoorW.PrintMore
theorem refmean_eq {b:S74} {d:Int} (h:okBody b=true) (hd:0≤d∧d≤20000):tr_mean.f b.f0.f0 b.f0.f1 b.f1 b.f2 d=some (meanOf b d):=by
 have hp:okPeriod b.f0.f0 b.f0.f1=true:=by simp only [okBody,Bool.and_eq_true] at h;exact h.1
 have hs:0≤b.f1∧b.f1≤21599:=by simp only [okBody,Bool.and_eq_true,okPlace,okIn_iff] at h;exact h.2.1
 have hg:=gone_bounds hp hd
 have hpp:=period_of hp
 unfold tr_mean.f
 rw [if_neg (by omega),wrap_id (show -9223372036854775808≤d*21600∧d*21600≤9223372036854775807 by omega),wrap_id (show -9223372036854775808≤d*21600*b.f0.f1∧d*21600*b.f0.f1≤9223372036854775807 by omega)]
 rw [Int.tdiv_eq_ediv_of_nonneg hg.2.2.1]
 rw [show d*21600*b.f0.f1 / b.f0.f0=goneOf b.f0.f0 b.f0.f1 d from rfl,wrap_id (show -9223372036854775808≤goneOf b.f0.f0 b.f0.f1 d∧goneOf b.f0.f0 b.f0.f1 d≤9223372036854775807 by omega),wrap_id (by omega)]
 rfl
theorem refway_eq {b:S74} {d:Int} (h:okBody b=true) (hd:0≤d∧d≤20000):tr_way.f b.f0.f0 b.f0.f1 b.f1 b.f2 d=some (wayOf b d):=by
 have hmb:=mean_bounds h hd
 have hl:=body_len h
 have hs:=step_bounds (d:=d) h
 unfold tr_way.f
 have hM:tr_Mean.f b.f0.f0 b.f0.f1 b.f1 b.f2 d=some (meanOf b d % 21600):=by
  unfold tr_Mean.f
  rw [refmean_eq h hd,Option.bind_some,Less_eq (by omega)]
  rfl
 rw [hM,Option.bind_some,if_neg (by omega),refmean_eq h hd]
 rw [show meanOf b d % 21600*(b.f2.length:Int)=stepOf b d from rfl,wrap_id (show -9223372036854775808≤stepOf b d∧stepOf b d≤9223372036854775807 by omega)]
 rw [Int.tdiv_eq_ediv_of_nonneg hs.1,Int.tmod_eq_emod_of_nonneg hs.1,wrap_id (show -9223372036854775808≤stepOf b d / 21600∧stepOf b d / 21600≤9223372036854775807 by omega),wrap_id (show -9223372036854775808≤stepOf b d / 21600+1∧stepOf b d / 21600+1≤9223372036854775807 by omega)]
 have ht:Int.tmod (stepOf b d / 21600+1) (b.f2.length:Int)=(stepOf b d / 21600+1) % (b.f2.length:Int):=Int.tmod_eq_emod_of_nonneg (by omega)
 rw [ht]
 have h2:=Int.emod_nonneg (stepOf b d / 21600+1) (show (b.f2.length:Int)≠0 by omega)
 have h3:=Int.emod_lt_of_pos (stepOf b d / 21600+1) (show (0:Int)<(b.f2.length:Int) by omega)
 rw [if_pos h2,if_pos h3,Option.bind_some,if_pos hs.2.2.1,if_pos hs.2.2.2]
 have r1:=road_bounds h (stepOf b d / 21600)
 have r2:=road_bounds h ((stepOf b d / 21600+1) % (b.f2.length:Int))
 have p0:=Int.emod_nonneg (stepOf b d) (show (21600:Int)≠0 by decide)
 have p1:=Int.emod_lt_of_pos (stepOf b d) (show (0:Int)<21600 by decide)
 unfold wayOf
 generalize rd b.f2 (stepOf b d / 21600)=x at r1 ⊢
 generalize rd b.f2 ((stepOf b d / 21600+1) % (b.f2.length:Int))=y at r2 ⊢
 generalize stepOf b d % 21600=z at p0 p1 ⊢
 have q:-25920000≤(y - x)*z∧(y - x)*z≤25920000:=by
  constructor
  ·have:=Int.mul_le_mul_of_nonneg_right (show -1200≤y - x by omega) p0
   omega
  ·have:=Int.mul_le_mul_of_nonneg_right (show y - x≤1200 by omega) p0
   omega
 rw [wrap_id (show -9223372036854775808≤y - x∧y - x≤9223372036854775807 by omega),wrap_id (show -9223372036854775808≤(y - x)*z∧(y - x)*z≤9223372036854775807 by omega)]
 rw [down_eq (by decide) (by decide) (by omega),Option.bind_some,wrap_id (show -9223372036854775808≤meanOf b d+x∧meanOf b d+x≤9223372036854775807 by omega),wrap_id (by omega)]
def aheadOf (l:List S74) (i j:Nat) (d:Int):Int:=wayOf (rd_T74 l (i:Int)) d - wayOf (rd_T74 l (j:Int)) d
theorem ok_at {l:List S74} {p q n:Int} (h:okSky l p q n=true):2≤l.length∧l.length≤4∧okPeriod p q=true∧okPlace n=true∧∀ i:Nat,i<l.length→okBody (rd_T74 l (i:Int))=true:=by
 simp only [okSky,Bool.and_eq_true,okIn_iff] at h
 refine ⟨by omega,by omega,h.2.1,h.2.2.1,fun i hi=>?_⟩
 have h4:=h.2.2.2
 rw [any_all] at h4
 rw [rdT_get l i hi]
 exact List.all_eq_true.mp h4 _ (List.getElem_mem hi)
theorem refahead_eq {l:List S74} {p q n:Int} (h:okSky l p q n=true) (i j:Nat) (hi:i<l.length) (hj:j<l.length) {d:Int} (hd:0≤d∧d≤20000):tr_ahead.f l p q n (i:Int) (j:Int) d=some (aheadOf l i j d):=by
 obtain ⟨-,-,-,-,hb⟩:=ok_at h
 have b1:=way_bounds (hb i hi) hd
 have b2:=way_bounds (hb j hj) hd
 unfold tr_ahead.f aheadOf
 rw [if_pos (by omega),if_pos (by omega),refway_eq (hb i hi) hd,Option.bind_some,if_pos (by omega),if_pos (by omega),refway_eq (hb j hj) hd,Option.bind_some,wrap_id (by omega)]
theorem wayT_ev {l:List S74} {p q n:Int} (h:okSky l p q n=true) (i:Nat) (hi:i<l.length) {d:Int} (hd:0≤d∧d≤20000):Ev (fun k=>ss_way.f k l p q n d (i:Int)) (wayOf (rd_T74 l (i:Int)) d):=by
 have hb:=(ok_at h).2.2.2.2 i hi
 rw [rdT_get l i hi] at hb ⊢
 exact way_ev l p q n d i hi hb hd
theorem lunar_ev {l:List S74} {p q n:Int} (h:okSky l p q n=true) {d:Int} (hd:0≤d∧d≤20000):Ev (fun k=>ss_lunar.f k l p q n d) (aheadOf l 1 0 d):=by
 obtain ⟨h2,-,-,-,hb⟩:=ok_at h
 have b1:=way_bounds (hb 1 (by omega)) hd
 have b2:=way_bounds (hb 0 (by omega)) hd
 unfold ss_lunar.f aheadOf
 refine Ev.bind (a:=wayOf (rd_T74 l ((0:Nat):Int)) d) ?_ (Ev.bind (a:=wayOf (rd_T74 l ((1:Nat):Int)) d) ?_ ?_)
 ·unfold ss_sun.f
  exact Ev.bind (wayT_ev h 0 (by omega) hd) (Ev.now _)
 ·unfold ss_moon.f
  exact Ev.bind (wayT_ev h 1 (by omega) hd) (Ev.now _)
 ·rw [wrap_id (by omega)]
  exact Ev.now _
theorem ahead_bounds {l:List S74} {p q n:Int} (h:okSky l p q n=true) (i j:Nat) (hi:i<l.length) (hj:j<l.length) {d:Int} (hd:0≤d∧d≤20000):-200000000≤aheadOf l i j d∧aheadOf l i j d≤200000000:=by
 obtain ⟨-,-,-,-,hb⟩:=ok_at h
 have b1:=way_bounds (hb i hi) hd
 have b2:=way_bounds (hb j hj) hd
 unfold aheadOf
 omega
theorem passes_eq {a b:Int} (ha:-1000000000≤a∧a≤1000000000) (hb:-1000000000≤b∧b≤1000000000):sky_passes.f a b=some (decide (b / 21600 > a / 21600)):=by
 unfold sky_passes.f
 rw [floor_eq (by decide) (by decide) (by omega),Option.bind_some,floor_eq (by decide) (by decide) (by omega),Option.bind_some]
theorem passed_eq {a b:Int} (ha:-1000000000≤a∧a≤1000000000) (hb:-1000000000≤b∧b≤1000000000):tr_passed.f a b=some (decide (b / 21600 > a / 21600)):=by
 unfold tr_passed.f
 rw [down_eq (by decide) (by decide) (by omega),Option.bind_some,down_eq (by decide) (by decide) (by omega),Option.bind_some]
def isMoon (l:List S74) (half d:Int):Bool:=decide ((aheadOf l 1 0 d - half) / 21600 > (aheadOf l 1 0 (d - 1) - half) / 21600)
theorem new_ev {l:List S74} {p q n:Int} (h:okSky l p q n=true) {d:Int} (hd:1≤d∧d≤20000):Ev (fun k=>at_has_new.f k l p q n d) (isMoon l 0 d):=by
 have h2:=(ok_at h).1
 have b1:=ahead_bounds h 1 0 (by omega) (by omega) (d:=d) (by omega)
 have b2:=ahead_bounds h 1 0 (by omega) (by omega) (d:=d - 1) (by omega)
 unfold at_has_new.f isMoon
 rw [wrap_id (show -9223372036854775808≤d - 1∧d - 1≤9223372036854775807 by omega)]
 refine Ev.bind (lunar_ev h (by omega)) (Ev.bind (lunar_ev h (by omega)) (Ev.bind (Ev.is (passes_eq (by omega) (by omega))) ?_))
 simp only [Int.sub_zero]
 exact Ev.now _
theorem full_ev {l:List S74} {p q n:Int} (h:okSky l p q n=true) {d:Int} (hd:1≤d∧d≤20000):Ev (fun k=>at_has_full.f k l p q n d) (isMoon l 10800 d):=by
 have h2:=(ok_at h).1
 have b1:=ahead_bounds h 1 0 (by omega) (by omega) (d:=d) (by omega)
 have b2:=ahead_bounds h 1 0 (by omega) (by omega) (d:=d - 1) (by omega)
 unfold at_has_full.f isMoon
 rw [wrap_id (show -9223372036854775808≤d - 1∧d - 1≤9223372036854775807 by omega)]
 refine Ev.bind (lunar_ev h (by omega)) (Ev.bind (lunar_ev h (by omega)) ?_)
 rw [wrap_id (show -9223372036854775808≤aheadOf l 1 0 (d - 1) - 10800∧aheadOf l 1 0 (d - 1) - 10800≤9223372036854775807 by omega),wrap_id (show -9223372036854775808≤aheadOf l 1 0 d - 10800∧aheadOf l 1 0 d - 10800≤9223372036854775807 by omega)]
 exact Ev.bind (Ev.is (passes_eq (by omega) (by omega))) (Ev.now _)
theorem refMoon_eq {l:List S74} {p q n:Int} (h:okSky l p q n=true) {d:Int} (hd:1≤d∧d≤20000) (full:Bool):tr_Moon.f l p q n d full=some (isMoon l (if full=true then 10800 else 0) d):=by
 have h2:=(ok_at h).1
 have b1:=ahead_bounds h 1 0 (by omega) (by omega) (d:=d) (by omega)
 have b2:=ahead_bounds h 1 0 (by omega) (by omega) (d:=d - 1) (by omega)
 have e1:=refahead_eq h 1 0 (by omega) (by omega) (d:=d) (by omega)
 have e2:=refahead_eq h 1 0 (by omega) (by omega) (d:=d - 1) (by omega)
 rw [show ((1:Nat):Int)=1 from rfl,show ((0:Nat):Int)=0 from rfl] at e1 e2
 unfold tr_Moon.f isMoon
 rw [wrap_id (show -9223372036854775808≤d - 1∧d - 1≤9223372036854775807 by omega),e1,e2]
 simp only [Option.bind_some]
 cases full with
 |true=>
  rw [if_pos rfl,if_pos rfl,wrap_id (show -9223372036854775808≤aheadOf l 1 0 (d - 1) - 10800∧aheadOf l 1 0 (d - 1) - 10800≤9223372036854775807 by omega),wrap_id (show -9223372036854775808≤aheadOf l 1 0 d - 10800∧aheadOf l 1 0 d - 10800≤9223372036854775807 by omega),passed_eq (by omega) (by omega)]
  rfl
 |false=>
  rw [if_neg (by simp),if_neg (by simp),wrap_id (show -9223372036854775808≤aheadOf l 1 0 (d - 1) - 0∧aheadOf l 1 0 (d - 1) - 0≤9223372036854775807 by omega),wrap_id (show -9223372036854775808≤aheadOf l 1 0 d - 0∧aheadOf l 1 0 d - 0≤9223372036854775807 by omega),passed_eq (by omega) (by omega)]
  rfl
theorem Ev.all {α β:Type} (g:α→Nat→Option β) (r:α→β):∀ l:List α,(∀ d∈l,Ev (g d) (r d))→∃ K,∀ k,K≤k→∀ d∈l,g d k=Option.some (r d)
 |[],_=>⟨0,fun _ _ d h=>by cases h⟩
 |x :: t,h=>by
  obtain ⟨K1,h1⟩:=h x (List.mem_cons_self ..)
  obtain ⟨K2,h2⟩:=Ev.all g r t (fun d hd=>h d (List.mem_cons_of_mem _ hd))
  refine ⟨max K1 K2,fun k hk d hd=>?_⟩
  rcases List.mem_cons.mp hd with rfl|hd
  ·exact h1 k (by omega)
  ·exact h2 k (by omega) d hd
end Go.Proofs.YtjahbgldccjbfaaGreatDoor.PSky
end
section
namespace Go.Proofs.YtjahbgldccjbfaaGreatDoor.PSky
open Go.RowKit Go.Proofs.YtjahbgldccjbfaaGreatDoorW.PrintWords Go.Proofs.YtjahbgldccjbfaaGreatDoorW.PrintLast Go.Proofs.YtjahbgldccjbfaaGreatDoorW.PrintMore
theorem known_ev:Ev (fun _=>tl_known.f.bind fun t=>some t) true:=Ev.now true
end Go.Proofs.YtjahbgldccjbfaaGreatDoor.PSky
end
section
namespace Go.Proofs.YtjahbgldccjbfaaGreatDoor.PSky
open Go.RowKit Go.Proofs.YtjahbgldccjbfaaGreatDoorW.PrintWords Go.Proofs.YtjahbgldccjbfaaGreatDoorW.PrintLast Go.Proofs.YtjahbgldccjbfaaGreatDoorW.PrintMore
def okDay (n:Int):Bool:=okIn n 0 20000
theorem isDay_eq (n:Int):sky_isDay.f n=some (okDay n):=by unfold sky_isDay.f;rw [in_eq];rfl
theorem Day_eq (n:Int):tr_Day.f n=some (okDay n):=isDay_eq n
end Go.Proofs.YtjahbgldccjbfaaGreatDoor.PSky
end
section
namespace Go.Proofs.YtjahbgldccjbfaaGreatDoor.PSky
open Go.RowKit Go.Proofs.YtjahbgldccjbfaaGreatDoorW.PrintWords Go.Proofs.YtjahbgldccjbfaaGreatDoorW.PrintLast Go.Proofs.YtjahbgldccjbfaaGreatDoorW.PrintMore
theorem operIn_of {l n:Nat} {P:Program} {o:Oper} {a:Act} {w:World} {K:Act→World→Prop} {Q:Exit→Act→World→Prop} (hd:∀ c:Call,o.op≠Op.defer c) (h:o.wp P a w K Q):o.wpIn (Fence.wide.inRound l) n P a w K Q:=by
 unfold Oper.wp at h
 unfold Oper.wpIn
 refine ⟨fun _ _=>trivial,?_⟩
 rw [show (Fence.wide.inRound l).round=some l from rfl,Oper.semAt_some l _ _ hd]
 generalize (execOp a.eval o).run P w=r at *
 cases r with
 |ok x w'=>
  cases x with
  |value v=>exact h
  |skip=>exact h
  |defer d=>exact h
  |enter f args=>exact ⟨fun hh=>by simp [Fence.wide,Fence.inRound] at hh,CallsIn.inRound l (callsIn_wide.2 h)⟩
  |row r args=>exact ⟨fun hh=>by simp [Fence.wide,Fence.inRound] at hh,fun c cs _=>let ⟨v,w2,hr,hs⟩:=h c cs;⟨v,w2,hr,stepsIn_wide.2 hs⟩⟩
  |_=>exact h.elim
 |halt x w'=>cases x <;> exact h
theorem anyIn_of {l n:Nat} {P:Program} {md:Region.Mode} {ops:Array Oper} {Q:Exit→Act→World→Prop} (hd:∀ (i:Nat) (o:Oper),ops[i]?=some o→∀ c:Call,o.op≠Op.defer c) (hQ:¬ LetsOut Q):∀ (fuel:Nat) (listed:Array Bool) (a:Act) (w:World),
  wpAny P md ops Q fuel listed a w→wpAnyIn (Fence.wide.inRound l) n P md ops Q fuel listed a w
 |0,_,_,_,h=>h
 |fuel+1,listed,a,w,h=>by
  refine ⟨h.1,fun i hi=>?_⟩
  have h2:=h.2 i hi
  unfold wpOp at h2
  unfold wpOpIn
  cases ho:ops[i]? with
  |none=>
   rw [ho] at h2
   exact anyIn_of hd hQ fuel _ _ _ h2
  |some o=>
   rw [ho] at h2
   simp only at h2 ⊢
   split
   ·rename_i hw
    rw [if_pos hw] at h2
    rcases h2 with h2|h2
    ·exact Oper.wpIn_mono (fun a w hh=>anyIn_of hd hQ fuel _ a w hh) (operIn_of (hd i o ho) h2)
    ·exact absurd h2.2 hQ
   ·rename_i hw
    rw [if_neg hw] at h2
    exact ⟨fun _ _=>trivial,anyIn_of hd hQ fuel _ _ _ h2⟩
def onlyN (Q:Exit→Act→World→Prop):Exit→Act→World→Prop:=fun e a w=>e=.normal∧Q .normal a w
theorem onlyN_no {Q:Exit→Act→World→Prop} {c:List PanicEntry} {a a':Act} {w w':World} (h:onlyN Q (.panic c) a w):onlyN Q (.panic c) a' w':=by cases h.1
theorem startIn_ {l n m id:Nat} {P:Program} {ops:Array Oper} {Q:Exit→Act→World→Prop} {S:World→Prop} {ds:List Nat} {a:Act} {w:World} (L:Array Bool) (hm:P.follows .mixedOrders=true)
  (hd:(ops.toList.all fun (o:Oper)=>match o.op with|Op.defer _=>false|_=>true)=true) (hn:ops.size=m) (hl:Array.replicate m false=L) (hS:S w.drew)
  (h:S w.drew→wpAnyLast P .any ops (onlyN Q) S ds m L a w.drew):(Code.region id ops true).wpIn (Fence.wide.inRound l) n P Q a w:=by
 subst hn;subst hl
 have hd':∀ (i:Nat) (o:Oper),ops[i]?=some o→∀ c:Call,o.op≠Op.defer c:=by
  intro i o ho c hc
  have:=List.all_eq_true.mp hd o (by simpa using Array.mem_of_getElem? ho)
  rw [hc] at this
  cases this
 refine wpIn_mono (wpIn_region_any hm (anyIn_of hd' ?_ _ _ _ _ (wpAny_of_last _ _ _ _ (h hS)))) ?_
 ·rintro ⟨_,_,hh⟩
  cases hh.1
 ·rintro e a w ⟨rfl,hq⟩
  exact hq
end Go.Proofs.YtjahbgldccjbfaaGreatDoor.PSky
end
section
namespace Go.Proofs.YtjahbgldccjbfaaGreatDoor.PSky
open Go.RowKit Go.Shelf Go.Proofs.YtjahbgldccjbfaaGreatDoorW.PrintWords Go.Proofs.YtjahbgldccjbfaaGreatDoorW.PrintLast Go.Proofs.YtjahbgldccjbfaaGreatDoorW.PrintMore
attribute [local go_sem] Oper.semAt_some max2_int min2_int max_two min_two
def moonTy (b:Bool):Nat:=if b=true then 153 else 157
set_option maxRecDepth 100000 in
theorem moonOf_calls (b:Bool) (w:World):Calls Tryz.prog 98 #[.bool b] w fun e w'=>e=.returned (.iface (moonTy b) (.agg #[]))∧w'=w:=by
 cases b with
 |true=>
  go_enter Tryz.func98,Tryz.ntmps98
  go_wp2;go_ret
  exact ⟨rfl,rfl⟩
 |false=>
  go_enter Tryz.func98,Tryz.ntmps98
  go_wp2;go_ret
  exact ⟨rfl,rfl⟩
def hasOf (k:Nat) (l:List S74) (i1 i2 i3:Int) (full:Bool) (d:Int):Option Bool:=if full=true then at_has_full.f k l i1 i2 i3 d else at_has_new.f k l i1 i2 i3 d
theorem hasOf_calls (k:Nat) (A0_0:Option Addr) (c0_0:Nat) (l0_0:List S74) (a0_1 a0_2 a0_3 d:Int) (full r:Bool) (w:World) (hr0_0:Kd.C k74 w A0_0 l0_0.length l0_0) (hc0_0:l0_0.length≤c0_0) (h:hasOf k l0_0 a0_1 a0_2 a0_3 full d=some r):
  Calls Tryz.prog 71 #[.agg #[.slice A0_0 l0_0.length c0_0,.int .i64 a0_1,.int .i64 a0_2,.int .i64 a0_3,.int .i64 d],.iface (moonTy full) (.agg #[])] w fun e w'=>e=.returned (.bool r)∧Below w.heap.size w w':=by
 cases full with
 |true=>exact at_has_full.calls k A0_0 c0_0 l0_0 a0_1 a0_2 a0_3 d r w hr0_0 hc0_0 (by unfold hasOf at h;rw [if_pos rfl] at h;exact h)
 |false=>exact at_has_new.calls k A0_0 c0_0 l0_0 a0_1 a0_2 a0_3 d r w hr0_0 hc0_0 (by unfold hasOf at h;rw [if_neg (by simp)] at h;exact h)
def sky_Next.f (k:Nat) (l:List S74) (i1 i2 i3 d:Int) (full:Bool):Option (Int × Int):=
 (sky_isSky.f k l i1 i2 i3).bind fun b1=>if b1=true then (sky_isDay.f d).bind fun b2=>if b2=true then
  (if ∀ x∈daysOf (mx 1 d) 20000,(hasOf k l i1 i2 i3 full x).isSome=true then (match (daysOf (mx 1 d) 20000).find? (fun x=>hasOf k l i1 i2 i3 full x=some true) with|some x=>some (x,0)|none=>some (0,5)) else none) else some (0,2) else some (0,2)
theorem find_congr {p q:Int→Bool}:∀ {l:List Int},(∀ x∈l,p x=q x)→l.find? p=l.find? q
 |[],_=>rfl
 |x :: t,h=>by
  rw [List.find?_cons,List.find?_cons,h x (List.mem_cons_self ..),find_congr (fun y hy=>h y (List.mem_cons_of_mem _ hy))]
theorem find_at {p:Int→Bool}:∀ (pre:List Int) (x:Int) (t:List Int),(∀ y∈pre,p y=false)→p x=true→(pre ++ x :: t).find? p=some x
 |[],x,t,_,h=>by rw [List.nil_append,List.find?_cons,h]
 |y :: pre,x,t,h,hx=>by
  rw [List.cons_append,List.find?_cons,h y (List.mem_cons_self ..)]
  exact find_at pre x t (fun z hz=>h z (List.mem_cons_of_mem _ hz)) hx
theorem up_map {lo hi:Int}:∀ (n:Nat) (h:lo+n≤hi+1),(upDays lo hi n h).map (·.1)=(List.range n).map fun j:Nat=>lo+(j:Nat)
 |0,_=>rfl
 |n+1,h=>by
  rw [upDays,List.map_append,up_map n (by omega),List.range_succ,List.map_append]
  rfl
theorem some_pre {lo hi:Int} {ys:List (DayIn lo hi)} (h:SomeDays lo hi ys):∃ t,daysOf lo hi=ys.map (·.1) ++ t:=by
 obtain ⟨k,hk,rfl⟩:=h
 refine ⟨(List.range ((hi+1 - lo).toNat - k)).map fun j:Nat=>lo+((k+j:Nat):Int),?_⟩
 rw [up_map]
 unfold daysOf
 rw [show (hi+1 - lo).toNat=k+((hi+1 - lo).toNat - k) by omega,List.range_add,List.map_append,List.map_map]
 simp only [Nat.add_sub_cancel_left]
 rfl
theorem in_true' {x a b:Int} (h:sky_in.f x a b=some true):a≤x∧x≤b:=by
 unfold sky_in.f at h
 by_cases h1:x ≥ a
 ·rw [if_pos h1] at h
  exact ⟨h1,by simpa using h⟩
 ·rw [if_neg h1] at h
  simp at h
structure NextI (w W0:World) (B:Nat) (A0:Option Addr) (c0 len:Nat) (i1 i2 i3 lo hi:Int) (b:Bool) (fine:Prop) (W:World):Prop where
 fine:fine
 below:Below w.heap.size w W
 size:W0.heap.size≤W.heap.size
 s:W.heap[B]?=some (.cells #[.slice A0 len c0,.int .i64 i1,.int .i64 i2,.int .i64 i3] 29 (0,0))
 lo:W.heap[B+1]?=some (.cells #[.int .i64 lo] 3 (0,0))
 hi:W.heap[B+2]?=some (.cells #[.int .i64 hi] 3 (0,0))
 full:W.heap[w.heap.size+1]?=some (.cells #[.bool b] 4 (0,0))
 n:W.heap[w.heap.size+2]?=some (.cells #[.int .i64 0] 3 (0,0))
 e:W.heap[w.heap.size+3]?=some (.cells #[.int .i64 0] 30 (0,0))
theorem NextI.own {w W0:World} {B:Nat} {A0:Option Addr} {c0 len:Nat} {i1 i2 i3 lo hi:Int} {b:Bool} {β:Type} {f:β→Prop} {C:Nat} (hC:w.heap.size≤C):
  OwnFrom C (fun (s:β) W=>NextI w W0 B A0 c0 len i1 i2 i3 lo hi b (f s) W):=by
 intro s X Y row h hg hr
 have hr':∀ r,row=some r→∃ o:Obj,X.heap[r]?=some o∧o.isCells=false:=fun r e=>(hr r e).2
 obtain ⟨h1,h3,h4,h5,h6,h7,h8,h9,h10⟩:=h
 exact ⟨h1,h3.grown hg h3.size (fun k e=>by have:=(hr k e).1;omega),Nat.le_trans h4 hg.size,blk_ownFrom h5 hg hr',blk_ownFrom h6 hg hr',blk_ownFrom h7 hg hr',blk_ownFrom h8 hg hr',blk_ownFrom h9 hg hr',blk_ownFrom h10 hg hr'⟩
theorem NextI.stay {w W0 W W':World} {B:Nat} {A0:Option Addr} {c0 len:Nat} {i1 i2 i3 lo hi:Int} {b:Bool} {f:Prop} (h:NextI w W0 B A0 c0 len i1 i2 i3 lo hi b f W) (hb:Below W.heap.size W W'):
  NextI w W0 B A0 c0 len i1 i2 i3 lo hi b f W'∧KeepsFrom W0.heap.size W W'∧KpD B W W':=by
 refine ⟨⟨h.fine,h.below.trans (hb.mono h.below.size),Nat.le_trans h.size hb.size,blk_below h.s hb,blk_below h.lo hb,blk_below h.hi hb,blk_below h.full hb,blk_below h.n hb,blk_below h.e hb⟩,⟨hb.size,fun i o _ hi _=>(hb.block i (Array.getElem?_eq_some_iff.1 hi).1).trans hi⟩,fun i h1 h2=>?_⟩
 have lts:=blk_lt h.hi
 exact hb.block i (by omega)
theorem heap_set2 {w:World} {p q:Addr} {u v:Value} {i:Nat} (hp:i≠p.block) (hq:i≠q.block):((w.setCell p u).setCell q v).heap[i]?=w.heap[i]?:=(Below.heap_setCell (w.setCell p u) q v i hq).trans (Below.heap_setCell w p u i hp)
def NextX (w:World) (f:Int→Option Bool) {lo hi:Int} (c:Code) (pre:List (DayIn lo hi)) (W:World):Prop:=
 c=.ret∧∃ (p:List (DayIn lo hi)) (x:DayIn lo hi),pre=p ++ [x]∧(∀ y∈p,f y.1=some false)∧f x.1=some true∧Below w.heap.size w W∧W.heap[w.heap.size+2]?=some (.cells #[.int .i64 x.1] 3 (0,0))∧W.heap[w.heap.size+3]?=some (.cells #[.int .i64 0] 30 (0,0))
theorem NextX.own {w:World} {f:Int→Option Bool} {lo hi:Int} (c:Code) {C:Nat} (hC:w.heap.size≤C):OwnFrom C (NextX w f (lo:=lo) (hi:=hi) c):=by
 intro s X Y row h hg hr
 have hr':∀ r,row=some r→∃ o:Obj,X.heap[r]?=some o∧o.isCells=false:=fun r e=>(hr r e).2
 obtain ⟨h0,p,x,h1,h2,h3,h4,h5,h6⟩:=h
 exact ⟨h0,p,x,h1,h2,h3,h4.grown hg h4.size (fun k e=>by have:=(hr k e).1;omega),blk_ownFrom h5 hg hr',blk_ownFrom h6 hg hr'⟩
set_option maxRecDepth 100000 in
set_option maxHeartbeats 1600000 in
theorem sky_Next.calls (k:Nat) (A0_0:Option Addr) (c0_0:Nat) (l0_0:List S74) (a0_1 a0_2 a0_3 a1:Int) (a2:Bool) (r1 r2:Int) (w:World)
  (hr0_0:Kd.C k74 w A0_0 l0_0.length l0_0) (hc0_0:l0_0.length≤c0_0) (h:sky_Next.f k l0_0 a0_1 a0_2 a0_3 a1 a2=some (r1,r2)):
  Calls Tryz.prog 49 #[.agg #[.slice A0_0 l0_0.length c0_0,.int .i64 a0_1,.int .i64 a0_2,.int .i64 a0_3],.int .i64 a1,.bool a2] w fun e w'=>e=.returned (.tuple #[.int .i64 r1,.int .i64 r2])∧Below w.heap.size w w':=by
 have HR:=A0_ hr0_0;have HC:=A0_ hc0_0;clear hr0_0 hc0_0
 have hmf:∀ (fn:Fn) (first cap:Array Value) (w:World),(Instr.makeFunc fn first cap).run Tryz.prog w=.ok (.func fn first cap) w:=fun _ _ _ _=>rfl
 obtain ⟨b1,hb1,h1⟩:=Option.bind_eq_some_iff.mp h
 have HB1:=A0_ hb1;clear h hb1
 refine (callsIn_wide (n:=5)).1 ?_
 refine callsIn_of_wp_marks Tryz.func49 rfl trivial ?_ rfl
 simp only [Tryz.ntmps49,List.size_toArray,List.length_cons,List.length_nil,Nat.reduceAdd,Nat.reduceSub,Array.replicate_succ,Array.replicate_zero,List.push_toArray,List.append_toArray,List.nil_append,List.cons_append]
 obtain ⟨W2,hW2⟩:∃ W2,W2=(((w.alloc (.cells #[.slice A0_0 l0_0.length c0_0,.int .i64 a0_1,.int .i64 a0_2,.int .i64 a0_3] 29)).alloc (.cells #[.bool a2] 4)).alloc (.cells #[.int .i64 0] 3)).alloc (.cells #[.int .i64 0] 30):=⟨_,rfl⟩
 have bS:=blk_alloc (blk_alloc (blk_alloc (blk_new w (.cells #[.slice A0_0 l0_0.length c0_0,.int .i64 a0_1,.int .i64 a0_2,.int .i64 a0_3] 29)) (.cells #[.bool a2] 4)) (.cells #[.int .i64 0] 3)) (.cells #[.int .i64 0] 30)
 have bF:=blk_alloc (blk_alloc (blk_new (w.alloc (.cells #[.slice A0_0 l0_0.length c0_0,.int .i64 a0_1,.int .i64 a0_2,.int .i64 a0_3] 29)) (.cells #[.bool a2] 4)) (.cells #[.int .i64 0] 3)) (.cells #[.int .i64 0] 30)
 have bN:=blk_alloc (blk_new ((w.alloc (.cells #[.slice A0_0 l0_0.length c0_0,.int .i64 a0_1,.int .i64 a0_2,.int .i64 a0_3] 29)).alloc (.cells #[.bool a2] 4)) (.cells #[.int .i64 0] 3)) (.cells #[.int .i64 0] 30)
 have bE:=blk_new (((w.alloc (.cells #[.slice A0_0 l0_0.length c0_0,.int .i64 a0_1,.int .i64 a0_2,.int .i64 a0_3] 29)).alloc (.cells #[.bool a2] 4)).alloc (.cells #[.int .i64 0] 3)) (.cells #[.int .i64 0] 30)
 have bB:=below_alloc (below_alloc (below_alloc (below_alloc (Below.refl w.heap.size w) (.cells #[.slice A0_0 l0_0.length c0_0,.int .i64 a0_1,.int .i64 a0_2,.int .i64 a0_3] 29)) (.cells #[.bool a2] 4)) (.cells #[.int .i64 0] 3)) (.cells #[.int .i64 0] 30)
 simp only [World.size_alloc] at bF bN bE
 gi_wp2_with fail
 refine ⟨trivial,?_⟩
 rw [← hW2] at bS bF bN bE bB ⊢
 refine (callsIn_wide.2 (sky_isSky.calls k A0_0 c0_0 l0_0 a0_1 a0_2 a0_3 b1 _ (Kd.C_below HR.out bB) HC.out HB1.out)).mono ?_
 rintro e w1 ⟨rfl,hb⟩
 have HB:=A0_ (below_step bB hb)
 have HS:=A0_ (blk_below bS hb)
 have HF:=A0_ (blk_below bF hb)
 have HN:=A0_ (blk_below bN hb)
 have HE:=A0_ (blk_below bE hb)
 clear hb bS bF bN bE bB hW2
 have n0:=blk_cell HN.out 0
 have n1:=blk_frozen HN.out 0
 have e0:=blk_cell HE.out 0
 have e1:=blk_frozen HE.out 0
 simp at n0 n1 e0 e1
 cases b1 with
 |false=>
  obtain ⟨rfl,rfl⟩:0=r1∧2=r2:=by simpa using h1
  gi_wp2
  refine ⟨trivial,?_⟩
  gi_wp2
  have q0:=blk_cell (blk_far (p:=⟨w.heap.size+1+1+1,0,none⟩) (blk_set HN.out 0 (.int .i64 0)) (by show w.heap.size+1+1≠w.heap.size+1+1+1;omega) (.int .i64 2)) 0
  have q1:=blk_cell (blk_set (blk_far (p:=⟨w.heap.size+1+1,0,none⟩) HE.out (by show w.heap.size+1+1+1≠w.heap.size+1+1;omega) (.int .i64 0)) 0 (.int .i64 2)) 0
  simp at q0 q1
  refine ⟨.tuple #[.int .i64 0,.int .i64 2],?_,rfl,?_⟩
  ·simp [results,Tryz.results49,go_sem,q0,q1]
  ·exact below_set (below_set HB.out (by omega)) (by omega)
 |true=>
 obtain ⟨b2,hb2,h2⟩:=Option.bind_eq_some_iff.mp (show ((sky_isDay.f a1).bind _)=some (r1,r2) from by simpa using h1)
 have HB2:=A0_ hb2;clear h1 hb2
 gi_wp2_with fail
 refine ⟨trivial,?_⟩
 refine (callsIn_wide.2 (sky_isDay.calls a1 b2 _ HB2.out)).mono ?_
 rintro e w' ⟨rfl,⟨nd,rfl⟩⟩
 have HBW:=A0_ (pw_below_drewN HB.out nd)
 have HSW:=A0_ (blk_drewN HS.out nd)
 have HFW:=A0_ (blk_drewN HF.out nd)
 have HNW:=A0_ (blk_drewN HN.out nd)
 have HEW:=A0_ (blk_drewN HE.out nd)
 clear HB HS HF HN HE n0 n1 e0 e1
 generalize w1.drewN nd=W1 at HBW HSW HFW HNW HEW ⊢
 have n0:=blk_cell HNW.out 0
 have n1:=blk_frozen HNW.out 0
 have e0:=blk_cell HEW.out 0
 have e1:=blk_frozen HEW.out 0
 have x0:=blk_cell HSW.out 0
 have x1:=blk_cell HSW.out 1
 have x2:=blk_cell HSW.out 2
 have x3:=blk_cell HSW.out 3
 simp at n0 n1 e0 e1 x0 x1 x2 x3
 cases b2 with
 |false=>
  obtain ⟨rfl,rfl⟩:0=r1∧2=r2:=by simpa using h2
  gi_wp2
  have q0:=blk_cell (blk_far (p:=⟨w.heap.size+1+1+1,0,none⟩) (blk_set HNW.out 0 (.int .i64 0)) (by show w.heap.size+1+1≠w.heap.size+1+1+1;omega) (.int .i64 2)) 0
  have q1:=blk_cell (blk_set (blk_far (p:=⟨w.heap.size+1+1,0,none⟩) HEW.out (by show w.heap.size+1+1+1≠w.heap.size+1+1;omega) (.int .i64 0)) 0 (.int .i64 2)) 0
  simp at q0 q1
  refine ⟨.tuple #[.int .i64 0,.int .i64 2],?_,rfl,?_⟩
  ·simp [results,Tryz.results49,go_sem,q0,q1]
  ·exact below_set (below_set HBW.out (by omega)) (by omega)
 |true=>
 have hday:0≤a1∧a1≤20000:=by
  have hd:=HB2.out
  unfold sky_isDay.f at hd
  obtain ⟨t,ht,h3⟩:=Option.bind_eq_some_iff.mp hd
  obtain rfl:=Option.some.inj h3
  exact in_true' ht
 rw [if_pos rfl] at h2
 have hcond:∀ x∈daysOf (mx 1 a1) 20000,(hasOf k l0_0 a0_1 a0_2 a0_3 a2 x).isSome=true:=by
  split at h2
  ·assumption
  ·cases h2
 rw [if_pos hcond] at h2
 have hlo:1≤mx 1 a1∧mx 1 a1≤20000:=by unfold mx;split <;> omega
 have HRES:=A0_ h2;have HCD:=A0_ hcond;clear h2 hcond
 have lt1:=blk_lt HEW.out
 gi_wp2_with (refine ⟨trivial,?_⟩;gi_at_call 70;refine (callsIn_wide.2 (days_calls A0_0 c0_0 l0_0.length a0_1 a0_2 a0_3 (mx 1 a1) 20000 _)).mono ?_;rintro e w' ⟨rfl,rfl⟩)
 all_goals
  have hB0:Below w.heap.size w (((W1.alloc (.cells #[.slice A0_0 l0_0.length c0_0,.int .i64 a0_1,.int .i64 a0_2,.int .i64 a0_3] 29)).alloc (.cells #[.int .i64 (mx 1 a1)] 3)).alloc (.cells #[.int .i64 20000] 3)):=below_alloc (below_alloc (below_alloc HBW.out _) _) _
  have hS:=blk_alloc (blk_alloc (blk_new W1 (.cells #[.slice A0_0 l0_0.length c0_0,.int .i64 a0_1,.int .i64 a0_2,.int .i64 a0_3] 29)) (.cells #[.int .i64 (mx 1 a1)] 3)) (.cells #[.int .i64 20000] 3)
  have hL:=blk_alloc (blk_new (W1.alloc (.cells #[.slice A0_0 l0_0.length c0_0,.int .i64 a0_1,.int .i64 a0_2,.int .i64 a0_3] 29)) (.cells #[.int .i64 (mx 1 a1)] 3)) (.cells #[.int .i64 20000] 3)
  have hH:=blk_new ((W1.alloc (.cells #[.slice A0_0 l0_0.length c0_0,.int .i64 a0_1,.int .i64 a0_2,.int .i64 a0_3] 29)).alloc (.cells #[.int .i64 (mx 1 a1)] 3)) (.cells #[.int .i64 20000] 3)
  have hF:=blk_alloc (blk_alloc (blk_alloc HFW.out (.cells #[.slice A0_0 l0_0.length c0_0,.int .i64 a0_1,.int .i64 a0_2,.int .i64 a0_3] 29)) (.cells #[.int .i64 (mx 1 a1)] 3)) (.cells #[.int .i64 20000] 3)
  have hN:=blk_alloc (blk_alloc (blk_alloc HNW.out (.cells #[.slice A0_0 l0_0.length c0_0,.int .i64 a0_1,.int .i64 a0_2,.int .i64 a0_3] 29)) (.cells #[.int .i64 (mx 1 a1)] 3)) (.cells #[.int .i64 20000] 3)
  have hE:=blk_alloc (blk_alloc (blk_alloc HEW.out (.cells #[.slice A0_0 l0_0.length c0_0,.int .i64 a0_1,.int .i64 a0_2,.int .i64 a0_3] 29)) (.cells #[.int .i64 (mx 1 a1)] 3)) (.cells #[.int .i64 20000] 3)
  have hsz:(((W1.alloc (.cells #[.slice A0_0 l0_0.length c0_0,.int .i64 a0_1,.int .i64 a0_2,.int .i64 a0_3] 29)).alloc (.cells #[.int .i64 (mx 1 a1)] 3)).alloc (.cells #[.int .i64 20000] 3)).heap.size=W1.heap.size+3:=by simp
  simp only [World.size_alloc] at hL hH
  clear HSW HFW HNW HEW n0 n1 e0 e1 x0 x1 x2 x3
  generalize (((W1.alloc (.cells #[.slice A0_0 l0_0.length c0_0,.int .i64 a0_1,.int .i64 a0_2,.int .i64 a0_3] 29)).alloc (.cells #[.int .i64 (mx 1 a1)] 3)).alloc (.cells #[.int .i64 20000] 3))=W0 at hS hL hH hF hN hE hsz hB0 ⊢
  refine wpIn_rangeFunc_ownH rfl (by omega) (gf:=126) (lb:=#[.pointer (some ⟨W1.heap.size+1,0,none⟩),.pointer (some ⟨W1.heap.size+2,0,none⟩),.pointer (some ⟨W1.heap.size,0,none⟩)]) rfl trivial (enters_of Tryz.func126 (by kernel_rfl) rfl)
   (days_stops (5 - 1) (by omega) W1.heap.size A0_0 c0_0 l0_0.length a0_1 a0_2 a0_3 (mx 1 a1) 20000 (by omega) (by omega) (by omega) W0 hS hL hH) KpD_t (KpD_b (by omega)) (Below.refl _ _) (fun _=>rfl)
   (fun pre W=>NextI w W0 W1.heap.size A0_0 c0_0 l0_0.length a0_1 a0_2 a0_3 (mx 1 a1) 20000 a2 (∀ y∈pre,hasOf k l0_0 a0_1 a0_2 a0_3 a2 y.1=some false) W)
   (NextX w (hasOf k l0_0 a0_1 a0_2 a0_3 a2))
   (NextI.own hB0.size) (fun c=>NextX.own c hB0.size) ⟨fun _ h=>(by cases h),hB0,Nat.le_refl _,hS,hL,hH,hF,hN,hE⟩
   (fun x a' W=>∃ Bx v,W0.heap.size≤Bx∧W.heap[Bx]?=some (.cells #[.slice A0_0 l0_0.length c0_0,.int .i64 a0_1,.int .i64 a0_2,.int .i64 a0_3,.int .i64 x.1] 112 (0,0))∧a'={ tmps:=#[.agg #[.slice A0_0 l0_0.length c0_0,.int .i64 a0_1,.int .i64 a0_2,.int .i64 a0_3],.int .i64 a1,.bool a2,.pointer (some ⟨w.heap.size,0,none⟩),undef,.pointer (some ⟨w.heap.size+1,0,none⟩),.pointer (some ⟨w.heap.size+1+1,0,none⟩),.pointer (some ⟨w.heap.size+1+1+1,0,none⟩),.pointer (some ⟨Bx,0,none⟩),.agg #[.slice A0_0 l0_0.length c0_0,.int .i64 a0_1,.int .i64 a0_2,.int .i64 a0_3],.bool true,.bool false,.bool false,.int .i64 a1,.bool true,.bool false,.bool false,.agg #[.slice A0_0 l0_0.length c0_0,.int .i64 a0_1,.int .i64 a0_2,.int .i64 a0_3],.int .i64 a1,.int .i64 v,.func (.func 126) #[] #[.pointer (some ⟨W1.heap.size+1,0,none⟩),.pointer (some ⟨W1.heap.size+2,0,none⟩),.pointer (some ⟨W1.heap.size,0,none⟩)],.agg #[.slice A0_0 l0_0.length c0_0,.int .i64 a0_1,.int .i64 a0_2,.int .i64 a0_3,.int .i64 x.1],undef,undef,undef,undef,undef,undef],defers:=[] })
   ?hAx ?assign ?body ?done ?stop
  case hAx=>
   rintro x a' _ X Y row ⟨Bx,v,h1,h2,h3⟩ hg hr
   exact ⟨Bx,v,h1,blk_ownFrom h2 hg (fun r e=>(hr r e).2),h3⟩
  case assign=>
   rintro l pre x W K hI hK
   dsimp only [encDay]
   have hs:=hI.size
   have hW:=NextI.stay hI (below_alloc (Below.refl _ W) (.cells #[.slice A0_0 l0_0.length c0_0,.int .i64 a0_1,.int .i64 a0_2,.int .i64 a0_3,.int .i64 x.1] 112))
   gi_wp2
   exact hK _ _ ((KeepsOthers.alloc _ _).from _) hW.2.2 hW.1 ⟨W.heap.size,_,hs,blk_new _ _,rfl⟩
  case body=>
   rintro l pre x a' W hl ⟨rr,hrr⟩ hI ⟨Bx,v,hBx,hX,rfl⟩ hlt
   obtain ⟨r,hr⟩:=Option.isSome_iff_exists.1 (HCD.out x.1 (mem_daysOf.2 x.2))
   have HA:=A0_ hr;clear hr
   have hstay:=NextI.stay hI (below_drew1 (Below.refl _ W))
   have HI0:=A0_ hstay.1
   have hsW0:=hI.size
   have HK0:=A0_ hstay.2.1
   have HP0:=A0_ hstay.2.2
   have HX0:=A0_ (blk_drew hX)
   clear hI hX hstay hS hL hH hF hN hE hrr
   have hbW:W0.heap.size≤W.drew.heap.size:=HI0.out.size
   gi_wp2
   rename_i K1 hK1
   refine startIn_ (S:=fun w'=>w'.cell? ⟨Bx,0,none⟩=some (.slice A0_0 l0_0.length c0_0)∧w'.cell? ⟨Bx,1,none⟩=some (.int .i64 a0_1)∧w'.cell? ⟨Bx,2,none⟩=some (.int .i64 a0_2)∧w'.cell? ⟨Bx,3,none⟩=some (.int .i64 a0_3)∧w'.cell? ⟨Bx,4,none⟩=some (.int .i64 x.1)∧w'.cell? ⟨w.heap.size+1,0,none⟩=some (.bool a2)) (ds:=[3]) #[false,false,false,false] (by kernel_rfl) (by kernel_rfl) rfl rfl ⟨(blk_cell HX0.out 0).trans rfl,(blk_cell HX0.out 1).trans rfl,(blk_cell HX0.out 2).trans rfl,(blk_cell HX0.out 3).trans rfl,(blk_cell HX0.out 4).trans rfl,(blk_cell HI0.out.full 0).trans rfl⟩ (fun hHeld=>?_)
   generalize W.drew=W2 at HI0 HK0 HP0 HX0 hbW hHeld ⊢
   refine take_ (i:=0) (N:=some 22) (v:=?_) (a':=?_) #[true,false,false,false] rfl rfl (by kernel_rfl) (fun _ _ _ h=>onlyN_no h) (Or.inl ⟨by rfl,?_⟩) hHeld ?_ ?_
   rotate_left
   ·rintro w' ⟨s0,s1,s2,s3,s4,s5⟩
    go_simp
    with_reducible rfl
   rotate_left
   ·simp only [Act.put,List.setIfInBounds_toArray,List.set_cons_zero,List.set_cons_succ]
    rfl
   refine take_ (i:=1) (N:=some 23) (v:=?_) (a':=?_) #[true,true,false,false] rfl rfl (by kernel_rfl) (fun _ _ _ h=>onlyN_no h) (Or.inl ⟨by rfl,?_⟩) hHeld ?_ ?_
   rotate_left
   ·rintro w' ⟨s0,s1,s2,s3,s4,s5⟩
    go_simp
    with_reducible rfl
   rotate_left
   ·simp only [Act.put,List.setIfInBounds_toArray,List.set_cons_zero,List.set_cons_succ]
    rfl
   refine one_ (i:=2) (N:=some 24) #[true,true,true,false] rfl rfl (by kernel_rfl) (by decide) (fun K hK=>?_)
   refine goes_ Tryz.func98 (by kernel_rfl) rfl #[.bool a2] (by rfl) rfl rfl (by (try simp only [List.map_toArray,List.map_cons,List.map_nil]);rfl) ?_
   refine (moonOf_calls a2 _).mono ?_
   rintro e w4 ⟨rfl,rfl⟩
   refine ⟨_,rfl,?_⟩
   refine hK.out _ _ ⟨(blk_cell HX0.out 0).trans rfl,(blk_cell HX0.out 1).trans rfl,(blk_cell HX0.out 2).trans rfl,(blk_cell HX0.out 3).trans rfl,(blk_cell HX0.out 4).trans rfl,(blk_cell HI0.out.full 0).trans rfl⟩ (fun hHeld=>?_)
   clear hK K
   refine norm_ (a':=?_) ?_ ?_
   rotate_left
   ·show Act.put _ (some 24) _=_
    simp only [Act.put,List.setIfInBounds_toArray,List.set_cons_zero,List.set_cons_succ]
    rfl
   refine last_ (i:=3) (N:=some 25) #[true,true,true,true] rfl rfl (by kernel_rfl) (by decide) (fun K hK=>?_)
   refine goes_ Tryz.func71 (by kernel_rfl) rfl #[.agg #[.slice A0_0 l0_0.length c0_0,.int .i64 a0_1,.int .i64 a0_2,.int .i64 a0_3,.int .i64 x.1],.iface (moonTy a2) (.agg #[])] (by rfl) rfl rfl (by (try simp only [List.map_toArray,List.map_cons,List.map_nil]);rfl) ?_
   refine (hasOf_calls k A0_0 c0_0 l0_0 a0_1 a0_2 a0_3 x.1 a2 r _ (Kd.C_below HR.out HI0.out.below) HC.out HA.out).mono ?_
   rintro e w5 ⟨rfl,hb⟩
   refine ⟨_,rfl,?_⟩
   have st:=NextI.stay HI0.out hb
   have HI1:=A0_ st.1
   have HK1:=A0_ (HK0.out.trans st.2.1)
   have HP1:=A0_ (KpD_t HP0.out st.2.2)
   have HX1:=A0_ (blk_below HX0.out hb)
   clear hb st HI0 HK0 HP0 HX0 hHeld
   refine hK.out _ _ ?_
   clear hK K
   refine norm_ (a':=?_) ?_ ?_
   rotate_left
   ·show Act.put _ (some 25) _=_
    simp only [Act.put,List.setIfInBounds_toArray,List.set_cons_zero,List.set_cons_succ]
    rfl
   refine done_ (by kernel_rfl) ?_
   refine ⟨rfl,hK1 _ _ ?_⟩
   clear hK1 K1
   cases r with
   |false=>
    gi_wp2
    have hI:=HI1.out
    refine ⟨HK1.out,HP1.out,⟨?_,hI.below,hI.size,hI.s,hI.lo,hI.hi,hI.full,hI.n,hI.e⟩⟩
    intro y hy
    rcases List.mem_append.1 hy with hy|hy
    ·exact hI.fine y hy
    ·rw [List.mem_singleton.1 hy];exact HA.out
   |true=>
    have n0:=blk_cell HI1.out.n 0
    have n1:=blk_frozen HI1.out.n 0
    have e0:=blk_cell HI1.out.e 0
    have e1:=blk_frozen HI1.out.e 0
    have x4:=(blk_cell HX1.out 4).trans rfl
    simp at n0 n1 e0 e1 x4
    gi_wp2
    have hI:=HI1.out
    have hsz0:=hB0.size
    refine ⟨HK1.out.trans ⟨by simp,fun i o hi hk _=>(heap_set2 (p:=⟨w.heap.size+1+1,0,none⟩) (q:=⟨w.heap.size+1+1+1,0,none⟩) (by show i≠w.heap.size+1+1;omega) (by show i≠w.heap.size+1+1+1;omega)).trans hk⟩,rfl,pre,x,rfl,hI.fine,HA.out,below_set (below_set hI.below (by omega)) (by omega),?_,?_⟩
    ·exact (blk_far (p:=⟨w.heap.size+1+1+1,0,none⟩) (blk_set hI.n 0 (.int .i64 x.1)) (by show w.heap.size+1+1≠w.heap.size+1+1+1;omega) (.int .i64 0)).trans rfl
    ·exact (blk_set (blk_far (p:=⟨w.heap.size+1+1,0,none⟩) hI.e (by show w.heap.size+1+1+1≠w.heap.size+1+1;omega) (.int .i64 x.1)) 0 (.int .i64 0)).trans rfl
  case done=>
   rintro D ys W hD hys hI hK
   have hnone:(daysOf (mx 1 a1) 20000).find? (fun x=>hasOf k l0_0 a0_1 a0_2 a0_3 a2 x=some true)=none:=by
    rw [← allDays_val hys,List.find?_eq_none]
    intro y hy
    obtain ⟨z,hz,rfl⟩:=List.mem_map.1 hy
    rw [hI.fine z hz]
    simp
   have hres:=HRES.out
   rw [hnone] at hres
   obtain ⟨rfl,rfl⟩:0=r1∧5=r2:=by simpa using hres
   have n0:=blk_cell hI.n 0
   have n1:=blk_frozen hI.n 0
   have e0:=blk_cell hI.e 0
   have e1:=blk_frozen hI.e 0
   simp at n0 n1 e0 e1
   gi_wp2
   have hsz0:=hB0.size
   have hK':((W.setCell ⟨w.heap.size+1+1,0,none⟩ (.int .i64 0)).setCell ⟨w.heap.size+1+1+1,0,none⟩ (.int .i64 5)).heap[D]?=some (.deferred (some [])):=(heap_set2 (p:=⟨w.heap.size+1+1,0,none⟩) (q:=⟨w.heap.size+1+1+1,0,none⟩) (by show D≠w.heap.size+1+1;omega) (by show D≠w.heap.size+1+1+1;omega)).trans hK
   have q0:=blk_cell ((World.putObj_heap_other (o:=.deferred none) (by omega:w.heap.size+2≠D)).trans (blk_far (p:=⟨w.heap.size+1+1+1,0,none⟩) (blk_set hI.n 0 (.int .i64 0)) (by show w.heap.size+1+1≠w.heap.size+1+1+1;omega) (.int .i64 5))) 0
   have q1:=blk_cell ((World.putObj_heap_other (o:=.deferred none) (by omega:w.heap.size+3≠D)).trans (blk_set (blk_far (p:=⟨w.heap.size+1+1,0,none⟩) hI.e (by show w.heap.size+1+1+1≠w.heap.size+1+1;omega) (.int .i64 0)) 0 (.int .i64 5))) 0
   simp at q0 q1
   refine ⟨by simp,.inl ⟨_,_,rfl,run_takeDeferred hK',?_⟩⟩
   refine ⟨.tuple #[.int .i64 0,.int .i64 5],?_,rfl,?_⟩
   ·simp [results,Tryz.results49,go_sem,q0,q1]
   ·exact (below_set (below_set hI.below (by omega)) (by omega)).trans (belowK_b (w:=w) (Nat.le_refl _) _ D _ _ (by omega) hK' rfl rfl)
  case stop=>
   rintro D c pre W hD hsp ⟨rfl,p,x,rfl,h1,h2,h3,h4,h5⟩ hK
   obtain ⟨t,ht⟩:=some_pre hsp
   rw [List.map_append,List.map_cons,List.map_nil,List.append_assoc,List.singleton_append] at ht
   have hres:=HRES.out
   rw [ht,find_at (p:=fun x=>decide (hasOf k l0_0 a0_1 a0_2 a0_3 a2 x=some true)) (p.map (·.1)) x.1 t (fun y hy=>by obtain ⟨z,hz,rfl⟩:=List.mem_map.1 hy;simp [h1 z hz]) (by simp [h2])] at hres
   obtain ⟨rfl,rfl⟩:x.1=r1∧0=r2:=by simpa using hres
   gi_wp2
   have hsz0:=hB0.size
   have hK':W.heap[D]?=some (.deferred (some [])):=hK
   have q0:=blk_cell ((World.putObj_heap_other (o:=.deferred none) (by omega:w.heap.size+2≠D)).trans (h4)) 0
   have q1:=blk_cell ((World.putObj_heap_other (o:=.deferred none) (by omega:w.heap.size+3≠D)).trans (h5)) 0
   simp at q0 q1
   refine ⟨by simp,.inl ⟨_,_,rfl,run_takeDeferred hK',?_⟩⟩
   refine ⟨.tuple #[.int .i64 x.1,.int .i64 0],?_,rfl,?_⟩
   ·simp [results,Tryz.results49,go_sem,q0,q1]
   ·exact h3.trans (belowK_b (w:=w) (Nat.le_refl _) _ D _ _ (by omega) hK' rfl rfl)
end Go.Proofs.YtjahbgldccjbfaaGreatDoor.PSky
end
section
namespace Go.Proofs.YtjahbgldccjbfaaGreatDoor.PSky
open Go.RowKit Go.Proofs.YtjahbgldccjbfaaGreatDoorW.PrintWords Go.Proofs.YtjahbgldccjbfaaGreatDoorW.PrintLast Go.Proofs.YtjahbgldccjbfaaGreatDoorW.PrintMore
def halfOf (full:Bool):Int:=if full=true then 10800 else 0
def firstMoon (l:List S74) (d:Int) (full:Bool):Option Int:=(daysOf (mx 1 d) 20000).find? (fun x=>isMoon l (halfOf full) x)
theorem mx_one (d:Int):1≤mx 1 d∧(d≤mx 1 d)∧(mx 1 d=1∨mx 1 d=d):=by
 unfold mx
 split <;> omega
theorem has_ev {l:List S74} {p q n:Int} (h:okSky l p q n=true) {d:Int} (hd:1≤d∧d≤20000) (full:Bool):Ev (fun k=>hasOf k l p q n full d) (isMoon l (halfOf full) d):=by
 cases full with
 |true=>exact full_ev h hd
 |false=>exact new_ev h hd
def nextOf (o:Option Int):Int × Int:=match o with
 |some x=>(x,0)
 |none=>(0,5)
theorem Next_ev (l:List S74) (p q n d:Int) (full:Bool):Ev (fun k=>sky_Next.f k l p q n d full) (if okSky l p q n=true∧okDay d=true then nextOf (firstMoon l d full) else (0,2)):=by
 unfold sky_Next.f
 refine Ev.bind (isSky_ev l p q n) ?_
 cases h1:okSky l p q n with
 |false=>
  refine Ev.neg (by simp) ?_
  rw [if_neg (by simp)]
  exact Ev.now _
 |true=>
  refine Ev.pos rfl (Ev.bind (Ev.is (isDay_eq d)) ?_)
  cases h2:okDay d with
  |false=>
   refine Ev.neg (by simp) ?_
   rw [if_neg (by simp)]
   exact Ev.now _
  |true=>
   rw [if_pos (show true=true∧true=true from ⟨rfl,rfl⟩)]
   refine Ev.pos rfl ?_
   have hm:=mx_one d
   obtain ⟨K,hK⟩:=Ev.all (fun x k=>hasOf k l p q n full x) (fun x=>isMoon l (halfOf full) x) (daysOf (mx 1 d) 20000) (fun x hx=>has_ev h1 (by
    unfold daysOf at hx
    obtain ⟨j,hj,rfl⟩:=List.mem_map.mp hx
    have:=List.mem_range.mp hj
    omega) full)
   refine ⟨K,fun k hk=>?_⟩
   have hk':=hK k hk
   show (if ∀ x∈daysOf (mx 1 d) 20000,(hasOf k l p q n full x).isSome=true then (match (daysOf (mx 1 d) 20000).find? (fun x=>hasOf k l p q n full x=some true) with|some x=>some (x,(0:Int))|none=>some (0,5)) else none)=_
   rw [if_pos (fun x hx=>by rw [hk' x hx];rfl),find_congr (q:=fun x=>isMoon l (halfOf full) x) (fun x hx=>by rw [hk' x hx];simp)]
   show (match firstMoon l d full with|some x=>some (x,(0:Int))|none=>some (0,5))=_
   cases firstMoon l d full with
   |some x=>rfl
   |none=>rfl
theorem refNext_loop {l:List S74} {p q n:Int} (h:okSky l p q n=true) (full:Bool):∀ (m:Nat) (d:Int),1≤d→d+m=20001 →
  Ev (fun k=>tr_Next.l0 k full d l p q n) ((((List.range m).map fun j:Nat=>d+(j:Nat)).find? (fun x=>isMoon l (halfOf full) x)).getD (-1))
 |0,d,hd,hm=>by
  refine Ev.step (fun k=>by rw [tr_Next.l0]) ?_
  exact Ev.neg (by omega) (Ev.now _)
 |m+1,d,hd,hm=>by
  have ih:=refNext_loop h full m (d+1) (by omega) (by omega)
  refine Ev.step (fun k=>by rw [tr_Next.l0]) ?_
  rw [wrap_id (show -9223372036854775808≤d+1∧d+1≤9223372036854775807 by omega),List.range_succ_eq_map,List.map_cons,List.map_map,List.find?_cons]
  refine Ev.pos (by omega) (Ev.bind (Ev.is (refMoon_eq h (by omega) full)) ?_)
  rw [show d+((0:Nat):Int)=d by omega]
  show Ev (fun k=>if isMoon l (halfOf full) d=true then _ else _) _
  cases hm:isMoon l (halfOf full) d with
  |true=>exact Ev.pos rfl (Ev.now _)
  |false=>
   refine Ev.neg (by simp) ?_
   have e:(List.range m).map ((fun j:Nat=>d+(j:Nat)) ∘ Nat.succ)=(List.range m).map fun j:Nat=>d+1+(j:Nat):=by
    refine List.map_congr_left fun j _=>?_
    simp only [Function.comp_apply,Nat.succ_eq_add_one]
    omega
   rw [e]
   exact ih
theorem refNext_ev {l:List S74} {p q n:Int} (h:okSky l p q n=true) {d:Int} (hd:okDay d=true) (full:Bool):Ev (fun k=>tr_Next.f k l p q n d full) ((firstMoon l d full).getD (-1)):=by
 have hm:=mx_one d
 have hd':=okIn_iff.mp hd
 unfold tr_Next.f firstMoon daysOf
 exact refNext_loop h full (20000+1 - mx 1 d).toNat (mx 1 d) (by omega) (by omega)
theorem first_least {P:Int→Bool} {x:Int}:∀ (m:Nat) (d:Int),((List.range m).map fun j:Nat=>d+(j:Nat)).find? P=some x→∀ y,d≤y→y<x→P y=false
 |0,d,h=>by cases h
 |m+1,d,h=>by
  intro y h1 h2
  have e:(List.range m).map ((fun j:Nat=>d+(j:Nat)) ∘ Nat.succ)=(List.range m).map fun j:Nat=>d+1+(j:Nat):=by
   refine List.map_congr_left fun j _=>?_
   simp only [Function.comp_apply,Nat.succ_eq_add_one]
   omega
  rw [List.range_succ_eq_map,List.map_cons,List.map_map,List.find?_cons,show d+((0:Nat):Int)=d by omega,e] at h
  cases hp:P d with
  |true=>
   rw [hp] at h
   have:d=x:=Option.some.inj h
   omega
  |false=>
   rw [hp] at h
   by_cases h3:y=d
   ·rw [h3];exact hp
   ·exact first_least m (d+1) h y (by omega) h2
theorem first_some {l:List S74} {d x:Int} {full:Bool} (h:firstMoon l d full=some x):(1≤x∧x≤20000∧d≤x)∧isMoon l (halfOf full) x=true∧∀ y,1≤y→d≤y→y<x→isMoon l (halfOf full) y=false:=by
 have hm:=mx_one d
 unfold firstMoon at h
 have h1:=List.find?_some h
 have h2:=List.mem_of_find?_eq_some h
 unfold daysOf at h2 h
 refine ⟨?_,h1,fun y y1 y2 y3=>first_least _ _ h y (by omega) y3⟩
 obtain ⟨j,hj,e⟩:=List.mem_map.mp h2
 have:=List.mem_range.mp hj
 omega
end Go.Proofs.YtjahbgldccjbfaaGreatDoor.PSky
end
section
namespace Go.Proofs.YtjahbgldccjbfaaGreatDoor.PSky
open Go.RowKit Go.Proofs.YtjahbgldccjbfaaGreatDoorW.PrintWords Go.Proofs.YtjahbgldccjbfaaGreatDoorW.PrintLast Go.Proofs.YtjahbgldccjbfaaGreatDoorW.PrintMore
attribute [local go_sem] max2_int min2_int max_two min_two max_three min_three max_four min_four
set_option linter.unusedVariables false
set_option linter.unusedSimpArgs false
def tl_SkyNexts.j0:Nat→Int→Bool→Int→Int→Bool→List (S74)→Int→Int→Int→Option (Bool)
 |0,_,_,_,_,_,_,_,_,_=>none
 |k+1,x1,x2,x7,x8,x28,x593000,x593001,x593002,x593003=>if x28=true then (if x8=2 then (if x7=0 then ((tl_known.f).bind fun t599=>(some t599)) else (some false)) else (some false)) else ((tr_Next.f k x593000 x593001 x593002 x593003 x1 x2).bind fun t600=>(if t600<0 then (if x8=5 then (if x7=0 then ((tl_known.f).bind fun t601=>(some t601)) else (some false)) else (some false)) else (if x8=0 then (if x7=t600 then ((tl_known.f).bind fun t602=>(some t602)) else (some false)) else (some false))))
def tl_SkyNexts.f (k:Nat) (l0_0:List (S74)) (a0_1:Int) (a0_2:Int) (a0_3:Int) (a1:Int) (a2:Bool):Option (Bool):=(tl_short.f k l0_0 a0_1 a0_2 a0_3).bind fun t593=>(if t593=true then ((sky_Next.f k l0_0 a0_1 a0_2 a0_3 a1 a2).bind fun bt595=>((tr_Sky.f k l0_0 a0_1 a0_2 a0_3).bind fun t597=>(if t597=true then ((tr_Day.f a1).bind fun t598=>(tl_SkyNexts.j0 k a1 a2 bt595.1 bt595.2 (!t598) l0_0 a0_1 a0_2 a0_3)) else (tl_SkyNexts.j0 k a1 a2 bt595.1 bt595.2 true l0_0 a0_1 a0_2 a0_3)))) else ((tl_known.f).bind fun t594=>(some t594)))
set_option maxHeartbeats 8000000 in
set_option maxRecDepth 100000 in
theorem tl_SkyNexts.calls (k:Nat) (A0_0:Option Addr) (c0_0:Nat) (l0_0:List (S74)) (a0_1:Int) (a0_2:Int) (a0_3:Int) (a1:Int) (a2:Bool) (r:Bool) (w:World) (hr0_0:Kd.C k74 w A0_0 l0_0.length l0_0) (hc0_0:l0_0.length≤c0_0) (h:tl_SkyNexts.f k l0_0 a0_1 a0_2 a0_3 a1 a2=some r) (hLD:LD w):
  Calls Tryz.prog 9 #[.agg #[.slice A0_0 l0_0.length c0_0,.int .i64 a0_1,.int .i64 a0_2,.int .i64 a0_3],.int .i64 a1,.bool a2] w fun e w'=>e=.returned (.bool r)∧Below w.heap.size w w':=by
 have HLD:=A0_ hLD;clear hLD
 have hu29:=Tryz.underlying29
 have HR0_0:=A0_ hr0_0;have HC0_0:=A0_ hc0_0;clear hr0_0 hc0_0
 have HB:=A0_ (Below.refl w.heap.size w)
 have H:((tl_short.f k l0_0 a0_1 a0_2 a0_3).bind fun t593=>(if t593=true then ((sky_Next.f k l0_0 a0_1 a0_2 a0_3 a1 a2).bind fun bt595=>((tr_Sky.f k l0_0 a0_1 a0_2 a0_3).bind fun t597=>(if t597=true then ((tr_Day.f a1).bind fun t598=>(tl_SkyNexts.j0 k a1 a2 bt595.1 bt595.2 (!t598) l0_0 a0_1 a0_2 a0_3)) else (tl_SkyNexts.j0 k a1 a2 bt595.1 bt595.2 true l0_0 a0_1 a0_2 a0_3)))) else ((tl_known.f).bind fun t594=>(some t594))))=some r:=h
 clear h;replace H:=Option.bind_eq_some_iff.mp H;obtain ⟨t593,A40,H⟩:=H
 replace H:(if t593=true then ((sky_Next.f k l0_0 a0_1 a0_2 a0_3 a1 a2).bind fun bt595=>((tr_Sky.f k l0_0 a0_1 a0_2 a0_3).bind fun t597=>(if t597=true then ((tr_Day.f a1).bind fun t598=>(tl_SkyNexts.j0 k a1 a2 bt595.1 bt595.2 (!t598) l0_0 a0_1 a0_2 a0_3)) else (tl_SkyNexts.j0 k a1 a2 bt595.1 bt595.2 true l0_0 a0_1 a0_2 a0_3)))) else ((tl_known.f).bind fun t594=>(some t594)))=some r:=H
 have A4:=A0_ A40;clear A40
 by_cases c5:t593=true
 ·subst c5
  have H1:((sky_Next.f k l0_0 a0_1 a0_2 a0_3 a1 a2).bind fun bt595=>((tr_Sky.f k l0_0 a0_1 a0_2 a0_3).bind fun t597=>(if t597=true then ((tr_Day.f a1).bind fun t598=>(tl_SkyNexts.j0 k a1 a2 bt595.1 bt595.2 (!t598) l0_0 a0_1 a0_2 a0_3)) else (tl_SkyNexts.j0 k a1 a2 bt595.1 bt595.2 true l0_0 a0_1 a0_2 a0_3))))=some r:=by rw [if_pos rfl] at H;exact H
  clear H;have H:=H1;clear H1;replace H:=Option.bind_eq_some_iff.mp H
  obtain ⟨⟨t595,t596⟩,A60,H⟩:=H
  replace H:((tr_Sky.f k l0_0 a0_1 a0_2 a0_3).bind fun t597=>(if t597=true then ((tr_Day.f a1).bind fun t598=>(tl_SkyNexts.j0 k a1 a2 t595 t596 (!t598) l0_0 a0_1 a0_2 a0_3)) else (tl_SkyNexts.j0 k a1 a2 t595 t596 true l0_0 a0_1 a0_2 a0_3)))=some r:=H
  have A6:=A0_ A60;clear A60;have HC7:=A0_ H;clear H
  go_enter Tryz.func9,Tryz.ntmps9
  go_upto_region 4 with (first|((with_reducible refine gate_dst (N:=3) rfl ?_);refine box_event ?hg (N:=3) ?hd (cs:=#[.slice A0_0 l0_0.length c0_0,.int .i64 a0_1,.int .i64 a0_2,.int .i64 a0_3]) (t:=29) ?hr ?_;(case hd=>rfl);(case hg=>rfl);(case hr=>first|(go_simp;done)|(go_simp;rfl));intro gb592 hg w8 hbox hb;have n0_:=A0_ (below_step y0_ hb);have n1_:=A0_ (hbox);have n2_:=A0_ ((by rw [hg];exact (below_size y0_):w.heap.size≤gb592));have n3_:=A0_ ((by rw [hg];exact (below_size y0_):w.heap.size≤gb592));clear HB;have HB:=n0_;have BK592:=n1_;have GW592:=n2_;have GE592:=n3_;clear n0_ n1_ n2_ n3_;clear hb hbox hg;obtain ⟨hcz9_0,hcz9_1,hcz9_2,hcz9_3,hfz9_0,hfz9_1,hfz9_2,hfz9_3⟩:=bq4_ BK592.out)|((with_reducible refine gate_callee (f:=17) rfl ?_);refine goesL_ (some 11) rfl rfl Tryz.func17 (by kernel_rfl) rfl #[.agg #[.slice A0_0 l0_0.length c0_0,.int .i64 a0_1,.int .i64 a0_2,.int .i64 a0_3]] rfl y1_ ?_;(with_reducible refine (tl_short.calls k _ _ l0_0 a0_1 a0_2 a0_3 true _ ?side1 ?side2 A4.out).mono ?_);(case side1=>repeat (first|exact (Kd.C_below HR0_0.out HB.out)|(with_reducible refine Kd.C_alloc ?_ _)|(with_reducible refine Kd.C_drewN ?_ _)|(with_reducible refine Kd.C_drew ?_)));(case side2=>exact HC0_0.out);rintro e w10 ⟨rfl,hb⟩;refine ⟨_,rfl,?_⟩;have n0_:=A0_ (blk_below (g:=gb592) (o:=.cells #[.slice A0_0 l0_0.length c0_0,.int .i64 a0_1,.int .i64 a0_2,.int .i64 a0_3] 29 (0,0)) (bd_ BK592.out) hb);have n1_:=A0_ (below_step (by repeat (first|(with_reducible first|exact HB.out|apply below_alloc|apply pw_below_drewN|apply below_drew1|refine below_set ?_ GE592.out)|exact HB.out)) hb);clear BK592;clear HB;have BK592:=n0_;have HB:=n1_;clear n0_ n1_;(try clear hb);(try clear hb2);(try clear hk);(try clear hi);obtain ⟨hcz11_0,hcz11_1,hcz11_2,hcz11_3,hfz11_0,hfz11_1,hfz11_2,hfz11_3⟩:=bq4_ BK592.out)|((with_reducible refine gate_callee (f:=49) rfl ?_);refine goesL_ (some 18) rfl rfl Tryz.func49 (by kernel_rfl) rfl #[.agg #[.slice A0_0 l0_0.length c0_0,.int .i64 a0_1,.int .i64 a0_2,.int .i64 a0_3],.int .i64 a1,.bool a2] rfl y1_ ?_;(with_reducible refine (sky_Next.calls k _ _ l0_0 a0_1 a0_2 a0_3 a1 a2 t595 t596 _ ?side1 ?side2 A6.out).mono ?_);(case side1=>repeat (first|exact (Kd.C_below HR0_0.out HB.out)|(with_reducible refine Kd.C_alloc ?_ _)|(with_reducible refine Kd.C_drewN ?_ _)|(with_reducible refine Kd.C_drew ?_)));(case side2=>exact HC0_0.out);rintro e w12 ⟨rfl,hb⟩;refine ⟨_,rfl,?_⟩;have n0_:=A0_ (blk_below (g:=gb592) (o:=.cells #[.slice A0_0 l0_0.length c0_0,.int .i64 a0_1,.int .i64 a0_2,.int .i64 a0_3] 29 (0,0)) (bd_ BK592.out) hb);have n1_:=A0_ (below_step (by repeat (first|(with_reducible first|exact HB.out|apply below_alloc|apply pw_below_drewN|apply below_drew1|refine below_set ?_ GE592.out)|exact HB.out)) hb);clear BK592;clear HB;have BK592:=n0_;have HB:=n1_;clear n0_ n1_;(try clear hb);(try clear hb2);(try clear hk);(try clear hi)))
  (try simp only [Act.put,List.setIfInBounds_toArray,List.set_cons_zero,List.set_cons_succ])
  go_cut [28] (fun v28 wc=>∃ (kq:Nat) (x28_6:Bool),v28=.bool x28_6∧Aside0 (tl_SkyNexts.j0 kq a1 a2 t595 t596 x28_6 l0_0 a0_1 a0_2 a0_3=some r)∧Aside0 (kq≤k)∧Aside0 (wc.heap[gb592]?=some (.cells #[(.slice A0_0 l0_0.length c0_0),.int .i64 a0_1,.int .i64 a0_2,.int .i64 a0_3] 29 (0,0)))∧Aside0 (Below w.heap.size w wc))
  case first=>
   have H:=HC7.out
   clear HC7;replace H:=Option.bind_eq_some_iff.mp H;obtain ⟨t597,A130,H⟩:=H
   replace H:(if t597=true then ((tr_Day.f a1).bind fun t598=>(tl_SkyNexts.j0 k a1 a2 t595 t596 (!t598) l0_0 a0_1 a0_2 a0_3)) else (tl_SkyNexts.j0 k a1 a2 t595 t596 true l0_0 a0_1 a0_2 a0_3))=some r:=H
   have A13:=A0_ A130;clear A130
   by_cases c14:t597=true
   ·subst c14
    have H1:((tr_Day.f a1).bind fun t598=>(tl_SkyNexts.j0 k a1 a2 t595 t596 (!t598) l0_0 a0_1 a0_2 a0_3))=some r:=by rw [if_pos rfl] at H;exact H
    clear H;have H:=H1;clear H1;replace H:=Option.bind_eq_some_iff.mp H;obtain ⟨t598,A150,H⟩:=H
    replace H:(tl_SkyNexts.j0 k a1 a2 t595 t596 (!t598) l0_0 a0_1 a0_2 a0_3)=some r:=H
    have A15:=A0_ A150;clear A150
    have H':=A0_ H
    clear H;obtain ⟨hcz16_0,hcz16_1,hcz16_2,hcz16_3,hfz16_0,hfz16_1,hfz16_2,hfz16_3⟩:=bq4_ BK592.out
    go_wp2_with (first|((with_reducible refine gate_callee (f:=14) rfl ?_);refine goesL_ (some 22) rfl rfl Tryz.func14 (by kernel_rfl) rfl #[.agg #[.slice A0_0 l0_0.length c0_0,.int .i64 a0_1,.int .i64 a0_2,.int .i64 a0_3]] rfl y1_ ?_;(with_reducible refine (tr_Sky.calls k _ _ l0_0 a0_1 a0_2 a0_3 true _ ?side1 ?side2 A13.out).mono ?_);(case side1=>repeat (first|exact (Kd.C_below HR0_0.out HB.out)|(with_reducible refine Kd.C_alloc ?_ _)|(with_reducible refine Kd.C_drewN ?_ _)|(with_reducible refine Kd.C_drew ?_)));(case side2=>exact HC0_0.out);rintro e w17 ⟨rfl,hb⟩;refine ⟨_,rfl,?_⟩;have n0_:=A0_ (blk_below (g:=gb592) (o:=.cells #[.slice A0_0 l0_0.length c0_0,.int .i64 a0_1,.int .i64 a0_2,.int .i64 a0_3] 29 (0,0)) (bd_ BK592.out) hb);have n1_:=A0_ (below_step (by repeat (first|(with_reducible first|exact HB.out|apply below_alloc|apply pw_below_drewN|apply below_drew1|refine below_set ?_ GE592.out)|exact HB.out)) hb);clear BK592;clear HB;have BK592:=n0_;have HB:=n1_;clear n0_ n1_;(try clear hb);(try clear hb2);(try clear hk);(try clear hi))|(go_at_call 44;(with_reducible refine (tr_Day.calls a1 t598 _ A15.out).mono ?_);rintro e w' ⟨rfl,⟨nd,rfl⟩⟩))
    go_meet
    case rel=>exact ⟨_,(!t598),y4_,H',⟨by first|omega|exact Nat.le_refl _⟩,⟨by (with_reducible repeat (first|refine blk_drewN ?_ _|refine blk_drew ?_|refine blk_alloc ?_ _));exact BK592.out⟩,⟨(by repeat (first|(with_reducible first|exact HB.out|apply below_alloc|apply pw_below_drewN|apply below_drew1|refine below_set ?_ GE592.out)|exact HB.out))⟩⟩
   ·replace c14:=Bool.eq_false_iff.mpr c14;subst c14
    have H1:(tl_SkyNexts.j0 k a1 a2 t595 t596 true l0_0 a0_1 a0_2 a0_3)=some r:=by rw [if_neg (show ¬ (false=true) by decide)] at H;exact H
    clear H;have H:=H1;clear H1
    have H':=A0_ H
    clear H;obtain ⟨hcz18_0,hcz18_1,hcz18_2,hcz18_3,hfz18_0,hfz18_1,hfz18_2,hfz18_3⟩:=bq4_ BK592.out
    go_wp2_with (first|((with_reducible refine gate_callee (f:=14) rfl ?_);refine goesL_ (some 22) rfl rfl Tryz.func14 (by kernel_rfl) rfl #[.agg #[.slice A0_0 l0_0.length c0_0,.int .i64 a0_1,.int .i64 a0_2,.int .i64 a0_3]] rfl y1_ ?_;(with_reducible refine (tr_Sky.calls k _ _ l0_0 a0_1 a0_2 a0_3 false _ ?side1 ?side2 A13.out).mono ?_);(case side1=>repeat (first|exact (Kd.C_below HR0_0.out HB.out)|(with_reducible refine Kd.C_alloc ?_ _)|(with_reducible refine Kd.C_drewN ?_ _)|(with_reducible refine Kd.C_drew ?_)));(case side2=>exact HC0_0.out);rintro e w19 ⟨rfl,hb⟩;refine ⟨_,rfl,?_⟩;have n0_:=A0_ (blk_below (g:=gb592) (o:=.cells #[.slice A0_0 l0_0.length c0_0,.int .i64 a0_1,.int .i64 a0_2,.int .i64 a0_3] 29 (0,0)) (bd_ BK592.out) hb);have n1_:=A0_ (below_step (by repeat (first|(with_reducible first|exact HB.out|apply below_alloc|apply pw_below_drewN|apply below_drew1|refine below_set ?_ GE592.out)|exact HB.out)) hb);clear BK592;clear HB;have BK592:=n0_;have HB:=n1_;clear n0_ n1_;(try clear hb);(try clear hb2);(try clear hk);(try clear hi)))
    go_meet
    case rel=>exact ⟨_,(true),y4_,H',⟨by first|omega|exact Nat.le_refl _⟩,⟨by (with_reducible repeat (first|refine blk_drewN ?_ _|refine blk_drew ?_|refine blk_alloc ?_ _));exact BK592.out⟩,⟨(by repeat (first|(with_reducible first|exact HB.out|apply below_alloc|apply pw_below_drewN|apply below_drew1|refine below_set ?_ GE592.out)|exact HB.out))⟩⟩
  case rest=>
   clear HC7;(try clear c1);(try clear p2);(try clear c4);(try clear c5);(try clear c9);(try clear c14);(try clear c17);(try clear hcz11_0);(try clear hcz11_1);(try clear hcz11_2);(try clear hcz11_3);(try clear hcz16_0);(try clear hcz16_1);(try clear hcz16_2);(try clear hcz16_3);(try clear hcz18_0);(try clear hcz18_1);(try clear hcz18_2);(try clear hcz18_3);(try clear hcz9_0);(try clear hcz9_1);(try clear hcz9_2);(try clear hcz9_3);(try clear hfz11_0);(try clear hfz11_1);(try clear hfz11_2);(try clear hfz11_3);(try clear hfz16_0);(try clear hfz16_1);(try clear hfz16_2);(try clear hfz16_3);(try clear hfz18_0);(try clear hfz18_1);(try clear hfz18_2);(try clear hfz18_3);(try clear hfz9_0);(try clear hfz9_1);(try clear hfz9_2);(try clear hfz9_3)
   obtain ⟨kq,x28_6,rfl,HA,HJ6,BK592,HB⟩:=hcut
   cases kq with
   |zero=>exact absurd HA.out (by simp [tl_SkyNexts.j0])
   |succ kj6=>
    have H:=HA.out
    clear HA
    simp only [tl_SkyNexts.j0] at H
    by_cases c20:x28_6=true
    ·subst c20
     have H1:(if t596=2 then (if t595=0 then ((tl_known.f).bind fun t599=>(some t599)) else (some false)) else (some false))=some r:=by rw [if_pos rfl] at H;exact H
     clear H;have H:=H1;clear H1
     by_cases c21:t596=2
     ·rw [if_pos c21] at H
      have c21b0:(t596 == 2)=true:=beq_iff_eq.mpr c21
      have c21b1:(t596 != 2)=false:=bne_eq_false_iff_eq.mpr c21
      clear c21
      by_cases c22:t595=0
      ·rw [if_pos c22] at H
       have c22b0:(t595 == 0)=true:=beq_iff_eq.mpr c22
       have c22b1:(t595 != 0)=false:=bne_eq_false_iff_eq.mpr c22
       clear c22;replace H:=Option.bind_eq_some_iff.mp H;obtain ⟨t599,A230,H⟩:=H
       replace H:(some t599)=some r:=H
       have A23:=A0_ A230;clear A230;obtain rfl:=Option.some.inj H
       go_wp2_with (first|(go_at_call 11;(with_reducible refine (tl_known.calls  t599 _ A23.out ?side1).mono ?_);(case side1=>exact LD.below HLD.out (by repeat (first|(with_reducible first|exact HB.out|apply below_alloc|apply pw_below_drewN|apply below_drew1|refine below_set ?_ GE592.out)|exact HB.out)));rintro e w24 ⟨rfl,hb⟩;have n0_:=A0_ (blk_below (g:=gb592) (o:=.cells #[.slice A0_0 l0_0.length c0_0,.int .i64 a0_1,.int .i64 a0_2,.int .i64 a0_3] 29 (0,0)) (bd_ BK592.out) hb);have n1_:=A0_ (below_step (by repeat (first|(with_reducible first|exact HB.out|apply below_alloc|apply pw_below_drewN|apply below_drew1|refine below_set ?_ GE592.out)|exact HB.out)) hb);clear BK592;clear HB;have BK592:=n0_;have HB:=n1_;clear n0_ n1_;(try clear hb);(try clear hb2);(try clear hk);(try clear hi)))
       go_ret
       exact ⟨y2_,(by repeat (first|(with_reducible first|exact HB.out|apply below_alloc|apply pw_below_drewN|apply below_drew1|refine below_set ?_ GE592.out)|exact HB.out))⟩
      ·rw [if_neg c22] at H
       have c22b0:(t595 == 0)=false:=beq_eq_false_iff_ne.mpr c22
       have c22b1:(t595 != 0)=true:=bne_iff_ne.mpr c22
       obtain rfl:=Option.some.inj H;go_wp2;go_ret
       exact ⟨y2_,(by repeat (first|(with_reducible first|exact HB.out|apply below_alloc|apply pw_below_drewN|apply below_drew1|refine below_set ?_ GE592.out)|exact HB.out))⟩
     ·rw [if_neg c21] at H
      have c21b0:(t596 == 2)=false:=beq_eq_false_iff_ne.mpr c21
      have c21b1:(t596 != 2)=true:=bne_iff_ne.mpr c21
      obtain rfl:=Option.some.inj H;go_wp2;go_ret
      exact ⟨y2_,(by repeat (first|(with_reducible first|exact HB.out|apply below_alloc|apply pw_below_drewN|apply below_drew1|refine below_set ?_ GE592.out)|exact HB.out))⟩
    ·replace c20:=Bool.eq_false_iff.mpr c20;subst c20
     have H1:((tr_Next.f kj6 l0_0 a0_1 a0_2 a0_3 a1 a2).bind fun t600=>(if t600<0 then (if t596=5 then (if t595=0 then ((tl_known.f).bind fun t601=>(some t601)) else (some false)) else (some false)) else (if t596=0 then (if t595=t600 then ((tl_known.f).bind fun t602=>(some t602)) else (some false)) else (some false))))=some r:=by rw [if_neg (show ¬ (false=true) by decide)] at H;exact H
     clear H;have H:=H1;clear H1;replace H:=Option.bind_eq_some_iff.mp H;obtain ⟨t600,A250,H⟩:=H
     replace H:(if t600<0 then (if t596=5 then (if t595=0 then ((tl_known.f).bind fun t601=>(some t601)) else (some false)) else (some false)) else (if t596=0 then (if t595=t600 then ((tl_known.f).bind fun t602=>(some t602)) else (some false)) else (some false)))=some r:=H
     have A25:=A0_ A250;clear A250
     by_cases c26:t600<0
     ·rw [if_pos c26] at H;have c26b0:decide (t600<0)=true:=decide_eq_true c26;clear c26
      by_cases c27:t596=5
      ·rw [if_pos c27] at H
       have c27b0:(t596 == 5)=true:=beq_iff_eq.mpr c27
       have c27b1:(t596 != 5)=false:=bne_eq_false_iff_eq.mpr c27
       clear c27
       by_cases c28:t595=0
       ·rw [if_pos c28] at H
        have c28b0:(t595 == 0)=true:=beq_iff_eq.mpr c28
        have c28b1:(t595 != 0)=false:=bne_eq_false_iff_eq.mpr c28
        clear c28;replace H:=Option.bind_eq_some_iff.mp H;obtain ⟨t601,A290,H⟩:=H
        replace H:(some t601)=some r:=H
        have A29:=A0_ A290;clear A290;obtain rfl:=Option.some.inj H;obtain ⟨hcz30_0,hcz30_1,hcz30_2,hcz30_3,hfz30_0,hfz30_1,hfz30_2,hfz30_3⟩:=bq4_ BK592.out
        go_wp2_with (first|((with_reducible refine gate_callee (f:=50) rfl ?_);refine goesL_ (some 41) rfl rfl Tryz.func50 (by kernel_rfl) rfl #[.agg #[.slice A0_0 l0_0.length c0_0,.int .i64 a0_1,.int .i64 a0_2,.int .i64 a0_3],.int .i64 a1,.bool a2] rfl y1_ ?_;(with_reducible refine (tr_Next.calls kj6 _ _ l0_0 a0_1 a0_2 a0_3 a1 a2 t600 _ ?side1 ?side2 A25.out).mono ?_);(case side1=>repeat (first|exact (Kd.C_below HR0_0.out HB.out)|(with_reducible refine Kd.C_alloc ?_ _)|(with_reducible refine Kd.C_drewN ?_ _)|(with_reducible refine Kd.C_drew ?_)));(case side2=>exact HC0_0.out);rintro e w31 ⟨rfl,hb⟩;refine ⟨_,rfl,?_⟩;have n0_:=A0_ (blk_below (g:=gb592) (o:=.cells #[.slice A0_0 l0_0.length c0_0,.int .i64 a0_1,.int .i64 a0_2,.int .i64 a0_3] 29 (0,0)) (bd_ BK592.out) hb);have n1_:=A0_ (below_step (by repeat (first|(with_reducible first|exact HB.out|apply below_alloc|apply pw_below_drewN|apply below_drew1|refine below_set ?_ GE592.out)|exact HB.out)) hb);clear BK592;clear HB;have BK592:=n0_;have HB:=n1_;clear n0_ n1_;(try clear hb);(try clear hb2);(try clear hk);(try clear hi))|(go_at_call 11;(with_reducible refine (tl_known.calls  t601 _ A29.out ?side1).mono ?_);(case side1=>exact LD.below HLD.out (by repeat (first|(with_reducible first|exact HB.out|apply below_alloc|apply pw_below_drewN|apply below_drew1|refine below_set ?_ GE592.out)|exact HB.out)));rintro e w32 ⟨rfl,hb⟩;have n0_:=A0_ (blk_below (g:=gb592) (o:=.cells #[.slice A0_0 l0_0.length c0_0,.int .i64 a0_1,.int .i64 a0_2,.int .i64 a0_3] 29 (0,0)) (bd_ BK592.out) hb);have n1_:=A0_ (below_step (by repeat (first|(with_reducible first|exact HB.out|apply below_alloc|apply pw_below_drewN|apply below_drew1|refine below_set ?_ GE592.out)|exact HB.out)) hb);clear BK592;clear HB;have BK592:=n0_;have HB:=n1_;clear n0_ n1_;(try clear hb);(try clear hb2);(try clear hk);(try clear hi)))
        go_ret
        exact ⟨y2_,(by repeat (first|(with_reducible first|exact HB.out|apply below_alloc|apply pw_below_drewN|apply below_drew1|refine below_set ?_ GE592.out)|exact HB.out))⟩
       ·rw [if_neg c28] at H
        have c28b0:(t595 == 0)=false:=beq_eq_false_iff_ne.mpr c28
        have c28b1:(t595 != 0)=true:=bne_iff_ne.mpr c28
        obtain rfl:=Option.some.inj H;obtain ⟨hcz33_0,hcz33_1,hcz33_2,hcz33_3,hfz33_0,hfz33_1,hfz33_2,hfz33_3⟩:=bq4_ BK592.out
        go_wp2_with (first|((with_reducible refine gate_callee (f:=50) rfl ?_);refine goesL_ (some 41) rfl rfl Tryz.func50 (by kernel_rfl) rfl #[.agg #[.slice A0_0 l0_0.length c0_0,.int .i64 a0_1,.int .i64 a0_2,.int .i64 a0_3],.int .i64 a1,.bool a2] rfl y1_ ?_;(with_reducible refine (tr_Next.calls kj6 _ _ l0_0 a0_1 a0_2 a0_3 a1 a2 t600 _ ?side1 ?side2 A25.out).mono ?_);(case side1=>repeat (first|exact (Kd.C_below HR0_0.out HB.out)|(with_reducible refine Kd.C_alloc ?_ _)|(with_reducible refine Kd.C_drewN ?_ _)|(with_reducible refine Kd.C_drew ?_)));(case side2=>exact HC0_0.out);rintro e w34 ⟨rfl,hb⟩;refine ⟨_,rfl,?_⟩;have n0_:=A0_ (blk_below (g:=gb592) (o:=.cells #[.slice A0_0 l0_0.length c0_0,.int .i64 a0_1,.int .i64 a0_2,.int .i64 a0_3] 29 (0,0)) (bd_ BK592.out) hb);have n1_:=A0_ (below_step (by repeat (first|(with_reducible first|exact HB.out|apply below_alloc|apply pw_below_drewN|apply below_drew1|refine below_set ?_ GE592.out)|exact HB.out)) hb);clear BK592;clear HB;have BK592:=n0_;have HB:=n1_;clear n0_ n1_;(try clear hb);(try clear hb2);(try clear hk);(try clear hi)))
        go_ret
        exact ⟨y2_,(by repeat (first|(with_reducible first|exact HB.out|apply below_alloc|apply pw_below_drewN|apply below_drew1|refine below_set ?_ GE592.out)|exact HB.out))⟩
      ·rw [if_neg c27] at H
       have c27b0:(t596 == 5)=false:=beq_eq_false_iff_ne.mpr c27
       have c27b1:(t596 != 5)=true:=bne_iff_ne.mpr c27
       obtain rfl:=Option.some.inj H;obtain ⟨hcz35_0,hcz35_1,hcz35_2,hcz35_3,hfz35_0,hfz35_1,hfz35_2,hfz35_3⟩:=bq4_ BK592.out
       go_wp2_with (first|((with_reducible refine gate_callee (f:=50) rfl ?_);refine goesL_ (some 41) rfl rfl Tryz.func50 (by kernel_rfl) rfl #[.agg #[.slice A0_0 l0_0.length c0_0,.int .i64 a0_1,.int .i64 a0_2,.int .i64 a0_3],.int .i64 a1,.bool a2] rfl y1_ ?_;(with_reducible refine (tr_Next.calls kj6 _ _ l0_0 a0_1 a0_2 a0_3 a1 a2 t600 _ ?side1 ?side2 A25.out).mono ?_);(case side1=>repeat (first|exact (Kd.C_below HR0_0.out HB.out)|(with_reducible refine Kd.C_alloc ?_ _)|(with_reducible refine Kd.C_drewN ?_ _)|(with_reducible refine Kd.C_drew ?_)));(case side2=>exact HC0_0.out);rintro e w36 ⟨rfl,hb⟩;refine ⟨_,rfl,?_⟩;have n0_:=A0_ (blk_below (g:=gb592) (o:=.cells #[.slice A0_0 l0_0.length c0_0,.int .i64 a0_1,.int .i64 a0_2,.int .i64 a0_3] 29 (0,0)) (bd_ BK592.out) hb);have n1_:=A0_ (below_step (by repeat (first|(with_reducible first|exact HB.out|apply below_alloc|apply pw_below_drewN|apply below_drew1|refine below_set ?_ GE592.out)|exact HB.out)) hb);clear BK592;clear HB;have BK592:=n0_;have HB:=n1_;clear n0_ n1_;(try clear hb);(try clear hb2);(try clear hk);(try clear hi)))
       go_ret
       exact ⟨y2_,(by repeat (first|(with_reducible first|exact HB.out|apply below_alloc|apply pw_below_drewN|apply below_drew1|refine below_set ?_ GE592.out)|exact HB.out))⟩
     ·rw [if_neg c26] at H;have c26b0:decide (t600<0)=false:=decide_eq_false c26;clear c26
      by_cases c37:t596=0
      ·rw [if_pos c37] at H
       have c37b0:(t596 == 0)=true:=beq_iff_eq.mpr c37
       have c37b1:(t596 != 0)=false:=bne_eq_false_iff_eq.mpr c37
       clear c37
       by_cases c38:t595=t600
       ·rw [if_pos c38] at H
        have c38b0:(t595 == t600)=true:=beq_iff_eq.mpr c38
        have c38b1:(t595 != t600)=false:=bne_eq_false_iff_eq.mpr c38
        clear c38;replace H:=Option.bind_eq_some_iff.mp H;obtain ⟨t602,A390,H⟩:=H
        replace H:(some t602)=some r:=H
        have A39:=A0_ A390;clear A390;obtain rfl:=Option.some.inj H;obtain ⟨hcz40_0,hcz40_1,hcz40_2,hcz40_3,hfz40_0,hfz40_1,hfz40_2,hfz40_3⟩:=bq4_ BK592.out
        go_wp2_with (first|((with_reducible refine gate_callee (f:=50) rfl ?_);refine goesL_ (some 41) rfl rfl Tryz.func50 (by kernel_rfl) rfl #[.agg #[.slice A0_0 l0_0.length c0_0,.int .i64 a0_1,.int .i64 a0_2,.int .i64 a0_3],.int .i64 a1,.bool a2] rfl y1_ ?_;(with_reducible refine (tr_Next.calls kj6 _ _ l0_0 a0_1 a0_2 a0_3 a1 a2 t600 _ ?side1 ?side2 A25.out).mono ?_);(case side1=>repeat (first|exact (Kd.C_below HR0_0.out HB.out)|(with_reducible refine Kd.C_alloc ?_ _)|(with_reducible refine Kd.C_drewN ?_ _)|(with_reducible refine Kd.C_drew ?_)));(case side2=>exact HC0_0.out);rintro e w41 ⟨rfl,hb⟩;refine ⟨_,rfl,?_⟩;have n0_:=A0_ (blk_below (g:=gb592) (o:=.cells #[.slice A0_0 l0_0.length c0_0,.int .i64 a0_1,.int .i64 a0_2,.int .i64 a0_3] 29 (0,0)) (bd_ BK592.out) hb);have n1_:=A0_ (below_step (by repeat (first|(with_reducible first|exact HB.out|apply below_alloc|apply pw_below_drewN|apply below_drew1|refine below_set ?_ GE592.out)|exact HB.out)) hb);clear BK592;clear HB;have BK592:=n0_;have HB:=n1_;clear n0_ n1_;(try clear hb);(try clear hb2);(try clear hk);(try clear hi))|(go_at_call 11;(with_reducible refine (tl_known.calls  t602 _ A39.out ?side1).mono ?_);(case side1=>exact LD.below HLD.out (by repeat (first|(with_reducible first|exact HB.out|apply below_alloc|apply pw_below_drewN|apply below_drew1|refine below_set ?_ GE592.out)|exact HB.out)));rintro e w42 ⟨rfl,hb⟩;have n0_:=A0_ (blk_below (g:=gb592) (o:=.cells #[.slice A0_0 l0_0.length c0_0,.int .i64 a0_1,.int .i64 a0_2,.int .i64 a0_3] 29 (0,0)) (bd_ BK592.out) hb);have n1_:=A0_ (below_step (by repeat (first|(with_reducible first|exact HB.out|apply below_alloc|apply pw_below_drewN|apply below_drew1|refine below_set ?_ GE592.out)|exact HB.out)) hb);clear BK592;clear HB;have BK592:=n0_;have HB:=n1_;clear n0_ n1_;(try clear hb);(try clear hb2);(try clear hk);(try clear hi)))
        go_ret
        exact ⟨y2_,(by repeat (first|(with_reducible first|exact HB.out|apply below_alloc|apply pw_below_drewN|apply below_drew1|refine below_set ?_ GE592.out)|exact HB.out))⟩
       ·rw [if_neg c38] at H
        have c38b0:(t595 == t600)=false:=beq_eq_false_iff_ne.mpr c38
        have c38b1:(t595 != t600)=true:=bne_iff_ne.mpr c38
        obtain rfl:=Option.some.inj H;obtain ⟨hcz43_0,hcz43_1,hcz43_2,hcz43_3,hfz43_0,hfz43_1,hfz43_2,hfz43_3⟩:=bq4_ BK592.out
        go_wp2_with (first|((with_reducible refine gate_callee (f:=50) rfl ?_);refine goesL_ (some 41) rfl rfl Tryz.func50 (by kernel_rfl) rfl #[.agg #[.slice A0_0 l0_0.length c0_0,.int .i64 a0_1,.int .i64 a0_2,.int .i64 a0_3],.int .i64 a1,.bool a2] rfl y1_ ?_;(with_reducible refine (tr_Next.calls kj6 _ _ l0_0 a0_1 a0_2 a0_3 a1 a2 t600 _ ?side1 ?side2 A25.out).mono ?_);(case side1=>repeat (first|exact (Kd.C_below HR0_0.out HB.out)|(with_reducible refine Kd.C_alloc ?_ _)|(with_reducible refine Kd.C_drewN ?_ _)|(with_reducible refine Kd.C_drew ?_)));(case side2=>exact HC0_0.out);rintro e w44 ⟨rfl,hb⟩;refine ⟨_,rfl,?_⟩;have n0_:=A0_ (blk_below (g:=gb592) (o:=.cells #[.slice A0_0 l0_0.length c0_0,.int .i64 a0_1,.int .i64 a0_2,.int .i64 a0_3] 29 (0,0)) (bd_ BK592.out) hb);have n1_:=A0_ (below_step (by repeat (first|(with_reducible first|exact HB.out|apply below_alloc|apply pw_below_drewN|apply below_drew1|refine below_set ?_ GE592.out)|exact HB.out)) hb);clear BK592;clear HB;have BK592:=n0_;have HB:=n1_;clear n0_ n1_;(try clear hb);(try clear hb2);(try clear hk);(try clear hi)))
        go_ret
        exact ⟨y2_,(by repeat (first|(with_reducible first|exact HB.out|apply below_alloc|apply pw_below_drewN|apply below_drew1|refine below_set ?_ GE592.out)|exact HB.out))⟩
      ·rw [if_neg c37] at H
       have c37b0:(t596 == 0)=false:=beq_eq_false_iff_ne.mpr c37
       have c37b1:(t596 != 0)=true:=bne_iff_ne.mpr c37
       obtain rfl:=Option.some.inj H;obtain ⟨hcz45_0,hcz45_1,hcz45_2,hcz45_3,hfz45_0,hfz45_1,hfz45_2,hfz45_3⟩:=bq4_ BK592.out
       go_wp2_with (first|((with_reducible refine gate_callee (f:=50) rfl ?_);refine goesL_ (some 41) rfl rfl Tryz.func50 (by kernel_rfl) rfl #[.agg #[.slice A0_0 l0_0.length c0_0,.int .i64 a0_1,.int .i64 a0_2,.int .i64 a0_3],.int .i64 a1,.bool a2] rfl y1_ ?_;(with_reducible refine (tr_Next.calls kj6 _ _ l0_0 a0_1 a0_2 a0_3 a1 a2 t600 _ ?side1 ?side2 A25.out).mono ?_);(case side1=>repeat (first|exact (Kd.C_below HR0_0.out HB.out)|(with_reducible refine Kd.C_alloc ?_ _)|(with_reducible refine Kd.C_drewN ?_ _)|(with_reducible refine Kd.C_drew ?_)));(case side2=>exact HC0_0.out);rintro e w46 ⟨rfl,hb⟩;refine ⟨_,rfl,?_⟩;have n0_:=A0_ (blk_below (g:=gb592) (o:=.cells #[.slice A0_0 l0_0.length c0_0,.int .i64 a0_1,.int .i64 a0_2,.int .i64 a0_3] 29 (0,0)) (bd_ BK592.out) hb);have n1_:=A0_ (below_step (by repeat (first|(with_reducible first|exact HB.out|apply below_alloc|apply pw_below_drewN|apply below_drew1|refine below_set ?_ GE592.out)|exact HB.out)) hb);clear BK592;clear HB;have BK592:=n0_;have HB:=n1_;clear n0_ n1_;(try clear hb);(try clear hb2);(try clear hk);(try clear hi)))
       go_ret
       exact ⟨y2_,(by repeat (first|(with_reducible first|exact HB.out|apply below_alloc|apply pw_below_drewN|apply below_drew1|refine below_set ?_ GE592.out)|exact HB.out))⟩
 ·replace c5:=Bool.eq_false_iff.mpr c5;subst c5
  have H1:((tl_known.f).bind fun t594=>(some t594))=some r:=by rw [if_neg (show ¬ (false=true) by decide)] at H;exact H
  clear H;have H:=H1;clear H1;replace H:=Option.bind_eq_some_iff.mp H;obtain ⟨t594,A470,H⟩:=H
  replace H:(some t594)=some r:=H
  have A47:=A0_ A470;clear A470;obtain rfl:=Option.some.inj H
  go_enter Tryz.func9,Tryz.ntmps9
  go_wp2_with (first|((with_reducible refine gate_dst (N:=3) rfl ?_);refine box_event ?hg (N:=3) ?hd (cs:=#[.slice A0_0 l0_0.length c0_0,.int .i64 a0_1,.int .i64 a0_2,.int .i64 a0_3]) (t:=29) ?hr ?_;(case hd=>rfl);(case hg=>rfl);(case hr=>first|(go_simp;done)|(go_simp;rfl));intro gb592 hg w48 hbox hb;have n0_:=A0_ (below_step y0_ hb);have n1_:=A0_ (hbox);have n2_:=A0_ ((by rw [hg];exact (below_size y0_):w.heap.size≤gb592));have n3_:=A0_ ((by rw [hg];exact (below_size y0_):w.heap.size≤gb592));clear HB;have HB:=n0_;have BK592:=n1_;have GW592:=n2_;have GE592:=n3_;clear n0_ n1_ n2_ n3_;clear hb hbox hg;obtain ⟨hcz49_0,hcz49_1,hcz49_2,hcz49_3,hfz49_0,hfz49_1,hfz49_2,hfz49_3⟩:=bq4_ BK592.out)|((with_reducible refine gate_callee (f:=17) rfl ?_);refine goesL_ (some 11) rfl rfl Tryz.func17 (by kernel_rfl) rfl #[.agg #[.slice A0_0 l0_0.length c0_0,.int .i64 a0_1,.int .i64 a0_2,.int .i64 a0_3]] rfl y1_ ?_;(with_reducible refine (tl_short.calls k _ _ l0_0 a0_1 a0_2 a0_3 false _ ?side1 ?side2 A4.out).mono ?_);(case side1=>repeat (first|exact (Kd.C_below HR0_0.out HB.out)|(with_reducible refine Kd.C_alloc ?_ _)|(with_reducible refine Kd.C_drewN ?_ _)|(with_reducible refine Kd.C_drew ?_)));(case side2=>exact HC0_0.out);rintro e w50 ⟨rfl,hb⟩;refine ⟨_,rfl,?_⟩;have n0_:=A0_ (blk_below (g:=gb592) (o:=.cells #[.slice A0_0 l0_0.length c0_0,.int .i64 a0_1,.int .i64 a0_2,.int .i64 a0_3] 29 (0,0)) (bd_ BK592.out) hb);have n1_:=A0_ (below_step (by repeat (first|(with_reducible first|exact HB.out|apply below_alloc|apply pw_below_drewN|apply below_drew1|refine below_set ?_ GE592.out)|exact HB.out)) hb);clear BK592;clear HB;have BK592:=n0_;have HB:=n1_;clear n0_ n1_;(try clear hb);(try clear hb2);(try clear hk);(try clear hi))|((with_reducible refine gate_callee (f:=11) rfl ?_);refine goesL_ (some 13) rfl rfl Tryz.func11 (by kernel_rfl) rfl #[] rfl y1_ ?_;(with_reducible refine (tl_known.calls  t594 _ A47.out ?side1).mono ?_);(case side1=>exact LD.below HLD.out (by repeat (first|(with_reducible first|exact HB.out|apply below_alloc|apply pw_below_drewN|apply below_drew1|refine below_set ?_ GE592.out)|exact HB.out)));rintro e w51 ⟨rfl,hb⟩;refine ⟨_,rfl,?_⟩;have n0_:=A0_ (blk_below (g:=gb592) (o:=.cells #[.slice A0_0 l0_0.length c0_0,.int .i64 a0_1,.int .i64 a0_2,.int .i64 a0_3] 29 (0,0)) (bd_ BK592.out) hb);have n1_:=A0_ (below_step (by repeat (first|(with_reducible first|exact HB.out|apply below_alloc|apply pw_below_drewN|apply below_drew1|refine below_set ?_ GE592.out)|exact HB.out)) hb);clear BK592;clear HB;have BK592:=n0_;have HB:=n1_;clear n0_ n1_;(try clear hb);(try clear hb2);(try clear hk);(try clear hi)))
  go_ret
  exact ⟨y2_,(by repeat (first|(with_reducible first|exact HB.out|apply below_alloc|apply pw_below_drewN|apply below_drew1|refine below_set ?_ GE592.out)|exact HB.out))⟩
end Go.Proofs.YtjahbgldccjbfaaGreatDoor.PSky
end
section
namespace Go.Proofs.YtjahbgldccjbfaaGreatDoor.PSky
open Go.RowKit Go.Proofs.YtjahbgldccjbfaaGreatDoorW.PrintWords Go.Proofs.YtjahbgldccjbfaaGreatDoorW.PrintLast Go.Proofs.YtjahbgldccjbfaaGreatDoorW.PrintMore
theorem SkyNexts_ev (l:List S74) (p q n d:Int) (full:Bool):Ev (fun k=>tl_SkyNexts.f k l p q n d full) true:=by
 obtain ⟨s,hs,hs6⟩:=short_ev l p q n
 have bad:∀ b:Bool,b=true→Ev (fun k=>tl_SkyNexts.j0 k d full 0 2 b l p q n) true:=fun b hb=>by
  refine Ev.step (fun k=>by rw [tl_SkyNexts.j0]) ?_
  exact Ev.pos hb (Ev.pos rfl (Ev.pos rfl known_ev))
 unfold tl_SkyNexts.f
 refine Ev.bind hs ?_
 cases s with
 |false=>exact Ev.neg (by simp) known_ev
 |true=>
  have hl:=hs6 rfl
  refine Ev.pos rfl (Ev.bind (Next_ev l p q n d full) (Ev.bind (refSky_ev l p q n (by omega)) ?_))
  cases h1:okSky l p q n with
  |false=>
   rw [if_neg (by simp)]
   exact Ev.neg (by simp) (bad true rfl)
  |true=>
   refine Ev.pos rfl (Ev.bind (Ev.is (Day_eq d)) ?_)
   cases h2:okDay d with
   |false=>
    rw [if_neg (by simp)]
    exact bad _ rfl
   |true=>
    rw [if_pos (show true=true∧true=true from ⟨rfl,rfl⟩)]
    refine Ev.step (fun k=>by rw [tl_SkyNexts.j0]) ?_
    refine Ev.neg (by simp) (Ev.bind (refNext_ev h1 h2 full) ?_)
    cases h3:firstMoon l d full with
    |none=>exact Ev.pos (by decide) (Ev.pos rfl (Ev.pos rfl known_ev))
    |some x=>
     have hx:=first_some h3
     refine Ev.neg (show ¬ (Option.some x).getD (-1)<0 from ?_) (Ev.pos rfl (Ev.pos rfl known_ev))
     show ¬ x<0
     omega
end Go.Proofs.YtjahbgldccjbfaaGreatDoor.PSky
end
