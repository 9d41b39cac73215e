/- A part of the proof of a law of the layer sky. -/
import Derived.ArgAppend
import Derived.Below
import Derived.BigQuiet
import Derived.BigRegion
import Derived.ChangeSame
import Derived.Deep.AppendLies
import Derived.Deep.CutBlock
import Derived.Deep.DeepCutAuto
import Derived.Deep.DeepHandedRow
import Derived.Deep.Draws
import Derived.Deep.LoopGhost
import Derived.Deep.OwnRows
import Derived.Deep.QuietTactic
import Derived.Deep.RegionHeld3
import Derived.Deep.RegionLaw
import Derived.Deep.Slices
import Derived.Deep.Strs
import Derived.Defers
import Derived.KernelRfl
import Derived.LaidMore
import Derived.Laws.BitsLemmas
import Derived.Laws.BytesArg
import Derived.Laws.Entries
import Derived.Laws.IdiomCopy
import Derived.Laws.LoneSync
import Derived.Laws.MakeOwn
import Derived.Laws.NewBlocks
import Derived.Laws.OwnMore
import Derived.Laws.Pointers
import Derived.Laws.Rows
import Derived.Laws.Slices
import Derived.Laws.StructEq
import Derived.Lib.AppendStr
import Derived.Lib.ConvBytes
import Derived.Lib.LaidTab
import Derived.Lib.OthersKept
import Derived.Lib.SplitLaws
import Derived.LoopIn
import Derived.LoopN
import Derived.LoopNIn
import Derived.Maps.AppendAt
import Derived.Maps.Own
import Derived.Maps.OwnOps
import Derived.Maps.OwnSet
import Derived.Maps.Views
import Derived.OpenShut
import Derived.OrdersHeld
import Derived.OrdersIn
import Derived.Outline
import Derived.OwnWalk
import Derived.OwnWalkIn
import Derived.ProofKit
import Derived.RangeFuncBound
import Derived.RangeFuncBox
import Derived.RangeFuncCalls
import Derived.RangeFuncLeaves
import Derived.RangeFuncNested
import Derived.Recover
import Derived.RegionIn
import Derived.RowKit
import Derived.RowKit3
import Derived.Scope
import Derived.Shelf.Abstract
import Derived.Shelf.LaysM
import Derived.Shelf.RegionOpen
import Derived.Shelf.Strconv.Itoa0
import Derived.Shelf.Strconv.Itoa1
import Derived.Shelf.Strconv.Itoa2
import Derived.Shelf.Strconv.Itoa3
import Derived.Shelf.Strings.Builder1
import Derived.Shelf.Strings.Builder2
import Derived.Shelf.Strings.Count
import Derived.Shelf.Strings.Explode
import Derived.Shelf.Strings.OnBuilder
import Derived.Shelf.Strings.Prefix
import Derived.Shelf.Strings.RuneCount
import Derived.Shelf.Strings.Search1
import Derived.Shelf.Strings.Search2
import Derived.Shelf.Strings.Search3
import Derived.Shelf.Strings.Shaped
import Derived.Shelf.Strings.Split
import Derived.Shelf.Strings.SplitShaped
import Derived.Shelf.Unicode.Decode
import Derived.Shelf.Unicode.DecodeAny
import Derived.Shelf.Unicode.DecodeSlow
import Derived.Shelf.Utf8.RuneCount
import Derived.SizedLaws
import Derived.StillTactics
import Derived.Stop.Joined
import Derived.Stop.LaidErr
import Derived.Tactics
import Derived.TacticsIn
import Derived.TacticsInMore
import Derived.WalkKit
import Derived.WideLaws
import Derived.Test.YtjahbgldccjbfaaGreatDoorY6
section
namespace Go.Proofs.YtjahbgldccjbfaaGreatDoor.PSky
open Go.RowKit Go.Proofs.YtjahbgldccjbfaaGreatDoorW.PrintWords Go.Proofs.YtjahbgldccjbfaaGreatDoorW.PrintLast Go.Proofs.YtjahbgldccjbfaaGreatDoorW.PrintMore
attribute [local go_sem] max2_int min2_int max_two min_two max_three min_three max_four min_four
set_option linter.unusedVariables false
set_option linter.unusedSimpArgs false
mutual
def tl_short.l0:Nat→Int→List (S74)→Int→Int→Int→Option (Bool)
 |0,_,_,_,_,_=>none
 |k+1,x3,x290000,x290001,x290002,x290003=>if x3<(x290000.length:Int) then (tl_short.j1 k x3 (decide (x3<7)) x290000 x290001 x290002 x290003) else (tl_short.j1 k x3 false x290000 x290001 x290002 x290003)
def tl_short.j1:Nat→Int→Bool→List (S74)→Int→Int→Int→Option (Bool)
 |0,_,_,_,_,_,_=>none
 |k+1,x3,x12,x290000,x290001,x290002,x290003=>if x12=true then (if 0≤x3 then (if x3<(x290000.length:Int) then (if (((rd_T74 x290000 x3).f2).length:Int) > 10 then (some false) else (tl_short.l0 k (wrap64 (x3+1)) x290000 x290001 x290002 x290003)) else (none)) else (none)) else (some (decide ((x290000.length:Int)≤6)))
end
def tl_short.f (k:Nat) (l0_0:List (S74)) (a0_1:Int) (a0_2:Int) (a0_3:Int):Option (Bool):=tl_short.l0 k 0 l0_0 a0_1 a0_2 a0_3
set_option maxHeartbeats 8000000 in
set_option maxRecDepth 100000 in
theorem tl_short.calls (k:Nat) (A0_0:Option Addr) (c0_0:Nat) (l0_0:List (S74)) (a0_1:Int) (a0_2:Int) (a0_3:Int) (r:Bool) (w:World) (hr0_0:Kd.C k74 w A0_0 l0_0.length l0_0) (hc0_0:l0_0.length≤c0_0) (h:tl_short.f k l0_0 a0_1 a0_2 a0_3=some r):
  Calls Tryz.prog 17 #[.agg #[.slice A0_0 l0_0.length c0_0,.int .i64 a0_1,.int .i64 a0_2,.int .i64 a0_3]] w fun e w'=>e=.returned (.bool r)∧Below w.heap.size w w':=by
 have hu29:=Tryz.underlying29
 have HR0_0:=A0_ hr0_0;have HC0_0:=A0_ hc0_0;clear hr0_0 hc0_0
 have HB:=A0_ (Below.refl w.heap.size w)
 have H:(tl_short.l0 k 0 l0_0 a0_1 a0_2 a0_3)=some r:=h
 clear h
 have H':=A0_ H
 clear H
 go_enter Tryz.func17,Tryz.ntmps17
 go_wp2_with (first|((with_reducible refine gate_dst (N:=1) rfl ?_);refine box_event ?hg (N:=1) ?hd (cs:=#[.slice A0_0 l0_0.length c0_0,.int .i64 a0_1,.int .i64 a0_2,.int .i64 a0_3]) (t:=29) ?hr ?_;(case hd=>rfl);(case hg=>rfl);(case hr=>first|(go_simp;done)|(go_simp;rfl));intro gb289 hg w2 hbox hb;have n0_:=A0_ (below_step y0_ hb);have n1_:=A0_ (hbox);have n2_:=A0_ ((by rw [hg];exact (below_size y0_):w.heap.size≤gb289));have n3_:=A0_ ((by rw [hg];exact (below_size y0_):w.heap.size≤gb289));clear HB;have HB:=n0_;have BK289:=n1_;have GW289:=n2_;have GE289:=n3_;clear n0_ n1_ n2_ n3_;clear hb hbox hg))
 go_loopg [3] k (fun kq v3 w'=>∃ (x3_1:Int),v3=.int .i64 x3_1∧Aside0 (tl_short.l0 kq x3_1 l0_0 a0_1 a0_2 a0_3=some r)∧Aside0 (kq≤k)∧Aside0 (w'.heap[gb289]?=some (.cells #[(.slice A0_0 l0_0.length c0_0),.int .i64 a0_1,.int .i64 a0_2,.int .i64 a0_3] 29 (0,0)))∧Aside0 (Below w.heap.size w w'))
 case atStart=>exact ⟨(0),y4_,H',⟨Nat.le_refl _⟩,⟨by (with_reducible repeat (first|refine blk_drewN ?_ _|refine blk_drew ?_|refine blk_alloc ?_ _));exact BK289.out⟩,⟨(by repeat (first|(with_reducible first|exact HB.out|apply below_alloc|apply pw_below_drewN|apply below_drew1|refine below_set ?_ GE289.out)|exact HB.out))⟩⟩
 case round=>
  clear H'
  (try clear c1);(try clear p2)
  obtain ⟨x3_1,rfl,HA,HK1,BK289,HB⟩:=hrel
  cases gk with
  |zero=>exact absurd HA.out (by simp [tl_short.l0])
  |succ k1=>
   have H:=HA.out
   clear HA
   simp only [tl_short.l0] at H
   have HC3:=A0_ H;clear H
   go_upto_region 2 with (fail)
   go_cut [12] (fun v12 wc=>∃ (kq:Nat) (x12_2:Bool),v12=.bool x12_2∧Aside0 (tl_short.j1 kq x3_1 x12_2 l0_0 a0_1 a0_2 a0_3=some r)∧Aside0 (kq≤k1)∧Aside0 (wc.heap[gb289]?=some (.cells #[(.slice A0_0 l0_0.length c0_0),.int .i64 a0_1,.int .i64 a0_2,.int .i64 a0_3] 29 (0,0)))∧Aside0 (Below w.heap.size w wc))
   case first=>
    have H:=HC3.out
    clear HC3
    by_cases c4:x3_1<(l0_0.length:Int)
    ·rw [if_pos c4] at H;have c4b0:decide (x3_1<(l0_0.length:Int))=true:=decide_eq_true c4;clear c4
     (first|rw [c4b0]|(simp only [i64_w,i32_w];rw [c4b0])|skip)
     have H':=A0_ H
     clear H;obtain ⟨hcz5_0,hcz5_1,hcz5_2,hcz5_3,hfz5_0,hfz5_1,hfz5_2,hfz5_3⟩:=bq4_ BK289.out;go_wp2
     go_meet
     case rel=>exact ⟨_,(decide (x3_1<7)),y4_,H',⟨by have:=HK1.out;first|omega|exact Nat.le_refl _⟩,⟨by (with_reducible repeat (first|refine blk_drewN ?_ _|refine blk_drew ?_|refine blk_alloc ?_ _));exact BK289.out⟩,⟨(by repeat (first|(with_reducible first|exact HB.out|apply below_alloc|apply pw_below_drewN|apply below_drew1|refine below_set ?_ GE289.out)|exact HB.out))⟩⟩
    ·rw [if_neg c4] at H;have c4b0:decide (x3_1<(l0_0.length:Int))=false:=decide_eq_false c4;clear c4
     (first|rw [c4b0]|(simp only [i64_w,i32_w];rw [c4b0])|skip)
     have H':=A0_ H
     clear H;obtain ⟨hcz6_0,hcz6_1,hcz6_2,hcz6_3,hfz6_0,hfz6_1,hfz6_2,hfz6_3⟩:=bq4_ BK289.out;go_wp2
     go_meet
     case rel=>exact ⟨_,(false),y4_,H',⟨by have:=HK1.out;first|omega|exact Nat.le_refl _⟩,⟨by (with_reducible repeat (first|refine blk_drewN ?_ _|refine blk_drew ?_|refine blk_alloc ?_ _));exact BK289.out⟩,⟨(by repeat (first|(with_reducible first|exact HB.out|apply below_alloc|apply pw_below_drewN|apply below_drew1|refine below_set ?_ GE289.out)|exact HB.out))⟩⟩
   case rest=>
    clear HC3;(try clear c1);(try clear p2);(try clear c4);(try clear c4b0);(try clear hcz5_0);(try clear hcz5_1);(try clear hcz5_2);(try clear hcz5_3);(try clear hcz6_0);(try clear hcz6_1);(try clear hcz6_2);(try clear hcz6_3);(try clear hfz5_0);(try clear hfz5_1);(try clear hfz5_2);(try clear hfz5_3);(try clear hfz6_0);(try clear hfz6_1);(try clear hfz6_2);(try clear hfz6_3);(try clear p2)
    obtain ⟨kq,x12_2,rfl,HA,HJ2,BK289,HB⟩:=hcut
    cases kq with
    |zero=>exact absurd HA.out (by simp [tl_short.j1])
    |succ kj2=>
     have H:=HA.out
     clear HA
     simp only [tl_short.j1] at H
     by_cases c7:x12_2=true
     ·subst c7
      have H1:(if 0≤x3_1 then (if x3_1<(l0_0.length:Int) then (if (((rd_T74 l0_0 x3_1).f2).length:Int) > 10 then (some false) else (tl_short.l0 kj2 (wrap64 (x3_1+1)) l0_0 a0_1 a0_2 a0_3)) else (none)) else (none))=some r:=by rw [if_pos rfl] at H;exact H
      clear H;have H:=H1;clear H1
      by_cases c8:0≤x3_1
      ·rw [if_pos c8] at H;have c8b0:decide (0≤x3_1)=true:=decide_eq_true c8;clear c8
       by_cases c9:x3_1<(l0_0.length:Int)
       ·rw [if_pos c9] at H;have c9b0:decide (x3_1<(l0_0.length:Int))=true:=decide_eq_true c9;clear c9
        by_cases c10:(((rd_T74 l0_0 x3_1).f2).length:Int) > 10
        ·rw [if_pos c10] at H;have c10b0:decide (10<(((rd_T74 l0_0 x3_1).f2).length:Int))=true:=decide_eq_true c10
         have c10b1:decide (10<((rd_T74 l0_0 x3_1).f2).length)=true:=decide_eq_true (by omega)
         clear c10;obtain rfl:=Option.some.inj H;obtain ⟨hcz11_0,hcz11_1,hcz11_2,hcz11_3,hfz11_0,hfz11_1,hfz11_2,hfz11_3⟩:=bq4_ BK289.out
         have p290:0≤(x3_1:Int):=of_decide_eq_true y5_
         have q290:x3_1<(l0_0.length:Int):=of_decide_eq_true y5_
         obtain ⟨ad290,A290_3,c290_3,e290,hx290_0,hx290_1,hx290_2,hx290_3,hl290_3,hi290_3⟩:=at_T74 HR0_0.out x3_1 p290 q290
         cases e290
         replace hx290_0:=(HB.out.cell (World.block_lt_of_cell? w _ hx290_0)).trans hx290_0
         replace hx290_1:=(HB.out.cell (World.block_lt_of_cell? w _ hx290_1)).trans hx290_1
         replace hx290_2:=(HB.out.cell (World.block_lt_of_cell? w _ hx290_2)).trans hx290_2
         replace hx290_3:=(HB.out.cell (World.block_lt_of_cell? w _ hx290_3)).trans hx290_3
         have HR290_3:=A0_ hi290_3;have HC290_3:=A0_ hl290_3;clear hi290_3 hl290_3
         replace p290:=eq_true p290
         replace q290:=eq_true q290
         go_wp2;go_ret
         exact ⟨y2_,(by repeat (first|(with_reducible first|exact HB.out|apply below_alloc|apply pw_below_drewN|apply below_drew1|refine below_set ?_ GE289.out)|exact HB.out))⟩
        ·rw [if_neg c10] at H;have c10b0:decide (10<(((rd_T74 l0_0 x3_1).f2).length:Int))=false:=decide_eq_false c10
         have c10b1:decide (10<((rd_T74 l0_0 x3_1).f2).length)=false:=decide_eq_false (by omega)
         clear c10
         have H':=A0_ H
         clear H;obtain ⟨hcz12_0,hcz12_1,hcz12_2,hcz12_3,hfz12_0,hfz12_1,hfz12_2,hfz12_3⟩:=bq4_ BK289.out
         have p290:0≤(x3_1:Int):=of_decide_eq_true y5_
         have q290:x3_1<(l0_0.length:Int):=of_decide_eq_true y5_
         obtain ⟨ad290,A290_3,c290_3,e290,hx290_0,hx290_1,hx290_2,hx290_3,hl290_3,hi290_3⟩:=at_T74 HR0_0.out x3_1 p290 q290
         cases e290
         replace hx290_0:=(HB.out.cell (World.block_lt_of_cell? w _ hx290_0)).trans hx290_0
         replace hx290_1:=(HB.out.cell (World.block_lt_of_cell? w _ hx290_1)).trans hx290_1
         replace hx290_2:=(HB.out.cell (World.block_lt_of_cell? w _ hx290_2)).trans hx290_2
         replace hx290_3:=(HB.out.cell (World.block_lt_of_cell? w _ hx290_3)).trans hx290_3
         have HR290_3:=A0_ hi290_3;have HC290_3:=A0_ hl290_3;clear hi290_3 hl290_3
         replace p290:=eq_true p290
         replace q290:=eq_true q290
         go_wp2
         go_roundg kj2
         case measure=>have:=HK1.out;have:=HJ2.out;omega
         case rel=>exact ⟨(wrap64 (x3_1+1)),y4_,H',⟨by have:=HK1.out;have:=HJ2.out;omega⟩,⟨by (with_reducible repeat (first|refine blk_drewN ?_ _|refine blk_drew ?_|refine blk_alloc ?_ _));exact BK289.out⟩,⟨(by repeat (first|(with_reducible first|exact HB.out|apply below_alloc|apply pw_below_drewN|apply below_drew1|refine below_set ?_ GE289.out)|exact HB.out))⟩⟩
       ·rw [if_neg c9] at H;exact absurd H (by simp)
      ·rw [if_neg c8] at H;exact absurd H (by simp)
     ·replace c7:=Bool.eq_false_iff.mpr c7;subst c7
      have H1:(some (decide ((l0_0.length:Int)≤6)))=some r:=by rw [if_neg (show ¬ (false=true) by decide)] at H;exact H
      clear H;have H:=H1;clear H1;obtain rfl:=Option.some.inj H;obtain ⟨hcz13_0,hcz13_1,hcz13_2,hcz13_3,hfz13_0,hfz13_1,hfz13_2,hfz13_3⟩:=bq4_ BK289.out;go_wp2;go_ret
      exact ⟨y2_,(by repeat (first|(with_reducible first|exact HB.out|apply below_alloc|apply pw_below_drewN|apply below_drew1|refine below_set ?_ GE289.out)|exact HB.out))⟩
end Go.Proofs.YtjahbgldccjbfaaGreatDoor.PSky
end
section
namespace Go.Proofs.YtjahbgldccjbfaaGreatDoor.PSky
open Go.RowKit Go.Proofs.YtjahbgldccjbfaaGreatDoorW.PrintWords Go.Proofs.YtjahbgldccjbfaaGreatDoorW.PrintLast Go.Proofs.YtjahbgldccjbfaaGreatDoorW.PrintMore
attribute [local go_sem] max2_int min2_int max_two min_two max_three min_three max_four min_four
set_option linter.unusedVariables false
set_option linter.unusedSimpArgs false
def tr_down.f (a0:Int) (a1:Int):Option (Int):=if a1=0 then (none) else (if (wrap64 ((wrap64 (Int.tdiv a0 a1))*a1)) > a0 then (some (wrap64 ((wrap64 (Int.tdiv a0 a1)) - 1))) else (some (wrap64 (Int.tdiv a0 a1))))
set_option maxHeartbeats 8000000 in
set_option maxRecDepth 100000 in
theorem tr_down.calls (a0:Int) (a1:Int) (r:Int) (w:World) (h:tr_down.f a0 a1=some r):
  Calls Tryz.prog 129 #[.int .i64 a0,.int .i64 a1] w fun e w'=>e=.returned (.int .i64 r)∧Drawn0 w w':=by
 have H:(if a1=0 then (none) else (if (wrap64 ((wrap64 (Int.tdiv a0 a1))*a1)) > a0 then (some (wrap64 ((wrap64 (Int.tdiv a0 a1)) - 1))) else (some (wrap64 (Int.tdiv a0 a1)))))=some r:=h
 clear h
 by_cases c3:a1=0
 ·rw [if_pos c3] at H;exact absurd H (by simp)
 ·rw [if_neg c3] at H
  have c3b0:(a1 == 0)=false:=beq_eq_false_iff_ne.mpr c3
  have c3b1:(a1 != 0)=true:=bne_iff_ne.mpr c3
  by_cases c4:(wrap64 ((wrap64 (Int.tdiv a0 a1))*a1)) > a0
  ·rw [if_pos c4] at H;have c4b0:decide (a0<(wrap64 ((wrap64 (Int.tdiv a0 a1))*a1)))=true:=decide_eq_true c4;clear c4;obtain rfl:=Option.some.inj H
   go_enter Tryz.func129,Tryz.ntmps129
   go_wp2;go_ret
   exact ⟨y4_,yb_⟩
  ·rw [if_neg c4] at H;have c4b0:decide (a0<(wrap64 ((wrap64 (Int.tdiv a0 a1))*a1)))=false:=decide_eq_false c4;clear c4;obtain rfl:=Option.some.inj H
   go_enter Tryz.func129,Tryz.ntmps129
   go_wp2;go_ret
   exact ⟨y4_,yb_⟩
def tr_Less.f (a0:Int):Option (Int):=(tr_down.f a0 21600).bind fun t295=>(some (wrap64 (a0 - (wrap64 (t295*21600)))))
set_option maxHeartbeats 8000000 in
set_option maxRecDepth 100000 in
theorem tr_Less.calls (a0:Int) (r:Int) (w:World) (h:tr_Less.f a0=some r):
  Calls Tryz.prog 82 #[.int .i64 a0] w fun e w'=>e=.returned (.int .i64 r)∧Drawn0 w w':=by
 have H:((tr_down.f a0 21600).bind fun t295=>(some (wrap64 (a0 - (wrap64 (t295*21600))))))=some r:=h
 clear h;replace H:=Option.bind_eq_some_iff.mp H;obtain ⟨t295,A20,H⟩:=H
 replace H:(some (wrap64 (a0 - (wrap64 (t295*21600)))))=some r:=H
 have A2:=A0_ A20;clear A20;obtain rfl:=Option.some.inj H
 go_enter Tryz.func82,Tryz.ntmps82
 go_wp2_with (first|((with_reducible refine gate_callee (f:=129) rfl ?_);refine goesL_ (some 5) rfl rfl Tryz.func129 (by kernel_rfl) rfl #[.int .i64 a0,.int .i64 21600] rfl y1_ ?_;(with_reducible refine (tr_down.calls a0 21600 t295 _ A2.out).mono ?_);rintro e w' ⟨rfl,⟨nd,rfl⟩⟩;refine ⟨_,rfl,?_⟩))
 go_ret
 exact ⟨y4_,yb_⟩
end Go.Proofs.YtjahbgldccjbfaaGreatDoor.PSky
end
section
namespace Go.Proofs.YtjahbgldccjbfaaGreatDoor.PSky
open Go.RowKit Go.Proofs.YtjahbgldccjbfaaGreatDoorW.PrintWords Go.Proofs.YtjahbgldccjbfaaGreatDoorW.PrintLast Go.Proofs.YtjahbgldccjbfaaGreatDoorW.PrintMore
attribute [local go_sem] max2_int min2_int max_two min_two max_three min_three max_four min_four
set_option linter.unusedVariables false
set_option linter.unusedSimpArgs false
def tr_Span.f (a0:Int) (a1:Int):Option (Bool):=(tr_in.f a0 1 20000).bind fun t293=>(if t293=true then ((tr_in.f a1 a0 20000).bind fun t294=>(if t294=true then (some (decide ((wrap64 (a1 - a0))≤800))) else (some false))) else (some false))
set_option maxHeartbeats 8000000 in
set_option maxRecDepth 100000 in
theorem tr_Span.calls (a0:Int) (a1:Int) (r:Bool) (w:World) (h:tr_Span.f a0 a1=some r):
  Calls Tryz.prog 21 #[.int .i64 a0,.int .i64 a1] w fun e w'=>e=.returned (.bool r)∧Drawn0 w w':=by
 have H:((tr_in.f a0 1 20000).bind fun t293=>(if t293=true then ((tr_in.f a1 a0 20000).bind fun t294=>(if t294=true then (some (decide ((wrap64 (a1 - a0))≤800))) else (some false))) else (some false)))=some r:=h
 clear h;replace H:=Option.bind_eq_some_iff.mp H;obtain ⟨t293,A30,H⟩:=H
 replace H:(if t293=true then ((tr_in.f a1 a0 20000).bind fun t294=>(if t294=true then (some (decide ((wrap64 (a1 - a0))≤800))) else (some false))) else (some false))=some r:=H
 have A3:=A0_ A30;clear A30
 by_cases c4:t293=true
 ·subst c4
  have H1:((tr_in.f a1 a0 20000).bind fun t294=>(if t294=true then (some (decide ((wrap64 (a1 - a0))≤800))) else (some false)))=some r:=by rw [if_pos rfl] at H;exact H
  clear H;have H:=H1;clear H1;replace H:=Option.bind_eq_some_iff.mp H;obtain ⟨t294,A50,H⟩:=H
  replace H:(if t294=true then (some (decide ((wrap64 (a1 - a0))≤800))) else (some false))=some r:=H
  have A5:=A0_ A50;clear A50
  by_cases c6:t294=true
  ·subst c6
   have H1:(some (decide ((wrap64 (a1 - a0))≤800)))=some r:=by rw [if_pos rfl] at H;exact H
   clear H;have H:=H1;clear H1;obtain rfl:=Option.some.inj H
   go_enter Tryz.func21,Tryz.ntmps21
   go_wp2_with (first|((with_reducible refine gate_callee (f:=66) rfl ?_);refine goesL_ (some 6) rfl rfl Tryz.func66 (by kernel_rfl) rfl #[.int .i64 a0,.int .i64 1,.int .i64 20000] rfl y1_ ?_;(with_reducible refine (tr_in.calls a0 1 20000 true _ A3.out).mono ?_);rintro e w' ⟨rfl,⟨nd,rfl⟩⟩;refine ⟨_,rfl,?_⟩)|(go_at_call 66;(with_reducible refine (tr_in.calls a1 a0 20000 true _ A5.out).mono ?_);rintro e w' ⟨rfl,⟨nd,rfl⟩⟩))
   go_ret
   exact ⟨y4_,yb_⟩
  ·replace c6:=Bool.eq_false_iff.mpr c6;subst c6
   have H1:(some false)=some r:=by rw [if_neg (show ¬ (false=true) by decide)] at H;exact H
   clear H;have H:=H1;clear H1;obtain rfl:=Option.some.inj H
   go_enter Tryz.func21,Tryz.ntmps21
   go_wp2_with (first|((with_reducible refine gate_callee (f:=66) rfl ?_);refine goesL_ (some 6) rfl rfl Tryz.func66 (by kernel_rfl) rfl #[.int .i64 a0,.int .i64 1,.int .i64 20000] rfl y1_ ?_;(with_reducible refine (tr_in.calls a0 1 20000 true _ A3.out).mono ?_);rintro e w' ⟨rfl,⟨nd,rfl⟩⟩;refine ⟨_,rfl,?_⟩)|(go_at_call 66;(with_reducible refine (tr_in.calls a1 a0 20000 false _ A5.out).mono ?_);rintro e w' ⟨rfl,⟨nd,rfl⟩⟩))
   go_ret
   exact ⟨y4_,yb_⟩
 ·replace c4:=Bool.eq_false_iff.mpr c4;subst c4
  have H1:(some false)=some r:=by rw [if_neg (show ¬ (false=true) by decide)] at H;exact H
  clear H;have H:=H1;clear H1;obtain rfl:=Option.some.inj H
  go_enter Tryz.func21,Tryz.ntmps21
  go_wp2_with (first|((with_reducible refine gate_callee (f:=66) rfl ?_);refine goesL_ (some 6) rfl rfl Tryz.func66 (by kernel_rfl) rfl #[.int .i64 a0,.int .i64 1,.int .i64 20000] rfl y1_ ?_;(with_reducible refine (tr_in.calls a0 1 20000 false _ A3.out).mono ?_);rintro e w' ⟨rfl,⟨nd,rfl⟩⟩;refine ⟨_,rfl,?_⟩))
  go_ret
  exact ⟨y4_,yb_⟩
def tr_Apart.f (a0:Int) (a1:Int):Option (Int):=(tr_Less.f (wrap64 (a0 - a1))).bind fun t296=>(some (mn t296 (wrap64 (21600 - t296))))
set_option maxHeartbeats 8000000 in
set_option maxRecDepth 100000 in
theorem tr_Apart.calls (a0:Int) (a1:Int) (r:Int) (w:World) (h:tr_Apart.f a0 a1=some r):
  Calls Tryz.prog 29 #[.int .i64 a0,.int .i64 a1] w fun e w'=>e=.returned (.int .i64 r)∧Below w.heap.size w w':=by
 have HB:=A0_ (Below.refl w.heap.size w)
 have H:((tr_Less.f (wrap64 (a0 - a1))).bind fun t296=>(some (mn t296 (wrap64 (21600 - t296)))))=some r:=h
 clear h;replace H:=Option.bind_eq_some_iff.mp H;obtain ⟨t296,A30,H⟩:=H
 replace H:(some (mn t296 (wrap64 (21600 - t296))))=some r:=H
 have A3:=A0_ A30;clear A30
 obtain ⟨ji4,hji4⟩:∃ j_:Int,(mn t296 (wrap64 (21600 - t296)))=j_:=⟨_,rfl⟩
 replace H:(some ji4)=some r:=by first|(rw [hji4] at H;exact H)|(simp only [hji4] at H ⊢;exact H)
 (try rw [hji4] at A3)
 have hji4_:(if (wrap64 (21600 - t296))<t296 then (wrap64 (21600 - t296)) else t296)=ji4:=hji4
 obtain rfl:=Option.some.inj H
 go_enter Tryz.func29,Tryz.ntmps29
 go_wp2_with (first|((with_reducible refine gate_callee (f:=82) rfl ?_);refine goesL_ (some 9) rfl rfl Tryz.func82 (by kernel_rfl) rfl #[.int .i64 (wrap64 (a0 - a1))] rfl y1_ ?_;(with_reducible refine (tr_Less.calls (wrap64 (a0 - a1)) t296 _ A3.out).mono ?_);rintro e w' ⟨rfl,⟨nd,rfl⟩⟩;refine ⟨_,rfl,?_⟩))
 go_ret
 exact ⟨by first|rfl|(simp [errW_none,errW_some] <;> rfl)|(simp only [← hji4];first|rfl|(simp [errW_none,errW_some] <;> rfl))|(simp [*,errW_none,errW_some] <;> rfl),y0_⟩
end Go.Proofs.YtjahbgldccjbfaaGreatDoor.PSky
end
section
namespace Go.Proofs.YtjahbgldccjbfaaGreatDoor.PSky
open Go.RowKit Go.Proofs.YtjahbgldccjbfaaGreatDoorW.PrintWords Go.Proofs.YtjahbgldccjbfaaGreatDoorW.PrintLast Go.Proofs.YtjahbgldccjbfaaGreatDoorW.PrintMore
attribute [local go_sem] max2_int min2_int max_two min_two max_three min_three max_four min_four
set_option linter.unusedVariables false
set_option linter.unusedSimpArgs false
def tr_Body.f (l0_0:List (S74)) (a0_1:Int) (a0_2:Int) (a0_3:Int) (a1:Int):Option (Bool):=(tr_in.f a1 0 (wrap64 ((l0_0.length:Int) - 1))).bind fun t292=>(some t292)
set_option maxHeartbeats 8000000 in
set_option maxRecDepth 100000 in
theorem tr_Body.calls (A0_0:Option Addr) (c0_0:Nat) (l0_0:List (S74)) (a0_1:Int) (a0_2:Int) (a0_3:Int) (a1:Int) (r:Bool) (w:World) (hr0_0:Kd.C k74 w A0_0 l0_0.length l0_0) (hc0_0:l0_0.length≤c0_0) (h:tr_Body.f l0_0 a0_1 a0_2 a0_3 a1=some r):
  Calls Tryz.prog 20 #[.agg #[.slice A0_0 l0_0.length c0_0,.int .i64 a0_1,.int .i64 a0_2,.int .i64 a0_3],.int .i64 a1] w fun e w'=>e=.returned (.bool r)∧Below w.heap.size w w':=by
 have hu29:=Tryz.underlying29
 have HR0_0:=A0_ hr0_0;have HC0_0:=A0_ hc0_0;clear hr0_0 hc0_0
 have HB:=A0_ (Below.refl w.heap.size w)
 have H:((tr_in.f a1 0 (wrap64 ((l0_0.length:Int) - 1))).bind fun t292=>(some t292))=some r:=h
 clear h;replace H:=Option.bind_eq_some_iff.mp H;obtain ⟨t292,A30,H⟩:=H
 replace H:(some t292)=some r:=H
 have A3:=A0_ A30;clear A30;obtain rfl:=Option.some.inj H
 go_enter Tryz.func20,Tryz.ntmps20
 go_wp2_with (first|((with_reducible refine gate_dst (N:=2) rfl ?_);refine box_event ?hg (N:=2) ?hd (cs:=#[.slice A0_0 l0_0.length c0_0,.int .i64 a0_1,.int .i64 a0_2,.int .i64 a0_3]) (t:=29) ?hr ?_;(case hd=>rfl);(case hg=>rfl);(case hr=>first|(go_simp;done)|(go_simp;rfl));intro gb291 hg w4 hbox hb;have n0_:=A0_ (below_step y0_ hb);have n1_:=A0_ (hbox);have n2_:=A0_ ((by rw [hg];exact (below_size y0_):w.heap.size≤gb291));have n3_:=A0_ ((by rw [hg];exact (below_size y0_):w.heap.size≤gb291));clear HB;have HB:=n0_;have BK291:=n1_;have GW291:=n2_;have GE291:=n3_;clear n0_ n1_ n2_ n3_;clear hb hbox hg;obtain ⟨hcz5_0,hcz5_1,hcz5_2,hcz5_3,hfz5_0,hfz5_1,hfz5_2,hfz5_3⟩:=bq4_ BK291.out)|((with_reducible refine gate_callee (f:=66) rfl ?_);refine goesL_ (some 10) rfl rfl Tryz.func66 (by kernel_rfl) rfl #[.int .i64 a1,.int .i64 0,.int .i64 (wrap64 ((l0_0.length:Int) - 1))] rfl y1_ ?_;(with_reducible refine (tr_in.calls a1 0 (wrap64 ((l0_0.length:Int) - 1)) t292 _ A3.out).mono ?_);rintro e w' ⟨rfl,⟨nd,rfl⟩⟩;refine ⟨_,rfl,?_⟩))
 go_ret
 exact ⟨y2_,(by repeat (first|(with_reducible first|exact HB.out|apply below_alloc|apply pw_below_drewN|apply below_drew1|refine below_set ?_ GE291.out)|exact HB.out))⟩
end Go.Proofs.YtjahbgldccjbfaaGreatDoor.PSky
end
section
namespace Go.Proofs.YtjahbgldccjbfaaGreatDoor.PSky
open Go.RowKit Go.Proofs.YtjahbgldccjbfaaGreatDoorW.PrintWords Go.Proofs.YtjahbgldccjbfaaGreatDoorW.PrintLast Go.Proofs.YtjahbgldccjbfaaGreatDoorW.PrintMore
attribute [local go_sem] max2_int min2_int max_two min_two max_three min_three max_four min_four
set_option linter.unusedVariables false
set_option linter.unusedSimpArgs false
def tr_passed.f (a0:Int) (a1:Int):Option (Bool):=(tr_down.f a1 21600).bind fun t324=>((tr_down.f a0 21600).bind fun t325=>(some (decide (t324 > t325))))
set_option maxHeartbeats 8000000 in
set_option maxRecDepth 100000 in
theorem tr_passed.calls (a0:Int) (a1:Int) (r:Bool) (w:World) (h:tr_passed.f a0 a1=some r):
  Calls Tryz.prog 77 #[.int .i64 a0,.int .i64 a1] w fun e w'=>e=.returned (.bool r)∧Drawn0 w w':=by
 have H:((tr_down.f a1 21600).bind fun t324=>((tr_down.f a0 21600).bind fun t325=>(some (decide (t324 > t325)))))=some r:=h
 clear h;replace H:=Option.bind_eq_some_iff.mp H;obtain ⟨t324,A30,H⟩:=H
 replace H:((tr_down.f a0 21600).bind fun t325=>(some (decide (t324 > t325))))=some r:=H
 have A3:=A0_ A30;clear A30;replace H:=Option.bind_eq_some_iff.mp H;obtain ⟨t325,A40,H⟩:=H
 replace H:(some (decide (t324 > t325)))=some r:=H
 have A4:=A0_ A40;clear A40;obtain rfl:=Option.some.inj H
 go_enter Tryz.func77,Tryz.ntmps77
 go_wp2_with (first|((with_reducible refine gate_callee (f:=129) rfl ?_);refine goesL_ (some 6) rfl rfl Tryz.func129 (by kernel_rfl) rfl #[.int .i64 a1,.int .i64 21600] rfl y1_ ?_;(with_reducible refine (tr_down.calls a1 21600 t324 _ A3.out).mono ?_);rintro e w' ⟨rfl,⟨nd,rfl⟩⟩;refine ⟨_,rfl,?_⟩)|((with_reducible refine gate_callee (f:=129) rfl ?_);refine goesL_ (some 8) rfl rfl Tryz.func129 (by kernel_rfl) rfl #[.int .i64 a0,.int .i64 21600] rfl y1_ ?_;(with_reducible refine (tr_down.calls a0 21600 t325 _ A4.out).mono ?_);rintro e w' ⟨rfl,⟨nd,rfl⟩⟩;refine ⟨_,rfl,?_⟩))
 go_ret
 exact ⟨y4_,yb_⟩
end Go.Proofs.YtjahbgldccjbfaaGreatDoor.PSky
end
section
namespace Go.Proofs.YtjahbgldccjbfaaGreatDoor.PSky
open Go.RowKit Go.Proofs.YtjahbgldccjbfaaGreatDoorW.PrintWords Go.Proofs.YtjahbgldccjbfaaGreatDoorW.PrintLast Go.Proofs.YtjahbgldccjbfaaGreatDoorW.PrintMore
attribute [local go_sem] max2_int min2_int max_two min_two max_three min_three max_four min_four
set_option linter.unusedVariables false
set_option linter.unusedSimpArgs false
def tr_mean.f (a0_0:Int) (a0_1:Int) (a0_2:Int) (l0_3:List Int) (a1:Int):Option (Int):=if a0_0=0 then (none) else (some (wrap64 (a0_2+(wrap64 (Int.tdiv (wrap64 ((wrap64 (a1*21600))*a0_1)) a0_0)))))
set_option maxHeartbeats 8000000 in
set_option maxRecDepth 100000 in
theorem tr_mean.calls (a0_0:Int) (a0_1:Int) (a0_2:Int) (A0_3:Option Addr) (c0_3:Nat) (l0_3:List Int) (a1:Int) (r:Int) (w:World) (hr0_3:Kd.C (Kd.int .i64) w A0_3 l0_3.length l0_3) (hc0_3:l0_3.length≤c0_3) (h:tr_mean.f a0_0 a0_1 a0_2 l0_3 a1=some r):
  Calls Tryz.prog 96 #[.agg #[.int .i64 a0_0,.int .i64 a0_1,.int .i64 a0_2,.slice A0_3 l0_3.length c0_3],.int .i64 a1] w fun e w'=>e=.returned (.int .i64 r)∧Below w.heap.size w w':=by
 have hu74:=Tryz.underlying74
 have HR0_3:=A0_ hr0_3;have HC0_3:=A0_ hc0_3;clear hr0_3 hc0_3
 have HB:=A0_ (Below.refl w.heap.size w)
 have H:(if a0_0=0 then (none) else (some (wrap64 (a0_2+(wrap64 (Int.tdiv (wrap64 ((wrap64 (a1*21600))*a0_1)) a0_0))))))=some r:=h
 clear h
 by_cases c3:a0_0=0
 ·rw [if_pos c3] at H;exact absurd H (by simp)
 ·rw [if_neg c3] at H
  have c3b0:(a0_0 == 0)=false:=beq_eq_false_iff_ne.mpr c3
  have c3b1:(a0_0 != 0)=true:=bne_iff_ne.mpr c3
  obtain rfl:=Option.some.inj H
  go_enter Tryz.func96,Tryz.ntmps96
  go_wp2_with (first|((with_reducible refine gate_dst (N:=2) rfl ?_);refine box_event ?hg (N:=2) ?hd (cs:=#[.int .i64 a0_0,.int .i64 a0_1,.int .i64 a0_2,.slice A0_3 l0_3.length c0_3]) (t:=74) ?hr ?_;(case hd=>rfl);(case hg=>rfl);(case hr=>first|(go_simp;done)|(go_simp;rfl));intro gb297 hg w4 hbox hb;have n0_:=A0_ (below_step y0_ hb);have n1_:=A0_ (hbox);have n2_:=A0_ ((by rw [hg];exact (below_size y0_):w.heap.size≤gb297));have n3_:=A0_ ((by rw [hg];exact (below_size y0_):w.heap.size≤gb297));clear HB;have HB:=n0_;have BK297:=n1_;have GW297:=n2_;have GE297:=n3_;clear n0_ n1_ n2_ n3_;clear hb hbox hg;obtain ⟨hcz5_0,hcz5_1,hcz5_2,hcz5_3,hfz5_0,hfz5_1,hfz5_2,hfz5_3⟩:=bq4_ BK297.out))
  repeat (go_quiet (first|((with_reducible refine gate_dst (N:=2) rfl ?_);refine box_event ?hg (N:=2) ?hd (cs:=#[.int .i64 a0_0,.int .i64 a0_1,.int .i64 a0_2,.slice A0_3 l0_3.length c0_3]) (t:=74) ?hr ?_;(case hd=>rfl);(case hg=>rfl);(case hr=>first|(go_simp;done)|(go_simp;rfl));intro gb297 hg w4 hbox hb;have n0_:=A0_ (below_step y0_ hb);have n1_:=A0_ (hbox);have n2_:=A0_ ((by rw [hg];exact (below_size y0_):w.heap.size≤gb297));have n3_:=A0_ ((by rw [hg];exact (below_size y0_):w.heap.size≤gb297));clear HB;have HB:=n0_;have BK297:=n1_;have GW297:=n2_;have GE297:=n3_;clear n0_ n1_ n2_ n3_;clear hb hbox hg;obtain ⟨hcz5_0,hcz5_1,hcz5_2,hcz5_3,hfz5_0,hfz5_1,hfz5_2,hfz5_3⟩:=bq4_ BK297.out));try go_wp2_with (first|((with_reducible refine gate_dst (N:=2) rfl ?_);refine box_event ?hg (N:=2) ?hd (cs:=#[.int .i64 a0_0,.int .i64 a0_1,.int .i64 a0_2,.slice A0_3 l0_3.length c0_3]) (t:=74) ?hr ?_;(case hd=>rfl);(case hg=>rfl);(case hr=>first|(go_simp;done)|(go_simp;rfl));intro gb297 hg w4 hbox hb;have n0_:=A0_ (below_step y0_ hb);have n1_:=A0_ (hbox);have n2_:=A0_ ((by rw [hg];exact (below_size y0_):w.heap.size≤gb297));have n3_:=A0_ ((by rw [hg];exact (below_size y0_):w.heap.size≤gb297));clear HB;have HB:=n0_;have BK297:=n1_;have GW297:=n2_;have GE297:=n3_;clear n0_ n1_ n2_ n3_;clear hb hbox hg;obtain ⟨hcz5_0,hcz5_1,hcz5_2,hcz5_3,hfz5_0,hfz5_1,hfz5_2,hfz5_3⟩:=bq4_ BK297.out)))
  go_ret
  exact ⟨y2_,(by repeat (first|(with_reducible first|exact HB.out|apply below_alloc|apply pw_below_drewN|apply below_drew1|refine below_set ?_ GE297.out)|exact HB.out))⟩
def tr_Mean.f (a0_0:Int) (a0_1:Int) (a0_2:Int) (l0_3:List Int) (a1:Int):Option (Int):=(tr_mean.f a0_0 a0_1 a0_2 l0_3 a1).bind fun t299=>((tr_Less.f t299).bind fun t300=>(some t300))
set_option maxHeartbeats 8000000 in
set_option maxRecDepth 100000 in
theorem tr_Mean.calls (a0_0:Int) (a0_1:Int) (a0_2:Int) (A0_3:Option Addr) (c0_3:Nat) (l0_3:List Int) (a1:Int) (r:Int) (w:World) (hr0_3:Kd.C (Kd.int .i64) w A0_3 l0_3.length l0_3) (hc0_3:l0_3.length≤c0_3) (h:tr_Mean.f a0_0 a0_1 a0_2 l0_3 a1=some r):
  Calls Tryz.prog 46 #[.agg #[.int .i64 a0_0,.int .i64 a0_1,.int .i64 a0_2,.slice A0_3 l0_3.length c0_3],.int .i64 a1] w fun e w'=>e=.returned (.int .i64 r)∧Below w.heap.size w w':=by
 have hu74:=Tryz.underlying74
 have HR0_3:=A0_ hr0_3;have HC0_3:=A0_ hc0_3;clear hr0_3 hc0_3
 have HB:=A0_ (Below.refl w.heap.size w)
 have H:((tr_mean.f a0_0 a0_1 a0_2 l0_3 a1).bind fun t299=>((tr_Less.f t299).bind fun t300=>(some t300)))=some r:=h
 clear h;replace H:=Option.bind_eq_some_iff.mp H;obtain ⟨t299,A30,H⟩:=H
 replace H:((tr_Less.f t299).bind fun t300=>(some t300))=some r:=H
 have A3:=A0_ A30;clear A30;replace H:=Option.bind_eq_some_iff.mp H;obtain ⟨t300,A40,H⟩:=H
 replace H:(some t300)=some r:=H
 have A4:=A0_ A40;clear A40;obtain rfl:=Option.some.inj H
 go_enter Tryz.func46,Tryz.ntmps46
 go_wp2_with (first|((with_reducible refine gate_dst (N:=2) rfl ?_);refine box_event ?hg (N:=2) ?hd (cs:=#[.int .i64 a0_0,.int .i64 a0_1,.int .i64 a0_2,.slice A0_3 l0_3.length c0_3]) (t:=74) ?hr ?_;(case hd=>rfl);(case hg=>rfl);(case hr=>first|(go_simp;done)|(go_simp;rfl));intro gb298 hg w5 hbox hb;have n0_:=A0_ (below_step y0_ hb);have n1_:=A0_ (hbox);have n2_:=A0_ ((by rw [hg];exact (below_size y0_):w.heap.size≤gb298));have n3_:=A0_ ((by rw [hg];exact (below_size y0_):w.heap.size≤gb298));clear HB;have HB:=n0_;have BK298:=n1_;have GW298:=n2_;have GE298:=n3_;clear n0_ n1_ n2_ n3_;clear hb hbox hg;obtain ⟨hcz6_0,hcz6_1,hcz6_2,hcz6_3,hfz6_0,hfz6_1,hfz6_2,hfz6_3⟩:=bq4_ BK298.out)|((with_reducible refine gate_callee (f:=96) rfl ?_);refine goesL_ (some 7) rfl rfl Tryz.func96 (by kernel_rfl) rfl #[.agg #[.int .i64 a0_0,.int .i64 a0_1,.int .i64 a0_2,.slice A0_3 l0_3.length c0_3],.int .i64 a1] rfl y1_ ?_;(with_reducible refine (tr_mean.calls a0_0 a0_1 a0_2 _ _ l0_3 a1 t299 _ ?side1 ?side2 A3.out).mono ?_);(case side1=>repeat (first|exact (Kd.C_below HR0_3.out HB.out)|(with_reducible refine Kd.C_alloc ?_ _)|(with_reducible refine Kd.C_drewN ?_ _)|(with_reducible refine Kd.C_drew ?_)));(case side2=>exact HC0_3.out);rintro e w7 ⟨rfl,hb⟩;refine ⟨_,rfl,?_⟩;have n0_:=A0_ (blk_below (g:=gb298) (o:=.cells #[.int .i64 a0_0,.int .i64 a0_1,.int .i64 a0_2,.slice A0_3 l0_3.length c0_3] 74 (0,0)) (bd_ BK298.out) hb);have n1_:=A0_ (below_step (by repeat (first|(with_reducible first|exact HB.out|apply below_alloc|apply pw_below_drewN|apply below_drew1|refine below_set ?_ GE298.out)|exact HB.out)) hb);clear BK298;clear HB;have BK298:=n0_;have HB:=n1_;clear n0_ n1_;(try clear hb);(try clear hb2);(try clear hk);(try clear hi))|((with_reducible refine gate_callee (f:=82) rfl ?_);refine goesL_ (some 8) rfl rfl Tryz.func82 (by kernel_rfl) rfl #[.int .i64 t299] rfl y1_ ?_;(with_reducible refine (tr_Less.calls t299 t300 _ A4.out).mono ?_);rintro e w' ⟨rfl,⟨nd,rfl⟩⟩;refine ⟨_,rfl,?_⟩))
 go_ret
 exact ⟨y2_,(by repeat (first|(with_reducible first|exact HB.out|apply below_alloc|apply pw_below_drewN|apply below_drew1|refine below_set ?_ GE298.out)|exact HB.out))⟩
def tr_way.f (a0_0:Int) (a0_1:Int) (a0_2:Int) (l0_3:List Int) (a1:Int):Option (Int):=(tr_Mean.f a0_0 a0_1 a0_2 l0_3 a1).bind fun t302=>(if (l0_3.length:Int)=0 then (none) else (if 0≤(Int.tmod (wrap64 ((wrap64 (Int.tdiv (wrap64 (t302*(l0_3.length:Int))) 21600))+1)) (l0_3.length:Int)) then (if (Int.tmod (wrap64 ((wrap64 (Int.tdiv (wrap64 (t302*(l0_3.length:Int))) 21600))+1)) (l0_3.length:Int))<(l0_3.length:Int) then ((tr_mean.f a0_0 a0_1 a0_2 l0_3 a1).bind fun t304=>(if 0≤(wrap64 (Int.tdiv (wrap64 (t302*(l0_3.length:Int))) 21600)) then (if (wrap64 (Int.tdiv (wrap64 (t302*(l0_3.length:Int))) 21600))<(l0_3.length:Int) then ((tr_down.f (wrap64 ((wrap64 ((rd l0_3 (Int.tmod (wrap64 ((wrap64 (Int.tdiv (wrap64 (t302*(l0_3.length:Int))) 21600))+1)) (l0_3.length:Int))) - (rd l0_3 (wrap64 (Int.tdiv (wrap64 (t302*(l0_3.length:Int))) 21600)))))*(Int.tmod (wrap64 (t302*(l0_3.length:Int))) 21600))) 21600).bind fun t307=>(some (wrap64 ((wrap64 (t304+(rd l0_3 (wrap64 (Int.tdiv (wrap64 (t302*(l0_3.length:Int))) 21600)))))+t307)))) else (none)) else (none))) else (none)) else (none)))
def tr_way.T1:Bool × List (List Nat × List Nat):=(true,[([],[]),([],[]),([0,1],[0,1]),([],[]),([3],[3]),([4],[4]),([2,5],[2,5]),([6,2,0,1,2,3,4,5,6],[6])])
def tr_way.B1:List Nat:=[0,0,3,0,8,24,63,127]
theorem tr_way.tab1:rtab .any (opsOf Tryz.f97 1)=tr_way.T1:=by kernel_rfl
theorem tr_way.bits1:waitsOk tr_way.T1.2 tr_way.B1=true:=by kernel_rfl
def tr_way.T3:Bool × List (List Nat × List Nat):=(true,[([],[]),([0],[0]),([],[]),([2],[2]),([],[]),([4],[4]),([5],[5]),([3,6],[3,6]),([1,7],[1,7]),([8],[8]),([9,0,1,2,3,4,5,6,7,8,9],[9])])
def tr_way.B3:List Nat:=[0,1,0,4,0,16,48,124,255,511,1023]
theorem tr_way.tab3:rtab .any (opsOf Tryz.f97 3)=tr_way.T3:=by kernel_rfl
theorem tr_way.bits3:waitsOk tr_way.T3.2 tr_way.B3=true:=by kernel_rfl
def tr_way.T4:Bool × List (List Nat × List Nat):=(true,[([],[]),([],[]),([0,1],[0,1]),([],[]),([3],[3]),([],[]),([4,5],[4,5]),([6],[6]),([2,7],[2,7]),([],[]),([],[]),([10],[10]),([],[]),([11,12],[11,12]),([13],[13]),([9,14],[9,14]),([],[]),([16],[16]),([15,17],[15,17]),([18,2],[18]),([8,19],[8,19]),([20,19,0,1,2,3,4,5,6,7,8,9,10,11,12,13,14,15,16,17,18,19,20],[20])])
def tr_way.B4:List Nat:=[0,0,3,0,8,0,56,120,255,0,0,1024,0,7168,15360,32256,0,65536,261632,523783,1048575,2097151]
theorem tr_way.tab4:rtab .any (opsOf Tryz.f97 4)=tr_way.T4:=by kernel_rfl
theorem tr_way.bits4:waitsOk tr_way.T4.2 tr_way.B4=true:=by kernel_rfl
set_option maxHeartbeats 8000000 in
set_option maxRecDepth 100000 in
theorem tr_way.calls (a0_0:Int) (a0_1:Int) (a0_2:Int) (A0_3:Option Addr) (c0_3:Nat) (l0_3:List Int) (a1:Int) (r:Int) (w:World) (hr0_3:Kd.C (Kd.int .i64) w A0_3 l0_3.length l0_3) (hc0_3:l0_3.length≤c0_3) (h:tr_way.f a0_0 a0_1 a0_2 l0_3 a1=some r):
  Calls Tryz.prog 97 #[.agg #[.int .i64 a0_0,.int .i64 a0_1,.int .i64 a0_2,.slice A0_3 l0_3.length c0_3],.int .i64 a1] w fun e w'=>e=.returned (.int .i64 r)∧Below w.heap.size w w':=by
 have hu74:=Tryz.underlying74
 have HR0_3:=A0_ hr0_3;have HC0_3:=A0_ hc0_3;clear hr0_3 hc0_3
 have HB:=A0_ (Below.refl w.heap.size w)
 have H:((tr_Mean.f a0_0 a0_1 a0_2 l0_3 a1).bind fun t302=>(if (l0_3.length:Int)=0 then (none) else (if 0≤(Int.tmod (wrap64 ((wrap64 (Int.tdiv (wrap64 (t302*(l0_3.length:Int))) 21600))+1)) (l0_3.length:Int)) then (if (Int.tmod (wrap64 ((wrap64 (Int.tdiv (wrap64 (t302*(l0_3.length:Int))) 21600))+1)) (l0_3.length:Int))<(l0_3.length:Int) then ((tr_mean.f a0_0 a0_1 a0_2 l0_3 a1).bind fun t304=>(if 0≤(wrap64 (Int.tdiv (wrap64 (t302*(l0_3.length:Int))) 21600)) then (if (wrap64 (Int.tdiv (wrap64 (t302*(l0_3.length:Int))) 21600))<(l0_3.length:Int) then ((tr_down.f (wrap64 ((wrap64 ((rd l0_3 (Int.tmod (wrap64 ((wrap64 (Int.tdiv (wrap64 (t302*(l0_3.length:Int))) 21600))+1)) (l0_3.length:Int))) - (rd l0_3 (wrap64 (Int.tdiv (wrap64 (t302*(l0_3.length:Int))) 21600)))))*(Int.tmod (wrap64 (t302*(l0_3.length:Int))) 21600))) 21600).bind fun t307=>(some (wrap64 ((wrap64 (t304+(rd l0_3 (wrap64 (Int.tdiv (wrap64 (t302*(l0_3.length:Int))) 21600)))))+t307)))) else (none)) else (none))) else (none)) else (none))))=some r:=h
 clear h;replace H:=Option.bind_eq_some_iff.mp H;obtain ⟨t302,A30,H⟩:=H
 replace H:(if (l0_3.length:Int)=0 then (none) else (if 0≤(Int.tmod (wrap64 ((wrap64 (Int.tdiv (wrap64 (t302*(l0_3.length:Int))) 21600))+1)) (l0_3.length:Int)) then (if (Int.tmod (wrap64 ((wrap64 (Int.tdiv (wrap64 (t302*(l0_3.length:Int))) 21600))+1)) (l0_3.length:Int))<(l0_3.length:Int) then ((tr_mean.f a0_0 a0_1 a0_2 l0_3 a1).bind fun t304=>(if 0≤(wrap64 (Int.tdiv (wrap64 (t302*(l0_3.length:Int))) 21600)) then (if (wrap64 (Int.tdiv (wrap64 (t302*(l0_3.length:Int))) 21600))<(l0_3.length:Int) then ((tr_down.f (wrap64 ((wrap64 ((rd l0_3 (Int.tmod (wrap64 ((wrap64 (Int.tdiv (wrap64 (t302*(l0_3.length:Int))) 21600))+1)) (l0_3.length:Int))) - (rd l0_3 (wrap64 (Int.tdiv (wrap64 (t302*(l0_3.length:Int))) 21600)))))*(Int.tmod (wrap64 (t302*(l0_3.length:Int))) 21600))) 21600).bind fun t307=>(some (wrap64 ((wrap64 (t304+(rd l0_3 (wrap64 (Int.tdiv (wrap64 (t302*(l0_3.length:Int))) 21600)))))+t307)))) else (none)) else (none))) else (none)) else (none)))=some r:=H
 have A3:=A0_ A30;clear A30
 by_cases c4:(l0_3.length:Int)=0
 ·rw [if_pos c4] at H;exact absurd H (by simp)
 ·rw [if_neg c4] at H
  have c4b0:((l0_3.length:Int) == 0)=false:=beq_eq_false_iff_ne.mpr c4
  have c4b1:((l0_3.length:Int) != 0)=true:=bne_iff_ne.mpr c4
  have c4b2:¬ (l0_3=[]):=fun h_=>c4 (by rw [h_];rfl)
  obtain ⟨ji5,hji5⟩:∃ j_:Int,(Int.tmod (wrap64 ((wrap64 (Int.tdiv (wrap64 (t302*(l0_3.length:Int))) 21600))+1)) (l0_3.length:Int))=j_:=⟨_,rfl⟩
  replace H:(if 0≤(ji5) then (if (ji5)<(l0_3.length:Int) then ((tr_mean.f a0_0 a0_1 a0_2 l0_3 a1).bind fun t304=>(if 0≤(wrap64 (Int.tdiv (wrap64 (t302*(l0_3.length:Int))) 21600)) then (if (wrap64 (Int.tdiv (wrap64 (t302*(l0_3.length:Int))) 21600))<(l0_3.length:Int) then ((tr_down.f (wrap64 ((wrap64 ((rd l0_3 (ji5)) - (rd l0_3 (wrap64 (Int.tdiv (wrap64 (t302*(l0_3.length:Int))) 21600)))))*(Int.tmod (wrap64 (t302*(l0_3.length:Int))) 21600))) 21600).bind fun t307=>(some (wrap64 ((wrap64 (t304+(rd l0_3 (wrap64 (Int.tdiv (wrap64 (t302*(l0_3.length:Int))) 21600)))))+t307)))) else (none)) else (none))) else (none)) else (none))=some r:=by first|(rw [hji5] at H;exact H)|(simp only [hji5] at H ⊢;exact H)
  (try rw [hji5] at A3)
  by_cases c6:0≤(ji5)
  ·rw [if_pos c6] at H;have c6b0:decide (0≤(ji5))=true:=decide_eq_true c6;clear c6
   by_cases c7:(ji5)<(l0_3.length:Int)
   ·rw [if_pos c7] at H;have c7b0:decide ((ji5)<(l0_3.length:Int))=true:=decide_eq_true c7;clear c7;replace H:=Option.bind_eq_some_iff.mp H;obtain ⟨t304,A80,H⟩:=H
    replace H:(if 0≤(wrap64 (Int.tdiv (wrap64 (t302*(l0_3.length:Int))) 21600)) then (if (wrap64 (Int.tdiv (wrap64 (t302*(l0_3.length:Int))) 21600))<(l0_3.length:Int) then ((tr_down.f (wrap64 ((wrap64 ((rd l0_3 (ji5)) - (rd l0_3 (wrap64 (Int.tdiv (wrap64 (t302*(l0_3.length:Int))) 21600)))))*(Int.tmod (wrap64 (t302*(l0_3.length:Int))) 21600))) 21600).bind fun t307=>(some (wrap64 ((wrap64 (t304+(rd l0_3 (wrap64 (Int.tdiv (wrap64 (t302*(l0_3.length:Int))) 21600)))))+t307)))) else (none)) else (none))=some r:=H
    have A8:=A0_ A80;clear A80
    obtain ⟨ji9,hji9⟩:∃ j_:Int,(wrap64 (Int.tdiv (wrap64 (t302*(l0_3.length:Int))) 21600))=j_:=⟨_,rfl⟩
    replace H:(if 0≤(ji9) then (if (ji9)<(l0_3.length:Int) then ((tr_down.f (wrap64 ((wrap64 ((rd l0_3 (ji5)) - (rd l0_3 (ji9))))*(Int.tmod (wrap64 (t302*(l0_3.length:Int))) 21600))) 21600).bind fun t307=>(some (wrap64 ((wrap64 (t304+(rd l0_3 (ji9))))+t307)))) else (none)) else (none))=some r:=by first|(rw [hji9] at H;exact H)|(simp only [hji9] at H ⊢;exact H)
    (try rw [hji9] at hji5)
    (try rw [hji9] at A3)
    (try rw [hji9] at A8)
    have hji9w:(IntKind.i64.wrap (Int.tdiv (wrap64 (t302*(l0_3.length:Int))) 21600))=ji9:=(i64_w _).trans hji9
    by_cases c10:0≤(ji9)
    ·rw [if_pos c10] at H;have c10b0:decide (0≤(ji9))=true:=decide_eq_true c10;clear c10
     by_cases c11:(ji9)<(l0_3.length:Int)
     ·rw [if_pos c11] at H;have c11b0:decide ((ji9)<(l0_3.length:Int))=true:=decide_eq_true c11;clear c11;replace H:=Option.bind_eq_some_iff.mp H;obtain ⟨t307,A120,H⟩:=H
      replace H:(some (wrap64 ((wrap64 (t304+(rd l0_3 (ji9))))+t307)))=some r:=H
      have A12:=A0_ A120;clear A120;obtain rfl:=Option.some.inj H
      go_enter Tryz.func97,Tryz.ntmps97
      try go_wp2_with (first|((with_reducible refine gate_dst (N:=2) rfl ?_);refine box_event ?hg (N:=2) ?hd (cs:=#[.int .i64 a0_0,.int .i64 a0_1,.int .i64 a0_2,.slice A0_3 l0_3.length c0_3]) (t:=74) ?hr ?_;(case hd=>rfl);(case hg=>rfl);(case hr=>first|(go_simp;done)|(go_simp;rfl));intro gb301 hg w13 hbox hb;have n0_:=A0_ (below_step y0_ hb);have n1_:=A0_ (hbox);have n2_:=A0_ ((by rw [hg];exact (below_size y0_):w.heap.size≤gb301));have n3_:=A0_ ((by rw [hg];exact (below_size y0_):w.heap.size≤gb301));clear HB;have HB:=n0_;have BK301:=n1_;have GW301:=n2_;have GE301:=n3_;clear n0_ n1_ n2_ n3_;clear hb hbox hg))
      have n0_:=A0_ (blk_drew BK301.out);have n1_:=A0_ (below_drew1 HB.out);clear BK301;clear HB;have BK301:=n0_;have HB:=n1_;clear n0_ n1_
      refine start_ (n:=8) (S:=fun w'=>w'.cell? ⟨gb301,0,none⟩=some (.int .i64 a0_0)∧w'.cell? ⟨gb301,1,none⟩=some (.int .i64 a0_1)∧w'.cell? ⟨gb301,2,none⟩=some (.int .i64 a0_2)∧w'.cell? ⟨gb301,3,none⟩=some (.slice A0_3 l0_3.length c0_3)) (ds:=[]) #[false,false,false,false,false,false,false,false] (by kernel_rfl) rfl rfl ⟨(blk_cell BK301.out 0).trans rfl,(blk_cell BK301.out 1).trans rfl,(blk_cell BK301.out 2).trans rfl,(blk_cell BK301.out 3).trans rfl⟩ (fun hHeld=>?_);refine with_tabW tr_way.tab1 tr_way.bits1 (fun HT_ HW_=>?_)
      generalize w13.drew=w14 at BK301 HB hHeld ⊢
      refine pu_ (i:=1) (N:=some 9) ?_;refine pu_ (i:=3) (N:=some 11) ?_;refine ta_ (i:=0) (N:=some 8) ?_;refine ta_ (i:=4) (N:=some 12) ?_;refine pu_ (i:=5) (N:=some 13) ?_
      refine one_ (i:=2) (N:=some 10) #[true,true,true,true,true,true,false,false] rfl rfl (one_of HT_.out (by kernel_rfl)) (by decide) (fun K hK=>?_)
      refine goes_ Tryz.func46 (by kernel_rfl) rfl #[.agg #[.int .i64 a0_0,.int .i64 a0_1,.int .i64 a0_2,.slice A0_3 l0_3.length c0_3],.int .i64 a1] (by rfl) rfl rfl y1_ ?_
      with_reducible refine (tr_Mean.calls a0_0 a0_1 a0_2 _ _ l0_3 a1 t302 _ ?side1 ?side2 A3.out).mono ?_
      (case side1=>repeat (first|exact (Kd.C_below HR0_3.out HB.out)|(with_reducible refine Kd.C_alloc ?_ _)|(with_reducible refine Kd.C_drewN ?_ _)|(with_reducible refine Kd.C_drew ?_)))
      (case side2=>exact HC0_3.out)
      rintro e w15 ⟨rfl,hb⟩
      refine ⟨_,rfl,?_⟩
      have n0_:=A0_ (blk_below (g:=gb301) (o:=.cells #[.int .i64 a0_0,.int .i64 a0_1,.int .i64 a0_2,.slice A0_3 l0_3.length c0_3] 74 (0,0)) (bd_ BK301.out) hb)
      have n1_:=A0_ (below_step (by repeat (first|(with_reducible first|exact HB.out|apply below_alloc|apply pw_below_drewN|apply below_drew1|refine below_set ?_ GE301.out)|exact HB.out)) hb)
      clear BK301;clear HB;have BK301:=n0_;have HB:=n1_;clear n0_ n1_;(try clear hb);(try clear hb2);(try clear hk);(try clear hi)
      refine hK.out _ _ ⟨(blk_cell BK301.out 0).trans rfl,(blk_cell BK301.out 1).trans rfl,(blk_cell BK301.out 2).trans rfl,(blk_cell BK301.out 3).trans rfl⟩ (fun hHeld=>?_)
      clear hK K
      refine norm_ (a':=?_) ?_ ?_
      rotate_left
      ·show Act.put _ (some 10) _=_
       simp only [Act.put,List.setIfInBounds_toArray,List.set_cons_zero,List.set_cons_succ,i64_w,i32_w]
       rfl
      refine pu_ (i:=6) (N:=some 14) ?_;refine pu_ (i:=7) (N:=some 5) ?_
      refine done_ (done_of HT_.out (by kernel_rfl)) ?_
      try go_wp2
      have n0_:=A0_ (blk_drew BK301.out);have n1_:=A0_ (below_drew1 HB.out);clear BK301;clear HB;have BK301:=n0_;have HB:=n1_;clear n0_ n1_
      have p303:0≤((ji5):Int):=of_decide_eq_true y5_
      have q303:(ji5)<(l0_3.length:Int):=of_decide_eq_true y5_
      obtain ⟨ad303,e303,hx303_0⟩:=Kd.at_int HR0_3.out (ji5) p303 q303
      have hw303_0:=hx303_0
      cases e303
      replace hx303_0:=(HB.out.cell (World.block_lt_of_cell? w _ hx303_0)).trans hx303_0
      replace p303:=eq_true p303
      replace q303:=eq_true q303
      refine start_ (n:=11) (S:=fun w'=>w'.cell? ⟨gb301,0,none⟩=some (.int .i64 a0_0)∧w'.cell? ⟨gb301,1,none⟩=some (.int .i64 a0_1)∧w'.cell? ⟨gb301,2,none⟩=some (.int .i64 a0_2)∧w'.cell? ⟨gb301,3,none⟩=some (.slice (some ad303) l0_3.length c0_3)∧w'.cell? (ad303.add ((ji5)).toNat)=some (.int .i64 (rd l0_3 (ji5)))) (ds:=[]) #[false,false,false,false,false,false,false,false,false,false,false] (by kernel_rfl) rfl rfl ⟨(blk_cell BK301.out 0).trans rfl,(blk_cell BK301.out 1).trans rfl,(blk_cell BK301.out 2).trans rfl,(blk_cell BK301.out 3).trans rfl,((HB.out.cell (World.block_lt_of_cell? w _ hw303_0)).trans hw303_0)⟩ (fun hHeld=>?_);refine with_tabW tr_way.tab3 tr_way.bits3 (fun HT_ HW_=>?_)
      generalize w15.drew=w16 at BK301 HB hx303_0 hHeld ⊢
      refine pu_ (i:=0) (N:=some 17) ?_;refine pu_ (i:=2) (N:=some 19) ?_;refine pu_ (i:=3) (N:=some 20) ?_;refine pu_ (i:=4) (N:=some 21) ?_;refine ta_ (i:=1) (N:=some 18) ?_;refine ta_ (i:=5) (N:=some 22) ?_;refine pu_ (i:=6) (N:=some 23) ?_;refine pu_ (i:=7) (N:=some 24) ?_;refine pu_ (i:=8) (N:=some 25) ?_;refine ta_ (i:=9) (N:=some 26) ?_;refine pu_ (i:=10) (N:=some 7) ?_
      refine done_ (done_of HT_.out (by kernel_rfl)) ?_
      try go_wp2
      have n0_:=A0_ (blk_drew BK301.out);have n1_:=A0_ (below_drew1 HB.out);clear BK301;clear HB;have BK301:=n0_;have HB:=n1_;clear n0_ n1_
      have p305:0≤((ji9):Int):=of_decide_eq_true y5_
      have q305:(ji9)<(l0_3.length:Int):=of_decide_eq_true y5_
      obtain ⟨ad305,e305,hx305_0⟩:=Kd.at_int HR0_3.out (ji9) p305 q305
      have hw305_0:=hx305_0
      obtain rfl:ad303=ad305:=(by injection e305)
      replace hx305_0:=(HB.out.cell (World.block_lt_of_cell? w _ hx305_0)).trans hx305_0
      replace p305:=eq_true p305
      replace q305:=eq_true q305
      have p306:0≤((ji9):Int):=of_decide_eq_true y5_
      have q306:(ji9)<(l0_3.length:Int):=of_decide_eq_true y5_
      obtain ⟨ad306,e306,hx306_0⟩:=Kd.at_int HR0_3.out (ji9) p306 q306
      have hw306_0:=hx306_0
      obtain rfl:ad303=ad306:=(by injection e306)
      replace hx306_0:=(HB.out.cell (World.block_lt_of_cell? w _ hx306_0)).trans hx306_0
      replace p306:=eq_true p306
      replace q306:=eq_true q306
      refine start_ (n:=22) (S:=fun w'=>w'.cell? ⟨gb301,0,none⟩=some (.int .i64 a0_0)∧w'.cell? ⟨gb301,1,none⟩=some (.int .i64 a0_1)∧w'.cell? ⟨gb301,2,none⟩=some (.int .i64 a0_2)∧w'.cell? ⟨gb301,3,none⟩=some (.slice (some ad303) l0_3.length c0_3)∧w'.cell? (ad303.add ((ji9)).toNat)=some (.int .i64 (rd l0_3 (ji9)))∧w'.cell? (ad303.add ((ji9)).toNat)=some (.int .i64 (rd l0_3 (ji9)))) (ds:=[]) #[false,false,false,false,false,false,false,false,false,false,false,false,false,false,false,false,false,false,false,false,false,false] (by kernel_rfl) rfl rfl ⟨(blk_cell BK301.out 0).trans rfl,(blk_cell BK301.out 1).trans rfl,(blk_cell BK301.out 2).trans rfl,(blk_cell BK301.out 3).trans rfl,((HB.out.cell (World.block_lt_of_cell? w _ hw305_0)).trans hw305_0),((HB.out.cell (World.block_lt_of_cell? w _ hw306_0)).trans hw306_0)⟩ (fun hHeld=>?_);refine with_tabW tr_way.tab4 tr_way.bits4 (fun HT_ HW_=>?_)
      generalize w16.drew=w17 at BK301 HB hx305_0 hx306_0 hHeld ⊢
      refine pu_ (i:=1) (N:=some 28) ?_;refine pu_ (i:=3) (N:=some 30) ?_;refine pu_ (i:=5) (N:=some 32) ?_;refine pu_ (i:=9) (N:=some 36) ?_;refine pu_ (i:=10) (N:=some 37) ?_;refine pu_ (i:=12) (N:=some 39) ?_;refine pu_ (i:=16) (N:=some 43) ?_;refine pu_ (i:=17) (N:=some 44) ?_;refine ta_ (i:=0) (N:=some 27) ?_;refine ta_ (i:=4) (N:=some 31) ?_;refine pu_ (i:=6) (N:=some 33) ?_;refine ta_ (i:=7) (N:=some 34) ?_;refine ta_ (i:=11) (N:=some 38) ?_;refine pu_ (i:=13) (N:=some 40) ?_;refine ta_ (i:=14) (N:=some 41) ?_;refine pu_ (i:=15) (N:=some 42) ?_;refine pu_ (i:=18) (N:=some 45) ?_
      refine one_ (i:=2) (N:=some 29) #[true,true,true,true,true,true,true,true,false,true,true,true,true,true,true,true,true,true,true,false,false,false] rfl rfl (one_of HT_.out (by kernel_rfl)) (by decide) (fun K hK=>?_)
      refine goes_ Tryz.func96 (by kernel_rfl) rfl #[.agg #[.int .i64 a0_0,.int .i64 a0_1,.int .i64 a0_2,.slice (some ad303) l0_3.length c0_3],.int .i64 a1] (by rfl) rfl rfl y1_ ?_
      with_reducible refine (tr_mean.calls a0_0 a0_1 a0_2 _ _ l0_3 a1 t304 _ ?side1 ?side2 A8.out).mono ?_
      (case side1=>repeat (first|exact (Kd.C_below HR0_3.out HB.out)|(with_reducible refine Kd.C_alloc ?_ _)|(with_reducible refine Kd.C_drewN ?_ _)|(with_reducible refine Kd.C_drew ?_)))
      (case side2=>exact HC0_3.out)
      rintro e w18 ⟨rfl,hb⟩
      refine ⟨_,rfl,?_⟩
      have n0_:=A0_ (blk_below (g:=gb301) (o:=.cells #[.int .i64 a0_0,.int .i64 a0_1,.int .i64 a0_2,.slice (some ad303) l0_3.length c0_3] 74 (0,0)) (bd_ BK301.out) hb)
      have n1_:=A0_ (below_step (by repeat (first|(with_reducible first|exact HB.out|apply below_alloc|apply pw_below_drewN|apply below_drew1|refine below_set ?_ GE301.out)|exact HB.out)) hb)
      clear BK301;clear HB;have BK301:=n0_;have HB:=n1_;clear n0_ n1_;(try clear hb);(try clear hb2);(try clear hk);(try clear hi)
      refine hK.out _ _ ⟨(blk_cell BK301.out 0).trans rfl,(blk_cell BK301.out 1).trans rfl,(blk_cell BK301.out 2).trans rfl,(blk_cell BK301.out 3).trans rfl,((HB.out.cell (World.block_lt_of_cell? w _ hw305_0)).trans hw305_0),((HB.out.cell (World.block_lt_of_cell? w _ hw306_0)).trans hw306_0)⟩ (fun hHeld=>?_)
      clear hK K
      refine norm_ (a':=?_) ?_ ?_
      rotate_left
      ·show Act.put _ (some 29) _=_
       simp only [Act.put,List.setIfInBounds_toArray,List.set_cons_zero,List.set_cons_succ,i64_w,i32_w]
       rfl
      refine pu_ (i:=8) (N:=some 35) ?_
      refine one_ (i:=19) (N:=some 46) #[true,true,true,true,true,true,true,true,true,true,true,true,true,true,true,true,true,true,true,true,false,false] rfl rfl (one_of HT_.out (by kernel_rfl)) (by decide) (fun K hK=>?_)
      refine goes_ Tryz.func129 (by kernel_rfl) rfl #[.int .i64 (wrap64 ((wrap64 ((rd l0_3 (ji5)) - (rd l0_3 (ji9))))*(Int.tmod (wrap64 (t302*(l0_3.length:Int))) 21600))),.int .i64 21600] (by rfl) rfl rfl (by (try simp only [List.map_toArray,List.map_cons,List.map_nil]);first|done|(simp only [hji5,hji9];rfl)|rfl|(simp only [List.length_drop,List.length_take];rfl)) ?_
      with_reducible refine (tr_down.calls (wrap64 ((wrap64 ((rd l0_3 (ji5)) - (rd l0_3 (ji9))))*(Int.tmod (wrap64 (t302*(l0_3.length:Int))) 21600))) 21600 t307 _ A12.out).mono ?_
      rintro e w' ⟨rfl,⟨nd,rfl⟩⟩
      refine ⟨_,rfl,?_⟩
      refine hK.out _ _ ⟨(blk_cell BK301.out 0).trans rfl,(blk_cell BK301.out 1).trans rfl,(blk_cell BK301.out 2).trans rfl,(blk_cell BK301.out 3).trans rfl,((HB.out.cell (World.block_lt_of_cell? w _ hw305_0)).trans hw305_0),((HB.out.cell (World.block_lt_of_cell? w _ hw306_0)).trans hw306_0)⟩ (fun hHeld=>?_)
      clear hK K
      refine norm_ (a':=?_) ?_ ?_
      rotate_left
      ·show Act.put _ (some 46) _=_
       simp only [Act.put,List.setIfInBounds_toArray,List.set_cons_zero,List.set_cons_succ,i64_w,i32_w]
       rfl
      refine pu_ (i:=20) (N:=some 47) ?_;refine pu_ (i:=21) (N:=some 4) ?_
      refine done_ (done_of HT_.out (by kernel_rfl)) ?_
      try go_wp2
      go_ret
      exact ⟨by first|rfl|(simp [errW_none,errW_some] <;> rfl)|(simp only [← hji5,← hji9];first|rfl|(simp [errW_none,errW_some] <;> rfl))|(simp [*,errW_none,errW_some] <;> rfl),(by repeat (first|(with_reducible first|exact HB.out|apply below_alloc|apply pw_below_drewN|apply below_drew1|refine below_set ?_ GE301.out)|exact HB.out))⟩
     ·rw [if_neg c11] at H;exact absurd H (by simp)
    ·rw [if_neg c10] at H;exact absurd H (by simp)
   ·rw [if_neg c7] at H;exact absurd H (by simp)
  ·rw [if_neg c6] at H;exact absurd H (by simp)
def tr_ahead.f (l0_0:List (S74)) (a0_1:Int) (a0_2:Int) (a0_3:Int) (a1:Int) (a2:Int) (a3:Int):Option (Int):=if 0≤a1 then (if a1<(l0_0.length:Int) then ((tr_way.f ((rd_T74 l0_0 a1).f0.f0) ((rd_T74 l0_0 a1).f0.f1) ((rd_T74 l0_0 a1).f1) ((rd_T74 l0_0 a1).f2) a3).bind fun t321=>(if 0≤a2 then (if a2<(l0_0.length:Int) then ((tr_way.f ((rd_T74 l0_0 a2).f0.f0) ((rd_T74 l0_0 a2).f0.f1) ((rd_T74 l0_0 a2).f1) ((rd_T74 l0_0 a2).f2) a3).bind fun t323=>(some (wrap64 (t321 - t323)))) else (none)) else (none))) else (none)) else (none)
def tr_ahead.T1:Bool × List (List Nat × List Nat):=(true,[([],[]),([0],[0]),([],[]),([1,2],[1,2]),([3],[3]),([],[]),([4,5],[4,5]),([],[]),([7],[7]),([],[]),([8,9],[8,9]),([10],[10]),([],[]),([11,12,6],[11,12]),([6,13],[6,13]),([14,13,0,1,2,3,4,5,6,7,8,9,10,11,12,13,14],[14])])
def tr_ahead.B1:List Nat:=[0,1,0,7,15,0,63,0,128,0,896,1920,0,8191,16383,32767]
theorem tr_ahead.tab1:rtab .any (opsOf Tryz.f76 1)=tr_ahead.T1:=by kernel_rfl
theorem tr_ahead.bits1:waitsOk tr_ahead.T1.2 tr_ahead.B1=true:=by kernel_rfl
set_option maxHeartbeats 8000000 in
set_option maxRecDepth 100000 in
theorem tr_ahead.calls (A0_0:Option Addr) (c0_0:Nat) (l0_0:List (S74)) (a0_1:Int) (a0_2:Int) (a0_3:Int) (a1:Int) (a2:Int) (a3:Int) (r:Int) (w:World) (hr0_0:Kd.C k74 w A0_0 l0_0.length l0_0) (hc0_0:l0_0.length≤c0_0) (h:tr_ahead.f l0_0 a0_1 a0_2 a0_3 a1 a2 a3=some r):
  Calls Tryz.prog 76 #[.agg #[.slice A0_0 l0_0.length c0_0,.int .i64 a0_1,.int .i64 a0_2,.int .i64 a0_3],.int .i64 a1,.int .i64 a2,.int .i64 a3] w fun e w'=>e=.returned (.int .i64 r)∧Below w.heap.size w w':=by
 have hu29:=Tryz.underlying29
 have hu74:=Tryz.underlying74
 have HR0_0:=A0_ hr0_0;have HC0_0:=A0_ hc0_0;clear hr0_0 hc0_0
 have HB:=A0_ (Below.refl w.heap.size w)
 have H:(if 0≤a1 then (if a1<(l0_0.length:Int) then ((tr_way.f ((rd_T74 l0_0 a1).f0.f0) ((rd_T74 l0_0 a1).f0.f1) ((rd_T74 l0_0 a1).f1) ((rd_T74 l0_0 a1).f2) a3).bind fun t321=>(if 0≤a2 then (if a2<(l0_0.length:Int) then ((tr_way.f ((rd_T74 l0_0 a2).f0.f0) ((rd_T74 l0_0 a2).f0.f1) ((rd_T74 l0_0 a2).f1) ((rd_T74 l0_0 a2).f2) a3).bind fun t323=>(some (wrap64 (t321 - t323)))) else (none)) else (none))) else (none)) else (none))=some r:=h
 clear h
 by_cases c5:0≤a1
 ·rw [if_pos c5] at H;have c5b0:decide (0≤a1)=true:=decide_eq_true c5;clear c5
  by_cases c6:a1<(l0_0.length:Int)
  ·rw [if_pos c6] at H;have c6b0:decide (a1<(l0_0.length:Int))=true:=decide_eq_true c6;clear c6;replace H:=Option.bind_eq_some_iff.mp H;obtain ⟨t321,A70,H⟩:=H
   replace H:(if 0≤a2 then (if a2<(l0_0.length:Int) then ((tr_way.f ((rd_T74 l0_0 a2).f0.f0) ((rd_T74 l0_0 a2).f0.f1) ((rd_T74 l0_0 a2).f1) ((rd_T74 l0_0 a2).f2) a3).bind fun t323=>(some (wrap64 (t321 - t323)))) else (none)) else (none))=some r:=H
   have A7:=A0_ A70;clear A70
   by_cases c8:0≤a2
   ·rw [if_pos c8] at H;have c8b0:decide (0≤a2)=true:=decide_eq_true c8;clear c8
    by_cases c9:a2<(l0_0.length:Int)
    ·rw [if_pos c9] at H;have c9b0:decide (a2<(l0_0.length:Int))=true:=decide_eq_true c9;clear c9;replace H:=Option.bind_eq_some_iff.mp H;obtain ⟨t323,A100,H⟩:=H
     replace H:(some (wrap64 (t321 - t323)))=some r:=H
     have A10:=A0_ A100;clear A100;obtain rfl:=Option.some.inj H
     go_enter Tryz.func76,Tryz.ntmps76
     try go_wp2_with (first|((with_reducible refine gate_dst (N:=4) rfl ?_);refine box_event ?hg (N:=4) ?hd (cs:=#[.slice A0_0 l0_0.length c0_0,.int .i64 a0_1,.int .i64 a0_2,.int .i64 a0_3]) (t:=29) ?hr ?_;(case hd=>rfl);(case hg=>rfl);(case hr=>first|(go_simp;done)|(go_simp;rfl));intro gb319 hg w11 hbox hb;have n0_:=A0_ (below_step y0_ hb);have n1_:=A0_ (hbox);have n2_:=A0_ ((by rw [hg];exact (below_size y0_):w.heap.size≤gb319));have n3_:=A0_ ((by rw [hg];exact (below_size y0_):w.heap.size≤gb319));clear HB;have HB:=n0_;have BK319:=n1_;have GW319:=n2_;have GE319:=n3_;clear n0_ n1_ n2_ n3_;clear hb hbox hg))
     have n0_:=A0_ (blk_drew BK319.out);have n1_:=A0_ (below_drew1 HB.out);clear BK319;clear HB;have BK319:=n0_;have HB:=n1_;clear n0_ n1_
     have p320:0≤(a1:Int):=of_decide_eq_true y5_
     have q320:a1<(l0_0.length:Int):=of_decide_eq_true y5_
     obtain ⟨ad320,A320_3,c320_3,e320,hx320_0,hx320_1,hx320_2,hx320_3,hl320_3,hi320_3⟩:=at_T74 HR0_0.out a1 p320 q320
     have hw320_3:=hx320_3;have hw320_2:=hx320_2;have hw320_1:=hx320_1;have hw320_0:=hx320_0
     cases e320
     replace hx320_0:=(HB.out.cell (World.block_lt_of_cell? w _ hx320_0)).trans hx320_0
     replace hx320_1:=(HB.out.cell (World.block_lt_of_cell? w _ hx320_1)).trans hx320_1
     replace hx320_2:=(HB.out.cell (World.block_lt_of_cell? w _ hx320_2)).trans hx320_2
     replace hx320_3:=(HB.out.cell (World.block_lt_of_cell? w _ hx320_3)).trans hx320_3
     have HR320_3:=A0_ hi320_3;have HC320_3:=A0_ hl320_3;clear hi320_3 hl320_3
     replace p320:=eq_true p320
     replace q320:=eq_true q320
     have p322:0≤(a2:Int):=of_decide_eq_true y5_
     have q322:a2<(l0_0.length:Int):=of_decide_eq_true y5_
     obtain ⟨ad322,A322_3,c322_3,e322,hx322_0,hx322_1,hx322_2,hx322_3,hl322_3,hi322_3⟩:=at_T74 HR0_0.out a2 p322 q322
     have hw322_3:=hx322_3;have hw322_2:=hx322_2;have hw322_1:=hx322_1;have hw322_0:=hx322_0
     obtain rfl:ad320=ad322:=(by injection e322)
     replace hx322_0:=(HB.out.cell (World.block_lt_of_cell? w _ hx322_0)).trans hx322_0
     replace hx322_1:=(HB.out.cell (World.block_lt_of_cell? w _ hx322_1)).trans hx322_1
     replace hx322_2:=(HB.out.cell (World.block_lt_of_cell? w _ hx322_2)).trans hx322_2
     replace hx322_3:=(HB.out.cell (World.block_lt_of_cell? w _ hx322_3)).trans hx322_3
     have HR322_3:=A0_ hi322_3;have HC322_3:=A0_ hl322_3;clear hi322_3 hl322_3
     replace p322:=eq_true p322
     replace q322:=eq_true q322
     refine start_ (n:=16) (S:=fun w'=>w'.cell? ⟨gb319,0,none⟩=some (.slice (some ad320) l0_0.length c0_0)∧w'.cell? ⟨gb319,1,none⟩=some (.int .i64 a0_1)∧w'.cell? ⟨gb319,2,none⟩=some (.int .i64 a0_2)∧w'.cell? ⟨gb319,3,none⟩=some (.int .i64 a0_3)∧w'.cell? (ad320.add ((a1).toNat*4))=some (.int .i64 ((rd_T74 l0_0 a1).f0.f0))∧w'.cell? ⟨(ad320.add ((a1).toNat*4)).block,(ad320.add ((a1).toNat*4)).off+1,none⟩=some (.int .i64 ((rd_T74 l0_0 a1).f0.f1))∧w'.cell? ⟨(ad320.add ((a1).toNat*4)).block,(ad320.add ((a1).toNat*4)).off+2,none⟩=some (.int .i64 ((rd_T74 l0_0 a1).f1))∧w'.cell? ⟨(ad320.add ((a1).toNat*4)).block,(ad320.add ((a1).toNat*4)).off+3,none⟩=some (.slice A320_3 ((rd_T74 l0_0 a1).f2).length c320_3)∧w'.cell? (ad320.add ((a2).toNat*4))=some (.int .i64 ((rd_T74 l0_0 a2).f0.f0))∧w'.cell? ⟨(ad320.add ((a2).toNat*4)).block,(ad320.add ((a2).toNat*4)).off+1,none⟩=some (.int .i64 ((rd_T74 l0_0 a2).f0.f1))∧w'.cell? ⟨(ad320.add ((a2).toNat*4)).block,(ad320.add ((a2).toNat*4)).off+2,none⟩=some (.int .i64 ((rd_T74 l0_0 a2).f1))∧w'.cell? ⟨(ad320.add ((a2).toNat*4)).block,(ad320.add ((a2).toNat*4)).off+3,none⟩=some (.slice A322_3 ((rd_T74 l0_0 a2).f2).length c322_3)) (ds:=[]) #[false,false,false,false,false,false,false,false,false,false,false,false,false,false,false,false] (by kernel_rfl) rfl rfl ⟨(blk_cell BK319.out 0).trans rfl,(blk_cell BK319.out 1).trans rfl,(blk_cell BK319.out 2).trans rfl,(blk_cell BK319.out 3).trans rfl,((HB.out.cell (World.block_lt_of_cell? w _ hw320_0)).trans hw320_0),((HB.out.cell (World.block_lt_of_cell? w _ hw320_1)).trans hw320_1),((HB.out.cell (World.block_lt_of_cell? w _ hw320_2)).trans hw320_2),((HB.out.cell (World.block_lt_of_cell? w _ hw320_3)).trans hw320_3),((HB.out.cell (World.block_lt_of_cell? w _ hw322_0)).trans hw322_0),((HB.out.cell (World.block_lt_of_cell? w _ hw322_1)).trans hw322_1),((HB.out.cell (World.block_lt_of_cell? w _ hw322_2)).trans hw322_2),((HB.out.cell (World.block_lt_of_cell? w _ hw322_3)).trans hw322_3)⟩ (fun hHeld=>?_);refine with_tabW tr_ahead.tab1 tr_ahead.bits1 (fun HT_ HW_=>?_)
     generalize w11.drew=w12 at BK319 HB HR320_3 HR322_3 hx320_0 hx320_1 hx320_2 hx320_3 hx322_0 hx322_1 hx322_2 hx322_3 hHeld ⊢
     refine pu_ (i:=0) (N:=some 9) ?_;refine pu_ (i:=2) (N:=some 11) ?_;refine pu_ (i:=5) (N:=some 14) ?_;refine pu_ (i:=7) (N:=some 16) ?_;refine pu_ (i:=9) (N:=some 18) ?_;refine pu_ (i:=12) (N:=some 21) ?_;refine ta_ (i:=1) (N:=some 10) ?_;refine pu_ (i:=3) (N:=some 12) ?_;refine ta_ (i:=4) (N:=some 13) ?_;refine ta_ (i:=8) (N:=some 17) ?_;refine pu_ (i:=10) (N:=some 19) ?_;refine ta_ (i:=11) (N:=some 20) ?_
     refine one_ (i:=6) (N:=some 15) #[true,true,true,true,true,true,true,true,true,true,true,true,true,false,false,false] rfl rfl (one_of HT_.out (by kernel_rfl)) (by decide) (fun K hK=>?_)
     refine goes_ Tryz.func97 (by kernel_rfl) rfl #[.agg #[.int .i64 ((rd_T74 l0_0 a1).f0.f0),.int .i64 ((rd_T74 l0_0 a1).f0.f1),.int .i64 ((rd_T74 l0_0 a1).f1),.slice A320_3 ((rd_T74 l0_0 a1).f2).length c320_3],.int .i64 a3] (by rfl) rfl rfl y1_ ?_
     with_reducible refine (tr_way.calls ((rd_T74 l0_0 a1).f0.f0) ((rd_T74 l0_0 a1).f0.f1) ((rd_T74 l0_0 a1).f1) _ _ ((rd_T74 l0_0 a1).f2) a3 t321 _ ?side1 ?side2 A7.out).mono ?_
     (case side1=>repeat (first|exact (Kd.C_below HR320_3.out HB.out)|(with_reducible refine Kd.C_alloc ?_ _)|(with_reducible refine Kd.C_drewN ?_ _)|(with_reducible refine Kd.C_drew ?_)))
     (case side2=>exact HC320_3.out)
     rintro e w13 ⟨rfl,hb⟩
     refine ⟨_,rfl,?_⟩
     have n0_:=A0_ (blk_below (g:=gb319) (o:=.cells #[.slice (some ad320) l0_0.length c0_0,.int .i64 a0_1,.int .i64 a0_2,.int .i64 a0_3] 29 (0,0)) (bd_ BK319.out) hb)
     have n1_:=A0_ (below_step (by repeat (first|(with_reducible first|exact HB.out|apply below_alloc|apply pw_below_drewN|apply below_drew1|refine below_set ?_ GE319.out)|exact HB.out)) hb)
     clear BK319;clear HB;have BK319:=n0_;have HB:=n1_;clear n0_ n1_;(try clear hb);(try clear hb2);(try clear hk);(try clear hi)
     refine hK.out _ _ ⟨(blk_cell BK319.out 0).trans rfl,(blk_cell BK319.out 1).trans rfl,(blk_cell BK319.out 2).trans rfl,(blk_cell BK319.out 3).trans rfl,((HB.out.cell (World.block_lt_of_cell? w _ hw320_0)).trans hw320_0),((HB.out.cell (World.block_lt_of_cell? w _ hw320_1)).trans hw320_1),((HB.out.cell (World.block_lt_of_cell? w _ hw320_2)).trans hw320_2),((HB.out.cell (World.block_lt_of_cell? w _ hw320_3)).trans hw320_3),((HB.out.cell (World.block_lt_of_cell? w _ hw322_0)).trans hw322_0),((HB.out.cell (World.block_lt_of_cell? w _ hw322_1)).trans hw322_1),((HB.out.cell (World.block_lt_of_cell? w _ hw322_2)).trans hw322_2),((HB.out.cell (World.block_lt_of_cell? w _ hw322_3)).trans hw322_3)⟩ (fun hHeld=>?_)
     clear hK K
     refine norm_ (a':=?_) ?_ ?_
     rotate_left
     ·show Act.put _ (some 15) _=_
      simp only [Act.put,List.setIfInBounds_toArray,List.set_cons_zero,List.set_cons_succ,i64_w,i32_w]
      rfl
     refine one_ (i:=13) (N:=some 22) #[true,true,true,true,true,true,true,true,true,true,true,true,true,true,false,false] rfl rfl (one_of HT_.out (by kernel_rfl)) (by decide) (fun K hK=>?_)
     refine goes_ Tryz.func97 (by kernel_rfl) rfl #[.agg #[.int .i64 ((rd_T74 l0_0 a2).f0.f0),.int .i64 ((rd_T74 l0_0 a2).f0.f1),.int .i64 ((rd_T74 l0_0 a2).f1),.slice A322_3 ((rd_T74 l0_0 a2).f2).length c322_3],.int .i64 a3] (by rfl) rfl rfl y1_ ?_
     with_reducible refine (tr_way.calls ((rd_T74 l0_0 a2).f0.f0) ((rd_T74 l0_0 a2).f0.f1) ((rd_T74 l0_0 a2).f1) _ _ ((rd_T74 l0_0 a2).f2) a3 t323 _ ?side1 ?side2 A10.out).mono ?_
     (case side1=>repeat (first|exact (Kd.C_below HR322_3.out HB.out)|(with_reducible refine Kd.C_alloc ?_ _)|(with_reducible refine Kd.C_drewN ?_ _)|(with_reducible refine Kd.C_drew ?_)))
     (case side2=>exact HC322_3.out)
     rintro e w14 ⟨rfl,hb⟩
     refine ⟨_,rfl,?_⟩
     have n0_:=A0_ (blk_below (g:=gb319) (o:=.cells #[.slice (some ad320) l0_0.length c0_0,.int .i64 a0_1,.int .i64 a0_2,.int .i64 a0_3] 29 (0,0)) (bd_ BK319.out) hb)
     have n1_:=A0_ (below_step (by repeat (first|(with_reducible first|exact HB.out|apply below_alloc|apply pw_below_drewN|apply below_drew1|refine below_set ?_ GE319.out)|exact HB.out)) hb)
     clear BK319;clear HB;have BK319:=n0_;have HB:=n1_;clear n0_ n1_;(try clear hb);(try clear hb2);(try clear hk);(try clear hi)
     refine hK.out _ _ ⟨(blk_cell BK319.out 0).trans rfl,(blk_cell BK319.out 1).trans rfl,(blk_cell BK319.out 2).trans rfl,(blk_cell BK319.out 3).trans rfl,((HB.out.cell (World.block_lt_of_cell? w _ hw320_0)).trans hw320_0),((HB.out.cell (World.block_lt_of_cell? w _ hw320_1)).trans hw320_1),((HB.out.cell (World.block_lt_of_cell? w _ hw320_2)).trans hw320_2),((HB.out.cell (World.block_lt_of_cell? w _ hw320_3)).trans hw320_3),((HB.out.cell (World.block_lt_of_cell? w _ hw322_0)).trans hw322_0),((HB.out.cell (World.block_lt_of_cell? w _ hw322_1)).trans hw322_1),((HB.out.cell (World.block_lt_of_cell? w _ hw322_2)).trans hw322_2),((HB.out.cell (World.block_lt_of_cell? w _ hw322_3)).trans hw322_3)⟩ (fun hHeld=>?_)
     clear hK K
     refine norm_ (a':=?_) ?_ ?_
     rotate_left
     ·show Act.put _ (some 22) _=_
      simp only [Act.put,List.setIfInBounds_toArray,List.set_cons_zero,List.set_cons_succ,i64_w,i32_w]
      rfl
     refine pu_ (i:=14) (N:=some 23) ?_;refine pu_ (i:=15) (N:=some 8) ?_
     refine done_ (done_of HT_.out (by kernel_rfl)) ?_
     try go_wp2
     go_ret
     exact ⟨y2_,(by repeat (first|(with_reducible first|exact HB.out|apply below_alloc|apply pw_below_drewN|apply below_drew1|refine below_set ?_ GE319.out)|exact HB.out))⟩
    ·rw [if_neg c9] at H;exact absurd H (by simp)
   ·rw [if_neg c8] at H;exact absurd H (by simp)
  ·rw [if_neg c6] at H;exact absurd H (by simp)
 ·rw [if_neg c5] at H;exact absurd H (by simp)
end Go.Proofs.YtjahbgldccjbfaaGreatDoor.PSky
end
section
namespace Go.Proofs.YtjahbgldccjbfaaGreatDoor.PSky
open Go.RowKit Go.Proofs.YtjahbgldccjbfaaGreatDoorW.PrintWords Go.Proofs.YtjahbgldccjbfaaGreatDoorW.PrintLast Go.Proofs.YtjahbgldccjbfaaGreatDoorW.PrintMore
attribute [local go_sem] max2_int min2_int max_two min_two max_three min_three max_four min_four
set_option linter.unusedVariables false
set_option linter.unusedSimpArgs false
def tr_Place.f (a0_0:Int) (a0_1:Int) (a0_2:Int) (l0_3:List Int) (a1:Int):Option (Int):=(tr_way.f a0_0 a0_1 a0_2 l0_3 a1).bind fun t309=>((tr_Less.f t309).bind fun t310=>(some t310))
set_option maxHeartbeats 8000000 in
set_option maxRecDepth 100000 in
theorem tr_Place.calls (a0_0:Int) (a0_1:Int) (a0_2:Int) (A0_3:Option Addr) (c0_3:Nat) (l0_3:List Int) (a1:Int) (r:Int) (w:World) (hr0_3:Kd.C (Kd.int .i64) w A0_3 l0_3.length l0_3) (hc0_3:l0_3.length≤c0_3) (h:tr_Place.f a0_0 a0_1 a0_2 l0_3 a1=some r):
  Calls Tryz.prog 47 #[.agg #[.int .i64 a0_0,.int .i64 a0_1,.int .i64 a0_2,.slice A0_3 l0_3.length c0_3],.int .i64 a1] w fun e w'=>e=.returned (.int .i64 r)∧Below w.heap.size w w':=by
 have hu74:=Tryz.underlying74
 have HR0_3:=A0_ hr0_3;have HC0_3:=A0_ hc0_3;clear hr0_3 hc0_3
 have HB:=A0_ (Below.refl w.heap.size w)
 have H:((tr_way.f a0_0 a0_1 a0_2 l0_3 a1).bind fun t309=>((tr_Less.f t309).bind fun t310=>(some t310)))=some r:=h
 clear h;replace H:=Option.bind_eq_some_iff.mp H;obtain ⟨t309,A30,H⟩:=H
 replace H:((tr_Less.f t309).bind fun t310=>(some t310))=some r:=H
 have A3:=A0_ A30;clear A30;replace H:=Option.bind_eq_some_iff.mp H;obtain ⟨t310,A40,H⟩:=H
 replace H:(some t310)=some r:=H
 have A4:=A0_ A40;clear A40;obtain rfl:=Option.some.inj H
 go_enter Tryz.func47,Tryz.ntmps47
 go_wp2_with (first|((with_reducible refine gate_dst (N:=2) rfl ?_);refine box_event ?hg (N:=2) ?hd (cs:=#[.int .i64 a0_0,.int .i64 a0_1,.int .i64 a0_2,.slice A0_3 l0_3.length c0_3]) (t:=74) ?hr ?_;(case hd=>rfl);(case hg=>rfl);(case hr=>first|(go_simp;done)|(go_simp;rfl));intro gb308 hg w5 hbox hb;have n0_:=A0_ (below_step y0_ hb);have n1_:=A0_ (hbox);have n2_:=A0_ ((by rw [hg];exact (below_size y0_):w.heap.size≤gb308));have n3_:=A0_ ((by rw [hg];exact (below_size y0_):w.heap.size≤gb308));clear HB;have HB:=n0_;have BK308:=n1_;have GW308:=n2_;have GE308:=n3_;clear n0_ n1_ n2_ n3_;clear hb hbox hg;obtain ⟨hcz6_0,hcz6_1,hcz6_2,hcz6_3,hfz6_0,hfz6_1,hfz6_2,hfz6_3⟩:=bq4_ BK308.out)|((with_reducible refine gate_callee (f:=97) rfl ?_);refine goesL_ (some 7) rfl rfl Tryz.func97 (by kernel_rfl) rfl #[.agg #[.int .i64 a0_0,.int .i64 a0_1,.int .i64 a0_2,.slice A0_3 l0_3.length c0_3],.int .i64 a1] rfl y1_ ?_;(with_reducible refine (tr_way.calls a0_0 a0_1 a0_2 _ _ l0_3 a1 t309 _ ?side1 ?side2 A3.out).mono ?_);(case side1=>repeat (first|exact (Kd.C_below HR0_3.out HB.out)|(with_reducible refine Kd.C_alloc ?_ _)|(with_reducible refine Kd.C_drewN ?_ _)|(with_reducible refine Kd.C_drew ?_)));(case side2=>exact HC0_3.out);rintro e w7 ⟨rfl,hb⟩;refine ⟨_,rfl,?_⟩;have n0_:=A0_ (blk_below (g:=gb308) (o:=.cells #[.int .i64 a0_0,.int .i64 a0_1,.int .i64 a0_2,.slice A0_3 l0_3.length c0_3] 74 (0,0)) (bd_ BK308.out) hb);have n1_:=A0_ (below_step (by repeat (first|(with_reducible first|exact HB.out|apply below_alloc|apply pw_below_drewN|apply below_drew1|refine below_set ?_ GE308.out)|exact HB.out)) hb);clear BK308;clear HB;have BK308:=n0_;have HB:=n1_;clear n0_ n1_;(try clear hb);(try clear hb2);(try clear hk);(try clear hi))|((with_reducible refine gate_callee (f:=82) rfl ?_);refine goesL_ (some 8) rfl rfl Tryz.func82 (by kernel_rfl) rfl #[.int .i64 t309] rfl y1_ ?_;(with_reducible refine (tr_Less.calls t309 t310 _ A4.out).mono ?_);rintro e w' ⟨rfl,⟨nd,rfl⟩⟩;refine ⟨_,rfl,?_⟩))
 go_ret
 exact ⟨y2_,(by repeat (first|(with_reducible first|exact HB.out|apply below_alloc|apply pw_below_drewN|apply below_drew1|refine below_set ?_ GE308.out)|exact HB.out))⟩
end Go.Proofs.YtjahbgldccjbfaaGreatDoor.PSky
end
section
namespace Go.Proofs.YtjahbgldccjbfaaGreatDoor.PSky
open Go.RowKit Go.Proofs.YtjahbgldccjbfaaGreatDoorW.PrintWords Go.Proofs.YtjahbgldccjbfaaGreatDoorW.PrintLast Go.Proofs.YtjahbgldccjbfaaGreatDoorW.PrintMore
attribute [local go_sem] max2_int min2_int max_two min_two max_three min_three max_four min_four
set_option linter.unusedVariables false
set_option linter.unusedSimpArgs false
def tr_Near.l0:Nat→Int→Int→Int→Int→Int→Int→List (S74)→Int→Int→Int→Option (Int × Int)
 |0,_,_,_,_,_,_,_,_,_,_=>none
 |k+1,x1,x2,x4,x12,x13,x14,x312000,x312001,x312002,x312003=>if x14≤x4 then (if 0≤x1 then (if x1<(x312000.length:Int) then ((tr_Place.f ((rd_T74 x312000 x1).f0.f0) ((rd_T74 x312000 x1).f0.f1) ((rd_T74 x312000 x1).f1) ((rd_T74 x312000 x1).f2) x14).bind fun t313=>(if 0≤x2 then (if x2<(x312000.length:Int) then ((tr_Place.f ((rd_T74 x312000 x2).f0.f0) ((rd_T74 x312000 x2).f0.f1) ((rd_T74 x312000 x2).f1) ((rd_T74 x312000 x2).f2) x14).bind fun t315=>((tr_Apart.f t313 t315).bind fun t316=>(if t316<x13 then (tr_Near.l0 k x1 x2 x4 x14 t316 (wrap64 (x14+1)) x312000 x312001 x312002 x312003) else (tr_Near.l0 k x1 x2 x4 x12 x13 (wrap64 (x14+1)) x312000 x312001 x312002 x312003)))) else (none)) else (none))) else (none)) else (none)) else (some (x12,x13))
def tr_Near.f (k:Nat) (l0_0:List (S74)) (a0_1:Int) (a0_2:Int) (a0_3:Int) (a1:Int) (a2:Int) (a3:Int) (a4:Int):Option (Int × Int):=tr_Near.l0 k a1 a2 a4 0 21600 a3 l0_0 a0_1 a0_2 a0_3
def tr_Near.T5:Bool × List (List Nat × List Nat):=(true,[([],[]),([0],[0]),([],[]),([1,2],[1,2]),([3],[3]),([],[]),([4,5],[4,5]),([],[]),([7],[7]),([],[]),([8,9],[8,9]),([10],[10]),([],[]),([11,12,6],[11,12]),([6,13,13],[6,13]),([14,14,0,1,2,3,4,5,6,7,8,9,10,11,12,13,14],[14])])
def tr_Near.B5:List Nat:=[0,1,0,7,15,0,63,0,128,0,896,1920,0,8191,16383,32767]
theorem tr_Near.tab5:rtab .any (opsOf Tryz.f22 5)=tr_Near.T5:=by kernel_rfl
theorem tr_Near.bits5:waitsOk tr_Near.T5.2 tr_Near.B5=true:=by kernel_rfl
set_option maxHeartbeats 8000000 in
set_option maxRecDepth 100000 in
theorem tr_Near.calls (k:Nat) (A0_0:Option Addr) (c0_0:Nat) (l0_0:List (S74)) (a0_1:Int) (a0_2:Int) (a0_3:Int) (a1:Int) (a2:Int) (a3:Int) (a4:Int) (r1:Int) (r2:Int) (w:World) (hr0_0:Kd.C k74 w A0_0 l0_0.length l0_0) (hc0_0:l0_0.length≤c0_0) (h:tr_Near.f k l0_0 a0_1 a0_2 a0_3 a1 a2 a3 a4=some (r1,r2)):
  Calls Tryz.prog 22 #[.agg #[.slice A0_0 l0_0.length c0_0,.int .i64 a0_1,.int .i64 a0_2,.int .i64 a0_3],.int .i64 a1,.int .i64 a2,.int .i64 a3,.int .i64 a4] w fun e w'=>e=.returned (.tuple #[.int .i64 r1,.int .i64 r2])∧Below w.heap.size w w':=by
 have hu29:=Tryz.underlying29
 have hu74:=Tryz.underlying74
 have HR0_0:=A0_ hr0_0;have HC0_0:=A0_ hc0_0;clear hr0_0 hc0_0
 have HB:=A0_ (Below.refl w.heap.size w)
 have H:(tr_Near.l0 k a1 a2 a4 0 21600 a3 l0_0 a0_1 a0_2 a0_3)=some (r1,r2):=h
 clear h
 have H':=A0_ H
 clear H
 go_enter Tryz.func22,Tryz.ntmps22
 go_wp2_with (first|((with_reducible refine gate_dst (N:=5) rfl ?_);refine box_event ?hg (N:=5) ?hd (cs:=#[.slice A0_0 l0_0.length c0_0,.int .i64 a0_1,.int .i64 a0_2,.int .i64 a0_3]) (t:=29) ?hr ?_;(case hd=>rfl);(case hg=>rfl);(case hr=>first|(go_simp;done)|(go_simp;rfl));intro gb311 hg w6 hbox hb;have n0_:=A0_ (below_step y0_ hb);have n1_:=A0_ (hbox);have n2_:=A0_ ((by rw [hg];exact (below_size y0_):w.heap.size≤gb311));have n3_:=A0_ ((by rw [hg];exact (below_size y0_):w.heap.size≤gb311));clear HB;have HB:=n0_;have BK311:=n1_;have GW311:=n2_;have GE311:=n3_;clear n0_ n1_ n2_ n3_;clear hb hbox hg))
 go_loopg [12,13,14] k (fun kq v12 v13 v14 w'=>∃ (x12_1:Int) (x13_1:Int) (x14_1:Int),v12=.int .i64 x12_1∧v13=.int .i64 x13_1∧v14=.int .i64 x14_1∧Aside0 (tr_Near.l0 kq a1 a2 a4 x12_1 x13_1 x14_1 l0_0 a0_1 a0_2 a0_3=some (r1,r2))∧Aside0 (kq≤k)∧Aside0 (w'.heap[gb311]?=some (.cells #[(.slice A0_0 l0_0.length c0_0),.int .i64 a0_1,.int .i64 a0_2,.int .i64 a0_3] 29 (0,0)))∧Aside0 (Below w.heap.size w w'))
 case atStart=>exact ⟨(0),(21600),(a3),y4_,y4_,y4_,H',⟨Nat.le_refl _⟩,⟨by (with_reducible repeat (first|refine blk_drewN ?_ _|refine blk_drew ?_|refine blk_alloc ?_ _));exact BK311.out⟩,⟨(by repeat (first|(with_reducible first|exact HB.out|apply below_alloc|apply pw_below_drewN|apply below_drew1|refine below_set ?_ GE311.out)|exact HB.out))⟩⟩
 case round=>
  clear H'
  (try clear c2);(try clear p2)
  obtain ⟨x12_1,x13_1,x14_1,rfl,rfl,rfl,HA,HK1,BK311,HB⟩:=hrel
  cases gk with
  |zero=>exact absurd HA.out (by simp [tr_Near.l0])
  |succ k1=>
   have H:=HA.out
   clear HA
   simp only [tr_Near.l0] at H
   by_cases c7:x14_1≤a4
   ·rw [if_pos c7] at H;have c7b0:decide (x14_1≤a4)=true:=decide_eq_true c7;clear c7
    by_cases c8:0≤a1
    ·rw [if_pos c8] at H;have c8b0:decide (0≤a1)=true:=decide_eq_true c8;clear c8
     by_cases c9:a1<(l0_0.length:Int)
     ·rw [if_pos c9] at H;have c9b0:decide (a1<(l0_0.length:Int))=true:=decide_eq_true c9;clear c9;replace H:=Option.bind_eq_some_iff.mp H;obtain ⟨t313,A100,H⟩:=H
      replace H:(if 0≤a2 then (if a2<(l0_0.length:Int) then ((tr_Place.f ((rd_T74 l0_0 a2).f0.f0) ((rd_T74 l0_0 a2).f0.f1) ((rd_T74 l0_0 a2).f1) ((rd_T74 l0_0 a2).f2) x14_1).bind fun t315=>((tr_Apart.f t313 t315).bind fun t316=>(if t316<x13_1 then (tr_Near.l0 k1 a1 a2 a4 x14_1 t316 (wrap64 (x14_1+1)) l0_0 a0_1 a0_2 a0_3) else (tr_Near.l0 k1 a1 a2 a4 x12_1 x13_1 (wrap64 (x14_1+1)) l0_0 a0_1 a0_2 a0_3)))) else (none)) else (none))=some (r1,r2):=H
      have A10:=A0_ A100;clear A100
      by_cases c11:0≤a2
      ·rw [if_pos c11] at H;have c11b0:decide (0≤a2)=true:=decide_eq_true c11;clear c11
       by_cases c12:a2<(l0_0.length:Int)
       ·rw [if_pos c12] at H;have c12b0:decide (a2<(l0_0.length:Int))=true:=decide_eq_true c12;clear c12;replace H:=Option.bind_eq_some_iff.mp H;obtain ⟨t315,A130,H⟩:=H
        replace H:((tr_Apart.f t313 t315).bind fun t316=>(if t316<x13_1 then (tr_Near.l0 k1 a1 a2 a4 x14_1 t316 (wrap64 (x14_1+1)) l0_0 a0_1 a0_2 a0_3) else (tr_Near.l0 k1 a1 a2 a4 x12_1 x13_1 (wrap64 (x14_1+1)) l0_0 a0_1 a0_2 a0_3)))=some (r1,r2):=H
        have A13:=A0_ A130;clear A130;replace H:=Option.bind_eq_some_iff.mp H;obtain ⟨t316,A140,H⟩:=H
        replace H:(if t316<x13_1 then (tr_Near.l0 k1 a1 a2 a4 x14_1 t316 (wrap64 (x14_1+1)) l0_0 a0_1 a0_2 a0_3) else (tr_Near.l0 k1 a1 a2 a4 x12_1 x13_1 (wrap64 (x14_1+1)) l0_0 a0_1 a0_2 a0_3))=some (r1,r2):=H
        have A14:=A0_ A140;clear A140
        by_cases c15:t316<x13_1
        ·rw [if_pos c15] at H;have c15b0:decide (t316<x13_1)=true:=decide_eq_true c15;clear c15
         have H':=A0_ H
         clear H
         try go_wp2
         have n0_:=A0_ (blk_drew BK311.out);have n1_:=A0_ (below_drew1 HB.out);clear BK311;clear HB;have BK311:=n0_;have HB:=n1_;clear n0_ n1_
         have p312:0≤(a1:Int):=of_decide_eq_true y5_
         have q312:a1<(l0_0.length:Int):=of_decide_eq_true y5_
         obtain ⟨ad312,A312_3,c312_3,e312,hx312_0,hx312_1,hx312_2,hx312_3,hl312_3,hi312_3⟩:=at_T74 HR0_0.out a1 p312 q312
         have hw312_3:=hx312_3;have hw312_2:=hx312_2;have hw312_1:=hx312_1;have hw312_0:=hx312_0
         cases e312
         replace hx312_0:=(HB.out.cell (World.block_lt_of_cell? w _ hx312_0)).trans hx312_0
         replace hx312_1:=(HB.out.cell (World.block_lt_of_cell? w _ hx312_1)).trans hx312_1
         replace hx312_2:=(HB.out.cell (World.block_lt_of_cell? w _ hx312_2)).trans hx312_2
         replace hx312_3:=(HB.out.cell (World.block_lt_of_cell? w _ hx312_3)).trans hx312_3
         have HR312_3:=A0_ hi312_3;have HC312_3:=A0_ hl312_3;clear hi312_3 hl312_3
         replace p312:=eq_true p312
         replace q312:=eq_true q312
         have p314:0≤(a2:Int):=of_decide_eq_true y5_
         have q314:a2<(l0_0.length:Int):=of_decide_eq_true y5_
         obtain ⟨ad314,A314_3,c314_3,e314,hx314_0,hx314_1,hx314_2,hx314_3,hl314_3,hi314_3⟩:=at_T74 HR0_0.out a2 p314 q314
         have hw314_3:=hx314_3;have hw314_2:=hx314_2;have hw314_1:=hx314_1;have hw314_0:=hx314_0
         obtain rfl:ad312=ad314:=(by injection e314)
         replace hx314_0:=(HB.out.cell (World.block_lt_of_cell? w _ hx314_0)).trans hx314_0
         replace hx314_1:=(HB.out.cell (World.block_lt_of_cell? w _ hx314_1)).trans hx314_1
         replace hx314_2:=(HB.out.cell (World.block_lt_of_cell? w _ hx314_2)).trans hx314_2
         replace hx314_3:=(HB.out.cell (World.block_lt_of_cell? w _ hx314_3)).trans hx314_3
         have HR314_3:=A0_ hi314_3;have HC314_3:=A0_ hl314_3;clear hi314_3 hl314_3
         replace p314:=eq_true p314
         replace q314:=eq_true q314
         refine start_ (n:=16) (S:=fun w'=>w'.cell? ⟨gb311,0,none⟩=some (.slice (some ad312) l0_0.length c0_0)∧w'.cell? ⟨gb311,1,none⟩=some (.int .i64 a0_1)∧w'.cell? ⟨gb311,2,none⟩=some (.int .i64 a0_2)∧w'.cell? ⟨gb311,3,none⟩=some (.int .i64 a0_3)∧w'.cell? (ad312.add ((a1).toNat*4))=some (.int .i64 ((rd_T74 l0_0 a1).f0.f0))∧w'.cell? ⟨(ad312.add ((a1).toNat*4)).block,(ad312.add ((a1).toNat*4)).off+1,none⟩=some (.int .i64 ((rd_T74 l0_0 a1).f0.f1))∧w'.cell? ⟨(ad312.add ((a1).toNat*4)).block,(ad312.add ((a1).toNat*4)).off+2,none⟩=some (.int .i64 ((rd_T74 l0_0 a1).f1))∧w'.cell? ⟨(ad312.add ((a1).toNat*4)).block,(ad312.add ((a1).toNat*4)).off+3,none⟩=some (.slice A312_3 ((rd_T74 l0_0 a1).f2).length c312_3)∧w'.cell? (ad312.add ((a2).toNat*4))=some (.int .i64 ((rd_T74 l0_0 a2).f0.f0))∧w'.cell? ⟨(ad312.add ((a2).toNat*4)).block,(ad312.add ((a2).toNat*4)).off+1,none⟩=some (.int .i64 ((rd_T74 l0_0 a2).f0.f1))∧w'.cell? ⟨(ad312.add ((a2).toNat*4)).block,(ad312.add ((a2).toNat*4)).off+2,none⟩=some (.int .i64 ((rd_T74 l0_0 a2).f1))∧w'.cell? ⟨(ad312.add ((a2).toNat*4)).block,(ad312.add ((a2).toNat*4)).off+3,none⟩=some (.slice A314_3 ((rd_T74 l0_0 a2).f2).length c314_3)) (ds:=[]) #[false,false,false,false,false,false,false,false,false,false,false,false,false,false,false,false] (by kernel_rfl) rfl rfl ⟨(blk_cell BK311.out 0).trans rfl,(blk_cell BK311.out 1).trans rfl,(blk_cell BK311.out 2).trans rfl,(blk_cell BK311.out 3).trans rfl,((HB.out.cell (World.block_lt_of_cell? w _ hw312_0)).trans hw312_0),((HB.out.cell (World.block_lt_of_cell? w _ hw312_1)).trans hw312_1),((HB.out.cell (World.block_lt_of_cell? w _ hw312_2)).trans hw312_2),((HB.out.cell (World.block_lt_of_cell? w _ hw312_3)).trans hw312_3),((HB.out.cell (World.block_lt_of_cell? w _ hw314_0)).trans hw314_0),((HB.out.cell (World.block_lt_of_cell? w _ hw314_1)).trans hw314_1),((HB.out.cell (World.block_lt_of_cell? w _ hw314_2)).trans hw314_2),((HB.out.cell (World.block_lt_of_cell? w _ hw314_3)).trans hw314_3)⟩ (fun hHeld=>?_);refine with_tabW tr_Near.tab5 tr_Near.bits5 (fun HT_ HW_=>?_)
         generalize wr.drew=w16 at BK311 HB HR312_3 HR314_3 hx312_0 hx312_1 hx312_2 hx312_3 hx314_0 hx314_1 hx314_2 hx314_3 hHeld ⊢
         refine pu_ (i:=0) (N:=some 22) ?_;refine pu_ (i:=2) (N:=some 24) ?_;refine pu_ (i:=5) (N:=some 27) ?_;refine pu_ (i:=7) (N:=some 29) ?_;refine pu_ (i:=9) (N:=some 31) ?_;refine pu_ (i:=12) (N:=some 34) ?_;refine ta_ (i:=1) (N:=some 23) ?_;refine pu_ (i:=3) (N:=some 25) ?_;refine ta_ (i:=4) (N:=some 26) ?_;refine ta_ (i:=8) (N:=some 30) ?_;refine pu_ (i:=10) (N:=some 32) ?_;refine ta_ (i:=11) (N:=some 33) ?_
         refine one_ (i:=6) (N:=some 28) #[true,true,true,true,true,true,true,true,true,true,true,true,true,false,false,false] rfl rfl (one_of HT_.out (by kernel_rfl)) (by decide) (fun K hK=>?_)
         refine goes_ Tryz.func47 (by kernel_rfl) rfl #[.agg #[.int .i64 ((rd_T74 l0_0 a1).f0.f0),.int .i64 ((rd_T74 l0_0 a1).f0.f1),.int .i64 ((rd_T74 l0_0 a1).f1),.slice A312_3 ((rd_T74 l0_0 a1).f2).length c312_3],.int .i64 x14_1] (by rfl) rfl rfl y1_ ?_
         with_reducible refine (tr_Place.calls ((rd_T74 l0_0 a1).f0.f0) ((rd_T74 l0_0 a1).f0.f1) ((rd_T74 l0_0 a1).f1) _ _ ((rd_T74 l0_0 a1).f2) x14_1 t313 _ ?side1 ?side2 A10.out).mono ?_
         (case side1=>repeat (first|exact (Kd.C_below HR312_3.out HB.out)|(with_reducible refine Kd.C_alloc ?_ _)|(with_reducible refine Kd.C_drewN ?_ _)|(with_reducible refine Kd.C_drew ?_)))
         (case side2=>exact HC312_3.out)
         rintro e w17 ⟨rfl,hb⟩
         refine ⟨_,rfl,?_⟩
         have n0_:=A0_ (blk_below (g:=gb311) (o:=.cells #[.slice (some ad312) l0_0.length c0_0,.int .i64 a0_1,.int .i64 a0_2,.int .i64 a0_3] 29 (0,0)) (bd_ BK311.out) hb)
         have n1_:=A0_ (below_step (by repeat (first|(with_reducible first|exact HB.out|apply below_alloc|apply pw_below_drewN|apply below_drew1|refine below_set ?_ GE311.out)|exact HB.out)) hb)
         clear BK311;clear HB;have BK311:=n0_;have HB:=n1_;clear n0_ n1_;(try clear hb);(try clear hb2);(try clear hk);(try clear hi)
         refine hK.out _ _ ⟨(blk_cell BK311.out 0).trans rfl,(blk_cell BK311.out 1).trans rfl,(blk_cell BK311.out 2).trans rfl,(blk_cell BK311.out 3).trans rfl,((HB.out.cell (World.block_lt_of_cell? w _ hw312_0)).trans hw312_0),((HB.out.cell (World.block_lt_of_cell? w _ hw312_1)).trans hw312_1),((HB.out.cell (World.block_lt_of_cell? w _ hw312_2)).trans hw312_2),((HB.out.cell (World.block_lt_of_cell? w _ hw312_3)).trans hw312_3),((HB.out.cell (World.block_lt_of_cell? w _ hw314_0)).trans hw314_0),((HB.out.cell (World.block_lt_of_cell? w _ hw314_1)).trans hw314_1),((HB.out.cell (World.block_lt_of_cell? w _ hw314_2)).trans hw314_2),((HB.out.cell (World.block_lt_of_cell? w _ hw314_3)).trans hw314_3)⟩ (fun hHeld=>?_)
         clear hK K
         refine norm_ (a':=?_) ?_ ?_
         rotate_left
         ·show Act.put _ (some 28) _=_
          simp only [Act.put,List.setIfInBounds_toArray,List.set_cons_zero,List.set_cons_succ,i64_w,i32_w]
          rfl
         refine one_ (i:=13) (N:=some 35) #[true,true,true,true,true,true,true,true,true,true,true,true,true,true,false,false] rfl rfl (one_of HT_.out (by kernel_rfl)) (by decide) (fun K hK=>?_)
         refine goes_ Tryz.func47 (by kernel_rfl) rfl #[.agg #[.int .i64 ((rd_T74 l0_0 a2).f0.f0),.int .i64 ((rd_T74 l0_0 a2).f0.f1),.int .i64 ((rd_T74 l0_0 a2).f1),.slice A314_3 ((rd_T74 l0_0 a2).f2).length c314_3],.int .i64 x14_1] (by rfl) rfl rfl y1_ ?_
         with_reducible refine (tr_Place.calls ((rd_T74 l0_0 a2).f0.f0) ((rd_T74 l0_0 a2).f0.f1) ((rd_T74 l0_0 a2).f1) _ _ ((rd_T74 l0_0 a2).f2) x14_1 t315 _ ?side1 ?side2 A13.out).mono ?_
         (case side1=>repeat (first|exact (Kd.C_below HR314_3.out HB.out)|(with_reducible refine Kd.C_alloc ?_ _)|(with_reducible refine Kd.C_drewN ?_ _)|(with_reducible refine Kd.C_drew ?_)))
         (case side2=>exact HC314_3.out)
         rintro e w18 ⟨rfl,hb⟩
         refine ⟨_,rfl,?_⟩
         have n0_:=A0_ (blk_below (g:=gb311) (o:=.cells #[.slice (some ad312) l0_0.length c0_0,.int .i64 a0_1,.int .i64 a0_2,.int .i64 a0_3] 29 (0,0)) (bd_ BK311.out) hb)
         have n1_:=A0_ (below_step (by repeat (first|(with_reducible first|exact HB.out|apply below_alloc|apply pw_below_drewN|apply below_drew1|refine below_set ?_ GE311.out)|exact HB.out)) hb)
         clear BK311;clear HB;have BK311:=n0_;have HB:=n1_;clear n0_ n1_;(try clear hb);(try clear hb2);(try clear hk);(try clear hi)
         refine hK.out _ _ ⟨(blk_cell BK311.out 0).trans rfl,(blk_cell BK311.out 1).trans rfl,(blk_cell BK311.out 2).trans rfl,(blk_cell BK311.out 3).trans rfl,((HB.out.cell (World.block_lt_of_cell? w _ hw312_0)).trans hw312_0),((HB.out.cell (World.block_lt_of_cell? w _ hw312_1)).trans hw312_1),((HB.out.cell (World.block_lt_of_cell? w _ hw312_2)).trans hw312_2),((HB.out.cell (World.block_lt_of_cell? w _ hw312_3)).trans hw312_3),((HB.out.cell (World.block_lt_of_cell? w _ hw314_0)).trans hw314_0),((HB.out.cell (World.block_lt_of_cell? w _ hw314_1)).trans hw314_1),((HB.out.cell (World.block_lt_of_cell? w _ hw314_2)).trans hw314_2),((HB.out.cell (World.block_lt_of_cell? w _ hw314_3)).trans hw314_3)⟩ (fun hHeld=>?_)
         clear hK K
         refine norm_ (a':=?_) ?_ ?_
         rotate_left
         ·show Act.put _ (some 35) _=_
          simp only [Act.put,List.setIfInBounds_toArray,List.set_cons_zero,List.set_cons_succ,i64_w,i32_w]
          rfl
         refine one_ (i:=14) (N:=some 36) #[true,true,true,true,true,true,true,true,true,true,true,true,true,true,true,false] rfl rfl (one_of HT_.out (by kernel_rfl)) (by decide) (fun K hK=>?_)
         refine goes_ Tryz.func29 (by kernel_rfl) rfl #[.int .i64 t313,.int .i64 t315] (by rfl) rfl rfl y1_ ?_
         with_reducible refine (tr_Apart.calls t313 t315 t316 _ A14.out).mono ?_
         rintro e w19 ⟨rfl,hb⟩
         refine ⟨_,rfl,?_⟩
         have n0_:=A0_ (blk_below (g:=gb311) (o:=.cells #[.slice (some ad312) l0_0.length c0_0,.int .i64 a0_1,.int .i64 a0_2,.int .i64 a0_3] 29 (0,0)) (bd_ BK311.out) hb)
         have n1_:=A0_ (below_step (by repeat (first|(with_reducible first|exact HB.out|apply below_alloc|apply pw_below_drewN|apply below_drew1|refine below_set ?_ GE311.out)|exact HB.out)) hb)
         clear BK311;clear HB;have BK311:=n0_;have HB:=n1_;clear n0_ n1_;(try clear hb);(try clear hb2);(try clear hk);(try clear hi)
         refine hK.out _ _ ⟨(blk_cell BK311.out 0).trans rfl,(blk_cell BK311.out 1).trans rfl,(blk_cell BK311.out 2).trans rfl,(blk_cell BK311.out 3).trans rfl,((HB.out.cell (World.block_lt_of_cell? w _ hw312_0)).trans hw312_0),((HB.out.cell (World.block_lt_of_cell? w _ hw312_1)).trans hw312_1),((HB.out.cell (World.block_lt_of_cell? w _ hw312_2)).trans hw312_2),((HB.out.cell (World.block_lt_of_cell? w _ hw312_3)).trans hw312_3),((HB.out.cell (World.block_lt_of_cell? w _ hw314_0)).trans hw314_0),((HB.out.cell (World.block_lt_of_cell? w _ hw314_1)).trans hw314_1),((HB.out.cell (World.block_lt_of_cell? w _ hw314_2)).trans hw314_2),((HB.out.cell (World.block_lt_of_cell? w _ hw314_3)).trans hw314_3)⟩ (fun hHeld=>?_)
         clear hK K
         refine norm_ (a':=?_) ?_ ?_
         rotate_left
         ·show Act.put _ (some 36) _=_
          simp only [Act.put,List.setIfInBounds_toArray,List.set_cons_zero,List.set_cons_succ,i64_w,i32_w]
          rfl
         refine pu_ (i:=15) (N:=some 15) ?_
         refine done_ (done_of HT_.out (by kernel_rfl)) ?_
         try go_wp2
         go_roundg k1
         case measure=>have:=HK1.out;omega
         case rel=>exact ⟨(x14_1),(t316),(wrap64 (x14_1+1)),y4_,y4_,y4_,H',⟨by have:=HK1.out;omega⟩,⟨by (with_reducible repeat (first|refine blk_drewN ?_ _|refine blk_drew ?_|refine blk_alloc ?_ _));exact BK311.out⟩,⟨(by repeat (first|(with_reducible first|exact HB.out|apply below_alloc|apply pw_below_drewN|apply below_drew1|refine below_set ?_ GE311.out)|exact HB.out))⟩⟩
        ·rw [if_neg c15] at H;have c15b0:decide (t316<x13_1)=false:=decide_eq_false c15;clear c15
         have H':=A0_ H
         clear H
         try go_wp2
         have n0_:=A0_ (blk_drew BK311.out);have n1_:=A0_ (below_drew1 HB.out);clear BK311;clear HB;have BK311:=n0_;have HB:=n1_;clear n0_ n1_
         have p312:0≤(a1:Int):=of_decide_eq_true y5_
         have q312:a1<(l0_0.length:Int):=of_decide_eq_true y5_
         obtain ⟨ad312,A312_3,c312_3,e312,hx312_0,hx312_1,hx312_2,hx312_3,hl312_3,hi312_3⟩:=at_T74 HR0_0.out a1 p312 q312
         have hw312_3:=hx312_3;have hw312_2:=hx312_2;have hw312_1:=hx312_1;have hw312_0:=hx312_0
         cases e312
         replace hx312_0:=(HB.out.cell (World.block_lt_of_cell? w _ hx312_0)).trans hx312_0
         replace hx312_1:=(HB.out.cell (World.block_lt_of_cell? w _ hx312_1)).trans hx312_1
         replace hx312_2:=(HB.out.cell (World.block_lt_of_cell? w _ hx312_2)).trans hx312_2
         replace hx312_3:=(HB.out.cell (World.block_lt_of_cell? w _ hx312_3)).trans hx312_3
         have HR312_3:=A0_ hi312_3;have HC312_3:=A0_ hl312_3;clear hi312_3 hl312_3
         replace p312:=eq_true p312
         replace q312:=eq_true q312
         have p314:0≤(a2:Int):=of_decide_eq_true y5_
         have q314:a2<(l0_0.length:Int):=of_decide_eq_true y5_
         obtain ⟨ad314,A314_3,c314_3,e314,hx314_0,hx314_1,hx314_2,hx314_3,hl314_3,hi314_3⟩:=at_T74 HR0_0.out a2 p314 q314
         have hw314_3:=hx314_3;have hw314_2:=hx314_2;have hw314_1:=hx314_1;have hw314_0:=hx314_0
         obtain rfl:ad312=ad314:=(by injection e314)
         replace hx314_0:=(HB.out.cell (World.block_lt_of_cell? w _ hx314_0)).trans hx314_0
         replace hx314_1:=(HB.out.cell (World.block_lt_of_cell? w _ hx314_1)).trans hx314_1
         replace hx314_2:=(HB.out.cell (World.block_lt_of_cell? w _ hx314_2)).trans hx314_2
         replace hx314_3:=(HB.out.cell (World.block_lt_of_cell? w _ hx314_3)).trans hx314_3
         have HR314_3:=A0_ hi314_3;have HC314_3:=A0_ hl314_3;clear hi314_3 hl314_3
         replace p314:=eq_true p314
         replace q314:=eq_true q314
         refine start_ (n:=16) (S:=fun w'=>w'.cell? ⟨gb311,0,none⟩=some (.slice (some ad312) l0_0.length c0_0)∧w'.cell? ⟨gb311,1,none⟩=some (.int .i64 a0_1)∧w'.cell? ⟨gb311,2,none⟩=some (.int .i64 a0_2)∧w'.cell? ⟨gb311,3,none⟩=some (.int .i64 a0_3)∧w'.cell? (ad312.add ((a1).toNat*4))=some (.int .i64 ((rd_T74 l0_0 a1).f0.f0))∧w'.cell? ⟨(ad312.add ((a1).toNat*4)).block,(ad312.add ((a1).toNat*4)).off+1,none⟩=some (.int .i64 ((rd_T74 l0_0 a1).f0.f1))∧w'.cell? ⟨(ad312.add ((a1).toNat*4)).block,(ad312.add ((a1).toNat*4)).off+2,none⟩=some (.int .i64 ((rd_T74 l0_0 a1).f1))∧w'.cell? ⟨(ad312.add ((a1).toNat*4)).block,(ad312.add ((a1).toNat*4)).off+3,none⟩=some (.slice A312_3 ((rd_T74 l0_0 a1).f2).length c312_3)∧w'.cell? (ad312.add ((a2).toNat*4))=some (.int .i64 ((rd_T74 l0_0 a2).f0.f0))∧w'.cell? ⟨(ad312.add ((a2).toNat*4)).block,(ad312.add ((a2).toNat*4)).off+1,none⟩=some (.int .i64 ((rd_T74 l0_0 a2).f0.f1))∧w'.cell? ⟨(ad312.add ((a2).toNat*4)).block,(ad312.add ((a2).toNat*4)).off+2,none⟩=some (.int .i64 ((rd_T74 l0_0 a2).f1))∧w'.cell? ⟨(ad312.add ((a2).toNat*4)).block,(ad312.add ((a2).toNat*4)).off+3,none⟩=some (.slice A314_3 ((rd_T74 l0_0 a2).f2).length c314_3)) (ds:=[]) #[false,false,false,false,false,false,false,false,false,false,false,false,false,false,false,false] (by kernel_rfl) rfl rfl ⟨(blk_cell BK311.out 0).trans rfl,(blk_cell BK311.out 1).trans rfl,(blk_cell BK311.out 2).trans rfl,(blk_cell BK311.out 3).trans rfl,((HB.out.cell (World.block_lt_of_cell? w _ hw312_0)).trans hw312_0),((HB.out.cell (World.block_lt_of_cell? w _ hw312_1)).trans hw312_1),((HB.out.cell (World.block_lt_of_cell? w _ hw312_2)).trans hw312_2),((HB.out.cell (World.block_lt_of_cell? w _ hw312_3)).trans hw312_3),((HB.out.cell (World.block_lt_of_cell? w _ hw314_0)).trans hw314_0),((HB.out.cell (World.block_lt_of_cell? w _ hw314_1)).trans hw314_1),((HB.out.cell (World.block_lt_of_cell? w _ hw314_2)).trans hw314_2),((HB.out.cell (World.block_lt_of_cell? w _ hw314_3)).trans hw314_3)⟩ (fun hHeld=>?_);refine with_tabW tr_Near.tab5 tr_Near.bits5 (fun HT_ HW_=>?_)
         generalize wr.drew=w20 at BK311 HB HR312_3 HR314_3 hx312_0 hx312_1 hx312_2 hx312_3 hx314_0 hx314_1 hx314_2 hx314_3 hHeld ⊢
         refine pu_ (i:=0) (N:=some 22) ?_;refine pu_ (i:=2) (N:=some 24) ?_;refine pu_ (i:=5) (N:=some 27) ?_;refine pu_ (i:=7) (N:=some 29) ?_;refine pu_ (i:=9) (N:=some 31) ?_;refine pu_ (i:=12) (N:=some 34) ?_;refine ta_ (i:=1) (N:=some 23) ?_;refine pu_ (i:=3) (N:=some 25) ?_;refine ta_ (i:=4) (N:=some 26) ?_;refine ta_ (i:=8) (N:=some 30) ?_;refine pu_ (i:=10) (N:=some 32) ?_;refine ta_ (i:=11) (N:=some 33) ?_
         refine one_ (i:=6) (N:=some 28) #[true,true,true,true,true,true,true,true,true,true,true,true,true,false,false,false] rfl rfl (one_of HT_.out (by kernel_rfl)) (by decide) (fun K hK=>?_)
         refine goes_ Tryz.func47 (by kernel_rfl) rfl #[.agg #[.int .i64 ((rd_T74 l0_0 a1).f0.f0),.int .i64 ((rd_T74 l0_0 a1).f0.f1),.int .i64 ((rd_T74 l0_0 a1).f1),.slice A312_3 ((rd_T74 l0_0 a1).f2).length c312_3],.int .i64 x14_1] (by rfl) rfl rfl y1_ ?_
         with_reducible refine (tr_Place.calls ((rd_T74 l0_0 a1).f0.f0) ((rd_T74 l0_0 a1).f0.f1) ((rd_T74 l0_0 a1).f1) _ _ ((rd_T74 l0_0 a1).f2) x14_1 t313 _ ?side1 ?side2 A10.out).mono ?_
         (case side1=>repeat (first|exact (Kd.C_below HR312_3.out HB.out)|(with_reducible refine Kd.C_alloc ?_ _)|(with_reducible refine Kd.C_drewN ?_ _)|(with_reducible refine Kd.C_drew ?_)))
         (case side2=>exact HC312_3.out)
         rintro e w21 ⟨rfl,hb⟩
         refine ⟨_,rfl,?_⟩
         have n0_:=A0_ (blk_below (g:=gb311) (o:=.cells #[.slice (some ad312) l0_0.length c0_0,.int .i64 a0_1,.int .i64 a0_2,.int .i64 a0_3] 29 (0,0)) (bd_ BK311.out) hb)
         have n1_:=A0_ (below_step (by repeat (first|(with_reducible first|exact HB.out|apply below_alloc|apply pw_below_drewN|apply below_drew1|refine below_set ?_ GE311.out)|exact HB.out)) hb)
         clear BK311;clear HB;have BK311:=n0_;have HB:=n1_;clear n0_ n1_;(try clear hb);(try clear hb2);(try clear hk);(try clear hi)
         refine hK.out _ _ ⟨(blk_cell BK311.out 0).trans rfl,(blk_cell BK311.out 1).trans rfl,(blk_cell BK311.out 2).trans rfl,(blk_cell BK311.out 3).trans rfl,((HB.out.cell (World.block_lt_of_cell? w _ hw312_0)).trans hw312_0),((HB.out.cell (World.block_lt_of_cell? w _ hw312_1)).trans hw312_1),((HB.out.cell (World.block_lt_of_cell? w _ hw312_2)).trans hw312_2),((HB.out.cell (World.block_lt_of_cell? w _ hw312_3)).trans hw312_3),((HB.out.cell (World.block_lt_of_cell? w _ hw314_0)).trans hw314_0),((HB.out.cell (World.block_lt_of_cell? w _ hw314_1)).trans hw314_1),((HB.out.cell (World.block_lt_of_cell? w _ hw314_2)).trans hw314_2),((HB.out.cell (World.block_lt_of_cell? w _ hw314_3)).trans hw314_3)⟩ (fun hHeld=>?_)
         clear hK K
         refine norm_ (a':=?_) ?_ ?_
         rotate_left
         ·show Act.put _ (some 28) _=_
          simp only [Act.put,List.setIfInBounds_toArray,List.set_cons_zero,List.set_cons_succ,i64_w,i32_w]
          rfl
         refine one_ (i:=13) (N:=some 35) #[true,true,true,true,true,true,true,true,true,true,true,true,true,true,false,false] rfl rfl (one_of HT_.out (by kernel_rfl)) (by decide) (fun K hK=>?_)
         refine goes_ Tryz.func47 (by kernel_rfl) rfl #[.agg #[.int .i64 ((rd_T74 l0_0 a2).f0.f0),.int .i64 ((rd_T74 l0_0 a2).f0.f1),.int .i64 ((rd_T74 l0_0 a2).f1),.slice A314_3 ((rd_T74 l0_0 a2).f2).length c314_3],.int .i64 x14_1] (by rfl) rfl rfl y1_ ?_
         with_reducible refine (tr_Place.calls ((rd_T74 l0_0 a2).f0.f0) ((rd_T74 l0_0 a2).f0.f1) ((rd_T74 l0_0 a2).f1) _ _ ((rd_T74 l0_0 a2).f2) x14_1 t315 _ ?side1 ?side2 A13.out).mono ?_
         (case side1=>repeat (first|exact (Kd.C_below HR314_3.out HB.out)|(with_reducible refine Kd.C_alloc ?_ _)|(with_reducible refine Kd.C_drewN ?_ _)|(with_reducible refine Kd.C_drew ?_)))
         (case side2=>exact HC314_3.out)
         rintro e w22 ⟨rfl,hb⟩
         refine ⟨_,rfl,?_⟩
         have n0_:=A0_ (blk_below (g:=gb311) (o:=.cells #[.slice (some ad312) l0_0.length c0_0,.int .i64 a0_1,.int .i64 a0_2,.int .i64 a0_3] 29 (0,0)) (bd_ BK311.out) hb)
         have n1_:=A0_ (below_step (by repeat (first|(with_reducible first|exact HB.out|apply below_alloc|apply pw_below_drewN|apply below_drew1|refine below_set ?_ GE311.out)|exact HB.out)) hb)
         clear BK311;clear HB;have BK311:=n0_;have HB:=n1_;clear n0_ n1_;(try clear hb);(try clear hb2);(try clear hk);(try clear hi)
         refine hK.out _ _ ⟨(blk_cell BK311.out 0).trans rfl,(blk_cell BK311.out 1).trans rfl,(blk_cell BK311.out 2).trans rfl,(blk_cell BK311.out 3).trans rfl,((HB.out.cell (World.block_lt_of_cell? w _ hw312_0)).trans hw312_0),((HB.out.cell (World.block_lt_of_cell? w _ hw312_1)).trans hw312_1),((HB.out.cell (World.block_lt_of_cell? w _ hw312_2)).trans hw312_2),((HB.out.cell (World.block_lt_of_cell? w _ hw312_3)).trans hw312_3),((HB.out.cell (World.block_lt_of_cell? w _ hw314_0)).trans hw314_0),((HB.out.cell (World.block_lt_of_cell? w _ hw314_1)).trans hw314_1),((HB.out.cell (World.block_lt_of_cell? w _ hw314_2)).trans hw314_2),((HB.out.cell (World.block_lt_of_cell? w _ hw314_3)).trans hw314_3)⟩ (fun hHeld=>?_)
         clear hK K
         refine norm_ (a':=?_) ?_ ?_
         rotate_left
         ·show Act.put _ (some 35) _=_
          simp only [Act.put,List.setIfInBounds_toArray,List.set_cons_zero,List.set_cons_succ,i64_w,i32_w]
          rfl
         refine one_ (i:=14) (N:=some 36) #[true,true,true,true,true,true,true,true,true,true,true,true,true,true,true,false] rfl rfl (one_of HT_.out (by kernel_rfl)) (by decide) (fun K hK=>?_)
         refine goes_ Tryz.func29 (by kernel_rfl) rfl #[.int .i64 t313,.int .i64 t315] (by rfl) rfl rfl y1_ ?_
         with_reducible refine (tr_Apart.calls t313 t315 t316 _ A14.out).mono ?_
         rintro e w23 ⟨rfl,hb⟩
         refine ⟨_,rfl,?_⟩
         have n0_:=A0_ (blk_below (g:=gb311) (o:=.cells #[.slice (some ad312) l0_0.length c0_0,.int .i64 a0_1,.int .i64 a0_2,.int .i64 a0_3] 29 (0,0)) (bd_ BK311.out) hb)
         have n1_:=A0_ (below_step (by repeat (first|(with_reducible first|exact HB.out|apply below_alloc|apply pw_below_drewN|apply below_drew1|refine below_set ?_ GE311.out)|exact HB.out)) hb)
         clear BK311;clear HB;have BK311:=n0_;have HB:=n1_;clear n0_ n1_;(try clear hb);(try clear hb2);(try clear hk);(try clear hi)
         refine hK.out _ _ ⟨(blk_cell BK311.out 0).trans rfl,(blk_cell BK311.out 1).trans rfl,(blk_cell BK311.out 2).trans rfl,(blk_cell BK311.out 3).trans rfl,((HB.out.cell (World.block_lt_of_cell? w _ hw312_0)).trans hw312_0),((HB.out.cell (World.block_lt_of_cell? w _ hw312_1)).trans hw312_1),((HB.out.cell (World.block_lt_of_cell? w _ hw312_2)).trans hw312_2),((HB.out.cell (World.block_lt_of_cell? w _ hw312_3)).trans hw312_3),((HB.out.cell (World.block_lt_of_cell? w _ hw314_0)).trans hw314_0),((HB.out.cell (World.block_lt_of_cell? w _ hw314_1)).trans hw314_1),((HB.out.cell (World.block_lt_of_cell? w _ hw314_2)).trans hw314_2),((HB.out.cell (World.block_lt_of_cell? w _ hw314_3)).trans hw314_3)⟩ (fun hHeld=>?_)
         clear hK K
         refine norm_ (a':=?_) ?_ ?_
         rotate_left
         ·show Act.put _ (some 36) _=_
          simp only [Act.put,List.setIfInBounds_toArray,List.set_cons_zero,List.set_cons_succ,i64_w,i32_w]
          rfl
         refine pu_ (i:=15) (N:=some 15) ?_
         refine done_ (done_of HT_.out (by kernel_rfl)) ?_
         try go_wp2
         go_roundg k1
         case measure=>have:=HK1.out;omega
         case rel=>exact ⟨(x12_1),(x13_1),(wrap64 (x14_1+1)),y4_,y4_,y4_,H',⟨by have:=HK1.out;omega⟩,⟨by (with_reducible repeat (first|refine blk_drewN ?_ _|refine blk_drew ?_|refine blk_alloc ?_ _));exact BK311.out⟩,⟨(by repeat (first|(with_reducible first|exact HB.out|apply below_alloc|apply pw_below_drewN|apply below_drew1|refine below_set ?_ GE311.out)|exact HB.out))⟩⟩
       ·rw [if_neg c12] at H;exact absurd H (by simp)
      ·rw [if_neg c11] at H;exact absurd H (by simp)
     ·rw [if_neg c9] at H;exact absurd H (by simp)
    ·rw [if_neg c8] at H;exact absurd H (by simp)
   ·rw [if_neg c7] at H;have c7b0:decide (x14_1≤a4)=false:=decide_eq_false c7;clear c7
    simp only [Option.some.injEq,Prod.mk.injEq] at H
    obtain ⟨rfl,rfl⟩:=H;go_wp2
    go_ret2
    exact ⟨y2_,(by repeat (first|(with_reducible first|exact HB.out|apply below_alloc|apply pw_below_drewN|apply below_drew1|refine below_set ?_ GE311.out)|exact HB.out))⟩
end Go.Proofs.YtjahbgldccjbfaaGreatDoor.PSky
end
section
namespace Go.Proofs.YtjahbgldccjbfaaGreatDoor.PSky
open Go.RowKit Go.Proofs.YtjahbgldccjbfaaGreatDoorW.PrintWords Go.Proofs.YtjahbgldccjbfaaGreatDoorW.PrintLast Go.Proofs.YtjahbgldccjbfaaGreatDoorW.PrintMore
attribute [local go_sem] max2_int min2_int max_two min_two max_three min_three max_four min_four
set_option linter.unusedVariables false
set_option linter.unusedSimpArgs false
def tr_Meets.l0:Nat→Int→Int→Int→List Int→Int→List (S74)→Int→Int→Int→Option (List Int)
 |0,_,_,_,_,_,_,_,_,_=>none
 |k+1,x1,x2,x4,x11,x12,x327000,x327001,x327002,x327003=>if x12≤x4 then ((tr_ahead.f x327000 x327001 x327002 x327003 x1 x2 (wrap64 (x12 - 1))).bind fun t327=>((tr_ahead.f x327000 x327001 x327002 x327003 x1 x2 x12).bind fun t328=>((tr_passed.f t327 t328).bind fun t329=>(if t329=true then (if x11.length<17592186044416 then (tr_Meets.l0 k x1 x2 x4 (x11 ++ [x12]) (wrap64 (x12+1)) x327000 x327001 x327002 x327003) else (none)) else ((tr_passed.f (wrap64 (-t327)) (wrap64 (-t328))).bind fun t333=>(if t333=true then (if x11.length<17592186044416 then (tr_Meets.l0 k x1 x2 x4 (x11 ++ [x12]) (wrap64 (x12+1)) x327000 x327001 x327002 x327003) else (none)) else (tr_Meets.l0 k x1 x2 x4 x11 (wrap64 (x12+1)) x327000 x327001 x327002 x327003))))))) else (some x11)
def tr_Meets.f (k:Nat) (l0_0:List (S74)) (a0_1:Int) (a0_2:Int) (a0_3:Int) (a1:Int) (a2:Int) (a3:Int) (a4:Int):Option (List Int):=tr_Meets.l0 k a1 a2 a4 ([]:List Int) a3 l0_0 a0_1 a0_2 a0_3
def tr_Meets.T5:Bool × List (List Nat × List Nat):=(true,[([],[]),([],[]),([],[]),([],[]),([3],[3]),([0,1,2,4],[0,1,2,4]),([],[]),([],[]),([],[]),([],[]),([6,7,8,9,5],[6,7,8,9]),([5,10,0,1,2,3,4,5],[5]),([10,11,0,1,2,3,4,5,6,7,8,9,10,11],[10])])
def tr_Meets.B5:List Nat:=[0,0,0,0,8,31,0,0,0,0,1023,2047,4095]
theorem tr_Meets.tab5:rtab .any (opsOf Tryz.f24 5)=tr_Meets.T5:=by kernel_rfl
theorem tr_Meets.bits5:waitsOk tr_Meets.T5.2 tr_Meets.B5=true:=by kernel_rfl
set_option maxHeartbeats 8000000 in
set_option maxRecDepth 100000 in
theorem tr_Meets.calls (k:Nat) (A0_0:Option Addr) (c0_0:Nat) (l0_0:List (S74)) (a0_1:Int) (a0_2:Int) (a0_3:Int) (a1:Int) (a2:Int) (a3:Int) (a4:Int) (r:List Int) (w:World) (hr0_0:Kd.C k74 w A0_0 l0_0.length l0_0) (hc0_0:l0_0.length≤c0_0) (h:tr_Meets.f k l0_0 a0_1 a0_2 a0_3 a1 a2 a3 a4=some r):
  Calls Tryz.prog 24 #[.agg #[.slice A0_0 l0_0.length c0_0,.int .i64 a0_1,.int .i64 a0_2,.int .i64 a0_3],.int .i64 a1,.int .i64 a2,.int .i64 a3,.int .i64 a4] w fun e w'=>∃ v0_:Value,e=.returned (v0_)∧Kd.R (Kd.int .i64) 3 w' w.heap.size (fun _=>True) v0_ r∧Below w.heap.size w w':=by
 have hu29:=Tryz.underlying29
 have HR0_0:=A0_ hr0_0;have HC0_0:=A0_ hc0_0;clear hr0_0 hc0_0
 have HB:=A0_ (Below.refl w.heap.size w)
 have H:(tr_Meets.l0 k a1 a2 a4 ([]:List Int) a3 l0_0 a0_1 a0_2 a0_3)=some r:=h
 clear h
 have H':=A0_ H
 clear H
 go_enter Tryz.func24,Tryz.ntmps24
 go_wp2_with (first|((with_reducible refine gate_dst (N:=5) rfl ?_);refine box_event ?hg (N:=5) ?hd (cs:=#[.slice A0_0 l0_0.length c0_0,.int .i64 a0_1,.int .i64 a0_2,.int .i64 a0_3]) (t:=29) ?hr ?_;(case hd=>rfl);(case hg=>rfl);(case hr=>first|(go_simp;done)|(go_simp;rfl));intro gb326 hg w6 hbox hb;have n0_:=A0_ (below_step y0_ hb);have n1_:=A0_ (hbox);have n2_:=A0_ ((by rw [hg];exact (below_size y0_):w.heap.size≤gb326));have n3_:=A0_ ((by rw [hg];exact (below_size y0_):w.heap.size≤gb326));clear HB;have HB:=n0_;have BK326:=n1_;have GW326:=n2_;have GE326:=n3_;clear n0_ n1_ n2_ n3_;clear hb hbox hg))
 go_loopg [11,12] k (fun kq v11 v12 w'=>∃ (x11_1:List Int) (x12_1:Int),v12=.int .i64 x12_1∧Aside0 (tr_Meets.l0 kq a1 a2 a4 x11_1 x12_1 l0_0 a0_1 a0_2 a0_3=some r)∧Aside0 (kq≤k)∧Aside0 (Kd.R (Kd.int .i64) 3 w' w.heap.size (fun _=>True) v11 x11_1)∧Aside0 (w'.heap[gb326]?=some (.cells #[(.slice A0_0 l0_0.length c0_0),.int .i64 a0_1,.int .i64 a0_2,.int .i64 a0_3] 29 (0,0)))∧Aside0 (Below w.heap.size w w'))
 case atStart=>exact ⟨(([]:List Int)),(a3),y4_,H',⟨Nat.le_refl _⟩,⟨by first|exact Kd.R_nil _ _ _ _ _|exact Kd.N_nil _ _ _ _ _|exact Kd.V_nil _ _ _ _ _|exact Kd.Q_nil _ _ _ _ _|exact Kd.S_nil _ _ _ _ _⟩,⟨by (with_reducible repeat (first|refine blk_drewN ?_ _|refine blk_drew ?_|refine blk_alloc ?_ _));exact BK326.out⟩,⟨(by repeat (first|(with_reducible first|exact HB.out|apply below_alloc|apply pw_below_drewN|apply below_drew1|refine below_set ?_ GE326.out)|exact HB.out))⟩⟩
 case round=>
  clear H'
  (try clear c2);(try clear p2)
  obtain ⟨x11_1,x12_1,rfl,HA,HK1,HO_11,BK326,HB⟩:=hrel
  cases gk with
  |zero=>exact absurd HA.out (by simp [tr_Meets.l0])
  |succ k1=>
   have H:=HA.out
   clear HA
   simp only [tr_Meets.l0] at H
   by_cases c7:x12_1≤a4
   ·rw [if_pos c7] at H;have c7b0:decide (x12_1≤a4)=true:=decide_eq_true c7;clear c7;replace H:=Option.bind_eq_some_iff.mp H;obtain ⟨t327,A80,H⟩:=H
    replace H:((tr_ahead.f l0_0 a0_1 a0_2 a0_3 a1 a2 x12_1).bind fun t328=>((tr_passed.f t327 t328).bind fun t329=>(if t329=true then (if x11_1.length<17592186044416 then (tr_Meets.l0 k1 a1 a2 a4 (x11_1 ++ [x12_1]) (wrap64 (x12_1+1)) l0_0 a0_1 a0_2 a0_3) else (none)) else ((tr_passed.f (wrap64 (-t327)) (wrap64 (-t328))).bind fun t333=>(if t333=true then (if x11_1.length<17592186044416 then (tr_Meets.l0 k1 a1 a2 a4 (x11_1 ++ [x12_1]) (wrap64 (x12_1+1)) l0_0 a0_1 a0_2 a0_3) else (none)) else (tr_Meets.l0 k1 a1 a2 a4 x11_1 (wrap64 (x12_1+1)) l0_0 a0_1 a0_2 a0_3))))))=some r:=H
    have A8:=A0_ A80;clear A80;replace H:=Option.bind_eq_some_iff.mp H;obtain ⟨t328,A90,H⟩:=H
    replace H:((tr_passed.f t327 t328).bind fun t329=>(if t329=true then (if x11_1.length<17592186044416 then (tr_Meets.l0 k1 a1 a2 a4 (x11_1 ++ [x12_1]) (wrap64 (x12_1+1)) l0_0 a0_1 a0_2 a0_3) else (none)) else ((tr_passed.f (wrap64 (-t327)) (wrap64 (-t328))).bind fun t333=>(if t333=true then (if x11_1.length<17592186044416 then (tr_Meets.l0 k1 a1 a2 a4 (x11_1 ++ [x12_1]) (wrap64 (x12_1+1)) l0_0 a0_1 a0_2 a0_3) else (none)) else (tr_Meets.l0 k1 a1 a2 a4 x11_1 (wrap64 (x12_1+1)) l0_0 a0_1 a0_2 a0_3)))))=some r:=H
    have A9:=A0_ A90;clear A90;replace H:=Option.bind_eq_some_iff.mp H;obtain ⟨t329,A100,H⟩:=H
    replace H:(if t329=true then (if x11_1.length<17592186044416 then (tr_Meets.l0 k1 a1 a2 a4 (x11_1 ++ [x12_1]) (wrap64 (x12_1+1)) l0_0 a0_1 a0_2 a0_3) else (none)) else ((tr_passed.f (wrap64 (-t327)) (wrap64 (-t328))).bind fun t333=>(if t333=true then (if x11_1.length<17592186044416 then (tr_Meets.l0 k1 a1 a2 a4 (x11_1 ++ [x12_1]) (wrap64 (x12_1+1)) l0_0 a0_1 a0_2 a0_3) else (none)) else (tr_Meets.l0 k1 a1 a2 a4 x11_1 (wrap64 (x12_1+1)) l0_0 a0_1 a0_2 a0_3))))=some r:=H
    have A10:=A0_ A100;clear A100
    by_cases c11:t329=true
    ·subst c11
     have H1:(if x11_1.length<17592186044416 then (tr_Meets.l0 k1 a1 a2 a4 (x11_1 ++ [x12_1]) (wrap64 (x12_1+1)) l0_0 a0_1 a0_2 a0_3) else (none))=some r:=by rw [if_pos rfl] at H;exact H
     clear H;have H:=H1;clear H1
     by_cases c12:x11_1.length<17592186044416
     ·rw [if_pos c12] at H;have LMc12:=A0_ c12;clear c12
      obtain ⟨y330,hy330⟩:∃ y_:List Int,y_=(x11_1 ++ [x12_1]):=⟨_,rfl⟩
      replace H:(tr_Meets.l0 k1 a1 a2 a4 y330 (wrap64 (x12_1+1)) l0_0 a0_1 a0_2 a0_3)=some r:=by first|(rw [hy330];with_reducible exact H)|(have H2_:=(Option.bind_some _ _).symm.trans H;rw [hy330];with_reducible exact H2_)|(have H2_:=(Option.bind_some _ _).symm.trans H;with_reducible exact H2_)|with_reducible exact H|(rw [hy330];exact H)|exact H
      have Ny330:=A0_ hy330;clear hy330
      have H':=A0_ H
      clear H
      try go_wp2
      have n0_:=A0_ (Kd.R_drew HO_11.out);have n1_:=A0_ (blk_drew BK326.out);have n2_:=A0_ (below_drew1 HB.out);clear HO_11;clear BK326;clear HB;have HO_11:=n0_;have BK326:=n1_;have HB:=n2_;clear n0_ n1_ n2_
      refine start_ (n:=13) (S:=fun w'=>w'.cell? ⟨gb326,0,none⟩=some (.slice A0_0 l0_0.length c0_0)∧w'.cell? ⟨gb326,1,none⟩=some (.int .i64 a0_1)∧w'.cell? ⟨gb326,2,none⟩=some (.int .i64 a0_2)∧w'.cell? ⟨gb326,3,none⟩=some (.int .i64 a0_3)) (ds:=[]) #[false,false,false,false,false,false,false,false,false,false,false,false,false] (by kernel_rfl) rfl rfl ⟨(blk_cell BK326.out 0).trans rfl,(blk_cell BK326.out 1).trans rfl,(blk_cell BK326.out 2).trans rfl,(blk_cell BK326.out 3).trans rfl⟩ (fun hHeld=>?_);refine with_tabW tr_Meets.tab5 tr_Meets.bits5 (fun HT_ HW_=>?_)
      generalize wr.drew=w13 at HO_11 BK326 HB hHeld ⊢
      refine pu_ (i:=1) (N:=some 22) ?_;refine pu_ (i:=2) (N:=some 23) ?_;refine pu_ (i:=3) (N:=some 24) ?_;refine pu_ (i:=4) (N:=some 25) ?_;refine pu_ (i:=7) (N:=some 28) ?_;refine pu_ (i:=8) (N:=some 29) ?_;refine pu_ (i:=9) (N:=some 30) ?_;refine ta_ (i:=0) (N:=some 21) ?_;refine ta_ (i:=6) (N:=some 27) ?_
      refine one_ (i:=5) (N:=some 26) #[true,true,true,true,true,true,true,true,true,true,false,false,false] rfl rfl (one_of HT_.out (by kernel_rfl)) (by decide) (fun K hK=>?_)
      refine goes_ Tryz.func76 (by kernel_rfl) rfl #[.agg #[.slice A0_0 l0_0.length c0_0,.int .i64 a0_1,.int .i64 a0_2,.int .i64 a0_3],.int .i64 a1,.int .i64 a2,.int .i64 (wrap64 (x12_1 - 1))] (by rfl) rfl rfl y1_ ?_
      with_reducible refine (tr_ahead.calls _ _ l0_0 a0_1 a0_2 a0_3 a1 a2 (wrap64 (x12_1 - 1)) t327 _ ?side1 ?side2 A8.out).mono ?_
      (case side1=>repeat (first|exact (Kd.C_below HR0_0.out HB.out)|(with_reducible refine Kd.C_alloc ?_ _)|(with_reducible refine Kd.C_drewN ?_ _)|(with_reducible refine Kd.C_drew ?_)))
      (case side2=>exact HC0_0.out)
      rintro e w14 ⟨rfl,hb⟩
      refine ⟨_,rfl,?_⟩
      have n0_:=A0_ (Kd.R_below (rd_ HO_11.out) hb);have n1_:=A0_ (blk_below (g:=gb326) (o:=.cells #[.slice A0_0 l0_0.length c0_0,.int .i64 a0_1,.int .i64 a0_2,.int .i64 a0_3] 29 (0,0)) (bd_ BK326.out) hb)
      have n2_:=A0_ (below_step (by repeat (first|(with_reducible first|exact HB.out|apply below_alloc|apply pw_below_drewN|apply below_drew1|refine below_set ?_ GE326.out)|exact HB.out)) hb)
      clear HO_11;clear BK326;clear HB;have HO_11:=n0_;have BK326:=n1_;have HB:=n2_;clear n0_ n1_ n2_;(try clear hb);(try clear hb2);(try clear hk);(try clear hi)
      refine hK.out _ _ ⟨(blk_cell BK326.out 0).trans rfl,(blk_cell BK326.out 1).trans rfl,(blk_cell BK326.out 2).trans rfl,(blk_cell BK326.out 3).trans rfl⟩ (fun hHeld=>?_)
      clear hK K
      refine norm_ (a':=?_) ?_ ?_
      rotate_left
      ·show Act.put _ (some 26) _=_
       simp only [Act.put,List.setIfInBounds_toArray,List.set_cons_zero,List.set_cons_succ,i64_w,i32_w]
       rfl
      refine one_ (i:=10) (N:=some 31) #[true,true,true,true,true,true,true,true,true,true,true,false,false] rfl rfl (one_of HT_.out (by kernel_rfl)) (by decide) (fun K hK=>?_)
      refine goes_ Tryz.func76 (by kernel_rfl) rfl #[.agg #[.slice A0_0 l0_0.length c0_0,.int .i64 a0_1,.int .i64 a0_2,.int .i64 a0_3],.int .i64 a1,.int .i64 a2,.int .i64 x12_1] (by rfl) rfl rfl y1_ ?_
      with_reducible refine (tr_ahead.calls _ _ l0_0 a0_1 a0_2 a0_3 a1 a2 x12_1 t328 _ ?side1 ?side2 A9.out).mono ?_
      (case side1=>repeat (first|exact (Kd.C_below HR0_0.out HB.out)|(with_reducible refine Kd.C_alloc ?_ _)|(with_reducible refine Kd.C_drewN ?_ _)|(with_reducible refine Kd.C_drew ?_)))
      (case side2=>exact HC0_0.out)
      rintro e w15 ⟨rfl,hb⟩
      refine ⟨_,rfl,?_⟩
      have n0_:=A0_ (Kd.R_below (rd_ HO_11.out) hb);have n1_:=A0_ (blk_below (g:=gb326) (o:=.cells #[.slice A0_0 l0_0.length c0_0,.int .i64 a0_1,.int .i64 a0_2,.int .i64 a0_3] 29 (0,0)) (bd_ BK326.out) hb)
      have n2_:=A0_ (below_step (by repeat (first|(with_reducible first|exact HB.out|apply below_alloc|apply pw_below_drewN|apply below_drew1|refine below_set ?_ GE326.out)|exact HB.out)) hb)
      clear HO_11;clear BK326;clear HB;have HO_11:=n0_;have BK326:=n1_;have HB:=n2_;clear n0_ n1_ n2_;(try clear hb);(try clear hb2);(try clear hk);(try clear hi)
      refine hK.out _ _ ⟨(blk_cell BK326.out 0).trans rfl,(blk_cell BK326.out 1).trans rfl,(blk_cell BK326.out 2).trans rfl,(blk_cell BK326.out 3).trans rfl⟩ (fun hHeld=>?_)
      clear hK K
      refine norm_ (a':=?_) ?_ ?_
      rotate_left
      ·show Act.put _ (some 31) _=_
       simp only [Act.put,List.setIfInBounds_toArray,List.set_cons_zero,List.set_cons_succ,i64_w,i32_w]
       rfl
      refine pu_ (i:=11) (N:=some 13) ?_;refine pu_ (i:=12) (N:=some 14) ?_
      refine done_ (done_of HT_.out (by kernel_rfl)) ?_
      try go_wp2_with (first|((with_reducible refine gate_callee (f:=77) rfl ?_);refine goesL_ (some 34) rfl rfl Tryz.func77 (by kernel_rfl) rfl #[.int .i64 t327,.int .i64 t328] rfl y1_ ?_;(with_reducible refine (tr_passed.calls t327 t328 true _ A10.out).mono ?_);rintro e w' ⟨rfl,⟨nd,rfl⟩⟩;refine ⟨_,rfl,?_⟩)|((with_reducible refine gate_builtin (b:=.append) (xs:=#[.tmp 42,.tmp 44]) rfl ?_);at_builtin;refine Kd.R_append (Kd.int .i64) (w0:=w) w.heap.size rfl (.tmp 42) (.tmp 44) 40 3 (.int .i64 0) 8 rfl Tryz.underlying40 info3 rfl (by decide) (by omega) u11 x11_1 x12_1 [.int .i64 x12_1] (fun _=>True) (fun _=>False) rfl rfl ?aP (fun _ hk=>hk.elim) ?aF ?aO ?aB ?aS ?aL ?_;(case aP=>exact rfl);(case aB=>exact (by repeat (first|(with_reducible first|exact HB.out|apply below_alloc|apply pw_below_drewN|apply below_drew1|refine below_set ?_ GE326.out)|exact HB.out)));(case aF=>exact (fun _ _=>trivial));(case aO=>exact (rd_ HO_11.out));(case aS=>exact (below_size (by repeat (first|(with_reducible first|exact HB.out|apply below_alloc|apply pw_below_drewN|apply below_drew1|refine below_set ?_ GE326.out)|exact HB.out))));(case aL=>have:=LMc12.out;omega);intro v331 w16 ho hb hg hat;rw [← Ny330.out] at ho;have n0_:=A0_ (blk_grown (g:=gb326) (o:=.cells #[.slice A0_0 l0_0.length c0_0,.int .i64 a0_1,.int .i64 a0_2,.int .i64 a0_3] 29 (0,0)) (bd_ BK326.out) hg (Kd.R_ne HO_11.out BK326.out (by decide)));have n1_:=A0_ (hb);have n2_:=A0_ (ho);clear BK326;clear HB;clear HO_11;have BK326:=n0_;have HB:=n1_;have HO332:=n2_;clear n0_ n1_ n2_;clear ho hb hg hat))
      go_roundg k1
      case measure=>have:=HK1.out;omega
      case rel=>exact ⟨(y330),(wrap64 (x12_1+1)),y4_,H',⟨by have:=HK1.out;omega⟩,⟨by (with_reducible repeat (first|apply Kd.R_alloc|apply Kd.R_drewN|apply Kd.R_drew));exact HO332.out⟩,⟨by (with_reducible repeat (first|refine blk_drewN ?_ _|refine blk_drew ?_|refine blk_alloc ?_ _));exact BK326.out⟩,⟨(by repeat (first|(with_reducible first|exact HB.out|apply below_alloc|apply pw_below_drewN|apply below_drew1|refine below_set ?_ GE326.out)|exact HB.out))⟩⟩
     ·rw [if_neg c12] at H;exact absurd H (by simp)
    ·replace c11:=Bool.eq_false_iff.mpr c11;subst c11
     have H1:((tr_passed.f (wrap64 (-t327)) (wrap64 (-t328))).bind fun t333=>(if t333=true then (if x11_1.length<17592186044416 then (tr_Meets.l0 k1 a1 a2 a4 (x11_1 ++ [x12_1]) (wrap64 (x12_1+1)) l0_0 a0_1 a0_2 a0_3) else (none)) else (tr_Meets.l0 k1 a1 a2 a4 x11_1 (wrap64 (x12_1+1)) l0_0 a0_1 a0_2 a0_3)))=some r:=by rw [if_neg (show ¬ (false=true) by decide)] at H;exact H
     clear H;have H:=H1;clear H1;replace H:=Option.bind_eq_some_iff.mp H;obtain ⟨t333,A170,H⟩:=H
     replace H:(if t333=true then (if x11_1.length<17592186044416 then (tr_Meets.l0 k1 a1 a2 a4 (x11_1 ++ [x12_1]) (wrap64 (x12_1+1)) l0_0 a0_1 a0_2 a0_3) else (none)) else (tr_Meets.l0 k1 a1 a2 a4 x11_1 (wrap64 (x12_1+1)) l0_0 a0_1 a0_2 a0_3))=some r:=H
     have A17:=A0_ A170;clear A170
     by_cases c18:t333=true
     ·subst c18
      have H1:(if x11_1.length<17592186044416 then (tr_Meets.l0 k1 a1 a2 a4 (x11_1 ++ [x12_1]) (wrap64 (x12_1+1)) l0_0 a0_1 a0_2 a0_3) else (none))=some r:=by rw [if_pos rfl] at H;exact H
      clear H;have H:=H1;clear H1
      by_cases c19:x11_1.length<17592186044416
      ·rw [if_pos c19] at H;have LMc19:=A0_ c19;clear c19
       obtain ⟨y334,hy334⟩:∃ y_:List Int,y_=(x11_1 ++ [x12_1]):=⟨_,rfl⟩
       replace H:(tr_Meets.l0 k1 a1 a2 a4 y334 (wrap64 (x12_1+1)) l0_0 a0_1 a0_2 a0_3)=some r:=by first|(rw [hy334];with_reducible exact H)|(have H2_:=(Option.bind_some _ _).symm.trans H;rw [hy334];with_reducible exact H2_)|(have H2_:=(Option.bind_some _ _).symm.trans H;with_reducible exact H2_)|with_reducible exact H|(rw [hy334];exact H)|exact H
       have Ny334:=A0_ hy334;clear hy334
       have H':=A0_ H
       clear H
       try go_wp2
       have n0_:=A0_ (Kd.R_drew HO_11.out);have n1_:=A0_ (blk_drew BK326.out);have n2_:=A0_ (below_drew1 HB.out);clear HO_11;clear BK326;clear HB;have HO_11:=n0_;have BK326:=n1_;have HB:=n2_;clear n0_ n1_ n2_
       refine start_ (n:=13) (S:=fun w'=>w'.cell? ⟨gb326,0,none⟩=some (.slice A0_0 l0_0.length c0_0)∧w'.cell? ⟨gb326,1,none⟩=some (.int .i64 a0_1)∧w'.cell? ⟨gb326,2,none⟩=some (.int .i64 a0_2)∧w'.cell? ⟨gb326,3,none⟩=some (.int .i64 a0_3)) (ds:=[]) #[false,false,false,false,false,false,false,false,false,false,false,false,false] (by kernel_rfl) rfl rfl ⟨(blk_cell BK326.out 0).trans rfl,(blk_cell BK326.out 1).trans rfl,(blk_cell BK326.out 2).trans rfl,(blk_cell BK326.out 3).trans rfl⟩ (fun hHeld=>?_);refine with_tabW tr_Meets.tab5 tr_Meets.bits5 (fun HT_ HW_=>?_)
       generalize wr.drew=w20 at HO_11 BK326 HB hHeld ⊢
       refine pu_ (i:=1) (N:=some 22) ?_;refine pu_ (i:=2) (N:=some 23) ?_;refine pu_ (i:=3) (N:=some 24) ?_;refine pu_ (i:=4) (N:=some 25) ?_;refine pu_ (i:=7) (N:=some 28) ?_;refine pu_ (i:=8) (N:=some 29) ?_;refine pu_ (i:=9) (N:=some 30) ?_;refine ta_ (i:=0) (N:=some 21) ?_;refine ta_ (i:=6) (N:=some 27) ?_
       refine one_ (i:=5) (N:=some 26) #[true,true,true,true,true,true,true,true,true,true,false,false,false] rfl rfl (one_of HT_.out (by kernel_rfl)) (by decide) (fun K hK=>?_)
       refine goes_ Tryz.func76 (by kernel_rfl) rfl #[.agg #[.slice A0_0 l0_0.length c0_0,.int .i64 a0_1,.int .i64 a0_2,.int .i64 a0_3],.int .i64 a1,.int .i64 a2,.int .i64 (wrap64 (x12_1 - 1))] (by rfl) rfl rfl y1_ ?_
       with_reducible refine (tr_ahead.calls _ _ l0_0 a0_1 a0_2 a0_3 a1 a2 (wrap64 (x12_1 - 1)) t327 _ ?side1 ?side2 A8.out).mono ?_
       (case side1=>repeat (first|exact (Kd.C_below HR0_0.out HB.out)|(with_reducible refine Kd.C_alloc ?_ _)|(with_reducible refine Kd.C_drewN ?_ _)|(with_reducible refine Kd.C_drew ?_)))
       (case side2=>exact HC0_0.out)
       rintro e w21 ⟨rfl,hb⟩
       refine ⟨_,rfl,?_⟩
       have n0_:=A0_ (Kd.R_below (rd_ HO_11.out) hb);have n1_:=A0_ (blk_below (g:=gb326) (o:=.cells #[.slice A0_0 l0_0.length c0_0,.int .i64 a0_1,.int .i64 a0_2,.int .i64 a0_3] 29 (0,0)) (bd_ BK326.out) hb)
       have n2_:=A0_ (below_step (by repeat (first|(with_reducible first|exact HB.out|apply below_alloc|apply pw_below_drewN|apply below_drew1|refine below_set ?_ GE326.out)|exact HB.out)) hb)
       clear HO_11;clear BK326;clear HB;have HO_11:=n0_;have BK326:=n1_;have HB:=n2_;clear n0_ n1_ n2_;(try clear hb);(try clear hb2);(try clear hk);(try clear hi)
       refine hK.out _ _ ⟨(blk_cell BK326.out 0).trans rfl,(blk_cell BK326.out 1).trans rfl,(blk_cell BK326.out 2).trans rfl,(blk_cell BK326.out 3).trans rfl⟩ (fun hHeld=>?_)
       clear hK K
       refine norm_ (a':=?_) ?_ ?_
       rotate_left
       ·show Act.put _ (some 26) _=_
        simp only [Act.put,List.setIfInBounds_toArray,List.set_cons_zero,List.set_cons_succ,i64_w,i32_w]
        rfl
       refine one_ (i:=10) (N:=some 31) #[true,true,true,true,true,true,true,true,true,true,true,false,false] rfl rfl (one_of HT_.out (by kernel_rfl)) (by decide) (fun K hK=>?_)
       refine goes_ Tryz.func76 (by kernel_rfl) rfl #[.agg #[.slice A0_0 l0_0.length c0_0,.int .i64 a0_1,.int .i64 a0_2,.int .i64 a0_3],.int .i64 a1,.int .i64 a2,.int .i64 x12_1] (by rfl) rfl rfl y1_ ?_
       with_reducible refine (tr_ahead.calls _ _ l0_0 a0_1 a0_2 a0_3 a1 a2 x12_1 t328 _ ?side1 ?side2 A9.out).mono ?_
       (case side1=>repeat (first|exact (Kd.C_below HR0_0.out HB.out)|(with_reducible refine Kd.C_alloc ?_ _)|(with_reducible refine Kd.C_drewN ?_ _)|(with_reducible refine Kd.C_drew ?_)))
       (case side2=>exact HC0_0.out)
       rintro e w22 ⟨rfl,hb⟩
       refine ⟨_,rfl,?_⟩
       have n0_:=A0_ (Kd.R_below (rd_ HO_11.out) hb);have n1_:=A0_ (blk_below (g:=gb326) (o:=.cells #[.slice A0_0 l0_0.length c0_0,.int .i64 a0_1,.int .i64 a0_2,.int .i64 a0_3] 29 (0,0)) (bd_ BK326.out) hb)
       have n2_:=A0_ (below_step (by repeat (first|(with_reducible first|exact HB.out|apply below_alloc|apply pw_below_drewN|apply below_drew1|refine below_set ?_ GE326.out)|exact HB.out)) hb)
       clear HO_11;clear BK326;clear HB;have HO_11:=n0_;have BK326:=n1_;have HB:=n2_;clear n0_ n1_ n2_;(try clear hb);(try clear hb2);(try clear hk);(try clear hi)
       refine hK.out _ _ ⟨(blk_cell BK326.out 0).trans rfl,(blk_cell BK326.out 1).trans rfl,(blk_cell BK326.out 2).trans rfl,(blk_cell BK326.out 3).trans rfl⟩ (fun hHeld=>?_)
       clear hK K
       refine norm_ (a':=?_) ?_ ?_
       rotate_left
       ·show Act.put _ (some 31) _=_
        simp only [Act.put,List.setIfInBounds_toArray,List.set_cons_zero,List.set_cons_succ,i64_w,i32_w]
        rfl
       refine pu_ (i:=11) (N:=some 13) ?_;refine pu_ (i:=12) (N:=some 14) ?_
       refine done_ (done_of HT_.out (by kernel_rfl)) ?_
       try go_wp2_with (first|((with_reducible refine gate_callee (f:=77) rfl ?_);refine goesL_ (some 34) rfl rfl Tryz.func77 (by kernel_rfl) rfl #[.int .i64 t327,.int .i64 t328] rfl y1_ ?_;(with_reducible refine (tr_passed.calls t327 t328 false _ A10.out).mono ?_);rintro e w' ⟨rfl,⟨nd,rfl⟩⟩;refine ⟨_,rfl,?_⟩)|(go_at_call 77;(with_reducible refine (tr_passed.calls (wrap64 (-t327)) (wrap64 (-t328)) true _ A17.out).mono ?_);rintro e w' ⟨rfl,⟨nd,rfl⟩⟩)|((with_reducible refine gate_builtin (b:=.append) (xs:=#[.tmp 42,.tmp 44]) rfl ?_);at_builtin;refine Kd.R_append (Kd.int .i64) (w0:=w) w.heap.size rfl (.tmp 42) (.tmp 44) 40 3 (.int .i64 0) 8 rfl Tryz.underlying40 info3 rfl (by decide) (by omega) u11 x11_1 x12_1 [.int .i64 x12_1] (fun _=>True) (fun _=>False) rfl rfl ?aP (fun _ hk=>hk.elim) ?aF ?aO ?aB ?aS ?aL ?_;(case aP=>exact rfl);(case aB=>exact (by repeat (first|(with_reducible first|exact HB.out|apply below_alloc|apply pw_below_drewN|apply below_drew1|refine below_set ?_ GE326.out)|exact HB.out)));(case aF=>exact (fun _ _=>trivial));(case aO=>exact (rd_ HO_11.out));(case aS=>exact (below_size (by repeat (first|(with_reducible first|exact HB.out|apply below_alloc|apply pw_below_drewN|apply below_drew1|refine below_set ?_ GE326.out)|exact HB.out))));(case aL=>have:=LMc19.out;omega);intro v335 w23 ho hb hg hat;rw [← Ny334.out] at ho;have n0_:=A0_ (blk_grown (g:=gb326) (o:=.cells #[.slice A0_0 l0_0.length c0_0,.int .i64 a0_1,.int .i64 a0_2,.int .i64 a0_3] 29 (0,0)) (bd_ BK326.out) hg (Kd.R_ne HO_11.out BK326.out (by decide)));have n1_:=A0_ (hb);have n2_:=A0_ (ho);clear BK326;clear HB;clear HO_11;have BK326:=n0_;have HB:=n1_;have HO336:=n2_;clear n0_ n1_ n2_;clear ho hb hg hat))
       go_roundg k1
       case measure=>have:=HK1.out;omega
       case rel=>exact ⟨(y334),(wrap64 (x12_1+1)),y4_,H',⟨by have:=HK1.out;omega⟩,⟨by (with_reducible repeat (first|apply Kd.R_alloc|apply Kd.R_drewN|apply Kd.R_drew));exact HO336.out⟩,⟨by (with_reducible repeat (first|refine blk_drewN ?_ _|refine blk_drew ?_|refine blk_alloc ?_ _));exact BK326.out⟩,⟨(by repeat (first|(with_reducible first|exact HB.out|apply below_alloc|apply pw_below_drewN|apply below_drew1|refine below_set ?_ GE326.out)|exact HB.out))⟩⟩
      ·rw [if_neg c19] at H;exact absurd H (by simp)
     ·replace c18:=Bool.eq_false_iff.mpr c18;subst c18
      have H1:(tr_Meets.l0 k1 a1 a2 a4 x11_1 (wrap64 (x12_1+1)) l0_0 a0_1 a0_2 a0_3)=some r:=by rw [if_neg (show ¬ (false=true) by decide)] at H;exact H
      clear H;have H:=H1;clear H1
      have H':=A0_ H
      clear H
      try go_wp2
      have n0_:=A0_ (Kd.R_drew HO_11.out);have n1_:=A0_ (blk_drew BK326.out);have n2_:=A0_ (below_drew1 HB.out);clear HO_11;clear BK326;clear HB;have HO_11:=n0_;have BK326:=n1_;have HB:=n2_;clear n0_ n1_ n2_
      refine start_ (n:=13) (S:=fun w'=>w'.cell? ⟨gb326,0,none⟩=some (.slice A0_0 l0_0.length c0_0)∧w'.cell? ⟨gb326,1,none⟩=some (.int .i64 a0_1)∧w'.cell? ⟨gb326,2,none⟩=some (.int .i64 a0_2)∧w'.cell? ⟨gb326,3,none⟩=some (.int .i64 a0_3)) (ds:=[]) #[false,false,false,false,false,false,false,false,false,false,false,false,false] (by kernel_rfl) rfl rfl ⟨(blk_cell BK326.out 0).trans rfl,(blk_cell BK326.out 1).trans rfl,(blk_cell BK326.out 2).trans rfl,(blk_cell BK326.out 3).trans rfl⟩ (fun hHeld=>?_);refine with_tabW tr_Meets.tab5 tr_Meets.bits5 (fun HT_ HW_=>?_)
      generalize wr.drew=w24 at HO_11 BK326 HB hHeld ⊢
      refine pu_ (i:=1) (N:=some 22) ?_;refine pu_ (i:=2) (N:=some 23) ?_;refine pu_ (i:=3) (N:=some 24) ?_;refine pu_ (i:=4) (N:=some 25) ?_;refine pu_ (i:=7) (N:=some 28) ?_;refine pu_ (i:=8) (N:=some 29) ?_;refine pu_ (i:=9) (N:=some 30) ?_;refine ta_ (i:=0) (N:=some 21) ?_;refine ta_ (i:=6) (N:=some 27) ?_
      refine one_ (i:=5) (N:=some 26) #[true,true,true,true,true,true,true,true,true,true,false,false,false] rfl rfl (one_of HT_.out (by kernel_rfl)) (by decide) (fun K hK=>?_)
      refine goes_ Tryz.func76 (by kernel_rfl) rfl #[.agg #[.slice A0_0 l0_0.length c0_0,.int .i64 a0_1,.int .i64 a0_2,.int .i64 a0_3],.int .i64 a1,.int .i64 a2,.int .i64 (wrap64 (x12_1 - 1))] (by rfl) rfl rfl y1_ ?_
      with_reducible refine (tr_ahead.calls _ _ l0_0 a0_1 a0_2 a0_3 a1 a2 (wrap64 (x12_1 - 1)) t327 _ ?side1 ?side2 A8.out).mono ?_
      (case side1=>repeat (first|exact (Kd.C_below HR0_0.out HB.out)|(with_reducible refine Kd.C_alloc ?_ _)|(with_reducible refine Kd.C_drewN ?_ _)|(with_reducible refine Kd.C_drew ?_)))
      (case side2=>exact HC0_0.out)
      rintro e w25 ⟨rfl,hb⟩
      refine ⟨_,rfl,?_⟩
      have n0_:=A0_ (Kd.R_below (rd_ HO_11.out) hb);have n1_:=A0_ (blk_below (g:=gb326) (o:=.cells #[.slice A0_0 l0_0.length c0_0,.int .i64 a0_1,.int .i64 a0_2,.int .i64 a0_3] 29 (0,0)) (bd_ BK326.out) hb)
      have n2_:=A0_ (below_step (by repeat (first|(with_reducible first|exact HB.out|apply below_alloc|apply pw_below_drewN|apply below_drew1|refine below_set ?_ GE326.out)|exact HB.out)) hb)
      clear HO_11;clear BK326;clear HB;have HO_11:=n0_;have BK326:=n1_;have HB:=n2_;clear n0_ n1_ n2_;(try clear hb);(try clear hb2);(try clear hk);(try clear hi)
      refine hK.out _ _ ⟨(blk_cell BK326.out 0).trans rfl,(blk_cell BK326.out 1).trans rfl,(blk_cell BK326.out 2).trans rfl,(blk_cell BK326.out 3).trans rfl⟩ (fun hHeld=>?_)
      clear hK K
      refine norm_ (a':=?_) ?_ ?_
      rotate_left
      ·show Act.put _ (some 26) _=_
       simp only [Act.put,List.setIfInBounds_toArray,List.set_cons_zero,List.set_cons_succ,i64_w,i32_w]
       rfl
      refine one_ (i:=10) (N:=some 31) #[true,true,true,true,true,true,true,true,true,true,true,false,false] rfl rfl (one_of HT_.out (by kernel_rfl)) (by decide) (fun K hK=>?_)
      refine goes_ Tryz.func76 (by kernel_rfl) rfl #[.agg #[.slice A0_0 l0_0.length c0_0,.int .i64 a0_1,.int .i64 a0_2,.int .i64 a0_3],.int .i64 a1,.int .i64 a2,.int .i64 x12_1] (by rfl) rfl rfl y1_ ?_
      with_reducible refine (tr_ahead.calls _ _ l0_0 a0_1 a0_2 a0_3 a1 a2 x12_1 t328 _ ?side1 ?side2 A9.out).mono ?_
      (case side1=>repeat (first|exact (Kd.C_below HR0_0.out HB.out)|(with_reducible refine Kd.C_alloc ?_ _)|(with_reducible refine Kd.C_drewN ?_ _)|(with_reducible refine Kd.C_drew ?_)))
      (case side2=>exact HC0_0.out)
      rintro e w26 ⟨rfl,hb⟩
      refine ⟨_,rfl,?_⟩
      have n0_:=A0_ (Kd.R_below (rd_ HO_11.out) hb);have n1_:=A0_ (blk_below (g:=gb326) (o:=.cells #[.slice A0_0 l0_0.length c0_0,.int .i64 a0_1,.int .i64 a0_2,.int .i64 a0_3] 29 (0,0)) (bd_ BK326.out) hb)
      have n2_:=A0_ (below_step (by repeat (first|(with_reducible first|exact HB.out|apply below_alloc|apply pw_below_drewN|apply below_drew1|refine below_set ?_ GE326.out)|exact HB.out)) hb)
      clear HO_11;clear BK326;clear HB;have HO_11:=n0_;have BK326:=n1_;have HB:=n2_;clear n0_ n1_ n2_;(try clear hb);(try clear hb2);(try clear hk);(try clear hi)
      refine hK.out _ _ ⟨(blk_cell BK326.out 0).trans rfl,(blk_cell BK326.out 1).trans rfl,(blk_cell BK326.out 2).trans rfl,(blk_cell BK326.out 3).trans rfl⟩ (fun hHeld=>?_)
      clear hK K
      refine norm_ (a':=?_) ?_ ?_
      rotate_left
      ·show Act.put _ (some 31) _=_
       simp only [Act.put,List.setIfInBounds_toArray,List.set_cons_zero,List.set_cons_succ,i64_w,i32_w]
       rfl
      refine pu_ (i:=11) (N:=some 13) ?_;refine pu_ (i:=12) (N:=some 14) ?_
      refine done_ (done_of HT_.out (by kernel_rfl)) ?_
      try go_wp2_with (first|((with_reducible refine gate_callee (f:=77) rfl ?_);refine goesL_ (some 34) rfl rfl Tryz.func77 (by kernel_rfl) rfl #[.int .i64 t327,.int .i64 t328] rfl y1_ ?_;(with_reducible refine (tr_passed.calls t327 t328 false _ A10.out).mono ?_);rintro e w' ⟨rfl,⟨nd,rfl⟩⟩;refine ⟨_,rfl,?_⟩)|(go_at_call 77;(with_reducible refine (tr_passed.calls (wrap64 (-t327)) (wrap64 (-t328)) false _ A17.out).mono ?_);rintro e w' ⟨rfl,⟨nd,rfl⟩⟩))
      go_roundg k1
      case measure=>have:=HK1.out;omega
      case rel=>exact ⟨(x11_1),(wrap64 (x12_1+1)),y4_,H',⟨by have:=HK1.out;omega⟩,⟨by (with_reducible repeat (first|apply Kd.R_alloc|apply Kd.R_drewN|apply Kd.R_drew));exact HO_11.out⟩,⟨by (with_reducible repeat (first|refine blk_drewN ?_ _|refine blk_drew ?_|refine blk_alloc ?_ _));exact BK326.out⟩,⟨(by repeat (first|(with_reducible first|exact HB.out|apply below_alloc|apply pw_below_drewN|apply below_drew1|refine below_set ?_ GE326.out)|exact HB.out))⟩⟩
   ·rw [if_neg c7] at H;have c7b0:decide (x12_1≤a4)=false:=decide_eq_false c7;clear c7;obtain rfl:=Option.some.inj H;go_wp2;go_ret
    exact ⟨_,y2_,by (with_reducible repeat (first|apply Kd.R_alloc|apply Kd.R_drewN|apply Kd.R_drew));exact HO_11.out,(by repeat (first|(with_reducible first|exact HB.out|apply below_alloc|apply pw_below_drewN|apply below_drew1|refine below_set ?_ GE326.out)|exact HB.out))⟩
end Go.Proofs.YtjahbgldccjbfaaGreatDoor.PSky
end
section
namespace Go.Proofs.YtjahbgldccjbfaaGreatDoor.PSky
open Go.RowKit Go.Proofs.YtjahbgldccjbfaaGreatDoorW.PrintWords Go.Proofs.YtjahbgldccjbfaaGreatDoorW.PrintLast Go.Proofs.YtjahbgldccjbfaaGreatDoorW.PrintMore
theorem Ev.pos {α:Type} {c:Prop} [Decidable c] {f g:Nat→Option α} {r:α} (h:c) (k:Ev f r):Ev (fun n=>if c then f n else g n) r:=by simpa only [if_pos h] using k
theorem Ev.neg {α:Type} {c:Prop} [Decidable c] {f g:Nat→Option α} {r:α} (h:¬ c) (k:Ev g r):Ev (fun n=>if c then f n else g n) r:=by simpa only [if_neg h] using k
theorem Ev.some {α:Type} (r:α):Ev (fun _=>Option.some r) r:=Ev.now r
theorem Ev.is {α:Type} {o:Option α} {r:α} (h:o=Option.some r):Ev (fun _=>o) r:=by rw [h];exact Ev.now r
theorem wrap_id {n:Int} (h:-9223372036854775808≤n∧n≤9223372036854775807):wrap64 n=n:=by unfold wrap64;omega
theorem scan {β:Type} (l:List β) (bad:β→Bool) (g:Nat→Nat→Option Int) (hlen:l.length≤1000000)
  (hyes:∀ i (h:i<l.length),bad l[i]=true→Ev (fun k=>g k i) (i:Int))
  (hno:∀ i (h:i<l.length),bad l[i]=false→∀ r,Ev (fun k=>g k (i+1)) r→Ev (fun k=>g k i) r)
  (hend:Ev (fun k=>g k l.length) (-1)):∀ m i,i+m=l.length→∃ r,Ev (fun k=>g k i) r∧decide (r ≥ 0)=(l.drop i).any bad
 |0,i,h=>⟨-1,by rw [show i=l.length by omega];exact hend,by rw [show i=l.length by omega,List.drop_length];rfl⟩
 |m+1,i,h=>by
  have hi:i<l.length:=by omega
  rw [List.drop_eq_getElem_cons hi,List.any_cons]
  cases hb:bad l[i] with
  |true=>exact ⟨i,hyes i hi hb,by simp⟩
  |false=>
   obtain ⟨r,hr,he⟩:=scan l bad g hlen hyes hno hend m (i+1) (by omega)
   exact ⟨r,hno i hi hb r hr,by simpa using he⟩
def okIn (a b c:Int):Bool:=decide (b≤a) && decide (a≤c)
theorem in_eq (a b c:Int):sky_in.f a b c=some (okIn a b c):=by
 unfold sky_in.f okIn
 by_cases h:a ≥ b
 ·rw [if_pos h,decide_eq_true (show b≤a from h),Bool.true_and]
 ·rw [if_neg h,decide_eq_false (show ¬ b≤a from h),Bool.false_and]
theorem rin_eq (a b c:Int):tr_in.f a b c=some (okIn a b c):=in_eq a b c
def okPeriod (p q:Int):Bool:=okIn p 1 10000 && (okIn q 1 10000 && decide (4*q≤p))
theorem isPeriod_eq (p q:Int):sky_isPeriod.f p q=some (okPeriod p q):=by
 unfold sky_isPeriod.f okPeriod
 simp only [in_eq,Option.bind_some]
 cases h1:okIn p 1 10000 with
 |false=>rfl
 |true=>
  cases h2:okIn q 1 10000 with
  |false=>rfl
  |true=>
   have hq:wrap64 (4*q)=4*q:=wrap_id (by simp [okIn] at h2;omega)
   rw [hq]
   rfl
theorem period_eq (p q:Int):tr_period.f p q=some (okPeriod p q):=isPeriod_eq p q
def okPlace (n:Int):Bool:=okIn n 0 21599
theorem isPlace_eq (n:Int):sky_isPlace.f n=some (okPlace n):=by unfold sky_isPlace.f;rw [in_eq];rfl
theorem Spot_eq (n:Int):tr_Spot.f n=some (okPlace n):=isPlace_eq n
def okRoad (l:List Int):Bool:=!l.any (fun n=>!okIn n (-600) 600)
def okBody (b:S74):Bool:=okPeriod b.f0.f0 b.f0.f1 && (okPlace b.f1 && (okIn (b.f2.length:Int) 1 8 && okRoad b.f2))
def okSky (l:List S74) (p q n:Int):Bool:=okIn (l.length:Int) 2 4 && (okPeriod p q && (okPlace n && !l.any (fun b=>!okBody b)))
theorem rd_get (l:List Int) (i:Nat) (h:i<l.length):rd l (i:Int)=l[i]:=by unfold rd;simp [h]
theorem rdT_get (l:List S74) (i:Nat) (h:i<l.length):rd_T74 l (i:Int)=l[i]:=by unfold rd_T74;simp [h]
theorem road_ev (l:List Int) (hl:l.length≤1000000):Ev (fun k=>cF_isSky_c1_c1.f k l) (l.any (fun n=>!okIn n (-600) 600)):=by
 obtain ⟨r,hr,he⟩:=scan l (fun n=>!okIn n (-600) 600) (fun k i=>iF_isSky_c1_c1.l0 k l (l.length:Int) (i:Int)) hl
  (fun i h hb=>by
   refine Ev.step (fun k=>by rw [iF_isSky_c1_c1.l0]) ?_
   refine Ev.pos (by omega) (Ev.pos (by omega) (Ev.pos (by omega) ?_))
   refine Ev.bind (a:=true) (Ev.is (by unfold sky_isSky_c1_c1.f;rw [in_eq,rd_get l i h];simp [hb])) ?_
   exact Ev.pos rfl (Ev.now _))
  (fun i h hb r hr=>by
   refine Ev.step (fun k=>by rw [iF_isSky_c1_c1.l0]) ?_
   refine Ev.pos (by omega) (Ev.pos (by omega) (Ev.pos (by omega) ?_))
   refine Ev.bind (a:=false) (Ev.is (by unfold sky_isSky_c1_c1.f;rw [in_eq,rd_get l i h];simp [hb])) ?_
   refine Ev.neg (by simp) ?_
   rw [wrap_id (by omega)]
   exact hr)
  (by
   refine Ev.step (fun k=>by rw [iF_isSky_c1_c1.l0]) ?_
   exact Ev.neg (by omega) (Ev.now _)) l.length 0 (by omega)
 unfold cF_isSky_c1_c1.f iF_isSky_c1_c1.f
 refine Ev.bind hr ?_
 rw [he]
 exact Ev.now _
theorem body_ev (b:S74):Ev (fun k=>sky_isSky_c1.f k b.f0.f0 b.f0.f1 b.f1 b.f2) (!okBody b):=by
 unfold sky_isSky_c1.f okBody
 refine Ev.bind (Ev.is (isPeriod_eq _ _)) ?_
 cases h1:okPeriod b.f0.f0 b.f0.f1 with
 |false=>exact Ev.neg (by simp) (Ev.now _)
 |true=>
  refine Ev.pos rfl (Ev.bind (Ev.is (isPlace_eq _)) ?_)
  cases h2:okPlace b.f1 with
  |false=>exact Ev.neg (by simp) (Ev.now _)
  |true=>
   refine Ev.pos rfl (Ev.bind (Ev.is (in_eq _ _ _)) ?_)
   cases h3:okIn (b.f2.length:Int) 1 8 with
   |false=>exact Ev.neg (by simp) (Ev.now _)
   |true=>
    refine Ev.pos rfl (Ev.bind (road_ev b.f2 (by simp [okIn] at h3;omega)) ?_)
    simp only [okRoad,Bool.true_and,Bool.not_not]
    exact Ev.now _
theorem bodies_ev (l:List S74) (hl:l.length≤1000000):Ev (fun k=>cF_isSky_c1.f k l) (l.any (fun b=>!okBody b)):=by
 obtain ⟨r,hr,he⟩:=scan l (fun b=>!okBody b) (fun k i=>iF_isSky_c1.l0 k l (l.length:Int) (i:Int)) hl
  (fun i h hb=>by
   refine Ev.step (fun k=>by rw [iF_isSky_c1.l0]) ?_
   refine Ev.pos (by omega) (Ev.pos (by omega) (Ev.pos (by omega) ?_))
   rw [rdT_get l i h]
   refine Ev.bind (body_ev _) ?_
   rw [hb]
   exact Ev.pos rfl (Ev.now _))
  (fun i h hb r hr=>by
   refine Ev.step (fun k=>by rw [iF_isSky_c1.l0]) ?_
   refine Ev.pos (by omega) (Ev.pos (by omega) (Ev.pos (by omega) ?_))
   rw [rdT_get l i h]
   refine Ev.bind (body_ev _) ?_
   rw [hb]
   refine Ev.neg (by simp) ?_
   rw [wrap_id (by omega)]
   exact hr)
  (by
   refine Ev.step (fun k=>by rw [iF_isSky_c1.l0]) ?_
   exact Ev.neg (by omega) (Ev.now _)) l.length 0 (by omega)
 unfold cF_isSky_c1.f iF_isSky_c1.f
 refine Ev.bind hr ?_
 rw [he]
 exact Ev.now _
theorem isSky_ev (l:List S74) (p q n:Int):Ev (fun k=>sky_isSky.f k l p q n) (okSky l p q n):=by
 unfold sky_isSky.f okSky
 refine Ev.bind (Ev.is (in_eq _ _ _)) ?_
 cases h1:okIn (l.length:Int) 2 4 with
 |false=>exact Ev.neg (by simp) (Ev.now _)
 |true=>
  refine Ev.pos rfl (Ev.bind (Ev.is (isPeriod_eq _ _)) ?_)
  cases h2:okPeriod p q with
  |false=>exact Ev.neg (by simp) (Ev.now _)
  |true=>
   refine Ev.pos rfl (Ev.bind (Ev.is (isPlace_eq _)) ?_)
   cases h3:okPlace n with
   |false=>exact Ev.neg (by simp) (Ev.now _)
   |true=>
    refine Ev.pos rfl (Ev.bind (bodies_ev l (by simp [okIn] at h1;omega)) ?_)
    simp only [Bool.true_and]
    exact Ev.now _
theorem refroad_ok (l:List S74) (p q n:Int) (i:Int) (b:S74) (hb:b.f2.length≤1000000) (r:Bool) (hall:∀ x∈b.f2,okIn x (-600) 600=true)
  (hr:Ev (fun k=>tr_Sky.l0 k (wrap64 (i+1)) l p q n) r):∀ m j:Nat,j+m=b.f2.length →
  Ev (fun k=>tr_Sky.l1 k i (j:Int) l p q n b.f0.f0 b.f0.f1 b.f1 b.f2) r
 |0,j,h=>by
  refine Ev.step (fun k=>by rw [tr_Sky.l1]) ?_
  exact Ev.neg (by omega) hr
 |m+1,j,h=>by
  have hj:j<b.f2.length:=by omega
  refine Ev.step (fun k=>by rw [tr_Sky.l1]) ?_
  refine Ev.pos (by omega) (Ev.pos (by omega) ?_)
  refine Ev.bind (a:=true) (Ev.is (by rw [rin_eq,rd_get _ j hj,hall _ (List.getElem_mem hj)])) (Ev.pos rfl ?_)
  rw [wrap_id (by omega)]
  exact refroad_ok l p q n i b hb r hall hr m (j+1) (by omega)
theorem refroad_bad (l:List S74) (p q n:Int) (i:Int) (b:S74) (hb:b.f2.length≤1000000):∀ m j:Nat,j+m=b.f2.length→(b.f2.drop j).any (fun n=>!okIn n (-600) 600)=true →
  Ev (fun k=>tr_Sky.l1 k i (j:Int) l p q n b.f0.f0 b.f0.f1 b.f1 b.f2) false
 |0,j,h,hbad=>by
  rw [show j=b.f2.length by omega,List.drop_length] at hbad
  cases hbad
 |m+1,j,h,hbad=>by
  have hj:j<b.f2.length:=by omega
  rw [List.drop_eq_getElem_cons hj,List.any_cons] at hbad
  refine Ev.step (fun k=>by rw [tr_Sky.l1]) ?_
  refine Ev.pos (by omega) (Ev.pos (by omega) ?_)
  refine Ev.bind (Ev.is (by rw [rin_eq,rd_get _ j hj])) ?_
  cases hq:okIn b.f2[j] (-600) 600 with
  |false=>exact Ev.neg (by simp) (Ev.now _)
  |true=>
   rw [hq] at hbad
   refine Ev.pos rfl ?_
   rw [wrap_id (by omega)]
   exact refroad_bad l p q n i b hb m (j+1) (by omega) (by simpa using hbad)
theorem refSky_loop (l:List S74) (p q n:Int) (hl:l.length≤1000000):∀ m i:Nat,i+m=l.length →
  Ev (fun k=>tr_Sky.l0 k (i:Int) l p q n) ((l.drop i).all okBody && (okIn (l.length:Int) 2 4 && (okPeriod p q && okPlace n)))
 |0,i,h=>by
  rw [show i=l.length by omega,List.drop_length]
  refine Ev.step (fun k=>by rw [tr_Sky.l0]) ?_
  refine Ev.neg (by omega) (Ev.bind (Ev.is (rin_eq _ _ _)) ?_)
  cases h1:okIn (l.length:Int) 2 4 with
  |false=>exact Ev.neg (by simp) (Ev.now _)
  |true=>
   refine Ev.pos rfl (Ev.bind (Ev.is (period_eq _ _)) ?_)
   cases h2:okPeriod p q with
   |false=>exact Ev.neg (by simp) (Ev.now _)
   |true=>
    refine Ev.pos rfl (Ev.bind (Ev.is (Spot_eq _)) ?_)
    simp only [List.all_nil,Bool.true_and]
    exact Ev.now _
 |m+1,i,h=>by
  have hi:i<l.length:=by omega
  rw [List.drop_eq_getElem_cons hi,List.all_cons]
  have ih:=refSky_loop l p q n hl m (i+1) (by omega)
  refine Ev.step (fun k=>by rw [tr_Sky.l0]) ?_
  refine Ev.pos (by omega) (Ev.pos (by omega) ?_)
  rw [rdT_get l i hi]
  generalize l[i]=b
  have bad:∀ R:Bool,Ev (fun k=>tr_Sky.j1 k (i:Int) true l p q n b.f0.f0 b.f0.f1 b.f1 b.f2) (false && R):=fun R=>by
   refine Ev.step (fun k=>by rw [tr_Sky.j1]) ?_
   exact Ev.pos rfl (Ev.now _)
  unfold okBody
  refine Ev.bind (Ev.is (period_eq _ _)) ?_
  cases h1:okPeriod b.f0.f0 b.f0.f1 with
  |false=>exact Ev.neg (by simp) (bad _)
  |true=>
   refine Ev.pos rfl (Ev.bind (Ev.is (Spot_eq _)) ?_)
   cases h2:okPlace b.f1 with
   |false=>exact Ev.neg (by simp) (bad _)
   |true=>
    refine Ev.pos rfl (Ev.bind (Ev.is (rin_eq _ _ _)) ?_)
    cases h3:okIn (b.f2.length:Int) 1 8 with
    |false=>exact bad _
    |true=>
     have hbl:b.f2.length≤1000000:=by simp [okIn] at h3;omega
     refine Ev.step (fun k=>by rw [tr_Sky.j1]) ?_
     refine Ev.neg (by simp) ?_
     cases h4:okRoad b.f2 with
     |false=>exact refroad_bad l p q n i b hbl b.f2.length 0 (by omega) (by simpa [okRoad] using h4)
     |true=>
      simp only [Bool.true_and]
      have h5:∀ x∈b.f2,okIn x (-600) 600=true:=by
       intro x hx
       unfold okRoad at h4
       cases hq:okIn x (-600) 600 with
       |true=>rfl
       |false=>
        have:b.f2.any (fun n=>!okIn n (-600) 600)=true:=List.any_eq_true.mpr ⟨x,hx,by simp [hq]⟩
        rw [this] at h4
        cases h4
      refine refroad_ok l p q n i b hbl _ h5 ?_ b.f2.length 0 (by omega)
      rw [wrap_id (by omega)]
      exact ih
theorem any_all (f:S74→Bool) (l:List S74):(!l.any (fun b=>!f b))=l.all f:=by
 induction l with
 |nil=>rfl
 |cons b t ih=>simp [ih]
theorem refSky_ev (l:List S74) (p q n:Int) (hl:l.length≤1000000):Ev (fun k=>tr_Sky.f k l p q n) (okSky l p q n):=by
 have h:=refSky_loop l p q n hl l.length 0 (by omega)
 rw [List.drop_zero] at h
 have e:okSky l p q n=(l.all okBody && (okIn (l.length:Int) 2 4 && (okPeriod p q && okPlace n))):=by
  unfold okSky
  rw [any_all]
  cases l.all okBody <;> cases okIn (l.length:Int) 2 4 <;> cases okPeriod p q <;> cases okPlace n <;> rfl
 rw [e]
 exact h
theorem short_ev (l:List S74) (p q n:Int):∃ b,Ev (fun k=>tl_short.f k l p q n) b∧(b=true→l.length≤6):=by
 have key:∀ m i:Nat,i+m=7→∃ b,Ev (fun k=>tl_short.l0 k (i:Int) l p q n) b∧(b=true→l.length≤6):=by
  intro m
  induction m with
  |zero=>
   intro i h
   have fin:∀ c:Bool,c=false→Ev (fun k=>tl_short.j1 k (i:Int) c l p q n) (decide ((l.length:Int)≤6)):=fun c hc=>by
    refine Ev.step (fun k=>by rw [tl_short.j1]) ?_
    exact Ev.neg (by simp [hc]) (Ev.now _)
   refine ⟨decide ((l.length:Int)≤6),?_,fun h=>by have:=of_decide_eq_true h;omega⟩
   refine Ev.step (fun k=>by rw [tl_short.l0]) ?_
   by_cases hi:(i:Int)<(l.length:Int)
   ·exact Ev.pos hi (fin _ (decide_eq_false (by omega)))
   ·exact Ev.neg hi (fin _ rfl)
  |succ m ih=>
   intro i h
   by_cases hi:(i:Int)<(l.length:Int)
   ·by_cases hr:((rd_T74 l (i:Int)).f2.length:Int) > 10
    ·refine ⟨false,?_,fun h=>by cases h⟩
     refine Ev.step (fun k=>by rw [tl_short.l0]) (Ev.pos hi ?_)
     refine Ev.step (fun k=>by rw [tl_short.j1]) (Ev.pos (by simp;omega) ?_)
     exact Ev.pos (by omega) (Ev.pos hi (Ev.pos hr (Ev.now _)))
    ·obtain ⟨b,hb,hb6⟩:=ih (i+1) (by omega)
     refine ⟨b,?_,hb6⟩
     refine Ev.step (fun k=>by rw [tl_short.l0]) (Ev.pos hi ?_)
     refine Ev.step (fun k=>by rw [tl_short.j1]) (Ev.pos (by simp;omega) ?_)
     refine Ev.pos (by omega) (Ev.pos hi (Ev.neg hr ?_))
     rw [wrap_id (by omega)]
     exact hb
   ·refine ⟨decide ((l.length:Int)≤6),?_,fun h=>by have:=of_decide_eq_true h;omega⟩
    refine Ev.step (fun k=>by rw [tl_short.l0]) (Ev.neg hi ?_)
    refine Ev.step (fun k=>by rw [tl_short.j1]) ?_
    exact Ev.neg (by simp) (Ev.now _)
 unfold tl_short.f
 exact key 7 0 rfl
def okSpan (a b:Int):Bool:=okIn a 1 20000 && (okIn b a 20000 && decide (b - a≤800))
theorem isSpan_eq (a b:Int):sky_isSpan.f a b=some (okSpan a b):=by
 unfold sky_isSpan.f okSpan
 rw [in_eq,Option.bind_some]
 cases h1:okIn a 1 20000 with
 |false=>rfl
 |true=>
  rw [in_eq]
  cases h2:okIn b a 20000 with
  |false=>rfl
  |true=>
   have hq:wrap64 (b - a)=b - a:=wrap_id (by simp [okIn] at h1 h2;omega)
   rw [hq]
   rfl
end Go.Proofs.YtjahbgldccjbfaaGreatDoor.PSky
end
section
namespace Go.Proofs.YtjahbgldccjbfaaGreatDoor.PSky
open Go.RowKit Go.Proofs.YtjahbgldccjbfaaGreatDoorW.PrintWords Go.Proofs.YtjahbgldccjbfaaGreatDoorW.PrintLast Go.Proofs.YtjahbgldccjbfaaGreatDoorW.PrintMore
theorem tquot {a b:Int} (hb:0<b):(Int.tmod a b<0→a / b=Int.tdiv a b - 1∧a % b=Int.tmod a b+b)∧(0≤Int.tmod a b→a / b=Int.tdiv a b∧a % b=Int.tmod a b):=by
 have h1:=Int.tmod_add_mul_tdiv a b
 have h2:=Int.tmod_lt_of_pos a hb
 have h3:=Int.lt_tmod_of_pos a hb
 refine ⟨fun h=>?_,fun h=>?_⟩
 ·exact (Int.ediv_emod_unique hb).mpr ⟨by rw [Int.mul_sub,Int.mul_one];omega,by omega,by omega⟩
 ·exact (Int.ediv_emod_unique hb).mpr ⟨by omega,h,h2⟩
theorem tdiv_le {a b:Int} (hb:0<b) {m:Int} (ha:-m≤a∧a≤m) (hm:0≤m):-m - 1≤a / b∧a / b≤m:=by
 constructor
 ·have:(-m - 1)≤a / b:=by
   rw [Int.le_ediv_iff_mul_le hb]
   have:=Int.mul_le_mul_of_nonneg_left (show (1:Int)≤b by omega) (show (0:Int)≤m+1 by omega)
   have e:(-m - 1)*b = -((m+1)*b):=by rw [← Int.neg_mul];congr 1;omega
   omega
  exact this
 ·have:a / b≤m:=by
   have h1:a / b*b≤a:=Int.ediv_mul_le a (by omega)
   rcases Int.lt_or_le (a / b) 0 with h|h
   ·omega
   ·have:=Int.mul_le_mul_of_nonneg_left (show (1:Int)≤b by omega) h
    omega
  exact this
theorem floor_eq {a b:Int} (hb:0<b) (hb2:b≤1000000000000) (ha:-1000000000000000000≤a∧a≤1000000000000000000):sky_floor.f a b=some (a / b,a % b):=by
 have q:=tdiv_le hb ha (by decide)
 have m0:=Int.emod_nonneg a (show b≠0 by omega)
 have m1:=Int.emod_lt_of_pos a hb
 unfold sky_floor.f
 rw [if_neg (by omega)]
 by_cases h:Int.tmod a b<0
 ·obtain ⟨e1,e2⟩:=(tquot (a:=a) hb).1 h
  rw [if_pos h,e1,e2]
  rw [e1] at q
  rw [e2] at m0 m1
  rw [wrap_id (show -9223372036854775808≤a.tdiv b∧a.tdiv b≤9223372036854775807 by omega),wrap_id (by omega),wrap_id (by omega)]
 ·obtain ⟨e1,e2⟩:=(tquot (a:=a) hb).2 (by omega)
  rw [if_neg h,e1,e2]
  rw [e1] at q
  rw [wrap_id (show -9223372036854775808≤a.tdiv b∧a.tdiv b≤9223372036854775807 by omega)]
theorem around_eq {a:Int} (ha:-1000000000000000000≤a∧a≤1000000000000000000):sky_around.f a=some (a % 21600):=by
 unfold sky_around.f
 rw [floor_eq (by decide) (by decide) ha]
 rfl
theorem down_eq {a b:Int} (hb:0<b) (hb2:b≤1000000) (ha:-1000000000000≤a∧a≤1000000000000):tr_down.f a b=some (a / b):=by
 have q:=tdiv_le hb ha (by decide)
 have h0:=Int.tmod_add_mul_tdiv a b
 have h2:=Int.tmod_lt_of_pos a hb
 have h3:=Int.lt_tmod_of_pos a hb
 have e0:a.tdiv b*b=b*a.tdiv b:=Int.mul_comm _ _
 unfold tr_down.f
 rw [if_neg (by omega)]
 by_cases h:Int.tmod a b<0
 ·obtain ⟨e1,e2⟩:=(tquot (a:=a) hb).1 h
  rw [e1] at q ⊢
  rw [wrap_id (show -9223372036854775808≤a.tdiv b∧a.tdiv b≤9223372036854775807 by omega),wrap_id (show -9223372036854775808≤a.tdiv b*b∧a.tdiv b*b≤9223372036854775807 by omega),if_pos (by omega),wrap_id (by omega)]
 ·obtain ⟨e1,e2⟩:=(tquot (a:=a) hb).2 (by omega)
  rw [e1] at q ⊢
  rw [wrap_id (show -9223372036854775808≤a.tdiv b∧a.tdiv b≤9223372036854775807 by omega),wrap_id (show -9223372036854775808≤a.tdiv b*b∧a.tdiv b*b≤9223372036854775807 by omega),if_neg (by omega)]
theorem Less_eq {a:Int} (ha:-1000000000000≤a∧a≤1000000000000):tr_Less.f a=some (a % 21600):=by
 unfold tr_Less.f
 rw [down_eq (by decide) (by decide) ha,Option.bind_some]
 have h1:=Int.emod_add_mul_ediv a 21600
 have h2:=Int.emod_nonneg a (show (21600:Int)≠0 by decide)
 have h3:=Int.emod_lt_of_pos a (show (0:Int)<21600 by decide)
 rw [wrap_id (show -9223372036854775808≤a / 21600*21600∧a / 21600*21600≤9223372036854775807 by omega),wrap_id (by omega)]
 congr 1
 omega
def goneOf (p q d:Int):Int:=d*21600*q / p
def meanOf (b:S74) (d:Int):Int:=b.f1+goneOf b.f0.f0 b.f0.f1 d
def stepOf (b:S74) (d:Int):Int:=(meanOf b d % 21600)*(b.f2.length:Int)
def wayOf (b:S74) (d:Int):Int:=
 meanOf b d+rd b.f2 (stepOf b d / 21600)+(rd b.f2 ((stepOf b d / 21600+1) % (b.f2.length:Int)) - rd b.f2 (stepOf b d / 21600))*(stepOf b d % 21600) / 21600
theorem okIn_iff {a b c:Int}:okIn a b c=true ↔ b≤a∧a≤c:=by simp [okIn]
theorem period_of {p q:Int} (h:okPeriod p q=true):1≤p∧p≤10000∧1≤q∧q≤10000∧4*q≤p:=by
 simp only [okPeriod,Bool.and_eq_true,okIn_iff,decide_eq_true_eq] at h
 omega
theorem gone_bounds {p q d:Int} (h:okPeriod p q=true) (hd:0≤d∧d≤20000):0≤goneOf p q d∧goneOf p q d≤108000000∧0≤d*21600*q∧d*21600*q≤4320000000000:=by
 have hp:=period_of h
 have h1:d*21600*q=d*q*21600:=by rw [Int.mul_assoc,Int.mul_comm 21600 q,← Int.mul_assoc]
 have h0:0≤d*q:=Int.mul_nonneg hd.1 (by omega)
 have h2:d*q≤20000*q:=Int.mul_le_mul_of_nonneg_right hd.2 (by omega)
 refine ⟨Int.ediv_nonneg (by omega) (by omega),?_,by omega,by omega⟩
 unfold goneOf
 have h3:d*21600*q / p*p≤d*21600*q:=Int.ediv_mul_le _ (by omega)
 rcases Int.lt_or_le (d*21600*q / p) 108000001 with h4|h4
 ·omega
 ·have h5:=Int.mul_le_mul h4 (show 4*q≤p by omega) (by omega) (by omega)
  have h6:108000001*(4*q)=432000004*q:=by omega
  omega
theorem mean_bounds {b:S74} {d:Int} (h:okBody b=true) (hd:0≤d∧d≤20000):0≤meanOf b d∧meanOf b d≤108021599:=by
 simp only [okBody,Bool.and_eq_true,okPlace,okIn_iff] at h
 have:=gone_bounds h.1 hd
 unfold meanOf
 omega
theorem road_bounds {b:S74} (h:okBody b=true) (i:Int):-600≤rd b.f2 i∧rd b.f2 i≤600:=by
 simp only [okBody,Bool.and_eq_true] at h
 have h4:=h.2.2.2
 unfold rd
 rw [List.getD_eq_getElem?_getD]
 cases hq:b.f2[i.toNat]? with
 |none=>decide
 |some x=>
  have hx:=List.mem_of_getElem? hq
  have:okIn x (-600) 600=true:=by
   cases h5:okIn x (-600) 600 with
   |true=>rfl
   |false=>
    unfold okRoad at h4
    rw [List.any_eq_true.mpr ⟨x,hx,by simp [h5]⟩] at h4
    cases h4
  exact okIn_iff.mp this
theorem body_len {b:S74} (h:okBody b=true):1≤b.f2.length∧b.f2.length≤8:=by
 simp only [okBody,Bool.and_eq_true,okIn_iff] at h
 omega
theorem step_bounds {b:S74} {d:Int} (h:okBody b=true):0≤stepOf b d∧stepOf b d≤172800∧0≤stepOf b d / 21600∧stepOf b d / 21600<(b.f2.length:Int):=by
 have hl:=body_len h
 have h2:=Int.emod_nonneg (meanOf b d) (show (21600:Int)≠0 by decide)
 have h3:=Int.emod_lt_of_pos (meanOf b d) (show (0:Int)<21600 by decide)
 unfold stepOf
 generalize meanOf b d % 21600=x at h2 h3 ⊢
 have h4:0≤x*(b.f2.length:Int):=Int.mul_nonneg h2 (by omega)
 have h5:x*(b.f2.length:Int)≤21599*(b.f2.length:Int):=Int.mul_le_mul_of_nonneg_right (by omega) (by omega)
 refine ⟨h4,by omega,by omega,by omega⟩
theorem gone_eq (l:List S74) (a1 a2 a3:Int) {p q d:Int} (h:okPeriod p q=true) (hd:0≤d∧d≤20000):ss_gone.f l a1 a2 a3 d p q=some (goneOf p q d):=by
 have hg:=gone_bounds h hd
 have hp:=period_of h
 unfold ss_gone.f
 rw [wrap_id (show -9223372036854775808≤d*21600∧d*21600≤9223372036854775807 by omega),wrap_id (by omega),floor_eq (by omega) (by omega) (by omega)]
 rfl
theorem sum2_ev (a b:Int) (h:-1000000000≤a∧a≤1000000000) (h':-1000000000≤b∧b≤1000000000):Ev (fun k=>sky_sum.f k [a,b]) (a+b):=by
 unfold sky_sum.f
 rw [show (([a,b].length:Nat):Int)=2 from rfl]
 have w1:wrap64 (0+1)=1:=by kernel_rfl
 have w2:wrap64 (1+1)=2:=by kernel_rfl
 refine Ev.step (fun k=>by rw [sky_sum.l0]) ?_
 refine Ev.pos (by decide) (Ev.pos (by decide) (Ev.pos (by show (0:Int)<2;decide) ?_))
 rw [w1]
 refine Ev.step (fun k=>by rw [sky_sum.l0]) ?_
 refine Ev.pos (by decide) (Ev.pos (by decide) (Ev.pos (by show (1:Int)<2;decide) ?_))
 rw [w2]
 refine Ev.step (fun k=>by rw [sky_sum.l0]) ?_
 refine Ev.neg (by decide) ?_
 rw [show rd [a,b] 0=a from rfl,show rd [a,b] 1=b from rfl,wrap_id (show -9223372036854775808≤0+a∧0+a≤9223372036854775807 by omega),wrap_id (by omega),Int.zero_add]
 exact Ev.now _
theorem sum3_ev (a b c:Int) (h:-1000000000≤a∧a≤1000000000) (h':-1000000000≤b∧b≤1000000000) (h'':-1000000000≤c∧c≤1000000000):Ev (fun k=>sky_sum.f k [a,b,c]) (a+b+c):=by
 unfold sky_sum.f
 rw [show (([a,b,c].length:Nat):Int)=3 from rfl]
 have w1:wrap64 (0+1)=1:=by kernel_rfl
 have w2:wrap64 (1+1)=2:=by kernel_rfl
 have w3:wrap64 (2+1)=3:=by kernel_rfl
 refine Ev.step (fun k=>by rw [sky_sum.l0]) ?_
 refine Ev.pos (by decide) (Ev.pos (by decide) (Ev.pos (by show (0:Int)<3;decide) ?_))
 rw [w1]
 refine Ev.step (fun k=>by rw [sky_sum.l0]) ?_
 refine Ev.pos (by decide) (Ev.pos (by decide) (Ev.pos (by show (1:Int)<3;decide) ?_))
 rw [w2]
 refine Ev.step (fun k=>by rw [sky_sum.l0]) ?_
 refine Ev.pos (by decide) (Ev.pos (by decide) (Ev.pos (by show (2:Int)<3;decide) ?_))
 rw [w3]
 refine Ev.step (fun k=>by rw [sky_sum.l0]) ?_
 refine Ev.neg (by decide) ?_
 rw [show rd [a,b,c] 0=a from rfl,show rd [a,b,c] 1=b from rfl,show rd [a,b,c] 2=c from rfl,wrap_id (show -9223372036854775808≤0+a∧0+a≤9223372036854775807 by omega),wrap_id (show -9223372036854775808≤0+a+b∧0+a+b≤9223372036854775807 by omega),wrap_id (by omega),Int.zero_add]
 exact Ev.now _
theorem mean_ev (l:List S74) (a1 a2 a3 d:Int) (i:Nat) (hi:i<l.length) (h:okBody l[i]=true) (hd:0≤d∧d≤20000):Ev (fun k=>ss_mean.f k l a1 a2 a3 d (i:Int)) (meanOf l[i] d):=by
 unfold ss_mean.f
 refine Ev.pos (by omega) (Ev.pos (by omega) ?_)
 rw [rdT_get l i hi]
 generalize l[i]=b at h
 have hp:okPeriod b.f0.f0 b.f0.f1=true:=by simp only [okBody,Bool.and_eq_true] at h;exact h.1
 have hs:0≤b.f1∧b.f1≤21599:=by simp only [okBody,Bool.and_eq_true,okPlace,okIn_iff] at h;exact h.2.1
 have hg:=gone_bounds hp hd
 refine Ev.bind (Ev.is (gone_eq l a1 a2 a3 hp hd)) (Ev.bind (sum2_ev _ _ (by omega) (by omega)) (Ev.now _))
theorem way_ev (l:List S74) (a1 a2 a3 d:Int) (i:Nat) (hi:i<l.length) (h:okBody l[i]=true) (hd:0≤d∧d≤20000):Ev (fun k=>ss_way.f k l a1 a2 a3 d (i:Int)) (wayOf l[i] d):=by
 have hm:=mean_ev l a1 a2 a3 d i hi h hd
 unfold ss_way.f
 refine Ev.pos (by omega) (Ev.pos (by omega) (Ev.bind hm ?_))
 rw [rdT_get l i hi]
 generalize l[i]=b at h
 have hmb:=mean_bounds h hd
 have hl:=body_len h
 have hs:=step_bounds (d:=d) h
 refine Ev.bind (Ev.is (around_eq (by omega))) ?_
 rw [show meanOf b d % 21600*(b.f2.length:Int)=stepOf b d from rfl,wrap_id (show -9223372036854775808≤stepOf b d∧stepOf b d≤9223372036854775807 by omega)]
 refine Ev.bind (Ev.is (floor_eq (by decide) (by decide) (by omega))) ?_
 simp only
 rw [wrap_id (show -9223372036854775808≤stepOf b d / 21600+1∧stepOf b d / 21600+1≤9223372036854775807 by omega)]
 have ht:Int.tmod (stepOf b d / 21600+1) (b.f2.length:Int)=(stepOf b d / 21600+1) % (b.f2.length:Int):=Int.tmod_eq_emod_of_nonneg (by omega)
 rw [ht]
 have h2:=Int.emod_nonneg (stepOf b d / 21600+1) (show (b.f2.length:Int)≠0 by omega)
 have h3:=Int.emod_lt_of_pos (stepOf b d / 21600+1) (show (0:Int)<(b.f2.length:Int) by omega)
 refine Ev.neg (by omega) (Ev.pos h2 (Ev.pos h3 (Ev.pos hs.2.2.1 (Ev.pos hs.2.2.2 ?_))))
 have r1:=road_bounds h (stepOf b d / 21600)
 have r2:=road_bounds h ((stepOf b d / 21600+1) % (b.f2.length:Int))
 have p0:=Int.emod_nonneg (stepOf b d) (show (21600:Int)≠0 by decide)
 have p1:=Int.emod_lt_of_pos (stepOf b d) (show (0:Int)<21600 by decide)
 unfold wayOf
 generalize rd b.f2 (stepOf b d / 21600)=x at r1 ⊢
 generalize rd b.f2 ((stepOf b d / 21600+1) % (b.f2.length:Int))=y at r2 ⊢
 generalize stepOf b d % 21600=z at p0 p1 ⊢
 have q:-25920000≤(y - x)*z∧(y - x)*z≤25920000:=by
  constructor
  ·have:=Int.mul_le_mul_of_nonneg_right (show -1200≤y - x by omega) p0
   omega
  ·have:=Int.mul_le_mul_of_nonneg_right (show y - x≤1200 by omega) p0
   omega
 rw [wrap_id (show -9223372036854775808≤y - x∧y - x≤9223372036854775807 by omega),wrap_id (show -9223372036854775808≤(y - x)*z∧(y - x)*z≤9223372036854775807 by omega)]
 refine Ev.bind (Ev.is (floor_eq (by decide) (by decide) (by omega))) (Ev.bind (sum3_ev _ _ _ (by omega) (by omega) (by simp only;omega)) (Ev.now _))
theorem way_bounds {b:S74} {d:Int} (h:okBody b=true) (hd:0≤d∧d≤20000):-2000≤wayOf b d∧wayOf b d≤108030000:=by
 have hmb:=mean_bounds h hd
 have r1:=road_bounds h (stepOf b d / 21600)
 have r2:=road_bounds h ((stepOf b d / 21600+1) % (b.f2.length:Int))
 have p0:=Int.emod_nonneg (stepOf b d) (show (21600:Int)≠0 by decide)
 have p1:=Int.emod_lt_of_pos (stepOf b d) (show (0:Int)<21600 by decide)
 unfold wayOf
 generalize rd b.f2 (stepOf b d / 21600)=x at r1 ⊢
 generalize rd b.f2 ((stepOf b d / 21600+1) % (b.f2.length:Int))=y at r2 ⊢
 generalize stepOf b d % 21600=z at p0 p1 ⊢
 have q:-25920000≤(y - x)*z∧(y - x)*z≤25920000:=by
  constructor
  ·have:=Int.mul_le_mul_of_nonneg_right (show -1200≤y - x by omega) p0
   omega
  ·have:=Int.mul_le_mul_of_nonneg_right (show y - x≤1200 by omega) p0
   omega
 omega
end Go.Proofs.YtjahbgldccjbfaaGreatDoor.PSky
end
section
namespace Go.Proofs.YtjahbgldccjbfaaGreatDoor.PSky
open Go.RowKit Go.Proofs.YtjahbgldccjbfaaGreatDoorW.PrintWords Go.Proofs.YtjahbgldccjbfaaGreatDoorW.PrintLast Go.Proofs.YtjahbgldccjbfaaGreatDoorW.PrintMore
theorem refmean_eq {b:S74} {d:Int} (h:okBody b=true) (hd:0≤d∧d≤20000):tr_mean.f b.f0.f0 b.f0.f1 b.f1 b.f2 d=some (meanOf b d):=by
 have hp:okPeriod b.f0.f0 b.f0.f1=true:=by simp only [okBody,Bool.and_eq_true] at h;exact h.1
 have hs:0≤b.f1∧b.f1≤21599:=by simp only [okBody,Bool.and_eq_true,okPlace,okIn_iff] at h;exact h.2.1
 have hg:=gone_bounds hp hd
 have hpp:=period_of hp
 unfold tr_mean.f
 rw [if_neg (by omega),wrap_id (show -9223372036854775808≤d*21600∧d*21600≤9223372036854775807 by omega),wrap_id (show -9223372036854775808≤d*21600*b.f0.f1∧d*21600*b.f0.f1≤9223372036854775807 by omega)]
 rw [Int.tdiv_eq_ediv_of_nonneg hg.2.2.1]
 rw [show d*21600*b.f0.f1 / b.f0.f0=goneOf b.f0.f0 b.f0.f1 d from rfl,wrap_id (show -9223372036854775808≤goneOf b.f0.f0 b.f0.f1 d∧goneOf b.f0.f0 b.f0.f1 d≤9223372036854775807 by omega),wrap_id (by omega)]
 rfl
theorem refway_eq {b:S74} {d:Int} (h:okBody b=true) (hd:0≤d∧d≤20000):tr_way.f b.f0.f0 b.f0.f1 b.f1 b.f2 d=some (wayOf b d):=by
 have hmb:=mean_bounds h hd
 have hl:=body_len h
 have hs:=step_bounds (d:=d) h
 unfold tr_way.f
 have hM:tr_Mean.f b.f0.f0 b.f0.f1 b.f1 b.f2 d=some (meanOf b d % 21600):=by
  unfold tr_Mean.f
  rw [refmean_eq h hd,Option.bind_some,Less_eq (by omega)]
  rfl
 rw [hM,Option.bind_some,if_neg (by omega),refmean_eq h hd]
 rw [show meanOf b d % 21600*(b.f2.length:Int)=stepOf b d from rfl,wrap_id (show -9223372036854775808≤stepOf b d∧stepOf b d≤9223372036854775807 by omega)]
 rw [Int.tdiv_eq_ediv_of_nonneg hs.1,Int.tmod_eq_emod_of_nonneg hs.1,wrap_id (show -9223372036854775808≤stepOf b d / 21600∧stepOf b d / 21600≤9223372036854775807 by omega),wrap_id (show -9223372036854775808≤stepOf b d / 21600+1∧stepOf b d / 21600+1≤9223372036854775807 by omega)]
 have ht:Int.tmod (stepOf b d / 21600+1) (b.f2.length:Int)=(stepOf b d / 21600+1) % (b.f2.length:Int):=Int.tmod_eq_emod_of_nonneg (by omega)
 rw [ht]
 have h2:=Int.emod_nonneg (stepOf b d / 21600+1) (show (b.f2.length:Int)≠0 by omega)
 have h3:=Int.emod_lt_of_pos (stepOf b d / 21600+1) (show (0:Int)<(b.f2.length:Int) by omega)
 rw [if_pos h2,if_pos h3,Option.bind_some,if_pos hs.2.2.1,if_pos hs.2.2.2]
 have r1:=road_bounds h (stepOf b d / 21600)
 have r2:=road_bounds h ((stepOf b d / 21600+1) % (b.f2.length:Int))
 have p0:=Int.emod_nonneg (stepOf b d) (show (21600:Int)≠0 by decide)
 have p1:=Int.emod_lt_of_pos (stepOf b d) (show (0:Int)<21600 by decide)
 unfold wayOf
 generalize rd b.f2 (stepOf b d / 21600)=x at r1 ⊢
 generalize rd b.f2 ((stepOf b d / 21600+1) % (b.f2.length:Int))=y at r2 ⊢
 generalize stepOf b d % 21600=z at p0 p1 ⊢
 have q:-25920000≤(y - x)*z∧(y - x)*z≤25920000:=by
  constructor
  ·have:=Int.mul_le_mul_of_nonneg_right (show -1200≤y - x by omega) p0
   omega
  ·have:=Int.mul_le_mul_of_nonneg_right (show y - x≤1200 by omega) p0
   omega
 rw [wrap_id (show -9223372036854775808≤y - x∧y - x≤9223372036854775807 by omega),wrap_id (show -9223372036854775808≤(y - x)*z∧(y - x)*z≤9223372036854775807 by omega)]
 rw [down_eq (by decide) (by decide) (by omega),Option.bind_some,wrap_id (show -9223372036854775808≤meanOf b d+x∧meanOf b d+x≤9223372036854775807 by omega),wrap_id (by omega)]
def aheadOf (l:List S74) (i j:Nat) (d:Int):Int:=wayOf (rd_T74 l (i:Int)) d - wayOf (rd_T74 l (j:Int)) d
theorem ok_at {l:List S74} {p q n:Int} (h:okSky l p q n=true):2≤l.length∧l.length≤4∧okPeriod p q=true∧okPlace n=true∧∀ i:Nat,i<l.length→okBody (rd_T74 l (i:Int))=true:=by
 simp only [okSky,Bool.and_eq_true,okIn_iff] at h
 refine ⟨by omega,by omega,h.2.1,h.2.2.1,fun i hi=>?_⟩
 have h4:=h.2.2.2
 rw [any_all] at h4
 rw [rdT_get l i hi]
 exact List.all_eq_true.mp h4 _ (List.getElem_mem hi)
theorem refahead_eq {l:List S74} {p q n:Int} (h:okSky l p q n=true) (i j:Nat) (hi:i<l.length) (hj:j<l.length) {d:Int} (hd:0≤d∧d≤20000):tr_ahead.f l p q n (i:Int) (j:Int) d=some (aheadOf l i j d):=by
 obtain ⟨-,-,-,-,hb⟩:=ok_at h
 have b1:=way_bounds (hb i hi) hd
 have b2:=way_bounds (hb j hj) hd
 unfold tr_ahead.f aheadOf
 rw [if_pos (by omega),if_pos (by omega),refway_eq (hb i hi) hd,Option.bind_some,if_pos (by omega),if_pos (by omega),refway_eq (hb j hj) hd,Option.bind_some,wrap_id (by omega)]
theorem wayT_ev {l:List S74} {p q n:Int} (h:okSky l p q n=true) (i:Nat) (hi:i<l.length) {d:Int} (hd:0≤d∧d≤20000):Ev (fun k=>ss_way.f k l p q n d (i:Int)) (wayOf (rd_T74 l (i:Int)) d):=by
 have hb:=(ok_at h).2.2.2.2 i hi
 rw [rdT_get l i hi] at hb ⊢
 exact way_ev l p q n d i hi hb hd
theorem ahead_bounds {l:List S74} {p q n:Int} (h:okSky l p q n=true) (i j:Nat) (hi:i<l.length) (hj:j<l.length) {d:Int} (hd:0≤d∧d≤20000):-200000000≤aheadOf l i j d∧aheadOf l i j d≤200000000:=by
 obtain ⟨-,-,-,-,hb⟩:=ok_at h
 have b1:=way_bounds (hb i hi) hd
 have b2:=way_bounds (hb j hj) hd
 unfold aheadOf
 omega
theorem passes_eq {a b:Int} (ha:-1000000000≤a∧a≤1000000000) (hb:-1000000000≤b∧b≤1000000000):sky_passes.f a b=some (decide (b / 21600 > a / 21600)):=by
 unfold sky_passes.f
 rw [floor_eq (by decide) (by decide) (by omega),Option.bind_some,floor_eq (by decide) (by decide) (by omega),Option.bind_some]
theorem passed_eq {a b:Int} (ha:-1000000000≤a∧a≤1000000000) (hb:-1000000000≤b∧b≤1000000000):tr_passed.f a b=some (decide (b / 21600 > a / 21600)):=by
 unfold tr_passed.f
 rw [down_eq (by decide) (by decide) (by omega),Option.bind_some,down_eq (by decide) (by decide) (by omega),Option.bind_some]
theorem Ev.all {α β:Type} (g:α→Nat→Option β) (r:α→β):∀ l:List α,(∀ d∈l,Ev (g d) (r d))→∃ K,∀ k,K≤k→∀ d∈l,g d k=Option.some (r d)
 |[],_=>⟨0,fun _ _ d h=>by cases h⟩
 |x :: t,h=>by
  obtain ⟨K1,h1⟩:=h x (List.mem_cons_self ..)
  obtain ⟨K2,h2⟩:=Ev.all g r t (fun d hd=>h d (List.mem_cons_of_mem _ hd))
  refine ⟨max K1 K2,fun k hk d hd=>?_⟩
  rcases List.mem_cons.mp hd with rfl|hd
  ·exact h1 k (by omega)
  ·exact h2 k (by omega) d hd
theorem span_of {a b:Int} (h:okSpan a b=true):1≤a∧a≤b∧b≤20000∧b - a≤800:=by
 simp only [okSpan,Bool.and_eq_true,okIn_iff,decide_eq_true_eq] at h
 omega
end Go.Proofs.YtjahbgldccjbfaaGreatDoor.PSky
end
section
namespace Go.Proofs.YtjahbgldccjbfaaGreatDoor.PSky
open Go.RowKit Go.Proofs.YtjahbgldccjbfaaGreatDoorW.PrintWords Go.Proofs.YtjahbgldccjbfaaGreatDoorW.PrintLast Go.Proofs.YtjahbgldccjbfaaGreatDoorW.PrintMore
theorem known_ev:Ev (fun _=>tl_known.f.bind fun t=>some t) true:=Ev.now true
theorem Span_eq (a b:Int):tr_Span.f a b=some (okSpan a b):=isSpan_eq a b
end Go.Proofs.YtjahbgldccjbfaaGreatDoor.PSky
end
section
namespace Go.Proofs.YtjahbgldccjbfaaGreatDoor.PSky
open Go.RowKit Go.Proofs.YtjahbgldccjbfaaGreatDoorW.PrintWords Go.Proofs.YtjahbgldccjbfaaGreatDoorW.PrintLast Go.Proofs.YtjahbgldccjbfaaGreatDoorW.PrintMore
theorem refplace_eq {b:S74} {d:Int} (h:okBody b=true) (hd:0≤d∧d≤20000):tr_Place.f b.f0.f0 b.f0.f1 b.f1 b.f2 d=some (wayOf b d % 21600):=by
 have b1:=way_bounds h hd
 unfold tr_Place.f
 rw [refway_eq h hd,Option.bind_some,Less_eq (by omega)]
 rfl
end Go.Proofs.YtjahbgldccjbfaaGreatDoor.PSky
end
section
namespace Go.Proofs.YtjahbgldccjbfaaGreatDoor.PSky
open Go.RowKit Go.Proofs.YtjahbgldccjbfaaGreatDoorW.PrintWords Go.Proofs.YtjahbgldccjbfaaGreatDoorW.PrintLast Go.Proofs.YtjahbgldccjbfaaGreatDoorW.PrintMore
def okBodyN (l:List S74) (n:Int):Bool:=okIn n 0 ((l.length:Int) - 1)
theorem isBody_eq {l:List S74} (hl:l.length≤1000000) (p q n i:Int):sky_isBody.f l p q n i=some (okBodyN l i):=by
 unfold sky_isBody.f okBodyN
 rw [wrap_id (by omega),in_eq]
 rfl
theorem Body_eq {l:List S74} (hl:l.length≤1000000) (p q n i:Int):tr_Body.f l p q n i=some (okBodyN l i):=isBody_eq hl p q n i
theorem ahead_ev {l:List S74} {p q n:Int} (h:okSky l p q n=true) (i j:Nat) (hi:i<l.length) (hj:j<l.length) {d:Int} (hd:0≤d∧d≤20000):Ev (fun k=>ss_ahead.f k l p q n d (i:Int) (j:Int)) (aheadOf l i j d):=by
 have hb:=ahead_bounds h i j hi hj hd
 unfold ss_ahead.f
 refine Ev.bind (wayT_ev h i hi hd) (Ev.bind (wayT_ev h j hj hd) ?_)
 rw [show wayOf (rd_T74 l (i:Int)) d - wayOf (rd_T74 l (j:Int)) d=aheadOf l i j d from rfl,wrap_id (by omega)]
 exact Ev.now _
end Go.Proofs.YtjahbgldccjbfaaGreatDoor.PSky
end
section
namespace Go.Proofs.YtjahbgldccjbfaaGreatDoor.PSky
open Go.RowKit Go.Proofs.YtjahbgldccjbfaaGreatDoorW.PrintWords Go.Proofs.YtjahbgldccjbfaaGreatDoorW.PrintLast Go.Proofs.YtjahbgldccjbfaaGreatDoorW.PrintMore
theorem body_at {l:List S74} {i:Int} (h:okBodyN l i=true):∃ j:Nat,i=j∧j<l.length:=by
 have:=okIn_iff.mp h
 exact ⟨i.toNat,by omega,by omega⟩
def okTwo (l:List S74) (i j:Int):Bool:=okBodyN l i && (okBodyN l j && (i != j))
theorem two_eq {l:List S74} (hl:l.length≤1000000) (p q n i j:Int):sky_areTwo.f l p q n i j=some (okTwo l i j):=by
 unfold sky_areTwo.f okTwo
 rw [isBody_eq hl,Option.bind_some]
 cases h1:okBodyN l i with
 |false=>rfl
 |true=>
  rw [if_pos rfl,isBody_eq hl,Option.bind_some]
  cases h2:okBodyN l j with
  |false=>rfl
  |true=>rfl
def aheadI (l:List S74) (i j d:Int):Int:=wayOf (rd_T74 l i) d - wayOf (rd_T74 l j) d
theorem two_at {l:List S74} {i j:Int} (h:okTwo l i j=true):∃ a b:Nat,i=a∧j=b∧a<l.length∧b<l.length∧a≠b:=by
 simp only [okTwo,Bool.and_eq_true,bne_iff_ne] at h
 obtain ⟨a,rfl,ha⟩:=body_at h.1
 obtain ⟨b,rfl,hb⟩:=body_at h.2.1
 exact ⟨a,b,rfl,rfl,ha,hb,fun e=>h.2.2 (by rw [e])⟩
def meetsOn (l:List S74) (i j d:Int):Bool:=decide (aheadI l i j d / 21600 > aheadI l i j (d - 1) / 21600) || decide (-aheadI l i j d / 21600 > -aheadI l i j (d - 1) / 21600)
theorem aheadI_bounds {l:List S74} {p q n:Int} (h:okSky l p q n=true) {i j:Int} (hij:okTwo l i j=true) {d:Int} (hd:0≤d∧d≤20000):-200000000≤aheadI l i j d∧aheadI l i j d≤200000000:=by
 obtain ⟨a,b,rfl,rfl,ha,hb,-⟩:=two_at hij
 exact ahead_bounds h a b ha hb hd
theorem meet_ev {l:List S74} {p q n:Int} (h:okSky l p q n=true) {i j:Int} (hij:okTwo l i j=true) {d:Int} (hd:1≤d∧d≤20000):Ev (fun k=>at_has_meet.f k l p q n d i j) (meetsOn l i j d):=by
 have b1:=aheadI_bounds h hij (d:=d) (by omega)
 have b2:=aheadI_bounds h hij (d:=d - 1) (by omega)
 have e1:Ev (fun k=>ss_ahead.f k l p q n d i j) (aheadI l i j d):=by
  obtain ⟨a,b,rfl,rfl,ha,hb,-⟩:=two_at hij
  exact ahead_ev h a b ha hb (by omega)
 have e2:Ev (fun k=>ss_ahead.f k l p q n (d - 1) i j) (aheadI l i j (d - 1)):=by
  obtain ⟨a,b,rfl,rfl,ha,hb,-⟩:=two_at hij
  exact ahead_ev h a b ha hb (by omega)
 unfold at_has_meet.f meetsOn
 rw [wrap_id (show -9223372036854775808≤d - 1∧d - 1≤9223372036854775807 by omega)]
 refine Ev.bind e2 (Ev.bind e1 (Ev.bind (Ev.is (passes_eq (by omega) (by omega))) ?_))
 by_cases hp:aheadI l i j d / 21600 > aheadI l i j (d - 1) / 21600
 ·rw [decide_eq_true hp,Bool.true_or]
  exact Ev.pos rfl (Ev.now _)
 ·rw [decide_eq_false hp,Bool.false_or]
  refine Ev.neg (by simp) ?_
  rw [wrap_id (show -9223372036854775808 ≤ -aheadI l i j (d - 1) ∧ -aheadI l i j (d - 1)≤9223372036854775807 by omega),wrap_id (show -9223372036854775808 ≤ -aheadI l i j d ∧ -aheadI l i j d≤9223372036854775807 by omega)]
  exact Ev.bind (Ev.is (passes_eq (by omega) (by omega))) (Ev.now _)
theorem day_span {a b d:Int} (h:okSpan a b=true) (hd:d∈daysOf a b):(1≤d∧d≤20000)∧a≤d∧d≤b:=by
 have hs:=span_of h
 unfold daysOf at hd
 obtain ⟨j,hj,rfl⟩:=List.mem_map.mp hd
 have:=List.mem_range.mp hj
 omega
def meetsOf (l:List S74) (i j a b:Int):List Int:=(daysOf a b).filter (meetsOn l i j)
theorem Meets_ev (l:List S74) (p q n i j a b:Int):Ev (fun k=>sky_Meets.f k l p q n i j a b) (if okSky l p q n=true∧okTwo l i j=true∧okSpan a b=true then (meetsOf l i j a b,0) else ([],2)):=by
 unfold sky_Meets.f
 refine Ev.bind (isSky_ev l p q n) ?_
 cases h1:okSky l p q n with
 |false=>
  refine Ev.neg (by simp) ?_
  rw [if_neg (by simp)]
  exact Ev.now _
 |true=>
  have hl:=(ok_at h1).2.1
  refine Ev.pos rfl (Ev.bind (Ev.is (two_eq (by omega) p q n i j)) ?_)
  cases h2:okTwo l i j with
  |false=>
   refine Ev.neg (by simp) ?_
   rw [if_neg (by simp)]
   exact Ev.now _
  |true=>
   refine Ev.pos rfl (Ev.bind (Ev.is (isSpan_eq a b)) ?_)
   cases h3:okSpan a b with
   |false=>
    refine Ev.neg (by simp) ?_
    rw [if_neg (by simp)]
    exact Ev.now _
   |true=>
    rw [if_pos (show true=true∧true=true∧true=true from ⟨rfl,rfl,rfl⟩)]
    refine Ev.pos rfl ?_
    obtain ⟨K,hK⟩:=Ev.all (fun d k=>at_has_meet.f k l p q n d i j) (fun d=>meetsOn l i j d) (daysOf a b) (fun d hd=>meet_ev h1 h2 (day_span h3 hd).1)
    refine ⟨K,fun k hk=>?_⟩
    have hk':=hK k hk
    show (if ∀ d∈daysOf a b,(at_has_meet.f k l p q n d i j).isSome=true then some ((daysOf a b).filter (fun d=>at_has_meet.f k l p q n d i j=some true),(0:Int)) else none)=some (meetsOf l i j a b,0)
    rw [if_pos (fun d hd=>by rw [hk' d hd];rfl)]
    congr 2
    unfold meetsOf
    refine List.filter_congr fun d hd=>?_
    rw [hk' d hd]
    simp
end Go.Proofs.YtjahbgldccjbfaaGreatDoor.PSky
end
section
namespace Go.Proofs.YtjahbgldccjbfaaGreatDoor.PSky
open Go.RowKit Go.Proofs.YtjahbgldccjbfaaGreatDoorW.PrintWords Go.Proofs.YtjahbgldccjbfaaGreatDoorW.PrintLast Go.Proofs.YtjahbgldccjbfaaGreatDoorW.PrintMore
theorem operIn_of {l n:Nat} {P:Program} {o:Oper} {a:Act} {w:World} {K:Act→World→Prop} {Q:Exit→Act→World→Prop} (hd:∀ c:Call,o.op≠Op.defer c) (h:o.wp P a w K Q):o.wpIn (Fence.wide.inRound l) n P a w K Q:=by
 unfold Oper.wp at h
 unfold Oper.wpIn
 refine ⟨fun _ _=>trivial,?_⟩
 rw [show (Fence.wide.inRound l).round=some l from rfl,Oper.semAt_some l _ _ hd]
 generalize (execOp a.eval o).run P w=r at *
 cases r with
 |ok x w'=>
  cases x with
  |value v=>exact h
  |skip=>exact h
  |defer d=>exact h
  |enter f args=>exact ⟨fun hh=>by simp [Fence.wide,Fence.inRound] at hh,CallsIn.inRound l (callsIn_wide.2 h)⟩
  |row r args=>exact ⟨fun hh=>by simp [Fence.wide,Fence.inRound] at hh,fun c cs _=>let ⟨v,w2,hr,hs⟩:=h c cs;⟨v,w2,hr,stepsIn_wide.2 hs⟩⟩
  |_=>exact h.elim
 |halt x w'=>cases x <;> exact h
theorem anyIn_of {l n:Nat} {P:Program} {md:Region.Mode} {ops:Array Oper} {Q:Exit→Act→World→Prop} (hd:∀ (i:Nat) (o:Oper),ops[i]?=some o→∀ c:Call,o.op≠Op.defer c) (hQ:¬ LetsOut Q):∀ (fuel:Nat) (listed:Array Bool) (a:Act) (w:World),
  wpAny P md ops Q fuel listed a w→wpAnyIn (Fence.wide.inRound l) n P md ops Q fuel listed a w
 |0,_,_,_,h=>h
 |fuel+1,listed,a,w,h=>by
  refine ⟨h.1,fun i hi=>?_⟩
  have h2:=h.2 i hi
  unfold wpOp at h2
  unfold wpOpIn
  cases ho:ops[i]? with
  |none=>
   rw [ho] at h2
   exact anyIn_of hd hQ fuel _ _ _ h2
  |some o=>
   rw [ho] at h2
   simp only at h2 ⊢
   split
   ·rename_i hw
    rw [if_pos hw] at h2
    rcases h2 with h2|h2
    ·exact Oper.wpIn_mono (fun a w hh=>anyIn_of hd hQ fuel _ a w hh) (operIn_of (hd i o ho) h2)
    ·exact absurd h2.2 hQ
   ·rename_i hw
    rw [if_neg hw] at h2
    exact ⟨fun _ _=>trivial,anyIn_of hd hQ fuel _ _ _ h2⟩
def onlyN (Q:Exit→Act→World→Prop):Exit→Act→World→Prop:=fun e a w=>e=.normal∧Q .normal a w
theorem onlyN_no {Q:Exit→Act→World→Prop} {c:List PanicEntry} {a a':Act} {w w':World} (h:onlyN Q (.panic c) a w):onlyN Q (.panic c) a' w':=by cases h.1
theorem startIn_ {l n m id:Nat} {P:Program} {ops:Array Oper} {Q:Exit→Act→World→Prop} {S:World→Prop} {ds:List Nat} {a:Act} {w:World} (L:Array Bool) (hm:P.follows .mixedOrders=true)
  (hd:(ops.toList.all fun (o:Oper)=>match o.op with|Op.defer _=>false|_=>true)=true) (hn:ops.size=m) (hl:Array.replicate m false=L) (hS:S w.drew)
  (h:S w.drew→wpAnyLast P .any ops (onlyN Q) S ds m L a w.drew):(Code.region id ops true).wpIn (Fence.wide.inRound l) n P Q a w:=by
 subst hn;subst hl
 have hd':∀ (i:Nat) (o:Oper),ops[i]?=some o→∀ c:Call,o.op≠Op.defer c:=by
  intro i o ho c hc
  have:=List.all_eq_true.mp hd o (by simpa using Array.mem_of_getElem? ho)
  rw [hc] at this
  cases this
 refine wpIn_mono (wpIn_region_any hm (anyIn_of hd' ?_ _ _ _ _ (wpAny_of_last _ _ _ _ (h hS)))) ?_
 ·rintro ⟨_,_,hh⟩
  cases hh.1
 ·rintro e a w ⟨rfl,hq⟩
  exact hq
end Go.Proofs.YtjahbgldccjbfaaGreatDoor.PSky
end
