/- A part of the proof of a law of the layer sky. -/
import Derived.ArgAppend
import Derived.Below
import Derived.BigQuiet
import Derived.ChangeSame
import Derived.Deep.AppendLies
import Derived.Deep.CutBlock
import Derived.Deep.DeepCutAuto
import Derived.Deep.DeepHandedRow
import Derived.Deep.Draws
import Derived.Deep.LoopGhost
import Derived.Deep.OwnRows
import Derived.Deep.QuietTactic
import Derived.Deep.RegionHeld3
import Derived.Deep.RegionLaw
import Derived.Deep.Slices
import Derived.Deep.Strs
import Derived.Defers
import Derived.KernelRfl
import Derived.LaidMore
import Derived.Laws.BitsLemmas
import Derived.Laws.BytesArg
import Derived.Laws.Entries
import Derived.Laws.IdiomCopy
import Derived.Laws.LoneSync
import Derived.Laws.MakeOwn
import Derived.Laws.NewBlocks
import Derived.Laws.OwnMore
import Derived.Laws.Pointers
import Derived.Laws.Rows
import Derived.Laws.Slices
import Derived.Laws.StructEq
import Derived.Lib.AppendStr
import Derived.Lib.ConvBytes
import Derived.Lib.LaidTab
import Derived.Lib.OthersKept
import Derived.Lib.SplitLaws
import Derived.LoopIn
import Derived.LoopN
import Derived.LoopNIn
import Derived.Maps.AppendAt
import Derived.Maps.Own
import Derived.Maps.OwnOps
import Derived.Maps.OwnSet
import Derived.Maps.Views
import Derived.OpenShut
import Derived.OrdersHeld
import Derived.Outline
import Derived.OwnWalk
import Derived.OwnWalkIn
import Derived.ProofKit
import Derived.RangeFuncBound
import Derived.RangeFuncBox
import Derived.RangeFuncCalls
import Derived.RangeFuncLeaves
import Derived.RangeFuncNested
import Derived.Recover
import Derived.RowKit
import Derived.RowKit3
import Derived.Scope
import Derived.SevenTiedAt
import Derived.Shelf.Abstract
import Derived.Shelf.LaysM
import Derived.Shelf.RegionOpen
import Derived.Shelf.Strconv.Itoa0
import Derived.Shelf.Strconv.Itoa1
import Derived.Shelf.Strconv.Itoa2
import Derived.Shelf.Strconv.Itoa3
import Derived.Shelf.Strings.Builder1
import Derived.Shelf.Strings.Builder2
import Derived.Shelf.Strings.Count
import Derived.Shelf.Strings.Explode
import Derived.Shelf.Strings.OnBuilder
import Derived.Shelf.Strings.Prefix
import Derived.Shelf.Strings.RuneCount
import Derived.Shelf.Strings.Search1
import Derived.Shelf.Strings.Search2
import Derived.Shelf.Strings.Search3
import Derived.Shelf.Strings.Shaped
import Derived.Shelf.Strings.Split
import Derived.Shelf.Strings.SplitShaped
import Derived.Shelf.Unicode.Decode
import Derived.Shelf.Unicode.DecodeAny
import Derived.Shelf.Unicode.DecodeSlow
import Derived.Shelf.Utf8.RuneCount
import Derived.SizedLaws
import Derived.StillTactics
import Derived.Stop.Joined
import Derived.Stop.LaidErr
import Derived.Tactics
import Derived.TacticsInMore
import Derived.WalkKit
import Derived.WideLaws
import Derived.Test.YtjahbgldccjbfaaGreatDoorZ6
section
namespace Go.Proofs.YtjahbgldccjbfaaGreatDoor.PSky
open Go.RowKit Go.Proofs.YtjahbgldccjbfaaGreatDoorW.PrintWords Go.Proofs.YtjahbgldccjbfaaGreatDoorW.PrintLast Go.Proofs.YtjahbgldccjbfaaGreatDoorW.PrintMore
attribute [local go_sem] max2_int min2_int max_two min_two max_three min_three max_four min_four
set_option linter.unusedVariables false
set_option linter.unusedSimpArgs false
mutual
def tl_short.l0:Nat→Int→List (S74)→Int→Int→Int→Option (Bool)
 |0,_,_,_,_,_=>none
 |k+1,x3,x290000,x290001,x290002,x290003=>if x3<(x290000.length:Int) then (tl_short.j1 k x3 (decide (x3<7)) x290000 x290001 x290002 x290003) else (tl_short.j1 k x3 false x290000 x290001 x290002 x290003)
def tl_short.j1:Nat→Int→Bool→List (S74)→Int→Int→Int→Option (Bool)
 |0,_,_,_,_,_,_=>none
 |k+1,x3,x12,x290000,x290001,x290002,x290003=>if x12=true then (if 0≤x3 then (if x3<(x290000.length:Int) then (if (((rd_T74 x290000 x3).f2).length:Int) > 10 then (some false) else (tl_short.l0 k (wrap64 (x3+1)) x290000 x290001 x290002 x290003)) else (none)) else (none)) else (some (decide ((x290000.length:Int)≤6)))
end
def tl_short.f (k:Nat) (l0_0:List (S74)) (a0_1:Int) (a0_2:Int) (a0_3:Int):Option (Bool):=tl_short.l0 k 0 l0_0 a0_1 a0_2 a0_3
set_option maxHeartbeats 8000000 in
set_option maxRecDepth 100000 in
theorem tl_short.calls (k:Nat) (A0_0:Option Addr) (c0_0:Nat) (l0_0:List (S74)) (a0_1:Int) (a0_2:Int) (a0_3:Int) (r:Bool) (w:World) (hr0_0:Kd.C k74 w A0_0 l0_0.length l0_0) (hc0_0:l0_0.length≤c0_0) (h:tl_short.f k l0_0 a0_1 a0_2 a0_3=some r):
  Calls Tryz.prog 17 #[.agg #[.slice A0_0 l0_0.length c0_0,.int .i64 a0_1,.int .i64 a0_2,.int .i64 a0_3]] w fun e w'=>e=.returned (.bool r)∧Below w.heap.size w w':=by
 have hu29:=Tryz.underlying29
 have HR0_0:=A0_ hr0_0;have HC0_0:=A0_ hc0_0;clear hr0_0 hc0_0
 have HB:=A0_ (Below.refl w.heap.size w)
 have H:(tl_short.l0 k 0 l0_0 a0_1 a0_2 a0_3)=some r:=h
 clear h
 have H':=A0_ H
 clear H
 go_enter Tryz.func17,Tryz.ntmps17
 go_wp2_with (first|((with_reducible refine gate_dst (N:=1) rfl ?_);refine box_event ?hg (N:=1) ?hd (cs:=#[.slice A0_0 l0_0.length c0_0,.int .i64 a0_1,.int .i64 a0_2,.int .i64 a0_3]) (t:=29) ?hr ?_;(case hd=>rfl);(case hg=>rfl);(case hr=>first|(go_simp;done)|(go_simp;rfl));intro gb289 hg w2 hbox hb;have n0_:=A0_ (below_step y0_ hb);have n1_:=A0_ (hbox);have n2_:=A0_ ((by rw [hg];exact (below_size y0_):w.heap.size≤gb289));have n3_:=A0_ ((by rw [hg];exact (below_size y0_):w.heap.size≤gb289));clear HB;have HB:=n0_;have BK289:=n1_;have GW289:=n2_;have GE289:=n3_;clear n0_ n1_ n2_ n3_;clear hb hbox hg))
 go_loopg [3] k (fun kq v3 w'=>∃ (x3_1:Int),v3=.int .i64 x3_1∧Aside0 (tl_short.l0 kq x3_1 l0_0 a0_1 a0_2 a0_3=some r)∧Aside0 (kq≤k)∧Aside0 (w'.heap[gb289]?=some (.cells #[(.slice A0_0 l0_0.length c0_0),.int .i64 a0_1,.int .i64 a0_2,.int .i64 a0_3] 29 (0,0)))∧Aside0 (Below w.heap.size w w'))
 case atStart=>exact ⟨(0),y4_,H',⟨Nat.le_refl _⟩,⟨by (with_reducible repeat (first|refine blk_drewN ?_ _|refine blk_drew ?_|refine blk_alloc ?_ _));exact BK289.out⟩,⟨(by repeat (first|(with_reducible first|exact HB.out|apply below_alloc|apply pw_below_drewN|apply below_drew1|refine below_set ?_ GE289.out)|exact HB.out))⟩⟩
 case round=>
  clear H'
  (try clear c1);(try clear p2)
  obtain ⟨x3_1,rfl,HA,HK1,BK289,HB⟩:=hrel
  cases gk with
  |zero=>exact absurd HA.out (by simp [tl_short.l0])
  |succ k1=>
   have H:=HA.out
   clear HA
   simp only [tl_short.l0] at H
   have HC3:=A0_ H;clear H
   go_upto_region 2 with (fail)
   go_cut [12] (fun v12 wc=>∃ (kq:Nat) (x12_2:Bool),v12=.bool x12_2∧Aside0 (tl_short.j1 kq x3_1 x12_2 l0_0 a0_1 a0_2 a0_3=some r)∧Aside0 (kq≤k1)∧Aside0 (wc.heap[gb289]?=some (.cells #[(.slice A0_0 l0_0.length c0_0),.int .i64 a0_1,.int .i64 a0_2,.int .i64 a0_3] 29 (0,0)))∧Aside0 (Below w.heap.size w wc))
   case first=>
    have H:=HC3.out
    clear HC3
    by_cases c4:x3_1<(l0_0.length:Int)
    ·rw [if_pos c4] at H;have c4b0:decide (x3_1<(l0_0.length:Int))=true:=decide_eq_true c4;clear c4
     (first|rw [c4b0]|(simp only [i64_w,i32_w];rw [c4b0])|skip)
     have H':=A0_ H
     clear H;obtain ⟨hcz5_0,hcz5_1,hcz5_2,hcz5_3,hfz5_0,hfz5_1,hfz5_2,hfz5_3⟩:=bq4_ BK289.out;go_wp2
     go_meet
     case rel=>exact ⟨_,(decide (x3_1<7)),y4_,H',⟨by have:=HK1.out;first|omega|exact Nat.le_refl _⟩,⟨by (with_reducible repeat (first|refine blk_drewN ?_ _|refine blk_drew ?_|refine blk_alloc ?_ _));exact BK289.out⟩,⟨(by repeat (first|(with_reducible first|exact HB.out|apply below_alloc|apply pw_below_drewN|apply below_drew1|refine below_set ?_ GE289.out)|exact HB.out))⟩⟩
    ·rw [if_neg c4] at H;have c4b0:decide (x3_1<(l0_0.length:Int))=false:=decide_eq_false c4;clear c4
     (first|rw [c4b0]|(simp only [i64_w,i32_w];rw [c4b0])|skip)
     have H':=A0_ H
     clear H;obtain ⟨hcz6_0,hcz6_1,hcz6_2,hcz6_3,hfz6_0,hfz6_1,hfz6_2,hfz6_3⟩:=bq4_ BK289.out;go_wp2
     go_meet
     case rel=>exact ⟨_,(false),y4_,H',⟨by have:=HK1.out;first|omega|exact Nat.le_refl _⟩,⟨by (with_reducible repeat (first|refine blk_drewN ?_ _|refine blk_drew ?_|refine blk_alloc ?_ _));exact BK289.out⟩,⟨(by repeat (first|(with_reducible first|exact HB.out|apply below_alloc|apply pw_below_drewN|apply below_drew1|refine below_set ?_ GE289.out)|exact HB.out))⟩⟩
   case rest=>
    clear HC3;(try clear c1);(try clear p2);(try clear c4);(try clear c4b0);(try clear hcz5_0);(try clear hcz5_1);(try clear hcz5_2);(try clear hcz5_3);(try clear hcz6_0);(try clear hcz6_1);(try clear hcz6_2);(try clear hcz6_3);(try clear hfz5_0);(try clear hfz5_1);(try clear hfz5_2);(try clear hfz5_3);(try clear hfz6_0);(try clear hfz6_1);(try clear hfz6_2);(try clear hfz6_3);(try clear p2)
    obtain ⟨kq,x12_2,rfl,HA,HJ2,BK289,HB⟩:=hcut
    cases kq with
    |zero=>exact absurd HA.out (by simp [tl_short.j1])
    |succ kj2=>
     have H:=HA.out
     clear HA
     simp only [tl_short.j1] at H
     by_cases c7:x12_2=true
     ·subst c7
      have H1:(if 0≤x3_1 then (if x3_1<(l0_0.length:Int) then (if (((rd_T74 l0_0 x3_1).f2).length:Int) > 10 then (some false) else (tl_short.l0 kj2 (wrap64 (x3_1+1)) l0_0 a0_1 a0_2 a0_3)) else (none)) else (none))=some r:=by rw [if_pos rfl] at H;exact H
      clear H;have H:=H1;clear H1
      by_cases c8:0≤x3_1
      ·rw [if_pos c8] at H;have c8b0:decide (0≤x3_1)=true:=decide_eq_true c8;clear c8
       by_cases c9:x3_1<(l0_0.length:Int)
       ·rw [if_pos c9] at H;have c9b0:decide (x3_1<(l0_0.length:Int))=true:=decide_eq_true c9;clear c9
        by_cases c10:(((rd_T74 l0_0 x3_1).f2).length:Int) > 10
        ·rw [if_pos c10] at H;have c10b0:decide (10<(((rd_T74 l0_0 x3_1).f2).length:Int))=true:=decide_eq_true c10
         have c10b1:decide (10<((rd_T74 l0_0 x3_1).f2).length)=true:=decide_eq_true (by omega)
         clear c10;obtain rfl:=Option.some.inj H;obtain ⟨hcz11_0,hcz11_1,hcz11_2,hcz11_3,hfz11_0,hfz11_1,hfz11_2,hfz11_3⟩:=bq4_ BK289.out
         have p290:0≤(x3_1:Int):=of_decide_eq_true y5_
         have q290:x3_1<(l0_0.length:Int):=of_decide_eq_true y5_
         obtain ⟨ad290,A290_3,c290_3,e290,hx290_0,hx290_1,hx290_2,hx290_3,hl290_3,hi290_3⟩:=at_T74 HR0_0.out x3_1 p290 q290
         cases e290
         replace hx290_0:=(HB.out.cell (World.block_lt_of_cell? w _ hx290_0)).trans hx290_0
         replace hx290_1:=(HB.out.cell (World.block_lt_of_cell? w _ hx290_1)).trans hx290_1
         replace hx290_2:=(HB.out.cell (World.block_lt_of_cell? w _ hx290_2)).trans hx290_2
         replace hx290_3:=(HB.out.cell (World.block_lt_of_cell? w _ hx290_3)).trans hx290_3
         have HR290_3:=A0_ hi290_3;have HC290_3:=A0_ hl290_3;clear hi290_3 hl290_3
         replace p290:=eq_true p290
         replace q290:=eq_true q290
         go_wp2;go_ret
         exact ⟨y2_,(by repeat (first|(with_reducible first|exact HB.out|apply below_alloc|apply pw_below_drewN|apply below_drew1|refine below_set ?_ GE289.out)|exact HB.out))⟩
        ·rw [if_neg c10] at H;have c10b0:decide (10<(((rd_T74 l0_0 x3_1).f2).length:Int))=false:=decide_eq_false c10
         have c10b1:decide (10<((rd_T74 l0_0 x3_1).f2).length)=false:=decide_eq_false (by omega)
         clear c10
         have H':=A0_ H
         clear H;obtain ⟨hcz12_0,hcz12_1,hcz12_2,hcz12_3,hfz12_0,hfz12_1,hfz12_2,hfz12_3⟩:=bq4_ BK289.out
         have p290:0≤(x3_1:Int):=of_decide_eq_true y5_
         have q290:x3_1<(l0_0.length:Int):=of_decide_eq_true y5_
         obtain ⟨ad290,A290_3,c290_3,e290,hx290_0,hx290_1,hx290_2,hx290_3,hl290_3,hi290_3⟩:=at_T74 HR0_0.out x3_1 p290 q290
         cases e290
         replace hx290_0:=(HB.out.cell (World.block_lt_of_cell? w _ hx290_0)).trans hx290_0
         replace hx290_1:=(HB.out.cell (World.block_lt_of_cell? w _ hx290_1)).trans hx290_1
         replace hx290_2:=(HB.out.cell (World.block_lt_of_cell? w _ hx290_2)).trans hx290_2
         replace hx290_3:=(HB.out.cell (World.block_lt_of_cell? w _ hx290_3)).trans hx290_3
         have HR290_3:=A0_ hi290_3;have HC290_3:=A0_ hl290_3;clear hi290_3 hl290_3
         replace p290:=eq_true p290
         replace q290:=eq_true q290
         go_wp2
         go_roundg kj2
         case measure=>have:=HK1.out;have:=HJ2.out;omega
         case rel=>exact ⟨(wrap64 (x3_1+1)),y4_,H',⟨by have:=HK1.out;have:=HJ2.out;omega⟩,⟨by (with_reducible repeat (first|refine blk_drewN ?_ _|refine blk_drew ?_|refine blk_alloc ?_ _));exact BK289.out⟩,⟨(by repeat (first|(with_reducible first|exact HB.out|apply below_alloc|apply pw_below_drewN|apply below_drew1|refine below_set ?_ GE289.out)|exact HB.out))⟩⟩
       ·rw [if_neg c9] at H;exact absurd H (by simp)
      ·rw [if_neg c8] at H;exact absurd H (by simp)
     ·replace c7:=Bool.eq_false_iff.mpr c7;subst c7
      have H1:(some (decide ((l0_0.length:Int)≤6)))=some r:=by rw [if_neg (show ¬ (false=true) by decide)] at H;exact H
      clear H;have H:=H1;clear H1;obtain rfl:=Option.some.inj H;obtain ⟨hcz13_0,hcz13_1,hcz13_2,hcz13_3,hfz13_0,hfz13_1,hfz13_2,hfz13_3⟩:=bq4_ BK289.out;go_wp2;go_ret
      exact ⟨y2_,(by repeat (first|(with_reducible first|exact HB.out|apply below_alloc|apply pw_below_drewN|apply below_drew1|refine below_set ?_ GE289.out)|exact HB.out))⟩
end Go.Proofs.YtjahbgldccjbfaaGreatDoor.PSky
end
section
namespace Go.Proofs.YtjahbgldccjbfaaGreatDoor.PSky
open Go.RowKit Go.Proofs.YtjahbgldccjbfaaGreatDoorW.PrintWords Go.Proofs.YtjahbgldccjbfaaGreatDoorW.PrintLast Go.Proofs.YtjahbgldccjbfaaGreatDoorW.PrintMore
attribute [local go_sem] max2_int min2_int max_two min_two max_three min_three max_four min_four
set_option linter.unusedVariables false
set_option linter.unusedSimpArgs false
def tr_Months.f (a0:Int):Option (Bool):=(tr_in.f a0 0 400).bind fun t474=>(some t474)
set_option maxHeartbeats 8000000 in
set_option maxRecDepth 100000 in
theorem tr_Months.calls (a0:Int) (r:Bool) (w:World) (h:tr_Months.f a0=some r):
  Calls Tryz.prog 36 #[.int .i64 a0] w fun e w'=>e=.returned (.bool r)∧Drawn0 w w':=by
 have H:((tr_in.f a0 0 400).bind fun t474=>(some t474))=some r:=h
 clear h;replace H:=Option.bind_eq_some_iff.mp H;obtain ⟨t474,A20,H⟩:=H
 replace H:(some t474)=some r:=H
 have A2:=A0_ A20;clear A20;obtain rfl:=Option.some.inj H
 go_enter Tryz.func36,Tryz.ntmps36
 go_wp2_with (first|((with_reducible refine gate_callee (f:=66) rfl ?_);refine goesL_ (some 4) rfl rfl Tryz.func66 (by kernel_rfl) rfl #[.int .i64 a0,.int .i64 0,.int .i64 400] rfl y1_ ?_;(with_reducible refine (tr_in.calls a0 0 400 t474 _ A2.out).mono ?_);rintro e w' ⟨rfl,⟨nd,rfl⟩⟩;refine ⟨_,rfl,?_⟩))
 go_ret
 exact ⟨y4_,yb_⟩
def tr_Limit.f (a0:Int):Option (Bool):=(tr_in.f a0 0 5400).bind fun t475=>(some t475)
set_option maxHeartbeats 8000000 in
set_option maxRecDepth 100000 in
theorem tr_Limit.calls (a0:Int) (r:Bool) (w:World) (h:tr_Limit.f a0=some r):
  Calls Tryz.prog 37 #[.int .i64 a0] w fun e w'=>e=.returned (.bool r)∧Drawn0 w w':=by
 have H:((tr_in.f a0 0 5400).bind fun t475=>(some t475))=some r:=h
 clear h;replace H:=Option.bind_eq_some_iff.mp H;obtain ⟨t475,A20,H⟩:=H
 replace H:(some t475)=some r:=H
 have A2:=A0_ A20;clear A20;obtain rfl:=Option.some.inj H
 go_enter Tryz.func37,Tryz.ntmps37
 go_wp2_with (first|((with_reducible refine gate_callee (f:=66) rfl ?_);refine goesL_ (some 4) rfl rfl Tryz.func66 (by kernel_rfl) rfl #[.int .i64 a0,.int .i64 0,.int .i64 5400] rfl y1_ ?_;(with_reducible refine (tr_in.calls a0 0 5400 t475 _ A2.out).mono ?_);rintro e w' ⟨rfl,⟨nd,rfl⟩⟩;refine ⟨_,rfl,?_⟩))
 go_ret
 exact ⟨y4_,yb_⟩
end Go.Proofs.YtjahbgldccjbfaaGreatDoor.PSky
end
section
namespace Go.Proofs.YtjahbgldccjbfaaGreatDoor.PSky
open Go.RowKit Go.Proofs.YtjahbgldccjbfaaGreatDoorW.PrintWords Go.Proofs.YtjahbgldccjbfaaGreatDoorW.PrintLast Go.Proofs.YtjahbgldccjbfaaGreatDoorW.PrintMore
theorem Ev.pos {α:Type} {c:Prop} [Decidable c] {f g:Nat→Option α} {r:α} (h:c) (k:Ev f r):Ev (fun n=>if c then f n else g n) r:=by simpa only [if_pos h] using k
theorem Ev.neg {α:Type} {c:Prop} [Decidable c] {f g:Nat→Option α} {r:α} (h:¬ c) (k:Ev g r):Ev (fun n=>if c then f n else g n) r:=by simpa only [if_neg h] using k
theorem Ev.some {α:Type} (r:α):Ev (fun _=>Option.some r) r:=Ev.now r
theorem Ev.is {α:Type} {o:Option α} {r:α} (h:o=Option.some r):Ev (fun _=>o) r:=by rw [h];exact Ev.now r
theorem wrap_id {n:Int} (h:-9223372036854775808≤n∧n≤9223372036854775807):wrap64 n=n:=by unfold wrap64;omega
theorem scan {β:Type} (l:List β) (bad:β→Bool) (g:Nat→Nat→Option Int) (hlen:l.length≤1000000)
  (hyes:∀ i (h:i<l.length),bad l[i]=true→Ev (fun k=>g k i) (i:Int))
  (hno:∀ i (h:i<l.length),bad l[i]=false→∀ r,Ev (fun k=>g k (i+1)) r→Ev (fun k=>g k i) r)
  (hend:Ev (fun k=>g k l.length) (-1)):∀ m i,i+m=l.length→∃ r,Ev (fun k=>g k i) r∧decide (r ≥ 0)=(l.drop i).any bad
 |0,i,h=>⟨-1,by rw [show i=l.length by omega];exact hend,by rw [show i=l.length by omega,List.drop_length];rfl⟩
 |m+1,i,h=>by
  have hi:i<l.length:=by omega
  rw [List.drop_eq_getElem_cons hi,List.any_cons]
  cases hb:bad l[i] with
  |true=>exact ⟨i,hyes i hi hb,by simp⟩
  |false=>
   obtain ⟨r,hr,he⟩:=scan l bad g hlen hyes hno hend m (i+1) (by omega)
   exact ⟨r,hno i hi hb r hr,by simpa using he⟩
def okIn (a b c:Int):Bool:=decide (b≤a) && decide (a≤c)
theorem in_eq (a b c:Int):sky_in.f a b c=some (okIn a b c):=by
 unfold sky_in.f okIn
 by_cases h:a ≥ b
 ·rw [if_pos h,decide_eq_true (show b≤a from h),Bool.true_and]
 ·rw [if_neg h,decide_eq_false (show ¬ b≤a from h),Bool.false_and]
theorem rin_eq (a b c:Int):tr_in.f a b c=some (okIn a b c):=in_eq a b c
def okPeriod (p q:Int):Bool:=okIn p 1 10000 && (okIn q 1 10000 && decide (4*q≤p))
theorem isPeriod_eq (p q:Int):sky_isPeriod.f p q=some (okPeriod p q):=by
 unfold sky_isPeriod.f okPeriod
 simp only [in_eq,Option.bind_some]
 cases h1:okIn p 1 10000 with
 |false=>rfl
 |true=>
  cases h2:okIn q 1 10000 with
  |false=>rfl
  |true=>
   have hq:wrap64 (4*q)=4*q:=wrap_id (by simp [okIn] at h2;omega)
   rw [hq]
   rfl
theorem period_eq (p q:Int):tr_period.f p q=some (okPeriod p q):=isPeriod_eq p q
def okPlace (n:Int):Bool:=okIn n 0 21599
theorem isPlace_eq (n:Int):sky_isPlace.f n=some (okPlace n):=by unfold sky_isPlace.f;rw [in_eq];rfl
theorem Spot_eq (n:Int):tr_Spot.f n=some (okPlace n):=isPlace_eq n
def okRoad (l:List Int):Bool:=!l.any (fun n=>!okIn n (-600) 600)
def okBody (b:S74):Bool:=okPeriod b.f0.f0 b.f0.f1 && (okPlace b.f1 && (okIn (b.f2.length:Int) 1 8 && okRoad b.f2))
def okSky (l:List S74) (p q n:Int):Bool:=okIn (l.length:Int) 2 4 && (okPeriod p q && (okPlace n && !l.any (fun b=>!okBody b)))
theorem rd_get (l:List Int) (i:Nat) (h:i<l.length):rd l (i:Int)=l[i]:=by unfold rd;simp [h]
theorem rdT_get (l:List S74) (i:Nat) (h:i<l.length):rd_T74 l (i:Int)=l[i]:=by unfold rd_T74;simp [h]
theorem road_ev (l:List Int) (hl:l.length≤1000000):Ev (fun k=>cF_isSky_c1_c1.f k l) (l.any (fun n=>!okIn n (-600) 600)):=by
 obtain ⟨r,hr,he⟩:=scan l (fun n=>!okIn n (-600) 600) (fun k i=>iF_isSky_c1_c1.l0 k l (l.length:Int) (i:Int)) hl
  (fun i h hb=>by
   refine Ev.step (fun k=>by rw [iF_isSky_c1_c1.l0]) ?_
   refine Ev.pos (by omega) (Ev.pos (by omega) (Ev.pos (by omega) ?_))
   refine Ev.bind (a:=true) (Ev.is (by unfold sky_isSky_c1_c1.f;rw [in_eq,rd_get l i h];simp [hb])) ?_
   exact Ev.pos rfl (Ev.now _))
  (fun i h hb r hr=>by
   refine Ev.step (fun k=>by rw [iF_isSky_c1_c1.l0]) ?_
   refine Ev.pos (by omega) (Ev.pos (by omega) (Ev.pos (by omega) ?_))
   refine Ev.bind (a:=false) (Ev.is (by unfold sky_isSky_c1_c1.f;rw [in_eq,rd_get l i h];simp [hb])) ?_
   refine Ev.neg (by simp) ?_
   rw [wrap_id (by omega)]
   exact hr)
  (by
   refine Ev.step (fun k=>by rw [iF_isSky_c1_c1.l0]) ?_
   exact Ev.neg (by omega) (Ev.now _)) l.length 0 (by omega)
 unfold cF_isSky_c1_c1.f iF_isSky_c1_c1.f
 refine Ev.bind hr ?_
 rw [he]
 exact Ev.now _
theorem body_ev (b:S74):Ev (fun k=>sky_isSky_c1.f k b.f0.f0 b.f0.f1 b.f1 b.f2) (!okBody b):=by
 unfold sky_isSky_c1.f okBody
 refine Ev.bind (Ev.is (isPeriod_eq _ _)) ?_
 cases h1:okPeriod b.f0.f0 b.f0.f1 with
 |false=>exact Ev.neg (by simp) (Ev.now _)
 |true=>
  refine Ev.pos rfl (Ev.bind (Ev.is (isPlace_eq _)) ?_)
  cases h2:okPlace b.f1 with
  |false=>exact Ev.neg (by simp) (Ev.now _)
  |true=>
   refine Ev.pos rfl (Ev.bind (Ev.is (in_eq _ _ _)) ?_)
   cases h3:okIn (b.f2.length:Int) 1 8 with
   |false=>exact Ev.neg (by simp) (Ev.now _)
   |true=>
    refine Ev.pos rfl (Ev.bind (road_ev b.f2 (by simp [okIn] at h3;omega)) ?_)
    simp only [okRoad,Bool.true_and,Bool.not_not]
    exact Ev.now _
theorem bodies_ev (l:List S74) (hl:l.length≤1000000):Ev (fun k=>cF_isSky_c1.f k l) (l.any (fun b=>!okBody b)):=by
 obtain ⟨r,hr,he⟩:=scan l (fun b=>!okBody b) (fun k i=>iF_isSky_c1.l0 k l (l.length:Int) (i:Int)) hl
  (fun i h hb=>by
   refine Ev.step (fun k=>by rw [iF_isSky_c1.l0]) ?_
   refine Ev.pos (by omega) (Ev.pos (by omega) (Ev.pos (by omega) ?_))
   rw [rdT_get l i h]
   refine Ev.bind (body_ev _) ?_
   rw [hb]
   exact Ev.pos rfl (Ev.now _))
  (fun i h hb r hr=>by
   refine Ev.step (fun k=>by rw [iF_isSky_c1.l0]) ?_
   refine Ev.pos (by omega) (Ev.pos (by omega) (Ev.pos (by omega) ?_))
   rw [rdT_get l i h]
   refine Ev.bind (body_ev _) ?_
   rw [hb]
   refine Ev.neg (by simp) ?_
   rw [wrap_id (by omega)]
   exact hr)
  (by
   refine Ev.step (fun k=>by rw [iF_isSky_c1.l0]) ?_
   exact Ev.neg (by omega) (Ev.now _)) l.length 0 (by omega)
 unfold cF_isSky_c1.f iF_isSky_c1.f
 refine Ev.bind hr ?_
 rw [he]
 exact Ev.now _
theorem isSky_ev (l:List S74) (p q n:Int):Ev (fun k=>sky_isSky.f k l p q n) (okSky l p q n):=by
 unfold sky_isSky.f okSky
 refine Ev.bind (Ev.is (in_eq _ _ _)) ?_
 cases h1:okIn (l.length:Int) 2 4 with
 |false=>exact Ev.neg (by simp) (Ev.now _)
 |true=>
  refine Ev.pos rfl (Ev.bind (Ev.is (isPeriod_eq _ _)) ?_)
  cases h2:okPeriod p q with
  |false=>exact Ev.neg (by simp) (Ev.now _)
  |true=>
   refine Ev.pos rfl (Ev.bind (Ev.is (isPlace_eq _)) ?_)
   cases h3:okPlace n with
   |false=>exact Ev.neg (by simp) (Ev.now _)
   |true=>
    refine Ev.pos rfl (Ev.bind (bodies_ev l (by simp [okIn] at h1;omega)) ?_)
    simp only [Bool.true_and]
    exact Ev.now _
theorem refroad_ok (l:List S74) (p q n:Int) (i:Int) (b:S74) (hb:b.f2.length≤1000000) (r:Bool) (hall:∀ x∈b.f2,okIn x (-600) 600=true)
  (hr:Ev (fun k=>tr_Sky.l0 k (wrap64 (i+1)) l p q n) r):∀ m j:Nat,j+m=b.f2.length →
  Ev (fun k=>tr_Sky.l1 k i (j:Int) l p q n b.f0.f0 b.f0.f1 b.f1 b.f2) r
 |0,j,h=>by
  refine Ev.step (fun k=>by rw [tr_Sky.l1]) ?_
  exact Ev.neg (by omega) hr
 |m+1,j,h=>by
  have hj:j<b.f2.length:=by omega
  refine Ev.step (fun k=>by rw [tr_Sky.l1]) ?_
  refine Ev.pos (by omega) (Ev.pos (by omega) ?_)
  refine Ev.bind (a:=true) (Ev.is (by rw [rin_eq,rd_get _ j hj,hall _ (List.getElem_mem hj)])) (Ev.pos rfl ?_)
  rw [wrap_id (by omega)]
  exact refroad_ok l p q n i b hb r hall hr m (j+1) (by omega)
theorem refroad_bad (l:List S74) (p q n:Int) (i:Int) (b:S74) (hb:b.f2.length≤1000000):∀ m j:Nat,j+m=b.f2.length→(b.f2.drop j).any (fun n=>!okIn n (-600) 600)=true →
  Ev (fun k=>tr_Sky.l1 k i (j:Int) l p q n b.f0.f0 b.f0.f1 b.f1 b.f2) false
 |0,j,h,hbad=>by
  rw [show j=b.f2.length by omega,List.drop_length] at hbad
  cases hbad
 |m+1,j,h,hbad=>by
  have hj:j<b.f2.length:=by omega
  rw [List.drop_eq_getElem_cons hj,List.any_cons] at hbad
  refine Ev.step (fun k=>by rw [tr_Sky.l1]) ?_
  refine Ev.pos (by omega) (Ev.pos (by omega) ?_)
  refine Ev.bind (Ev.is (by rw [rin_eq,rd_get _ j hj])) ?_
  cases hq:okIn b.f2[j] (-600) 600 with
  |false=>exact Ev.neg (by simp) (Ev.now _)
  |true=>
   rw [hq] at hbad
   refine Ev.pos rfl ?_
   rw [wrap_id (by omega)]
   exact refroad_bad l p q n i b hb m (j+1) (by omega) (by simpa using hbad)
theorem refSky_loop (l:List S74) (p q n:Int) (hl:l.length≤1000000):∀ m i:Nat,i+m=l.length →
  Ev (fun k=>tr_Sky.l0 k (i:Int) l p q n) ((l.drop i).all okBody && (okIn (l.length:Int) 2 4 && (okPeriod p q && okPlace n)))
 |0,i,h=>by
  rw [show i=l.length by omega,List.drop_length]
  refine Ev.step (fun k=>by rw [tr_Sky.l0]) ?_
  refine Ev.neg (by omega) (Ev.bind (Ev.is (rin_eq _ _ _)) ?_)
  cases h1:okIn (l.length:Int) 2 4 with
  |false=>exact Ev.neg (by simp) (Ev.now _)
  |true=>
   refine Ev.pos rfl (Ev.bind (Ev.is (period_eq _ _)) ?_)
   cases h2:okPeriod p q with
   |false=>exact Ev.neg (by simp) (Ev.now _)
   |true=>
    refine Ev.pos rfl (Ev.bind (Ev.is (Spot_eq _)) ?_)
    simp only [List.all_nil,Bool.true_and]
    exact Ev.now _
 |m+1,i,h=>by
  have hi:i<l.length:=by omega
  rw [List.drop_eq_getElem_cons hi,List.all_cons]
  have ih:=refSky_loop l p q n hl m (i+1) (by omega)
  refine Ev.step (fun k=>by rw [tr_Sky.l0]) ?_
  refine Ev.pos (by omega) (Ev.pos (by omega) ?_)
  rw [rdT_get l i hi]
  generalize l[i]=b
  have bad:∀ R:Bool,Ev (fun k=>tr_Sky.j1 k (i:Int) true l p q n b.f0.f0 b.f0.f1 b.f1 b.f2) (false && R):=fun R=>by
   refine Ev.step (fun k=>by rw [tr_Sky.j1]) ?_
   exact Ev.pos rfl (Ev.now _)
  unfold okBody
  refine Ev.bind (Ev.is (period_eq _ _)) ?_
  cases h1:okPeriod b.f0.f0 b.f0.f1 with
  |false=>exact Ev.neg (by simp) (bad _)
  |true=>
   refine Ev.pos rfl (Ev.bind (Ev.is (Spot_eq _)) ?_)
   cases h2:okPlace b.f1 with
   |false=>exact Ev.neg (by simp) (bad _)
   |true=>
    refine Ev.pos rfl (Ev.bind (Ev.is (rin_eq _ _ _)) ?_)
    cases h3:okIn (b.f2.length:Int) 1 8 with
    |false=>exact bad _
    |true=>
     have hbl:b.f2.length≤1000000:=by simp [okIn] at h3;omega
     refine Ev.step (fun k=>by rw [tr_Sky.j1]) ?_
     refine Ev.neg (by simp) ?_
     cases h4:okRoad b.f2 with
     |false=>exact refroad_bad l p q n i b hbl b.f2.length 0 (by omega) (by simpa [okRoad] using h4)
     |true=>
      simp only [Bool.true_and]
      have h5:∀ x∈b.f2,okIn x (-600) 600=true:=by
       intro x hx
       unfold okRoad at h4
       cases hq:okIn x (-600) 600 with
       |true=>rfl
       |false=>
        have:b.f2.any (fun n=>!okIn n (-600) 600)=true:=List.any_eq_true.mpr ⟨x,hx,by simp [hq]⟩
        rw [this] at h4
        cases h4
      refine refroad_ok l p q n i b hbl _ h5 ?_ b.f2.length 0 (by omega)
      rw [wrap_id (by omega)]
      exact ih
theorem any_all (f:S74→Bool) (l:List S74):(!l.any (fun b=>!f b))=l.all f:=by
 induction l with
 |nil=>rfl
 |cons b t ih=>simp [ih]
theorem refSky_ev (l:List S74) (p q n:Int) (hl:l.length≤1000000):Ev (fun k=>tr_Sky.f k l p q n) (okSky l p q n):=by
 have h:=refSky_loop l p q n hl l.length 0 (by omega)
 rw [List.drop_zero] at h
 have e:okSky l p q n=(l.all okBody && (okIn (l.length:Int) 2 4 && (okPeriod p q && okPlace n))):=by
  unfold okSky
  rw [any_all]
  cases l.all okBody <;> cases okIn (l.length:Int) 2 4 <;> cases okPeriod p q <;> cases okPlace n <;> rfl
 rw [e]
 exact h
theorem short_ev (l:List S74) (p q n:Int):∃ b,Ev (fun k=>tl_short.f k l p q n) b∧(b=true→l.length≤6):=by
 have key:∀ m i:Nat,i+m=7→∃ b,Ev (fun k=>tl_short.l0 k (i:Int) l p q n) b∧(b=true→l.length≤6):=by
  intro m
  induction m with
  |zero=>
   intro i h
   have fin:∀ c:Bool,c=false→Ev (fun k=>tl_short.j1 k (i:Int) c l p q n) (decide ((l.length:Int)≤6)):=fun c hc=>by
    refine Ev.step (fun k=>by rw [tl_short.j1]) ?_
    exact Ev.neg (by simp [hc]) (Ev.now _)
   refine ⟨decide ((l.length:Int)≤6),?_,fun h=>by have:=of_decide_eq_true h;omega⟩
   refine Ev.step (fun k=>by rw [tl_short.l0]) ?_
   by_cases hi:(i:Int)<(l.length:Int)
   ·exact Ev.pos hi (fin _ (decide_eq_false (by omega)))
   ·exact Ev.neg hi (fin _ rfl)
  |succ m ih=>
   intro i h
   by_cases hi:(i:Int)<(l.length:Int)
   ·by_cases hr:((rd_T74 l (i:Int)).f2.length:Int) > 10
    ·refine ⟨false,?_,fun h=>by cases h⟩
     refine Ev.step (fun k=>by rw [tl_short.l0]) (Ev.pos hi ?_)
     refine Ev.step (fun k=>by rw [tl_short.j1]) (Ev.pos (by simp;omega) ?_)
     exact Ev.pos (by omega) (Ev.pos hi (Ev.pos hr (Ev.now _)))
    ·obtain ⟨b,hb,hb6⟩:=ih (i+1) (by omega)
     refine ⟨b,?_,hb6⟩
     refine Ev.step (fun k=>by rw [tl_short.l0]) (Ev.pos hi ?_)
     refine Ev.step (fun k=>by rw [tl_short.j1]) (Ev.pos (by simp;omega) ?_)
     refine Ev.pos (by omega) (Ev.pos hi (Ev.neg hr ?_))
     rw [wrap_id (by omega)]
     exact hb
   ·refine ⟨decide ((l.length:Int)≤6),?_,fun h=>by have:=of_decide_eq_true h;omega⟩
    refine Ev.step (fun k=>by rw [tl_short.l0]) (Ev.neg hi ?_)
    refine Ev.step (fun k=>by rw [tl_short.j1]) ?_
    exact Ev.neg (by simp) (Ev.now _)
 unfold tl_short.f
 exact key 7 0 rfl
end Go.Proofs.YtjahbgldccjbfaaGreatDoor.PSky
end
section
namespace Go.Proofs.YtjahbgldccjbfaaGreatDoor.PSky
open Go.RowKit Go.Proofs.YtjahbgldccjbfaaGreatDoorW.PrintWords Go.Proofs.YtjahbgldccjbfaaGreatDoorW.PrintLast Go.Proofs.YtjahbgldccjbfaaGreatDoorW.PrintMore
theorem tquot {a b:Int} (hb:0<b):(Int.tmod a b<0→a / b=Int.tdiv a b - 1∧a % b=Int.tmod a b+b)∧(0≤Int.tmod a b→a / b=Int.tdiv a b∧a % b=Int.tmod a b):=by
 have h1:=Int.tmod_add_mul_tdiv a b
 have h2:=Int.tmod_lt_of_pos a hb
 have h3:=Int.lt_tmod_of_pos a hb
 refine ⟨fun h=>?_,fun h=>?_⟩
 ·exact (Int.ediv_emod_unique hb).mpr ⟨by rw [Int.mul_sub,Int.mul_one];omega,by omega,by omega⟩
 ·exact (Int.ediv_emod_unique hb).mpr ⟨by omega,h,h2⟩
theorem tdiv_le {a b:Int} (hb:0<b) {m:Int} (ha:-m≤a∧a≤m) (hm:0≤m):-m - 1≤a / b∧a / b≤m:=by
 constructor
 ·have:(-m - 1)≤a / b:=by
   rw [Int.le_ediv_iff_mul_le hb]
   have:=Int.mul_le_mul_of_nonneg_left (show (1:Int)≤b by omega) (show (0:Int)≤m+1 by omega)
   have e:(-m - 1)*b = -((m+1)*b):=by rw [← Int.neg_mul];congr 1;omega
   omega
  exact this
 ·have:a / b≤m:=by
   have h1:a / b*b≤a:=Int.ediv_mul_le a (by omega)
   rcases Int.lt_or_le (a / b) 0 with h|h
   ·omega
   ·have:=Int.mul_le_mul_of_nonneg_left (show (1:Int)≤b by omega) h
    omega
  exact this
theorem floor_eq {a b:Int} (hb:0<b) (hb2:b≤1000000000000) (ha:-1000000000000000000≤a∧a≤1000000000000000000):sky_floor.f a b=some (a / b,a % b):=by
 have q:=tdiv_le hb ha (by decide)
 have m0:=Int.emod_nonneg a (show b≠0 by omega)
 have m1:=Int.emod_lt_of_pos a hb
 unfold sky_floor.f
 rw [if_neg (by omega)]
 by_cases h:Int.tmod a b<0
 ·obtain ⟨e1,e2⟩:=(tquot (a:=a) hb).1 h
  rw [if_pos h,e1,e2]
  rw [e1] at q
  rw [e2] at m0 m1
  rw [wrap_id (show -9223372036854775808≤a.tdiv b∧a.tdiv b≤9223372036854775807 by omega),wrap_id (by omega),wrap_id (by omega)]
 ·obtain ⟨e1,e2⟩:=(tquot (a:=a) hb).2 (by omega)
  rw [if_neg h,e1,e2]
  rw [e1] at q
  rw [wrap_id (show -9223372036854775808≤a.tdiv b∧a.tdiv b≤9223372036854775807 by omega)]
theorem okIn_iff {a b c:Int}:okIn a b c=true ↔ b≤a∧a≤c:=by simp [okIn]
theorem period_of {p q:Int} (h:okPeriod p q=true):1≤p∧p≤10000∧1≤q∧q≤10000∧4*q≤p:=by
 simp only [okPeriod,Bool.and_eq_true,okIn_iff,decide_eq_true_eq] at h
 omega
end Go.Proofs.YtjahbgldccjbfaaGreatDoor.PSky
end
section
namespace Go.Proofs.YtjahbgldccjbfaaGreatDoor.PSky
open Go.RowKit Go.Proofs.YtjahbgldccjbfaaGreatDoorW.PrintWords Go.Proofs.YtjahbgldccjbfaaGreatDoorW.PrintLast Go.Proofs.YtjahbgldccjbfaaGreatDoorW.PrintMore
theorem ok_at {l:List S74} {p q n:Int} (h:okSky l p q n=true):2≤l.length∧l.length≤4∧okPeriod p q=true∧okPlace n=true∧∀ i:Nat,i<l.length→okBody (rd_T74 l (i:Int))=true:=by
 simp only [okSky,Bool.and_eq_true,okIn_iff] at h
 refine ⟨by omega,by omega,h.2.1,h.2.2.1,fun i hi=>?_⟩
 have h4:=h.2.2.2
 rw [any_all] at h4
 rw [rdT_get l i hi]
 exact List.all_eq_true.mp h4 _ (List.getElem_mem hi)
theorem Ev.all {α β:Type} (g:α→Nat→Option β) (r:α→β):∀ l:List α,(∀ d∈l,Ev (g d) (r d))→∃ K,∀ k,K≤k→∀ d∈l,g d k=Option.some (r d)
 |[],_=>⟨0,fun _ _ d h=>by cases h⟩
 |x :: t,h=>by
  obtain ⟨K1,h1⟩:=h x (List.mem_cons_self ..)
  obtain ⟨K2,h2⟩:=Ev.all g r t (fun d hd=>h d (List.mem_cons_of_mem _ hd))
  refine ⟨max K1 K2,fun k hk d hd=>?_⟩
  rcases List.mem_cons.mp hd with rfl|hd
  ·exact h1 k (by omega)
  ·exact h2 k (by omega) d hd
end Go.Proofs.YtjahbgldccjbfaaGreatDoor.PSky
end
section
namespace Go.Proofs.YtjahbgldccjbfaaGreatDoor.PSky
open Go.RowKit Go.Proofs.YtjahbgldccjbfaaGreatDoorW.PrintWords Go.Proofs.YtjahbgldccjbfaaGreatDoorW.PrintLast Go.Proofs.YtjahbgldccjbfaaGreatDoorW.PrintMore
theorem known_ev:Ev (fun _=>tl_known.f.bind fun t=>some t) true:=Ev.now true
end Go.Proofs.YtjahbgldccjbfaaGreatDoor.PSky
end
section
namespace Go.Proofs.YtjahbgldccjbfaaGreatDoor.PSky
open Go.RowKit Go.Proofs.YtjahbgldccjbfaaGreatDoorW.PrintWords Go.Proofs.YtjahbgldccjbfaaGreatDoorW.PrintLast Go.Proofs.YtjahbgldccjbfaaGreatDoorW.PrintMore
def okLimit (n:Int):Bool:=okIn n 0 5400
theorem isLimit_eq (n:Int):sky_isLimit.f n=some (okLimit n):=by unfold sky_isLimit.f;rw [in_eq];rfl
theorem Limit_eq (n:Int):tr_Limit.f n=some (okLimit n):=isLimit_eq n
end Go.Proofs.YtjahbgldccjbfaaGreatDoor.PSky
end
section
namespace Go.Proofs.YtjahbgldccjbfaaGreatDoor.PSky
open Go.RowKit Go.Proofs.YtjahbgldccjbfaaGreatDoorW.PrintWords Go.Proofs.YtjahbgldccjbfaaGreatDoorW.PrintLast Go.Proofs.YtjahbgldccjbfaaGreatDoorW.PrintMore
def sunP (l:List S74):S25:=(rd_T74 l ((0:Nat):Int)).f0
def moonP (l:List S74):S25:=(rd_T74 l ((1:Nat):Int)).f0
def mNum (l:List S74):Int:=(moonP l).f0*(sunP l).f0
def mDen (l:List S74):Int:=(moonP l).f1*(sunP l).f0 - (sunP l).f1*(moonP l).f0
theorem mul_bounds {a b m n:Int} (ha:0≤a∧a≤m) (hb:0≤b∧b≤n):0≤a*b∧a*b≤m*n:=
 ⟨Int.mul_nonneg ha.1 hb.1,Int.le_trans (Int.mul_le_mul_of_nonneg_right ha.2 hb.1) (Int.mul_le_mul_of_nonneg_left hb.2 (by omega))⟩
theorem periods {l:List S74} {p q n:Int} (h:okSky l p q n=true):(1≤(sunP l).f0∧(sunP l).f0≤10000∧1≤(sunP l).f1∧(sunP l).f1≤10000)∧(1≤(moonP l).f0∧(moonP l).f0≤10000∧1≤(moonP l).f1∧(moonP l).f1≤10000)∧(1≤p∧p≤10000∧1≤q∧q≤10000):=by
 have hk:=ok_at h
 have h0:=hk.2.2.2.2 0 (by omega)
 have h1:=hk.2.2.2.2 1 (by omega)
 simp only [okBody,Bool.and_eq_true] at h0 h1
 have a:=period_of h0.1
 have b:=period_of h1.1
 have c:=period_of hk.2.2.1
 unfold sunP moonP
 exact ⟨⟨a.1,a.2.1,a.2.2.1,a.2.2.2.1⟩,⟨b.1,b.2.1,b.2.2.1,b.2.2.2.1⟩,⟨c.1,c.2.1,c.2.2.1,c.2.2.2.1⟩⟩
theorem month_bounds {l:List S74} {p q n:Int} (h:okSky l p q n=true):(0≤(moonP l).f1*(sunP l).f0∧(moonP l).f1*(sunP l).f0≤100000000)∧(0≤(sunP l).f1*(moonP l).f0∧(sunP l).f1*(moonP l).f0≤100000000)∧(1≤mNum l∧mNum l≤100000000) ∧ -100000000≤mDen l∧mDen l≤100000000:=by
 obtain ⟨s,m,-⟩:=periods h
 have h1:=mul_bounds (a:=(moonP l).f1) (b:=(sunP l).f0) (m:=10000) (n:=10000) (by omega) (by omega)
 have h2:=mul_bounds (a:=(sunP l).f1) (b:=(moonP l).f0) (m:=10000) (n:=10000) (by omega) (by omega)
 have h3:=mul_bounds (a:=(moonP l).f0) (b:=(sunP l).f0) (m:=10000) (n:=10000) (by omega) (by omega)
 have h4:0<(moonP l).f0*(sunP l).f0:=Int.mul_pos (by omega) (by omega)
 unfold mNum mDen
 refine ⟨?_,?_,?_,?_,?_⟩ <;> omega
theorem monthNum_eq {l:List S74} {p q n:Int} (h:okSky l p q n=true):monthNum l=mNum l:=by
 obtain ⟨-,-,h3,-⟩:=month_bounds h
 show wrap64 (mNum l)=mNum l
 exact wrap_id (by omega)
theorem monthDen_eq {l:List S74} {p q n:Int} (h:okSky l p q n=true):monthDen l=mDen l:=by
 obtain ⟨h1,h2,-,h4⟩:=month_bounds h
 show wrap64 (wrap64 ((moonP l).f1*(sunP l).f0) - wrap64 ((sunP l).f1*(moonP l).f0))=mDen l
 rw [wrap_id (show -9223372036854775808≤(moonP l).f1*(sunP l).f0∧(moonP l).f1*(sunP l).f0≤9223372036854775807 by omega),wrap_id (show -9223372036854775808≤(sunP l).f1*(moonP l).f0∧(sunP l).f1*(moonP l).f0≤9223372036854775807 by omega)]
 show wrap64 (mDen l)=mDen l
 exact wrap_id (by omega)
def gcdOf (a b:Int):Int:=(Nat.gcd a.toNat b.toNat:Nat)
theorem gcd_loop:∀ (b a:Nat),Ev (fun k=>sky_gcd.l0 k (a:Int) (b:Int)) ((Nat.gcd a b:Nat):Int):=by
 intro b
 induction b using Nat.strongRecOn with
 |_ b ih=>
  intro a
  refine Ev.step (fun k=>by rw [sky_gcd.l0]) ?_
  by_cases hb:b=0
  ·subst hb
   refine Ev.neg (by omega) ?_
   rw [Nat.gcd_zero_right]
   exact Ev.now _
  ·refine Ev.pos (by omega) (Ev.neg (by omega) ?_)
   rw [Int.tmod_eq_emod_of_nonneg (by omega),show ((a:Int) % (b:Int))=((a % b:Nat):Int) by omega,Nat.gcd_comm a b,Nat.gcd_rec b a,Nat.gcd_comm]
   exact ih (a % b) (Nat.mod_lt _ (by omega)) b
theorem gcd_ev {a b:Int} (ha:0≤a) (hb:0≤b):Ev (fun k=>sky_gcd.f k a b) (gcdOf a b):=by
 have:=gcd_loop b.toNat a.toNat
 rw [show ((a.toNat:Nat):Int)=a by omega,show ((b.toNat:Nat):Int)=b by omega] at this
 exact this
theorem gcd_pos {a b:Int} (ha:1≤a):1≤gcdOf a b:=by
 unfold gcdOf
 have:0<Nat.gcd a.toNat b.toNat:=Nat.gcd_pos_of_pos_left _ (by omega)
 omega
theorem tdiv_in {a g:Int} (ha:0≤a∧a≤100000000) (hg:1≤g):wrap64 (a.tdiv g)=a / g∧0≤a / g∧a / g≤100000000:=by
 have h1:0≤a / g:=Int.ediv_nonneg ha.1 (by omega)
 have h2:=(tdiv_le (a:=a) (b:=g) (by omega) (m:=100000000) (by omega) (by decide)).2
 rw [Int.tdiv_eq_ediv_of_nonneg ha.1]
 exact ⟨wrap_id (by omega),h1,h2⟩
def monthOf (l:List S74):Int × Int × Int:=if mDen l≤0 then (0,0,7) else (mNum l / gcdOf (mNum l) (mDen l),mDen l / gcdOf (mNum l) (mDen l),0)
theorem Month_ev (l:List S74) (p q n:Int):Ev (fun k=>sky_Month.f k l p q n) (if okSky l p q n=true then monthOf l else (0,0,2)):=by
 unfold sky_Month.f
 refine Ev.bind (isSky_ev l p q n) ?_
 cases h:okSky l p q n with
 |false=>exact Ev.neg (by simp) (Ev.now _)
 |true=>
  have hk:=ok_at h
  obtain ⟨-,-,h3,h4⟩:=month_bounds h
  rw [if_pos rfl,monthNum_eq h,monthDen_eq h]
  refine Ev.pos rfl (Ev.pos (by omega) ?_)
  unfold monthOf
  by_cases hd:mDen l≤0
  ·rw [if_pos hd]
   exact Ev.pos hd (Ev.now _)
  ·rw [if_neg hd]
   have hg:=gcd_pos (a:=mNum l) (b:=mDen l) (by omega)
   refine Ev.neg hd (Ev.bind (gcd_ev (by omega) (by omega)) (Ev.neg (by omega) ?_))
   rw [(tdiv_in (a:=mNum l) (by omega) hg).1,(tdiv_in (a:=mDen l) (by omega) hg).1]
   exact Ev.now _
def dNum (l:List S74) (p q m:Int):Int:=2*m*(sunP l).f0*((moonP l).f1*p+q*(moonP l).f0)
def dDen (l:List S74) (p:Int):Int:=mDen l*p
def offOf (D x:Int):Int:=mn (x % D) (D - x % D)
def driftOf (l:List S74) (p q m:Int):Int:=offOf (dDen l p) (dNum l p q m)*10800 / dDen l p
theorem off_bounds {D x:Int} (hD:0<D):0≤offOf D x∧2*offOf D x≤D∧offOf D x≤x % D∧offOf D x≤D - x % D:=by
 have h1:=Int.emod_nonneg x (show D≠0 by omega)
 have h2:=Int.emod_lt_of_pos x hD
 unfold offOf mn
 split <;> omega
theorem dNum_bounds {l:List S74} {p q n:Int} (h:okSky l p q n=true) {m:Int} (hm:0≤m∧m≤400):(0≤(moonP l).f1*p∧(moonP l).f1*p≤100000000)∧(0≤q*(moonP l).f0∧q*(moonP l).f0≤100000000)∧(0≤2*m*(sunP l).f0∧2*m*(sunP l).f0≤8000000)∧0≤dNum l p q m∧dNum l p q m≤1600000000000000:=by
 obtain ⟨s,mo,no⟩:=periods h
 have h1:=mul_bounds (a:=(moonP l).f1) (b:=p) (m:=10000) (n:=10000) (by omega) (by omega)
 have h2:=mul_bounds (a:=q) (b:=(moonP l).f0) (m:=10000) (n:=10000) (by omega) (by omega)
 have h3:=mul_bounds (a:=2*m) (b:=(sunP l).f0) (m:=800) (n:=10000) (by omega) (by omega)
 have h4:=mul_bounds (a:=2*m*(sunP l).f0) (b:=(moonP l).f1*p+q*(moonP l).f0) (m:=8000000) (n:=200000000) (by omega) (by omega)
 unfold dNum
 refine ⟨?_,?_,?_,?_,?_⟩ <;> omega
theorem dDen_bounds {l:List S74} {p q n:Int} (h:okSky l p q n=true) (hd:0<mDen l):0<dDen l p∧dDen l p≤1000000000000:=by
 obtain ⟨-,-,no⟩:=periods h
 obtain ⟨-,-,-,h4⟩:=month_bounds h
 have h5:=mul_bounds (a:=mDen l) (b:=p) (m:=100000000) (n:=10000) (by omega) (by omega)
 have h6:0<mDen l*p:=Int.mul_pos hd (by omega)
 unfold dDen
 omega
theorem drift_bounds {D x:Int} (hD:0<D):0≤offOf D x*10800 / D∧offOf D x*10800 / D≤5400:=by
 obtain ⟨h1,h2,-⟩:=off_bounds (x:=x) hD
 refine ⟨Int.ediv_nonneg (by omega) (by omega),?_⟩
 have:offOf D x*10800 / D*D≤offOf D x*10800:=Int.ediv_mul_le _ (by omega)
 rcases Int.lt_or_le 5400 (offOf D x*10800 / D) with h|h
 ·have:=Int.mul_le_mul_of_nonneg_right (show (5401:Int)≤offOf D x*10800 / D by omega) (show 0≤D by omega)
  omega
 ·exact h
theorem drift_eq {l:List S74} {p q n:Int} (h:okSky l p q n=true) (hd:0<mDen l) {m:Int} (hm:0≤m∧m≤400):sky_drift.f l p q n m=some (driftOf l p q m):=by
 have hk:=ok_at h
 obtain ⟨b1,b2,b3,b4⟩:=dNum_bounds h hm
 obtain ⟨c1,c2⟩:=dDen_bounds h hd
 have hmo:sky_month.f l p q n=some (mNum l,mDen l):=by
  rw [← monthNum_eq h,← monthDen_eq h]
  exact sky_month_some (by omega) (by rw [monthDen_eq h];omega)
 obtain ⟨o1,o2,o3,o4⟩:=off_bounds (x:=dNum l p q m) c1
 have m1:=Int.emod_nonneg (dNum l p q m) (show dDen l p≠0 by omega)
 have m2:=Int.emod_lt_of_pos (dNum l p q m) c1
 unfold sky_drift.f
 rw [hmo,Option.bind_some,if_pos (by omega),if_pos (by omega)]
 show (sky_floor.f (wrap64 (wrap64 (wrap64 (2*m)*(sunP l).f0)*wrap64 (wrap64 ((moonP l).f1*p)+wrap64 (q*(moonP l).f0)))) (wrap64 (dDen l p))).bind (fun bt=>(sky_floor.f (wrap64 (mn bt.2 (wrap64 (wrap64 (dDen l p) - bt.2))*10800)) (wrap64 (dDen l p))).bind fun b2=>some b2.1)=some (driftOf l p q m)
 rw [wrap_id (show -9223372036854775808≤2*m∧2*m≤9223372036854775807 by omega),wrap_id (show -9223372036854775808≤2*m*(sunP l).f0∧2*m*(sunP l).f0≤9223372036854775807 by omega),wrap_id (show -9223372036854775808≤(moonP l).f1*p∧(moonP l).f1*p≤9223372036854775807 by omega),wrap_id (show -9223372036854775808≤q*(moonP l).f0∧q*(moonP l).f0≤9223372036854775807 by omega),wrap_id (show -9223372036854775808≤(moonP l).f1*p+q*(moonP l).f0∧(moonP l).f1*p+q*(moonP l).f0≤9223372036854775807 by omega)]
 rw [show 2*m*(sunP l).f0*((moonP l).f1*p+q*(moonP l).f0)=dNum l p q m from rfl,wrap_id (show -9223372036854775808≤dNum l p q m∧dNum l p q m≤9223372036854775807 by omega),wrap_id (show -9223372036854775808≤dDen l p∧dDen l p≤9223372036854775807 by omega),floor_eq c1 c2 (by omega),Option.bind_some]
 simp only
 rw [wrap_id (show -9223372036854775808≤dDen l p - dNum l p q m % dDen l p∧dDen l p - dNum l p q m % dDen l p≤9223372036854775807 by omega),show mn (dNum l p q m % dDen l p) (dDen l p - dNum l p q m % dDen l p)=offOf (dDen l p) (dNum l p q m) from rfl,wrap_id (by omega),floor_eq c1 c2 (by omega),Option.bind_some]
 rfl
def cycleOf (f:Int→Int) (limit:Int):Nat→Int→Option Int
 |0,_=>none
 |m+1,n=>if f n≤limit then some n else cycleOf f limit m (n+1)
theorem cycle_eq {l:List S74} {p q n:Int} (h:okSky l p q n=true) (hd:0<mDen l) (limit:Int):∀ (m:Nat) (k:Int),0≤k→k+m≤401→cycleFrom (fun x=>sky_drift.f l p q n x) limit m k=some (cycleOf (driftOf l p q) limit m k)
 |0,k,_,_=>rfl
 |m+1,k,h0,h1=>by
  rw [cycleFrom,drift_eq h hd (by omega),Option.bind_some,cycleOf]
  split
  ·rfl
  ·exact cycle_eq h hd limit m (k+1) (by omega) (by omega)
theorem cycleOf_some {f:Int→Int} {limit:Int}:∀ {m:Nat} {k r:Int},cycleOf f limit m k=some r→k≤r∧r<k+m∧f r≤limit∧∀ j,k≤j→j<r→limit<f j
 |0,k,r,h=>by cases h
 |m+1,k,r,h=>by
  rw [cycleOf] at h
  split at h
  ·rename_i hc
   obtain rfl:=Option.some.inj h
   exact ⟨by omega,by omega,hc,fun j h1 h2=>by omega⟩
  ·rename_i hc
   obtain ⟨a,b,c,d⟩:=cycleOf_some h
   refine ⟨by omega,by omega,c,fun j h1 h2=>?_⟩
   by_cases e:j=k
   ·subst e;omega
   ·exact d j (by omega) h2
theorem cycleOf_none {f:Int→Int} {limit:Int}:∀ {m:Nat} {k:Int},cycleOf f limit m k=none→∀ j,k≤j→j<k+m→limit<f j
 |0,k,h,j,h1,h2=>by omega
 |m+1,k,h,j,h1,h2=>by
  rw [cycleOf] at h
  split at h
  ·cases h
  ·rename_i hc
   by_cases e:j=k
   ·subst e;omega
   ·exact cycleOf_none h j (by omega) (by omega)
def cycOf (l:List S74) (p q limit:Int):Option Int:=cycleOf (driftOf l p q) limit 400 1
theorem Cycle_ev (l:List S74) (p q n limit:Int):Ev (fun k=>sky_Cycle.f k l p q n limit) (if okSky l p q n=true∧okLimit limit=true then (if mDen l≤0 then (0,7) else match cycOf l p q limit with|some c=>(c,0)|none=>(0,5)) else (0,2)):=by
 unfold sky_Cycle.f
 refine Ev.bind (isSky_ev l p q n) ?_
 cases h:okSky l p q n with
 |false=>
  refine Ev.neg (by simp) ?_
  rw [if_neg (by simp)]
  exact Ev.now _
 |true=>
  refine Ev.pos rfl (Ev.bind (Ev.is (isLimit_eq limit)) ?_)
  cases h2:okLimit limit with
  |false=>
   refine Ev.neg (by simp) ?_
   rw [if_neg (by simp)]
   exact Ev.now _
  |true=>
   have hk:=ok_at h
   refine Ev.pos rfl (Ev.pos (by omega) ?_)
   rw [if_pos (show true=true∧true=true from ⟨rfl,rfl⟩),monthDen_eq h]
   by_cases hd:mDen l≤0
   ·refine Ev.pos hd ?_
    rw [if_pos hd]
    exact Ev.now _
   ·refine Ev.neg hd (Ev.bind (Ev.is (cycle_eq h (by omega) limit 400 1 (by decide) (by decide))) ?_)
    rw [if_neg hd]
    unfold cycOf
    cases cycleOf (driftOf l p q) limit 400 1 with
    |none=>exact Ev.now _
    |some c=>exact Ev.now _
theorem off_add {D x y:Int} (hD:0<D):offOf D (x+y)≤offOf D x+offOf D y:=by
 have a1:=Int.emod_nonneg x (show D≠0 by omega)
 have a2:=Int.emod_lt_of_pos x hD
 have b1:=Int.emod_nonneg y (show D≠0 by omega)
 have b2:=Int.emod_lt_of_pos y hD
 have e:(x+y) % D=if x % D+y % D<D then x % D+y % D else x % D+y % D - D:=by
  rw [Int.add_emod]
  split
  ·rw [Int.emod_eq_of_lt (by omega) (by omega)]
  ·exact ((Int.ediv_emod_unique (q:=1) hD).mpr ⟨by omega,by omega,by omega⟩).2
 unfold offOf
 rw [e]
 unfold mn
 split <;> split <;> split <;> split <;> omega
theorem drift_add {D x y:Int} (hD:0<D):offOf D (x+y)*10800 / D≤offOf D x*10800 / D+offOf D y*10800 / D+1:=by
 have h:=off_add (x:=x) (y:=y) hD
 have e1:=Int.emod_add_mul_ediv (offOf D x*10800) D
 have e2:=Int.emod_add_mul_ediv (offOf D y*10800) D
 have l1:=Int.emod_lt_of_pos (offOf D x*10800) hD
 have l2:=Int.emod_lt_of_pos (offOf D y*10800) hD
 generalize offOf D x*10800 / D=u at e1 ⊢
 generalize offOf D y*10800 / D=v at e2 ⊢
 have h3:offOf D (x+y)*10800<(u+v+2)*D:=by
  rw [Int.add_mul,Int.add_mul,Int.mul_comm u D,Int.mul_comm v D]
  omega
 have:=(Int.ediv_lt_iff_lt_mul hD).mpr h3
 omega
end Go.Proofs.YtjahbgldccjbfaaGreatDoor.PSky
end
section
namespace Go.Proofs.YtjahbgldccjbfaaGreatDoor.PSky
open Go.RowKit Go.Proofs.YtjahbgldccjbfaaGreatDoorW.PrintWords Go.Proofs.YtjahbgldccjbfaaGreatDoorW.PrintLast Go.Proofs.YtjahbgldccjbfaaGreatDoorW.PrintMore
set_option maxRecDepth 100000 in
set_option maxHeartbeats 800000 in
theorem Drift_c1.calls (A0_0:Option Addr) (c0_0:Nat) (l0_0:List S74) (a0_1 a0_2 a0_3 m r x:Int) (sb mb nb:Nat) (w:World)
  (hs:w.heap[sb]?=some (.cells #[.slice A0_0 l0_0.length c0_0,.int .i64 a0_1,.int .i64 a0_2,.int .i64 a0_3] 29 (0,0)))
  (hm:w.heap[mb]?=some (.cells #[.int .i64 m] 3 (0,0))) (hn:w.heap[nb]?=some (.cells #[.int .i64 x] 3 (0,0)))
  (hr0_0:Kd.C k74 w A0_0 l0_0.length l0_0) (hc0_0:l0_0.length≤c0_0) (h:sky_drift.f l0_0 a0_1 a0_2 a0_3 m=some r):
  Calls Tryz.prog 89 #[.pointer (some ⟨sb,0,none⟩),.pointer (some ⟨mb,0,none⟩),.pointer (some ⟨nb,0,none⟩)] w fun e w'=>e=.returned (.tuple #[])∧∃ w1,Below w.heap.size w w1∧w'=w1.setCell ⟨nb,0,none⟩ (.int .i64 r):=by
 have HR:=A0_ hr0_0;have HC:=A0_ hc0_0;have HF:=A0_ h
 have x0:=blk_cell hs 0
 have x1:=blk_cell hs 1
 have x2:=blk_cell hs 2
 have x3:=blk_cell hs 3
 have x4:=blk_cell hm 0
 simp at x0 x1 x2 x3 x4
 have HN:=A0_ hn;clear hr0_0 hc0_0 h hn hs hm
 go_enter Tryz.func89,Tryz.ntmps89
 go_wp2_with fail
 refine (sky_drift.calls A0_0 c0_0 l0_0 a0_1 a0_2 a0_3 m r _ HR.out HC.out HF.out).mono ?_
 rintro e w1 ⟨rfl,hb⟩
 have y0:=blk_cell (blk_below HN.out hb) 0
 have y1:=blk_frozen (blk_below HN.out hb) 0
 simp at y0 y1
 go_wp2_with fail
 go_end0
 exact ⟨rfl,w1,hb,rfl⟩
set_option maxRecDepth 100000 in
set_option maxHeartbeats 800000 in
theorem Drift_c1.gaveUp (A0_0:Option Addr) (c0_0:Nat) (l0_0:List S74) (a0_1 a0_2 a0_3 m:Int) (sb mb nb:Nat) (w:World)
  (hs:w.heap[sb]?=some (.cells #[.slice A0_0 l0_0.length c0_0,.int .i64 a0_1,.int .i64 a0_2,.int .i64 a0_3] 29 (0,0)))
  (hm:w.heap[mb]?=some (.cells #[.int .i64 m] 3 (0,0)))
  (hr0_0:Kd.C k74 w A0_0 l0_0.length l0_0) (hc0_0:l0_0.length≤c0_0) (h2:1<(l0_0.length:Int)) (h:monthDen l0_0≤0):
  Calls Tryz.prog 89 #[.pointer (some ⟨sb,0,none⟩),.pointer (some ⟨mb,0,none⟩),.pointer (some ⟨nb,0,none⟩)] w fun e w'=>e=.panicked [{ v:=.iface 126 (.agg #[.int .i64 7]),recovered:=false }]∧Below w.heap.size w w':=by
 have HR:=A0_ hr0_0;have HC:=A0_ hc0_0
 have x0:=blk_cell hs 0
 have x1:=blk_cell hs 1
 have x2:=blk_cell hs 2
 have x3:=blk_cell hs 3
 have x4:=blk_cell hm 0
 simp at x0 x1 x2 x3 x4
 clear hr0_0 hc0_0 hs hm
 go_enter Tryz.func89,Tryz.ntmps89
 go_wp2_with fail
 refine (sky_drift.gaveUp A0_0 c0_0 l0_0 a0_1 a0_2 a0_3 m _ HR.out HC.out h2 h).mono ?_
 rintro e w1 ⟨rfl,hb⟩
 exact ⟨rfl,rfl,hb⟩
def sky_Drift.f (k:Nat) (l:List S74) (a1 a2 a3 m:Int):Option (Int × Int):=
 (sky_isSky.f k l a1 a2 a3).bind fun b=>if b=true then (sky_areMonths.f m).bind fun b2=>if b2=true then (if 1<(l.length:Int) then (if monthDen l≤0 then some (0,7) else (sky_drift.f l a1 a2 a3 m).bind fun d=>some (d,0)) else none) else some (0,2) else some (0,2)
set_option maxRecDepth 100000 in
set_option maxHeartbeats 1600000 in
theorem sky_Drift.calls (k:Nat) (A0_0:Option Addr) (c0_0:Nat) (l0_0:List S74) (a0_1 a0_2 a0_3 a1 r1 r2:Int) (w:World)
  (hr0_0:Kd.C k74 w A0_0 l0_0.length l0_0) (hc0_0:l0_0.length≤c0_0) (h:sky_Drift.f k l0_0 a0_1 a0_2 a0_3 a1=some (r1,r2)):
  Calls Tryz.prog 33 #[.agg #[.slice A0_0 l0_0.length c0_0,.int .i64 a0_1,.int .i64 a0_2,.int .i64 a0_3],.int .i64 a1] w fun e w'=>e=.returned (.tuple #[.int .i64 r1,.int .i64 r2])∧Below w.heap.size w w':=by
 have HR:=A0_ hr0_0;have HC:=A0_ hc0_0;clear hr0_0 hc0_0
 have hmf:∀ (fn:Fn) (first cap:Array Value) (w:World),(Instr.makeFunc fn first cap).run Tryz.prog w=.ok (.func fn first cap) w:=fun _ _ _ _=>rfl
 have hcf:∀ (args:Array Value) (W:World),(callFunc 89 args).run Tryz.prog W=.ok (.enter 89 args) W:=fun _ _=>rfl
 obtain ⟨b,hb0,h1⟩:=Option.bind_eq_some_iff.mp h
 have HB0:=A0_ hb0;clear h hb0
 go_enter Tryz.func33,Tryz.ntmps33
 go_wp2_with fail
 refine (sky_isSky.calls k A0_0 c0_0 l0_0 a0_1 a0_2 a0_3 b _ ?hC HC.out HB0.out).mono ?_
 case hC=>exact Kd.C_alloc (Kd.C_alloc HR.out _) _
 rintro e w1 ⟨rfl,hb⟩
 have HS:=A0_ (blk_below (blk_alloc (blk_new w (.cells #[.slice A0_0 l0_0.length c0_0,.int .i64 a0_1,.int .i64 a0_2,.int .i64 a0_3] 29)) (.cells #[.int .i64 a1] 3)) hb)
 have HM:=A0_ (blk_below (blk_new (w.alloc (.cells #[.slice A0_0 l0_0.length c0_0,.int .i64 a0_1,.int .i64 a0_2,.int .i64 a0_3] 29)) (.cells #[.int .i64 a1] 3)) hb)
 simp only [World.size_alloc] at HM
 have HB:=A0_ (below_step (below_alloc (below_alloc (Below.refl _ _) _) _) hb)
 clear hb
 cases b with
 |false=>
  obtain ⟨rfl,rfl⟩:(0:Int)=r1∧(2:Int)=r2:=by simpa using h1
  go_wp2
  go_ret2
  exact ⟨rfl,HB.out⟩
 |true=>
 obtain ⟨b2,hb2,h2⟩:=Option.bind_eq_some_iff.mp (show ((sky_areMonths.f a1).bind _)=some (r1,r2) from by simpa using h1)
 have HB2:=A0_ hb2;clear h1 hb2
 have m0:=blk_cell HM.out 0
 simp at m0
 go_wp2_with fail
 refine (sky_areMonths.calls a1 b2 _ HB2.out).mono ?_
 rintro e w2 ⟨rfl,⟨nd,rfl⟩⟩
 clear m0
 have HS2:=A0_ (blk_drewN HS.out nd)
 have HM2:=A0_ (blk_drewN HM.out nd)
 have HBB:=A0_ (pw_below_drewN HB.out nd)
 clear HS HM HB
 generalize w1.drewN nd=w3 at HS2 HM2 HBB ⊢
 cases b2 with
 |false=>
  obtain ⟨rfl,rfl⟩:(0:Int)=r1∧(2:Int)=r2:=by simpa using h2
  go_wp2
  go_ret2
  exact ⟨rfl,HBB.out⟩
 |true=>
 have hl:1<(l0_0.length:Int):=by
  by_cases c:1<(l0_0.length:Int)
  ·exact c
  ·simp [c] at h2
 rw [if_pos rfl,if_pos hl] at h2
 go_wp2_with fail
 have hs1:=blk_alloc (blk_alloc HS2.out (.cells #[.int .i64 0] 3)) (.cells #[.int .i64 0] 30)
 have hm1:=blk_alloc (blk_alloc HM2.out (.cells #[.int .i64 0] 3)) (.cells #[.int .i64 0] 30)
 have hn1:=blk_alloc (blk_new w3 (.cells #[.int .i64 0] 3)) (.cells #[.int .i64 0] 30)
 have he1:=blk_new (w3.alloc (.cells #[.int .i64 0] 3)) (.cells #[.int .i64 0] 30)
 have hC1:=Kd.C_below HR.out (below_alloc (below_alloc HBB.out (.cells #[.int .i64 0] 3)) (.cells #[.int .i64 0] 30))
 have HB1:=A0_ (below_alloc (below_alloc HBB.out (.cells #[.int .i64 0] 3)) (.cells #[.int .i64 0] 30))
 simp only [World.size_alloc] at he1
 have hle:=HBB.out.size
 by_cases hden:monthDen l0_0≤0
 ·obtain ⟨rfl,rfl⟩:(0:Int)=r1∧(7:Int)=r2:=by simpa [hden] using h2
  refine (try_gaveUp _ _ 7 _ (fun w'=>Below w.heap.size w w') (hcf _) ((Drift_c1.gaveUp A0_0 c0_0 l0_0 a0_1 a0_2 a0_3 _ _ _ _ _ hs1 hm1 hC1 HC.out hl hden).mono ?_)).mono ?_
  ·rintro e w4 ⟨rfl,hb⟩
   simp only [World.size_alloc]
   refine ⟨trivial,?_,?_,below_step HB1.out hb⟩
   ·exact (blk_cell (blk_below he1 hb) 0).trans rfl
   ·exact blk_frozen (blk_below he1 hb) 0
  rintro e w4 ⟨rfl,w5,hb,rfl⟩
  go_wp2_with fail
  go_ret2
  refine ⟨rfl,?_⟩
  exact below_alloc (below_set hb y3w_) _
 ·rw [if_neg hden] at h2
  obtain ⟨d,hd0,h3⟩:=Option.bind_eq_some_iff.mp h2
  obtain ⟨rfl,rfl⟩:d=r1∧(0:Int)=r2:=by simpa using h3
  refine (try_done _ _ _ (fun w'=>Below w.heap.size w w'∧w'.heap[w3.heap.size]?=some (.cells #[.int .i64 d] 3 (0,0))) (hcf _) ((Drift_c1.calls A0_0 c0_0 l0_0 a0_1 a0_2 a0_3 _ _ _ _ _ _ _ hs1 hm1 hn1 hC1 HC.out hd0).mono ?_)).mono ?_
  ·rintro e w4 ⟨rfl,w5,hb,rfl⟩
   simp only [World.size_alloc]
   have q:=blk_far (p:=⟨w3.heap.size,0,none⟩) (blk_below he1 hb) (by simp) (.int .i64 d)
   refine ⟨trivial,?_,?_,below_set (below_step HB1.out hb) (by omega),?_⟩
   ·exact (blk_cell q 0).trans rfl
   ·exact blk_frozen q 0
   ·exact blk_set (blk_below hn1 hb) 0 _
  rintro e w4 ⟨rfl,w5,⟨hb,hn3⟩,rfl⟩
  have hn4:=blk_far (p:=⟨w3.heap.size+1,0,none⟩) hn3 (by simp) (.int .i64 0)
  have hb4:=below_set (g:=w3.heap.size+1) (j:=0) (v:=.int .i64 0) hb (by omega)
  simp only [World.size_alloc] at hn4 hb4 ⊢
  have y0:=blk_cell hn4 0
  simp at y0
  have HB4:=A0_ hb4;clear hn3 hn4 hb hb4 hs1 hm1 hn1 he1 hC1
  go_wp2_with fail
  go_ret2
  exact ⟨rfl,HB4.out⟩
end Go.Proofs.YtjahbgldccjbfaaGreatDoor.PSky
end
section
namespace Go.Proofs.YtjahbgldccjbfaaGreatDoor.PSky
open Go.RowKit Go.Proofs.YtjahbgldccjbfaaGreatDoorW.PrintWords Go.Proofs.YtjahbgldccjbfaaGreatDoorW.PrintLast Go.Proofs.YtjahbgldccjbfaaGreatDoorW.PrintMore
def okMonths (m:Int):Bool:=okIn m 0 400
theorem areMonths_eq (m:Int):sky_areMonths.f m=some (okMonths m):=by unfold sky_areMonths.f;rw [in_eq];rfl
theorem Months_eq (m:Int):tr_Months.f m=some (okMonths m):=areMonths_eq m
theorem Drift_ev (l:List S74) (p q n m:Int):Ev (fun k=>sky_Drift.f k l p q n m) (if okSky l p q n=true∧okMonths m=true then (if mDen l≤0 then (0,7) else (driftOf l p q m,0)) else (0,2)):=by
 unfold sky_Drift.f
 refine Ev.bind (isSky_ev l p q n) ?_
 cases h:okSky l p q n with
 |false=>
  refine Ev.neg (by simp) ?_
  rw [if_neg (by simp)]
  exact Ev.now _
 |true=>
  have hk:=ok_at h
  refine Ev.pos rfl (Ev.bind (Ev.is (areMonths_eq m)) ?_)
  cases hm:okMonths m with
  |false=>
   refine Ev.neg (by simp) ?_
   rw [if_neg (by simp)]
   exact Ev.now _
  |true=>
   refine Ev.pos rfl (Ev.pos (by omega) ?_)
   rw [if_pos (show true=true∧true=true from ⟨rfl,rfl⟩),monthDen_eq h]
   by_cases hd:mDen l≤0
   ·refine Ev.pos hd ?_
    rw [if_pos hd]
    exact Ev.now _
   ·refine Ev.neg hd ?_
    rw [if_neg hd]
    exact Ev.bind (Ev.is (drift_eq h (by omega) (okIn_iff.mp hm))) (Ev.now _)
end Go.Proofs.YtjahbgldccjbfaaGreatDoor.PSky
end
section
namespace Go.Proofs.YtjahbgldccjbfaaGreatDoor.PSky
open Go.RowKit Go.Proofs.YtjahbgldccjbfaaGreatDoorW.PrintWords Go.Proofs.YtjahbgldccjbfaaGreatDoorW.PrintLast Go.Proofs.YtjahbgldccjbfaaGreatDoorW.PrintMore
attribute [local go_sem] max2_int min2_int max_two min_two max_three min_three max_four min_four
set_option linter.unusedVariables false
set_option linter.unusedSimpArgs false
mutual
def tl_SkyCycles.j0:Nat→Int→Int→Int→Bool→List (S74)→Int→Int→Int→Option (Bool)
 |0,_,_,_,_,_,_,_,_=>none
 |k+1,x1,x2,x3,x52,x506000,x506001,x506002,x506003=>if x52=true then ((tl_known.f).bind fun t511=>(some t511)) else ((sky_Cycle.f k x506000 x506001 x506002 x506003 x1).bind fun bt512=>(if bt512.2=7 then ((sky_Month.f k x506000 x506001 x506002 x506003).bind fun bt514=>(if bt514.2.2=7 then ((tl_known.f).bind fun t517=>(some t517)) else (some false))) else ((sky_Drift.f k x506000 x506001 x506002 x506003 x2).bind fun bt518=>((sky_Drift.f k x506000 x506001 x506002 x506003 x3).bind fun bt520=>((sky_Drift.f k x506000 x506001 x506002 x506003 (wrap64 (x2+x3))).bind fun bt522=>((sky_Drift.f k x506000 x506001 x506002 x506003 0).bind fun bt524=>(if bt518.2=0 then (if bt520.2=0 then (if bt522.2=0 then (if bt524.2=0 then ((tr_Limit.f bt518.1).bind fun t526=>(if t526=true then ((tr_Limit.f bt520.1).bind fun t527=>(if t527=true then ((tr_Limit.f bt522.1).bind fun t528=>(if t528=true then (if bt524.1=0 then (tl_SkyCycles.j1 k x1 x2 bt512.1 bt512.2 bt518.1 (decide (bt522.1 > (wrap64 ((wrap64 (bt518.1+bt520.1))+1)))) x506000 x506001 x506002 x506003) else (tl_SkyCycles.j1 k x1 x2 bt512.1 bt512.2 bt518.1 true x506000 x506001 x506002 x506003)) else (tl_SkyCycles.j1 k x1 x2 bt512.1 bt512.2 bt518.1 true x506000 x506001 x506002 x506003))) else (tl_SkyCycles.j1 k x1 x2 bt512.1 bt512.2 bt518.1 true x506000 x506001 x506002 x506003))) else (tl_SkyCycles.j1 k x1 x2 bt512.1 bt512.2 bt518.1 true x506000 x506001 x506002 x506003))) else (tl_SkyCycles.j1 k x1 x2 bt512.1 bt512.2 bt518.1 true x506000 x506001 x506002 x506003)) else (tl_SkyCycles.j1 k x1 x2 bt512.1 bt512.2 bt518.1 true x506000 x506001 x506002 x506003)) else (tl_SkyCycles.j1 k x1 x2 bt512.1 bt512.2 bt518.1 true x506000 x506001 x506002 x506003)) else (tl_SkyCycles.j1 k x1 x2 bt512.1 bt512.2 bt518.1 true x506000 x506001 x506002 x506003))))))))
def tl_SkyCycles.j1:Nat→Int→Int→Int→Int→Int→Bool→List (S74)→Int→Int→Int→Option (Bool)
 |0,_,_,_,_,_,_,_,_,_,_=>none
 |k+1,x1,x2,x9,x10,x14,x138,x506000,x506001,x506002,x506003=>if x138=true then (some false) else (if x10=0 then (if x9<1 then (tl_SkyCycles.j2 k x1 x2 x9 x14 true x506000 x506001 x506002 x506003) else (tl_SkyCycles.j2 k x1 x2 x9 x14 (decide (x9 > 400)) x506000 x506001 x506002 x506003)) else (if x10=5 then (if x2=0 then ((tl_known.f).bind fun t529=>(some t529)) else (if x14 > x1 then ((tl_known.f).bind fun t530=>(some t530)) else (some false))) else (some false)))
def tl_SkyCycles.j2:Nat→Int→Int→Int→Int→Bool→List (S74)→Int→Int→Int→Option (Bool)
 |0,_,_,_,_,_,_,_,_,_=>none
 |k+1,x1,x2,x9,x14,x160,x506000,x506001,x506002,x506003=>if x160=true then (some false) else ((sky_Drift.f k x506000 x506001 x506002 x506003 x9).bind fun bt531=>(if bt531.2=0 then (if bt531.1≤x1 then (if x2=0 then ((tl_known.f).bind fun t533=>(some t533)) else (if x2 ≥ x9 then ((tl_known.f).bind fun t534=>(some t534)) else (if x14 > x1 then ((tl_known.f).bind fun t535=>(some t535)) else (some false)))) else (some false)) else (some false)))
end
def tl_SkyCycles.f (k:Nat) (l0_0:List (S74)) (a0_1:Int) (a0_2:Int) (a0_3:Int) (a1:Int) (a2:Int) (a3:Int):Option (Bool):=(tl_short.f k l0_0 a0_1 a0_2 a0_3).bind fun t506=>(if t506=true then ((tr_Sky.f k l0_0 a0_1 a0_2 a0_3).bind fun t507=>(if t507=true then ((tr_Limit.f a1).bind fun t508=>(if t508=true then ((tr_Months.f a2).bind fun t509=>(if t509=true then ((tr_Months.f a3).bind fun t510=>(if t510=true then (tl_SkyCycles.j0 k a1 a2 a3 (decide ((wrap64 (a2+a3)) > 400)) l0_0 a0_1 a0_2 a0_3) else (tl_SkyCycles.j0 k a1 a2 a3 true l0_0 a0_1 a0_2 a0_3))) else (tl_SkyCycles.j0 k a1 a2 a3 true l0_0 a0_1 a0_2 a0_3))) else (tl_SkyCycles.j0 k a1 a2 a3 true l0_0 a0_1 a0_2 a0_3))) else (tl_SkyCycles.j0 k a1 a2 a3 true l0_0 a0_1 a0_2 a0_3))) else (tl_SkyCycles.j0 k a1 a2 a3 true l0_0 a0_1 a0_2 a0_3))
set_option maxHeartbeats 8000000 in
set_option maxRecDepth 100000 in
theorem tl_SkyCycles.calls (k:Nat) (A0_0:Option Addr) (c0_0:Nat) (l0_0:List (S74)) (a0_1:Int) (a0_2:Int) (a0_3:Int) (a1:Int) (a2:Int) (a3:Int) (r:Bool) (w:World) (hr0_0:Kd.C k74 w A0_0 l0_0.length l0_0) (hc0_0:l0_0.length≤c0_0) (h:tl_SkyCycles.f k l0_0 a0_1 a0_2 a0_3 a1 a2 a3=some r) (hLD:LD w):
  Calls Tryz.prog 7 #[.agg #[.slice A0_0 l0_0.length c0_0,.int .i64 a0_1,.int .i64 a0_2,.int .i64 a0_3],.int .i64 a1,.int .i64 a2,.int .i64 a3] w fun e w'=>e=.returned (.bool r)∧Below w.heap.size w w':=by
 have HLD:=A0_ hLD;clear hLD
 have hu29:=Tryz.underlying29
 have HR0_0:=A0_ hr0_0;have HC0_0:=A0_ hc0_0;clear hr0_0 hc0_0
 have HB:=A0_ (Below.refl w.heap.size w)
 have H:((tl_short.f k l0_0 a0_1 a0_2 a0_3).bind fun t506=>(if t506=true then ((tr_Sky.f k l0_0 a0_1 a0_2 a0_3).bind fun t507=>(if t507=true then ((tr_Limit.f a1).bind fun t508=>(if t508=true then ((tr_Months.f a2).bind fun t509=>(if t509=true then ((tr_Months.f a3).bind fun t510=>(if t510=true then (tl_SkyCycles.j0 k a1 a2 a3 (decide ((wrap64 (a2+a3)) > 400)) l0_0 a0_1 a0_2 a0_3) else (tl_SkyCycles.j0 k a1 a2 a3 true l0_0 a0_1 a0_2 a0_3))) else (tl_SkyCycles.j0 k a1 a2 a3 true l0_0 a0_1 a0_2 a0_3))) else (tl_SkyCycles.j0 k a1 a2 a3 true l0_0 a0_1 a0_2 a0_3))) else (tl_SkyCycles.j0 k a1 a2 a3 true l0_0 a0_1 a0_2 a0_3))) else (tl_SkyCycles.j0 k a1 a2 a3 true l0_0 a0_1 a0_2 a0_3)))=some r:=h
 clear h;have HC5:=A0_ H;clear H
 go_enter Tryz.func7,Tryz.ntmps7
 go_upto_region 1 with (first|((with_reducible refine gate_dst (N:=4) rfl ?_);refine box_event ?hg (N:=4) ?hd (cs:=#[.slice A0_0 l0_0.length c0_0,.int .i64 a0_1,.int .i64 a0_2,.int .i64 a0_3]) (t:=29) ?hr ?_;(case hd=>rfl);(case hg=>rfl);(case hr=>first|(go_simp;done)|(go_simp;rfl));intro gb505 hg w6 hbox hb;have n0_:=A0_ (below_step y0_ hb);have n1_:=A0_ (hbox);have n2_:=A0_ ((by rw [hg];exact (below_size y0_):w.heap.size≤gb505));have n3_:=A0_ ((by rw [hg];exact (below_size y0_):w.heap.size≤gb505));clear HB;have HB:=n0_;have BK505:=n1_;have GW505:=n2_;have GE505:=n3_;clear n0_ n1_ n2_ n3_;clear hb hbox hg))
 (try simp only [Act.put,List.setIfInBounds_toArray,List.set_cons_zero,List.set_cons_succ])
 go_cut [52] (fun v52 wc=>∃ (kq:Nat) (x52_4:Bool),v52=.bool x52_4∧Aside0 (tl_SkyCycles.j0 kq a1 a2 a3 x52_4 l0_0 a0_1 a0_2 a0_3=some r)∧Aside0 (kq≤k)∧Aside0 (wc.heap[gb505]?=some (.cells #[(.slice A0_0 l0_0.length c0_0),.int .i64 a0_1,.int .i64 a0_2,.int .i64 a0_3] 29 (0,0)))∧Aside0 (Below w.heap.size w wc))
 case first=>
  have H:=HC5.out
  clear HC5;replace H:=Option.bind_eq_some_iff.mp H;obtain ⟨t506,A70,H⟩:=H
  replace H:(if t506=true then ((tr_Sky.f k l0_0 a0_1 a0_2 a0_3).bind fun t507=>(if t507=true then ((tr_Limit.f a1).bind fun t508=>(if t508=true then ((tr_Months.f a2).bind fun t509=>(if t509=true then ((tr_Months.f a3).bind fun t510=>(if t510=true then (tl_SkyCycles.j0 k a1 a2 a3 (decide ((wrap64 (a2+a3)) > 400)) l0_0 a0_1 a0_2 a0_3) else (tl_SkyCycles.j0 k a1 a2 a3 true l0_0 a0_1 a0_2 a0_3))) else (tl_SkyCycles.j0 k a1 a2 a3 true l0_0 a0_1 a0_2 a0_3))) else (tl_SkyCycles.j0 k a1 a2 a3 true l0_0 a0_1 a0_2 a0_3))) else (tl_SkyCycles.j0 k a1 a2 a3 true l0_0 a0_1 a0_2 a0_3))) else (tl_SkyCycles.j0 k a1 a2 a3 true l0_0 a0_1 a0_2 a0_3))=some r:=H
  have A7:=A0_ A70;clear A70
  by_cases c8:t506=true
  ·as_aux_lemma=>
   subst c8
   have H1:((tr_Sky.f k l0_0 a0_1 a0_2 a0_3).bind fun t507=>(if t507=true then ((tr_Limit.f a1).bind fun t508=>(if t508=true then ((tr_Months.f a2).bind fun t509=>(if t509=true then ((tr_Months.f a3).bind fun t510=>(if t510=true then (tl_SkyCycles.j0 k a1 a2 a3 (decide ((wrap64 (a2+a3)) > 400)) l0_0 a0_1 a0_2 a0_3) else (tl_SkyCycles.j0 k a1 a2 a3 true l0_0 a0_1 a0_2 a0_3))) else (tl_SkyCycles.j0 k a1 a2 a3 true l0_0 a0_1 a0_2 a0_3))) else (tl_SkyCycles.j0 k a1 a2 a3 true l0_0 a0_1 a0_2 a0_3))) else (tl_SkyCycles.j0 k a1 a2 a3 true l0_0 a0_1 a0_2 a0_3)))=some r:=by rw [if_pos rfl] at H;exact H
   clear H;have H:=H1;clear H1;replace H:=Option.bind_eq_some_iff.mp H;obtain ⟨t507,A90,H⟩:=H
   replace H:(if t507=true then ((tr_Limit.f a1).bind fun t508=>(if t508=true then ((tr_Months.f a2).bind fun t509=>(if t509=true then ((tr_Months.f a3).bind fun t510=>(if t510=true then (tl_SkyCycles.j0 k a1 a2 a3 (decide ((wrap64 (a2+a3)) > 400)) l0_0 a0_1 a0_2 a0_3) else (tl_SkyCycles.j0 k a1 a2 a3 true l0_0 a0_1 a0_2 a0_3))) else (tl_SkyCycles.j0 k a1 a2 a3 true l0_0 a0_1 a0_2 a0_3))) else (tl_SkyCycles.j0 k a1 a2 a3 true l0_0 a0_1 a0_2 a0_3))) else (tl_SkyCycles.j0 k a1 a2 a3 true l0_0 a0_1 a0_2 a0_3))=some r:=H
   have A9:=A0_ A90;clear A90
   by_cases c10:t507=true
   ·subst c10
    have H1:((tr_Limit.f a1).bind fun t508=>(if t508=true then ((tr_Months.f a2).bind fun t509=>(if t509=true then ((tr_Months.f a3).bind fun t510=>(if t510=true then (tl_SkyCycles.j0 k a1 a2 a3 (decide ((wrap64 (a2+a3)) > 400)) l0_0 a0_1 a0_2 a0_3) else (tl_SkyCycles.j0 k a1 a2 a3 true l0_0 a0_1 a0_2 a0_3))) else (tl_SkyCycles.j0 k a1 a2 a3 true l0_0 a0_1 a0_2 a0_3))) else (tl_SkyCycles.j0 k a1 a2 a3 true l0_0 a0_1 a0_2 a0_3)))=some r:=by rw [if_pos rfl] at H;exact H
    clear H;have H:=H1;clear H1;replace H:=Option.bind_eq_some_iff.mp H;obtain ⟨t508,A110,H⟩:=H
    replace H:(if t508=true then ((tr_Months.f a2).bind fun t509=>(if t509=true then ((tr_Months.f a3).bind fun t510=>(if t510=true then (tl_SkyCycles.j0 k a1 a2 a3 (decide ((wrap64 (a2+a3)) > 400)) l0_0 a0_1 a0_2 a0_3) else (tl_SkyCycles.j0 k a1 a2 a3 true l0_0 a0_1 a0_2 a0_3))) else (tl_SkyCycles.j0 k a1 a2 a3 true l0_0 a0_1 a0_2 a0_3))) else (tl_SkyCycles.j0 k a1 a2 a3 true l0_0 a0_1 a0_2 a0_3))=some r:=H
    have A11:=A0_ A110;clear A110
    by_cases c12:t508=true
    ·subst c12
     have H1:((tr_Months.f a2).bind fun t509=>(if t509=true then ((tr_Months.f a3).bind fun t510=>(if t510=true then (tl_SkyCycles.j0 k a1 a2 a3 (decide ((wrap64 (a2+a3)) > 400)) l0_0 a0_1 a0_2 a0_3) else (tl_SkyCycles.j0 k a1 a2 a3 true l0_0 a0_1 a0_2 a0_3))) else (tl_SkyCycles.j0 k a1 a2 a3 true l0_0 a0_1 a0_2 a0_3)))=some r:=by rw [if_pos rfl] at H;exact H
     clear H;have H:=H1;clear H1;replace H:=Option.bind_eq_some_iff.mp H;obtain ⟨t509,A130,H⟩:=H
     replace H:(if t509=true then ((tr_Months.f a3).bind fun t510=>(if t510=true then (tl_SkyCycles.j0 k a1 a2 a3 (decide ((wrap64 (a2+a3)) > 400)) l0_0 a0_1 a0_2 a0_3) else (tl_SkyCycles.j0 k a1 a2 a3 true l0_0 a0_1 a0_2 a0_3))) else (tl_SkyCycles.j0 k a1 a2 a3 true l0_0 a0_1 a0_2 a0_3))=some r:=H
     have A13:=A0_ A130;clear A130
     by_cases c14:t509=true
     ·subst c14
      have H1:((tr_Months.f a3).bind fun t510=>(if t510=true then (tl_SkyCycles.j0 k a1 a2 a3 (decide ((wrap64 (a2+a3)) > 400)) l0_0 a0_1 a0_2 a0_3) else (tl_SkyCycles.j0 k a1 a2 a3 true l0_0 a0_1 a0_2 a0_3)))=some r:=by rw [if_pos rfl] at H;exact H
      clear H;have H:=H1;clear H1;replace H:=Option.bind_eq_some_iff.mp H;obtain ⟨t510,A150,H⟩:=H
      replace H:(if t510=true then (tl_SkyCycles.j0 k a1 a2 a3 (decide ((wrap64 (a2+a3)) > 400)) l0_0 a0_1 a0_2 a0_3) else (tl_SkyCycles.j0 k a1 a2 a3 true l0_0 a0_1 a0_2 a0_3))=some r:=H
      have A15:=A0_ A150;clear A150
      by_cases c16:t510=true
      ·subst c16
       have H1:(tl_SkyCycles.j0 k a1 a2 a3 (decide ((wrap64 (a2+a3)) > 400)) l0_0 a0_1 a0_2 a0_3)=some r:=by rw [if_pos rfl] at H;exact H
       clear H;have H:=H1;clear H1
       have H':=A0_ H
       clear H;obtain ⟨hcz17_0,hcz17_1,hcz17_2,hcz17_3,hfz17_0,hfz17_1,hfz17_2,hfz17_3⟩:=bq4_ BK505.out
       go_wp2_with (first|((with_reducible refine gate_callee (f:=17) rfl ?_);refine goesL_ (some 25) rfl rfl Tryz.func17 (by kernel_rfl) rfl #[.agg #[.slice A0_0 l0_0.length c0_0,.int .i64 a0_1,.int .i64 a0_2,.int .i64 a0_3]] rfl y1_ ?_;(with_reducible refine (tl_short.calls k _ _ l0_0 a0_1 a0_2 a0_3 true _ ?side1 ?side2 A7.out).mono ?_);(case side1=>repeat (first|exact (Kd.C_below HR0_0.out HB.out)|(with_reducible refine Kd.C_alloc ?_ _)|(with_reducible refine Kd.C_drewN ?_ _)|(with_reducible refine Kd.C_drew ?_)));(case side2=>exact HC0_0.out);rintro e w18 ⟨rfl,hb⟩;refine ⟨_,rfl,?_⟩;have n0_:=A0_ (blk_below (g:=gb505) (o:=.cells #[.slice A0_0 l0_0.length c0_0,.int .i64 a0_1,.int .i64 a0_2,.int .i64 a0_3] 29 (0,0)) (bd_ BK505.out) hb);have n1_:=A0_ (below_step (by repeat (first|(with_reducible first|exact HB.out|apply below_alloc|apply pw_below_drewN|apply below_drew1|refine below_set ?_ GE505.out)|exact HB.out)) hb);clear BK505;clear HB;have BK505:=n0_;have HB:=n1_;clear n0_ n1_;(try clear hb);(try clear hb2);(try clear hk);(try clear hi);obtain ⟨hcz19_0,hcz19_1,hcz19_2,hcz19_3,hfz19_0,hfz19_1,hfz19_2,hfz19_3⟩:=bq4_ BK505.out)|(go_at_call 14;(with_reducible refine (tr_Sky.calls k _ _ l0_0 a0_1 a0_2 a0_3 true _ ?side1 ?side2 A9.out).mono ?_);(case side1=>repeat (first|exact (Kd.C_below HR0_0.out HB.out)|(with_reducible refine Kd.C_alloc ?_ _)|(with_reducible refine Kd.C_drewN ?_ _)|(with_reducible refine Kd.C_drew ?_)));(case side2=>exact HC0_0.out);rintro e w20 ⟨rfl,hb⟩;have n0_:=A0_ (blk_below (g:=gb505) (o:=.cells #[.slice A0_0 l0_0.length c0_0,.int .i64 a0_1,.int .i64 a0_2,.int .i64 a0_3] 29 (0,0)) (bd_ BK505.out) hb);have n1_:=A0_ (below_step (by repeat (first|(with_reducible first|exact HB.out|apply below_alloc|apply pw_below_drewN|apply below_drew1|refine below_set ?_ GE505.out)|exact HB.out)) hb);clear BK505;clear HB;have BK505:=n0_;have HB:=n1_;clear n0_ n1_;(try clear hb);(try clear hb2);(try clear hk);(try clear hi))|(go_at_call 37;(with_reducible refine (tr_Limit.calls a1 true _ A11.out).mono ?_);rintro e w' ⟨rfl,⟨nd,rfl⟩⟩)|(go_at_call 36;(with_reducible refine (tr_Months.calls a2 true _ A13.out).mono ?_);rintro e w' ⟨rfl,⟨nd,rfl⟩⟩)|(go_at_call 36;(with_reducible refine (tr_Months.calls a3 true _ A15.out).mono ?_);rintro e w' ⟨rfl,⟨nd,rfl⟩⟩))
       go_meet
       case rel=>exact ⟨_,(decide ((wrap64 (a2+a3)) > 400)),y4_,H',⟨by first|omega|exact Nat.le_refl _⟩,⟨by (with_reducible repeat (first|refine blk_drewN ?_ _|refine blk_drew ?_|refine blk_alloc ?_ _));exact BK505.out⟩,⟨(by repeat (first|(with_reducible first|exact HB.out|apply below_alloc|apply pw_below_drewN|apply below_drew1|refine below_set ?_ GE505.out)|exact HB.out))⟩⟩
      ·replace c16:=Bool.eq_false_iff.mpr c16;subst c16
       have H1:(tl_SkyCycles.j0 k a1 a2 a3 true l0_0 a0_1 a0_2 a0_3)=some r:=by rw [if_neg (show ¬ (false=true) by decide)] at H;exact H
       clear H;have H:=H1;clear H1
       have H':=A0_ H
       clear H;obtain ⟨hcz21_0,hcz21_1,hcz21_2,hcz21_3,hfz21_0,hfz21_1,hfz21_2,hfz21_3⟩:=bq4_ BK505.out
       go_wp2_with (first|((with_reducible refine gate_callee (f:=17) rfl ?_);refine goesL_ (some 25) rfl rfl Tryz.func17 (by kernel_rfl) rfl #[.agg #[.slice A0_0 l0_0.length c0_0,.int .i64 a0_1,.int .i64 a0_2,.int .i64 a0_3]] rfl y1_ ?_;(with_reducible refine (tl_short.calls k _ _ l0_0 a0_1 a0_2 a0_3 true _ ?side1 ?side2 A7.out).mono ?_);(case side1=>repeat (first|exact (Kd.C_below HR0_0.out HB.out)|(with_reducible refine Kd.C_alloc ?_ _)|(with_reducible refine Kd.C_drewN ?_ _)|(with_reducible refine Kd.C_drew ?_)));(case side2=>exact HC0_0.out);rintro e w22 ⟨rfl,hb⟩;refine ⟨_,rfl,?_⟩;have n0_:=A0_ (blk_below (g:=gb505) (o:=.cells #[.slice A0_0 l0_0.length c0_0,.int .i64 a0_1,.int .i64 a0_2,.int .i64 a0_3] 29 (0,0)) (bd_ BK505.out) hb);have n1_:=A0_ (below_step (by repeat (first|(with_reducible first|exact HB.out|apply below_alloc|apply pw_below_drewN|apply below_drew1|refine below_set ?_ GE505.out)|exact HB.out)) hb);clear BK505;clear HB;have BK505:=n0_;have HB:=n1_;clear n0_ n1_;(try clear hb);(try clear hb2);(try clear hk);(try clear hi);obtain ⟨hcz23_0,hcz23_1,hcz23_2,hcz23_3,hfz23_0,hfz23_1,hfz23_2,hfz23_3⟩:=bq4_ BK505.out)|(go_at_call 14;(with_reducible refine (tr_Sky.calls k _ _ l0_0 a0_1 a0_2 a0_3 true _ ?side1 ?side2 A9.out).mono ?_);(case side1=>repeat (first|exact (Kd.C_below HR0_0.out HB.out)|(with_reducible refine Kd.C_alloc ?_ _)|(with_reducible refine Kd.C_drewN ?_ _)|(with_reducible refine Kd.C_drew ?_)));(case side2=>exact HC0_0.out);rintro e w24 ⟨rfl,hb⟩;have n0_:=A0_ (blk_below (g:=gb505) (o:=.cells #[.slice A0_0 l0_0.length c0_0,.int .i64 a0_1,.int .i64 a0_2,.int .i64 a0_3] 29 (0,0)) (bd_ BK505.out) hb);have n1_:=A0_ (below_step (by repeat (first|(with_reducible first|exact HB.out|apply below_alloc|apply pw_below_drewN|apply below_drew1|refine below_set ?_ GE505.out)|exact HB.out)) hb);clear BK505;clear HB;have BK505:=n0_;have HB:=n1_;clear n0_ n1_;(try clear hb);(try clear hb2);(try clear hk);(try clear hi))|(go_at_call 37;(with_reducible refine (tr_Limit.calls a1 true _ A11.out).mono ?_);rintro e w' ⟨rfl,⟨nd,rfl⟩⟩)|(go_at_call 36;(with_reducible refine (tr_Months.calls a2 true _ A13.out).mono ?_);rintro e w' ⟨rfl,⟨nd,rfl⟩⟩)|(go_at_call 36;(with_reducible refine (tr_Months.calls a3 false _ A15.out).mono ?_);rintro e w' ⟨rfl,⟨nd,rfl⟩⟩))
       go_meet
       case rel=>exact ⟨_,(true),y4_,H',⟨by first|omega|exact Nat.le_refl _⟩,⟨by (with_reducible repeat (first|refine blk_drewN ?_ _|refine blk_drew ?_|refine blk_alloc ?_ _));exact BK505.out⟩,⟨(by repeat (first|(with_reducible first|exact HB.out|apply below_alloc|apply pw_below_drewN|apply below_drew1|refine below_set ?_ GE505.out)|exact HB.out))⟩⟩
     ·replace c14:=Bool.eq_false_iff.mpr c14;subst c14
      have H1:(tl_SkyCycles.j0 k a1 a2 a3 true l0_0 a0_1 a0_2 a0_3)=some r:=by rw [if_neg (show ¬ (false=true) by decide)] at H;exact H
      clear H;have H:=H1;clear H1
      have H':=A0_ H
      clear H;obtain ⟨hcz25_0,hcz25_1,hcz25_2,hcz25_3,hfz25_0,hfz25_1,hfz25_2,hfz25_3⟩:=bq4_ BK505.out
      go_wp2_with (first|((with_reducible refine gate_callee (f:=17) rfl ?_);refine goesL_ (some 25) rfl rfl Tryz.func17 (by kernel_rfl) rfl #[.agg #[.slice A0_0 l0_0.length c0_0,.int .i64 a0_1,.int .i64 a0_2,.int .i64 a0_3]] rfl y1_ ?_;(with_reducible refine (tl_short.calls k _ _ l0_0 a0_1 a0_2 a0_3 true _ ?side1 ?side2 A7.out).mono ?_);(case side1=>repeat (first|exact (Kd.C_below HR0_0.out HB.out)|(with_reducible refine Kd.C_alloc ?_ _)|(with_reducible refine Kd.C_drewN ?_ _)|(with_reducible refine Kd.C_drew ?_)));(case side2=>exact HC0_0.out);rintro e w26 ⟨rfl,hb⟩;refine ⟨_,rfl,?_⟩;have n0_:=A0_ (blk_below (g:=gb505) (o:=.cells #[.slice A0_0 l0_0.length c0_0,.int .i64 a0_1,.int .i64 a0_2,.int .i64 a0_3] 29 (0,0)) (bd_ BK505.out) hb);have n1_:=A0_ (below_step (by repeat (first|(with_reducible first|exact HB.out|apply below_alloc|apply pw_below_drewN|apply below_drew1|refine below_set ?_ GE505.out)|exact HB.out)) hb);clear BK505;clear HB;have BK505:=n0_;have HB:=n1_;clear n0_ n1_;(try clear hb);(try clear hb2);(try clear hk);(try clear hi);obtain ⟨hcz27_0,hcz27_1,hcz27_2,hcz27_3,hfz27_0,hfz27_1,hfz27_2,hfz27_3⟩:=bq4_ BK505.out)|(go_at_call 14;(with_reducible refine (tr_Sky.calls k _ _ l0_0 a0_1 a0_2 a0_3 true _ ?side1 ?side2 A9.out).mono ?_);(case side1=>repeat (first|exact (Kd.C_below HR0_0.out HB.out)|(with_reducible refine Kd.C_alloc ?_ _)|(with_reducible refine Kd.C_drewN ?_ _)|(with_reducible refine Kd.C_drew ?_)));(case side2=>exact HC0_0.out);rintro e w28 ⟨rfl,hb⟩;have n0_:=A0_ (blk_below (g:=gb505) (o:=.cells #[.slice A0_0 l0_0.length c0_0,.int .i64 a0_1,.int .i64 a0_2,.int .i64 a0_3] 29 (0,0)) (bd_ BK505.out) hb);have n1_:=A0_ (below_step (by repeat (first|(with_reducible first|exact HB.out|apply below_alloc|apply pw_below_drewN|apply below_drew1|refine below_set ?_ GE505.out)|exact HB.out)) hb);clear BK505;clear HB;have BK505:=n0_;have HB:=n1_;clear n0_ n1_;(try clear hb);(try clear hb2);(try clear hk);(try clear hi))|(go_at_call 37;(with_reducible refine (tr_Limit.calls a1 true _ A11.out).mono ?_);rintro e w' ⟨rfl,⟨nd,rfl⟩⟩)|(go_at_call 36;(with_reducible refine (tr_Months.calls a2 false _ A13.out).mono ?_);rintro e w' ⟨rfl,⟨nd,rfl⟩⟩))
      go_meet
      case rel=>exact ⟨_,(true),y4_,H',⟨by first|omega|exact Nat.le_refl _⟩,⟨by (with_reducible repeat (first|refine blk_drewN ?_ _|refine blk_drew ?_|refine blk_alloc ?_ _));exact BK505.out⟩,⟨(by repeat (first|(with_reducible first|exact HB.out|apply below_alloc|apply pw_below_drewN|apply below_drew1|refine below_set ?_ GE505.out)|exact HB.out))⟩⟩
    ·replace c12:=Bool.eq_false_iff.mpr c12;subst c12
     have H1:(tl_SkyCycles.j0 k a1 a2 a3 true l0_0 a0_1 a0_2 a0_3)=some r:=by rw [if_neg (show ¬ (false=true) by decide)] at H;exact H
     clear H;have H:=H1;clear H1
     have H':=A0_ H
     clear H;obtain ⟨hcz29_0,hcz29_1,hcz29_2,hcz29_3,hfz29_0,hfz29_1,hfz29_2,hfz29_3⟩:=bq4_ BK505.out
     go_wp2_with (first|((with_reducible refine gate_callee (f:=17) rfl ?_);refine goesL_ (some 25) rfl rfl Tryz.func17 (by kernel_rfl) rfl #[.agg #[.slice A0_0 l0_0.length c0_0,.int .i64 a0_1,.int .i64 a0_2,.int .i64 a0_3]] rfl y1_ ?_;(with_reducible refine (tl_short.calls k _ _ l0_0 a0_1 a0_2 a0_3 true _ ?side1 ?side2 A7.out).mono ?_);(case side1=>repeat (first|exact (Kd.C_below HR0_0.out HB.out)|(with_reducible refine Kd.C_alloc ?_ _)|(with_reducible refine Kd.C_drewN ?_ _)|(with_reducible refine Kd.C_drew ?_)));(case side2=>exact HC0_0.out);rintro e w30 ⟨rfl,hb⟩;refine ⟨_,rfl,?_⟩;have n0_:=A0_ (blk_below (g:=gb505) (o:=.cells #[.slice A0_0 l0_0.length c0_0,.int .i64 a0_1,.int .i64 a0_2,.int .i64 a0_3] 29 (0,0)) (bd_ BK505.out) hb);have n1_:=A0_ (below_step (by repeat (first|(with_reducible first|exact HB.out|apply below_alloc|apply pw_below_drewN|apply below_drew1|refine below_set ?_ GE505.out)|exact HB.out)) hb);clear BK505;clear HB;have BK505:=n0_;have HB:=n1_;clear n0_ n1_;(try clear hb);(try clear hb2);(try clear hk);(try clear hi);obtain ⟨hcz31_0,hcz31_1,hcz31_2,hcz31_3,hfz31_0,hfz31_1,hfz31_2,hfz31_3⟩:=bq4_ BK505.out)|(go_at_call 14;(with_reducible refine (tr_Sky.calls k _ _ l0_0 a0_1 a0_2 a0_3 true _ ?side1 ?side2 A9.out).mono ?_);(case side1=>repeat (first|exact (Kd.C_below HR0_0.out HB.out)|(with_reducible refine Kd.C_alloc ?_ _)|(with_reducible refine Kd.C_drewN ?_ _)|(with_reducible refine Kd.C_drew ?_)));(case side2=>exact HC0_0.out);rintro e w32 ⟨rfl,hb⟩;have n0_:=A0_ (blk_below (g:=gb505) (o:=.cells #[.slice A0_0 l0_0.length c0_0,.int .i64 a0_1,.int .i64 a0_2,.int .i64 a0_3] 29 (0,0)) (bd_ BK505.out) hb);have n1_:=A0_ (below_step (by repeat (first|(with_reducible first|exact HB.out|apply below_alloc|apply pw_below_drewN|apply below_drew1|refine below_set ?_ GE505.out)|exact HB.out)) hb);clear BK505;clear HB;have BK505:=n0_;have HB:=n1_;clear n0_ n1_;(try clear hb);(try clear hb2);(try clear hk);(try clear hi))|(go_at_call 37;(with_reducible refine (tr_Limit.calls a1 false _ A11.out).mono ?_);rintro e w' ⟨rfl,⟨nd,rfl⟩⟩))
     go_meet
     case rel=>exact ⟨_,(true),y4_,H',⟨by first|omega|exact Nat.le_refl _⟩,⟨by (with_reducible repeat (first|refine blk_drewN ?_ _|refine blk_drew ?_|refine blk_alloc ?_ _));exact BK505.out⟩,⟨(by repeat (first|(with_reducible first|exact HB.out|apply below_alloc|apply pw_below_drewN|apply below_drew1|refine below_set ?_ GE505.out)|exact HB.out))⟩⟩
   ·replace c10:=Bool.eq_false_iff.mpr c10;subst c10
    have H1:(tl_SkyCycles.j0 k a1 a2 a3 true l0_0 a0_1 a0_2 a0_3)=some r:=by rw [if_neg (show ¬ (false=true) by decide)] at H;exact H
    clear H;have H:=H1;clear H1
    have H':=A0_ H
    clear H;obtain ⟨hcz33_0,hcz33_1,hcz33_2,hcz33_3,hfz33_0,hfz33_1,hfz33_2,hfz33_3⟩:=bq4_ BK505.out
    go_wp2_with (first|((with_reducible refine gate_callee (f:=17) rfl ?_);refine goesL_ (some 25) rfl rfl Tryz.func17 (by kernel_rfl) rfl #[.agg #[.slice A0_0 l0_0.length c0_0,.int .i64 a0_1,.int .i64 a0_2,.int .i64 a0_3]] rfl y1_ ?_;(with_reducible refine (tl_short.calls k _ _ l0_0 a0_1 a0_2 a0_3 true _ ?side1 ?side2 A7.out).mono ?_);(case side1=>repeat (first|exact (Kd.C_below HR0_0.out HB.out)|(with_reducible refine Kd.C_alloc ?_ _)|(with_reducible refine Kd.C_drewN ?_ _)|(with_reducible refine Kd.C_drew ?_)));(case side2=>exact HC0_0.out);rintro e w34 ⟨rfl,hb⟩;refine ⟨_,rfl,?_⟩;have n0_:=A0_ (blk_below (g:=gb505) (o:=.cells #[.slice A0_0 l0_0.length c0_0,.int .i64 a0_1,.int .i64 a0_2,.int .i64 a0_3] 29 (0,0)) (bd_ BK505.out) hb);have n1_:=A0_ (below_step (by repeat (first|(with_reducible first|exact HB.out|apply below_alloc|apply pw_below_drewN|apply below_drew1|refine below_set ?_ GE505.out)|exact HB.out)) hb);clear BK505;clear HB;have BK505:=n0_;have HB:=n1_;clear n0_ n1_;(try clear hb);(try clear hb2);(try clear hk);(try clear hi);obtain ⟨hcz35_0,hcz35_1,hcz35_2,hcz35_3,hfz35_0,hfz35_1,hfz35_2,hfz35_3⟩:=bq4_ BK505.out)|(go_at_call 14;(with_reducible refine (tr_Sky.calls k _ _ l0_0 a0_1 a0_2 a0_3 false _ ?side1 ?side2 A9.out).mono ?_);(case side1=>repeat (first|exact (Kd.C_below HR0_0.out HB.out)|(with_reducible refine Kd.C_alloc ?_ _)|(with_reducible refine Kd.C_drewN ?_ _)|(with_reducible refine Kd.C_drew ?_)));(case side2=>exact HC0_0.out);rintro e w36 ⟨rfl,hb⟩;have n0_:=A0_ (blk_below (g:=gb505) (o:=.cells #[.slice A0_0 l0_0.length c0_0,.int .i64 a0_1,.int .i64 a0_2,.int .i64 a0_3] 29 (0,0)) (bd_ BK505.out) hb);have n1_:=A0_ (below_step (by repeat (first|(with_reducible first|exact HB.out|apply below_alloc|apply pw_below_drewN|apply below_drew1|refine below_set ?_ GE505.out)|exact HB.out)) hb);clear BK505;clear HB;have BK505:=n0_;have HB:=n1_;clear n0_ n1_;(try clear hb);(try clear hb2);(try clear hk);(try clear hi)))
    go_meet
    case rel=>exact ⟨_,(true),y4_,H',⟨by first|omega|exact Nat.le_refl _⟩,⟨by (with_reducible repeat (first|refine blk_drewN ?_ _|refine blk_drew ?_|refine blk_alloc ?_ _));exact BK505.out⟩,⟨(by repeat (first|(with_reducible first|exact HB.out|apply below_alloc|apply pw_below_drewN|apply below_drew1|refine below_set ?_ GE505.out)|exact HB.out))⟩⟩
  ·replace c8:=Bool.eq_false_iff.mpr c8;subst c8
   have H1:(tl_SkyCycles.j0 k a1 a2 a3 true l0_0 a0_1 a0_2 a0_3)=some r:=by rw [if_neg (show ¬ (false=true) by decide)] at H;exact H
   clear H;have H:=H1;clear H1
   have H':=A0_ H
   clear H;obtain ⟨hcz37_0,hcz37_1,hcz37_2,hcz37_3,hfz37_0,hfz37_1,hfz37_2,hfz37_3⟩:=bq4_ BK505.out
   go_wp2_with (first|((with_reducible refine gate_callee (f:=17) rfl ?_);refine goesL_ (some 25) rfl rfl Tryz.func17 (by kernel_rfl) rfl #[.agg #[.slice A0_0 l0_0.length c0_0,.int .i64 a0_1,.int .i64 a0_2,.int .i64 a0_3]] rfl y1_ ?_;(with_reducible refine (tl_short.calls k _ _ l0_0 a0_1 a0_2 a0_3 false _ ?side1 ?side2 A7.out).mono ?_);(case side1=>repeat (first|exact (Kd.C_below HR0_0.out HB.out)|(with_reducible refine Kd.C_alloc ?_ _)|(with_reducible refine Kd.C_drewN ?_ _)|(with_reducible refine Kd.C_drew ?_)));(case side2=>exact HC0_0.out);rintro e w38 ⟨rfl,hb⟩;refine ⟨_,rfl,?_⟩;have n0_:=A0_ (blk_below (g:=gb505) (o:=.cells #[.slice A0_0 l0_0.length c0_0,.int .i64 a0_1,.int .i64 a0_2,.int .i64 a0_3] 29 (0,0)) (bd_ BK505.out) hb);have n1_:=A0_ (below_step (by repeat (first|(with_reducible first|exact HB.out|apply below_alloc|apply pw_below_drewN|apply below_drew1|refine below_set ?_ GE505.out)|exact HB.out)) hb);clear BK505;clear HB;have BK505:=n0_;have HB:=n1_;clear n0_ n1_;(try clear hb);(try clear hb2);(try clear hk);(try clear hi)))
   go_meet
   case rel=>exact ⟨_,(true),y4_,H',⟨by first|omega|exact Nat.le_refl _⟩,⟨by (with_reducible repeat (first|refine blk_drewN ?_ _|refine blk_drew ?_|refine blk_alloc ?_ _));exact BK505.out⟩,⟨(by repeat (first|(with_reducible first|exact HB.out|apply below_alloc|apply pw_below_drewN|apply below_drew1|refine below_set ?_ GE505.out)|exact HB.out))⟩⟩
 case rest=>
  clear HC5;(try clear c1);(try clear p2);(try clear p6);(try clear c7);(try clear c8);(try clear c10);(try clear c12);(try clear c14);(try clear c16);(try clear c17);(try clear hcz17_0);(try clear hcz17_1);(try clear hcz17_2);(try clear hcz17_3);(try clear hcz19_0);(try clear hcz19_1);(try clear hcz19_2);(try clear hcz19_3);(try clear hcz21_0);(try clear hcz21_1);(try clear hcz21_2);(try clear hcz21_3);(try clear hcz23_0);(try clear hcz23_1);(try clear hcz23_2);(try clear hcz23_3);(try clear hcz25_0);(try clear hcz25_1);(try clear hcz25_2);(try clear hcz25_3);(try clear hcz27_0);(try clear hcz27_1);(try clear hcz27_2);(try clear hcz27_3);(try clear hcz29_0);(try clear hcz29_1);(try clear hcz29_2);(try clear hcz29_3);(try clear hcz31_0);(try clear hcz31_1);(try clear hcz31_2);(try clear hcz31_3);(try clear hcz33_0);(try clear hcz33_1);(try clear hcz33_2);(try clear hcz33_3);(try clear hcz35_0);(try clear hcz35_1);(try clear hcz35_2);(try clear hcz35_3);(try clear hcz37_0);(try clear hcz37_1);(try clear hcz37_2);(try clear hcz37_3);(try clear hfz17_0);(try clear hfz17_1);(try clear hfz17_2);(try clear hfz17_3);(try clear hfz19_0);(try clear hfz19_1);(try clear hfz19_2);(try clear hfz19_3);(try clear hfz21_0);(try clear hfz21_1);(try clear hfz21_2);(try clear hfz21_3);(try clear hfz23_0);(try clear hfz23_1);(try clear hfz23_2);(try clear hfz23_3);(try clear hfz25_0);(try clear hfz25_1);(try clear hfz25_2);(try clear hfz25_3);(try clear hfz27_0);(try clear hfz27_1);(try clear hfz27_2);(try clear hfz27_3);(try clear hfz29_0);(try clear hfz29_1);(try clear hfz29_2);(try clear hfz29_3);(try clear hfz31_0);(try clear hfz31_1);(try clear hfz31_2);(try clear hfz31_3);(try clear hfz33_0);(try clear hfz33_1);(try clear hfz33_2);(try clear hfz33_3);(try clear hfz35_0);(try clear hfz35_1);(try clear hfz35_2);(try clear hfz35_3);(try clear hfz37_0);(try clear hfz37_1);(try clear hfz37_2);(try clear hfz37_3)
  obtain ⟨kq,x52_4,rfl,HA,HJ4,BK505,HB⟩:=hcut
  cases kq with
  |zero=>exact absurd HA.out (by simp [tl_SkyCycles.j0])
  |succ kj4=>
   have H:=HA.out
   clear HA
   simp only [tl_SkyCycles.j0] at H
   by_cases c39:x52_4=true
   ·subst c39
    have H1:((tl_known.f).bind fun t511=>(some t511))=some r:=by rw [if_pos rfl] at H;exact H
    clear H;have H:=H1;clear H1;replace H:=Option.bind_eq_some_iff.mp H;obtain ⟨t511,A400,H⟩:=H
    replace H:(some t511)=some r:=H
    have A40:=A0_ A400;clear A400;obtain rfl:=Option.some.inj H
    go_wp2_with (first|((with_reducible refine gate_callee (f:=11) rfl ?_);refine goesL_ (some 53) rfl rfl Tryz.func11 (by kernel_rfl) rfl #[] rfl y1_ ?_;(with_reducible refine (tl_known.calls  t511 _ A40.out ?side1).mono ?_);(case side1=>exact LD.below HLD.out (by repeat (first|(with_reducible first|exact HB.out|apply below_alloc|apply pw_below_drewN|apply below_drew1|refine below_set ?_ GE505.out)|exact HB.out)));rintro e w41 ⟨rfl,hb⟩;refine ⟨_,rfl,?_⟩;have n0_:=A0_ (blk_below (g:=gb505) (o:=.cells #[.slice A0_0 l0_0.length c0_0,.int .i64 a0_1,.int .i64 a0_2,.int .i64 a0_3] 29 (0,0)) (bd_ BK505.out) hb);have n1_:=A0_ (below_step (by repeat (first|(with_reducible first|exact HB.out|apply below_alloc|apply pw_below_drewN|apply below_drew1|refine below_set ?_ GE505.out)|exact HB.out)) hb);clear BK505;clear HB;have BK505:=n0_;have HB:=n1_;clear n0_ n1_;(try clear hb);(try clear hb2);(try clear hk);(try clear hi)))
    go_ret
    exact ⟨y2_,(by repeat (first|(with_reducible first|exact HB.out|apply below_alloc|apply pw_below_drewN|apply below_drew1|refine below_set ?_ GE505.out)|exact HB.out))⟩
   ·replace c39:=Bool.eq_false_iff.mpr c39;subst c39
    have H1:((sky_Cycle.f kj4 l0_0 a0_1 a0_2 a0_3 a1).bind fun bt512=>(if bt512.2=7 then ((sky_Month.f kj4 l0_0 a0_1 a0_2 a0_3).bind fun bt514=>(if bt514.2.2=7 then ((tl_known.f).bind fun t517=>(some t517)) else (some false))) else ((sky_Drift.f kj4 l0_0 a0_1 a0_2 a0_3 a2).bind fun bt518=>((sky_Drift.f kj4 l0_0 a0_1 a0_2 a0_3 a3).bind fun bt520=>((sky_Drift.f kj4 l0_0 a0_1 a0_2 a0_3 (wrap64 (a2+a3))).bind fun bt522=>((sky_Drift.f kj4 l0_0 a0_1 a0_2 a0_3 0).bind fun bt524=>(if bt518.2=0 then (if bt520.2=0 then (if bt522.2=0 then (if bt524.2=0 then ((tr_Limit.f bt518.1).bind fun t526=>(if t526=true then ((tr_Limit.f bt520.1).bind fun t527=>(if t527=true then ((tr_Limit.f bt522.1).bind fun t528=>(if t528=true then (if bt524.1=0 then (tl_SkyCycles.j1 kj4 a1 a2 bt512.1 bt512.2 bt518.1 (decide (bt522.1 > (wrap64 ((wrap64 (bt518.1+bt520.1))+1)))) l0_0 a0_1 a0_2 a0_3) else (tl_SkyCycles.j1 kj4 a1 a2 bt512.1 bt512.2 bt518.1 true l0_0 a0_1 a0_2 a0_3)) else (tl_SkyCycles.j1 kj4 a1 a2 bt512.1 bt512.2 bt518.1 true l0_0 a0_1 a0_2 a0_3))) else (tl_SkyCycles.j1 kj4 a1 a2 bt512.1 bt512.2 bt518.1 true l0_0 a0_1 a0_2 a0_3))) else (tl_SkyCycles.j1 kj4 a1 a2 bt512.1 bt512.2 bt518.1 true l0_0 a0_1 a0_2 a0_3))) else (tl_SkyCycles.j1 kj4 a1 a2 bt512.1 bt512.2 bt518.1 true l0_0 a0_1 a0_2 a0_3)) else (tl_SkyCycles.j1 kj4 a1 a2 bt512.1 bt512.2 bt518.1 true l0_0 a0_1 a0_2 a0_3)) else (tl_SkyCycles.j1 kj4 a1 a2 bt512.1 bt512.2 bt518.1 true l0_0 a0_1 a0_2 a0_3)) else (tl_SkyCycles.j1 kj4 a1 a2 bt512.1 bt512.2 bt518.1 true l0_0 a0_1 a0_2 a0_3))))))))=some r:=by rw [if_neg (show ¬ (false=true) by decide)] at H;exact H
    clear H;have H:=H1;clear H1;replace H:=Option.bind_eq_some_iff.mp H
    obtain ⟨⟨t512,t513⟩,A420,H⟩:=H
    replace H:(if t513=7 then ((sky_Month.f kj4 l0_0 a0_1 a0_2 a0_3).bind fun bt514=>(if bt514.2.2=7 then ((tl_known.f).bind fun t517=>(some t517)) else (some false))) else ((sky_Drift.f kj4 l0_0 a0_1 a0_2 a0_3 a2).bind fun bt518=>((sky_Drift.f kj4 l0_0 a0_1 a0_2 a0_3 a3).bind fun bt520=>((sky_Drift.f kj4 l0_0 a0_1 a0_2 a0_3 (wrap64 (a2+a3))).bind fun bt522=>((sky_Drift.f kj4 l0_0 a0_1 a0_2 a0_3 0).bind fun bt524=>(if bt518.2=0 then (if bt520.2=0 then (if bt522.2=0 then (if bt524.2=0 then ((tr_Limit.f bt518.1).bind fun t526=>(if t526=true then ((tr_Limit.f bt520.1).bind fun t527=>(if t527=true then ((tr_Limit.f bt522.1).bind fun t528=>(if t528=true then (if bt524.1=0 then (tl_SkyCycles.j1 kj4 a1 a2 t512 t513 bt518.1 (decide (bt522.1 > (wrap64 ((wrap64 (bt518.1+bt520.1))+1)))) l0_0 a0_1 a0_2 a0_3) else (tl_SkyCycles.j1 kj4 a1 a2 t512 t513 bt518.1 true l0_0 a0_1 a0_2 a0_3)) else (tl_SkyCycles.j1 kj4 a1 a2 t512 t513 bt518.1 true l0_0 a0_1 a0_2 a0_3))) else (tl_SkyCycles.j1 kj4 a1 a2 t512 t513 bt518.1 true l0_0 a0_1 a0_2 a0_3))) else (tl_SkyCycles.j1 kj4 a1 a2 t512 t513 bt518.1 true l0_0 a0_1 a0_2 a0_3))) else (tl_SkyCycles.j1 kj4 a1 a2 t512 t513 bt518.1 true l0_0 a0_1 a0_2 a0_3)) else (tl_SkyCycles.j1 kj4 a1 a2 t512 t513 bt518.1 true l0_0 a0_1 a0_2 a0_3)) else (tl_SkyCycles.j1 kj4 a1 a2 t512 t513 bt518.1 true l0_0 a0_1 a0_2 a0_3)) else (tl_SkyCycles.j1 kj4 a1 a2 t512 t513 bt518.1 true l0_0 a0_1 a0_2 a0_3)))))))=some r:=H
    have A42:=A0_ A420;clear A420
    by_cases c43:t513=7
    ·as_aux_lemma=>
     rw [if_pos c43] at H
     have c43b0:(t513 == 7)=true:=beq_iff_eq.mpr c43
     have c43b1:(t513 != 7)=false:=bne_eq_false_iff_eq.mpr c43
     clear c43;replace H:=Option.bind_eq_some_iff.mp H
     obtain ⟨⟨t514,t515,t516⟩,A440,H⟩:=H
     replace H:(if t516=7 then ((tl_known.f).bind fun t517=>(some t517)) else (some false))=some r:=H
     have A44:=A0_ A440;clear A440
     by_cases c45:t516=7
     ·rw [if_pos c45] at H
      have c45b0:(t516 == 7)=true:=beq_iff_eq.mpr c45
      have c45b1:(t516 != 7)=false:=bne_eq_false_iff_eq.mpr c45
      clear c45;replace H:=Option.bind_eq_some_iff.mp H;obtain ⟨t517,A460,H⟩:=H
      replace H:(some t517)=some r:=H
      have A46:=A0_ A460;clear A460;obtain rfl:=Option.some.inj H;obtain ⟨hcz47_0,hcz47_1,hcz47_2,hcz47_3,hfz47_0,hfz47_1,hfz47_2,hfz47_3⟩:=bq4_ BK505.out
      go_wp2_with (first|((with_reducible refine gate_callee (f:=34) rfl ?_);refine goesL_ (some 57) rfl rfl Tryz.func34 (by kernel_rfl) rfl #[.agg #[.slice A0_0 l0_0.length c0_0,.int .i64 a0_1,.int .i64 a0_2,.int .i64 a0_3],.int .i64 a1] rfl y1_ ?_;(with_reducible refine (sky_Cycle.calls kj4 _ _ l0_0 a0_1 a0_2 a0_3 a1 t512 t513 _ ?side1 ?side2 A42.out).mono ?_);(case side1=>repeat (first|exact (Kd.C_below HR0_0.out HB.out)|(with_reducible refine Kd.C_alloc ?_ _)|(with_reducible refine Kd.C_drewN ?_ _)|(with_reducible refine Kd.C_drew ?_)));(case side2=>exact HC0_0.out);rintro e w48 ⟨rfl,hb⟩;refine ⟨_,rfl,?_⟩;have n0_:=A0_ (blk_below (g:=gb505) (o:=.cells #[.slice A0_0 l0_0.length c0_0,.int .i64 a0_1,.int .i64 a0_2,.int .i64 a0_3] 29 (0,0)) (bd_ BK505.out) hb);have n1_:=A0_ (below_step (by repeat (first|(with_reducible first|exact HB.out|apply below_alloc|apply pw_below_drewN|apply below_drew1|refine below_set ?_ GE505.out)|exact HB.out)) hb);clear BK505;clear HB;have BK505:=n0_;have HB:=n1_;clear n0_ n1_;(try clear hb);(try clear hb2);(try clear hk);(try clear hi);obtain ⟨hcz49_0,hcz49_1,hcz49_2,hcz49_3,hfz49_0,hfz49_1,hfz49_2,hfz49_3⟩:=bq4_ BK505.out)|((with_reducible refine gate_callee (f:=32) rfl ?_);refine goesL_ (some 64) rfl rfl Tryz.func32 (by kernel_rfl) rfl #[.agg #[.slice A0_0 l0_0.length c0_0,.int .i64 a0_1,.int .i64 a0_2,.int .i64 a0_3]] rfl y1_ ?_;(with_reducible refine (sky_Month.calls kj4 _ _ l0_0 a0_1 a0_2 a0_3 t514 t515 t516 _ ?side1 ?side2 A44.out).mono ?_);(case side1=>repeat (first|exact (Kd.C_below HR0_0.out HB.out)|(with_reducible refine Kd.C_alloc ?_ _)|(with_reducible refine Kd.C_drewN ?_ _)|(with_reducible refine Kd.C_drew ?_)));(case side2=>exact HC0_0.out);rintro e w50 ⟨rfl,hb⟩;refine ⟨_,rfl,?_⟩;have n0_:=A0_ (blk_below (g:=gb505) (o:=.cells #[.slice A0_0 l0_0.length c0_0,.int .i64 a0_1,.int .i64 a0_2,.int .i64 a0_3] 29 (0,0)) (bd_ BK505.out) hb);have n1_:=A0_ (below_step (by repeat (first|(with_reducible first|exact HB.out|apply below_alloc|apply pw_below_drewN|apply below_drew1|refine below_set ?_ GE505.out)|exact HB.out)) hb);clear BK505;clear HB;have BK505:=n0_;have HB:=n1_;clear n0_ n1_;(try clear hb);(try clear hb2);(try clear hk);(try clear hi))|(go_at_call 11;(with_reducible refine (tl_known.calls  t517 _ A46.out ?side1).mono ?_);(case side1=>exact LD.below HLD.out (by repeat (first|(with_reducible first|exact HB.out|apply below_alloc|apply pw_below_drewN|apply below_drew1|refine below_set ?_ GE505.out)|exact HB.out)));rintro e w51 ⟨rfl,hb⟩;have n0_:=A0_ (blk_below (g:=gb505) (o:=.cells #[.slice A0_0 l0_0.length c0_0,.int .i64 a0_1,.int .i64 a0_2,.int .i64 a0_3] 29 (0,0)) (bd_ BK505.out) hb);have n1_:=A0_ (below_step (by repeat (first|(with_reducible first|exact HB.out|apply below_alloc|apply pw_below_drewN|apply below_drew1|refine below_set ?_ GE505.out)|exact HB.out)) hb);clear BK505;clear HB;have BK505:=n0_;have HB:=n1_;clear n0_ n1_;(try clear hb);(try clear hb2);(try clear hk);(try clear hi)))
      go_ret
      exact ⟨y2_,(by repeat (first|(with_reducible first|exact HB.out|apply below_alloc|apply pw_below_drewN|apply below_drew1|refine below_set ?_ GE505.out)|exact HB.out))⟩
     ·rw [if_neg c45] at H
      have c45b0:(t516 == 7)=false:=beq_eq_false_iff_ne.mpr c45
      have c45b1:(t516 != 7)=true:=bne_iff_ne.mpr c45
      obtain rfl:=Option.some.inj H;obtain ⟨hcz52_0,hcz52_1,hcz52_2,hcz52_3,hfz52_0,hfz52_1,hfz52_2,hfz52_3⟩:=bq4_ BK505.out
      go_wp2_with (first|((with_reducible refine gate_callee (f:=34) rfl ?_);refine goesL_ (some 57) rfl rfl Tryz.func34 (by kernel_rfl) rfl #[.agg #[.slice A0_0 l0_0.length c0_0,.int .i64 a0_1,.int .i64 a0_2,.int .i64 a0_3],.int .i64 a1] rfl y1_ ?_;(with_reducible refine (sky_Cycle.calls kj4 _ _ l0_0 a0_1 a0_2 a0_3 a1 t512 t513 _ ?side1 ?side2 A42.out).mono ?_);(case side1=>repeat (first|exact (Kd.C_below HR0_0.out HB.out)|(with_reducible refine Kd.C_alloc ?_ _)|(with_reducible refine Kd.C_drewN ?_ _)|(with_reducible refine Kd.C_drew ?_)));(case side2=>exact HC0_0.out);rintro e w53 ⟨rfl,hb⟩;refine ⟨_,rfl,?_⟩;have n0_:=A0_ (blk_below (g:=gb505) (o:=.cells #[.slice A0_0 l0_0.length c0_0,.int .i64 a0_1,.int .i64 a0_2,.int .i64 a0_3] 29 (0,0)) (bd_ BK505.out) hb);have n1_:=A0_ (below_step (by repeat (first|(with_reducible first|exact HB.out|apply below_alloc|apply pw_below_drewN|apply below_drew1|refine below_set ?_ GE505.out)|exact HB.out)) hb);clear BK505;clear HB;have BK505:=n0_;have HB:=n1_;clear n0_ n1_;(try clear hb);(try clear hb2);(try clear hk);(try clear hi);obtain ⟨hcz54_0,hcz54_1,hcz54_2,hcz54_3,hfz54_0,hfz54_1,hfz54_2,hfz54_3⟩:=bq4_ BK505.out)|((with_reducible refine gate_callee (f:=32) rfl ?_);refine goesL_ (some 64) rfl rfl Tryz.func32 (by kernel_rfl) rfl #[.agg #[.slice A0_0 l0_0.length c0_0,.int .i64 a0_1,.int .i64 a0_2,.int .i64 a0_3]] rfl y1_ ?_;(with_reducible refine (sky_Month.calls kj4 _ _ l0_0 a0_1 a0_2 a0_3 t514 t515 t516 _ ?side1 ?side2 A44.out).mono ?_);(case side1=>repeat (first|exact (Kd.C_below HR0_0.out HB.out)|(with_reducible refine Kd.C_alloc ?_ _)|(with_reducible refine Kd.C_drewN ?_ _)|(with_reducible refine Kd.C_drew ?_)));(case side2=>exact HC0_0.out);rintro e w55 ⟨rfl,hb⟩;refine ⟨_,rfl,?_⟩;have n0_:=A0_ (blk_below (g:=gb505) (o:=.cells #[.slice A0_0 l0_0.length c0_0,.int .i64 a0_1,.int .i64 a0_2,.int .i64 a0_3] 29 (0,0)) (bd_ BK505.out) hb);have n1_:=A0_ (below_step (by repeat (first|(with_reducible first|exact HB.out|apply below_alloc|apply pw_below_drewN|apply below_drew1|refine below_set ?_ GE505.out)|exact HB.out)) hb);clear BK505;clear HB;have BK505:=n0_;have HB:=n1_;clear n0_ n1_;(try clear hb);(try clear hb2);(try clear hk);(try clear hi)))
      go_ret
      exact ⟨y2_,(by repeat (first|(with_reducible first|exact HB.out|apply below_alloc|apply pw_below_drewN|apply below_drew1|refine below_set ?_ GE505.out)|exact HB.out))⟩
    ·rw [if_neg c43] at H
     have c43b0:(t513 == 7)=false:=beq_eq_false_iff_ne.mpr c43
     have c43b1:(t513 != 7)=true:=bne_iff_ne.mpr c43
     replace H:=Option.bind_eq_some_iff.mp H
     obtain ⟨⟨t518,t519⟩,A560,H⟩:=H
     replace H:((sky_Drift.f kj4 l0_0 a0_1 a0_2 a0_3 a3).bind fun bt520=>((sky_Drift.f kj4 l0_0 a0_1 a0_2 a0_3 (wrap64 (a2+a3))).bind fun bt522=>((sky_Drift.f kj4 l0_0 a0_1 a0_2 a0_3 0).bind fun bt524=>(if t519=0 then (if bt520.2=0 then (if bt522.2=0 then (if bt524.2=0 then ((tr_Limit.f t518).bind fun t526=>(if t526=true then ((tr_Limit.f bt520.1).bind fun t527=>(if t527=true then ((tr_Limit.f bt522.1).bind fun t528=>(if t528=true then (if bt524.1=0 then (tl_SkyCycles.j1 kj4 a1 a2 t512 t513 t518 (decide (bt522.1 > (wrap64 ((wrap64 (t518+bt520.1))+1)))) l0_0 a0_1 a0_2 a0_3) else (tl_SkyCycles.j1 kj4 a1 a2 t512 t513 t518 true l0_0 a0_1 a0_2 a0_3)) else (tl_SkyCycles.j1 kj4 a1 a2 t512 t513 t518 true l0_0 a0_1 a0_2 a0_3))) else (tl_SkyCycles.j1 kj4 a1 a2 t512 t513 t518 true l0_0 a0_1 a0_2 a0_3))) else (tl_SkyCycles.j1 kj4 a1 a2 t512 t513 t518 true l0_0 a0_1 a0_2 a0_3))) else (tl_SkyCycles.j1 kj4 a1 a2 t512 t513 t518 true l0_0 a0_1 a0_2 a0_3)) else (tl_SkyCycles.j1 kj4 a1 a2 t512 t513 t518 true l0_0 a0_1 a0_2 a0_3)) else (tl_SkyCycles.j1 kj4 a1 a2 t512 t513 t518 true l0_0 a0_1 a0_2 a0_3)) else (tl_SkyCycles.j1 kj4 a1 a2 t512 t513 t518 true l0_0 a0_1 a0_2 a0_3)))))=some r:=H
     have A56:=A0_ A560;clear A560;replace H:=Option.bind_eq_some_iff.mp H
     obtain ⟨⟨t520,t521⟩,A570,H⟩:=H
     replace H:((sky_Drift.f kj4 l0_0 a0_1 a0_2 a0_3 (wrap64 (a2+a3))).bind fun bt522=>((sky_Drift.f kj4 l0_0 a0_1 a0_2 a0_3 0).bind fun bt524=>(if t519=0 then (if t521=0 then (if bt522.2=0 then (if bt524.2=0 then ((tr_Limit.f t518).bind fun t526=>(if t526=true then ((tr_Limit.f t520).bind fun t527=>(if t527=true then ((tr_Limit.f bt522.1).bind fun t528=>(if t528=true then (if bt524.1=0 then (tl_SkyCycles.j1 kj4 a1 a2 t512 t513 t518 (decide (bt522.1 > (wrap64 ((wrap64 (t518+t520))+1)))) l0_0 a0_1 a0_2 a0_3) else (tl_SkyCycles.j1 kj4 a1 a2 t512 t513 t518 true l0_0 a0_1 a0_2 a0_3)) else (tl_SkyCycles.j1 kj4 a1 a2 t512 t513 t518 true l0_0 a0_1 a0_2 a0_3))) else (tl_SkyCycles.j1 kj4 a1 a2 t512 t513 t518 true l0_0 a0_1 a0_2 a0_3))) else (tl_SkyCycles.j1 kj4 a1 a2 t512 t513 t518 true l0_0 a0_1 a0_2 a0_3))) else (tl_SkyCycles.j1 kj4 a1 a2 t512 t513 t518 true l0_0 a0_1 a0_2 a0_3)) else (tl_SkyCycles.j1 kj4 a1 a2 t512 t513 t518 true l0_0 a0_1 a0_2 a0_3)) else (tl_SkyCycles.j1 kj4 a1 a2 t512 t513 t518 true l0_0 a0_1 a0_2 a0_3)) else (tl_SkyCycles.j1 kj4 a1 a2 t512 t513 t518 true l0_0 a0_1 a0_2 a0_3))))=some r:=H
     have A57:=A0_ A570;clear A570;replace H:=Option.bind_eq_some_iff.mp H
     obtain ⟨⟨t522,t523⟩,A580,H⟩:=H
     replace H:((sky_Drift.f kj4 l0_0 a0_1 a0_2 a0_3 0).bind fun bt524=>(if t519=0 then (if t521=0 then (if t523=0 then (if bt524.2=0 then ((tr_Limit.f t518).bind fun t526=>(if t526=true then ((tr_Limit.f t520).bind fun t527=>(if t527=true then ((tr_Limit.f t522).bind fun t528=>(if t528=true then (if bt524.1=0 then (tl_SkyCycles.j1 kj4 a1 a2 t512 t513 t518 (decide (t522 > (wrap64 ((wrap64 (t518+t520))+1)))) l0_0 a0_1 a0_2 a0_3) else (tl_SkyCycles.j1 kj4 a1 a2 t512 t513 t518 true l0_0 a0_1 a0_2 a0_3)) else (tl_SkyCycles.j1 kj4 a1 a2 t512 t513 t518 true l0_0 a0_1 a0_2 a0_3))) else (tl_SkyCycles.j1 kj4 a1 a2 t512 t513 t518 true l0_0 a0_1 a0_2 a0_3))) else (tl_SkyCycles.j1 kj4 a1 a2 t512 t513 t518 true l0_0 a0_1 a0_2 a0_3))) else (tl_SkyCycles.j1 kj4 a1 a2 t512 t513 t518 true l0_0 a0_1 a0_2 a0_3)) else (tl_SkyCycles.j1 kj4 a1 a2 t512 t513 t518 true l0_0 a0_1 a0_2 a0_3)) else (tl_SkyCycles.j1 kj4 a1 a2 t512 t513 t518 true l0_0 a0_1 a0_2 a0_3)) else (tl_SkyCycles.j1 kj4 a1 a2 t512 t513 t518 true l0_0 a0_1 a0_2 a0_3)))=some r:=H
     have A58:=A0_ A580;clear A580;replace H:=Option.bind_eq_some_iff.mp H
     obtain ⟨⟨t524,t525⟩,A590,H⟩:=H
     replace H:(if t519=0 then (if t521=0 then (if t523=0 then (if t525=0 then ((tr_Limit.f t518).bind fun t526=>(if t526=true then ((tr_Limit.f t520).bind fun t527=>(if t527=true then ((tr_Limit.f t522).bind fun t528=>(if t528=true then (if t524=0 then (tl_SkyCycles.j1 kj4 a1 a2 t512 t513 t518 (decide (t522 > (wrap64 ((wrap64 (t518+t520))+1)))) l0_0 a0_1 a0_2 a0_3) else (tl_SkyCycles.j1 kj4 a1 a2 t512 t513 t518 true l0_0 a0_1 a0_2 a0_3)) else (tl_SkyCycles.j1 kj4 a1 a2 t512 t513 t518 true l0_0 a0_1 a0_2 a0_3))) else (tl_SkyCycles.j1 kj4 a1 a2 t512 t513 t518 true l0_0 a0_1 a0_2 a0_3))) else (tl_SkyCycles.j1 kj4 a1 a2 t512 t513 t518 true l0_0 a0_1 a0_2 a0_3))) else (tl_SkyCycles.j1 kj4 a1 a2 t512 t513 t518 true l0_0 a0_1 a0_2 a0_3)) else (tl_SkyCycles.j1 kj4 a1 a2 t512 t513 t518 true l0_0 a0_1 a0_2 a0_3)) else (tl_SkyCycles.j1 kj4 a1 a2 t512 t513 t518 true l0_0 a0_1 a0_2 a0_3)) else (tl_SkyCycles.j1 kj4 a1 a2 t512 t513 t518 true l0_0 a0_1 a0_2 a0_3))=some r:=H
     have A59:=A0_ A590;clear A590;have HC60:=A0_ H;clear H;obtain ⟨hcz61_0,hcz61_1,hcz61_2,hcz61_3,hfz61_0,hfz61_1,hfz61_2,hfz61_3⟩:=bq4_ BK505.out
     go_upto_region 11 with (first|((with_reducible refine gate_callee (f:=34) rfl ?_);refine goesL_ (some 57) rfl rfl Tryz.func34 (by kernel_rfl) rfl #[.agg #[.slice A0_0 l0_0.length c0_0,.int .i64 a0_1,.int .i64 a0_2,.int .i64 a0_3],.int .i64 a1] rfl y1_ ?_;(with_reducible refine (sky_Cycle.calls kj4 _ _ l0_0 a0_1 a0_2 a0_3 a1 t512 t513 _ ?side1 ?side2 A42.out).mono ?_);(case side1=>repeat (first|exact (Kd.C_below HR0_0.out HB.out)|(with_reducible refine Kd.C_alloc ?_ _)|(with_reducible refine Kd.C_drewN ?_ _)|(with_reducible refine Kd.C_drew ?_)));(case side2=>exact HC0_0.out);rintro e w62 ⟨rfl,hb⟩;refine ⟨_,rfl,?_⟩;have n0_:=A0_ (blk_below (g:=gb505) (o:=.cells #[.slice A0_0 l0_0.length c0_0,.int .i64 a0_1,.int .i64 a0_2,.int .i64 a0_3] 29 (0,0)) (bd_ BK505.out) hb);have n1_:=A0_ (below_step (by repeat (first|(with_reducible first|exact HB.out|apply below_alloc|apply pw_below_drewN|apply below_drew1|refine below_set ?_ GE505.out)|exact HB.out)) hb);clear BK505;clear HB;have BK505:=n0_;have HB:=n1_;clear n0_ n1_;(try clear hb);(try clear hb2);(try clear hk);(try clear hi);obtain ⟨hcz63_0,hcz63_1,hcz63_2,hcz63_3,hfz63_0,hfz63_1,hfz63_2,hfz63_3⟩:=bq4_ BK505.out)|((with_reducible refine gate_callee (f:=33) rfl ?_);refine goesL_ (some 76) rfl rfl Tryz.func33 (by kernel_rfl) rfl #[.agg #[.slice A0_0 l0_0.length c0_0,.int .i64 a0_1,.int .i64 a0_2,.int .i64 a0_3],.int .i64 a2] rfl y1_ ?_;(with_reducible refine (sky_Drift.calls kj4 _ _ l0_0 a0_1 a0_2 a0_3 a2 t518 t519 _ ?side1 ?side2 A56.out).mono ?_);(case side1=>repeat (first|exact (Kd.C_below HR0_0.out HB.out)|(with_reducible refine Kd.C_alloc ?_ _)|(with_reducible refine Kd.C_drewN ?_ _)|(with_reducible refine Kd.C_drew ?_)));(case side2=>exact HC0_0.out);rintro e w64 ⟨rfl,hb⟩;refine ⟨_,rfl,?_⟩;have n0_:=A0_ (blk_below (g:=gb505) (o:=.cells #[.slice A0_0 l0_0.length c0_0,.int .i64 a0_1,.int .i64 a0_2,.int .i64 a0_3] 29 (0,0)) (bd_ BK505.out) hb);have n1_:=A0_ (below_step (by repeat (first|(with_reducible first|exact HB.out|apply below_alloc|apply pw_below_drewN|apply below_drew1|refine below_set ?_ GE505.out)|exact HB.out)) hb);clear BK505;clear HB;have BK505:=n0_;have HB:=n1_;clear n0_ n1_;(try clear hb);(try clear hb2);(try clear hk);(try clear hi);obtain ⟨hcz65_0,hcz65_1,hcz65_2,hcz65_3,hfz65_0,hfz65_1,hfz65_2,hfz65_3⟩:=bq4_ BK505.out)|((with_reducible refine gate_callee (f:=33) rfl ?_);refine goesL_ (some 82) rfl rfl Tryz.func33 (by kernel_rfl) rfl #[.agg #[.slice A0_0 l0_0.length c0_0,.int .i64 a0_1,.int .i64 a0_2,.int .i64 a0_3],.int .i64 a3] rfl y1_ ?_;(with_reducible refine (sky_Drift.calls kj4 _ _ l0_0 a0_1 a0_2 a0_3 a3 t520 t521 _ ?side1 ?side2 A57.out).mono ?_);(case side1=>repeat (first|exact (Kd.C_below HR0_0.out HB.out)|(with_reducible refine Kd.C_alloc ?_ _)|(with_reducible refine Kd.C_drewN ?_ _)|(with_reducible refine Kd.C_drew ?_)));(case side2=>exact HC0_0.out);rintro e w66 ⟨rfl,hb⟩;refine ⟨_,rfl,?_⟩;have n0_:=A0_ (blk_below (g:=gb505) (o:=.cells #[.slice A0_0 l0_0.length c0_0,.int .i64 a0_1,.int .i64 a0_2,.int .i64 a0_3] 29 (0,0)) (bd_ BK505.out) hb);have n1_:=A0_ (below_step (by repeat (first|(with_reducible first|exact HB.out|apply below_alloc|apply pw_below_drewN|apply below_drew1|refine below_set ?_ GE505.out)|exact HB.out)) hb);clear BK505;clear HB;have BK505:=n0_;have HB:=n1_;clear n0_ n1_;(try clear hb);(try clear hb2);(try clear hk);(try clear hi);obtain ⟨hcz67_0,hcz67_1,hcz67_2,hcz67_3,hfz67_0,hfz67_1,hfz67_2,hfz67_3⟩:=bq4_ BK505.out)|((with_reducible refine gate_callee (f:=33) rfl ?_);refine goesL_ (some 90) rfl rfl Tryz.func33 (by kernel_rfl) rfl #[.agg #[.slice A0_0 l0_0.length c0_0,.int .i64 a0_1,.int .i64 a0_2,.int .i64 a0_3],.int .i64 (wrap64 (a2+a3))] rfl y1_ ?_;(with_reducible refine (sky_Drift.calls kj4 _ _ l0_0 a0_1 a0_2 a0_3 (wrap64 (a2+a3)) t522 t523 _ ?side1 ?side2 A58.out).mono ?_);(case side1=>repeat (first|exact (Kd.C_below HR0_0.out HB.out)|(with_reducible refine Kd.C_alloc ?_ _)|(with_reducible refine Kd.C_drewN ?_ _)|(with_reducible refine Kd.C_drew ?_)));(case side2=>exact HC0_0.out);rintro e w68 ⟨rfl,hb⟩;refine ⟨_,rfl,?_⟩;have n0_:=A0_ (blk_below (g:=gb505) (o:=.cells #[.slice A0_0 l0_0.length c0_0,.int .i64 a0_1,.int .i64 a0_2,.int .i64 a0_3] 29 (0,0)) (bd_ BK505.out) hb);have n1_:=A0_ (below_step (by repeat (first|(with_reducible first|exact HB.out|apply below_alloc|apply pw_below_drewN|apply below_drew1|refine below_set ?_ GE505.out)|exact HB.out)) hb);clear BK505;clear HB;have BK505:=n0_;have HB:=n1_;clear n0_ n1_;(try clear hb);(try clear hb2);(try clear hk);(try clear hi);obtain ⟨hcz69_0,hcz69_1,hcz69_2,hcz69_3,hfz69_0,hfz69_1,hfz69_2,hfz69_3⟩:=bq4_ BK505.out)|((with_reducible refine gate_callee (f:=33) rfl ?_);refine goesL_ (some 95) rfl rfl Tryz.func33 (by kernel_rfl) rfl #[.agg #[.slice A0_0 l0_0.length c0_0,.int .i64 a0_1,.int .i64 a0_2,.int .i64 a0_3],.int .i64 0] rfl y1_ ?_;(with_reducible refine (sky_Drift.calls kj4 _ _ l0_0 a0_1 a0_2 a0_3 0 t524 t525 _ ?side1 ?side2 A59.out).mono ?_);(case side1=>repeat (first|exact (Kd.C_below HR0_0.out HB.out)|(with_reducible refine Kd.C_alloc ?_ _)|(with_reducible refine Kd.C_drewN ?_ _)|(with_reducible refine Kd.C_drew ?_)));(case side2=>exact HC0_0.out);rintro e w70 ⟨rfl,hb⟩;refine ⟨_,rfl,?_⟩;have n0_:=A0_ (blk_below (g:=gb505) (o:=.cells #[.slice A0_0 l0_0.length c0_0,.int .i64 a0_1,.int .i64 a0_2,.int .i64 a0_3] 29 (0,0)) (bd_ BK505.out) hb);have n1_:=A0_ (below_step (by repeat (first|(with_reducible first|exact HB.out|apply below_alloc|apply pw_below_drewN|apply below_drew1|refine below_set ?_ GE505.out)|exact HB.out)) hb);clear BK505;clear HB;have BK505:=n0_;have HB:=n1_;clear n0_ n1_;(try clear hb);(try clear hb2);(try clear hk);(try clear hi)))
     (try simp only [Act.put,List.setIfInBounds_toArray,List.set_cons_zero,List.set_cons_succ])
     go_cut [138] (fun v138 wc=>∃ (kq:Nat) (x138_59:Bool),v138=.bool x138_59∧Aside0 (tl_SkyCycles.j1 kq a1 a2 t512 t513 t518 x138_59 l0_0 a0_1 a0_2 a0_3=some r)∧Aside0 (kq≤kj4)∧Aside0 (wc.heap[gb505]?=some (.cells #[(.slice A0_0 l0_0.length c0_0),.int .i64 a0_1,.int .i64 a0_2,.int .i64 a0_3] 29 (0,0)))∧Aside0 (Below w.heap.size w wc))
     case first=>
      have H:=HC60.out
      clear HC60
      by_cases c71:t519=0
      ·as_aux_lemma=>
       rw [if_pos c71] at H
       have c71b0:(t519 == 0)=true:=beq_iff_eq.mpr c71
       have c71b1:(t519 != 0)=false:=bne_eq_false_iff_eq.mpr c71
       clear c71
       (first|rw [c71b0]|(simp only [i64_w,i32_w];rw [c71b0])|skip)
       by_cases c72:t521=0
       ·rw [if_pos c72] at H
        have c72b0:(t521 == 0)=true:=beq_iff_eq.mpr c72
        have c72b1:(t521 != 0)=false:=bne_eq_false_iff_eq.mpr c72
        clear c72
        by_cases c73:t523=0
        ·rw [if_pos c73] at H
         have c73b0:(t523 == 0)=true:=beq_iff_eq.mpr c73
         have c73b1:(t523 != 0)=false:=bne_eq_false_iff_eq.mpr c73
         clear c73
         by_cases c74:t525=0
         ·rw [if_pos c74] at H
          have c74b0:(t525 == 0)=true:=beq_iff_eq.mpr c74
          have c74b1:(t525 != 0)=false:=bne_eq_false_iff_eq.mpr c74
          clear c74;replace H:=Option.bind_eq_some_iff.mp H;obtain ⟨t526,A750,H⟩:=H
          replace H:(if t526=true then ((tr_Limit.f t520).bind fun t527=>(if t527=true then ((tr_Limit.f t522).bind fun t528=>(if t528=true then (if t524=0 then (tl_SkyCycles.j1 kj4 a1 a2 t512 t513 t518 (decide (t522 > (wrap64 ((wrap64 (t518+t520))+1)))) l0_0 a0_1 a0_2 a0_3) else (tl_SkyCycles.j1 kj4 a1 a2 t512 t513 t518 true l0_0 a0_1 a0_2 a0_3)) else (tl_SkyCycles.j1 kj4 a1 a2 t512 t513 t518 true l0_0 a0_1 a0_2 a0_3))) else (tl_SkyCycles.j1 kj4 a1 a2 t512 t513 t518 true l0_0 a0_1 a0_2 a0_3))) else (tl_SkyCycles.j1 kj4 a1 a2 t512 t513 t518 true l0_0 a0_1 a0_2 a0_3))=some r:=H
          have A75:=A0_ A750;clear A750
          by_cases c76:t526=true
          ·subst c76
           have H1:((tr_Limit.f t520).bind fun t527=>(if t527=true then ((tr_Limit.f t522).bind fun t528=>(if t528=true then (if t524=0 then (tl_SkyCycles.j1 kj4 a1 a2 t512 t513 t518 (decide (t522 > (wrap64 ((wrap64 (t518+t520))+1)))) l0_0 a0_1 a0_2 a0_3) else (tl_SkyCycles.j1 kj4 a1 a2 t512 t513 t518 true l0_0 a0_1 a0_2 a0_3)) else (tl_SkyCycles.j1 kj4 a1 a2 t512 t513 t518 true l0_0 a0_1 a0_2 a0_3))) else (tl_SkyCycles.j1 kj4 a1 a2 t512 t513 t518 true l0_0 a0_1 a0_2 a0_3)))=some r:=by rw [if_pos rfl] at H;exact H
           clear H;have H:=H1;clear H1;replace H:=Option.bind_eq_some_iff.mp H;obtain ⟨t527,A770,H⟩:=H
           replace H:(if t527=true then ((tr_Limit.f t522).bind fun t528=>(if t528=true then (if t524=0 then (tl_SkyCycles.j1 kj4 a1 a2 t512 t513 t518 (decide (t522 > (wrap64 ((wrap64 (t518+t520))+1)))) l0_0 a0_1 a0_2 a0_3) else (tl_SkyCycles.j1 kj4 a1 a2 t512 t513 t518 true l0_0 a0_1 a0_2 a0_3)) else (tl_SkyCycles.j1 kj4 a1 a2 t512 t513 t518 true l0_0 a0_1 a0_2 a0_3))) else (tl_SkyCycles.j1 kj4 a1 a2 t512 t513 t518 true l0_0 a0_1 a0_2 a0_3))=some r:=H
           have A77:=A0_ A770;clear A770
           by_cases c78:t527=true
           ·subst c78
            have H1:((tr_Limit.f t522).bind fun t528=>(if t528=true then (if t524=0 then (tl_SkyCycles.j1 kj4 a1 a2 t512 t513 t518 (decide (t522 > (wrap64 ((wrap64 (t518+t520))+1)))) l0_0 a0_1 a0_2 a0_3) else (tl_SkyCycles.j1 kj4 a1 a2 t512 t513 t518 true l0_0 a0_1 a0_2 a0_3)) else (tl_SkyCycles.j1 kj4 a1 a2 t512 t513 t518 true l0_0 a0_1 a0_2 a0_3)))=some r:=by rw [if_pos rfl] at H;exact H
            clear H;have H:=H1;clear H1;replace H:=Option.bind_eq_some_iff.mp H;obtain ⟨t528,A790,H⟩:=H
            replace H:(if t528=true then (if t524=0 then (tl_SkyCycles.j1 kj4 a1 a2 t512 t513 t518 (decide (t522 > (wrap64 ((wrap64 (t518+t520))+1)))) l0_0 a0_1 a0_2 a0_3) else (tl_SkyCycles.j1 kj4 a1 a2 t512 t513 t518 true l0_0 a0_1 a0_2 a0_3)) else (tl_SkyCycles.j1 kj4 a1 a2 t512 t513 t518 true l0_0 a0_1 a0_2 a0_3))=some r:=H
            have A79:=A0_ A790;clear A790
            by_cases c80:t528=true
            ·subst c80
             have H1:(if t524=0 then (tl_SkyCycles.j1 kj4 a1 a2 t512 t513 t518 (decide (t522 > (wrap64 ((wrap64 (t518+t520))+1)))) l0_0 a0_1 a0_2 a0_3) else (tl_SkyCycles.j1 kj4 a1 a2 t512 t513 t518 true l0_0 a0_1 a0_2 a0_3))=some r:=by rw [if_pos rfl] at H;exact H
             clear H;have H:=H1;clear H1
             by_cases c81:t524=0
             ·rw [if_pos c81] at H
              have c81b0:(t524 == 0)=true:=beq_iff_eq.mpr c81
              have c81b1:(t524 != 0)=false:=bne_eq_false_iff_eq.mpr c81
              clear c81
              have H':=A0_ H
              clear H
              go_wp2_with (first|(go_at_call 37;(with_reducible refine (tr_Limit.calls t518 true _ A75.out).mono ?_);rintro e w' ⟨rfl,⟨nd,rfl⟩⟩)|(go_at_call 37;(with_reducible refine (tr_Limit.calls t520 true _ A77.out).mono ?_);rintro e w' ⟨rfl,⟨nd,rfl⟩⟩)|(go_at_call 37;(with_reducible refine (tr_Limit.calls t522 true _ A79.out).mono ?_);rintro e w' ⟨rfl,⟨nd,rfl⟩⟩))
              go_meet
              case rel=>exact ⟨_,(decide (t522 > (wrap64 ((wrap64 (t518+t520))+1)))),y4_,H',⟨by have:=HJ4.out;first|omega|exact Nat.le_refl _⟩,⟨by (with_reducible repeat (first|refine blk_drewN ?_ _|refine blk_drew ?_|refine blk_alloc ?_ _));exact BK505.out⟩,⟨(by repeat (first|(with_reducible first|exact HB.out|apply below_alloc|apply pw_below_drewN|apply below_drew1|refine below_set ?_ GE505.out)|exact HB.out))⟩⟩
             ·rw [if_neg c81] at H
              have c81b0:(t524 == 0)=false:=beq_eq_false_iff_ne.mpr c81
              have c81b1:(t524 != 0)=true:=bne_iff_ne.mpr c81
              have H':=A0_ H
              clear H
              go_wp2_with (first|(go_at_call 37;(with_reducible refine (tr_Limit.calls t518 true _ A75.out).mono ?_);rintro e w' ⟨rfl,⟨nd,rfl⟩⟩)|(go_at_call 37;(with_reducible refine (tr_Limit.calls t520 true _ A77.out).mono ?_);rintro e w' ⟨rfl,⟨nd,rfl⟩⟩)|(go_at_call 37;(with_reducible refine (tr_Limit.calls t522 true _ A79.out).mono ?_);rintro e w' ⟨rfl,⟨nd,rfl⟩⟩))
              go_meet
              case rel=>exact ⟨_,(true),y4_,H',⟨by have:=HJ4.out;first|omega|exact Nat.le_refl _⟩,⟨by (with_reducible repeat (first|refine blk_drewN ?_ _|refine blk_drew ?_|refine blk_alloc ?_ _));exact BK505.out⟩,⟨(by repeat (first|(with_reducible first|exact HB.out|apply below_alloc|apply pw_below_drewN|apply below_drew1|refine below_set ?_ GE505.out)|exact HB.out))⟩⟩
            ·replace c80:=Bool.eq_false_iff.mpr c80;subst c80
             have H1:(tl_SkyCycles.j1 kj4 a1 a2 t512 t513 t518 true l0_0 a0_1 a0_2 a0_3)=some r:=by rw [if_neg (show ¬ (false=true) by decide)] at H;exact H
             clear H;have H:=H1;clear H1
             have H':=A0_ H
             clear H
             go_wp2_with (first|(go_at_call 37;(with_reducible refine (tr_Limit.calls t518 true _ A75.out).mono ?_);rintro e w' ⟨rfl,⟨nd,rfl⟩⟩)|(go_at_call 37;(with_reducible refine (tr_Limit.calls t520 true _ A77.out).mono ?_);rintro e w' ⟨rfl,⟨nd,rfl⟩⟩)|(go_at_call 37;(with_reducible refine (tr_Limit.calls t522 false _ A79.out).mono ?_);rintro e w' ⟨rfl,⟨nd,rfl⟩⟩))
             go_meet
             case rel=>exact ⟨_,(true),y4_,H',⟨by have:=HJ4.out;first|omega|exact Nat.le_refl _⟩,⟨by (with_reducible repeat (first|refine blk_drewN ?_ _|refine blk_drew ?_|refine blk_alloc ?_ _));exact BK505.out⟩,⟨(by repeat (first|(with_reducible first|exact HB.out|apply below_alloc|apply pw_below_drewN|apply below_drew1|refine below_set ?_ GE505.out)|exact HB.out))⟩⟩
           ·replace c78:=Bool.eq_false_iff.mpr c78;subst c78
            have H1:(tl_SkyCycles.j1 kj4 a1 a2 t512 t513 t518 true l0_0 a0_1 a0_2 a0_3)=some r:=by rw [if_neg (show ¬ (false=true) by decide)] at H;exact H
            clear H;have H:=H1;clear H1
            have H':=A0_ H
            clear H
            go_wp2_with (first|(go_at_call 37;(with_reducible refine (tr_Limit.calls t518 true _ A75.out).mono ?_);rintro e w' ⟨rfl,⟨nd,rfl⟩⟩)|(go_at_call 37;(with_reducible refine (tr_Limit.calls t520 false _ A77.out).mono ?_);rintro e w' ⟨rfl,⟨nd,rfl⟩⟩))
            go_meet
            case rel=>exact ⟨_,(true),y4_,H',⟨by have:=HJ4.out;first|omega|exact Nat.le_refl _⟩,⟨by (with_reducible repeat (first|refine blk_drewN ?_ _|refine blk_drew ?_|refine blk_alloc ?_ _));exact BK505.out⟩,⟨(by repeat (first|(with_reducible first|exact HB.out|apply below_alloc|apply pw_below_drewN|apply below_drew1|refine below_set ?_ GE505.out)|exact HB.out))⟩⟩
          ·replace c76:=Bool.eq_false_iff.mpr c76;subst c76
           have H1:(tl_SkyCycles.j1 kj4 a1 a2 t512 t513 t518 true l0_0 a0_1 a0_2 a0_3)=some r:=by rw [if_neg (show ¬ (false=true) by decide)] at H;exact H
           clear H;have H:=H1;clear H1
           have H':=A0_ H
           clear H
           go_wp2_with (first|(go_at_call 37;(with_reducible refine (tr_Limit.calls t518 false _ A75.out).mono ?_);rintro e w' ⟨rfl,⟨nd,rfl⟩⟩))
           go_meet
           case rel=>exact ⟨_,(true),y4_,H',⟨by have:=HJ4.out;first|omega|exact Nat.le_refl _⟩,⟨by (with_reducible repeat (first|refine blk_drewN ?_ _|refine blk_drew ?_|refine blk_alloc ?_ _));exact BK505.out⟩,⟨(by repeat (first|(with_reducible first|exact HB.out|apply below_alloc|apply pw_below_drewN|apply below_drew1|refine below_set ?_ GE505.out)|exact HB.out))⟩⟩
         ·rw [if_neg c74] at H
          have c74b0:(t525 == 0)=false:=beq_eq_false_iff_ne.mpr c74
          have c74b1:(t525 != 0)=true:=bne_iff_ne.mpr c74
          have H':=A0_ H
          clear H;go_wp2
          go_meet
          case rel=>exact ⟨_,(true),y4_,H',⟨by have:=HJ4.out;first|omega|exact Nat.le_refl _⟩,⟨by (with_reducible repeat (first|refine blk_drewN ?_ _|refine blk_drew ?_|refine blk_alloc ?_ _));exact BK505.out⟩,⟨(by repeat (first|(with_reducible first|exact HB.out|apply below_alloc|apply pw_below_drewN|apply below_drew1|refine below_set ?_ GE505.out)|exact HB.out))⟩⟩
        ·rw [if_neg c73] at H
         have c73b0:(t523 == 0)=false:=beq_eq_false_iff_ne.mpr c73
         have c73b1:(t523 != 0)=true:=bne_iff_ne.mpr c73
         have H':=A0_ H
         clear H;go_wp2
         go_meet
         case rel=>exact ⟨_,(true),y4_,H',⟨by have:=HJ4.out;first|omega|exact Nat.le_refl _⟩,⟨by (with_reducible repeat (first|refine blk_drewN ?_ _|refine blk_drew ?_|refine blk_alloc ?_ _));exact BK505.out⟩,⟨(by repeat (first|(with_reducible first|exact HB.out|apply below_alloc|apply pw_below_drewN|apply below_drew1|refine below_set ?_ GE505.out)|exact HB.out))⟩⟩
       ·rw [if_neg c72] at H
        have c72b0:(t521 == 0)=false:=beq_eq_false_iff_ne.mpr c72
        have c72b1:(t521 != 0)=true:=bne_iff_ne.mpr c72
        have H':=A0_ H
        clear H;go_wp2
        go_meet
        case rel=>exact ⟨_,(true),y4_,H',⟨by have:=HJ4.out;first|omega|exact Nat.le_refl _⟩,⟨by (with_reducible repeat (first|refine blk_drewN ?_ _|refine blk_drew ?_|refine blk_alloc ?_ _));exact BK505.out⟩,⟨(by repeat (first|(with_reducible first|exact HB.out|apply below_alloc|apply pw_below_drewN|apply below_drew1|refine below_set ?_ GE505.out)|exact HB.out))⟩⟩
      ·rw [if_neg c71] at H
       have c71b0:(t519 == 0)=false:=beq_eq_false_iff_ne.mpr c71
       have c71b1:(t519 != 0)=true:=bne_iff_ne.mpr c71
       (first|rw [c71b0]|(simp only [i64_w,i32_w];rw [c71b0])|skip)
       have H':=A0_ H
       clear H;go_wp2
       go_meet
       case rel=>exact ⟨_,(true),y4_,H',⟨by have:=HJ4.out;first|omega|exact Nat.le_refl _⟩,⟨by (with_reducible repeat (first|refine blk_drewN ?_ _|refine blk_drew ?_|refine blk_alloc ?_ _));exact BK505.out⟩,⟨(by repeat (first|(with_reducible first|exact HB.out|apply below_alloc|apply pw_below_drewN|apply below_drew1|refine below_set ?_ GE505.out)|exact HB.out))⟩⟩
     case rest=>
      clear HC60;(try clear c1);(try clear p2);(try clear c3);(try clear c4);(try clear p6);(try clear c7);(try clear c8);(try clear c10);(try clear c11);(try clear c12);(try clear c14);(try clear c16);(try clear c17);(try clear c32);(try clear c33);(try clear c34);(try clear c39);(try clear c43);(try clear c43b0);(try clear c43b1);(try clear c45);(try clear c45b0);(try clear c45b1);(try clear p64);(try clear c71);(try clear c71b0);(try clear c71b1);(try clear c72);(try clear c72b0);(try clear c72b1);(try clear c73);(try clear c73b0);(try clear c73b1);(try clear c74);(try clear c74b0);(try clear c74b1);(try clear c76);(try clear c78);(try clear c80);(try clear c81);(try clear c81b0);(try clear c81b1);(try clear hcz17_0);(try clear hcz17_1);(try clear hcz17_2);(try clear hcz17_3);(try clear hcz19_0);(try clear hcz19_1);(try clear hcz19_2);(try clear hcz19_3);(try clear hcz21_0);(try clear hcz21_1);(try clear hcz21_2);(try clear hcz21_3);(try clear hcz23_0);(try clear hcz23_1);(try clear hcz23_2);(try clear hcz23_3);(try clear hcz25_0);(try clear hcz25_1);(try clear hcz25_2);(try clear hcz25_3);(try clear hcz27_0);(try clear hcz27_1);(try clear hcz27_2);(try clear hcz27_3);(try clear hcz29_0);(try clear hcz29_1);(try clear hcz29_2);(try clear hcz29_3);(try clear hcz31_0);(try clear hcz31_1);(try clear hcz31_2);(try clear hcz31_3);(try clear hcz33_0);(try clear hcz33_1);(try clear hcz33_2);(try clear hcz33_3);(try clear hcz35_0);(try clear hcz35_1);(try clear hcz35_2);(try clear hcz35_3);(try clear hcz37_0);(try clear hcz37_1);(try clear hcz37_2);(try clear hcz37_3);(try clear hcz47_0);(try clear hcz47_1);(try clear hcz47_2);(try clear hcz47_3);(try clear hcz49_0);(try clear hcz49_1);(try clear hcz49_2);(try clear hcz49_3);(try clear hcz52_0);(try clear hcz52_1);(try clear hcz52_2);(try clear hcz52_3);(try clear hcz54_0);(try clear hcz54_1);(try clear hcz54_2);(try clear hcz54_3);(try clear hcz61_0);(try clear hcz61_1);(try clear hcz61_2);(try clear hcz61_3);(try clear hcz63_0);(try clear hcz63_1);(try clear hcz63_2);(try clear hcz63_3);(try clear hcz65_0);(try clear hcz65_1);(try clear hcz65_2);(try clear hcz65_3);(try clear hcz67_0);(try clear hcz67_1);(try clear hcz67_2);(try clear hcz67_3);(try clear hcz69_0);(try clear hcz69_1);(try clear hcz69_2);(try clear hcz69_3);(try clear hfz17_0);(try clear hfz17_1);(try clear hfz17_2);(try clear hfz17_3);(try clear hfz19_0);(try clear hfz19_1);(try clear hfz19_2);(try clear hfz19_3);(try clear hfz21_0);(try clear hfz21_1);(try clear hfz21_2);(try clear hfz21_3);(try clear hfz23_0);(try clear hfz23_1);(try clear hfz23_2);(try clear hfz23_3);(try clear hfz25_0);(try clear hfz25_1);(try clear hfz25_2);(try clear hfz25_3);(try clear hfz27_0);(try clear hfz27_1);(try clear hfz27_2);(try clear hfz27_3);(try clear hfz29_0);(try clear hfz29_1);(try clear hfz29_2);(try clear hfz29_3)
      (try clear hfz31_0);(try clear hfz31_1);(try clear hfz31_2);(try clear hfz31_3);(try clear hfz33_0);(try clear hfz33_1);(try clear hfz33_2);(try clear hfz33_3);(try clear hfz35_0);(try clear hfz35_1);(try clear hfz35_2);(try clear hfz35_3);(try clear hfz37_0);(try clear hfz37_1);(try clear hfz37_2);(try clear hfz37_3);(try clear hfz47_0);(try clear hfz47_1);(try clear hfz47_2);(try clear hfz47_3);(try clear hfz49_0);(try clear hfz49_1);(try clear hfz49_2);(try clear hfz49_3);(try clear hfz52_0);(try clear hfz52_1);(try clear hfz52_2);(try clear hfz52_3);(try clear hfz54_0);(try clear hfz54_1);(try clear hfz54_2);(try clear hfz54_3);(try clear hfz61_0);(try clear hfz61_1);(try clear hfz61_2);(try clear hfz61_3);(try clear hfz63_0);(try clear hfz63_1);(try clear hfz63_2);(try clear hfz63_3);(try clear hfz65_0);(try clear hfz65_1);(try clear hfz65_2);(try clear hfz65_3);(try clear hfz67_0);(try clear hfz67_1);(try clear hfz67_2);(try clear hfz67_3);(try clear hfz69_0);(try clear hfz69_1);(try clear hfz69_2);(try clear hfz69_3);(try clear p2);(try clear p6)
      obtain ⟨kq,x138_59,rfl,HA,HJ59,BK505,HB⟩:=hcut
      cases kq with
      |zero=>exact absurd HA.out (by simp [tl_SkyCycles.j1])
      |succ kj59=>
       have H:=HA.out
       clear HA
       simp only [tl_SkyCycles.j1] at H
       by_cases c82:x138_59=true
       ·subst c82
        have H1:(some false)=some r:=by rw [if_pos rfl] at H;exact H
        clear H;have H:=H1;clear H1;obtain rfl:=Option.some.inj H;go_wp2;go_ret
        exact ⟨y2_,(by repeat (first|(with_reducible first|exact HB.out|apply below_alloc|apply pw_below_drewN|apply below_drew1|refine below_set ?_ GE505.out)|exact HB.out))⟩
       ·replace c82:=Bool.eq_false_iff.mpr c82;subst c82
        have H1:(if t513=0 then (if t512<1 then (tl_SkyCycles.j2 kj59 a1 a2 t512 t518 true l0_0 a0_1 a0_2 a0_3) else (tl_SkyCycles.j2 kj59 a1 a2 t512 t518 (decide (t512 > 400)) l0_0 a0_1 a0_2 a0_3)) else (if t513=5 then (if a2=0 then ((tl_known.f).bind fun t529=>(some t529)) else (if t518 > a1 then ((tl_known.f).bind fun t530=>(some t530)) else (some false))) else (some false)))=some r:=by rw [if_neg (show ¬ (false=true) by decide)] at H;exact H
        clear H;have H:=H1;clear H1
        by_cases c83:t513=0
        ·rw [if_pos c83] at H
         have c83b0:(t513 == 0)=true:=beq_iff_eq.mpr c83
         have c83b1:(t513 != 0)=false:=bne_eq_false_iff_eq.mpr c83
         clear c83;have HC84:=A0_ H;clear H
         go_upto_region 15 with (fail)
         go_cut [160] (fun v160 wc=>∃ (kq:Nat) (x160_83:Bool),v160=.bool x160_83∧Aside0 (tl_SkyCycles.j2 kq a1 a2 t512 t518 x160_83 l0_0 a0_1 a0_2 a0_3=some r)∧Aside0 (kq≤kj59)∧Aside0 (wc.heap[gb505]?=some (.cells #[(.slice A0_0 l0_0.length c0_0),.int .i64 a0_1,.int .i64 a0_2,.int .i64 a0_3] 29 (0,0)))∧Aside0 (Below w.heap.size w wc))
         case first=>
          have H:=HC84.out
          clear HC84
          by_cases c85:t512<1
          ·rw [if_pos c85] at H;have c85b0:decide (t512<1)=true:=decide_eq_true c85;clear c85
           (first|rw [c85b0]|(simp only [i64_w,i32_w];rw [c85b0])|skip)
           have H':=A0_ H
           clear H;go_wp2
           go_meet
           case rel=>exact ⟨_,(true),y4_,H',⟨by have:=HJ4.out;have:=HJ59.out;first|omega|exact Nat.le_refl _⟩,⟨by (with_reducible repeat (first|refine blk_drewN ?_ _|refine blk_drew ?_|refine blk_alloc ?_ _));exact BK505.out⟩,⟨(by repeat (first|(with_reducible first|exact HB.out|apply below_alloc|apply pw_below_drewN|apply below_drew1|refine below_set ?_ GE505.out)|exact HB.out))⟩⟩
          ·rw [if_neg c85] at H;have c85b0:decide (t512<1)=false:=decide_eq_false c85;clear c85
           (first|rw [c85b0]|(simp only [i64_w,i32_w];rw [c85b0])|skip)
           have H':=A0_ H
           clear H;go_wp2
           go_meet
           case rel=>exact ⟨_,(decide (t512 > 400)),y4_,H',⟨by have:=HJ4.out;have:=HJ59.out;first|omega|exact Nat.le_refl _⟩,⟨by (with_reducible repeat (first|refine blk_drewN ?_ _|refine blk_drew ?_|refine blk_alloc ?_ _));exact BK505.out⟩,⟨(by repeat (first|(with_reducible first|exact HB.out|apply below_alloc|apply pw_below_drewN|apply below_drew1|refine below_set ?_ GE505.out)|exact HB.out))⟩⟩
         case rest=>
          clear HC84;(try clear c1);(try clear p2);(try clear c3);(try clear c4);(try clear p6);(try clear c7);(try clear c8);(try clear c10);(try clear c11);(try clear c12);(try clear c14);(try clear c16);(try clear c17);(try clear c32);(try clear c33);(try clear c34);(try clear c39);(try clear c43);(try clear c43b0);(try clear c43b1);(try clear c45);(try clear c45b0);(try clear c45b1);(try clear p64);(try clear c71);(try clear c71b0);(try clear c71b1);(try clear c72);(try clear c72b0);(try clear c72b1);(try clear c73);(try clear c73b0);(try clear c73b1);(try clear c74);(try clear c74b0);(try clear c74b1);(try clear c76);(try clear c78);(try clear c80);(try clear c81);(try clear c81b0);(try clear c81b1);(try clear c82);(try clear c83);(try clear c83b0);(try clear c83b1);(try clear c85);(try clear c85b0);(try clear hcz17_0);(try clear hcz17_1);(try clear hcz17_2);(try clear hcz17_3);(try clear hcz19_0);(try clear hcz19_1);(try clear hcz19_2);(try clear hcz19_3);(try clear hcz21_0);(try clear hcz21_1);(try clear hcz21_2);(try clear hcz21_3);(try clear hcz23_0);(try clear hcz23_1);(try clear hcz23_2);(try clear hcz23_3);(try clear hcz25_0);(try clear hcz25_1);(try clear hcz25_2);(try clear hcz25_3);(try clear hcz27_0);(try clear hcz27_1);(try clear hcz27_2);(try clear hcz27_3);(try clear hcz29_0);(try clear hcz29_1);(try clear hcz29_2);(try clear hcz29_3);(try clear hcz31_0);(try clear hcz31_1);(try clear hcz31_2);(try clear hcz31_3);(try clear hcz33_0);(try clear hcz33_1);(try clear hcz33_2);(try clear hcz33_3);(try clear hcz35_0);(try clear hcz35_1);(try clear hcz35_2);(try clear hcz35_3);(try clear hcz37_0);(try clear hcz37_1);(try clear hcz37_2);(try clear hcz37_3);(try clear hcz47_0);(try clear hcz47_1);(try clear hcz47_2);(try clear hcz47_3);(try clear hcz49_0);(try clear hcz49_1);(try clear hcz49_2);(try clear hcz49_3);(try clear hcz52_0);(try clear hcz52_1);(try clear hcz52_2);(try clear hcz52_3);(try clear hcz54_0);(try clear hcz54_1);(try clear hcz54_2);(try clear hcz54_3);(try clear hcz61_0);(try clear hcz61_1);(try clear hcz61_2);(try clear hcz61_3);(try clear hcz63_0);(try clear hcz63_1);(try clear hcz63_2);(try clear hcz63_3);(try clear hcz65_0);(try clear hcz65_1);(try clear hcz65_2);(try clear hcz65_3);(try clear hcz67_0);(try clear hcz67_1);(try clear hcz67_2);(try clear hcz67_3);(try clear hcz69_0);(try clear hcz69_1);(try clear hcz69_2);(try clear hcz69_3);(try clear hfz17_0);(try clear hfz17_1);(try clear hfz17_2);(try clear hfz17_3);(try clear hfz19_0);(try clear hfz19_1);(try clear hfz19_2);(try clear hfz19_3);(try clear hfz21_0);(try clear hfz21_1);(try clear hfz21_2);(try clear hfz21_3);(try clear hfz23_0);(try clear hfz23_1);(try clear hfz23_2);(try clear hfz23_3);(try clear hfz25_0);(try clear hfz25_1);(try clear hfz25_2);(try clear hfz25_3);(try clear hfz27_0);(try clear hfz27_1);(try clear hfz27_2)
          (try clear hfz27_3);(try clear hfz29_0);(try clear hfz29_1);(try clear hfz29_2);(try clear hfz29_3);(try clear hfz31_0);(try clear hfz31_1);(try clear hfz31_2);(try clear hfz31_3);(try clear hfz33_0);(try clear hfz33_1);(try clear hfz33_2);(try clear hfz33_3);(try clear hfz35_0);(try clear hfz35_1);(try clear hfz35_2);(try clear hfz35_3);(try clear hfz37_0);(try clear hfz37_1);(try clear hfz37_2);(try clear hfz37_3);(try clear hfz47_0);(try clear hfz47_1);(try clear hfz47_2);(try clear hfz47_3);(try clear hfz49_0);(try clear hfz49_1);(try clear hfz49_2);(try clear hfz49_3);(try clear hfz52_0);(try clear hfz52_1);(try clear hfz52_2);(try clear hfz52_3);(try clear hfz54_0);(try clear hfz54_1);(try clear hfz54_2);(try clear hfz54_3);(try clear hfz61_0);(try clear hfz61_1);(try clear hfz61_2);(try clear hfz61_3);(try clear hfz63_0);(try clear hfz63_1);(try clear hfz63_2);(try clear hfz63_3);(try clear hfz65_0);(try clear hfz65_1);(try clear hfz65_2);(try clear hfz65_3);(try clear hfz67_0);(try clear hfz67_1);(try clear hfz67_2);(try clear hfz67_3);(try clear hfz69_0);(try clear hfz69_1);(try clear hfz69_2);(try clear hfz69_3);(try clear p2);(try clear p6);(try clear p64)
          obtain ⟨kq,x160_83,rfl,HA,HJ83,BK505,HB⟩:=hcut
          cases kq with
          |zero=>exact absurd HA.out (by simp [tl_SkyCycles.j2])
          |succ kj83=>
           have H:=HA.out
           clear HA
           simp only [tl_SkyCycles.j2] at H
           by_cases c86:x160_83=true
           ·subst c86
            have H1:(some false)=some r:=by rw [if_pos rfl] at H;exact H
            clear H;have H:=H1;clear H1;obtain rfl:=Option.some.inj H;go_wp2;go_ret
            exact ⟨y2_,(by repeat (first|(with_reducible first|exact HB.out|apply below_alloc|apply pw_below_drewN|apply below_drew1|refine below_set ?_ GE505.out)|exact HB.out))⟩
           ·as_aux_lemma=>
            replace c86:=Bool.eq_false_iff.mpr c86;subst c86
            have H1:((sky_Drift.f kj83 l0_0 a0_1 a0_2 a0_3 t512).bind fun bt531=>(if bt531.2=0 then (if bt531.1≤a1 then (if a2=0 then ((tl_known.f).bind fun t533=>(some t533)) else (if a2 ≥ t512 then ((tl_known.f).bind fun t534=>(some t534)) else (if t518 > a1 then ((tl_known.f).bind fun t535=>(some t535)) else (some false)))) else (some false)) else (some false)))=some r:=by rw [if_neg (show ¬ (false=true) by decide)] at H;exact H
            clear H;have H:=H1;clear H1;replace H:=Option.bind_eq_some_iff.mp H
            obtain ⟨⟨t531,t532⟩,A870,H⟩:=H
            replace H:(if t532=0 then (if t531≤a1 then (if a2=0 then ((tl_known.f).bind fun t533=>(some t533)) else (if a2 ≥ t512 then ((tl_known.f).bind fun t534=>(some t534)) else (if t518 > a1 then ((tl_known.f).bind fun t535=>(some t535)) else (some false)))) else (some false)) else (some false))=some r:=H
            have A87:=A0_ A870;clear A870
            by_cases c88:t532=0
            ·rw [if_pos c88] at H
             have c88b0:(t532 == 0)=true:=beq_iff_eq.mpr c88
             have c88b1:(t532 != 0)=false:=bne_eq_false_iff_eq.mpr c88
             clear c88
             by_cases c89:t531≤a1
             ·rw [if_pos c89] at H;have c89b0:decide (t531≤a1)=true:=decide_eq_true c89;clear c89
              by_cases c90:a2=0
              ·rw [if_pos c90] at H
               have c90b0:(a2 == 0)=true:=beq_iff_eq.mpr c90
               have c90b1:(a2 != 0)=false:=bne_eq_false_iff_eq.mpr c90
               clear c90;replace H:=Option.bind_eq_some_iff.mp H;obtain ⟨t533,A910,H⟩:=H
               replace H:(some t533)=some r:=H
               have A91:=A0_ A910;clear A910;obtain rfl:=Option.some.inj H;obtain ⟨hcz92_0,hcz92_1,hcz92_2,hcz92_3,hfz92_0,hfz92_1,hfz92_2,hfz92_3⟩:=bq4_ BK505.out
               go_wp2_with (first|((with_reducible refine gate_callee (f:=33) rfl ?_);refine goesL_ (some 164) rfl rfl Tryz.func33 (by kernel_rfl) rfl #[.agg #[.slice A0_0 l0_0.length c0_0,.int .i64 a0_1,.int .i64 a0_2,.int .i64 a0_3],.int .i64 t512] rfl y1_ ?_;(with_reducible refine (sky_Drift.calls kj83 _ _ l0_0 a0_1 a0_2 a0_3 t512 t531 t532 _ ?side1 ?side2 A87.out).mono ?_);(case side1=>repeat (first|exact (Kd.C_below HR0_0.out HB.out)|(with_reducible refine Kd.C_alloc ?_ _)|(with_reducible refine Kd.C_drewN ?_ _)|(with_reducible refine Kd.C_drew ?_)));(case side2=>exact HC0_0.out);rintro e w93 ⟨rfl,hb⟩;refine ⟨_,rfl,?_⟩;have n0_:=A0_ (blk_below (g:=gb505) (o:=.cells #[.slice A0_0 l0_0.length c0_0,.int .i64 a0_1,.int .i64 a0_2,.int .i64 a0_3] 29 (0,0)) (bd_ BK505.out) hb);have n1_:=A0_ (below_step (by repeat (first|(with_reducible first|exact HB.out|apply below_alloc|apply pw_below_drewN|apply below_drew1|refine below_set ?_ GE505.out)|exact HB.out)) hb);clear BK505;clear HB;have BK505:=n0_;have HB:=n1_;clear n0_ n1_;(try clear hb);(try clear hb2);(try clear hk);(try clear hi))|(go_at_call 11;(with_reducible refine (tl_known.calls  t533 _ A91.out ?side1).mono ?_);(case side1=>exact LD.below HLD.out (by repeat (first|(with_reducible first|exact HB.out|apply below_alloc|apply pw_below_drewN|apply below_drew1|refine below_set ?_ GE505.out)|exact HB.out)));rintro e w94 ⟨rfl,hb⟩;have n0_:=A0_ (blk_below (g:=gb505) (o:=.cells #[.slice A0_0 l0_0.length c0_0,.int .i64 a0_1,.int .i64 a0_2,.int .i64 a0_3] 29 (0,0)) (bd_ BK505.out) hb);have n1_:=A0_ (below_step (by repeat (first|(with_reducible first|exact HB.out|apply below_alloc|apply pw_below_drewN|apply below_drew1|refine below_set ?_ GE505.out)|exact HB.out)) hb);clear BK505;clear HB;have BK505:=n0_;have HB:=n1_;clear n0_ n1_;(try clear hb);(try clear hb2);(try clear hk);(try clear hi)))
               go_ret
               exact ⟨y2_,(by repeat (first|(with_reducible first|exact HB.out|apply below_alloc|apply pw_below_drewN|apply below_drew1|refine below_set ?_ GE505.out)|exact HB.out))⟩
              ·rw [if_neg c90] at H
               have c90b0:(a2 == 0)=false:=beq_eq_false_iff_ne.mpr c90
               have c90b1:(a2 != 0)=true:=bne_iff_ne.mpr c90
               by_cases c95:a2 ≥ t512
               ·rw [if_pos c95] at H;have c95b0:decide (t512≤a2)=true:=decide_eq_true c95;clear c95;replace H:=Option.bind_eq_some_iff.mp H;obtain ⟨t534,A960,H⟩:=H
                replace H:(some t534)=some r:=H
                have A96:=A0_ A960;clear A960;obtain rfl:=Option.some.inj H;obtain ⟨hcz97_0,hcz97_1,hcz97_2,hcz97_3,hfz97_0,hfz97_1,hfz97_2,hfz97_3⟩:=bq4_ BK505.out
                go_wp2_with (first|((with_reducible refine gate_callee (f:=33) rfl ?_);refine goesL_ (some 164) rfl rfl Tryz.func33 (by kernel_rfl) rfl #[.agg #[.slice A0_0 l0_0.length c0_0,.int .i64 a0_1,.int .i64 a0_2,.int .i64 a0_3],.int .i64 t512] rfl y1_ ?_;(with_reducible refine (sky_Drift.calls kj83 _ _ l0_0 a0_1 a0_2 a0_3 t512 t531 t532 _ ?side1 ?side2 A87.out).mono ?_);(case side1=>repeat (first|exact (Kd.C_below HR0_0.out HB.out)|(with_reducible refine Kd.C_alloc ?_ _)|(with_reducible refine Kd.C_drewN ?_ _)|(with_reducible refine Kd.C_drew ?_)));(case side2=>exact HC0_0.out);rintro e w98 ⟨rfl,hb⟩;refine ⟨_,rfl,?_⟩;have n0_:=A0_ (blk_below (g:=gb505) (o:=.cells #[.slice A0_0 l0_0.length c0_0,.int .i64 a0_1,.int .i64 a0_2,.int .i64 a0_3] 29 (0,0)) (bd_ BK505.out) hb);have n1_:=A0_ (below_step (by repeat (first|(with_reducible first|exact HB.out|apply below_alloc|apply pw_below_drewN|apply below_drew1|refine below_set ?_ GE505.out)|exact HB.out)) hb);clear BK505;clear HB;have BK505:=n0_;have HB:=n1_;clear n0_ n1_;(try clear hb);(try clear hb2);(try clear hk);(try clear hi))|(go_at_call 11;(with_reducible refine (tl_known.calls  t534 _ A96.out ?side1).mono ?_);(case side1=>exact LD.below HLD.out (by repeat (first|(with_reducible first|exact HB.out|apply below_alloc|apply pw_below_drewN|apply below_drew1|refine below_set ?_ GE505.out)|exact HB.out)));rintro e w99 ⟨rfl,hb⟩;have n0_:=A0_ (blk_below (g:=gb505) (o:=.cells #[.slice A0_0 l0_0.length c0_0,.int .i64 a0_1,.int .i64 a0_2,.int .i64 a0_3] 29 (0,0)) (bd_ BK505.out) hb);have n1_:=A0_ (below_step (by repeat (first|(with_reducible first|exact HB.out|apply below_alloc|apply pw_below_drewN|apply below_drew1|refine below_set ?_ GE505.out)|exact HB.out)) hb);clear BK505;clear HB;have BK505:=n0_;have HB:=n1_;clear n0_ n1_;(try clear hb);(try clear hb2);(try clear hk);(try clear hi)))
                go_ret
                exact ⟨y2_,(by repeat (first|(with_reducible first|exact HB.out|apply below_alloc|apply pw_below_drewN|apply below_drew1|refine below_set ?_ GE505.out)|exact HB.out))⟩
               ·rw [if_neg c95] at H;have c95b0:decide (t512≤a2)=false:=decide_eq_false c95;clear c95
                by_cases c100:t518 > a1
                ·rw [if_pos c100] at H;have c100b0:decide (a1<t518)=true:=decide_eq_true c100;clear c100;replace H:=Option.bind_eq_some_iff.mp H;obtain ⟨t535,A1010,H⟩:=H
                 replace H:(some t535)=some r:=H
                 have A101:=A0_ A1010;clear A1010;obtain rfl:=Option.some.inj H;obtain ⟨hcz102_0,hcz102_1,hcz102_2,hcz102_3,hfz102_0,hfz102_1,hfz102_2,hfz102_3⟩:=bq4_ BK505.out
                 go_wp2_with (first|((with_reducible refine gate_callee (f:=33) rfl ?_);refine goesL_ (some 164) rfl rfl Tryz.func33 (by kernel_rfl) rfl #[.agg #[.slice A0_0 l0_0.length c0_0,.int .i64 a0_1,.int .i64 a0_2,.int .i64 a0_3],.int .i64 t512] rfl y1_ ?_;(with_reducible refine (sky_Drift.calls kj83 _ _ l0_0 a0_1 a0_2 a0_3 t512 t531 t532 _ ?side1 ?side2 A87.out).mono ?_);(case side1=>repeat (first|exact (Kd.C_below HR0_0.out HB.out)|(with_reducible refine Kd.C_alloc ?_ _)|(with_reducible refine Kd.C_drewN ?_ _)|(with_reducible refine Kd.C_drew ?_)));(case side2=>exact HC0_0.out);rintro e w103 ⟨rfl,hb⟩;refine ⟨_,rfl,?_⟩;have n0_:=A0_ (blk_below (g:=gb505) (o:=.cells #[.slice A0_0 l0_0.length c0_0,.int .i64 a0_1,.int .i64 a0_2,.int .i64 a0_3] 29 (0,0)) (bd_ BK505.out) hb);have n1_:=A0_ (below_step (by repeat (first|(with_reducible first|exact HB.out|apply below_alloc|apply pw_below_drewN|apply below_drew1|refine below_set ?_ GE505.out)|exact HB.out)) hb);clear BK505;clear HB;have BK505:=n0_;have HB:=n1_;clear n0_ n1_;(try clear hb);(try clear hb2);(try clear hk);(try clear hi))|(go_at_call 11;(with_reducible refine (tl_known.calls  t535 _ A101.out ?side1).mono ?_);(case side1=>exact LD.below HLD.out (by repeat (first|(with_reducible first|exact HB.out|apply below_alloc|apply pw_below_drewN|apply below_drew1|refine below_set ?_ GE505.out)|exact HB.out)));rintro e w104 ⟨rfl,hb⟩;have n0_:=A0_ (blk_below (g:=gb505) (o:=.cells #[.slice A0_0 l0_0.length c0_0,.int .i64 a0_1,.int .i64 a0_2,.int .i64 a0_3] 29 (0,0)) (bd_ BK505.out) hb);have n1_:=A0_ (below_step (by repeat (first|(with_reducible first|exact HB.out|apply below_alloc|apply pw_below_drewN|apply below_drew1|refine below_set ?_ GE505.out)|exact HB.out)) hb);clear BK505;clear HB;have BK505:=n0_;have HB:=n1_;clear n0_ n1_;(try clear hb);(try clear hb2);(try clear hk);(try clear hi)))
                 go_ret
                 exact ⟨y2_,(by repeat (first|(with_reducible first|exact HB.out|apply below_alloc|apply pw_below_drewN|apply below_drew1|refine below_set ?_ GE505.out)|exact HB.out))⟩
                ·rw [if_neg c100] at H;have c100b0:decide (a1<t518)=false:=decide_eq_false c100;clear c100;obtain rfl:=Option.some.inj H;obtain ⟨hcz105_0,hcz105_1,hcz105_2,hcz105_3,hfz105_0,hfz105_1,hfz105_2,hfz105_3⟩:=bq4_ BK505.out
                 go_wp2_with (first|((with_reducible refine gate_callee (f:=33) rfl ?_);refine goesL_ (some 164) rfl rfl Tryz.func33 (by kernel_rfl) rfl #[.agg #[.slice A0_0 l0_0.length c0_0,.int .i64 a0_1,.int .i64 a0_2,.int .i64 a0_3],.int .i64 t512] rfl y1_ ?_;(with_reducible refine (sky_Drift.calls kj83 _ _ l0_0 a0_1 a0_2 a0_3 t512 t531 t532 _ ?side1 ?side2 A87.out).mono ?_);(case side1=>repeat (first|exact (Kd.C_below HR0_0.out HB.out)|(with_reducible refine Kd.C_alloc ?_ _)|(with_reducible refine Kd.C_drewN ?_ _)|(with_reducible refine Kd.C_drew ?_)));(case side2=>exact HC0_0.out);rintro e w106 ⟨rfl,hb⟩;refine ⟨_,rfl,?_⟩;have n0_:=A0_ (blk_below (g:=gb505) (o:=.cells #[.slice A0_0 l0_0.length c0_0,.int .i64 a0_1,.int .i64 a0_2,.int .i64 a0_3] 29 (0,0)) (bd_ BK505.out) hb);have n1_:=A0_ (below_step (by repeat (first|(with_reducible first|exact HB.out|apply below_alloc|apply pw_below_drewN|apply below_drew1|refine below_set ?_ GE505.out)|exact HB.out)) hb);clear BK505;clear HB;have BK505:=n0_;have HB:=n1_;clear n0_ n1_;(try clear hb);(try clear hb2);(try clear hk);(try clear hi)))
                 go_ret
                 exact ⟨y2_,(by repeat (first|(with_reducible first|exact HB.out|apply below_alloc|apply pw_below_drewN|apply below_drew1|refine below_set ?_ GE505.out)|exact HB.out))⟩
             ·rw [if_neg c89] at H;have c89b0:decide (t531≤a1)=false:=decide_eq_false c89;clear c89;obtain rfl:=Option.some.inj H;obtain ⟨hcz107_0,hcz107_1,hcz107_2,hcz107_3,hfz107_0,hfz107_1,hfz107_2,hfz107_3⟩:=bq4_ BK505.out
              go_wp2_with (first|((with_reducible refine gate_callee (f:=33) rfl ?_);refine goesL_ (some 164) rfl rfl Tryz.func33 (by kernel_rfl) rfl #[.agg #[.slice A0_0 l0_0.length c0_0,.int .i64 a0_1,.int .i64 a0_2,.int .i64 a0_3],.int .i64 t512] rfl y1_ ?_;(with_reducible refine (sky_Drift.calls kj83 _ _ l0_0 a0_1 a0_2 a0_3 t512 t531 t532 _ ?side1 ?side2 A87.out).mono ?_);(case side1=>repeat (first|exact (Kd.C_below HR0_0.out HB.out)|(with_reducible refine Kd.C_alloc ?_ _)|(with_reducible refine Kd.C_drewN ?_ _)|(with_reducible refine Kd.C_drew ?_)));(case side2=>exact HC0_0.out);rintro e w108 ⟨rfl,hb⟩;refine ⟨_,rfl,?_⟩;have n0_:=A0_ (blk_below (g:=gb505) (o:=.cells #[.slice A0_0 l0_0.length c0_0,.int .i64 a0_1,.int .i64 a0_2,.int .i64 a0_3] 29 (0,0)) (bd_ BK505.out) hb);have n1_:=A0_ (below_step (by repeat (first|(with_reducible first|exact HB.out|apply below_alloc|apply pw_below_drewN|apply below_drew1|refine below_set ?_ GE505.out)|exact HB.out)) hb);clear BK505;clear HB;have BK505:=n0_;have HB:=n1_;clear n0_ n1_;(try clear hb);(try clear hb2);(try clear hk);(try clear hi)))
              go_ret
              exact ⟨y2_,(by repeat (first|(with_reducible first|exact HB.out|apply below_alloc|apply pw_below_drewN|apply below_drew1|refine below_set ?_ GE505.out)|exact HB.out))⟩
            ·rw [if_neg c88] at H
             have c88b0:(t532 == 0)=false:=beq_eq_false_iff_ne.mpr c88
             have c88b1:(t532 != 0)=true:=bne_iff_ne.mpr c88
             obtain rfl:=Option.some.inj H;obtain ⟨hcz109_0,hcz109_1,hcz109_2,hcz109_3,hfz109_0,hfz109_1,hfz109_2,hfz109_3⟩:=bq4_ BK505.out
             go_wp2_with (first|((with_reducible refine gate_callee (f:=33) rfl ?_);refine goesL_ (some 164) rfl rfl Tryz.func33 (by kernel_rfl) rfl #[.agg #[.slice A0_0 l0_0.length c0_0,.int .i64 a0_1,.int .i64 a0_2,.int .i64 a0_3],.int .i64 t512] rfl y1_ ?_;(with_reducible refine (sky_Drift.calls kj83 _ _ l0_0 a0_1 a0_2 a0_3 t512 t531 t532 _ ?side1 ?side2 A87.out).mono ?_);(case side1=>repeat (first|exact (Kd.C_below HR0_0.out HB.out)|(with_reducible refine Kd.C_alloc ?_ _)|(with_reducible refine Kd.C_drewN ?_ _)|(with_reducible refine Kd.C_drew ?_)));(case side2=>exact HC0_0.out);rintro e w110 ⟨rfl,hb⟩;refine ⟨_,rfl,?_⟩;have n0_:=A0_ (blk_below (g:=gb505) (o:=.cells #[.slice A0_0 l0_0.length c0_0,.int .i64 a0_1,.int .i64 a0_2,.int .i64 a0_3] 29 (0,0)) (bd_ BK505.out) hb);have n1_:=A0_ (below_step (by repeat (first|(with_reducible first|exact HB.out|apply below_alloc|apply pw_below_drewN|apply below_drew1|refine below_set ?_ GE505.out)|exact HB.out)) hb);clear BK505;clear HB;have BK505:=n0_;have HB:=n1_;clear n0_ n1_;(try clear hb);(try clear hb2);(try clear hk);(try clear hi)))
             go_ret
             exact ⟨y2_,(by repeat (first|(with_reducible first|exact HB.out|apply below_alloc|apply pw_below_drewN|apply below_drew1|refine below_set ?_ GE505.out)|exact HB.out))⟩
        ·as_aux_lemma=>
         rw [if_neg c83] at H
         have c83b0:(t513 == 0)=false:=beq_eq_false_iff_ne.mpr c83
         have c83b1:(t513 != 0)=true:=bne_iff_ne.mpr c83
         by_cases c111:t513=5
         ·rw [if_pos c111] at H
          have c111b0:(t513 == 5)=true:=beq_iff_eq.mpr c111
          have c111b1:(t513 != 5)=false:=bne_eq_false_iff_eq.mpr c111
          clear c111
          by_cases c112:a2=0
          ·rw [if_pos c112] at H
           have c112b0:(a2 == 0)=true:=beq_iff_eq.mpr c112
           have c112b1:(a2 != 0)=false:=bne_eq_false_iff_eq.mpr c112
           clear c112;replace H:=Option.bind_eq_some_iff.mp H;obtain ⟨t529,A1130,H⟩:=H
           replace H:(some t529)=some r:=H
           have A113:=A0_ A1130;clear A1130;obtain rfl:=Option.some.inj H
           go_wp2_with (first|(go_at_call 11;(with_reducible refine (tl_known.calls  t529 _ A113.out ?side1).mono ?_);(case side1=>exact LD.below HLD.out (by repeat (first|(with_reducible first|exact HB.out|apply below_alloc|apply pw_below_drewN|apply below_drew1|refine below_set ?_ GE505.out)|exact HB.out)));rintro e w114 ⟨rfl,hb⟩;have n0_:=A0_ (blk_below (g:=gb505) (o:=.cells #[.slice A0_0 l0_0.length c0_0,.int .i64 a0_1,.int .i64 a0_2,.int .i64 a0_3] 29 (0,0)) (bd_ BK505.out) hb);have n1_:=A0_ (below_step (by repeat (first|(with_reducible first|exact HB.out|apply below_alloc|apply pw_below_drewN|apply below_drew1|refine below_set ?_ GE505.out)|exact HB.out)) hb);clear BK505;clear HB;have BK505:=n0_;have HB:=n1_;clear n0_ n1_;(try clear hb);(try clear hb2);(try clear hk);(try clear hi)))
           go_ret
           exact ⟨y2_,(by repeat (first|(with_reducible first|exact HB.out|apply below_alloc|apply pw_below_drewN|apply below_drew1|refine below_set ?_ GE505.out)|exact HB.out))⟩
          ·rw [if_neg c112] at H
           have c112b0:(a2 == 0)=false:=beq_eq_false_iff_ne.mpr c112
           have c112b1:(a2 != 0)=true:=bne_iff_ne.mpr c112
           by_cases c115:t518 > a1
           ·rw [if_pos c115] at H;have c115b0:decide (a1<t518)=true:=decide_eq_true c115;clear c115;replace H:=Option.bind_eq_some_iff.mp H;obtain ⟨t530,A1160,H⟩:=H
            replace H:(some t530)=some r:=H
            have A116:=A0_ A1160;clear A1160;obtain rfl:=Option.some.inj H
            go_wp2_with (first|(go_at_call 11;(with_reducible refine (tl_known.calls  t530 _ A116.out ?side1).mono ?_);(case side1=>exact LD.below HLD.out (by repeat (first|(with_reducible first|exact HB.out|apply below_alloc|apply pw_below_drewN|apply below_drew1|refine below_set ?_ GE505.out)|exact HB.out)));rintro e w117 ⟨rfl,hb⟩;have n0_:=A0_ (blk_below (g:=gb505) (o:=.cells #[.slice A0_0 l0_0.length c0_0,.int .i64 a0_1,.int .i64 a0_2,.int .i64 a0_3] 29 (0,0)) (bd_ BK505.out) hb);have n1_:=A0_ (below_step (by repeat (first|(with_reducible first|exact HB.out|apply below_alloc|apply pw_below_drewN|apply below_drew1|refine below_set ?_ GE505.out)|exact HB.out)) hb);clear BK505;clear HB;have BK505:=n0_;have HB:=n1_;clear n0_ n1_;(try clear hb);(try clear hb2);(try clear hk);(try clear hi)))
            go_ret
            exact ⟨y2_,(by repeat (first|(with_reducible first|exact HB.out|apply below_alloc|apply pw_below_drewN|apply below_drew1|refine below_set ?_ GE505.out)|exact HB.out))⟩
           ·rw [if_neg c115] at H;have c115b0:decide (a1<t518)=false:=decide_eq_false c115;clear c115;obtain rfl:=Option.some.inj H;go_wp2;go_ret
            exact ⟨y2_,(by repeat (first|(with_reducible first|exact HB.out|apply below_alloc|apply pw_below_drewN|apply below_drew1|refine below_set ?_ GE505.out)|exact HB.out))⟩
         ·rw [if_neg c111] at H
          have c111b0:(t513 == 5)=false:=beq_eq_false_iff_ne.mpr c111
          have c111b1:(t513 != 5)=true:=bne_iff_ne.mpr c111
          obtain rfl:=Option.some.inj H;go_wp2;go_ret
          exact ⟨y2_,(by repeat (first|(with_reducible first|exact HB.out|apply below_alloc|apply pw_below_drewN|apply below_drew1|refine below_set ?_ GE505.out)|exact HB.out))⟩
end Go.Proofs.YtjahbgldccjbfaaGreatDoor.PSky
end
section
namespace Go.Proofs.YtjahbgldccjbfaaGreatDoor.PSky
open Go.RowKit Go.Proofs.YtjahbgldccjbfaaGreatDoorW.PrintWords Go.Proofs.YtjahbgldccjbfaaGreatDoorW.PrintLast Go.Proofs.YtjahbgldccjbfaaGreatDoorW.PrintMore
theorem drift_limit {l:List S74} {p q n:Int} (h:okSky l p q n=true) (hd:0<mDen l) (m:Int):okLimit (driftOf l p q m)=true:=by
 have:=drift_bounds (x:=dNum l p q m) (dDen_bounds h hd).1
 exact okIn_iff.mpr this
theorem drift_zero {l:List S74} {p q n:Int} (h:okSky l p q n=true) (hd:0<mDen l):driftOf l p q 0=0:=by
 have hD:=(dDen_bounds h hd).1
 have h0:dNum l p q 0=0:=by unfold dNum;simp
 unfold driftOf
 rw [h0]
 have:offOf (dDen l p) 0=0:=by
  unfold offOf mn
  rw [Int.zero_emod]
  split <;> omega
 rw [this]
 simp
theorem drift_sum {l:List S74} {p q n:Int} (h:okSky l p q n=true) (hd:0<mDen l) (x y:Int):driftOf l p q (x+y)≤driftOf l p q x+driftOf l p q y+1:=by
 have hD:=(dDen_bounds h hd).1
 have e:dNum l p q (x+y)=dNum l p q x+dNum l p q y:=by
  unfold dNum
  rw [show 2*(x+y)=2*x+2*y from Int.mul_add 2 x y,Int.add_mul,Int.add_mul]
 unfold driftOf
 rw [e]
 exact drift_add hD
theorem SkyCycles_ev (l:List S74) (p q n limit one other:Int):Ev (fun k=>tl_SkyCycles.f k l p q n limit one other) true:=by
 obtain ⟨s,hs,hs6⟩:=short_ev l p q n
 unfold tl_SkyCycles.f
 have bad:∀ c:Bool,c=true→Ev (fun k=>tl_SkyCycles.j0 k limit one other c l p q n) true:=fun c hc=>by
  refine Ev.step (fun k=>by rw [tl_SkyCycles.j0]) ?_
  exact Ev.pos hc known_ev
 refine Ev.bind hs ?_
 cases s with
 |false=>exact Ev.neg (by simp) (bad _ rfl)
 |true=>
  have hl:=hs6 rfl
  refine Ev.pos rfl (Ev.bind (refSky_ev l p q n (by omega)) ?_)
  cases h:okSky l p q n with
  |false=>exact Ev.neg (by simp) (bad _ rfl)
  |true=>
   refine Ev.pos rfl (Ev.bind (Ev.is (Limit_eq limit)) ?_)
   cases hL:okLimit limit with
   |false=>exact Ev.neg (by simp) (bad _ rfl)
   |true=>
    refine Ev.pos rfl (Ev.bind (Ev.is (Months_eq one)) ?_)
    cases h1:okMonths one with
    |false=>exact Ev.neg (by simp) (bad _ rfl)
    |true=>
     refine Ev.pos rfl (Ev.bind (Ev.is (Months_eq other)) ?_)
     cases h2:okMonths other with
     |false=>exact Ev.neg (by simp) (bad _ rfl)
     |true=>
      have b1:0≤one∧one≤400:=okIn_iff.mp h1
      have b2:0≤other∧other≤400:=okIn_iff.mp h2
      refine Ev.pos rfl ?_
      have hw:wrap64 (one+other)=one+other:=wrap_id (by omega)
      rw [hw]
      by_cases h3:one+other > 400
      ·exact bad _ (decide_eq_true h3)
      ·rw [decide_eq_false h3]
       have ec:=Cycle_ev l p q n limit
       rw [if_pos ⟨h,hL⟩] at ec
       have em:=Month_ev l p q n
       rw [if_pos h] at em
       unfold monthOf at em
       refine Ev.step (fun k=>by rw [tl_SkyCycles.j0]) ?_
       refine Ev.neg (by simp) ?_
       rw [hw]
       by_cases hd:mDen l≤0
       ·rw [if_pos hd] at ec em
        exact Ev.bind ec (Ev.pos rfl (Ev.bind em (Ev.pos rfl known_ev)))
       ·rw [if_neg hd] at ec
        have hd':0<mDen l:=by omega
        have dr:∀ m:Int,okMonths m=true→Ev (fun k=>sky_Drift.f k l p q n m) (driftOf l p q m,0):=fun m hm=>by
         have e:=Drift_ev l p q n m
         rw [if_pos ⟨h,hm⟩,if_neg hd] at e
         exact e
        have hsum:=drift_sum h hd' one other
        have l1:=drift_limit h hd' one
        have l2:=drift_limit h hd' other
        have l3:=drift_limit h hd' (one+other)
        have k1:=okIn_iff.mp l1
        have k2:=okIn_iff.mp l2
        have fin:∀ (cn ce:Int),(match cycOf l p q limit with|some c=>cn=c∧ce=0|none=>cn=0∧ce=5)→Ev (fun k=>tl_SkyCycles.j1 k limit one cn ce (driftOf l p q one) false l p q n) true:=by
         intro cn ce hc
         refine Ev.step (fun k=>by rw [tl_SkyCycles.j1]) ?_
         refine Ev.neg (by simp) ?_
         unfold cycOf at hc
         cases hq:cycleOf (driftOf l p q) limit 400 1 with
         |none=>
          rw [hq] at hc
          refine Ev.neg (by rw [hc.2];decide) (Ev.pos hc.2 ?_)
          by_cases h0:one=0
          ·exact Ev.pos h0 known_ev
          ·exact Ev.neg h0 (Ev.pos (cycleOf_none hq one (by omega) (by omega)) known_ev)
         |some c=>
          rw [hq] at hc
          obtain ⟨rfl,rfl⟩:=hc
          obtain ⟨c1,c2,c3,c4⟩:=cycleOf_some hq
          refine Ev.pos rfl (Ev.neg (by omega) ?_)
          rw [decide_eq_false (show ¬ cn > 400 by omega)]
          refine Ev.step (fun k=>by rw [tl_SkyCycles.j2]) ?_
          refine Ev.neg (by simp) (Ev.bind (dr cn (okIn_iff.mpr (by omega))) (Ev.pos rfl (Ev.pos c3 ?_)))
          by_cases h0:one=0
          ·exact Ev.pos h0 known_ev
          ·refine Ev.neg h0 ?_
           by_cases hge:one ≥ cn
           ·exact Ev.pos hge known_ev
           ·exact Ev.neg hge (Ev.pos (c4 one (by omega) (by omega)) known_ev)
        have main:∀ (cn ce:Int),(match cycOf l p q limit with|some c=>cn=c∧ce=0|none=>cn=0∧ce=5)→Ev (fun k=>if ce=7 then ((sky_Month.f k l p q n).bind fun bt514=>(if bt514.2.2=7 then ((tl_known.f).bind fun t517=>(some t517)) else (some false))) else ((sky_Drift.f k l p q n one).bind fun bt518=>((sky_Drift.f k l p q n other).bind fun bt520=>((sky_Drift.f k l p q n (one+other)).bind fun bt522=>((sky_Drift.f k l p q n 0).bind fun bt524=>(if bt518.2=0 then (if bt520.2=0 then (if bt522.2=0 then (if bt524.2=0 then ((tr_Limit.f bt518.1).bind fun t526=>(if t526=true then ((tr_Limit.f bt520.1).bind fun t527=>(if t527=true then ((tr_Limit.f bt522.1).bind fun t528=>(if t528=true then (if bt524.1=0 then (tl_SkyCycles.j1 k limit one cn ce bt518.1 (decide (bt522.1 > (wrap64 ((wrap64 (bt518.1+bt520.1))+1)))) l p q n) else (tl_SkyCycles.j1 k limit one cn ce bt518.1 true l p q n)) else (tl_SkyCycles.j1 k limit one cn ce bt518.1 true l p q n))) else (tl_SkyCycles.j1 k limit one cn ce bt518.1 true l p q n))) else (tl_SkyCycles.j1 k limit one cn ce bt518.1 true l p q n))) else (tl_SkyCycles.j1 k limit one cn ce bt518.1 true l p q n)) else (tl_SkyCycles.j1 k limit one cn ce bt518.1 true l p q n)) else (tl_SkyCycles.j1 k limit one cn ce bt518.1 true l p q n)) else (tl_SkyCycles.j1 k limit one cn ce bt518.1 true l p q n))))))) true:=by
         intro cn ce hc
         have hne:ce≠7:=by
          cases hq:cycOf l p q limit with
          |none=>rw [hq] at hc;rw [hc.2];decide
          |some c=>rw [hq] at hc;rw [hc.2];decide
         refine Ev.neg hne (Ev.bind (dr one h1) (Ev.bind (dr other h2) (Ev.bind (dr (one+other) (okIn_iff.mpr (by omega))) (Ev.bind (dr 0 rfl) ?_))))
         refine Ev.pos rfl (Ev.pos rfl (Ev.pos rfl (Ev.pos rfl (Ev.bind (Ev.is (Limit_eq _)) (Ev.pos l1 (Ev.bind (Ev.is (Limit_eq _)) (Ev.pos l2 (Ev.bind (Ev.is (Limit_eq _)) (Ev.pos l3 (Ev.pos (drift_zero h hd') ?_))))))))))
         rw [decide_eq_false (by simp only;rw [wrap_id (show -9223372036854775808≤driftOf l p q one+driftOf l p q other∧driftOf l p q one+driftOf l p q other≤9223372036854775807 by omega),wrap_id (by omega)];omega)]
         exact fin cn ce hc
        refine Ev.bind ec ?_
        refine main _ _ ?_
        cases cycOf l p q limit with
        |none=>exact ⟨rfl,rfl⟩
        |some c=>exact ⟨rfl,rfl⟩
end Go.Proofs.YtjahbgldccjbfaaGreatDoor.PSky
end
section
namespace Go.Proofs.YtjahbgldccjbfaaGreatDoor
open Go.ChangeShapes Go.WideShapes Go.ChangeAt Go.RowKit
set_option maxRecDepth 100000 in
set_option maxHeartbeats 1600000 in
theorem skyCycles_lifted (os:Os) (started:os.Started) (H:Type) (enc:TypeId × Value→H) (F:Stop.Interp):
  ReturnsInHanded {} Tryz.checked os 7 .any ((OpenSpec.ofChange Rows.skyCyclesSpec).preRow enc Tryz.prog Tryz.f7 Rows.skyCyclesRow.domain false Rows.skyCyclesRow.laid) (((OpenSpec.ofChange Rows.skyCyclesSpec).at F).post enc Tryz.prog Tryz.f7 false true false false):=by
 refine returnsInHanded_of_row (C:=Tryz.checked) (s:=OpenSpec.ofChange Rows.skyCyclesSpec) own started (by kernel_rfl) Tryz.func7
  (witness_row_at (enc:=enc) (C:=Tryz.checked) false (laidWorld os) #[.agg #[.slice none 0 0,.int .i64 0,.int .i64 0,.int .i64 0],.int .i64 0,.int .i64 0,.int .i64 0] rfl (by kernel_rfl) (by kernel_rfl) (by kernel_rfl) (OpenSpec.preRow_of_B rfl 8 (by kernel_rfl) (by kernel_rfl) (laid_met os _))) ?_
 intro W base args ds gs before hval0 hW _ _ hsz0 hL hsh _
 have hval:∀ (j:Nat) t v,Tryz.f7.params[j]?=some t→args[j]?=some v→Value.okWide Tryz.prog W .any base t v:=hval0
 have hW':=hW
 obtain ⟨p,q,hA0,hV,rfl,hfz,hnd⟩:=hW
 have hA:DataW.TrodAll enc Tryz.prog W 0 (fun _=>true) true Tryz.f7.params.toList args.toList ds p:=hA0
 rw [Tryz.params7] at hA hval
 obtain ⟨v0,vs0,d0,ds0,p0,q0,hargs,rfl,rfl,h0,r0⟩:=trodAll_cons hA
 obtain ⟨v1,vs1,d1,ds1,p1,q1,rfl,rfl,rfl,h1,r1⟩:=trodAll_cons r0
 obtain ⟨v2,vs2,d2,ds2,p2,q2,rfl,rfl,rfl,h2,r2⟩:=trodAll_cons r1
 obtain ⟨v3,vs3,d3,ds3,p3,q3,rfl,rfl,rfl,h3,r3⟩:=trodAll_cons r2
 obtain ⟨rfl,rfl,rfl⟩:=trodAll_nil r3
 obtain rfl:args=#[v0,v1,v2,v3]:=by cases args;simp_all
 obtain ⟨rfl,rfl⟩:=trodVars_none hV
 have k0:=h0
 have lt0:∀ x∈p0,x.block<W.heap.size:=by obtain ⟨m,hm⟩:=k0;exact DataW.trod_lt m _ _ _ hm
 obtain ⟨fuel0,hf0⟩:=h0
 obtain ⟨A0,c0,l0,a0,b0,e0,hcs0,hlc0,hC0⟩:=PSky.open_sky hf0
 obtain rfl:=agg_of hcs0 rfl
 obtain ⟨x1,rfl,rfl,rfl,w1⟩:=open_int Tryz.underlying3 (hval 1 3 v1 rfl rfl) h1
 obtain ⟨x2,rfl,rfl,rfl,w2⟩:=open_int Tryz.underlying3 (hval 2 3 v2 rfl rfl) h2
 obtain ⟨x3,rfl,rfl,rfl,w3⟩:=open_int Tryz.underlying3 (hval 3 3 v3 rfl rfl) h3
 obtain ⟨k,hk⟩:=(PSky.SkyCycles_ev l0 a0 b0 e0 x1 x2 x3).rounds
 have hld:=ld_of hL hsh
 clear hA0 hval0 hsz0 hA hval hL hsh
 refine (PSky.tl_SkyCycles.calls k A0 c0 l0 a0 b0 e0 x1 x2 x3 true W hC0 hlc0 hk hld).mono fun e W' ⟨he,bel⟩=>?_
 subst he
 exact ⟨_,rfl,_,_,_,[],_,[],hW',trodAll_mk1 (shut_bool Tryz.underlying4 _),(trodAll_cons_mk (Below.trod laidOut (by kernel_rfl) (of_decide_eq_true (by kernel_rfl)) k0 bel lt0) (trodAll_cons_mk (shut_int Tryz.underlying3 w1) (trodAll_cons_mk (shut_int Tryz.underlying3 w2) (trodAll_cons_mk (shut_int Tryz.underlying3 w3) trodAll_mk0)))),rfl,bel.frame _,fun h=>by cases h⟩
theorem skyCycles_holds:Rows.SkyCyclesSaid:=
 OpenClaim.holds_of_wide 7 Tryz.f7 rfl rfl rfl rfl rfl rfl rfl ⟨rfl,rfl,rfl,rfl,rfl⟩ rfl rfl rfl rfl rfl (by kernel_rfl) Tryz.func7 (by kernel_rfl)
  (of_decide_eq_true (by kernel_rfl)) (by unfold Func.isWrapper;first|(rw [if_pos (by decide +kernel)];kernel_rfl)|(rw [if_neg (by decide +kernel)];exact ⟨rfl,rfl⟩))
  (fun os started H enc _=>skyCycles_lifted os started H enc (fun _ _ _=>0))
end Go.Proofs.YtjahbgldccjbfaaGreatDoor
end
