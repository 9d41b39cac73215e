/- SkyMoons: for every sky and every span, the law returns true; the arguments read as they did. (A part of the proof.) -/
import Derived.Deep.AppendLies
import Derived.Deep.RegionLaw
import Derived.Laws.Pointers
import Derived.LoopIn
import Derived.LoopN
import Derived.LoopNIn
import Derived.Outline
import Derived.OwnWalkIn
import Derived.RangeFuncBound
import Derived.RangeFuncBox
import Derived.RangeFuncCalls
import Derived.RangeFuncLeaves
import Derived.RangeFuncNested
import Derived.Shelf.Abstract
import Derived.Shelf.RegionOpen
import Derived.StillTactics
import Derived.TacticsInMore
import Derived.WalkKit
import Derived.Test.YtaidphhkhddemaaGreatDoorZ4
section
namespace Go.Proofs.YtaidphhkhddemaaGreatDoor.PSky
open Go.RowKit Go.Proofs.YtaidphhkhddemaaGreatDoorW.PrintWords Go.Proofs.YtaidphhkhddemaaGreatDoorW.PrintLast Go.Proofs.YtaidphhkhddemaaGreatDoorW.PrintMore
attribute [local go_sem] max2_int min2_int max_two min_two max_three min_three max_four min_four
set_option linter.unusedVariables false
set_option linter.unusedSimpArgs false
def tr_Moon.f (l0_0 : List (S83)) (a0_1 : Int) (a0_2 : Int) (a0_3 : Int) (a1 : Int) (a2 : Bool) : Option (Bool) := if a2 = true then ((tr_ahead.f l0_0 a0_1 a0_2 a0_3 1 0 (wrap64 (a1 - 1))).bind fun t171 => ((tr_ahead.f l0_0 a0_1 a0_2 a0_3 1 0 a1).bind fun t172 => ((tr_passed.f (wrap64 (t171 - 10800)) (wrap64 (t172 - 10800))).bind fun t173 => (some t173)))) else ((tr_ahead.f l0_0 a0_1 a0_2 a0_3 1 0 (wrap64 (a1 - 1))).bind fun t174 => ((tr_ahead.f l0_0 a0_1 a0_2 a0_3 1 0 a1).bind fun t175 => ((tr_passed.f (wrap64 (t174 - 0)) (wrap64 (t175 - 0))).bind fun t176 => (some t176))))
def tr_Moon.T4 : Bool × List (List Nat × List Nat) := (true, [([], []), ([], []), ([1], [1]), ([0, 2], [0, 2]), ([], []), ([3, 4], [3, 4]), ([], []), ([], []), ([6, 7, 3], [6, 7]), ([], []), ([8, 9], [8, 9]), ([5, 10, 8], [5, 10]), ([11, 11, 0, 1, 2, 3, 4, 5, 6, 7, 8, 9, 10, 11], [11])])
def tr_Moon.B4 : List Nat := [0, 0, 2, 7, 0, 31, 0, 0, 207, 0, 975, 2047, 4095]
theorem tr_Moon.tab4 : rtab .any (opsOf Tryz.f57 4) = tr_Moon.T4 := by kernel_rfl
theorem tr_Moon.bits4 : waitsOk tr_Moon.T4.2 tr_Moon.B4 = true := by kernel_rfl
set_option maxHeartbeats 8000000 in
set_option maxRecDepth 100000 in
theorem tr_Moon.calls (A0_0 : Option Addr) (c0_0 : Nat) (l0_0 : List (S83)) (a0_1 : Int) (a0_2 : Int) (a0_3 : Int) (a1 : Int) (a2 : Bool) (r : Bool) (w : World) (hr0_0 : Kd.C k83 w A0_0 l0_0.length l0_0) (hc0_0 : l0_0.length ≤ c0_0) (h : tr_Moon.f l0_0 a0_1 a0_2 a0_3 a1 a2 = some r) :
  Calls Tryz.prog 57 #[.agg #[.slice A0_0 l0_0.length c0_0, .int .i64 a0_1, .int .i64 a0_2, .int .i64 a0_3], .int .i64 a1, .bool a2] w fun e w' => e = .returned (.bool r) ∧ Below w.heap.size w w' := by
 have hu28 := Tryz.underlying28
 have HR0_0 := A0_ hr0_0; have HC0_0 := A0_ hc0_0; clear hr0_0 hc0_0
 have HB := A0_ (Below.refl w.heap.size w)
 have H : (if a2 = true then ((tr_ahead.f l0_0 a0_1 a0_2 a0_3 1 0 (wrap64 (a1 - 1))).bind fun t171 => ((tr_ahead.f l0_0 a0_1 a0_2 a0_3 1 0 a1).bind fun t172 => ((tr_passed.f (wrap64 (t171 - 10800)) (wrap64 (t172 - 10800))).bind fun t173 => (some t173)))) else ((tr_ahead.f l0_0 a0_1 a0_2 a0_3 1 0 (wrap64 (a1 - 1))).bind fun t174 => ((tr_ahead.f l0_0 a0_1 a0_2 a0_3 1 0 a1).bind fun t175 => ((tr_passed.f (wrap64 (t174 - 0)) (wrap64 (t175 - 0))).bind fun t176 => (some t176))))) = some r := h
 clear h
 by_cases c4 : a2 = true
 ·subst c4
  have H1 : ((tr_ahead.f l0_0 a0_1 a0_2 a0_3 1 0 (wrap64 (a1 - 1))).bind fun t171 => ((tr_ahead.f l0_0 a0_1 a0_2 a0_3 1 0 a1).bind fun t172 => ((tr_passed.f (wrap64 (t171 - 10800)) (wrap64 (t172 - 10800))).bind fun t173 => (some t173)))) = some r := by rw [if_pos rfl] at H; exact H
  clear H; have H := H1; clear H1; replace H := Option.bind_eq_some_iff.mp H; obtain ⟨t171, A50, H⟩ := H
  replace H : ((tr_ahead.f l0_0 a0_1 a0_2 a0_3 1 0 a1).bind fun t172 => ((tr_passed.f (wrap64 (t171 - 10800)) (wrap64 (t172 - 10800))).bind fun t173 => (some t173))) = some r := H
  have A5 := A0_ A50; clear A50; replace H := Option.bind_eq_some_iff.mp H; obtain ⟨t172, A60, H⟩ := H
  replace H : ((tr_passed.f (wrap64 (t171 - 10800)) (wrap64 (t172 - 10800))).bind fun t173 => (some t173)) = some r := H
  have A6 := A0_ A60; clear A60; replace H := Option.bind_eq_some_iff.mp H; obtain ⟨t173, A70, H⟩ := H
  replace H : (some t173) = some r := H
  have A7 := A0_ A70; clear A70; obtain rfl := Option.some.inj H
  go_enter Tryz.func57, Tryz.ntmps57
  try go_wp2_with (first | ((with_reducible refine gate_dst (N := 3) rfl ?_); refine box_event ?hg (N := 3) ?hd (cs := #[.slice A0_0 l0_0.length c0_0, .int .i64 a0_1, .int .i64 a0_2, .int .i64 a0_3]) (t := 28) ?hr ?_; (case hd => rfl); (case hg => rfl); (case hr => first | (go_simp; done) | (go_simp; rfl)); intro gb170 hg w8 hbox hb; have n0_ := A0_ (below_step y0_ hb); have n1_ := A0_ (hbox); have n2_ := A0_ ((by rw [hg]; exact (below_size y0_) : w.heap.size ≤ gb170)); have n3_ := A0_ ((by rw [hg]; exact (below_size y0_) : w.heap.size ≤ gb170)); clear HB; have HB := n0_; have BK170 := n1_; have GW170 := n2_; have GE170 := n3_; clear n0_ n1_ n2_ n3_; clear hb hbox hg))
  have n0_ := A0_ (blk_drew BK170.out); have n1_ := A0_ (below_drew1 HB.out); clear BK170; clear HB; have BK170 := n0_; have HB := n1_; clear n0_ n1_
  refine start_ (n := 13) (S := fun w' => w'.cell? ⟨gb170, 0, none⟩ = some (.slice A0_0 l0_0.length c0_0) ∧ w'.cell? ⟨gb170, 1, none⟩ = some (.int .i64 a0_1) ∧ w'.cell? ⟨gb170, 2, none⟩ = some (.int .i64 a0_2) ∧ w'.cell? ⟨gb170, 3, none⟩ = some (.int .i64 a0_3)) (ds := []) #[false, false, false, false, false, false, false, false, false, false, false, false, false] (by kernel_rfl) rfl rfl ⟨(blk_cell BK170.out 0).trans rfl, (blk_cell BK170.out 1).trans rfl, (blk_cell BK170.out 2).trans rfl, (blk_cell BK170.out 3).trans rfl⟩ (fun hHeld => ?_); refine with_tabW tr_Moon.tab4 tr_Moon.bits4 (fun HT_ HW_ => ?_)
  generalize w8.drew = w9 at BK170 HB hHeld ⊢
  refine pu_ (i := 1) (N := some 10) ?_; refine pu_ (i := 2) (N := some 11) ?_; refine pu_ (i := 4) (N := some 13) ?_; refine pu_ (i := 7) (N := some 16) ?_; refine pu_ (i := 9) (N := some 18) ?_; refine ta_ (i := 0) (N := some 9) ?_; refine ta_ (i := 6) (N := some 15) ?_
  refine one_ (i := 3) (N := some 12) #[true, true, true, true, true, false, true, true, false, true, false, false, false] rfl rfl (one_of HT_.out (by kernel_rfl)) (by decide) (fun K hK => ?_)
  refine goes_ Tryz.func103 (by kernel_rfl) rfl #[.agg #[.slice A0_0 l0_0.length c0_0, .int .i64 a0_1, .int .i64 a0_2, .int .i64 a0_3], .int .i64 1, .int .i64 0, .int .i64 (wrap64 (a1 - 1))] (by rfl) rfl rfl y25_ ?_
  with_reducible refine (tr_ahead.calls _ _ l0_0 a0_1 a0_2 a0_3 1 0 (wrap64 (a1 - 1)) t171 _ ?side1 ?side2 A5.out).mono ?_
  (case side1 => repeat (first | exact (Kd.C_below HR0_0.out HB.out) | (with_reducible refine Kd.C_alloc ?_ _) | (with_reducible refine Kd.C_drewN ?_ _) | (with_reducible refine Kd.C_drew ?_)))
  (case side2 => exact HC0_0.out)
  rintro e w10 ⟨rfl, hb⟩
  refine ⟨_, rfl, ?_⟩
  have n0_ := A0_ (blk_below (g := gb170) (o := .cells #[.slice A0_0 l0_0.length c0_0, .int .i64 a0_1, .int .i64 a0_2, .int .i64 a0_3] 28 (0, 0)) (bd_ BK170.out) hb); have n1_ := A0_ (below_step y28_ hb); clear BK170; clear HB; have BK170 := n0_; have HB := n1_; clear n0_ n1_; (try clear hb); (try clear hb2); (try clear hk); (try clear hi)
  refine hK.out _ _ ⟨(blk_cell BK170.out 0).trans rfl, (blk_cell BK170.out 1).trans rfl, (blk_cell BK170.out 2).trans rfl, (blk_cell BK170.out 3).trans rfl⟩ (fun hHeld => ?_)
  clear hK K
  refine norm_ (a' := ?_) ?_ ?_
  rotate_left
  ·show Act.put _ (some 12) _ = _
   simp only [Act.put, List.setIfInBounds_toArray, List.set_cons_zero, List.set_cons_succ, i64_w, i32_w]
   rfl
  refine pu_ (i := 5) (N := some 14) ?_
  refine one_ (i := 8) (N := some 17) #[true, true, true, true, true, true, true, true, true, true, false, false, false] rfl rfl (one_of HT_.out (by kernel_rfl)) (by decide) (fun K hK => ?_)
  refine goes_ Tryz.func103 (by kernel_rfl) rfl #[.agg #[.slice A0_0 l0_0.length c0_0, .int .i64 a0_1, .int .i64 a0_2, .int .i64 a0_3], .int .i64 1, .int .i64 0, .int .i64 a1] (by rfl) rfl rfl y25_ ?_
  with_reducible refine (tr_ahead.calls _ _ l0_0 a0_1 a0_2 a0_3 1 0 a1 t172 _ ?side1 ?side2 A6.out).mono ?_
  (case side1 => repeat (first | exact (Kd.C_below HR0_0.out HB.out) | (with_reducible refine Kd.C_alloc ?_ _) | (with_reducible refine Kd.C_drewN ?_ _) | (with_reducible refine Kd.C_drew ?_)))
  (case side2 => exact HC0_0.out)
  rintro e w11 ⟨rfl, hb⟩
  refine ⟨_, rfl, ?_⟩
  have n0_ := A0_ (blk_below (g := gb170) (o := .cells #[.slice A0_0 l0_0.length c0_0, .int .i64 a0_1, .int .i64 a0_2, .int .i64 a0_3] 28 (0, 0)) (bd_ BK170.out) hb); have n1_ := A0_ (below_step y28_ hb); clear BK170; clear HB; have BK170 := n0_; have HB := n1_; clear n0_ n1_; (try clear hb); (try clear hb2); (try clear hk); (try clear hi)
  refine hK.out _ _ ⟨(blk_cell BK170.out 0).trans rfl, (blk_cell BK170.out 1).trans rfl, (blk_cell BK170.out 2).trans rfl, (blk_cell BK170.out 3).trans rfl⟩ (fun hHeld => ?_)
  clear hK K
  refine norm_ (a' := ?_) ?_ ?_
  rotate_left
  ·show Act.put _ (some 17) _ = _
   simp only [Act.put, List.setIfInBounds_toArray, List.set_cons_zero, List.set_cons_succ, i64_w, i32_w]
   rfl
  refine pu_ (i := 10) (N := some 19) ?_
  refine one_ (i := 11) (N := some 20) #[true, true, true, true, true, true, true, true, true, true, true, true, false] rfl rfl (one_of HT_.out (by kernel_rfl)) (by decide) (fun K hK => ?_)
  refine goes_ Tryz.func102 (by kernel_rfl) rfl #[.int .i64 (wrap64 (t171 - 10800)), .int .i64 (wrap64 (t172 - 10800))] (by rfl) rfl rfl y25_ ?_
  with_reducible refine (tr_passed.calls (wrap64 (t171 - 10800)) (wrap64 (t172 - 10800)) t173 _ A7.out).mono ?_
  rintro e w' ⟨rfl, ⟨nd, rfl⟩⟩
  refine ⟨_, rfl, ?_⟩
  refine hK.out _ _ ⟨(blk_cell BK170.out 0).trans rfl, (blk_cell BK170.out 1).trans rfl, (blk_cell BK170.out 2).trans rfl, (blk_cell BK170.out 3).trans rfl⟩ (fun hHeld => ?_)
  clear hK K
  refine norm_ (a' := ?_) ?_ ?_
  rotate_left
  ·show Act.put _ (some 20) _ = _
   simp only [Act.put, List.setIfInBounds_toArray, List.set_cons_zero, List.set_cons_succ, i64_w, i32_w]
   rfl
  refine pu_ (i := 12) (N := some 6) ?_
  refine done_ (done_of HT_.out (by kernel_rfl)) ?_
  try go_wp2
  go_ret
  exact ⟨y2_, y28_⟩
 ·replace c4 := Bool.eq_false_iff.mpr c4; subst c4
  have H1 : ((tr_ahead.f l0_0 a0_1 a0_2 a0_3 1 0 (wrap64 (a1 - 1))).bind fun t174 => ((tr_ahead.f l0_0 a0_1 a0_2 a0_3 1 0 a1).bind fun t175 => ((tr_passed.f (wrap64 (t174 - 0)) (wrap64 (t175 - 0))).bind fun t176 => (some t176)))) = some r := by rw [if_neg (show ¬ (false = true) by decide)] at H; exact H
  clear H; have H := H1; clear H1; replace H := Option.bind_eq_some_iff.mp H; obtain ⟨t174, A120, H⟩ := H
  replace H : ((tr_ahead.f l0_0 a0_1 a0_2 a0_3 1 0 a1).bind fun t175 => ((tr_passed.f (wrap64 (t174 - 0)) (wrap64 (t175 - 0))).bind fun t176 => (some t176))) = some r := H
  have A12 := A0_ A120; clear A120; replace H := Option.bind_eq_some_iff.mp H; obtain ⟨t175, A130, H⟩ := H
  replace H : ((tr_passed.f (wrap64 (t174 - 0)) (wrap64 (t175 - 0))).bind fun t176 => (some t176)) = some r := H
  have A13 := A0_ A130; clear A130; replace H := Option.bind_eq_some_iff.mp H; obtain ⟨t176, A140, H⟩ := H
  replace H : (some t176) = some r := H
  have A14 := A0_ A140; clear A140; obtain rfl := Option.some.inj H
  go_enter Tryz.func57, Tryz.ntmps57
  try go_wp2_with (first | ((with_reducible refine gate_dst (N := 3) rfl ?_); refine box_event ?hg (N := 3) ?hd (cs := #[.slice A0_0 l0_0.length c0_0, .int .i64 a0_1, .int .i64 a0_2, .int .i64 a0_3]) (t := 28) ?hr ?_; (case hd => rfl); (case hg => rfl); (case hr => first | (go_simp; done) | (go_simp; rfl)); intro gb170 hg w15 hbox hb; have n0_ := A0_ (below_step y0_ hb); have n1_ := A0_ (hbox); have n2_ := A0_ ((by rw [hg]; exact (below_size y0_) : w.heap.size ≤ gb170)); have n3_ := A0_ ((by rw [hg]; exact (below_size y0_) : w.heap.size ≤ gb170)); clear HB; have HB := n0_; have BK170 := n1_; have GW170 := n2_; have GE170 := n3_; clear n0_ n1_ n2_ n3_; clear hb hbox hg))
  have n0_ := A0_ (blk_drew BK170.out); have n1_ := A0_ (below_drew1 HB.out); clear BK170; clear HB; have BK170 := n0_; have HB := n1_; clear n0_ n1_
  refine start_ (n := 13) (S := fun w' => w'.cell? ⟨gb170, 0, none⟩ = some (.slice A0_0 l0_0.length c0_0) ∧ w'.cell? ⟨gb170, 1, none⟩ = some (.int .i64 a0_1) ∧ w'.cell? ⟨gb170, 2, none⟩ = some (.int .i64 a0_2) ∧ w'.cell? ⟨gb170, 3, none⟩ = some (.int .i64 a0_3)) (ds := []) #[false, false, false, false, false, false, false, false, false, false, false, false, false] (by kernel_rfl) rfl rfl ⟨(blk_cell BK170.out 0).trans rfl, (blk_cell BK170.out 1).trans rfl, (blk_cell BK170.out 2).trans rfl, (blk_cell BK170.out 3).trans rfl⟩ (fun hHeld => ?_); refine with_tabW tr_Moon.tab4 tr_Moon.bits4 (fun HT_ HW_ => ?_)
  generalize w15.drew = w16 at BK170 HB hHeld ⊢
  refine pu_ (i := 1) (N := some 10) ?_; refine pu_ (i := 2) (N := some 11) ?_; refine pu_ (i := 4) (N := some 13) ?_; refine pu_ (i := 7) (N := some 16) ?_; refine pu_ (i := 9) (N := some 18) ?_; refine ta_ (i := 0) (N := some 9) ?_; refine ta_ (i := 6) (N := some 15) ?_
  refine one_ (i := 3) (N := some 12) #[true, true, true, true, true, false, true, true, false, true, false, false, false] rfl rfl (one_of HT_.out (by kernel_rfl)) (by decide) (fun K hK => ?_)
  refine goes_ Tryz.func103 (by kernel_rfl) rfl #[.agg #[.slice A0_0 l0_0.length c0_0, .int .i64 a0_1, .int .i64 a0_2, .int .i64 a0_3], .int .i64 1, .int .i64 0, .int .i64 (wrap64 (a1 - 1))] (by rfl) rfl rfl y25_ ?_
  with_reducible refine (tr_ahead.calls _ _ l0_0 a0_1 a0_2 a0_3 1 0 (wrap64 (a1 - 1)) t174 _ ?side1 ?side2 A12.out).mono ?_
  (case side1 => repeat (first | exact (Kd.C_below HR0_0.out HB.out) | (with_reducible refine Kd.C_alloc ?_ _) | (with_reducible refine Kd.C_drewN ?_ _) | (with_reducible refine Kd.C_drew ?_)))
  (case side2 => exact HC0_0.out)
  rintro e w17 ⟨rfl, hb⟩
  refine ⟨_, rfl, ?_⟩
  have n0_ := A0_ (blk_below (g := gb170) (o := .cells #[.slice A0_0 l0_0.length c0_0, .int .i64 a0_1, .int .i64 a0_2, .int .i64 a0_3] 28 (0, 0)) (bd_ BK170.out) hb); have n1_ := A0_ (below_step y28_ hb); clear BK170; clear HB; have BK170 := n0_; have HB := n1_; clear n0_ n1_; (try clear hb); (try clear hb2); (try clear hk); (try clear hi)
  refine hK.out _ _ ⟨(blk_cell BK170.out 0).trans rfl, (blk_cell BK170.out 1).trans rfl, (blk_cell BK170.out 2).trans rfl, (blk_cell BK170.out 3).trans rfl⟩ (fun hHeld => ?_)
  clear hK K
  refine norm_ (a' := ?_) ?_ ?_
  rotate_left
  ·show Act.put _ (some 12) _ = _
   simp only [Act.put, List.setIfInBounds_toArray, List.set_cons_zero, List.set_cons_succ, i64_w, i32_w]
   rfl
  refine pu_ (i := 5) (N := some 14) ?_
  refine one_ (i := 8) (N := some 17) #[true, true, true, true, true, true, true, true, true, true, false, false, false] rfl rfl (one_of HT_.out (by kernel_rfl)) (by decide) (fun K hK => ?_)
  refine goes_ Tryz.func103 (by kernel_rfl) rfl #[.agg #[.slice A0_0 l0_0.length c0_0, .int .i64 a0_1, .int .i64 a0_2, .int .i64 a0_3], .int .i64 1, .int .i64 0, .int .i64 a1] (by rfl) rfl rfl y25_ ?_
  with_reducible refine (tr_ahead.calls _ _ l0_0 a0_1 a0_2 a0_3 1 0 a1 t175 _ ?side1 ?side2 A13.out).mono ?_
  (case side1 => repeat (first | exact (Kd.C_below HR0_0.out HB.out) | (with_reducible refine Kd.C_alloc ?_ _) | (with_reducible refine Kd.C_drewN ?_ _) | (with_reducible refine Kd.C_drew ?_)))
  (case side2 => exact HC0_0.out)
  rintro e w18 ⟨rfl, hb⟩
  refine ⟨_, rfl, ?_⟩
  have n0_ := A0_ (blk_below (g := gb170) (o := .cells #[.slice A0_0 l0_0.length c0_0, .int .i64 a0_1, .int .i64 a0_2, .int .i64 a0_3] 28 (0, 0)) (bd_ BK170.out) hb); have n1_ := A0_ (below_step y28_ hb); clear BK170; clear HB; have BK170 := n0_; have HB := n1_; clear n0_ n1_; (try clear hb); (try clear hb2); (try clear hk); (try clear hi)
  refine hK.out _ _ ⟨(blk_cell BK170.out 0).trans rfl, (blk_cell BK170.out 1).trans rfl, (blk_cell BK170.out 2).trans rfl, (blk_cell BK170.out 3).trans rfl⟩ (fun hHeld => ?_)
  clear hK K
  refine norm_ (a' := ?_) ?_ ?_
  rotate_left
  ·show Act.put _ (some 17) _ = _
   simp only [Act.put, List.setIfInBounds_toArray, List.set_cons_zero, List.set_cons_succ, i64_w, i32_w]
   rfl
  refine pu_ (i := 10) (N := some 19) ?_
  refine one_ (i := 11) (N := some 20) #[true, true, true, true, true, true, true, true, true, true, true, true, false] rfl rfl (one_of HT_.out (by kernel_rfl)) (by decide) (fun K hK => ?_)
  refine goes_ Tryz.func102 (by kernel_rfl) rfl #[.int .i64 (wrap64 (t174 - 0)), .int .i64 (wrap64 (t175 - 0))] (by rfl) rfl rfl y25_ ?_
  with_reducible refine (tr_passed.calls (wrap64 (t174 - 0)) (wrap64 (t175 - 0)) t176 _ A14.out).mono ?_
  rintro e w' ⟨rfl, ⟨nd, rfl⟩⟩
  refine ⟨_, rfl, ?_⟩
  refine hK.out _ _ ⟨(blk_cell BK170.out 0).trans rfl, (blk_cell BK170.out 1).trans rfl, (blk_cell BK170.out 2).trans rfl, (blk_cell BK170.out 3).trans rfl⟩ (fun hHeld => ?_)
  clear hK K
  refine norm_ (a' := ?_) ?_ ?_
  rotate_left
  ·show Act.put _ (some 20) _ = _
   simp only [Act.put, List.setIfInBounds_toArray, List.set_cons_zero, List.set_cons_succ, i64_w, i32_w]
   rfl
  refine pu_ (i := 12) (N := some 6) ?_
  refine done_ (done_of HT_.out (by kernel_rfl)) ?_
  try go_wp2
  go_ret
  exact ⟨y2_, y28_⟩
def tr_Moons.l0 : Nat → Int → List (S51) → Int → List (S83) → Int → Int → Int → Option ((List (S51)))
 | 0, _, _, _, _, _, _, _ => none
 | k + 1, x2, x7, x8, x178000, x178001, x178002, x178003 => if x8 ≤ x2 then ((tr_Moon.f x178000 x178001 x178002 x178003 x8 false).bind fun t178 => (if t178 = true then (if x7.length < 8796093022208 then ((some (x7 ++ [(⟨x8, false⟩ : S51)] : List (S51))).bind fun y179 => ((tr_Moon.f x178000 x178001 x178002 x178003 x8 true).bind fun t182 => (if t182 = true then (if y179.length < 8796093022208 then (tr_Moons.l0 k x2 (y179 ++ [(⟨x8, true⟩ : S51)]) (wrap64 (x8 + 1)) x178000 x178001 x178002 x178003) else (none)) else (tr_Moons.l0 k x2 y179 (wrap64 (x8 + 1)) x178000 x178001 x178002 x178003)))) else (none)) else ((tr_Moon.f x178000 x178001 x178002 x178003 x8 true).bind fun t186 => (if t186 = true then (if x7.length < 8796093022208 then (tr_Moons.l0 k x2 (x7 ++ [(⟨x8, true⟩ : S51)]) (wrap64 (x8 + 1)) x178000 x178001 x178002 x178003) else (none)) else (tr_Moons.l0 k x2 x7 (wrap64 (x8 + 1)) x178000 x178001 x178002 x178003))))) else (some x7)
def tr_Moons.f (k : Nat) (l0_0 : List (S83)) (a0_1 : Int) (a0_2 : Int) (a0_3 : Int) (a1 : Int) (a2 : Int) : Option ((List (S51))) := tr_Moons.l0 k a2 ([] : List (S51)) a1 l0_0 a0_1 a0_2 a0_3
set_option maxHeartbeats 8000000 in
set_option maxRecDepth 100000 in
theorem tr_Moons.calls (k : Nat) (A0_0 : Option Addr) (c0_0 : Nat) (l0_0 : List (S83)) (a0_1 : Int) (a0_2 : Int) (a0_3 : Int) (a1 : Int) (a2 : Int) (r : List (S51)) (w : World) (hr0_0 : Kd.C k83 w A0_0 l0_0.length l0_0) (hc0_0 : l0_0.length ≤ c0_0) (h : tr_Moons.f k l0_0 a0_1 a0_2 a0_3 a1 a2 = some r) :
  Calls Tryz.prog 16 #[.agg #[.slice A0_0 l0_0.length c0_0, .int .i64 a0_1, .int .i64 a0_2, .int .i64 a0_3], .int .i64 a1, .int .i64 a2] w fun e w' => ∃ v0_ : Value, e = .returned (v0_) ∧ Kd.R k51 51 w' w.heap.size (fun _ => True) v0_ r ∧ Below w.heap.size w w' := by
 have hu28 := Tryz.underlying28
 have hu51 := Tryz.underlying51
 have HR0_0 := A0_ hr0_0; have HC0_0 := A0_ hc0_0; clear hr0_0 hc0_0
 have HB := A0_ (Below.refl w.heap.size w)
 have H : (tr_Moons.l0 k a2 ([] : List (S51)) a1 l0_0 a0_1 a0_2 a0_3) = some r := h
 clear h
 have H' := A0_ H
 clear H
 go_enter Tryz.func16, Tryz.ntmps16
 go_wp2_with (first | ((with_reducible refine gate_dst (N := 3) rfl ?_); refine box_event ?hg (N := 3) ?hd (cs := #[.slice A0_0 l0_0.length c0_0, .int .i64 a0_1, .int .i64 a0_2, .int .i64 a0_3]) (t := 28) ?hr ?_; (case hd => rfl); (case hg => rfl); (case hr => first | (go_simp; done) | (go_simp; rfl)); intro gb177 hg w4 hbox hb; have n0_ := A0_ (below_step y0_ hb); have n1_ := A0_ (hbox); have n2_ := A0_ ((by rw [hg]; exact (below_size y0_) : w.heap.size ≤ gb177)); have n3_ := A0_ ((by rw [hg]; exact (below_size y0_) : w.heap.size ≤ gb177)); clear HB; have HB := n0_; have BK177 := n1_; have GW177 := n2_; have GE177 := n3_; clear n0_ n1_ n2_ n3_; clear hb hbox hg))
 go_loopg [7, 8] k (fun kq v7 v8 w' => ∃ (x7_1 : List (S51)) (x8_1 : Int), v8 = .int .i64 x8_1 ∧ Aside0 (tr_Moons.l0 kq a2 x7_1 x8_1 l0_0 a0_1 a0_2 a0_3 = some r) ∧ Aside0 (kq ≤ k) ∧ Aside0 (Kd.R k51 51 w' w.heap.size (fun _ => True) v7 x7_1) ∧ Aside0 (w'.heap[gb177]? = some (.cells #[(.slice A0_0 l0_0.length c0_0), .int .i64 a0_1, .int .i64 a0_2, .int .i64 a0_3] 28 (0, 0))) ∧ Aside0 (Below w.heap.size w w'))
 case atStart => exact ⟨(([] : List (S51))), (a1), y3_, H', ⟨Nat.le_refl _⟩, ⟨by first | exact Kd.R_nil _ _ _ _ _ | exact Kd.N_nil _ _ _ _ _ | exact Kd.V_nil _ _ _ _ _ | exact Kd.Q_nil _ _ _ _ _ | exact Kd.S_nil _ _ _ _ _⟩, ⟨by (with_reducible repeat (first | refine blk_drewN ?_ _ | refine blk_drew ?_ | refine blk_alloc ?_ _)); exact BK177.out⟩, ⟨yb_⟩⟩
 case round =>
  clear H'
  (try clear c1); (try clear p2)
  obtain ⟨x7_1, x8_1, rfl, HA, HK1, HO_7, BK177, HB⟩ := hrel
  cases gk with
  | zero => exact absurd HA.out (by simp [tr_Moons.l0])
  | succ k1 =>
   have H := HA.out
   clear HA
   simp only [tr_Moons.l0] at H
   by_cases c5 : x8_1 ≤ a2
   ·rw [if_pos c5] at H; have c5b0 : decide (x8_1 ≤ a2) = true := decide_eq_true c5; clear c5; replace H := Option.bind_eq_some_iff.mp H; obtain ⟨t178, A60, H⟩ := H
    replace H : (if t178 = true then (if x7_1.length < 8796093022208 then ((some (x7_1 ++ [(⟨x8_1, false⟩ : S51)] : List (S51))).bind fun y179 => ((tr_Moon.f l0_0 a0_1 a0_2 a0_3 x8_1 true).bind fun t182 => (if t182 = true then (if y179.length < 8796093022208 then (tr_Moons.l0 k1 a2 (y179 ++ [(⟨x8_1, true⟩ : S51)]) (wrap64 (x8_1 + 1)) l0_0 a0_1 a0_2 a0_3) else (none)) else (tr_Moons.l0 k1 a2 y179 (wrap64 (x8_1 + 1)) l0_0 a0_1 a0_2 a0_3)))) else (none)) else ((tr_Moon.f l0_0 a0_1 a0_2 a0_3 x8_1 true).bind fun t186 => (if t186 = true then (if x7_1.length < 8796093022208 then (tr_Moons.l0 k1 a2 (x7_1 ++ [(⟨x8_1, true⟩ : S51)]) (wrap64 (x8_1 + 1)) l0_0 a0_1 a0_2 a0_3) else (none)) else (tr_Moons.l0 k1 a2 x7_1 (wrap64 (x8_1 + 1)) l0_0 a0_1 a0_2 a0_3)))) = some r := H
    have A6 := A0_ A60; clear A60
    by_cases c7 : t178 = true
    ·subst c7
     have H1 : (if x7_1.length < 8796093022208 then ((some (x7_1 ++ [(⟨x8_1, false⟩ : S51)] : List (S51))).bind fun y179 => ((tr_Moon.f l0_0 a0_1 a0_2 a0_3 x8_1 true).bind fun t182 => (if t182 = true then (if y179.length < 8796093022208 then (tr_Moons.l0 k1 a2 (y179 ++ [(⟨x8_1, true⟩ : S51)]) (wrap64 (x8_1 + 1)) l0_0 a0_1 a0_2 a0_3) else (none)) else (tr_Moons.l0 k1 a2 y179 (wrap64 (x8_1 + 1)) l0_0 a0_1 a0_2 a0_3)))) else (none)) = some r := by rw [if_pos rfl] at H; exact H
     clear H; have H := H1; clear H1
     by_cases c8 : x7_1.length < 8796093022208
     ·rw [if_pos c8] at H; have LMc8 := A0_ c8; clear c8
      obtain ⟨y179, hy179⟩ : ∃ y_ : List (S51), y_ = (x7_1 ++ [(⟨x8_1, false⟩ : S51)]) := ⟨_, rfl⟩
      replace H : ((tr_Moon.f l0_0 a0_1 a0_2 a0_3 x8_1 true).bind fun t182 => (if t182 = true then (if y179.length < 8796093022208 then (tr_Moons.l0 k1 a2 (y179 ++ [(⟨x8_1, true⟩ : S51)]) (wrap64 (x8_1 + 1)) l0_0 a0_1 a0_2 a0_3) else (none)) else (tr_Moons.l0 k1 a2 y179 (wrap64 (x8_1 + 1)) l0_0 a0_1 a0_2 a0_3))) = some r := by first | (rw [hy179]; with_reducible exact H) | (have H2_ := (Option.bind_some _ _).symm.trans H; rw [hy179]; with_reducible exact H2_) | (have H2_ := (Option.bind_some _ _).symm.trans H; with_reducible exact H2_) | with_reducible exact H | (rw [hy179]; exact H) | exact H
      have Ny179 := A0_ hy179; clear hy179; replace H := Option.bind_eq_some_iff.mp H; obtain ⟨t182, A90, H⟩ := H
      replace H : (if t182 = true then (if y179.length < 8796093022208 then (tr_Moons.l0 k1 a2 (y179 ++ [(⟨x8_1, true⟩ : S51)]) (wrap64 (x8_1 + 1)) l0_0 a0_1 a0_2 a0_3) else (none)) else (tr_Moons.l0 k1 a2 y179 (wrap64 (x8_1 + 1)) l0_0 a0_1 a0_2 a0_3)) = some r := H
      have A9 := A0_ A90; clear A90
      by_cases c10 : t182 = true
      ·subst c10
       have H1 : (if y179.length < 8796093022208 then (tr_Moons.l0 k1 a2 (y179 ++ [(⟨x8_1, true⟩ : S51)]) (wrap64 (x8_1 + 1)) l0_0 a0_1 a0_2 a0_3) else (none)) = some r := by rw [if_pos rfl] at H; exact H
       clear H; have H := H1; clear H1
       by_cases c11 : y179.length < 8796093022208
       ·rw [if_pos c11] at H; have LMc11 := A0_ c11; clear c11
        obtain ⟨y183, hy183⟩ : ∃ y_ : List (S51), y_ = (y179 ++ [(⟨x8_1, true⟩ : S51)]) := ⟨_, rfl⟩
        replace H : (tr_Moons.l0 k1 a2 y183 (wrap64 (x8_1 + 1)) l0_0 a0_1 a0_2 a0_3) = some r := by first | (rw [hy183]; with_reducible exact H) | (have H2_ := (Option.bind_some _ _).symm.trans H; rw [hy183]; with_reducible exact H2_) | (have H2_ := (Option.bind_some _ _).symm.trans H; with_reducible exact H2_) | with_reducible exact H | (rw [hy183]; exact H) | exact H
        have Ny183 := A0_ hy183; clear hy183
        have H' := A0_ H
        clear H; obtain ⟨hcz12_0, hcz12_1, hcz12_2, hcz12_3, hfz12_0, hfz12_1, hfz12_2, hfz12_3⟩ := bq4_ BK177.out
        go_wp2_with (first | ((with_reducible refine gate_callee (f := 57) rfl ?_); refine goesL_ (some 17) rfl rfl Tryz.func57 (by kernel_rfl) rfl #[.agg #[.slice A0_0 l0_0.length c0_0, .int .i64 a0_1, .int .i64 a0_2, .int .i64 a0_3], .int .i64 x8_1, .bool false] rfl y1_ ?_; (with_reducible refine (tr_Moon.calls _ _ l0_0 a0_1 a0_2 a0_3 x8_1 false true _ ?side1 ?side2 A6.out).mono ?_); (case side1 => repeat (first | exact (Kd.C_below HR0_0.out HB.out) | (with_reducible refine Kd.C_alloc ?_ _) | (with_reducible refine Kd.C_drewN ?_ _) | (with_reducible refine Kd.C_drew ?_))); (case side2 => exact HC0_0.out); rintro e w13 ⟨rfl, hb⟩; refine ⟨_, rfl, ?_⟩; have n0_ := A0_ (Kd.R_below (rd_ HO_7.out) hb); have n1_ := A0_ (blk_below (g := gb177) (o := .cells #[.slice A0_0 l0_0.length c0_0, .int .i64 a0_1, .int .i64 a0_2, .int .i64 a0_3] 28 (0, 0)) (bd_ BK177.out) hb); have n2_ := A0_ (below_step yb_ hb); clear HO_7; clear BK177; clear HB; have HO_7 := n0_; have BK177 := n1_; have HB := n2_; clear n0_ n1_ n2_; (try clear hb); (try clear hb2); (try clear hk); (try clear hi)) | ((with_reducible refine gate_builtin (b := .append) (xs := #[.tmp 18, .tmp 21]) rfl ?_); at_builtin; refine Kd.R_append k51 (w0 := w) w.heap.size rfl (.tmp 18) (.tmp 21) 31 51 (.agg #[(.int .i64 0), (.bool false)]) 16 rfl Tryz.underlying31 info51 rfl (by decide) (by omega) u7 x7_1 (⟨x8_1, false⟩ : S51) [.int .i64 x8_1, .bool false] (fun _ => True) (fun _ => False) rfl rfl ?aP (fun _ hk => hk.elim) ?aF ?aO ?aB ?aS ?aL ?_; (case aP => exact k51_mkM _ _ _ (⟨x8_1, false⟩ : S51)); (case aB => exact yb_); (case aF => exact (fun _ _ => trivial)); (case aO => exact (rd_ HO_7.out)); (case aS => exact (below_size yb_)); (case aL => have := LMc8.out; omega); intro v180 w14 ho hb hg hat; rw [← Ny179.out] at ho; have n0_ := A0_ (blk_grown (g := gb177) (o := .cells #[.slice A0_0 l0_0.length c0_0, .int .i64 a0_1, .int .i64 a0_2, .int .i64 a0_3] 28 (0, 0)) (bd_ BK177.out) hg (Kd.R_ne HO_7.out BK177.out (by decide))); have n1_ := A0_ (hb); have n2_ := A0_ (ho); clear BK177; clear HB; clear HO_7; have BK177 := n0_; have HB := n1_; have HO181 := n2_; clear n0_ n1_ n2_; clear ho hb hg hat; obtain ⟨hcz15_0, hcz15_1, hcz15_2, hcz15_3, hfz15_0, hfz15_1, hfz15_2, hfz15_3⟩ := bq4_ BK177.out) | ((with_reducible refine gate_callee (f := 57) rfl ?_); refine goesL_ (some 25) rfl rfl Tryz.func57 (by kernel_rfl) rfl #[.agg #[.slice A0_0 l0_0.length c0_0, .int .i64 a0_1, .int .i64 a0_2, .int .i64 a0_3], .int .i64 x8_1, .bool true] rfl y1_ ?_; (with_reducible refine (tr_Moon.calls _ _ l0_0 a0_1 a0_2 a0_3 x8_1 true true _ ?side1 ?side2 A9.out).mono ?_); (case side1 => repeat (first | exact (Kd.C_below HR0_0.out HB.out) | (with_reducible refine Kd.C_alloc ?_ _) | (with_reducible refine Kd.C_drewN ?_ _) | (with_reducible refine Kd.C_drew ?_))); (case side2 => exact HC0_0.out); rintro e w16 ⟨rfl, hb⟩; refine ⟨_, rfl, ?_⟩; have n0_ := A0_ (Kd.R_below (rd_ HO181.out) hb); have n1_ := A0_ (blk_below (g := gb177) (o := .cells #[.slice A0_0 l0_0.length c0_0, .int .i64 a0_1, .int .i64 a0_2, .int .i64 a0_3] 28 (0, 0)) (bd_ BK177.out) hb); have n2_ := A0_ (below_step yb_ hb); clear HO181; clear BK177; clear HB; have HO181 := n0_; have BK177 := n1_; have HB := n2_; clear n0_ n1_ n2_; (try clear hb); (try clear hb2); (try clear hk); (try clear hi)) | ((with_reducible refine gate_builtin (b := .append) (xs := #[.tmp 26, .tmp 29]) rfl ?_); at_builtin; refine Kd.R_append k51 (w0 := w) w.heap.size rfl (.tmp 26) (.tmp 29) 31 51 (.agg #[(.int .i64 0), (.bool false)]) 16 rfl Tryz.underlying31 info51 rfl (by decide) (by omega) v180 y179 (⟨x8_1, true⟩ : S51) [.int .i64 x8_1, .bool true] (fun _ => True) (fun _ => False) rfl rfl ?aP (fun _ hk => hk.elim) ?aF ?aO ?aB ?aS ?aL ?_; (case aP => exact k51_mkM _ _ _ (⟨x8_1, true⟩ : S51)); (case aB => exact yb_); (case aF => exact (fun _ _ => trivial)); (case aO => exact (rd_ HO181.out)); (case aS => exact (below_size yb_)); (case aL => have := LMc11.out; omega); intro v184 w17 ho hb hg hat; rw [← Ny183.out] at ho; have n0_ := A0_ (blk_grown (g := gb177) (o := .cells #[.slice A0_0 l0_0.length c0_0, .int .i64 a0_1, .int .i64 a0_2, .int .i64 a0_3] 28 (0, 0)) (bd_ BK177.out) hg (Kd.R_ne HO181.out BK177.out (by decide))); have n1_ := A0_ (hb); have n2_ := A0_ (ho); clear BK177; clear HB; clear HO181; have BK177 := n0_; have HB := n1_; have HO185 := n2_; clear n0_ n1_ n2_; clear ho hb hg hat))
        go_roundg k1
        case measure => have := HK1.out; omega
        case rel => exact ⟨(y183), (wrap64 (x8_1 + 1)), y3_, H', ⟨by have := HK1.out; omega⟩, ⟨by (with_reducible repeat (first | apply Kd.R_alloc | apply Kd.R_drewN | apply Kd.R_drew)); exact HO185.out⟩, ⟨by (with_reducible repeat (first | refine blk_drewN ?_ _ | refine blk_drew ?_ | refine blk_alloc ?_ _)); exact BK177.out⟩, ⟨yb_⟩⟩
       ·rw [if_neg c11] at H; exact absurd H (by simp)
      ·replace c10 := Bool.eq_false_iff.mpr c10; subst c10
       have H1 : (tr_Moons.l0 k1 a2 y179 (wrap64 (x8_1 + 1)) l0_0 a0_1 a0_2 a0_3) = some r := by rw [if_neg (show ¬ (false = true) by decide)] at H; exact H
       clear H; have H := H1; clear H1
       have H' := A0_ H
       clear H; obtain ⟨hcz18_0, hcz18_1, hcz18_2, hcz18_3, hfz18_0, hfz18_1, hfz18_2, hfz18_3⟩ := bq4_ BK177.out
       go_wp2_with (first | ((with_reducible refine gate_callee (f := 57) rfl ?_); refine goesL_ (some 17) rfl rfl Tryz.func57 (by kernel_rfl) rfl #[.agg #[.slice A0_0 l0_0.length c0_0, .int .i64 a0_1, .int .i64 a0_2, .int .i64 a0_3], .int .i64 x8_1, .bool false] rfl y1_ ?_; (with_reducible refine (tr_Moon.calls _ _ l0_0 a0_1 a0_2 a0_3 x8_1 false true _ ?side1 ?side2 A6.out).mono ?_); (case side1 => repeat (first | exact (Kd.C_below HR0_0.out HB.out) | (with_reducible refine Kd.C_alloc ?_ _) | (with_reducible refine Kd.C_drewN ?_ _) | (with_reducible refine Kd.C_drew ?_))); (case side2 => exact HC0_0.out); rintro e w19 ⟨rfl, hb⟩; refine ⟨_, rfl, ?_⟩; have n0_ := A0_ (Kd.R_below (rd_ HO_7.out) hb); have n1_ := A0_ (blk_below (g := gb177) (o := .cells #[.slice A0_0 l0_0.length c0_0, .int .i64 a0_1, .int .i64 a0_2, .int .i64 a0_3] 28 (0, 0)) (bd_ BK177.out) hb); have n2_ := A0_ (below_step yb_ hb); clear HO_7; clear BK177; clear HB; have HO_7 := n0_; have BK177 := n1_; have HB := n2_; clear n0_ n1_ n2_; (try clear hb); (try clear hb2); (try clear hk); (try clear hi)) | ((with_reducible refine gate_builtin (b := .append) (xs := #[.tmp 18, .tmp 21]) rfl ?_); at_builtin; refine Kd.R_append k51 (w0 := w) w.heap.size rfl (.tmp 18) (.tmp 21) 31 51 (.agg #[(.int .i64 0), (.bool false)]) 16 rfl Tryz.underlying31 info51 rfl (by decide) (by omega) u7 x7_1 (⟨x8_1, false⟩ : S51) [.int .i64 x8_1, .bool false] (fun _ => True) (fun _ => False) rfl rfl ?aP (fun _ hk => hk.elim) ?aF ?aO ?aB ?aS ?aL ?_; (case aP => exact k51_mkM _ _ _ (⟨x8_1, false⟩ : S51)); (case aB => exact yb_); (case aF => exact (fun _ _ => trivial)); (case aO => exact (rd_ HO_7.out)); (case aS => exact (below_size yb_)); (case aL => have := LMc8.out; omega); intro v180 w20 ho hb hg hat; rw [← Ny179.out] at ho; have n0_ := A0_ (blk_grown (g := gb177) (o := .cells #[.slice A0_0 l0_0.length c0_0, .int .i64 a0_1, .int .i64 a0_2, .int .i64 a0_3] 28 (0, 0)) (bd_ BK177.out) hg (Kd.R_ne HO_7.out BK177.out (by decide))); have n1_ := A0_ (hb); have n2_ := A0_ (ho); clear BK177; clear HB; clear HO_7; have BK177 := n0_; have HB := n1_; have HO181 := n2_; clear n0_ n1_ n2_; clear ho hb hg hat; obtain ⟨hcz21_0, hcz21_1, hcz21_2, hcz21_3, hfz21_0, hfz21_1, hfz21_2, hfz21_3⟩ := bq4_ BK177.out) | ((with_reducible refine gate_callee (f := 57) rfl ?_); refine goesL_ (some 25) rfl rfl Tryz.func57 (by kernel_rfl) rfl #[.agg #[.slice A0_0 l0_0.length c0_0, .int .i64 a0_1, .int .i64 a0_2, .int .i64 a0_3], .int .i64 x8_1, .bool true] rfl y1_ ?_; (with_reducible refine (tr_Moon.calls _ _ l0_0 a0_1 a0_2 a0_3 x8_1 true false _ ?side1 ?side2 A9.out).mono ?_); (case side1 => repeat (first | exact (Kd.C_below HR0_0.out HB.out) | (with_reducible refine Kd.C_alloc ?_ _) | (with_reducible refine Kd.C_drewN ?_ _) | (with_reducible refine Kd.C_drew ?_))); (case side2 => exact HC0_0.out); rintro e w22 ⟨rfl, hb⟩; refine ⟨_, rfl, ?_⟩; have n0_ := A0_ (Kd.R_below (rd_ HO181.out) hb); have n1_ := A0_ (blk_below (g := gb177) (o := .cells #[.slice A0_0 l0_0.length c0_0, .int .i64 a0_1, .int .i64 a0_2, .int .i64 a0_3] 28 (0, 0)) (bd_ BK177.out) hb); have n2_ := A0_ (below_step yb_ hb); clear HO181; clear BK177; clear HB; have HO181 := n0_; have BK177 := n1_; have HB := n2_; clear n0_ n1_ n2_; (try clear hb); (try clear hb2); (try clear hk); (try clear hi)))
       go_roundg k1
       case measure => have := HK1.out; omega
       case rel => exact ⟨(y179), (wrap64 (x8_1 + 1)), y3_, H', ⟨by have := HK1.out; omega⟩, ⟨by (with_reducible repeat (first | apply Kd.R_alloc | apply Kd.R_drewN | apply Kd.R_drew)); exact HO181.out⟩, ⟨by (with_reducible repeat (first | refine blk_drewN ?_ _ | refine blk_drew ?_ | refine blk_alloc ?_ _)); exact BK177.out⟩, ⟨yb_⟩⟩
     ·rw [if_neg c8] at H; exact absurd H (by simp)
    ·replace c7 := Bool.eq_false_iff.mpr c7; subst c7
     have H1 : ((tr_Moon.f l0_0 a0_1 a0_2 a0_3 x8_1 true).bind fun t186 => (if t186 = true then (if x7_1.length < 8796093022208 then (tr_Moons.l0 k1 a2 (x7_1 ++ [(⟨x8_1, true⟩ : S51)]) (wrap64 (x8_1 + 1)) l0_0 a0_1 a0_2 a0_3) else (none)) else (tr_Moons.l0 k1 a2 x7_1 (wrap64 (x8_1 + 1)) l0_0 a0_1 a0_2 a0_3))) = some r := by rw [if_neg (show ¬ (false = true) by decide)] at H; exact H
     clear H; have H := H1; clear H1; replace H := Option.bind_eq_some_iff.mp H; obtain ⟨t186, A230, H⟩ := H
     replace H : (if t186 = true then (if x7_1.length < 8796093022208 then (tr_Moons.l0 k1 a2 (x7_1 ++ [(⟨x8_1, true⟩ : S51)]) (wrap64 (x8_1 + 1)) l0_0 a0_1 a0_2 a0_3) else (none)) else (tr_Moons.l0 k1 a2 x7_1 (wrap64 (x8_1 + 1)) l0_0 a0_1 a0_2 a0_3)) = some r := H
     have A23 := A0_ A230; clear A230
     by_cases c24 : t186 = true
     ·subst c24
      have H1 : (if x7_1.length < 8796093022208 then (tr_Moons.l0 k1 a2 (x7_1 ++ [(⟨x8_1, true⟩ : S51)]) (wrap64 (x8_1 + 1)) l0_0 a0_1 a0_2 a0_3) else (none)) = some r := by rw [if_pos rfl] at H; exact H
      clear H; have H := H1; clear H1
      by_cases c25 : x7_1.length < 8796093022208
      ·rw [if_pos c25] at H; have LMc25 := A0_ c25; clear c25
       obtain ⟨y187, hy187⟩ : ∃ y_ : List (S51), y_ = (x7_1 ++ [(⟨x8_1, true⟩ : S51)]) := ⟨_, rfl⟩
       replace H : (tr_Moons.l0 k1 a2 y187 (wrap64 (x8_1 + 1)) l0_0 a0_1 a0_2 a0_3) = some r := by first | (rw [hy187]; with_reducible exact H) | (have H2_ := (Option.bind_some _ _).symm.trans H; rw [hy187]; with_reducible exact H2_) | (have H2_ := (Option.bind_some _ _).symm.trans H; with_reducible exact H2_) | with_reducible exact H | (rw [hy187]; exact H) | exact H
       have Ny187 := A0_ hy187; clear hy187
       have H' := A0_ H
       clear H; obtain ⟨hcz26_0, hcz26_1, hcz26_2, hcz26_3, hfz26_0, hfz26_1, hfz26_2, hfz26_3⟩ := bq4_ BK177.out
       go_wp2_with (first | ((with_reducible refine gate_callee (f := 57) rfl ?_); refine goesL_ (some 17) rfl rfl Tryz.func57 (by kernel_rfl) rfl #[.agg #[.slice A0_0 l0_0.length c0_0, .int .i64 a0_1, .int .i64 a0_2, .int .i64 a0_3], .int .i64 x8_1, .bool false] rfl y1_ ?_; (with_reducible refine (tr_Moon.calls _ _ l0_0 a0_1 a0_2 a0_3 x8_1 false false _ ?side1 ?side2 A6.out).mono ?_); (case side1 => repeat (first | exact (Kd.C_below HR0_0.out HB.out) | (with_reducible refine Kd.C_alloc ?_ _) | (with_reducible refine Kd.C_drewN ?_ _) | (with_reducible refine Kd.C_drew ?_))); (case side2 => exact HC0_0.out); rintro e w27 ⟨rfl, hb⟩; refine ⟨_, rfl, ?_⟩; have n0_ := A0_ (Kd.R_below (rd_ HO_7.out) hb); have n1_ := A0_ (blk_below (g := gb177) (o := .cells #[.slice A0_0 l0_0.length c0_0, .int .i64 a0_1, .int .i64 a0_2, .int .i64 a0_3] 28 (0, 0)) (bd_ BK177.out) hb); have n2_ := A0_ (below_step yb_ hb); clear HO_7; clear BK177; clear HB; have HO_7 := n0_; have BK177 := n1_; have HB := n2_; clear n0_ n1_ n2_; (try clear hb); (try clear hb2); (try clear hk); (try clear hi); obtain ⟨hcz28_0, hcz28_1, hcz28_2, hcz28_3, hfz28_0, hfz28_1, hfz28_2, hfz28_3⟩ := bq4_ BK177.out) | ((with_reducible refine gate_callee (f := 57) rfl ?_); refine goesL_ (some 25) rfl rfl Tryz.func57 (by kernel_rfl) rfl #[.agg #[.slice A0_0 l0_0.length c0_0, .int .i64 a0_1, .int .i64 a0_2, .int .i64 a0_3], .int .i64 x8_1, .bool true] rfl y1_ ?_; (with_reducible refine (tr_Moon.calls _ _ l0_0 a0_1 a0_2 a0_3 x8_1 true true _ ?side1 ?side2 A23.out).mono ?_); (case side1 => repeat (first | exact (Kd.C_below HR0_0.out HB.out) | (with_reducible refine Kd.C_alloc ?_ _) | (with_reducible refine Kd.C_drewN ?_ _) | (with_reducible refine Kd.C_drew ?_))); (case side2 => exact HC0_0.out); rintro e w29 ⟨rfl, hb⟩; refine ⟨_, rfl, ?_⟩; have n0_ := A0_ (Kd.R_below (rd_ HO_7.out) hb); have n1_ := A0_ (blk_below (g := gb177) (o := .cells #[.slice A0_0 l0_0.length c0_0, .int .i64 a0_1, .int .i64 a0_2, .int .i64 a0_3] 28 (0, 0)) (bd_ BK177.out) hb); have n2_ := A0_ (below_step yb_ hb); clear HO_7; clear BK177; clear HB; have HO_7 := n0_; have BK177 := n1_; have HB := n2_; clear n0_ n1_ n2_; (try clear hb); (try clear hb2); (try clear hk); (try clear hi)) | ((with_reducible refine gate_builtin (b := .append) (xs := #[.tmp 26, .tmp 29]) rfl ?_); at_builtin; refine Kd.R_append k51 (w0 := w) w.heap.size rfl (.tmp 26) (.tmp 29) 31 51 (.agg #[(.int .i64 0), (.bool false)]) 16 rfl Tryz.underlying31 info51 rfl (by decide) (by omega) u7 x7_1 (⟨x8_1, true⟩ : S51) [.int .i64 x8_1, .bool true] (fun _ => True) (fun _ => False) rfl rfl ?aP (fun _ hk => hk.elim) ?aF ?aO ?aB ?aS ?aL ?_; (case aP => exact k51_mkM _ _ _ (⟨x8_1, true⟩ : S51)); (case aB => exact yb_); (case aF => exact (fun _ _ => trivial)); (case aO => exact (rd_ HO_7.out)); (case aS => exact (below_size yb_)); (case aL => have := LMc25.out; omega); intro v188 w30 ho hb hg hat; rw [← Ny187.out] at ho; have n0_ := A0_ (blk_grown (g := gb177) (o := .cells #[.slice A0_0 l0_0.length c0_0, .int .i64 a0_1, .int .i64 a0_2, .int .i64 a0_3] 28 (0, 0)) (bd_ BK177.out) hg (Kd.R_ne HO_7.out BK177.out (by decide))); have n1_ := A0_ (hb); have n2_ := A0_ (ho); clear BK177; clear HB; clear HO_7; have BK177 := n0_; have HB := n1_; have HO189 := n2_; clear n0_ n1_ n2_; clear ho hb hg hat))
       go_roundg k1
       case measure => have := HK1.out; omega
       case rel => exact ⟨(y187), (wrap64 (x8_1 + 1)), y3_, H', ⟨by have := HK1.out; omega⟩, ⟨by (with_reducible repeat (first | apply Kd.R_alloc | apply Kd.R_drewN | apply Kd.R_drew)); exact HO189.out⟩, ⟨by (with_reducible repeat (first | refine blk_drewN ?_ _ | refine blk_drew ?_ | refine blk_alloc ?_ _)); exact BK177.out⟩, ⟨yb_⟩⟩
      ·rw [if_neg c25] at H; exact absurd H (by simp)
     ·replace c24 := Bool.eq_false_iff.mpr c24; subst c24
      have H1 : (tr_Moons.l0 k1 a2 x7_1 (wrap64 (x8_1 + 1)) l0_0 a0_1 a0_2 a0_3) = some r := by rw [if_neg (show ¬ (false = true) by decide)] at H; exact H
      clear H; have H := H1; clear H1
      have H' := A0_ H
      clear H; obtain ⟨hcz31_0, hcz31_1, hcz31_2, hcz31_3, hfz31_0, hfz31_1, hfz31_2, hfz31_3⟩ := bq4_ BK177.out
      go_wp2_with (first | ((with_reducible refine gate_callee (f := 57) rfl ?_); refine goesL_ (some 17) rfl rfl Tryz.func57 (by kernel_rfl) rfl #[.agg #[.slice A0_0 l0_0.length c0_0, .int .i64 a0_1, .int .i64 a0_2, .int .i64 a0_3], .int .i64 x8_1, .bool false] rfl y1_ ?_; (with_reducible refine (tr_Moon.calls _ _ l0_0 a0_1 a0_2 a0_3 x8_1 false false _ ?side1 ?side2 A6.out).mono ?_); (case side1 => repeat (first | exact (Kd.C_below HR0_0.out HB.out) | (with_reducible refine Kd.C_alloc ?_ _) | (with_reducible refine Kd.C_drewN ?_ _) | (with_reducible refine Kd.C_drew ?_))); (case side2 => exact HC0_0.out); rintro e w32 ⟨rfl, hb⟩; refine ⟨_, rfl, ?_⟩; have n0_ := A0_ (Kd.R_below (rd_ HO_7.out) hb); have n1_ := A0_ (blk_below (g := gb177) (o := .cells #[.slice A0_0 l0_0.length c0_0, .int .i64 a0_1, .int .i64 a0_2, .int .i64 a0_3] 28 (0, 0)) (bd_ BK177.out) hb); have n2_ := A0_ (below_step yb_ hb); clear HO_7; clear BK177; clear HB; have HO_7 := n0_; have BK177 := n1_; have HB := n2_; clear n0_ n1_ n2_; (try clear hb); (try clear hb2); (try clear hk); (try clear hi); obtain ⟨hcz33_0, hcz33_1, hcz33_2, hcz33_3, hfz33_0, hfz33_1, hfz33_2, hfz33_3⟩ := bq4_ BK177.out) | ((with_reducible refine gate_callee (f := 57) rfl ?_); refine goesL_ (some 25) rfl rfl Tryz.func57 (by kernel_rfl) rfl #[.agg #[.slice A0_0 l0_0.length c0_0, .int .i64 a0_1, .int .i64 a0_2, .int .i64 a0_3], .int .i64 x8_1, .bool true] rfl y1_ ?_; (with_reducible refine (tr_Moon.calls _ _ l0_0 a0_1 a0_2 a0_3 x8_1 true false _ ?side1 ?side2 A23.out).mono ?_); (case side1 => repeat (first | exact (Kd.C_below HR0_0.out HB.out) | (with_reducible refine Kd.C_alloc ?_ _) | (with_reducible refine Kd.C_drewN ?_ _) | (with_reducible refine Kd.C_drew ?_))); (case side2 => exact HC0_0.out); rintro e w34 ⟨rfl, hb⟩; refine ⟨_, rfl, ?_⟩; have n0_ := A0_ (Kd.R_below (rd_ HO_7.out) hb); have n1_ := A0_ (blk_below (g := gb177) (o := .cells #[.slice A0_0 l0_0.length c0_0, .int .i64 a0_1, .int .i64 a0_2, .int .i64 a0_3] 28 (0, 0)) (bd_ BK177.out) hb); have n2_ := A0_ (below_step yb_ hb); clear HO_7; clear BK177; clear HB; have HO_7 := n0_; have BK177 := n1_; have HB := n2_; clear n0_ n1_ n2_; (try clear hb); (try clear hb2); (try clear hk); (try clear hi)))
      go_roundg k1
      case measure => have := HK1.out; omega
      case rel => exact ⟨(x7_1), (wrap64 (x8_1 + 1)), y3_, H', ⟨by have := HK1.out; omega⟩, ⟨by (with_reducible repeat (first | apply Kd.R_alloc | apply Kd.R_drewN | apply Kd.R_drew)); exact HO_7.out⟩, ⟨by (with_reducible repeat (first | refine blk_drewN ?_ _ | refine blk_drew ?_ | refine blk_alloc ?_ _)); exact BK177.out⟩, ⟨yb_⟩⟩
   ·rw [if_neg c5] at H; have c5b0 : decide (x8_1 ≤ a2) = false := decide_eq_false c5; clear c5; obtain rfl := Option.some.inj H; go_wp2; go_ret
    exact ⟨_, y2_, by (with_reducible repeat (first | apply Kd.R_alloc | apply Kd.R_drewN | apply Kd.R_drew)); exact HO_7.out, yb_⟩
end Go.Proofs.YtaidphhkhddemaaGreatDoor.PSky
end
section
namespace Go.Proofs.YtaidphhkhddemaaGreatDoor.PSky
open Go.RowKit Go.Proofs.YtaidphhkhddemaaGreatDoorW.PrintWords Go.Proofs.YtaidphhkhddemaaGreatDoorW.PrintLast Go.Proofs.YtaidphhkhddemaaGreatDoorW.PrintMore
attribute [local go_sem] max2_int min2_int max_two min_two max_three min_three max_four min_four
set_option linter.unusedVariables false
set_option linter.unusedSimpArgs false
def tr_Span.f (a0 : Int) (a1 : Int) : Option (Bool) := (tr_in.f a0 1 20000).bind fun t147 => (if t147 = true then ((tr_in.f a1 a0 20000).bind fun t148 => (if t148 = true then (some (decide ((wrap64 (a1 - a0)) ≤ 800))) else (some false))) else (some false))
set_option maxHeartbeats 8000000 in
set_option maxRecDepth 100000 in
theorem tr_Span.calls (a0 : Int) (a1 : Int) (r : Bool) (w : World) (h : tr_Span.f a0 a1 = some r) :
  Calls Tryz.prog 14 #[.int .i64 a0, .int .i64 a1] w fun e w' => e = .returned (.bool r) ∧ Drawn0 w w' := by
 have H : ((tr_in.f a0 1 20000).bind fun t147 => (if t147 = true then ((tr_in.f a1 a0 20000).bind fun t148 => (if t148 = true then (some (decide ((wrap64 (a1 - a0)) ≤ 800))) else (some false))) else (some false))) = some r := h
 clear h; replace H := Option.bind_eq_some_iff.mp H; obtain ⟨t147, A30, H⟩ := H
 replace H : (if t147 = true then ((tr_in.f a1 a0 20000).bind fun t148 => (if t148 = true then (some (decide ((wrap64 (a1 - a0)) ≤ 800))) else (some false))) else (some false)) = some r := H
 have A3 := A0_ A30; clear A30
 by_cases c4 : t147 = true
 ·subst c4
  have H1 : ((tr_in.f a1 a0 20000).bind fun t148 => (if t148 = true then (some (decide ((wrap64 (a1 - a0)) ≤ 800))) else (some false))) = some r := by rw [if_pos rfl] at H; exact H
  clear H; have H := H1; clear H1; replace H := Option.bind_eq_some_iff.mp H; obtain ⟨t148, A50, H⟩ := H
  replace H : (if t148 = true then (some (decide ((wrap64 (a1 - a0)) ≤ 800))) else (some false)) = some r := H
  have A5 := A0_ A50; clear A50
  by_cases c6 : t148 = true
  ·subst c6
   have H1 : (some (decide ((wrap64 (a1 - a0)) ≤ 800))) = some r := by rw [if_pos rfl] at H; exact H
   clear H; have H := H1; clear H1; obtain rfl := Option.some.inj H
   go_enter Tryz.func14, Tryz.ntmps14
   go_wp2_with (first | ((with_reducible refine gate_callee (f := 56) rfl ?_); refine goesL_ (some 6) rfl rfl Tryz.func56 (by kernel_rfl) rfl #[.int .i64 a0, .int .i64 1, .int .i64 20000] rfl y1_ ?_; (with_reducible refine (tr_in.calls a0 1 20000 true _ A3.out).mono ?_); rintro e w' ⟨rfl, ⟨nd, rfl⟩⟩; refine ⟨_, rfl, ?_⟩) | (go_at_call 56; (with_reducible refine (tr_in.calls a1 a0 20000 true _ A5.out).mono ?_); rintro e w' ⟨rfl, ⟨nd, rfl⟩⟩))
   go_ret
   exact ⟨y3_, yc_⟩
  ·replace c6 := Bool.eq_false_iff.mpr c6; subst c6
   have H1 : (some false) = some r := by rw [if_neg (show ¬ (false = true) by decide)] at H; exact H
   clear H; have H := H1; clear H1; obtain rfl := Option.some.inj H
   go_enter Tryz.func14, Tryz.ntmps14
   go_wp2_with (first | ((with_reducible refine gate_callee (f := 56) rfl ?_); refine goesL_ (some 6) rfl rfl Tryz.func56 (by kernel_rfl) rfl #[.int .i64 a0, .int .i64 1, .int .i64 20000] rfl y1_ ?_; (with_reducible refine (tr_in.calls a0 1 20000 true _ A3.out).mono ?_); rintro e w' ⟨rfl, ⟨nd, rfl⟩⟩; refine ⟨_, rfl, ?_⟩) | (go_at_call 56; (with_reducible refine (tr_in.calls a1 a0 20000 false _ A5.out).mono ?_); rintro e w' ⟨rfl, ⟨nd, rfl⟩⟩))
   go_ret
   exact ⟨y3_, yc_⟩
 ·replace c4 := Bool.eq_false_iff.mpr c4; subst c4
  have H1 : (some false) = some r := by rw [if_neg (show ¬ (false = true) by decide)] at H; exact H
  clear H; have H := H1; clear H1; obtain rfl := Option.some.inj H
  go_enter Tryz.func14, Tryz.ntmps14
  go_wp2_with (first | ((with_reducible refine gate_callee (f := 56) rfl ?_); refine goesL_ (some 6) rfl rfl Tryz.func56 (by kernel_rfl) rfl #[.int .i64 a0, .int .i64 1, .int .i64 20000] rfl y1_ ?_; (with_reducible refine (tr_in.calls a0 1 20000 false _ A3.out).mono ?_); rintro e w' ⟨rfl, ⟨nd, rfl⟩⟩; refine ⟨_, rfl, ?_⟩))
  go_ret
  exact ⟨y3_, yc_⟩
end Go.Proofs.YtaidphhkhddemaaGreatDoor.PSky
end
section
namespace Go.Proofs.YtaidphhkhddemaaGreatDoor.PSky
open Go.RowKit Go.Proofs.YtaidphhkhddemaaGreatDoorW.PrintWords Go.Proofs.YtaidphhkhddemaaGreatDoorW.PrintLast Go.Proofs.YtaidphhkhddemaaGreatDoorW.PrintMore
theorem Ev.pos {α : Type} {c : Prop} [Decidable c] {f g : Nat → Option α} {r : α} (h : c) (k : Ev f r) : Ev (fun n => if c then f n else g n) r := by simpa only [if_pos h] using k
theorem Ev.neg {α : Type} {c : Prop} [Decidable c] {f g : Nat → Option α} {r : α} (h : ¬ c) (k : Ev g r) : Ev (fun n => if c then f n else g n) r := by simpa only [if_neg h] using k
theorem Ev.some {α : Type} (r : α) : Ev (fun _ => Option.some r) r := Ev.now r
theorem Ev.is {α : Type} {o : Option α} {r : α} (h : o = Option.some r) : Ev (fun _ => o) r := by rw [h]; exact Ev.now r
theorem wrap_id {n : Int} (h : -9223372036854775808 ≤ n ∧ n ≤ 9223372036854775807) : wrap64 n = n := by unfold wrap64; omega
theorem scan {β : Type} (l : List β) (bad : β → Bool) (g : Nat → Nat → Option Int) (hlen : l.length ≤ 1000000)
  (hyes : ∀ i (h : i < l.length), bad l[i] = true → Ev (fun k => g k i) (i : Int))
  (hno : ∀ i (h : i < l.length), bad l[i] = false → ∀ r, Ev (fun k => g k (i + 1)) r → Ev (fun k => g k i) r)
  (hend : Ev (fun k => g k l.length) (-1)) : ∀ m i, i + m = l.length → ∃ r, Ev (fun k => g k i) r ∧ decide (r ≥ 0) = (l.drop i).any bad
 | 0, i, h => ⟨-1, by rw [show i = l.length by omega]; exact hend, by rw [show i = l.length by omega, List.drop_length]; rfl⟩
 | m + 1, i, h => by
  have hi : i < l.length := by omega
  rw [List.drop_eq_getElem_cons hi, List.any_cons]
  cases hb : bad l[i] with
  | true => exact ⟨i, hyes i hi hb, by simp⟩
  | false =>
   obtain ⟨r, hr, he⟩ := scan l bad g hlen hyes hno hend m (i + 1) (by omega)
   exact ⟨r, hno i hi hb r hr, by simpa using he⟩
def okIn (a b c : Int) : Bool := decide (b ≤ a) && decide (a ≤ c)
theorem in_eq (a b c : Int) : sky_in.f a b c = some (okIn a b c) := by
 unfold sky_in.f okIn
 by_cases h : a ≥ b
 ·rw [if_pos h, decide_eq_true (show b ≤ a from h), Bool.true_and]
 ·rw [if_neg h, decide_eq_false (show ¬ b ≤ a from h), Bool.false_and]
theorem rin_eq (a b c : Int) : tr_in.f a b c = some (okIn a b c) := in_eq a b c
def okPeriod (p q : Int) : Bool := okIn p 1 10000 && (okIn q 1 10000 && decide (4 * q ≤ p))
theorem isPeriod_eq (p q : Int) : sky_isPeriod.f p q = some (okPeriod p q) := by
 unfold sky_isPeriod.f okPeriod
 simp only [in_eq, Option.bind_some]
 cases h1 : okIn p 1 10000 with
 | false => rfl
 | true =>
  cases h2 : okIn q 1 10000 with
  | false => rfl
  | true =>
   have hq : wrap64 (4 * q) = 4 * q := wrap_id (by simp [okIn] at h2; omega)
   rw [hq]
   rfl
theorem period_eq (p q : Int) : tr_period.f p q = some (okPeriod p q) := isPeriod_eq p q
def okPlace (n : Int) : Bool := okIn n 0 21599
theorem isPlace_eq (n : Int) : sky_isPlace.f n = some (okPlace n) := by unfold sky_isPlace.f; rw [in_eq]; rfl
theorem Spot_eq (n : Int) : tr_Spot.f n = some (okPlace n) := isPlace_eq n
def okRoad (l : List Int) : Bool := !l.any (fun n => !okIn n (-600) 600)
def okBody (b : S83) : Bool := okPeriod b.f0.f0 b.f0.f1 && (okPlace b.f1 && (okIn (b.f2.length : Int) 1 8 && okRoad b.f2))
def okSky (l : List S83) (p q n : Int) : Bool := okIn (l.length : Int) 2 4 && (okPeriod p q && (okPlace n && !l.any (fun b => !okBody b)))
theorem rd_get (l : List Int) (i : Nat) (h : i < l.length) : rd l (i : Int) = l[i] := by unfold rd; simp [h]
theorem rdT_get (l : List S83) (i : Nat) (h : i < l.length) : rd_T83 l (i : Int) = l[i] := by unfold rd_T83; simp [h]
theorem road_ev (l : List Int) (hl : l.length ≤ 1000000) : Ev (fun k => cF_isSky_c1_c1.f k l) (l.any (fun n => !okIn n (-600) 600)) := by
 obtain ⟨r, hr, he⟩ := scan l (fun n => !okIn n (-600) 600) (fun k i => iF_isSky_c1_c1.l0 k l (l.length : Int) (i : Int)) hl
  (fun i h hb => by
   refine Ev.step (fun k => by rw [iF_isSky_c1_c1.l0]) ?_
   refine Ev.pos (by omega) (Ev.pos (by omega) (Ev.pos (by omega) ?_))
   refine Ev.bind (a := true) (Ev.is (by unfold sky_isSky_c1_c1.f; rw [in_eq, rd_get l i h]; simp [hb])) ?_
   exact Ev.pos rfl (Ev.now _))
  (fun i h hb r hr => by
   refine Ev.step (fun k => by rw [iF_isSky_c1_c1.l0]) ?_
   refine Ev.pos (by omega) (Ev.pos (by omega) (Ev.pos (by omega) ?_))
   refine Ev.bind (a := false) (Ev.is (by unfold sky_isSky_c1_c1.f; rw [in_eq, rd_get l i h]; simp [hb])) ?_
   refine Ev.neg (by simp) ?_
   rw [wrap_id (by omega)]
   exact hr)
  (by
   refine Ev.step (fun k => by rw [iF_isSky_c1_c1.l0]) ?_
   exact Ev.neg (by omega) (Ev.now _)) l.length 0 (by omega)
 unfold cF_isSky_c1_c1.f iF_isSky_c1_c1.f
 refine Ev.bind hr ?_
 rw [he]
 exact Ev.now _
theorem body_ev (b : S83) : Ev (fun k => sky_isSky_c1.f k b.f0.f0 b.f0.f1 b.f1 b.f2) (!okBody b) := by
 unfold sky_isSky_c1.f okBody
 refine Ev.bind (Ev.is (isPeriod_eq _ _)) ?_
 cases h1 : okPeriod b.f0.f0 b.f0.f1 with
 | false => exact Ev.neg (by simp) (Ev.now _)
 | true =>
  refine Ev.pos rfl (Ev.bind (Ev.is (isPlace_eq _)) ?_)
  cases h2 : okPlace b.f1 with
  | false => exact Ev.neg (by simp) (Ev.now _)
  | true =>
   refine Ev.pos rfl (Ev.bind (Ev.is (in_eq _ _ _)) ?_)
   cases h3 : okIn (b.f2.length : Int) 1 8 with
   | false => exact Ev.neg (by simp) (Ev.now _)
   | true =>
    refine Ev.pos rfl (Ev.bind (road_ev b.f2 (by simp [okIn] at h3; omega)) ?_)
    simp only [okRoad, Bool.true_and, Bool.not_not]
    exact Ev.now _
theorem bodies_ev (l : List S83) (hl : l.length ≤ 1000000) : Ev (fun k => cF_isSky_c1.f k l) (l.any (fun b => !okBody b)) := by
 obtain ⟨r, hr, he⟩ := scan l (fun b => !okBody b) (fun k i => iF_isSky_c1.l0 k l (l.length : Int) (i : Int)) hl
  (fun i h hb => by
   refine Ev.step (fun k => by rw [iF_isSky_c1.l0]) ?_
   refine Ev.pos (by omega) (Ev.pos (by omega) (Ev.pos (by omega) ?_))
   rw [rdT_get l i h]
   refine Ev.bind (body_ev _) ?_
   rw [hb]
   exact Ev.pos rfl (Ev.now _))
  (fun i h hb r hr => by
   refine Ev.step (fun k => by rw [iF_isSky_c1.l0]) ?_
   refine Ev.pos (by omega) (Ev.pos (by omega) (Ev.pos (by omega) ?_))
   rw [rdT_get l i h]
   refine Ev.bind (body_ev _) ?_
   rw [hb]
   refine Ev.neg (by simp) ?_
   rw [wrap_id (by omega)]
   exact hr)
  (by
   refine Ev.step (fun k => by rw [iF_isSky_c1.l0]) ?_
   exact Ev.neg (by omega) (Ev.now _)) l.length 0 (by omega)
 unfold cF_isSky_c1.f iF_isSky_c1.f
 refine Ev.bind hr ?_
 rw [he]
 exact Ev.now _
theorem isSky_ev (l : List S83) (p q n : Int) : Ev (fun k => sky_isSky.f k l p q n) (okSky l p q n) := by
 unfold sky_isSky.f okSky
 refine Ev.bind (Ev.is (in_eq _ _ _)) ?_
 cases h1 : okIn (l.length : Int) 2 4 with
 | false => exact Ev.neg (by simp) (Ev.now _)
 | true =>
  refine Ev.pos rfl (Ev.bind (Ev.is (isPeriod_eq _ _)) ?_)
  cases h2 : okPeriod p q with
  | false => exact Ev.neg (by simp) (Ev.now _)
  | true =>
   refine Ev.pos rfl (Ev.bind (Ev.is (isPlace_eq _)) ?_)
   cases h3 : okPlace n with
   | false => exact Ev.neg (by simp) (Ev.now _)
   | true =>
    refine Ev.pos rfl (Ev.bind (bodies_ev l (by simp [okIn] at h1; omega)) ?_)
    simp only [Bool.true_and]
    exact Ev.now _
theorem refroad_ok (l : List S83) (p q n : Int) (i : Int) (b : S83) (hb : b.f2.length ≤ 1000000) (r : Bool) (hall : ∀ x ∈ b.f2, okIn x (-600) 600 = true)
  (hr : Ev (fun k => tr_Sky.l0 k (wrap64 (i + 1)) l p q n) r) : ∀ m j : Nat, j + m = b.f2.length →
  Ev (fun k => tr_Sky.l1 k i (j : Int) l p q n b.f0.f0 b.f0.f1 b.f1 b.f2) r
 | 0, j, h => by
  refine Ev.step (fun k => by rw [tr_Sky.l1]) ?_
  exact Ev.neg (by omega) hr
 | m + 1, j, h => by
  have hj : j < b.f2.length := by omega
  refine Ev.step (fun k => by rw [tr_Sky.l1]) ?_
  refine Ev.pos (by omega) (Ev.pos (by omega) ?_)
  refine Ev.bind (a := true) (Ev.is (by rw [rin_eq, rd_get _ j hj, hall _ (List.getElem_mem hj)])) (Ev.pos rfl ?_)
  rw [wrap_id (by omega)]
  exact refroad_ok l p q n i b hb r hall hr m (j + 1) (by omega)
theorem refroad_bad (l : List S83) (p q n : Int) (i : Int) (b : S83) (hb : b.f2.length ≤ 1000000) : ∀ m j : Nat, j + m = b.f2.length → (b.f2.drop j).any (fun n => !okIn n (-600) 600) = true →
  Ev (fun k => tr_Sky.l1 k i (j : Int) l p q n b.f0.f0 b.f0.f1 b.f1 b.f2) false
 | 0, j, h, hbad => by
  rw [show j = b.f2.length by omega, List.drop_length] at hbad
  cases hbad
 | m + 1, j, h, hbad => by
  have hj : j < b.f2.length := by omega
  rw [List.drop_eq_getElem_cons hj, List.any_cons] at hbad
  refine Ev.step (fun k => by rw [tr_Sky.l1]) ?_
  refine Ev.pos (by omega) (Ev.pos (by omega) ?_)
  refine Ev.bind (Ev.is (by rw [rin_eq, rd_get _ j hj])) ?_
  cases hq : okIn b.f2[j] (-600) 600 with
  | false => exact Ev.neg (by simp) (Ev.now _)
  | true =>
   rw [hq] at hbad
   refine Ev.pos rfl ?_
   rw [wrap_id (by omega)]
   exact refroad_bad l p q n i b hb m (j + 1) (by omega) (by simpa using hbad)
theorem refSky_loop (l : List S83) (p q n : Int) (hl : l.length ≤ 1000000) : ∀ m i : Nat, i + m = l.length →
  Ev (fun k => tr_Sky.l0 k (i : Int) l p q n) ((l.drop i).all okBody && (okIn (l.length : Int) 2 4 && (okPeriod p q && okPlace n)))
 | 0, i, h => by
  rw [show i = l.length by omega, List.drop_length]
  refine Ev.step (fun k => by rw [tr_Sky.l0]) ?_
  refine Ev.neg (by omega) (Ev.bind (Ev.is (rin_eq _ _ _)) ?_)
  cases h1 : okIn (l.length : Int) 2 4 with
  | false => exact Ev.neg (by simp) (Ev.now _)
  | true =>
   refine Ev.pos rfl (Ev.bind (Ev.is (period_eq _ _)) ?_)
   cases h2 : okPeriod p q with
   | false => exact Ev.neg (by simp) (Ev.now _)
   | true =>
    refine Ev.pos rfl (Ev.bind (Ev.is (Spot_eq _)) ?_)
    simp only [List.all_nil, Bool.true_and]
    exact Ev.now _
 | m + 1, i, h => by
  have hi : i < l.length := by omega
  rw [List.drop_eq_getElem_cons hi, List.all_cons]
  have ih := refSky_loop l p q n hl m (i + 1) (by omega)
  refine Ev.step (fun k => by rw [tr_Sky.l0]) ?_
  refine Ev.pos (by omega) (Ev.pos (by omega) ?_)
  rw [rdT_get l i hi]
  generalize l[i] = b
  have bad : ∀ R : Bool, Ev (fun k => tr_Sky.j1 k (i : Int) true l p q n b.f0.f0 b.f0.f1 b.f1 b.f2) (false && R) := fun R => by
   refine Ev.step (fun k => by rw [tr_Sky.j1]) ?_
   exact Ev.pos rfl (Ev.now _)
  unfold okBody
  refine Ev.bind (Ev.is (period_eq _ _)) ?_
  cases h1 : okPeriod b.f0.f0 b.f0.f1 with
  | false => exact Ev.neg (by simp) (bad _)
  | true =>
   refine Ev.pos rfl (Ev.bind (Ev.is (Spot_eq _)) ?_)
   cases h2 : okPlace b.f1 with
   | false => exact Ev.neg (by simp) (bad _)
   | true =>
    refine Ev.pos rfl (Ev.bind (Ev.is (rin_eq _ _ _)) ?_)
    cases h3 : okIn (b.f2.length : Int) 1 8 with
    | false => exact bad _
    | true =>
     have hbl : b.f2.length ≤ 1000000 := by simp [okIn] at h3; omega
     refine Ev.step (fun k => by rw [tr_Sky.j1]) ?_
     refine Ev.neg (by simp) ?_
     cases h4 : okRoad b.f2 with
     | false => exact refroad_bad l p q n i b hbl b.f2.length 0 (by omega) (by simpa [okRoad] using h4)
     | true =>
      simp only [Bool.true_and]
      have h5 : ∀ x ∈ b.f2, okIn x (-600) 600 = true := by
       intro x hx
       unfold okRoad at h4
       cases hq : okIn x (-600) 600 with
       | true => rfl
       | false =>
        have : b.f2.any (fun n => !okIn n (-600) 600) = true := List.any_eq_true.mpr ⟨x, hx, by simp [hq]⟩
        rw [this] at h4
        cases h4
      refine refroad_ok l p q n i b hbl _ h5 ?_ b.f2.length 0 (by omega)
      rw [wrap_id (by omega)]
      exact ih
theorem any_all (f : S83 → Bool) (l : List S83) : (!l.any (fun b => !f b)) = l.all f := by
 induction l with
 | nil => rfl
 | cons b t ih => simp [ih]
theorem refSky_ev (l : List S83) (p q n : Int) (hl : l.length ≤ 1000000) : Ev (fun k => tr_Sky.f k l p q n) (okSky l p q n) := by
 have h := refSky_loop l p q n hl l.length 0 (by omega)
 rw [List.drop_zero] at h
 have e : okSky l p q n = (l.all okBody && (okIn (l.length : Int) 2 4 && (okPeriod p q && okPlace n))) := by
  unfold okSky
  rw [any_all]
  cases l.all okBody <;> cases okIn (l.length : Int) 2 4 <;> cases okPeriod p q <;> cases okPlace n <;> rfl
 rw [e]
 exact h
theorem short_ev (l : List S83) (p q n : Int) : ∃ b, Ev (fun k => tl_short.f k l p q n) b ∧ (b = true → l.length ≤ 6) := by
 have key : ∀ m i : Nat, i + m = 7 → ∃ b, Ev (fun k => tl_short.l0 k (i : Int) l p q n) b ∧ (b = true → l.length ≤ 6) := by
  intro m
  induction m with
  | zero =>
   intro i h
   have fin : ∀ c : Bool, c = false → Ev (fun k => tl_short.j1 k (i : Int) c l p q n) (decide ((l.length : Int) ≤ 6)) := fun c hc => by
    refine Ev.step (fun k => by rw [tl_short.j1]) ?_
    exact Ev.neg (by simp [hc]) (Ev.now _)
   refine ⟨decide ((l.length : Int) ≤ 6), ?_, fun h => by have := of_decide_eq_true h; omega⟩
   refine Ev.step (fun k => by rw [tl_short.l0]) ?_
   by_cases hi : (i : Int) < (l.length : Int)
   ·exact Ev.pos hi (fin _ (decide_eq_false (by omega)))
   ·exact Ev.neg hi (fin _ rfl)
  | succ m ih =>
   intro i h
   by_cases hi : (i : Int) < (l.length : Int)
   ·by_cases hr : ((rd_T83 l (i : Int)).f2.length : Int) > 10
    ·refine ⟨false, ?_, fun h => by cases h⟩
     refine Ev.step (fun k => by rw [tl_short.l0]) (Ev.pos hi ?_)
     refine Ev.step (fun k => by rw [tl_short.j1]) (Ev.pos (by simp; omega) ?_)
     exact Ev.pos (by omega) (Ev.pos hi (Ev.pos hr (Ev.now _)))
    ·obtain ⟨b, hb, hb6⟩ := ih (i + 1) (by omega)
     refine ⟨b, ?_, hb6⟩
     refine Ev.step (fun k => by rw [tl_short.l0]) (Ev.pos hi ?_)
     refine Ev.step (fun k => by rw [tl_short.j1]) (Ev.pos (by simp; omega) ?_)
     refine Ev.pos (by omega) (Ev.pos hi (Ev.neg hr ?_))
     rw [wrap_id (by omega)]
     exact hb
   ·refine ⟨decide ((l.length : Int) ≤ 6), ?_, fun h => by have := of_decide_eq_true h; omega⟩
    refine Ev.step (fun k => by rw [tl_short.l0]) (Ev.neg hi ?_)
    refine Ev.step (fun k => by rw [tl_short.j1]) ?_
    exact Ev.neg (by simp) (Ev.now _)
 unfold tl_short.f
 exact key 7 0 rfl
def okSpan (a b : Int) : Bool := okIn a 1 20000 && (okIn b a 20000 && decide (b - a ≤ 800))
theorem isSpan_eq (a b : Int) : sky_isSpan.f a b = some (okSpan a b) := by
 unfold sky_isSpan.f okSpan
 rw [in_eq, Option.bind_some]
 cases h1 : okIn a 1 20000 with
 | false => rfl
 | true =>
  rw [in_eq]
  cases h2 : okIn b a 20000 with
  | false => rfl
  | true =>
   have hq : wrap64 (b - a) = b - a := wrap_id (by simp [okIn] at h1 h2; omega)
   rw [hq]
   rfl
end Go.Proofs.YtaidphhkhddemaaGreatDoor.PSky
end
section
namespace Go.Proofs.YtaidphhkhddemaaGreatDoor.PSky
open Go.RowKit Go.Proofs.YtaidphhkhddemaaGreatDoorW.PrintWords Go.Proofs.YtaidphhkhddemaaGreatDoorW.PrintLast Go.Proofs.YtaidphhkhddemaaGreatDoorW.PrintMore
def ss_lunar.f (k : Nat) (l0_0 : List S83) (a0_1 a0_2 a0_3 a0_4 : Int) : Option Int :=
 (ss_sun.f k l0_0 a0_1 a0_2 a0_3 a0_4).bind fun s => (ss_moon.f k l0_0 a0_1 a0_2 a0_3 a0_4).bind fun m => some (wrap64 (m - s))
set_option maxRecDepth 100000 in
set_option maxHeartbeats 800000 in
theorem ss_lunar.calls (k : Nat) (A0_0 : Option Addr) (c0_0 : Nat) (l0_0 : List S83) (a0_1 a0_2 a0_3 a0_4 : Int) (r : Int) (w : World)
  (hr0_0 : Kd.C k83 w A0_0 l0_0.length l0_0) (hc0_0 : l0_0.length ≤ c0_0) (h : ss_lunar.f k l0_0 a0_1 a0_2 a0_3 a0_4 = some r) :
  Calls Tryz.prog 125 #[.agg #[.slice A0_0 l0_0.length c0_0, .int .i64 a0_1, .int .i64 a0_2, .int .i64 a0_3, .int .i64 a0_4]] w fun e w' => e = .returned (.int .i64 r) ∧ Below w.heap.size w w' := by
 have HR := A0_ hr0_0; have HC := A0_ hc0_0; clear hr0_0 hc0_0
 obtain ⟨s, hs0, h1⟩ := Option.bind_eq_some_iff.mp h
 obtain ⟨m, hm0, h2⟩ := Option.bind_eq_some_iff.mp h1
 obtain rfl := Option.some.inj h2
 have HS := A0_ hs0; have HM := A0_ hm0; clear h h1 h2 hs0 hm0
 have hmf : ∀ (fn : Fn) (first cap : Array Value) (w : World), (Instr.makeFunc fn first cap).run Tryz.prog w = .ok (.func fn first cap) w := fun _ _ _ _ => rfl
 have i0 : ∀ x0 x1 w, (Instr.index 162 (.agg #[x0, x1]) (.int .i64 0)).run Tryz.prog w = .ok x0 w := fun _ _ _ => by kernel_rfl
 have i1 : ∀ x0 x1 w, (Instr.index 162 (.agg #[x0, x1]) (.int .i64 1)).run Tryz.prog w = .ok x1 w := fun _ _ _ => by kernel_rfl
 go_enter Tryz.func125, Tryz.ntmps125
 go_wp2
 refine wp_loop_rounds 3 ?_
 rw [rounds_succ]
 go_wp2_with fail
 refine (ss_sun.calls k A0_0 c0_0 l0_0 a0_1 a0_2 a0_3 a0_4 s _ ?h1 HC.out HS.out).mono ?_
 case h1 => exact Kd.C_alloc (Kd.C_alloc HR.out _) _
 rintro e w1 ⟨rfl, hb⟩
 have hz : w.heap.size + 1 < w1.heap.size := by have := hb.size; simp at this; omega
 have hc0 : w1.cell? ⟨w.heap.size + 1, 0, none⟩ = some (.int .i64 0) := (hb.cell (p := ⟨w.heap.size + 1, 0, none⟩) (by simp)).trans (by go_simp)
 have hc1 : w1.cell? ⟨w.heap.size + 1, 1, none⟩ = some (.int .i64 0) := (hb.cell (p := ⟨w.heap.size + 1, 1, none⟩) (by simp)).trans (by go_simp)
 have hf0 : w1.frozen? ⟨w.heap.size + 1, 0, none⟩ = false := (hb.frozen (p := ⟨w.heap.size + 1, 0, none⟩) (by simp)).trans (by go_simp)
 have hf1 : w1.frozen? ⟨w.heap.size + 1, 1, none⟩ = false := (hb.frozen (p := ⟨w.heap.size + 1, 1, none⟩) (by simp)).trans (by go_simp)
 have HB := A0_ (below_step (below_alloc (below_alloc (Below.refl _ _) _) _) hb)
 clear hb
 go_wp2_with fail
 rw [rounds_succ]
 go_wp2_with fail
 have HB2 := A0_ (below_set (g := w.heap.size + 1) (j := 0) (v := .int .i64 s) HB.out (Nat.le_succ _))
 refine (ss_moon.calls k A0_0 c0_0 l0_0 a0_1 a0_2 a0_3 a0_4 m _ ?h2 HC.out HM.out).mono ?_
 case h2 => exact Kd.C_below HR.out HB2.out
 rintro e w2 ⟨rfl, hb⟩
 have hz2 : w.heap.size + 1 < w2.heap.size := by have := hb.size; simp at this; omega
 have hd0 : w2.cell? ⟨w.heap.size + 1, 0, none⟩ = some (.int .i64 s) := (hb.cell (p := ⟨w.heap.size + 1, 0, none⟩) (by simp; omega)).trans (by go_simp)
 have hd1 : w2.cell? ⟨w.heap.size + 1, 1, none⟩ = some (.int .i64 0) := (hb.cell (p := ⟨w.heap.size + 1, 1, none⟩) (by simp; omega)).trans (by go_simp)
 have hg1 : w2.frozen? ⟨w.heap.size + 1, 1, none⟩ = false := (hb.frozen (p := ⟨w.heap.size + 1, 1, none⟩) (by simp; omega)).trans (by go_simp)
 have HB3 := A0_ (below_step HB2.out hb)
 clear hb
 go_wp2_with fail
 rw [rounds_succ]
 go_wp2; go_ret
 exact ⟨rfl, below_set HB3.out (Nat.le_succ _)⟩
end Go.Proofs.YtaidphhkhddemaaGreatDoor.PSky
end
section
namespace Go.Proofs.YtaidphhkhddemaaGreatDoor.PSky
open Go.RowKit Go.Proofs.YtaidphhkhddemaaGreatDoorW.PrintWords Go.Proofs.YtaidphhkhddemaaGreatDoorW.PrintLast Go.Proofs.YtaidphhkhddemaaGreatDoorW.PrintMore
attribute [local go_sem] max2_int min2_int max_two min_two max_three min_three max_four min_four
set_option linter.unusedVariables false
set_option linter.unusedSimpArgs false
def at_has_new.f (k : Nat) (l0_0 : List (S83)) (a0_1 : Int) (a0_2 : Int) (a0_3 : Int) (a0_4 : Int)  : Option (Bool) := (ss_lunar.f k l0_0 a0_1 a0_2 a0_3 (wrap64 (a0_4 - 1))).bind fun t637 => ((ss_lunar.f k l0_0 a0_1 a0_2 a0_3 a0_4).bind fun t638 => ((sky_passes.f t637 t638).bind fun t639 => (some t639)))
set_option maxHeartbeats 8000000 in
set_option maxRecDepth 100000 in
theorem at_has_new.calls (k : Nat) (A0_0 : Option Addr) (c0_0 : Nat) (l0_0 : List (S83)) (a0_1 : Int) (a0_2 : Int) (a0_3 : Int) (a0_4 : Int)  (r : Bool) (w : World) (hr0_0 : Kd.C k83 w A0_0 l0_0.length l0_0) (hc0_0 : l0_0.length ≤ c0_0) (h : at_has_new.f k l0_0 a0_1 a0_2 a0_3 a0_4 = some r) :
  Calls Tryz.prog 90 #[.agg #[.slice A0_0 l0_0.length c0_0, .int .i64 a0_1, .int .i64 a0_2, .int .i64 a0_3, .int .i64 a0_4], .iface 128 (.agg #[])] w fun e w' => e = .returned (.bool r) ∧ Below w.heap.size w w' := by
 have hta118 : ∀ (W : World), (Instr.typeAssert (.iface 128 (.agg #[])) 125 118 true).run Tryz.prog W = .ok (.tuple #[(.agg #[(.int .i64 0), (.int .i64 0)]), .bool false]) W := fun _ => by kernel_rfl
 have hta129 : ∀ (W : World), (Instr.typeAssert (.iface 128 (.agg #[])) 125 129 true).run Tryz.prog W = .ok (.tuple #[(.agg #[]), .bool false]) W := fun _ => by kernel_rfl
 have hu96 := Tryz.underlying96
 have hu28 := Tryz.underlying28
 have hu118 := Tryz.underlying118
 have hu129 := Tryz.underlying129
 have HR0_0 := A0_ hr0_0; have HC0_0 := A0_ hc0_0; clear hr0_0 hc0_0
 have HB := A0_ (Below.refl w.heap.size w)
 have H : ((ss_lunar.f k l0_0 a0_1 a0_2 a0_3 (wrap64 (a0_4 - 1))).bind fun t637 => ((ss_lunar.f k l0_0 a0_1 a0_2 a0_3 a0_4).bind fun t638 => ((sky_passes.f t637 t638).bind fun t639 => (some t639)))) = some r := h
 clear h; replace H := Option.bind_eq_some_iff.mp H; obtain ⟨t637, A30, H⟩ := H
 replace H : ((ss_lunar.f k l0_0 a0_1 a0_2 a0_3 a0_4).bind fun t638 => ((sky_passes.f t637 t638).bind fun t639 => (some t639))) = some r := H
 have A3 := A0_ A30; clear A30; replace H := Option.bind_eq_some_iff.mp H; obtain ⟨t638, A40, H⟩ := H
 replace H : ((sky_passes.f t637 t638).bind fun t639 => (some t639)) = some r := H
 have A4 := A0_ A40; clear A40; replace H := Option.bind_eq_some_iff.mp H; obtain ⟨t639, A50, H⟩ := H
 replace H : (some t639) = some r := H
 have A5 := A0_ A50; clear A50; obtain rfl := Option.some.inj H
 go_enter Tryz.func90, Tryz.ntmps90
 try go_wp2_with (first | ((with_reducible refine gate_dst (N := 2) rfl ?_); refine box_event ?hg (N := 2) ?hd (cs := #[.slice A0_0 l0_0.length c0_0, .int .i64 a0_1, .int .i64 a0_2, .int .i64 a0_3, .int .i64 a0_4]) (t := 96) ?hr ?_; (case hd => rfl); (case hg => rfl); (case hr => first | (go_simp; done) | (go_simp; rfl)); intro gb635 hg w6 hbox hb; have n0_ := A0_ (below_step y0_ hb); have n1_ := A0_ (hbox); have n2_ := A0_ ((by rw [hg]; exact (below_size y0_) : w.heap.size ≤ gb635)); have n3_ := A0_ ((by rw [hg]; exact (below_size y0_) : w.heap.size ≤ gb635)); clear HB; have HB := n0_; have BK635 := n1_; have GW635 := n2_; have GE635 := n3_; clear n0_ n1_ n2_ n3_; clear hb hbox hg; obtain ⟨hcz7_0, hcz7_1, hcz7_2, hcz7_3, hcz7_4, hfz7_0, hfz7_1, hfz7_2, hfz7_3, hfz7_4⟩ := bq5_ BK635.out) | ((with_reducible refine gate_dst (N := 5) rfl ?_); refine box_event ?hg (N := 5) ?hd (cs := #[.slice none 0 0, .int .i64 0, .int .i64 0, .int .i64 0, .int .i64 0]) (t := 96) ?hr ?_; (case hd => rfl); (case hg => rfl); (case hr => first | (go_simp; done) | (go_simp; rfl)); intro gb636 hg w8 hbox hb; have n0_ := A0_ (blk_below (g := gb635) (o := .cells #[.slice A0_0 l0_0.length c0_0, .int .i64 a0_1, .int .i64 a0_2, .int .i64 a0_3, .int .i64 a0_4] 96 (0, 0)) (bd_ BK635.out) hb); have n1_ := A0_ (below_step y3f_ hb); have n2_ := A0_ (hbox); have n3_ := A0_ ((by rw [hg]; exact (below_size y3f_) : w.heap.size ≤ gb636)); have n4_ := A0_ ((by rw [hg]; exact (below_size y3f_) : w.heap.size ≤ gb636)); have n5_ := A0_ ((by rw [hg]; exact Nat.ne_of_lt (blk_lt (g := gb635) (o := .cells #[.slice A0_0 l0_0.length c0_0, .int .i64 a0_1, .int .i64 a0_2, .int .i64 a0_3, .int .i64 a0_4] 96 (0, 0)) (bd_ BK635.out)) : gb635 ≠ gb636)); have n6_ := A0_ ((by rw [hg]; exact Nat.ne_of_gt (blk_lt (g := gb635) (o := .cells #[.slice A0_0 l0_0.length c0_0, .int .i64 a0_1, .int .i64 a0_2, .int .i64 a0_3, .int .i64 a0_4] 96 (0, 0)) (bd_ BK635.out)) : gb636 ≠ gb635)); clear BK635; clear HB; have BK635 := n0_; have HB := n1_; have BK636 := n2_; have GW636 := n3_; have GE636 := n4_; have NB635_636 := n5_; have NB636_635 := n6_; clear n0_ n1_ n2_ n3_ n4_ n5_ n6_; clear hb hbox hg; have hnb9 := NB636_635.out; have hnc9 := NB635_636.out; obtain ⟨hcz10_0, hcz10_1, hcz10_2, hcz10_3, hcz10_4, hfz10_0, hfz10_1, hfz10_2, hfz10_3, hfz10_4⟩ := bq5_ BK636.out))
 have n0_ : Aside0 ((((((w8.setCell ⟨gb636, 0, none⟩ (.slice A0_0 l0_0.length c0_0)).setCell ⟨gb636, 1, none⟩ (.int .i64 a0_1)).setCell ⟨gb636, 2, none⟩ (.int .i64 a0_2)).setCell ⟨gb636, 3, none⟩ (.int .i64 a0_3)).setCell ⟨gb636, 4, none⟩ (.int .i64 (wrap64 (a0_4 - 1)))).heap[gb635]? = some (.cells #[.slice A0_0 l0_0.length c0_0, .int .i64 a0_1, .int .i64 a0_2, .int .i64 a0_3, .int .i64 a0_4] 96 (0, 0))) := ⟨by (with_reducible repeat (first | refine blk_drewN ?_ _ | refine blk_drew ?_ | refine blk_alloc ?_ _)); refine blk_far ?_ NB635_636.out _; (with_reducible repeat (first | refine blk_drewN ?_ _ | refine blk_drew ?_ | refine blk_alloc ?_ _)); refine blk_far ?_ NB635_636.out _; (with_reducible repeat (first | refine blk_drewN ?_ _ | refine blk_drew ?_ | refine blk_alloc ?_ _)); refine blk_far ?_ NB635_636.out _; (with_reducible repeat (first | refine blk_drewN ?_ _ | refine blk_drew ?_ | refine blk_alloc ?_ _)); refine blk_far ?_ NB635_636.out _; (with_reducible repeat (first | refine blk_drewN ?_ _ | refine blk_drew ?_ | refine blk_alloc ?_ _)); refine blk_far ?_ NB635_636.out _; (with_reducible repeat (first | refine blk_drewN ?_ _ | refine blk_drew ?_ | refine blk_alloc ?_ _)); exact BK635.out⟩
 have n1_ : Aside0 ((((((w8.setCell ⟨gb636, 0, none⟩ (.slice A0_0 l0_0.length c0_0)).setCell ⟨gb636, 1, none⟩ (.int .i64 a0_1)).setCell ⟨gb636, 2, none⟩ (.int .i64 a0_2)).setCell ⟨gb636, 3, none⟩ (.int .i64 a0_3)).setCell ⟨gb636, 4, none⟩ (.int .i64 (wrap64 (a0_4 - 1)))).heap[gb636]? = some (.cells #[.slice A0_0 l0_0.length c0_0, .int .i64 a0_1, .int .i64 a0_2, .int .i64 a0_3, .int .i64 (wrap64 (a0_4 - 1))] 96 (0, 0))) := ⟨by (with_reducible repeat (first | refine blk_drewN ?_ _ | refine blk_drew ?_ | refine blk_alloc ?_ _)); refine blk_put (cs := #[.slice A0_0 l0_0.length c0_0, .int .i64 a0_1, .int .i64 a0_2, .int .i64 a0_3, .int .i64 0]) ?_ 4 _ rfl; (with_reducible repeat (first | refine blk_drewN ?_ _ | refine blk_drew ?_ | refine blk_alloc ?_ _)); refine blk_put (cs := #[.slice A0_0 l0_0.length c0_0, .int .i64 a0_1, .int .i64 a0_2, .int .i64 0, .int .i64 0]) ?_ 3 _ rfl; (with_reducible repeat (first | refine blk_drewN ?_ _ | refine blk_drew ?_ | refine blk_alloc ?_ _)); refine blk_put (cs := #[.slice A0_0 l0_0.length c0_0, .int .i64 a0_1, .int .i64 0, .int .i64 0, .int .i64 0]) ?_ 2 _ rfl; (with_reducible repeat (first | refine blk_drewN ?_ _ | refine blk_drew ?_ | refine blk_alloc ?_ _)); refine blk_put (cs := #[.slice A0_0 l0_0.length c0_0, .int .i64 0, .int .i64 0, .int .i64 0, .int .i64 0]) ?_ 1 _ rfl; (with_reducible repeat (first | refine blk_drewN ?_ _ | refine blk_drew ?_ | refine blk_alloc ?_ _)); refine blk_put (cs := #[.slice none 0 0, .int .i64 0, .int .i64 0, .int .i64 0, .int .i64 0]) ?_ 0 _ rfl; (with_reducible repeat (first | refine blk_drewN ?_ _ | refine blk_drew ?_ | refine blk_alloc ?_ _)); exact BK636.out⟩
 have n2_ : Aside0 (Below w.heap.size w (((((w8.setCell ⟨gb636, 0, none⟩ (.slice A0_0 l0_0.length c0_0)).setCell ⟨gb636, 1, none⟩ (.int .i64 a0_1)).setCell ⟨gb636, 2, none⟩ (.int .i64 a0_2)).setCell ⟨gb636, 3, none⟩ (.int .i64 a0_3)).setCell ⟨gb636, 4, none⟩ (.int .i64 (wrap64 (a0_4 - 1))))) := ⟨y32_⟩
 (try clear BK635); (try clear BK636); (try clear HB)
 generalize (((((w8.setCell ⟨gb636, 0, none⟩ (.slice A0_0 l0_0.length c0_0)).setCell ⟨gb636, 1, none⟩ (.int .i64 a0_1)).setCell ⟨gb636, 2, none⟩ (.int .i64 a0_2)).setCell ⟨gb636, 3, none⟩ (.int .i64 a0_3)).setCell ⟨gb636, 4, none⟩ (.int .i64 (wrap64 (a0_4 - 1)))) = w11 at n0_ n1_ n2_ ⊢
 have BK635 := n0_; have BK636 := n1_; have HB := n2_; clear n0_ n1_ n2_; have n0_ := A0_ (blk_drew BK635.out); have n1_ := A0_ (blk_drew BK636.out); have n2_ := A0_ (below_drew1 HB.out); clear BK635; clear BK636; clear HB; have BK635 := n0_; have BK636 := n1_; have HB := n2_; clear n0_ n1_ n2_
 refine start_ (n := 6) (S := fun w' => w'.cell? ⟨gb636, 0, none⟩ = some (.slice A0_0 l0_0.length c0_0) ∧ w'.cell? ⟨gb636, 1, none⟩ = some (.int .i64 a0_1) ∧ w'.cell? ⟨gb636, 2, none⟩ = some (.int .i64 a0_2) ∧ w'.cell? ⟨gb636, 3, none⟩ = some (.int .i64 a0_3) ∧ w'.cell? ⟨gb636, 4, none⟩ = some (.int .i64 (wrap64 (a0_4 - 1))) ∧ w'.cell? ⟨gb635, 0, none⟩ = some (.slice A0_0 l0_0.length c0_0) ∧ w'.cell? ⟨gb635, 1, none⟩ = some (.int .i64 a0_1) ∧ w'.cell? ⟨gb635, 2, none⟩ = some (.int .i64 a0_2) ∧ w'.cell? ⟨gb635, 3, none⟩ = some (.int .i64 a0_3) ∧ w'.cell? ⟨gb635, 4, none⟩ = some (.int .i64 a0_4)) (ds := []) #[false, false, false, false, false, false] (by kernel_rfl) rfl rfl ⟨(blk_cell BK636.out 0).trans rfl, (blk_cell BK636.out 1).trans rfl, (blk_cell BK636.out 2).trans rfl, (blk_cell BK636.out 3).trans rfl, (blk_cell BK636.out 4).trans rfl, (blk_cell BK635.out 0).trans rfl, (blk_cell BK635.out 1).trans rfl, (blk_cell BK635.out 2).trans rfl, (blk_cell BK635.out 3).trans rfl, (blk_cell BK635.out 4).trans rfl⟩ (fun hHeld => ?_)
 generalize w11.drew = w12 at BK635 BK636 HB hHeld ⊢
 refine take_ (i := 0) (N := some 52) (v := ?_) (a' := ?_) #[true, false, false, false, false, false] rfl rfl (by kernel_rfl) (fun _ _ _ h => h) (Or.inl ⟨by rfl, ?_⟩) hHeld ?_ ?_
 rotate_left
 ·rintro w' ⟨s0, s1, s2, s3, s4, s5, s6, s7, s8, s9⟩
  go_simp
  with_reducible rfl
 rotate_left
 ·simp only [Act.put, List.setIfInBounds_toArray, List.set_cons_zero, List.set_cons_succ, i64_w, i32_w]
  rfl
 refine take_ (i := 2) (N := some 54) (v := ?_) (a' := ?_) #[true, false, true, false, false, false] rfl rfl (by kernel_rfl) (fun _ _ _ h => h) (Or.inl ⟨by rfl, ?_⟩) hHeld ?_ ?_
 rotate_left
 ·rintro w' ⟨s0, s1, s2, s3, s4, s5, s6, s7, s8, s9⟩
  go_simp
  with_reducible rfl
 rotate_left
 ·simp only [Act.put, List.setIfInBounds_toArray, List.set_cons_zero, List.set_cons_succ, i64_w, i32_w]
  rfl
 refine one_ (i := 1) (N := some 53) #[true, true, true, false, false, false] rfl rfl (by kernel_rfl) (by decide) (fun K hK => ?_)
 refine goes_ Tryz.func125 (by kernel_rfl) rfl #[.agg #[.slice A0_0 l0_0.length c0_0, .int .i64 a0_1, .int .i64 a0_2, .int .i64 a0_3, .int .i64 (wrap64 (a0_4 - 1))]] (by rfl) rfl rfl y1_ ?_
 with_reducible refine (ss_lunar.calls k _ _ l0_0 a0_1 a0_2 a0_3 (wrap64 (a0_4 - 1)) t637 _ ?side1 ?side2 A3.out).mono ?_
 (case side1 => repeat (first | exact (Kd.C_below HR0_0.out HB.out) | (with_reducible refine Kd.C_alloc ?_ _) | (with_reducible refine Kd.C_drewN ?_ _) | (with_reducible refine Kd.C_drew ?_)))
 (case side2 => exact HC0_0.out)
 rintro e w13 ⟨rfl, hb⟩
 refine ⟨_, rfl, ?_⟩
 have n0_ := A0_ (blk_below (g := gb635) (o := .cells #[.slice A0_0 l0_0.length c0_0, .int .i64 a0_1, .int .i64 a0_2, .int .i64 a0_3, .int .i64 a0_4] 96 (0, 0)) (bd_ BK635.out) hb); have n1_ := A0_ (blk_below (g := gb636) (o := .cells #[.slice A0_0 l0_0.length c0_0, .int .i64 a0_1, .int .i64 a0_2, .int .i64 a0_3, .int .i64 (wrap64 (a0_4 - 1))] 96 (0, 0)) (bd_ BK636.out) hb); have n2_ := A0_ (below_step y32_ hb); clear BK635; clear BK636; clear HB; have BK635 := n0_; have BK636 := n1_; have HB := n2_; clear n0_ n1_ n2_; (try clear hb); (try clear hb2); (try clear hk); (try clear hi)
 refine hK.out _ _ ⟨(blk_cell BK636.out 0).trans rfl, (blk_cell BK636.out 1).trans rfl, (blk_cell BK636.out 2).trans rfl, (blk_cell BK636.out 3).trans rfl, (blk_cell BK636.out 4).trans rfl, (blk_cell BK635.out 0).trans rfl, (blk_cell BK635.out 1).trans rfl, (blk_cell BK635.out 2).trans rfl, (blk_cell BK635.out 3).trans rfl, (blk_cell BK635.out 4).trans rfl⟩ (fun hHeld => ?_)
 clear hK K
 refine norm_ (a' := ?_) ?_ ?_
 rotate_left
 ·show Act.put _ (some 53) _ = _
  simp only [Act.put, List.setIfInBounds_toArray, List.set_cons_zero, List.set_cons_succ, i64_w, i32_w]
  rfl
 refine one_ (i := 3) (N := some 55) #[true, true, true, true, false, false] rfl rfl (by kernel_rfl) (by decide) (fun K hK => ?_)
 refine goes_ Tryz.func125 (by kernel_rfl) rfl #[.agg #[.slice A0_0 l0_0.length c0_0, .int .i64 a0_1, .int .i64 a0_2, .int .i64 a0_3, .int .i64 a0_4]] (by rfl) rfl rfl y1_ ?_
 with_reducible refine (ss_lunar.calls k _ _ l0_0 a0_1 a0_2 a0_3 a0_4 t638 _ ?side1 ?side2 A4.out).mono ?_
 (case side1 => repeat (first | exact (Kd.C_below HR0_0.out HB.out) | (with_reducible refine Kd.C_alloc ?_ _) | (with_reducible refine Kd.C_drewN ?_ _) | (with_reducible refine Kd.C_drew ?_)))
 (case side2 => exact HC0_0.out)
 rintro e w14 ⟨rfl, hb⟩
 refine ⟨_, rfl, ?_⟩
 have n0_ := A0_ (blk_below (g := gb635) (o := .cells #[.slice A0_0 l0_0.length c0_0, .int .i64 a0_1, .int .i64 a0_2, .int .i64 a0_3, .int .i64 a0_4] 96 (0, 0)) (bd_ BK635.out) hb); have n1_ := A0_ (blk_below (g := gb636) (o := .cells #[.slice A0_0 l0_0.length c0_0, .int .i64 a0_1, .int .i64 a0_2, .int .i64 a0_3, .int .i64 (wrap64 (a0_4 - 1))] 96 (0, 0)) (bd_ BK636.out) hb); have n2_ := A0_ (below_step y32_ hb); clear BK635; clear BK636; clear HB; have BK635 := n0_; have BK636 := n1_; have HB := n2_; clear n0_ n1_ n2_; (try clear hb); (try clear hb2); (try clear hk); (try clear hi)
 refine hK.out _ _ ⟨(blk_cell BK636.out 0).trans rfl, (blk_cell BK636.out 1).trans rfl, (blk_cell BK636.out 2).trans rfl, (blk_cell BK636.out 3).trans rfl, (blk_cell BK636.out 4).trans rfl, (blk_cell BK635.out 0).trans rfl, (blk_cell BK635.out 1).trans rfl, (blk_cell BK635.out 2).trans rfl, (blk_cell BK635.out 3).trans rfl, (blk_cell BK635.out 4).trans rfl⟩ (fun hHeld => ?_)
 clear hK K
 refine norm_ (a' := ?_) ?_ ?_
 rotate_left
 ·show Act.put _ (some 55) _ = _
  simp only [Act.put, List.setIfInBounds_toArray, List.set_cons_zero, List.set_cons_succ, i64_w, i32_w]
  rfl
 refine one_ (i := 4) (N := some 56) #[true, true, true, true, true, false] rfl rfl (by kernel_rfl) (by decide) (fun K hK => ?_)
 refine goes_ Tryz.func124 (by kernel_rfl) rfl #[.int .i64 t637, .int .i64 t638] (by rfl) rfl rfl y1_ ?_
 with_reducible refine (sky_passes.calls t637 t638 t639 _ A5.out).mono ?_
 rintro e w' ⟨rfl, ⟨nd, rfl⟩⟩
 refine ⟨_, rfl, ?_⟩
 refine hK.out _ _ ⟨(blk_cell BK636.out 0).trans rfl, (blk_cell BK636.out 1).trans rfl, (blk_cell BK636.out 2).trans rfl, (blk_cell BK636.out 3).trans rfl, (blk_cell BK636.out 4).trans rfl, (blk_cell BK635.out 0).trans rfl, (blk_cell BK635.out 1).trans rfl, (blk_cell BK635.out 2).trans rfl, (blk_cell BK635.out 3).trans rfl, (blk_cell BK635.out 4).trans rfl⟩ (fun hHeld => ?_)
 clear hK K
 refine norm_ (a' := ?_) ?_ ?_
 rotate_left
 ·show Act.put _ (some 56) _ = _
  simp only [Act.put, List.setIfInBounds_toArray, List.set_cons_zero, List.set_cons_succ, i64_w, i32_w]
  rfl
 refine pure_ (i := 5) (N := some 4) (v := ?_) (a' := ?_) #[true, true, true, true, true, true] rfl rfl (by kernel_rfl) (fun _ _ _ h => h) (Or.inl ⟨by rfl, ?_⟩) ?_ ?_
 rotate_left
 ·intro w'
  go_simp
  with_reducible rfl
 rotate_left
 ·simp only [Act.put, List.setIfInBounds_toArray, List.set_cons_zero, List.set_cons_succ, i64_w, i32_w]
  rfl
 refine done_ (by kernel_rfl) ?_
 try go_wp2
 go_ret
 exact ⟨y2_, y32_⟩
def at_has_full.f (k : Nat) (l0_0 : List (S83)) (a0_1 : Int) (a0_2 : Int) (a0_3 : Int) (a0_4 : Int)  : Option (Bool) := (ss_lunar.f k l0_0 a0_1 a0_2 a0_3 (wrap64 (a0_4 - 1))).bind fun t643 => ((ss_lunar.f k l0_0 a0_1 a0_2 a0_3 a0_4).bind fun t644 => ((sky_passes.f (wrap64 (t643 - 10800)) (wrap64 (t644 - 10800))).bind fun t645 => (some t645)))
def at_has_full.T9 : Bool × List (List Nat × List Nat) := (true, [([], []), ([0], [0]), ([1], [1]), ([], []), ([3, 1], [3]), ([4], [4]), ([2, 5, 4], [2, 5]), ([6, 6, 0, 1, 2, 3, 4, 5, 6], [6])])
def at_has_full.B9 : List Nat := [0, 1, 3, 0, 11, 27, 63, 127]
theorem at_has_full.tab9 : rtab .any (opsOf Tryz.f90 9) = at_has_full.T9 := by kernel_rfl
theorem at_has_full.bits9 : waitsOk at_has_full.T9.2 at_has_full.B9 = true := by kernel_rfl
set_option maxHeartbeats 8000000 in
set_option maxRecDepth 100000 in
theorem at_has_full.calls (k : Nat) (A0_0 : Option Addr) (c0_0 : Nat) (l0_0 : List (S83)) (a0_1 : Int) (a0_2 : Int) (a0_3 : Int) (a0_4 : Int)  (r : Bool) (w : World) (hr0_0 : Kd.C k83 w A0_0 l0_0.length l0_0) (hc0_0 : l0_0.length ≤ c0_0) (h : at_has_full.f k l0_0 a0_1 a0_2 a0_3 a0_4 = some r) :
  Calls Tryz.prog 90 #[.agg #[.slice A0_0 l0_0.length c0_0, .int .i64 a0_1, .int .i64 a0_2, .int .i64 a0_3, .int .i64 a0_4], .iface 129 (.agg #[])] w fun e w' => e = .returned (.bool r) ∧ Below w.heap.size w w' := by
 have hta118 : ∀ (W : World), (Instr.typeAssert (.iface 129 (.agg #[])) 125 118 true).run Tryz.prog W = .ok (.tuple #[(.agg #[(.int .i64 0), (.int .i64 0)]), .bool false]) W := fun _ => by kernel_rfl
 have hta129 : ∀ (W : World), (Instr.typeAssert (.iface 129 (.agg #[])) 125 129 true).run Tryz.prog W = .ok (.tuple #[(.agg #[]), .bool true]) W := fun _ => by kernel_rfl
 have hu96 := Tryz.underlying96
 have hu28 := Tryz.underlying28
 have hu118 := Tryz.underlying118
 have hu129 := Tryz.underlying129
 have HR0_0 := A0_ hr0_0; have HC0_0 := A0_ hc0_0; clear hr0_0 hc0_0
 have HB := A0_ (Below.refl w.heap.size w)
 have H : ((ss_lunar.f k l0_0 a0_1 a0_2 a0_3 (wrap64 (a0_4 - 1))).bind fun t643 => ((ss_lunar.f k l0_0 a0_1 a0_2 a0_3 a0_4).bind fun t644 => ((sky_passes.f (wrap64 (t643 - 10800)) (wrap64 (t644 - 10800))).bind fun t645 => (some t645)))) = some r := h
 clear h; replace H := Option.bind_eq_some_iff.mp H; obtain ⟨t643, A30, H⟩ := H
 replace H : ((ss_lunar.f k l0_0 a0_1 a0_2 a0_3 a0_4).bind fun t644 => ((sky_passes.f (wrap64 (t643 - 10800)) (wrap64 (t644 - 10800))).bind fun t645 => (some t645))) = some r := H
 have A3 := A0_ A30; clear A30; replace H := Option.bind_eq_some_iff.mp H; obtain ⟨t644, A40, H⟩ := H
 replace H : ((sky_passes.f (wrap64 (t643 - 10800)) (wrap64 (t644 - 10800))).bind fun t645 => (some t645)) = some r := H
 have A4 := A0_ A40; clear A40; replace H := Option.bind_eq_some_iff.mp H; obtain ⟨t645, A50, H⟩ := H
 replace H : (some t645) = some r := H
 have A5 := A0_ A50; clear A50; obtain rfl := Option.some.inj H
 go_enter Tryz.func90, Tryz.ntmps90
 try go_wp2_with (first | ((with_reducible refine gate_dst (N := 2) rfl ?_); refine box_event ?hg (N := 2) ?hd (cs := #[.slice A0_0 l0_0.length c0_0, .int .i64 a0_1, .int .i64 a0_2, .int .i64 a0_3, .int .i64 a0_4]) (t := 96) ?hr ?_; (case hd => rfl); (case hg => rfl); (case hr => first | (go_simp; done) | (go_simp; rfl)); intro gb640 hg w6 hbox hb; have n0_ := A0_ (below_step y0_ hb); have n1_ := A0_ (hbox); have n2_ := A0_ ((by rw [hg]; exact (below_size y0_) : w.heap.size ≤ gb640)); have n3_ := A0_ ((by rw [hg]; exact (below_size y0_) : w.heap.size ≤ gb640)); clear HB; have HB := n0_; have BK640 := n1_; have GW640 := n2_; have GE640 := n3_; clear n0_ n1_ n2_ n3_; clear hb hbox hg; obtain ⟨hcz7_0, hcz7_1, hcz7_2, hcz7_3, hcz7_4, hfz7_0, hfz7_1, hfz7_2, hfz7_3, hfz7_4⟩ := bq5_ BK640.out) | ((with_reducible refine gate_dst (N := 5) rfl ?_); refine box_event ?hg (N := 5) ?hd (cs := #[.slice none 0 0, .int .i64 0, .int .i64 0, .int .i64 0, .int .i64 0]) (t := 96) ?hr ?_; (case hd => rfl); (case hg => rfl); (case hr => first | (go_simp; done) | (go_simp; rfl)); intro gb641 hg w8 hbox hb; have n0_ := A0_ (blk_below (g := gb640) (o := .cells #[.slice A0_0 l0_0.length c0_0, .int .i64 a0_1, .int .i64 a0_2, .int .i64 a0_3, .int .i64 a0_4] 96 (0, 0)) (bd_ BK640.out) hb); have n1_ := A0_ (below_step y3e_ hb); have n2_ := A0_ (hbox); have n3_ := A0_ ((by rw [hg]; exact (below_size y3e_) : w.heap.size ≤ gb641)); have n4_ := A0_ ((by rw [hg]; exact (below_size y3e_) : w.heap.size ≤ gb641)); have n5_ := A0_ ((by rw [hg]; exact Nat.ne_of_lt (blk_lt (g := gb640) (o := .cells #[.slice A0_0 l0_0.length c0_0, .int .i64 a0_1, .int .i64 a0_2, .int .i64 a0_3, .int .i64 a0_4] 96 (0, 0)) (bd_ BK640.out)) : gb640 ≠ gb641)); have n6_ := A0_ ((by rw [hg]; exact Nat.ne_of_gt (blk_lt (g := gb640) (o := .cells #[.slice A0_0 l0_0.length c0_0, .int .i64 a0_1, .int .i64 a0_2, .int .i64 a0_3, .int .i64 a0_4] 96 (0, 0)) (bd_ BK640.out)) : gb641 ≠ gb640)); clear BK640; clear HB; have BK640 := n0_; have HB := n1_; have BK641 := n2_; have GW641 := n3_; have GE641 := n4_; have NB640_641 := n5_; have NB641_640 := n6_; clear n0_ n1_ n2_ n3_ n4_ n5_ n6_; clear hb hbox hg; have hnb9 := NB641_640.out; have hnc9 := NB640_641.out; obtain ⟨hcz10_0, hcz10_1, hcz10_2, hcz10_3, hcz10_4, hfz10_0, hfz10_1, hfz10_2, hfz10_3, hfz10_4⟩ := bq5_ BK641.out) | ((with_reducible refine gate_dst (N := 9) rfl ?_); refine box_event ?hg (N := 9) ?hd (cs := #[]) (t := 129) ?hr ?_; (case hd => rfl); (case hg => rfl); (case hr => first | (go_simp; done) | (go_simp; rfl)); intro gb642 hg w11 hbox hb; have n0_ := A0_ (blk_below (g := gb640) (o := .cells #[.slice A0_0 l0_0.length c0_0, .int .i64 a0_1, .int .i64 a0_2, .int .i64 a0_3, .int .i64 a0_4] 96 (0, 0)) y1i_ hb); have n1_ := A0_ (blk_below (g := gb641) (o := .cells #[.slice A0_0 l0_0.length c0_0, .int .i64 a0_1, .int .i64 a0_2, .int .i64 a0_3, .int .i64 (wrap64 (a0_4 - 1))] 96 (0, 0)) ym_ hb); have n2_ := A0_ (below_step y37_ hb); have n3_ := A0_ (hbox); have n4_ := A0_ ((by rw [hg]; exact (below_size y37_) : w.heap.size ≤ gb642)); have n5_ := A0_ ((by rw [hg]; exact (below_size y37_) : w.heap.size ≤ gb642)); have n6_ := A0_ ((by rw [hg]; exact Nat.ne_of_lt (blk_lt (g := gb640) (o := .cells #[.slice A0_0 l0_0.length c0_0, .int .i64 a0_1, .int .i64 a0_2, .int .i64 a0_3, .int .i64 a0_4] 96 (0, 0)) y1i_) : gb640 ≠ gb642)); have n7_ := A0_ ((by rw [hg]; exact Nat.ne_of_gt (blk_lt (g := gb640) (o := .cells #[.slice A0_0 l0_0.length c0_0, .int .i64 a0_1, .int .i64 a0_2, .int .i64 a0_3, .int .i64 a0_4] 96 (0, 0)) y1i_) : gb642 ≠ gb640)); have n8_ := A0_ ((by rw [hg]; exact Nat.ne_of_lt (blk_lt (g := gb641) (o := .cells #[.slice A0_0 l0_0.length c0_0, .int .i64 a0_1, .int .i64 a0_2, .int .i64 a0_3, .int .i64 (wrap64 (a0_4 - 1))] 96 (0, 0)) ym_) : gb641 ≠ gb642)); have n9_ := A0_ ((by rw [hg]; exact Nat.ne_of_gt (blk_lt (g := gb641) (o := .cells #[.slice A0_0 l0_0.length c0_0, .int .i64 a0_1, .int .i64 a0_2, .int .i64 a0_3, .int .i64 (wrap64 (a0_4 - 1))] 96 (0, 0)) ym_) : gb642 ≠ gb641)); clear BK640; clear BK641; clear HB; have BK640 := n0_; have BK641 := n1_; have HB := n2_; have BK642 := n3_; have GW642 := n4_; have GE642 := n5_; have NB640_642 := n6_; have NB642_640 := n7_; have NB641_642 := n8_; have NB642_641 := n9_; clear n0_ n1_ n2_ n3_ n4_ n5_ n6_ n7_ n8_ n9_; clear hb hbox hg))
 have n0_ := A0_ (blk_drew BK640.out); have n1_ := A0_ (blk_drew BK641.out); have n2_ := A0_ (blk_drew BK642.out); have n3_ := A0_ (below_drew1 HB.out); clear BK640; clear BK641; clear BK642; clear HB; have BK640 := n0_; have BK641 := n1_; have BK642 := n2_; have HB := n3_; clear n0_ n1_ n2_ n3_
 refine start_ (n := 8) (S := fun w' => w'.cell? ⟨gb641, 0, none⟩ = some (.slice A0_0 l0_0.length c0_0) ∧ w'.cell? ⟨gb641, 1, none⟩ = some (.int .i64 a0_1) ∧ w'.cell? ⟨gb641, 2, none⟩ = some (.int .i64 a0_2) ∧ w'.cell? ⟨gb641, 3, none⟩ = some (.int .i64 a0_3) ∧ w'.cell? ⟨gb641, 4, none⟩ = some (.int .i64 (wrap64 (a0_4 - 1))) ∧ w'.cell? ⟨gb640, 0, none⟩ = some (.slice A0_0 l0_0.length c0_0) ∧ w'.cell? ⟨gb640, 1, none⟩ = some (.int .i64 a0_1) ∧ w'.cell? ⟨gb640, 2, none⟩ = some (.int .i64 a0_2) ∧ w'.cell? ⟨gb640, 3, none⟩ = some (.int .i64 a0_3) ∧ w'.cell? ⟨gb640, 4, none⟩ = some (.int .i64 a0_4)) (ds := []) #[false, false, false, false, false, false, false, false] (by kernel_rfl) rfl rfl ⟨(blk_cell BK641.out 0).trans rfl, (blk_cell BK641.out 1).trans rfl, (blk_cell BK641.out 2).trans rfl, (blk_cell BK641.out 3).trans rfl, (blk_cell BK641.out 4).trans rfl, (blk_cell BK640.out 0).trans rfl, (blk_cell BK640.out 1).trans rfl, (blk_cell BK640.out 2).trans rfl, (blk_cell BK640.out 3).trans rfl, (blk_cell BK640.out 4).trans rfl⟩ (fun hHeld => ?_); refine with_tabW at_has_full.tab9 at_has_full.bits9 (fun HT_ HW_ => ?_)
 generalize w11.drew = w12 at BK640 BK641 BK642 HB hHeld ⊢
 refine ta_ (i := 0) (N := some 45) ?_; refine ta_ (i := 3) (N := some 48) ?_
 refine one_ (i := 1) (N := some 46) #[true, true, false, true, false, false, false, false] rfl rfl (one_of HT_.out (by kernel_rfl)) (by decide) (fun K hK => ?_)
 refine goes_ Tryz.func125 (by kernel_rfl) rfl #[.agg #[.slice A0_0 l0_0.length c0_0, .int .i64 a0_1, .int .i64 a0_2, .int .i64 a0_3, .int .i64 (wrap64 (a0_4 - 1))]] (by rfl) rfl rfl y1_ ?_
 with_reducible refine (ss_lunar.calls k _ _ l0_0 a0_1 a0_2 a0_3 (wrap64 (a0_4 - 1)) t643 _ ?side1 ?side2 A3.out).mono ?_
 (case side1 => repeat (first | exact (Kd.C_below HR0_0.out HB.out) | (with_reducible refine Kd.C_alloc ?_ _) | (with_reducible refine Kd.C_drewN ?_ _) | (with_reducible refine Kd.C_drew ?_)))
 (case side2 => exact HC0_0.out)
 rintro e w13 ⟨rfl, hb⟩
 refine ⟨_, rfl, ?_⟩
 have n0_ := A0_ (blk_below (g := gb640) (o := .cells #[.slice A0_0 l0_0.length c0_0, .int .i64 a0_1, .int .i64 a0_2, .int .i64 a0_3, .int .i64 a0_4] 96 (0, 0)) (bd_ BK640.out) hb); have n1_ := A0_ (blk_below (g := gb641) (o := .cells #[.slice A0_0 l0_0.length c0_0, .int .i64 a0_1, .int .i64 a0_2, .int .i64 a0_3, .int .i64 (wrap64 (a0_4 - 1))] 96 (0, 0)) (bd_ BK641.out) hb); have n2_ := A0_ (blk_below (g := gb642) (o := .cells #[] 129 (0, 0)) (bd_ BK642.out) hb); have n3_ := A0_ (below_step y36_ hb); clear BK640; clear BK641; clear BK642; clear HB; have BK640 := n0_; have BK641 := n1_; have BK642 := n2_; have HB := n3_; clear n0_ n1_ n2_ n3_; (try clear hb); (try clear hb2); (try clear hk); (try clear hi)
 refine hK.out _ _ ⟨(blk_cell BK641.out 0).trans rfl, (blk_cell BK641.out 1).trans rfl, (blk_cell BK641.out 2).trans rfl, (blk_cell BK641.out 3).trans rfl, (blk_cell BK641.out 4).trans rfl, (blk_cell BK640.out 0).trans rfl, (blk_cell BK640.out 1).trans rfl, (blk_cell BK640.out 2).trans rfl, (blk_cell BK640.out 3).trans rfl, (blk_cell BK640.out 4).trans rfl⟩ (fun hHeld => ?_)
 clear hK K
 refine norm_ (a' := ?_) ?_ ?_
 rotate_left
 ·show Act.put _ (some 46) _ = _
  simp only [Act.put, List.setIfInBounds_toArray, List.set_cons_zero, List.set_cons_succ, i64_w, i32_w]
  rfl
 refine pu_ (i := 2) (N := some 47) ?_
 refine one_ (i := 4) (N := some 49) #[true, true, true, true, true, false, false, false] rfl rfl (one_of HT_.out (by kernel_rfl)) (by decide) (fun K hK => ?_)
 refine goes_ Tryz.func125 (by kernel_rfl) rfl #[.agg #[.slice A0_0 l0_0.length c0_0, .int .i64 a0_1, .int .i64 a0_2, .int .i64 a0_3, .int .i64 a0_4]] (by rfl) rfl rfl y1_ ?_
 with_reducible refine (ss_lunar.calls k _ _ l0_0 a0_1 a0_2 a0_3 a0_4 t644 _ ?side1 ?side2 A4.out).mono ?_
 (case side1 => repeat (first | exact (Kd.C_below HR0_0.out HB.out) | (with_reducible refine Kd.C_alloc ?_ _) | (with_reducible refine Kd.C_drewN ?_ _) | (with_reducible refine Kd.C_drew ?_)))
 (case side2 => exact HC0_0.out)
 rintro e w14 ⟨rfl, hb⟩
 refine ⟨_, rfl, ?_⟩
 have n0_ := A0_ (blk_below (g := gb640) (o := .cells #[.slice A0_0 l0_0.length c0_0, .int .i64 a0_1, .int .i64 a0_2, .int .i64 a0_3, .int .i64 a0_4] 96 (0, 0)) (bd_ BK640.out) hb); have n1_ := A0_ (blk_below (g := gb641) (o := .cells #[.slice A0_0 l0_0.length c0_0, .int .i64 a0_1, .int .i64 a0_2, .int .i64 a0_3, .int .i64 (wrap64 (a0_4 - 1))] 96 (0, 0)) (bd_ BK641.out) hb); have n2_ := A0_ (blk_below (g := gb642) (o := .cells #[] 129 (0, 0)) (bd_ BK642.out) hb); have n3_ := A0_ (below_step y36_ hb); clear BK640; clear BK641; clear BK642; clear HB; have BK640 := n0_; have BK641 := n1_; have BK642 := n2_; have HB := n3_; clear n0_ n1_ n2_ n3_; (try clear hb); (try clear hb2); (try clear hk); (try clear hi)
 refine hK.out _ _ ⟨(blk_cell BK641.out 0).trans rfl, (blk_cell BK641.out 1).trans rfl, (blk_cell BK641.out 2).trans rfl, (blk_cell BK641.out 3).trans rfl, (blk_cell BK641.out 4).trans rfl, (blk_cell BK640.out 0).trans rfl, (blk_cell BK640.out 1).trans rfl, (blk_cell BK640.out 2).trans rfl, (blk_cell BK640.out 3).trans rfl, (blk_cell BK640.out 4).trans rfl⟩ (fun hHeld => ?_)
 clear hK K
 refine norm_ (a' := ?_) ?_ ?_
 rotate_left
 ·show Act.put _ (some 49) _ = _
  simp only [Act.put, List.setIfInBounds_toArray, List.set_cons_zero, List.set_cons_succ, i64_w, i32_w]
  rfl
 refine pu_ (i := 5) (N := some 50) ?_
 refine one_ (i := 6) (N := some 51) #[true, true, true, true, true, true, true, false] rfl rfl (one_of HT_.out (by kernel_rfl)) (by decide) (fun K hK => ?_)
 refine goes_ Tryz.func124 (by kernel_rfl) rfl #[.int .i64 (wrap64 (t643 - 10800)), .int .i64 (wrap64 (t644 - 10800))] (by rfl) rfl rfl y1_ ?_
 with_reducible refine (sky_passes.calls (wrap64 (t643 - 10800)) (wrap64 (t644 - 10800)) t645 _ A5.out).mono ?_
 rintro e w' ⟨rfl, ⟨nd, rfl⟩⟩
 refine ⟨_, rfl, ?_⟩
 refine hK.out _ _ ⟨(blk_cell BK641.out 0).trans rfl, (blk_cell BK641.out 1).trans rfl, (blk_cell BK641.out 2).trans rfl, (blk_cell BK641.out 3).trans rfl, (blk_cell BK641.out 4).trans rfl, (blk_cell BK640.out 0).trans rfl, (blk_cell BK640.out 1).trans rfl, (blk_cell BK640.out 2).trans rfl, (blk_cell BK640.out 3).trans rfl, (blk_cell BK640.out 4).trans rfl⟩ (fun hHeld => ?_)
 clear hK K
 refine norm_ (a' := ?_) ?_ ?_
 rotate_left
 ·show Act.put _ (some 51) _ = _
  simp only [Act.put, List.setIfInBounds_toArray, List.set_cons_zero, List.set_cons_succ, i64_w, i32_w]
  rfl
 refine pu_ (i := 7) (N := some 4) ?_
 refine done_ (done_of HT_.out (by kernel_rfl)) ?_
 try go_wp2
 go_ret
 exact ⟨y2_, y36_⟩
def at_has_meet.f (k : Nat) (l0_0 : List (S83)) (a0_1 : Int) (a0_2 : Int) (a0_3 : Int) (a0_4 : Int) (a1_0 : Int) (a1_1 : Int) : Option (Bool) := (ss_ahead.f k l0_0 a0_1 a0_2 a0_3 (wrap64 (a0_4 - 1)) a1_0 a1_1).bind fun t649 => ((ss_ahead.f k l0_0 a0_1 a0_2 a0_3 a0_4 a1_0 a1_1).bind fun t650 => ((sky_passes.f t649 t650).bind fun t651 => (if t651 = true then (some true) else ((sky_passes.f (wrap64 (-t649)) (wrap64 (-t650))).bind fun t652 => (some t652)))))
def at_has_meet.T5 : Bool × List (List Nat × List Nat) := (true, [([], []), ([], []), ([1], [1]), ([], []), ([3], [3]), ([0, 2, 4], [0, 2, 4]), ([], []), ([], []), ([7], [7]), ([], []), ([9], [9]), ([6, 8, 10, 5], [6, 8, 10]), ([5, 11, 0, 1, 2, 3, 4, 5], [5]), ([11, 12, 0, 1, 2, 3, 4, 5, 6, 7, 8, 9, 10, 11, 12], [11])])
def at_has_meet.B5 : List Nat := [0, 0, 2, 0, 8, 31, 0, 0, 128, 0, 512, 2047, 4095, 8191]
theorem at_has_meet.tab5 : rtab .any (opsOf Tryz.f90 5) = at_has_meet.T5 := by kernel_rfl
theorem at_has_meet.bits5 : waitsOk at_has_meet.T5.2 at_has_meet.B5 = true := by kernel_rfl
set_option maxHeartbeats 8000000 in
set_option maxRecDepth 100000 in
theorem at_has_meet.calls (k : Nat) (A0_0 : Option Addr) (c0_0 : Nat) (l0_0 : List (S83)) (a0_1 : Int) (a0_2 : Int) (a0_3 : Int) (a0_4 : Int) (a1_0 : Int) (a1_1 : Int) (r : Bool) (w : World) (hr0_0 : Kd.C k83 w A0_0 l0_0.length l0_0) (hc0_0 : l0_0.length ≤ c0_0) (h : at_has_meet.f k l0_0 a0_1 a0_2 a0_3 a0_4 a1_0 a1_1 = some r) :
  Calls Tryz.prog 90 #[.agg #[.slice A0_0 l0_0.length c0_0, .int .i64 a0_1, .int .i64 a0_2, .int .i64 a0_3, .int .i64 a0_4], .iface 118 (.agg #[.int .i64 a1_0, .int .i64 a1_1])] w fun e w' => e = .returned (.bool r) ∧ Below w.heap.size w w' := by
 have hta118 : ∀ (x0 x1 : Value) (W : World), (Instr.typeAssert (.iface 118 (.agg #[x0, x1])) 125 118 true).run Tryz.prog W = .ok (.tuple #[(.agg #[x0, x1]), .bool true]) W := fun _ _ _ => by kernel_rfl
 have hta129 : ∀ (x0 x1 : Value) (W : World), (Instr.typeAssert (.iface 118 (.agg #[x0, x1])) 125 129 true).run Tryz.prog W = .ok (.tuple #[(.agg #[]), .bool false]) W := fun _ _ _ => by kernel_rfl
 have hu96 := Tryz.underlying96
 have hu28 := Tryz.underlying28
 have hu118 := Tryz.underlying118
 have hu129 := Tryz.underlying129
 have HR0_0 := A0_ hr0_0; have HC0_0 := A0_ hc0_0; clear hr0_0 hc0_0
 have HB := A0_ (Below.refl w.heap.size w)
 have H : ((ss_ahead.f k l0_0 a0_1 a0_2 a0_3 (wrap64 (a0_4 - 1)) a1_0 a1_1).bind fun t649 => ((ss_ahead.f k l0_0 a0_1 a0_2 a0_3 a0_4 a1_0 a1_1).bind fun t650 => ((sky_passes.f t649 t650).bind fun t651 => (if t651 = true then (some true) else ((sky_passes.f (wrap64 (-t649)) (wrap64 (-t650))).bind fun t652 => (some t652)))))) = some r := h
 clear h; replace H := Option.bind_eq_some_iff.mp H; obtain ⟨t649, A30, H⟩ := H
 replace H : ((ss_ahead.f k l0_0 a0_1 a0_2 a0_3 a0_4 a1_0 a1_1).bind fun t650 => ((sky_passes.f t649 t650).bind fun t651 => (if t651 = true then (some true) else ((sky_passes.f (wrap64 (-t649)) (wrap64 (-t650))).bind fun t652 => (some t652))))) = some r := H
 have A3 := A0_ A30; clear A30; replace H := Option.bind_eq_some_iff.mp H; obtain ⟨t650, A40, H⟩ := H
 replace H : ((sky_passes.f t649 t650).bind fun t651 => (if t651 = true then (some true) else ((sky_passes.f (wrap64 (-t649)) (wrap64 (-t650))).bind fun t652 => (some t652)))) = some r := H
 have A4 := A0_ A40; clear A40; replace H := Option.bind_eq_some_iff.mp H; obtain ⟨t651, A50, H⟩ := H
 replace H : (if t651 = true then (some true) else ((sky_passes.f (wrap64 (-t649)) (wrap64 (-t650))).bind fun t652 => (some t652))) = some r := H
 have A5 := A0_ A50; clear A50
 by_cases c6 : t651 = true
 ·subst c6
  have H1 : (some true) = some r := by rw [if_pos rfl] at H; exact H
  clear H; have H := H1; clear H1; obtain rfl := Option.some.inj H
  go_enter Tryz.func90, Tryz.ntmps90
  try go_wp2_with (first | ((with_reducible refine gate_dst (N := 2) rfl ?_); refine box_event ?hg (N := 2) ?hd (cs := #[.slice A0_0 l0_0.length c0_0, .int .i64 a0_1, .int .i64 a0_2, .int .i64 a0_3, .int .i64 a0_4]) (t := 96) ?hr ?_; (case hd => rfl); (case hg => rfl); (case hr => first | (go_simp; done) | (go_simp; rfl)); intro gb646 hg w7 hbox hb; have n0_ := A0_ (below_step y0_ hb); have n1_ := A0_ (hbox); have n2_ := A0_ ((by rw [hg]; exact (below_size y0_) : w.heap.size ≤ gb646)); have n3_ := A0_ ((by rw [hg]; exact (below_size y0_) : w.heap.size ≤ gb646)); clear HB; have HB := n0_; have BK646 := n1_; have GW646 := n2_; have GE646 := n3_; clear n0_ n1_ n2_ n3_; clear hb hbox hg; obtain ⟨hcz8_0, hcz8_1, hcz8_2, hcz8_3, hcz8_4, hfz8_0, hfz8_1, hfz8_2, hfz8_3, hfz8_4⟩ := bq5_ BK646.out) | ((with_reducible refine gate_dst (N := 5) rfl ?_); refine box_event ?hg (N := 5) ?hd (cs := #[.slice none 0 0, .int .i64 0, .int .i64 0, .int .i64 0, .int .i64 0]) (t := 96) ?hr ?_; (case hd => rfl); (case hg => rfl); (case hr => first | (go_simp; done) | (go_simp; rfl)); intro gb647 hg w9 hbox hb; have n0_ := A0_ (blk_below (g := gb646) (o := .cells #[.slice A0_0 l0_0.length c0_0, .int .i64 a0_1, .int .i64 a0_2, .int .i64 a0_3, .int .i64 a0_4] 96 (0, 0)) (bd_ BK646.out) hb); have n1_ := A0_ (below_step y26_ hb); have n2_ := A0_ (hbox); have n3_ := A0_ ((by rw [hg]; exact (below_size y26_) : w.heap.size ≤ gb647)); have n4_ := A0_ ((by rw [hg]; exact (below_size y26_) : w.heap.size ≤ gb647)); have n5_ := A0_ ((by rw [hg]; exact Nat.ne_of_lt (blk_lt (g := gb646) (o := .cells #[.slice A0_0 l0_0.length c0_0, .int .i64 a0_1, .int .i64 a0_2, .int .i64 a0_3, .int .i64 a0_4] 96 (0, 0)) (bd_ BK646.out)) : gb646 ≠ gb647)); have n6_ := A0_ ((by rw [hg]; exact Nat.ne_of_gt (blk_lt (g := gb646) (o := .cells #[.slice A0_0 l0_0.length c0_0, .int .i64 a0_1, .int .i64 a0_2, .int .i64 a0_3, .int .i64 a0_4] 96 (0, 0)) (bd_ BK646.out)) : gb647 ≠ gb646)); clear BK646; clear HB; have BK646 := n0_; have HB := n1_; have BK647 := n2_; have GW647 := n3_; have GE647 := n4_; have NB646_647 := n5_; have NB647_646 := n6_; clear n0_ n1_ n2_ n3_ n4_ n5_ n6_; clear hb hbox hg; have hnb10 := NB647_646.out; have hnc10 := NB646_647.out; obtain ⟨hcz11_0, hcz11_1, hcz11_2, hcz11_3, hcz11_4, hfz11_0, hfz11_1, hfz11_2, hfz11_3, hfz11_4⟩ := bq5_ BK647.out) | ((with_reducible refine gate_dst (N := 6) rfl ?_); refine box_event ?hg (N := 6) ?hd (cs := #[.int .i64 0, .int .i64 0]) (t := 118) ?hr ?_; (case hd => rfl); (case hg => rfl); (case hr => first | (go_simp; done) | (go_simp; rfl)); intro gb648 hg w12 hbox hb; have n0_ := A0_ (blk_below (g := gb646) (o := .cells #[.slice A0_0 l0_0.length c0_0, .int .i64 a0_1, .int .i64 a0_2, .int .i64 a0_3, .int .i64 a0_4] 96 (0, 0)) y7_ hb); have n1_ := A0_ (blk_below (g := gb647) (o := .cells #[.slice A0_0 l0_0.length c0_0, .int .i64 a0_1, .int .i64 a0_2, .int .i64 a0_3, .int .i64 (wrap64 (a0_4 - 1))] 96 (0, 0)) y4_ hb); have n2_ := A0_ (below_step y20_ hb); have n3_ := A0_ (hbox); have n4_ := A0_ ((by rw [hg]; exact (below_size y20_) : w.heap.size ≤ gb648)); have n5_ := A0_ ((by rw [hg]; exact (below_size y20_) : w.heap.size ≤ gb648)); have n6_ := A0_ ((by rw [hg]; exact Nat.ne_of_lt (blk_lt (g := gb646) (o := .cells #[.slice A0_0 l0_0.length c0_0, .int .i64 a0_1, .int .i64 a0_2, .int .i64 a0_3, .int .i64 a0_4] 96 (0, 0)) y7_) : gb646 ≠ gb648)); have n7_ := A0_ ((by rw [hg]; exact Nat.ne_of_gt (blk_lt (g := gb646) (o := .cells #[.slice A0_0 l0_0.length c0_0, .int .i64 a0_1, .int .i64 a0_2, .int .i64 a0_3, .int .i64 a0_4] 96 (0, 0)) y7_) : gb648 ≠ gb646)); have n8_ := A0_ ((by rw [hg]; exact Nat.ne_of_lt (blk_lt (g := gb647) (o := .cells #[.slice A0_0 l0_0.length c0_0, .int .i64 a0_1, .int .i64 a0_2, .int .i64 a0_3, .int .i64 (wrap64 (a0_4 - 1))] 96 (0, 0)) y4_) : gb647 ≠ gb648)); have n9_ := A0_ ((by rw [hg]; exact Nat.ne_of_gt (blk_lt (g := gb647) (o := .cells #[.slice A0_0 l0_0.length c0_0, .int .i64 a0_1, .int .i64 a0_2, .int .i64 a0_3, .int .i64 (wrap64 (a0_4 - 1))] 96 (0, 0)) y4_) : gb648 ≠ gb647)); clear BK646; clear BK647; clear HB; have BK646 := n0_; have BK647 := n1_; have HB := n2_; have BK648 := n3_; have GW648 := n4_; have GE648 := n5_; have NB646_648 := n6_; have NB648_646 := n7_; have NB647_648 := n8_; have NB648_647 := n9_; clear n0_ n1_ n2_ n3_ n4_ n5_ n6_ n7_ n8_ n9_; clear hb hbox hg; have hnb13 := NB648_646.out; have hnc13 := NB646_648.out; have hnb14 := NB648_647.out; have hnc14 := NB647_648.out; obtain ⟨hcz15_0, hcz15_1, hfz15_0, hfz15_1⟩ := bq2_ BK648.out))
  have n0_ : Aside0 (((w12.setCell ⟨gb648, 0, none⟩ (.int .i64 a1_0)).setCell ⟨gb648, 1, none⟩ (.int .i64 a1_1)).heap[gb646]? = some (.cells #[.slice A0_0 l0_0.length c0_0, .int .i64 a0_1, .int .i64 a0_2, .int .i64 a0_3, .int .i64 a0_4] 96 (0, 0))) := ⟨by (with_reducible repeat (first | refine blk_drewN ?_ _ | refine blk_drew ?_ | refine blk_alloc ?_ _)); refine blk_far ?_ NB646_648.out _; (with_reducible repeat (first | refine blk_drewN ?_ _ | refine blk_drew ?_ | refine blk_alloc ?_ _)); refine blk_far ?_ NB646_648.out _; (with_reducible repeat (first | refine blk_drewN ?_ _ | refine blk_drew ?_ | refine blk_alloc ?_ _)); exact BK646.out⟩
  have n1_ : Aside0 (((w12.setCell ⟨gb648, 0, none⟩ (.int .i64 a1_0)).setCell ⟨gb648, 1, none⟩ (.int .i64 a1_1)).heap[gb647]? = some (.cells #[.slice A0_0 l0_0.length c0_0, .int .i64 a0_1, .int .i64 a0_2, .int .i64 a0_3, .int .i64 (wrap64 (a0_4 - 1))] 96 (0, 0))) := ⟨by (with_reducible repeat (first | refine blk_drewN ?_ _ | refine blk_drew ?_ | refine blk_alloc ?_ _)); refine blk_far ?_ NB647_648.out _; (with_reducible repeat (first | refine blk_drewN ?_ _ | refine blk_drew ?_ | refine blk_alloc ?_ _)); refine blk_far ?_ NB647_648.out _; (with_reducible repeat (first | refine blk_drewN ?_ _ | refine blk_drew ?_ | refine blk_alloc ?_ _)); exact BK647.out⟩
  have n2_ : Aside0 (((w12.setCell ⟨gb648, 0, none⟩ (.int .i64 a1_0)).setCell ⟨gb648, 1, none⟩ (.int .i64 a1_1)).heap[gb648]? = some (.cells #[.int .i64 a1_0, .int .i64 a1_1] 118 (0, 0))) := ⟨by (with_reducible repeat (first | refine blk_drewN ?_ _ | refine blk_drew ?_ | refine blk_alloc ?_ _)); refine blk_put (cs := #[.int .i64 a1_0, .int .i64 0]) ?_ 1 _ rfl; (with_reducible repeat (first | refine blk_drewN ?_ _ | refine blk_drew ?_ | refine blk_alloc ?_ _)); refine blk_put (cs := #[.int .i64 0, .int .i64 0]) ?_ 0 _ rfl; (with_reducible repeat (first | refine blk_drewN ?_ _ | refine blk_drew ?_ | refine blk_alloc ?_ _)); exact BK648.out⟩
  have n3_ : Aside0 (Below w.heap.size w ((w12.setCell ⟨gb648, 0, none⟩ (.int .i64 a1_0)).setCell ⟨gb648, 1, none⟩ (.int .i64 a1_1))) := ⟨y1j_⟩
  (try clear BK646); (try clear BK647); (try clear BK648); (try clear HB)
  generalize ((w12.setCell ⟨gb648, 0, none⟩ (.int .i64 a1_0)).setCell ⟨gb648, 1, none⟩ (.int .i64 a1_1)) = w16 at n0_ n1_ n2_ n3_ ⊢
  have BK646 := n0_; have BK647 := n1_; have BK648 := n2_; have HB := n3_; clear n0_ n1_ n2_ n3_; have n0_ := A0_ (blk_drew BK646.out); have n1_ := A0_ (blk_drew BK647.out); have n2_ := A0_ (blk_drew BK648.out); have n3_ := A0_ (below_drew1 HB.out); clear BK646; clear BK647; clear BK648; clear HB; have BK646 := n0_; have BK647 := n1_; have BK648 := n2_; have HB := n3_; clear n0_ n1_ n2_ n3_
  refine start_ (n := 14) (S := fun w' => w'.cell? ⟨gb647, 0, none⟩ = some (.slice A0_0 l0_0.length c0_0) ∧ w'.cell? ⟨gb647, 1, none⟩ = some (.int .i64 a0_1) ∧ w'.cell? ⟨gb647, 2, none⟩ = some (.int .i64 a0_2) ∧ w'.cell? ⟨gb647, 3, none⟩ = some (.int .i64 a0_3) ∧ w'.cell? ⟨gb647, 4, none⟩ = some (.int .i64 (wrap64 (a0_4 - 1))) ∧ w'.cell? ⟨gb648, 0, none⟩ = some (.int .i64 a1_0) ∧ w'.cell? ⟨gb648, 1, none⟩ = some (.int .i64 a1_1) ∧ w'.cell? ⟨gb646, 0, none⟩ = some (.slice A0_0 l0_0.length c0_0) ∧ w'.cell? ⟨gb646, 1, none⟩ = some (.int .i64 a0_1) ∧ w'.cell? ⟨gb646, 2, none⟩ = some (.int .i64 a0_2) ∧ w'.cell? ⟨gb646, 3, none⟩ = some (.int .i64 a0_3) ∧ w'.cell? ⟨gb646, 4, none⟩ = some (.int .i64 a0_4)) (ds := []) #[false, false, false, false, false, false, false, false, false, false, false, false, false, false] (by kernel_rfl) rfl rfl ⟨(blk_cell BK647.out 0).trans rfl, (blk_cell BK647.out 1).trans rfl, (blk_cell BK647.out 2).trans rfl, (blk_cell BK647.out 3).trans rfl, (blk_cell BK647.out 4).trans rfl, (blk_cell BK648.out 0).trans rfl, (blk_cell BK648.out 1).trans rfl, (blk_cell BK646.out 0).trans rfl, (blk_cell BK646.out 1).trans rfl, (blk_cell BK646.out 2).trans rfl, (blk_cell BK646.out 3).trans rfl, (blk_cell BK646.out 4).trans rfl⟩ (fun hHeld => ?_); refine with_tabW at_has_meet.tab5 at_has_meet.bits5 (fun HT_ HW_ => ?_)
  generalize w16.drew = w17 at BK646 BK647 BK648 HB hHeld ⊢
  refine pu_ (i := 1) (N := some 21) ?_; refine pu_ (i := 3) (N := some 23) ?_; refine pu_ (i := 7) (N := some 27) ?_; refine pu_ (i := 9) (N := some 29) ?_; refine ta_ (i := 0) (N := some 20) ?_; refine ta_ (i := 2) (N := some 22) ?_; refine ta_ (i := 4) (N := some 24) ?_; refine ta_ (i := 6) (N := some 26) ?_; refine ta_ (i := 8) (N := some 28) ?_; refine ta_ (i := 10) (N := some 30) ?_
  refine one_ (i := 5) (N := some 25) #[true, true, true, true, true, true, true, true, true, true, true, false, false, false] rfl rfl (one_of HT_.out (by kernel_rfl)) (by decide) (fun K hK => ?_)
  refine goes_ Tryz.func82 (by kernel_rfl) rfl #[.agg #[.slice A0_0 l0_0.length c0_0, .int .i64 a0_1, .int .i64 a0_2, .int .i64 a0_3, .int .i64 (wrap64 (a0_4 - 1))], .int .i64 a1_0, .int .i64 a1_1] (by rfl) rfl rfl y1_ ?_
  with_reducible refine (ss_ahead.calls k _ _ l0_0 a0_1 a0_2 a0_3 (wrap64 (a0_4 - 1)) a1_0 a1_1 t649 _ ?side1 ?side2 A3.out).mono ?_
  (case side1 => repeat (first | exact (Kd.C_below HR0_0.out HB.out) | (with_reducible refine Kd.C_alloc ?_ _) | (with_reducible refine Kd.C_drewN ?_ _) | (with_reducible refine Kd.C_drew ?_)))
  (case side2 => exact HC0_0.out)
  rintro e w18 ⟨rfl, hb⟩
  refine ⟨_, rfl, ?_⟩
  have n0_ := A0_ (blk_below (g := gb646) (o := .cells #[.slice A0_0 l0_0.length c0_0, .int .i64 a0_1, .int .i64 a0_2, .int .i64 a0_3, .int .i64 a0_4] 96 (0, 0)) (bd_ BK646.out) hb); have n1_ := A0_ (blk_below (g := gb647) (o := .cells #[.slice A0_0 l0_0.length c0_0, .int .i64 a0_1, .int .i64 a0_2, .int .i64 a0_3, .int .i64 (wrap64 (a0_4 - 1))] 96 (0, 0)) (bd_ BK647.out) hb); have n2_ := A0_ (blk_below (g := gb648) (o := .cells #[.int .i64 a1_0, .int .i64 a1_1] 118 (0, 0)) (bd_ BK648.out) hb); have n3_ := A0_ (below_step y1j_ hb); clear BK646; clear BK647; clear BK648; clear HB; have BK646 := n0_; have BK647 := n1_; have BK648 := n2_; have HB := n3_; clear n0_ n1_ n2_ n3_; (try clear hb); (try clear hb2); (try clear hk); (try clear hi)
  refine hK.out _ _ ⟨(blk_cell BK647.out 0).trans rfl, (blk_cell BK647.out 1).trans rfl, (blk_cell BK647.out 2).trans rfl, (blk_cell BK647.out 3).trans rfl, (blk_cell BK647.out 4).trans rfl, (blk_cell BK648.out 0).trans rfl, (blk_cell BK648.out 1).trans rfl, (blk_cell BK646.out 0).trans rfl, (blk_cell BK646.out 1).trans rfl, (blk_cell BK646.out 2).trans rfl, (blk_cell BK646.out 3).trans rfl, (blk_cell BK646.out 4).trans rfl⟩ (fun hHeld => ?_)
  clear hK K
  refine norm_ (a' := ?_) ?_ ?_
  rotate_left
  ·show Act.put _ (some 25) _ = _
   simp only [Act.put, List.setIfInBounds_toArray, List.set_cons_zero, List.set_cons_succ, i64_w, i32_w]
   rfl
  refine one_ (i := 11) (N := some 31) #[true, true, true, true, true, true, true, true, true, true, true, true, false, false] rfl rfl (one_of HT_.out (by kernel_rfl)) (by decide) (fun K hK => ?_)
  refine goes_ Tryz.func82 (by kernel_rfl) rfl #[.agg #[.slice A0_0 l0_0.length c0_0, .int .i64 a0_1, .int .i64 a0_2, .int .i64 a0_3, .int .i64 a0_4], .int .i64 a1_0, .int .i64 a1_1] (by rfl) rfl rfl y1_ ?_
  with_reducible refine (ss_ahead.calls k _ _ l0_0 a0_1 a0_2 a0_3 a0_4 a1_0 a1_1 t650 _ ?side1 ?side2 A4.out).mono ?_
  (case side1 => repeat (first | exact (Kd.C_below HR0_0.out HB.out) | (with_reducible refine Kd.C_alloc ?_ _) | (with_reducible refine Kd.C_drewN ?_ _) | (with_reducible refine Kd.C_drew ?_)))
  (case side2 => exact HC0_0.out)
  rintro e w19 ⟨rfl, hb⟩
  refine ⟨_, rfl, ?_⟩
  have n0_ := A0_ (blk_below (g := gb646) (o := .cells #[.slice A0_0 l0_0.length c0_0, .int .i64 a0_1, .int .i64 a0_2, .int .i64 a0_3, .int .i64 a0_4] 96 (0, 0)) (bd_ BK646.out) hb); have n1_ := A0_ (blk_below (g := gb647) (o := .cells #[.slice A0_0 l0_0.length c0_0, .int .i64 a0_1, .int .i64 a0_2, .int .i64 a0_3, .int .i64 (wrap64 (a0_4 - 1))] 96 (0, 0)) (bd_ BK647.out) hb); have n2_ := A0_ (blk_below (g := gb648) (o := .cells #[.int .i64 a1_0, .int .i64 a1_1] 118 (0, 0)) (bd_ BK648.out) hb); have n3_ := A0_ (below_step y1j_ hb); clear BK646; clear BK647; clear BK648; clear HB; have BK646 := n0_; have BK647 := n1_; have BK648 := n2_; have HB := n3_; clear n0_ n1_ n2_ n3_; (try clear hb); (try clear hb2); (try clear hk); (try clear hi)
  refine hK.out _ _ ⟨(blk_cell BK647.out 0).trans rfl, (blk_cell BK647.out 1).trans rfl, (blk_cell BK647.out 2).trans rfl, (blk_cell BK647.out 3).trans rfl, (blk_cell BK647.out 4).trans rfl, (blk_cell BK648.out 0).trans rfl, (blk_cell BK648.out 1).trans rfl, (blk_cell BK646.out 0).trans rfl, (blk_cell BK646.out 1).trans rfl, (blk_cell BK646.out 2).trans rfl, (blk_cell BK646.out 3).trans rfl, (blk_cell BK646.out 4).trans rfl⟩ (fun hHeld => ?_)
  clear hK K
  refine norm_ (a' := ?_) ?_ ?_
  rotate_left
  ·show Act.put _ (some 31) _ = _
   simp only [Act.put, List.setIfInBounds_toArray, List.set_cons_zero, List.set_cons_succ, i64_w, i32_w]
   rfl
  refine pu_ (i := 12) (N := some 7) ?_; refine pu_ (i := 13) (N := some 8) ?_
  refine done_ (done_of HT_.out (by kernel_rfl)) ?_
  try go_wp2_with (first | (go_at_call 124; (with_reducible refine (sky_passes.calls t649 t650 true _ A5.out).mono ?_); rintro e w' ⟨rfl, ⟨nd, rfl⟩⟩))
  go_ret
  exact ⟨y2_, y1j_⟩
 ·replace c6 := Bool.eq_false_iff.mpr c6; subst c6
  have H1 : ((sky_passes.f (wrap64 (-t649)) (wrap64 (-t650))).bind fun t652 => (some t652)) = some r := by rw [if_neg (show ¬ (false = true) by decide)] at H; exact H
  clear H; have H := H1; clear H1; replace H := Option.bind_eq_some_iff.mp H; obtain ⟨t652, A200, H⟩ := H
  replace H : (some t652) = some r := H
  have A20 := A0_ A200; clear A200; obtain rfl := Option.some.inj H
  go_enter Tryz.func90, Tryz.ntmps90
  try go_wp2_with (first | ((with_reducible refine gate_dst (N := 2) rfl ?_); refine box_event ?hg (N := 2) ?hd (cs := #[.slice A0_0 l0_0.length c0_0, .int .i64 a0_1, .int .i64 a0_2, .int .i64 a0_3, .int .i64 a0_4]) (t := 96) ?hr ?_; (case hd => rfl); (case hg => rfl); (case hr => first | (go_simp; done) | (go_simp; rfl)); intro gb646 hg w21 hbox hb; have n0_ := A0_ (below_step y0_ hb); have n1_ := A0_ (hbox); have n2_ := A0_ ((by rw [hg]; exact (below_size y0_) : w.heap.size ≤ gb646)); have n3_ := A0_ ((by rw [hg]; exact (below_size y0_) : w.heap.size ≤ gb646)); clear HB; have HB := n0_; have BK646 := n1_; have GW646 := n2_; have GE646 := n3_; clear n0_ n1_ n2_ n3_; clear hb hbox hg; obtain ⟨hcz22_0, hcz22_1, hcz22_2, hcz22_3, hcz22_4, hfz22_0, hfz22_1, hfz22_2, hfz22_3, hfz22_4⟩ := bq5_ BK646.out) | ((with_reducible refine gate_dst (N := 5) rfl ?_); refine box_event ?hg (N := 5) ?hd (cs := #[.slice none 0 0, .int .i64 0, .int .i64 0, .int .i64 0, .int .i64 0]) (t := 96) ?hr ?_; (case hd => rfl); (case hg => rfl); (case hr => first | (go_simp; done) | (go_simp; rfl)); intro gb647 hg w23 hbox hb; have n0_ := A0_ (blk_below (g := gb646) (o := .cells #[.slice A0_0 l0_0.length c0_0, .int .i64 a0_1, .int .i64 a0_2, .int .i64 a0_3, .int .i64 a0_4] 96 (0, 0)) (bd_ BK646.out) hb); have n1_ := A0_ (below_step y26_ hb); have n2_ := A0_ (hbox); have n3_ := A0_ ((by rw [hg]; exact (below_size y26_) : w.heap.size ≤ gb647)); have n4_ := A0_ ((by rw [hg]; exact (below_size y26_) : w.heap.size ≤ gb647)); have n5_ := A0_ ((by rw [hg]; exact Nat.ne_of_lt (blk_lt (g := gb646) (o := .cells #[.slice A0_0 l0_0.length c0_0, .int .i64 a0_1, .int .i64 a0_2, .int .i64 a0_3, .int .i64 a0_4] 96 (0, 0)) (bd_ BK646.out)) : gb646 ≠ gb647)); have n6_ := A0_ ((by rw [hg]; exact Nat.ne_of_gt (blk_lt (g := gb646) (o := .cells #[.slice A0_0 l0_0.length c0_0, .int .i64 a0_1, .int .i64 a0_2, .int .i64 a0_3, .int .i64 a0_4] 96 (0, 0)) (bd_ BK646.out)) : gb647 ≠ gb646)); clear BK646; clear HB; have BK646 := n0_; have HB := n1_; have BK647 := n2_; have GW647 := n3_; have GE647 := n4_; have NB646_647 := n5_; have NB647_646 := n6_; clear n0_ n1_ n2_ n3_ n4_ n5_ n6_; clear hb hbox hg; have hnb24 := NB647_646.out; have hnc24 := NB646_647.out; obtain ⟨hcz25_0, hcz25_1, hcz25_2, hcz25_3, hcz25_4, hfz25_0, hfz25_1, hfz25_2, hfz25_3, hfz25_4⟩ := bq5_ BK647.out) | ((with_reducible refine gate_dst (N := 6) rfl ?_); refine box_event ?hg (N := 6) ?hd (cs := #[.int .i64 0, .int .i64 0]) (t := 118) ?hr ?_; (case hd => rfl); (case hg => rfl); (case hr => first | (go_simp; done) | (go_simp; rfl)); intro gb648 hg w26 hbox hb; have n0_ := A0_ (blk_below (g := gb646) (o := .cells #[.slice A0_0 l0_0.length c0_0, .int .i64 a0_1, .int .i64 a0_2, .int .i64 a0_3, .int .i64 a0_4] 96 (0, 0)) y7_ hb); have n1_ := A0_ (blk_below (g := gb647) (o := .cells #[.slice A0_0 l0_0.length c0_0, .int .i64 a0_1, .int .i64 a0_2, .int .i64 a0_3, .int .i64 (wrap64 (a0_4 - 1))] 96 (0, 0)) y4_ hb); have n2_ := A0_ (below_step y20_ hb); have n3_ := A0_ (hbox); have n4_ := A0_ ((by rw [hg]; exact (below_size y20_) : w.heap.size ≤ gb648)); have n5_ := A0_ ((by rw [hg]; exact (below_size y20_) : w.heap.size ≤ gb648)); have n6_ := A0_ ((by rw [hg]; exact Nat.ne_of_lt (blk_lt (g := gb646) (o := .cells #[.slice A0_0 l0_0.length c0_0, .int .i64 a0_1, .int .i64 a0_2, .int .i64 a0_3, .int .i64 a0_4] 96 (0, 0)) y7_) : gb646 ≠ gb648)); have n7_ := A0_ ((by rw [hg]; exact Nat.ne_of_gt (blk_lt (g := gb646) (o := .cells #[.slice A0_0 l0_0.length c0_0, .int .i64 a0_1, .int .i64 a0_2, .int .i64 a0_3, .int .i64 a0_4] 96 (0, 0)) y7_) : gb648 ≠ gb646)); have n8_ := A0_ ((by rw [hg]; exact Nat.ne_of_lt (blk_lt (g := gb647) (o := .cells #[.slice A0_0 l0_0.length c0_0, .int .i64 a0_1, .int .i64 a0_2, .int .i64 a0_3, .int .i64 (wrap64 (a0_4 - 1))] 96 (0, 0)) y4_) : gb647 ≠ gb648)); have n9_ := A0_ ((by rw [hg]; exact Nat.ne_of_gt (blk_lt (g := gb647) (o := .cells #[.slice A0_0 l0_0.length c0_0, .int .i64 a0_1, .int .i64 a0_2, .int .i64 a0_3, .int .i64 (wrap64 (a0_4 - 1))] 96 (0, 0)) y4_) : gb648 ≠ gb647)); clear BK646; clear BK647; clear HB; have BK646 := n0_; have BK647 := n1_; have HB := n2_; have BK648 := n3_; have GW648 := n4_; have GE648 := n5_; have NB646_648 := n6_; have NB648_646 := n7_; have NB647_648 := n8_; have NB648_647 := n9_; clear n0_ n1_ n2_ n3_ n4_ n5_ n6_ n7_ n8_ n9_; clear hb hbox hg; have hnb27 := NB648_646.out; have hnc27 := NB646_648.out; have hnb28 := NB648_647.out; have hnc28 := NB647_648.out; obtain ⟨hcz29_0, hcz29_1, hfz29_0, hfz29_1⟩ := bq2_ BK648.out))
  have n0_ : Aside0 (((w26.setCell ⟨gb648, 0, none⟩ (.int .i64 a1_0)).setCell ⟨gb648, 1, none⟩ (.int .i64 a1_1)).heap[gb646]? = some (.cells #[.slice A0_0 l0_0.length c0_0, .int .i64 a0_1, .int .i64 a0_2, .int .i64 a0_3, .int .i64 a0_4] 96 (0, 0))) := ⟨by (with_reducible repeat (first | refine blk_drewN ?_ _ | refine blk_drew ?_ | refine blk_alloc ?_ _)); refine blk_far ?_ NB646_648.out _; (with_reducible repeat (first | refine blk_drewN ?_ _ | refine blk_drew ?_ | refine blk_alloc ?_ _)); refine blk_far ?_ NB646_648.out _; (with_reducible repeat (first | refine blk_drewN ?_ _ | refine blk_drew ?_ | refine blk_alloc ?_ _)); exact BK646.out⟩
  have n1_ : Aside0 (((w26.setCell ⟨gb648, 0, none⟩ (.int .i64 a1_0)).setCell ⟨gb648, 1, none⟩ (.int .i64 a1_1)).heap[gb647]? = some (.cells #[.slice A0_0 l0_0.length c0_0, .int .i64 a0_1, .int .i64 a0_2, .int .i64 a0_3, .int .i64 (wrap64 (a0_4 - 1))] 96 (0, 0))) := ⟨by (with_reducible repeat (first | refine blk_drewN ?_ _ | refine blk_drew ?_ | refine blk_alloc ?_ _)); refine blk_far ?_ NB647_648.out _; (with_reducible repeat (first | refine blk_drewN ?_ _ | refine blk_drew ?_ | refine blk_alloc ?_ _)); refine blk_far ?_ NB647_648.out _; (with_reducible repeat (first | refine blk_drewN ?_ _ | refine blk_drew ?_ | refine blk_alloc ?_ _)); exact BK647.out⟩
  have n2_ : Aside0 (((w26.setCell ⟨gb648, 0, none⟩ (.int .i64 a1_0)).setCell ⟨gb648, 1, none⟩ (.int .i64 a1_1)).heap[gb648]? = some (.cells #[.int .i64 a1_0, .int .i64 a1_1] 118 (0, 0))) := ⟨by (with_reducible repeat (first | refine blk_drewN ?_ _ | refine blk_drew ?_ | refine blk_alloc ?_ _)); refine blk_put (cs := #[.int .i64 a1_0, .int .i64 0]) ?_ 1 _ rfl; (with_reducible repeat (first | refine blk_drewN ?_ _ | refine blk_drew ?_ | refine blk_alloc ?_ _)); refine blk_put (cs := #[.int .i64 0, .int .i64 0]) ?_ 0 _ rfl; (with_reducible repeat (first | refine blk_drewN ?_ _ | refine blk_drew ?_ | refine blk_alloc ?_ _)); exact BK648.out⟩
  have n3_ : Aside0 (Below w.heap.size w ((w26.setCell ⟨gb648, 0, none⟩ (.int .i64 a1_0)).setCell ⟨gb648, 1, none⟩ (.int .i64 a1_1))) := ⟨y1j_⟩
  (try clear BK646); (try clear BK647); (try clear BK648); (try clear HB)
  generalize ((w26.setCell ⟨gb648, 0, none⟩ (.int .i64 a1_0)).setCell ⟨gb648, 1, none⟩ (.int .i64 a1_1)) = w30 at n0_ n1_ n2_ n3_ ⊢
  have BK646 := n0_; have BK647 := n1_; have BK648 := n2_; have HB := n3_; clear n0_ n1_ n2_ n3_; have n0_ := A0_ (blk_drew BK646.out); have n1_ := A0_ (blk_drew BK647.out); have n2_ := A0_ (blk_drew BK648.out); have n3_ := A0_ (below_drew1 HB.out); clear BK646; clear BK647; clear BK648; clear HB; have BK646 := n0_; have BK647 := n1_; have BK648 := n2_; have HB := n3_; clear n0_ n1_ n2_ n3_
  refine start_ (n := 14) (S := fun w' => w'.cell? ⟨gb647, 0, none⟩ = some (.slice A0_0 l0_0.length c0_0) ∧ w'.cell? ⟨gb647, 1, none⟩ = some (.int .i64 a0_1) ∧ w'.cell? ⟨gb647, 2, none⟩ = some (.int .i64 a0_2) ∧ w'.cell? ⟨gb647, 3, none⟩ = some (.int .i64 a0_3) ∧ w'.cell? ⟨gb647, 4, none⟩ = some (.int .i64 (wrap64 (a0_4 - 1))) ∧ w'.cell? ⟨gb648, 0, none⟩ = some (.int .i64 a1_0) ∧ w'.cell? ⟨gb648, 1, none⟩ = some (.int .i64 a1_1) ∧ w'.cell? ⟨gb646, 0, none⟩ = some (.slice A0_0 l0_0.length c0_0) ∧ w'.cell? ⟨gb646, 1, none⟩ = some (.int .i64 a0_1) ∧ w'.cell? ⟨gb646, 2, none⟩ = some (.int .i64 a0_2) ∧ w'.cell? ⟨gb646, 3, none⟩ = some (.int .i64 a0_3) ∧ w'.cell? ⟨gb646, 4, none⟩ = some (.int .i64 a0_4)) (ds := []) #[false, false, false, false, false, false, false, false, false, false, false, false, false, false] (by kernel_rfl) rfl rfl ⟨(blk_cell BK647.out 0).trans rfl, (blk_cell BK647.out 1).trans rfl, (blk_cell BK647.out 2).trans rfl, (blk_cell BK647.out 3).trans rfl, (blk_cell BK647.out 4).trans rfl, (blk_cell BK648.out 0).trans rfl, (blk_cell BK648.out 1).trans rfl, (blk_cell BK646.out 0).trans rfl, (blk_cell BK646.out 1).trans rfl, (blk_cell BK646.out 2).trans rfl, (blk_cell BK646.out 3).trans rfl, (blk_cell BK646.out 4).trans rfl⟩ (fun hHeld => ?_); refine with_tabW at_has_meet.tab5 at_has_meet.bits5 (fun HT_ HW_ => ?_)
  generalize w30.drew = w31 at BK646 BK647 BK648 HB hHeld ⊢
  refine pu_ (i := 1) (N := some 21) ?_; refine pu_ (i := 3) (N := some 23) ?_; refine pu_ (i := 7) (N := some 27) ?_; refine pu_ (i := 9) (N := some 29) ?_; refine ta_ (i := 0) (N := some 20) ?_; refine ta_ (i := 2) (N := some 22) ?_; refine ta_ (i := 4) (N := some 24) ?_; refine ta_ (i := 6) (N := some 26) ?_; refine ta_ (i := 8) (N := some 28) ?_; refine ta_ (i := 10) (N := some 30) ?_
  refine one_ (i := 5) (N := some 25) #[true, true, true, true, true, true, true, true, true, true, true, false, false, false] rfl rfl (one_of HT_.out (by kernel_rfl)) (by decide) (fun K hK => ?_)
  refine goes_ Tryz.func82 (by kernel_rfl) rfl #[.agg #[.slice A0_0 l0_0.length c0_0, .int .i64 a0_1, .int .i64 a0_2, .int .i64 a0_3, .int .i64 (wrap64 (a0_4 - 1))], .int .i64 a1_0, .int .i64 a1_1] (by rfl) rfl rfl y1_ ?_
  with_reducible refine (ss_ahead.calls k _ _ l0_0 a0_1 a0_2 a0_3 (wrap64 (a0_4 - 1)) a1_0 a1_1 t649 _ ?side1 ?side2 A3.out).mono ?_
  (case side1 => repeat (first | exact (Kd.C_below HR0_0.out HB.out) | (with_reducible refine Kd.C_alloc ?_ _) | (with_reducible refine Kd.C_drewN ?_ _) | (with_reducible refine Kd.C_drew ?_)))
  (case side2 => exact HC0_0.out)
  rintro e w32 ⟨rfl, hb⟩
  refine ⟨_, rfl, ?_⟩
  have n0_ := A0_ (blk_below (g := gb646) (o := .cells #[.slice A0_0 l0_0.length c0_0, .int .i64 a0_1, .int .i64 a0_2, .int .i64 a0_3, .int .i64 a0_4] 96 (0, 0)) (bd_ BK646.out) hb); have n1_ := A0_ (blk_below (g := gb647) (o := .cells #[.slice A0_0 l0_0.length c0_0, .int .i64 a0_1, .int .i64 a0_2, .int .i64 a0_3, .int .i64 (wrap64 (a0_4 - 1))] 96 (0, 0)) (bd_ BK647.out) hb); have n2_ := A0_ (blk_below (g := gb648) (o := .cells #[.int .i64 a1_0, .int .i64 a1_1] 118 (0, 0)) (bd_ BK648.out) hb); have n3_ := A0_ (below_step y1j_ hb); clear BK646; clear BK647; clear BK648; clear HB; have BK646 := n0_; have BK647 := n1_; have BK648 := n2_; have HB := n3_; clear n0_ n1_ n2_ n3_; (try clear hb); (try clear hb2); (try clear hk); (try clear hi)
  refine hK.out _ _ ⟨(blk_cell BK647.out 0).trans rfl, (blk_cell BK647.out 1).trans rfl, (blk_cell BK647.out 2).trans rfl, (blk_cell BK647.out 3).trans rfl, (blk_cell BK647.out 4).trans rfl, (blk_cell BK648.out 0).trans rfl, (blk_cell BK648.out 1).trans rfl, (blk_cell BK646.out 0).trans rfl, (blk_cell BK646.out 1).trans rfl, (blk_cell BK646.out 2).trans rfl, (blk_cell BK646.out 3).trans rfl, (blk_cell BK646.out 4).trans rfl⟩ (fun hHeld => ?_)
  clear hK K
  refine norm_ (a' := ?_) ?_ ?_
  rotate_left
  ·show Act.put _ (some 25) _ = _
   simp only [Act.put, List.setIfInBounds_toArray, List.set_cons_zero, List.set_cons_succ, i64_w, i32_w]
   rfl
  refine one_ (i := 11) (N := some 31) #[true, true, true, true, true, true, true, true, true, true, true, true, false, false] rfl rfl (one_of HT_.out (by kernel_rfl)) (by decide) (fun K hK => ?_)
  refine goes_ Tryz.func82 (by kernel_rfl) rfl #[.agg #[.slice A0_0 l0_0.length c0_0, .int .i64 a0_1, .int .i64 a0_2, .int .i64 a0_3, .int .i64 a0_4], .int .i64 a1_0, .int .i64 a1_1] (by rfl) rfl rfl y1_ ?_
  with_reducible refine (ss_ahead.calls k _ _ l0_0 a0_1 a0_2 a0_3 a0_4 a1_0 a1_1 t650 _ ?side1 ?side2 A4.out).mono ?_
  (case side1 => repeat (first | exact (Kd.C_below HR0_0.out HB.out) | (with_reducible refine Kd.C_alloc ?_ _) | (with_reducible refine Kd.C_drewN ?_ _) | (with_reducible refine Kd.C_drew ?_)))
  (case side2 => exact HC0_0.out)
  rintro e w33 ⟨rfl, hb⟩
  refine ⟨_, rfl, ?_⟩
  have n0_ := A0_ (blk_below (g := gb646) (o := .cells #[.slice A0_0 l0_0.length c0_0, .int .i64 a0_1, .int .i64 a0_2, .int .i64 a0_3, .int .i64 a0_4] 96 (0, 0)) (bd_ BK646.out) hb); have n1_ := A0_ (blk_below (g := gb647) (o := .cells #[.slice A0_0 l0_0.length c0_0, .int .i64 a0_1, .int .i64 a0_2, .int .i64 a0_3, .int .i64 (wrap64 (a0_4 - 1))] 96 (0, 0)) (bd_ BK647.out) hb); have n2_ := A0_ (blk_below (g := gb648) (o := .cells #[.int .i64 a1_0, .int .i64 a1_1] 118 (0, 0)) (bd_ BK648.out) hb); have n3_ := A0_ (below_step y1j_ hb); clear BK646; clear BK647; clear BK648; clear HB; have BK646 := n0_; have BK647 := n1_; have BK648 := n2_; have HB := n3_; clear n0_ n1_ n2_ n3_; (try clear hb); (try clear hb2); (try clear hk); (try clear hi)
  refine hK.out _ _ ⟨(blk_cell BK647.out 0).trans rfl, (blk_cell BK647.out 1).trans rfl, (blk_cell BK647.out 2).trans rfl, (blk_cell BK647.out 3).trans rfl, (blk_cell BK647.out 4).trans rfl, (blk_cell BK648.out 0).trans rfl, (blk_cell BK648.out 1).trans rfl, (blk_cell BK646.out 0).trans rfl, (blk_cell BK646.out 1).trans rfl, (blk_cell BK646.out 2).trans rfl, (blk_cell BK646.out 3).trans rfl, (blk_cell BK646.out 4).trans rfl⟩ (fun hHeld => ?_)
  clear hK K
  refine norm_ (a' := ?_) ?_ ?_
  rotate_left
  ·show Act.put _ (some 31) _ = _
   simp only [Act.put, List.setIfInBounds_toArray, List.set_cons_zero, List.set_cons_succ, i64_w, i32_w]
   rfl
  refine pu_ (i := 12) (N := some 7) ?_; refine pu_ (i := 13) (N := some 8) ?_
  refine done_ (done_of HT_.out (by kernel_rfl)) ?_
  try go_wp2_with (first | (go_at_call 124; (with_reducible refine (sky_passes.calls t649 t650 false _ A5.out).mono ?_); rintro e w' ⟨rfl, ⟨nd, rfl⟩⟩) | (go_at_call 124; (with_reducible refine (sky_passes.calls (wrap64 (-t649)) (wrap64 (-t650)) t652 _ A20.out).mono ?_); rintro e w' ⟨rfl, ⟨nd, rfl⟩⟩))
  go_ret
  exact ⟨y2_, y1j_⟩
end Go.Proofs.YtaidphhkhddemaaGreatDoor.PSky
end
section
namespace Go.Proofs.YtaidphhkhddemaaGreatDoor.PSky
open Go.RowKit Go.Shelf Go.Proofs.YtaidphhkhddemaaGreatDoorW.PrintWords Go.Proofs.YtaidphhkhddemaaGreatDoorW.PrintLast Go.Proofs.YtaidphhkhddemaaGreatDoorW.PrintMore
attribute [local go_sem] Oper.semAt_some
abbrev DayIn (lo hi : Int) : Type := { x : Int // lo ≤ x ∧ x ≤ hi }
def upDays (lo hi : Int) : (n : Nat) → lo + n ≤ hi + 1 → List (DayIn lo hi)
 | 0, _ => []
 | n + 1, h => upDays lo hi n (by omega) ++ [⟨lo + n, by omega⟩]
theorem upDays_length {lo hi : Int} : ∀ {n : Nat} (h : lo + n ≤ hi + 1), (upDays lo hi n h).length = n
 | 0, _ => rfl
 | n + 1, h => by rw [upDays, List.length_append, upDays_length]; rfl
set_option maxRecDepth 100000 in
theorem days_calls (A0 : Option Addr) (c0 len : Nat) (i1 i2 i3 lo hi : Int) (w : World) :
  Calls Tryz.prog 89 #[.agg #[.slice A0 len c0, .int .i64 i1, .int .i64 i2, .int .i64 i3], .int .i64 lo, .int .i64 hi] w fun e w' =>
   e = .returned (.func (.func 123) #[] #[.pointer (some ⟨w.heap.size + 1, 0, none⟩), .pointer (some ⟨w.heap.size + 2, 0, none⟩), .pointer (some ⟨w.heap.size, 0, none⟩)]) ∧
   w' = ((w.alloc (.cells #[.slice A0 len c0, .int .i64 i1, .int .i64 i2, .int .i64 i3] 28)).alloc (.cells #[.int .i64 lo] 3)).alloc (.cells #[.int .i64 hi] 3) := by
 have hmf : ∀ (fn : Fn) (first cap : Array Value) (w : World), (Instr.makeFunc fn first cap).run Tryz.prog w = .ok (.func fn first cap) w := fun _ _ _ _ => rfl
 go_enter Tryz.func89, Tryz.ntmps89
 go_wp2; go_ret
 exact ⟨rfl, rfl⟩
def KpD (B : Nat) (W W' : World) : Prop := ∀ i, B ≤ i → i < B + 3 → W'.heap[i]? = W.heap[i]?
theorem KpD_t {B : Nat} {X Y Z : World} (h : KpD B X Y) (k : KpD B Y Z) : KpD B X Z := fun i h1 h2 => (k i h1 h2).trans (h i h1 h2)
theorem KpD_b {B : Nat} {w : World} (hB : B + 3 ≤ w.heap.size) (W : World) (l : Nat) (o o' : Obj) (hl : w.heap.size ≤ l) (_ : W.heap[l]? = some o) (_ : o.isCells = false) (_ : o.isWalk = false) : KpD B W (W.putObj l o') :=
 fun i _ h2 => World.putObj_heap_other (by omega)
theorem KpD.refl (B : Nat) (W : World) : KpD B W W := fun _ _ _ => rfl
set_option maxRecDepth 100000 in
set_option maxHeartbeats 2000000 in
theorem days_c1_in (n : Nat) (hn : 1 ≤ n) (l B : Nat) (A0 : Option Addr) (c0 len : Nat) (i1 i2 i3 lo hi : Int) (hlo : 0 ≤ lo) (hle : lo ≤ hi + 1) (hhi : hi ≤ 20000) (J Jx : List (DayIn lo hi) → World → Prop)
  (hY : ∀ (pre : List (DayIn lo hi)) (x : DayIn lo hi) (W : World), J pre W → pre.length < (hi + 1 - lo).toNat → YieldAt Fence.wide (n - 1) Tryz.prog l #[.agg #[.slice A0 len c0, .int .i64 i1, .int .i64 i2, .int .i64 i3, .int .i64 x.1]] W fun e W' =>
   (e = .returned (.bool true) ∧ J (pre ++ [x]) W' ∧ KpD B W W') ∨ (e = .returned (.bool false) ∧ Jx (pre ++ [x]) W'))
  (W : World) (hS : W.heap[B]? = some (.cells #[.slice A0 len c0, .int .i64 i1, .int .i64 i2, .int .i64 i3] 28 (0, 0))) (hL : W.heap[B + 1]? = some (.cells #[.int .i64 lo] 3 (0, 0))) (hH : W.heap[B + 2]? = some (.cells #[.int .i64 hi] 3 (0, 0))) (h0 : J [] W) :
  CallsIn Fence.wide n Tryz.prog 123 #[.func (.yield l) #[] #[], .pointer (some ⟨B + 1, 0, none⟩), .pointer (some ⟨B + 2, 0, none⟩), .pointer (some ⟨B, 0, none⟩)] W fun e W' => (∃ v, e = .returned v) ∧
   ((∃ ys, (∃ k h, hi < lo + (k : Nat) ∧ ys = upDays lo hi k h) ∧ J ys W') ∨ (∃ pre, (∃ k h, pre = upDays lo hi k h) ∧ Jx pre W')) := by
 refine callsIn_of_wp Tryz.func123 rfl trivial ?_ rfl
 simp only [Tryz.ntmps123, List.size_toArray, List.length_cons, List.length_nil, Nat.reduceAdd, Nat.reduceSub, Array.replicate_succ, Array.replicate_zero, List.push_toArray, List.append_toArray, List.nil_append, List.cons_append]
 have l0 := blk_cell hL 0
 simp at l0
 clear hL
 gi_wp2
 gi_loopw [5] (fun d wr => ∃ (k : Nat) (h : lo + k ≤ hi + 1), d = .int .i64 (lo + k) ∧ J (upDays lo hi k h) wr ∧ wr.heap[B]? = some (.cells #[.slice A0 len c0, .int .i64 i1, .int .i64 i2, .int .i64 i3] 28 (0, 0)) ∧ wr.heap[B + 2]? = some (.cells #[.int .i64 hi] 3 (0, 0)))
  (fun d _ => (hi + 1 - intOf d).toNat)
 case atStart => exact ⟨0, by omega, by simp, h0, hS, hH⟩
 case round =>
  obtain ⟨k, hk, rfl, hJs, hSr, hHr⟩ := hrel
  have r0 := blk_cell hSr 0
  have r1 := blk_cell hSr 1
  have r2 := blk_cell hSr 2
  have r3 := blk_cell hSr 3
  have t0 := blk_cell hHr 0
  simp at r0 r1 r2 r3 t0
  have HS := A0_ hSr; have HH := A0_ hHr; clear hSr hHr
  by_cases hlt : lo + k ≤ hi
  ·obtain ⟨fn, tmps, assign, body, hy, hR⟩ := hY _ ⟨lo + k, by omega⟩ wr hJs (by rw [upDays_length]; omega)
   dsimp only at hy
   gi_wp2
   refine hR.mono ?_
   rintro e W3 (⟨rfl, hJ3, hk3⟩ | ⟨rfl, hJx3⟩)
   ·gi_wp2
    go_roundw
    case rel => exact ⟨k + 1, by omega, by go_num, hJ3, (hk3 B (by omega) (by omega)).trans HS.out, (hk3 (B + 2) (by omega) (by omega)).trans HH.out⟩
    case measure => simp [intOf]; omega
   ·gi_wp2
    refine bodyPost_ret (results_none rfl _ _ _) rfl ?_
    exact ⟨⟨_, rfl⟩, .inr ⟨_, ⟨k + 1, by omega, rfl⟩, hJx3⟩⟩
  ·gi_wp2
   go_end0
   exact ⟨⟨_, rfl⟩, .inl ⟨_, ⟨k, by omega, hk, rfl⟩, hJs⟩⟩
def AllDays (lo hi : Int) (ys : List (DayIn lo hi)) : Prop := ∃ (k : Nat) (h : lo + k ≤ hi + 1), hi < lo + (k : Nat) ∧ ys = upDays lo hi k h
def SomeDays (lo hi : Int) (ys : List (DayIn lo hi)) : Prop := ∃ (k : Nat) (h : lo + k ≤ hi + 1), ys = upDays lo hi k h
def encDay (A0 : Option Addr) (len c0 : Nat) (i1 i2 i3 lo hi : Int) (x : DayIn lo hi) : Array Value := #[.agg #[.slice A0 len c0, .int .i64 i1, .int .i64 i2, .int .i64 i3, .int .i64 x.1]]
theorem days_stops (n : Nat) (hn : 1 ≤ n) (B : Nat) (A0 : Option Addr) (c0 len : Nat) (i1 i2 i3 lo hi : Int) (hlo : 0 ≤ lo) (hle : lo ≤ hi + 1) (hhi : hi ≤ 20000) (w : World)
  (hS : w.heap[B]? = some (.cells #[.slice A0 len c0, .int .i64 i1, .int .i64 i2, .int .i64 i3] 28 (0, 0))) (hL : w.heap[B + 1]? = some (.cells #[.int .i64 lo] 3 (0, 0))) (hH : w.heap[B + 2]? = some (.cells #[.int .i64 hi] 3 (0, 0))) :
  SeqStopsK Fence.wide n Tryz.prog 123 #[.pointer (some ⟨B + 1, 0, none⟩), .pointer (some ⟨B + 2, 0, none⟩), .pointer (some ⟨B, 0, none⟩)] (encDay A0 len c0 i1 i2 i3 lo hi) (KpD B) (AllDays lo hi) (SomeDays lo hi) (hi + 1 - lo).toNat w :=
 fun l J Jx W hW _ _ hY h0 => days_c1_in n hn l B A0 c0 len i1 i2 i3 lo hi hlo hle hhi J Jx hY W (blk_below hS hW) (blk_below hL hW) (blk_below hH hW) h0
end Go.Proofs.YtaidphhkhddemaaGreatDoor.PSky
end
section
namespace Go.Proofs.YtaidphhkhddemaaGreatDoor.PSky
open Go.RowKit Go.Proofs.YtaidphhkhddemaaGreatDoorW.PrintWords Go.Proofs.YtaidphhkhddemaaGreatDoorW.PrintLast Go.Proofs.YtaidphhkhddemaaGreatDoorW.PrintMore
theorem held_box {w : World} {Bo Bx : Nat} {t t' : TypeId} {v a b c d e : Value} (hO : w.heap[Bo]? = some (.cells #[v] t (0, 0))) (hX : w.heap[Bx]? = some (.cells #[a, b, c, d, e] t' (0, 0))) :
  w.cell? ⟨Bo, 0, none⟩ = some v ∧ w.cell? ⟨Bx, 4, none⟩ = some e ∧ w.frozen? ⟨Bo, 0, none⟩ = false :=
 ⟨by have := blk_cell hO 0; simpa using this, by have := blk_cell hX 4; simpa using this, blk_frozen hO 0⟩
theorem blk_eq_alloc2 (w : World) (o o' : Obj) (i : Nat) (hi : i < w.heap.size) : ((w.alloc o).alloc o').drew.heap[i]? = w.heap[i]? := by
 show ((w.alloc o).alloc o').heap[i]? = _
 rw [Below.heap_alloc (w.alloc o) o' i (by simp; omega), Below.heap_alloc w o i hi]
theorem moons_close {W w1 w2 : World} {Bo n₀ gg cap T : Nat} {v : Value} {xs : List S51} {inner : List Value} {day : Int} {b : Bool}
  (hO : W.heap[Bo]? = some (.cells #[v] 31 (0, 0))) (hn : n₀ ≤ Bo) (HB : Below W.heap.size W w1) (hO1 : w1.heap[Bo]? = some (.cells #[v] 31 (0, 0)))
  (hown : w1.ownsRow n₀ 51 2 v xs.length inner) (hreps : Reps (k51.M w1 n₀ (fun k => True ∧ some k ≠ v.ownBlock)) k51.sz xs inner)
  (hown1 : w2.ownsRow n₀ 51 2 (.slice (some ⟨gg, 0, none⟩) (xs.length + 1) cap) (xs.length + 1) (inner ++ [.int .i64 day, .bool b]))
  (hgrow : (((w1.alloc (.cells #[] T)).alloc (.cells #[.int .i64 day, .bool b] 51)).drew).grownBy w2 v.ownBlock) :
  ∃ v', (w2.setCell ⟨Bo, 0, none⟩ (.slice (some ⟨gg, 0, none⟩) (xs.length + 1) cap)).heap[Bo]? = some (.cells #[v'] 31 (0, 0)) ∧
   Kd.R k51 51 (w2.setCell ⟨Bo, 0, none⟩ (.slice (some ⟨gg, 0, none⟩) (xs.length + 1) cap)) n₀ (fun _ => True) v' (xs ++ [⟨day, b⟩]) ∧
   KeepBut W (w2.setCell ⟨Bo, 0, none⟩ (.slice (some ⟨gg, 0, none⟩) (xs.length + 1) cap)) Bo v.ownBlock ∧
   Below n₀ W (w2.setCell ⟨Bo, 0, none⟩ (.slice (some ⟨gg, 0, none⟩) (xs.length + 1) cap)) := by
 have hne : some Bo ≠ v.ownBlock := Boxed.not_row (t := 31) hO1 (by decide) hown
 have hO2 : w2.heap[Bo]? = some (.cells #[v] 31 (0, 0)) := blk_grown (blk_drew (blk_alloc (blk_alloc hO1 _) _)) hgrow hne
 have hlo := blk_lt hO
 have hz := HB.size
 have hnW : n₀ ≤ W.heap.size := by omega
 have hn1 : n₀ ≤ w1.heap.size := by omega
 refine ⟨.slice (some ⟨gg, 0, none⟩) (xs.length + 1) cap, blk_put hO2 0 _ rfl, ?_, ?_, ?_⟩
 ·have h2 : Kd.R k51 51 w2 n₀ (fun _ => True) (.slice (some ⟨gg, 0, none⟩) (xs.length + 1) cap) (xs ++ [⟨day, b⟩]) := by
   refine ⟨fun _ _ => trivial, inner ++ [.int .i64 day, .bool b], by rw [List.length_append]; exact hown1, ?_⟩
   refine Reps.snoc (hreps.imp_ fun p c hp => ?_) (k51_mkM w2 n₀ _ ⟨day, b⟩) rfl
   obtain rfl := k51_openM hp
   exact k51_mkM w2 n₀ _ p
  exact Kd.R_set h2 hO2 (by intro q hq; simp [k51, Kd.iso, Kd.pair, Kd.int, Kd.bool, Kd.scalar] at hq; subst hq; decide) 0 _
 ·refine ⟨?_, fun i hi h1 h2 => ?_⟩
  ·have := hgrow.size; simp [World.setCell] at this ⊢; omega
  ·rw [Below.heap_setCell _ _ _ i h1, hgrow.block i (by simp; omega) h2]
   exact (blk_eq_alloc2 w1 _ _ i (by omega)).trans (HB.block i hi)
 ·refine Below.setCell (p := ⟨Bo, 0, none⟩) ?_ hn _
  refine Below.grown ?_ hgrow (by simp; omega) (fun j e => ?_)
  ·exact below_drew (((HB.mono hnW).alloc hn1 _).alloc (by simp; omega) _)
  ·exact own_base hown j e
theorem full_new (w : World) : Calls Tryz.prog 187 #[.agg #[]] w fun e w' => e = .returned (.bool false) ∧ w' = w.alloc (.cells #[] 128) := by
 go_enter Tryz.func187, Tryz.ntmps187
 go_wp2; go_ret
 exact ⟨rfl, rfl⟩
theorem full_full (w : World) : Calls Tryz.prog 188 #[.agg #[]] w fun e w' => e = .returned (.bool true) ∧ w' = w.alloc (.cells #[] 129) := by
 go_enter Tryz.func188, Tryz.ntmps188
 go_wp2; go_ret
 exact ⟨rfl, rfl⟩
set_option maxRecDepth 100000 in
set_option maxHeartbeats 1600000 in
theorem moons_c1_new_no (k : Nat) (A0 : Option Addr) (c0 : Nat) (l0 : List S83) (i1 i2 i3 day : Int) (Bo Bx : Nat) (W : World)
  (hC : Kd.C k83 W A0 l0.length l0) (hc : l0.length ≤ c0)
  (hX : W.heap[Bx]? = some (.cells #[.slice A0 l0.length c0, .int .i64 i1, .int .i64 i2, .int .i64 i3, .int .i64 day] 96 (0, 0)))
  (h : at_has_new.f k l0 i1 i2 i3 day = some false) :
  Calls Tryz.prog 101 #[.iface 128 (.agg #[]), .pointer (some ⟨Bx, 0, none⟩), .pointer (some ⟨Bo, 0, none⟩)] W fun e W' => e = .returned (.tuple #[]) ∧ Below W.heap.size W W' := by
 have HC := A0_ hC; have HX := A0_ hX; have H := A0_ h
 have x0 := blk_cell hX 0
 have x1 := blk_cell hX 1
 have x2 := blk_cell hX 2
 have x3 := blk_cell hX 3
 have x4 := blk_cell hX 4
 simp at x0 x1 x2 x3 x4
 clear hC hX h
 go_enter Tryz.func101, Tryz.ntmps101
 go_wp2_with fail
 refine (at_has_new.calls k A0 c0 l0 i1 i2 i3 day false _ ?h1 hc H.out).mono ?_
 case h1 => exact HC.out
 rintro e w1 ⟨rfl, hb⟩; have HB := A0_ hb; clear hb; go_wp2
 go_end0
 exact ⟨rfl, HB.out⟩
set_option maxRecDepth 100000 in
set_option maxHeartbeats 1600000 in
theorem moons_c1_new_yes (k : Nat) (A0 : Option Addr) (c0 : Nat) (l0 : List S83) (i1 i2 i3 day : Int) (n₀ Bo Bx : Nat) (v : Value) (xs : List S51) (W : World)
  (hC : Kd.C k83 W A0 l0.length l0) (hc : l0.length ≤ c0)
  (hX : W.heap[Bx]? = some (.cells #[.slice A0 l0.length c0, .int .i64 i1, .int .i64 i2, .int .i64 i3, .int .i64 day] 96 (0, 0)))
  (hO : W.heap[Bo]? = some (.cells #[v] 31 (0, 0))) (hR : Kd.R k51 51 W n₀ (fun _ => True) v xs) (hn : n₀ ≤ Bo) (hl : (xs.length + 1) * 16 ≤ 140737488355328)
  (h : at_has_new.f k l0 i1 i2 i3 day = some true) :
  Calls Tryz.prog 101 #[.iface 128 (.agg #[]), .pointer (some ⟨Bx, 0, none⟩), .pointer (some ⟨Bo, 0, none⟩)] W fun e W' => e = .returned (.tuple #[]) ∧
   ∃ v', W'.heap[Bo]? = some (.cells #[v'] 31 (0, 0)) ∧ Kd.R k51 51 W' n₀ (fun _ => True) v' (xs ++ [⟨day, false⟩]) ∧ KeepBut W W' Bo v.ownBlock ∧ Below n₀ W W' := by
 have HC := A0_ hC; have HX := A0_ hX; have HO := A0_ hO; have HR := A0_ hR; have H := A0_ h
 have x0 := blk_cell hX 0
 have x1 := blk_cell hX 1
 have x2 := blk_cell hX 2
 have x3 := blk_cell hX 3
 have x4 := blk_cell hX 4
 simp at x0 x1 x2 x3 x4
 clear hC hX hO hR h
 have hna : ∀ w, (nilAhead 308 128 (.agg #[]) "tellurion/sky.full").run Tryz.prog w = .ok (some false) w := fun _ => by kernel_rfl
 have hme : ∀ w, (method 308 128 (.agg #[]) "tellurion/sky.full").run Tryz.prog w = .ok (187, .agg #[]) w := fun _ => by kernel_rfl
 go_enter Tryz.func101, Tryz.ntmps101
 go_wp2_with fail
 refine (at_has_new.calls k A0 c0 l0 i1 i2 i3 day true _ ?h1 hc H.out).mono ?_
 case h1 => exact HC.out
 rintro e w1 ⟨rfl, hb⟩
 have HX1 := A0_ (blk_below HX.out hb)
 have HO1 := A0_ (blk_below HO.out hb)
 have HR1 := A0_ (Kd.R_below HR.out hb)
 have HB := A0_ hb; clear hb x0 x1 x2 x3 x4
 have y4 := blk_cell HX1.out 4
 have o0 := blk_cell HO1.out 0
 have of := blk_frozen HO1.out 0
 simp at y4 o0
 go_wp2_with fail
 have lo := blk_lt HO1.out
 have lx := blk_lt HX1.out
 obtain ⟨hr0, inner, hown, hreps⟩ := HR1.out
 obtain ⟨i0, hi0, hz0, hz1, hz2⟩ := info_parts info51
 have hbs := HB.out.size
 have hnb : n₀ ≤ w1.heap.size := by omega
 have hmx : xs.length + 1 ≤ maxLen := by unfold maxLen; omega
 have HNE := A0_ (show some Bo ≠ v.ownBlock from Boxed.not_row (t := 31) HO1.out (by decide) hown)
 have HNX := A0_ (show some Bx ≠ v.ownBlock from fun e' => by
  obtain ⟨cells, hc'⟩ := own_typed hown Bx e'.symm
  rw [HX1.out] at hc'
  simp at hc')
 go_region_law
  ((first | (go_simp; go_at_call 187; refine (full_new _).mono ?_; rintro e w' ⟨rfl, rfl⟩) | (refine step_append_lies _ (by rfl) _ _ _ (by rfl) n₀ 51 i0 _ 2 16 Tryz.underlying31 hi0 hz0 hz1 hz2 rfl (by omega) v xs.length inner (by rfl) (((hown.alloc _).alloc _).drew) ⟨w1.heap.size + 1, 0, none⟩ 1 1 [.int .i64 day, .bool false] (by rfl) (by rfl) (World.news_of_block (cs := #[.int .i64 day, .bool false]) (t := 51) (fr := (0, 0)) (by rw [show w1.heap.size + 1 = (w1.alloc (.cells #[] 128)).heap.size from by simp]; exact heap_alloc_new _ _)) (by simp [Value.oneCell']) (by omega) hmx hl (by simp; omega) (w1.heap.size + 2) (by simp) ?_; intro gg cap w2 hown1 hgrow hat hlt; obtain ⟨q20, q21, q22⟩ := held_box (blk_grown (blk_drew (blk_alloc (blk_alloc HO1.out _) _)) hgrow HNE.out) (blk_grown (blk_drew (blk_alloc (blk_alloc HX1.out _) _)) hgrow HNX.out))))
 all_goals
  go_wp2
  go_end0
  exact ⟨rfl, moons_close HO.out hn HB.out HO1.out hown hreps hown1 hgrow⟩
set_option maxRecDepth 100000 in
set_option maxHeartbeats 1600000 in
theorem moons_c1_full_no (k : Nat) (A0 : Option Addr) (c0 : Nat) (l0 : List S83) (i1 i2 i3 day : Int) (Bo Bx : Nat) (W : World)
  (hC : Kd.C k83 W A0 l0.length l0) (hc : l0.length ≤ c0)
  (hX : W.heap[Bx]? = some (.cells #[.slice A0 l0.length c0, .int .i64 i1, .int .i64 i2, .int .i64 i3, .int .i64 day] 96 (0, 0)))
  (h : at_has_full.f k l0 i1 i2 i3 day = some false) :
  Calls Tryz.prog 101 #[.iface 129 (.agg #[]), .pointer (some ⟨Bx, 0, none⟩), .pointer (some ⟨Bo, 0, none⟩)] W fun e W' => e = .returned (.tuple #[]) ∧ Below W.heap.size W W' := by
 have HC := A0_ hC; have HX := A0_ hX; have H := A0_ h
 have x0 := blk_cell hX 0
 have x1 := blk_cell hX 1
 have x2 := blk_cell hX 2
 have x3 := blk_cell hX 3
 have x4 := blk_cell hX 4
 simp at x0 x1 x2 x3 x4
 clear hC hX h
 go_enter Tryz.func101, Tryz.ntmps101
 go_wp2_with fail
 refine (at_has_full.calls k A0 c0 l0 i1 i2 i3 day false _ ?h1 hc H.out).mono ?_
 case h1 => exact HC.out
 rintro e w1 ⟨rfl, hb⟩; have HB := A0_ hb; clear hb; go_wp2
 go_end0
 exact ⟨rfl, HB.out⟩
set_option maxRecDepth 100000 in
set_option maxHeartbeats 1600000 in
theorem moons_c1_full_yes (k : Nat) (A0 : Option Addr) (c0 : Nat) (l0 : List S83) (i1 i2 i3 day : Int) (n₀ Bo Bx : Nat) (v : Value) (xs : List S51) (W : World)
  (hC : Kd.C k83 W A0 l0.length l0) (hc : l0.length ≤ c0)
  (hX : W.heap[Bx]? = some (.cells #[.slice A0 l0.length c0, .int .i64 i1, .int .i64 i2, .int .i64 i3, .int .i64 day] 96 (0, 0)))
  (hO : W.heap[Bo]? = some (.cells #[v] 31 (0, 0))) (hR : Kd.R k51 51 W n₀ (fun _ => True) v xs) (hn : n₀ ≤ Bo) (hl : (xs.length + 1) * 16 ≤ 140737488355328)
  (h : at_has_full.f k l0 i1 i2 i3 day = some true) :
  Calls Tryz.prog 101 #[.iface 129 (.agg #[]), .pointer (some ⟨Bx, 0, none⟩), .pointer (some ⟨Bo, 0, none⟩)] W fun e W' => e = .returned (.tuple #[]) ∧
   ∃ v', W'.heap[Bo]? = some (.cells #[v'] 31 (0, 0)) ∧ Kd.R k51 51 W' n₀ (fun _ => True) v' (xs ++ [⟨day, true⟩]) ∧ KeepBut W W' Bo v.ownBlock ∧ Below n₀ W W' := by
 have HC := A0_ hC; have HX := A0_ hX; have HO := A0_ hO; have HR := A0_ hR; have H := A0_ h
 have x0 := blk_cell hX 0
 have x1 := blk_cell hX 1
 have x2 := blk_cell hX 2
 have x3 := blk_cell hX 3
 have x4 := blk_cell hX 4
 simp at x0 x1 x2 x3 x4
 clear hC hX hO hR h
 have hna : ∀ w, (nilAhead 308 129 (.agg #[]) "tellurion/sky.full").run Tryz.prog w = .ok (some false) w := fun _ => by kernel_rfl
 have hme : ∀ w, (method 308 129 (.agg #[]) "tellurion/sky.full").run Tryz.prog w = .ok (188, .agg #[]) w := fun _ => by kernel_rfl
 go_enter Tryz.func101, Tryz.ntmps101
 go_wp2_with fail
 refine (at_has_full.calls k A0 c0 l0 i1 i2 i3 day true _ ?h1 hc H.out).mono ?_
 case h1 => exact HC.out
 rintro e w1 ⟨rfl, hb⟩
 have HX1 := A0_ (blk_below HX.out hb)
 have HO1 := A0_ (blk_below HO.out hb)
 have HR1 := A0_ (Kd.R_below HR.out hb)
 have HB := A0_ hb; clear hb x0 x1 x2 x3 x4
 have y4 := blk_cell HX1.out 4
 have o0 := blk_cell HO1.out 0
 have of := blk_frozen HO1.out 0
 simp at y4 o0
 go_wp2_with fail
 have lo := blk_lt HO1.out
 have lx := blk_lt HX1.out
 obtain ⟨hr0, inner, hown, hreps⟩ := HR1.out
 obtain ⟨i0, hi0, hz0, hz1, hz2⟩ := info_parts info51
 have hbs := HB.out.size
 have hnb : n₀ ≤ w1.heap.size := by omega
 have hmx : xs.length + 1 ≤ maxLen := by unfold maxLen; omega
 have HNE := A0_ (show some Bo ≠ v.ownBlock from Boxed.not_row (t := 31) HO1.out (by decide) hown)
 have HNX := A0_ (show some Bx ≠ v.ownBlock from fun e' => by
  obtain ⟨cells, hc'⟩ := own_typed hown Bx e'.symm
  rw [HX1.out] at hc'
  simp at hc')
 go_region_law
  ((first | (go_simp; go_at_call 188; refine (full_full _).mono ?_; rintro e w' ⟨rfl, rfl⟩) | (refine step_append_lies _ (by rfl) _ _ _ (by rfl) n₀ 51 i0 _ 2 16 Tryz.underlying31 hi0 hz0 hz1 hz2 rfl (by omega) v xs.length inner (by rfl) (((hown.alloc _).alloc _).drew) ⟨w1.heap.size + 1, 0, none⟩ 1 1 [.int .i64 day, .bool true] (by rfl) (by rfl) (World.news_of_block (cs := #[.int .i64 day, .bool true]) (t := 51) (fr := (0, 0)) (by rw [show w1.heap.size + 1 = (w1.alloc (.cells #[] 129)).heap.size from by simp]; exact heap_alloc_new _ _)) (by simp [Value.oneCell']) (by omega) hmx hl (by simp; omega) (w1.heap.size + 2) (by simp) ?_; intro gg cap w2 hown1 hgrow hat hlt; obtain ⟨q20, q21, q22⟩ := held_box (blk_grown (blk_drew (blk_alloc (blk_alloc HO1.out _) _)) hgrow HNE.out) (blk_grown (blk_drew (blk_alloc (blk_alloc HX1.out _) _)) hgrow HNX.out))))
 all_goals
  go_wp2
  go_end0
  exact ⟨rfl, moons_close HO.out hn HB.out HO1.out hown hreps hown1 hgrow⟩
end Go.Proofs.YtaidphhkhddemaaGreatDoor.PSky
end
section
namespace Go.Proofs.YtaidphhkhddemaaGreatDoor.PSky
open Go.RowKit Go.Shelf Go.Proofs.YtaidphhkhddemaaGreatDoorW.PrintWords Go.Proofs.YtaidphhkhddemaaGreatDoorW.PrintLast Go.Proofs.YtaidphhkhddemaaGreatDoorW.PrintMore
attribute [local go_sem] Oper.semAt_some
theorem moons_c1_new (k : Nat) (A0 : Option Addr) (c0 : Nat) (l0 : List S83) (i1 i2 i3 day : Int) (n₀ Bo Bx : Nat) (v : Value) (xs : List S51) (r : Bool) (W : World)
  (hC : Kd.C k83 W A0 l0.length l0) (hc : l0.length ≤ c0)
  (hX : W.heap[Bx]? = some (.cells #[.slice A0 l0.length c0, .int .i64 i1, .int .i64 i2, .int .i64 i3, .int .i64 day] 96 (0, 0)))
  (hO : W.heap[Bo]? = some (.cells #[v] 31 (0, 0))) (hR : Kd.R k51 51 W n₀ (fun _ => True) v xs) (hn : n₀ ≤ Bo) (hl : (xs.length + 1) * 16 ≤ 140737488355328)
  (h : at_has_new.f k l0 i1 i2 i3 day = some r) :
  Calls Tryz.prog 101 #[.iface 128 (.agg #[]), .pointer (some ⟨Bx, 0, none⟩), .pointer (some ⟨Bo, 0, none⟩)] W fun e W' => e = .returned (.tuple #[]) ∧
   ∃ v', W'.heap[Bo]? = some (.cells #[v'] 31 (0, 0)) ∧ Kd.R k51 51 W' n₀ (fun _ => True) v' (xs ++ if r then [⟨day, false⟩] else []) ∧ KeepBut W W' Bo v.ownBlock ∧ Below n₀ W W' := by
 cases r with
 | true => exact moons_c1_new_yes k A0 c0 l0 i1 i2 i3 day n₀ Bo Bx v xs W hC hc hX hO hR hn hl h
 | false =>
  refine (moons_c1_new_no k A0 c0 l0 i1 i2 i3 day Bo Bx W hC hc hX h).mono ?_
  rintro e W' ⟨rfl, hb⟩
  exact ⟨rfl, v, blk_below hO hb, by simpa using Kd.R_below hR hb, KeepBut.of_below hb _ _, hb.mono (by have := blk_lt hO; omega)⟩
theorem moons_c1_full (k : Nat) (A0 : Option Addr) (c0 : Nat) (l0 : List S83) (i1 i2 i3 day : Int) (n₀ Bo Bx : Nat) (v : Value) (xs : List S51) (r : Bool) (W : World)
  (hC : Kd.C k83 W A0 l0.length l0) (hc : l0.length ≤ c0)
  (hX : W.heap[Bx]? = some (.cells #[.slice A0 l0.length c0, .int .i64 i1, .int .i64 i2, .int .i64 i3, .int .i64 day] 96 (0, 0)))
  (hO : W.heap[Bo]? = some (.cells #[v] 31 (0, 0))) (hR : Kd.R k51 51 W n₀ (fun _ => True) v xs) (hn : n₀ ≤ Bo) (hl : (xs.length + 1) * 16 ≤ 140737488355328)
  (h : at_has_full.f k l0 i1 i2 i3 day = some r) :
  Calls Tryz.prog 101 #[.iface 129 (.agg #[]), .pointer (some ⟨Bx, 0, none⟩), .pointer (some ⟨Bo, 0, none⟩)] W fun e W' => e = .returned (.tuple #[]) ∧
   ∃ v', W'.heap[Bo]? = some (.cells #[v'] 31 (0, 0)) ∧ Kd.R k51 51 W' n₀ (fun _ => True) v' (xs ++ if r then [⟨day, true⟩] else []) ∧ KeepBut W W' Bo v.ownBlock ∧ Below n₀ W W' := by
 cases r with
 | true => exact moons_c1_full_yes k A0 c0 l0 i1 i2 i3 day n₀ Bo Bx v xs W hC hc hX hO hR hn hl h
 | false =>
  refine (moons_c1_full_no k A0 c0 l0 i1 i2 i3 day Bo Bx W hC hc hX h).mono ?_
  rintro e W' ⟨rfl, hb⟩
  exact ⟨rfl, v, blk_below hO hb, by simpa using Kd.R_below hR hb, KeepBut.of_below hb _ _, hb.mono (by have := blk_lt hO; omega)⟩
def moonsAt (k : Nat) (l : List S83) (i1 i2 i3 d : Int) : List S51 :=
 (if at_has_new.f k l i1 i2 i3 d = some true then [⟨d, false⟩] else []) ++ (if at_has_full.f k l i1 i2 i3 d = some true then [⟨d, true⟩] else [])
def daysOf (lo hi : Int) : List Int := (List.range (hi + 1 - lo).toNat).map fun j => lo + (j : Nat)
def sky_moons.f (k : Nat) (l : List S83) (i1 i2 i3 lo hi : Int) : Option (List S51) :=
 if 0 ≤ lo ∧ lo ≤ hi + 1 ∧ hi ≤ 20000 ∧ ∀ d ∈ daysOf lo hi, (at_has_new.f k l i1 i2 i3 d).isSome = true ∧ (at_has_full.f k l i1 i2 i3 d).isSome = true then some ((daysOf lo hi).flatMap (moonsAt k l i1 i2 i3)) else none
theorem R_ownFrom {α : Type} {d : Kd α} {e base : Nat} {X Y : World} {v : Value} {xs : List α} {row : Option Nat} (h : d.R e X base (fun _ => True) v xs) (hg : X.grownBy Y row) (hr : ∀ r, row = some r → ∃ o : Obj, X.heap[r]? = some o ∧ o.isCells = false) :
  d.R e Y base (fun _ => True) v xs :=
 Kd.R_mono (Kd.R_grown (Kd.R_bound h) hg (fun k hk e' => by
  obtain ⟨_, _, _, q, _, cells, hc⟩ := hk
  obtain ⟨o, ho, hno⟩ := hr k e'.symm
  rw [hc] at ho
  cases ho
  cases hno)) (fun _ _ => trivial)
theorem blk_ownFrom {X Y : World} {b t : Nat} {cs : Array Value} {row : Option Nat} (h : X.heap[b]? = some (.cells cs t (0, 0))) (hg : X.grownBy Y row) (hr : ∀ r, row = some r → ∃ o : Obj, X.heap[r]? = some o ∧ o.isCells = false) :
  Y.heap[b]? = some (.cells cs t (0, 0)) :=
 blk_grown h hg (fun e' => by
  obtain ⟨o, ho, hno⟩ := hr b e'.symm
  rw [h] at ho
  cases ho
  cases hno)
structure MoonsI (w W0 : World) (A0 : Option Addr) (c0 len : Nat) (i1 i2 i3 lo hi : Int) (xs : List S51) (W : World) : Prop where
 out : ∃ v, W.heap[w.heap.size + 1]? = some (.cells #[v] 31 (0, 0)) ∧ Kd.R k51 51 W w.heap.size (fun _ => True) v xs
 below : Below w.heap.size w W
 size : W0.heap.size ≤ W.heap.size
 s : W.heap[w.heap.size + 2]? = some (.cells #[.slice A0 len c0, .int .i64 i1, .int .i64 i2, .int .i64 i3] 28 (0, 0))
 lo : W.heap[w.heap.size + 3]? = some (.cells #[.int .i64 lo] 3 (0, 0))
 hi : W.heap[w.heap.size + 4]? = some (.cells #[.int .i64 hi] 3 (0, 0))
theorem MoonsI.own {w W0 : World} {A0 : Option Addr} {c0 len : Nat} {i1 i2 i3 lo hi : Int} {β : Type} {f : β → List S51} {B : Nat} (hB : w.heap.size ≤ B) :
  OwnFrom B (fun (s : β) W => MoonsI w W0 A0 c0 len i1 i2 i3 lo hi (f s) W) := by
 intro s X Y row h hg hr
 have hr' : ∀ r, row = some r → ∃ o : Obj, X.heap[r]? = some o ∧ o.isCells = false := fun r e => (hr r e).2
 obtain ⟨⟨v, h1, h2⟩, h3, h4, h5, h6, h7⟩ := h
 exact ⟨⟨v, blk_ownFrom h1 hg hr', R_ownFrom h2 hg hr'⟩, h3.grown hg h3.size (fun k e => by have := (hr k e).1; omega), Nat.le_trans h4 hg.size, blk_ownFrom h5 hg hr', blk_ownFrom h6 hg hr', blk_ownFrom h7 hg hr'⟩
theorem row_ne {α : Type} {d : Kd α} {e base b t : Nat} {ok : Nat → Prop} {W : World} {v : Value} {xs : List α} {cs : Array Value} (h : d.R e W base ok v xs) (hb : W.heap[b]? = some (.cells cs t (0, 0))) (ht : e ≠ t) : some b ≠ v.ownBlock := Kd.R_ne h hb ht
theorem MoonsI.step {w W0 W W' : World} {A0 : Option Addr} {c0 len : Nat} {i1 i2 i3 lo hi : Int} {xs ys : List S51} {v v' : Value} (h : MoonsI w W0 A0 c0 len i1 i2 i3 lo hi xs W)
  (hO : W.heap[w.heap.size + 1]? = some (.cells #[v] 31 (0, 0))) (hR : Kd.R k51 51 W w.heap.size (fun _ => True) v xs)
  (hO' : W'.heap[w.heap.size + 1]? = some (.cells #[v'] 31 (0, 0))) (hR' : Kd.R k51 51 W' w.heap.size (fun _ => True) v' ys)
  (hk : KeepBut W W' (w.heap.size + 1) v.ownBlock) (hb : Below w.heap.size W W') :
  MoonsI w W0 A0 c0 len i1 i2 i3 lo hi ys W' ∧ KeepsFrom W0.heap.size W W' ∧ KpD (w.heap.size + 2) W W' := by
 have e1 := hk.2 (w.heap.size + 2) (blk_lt h.s) (by omega) (row_ne hR h.s (by decide))
 have e2 := hk.2 (w.heap.size + 3) (blk_lt h.lo) (by omega) (row_ne hR h.lo (by decide))
 have e3 := hk.2 (w.heap.size + 4) (blk_lt h.hi) (by omega) (row_ne hR h.hi (by decide))
 refine ⟨⟨⟨v', hO', hR'⟩, h.below.trans hb, Nat.le_trans h.size hk.1, e1.trans h.s, e2.trans h.lo, e3.trans h.hi⟩, ⟨hk.1, fun i o _ hi hc => ?_⟩, fun i h1 h2 => ?_⟩
 ·refine (hk.2 i (Array.getElem?_eq_some_iff.1 hi).1 (fun e => ?_) (fun e => ?_)).trans hi
  ·rw [e, hO] at hi; cases hi; cases hc
  ·obtain ⟨inner, ho⟩ := Kd.R_own hR
   obtain ⟨cells, hcl⟩ := own_typed ho i e.symm
   rw [hcl] at hi; cases hi; cases hc
 ·have : i = w.heap.size + 2 ∨ i = w.heap.size + 3 ∨ i = w.heap.size + 4 := by omega
  rcases this with rfl | rfl | rfl
  ·exact e1
  ·exact e2
  ·exact e3
theorem mem_daysOf {lo hi d : Int} : d ∈ daysOf lo hi ↔ lo ≤ d ∧ d ≤ hi := by
 unfold daysOf
 rw [List.mem_map]
 constructor
 ·rintro ⟨j, hj, rfl⟩
  have := List.mem_range.1 hj
  omega
 ·intro h
  exact ⟨(d - lo).toNat, List.mem_range.2 (by omega), by omega⟩
theorem upDays_val {lo hi : Int} : ∀ {n : Nat} (h : lo + n ≤ hi + 1), (upDays lo hi n h).map (·.1) = (List.range n).map fun j => lo + (j : Nat)
 | 0, _ => rfl
 | n + 1, h => by rw [upDays, List.map_append, upDays_val, List.range_succ, List.map_append]; rfl
theorem allDays_val {lo hi : Int} {ys : List (DayIn lo hi)} (h : AllDays lo hi ys) : ys.map (·.1) = daysOf lo hi := by
 obtain ⟨k, hk, h1, rfl⟩ := h
 rw [upDays_val, daysOf, show (hi + 1 - lo).toNat = k from by omega]
theorem flatMap_val {α β : Type} {p : α → Prop} (f : α → List β) (ys : List { x : α // p x }) : (ys.flatMap fun x => f x.1) = (ys.map (·.1)).flatMap f := by
 induction ys with
 | nil => rfl
 | cons y ys ih => simp [List.flatMap_cons, ih]
theorem moonsAt_length (k : Nat) (l : List S83) (i1 i2 i3 d : Int) : (moonsAt k l i1 i2 i3 d).length ≤ 2 := by
 unfold moonsAt
 split <;> split <;> simp
theorem moons_length (k : Nat) (l : List S83) (i1 i2 i3 : Int) {lo hi : Int} (pre : List (DayIn lo hi)) : (pre.flatMap fun x => moonsAt k l i1 i2 i3 x.1).length ≤ 2 * pre.length := by
 induction pre with
 | nil => simp
 | cons y ys ih => rw [List.flatMap_cons, List.length_append, List.length_cons]; have := moonsAt_length k l i1 i2 i3 y.1; omega
set_option maxRecDepth 100000 in
set_option maxHeartbeats 1600000 in
theorem sky_moons.calls (k : Nat) (A0_0 : Option Addr) (c0_0 : Nat) (l0_0 : List S83) (a0_1 a0_2 a0_3 a1 a2 : Int) (r : List S51) (w : World)
  (hr0_0 : Kd.C k83 w A0_0 l0_0.length l0_0) (hc0_0 : l0_0.length ≤ c0_0) (h : sky_moons.f k l0_0 a0_1 a0_2 a0_3 a1 a2 = some r) :
  Calls Tryz.prog 54 #[.agg #[.slice A0_0 l0_0.length c0_0, .int .i64 a0_1, .int .i64 a0_2, .int .i64 a0_3], .int .i64 a1, .int .i64 a2] w fun e w' => ∃ v0_ : Value, e = .returned (v0_) ∧ Kd.R k51 51 w' w.heap.size (fun _ => True) v0_ r ∧ Below w.heap.size w w' := by
 have HR := A0_ hr0_0; have HC := A0_ hc0_0; have HF := A0_ h; clear hr0_0 hc0_0 h
 have hmf : ∀ (fn : Fn) (first cap : Array Value) (w : World), (Instr.makeFunc fn first cap).run Tryz.prog w = .ok (.func fn first cap) w := fun _ _ _ _ => rfl
 refine (callsIn_wide (n := 5)).1 ?_
 refine callsIn_of_wp_marks Tryz.func54 rfl trivial ?_ rfl
 simp only [Tryz.ntmps54, List.size_toArray, List.length_cons, List.length_nil, Nat.reduceAdd, Nat.reduceSub, Array.replicate_succ, Array.replicate_zero, List.push_toArray, List.append_toArray, List.nil_append, List.cons_append]
 gi_wp2_with (refine ⟨trivial, ?_⟩; gi_at_call 89; refine (callsIn_wide.2 (days_calls A0_0 c0_0 l0_0.length a0_1 a0_2 a0_3 a1 a2 _)).mono ?_; rintro e w' ⟨rfl, rfl⟩)
 have hcond : 0 ≤ a1 ∧ a1 ≤ a2 + 1 ∧ a2 ≤ 20000 ∧ ∀ d ∈ daysOf a1 a2, (at_has_new.f k l0_0 a0_1 a0_2 a0_3 d).isSome = true ∧ (at_has_full.f k l0_0 a0_1 a0_2 a0_3 d).isSome = true := by
  have h := HF.out
  unfold sky_moons.f at h
  split at h
  ·assumption
  ·cases h
 have hres : (daysOf a1 a2).flatMap (moonsAt k l0_0 a0_1 a0_2 a0_3) = r := by
  have h := HF.out
  unfold sky_moons.f at h
  rw [if_pos hcond] at h
  exact Option.some.inj h
 obtain ⟨hc1, hc2, hc3, hc4⟩ := hcond
 have HRES := A0_ hres; have HC4 := A0_ hc4; clear hres hc4
 have hB0 : Below w.heap.size w (((((w.alloc (.cells #[.slice A0_0 l0_0.length c0_0, .int .i64 a0_1, .int .i64 a0_2, .int .i64 a0_3] 28)).alloc (.cells #[.slice none 0 0] 31)).alloc (.cells #[.slice A0_0 l0_0.length c0_0, .int .i64 a0_1, .int .i64 a0_2, .int .i64 a0_3] 28)).alloc (.cells #[.int .i64 a1] 3)).alloc (.cells #[.int .i64 a2] 3)) :=
  below_alloc (below_alloc (below_alloc (below_alloc (below_alloc (Below.refl _ _) _) _) _) _) _
 have hO := blk_alloc (blk_alloc (blk_alloc (blk_new (w.alloc (.cells #[.slice A0_0 l0_0.length c0_0, .int .i64 a0_1, .int .i64 a0_2, .int .i64 a0_3] 28)) (.cells #[.slice none 0 0] 31)) (.cells #[.slice A0_0 l0_0.length c0_0, .int .i64 a0_1, .int .i64 a0_2, .int .i64 a0_3] 28)) (.cells #[.int .i64 a1] 3)) (.cells #[.int .i64 a2] 3)
 have hS := blk_alloc (blk_alloc (blk_new ((w.alloc (.cells #[.slice A0_0 l0_0.length c0_0, .int .i64 a0_1, .int .i64 a0_2, .int .i64 a0_3] 28)).alloc (.cells #[.slice none 0 0] 31)) (.cells #[.slice A0_0 l0_0.length c0_0, .int .i64 a0_1, .int .i64 a0_2, .int .i64 a0_3] 28)) (.cells #[.int .i64 a1] 3)) (.cells #[.int .i64 a2] 3)
 have hL := blk_alloc (blk_new (((w.alloc (.cells #[.slice A0_0 l0_0.length c0_0, .int .i64 a0_1, .int .i64 a0_2, .int .i64 a0_3] 28)).alloc (.cells #[.slice none 0 0] 31)).alloc (.cells #[.slice A0_0 l0_0.length c0_0, .int .i64 a0_1, .int .i64 a0_2, .int .i64 a0_3] 28)) (.cells #[.int .i64 a1] 3)) (.cells #[.int .i64 a2] 3)
 have hH := blk_new ((((w.alloc (.cells #[.slice A0_0 l0_0.length c0_0, .int .i64 a0_1, .int .i64 a0_2, .int .i64 a0_3] 28)).alloc (.cells #[.slice none 0 0] 31)).alloc (.cells #[.slice A0_0 l0_0.length c0_0, .int .i64 a0_1, .int .i64 a0_2, .int .i64 a0_3] 28)).alloc (.cells #[.int .i64 a1] 3)) (.cells #[.int .i64 a2] 3)
 have hsz : (((((w.alloc (.cells #[.slice A0_0 l0_0.length c0_0, .int .i64 a0_1, .int .i64 a0_2, .int .i64 a0_3] 28)).alloc (.cells #[.slice none 0 0] 31)).alloc (.cells #[.slice A0_0 l0_0.length c0_0, .int .i64 a0_1, .int .i64 a0_2, .int .i64 a0_3] 28)).alloc (.cells #[.int .i64 a1] 3)).alloc (.cells #[.int .i64 a2] 3)).heap.size = w.heap.size + 5 := by simp
 simp only [World.size_alloc] at hO hS hL hH
 generalize (((((w.alloc (.cells #[.slice A0_0 l0_0.length c0_0, .int .i64 a0_1, .int .i64 a0_2, .int .i64 a0_3] 28)).alloc (.cells #[.slice none 0 0] 31)).alloc (.cells #[.slice A0_0 l0_0.length c0_0, .int .i64 a0_1, .int .i64 a0_2, .int .i64 a0_3] 28)).alloc (.cells #[.int .i64 a1] 3)).alloc (.cells #[.int .i64 a2] 3)) = W0 at hO hS hL hH hsz hB0 ⊢
 refine wpIn_rangeFunc_ownH rfl (by omega) (gf := 123) (lb := #[.pointer (some ⟨w.heap.size + 3, 0, none⟩), .pointer (some ⟨w.heap.size + 4, 0, none⟩), .pointer (some ⟨w.heap.size + 2, 0, none⟩)]) rfl trivial (enters_of Tryz.func123 (by kernel_rfl) rfl)
  (days_stops (5 - 1) (by omega) (w.heap.size + 2) A0_0 c0_0 l0_0.length a0_1 a0_2 a0_3 a1 a2 hc1 hc2 hc3 W0 hS hL hH) KpD_t (KpD_b (by omega)) (Below.refl _ _) (fun _ => rfl)
  (fun pre W => MoonsI w W0 A0_0 c0_0 l0_0.length a0_1 a0_2 a0_3 a1 a2 (pre.flatMap fun x => moonsAt k l0_0 a0_1 a0_2 a0_3 x.1) W)
  (fun _ _ _ => False)
  (MoonsI.own (by omega)) (fun _ _ _ _ _ hs _ _ => hs) ⟨⟨_, hO, Kd.R_nil _ _ _ _ _⟩, hB0, Nat.le_refl _, hS, hL, hH⟩
  (fun x a' W => ∃ Bx, W0.heap.size ≤ Bx ∧ W.heap[Bx]? = some (.cells #[.slice A0_0 l0_0.length c0_0, .int .i64 a0_1, .int .i64 a0_2, .int .i64 a0_3, .int .i64 x.1] 96 (0, 0)) ∧ a' = { tmps := #[.agg #[.slice A0_0 l0_0.length c0_0, .int .i64 a0_1, .int .i64 a0_2, .int .i64 a0_3], .int .i64 a1, .int .i64 a2, .pointer (some ⟨w.heap.size, 0, none⟩), undef, undef, .slice none 0 0, .pointer (some ⟨w.heap.size + 1, 0, none⟩), .pointer (some ⟨Bx, 0, none⟩), undef, .agg #[.slice A0_0 l0_0.length c0_0, .int .i64 a0_1, .int .i64 a0_2, .int .i64 a0_3], .int .i64 a1, .int .i64 a2, .func (.func 123) #[] #[.pointer (some ⟨w.heap.size + 3, 0, none⟩), .pointer (some ⟨w.heap.size + 4, 0, none⟩), .pointer (some ⟨w.heap.size + 2, 0, none⟩)], .agg #[.slice A0_0 l0_0.length c0_0, .int .i64 a0_1, .int .i64 a0_2, .int .i64 a0_3, .int .i64 x.1], undef, undef, undef, undef, undef, undef, undef, undef, undef, undef], defers := [] })
  ?hAx ?assign ?body ?done ?stop
 case hAx =>
  rintro x a' _ X Y row ⟨Bx, h1, h2, h3⟩ hg hr
  exact ⟨Bx, h1, blk_ownFrom h2 hg (fun r e => (hr r e).2), h3⟩
 case assign =>
  rintro l pre x W K hI hK
  dsimp only [encDay]
  have hs := hI.size
  obtain ⟨⟨v, hOv, hRv⟩, hBW, hsW, hSW, hLW, hHW⟩ := hI
  gi_wp2
  exact hK _ _ ((KeepsOthers.alloc _ _).from _) (fun i h1 h2 => Below.heap_alloc _ _ _ (by omega)) ⟨⟨v, blk_alloc hOv _, Kd.R_alloc hRv _⟩, below_alloc hBW _, by simp; omega, blk_alloc hSW _, blk_alloc hLW _, blk_alloc hHW _⟩ ⟨W.heap.size, hs, blk_new _ _, rfl⟩
 case body =>
  rintro l pre x a' W hl ⟨rr, hrr⟩ hI ⟨Bx, hBx, hX, rfl⟩ hlt
  have hlen := moons_length k l0_0 a0_1 a0_2 a0_3 pre
  obtain ⟨hn0, hf0⟩ := HC4.out x.1 (mem_daysOf.2 x.2)
  obtain ⟨b1, hb1⟩ := Option.isSome_iff_exists.1 hn0
  obtain ⟨b2, hb2⟩ := Option.isSome_iff_exists.1 hf0
  obtain ⟨v, hOv, hRv⟩ := hI.out
  have HB1 := A0_ hb1; have HB2 := A0_ hb2; have HX := A0_ hX; have HOv := A0_ hOv; have HRv := A0_ hRv; have HI := A0_ hI; clear hn0 hf0 hb1 hb2 hX hOv hRv hI hO hS hL hH hrr
  gi_wp2_with fail
  refine ⟨trivial, ?_⟩
  refine (CallsIn.inRound l (callsIn_wide.2 (moons_c1_new k A0_0 c0_0 l0_0 a0_1 a0_2 a0_3 x.1 w.heap.size (w.heap.size + 1) Bx v _ b1 W (Kd.C_below HR.out HI.out.below) HC.out HX.out HOv.out HRv.out (Nat.le_succ _) (by omega) HB1.out))).mono ?_
  rintro e W1 ⟨rfl, v1, hO1, hR1, hk1, hbl1⟩
  have st1 := MoonsI.step HI.out HOv.out HRv.out hO1 hR1 hk1 hbl1
  have HI1 := A0_ st1.1
  have HK1 := A0_ st1.2.1
  have HP1 := A0_ st1.2.2
  have hX1 := (hk1.2 Bx (blk_lt HX.out) (by omega) (row_ne HRv.out HX.out (by decide))).trans HX.out
  have HX1 := A0_ hX1; have HO1 := A0_ hO1; have HR1 := A0_ hR1
  have hlen1 : (if b1 = true then ([⟨x.1, false⟩] : List S51) else []).length ≤ 1 := by split <;> simp
  clear st1 hO1 hR1 hk1 hbl1 hX1
  gi_wp2_with fail
  refine ⟨trivial, ?_⟩
  refine (CallsIn.inRound l (callsIn_wide.2 (moons_c1_full k A0_0 c0_0 l0_0 a0_1 a0_2 a0_3 x.1 w.heap.size (w.heap.size + 1) Bx v1 _ b2 W1 (Kd.C_below HR.out HI1.out.below) HC.out HX1.out HO1.out HR1.out (Nat.le_succ _) (by rw [List.length_append]; omega) HB2.out))).mono ?_
  rintro e W2 ⟨rfl, v2, hO2, hR2, hk2, hbl2⟩
  have st2 := MoonsI.step HI1.out HO1.out HR1.out hO2 hR2 hk2 hbl2
  have HI2 := A0_ st2.1
  have HK2 := A0_ (HK1.out.trans st2.2.1)
  have HP2 := A0_ (KpD_t HP1.out st2.2.2)
  clear st2 hO2 hR2 hk2 hbl2 hlen1
  gi_wp2
  refine ⟨HK2.out, HP2.out, ?_⟩
  have e1 : (pre ++ [x]).flatMap (fun x => moonsAt k l0_0 a0_1 a0_2 a0_3 x.1) = (pre.flatMap fun x => moonsAt k l0_0 a0_1 a0_2 a0_3 x.1) ++ (if b1 = true then [⟨x.1, false⟩] else []) ++ (if b2 = true then [⟨x.1, true⟩] else []) := by
   rw [List.flatMap_append, List.flatMap_cons, List.flatMap_nil, List.append_nil, List.append_assoc]
   congr 1
   unfold moonsAt
   rw [HB1.out, HB2.out]
   simp only [Option.some.injEq]
  dsimp only
  rw [e1]
  exact HI2.out
 case done =>
  rintro D ys W hD hys hI hK
  obtain ⟨v, hOv, hRv⟩ := hI.out
  have o0 := blk_cell hOv 0
  simp at o0
  have HI := A0_ hI; have HRv := A0_ hRv; have HYS := A0_ hys; clear hI hRv hOv hys hO hS hL hH
  gi_wp2
  refine ⟨by simp, .inl ⟨_, _, rfl, run_takeDeferred hK, ?_⟩⟩
  refine ⟨_, results_tmp rfl _ _ _, v, rfl, ?_, HI.out.below.trans (belowK_b (w := w) (Nat.le_refl _) W D _ _ (by omega) hK rfl rfl)⟩
  have hr : (ys.flatMap fun x => moonsAt k l0_0 a0_1 a0_2 a0_3 x.1) = r := by rw [flatMap_val (moonsAt k l0_0 a0_1 a0_2 a0_3) ys, allDays_val HYS.out]; exact HRES.out
  rw [← hr]
  exact R_ownFrom HRv.out (grownBy_putObj' W D (.deferred none)) (fun q e => by cases e; exact ⟨_, hK, rfl⟩)
 case stop =>
  rintro D c pre W _ _ h _
  exact h.elim
end Go.Proofs.YtaidphhkhddemaaGreatDoor.PSky
end
section
namespace Go.Proofs.YtaidphhkhddemaaGreatDoor.PSky
open Go.RowKit Go.Proofs.YtaidphhkhddemaaGreatDoorW.PrintWords Go.Proofs.YtaidphhkhddemaaGreatDoorW.PrintLast Go.Proofs.YtaidphhkhddemaaGreatDoorW.PrintMore
theorem tquot {a b : Int} (hb : 0 < b) : (Int.tmod a b < 0 → a / b = Int.tdiv a b - 1 ∧ a % b = Int.tmod a b + b) ∧ (0 ≤ Int.tmod a b → a / b = Int.tdiv a b ∧ a % b = Int.tmod a b) := by
 have h1 := Int.tmod_add_mul_tdiv a b
 have h2 := Int.tmod_lt_of_pos a hb
 have h3 := Int.lt_tmod_of_pos a hb
 refine ⟨fun h => ?_, fun h => ?_⟩
 ·exact (Int.ediv_emod_unique hb).mpr ⟨by rw [Int.mul_sub, Int.mul_one]; omega, by omega, by omega⟩
 ·exact (Int.ediv_emod_unique hb).mpr ⟨by omega, h, h2⟩
theorem tdiv_le {a b : Int} (hb : 0 < b) {m : Int} (ha : -m ≤ a ∧ a ≤ m) (hm : 0 ≤ m) : -m - 1 ≤ a / b ∧ a / b ≤ m := by
 constructor
 ·have : (-m - 1) ≤ a / b := by
   rw [Int.le_ediv_iff_mul_le hb]
   have := Int.mul_le_mul_of_nonneg_left (show (1 : Int) ≤ b by omega) (show (0 : Int) ≤ m + 1 by omega)
   have e : (-m - 1) * b = -((m + 1) * b) := by rw [← Int.neg_mul]; congr 1; omega
   omega
  exact this
 ·have : a / b ≤ m := by
   have h1 : a / b * b ≤ a := Int.ediv_mul_le a (by omega)
   rcases Int.lt_or_le (a / b) 0 with h | h
   ·omega
   ·have := Int.mul_le_mul_of_nonneg_left (show (1 : Int) ≤ b by omega) h
    omega
  exact this
theorem floor_eq {a b : Int} (hb : 0 < b) (hb2 : b ≤ 1000000000000) (ha : -1000000000000000000 ≤ a ∧ a ≤ 1000000000000000000) : sky_floor.f a b = some (a / b, a % b) := by
 have q := tdiv_le hb ha (by decide)
 have m0 := Int.emod_nonneg a (show b ≠ 0 by omega)
 have m1 := Int.emod_lt_of_pos a hb
 unfold sky_floor.f
 rw [if_neg (by omega)]
 by_cases h : Int.tmod a b < 0
 ·obtain ⟨e1, e2⟩ := (tquot (a := a) hb).1 h
  rw [if_pos h, e1, e2]
  rw [e1] at q
  rw [e2] at m0 m1
  rw [wrap_id (show -9223372036854775808 ≤ a.tdiv b ∧ a.tdiv b ≤ 9223372036854775807 by omega), wrap_id (by omega), wrap_id (by omega)]
 ·obtain ⟨e1, e2⟩ := (tquot (a := a) hb).2 (by omega)
  rw [if_neg h, e1, e2]
  rw [e1] at q
  rw [wrap_id (show -9223372036854775808 ≤ a.tdiv b ∧ a.tdiv b ≤ 9223372036854775807 by omega)]
theorem around_eq {a : Int} (ha : -1000000000000000000 ≤ a ∧ a ≤ 1000000000000000000) : sky_around.f a = some (a % 21600) := by
 unfold sky_around.f
 rw [floor_eq (by decide) (by decide) ha]
 rfl
theorem down_eq {a b : Int} (hb : 0 < b) (hb2 : b ≤ 1000000) (ha : -1000000000000 ≤ a ∧ a ≤ 1000000000000) : tr_down.f a b = some (a / b) := by
 have q := tdiv_le hb ha (by decide)
 have h0 := Int.tmod_add_mul_tdiv a b
 have h2 := Int.tmod_lt_of_pos a hb
 have h3 := Int.lt_tmod_of_pos a hb
 have e0 : a.tdiv b * b = b * a.tdiv b := Int.mul_comm _ _
 unfold tr_down.f
 rw [if_neg (by omega)]
 by_cases h : Int.tmod a b < 0
 ·obtain ⟨e1, e2⟩ := (tquot (a := a) hb).1 h
  rw [e1] at q ⊢
  rw [wrap_id (show -9223372036854775808 ≤ a.tdiv b ∧ a.tdiv b ≤ 9223372036854775807 by omega), wrap_id (show -9223372036854775808 ≤ a.tdiv b * b ∧ a.tdiv b * b ≤ 9223372036854775807 by omega), if_pos (by omega), wrap_id (by omega)]
 ·obtain ⟨e1, e2⟩ := (tquot (a := a) hb).2 (by omega)
  rw [e1] at q ⊢
  rw [wrap_id (show -9223372036854775808 ≤ a.tdiv b ∧ a.tdiv b ≤ 9223372036854775807 by omega), wrap_id (show -9223372036854775808 ≤ a.tdiv b * b ∧ a.tdiv b * b ≤ 9223372036854775807 by omega), if_neg (by omega)]
theorem Less_eq {a : Int} (ha : -1000000000000 ≤ a ∧ a ≤ 1000000000000) : tr_Less.f a = some (a % 21600) := by
 unfold tr_Less.f
 rw [down_eq (by decide) (by decide) ha, Option.bind_some]
 have h1 := Int.emod_add_mul_ediv a 21600
 have h2 := Int.emod_nonneg a (show (21600 : Int) ≠ 0 by decide)
 have h3 := Int.emod_lt_of_pos a (show (0 : Int) < 21600 by decide)
 rw [wrap_id (show -9223372036854775808 ≤ a / 21600 * 21600 ∧ a / 21600 * 21600 ≤ 9223372036854775807 by omega), wrap_id (by omega)]
 congr 1
 omega
def goneOf (p q d : Int) : Int := d * 21600 * q / p
def meanOf (b : S83) (d : Int) : Int := b.f1 + goneOf b.f0.f0 b.f0.f1 d
def stepOf (b : S83) (d : Int) : Int := (meanOf b d % 21600) * (b.f2.length : Int)
def wayOf (b : S83) (d : Int) : Int :=
 meanOf b d + rd b.f2 (stepOf b d / 21600) + (rd b.f2 ((stepOf b d / 21600 + 1) % (b.f2.length : Int)) - rd b.f2 (stepOf b d / 21600)) * (stepOf b d % 21600) / 21600
theorem okIn_iff {a b c : Int} : okIn a b c = true ↔ b ≤ a ∧ a ≤ c := by simp [okIn]
theorem period_of {p q : Int} (h : okPeriod p q = true) : 1 ≤ p ∧ p ≤ 10000 ∧ 1 ≤ q ∧ q ≤ 10000 ∧ 4 * q ≤ p := by
 simp only [okPeriod, Bool.and_eq_true, okIn_iff, decide_eq_true_eq] at h
 omega
theorem gone_bounds {p q d : Int} (h : okPeriod p q = true) (hd : 0 ≤ d ∧ d ≤ 20000) : 0 ≤ goneOf p q d ∧ goneOf p q d ≤ 108000000 ∧ 0 ≤ d * 21600 * q ∧ d * 21600 * q ≤ 4320000000000 := by
 have hp := period_of h
 have h1 : d * 21600 * q = d * q * 21600 := by rw [Int.mul_assoc, Int.mul_comm 21600 q, ← Int.mul_assoc]
 have h0 : 0 ≤ d * q := Int.mul_nonneg hd.1 (by omega)
 have h2 : d * q ≤ 20000 * q := Int.mul_le_mul_of_nonneg_right hd.2 (by omega)
 refine ⟨Int.ediv_nonneg (by omega) (by omega), ?_, by omega, by omega⟩
 unfold goneOf
 have h3 : d * 21600 * q / p * p ≤ d * 21600 * q := Int.ediv_mul_le _ (by omega)
 rcases Int.lt_or_le (d * 21600 * q / p) 108000001 with h4 | h4
 ·omega
 ·have h5 := Int.mul_le_mul h4 (show 4 * q ≤ p by omega) (by omega) (by omega)
  have h6 : 108000001 * (4 * q) = 432000004 * q := by omega
  omega
theorem mean_bounds {b : S83} {d : Int} (h : okBody b = true) (hd : 0 ≤ d ∧ d ≤ 20000) : 0 ≤ meanOf b d ∧ meanOf b d ≤ 108021599 := by
 simp only [okBody, Bool.and_eq_true, okPlace, okIn_iff] at h
 have := gone_bounds h.1 hd
 unfold meanOf
 omega
theorem road_bounds {b : S83} (h : okBody b = true) (i : Int) : -600 ≤ rd b.f2 i ∧ rd b.f2 i ≤ 600 := by
 simp only [okBody, Bool.and_eq_true] at h
 have h4 := h.2.2.2
 unfold rd
 rw [List.getD_eq_getElem?_getD]
 cases hq : b.f2[i.toNat]? with
 | none => decide
 | some x =>
  have hx := List.mem_of_getElem? hq
  have : okIn x (-600) 600 = true := by
   cases h5 : okIn x (-600) 600 with
   | true => rfl
   | false =>
    unfold okRoad at h4
    rw [List.any_eq_true.mpr ⟨x, hx, by simp [h5]⟩] at h4
    cases h4
  exact okIn_iff.mp this
theorem body_len {b : S83} (h : okBody b = true) : 1 ≤ b.f2.length ∧ b.f2.length ≤ 8 := by
 simp only [okBody, Bool.and_eq_true, okIn_iff] at h
 omega
theorem step_bounds {b : S83} {d : Int} (h : okBody b = true) : 0 ≤ stepOf b d ∧ stepOf b d ≤ 172800 ∧ 0 ≤ stepOf b d / 21600 ∧ stepOf b d / 21600 < (b.f2.length : Int) := by
 have hl := body_len h
 have h2 := Int.emod_nonneg (meanOf b d) (show (21600 : Int) ≠ 0 by decide)
 have h3 := Int.emod_lt_of_pos (meanOf b d) (show (0 : Int) < 21600 by decide)
 unfold stepOf
 generalize meanOf b d % 21600 = x at h2 h3 ⊢
 have h4 : 0 ≤ x * (b.f2.length : Int) := Int.mul_nonneg h2 (by omega)
 have h5 : x * (b.f2.length : Int) ≤ 21599 * (b.f2.length : Int) := Int.mul_le_mul_of_nonneg_right (by omega) (by omega)
 refine ⟨h4, by omega, by omega, by omega⟩
theorem gone_eq (l : List S83) (a1 a2 a3 : Int) {p q d : Int} (h : okPeriod p q = true) (hd : 0 ≤ d ∧ d ≤ 20000) : ss_gone.f l a1 a2 a3 d p q = some (goneOf p q d) := by
 have hg := gone_bounds h hd
 have hp := period_of h
 unfold ss_gone.f
 rw [wrap_id (show -9223372036854775808 ≤ d * 21600 ∧ d * 21600 ≤ 9223372036854775807 by omega), wrap_id (by omega), floor_eq (by omega) (by omega) (by omega)]
 rfl
theorem sum2_ev (a b : Int) (h : -1000000000 ≤ a ∧ a ≤ 1000000000) (h' : -1000000000 ≤ b ∧ b ≤ 1000000000) : Ev (fun k => sky_sum.f k [a, b]) (a + b) := by
 unfold sky_sum.f
 rw [show (([a, b].length : Nat) : Int) = 2 from rfl]
 have w1 : wrap64 (0 + 1) = 1 := by kernel_rfl
 have w2 : wrap64 (1 + 1) = 2 := by kernel_rfl
 refine Ev.step (fun k => by rw [sky_sum.l0]) ?_
 refine Ev.pos (by decide) (Ev.pos (by decide) (Ev.pos (by show (0 : Int) < 2; decide) ?_))
 rw [w1]
 refine Ev.step (fun k => by rw [sky_sum.l0]) ?_
 refine Ev.pos (by decide) (Ev.pos (by decide) (Ev.pos (by show (1 : Int) < 2; decide) ?_))
 rw [w2]
 refine Ev.step (fun k => by rw [sky_sum.l0]) ?_
 refine Ev.neg (by decide) ?_
 rw [show rd [a, b] 0 = a from rfl, show rd [a, b] 1 = b from rfl, wrap_id (show -9223372036854775808 ≤ 0 + a ∧ 0 + a ≤ 9223372036854775807 by omega), wrap_id (by omega), Int.zero_add]
 exact Ev.now _
theorem sum3_ev (a b c : Int) (h : -1000000000 ≤ a ∧ a ≤ 1000000000) (h' : -1000000000 ≤ b ∧ b ≤ 1000000000) (h'' : -1000000000 ≤ c ∧ c ≤ 1000000000) : Ev (fun k => sky_sum.f k [a, b, c]) (a + b + c) := by
 unfold sky_sum.f
 rw [show (([a, b, c].length : Nat) : Int) = 3 from rfl]
 have w1 : wrap64 (0 + 1) = 1 := by kernel_rfl
 have w2 : wrap64 (1 + 1) = 2 := by kernel_rfl
 have w3 : wrap64 (2 + 1) = 3 := by kernel_rfl
 refine Ev.step (fun k => by rw [sky_sum.l0]) ?_
 refine Ev.pos (by decide) (Ev.pos (by decide) (Ev.pos (by show (0 : Int) < 3; decide) ?_))
 rw [w1]
 refine Ev.step (fun k => by rw [sky_sum.l0]) ?_
 refine Ev.pos (by decide) (Ev.pos (by decide) (Ev.pos (by show (1 : Int) < 3; decide) ?_))
 rw [w2]
 refine Ev.step (fun k => by rw [sky_sum.l0]) ?_
 refine Ev.pos (by decide) (Ev.pos (by decide) (Ev.pos (by show (2 : Int) < 3; decide) ?_))
 rw [w3]
 refine Ev.step (fun k => by rw [sky_sum.l0]) ?_
 refine Ev.neg (by decide) ?_
 rw [show rd [a, b, c] 0 = a from rfl, show rd [a, b, c] 1 = b from rfl, show rd [a, b, c] 2 = c from rfl, wrap_id (show -9223372036854775808 ≤ 0 + a ∧ 0 + a ≤ 9223372036854775807 by omega), wrap_id (show -9223372036854775808 ≤ 0 + a + b ∧ 0 + a + b ≤ 9223372036854775807 by omega), wrap_id (by omega), Int.zero_add]
 exact Ev.now _
theorem mean_ev (l : List S83) (a1 a2 a3 d : Int) (i : Nat) (hi : i < l.length) (h : okBody l[i] = true) (hd : 0 ≤ d ∧ d ≤ 20000) : Ev (fun k => ss_mean.f k l a1 a2 a3 d (i : Int)) (meanOf l[i] d) := by
 unfold ss_mean.f
 refine Ev.pos (by omega) (Ev.pos (by omega) ?_)
 rw [rdT_get l i hi]
 generalize l[i] = b at h
 have hp : okPeriod b.f0.f0 b.f0.f1 = true := by simp only [okBody, Bool.and_eq_true] at h; exact h.1
 have hs : 0 ≤ b.f1 ∧ b.f1 ≤ 21599 := by simp only [okBody, Bool.and_eq_true, okPlace, okIn_iff] at h; exact h.2.1
 have hg := gone_bounds hp hd
 refine Ev.bind (Ev.is (gone_eq l a1 a2 a3 hp hd)) (Ev.bind (sum2_ev _ _ (by omega) (by omega)) (Ev.now _))
theorem way_ev (l : List S83) (a1 a2 a3 d : Int) (i : Nat) (hi : i < l.length) (h : okBody l[i] = true) (hd : 0 ≤ d ∧ d ≤ 20000) : Ev (fun k => ss_way.f k l a1 a2 a3 d (i : Int)) (wayOf l[i] d) := by
 have hm := mean_ev l a1 a2 a3 d i hi h hd
 unfold ss_way.f
 refine Ev.pos (by omega) (Ev.pos (by omega) (Ev.bind hm ?_))
 rw [rdT_get l i hi]
 generalize l[i] = b at h
 have hmb := mean_bounds h hd
 have hl := body_len h
 have hs := step_bounds (d := d) h
 refine Ev.bind (Ev.is (around_eq (by omega))) ?_
 rw [show meanOf b d % 21600 * (b.f2.length : Int) = stepOf b d from rfl, wrap_id (show -9223372036854775808 ≤ stepOf b d ∧ stepOf b d ≤ 9223372036854775807 by omega)]
 refine Ev.bind (Ev.is (floor_eq (by decide) (by decide) (by omega))) ?_
 simp only
 rw [wrap_id (show -9223372036854775808 ≤ stepOf b d / 21600 + 1 ∧ stepOf b d / 21600 + 1 ≤ 9223372036854775807 by omega)]
 have ht : Int.tmod (stepOf b d / 21600 + 1) (b.f2.length : Int) = (stepOf b d / 21600 + 1) % (b.f2.length : Int) := Int.tmod_eq_emod_of_nonneg (by omega)
 rw [ht]
 have h2 := Int.emod_nonneg (stepOf b d / 21600 + 1) (show (b.f2.length : Int) ≠ 0 by omega)
 have h3 := Int.emod_lt_of_pos (stepOf b d / 21600 + 1) (show (0 : Int) < (b.f2.length : Int) by omega)
 refine Ev.neg (by omega) (Ev.pos h2 (Ev.pos h3 (Ev.pos hs.2.2.1 (Ev.pos hs.2.2.2 ?_))))
 have r1 := road_bounds h (stepOf b d / 21600)
 have r2 := road_bounds h ((stepOf b d / 21600 + 1) % (b.f2.length : Int))
 have p0 := Int.emod_nonneg (stepOf b d) (show (21600 : Int) ≠ 0 by decide)
 have p1 := Int.emod_lt_of_pos (stepOf b d) (show (0 : Int) < 21600 by decide)
 unfold wayOf
 generalize rd b.f2 (stepOf b d / 21600) = x at r1 ⊢
 generalize rd b.f2 ((stepOf b d / 21600 + 1) % (b.f2.length : Int)) = y at r2 ⊢
 generalize stepOf b d % 21600 = z at p0 p1 ⊢
 have q : -25920000 ≤ (y - x) * z ∧ (y - x) * z ≤ 25920000 := by
  constructor
  ·have := Int.mul_le_mul_of_nonneg_right (show -1200 ≤ y - x by omega) p0
   omega
  ·have := Int.mul_le_mul_of_nonneg_right (show y - x ≤ 1200 by omega) p0
   omega
 rw [wrap_id (show -9223372036854775808 ≤ y - x ∧ y - x ≤ 9223372036854775807 by omega), wrap_id (show -9223372036854775808 ≤ (y - x) * z ∧ (y - x) * z ≤ 9223372036854775807 by omega)]
 refine Ev.bind (Ev.is (floor_eq (by decide) (by decide) (by omega))) (Ev.bind (sum3_ev _ _ _ (by omega) (by omega) (by simp only; omega)) (Ev.now _))
theorem way_bounds {b : S83} {d : Int} (h : okBody b = true) (hd : 0 ≤ d ∧ d ≤ 20000) : -2000 ≤ wayOf b d ∧ wayOf b d ≤ 108030000 := by
 have hmb := mean_bounds h hd
 have r1 := road_bounds h (stepOf b d / 21600)
 have r2 := road_bounds h ((stepOf b d / 21600 + 1) % (b.f2.length : Int))
 have p0 := Int.emod_nonneg (stepOf b d) (show (21600 : Int) ≠ 0 by decide)
 have p1 := Int.emod_lt_of_pos (stepOf b d) (show (0 : Int) < 21600 by decide)
 unfold wayOf
 generalize rd b.f2 (stepOf b d / 21600) = x at r1 ⊢
 generalize rd b.f2 ((stepOf b d / 21600 + 1) % (b.f2.length : Int)) = y at r2 ⊢
 generalize stepOf b d % 21600 = z at p0 p1 ⊢
 have q : -25920000 ≤ (y - x) * z ∧ (y - x) * z ≤ 25920000 := by
  constructor
  ·have := Int.mul_le_mul_of_nonneg_right (show -1200 ≤ y - x by omega) p0
   omega
  ·have := Int.mul_le_mul_of_nonneg_right (show y - x ≤ 1200 by omega) p0
   omega
 omega
end Go.Proofs.YtaidphhkhddemaaGreatDoor.PSky
end
section
namespace Go.Proofs.YtaidphhkhddemaaGreatDoor.PSky
open Go.RowKit Go.Proofs.YtaidphhkhddemaaGreatDoorW.PrintWords Go.Proofs.YtaidphhkhddemaaGreatDoorW.PrintLast Go.Proofs.YtaidphhkhddemaaGreatDoorW.PrintMore
theorem refmean_eq {b : S83} {d : Int} (h : okBody b = true) (hd : 0 ≤ d ∧ d ≤ 20000) : tr_mean.f b.f0.f0 b.f0.f1 b.f1 b.f2 d = some (meanOf b d) := by
 have hp : okPeriod b.f0.f0 b.f0.f1 = true := by simp only [okBody, Bool.and_eq_true] at h; exact h.1
 have hs : 0 ≤ b.f1 ∧ b.f1 ≤ 21599 := by simp only [okBody, Bool.and_eq_true, okPlace, okIn_iff] at h; exact h.2.1
 have hg := gone_bounds hp hd
 have hpp := period_of hp
 unfold tr_mean.f
 rw [if_neg (by omega), wrap_id (show -9223372036854775808 ≤ d * 21600 ∧ d * 21600 ≤ 9223372036854775807 by omega), wrap_id (show -9223372036854775808 ≤ d * 21600 * b.f0.f1 ∧ d * 21600 * b.f0.f1 ≤ 9223372036854775807 by omega)]
 rw [Int.tdiv_eq_ediv_of_nonneg hg.2.2.1]
 rw [show d * 21600 * b.f0.f1 / b.f0.f0 = goneOf b.f0.f0 b.f0.f1 d from rfl, wrap_id (show -9223372036854775808 ≤ goneOf b.f0.f0 b.f0.f1 d ∧ goneOf b.f0.f0 b.f0.f1 d ≤ 9223372036854775807 by omega), wrap_id (by omega)]
 rfl
theorem refway_eq {b : S83} {d : Int} (h : okBody b = true) (hd : 0 ≤ d ∧ d ≤ 20000) : tr_way.f b.f0.f0 b.f0.f1 b.f1 b.f2 d = some (wayOf b d) := by
 have hmb := mean_bounds h hd
 have hl := body_len h
 have hs := step_bounds (d := d) h
 unfold tr_way.f
 have hM : tr_Mean.f b.f0.f0 b.f0.f1 b.f1 b.f2 d = some (meanOf b d % 21600) := by
  unfold tr_Mean.f
  rw [refmean_eq h hd, Option.bind_some, Less_eq (by omega)]
  rfl
 rw [hM, Option.bind_some, if_neg (by omega), refmean_eq h hd]
 rw [show meanOf b d % 21600 * (b.f2.length : Int) = stepOf b d from rfl, wrap_id (show -9223372036854775808 ≤ stepOf b d ∧ stepOf b d ≤ 9223372036854775807 by omega)]
 rw [Int.tdiv_eq_ediv_of_nonneg hs.1, Int.tmod_eq_emod_of_nonneg hs.1, wrap_id (show -9223372036854775808 ≤ stepOf b d / 21600 ∧ stepOf b d / 21600 ≤ 9223372036854775807 by omega), wrap_id (show -9223372036854775808 ≤ stepOf b d / 21600 + 1 ∧ stepOf b d / 21600 + 1 ≤ 9223372036854775807 by omega)]
 have ht : Int.tmod (stepOf b d / 21600 + 1) (b.f2.length : Int) = (stepOf b d / 21600 + 1) % (b.f2.length : Int) := Int.tmod_eq_emod_of_nonneg (by omega)
 rw [ht]
 have h2 := Int.emod_nonneg (stepOf b d / 21600 + 1) (show (b.f2.length : Int) ≠ 0 by omega)
 have h3 := Int.emod_lt_of_pos (stepOf b d / 21600 + 1) (show (0 : Int) < (b.f2.length : Int) by omega)
 rw [if_pos h2, if_pos h3, Option.bind_some, if_pos hs.2.2.1, if_pos hs.2.2.2]
 have r1 := road_bounds h (stepOf b d / 21600)
 have r2 := road_bounds h ((stepOf b d / 21600 + 1) % (b.f2.length : Int))
 have p0 := Int.emod_nonneg (stepOf b d) (show (21600 : Int) ≠ 0 by decide)
 have p1 := Int.emod_lt_of_pos (stepOf b d) (show (0 : Int) < 21600 by decide)
 unfold wayOf
 generalize rd b.f2 (stepOf b d / 21600) = x at r1 ⊢
 generalize rd b.f2 ((stepOf b d / 21600 + 1) % (b.f2.length : Int)) = y at r2 ⊢
 generalize stepOf b d % 21600 = z at p0 p1 ⊢
 have q : -25920000 ≤ (y - x) * z ∧ (y - x) * z ≤ 25920000 := by
  constructor
  ·have := Int.mul_le_mul_of_nonneg_right (show -1200 ≤ y - x by omega) p0
   omega
  ·have := Int.mul_le_mul_of_nonneg_right (show y - x ≤ 1200 by omega) p0
   omega
 rw [wrap_id (show -9223372036854775808 ≤ y - x ∧ y - x ≤ 9223372036854775807 by omega), wrap_id (show -9223372036854775808 ≤ (y - x) * z ∧ (y - x) * z ≤ 9223372036854775807 by omega)]
 rw [down_eq (by decide) (by decide) (by omega), Option.bind_some, wrap_id (show -9223372036854775808 ≤ meanOf b d + x ∧ meanOf b d + x ≤ 9223372036854775807 by omega), wrap_id (by omega)]
def aheadOf (l : List S83) (i j : Nat) (d : Int) : Int := wayOf (rd_T83 l (i : Int)) d - wayOf (rd_T83 l (j : Int)) d
theorem ok_at {l : List S83} {p q n : Int} (h : okSky l p q n = true) : 2 ≤ l.length ∧ l.length ≤ 4 ∧ okPeriod p q = true ∧ okPlace n = true ∧ ∀ i : Nat, i < l.length → okBody (rd_T83 l (i : Int)) = true := by
 simp only [okSky, Bool.and_eq_true, okIn_iff] at h
 refine ⟨by omega, by omega, h.2.1, h.2.2.1, fun i hi => ?_⟩
 have h4 := h.2.2.2
 rw [any_all] at h4
 rw [rdT_get l i hi]
 exact List.all_eq_true.mp h4 _ (List.getElem_mem hi)
theorem refahead_eq {l : List S83} {p q n : Int} (h : okSky l p q n = true) (i j : Nat) (hi : i < l.length) (hj : j < l.length) {d : Int} (hd : 0 ≤ d ∧ d ≤ 20000) : tr_ahead.f l p q n (i : Int) (j : Int) d = some (aheadOf l i j d) := by
 obtain ⟨-, -, -, -, hb⟩ := ok_at h
 have b1 := way_bounds (hb i hi) hd
 have b2 := way_bounds (hb j hj) hd
 unfold tr_ahead.f aheadOf
 rw [if_pos (by omega), if_pos (by omega), refway_eq (hb i hi) hd, Option.bind_some, if_pos (by omega), if_pos (by omega), refway_eq (hb j hj) hd, Option.bind_some, wrap_id (by omega)]
theorem wayT_ev {l : List S83} {p q n : Int} (h : okSky l p q n = true) (i : Nat) (hi : i < l.length) {d : Int} (hd : 0 ≤ d ∧ d ≤ 20000) : Ev (fun k => ss_way.f k l p q n d (i : Int)) (wayOf (rd_T83 l (i : Int)) d) := by
 have hb := (ok_at h).2.2.2.2 i hi
 rw [rdT_get l i hi] at hb ⊢
 exact way_ev l p q n d i hi hb hd
theorem lunar_ev {l : List S83} {p q n : Int} (h : okSky l p q n = true) {d : Int} (hd : 0 ≤ d ∧ d ≤ 20000) : Ev (fun k => ss_lunar.f k l p q n d) (aheadOf l 1 0 d) := by
 obtain ⟨h2, -, -, -, hb⟩ := ok_at h
 have b1 := way_bounds (hb 1 (by omega)) hd
 have b2 := way_bounds (hb 0 (by omega)) hd
 unfold ss_lunar.f aheadOf
 refine Ev.bind (a := wayOf (rd_T83 l ((0 : Nat) : Int)) d) ?_ (Ev.bind (a := wayOf (rd_T83 l ((1 : Nat) : Int)) d) ?_ ?_)
 ·unfold ss_sun.f
  exact Ev.bind (wayT_ev h 0 (by omega) hd) (Ev.now _)
 ·unfold ss_moon.f
  exact Ev.bind (wayT_ev h 1 (by omega) hd) (Ev.now _)
 ·rw [wrap_id (by omega)]
  exact Ev.now _
theorem ahead_bounds {l : List S83} {p q n : Int} (h : okSky l p q n = true) (i j : Nat) (hi : i < l.length) (hj : j < l.length) {d : Int} (hd : 0 ≤ d ∧ d ≤ 20000) : -200000000 ≤ aheadOf l i j d ∧ aheadOf l i j d ≤ 200000000 := by
 obtain ⟨-, -, -, -, hb⟩ := ok_at h
 have b1 := way_bounds (hb i hi) hd
 have b2 := way_bounds (hb j hj) hd
 unfold aheadOf
 omega
theorem passes_eq {a b : Int} (ha : -1000000000 ≤ a ∧ a ≤ 1000000000) (hb : -1000000000 ≤ b ∧ b ≤ 1000000000) : sky_passes.f a b = some (decide (b / 21600 > a / 21600)) := by
 unfold sky_passes.f
 rw [floor_eq (by decide) (by decide) (by omega), Option.bind_some, floor_eq (by decide) (by decide) (by omega), Option.bind_some]
theorem passed_eq {a b : Int} (ha : -1000000000 ≤ a ∧ a ≤ 1000000000) (hb : -1000000000 ≤ b ∧ b ≤ 1000000000) : tr_passed.f a b = some (decide (b / 21600 > a / 21600)) := by
 unfold tr_passed.f
 rw [down_eq (by decide) (by decide) (by omega), Option.bind_some, down_eq (by decide) (by decide) (by omega), Option.bind_some]
def isMoon (l : List S83) (half d : Int) : Bool := decide ((aheadOf l 1 0 d - half) / 21600 > (aheadOf l 1 0 (d - 1) - half) / 21600)
theorem new_ev {l : List S83} {p q n : Int} (h : okSky l p q n = true) {d : Int} (hd : 1 ≤ d ∧ d ≤ 20000) : Ev (fun k => at_has_new.f k l p q n d) (isMoon l 0 d) := by
 have h2 := (ok_at h).1
 have b1 := ahead_bounds h 1 0 (by omega) (by omega) (d := d) (by omega)
 have b2 := ahead_bounds h 1 0 (by omega) (by omega) (d := d - 1) (by omega)
 unfold at_has_new.f isMoon
 rw [wrap_id (show -9223372036854775808 ≤ d - 1 ∧ d - 1 ≤ 9223372036854775807 by omega)]
 refine Ev.bind (lunar_ev h (by omega)) (Ev.bind (lunar_ev h (by omega)) (Ev.bind (Ev.is (passes_eq (by omega) (by omega))) ?_))
 simp only [Int.sub_zero]
 exact Ev.now _
theorem full_ev {l : List S83} {p q n : Int} (h : okSky l p q n = true) {d : Int} (hd : 1 ≤ d ∧ d ≤ 20000) : Ev (fun k => at_has_full.f k l p q n d) (isMoon l 10800 d) := by
 have h2 := (ok_at h).1
 have b1 := ahead_bounds h 1 0 (by omega) (by omega) (d := d) (by omega)
 have b2 := ahead_bounds h 1 0 (by omega) (by omega) (d := d - 1) (by omega)
 unfold at_has_full.f isMoon
 rw [wrap_id (show -9223372036854775808 ≤ d - 1 ∧ d - 1 ≤ 9223372036854775807 by omega)]
 refine Ev.bind (lunar_ev h (by omega)) (Ev.bind (lunar_ev h (by omega)) ?_)
 rw [wrap_id (show -9223372036854775808 ≤ aheadOf l 1 0 (d - 1) - 10800 ∧ aheadOf l 1 0 (d - 1) - 10800 ≤ 9223372036854775807 by omega), wrap_id (show -9223372036854775808 ≤ aheadOf l 1 0 d - 10800 ∧ aheadOf l 1 0 d - 10800 ≤ 9223372036854775807 by omega)]
 exact Ev.bind (Ev.is (passes_eq (by omega) (by omega))) (Ev.now _)
theorem refMoon_eq {l : List S83} {p q n : Int} (h : okSky l p q n = true) {d : Int} (hd : 1 ≤ d ∧ d ≤ 20000) (full : Bool) : tr_Moon.f l p q n d full = some (isMoon l (if full = true then 10800 else 0) d) := by
 have h2 := (ok_at h).1
 have b1 := ahead_bounds h 1 0 (by omega) (by omega) (d := d) (by omega)
 have b2 := ahead_bounds h 1 0 (by omega) (by omega) (d := d - 1) (by omega)
 have e1 := refahead_eq h 1 0 (by omega) (by omega) (d := d) (by omega)
 have e2 := refahead_eq h 1 0 (by omega) (by omega) (d := d - 1) (by omega)
 rw [show ((1 : Nat) : Int) = 1 from rfl, show ((0 : Nat) : Int) = 0 from rfl] at e1 e2
 unfold tr_Moon.f isMoon
 rw [wrap_id (show -9223372036854775808 ≤ d - 1 ∧ d - 1 ≤ 9223372036854775807 by omega), e1, e2]
 simp only [Option.bind_some]
 cases full with
 | true =>
  rw [if_pos rfl, if_pos rfl, wrap_id (show -9223372036854775808 ≤ aheadOf l 1 0 (d - 1) - 10800 ∧ aheadOf l 1 0 (d - 1) - 10800 ≤ 9223372036854775807 by omega), wrap_id (show -9223372036854775808 ≤ aheadOf l 1 0 d - 10800 ∧ aheadOf l 1 0 d - 10800 ≤ 9223372036854775807 by omega), passed_eq (by omega) (by omega)]
  rfl
 | false =>
  rw [if_neg (by simp), if_neg (by simp), wrap_id (show -9223372036854775808 ≤ aheadOf l 1 0 (d - 1) - 0 ∧ aheadOf l 1 0 (d - 1) - 0 ≤ 9223372036854775807 by omega), wrap_id (show -9223372036854775808 ≤ aheadOf l 1 0 d - 0 ∧ aheadOf l 1 0 d - 0 ≤ 9223372036854775807 by omega), passed_eq (by omega) (by omega)]
  rfl
def moonOn (l : List S83) (d : Int) : List S51 := (if isMoon l 0 d = true then [⟨d, false⟩] else []) ++ (if isMoon l 10800 d = true then [⟨d, true⟩] else [])
theorem Ev.all {α β : Type} (g : α → Nat → Option β) (r : α → β) : ∀ l : List α, (∀ d ∈ l, Ev (g d) (r d)) → ∃ K, ∀ k, K ≤ k → ∀ d ∈ l, g d k = Option.some (r d)
 | [], _ => ⟨0, fun _ _ d h => by cases h⟩
 | x :: t, h => by
  obtain ⟨K1, h1⟩ := h x (List.mem_cons_self ..)
  obtain ⟨K2, h2⟩ := Ev.all g r t (fun d hd => h d (List.mem_cons_of_mem _ hd))
  refine ⟨max K1 K2, fun k hk d hd => ?_⟩
  rcases List.mem_cons.mp hd with rfl | hd
  ·exact h1 k (by omega)
  ·exact h2 k (by omega) d hd
theorem span_of {a b : Int} (h : okSpan a b = true) : 1 ≤ a ∧ a ≤ b ∧ b ≤ 20000 ∧ b - a ≤ 800 := by
 simp only [okSpan, Bool.and_eq_true, okIn_iff, decide_eq_true_eq] at h
 omega
theorem moons_ev {l : List S83} {p q n : Int} (h : okSky l p q n = true) {lo hi : Int} (hs : okSpan lo hi = true) : Ev (fun k => sky_moons.f k l p q n lo hi) ((daysOf lo hi).flatMap (moonOn l)) := by
 have hsp := span_of hs
 have hday : ∀ d ∈ daysOf lo hi, 1 ≤ d ∧ d ≤ 20000 := by
  intro d hd
  unfold daysOf at hd
  obtain ⟨j, hj, rfl⟩ := List.mem_map.mp hd
  have := List.mem_range.mp hj
  omega
 obtain ⟨K1, h1⟩ := Ev.all (fun d k => at_has_new.f k l p q n d) (fun d => isMoon l 0 d) (daysOf lo hi) (fun d hd => new_ev h (hday d hd))
 obtain ⟨K2, h2⟩ := Ev.all (fun d k => at_has_full.f k l p q n d) (fun d => isMoon l 10800 d) (daysOf lo hi) (fun d hd => full_ev h (hday d hd))
 refine ⟨max K1 K2, fun k hk => ?_⟩
 show sky_moons.f k l p q n lo hi = _
 unfold sky_moons.f
 rw [if_pos ⟨by omega, by omega, by omega, fun d hd => ⟨by rw [h1 k (by omega) d hd]; rfl, by rw [h2 k (by omega) d hd]; rfl⟩⟩]
 congr 1
 rw [List.flatMap_def, List.flatMap_def]
 congr 1
 refine List.map_congr_left fun d hd => ?_
 unfold moonsAt moonOn
 rw [h1 k (by omega) d hd, h2 k (by omega) d hd]
 simp only [Option.some.injEq]
theorem moonOn_length (l : List S83) (d : Int) : (moonOn l d).length ≤ 2 := by
 unfold moonOn
 split <;> split <;> simp
theorem refMoons_loop {l : List S83} {p q n : Int} (h : okSky l p q n = true) {hi : Int} (hh : hi ≤ 20000) : ∀ (m : Nat) (d : Int) (acc : List S51), 1 ≤ d → d + m = hi + 1 → acc.length + 2 * m ≤ 1000000 →
  Ev (fun k => tr_Moons.l0 k hi acc d l p q n) (acc ++ ((List.range m).map fun j : Nat => d + (j : Nat)).flatMap (moonOn l))
 | 0, d, acc, hd, hm, ha => by
  refine Ev.step (fun k => by rw [tr_Moons.l0]) ?_
  refine Ev.neg (by omega) ?_
  simp only [List.range_zero, List.map_nil, List.flatMap_nil, List.append_nil]
  exact Ev.now _
 | m + 1, d, acc, hd, hm, ha => by
  have hr : ((List.range (m + 1)).map fun j : Nat => d + (j : Nat)).flatMap (moonOn l) = moonOn l d ++ ((List.range m).map fun j : Nat => d + 1 + (j : Nat)).flatMap (moonOn l) := by
   rw [List.range_succ_eq_map, List.map_cons, List.flatMap_cons, List.map_map]
   congr 1
   ·simp
   ·congr 1
    refine List.map_congr_left fun j _ => ?_
    simp only [Function.comp_apply, Nat.succ_eq_add_one]
    omega
  have ih := fun acc' ha' => refMoons_loop h hh m (d + 1) acc' (by omega) (by omega) ha'
  refine Ev.step (fun k => by rw [tr_Moons.l0]) ?_
  rw [wrap_id (show -9223372036854775808 ≤ d + 1 ∧ d + 1 ≤ 9223372036854775807 by omega), hr]
  refine Ev.pos (by omega) (Ev.bind (Ev.is (refMoon_eq h (by omega) false)) ?_)
  rw [if_neg (by simp)]
  have e2 := refMoon_eq h (d := d) (by omega) true
  rw [if_pos rfl] at e2
  cases hn : isMoon l 0 d with
  | true =>
   refine Ev.pos rfl (Ev.pos (by omega) (Ev.bind (Ev.now _) (Ev.bind (Ev.is e2) ?_)))
   cases hf : isMoon l 10800 d with
   | true =>
    rw [show moonOn l d = [⟨d, false⟩, ⟨d, true⟩] by unfold moonOn; rw [hn, hf]; rfl]
    refine Ev.pos rfl (Ev.pos (by simp; omega) ?_)
    have := ih (acc ++ [⟨d, false⟩] ++ [⟨d, true⟩]) (by simp; omega)
    simpa using this
   | false =>
    rw [show moonOn l d = [⟨d, false⟩] by unfold moonOn; rw [hn, hf]; rfl]
    refine Ev.neg (by simp) ?_
    have := ih (acc ++ [⟨d, false⟩]) (by simp; omega)
    simpa using this
  | false =>
   refine Ev.neg (by simp) (Ev.bind (Ev.is e2) ?_)
   cases hf : isMoon l 10800 d with
   | true =>
    rw [show moonOn l d = [⟨d, true⟩] by unfold moonOn; rw [hn, hf]; rfl]
    refine Ev.pos rfl (Ev.pos (by omega) ?_)
    have := ih (acc ++ [⟨d, true⟩]) (by simp; omega)
    simpa using this
   | false =>
    rw [show moonOn l d = [] by unfold moonOn; rw [hn, hf]; rfl]
    refine Ev.neg (by simp) ?_
    have := ih acc (by omega)
    simpa using this
theorem refMoons_ev {l : List S83} {p q n : Int} (h : okSky l p q n = true) {lo hi : Int} (hs : okSpan lo hi = true) : Ev (fun k => tr_Moons.f k l p q n lo hi) ((daysOf lo hi).flatMap (moonOn l)) := by
 have hsp := span_of hs
 have := refMoons_loop h (hi := hi) (by omega) (hi + 1 - lo).toNat lo [] (by omega) (by omega) (by simp; omega)
 unfold tr_Moons.f
 simpa [daysOf] using this
theorem sameMoons_ev (l : List S51) (hl : l.length ≤ 1000000) : Ev (fun k => tr_SameMoons.f k l l) true := by
 have key : ∀ m i : Nat, i + m = l.length → Ev (fun k => tr_SameMoons.l0 k l l (i : Int)) true := by
  intro m
  induction m with
  | zero =>
   intro i h
   refine Ev.step (fun k => by rw [tr_SameMoons.l0]) ?_
   exact Ev.neg (by omega) (Ev.now _)
  | succ m ih =>
   intro i h
   refine Ev.step (fun k => by rw [tr_SameMoons.l0]) ?_
   refine Ev.pos (by omega) (Ev.pos (by omega) (Ev.pos (by omega) (Ev.neg (by simp) ?_)))
   rw [wrap_id (by omega)]
   exact ih (i + 1) (by omega)
 unfold tr_SameMoons.f
 exact Ev.pos rfl (key l.length 0 (by omega))
end Go.Proofs.YtaidphhkhddemaaGreatDoor.PSky
end
