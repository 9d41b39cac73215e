/- SkyMoons: for every sky and every span, the law returns true; the arguments read as they did. (A part of the proof.) -/
import Derived.ChangeSame
import Derived.Deep.DeepHandedRow
import Derived.Deep.Slices
import Derived.Deep.Strs
import Derived.LaidMore
import Derived.Lib.LaidTab
import Derived.OpenShut
import Derived.ProofKit
import Derived.SizedLaws
import Derived.Stop.Joined
import Derived.Stop.LaidErr
import Derived.Test.YtaidphhkhddemaaGreatDoorRows
import Derived.Test.YtaidphhkhddemaaGreatDoorZ7
section
namespace Go.Proofs.YtaidphhkhddemaaGreatDoor.PSky
open Go.RowKit Go.Proofs.YtaidphhkhddemaaGreatDoorW.PrintWords Go.Proofs.YtaidphhkhddemaaGreatDoorW.PrintLast Go.Proofs.YtaidphhkhddemaaGreatDoorW.PrintMore
attribute [local go_sem] max2_int min2_int max_two min_two max_three min_three max_four min_four
set_option linter.unusedVariables false
set_option linter.unusedSimpArgs false
def tl_SkyMoons.j0 : Nat → Int → Int → List (S51) → Int → Bool → List (S83) → Int → Int → Int → Option (Bool)
 | 0, _, _, _, _, _, _, _, _, _ => none
 | k + 1, x1, x2, x7, x8, x28, x191000, x191001, x191002, x191003 => if x28 = true then (if x8 = 2 then (if (x7.length : Int) = 0 then ((tl_known.f).bind fun t199 => (some t199)) else (some false)) else (some false)) else (if x8 = 0 then ((tr_Moons.f k x191000 x191001 x191002 x191003 x1 x2).bind fun t200 => ((tr_SameMoons.f k x7 t200).bind fun t203 => (if t203 = true then ((tl_known.f).bind fun t204 => (some t204)) else (some false)))) else (some false))
def tl_SkyMoons.f (k : Nat) (l0_0 : List (S83)) (a0_1 : Int) (a0_2 : Int) (a0_3 : Int) (a1 : Int) (a2 : Int) : Option (Bool) := (tl_short.f k l0_0 a0_1 a0_2 a0_3).bind fun t191 => (if t191 = true then ((sky_Moons.f k l0_0 a0_1 a0_2 a0_3 a1 a2).bind fun bt193 => ((tr_Sky.f k l0_0 a0_1 a0_2 a0_3).bind fun t197 => (if t197 = true then ((tr_Span.f a1 a2).bind fun t198 => (tl_SkyMoons.j0 k a1 a2 bt193.1 bt193.2 (!t198) l0_0 a0_1 a0_2 a0_3)) else (tl_SkyMoons.j0 k a1 a2 bt193.1 bt193.2 true l0_0 a0_1 a0_2 a0_3)))) else ((tl_known.f).bind fun t192 => (some t192)))
set_option maxHeartbeats 8000000 in
set_option maxRecDepth 100000 in
theorem tl_SkyMoons.calls (k : Nat) (A0_0 : Option Addr) (c0_0 : Nat) (l0_0 : List (S83)) (a0_1 : Int) (a0_2 : Int) (a0_3 : Int) (a1 : Int) (a2 : Int) (r : Bool) (w : World) (hr0_0 : Kd.C k83 w A0_0 l0_0.length l0_0) (hc0_0 : l0_0.length ≤ c0_0) (h : tl_SkyMoons.f k l0_0 a0_1 a0_2 a0_3 a1 a2 = some r) (hLD : LD w) :
  Calls Tryz.prog 3 #[.agg #[.slice A0_0 l0_0.length c0_0, .int .i64 a0_1, .int .i64 a0_2, .int .i64 a0_3], .int .i64 a1, .int .i64 a2] w fun e w' => e = .returned (.bool r) ∧ Below w.heap.size w w' := by
 have HLD := A0_ hLD; clear hLD
 have hu28 := Tryz.underlying28
 have HR0_0 := A0_ hr0_0; have HC0_0 := A0_ hc0_0; clear hr0_0 hc0_0
 have HB := A0_ (Below.refl w.heap.size w)
 have H : ((tl_short.f k l0_0 a0_1 a0_2 a0_3).bind fun t191 => (if t191 = true then ((sky_Moons.f k l0_0 a0_1 a0_2 a0_3 a1 a2).bind fun bt193 => ((tr_Sky.f k l0_0 a0_1 a0_2 a0_3).bind fun t197 => (if t197 = true then ((tr_Span.f a1 a2).bind fun t198 => (tl_SkyMoons.j0 k a1 a2 bt193.1 bt193.2 (!t198) l0_0 a0_1 a0_2 a0_3)) else (tl_SkyMoons.j0 k a1 a2 bt193.1 bt193.2 true l0_0 a0_1 a0_2 a0_3)))) else ((tl_known.f).bind fun t192 => (some t192)))) = some r := h
 clear h; replace H := Option.bind_eq_some_iff.mp H; obtain ⟨t191, A40, H⟩ := H
 replace H : (if t191 = true then ((sky_Moons.f k l0_0 a0_1 a0_2 a0_3 a1 a2).bind fun bt193 => ((tr_Sky.f k l0_0 a0_1 a0_2 a0_3).bind fun t197 => (if t197 = true then ((tr_Span.f a1 a2).bind fun t198 => (tl_SkyMoons.j0 k a1 a2 bt193.1 bt193.2 (!t198) l0_0 a0_1 a0_2 a0_3)) else (tl_SkyMoons.j0 k a1 a2 bt193.1 bt193.2 true l0_0 a0_1 a0_2 a0_3)))) else ((tl_known.f).bind fun t192 => (some t192))) = some r := H
 have A4 := A0_ A40; clear A40
 by_cases c5 : t191 = true
 ·subst c5
  have H1 : ((sky_Moons.f k l0_0 a0_1 a0_2 a0_3 a1 a2).bind fun bt193 => ((tr_Sky.f k l0_0 a0_1 a0_2 a0_3).bind fun t197 => (if t197 = true then ((tr_Span.f a1 a2).bind fun t198 => (tl_SkyMoons.j0 k a1 a2 bt193.1 bt193.2 (!t198) l0_0 a0_1 a0_2 a0_3)) else (tl_SkyMoons.j0 k a1 a2 bt193.1 bt193.2 true l0_0 a0_1 a0_2 a0_3)))) = some r := by rw [if_pos rfl] at H; exact H
  clear H; have H := H1; clear H1; replace H := Option.bind_eq_some_iff.mp H
  obtain ⟨⟨t193, t196⟩, A60, H⟩ := H
  replace H : ((tr_Sky.f k l0_0 a0_1 a0_2 a0_3).bind fun t197 => (if t197 = true then ((tr_Span.f a1 a2).bind fun t198 => (tl_SkyMoons.j0 k a1 a2 t193 t196 (!t198) l0_0 a0_1 a0_2 a0_3)) else (tl_SkyMoons.j0 k a1 a2 t193 t196 true l0_0 a0_1 a0_2 a0_3))) = some r := H
  have A6 := A0_ A60; clear A60; have HC7 := A0_ H; clear H
  go_enter Tryz.func3, Tryz.ntmps3
  go_upto_region 4 with (first | ((with_reducible refine gate_dst (N := 3) rfl ?_); (try (refine gate_guard (by rfl) ?_; dsimp only)); refine box_event ?hg (N := 3) ?hd (cs := #[.slice A0_0 l0_0.length c0_0, .int .i64 a0_1, .int .i64 a0_2, .int .i64 a0_3]) (t := 28) ?hr ?_; (case hd => rfl); (case hg => rfl); (case hr => first | (go_simp; done) | (go_simp; rfl)); intro gb190 hg w8 hbox hb; have n0_ := A0_ (below_step y0_ hb); have n1_ := A0_ (hbox); have n2_ := A0_ ((by rw [hg]; exact (below_size y0_) : w.heap.size ≤ gb190)); have n3_ := A0_ ((by rw [hg]; exact (below_size y0_) : w.heap.size ≤ gb190)); clear HB; have HB := n0_; have BK190 := n1_; have GW190 := n2_; have GE190 := n3_; clear n0_ n1_ n2_ n3_; clear hb hbox hg; obtain ⟨hcz9_0, hcz9_1, hcz9_2, hcz9_3, hfz9_0, hfz9_1, hfz9_2, hfz9_3⟩ := bq4_ BK190.out) | ((with_reducible refine gate_callee (f := 10) rfl ?_); refine goesL_ (some 10) rfl rfl Tryz.func10 (by kernel_rfl) rfl #[.agg #[.slice A0_0 l0_0.length c0_0, .int .i64 a0_1, .int .i64 a0_2, .int .i64 a0_3]] rfl y1_ ?_; (with_reducible refine (tl_short.calls k _ _ l0_0 a0_1 a0_2 a0_3 true _ ?side1 ?side2 A4.out).mono ?_); (case side1 => repeat (first | exact (Kd.C_below HR0_0.out HB.out) | (with_reducible refine Kd.C_alloc ?_ _) | (with_reducible refine Kd.C_drewN ?_ _) | (with_reducible refine Kd.C_drew ?_))); (case side2 => exact HC0_0.out); rintro e w10 ⟨rfl, hb⟩; refine ⟨_, rfl, ?_⟩; have n0_ := A0_ (blk_below (g := gb190) (o := .cells #[.slice A0_0 l0_0.length c0_0, .int .i64 a0_1, .int .i64 a0_2, .int .i64 a0_3] 28 (0, 0)) (bd_ BK190.out) hb); have n1_ := A0_ (below_step y9_ hb); clear BK190; clear HB; have BK190 := n0_; have HB := n1_; clear n0_ n1_; (try clear hb); (try clear hb2); (try clear hk); (try clear hi); obtain ⟨hcz11_0, hcz11_1, hcz11_2, hcz11_3, hfz11_0, hfz11_1, hfz11_2, hfz11_3⟩ := bq4_ BK190.out) | ((with_reducible refine gate_callee (f := 12) rfl ?_); refine goesL_ (some 17) rfl rfl Tryz.func12 (by kernel_rfl) rfl #[.agg #[.slice A0_0 l0_0.length c0_0, .int .i64 a0_1, .int .i64 a0_2, .int .i64 a0_3], .int .i64 a1, .int .i64 a2] rfl y1_ ?_; (with_reducible refine (sky_Moons.calls k _ _ l0_0 a0_1 a0_2 a0_3 a1 a2 t193 t196 _ ?side1 ?side2 A6.out).mono ?_); (case side1 => repeat (first | exact (Kd.C_below HR0_0.out HB.out) | (with_reducible refine Kd.C_alloc ?_ _) | (with_reducible refine Kd.C_drewN ?_ _) | (with_reducible refine Kd.C_drew ?_))); (case side2 => exact HC0_0.out); rintro e w12 ⟨v194, rfl, ho0, hb⟩; refine ⟨_, rfl, ?_⟩; have n0_ := A0_ (Kd.R_lower ho0 (below_size y9_)); have n1_ := A0_ (blk_below (g := gb190) (o := .cells #[.slice A0_0 l0_0.length c0_0, .int .i64 a0_1, .int .i64 a0_2, .int .i64 a0_3] 28 (0, 0)) (bd_ BK190.out) hb); have n2_ := A0_ (below_step y9_ hb); clear BK190; clear HB; have HO195 := n0_; have BK190 := n1_; have HB := n2_; clear n0_ n1_ n2_; (try clear hb); (try clear hb2); (try clear hk); (try clear hi); (try clear ho0)))
  (try simp only [Act.put, List.setIfInBounds_toArray, List.set_cons_zero, List.set_cons_succ])
  go_cut [28] (fun v28 wc => ∃ (kq : Nat) (x28_6 : Bool), v28 = .bool x28_6 ∧ Aside0 (tl_SkyMoons.j0 kq a1 a2 t193 t196 x28_6 l0_0 a0_1 a0_2 a0_3 = some r) ∧ Aside0 (kq ≤ k) ∧ Aside0 (Kd.R k51 51 wc w.heap.size (fun _ => True) v194 t193) ∧ Aside0 (wc.heap[gb190]? = some (.cells #[(.slice A0_0 l0_0.length c0_0), .int .i64 a0_1, .int .i64 a0_2, .int .i64 a0_3] 28 (0, 0))) ∧ Aside0 (Below w.heap.size w wc))
  case first =>
   have H := HC7.out
   clear HC7; replace H := Option.bind_eq_some_iff.mp H; obtain ⟨t197, A130, H⟩ := H
   replace H : (if t197 = true then ((tr_Span.f a1 a2).bind fun t198 => (tl_SkyMoons.j0 k a1 a2 t193 t196 (!t198) l0_0 a0_1 a0_2 a0_3)) else (tl_SkyMoons.j0 k a1 a2 t193 t196 true l0_0 a0_1 a0_2 a0_3)) = some r := H
   have A13 := A0_ A130; clear A130
   by_cases c14 : t197 = true
   ·subst c14
    have H1 : ((tr_Span.f a1 a2).bind fun t198 => (tl_SkyMoons.j0 k a1 a2 t193 t196 (!t198) l0_0 a0_1 a0_2 a0_3)) = some r := by rw [if_pos rfl] at H; exact H
    clear H; have H := H1; clear H1; replace H := Option.bind_eq_some_iff.mp H; obtain ⟨t198, A150, H⟩ := H
    replace H : (tl_SkyMoons.j0 k a1 a2 t193 t196 (!t198) l0_0 a0_1 a0_2 a0_3) = some r := H
    have A15 := A0_ A150; clear A150
    have H' := A0_ H
    clear H; obtain ⟨hcz16_0, hcz16_1, hcz16_2, hcz16_3, hfz16_0, hfz16_1, hfz16_2, hfz16_3⟩ := bq4_ BK190.out
    go_wp2_with (first | ((with_reducible refine gate_callee (f := 13) rfl ?_); refine goesL_ (some 21) rfl rfl Tryz.func13 (by kernel_rfl) rfl #[.agg #[.slice A0_0 l0_0.length c0_0, .int .i64 a0_1, .int .i64 a0_2, .int .i64 a0_3]] rfl y1_ ?_; (with_reducible refine (tr_Sky.calls k _ _ l0_0 a0_1 a0_2 a0_3 true _ ?side1 ?side2 A13.out).mono ?_); (case side1 => repeat (first | exact (Kd.C_below HR0_0.out HB.out) | (with_reducible refine Kd.C_alloc ?_ _) | (with_reducible refine Kd.C_drewN ?_ _) | (with_reducible refine Kd.C_drew ?_))); (case side2 => exact HC0_0.out); rintro e w17 ⟨rfl, hb⟩; refine ⟨_, rfl, ?_⟩; have n0_ := A0_ (Kd.R_below (rd_ HO195.out) hb); have n1_ := A0_ (blk_below (g := gb190) (o := .cells #[.slice A0_0 l0_0.length c0_0, .int .i64 a0_1, .int .i64 a0_2, .int .i64 a0_3] 28 (0, 0)) (bd_ BK190.out) hb); have n2_ := A0_ (below_step y9_ hb); clear HO195; clear BK190; clear HB; have HO195 := n0_; have BK190 := n1_; have HB := n2_; clear n0_ n1_ n2_; (try clear hb); (try clear hb2); (try clear hk); (try clear hi)) | (go_at_call 14; (with_reducible refine (tr_Span.calls a1 a2 t198 _ A15.out).mono ?_); rintro e w' ⟨rfl, ⟨nd, rfl⟩⟩))
    go_meet
    case rel => exact ⟨_, (!t198), y3_, H', ⟨by first | omega | exact Nat.le_refl _⟩, ⟨by (with_reducible repeat (first | apply Kd.R_alloc | apply Kd.R_drewN | apply Kd.R_drew)); exact HO195.out⟩, ⟨by (with_reducible repeat (first | refine blk_drewN ?_ _ | refine blk_drew ?_ | refine blk_alloc ?_ _)); exact BK190.out⟩, ⟨y9_⟩⟩
   ·replace c14 := Bool.eq_false_iff.mpr c14; subst c14
    have H1 : (tl_SkyMoons.j0 k a1 a2 t193 t196 true l0_0 a0_1 a0_2 a0_3) = some r := by rw [if_neg (show ¬ (false = true) by decide)] at H; exact H
    clear H; have H := H1; clear H1
    have H' := A0_ H
    clear H; obtain ⟨hcz18_0, hcz18_1, hcz18_2, hcz18_3, hfz18_0, hfz18_1, hfz18_2, hfz18_3⟩ := bq4_ BK190.out
    go_wp2_with (first | ((with_reducible refine gate_callee (f := 13) rfl ?_); refine goesL_ (some 21) rfl rfl Tryz.func13 (by kernel_rfl) rfl #[.agg #[.slice A0_0 l0_0.length c0_0, .int .i64 a0_1, .int .i64 a0_2, .int .i64 a0_3]] rfl y1_ ?_; (with_reducible refine (tr_Sky.calls k _ _ l0_0 a0_1 a0_2 a0_3 false _ ?side1 ?side2 A13.out).mono ?_); (case side1 => repeat (first | exact (Kd.C_below HR0_0.out HB.out) | (with_reducible refine Kd.C_alloc ?_ _) | (with_reducible refine Kd.C_drewN ?_ _) | (with_reducible refine Kd.C_drew ?_))); (case side2 => exact HC0_0.out); rintro e w19 ⟨rfl, hb⟩; refine ⟨_, rfl, ?_⟩; have n0_ := A0_ (Kd.R_below (rd_ HO195.out) hb); have n1_ := A0_ (blk_below (g := gb190) (o := .cells #[.slice A0_0 l0_0.length c0_0, .int .i64 a0_1, .int .i64 a0_2, .int .i64 a0_3] 28 (0, 0)) (bd_ BK190.out) hb); have n2_ := A0_ (below_step y9_ hb); clear HO195; clear BK190; clear HB; have HO195 := n0_; have BK190 := n1_; have HB := n2_; clear n0_ n1_ n2_; (try clear hb); (try clear hb2); (try clear hk); (try clear hi)))
    go_meet
    case rel => exact ⟨_, (true), y3_, H', ⟨by first | omega | exact Nat.le_refl _⟩, ⟨by (with_reducible repeat (first | apply Kd.R_alloc | apply Kd.R_drewN | apply Kd.R_drew)); exact HO195.out⟩, ⟨by (with_reducible repeat (first | refine blk_drewN ?_ _ | refine blk_drew ?_ | refine blk_alloc ?_ _)); exact BK190.out⟩, ⟨y9_⟩⟩
  case rest =>
   clear HC7; (try clear c1); (try clear p2); (try clear c3); (try clear c5); (try clear c10); (try clear c12); (try clear c13); (try clear c14); (try clear hcz11_0); (try clear hcz11_1); (try clear hcz11_2); (try clear hcz11_3); (try clear hcz16_0); (try clear hcz16_1); (try clear hcz16_2); (try clear hcz16_3); (try clear hcz18_0); (try clear hcz18_1); (try clear hcz18_2); (try clear hcz18_3); (try clear hcz9_0); (try clear hcz9_1); (try clear hcz9_2); (try clear hcz9_3); (try clear hfz11_0); (try clear hfz11_1); (try clear hfz11_2); (try clear hfz11_3); (try clear hfz16_0); (try clear hfz16_1); (try clear hfz16_2); (try clear hfz16_3); (try clear hfz18_0); (try clear hfz18_1); (try clear hfz18_2); (try clear hfz18_3); (try clear hfz9_0); (try clear hfz9_1); (try clear hfz9_2); (try clear hfz9_3)
   obtain ⟨kq, x28_6, rfl, HA, HJ6, HO_7, BK190, HB⟩ := hcut
   cases kq with
   | zero => exact absurd HA.out (by simp [tl_SkyMoons.j0])
   | succ kj6 =>
    have H := HA.out
    clear HA
    simp only [tl_SkyMoons.j0] at H
    by_cases c20 : x28_6 = true
    ·subst c20
     have H1 : (if t196 = 2 then (if (t193.length : Int) = 0 then ((tl_known.f).bind fun t199 => (some t199)) else (some false)) else (some false)) = some r := by rw [if_pos rfl] at H; exact H
     clear H; have H := H1; clear H1
     by_cases c21 : t196 = 2
     ·rw [if_pos c21] at H
      have c21b0 : (t196 == 2) = true := beq_iff_eq.mpr c21
      have c21b1 : (t196 != 2) = false := bne_eq_false_iff_eq.mpr c21
      clear c21
      by_cases c22 : (t193.length : Int) = 0
      ·rw [if_pos c22] at H
       have c22b0 : ((t193.length : Int) == 0) = true := beq_iff_eq.mpr c22
       have c22b1 : ((t193.length : Int) != 0) = false := bne_eq_false_iff_eq.mpr c22
       clear c22; replace H := Option.bind_eq_some_iff.mp H; obtain ⟨t199, A230, H⟩ := H
       replace H : (some t199) = some r := H
       have A23 := A0_ A230; clear A230; obtain rfl := Option.some.inj H
       obtain ⟨Ao24, co24, eo24⟩ := Kd.R_slice HO_7.out
       subst eo24
       go_wp2_with (first | (go_at_call 11; (with_reducible refine (tl_known.calls  t199 _ A23.out ?side1).mono ?_); (case side1 => exact LD.below HLD.out y9_); rintro e w25 ⟨rfl, hb⟩; have n0_ := A0_ (Kd.R_below (rd_ HO_7.out) hb); have n1_ := A0_ (blk_below (g := gb190) (o := .cells #[.slice A0_0 l0_0.length c0_0, .int .i64 a0_1, .int .i64 a0_2, .int .i64 a0_3] 28 (0, 0)) (bd_ BK190.out) hb); have n2_ := A0_ (below_step y9_ hb); clear HO_7; clear BK190; clear HB; have HO_7 := n0_; have BK190 := n1_; have HB := n2_; clear n0_ n1_ n2_; (try clear hb); (try clear hb2); (try clear hk); (try clear hi)))
       go_ret
       exact ⟨y2_, y9_⟩
      ·rw [if_neg c22] at H
       have c22b0 : ((t193.length : Int) == 0) = false := beq_eq_false_iff_ne.mpr c22
       have c22b1 : ((t193.length : Int) != 0) = true := bne_iff_ne.mpr c22
       have c22b2 : ¬ (t193 = []) := fun h_ => c22 (by rw [h_]; rfl)
       obtain rfl := Option.some.inj H
       obtain ⟨Ao26, co26, eo26⟩ := Kd.R_slice HO_7.out
       subst eo26; go_wp2; go_ret
       exact ⟨y2_, y9_⟩
     ·rw [if_neg c21] at H
      have c21b0 : (t196 == 2) = false := beq_eq_false_iff_ne.mpr c21
      have c21b1 : (t196 != 2) = true := bne_iff_ne.mpr c21
      obtain rfl := Option.some.inj H; go_wp2; go_ret
      exact ⟨y2_, y9_⟩
    ·replace c20 := Bool.eq_false_iff.mpr c20; subst c20
     have H1 : (if t196 = 0 then ((tr_Moons.f kj6 l0_0 a0_1 a0_2 a0_3 a1 a2).bind fun t200 => ((tr_SameMoons.f kj6 t193 t200).bind fun t203 => (if t203 = true then ((tl_known.f).bind fun t204 => (some t204)) else (some false)))) else (some false)) = some r := by rw [if_neg (show ¬ (false = true) by decide)] at H; exact H
     clear H; have H := H1; clear H1
     by_cases c27 : t196 = 0
     ·rw [if_pos c27] at H
      have c27b0 : (t196 == 0) = true := beq_iff_eq.mpr c27
      have c27b1 : (t196 != 0) = false := bne_eq_false_iff_eq.mpr c27
      clear c27; replace H := Option.bind_eq_some_iff.mp H; obtain ⟨t200, A280, H⟩ := H
      replace H : ((tr_SameMoons.f kj6 t193 t200).bind fun t203 => (if t203 = true then ((tl_known.f).bind fun t204 => (some t204)) else (some false))) = some r := H
      have A28 := A0_ A280; clear A280; replace H := Option.bind_eq_some_iff.mp H; obtain ⟨t203, A290, H⟩ := H
      replace H : (if t203 = true then ((tl_known.f).bind fun t204 => (some t204)) else (some false)) = some r := H
      have A29 := A0_ A290; clear A290
      by_cases c30 : t203 = true
      ·subst c30
       have H1 : ((tl_known.f).bind fun t204 => (some t204)) = some r := by rw [if_pos rfl] at H; exact H
       clear H; have H := H1; clear H1; replace H := Option.bind_eq_some_iff.mp H; obtain ⟨t204, A310, H⟩ := H
       replace H : (some t204) = some r := H
       have A31 := A0_ A310; clear A310; obtain rfl := Option.some.inj H; obtain ⟨hcz32_0, hcz32_1, hcz32_2, hcz32_3, hfz32_0, hfz32_1, hfz32_2, hfz32_3⟩ := bq4_ BK190.out
       go_wp2_with (first | (go_at_call 16; (with_reducible refine (tr_Moons.calls kj6 _ _ l0_0 a0_1 a0_2 a0_3 a1 a2 t200 _ ?side1 ?side2 A28.out).mono ?_); (case side1 => repeat (first | exact (Kd.C_below HR0_0.out HB.out) | (with_reducible refine Kd.C_alloc ?_ _) | (with_reducible refine Kd.C_drewN ?_ _) | (with_reducible refine Kd.C_drew ?_))); (case side2 => exact HC0_0.out); rintro e w33 ⟨v201, rfl, ho0, hb⟩; have n0_ := A0_ (Kd.R_elder' (rd_ HO_7.out) (Kd.R_base ho0) hb); have n1_ := A0_ (Kd.R_lower (Kd.R_new' ho0 (Kd.R_lt (rd_ HO_7.out))) (below_size y9_)); have n2_ := A0_ (blk_below (g := gb190) (o := .cells #[.slice A0_0 l0_0.length c0_0, .int .i64 a0_1, .int .i64 a0_2, .int .i64 a0_3] 28 (0, 0)) (bd_ BK190.out) hb); have n3_ := A0_ (below_step y9_ hb); clear HO_7; clear BK190; clear HB; have HO_7 := n0_; have HO202 := n1_; have BK190 := n2_; have HB := n3_; clear n0_ n1_ n2_ n3_; (try clear hb); (try clear hb2); (try clear hk); (try clear hi); (try clear ho0); obtain ⟨Ao34, co34, eo34⟩ := Kd.R_slice HO_7.out; subst eo34; obtain ⟨Ao35, co35, eo35⟩ := Kd.R_slice HO202.out; subst eo35) | (go_at_call 15; (with_reducible refine (tr_SameMoons.calls kj6 _ _ t193 _ _ t200 true _ ?side1 ?side2 ?side3 ?side4 A29.out).mono ?_); (case side1 => repeat (first | exact (Kd.R_reads' HO_7.out).2.2 | (with_reducible refine Kd.C_alloc ?_ _) | (with_reducible refine Kd.C_drewN ?_ _) | (with_reducible refine Kd.C_drew ?_))); (case side2 => exact (Kd.R_reads' HO_7.out).2.1); (case side3 => repeat (first | exact (Kd.R_reads' HO202.out).2.2 | (with_reducible refine Kd.C_alloc ?_ _) | (with_reducible refine Kd.C_drewN ?_ _) | (with_reducible refine Kd.C_drew ?_))); (case side4 => exact (Kd.R_reads' HO202.out).2.1); rintro e w' ⟨rfl, ⟨nd, rfl⟩⟩) | (go_at_call 11; (with_reducible refine (tl_known.calls  t204 _ A31.out ?side1).mono ?_); (case side1 => exact LD.below HLD.out y9_); rintro e w36 ⟨rfl, hb⟩; have n0_ := A0_ (Kd.R_below (rd_ HO_7.out) hb); have n1_ := A0_ (Kd.R_below (rd_ HO202.out) hb); have n2_ := A0_ (blk_below (g := gb190) (o := .cells #[.slice A0_0 l0_0.length c0_0, .int .i64 a0_1, .int .i64 a0_2, .int .i64 a0_3] 28 (0, 0)) (bd_ BK190.out) hb); have n3_ := A0_ (below_step y9_ hb); clear HO_7; clear HO202; clear BK190; clear HB; have HO_7 := n0_; have HO202 := n1_; have BK190 := n2_; have HB := n3_; clear n0_ n1_ n2_ n3_; (try clear hb); (try clear hb2); (try clear hk); (try clear hi)))
       go_ret
       exact ⟨y2_, y9_⟩
      ·replace c30 := Bool.eq_false_iff.mpr c30; subst c30
       have H1 : (some false) = some r := by rw [if_neg (show ¬ (false = true) by decide)] at H; exact H
       clear H; have H := H1; clear H1; obtain rfl := Option.some.inj H; obtain ⟨hcz37_0, hcz37_1, hcz37_2, hcz37_3, hfz37_0, hfz37_1, hfz37_2, hfz37_3⟩ := bq4_ BK190.out
       go_wp2_with (first | (go_at_call 16; (with_reducible refine (tr_Moons.calls kj6 _ _ l0_0 a0_1 a0_2 a0_3 a1 a2 t200 _ ?side1 ?side2 A28.out).mono ?_); (case side1 => repeat (first | exact (Kd.C_below HR0_0.out HB.out) | (with_reducible refine Kd.C_alloc ?_ _) | (with_reducible refine Kd.C_drewN ?_ _) | (with_reducible refine Kd.C_drew ?_))); (case side2 => exact HC0_0.out); rintro e w38 ⟨v201, rfl, ho0, hb⟩; have n0_ := A0_ (Kd.R_elder' (rd_ HO_7.out) (Kd.R_base ho0) hb); have n1_ := A0_ (Kd.R_lower (Kd.R_new' ho0 (Kd.R_lt (rd_ HO_7.out))) (below_size y9_)); have n2_ := A0_ (blk_below (g := gb190) (o := .cells #[.slice A0_0 l0_0.length c0_0, .int .i64 a0_1, .int .i64 a0_2, .int .i64 a0_3] 28 (0, 0)) (bd_ BK190.out) hb); have n3_ := A0_ (below_step y9_ hb); clear HO_7; clear BK190; clear HB; have HO_7 := n0_; have HO202 := n1_; have BK190 := n2_; have HB := n3_; clear n0_ n1_ n2_ n3_; (try clear hb); (try clear hb2); (try clear hk); (try clear hi); (try clear ho0); obtain ⟨Ao39, co39, eo39⟩ := Kd.R_slice HO_7.out; subst eo39; obtain ⟨Ao40, co40, eo40⟩ := Kd.R_slice HO202.out; subst eo40) | (go_at_call 15; (with_reducible refine (tr_SameMoons.calls kj6 _ _ t193 _ _ t200 false _ ?side1 ?side2 ?side3 ?side4 A29.out).mono ?_); (case side1 => repeat (first | exact (Kd.R_reads' HO_7.out).2.2 | (with_reducible refine Kd.C_alloc ?_ _) | (with_reducible refine Kd.C_drewN ?_ _) | (with_reducible refine Kd.C_drew ?_))); (case side2 => exact (Kd.R_reads' HO_7.out).2.1); (case side3 => repeat (first | exact (Kd.R_reads' HO202.out).2.2 | (with_reducible refine Kd.C_alloc ?_ _) | (with_reducible refine Kd.C_drewN ?_ _) | (with_reducible refine Kd.C_drew ?_))); (case side4 => exact (Kd.R_reads' HO202.out).2.1); rintro e w' ⟨rfl, ⟨nd, rfl⟩⟩))
       go_ret
       exact ⟨y2_, y9_⟩
     ·rw [if_neg c27] at H
      have c27b0 : (t196 == 0) = false := beq_eq_false_iff_ne.mpr c27
      have c27b1 : (t196 != 0) = true := bne_iff_ne.mpr c27
      obtain rfl := Option.some.inj H; go_wp2; go_ret
      exact ⟨y2_, y9_⟩
 ·replace c5 := Bool.eq_false_iff.mpr c5; subst c5
  have H1 : ((tl_known.f).bind fun t192 => (some t192)) = some r := by rw [if_neg (show ¬ (false = true) by decide)] at H; exact H
  clear H; have H := H1; clear H1; replace H := Option.bind_eq_some_iff.mp H; obtain ⟨t192, A410, H⟩ := H
  replace H : (some t192) = some r := H
  have A41 := A0_ A410; clear A410; obtain rfl := Option.some.inj H
  go_enter Tryz.func3, Tryz.ntmps3
  go_wp2_with (first | ((with_reducible refine gate_dst (N := 3) rfl ?_); (try (refine gate_guard (by rfl) ?_; dsimp only)); refine box_event ?hg (N := 3) ?hd (cs := #[.slice A0_0 l0_0.length c0_0, .int .i64 a0_1, .int .i64 a0_2, .int .i64 a0_3]) (t := 28) ?hr ?_; (case hd => rfl); (case hg => rfl); (case hr => first | (go_simp; done) | (go_simp; rfl)); intro gb190 hg w42 hbox hb; have n0_ := A0_ (below_step y0_ hb); have n1_ := A0_ (hbox); have n2_ := A0_ ((by rw [hg]; exact (below_size y0_) : w.heap.size ≤ gb190)); have n3_ := A0_ ((by rw [hg]; exact (below_size y0_) : w.heap.size ≤ gb190)); clear HB; have HB := n0_; have BK190 := n1_; have GW190 := n2_; have GE190 := n3_; clear n0_ n1_ n2_ n3_; clear hb hbox hg; obtain ⟨hcz43_0, hcz43_1, hcz43_2, hcz43_3, hfz43_0, hfz43_1, hfz43_2, hfz43_3⟩ := bq4_ BK190.out) | ((with_reducible refine gate_callee (f := 10) rfl ?_); refine goesL_ (some 10) rfl rfl Tryz.func10 (by kernel_rfl) rfl #[.agg #[.slice A0_0 l0_0.length c0_0, .int .i64 a0_1, .int .i64 a0_2, .int .i64 a0_3]] rfl y1_ ?_; (with_reducible refine (tl_short.calls k _ _ l0_0 a0_1 a0_2 a0_3 false _ ?side1 ?side2 A4.out).mono ?_); (case side1 => repeat (first | exact (Kd.C_below HR0_0.out HB.out) | (with_reducible refine Kd.C_alloc ?_ _) | (with_reducible refine Kd.C_drewN ?_ _) | (with_reducible refine Kd.C_drew ?_))); (case side2 => exact HC0_0.out); rintro e w44 ⟨rfl, hb⟩; refine ⟨_, rfl, ?_⟩; have n0_ := A0_ (blk_below (g := gb190) (o := .cells #[.slice A0_0 l0_0.length c0_0, .int .i64 a0_1, .int .i64 a0_2, .int .i64 a0_3] 28 (0, 0)) (bd_ BK190.out) hb); have n1_ := A0_ (below_step y9_ hb); clear BK190; clear HB; have BK190 := n0_; have HB := n1_; clear n0_ n1_; (try clear hb); (try clear hb2); (try clear hk); (try clear hi)) | ((with_reducible refine gate_callee (f := 11) rfl ?_); refine goesL_ (some 12) rfl rfl Tryz.func11 (by kernel_rfl) rfl #[] rfl y1_ ?_; (with_reducible refine (tl_known.calls  t192 _ A41.out ?side1).mono ?_); (case side1 => exact LD.below HLD.out y9_); rintro e w45 ⟨rfl, hb⟩; refine ⟨_, rfl, ?_⟩; have n0_ := A0_ (blk_below (g := gb190) (o := .cells #[.slice A0_0 l0_0.length c0_0, .int .i64 a0_1, .int .i64 a0_2, .int .i64 a0_3] 28 (0, 0)) (bd_ BK190.out) hb); have n1_ := A0_ (below_step y9_ hb); clear BK190; clear HB; have BK190 := n0_; have HB := n1_; clear n0_ n1_; (try clear hb); (try clear hb2); (try clear hk); (try clear hi)))
  go_ret
  exact ⟨y2_, y9_⟩
end Go.Proofs.YtaidphhkhddemaaGreatDoor.PSky
end
section
namespace Go.Proofs.YtaidphhkhddemaaGreatDoor.PSky
open Go.RowKit Go.Proofs.YtaidphhkhddemaaGreatDoorW.PrintWords Go.Proofs.YtaidphhkhddemaaGreatDoorW.PrintLast Go.Proofs.YtaidphhkhddemaaGreatDoorW.PrintMore
theorem known_ev : Ev (fun _ => tl_known.f.bind fun t => some t) true := Ev.now true
theorem Span_eq (a b : Int) : tr_Span.f a b = some (okSpan a b) := isSpan_eq a b
theorem Moons_ev (l : List S83) (p q n a b : Int) : Ev (fun k => sky_Moons.f k l p q n a b) (if okSky l p q n = true ∧ okSpan a b = true then ((daysOf a b).flatMap (moonOn l), 0) else ([], 2)) := by
 unfold sky_Moons.f
 refine Ev.bind (isSky_ev l p q n) ?_
 cases h1 : okSky l p q n with
 | false =>
  refine Ev.neg (by simp) ?_
  rw [if_neg (by simp)]
  exact Ev.now _
 | true =>
  refine Ev.pos rfl (Ev.bind (Ev.is (isSpan_eq a b)) ?_)
  cases h2 : okSpan a b with
  | false =>
   refine Ev.neg (by simp) ?_
   rw [if_neg (by simp)]
   exact Ev.now _
  | true =>
   rw [if_pos ⟨rfl, rfl⟩]
   exact Ev.pos rfl (Ev.bind (moons_ev h1 h2) (Ev.now _))
theorem flat_length {l : List S83} : ∀ ds : List Int, (ds.flatMap (moonOn l)).length ≤ 2 * ds.length
 | [] => by simp
 | d :: ds => by
  have := moonOn_length l d
  have := flat_length (l := l) ds
  simp only [List.flatMap_cons, List.length_append, List.length_cons]
  omega
theorem SkyMoons_ev (l : List S83) (p q n a b : Int) : Ev (fun k => tl_SkyMoons.f k l p q n a b) true := by
 obtain ⟨s, hs, hs6⟩ := short_ev l p q n
 unfold tl_SkyMoons.f
 refine Ev.bind hs ?_
 cases s with
 | false => exact Ev.neg (by simp) known_ev
 | true =>
  have hl := hs6 rfl
  refine Ev.pos rfl (Ev.bind (Moons_ev l p q n a b) (Ev.bind (refSky_ev l p q n (by omega)) ?_))
  cases h1 : okSky l p q n with
  | false =>
   refine Ev.neg (by simp) ?_
   rw [if_neg (by simp)]
   refine Ev.step (fun k => by rw [tl_SkyMoons.j0]) ?_
   exact Ev.pos rfl (Ev.pos rfl (Ev.pos rfl known_ev))
  | true =>
   refine Ev.pos rfl (Ev.bind (Ev.is (Span_eq a b)) ?_)
   cases h2 : okSpan a b with
   | false =>
    rw [if_neg (by simp)]
    refine Ev.step (fun k => by rw [tl_SkyMoons.j0]) ?_
    exact Ev.pos rfl (Ev.pos rfl (Ev.pos rfl known_ev))
   | true =>
    rw [if_pos ⟨rfl, rfl⟩]
    refine Ev.step (fun k => by rw [tl_SkyMoons.j0]) ?_
    refine Ev.neg (by simp) (Ev.pos rfl (Ev.bind (refMoons_ev h1 h2) (Ev.bind (sameMoons_ev _ ?_) (Ev.pos rfl known_ev))))
    have := flat_length (l := l) (daysOf a b)
    have hsp := span_of h2
    have : (daysOf a b).length = (b + 1 - a).toNat := by simp [daysOf]
    show ((daysOf a b).flatMap (moonOn l)).length ≤ 1000000
    omega
end Go.Proofs.YtaidphhkhddemaaGreatDoor.PSky
end
section
namespace Go.Proofs.YtaidphhkhddemaaGreatDoor.PSky
open Go.RowKit Go.Deep Go.ChangeShapes Go.Proofs.YtaidphhkhddemaaGreatDoorW.PrintWords Go.Proofs.YtaidphhkhddemaaGreatDoorW.PrintLast Go.Proofs.YtaidphhkhddemaaGreatDoorW.PrintMore
theorem list_of {α : Type} (Q : Nat → α → Prop) : ∀ n, (∀ j, j < n → ∃ p, Q j p) → ∃ xs : List α, xs.length = n ∧ ∀ j p, xs[j]? = some p → Q j p
 | 0, _ => ⟨[], rfl, fun j p h => by simp at h⟩
 | n + 1, h => by
  obtain ⟨xs, hl, hq⟩ := list_of Q n (fun j hj => h j (by omega))
  obtain ⟨p, hp⟩ := h n (by omega)
  refine ⟨xs ++ [p], by simp [hl], fun j q hj => ?_⟩
  rcases Nat.lt_or_ge j xs.length with h1 | h1
  ·rw [List.getElem?_append_left h1] at hj
   exact hq j q hj
  ·rw [List.getElem?_append_right h1] at hj
   have h2 : j - xs.length = 0 := by
    rcases Nat.eq_zero_or_pos (j - xs.length) with h3 | h3
    ·exact h3
    ·rw [List.getElem?_eq_none (by simp; omega)] at hj
     cases hj
   rw [h2] at hj
   obtain rfl : p = q := by simpa using hj
   rw [show j = n by omega]
   exact hp
theorem len4 {cs : List Value} (h : cs.length = 4) : ∃ a b c d, cs = [a, b, c, d] := by
 match cs, h with
 | [a, b, c, d], _ => exact ⟨a, b, c, d, rfl⟩
theorem len2 {cs : List Value} (h : cs.length = 2) : ∃ a b, cs = [a, b] := by
 match cs, h with
 | [a, b], _ => exact ⟨a, b, rfl⟩
section
variable {H : Type} {enc : TypeId × Value → H} {w : World} {base : Nat} {spare : Nat → Bool} {held : Bool}
theorem reads_of_trod {α : Type} (d : Kd α) {t e fuel : Nat} {cs : List Value} {x : DataW H × List MemPlace} (ht : Tryz.prog.underlying t = some (.slice e)) (hs : Tryz.prog.cellsOf e = d.sz)
  (el : ∀ n cs x, DataW.trod enc Tryz.prog w base spare held n e cs = some x → ∃ p, d.K w p cs) (h : DataW.trod enc Tryz.prog w base spare held fuel t cs = some x) :
  ∃ (A : Option Addr) (c : Nat) (xs : List α), cs = [.slice A xs.length c] ∧ xs.length ≤ c ∧ c ≤ maxLen ∧ d.C w A xs.length xs := by
 rcases open_slice ht h with ⟨rfl, -⟩ | ⟨a, len, cap, m, n, D, Pl, rfl, -, hl, hc, hm, -, hel⟩
 ·exact ⟨none, 0, [], rfl, Nat.le_refl _, Nat.zero_le _, rfl, Nat.zero_le _, fun h => absurd h (Nat.lt_irrefl 0)⟩
 ·have hlm : len ≤ m := by rw [hm]; split <;> omega
  obtain ⟨xs, hxl, hq⟩ := list_of (fun j p => ∃ c, c.length = d.sz ∧ d.K w p c ∧ ∀ i u, c[i]? = some u → w.cell? (a.add (j * d.sz + i)) = some u) len (fun j hj => by
   obtain ⟨cs', h1, h2⟩ := hel j (by omega)
   obtain ⟨p, hp⟩ := el n cs' _ h2
   rw [hs] at h1
   refine ⟨p, cs', d.K_len hp, hp, fun i u hu => ?_⟩
   obtain ⟨-, hcl, hcell⟩ := World.cells?_some h1
   have hi : i < d.sz := by rw [← hcl]; exact (List.getElem?_eq_some_iff.mp hu).1
   have := hcell i hi
   rw [Go.Deep.add_add] at this
   exact this.trans hu)
  subst hxl
  exact ⟨some a, cap, xs, rfl, hl, hc, rfl, by simp only [maxLen] at hc; omega, fun _ => ⟨a, rfl, hq⟩⟩
theorem elem_int : ∀ n cs x, DataW.trod enc Tryz.prog w base spare held n 3 cs = some x → ∃ p, (Kd.int .i64).K w p cs := by
 intro n cs x h
 obtain ⟨k, rfl, -, -⟩ := DataW.trod_int Tryz.underlying3 h
 exact ⟨k, rfl⟩
theorem cells24 : Tryz.prog.cellsOf 24 = 2 := by kernel_rfl
theorem cells83 : Tryz.prog.cellsOf 83 = 4 := by kernel_rfl
theorem cells26 : Tryz.prog.cellsOf 26 = 3 := by kernel_rfl
theorem cells28 : Tryz.prog.cellsOf 28 = 4 := by kernel_rfl
theorem cells3 : Tryz.prog.cellsOf 3 = 1 := by kernel_rfl
theorem cells63 : Tryz.prog.cellsOf 63 = 1 := by kernel_rfl
theorem cells22 : Tryz.prog.cellsOf 22 = 1 := by kernel_rfl
theorem elem24 : ∀ n cs x, DataW.trod enc Tryz.prog w base spare held n 24 cs = some x → ∃ a b, cs = [.int .i64 a, .int .i64 b] := by
 intro n cs x h
 obtain ⟨y0, y1, m, -, hl, h0, h1⟩ := trod_struct2 Tryz.underlying24 h
 rw [cells24] at hl
 ·obtain ⟨c0, c1, rfl⟩ := len2 hl
  simp only [cells3] at h0 h1
  obtain ⟨a, ea, -, -⟩ := DataW.trod_int Tryz.underlying3 h0
  obtain ⟨b, eb, -, -⟩ := DataW.trod_int Tryz.underlying3 h1
  simp at ea eb
  subst ea eb
  exact ⟨a, b, rfl⟩
theorem elem83 : ∀ n cs x, DataW.trod enc Tryz.prog w base spare held n 83 cs = some x → ∃ p, k83.K w p cs := by
 intro n cs x h
 obtain ⟨y0, y1, y2, m, -, hl, h0, h1, h2⟩ := trod_struct3 Tryz.underlying83 h
 rw [cells83] at hl
 ·obtain ⟨c0, c1, c2, c3, rfl⟩ := len4 hl
  simp only [cells24, cells3, cells63] at h0 h1 h2
  obtain ⟨a, b, ea⟩ := elem24 _ _ _ h0
  obtain ⟨c, ec, -, -⟩ := DataW.trod_int Tryz.underlying3 h1
  obtain ⟨A, cp, l, el, hlc, -, hC⟩ := reads_of_trod (Kd.int .i64) Tryz.underlying63 cells3 elem_int h2
  simp at ea ec el
  obtain ⟨rfl, rfl⟩ := ea
  subst ec el
  exact ⟨⟨⟨a, b⟩, c, l⟩, k83_mk w ⟨⟨a, b⟩, c, l⟩ hlc hC⟩
theorem open_sky {fuel : Nat} {cs : List Value} {x : DataW H × List MemPlace} (h : DataW.trod enc Tryz.prog w base spare held fuel 28 cs = some x) :
  ∃ (A : Option Addr) (c : Nat) (l : List S83) (a1 a2 a3 : Int), cs = [.slice A l.length c, .int .i64 a1, .int .i64 a2, .int .i64 a3] ∧ l.length ≤ c ∧ k83.C w A l.length l := by
 obtain ⟨y0, y1, m, -, hl, h0, h1⟩ := trod_struct2 Tryz.underlying28 h
 rw [cells28] at hl
 ·obtain ⟨c0, c1, c2, c3, rfl⟩ := len4 hl
  simp only [cells22, cells26] at h0 h1
  obtain ⟨z0, z1, m', -, hl', g0, g1⟩ := trod_struct2 Tryz.underlying26 h1
  simp only [cells24, cells3] at g0 g1
  obtain ⟨a, b, ea⟩ := elem24 _ _ _ g0
  obtain ⟨c, ec, -, -⟩ := DataW.trod_int Tryz.underlying3 g1
  obtain ⟨A, cp, l, el, hlc, -, hC⟩ := reads_of_trod k83 Tryz.underlying22 cells83 elem83 h0
  simp at ea ec el
  obtain ⟨rfl, rfl⟩ := ea
  subst ec el
  exact ⟨A, cp, l, a, b, c, rfl, hlc, hC⟩
end
end Go.Proofs.YtaidphhkhddemaaGreatDoor.PSky
end
section
namespace Go.Proofs.YtaidphhkhddemaaGreatDoor
open Go.ChangeShapes Go.WideShapes Go.ChangeAt Go.RowKit
theorem own : ownKnob Tryz.prog.godebug = none := by kernel_rfl
theorem laidOut : laidOutB Tryz.prog = true := by kernel_rfl
theorem gPow : Tryz.prog.globalNamed "internal/strconv.uint64pow10" = some 1 := by kernel_rfl
theorem gPowType : (Tryz.prog.globals[1]?).map (·.type) = some 181 := by kernel_rfl
theorem cellsPow : Tryz.prog.cellsOf 181 = 20 := by kernel_rfl
theorem cellsU64 : Tryz.prog.cellsOf 172 = 1 := by kernel_rfl
def litCells : DataW Unit → List Value
 | .lit (.int k n) => [.int k n]
 | .agg l => l.flatMap fun | .lit (.int k n) => [.int k n] | _ => []
 | _ => []
def tabCells : DataW Unit → List Value
 | .agg l => l.flatMap litCells
 | _ => []
def lay (d : DataW Unit) : Obj → Obj
 | .cells _ t fz => .cells (tabCells d).toArray t fz
 | o => o
noncomputable def laidWorld (os : Os) : World :=
 { World.holding Tryz.prog os ⟨#[], #[], []⟩ with heap := (((((World.holding Tryz.prog os ⟨#[], #[], []⟩).heap.modify 1 (lay Rows.laid_internal_strconv_uint64pow10)).modify 2 (lay Rows.laid_unicode_utf8_first)).modify 3 (lay Rows.laid_unicode_utf8_acceptRanges)).modify 4 (lay Rows.laid_math_bits_deBruijn32tab)).modify 5 (lay Rows.laid_math_bits_deBruijn64tab) }
theorem laid_met (os : Os) (args : Array Value) : laidMetH Tryz.prog Rows.skyMoonsRow.laid ((laidWorld os).forCall (fun _ _ => 0) ⟨#[], args, []⟩).memory := by
 rw [MakeChecks.laidMetH_plain _ _ _ (by kernel_rfl)]
 exact laidMet_of_run' 8 (by kernel_rfl) (by kernel_rfl)
theorem agg_of {v : Value} {cs : List Value} (h : v.cells.toList = cs) (hl : cs.length = 4) : v = .agg cs.toArray := by
 cases v with
 | agg a => simp only [Value.cells] at h; rw [← h]
 | _ => simp [Value.cells] at h; rw [← h] at hl; simp at hl
theorem ld_of {W : World} (hL : laidMetH Tryz.prog Rows.skyMoonsRow.laid W) (hsh : W.ShapedOpen Tryz.prog) : PSky.LD W := by
 rw [MakeChecks.laidMetH_plain _ _ _ (by kernel_rfl)] at hL
 have h3 := laidMet.tail (laidMet.tail hL)
 exact ⟨Lib.tabIs_of_head gPow gPowType Tryz.underlying181 Tryz.underlying172 cellsU64 cellsPow h3, Tryz.laysM219.s1_3 W hsh⟩
set_option maxRecDepth 100000 in
theorem lifted (os : Os) (started : os.Started) (H : Type) (enc : TypeId × Value → H) (F : Stop.Interp) :
  ReturnsInHanded {} Tryz.checked os 3 .any ((OpenSpec.ofChange Rows.skyMoonsSpec).preRow enc Tryz.prog Tryz.f3 Rows.skyMoonsRow.domain false Rows.skyMoonsRow.laid) (((OpenSpec.ofChange Rows.skyMoonsSpec).at F).post enc Tryz.prog Tryz.f3 false true false false) := by
 refine returnsInHanded_of_row (C := Tryz.checked) (s := OpenSpec.ofChange Rows.skyMoonsSpec) own started (by kernel_rfl) Tryz.func3
  ?wit ?_
 case wit =>
  exact witness_row_at (enc := enc) (C := Tryz.checked) false (laidWorld os) #[.agg #[.slice none 0 0, .int .i64 0, .int .i64 0, .int .i64 0], .int .i64 0, .int .i64 0] rfl (by kernel_rfl) (by kernel_rfl) (by kernel_rfl)
   (OpenSpec.preRow_of_B rfl 8 (by kernel_rfl) (by kernel_rfl) (laid_met os _))
 intro W base args ds gs before hval0 hW _ _ hsz0 hL hsh _
 have hval : ∀ (j : Nat) t v, Tryz.f3.params[j]? = some t → args[j]? = some v → Value.okWide Tryz.prog W .any base t v := hval0
 have hW' := hW
 obtain ⟨p, q, hA0, hV, rfl, hfz, hnd⟩ := hW
 have hA : DataW.TrodAll enc Tryz.prog W 0 (fun _ => true) true Tryz.f3.params.toList args.toList ds p := hA0
 rw [Tryz.params3] at hA hval
 obtain ⟨v0, v1, v2, d0, d1, d2, p0, p1, p2, rfl, rfl, rfl, h0, h1, h2⟩ := trodAll_three hA
 obtain ⟨rfl, rfl⟩ := trodVars_none hV
 obtain ⟨x1, rfl, rfl, rfl, w1⟩ := open_int Tryz.underlying3 (hval 1 3 v1 rfl rfl) h1
 obtain ⟨x2, rfl, rfl, rfl, w2⟩ := open_int Tryz.underlying3 (hval 2 3 v2 rfl rfl) h2
 have k0 := h0
 have lt0 : ∀ x ∈ p0, x.block < W.heap.size := by obtain ⟨m, hm⟩ := k0; exact DataW.trod_lt m _ _ _ hm
 obtain ⟨fuel, hf⟩ := h0
 obtain ⟨A, c, l, a1, a2, a3, hcs, hlc, hC⟩ := PSky.open_sky hf
 obtain rfl := agg_of hcs rfl
 obtain ⟨k, hk⟩ := (PSky.SkyMoons_ev l a1 a2 a3 x1 x2).rounds
 have hld := ld_of hL hsh
 clear hA0 hval0 hsz0 hA hval hf hL hsh
 refine (PSky.tl_SkyMoons.calls k A c l a1 a2 a3 x1 x2 true W hC hlc hk hld).mono fun e W' ⟨he, bel⟩ => ?_
 subst he
 exact ⟨_, rfl, _, _, _, [], _, [], hW', trodAll_mk1 (shut_bool Tryz.underlying4 _), (trodAll_cons_mk (Below.trod laidOut (by kernel_rfl) (of_decide_eq_true (by kernel_rfl)) k0 bel lt0) (trodAll_cons_mk (shut_int Tryz.underlying3 w1) (trodAll_cons_mk (shut_int Tryz.underlying3 w2) trodAll_mk0))), rfl, bel.frame _, fun h => by cases h⟩
theorem skyMoons_holds : Rows.SkyMoonsSaid :=
 OpenClaim.holds_of_wide 3 Tryz.f3 rfl rfl rfl rfl rfl rfl rfl ⟨rfl, rfl, rfl, rfl, rfl⟩ rfl rfl rfl rfl rfl (by kernel_rfl) Tryz.func3 (by kernel_rfl)
  (of_decide_eq_true (by kernel_rfl)) (by unfold Func.isWrapper; first | (rw [if_pos (by decide +kernel)]; kernel_rfl) | (rw [if_neg (by decide +kernel)]; exact ⟨rfl, rfl⟩))
  (fun os started H enc _ => lifted os started H enc (fun _ _ _ => 0))
#print axioms skyMoons_holds
end Go.Proofs.YtaidphhkhddemaaGreatDoor
end
