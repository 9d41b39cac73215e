/- SkyMoons: for every sky and every span, the law returns true; the arguments read as they did. (A part of the proof.) -/
import Derived.SevenTiedAt
import Derived.Test.YtaidphhkhddemaaGreatDoorCards
import Derived.Test.YtaidphhkhddemaaGreatDoorTie
import Derived.Test.YtaidphhkhddemaaGreatDoorZ8
section
namespace Go.Proofs.YtaidphhkhddemaaGreatDoor
open Go
theorem skyMoons_card : Rows.SkyMoonsCardSaid :=
 Claim7.holds_tied_plain_at .later [] [.data, .data, .data, .data, .pinned] true Rows.skyMoonsCard.stood.harness true
  skyMoons_holds (fun _ h => by cases h) (by kernel_rfl) (fun _ h => by cases h) skyMoons_row_tie rfl ⟨rfl, rfl⟩ (by kernel_rfl) rfl
  (fun f fn hf hfn => by
   obtain rfl : f = 3 := Option.some.inj ((show Tryz.prog.funcNamed "tellurion/tellurionlaw05.SkyMoons" = some 3 by kernel_rfl).symm.trans hf) |>.symm
   obtain rfl : fn = Tryz.f3 := (Option.some.inj (Tryz.func3.symm.trans hfn)).symm
   exact ⟨by kernel_rfl, fun j t ht => by
    rw [Tryz.params3] at ht
    have hm : t ∈ [28, 3, 3] := by simpa using Array.mem_of_getElem? ht
    have hall : ([28, 3, 3].all fun u => !Tryz.prog.wantsStandIn u) = true := by kernel_rfl
    exact (show Tryz.prog.wantsStandIn t = false by simpa using List.all_eq_true.1 hall t hm)⟩)
  (by kernel_rfl)
#print axioms skyMoons_card
end Go.Proofs.YtaidphhkhddemaaGreatDoor
end
