/- SkySpeeds, the tied card: for every start, all notes and every range the law returns true, and the arguments read behind it as they did; the five tables that its code reads are tied to the program's text. -/
import Derived.SevenTiedAt
import Derived.Test.YtaidphhkhddemaaGreatDoorCards
import Derived.Test.YtaidphhkhddemaaGreatDoorTie
import Derived.Test.YtaidphhkhddemaaGreatDoorSpeeds0
section
namespace Go.Proofs.YtaidphhkhddemaaGreatDoor
open Go
theorem skySpeeds_card:Rows.SkySpeedsCardSaid:=
 Claim7.holds_tied_plain_at .later [] [.data,.data,.data,.data,.pinned] true Rows.skySpeedsCard.stood.harness true
  skySpeeds_holds (fun _ h=>by cases h) (by kernel_rfl) (fun _ h=>by cases h) skySpeeds_row_tie rfl ⟨rfl,rfl⟩ (by kernel_rfl) rfl
  (fun f fn hf hfn=>by
   obtain rfl:f=6:=Option.some.inj ((show Tryz.prog.funcNamed "tellurion/tellurionlaw05.SkySpeeds" = some 6 by kernel_rfl).symm.trans hf) |>.symm
   obtain rfl:fn=Tryz.f6:=(Option.some.inj (Tryz.func6.symm.trans hfn)).symm
   exact ⟨by kernel_rfl,fun j t ht=>by
    rw [Tryz.params6] at ht
    have hm:t∈[3,57,3,3]:=by simpa using Array.mem_of_getElem? ht
    have hall:([3,57,3,3].all fun u=>!Tryz.prog.wantsStandIn u)=true:=by kernel_rfl
    exact (show Tryz.prog.wantsStandIn t=false by simpa using List.all_eq_true.1 hall t hm)⟩)
  (by kernel_rfl)
#print axioms skySpeeds_card
end Go.Proofs.YtaidphhkhddemaaGreatDoor
end
