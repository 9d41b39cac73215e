/- SkyMet, the tied card: for every sky, two bodies, every span and every day the law returns true, and the arguments read behind it as they did; the five tables that its code reads are tied to the program's text. -/
import Derived.SevenTiedAt
import Derived.Test.YtjahbgldccjbfaaGreatDoorCards
import Derived.Test.YtjahbgldccjbfaaGreatDoorTie
import Derived.Test.YtjahbgldccjbfaaGreatDoorMet1
section
namespace Go.Proofs.YtjahbgldccjbfaaGreatDoor
open Go
theorem skyMet_card:Rows.SkyMetCardSaid:=
 Claim7.holds_tied_plain_at .later [] [.data,.data,.data,.data,.pinned] true Rows.skyMetCard.stood.harness true
  skyMet_holds (fun _ h=>by cases h) (by kernel_rfl) (fun _ h=>by cases h) skyMet_row_tie rfl ⟨rfl,rfl⟩ (by kernel_rfl) rfl
  (fun f fn hf hfn=>by
   obtain rfl:f=5:=Option.some.inj ((show Tryz.prog.funcNamed "tellurion/tellurionlaw05.SkyMet" = some 5 by kernel_rfl).symm.trans hf) |>.symm
   obtain rfl:fn=Tryz.f5:=(Option.some.inj (Tryz.func5.symm.trans hfn)).symm
   exact ⟨by kernel_rfl,fun j t ht=>by
    rw [Tryz.params5] at ht
    have hm:t∈[29,3,3,3,3,3]:=by simpa using Array.mem_of_getElem? ht
    have hall:([29,3,3,3,3,3].all fun u=>!Tryz.prog.wantsStandIn u)=true:=by kernel_rfl
    exact (show Tryz.prog.wantsStandIn t=false by simpa using List.all_eq_true.1 hall t hm)⟩)
  (by kernel_rfl)
#print axioms skyMet_card
end Go.Proofs.YtjahbgldccjbfaaGreatDoor
end
