/- SkyFirst, the tied card: for every sky, every day, both kinds of moons and every other day the law returns true, and the arguments read behind it as they did; the five tables that its code reads are tied to the program's text. -/
import Derived.SevenTiedAt
import Derived.Test.YtjahbgldccjbfaaGreatDoorCards
import Derived.Test.YtjahbgldccjbfaaGreatDoorTie
import Derived.Test.YtjahbgldccjbfaaGreatDoorFirst0
section
namespace Go.Proofs.YtjahbgldccjbfaaGreatDoor
open Go
theorem skyFirst_card:Rows.SkyFirstCardSaid:=
 Claim7.holds_tied_plain_at .later [] [.data,.data,.data,.data,.pinned] true Rows.skyFirstCard.stood.harness true
  skyFirst_holds (fun _ h=>by cases h) (by kernel_rfl) (fun _ h=>by cases h) skyFirst_row_tie rfl ⟨rfl,rfl⟩ (by kernel_rfl) rfl
  (fun f fn hf hfn=>by
   obtain rfl:f=10:=Option.some.inj ((show Tryz.prog.funcNamed "tellurion/tellurionlaw05.SkyFirst" = some 10 by kernel_rfl).symm.trans hf) |>.symm
   obtain rfl:fn=Tryz.f10:=(Option.some.inj (Tryz.func10.symm.trans hfn)).symm
   exact ⟨by kernel_rfl,fun j t ht=>by
    rw [Tryz.params10] at ht
    have hm:t∈[29,3,4,3]:=by simpa using Array.mem_of_getElem? ht
    have hall:([29,3,4,3].all fun u=>!Tryz.prog.wantsStandIn u)=true:=by kernel_rfl
    exact (show Tryz.prog.wantsStandIn t=false by simpa using List.all_eq_true.1 hall t hm)⟩)
  (by kernel_rfl)
#print axioms skyFirst_card
end Go.Proofs.YtjahbgldccjbfaaGreatDoor
end
