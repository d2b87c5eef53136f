/- Proved here: the card of the law FnExactDeskNew, as given: of every house, number and desks the two builders of a new desk world answer alike, share nothing with what they are given, and leave it as it was. There are no further conditions. -/
import Derived.Test.YtadefgfohmkheaaGreatDoorW2
import Derived.Test.YtadefgfohmkheaaGreatDoorCards
import Derived.Test.YtadefgfohmkheaaGreatDoorTie
namespace Go.Proofs.YtadefgfohmkheaaGreatDoor
open Go Go.RowKit Go.ChangeShapes Go.WideShapes Go.Eng Go.Eng.T
theorem card_holds : Rows.FnExactDeskNewCardSaid :=
  Claim7.holds_tied_plain_at .later [] [.data, .data, .data, .data, .sentinel, .sentinel, .sentinel, .sentinel, .sentinel, .pinned] true (true, "9a262ade3e336050c1fa66a2657d0eccf54e2e148e9f8e6c1d389d01126a76a9") true
    holds (fun _ h => by cases h) (by kernel_rfl) (fun _ h => by cases h) fnExactDeskNew_row_tie rfl ⟨rfl, rfl⟩ (by kernel_rfl) rfl
    (fun f fn hf hfn => by
      obtain rfl : f = 3 := Option.some.inj (named3.symm.trans hf) |>.symm
      obtain rfl : fn = Tryz.f3 := (Option.some.inj (Tryz.func3.symm.trans hfn)).symm
      exact ⟨by kernel_rfl, fun j t ht => by
        have hall : (Tryz.f3.params.toList.all fun u => !Tryz.prog.wantsStandIn u) = true := by kernel_rfl
        have hm : t ∈ Tryz.f3.params.toList := by simpa using Array.mem_of_getElem? ht
        exact (show Tryz.prog.wantsStandIn t = false by simpa using List.all_eq_true.1 hall t hm)⟩)
    (by kernel_rfl)
#print axioms card_holds
end Go.Proofs.YtadefgfohmkheaaGreatDoor
