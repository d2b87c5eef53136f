/- Part of the proof: the row of the law FnExactDeskNew. -/
import Derived.Test.YtadefgfohmkheaaGreatDoorW1
namespace Go.Proofs.YtadefgfohmkheaaGreatDoor
open Go Go.RowKit Go.ChangeShapes Go.WideShapes Go.Eng Go.Eng.T
theorem named3 : Tryz.prog.funcNamed "loop.example/wharfdesk/laws.FnExactDeskNew" = some 3 := by kernel_rfl
theorem inst3 : Tryz.f3.isInstance Tryz.prog Rows.fnExactDeskNewRow.origin Rows.fnExactDeskNewRow.targs := of_decide_eq_true (by kernel_rfl)
theorem wrap3 : Tryz.f3.isWrapper Tryz.prog Rows.fnExactDeskNewRow.wrapper Rows.fnExactDeskNewRow.mainSum := by unfold Func.isWrapper; first | (rw [if_pos (by decide +kernel)]; kernel_rfl) | (rw [if_neg (by decide +kernel)]; exact ⟨rfl, rfl⟩)
theorem holds : Rows.FnExactDeskNewSaid :=
  OpenClaim.holds_of_wide 3 Tryz.f3 rfl rfl rfl rfl rfl rfl rfl ⟨rfl, rfl, rfl, rfl, rfl⟩ rfl rfl rfl rfl rfl named3 Tryz.func3 closed3 inst3 wrap3
    (fun os started H enc _ => lifted os started H enc)
end Go.Proofs.YtadefgfohmkheaaGreatDoor
