/- Part of the proof: one fact about the program, decided by the kernel. -/
import Derived.Test.YtadefgfohmkheaaGreatDoorRows
import Derived.JoinedOf
namespace Go.Proofs.YtadefgfohmkheaaGreatDoor
open Go
theorem vars3 : (Rows.fnExactDeskNewRow.named == Tryz.prog.varsNamed 3) = true := by kernel_rfl
end Go.Proofs.YtadefgfohmkheaaGreatDoor
