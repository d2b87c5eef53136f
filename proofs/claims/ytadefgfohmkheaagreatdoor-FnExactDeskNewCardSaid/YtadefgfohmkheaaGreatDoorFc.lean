/- Part of the proof: one fact about the program, decided by the kernel. -/
import Derived.Test.YtadefgfohmkheaaGreatDoorRows
import Derived.JoinedOf
namespace Go.Proofs.YtadefgfohmkheaaGreatDoor
open Go
theorem inPlace3 : (Rows.fnExactDeskNewRow.inPlace == Tryz.prog.inPlace 3) = true := by kernel_rfl
end Go.Proofs.YtadefgfohmkheaaGreatDoor
