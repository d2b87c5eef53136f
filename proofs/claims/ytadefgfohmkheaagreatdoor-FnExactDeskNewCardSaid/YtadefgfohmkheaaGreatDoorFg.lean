/- Part of the proof: one fact about the program, decided by the kernel. -/
import Derived.Test.YtadefgfohmkheaaGreatDoorRows
import Derived.JoinedOf
namespace Go.Proofs.YtadefgfohmkheaaGreatDoor
open Go
theorem laid3 : laidOutB Tryz.prog = true := by kernel_rfl
theorem maps3 : mapsRowed Tryz.prog = true := by kernel_rfl
end Go.Proofs.YtadefgfohmkheaaGreatDoor
