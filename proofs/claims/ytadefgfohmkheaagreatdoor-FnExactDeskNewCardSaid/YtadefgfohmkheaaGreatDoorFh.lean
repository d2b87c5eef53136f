/- Part of the proof: one fact about the program, decided by the kernel. -/
import Derived.Test.YtadefgfohmkheaaGreatDoorFc
import Derived.Test.YtadefgfohmkheaaGreatDoorFd
import Derived.Test.YtadefgfohmkheaaGreatDoorFe
import Derived.Test.YtadefgfohmkheaaGreatDoorFf
import Derived.Test.YtadefgfohmkheaaGreatDoorFg
namespace Go.Proofs.YtadefgfohmkheaaGreatDoor
open Go
theorem closed3 : joinedFacts Tryz.prog 3 Tryz.f3 Rows.fnExactDeskNewSpec Rows.fnExactDeskNewRow = true := by
  unfold joinedFacts
  rw [inPlace3, unfol3, recur3, vars3, laid3, maps3]
  kernel_rfl
end Go.Proofs.YtadefgfohmkheaaGreatDoor
