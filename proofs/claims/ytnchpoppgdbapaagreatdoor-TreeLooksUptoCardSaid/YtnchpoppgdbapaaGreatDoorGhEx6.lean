/- lives() of the elements: a closed run. -/
import Derived.Test.YtnchpoppgdbapaaGreatDoorGhEx5
set_option linter.unusedSimpArgs false
set_option linter.unusedVariables false
namespace Go.Av
open Go Go.Proofs Go.RowKit
set_option maxRecDepth 1000000
set_option maxHeartbeats 4000000
theorem lives09 (G : Nat → Option (List AVal)) : isT (runX (CT G) orcL 1000 100 9 []) = true := by
  kernel_rfl
