/- What the translator's stand-ins do. -/
import Derived.Test.YtnchpoppgdbapaaGreatDoorJgDat
import Derived.Lib.Builder
set_option linter.unusedSimpArgs false
set_option linter.unusedVariables false
namespace Go.Av
open Go Go.Proofs Go.RowKit
set_option maxRecDepth 100000
variable (G : Nat → Option (List AVal))
theorem NoEscape_sat (x : AVal) (h : Heap) : Sat (CT G) 116 [x] h (fun r h' => r = x ∧ h' = h) := by
  refine Sat.of_extern (fn := Tryz.f116) (ex := Extern.AbiNoEscape.same) Tryz.func116 (by kernel_rfl) (by kernel_rfl) (by kernel_rfl) (by kernel_rfl) fun B S μ w vs f r => ?_
  obtain ⟨hl, hr⟩ := r
  match vs, hl, hr with
  | [v], _, hr =>
    refine ⟨v, w, Lib.run_noEscape w v, x, h, S, μ, ⟨rfl, rfl⟩, Step.refl _ _ _ _, f, ?_⟩
    simpa using hr 0 x rfl

end Go.Av
