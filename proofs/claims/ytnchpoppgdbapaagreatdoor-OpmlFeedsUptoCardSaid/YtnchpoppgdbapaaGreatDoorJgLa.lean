/- What the library's functions over texts give: the kit's contracts, at the program. -/
import Derived.Test.YtnchpoppgdbapaaGreatDoorJgNe
import Derived.Test.YtnchpoppgdbapaaGreatDoorJgShelf
set_option linter.unusedSimpArgs false
set_option linter.unusedVariables false
namespace Go.Av
open Go Go.Proofs Go.RowKit
set_option maxRecDepth 100000

variable (G : Nat → Option (List AVal))

theorem below_same {w w' : World} (e : w' = w) : Below w.heap.size w w' := by rw [e]; exact Below.refl _ _
theorem below_drewN (w : World) (n : Nat) : Below w.heap.size w (w.drewN n) := by
  induction n with
  | zero => exact Below.refl _ _
  | succ n ih => exact ih.trans (Below.drew (Below.refl _ _))

theorem LastIndexByte_sat (s : Bs) (c : Int) (hs : s.length ≤ 1073741824) (h : Heap) : Sat (CT G) 52 [.str s, .int .u8 c] h (fun r h' => r = .int .i64 (Lib.lastIndexByte ⟨s.toArray⟩ c) ∧ h' = h) := by
  refine Sat.of_calls (fn := Tryz.f52) Tryz.func52 (by kernel_rfl) (by kernel_rfl) rfl rfl fun B S μ w f => ?_
  refine (Tryz.strings_LastIndexByte ⟨s.toArray⟩ c (by simp [ByteArray.size]; omega) w).mono fun e w' ⟨h1, h2⟩ => ⟨h1, below_same h2⟩

end Go.Av
