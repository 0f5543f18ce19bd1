/- Behind the last colon, by the library's LastIndexByte. -/
import Derived.Test.YtnchpoppgdbapaaGreatDoorGhFf
import Derived.Test.YtnchpoppgdbapaaGreatDoorGhLa
set_option linter.unusedSimpArgs false
set_option linter.unusedVariables false
namespace Go.Av
open Go Go.Proofs Go.RowKit
set_option maxRecDepth 100000

variable (G : Nat → Option (List AVal))

theorem short_last (s : Bs) : ∀ k, k ≤ s.length → shortAt s k = s.drop (Lib.lastIdx ⟨s.toArray⟩ 58 k + 1).toNat ∧ -1 ≤ Lib.lastIdx ⟨s.toArray⟩ 58 k ∧ Lib.lastIdx ⟨s.toArray⟩ 58 k < k := by
  intro k
  induction k with
  | zero => intro _; simp [shortAt, Lib.lastIdx]
  | succ k ih =>
    intro hk
    obtain ⟨h1, h2, h3⟩ := ih (by omega)
    have hb := List.getElem?_eq_getElem (show k < s.length by omega)
    have e : (⟨s.toArray⟩ : ByteArray).data[k]! = s[k] := by simp [hb]
    rw [shortAt, hb]
    have e2 : Lib.lastIdx ⟨s.toArray⟩ 58 (k + 1) = if (s[k].toNat : Int) = 58 then (k : Int) else Lib.lastIdx ⟨s.toArray⟩ 58 k := by
      rw [Lib.lastIdx, e]
    rw [e2]
    by_cases hc : s[k] = 58
    · rw [if_pos (by rw [hc]), if_pos (by rw [hc]; rfl)]
      refine ⟨congrArg s.drop (by omega), by omega, by omega⟩
    · have : ¬ (s[k].toNat : Int) = 58 := fun h => hc ((byte_eq (k := 58) (by omega)).1 h)
      rw [if_neg (by simpa using hc), if_neg this]
      exact ⟨h1, h2, by omega⟩
theorem short_lib (s : Bs) : short s = s.drop (Lib.lastIndexByte ⟨s.toArray⟩ 58 + 1).toNat ∧ -1 ≤ Lib.lastIndexByte ⟨s.toArray⟩ 58 ∧ Lib.lastIndexByte ⟨s.toArray⟩ 58 < s.length := by
  have h : (⟨s.toArray⟩ : ByteArray).size = s.length := by simp [ByteArray.size]
  have := short_last s s.length (Nat.le_refl _)
  unfold Lib.lastIndexByte short
  rw [h]; exact this
end Go.Av
