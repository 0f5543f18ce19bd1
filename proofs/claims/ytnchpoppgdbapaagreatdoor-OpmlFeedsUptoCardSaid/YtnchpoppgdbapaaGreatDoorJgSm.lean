/- The walk's own set of rules. -/
import Derived.Test.YtnchpoppgdbapaaGreatDoorJgAv23
set_option linter.unusedSimpArgs false
set_option linter.unusedVariables false
namespace Go.Av
attribute [go_sem] Nat.le_refl Bool.false_or Bool.true_or Bool.false_and wrap64_in Int.natCast_nonneg Int.ofNat_lt Int.ofNat_le Bool.not_true Bool.not_false
attribute [go_sem ↓] astr_add guardA_list List.getElem?_cons_succ List.getElem?_cons_zero
/-- A branch, at what is known of its bool. -/
def condK (c : AVal) (a b : Prop) : Prop := match c with | .bool q => (q = true → a) ∧ (q = false → b) | _ => False
structure Went (a : Prop) : Prop where
  go : a
theorem went {a : Prop} (h : a) : Went a := ⟨h⟩
@[congr] theorem Went_congr (a : Prop) : Went a = Went a := rfl
@[congr] theorem condK_congr {c c' : AVal} {a b : Prop} (e : c = c') : condK c a b = condK c' a b := by rw [e]
@[go_sem] theorem condK_t (a b : Prop) : condK (.bool true) a b = Went a := propext ⟨fun h => ⟨h.1 rfl⟩, fun h => ⟨fun _ => h.go, fun e => Bool.noConfusion e⟩⟩
@[go_sem] theorem condK_f (a b : Prop) : condK (.bool false) a b = Went b := propext ⟨fun h => ⟨h.2 rfl⟩, fun h => ⟨fun e => Bool.noConfusion e, fun _ => h.go⟩⟩
theorem WP_condK {C : Ctx} {t : Env} {h : Heap} {c : Operand} {x y : Code} {Q : Exit → Env → Heap → Prop} (g : condK (aev C.G t c) (WP C x Q t h) (WP C y Q t h)) : WP C (.cond c x y) Q t h := by
  unfold condK at g
  split at g
  · rename_i q hq
    exact WP_cond hq g.1 g.2
  · exact g.elim
end Go.Av
