/- A world for the witnesses: the library's tables laid; what is known of the library's variables. -/
import Derived.Test.YtnchpoppgdbapaaGreatDoorJgGt2
import Derived.Test.YtnchpoppgdbapaaGreatDoorJgEx5
import Derived.Test.YtnchpoppgdbapaaGreatDoorCards
import Derived.Test.YtnchpoppgdbapaaGreatDoorTie
import Derived.WalkKit
import Derived.ProofKit
import Derived.OpenShut
import Derived.Deep.DeepHandedRow
import Derived.Lib.LaidTab
set_option linter.unusedSimpArgs false
set_option linter.unusedVariables false
namespace Go.Av
open Go Go.Proofs Go.RowKit Go.ChangeShapes Go.WideShapes
set_option maxRecDepth 100000

theorem own_prog : ownKnob Tryz.prog.godebug = none := by kernel_rfl
/-- The cells of a datum of integers. -/
def flatD : DataW Unit → List Value
  | .lit (.int k n) => [.int k n]
  | .agg l => flatL l
  | _ => []
where flatL : List (DataW Unit) → List Value
  | [] => []
  | d :: l => flatD d ++ flatL l
noncomputable def laidCells (w : World) (g : Nat) (d : DataW Unit) : World :=
  { w with heap := w.heap.modify g fun
      | .cells _ t frozen => .cells (flatD d).toArray t frozen
      | o => o }
noncomputable def laidWorld (os : Os) (args : Array Value) : World :=
  laidCells (laidCells (World.holding Tryz.prog os ⟨#[], args, []⟩) 2 Go.Proofs.YtnchpoppgdbapaaGreatDoor.Rows.laid_unicode_utf8_acceptRanges) 1 Go.Proofs.YtnchpoppgdbapaaGreatDoor.Rows.laid_unicode_utf8_first

/-- What is known of the library's variables: one number, whatever it is. -/
def gM (m : Int) : Nat → Option (List AVal) := fun g => if g = 0 then some [.int .i64 m] else none
theorem gM_ok (m : Int) : GOk (gM m) := ⟨m, by simp [gM]⟩
theorem gM_clo (m : Int) : GClo (CT (gM m)) := fun g cs h => by
  simp only [CT_G, gM] at h
  split at h
  · cases h
    exact .ad _ fun c hc => by simp at hc; subst hc; exact .int _ _
  · cases h
theorem gM_rep {W : World} {m : Int} (hm : W.cell? ⟨0, 0, none⟩ = some (.int .i64 m)) : ∀ g cs, (CT (gM m)).G g = some cs → Rep W (lies0 W) [] (.ad cs) (.pointer (some ⟨g, 0, none⟩)) := fun g cs h => by
  simp only [CT_G, gM] at h
  split at h
  · rename_i e; subst e; cases h
    refine .ad _ _ 0 (fun _ => .int .i64 m) (by simp) (fun j c hj => ?_) (fun j c hj => ?_)
    · match j with
      | 0 => simp at hj; subst hj; exact ⟨by unfold lies0; rw [hm]; rfl, hm, rfl⟩
      | j + 1 => simp at hj
    · match j with
      | 0 => simp at hj; subst hj; exact .int _ _
      | j + 1 => simp at hj
  · cases h
theorem maxLen_shape {W : World} (h : W.ShapedOpen Tryz.prog) : ∃ m, W.cell? ⟨0, 0, none⟩ = some (.int .i64 m) :=
  Go.Proofs.cell_of_shapedOpen_int (zero := #[.int .i64 0]) (t := 3) h (of_decide_eq_true (by kernel_rfl)) (by kernel_rfl) rfl (by kernel_rfl) (by kernel_rfl) Tryz.underlying3
theorem params_row : ∀ t ∈ [9, 26], t < Tryz.prog.types.size := by
  intro t ht
  have : Tryz.prog.types.size = Tryz.prog.types.size := rfl
  simp only [List.mem_cons, List.mem_nil_iff, or_false] at ht
  rcases ht with rfl | rfl
  · exact of_decide_eq_true (by kernel_rfl)
  · exact of_decide_eq_true (by kernel_rfl)
end Go.Av
