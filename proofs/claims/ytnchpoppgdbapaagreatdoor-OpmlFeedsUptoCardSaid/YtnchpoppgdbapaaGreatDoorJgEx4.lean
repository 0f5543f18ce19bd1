/- A contract at no memory, over plain values, holds at any memory. -/
import Derived.Test.YtnchpoppgdbapaaGreatDoorJgEx3
set_option linter.unusedSimpArgs false
set_option linter.unusedVariables false
namespace Go.Av
open Go.RowKit

section
variable {C : Ctx}

/-- The variables that are known name no memory of a call's own. -/
def GClo (C : Ctx) : Prop := ∀ g cs, C.G g = some cs → Clo 0 (.ad cs)

theorem Sat.frame (hG : GClo C) {f : FuncId} {args : List AVal} {R : AVal → Heap → Prop} (ha : ∀ x ∈ args, Clo 0 x) (hR : ∀ r h', R r h' → Clo 0 r ∧ h' = [])
    (s : Sat C f args [] R) (h : Heap) : Sat C f args h fun r h' => R r [] ∧ h' = h := by
  intro B S μ w vs fit rl
  have st0 : ∀ (x : AVal) (v : Value), Clo 0 x → Rep w S μ x v → Rep w S [] x v := fun x v hc hr => by
    have := hc.rep (S' := S) hr fun a ha => ha
    simpa using this
  have fit0 : Fits C w.heap.size S [] [] w := by
    refine ⟨fun g cs hg => st0 _ _ (hG g cs hg) (fit.glob g cs hg), rfl, ?_, ?_, Nat.le_refl _, fit.lie, ?_⟩
    · intro p q m m' b h1; simp at h1
    · intro p m b h1; simp at h1
    · intro p m k h1; simp at h1
  have rl0 : RepL w S [] args vs := ⟨rl.1, fun i x hx => st0 _ _ (ha x (List.mem_of_getElem? hx)) (rl.2 i x hx)⟩
  refine (s _ S [] w vs fit0 rl0).mono fun v w' hp => ?_
  obtain ⟨r, h', S', μ', hr, st, fit', hrep⟩ := hp
  obtain ⟨hclo, rfl⟩ := hR r h' hr
  obtain rfl : μ' = [] := List.length_eq_zero_iff.1 (by rw [fit'.len]; rfl)
  have own : ∀ (p : Nat) (m : MB) (b : Nat), μ[p]? = some m → m.blk = some b → ∀ a, S' a → a.block ≠ b := fun p m b h1 e1 a ha => by
    obtain ⟨k1, k2, k3⟩ := fit.own p m b h1 e1
    rcases st.new a ha with h2 | h2
    · exact k3 a h2
    · omega
  have st2 : Step B S μ w S' μ w' := ⟨st.sub, st.keep, st.below.mono fit.base, MapLe.refl _, fun a ha => (st.new a ha).imp id fun e => Nat.le_trans fit.base e⟩
  refine ⟨r, h, S', μ, ⟨hr, rfl⟩, st2, ?_, ?_⟩
  · refine ⟨fun g cs hg => (fit.glob g cs hg).mono st2, fit.len, fit.sep, fun p m b h1 e1 => ?_, Nat.le_trans fit.base st.below.size, fit'.lie, fun p m k h1 h2 => ?_⟩
    · obtain ⟨k1, k2, k3⟩ := fit.own p m b h1 e1
      exact ⟨k1, Nat.lt_of_lt_of_le k2 st.below.size, own p m b h1 e1⟩
    · exact (fit.blk p m k h1 h2).mono st2 fun b hb => st.below.block b (fit.own p m b h1 hb).2.1
  · have grow : ∀ (x : AVal) (v : Value), Rep w' S' [] x v → Rep w' S' μ x v := fun x v hr => by
      refine hr.mono (B := 0) (S' := S') (w' := w') ⟨fun _ ha => ha, fun _ _ => rfl, Below.refl _ _, fun p m hm => by simp at hm, fun _ ha => .inl ha⟩
    exact grow _ _ hrep

/-- A closed run that gives a plain value, whatever memory there is. -/
def runX (C : Ctx) (orc : FuncId → List AVal → Option AVal) (lf n : Nat) (f : FuncId) (args : List AVal) : Option AVal :=
  (callX C orc lf n f args []).map (·.1)
def plainB : AVal → Bool
  | .int _ _ => true
  | .bool _ => true
  | .str _ => true
  | _ => false
theorem plainB_clo {n : Nat} {x : AVal} (h : plainB x = true) : Clo n x := by
  cases x <;> first | exact .int _ _ | exact .bool _ | exact .str _ | cases h

/-- What a contract gives that hands back a plain value, with all memory let go. -/
theorem Sat.forget {f : FuncId} {args : List AVal} {r : AVal} {h1 : Heap} (hr : plainB r = true) (s : Sat C f args [] fun r2 h2 => r2 = r ∧ h2 = h1) : Sat C f args [] fun r2 h2 => r2 = r ∧ h2 = [] := by
  intro B S μ w vs fit rl
  obtain rfl : μ = [] := List.length_eq_zero_iff.1 (by rw [fit.len]; rfl)
  refine (s B S [] w vs fit rl).mono fun v w' hp => ?_
  obtain ⟨r2, h', S', μ', ⟨rfl, rfl⟩, st, fit', hrep⟩ := hp
  obtain ⟨fc, sc⟩ := Fits.cut fit st fit' (n := 0) (Nat.le_refl _) (fun p k hp => absurd hp (by omega))
  simp only [List.take_zero] at fc sc
  have hz := (plainB_clo (n := 0) hr).rep (S' := Let S' μ' w' 0) hrep fun a ha => .inl ha
  simp only [List.take_zero] at hz
  exact ⟨r2, [], _, [], ⟨rfl, rfl⟩, sc, fc, hz⟩

theorem Sat.closed (hG : GClo C) {orc : FuncId → List AVal → Option AVal} (horc : OrcOk C orc) (lf n : Nat) {f : FuncId} {args : List AVal} {r : AVal} (ha : args.all plainB = true) (hr : plainB r = true)
    (hrun : runX C orc lf n f args = some r) (h : Heap) : Sat C f args h fun r2 h2 => r2 = r ∧ h2 = h := by
  unfold runX at hrun
  obtain ⟨⟨r1, h1⟩, e, rfl⟩ := Option.map_eq_some_iff.1 hrun
  have s := (callX_ok horc lf n f args [] r1 h1 e).forget hr
  refine (s.frame hG (fun x hx => plainB_clo (List.all_eq_true.1 ha x hx)) (fun r h' ⟨e1, e2⟩ => ⟨by rw [e1]; exact plainB_clo hr, e2⟩) h).mono fun r2 h2 ⟨⟨e1, _⟩, e2⟩ => ⟨e1, e2⟩
/-- Is it true? -/
def isT : Option AVal → Bool
  | some (.bool b) => b
  | _ => false
theorem isT_ok {x : Option AVal} (h : isT x = true) : x = some (.bool true) := by
  unfold isT at h
  split at h
  · rw [h]
  · cases h
theorem Sat.lives (hG : GClo C) {orc : FuncId → List AVal → Option AVal} (horc : OrcOk C orc) (lf n : Nat) {f : FuncId} {args : List AVal} (ha : args.all plainB = true)
    (hrun : isT (runX C orc lf n f args) = true) (h : Heap) : Sat C f args h fun r2 h2 => r2 = .bool true ∧ h2 = h := Sat.closed hG horc lf n ha rfl (isT_ok hrun) h
/-- Does a closed run give this datum? -/
def isV (v : AVal) : Option (AVal × Heap) → Bool
  | some (r, h1) => match frzX h1 0 20 r with
    | some y => beqA y v
    | none => false
  | none => false
theorem Sat.closedV (hG : GClo C) {orc : FuncId → List AVal → Option AVal} (horc : OrcOk C orc) (lf n : Nat) {f : FuncId} {args : List AVal} {v : AVal} (ha : args.all plainB = true) (hv : cloA 0 v = true)
    (hrun : isV v (callX C orc lf n f args []) = true) (h : Heap) : Sat C f args h fun r2 h2 => r2 = v ∧ h2 = h := by
  unfold isV at hrun
  split at hrun
  · rename_i r h1 e
    split at hrun
    · rename_i y hy
      have ey := beqA_ok _ _ hrun
      subst ey
      have s := (callX_ok horc lf n f args [] r h1 e).letgo (v := y) (by simp) (frzX_ok _ _ _ _ _ hy)
      refine (s.frame hG (fun x hx => plainB_clo (List.all_eq_true.1 ha x hx)) (fun r h' ⟨e1, e2⟩ => ⟨by rw [e1]; exact cloA_ok 0 _ hv, e2⟩) h).mono fun r2 h2 ⟨⟨e1, _⟩, e2⟩ => ⟨e1, e2⟩
    · cases hrun
  · cases hrun
end
end Go.Av
