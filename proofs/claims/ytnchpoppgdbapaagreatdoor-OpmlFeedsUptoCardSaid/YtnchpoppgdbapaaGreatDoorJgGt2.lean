/- What is read of an element stands for an element. -/
import Derived.Test.YtnchpoppgdbapaaGreatDoorJgGt1
import Derived.Test.YtnchpoppgdbapaaGreatDoorJgDat
set_option linter.unusedSimpArgs false
set_option linter.unusedVariables false
namespace Go.Av
open Go Go.Proofs Go.RowKit Go.ChangeShapes Go.WideShapes
set_option maxRecDepth 100000

section
variable {H : Type} {enc : TypeId × Value → H} {W : World}

theorem kids_prog : Kids Tryz.prog (· < Tryz.prog.types.size) := kids_rows (by kernel_rfl) (by kernel_rfl)
theorem full_prog : ∀ t e, t < Tryz.prog.types.size → Tryz.prog.underlying t = some (.slice e) → 0 < Tryz.prog.cellsOf e := slices_full_of Tryz.prog (by kernel_rfl)

theorem szL_eq {α : Type} (f g : α → Nat) (h : ∀ a, g a ≤ f a) : ∀ l : List α, szs g l ≤ szL f l
  | [] => Nat.le_refl _
  | a :: l => by have := h a; have := szL_eq f g h l; simp only [szs, szL]; omega

def fieldsOk (P : Program) (t : TypeId) (fs : List TypeId) : Bool := match P.underlying t with
  | some (.struct gs) => decide (gs.toList.map (·.type) = fs) && decide (P.cellsOf t = fs.length) && (gs.toList.zipIdx.all fun (f, i) => f.offset == i && P.cellsOf f.type == 1)
  | _ => false
theorem fieldsOk_spec {P : Program} {t : TypeId} {fs : List TypeId} (h : fieldsOk P t fs = true) : ∃ gs : Array Field, P.underlying t = some (.struct gs) ∧ gs.size = fs.length ∧ P.cellsOf t = gs.size ∧
    (∀ (j : Nat) (f : Field), gs[j]? = some f → f.offset = j ∧ P.cellsOf f.type = 1) ∧ ∀ (j : Nat) (T : TypeId), fs[j]? = some T → ∃ f, gs[j]? = some f ∧ f.type = T := by
  unfold fieldsOk at h
  split at h
  · rename_i gs hg
    simp only [Bool.and_eq_true, decide_eq_true_eq, List.all_eq_true] at h
    obtain ⟨⟨h1, h2⟩, h3⟩ := h
    have hl : gs.size = fs.length := by rw [← h1]; simp
    refine ⟨gs, hg, hl, by omega, fun j f hj => ?_, fun j T hT => ?_⟩
    · have hm : (f, j) ∈ gs.toList.zipIdx := List.mem_zipIdx_iff_getElem?.2 (by simpa using hj)
      have := h3 _ hm
      simpa using this
    · rw [← h1, List.getElem?_map] at hT
      obtain ⟨f, hf, rfl⟩ := Option.map_eq_some_iff.1 hT
      exact ⟨f, by simpa using hf, rfl⟩
  · cases h

/-- A struct of fields, a cell each, as its parts are read. -/
theorem rd_struct {P : Program} {n : Nat} {t : TypeId} {fs : List TypeId} (hf : fieldsOk P t fs = true) {cs : List Value} {x : DataW H × List MemPlace} (h : DataW.trod enc P W 0 (fun _ => true) true n t cs = some x) :
    ∃ (ds : List (DataW H)) (n' : Nat), n = n' + 1 ∧ x.1 = .agg ds ∧ cs.length = fs.length ∧ ds.length = fs.length ∧ ∀ (j : Nat) (T : TypeId), fs[j]? = some T → ∃ y, ds[j]? = some y.1 ∧ DataW.trod enc P W 0 (fun _ => true) true n' T [cs.getD j undef] = some y := by
  obtain ⟨gs, h1, h2, h3, h4, h5⟩ := fieldsOk_spec hf
  obtain ⟨xs, n', k1, k2, k3, k4, k5⟩ := rd_fields h1 h3 h4 h
  refine ⟨_, n', k1, k2, by omega, by simp; omega, fun j T hT => ?_⟩
  obtain ⟨f, hf1, rfl⟩ := h5 j T hT
  obtain ⟨y, hy, hy2⟩ := k5 j f hf1
  exact ⟨y, by simp [hy], hy2⟩
/-- A field, as one cell. -/
theorem rd_cell {P : Program} {n : Nat} {T : TypeId} {α : Type} {mk : α → AVal} {sz : α → Nat} (hr : Rd H enc P W n T (fun a => [mk a]) sz) {v : Value} {y : DataW H × List MemPlace} (h : DataW.trod enc P W 0 (fun _ => true) true n T [v] = some y) :
    ∃ a : α, (mk a).sto = true ∧ Rep W (lies0 W) [] (mk a) v ∧ sz a ≤ Go.Proofs.YtnchpoppgdbapaaGreatDoor.Rows.uptoBulk y.1 := by
  obtain ⟨a, _, h2, h3⟩ := hr _ _ h
  have := h2 0 (mk a) rfl
  exact ⟨a, this.1, by simpa using this.2, h3⟩

theorem rd_attr (n : Nat) : Rd H enc Tryz.prog W n 67 (fun a : At => a.av.cells) At.sz := fun cs x h => by
  obtain ⟨ds, n', rfl, hx, hcl, hdl, hf⟩ := rd_struct (fs := [9, 9]) (by kernel_rfl) h
  obtain ⟨y0, d0, t0⟩ := hf 0 _ rfl
  obtain ⟨y1, d1, t1⟩ := hf 1 _ rfl
  obtain ⟨a0, s0, r0, b0⟩ := rd_cell (mk := fun s : Bs => .str s) (rd_str (by kernel_rfl)) t0
  obtain ⟨a1, s1, r1, b1⟩ := rd_cell (mk := fun s : Bs => .str s) (rd_str (by kernel_rfl)) t1
  refine ⟨(a0, a1), by rw [hcl]; rfl, fun j c hj => ?_, ?_⟩
  · match j with
    | 0 => simp [At.av, AVal.cells] at hj; subst hj; exact ⟨s0, r0⟩
    | 1 => simp [At.av, AVal.cells] at hj; subst hj; exact ⟨s1, r1⟩
    | j + 2 => simp [At.av, AVal.cells] at hj
  · match ds, hdl with
    | [e0, e1], _ =>
      simp at d0 d1; subst d0; subst d1
      rw [hx]
      simp only [Go.Proofs.YtnchpoppgdbapaaGreatDoor.Rows.uptoBulk, Go.Proofs.YtnchpoppgdbapaaGreatDoor.Rows.uptoBulkAll, At.sz]
      omega

theorem rd_elem : ∀ n : Nat, Rd H enc Tryz.prog W n 26 (fun e : Elem => e.av.cells) Elem.sz := by
  intro n
  induction n using Nat.strongRecOn with
  | ind n ih =>
    intro cs x h
    obtain ⟨ds, n', rfl, hx, hcl, hdl, hf⟩ := rd_struct (fs := [9, 23, 9, 24]) (by kernel_rfl) h
    obtain ⟨y0, d0, t0⟩ := hf 0 _ rfl
    obtain ⟨y1, d1, t1⟩ := hf 1 _ rfl
    obtain ⟨y2, d2, t2⟩ := hf 2 _ rfl
    obtain ⟨y3, d3, t3⟩ := hf 3 _ rfl
    obtain ⟨a0, s0, r0, b0⟩ := rd_cell (mk := fun s : Bs => .str s) (rd_str (by kernel_rfl)) t0
    obtain ⟨a1, s1, r1, b1⟩ := rd_cell (mk := fun l : List At => .sl 2 (l.map At.av)) (rd_slice (m := 2) (e := 67) At.av (by kernel_rfl) (by kernel_rfl) (by decide) (fun _ => rfl) (fun _ => rfl) fun k _ => rd_attr k) t1
    obtain ⟨a2, s2, r2, b2⟩ := rd_cell (mk := fun s : Bs => .str s) (rd_str (by kernel_rfl)) t2
    obtain ⟨a3, s3, r3, b3⟩ := rd_cell (mk := fun l : List Elem => .sl 4 (l.map Elem.av)) (rd_slice (m := 4) (e := 26) Elem.av (by kernel_rfl) (by kernel_rfl) (by decide) (fun _ => rfl) (fun e => by rw [Elem.av_eq]; rfl) fun k hk => ih k (by omega)) t3
    have hc : (Elem.mk a0 a1 a2 a3).av.cells = [.str a0, .sl 2 (a1.map At.av), .str a2, .sl 4 (a3.map Elem.av)] := by rw [Elem.av_eq]; rfl
    refine ⟨.mk a0 a1 a2 a3, by show (Elem.mk a0 a1 a2 a3).av.cells.length = _; rw [hc, hcl]; rfl, fun j c hj => ?_, ?_⟩
    · change (Elem.mk a0 a1 a2 a3).av.cells[j]? = some c at hj
      rw [hc] at hj
      match j with
      | 0 => simp at hj; subst hj; exact ⟨s0, r0⟩
      | 1 => simp at hj; subst hj; exact ⟨s1, r1⟩
      | 2 => simp at hj; subst hj; exact ⟨s2, r2⟩
      | 3 => simp at hj; subst hj; exact ⟨s3, r3⟩
      | j + 4 => simp at hj
    · have k1 := szL_eq At.sz At.sz (fun _ => Nat.le_refl _) a1
      have k3 := szL_eq Elem.sz Elem.sz (fun _ => Nat.le_refl _) a3
      match ds, hdl with
      | [e0, e1, e2, e3], _ =>
        simp at d0 d1 d2 d3; subst d0; subst d1; subst d2; subst d3
        rw [hx, Elem.sz_eq]
        simp only [Go.Proofs.YtnchpoppgdbapaaGreatDoor.Rows.uptoBulk, Go.Proofs.YtnchpoppgdbapaaGreatDoor.Rows.uptoBulkAll, Elem.name, Elem.attrs, Elem.text, Elem.kids]
        omega

/-- An argument of a struct type: its cells stand for it. -/
theorem rep_of_cells {x : AVal} {cs : List AVal} {vs : List Value} (hx : x = .agg cs) (hl : cs.length = vs.length) (hc : ∀ (j : Nat) (c : AVal), cs[j]? = some c → c.sto = true ∧ Rep W (lies0 W) [] c (vs.getD j undef)) : Rep W (lies0 W) [] x (.agg vs.toArray) := by
  subst hx
  exact .agg cs vs hl.symm (fun i c hi => (hc i c hi).1) (fun i c hi => (hc i c hi).2)
theorem elem_of_trod {v : Value} {d : DataW H} {ps : List MemPlace} (h : DataW.Trod enc Tryz.prog W 0 (fun _ => true) true 26 v d ps) : ∃ e : Elem, Rep W (lies0 W) [] e.av v ∧ e.sz ≤ Go.Proofs.YtnchpoppgdbapaaGreatDoor.Rows.uptoBulk d := by
  obtain ⟨n, hn⟩ := h
  obtain ⟨e, h1, h2, h3⟩ := rd_elem n _ _ hn
  change e.av.cells.length = _ at h1
  refine ⟨e, ?_, h3⟩
  have hc : e.av.cells = [.str e.name, .sl 2 (e.attrs.map At.av), .str e.text, .sl 4 (e.kids.map Elem.av)] := by rw [Elem.av_eq]; rfl
  have hl : v.cells.size = 4 := by rw [hc] at h1; simpa using h1.symm
  have hv : ∃ a, v = .agg a := by
    cases v with
    | agg a => exact ⟨a, rfl⟩
    | _ => simp [Value.cells] at hl
  obtain ⟨a, rfl⟩ := hv
  have := rep_of_cells (vs := a.toList) (Elem.av_eq e) (by simpa [Value.cells] using hl.symm) (fun j c hj => by have := h2 j c (by show e.av.cells[j]? = some c; rw [hc]; exact hj); simpa [Value.cells] using this)
  simpa using this
theorem str_of_trod {t : TypeId} (ht : Tryz.prog.underlying t = some .string) {r : Reach} {b0 : Nat} {v : Value} {d : DataW H} {ps : List MemPlace} (hval : Value.okWide Tryz.prog W r b0 t v) (h : DataW.Trod enc Tryz.prog W 0 (fun _ => true) true t v d ps) :
    ∃ s : Bs, Rep W (lies0 W) [] (.str s) v ∧ s.length + 1 ≤ Go.Proofs.YtnchpoppgdbapaaGreatDoor.Rows.uptoBulk d := by
  obtain ⟨s, rfl, rfl, _, _⟩ := Go.ChangeMaps.open_string ht hval h
  exact ⟨s.data.toList, by simpa using Rep.str (w := W) (S := lies0 W) (μ := []) s.data.toList, by simp [Go.Proofs.YtnchpoppgdbapaaGreatDoor.Rows.uptoBulk]⟩
end
end Go.Av
