/- What is read of a list of outlines stands for one. -/
import Derived.Test.YtnchpoppgdbapaaGreatDoorJgGt2
import Derived.Test.YtnchpoppgdbapaaGreatDoorJgJa
set_option linter.unusedSimpArgs false
set_option linter.unusedVariables false
namespace Go.Av
open Go Go.Proofs Go.RowKit Go.ChangeShapes Go.WideShapes
set_option maxRecDepth 100000

section
variable {H : Type} {enc : TypeId × Value → H} {W : World}

theorem rd_outl : ∀ n : Nat, Rd H enc Tryz.prog W n 58 (fun e : Outl => e.av.cells) Outl.sz := by
  intro n
  induction n using Nat.strongRecOn with
  | ind n ih =>
    intro cs x h
    obtain ⟨ds, n', rfl, hx, hcl, hdl, hf⟩ := rd_struct (fs := [9, 9, 47]) (by kernel_rfl) h
    obtain ⟨y0, d0, t0⟩ := hf 0 _ rfl
    obtain ⟨y1, d1, t1⟩ := hf 1 _ rfl
    obtain ⟨y2, d2, t2⟩ := hf 2 _ rfl
    obtain ⟨a0, s0, r0, b0⟩ := rd_cell (mk := fun s : Bs => .str s) (rd_str (by kernel_rfl)) t0
    obtain ⟨a1, s1, r1, b1⟩ := rd_cell (mk := fun s : Bs => .str s) (rd_str (by kernel_rfl)) t1
    obtain ⟨a2, s2, r2, b2⟩ := rd_cell (mk := fun l : List Outl => .sl 3 (l.map Outl.av)) (rd_slice (m := 3) (e := 58) Outl.av (by kernel_rfl) (by kernel_rfl) (by decide) (fun _ => rfl) (fun e => by rw [Outl.av_eq]; rfl) fun k hk => ih k (by omega)) t2
    have hc : (Outl.mk a0 a1 a2).av.cells = [.str a0, .str a1, .sl 3 (a2.map Outl.av)] := by rw [Outl.av_eq]; rfl
    refine ⟨.mk a0 a1 a2, by show (Outl.mk a0 a1 a2).av.cells.length = _; rw [hc, hcl]; rfl, fun j c hj => ?_, ?_⟩
    · change (Outl.mk a0 a1 a2).av.cells[j]? = some c at hj
      rw [hc] at hj
      match j with
      | 0 => simp at hj; subst hj; exact ⟨s0, r0⟩
      | 1 => simp at hj; subst hj; exact ⟨s1, r1⟩
      | 2 => simp at hj; subst hj; exact ⟨s2, r2⟩
      | j + 3 => simp at hj
    · have k3 := szL_eq Outl.sz Outl.sz (fun _ => Nat.le_refl _) a2
      match ds, hdl with
      | [e0, e1, e2], _ =>
        simp at d0 d1 d2; subst d0; subst d1; subst d2
        rw [hx, Outl.sz_eq]
        simp only [Go.Proofs.YtnchpoppgdbapaaGreatDoor.Rows.uptoBulk, Go.Proofs.YtnchpoppgdbapaaGreatDoor.Rows.uptoBulkAll, Outl.title, Outl.url, Outl.kids]
        omega

theorem outls_of_trod {r : Reach} {b0 : Nat} {v : Value} {d : DataW H} {ps : List MemPlace} (hval : Value.okWide Tryz.prog W r b0 47 v) (h : DataW.Trod enc Tryz.prog W 0 (fun _ => true) true 47 v d ps) :
    ∃ l : List Outl, Rep W (lies0 W) [] (.sl 3 (l.map Outl.av)) v ∧ szs Outl.sz l ≤ Go.Proofs.YtnchpoppgdbapaaGreatDoor.Rows.uptoBulk d := by
  obtain ⟨n, hn⟩ := h
  obtain ⟨l, h1, h2, h3⟩ := rd_slice (m := 3) (e := 58) (t := 47) Outl.av (by kernel_rfl) (by kernel_rfl) (by decide) (fun _ => rfl) (fun e => by rw [Outl.av_eq]; rfl) (fun k _ => rd_outl k) _ _ hn
  have hsz := szL_eq Outl.sz Outl.sz (fun _ => Nat.le_refl _) l
  refine ⟨l, ?_, by simp only [] at h3; omega⟩
  have h4 := (h2 0 _ rfl).2
  have hcs : v.cells.toList = [v] := by
    have hu : Tryz.prog.underlying 47 = some (.slice 58) := by kernel_rfl
    cases v with
    | agg a => simp [Value.okWide, hu, Cell.okWide, Cell.ok] at hval
    | _ => rfl
  rw [hcs] at h4
  simpa using h4
end
end Go.Av
