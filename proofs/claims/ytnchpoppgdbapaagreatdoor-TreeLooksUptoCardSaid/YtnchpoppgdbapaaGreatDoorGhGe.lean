/- The program's looks at elements: texts, tokens. -/
import Derived.Test.YtnchpoppgdbapaaGreatDoorGhGd
set_option linter.unusedSimpArgs false
set_option linter.unusedVariables false
namespace Go.Av
open Go Go.Proofs Go.RowKit
attribute [local irreducible] WP WPl WPix Sat
set_option maxRecDepth 100000
set_option maxHeartbeats 1000000

variable (G : Nat → Option (List AVal))

theorem Fin.frz0 {h0 : Heap} {R : AVal → Heap → Prop} {r0 r : AVal} (hz : Frz h0 h0.length r0 r) (hR : R r h0) : Fin h0 h0 R r0 := by
  have := Fin.frz (h0 := h0) (j := []) (R := R) (r0 := r0) (r := r) (by simpa using hz) hR
  simpa using this
theorem At.av_sto (e : At) : ∀ c ∈ e.av.cells, c.sto = true := by
  rw [At.av_cells]; intro c hc; simp only [List.mem_cons, List.mem_nil_iff, or_false] at hc; rcases hc with rfl | rfl <;> rfl
theorem frz_ats {h0 h1 pre post : Heap} {e v q : Nat} (l : List At) (hh : h1 = pre ++ .row e 2 v (l.map At.av) :: post) (hq : q = pre.length) (hp : h0.length ≤ q) : Frz h1 h0.length (.hs q v 0 l.length true) (.sl 2 (l.map At.av)) := by
  have := frz_rows (h0 := h0) hh hq hp (fun r hr => by obtain ⟨a, _, rfl⟩ := List.mem_map.1 hr; exact At.clo _ a) (fun r hr => by obtain ⟨a, _, rfl⟩ := List.mem_map.1 hr; exact a.av_sto)
  simpa using this

theorem Clone_sat (l : List At) (hl : l.length ≤ 1048576) (h : Heap) : Sat (CT G) 64 [.sl 2 (l.map At.av)] h (fun r h' => r = .sl 2 (l.map At.av) ∧ h' = h) := by
  rcases l with _ | ⟨a, l⟩
  · refine Sat.body [.tmp 2] (fn := Tryz.f64) Tryz.func64 rfl rfl (by kernel_rfl) (by kernel_rfl) (by kernel_rfl) rfl ?_
    intro Q hQ
    (repeat (first
      | refine WP_seq (fun K hK => ?_)
      | refine WP_block ?_
      | refine WP_scope ?_
      | ((first | refine WP_region ?_ | refine WP_skip ?_ | refine WP_exit ?_ | refine WP_ret ?_); try simp (disch := first | omega | (simp only [go_sem, ↓reduceIte, Nat.reduceEqDiff]; done) | fail) only [go_sem, ↓reduceIte, Int.reduceToNat, Int.reduceLE, Int.reduceLT, Int.reduceSub, Int.reduceAdd, Nat.reduceEqDiff, Nat.reduceAdd, Nat.reduceLeDiff, Nat.reduceLT, Nat.reduceMul, Nat.reduceSub])
      | (refine WP_condK ?_; simp (disch := first | omega | (simp only [go_sem, ↓reduceIte, Nat.reduceEqDiff]; done) | fail) only [go_sem, ↓reduceIte, Int.reduceToNat, Int.reduceLE, Int.reduceLT, Int.reduceSub, Int.reduceAdd, Nat.reduceEqDiff, Nat.reduceAdd, Nat.reduceLeDiff, Nat.reduceLT, Nat.reduceMul, Nat.reduceSub]; refine went ?_)
      | (refine rowsK_sl (by simp only [go_sem]; rfl) (by simp only [go_sem]; rfl) (by simp only [go_sem]; try rfl) (by simp) (by omega) (by omega) (by omega) rfl (by simp (disch := first | omega | (simp only [go_sem, ↓reduceIte, Nat.reduceEqDiff]; done) | fail) only [go_sem, ↓reduceIte, Int.reduceToNat, Int.reduceLE, Int.reduceLT, Int.reduceSub, Int.reduceAdd, Nat.reduceEqDiff, Nat.reduceAdd, Nat.reduceLeDiff, Nat.reduceLT, Nat.reduceMul, Nat.reduceSub]; try simp) ?_; try simp (disch := first | omega | (simp only [go_sem, ↓reduceIte, Nat.reduceEqDiff]; done) | fail) only [go_sem, ↓reduceIte, Int.reduceToNat, Int.reduceLE, Int.reduceLT, Int.reduceSub, Int.reduceAdd, Nat.reduceEqDiff, Nat.reduceAdd, Nat.reduceLeDiff, Nat.reduceLT, Nat.reduceMul, Nat.reduceSub])
      | (refine rowsV_sl (by simp only [go_sem]; rfl) (by simp only [go_sem]; rfl) (by simp only [go_sem]; try rfl) (by simp) (by omega) (by omega) (by omega) rfl (by simp (disch := first | omega | (simp only [go_sem, ↓reduceIte, Nat.reduceEqDiff]; done) | fail) only [go_sem, ↓reduceIte, Int.reduceToNat, Int.reduceLE, Int.reduceLT, Int.reduceSub, Int.reduceAdd, Nat.reduceEqDiff, Nat.reduceAdd, Nat.reduceLeDiff, Nat.reduceLT, Nat.reduceMul, Nat.reduceSub]; try simp) ?_; try simp (disch := first | omega | (simp only [go_sem, ↓reduceIte, Nat.reduceEqDiff]; done) | fail) only [go_sem, ↓reduceIte, Int.reduceToNat, Int.reduceLE, Int.reduceLT, Int.reduceSub, Int.reduceAdd, Nat.reduceEqDiff, Nat.reduceAdd, Nat.reduceLeDiff, Nat.reduceLT, Nat.reduceMul, Nat.reduceSub])
      | (refine hK _ _ (Wkn.refl ?_); clear hK K)
      | (clear hK K; first | (refine hK _ _ (Wkn.refl ?_); clear hK K) | (clear hK K; refine hK _ _ (Wkn.refl ?_); clear hK K))))
    refine binK_empty _ (by simp (disch := first | omega | (simp only [go_sem, ↓reduceIte, Nat.reduceEqDiff]; done) | fail) only [go_sem, ↓reduceIte, Int.reduceToNat, Int.reduceLE, Int.reduceLT, Int.reduceSub, Int.reduceAdd, Nat.reduceEqDiff, Nat.reduceAdd, Nat.reduceLeDiff, Nat.reduceLT, Nat.reduceMul, Nat.reduceSub]) (.inl rfl) fun b => ?_
    cases b
    · try simp (disch := first | omega | (simp only [go_sem, ↓reduceIte, Nat.reduceEqDiff]; done) | fail) only [go_sem, ↓reduceIte, Int.reduceToNat, Int.reduceLE, Int.reduceLT, Int.reduceSub, Int.reduceAdd, Nat.reduceEqDiff, Nat.reduceAdd, Nat.reduceLeDiff, Nat.reduceLT, Nat.reduceMul, Nat.reduceSub]
      (repeat (first
        | refine WP_seq (fun K hK => ?_)
        | refine WP_block ?_
        | refine WP_scope ?_
        | ((first | refine WP_region ?_ | refine WP_skip ?_ | refine WP_exit ?_ | refine WP_ret ?_); try simp (disch := first | omega | (simp only [go_sem, ↓reduceIte, Nat.reduceEqDiff]; done) | fail) only [go_sem, ↓reduceIte, Int.reduceToNat, Int.reduceLE, Int.reduceLT, Int.reduceSub, Int.reduceAdd, Nat.reduceEqDiff, Nat.reduceAdd, Nat.reduceLeDiff, Nat.reduceLT, Nat.reduceMul, Nat.reduceSub])
        | (refine WP_condK ?_; simp (disch := first | omega | (simp only [go_sem, ↓reduceIte, Nat.reduceEqDiff]; done) | fail) only [go_sem, ↓reduceIte, Int.reduceToNat, Int.reduceLE, Int.reduceLT, Int.reduceSub, Int.reduceAdd, Nat.reduceEqDiff, Nat.reduceAdd, Nat.reduceLeDiff, Nat.reduceLT, Nat.reduceMul, Nat.reduceSub]; refine went ?_)
        | (refine rowsK_sl (by simp only [go_sem]; rfl) (by simp only [go_sem]; rfl) (by simp only [go_sem]; try rfl) (by simp) (by omega) (by omega) (by omega) rfl (by simp (disch := first | omega | (simp only [go_sem, ↓reduceIte, Nat.reduceEqDiff]; done) | fail) only [go_sem, ↓reduceIte, Int.reduceToNat, Int.reduceLE, Int.reduceLT, Int.reduceSub, Int.reduceAdd, Nat.reduceEqDiff, Nat.reduceAdd, Nat.reduceLeDiff, Nat.reduceLT, Nat.reduceMul, Nat.reduceSub]; try simp) ?_; try simp (disch := first | omega | (simp only [go_sem, ↓reduceIte, Nat.reduceEqDiff]; done) | fail) only [go_sem, ↓reduceIte, Int.reduceToNat, Int.reduceLE, Int.reduceLT, Int.reduceSub, Int.reduceAdd, Nat.reduceEqDiff, Nat.reduceAdd, Nat.reduceLeDiff, Nat.reduceLT, Nat.reduceMul, Nat.reduceSub])
        | (refine rowsV_sl (by simp only [go_sem]; rfl) (by simp only [go_sem]; rfl) (by simp only [go_sem]; try rfl) (by simp) (by omega) (by omega) (by omega) rfl (by simp (disch := first | omega | (simp only [go_sem, ↓reduceIte, Nat.reduceEqDiff]; done) | fail) only [go_sem, ↓reduceIte, Int.reduceToNat, Int.reduceLE, Int.reduceLT, Int.reduceSub, Int.reduceAdd, Nat.reduceEqDiff, Nat.reduceAdd, Nat.reduceLeDiff, Nat.reduceLT, Nat.reduceMul, Nat.reduceSub]; try simp) ?_; try simp (disch := first | omega | (simp only [go_sem, ↓reduceIte, Nat.reduceEqDiff]; done) | fail) only [go_sem, ↓reduceIte, Int.reduceToNat, Int.reduceLE, Int.reduceLT, Int.reduceSub, Int.reduceAdd, Nat.reduceEqDiff, Nat.reduceAdd, Nat.reduceLeDiff, Nat.reduceLT, Nat.reduceMul, Nat.reduceSub])
        | (refine hK _ _ (Wkn.refl ?_); clear hK K)
        | (clear hK K; first | (refine hK _ _ (Wkn.refl ?_); clear hK K) | (clear hK K; refine hK _ _ (Wkn.refl ?_); clear hK K))))
      refine appK_ez (.inl rfl) (by simp (disch := first | omega | (simp only [go_sem, ↓reduceIte, Nat.reduceEqDiff]; done) | fail) only [go_sem, ↓reduceIte, Int.reduceToNat, Int.reduceLE, Int.reduceLT, Int.reduceSub, Int.reduceAdd, Nat.reduceEqDiff, Nat.reduceAdd, Nat.reduceLeDiff, Nat.reduceLT, Nat.reduceMul, Nat.reduceSub]; rfl) (by simp (disch := first | omega | (simp only [go_sem, ↓reduceIte, Nat.reduceEqDiff]; done) | fail) only [go_sem, ↓reduceIte, Int.reduceToNat, Int.reduceLE, Int.reduceLT, Int.reduceSub, Int.reduceAdd, Nat.reduceEqDiff, Nat.reduceAdd, Nat.reduceLeDiff, Nat.reduceLT, Nat.reduceMul, Nat.reduceSub]; rfl) (by simp (disch := first | omega | (simp only [go_sem, ↓reduceIte, Nat.reduceEqDiff]; done) | fail) only [go_sem, ↓reduceIte, Int.reduceToNat, Int.reduceLE, Int.reduceLT, Int.reduceSub, Int.reduceAdd, Nat.reduceEqDiff, Nat.reduceAdd, Nat.reduceLeDiff, Nat.reduceLT, Nat.reduceMul, Nat.reduceSub]; rfl) (by simp (disch := first | omega | (simp only [go_sem, ↓reduceIte, Nat.reduceEqDiff]; done) | fail) only [go_sem, ↓reduceIte, Int.reduceToNat, Int.reduceLE, Int.reduceLT, Int.reduceSub, Int.reduceAdd, Nat.reduceEqDiff, Nat.reduceAdd, Nat.reduceLeDiff, Nat.reduceLT, Nat.reduceMul, Nat.reduceSub]; try rfl) (by omega) (by simp only [elemsOf, ↓reduceIte]; try rfl) (by simp) (fun _ => ?_) (fun h => absurd rfl h)
      try simp (disch := first | omega | (simp only [go_sem, ↓reduceIte, Nat.reduceEqDiff]; done) | fail) only [go_sem, ↓reduceIte, Int.reduceToNat, Int.reduceLE, Int.reduceLT, Int.reduceSub, Int.reduceAdd, Nat.reduceEqDiff, Nat.reduceAdd, Nat.reduceLeDiff, Nat.reduceLT, Nat.reduceMul, Nat.reduceSub]
      (repeat (first
        | refine WP_seq (fun K hK => ?_)
        | refine WP_block ?_
        | refine WP_scope ?_
        | ((first | refine WP_region ?_ | refine WP_skip ?_ | refine WP_exit ?_ | refine WP_ret ?_); try simp (disch := first | omega | (simp only [go_sem, ↓reduceIte, Nat.reduceEqDiff]; done) | fail) only [go_sem, ↓reduceIte, Int.reduceToNat, Int.reduceLE, Int.reduceLT, Int.reduceSub, Int.reduceAdd, Nat.reduceEqDiff, Nat.reduceAdd, Nat.reduceLeDiff, Nat.reduceLT, Nat.reduceMul, Nat.reduceSub])
        | (refine WP_condK ?_; simp (disch := first | omega | (simp only [go_sem, ↓reduceIte, Nat.reduceEqDiff]; done) | fail) only [go_sem, ↓reduceIte, Int.reduceToNat, Int.reduceLE, Int.reduceLT, Int.reduceSub, Int.reduceAdd, Nat.reduceEqDiff, Nat.reduceAdd, Nat.reduceLeDiff, Nat.reduceLT, Nat.reduceMul, Nat.reduceSub]; refine went ?_)
        | (refine rowsK_sl (by simp only [go_sem]; rfl) (by simp only [go_sem]; rfl) (by simp only [go_sem]; try rfl) (by simp) (by omega) (by omega) (by omega) rfl (by simp (disch := first | omega | (simp only [go_sem, ↓reduceIte, Nat.reduceEqDiff]; done) | fail) only [go_sem, ↓reduceIte, Int.reduceToNat, Int.reduceLE, Int.reduceLT, Int.reduceSub, Int.reduceAdd, Nat.reduceEqDiff, Nat.reduceAdd, Nat.reduceLeDiff, Nat.reduceLT, Nat.reduceMul, Nat.reduceSub]; try simp) ?_; try simp (disch := first | omega | (simp only [go_sem, ↓reduceIte, Nat.reduceEqDiff]; done) | fail) only [go_sem, ↓reduceIte, Int.reduceToNat, Int.reduceLE, Int.reduceLT, Int.reduceSub, Int.reduceAdd, Nat.reduceEqDiff, Nat.reduceAdd, Nat.reduceLeDiff, Nat.reduceLT, Nat.reduceMul, Nat.reduceSub])
        | (refine rowsV_sl (by simp only [go_sem]; rfl) (by simp only [go_sem]; rfl) (by simp only [go_sem]; try rfl) (by simp) (by omega) (by omega) (by omega) rfl (by simp (disch := first | omega | (simp only [go_sem, ↓reduceIte, Nat.reduceEqDiff]; done) | fail) only [go_sem, ↓reduceIte, Int.reduceToNat, Int.reduceLE, Int.reduceLT, Int.reduceSub, Int.reduceAdd, Nat.reduceEqDiff, Nat.reduceAdd, Nat.reduceLeDiff, Nat.reduceLT, Nat.reduceMul, Nat.reduceSub]; try simp) ?_; try simp (disch := first | omega | (simp only [go_sem, ↓reduceIte, Nat.reduceEqDiff]; done) | fail) only [go_sem, ↓reduceIte, Int.reduceToNat, Int.reduceLE, Int.reduceLT, Int.reduceSub, Int.reduceAdd, Nat.reduceEqDiff, Nat.reduceAdd, Nat.reduceLeDiff, Nat.reduceLT, Nat.reduceMul, Nat.reduceSub])
        | (refine hK _ _ (Wkn.refl ?_); clear hK K)
        | (clear hK K; first | (refine hK _ _ (Wkn.refl ?_); clear hK K) | (clear hK K; refine hK _ _ (Wkn.refl ?_); clear hK K))))
      first | refine (hQ _ _ ?_).1 | refine (hQ _ _ ?_).2
      simp (disch := first | omega | (simp only [go_sem, ↓reduceIte, Nat.reduceEqDiff]; done) | fail) only [go_sem, ↓reduceIte, Int.reduceToNat, Int.reduceLE, Int.reduceLT, Int.reduceSub, Int.reduceAdd, Nat.reduceEqDiff, Nat.reduceAdd, Nat.reduceLeDiff, Nat.reduceLT, Nat.reduceMul, Nat.reduceSub]
      exact Fin.frz0 (.ezs _) ⟨rfl, rfl⟩
    · try simp (disch := first | omega | (simp only [go_sem, ↓reduceIte, Nat.reduceEqDiff]; done) | fail) only [go_sem, ↓reduceIte, Int.reduceToNat, Int.reduceLE, Int.reduceLT, Int.reduceSub, Int.reduceAdd, Nat.reduceEqDiff, Nat.reduceAdd, Nat.reduceLeDiff, Nat.reduceLT, Nat.reduceMul, Nat.reduceSub]
      (repeat (first
        | refine WP_seq (fun K hK => ?_)
        | refine WP_block ?_
        | refine WP_scope ?_
        | ((first | refine WP_region ?_ | refine WP_skip ?_ | refine WP_exit ?_ | refine WP_ret ?_); try simp (disch := first | omega | (simp only [go_sem, ↓reduceIte, Nat.reduceEqDiff]; done) | fail) only [go_sem, ↓reduceIte, Int.reduceToNat, Int.reduceLE, Int.reduceLT, Int.reduceSub, Int.reduceAdd, Nat.reduceEqDiff, Nat.reduceAdd, Nat.reduceLeDiff, Nat.reduceLT, Nat.reduceMul, Nat.reduceSub])
        | (refine WP_condK ?_; simp (disch := first | omega | (simp only [go_sem, ↓reduceIte, Nat.reduceEqDiff]; done) | fail) only [go_sem, ↓reduceIte, Int.reduceToNat, Int.reduceLE, Int.reduceLT, Int.reduceSub, Int.reduceAdd, Nat.reduceEqDiff, Nat.reduceAdd, Nat.reduceLeDiff, Nat.reduceLT, Nat.reduceMul, Nat.reduceSub]; refine went ?_)
        | (refine rowsK_sl (by simp only [go_sem]; rfl) (by simp only [go_sem]; rfl) (by simp only [go_sem]; try rfl) (by simp) (by omega) (by omega) (by omega) rfl (by simp (disch := first | omega | (simp only [go_sem, ↓reduceIte, Nat.reduceEqDiff]; done) | fail) only [go_sem, ↓reduceIte, Int.reduceToNat, Int.reduceLE, Int.reduceLT, Int.reduceSub, Int.reduceAdd, Nat.reduceEqDiff, Nat.reduceAdd, Nat.reduceLeDiff, Nat.reduceLT, Nat.reduceMul, Nat.reduceSub]; try simp) ?_; try simp (disch := first | omega | (simp only [go_sem, ↓reduceIte, Nat.reduceEqDiff]; done) | fail) only [go_sem, ↓reduceIte, Int.reduceToNat, Int.reduceLE, Int.reduceLT, Int.reduceSub, Int.reduceAdd, Nat.reduceEqDiff, Nat.reduceAdd, Nat.reduceLeDiff, Nat.reduceLT, Nat.reduceMul, Nat.reduceSub])
        | (refine rowsV_sl (by simp only [go_sem]; rfl) (by simp only [go_sem]; rfl) (by simp only [go_sem]; try rfl) (by simp) (by omega) (by omega) (by omega) rfl (by simp (disch := first | omega | (simp only [go_sem, ↓reduceIte, Nat.reduceEqDiff]; done) | fail) only [go_sem, ↓reduceIte, Int.reduceToNat, Int.reduceLE, Int.reduceLT, Int.reduceSub, Int.reduceAdd, Nat.reduceEqDiff, Nat.reduceAdd, Nat.reduceLeDiff, Nat.reduceLT, Nat.reduceMul, Nat.reduceSub]; try simp) ?_; try simp (disch := first | omega | (simp only [go_sem, ↓reduceIte, Nat.reduceEqDiff]; done) | fail) only [go_sem, ↓reduceIte, Int.reduceToNat, Int.reduceLE, Int.reduceLT, Int.reduceSub, Int.reduceAdd, Nat.reduceEqDiff, Nat.reduceAdd, Nat.reduceLeDiff, Nat.reduceLT, Nat.reduceMul, Nat.reduceSub])
        | (refine hK _ _ (Wkn.refl ?_); clear hK K)
        | (clear hK K; first | (refine hK _ _ (Wkn.refl ?_); clear hK K) | (clear hK K; refine hK _ _ (Wkn.refl ?_); clear hK K))))
      first | refine (hQ _ _ ?_).1 | refine (hQ _ _ ?_).2
      simp (disch := first | omega | (simp only [go_sem, ↓reduceIte, Nat.reduceEqDiff]; done) | fail) only [go_sem, ↓reduceIte, Int.reduceToNat, Int.reduceLE, Int.reduceLT, Int.reduceSub, Int.reduceAdd, Nat.reduceEqDiff, Nat.reduceAdd, Nat.reduceLeDiff, Nat.reduceLT, Nat.reduceMul, Nat.reduceSub]
      exact Fin.frz0 (.nils _) ⟨rfl, rfl⟩
  · have hr : (List.map At.av (a :: l)) ≠ [] := by simp
    refine Sat.body [.tmp 2] (fn := Tryz.f64) Tryz.func64 rfl rfl (by kernel_rfl) (by kernel_rfl) (by kernel_rfl) rfl ?_
    intro Q hQ
    (repeat (first
      | refine WP_seq (fun K hK => ?_)
      | refine WP_block ?_
      | refine WP_scope ?_
      | ((first | refine WP_region ?_ | refine WP_skip ?_ | refine WP_exit ?_ | refine WP_ret ?_); try simp (disch := first | omega | (simp only [go_sem, ↓reduceIte, Nat.reduceEqDiff]; done) | fail) only [go_sem, ↓reduceIte, Int.reduceToNat, Int.reduceLE, Int.reduceLT, Int.reduceSub, Int.reduceAdd, Nat.reduceEqDiff, Nat.reduceAdd, Nat.reduceLeDiff, Nat.reduceLT, Nat.reduceMul, Nat.reduceSub])
      | (refine WP_condK ?_; simp (disch := first | omega | (simp only [go_sem, ↓reduceIte, Nat.reduceEqDiff]; done) | fail) only [go_sem, ↓reduceIte, Int.reduceToNat, Int.reduceLE, Int.reduceLT, Int.reduceSub, Int.reduceAdd, Nat.reduceEqDiff, Nat.reduceAdd, Nat.reduceLeDiff, Nat.reduceLT, Nat.reduceMul, Nat.reduceSub]; refine went ?_)
      | (refine rowsK_sl (by simp only [go_sem]; rfl) (by simp only [go_sem]; rfl) (by simp only [go_sem]; try rfl) (by simp) (by omega) (by omega) (by omega) rfl (by simp (disch := first | omega | (simp only [go_sem, ↓reduceIte, Nat.reduceEqDiff]; done) | fail) only [go_sem, ↓reduceIte, Int.reduceToNat, Int.reduceLE, Int.reduceLT, Int.reduceSub, Int.reduceAdd, Nat.reduceEqDiff, Nat.reduceAdd, Nat.reduceLeDiff, Nat.reduceLT, Nat.reduceMul, Nat.reduceSub]; try simp) ?_; try simp (disch := first | omega | (simp only [go_sem, ↓reduceIte, Nat.reduceEqDiff]; done) | fail) only [go_sem, ↓reduceIte, Int.reduceToNat, Int.reduceLE, Int.reduceLT, Int.reduceSub, Int.reduceAdd, Nat.reduceEqDiff, Nat.reduceAdd, Nat.reduceLeDiff, Nat.reduceLT, Nat.reduceMul, Nat.reduceSub])
      | (refine rowsV_sl (by simp only [go_sem]; rfl) (by simp only [go_sem]; rfl) (by simp only [go_sem]; try rfl) (by simp) (by omega) (by omega) (by omega) rfl (by simp (disch := first | omega | (simp only [go_sem, ↓reduceIte, Nat.reduceEqDiff]; done) | fail) only [go_sem, ↓reduceIte, Int.reduceToNat, Int.reduceLE, Int.reduceLT, Int.reduceSub, Int.reduceAdd, Nat.reduceEqDiff, Nat.reduceAdd, Nat.reduceLeDiff, Nat.reduceLT, Nat.reduceMul, Nat.reduceSub]; try simp) ?_; try simp (disch := first | omega | (simp only [go_sem, ↓reduceIte, Nat.reduceEqDiff]; done) | fail) only [go_sem, ↓reduceIte, Int.reduceToNat, Int.reduceLE, Int.reduceLT, Int.reduceSub, Int.reduceAdd, Nat.reduceEqDiff, Nat.reduceAdd, Nat.reduceLeDiff, Nat.reduceLT, Nat.reduceMul, Nat.reduceSub])
      | (refine hK _ _ (Wkn.refl ?_); clear hK K)
      | (clear hK K; first | (refine hK _ _ (Wkn.refl ?_); clear hK K) | (clear hK K; refine hK _ _ (Wkn.refl ?_); clear hK K))))
    refine appK_ez (.inl rfl) (by simp (disch := first | omega | (simp only [go_sem, ↓reduceIte, Nat.reduceEqDiff]; done) | fail) only [go_sem, ↓reduceIte, Int.reduceToNat, Int.reduceLE, Int.reduceLT, Int.reduceSub, Int.reduceAdd, Nat.reduceEqDiff, Nat.reduceAdd, Nat.reduceLeDiff, Nat.reduceLT, Nat.reduceMul, Nat.reduceSub]; rfl) (by simp (disch := first | omega | (simp only [go_sem, ↓reduceIte, Nat.reduceEqDiff]; done) | fail) only [go_sem, ↓reduceIte, Int.reduceToNat, Int.reduceLE, Int.reduceLT, Int.reduceSub, Int.reduceAdd, Nat.reduceEqDiff, Nat.reduceAdd, Nat.reduceLeDiff, Nat.reduceLT, Nat.reduceMul, Nat.reduceSub]; rfl) (by simp (disch := first | omega | (simp only [go_sem, ↓reduceIte, Nat.reduceEqDiff]; done) | fail) only [go_sem, ↓reduceIte, Int.reduceToNat, Int.reduceLE, Int.reduceLT, Int.reduceSub, Int.reduceAdd, Nat.reduceEqDiff, Nat.reduceAdd, Nat.reduceLeDiff, Nat.reduceLT, Nat.reduceMul, Nat.reduceSub]; rfl) (by simp (disch := first | omega | (simp only [go_sem, ↓reduceIte, Nat.reduceEqDiff]; done) | fail) only [go_sem, ↓reduceIte, Int.reduceToNat, Int.reduceLE, Int.reduceLT, Int.reduceSub, Int.reduceAdd, Nat.reduceEqDiff, Nat.reduceAdd, Nat.reduceLeDiff, Nat.reduceLT, Nat.reduceMul, Nat.reduceSub]; try rfl) (by omega) (by simp only [elemsOf, ↓reduceIte]; try rfl) ?_ (fun h => by simp at h) (fun _ => ?_)
    · simp [maxLen] at hl ⊢; omega
    try simp (disch := first | omega | (simp only [go_sem, ↓reduceIte, Nat.reduceEqDiff]; done) | fail) only [go_sem, ↓reduceIte, Int.reduceToNat, Int.reduceLE, Int.reduceLT, Int.reduceSub, Int.reduceAdd, Nat.reduceEqDiff, Nat.reduceAdd, Nat.reduceLeDiff, Nat.reduceLT, Nat.reduceMul, Nat.reduceSub]
    (repeat (first
      | refine WP_seq (fun K hK => ?_)
      | refine WP_block ?_
      | refine WP_scope ?_
      | ((first | refine WP_region ?_ | refine WP_skip ?_ | refine WP_exit ?_ | refine WP_ret ?_); try simp (disch := first | omega | (simp only [go_sem, ↓reduceIte, Nat.reduceEqDiff]; done) | fail) only [go_sem, ↓reduceIte, Int.reduceToNat, Int.reduceLE, Int.reduceLT, Int.reduceSub, Int.reduceAdd, Nat.reduceEqDiff, Nat.reduceAdd, Nat.reduceLeDiff, Nat.reduceLT, Nat.reduceMul, Nat.reduceSub])
      | (refine WP_condK ?_; simp (disch := first | omega | (simp only [go_sem, ↓reduceIte, Nat.reduceEqDiff]; done) | fail) only [go_sem, ↓reduceIte, Int.reduceToNat, Int.reduceLE, Int.reduceLT, Int.reduceSub, Int.reduceAdd, Nat.reduceEqDiff, Nat.reduceAdd, Nat.reduceLeDiff, Nat.reduceLT, Nat.reduceMul, Nat.reduceSub]; refine went ?_)
      | (refine rowsK_sl (by simp only [go_sem]; rfl) (by simp only [go_sem]; rfl) (by simp only [go_sem]; try rfl) (by simp) (by omega) (by omega) (by omega) rfl (by simp (disch := first | omega | (simp only [go_sem, ↓reduceIte, Nat.reduceEqDiff]; done) | fail) only [go_sem, ↓reduceIte, Int.reduceToNat, Int.reduceLE, Int.reduceLT, Int.reduceSub, Int.reduceAdd, Nat.reduceEqDiff, Nat.reduceAdd, Nat.reduceLeDiff, Nat.reduceLT, Nat.reduceMul, Nat.reduceSub]; try simp) ?_; try simp (disch := first | omega | (simp only [go_sem, ↓reduceIte, Nat.reduceEqDiff]; done) | fail) only [go_sem, ↓reduceIte, Int.reduceToNat, Int.reduceLE, Int.reduceLT, Int.reduceSub, Int.reduceAdd, Nat.reduceEqDiff, Nat.reduceAdd, Nat.reduceLeDiff, Nat.reduceLT, Nat.reduceMul, Nat.reduceSub])
      | (refine rowsV_sl (by simp only [go_sem]; rfl) (by simp only [go_sem]; rfl) (by simp only [go_sem]; try rfl) (by simp) (by omega) (by omega) (by omega) rfl (by simp (disch := first | omega | (simp only [go_sem, ↓reduceIte, Nat.reduceEqDiff]; done) | fail) only [go_sem, ↓reduceIte, Int.reduceToNat, Int.reduceLE, Int.reduceLT, Int.reduceSub, Int.reduceAdd, Nat.reduceEqDiff, Nat.reduceAdd, Nat.reduceLeDiff, Nat.reduceLT, Nat.reduceMul, Nat.reduceSub]; try simp) ?_; try simp (disch := first | omega | (simp only [go_sem, ↓reduceIte, Nat.reduceEqDiff]; done) | fail) only [go_sem, ↓reduceIte, Int.reduceToNat, Int.reduceLE, Int.reduceLT, Int.reduceSub, Int.reduceAdd, Nat.reduceEqDiff, Nat.reduceAdd, Nat.reduceLeDiff, Nat.reduceLT, Nat.reduceMul, Nat.reduceSub])
      | (refine hK _ _ (Wkn.refl ?_); clear hK K)
      | (clear hK K; first | (refine hK _ _ (Wkn.refl ?_); clear hK K) | (clear hK K; refine hK _ _ (Wkn.refl ?_); clear hK K))))
    first | refine (hQ _ _ ?_).1 | refine (hQ _ _ ?_).2
    simp (disch := first | omega | (simp only [go_sem, ↓reduceIte, Nat.reduceEqDiff]; done) | fail) only [go_sem, ↓reduceIte, Int.reduceToNat, Int.reduceLE, Int.reduceLT, Int.reduceSub, Int.reduceAdd, Nat.reduceEqDiff, Nat.reduceAdd, Nat.reduceLeDiff, Nat.reduceLT, Nat.reduceMul, Nat.reduceSub]
    have := frz_ats (h0 := h) (h1 := h ++ [.row 67 2 0 ((a :: l).map At.av)]) (e := 67) (v := 0) (a :: l) rfl rfl (Nat.le_refl _)
    simp only [List.length_cons, List.map_cons] at this
    exact Fin.frz (by simpa using this) ⟨rfl, rfl⟩

/-- The list that grows in a cell: what the ways through an element give to it. -/
def outH (h : Heap) (X : Blk) (v : Nat) (l : List Tok) : Heap := h ++ [X, .row 42 1 0 [.hs (h.length + 2) v 0 l.length true], .row 83 4 v (l.map Tok.av)]
theorem outH_len (h : Heap) (X : Blk) (v : Nat) (l : List Tok) : (outH h X v l).length = h.length + 3 := by simp [outH]
theorem outH_keep (h : Heap) (X : Blk) (v v' : Nat) (l l' : List Tok) (p : Nat) (k : Blk) (hk : (outH h X v' l')[p]? = some k) : (outH h X v l)[p]? = some k ∨ ∀ n, h.length + 3 ≤ n → CloB n k := by
  unfold outH at *
  rcases Nat.lt_or_ge p h.length with h1 | h1
  · rw [List.getElem?_append_left h1] at hk ⊢; exact .inl hk
  · rw [List.getElem?_append_right h1] at hk ⊢
    match p - h.length, hk with
    | 0, hk => exact .inl (by simpa using hk)
    | 1, hk =>
      simp at hk; subst hk
      refine .inr fun n hn r hr => ?_
      simp only [List.mem_singleton] at hr; subst hr
      exact .hs _ _ _ _ _ (by omega)
    | 2, hk =>
      simp at hk; subst hk
      refine .inr fun n hn r hr => ?_
      obtain ⟨a, _, rfl⟩ := List.mem_map.1 hr
      exact Tok.clo _ _
    | i + 3, hk => simp at hk

/-- What a contract leaves behind, known otherwise. -/
theorem Sat.post {C : Ctx} {f : FuncId} {args : List AVal} {h : Heap} {R R' : AVal → Heap → Prop} (s : Sat C f args h R) (k : ∀ r h', R r h' → ∃ h'', (∀ t, Weak C [] t h' t h'') ∧ R' r h'') : Sat C f args h R' := by
  unfold Sat at *
  intro B S μ w vs f0 rl
  refine (s B S μ w vs f0 rl).mono fun v w' ⟨r, h', S', μ', hR, st, f1, hr⟩ => ?_
  obtain ⟨h'', hw, hR'⟩ := k r h' hR
  obtain ⟨S2, μ2, st2, f2, _⟩ := (hw fun _ => undefA).2 B 0 S' μ' w' { tmps := #[], defers := [] } f1 ⟨rfl, rfl, fun i hi => by omega⟩
  exact ⟨r, h'', S2, μ2, hR', st.trans st2, f2, hr.mono st2⟩

def rawH (h : Heap) (X : Blk) (v : Nat) (l : List Tok) (k : Int) (n t : Bs) : Heap := h ++ [X, .row 42 1 0 [.hs (h.length + 2) v 0 (l.length + 1) true], .row 83 4 v (l.map Tok.av ++ [.agg [.int .i64 k, .str n, .nil (.slice none 0 0), .str t]])]
theorem raw_weak (C : Ctx) (h j : Heap) (X : Blk) (v : Nat) (l : List Tok) (k : Int) (n t : Bs) (ms : List Nat) (e : Env) : Weak C ms e (rawH h X v l k n t ++ j) e (outH h X v (l ++ [(k, n, [], t)]) ++ j) := by
  have hr : getRow (rawH h X v l k n t ++ j) (h.length + 2) v = some (83, 4, l.map Tok.av ++ [.agg [.int .i64 k, .str n, .nil (.slice none 0 0), .str t]]) := by
    unfold rawH; rw [List.append_assoc, getRow_app]; simp [getRow]
  have := Weak.rowsLast (C := C) (ms := ms) (t := e) (Tok.av (k, n, [], t)) hr (wk_tok k n t)
  unfold rawH at this
  rw [List.append_assoc, set_app] at this
  unfold rawH outH
  simpa using this
theorem raw_fin (h j j2 : Heap) (X : Blk) (v v0 : Nat) (l l0 : List Tok) (k : Int) (n t : Bs) {h2 : Heap} (hh : h2 = rawH h X v l k n t ++ j ++ j2) :
    Fin (outH h X v0 l0 ++ j) h2 (fun r h' => r = .tup [] ∧ h' = rawH h X v l k n t ++ j) (.tup []) := by
  refine Fin.keepE (h1 := rawH h X v l k n t ++ j) hh (by simp [rawH, outH]) (fun p b hk => ?_) (.tup _ (by simp)) ⟨rfl, rfl⟩
  unfold rawH outH at *
  simp only [List.append_assoc, List.cons_append, List.nil_append] at hk ⊢
  rcases Nat.lt_or_ge p h.length with h1 | h1
  · rw [List.getElem?_append_left h1] at hk ⊢; exact .inl hk
  · rw [List.getElem?_append_right h1] at hk ⊢
    match p - h.length, hk with
    | 0, hk => exact .inl (by simpa using hk)
    | 1, hk =>
      simp at hk; subst hk
      refine .inr fun r hr => ?_
      simp only [List.mem_singleton] at hr; subst hr
      exact .hs _ _ _ _ _ (by simp)
    | 2, hk =>
      simp at hk; subst hk
      refine .inr fun r hr => ?_
      rcases List.mem_append.1 hr with hr | hr
      · obtain ⟨a, _, rfl⟩ := List.mem_map.1 hr
        exact Tok.clo _ _
      · simp only [List.mem_singleton] at hr; subst hr
        refine .agg _ fun c hc => ?_
        simp only [List.mem_cons, List.mem_nil_iff, or_false] at hc
        rcases hc with rfl | rfl | rfl | rfl
        · exact .int _ _
        · exact .str _
        · exact .nil _
        · exact .str _
    | i + 3, hk => exact .inl (by simpa using hk)

theorem Tokens2_sat (e : Elem) (h j : Heap) (X : Blk) (v : Nat) (l : List Tok) (hl : l.length ≤ 8388608) : Sat (CT G) 65 [e.av, .hp (h.length + 1) 0 0 0] (outH h X v l ++ j)
    (fun r h' => r = .tup [] ∧ h' = outH h X (v + 1) (l ++ [(2, e.name, [], [])]) ++ j) := by
  refine Sat.post (R := fun r h' => r = .tup [] ∧ h' = rawH h X (v + 1) l 2 e.name [] ++ j) ?_ fun r h' ⟨h1, h2⟩ => ⟨_, fun t => by rw [h2]; exact raw_weak _ _ _ _ _ _ _ _ _ _ _, h1, rfl⟩
  have end_ := fun (j2 h2 : Heap) hh => raw_fin h j j2 X (v + 1) v l l 2 e.name [] (h2 := h2) hh
  unfold outH at *
  simp only [List.append_assoc, List.cons_append, List.nil_append] at end_ ⊢
  refine Sat.body [] (fn := Tryz.f65) Tryz.func65 rfl rfl (by kernel_rfl) (by kernel_rfl) (by kernel_rfl) rfl ?_
  intro Q hQ
  (repeat (first
    | refine WP_seq (fun K hK => ?_)
    | refine WP_block ?_
    | refine WP_scope ?_
    | ((first | refine WP_region ?_ | refine WP_skip ?_ | refine WP_exit ?_ | refine WP_ret ?_); try simp (disch := first | omega | (simp only [go_sem, ↓reduceIte, Nat.reduceEqDiff]; done) | fail) only [go_sem, ↓reduceIte, Int.reduceToNat, Int.reduceLE, Int.reduceLT, Int.reduceSub, Int.reduceAdd, Nat.reduceEqDiff, Nat.reduceAdd, Nat.reduceLeDiff, Nat.reduceLT, Nat.reduceMul, Nat.reduceSub])
    | (refine WP_condK ?_; simp (disch := first | omega | (simp only [go_sem, ↓reduceIte, Nat.reduceEqDiff]; done) | fail) only [go_sem, ↓reduceIte, Int.reduceToNat, Int.reduceLE, Int.reduceLT, Int.reduceSub, Int.reduceAdd, Nat.reduceEqDiff, Nat.reduceAdd, Nat.reduceLeDiff, Nat.reduceLT, Nat.reduceMul, Nat.reduceSub]; refine went ?_)
    | (refine rowsK_sl (by simp only [go_sem]; rfl) (by simp only [go_sem]; rfl) (by simp only [go_sem]; try rfl) (by simp) (by omega) (by omega) (by omega) rfl (by simp (disch := first | omega | (simp only [go_sem, ↓reduceIte, Nat.reduceEqDiff]; done) | fail) only [go_sem, ↓reduceIte, Int.reduceToNat, Int.reduceLE, Int.reduceLT, Int.reduceSub, Int.reduceAdd, Nat.reduceEqDiff, Nat.reduceAdd, Nat.reduceLeDiff, Nat.reduceLT, Nat.reduceMul, Nat.reduceSub]; try simp) ?_; try simp (disch := first | omega | (simp only [go_sem, ↓reduceIte, Nat.reduceEqDiff]; done) | fail) only [go_sem, ↓reduceIte, Int.reduceToNat, Int.reduceLE, Int.reduceLT, Int.reduceSub, Int.reduceAdd, Nat.reduceEqDiff, Nat.reduceAdd, Nat.reduceLeDiff, Nat.reduceLT, Nat.reduceMul, Nat.reduceSub])
    | (refine rowsV_sl (by simp only [go_sem]; rfl) (by simp only [go_sem]; rfl) (by simp only [go_sem]; try rfl) (by simp) (by omega) (by omega) (by omega) rfl (by simp (disch := first | omega | (simp only [go_sem, ↓reduceIte, Nat.reduceEqDiff]; done) | fail) only [go_sem, ↓reduceIte, Int.reduceToNat, Int.reduceLE, Int.reduceLT, Int.reduceSub, Int.reduceAdd, Nat.reduceEqDiff, Nat.reduceAdd, Nat.reduceLeDiff, Nat.reduceLT, Nat.reduceMul, Nat.reduceSub]; try simp) ?_; try simp (disch := first | omega | (simp only [go_sem, ↓reduceIte, Nat.reduceEqDiff]; done) | fail) only [go_sem, ↓reduceIte, Int.reduceToNat, Int.reduceLE, Int.reduceLT, Int.reduceSub, Int.reduceAdd, Nat.reduceEqDiff, Nat.reduceAdd, Nat.reduceLeDiff, Nat.reduceLT, Nat.reduceMul, Nat.reduceSub])
    | (refine hK _ _ (Wkn.refl ?_); clear hK K)
    | (clear hK K; first | (refine hK _ _ (Wkn.refl ?_); clear hK K) | (clear hK K; refine hK _ _ (Wkn.refl ?_); clear hK K))))
  (repeat (first
    | refine WP_seq (fun K hK => ?_)
    | refine WP_block ?_
    | refine WP_scope ?_
    | ((first | refine WP_region ?_ | refine WP_skip ?_ | refine WP_exit ?_ | refine WP_ret ?_); try simp (disch := first | omega | (simp only [go_sem, ↓reduceIte, Nat.reduceEqDiff]; done) | fail) only [go_sem, ↓reduceIte, Int.reduceToNat, Int.reduceLE, Int.reduceLT, Int.reduceSub, Int.reduceAdd, Nat.reduceEqDiff, Nat.reduceAdd, Nat.reduceLeDiff, Nat.reduceLT, Nat.reduceMul, Nat.reduceSub])
    | (refine WP_condK ?_; simp (disch := first | omega | (simp only [go_sem, ↓reduceIte, Nat.reduceEqDiff]; done) | fail) only [go_sem, ↓reduceIte, Int.reduceToNat, Int.reduceLE, Int.reduceLT, Int.reduceSub, Int.reduceAdd, Nat.reduceEqDiff, Nat.reduceAdd, Nat.reduceLeDiff, Nat.reduceLT, Nat.reduceMul, Nat.reduceSub]; refine went ?_)
    | (refine rowsK_sl (by simp only [go_sem]; rfl) (by simp only [go_sem]; rfl) (by simp only [go_sem]; try rfl) (by simp) (by omega) (by omega) (by omega) rfl (by simp (disch := first | omega | (simp only [go_sem, ↓reduceIte, Nat.reduceEqDiff]; done) | fail) only [go_sem, ↓reduceIte, Int.reduceToNat, Int.reduceLE, Int.reduceLT, Int.reduceSub, Int.reduceAdd, Nat.reduceEqDiff, Nat.reduceAdd, Nat.reduceLeDiff, Nat.reduceLT, Nat.reduceMul, Nat.reduceSub]; try simp) ?_; try simp (disch := first | omega | (simp only [go_sem, ↓reduceIte, Nat.reduceEqDiff]; done) | fail) only [go_sem, ↓reduceIte, Int.reduceToNat, Int.reduceLE, Int.reduceLT, Int.reduceSub, Int.reduceAdd, Nat.reduceEqDiff, Nat.reduceAdd, Nat.reduceLeDiff, Nat.reduceLT, Nat.reduceMul, Nat.reduceSub])
    | (refine rowsV_sl (by simp only [go_sem]; rfl) (by simp only [go_sem]; rfl) (by simp only [go_sem]; try rfl) (by simp) (by omega) (by omega) (by omega) rfl (by simp (disch := first | omega | (simp only [go_sem, ↓reduceIte, Nat.reduceEqDiff]; done) | fail) only [go_sem, ↓reduceIte, Int.reduceToNat, Int.reduceLE, Int.reduceLT, Int.reduceSub, Int.reduceAdd, Nat.reduceEqDiff, Nat.reduceAdd, Nat.reduceLeDiff, Nat.reduceLT, Nat.reduceMul, Nat.reduceSub]; try simp) ?_; try simp (disch := first | omega | (simp only [go_sem, ↓reduceIte, Nat.reduceEqDiff]; done) | fail) only [go_sem, ↓reduceIte, Int.reduceToNat, Int.reduceLE, Int.reduceLT, Int.reduceSub, Int.reduceAdd, Nat.reduceEqDiff, Nat.reduceAdd, Nat.reduceLeDiff, Nat.reduceLT, Nat.reduceMul, Nat.reduceSub])))
  refine appK_row (by first | exact .inl rfl | (right; simp only [go_sem])) (by simp only [go_sem]; rfl) (by simp only [go_sem]; rfl) (by simp only [go_sem]; rfl) (by simp only [go_sem]; try rfl) (by omega) (by simp only [elemsOf, ↓reduceIte]; rfl) (by simp (disch := first | omega | (simp only [go_sem, ↓reduceIte, Nat.reduceEqDiff]; done) | fail) only [go_sem, ↓reduceIte, Int.reduceToNat, Int.reduceLE, Int.reduceLT, Int.reduceSub, Int.reduceAdd, Nat.reduceEqDiff, Nat.reduceAdd, Nat.reduceLeDiff, Nat.reduceLT, Nat.reduceMul, Nat.reduceSub]; rfl) (by simp) ?_ ?_
  · refine ⟨?_, ?_⟩ <;> simp only [maxLen, List.length_map, List.length_cons, List.length_nil, List.length_append] <;> omega
  try simp (disch := first | omega | (simp only [go_sem, ↓reduceIte, Nat.reduceEqDiff]; done) | fail) only [go_sem, ↓reduceIte, Int.reduceToNat, Int.reduceLE, Int.reduceLT, Int.reduceSub, Int.reduceAdd, Nat.reduceEqDiff, Nat.reduceAdd, Nat.reduceLeDiff, Nat.reduceLT, Nat.reduceMul, Nat.reduceSub]
  (repeat (first
    | refine WP_seq (fun K hK => ?_)
    | refine WP_block ?_
    | refine WP_scope ?_
    | ((first | refine WP_region ?_ | refine WP_skip ?_ | refine WP_exit ?_ | refine WP_ret ?_); try simp (disch := first | omega | (simp only [go_sem, ↓reduceIte, Nat.reduceEqDiff]; done) | fail) only [go_sem, ↓reduceIte, Int.reduceToNat, Int.reduceLE, Int.reduceLT, Int.reduceSub, Int.reduceAdd, Nat.reduceEqDiff, Nat.reduceAdd, Nat.reduceLeDiff, Nat.reduceLT, Nat.reduceMul, Nat.reduceSub])
    | (refine WP_condK ?_; simp (disch := first | omega | (simp only [go_sem, ↓reduceIte, Nat.reduceEqDiff]; done) | fail) only [go_sem, ↓reduceIte, Int.reduceToNat, Int.reduceLE, Int.reduceLT, Int.reduceSub, Int.reduceAdd, Nat.reduceEqDiff, Nat.reduceAdd, Nat.reduceLeDiff, Nat.reduceLT, Nat.reduceMul, Nat.reduceSub]; refine went ?_)
    | (refine rowsK_sl (by simp only [go_sem]; rfl) (by simp only [go_sem]; rfl) (by simp only [go_sem]; try rfl) (by simp) (by omega) (by omega) (by omega) rfl (by simp (disch := first | omega | (simp only [go_sem, ↓reduceIte, Nat.reduceEqDiff]; done) | fail) only [go_sem, ↓reduceIte, Int.reduceToNat, Int.reduceLE, Int.reduceLT, Int.reduceSub, Int.reduceAdd, Nat.reduceEqDiff, Nat.reduceAdd, Nat.reduceLeDiff, Nat.reduceLT, Nat.reduceMul, Nat.reduceSub]; try simp) ?_; try simp (disch := first | omega | (simp only [go_sem, ↓reduceIte, Nat.reduceEqDiff]; done) | fail) only [go_sem, ↓reduceIte, Int.reduceToNat, Int.reduceLE, Int.reduceLT, Int.reduceSub, Int.reduceAdd, Nat.reduceEqDiff, Nat.reduceAdd, Nat.reduceLeDiff, Nat.reduceLT, Nat.reduceMul, Nat.reduceSub])
    | (refine rowsV_sl (by simp only [go_sem]; rfl) (by simp only [go_sem]; rfl) (by simp only [go_sem]; try rfl) (by simp) (by omega) (by omega) (by omega) rfl (by simp (disch := first | omega | (simp only [go_sem, ↓reduceIte, Nat.reduceEqDiff]; done) | fail) only [go_sem, ↓reduceIte, Int.reduceToNat, Int.reduceLE, Int.reduceLT, Int.reduceSub, Int.reduceAdd, Nat.reduceEqDiff, Nat.reduceAdd, Nat.reduceLeDiff, Nat.reduceLT, Nat.reduceMul, Nat.reduceSub]; try simp) ?_; try simp (disch := first | omega | (simp only [go_sem, ↓reduceIte, Nat.reduceEqDiff]; done) | fail) only [go_sem, ↓reduceIte, Int.reduceToNat, Int.reduceLE, Int.reduceLT, Int.reduceSub, Int.reduceAdd, Nat.reduceEqDiff, Nat.reduceAdd, Nat.reduceLeDiff, Nat.reduceLT, Nat.reduceMul, Nat.reduceSub])))
  first | refine (hQ _ _ ?_).1 | refine (hQ _ _ ?_).2
  simp (disch := first | omega | (simp only [go_sem, ↓reduceIte, Nat.reduceEqDiff]; done) | fail) only [go_sem, ↓reduceIte, Int.reduceToNat, Int.reduceLE, Int.reduceLT, Int.reduceSub, Int.reduceAdd, Nat.reduceEqDiff, Nat.reduceAdd, Nat.reduceLeDiff, Nat.reduceLT, Nat.reduceMul, Nat.reduceSub]
  exact end_ _ _ (by unfold rawH; simp; rfl)

theorem out_fin (h j j2 : Heap) (X : Blk) (v v0 : Nat) (l l0 : List Tok) {h2 : Heap} (hh : h2 = outH h X v l ++ j ++ j2) :
    Fin (outH h X v0 l0 ++ j) h2 (fun r h' => r = .tup [] ∧ h' = outH h X v l ++ j) (.tup []) := by
  refine Fin.keepE (h1 := outH h X v l ++ j) hh (by simp [outH]) (fun p b hk => ?_) (.tup _ (by simp)) ⟨rfl, rfl⟩
  rcases Nat.lt_or_ge p (outH h X v0 l0).length with h1 | h1
  · rw [List.getElem?_append_left h1]
    rw [List.getElem?_append_left (by rw [outH_len] at h1 ⊢; exact h1)] at hk
    rcases outH_keep h X v0 v l0 _ p b hk with h2 | h2
    · exact .inl h2
    · exact .inr (h2 _ (by simp [outH_len]))
  · rw [List.getElem?_append_right h1]
    rw [List.getElem?_append_right (by rw [outH_len] at h1 ⊢; exact h1)] at hk
    simp only [outH_len] at hk ⊢
    exact .inl hk

theorem Tokens1_sat (e : Elem) (hs : e.sz ≤ 1048576) (h j : Heap) (X : Blk) (v : Nat) (l : List Tok) (hl : l.length ≤ 8388608) : Sat (CT G) 63 [e.av, .hp (h.length + 1) 0 0 0] (outH h X v l ++ j)
    (fun r h' => r = .tup [] ∧ h' = outH h X (v + if e.text = [] then 1 else 2) (l ++ (1, e.name, e.attrs, []) :: (if e.text = [] then [] else [(3, [], [], e.text)])) ++ j) := by
  have hal := e.attrs_len
  by_cases ht : e.text = []
  · simp only [if_pos ht]
    have end_ := fun (j2 h2 : Heap) hh => out_fin h j j2 X (v + 1) v (l ++ [(1, e.name, e.attrs, [])]) l (h2 := h2) hh
    unfold outH at *
    simp only [List.append_assoc, List.cons_append, List.nil_append] at end_ ⊢
    refine Sat.body [] (fn := Tryz.f63) Tryz.func63 rfl rfl (by kernel_rfl) (by kernel_rfl) (by kernel_rfl) rfl ?_
    intro Q hQ
    (repeat (first
      | refine WP_seq (fun K hK => ?_)
      | refine WP_block ?_
      | refine WP_scope ?_
      | ((first | refine WP_region ?_ | refine WP_draw 8 (by decide +kernel) ?_ | refine WP_skip ?_ | refine WP_exit ?_ | refine WP_ret ?_); try simp (disch := first | omega | (simp only [go_sem, ↓reduceIte, Nat.reduceEqDiff]; done) | fail) only [go_sem, ↓reduceIte, Int.reduceToNat, Int.reduceLE, Int.reduceLT, Int.reduceSub, Int.reduceAdd, Nat.reduceEqDiff, Nat.reduceAdd, Nat.reduceLeDiff, Nat.reduceLT, Nat.reduceMul, Nat.reduceSub])
      | (refine WP_condK ?_; simp (disch := first | omega | (simp only [go_sem, ↓reduceIte, Nat.reduceEqDiff]; done) | fail) only [go_sem, ↓reduceIte, Int.reduceToNat, Int.reduceLE, Int.reduceLT, Int.reduceSub, Int.reduceAdd, Nat.reduceEqDiff, Nat.reduceAdd, Nat.reduceLeDiff, Nat.reduceLT, Nat.reduceMul, Nat.reduceSub]; refine went ?_)
      | (refine rowsK_sl (by simp only [go_sem]; rfl) (by simp only [go_sem]; rfl) (by simp only [go_sem]; try rfl) (by simp) (by omega) (by omega) (by omega) rfl (by simp (disch := first | omega | (simp only [go_sem, ↓reduceIte, Nat.reduceEqDiff]; done) | fail) only [go_sem, ↓reduceIte, Int.reduceToNat, Int.reduceLE, Int.reduceLT, Int.reduceSub, Int.reduceAdd, Nat.reduceEqDiff, Nat.reduceAdd, Nat.reduceLeDiff, Nat.reduceLT, Nat.reduceMul, Nat.reduceSub]; try simp) ?_; try simp (disch := first | omega | (simp only [go_sem, ↓reduceIte, Nat.reduceEqDiff]; done) | fail) only [go_sem, ↓reduceIte, Int.reduceToNat, Int.reduceLE, Int.reduceLT, Int.reduceSub, Int.reduceAdd, Nat.reduceEqDiff, Nat.reduceAdd, Nat.reduceLeDiff, Nat.reduceLT, Nat.reduceMul, Nat.reduceSub])
      | (refine rowsV_sl (by simp only [go_sem]; rfl) (by simp only [go_sem]; rfl) (by simp only [go_sem]; try rfl) (by simp) (by omega) (by omega) (by omega) rfl (by simp (disch := first | omega | (simp only [go_sem, ↓reduceIte, Nat.reduceEqDiff]; done) | fail) only [go_sem, ↓reduceIte, Int.reduceToNat, Int.reduceLE, Int.reduceLT, Int.reduceSub, Int.reduceAdd, Nat.reduceEqDiff, Nat.reduceAdd, Nat.reduceLeDiff, Nat.reduceLT, Nat.reduceMul, Nat.reduceSub]; try simp) ?_; try simp (disch := first | omega | (simp only [go_sem, ↓reduceIte, Nat.reduceEqDiff]; done) | fail) only [go_sem, ↓reduceIte, Int.reduceToNat, Int.reduceLE, Int.reduceLT, Int.reduceSub, Int.reduceAdd, Nat.reduceEqDiff, Nat.reduceAdd, Nat.reduceLeDiff, Nat.reduceLT, Nat.reduceMul, Nat.reduceSub])
      | (refine hK _ _ (Wkn.refl ?_); clear hK K)
      | (clear hK K; first | (refine hK _ _ (Wkn.refl ?_); clear hK K) | (clear hK K; refine hK _ _ (Wkn.refl ?_); clear hK K))))
    refine ⟨_, Clone_sat G e.attrs (by omega) _, ?_⟩
    try simp (disch := first | omega | (simp only [go_sem, ↓reduceIte, Nat.reduceEqDiff]; done) | fail) only [go_sem, ↓reduceIte, Int.reduceToNat, Int.reduceLE, Int.reduceLT, Int.reduceSub, Int.reduceAdd, Nat.reduceEqDiff, Nat.reduceAdd, Nat.reduceLeDiff, Nat.reduceLT, Nat.reduceMul, Nat.reduceSub]
    (repeat (first
      | refine WP_seq (fun K hK => ?_)
      | refine WP_block ?_
      | refine WP_scope ?_
      | ((first | refine WP_region ?_ | refine WP_draw 8 (by decide +kernel) ?_ | refine WP_skip ?_ | refine WP_exit ?_ | refine WP_ret ?_); try simp (disch := first | omega | (simp only [go_sem, ↓reduceIte, Nat.reduceEqDiff]; done) | fail) only [go_sem, ↓reduceIte, Int.reduceToNat, Int.reduceLE, Int.reduceLT, Int.reduceSub, Int.reduceAdd, Nat.reduceEqDiff, Nat.reduceAdd, Nat.reduceLeDiff, Nat.reduceLT, Nat.reduceMul, Nat.reduceSub])
      | (refine WP_condK ?_; simp (disch := first | omega | (simp only [go_sem, ↓reduceIte, Nat.reduceEqDiff]; done) | fail) only [go_sem, ↓reduceIte, Int.reduceToNat, Int.reduceLE, Int.reduceLT, Int.reduceSub, Int.reduceAdd, Nat.reduceEqDiff, Nat.reduceAdd, Nat.reduceLeDiff, Nat.reduceLT, Nat.reduceMul, Nat.reduceSub]; refine went ?_)
      | (refine rowsK_sl (by simp only [go_sem]; rfl) (by simp only [go_sem]; rfl) (by simp only [go_sem]; try rfl) (by simp) (by omega) (by omega) (by omega) rfl (by simp (disch := first | omega | (simp only [go_sem, ↓reduceIte, Nat.reduceEqDiff]; done) | fail) only [go_sem, ↓reduceIte, Int.reduceToNat, Int.reduceLE, Int.reduceLT, Int.reduceSub, Int.reduceAdd, Nat.reduceEqDiff, Nat.reduceAdd, Nat.reduceLeDiff, Nat.reduceLT, Nat.reduceMul, Nat.reduceSub]; try simp) ?_; try simp (disch := first | omega | (simp only [go_sem, ↓reduceIte, Nat.reduceEqDiff]; done) | fail) only [go_sem, ↓reduceIte, Int.reduceToNat, Int.reduceLE, Int.reduceLT, Int.reduceSub, Int.reduceAdd, Nat.reduceEqDiff, Nat.reduceAdd, Nat.reduceLeDiff, Nat.reduceLT, Nat.reduceMul, Nat.reduceSub])
      | (refine rowsV_sl (by simp only [go_sem]; rfl) (by simp only [go_sem]; rfl) (by simp only [go_sem]; try rfl) (by simp) (by omega) (by omega) (by omega) rfl (by simp (disch := first | omega | (simp only [go_sem, ↓reduceIte, Nat.reduceEqDiff]; done) | fail) only [go_sem, ↓reduceIte, Int.reduceToNat, Int.reduceLE, Int.reduceLT, Int.reduceSub, Int.reduceAdd, Nat.reduceEqDiff, Nat.reduceAdd, Nat.reduceLeDiff, Nat.reduceLT, Nat.reduceMul, Nat.reduceSub]; try simp) ?_; try simp (disch := first | omega | (simp only [go_sem, ↓reduceIte, Nat.reduceEqDiff]; done) | fail) only [go_sem, ↓reduceIte, Int.reduceToNat, Int.reduceLE, Int.reduceLT, Int.reduceSub, Int.reduceAdd, Nat.reduceEqDiff, Nat.reduceAdd, Nat.reduceLeDiff, Nat.reduceLT, Nat.reduceMul, Nat.reduceSub])
      | (refine hK _ _ (Wkn.refl ?_); clear hK K)
      | (clear hK K; first | (refine hK _ _ (Wkn.refl ?_); clear hK K) | (clear hK K; refine hK _ _ (Wkn.refl ?_); clear hK K))))
    refine appK_row (by first | exact .inl rfl | (right; simp only [go_sem])) (by simp only [go_sem]; rfl) (by simp only [go_sem]; rfl) (by simp only [go_sem]; rfl) (by simp only [go_sem]; try rfl) (by omega) (by simp only [elemsOf, ↓reduceIte]; rfl) (by simp (disch := first | omega | (simp only [go_sem, ↓reduceIte, Nat.reduceEqDiff]; done) | fail) only [go_sem, ↓reduceIte, Int.reduceToNat, Int.reduceLE, Int.reduceLT, Int.reduceSub, Int.reduceAdd, Nat.reduceEqDiff, Nat.reduceAdd, Nat.reduceLeDiff, Nat.reduceLT, Nat.reduceMul, Nat.reduceSub]; rfl) (by simp) ?_ ?_
    · refine ⟨?_, ?_⟩ <;> simp only [maxLen, List.length_map, List.length_cons, List.length_nil, List.length_append] <;> omega
    try simp (disch := first | omega | (simp only [go_sem, ↓reduceIte, Nat.reduceEqDiff]; done) | fail) only [go_sem, ↓reduceIte, Int.reduceToNat, Int.reduceLE, Int.reduceLT, Int.reduceSub, Int.reduceAdd, Nat.reduceEqDiff, Nat.reduceAdd, Nat.reduceLeDiff, Nat.reduceLT, Nat.reduceMul, Nat.reduceSub]
    (repeat (first
      | refine WP_seq (fun K hK => ?_)
      | refine WP_block ?_
      | refine WP_scope ?_
      | ((first | refine WP_region ?_ | refine WP_draw 8 (by decide +kernel) ?_ | refine WP_skip ?_ | refine WP_exit ?_ | refine WP_ret ?_); try simp (disch := first | omega | (simp only [go_sem, ↓reduceIte, Nat.reduceEqDiff]; done) | fail) only [go_sem, ↓reduceIte, Int.reduceToNat, Int.reduceLE, Int.reduceLT, Int.reduceSub, Int.reduceAdd, Nat.reduceEqDiff, Nat.reduceAdd, Nat.reduceLeDiff, Nat.reduceLT, Nat.reduceMul, Nat.reduceSub])
      | (refine WP_condK ?_; simp (disch := first | omega | (simp only [go_sem, ↓reduceIte, Nat.reduceEqDiff]; done) | fail) only [go_sem, ↓reduceIte, Int.reduceToNat, Int.reduceLE, Int.reduceLT, Int.reduceSub, Int.reduceAdd, Nat.reduceEqDiff, Nat.reduceAdd, Nat.reduceLeDiff, Nat.reduceLT, Nat.reduceMul, Nat.reduceSub]; refine went ?_)
      | (refine rowsK_sl (by simp only [go_sem]; rfl) (by simp only [go_sem]; rfl) (by simp only [go_sem]; try rfl) (by simp) (by omega) (by omega) (by omega) rfl (by simp (disch := first | omega | (simp only [go_sem, ↓reduceIte, Nat.reduceEqDiff]; done) | fail) only [go_sem, ↓reduceIte, Int.reduceToNat, Int.reduceLE, Int.reduceLT, Int.reduceSub, Int.reduceAdd, Nat.reduceEqDiff, Nat.reduceAdd, Nat.reduceLeDiff, Nat.reduceLT, Nat.reduceMul, Nat.reduceSub]; try simp) ?_; try simp (disch := first | omega | (simp only [go_sem, ↓reduceIte, Nat.reduceEqDiff]; done) | fail) only [go_sem, ↓reduceIte, Int.reduceToNat, Int.reduceLE, Int.reduceLT, Int.reduceSub, Int.reduceAdd, Nat.reduceEqDiff, Nat.reduceAdd, Nat.reduceLeDiff, Nat.reduceLT, Nat.reduceMul, Nat.reduceSub])
      | (refine rowsV_sl (by simp only [go_sem]; rfl) (by simp only [go_sem]; rfl) (by simp only [go_sem]; try rfl) (by simp) (by omega) (by omega) (by omega) rfl (by simp (disch := first | omega | (simp only [go_sem, ↓reduceIte, Nat.reduceEqDiff]; done) | fail) only [go_sem, ↓reduceIte, Int.reduceToNat, Int.reduceLE, Int.reduceLT, Int.reduceSub, Int.reduceAdd, Nat.reduceEqDiff, Nat.reduceAdd, Nat.reduceLeDiff, Nat.reduceLT, Nat.reduceMul, Nat.reduceSub]; try simp) ?_; try simp (disch := first | omega | (simp only [go_sem, ↓reduceIte, Nat.reduceEqDiff]; done) | fail) only [go_sem, ↓reduceIte, Int.reduceToNat, Int.reduceLE, Int.reduceLT, Int.reduceSub, Int.reduceAdd, Nat.reduceEqDiff, Nat.reduceAdd, Nat.reduceLeDiff, Nat.reduceLT, Nat.reduceMul, Nat.reduceSub])
      | (refine hK _ _ (Wkn.refl ?_); clear hK K)
      | (clear hK K; first | (refine hK _ _ (Wkn.refl ?_); clear hK K) | (clear hK K; refine hK _ _ (Wkn.refl ?_); clear hK K))))
    refine WP_cond (by simp (disch := first | omega | (simp only [go_sem, ↓reduceIte, Nat.reduceEqDiff]; done) | fail) only [go_sem, ↓reduceIte, Int.reduceToNat, Int.reduceLE, Int.reduceLT, Int.reduceSub, Int.reduceAdd, Nat.reduceEqDiff, Nat.reduceAdd, Nat.reduceLeDiff, Nat.reduceLT, Nat.reduceMul, Nat.reduceSub]; rfl) (fun hc => ?_) (fun hc => ?_) <;> (try simp only [Bool.false_or, Bool.or_false, Bool.true_or, Bool.or_true, Bool.false_and, Bool.and_false, Bool.and_true, Bool.true_and, Bool.or_eq_true, Bool.or_eq_false_iff, Bool.and_eq_true, Bool.and_eq_false_iff, Nat.not_lt, Nat.not_le, decide_eq_true_eq, decide_eq_false_iff_not, Bool.not_eq_true', Bool.not_eq_false', beq_iff_eq, bne_iff_ne, ne_eq, beq_eq_false_iff_ne, bne_eq_false_iff_eq, Bool.not_eq_true, Bool.not_eq_false, Int.not_lt, Int.not_le, gt_iff_lt, ge_iff_le, Int.ofNat_lt, Int.ofNat_le, Int.natCast_inj, Int.natCast_inj, Bool.not_not, decide_not, Decidable.not_not] at hc) <;>
      (repeat (first
        | refine WP_seq (fun K hK => ?_)
        | refine WP_block ?_
        | refine WP_scope ?_
        | ((first | refine WP_region ?_ | refine WP_draw 8 (by decide +kernel) ?_ | refine WP_skip ?_ | refine WP_exit ?_ | refine WP_ret ?_); try simp (disch := first | omega | (simp only [go_sem, ↓reduceIte, Nat.reduceEqDiff]; done) | fail) only [go_sem, ↓reduceIte, Int.reduceToNat, Int.reduceLE, Int.reduceLT, Int.reduceSub, Int.reduceAdd, Nat.reduceEqDiff, Nat.reduceAdd, Nat.reduceLeDiff, Nat.reduceLT, Nat.reduceMul, Nat.reduceSub])
        | (refine WP_condK ?_; simp (disch := first | omega | (simp only [go_sem, ↓reduceIte, Nat.reduceEqDiff]; done) | fail) only [go_sem, ↓reduceIte, Int.reduceToNat, Int.reduceLE, Int.reduceLT, Int.reduceSub, Int.reduceAdd, Nat.reduceEqDiff, Nat.reduceAdd, Nat.reduceLeDiff, Nat.reduceLT, Nat.reduceMul, Nat.reduceSub]; refine went ?_)
        | (refine rowsK_sl (by simp only [go_sem]; rfl) (by simp only [go_sem]; rfl) (by simp only [go_sem]; try rfl) (by simp) (by omega) (by omega) (by omega) rfl (by simp (disch := first | omega | (simp only [go_sem, ↓reduceIte, Nat.reduceEqDiff]; done) | fail) only [go_sem, ↓reduceIte, Int.reduceToNat, Int.reduceLE, Int.reduceLT, Int.reduceSub, Int.reduceAdd, Nat.reduceEqDiff, Nat.reduceAdd, Nat.reduceLeDiff, Nat.reduceLT, Nat.reduceMul, Nat.reduceSub]; try simp) ?_; try simp (disch := first | omega | (simp only [go_sem, ↓reduceIte, Nat.reduceEqDiff]; done) | fail) only [go_sem, ↓reduceIte, Int.reduceToNat, Int.reduceLE, Int.reduceLT, Int.reduceSub, Int.reduceAdd, Nat.reduceEqDiff, Nat.reduceAdd, Nat.reduceLeDiff, Nat.reduceLT, Nat.reduceMul, Nat.reduceSub])
        | (refine rowsV_sl (by simp only [go_sem]; rfl) (by simp only [go_sem]; rfl) (by simp only [go_sem]; try rfl) (by simp) (by omega) (by omega) (by omega) rfl (by simp (disch := first | omega | (simp only [go_sem, ↓reduceIte, Nat.reduceEqDiff]; done) | fail) only [go_sem, ↓reduceIte, Int.reduceToNat, Int.reduceLE, Int.reduceLT, Int.reduceSub, Int.reduceAdd, Nat.reduceEqDiff, Nat.reduceAdd, Nat.reduceLeDiff, Nat.reduceLT, Nat.reduceMul, Nat.reduceSub]; try simp) ?_; try simp (disch := first | omega | (simp only [go_sem, ↓reduceIte, Nat.reduceEqDiff]; done) | fail) only [go_sem, ↓reduceIte, Int.reduceToNat, Int.reduceLE, Int.reduceLT, Int.reduceSub, Int.reduceAdd, Nat.reduceEqDiff, Nat.reduceAdd, Nat.reduceLeDiff, Nat.reduceLT, Nat.reduceMul, Nat.reduceSub])
        | (refine hK _ _ (Wkn.refl ?_); clear hK K)
        | (clear hK K; first | (refine hK _ _ (Wkn.refl ?_); clear hK K) | (clear hK K; refine hK _ _ (Wkn.refl ?_); clear hK K))))
    · exact absurd ht hc
    · first | refine (hQ _ _ ?_).1 | refine (hQ _ _ ?_).2
      simp (disch := first | omega | (simp only [go_sem, ↓reduceIte, Nat.reduceEqDiff]; done) | fail) only [go_sem, ↓reduceIte, Int.reduceToNat, Int.reduceLE, Int.reduceLT, Int.reduceSub, Int.reduceAdd, Nat.reduceEqDiff, Nat.reduceAdd, Nat.reduceLeDiff, Nat.reduceLT, Nat.reduceMul, Nat.reduceSub]
      have := end_ [.row 26 4 0 [e.av]] _ rfl
      simp only [List.length_append, List.length_cons, List.length_nil, Nat.zero_add, List.map_append, List.map_cons, List.map_nil, List.append_assoc, List.cons_append, List.nil_append] at this ⊢
      exact this
  · simp only [if_neg ht]
    refine Sat.post (R := fun r h' => r = .tup [] ∧ h' = rawH h X (v + 2) (l ++ [(1, e.name, e.attrs, [])]) 3 [] e.text ++ j) ?_ (by rintro r h' ⟨rfl, rfl⟩; exact ⟨_, fun t => raw_weak _ _ _ _ _ _ _ _ _ _ _, rfl, by simp⟩)
    have end_ := fun (j2 h2 : Heap) hh => raw_fin h j j2 X (v + 2) v (l ++ [(1, e.name, e.attrs, [])]) l 3 [] e.text (h2 := h2) hh
    unfold outH at *
    simp only [List.append_assoc, List.cons_append, List.nil_append] at end_ ⊢
    refine Sat.body [] (fn := Tryz.f63) Tryz.func63 rfl rfl (by kernel_rfl) (by kernel_rfl) (by kernel_rfl) rfl ?_
    intro Q hQ
    (repeat (first
      | refine WP_seq (fun K hK => ?_)
      | refine WP_block ?_
      | refine WP_scope ?_
      | ((first | refine WP_region ?_ | refine WP_draw 8 (by decide +kernel) ?_ | refine WP_skip ?_ | refine WP_exit ?_ | refine WP_ret ?_); try simp (disch := first | omega | (simp only [go_sem, ↓reduceIte, Nat.reduceEqDiff]; done) | fail) only [go_sem, ↓reduceIte, Int.reduceToNat, Int.reduceLE, Int.reduceLT, Int.reduceSub, Int.reduceAdd, Nat.reduceEqDiff, Nat.reduceAdd, Nat.reduceLeDiff, Nat.reduceLT, Nat.reduceMul, Nat.reduceSub])
      | (refine WP_condK ?_; simp (disch := first | omega | (simp only [go_sem, ↓reduceIte, Nat.reduceEqDiff]; done) | fail) only [go_sem, ↓reduceIte, Int.reduceToNat, Int.reduceLE, Int.reduceLT, Int.reduceSub, Int.reduceAdd, Nat.reduceEqDiff, Nat.reduceAdd, Nat.reduceLeDiff, Nat.reduceLT, Nat.reduceMul, Nat.reduceSub]; refine went ?_)
      | (refine rowsK_sl (by simp only [go_sem]; rfl) (by simp only [go_sem]; rfl) (by simp only [go_sem]; try rfl) (by simp) (by omega) (by omega) (by omega) rfl (by simp (disch := first | omega | (simp only [go_sem, ↓reduceIte, Nat.reduceEqDiff]; done) | fail) only [go_sem, ↓reduceIte, Int.reduceToNat, Int.reduceLE, Int.reduceLT, Int.reduceSub, Int.reduceAdd, Nat.reduceEqDiff, Nat.reduceAdd, Nat.reduceLeDiff, Nat.reduceLT, Nat.reduceMul, Nat.reduceSub]; try simp) ?_; try simp (disch := first | omega | (simp only [go_sem, ↓reduceIte, Nat.reduceEqDiff]; done) | fail) only [go_sem, ↓reduceIte, Int.reduceToNat, Int.reduceLE, Int.reduceLT, Int.reduceSub, Int.reduceAdd, Nat.reduceEqDiff, Nat.reduceAdd, Nat.reduceLeDiff, Nat.reduceLT, Nat.reduceMul, Nat.reduceSub])
      | (refine rowsV_sl (by simp only [go_sem]; rfl) (by simp only [go_sem]; rfl) (by simp only [go_sem]; try rfl) (by simp) (by omega) (by omega) (by omega) rfl (by simp (disch := first | omega | (simp only [go_sem, ↓reduceIte, Nat.reduceEqDiff]; done) | fail) only [go_sem, ↓reduceIte, Int.reduceToNat, Int.reduceLE, Int.reduceLT, Int.reduceSub, Int.reduceAdd, Nat.reduceEqDiff, Nat.reduceAdd, Nat.reduceLeDiff, Nat.reduceLT, Nat.reduceMul, Nat.reduceSub]; try simp) ?_; try simp (disch := first | omega | (simp only [go_sem, ↓reduceIte, Nat.reduceEqDiff]; done) | fail) only [go_sem, ↓reduceIte, Int.reduceToNat, Int.reduceLE, Int.reduceLT, Int.reduceSub, Int.reduceAdd, Nat.reduceEqDiff, Nat.reduceAdd, Nat.reduceLeDiff, Nat.reduceLT, Nat.reduceMul, Nat.reduceSub])
      | (refine hK _ _ (Wkn.refl ?_); clear hK K)
      | (clear hK K; first | (refine hK _ _ (Wkn.refl ?_); clear hK K) | (clear hK K; refine hK _ _ (Wkn.refl ?_); clear hK K))))
    refine ⟨_, Clone_sat G e.attrs (by omega) _, ?_⟩
    try simp (disch := first | omega | (simp only [go_sem, ↓reduceIte, Nat.reduceEqDiff]; done) | fail) only [go_sem, ↓reduceIte, Int.reduceToNat, Int.reduceLE, Int.reduceLT, Int.reduceSub, Int.reduceAdd, Nat.reduceEqDiff, Nat.reduceAdd, Nat.reduceLeDiff, Nat.reduceLT, Nat.reduceMul, Nat.reduceSub]
    (repeat (first
      | refine WP_seq (fun K hK => ?_)
      | refine WP_block ?_
      | refine WP_scope ?_
      | ((first | refine WP_region ?_ | refine WP_draw 8 (by decide +kernel) ?_ | refine WP_skip ?_ | refine WP_exit ?_ | refine WP_ret ?_); try simp (disch := first | omega | (simp only [go_sem, ↓reduceIte, Nat.reduceEqDiff]; done) | fail) only [go_sem, ↓reduceIte, Int.reduceToNat, Int.reduceLE, Int.reduceLT, Int.reduceSub, Int.reduceAdd, Nat.reduceEqDiff, Nat.reduceAdd, Nat.reduceLeDiff, Nat.reduceLT, Nat.reduceMul, Nat.reduceSub])
      | (refine WP_condK ?_; simp (disch := first | omega | (simp only [go_sem, ↓reduceIte, Nat.reduceEqDiff]; done) | fail) only [go_sem, ↓reduceIte, Int.reduceToNat, Int.reduceLE, Int.reduceLT, Int.reduceSub, Int.reduceAdd, Nat.reduceEqDiff, Nat.reduceAdd, Nat.reduceLeDiff, Nat.reduceLT, Nat.reduceMul, Nat.reduceSub]; refine went ?_)
      | (refine rowsK_sl (by simp only [go_sem]; rfl) (by simp only [go_sem]; rfl) (by simp only [go_sem]; try rfl) (by simp) (by omega) (by omega) (by omega) rfl (by simp (disch := first | omega | (simp only [go_sem, ↓reduceIte, Nat.reduceEqDiff]; done) | fail) only [go_sem, ↓reduceIte, Int.reduceToNat, Int.reduceLE, Int.reduceLT, Int.reduceSub, Int.reduceAdd, Nat.reduceEqDiff, Nat.reduceAdd, Nat.reduceLeDiff, Nat.reduceLT, Nat.reduceMul, Nat.reduceSub]; try simp) ?_; try simp (disch := first | omega | (simp only [go_sem, ↓reduceIte, Nat.reduceEqDiff]; done) | fail) only [go_sem, ↓reduceIte, Int.reduceToNat, Int.reduceLE, Int.reduceLT, Int.reduceSub, Int.reduceAdd, Nat.reduceEqDiff, Nat.reduceAdd, Nat.reduceLeDiff, Nat.reduceLT, Nat.reduceMul, Nat.reduceSub])
      | (refine rowsV_sl (by simp only [go_sem]; rfl) (by simp only [go_sem]; rfl) (by simp only [go_sem]; try rfl) (by simp) (by omega) (by omega) (by omega) rfl (by simp (disch := first | omega | (simp only [go_sem, ↓reduceIte, Nat.reduceEqDiff]; done) | fail) only [go_sem, ↓reduceIte, Int.reduceToNat, Int.reduceLE, Int.reduceLT, Int.reduceSub, Int.reduceAdd, Nat.reduceEqDiff, Nat.reduceAdd, Nat.reduceLeDiff, Nat.reduceLT, Nat.reduceMul, Nat.reduceSub]; try simp) ?_; try simp (disch := first | omega | (simp only [go_sem, ↓reduceIte, Nat.reduceEqDiff]; done) | fail) only [go_sem, ↓reduceIte, Int.reduceToNat, Int.reduceLE, Int.reduceLT, Int.reduceSub, Int.reduceAdd, Nat.reduceEqDiff, Nat.reduceAdd, Nat.reduceLeDiff, Nat.reduceLT, Nat.reduceMul, Nat.reduceSub])
      | (refine hK _ _ (Wkn.refl ?_); clear hK K)
      | (clear hK K; first | (refine hK _ _ (Wkn.refl ?_); clear hK K) | (clear hK K; refine hK _ _ (Wkn.refl ?_); clear hK K))))
    refine appK_row (by first | exact .inl rfl | (right; simp only [go_sem])) (by simp only [go_sem]; rfl) (by simp only [go_sem]; rfl) (by simp only [go_sem]; rfl) (by simp only [go_sem]; try rfl) (by omega) (by simp only [elemsOf, ↓reduceIte]; rfl) (by simp (disch := first | omega | (simp only [go_sem, ↓reduceIte, Nat.reduceEqDiff]; done) | fail) only [go_sem, ↓reduceIte, Int.reduceToNat, Int.reduceLE, Int.reduceLT, Int.reduceSub, Int.reduceAdd, Nat.reduceEqDiff, Nat.reduceAdd, Nat.reduceLeDiff, Nat.reduceLT, Nat.reduceMul, Nat.reduceSub]; rfl) (by simp) ?_ ?_
    · refine ⟨?_, ?_⟩ <;> simp only [maxLen, List.length_map, List.length_cons, List.length_nil, List.length_append] <;> omega
    try simp (disch := first | omega | (simp only [go_sem, ↓reduceIte, Nat.reduceEqDiff]; done) | fail) only [go_sem, ↓reduceIte, Int.reduceToNat, Int.reduceLE, Int.reduceLT, Int.reduceSub, Int.reduceAdd, Nat.reduceEqDiff, Nat.reduceAdd, Nat.reduceLeDiff, Nat.reduceLT, Nat.reduceMul, Nat.reduceSub]
    (repeat (first
      | refine WP_seq (fun K hK => ?_)
      | refine WP_block ?_
      | refine WP_scope ?_
      | ((first | refine WP_region ?_ | refine WP_draw 8 (by decide +kernel) ?_ | refine WP_skip ?_ | refine WP_exit ?_ | refine WP_ret ?_); try simp (disch := first | omega | (simp only [go_sem, ↓reduceIte, Nat.reduceEqDiff]; done) | fail) only [go_sem, ↓reduceIte, Int.reduceToNat, Int.reduceLE, Int.reduceLT, Int.reduceSub, Int.reduceAdd, Nat.reduceEqDiff, Nat.reduceAdd, Nat.reduceLeDiff, Nat.reduceLT, Nat.reduceMul, Nat.reduceSub])
      | (refine WP_condK ?_; simp (disch := first | omega | (simp only [go_sem, ↓reduceIte, Nat.reduceEqDiff]; done) | fail) only [go_sem, ↓reduceIte, Int.reduceToNat, Int.reduceLE, Int.reduceLT, Int.reduceSub, Int.reduceAdd, Nat.reduceEqDiff, Nat.reduceAdd, Nat.reduceLeDiff, Nat.reduceLT, Nat.reduceMul, Nat.reduceSub]; refine went ?_)
      | (refine rowsK_sl (by simp only [go_sem]; rfl) (by simp only [go_sem]; rfl) (by simp only [go_sem]; try rfl) (by simp) (by omega) (by omega) (by omega) rfl (by simp (disch := first | omega | (simp only [go_sem, ↓reduceIte, Nat.reduceEqDiff]; done) | fail) only [go_sem, ↓reduceIte, Int.reduceToNat, Int.reduceLE, Int.reduceLT, Int.reduceSub, Int.reduceAdd, Nat.reduceEqDiff, Nat.reduceAdd, Nat.reduceLeDiff, Nat.reduceLT, Nat.reduceMul, Nat.reduceSub]; try simp) ?_; try simp (disch := first | omega | (simp only [go_sem, ↓reduceIte, Nat.reduceEqDiff]; done) | fail) only [go_sem, ↓reduceIte, Int.reduceToNat, Int.reduceLE, Int.reduceLT, Int.reduceSub, Int.reduceAdd, Nat.reduceEqDiff, Nat.reduceAdd, Nat.reduceLeDiff, Nat.reduceLT, Nat.reduceMul, Nat.reduceSub])
      | (refine rowsV_sl (by simp only [go_sem]; rfl) (by simp only [go_sem]; rfl) (by simp only [go_sem]; try rfl) (by simp) (by omega) (by omega) (by omega) rfl (by simp (disch := first | omega | (simp only [go_sem, ↓reduceIte, Nat.reduceEqDiff]; done) | fail) only [go_sem, ↓reduceIte, Int.reduceToNat, Int.reduceLE, Int.reduceLT, Int.reduceSub, Int.reduceAdd, Nat.reduceEqDiff, Nat.reduceAdd, Nat.reduceLeDiff, Nat.reduceLT, Nat.reduceMul, Nat.reduceSub]; try simp) ?_; try simp (disch := first | omega | (simp only [go_sem, ↓reduceIte, Nat.reduceEqDiff]; done) | fail) only [go_sem, ↓reduceIte, Int.reduceToNat, Int.reduceLE, Int.reduceLT, Int.reduceSub, Int.reduceAdd, Nat.reduceEqDiff, Nat.reduceAdd, Nat.reduceLeDiff, Nat.reduceLT, Nat.reduceMul, Nat.reduceSub])
      | (refine hK _ _ (Wkn.refl ?_); clear hK K)
      | (clear hK K; first | (refine hK _ _ (Wkn.refl ?_); clear hK K) | (clear hK K; refine hK _ _ (Wkn.refl ?_); clear hK K))))
    refine WP_cond (by simp (disch := first | omega | (simp only [go_sem, ↓reduceIte, Nat.reduceEqDiff]; done) | fail) only [go_sem, ↓reduceIte, Int.reduceToNat, Int.reduceLE, Int.reduceLT, Int.reduceSub, Int.reduceAdd, Nat.reduceEqDiff, Nat.reduceAdd, Nat.reduceLeDiff, Nat.reduceLT, Nat.reduceMul, Nat.reduceSub]; rfl) (fun hc => ?_) (fun hc => ?_) <;> (try simp only [Bool.false_or, Bool.or_false, Bool.true_or, Bool.or_true, Bool.false_and, Bool.and_false, Bool.and_true, Bool.true_and, Bool.or_eq_true, Bool.or_eq_false_iff, Bool.and_eq_true, Bool.and_eq_false_iff, Nat.not_lt, Nat.not_le, decide_eq_true_eq, decide_eq_false_iff_not, Bool.not_eq_true', Bool.not_eq_false', beq_iff_eq, bne_iff_ne, ne_eq, beq_eq_false_iff_ne, bne_eq_false_iff_eq, Bool.not_eq_true, Bool.not_eq_false, Int.not_lt, Int.not_le, gt_iff_lt, ge_iff_le, Int.ofNat_lt, Int.ofNat_le, Int.natCast_inj, Int.natCast_inj, Bool.not_not, decide_not, Decidable.not_not] at hc) <;>
      (repeat (first
        | refine WP_seq (fun K hK => ?_)
        | refine WP_block ?_
        | refine WP_scope ?_
        | ((first | refine WP_region ?_ | refine WP_draw 8 (by decide +kernel) ?_ | refine WP_skip ?_ | refine WP_exit ?_ | refine WP_ret ?_); try simp (disch := first | omega | (simp only [go_sem, ↓reduceIte, Nat.reduceEqDiff]; done) | fail) only [go_sem, ↓reduceIte, Int.reduceToNat, Int.reduceLE, Int.reduceLT, Int.reduceSub, Int.reduceAdd, Nat.reduceEqDiff, Nat.reduceAdd, Nat.reduceLeDiff, Nat.reduceLT, Nat.reduceMul, Nat.reduceSub])
        | (refine WP_condK ?_; simp (disch := first | omega | (simp only [go_sem, ↓reduceIte, Nat.reduceEqDiff]; done) | fail) only [go_sem, ↓reduceIte, Int.reduceToNat, Int.reduceLE, Int.reduceLT, Int.reduceSub, Int.reduceAdd, Nat.reduceEqDiff, Nat.reduceAdd, Nat.reduceLeDiff, Nat.reduceLT, Nat.reduceMul, Nat.reduceSub]; refine went ?_)
        | (refine rowsK_sl (by simp only [go_sem]; rfl) (by simp only [go_sem]; rfl) (by simp only [go_sem]; try rfl) (by simp) (by omega) (by omega) (by omega) rfl (by simp (disch := first | omega | (simp only [go_sem, ↓reduceIte, Nat.reduceEqDiff]; done) | fail) only [go_sem, ↓reduceIte, Int.reduceToNat, Int.reduceLE, Int.reduceLT, Int.reduceSub, Int.reduceAdd, Nat.reduceEqDiff, Nat.reduceAdd, Nat.reduceLeDiff, Nat.reduceLT, Nat.reduceMul, Nat.reduceSub]; try simp) ?_; try simp (disch := first | omega | (simp only [go_sem, ↓reduceIte, Nat.reduceEqDiff]; done) | fail) only [go_sem, ↓reduceIte, Int.reduceToNat, Int.reduceLE, Int.reduceLT, Int.reduceSub, Int.reduceAdd, Nat.reduceEqDiff, Nat.reduceAdd, Nat.reduceLeDiff, Nat.reduceLT, Nat.reduceMul, Nat.reduceSub])
        | (refine rowsV_sl (by simp only [go_sem]; rfl) (by simp only [go_sem]; rfl) (by simp only [go_sem]; try rfl) (by simp) (by omega) (by omega) (by omega) rfl (by simp (disch := first | omega | (simp only [go_sem, ↓reduceIte, Nat.reduceEqDiff]; done) | fail) only [go_sem, ↓reduceIte, Int.reduceToNat, Int.reduceLE, Int.reduceLT, Int.reduceSub, Int.reduceAdd, Nat.reduceEqDiff, Nat.reduceAdd, Nat.reduceLeDiff, Nat.reduceLT, Nat.reduceMul, Nat.reduceSub]; try simp) ?_; try simp (disch := first | omega | (simp only [go_sem, ↓reduceIte, Nat.reduceEqDiff]; done) | fail) only [go_sem, ↓reduceIte, Int.reduceToNat, Int.reduceLE, Int.reduceLT, Int.reduceSub, Int.reduceAdd, Nat.reduceEqDiff, Nat.reduceAdd, Nat.reduceLeDiff, Nat.reduceLT, Nat.reduceMul, Nat.reduceSub])
        | (refine hK _ _ (Wkn.refl ?_); clear hK K)
        | (clear hK K; first | (refine hK _ _ (Wkn.refl ?_); clear hK K) | (clear hK K; refine hK _ _ (Wkn.refl ?_); clear hK K))))
    · refine appK_row (by first | exact .inl rfl | (right; simp only [go_sem])) (by simp only [go_sem]; rfl) (by simp only [go_sem]; rfl) (by simp only [go_sem]; rfl) (by simp only [go_sem]; try rfl) (by omega) (by simp only [elemsOf, ↓reduceIte]; rfl) (by simp (disch := first | omega | (simp only [go_sem, ↓reduceIte, Nat.reduceEqDiff]; done) | fail) only [go_sem, ↓reduceIte, Int.reduceToNat, Int.reduceLE, Int.reduceLT, Int.reduceSub, Int.reduceAdd, Nat.reduceEqDiff, Nat.reduceAdd, Nat.reduceLeDiff, Nat.reduceLT, Nat.reduceMul, Nat.reduceSub]; rfl) (by simp) ?_ ?_
      · refine ⟨?_, ?_⟩ <;> simp only [maxLen, List.length_map, List.length_cons, List.length_nil, List.length_append] <;> omega
      try simp (disch := first | omega | (simp only [go_sem, ↓reduceIte, Nat.reduceEqDiff]; done) | fail) only [go_sem, ↓reduceIte, Int.reduceToNat, Int.reduceLE, Int.reduceLT, Int.reduceSub, Int.reduceAdd, Nat.reduceEqDiff, Nat.reduceAdd, Nat.reduceLeDiff, Nat.reduceLT, Nat.reduceMul, Nat.reduceSub]
      (repeat (first
        | refine WP_seq (fun K hK => ?_)
        | refine WP_block ?_
        | refine WP_scope ?_
        | ((first | refine WP_region ?_ | refine WP_draw 8 (by decide +kernel) ?_ | refine WP_skip ?_ | refine WP_exit ?_ | refine WP_ret ?_); try simp (disch := first | omega | (simp only [go_sem, ↓reduceIte, Nat.reduceEqDiff]; done) | fail) only [go_sem, ↓reduceIte, Int.reduceToNat, Int.reduceLE, Int.reduceLT, Int.reduceSub, Int.reduceAdd, Nat.reduceEqDiff, Nat.reduceAdd, Nat.reduceLeDiff, Nat.reduceLT, Nat.reduceMul, Nat.reduceSub])
        | (refine WP_condK ?_; simp (disch := first | omega | (simp only [go_sem, ↓reduceIte, Nat.reduceEqDiff]; done) | fail) only [go_sem, ↓reduceIte, Int.reduceToNat, Int.reduceLE, Int.reduceLT, Int.reduceSub, Int.reduceAdd, Nat.reduceEqDiff, Nat.reduceAdd, Nat.reduceLeDiff, Nat.reduceLT, Nat.reduceMul, Nat.reduceSub]; refine went ?_)
        | (refine rowsK_sl (by simp only [go_sem]; rfl) (by simp only [go_sem]; rfl) (by simp only [go_sem]; try rfl) (by simp) (by omega) (by omega) (by omega) rfl (by simp (disch := first | omega | (simp only [go_sem, ↓reduceIte, Nat.reduceEqDiff]; done) | fail) only [go_sem, ↓reduceIte, Int.reduceToNat, Int.reduceLE, Int.reduceLT, Int.reduceSub, Int.reduceAdd, Nat.reduceEqDiff, Nat.reduceAdd, Nat.reduceLeDiff, Nat.reduceLT, Nat.reduceMul, Nat.reduceSub]; try simp) ?_; try simp (disch := first | omega | (simp only [go_sem, ↓reduceIte, Nat.reduceEqDiff]; done) | fail) only [go_sem, ↓reduceIte, Int.reduceToNat, Int.reduceLE, Int.reduceLT, Int.reduceSub, Int.reduceAdd, Nat.reduceEqDiff, Nat.reduceAdd, Nat.reduceLeDiff, Nat.reduceLT, Nat.reduceMul, Nat.reduceSub])
        | (refine rowsV_sl (by simp only [go_sem]; rfl) (by simp only [go_sem]; rfl) (by simp only [go_sem]; try rfl) (by simp) (by omega) (by omega) (by omega) rfl (by simp (disch := first | omega | (simp only [go_sem, ↓reduceIte, Nat.reduceEqDiff]; done) | fail) only [go_sem, ↓reduceIte, Int.reduceToNat, Int.reduceLE, Int.reduceLT, Int.reduceSub, Int.reduceAdd, Nat.reduceEqDiff, Nat.reduceAdd, Nat.reduceLeDiff, Nat.reduceLT, Nat.reduceMul, Nat.reduceSub]; try simp) ?_; try simp (disch := first | omega | (simp only [go_sem, ↓reduceIte, Nat.reduceEqDiff]; done) | fail) only [go_sem, ↓reduceIte, Int.reduceToNat, Int.reduceLE, Int.reduceLT, Int.reduceSub, Int.reduceAdd, Nat.reduceEqDiff, Nat.reduceAdd, Nat.reduceLeDiff, Nat.reduceLT, Nat.reduceMul, Nat.reduceSub])
        | (refine hK _ _ (Wkn.refl ?_); clear hK K)
        | (clear hK K; first | (refine hK _ _ (Wkn.refl ?_); clear hK K) | (clear hK K; refine hK _ _ (Wkn.refl ?_); clear hK K))))
      first | refine (hQ _ _ ?_).1 | refine (hQ _ _ ?_).2
      simp (disch := first | omega | (simp only [go_sem, ↓reduceIte, Nat.reduceEqDiff]; done) | fail) only [go_sem, ↓reduceIte, Int.reduceToNat, Int.reduceLE, Int.reduceLT, Int.reduceSub, Int.reduceAdd, Nat.reduceEqDiff, Nat.reduceAdd, Nat.reduceLeDiff, Nat.reduceLT, Nat.reduceMul, Nat.reduceSub]
      exact end_ _ _ (by unfold rawH; simp; exact ⟨rfl, rfl⟩)
    · exact absurd hc ht

/-- A call, where the memory is known otherwise. -/
theorem Sat.pre {C : Ctx} {f : FuncId} {args : List AVal} {h h1 : Heap} {R : AVal → Heap → Prop} (hw : ∀ t, Weak C [] t h t h1) (s : Sat C f args h1 R) : Sat C f args h R := by
  unfold Sat at *
  intro B S μ w vs f0 rl
  obtain ⟨S2, μ2, st2, f2, _⟩ := (hw fun _ => undefA).2 B 0 S μ w { tmps := #[], defers := [] } f0 ⟨rfl, rfl, fun i hi => by omega⟩
  refine (s B S2 μ2 w vs f2 (rl.mono st2)).mono fun v w' ⟨r, h', S', μ', hR, st, f1, hr⟩ => ⟨r, h', S', μ', hR, st2.trans st, f1, hr⟩

def tokA (e : Elem) (s : Nat × List Tok) : Nat × List Tok := (s.1 + (if e.text = [] then 1 else 2), s.2 ++ (1, e.name, e.attrs, []) :: (if e.text = [] then [] else [(3, [], [], e.text)]))
def tokB (e : Elem) (s : Nat × List Tok) : Nat × List Tok := (s.1 + 1, s.2 ++ [(2, e.name, [], [])])
section
mutual
theorem walk_tok : ∀ (e : Elem) (d : Nat) (s : Nat × List Tok), (walkF tokA tokB e d s).2 = s.2 ++ tokT e d
  | .mk nm a t k, d, s => by
    rw [walkF, tokT]; split
    · simp
    · have h1 : ∀ e x, (tokB e x).2 = x.2 ++ [(2, e.name, [], [])] := fun _ _ => rfl
      have h2 : ∀ e x, (tokA e x).2 = x.2 ++ (1, e.name, e.attrs, []) :: (if e.text = [] then [] else [(3, [], [], e.text)]) := fun _ _ => rfl
      rw [h1, walkL_tok, h2]
      simp only [Elem.name, Elem.attrs, Elem.text]
      by_cases ht : t = [] <;> simp [ht]
theorem walkL_tok : ∀ (l : List Elem) (d : Nat) (s : Nat × List Tok), (walkL tokA tokB l d s).2 = s.2 ++ tokL l d
  | [], d, s => by rw [walkL, tokL]; simp
  | e :: l, d, s => by rw [walkL, tokL, walkL_tok, walk_tok]; simp
end
end

theorem PTokens_sat (e : Elem) (hs : e.sz ≤ 1048576) (h : Heap) : Sat (CT G) 27 [e.av] h (fun r h' => r = .sl 4 ((tokT e 1).map Tok.av) ∧ h' = h) := by
  have hw := walk_sat G tokA tokB
    (fun s => outH h (.row 26 4 0 [e.av]) s.1 s.2) (fun s => s.2.length) 63 65 [.hp (h.length + 1) 0 0 0] [.hp (h.length + 1) 0 0 0]
    (fun s t => by simp only [outH_len]) (fun s t p k hk => by rw [outH_len]; exact outH_keep _ _ _ _ _ _ p k hk)
    (fun e st => by simp only [tokA]; split <;> (simp [Elem.own]; omega)) (fun e st => by simp [tokB, Elem.own]; omega)
    (fun e st j h1 h2 => Tokens1_sat G e h1 h j _ _ _ (by omega)) (fun e st j h1 h2 => Tokens2_sat G e h j _ _ _ (by omega)) 32 1 (by omega) (by omega) e (0, []) [] hs (by simp; omega)
  have ht := walk_tok e 1 (0, [])
  generalize walkF tokA tokB e 1 (0, []) = x at hw ht
  obtain ⟨v, l⟩ := x
  simp only [List.nil_append] at ht
  subst ht
  simp only [List.append_nil, outH, List.length_nil, List.map_nil] at hw
  refine Sat.body [.tmp 2] (fn := Tryz.f27) Tryz.func27 rfl rfl (by kernel_rfl) (by kernel_rfl) (by kernel_rfl) rfl ?_
  intro Q hQ
  (repeat (first
    | refine WP_seq (fun K hK => ?_)
    | refine WP_block ?_
    | refine WP_scope ?_
    | ((first | refine WP_region ?_ | refine WP_skip ?_ | refine WP_exit ?_ | refine WP_ret ?_); try simp (disch := first | omega | (simp only [go_sem, ↓reduceIte, Nat.reduceEqDiff]; done) | fail) only [go_sem, ↓reduceIte, Int.reduceToNat, Int.reduceLE, Int.reduceLT, Int.reduceSub, Int.reduceAdd, Nat.reduceEqDiff, Nat.reduceAdd, Nat.reduceLeDiff, Nat.reduceLT, Nat.reduceMul, Nat.reduceSub])
    | (refine WP_condK ?_; simp (disch := first | omega | (simp only [go_sem, ↓reduceIte, Nat.reduceEqDiff]; done) | fail) only [go_sem, ↓reduceIte, Int.reduceToNat, Int.reduceLE, Int.reduceLT, Int.reduceSub, Int.reduceAdd, Nat.reduceEqDiff, Nat.reduceAdd, Nat.reduceLeDiff, Nat.reduceLT, Nat.reduceMul, Nat.reduceSub]; refine went ?_)
    | (refine hK _ _ (Wkn.refl ?_); clear hK K)
    | (clear hK K; first | (refine hK _ _ (Wkn.refl ?_); clear hK K) | (clear hK K; refine hK _ _ (Wkn.refl ?_); clear hK K))))
  refine Sat.pre (fun t => Weak.virtCell1 (p := h.length + 1) (v := 0) 83 4 (by omega) (by simp (disch := first | omega | (simp only [go_sem, ↓reduceIte, Nat.reduceEqDiff]; done) | fail) only [go_sem, ↓reduceIte, Int.reduceToNat, Int.reduceLE, Int.reduceLT, Int.reduceSub, Int.reduceAdd, Nat.reduceEqDiff, Nat.reduceAdd, Nat.reduceLeDiff, Nat.reduceLT, Nat.reduceMul, Nat.reduceSub]; rfl)) ?_
  try simp (disch := first | omega | (simp only [go_sem, ↓reduceIte, Nat.reduceEqDiff]; done) | fail) only [go_sem, ↓reduceIte, Int.reduceToNat, Int.reduceLE, Int.reduceLT, Int.reduceSub, Int.reduceAdd, Nat.reduceEqDiff, Nat.reduceAdd, Nat.reduceLeDiff, Nat.reduceLT, Nat.reduceMul, Nat.reduceSub]
  refine (hw).mono ?_
  rintro r h' ⟨rfl, rfl⟩
  try simp (disch := first | omega | (simp only [go_sem, ↓reduceIte, Nat.reduceEqDiff]; done) | fail) only [go_sem, ↓reduceIte, Int.reduceToNat, Int.reduceLE, Int.reduceLT, Int.reduceSub, Int.reduceAdd, Nat.reduceEqDiff, Nat.reduceAdd, Nat.reduceLeDiff, Nat.reduceLT, Nat.reduceMul, Nat.reduceSub]
  (repeat (first
    | refine WP_seq (fun K hK => ?_)
    | refine WP_block ?_
    | refine WP_scope ?_
    | ((first | refine WP_region ?_ | refine WP_skip ?_ | refine WP_exit ?_ | refine WP_ret ?_); try simp (disch := first | omega | (simp only [go_sem, ↓reduceIte, Nat.reduceEqDiff]; done) | fail) only [go_sem, ↓reduceIte, Int.reduceToNat, Int.reduceLE, Int.reduceLT, Int.reduceSub, Int.reduceAdd, Nat.reduceEqDiff, Nat.reduceAdd, Nat.reduceLeDiff, Nat.reduceLT, Nat.reduceMul, Nat.reduceSub])
    | (refine WP_condK ?_; simp (disch := first | omega | (simp only [go_sem, ↓reduceIte, Nat.reduceEqDiff]; done) | fail) only [go_sem, ↓reduceIte, Int.reduceToNat, Int.reduceLE, Int.reduceLT, Int.reduceSub, Int.reduceAdd, Nat.reduceEqDiff, Nat.reduceAdd, Nat.reduceLeDiff, Nat.reduceLT, Nat.reduceMul, Nat.reduceSub]; refine went ?_)
    | (refine hK _ _ (Wkn.refl ?_); clear hK K)
    | (clear hK K; first | (refine hK _ _ (Wkn.refl ?_); clear hK K) | (clear hK K; refine hK _ _ (Wkn.refl ?_); clear hK K))))
  first | refine (hQ _ _ ?_).1 | refine (hQ _ _ ?_).2
  simp (disch := first | omega | (simp only [go_sem, ↓reduceIte, Nat.reduceEqDiff]; done) | fail) only [go_sem, ↓reduceIte, Int.reduceToNat, Int.reduceLE, Int.reduceLT, Int.reduceSub, Int.reduceAdd, Nat.reduceEqDiff, Nat.reduceAdd, Nat.reduceLeDiff, Nat.reduceLT, Nat.reduceMul, Nat.reduceSub]
  exact Fin.frz (frz_toks (pre := h ++ [.row 26 4 0 [e.av], .row 42 1 0 [.hs (h.length + 2) v 0 (tokT e 1).length true]]) (post := []) _ (by simp; rfl) (by simp) (by omega)) ⟨rfl, rfl⟩

theorem All1_sat (e : Elem) (hs : e.sz ≤ 1048576) (a : AVal) (h j : Heap) (v : Nat) (s : Bs) (ha : bldA a h.length) (hl : s.length ≤ 8388608) : Sat (CT G) 54 [e.av, .hp h.length 0 0 0] (bldH h j a v s)
    (fun r h' => r = .tup [] ∧ h' = bldH h j (.hp h.length 0 0 0) (v + 1) (s ++ e.text)) := by
  have htl := e.text_len
  have happ : ∀ l, bldH h j a v s ++ l = bldH h (j ++ l) a v s := fun l => by simp [bldH]
  have hw := WriteString_sat G a h (j ++ [.row 26 4 0 [e.av]]) v s e.text ha (by omega)
  have hlen := bldH_len h j a v s
  rw [← happ] at hw
  refine Sat.body [] (fn := Tryz.f54) Tryz.func54 rfl rfl (by kernel_rfl) (by kernel_rfl) (by kernel_rfl) rfl ?_
  intro Q hQ
  (repeat (first
    | refine WP_seq (fun K hK => ?_)
    | refine WP_block ?_
    | refine WP_scope ?_
    | ((first | refine WP_region ?_ | refine WP_skip ?_ | refine WP_exit ?_ | refine WP_ret ?_); try simp (disch := first | omega | (simp only [go_sem, ↓reduceIte, Nat.reduceEqDiff]; done) | fail) only [go_sem, ↓reduceIte, Int.reduceToNat, Int.reduceLE, Int.reduceLT, Int.reduceSub, Int.reduceAdd, Nat.reduceEqDiff, Nat.reduceAdd, Nat.reduceLeDiff, Nat.reduceLT, Nat.reduceMul, Nat.reduceSub])
    | (refine WP_condK ?_; simp (disch := first | omega | (simp only [go_sem, ↓reduceIte, Nat.reduceEqDiff]; done) | fail) only [go_sem, ↓reduceIte, Int.reduceToNat, Int.reduceLE, Int.reduceLT, Int.reduceSub, Int.reduceAdd, Nat.reduceEqDiff, Nat.reduceAdd, Nat.reduceLeDiff, Nat.reduceLT, Nat.reduceMul, Nat.reduceSub]; refine went ?_)
    | (refine hK _ _ (Wkn.refl ?_); clear hK K)
    | (clear hK K; first | (refine hK _ _ (Wkn.refl ?_); clear hK K) | (clear hK K; refine hK _ _ (Wkn.refl ?_); clear hK K))))
  refine (hw).mono ?_
  rintro r h' ⟨rfl, rfl⟩
  try simp (disch := first | omega | (simp only [go_sem, ↓reduceIte, Nat.reduceEqDiff]; done) | fail) only [go_sem, ↓reduceIte, Int.reduceToNat, Int.reduceLE, Int.reduceLT, Int.reduceSub, Int.reduceAdd, Nat.reduceEqDiff, Nat.reduceAdd, Nat.reduceLeDiff, Nat.reduceLT, Nat.reduceMul, Nat.reduceSub]
  (repeat (first
    | refine WP_seq (fun K hK => ?_)
    | refine WP_block ?_
    | refine WP_scope ?_
    | ((first | refine WP_region ?_ | refine WP_skip ?_ | refine WP_exit ?_ | refine WP_ret ?_); try simp (disch := first | omega | (simp only [go_sem, ↓reduceIte, Nat.reduceEqDiff]; done) | fail) only [go_sem, ↓reduceIte, Int.reduceToNat, Int.reduceLE, Int.reduceLT, Int.reduceSub, Int.reduceAdd, Nat.reduceEqDiff, Nat.reduceAdd, Nat.reduceLeDiff, Nat.reduceLT, Nat.reduceMul, Nat.reduceSub])
    | (refine WP_condK ?_; simp (disch := first | omega | (simp only [go_sem, ↓reduceIte, Nat.reduceEqDiff]; done) | fail) only [go_sem, ↓reduceIte, Int.reduceToNat, Int.reduceLE, Int.reduceLT, Int.reduceSub, Int.reduceAdd, Nat.reduceEqDiff, Nat.reduceAdd, Nat.reduceLeDiff, Nat.reduceLT, Nat.reduceMul, Nat.reduceSub]; refine went ?_)
    | (refine hK _ _ (Wkn.refl ?_); clear hK K)
    | (clear hK K; first | (refine hK _ _ (Wkn.refl ?_); clear hK K) | (clear hK K; refine hK _ _ (Wkn.refl ?_); clear hK K))))
  first | refine (hQ _ _ ?_).1 | refine (hQ _ _ ?_).2
  simp (disch := first | omega | (simp only [go_sem, ↓reduceIte, Nat.reduceEqDiff]; done) | fail) only [go_sem, ↓reduceIte, Int.reduceToNat, Int.reduceLE, Int.reduceLT, Int.reduceSub, Int.reduceAdd, Nat.reduceEqDiff, Nat.reduceAdd, Nat.reduceLeDiff, Nat.reduceLT, Nat.reduceMul, Nat.reduceSub]
  exact Fin.keepE (h1 := bldH h j (.hp h.length 0 0 0) (v + 1) (s ++ e.text)) (j := [.row 26 4 0 [e.av]]) (by simp [bldH]) (by rw [bldH_len, bldH_len]) (bldH_keep _ _ _ _ _ _ _) (.tup _ (by simp)) ⟨rfl, rfl⟩
end Go.Av
