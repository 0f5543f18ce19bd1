/- The program's looks at elements: attributes; whether two are the same. -/
import Derived.Test.YtnchpoppgdbapaaGreatDoorGhGa
set_option linter.unusedSimpArgs false
set_option linter.unusedVariables false
namespace Go.Av
open Go Go.Proofs Go.RowKit
attribute [local irreducible] WP WPl WPix Sat
set_option maxRecDepth 100000
set_option maxHeartbeats 1000000

variable (G : Nat → Option (List AVal))

theorem Attr1_sat (a : At) (n : Bs) (h j : Heap) (X : Blk) : Sat (CT G) 51 [a.av, .hp (h.length + 1) 0 0 0] (h ++ X :: .row 9 1 0 [.str n] :: j) (fun r h' => r = .bool (decide (a.1 = n)) ∧ h' = h ++ X :: .row 9 1 0 [.str n] :: j) := by
  refine Sat.body [.tmp 3] (fn := Tryz.f51) Tryz.func51 rfl rfl (by kernel_rfl) (by kernel_rfl) (by kernel_rfl) rfl ?_
  intro Q hQ
  (repeat (first
    | refine WP_seq (fun K hK => ?_)
    | refine WP_block ?_
    | refine WP_scope ?_
    | ((first | refine WP_region ?_ | refine WP_skip ?_ | refine WP_exit ?_ | refine WP_ret ?_); try simp (disch := first | omega | (simp only [go_sem, ↓reduceIte, Nat.reduceEqDiff]; done) | fail) only [go_sem, ↓reduceIte, Int.reduceToNat, Int.reduceLE, Int.reduceLT, Int.reduceSub, Int.reduceAdd, Nat.reduceEqDiff, Nat.reduceAdd, Nat.reduceLeDiff, Nat.reduceLT, Nat.reduceMul, Nat.reduceSub])
    | (refine WP_condK ?_; simp (disch := first | omega | (simp only [go_sem, ↓reduceIte, Nat.reduceEqDiff]; done) | fail) only [go_sem, ↓reduceIte, Int.reduceToNat, Int.reduceLE, Int.reduceLT, Int.reduceSub, Int.reduceAdd, Nat.reduceEqDiff, Nat.reduceAdd, Nat.reduceLeDiff, Nat.reduceLT, Nat.reduceMul, Nat.reduceSub]; refine went ?_)
    | (refine hK _ _ (Wkn.refl ?_); clear hK K)
    | (clear hK K; first | (refine hK _ _ (Wkn.refl ?_); clear hK K) | (clear hK K; refine hK _ _ (Wkn.refl ?_); clear hK K))))
  first | refine (hQ _ _ ?_).1 | refine (hQ _ _ ?_).2
  simp (disch := first | omega | (simp only [go_sem, ↓reduceIte, Nat.reduceEqDiff]; done) | fail) only [go_sem, ↓reduceIte, Int.reduceToNat, Int.reduceLE, Int.reduceLT, Int.reduceSub, Int.reduceAdd, Nat.reduceEqDiff, Nat.reduceAdd, Nat.reduceLeDiff, Nat.reduceLT, Nat.reduceMul, Nat.reduceSub]
  first | refine Fin.same (.bool _) ⟨?_, rfl⟩ | refine Fin.plain (.bool _) ⟨?_, rfl⟩ | refine Fin.plainE (by simp only [List.append_assoc, List.cons_append, List.nil_append]; rfl) (.bool _) ⟨?_, rfl⟩
  congr 1; rw [Bool.eq_iff_iff]; simp

theorem idxF_ge {α : Type} (p : α → Bool) : ∀ (l : List α) (k : Nat), idxF p l k = -1 ∨ (k : Int) ≤ idxF p l k
  | [], k => .inl rfl
  | a :: l, k => by
    have := idxF_ge p l (k + 1)
    rw [idxF]; split
    · exact .inr (Int.le_refl _)
    · omega
theorem attrF_idx (n : Bs) : ∀ (l : List At) (k : Nat), (idxF (fun a => decide (a.1 = n)) l k < 0 → attrF l n = ([], false)) ∧ (∀ i : Nat, idxF (fun a => decide (a.1 = n)) l k = ((k + i : Nat) : Int) → ∃ a, l[i]? = some a ∧ attrF l n = (a.2, true))
  | [], k => by refine ⟨fun _ => rfl, fun i hi => ?_⟩; simp only [idxF] at hi; omega
  | a :: l, k => by
    obtain ⟨h1, h2⟩ := attrF_idx n l (k + 1)
    have hg := idxF_ge (fun a : At => decide (a.1 = n)) l (k + 1)
    by_cases hc : a.1 = n
    · simp only [idxF, hc, decide_true, if_true, attrF]
      refine ⟨fun h => by omega, fun i hi => ?_⟩
      have : i = 0 := by omega
      subst this; exact ⟨a, rfl, rfl⟩
    · simp only [idxF, hc, decide_false, Bool.false_eq_true, if_false, attrF]
      refine ⟨h1, fun i hi => ?_⟩
      cases i with
      | zero => omega
      | succ i =>
        obtain ⟨b, hb, hr⟩ := h2 i (by rw [hi]; congr 1; omega)
        exact ⟨b, by simpa using hb, hr⟩

theorem PAttr_sat (e : Elem) (n : Bs) (hs : e.sz ≤ 1048576) (h : Heap) : Sat (CT G) 16 [e.av, .str n] h (fun r h' => r = .tup [.str (attrF e.attrs n).1, .bool (attrF e.attrs n).2] ∧ h' = h) := by
  have hal := e.attrs_len
  have hb := idxF_bd (fun a : At => decide (a.1 = n)) e.attrs 0
  obtain ⟨f1, f2⟩ := attrF_idx n e.attrs 0
  have hi := IndexFunc_sat G (fun a => decide (a.1 = n)) 51 [.hp (h.length + 1) 0 0 0] e.attrs (by omega) (h ++ [.row 26 4 0 [e.av], .row 9 1 0 [.str n]]) (fun a j => by simpa using Attr1_sat G a n h j _)
  generalize idxF (fun a : At => decide (a.1 = n)) e.attrs 0 = x at hb f1 f2 hi
  refine Sat.body [.tmp 4, .tmp 5] (fn := Tryz.f16) Tryz.func16 rfl rfl (by kernel_rfl) (by kernel_rfl) (by kernel_rfl) rfl ?_
  intro Q hQ
  (repeat (first
    | refine WP_seq (fun K hK => ?_)
    | refine WP_block ?_
    | refine WP_scope ?_
    | ((first | refine WP_region ?_ | refine WP_skip ?_ | refine WP_exit ?_ | refine WP_ret ?_); try simp (disch := first | omega | (simp only [go_sem, ↓reduceIte, Nat.reduceEqDiff]; done) | fail) only [go_sem, ↓reduceIte, Int.reduceToNat, Int.reduceLE, Int.reduceLT, Int.reduceSub, Int.reduceAdd, Nat.reduceEqDiff, Nat.reduceAdd, Nat.reduceLeDiff, Nat.reduceLT, Nat.reduceMul, Nat.reduceSub])
    | (refine WP_condK ?_; simp (disch := first | omega | (simp only [go_sem, ↓reduceIte, Nat.reduceEqDiff]; done) | fail) only [go_sem, ↓reduceIte, Int.reduceToNat, Int.reduceLE, Int.reduceLT, Int.reduceSub, Int.reduceAdd, Nat.reduceEqDiff, Nat.reduceAdd, Nat.reduceLeDiff, Nat.reduceLT, Nat.reduceMul, Nat.reduceSub]; refine went ?_)
    | (refine hK _ _ (Wkn.refl ?_); clear hK K)
    | (clear hK K; first | (refine hK _ _ (Wkn.refl ?_); clear hK K) | (clear hK K; refine hK _ _ (Wkn.refl ?_); clear hK K))))
  refine (hi).mono ?_
  rintro r h' ⟨rfl, rfl⟩
  try simp (disch := first | omega | (simp only [go_sem, ↓reduceIte, Nat.reduceEqDiff]; done) | fail) only [go_sem, ↓reduceIte, Int.reduceToNat, Int.reduceLE, Int.reduceLT, Int.reduceSub, Int.reduceAdd, Nat.reduceEqDiff, Nat.reduceAdd, Nat.reduceLeDiff, Nat.reduceLT, Nat.reduceMul, Nat.reduceSub]
  (repeat (first
    | refine WP_seq (fun K hK => ?_)
    | refine WP_block ?_
    | refine WP_scope ?_
    | ((first | refine WP_region ?_ | refine WP_skip ?_ | refine WP_exit ?_ | refine WP_ret ?_); try simp (disch := first | omega | (simp only [go_sem, ↓reduceIte, Nat.reduceEqDiff]; done) | fail) only [go_sem, ↓reduceIte, Int.reduceToNat, Int.reduceLE, Int.reduceLT, Int.reduceSub, Int.reduceAdd, Nat.reduceEqDiff, Nat.reduceAdd, Nat.reduceLeDiff, Nat.reduceLT, Nat.reduceMul, Nat.reduceSub])
    | (refine WP_condK ?_; simp (disch := first | omega | (simp only [go_sem, ↓reduceIte, Nat.reduceEqDiff]; done) | fail) only [go_sem, ↓reduceIte, Int.reduceToNat, Int.reduceLE, Int.reduceLT, Int.reduceSub, Int.reduceAdd, Nat.reduceEqDiff, Nat.reduceAdd, Nat.reduceLeDiff, Nat.reduceLT, Nat.reduceMul, Nat.reduceSub]; refine went ?_)
    | (refine hK _ _ (Wkn.refl ?_); clear hK K)
    | (clear hK K; first | (refine hK _ _ (Wkn.refl ?_); clear hK K) | (clear hK K; refine hK _ _ (Wkn.refl ?_); clear hK K))))
  refine WP_cond (by simp (disch := first | omega | (simp only [go_sem, ↓reduceIte, Nat.reduceEqDiff]; done) | fail) only [go_sem, ↓reduceIte, Int.reduceToNat, Int.reduceLE, Int.reduceLT, Int.reduceSub, Int.reduceAdd, Nat.reduceEqDiff, Nat.reduceAdd, Nat.reduceLeDiff, Nat.reduceLT, Nat.reduceMul, Nat.reduceSub]; rfl) (fun hc => ?_) (fun hc => ?_) <;> (try simp only [Bool.false_or, Bool.or_false, Bool.true_or, Bool.or_true, Bool.false_and, Bool.and_false, Bool.and_true, Bool.true_and, Bool.or_eq_true, Bool.or_eq_false_iff, Bool.and_eq_true, Bool.and_eq_false_iff, Nat.not_lt, Nat.not_le, decide_eq_true_eq, decide_eq_false_iff_not, Bool.not_eq_true', Bool.not_eq_false', beq_iff_eq, bne_iff_ne, ne_eq, beq_eq_false_iff_ne, bne_eq_false_iff_eq, Bool.not_eq_true, Bool.not_eq_false, Int.not_lt, Int.not_le, gt_iff_lt, ge_iff_le, Int.ofNat_lt, Int.ofNat_le, Int.natCast_inj, Int.natCast_inj, Bool.not_not, decide_not, Decidable.not_not] at hc)
  · (repeat (first
      | refine WP_seq (fun K hK => ?_)
      | refine WP_block ?_
      | refine WP_scope ?_
      | ((first | refine WP_region ?_ | refine WP_skip ?_ | refine WP_exit ?_ | refine WP_ret ?_); try simp (disch := first | omega | (simp only [go_sem, ↓reduceIte, Nat.reduceEqDiff]; done) | fail) only [go_sem, ↓reduceIte, Int.reduceToNat, Int.reduceLE, Int.reduceLT, Int.reduceSub, Int.reduceAdd, Nat.reduceEqDiff, Nat.reduceAdd, Nat.reduceLeDiff, Nat.reduceLT, Nat.reduceMul, Nat.reduceSub])
      | (refine WP_condK ?_; simp (disch := first | omega | (simp only [go_sem, ↓reduceIte, Nat.reduceEqDiff]; done) | fail) only [go_sem, ↓reduceIte, Int.reduceToNat, Int.reduceLE, Int.reduceLT, Int.reduceSub, Int.reduceAdd, Nat.reduceEqDiff, Nat.reduceAdd, Nat.reduceLeDiff, Nat.reduceLT, Nat.reduceMul, Nat.reduceSub]; refine went ?_)
      | (refine hK _ _ (Wkn.refl ?_); clear hK K)
      | (clear hK K; first | (refine hK _ _ (Wkn.refl ?_); clear hK K) | (clear hK K; refine hK _ _ (Wkn.refl ?_); clear hK K))))
    first | refine (hQ _ _ ?_).1 | refine (hQ _ _ ?_).2
    simp (disch := first | omega | (simp only [go_sem, ↓reduceIte, Nat.reduceEqDiff]; done) | fail) only [go_sem, ↓reduceIte, Int.reduceToNat, Int.reduceLE, Int.reduceLT, Int.reduceSub, Int.reduceAdd, Nat.reduceEqDiff, Nat.reduceAdd, Nat.reduceLeDiff, Nat.reduceLT, Nat.reduceMul, Nat.reduceSub]
    first | refine Fin.same (.tup _ (by simp [Clo.str, Clo.bool])) ⟨?_, rfl⟩ | refine Fin.plain (.tup _ (by simp [Clo.str, Clo.bool])) ⟨?_, rfl⟩ | refine Fin.plainE (by simp only [List.append_assoc, List.cons_append, List.nil_append]; rfl) (.tup _ (by simp [Clo.str, Clo.bool])) ⟨?_, rfl⟩
    rw [f1 hc]
  · obtain ⟨i, rfl⟩ : ∃ i : Nat, x = (i : Int) := ⟨x.toNat, by omega⟩
    obtain ⟨a, ha, hr⟩ := f2 i (by simp)
    skip
    (repeat (first
      | refine WP_seq (fun K hK => ?_)
      | refine WP_block ?_
      | refine WP_scope ?_
      | ((first | refine WP_region ?_ | refine WP_skip ?_ | refine WP_exit ?_ | refine WP_ret ?_); try simp (disch := first | omega | (simp only [go_sem, ↓reduceIte, Nat.reduceEqDiff]; done) | fail) only [go_sem, ↓reduceIte, Int.reduceToNat, Int.reduceLE, Int.reduceLT, Int.reduceSub, Int.reduceAdd, Nat.reduceEqDiff, Nat.reduceAdd, Nat.reduceLeDiff, Nat.reduceLT, Nat.reduceMul, Nat.reduceSub, ha])
      | (refine WP_condK ?_; simp (disch := first | omega | (simp only [go_sem, ↓reduceIte, Nat.reduceEqDiff]; done) | fail) only [go_sem, ↓reduceIte, Int.reduceToNat, Int.reduceLE, Int.reduceLT, Int.reduceSub, Int.reduceAdd, Nat.reduceEqDiff, Nat.reduceAdd, Nat.reduceLeDiff, Nat.reduceLT, Nat.reduceMul, Nat.reduceSub, ha]; refine went ?_)
      | (refine hK _ _ (Wkn.refl ?_); clear hK K)
      | (clear hK K; first | (refine hK _ _ (Wkn.refl ?_); clear hK K) | (clear hK K; refine hK _ _ (Wkn.refl ?_); clear hK K))))
    first | refine (hQ _ _ ?_).1 | refine (hQ _ _ ?_).2
    simp (disch := first | omega | (simp only [go_sem, ↓reduceIte, Nat.reduceEqDiff]; done) | fail) only [go_sem, ↓reduceIte, Int.reduceToNat, Int.reduceLE, Int.reduceLT, Int.reduceSub, Int.reduceAdd, Nat.reduceEqDiff, Nat.reduceAdd, Nat.reduceLeDiff, Nat.reduceLT, Nat.reduceMul, Nat.reduceSub, ha]
    first | refine Fin.same (.tup _ (by simp [Clo.str, Clo.bool])) ⟨?_, rfl⟩ | refine Fin.plain (.tup _ (by simp [Clo.str, Clo.bool])) ⟨?_, rfl⟩ | refine Fin.plainE (by simp only [List.append_assoc, List.cons_append, List.nil_append]; rfl) (.tup _ (by simp [Clo.str, Clo.bool])) ⟨?_, rfl⟩
    rw [hr]

theorem EqualAttrs_sat (a b : List At) (ha : a.length ≤ 1048576) (hb : b.length ≤ 1048576) (h : Heap) : Sat (CT G) 86 [.sl 2 (a.map At.av), .sl 2 (b.map At.av)] h (fun r h' => r = .bool (decide (a = b)) ∧ h' = h) := by
  refine Sat.body [.tmp 4] (fn := Tryz.f86) Tryz.func86 rfl rfl (by kernel_rfl) (by kernel_rfl) (by kernel_rfl) rfl ?_
  intro Q hQ
  (repeat (first
    | refine WP_seq (fun K hK => ?_)
    | refine WP_block ?_
    | refine WP_scope ?_
    | ((first | refine WP_region ?_ | refine WP_draw 9 (by decide +kernel) ?_ | refine WP_skip ?_ | refine WP_exit ?_ | refine WP_ret ?_); try simp (disch := first | omega | (simp only [go_sem, ↓reduceIte, Nat.reduceEqDiff]; done) | fail) only [go_sem, ↓reduceIte, Int.reduceToNat, Int.reduceLE, Int.reduceLT, Int.reduceSub, Int.reduceAdd, Nat.reduceEqDiff, Nat.reduceAdd, Nat.reduceLeDiff, Nat.reduceLT, Nat.reduceMul, Nat.reduceSub])
    | (refine WP_condK ?_; simp (disch := first | omega | (simp only [go_sem, ↓reduceIte, Nat.reduceEqDiff]; done) | fail) only [go_sem, ↓reduceIte, Int.reduceToNat, Int.reduceLE, Int.reduceLT, Int.reduceSub, Int.reduceAdd, Nat.reduceEqDiff, Nat.reduceAdd, Nat.reduceLeDiff, Nat.reduceLT, Nat.reduceMul, Nat.reduceSub]; refine went ?_)
    | (refine hK _ _ (Wkn.refl ?_); clear hK K)
    | (clear hK K; first | (refine hK _ _ (Wkn.refl ?_); clear hK K) | (clear hK K; refine hK _ _ (Wkn.refl ?_); clear hK K))))
  refine WP_cond (by simp (disch := first | omega | (simp only [go_sem, ↓reduceIte, Nat.reduceEqDiff]; done) | fail) only [go_sem, ↓reduceIte, Int.reduceToNat, Int.reduceLE, Int.reduceLT, Int.reduceSub, Int.reduceAdd, Nat.reduceEqDiff, Nat.reduceAdd, Nat.reduceLeDiff, Nat.reduceLT, Nat.reduceMul, Nat.reduceSub]; rfl) (fun hc => ?_) (fun hc => ?_) <;> (try simp only [Bool.false_or, Bool.or_false, Bool.true_or, Bool.or_true, Bool.false_and, Bool.and_false, Bool.and_true, Bool.true_and, Bool.or_eq_true, Bool.or_eq_false_iff, Bool.and_eq_true, Bool.and_eq_false_iff, Nat.not_lt, Nat.not_le, decide_eq_true_eq, decide_eq_false_iff_not, Bool.not_eq_true', Bool.not_eq_false', beq_iff_eq, bne_iff_ne, ne_eq, beq_eq_false_iff_ne, bne_eq_false_iff_eq, Bool.not_eq_true, Bool.not_eq_false, Int.not_lt, Int.not_le, gt_iff_lt, ge_iff_le, Int.ofNat_lt, Int.ofNat_le, Int.natCast_inj, Int.natCast_inj, Bool.not_not, decide_not, Decidable.not_not] at hc) <;>
    (repeat (first
      | refine WP_seq (fun K hK => ?_)
      | refine WP_block ?_
      | refine WP_scope ?_
      | ((first | refine WP_region ?_ | refine WP_draw 9 (by decide +kernel) ?_ | refine WP_skip ?_ | refine WP_exit ?_ | refine WP_ret ?_); try simp (disch := first | omega | (simp only [go_sem, ↓reduceIte, Nat.reduceEqDiff]; done) | fail) only [go_sem, ↓reduceIte, Int.reduceToNat, Int.reduceLE, Int.reduceLT, Int.reduceSub, Int.reduceAdd, Nat.reduceEqDiff, Nat.reduceAdd, Nat.reduceLeDiff, Nat.reduceLT, Nat.reduceMul, Nat.reduceSub])
      | (refine WP_condK ?_; simp (disch := first | omega | (simp only [go_sem, ↓reduceIte, Nat.reduceEqDiff]; done) | fail) only [go_sem, ↓reduceIte, Int.reduceToNat, Int.reduceLE, Int.reduceLT, Int.reduceSub, Int.reduceAdd, Nat.reduceEqDiff, Nat.reduceAdd, Nat.reduceLeDiff, Nat.reduceLT, Nat.reduceMul, Nat.reduceSub]; refine went ?_)
      | (refine hK _ _ (Wkn.refl ?_); clear hK K)
      | (clear hK K; first | (refine hK _ _ (Wkn.refl ?_); clear hK K) | (clear hK K; refine hK _ _ (Wkn.refl ?_); clear hK K))))
  · first | refine (hQ _ _ ?_).1 | refine (hQ _ _ ?_).2
    simp (disch := first | omega | (simp only [go_sem, ↓reduceIte, Nat.reduceEqDiff]; done) | fail) only [go_sem, ↓reduceIte, Int.reduceToNat, Int.reduceLE, Int.reduceLT, Int.reduceSub, Int.reduceAdd, Nat.reduceEqDiff, Nat.reduceAdd, Nat.reduceLeDiff, Nat.reduceLT, Nat.reduceMul, Nat.reduceSub]
    first | refine Fin.same (.bool _) ⟨?_, rfl⟩ | refine Fin.plain (.bool _) ⟨?_, rfl⟩ | refine Fin.plainE (by simp only [List.append_assoc, List.cons_append, List.nil_append]; rfl) (.bool _) ⟨?_, rfl⟩
    have : a ≠ b := by rintro rfl; exact hc rfl
    simp [this]
  have hl : a.length = b.length := by omega
  refine WP_loopm (by simp only [go_sem, List.nil_append, List.cons_append]; rfl) (fun nL tL hL => ∃ (k : Nat), a.length - k = nL ∧ h = hL ∧ tL 13 = .int .i64 k ∧ k ≤ a.length ∧ a.take k = b.take k) ((fun (k : Nat) => (a.length - k : Nat)) (0)) ?_ ?_
  · refine Wkn.refl ⟨0, rfl, (by first | rfl | (simp; done) | (simp; rfl)), ?_, ?_, ?_⟩
    all_goals first | (simp (disch := first | omega | (simp only [go_sem, ↓reduceIte, Nat.reduceEqDiff]; done) | fail) only [go_sem, ↓reduceIte, Int.reduceToNat, Int.reduceLE, Int.reduceLT, Int.reduceSub, Int.reduceAdd, Nat.reduceEqDiff, Nat.reduceAdd, Nat.reduceLeDiff, Nat.reduceLT, Nat.reduceMul, Nat.reduceSub]; done) | rfl | omega | trivial | skip
  rintro _ s2 h' ⟨k, rfl, rfl, e13, hk, hp⟩ K2 hK2
  simp only [mix_cons, mix_nil, Nat.reduceEqDiff, ↓reduceIte] at e13
  (repeat (first
    | refine WP_seq (fun K hK => ?_)
    | refine WP_block ?_
    | refine WP_scope ?_
    | ((first | refine WP_region ?_ | refine WP_draw 9 (by decide +kernel) ?_ | refine WP_skip ?_ | refine WP_exit ?_ | refine WP_ret ?_); try simp (disch := first | omega | (simp only [go_sem, ↓reduceIte, Nat.reduceEqDiff]; done) | fail) only [go_sem, ↓reduceIte, Int.reduceToNat, Int.reduceLE, Int.reduceLT, Int.reduceSub, Int.reduceAdd, Nat.reduceEqDiff, Nat.reduceAdd, Nat.reduceLeDiff, Nat.reduceLT, Nat.reduceMul, Nat.reduceSub, e13])
    | (refine WP_condK ?_; simp (disch := first | omega | (simp only [go_sem, ↓reduceIte, Nat.reduceEqDiff]; done) | fail) only [go_sem, ↓reduceIte, Int.reduceToNat, Int.reduceLE, Int.reduceLT, Int.reduceSub, Int.reduceAdd, Nat.reduceEqDiff, Nat.reduceAdd, Nat.reduceLeDiff, Nat.reduceLT, Nat.reduceMul, Nat.reduceSub, e13]; refine went ?_)
    | (refine hK _ _ (Wkn.refl ?_); clear hK K)
    | (clear hK K; first | (refine hK _ _ (Wkn.refl ?_); clear hK K) | (clear hK K; refine hK _ _ (Wkn.refl ?_); clear hK K))))
  refine WP_cond (by simp (disch := first | omega | (simp only [go_sem, ↓reduceIte, Nat.reduceEqDiff]; done) | fail) only [go_sem, ↓reduceIte, Int.reduceToNat, Int.reduceLE, Int.reduceLT, Int.reduceSub, Int.reduceAdd, Nat.reduceEqDiff, Nat.reduceAdd, Nat.reduceLeDiff, Nat.reduceLT, Nat.reduceMul, Nat.reduceSub, e13]; rfl) (fun hc => ?_) (fun hc => ?_) <;> (try simp only [Bool.false_or, Bool.or_false, Bool.true_or, Bool.or_true, Bool.false_and, Bool.and_false, Bool.and_true, Bool.true_and, Bool.or_eq_true, Bool.or_eq_false_iff, Bool.and_eq_true, Bool.and_eq_false_iff, Nat.not_lt, Nat.not_le, decide_eq_true_eq, decide_eq_false_iff_not, Bool.not_eq_true', Bool.not_eq_false', beq_iff_eq, bne_iff_ne, ne_eq, beq_eq_false_iff_ne, bne_eq_false_iff_eq, Bool.not_eq_true, Bool.not_eq_false, Int.not_lt, Int.not_le, gt_iff_lt, ge_iff_le, Int.ofNat_lt, Int.ofNat_le, Int.natCast_inj, Int.natCast_inj, Bool.not_not, decide_not, Decidable.not_not] at hc)
  · obtain ⟨x, hx, _⟩ := getElem?_of_lt hc
    obtain ⟨y, hy, _⟩ := getElem?_of_lt (show k < b.length by omega)
    skip
    (repeat (first
      | refine WP_seq (fun K hK => ?_)
      | refine WP_block ?_
      | refine WP_scope ?_
      | ((first | refine WP_region ?_ | refine WP_draw 9 (by decide +kernel) ?_ | refine WP_skip ?_ | refine WP_exit ?_ | refine WP_ret ?_); try simp (disch := first | omega | (simp only [go_sem, ↓reduceIte, Nat.reduceEqDiff]; done) | fail) only [go_sem, ↓reduceIte, Int.reduceToNat, Int.reduceLE, Int.reduceLT, Int.reduceSub, Int.reduceAdd, Nat.reduceEqDiff, Nat.reduceAdd, Nat.reduceLeDiff, Nat.reduceLT, Nat.reduceMul, Nat.reduceSub, e13, hx, hy])
      | (refine WP_condK ?_; simp (disch := first | omega | (simp only [go_sem, ↓reduceIte, Nat.reduceEqDiff]; done) | fail) only [go_sem, ↓reduceIte, Int.reduceToNat, Int.reduceLE, Int.reduceLT, Int.reduceSub, Int.reduceAdd, Nat.reduceEqDiff, Nat.reduceAdd, Nat.reduceLeDiff, Nat.reduceLT, Nat.reduceMul, Nat.reduceSub, e13, hx, hy]; refine went ?_)
      | (refine hK _ _ (Wkn.refl ?_); clear hK K)
      | (clear hK K; first | (refine hK _ _ (Wkn.refl ?_); clear hK K) | (clear hK K; refine hK _ _ (Wkn.refl ?_); clear hK K))))
    refine WP_cond (by simp (disch := first | omega | (simp only [go_sem, ↓reduceIte, Nat.reduceEqDiff]; done) | fail) only [go_sem, ↓reduceIte, Int.reduceToNat, Int.reduceLE, Int.reduceLT, Int.reduceSub, Int.reduceAdd, Nat.reduceEqDiff, Nat.reduceAdd, Nat.reduceLeDiff, Nat.reduceLT, Nat.reduceMul, Nat.reduceSub, e13, hx, hy]; rfl) (fun hc => ?_) (fun hc => ?_) <;> (try simp only [Bool.false_or, Bool.or_false, Bool.true_or, Bool.or_true, Bool.false_and, Bool.and_false, Bool.and_true, Bool.true_and, Bool.or_eq_true, Bool.or_eq_false_iff, Bool.and_eq_true, Bool.and_eq_false_iff, Nat.not_lt, Nat.not_le, decide_eq_true_eq, decide_eq_false_iff_not, Bool.not_eq_true', Bool.not_eq_false', beq_iff_eq, bne_iff_ne, ne_eq, beq_eq_false_iff_ne, bne_eq_false_iff_eq, Bool.not_eq_true, Bool.not_eq_false, Int.not_lt, Int.not_le, gt_iff_lt, ge_iff_le, Int.ofNat_lt, Int.ofNat_le, Int.natCast_inj, Int.natCast_inj, Bool.not_not, decide_not, Decidable.not_not] at hc) <;>
      (repeat (first
        | refine WP_seq (fun K hK => ?_)
        | refine WP_block ?_
        | refine WP_scope ?_
        | ((first | refine WP_region ?_ | refine WP_draw 9 (by decide +kernel) ?_ | refine WP_skip ?_ | refine WP_exit ?_ | refine WP_ret ?_); try simp (disch := first | omega | (simp only [go_sem, ↓reduceIte, Nat.reduceEqDiff]; done) | fail) only [go_sem, ↓reduceIte, Int.reduceToNat, Int.reduceLE, Int.reduceLT, Int.reduceSub, Int.reduceAdd, Nat.reduceEqDiff, Nat.reduceAdd, Nat.reduceLeDiff, Nat.reduceLT, Nat.reduceMul, Nat.reduceSub, e13, hx, hy])
        | (refine WP_condK ?_; simp (disch := first | omega | (simp only [go_sem, ↓reduceIte, Nat.reduceEqDiff]; done) | fail) only [go_sem, ↓reduceIte, Int.reduceToNat, Int.reduceLE, Int.reduceLT, Int.reduceSub, Int.reduceAdd, Nat.reduceEqDiff, Nat.reduceAdd, Nat.reduceLeDiff, Nat.reduceLT, Nat.reduceMul, Nat.reduceSub, e13, hx, hy]; refine went ?_)
        | (refine hK _ _ (Wkn.refl ?_); clear hK K)
        | (clear hK K; first | (refine hK _ _ (Wkn.refl ?_); clear hK K) | (clear hK K; refine hK _ _ (Wkn.refl ?_); clear hK K))))
    · first | refine (hQ _ _ ?_).1 | refine (hQ _ _ ?_).2
      simp (disch := first | omega | (simp only [go_sem, ↓reduceIte, Nat.reduceEqDiff]; done) | fail) only [go_sem, ↓reduceIte, Int.reduceToNat, Int.reduceLE, Int.reduceLT, Int.reduceSub, Int.reduceAdd, Nat.reduceEqDiff, Nat.reduceAdd, Nat.reduceLeDiff, Nat.reduceLT, Nat.reduceMul, Nat.reduceSub, e13, hx, hy]
      first | refine Fin.same (.bool _) ⟨?_, rfl⟩ | refine Fin.plain (.bool _) ⟨?_, rfl⟩ | refine Fin.plainE (by simp only [List.append_assoc, List.cons_append, List.nil_append]; rfl) (.bool _) ⟨?_, rfl⟩
      have : a ≠ b := by rintro rfl; rw [hx] at hy; cases hy; exact hc rfl
      simp [this]
    · refine hK2 _ _ _ (Wkn.refl ⟨k + 1, rfl, (by first | rfl | (simp; done) | (simp; rfl)), ?_, by omega, take_succ_eq hx hy hp hc⟩) (by omega)
      all_goals first | (simp (disch := first | omega | (simp only [go_sem, ↓reduceIte, Nat.reduceEqDiff]; done) | fail) only [go_sem, ↓reduceIte, Int.reduceToNat, Int.reduceLE, Int.reduceLT, Int.reduceSub, Int.reduceAdd, Nat.reduceEqDiff, Nat.reduceAdd, Nat.reduceLeDiff, Nat.reduceLT, Nat.reduceMul, Nat.reduceSub, e13, hx, hy]; done) | rfl | omega | trivial | skip
  · (repeat (first
      | refine WP_seq (fun K hK => ?_)
      | refine WP_block ?_
      | refine WP_scope ?_
      | ((first | refine WP_region ?_ | refine WP_draw 9 (by decide +kernel) ?_ | refine WP_skip ?_ | refine WP_exit ?_ | refine WP_ret ?_); try simp (disch := first | omega | (simp only [go_sem, ↓reduceIte, Nat.reduceEqDiff]; done) | fail) only [go_sem, ↓reduceIte, Int.reduceToNat, Int.reduceLE, Int.reduceLT, Int.reduceSub, Int.reduceAdd, Nat.reduceEqDiff, Nat.reduceAdd, Nat.reduceLeDiff, Nat.reduceLT, Nat.reduceMul, Nat.reduceSub, e13])
      | (refine WP_condK ?_; simp (disch := first | omega | (simp only [go_sem, ↓reduceIte, Nat.reduceEqDiff]; done) | fail) only [go_sem, ↓reduceIte, Int.reduceToNat, Int.reduceLE, Int.reduceLT, Int.reduceSub, Int.reduceAdd, Nat.reduceEqDiff, Nat.reduceAdd, Nat.reduceLeDiff, Nat.reduceLT, Nat.reduceMul, Nat.reduceSub, e13]; refine went ?_)
      | (refine hK _ _ (Wkn.refl ?_); clear hK K)
      | (clear hK K; first | (refine hK _ _ (Wkn.refl ?_); clear hK K) | (clear hK K; refine hK _ _ (Wkn.refl ?_); clear hK K))))
    first | refine (hQ _ _ ?_).1 | refine (hQ _ _ ?_).2
    simp (disch := first | omega | (simp only [go_sem, ↓reduceIte, Nat.reduceEqDiff]; done) | fail) only [go_sem, ↓reduceIte, Int.reduceToNat, Int.reduceLE, Int.reduceLT, Int.reduceSub, Int.reduceAdd, Nat.reduceEqDiff, Nat.reduceAdd, Nat.reduceLeDiff, Nat.reduceLT, Nat.reduceMul, Nat.reduceSub, e13]
    first | refine Fin.same (.bool _) ⟨?_, rfl⟩ | refine Fin.plain (.bool _) ⟨?_, rfl⟩ | refine Fin.plainE (by simp only [List.append_assoc, List.cons_append, List.nil_append]; rfl) (.bool _) ⟨?_, rfl⟩
    rw [List.take_of_length_le hc, List.take_of_length_le (by omega)] at hp
    simp [hp]

theorem EqualFunc_sat (p : Elem → Elem → Bool) (g : FuncId) (cap : List AVal) (a b : List Elem) (ha : a.length ≤ 1048576) (h : Heap) (hg : ∀ x ∈ a, ∀ y ∈ b, ∀ (j : Heap), Sat (CT G) g (x.av :: y.av :: cap) (h ++ j) (fun r h' => r = .bool (p x y) ∧ h' = h ++ j)) :
    Sat (CT G) 87 [.sl 4 (a.map Elem.av), .sl 4 (b.map Elem.av), .fn (.func g) [] cap] h
      (fun r h' => r = .bool (decide (a.length = b.length) && (a.zip b).all fun q => p q.1 q.2) ∧ h' = h) := by
  refine Sat.body [.tmp 6] (fn := Tryz.f87) Tryz.func87 rfl rfl (by kernel_rfl) (by kernel_rfl) (by kernel_rfl) rfl ?_
  intro Q hQ
  (repeat (first
    | refine WP_seq (fun K hK => ?_)
    | refine WP_block ?_
    | refine WP_scope ?_
    | ((first | refine WP_region ?_ | refine WP_skip ?_ | refine WP_exit ?_ | refine WP_ret ?_); try simp (disch := first | omega | (simp only [go_sem, ↓reduceIte, Nat.reduceEqDiff]; done) | fail) only [go_sem, ↓reduceIte, Int.reduceToNat, Int.reduceLE, Int.reduceLT, Int.reduceSub, Int.reduceAdd, Nat.reduceEqDiff, Nat.reduceAdd, Nat.reduceLeDiff, Nat.reduceLT, Nat.reduceMul, Nat.reduceSub])
    | (refine WP_condK ?_; simp (disch := first | omega | (simp only [go_sem, ↓reduceIte, Nat.reduceEqDiff]; done) | fail) only [go_sem, ↓reduceIte, Int.reduceToNat, Int.reduceLE, Int.reduceLT, Int.reduceSub, Int.reduceAdd, Nat.reduceEqDiff, Nat.reduceAdd, Nat.reduceLeDiff, Nat.reduceLT, Nat.reduceMul, Nat.reduceSub]; refine went ?_)
    | (refine hK _ _ (Wkn.refl ?_); clear hK K)
    | (clear hK K; first | (refine hK _ _ (Wkn.refl ?_); clear hK K) | (clear hK K; refine hK _ _ (Wkn.refl ?_); clear hK K))))
  refine WP_cond (by simp (disch := first | omega | (simp only [go_sem, ↓reduceIte, Nat.reduceEqDiff]; done) | fail) only [go_sem, ↓reduceIte, Int.reduceToNat, Int.reduceLE, Int.reduceLT, Int.reduceSub, Int.reduceAdd, Nat.reduceEqDiff, Nat.reduceAdd, Nat.reduceLeDiff, Nat.reduceLT, Nat.reduceMul, Nat.reduceSub]; rfl) (fun hc => ?_) (fun hc => ?_) <;> (try simp only [Bool.false_or, Bool.or_false, Bool.true_or, Bool.or_true, Bool.false_and, Bool.and_false, Bool.and_true, Bool.true_and, Bool.or_eq_true, Bool.or_eq_false_iff, Bool.and_eq_true, Bool.and_eq_false_iff, Nat.not_lt, Nat.not_le, decide_eq_true_eq, decide_eq_false_iff_not, Bool.not_eq_true', Bool.not_eq_false', beq_iff_eq, bne_iff_ne, ne_eq, beq_eq_false_iff_ne, bne_eq_false_iff_eq, Bool.not_eq_true, Bool.not_eq_false, Int.not_lt, Int.not_le, gt_iff_lt, ge_iff_le, Int.ofNat_lt, Int.ofNat_le, Int.natCast_inj, Int.natCast_inj, Bool.not_not, decide_not, Decidable.not_not] at hc) <;>
    (repeat (first
      | refine WP_seq (fun K hK => ?_)
      | refine WP_block ?_
      | refine WP_scope ?_
      | ((first | refine WP_region ?_ | refine WP_skip ?_ | refine WP_exit ?_ | refine WP_ret ?_); try simp (disch := first | omega | (simp only [go_sem, ↓reduceIte, Nat.reduceEqDiff]; done) | fail) only [go_sem, ↓reduceIte, Int.reduceToNat, Int.reduceLE, Int.reduceLT, Int.reduceSub, Int.reduceAdd, Nat.reduceEqDiff, Nat.reduceAdd, Nat.reduceLeDiff, Nat.reduceLT, Nat.reduceMul, Nat.reduceSub])
      | (refine WP_condK ?_; simp (disch := first | omega | (simp only [go_sem, ↓reduceIte, Nat.reduceEqDiff]; done) | fail) only [go_sem, ↓reduceIte, Int.reduceToNat, Int.reduceLE, Int.reduceLT, Int.reduceSub, Int.reduceAdd, Nat.reduceEqDiff, Nat.reduceAdd, Nat.reduceLeDiff, Nat.reduceLT, Nat.reduceMul, Nat.reduceSub]; refine went ?_)
      | (refine hK _ _ (Wkn.refl ?_); clear hK K)
      | (clear hK K; first | (refine hK _ _ (Wkn.refl ?_); clear hK K) | (clear hK K; refine hK _ _ (Wkn.refl ?_); clear hK K))))
  · first | refine (hQ _ _ ?_).1 | refine (hQ _ _ ?_).2
    simp (disch := first | omega | (simp only [go_sem, ↓reduceIte, Nat.reduceEqDiff]; done) | fail) only [go_sem, ↓reduceIte, Int.reduceToNat, Int.reduceLE, Int.reduceLT, Int.reduceSub, Int.reduceAdd, Nat.reduceEqDiff, Nat.reduceAdd, Nat.reduceLeDiff, Nat.reduceLT, Nat.reduceMul, Nat.reduceSub]
    first | refine Fin.same (.bool _) ⟨?_, rfl⟩ | refine Fin.plain (.bool _) ⟨?_, rfl⟩ | refine Fin.plainE (by simp only [List.append_assoc, List.cons_append, List.nil_append]; rfl) (.bool _) ⟨?_, rfl⟩
    simp [hc]
  have hl : a.length = b.length := by omega
  refine WP_loopm (by simp only [go_sem, List.nil_append, List.cons_append]; rfl) (fun nL tL hL => ∃ (k : Nat) (j : Heap), a.length - k = nL ∧ h ++ j = hL ∧ tL 17 = .int .i64 k ∧ k ≤ a.length ∧ ((a.zip b).all fun q => p q.1 q.2) = (((a.zip b).drop k).all fun q => p q.1 q.2)) ((fun (k : Nat) (j : Heap) => (a.length - k : Nat)) (0) ([])) ?_ ?_
  · refine Wkn.refl ⟨0, [], rfl, (by first | rfl | (simp; done) | (simp; rfl)), ?_, ?_, ?_⟩
    all_goals first | (simp (disch := first | omega | (simp only [go_sem, ↓reduceIte, Nat.reduceEqDiff]; done) | fail) only [go_sem, ↓reduceIte, Int.reduceToNat, Int.reduceLE, Int.reduceLT, Int.reduceSub, Int.reduceAdd, Nat.reduceEqDiff, Nat.reduceAdd, Nat.reduceLeDiff, Nat.reduceLT, Nat.reduceMul, Nat.reduceSub]; done) | rfl | omega | trivial | skip
  rintro _ s2 h' ⟨k, j, rfl, rfl, e17, hk, hp⟩ K2 hK2
  simp only [mix_cons, mix_nil, Nat.reduceEqDiff, ↓reduceIte] at e17
  (repeat (first
    | refine WP_seq (fun K hK => ?_)
    | refine WP_block ?_
    | refine WP_scope ?_
    | ((first | refine WP_region ?_ | refine WP_skip ?_ | refine WP_exit ?_ | refine WP_ret ?_); try simp (disch := first | omega | (simp only [go_sem, ↓reduceIte, Nat.reduceEqDiff]; done) | fail) only [go_sem, ↓reduceIte, Int.reduceToNat, Int.reduceLE, Int.reduceLT, Int.reduceSub, Int.reduceAdd, Nat.reduceEqDiff, Nat.reduceAdd, Nat.reduceLeDiff, Nat.reduceLT, Nat.reduceMul, Nat.reduceSub, e17])
    | (refine WP_condK ?_; simp (disch := first | omega | (simp only [go_sem, ↓reduceIte, Nat.reduceEqDiff]; done) | fail) only [go_sem, ↓reduceIte, Int.reduceToNat, Int.reduceLE, Int.reduceLT, Int.reduceSub, Int.reduceAdd, Nat.reduceEqDiff, Nat.reduceAdd, Nat.reduceLeDiff, Nat.reduceLT, Nat.reduceMul, Nat.reduceSub, e17]; refine went ?_)
    | (refine hK _ _ (Wkn.refl ?_); clear hK K)
    | (clear hK K; first | (refine hK _ _ (Wkn.refl ?_); clear hK K) | (clear hK K; refine hK _ _ (Wkn.refl ?_); clear hK K))))
  refine WP_cond (by simp (disch := first | omega | (simp only [go_sem, ↓reduceIte, Nat.reduceEqDiff]; done) | fail) only [go_sem, ↓reduceIte, Int.reduceToNat, Int.reduceLE, Int.reduceLT, Int.reduceSub, Int.reduceAdd, Nat.reduceEqDiff, Nat.reduceAdd, Nat.reduceLeDiff, Nat.reduceLT, Nat.reduceMul, Nat.reduceSub, e17]; rfl) (fun hc => ?_) (fun hc => ?_) <;> (try simp only [Bool.false_or, Bool.or_false, Bool.true_or, Bool.or_true, Bool.false_and, Bool.and_false, Bool.and_true, Bool.true_and, Bool.or_eq_true, Bool.or_eq_false_iff, Bool.and_eq_true, Bool.and_eq_false_iff, Nat.not_lt, Nat.not_le, decide_eq_true_eq, decide_eq_false_iff_not, Bool.not_eq_true', Bool.not_eq_false', beq_iff_eq, bne_iff_ne, ne_eq, beq_eq_false_iff_ne, bne_eq_false_iff_eq, Bool.not_eq_true, Bool.not_eq_false, Int.not_lt, Int.not_le, gt_iff_lt, ge_iff_le, Int.ofNat_lt, Int.ofNat_le, Int.natCast_inj, Int.natCast_inj, Bool.not_not, decide_not, Decidable.not_not] at hc)
  · obtain ⟨x, hx, hxm⟩ := getElem?_of_lt hc
    obtain ⟨y, hy, hym⟩ := getElem?_of_lt (show k < b.length by omega)
    rw [drop_cons_of (zip_at hx hy), List.all_cons] at hp
    skip
    (repeat (first
      | refine WP_seq (fun K hK => ?_)
      | refine WP_block ?_
      | refine WP_scope ?_
      | ((first | refine WP_region ?_ | refine WP_skip ?_ | refine WP_exit ?_ | refine WP_ret ?_); try simp (disch := first | omega | (simp only [go_sem, ↓reduceIte, Nat.reduceEqDiff]; done) | fail) only [go_sem, ↓reduceIte, Int.reduceToNat, Int.reduceLE, Int.reduceLT, Int.reduceSub, Int.reduceAdd, Nat.reduceEqDiff, Nat.reduceAdd, Nat.reduceLeDiff, Nat.reduceLT, Nat.reduceMul, Nat.reduceSub, e17, hx, hy])
      | (refine WP_condK ?_; simp (disch := first | omega | (simp only [go_sem, ↓reduceIte, Nat.reduceEqDiff]; done) | fail) only [go_sem, ↓reduceIte, Int.reduceToNat, Int.reduceLE, Int.reduceLT, Int.reduceSub, Int.reduceAdd, Nat.reduceEqDiff, Nat.reduceAdd, Nat.reduceLeDiff, Nat.reduceLT, Nat.reduceMul, Nat.reduceSub, e17, hx, hy]; refine went ?_)
      | (refine hK _ _ (Wkn.refl ?_); clear hK K)
      | (clear hK K; first | (refine hK _ _ (Wkn.refl ?_); clear hK K) | (clear hK K; refine hK _ _ (Wkn.refl ?_); clear hK K))))
    refine (hg x hxm y hym _).mono ?_
    rintro r h' ⟨rfl, rfl⟩
    try simp (disch := first | omega | (simp only [go_sem, ↓reduceIte, Nat.reduceEqDiff]; done) | fail) only [go_sem, ↓reduceIte, Int.reduceToNat, Int.reduceLE, Int.reduceLT, Int.reduceSub, Int.reduceAdd, Nat.reduceEqDiff, Nat.reduceAdd, Nat.reduceLeDiff, Nat.reduceLT, Nat.reduceMul, Nat.reduceSub, e17, hx, hy]
    (repeat (first
      | refine WP_seq (fun K hK => ?_)
      | refine WP_block ?_
      | refine WP_scope ?_
      | ((first | refine WP_region ?_ | refine WP_skip ?_ | refine WP_exit ?_ | refine WP_ret ?_); try simp (disch := first | omega | (simp only [go_sem, ↓reduceIte, Nat.reduceEqDiff]; done) | fail) only [go_sem, ↓reduceIte, Int.reduceToNat, Int.reduceLE, Int.reduceLT, Int.reduceSub, Int.reduceAdd, Nat.reduceEqDiff, Nat.reduceAdd, Nat.reduceLeDiff, Nat.reduceLT, Nat.reduceMul, Nat.reduceSub, e17, hx, hy])
      | (refine WP_condK ?_; simp (disch := first | omega | (simp only [go_sem, ↓reduceIte, Nat.reduceEqDiff]; done) | fail) only [go_sem, ↓reduceIte, Int.reduceToNat, Int.reduceLE, Int.reduceLT, Int.reduceSub, Int.reduceAdd, Nat.reduceEqDiff, Nat.reduceAdd, Nat.reduceLeDiff, Nat.reduceLT, Nat.reduceMul, Nat.reduceSub, e17, hx, hy]; refine went ?_)
      | (refine hK _ _ (Wkn.refl ?_); clear hK K)
      | (clear hK K; first | (refine hK _ _ (Wkn.refl ?_); clear hK K) | (clear hK K; refine hK _ _ (Wkn.refl ?_); clear hK K))))
    refine WP_cond (by simp (disch := first | omega | (simp only [go_sem, ↓reduceIte, Nat.reduceEqDiff]; done) | fail) only [go_sem, ↓reduceIte, Int.reduceToNat, Int.reduceLE, Int.reduceLT, Int.reduceSub, Int.reduceAdd, Nat.reduceEqDiff, Nat.reduceAdd, Nat.reduceLeDiff, Nat.reduceLT, Nat.reduceMul, Nat.reduceSub, e17, hx, hy]; rfl) (fun hc => ?_) (fun hc => ?_) <;> (try simp only [Bool.false_or, Bool.or_false, Bool.true_or, Bool.or_true, Bool.false_and, Bool.and_false, Bool.and_true, Bool.true_and, Bool.or_eq_true, Bool.or_eq_false_iff, Bool.and_eq_true, Bool.and_eq_false_iff, Nat.not_lt, Nat.not_le, decide_eq_true_eq, decide_eq_false_iff_not, Bool.not_eq_true', Bool.not_eq_false', beq_iff_eq, bne_iff_ne, ne_eq, beq_eq_false_iff_ne, bne_eq_false_iff_eq, Bool.not_eq_true, Bool.not_eq_false, Int.not_lt, Int.not_le, gt_iff_lt, ge_iff_le, Int.ofNat_lt, Int.ofNat_le, Int.natCast_inj, Int.natCast_inj, Bool.not_not, decide_not, Decidable.not_not] at hc) <;>
      (repeat (first
        | refine WP_seq (fun K hK => ?_)
        | refine WP_block ?_
        | refine WP_scope ?_
        | ((first | refine WP_region ?_ | refine WP_skip ?_ | refine WP_exit ?_ | refine WP_ret ?_); try simp (disch := first | omega | (simp only [go_sem, ↓reduceIte, Nat.reduceEqDiff]; done) | fail) only [go_sem, ↓reduceIte, Int.reduceToNat, Int.reduceLE, Int.reduceLT, Int.reduceSub, Int.reduceAdd, Nat.reduceEqDiff, Nat.reduceAdd, Nat.reduceLeDiff, Nat.reduceLT, Nat.reduceMul, Nat.reduceSub, e17, hx, hy])
        | (refine WP_condK ?_; simp (disch := first | omega | (simp only [go_sem, ↓reduceIte, Nat.reduceEqDiff]; done) | fail) only [go_sem, ↓reduceIte, Int.reduceToNat, Int.reduceLE, Int.reduceLT, Int.reduceSub, Int.reduceAdd, Nat.reduceEqDiff, Nat.reduceAdd, Nat.reduceLeDiff, Nat.reduceLT, Nat.reduceMul, Nat.reduceSub, e17, hx, hy]; refine went ?_)
        | (refine hK _ _ (Wkn.refl ?_); clear hK K)
        | (clear hK K; first | (refine hK _ _ (Wkn.refl ?_); clear hK K) | (clear hK K; refine hK _ _ (Wkn.refl ?_); clear hK K))))
    · first | refine (hQ _ _ ?_).1 | refine (hQ _ _ ?_).2
      simp (disch := first | omega | (simp only [go_sem, ↓reduceIte, Nat.reduceEqDiff]; done) | fail) only [go_sem, ↓reduceIte, Int.reduceToNat, Int.reduceLE, Int.reduceLT, Int.reduceSub, Int.reduceAdd, Nat.reduceEqDiff, Nat.reduceAdd, Nat.reduceLeDiff, Nat.reduceLT, Nat.reduceMul, Nat.reduceSub, e17, hx, hy]
      first | refine Fin.same (.bool _) ⟨?_, rfl⟩ | refine Fin.plain (.bool _) ⟨?_, rfl⟩ | refine Fin.plainE (by simp only [List.append_assoc, List.cons_append, List.nil_append]; rfl) (.bool _) ⟨?_, rfl⟩
      rw [hp]; simp [hc]
    · refine hK2 _ _ _ (Wkn.refl ⟨k + 1, _, rfl, (by first | rfl | (simp; done) | (simp; rfl)), ?_, by omega, by rw [hp]; simp [hc]⟩) (by omega)
      all_goals first | (simp (disch := first | omega | (simp only [go_sem, ↓reduceIte, Nat.reduceEqDiff]; done) | fail) only [go_sem, ↓reduceIte, Int.reduceToNat, Int.reduceLE, Int.reduceLT, Int.reduceSub, Int.reduceAdd, Nat.reduceEqDiff, Nat.reduceAdd, Nat.reduceLeDiff, Nat.reduceLT, Nat.reduceMul, Nat.reduceSub, e17, hx, hy]; done) | rfl | omega | trivial | skip
  · (repeat (first
      | refine WP_seq (fun K hK => ?_)
      | refine WP_block ?_
      | refine WP_scope ?_
      | ((first | refine WP_region ?_ | refine WP_skip ?_ | refine WP_exit ?_ | refine WP_ret ?_); try simp (disch := first | omega | (simp only [go_sem, ↓reduceIte, Nat.reduceEqDiff]; done) | fail) only [go_sem, ↓reduceIte, Int.reduceToNat, Int.reduceLE, Int.reduceLT, Int.reduceSub, Int.reduceAdd, Nat.reduceEqDiff, Nat.reduceAdd, Nat.reduceLeDiff, Nat.reduceLT, Nat.reduceMul, Nat.reduceSub, e17])
      | (refine WP_condK ?_; simp (disch := first | omega | (simp only [go_sem, ↓reduceIte, Nat.reduceEqDiff]; done) | fail) only [go_sem, ↓reduceIte, Int.reduceToNat, Int.reduceLE, Int.reduceLT, Int.reduceSub, Int.reduceAdd, Nat.reduceEqDiff, Nat.reduceAdd, Nat.reduceLeDiff, Nat.reduceLT, Nat.reduceMul, Nat.reduceSub, e17]; refine went ?_)
      | (refine hK _ _ (Wkn.refl ?_); clear hK K)
      | (clear hK K; first | (refine hK _ _ (Wkn.refl ?_); clear hK K) | (clear hK K; refine hK _ _ (Wkn.refl ?_); clear hK K))))
    first | refine (hQ _ _ ?_).1 | refine (hQ _ _ ?_).2
    simp (disch := first | omega | (simp only [go_sem, ↓reduceIte, Nat.reduceEqDiff]; done) | fail) only [go_sem, ↓reduceIte, Int.reduceToNat, Int.reduceLE, Int.reduceLT, Int.reduceSub, Int.reduceAdd, Nat.reduceEqDiff, Nat.reduceAdd, Nat.reduceLeDiff, Nat.reduceLT, Nat.reduceMul, Nat.reduceSub, e17]
    first | refine Fin.same (.bool _) ⟨?_, rfl⟩ | refine Fin.plain (.bool _) ⟨?_, rfl⟩ | refine Fin.plainE (by simp only [List.append_assoc, List.cons_append, List.nil_append]; rfl) (.bool _) ⟨?_, rfl⟩
    rw [hp, drop_nil_of (by simp; omega)]; simp [hl]
end Go.Av
