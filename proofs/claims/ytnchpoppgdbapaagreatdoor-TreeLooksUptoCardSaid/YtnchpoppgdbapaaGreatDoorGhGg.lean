/- What is told of any element. -/
import Derived.Test.YtnchpoppgdbapaaGreatDoorGhGf
set_option linter.unusedSimpArgs false
set_option linter.unusedVariables false
namespace Go.Av
open Go Go.Proofs Go.RowKit
attribute [local irreducible] WP WPl WPix Sat
set_option maxRecDepth 100000
set_option maxHeartbeats 1000000

variable (G : Nat → Option (List AVal))

theorem deepL_ge : ∀ (l : List Elem) (d n : Nat), n ≤ deepL l d n ∧ ∀ k ∈ l, deep k (d + 1) ≤ deepL l d n
  | [], d, n => by rw [deepL]; exact ⟨Nat.le_refl _, fun k hk => by cases hk⟩
  | e :: l, d, n => by
    rw [deepL]
    by_cases hc : n < deep e (d + 1)
    · rw [if_pos hc]
      obtain ⟨h1, h2⟩ := deepL_ge l d (deep e (d + 1))
      refine ⟨by omega, fun k hk => ?_⟩
      rcases List.mem_cons.1 hk with rfl | hk
      · omega
      · exact h2 k hk
    · rw [if_neg hc]
      obtain ⟨h1, h2⟩ := deepL_ge l d n
      refine ⟨by omega, fun k hk => ?_⟩
      rcases List.mem_cons.1 hk with rfl | hk
      · omega
      · exact h2 k hk
theorem sameF_refl : ∀ (f d : Nat), 33 ≤ f + d → ∀ e : Elem, deep e d ≤ 32 → sameF f e e = true := by
  intro f
  induction f with
  | zero =>
    intro d hd e he
    rw [deep_eq] at he
    by_cases h40 : 40 ≤ d
    · rw [if_pos h40] at he; omega
    · rw [if_neg h40] at he
      have := (deepL_ge e.kids d d).1
      omega
  | succ f ih =>
    intro d hd e he
    have h40 : ¬ 40 ≤ d := fun h40 => by rw [deep_eq, if_pos h40] at he; omega
    rw [deep_eq, if_neg h40] at he
    have := (deepL_ge e.kids d d).2
    have hz : ∀ (l : List Elem), (∀ k ∈ l, sameF f k k = true) → ((l.zip l).all fun p => sameF f p.1 p.2) = true := by
      intro l
      induction l with
      | nil => intro _; rfl
      | cons x l ih2 => intro h; simp only [List.zip_cons_cons, List.all_cons, h x (by simp), ih2 fun k hk => h k (by simp [hk]), Bool.and_self]
    simp only [sameF, decide_true, Bool.true_and]
    exact hz _ fun k hk => ih (d + 1) (by omega) k (by have := this k hk; omega)
theorem kidF_mem (e : Elem) (n : Bs) (h : (kidF e n).2 = true) : (kidF e n).1 ∈ e.kids := by
  unfold kidF at *
  cases hq : kidsF e n with
  | nil => rw [hq] at h; cases h
  | cons k l =>
    have : k ∈ kidsF e n := by rw [hq]; simp
    unfold kidsF at this
    exact (List.mem_filter.1 this).1
theorem sameList_refl (d : Nat) (hd : 1 ≤ d) (l : List Elem) (h : ∀ k ∈ l, deep k d ≤ 32) : ((l.zip l).all fun p => sameF 32 p.1 p.2) = true := by
  induction l with
  | nil => rfl
  | cons x l ih => simp only [List.zip_cons_cons, List.all_cons, sameF_refl 32 d (by omega) x (h x (by simp)), ih fun k hk => h k (by simp [hk]), Bool.and_self]

theorem szs_app {α : Type} (f : α → Nat) (a b : List α) : szs f (a ++ b) = szs f a + szs f b := by
  induction a with
  | nil => simp [szs]
  | cons x l ih => simp only [List.cons_append, szs, ih]; omega
mutual
theorem tokT_szs : ∀ (e : Elem) (d : Nat), szs Tok.sz (tokT e d) ≤ 3 * e.sz
  | .mk n a t k, d => by
    have := tokL_szs k (d + 1)
    rw [tokT, Elem.sz]; split
    · simp [szs]
    · split <;> (simp only [szs_app, szs, Tok.sz, List.cons_append, List.nil_append, List.length_nil]; omega)
theorem tokL_szs : ∀ (l : List Elem) (d : Nat), szs Tok.sz (tokL l d) ≤ 3 * kidsz l
  | [], d => by simp [tokL, szs]
  | e :: l, d => by
    have := tokT_szs e d; have := tokL_szs l d
    rw [tokL, kidsz, szs_app]; omega
end
mutual
theorem tokT_at : ∀ (e : Elem) (d : Nat), ∀ t ∈ tokT e d, t.2.2.1.length ≤ e.sz
  | .mk n a t k, d => by
    intro x hx
    have hk := tokL_at k (d + 1)
    have ha := szs_len At.sz At.sz_pos a
    rw [tokT] at hx; rw [Elem.sz]
    split at hx
    · cases hx
    · simp only [List.cons_append, List.mem_cons, List.mem_append, List.append_assoc, List.not_mem_nil, or_false] at hx
      rcases hx with rfl | hx | hx | rfl
      · simp only; omega
      · split at hx
        · cases hx
        · simp only [List.mem_cons, List.not_mem_nil, or_false] at hx; subst hx; simp
      · have := hk x hx; omega
      · simp
theorem tokL_at : ∀ (l : List Elem) (d : Nat), ∀ t ∈ tokL l d, t.2.2.1.length ≤ kidsz l
  | [], d => by intro x hx; simp [tokL] at hx
  | e :: l, d => by
    intro x hx
    rw [tokL, List.mem_append] at hx; rw [kidsz]
    rcases hx with hx | hx
    · have := tokT_at e d x hx; omega
    · have := tokL_at l d x hx; omega
end

theorem TreeLooks_sat (hlives : ∀ h, Sat (CT G) 9 [] h (fun r h' => r = .bool true ∧ h' = h)) (e f : Elem) (n : Bs) (he : e.sz ≤ 1048576) (hf : f.sz ≤ 1048576) (hn : n.length ≤ 1048576) (h : Heap) :
    Sat (CT G) 4 [e.av, f.av, .str n] h (fun r h' => r = .bool true ∧ h' = h) := by
  skip
  refine Sat.body [.tmp 6] (fn := Tryz.f4) Tryz.func4 rfl rfl (by kernel_rfl) (by kernel_rfl) (by kernel_rfl) rfl ?_
  intro Q hQ
  (repeat (first
    | refine WP_seq (fun K hK => ?_)
    | refine WP_block ?_
    | refine WP_scope ?_
    | ((first | refine WP_region ?_ | refine WP_draw 29 (by decide +kernel) ?_ | refine WP_draw 13 (by decide +kernel) ?_ | refine WP_skip ?_ | refine WP_exit ?_ | refine WP_ret ?_); try simp (disch := first | omega | (simp only [go_sem, ↓reduceIte, Nat.reduceEqDiff]; done) | fail) only [go_sem, ↓reduceIte, Int.reduceToNat, Int.reduceLE, Int.reduceLT, Int.reduceSub, Int.reduceAdd, Nat.reduceEqDiff, Nat.reduceAdd, Nat.reduceLeDiff, Nat.reduceLT, Nat.reduceMul, Nat.reduceSub, beq_self_eq_true, bne_self_eq_false, Bool.not_true, Bool.not_false, decide_true])
    | (refine WP_condK ?_; simp (disch := first | omega | (simp only [go_sem, ↓reduceIte, Nat.reduceEqDiff]; done) | fail) only [go_sem, ↓reduceIte, Int.reduceToNat, Int.reduceLE, Int.reduceLT, Int.reduceSub, Int.reduceAdd, Nat.reduceEqDiff, Nat.reduceAdd, Nat.reduceLeDiff, Nat.reduceLT, Nat.reduceMul, Nat.reduceSub, beq_self_eq_true, bne_self_eq_false, Bool.not_true, Bool.not_false, decide_true]; refine went ?_)
    | (refine hK _ _ (Wkn.refl ?_); clear hK K)
    | (clear hK K; first | (refine hK _ _ (Wkn.refl ?_); clear hK K) | (clear hK K; refine hK _ _ (Wkn.refl ?_); clear hK K))))
  refine (Large_sat G e he _).mono ?_
  rintro r h' ⟨rfl, rfl⟩
  try simp (disch := first | omega | (simp only [go_sem, ↓reduceIte, Nat.reduceEqDiff]; done) | fail) only [go_sem, ↓reduceIte, Int.reduceToNat, Int.reduceLE, Int.reduceLT, Int.reduceSub, Int.reduceAdd, Nat.reduceEqDiff, Nat.reduceAdd, Nat.reduceLeDiff, Nat.reduceLT, Nat.reduceMul, Nat.reduceSub, beq_self_eq_true, bne_self_eq_false, Bool.not_true, Bool.not_false, decide_true]
  (repeat (first
    | refine WP_seq (fun K hK => ?_)
    | refine WP_block ?_
    | refine WP_scope ?_
    | ((first | refine WP_region ?_ | refine WP_draw 29 (by decide +kernel) ?_ | refine WP_draw 13 (by decide +kernel) ?_ | refine WP_skip ?_ | refine WP_exit ?_ | refine WP_ret ?_); try simp (disch := first | omega | (simp only [go_sem, ↓reduceIte, Nat.reduceEqDiff]; done) | fail) only [go_sem, ↓reduceIte, Int.reduceToNat, Int.reduceLE, Int.reduceLT, Int.reduceSub, Int.reduceAdd, Nat.reduceEqDiff, Nat.reduceAdd, Nat.reduceLeDiff, Nat.reduceLT, Nat.reduceMul, Nat.reduceSub, beq_self_eq_true, bne_self_eq_false, Bool.not_true, Bool.not_false, decide_true])
    | (refine WP_condK ?_; simp (disch := first | omega | (simp only [go_sem, ↓reduceIte, Nat.reduceEqDiff]; done) | fail) only [go_sem, ↓reduceIte, Int.reduceToNat, Int.reduceLE, Int.reduceLT, Int.reduceSub, Int.reduceAdd, Nat.reduceEqDiff, Nat.reduceAdd, Nat.reduceLeDiff, Nat.reduceLT, Nat.reduceMul, Nat.reduceSub, beq_self_eq_true, bne_self_eq_false, Bool.not_true, Bool.not_false, decide_true]; refine went ?_)
    | (refine hK _ _ (Wkn.refl ?_); clear hK K)
    | (clear hK K; first | (refine hK _ _ (Wkn.refl ?_); clear hK K) | (clear hK K; refine hK _ _ (Wkn.refl ?_); clear hK K))))
  (first | refine WPl_gsplit rfl (by simp (disch := first | omega | (simp only [go_sem, ↓reduceIte, Nat.reduceEqDiff]; done) | fail) only [go_sem, ↓reduceIte, Int.reduceToNat, Int.reduceLE, Int.reduceLT, Int.reduceSub, Int.reduceAdd, Nat.reduceEqDiff, Nat.reduceAdd, Nat.reduceLeDiff, Nat.reduceLT, Nat.reduceMul, Nat.reduceSub, beq_self_eq_true, bne_self_eq_false, Bool.not_true, Bool.not_false, decide_true]; rfl) (fun hg => ?_) (fun hg => ?_) | refine WPp_gsplit rfl (by simp (disch := first | omega | (simp only [go_sem, ↓reduceIte, Nat.reduceEqDiff]; done) | fail) only [go_sem, ↓reduceIte, Int.reduceToNat, Int.reduceLE, Int.reduceLT, Int.reduceSub, Int.reduceAdd, Nat.reduceEqDiff, Nat.reduceAdd, Nat.reduceLeDiff, Nat.reduceLT, Nat.reduceMul, Nat.reduceSub, beq_self_eq_true, bne_self_eq_false, Bool.not_true, Bool.not_false, decide_true]; rfl) (fun hg => ?_) (fun hg => ?_)) <;> (try simp only [Bool.false_or, Bool.or_false, Bool.true_or, Bool.or_true, Bool.false_and, Bool.and_false, Bool.and_true, Bool.true_and, Bool.or_eq_true, Bool.or_eq_false_iff, Bool.and_eq_true, Bool.and_eq_false_iff, Nat.not_lt, Nat.not_le, decide_eq_true_eq, decide_eq_false_iff_not, Bool.not_eq_true', Bool.not_eq_false', beq_iff_eq, bne_iff_ne, ne_eq, beq_eq_false_iff_ne, bne_eq_false_iff_eq, Bool.not_eq_true, Bool.not_eq_false, Int.not_lt, Int.not_le, gt_iff_lt, ge_iff_le, Int.ofNat_lt, Int.ofNat_le, Int.natCast_inj, Int.natCast_inj, Bool.not_not, decide_not, Decidable.not_not] at hg) <;> (try simp (disch := first | omega | (simp only [go_sem, ↓reduceIte, Nat.reduceEqDiff]; done) | fail) only [go_sem, ↓reduceIte, Int.reduceToNat, Int.reduceLE, Int.reduceLT, Int.reduceSub, Int.reduceAdd, Nat.reduceEqDiff, Nat.reduceAdd, Nat.reduceLeDiff, Nat.reduceLT, Nat.reduceMul, Nat.reduceSub, beq_self_eq_true, bne_self_eq_false, Bool.not_true, Bool.not_false, decide_true]) <;>
    (repeat (first
      | refine WP_seq (fun K hK => ?_)
      | refine WP_block ?_
      | refine WP_scope ?_
      | ((first | refine WP_region ?_ | refine WP_draw 29 (by decide +kernel) ?_ | refine WP_draw 13 (by decide +kernel) ?_ | refine WP_skip ?_ | refine WP_exit ?_ | refine WP_ret ?_); try simp (disch := first | omega | (simp only [go_sem, ↓reduceIte, Nat.reduceEqDiff]; done) | fail) only [go_sem, ↓reduceIte, Int.reduceToNat, Int.reduceLE, Int.reduceLT, Int.reduceSub, Int.reduceAdd, Nat.reduceEqDiff, Nat.reduceAdd, Nat.reduceLeDiff, Nat.reduceLT, Nat.reduceMul, Nat.reduceSub, beq_self_eq_true, bne_self_eq_false, Bool.not_true, Bool.not_false, decide_true])
      | (refine WP_condK ?_; simp (disch := first | omega | (simp only [go_sem, ↓reduceIte, Nat.reduceEqDiff]; done) | fail) only [go_sem, ↓reduceIte, Int.reduceToNat, Int.reduceLE, Int.reduceLT, Int.reduceSub, Int.reduceAdd, Nat.reduceEqDiff, Nat.reduceAdd, Nat.reduceLeDiff, Nat.reduceLT, Nat.reduceMul, Nat.reduceSub, beq_self_eq_true, bne_self_eq_false, Bool.not_true, Bool.not_false, decide_true]; refine went ?_)
      | (refine hK _ _ (Wkn.refl ?_); clear hK K)
      | (clear hK K; first | (refine hK _ _ (Wkn.refl ?_); clear hK K) | (clear hK K; refine hK _ _ (Wkn.refl ?_); clear hK K))))
  · refine (hlives _).mono ?_
    rintro r h' ⟨rfl, rfl⟩
    try simp (disch := first | omega | (simp only [go_sem, ↓reduceIte, Nat.reduceEqDiff]; done) | fail) only [go_sem, ↓reduceIte, Int.reduceToNat, Int.reduceLE, Int.reduceLT, Int.reduceSub, Int.reduceAdd, Nat.reduceEqDiff, Nat.reduceAdd, Nat.reduceLeDiff, Nat.reduceLT, Nat.reduceMul, Nat.reduceSub, beq_self_eq_true, bne_self_eq_false, Bool.not_true, Bool.not_false, decide_true]
    (repeat (first
      | refine WP_seq (fun K hK => ?_)
      | refine WP_block ?_
      | refine WP_scope ?_
      | ((first | refine WP_region ?_ | refine WP_draw 29 (by decide +kernel) ?_ | refine WP_draw 13 (by decide +kernel) ?_ | refine WP_skip ?_ | refine WP_exit ?_ | refine WP_ret ?_); try simp (disch := first | omega | (simp only [go_sem, ↓reduceIte, Nat.reduceEqDiff]; done) | fail) only [go_sem, ↓reduceIte, Int.reduceToNat, Int.reduceLE, Int.reduceLT, Int.reduceSub, Int.reduceAdd, Nat.reduceEqDiff, Nat.reduceAdd, Nat.reduceLeDiff, Nat.reduceLT, Nat.reduceMul, Nat.reduceSub, beq_self_eq_true, bne_self_eq_false, Bool.not_true, Bool.not_false, decide_true])
      | (refine WP_condK ?_; simp (disch := first | omega | (simp only [go_sem, ↓reduceIte, Nat.reduceEqDiff]; done) | fail) only [go_sem, ↓reduceIte, Int.reduceToNat, Int.reduceLE, Int.reduceLT, Int.reduceSub, Int.reduceAdd, Nat.reduceEqDiff, Nat.reduceAdd, Nat.reduceLeDiff, Nat.reduceLT, Nat.reduceMul, Nat.reduceSub, beq_self_eq_true, bne_self_eq_false, Bool.not_true, Bool.not_false, decide_true]; refine went ?_)
      | (refine hK _ _ (Wkn.refl ?_); clear hK K)
      | (clear hK K; first | (refine hK _ _ (Wkn.refl ?_); clear hK K) | (clear hK K; refine hK _ _ (Wkn.refl ?_); clear hK K))))
    first | refine (hQ _ _ ?_).1 | refine (hQ _ _ ?_).2
    simp (disch := first | omega | (simp only [go_sem, ↓reduceIte, Nat.reduceEqDiff]; done) | fail) only [go_sem, ↓reduceIte, Int.reduceToNat, Int.reduceLE, Int.reduceLT, Int.reduceSub, Int.reduceAdd, Nat.reduceEqDiff, Nat.reduceAdd, Nat.reduceLeDiff, Nat.reduceLT, Nat.reduceMul, Nat.reduceSub, beq_self_eq_true, bne_self_eq_false, Bool.not_true, Bool.not_false, decide_true]
    first | refine Fin.same (.bool _) ⟨?_, rfl⟩ | refine Fin.plain (.bool _) ⟨?_, rfl⟩ | refine Fin.plainE (by simp only [List.append_assoc, List.cons_append, List.nil_append]; rfl) (.bool _) ⟨?_, rfl⟩
    rfl
  refine (Large_sat G f hf _).mono ?_
  rintro r h' ⟨rfl, rfl⟩
  try simp (disch := first | omega | (simp only [go_sem, ↓reduceIte, Nat.reduceEqDiff]; done) | fail) only [go_sem, ↓reduceIte, Int.reduceToNat, Int.reduceLE, Int.reduceLT, Int.reduceSub, Int.reduceAdd, Nat.reduceEqDiff, Nat.reduceAdd, Nat.reduceLeDiff, Nat.reduceLT, Nat.reduceMul, Nat.reduceSub, beq_self_eq_true, bne_self_eq_false, Bool.not_true, Bool.not_false, decide_true]
  (repeat (first
    | refine WP_seq (fun K hK => ?_)
    | refine WP_block ?_
    | refine WP_scope ?_
    | ((first | refine WP_region ?_ | refine WP_draw 29 (by decide +kernel) ?_ | refine WP_draw 13 (by decide +kernel) ?_ | refine WP_skip ?_ | refine WP_exit ?_ | refine WP_ret ?_); try simp (disch := first | omega | (simp only [go_sem, ↓reduceIte, Nat.reduceEqDiff]; done) | fail) only [go_sem, ↓reduceIte, Int.reduceToNat, Int.reduceLE, Int.reduceLT, Int.reduceSub, Int.reduceAdd, Nat.reduceEqDiff, Nat.reduceAdd, Nat.reduceLeDiff, Nat.reduceLT, Nat.reduceMul, Nat.reduceSub, beq_self_eq_true, bne_self_eq_false, Bool.not_true, Bool.not_false, decide_true])
    | (refine WP_condK ?_; simp (disch := first | omega | (simp only [go_sem, ↓reduceIte, Nat.reduceEqDiff]; done) | fail) only [go_sem, ↓reduceIte, Int.reduceToNat, Int.reduceLE, Int.reduceLT, Int.reduceSub, Int.reduceAdd, Nat.reduceEqDiff, Nat.reduceAdd, Nat.reduceLeDiff, Nat.reduceLT, Nat.reduceMul, Nat.reduceSub, beq_self_eq_true, bne_self_eq_false, Bool.not_true, Bool.not_false, decide_true]; refine went ?_)
    | (refine hK _ _ (Wkn.refl ?_); clear hK K)
    | (clear hK K; first | (refine hK _ _ (Wkn.refl ?_); clear hK K) | (clear hK K; refine hK _ _ (Wkn.refl ?_); clear hK K))))
  (first | refine WPl_gsplit rfl (by simp (disch := first | omega | (simp only [go_sem, ↓reduceIte, Nat.reduceEqDiff]; done) | fail) only [go_sem, ↓reduceIte, Int.reduceToNat, Int.reduceLE, Int.reduceLT, Int.reduceSub, Int.reduceAdd, Nat.reduceEqDiff, Nat.reduceAdd, Nat.reduceLeDiff, Nat.reduceLT, Nat.reduceMul, Nat.reduceSub, beq_self_eq_true, bne_self_eq_false, Bool.not_true, Bool.not_false, decide_true]; rfl) (fun hg => ?_) (fun hg => ?_) | refine WPp_gsplit rfl (by simp (disch := first | omega | (simp only [go_sem, ↓reduceIte, Nat.reduceEqDiff]; done) | fail) only [go_sem, ↓reduceIte, Int.reduceToNat, Int.reduceLE, Int.reduceLT, Int.reduceSub, Int.reduceAdd, Nat.reduceEqDiff, Nat.reduceAdd, Nat.reduceLeDiff, Nat.reduceLT, Nat.reduceMul, Nat.reduceSub, beq_self_eq_true, bne_self_eq_false, Bool.not_true, Bool.not_false, decide_true]; rfl) (fun hg => ?_) (fun hg => ?_)) <;> (try simp only [Bool.false_or, Bool.or_false, Bool.true_or, Bool.or_true, Bool.false_and, Bool.and_false, Bool.and_true, Bool.true_and, Bool.or_eq_true, Bool.or_eq_false_iff, Bool.and_eq_true, Bool.and_eq_false_iff, Nat.not_lt, Nat.not_le, decide_eq_true_eq, decide_eq_false_iff_not, Bool.not_eq_true', Bool.not_eq_false', beq_iff_eq, bne_iff_ne, ne_eq, beq_eq_false_iff_ne, bne_eq_false_iff_eq, Bool.not_eq_true, Bool.not_eq_false, Int.not_lt, Int.not_le, gt_iff_lt, ge_iff_le, Int.ofNat_lt, Int.ofNat_le, Int.natCast_inj, Int.natCast_inj, Bool.not_not, decide_not, Decidable.not_not] at hg) <;> (try simp (disch := first | omega | (simp only [go_sem, ↓reduceIte, Nat.reduceEqDiff]; done) | fail) only [go_sem, ↓reduceIte, Int.reduceToNat, Int.reduceLE, Int.reduceLT, Int.reduceSub, Int.reduceAdd, Nat.reduceEqDiff, Nat.reduceAdd, Nat.reduceLeDiff, Nat.reduceLT, Nat.reduceMul, Nat.reduceSub, beq_self_eq_true, bne_self_eq_false, Bool.not_true, Bool.not_false, decide_true]) <;>
    (repeat (first
      | refine WP_seq (fun K hK => ?_)
      | refine WP_block ?_
      | refine WP_scope ?_
      | ((first | refine WP_region ?_ | refine WP_draw 29 (by decide +kernel) ?_ | refine WP_draw 13 (by decide +kernel) ?_ | refine WP_skip ?_ | refine WP_exit ?_ | refine WP_ret ?_); try simp (disch := first | omega | (simp only [go_sem, ↓reduceIte, Nat.reduceEqDiff]; done) | fail) only [go_sem, ↓reduceIte, Int.reduceToNat, Int.reduceLE, Int.reduceLT, Int.reduceSub, Int.reduceAdd, Nat.reduceEqDiff, Nat.reduceAdd, Nat.reduceLeDiff, Nat.reduceLT, Nat.reduceMul, Nat.reduceSub, beq_self_eq_true, bne_self_eq_false, Bool.not_true, Bool.not_false, decide_true])
      | (refine WP_condK ?_; simp (disch := first | omega | (simp only [go_sem, ↓reduceIte, Nat.reduceEqDiff]; done) | fail) only [go_sem, ↓reduceIte, Int.reduceToNat, Int.reduceLE, Int.reduceLT, Int.reduceSub, Int.reduceAdd, Nat.reduceEqDiff, Nat.reduceAdd, Nat.reduceLeDiff, Nat.reduceLT, Nat.reduceMul, Nat.reduceSub, beq_self_eq_true, bne_self_eq_false, Bool.not_true, Bool.not_false, decide_true]; refine went ?_)
      | (refine hK _ _ (Wkn.refl ?_); clear hK K)
      | (clear hK K; first | (refine hK _ _ (Wkn.refl ?_); clear hK K) | (clear hK K; refine hK _ _ (Wkn.refl ?_); clear hK K))))
  · refine (hlives _).mono ?_
    rintro r h' ⟨rfl, rfl⟩
    try simp (disch := first | omega | (simp only [go_sem, ↓reduceIte, Nat.reduceEqDiff]; done) | fail) only [go_sem, ↓reduceIte, Int.reduceToNat, Int.reduceLE, Int.reduceLT, Int.reduceSub, Int.reduceAdd, Nat.reduceEqDiff, Nat.reduceAdd, Nat.reduceLeDiff, Nat.reduceLT, Nat.reduceMul, Nat.reduceSub, beq_self_eq_true, bne_self_eq_false, Bool.not_true, Bool.not_false, decide_true]
    (repeat (first
      | refine WP_seq (fun K hK => ?_)
      | refine WP_block ?_
      | refine WP_scope ?_
      | ((first | refine WP_region ?_ | refine WP_draw 29 (by decide +kernel) ?_ | refine WP_draw 13 (by decide +kernel) ?_ | refine WP_skip ?_ | refine WP_exit ?_ | refine WP_ret ?_); try simp (disch := first | omega | (simp only [go_sem, ↓reduceIte, Nat.reduceEqDiff]; done) | fail) only [go_sem, ↓reduceIte, Int.reduceToNat, Int.reduceLE, Int.reduceLT, Int.reduceSub, Int.reduceAdd, Nat.reduceEqDiff, Nat.reduceAdd, Nat.reduceLeDiff, Nat.reduceLT, Nat.reduceMul, Nat.reduceSub, beq_self_eq_true, bne_self_eq_false, Bool.not_true, Bool.not_false, decide_true])
      | (refine WP_condK ?_; simp (disch := first | omega | (simp only [go_sem, ↓reduceIte, Nat.reduceEqDiff]; done) | fail) only [go_sem, ↓reduceIte, Int.reduceToNat, Int.reduceLE, Int.reduceLT, Int.reduceSub, Int.reduceAdd, Nat.reduceEqDiff, Nat.reduceAdd, Nat.reduceLeDiff, Nat.reduceLT, Nat.reduceMul, Nat.reduceSub, beq_self_eq_true, bne_self_eq_false, Bool.not_true, Bool.not_false, decide_true]; refine went ?_)
      | (refine hK _ _ (Wkn.refl ?_); clear hK K)
      | (clear hK K; first | (refine hK _ _ (Wkn.refl ?_); clear hK K) | (clear hK K; refine hK _ _ (Wkn.refl ?_); clear hK K))))
    first | refine (hQ _ _ ?_).1 | refine (hQ _ _ ?_).2
    simp (disch := first | omega | (simp only [go_sem, ↓reduceIte, Nat.reduceEqDiff]; done) | fail) only [go_sem, ↓reduceIte, Int.reduceToNat, Int.reduceLE, Int.reduceLT, Int.reduceSub, Int.reduceAdd, Nat.reduceEqDiff, Nat.reduceAdd, Nat.reduceLeDiff, Nat.reduceLT, Nat.reduceMul, Nat.reduceSub, beq_self_eq_true, bne_self_eq_false, Bool.not_true, Bool.not_false, decide_true]
    first | refine Fin.same (.bool _) ⟨?_, rfl⟩ | refine Fin.plain (.bool _) ⟨?_, rfl⟩ | refine Fin.plainE (by simp only [List.append_assoc, List.cons_append, List.nil_append]; rfl) (.bool _) ⟨?_, rfl⟩
    rfl
  refine WP_cond (by simp (disch := first | omega | (simp only [go_sem, ↓reduceIte, Nat.reduceEqDiff]; done) | fail) only [go_sem, ↓reduceIte, Int.reduceToNat, Int.reduceLE, Int.reduceLT, Int.reduceSub, Int.reduceAdd, Nat.reduceEqDiff, Nat.reduceAdd, Nat.reduceLeDiff, Nat.reduceLT, Nat.reduceMul, Nat.reduceSub, beq_self_eq_true, bne_self_eq_false, Bool.not_true, Bool.not_false, decide_true]; rfl) (fun hc => ?_) (fun hc => ?_) <;> (try simp only [Bool.false_or, Bool.or_false, Bool.true_or, Bool.or_true, Bool.false_and, Bool.and_false, Bool.and_true, Bool.true_and, Bool.or_eq_true, Bool.or_eq_false_iff, Bool.and_eq_true, Bool.and_eq_false_iff, Nat.not_lt, Nat.not_le, decide_eq_true_eq, decide_eq_false_iff_not, Bool.not_eq_true', Bool.not_eq_false', beq_iff_eq, bne_iff_ne, ne_eq, beq_eq_false_iff_ne, bne_eq_false_iff_eq, Bool.not_eq_true, Bool.not_eq_false, Int.not_lt, Int.not_le, gt_iff_lt, ge_iff_le, Int.ofNat_lt, Int.ofNat_le, Int.natCast_inj, Int.natCast_inj, Bool.not_not, decide_not, Decidable.not_not] at hc) <;>
    (repeat (first
      | refine WP_seq (fun K hK => ?_)
      | refine WP_block ?_
      | refine WP_scope ?_
      | ((first | refine WP_region ?_ | refine WP_draw 29 (by decide +kernel) ?_ | refine WP_draw 13 (by decide +kernel) ?_ | refine WP_skip ?_ | refine WP_exit ?_ | refine WP_ret ?_); try simp (disch := first | omega | (simp only [go_sem, ↓reduceIte, Nat.reduceEqDiff]; done) | fail) only [go_sem, ↓reduceIte, Int.reduceToNat, Int.reduceLE, Int.reduceLT, Int.reduceSub, Int.reduceAdd, Nat.reduceEqDiff, Nat.reduceAdd, Nat.reduceLeDiff, Nat.reduceLT, Nat.reduceMul, Nat.reduceSub, beq_self_eq_true, bne_self_eq_false, Bool.not_true, Bool.not_false, decide_true])
      | (refine WP_condK ?_; simp (disch := first | omega | (simp only [go_sem, ↓reduceIte, Nat.reduceEqDiff]; done) | fail) only [go_sem, ↓reduceIte, Int.reduceToNat, Int.reduceLE, Int.reduceLT, Int.reduceSub, Int.reduceAdd, Nat.reduceEqDiff, Nat.reduceAdd, Nat.reduceLeDiff, Nat.reduceLT, Nat.reduceMul, Nat.reduceSub, beq_self_eq_true, bne_self_eq_false, Bool.not_true, Bool.not_false, decide_true]; refine went ?_)
      | (refine hK _ _ (Wkn.refl ?_); clear hK K)
      | (clear hK K; first | (refine hK _ _ (Wkn.refl ?_); clear hK K) | (clear hK K; refine hK _ _ (Wkn.refl ?_); clear hK K))))
  · refine (hlives _).mono ?_
    rintro r h' ⟨rfl, rfl⟩
    try simp (disch := first | omega | (simp only [go_sem, ↓reduceIte, Nat.reduceEqDiff]; done) | fail) only [go_sem, ↓reduceIte, Int.reduceToNat, Int.reduceLE, Int.reduceLT, Int.reduceSub, Int.reduceAdd, Nat.reduceEqDiff, Nat.reduceAdd, Nat.reduceLeDiff, Nat.reduceLT, Nat.reduceMul, Nat.reduceSub, beq_self_eq_true, bne_self_eq_false, Bool.not_true, Bool.not_false, decide_true]
    (repeat (first
      | refine WP_seq (fun K hK => ?_)
      | refine WP_block ?_
      | refine WP_scope ?_
      | ((first | refine WP_region ?_ | refine WP_draw 29 (by decide +kernel) ?_ | refine WP_draw 13 (by decide +kernel) ?_ | refine WP_skip ?_ | refine WP_exit ?_ | refine WP_ret ?_); try simp (disch := first | omega | (simp only [go_sem, ↓reduceIte, Nat.reduceEqDiff]; done) | fail) only [go_sem, ↓reduceIte, Int.reduceToNat, Int.reduceLE, Int.reduceLT, Int.reduceSub, Int.reduceAdd, Nat.reduceEqDiff, Nat.reduceAdd, Nat.reduceLeDiff, Nat.reduceLT, Nat.reduceMul, Nat.reduceSub, beq_self_eq_true, bne_self_eq_false, Bool.not_true, Bool.not_false, decide_true])
      | (refine WP_condK ?_; simp (disch := first | omega | (simp only [go_sem, ↓reduceIte, Nat.reduceEqDiff]; done) | fail) only [go_sem, ↓reduceIte, Int.reduceToNat, Int.reduceLE, Int.reduceLT, Int.reduceSub, Int.reduceAdd, Nat.reduceEqDiff, Nat.reduceAdd, Nat.reduceLeDiff, Nat.reduceLT, Nat.reduceMul, Nat.reduceSub, beq_self_eq_true, bne_self_eq_false, Bool.not_true, Bool.not_false, decide_true]; refine went ?_)
      | (refine hK _ _ (Wkn.refl ?_); clear hK K)
      | (clear hK K; first | (refine hK _ _ (Wkn.refl ?_); clear hK K) | (clear hK K; refine hK _ _ (Wkn.refl ?_); clear hK K))))
    first | refine (hQ _ _ ?_).1 | refine (hQ _ _ ?_).2
    simp (disch := first | omega | (simp only [go_sem, ↓reduceIte, Nat.reduceEqDiff]; done) | fail) only [go_sem, ↓reduceIte, Int.reduceToNat, Int.reduceLE, Int.reduceLT, Int.reduceSub, Int.reduceAdd, Nat.reduceEqDiff, Nat.reduceAdd, Nat.reduceLeDiff, Nat.reduceLT, Nat.reduceMul, Nat.reduceSub, beq_self_eq_true, bne_self_eq_false, Bool.not_true, Bool.not_false, decide_true]
    first | refine Fin.same (.bool _) ⟨?_, rfl⟩ | refine Fin.plain (.bool _) ⟨?_, rfl⟩ | refine Fin.plainE (by simp only [List.append_assoc, List.cons_append, List.nil_append]; rfl) (.bool _) ⟨?_, rfl⟩
    rfl
  refine (PKid_sat G e n he _).mono ?_
  rintro r h' ⟨rfl, rfl⟩
  try simp (disch := first | omega | (simp only [go_sem, ↓reduceIte, Nat.reduceEqDiff]; done) | fail) only [go_sem, ↓reduceIte, Int.reduceToNat, Int.reduceLE, Int.reduceLT, Int.reduceSub, Int.reduceAdd, Nat.reduceEqDiff, Nat.reduceAdd, Nat.reduceLeDiff, Nat.reduceLT, Nat.reduceMul, Nat.reduceSub, beq_self_eq_true, bne_self_eq_false, Bool.not_true, Bool.not_false, decide_true]
  (repeat (first
    | refine WP_seq (fun K hK => ?_)
    | refine WP_block ?_
    | refine WP_scope ?_
    | ((first | refine WP_region ?_ | refine WP_draw 29 (by decide +kernel) ?_ | refine WP_draw 13 (by decide +kernel) ?_ | refine WP_skip ?_ | refine WP_exit ?_ | refine WP_ret ?_); try simp (disch := first | omega | (simp only [go_sem, ↓reduceIte, Nat.reduceEqDiff]; done) | fail) only [go_sem, ↓reduceIte, Int.reduceToNat, Int.reduceLE, Int.reduceLT, Int.reduceSub, Int.reduceAdd, Nat.reduceEqDiff, Nat.reduceAdd, Nat.reduceLeDiff, Nat.reduceLT, Nat.reduceMul, Nat.reduceSub, beq_self_eq_true, bne_self_eq_false, Bool.not_true, Bool.not_false, decide_true])
    | (refine WP_condK ?_; simp (disch := first | omega | (simp only [go_sem, ↓reduceIte, Nat.reduceEqDiff]; done) | fail) only [go_sem, ↓reduceIte, Int.reduceToNat, Int.reduceLE, Int.reduceLT, Int.reduceSub, Int.reduceAdd, Nat.reduceEqDiff, Nat.reduceAdd, Nat.reduceLeDiff, Nat.reduceLT, Nat.reduceMul, Nat.reduceSub, beq_self_eq_true, bne_self_eq_false, Bool.not_true, Bool.not_false, decide_true]; refine went ?_)
    | (refine hK _ _ (Wkn.refl ?_); clear hK K)
    | (clear hK K; first | (refine hK _ _ (Wkn.refl ?_); clear hK K) | (clear hK K; refine hK _ _ (Wkn.refl ?_); clear hK K))))
  refine (Kid_sat G e n he _).mono ?_
  rintro r h' ⟨rfl, rfl⟩
  try simp (disch := first | omega | (simp only [go_sem, ↓reduceIte, Nat.reduceEqDiff]; done) | fail) only [go_sem, ↓reduceIte, Int.reduceToNat, Int.reduceLE, Int.reduceLT, Int.reduceSub, Int.reduceAdd, Nat.reduceEqDiff, Nat.reduceAdd, Nat.reduceLeDiff, Nat.reduceLT, Nat.reduceMul, Nat.reduceSub, beq_self_eq_true, bne_self_eq_false, Bool.not_true, Bool.not_false, decide_true]
  (repeat (first
    | refine WP_seq (fun K hK => ?_)
    | refine WP_block ?_
    | refine WP_scope ?_
    | ((first | refine WP_region ?_ | refine WP_draw 29 (by decide +kernel) ?_ | refine WP_draw 13 (by decide +kernel) ?_ | refine WP_skip ?_ | refine WP_exit ?_ | refine WP_ret ?_); try simp (disch := first | omega | (simp only [go_sem, ↓reduceIte, Nat.reduceEqDiff]; done) | fail) only [go_sem, ↓reduceIte, Int.reduceToNat, Int.reduceLE, Int.reduceLT, Int.reduceSub, Int.reduceAdd, Nat.reduceEqDiff, Nat.reduceAdd, Nat.reduceLeDiff, Nat.reduceLT, Nat.reduceMul, Nat.reduceSub, beq_self_eq_true, bne_self_eq_false, Bool.not_true, Bool.not_false, decide_true])
    | (refine WP_condK ?_; simp (disch := first | omega | (simp only [go_sem, ↓reduceIte, Nat.reduceEqDiff]; done) | fail) only [go_sem, ↓reduceIte, Int.reduceToNat, Int.reduceLE, Int.reduceLT, Int.reduceSub, Int.reduceAdd, Nat.reduceEqDiff, Nat.reduceAdd, Nat.reduceLeDiff, Nat.reduceLT, Nat.reduceMul, Nat.reduceSub, beq_self_eq_true, bne_self_eq_false, Bool.not_true, Bool.not_false, decide_true]; refine went ?_)
    | (refine hK _ _ (Wkn.refl ?_); clear hK K)
    | (clear hK K; first | (refine hK _ _ (Wkn.refl ?_); clear hK K) | (clear hK K; refine hK _ _ (Wkn.refl ?_); clear hK K))))
  refine (PAttr_sat G e n he _).mono ?_
  rintro r h' ⟨rfl, rfl⟩
  try simp (disch := first | omega | (simp only [go_sem, ↓reduceIte, Nat.reduceEqDiff]; done) | fail) only [go_sem, ↓reduceIte, Int.reduceToNat, Int.reduceLE, Int.reduceLT, Int.reduceSub, Int.reduceAdd, Nat.reduceEqDiff, Nat.reduceAdd, Nat.reduceLeDiff, Nat.reduceLT, Nat.reduceMul, Nat.reduceSub, beq_self_eq_true, bne_self_eq_false, Bool.not_true, Bool.not_false, decide_true]
  (repeat (first
    | refine WP_seq (fun K hK => ?_)
    | refine WP_block ?_
    | refine WP_scope ?_
    | ((first | refine WP_region ?_ | refine WP_draw 29 (by decide +kernel) ?_ | refine WP_draw 13 (by decide +kernel) ?_ | refine WP_skip ?_ | refine WP_exit ?_ | refine WP_ret ?_); try simp (disch := first | omega | (simp only [go_sem, ↓reduceIte, Nat.reduceEqDiff]; done) | fail) only [go_sem, ↓reduceIte, Int.reduceToNat, Int.reduceLE, Int.reduceLT, Int.reduceSub, Int.reduceAdd, Nat.reduceEqDiff, Nat.reduceAdd, Nat.reduceLeDiff, Nat.reduceLT, Nat.reduceMul, Nat.reduceSub, beq_self_eq_true, bne_self_eq_false, Bool.not_true, Bool.not_false, decide_true])
    | (refine WP_condK ?_; simp (disch := first | omega | (simp only [go_sem, ↓reduceIte, Nat.reduceEqDiff]; done) | fail) only [go_sem, ↓reduceIte, Int.reduceToNat, Int.reduceLE, Int.reduceLT, Int.reduceSub, Int.reduceAdd, Nat.reduceEqDiff, Nat.reduceAdd, Nat.reduceLeDiff, Nat.reduceLT, Nat.reduceMul, Nat.reduceSub, beq_self_eq_true, bne_self_eq_false, Bool.not_true, Bool.not_false, decide_true]; refine went ?_)
    | (refine hK _ _ (Wkn.refl ?_); clear hK K)
    | (clear hK K; first | (refine hK _ _ (Wkn.refl ?_); clear hK K) | (clear hK K; refine hK _ _ (Wkn.refl ?_); clear hK K))))
  refine (Attr_sat G e n he _).mono ?_
  rintro r h' ⟨rfl, rfl⟩
  try simp (disch := first | omega | (simp only [go_sem, ↓reduceIte, Nat.reduceEqDiff]; done) | fail) only [go_sem, ↓reduceIte, Int.reduceToNat, Int.reduceLE, Int.reduceLT, Int.reduceSub, Int.reduceAdd, Nat.reduceEqDiff, Nat.reduceAdd, Nat.reduceLeDiff, Nat.reduceLT, Nat.reduceMul, Nat.reduceSub, beq_self_eq_true, bne_self_eq_false, Bool.not_true, Bool.not_false, decide_true]
  (repeat (first
    | refine WP_seq (fun K hK => ?_)
    | refine WP_block ?_
    | refine WP_scope ?_
    | ((first | refine WP_region ?_ | refine WP_draw 29 (by decide +kernel) ?_ | refine WP_draw 13 (by decide +kernel) ?_ | refine WP_skip ?_ | refine WP_exit ?_ | refine WP_ret ?_); try simp (disch := first | omega | (simp only [go_sem, ↓reduceIte, Nat.reduceEqDiff]; done) | fail) only [go_sem, ↓reduceIte, Int.reduceToNat, Int.reduceLE, Int.reduceLT, Int.reduceSub, Int.reduceAdd, Nat.reduceEqDiff, Nat.reduceAdd, Nat.reduceLeDiff, Nat.reduceLT, Nat.reduceMul, Nat.reduceSub, beq_self_eq_true, bne_self_eq_false, Bool.not_true, Bool.not_false, decide_true])
    | (refine WP_condK ?_; simp (disch := first | omega | (simp only [go_sem, ↓reduceIte, Nat.reduceEqDiff]; done) | fail) only [go_sem, ↓reduceIte, Int.reduceToNat, Int.reduceLE, Int.reduceLT, Int.reduceSub, Int.reduceAdd, Nat.reduceEqDiff, Nat.reduceAdd, Nat.reduceLeDiff, Nat.reduceLT, Nat.reduceMul, Nat.reduceSub, beq_self_eq_true, bne_self_eq_false, Bool.not_true, Bool.not_false, decide_true]; refine went ?_)
    | (refine hK _ _ (Wkn.refl ?_); clear hK K)
    | (clear hK K; first | (refine hK _ _ (Wkn.refl ?_); clear hK K) | (clear hK K; refine hK _ _ (Wkn.refl ?_); clear hK K))))
  refine (hlives _).mono ?_
  rintro r h' ⟨rfl, rfl⟩
  try simp (disch := first | omega | (simp only [go_sem, ↓reduceIte, Nat.reduceEqDiff]; done) | fail) only [go_sem, ↓reduceIte, Int.reduceToNat, Int.reduceLE, Int.reduceLT, Int.reduceSub, Int.reduceAdd, Nat.reduceEqDiff, Nat.reduceAdd, Nat.reduceLeDiff, Nat.reduceLT, Nat.reduceMul, Nat.reduceSub, beq_self_eq_true, bne_self_eq_false, Bool.not_true, Bool.not_false, decide_true]
  (repeat (first
    | refine WP_seq (fun K hK => ?_)
    | refine WP_block ?_
    | refine WP_scope ?_
    | ((first | refine WP_region ?_ | refine WP_draw 29 (by decide +kernel) ?_ | refine WP_draw 13 (by decide +kernel) ?_ | refine WP_skip ?_ | refine WP_exit ?_ | refine WP_ret ?_); try simp (disch := first | omega | (simp only [go_sem, ↓reduceIte, Nat.reduceEqDiff]; done) | fail) only [go_sem, ↓reduceIte, Int.reduceToNat, Int.reduceLE, Int.reduceLT, Int.reduceSub, Int.reduceAdd, Nat.reduceEqDiff, Nat.reduceAdd, Nat.reduceLeDiff, Nat.reduceLT, Nat.reduceMul, Nat.reduceSub, beq_self_eq_true, bne_self_eq_false, Bool.not_true, Bool.not_false, decide_true])
    | (refine WP_condK ?_; simp (disch := first | omega | (simp only [go_sem, ↓reduceIte, Nat.reduceEqDiff]; done) | fail) only [go_sem, ↓reduceIte, Int.reduceToNat, Int.reduceLE, Int.reduceLT, Int.reduceSub, Int.reduceAdd, Nat.reduceEqDiff, Nat.reduceAdd, Nat.reduceLeDiff, Nat.reduceLT, Nat.reduceMul, Nat.reduceSub, beq_self_eq_true, bne_self_eq_false, Bool.not_true, Bool.not_false, decide_true]; refine went ?_)
    | (refine hK _ _ (Wkn.refl ?_); clear hK K)
    | (clear hK K; first | (refine hK _ _ (Wkn.refl ?_); clear hK K) | (clear hK K; refine hK _ _ (Wkn.refl ?_); clear hK K))))
  have hkl := e.kids_len
  have hks : szs Elem.sz (kidsF e n) ≤ e.sz := by
    have h1 : ∀ (p : Elem → Bool) (l : List Elem), szs Elem.sz (l.filter p) ≤ szs Elem.sz l := fun p l => by
      induction l with
      | nil => exact Nat.le_refl _
      | cons x l ih => rw [List.filter_cons]; split <;> simp only [szs] <;> omega
    have := h1 (fun k => decide (short k.name = n)) e.kids
    have h2 := e.sz_eq
    unfold kidsF; omega
  have htk := tokT_len e 1
  have tail : ∀ t' : Env, t' 2 = .str n → t' 3 = .hp h.length 0 0 0 → t' 4 = .hp (h.length + 1) 0 0 0 → t' 88 = .bool false →
      K t' (h ++ [.row 26 4 0 [e.av], .row 26 4 0 [f.av], .row 26 4 0 [(kidF e n).1.av], .row 26 4 0 [(kidF e n).1.av]]) := by
    intro t' e2 e3 e4 e88
    refine hK _ _ (Wkn.refl ?_)
    clear hK K
    skip
    (repeat (first
      | refine WP_seq (fun K hK => ?_)
      | refine WP_block ?_
      | refine WP_scope ?_
      | ((first | refine WP_region ?_ | refine WP_draw 29 (by decide +kernel) ?_ | refine WP_draw 13 (by decide +kernel) ?_ | refine WP_skip ?_ | refine WP_exit ?_ | refine WP_ret ?_); try simp (disch := first | omega | (simp only [go_sem, ↓reduceIte, Nat.reduceEqDiff]; done) | fail) only [go_sem, ↓reduceIte, Int.reduceToNat, Int.reduceLE, Int.reduceLT, Int.reduceSub, Int.reduceAdd, Nat.reduceEqDiff, Nat.reduceAdd, Nat.reduceLeDiff, Nat.reduceLT, Nat.reduceMul, Nat.reduceSub, beq_self_eq_true, bne_self_eq_false, Bool.not_true, Bool.not_false, decide_true, e2, e3, e4, e88])
      | (refine WP_condK ?_; simp (disch := first | omega | (simp only [go_sem, ↓reduceIte, Nat.reduceEqDiff]; done) | fail) only [go_sem, ↓reduceIte, Int.reduceToNat, Int.reduceLE, Int.reduceLT, Int.reduceSub, Int.reduceAdd, Nat.reduceEqDiff, Nat.reduceAdd, Nat.reduceLeDiff, Nat.reduceLT, Nat.reduceMul, Nat.reduceSub, beq_self_eq_true, bne_self_eq_false, Bool.not_true, Bool.not_false, decide_true, e2, e3, e4, e88]; refine went ?_)
      | (refine hK _ _ (Wkn.refl ?_); clear hK K)
      | (clear hK K; first | (refine hK _ _ (Wkn.refl ?_); clear hK K) | (clear hK K; refine hK _ _ (Wkn.refl ?_); clear hK K))))
    refine ⟨_, PAll_sat G e he _, ?_⟩
    try simp (disch := first | omega | (simp only [go_sem, ↓reduceIte, Nat.reduceEqDiff]; done) | fail) only [go_sem, ↓reduceIte, Int.reduceToNat, Int.reduceLE, Int.reduceLT, Int.reduceSub, Int.reduceAdd, Nat.reduceEqDiff, Nat.reduceAdd, Nat.reduceLeDiff, Nat.reduceLT, Nat.reduceMul, Nat.reduceSub, beq_self_eq_true, bne_self_eq_false, Bool.not_true, Bool.not_false, decide_true, e2, e3, e4, e88]
    (repeat (first
      | refine WP_seq (fun K hK => ?_)
      | refine WP_block ?_
      | refine WP_scope ?_
      | ((first | refine WP_region ?_ | refine WP_draw 29 (by decide +kernel) ?_ | refine WP_draw 13 (by decide +kernel) ?_ | refine WP_skip ?_ | refine WP_exit ?_ | refine WP_ret ?_); try simp (disch := first | omega | (simp only [go_sem, ↓reduceIte, Nat.reduceEqDiff]; done) | fail) only [go_sem, ↓reduceIte, Int.reduceToNat, Int.reduceLE, Int.reduceLT, Int.reduceSub, Int.reduceAdd, Nat.reduceEqDiff, Nat.reduceAdd, Nat.reduceLeDiff, Nat.reduceLT, Nat.reduceMul, Nat.reduceSub, beq_self_eq_true, bne_self_eq_false, Bool.not_true, Bool.not_false, decide_true, e2, e3, e4, e88])
      | (refine WP_condK ?_; simp (disch := first | omega | (simp only [go_sem, ↓reduceIte, Nat.reduceEqDiff]; done) | fail) only [go_sem, ↓reduceIte, Int.reduceToNat, Int.reduceLE, Int.reduceLT, Int.reduceSub, Int.reduceAdd, Nat.reduceEqDiff, Nat.reduceAdd, Nat.reduceLeDiff, Nat.reduceLT, Nat.reduceMul, Nat.reduceSub, beq_self_eq_true, bne_self_eq_false, Bool.not_true, Bool.not_false, decide_true, e2, e3, e4, e88]; refine went ?_)
      | (refine hK _ _ (Wkn.refl ?_); clear hK K)
      | (clear hK K; first | (refine hK _ _ (Wkn.refl ?_); clear hK K) | (clear hK K; refine hK _ _ (Wkn.refl ?_); clear hK K))))
    refine ⟨_, All_sat G e he _, ?_⟩
    try simp (disch := first | omega | (simp only [go_sem, ↓reduceIte, Nat.reduceEqDiff]; done) | fail) only [go_sem, ↓reduceIte, Int.reduceToNat, Int.reduceLE, Int.reduceLT, Int.reduceSub, Int.reduceAdd, Nat.reduceEqDiff, Nat.reduceAdd, Nat.reduceLeDiff, Nat.reduceLT, Nat.reduceMul, Nat.reduceSub, beq_self_eq_true, bne_self_eq_false, Bool.not_true, Bool.not_false, decide_true, e2, e3, e4, e88]
    (repeat (first
      | refine WP_seq (fun K hK => ?_)
      | refine WP_block ?_
      | refine WP_scope ?_
      | ((first | refine WP_region ?_ | refine WP_draw 29 (by decide +kernel) ?_ | refine WP_draw 13 (by decide +kernel) ?_ | refine WP_skip ?_ | refine WP_exit ?_ | refine WP_ret ?_); try simp (disch := first | omega | (simp only [go_sem, ↓reduceIte, Nat.reduceEqDiff]; done) | fail) only [go_sem, ↓reduceIte, Int.reduceToNat, Int.reduceLE, Int.reduceLT, Int.reduceSub, Int.reduceAdd, Nat.reduceEqDiff, Nat.reduceAdd, Nat.reduceLeDiff, Nat.reduceLT, Nat.reduceMul, Nat.reduceSub, beq_self_eq_true, bne_self_eq_false, Bool.not_true, Bool.not_false, decide_true, e2, e3, e4, e88])
      | (refine WP_condK ?_; simp (disch := first | omega | (simp only [go_sem, ↓reduceIte, Nat.reduceEqDiff]; done) | fail) only [go_sem, ↓reduceIte, Int.reduceToNat, Int.reduceLE, Int.reduceLT, Int.reduceSub, Int.reduceAdd, Nat.reduceEqDiff, Nat.reduceAdd, Nat.reduceLeDiff, Nat.reduceLT, Nat.reduceMul, Nat.reduceSub, beq_self_eq_true, bne_self_eq_false, Bool.not_true, Bool.not_false, decide_true, e2, e3, e4, e88]; refine went ?_)
      | (refine hK _ _ (Wkn.refl ?_); clear hK K)
      | (clear hK K; first | (refine hK _ _ (Wkn.refl ?_); clear hK K) | (clear hK K; refine hK _ _ (Wkn.refl ?_); clear hK K))))
    refine ⟨_, PSize_sat G e he _, ?_⟩
    try simp (disch := first | omega | (simp only [go_sem, ↓reduceIte, Nat.reduceEqDiff]; done) | fail) only [go_sem, ↓reduceIte, Int.reduceToNat, Int.reduceLE, Int.reduceLT, Int.reduceSub, Int.reduceAdd, Nat.reduceEqDiff, Nat.reduceAdd, Nat.reduceLeDiff, Nat.reduceLT, Nat.reduceMul, Nat.reduceSub, beq_self_eq_true, bne_self_eq_false, Bool.not_true, Bool.not_false, decide_true, e2, e3, e4, e88]
    (repeat (first
      | refine WP_seq (fun K hK => ?_)
      | refine WP_block ?_
      | refine WP_scope ?_
      | ((first | refine WP_region ?_ | refine WP_draw 29 (by decide +kernel) ?_ | refine WP_draw 13 (by decide +kernel) ?_ | refine WP_skip ?_ | refine WP_exit ?_ | refine WP_ret ?_); try simp (disch := first | omega | (simp only [go_sem, ↓reduceIte, Nat.reduceEqDiff]; done) | fail) only [go_sem, ↓reduceIte, Int.reduceToNat, Int.reduceLE, Int.reduceLT, Int.reduceSub, Int.reduceAdd, Nat.reduceEqDiff, Nat.reduceAdd, Nat.reduceLeDiff, Nat.reduceLT, Nat.reduceMul, Nat.reduceSub, beq_self_eq_true, bne_self_eq_false, Bool.not_true, Bool.not_false, decide_true, e2, e3, e4, e88])
      | (refine WP_condK ?_; simp (disch := first | omega | (simp only [go_sem, ↓reduceIte, Nat.reduceEqDiff]; done) | fail) only [go_sem, ↓reduceIte, Int.reduceToNat, Int.reduceLE, Int.reduceLT, Int.reduceSub, Int.reduceAdd, Nat.reduceEqDiff, Nat.reduceAdd, Nat.reduceLeDiff, Nat.reduceLT, Nat.reduceMul, Nat.reduceSub, beq_self_eq_true, bne_self_eq_false, Bool.not_true, Bool.not_false, decide_true, e2, e3, e4, e88]; refine went ?_)
      | (refine hK _ _ (Wkn.refl ?_); clear hK K)
      | (clear hK K; first | (refine hK _ _ (Wkn.refl ?_); clear hK K) | (clear hK K; refine hK _ _ (Wkn.refl ?_); clear hK K))))
    refine ⟨_, Size_sat G e he _, ?_⟩
    try simp (disch := first | omega | (simp only [go_sem, ↓reduceIte, Nat.reduceEqDiff]; done) | fail) only [go_sem, ↓reduceIte, Int.reduceToNat, Int.reduceLE, Int.reduceLT, Int.reduceSub, Int.reduceAdd, Nat.reduceEqDiff, Nat.reduceAdd, Nat.reduceLeDiff, Nat.reduceLT, Nat.reduceMul, Nat.reduceSub, beq_self_eq_true, bne_self_eq_false, Bool.not_true, Bool.not_false, decide_true, e2, e3, e4, e88]
    (repeat (first
      | refine WP_seq (fun K hK => ?_)
      | refine WP_block ?_
      | refine WP_scope ?_
      | ((first | refine WP_region ?_ | refine WP_draw 29 (by decide +kernel) ?_ | refine WP_draw 13 (by decide +kernel) ?_ | refine WP_skip ?_ | refine WP_exit ?_ | refine WP_ret ?_); try simp (disch := first | omega | (simp only [go_sem, ↓reduceIte, Nat.reduceEqDiff]; done) | fail) only [go_sem, ↓reduceIte, Int.reduceToNat, Int.reduceLE, Int.reduceLT, Int.reduceSub, Int.reduceAdd, Nat.reduceEqDiff, Nat.reduceAdd, Nat.reduceLeDiff, Nat.reduceLT, Nat.reduceMul, Nat.reduceSub, beq_self_eq_true, bne_self_eq_false, Bool.not_true, Bool.not_false, decide_true, e2, e3, e4, e88])
      | (refine WP_condK ?_; simp (disch := first | omega | (simp only [go_sem, ↓reduceIte, Nat.reduceEqDiff]; done) | fail) only [go_sem, ↓reduceIte, Int.reduceToNat, Int.reduceLE, Int.reduceLT, Int.reduceSub, Int.reduceAdd, Nat.reduceEqDiff, Nat.reduceAdd, Nat.reduceLeDiff, Nat.reduceLT, Nat.reduceMul, Nat.reduceSub, beq_self_eq_true, bne_self_eq_false, Bool.not_true, Bool.not_false, decide_true, e2, e3, e4, e88]; refine went ?_)
      | (refine hK _ _ (Wkn.refl ?_); clear hK K)
      | (clear hK K; first | (refine hK _ _ (Wkn.refl ?_); clear hK K) | (clear hK K; refine hK _ _ (Wkn.refl ?_); clear hK K))))
    refine ⟨_, PSame_sat G e f he hf _, ?_⟩
    try simp (disch := first | omega | (simp only [go_sem, ↓reduceIte, Nat.reduceEqDiff]; done) | fail) only [go_sem, ↓reduceIte, Int.reduceToNat, Int.reduceLE, Int.reduceLT, Int.reduceSub, Int.reduceAdd, Nat.reduceEqDiff, Nat.reduceAdd, Nat.reduceLeDiff, Nat.reduceLT, Nat.reduceMul, Nat.reduceSub, beq_self_eq_true, bne_self_eq_false, Bool.not_true, Bool.not_false, decide_true, e2, e3, e4, e88]
    (repeat (first
      | refine WP_seq (fun K hK => ?_)
      | refine WP_block ?_
      | refine WP_scope ?_
      | ((first | refine WP_region ?_ | refine WP_draw 29 (by decide +kernel) ?_ | refine WP_draw 13 (by decide +kernel) ?_ | refine WP_skip ?_ | refine WP_exit ?_ | refine WP_ret ?_); try simp (disch := first | omega | (simp only [go_sem, ↓reduceIte, Nat.reduceEqDiff]; done) | fail) only [go_sem, ↓reduceIte, Int.reduceToNat, Int.reduceLE, Int.reduceLT, Int.reduceSub, Int.reduceAdd, Nat.reduceEqDiff, Nat.reduceAdd, Nat.reduceLeDiff, Nat.reduceLT, Nat.reduceMul, Nat.reduceSub, beq_self_eq_true, bne_self_eq_false, Bool.not_true, Bool.not_false, decide_true, e2, e3, e4, e88])
      | (refine WP_condK ?_; simp (disch := first | omega | (simp only [go_sem, ↓reduceIte, Nat.reduceEqDiff]; done) | fail) only [go_sem, ↓reduceIte, Int.reduceToNat, Int.reduceLE, Int.reduceLT, Int.reduceSub, Int.reduceAdd, Nat.reduceEqDiff, Nat.reduceAdd, Nat.reduceLeDiff, Nat.reduceLT, Nat.reduceMul, Nat.reduceSub, beq_self_eq_true, bne_self_eq_false, Bool.not_true, Bool.not_false, decide_true, e2, e3, e4, e88]; refine went ?_)
      | (refine hK _ _ (Wkn.refl ?_); clear hK K)
      | (clear hK K; first | (refine hK _ _ (Wkn.refl ?_); clear hK K) | (clear hK K; refine hK _ _ (Wkn.refl ?_); clear hK K))))
    refine ⟨_, Same_sat G e f he hf _, ?_⟩
    try simp (disch := first | omega | (simp only [go_sem, ↓reduceIte, Nat.reduceEqDiff]; done) | fail) only [go_sem, ↓reduceIte, Int.reduceToNat, Int.reduceLE, Int.reduceLT, Int.reduceSub, Int.reduceAdd, Nat.reduceEqDiff, Nat.reduceAdd, Nat.reduceLeDiff, Nat.reduceLT, Nat.reduceMul, Nat.reduceSub, beq_self_eq_true, bne_self_eq_false, Bool.not_true, Bool.not_false, decide_true, e2, e3, e4, e88]
    (repeat (first
      | refine WP_seq (fun K hK => ?_)
      | refine WP_block ?_
      | refine WP_scope ?_
      | ((first | refine WP_region ?_ | refine WP_draw 29 (by decide +kernel) ?_ | refine WP_draw 13 (by decide +kernel) ?_ | refine WP_skip ?_ | refine WP_exit ?_ | refine WP_ret ?_); try simp (disch := first | omega | (simp only [go_sem, ↓reduceIte, Nat.reduceEqDiff]; done) | fail) only [go_sem, ↓reduceIte, Int.reduceToNat, Int.reduceLE, Int.reduceLT, Int.reduceSub, Int.reduceAdd, Nat.reduceEqDiff, Nat.reduceAdd, Nat.reduceLeDiff, Nat.reduceLT, Nat.reduceMul, Nat.reduceSub, beq_self_eq_true, bne_self_eq_false, Bool.not_true, Bool.not_false, decide_true, e2, e3, e4, e88])
      | (refine WP_condK ?_; simp (disch := first | omega | (simp only [go_sem, ↓reduceIte, Nat.reduceEqDiff]; done) | fail) only [go_sem, ↓reduceIte, Int.reduceToNat, Int.reduceLE, Int.reduceLT, Int.reduceSub, Int.reduceAdd, Nat.reduceEqDiff, Nat.reduceAdd, Nat.reduceLeDiff, Nat.reduceLT, Nat.reduceMul, Nat.reduceSub, beq_self_eq_true, bne_self_eq_false, Bool.not_true, Bool.not_false, decide_true, e2, e3, e4, e88]; refine went ?_)
      | (refine hK _ _ (Wkn.refl ?_); clear hK K)
      | (clear hK K; first | (refine hK _ _ (Wkn.refl ?_); clear hK K) | (clear hK K; refine hK _ _ (Wkn.refl ?_); clear hK K))))
    refine ⟨_, PTokens_sat G e he _, ?_⟩
    try simp (disch := first | omega | (simp only [go_sem, ↓reduceIte, Nat.reduceEqDiff]; done) | fail) only [go_sem, ↓reduceIte, Int.reduceToNat, Int.reduceLE, Int.reduceLT, Int.reduceSub, Int.reduceAdd, Nat.reduceEqDiff, Nat.reduceAdd, Nat.reduceLeDiff, Nat.reduceLT, Nat.reduceMul, Nat.reduceSub, beq_self_eq_true, bne_self_eq_false, Bool.not_true, Bool.not_false, decide_true, e2, e3, e4, e88]
    (repeat (first
      | refine WP_seq (fun K hK => ?_)
      | refine WP_block ?_
      | refine WP_scope ?_
      | ((first | refine WP_region ?_ | refine WP_draw 29 (by decide +kernel) ?_ | refine WP_draw 13 (by decide +kernel) ?_ | refine WP_skip ?_ | refine WP_exit ?_ | refine WP_ret ?_); try simp (disch := first | omega | (simp only [go_sem, ↓reduceIte, Nat.reduceEqDiff]; done) | fail) only [go_sem, ↓reduceIte, Int.reduceToNat, Int.reduceLE, Int.reduceLT, Int.reduceSub, Int.reduceAdd, Nat.reduceEqDiff, Nat.reduceAdd, Nat.reduceLeDiff, Nat.reduceLT, Nat.reduceMul, Nat.reduceSub, beq_self_eq_true, bne_self_eq_false, Bool.not_true, Bool.not_false, decide_true, e2, e3, e4, e88])
      | (refine WP_condK ?_; simp (disch := first | omega | (simp only [go_sem, ↓reduceIte, Nat.reduceEqDiff]; done) | fail) only [go_sem, ↓reduceIte, Int.reduceToNat, Int.reduceLE, Int.reduceLT, Int.reduceSub, Int.reduceAdd, Nat.reduceEqDiff, Nat.reduceAdd, Nat.reduceLeDiff, Nat.reduceLT, Nat.reduceMul, Nat.reduceSub, beq_self_eq_true, bne_self_eq_false, Bool.not_true, Bool.not_false, decide_true, e2, e3, e4, e88]; refine went ?_)
      | (refine hK _ _ (Wkn.refl ?_); clear hK K)
      | (clear hK K; first | (refine hK _ _ (Wkn.refl ?_); clear hK K) | (clear hK K; refine hK _ _ (Wkn.refl ?_); clear hK K))))
    refine ⟨_, Tokens_sat G e he _, ?_⟩
    try simp (disch := first | omega | (simp only [go_sem, ↓reduceIte, Nat.reduceEqDiff]; done) | fail) only [go_sem, ↓reduceIte, Int.reduceToNat, Int.reduceLE, Int.reduceLT, Int.reduceSub, Int.reduceAdd, Nat.reduceEqDiff, Nat.reduceAdd, Nat.reduceLeDiff, Nat.reduceLT, Nat.reduceMul, Nat.reduceSub, beq_self_eq_true, bne_self_eq_false, Bool.not_true, Bool.not_false, decide_true, e2, e3, e4, e88]
    (repeat (first
      | refine WP_seq (fun K hK => ?_)
      | refine WP_block ?_
      | refine WP_scope ?_
      | ((first | refine WP_region ?_ | refine WP_draw 29 (by decide +kernel) ?_ | refine WP_draw 13 (by decide +kernel) ?_ | refine WP_skip ?_ | refine WP_exit ?_ | refine WP_ret ?_); try simp (disch := first | omega | (simp only [go_sem, ↓reduceIte, Nat.reduceEqDiff]; done) | fail) only [go_sem, ↓reduceIte, Int.reduceToNat, Int.reduceLE, Int.reduceLT, Int.reduceSub, Int.reduceAdd, Nat.reduceEqDiff, Nat.reduceAdd, Nat.reduceLeDiff, Nat.reduceLT, Nat.reduceMul, Nat.reduceSub, beq_self_eq_true, bne_self_eq_false, Bool.not_true, Bool.not_false, decide_true, e2, e3, e4, e88])
      | (refine WP_condK ?_; simp (disch := first | omega | (simp only [go_sem, ↓reduceIte, Nat.reduceEqDiff]; done) | fail) only [go_sem, ↓reduceIte, Int.reduceToNat, Int.reduceLE, Int.reduceLT, Int.reduceSub, Int.reduceAdd, Nat.reduceEqDiff, Nat.reduceAdd, Nat.reduceLeDiff, Nat.reduceLT, Nat.reduceMul, Nat.reduceSub, beq_self_eq_true, bne_self_eq_false, Bool.not_true, Bool.not_false, decide_true, e2, e3, e4, e88]; refine went ?_)
      | (refine hK _ _ (Wkn.refl ?_); clear hK K)
      | (clear hK K; first | (refine hK _ _ (Wkn.refl ?_); clear hK K) | (clear hK K; refine hK _ _ (Wkn.refl ?_); clear hK K))))
    have h1 := tokT_szs e 1
    have h2 := tokT_at e 1
    refine ⟨_, SameToks_sat G (tokT e 1) (tokT e 1) (by omega) (by omega) (fun t ht => by have := h2 t ht; omega) (fun t ht => by have := h2 t ht; omega) _, ?_⟩
    try simp (disch := first | omega | (simp only [go_sem, ↓reduceIte, Nat.reduceEqDiff]; done) | fail) only [go_sem, ↓reduceIte, Int.reduceToNat, Int.reduceLE, Int.reduceLT, Int.reduceSub, Int.reduceAdd, Nat.reduceEqDiff, Nat.reduceAdd, Nat.reduceLeDiff, Nat.reduceLT, Nat.reduceMul, Nat.reduceSub, beq_self_eq_true, bne_self_eq_false, Bool.not_true, Bool.not_false, decide_true, e2, e3, e4, e88]
    (repeat (first
      | refine WP_seq (fun K hK => ?_)
      | refine WP_block ?_
      | refine WP_scope ?_
      | ((first | refine WP_region ?_ | refine WP_draw 29 (by decide +kernel) ?_ | refine WP_draw 13 (by decide +kernel) ?_ | refine WP_skip ?_ | refine WP_exit ?_ | refine WP_ret ?_); try simp (disch := first | omega | (simp only [go_sem, ↓reduceIte, Nat.reduceEqDiff]; done) | fail) only [go_sem, ↓reduceIte, Int.reduceToNat, Int.reduceLE, Int.reduceLT, Int.reduceSub, Int.reduceAdd, Nat.reduceEqDiff, Nat.reduceAdd, Nat.reduceLeDiff, Nat.reduceLT, Nat.reduceMul, Nat.reduceSub, beq_self_eq_true, bne_self_eq_false, Bool.not_true, Bool.not_false, decide_true, e2, e3, e4, e88])
      | (refine WP_condK ?_; simp (disch := first | omega | (simp only [go_sem, ↓reduceIte, Nat.reduceEqDiff]; done) | fail) only [go_sem, ↓reduceIte, Int.reduceToNat, Int.reduceLE, Int.reduceLT, Int.reduceSub, Int.reduceAdd, Nat.reduceEqDiff, Nat.reduceAdd, Nat.reduceLeDiff, Nat.reduceLT, Nat.reduceMul, Nat.reduceSub, beq_self_eq_true, bne_self_eq_false, Bool.not_true, Bool.not_false, decide_true, e2, e3, e4, e88]; refine went ?_)
      | (refine hK _ _ (Wkn.refl ?_); clear hK K)
      | (clear hK K; first | (refine hK _ _ (Wkn.refl ?_); clear hK K) | (clear hK K; refine hK _ _ (Wkn.refl ?_); clear hK K))))
    refine ⟨_, Deep_sat G 39 1 (by omega) (by omega) e he _, ?_⟩
    try simp (disch := first | omega | (simp only [go_sem, ↓reduceIte, Nat.reduceEqDiff]; done) | fail) only [go_sem, ↓reduceIte, Int.reduceToNat, Int.reduceLE, Int.reduceLT, Int.reduceSub, Int.reduceAdd, Nat.reduceEqDiff, Nat.reduceAdd, Nat.reduceLeDiff, Nat.reduceLT, Nat.reduceMul, Nat.reduceSub, beq_self_eq_true, bne_self_eq_false, Bool.not_true, Bool.not_false, decide_true, e2, e3, e4, e88]
    (repeat (first
      | refine WP_seq (fun K hK => ?_)
      | refine WP_block ?_
      | refine WP_scope ?_
      | ((first | refine WP_region ?_ | refine WP_draw 29 (by decide +kernel) ?_ | refine WP_draw 13 (by decide +kernel) ?_ | refine WP_skip ?_ | refine WP_exit ?_ | refine WP_ret ?_); try simp (disch := first | omega | (simp only [go_sem, ↓reduceIte, Nat.reduceEqDiff]; done) | fail) only [go_sem, ↓reduceIte, Int.reduceToNat, Int.reduceLE, Int.reduceLT, Int.reduceSub, Int.reduceAdd, Nat.reduceEqDiff, Nat.reduceAdd, Nat.reduceLeDiff, Nat.reduceLT, Nat.reduceMul, Nat.reduceSub, beq_self_eq_true, bne_self_eq_false, Bool.not_true, Bool.not_false, decide_true, e2, e3, e4, e88])
      | (refine WP_condK ?_; simp (disch := first | omega | (simp only [go_sem, ↓reduceIte, Nat.reduceEqDiff]; done) | fail) only [go_sem, ↓reduceIte, Int.reduceToNat, Int.reduceLE, Int.reduceLT, Int.reduceSub, Int.reduceAdd, Nat.reduceEqDiff, Nat.reduceAdd, Nat.reduceLeDiff, Nat.reduceLT, Nat.reduceMul, Nat.reduceSub, beq_self_eq_true, bne_self_eq_false, Bool.not_true, Bool.not_false, decide_true, e2, e3, e4, e88]; refine went ?_)
      | (refine hK _ _ (Wkn.refl ?_); clear hK K)
      | (clear hK K; first | (refine hK _ _ (Wkn.refl ?_); clear hK K) | (clear hK K; refine hK _ _ (Wkn.refl ?_); clear hK K))))
    (first | refine WPl_gsplit rfl (by simp (disch := first | omega | (simp only [go_sem, ↓reduceIte, Nat.reduceEqDiff]; done) | fail) only [go_sem, ↓reduceIte, Int.reduceToNat, Int.reduceLE, Int.reduceLT, Int.reduceSub, Int.reduceAdd, Nat.reduceEqDiff, Nat.reduceAdd, Nat.reduceLeDiff, Nat.reduceLT, Nat.reduceMul, Nat.reduceSub, beq_self_eq_true, bne_self_eq_false, Bool.not_true, Bool.not_false, decide_true, e2, e3, e4, e88]; rfl) (fun hd => ?_) (fun hd => ?_) | refine WPp_gsplit rfl (by simp (disch := first | omega | (simp only [go_sem, ↓reduceIte, Nat.reduceEqDiff]; done) | fail) only [go_sem, ↓reduceIte, Int.reduceToNat, Int.reduceLE, Int.reduceLT, Int.reduceSub, Int.reduceAdd, Nat.reduceEqDiff, Nat.reduceAdd, Nat.reduceLeDiff, Nat.reduceLT, Nat.reduceMul, Nat.reduceSub, beq_self_eq_true, bne_self_eq_false, Bool.not_true, Bool.not_false, decide_true, e2, e3, e4, e88]; rfl) (fun hd => ?_) (fun hd => ?_)) <;> (try simp only [Bool.false_or, Bool.or_false, Bool.true_or, Bool.or_true, Bool.false_and, Bool.and_false, Bool.and_true, Bool.true_and, Bool.or_eq_true, Bool.or_eq_false_iff, Bool.and_eq_true, Bool.and_eq_false_iff, Nat.not_lt, Nat.not_le, decide_eq_true_eq, decide_eq_false_iff_not, Bool.not_eq_true', Bool.not_eq_false', beq_iff_eq, bne_iff_ne, ne_eq, beq_eq_false_iff_ne, bne_eq_false_iff_eq, Bool.not_eq_true, Bool.not_eq_false, Int.not_lt, Int.not_le, gt_iff_lt, ge_iff_le, Int.ofNat_lt, Int.ofNat_le, Int.natCast_inj, Int.natCast_inj, Bool.not_not, decide_not, Decidable.not_not] at hd) <;> (try simp (disch := first | omega | (simp only [go_sem, ↓reduceIte, Nat.reduceEqDiff]; done) | fail) only [go_sem, ↓reduceIte, Int.reduceToNat, Int.reduceLE, Int.reduceLT, Int.reduceSub, Int.reduceAdd, Nat.reduceEqDiff, Nat.reduceAdd, Nat.reduceLeDiff, Nat.reduceLT, Nat.reduceMul, Nat.reduceSub, beq_self_eq_true, bne_self_eq_false, Bool.not_true, Bool.not_false, decide_true, e2, e3, e4, e88]) <;>
      (repeat (first
        | refine WP_seq (fun K hK => ?_)
        | refine WP_block ?_
        | refine WP_scope ?_
        | ((first | refine WP_region ?_ | refine WP_draw 29 (by decide +kernel) ?_ | refine WP_draw 13 (by decide +kernel) ?_ | refine WP_skip ?_ | refine WP_exit ?_ | refine WP_ret ?_); try simp (disch := first | omega | (simp only [go_sem, ↓reduceIte, Nat.reduceEqDiff]; done) | fail) only [go_sem, ↓reduceIte, Int.reduceToNat, Int.reduceLE, Int.reduceLT, Int.reduceSub, Int.reduceAdd, Nat.reduceEqDiff, Nat.reduceAdd, Nat.reduceLeDiff, Nat.reduceLT, Nat.reduceMul, Nat.reduceSub, beq_self_eq_true, bne_self_eq_false, Bool.not_true, Bool.not_false, decide_true, e2, e3, e4, e88])
        | (refine WP_condK ?_; simp (disch := first | omega | (simp only [go_sem, ↓reduceIte, Nat.reduceEqDiff]; done) | fail) only [go_sem, ↓reduceIte, Int.reduceToNat, Int.reduceLE, Int.reduceLT, Int.reduceSub, Int.reduceAdd, Nat.reduceEqDiff, Nat.reduceAdd, Nat.reduceLeDiff, Nat.reduceLT, Nat.reduceMul, Nat.reduceSub, beq_self_eq_true, bne_self_eq_false, Bool.not_true, Bool.not_false, decide_true, e2, e3, e4, e88]; refine went ?_)
        | (refine hK _ _ (Wkn.refl ?_); clear hK K)
        | (clear hK K; first | (refine hK _ _ (Wkn.refl ?_); clear hK K) | (clear hK K; refine hK _ _ (Wkn.refl ?_); clear hK K))))
    · first | refine (hQ _ _ ?_).1 | refine (hQ _ _ ?_).2
      simp (disch := first | omega | (simp only [go_sem, ↓reduceIte, Nat.reduceEqDiff]; done) | fail) only [go_sem, ↓reduceIte, Int.reduceToNat, Int.reduceLE, Int.reduceLT, Int.reduceSub, Int.reduceAdd, Nat.reduceEqDiff, Nat.reduceAdd, Nat.reduceLeDiff, Nat.reduceLT, Nat.reduceMul, Nat.reduceSub, beq_self_eq_true, bne_self_eq_false, Bool.not_true, Bool.not_false, decide_true, e2, e3, e4, e88]
      first | refine Fin.same (.bool _) ⟨?_, rfl⟩ | refine Fin.plain (.bool _) ⟨?_, rfl⟩ | refine Fin.plainE (by simp only [List.append_assoc, List.cons_append, List.nil_append]; rfl) (.bool _) ⟨?_, rfl⟩
      rfl
    · have hz := sameList_refl 2 (by omega) (kidsF e n) fun k hk => by
        have := (deepL_ge e.kids 1 1).2 k (by unfold kidsF at hk; exact (List.mem_filter.1 hk).1)
        have h5 := deep_eq e 1
        rw [if_neg (by omega)] at h5
        show deep k (1 + 1) ≤ 32
        omega
      refine ⟨_, PKids_sat G e n he _, ?_⟩
      try simp (disch := first | omega | (simp only [go_sem, ↓reduceIte, Nat.reduceEqDiff]; done) | fail) only [go_sem, ↓reduceIte, Int.reduceToNat, Int.reduceLE, Int.reduceLT, Int.reduceSub, Int.reduceAdd, Nat.reduceEqDiff, Nat.reduceAdd, Nat.reduceLeDiff, Nat.reduceLT, Nat.reduceMul, Nat.reduceSub, beq_self_eq_true, bne_self_eq_false, Bool.not_true, Bool.not_false, decide_true, e2, e3, e4, e88]
      (repeat (first
        | refine WP_seq (fun K hK => ?_)
        | refine WP_block ?_
        | refine WP_scope ?_
        | ((first | refine WP_region ?_ | refine WP_draw 29 (by decide +kernel) ?_ | refine WP_draw 13 (by decide +kernel) ?_ | refine WP_skip ?_ | refine WP_exit ?_ | refine WP_ret ?_); try simp (disch := first | omega | (simp only [go_sem, ↓reduceIte, Nat.reduceEqDiff]; done) | fail) only [go_sem, ↓reduceIte, Int.reduceToNat, Int.reduceLE, Int.reduceLT, Int.reduceSub, Int.reduceAdd, Nat.reduceEqDiff, Nat.reduceAdd, Nat.reduceLeDiff, Nat.reduceLT, Nat.reduceMul, Nat.reduceSub, beq_self_eq_true, bne_self_eq_false, Bool.not_true, Bool.not_false, decide_true, e2, e3, e4, e88])
        | (refine WP_condK ?_; simp (disch := first | omega | (simp only [go_sem, ↓reduceIte, Nat.reduceEqDiff]; done) | fail) only [go_sem, ↓reduceIte, Int.reduceToNat, Int.reduceLE, Int.reduceLT, Int.reduceSub, Int.reduceAdd, Nat.reduceEqDiff, Nat.reduceAdd, Nat.reduceLeDiff, Nat.reduceLT, Nat.reduceMul, Nat.reduceSub, beq_self_eq_true, bne_self_eq_false, Bool.not_true, Bool.not_false, decide_true, e2, e3, e4, e88]; refine went ?_)
        | (refine hK _ _ (Wkn.refl ?_); clear hK K)
        | (clear hK K; first | (refine hK _ _ (Wkn.refl ?_); clear hK K) | (clear hK K; refine hK _ _ (Wkn.refl ?_); clear hK K))))
      refine ⟨_, Kids_sat G e n he _, ?_⟩
      try simp (disch := first | omega | (simp only [go_sem, ↓reduceIte, Nat.reduceEqDiff]; done) | fail) only [go_sem, ↓reduceIte, Int.reduceToNat, Int.reduceLE, Int.reduceLT, Int.reduceSub, Int.reduceAdd, Nat.reduceEqDiff, Nat.reduceAdd, Nat.reduceLeDiff, Nat.reduceLT, Nat.reduceMul, Nat.reduceSub, beq_self_eq_true, bne_self_eq_false, Bool.not_true, Bool.not_false, decide_true, e2, e3, e4, e88]
      (repeat (first
        | refine WP_seq (fun K hK => ?_)
        | refine WP_block ?_
        | refine WP_scope ?_
        | ((first | refine WP_region ?_ | refine WP_draw 29 (by decide +kernel) ?_ | refine WP_draw 13 (by decide +kernel) ?_ | refine WP_skip ?_ | refine WP_exit ?_ | refine WP_ret ?_); try simp (disch := first | omega | (simp only [go_sem, ↓reduceIte, Nat.reduceEqDiff]; done) | fail) only [go_sem, ↓reduceIte, Int.reduceToNat, Int.reduceLE, Int.reduceLT, Int.reduceSub, Int.reduceAdd, Nat.reduceEqDiff, Nat.reduceAdd, Nat.reduceLeDiff, Nat.reduceLT, Nat.reduceMul, Nat.reduceSub, beq_self_eq_true, bne_self_eq_false, Bool.not_true, Bool.not_false, decide_true, e2, e3, e4, e88])
        | (refine WP_condK ?_; simp (disch := first | omega | (simp only [go_sem, ↓reduceIte, Nat.reduceEqDiff]; done) | fail) only [go_sem, ↓reduceIte, Int.reduceToNat, Int.reduceLE, Int.reduceLT, Int.reduceSub, Int.reduceAdd, Nat.reduceEqDiff, Nat.reduceAdd, Nat.reduceLeDiff, Nat.reduceLT, Nat.reduceMul, Nat.reduceSub, beq_self_eq_true, bne_self_eq_false, Bool.not_true, Bool.not_false, decide_true, e2, e3, e4, e88]; refine went ?_)
        | (refine hK _ _ (Wkn.refl ?_); clear hK K)
        | (clear hK K; first | (refine hK _ _ (Wkn.refl ?_); clear hK K) | (clear hK K; refine hK _ _ (Wkn.refl ?_); clear hK K))))
      refine ⟨_, SameList_sat G (kidsF e n) (kidsF e n) (by omega) (by omega) _, ?_⟩
      try simp (disch := first | omega | (simp only [go_sem, ↓reduceIte, Nat.reduceEqDiff]; done) | fail) only [go_sem, ↓reduceIte, Int.reduceToNat, Int.reduceLE, Int.reduceLT, Int.reduceSub, Int.reduceAdd, Nat.reduceEqDiff, Nat.reduceAdd, Nat.reduceLeDiff, Nat.reduceLT, Nat.reduceMul, Nat.reduceSub, beq_self_eq_true, bne_self_eq_false, Bool.not_true, Bool.not_false, decide_true, e2, e3, e4, e88]
      (repeat (first
        | refine WP_seq (fun K hK => ?_)
        | refine WP_block ?_
        | refine WP_scope ?_
        | ((first | refine WP_region ?_ | refine WP_draw 29 (by decide +kernel) ?_ | refine WP_draw 13 (by decide +kernel) ?_ | refine WP_skip ?_ | refine WP_exit ?_ | refine WP_ret ?_); try simp (disch := first | omega | (simp only [go_sem, ↓reduceIte, Nat.reduceEqDiff]; done) | fail) only [go_sem, ↓reduceIte, Int.reduceToNat, Int.reduceLE, Int.reduceLT, Int.reduceSub, Int.reduceAdd, Nat.reduceEqDiff, Nat.reduceAdd, Nat.reduceLeDiff, Nat.reduceLT, Nat.reduceMul, Nat.reduceSub, beq_self_eq_true, bne_self_eq_false, Bool.not_true, Bool.not_false, decide_true, e2, e3, e4, e88])
        | (refine WP_condK ?_; simp (disch := first | omega | (simp only [go_sem, ↓reduceIte, Nat.reduceEqDiff]; done) | fail) only [go_sem, ↓reduceIte, Int.reduceToNat, Int.reduceLE, Int.reduceLT, Int.reduceSub, Int.reduceAdd, Nat.reduceEqDiff, Nat.reduceAdd, Nat.reduceLeDiff, Nat.reduceLT, Nat.reduceMul, Nat.reduceSub, beq_self_eq_true, bne_self_eq_false, Bool.not_true, Bool.not_false, decide_true, e2, e3, e4, e88]; refine went ?_)
        | (refine hK _ _ (Wkn.refl ?_); clear hK K)
        | (clear hK K; first | (refine hK _ _ (Wkn.refl ?_); clear hK K) | (clear hK K; refine hK _ _ (Wkn.refl ?_); clear hK K))))
      first | refine (hQ _ _ ?_).1 | refine (hQ _ _ ?_).2
      simp (disch := first | omega | (simp only [go_sem, ↓reduceIte, Nat.reduceEqDiff]; done) | fail) only [go_sem, ↓reduceIte, Int.reduceToNat, Int.reduceLE, Int.reduceLT, Int.reduceSub, Int.reduceAdd, Nat.reduceEqDiff, Nat.reduceAdd, Nat.reduceLeDiff, Nat.reduceLT, Nat.reduceMul, Nat.reduceSub, beq_self_eq_true, bne_self_eq_false, Bool.not_true, Bool.not_false, decide_true, e2, e3, e4, e88]
      first | refine Fin.same (.bool _) ⟨?_, rfl⟩ | refine Fin.plain (.bool _) ⟨?_, rfl⟩ | refine Fin.plainE (by simp only [List.append_assoc, List.cons_append, List.nil_append]; rfl) (.bool _) ⟨?_, rfl⟩
      exact congrArg AVal.bool hz
  (first | refine WPl_gsplit rfl (by simp (disch := first | omega | (simp only [go_sem, ↓reduceIte, Nat.reduceEqDiff]; done) | fail) only [go_sem, ↓reduceIte, Int.reduceToNat, Int.reduceLE, Int.reduceLT, Int.reduceSub, Int.reduceAdd, Nat.reduceEqDiff, Nat.reduceAdd, Nat.reduceLeDiff, Nat.reduceLT, Nat.reduceMul, Nat.reduceSub, beq_self_eq_true, bne_self_eq_false, Bool.not_true, Bool.not_false, decide_true]; rfl) (fun hk => ?_) (fun hk => ?_) | refine WPp_gsplit rfl (by simp (disch := first | omega | (simp only [go_sem, ↓reduceIte, Nat.reduceEqDiff]; done) | fail) only [go_sem, ↓reduceIte, Int.reduceToNat, Int.reduceLE, Int.reduceLT, Int.reduceSub, Int.reduceAdd, Nat.reduceEqDiff, Nat.reduceAdd, Nat.reduceLeDiff, Nat.reduceLT, Nat.reduceMul, Nat.reduceSub, beq_self_eq_true, bne_self_eq_false, Bool.not_true, Bool.not_false, decide_true]; rfl) (fun hk => ?_) (fun hk => ?_)) <;> (try simp only [Bool.false_or, Bool.or_false, Bool.true_or, Bool.or_true, Bool.false_and, Bool.and_false, Bool.and_true, Bool.true_and, Bool.or_eq_true, Bool.or_eq_false_iff, Bool.and_eq_true, Bool.and_eq_false_iff, Nat.not_lt, Nat.not_le, decide_eq_true_eq, decide_eq_false_iff_not, Bool.not_eq_true', Bool.not_eq_false', beq_iff_eq, bne_iff_ne, ne_eq, beq_eq_false_iff_ne, bne_eq_false_iff_eq, Bool.not_eq_true, Bool.not_eq_false, Int.not_lt, Int.not_le, gt_iff_lt, ge_iff_le, Int.ofNat_lt, Int.ofNat_le, Int.natCast_inj, Int.natCast_inj, Bool.not_not, decide_not, Decidable.not_not] at hk) <;> (try simp (disch := first | omega | (simp only [go_sem, ↓reduceIte, Nat.reduceEqDiff]; done) | fail) only [go_sem, ↓reduceIte, Int.reduceToNat, Int.reduceLE, Int.reduceLT, Int.reduceSub, Int.reduceAdd, Nat.reduceEqDiff, Nat.reduceAdd, Nat.reduceLeDiff, Nat.reduceLT, Nat.reduceMul, Nat.reduceSub, beq_self_eq_true, bne_self_eq_false, Bool.not_true, Bool.not_false, decide_true]) <;>
    (repeat (first
      | refine WP_seq (fun K hK => ?_)
      | refine WP_block ?_
      | refine WP_scope ?_
      | ((first | refine WP_region ?_ | refine WP_draw 29 (by decide +kernel) ?_ | refine WP_draw 13 (by decide +kernel) ?_ | refine WP_skip ?_ | refine WP_exit ?_ | refine WP_ret ?_); try simp (disch := first | omega | (simp only [go_sem, ↓reduceIte, Nat.reduceEqDiff]; done) | fail) only [go_sem, ↓reduceIte, Int.reduceToNat, Int.reduceLE, Int.reduceLT, Int.reduceSub, Int.reduceAdd, Nat.reduceEqDiff, Nat.reduceAdd, Nat.reduceLeDiff, Nat.reduceLT, Nat.reduceMul, Nat.reduceSub, beq_self_eq_true, bne_self_eq_false, Bool.not_true, Bool.not_false, decide_true])
      | (refine WP_condK ?_; simp (disch := first | omega | (simp only [go_sem, ↓reduceIte, Nat.reduceEqDiff]; done) | fail) only [go_sem, ↓reduceIte, Int.reduceToNat, Int.reduceLE, Int.reduceLT, Int.reduceSub, Int.reduceAdd, Nat.reduceEqDiff, Nat.reduceAdd, Nat.reduceLeDiff, Nat.reduceLT, Nat.reduceMul, Nat.reduceSub, beq_self_eq_true, bne_self_eq_false, Bool.not_true, Bool.not_false, decide_true]; refine went ?_)
      | (refine hK _ _ (Wkn.refl ?_); clear hK K)
      | (clear hK K; first | (refine hK _ _ (Wkn.refl ?_); clear hK K) | (clear hK K; refine hK _ _ (Wkn.refl ?_); clear hK K))))
  · have hks1 := Elem.kid_sz (kidF_mem e n (by simpa using hk))
    refine (Deep_sat G 39 1 (by omega) (by omega) (kidF e n).1 (by omega) _).mono ?_
    rintro r h' ⟨rfl, rfl⟩
    try simp (disch := first | omega | (simp only [go_sem, ↓reduceIte, Nat.reduceEqDiff]; done) | fail) only [go_sem, ↓reduceIte, Int.reduceToNat, Int.reduceLE, Int.reduceLT, Int.reduceSub, Int.reduceAdd, Nat.reduceEqDiff, Nat.reduceAdd, Nat.reduceLeDiff, Nat.reduceLT, Nat.reduceMul, Nat.reduceSub, beq_self_eq_true, bne_self_eq_false, Bool.not_true, Bool.not_false, decide_true]
    (repeat (first
      | refine WP_seq (fun K hK => ?_)
      | refine WP_block ?_
      | refine WP_scope ?_
      | ((first | refine WP_region ?_ | refine WP_draw 29 (by decide +kernel) ?_ | refine WP_draw 13 (by decide +kernel) ?_ | refine WP_skip ?_ | refine WP_exit ?_ | refine WP_ret ?_); try simp (disch := first | omega | (simp only [go_sem, ↓reduceIte, Nat.reduceEqDiff]; done) | fail) only [go_sem, ↓reduceIte, Int.reduceToNat, Int.reduceLE, Int.reduceLT, Int.reduceSub, Int.reduceAdd, Nat.reduceEqDiff, Nat.reduceAdd, Nat.reduceLeDiff, Nat.reduceLT, Nat.reduceMul, Nat.reduceSub, beq_self_eq_true, bne_self_eq_false, Bool.not_true, Bool.not_false, decide_true])
      | (refine WP_condK ?_; simp (disch := first | omega | (simp only [go_sem, ↓reduceIte, Nat.reduceEqDiff]; done) | fail) only [go_sem, ↓reduceIte, Int.reduceToNat, Int.reduceLE, Int.reduceLT, Int.reduceSub, Int.reduceAdd, Nat.reduceEqDiff, Nat.reduceAdd, Nat.reduceLeDiff, Nat.reduceLT, Nat.reduceMul, Nat.reduceSub, beq_self_eq_true, bne_self_eq_false, Bool.not_true, Bool.not_false, decide_true]; refine went ?_)
      | (refine hK _ _ (Wkn.refl ?_); clear hK K)
      | (clear hK K; first | (refine hK _ _ (Wkn.refl ?_); clear hK K) | (clear hK K; refine hK _ _ (Wkn.refl ?_); clear hK K))))
    (first | refine WPl_gsplit rfl (by simp (disch := first | omega | (simp only [go_sem, ↓reduceIte, Nat.reduceEqDiff]; done) | fail) only [go_sem, ↓reduceIte, Int.reduceToNat, Int.reduceLE, Int.reduceLT, Int.reduceSub, Int.reduceAdd, Nat.reduceEqDiff, Nat.reduceAdd, Nat.reduceLeDiff, Nat.reduceLT, Nat.reduceMul, Nat.reduceSub, beq_self_eq_true, bne_self_eq_false, Bool.not_true, Bool.not_false, decide_true]; rfl) (fun hd => ?_) (fun hd => ?_) | refine WPp_gsplit rfl (by simp (disch := first | omega | (simp only [go_sem, ↓reduceIte, Nat.reduceEqDiff]; done) | fail) only [go_sem, ↓reduceIte, Int.reduceToNat, Int.reduceLE, Int.reduceLT, Int.reduceSub, Int.reduceAdd, Nat.reduceEqDiff, Nat.reduceAdd, Nat.reduceLeDiff, Nat.reduceLT, Nat.reduceMul, Nat.reduceSub, beq_self_eq_true, bne_self_eq_false, Bool.not_true, Bool.not_false, decide_true]; rfl) (fun hd => ?_) (fun hd => ?_)) <;> (try simp only [Bool.false_or, Bool.or_false, Bool.true_or, Bool.or_true, Bool.false_and, Bool.and_false, Bool.and_true, Bool.true_and, Bool.or_eq_true, Bool.or_eq_false_iff, Bool.and_eq_true, Bool.and_eq_false_iff, Nat.not_lt, Nat.not_le, decide_eq_true_eq, decide_eq_false_iff_not, Bool.not_eq_true', Bool.not_eq_false', beq_iff_eq, bne_iff_ne, ne_eq, beq_eq_false_iff_ne, bne_eq_false_iff_eq, Bool.not_eq_true, Bool.not_eq_false, Int.not_lt, Int.not_le, gt_iff_lt, ge_iff_le, Int.ofNat_lt, Int.ofNat_le, Int.natCast_inj, Int.natCast_inj, Bool.not_not, decide_not, Decidable.not_not] at hd) <;> (try simp (disch := first | omega | (simp only [go_sem, ↓reduceIte, Nat.reduceEqDiff]; done) | fail) only [go_sem, ↓reduceIte, Int.reduceToNat, Int.reduceLE, Int.reduceLT, Int.reduceSub, Int.reduceAdd, Nat.reduceEqDiff, Nat.reduceAdd, Nat.reduceLeDiff, Nat.reduceLT, Nat.reduceMul, Nat.reduceSub, beq_self_eq_true, bne_self_eq_false, Bool.not_true, Bool.not_false, decide_true]) <;>
      (repeat (first
        | refine WP_seq (fun K hK => ?_)
        | refine WP_block ?_
        | refine WP_scope ?_
        | ((first | refine WP_region ?_ | refine WP_draw 29 (by decide +kernel) ?_ | refine WP_draw 13 (by decide +kernel) ?_ | refine WP_skip ?_ | refine WP_exit ?_ | refine WP_ret ?_); try simp (disch := first | omega | (simp only [go_sem, ↓reduceIte, Nat.reduceEqDiff]; done) | fail) only [go_sem, ↓reduceIte, Int.reduceToNat, Int.reduceLE, Int.reduceLT, Int.reduceSub, Int.reduceAdd, Nat.reduceEqDiff, Nat.reduceAdd, Nat.reduceLeDiff, Nat.reduceLT, Nat.reduceMul, Nat.reduceSub, beq_self_eq_true, bne_self_eq_false, Bool.not_true, Bool.not_false, decide_true])
        | (refine WP_condK ?_; simp (disch := first | omega | (simp only [go_sem, ↓reduceIte, Nat.reduceEqDiff]; done) | fail) only [go_sem, ↓reduceIte, Int.reduceToNat, Int.reduceLE, Int.reduceLT, Int.reduceSub, Int.reduceAdd, Nat.reduceEqDiff, Nat.reduceAdd, Nat.reduceLeDiff, Nat.reduceLT, Nat.reduceMul, Nat.reduceSub, beq_self_eq_true, bne_self_eq_false, Bool.not_true, Bool.not_false, decide_true]; refine went ?_)
        | (refine hK _ _ (Wkn.refl ?_); clear hK K)
        | (clear hK K; first | (refine hK _ _ (Wkn.refl ?_); clear hK K) | (clear hK K; refine hK _ _ (Wkn.refl ?_); clear hK K))))
    · have hs := sameF_refl 32 1 (by omega) (kidF e n).1 (by omega)
      skip
      refine (Same_sat G (kidF e n).1 (kidF e n).1 (by omega) (by omega) _).mono ?_
      rintro r h' ⟨rfl, rfl⟩
      try simp (disch := first | omega | (simp only [go_sem, ↓reduceIte, Nat.reduceEqDiff]; done) | fail) only [go_sem, ↓reduceIte, Int.reduceToNat, Int.reduceLE, Int.reduceLT, Int.reduceSub, Int.reduceAdd, Nat.reduceEqDiff, Nat.reduceAdd, Nat.reduceLeDiff, Nat.reduceLT, Nat.reduceMul, Nat.reduceSub, beq_self_eq_true, bne_self_eq_false, Bool.not_true, Bool.not_false, decide_true, hs]
      (repeat (first
        | refine WP_seq (fun K hK => ?_)
        | refine WP_block ?_
        | refine WP_scope ?_
        | ((first | refine WP_region ?_ | refine WP_draw 29 (by decide +kernel) ?_ | refine WP_draw 13 (by decide +kernel) ?_ | refine WP_skip ?_ | refine WP_exit ?_ | refine WP_ret ?_); try simp (disch := first | omega | (simp only [go_sem, ↓reduceIte, Nat.reduceEqDiff]; done) | fail) only [go_sem, ↓reduceIte, Int.reduceToNat, Int.reduceLE, Int.reduceLT, Int.reduceSub, Int.reduceAdd, Nat.reduceEqDiff, Nat.reduceAdd, Nat.reduceLeDiff, Nat.reduceLT, Nat.reduceMul, Nat.reduceSub, beq_self_eq_true, bne_self_eq_false, Bool.not_true, Bool.not_false, decide_true, hs])
        | (refine WP_condK ?_; simp (disch := first | omega | (simp only [go_sem, ↓reduceIte, Nat.reduceEqDiff]; done) | fail) only [go_sem, ↓reduceIte, Int.reduceToNat, Int.reduceLE, Int.reduceLT, Int.reduceSub, Int.reduceAdd, Nat.reduceEqDiff, Nat.reduceAdd, Nat.reduceLeDiff, Nat.reduceLT, Nat.reduceMul, Nat.reduceSub, beq_self_eq_true, bne_self_eq_false, Bool.not_true, Bool.not_false, decide_true, hs]; refine went ?_)
        | (refine hK _ _ (Wkn.refl ?_); clear hK K)
        | (clear hK K; first | (refine hK _ _ (Wkn.refl ?_); clear hK K) | (clear hK K; refine hK _ _ (Wkn.refl ?_); clear hK K))))
      refine (PShort_sat G n hn _).mono ?_
      rintro r h' ⟨rfl, rfl⟩
      try simp (disch := first | omega | (simp only [go_sem, ↓reduceIte, Nat.reduceEqDiff]; done) | fail) only [go_sem, ↓reduceIte, Int.reduceToNat, Int.reduceLE, Int.reduceLT, Int.reduceSub, Int.reduceAdd, Nat.reduceEqDiff, Nat.reduceAdd, Nat.reduceLeDiff, Nat.reduceLT, Nat.reduceMul, Nat.reduceSub, beq_self_eq_true, bne_self_eq_false, Bool.not_true, Bool.not_false, decide_true, hs]
      (repeat (first
        | refine WP_seq (fun K hK => ?_)
        | refine WP_block ?_
        | refine WP_scope ?_
        | ((first | refine WP_region ?_ | refine WP_draw 29 (by decide +kernel) ?_ | refine WP_draw 13 (by decide +kernel) ?_ | refine WP_skip ?_ | refine WP_exit ?_ | refine WP_ret ?_); try simp (disch := first | omega | (simp only [go_sem, ↓reduceIte, Nat.reduceEqDiff]; done) | fail) only [go_sem, ↓reduceIte, Int.reduceToNat, Int.reduceLE, Int.reduceLT, Int.reduceSub, Int.reduceAdd, Nat.reduceEqDiff, Nat.reduceAdd, Nat.reduceLeDiff, Nat.reduceLT, Nat.reduceMul, Nat.reduceSub, beq_self_eq_true, bne_self_eq_false, Bool.not_true, Bool.not_false, decide_true, hs])
        | (refine WP_condK ?_; simp (disch := first | omega | (simp only [go_sem, ↓reduceIte, Nat.reduceEqDiff]; done) | fail) only [go_sem, ↓reduceIte, Int.reduceToNat, Int.reduceLE, Int.reduceLT, Int.reduceSub, Int.reduceAdd, Nat.reduceEqDiff, Nat.reduceAdd, Nat.reduceLeDiff, Nat.reduceLT, Nat.reduceMul, Nat.reduceSub, beq_self_eq_true, bne_self_eq_false, Bool.not_true, Bool.not_false, decide_true, hs]; refine went ?_)
        | (refine hK _ _ (Wkn.refl ?_); clear hK K)
        | (clear hK K; first | (refine hK _ _ (Wkn.refl ?_); clear hK K) | (clear hK K; refine hK _ _ (Wkn.refl ?_); clear hK K))))
      refine (Short_sat G n hn _).mono ?_
      rintro r h' ⟨rfl, rfl⟩
      try simp (disch := first | omega | (simp only [go_sem, ↓reduceIte, Nat.reduceEqDiff]; done) | fail) only [go_sem, ↓reduceIte, Int.reduceToNat, Int.reduceLE, Int.reduceLT, Int.reduceSub, Int.reduceAdd, Nat.reduceEqDiff, Nat.reduceAdd, Nat.reduceLeDiff, Nat.reduceLT, Nat.reduceMul, Nat.reduceSub, beq_self_eq_true, bne_self_eq_false, Bool.not_true, Bool.not_false, decide_true, hs]
      (repeat (first
        | refine WP_seq (fun K hK => ?_)
        | refine WP_block ?_
        | refine WP_scope ?_
        | ((first | refine WP_region ?_ | refine WP_draw 29 (by decide +kernel) ?_ | refine WP_draw 13 (by decide +kernel) ?_ | refine WP_skip ?_ | refine WP_exit ?_ | refine WP_ret ?_); try simp (disch := first | omega | (simp only [go_sem, ↓reduceIte, Nat.reduceEqDiff]; done) | fail) only [go_sem, ↓reduceIte, Int.reduceToNat, Int.reduceLE, Int.reduceLT, Int.reduceSub, Int.reduceAdd, Nat.reduceEqDiff, Nat.reduceAdd, Nat.reduceLeDiff, Nat.reduceLT, Nat.reduceMul, Nat.reduceSub, beq_self_eq_true, bne_self_eq_false, Bool.not_true, Bool.not_false, decide_true, hs])
        | (refine WP_condK ?_; simp (disch := first | omega | (simp only [go_sem, ↓reduceIte, Nat.reduceEqDiff]; done) | fail) only [go_sem, ↓reduceIte, Int.reduceToNat, Int.reduceLE, Int.reduceLT, Int.reduceSub, Int.reduceAdd, Nat.reduceEqDiff, Nat.reduceAdd, Nat.reduceLeDiff, Nat.reduceLT, Nat.reduceMul, Nat.reduceSub, beq_self_eq_true, bne_self_eq_false, Bool.not_true, Bool.not_false, decide_true, hs]; refine went ?_)
        | (refine hK _ _ (Wkn.refl ?_); clear hK K)
        | (clear hK K; first | (refine hK _ _ (Wkn.refl ?_); clear hK K) | (clear hK K; refine hK _ _ (Wkn.refl ?_); clear hK K))))
      exact tail _ (by simp (disch := first | omega | (simp only [go_sem, ↓reduceIte, Nat.reduceEqDiff]; done) | fail) only [go_sem, ↓reduceIte, Int.reduceToNat, Int.reduceLE, Int.reduceLT, Int.reduceSub, Int.reduceAdd, Nat.reduceEqDiff, Nat.reduceAdd, Nat.reduceLeDiff, Nat.reduceLT, Nat.reduceMul, Nat.reduceSub, beq_self_eq_true, bne_self_eq_false, Bool.not_true, Bool.not_false, decide_true, hs]) (by simp (disch := first | omega | (simp only [go_sem, ↓reduceIte, Nat.reduceEqDiff]; done) | fail) only [go_sem, ↓reduceIte, Int.reduceToNat, Int.reduceLE, Int.reduceLT, Int.reduceSub, Int.reduceAdd, Nat.reduceEqDiff, Nat.reduceAdd, Nat.reduceLeDiff, Nat.reduceLT, Nat.reduceMul, Nat.reduceSub, beq_self_eq_true, bne_self_eq_false, Bool.not_true, Bool.not_false, decide_true, hs]) (by simp (disch := first | omega | (simp only [go_sem, ↓reduceIte, Nat.reduceEqDiff]; done) | fail) only [go_sem, ↓reduceIte, Int.reduceToNat, Int.reduceLE, Int.reduceLT, Int.reduceSub, Int.reduceAdd, Nat.reduceEqDiff, Nat.reduceAdd, Nat.reduceLeDiff, Nat.reduceLT, Nat.reduceMul, Nat.reduceSub, beq_self_eq_true, bne_self_eq_false, Bool.not_true, Bool.not_false, decide_true, hs]) (by simp (disch := first | omega | (simp only [go_sem, ↓reduceIte, Nat.reduceEqDiff]; done) | fail) only [go_sem, ↓reduceIte, Int.reduceToNat, Int.reduceLE, Int.reduceLT, Int.reduceSub, Int.reduceAdd, Nat.reduceEqDiff, Nat.reduceAdd, Nat.reduceLeDiff, Nat.reduceLT, Nat.reduceMul, Nat.reduceSub, beq_self_eq_true, bne_self_eq_false, Bool.not_true, Bool.not_false, decide_true, hs])
    · refine (PShort_sat G n hn _).mono ?_
      rintro r h' ⟨rfl, rfl⟩
      try simp (disch := first | omega | (simp only [go_sem, ↓reduceIte, Nat.reduceEqDiff]; done) | fail) only [go_sem, ↓reduceIte, Int.reduceToNat, Int.reduceLE, Int.reduceLT, Int.reduceSub, Int.reduceAdd, Nat.reduceEqDiff, Nat.reduceAdd, Nat.reduceLeDiff, Nat.reduceLT, Nat.reduceMul, Nat.reduceSub, beq_self_eq_true, bne_self_eq_false, Bool.not_true, Bool.not_false, decide_true]
      (repeat (first
        | refine WP_seq (fun K hK => ?_)
        | refine WP_block ?_
        | refine WP_scope ?_
        | ((first | refine WP_region ?_ | refine WP_draw 29 (by decide +kernel) ?_ | refine WP_draw 13 (by decide +kernel) ?_ | refine WP_skip ?_ | refine WP_exit ?_ | refine WP_ret ?_); try simp (disch := first | omega | (simp only [go_sem, ↓reduceIte, Nat.reduceEqDiff]; done) | fail) only [go_sem, ↓reduceIte, Int.reduceToNat, Int.reduceLE, Int.reduceLT, Int.reduceSub, Int.reduceAdd, Nat.reduceEqDiff, Nat.reduceAdd, Nat.reduceLeDiff, Nat.reduceLT, Nat.reduceMul, Nat.reduceSub, beq_self_eq_true, bne_self_eq_false, Bool.not_true, Bool.not_false, decide_true])
        | (refine WP_condK ?_; simp (disch := first | omega | (simp only [go_sem, ↓reduceIte, Nat.reduceEqDiff]; done) | fail) only [go_sem, ↓reduceIte, Int.reduceToNat, Int.reduceLE, Int.reduceLT, Int.reduceSub, Int.reduceAdd, Nat.reduceEqDiff, Nat.reduceAdd, Nat.reduceLeDiff, Nat.reduceLT, Nat.reduceMul, Nat.reduceSub, beq_self_eq_true, bne_self_eq_false, Bool.not_true, Bool.not_false, decide_true]; refine went ?_)
        | (refine hK _ _ (Wkn.refl ?_); clear hK K)
        | (clear hK K; first | (refine hK _ _ (Wkn.refl ?_); clear hK K) | (clear hK K; refine hK _ _ (Wkn.refl ?_); clear hK K))))
      refine (Short_sat G n hn _).mono ?_
      rintro r h' ⟨rfl, rfl⟩
      try simp (disch := first | omega | (simp only [go_sem, ↓reduceIte, Nat.reduceEqDiff]; done) | fail) only [go_sem, ↓reduceIte, Int.reduceToNat, Int.reduceLE, Int.reduceLT, Int.reduceSub, Int.reduceAdd, Nat.reduceEqDiff, Nat.reduceAdd, Nat.reduceLeDiff, Nat.reduceLT, Nat.reduceMul, Nat.reduceSub, beq_self_eq_true, bne_self_eq_false, Bool.not_true, Bool.not_false, decide_true]
      (repeat (first
        | refine WP_seq (fun K hK => ?_)
        | refine WP_block ?_
        | refine WP_scope ?_
        | ((first | refine WP_region ?_ | refine WP_draw 29 (by decide +kernel) ?_ | refine WP_draw 13 (by decide +kernel) ?_ | refine WP_skip ?_ | refine WP_exit ?_ | refine WP_ret ?_); try simp (disch := first | omega | (simp only [go_sem, ↓reduceIte, Nat.reduceEqDiff]; done) | fail) only [go_sem, ↓reduceIte, Int.reduceToNat, Int.reduceLE, Int.reduceLT, Int.reduceSub, Int.reduceAdd, Nat.reduceEqDiff, Nat.reduceAdd, Nat.reduceLeDiff, Nat.reduceLT, Nat.reduceMul, Nat.reduceSub, beq_self_eq_true, bne_self_eq_false, Bool.not_true, Bool.not_false, decide_true])
        | (refine WP_condK ?_; simp (disch := first | omega | (simp only [go_sem, ↓reduceIte, Nat.reduceEqDiff]; done) | fail) only [go_sem, ↓reduceIte, Int.reduceToNat, Int.reduceLE, Int.reduceLT, Int.reduceSub, Int.reduceAdd, Nat.reduceEqDiff, Nat.reduceAdd, Nat.reduceLeDiff, Nat.reduceLT, Nat.reduceMul, Nat.reduceSub, beq_self_eq_true, bne_self_eq_false, Bool.not_true, Bool.not_false, decide_true]; refine went ?_)
        | (refine hK _ _ (Wkn.refl ?_); clear hK K)
        | (clear hK K; first | (refine hK _ _ (Wkn.refl ?_); clear hK K) | (clear hK K; refine hK _ _ (Wkn.refl ?_); clear hK K))))
      exact tail _ (by simp (disch := first | omega | (simp only [go_sem, ↓reduceIte, Nat.reduceEqDiff]; done) | fail) only [go_sem, ↓reduceIte, Int.reduceToNat, Int.reduceLE, Int.reduceLT, Int.reduceSub, Int.reduceAdd, Nat.reduceEqDiff, Nat.reduceAdd, Nat.reduceLeDiff, Nat.reduceLT, Nat.reduceMul, Nat.reduceSub, beq_self_eq_true, bne_self_eq_false, Bool.not_true, Bool.not_false, decide_true]) (by simp (disch := first | omega | (simp only [go_sem, ↓reduceIte, Nat.reduceEqDiff]; done) | fail) only [go_sem, ↓reduceIte, Int.reduceToNat, Int.reduceLE, Int.reduceLT, Int.reduceSub, Int.reduceAdd, Nat.reduceEqDiff, Nat.reduceAdd, Nat.reduceLeDiff, Nat.reduceLT, Nat.reduceMul, Nat.reduceSub, beq_self_eq_true, bne_self_eq_false, Bool.not_true, Bool.not_false, decide_true]) (by simp (disch := first | omega | (simp only [go_sem, ↓reduceIte, Nat.reduceEqDiff]; done) | fail) only [go_sem, ↓reduceIte, Int.reduceToNat, Int.reduceLE, Int.reduceLT, Int.reduceSub, Int.reduceAdd, Nat.reduceEqDiff, Nat.reduceAdd, Nat.reduceLeDiff, Nat.reduceLT, Nat.reduceMul, Nat.reduceSub, beq_self_eq_true, bne_self_eq_false, Bool.not_true, Bool.not_false, decide_true]) (by simp (disch := first | omega | (simp only [go_sem, ↓reduceIte, Nat.reduceEqDiff]; done) | fail) only [go_sem, ↓reduceIte, Int.reduceToNat, Int.reduceLE, Int.reduceLT, Int.reduceSub, Int.reduceAdd, Nat.reduceEqDiff, Nat.reduceAdd, Nat.reduceLeDiff, Nat.reduceLT, Nat.reduceMul, Nat.reduceSub, beq_self_eq_true, bne_self_eq_false, Bool.not_true, Bool.not_false, decide_true])
  · refine (PShort_sat G n hn _).mono ?_
    rintro r h' ⟨rfl, rfl⟩
    try simp (disch := first | omega | (simp only [go_sem, ↓reduceIte, Nat.reduceEqDiff]; done) | fail) only [go_sem, ↓reduceIte, Int.reduceToNat, Int.reduceLE, Int.reduceLT, Int.reduceSub, Int.reduceAdd, Nat.reduceEqDiff, Nat.reduceAdd, Nat.reduceLeDiff, Nat.reduceLT, Nat.reduceMul, Nat.reduceSub, beq_self_eq_true, bne_self_eq_false, Bool.not_true, Bool.not_false, decide_true]
    (repeat (first
      | refine WP_seq (fun K hK => ?_)
      | refine WP_block ?_
      | refine WP_scope ?_
      | ((first | refine WP_region ?_ | refine WP_draw 29 (by decide +kernel) ?_ | refine WP_draw 13 (by decide +kernel) ?_ | refine WP_skip ?_ | refine WP_exit ?_ | refine WP_ret ?_); try simp (disch := first | omega | (simp only [go_sem, ↓reduceIte, Nat.reduceEqDiff]; done) | fail) only [go_sem, ↓reduceIte, Int.reduceToNat, Int.reduceLE, Int.reduceLT, Int.reduceSub, Int.reduceAdd, Nat.reduceEqDiff, Nat.reduceAdd, Nat.reduceLeDiff, Nat.reduceLT, Nat.reduceMul, Nat.reduceSub, beq_self_eq_true, bne_self_eq_false, Bool.not_true, Bool.not_false, decide_true])
      | (refine WP_condK ?_; simp (disch := first | omega | (simp only [go_sem, ↓reduceIte, Nat.reduceEqDiff]; done) | fail) only [go_sem, ↓reduceIte, Int.reduceToNat, Int.reduceLE, Int.reduceLT, Int.reduceSub, Int.reduceAdd, Nat.reduceEqDiff, Nat.reduceAdd, Nat.reduceLeDiff, Nat.reduceLT, Nat.reduceMul, Nat.reduceSub, beq_self_eq_true, bne_self_eq_false, Bool.not_true, Bool.not_false, decide_true]; refine went ?_)
      | (refine hK _ _ (Wkn.refl ?_); clear hK K)
      | (clear hK K; first | (refine hK _ _ (Wkn.refl ?_); clear hK K) | (clear hK K; refine hK _ _ (Wkn.refl ?_); clear hK K))))
    refine (Short_sat G n hn _).mono ?_
    rintro r h' ⟨rfl, rfl⟩
    try simp (disch := first | omega | (simp only [go_sem, ↓reduceIte, Nat.reduceEqDiff]; done) | fail) only [go_sem, ↓reduceIte, Int.reduceToNat, Int.reduceLE, Int.reduceLT, Int.reduceSub, Int.reduceAdd, Nat.reduceEqDiff, Nat.reduceAdd, Nat.reduceLeDiff, Nat.reduceLT, Nat.reduceMul, Nat.reduceSub, beq_self_eq_true, bne_self_eq_false, Bool.not_true, Bool.not_false, decide_true]
    (repeat (first
      | refine WP_seq (fun K hK => ?_)
      | refine WP_block ?_
      | refine WP_scope ?_
      | ((first | refine WP_region ?_ | refine WP_draw 29 (by decide +kernel) ?_ | refine WP_draw 13 (by decide +kernel) ?_ | refine WP_skip ?_ | refine WP_exit ?_ | refine WP_ret ?_); try simp (disch := first | omega | (simp only [go_sem, ↓reduceIte, Nat.reduceEqDiff]; done) | fail) only [go_sem, ↓reduceIte, Int.reduceToNat, Int.reduceLE, Int.reduceLT, Int.reduceSub, Int.reduceAdd, Nat.reduceEqDiff, Nat.reduceAdd, Nat.reduceLeDiff, Nat.reduceLT, Nat.reduceMul, Nat.reduceSub, beq_self_eq_true, bne_self_eq_false, Bool.not_true, Bool.not_false, decide_true])
      | (refine WP_condK ?_; simp (disch := first | omega | (simp only [go_sem, ↓reduceIte, Nat.reduceEqDiff]; done) | fail) only [go_sem, ↓reduceIte, Int.reduceToNat, Int.reduceLE, Int.reduceLT, Int.reduceSub, Int.reduceAdd, Nat.reduceEqDiff, Nat.reduceAdd, Nat.reduceLeDiff, Nat.reduceLT, Nat.reduceMul, Nat.reduceSub, beq_self_eq_true, bne_self_eq_false, Bool.not_true, Bool.not_false, decide_true]; refine went ?_)
      | (refine hK _ _ (Wkn.refl ?_); clear hK K)
      | (clear hK K; first | (refine hK _ _ (Wkn.refl ?_); clear hK K) | (clear hK K; refine hK _ _ (Wkn.refl ?_); clear hK K))))
    exact tail _ (by simp (disch := first | omega | (simp only [go_sem, ↓reduceIte, Nat.reduceEqDiff]; done) | fail) only [go_sem, ↓reduceIte, Int.reduceToNat, Int.reduceLE, Int.reduceLT, Int.reduceSub, Int.reduceAdd, Nat.reduceEqDiff, Nat.reduceAdd, Nat.reduceLeDiff, Nat.reduceLT, Nat.reduceMul, Nat.reduceSub, beq_self_eq_true, bne_self_eq_false, Bool.not_true, Bool.not_false, decide_true]) (by simp (disch := first | omega | (simp only [go_sem, ↓reduceIte, Nat.reduceEqDiff]; done) | fail) only [go_sem, ↓reduceIte, Int.reduceToNat, Int.reduceLE, Int.reduceLT, Int.reduceSub, Int.reduceAdd, Nat.reduceEqDiff, Nat.reduceAdd, Nat.reduceLeDiff, Nat.reduceLT, Nat.reduceMul, Nat.reduceSub, beq_self_eq_true, bne_self_eq_false, Bool.not_true, Bool.not_false, decide_true]) (by simp (disch := first | omega | (simp only [go_sem, ↓reduceIte, Nat.reduceEqDiff]; done) | fail) only [go_sem, ↓reduceIte, Int.reduceToNat, Int.reduceLE, Int.reduceLT, Int.reduceSub, Int.reduceAdd, Nat.reduceEqDiff, Nat.reduceAdd, Nat.reduceLeDiff, Nat.reduceLT, Nat.reduceMul, Nat.reduceSub, beq_self_eq_true, bne_self_eq_false, Bool.not_true, Bool.not_false, decide_true]) (by simp (disch := first | omega | (simp only [go_sem, ↓reduceIte, Nat.reduceEqDiff]; done) | fail) only [go_sem, ↓reduceIte, Int.reduceToNat, Int.reduceLE, Int.reduceLT, Int.reduceSub, Int.reduceAdd, Nat.reduceEqDiff, Nat.reduceAdd, Nat.reduceLeDiff, Nat.reduceLT, Nat.reduceMul, Nat.reduceSub, beq_self_eq_true, bne_self_eq_false, Bool.not_true, Bool.not_false, decide_true])
end Go.Av
