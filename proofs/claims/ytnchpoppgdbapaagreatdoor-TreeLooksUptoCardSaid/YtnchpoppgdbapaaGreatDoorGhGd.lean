/- The program's way through an element, whatever is done ahead and behind. -/
import Derived.Test.YtnchpoppgdbapaaGreatDoorGhGc
set_option linter.unusedSimpArgs false
set_option linter.unusedVariables false
namespace Go.Av
open Go Go.Proofs Go.RowKit
attribute [local irreducible] WP WPl WPix Sat
set_option maxRecDepth 100000
set_option maxHeartbeats 1000000

variable (G : Nat → Option (List AVal))

def Elem.own (e : Elem) : Nat := 1 + e.name.length + szs At.sz e.attrs + e.text.length
theorem Elem.own_eq (e : Elem) : e.sz = e.own + szs Elem.sz e.kids := by rw [Elem.sz_eq, Elem.own]

section
variable {σ : Type} (A B : Elem → σ → σ)
mutual
def walkF : Elem → Nat → σ → σ
  | .mk n a t k, d, st => if 32 < d then st else B (.mk n a t k) (walkL k (d + 1) (A (.mk n a t k) st))
def walkL : List Elem → Nat → σ → σ
  | [], _, st => st
  | e :: l, d, st => walkL l d (walkF e d st)
end
theorem walkF_eq (e : Elem) (d : Nat) (st : σ) : walkF A B e d st = if 32 < d then st else B e (walkL A B e.kids (d + 1) (A e st)) := by cases e; rw [walkF]; rfl
mutual
theorem walkF_m (m : σ → Nat) (ha : ∀ e st, m (A e st) ≤ m st + 2 * e.own) (hb : ∀ e st, m (B e st) ≤ m st + e.own) : ∀ (e : Elem) (d : Nat) (st : σ), m (walkF A B e d st) ≤ m st + 3 * e.sz
  | .mk n a t k, d, st => by
    rw [walkF]; split
    · omega
    · have h1 := ha (.mk n a t k) st
      have h2 := walkL_m m ha hb k (d + 1) (A (.mk n a t k) st)
      have h3 := hb (.mk n a t k) (walkL A B k (d + 1) (A (.mk n a t k) st))
      have h4 := (Elem.mk n a t k).own_eq
      simp only [Elem.kids] at h4
      omega
theorem walkL_m (m : σ → Nat) (ha : ∀ e st, m (A e st) ≤ m st + 2 * e.own) (hb : ∀ e st, m (B e st) ≤ m st + e.own) : ∀ (l : List Elem) (d : Nat) (st : σ), m (walkL A B l d st) ≤ m st + 3 * szs Elem.sz l
  | [], d, st => by rw [walkL]; omega
  | e :: l, d, st => by
    have h1 := walkF_m m ha hb e d st
    have h2 := walkL_m m ha hb l d (walkF A B e d st)
    rw [walkL, szs]; omega
end

theorem walk_sat (H : σ → Heap) (m : σ → Nat) (ga gb : FuncId) (ca cb : List AVal)
    (hlen : ∀ s t, (H s).length = (H t).length) (hkeep : ∀ s t (p : Nat) (k : Blk), (H t)[p]? = some k → (H s)[p]? = some k ∨ ∀ n, (H s).length ≤ n → CloB n k)
    (hma : ∀ e st, m (A e st) ≤ m st + 2 * e.own) (hmb : ∀ e st, m (B e st) ≤ m st + e.own)
    (ha : ∀ (e : Elem) (st : σ) (j : Heap), e.sz ≤ 1048576 → m st ≤ 4194304 → Sat (CT G) ga (e.av :: ca) (H st ++ j) (fun r h' => r = .tup [] ∧ h' = H (A e st) ++ j))
    (hb : ∀ (e : Elem) (st : σ) (j : Heap), e.sz ≤ 1048576 → m st ≤ 4194304 → Sat (CT G) gb (e.av :: cb) (H st ++ j) (fun r h' => r = .tup [] ∧ h' = H (B e st) ++ j)) :
    ∀ (f d : Nat), 33 ≤ d + f → d ≤ 40 → ∀ (e : Elem) (st : σ) (j : Heap), e.sz ≤ 1048576 → m st + 3 * e.sz ≤ 4194304 →
      Sat (CT G) 53 [e.av, .int .i64 d, .fn (.func ga) [] ca, .fn (.func gb) [] cb] (H st ++ j) (fun r h' => r = .tup [] ∧ h' = H (walkF A B e d st) ++ j) := by
  have fin : ∀ (st st' : σ) (j l : Heap), Fin (H st ++ j) (H st' ++ (j ++ l)) (fun r h' => r = .tup [] ∧ h' = H st' ++ j) (.tup []) := fun st st' j l => by
    have := Fin.keep (h0 := H st ++ j) (h1 := H st' ++ j) (j := l) (R := fun r h' => r = .tup [] ∧ h' = H st' ++ j) (r := .tup []) (by simp [hlen st' st]) (fun p k hk => by
      rcases Nat.lt_or_ge p (H st').length with h1 | h1
      · rw [List.getElem?_append_left h1] at hk
        rw [List.getElem?_append_left (by rw [hlen st st']; exact h1)]
        rcases hkeep st st' p k hk with h2 | h2
        · exact .inl h2
        · exact .inr (h2 _ (by simp))
      · rw [List.getElem?_append_right h1] at hk
        rw [List.getElem?_append_right (by rw [hlen st st']; exact h1), hlen st st']
        exact .inl hk) (.tup _ (by simp)) ⟨rfl, rfl⟩
    rwa [List.append_assoc] at this
  intro f
  induction f with
  | zero =>
    intro d hf hd e st j hs hm
    refine Sat.body [] (fn := Tryz.f53) Tryz.func53 rfl rfl (by kernel_rfl) (by kernel_rfl) (by kernel_rfl) rfl ?_
    intro Q hQ
    (repeat (first
      | refine WP_seq (fun K hK => ?_)
      | refine WP_block ?_
      | refine WP_scope ?_
      | ((first | refine WP_region ?_ | refine WP_skip ?_ | refine WP_exit ?_ | refine WP_ret ?_); try simp (disch := first | omega | (simp only [go_sem, ↓reduceIte, Nat.reduceEqDiff]; done) | fail) only [go_sem, ↓reduceIte, Int.reduceToNat, Int.reduceLE, Int.reduceLT, Int.reduceSub, Int.reduceAdd, Nat.reduceEqDiff, Nat.reduceAdd, Nat.reduceLeDiff, Nat.reduceLT, Nat.reduceMul, Nat.reduceSub])
      | (refine WP_condK ?_; simp (disch := first | omega | (simp only [go_sem, ↓reduceIte, Nat.reduceEqDiff]; done) | fail) only [go_sem, ↓reduceIte, Int.reduceToNat, Int.reduceLE, Int.reduceLT, Int.reduceSub, Int.reduceAdd, Nat.reduceEqDiff, Nat.reduceAdd, Nat.reduceLeDiff, Nat.reduceLT, Nat.reduceMul, Nat.reduceSub]; refine went ?_)
      | (refine hK _ _ (Wkn.refl ?_); clear hK K)
      | (clear hK K; first | (refine hK _ _ (Wkn.refl ?_); clear hK K) | (clear hK K; refine hK _ _ (Wkn.refl ?_); clear hK K))))
    refine WP_cond (by simp (disch := first | omega | (simp only [go_sem, ↓reduceIte, Nat.reduceEqDiff]; done) | fail) only [go_sem, ↓reduceIte, Int.reduceToNat, Int.reduceLE, Int.reduceLT, Int.reduceSub, Int.reduceAdd, Nat.reduceEqDiff, Nat.reduceAdd, Nat.reduceLeDiff, Nat.reduceLT, Nat.reduceMul, Nat.reduceSub]; rfl) (fun hc => ?_) (fun hc => ?_) <;> (try simp only [Bool.false_or, Bool.or_false, Bool.true_or, Bool.or_true, Bool.false_and, Bool.and_false, Bool.and_true, Bool.true_and, Bool.or_eq_true, Bool.or_eq_false_iff, Bool.and_eq_true, Bool.and_eq_false_iff, Nat.not_lt, Nat.not_le, decide_eq_true_eq, decide_eq_false_iff_not, Bool.not_eq_true', Bool.not_eq_false', beq_iff_eq, bne_iff_ne, ne_eq, beq_eq_false_iff_ne, bne_eq_false_iff_eq, Bool.not_eq_true, Bool.not_eq_false, Int.not_lt, Int.not_le, gt_iff_lt, ge_iff_le, Int.ofNat_lt, Int.ofNat_le, Int.natCast_inj, Int.natCast_inj, Bool.not_not, decide_not, Decidable.not_not] at hc) <;>
      (repeat (first
        | refine WP_seq (fun K hK => ?_)
        | refine WP_block ?_
        | refine WP_scope ?_
        | ((first | refine WP_region ?_ | refine WP_skip ?_ | refine WP_exit ?_ | refine WP_ret ?_); try simp (disch := first | omega | (simp only [go_sem, ↓reduceIte, Nat.reduceEqDiff]; done) | fail) only [go_sem, ↓reduceIte, Int.reduceToNat, Int.reduceLE, Int.reduceLT, Int.reduceSub, Int.reduceAdd, Nat.reduceEqDiff, Nat.reduceAdd, Nat.reduceLeDiff, Nat.reduceLT, Nat.reduceMul, Nat.reduceSub])
        | (refine WP_condK ?_; simp (disch := first | omega | (simp only [go_sem, ↓reduceIte, Nat.reduceEqDiff]; done) | fail) only [go_sem, ↓reduceIte, Int.reduceToNat, Int.reduceLE, Int.reduceLT, Int.reduceSub, Int.reduceAdd, Nat.reduceEqDiff, Nat.reduceAdd, Nat.reduceLeDiff, Nat.reduceLT, Nat.reduceMul, Nat.reduceSub]; refine went ?_)
        | (refine hK _ _ (Wkn.refl ?_); clear hK K)
        | (clear hK K; first | (refine hK _ _ (Wkn.refl ?_); clear hK K) | (clear hK K; refine hK _ _ (Wkn.refl ?_); clear hK K))))
    · first | refine (hQ _ _ ?_).1 | refine (hQ _ _ ?_).2
      simp (disch := first | omega | (simp only [go_sem, ↓reduceIte, Nat.reduceEqDiff]; done) | fail) only [go_sem, ↓reduceIte, Int.reduceToNat, Int.reduceLE, Int.reduceLT, Int.reduceSub, Int.reduceAdd, Nat.reduceEqDiff, Nat.reduceAdd, Nat.reduceLeDiff, Nat.reduceLT, Nat.reduceMul, Nat.reduceSub]
      rw [walkF_eq, if_pos (by omega)]
      exact fin _ _ _ _
    · exfalso; omega
  | succ f ih =>
    intro d hf hd e st j hs hm
    have hrow : ∀ (s : σ) (l : Heap), getRow (H s ++ (j ++ .row 26 4 0 [e.av] :: l)) ((H st).length + j.length) 0 = some (26, 4, [e.av]) := fun s l => by
      rw [hlen st s, getRow_app, getRow_app0]; rfl
    have hkl := e.kids_len
    have hme := hma e st
    have hown := e.own_eq
    have hml := walkL_m A B m hma hmb e.kids (d + 1) (A e st)
    skip
    refine Sat.body [] (fn := Tryz.f53) Tryz.func53 rfl rfl (by kernel_rfl) (by kernel_rfl) (by kernel_rfl) rfl ?_
    intro Q hQ
    (repeat (first
      | refine WP_seq (fun K hK => ?_)
      | refine WP_block ?_
      | refine WP_scope ?_
      | ((first | refine WP_region ?_ | refine WP_skip ?_ | refine WP_exit ?_ | refine WP_ret ?_); try simp (disch := first | omega | (simp only [go_sem, ↓reduceIte, Nat.reduceEqDiff]; done) | fail) only [go_sem, ↓reduceIte, Int.reduceToNat, Int.reduceLE, Int.reduceLT, Int.reduceSub, Int.reduceAdd, Nat.reduceEqDiff, Nat.reduceAdd, Nat.reduceLeDiff, Nat.reduceLT, Nat.reduceMul, Nat.reduceSub, hrow])
      | (refine WP_condK ?_; simp (disch := first | omega | (simp only [go_sem, ↓reduceIte, Nat.reduceEqDiff]; done) | fail) only [go_sem, ↓reduceIte, Int.reduceToNat, Int.reduceLE, Int.reduceLT, Int.reduceSub, Int.reduceAdd, Nat.reduceEqDiff, Nat.reduceAdd, Nat.reduceLeDiff, Nat.reduceLT, Nat.reduceMul, Nat.reduceSub, hrow]; refine went ?_)
      | (refine hK _ _ (Wkn.refl ?_); clear hK K)
      | (clear hK K; first | (refine hK _ _ (Wkn.refl ?_); clear hK K) | (clear hK K; refine hK _ _ (Wkn.refl ?_); clear hK K))))
    refine WP_cond (by simp (disch := first | omega | (simp only [go_sem, ↓reduceIte, Nat.reduceEqDiff]; done) | fail) only [go_sem, ↓reduceIte, Int.reduceToNat, Int.reduceLE, Int.reduceLT, Int.reduceSub, Int.reduceAdd, Nat.reduceEqDiff, Nat.reduceAdd, Nat.reduceLeDiff, Nat.reduceLT, Nat.reduceMul, Nat.reduceSub, hrow]; rfl) (fun hc => ?_) (fun hc => ?_) <;> (try simp only [Bool.false_or, Bool.or_false, Bool.true_or, Bool.or_true, Bool.false_and, Bool.and_false, Bool.and_true, Bool.true_and, Bool.or_eq_true, Bool.or_eq_false_iff, Bool.and_eq_true, Bool.and_eq_false_iff, Nat.not_lt, Nat.not_le, decide_eq_true_eq, decide_eq_false_iff_not, Bool.not_eq_true', Bool.not_eq_false', beq_iff_eq, bne_iff_ne, ne_eq, beq_eq_false_iff_ne, bne_eq_false_iff_eq, Bool.not_eq_true, Bool.not_eq_false, Int.not_lt, Int.not_le, gt_iff_lt, ge_iff_le, Int.ofNat_lt, Int.ofNat_le, Int.natCast_inj, Int.natCast_inj, Bool.not_not, decide_not, Decidable.not_not] at hc) <;>
      (repeat (first
        | refine WP_seq (fun K hK => ?_)
        | refine WP_block ?_
        | refine WP_scope ?_
        | ((first | refine WP_region ?_ | refine WP_skip ?_ | refine WP_exit ?_ | refine WP_ret ?_); try simp (disch := first | omega | (simp only [go_sem, ↓reduceIte, Nat.reduceEqDiff]; done) | fail) only [go_sem, ↓reduceIte, Int.reduceToNat, Int.reduceLE, Int.reduceLT, Int.reduceSub, Int.reduceAdd, Nat.reduceEqDiff, Nat.reduceAdd, Nat.reduceLeDiff, Nat.reduceLT, Nat.reduceMul, Nat.reduceSub, hrow])
        | (refine WP_condK ?_; simp (disch := first | omega | (simp only [go_sem, ↓reduceIte, Nat.reduceEqDiff]; done) | fail) only [go_sem, ↓reduceIte, Int.reduceToNat, Int.reduceLE, Int.reduceLT, Int.reduceSub, Int.reduceAdd, Nat.reduceEqDiff, Nat.reduceAdd, Nat.reduceLeDiff, Nat.reduceLT, Nat.reduceMul, Nat.reduceSub, hrow]; refine went ?_)
        | (refine hK _ _ (Wkn.refl ?_); clear hK K)
        | (clear hK K; first | (refine hK _ _ (Wkn.refl ?_); clear hK K) | (clear hK K; refine hK _ _ (Wkn.refl ?_); clear hK K))))
    · first | refine (hQ _ _ ?_).1 | refine (hQ _ _ ?_).2
      simp (disch := first | omega | (simp only [go_sem, ↓reduceIte, Nat.reduceEqDiff]; done) | fail) only [go_sem, ↓reduceIte, Int.reduceToNat, Int.reduceLE, Int.reduceLT, Int.reduceSub, Int.reduceAdd, Nat.reduceEqDiff, Nat.reduceAdd, Nat.reduceLeDiff, Nat.reduceLT, Nat.reduceMul, Nat.reduceSub, hrow]
      rw [walkF_eq, if_pos (by omega)]
      exact fin _ _ _ _
    refine (ha e st _ hs (by omega)).mono ?_
    rintro r h' ⟨rfl, rfl⟩
    try simp (disch := first | omega | (simp only [go_sem, ↓reduceIte, Nat.reduceEqDiff]; done) | fail) only [go_sem, ↓reduceIte, Int.reduceToNat, Int.reduceLE, Int.reduceLT, Int.reduceSub, Int.reduceAdd, Nat.reduceEqDiff, Nat.reduceAdd, Nat.reduceLeDiff, Nat.reduceLT, Nat.reduceMul, Nat.reduceSub, hrow]
    (repeat (first
      | refine WP_seq (fun K hK => ?_)
      | refine WP_block ?_
      | refine WP_scope ?_
      | ((first | refine WP_region ?_ | refine WP_skip ?_ | refine WP_exit ?_ | refine WP_ret ?_); try simp (disch := first | omega | (simp only [go_sem, ↓reduceIte, Nat.reduceEqDiff]; done) | fail) only [go_sem, ↓reduceIte, Int.reduceToNat, Int.reduceLE, Int.reduceLT, Int.reduceSub, Int.reduceAdd, Nat.reduceEqDiff, Nat.reduceAdd, Nat.reduceLeDiff, Nat.reduceLT, Nat.reduceMul, Nat.reduceSub, hrow])
      | (refine WP_condK ?_; simp (disch := first | omega | (simp only [go_sem, ↓reduceIte, Nat.reduceEqDiff]; done) | fail) only [go_sem, ↓reduceIte, Int.reduceToNat, Int.reduceLE, Int.reduceLT, Int.reduceSub, Int.reduceAdd, Nat.reduceEqDiff, Nat.reduceAdd, Nat.reduceLeDiff, Nat.reduceLT, Nat.reduceMul, Nat.reduceSub, hrow]; refine went ?_)
      | (refine hK _ _ (Wkn.refl ?_); clear hK K)
      | (clear hK K; first | (refine hK _ _ (Wkn.refl ?_); clear hK K) | (clear hK K; refine hK _ _ (Wkn.refl ?_); clear hK K))))
    refine WP_loopm (by simp only [go_sem, List.nil_append, List.cons_append]; rfl) (fun nL tL hL => ∃ (k : Nat) (s : σ) (l : Heap), e.kids.length - k = nL ∧ H s ++ (j ++ .row 26 4 0 [e.av] :: l) = hL ∧ tL 18 = .int .i64 k ∧ k ≤ e.kids.length ∧ m s + 3 * szs Elem.sz (e.kids.drop k) ≤ 4194304 ∧ walkL A B (e.kids.drop k) (d + 1) s = walkL A B e.kids (d + 1) (A e st)) ((fun (k : Nat) (s : σ) (l : Heap) => (e.kids.length - k : Nat)) (0) (A e st) ([])) ?_ ?_
    · refine Wkn.refl ⟨0, A e st, [], rfl, (by first | rfl | (simp; done) | (simp; rfl)), ?_, Nat.zero_le _, by rw [List.drop_zero]; omega, rfl⟩
      all_goals first | (simp (disch := first | omega | (simp only [go_sem, ↓reduceIte, Nat.reduceEqDiff]; done) | fail) only [go_sem, ↓reduceIte, Int.reduceToNat, Int.reduceLE, Int.reduceLT, Int.reduceSub, Int.reduceAdd, Nat.reduceEqDiff, Nat.reduceAdd, Nat.reduceLeDiff, Nat.reduceLT, Nat.reduceMul, Nat.reduceSub, hrow]; done) | rfl | omega | trivial | skip
    rintro _ s2 h' ⟨k, s, l, rfl, rfl, e18, hk, hms, hp⟩ K2 hK2
    simp only [mix_cons, mix_nil, Nat.reduceEqDiff, ↓reduceIte] at e18
    (repeat (first
      | refine WP_seq (fun K hK => ?_)
      | refine WP_block ?_
      | refine WP_scope ?_
      | ((first | refine WP_region ?_ | refine WP_skip ?_ | refine WP_exit ?_ | refine WP_ret ?_); try simp (disch := first | omega | (simp only [go_sem, ↓reduceIte, Nat.reduceEqDiff]; done) | fail) only [go_sem, ↓reduceIte, Int.reduceToNat, Int.reduceLE, Int.reduceLT, Int.reduceSub, Int.reduceAdd, Nat.reduceEqDiff, Nat.reduceAdd, Nat.reduceLeDiff, Nat.reduceLT, Nat.reduceMul, Nat.reduceSub, hrow, e18])
      | (refine WP_condK ?_; simp (disch := first | omega | (simp only [go_sem, ↓reduceIte, Nat.reduceEqDiff]; done) | fail) only [go_sem, ↓reduceIte, Int.reduceToNat, Int.reduceLE, Int.reduceLT, Int.reduceSub, Int.reduceAdd, Nat.reduceEqDiff, Nat.reduceAdd, Nat.reduceLeDiff, Nat.reduceLT, Nat.reduceMul, Nat.reduceSub, hrow, e18]; refine went ?_)
      | (refine hK _ _ (Wkn.refl ?_); clear hK K)
      | (clear hK K; first | (refine hK _ _ (Wkn.refl ?_); clear hK K) | (clear hK K; refine hK _ _ (Wkn.refl ?_); clear hK K))))
    refine WP_cond (by simp (disch := first | omega | (simp only [go_sem, ↓reduceIte, Nat.reduceEqDiff]; done) | fail) only [go_sem, ↓reduceIte, Int.reduceToNat, Int.reduceLE, Int.reduceLT, Int.reduceSub, Int.reduceAdd, Nat.reduceEqDiff, Nat.reduceAdd, Nat.reduceLeDiff, Nat.reduceLT, Nat.reduceMul, Nat.reduceSub, hrow, e18]; rfl) (fun hc => ?_) (fun hc => ?_) <;> (try simp only [Bool.false_or, Bool.or_false, Bool.true_or, Bool.or_true, Bool.false_and, Bool.and_false, Bool.and_true, Bool.true_and, Bool.or_eq_true, Bool.or_eq_false_iff, Bool.and_eq_true, Bool.and_eq_false_iff, Nat.not_lt, Nat.not_le, decide_eq_true_eq, decide_eq_false_iff_not, Bool.not_eq_true', Bool.not_eq_false', beq_iff_eq, bne_iff_ne, ne_eq, beq_eq_false_iff_ne, bne_eq_false_iff_eq, Bool.not_eq_true, Bool.not_eq_false, Int.not_lt, Int.not_le, gt_iff_lt, ge_iff_le, Int.ofNat_lt, Int.ofNat_le, Int.natCast_inj, Int.natCast_inj, Bool.not_not, decide_not, Decidable.not_not] at hc)
    · obtain ⟨y, hy, hym⟩ := getElem?_of_lt hc
      have h1 := Elem.kid_sz hym
      have h2 := walkF_m A B m hma hmb y (d + 1) s
      rw [drop_cons_of hy, szs] at hms
      rw [drop_cons_of hy, walkL] at hp
      skip
      (repeat (first
        | refine WP_seq (fun K hK => ?_)
        | refine WP_block ?_
        | refine WP_scope ?_
        | ((first | refine WP_region ?_ | refine WP_skip ?_ | refine WP_exit ?_ | refine WP_ret ?_); try simp (disch := first | omega | (simp only [go_sem, ↓reduceIte, Nat.reduceEqDiff]; done) | fail) only [go_sem, ↓reduceIte, Int.reduceToNat, Int.reduceLE, Int.reduceLT, Int.reduceSub, Int.reduceAdd, Nat.reduceEqDiff, Nat.reduceAdd, Nat.reduceLeDiff, Nat.reduceLT, Nat.reduceMul, Nat.reduceSub, hrow, e18, hy])
        | (refine WP_condK ?_; simp (disch := first | omega | (simp only [go_sem, ↓reduceIte, Nat.reduceEqDiff]; done) | fail) only [go_sem, ↓reduceIte, Int.reduceToNat, Int.reduceLE, Int.reduceLT, Int.reduceSub, Int.reduceAdd, Nat.reduceEqDiff, Nat.reduceAdd, Nat.reduceLeDiff, Nat.reduceLT, Nat.reduceMul, Nat.reduceSub, hrow, e18, hy]; refine went ?_)
        | (refine hK _ _ (Wkn.refl ?_); clear hK K)
        | (clear hK K; first | (refine hK _ _ (Wkn.refl ?_); clear hK K) | (clear hK K; refine hK _ _ (Wkn.refl ?_); clear hK K))))
      refine (ih (d + 1) (by omega) (by omega) y s _ (by omega) (by omega)).mono ?_
      rintro r h' ⟨rfl, rfl⟩
      try simp (disch := first | omega | (simp only [go_sem, ↓reduceIte, Nat.reduceEqDiff]; done) | fail) only [go_sem, ↓reduceIte, Int.reduceToNat, Int.reduceLE, Int.reduceLT, Int.reduceSub, Int.reduceAdd, Nat.reduceEqDiff, Nat.reduceAdd, Nat.reduceLeDiff, Nat.reduceLT, Nat.reduceMul, Nat.reduceSub, hrow, e18, hy]
      (repeat (first
        | refine WP_seq (fun K hK => ?_)
        | refine WP_block ?_
        | refine WP_scope ?_
        | ((first | refine WP_region ?_ | refine WP_skip ?_ | refine WP_exit ?_ | refine WP_ret ?_); try simp (disch := first | omega | (simp only [go_sem, ↓reduceIte, Nat.reduceEqDiff]; done) | fail) only [go_sem, ↓reduceIte, Int.reduceToNat, Int.reduceLE, Int.reduceLT, Int.reduceSub, Int.reduceAdd, Nat.reduceEqDiff, Nat.reduceAdd, Nat.reduceLeDiff, Nat.reduceLT, Nat.reduceMul, Nat.reduceSub, hrow, e18, hy])
        | (refine WP_condK ?_; simp (disch := first | omega | (simp only [go_sem, ↓reduceIte, Nat.reduceEqDiff]; done) | fail) only [go_sem, ↓reduceIte, Int.reduceToNat, Int.reduceLE, Int.reduceLT, Int.reduceSub, Int.reduceAdd, Nat.reduceEqDiff, Nat.reduceAdd, Nat.reduceLeDiff, Nat.reduceLT, Nat.reduceMul, Nat.reduceSub, hrow, e18, hy]; refine went ?_)
        | (refine hK _ _ (Wkn.refl ?_); clear hK K)
        | (clear hK K; first | (refine hK _ _ (Wkn.refl ?_); clear hK K) | (clear hK K; refine hK _ _ (Wkn.refl ?_); clear hK K))))
      refine hK2 _ _ _ (Wkn.refl ⟨k + 1, walkF A B y (d + 1) s, _, rfl, (by first | rfl | (simp; done) | (simp; rfl)), ?_, by omega, by omega, hp⟩) (by omega)
      all_goals first | (simp (disch := first | omega | (simp only [go_sem, ↓reduceIte, Nat.reduceEqDiff]; done) | fail) only [go_sem, ↓reduceIte, Int.reduceToNat, Int.reduceLE, Int.reduceLT, Int.reduceSub, Int.reduceAdd, Nat.reduceEqDiff, Nat.reduceAdd, Nat.reduceLeDiff, Nat.reduceLT, Nat.reduceMul, Nat.reduceSub, hrow, e18, hy]; done) | rfl | omega | trivial | skip
    · rw [drop_nil_of hc, walkL] at hp
      subst hp
      rw [drop_nil_of hc, szs] at hms
      (repeat (first
        | refine WP_seq (fun K hK => ?_)
        | refine WP_block ?_
        | refine WP_scope ?_
        | ((first | refine WP_region ?_ | refine WP_skip ?_ | refine WP_exit ?_ | refine WP_ret ?_); try simp (disch := first | omega | (simp only [go_sem, ↓reduceIte, Nat.reduceEqDiff]; done) | fail) only [go_sem, ↓reduceIte, Int.reduceToNat, Int.reduceLE, Int.reduceLT, Int.reduceSub, Int.reduceAdd, Nat.reduceEqDiff, Nat.reduceAdd, Nat.reduceLeDiff, Nat.reduceLT, Nat.reduceMul, Nat.reduceSub, hrow, e18])
        | (refine WP_condK ?_; simp (disch := first | omega | (simp only [go_sem, ↓reduceIte, Nat.reduceEqDiff]; done) | fail) only [go_sem, ↓reduceIte, Int.reduceToNat, Int.reduceLE, Int.reduceLT, Int.reduceSub, Int.reduceAdd, Nat.reduceEqDiff, Nat.reduceAdd, Nat.reduceLeDiff, Nat.reduceLT, Nat.reduceMul, Nat.reduceSub, hrow, e18]; refine went ?_)
        | (refine hK _ _ (Wkn.refl ?_); clear hK K)
        | (clear hK K; first | (refine hK _ _ (Wkn.refl ?_); clear hK K) | (clear hK K; refine hK _ _ (Wkn.refl ?_); clear hK K))))
      refine (hb e _ _ hs (by omega)).mono ?_
      rintro r h' ⟨rfl, rfl⟩
      try simp (disch := first | omega | (simp only [go_sem, ↓reduceIte, Nat.reduceEqDiff]; done) | fail) only [go_sem, ↓reduceIte, Int.reduceToNat, Int.reduceLE, Int.reduceLT, Int.reduceSub, Int.reduceAdd, Nat.reduceEqDiff, Nat.reduceAdd, Nat.reduceLeDiff, Nat.reduceLT, Nat.reduceMul, Nat.reduceSub, hrow, e18]
      (repeat (first
        | refine WP_seq (fun K hK => ?_)
        | refine WP_block ?_
        | refine WP_scope ?_
        | ((first | refine WP_region ?_ | refine WP_skip ?_ | refine WP_exit ?_ | refine WP_ret ?_); try simp (disch := first | omega | (simp only [go_sem, ↓reduceIte, Nat.reduceEqDiff]; done) | fail) only [go_sem, ↓reduceIte, Int.reduceToNat, Int.reduceLE, Int.reduceLT, Int.reduceSub, Int.reduceAdd, Nat.reduceEqDiff, Nat.reduceAdd, Nat.reduceLeDiff, Nat.reduceLT, Nat.reduceMul, Nat.reduceSub, hrow, e18])
        | (refine WP_condK ?_; simp (disch := first | omega | (simp only [go_sem, ↓reduceIte, Nat.reduceEqDiff]; done) | fail) only [go_sem, ↓reduceIte, Int.reduceToNat, Int.reduceLE, Int.reduceLT, Int.reduceSub, Int.reduceAdd, Nat.reduceEqDiff, Nat.reduceAdd, Nat.reduceLeDiff, Nat.reduceLT, Nat.reduceMul, Nat.reduceSub, hrow, e18]; refine went ?_)
        | (refine hK _ _ (Wkn.refl ?_); clear hK K)
        | (clear hK K; first | (refine hK _ _ (Wkn.refl ?_); clear hK K) | (clear hK K; refine hK _ _ (Wkn.refl ?_); clear hK K))))
      first | refine (hQ _ _ ?_).1 | refine (hQ _ _ ?_).2
      simp (disch := first | omega | (simp only [go_sem, ↓reduceIte, Nat.reduceEqDiff]; done) | fail) only [go_sem, ↓reduceIte, Int.reduceToNat, Int.reduceLE, Int.reduceLT, Int.reduceSub, Int.reduceAdd, Nat.reduceEqDiff, Nat.reduceAdd, Nat.reduceLeDiff, Nat.reduceLT, Nat.reduceMul, Nat.reduceSub, hrow, e18]
      rw [walkF_eq, if_neg (by omega)]
      exact fin _ _ _ _

theorem nothing_sat (e : Elem) (h : Heap) : Sat (CT G) 56 [e.av] h (fun r h' => r = .tup [] ∧ h' = h) := by
  refine Sat.body [] (fn := Tryz.f56) Tryz.func56 rfl rfl (by kernel_rfl) (by kernel_rfl) (by kernel_rfl) rfl ?_
  intro Q hQ
  (repeat (first
    | refine WP_seq (fun K hK => ?_)
    | refine WP_block ?_
    | refine WP_scope ?_
    | ((first | refine WP_region ?_ | refine WP_skip ?_ | refine WP_exit ?_ | refine WP_ret ?_); try simp (disch := first | omega | (simp only [go_sem, ↓reduceIte, Nat.reduceEqDiff]; done) | fail) only [go_sem, ↓reduceIte, Int.reduceToNat, Int.reduceLE, Int.reduceLT, Int.reduceSub, Int.reduceAdd, Nat.reduceEqDiff, Nat.reduceAdd, Nat.reduceLeDiff, Nat.reduceLT, Nat.reduceMul, Nat.reduceSub])
    | (refine WP_condK ?_; simp (disch := first | omega | (simp only [go_sem, ↓reduceIte, Nat.reduceEqDiff]; done) | fail) only [go_sem, ↓reduceIte, Int.reduceToNat, Int.reduceLE, Int.reduceLT, Int.reduceSub, Int.reduceAdd, Nat.reduceEqDiff, Nat.reduceAdd, Nat.reduceLeDiff, Nat.reduceLT, Nat.reduceMul, Nat.reduceSub]; refine went ?_)
    | (refine hK _ _ (Wkn.refl ?_); clear hK K)
    | (clear hK K; first | (refine hK _ _ (Wkn.refl ?_); clear hK K) | (clear hK K; refine hK _ _ (Wkn.refl ?_); clear hK K))))
  first | refine (hQ _ _ ?_).1 | refine (hQ _ _ ?_).2
  simp (disch := first | omega | (simp only [go_sem, ↓reduceIte, Nat.reduceEqDiff]; done) | fail) only [go_sem, ↓reduceIte, Int.reduceToNat, Int.reduceLE, Int.reduceLT, Int.reduceSub, Int.reduceAdd, Nat.reduceEqDiff, Nat.reduceAdd, Nat.reduceLeDiff, Nat.reduceLT, Nat.reduceMul, Nat.reduceSub]
  first | refine Fin.same (.tup _ (by simp)) ⟨?_, rfl⟩ | refine Fin.plain (.tup _ (by simp)) ⟨?_, rfl⟩ | refine Fin.plainE (by simp only [List.append_assoc, List.cons_append, List.nil_append]; rfl) (.tup _ (by simp)) ⟨?_, rfl⟩
  rfl

end

section
mutual
theorem walk_size : ∀ (e : Elem) (d n : Nat), walkF (fun _ n => n + 1) (fun _ n => n) e d n = n + sizeT e d
  | .mk nm a t k, d, n => by
    rw [walkF, sizeT]; split
    · rfl
    · rw [walkL_size]; omega
theorem walkL_size : ∀ (l : List Elem) (d n : Nat), walkL (fun _ n => n + 1) (fun _ n => n) l d n = n + sizeL l d
  | [], d, n => rfl
  | e :: l, d, n => by rw [walkL, sizeL, walk_size, walkL_size]; omega
end
mutual
theorem walk_all : ∀ (e : Elem) (d : Nat) (s : Bool × Nat × Bs), (walkF (fun e s => (true, s.2.1 + 1, s.2.2 ++ e.text)) (fun _ s => s) e d s).2.2 = s.2.2 ++ allT e d
  | .mk nm a t k, d, s => by
    rw [walkF, allT]; split
    · simp
    · rw [walkL_all]; simp [Elem.text]
theorem walkL_all : ∀ (l : List Elem) (d : Nat) (s : Bool × Nat × Bs), (walkL (fun e s => (true, s.2.1 + 1, s.2.2 ++ e.text)) (fun _ s => s) l d s).2.2 = s.2.2 ++ allL l d
  | [], d, s => by rw [walkL, allL]; simp
  | e :: l, d, s => by rw [walkL, allL, walkL_all, walk_all]; simp
end
end

theorem clo_int (n e m v : Nat) (k : IntKind) (x : Int) : CloB n (.row e m v [.int k x]) := by
  intro r hr; simp only [List.mem_singleton] at hr; subst hr; exact .int _ _
theorem keepOne {h : Heap} {X a b : Blk} {p : Nat} {k : Blk} (hb : ∀ n, CloB n b) (hk : (h ++ [X, b])[p]? = some k) : (h ++ [X, a])[p]? = some k ∨ ∀ n, CloB n k := by
  rcases Nat.lt_or_ge p h.length with h1 | h1
  · rw [List.getElem?_append_left h1] at hk ⊢; exact .inl hk
  · rw [List.getElem?_append_right h1] at hk ⊢
    match p - h.length, hk with
    | 0, hk => exact .inl (by simpa using hk)
    | 1, hk => simp at hk; subst hk; exact .inr hb
    | i + 2, hk => simp at hk

theorem Size1_sat (e : Elem) (n : Nat) (hn : n ≤ 1073741824) (h j : Heap) (X : Blk) : Sat (CT G) 59 [e.av, .hp (h.length + 1) 0 0 0] (h ++ X :: .row 3 1 0 [.int .i64 n] :: j) (fun r h' => r = .tup [] ∧ h' = h ++ X :: .row 3 1 0 [.int .i64 (n + 1 : Nat)] :: j) := by
  refine Sat.body [] (fn := Tryz.f59) Tryz.func59 rfl rfl (by kernel_rfl) (by kernel_rfl) (by kernel_rfl) rfl ?_
  intro Q hQ
  (repeat (first
    | refine WP_seq (fun K hK => ?_)
    | refine WP_block ?_
    | refine WP_scope ?_
    | ((first | refine WP_region ?_ | refine WP_skip ?_ | refine WP_exit ?_ | refine WP_ret ?_); try simp (disch := first | omega | (simp only [go_sem, ↓reduceIte, Nat.reduceEqDiff]; done) | fail) only [go_sem, ↓reduceIte, Int.reduceToNat, Int.reduceLE, Int.reduceLT, Int.reduceSub, Int.reduceAdd, Nat.reduceEqDiff, Nat.reduceAdd, Nat.reduceLeDiff, Nat.reduceLT, Nat.reduceMul, Nat.reduceSub])
    | (refine WP_condK ?_; simp (disch := first | omega | (simp only [go_sem, ↓reduceIte, Nat.reduceEqDiff]; done) | fail) only [go_sem, ↓reduceIte, Int.reduceToNat, Int.reduceLE, Int.reduceLT, Int.reduceSub, Int.reduceAdd, Nat.reduceEqDiff, Nat.reduceAdd, Nat.reduceLeDiff, Nat.reduceLT, Nat.reduceMul, Nat.reduceSub]; refine went ?_)
    | (refine hK _ _ (Wkn.refl ?_); clear hK K)
    | (clear hK K; first | (refine hK _ _ (Wkn.refl ?_); clear hK K) | (clear hK K; refine hK _ _ (Wkn.refl ?_); clear hK K))))
  first | refine (hQ _ _ ?_).1 | refine (hQ _ _ ?_).2
  simp (disch := first | omega | (simp only [go_sem, ↓reduceIte, Nat.reduceEqDiff]; done) | fail) only [go_sem, ↓reduceIte, Int.reduceToNat, Int.reduceLE, Int.reduceLT, Int.reduceSub, Int.reduceAdd, Nat.reduceEqDiff, Nat.reduceAdd, Nat.reduceLeDiff, Nat.reduceLT, Nat.reduceMul, Nat.reduceSub]
  refine Fin.keepE (h1 := h ++ X :: .row 3 1 0 [.int .i64 (n + 1 : Nat)] :: j) (by simp only [List.append_assoc, List.cons_append]; rfl) (by simp) (fun p k hk => ?_) (.tup _ (by simp)) ⟨rfl, rfl⟩
  rcases Nat.lt_or_ge p h.length with h1 | h1
  · rw [List.getElem?_append_left h1] at hk ⊢; exact .inl hk
  · rw [List.getElem?_append_right h1] at hk ⊢
    match p - h.length, hk with
    | 0, hk => exact .inl (by simpa using hk)
    | 1, hk => simp at hk; subst hk; exact .inr (by intro r hr; simp at hr; subst hr; exact .int _ _)
    | i + 2, hk => exact .inl (by simpa using hk)

theorem PSize_sat (e : Elem) (hs : e.sz ≤ 1048576) (h : Heap) : Sat (CT G) 23 [e.av] h (fun r h' => r = .int .i64 (sizeT e 1) ∧ h' = h) := by
  have hkeep : ∀ (s t p : Nat) (k : Blk), (h ++ [Blk.row 26 4 0 [e.av], .row 3 1 0 [.int .i64 t]])[p]? = some k →
      (h ++ [Blk.row 26 4 0 [e.av], .row 3 1 0 [.int .i64 s]])[p]? = some k ∨ ∀ n, (h ++ [Blk.row 26 4 0 [e.av], .row 3 1 0 [.int .i64 s]]).length ≤ n → CloB n k :=
    fun s t p k hk => (keepOne (fun n => clo_int _ _ _ _ _ _) hk).imp id fun g n _ => g n
  have hw := walk_sat G (fun _ n => n + 1) (fun _ n => n) (fun n : Nat => h ++ [.row 26 4 0 [e.av], .row 3 1 0 [.int .i64 n]]) (fun n => n) 59 56 [.hp (h.length + 1) 0 0 0] []
    (by simp) hkeep (fun e st => by simp only [Elem.own]; omega) (fun e st => by omega)
    (fun e st j h1 h2 => by simpa using Size1_sat G e st (by omega) h j _)
    (fun e st j h1 h2 => nothing_sat G e _) 32 1 (by omega) (by omega) e 0 [] hs (by omega)
  simp only [List.append_nil] at hw
  refine Sat.body [.tmp 2] (fn := Tryz.f23) Tryz.func23 rfl rfl (by kernel_rfl) (by kernel_rfl) (by kernel_rfl) rfl ?_
  intro Q hQ
  (repeat (first
    | refine WP_seq (fun K hK => ?_)
    | refine WP_block ?_
    | refine WP_scope ?_
    | ((first | refine WP_region ?_ | refine WP_skip ?_ | refine WP_exit ?_ | refine WP_ret ?_); try simp (disch := first | omega | (simp only [go_sem, ↓reduceIte, Nat.reduceEqDiff]; done) | fail) only [go_sem, ↓reduceIte, Int.reduceToNat, Int.reduceLE, Int.reduceLT, Int.reduceSub, Int.reduceAdd, Nat.reduceEqDiff, Nat.reduceAdd, Nat.reduceLeDiff, Nat.reduceLT, Nat.reduceMul, Nat.reduceSub])
    | (refine WP_condK ?_; simp (disch := first | omega | (simp only [go_sem, ↓reduceIte, Nat.reduceEqDiff]; done) | fail) only [go_sem, ↓reduceIte, Int.reduceToNat, Int.reduceLE, Int.reduceLT, Int.reduceSub, Int.reduceAdd, Nat.reduceEqDiff, Nat.reduceAdd, Nat.reduceLeDiff, Nat.reduceLT, Nat.reduceMul, Nat.reduceSub]; refine went ?_)
    | (refine hK _ _ (Wkn.refl ?_); clear hK K)
    | (clear hK K; first | (refine hK _ _ (Wkn.refl ?_); clear hK K) | (clear hK K; refine hK _ _ (Wkn.refl ?_); clear hK K))))
  refine (hw).mono ?_
  rintro r h' ⟨rfl, rfl⟩
  try simp (disch := first | omega | (simp only [go_sem, ↓reduceIte, Nat.reduceEqDiff]; done) | fail) only [go_sem, ↓reduceIte, Int.reduceToNat, Int.reduceLE, Int.reduceLT, Int.reduceSub, Int.reduceAdd, Nat.reduceEqDiff, Nat.reduceAdd, Nat.reduceLeDiff, Nat.reduceLT, Nat.reduceMul, Nat.reduceSub]
  (repeat (first
    | refine WP_seq (fun K hK => ?_)
    | refine WP_block ?_
    | refine WP_scope ?_
    | ((first | refine WP_region ?_ | refine WP_skip ?_ | refine WP_exit ?_ | refine WP_ret ?_); try simp (disch := first | omega | (simp only [go_sem, ↓reduceIte, Nat.reduceEqDiff]; done) | fail) only [go_sem, ↓reduceIte, Int.reduceToNat, Int.reduceLE, Int.reduceLT, Int.reduceSub, Int.reduceAdd, Nat.reduceEqDiff, Nat.reduceAdd, Nat.reduceLeDiff, Nat.reduceLT, Nat.reduceMul, Nat.reduceSub])
    | (refine WP_condK ?_; simp (disch := first | omega | (simp only [go_sem, ↓reduceIte, Nat.reduceEqDiff]; done) | fail) only [go_sem, ↓reduceIte, Int.reduceToNat, Int.reduceLE, Int.reduceLT, Int.reduceSub, Int.reduceAdd, Nat.reduceEqDiff, Nat.reduceAdd, Nat.reduceLeDiff, Nat.reduceLT, Nat.reduceMul, Nat.reduceSub]; refine went ?_)
    | (refine hK _ _ (Wkn.refl ?_); clear hK K)
    | (clear hK K; first | (refine hK _ _ (Wkn.refl ?_); clear hK K) | (clear hK K; refine hK _ _ (Wkn.refl ?_); clear hK K))))
  first | refine (hQ _ _ ?_).1 | refine (hQ _ _ ?_).2
  simp (disch := first | omega | (simp only [go_sem, ↓reduceIte, Nat.reduceEqDiff]; done) | fail) only [go_sem, ↓reduceIte, Int.reduceToNat, Int.reduceLE, Int.reduceLT, Int.reduceSub, Int.reduceAdd, Nat.reduceEqDiff, Nat.reduceAdd, Nat.reduceLeDiff, Nat.reduceLT, Nat.reduceMul, Nat.reduceSub]
  first | refine Fin.same (.int _ _) ⟨?_, rfl⟩ | refine Fin.plain (.int _ _) ⟨?_, rfl⟩ | refine Fin.plainE (by simp only [List.append_assoc, List.cons_append, List.nil_append]; rfl) (.int _ _) ⟨?_, rfl⟩
  rw [walk_size]; simp
end Go.Av
