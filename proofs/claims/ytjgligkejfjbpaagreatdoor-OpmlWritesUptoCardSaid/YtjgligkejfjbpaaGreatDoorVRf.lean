/- The document's answers for documents: an attribute. -/
import Derived.Test.YtjgligkejfjbpaaGreatDoorVUa
import Derived.Test.YtjgligkejfjbpaaGreatDoorVHe
import Derived.Test.YtjgligkejfjbpaaGreatDoorVTy
set_option linter.unusedSimpArgs false
set_option linter.unusedVariables false
namespace Go.Av
open Go Go.Proofs Go.RowKit
attribute [local irreducible] WP WPl WPix Sat
set_option maxRecDepth 100000
set_option maxHeartbeats 1000000
variable (G : Nat → Option (List AVal))
theorem PBlank_sat (c : Int) (h : Heap) : Sat (CT G) 141 [.int .i32 c] h (fun r h' => r = .bool (blankR c) ∧ h' = h) := by
 have yes : (c = 9 ∨ c = 10 ∨ c = 13 ∨ c = 32 ∨ c = 160 ∨ c = 8232 ∨ c = 8233 ∨ c = 12288) → blankR c = true := fun h => decide_eq_true h
 have no : ¬ (c = 9 ∨ c = 10 ∨ c = 13 ∨ c = 32 ∨ c = 160 ∨ c = 8232 ∨ c = 8233 ∨ c = 12288) → blankR c = false := fun h => decide_eq_false h
 refine sb [.tmp 2] (fn := Tryz.f141) Tryz.func141 ?_
 intro Q hQ
 refine wk trivial ?_
 refine cq trivial (fun c0 => ?_) (fun c0 => ?_) <;> (try exact c0.elim) <;> (refine wk trivial ?_)
 ·refine cq trivial (fun d => ?_) (fun d => ?_) <;> (try exact d.elim) <;> (refine wk trivial ?_)
  ·refine ee hQ trivial ?_
   refine fR (.bool _) ?_
   rw [yes (by omega)]
  ·exfalso; omega
 refine cq trivial (fun c1 => ?_) (fun c1 => ?_) <;> (try exact c1.elim) <;> (refine wk trivial ?_)
 ·refine cq trivial (fun d => ?_) (fun d => ?_) <;> (try exact d.elim) <;> (refine wk trivial ?_)
  ·refine ee hQ trivial ?_
   refine fR (.bool _) ?_
   rw [yes (by omega)]
  ·exfalso; omega
 refine cq trivial (fun c2 => ?_) (fun c2 => ?_) <;> (try exact c2.elim) <;> (refine wk trivial ?_)
 ·refine cq trivial (fun d => ?_) (fun d => ?_) <;> (try exact d.elim) <;> (refine wk trivial ?_)
  ·refine ee hQ trivial ?_
   refine fR (.bool _) ?_
   rw [yes (by omega)]
  ·exfalso; omega
 refine cq trivial (fun c3 => ?_) (fun c3 => ?_) <;> (try exact c3.elim) <;> (refine wk trivial ?_)
 ·refine cq trivial (fun d => ?_) (fun d => ?_) <;> (try exact d.elim) <;> (refine wk trivial ?_)
  ·refine ee hQ trivial ?_
   refine fR (.bool _) ?_
   rw [yes (by omega)]
  ·exfalso; omega
 refine cq trivial (fun c4 => ?_) (fun c4 => ?_) <;> (try exact c4.elim) <;> (refine wk trivial ?_)
 ·refine cq trivial (fun d => ?_) (fun d => ?_) <;> (try exact d.elim) <;> (refine wk trivial ?_)
  ·refine ee hQ trivial ?_
   refine fR (.bool _) ?_
   rw [yes (by omega)]
  ·exfalso; omega
 refine cq trivial (fun c5 => ?_) (fun c5 => ?_) <;> (try exact c5.elim) <;> (refine wk trivial ?_)
 ·refine cq trivial (fun d => ?_) (fun d => ?_) <;> (try exact d.elim) <;> (refine wk trivial ?_)
  ·refine ee hQ trivial ?_
   refine fR (.bool _) ?_
   rw [yes (by omega)]
  ·exfalso; omega
 refine cq trivial (fun c6 => ?_) (fun c6 => ?_) <;> (try exact c6.elim) <;> (refine wk trivial ?_)
 ·refine cq trivial (fun d => ?_) (fun d => ?_) <;> (try exact d.elim) <;> (refine wk trivial ?_)
  ·refine ee hQ trivial ?_
   refine fR (.bool _) ?_
   rw [yes (by omega)]
  ·exfalso; omega
 refine cq trivial (fun d => ?_) (fun d => ?_) <;> (try exact d.elim) <;> (refine wk trivial ?_)
 ·refine ee hQ trivial ?_
  refine fR (.bool _) ?_
  rw [yes (by omega)]
 ·refine ee hQ trivial ?_
  refine fR (.bool _) ?_
  rw [no (by omega)]
theorem Pcontrol_sat (c : Int) (h : Heap) : Sat (CT G) 143 [.int .i32 c] h (fun r h' => r = .bool (ctlR c) ∧ h' = h) := by
 refine sb [.tmp 2] (fn := Tryz.f143) Tryz.func143 ?_
 intro Q hQ
 refine wk trivial ?_
 (first | refine gq trivial (fun g1 => ?_) (fun g1 => ?_) | refine pq trivial (fun g1 => ?_) (fun g1 => ?_)) <;> (try exact g1.elim) <;> (try refine sq trivial ?_) <;> (refine wk trivial ?_)
 ·refine ee hQ trivial ?_
  refine fR (.bool _) ?_
  rw [show ctlR c = true from decide_eq_true (.inl g1)]
 ·(first | refine gq trivial (fun g2 => ?_) (fun g2 => ?_) | refine pq trivial (fun g2 => ?_) (fun g2 => ?_)) <;> (try exact g2.elim) <;> (try refine sq trivial ?_) <;> (refine wk trivial ?_)
  ·refine ee hQ trivial ?_
   refine fR (.bool _) ?_
   unfold ctlR
   congr 1
   rw [Bool.eq_iff_iff]; simp; omega
  ·refine ee hQ trivial ?_
   refine fR (.bool _) ?_
   rw [show ctlR c = false from decide_eq_false (by omega)]
theorem getIter2 (h j : Heap) (a : AVal) (v : Nat) (o s : Bs) (q : Nat) : (bldH h (Blk.iter s q :: j) a v o)[h.length + 2]? = some (.iter s q) := by
 unfold bldH; rw [List.getElem?_append_right (by omega), show h.length + 2 - h.length = 2 by omega]; rfl
theorem setIter2 (h j : Heap) (a : AVal) (v : Nat) (o : Bs) (x y : Blk) : (bldH h (x :: j) a v o).set (h.length + 2) y = bldH h (y :: j) a v o := by
 unfold bldH; rw [List.set_append_right _ _ (by omega), show h.length + 2 - h.length = 2 by omega]; rfl
theorem PClean_sat (s : Bs) (hs : s.length ≤ 100000000) (h : Heap) : Sat (CT G) 117 [.str s] h (fun r h' => r = .str (cleanF s) ∧ h' = h) := by
 have F := @setIter2
 refine sb [.tmp 2] (fn := Tryz.f117) Tryz.func117 ?_
 intro Q hQ
 (repeat (first | refine w1 (fun K hK => ?_) | refine w2 ?_ | refine w3 ?_ | ((first | refine w4 ?_ | refine wD ?_ | refine w5 ?_ | refine w6 ?_ | refine w7 ?_); try refine sq F ?_) | (refine w8 ?_; refine sq F ?_; refine w9 ?_)))
 refine hK _ _ (Wkn.refl ?_)
 clear hK K
 (repeat (first | refine w1 (fun K hK => ?_) | refine w2 ?_ | refine w3 ?_ | ((first | refine w4 ?_ | refine wD ?_ | refine w5 ?_ | refine w6 ?_ | refine w7 ?_); try refine sq F ?_) | (refine w8 ?_; refine sq F ?_; refine w9 ?_)))
 refine hK _ _ ⟨_, _, Weak.virtCell (p := h.length) (v := 0) 5 1 (by omega) (by simp (disch := first | omega | (simp only [go_sem, ↓reduceIte, seval]; first | done | omega) | fail) only [go_sem, ↓reduceIte, seval, F]; rfl) 1 rfl, ?_⟩
 clear hK K
 (repeat (first | refine w1 (fun K hK => ?_) | refine w2 ?_ | refine w3 ?_ | ((first | refine w4 ?_ | refine wD ?_ | refine w5 ?_ | refine w6 ?_ | refine w7 ?_); try refine sq F ?_) | (refine w8 ?_; refine sq F ?_; refine w9 ?_) | ((first | refine hK _ _ (w0 ?_) | (clear hK K; refine hK _ _ (w0 ?_)) | (clear hK K; clear hK K; refine hK _ _ (w0 ?_))); clear hK K)))
 refine lm (fun nL tL hL => ∃ (a : AVal) (v k : Nat) (out : List Int) (w : Bool), s.length - k = nL ∧ bldH h [.iter s k] a v (encs out) = hL ∧ tL 4 = .bool w ∧ bldA a h.length ∧ k ≤ s.length ∧ clnR (runesF (s.drop k)) out w = cleanR s ∧ (encs out).length + 8 * (s.length - k) ≤ 8 * s.length) ((fun (a : AVal) (v k : Nat) (out : List Int) (w : Bool) => (s.length - k : Nat)) ((.nil (.pointer none))) (0) (0) ([]) (false)) ?_ ?_
 ·refine Wkn.refl ⟨(.nil (.pointer none)), 0, 0, [], false, rfl, by simp [bldH, bldR, bufR, encs], ?_, .inl rfl, by omega, rfl, by simp [encs]⟩
  all_goals first | exact zq F | rfl | omega | trivial | skip
 rintro _ s2 h' ⟨a, v, k, out, w, rfl, rfl, e4, ha, hk, hv, hl⟩ K2 hK2
 simp only [mix_cons, mix_nil, Nat.reduceEqDiff, ↓reduceIte] at e4
 have F := F2 F e4
 (repeat (first | refine w1 (fun K hK => ?_) | refine w2 ?_ | refine w3 ?_ | ((first | refine w4 ?_ | refine wD ?_ | refine w5 ?_ | refine w6 ?_ | refine w7 ?_); try refine sq F ?_) | (refine w8 ?_; refine sq F ?_; refine w9 ?_) | ((first | refine hK _ _ (w0 ?_) | (clear hK K; refine hK _ _ (w0 ?_)) | (clear hK K; clear hK K; refine hK _ _ (w0 ?_))); clear hK K)))
 refine nextK_at (getIter2 _ _ _ _ _ _ _) (fun hlt => ?_) (fun hge => ?_)
 ·have hR := dec_rune s k hlt
  have hp := dec_pos s k hlt
  rw [runesF_at s k hlt, clnR] at hv
  rw [show Utf8.decode ⟨s.toArray⟩ k = dec s k from rfl]
  generalize dec s k = d at *
  obtain ⟨c, m⟩ := d
  simp only [] at hR hp hv ⊢
  try refine sq F ?_
  (repeat (first | refine w1 (fun K hK => ?_) | refine w2 ?_ | refine w3 ?_ | ((first | refine w4 ?_ | refine wD ?_ | refine w5 ?_ | refine w6 ?_ | refine w7 ?_); try refine sq F ?_) | (refine w8 ?_; refine sq F ?_; refine w9 ?_) | ((first | refine hK _ _ (w0 ?_) | (clear hK K; refine hK _ _ (w0 ?_)) | (clear hK K; clear hK K; refine hK _ _ (w0 ?_))); clear hK K)))
  refine (PBlank_sat G c _).mono ?_
  rintro r h' ⟨rfl, rfl⟩
  try refine sq F ?_
  (repeat (first | refine w1 (fun K hK => ?_) | refine w2 ?_ | refine w3 ?_ | ((first | refine w4 ?_ | refine wD ?_ | refine w5 ?_ | refine w6 ?_ | refine w7 ?_); try refine sq F ?_) | (refine w8 ?_; refine sq F ?_; refine w9 ?_) | ((first | refine hK _ _ (w0 ?_) | (clear hK K; refine hK _ _ (w0 ?_)) | (clear hK K; clear hK K; refine hK _ _ (w0 ?_))); clear hK K)))
  refine cq F (fun c1 => ?_) (fun c1 => ?_) <;> (try exact c1.elim) <;> ((repeat (first | refine w1 (fun K hK => ?_) | refine w2 ?_ | refine w3 ?_ | ((first | refine w4 ?_ | refine wD ?_ | refine w5 ?_ | refine w6 ?_ | refine w7 ?_); try refine sq F ?_) | (refine w8 ?_; refine sq F ?_; refine w9 ?_) | ((first | refine hK _ _ (w0 ?_) | (clear hK K; refine hK _ _ (w0 ?_)) | (clear hK K; clear hK K; refine hK _ _ (w0 ?_))); clear hK K))))
  ·rw [if_pos c1] at hv
   refine (Len_sat G a h [.iter s (k + m)] v (encs out)).mono ?_
   rintro r h' ⟨rfl, rfl⟩
   try refine sq F ?_
   (repeat (first | refine w1 (fun K hK => ?_) | refine w2 ?_ | refine w3 ?_ | ((first | refine w4 ?_ | refine wD ?_ | refine w5 ?_ | refine w6 ?_ | refine w7 ?_); try refine sq F ?_) | (refine w8 ?_; refine sq F ?_; refine w9 ?_) | ((first | refine hK _ _ (w0 ?_) | (clear hK K; refine hK _ _ (w0 ?_)) | (clear hK K; clear hK K; refine hK _ _ (w0 ?_))); clear hK K)))
   have ho : decide (((encs out).length : Int) > 0) = decide (0 < out.length) := by
    have := encs_len out
    rw [Bool.eq_iff_iff]; simp only [decide_eq_true_eq]; omega
   have F := F2 F ho
   try refine sq F ?_
   refine hK2 _ _ _ (Wkn.refl ⟨a, v, k + m, out, decide (0 < out.length), rfl, hpE, ?_, ha, by omega, hv, by omega⟩) (by omega)
   all_goals first | exact zq F | rfl | omega | trivial | skip
  ·rw [if_neg (by simp [c1])] at hv
   refine (Pcontrol_sat G c _).mono ?_
   rintro r h' ⟨rfl, rfl⟩
   try refine sq F ?_
   (repeat (first | refine w1 (fun K hK => ?_) | refine w2 ?_ | refine w3 ?_ | ((first | refine w4 ?_ | refine wD ?_ | refine w5 ?_ | refine w6 ?_ | refine w7 ?_); try refine sq F ?_) | (refine w8 ?_; refine sq F ?_; refine w9 ?_) | ((first | refine hK _ _ (w0 ?_) | (clear hK K; refine hK _ _ (w0 ?_)) | (clear hK K; clear hK K; refine hK _ _ (w0 ?_))); clear hK K)))
   refine cq F (fun c2 => ?_) (fun c2 => ?_) <;> (try exact c2.elim) <;> ((repeat (first | refine w1 (fun K hK => ?_) | refine w2 ?_ | refine w3 ?_ | ((first | refine w4 ?_ | refine wD ?_ | refine w5 ?_ | refine w6 ?_ | refine w7 ?_); try refine sq F ?_) | (refine w8 ?_; refine sq F ?_; refine w9 ?_) | ((first | refine hK _ _ (w0 ?_) | (clear hK K; refine hK _ _ (w0 ?_)) | (clear hK K; clear hK K; refine hK _ _ (w0 ?_))); clear hK K))))
   ·rw [if_pos c2] at hv
    refine hK2 _ _ _ (Wkn.refl ⟨a, v, k + m, out, w, rfl, hpE, ?_, ha, by omega, hv, by omega⟩) (by omega)
    all_goals first | exact zq F | rfl | omega | trivial | skip
   ·rw [if_neg (by simp [c2])] at hv
    have he := enc_len c
    have e1 : encs (out ++ [32, (c : Int)]) = encs out ++ [32] ++ enc c := by
     simp only [encs, List.flatMap_append, List.flatMap_cons, List.flatMap_nil, List.append_nil, List.append_assoc]; rfl
    have e2 : encs (out ++ [(c : Int)]) = encs out ++ enc c := by
     simp only [encs, List.flatMap_append, List.flatMap_cons, List.flatMap_nil, List.append_nil]
    refine cq F (fun c3 => ?_) (fun c3 => ?_) <;> (try exact c3.elim) <;> ((repeat (first | refine w1 (fun K hK => ?_) | refine w2 ?_ | refine w3 ?_ | ((first | refine w4 ?_ | refine wD ?_ | refine w5 ?_ | refine w6 ?_ | refine w7 ?_); try refine sq F ?_) | (refine w8 ?_; refine sq F ?_; refine w9 ?_) | ((first | refine hK _ _ (w0 ?_) | (clear hK K; refine hK _ _ (w0 ?_)) | (clear hK K; clear hK K; refine hK _ _ (w0 ?_))); clear hK K))))
    ·rw [if_pos c3] at hv
     refine (WriteByte_sat G a h [.iter s (k + m)] v (encs out) 32 ha (by omega)).mono ?_
     rintro r h' ⟨rfl, rfl⟩
     try refine sq F ?_
     (repeat (first | refine w1 (fun K hK => ?_) | refine w2 ?_ | refine w3 ?_ | ((first | refine w4 ?_ | refine wD ?_ | refine w5 ?_ | refine w6 ?_ | refine w7 ?_); try refine sq F ?_) | (refine w8 ?_; refine sq F ?_; refine w9 ?_) | ((first | refine hK _ _ (w0 ?_) | (clear hK K; refine hK _ _ (w0 ?_)) | (clear hK K; clear hK K; refine hK _ _ (w0 ?_))); clear hK K)))
     refine (WriteRune_sat G (.hp h.length 0 0 0) c hR h [.iter s (k + m)] (v + 1) (encs out ++ [32]) (.inr rfl) (by simp only [List.length_append, List.length_cons, List.length_nil]; omega)).mono ?_
     rintro r h' ⟨rfl, rfl⟩
     try refine sq F ?_
     (repeat (first | refine w1 (fun K hK => ?_) | refine w2 ?_ | refine w3 ?_ | ((first | refine w4 ?_ | refine wD ?_ | refine w5 ?_ | refine w6 ?_ | refine w7 ?_); try refine sq F ?_) | (refine w8 ?_; refine sq F ?_; refine w9 ?_) | ((first | refine hK _ _ (w0 ?_) | (clear hK K; refine hK _ _ (w0 ?_)) | (clear hK K; clear hK K; refine hK _ _ (w0 ?_))); clear hK K)))
     refine hK2 _ _ _ (Wkn.refl ⟨(.hp h.length 0 0 0), v + 1 + 1, k + m, out ++ [32, (c : Int)], false, rfl, by rw [e1]; simp, ?_, .inr rfl, by omega, hv, by rw [e1]; simp only [List.length_append, List.length_cons, List.length_nil]; omega⟩) (by omega)
     all_goals first | exact zq F | rfl | omega | trivial | skip
    ·rw [if_neg (by simp [c3])] at hv
     refine (WriteRune_sat G a c hR h [.iter s (k + m)] v (encs out) ha (by omega)).mono ?_
     rintro r h' ⟨rfl, rfl⟩
     try refine sq F ?_
     (repeat (first | refine w1 (fun K hK => ?_) | refine w2 ?_ | refine w3 ?_ | ((first | refine w4 ?_ | refine wD ?_ | refine w5 ?_ | refine w6 ?_ | refine w7 ?_); try refine sq F ?_) | (refine w8 ?_; refine sq F ?_; refine w9 ?_) | ((first | refine hK _ _ (w0 ?_) | (clear hK K; refine hK _ _ (w0 ?_)) | (clear hK K; clear hK K; refine hK _ _ (w0 ?_))); clear hK K)))
     refine hK2 _ _ _ (Wkn.refl ⟨(.hp h.length 0 0 0), v + 1, k + m, out ++ [(c : Int)], false, rfl, by rw [e2], ?_, .inr rfl, by omega, hv, by rw [e2]; simp only [List.length_append]; omega⟩) (by omega)
     all_goals first | exact zq F | rfl | omega | trivial | skip
 ·rw [runesF_end s k (by omega)] at hv
  try refine sq F ?_
  (repeat (first | refine w1 (fun K hK => ?_) | refine w2 ?_ | refine w3 ?_ | ((first | refine w4 ?_ | refine wD ?_ | refine w5 ?_ | refine w6 ?_ | refine w7 ?_); try refine sq F ?_) | (refine w8 ?_; refine sq F ?_; refine w9 ?_) | ((first | refine hK _ _ (w0 ?_) | (clear hK K; refine hK _ _ (w0 ?_)) | (clear hK K; clear hK K; refine hK _ _ (w0 ?_))); clear hK K)))
  refine (String_sat G a h [.iter s k] v (encs out)).mono ?_
  rintro r h' ⟨rfl, b2, rfl⟩
  try refine sq F ?_
  (repeat (first | refine w1 (fun K hK => ?_) | refine w2 ?_ | refine w3 ?_ | ((first | refine w4 ?_ | refine wD ?_ | refine w5 ?_ | refine w6 ?_ | refine w7 ?_); try refine sq F ?_) | (refine w8 ?_; refine sq F ?_; refine w9 ?_) | ((first | refine hK _ _ (w0 ?_) | (clear hK K; refine hK _ _ (w0 ?_)) | (clear hK K; clear hK K; refine hK _ _ (w0 ?_))); clear hK K)))
  refine ee hQ F ?_
  exact Fin.plainE (j := [bldR a (h.length + 1) v (encs out), b2, .iter s k]) (by simp) (.str _) ⟨congrArg AVal.str (by unfold cleanF; rw [← hv]; rfl), rfl⟩
theorem cutN_fuel : ∀ (f : Nat) (s : Bs) (n : Nat), s.length ≤ f → cutN f s n = cutN s.length s n := by
 intro f
 induction f using Nat.strongRecOn with
 | ind f ih =>
  intro s n hs
  cases s with
  | nil => cases f <;> rfl
  | cons b t =>
   obtain ⟨f, rfl⟩ : ∃ g, f = g + 1 := ⟨f - 1, by simp at hs; omega⟩
   have hd := dec_pos (b :: t) 0 (by simp)
   simp only [List.length_cons] at hs hd ⊢
   have hl : ((b :: t).drop (dec (b :: t) 0).2).length ≤ t.length := by simp only [List.length_drop, List.length_cons]; omega
   rw [cutN, cutN, if_neg (show ¬ (b :: t) = [] by simp), if_neg (show ¬ (b :: t) = [] by simp), ih f (by omega) _ _ (by omega), ih t.length (by omega) _ _ hl]
def cutA (s : Bs) (k n : Nat) : Nat := cutN (s.drop k).length (s.drop k) n
theorem cutA_end (s : Bs) (k n : Nat) (h : s.length ≤ k) : cutA s k n = 0 := by unfold cutA; rw [List.drop_of_length_le h]; rfl
theorem cutA_at (s : Bs) (k n : Nat) (h : k < s.length) : cutA s k n = if n < (dec s k).2 then 0 else (dec s k).2 + cutA s (k + (dec s k).2) (n - (dec s k).2) := by
 have hd := dec_pos s k h
 have hl : (s.drop k).length = (s.length - k - 1) + 1 := by rw [List.length_drop]; omega
 unfold cutA
 rw [hl, cutN, if_neg (by intro e; rw [e] at hl; simp at hl), ← dec_drop, List.drop_drop, cutN_fuel (s.length - k - 1) _ _ (by simp only [List.length_drop]; omega)]
theorem cutA_le (s : Bs) : ∀ (f k n : Nat), s.length ≤ k + f → cutA s k n ≤ n ∧ cutA s k n ≤ s.length - k := by
 intro f
 induction f with
 | zero => intro k n h; rw [cutA_end s k n (by omega)]; omega
 | succ f ih =>
  intro k n h
  rcases Nat.lt_or_ge k s.length with h1 | h1
  ·have hd := dec_pos s k h1
   rw [cutA_at s k n h1]
   split
   ·omega
   ·have := ih (k + (dec s k).2) (n - (dec s k).2) (by omega)
    omega
  ·rw [cutA_end s k n h1]; omega
theorem cutA_all (s : Bs) : ∀ (f k n : Nat), s.length ≤ k + f → s.length - k ≤ n → cutA s k n = s.length - k := by
 intro f
 induction f with
 | zero => intro k n h _; rw [cutA_end s k n (by omega)]; omega
 | succ f ih =>
  intro k n h hn
  rcases Nat.lt_or_ge k s.length with h1 | h1
  ·have hd := dec_pos s k h1
   rw [cutA_at s k n h1, if_neg (by omega), ih _ _ (by omega) (by omega)]; omega
  ·rw [cutA_end s k n h1]; omega
theorem PCut_sat (s : Bs) (n : Nat) (hs : s.length ≤ 1073741824) (hn : n ≤ 1073741824) (h : Heap) : Sat (CT G) 118 [.str s, .int .i64 n] h (fun r h' => r = .str (cutF s n) ∧ h' = h) := by
 refine sb [.tmp 4] (fn := Tryz.f118) Tryz.func118 ?_
 intro Q hQ
 (repeat (first | refine w1 (fun K hK => ?_) | refine w2 ?_ | refine w3 ?_ | ((first | refine w4 ?_ | refine wD ?_ | refine w5 ?_ | refine w6 ?_ | refine w7 ?_); try refine sq trivial ?_) | (refine w8 ?_; refine sq trivial ?_; refine w9 ?_) | ((first | refine hK _ _ (w0 ?_) | (clear hK K; refine hK _ _ (w0 ?_)) | (clear hK K; clear hK K; refine hK _ _ (w0 ?_))); clear hK K)))
 have tail : ∀ (t' : Env) (e pos : Nat), t' 0 = .str s → t' 1 = .int .i64 n → t' 5 = .int .i64 e → e ≤ s.length → (n < s.length → e = cutN s.length s n) → K t' (h ++ [.iter s pos]) := by
  intro t' e pos e0 e1 e5 he hx
  refine hK _ _ (Wkn.refl ?_)
  clear hK K
  have F := F3 e0 e1 e5
  (repeat (first | refine w1 (fun K hK => ?_) | refine w2 ?_ | refine w3 ?_ | ((first | refine w4 ?_ | refine wD ?_ | refine w5 ?_ | refine w6 ?_ | refine w7 ?_); try refine sq F ?_) | (refine w8 ?_; refine sq F ?_; refine w9 ?_) | ((first | refine hK _ _ (w0 ?_) | (clear hK K; refine hK _ _ (w0 ?_)) | (clear hK K; clear hK K; refine hK _ _ (w0 ?_))); clear hK K)))
  refine cq F (fun c1 => ?_) (fun c1 => ?_) <;> (try exact c1.elim) <;> ((repeat (first | refine w1 (fun K hK => ?_) | refine w2 ?_ | refine w3 ?_ | ((first | refine w4 ?_ | refine wD ?_ | refine w5 ?_ | refine w6 ?_ | refine w7 ?_); try refine sq F ?_) | (refine w8 ?_; refine sq F ?_; refine w9 ?_) | ((first | refine hK _ _ (w0 ?_) | (clear hK K; refine hK _ _ (w0 ?_)) | (clear hK K; clear hK K; refine hK _ _ (w0 ?_))); clear hK K))))
  ·refine ee hQ F ?_
   refine fR (.str _) ?_
   have := cutA_all s s.length 0 n (by omega) (by omega)
   unfold cutA at this; simp only [List.drop_zero] at this
   unfold cutF; rw [this]; simp
  ·refine ee hQ F ?_
   refine fR (.str _) ?_
   unfold cutF; rw [hx (by omega)]
 refine lm (fun nL tL hL => ∃ (en k : Nat), s.length - k = nL ∧ h ++ [.iter s k] = hL ∧ tL 5 = .int .i64 en ∧ k ≤ s.length ∧ en ≤ k ∧ (k ≤ n → k + cutA s k (n - k) = cutN s.length s n) ∧ (n < k → en = cutN s.length s n)) ((fun (en k : Nat) => (s.length - k : Nat)) (0) (0)) ?_ ?_
 ·refine Wkn.refl ⟨0, 0, rfl, hpE, ?_, by omega, by omega, fun _ => by unfold cutA; simp, fun h => by omega⟩
  all_goals first | exact zq trivial | rfl | omega | trivial | skip
 rintro _ s2 h' ⟨en, k, rfl, rfl, e5, hk, he, hc, hc2⟩ K2 hK2
 simp only [mix_cons, mix_nil, Nat.reduceEqDiff, ↓reduceIte] at e5
 have F := e5
 (repeat (first | refine w1 (fun K hK => ?_) | refine w2 ?_ | refine w3 ?_ | ((first | refine w4 ?_ | refine wD ?_ | refine w5 ?_ | refine w6 ?_ | refine w7 ?_); try refine sq F ?_) | (refine w8 ?_; refine sq F ?_; refine w9 ?_) | ((first | refine hK _ _ (w0 ?_) | (clear hK K; refine hK _ _ (w0 ?_)) | (clear hK K; clear hK K; refine hK _ _ (w0 ?_))); clear hK K)))
 refine nextK_at (getIter _ _ _ _) (fun hlt => ?_) (fun hge => ?_)
 ·have hp := dec_pos s k hlt
  have hca := cutA_at s k (n - k) hlt
  rw [show Utf8.decode ⟨s.toArray⟩ k = dec s k from rfl]
  generalize dec s k = d at *
  obtain ⟨c, m⟩ := d
  simp only [] at hp hca ⊢
  try refine sq F ?_
  (repeat (first | refine w1 (fun K hK => ?_) | refine w2 ?_ | refine w3 ?_ | ((first | refine w4 ?_ | refine wD ?_ | refine w5 ?_ | refine w6 ?_ | refine w7 ?_); try refine sq F ?_) | (refine w8 ?_; refine sq F ?_; refine w9 ?_) | ((first | refine hK _ _ (w0 ?_) | (clear hK K; refine hK _ _ (w0 ?_)) | (clear hK K; clear hK K; refine hK _ _ (w0 ?_))); clear hK K)))
  refine cq F (fun c1 => ?_) (fun c1 => ?_) <;> (try exact c1.elim) <;> ((repeat (first | refine w1 (fun K hK => ?_) | refine w2 ?_ | refine w3 ?_ | ((first | refine w4 ?_ | refine wD ?_ | refine w5 ?_ | refine w6 ?_ | refine w7 ?_); try refine sq F ?_) | (refine w8 ?_; refine sq F ?_; refine w9 ?_) | ((first | refine hK _ _ (w0 ?_) | (clear hK K; refine hK _ _ (w0 ?_)) | (clear hK K; clear hK K; refine hK _ _ (w0 ?_))); clear hK K))))
  ·refine tail _ en (k + m) ?_ ?_ ?_ (by omega) (fun _ => hc2 (by omega))
   ·exact zq F
   ·exact zq F
   ·exact zq F
  ·have hc' := hc (by omega)
   rw [hca] at hc'
   refine hK2 _ _ _ (Wkn.refl ⟨k, k + m, rfl, hpE, ?_, by omega, by omega, fun hle => by rw [if_neg (by omega)] at hc'; rw [← hc', show n - (k + m) = n - k - m by omega]; omega, fun hgt => by rw [if_pos (by omega)] at hc'; omega⟩) (by omega)
   all_goals first | exact zq F | rfl | omega | trivial | skip
 ·try refine sq F ?_
  (repeat (first | refine w1 (fun K hK => ?_) | refine w2 ?_ | refine w3 ?_ | ((first | refine w4 ?_ | refine wD ?_ | refine w5 ?_ | refine w6 ?_ | refine w7 ?_); try refine sq F ?_) | (refine w8 ?_; refine sq F ?_; refine w9 ?_) | ((first | refine hK _ _ (w0 ?_) | (clear hK K; refine hK _ _ (w0 ?_)) | (clear hK K; clear hK K; refine hK _ _ (w0 ?_))); clear hK K)))
  refine tail _ en k ?_ ?_ ?_ (by omega) (fun _ => hc2 (by omega))
  ·exact zq F
  ·exact zq F
  ·exact zq F
theorem PRight_sat (s : Bs) (hs : s.length ≤ 1073741824) (h : Heap) : Sat (CT G) 147 [.str s] h (fun r h' => r = .bool (rightS s) ∧ h' = h) := by
 refine sb [.tmp 2] (fn := Tryz.f147) Tryz.func147 ?_
 intro Q hQ
 refine wk trivial ?_
 refine lm (fun nL tL hL => ∃ (k : Nat), s.length - k = nL ∧ h ++ [.iter s k] = hL ∧ k ≤ s.length ∧ rightS (s.drop k) = rightS s) ((fun (k : Nat) => (s.length - k : Nat)) (0)) ?_ ?_
 ·refine Wkn.refl ⟨0, rfl, hpE, by omega, rfl⟩
  all_goals first | exact zq trivial | rfl | omega | trivial | skip
 rintro _ s2 h' ⟨k, rfl, rfl, hk, hc⟩ K2 hK2
 refine wk trivial ?_
 refine nextK_at (getIter _ _ _ _) (fun hlt => ?_) (fun hge => ?_)
 ·have hp := dec_pos s k hlt
  have hca := rightS_at s k hlt
  have h3 := dec_bad3 s k
  rw [hc] at hca
  rw [show Utf8.decode ⟨s.toArray⟩ k = dec s k from rfl]
  generalize dec s k = d at *
  obtain ⟨c, m⟩ := d
  simp only [] at hp hca h3 ⊢
  try refine sq trivial ?_
  refine wk trivial ?_
  (first | refine gq trivial (fun g1 => ?_) (fun g1 => ?_) | refine pq trivial (fun g1 => ?_) (fun g1 => ?_)) <;> (try exact g1.elim) <;> (try refine sq trivial ?_) <;> (refine wk trivial ?_)
  ·have g0 : c = 65533 := by omega
   have h4 := h3 g0
   refine kq trivial (HasPrefix_sat G (s.drop k) [239, 191, 189] _) ?_
   refine cq trivial (fun g2 => ?_) (fun g2 => ?_) <;> (try exact g2.elim) <;> (refine wk trivial ?_)
   ·refine ee hQ trivial ?_
    refine fR (.bool _) ?_
    rw [hca, if_pos ⟨g0, h4.2 (by simpa using g2)⟩]
   ·refine hK2 _ _ _ (Wkn.refl ⟨k + m, rfl, hpE, by omega, by rw [hca, if_neg]; rintro ⟨_, h5⟩; have := h4.1 h5; rw [this] at g2; cases g2⟩) (by omega)
    all_goals first | exact zq trivial | rfl | omega | trivial | skip
  ·refine hK2 _ _ _ (Wkn.refl ⟨k + m, rfl, hpE, by omega, by rw [hca, if_neg]; rintro ⟨h5, _⟩; exact g1 (by omega)⟩) (by omega)
   all_goals first | exact zq trivial | rfl | omega | trivial | skip
 ·rw [List.drop_of_length_le (by omega)] at hc
  try refine sq trivial ?_
  refine wk trivial ?_
  refine ee hQ trivial ?_
  refine fR (.bool _) ?_
  rw [← hc]; rfl
end Go.Av
namespace Go.Av
open Go Go.Proofs Go.RowKit
attribute [local irreducible] WP WPl WPix Sat
set_option maxRecDepth 100000
set_option maxHeartbeats 1000000
variable (G : Nat → Option (List AVal))
theorem tdiv20 (n : Nat) : Int.tdiv (n : Int) 20 = ((n / 20 : Nat) : Int) := rfl
theorem rcount_sat : ∀ (f d : Nat), d + f = 41 → d ≤ 40 → ∀ (l : List Outl) (m0 : Int) (_ : szs Outl.sz l ≤ 1048576) (_ : m0 ≤ 700) (_ : -4194304 + szs Outl.sz l ≤ m0) (h : Heap), Sat (CT G) 71 [.sl 3 (l.map Outl.av), .int .i64 d, .int .i64 m0] h (fun r h' => r = .int .i64 (ocntL l d m0) ∧ h' = h) := by
 intro f
 induction f with
 | zero => intro d hf hd; omega
 | succ f ih =>
  intro d hf hd l m0 hs hl1 hl2 h
  have hll := outl_len l
  have hlb := ocntL_bd l d m0
  rw [okidsz_eq] at hlb
  have h20 : ((20 : Int) = 0) = False := by simp
  have F := F2 @tdiv20 h20
  refine sb [.tmp 6] (fn := Tryz.f71) Tryz.func71 ?_
  intro Q hQ
  refine wko F ?_
  refine lm (fun nL tL hL => ∃ (k : Nat) (m : Int), l.length - k = nL ∧ h = hL ∧ tL 2 = .int .i64 m ∧ tL 7 = .int .i64 k ∧ k ≤ l.length ∧ m ≤ 700 ∧ ocntL (l.drop k) d m = ocntL l d m0) ((fun (k : Nat) (m : Int) => (l.length - k : Nat)) (0) (m0)) ?_ ?_
  ·refine Wkn.refl ⟨0, m0, rfl, hpE, ?_, ?_, Nat.zero_le _, by omega, rfl⟩
   all_goals first | exact zqo F | rfl | omega | trivial | skip
  rintro _ s2 h' ⟨k, m, rfl, rfl, e2, e7, hk, hm, hp⟩ K2 hK2
  simp only [mix_cons, mix_nil, Nat.reduceEqDiff, ↓reduceIte] at e2 e7
  have F := F3 F e2 e7
  refine wko F ?_
  have stop : ¬ (k < l.length ∧ 0 < m ∧ d < 40) → ocntL (l.drop k) d m = m := fun (hn : _) => by
   rcases Nat.lt_or_ge k l.length with h1 | h1
   ·obtain ⟨y, hy, _⟩ := getElem?_of_lt h1
    rw [drop_cons_of hy, ocntL, if_neg (fun h => hn ⟨h1, h.1, h.2⟩)]
   ·rw [drop_nil_of h1, ocntL]
  (first | refine gqo F (fun hg => ?_) (fun hg => ?_) | refine pqo F (fun hg => ?_) (fun hg => ?_)) <;> (try exact hg.elim) <;> (try refine sqo F ?_) <;> (refine wko F ?_)
  ·have hlt : k < l.length := hg
   (first | refine gqo F (fun hg => ?_) (fun hg => ?_) | refine pqo F (fun hg => ?_) (fun hg => ?_)) <;> (try exact hg.elim) <;> (try refine sqo F ?_) <;> (refine wko F ?_)
   ·have hm0 : 0 < m := by omega
    refine cqo F (fun hc => ?_) (fun hc => ?_) <;> (try exact hc.elim)
    ·obtain ⟨y, hy, hym⟩ := getElem?_of_lt hlt
     have h1 := szs_mem Outl.sz hym
     have h2 := y.kids_sz
     have h5 := y.sz_eq
     have h3 := ocntO_bd y d m
     have h4 := ocntL_bd (l.drop (k + 1)) d (ocntO y d m)
     rw [drop_cons_of hy, ocntL, if_pos ⟨hm0, by omega⟩] at hp
     have h6 := ocntO_eq y d m
     have F := F2 F hy
     refine wko F ?_
     refine ⟨_, ih (d + 1) (by omega) (by omega) y.kids (m - 1 - (y.title.length / 20 : Nat) - (y.url.length / 20 : Nat)) (by omega) (by omega) (by omega) _, ?_⟩
     try refine sqo F ?_
     refine wko F ?_
     refine hK2 _ _ _ (Wkn.refl ⟨k + 1, ocntO y d m, rfl, hpE, ?_, ?_, by omega, by omega, hp⟩) (by omega)
     all_goals first | exact zqo F | rfl | omega | trivial | skip
     simp (disch := first | omega | (simp only [go_sem, ↓reduceIte, Nat.reduceEqDiff]; done) | fail) only [go_sem, ↓reduceIte, Int.reduceToNat, Int.reduceLE, Int.reduceLT, Int.reduceSub, Int.reduceAdd, Nat.reduceEqDiff, Nat.reduceAdd, Nat.reduceLeDiff, Nat.reduceLT, Nat.reduceMul, Nat.reduceSub, F, h6]
    ·refine wko F ?_
     refine eeo hQ F ?_
     refine fR (.int _ _) ?_
     rw [← hp, stop (by omega)]
   ·refine eeo hQ F ?_
    refine fR (.int _ _) ?_
    rw [← hp, stop (by omega)]
  ·refine eeo hQ F ?_
   refine fR (.int _ _) ?_
   rw [← hp, stop (by omega)]
theorem rLarge_sat (l : List Outl) (hs : szs Outl.sz l ≤ 1048576) (h : Heap) : Sat (CT G) 37 [.sl 3 (l.map Outl.av)] h (fun r h' => r = .bool (decide (ocntL l 1 700 ≤ 0)) ∧ h' = h) := by
 refine sb [.tmp 2] (fn := Tryz.f37) Tryz.func37 ?_
 intro Q hQ
 refine wko trivial ?_
 refine kqo trivial (rcount_sat G 40 1 (by omega) (by omega) l 700 hs (by omega) (by omega) _) ?_
 refine eeo hQ trivial ?_
 refine fR (.bool _) ?_
 rfl
theorem rsame_sat : ∀ (f d : Nat), f + d = 9 → ∀ (a b : List Outl) (_ : szs Outl.sz a ≤ 1048576) (_ : szs Outl.sz b ≤ 1048576) (h : Heap), Sat (CT G) 69 [.sl 3 (a.map Outl.av), .sl 3 (b.map Outl.av), .int .i64 d] h (fun r h' => r = .bool (sameOL f a b) ∧ h' = h) := by
 intro f
 induction f with
 | zero =>
  intro d hd a b ha hb h
  have hal := outl_len a
  have hbl := outl_len b
  obtain rfl : d = 9 := by omega
  refine sb [.tmp 6] (fn := Tryz.f69) Tryz.func69 ?_
  intro Q hQ
  refine wko trivial ?_
  (first | refine gqo trivial (fun g1 => ?_) (fun g1 => ?_) | refine pqo trivial (fun g1 => ?_) (fun g1 => ?_)) <;> (try exact g1.elim) <;> (try refine sqo trivial ?_) <;> (refine wko trivial ?_)
  ·refine eeo hQ trivial ?_
   refine fR (.bool _) ?_
   have : a.length ≠ b.length := by omega
   simp [sameOL, this]
  have g1' : a.length = b.length := by omega
  (first | refine gqo trivial (fun g2 => ?_) (fun g2 => ?_) | refine pqo trivial (fun g2 => ?_) (fun g2 => ?_)) <;> (try exact g2.elim) <;> (try refine sqo trivial ?_) <;> (refine wko trivial ?_)
  ·refine cqo trivial (fun hc => ?_) (fun hc => ?_) <;> (try exact hc.elim) <;> (refine wko trivial ?_)
   ·refine eeo hQ trivial ?_
    refine fR (.bool _) ?_
    have : a.length ≠ 0 := by omega
    simp [sameOL, this]
   ·exfalso; omega
  have g2' : a.length = 0 := by omega
  refine lm (fun nL tL hL => 0 = nL ∧ h = hL ∧ tL 7 = .int .i64 0) (0) ?_ ?_
  ·refine Wkn.refl ⟨rfl, hpE, ?_⟩
   all_goals first | exact zqo trivial | rfl | omega | trivial | skip
  rintro _ s2 h' ⟨rfl, rfl, e7⟩ K2 hK2
  simp only [mix_cons, mix_nil, Nat.reduceEqDiff, ↓reduceIte] at e7
  have F := e7
  refine wko F ?_
  refine cqo F (fun hc => ?_) (fun hc => ?_) <;> (try exact hc.elim)
  ·exfalso; omega
  ·refine wko F ?_
   refine eeo hQ F ?_
   refine fR (.bool _) ?_
   simp [sameOL, ← g1', g2']
 | succ f ih =>
  intro d hd a b ha hb h
  have hal := outl_len a
  have hbl := outl_len b
  refine sb [.tmp 6] (fn := Tryz.f69) Tryz.func69 ?_
  intro Q hQ
  refine wko trivial ?_
  have out : ∀ (t' : Env), t' 6 = .bool false → sameOL (f + 1) a b = false → Q .ret t' h := by
   intro t' e6 hs
   refine (hQ _ _ ?_).1
   simp (disch := first | omega | (simp only [go_sem, ↓reduceIte, Nat.reduceEqDiff]; done) | fail) only [go_sem, ↓reduceIte, Int.reduceToNat, Int.reduceLE, Int.reduceLT, Int.reduceSub, Int.reduceAdd, Nat.reduceEqDiff, Nat.reduceAdd, Nat.reduceLeDiff, Nat.reduceLT, Nat.reduceMul, Nat.reduceSub, e6]
   exact Fin.same (.bool _) ⟨by rw [hs], rfl⟩
  (first | refine gqo trivial (fun g1 => ?_) (fun g1 => ?_) | refine pqo trivial (fun g1 => ?_) (fun g1 => ?_)) <;> (try exact g1.elim) <;> (try refine sqo trivial ?_) <;> (refine wko trivial ?_)
  ·have : a.length ≠ b.length := by omega
   exact out _ (by exact zqo trivial) (by simp [sameOL, this])
  have hl : a.length = b.length := by omega
  have hsame : sameOL (f + 1) a b = (a.zip b).all fun p => decide (p.1.title = p.2.title) && (decide (p.1.url = p.2.url) && sameOL f p.1.kids p.2.kids) := by simp [sameOL, hl]
  (first | refine gqo trivial (fun g2 => ?_) (fun g2 => ?_) | refine pqo trivial (fun g2 => ?_) (fun g2 => ?_)) <;> (try exact g2.elim) <;> (try refine sqo trivial ?_) <;> (refine wko trivial ?_)
  ·refine cqo trivial (fun hc => ?_) (fun hc => ?_) <;> (try exact hc.elim) <;> (refine wko trivial ?_)
   ·exfalso; omega
   ·refine lm (fun nL tL hL => ∃ (k : Nat), a.length - k = nL ∧ h = hL ∧ tL 7 = .int .i64 k ∧ k ≤ a.length ∧ sameOL (f + 1) a b = ((a.zip b).drop k).all fun p => decide (p.1.title = p.2.title) && (decide (p.1.url = p.2.url) && sameOL f p.1.kids p.2.kids)) ((fun (k : Nat) => (a.length - k : Nat)) (0)) ?_ ?_
    ·refine Wkn.refl ⟨0, rfl, hpE, ?_, Nat.zero_le _, hsame⟩
     all_goals first | exact zqo trivial | rfl | omega | trivial | skip
    rintro _ s2 h' ⟨k, rfl, rfl, e7, hk, hp⟩ K2 hK2
    simp only [mix_cons, mix_nil, Nat.reduceEqDiff, ↓reduceIte] at e7
    have F := e7
    refine wko F ?_
    refine cqo F (fun hc => ?_) (fun hc => ?_) <;> (try exact hc.elim)
    ·obtain ⟨x, hx, hxm⟩ := getElem?_of_lt hc
     obtain ⟨y, hy, hym⟩ := getElem?_of_lt (show k < b.length by omega)
     have hxs := szs_mem Outl.sz hxm
     have hys := szs_mem Outl.sz hym
     have hxk := x.kids_sz
     have hyk := y.kids_sz
     rw [drop_cons_of (zip_at hx hy), List.all_cons] at hp
     have F := F3 F hx hy
     refine wko F ?_
     (first | refine gqo F (fun g3 => ?_) (fun g3 => ?_) | refine pqo F (fun g3 => ?_) (fun g3 => ?_)) <;> (try exact g3.elim) <;> (try refine sqo F ?_) <;> (refine wko F ?_)
     ·exact out _ (by exact zqo F) (by rw [hp]; simp [g3])
     (first | refine gqo F (fun g4 => ?_) (fun g4 => ?_) | refine pqo F (fun g4 => ?_) (fun g4 => ?_)) <;> (try exact g4.elim) <;> (try refine sqo F ?_) <;> (refine wko F ?_)
     ·exact out _ (by exact zqo F) (by rw [hp]; simp [g4])
     refine ⟨_, ih (d + 1) (by omega) x.kids y.kids (by omega) (by omega) _, ?_⟩
     try refine sqo F ?_
     refine wko F ?_
     refine cqo F (fun hc => ?_) (fun hc => ?_) <;> (try exact hc.elim) <;> (refine wko F ?_)
     ·exact out _ (by exact zqo F) (by rw [hp]; simp [hc])
     ·refine hK2 _ _ _ (Wkn.refl ⟨k + 1, rfl, hpE, ?_, by omega, by rw [hp]; simp [g3, g4, hc]⟩) (by omega)
      all_goals first | exact zqo F | rfl | omega | trivial | skip
    ·refine wko F ?_
     refine eeo hQ F ?_
     refine fR (.bool _) ?_
     rw [hp, drop_nil_of (by simp; omega)]; rfl
  ·refine lm (fun nL tL hL => ∃ (k : Nat), a.length - k = nL ∧ h = hL ∧ tL 7 = .int .i64 k ∧ k ≤ a.length ∧ sameOL (f + 1) a b = ((a.zip b).drop k).all fun p => decide (p.1.title = p.2.title) && (decide (p.1.url = p.2.url) && sameOL f p.1.kids p.2.kids)) ((fun (k : Nat) => (a.length - k : Nat)) (0)) ?_ ?_
   ·refine Wkn.refl ⟨0, rfl, hpE, ?_, Nat.zero_le _, hsame⟩
    all_goals first | exact zqo trivial | rfl | omega | trivial | skip
   rintro _ s2 h' ⟨k, rfl, rfl, e7, hk, hp⟩ K2 hK2
   simp only [mix_cons, mix_nil, Nat.reduceEqDiff, ↓reduceIte] at e7
   have F := e7
   refine wko F ?_
   refine cqo F (fun hc => ?_) (fun hc => ?_) <;> (try exact hc.elim)
   ·exfalso; omega
   ·refine wko F ?_
    refine eeo hQ F ?_
    refine fR (.bool _) ?_
    rw [hp, drop_nil_of (by simp; omega)]; rfl
theorem rSame_sat (a b : List Outl) (ha : szs Outl.sz a ≤ 1048576) (hb : szs Outl.sz b ≤ 1048576) (h : Heap) : Sat (CT G) 35 [.sl 3 (a.map Outl.av), .sl 3 (b.map Outl.av)] h (fun r h' => r = .bool (sameOL 8 a b) ∧ h' = h) := by
 refine sb [.tmp 4] (fn := Tryz.f35) Tryz.func35 ?_
 intro Q hQ
 refine wko trivial ?_
 refine kqo trivial (rsame_sat G 8 1 (by omega) a b ha hb _) ?_
 refine eeo hQ trivial ?_
 refine fR (.bool _) ?_
 rfl
end Go.Av
namespace Go.Av
open Go.RowKit
section
variable {C : Ctx} {t : Env} {h : Heap}
def detGo (md : Region.Mode) (ops : Array Oper) : Nat → Array Bool → Option (List Nat)
 | 0, _ => some []
 | f + 1, L => match Region.ready md ops L with
  | [i] => (detGo md ops f (L.setIfInBounds i true)).map (i :: ·)
  | _ => none
theorem detGo_ok {ops : Array Oper} {Q : Exit → Env → Heap → Prop} {md : Region.Mode} : ∀ (f : Nat) (L : Array Bool) (idx : List Nat) (sub : List Oper) (t : Env) (h : Heap), detGo md ops f L = some idx → idx.map (fun i => ops[i]?) = sub.map some →
  WPl C ops Q sub t h → RestM C ops Q md f L t h := by
 intro f
 induction f with
 | zero =>
  intro L idx sub t h hd hs g n
  simp only [detGo, Option.some.injEq] at hd
  subst hd
  have : sub = [] := by simpa using hs.symm
  subst this
  simp only [Region.linearise.go, List.reverse_nil, WPix]
  exact g
 | succ f ih =>
  intro L idx sub t h hd hs g n
  simp only [detGo] at hd
  split at hd
  ·rename_i i hr
   obtain ⟨idx', hd', rfl⟩ := Option.map_eq_some_iff.1 hd
   cases sub with
   | nil => simp at hs
   | cons o sub =>
    simp only [List.map_cons, List.cons.injEq] at hs
    have hi : (Region.ready md ops L)[n % (Region.ready md ops L).length]? = some i := by
     rw [hr, List.length_singleton, Nat.mod_one]; rfl
    rw [go_succ md ops f n L hi]
    simp only [WPix, hs.1]
    simp only [WPl] at g
    exact wpOper_mono g fun t' h' g' => ih _ idx' sub t' h' hd' hs.2 g' _
  ·cases hd
theorem drop_idx {l : List Oper} {k n : Nat} (h : k + n ≤ l.length) : (List.range' k n).map (fun i => l.toArray[i]?) = ((l.drop k).take n).map some := by
 refine List.ext_getElem? fun i => ?_
 simp only [List.getElem?_map]
 by_cases hi : i < n
 ·rw [List.getElem?_take_of_lt hi, List.getElem?_drop, List.getElem?_range' (by omega)]
  simp only [Option.map_some, List.getElem?_toArray]
  have : k + i < l.length := by omega
  simp [List.getElem?_eq_getElem this]
 ·rw [List.getElem?_eq_none (by simp; omega), List.getElem?_eq_none (by simp; omega)]; rfl
inductive OT where
 | nil
 | one (i : Nat) (s : OT)
 | two (i : Nat) (s : OT) (j : Nat) (u : OT)
def OT.ok (ops : Array Oper) : Nat → Array Bool → OT → Bool
 | 0, _, .nil => true
 | f + 1, L, .one i s => Region.ready .any ops L == [i] && OT.ok ops f (L.setIfInBounds i true) s
 | f + 1, L, .two i s j u => Region.ready .any ops L == [i, j] && (OT.ok ops f (L.setIfInBounds i true) s && OT.ok ops f (L.setIfInBounds j true) u)
 | _, _, _ => false
def WPt (C : Ctx) (ops : Array Oper) (Q : Exit → Env → Heap → Prop) : OT → Env → Heap → Prop
 | .nil, t, h => Q .normal t h
 | .one i s, t, h => WPl C ops (fun _ t' h' => WPt C ops Q s t' h') (ops[i]?).toList t h
 | .two i s j u, t, h => WPl C ops (fun _ t' h' => WPt C ops Q s t' h') (ops[i]?).toList t h ∧ WPl C ops (fun _ t' h' => WPt C ops Q u t' h') (ops[j]?).toList t h
theorem OT.sound {ops : Array Oper} {Q : Exit → Env → Heap → Prop} : ∀ (f : Nat) (L : Array Bool) (tr : OT) (t : Env) (h : Heap), OT.ok ops f L tr = true → WPt C ops Q tr t h → RestM C ops Q .any f L t h := by
 intro f
 induction f with
 | zero =>
  intro L tr t h ho g n
  cases tr with
  | nil => simp only [Region.linearise.go, List.reverse_nil, WPix]; exact g
  | _ => simp [OT.ok] at ho
 | succ f ih =>
  intro L tr t h ho g n
  have step : ∀ (i : Nat) (s : OT), (Region.ready .any ops L)[n % (Region.ready .any ops L).length]? = some i → OT.ok ops f (L.setIfInBounds i true) s = true → WPl C ops (fun _ t' h' => WPt C ops Q s t' h') (ops[i]?).toList t h →
    WPix C ops Q (Region.linearise.go .any ops (f + 1) n L []) t h := fun i s hi hs hg => by
   rw [go_succ .any ops f n L hi]
   simp only [WPix]
   have hmem := List.mem_of_getElem? hi
   obtain ⟨_, o, ho, _⟩ := mem_ready.1 hmem
   simp only [ho, Option.toList] at hg ⊢
   simp only [WPl] at hg
   exact wpOper_mono hg fun t' h' g' => ih _ s t' h' hs g' _
  cases tr with
  | nil => simp [OT.ok] at ho
  | one i s =>
   simp only [OT.ok, Bool.and_eq_true, beq_iff_eq] at ho
   exact step i s (by rw [ho.1, List.length_singleton, Nat.mod_one]; rfl) ho.2 g
  | two i s j u =>
   simp only [OT.ok, Bool.and_eq_true, beq_iff_eq] at ho
   have hn : n % 2 = 0 ∨ n % 2 = 1 := by omega
   rcases hn with hn | hn
   ·exact step i s (by rw [ho.1]; show [i, j][n % 2]? = _; rw [hn]; rfl) ho.2.1 g.1
   ·exact step j u (by rw [ho.1]; show [i, j][n % 2]? = _; rw [hn]; rfl) ho.2.2 g.2
theorem WP_draw6 {id : Nat} {l : List Oper} {Q : Exit → Env → Heap → Prop} (k : Nat) (tr : OT) (hok : (preOk l.toArray k && decide (k ≤ l.length)) = true) (hm : C.P.follows .mixedOrders = true)
  (hT : OT.ok l.toArray (l.length - k) (listK l.length k) tr = true)
  (hh : WPp C l.toArray (l.take k) t h fun t' => WPt C l.toArray Q tr t' h) : WP C (.region id l.toArray true) Q t h := by
 simp only [Bool.and_eq_true, decide_eq_true_eq] at hok
 have D := preOk_spec hok.1
 obtain ⟨V, hv, hK⟩ := WPp_vals _ _ hh
 have hlen : (l.take k).length = k := by simp; omega
 rw [hlen] at hK
 have rT := OT.sound (ops := l.toArray) (Q := Q) _ _ tr _ h hT hK
 have main : ∀ n, WPix C l.toArray Q (Region.linearise .any l.toArray n) t h := fun n => by
  unfold Region.linearise
  refine pre_sound2 D .any D.less (by simp; omega) (V := V) (t0 := t) (fun _ => True) (fun i o hi _ => hv i o hi) (by simpa using rT) _ _ _ _ (by simp) ?_ (fun j oj hj hl => ?_) (fun j hj hl => ?_) (fun _ _ _ => trivial) (Ag.start _ _ _ _ fun j hj => ?_)
  ·unfold left
   have : (List.range l.toArray.size).filter (fun i => !(Array.replicate l.toArray.size false).getD i true) = List.range l.toArray.size := by
    rw [List.filter_eq_self]
    intro i hi
    have := List.mem_range.1 hi
    simp at this ⊢
    simp [this]
   rw [this, List.length_range]
  ·have h8 := (Array.getElem?_eq_some_iff.1 hj).1
   simp at h8 hl
   simp [h8] at hl
  ·simp at hj hl
   simp [hj] at hl
  ·have : j < l.length := by omega
   simp [this]
 show ∀ tp, WPix C l.toArray Q (Region.schedule (C.P.follows .mixedOrders) l.toArray tp) t h
 intro tp
 unfold Region.schedule
 rw [hm]
 simp only [Bool.true_or, if_true]
 exact main _
def agrL : List Nat → Env → Env → Prop
 | [], _, _ => True
 | d :: ds, s, t => s d = t d ∧ agrL ds s t
theorem agrL_mem : ∀ {ds : List Nat} {s t : Env}, agrL ds s t → ∀ d ∈ ds, s d = t d
 | [], _, _, _, d, h => by cases h
 | e :: ds, s, t, g, d, h => by
  rcases List.mem_cons.1 h with rfl | h
  ·exact g.1
  ·exact agrL_mem g.2 d h
theorem dst_mem {d : Nat} : ∀ {l : List Oper} {i : Nat} {o : Oper}, l[i]? = some o → o.dst = some d → d ∈ wrOps l
 | [], i, o, h, _ => by simp at h
 | a :: l, 0, o, h, hd => by simp at h; subst h; unfold wrOps; rw [hd]; simp
 | a :: l, i + 1, o, h, hd => by
  have := dst_mem (l := l) (i := i) (o := o) (by simpa using h) hd
  unfold wrOps; split <;> simp [this]
theorem WP_draw5 {id : Nat} {l : List Oper} {Q : Exit → Env → Heap → Prop} (k u : Nat) (oe : Oper) (hoe : l[k]? = some oe) (hok : (preOk l.toArray (k + 1) && decide (u ≤ k)) = true) (hm : C.P.follows .mixedOrders = true)
  (hu : ((List.range k).all fun i => decide (i < u) || ((Region.before l.toArray).getD k 0).testBit i) = true) (hdst : ((l.take u).all fun o => o.dst.isSome) = true)
  (hA : detGo .any l.toArray (l.length - (k + 1)) (listK l.length (k + 1)) = some (List.range' (k + 1) (l.length - (k + 1))))
  (hh : WPp C l.toArray (l.take k) t h fun t' => wpOperV C l.toArray oe t' h fun v h' =>
   (WPp C l.toArray (l.take u) t h' fun t'' => agrL (wrOps (l.take u)) t'' t') ∧ WPl C l.toArray Q (l.drop (k + 1)) (put t' oe.dst v) h') : WP C (.region id l.toArray true) Q t h := by
 simp only [Bool.and_eq_true, decide_eq_true_eq] at hok
 have D := preOk_spec hok.1
 have hkl := (List.getElem?_eq_some_iff.1 hoe).1
 obtain ⟨V, hv, hK⟩ := WPp_vals _ _ hh
 have hlen : (l.take k).length = k := by simp; omega
 rw [hlen] at hK
 have hTT : ∀ i, i ≤ k → Av.T V (l.take k) t i = Av.T V l t i := fun i hi => T_take V V k (fun _ _ => rfl) _ _ _ _ hi (by rw [List.take_take]; congr 1; omega) (by rw [hlen]; exact hi) (by omega)
 rw [hTT k (Nat.le_refl _)] at hK
 have main : ∀ n, WPix C l.toArray Q (Region.linearise .any l.toArray n) t h := fun n => by
  unfold Region.linearise
  refine pre_sound3 D .any D.less (by simp; omega) (V := V) (t0 := t) (oe := oe) (by simpa using hoe) (fun i o hi ho => ?_) ?_ _ _ _ _ (by simp) ?_ (fun j oj hj hl => ?_) (fun j hj hl => ?_) (Ag.start _ _ _ _ fun j hj => ?_)
  ·have := hv i o (by rw [List.getElem?_take, if_pos hi]; simpa using ho)
   rw [hTT i (by omega)] at this
   exact this
  ·refine wpOperV_mono hK fun v h' ⟨h1, h2⟩ => ⟨fun i o hi ho hc => ?_, ?_⟩
   ·have hiu : i < u := by
     have := List.all_eq_true.1 hu i (List.mem_range.2 hi)
     rw [hc] at this
     simpa using this
    obtain ⟨V2, hv2, hK2⟩ := WPp_vals _ _ h1
    have hlu : (l.take u).length = u := by simp; omega
    rw [hlu] at hK2
    have hVV : ∀ j, j < u → V2 j = V j := fun j hj => by
     have hoj : l[j]? = some (l[j]'(by omega)) := List.getElem?_eq_getElem _
     have hoj' : (l.take u)[j]? = some (l[j]'(by omega)) := by rw [List.getElem?_take, if_pos hj]; exact hoj
     obtain ⟨d, hdd⟩ := Option.isSome_iff_exists.1 (List.all_eq_true.1 hdst _ (List.mem_of_getElem? hoj'))
     have e := agrL_mem hK2 d (dst_mem hoj' hdd)
     have a1 := D.ag_T V2 t (by simp; omega) u (by omega)
     have a2 := D.ag_T V t (by simp; omega) k (by omega)
     have hoa : l.toArray[j]? = some (l[j]'(by omega)) := by simp
     have b1 := a1.1 j _ d (by omega) hoa (by simpa using hj) hdd
     have b2 := a2.1 j _ d (by omega) hoa (by simp; omega) hdd
     have c1 : Av.T V2 (l.toArray.toList.take (k + 1)) t u = Av.T V2 (l.take u) t u := T_take V2 V2 u (fun _ _ => rfl) _ _ _ _ (Nat.le_refl _) (by simp [List.take_take]; try omega) (by simp; omega) (by omega)
     have c2 : Av.T V (l.toArray.toList.take (k + 1)) t k = Av.T V l t k := T_take V V k (fun _ _ => rfl) _ _ _ _ (Nat.le_refl _) (by simp [List.take_take]) (by simp; omega) (by omega)
     rw [c1] at b1
     rw [c2] at b2
     rw [← b1, ← b2, e]
    have := hv2 i o (by rw [List.getElem?_take, if_pos hiu]; simpa using ho)
    rw [hVV i hiu] at this
    have c3 : Av.T V2 (l.take u) t i = Av.T V l t i := T_take V V2 u hVV _ _ _ _ (by omega) (by rw [List.take_take]; congr 1; omega) (by omega) (by omega)
    rw [c3] at this
    exact this
   ·have := detGo_ok (ops := l.toArray) (Q := Q) _ _ _ (l.drop (k + 1)) _ h' hA (by rw [drop_idx (by omega), List.take_of_length_le (by simp)]) h2
    simpa using this
  ·unfold left
   have : (List.range l.toArray.size).filter (fun i => !(Array.replicate l.toArray.size false).getD i true) = List.range l.toArray.size := by
    rw [List.filter_eq_self]
    intro i hi
    have := List.mem_range.1 hi
    simp at this ⊢
    simp [this]
   rw [this, List.length_range]
  ·have h8 := (Array.getElem?_eq_some_iff.1 hj).1
   simp at h8 hl
   simp [h8] at hl
  ·simp at hj hl
   simp [hj] at hl
  ·have : j < l.length := by omega
   simp [this]
 show ∀ tp, WPix C l.toArray Q (Region.schedule (C.P.follows .mixedOrders) l.toArray tp) t h
 intro tp
 unfold Region.schedule
 rw [hm]
 simp only [Bool.true_or, if_true]
 exact main _
attribute [go_sem] agrL
theorem WPt_nil {ops : Array Oper} {Q : Exit → Env → Heap → Prop} (g : Q .normal t h) : WPt C ops Q .nil t h := g
theorem WPt_one {ops : Array Oper} {Q : Exit → Env → Heap → Prop} {i : Nat} {s : OT} {o : Oper} (ho : ops[i]? = some o) (g : WPl C ops (fun _ t' h' => WPt C ops Q s t' h') [o] t h) : WPt C ops Q (.one i s) t h := by
 simp only [WPt, ho]; exact g
theorem WPt_two {ops : Array Oper} {Q : Exit → Env → Heap → Prop} {i j : Nat} {s u : OT} {o p : Oper} (ho : ops[i]? = some o) (hp : ops[j]? = some p) (g : WPl C ops (fun _ t' h' => WPt C ops Q s t' h') [o] t h)
  (g' : WPl C ops (fun _ t' h' => WPt C ops Q u t' h') [p] t h) : WPt C ops Q (.two i s j u) t h := by
 simp only [WPt, ho, hp]; exact ⟨g, g'⟩
end
end Go.Av
namespace Go.Av
open Go Go.RowKit
theorem gs_ne {H : Heap} {p q : Nat} (b : Blk) (v : Nat) (hne : p ≠ q) : getRow (H.set p b) q v = getRow H q v := by
 unfold getRow; rw [List.getElem?_set_ne hne]
theorem gs_eq {H : Heap} {p : Nat} (e n u v : Nat) (rows : List AVal) (hp : p < H.length) : getRow (H.set p (.row e n u rows)) p v = if v = u then some (e, n, rows) else none := by
 unfold getRow; rw [List.getElem?_set_self hp]
theorem gs_old {A l : Heap} {p : Nat} (v : Nat) (hp : p < A.length) : getRow (A ++ l) p v = getRow A p v := by
 unfold getRow; rw [List.getElem?_append_left hp]
theorem gs_new {A l : Heap} {n k : Nat} (v : Nat) (hn : A.length = n) : getRow (A ++ l) (n + k) v = getRow l k v := by subst hn; exact getRow_app A l k v
theorem gs_new0 {A l : Heap} {n : Nat} (v : Nat) (hn : A.length = n) : getRow (A ++ l) n v = getRow l 0 v := by subst hn; exact getRow_app0 A l v
theorem st_old {A l : Heap} {p : Nat} (b : Blk) (hp : p < A.length) : (A ++ l).set p b = A.set p b ++ l := List.set_append_left p b hp
theorem st_new {A l : Heap} {n k : Nat} (b : Blk) (hn : A.length = n) : (A ++ l).set (n + k) b = A ++ l.set k b := by subst hn; exact set_app A l k b
theorem st_new0 {A l : Heap} {n : Nat} (b : Blk) (hn : A.length = n) : (A ++ l).set n b = A ++ l.set 0 b := by subst hn; exact set_app0 A l b
theorem heapF : (∀ {H : Heap} {p q : Nat} (b : Blk) (v : Nat) (_ : p ≠ q), getRow (H.set p b) q v = getRow H q v) ∧
  (∀ {H : Heap} {p : Nat} (e n u v : Nat) (rows : List AVal) (_ : p < H.length), getRow (H.set p (.row e n u rows)) p v = if v = u then some (e, n, rows) else none) ∧
  (∀ {A l : Heap} {p : Nat} (v : Nat) (_ : p < A.length), getRow (A ++ l) p v = getRow A p v) ∧
  (∀ {A l : Heap} {n k : Nat} (v : Nat) (_ : A.length = n), getRow (A ++ l) (n + k) v = getRow l k v) ∧
  (∀ {A l : Heap} {n : Nat} (v : Nat) (_ : A.length = n), getRow (A ++ l) n v = getRow l 0 v) ∧
  (∀ {A l : Heap} {p : Nat} (b : Blk) (_ : p < A.length), (A ++ l).set p b = A.set p b ++ l) ∧
  (∀ {A l : Heap} {n k : Nat} (b : Blk) (_ : A.length = n), (A ++ l).set (n + k) b = A ++ l.set k b) ∧
  (∀ {A l : Heap} {n : Nat} (b : Blk) (_ : A.length = n), (A ++ l).set n b = A ++ l.set 0 b) ∧
  (∀ (H : Heap) (i : Nat) (b : Blk), (H.set i b).length = H.length) ∧ (∀ (H : Heap) (i : Nat) (a b : Blk), (H.set i a).set i b = H.set i b) :=
 ⟨gs_ne, gs_eq, gs_old, gs_new, gs_new0, st_old, st_new, st_new0, fun _ _ _ => List.length_set .., fun _ _ _ _ => List.set_set ..⟩
theorem gr_lt {H : Heap} {p v : Nat} {x : TypeId × Nat × List AVal} (h : getRow H p v = some x) : p < H.length := by
 obtain ⟨e, n, r⟩ := x
 exact (List.getElem?_eq_some_iff.1 (getRow_some h)).1
attribute [go_sem] List.length_set
def FrN (n0 : Nat) (H H' : Heap) : Prop := ∀ p, p < n0 → H'[p]? = H[p]?
theorem FrN.refl (n0 : Nat) (H : Heap) : FrN n0 H H := fun _ _ => rfl
theorem FrN.set {n0 : Nat} {H H' : Heap} {q : Nat} (b : Blk) (hq : n0 ≤ q) (g : FrN n0 H H') : FrN n0 H (H'.set q b) := fun p hp => by rw [List.getElem?_set_ne (by omega)]; exact g p hp
theorem FrN.app {n0 : Nat} {H H' : Heap} (l : Heap) (hn : n0 ≤ H'.length) (g : FrN n0 H H') : FrN n0 H (H' ++ l) := fun p hp => by rw [List.getElem?_append_left (by omega)]; exact g p hp
theorem FrN.trans {n0 : Nat} {H H' H'' : Heap} (g : FrN n0 H H') (k : FrN n0 H' H'') : FrN n0 H H'' := fun p hp => (k p hp).trans (g p hp)
theorem Fin.whole {h0 h1 : Heap} {R : AVal → Heap → Prop} {r : AVal} (hl : h0.length ≤ h1.length) (hc : Clo h1.length r) (hR : R r h1) : Fin h0 h1 R r :=
 ⟨h1.length, r, hl, .clo _ hc, .inl (Nat.le_refl _), by rw [List.take_length]; exact hR⟩
section
variable {C : Ctx}
theorem Sat.postw {f : FuncId} {args : List AVal} {h : Heap} {R R' : AVal → Heap → Prop} (s : Sat C f args h R) (k : ∀ r h', R r h' → ∃ h'', (∀ t, Weak C [] t h' t h'') ∧ R' r h'') : Sat C f args h R' := by
 unfold Sat at *
 intro B S μ w vs f0 rl
 refine (s B S μ w vs f0 rl).mono fun v w' ⟨r, h', S', μ', hR, st, f1, hr⟩ => ?_
 obtain ⟨h'', hw, hR'⟩ := k r h' hR
 obtain ⟨S2, μ2, st2, f2, _⟩ := (hw fun _ => undefA).2 B 0 S' μ' w' { tmps := #[], defers := [] } f1 ⟨rfl, rfl, fun i hi => by omega⟩
 exact ⟨r, h'', S2, μ2, hR', st.trans st2, f2, hr.mono st2⟩
theorem wpOperV_app {ops : Array Oper} {x y : Operand} {T T' : TypeId} {ty : TypeId} {pos : String} {aft : Array Edge} {dst : Option Tmp} {t : Env} {h : Heap} {K : AVal → Heap → Prop} :
  wpOperV C ops ⟨dst, .call ⟨.builtin .append, #[x, y], #[T, T']⟩, ty, pos, aft, none⟩ t h K = appK C T T' (aev C.G t x) (aev C.G t y) h K := rfl
theorem appK_cut {T T' e n by' p ver len : Nat} {y : AVal} {rows ys : List AVal} {h : Heap} {k : AVal → Heap → Prop} (hT : T' = T ∨ strT C.P T' = true) (he : elmT C.P T = some e) (hn : szOf C.P e = some n) (hb : byT C.P e = some by')
  (hz : (zroT C.P e).map (fun z => z.cells.length) = some n) (h0 : 0 < n) (hy : elemsOf h n y = some ys) (hrow : getRow h p ver = some (e, n, rows)) (hl : len ≤ rows.length) (hys : 0 < ys.length)
  (hr : len + ys.length ≤ maxLen ∧ (len + ys.length) * by' ≤ 140737488355328)
  (hk : k (.hs h.length 0 0 (len + ys.length) true) (h ++ [.row e n 0 (rows.take len ++ ys)])) : appK C T T' (.hs p ver 0 len false) y h k := by
 refine ⟨hT, ?_⟩
 simp only [wpAppend, he, hn, hb, hy, hrow, need_eq]
 exact ⟨h0, hz, trivial, trivial, trivial, hr, by rw [if_neg (by simp)]; exact ⟨hys, hl, hk⟩⟩
theorem aslice_hs3 {P : Program} {h : Heap} {T e p v off len n m r : Nat} {room : Bool} {rows : List AVal} {k k' : IntKind} (he : elmT P T = some e) (hg : getRow h p v = some (m, n, rows)) (hn : szOf P e = some n) (hr : r ≤ len) :
  aslice P h T (.hs p v off len room) none (some (.int k (r : Int))) (some (.int k' (r : Int))) = some (.hs p v off r false) := by
 simp only [aslice, he, hg, hn, if_true, optInt]
 rw [if_pos ⟨Int.le_refl _, by omega, by omega, .inl trivial⟩]
 simp
end
end Go.Av
namespace Go.Av
open Go Go.Proofs Go.RowKit
attribute [local irreducible] WP WPl WPix Sat
set_option maxRecDepth 100000
set_option maxHeartbeats 1000000
variable (G : Nat → Option (List AVal))
structure OE where
 n : Bs
 a : List At
 t : Bs
 k : List Elem
 q : Nat
 v : Nat
def OE.av (o : OE) : AVal := .agg [.str o.n, .sl 2 (o.a.map At.av), .str o.t, .hs o.q o.v 0 o.k.length true]
def OE.el (o : OE) : Elem := ⟨o.n, o.a, o.t, o.k⟩
@[go_sem] theorem OE.av_cells (o : OE) : AVal.cells (OE.av o) = [.str o.n, .sl 2 (o.a.map At.av), .str o.t, .hs o.q o.v 0 o.k.length true] := (rfl)
@[go_sem] theorem OE.av_fold (o : OE) : AVal.agg [.str o.n, .sl 2 (o.a.map At.av), .str o.t, .hs o.q o.v 0 o.k.length true] = OE.av o := (rfl)
@[go_sem] theorem OE.av_lies (o : OE) : AVal.lies (OE.av o) = true := (rfl)
@[go_sem] theorem OE.of (o : OE) (cs : List AVal) : ofCells (OE.av o) cs = .agg cs := (rfl)
structure BH (H : Heap) (n0 pb po vo : Nat) (room : Bool) (os : List OE) (pd vd : Nat) (ds : List Elem) : Prop where
 b : getRow H pb 0 = some (106, 2, [.agg [.hs po vo 0 os.length room, .hs pd vd 0 ds.length true]])
 o : getRow H po vo = some (26, 4, os.map OE.av)
 d : getRow H pd vd = some (26, 4, ds.map Elem.av)
 k : ∀ (i : Nat) (o : OE), os[i]? = some o → getRow H o.q o.v = some (26, 4, o.k.map Elem.av)
 od : po ≠ pd
 ko : ∀ (i : Nat) (o : OE), os[i]? = some o → o.q ≠ po ∧ o.q ≠ pd ∧ n0 ≤ o.q
 kk : ∀ (i j : Nat) (o o' : OE), os[i]? = some o → os[j]? = some o' → i ≠ j → o.q ≠ o'.q
 n : n0 ≤ pb ∧ n0 ≤ po ∧ n0 ≤ pd
theorem row_ne {H : Heap} {p q v u e e' n n' : Nat} {rs rs' : List AVal} (h1 : getRow H p v = some (e, n, rs)) (h2 : getRow H q u = some (e', n', rs')) (hn : n ≠ n') : p ≠ q := by
 rintro rfl
 have a := getRow_some h1; have b := getRow_some h2
 rw [a] at b; simp at b; exact hn b.2.1
variable {H : Heap} {n0 pb po vo pd vd : Nat} {room : Bool} {os : List OE} {ds : List Elem}
theorem BH.bo (g : BH H n0 pb po vo room os pd vd ds) : pb ≠ po := row_ne g.b g.o (by decide)
theorem BH.bd (g : BH H n0 pb po vo room os pd vd ds) : pb ≠ pd := row_ne g.b g.d (by decide)
theorem BH.bk (g : BH H n0 pb po vo room os pd vd ds) (i : Nat) (o : OE) (h : os[i]? = some o) : pb ≠ o.q := row_ne g.b (g.k i o h) (by decide)
def stepB (os ds : List Elem) (t : Tok) : Option (List Elem × List Elem) :=
 if t.1 = 1 then (if os.length + 1 ≤ 32 ∧ ds = [] then some (os ++ [⟨t.2.1, t.2.2.1, [], []⟩], ds) else none)
 else if t.1 = 2 then
  match os.getLast? with
  | none => none
  | some e => if e.name = t.2.1 then
    match os.dropLast.getLast? with
    | none => some ([], ds ++ [e])
    | some p => some (os.dropLast.dropLast ++ [⟨p.name, p.attrs, p.text, p.kids ++ [e]⟩], ds)
   else none
 else if t.1 = 3 then
  match os.getLast? with
  | none => if t.2.2.2.all blankB = true then some ([], ds) else none
  | some e => some (os.dropLast ++ [⟨e.name, e.attrs, e.text ++ t.2.2.2, e.kids⟩], ds)
 else none
def BPost (n0 pb : Nat) (H : Heap) (os ds : List Elem) (x : Option (List Elem × List Elem)) (r : AVal) (H' : Heap) : Prop :=
 (FrN n0 H H' ∧ H.length ≤ H'.length) ∧ match x with
 | none => r = .bool false
 | some y => r = .bool true ∧ ∃ po vo room os' pd vd, BH H' n0 pb po vo room os' pd vd y.2 ∧ os'.map OE.el = y.1
end Go.Av
namespace Go.Av
open Go.RowKit
section
variable {C : Ctx} {t : Env} {h : Heap}
end
end Go.Av
namespace Go.Av
open Go Go.Proofs Go.RowKit
attribute [local irreducible] WP WPl WPix Sat
set_option maxRecDepth 100000
set_option maxHeartbeats 1000000
variable (G : Nat → Option (List AVal))
theorem PShort_sat (s : Bs) (hs : s.length ≤ 1048576) (h : Heap) : Sat (CT G) 19 [.str s] h (fun r h' => r = .str (short s) ∧ h' = h) := by
 obtain ⟨h1, h2, h3⟩ := short_lib s
 have hl := LastIndexByte_sat G s 58 (by omega)
 generalize Lib.lastIndexByte ⟨s.toArray⟩ 58 = n at h1 h2 h3 hl
 refine sb [.tmp 2] (fn := Tryz.f19) Tryz.func19 ?_
 intro Q hQ
 refine wko trivial ?_
 refine kqo trivial (hl _) ?_
 refine eeo hQ trivial ?_
 refine fR (.str _) ?_
 rw [h1]
theorem PKids_sat (e : Elem) (n : Bs) (hs : e.sz ≤ 1048576) (h : Heap) : Sat (CT G) 30 [e.av, .str n] h (fun r h' => r = .sl 4 ((kidsF e n).map Elem.av) ∧ h' = h) := by
 have hkl := e.kids_len
 refine sb [.tmp 4] (fn := Tryz.f30) Tryz.func30 ?_
 intro Q hQ
 refine wko trivial ?_
 refine lm (fun nL tL hL => ∃ (k v : Nat) (acc : List Elem) (j : Heap), e.kids.length - k = nL ∧ h ++ .row 26 4 0 [e.av] :: .row 26 4 v (acc.map Elem.av) :: j = hL ∧ tL 5 = .hs (h.length + 1) v 0 acc.length true ∧ tL 11 = .int .i64 k ∧ k ≤ e.kids.length ∧ acc.length ≤ k ∧ acc ++ (e.kids.drop k).filter (fun k => decide (short k.name = n)) = kidsF e n) ((fun (k v : Nat) (acc : List Elem) (j : Heap) => (e.kids.length - k : Nat)) (0) (0) ([]) ([])) ?_ ?_
 ·refine ⟨_, _, Weak.virt 5 26 4 (by simp) (by omega) (by exact zqo trivial), ⟨0, 0, [], [], rfl, hpE, ?_, ?_, ?_, ?_, ?_⟩⟩
  all_goals first | exact zqo trivial | rfl | omega | trivial | skip
 rintro _ s2 h' ⟨k, v, acc, j, rfl, rfl, e5, e11, hk, hl, hp⟩ K2 hK2
 simp only [mix_cons, mix_nil, Nat.reduceEqDiff, ↓reduceIte] at e5 e11
 have F := F2 e5 e11
 refine wko F ?_
 refine cqo F (fun hc => ?_) (fun hc => ?_) <;> (try exact hc.elim)
 ·obtain ⟨y, hy, hym⟩ := getElem?_of_lt hc
  have := Elem.kid_sz hym
  have := y.name_len
  rw [drop_cons_of hy, List.filter_cons] at hp
  have F := F2 F hy
  refine wko F ?_
  refine kqo F (PShort_sat G y.name (by omega) _) ?_
  refine cqo F (fun hc => ?_) (fun hc => ?_) <;> (try exact hc.elim) <;> (refine wko F ?_)
  ·refine aqo F ?_
   try refine sqo F ?_
   refine wko F ?_
   refine hK2 _ _ _ (Wkn.refl ⟨k + 1, v + 1, acc ++ [y], _, rfl, hpE, ?_, ?_, by omega, by simp; omega, by rw [if_pos (by simp [hc])] at hp; rw [← hp]; simp⟩) (by omega)
   all_goals first | exact zqo F | rfl | omega | trivial | skip
  ·refine hK2 _ _ _ (Wkn.refl ⟨k + 1, v, acc, _, rfl, hpE, ?_, ?_, by omega, by omega, by rw [if_neg (by simp [hc])] at hp; exact hp⟩) (by omega)
   all_goals first | exact zqo F | rfl | omega | trivial | skip
 ·refine wko F ?_
  refine eeo hQ F ?_
  rw [drop_nil_of hc, List.filter_nil, List.append_nil] at hp
  subst hp
  exact Fin.frz (frz_elems (pre := h ++ [.row 26 4 0 [e.av]]) (post := j) _ (by simp; rfl) (by simp) (by omega)) ⟨rfl, rfl⟩
theorem PKid_sat (e : Elem) (n : Bs) (hs : e.sz ≤ 1048576) (h : Heap) : Sat (CT G) 14 [e.av, .str n] h (fun r h' => r = .tup [(kidF e n).1.av, .bool (kidF e n).2] ∧ h' = h) := by
 refine sb [.cell 4 26, .tmp 5] (fn := Tryz.f14) Tryz.func14 ?_
 intro Q hQ
 refine wko trivial ?_
 refine kqo trivial (PKids_sat G e n hs _) ?_
 refine cqo trivial (fun hc => ?_) (fun hc => ?_) <;> (try exact hc.elim) <;> (refine wko trivial ?_)
 ·refine yeo hQ trivial ?_
  have hk : kidsF e n = [] := List.length_eq_zero_iff.1 (by omega)
  simp only [kidF, hk]
  refine Fin.frz ?_ ⟨rfl, rfl⟩
  refine .tup _ _ rfl fun i c d hc hd => ?_
  match i with
  | 0 => simp at hc hd; subst hc; subst hd; exact frz_elem0 _ _
  | 1 => simp at hc hd; subst hc; subst hd; exact .clo _ (.bool _)
  | i + 2 => simp at hc
 ·obtain ⟨y, l, hk⟩ : ∃ y l, kidsF e n = y :: l := by
   cases hq : kidsF e n with
   | nil => rw [hq] at hc; simp at hc
   | cons y l => exact ⟨y, l, rfl⟩
  rw [hk]
  have h0 : (y :: l)[0]? = some y := rfl
  have F := h0
  refine wko F ?_
  simp only [h0]
  try refine sqo F ?_
  refine wko F ?_
  refine yeo hQ F ?_
  simp only [kidF, hk]
  exact Fin.plain (.tup _ (by intro c hc; simp at hc; rcases hc with rfl | rfl; exact Elem.clo _ _; exact .bool _)) ⟨rfl, rfl⟩
def idxF {α : Type} (p : α → Bool) : List α → Nat → Int
 | [], _ => -1
 | a :: l, k => if p a then (k : Int) else idxF p l (k + 1)
theorem idxF_bd {α : Type} (p : α → Bool) : ∀ (l : List α) (k : Nat), -1 ≤ idxF p l k ∧ idxF p l k < l.length + k
 | [], k => by simp [idxF]; omega
 | a :: l, k => by
  have := idxF_bd p l (k + 1)
  rw [idxF]; split <;> (simp; omega)
theorem IndexFunc_sat (p : At → Bool) (g : FuncId) (cap : List AVal) (l : List At) (hs : l.length ≤ 1048576) (h : Heap) (hg : ∀ (a : At) (j : Heap), Sat (CT G) g (a.av :: cap) (h ++ j) (fun r h' => r = .bool (p a) ∧ h' = h ++ j)) :
  Sat (CT G) 50 [.sl 2 (l.map At.av), .fn (.func g) [] cap] h (fun r h' => r = .int .i64 (idxF p l 0) ∧ h' = h) := by
 refine sb [.tmp 4] (fn := Tryz.f50) Tryz.func50 ?_
 intro Q hQ
 refine wko trivial ?_
 refine lm (fun nL tL hL => ∃ (k : Nat), l.length - k = nL ∧ h = hL ∧ tL 8 = .int .i64 k ∧ k ≤ l.length ∧ idxF p l 0 = idxF p (l.drop k) k) ((fun (k : Nat) => (l.length - k : Nat)) (0)) ?_ ?_
 ·refine Wkn.refl ⟨0, rfl, hpE, ?_, ?_, ?_⟩
  all_goals first | exact zqo trivial | rfl | omega | trivial | skip
 rintro _ s2 h' ⟨k, rfl, rfl, e8, hk, hp⟩ K2 hK2
 simp only [mix_cons, mix_nil, Nat.reduceEqDiff, ↓reduceIte] at e8
 have F := e8
 refine wko F ?_
 refine cqo F (fun hc => ?_) (fun hc => ?_) <;> (try exact hc.elim)
 ·obtain ⟨y, hy, hym⟩ := getElem?_of_lt hc
  rw [drop_cons_of hy, idxF] at hp
  have F := F2 F hy
  refine wko F ?_
  have := hg y []
  rw [List.append_nil] at this
  refine kqo F (this) ?_
  refine cqo F (fun hc => ?_) (fun hc => ?_) <;> (try exact hc.elim) <;> (refine wko F ?_)
  ·refine eeo hQ F ?_
   refine fR (.int _ _) ?_
   rw [hp, if_pos hc]
  ·refine hK2 _ _ _ (Wkn.refl ⟨k + 1, rfl, hpE, ?_, by omega, by rw [hp, if_neg (by simp [hc])]⟩) (by omega)
   all_goals first | exact zqo F | rfl | omega | trivial | skip
 ·refine wko F ?_
  refine eeo hQ F ?_
  refine fR (.int _ _) ?_
  rw [hp, drop_nil_of hc]; rfl
end Go.Av
namespace Go.Av
open Go Go.Proofs Go.RowKit
attribute [local irreducible] WP WPl WPix Sat
set_option maxRecDepth 100000
set_option maxHeartbeats 1000000
variable (G : Nat → Option (List AVal))
theorem Attr1_sat (a : At) (n : Bs) (h j : Heap) (X : Blk) : Sat (CT G) 51 [a.av, .hp (h.length + 1) 0 0 0] (h ++ X :: .row 9 1 0 [.str n] :: j) (fun r h' => r = .bool (decide (a.1 = n)) ∧ h' = h ++ X :: .row 9 1 0 [.str n] :: j) := by
 refine sb [.tmp 3] (fn := Tryz.f51) Tryz.func51 ?_
 intro Q hQ
 refine wko trivial ?_
 refine eeo hQ trivial ?_
 refine fR (.bool _) ?_
 congr 1; rw [Bool.eq_iff_iff]; simp
theorem idxF_ge {α : Type} (p : α → Bool) : ∀ (l : List α) (k : Nat), idxF p l k = -1 ∨ (k : Int) ≤ idxF p l k
 | [], k => .inl rfl
 | a :: l, k => by
  have := idxF_ge p l (k + 1)
  rw [idxF]; split
  ·exact .inr (Int.le_refl _)
  ·omega
theorem attrF_idx (n : Bs) : ∀ (l : List At) (k : Nat), (idxF (fun a => decide (a.1 = n)) l k < 0 → attrF l n = ([], false)) ∧ (∀ i : Nat, idxF (fun a => decide (a.1 = n)) l k = ((k + i : Nat) : Int) → ∃ a, l[i]? = some a ∧ attrF l n = (a.2, true))
 | [], k => by refine ⟨fun _ => rfl, fun i hi => ?_⟩; simp only [idxF] at hi; omega
 | a :: l, k => by
  obtain ⟨h1, h2⟩ := attrF_idx n l (k + 1)
  have hg := idxF_ge (fun a : At => decide (a.1 = n)) l (k + 1)
  by_cases hc : a.1 = n
  ·simp only [idxF, hc, decide_true, if_true, attrF]
   refine ⟨fun h => by omega, fun i hi => ?_⟩
   have : i = 0 := (by omega); subst this; exact ⟨a, rfl, rfl⟩
  ·simp only [idxF, hc, decide_false, Bool.false_eq_true, if_false, attrF]
   refine ⟨h1, fun i hi => ?_⟩
   cases i with
   | zero => omega
   | succ i =>
    obtain ⟨b, hb, hr⟩ := h2 i (by rw [hi]; congr 1; omega)
    exact ⟨b, by simpa using hb, hr⟩
theorem PAttr_sat (e : Elem) (n : Bs) (hs : e.sz ≤ 1048576) (h : Heap) : Sat (CT G) 16 [e.av, .str n] h (fun r h' => r = .tup [.str (attrF e.attrs n).1, .bool (attrF e.attrs n).2] ∧ h' = h) := by
 have hal := e.attrs_len
 have hb := idxF_bd (fun a : At => decide (a.1 = n)) e.attrs 0
 obtain ⟨f1, f2⟩ := attrF_idx n e.attrs 0
 have hi := IndexFunc_sat G (fun a => decide (a.1 = n)) 51 [.hp (h.length + 1) 0 0 0] e.attrs (by omega) (h ++ [.row 26 4 0 [e.av], .row 9 1 0 [.str n]]) (fun a j => by simpa using Attr1_sat G a n h j _)
 generalize idxF (fun a : At => decide (a.1 = n)) e.attrs 0 = x at hb f1 f2 hi
 refine sb [.tmp 4, .tmp 5] (fn := Tryz.f16) Tryz.func16 ?_
 intro Q hQ
 refine wko trivial ?_
 refine kqo trivial (hi) ?_
 refine cqo trivial (fun hc => ?_) (fun hc => ?_) <;> (try exact hc.elim)
 ·refine wko trivial ?_
  refine eeo hQ trivial ?_
  refine fR (.tup _ (by simp [Clo.str, Clo.bool])) ?_
  rw [f1 hc]
 ·obtain ⟨i, rfl⟩ : ∃ i : Nat, x = (i : Int) := ⟨x.toNat, by omega⟩
  obtain ⟨a, ha, hr⟩ := f2 i (by simp)
  have F := ha
  refine wko F ?_
  refine eeo hQ F ?_
  refine fR (.tup _ (by simp [Clo.str, Clo.bool])) ?_
  rw [hr]
end Go.Av
namespace Go.Av
open Go Go.Proofs Go.RowKit
attribute [local irreducible] WP WPl WPix Sat
set_option maxRecDepth 100000
set_option maxHeartbeats 1000000
variable (G : Nat → Option (List AVal))
end Go.Av
namespace Go.Av
open Go Go.Proofs Go.RowKit
attribute [local irreducible] WP WPl WPix Sat
set_option maxRecDepth 100000
set_option maxHeartbeats 1000000
variable (G : Nat → Option (List AVal))
section
variable {σ : Type} (A B : Elem → σ → σ)
end
section
end
end Go.Av
namespace Go.Av
open Go Go.Proofs Go.RowKit
attribute [local irreducible] WP WPl WPix Sat
set_option maxRecDepth 100000
set_option maxHeartbeats 1000000
variable (G : Nat → Option (List AVal))
section
end
end Go.Av
namespace Go.Av
open Go Go.Proofs Go.RowKit
attribute [local irreducible] WP WPl WPix Sat
set_option maxRecDepth 100000
set_option maxHeartbeats 1000000
variable (G : Nat → Option (List AVal))
end Go.Av
namespace Go.Av
open Go Go.Proofs Go.RowKit
attribute [local irreducible] WP WPl WPix Sat
set_option maxRecDepth 100000
set_option maxHeartbeats 1000000
variable (G : Nat → Option (List AVal))
theorem deepL_ge : ∀ (l : List Elem) (d n : Nat), n ≤ deepL l d n ∧ ∀ k ∈ l, deep k (d + 1) ≤ deepL l d n
 | [], d, n => by rw [deepL]; exact ⟨Nat.le_refl _, fun k hk => by cases hk⟩
 | e :: l, d, n => by
  rw [deepL]
  by_cases hc : n < deep e (d + 1)
  ·rw [if_pos hc]
   obtain ⟨h1, h2⟩ := deepL_ge l d (deep e (d + 1))
   refine ⟨by omega, fun k hk => ?_⟩
   rcases List.mem_cons.1 hk with rfl | hk
   ·omega
   ·exact h2 k hk
  ·rw [if_neg hc]
   obtain ⟨h1, h2⟩ := deepL_ge l d n
   refine ⟨by omega, fun k hk => ?_⟩
   rcases List.mem_cons.1 hk with rfl | hk
   ·omega
   ·exact h2 k hk
theorem kidF_mem (e : Elem) (n : Bs) (h : (kidF e n).2 = true) : (kidF e n).1 ∈ e.kids := by
 unfold kidF at *
 cases hq : kidsF e n with
 | nil => rw [hq] at h; cases h
 | cons k l =>
  have : k ∈ kidsF e n := by rw [hq]; simp
  unfold kidsF at this
  exact (List.mem_filter.1 this).1
end Go.Av
namespace Go.Av
open Go Go.Proofs Go.RowKit
attribute [local irreducible] WP WPl WPix Sat
set_option maxRecDepth 100000
set_option maxHeartbeats 1000000
variable (G : Nat → Option (List AVal))
def setL : List AVal := (List.range 256).map fun i : Nat => .bool (blankP (i : Int))
theorem setL_len : setL.length = 256 := by simp [setL]
theorem setL_at (c : UInt8) : (setL.drop (c.toNat * 1)).head? = some (.bool (blankB c)) := by
 rw [Nat.mul_one]
 have h := c.toNat_lt
 have e : setL.drop c.toNat = .bool (blankB c) :: setL.drop (c.toNat + 1) := by
  refine drop_cons_of ?_
  unfold setL
  rw [List.getElem?_map, List.getElem?_range (by omega)]
  rfl
 rw [e]; rfl
theorem make_run : isV (.tup [.agg setL, .bool true]) (callX (CT G) orcL 1000 100 163 [.str blk4] []) = true := by
 kernel_rfl
theorem make_sat (hG : GOk G) (hC : GClo (CT G)) (h : Heap) : Sat (CT G) 163 [.str blk4] h (fun r h' => r = .tup [.agg setL, .bool true] ∧ h' = h) :=
 Sat.closedV hC (orcL_ok hG) 1000 100 rfl (by kernel_rfl) (make_run G) h
def setR : Blk := .row 157 256 0 [.agg setL]
@[go_sem] theorem getRow_setR (l : Heap) : getRow (setR :: l) 0 0 = some (157, 256, [.agg setL]) := rfl
theorem contains_sat (c : UInt8) (h : Heap) : Sat (CT G) 177 [.hp h.length 0 0 0, .int .u8 c.toNat] (h ++ [setR]) (fun r h' => r = .bool (blankB c) ∧ h' = h ++ [setR]) := by
 have hlt := c.toNat_lt
 have hs := setL_at c
 have F := hs
 refine sb [.tmp 4] (fn := Tryz.f177) Tryz.func177 ?_
 intro Q hQ
 refine wk F ?_
 refine ⟨by omega, ?_⟩
 try refine sq F ?_
 refine wk F ?_
 refine ee hQ F ?_
 exact Fin.frzS (.clo _ (.bool _)) ⟨rfl, rfl⟩
def ltrim (s : Bs) : Bs := s.dropWhile blankB
def rtrim (s : Bs) : Bs := (s.reverse.dropWhile blankB).reverse
theorem rtrim_snoc (s : Bs) (c : UInt8) : rtrim (s ++ [c]) = if blankB c = true then rtrim s else s ++ [c] := by
 unfold rtrim
 rw [List.reverse_append, List.reverse_singleton, List.singleton_append, List.dropWhile_cons]
 split
 ·rfl
 ·simp
theorem trimLeft_sat (s : Bs) (hs : s.length ≤ 1073741824) (h : Heap) : Sat (CT G) 164 [.str s, .hp h.length 0 0 0] (h ++ [setR]) (fun r h' => r = .str (ltrim s) ∧ h' = h ++ [setR]) := by
 refine sb [.tmp 4] (fn := Tryz.f164) Tryz.func164 ?_
 intro Q hQ
 refine wk trivial ?_
 refine lm (fun nL tL hL => ∃ (s1 : Bs), s1.length = nL ∧ h ++ [setR] = hL ∧ tL 0 = .str s1 ∧ s1.length ≤ s.length ∧ ltrim s1 = ltrim s) ((fun (s1 : Bs) => (s1.length : Nat)) (s)) ?_ ?_
 ·refine Wkn.refl ⟨s, rfl, hpE, ?_, ?_, ?_⟩
  all_goals first | exact zq trivial | rfl | omega | trivial | skip
 rintro _ s2 h' ⟨s1, rfl, rfl, e0, hl, hp⟩ K2 hK2
 simp only [mix_cons, mix_nil, Nat.reduceEqDiff, ↓reduceIte] at e0
 have F := e0
 refine wk F ?_
 cases s1 with
 | nil =>
  refine cq F (fun hc => ?_) (fun hc => ?_) <;> (try exact hc.elim) <;> (refine wk F ?_)
  refine ee hQ F ?_
  rw [← hp]
  exact Fin.frzS (.clo _ (.str _)) ⟨rfl, rfl⟩
 | cons c t =>
  have h0 : (c :: t)[0]? = some c := rfl
  have h1 : (c :: t).drop 1 = t := rfl
  have h2 : (c :: t).length = t.length + 1 := rfl
  simp only [List.length_cons] at hl
  unfold ltrim at hp
  rw [List.dropWhile_cons] at hp
  have F := F3 F h0 h1
  refine cq F (fun hc => ?_) (fun hc => ?_) <;> (try exact hc.elim) <;> (refine wk F ?_)
  ·try refine sq F ?_
   refine kq F (contains_sat G c h) ?_
   refine cq F (fun hb => ?_) (fun hb => ?_) <;> (try exact hb.elim) <;> (refine wk F ?_)
   ·rw [if_neg (by simp [hb])] at hp
    refine ee hQ F ?_
    unfold ltrim
    rw [← hp]
    exact Fin.frzS (.clo _ (.str _)) ⟨rfl, rfl⟩
   ·rw [if_pos hb] at hp
    have h3 : (1 : Int) ≤ ((c :: t).length : Int) := by simp only [List.length_cons]; omega
    have F := F2 F h3
    try refine sq F ?_
    refine wk F ?_
    refine hK2 _ _ _ (Wkn.refl ⟨t, rfl, hpE, ?_, by omega, hp⟩) (by omega)
    all_goals first | exact zq F | rfl | omega | trivial | skip
  ·exfalso; omega
theorem trimRight_sat (s : Bs) (hs : s.length ≤ 1073741824) (h : Heap) : Sat (CT G) 165 [.str s, .hp h.length 0 0 0] (h ++ [setR]) (fun r h' => r = .str (rtrim s) ∧ h' = h ++ [setR]) := by
 refine sb [.tmp 4] (fn := Tryz.f165) Tryz.func165 ?_
 intro Q hQ
 refine wk trivial ?_
 refine lm (fun nL tL hL => ∃ (s1 : Bs), s1.length = nL ∧ h ++ [setR] = hL ∧ tL 0 = .str s1 ∧ s1.length ≤ s.length ∧ rtrim s1 = rtrim s) ((fun (s1 : Bs) => (s1.length : Nat)) (s)) ?_ ?_
 ·refine Wkn.refl ⟨s, rfl, hpE, ?_, ?_, ?_⟩
  all_goals first | exact zq trivial | rfl | omega | trivial | skip
 rintro _ s2 h' ⟨s1, rfl, rfl, e0, hl, hp⟩ K2 hK2
 simp only [mix_cons, mix_nil, Nat.reduceEqDiff, ↓reduceIte] at e0
 have F := e0
 refine wk F ?_
 rcases List.eq_nil_or_concat s1 with rfl | ⟨t, c, rfl⟩
 ·refine cq F (fun hc => ?_) (fun hc => ?_) <;> (try exact hc.elim) <;> (refine wk F ?_)
  refine ee hQ F ?_
  rw [← hp]
  exact Fin.frzS (.clo _ (.str _)) ⟨rfl, rfl⟩
 ·rw [List.concat_eq_append] at *
  have h2 : (t ++ [c]).length = t.length + 1 := by simp
  have h0 : (t ++ [c])[t.length]? = some c := by simp
  have h1 : (t ++ [c]).take t.length = t := by simp
  have h4 : ((t.length + 1 : Nat) : Int) - 1 = t.length := by omega
  rw [rtrim_snoc] at hp
  rw [h2] at hl
  have F := F4 F h0 h1 h4
  refine cq F (fun hc => ?_) (fun hc => ?_) <;> (try exact hc.elim) <;> (refine wk F ?_)
  ·try refine sq F ?_
   refine kq F (contains_sat G c h) ?_
   refine cq F (fun hb => ?_) (fun hb => ?_) <;> (try exact hb.elim) <;> (refine wk F ?_)
   ·rw [if_neg (by simp [hb])] at hp
    refine ee hQ F ?_
    rw [← hp]
    exact Fin.frzS (.clo _ (.str _)) ⟨rfl, rfl⟩
   ·rw [if_pos hb] at hp
    try refine sq F ?_
    refine wk F ?_
    refine hK2 _ _ _ (Wkn.refl ⟨t, rfl, hpE, ?_, by omega, hp⟩) (by omega)
    all_goals first | exact zq F | rfl | omega | trivial | skip
  ·exfalso; omega
theorem ltrim_nil : ∀ s : Bs, ltrim s = [] ↔ s.all blankB = true
 | [] => by simp [ltrim]
 | c :: t => by
  have := ltrim_nil t
  unfold ltrim at *
  rw [List.dropWhile_cons]
  by_cases hb : blankB c = true
  ·rw [if_pos hb]; simp [this, hb]
  ·rw [if_neg hb]; simp [hb]
theorem rtrim_all (s : Bs) : (rtrim s).all blankB = s.all blankB := by
 have hs : s = rtrim s ++ (s.reverse.takeWhile blankB).reverse := by
  unfold rtrim
  rw [← List.reverse_append, List.takeWhile_append_dropWhile, List.reverse_reverse]
 conv => rhs; rw [hs]
 rw [List.all_append]
 have : (s.reverse.takeWhile blankB).reverse.all blankB = true := by
  rw [List.all_reverse]
  exact List.all_takeWhile
 rw [this, Bool.and_true]
theorem trims_nil (s : Bs) : ltrim (rtrim s) = [] ↔ s.all blankB = true := by rw [ltrim_nil, rtrim_all]
theorem Trim_sat (hG : GOk G) (hC : GClo (CT G)) (s : Bs) (hs : s.length ≤ 1073741824) (h : Heap) : Sat (CT G) 134 [.str s, .str blk4] h (fun r h' => ∃ x, r = .str x ∧ (x = [] ↔ s.all blankB = true) ∧ h' = h) := by
 have b1 : (blk4 == ([] : Bs)) = false := rfl
 have b2 : (blk4.length : Int) = 4 := rfl
 have hr : (rtrim s).length ≤ s.length := by
  unfold rtrim
  have := drop_len blankB s.reverse
  simp at this ⊢; exact this
 have hs0 : ∀ (j : Heap), h ++ [.row 157 256 0 [.agg setL]] ++ j = h ++ [setR] ++ j := fun j => rfl
 have F := F3 b1 b2 @setL_len
 refine sb [.tmp 4] (fn := Tryz.f134) Tryz.func134 ?_
 intro Q hQ
 refine wk F ?_
 (first | refine gq F (fun g1 => ?_) (fun g1 => ?_) | refine pq F (fun g1 => ?_) (fun g1 => ?_)) <;> (try exact g1.elim) <;> (try refine sq F ?_) <;> (refine wk F ?_)
 ·refine ee hQ F ?_
  exact Fin.frzS (.clo _ (.str _)) ⟨s, rfl, by rw [show s = [] from by simpa using g1]; simp, rfl⟩
 ·refine kq F (make_sat G hG hC _) ?_
  refine kq F (trimRight_sat G s hs _) ?_
  refine kq F (trimLeft_sat G (rtrim s) (by omega) _) ?_
  refine ee hQ F ?_
  exact Fin.plainE (j := [setR]) rfl (.str _) ⟨_, rfl, trims_nil s, rfl⟩
end Go.Av
namespace Go.Av
open Go Go.Proofs Go.RowKit
attribute [local irreducible] WP WPl WPix Sat
set_option maxRecDepth 100000
set_option maxHeartbeats 1000000
variable (G : Nat → Option (List AVal))
variable {H : Heap} {n0 pb po vo pd vd : Nat} {room : Bool} {os : List OE} {ds : List Elem}
theorem stepB_txt (os ds : List Elem) (k : Int) (n : Bs) (a : List At) (x : Bs) (hk : k = 3) : stepB os ds (k, n, a, x) = match os.getLast? with
  | none => if x.all blankB = true then some ([], ds) else none
  | some e => some (os.dropLast ++ [⟨e.name, e.attrs, e.text ++ x, e.kids⟩], ds) := by
 subst hk; rfl
theorem BH.text {l : List OE} {o : OE} (g : BH H n0 pb po vo room (l ++ [o]) pd vd ds) (x : Bs) :
  BH (H.set po (.row 26 4 vo ((l ++ [{ o with t := x }]).map OE.av))) n0 pb po vo room (l ++ [{ o with t := x }]) pd vd ds := by
 have hb := g.b
 have at_ : ∀ (i : Nat) (p : OE), (l ++ [{ o with t := x }])[i]? = some p → ∃ p', (l ++ [o])[i]? = some p' ∧ p.q = p'.q ∧ p.v = p'.v ∧ p.k = p'.k := by
  intro i p hi
  rcases getElem?_snoc hi with h1 | ⟨h1, rfl⟩
  ·exact ⟨p, by rw [List.getElem?_append_left (List.getElem?_eq_some_iff.1 h1).1]; exact h1, rfl, rfl, rfl⟩
  ·exact ⟨o, by rw [h1]; simp, rfl, rfl, rfl⟩
 refine ⟨?_, ?_, ?_, fun i p hi => ?_, g.od, fun i p hi => ?_, fun i j p p' hi hj hij => ?_, g.n⟩
 ·rw [gs_ne _ _ g.bo.symm, hb]; simp
 ·rw [gs_eq _ _ _ _ _ (gr_lt g.o)]; simp
 ·rw [gs_ne _ _ g.od]; exact g.d
 ·obtain ⟨p', h1, h2, h3, h4⟩ := at_ i p hi
  have := g.ko i p' h1
  rw [h2, h3, h4, gs_ne _ _ this.1.symm]; exact g.k i p' h1
 ·obtain ⟨p', h1, h2, h3, h4⟩ := at_ i p hi
  rw [h2]; exact g.ko i p' h1
 ·obtain ⟨p1, h1, h2, _⟩ := at_ i p hi
  obtain ⟨p2, h3, h4, _⟩ := at_ j p' hj
  rw [h2, h4]; exact g.kk i j p1 p2 h1 h3 hij
theorem btext_sat (hG : GOk G) (hC : GClo (CT G)) (x : Bs) (hx : x.length ≤ 1073741824) (g : BH H n0 pb po vo room os pd vd ds) (hos : os.length ≤ 1000) (ht : ∀ o ∈ os, o.t.length + x.length ≤ 140737488355328) :
  Sat (CT G) 108 [.hp pb 0 0 0, .str x] H (BPost n0 pb H (os.map OE.el) ds (stepB (os.map OE.el) ds (3, [], [], x))) := by
 have hb := g.b
 have ho := g.o
 have hlo := gr_lt ho
 have hn := g.n
 rw [stepB_txt _ _ _ _ _ _ rfl]
 have F := F2 hb ho
 refine sb [.tmp 4] (fn := Tryz.f108) Tryz.func108 ?_
 intro Q hQ
 refine wk F ?_
 rcases List.eq_nil_or_concat os with rfl | ⟨l, o, rfl⟩
 ·refine cq F (fun hc => ?_) (fun hc => ?_) <;> (try exact hc.elim) <;> (refine wk F ?_)
  ·refine (Trim_sat G hG hC x hx _).mono ?_
   rintro r h' ⟨y, rfl, hy, rfl⟩
   try refine sq F ?_
   refine wk F ?_
   refine ee hQ F ?_
   have e : ∀ b : Bool, b = x.all blankB → BPost n0 pb h' ([].map OE.el) ds (if x.all blankB = true then some ([], ds) else none) (.bool b) h' := fun b hb => by
    refine ⟨⟨fun _ _ => rfl, Nat.le_refl _⟩, ?_⟩
    cases hq : x.all blankB with
    | true => rw [if_pos rfl]; exact ⟨by rw [hb, hq], po, vo, room, [], pd, vd, g, rfl⟩
    | false => rw [if_neg (by simp)]; show _ = _; rw [hb, hq]
   refine Fin.same (.bool _) (e _ ?_)
   cases hq : x.all blankB with
   | true => rw [hy.2 hq]; rfl
   | false =>
    have : y ≠ [] := fun e => by rw [hy.1 e] at hq; cases hq
    simpa using this
  ·exact absurd trivial hc
 ·rw [List.concat_eq_append] at *
  have e1 : ((l.length + 1 : Nat) : Int) - 1 = l.length := by omega
  have e2 : (l ++ [o])[l.length]? = some o := by simp
  have e3 : l.length < l.length + 1 := by omega
  have e4 := ht o (by simp)
  have hbt := g.text (o.t ++ x)
  have e5 : (l.map OE.av ++ [o.av]).set l.length (.agg [.str o.n, .sl 2 (o.a.map At.av), .str (o.t ++ x), .hs o.q o.v 0 o.k.length true]) = (l ++ [{ o with t := o.t ++ x }]).map OE.av := by
   simp [OE.av]
  have F := F4 F e1 e2 e3
  refine cq F (fun hc => ?_) (fun hc => ?_) <;> (try exact hc.elim) <;> (refine wk F ?_)
  ·exfalso; omega
  ·try refine sq F ?_
   refine wk F ?_
   refine ee hQ F ?_
   have key := Fin.whole (h0 := H) (R := BPost n0 pb H ((l ++ [o]).map OE.el) ds (some (((l ++ [o]).map OE.el).dropLast ++ [⟨o.n, o.a, o.t ++ x, o.k⟩], ds))) (h1 := H.set po (.row 26 4 vo ((l ++ [{ o with t := o.t ++ x }]).map OE.av))) (r := .bool true) (by simp) (.bool _)
    ⟨⟨fun p hp => List.getElem?_set_ne (by omega), by simp⟩, rfl, po, vo, room, _, pd, vd, hbt, by simp [OE.el]⟩
   simp only [List.map_append, List.map_cons, List.map_nil, List.getLast?_append, List.getLast?_singleton, Option.some_or] at key ⊢
   rw [e5, List.map_append, List.map_cons, List.map_nil]
   exact key
end Go.Av
namespace Go.Av
open Go Go.Proofs Go.RowKit
attribute [local irreducible] WP WPl WPix Sat
set_option maxRecDepth 100000
set_option maxHeartbeats 1000000
variable (G : Nat → Option (List AVal))
theorem frz_atsA {h0 h1 pre post : Heap} {e v q : Nat} (l : List At) (hh : h1 = pre ++ .row e 2 v (l.map At.av) :: post) (hq : q = pre.length) (hp : h0.length ≤ q) : Frz h1 h0.length (.hs q v 0 l.length true) (.sl 2 (l.map At.av)) := by
 have := frz_rows (h0 := h0) hh hq hp (fun r hr => by obtain ⟨a, _, rfl⟩ := List.mem_map.1 hr; exact At.clo _ a) (fun r hr => by obtain ⟨a, _, rfl⟩ := List.mem_map.1 hr; exact At.cells_sto a)
 simpa using this
theorem CloneA_sat (l : List At) (hl : l.length ≤ 1048576) (h : Heap) : Sat (CT G) 64 [.sl 2 (l.map At.av)] h (fun r h' => r = .sl 2 (l.map At.av) ∧ h' = h) := by
 rcases l with _ | ⟨a, l⟩
 ·refine sb [.tmp 2] (fn := Tryz.f64) Tryz.func64 ?_
  intro Q hQ
  refine wk trivial ?_
  refine binK_empty _ (by exact zq trivial) (.inl rfl) fun b => ?_
  cases b
  ·try refine sq trivial ?_
   refine wk trivial ?_
   refine appK_ez (.inl rfl) (by simp (disch := first | omega | (simp only [go_sem, ↓reduceIte, seval]; first | done | omega) | fail) only [go_sem, ↓reduceIte, seval]; rfl) (by simp (disch := first | omega | (simp only [go_sem, ↓reduceIte, seval]; first | done | omega) | fail) only [go_sem, ↓reduceIte, seval]; rfl) (by simp (disch := first | omega | (simp only [go_sem, ↓reduceIte, seval]; first | done | omega) | fail) only [go_sem, ↓reduceIte, seval]; rfl) (by simp (disch := first | omega | (simp only [go_sem, ↓reduceIte, seval]; first | done | omega) | fail) only [go_sem, ↓reduceIte, seval]; try rfl) (by omega) (by simp only [elemsOf, ↓reduceIte]; try rfl) (by simp) (fun _ => ?_) (fun h => absurd rfl h)
   try refine sq trivial ?_
   refine wk trivial ?_
   refine ee hQ trivial ?_
   exact Fin.frzS (.ezs _) ⟨rfl, rfl⟩
  ·try refine sq trivial ?_
   refine wk trivial ?_
   refine ee hQ trivial ?_
   exact Fin.frzS (.nils _) ⟨rfl, rfl⟩
 ·have hr : (List.map At.av (a :: l)) ≠ [] := by simp
  refine sb [.tmp 2] (fn := Tryz.f64) Tryz.func64 ?_
  intro Q hQ
  refine wk trivial ?_
  refine appK_ez (.inl rfl) (by simp (disch := first | omega | (simp only [go_sem, ↓reduceIte, seval]; first | done | omega) | fail) only [go_sem, ↓reduceIte, seval]; rfl) (by simp (disch := first | omega | (simp only [go_sem, ↓reduceIte, seval]; first | done | omega) | fail) only [go_sem, ↓reduceIte, seval]; rfl) (by simp (disch := first | omega | (simp only [go_sem, ↓reduceIte, seval]; first | done | omega) | fail) only [go_sem, ↓reduceIte, seval]; rfl) (by simp (disch := first | omega | (simp only [go_sem, ↓reduceIte, seval]; first | done | omega) | fail) only [go_sem, ↓reduceIte, seval]; try rfl) (by omega) (by simp only [elemsOf, ↓reduceIte]; try rfl) ?_ (fun h => by simp at h) (fun _ => ?_)
  ·simp [maxLen] at hl ⊢; omega
  try refine sq trivial ?_
  refine wk trivial ?_
  refine ee hQ trivial ?_
  have := frz_atsA (h0 := h) (h1 := h ++ [.row 67 2 0 ((a :: l).map At.av)]) (e := 67) (v := 0) (a :: l) rfl rfl (Nat.le_refl _)
  simp only [List.length_cons, List.map_cons] at this
  exact Fin.frz (by simpa using this) ⟨rfl, rfl⟩
end Go.Av
namespace Go.Av
open Go Go.Proofs Go.RowKit
attribute [local irreducible] WP WPl WPix Sat
set_option maxRecDepth 100000
set_option maxHeartbeats 1000000
variable (G : Nat → Option (List AVal))
variable {H : Heap} {n0 pb po vo pd vd : Nat} {room : Bool} {os : List OE} {ds : List Elem}
structure BR (H : Heap) (n0 pb po vo : Nat) (os : List OE) (n : Bs) (a : List At) (pd vd : Nat) (ds : List Elem) : Prop where
 b : getRow H pb 0 = some (106, 2, [.agg [.hs po vo 0 (os.length + 1) true, .hs pd vd 0 ds.length true]])
 o : getRow H po vo = some (26, 4, os.map OE.av ++ [.agg [.str n, .sl 2 (a.map At.av), .str [], .nil (.slice none 0 0)]])
 d : getRow H pd vd = some (26, 4, ds.map Elem.av)
 k : ∀ (i : Nat) (o : OE), os[i]? = some o → getRow H o.q o.v = some (26, 4, o.k.map Elem.av)
 od : po ≠ pd
 ko : ∀ (i : Nat) (o : OE), os[i]? = some o → o.q ≠ po ∧ o.q ≠ pd ∧ n0 ≤ o.q
 kk : ∀ (i j : Nat) (o o' : OE), os[i]? = some o → os[j]? = some o' → i ≠ j → o.q ≠ o'.q
 n : n0 ≤ pb ∧ n0 ≤ po ∧ n0 ≤ pd
theorem BR.weak {C : Ctx} {n : Bs} {a : List At} (g : BR H n0 pb po vo os n a pd vd ds) :
  ∃ H', (∀ (ms : List Nat) (t : Env), Weak C ms t H t H') ∧ (FrN n0 H H' ∧ H.length ≤ H'.length) ∧ BH H' n0 pb po vo true (os ++ [⟨n, a, [], [], H.length, 0⟩]) pd vd ds := by
 have hlo := gr_lt g.o
 have hpo : pb ≠ po := row_ne g.b g.o (by decide)
 have hlb := gr_lt g.b
 have hld := gr_lt g.d
 refine ⟨_, fun ms t => Weak.virtRows (p := po) (v := vo) (rows' := os.map OE.av ++ [OE.av ⟨n, a, [], [], H.length, 0⟩]) 26 4 (by omega) g.o (by simp) fun i r' hi => ?_, ⟨fun p hp => ?_, by simp⟩, ?_⟩
 ·rcases getElem?_snoc hi with h1 | ⟨h1, rfl⟩
  ·have hlt := (List.getElem?_eq_some_iff.1 h1).1
   exact ⟨r', by rw [List.getElem?_append_left hlt]; exact h1, rfl, fun q c hc => .inl hc⟩
  ·refine ⟨.agg [.str n, .sl 2 (a.map At.av), .str [], .nil (.slice none 0 0)], by rw [h1]; simp, rfl, fun q c hc => ?_⟩
   match q with
   | 0 => exact .inl hc
   | 1 => exact .inl hc
   | 2 => exact .inl hc
   | 3 => simp [OE.av, AVal.cells] at hc; exact .inr ⟨hc.symm, rfl⟩
   | q + 4 => simp [OE.av, AVal.cells] at hc
 ·have := g.n
  rw [List.getElem?_append_left (by simp; omega), List.getElem?_set_ne (by omega)]
 ·have gold : ∀ {q v : Nat} {x : TypeId × Nat × List AVal}, getRow H q v = some x → po ≠ q → getRow (H.set po (.row 26 4 vo (os.map OE.av ++ [OE.av ⟨n, a, [], [], H.length, 0⟩])) ++ [.row 26 4 0 []]) q v = some x := fun {q v x} h1 h2 => by
   rw [gs_old _ (by simpa using gr_lt h1), gs_ne _ _ h2]; exact h1
  have at_ : ∀ (i : Nat) (p : OE), (os ++ [(⟨n, a, [], [], H.length, 0⟩ : OE)])[i]? = some p → (os[i]? = some p) ∨ (i = os.length ∧ p = ⟨n, a, [], [], H.length, 0⟩) := fun i p hi => getElem?_snoc hi |>.imp id fun ⟨h1, h2⟩ => ⟨h1, h2⟩
  refine ⟨?_, ?_, gold g.d g.od, fun i p hi => ?_, g.od, fun i p hi => ?_, fun i j p p' hi hj hij => ?_, g.n⟩
  ·rw [gold g.b hpo.symm]; simp
  ·rw [gs_old _ (by simpa using hlo), gs_eq _ _ _ _ _ hlo]; simp
  ·rcases at_ i p hi with h1 | ⟨_, rfl⟩
   ·exact gold (g.k i p h1) (g.ko i p h1).1.symm
   ·show getRow _ H.length 0 = _
    rw [gs_new0 _ (by simp)]; rfl
  ·rcases at_ i p hi with h1 | ⟨_, rfl⟩
   ·exact g.ko i p h1
   ·have := g.n; exact ⟨by show H.length ≠ _; omega, by show H.length ≠ _; omega, by show _ ≤ H.length; omega⟩
  ·rcases at_ i p hi with h1 | ⟨h1, rfl⟩ <;> rcases at_ j p' hj with h2 | ⟨h2, rfl⟩
   ·exact g.kk i j p p' h1 h2 hij
   ·have := gr_lt (g.k i p h1); show p.q ≠ H.length; omega
   ·have := gr_lt (g.k j p' h2); show H.length ≠ p'.q; omega
   ·omega
theorem add1_sat (nm : Bs) (at_ : List At) (tx : Bs) (hat : at_.length ≤ 1048576) (g : BH H n0 pb po vo room os pd vd ds) (hos : os.length ≤ 1000) (hds : ds.length ≤ 1048576) :
  Sat (CT G) 80 [.hp pb 0 0 0, Tok.av (1, nm, at_, tx)] H (fun r H' => (FrN n0 H H' ∧ H.length ≤ H'.length) ∧ r = .bool (decide (os.length ≤ 31) && decide (ds.length = 0)) ∧ ∃ po' vo', BR H' n0 pb po' vo' os nm at_ pd vd ds) := by
 have hb := g.b
 have ho := g.o
 have hd := g.d
 have hlo := gr_lt ho
 have hlb := gr_lt hb
 have hld := gr_lt hd
 have hbo := g.bo
 have hbd := g.bd
 have hod := g.od
 have hn := g.n
 have F := F4 hb ho hd @heapF
 refine sb [.tmp 4] (fn := Tryz.f80) Tryz.func80 ?_
 intro Q hQ
 (repeat (first | refine w1 (fun K hK => ?_) | refine w2 ?_ | refine w3 ?_ | ((first | refine w4 ?_ | refine wD ?_ | refine w5 ?_ | refine w6 ?_ | refine w7 ?_); try refine sq F ?_) | (refine w8 ?_; refine sq F ?_; refine w9 ?_) | (refine rq F ?_; try refine sq F ?_) | (refine vq F ?_; try refine sq F ?_) | ((first | refine hK _ _ (w0 ?_) | (clear hK K; refine hK _ _ (w0 ?_)) | (clear hK K; clear hK K; refine hK _ _ (w0 ?_))); clear hK K)))
 have tail : ∀ (t' : Env) (h' : Heap) (po' vo' : Nat), t' 0 = .hp pb 0 0 0 → FrN n0 H h' → H.length ≤ h'.length →
   getRow h' pb 0 = some (106, 2, [.agg [.hs po' vo' 0 (os.length + 1) true, .hs pd vd 0 ds.length true]]) →
   getRow h' po' vo' = some (26, 4, os.map OE.av ++ [.agg [.str nm, .sl 2 (at_.map At.av), .str [], .nil (.slice none 0 0)]]) → (po' = po ∨ H.length ≤ po') →
   (∀ q v x, getRow H q v = some x → q ≠ pb → q ≠ po → getRow h' q v = some x) → K t' h' := by
  intro t' h' po' vo' e0 hfr hlen hb' ho' hpo' hrest
  have hlt := gr_lt ho'
  have hbr : BR h' n0 pb po' vo' os nm at_ pd vd ds := by
   have hne : ∀ q, q < H.length → q ≠ po → q ≠ po' := fun q h1 h2 => by omega
   exact ⟨hb', ho', hrest _ _ _ hd hbd.symm hod.symm, fun i o hi => hrest _ _ _ (g.k i o hi) (g.bk i o hi).symm (g.ko i o hi).1, fun e => by omega,
    fun i o hi => ⟨hne _ (gr_lt (g.k i o hi)) (g.ko i o hi).1, (g.ko i o hi).2.1, (g.ko i o hi).2.2⟩, g.kk, ⟨hn.1, by omega, hn.2.2⟩⟩
  refine hK _ _ (Wkn.refl ?_)
  clear hK K
  have hd' := hbr.d
  have F := F5 F e0 hb' ho' hd'
  (repeat (first | refine w1 (fun K hK => ?_) | refine w2 ?_ | refine w3 ?_ | ((first | refine w4 ?_ | refine wD ?_ | refine w5 ?_ | refine w6 ?_ | refine w7 ?_); try refine sq F ?_) | (refine w8 ?_; refine sq F ?_; refine w9 ?_) | (refine rq F ?_; try refine sq F ?_) | (refine vq F ?_; try refine sq F ?_) | ((first | refine hK _ _ (w0 ?_) | (clear hK K; refine hK _ _ (w0 ?_)) | (clear hK K; clear hK K; refine hK _ _ (w0 ?_))); clear hK K)))
  have fin : ∀ b : Bool, b = (decide (os.length ≤ 31) && decide (ds.length = 0)) → Fin H h' (fun r H' => (FrN n0 H H' ∧ H.length ≤ H'.length) ∧ r = .bool (decide (os.length ≤ 31) && decide (ds.length = 0)) ∧ ∃ po' vo', BR H' n0 pb po' vo' os nm at_ pd vd ds) (.bool b) := fun b hb => by
   exact Fin.whole hlen (.bool _) ⟨⟨hfr, hlen⟩, by rw [hb], po', vo', hbr⟩
  (first | refine gq F (fun hg => ?_) (fun hg => ?_) | refine pq F (fun hg => ?_) (fun hg => ?_)) <;> (try exact hg.elim) <;> (try refine sq F ?_) <;> ((repeat (first | refine w1 (fun K hK => ?_) | refine w2 ?_ | refine w3 ?_ | ((first | refine w4 ?_ | refine wD ?_ | refine w5 ?_ | refine w6 ?_ | refine w7 ?_); try refine sq F ?_) | (refine w8 ?_; refine sq F ?_; refine w9 ?_) | (refine rq F ?_; try refine sq F ?_) | (refine vq F ?_; try refine sq F ?_) | ((first | refine hK _ _ (w0 ?_) | (clear hK K; refine hK _ _ (w0 ?_)) | (clear hK K; clear hK K; refine hK _ _ (w0 ?_))); clear hK K))))
  ·refine ee hQ F ?_
   refine fin _ ?_
   have e : decide (os.length ≤ 31) = true := by rw [decide_eq_true_iff]; omega
   rw [e, Bool.true_and, Bool.eq_iff_iff]; simp
  ·refine ee hQ F ?_
   refine fin _ ?_
   have e : decide (os.length ≤ 31) = false := by rw [decide_eq_false_iff_not]; omega
   rw [e, Bool.false_and]
 have hlt1 : os.length < os.length + 1 := by omega
 have hg1 : ∀ x : AVal, (os.map OE.av ++ [x])[os.length]? = some x := fun x => by simp
 have hs1 : ∀ x y : AVal, (os.map OE.av ++ [x]).set os.length y = os.map OE.av ++ [y] := fun x y => by simp
 cases room with
 | true =>
  have F := F4 F hlt1 hg1 hs1
  refine WP_draw6 12 (.one 12 (.two 13 (.two 14 (.one 15 (.one 16 (.one 17 .nil))) 15 (.two 14 (.one 16 (.one 17 .nil)) 16 (.two 14 (.one 17 .nil) 17 (.one 14 .nil)))) 15 (.two 13 (.two 14 (.one 16 (.one 17 .nil)) 16 (.two 14 (.one 17 .nil) 17 (.one 14 .nil))) 16 (.two 13 (.two 14 (.one 17 .nil) 17 (.one 14 .nil)) 17 (.one 13 (.one 14 .nil)))))) (by decide +kernel) (by kernel_rfl) (by decide +kernel) ?_
  simp only [List.take_succ_cons, List.take_zero]
  try refine sq F ?_
  repeat' (first | refine WPt_nil ?_ | (refine WPt_one rfl ?_; refine sq F ?_) | (refine WPt_two rfl rfl ?_ ?_ <;> refine sq F ?_))
  refine ⟨_, CloneA_sat G at_ hat _, ?_⟩
  try refine sq F ?_
  refine vq F ?_; try refine sq F ?_
  repeat' (first | refine WPt_nil ?_ | (refine WPt_one rfl ?_; refine sq F ?_) | (refine WPt_two rfl rfl ?_ ?_ <;> refine sq F ?_))
  refine aq F ?_
  try refine sq F ?_
  (repeat (first | refine w1 (fun K hK => ?_) | refine w2 ?_ | refine w3 ?_ | ((first | refine w4 ?_ | refine wD ?_ | refine w5 ?_ | refine w6 ?_ | refine w7 ?_); try refine sq F ?_) | (refine w8 ?_; refine sq F ?_; refine w9 ?_) | (refine rq F ?_; try refine sq F ?_) | (refine vq F ?_; try refine sq F ?_)))
  repeat' (first | refine WPt_nil ?_ | (refine WPt_one rfl ?_; refine sq F ?_) | (refine WPt_two rfl rfl ?_ ?_ <;> refine sq F ?_))
  all_goals (
   show K _ _
   refine tail _ _ po (vo + 1) ?_ ?_ ?_ ?_ ?_ (.inl rfl) ?_
   ·exact zq F
   ·repeat (first | exact FrN.refl _ _ | refine FrN.set _ (by omega) ?_ | refine FrN.app _ (by simp; omega) ?_)
   ·simp
   ·exact zq F
   ·exact zq F
   ·intro q v x h1 h2 h3
    have h4 := gr_lt h1
    have h2' := h2.symm
    have h3' := h3.symm
    simp (disch := first | omega | (simp only [go_sem, ↓reduceIte, seval]; first | done | omega) | fail) only [go_sem, ↓reduceIte, seval, F, h1])
 | false =>
  have F := F4 F hlt1 hg1 hs1
  refine WP_draw6 12 (.one 12 (.two 13 (.two 14 (.one 15 (.one 16 (.one 17 .nil))) 15 (.two 14 (.one 16 (.one 17 .nil)) 16 (.two 14 (.one 17 .nil) 17 (.one 14 .nil)))) 15 (.two 13 (.two 14 (.one 16 (.one 17 .nil)) 16 (.two 14 (.one 17 .nil) 17 (.one 14 .nil))) 16 (.two 13 (.two 14 (.one 17 .nil) 17 (.one 14 .nil)) 17 (.one 13 (.one 14 .nil)))))) (by decide +kernel) (by kernel_rfl) (by decide +kernel) ?_
  simp only [List.take_succ_cons, List.take_zero]
  try refine sq F ?_
  repeat' (first | refine WPt_nil ?_ | (refine WPt_one rfl ?_; refine sq F ?_) | (refine WPt_two rfl rfl ?_ ?_ <;> refine sq F ?_))
  refine ⟨_, CloneA_sat G at_ hat _, ?_⟩
  try refine sq F ?_
  refine vq F ?_; try refine sq F ?_
  repeat' (first | refine WPt_nil ?_ | (refine WPt_one rfl ?_; refine sq F ?_) | (refine WPt_two rfl rfl ?_ ?_ <;> refine sq F ?_))
  refine appK_cut (.inl rfl) (by simp only [go_sem]; rfl) (by simp only [go_sem]; rfl) (by simp only [go_sem]; rfl) (by simp only [go_sem]; try rfl) (by omega) (by simp only [elemsOf, ↓reduceIte]; rfl) (by simp (disch := first | omega | (simp only [go_sem, ↓reduceIte, seval]; first | done | omega) | fail) only [go_sem, ↓reduceIte, seval, F]; rfl) (by simp) (by simp) ?_ ?_
  ·refine ⟨?_, ?_⟩ <;> simp only [maxLen, List.length_map, List.length_cons, List.length_nil] <;> omega
  rw [List.take_of_length_le (by simp)]
  try refine sq F ?_
  repeat' (first | refine WPt_nil ?_ | (refine WPt_one rfl ?_; refine sq F ?_) | (refine WPt_two rfl rfl ?_ ?_ <;> refine sq F ?_))
  all_goals (
   show K _ _
   refine tail _ _ (H.length + 1) 0 ?_ ?_ ?_ ?_ ?_ (.inr (by omega)) ?_
   ·exact zq F
   ·repeat (first | exact FrN.refl _ _ | refine FrN.set _ (by omega) ?_ | refine FrN.app _ (by simp; omega) ?_)
   ·simp
   ·exact zq F
   ·exact zq F
   ·intro q v x h1 h2 h3
    have h4 := gr_lt h1
    have h2' := h2.symm
    have h3' := h3.symm
    simp (disch := first | omega | (simp only [go_sem, ↓reduceIte, seval]; first | done | omega) | fail) only [go_sem, ↓reduceIte, seval, F, h1])
end Go.Av
namespace Go.Av
open Go Go.Proofs Go.RowKit
attribute [local irreducible] WP WPl WPix Sat
set_option maxRecDepth 100000
set_option maxHeartbeats 1000000
variable {H : Heap} {n0 pb po vo pd vd : Nat} {ds : List Elem}
theorem OE.fz {K : Heap} {e : TypeId} (o : OE) (hk : getRow K o.q o.v = some (e, 4, o.k.map Elem.av)) : o.av.cells.length = o.el.av.cells.length ∧ ∀ (j : Nat) (c d : AVal), o.av.cells[j]? = some c → o.el.av.cells[j]? = some d → Fz K o.q o.v c d ∧ d.sto = true := by
 rw [Elem.av_cells]
 refine ⟨rfl, fun j c d hc hd => ?_⟩
 match j with
 | 0 => simp [OE.av, AVal.cells, OE.el, Elem.name] at hc hd; subst hc; subst hd; exact ⟨.same _, rfl⟩
 | 1 => simp [OE.av, AVal.cells, OE.el, Elem.attrs] at hc hd; subst hc; subst hd; exact ⟨.same _, rfl⟩
 | 2 => simp [OE.av, AVal.cells, OE.el, Elem.text] at hc hd; subst hc; subst hd; exact ⟨.same _, rfl⟩
 | 3 => simp [OE.av, AVal.cells, OE.el, Elem.kids] at hc hd; subst hc; subst hd; exact ⟨Fz.all _ _ _ hk rfl (by simp), rfl⟩
 | j + 4 => simp [OE.av, AVal.cells] at hc
theorem rows_fz {K : Heap} {e : TypeId} (o : OE) (hk : getRow K o.q o.v = some (e, 4, o.k.map Elem.av)) (ks : List Elem) : ∀ (i : Nat) (x y : AVal), (ks.map Elem.av ++ [o.av])[i]? = some x → ((ks ++ [o.el]).map Elem.av)[i]? = some y →
  x.cells.length = y.cells.length ∧ ∀ (j : Nat) (c d : AVal), x.cells[j]? = some c → y.cells[j]? = some d → Fz K o.q o.v c d ∧ d.sto = true := by
 intro i x y hx hy
 rw [List.map_append] at hy
 rcases getElem?_snoc hx with h1 | ⟨h1, rfl⟩
 ·rw [List.getElem?_append_left (List.getElem?_eq_some_iff.1 h1).1, h1] at hy
  cases hy
  obtain ⟨a, _, rfl⟩ := List.mem_map.1 (List.mem_of_getElem? h1)
  exact ⟨rfl, fun j c d hc hd => by rw [hc] at hd; cases hd; exact ⟨.same _, a.av_sto _ (List.mem_of_getElem? hc)⟩⟩
 ·subst h1
  simp at hy; subst hy
  exact o.fz hk
theorem close_weak0 {C : Ctx} {K : Heap} {o : OE} (hb : getRow K pb 0 = some (106, 2, [.agg [.hs po vo 0 0 false, .hs pd vd 0 (ds.length + 1) true]]))
  (ho : getRow K po vo = some (26, 4, [o.av])) (hd : getRow K pd vd = some (26, 4, ds.map Elem.av ++ [o.av]))
  (hk : getRow K o.q o.v = some (26, 4, o.k.map Elem.av)) (od : po ≠ pd) (ko : o.q ≠ po ∧ o.q ≠ pd ∧ n0 ≤ o.q) (hn : n0 ≤ pb ∧ n0 ≤ po ∧ n0 ≤ pd) :
  ∃ K', (∀ (ms : List Nat) (t : Env), Weak C ms t K t K') ∧ (FrN n0 K K' ∧ K.length ≤ K'.length) ∧ BH K' n0 pb po vo false [] pd vd (ds ++ [o.el]) := by
 have hlo := gr_lt ho; have hlb := gr_lt hb; have hld := gr_lt hd; have hlk := gr_lt hk
 have hbo : pb ≠ po := row_ne hb ho (by decide)
 have hbd : pb ≠ pd := row_ne hb hd (by decide)
 have hbk : pb ≠ o.q := row_ne hb hk (by decide)
 have w1 := fun (ms : List Nat) (t : Env) => Weak.fzIn (C := C) (ms := ms) (t := t) (t1 := t) o.q o.v pd vd ((ds ++ [o.el]).map Elem.av) hk ko.2.1 hd (by simp) (rows_fz o hk ds) (fun _ => .inl rfl)
 have g2 : getRow ((K.set o.q .dead).set pd (.row 26 4 vd ((ds ++ [o.el]).map Elem.av))) po vo = some (26, 4, [o.av]) := by
  rw [gs_ne _ _ od.symm, gs_ne _ _ ko.1]; exact ho
 have w2 := fun (ms : List Nat) (t : Env) => Weak.rowTake (C := C) (ms := ms) (t := t) po vo 0 g2
 refine ⟨_, fun ms t => (w1 ms t).trans (w2 ms t), ⟨FrN.set _ hn.2.1 (FrN.set _ hn.2.2 (FrN.set _ ko.2.2 (FrN.refl _ _))), by simp⟩, ⟨?_, ?_, ?_, fun i p hi => by simp at hi, od, fun i p hi => by simp at hi, fun i j p p' hi => by simp at hi, hn⟩⟩
 ·rw [gs_ne _ _ hbo.symm, gs_ne _ _ hbd.symm, gs_ne _ _ hbk.symm, hb]; simp
 ·rw [gs_eq _ _ _ _ _ (by simpa using hlo)]; simp
 ·rw [gs_ne _ _ od, gs_eq _ _ _ _ _ (by simpa using hld)]; simp
theorem close_weak1 {C : Ctx} {K : Heap} {l : List OE} {p o : OE} (hb : getRow K pb 0 = some (106, 2, [.agg [.hs po vo 0 (l.length + 1) false, .hs pd vd 0 ds.length true]]))
  (ho : getRow K po vo = some (26, 4, l.map OE.av ++ [.agg [.str p.n, .sl 2 (p.a.map At.av), .str p.t, .hs p.q (p.v + 1) 0 (p.k.length + 1) true], o.av]))
  (hd : getRow K pd vd = some (26, 4, ds.map Elem.av))
  (hk : getRow K o.q o.v = some (26, 4, o.k.map Elem.av)) (hp : getRow K p.q (p.v + 1) = some (26, 4, p.k.map Elem.av ++ [o.av]))
  (hl : ∀ (i : Nat) (x : OE), l[i]? = some x → getRow K x.q x.v = some (26, 4, x.k.map Elem.av) ∧ x.q ≠ po ∧ x.q ≠ pd ∧ n0 ≤ x.q ∧ x.q ≠ p.q ∧ x.q ≠ o.q)
  (kk : ∀ (i j : Nat) (x x' : OE), l[i]? = some x → l[j]? = some x' → i ≠ j → x.q ≠ x'.q)
  (od : po ≠ pd) (ko : o.q ≠ po ∧ o.q ≠ pd ∧ n0 ≤ o.q) (kp : p.q ≠ po ∧ p.q ≠ pd ∧ n0 ≤ p.q) (kop : o.q ≠ p.q) (hn : n0 ≤ pb ∧ n0 ≤ po ∧ n0 ≤ pd) :
  ∃ K', (∀ (ms : List Nat) (t : Env), Weak C ms t K t K') ∧ (FrN n0 K K' ∧ K.length ≤ K'.length) ∧ BH K' n0 pb po vo false (l ++ [⟨p.n, p.a, p.t, p.k ++ [o.el], p.q, p.v + 1⟩]) pd vd ds := by
 have hlo := gr_lt ho; have hlb := gr_lt hb; have hld := gr_lt hd; have hlk := gr_lt hk; have hlp := gr_lt hp
 have hbo : pb ≠ po := row_ne hb ho (by decide)
 have hbd : pb ≠ pd := row_ne hb hd (by decide)
 have hbk : pb ≠ o.q := row_ne hb hk (by decide)
 have hbp : pb ≠ p.q := row_ne hb hp (by decide)
 have w1 := fun (ms : List Nat) (t : Env) => Weak.fzIn (C := C) (ms := ms) (t := t) (t1 := t) o.q o.v p.q (p.v + 1) ((p.k ++ [o.el]).map Elem.av) hk kop hp (by simp) (rows_fz o hk p.k) (fun _ => .inl rfl)
 have g2 := (show getRow ((K.set o.q .dead).set p.q (.row 26 4 (p.v + 1) ((p.k ++ [o.el]).map Elem.av))) po vo = getRow K po vo by
  rw [gs_ne _ _ kp.1, gs_ne _ _ ko.1]).trans ho
 have w2 := fun (ms : List Nat) (t : Env) => Weak.rowTake (C := C) (ms := ms) (t := t) po vo (l.length + 1) g2
 have at_ : ∀ (i : Nat) (x : OE), (l ++ [(⟨p.n, p.a, p.t, p.k ++ [o.el], p.q, p.v + 1⟩ : OE)])[i]? = some x → (l[i]? = some x) ∨ (i = l.length ∧ x = ⟨p.n, p.a, p.t, p.k ++ [o.el], p.q, p.v + 1⟩) := fun i x hi => getElem?_snoc hi
 refine ⟨_, fun ms t => (w1 ms t).trans (w2 ms t), ⟨FrN.set _ hn.2.1 (FrN.set _ kp.2.2 (FrN.set _ ko.2.2 (FrN.refl _ _))), by simp⟩, ⟨?_, ?_, ?_, fun i x hi => ?_, od, fun i x hi => ?_, fun i j x x' hi hj hij => ?_, hn⟩⟩
 ·rw [gs_ne _ _ hbo.symm, gs_ne _ _ hbp.symm, gs_ne _ _ hbk.symm, hb]; simp
 ·rw [gs_eq _ _ _ _ _ (by simpa using hlo), if_pos rfl]
  have e : (l.map OE.av ++ [AVal.agg [.str p.n, .sl 2 (p.a.map At.av), .str p.t, .hs p.q (p.v + 1) 0 (p.k.length + 1) true], o.av]).take (l.length + 1) = (l ++ [(⟨p.n, p.a, p.t, p.k ++ [o.el], p.q, p.v + 1⟩ : OE)]).map OE.av := by
   rw [List.take_append, List.take_of_length_le (by simp)]
   simp [OE.av]
  rw [e]
 ·rw [gs_ne _ _ od, gs_ne _ _ kp.2.1, gs_ne _ _ ko.2.1]; exact hd
 ·rcases at_ i x hi with h1 | ⟨_, rfl⟩
  ·obtain ⟨k1, k2, k3, k4, k5, k6⟩ := hl i x h1
   rw [gs_ne _ _ k2.symm, gs_ne _ _ k5.symm, gs_ne _ _ k6.symm]; exact k1
  ·show getRow _ p.q (p.v + 1) = _
   rw [gs_ne _ _ kp.1.symm, gs_eq _ _ _ _ _ (by simpa using hlp)]; simp
 ·rcases at_ i x hi with h1 | ⟨_, rfl⟩
  ·obtain ⟨k1, k2, k3, k4, k5, k6⟩ := hl i x h1; exact ⟨k2, k3, k4⟩
  ·exact kp
 ·rcases at_ i x hi with h1 | ⟨h1, rfl⟩ <;> rcases at_ j x' hj with h2 | ⟨h2, rfl⟩
  ·exact kk i j x x' h1 h2 hij
  ·exact (hl i x h1).2.2.2.2.1
  ·exact (hl j x' h2).2.2.2.2.1.symm
  ·omega
end Go.Av
namespace Go.Av
open Go Go.Proofs Go.RowKit
attribute [local irreducible] WP WPl WPix Sat
set_option maxRecDepth 100000
set_option maxHeartbeats 1000000
variable (G : Nat → Option (List AVal))
variable {H : Heap} {n0 pb po vo pd vd : Nat} {room : Bool} {os : List OE} {ds : List Elem}
theorem stepB_cls0 (os ds : List Elem) (n : Bs) (h : os = [] ∨ ∃ l e, os = l ++ [e] ∧ e.name ≠ n) (a : List At) (x : Bs) : stepB os ds (2, n, a, x) = none := by
 rcases h with rfl | ⟨l, e, rfl, he⟩
 ·rfl
 ·simp [stepB, he]
theorem stepB_cls1 (ds : List Elem) (e : Elem) (a : List At) (x : Bs) : stepB [e] ds (2, e.name, a, x) = some ([], ds ++ [e]) := by simp [stepB]
theorem stepB_cls2 (l ds : List Elem) (p e : Elem) (a : List At) (x : Bs) : stepB (l ++ [p] ++ [e]) ds (2, e.name, a, x) = some (l ++ [⟨p.name, p.attrs, p.text, p.kids ++ [e]⟩], ds) := by
 simp [stepB]
theorem close0_sat (nm : Bs) (g : BH H n0 pb po vo room os pd vd ds) (hos : os.length ≤ 1000) (h : os = [] ∨ ∃ l o, os = l ++ [o] ∧ o.n ≠ nm) :
  Sat (CT G) 107 [.hp pb 0 0 0, .str nm] H (fun r H' => r = .bool false ∧ H' = H) := by
 have hb := g.b
 have ho := g.o
 have F := F2 hb ho
 refine sb [.tmp 4] (fn := Tryz.f107) Tryz.func107 ?_
 intro Q hQ
 refine wk F ?_
 rcases h with rfl | ⟨l, o, rfl, hne⟩
 ·(first | refine gq F (fun g1 => ?_) (fun g1 => ?_) | refine pq F (fun g1 => ?_) (fun g1 => ?_)) <;> (try exact g1.elim) <;> (try refine sq F ?_) <;> (refine wk F ?_)
  ·refine ee hQ F ?_
   exact Fin.same (.bool _) ⟨rfl, rfl⟩
  ·exact absurd trivial g1
 ·have e1 : ((l.length + 1 : Nat) : Int) - 1 = l.length := by omega
  have e2 : (l ++ [o])[l.length]? = some o := by simp
  have e3 : l.length < l.length + 1 := by omega
  have e4 : (o.n == nm) = false := by simpa using hne
  have F := F5 F e1 e2 e3 e4
  (first | refine gq F (fun g1 => ?_) (fun g1 => ?_) | refine pq F (fun g1 => ?_) (fun g1 => ?_)) <;> (try exact g1.elim) <;> (try refine sq F ?_) <;> (refine wk F ?_)
  ·exfalso; omega
  ·try refine sq F ?_
   refine wk F ?_
   refine ee hQ F ?_
   exact Fin.same (.bool _) ⟨rfl, rfl⟩
theorem close1_sat (o : OE) (g : BH H n0 pb po vo room [o] pd vd ds) (hds : ds.length ≤ 1048576) :
  Sat (CT G) 107 [.hp pb 0 0 0, .str o.n] H (BPost n0 pb H [o.el] ds (some ([], ds ++ [o.el]))) := by
 have hb := g.b
 have ho := g.o
 have hd := g.d
 have hk := g.k 0 o rfl
 have ko := g.ko 0 o rfl
 have hlo := gr_lt ho
 have hlb := gr_lt hb
 have hld := gr_lt hd
 have hlk := gr_lt hk
 have hbo := g.bo
 have hbd := g.bd
 have hbk := g.bk 0 o rfl
 have hod := g.od
 have hn := g.n
 refine Sat.postw (R := fun r H' => (FrN n0 H H' ∧ H.length ≤ H'.length) ∧ r = .bool true ∧ getRow H' pb 0 = some (106, 2, [.agg [.hs po vo 0 0 false, .hs pd (vd + 1) 0 (ds.length + 1) true]]) ∧
   getRow H' po vo = some (26, 4, [o.av]) ∧ getRow H' pd (vd + 1) = some (26, 4, ds.map Elem.av ++ [o.av]) ∧
   getRow H' o.q o.v = some (26, 4, o.k.map Elem.av)) ?_ (fun r h' ⟨a1, a2, a3, a4, a5, a6⟩ => by
    obtain ⟨K', w, f1, f2⟩ := close_weak0 (C := CT G) a3 a4 a5 a6 hod ko hn
    exact ⟨K', w [], ⟨a1.1.trans f1.1, Nat.le_trans a1.2 f1.2⟩, a2, po, vo, false, [], pd, vd + 1, f2, rfl⟩)
 have e1 : ((0 + 1 : Nat) : Int) - 1 = 0 := by omega
 have hbt : (o.n == o.n) = true := by simp
 have hsl : ∀ l, aslice Tryz.prog (H ++ l) 24 (.hs po vo 0 1 room) none (some (.int .i64 0)) (some (.int .i64 0)) = some (.hs po vo 0 0 false) := fun l =>
  aslice_hs3 (r := 0) (by simp only [go_sem]; rfl) (getRow_old ho) (by simp only [go_sem]) (by omega)
 have F := F8 hb ho hd (F3 (@bne_self_eq_false Int _ _) (@bne_self_eq_false Bool _ _) (@bne_self_eq_false Bs _ _)) hbt e1 hsl @heapF
 refine sb [.tmp 4] (fn := Tryz.f107) Tryz.func107 ?_
 intro Q hQ
 (repeat (first | refine w1 (fun K hK => ?_) | refine w2 ?_ | refine w3 ?_ | ((first | refine w4 ?_ | refine wD ?_ | refine w5 ?_ | refine w6 ?_ | refine w7 ?_); try refine sq F ?_) | (refine w8 ?_; refine sq F ?_; refine w9 ?_) | (refine rq F ?_; try refine sq F ?_) | (refine vq F ?_; try refine sq F ?_) | ((first | refine hK _ _ (w0 ?_) | (clear hK K; refine hK _ _ (w0 ?_)) | (clear hK K; clear hK K; refine hK _ _ (w0 ?_))); clear hK K)))
 (first | refine gq F (fun g1 => ?_) (fun g1 => ?_) | refine pq F (fun g1 => ?_) (fun g1 => ?_)) <;> (try exact g1.elim) <;> (try refine sq F ?_) <;> ((repeat (first | refine w1 (fun K hK => ?_) | refine w2 ?_ | refine w3 ?_ | ((first | refine w4 ?_ | refine wD ?_ | refine w5 ?_ | refine w6 ?_ | refine w7 ?_); try refine sq F ?_) | (refine w8 ?_; refine sq F ?_; refine w9 ?_) | (refine rq F ?_; try refine sq F ?_) | (refine vq F ?_; try refine sq F ?_) | ((first | refine hK _ _ (w0 ?_) | (clear hK K; refine hK _ _ (w0 ?_)) | (clear hK K; clear hK K; refine hK _ _ (w0 ?_))); clear hK K))))
 have tail : ∀ (t' : Env) (h' : Heap), FrN n0 H h' → H.length ≤ h'.length → getRow h' pb 0 = some (106, 2, [.agg [.hs po vo 0 0 false, .hs pd (vd + 1) 0 (ds.length + 1) true]]) →
   getRow h' po vo = some (26, 4, [o.av]) → getRow h' pd (vd + 1) = some (26, 4, ds.map Elem.av ++ [o.av]) →
   getRow h' o.q o.v = some (26, 4, o.k.map Elem.av) → K t' h' := by
  intro t' h' a1 a2 a4 a5 a6 a7
  refine hK _ _ (Wkn.refl ?_)
  clear hK K
  (repeat (first | refine w1 (fun K hK => ?_) | refine w2 ?_ | refine w3 ?_ | ((first | refine w4 ?_ | refine wD ?_ | refine w5 ?_ | refine w6 ?_ | refine w7 ?_); try refine sq F ?_) | (refine w8 ?_; refine sq F ?_; refine w9 ?_) | (refine rq F ?_; try refine sq F ?_) | (refine vq F ?_; try refine sq F ?_) | ((first | refine hK _ _ (w0 ?_) | (clear hK K; refine hK _ _ (w0 ?_)) | (clear hK K; clear hK K; refine hK _ _ (w0 ?_))); clear hK K)))
  refine ee hQ F ?_
  exact Fin.whole a2 (.bool _) ⟨⟨a1, a2⟩, rfl, a4, a5, a6, a7⟩
 have hlt1 : ds.length < ds.length + 1 := by omega
 have hg1 : ∀ x : AVal, (ds.map Elem.av ++ [x])[ds.length]? = some x := fun x => by simp
 have hs1 : ∀ x y : AVal, (ds.map Elem.av ++ [x]).set ds.length y = ds.map Elem.av ++ [y] := fun x y => by simp
 have F := F4 F hlt1 hg1 hs1
 refine WP_draw6 7 (.one 7 (.two 8 (.two 9 (.one 10 (.one 11 (.one 12 .nil))) 10 (.two 9 (.one 11 (.one 12 .nil)) 11 (.two 9 (.one 12 .nil) 12 (.one 9 .nil)))) 10 (.two 8 (.two 9 (.one 11 (.one 12 .nil)) 11 (.two 9 (.one 12 .nil) 12 (.one 9 .nil))) 11 (.two 8 (.two 9 (.one 12 .nil) 12 (.one 9 .nil)) 12 (.one 8 (.one 9 .nil)))))) (by decide +kernel) (by kernel_rfl) (by decide +kernel) ?_
 simp only [List.take_succ_cons, List.take_zero]
 try refine sq F ?_
 repeat' (first | refine WPt_nil ?_ | (refine WPt_one rfl ?_; refine sq F ?_) | (refine WPt_two rfl rfl ?_ ?_ <;> refine sq F ?_))
 refine vq F ?_; try refine sq F ?_
 repeat' (first | refine WPt_nil ?_ | (refine WPt_one rfl ?_; refine sq F ?_) | (refine WPt_two rfl rfl ?_ ?_ <;> refine sq F ?_))
 refine aq F ?_
 try refine sq F ?_
 (repeat (first | refine w1 (fun K hK => ?_) | refine w2 ?_ | refine w3 ?_ | ((first | refine w4 ?_ | refine wD ?_ | refine w5 ?_ | refine w6 ?_ | refine w7 ?_); try refine sq F ?_) | (refine w8 ?_; refine sq F ?_; refine w9 ?_) | (refine rq F ?_; try refine sq F ?_) | (refine vq F ?_; try refine sq F ?_)))
 repeat' (first | refine WPt_nil ?_ | (refine WPt_one rfl ?_; refine sq F ?_) | (refine WPt_two rfl rfl ?_ ?_ <;> refine sq F ?_))
 all_goals (
  show K _ _
  refine tail _ _ ?_ ?_ ?_ ?_ ?_ ?_
  ·repeat (first | exact FrN.refl _ _ | refine FrN.set _ (by omega) ?_ | refine FrN.app _ (by simp; omega) ?_)
  ·simp
  ·exact zq F
  ·exact zq F
  ·exact zq F
  ·simp (disch := first | omega | (simp only [go_sem, ↓reduceIte, seval]; first | done | omega) | fail) only [go_sem, ↓reduceIte, seval, F]
   exact hk)
end Go.Av
namespace Go.Av
open Go Go.Proofs Go.RowKit
attribute [local irreducible] WP WPl WPix Sat
set_option maxRecDepth 100000
set_option maxHeartbeats 1000000
variable (G : Nat → Option (List AVal))
variable {H : Heap} {n0 pb po vo pd vd : Nat} {room : Bool} {os : List OE} {ds : List Elem}
theorem close2_sat (l : List OE) (p o : OE) (hl : l.length ≤ 1000) (hpk : p.k.length ≤ 1048576) (g : BH H n0 pb po vo room (l ++ [p, o]) pd vd ds) :
  Sat (CT G) 107 [.hp pb 0 0 0, .str o.n] H (BPost n0 pb H ((l ++ [p, o]).map OE.el) ds (some ((l ++ [(⟨p.n, p.a, p.t, p.k ++ [o.el], p.q, p.v + 1⟩ : OE)]).map OE.el, ds))) := by
 have i0 : (l ++ [p, o])[l.length]? = some p := by simp
 have i1 : (l ++ [p, o])[l.length + 1]? = some o := by simp
 have il : ∀ (i : Nat) (x : OE), l[i]? = some x → (l ++ [p, o])[i]? = some x := fun i x h => by rw [List.getElem?_append_left (List.getElem?_eq_some_iff.1 h).1]; exact h
 have hb := g.b
 have ho := g.o
 have hd := g.d
 have hk := g.k _ o i1
 have ko := g.ko _ o i1
 have hp := g.k _ p i0
 have kp := g.ko _ p i0
 have kop := g.kk _ _ o p i1 i0 (by omega)
 have hlo := gr_lt ho
 have hlb := gr_lt hb
 have hld := gr_lt hd
 have hlk := gr_lt hk
 have hlp := gr_lt hp
 have hbo := g.bo
 have hbd := g.bd
 have hbk := g.bk _ o i1
 have hbp := g.bk _ p i0
 have hod := g.od
 have hn := g.n
 have hlen : (l ++ [p, o]).length = l.length + 2 := by simp
 rw [hlen] at hb
 refine Sat.postw (R := fun r H' => (FrN n0 H H' ∧ H.length ≤ H'.length) ∧ r = .bool true ∧ getRow H' pb 0 = some (106, 2, [.agg [.hs po vo 0 (l.length + 1) false, .hs pd vd 0 ds.length true]]) ∧
   getRow H' po vo = some (26, 4, l.map OE.av ++ [.agg [.str p.n, .sl 2 (p.a.map At.av), .str p.t, .hs p.q (p.v + 1) 0 (p.k.length + 1) true], o.av]) ∧
   getRow H' p.q (p.v + 1) = some (26, 4, p.k.map Elem.av ++ [o.av]) ∧
   (∀ q v x, getRow H q v = some x → q ≠ pb → q ≠ po → q ≠ p.q → getRow H' q v = some x)) ?_ (fun r h' ⟨a1, a2, a3, a4, a5, a6⟩ => by
    obtain ⟨K', w, f1, f2⟩ := close_weak1 (C := CT G) (ds := ds) (n0 := n0) a3 a4 (a6 _ _ _ hd hbd.symm hod.symm kp.2.1.symm) (a6 _ _ _ hk hbk.symm ko.1 kop) a5
     (fun i x hi => by
      have j := il i x hi
      have hlt := (List.getElem?_eq_some_iff.1 hi).1
      have k1 := g.ko i x j
      have k2 := g.kk i l.length x p j i0 (by omega)
      exact ⟨a6 _ _ _ (g.k i x j) (g.bk i x j).symm k1.1 k2, k1.1, k1.2.1, k1.2.2, k2, g.kk i (l.length + 1) x o j i1 (by omega)⟩)
     (fun i j x x' hi hj hij => g.kk i j x x' (il i x hi) (il j x' hj) hij) hod ko kp kop hn
    exact ⟨K', w [], ⟨a1.1.trans f1.1, Nat.le_trans a1.2 f1.2⟩, a2, po, vo, false, _, pd, vd, f2, rfl⟩)
 have e1 : ((l.length + 2 : Nat) : Int) - 1 = ((l.length + 1 : Nat) : Int) := by omega
 have e2 : ((l.length + 1 : Nat) : Int) - 1 = (l.length : Int) := by omega
 have e3 : (((l.length + 1 : Nat) : Int) == 0) = false := by simp; omega
 have hbt : (o.n == o.n) = true := by simp
 have e4 : ∀ x y : AVal, (l.map OE.av ++ [x, y])[l.length]? = some x := fun x y => by simp
 have e5 : ∀ x y : AVal, (l.map OE.av ++ [x, y])[l.length + 1]? = some y := fun x y => by simp
 have e6 : ∀ x y z : AVal, (l.map OE.av ++ [x, y]).set l.length z = l.map OE.av ++ [z, y] := fun x y z => by simp
 have e7 : l.length + 1 < l.length + 2 := by omega
 have e8 : l.length < l.length + 1 := by omega
 have e9 : p.k.length < p.k.length + 1 := by omega
 have hg1 : ∀ x : AVal, (p.k.map Elem.av ++ [x])[p.k.length]? = some x := fun x => by simp
 have hs1 : ∀ x y : AVal, (p.k.map Elem.av ++ [x]).set p.k.length y = p.k.map Elem.av ++ [y] := fun x y => by simp
 have hsl : ∀ j, aslice Tryz.prog (H ++ j) 24 (.hs po vo 0 (l.length + 2) room) none (some (.int .i64 ((l.length + 1 : Nat) : Int))) (some (.int .i64 ((l.length + 1 : Nat) : Int))) = some (.hs po vo 0 (l.length + 1) false) := fun j =>
  aslice_hs3 (r := l.length + 1) (by simp only [go_sem]; rfl) (getRow_old ho) (by simp only [go_sem]) (by omega)
 have ho' : getRow H po vo = some (26, 4, l.map OE.av ++ [p.av, o.av]) := by rw [ho]; simp
 clear ho
 have F := F2 (F9 hb ho' hd hp (F3 (@bne_self_eq_false Int _ _) (@bne_self_eq_false Bool _ _) (@bne_self_eq_false Bs _ _)) hbt e1 e2 e3) (F10 e4 e5 e6 e7 e8 e9 hg1 hs1 hsl @heapF)
 refine sb [.tmp 4] (fn := Tryz.f107) Tryz.func107 ?_
 intro Q hQ
 (repeat (first | refine w1 (fun K hK => ?_) | refine w2 ?_ | refine w3 ?_ | ((first | refine w4 ?_ | refine wD ?_ | refine w5 ?_ | refine w6 ?_ | refine w7 ?_); try refine sq F ?_) | (refine w8 ?_; refine sq F ?_; refine w9 ?_) | (refine rq F ?_; try refine sq F ?_) | (refine vq F ?_; try refine sq F ?_) | ((first | refine hK _ _ (w0 ?_) | (clear hK K; refine hK _ _ (w0 ?_)) | (clear hK K; clear hK K; refine hK _ _ (w0 ?_))); clear hK K)))
 (first | refine gq F (fun g1 => ?_) (fun g1 => ?_) | refine pq F (fun g1 => ?_) (fun g1 => ?_)) <;> (try exact g1.elim) <;> (try refine sq F ?_) <;> ((repeat (first | refine w1 (fun K hK => ?_) | refine w2 ?_ | refine w3 ?_ | ((first | refine w4 ?_ | refine wD ?_ | refine w5 ?_ | refine w6 ?_ | refine w7 ?_); try refine sq F ?_) | (refine w8 ?_; refine sq F ?_; refine w9 ?_) | (refine rq F ?_; try refine sq F ?_) | (refine vq F ?_; try refine sq F ?_) | ((first | refine hK _ _ (w0 ?_) | (clear hK K; refine hK _ _ (w0 ?_)) | (clear hK K; clear hK K; refine hK _ _ (w0 ?_))); clear hK K))))
 ·exfalso; omega
 ·refine WP_draw6 0 (.one 0 (.two 1 (.one 2 (.one 3 .nil)) 2 (.one 1 (.one 3 .nil)))) (by decide +kernel) (by kernel_rfl) (by decide +kernel) ?_
  simp only [List.take_succ_cons, List.take_zero]
  try refine sq F ?_
  repeat' (first | refine WPt_nil ?_ | (refine WPt_one rfl ?_; refine sq F ?_) | (refine WPt_two rfl rfl ?_ ?_ <;> refine sq F ?_))
  repeat' (first | refine WPt_nil ?_ | (refine WPt_one rfl ?_; refine sq F ?_) | (refine WPt_two rfl rfl ?_ ?_ <;> refine sq F ?_))
  ·show K _ _
   refine hK _ _ (Wkn.refl ?_)
   clear hK K
   skip
   (repeat (first | refine w1 (fun K hK => ?_) | refine w2 ?_ | refine w3 ?_ | ((first | refine w4 ?_ | refine w5 ?_ | refine w6 ?_ | refine w7 ?_); try refine sq F ?_) | (refine w8 ?_; refine sq F ?_; refine w9 ?_) | (refine rq F ?_; try refine sq F ?_) | (refine vq F ?_; try refine sq F ?_) | ((first | refine hK _ _ (w0 ?_) | (clear hK K; refine hK _ _ (w0 ?_)) | (clear hK K; clear hK K; refine hK _ _ (w0 ?_))); clear hK K)))
   refine WP_draw5 17 6 _ (by rfl) (by decide +kernel) (by kernel_rfl) (by decide +kernel) (by decide +kernel) (by decide +kernel) ?_
   simp only [List.take_succ_cons, List.take_zero]
   refine sq F ?_
   (repeat (first | refine w1 (fun K hK => ?_) | refine w2 ?_ | refine w3 ?_ | ((first | refine w4 ?_ | refine w5 ?_ | refine w6 ?_ | refine w7 ?_); try refine sq F ?_) | (refine w8 ?_; refine sq F ?_; refine w9 ?_) | (refine rq F ?_; try refine sq F ?_) | (refine vq F ?_; try refine sq F ?_) | ((first | refine hK _ _ (w0 ?_) | (clear hK K; refine hK _ _ (w0 ?_)) | (clear hK K; clear hK K; refine hK _ _ (w0 ?_))); clear hK K)))
   skip
   rw [wpOperV_app]
   try refine sq F ?_
   refine aq F ?_
   try refine sq F ?_
   (repeat (first | refine w1 (fun K hK => ?_) | refine w2 ?_ | refine w3 ?_ | ((first | refine w4 ?_ | refine wD ?_ | refine w5 ?_ | refine w6 ?_ | refine w7 ?_); try refine sq F ?_) | (refine w8 ?_; refine sq F ?_; refine w9 ?_) | (refine rq F ?_; try refine sq F ?_) | (refine vq F ?_; try refine sq F ?_)))
   refine hK _ _ (Wkn.refl ?_)
   clear hK K
   (repeat (first | refine w1 (fun K hK => ?_) | refine w2 ?_ | refine w3 ?_ | ((first | refine w4 ?_ | refine wD ?_ | refine w5 ?_ | refine w6 ?_ | refine w7 ?_); try refine sq F ?_) | (refine w8 ?_; refine sq F ?_; refine w9 ?_) | (refine rq F ?_; try refine sq F ?_) | (refine vq F ?_; try refine sq F ?_) | ((first | refine hK _ _ (w0 ?_) | (clear hK K; refine hK _ _ (w0 ?_)) | (clear hK K; clear hK K; refine hK _ _ (w0 ?_))); clear hK K)))
   refine ee hQ F ?_
   refine Fin.whole (by simp) (.bool _) ⟨⟨?_, by simp⟩, rfl, ?_, ?_, ?_, ?_⟩
   ·repeat (first | exact FrN.refl _ _ | refine FrN.set _ (by omega) ?_ | refine FrN.app _ (by simp; omega) ?_)
   ·exact zq F
   ·exact zq F
   ·exact zq F
   ·intro q v x h1 h2 h3 h4
    have h5 := gr_lt h1
    have h2' : pb ≠ q := fun e => h2 e.symm
    have h3' : po ≠ q := fun e => h3 e.symm
    have h4' : p.q ≠ q := fun e => h4 e.symm
    simp (disch := first | omega | (simp only [go_sem, ↓reduceIte, seval]; first | done | omega) | fail) only [go_sem, ↓reduceIte, seval, F, h1]
  ·show K _ _
   refine hK _ _ (Wkn.refl ?_)
   clear hK K
   (repeat (first | refine w1 (fun K hK => ?_) | refine w2 ?_ | refine w3 ?_ | ((first | refine w4 ?_ | refine wD ?_ | refine w5 ?_ | refine w6 ?_ | refine w7 ?_); try refine sq F ?_) | (refine w8 ?_; refine sq F ?_; refine w9 ?_) | (refine rq F ?_; try refine sq F ?_) | (refine vq F ?_; try refine sq F ?_) | ((first | refine hK _ _ (w0 ?_) | (clear hK K; refine hK _ _ (w0 ?_)) | (clear hK K; clear hK K; refine hK _ _ (w0 ?_))); clear hK K)))
   refine aq F ?_
   try refine sq F ?_
   (repeat (first | refine w1 (fun K hK => ?_) | refine w2 ?_ | refine w3 ?_ | ((first | refine w4 ?_ | refine wD ?_ | refine w5 ?_ | refine w6 ?_ | refine w7 ?_); try refine sq F ?_) | (refine w8 ?_; refine sq F ?_; refine w9 ?_) | (refine rq F ?_; try refine sq F ?_) | (refine vq F ?_; try refine sq F ?_) | ((first | refine hK _ _ (w0 ?_) | (clear hK K; refine hK _ _ (w0 ?_)) | (clear hK K; clear hK K; refine hK _ _ (w0 ?_))); clear hK K)))
   refine ee hQ F ?_
   refine Fin.whole (by simp) (.bool _) ⟨⟨?_, by simp⟩, rfl, ?_, ?_, ?_, ?_⟩
   ·repeat (first | exact FrN.refl _ _ | refine FrN.set _ (by omega) ?_ | refine FrN.app _ (by simp; omega) ?_)
   ·exact zq F
   ·exact zq F
   ·exact zq F
   ·intro q v x h1 h2 h3 h4
    have h5 := gr_lt h1
    have h2' : pb ≠ q := fun e => h2 e.symm
    have h3' : po ≠ q := fun e => h3 e.symm
    have h4' : p.q ≠ q := fun e => h4 e.symm
    simp (disch := first | omega | (simp only [go_sem, ↓reduceIte, seval]; first | done | omega) | fail) only [go_sem, ↓reduceIte, seval, F, h1]
end Go.Av
namespace Go.Av
open Go Go.Proofs Go.RowKit
attribute [local irreducible] WP WPl WPix Sat
set_option maxRecDepth 100000
set_option maxHeartbeats 1000000
variable (G : Nat → Option (List AVal)) {H : Heap} {n0 pb po vo pd vd : Nat} {room : Bool} {os : List OE} {ds : List Elem}
theorem BH.app (l : Heap) (g : BH H n0 pb po vo room os pd vd ds) : BH (H ++ l) n0 pb po vo room os pd vd ds :=
 ⟨by rw [gs_old _ (gr_lt g.b)]; exact g.b, by rw [gs_old _ (gr_lt g.o)]; exact g.o, by rw [gs_old _ (gr_lt g.d)]; exact g.d,
  fun i o h => by rw [gs_old _ (gr_lt (g.k i o h))]; exact g.k i o h, g.od, g.ko, g.kk, g.n⟩
theorem bclose_sat (nm : Bs) (a : List At) (x : Bs) (g : BH H n0 pb po vo room os pd vd ds) (hos : os.length ≤ 1000) (hds : ds.length ≤ 1048576) (hk : ∀ o ∈ os, o.k.length ≤ 1048576) :
  Sat (CT G) 107 [.hp pb 0 0 0, .str nm] H (BPost n0 pb H (os.map OE.el) ds (stepB (os.map OE.el) ds (2, nm, a, x))) := by
 have no : (os = [] ∨ ∃ l o, os = l ++ [o] ∧ o.n ≠ nm) → Sat (CT G) 107 [.hp pb 0 0 0, .str nm] H (BPost n0 pb H (os.map OE.el) ds (stepB (os.map OE.el) ds (2, nm, a, x))) := fun hno => by
  have e : stepB (os.map OE.el) ds (2, nm, a, x) = none := stepB_cls0 _ _ _ (by
   rcases hno with rfl | ⟨l, o, rfl, h⟩
   ·exact .inl rfl
   ·exact .inr ⟨l.map OE.el, o.el, by simp, h⟩) _ _
  rw [e]
  refine (close0_sat G nm g hos hno).mono ?_
  rintro r h' ⟨rfl, rfl⟩
  exact ⟨⟨FrN.refl _ _, Nat.le_refl _⟩, rfl⟩
 rcases List.eq_nil_or_concat os with rfl | ⟨l, o, rfl⟩
 ·exact no (.inl rfl)
 ·rw [List.concat_eq_append] at *
  by_cases hn : o.n = nm
  ·subst hn
   rcases List.eq_nil_or_concat l with rfl | ⟨l, p, rfl⟩
   ·have := close1_sat G o g hds
    have e : stepB (([] ++ [o]).map OE.el) ds (2, o.n, a, x) = some ([], ds ++ [o.el]) := stepB_cls1 ds o.el a x
    rw [e]; exact this
   ·rw [List.concat_eq_append] at *
    have e1 : l ++ [p] ++ [o] = l ++ [p, o] := by simp
    rw [e1] at g hk hos ⊢
    have := close2_sat G l p o (by simp at hos; omega) (hk p (by simp)) g
    have e : stepB ((l ++ [p, o]).map OE.el) ds (2, o.n, a, x) = some ((l ++ [(⟨p.n, p.a, p.t, p.k ++ [o.el], p.q, p.v + 1⟩ : OE)]).map OE.el, ds) := by
     have := stepB_cls2 (l.map OE.el) ds p.el o.el a x
     simpa [OE.el, Elem.name, Elem.attrs, Elem.text, Elem.kids] using this
    rw [e]; exact this
  ·exact no (.inr ⟨l, o, rfl, hn⟩)
end Go.Av
namespace Go.Av
open Go Go.Proofs Go.RowKit
attribute [local irreducible] WP WPl WPix Sat
set_option maxRecDepth 100000
set_option maxHeartbeats 1000000
variable (G : Nat → Option (List AVal)) {H : Heap} {n0 pb po vo pd vd : Nat} {room : Bool} {os : List OE} {ds : List Elem}
theorem BPost.app {l : Heap} {a b : List Elem} {x : Option (List Elem × List Elem)} {r : AVal} {H' : Heap} (hn : n0 ≤ H.length) (g : BPost n0 pb (H ++ l) a b x r H') : BPost n0 pb H a b x r H' := by
 obtain ⟨⟨g1, g2⟩, g3⟩ := g
 exact ⟨⟨(FrN.app _ (by omega) (FrN.refl _ _)).trans g1, by rw [List.length_append] at g2; omega⟩, g3⟩
theorem BPost.bool {a b : List Elem} {x : Option (List Elem × List Elem)} {r : AVal} {H' : Heap} (g : BPost n0 pb H a b x r H') : ∃ q, r = .bool q := by
 obtain ⟨_, g⟩ := g
 cases x with
 | none => exact ⟨_, g⟩
 | some y => exact ⟨_, g.1⟩
theorem BH.start {C : Ctx} (hb : getRow H pb 0 = some (106, 2, [.agg [.nil (.slice none 0 0), .nil (.slice none 0 0)]])) (hn : n0 ≤ pb) :
  ∃ H', (∀ (ms : List Nat) (t : Env), Weak C ms t H t H') ∧ (FrN n0 H H' ∧ H.length ≤ H'.length) ∧ ∃ po pd, BH H' n0 pb po 0 true [] pd 0 [] := by
 have hlt := gr_lt hb
 have g1 : getRow (H.set pb (.row 106 2 0 [.agg [.hs H.length 0 0 0 true, .nil (.slice none 0 0)]]) ++ [.row 26 4 0 []]) pb 0 = some (106, 2, [.agg [.hs H.length 0 0 0 true, .nil (.slice none 0 0)]]) := by
  rw [gs_old _ (by simpa using hlt), gs_eq _ _ _ _ _ hlt]; simp
 refine ⟨_, fun ms t => (Weak.virtCell 26 4 (by omega) hb 0 rfl).trans (Weak.virtCell 26 4 (by omega) g1 1 rfl), ⟨fun p hp => ?_, by simp; omega⟩, H.length, H.length + 1, ?_⟩
 ·rw [List.getElem?_append_left (by simp; omega), List.getElem?_set_ne (by omega), List.getElem?_append_left (by simp; omega), List.getElem?_set_ne (by omega)]
 ·refine ⟨?_, ?_, ?_, fun i o hi => (by simp at hi), by omega, fun i o hi => (by simp at hi), fun i j o o' hi => (by simp at hi), ⟨hn, by omega, by omega⟩⟩
  ·rw [gs_old _ (by simp; omega), gs_eq _ _ _ _ _ (by simp; omega)]; simp
  ·rw [gs_old _ (by simp), gs_ne _ _ (by omega), gs_new0 _ (by simp)]; rfl
  ·rw [gs_new0 _ (by simp)]; rfl
theorem badd_sat (hG : GOk G) (hC : GClo (CT G)) (t : Tok) (ht : Tok.sz t ≤ 1048576) (g : BH H n0 pb po vo room os pd vd ds) (hos : os.length ≤ 1000) (hds : ds.length ≤ 1048576) (hk : ∀ o ∈ os, o.k.length ≤ 1048576) (htx : ∀ o ∈ os, o.t.length ≤ 10000000) :
  Sat (CT G) 80 [.hp pb 0 0 0, t.av] H (BPost n0 pb H (os.map OE.el) ds (stepB (os.map OE.el) ds t)) := by
 obtain ⟨k, nm, at_, tx⟩ := t
 have hsz : Tok.sz (k, nm, at_, tx) = 1 + nm.length + szs At.sz at_ + tx.length := rfl
 have hal := szs_len At.sz At.sz_pos at_
 have hlb := gr_lt g.b
 have hn := g.n
 by_cases h1 : k = 1
 ·subst h1
  refine (add1_sat G nm at_ tx (by omega) g hos hds).postw ?_
  rintro r h' ⟨hfr, rfl, po', vo', br⟩
  obtain ⟨h'', hw, hfr2, bh⟩ := br.weak (C := CT G)
  refine ⟨h'', hw [], ⟨hfr.1.trans hfr2.1, by omega⟩, ?_⟩
  unfold stepB
  rw [if_pos rfl]
  by_cases hc : (os.map OE.el).length + 1 ≤ 32 ∧ ds = []
  ·rw [if_pos hc]
   have e1 : os.length ≤ 31 := by have := hc.1; simp at this; omega
   refine ⟨by rw [decide_eq_true e1, hc.2]; rfl, po', vo', true, _, pd, vd, bh, by simp [OE.el]⟩
  ·rw [if_neg hc]
   show AVal.bool _ = AVal.bool false
   congr 1
   rw [Bool.and_eq_false_iff]
   by_cases e1 : os.length ≤ 31
   ·right
    rw [decide_eq_false_iff_not]
    intro e2
    exact hc ⟨by simp; omega, List.length_eq_zero_iff.1 e2⟩
   ·left; simpa using e1
 have fin : ∀ (l : Heap) (x : Option (List Elem × List Elem)) (r : AVal) (H' : Heap), BPost n0 pb (H ++ l) (os.map OE.el) ds x r H' → x = stepB (os.map OE.el) ds (k, nm, at_, tx) → Fin H H' (BPost n0 pb H (os.map OE.el) ds (stepB (os.map OE.el) ds (k, nm, at_, tx))) r := by
  intro l x r H' gp hx
  obtain ⟨q, rfl⟩ := gp.bool
  have hl := gp.1.2
  rw [List.length_append] at hl
  rw [← hx]
  exact Fin.whole (by omega) (.bool _) (BPost.app (by omega) gp)
 refine sb [.tmp 4] (fn := Tryz.f80) Tryz.func80 ?_
 intro Q hQ
 refine wk trivial ?_
 refine cq trivial (fun c1 => ?_) (fun c1 => ?_) <;> (try exact c1.elim) <;> (refine wk trivial ?_)
 ·exact absurd c1 h1
 refine cq trivial (fun c2 => ?_) (fun c2 => ?_) <;> (try exact c2.elim) <;> (refine wk trivial ?_)
 ·subst c2
  refine (bclose_sat G nm at_ tx (g.app _) hos hds hk).mono ?_
  intro r h' gp
  obtain ⟨q, hq⟩ := gp.bool
  subst hq
  try refine sq trivial ?_
  refine wk trivial ?_
  refine ee hQ trivial ?_
  exact fin _ _ _ _ gp rfl
 refine cq trivial (fun c3 => ?_) (fun c3 => ?_) <;> (try exact c3.elim) <;> (refine wk trivial ?_)
 ·subst c3
  refine (btext_sat G hG hC tx (by omega) (g.app _) hos (fun o ho => by have := htx o ho; omega)).mono ?_
  intro r h' gp
  obtain ⟨q, hq⟩ := gp.bool
  subst hq
  try refine sq trivial ?_
  refine wk trivial ?_
  refine ee hQ trivial ?_
  exact fin _ _ _ _ gp (by rw [stepB_txt _ _ _ _ _ _ rfl, stepB_txt _ _ _ _ _ _ rfl])
 ·refine ee hQ trivial ?_
  have e : stepB (os.map OE.el) ds (k, nm, at_, tx) = none := by
   unfold stepB
   rw [if_neg h1, if_neg c2, if_neg c3]
  rw [e]
  exact Fin.whole (by simp) (.bool _) ⟨⟨FrN.app _ (by omega) (FrN.refl _ _), by simp⟩, rfl⟩
end Go.Av
namespace Go.Av
open Go Go.Proofs Go.RowKit
set_option maxRecDepth 100000
def orcX (f : FuncId) (args : List AVal) : Option AVal := match orcL f args with
 | some r => some r
 | none => match args with
  | [.int .i32 c] => if f = 152 then some (.bool (beginF c)) else if f = 151 then some (.bool (moreF c)) else none
  | _ => none
variable {G : Nat → Option (List AVal)}
theorem orcX_ok (hG : GOk G) : OrcOk (CT G) orcX := by
 intro f args r g h
 unfold orcX at g
 split at g
 ·rename_i e; cases g; exact orcL_ok hG f args _ e h
 ·split at g
  ·rename_i c _
   split at g
   ·rename_i e; subst e; cases g; exact begins_sat G c h
   ·split at g
    ·rename_i e; subst e; cases g; exact goes_sat G c h
    ·cases g
  ·cases g
end Go.Av
namespace Go.Av
open Go Go.Proofs Go.RowKit
set_option maxRecDepth 1000000
set_option maxHeartbeats 4000000
def doc13 : Bs := [60, 111, 112, 109, 108, 62, 60, 98, 111, 100, 121, 62, 60, 111, 117, 116, 108, 105, 110, 101, 32, 116, 101, 120, 116, 61, 34, 65, 34, 62, 60, 111, 117, 116, 108, 105, 110, 101, 32, 116, 105, 116, 108, 101, 61, 39, 66, 39, 32, 120, 109, 108, 85, 114, 108, 61, 39, 98, 39, 62, 60, 111, 117, 116, 108, 105, 110, 101, 32, 116, 101, 120, 116, 61, 39, 120, 39, 47, 62, 60, 47, 111, 117, 116, 108, 105, 110, 101, 62, 60, 111, 117, 116, 108, 105, 110, 101, 47, 62, 60, 47, 111, 117, 116, 108, 105, 110, 101, 62, 60, 47, 98, 111, 100, 121, 62, 60, 47, 111, 112, 109, 108, 62]
def out13 : AVal := .tup [.sl 3 [.agg [.str [65], .str [], .sl 3 [.agg [.str [66], .str [98], .nil (.slice none 0 0)]]]], .int .i64 0]
theorem read13 (G : Nat → Option (List AVal)) : isV out13 (callX (CT G) orcX 1000 100 33 [.str doc13] []) = true := by
 kernel_rfl
def orcY (f : FuncId) (args : List AVal) : Option AVal := match args with
 | [.str s] => if f = 33 then (if s = doc13 then some out13 else none) else orcX f args
 | _ => orcX f args
theorem orcY_ok {G : Nat → Option (List AVal)} (hG : GOk G) (hc : GClo (CT G)) : OrcOk (CT G) orcY := by
 intro f args r g h
 unfold orcY at g
 split at g
 ·split at g
  ·rename_i e; subst e
   split at g
   ·rename_i e; subst e; cases g
    exact Sat.closedV hc (orcX_ok hG) 1000 100 rfl rfl (read13 G) h
   ·cases g
  ·exact orcX_ok hG f _ _ g h
 ·exact orcX_ok hG f _ _ g h
theorem lives13 (G : Nat → Option (List AVal)) : isT (runX (CT G) orcY 1000 100 32 []) = true := by
 kernel_rfl
end Go.Av
namespace Go.Av
open Go Go.Proofs Go.RowKit
attribute [local irreducible] WP WPl WPix Sat
set_option maxRecDepth 100000
set_option maxHeartbeats 1000000
variable {G : Nat → Option (List AVal)}
attribute [go_sem] decide_true decide_false
end Go.Av
namespace Go.Av
open Go Go.Proofs Go.RowKit
set_option maxRecDepth 100000
def rdE (s : Bs) : Bs := readP (s.length + 1) s
theorem cut_cons (c : UInt8) (t : Bs) (p : UInt8) : Lib.cut (c :: t) [p] = if c = p then ([], t, true) else if (Lib.cut t [p]).2.2 = true then (c :: (Lib.cut t [p]).1, (Lib.cut t [p]).2.1, true) else (c :: t, [], false) := by
 have hp : ([p] : Bs).isPrefixOf (c :: t) = (p == c) := by simp [List.isPrefixOf]
 by_cases h : c = p
 ·subst h
  rw [if_pos rfl]
  unfold Lib.cut Lib.index
  simp
 ·have hpc : (p == c) = false := by simpa using fun e => h e.symm
  rw [if_neg h]
  have hi : Lib.index (c :: t) [p] = if Lib.index t [p] == -1 then -1 else Lib.index t [p] + 1 := by
   rw [Lib.index, hp, hpc]; simp
  have hge := Lib.index_ge t [p]
  unfold Lib.cut
  rw [hi]
  by_cases h1 : Lib.index t [p] = -1
  ·rw [h1]; simp
  ·have h2 : (Lib.index t [p] == -1) = false := by simpa using h1
   have h3 : 0 ≤ Lib.index t [p] := by omega
   rw [h2]
   simp only [Bool.false_eq_true, if_false, if_pos h3]
   rw [if_pos (by omega)]
   simp only [if_true]
   obtain ⟨n, hn⟩ : ∃ n : Nat, Lib.index t [p] = n := ⟨_, (Int.toNat_of_nonneg h3).symm⟩
   rw [hn]
   have e1 : ((n : Int) + 1).toNat = n + 1 := by omega
   have e2 : (n : Int).toNat = n := by omega
   rw [e1, e2]
   simp
theorem readP_fuel : ∀ (n f g : Nat) (s : Bs), s.length ≤ n → s.length < f → s.length < g → readP f s = readP g s := by
 intro n
 induction n with
 | zero =>
  intro f g s h hf hg
  obtain rfl : s = [] := List.length_eq_zero_iff.1 (by omega)
  obtain ⟨f, rfl⟩ : ∃ k, f = k + 1 := ⟨f - 1, by omega⟩
  obtain ⟨g, rfl⟩ : ∃ k, g = k + 1 := ⟨g - 1, by omega⟩
  rw [readP, readP]
  rfl
 | succ n ih =>
  intro f g s h hf hg
  obtain ⟨f, rfl⟩ : ∃ k, f = k + 1 := ⟨f - 1, by omega⟩
  obtain ⟨g, rfl⟩ : ∃ k, g = k + 1 := ⟨g - 1, by omega⟩
  rw [readP, readP]
  by_cases h1 : (Lib.cut s [38]).2.2 = true
  ·have h2 := cut_len s [38] h1
   simp only [List.length_cons, List.length_nil] at h2
   rw [if_pos h1, if_pos h1, ih f g (Lib.cut s [38]).2.1 (by omega) (by omega) (by omega)]
   by_cases h3 : (Lib.cut (Lib.cut s [38]).2.1 [59]).2.2 = true
   ·have h4 := cut_len _ [59] h3
    simp only [List.length_cons, List.length_nil] at h4
    rw [ih f g (Lib.cut (Lib.cut s [38]).2.1 [59]).2.1 (by omega) (by omega) (by omega)]
   ·have h5 : ∀ b c : Bool, ((Lib.cut (Lib.cut s [38]).2.1 [59]).2.2 && b && c) = false := fun b c => by simp [h3]
    rw [h5]; simp
  ·rw [if_neg h1, if_neg h1]
theorem readP_succ (f : Nat) (s : Bs) : readP (f + 1) s =
  if (Lib.cut s [38]).2.2 = true then
   if ((Lib.cut (Lib.cut s [38]).2.1 [59]).2.2 && decide ((Lib.cut (Lib.cut s [38]).2.1 [59]).1.length ≤ 10) && (signF (Lib.cut (Lib.cut s [38]).2.1 [59]).1).2) = true
   then (Lib.cut s [38]).1 ++ (enc (signF (Lib.cut (Lib.cut s [38]).2.1 [59]).1).1 ++ readP f (Lib.cut (Lib.cut s [38]).2.1 [59]).2.1)
   else (Lib.cut s [38]).1 ++ (38 :: readP f (Lib.cut s [38]).2.1)
  else (Lib.cut s [38]).1 := rfl
theorem rdE_nil : rdE [] = [] := rfl
theorem rdE_eq (f : Nat) (s : Bs) (h : s.length < f) : readP f s = rdE s := readP_fuel s.length f _ s (Nat.le_refl _) h (by omega)
theorem rdE_cons (c : UInt8) (t : Bs) (h : c ≠ 38) : rdE (c :: t) = c :: rdE t := by
 have e1 : rdE t = readP (t.length + 2) t := (rdE_eq _ _ (by omega)).symm
 rw [e1]
 show readP (t.length + 2) (c :: t) = _
 rw [readP_succ (t.length + 1) (c :: t), readP_succ (t.length + 1) t, cut_cons, if_neg h]
 by_cases h1 : (Lib.cut t [38]).2.2 = true
 ·rw [if_pos h1, if_pos rfl, if_pos h1]
  simp only []
  split <;> simp
 ·rw [if_neg h1, if_neg (by simp), if_neg h1]
  rw [cut_no t [38] (by simpa using h1)]
theorem rdE_amp (t : Bs) : rdE (38 :: t) = if ((Lib.cut t [59]).2.2 && decide ((Lib.cut t [59]).1.length ≤ 10) && (signF (Lib.cut t [59]).1).2) = true then enc (signF (Lib.cut t [59]).1).1 ++ rdE (Lib.cut t [59]).2.1 else 38 :: rdE t := by
 show readP (t.length + 2) (38 :: t) = _
 rw [readP_succ (t.length + 1), cut_cons, if_pos rfl, if_pos rfl]
 simp only []
 by_cases h : ((Lib.cut t [59]).2.2 && decide ((Lib.cut t [59]).1.length ≤ 10) && (signF (Lib.cut t [59]).1).2) = true
 ·rw [if_pos h, if_pos h]
  simp only [Bool.and_eq_true] at h
  have := cut_len t [59] h.1.1
  rw [rdE_eq _ _ (by simp at this; omega)]; rfl
 ·rw [if_neg h, if_neg h, rdE_eq _ _ (by omega)]; rfl
theorem cut_at (t : Bs) (p : UInt8) (m : Nat) (h1 : ∀ i, i < m → ∀ c, t[i]? = some c → c ≠ p) (h2 : t[m]? = some p) : Lib.cut t [p] = (t.take m, t.drop (m + 1), true) := by
 induction t generalizing m with
 | nil => simp at h2
 | cons c t ih =>
  rw [cut_cons]
  cases m with
  | zero =>
   simp at h2; subst h2; rw [if_pos rfl]; rfl
  | succ m =>
   have hc : c ≠ p := h1 0 (by omega) c rfl
   rw [if_neg hc, ih m (fun i hi d hd => h1 (i + 1) (by omega) d (by simpa using hd)) (by simpa using h2), if_pos rfl]
   rfl
end Go.Av
namespace Go.Av
open Go Go.Proofs Go.RowKit
set_option maxRecDepth 100000
def escB (c : UInt8) : Bs := if c = 38 then [38, 97, 109, 112, 59] else if c = 60 then [38, 108, 116, 59] else if c = 62 then [38, 103, 116, 59] else if c = 34 then [38, 113, 117, 111, 116, 59] else if c = 39 then [38, 97, 112, 111, 115, 59] else [c]
def escF (s : Bs) : Bs := s.flatMap escB
theorem escF_cons (c : UInt8) (s : Bs) : escF (c :: s) = escB c ++ escF s := List.flatMap_cons
theorem escB_len (c : UInt8) : 1 ≤ (escB c).length ∧ (escB c).length ≤ 6 := by
 unfold escB; repeat (first | split | exact ⟨by simp, by simp⟩)
theorem escF_len : ∀ s : Bs, (escF s).length ≤ 6 * s.length ∧ s.length ≤ (escF s).length
 | [] => by simp [escF]
 | c :: s => by have := escF_len s; have := escB_len c; rw [escF_cons]; simp; omega
theorem escF_snoc (s : Bs) (c : UInt8) : escF (s ++ [c]) = escF s ++ escB c := by simp [escF]
theorem cut_name (n u : Bs) (hn : ∀ c ∈ n, c ≠ (59 : UInt8)) : Lib.cut (n ++ 59 :: u) [59] = (n, u, true) := by
 rw [cut_at (n ++ 59 :: u) 59 n.length (fun i hi c hc => hn c (by rw [List.getElem?_append_left hi] at hc; exact List.mem_of_getElem? hc)) (by simp)]
 simp
theorem rdE_name (n u : Bs) (v : UInt8) (hn : ∀ c ∈ n, c ≠ (59 : UInt8)) (hl : n.length ≤ 10) (hs : signF n = ((v.toNat : Int), true)) (he : enc (v.toNat : Int) = [v]) : rdE (38 :: n ++ 59 :: u) = v :: rdE u := by
 rw [List.cons_append, rdE_amp, cut_name n u hn]
 simp only [hs, Bool.and_true, Bool.true_and, decide_eq_true_eq]
 rw [if_pos hl, he]; rfl
theorem rdE_escB (c : UInt8) (u : Bs) : rdE (escB c ++ u) = c :: rdE u := by
 unfold escB
 by_cases h1 : c = 38
 ·subst h1; exact rdE_name [97, 109, 112] u 38 (by decide) (by decide) (by kernel_rfl) (by kernel_rfl)
 by_cases h2 : c = 60
 ·subst h2; exact rdE_name [108, 116] u 60 (by decide) (by decide) (by kernel_rfl) (by kernel_rfl)
 by_cases h3 : c = 62
 ·subst h3; exact rdE_name [103, 116] u 62 (by decide) (by decide) (by kernel_rfl) (by kernel_rfl)
 by_cases h4 : c = 34
 ·subst h4; exact rdE_name [113, 117, 111, 116] u 34 (by decide) (by decide) (by kernel_rfl) (by kernel_rfl)
 by_cases h5 : c = 39
 ·subst h5; exact rdE_name [97, 112, 111, 115] u 39 (by decide) (by decide) (by kernel_rfl) (by kernel_rfl)
 rw [if_neg h1, if_neg h2, if_neg h3, if_neg h4, if_neg h5]
 exact rdE_cons c u h1
theorem rdE_esc : ∀ s : Bs, rdE (escF s) = s
 | [] => rdE_nil
 | c :: s => by rw [escF_cons, rdE_escB, rdE_esc s]
theorem escB_no (c : UInt8) : ∀ x ∈ escB c, x ≠ 60 ∧ x ≠ 34 := by
 unfold escB
 by_cases h1 : c = 38
 ·rw [if_pos h1]; decide
 by_cases h2 : c = 60
 ·rw [if_neg h1, if_pos h2]; decide
 by_cases h3 : c = 62
 ·rw [if_neg h1, if_neg h2, if_pos h3]; decide
 by_cases h4 : c = 34
 ·rw [if_neg h1, if_neg h2, if_neg h3, if_pos h4]; decide
 by_cases h5 : c = 39
 ·rw [if_neg h1, if_neg h2, if_neg h3, if_neg h4, if_pos h5]; decide
 rw [if_neg h1, if_neg h2, if_neg h3, if_neg h4, if_neg h5]
 intro x hx
 obtain rfl := List.mem_singleton.1 hx
 exact ⟨h2, h4⟩
theorem escF_no (s : Bs) : ∀ x ∈ escF s, x ≠ 60 ∧ x ≠ 34 := fun x hx => by
 obtain ⟨c, _, h⟩ := List.mem_flatMap.1 hx
 exact escB_no c x h
theorem cut_before (n u : Bs) (p : UInt8) (hn : ∀ c ∈ n, c ≠ p) : Lib.cut (n ++ p :: u) [p] = (n, u, true) := by
 rw [cut_at (n ++ p :: u) p n.length (fun i hi c hc => hn c (by rw [List.getElem?_append_left hi] at hc; exact List.mem_of_getElem? hc)) (by simp)]
 simp
theorem cut_none (p : UInt8) : ∀ s : Bs, (∀ x ∈ s, x ≠ p) → (Lib.cut s [p]).2.2 = false
 | [], _ => rfl
 | c :: s, h => by
  rw [cut_cons, if_neg (h c (List.mem_cons_self ..)), if_neg (by rw [cut_none p s fun x hx => h x (List.mem_cons_of_mem _ hx)]; decide)]
theorem index_none (p : UInt8) (s : Bs) (h : ∀ x ∈ s, x ≠ p) : Lib.contains s [p] = false := by
 have h1 := cut_none p s h
 have h2 : Lib.contains s [p] = decide (0 ≤ Lib.index s [p]) := rfl
 rw [h2]
 unfold Lib.cut at h1
 by_cases h3 : 0 ≤ Lib.index s [p]
 ·rw [if_pos h3] at h1; cases h1
 ·simpa using h3
theorem valueF_esc (v r : Bs) : valueF (34 :: escF v ++ 34 :: r) false = (v, r, false) := by
 have h0 : Lib.hasPrefix (34 :: escF v ++ 34 :: r) [34] = true := by simp [Lib.hasPrefix, List.isPrefixOf]
 have h1 : Lib.trimPrefix (34 :: escF v ++ 34 :: r) [34] = escF v ++ 34 :: r := by unfold Lib.trimPrefix; rw [if_pos h0]; rfl
 have h2 : uptoF [34] (escF v ++ 34 :: r) false = (escF v, r, false) := by
  unfold uptoF
  rw [cut_before (escF v) r 34 fun c hc => (escF_no v c hc).2]
  rfl
 unfold valueF
 simp only [h0, ↓reduceIte, h1, Bool.not_true, Bool.or_false, h2]
 rw [index_none 60 _ fun x hx => (escF_no v x hx).1]
 show (rdE (escF v), r, false || false) = _
 rw [rdE_esc]; rfl
theorem attrX_esc (n v r : Bs) (hn : nameW (n ++ 61 :: 34 :: escF v ++ 34 :: r) = n) (hr : nameR (n ++ 61 :: 34 :: escF v ++ 34 :: r) = 61 :: 34 :: escF v ++ 34 :: r) (hb : badN n = false) : attrX (n ++ 61 :: 34 :: escF v ++ 34 :: r) false = ((n, v), r, false) := by
 unfold attrX
 simp only [hn, hr, hb, Bool.or_false]
 have e1 : (61 :: 34 :: escF v ++ 34 :: r : Bs).dropWhile blankB = 61 :: (34 :: escF v ++ 34 :: r) := rfl
 have e2 : Lib.hasPrefix (61 :: (34 :: escF v ++ 34 :: r)) [61] = true := by simp [Lib.hasPrefix, List.isPrefixOf]
 have e3 : Lib.trimPrefix (61 :: (34 :: escF v ++ 34 :: r)) [61] = 34 :: escF v ++ 34 :: r := by unfold Lib.trimPrefix; rw [if_pos e2]; rfl
 have e4 : (34 :: escF v ++ 34 :: r : Bs).dropWhile blankB = 34 :: escF v ++ 34 :: r := rfl
 simp only [e1, e2, e3, e4, Bool.not_true, Bool.or_false, Bool.false_eq_true, ↓reduceIte, valueF_esc]
end Go.Av
namespace Go.Av
open Go Go.Proofs Go.RowKit
attribute [local irreducible] WP WPl WPix Sat
set_option maxRecDepth 100000
set_option maxHeartbeats 1000000
variable {G : Nat → Option (List AVal)}
end Go.Av
namespace Go.Av
open Go Go.Proofs Go.RowKit
attribute [local irreducible] WP WPl WPix Sat
set_option maxRecDepth 100000
set_option maxHeartbeats 1000000
variable {G : Nat → Option (List AVal)}
end Go.Av
