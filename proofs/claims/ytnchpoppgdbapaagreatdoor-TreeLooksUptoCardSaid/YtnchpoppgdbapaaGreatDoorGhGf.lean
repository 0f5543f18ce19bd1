/- The program's looks at elements: all texts. -/
import Derived.Test.YtnchpoppgdbapaaGreatDoorGhGe
set_option linter.unusedSimpArgs false
set_option linter.unusedVariables false
namespace Go.Av
open Go Go.Proofs Go.RowKit
attribute [local irreducible] WP WPl WPix Sat
set_option maxRecDepth 100000
set_option maxHeartbeats 1000000

variable (G : Nat → Option (List AVal))

def allA (e : Elem) (s : Bool × Nat × Bs) : Bool × Nat × Bs := (true, s.2.1 + 1, s.2.2 ++ e.text)
def allB (_ : Elem) (s : Bool × Nat × Bs) : Bool × Nat × Bs := s
def adrA (b : Bool) (p : Nat) : AVal := if b then .hp p 0 0 0 else .nil (.pointer none)
theorem adrA_ok (b : Bool) (p : Nat) : bldA (adrA b p) p := by cases b; exact .inl rfl; exact .inr rfl

mutual
theorem walk_all2 : ∀ (e : Elem) (d : Nat) (s : Bool × Nat × Bs), (walkF allA allB e d s).2.2 = s.2.2 ++ allT e d
  | .mk nm a t k, d, s => by
    rw [walkF, allT]; split
    · simp
    · have h1 : ∀ e x, (allB e x) = x := fun _ _ => rfl
      have h2 : ∀ e x, (allA e x).2.2 = x.2.2 ++ e.text := fun _ _ => rfl
      rw [h1, walkL_all2, h2]; simp [Elem.text]
theorem walkL_all2 : ∀ (l : List Elem) (d : Nat) (s : Bool × Nat × Bs), (walkL allA allB l d s).2.2 = s.2.2 ++ allL l d
  | [], d, s => by rw [walkL, allL]; simp
  | e :: l, d, s => by rw [walkL, allL, walkL_all2, walk_all2]; simp
end

theorem bldH_app (h j l : Heap) (a : AVal) (v : Nat) (s : Bs) : bldH h j a v s ++ l = bldH h (j ++ l) a v s := by simp [bldH]

theorem bld_keep2 (h : Heap) (b b' : Bool) (v v' : Nat) (s s' : Bs) (p : Nat) (k : Blk) (hk : (bldH h [] (adrA b' h.length) v' s')[p]? = some k) :
    (bldH h [] (adrA b h.length) v s)[p]? = some k ∨ ∀ n, (bldH h [] (adrA b h.length) v s).length ≤ n → CloB n k := by
  rw [bldH_len]
  unfold bldH at *
  rcases Nat.lt_or_ge p h.length with h1 | h1
  · rw [List.getElem?_append_left h1] at hk ⊢; exact .inl hk
  · rw [List.getElem?_append_right h1] at hk ⊢
    match p - h.length, hk with
    | 0, hk =>
      simp at hk; subst hk
      refine .inr fun n hn r hr => ?_
      simp only [List.mem_singleton] at hr
      subst hr
      refine .agg _ fun c hc => ?_
      simp only [List.mem_cons, List.mem_nil_iff, or_false] at hc
      rcases hc with rfl | rfl
      · cases b'
        · exact .nil _
        · exact .hp _ _ _ _ (by omega)
      · exact .hs _ _ _ _ _ (by omega)
    | 1, hk => simp at hk; subst hk; exact .inr fun n _ => buf_clo _ _ _
    | i + 2, hk => simp at hk

theorem PAll_sat (e : Elem) (hs : e.sz ≤ 1048576) (h : Heap) : Sat (CT G) 21 [e.av] h (fun r h' => r = .str (allT e 1) ∧ h' = h) := by
  generalize hh1 : h ++ [Blk.row 26 4 0 [e.av]] = h1
  have hl1 : h1.length = h.length + 1 := by rw [← hh1]; simp
  have hw := walk_sat G allA allB (fun s => bldH h1 [] (adrA s.1 h1.length) s.2.1 s.2.2) (fun s => s.2.2.length) 54 56 [.hp h1.length 0 0 0] []
    (fun s t => by simp only [bldH_len]) (fun s t p k hk => bld_keep2 _ _ _ _ _ _ _ p k hk)
    (fun e st => by simp [allA, Elem.own]; omega) (fun e st => by simp [allB])
    (fun e st j g1 g2 => by
      have := All1_sat G e g1 (adrA st.1 h1.length) h1 j st.2.1 st.2.2 (adrA_ok _ _) (by omega)
      simpa [bldH_app, allA, adrA] using this)
    (fun e st j g1 g2 => nothing_sat G e _) 32 1 (by omega) (by omega) e (false, 0, []) [] hs (by simp; omega)
  have ht := walk_all2 e 1 (false, 0, [])
  generalize walkF allA allB e 1 (false, 0, []) = x at hw ht
  obtain ⟨b, v, s⟩ := x
  simp only [List.nil_append] at ht
  subst ht
  have hS := String_sat G (adrA b h1.length) h1 [] v (allT e 1)
  simp only [List.append_nil, adrA, Bool.false_eq_true, if_false] at hw
  rw [hl1] at hw hS
  refine Sat.body [.tmp 2] (fn := Tryz.f21) Tryz.func21 rfl rfl (by kernel_rfl) (by kernel_rfl) (by kernel_rfl) rfl ?_
  intro Q hQ
  (repeat (first
    | refine WP_seq (fun K hK => ?_)
    | refine WP_block ?_
    | refine WP_scope ?_
    | ((first | refine WP_region ?_ | refine WP_skip ?_ | refine WP_exit ?_ | refine WP_ret ?_); try simp (disch := first | omega | (simp only [go_sem, ↓reduceIte, Nat.reduceEqDiff]; done) | fail) only [go_sem, ↓reduceIte, Int.reduceToNat, Int.reduceLE, Int.reduceLT, Int.reduceSub, Int.reduceAdd, Nat.reduceEqDiff, Nat.reduceAdd, Nat.reduceLeDiff, Nat.reduceLT, Nat.reduceMul, Nat.reduceSub])
    | (refine WP_condK ?_; simp (disch := first | omega | (simp only [go_sem, ↓reduceIte, Nat.reduceEqDiff]; done) | fail) only [go_sem, ↓reduceIte, Int.reduceToNat, Int.reduceLE, Int.reduceLT, Int.reduceSub, Int.reduceAdd, Nat.reduceEqDiff, Nat.reduceAdd, Nat.reduceLeDiff, Nat.reduceLT, Nat.reduceMul, Nat.reduceSub]; refine went ?_)
    | (refine hK _ _ (Wkn.refl ?_); clear hK K)
    | (clear hK K; first | (refine hK _ _ (Wkn.refl ?_); clear hK K) | (clear hK K; refine hK _ _ (Wkn.refl ?_); clear hK K))))
  refine Sat.pre (fun t => Weak.virtCell (p := h.length + 1) (v := 0) 5 1 (by omega) (by simp (disch := first | omega | (simp only [go_sem, ↓reduceIte, Nat.reduceEqDiff]; done) | fail) only [go_sem, ↓reduceIte, Int.reduceToNat, Int.reduceLE, Int.reduceLT, Int.reduceSub, Int.reduceAdd, Nat.reduceEqDiff, Nat.reduceAdd, Nat.reduceLeDiff, Nat.reduceLT, Nat.reduceMul, Nat.reduceSub]; rfl) 1 rfl) ?_
  have e1 : h ++ [Blk.row 26 4 0 [e.av], .row 73 2 0 [.agg [.nil (.pointer none), .hs (h.length + 2) 0 0 0 true]], .row 5 1 0 []] = bldH h1 [] (.nil (.pointer none)) 0 [] := by
    rw [← hh1]; simp [bldH, bldR, bufR]
  try simp (disch := first | omega | (simp only [go_sem, ↓reduceIte, Nat.reduceEqDiff]; done) | fail) only [go_sem, ↓reduceIte, Int.reduceToNat, Int.reduceLE, Int.reduceLT, Int.reduceSub, Int.reduceAdd, Nat.reduceEqDiff, Nat.reduceAdd, Nat.reduceLeDiff, Nat.reduceLT, Nat.reduceMul, Nat.reduceSub]
  rw [e1]
  refine (hw).mono ?_
  rintro r h' ⟨rfl, rfl⟩
  try simp (disch := first | omega | (simp only [go_sem, ↓reduceIte, Nat.reduceEqDiff]; done) | fail) only [go_sem, ↓reduceIte, Int.reduceToNat, Int.reduceLE, Int.reduceLT, Int.reduceSub, Int.reduceAdd, Nat.reduceEqDiff, Nat.reduceAdd, Nat.reduceLeDiff, Nat.reduceLT, Nat.reduceMul, Nat.reduceSub]
  (repeat (first
    | refine WP_seq (fun K hK => ?_)
    | refine WP_block ?_
    | refine WP_scope ?_
    | ((first | refine WP_region ?_ | refine WP_skip ?_ | refine WP_exit ?_ | refine WP_ret ?_); try simp (disch := first | omega | (simp only [go_sem, ↓reduceIte, Nat.reduceEqDiff]; done) | fail) only [go_sem, ↓reduceIte, Int.reduceToNat, Int.reduceLE, Int.reduceLT, Int.reduceSub, Int.reduceAdd, Nat.reduceEqDiff, Nat.reduceAdd, Nat.reduceLeDiff, Nat.reduceLT, Nat.reduceMul, Nat.reduceSub])
    | (refine WP_condK ?_; simp (disch := first | omega | (simp only [go_sem, ↓reduceIte, Nat.reduceEqDiff]; done) | fail) only [go_sem, ↓reduceIte, Int.reduceToNat, Int.reduceLE, Int.reduceLT, Int.reduceSub, Int.reduceAdd, Nat.reduceEqDiff, Nat.reduceAdd, Nat.reduceLeDiff, Nat.reduceLT, Nat.reduceMul, Nat.reduceSub]; refine went ?_)
    | (refine hK _ _ (Wkn.refl ?_); clear hK K)
    | (clear hK K; first | (refine hK _ _ (Wkn.refl ?_); clear hK K) | (clear hK K; refine hK _ _ (Wkn.refl ?_); clear hK K))))
  refine hS.mono ?_
  rintro r h' ⟨rfl, b2, rfl⟩
  try simp (disch := first | omega | (simp only [go_sem, ↓reduceIte, Nat.reduceEqDiff]; done) | fail) only [go_sem, ↓reduceIte, Int.reduceToNat, Int.reduceLE, Int.reduceLT, Int.reduceSub, Int.reduceAdd, Nat.reduceEqDiff, Nat.reduceAdd, Nat.reduceLeDiff, Nat.reduceLT, Nat.reduceMul, Nat.reduceSub]
  (repeat (first
    | refine WP_seq (fun K hK => ?_)
    | refine WP_block ?_
    | refine WP_scope ?_
    | ((first | refine WP_region ?_ | refine WP_skip ?_ | refine WP_exit ?_ | refine WP_ret ?_); try simp (disch := first | omega | (simp only [go_sem, ↓reduceIte, Nat.reduceEqDiff]; done) | fail) only [go_sem, ↓reduceIte, Int.reduceToNat, Int.reduceLE, Int.reduceLT, Int.reduceSub, Int.reduceAdd, Nat.reduceEqDiff, Nat.reduceAdd, Nat.reduceLeDiff, Nat.reduceLT, Nat.reduceMul, Nat.reduceSub])
    | (refine WP_condK ?_; simp (disch := first | omega | (simp only [go_sem, ↓reduceIte, Nat.reduceEqDiff]; done) | fail) only [go_sem, ↓reduceIte, Int.reduceToNat, Int.reduceLE, Int.reduceLT, Int.reduceSub, Int.reduceAdd, Nat.reduceEqDiff, Nat.reduceAdd, Nat.reduceLeDiff, Nat.reduceLT, Nat.reduceMul, Nat.reduceSub]; refine went ?_)
    | (refine hK _ _ (Wkn.refl ?_); clear hK K)
    | (clear hK K; first | (refine hK _ _ (Wkn.refl ?_); clear hK K) | (clear hK K; refine hK _ _ (Wkn.refl ?_); clear hK K))))
  rw [← hh1]
  first | refine (hQ _ _ ?_).1 | refine (hQ _ _ ?_).2
  simp (disch := first | omega | (simp only [go_sem, ↓reduceIte, Nat.reduceEqDiff]; done) | fail) only [go_sem, ↓reduceIte, Int.reduceToNat, Int.reduceLE, Int.reduceLT, Int.reduceSub, Int.reduceAdd, Nat.reduceEqDiff, Nat.reduceAdd, Nat.reduceLeDiff, Nat.reduceLT, Nat.reduceMul, Nat.reduceSub]
  exact Fin.plainE (j := [.row 26 4 0 [e.av], bldR (adrA b (h ++ [Blk.row 26 4 0 [e.av]]).length) (h.length + 2) v (allT e 1), b2]) (by simp) (.str _) ⟨rfl, rfl⟩
end Go.Av
