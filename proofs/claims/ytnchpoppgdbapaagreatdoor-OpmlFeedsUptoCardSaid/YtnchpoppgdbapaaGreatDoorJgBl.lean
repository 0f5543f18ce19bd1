/- What is written into a Builder of the call's own. -/
import Derived.Test.YtnchpoppgdbapaaGreatDoorJgNe
set_option linter.unusedSimpArgs false
set_option linter.unusedVariables false
namespace Go.Av
open Go Go.Proofs Go.RowKit
attribute [local irreducible] WP WPl WPix Sat
set_option maxRecDepth 100000
set_option maxHeartbeats 1000000

variable (G : Nat → Option (List AVal))

def bytA (b : UInt8) : AVal := .int .u8 b.toNat
/-- A Builder and its buffer, as they lie one behind the other. -/
def bldR (a : AVal) (q v : Nat) (s : Bs) : Blk := .row 73 2 0 [.agg [a, .hs q v 0 s.length true]]
def bufR (v : Nat) (s : Bs) : Blk := .row 5 1 v (s.map bytA)
def bldA (a : AVal) (p : Nat) : Prop := a = .nil (.pointer none) ∨ a = .hp p 0 0 0

theorem bytA_cells (b : UInt8) : (bytA b).cells = [bytA b] := rfl
theorem bytesA_map (s : Bs) : bytesA (s.map bytA) = some s := by
  induction s with
  | nil => rfl
  | cons b s ih =>
    have hb : (UInt8.ofNat (b.toNat : Int).toNat) = b := by simp
    simp only [List.map_cons, bytA, bytesA, hb, if_true]
    show (bytesA (s.map bytA)).map _ = _
    rw [ih]; rfl
@[go_sem] theorem getRow_bld (a : AVal) (q v : Nat) (s : Bs) (l : Heap) : getRow (bldR a q v s :: l) 0 0 = some (73, 2, [.agg [a, .hs q v 0 s.length true]]) := rfl
theorem getRow_buf (v : Nat) (s : Bs) (l : Heap) : getRow (bufR v s :: l) 0 v = some (5, 1, s.map bytA) := by simp [getRow, bufR]

theorem ptrConv_to : ptrConv Tryz.prog 70 128 73 2 = true := by kernel_rfl
theorem ptrConv_from : ptrConv Tryz.prog 128 70 73 2 = true := by kernel_rfl
theorem ptrT_b : ptrT Tryz.prog 70 = true := by kernel_rfl
attribute [go_sem] ptrConv_to ptrConv_from

theorem bld_clo (n p q v : Nat) (s : Bs) (hp : p < n) (hq : q < n) : CloB n (bldR (.hp p 0 0 0) q v s) := by
  intro r hr
  simp only [List.mem_singleton] at hr
  subst hr
  refine .agg _ fun c hc => ?_
  simp only [List.mem_cons, List.mem_nil_iff, or_false] at hc
  rcases hc with rfl | rfl
  · exact .hp _ _ _ _ hp
  · exact .hs _ _ _ _ _ hq
theorem buf_clo (n v : Nat) (s : Bs) : CloB n (bufR v s) := by
  intro r hr
  obtain ⟨b, _, rfl⟩ := List.mem_map.1 hr
  exact .int _ _

theorem abin_ptr (h : Heap) (p : Nat) (hr : (getRow h p 0).isSome = true) : abin Tryz.prog h .neq 70 (.hp p 0 0 0) (.hp p 0 0 0) = some (.bool false) := by
  simp [abin, hr, ptrT_b]
theorem abin_ptrn (h : Heap) (p : Nat) (x : TypeId × Nat × List AVal) (hr : getRow h p 0 = some x) : abin Tryz.prog h .eql 70 (.hp p 0 0 0) (.nil (.pointer none)) = some (.bool false) := by
  have hk : nilKind Tryz.prog 70 (.pointer none) = true := by kernel_rfl
  simp [abin, hk, aeqNil, hr]
theorem abin_nn (h : Heap) : abin Tryz.prog h .eql 70 (.nil (.pointer none)) (.nil (.pointer none)) = some (.bool true) := by
  have hk : nilKind Tryz.prog 70 (.pointer none) = true := by kernel_rfl
  simp [abin, hk, aeqNil]

theorem keep2 {h j : Heap} {x y x' y' : Blk} {n : Nat} (hx : CloB n x') (hy : CloB n y') : ∀ (p : Nat) (k : Blk), (h ++ x' :: y' :: j)[p]? = some k → (h ++ x :: y :: j)[p]? = some k ∨ CloB n k := by
  intro p k hk
  rcases Nat.lt_or_ge p h.length with h1 | h1
  · rw [List.getElem?_append_left h1] at hk ⊢; exact .inl hk
  · rw [List.getElem?_append_right h1] at hk ⊢
    match p - h.length, hk with
    | 0, hk => simp at hk; subst hk; exact .inr hx
    | 1, hk => simp at hk; subst hk; exact .inr hy
    | i + 2, hk => exact .inl (by simpa using hk)

/-- Heaps with a Builder in them. -/
def bldH (h j : Heap) (a : AVal) (v : Nat) (s : Bs) : Heap := h ++ bldR a (h.length + 1) v s :: bufR v s :: j
theorem bldH_len (h j : Heap) (a : AVal) (v : Nat) (s : Bs) : (bldH h j a v s).length = h.length + (2 + j.length) := by simp [bldH]; omega
theorem bldH_keep (h j : Heap) (a : AVal) (v v' : Nat) (s s' : Bs) : ∀ (p : Nat) (k : Blk), (bldH h j (.hp h.length 0 0 0) v' s')[p]? = some k → (bldH h j a v s)[p]? = some k ∨ CloB (bldH h j a v s).length k := by
  rw [bldH_len]
  exact keep2 (bld_clo _ _ _ _ _ (by omega) (by omega)) (buf_clo _ _ _)

theorem copyCheck_sat (a : AVal) (h j : Heap) (v : Nat) (s : Bs) (ha : bldA a h.length) :
    Sat (CT G) 85 [.hp h.length 0 0 0] (bldH h j a v s) (fun r h' => r = .tup [] ∧ h' = bldH h j (.hp h.length 0 0 0) v s) := by
  have hK := bldH_keep h j a v v s s
  have hl := (bldH_len h j (.hp h.length 0 0 0) v s).trans (bldH_len h j a v s).symm
  have hfin : ∀ t', Fin (bldH h j a v s) (bldH h j (.hp h.length 0 0 0) v s) (fun r h' => r = .tup [] ∧ h' = bldH h j (.hp h.length 0 0 0) v s) t' ∨ True := fun _ => .inr trivial
  have end_ : Fin (bldH h j a v s) (bldH h j (.hp h.length 0 0 0) v s) (fun r h' => r = .tup [] ∧ h' = bldH h j (.hp h.length 0 0 0) v s) (.tup []) := Fin.keep0 hl hK (.tup _ (by simp)) ⟨rfl, rfl⟩
  clear hfin hK hl
  unfold bldH at *
  refine Sat.body [] (fn := Tryz.f85) Tryz.func85 rfl rfl (by kernel_rfl) (by kernel_rfl) (by kernel_rfl) rfl ?_
  intro Q hQ
  (repeat (first
    | refine WP_seq (fun K hK => ?_)
    | refine WP_block ?_
    | refine WP_scope ?_
    | ((first | refine WP_region ?_ | refine WP_skip ?_ | refine WP_exit ?_ | refine WP_ret ?_); try simp (disch := first | omega | (simp only [go_sem, ↓reduceIte, Nat.reduceEqDiff]; done) | fail) only [go_sem, ↓reduceIte, Int.reduceToNat, Int.reduceLE, Int.reduceLT, Int.reduceSub, Int.reduceAdd, Nat.reduceEqDiff, Nat.reduceAdd, Nat.reduceLeDiff, Nat.reduceLT, Nat.reduceMul, Nat.reduceSub])
    | (refine WP_condK ?_; simp (disch := first | omega | (simp only [go_sem, ↓reduceIte, Nat.reduceEqDiff]; done) | fail) only [go_sem, ↓reduceIte, Int.reduceToNat, Int.reduceLE, Int.reduceLT, Int.reduceSub, Int.reduceAdd, Nat.reduceEqDiff, Nat.reduceAdd, Nat.reduceLeDiff, Nat.reduceLT, Nat.reduceMul, Nat.reduceSub]; refine went ?_)
    | (refine hK _ _ (Wkn.refl ?_); clear hK K)
    | (clear hK K; first | (refine hK _ _ (Wkn.refl ?_); clear hK K) | (clear hK K; refine hK _ _ (Wkn.refl ?_); clear hK K))))
  rcases ha with rfl | rfl
  · rw [binK_nnil, abin_nn]
    simp (disch := first | omega | (simp only [go_sem, ↓reduceIte, Nat.reduceEqDiff]; done) | fail) only [go_sem, ↓reduceIte, Int.reduceToNat, Int.reduceLE, Int.reduceLT, Int.reduceSub, Int.reduceAdd, Nat.reduceEqDiff, Nat.reduceAdd, Nat.reduceLeDiff, Nat.reduceLT, Nat.reduceMul, Nat.reduceSub]
    (repeat (first
      | refine WP_seq (fun K hK => ?_)
      | refine WP_block ?_
      | refine WP_scope ?_
      | ((first | refine WP_region ?_ | refine WP_skip ?_ | refine WP_exit ?_ | refine WP_ret ?_); try simp (disch := first | omega | (simp only [go_sem, ↓reduceIte, Nat.reduceEqDiff]; done) | fail) only [go_sem, ↓reduceIte, Int.reduceToNat, Int.reduceLE, Int.reduceLT, Int.reduceSub, Int.reduceAdd, Nat.reduceEqDiff, Nat.reduceAdd, Nat.reduceLeDiff, Nat.reduceLT, Nat.reduceMul, Nat.reduceSub])
      | (refine WP_condK ?_; simp (disch := first | omega | (simp only [go_sem, ↓reduceIte, Nat.reduceEqDiff]; done) | fail) only [go_sem, ↓reduceIte, Int.reduceToNat, Int.reduceLE, Int.reduceLT, Int.reduceSub, Int.reduceAdd, Nat.reduceEqDiff, Nat.reduceAdd, Nat.reduceLeDiff, Nat.reduceLT, Nat.reduceMul, Nat.reduceSub]; refine went ?_)
      | (refine hK _ _ (Wkn.refl ?_); clear hK K)
      | (clear hK K; first | (refine hK _ _ (Wkn.refl ?_); clear hK K) | (clear hK K; refine hK _ _ (Wkn.refl ?_); clear hK K))))
    refine ⟨by simp, ?_⟩
    refine (NoEscape_sat G _ _).mono ?_
    rintro r h' ⟨rfl, rfl⟩
    simp (disch := first | omega | (simp only [go_sem, ↓reduceIte, Nat.reduceEqDiff]; done) | fail) only [go_sem, ↓reduceIte, Int.reduceToNat, Int.reduceLE, Int.reduceLT, Int.reduceSub, Int.reduceAdd, Nat.reduceEqDiff, Nat.reduceAdd, Nat.reduceLeDiff, Nat.reduceLT, Nat.reduceMul, Nat.reduceSub, List.cons_ne_nil]
    refine (hQ _ _ ?_).2
    simp (disch := first | omega | (simp only [go_sem, ↓reduceIte, Nat.reduceEqDiff]; done) | fail) only [go_sem, ↓reduceIte, Int.reduceToNat, Int.reduceLE, Int.reduceLT, Int.reduceSub, Int.reduceAdd, Nat.reduceEqDiff, Nat.reduceAdd, Nat.reduceLeDiff, Nat.reduceLT, Nat.reduceMul, Nat.reduceSub]
    exact end_
  · rw [binK_nhp, abin_ptrn _ _ _ (by simp (disch := first | omega | (simp only [go_sem, ↓reduceIte, Nat.reduceEqDiff]; done) | fail) only [go_sem, ↓reduceIte, Int.reduceToNat, Int.reduceLE, Int.reduceLT, Int.reduceSub, Int.reduceAdd, Nat.reduceEqDiff, Nat.reduceAdd, Nat.reduceLeDiff, Nat.reduceLT, Nat.reduceMul, Nat.reduceSub]; rfl)]
    simp (disch := first | omega | (simp only [go_sem, ↓reduceIte, Nat.reduceEqDiff]; done) | fail) only [go_sem, ↓reduceIte, Int.reduceToNat, Int.reduceLE, Int.reduceLT, Int.reduceSub, Int.reduceAdd, Nat.reduceEqDiff, Nat.reduceAdd, Nat.reduceLeDiff, Nat.reduceLT, Nat.reduceMul, Nat.reduceSub]
    (repeat (first
      | refine WP_seq (fun K hK => ?_)
      | refine WP_block ?_
      | refine WP_scope ?_
      | ((first | refine WP_region ?_ | refine WP_skip ?_ | refine WP_exit ?_ | refine WP_ret ?_); try simp (disch := first | omega | (simp only [go_sem, ↓reduceIte, Nat.reduceEqDiff]; done) | fail) only [go_sem, ↓reduceIte, Int.reduceToNat, Int.reduceLE, Int.reduceLT, Int.reduceSub, Int.reduceAdd, Nat.reduceEqDiff, Nat.reduceAdd, Nat.reduceLeDiff, Nat.reduceLT, Nat.reduceMul, Nat.reduceSub])
      | (refine WP_condK ?_; simp (disch := first | omega | (simp only [go_sem, ↓reduceIte, Nat.reduceEqDiff]; done) | fail) only [go_sem, ↓reduceIte, Int.reduceToNat, Int.reduceLE, Int.reduceLT, Int.reduceSub, Int.reduceAdd, Nat.reduceEqDiff, Nat.reduceAdd, Nat.reduceLeDiff, Nat.reduceLT, Nat.reduceMul, Nat.reduceSub]; refine went ?_)
      | (refine hK _ _ (Wkn.refl ?_); clear hK K)
      | (clear hK K; first | (refine hK _ _ (Wkn.refl ?_); clear hK K) | (clear hK K; refine hK _ _ (Wkn.refl ?_); clear hK K))))
    rw [abin_ptr _ _ (by simp (disch := first | omega | (simp only [go_sem, ↓reduceIte, Nat.reduceEqDiff]; done) | fail) only [go_sem, ↓reduceIte, Int.reduceToNat, Int.reduceLE, Int.reduceLT, Int.reduceSub, Int.reduceAdd, Nat.reduceEqDiff, Nat.reduceAdd, Nat.reduceLeDiff, Nat.reduceLT, Nat.reduceMul, Nat.reduceSub])]
    simp (disch := first | omega | (simp only [go_sem, ↓reduceIte, Nat.reduceEqDiff]; done) | fail) only [go_sem, ↓reduceIte, Int.reduceToNat, Int.reduceLE, Int.reduceLT, Int.reduceSub, Int.reduceAdd, Nat.reduceEqDiff, Nat.reduceAdd, Nat.reduceLeDiff, Nat.reduceLT, Nat.reduceMul, Nat.reduceSub]
    (repeat (first
      | refine WP_seq (fun K hK => ?_)
      | refine WP_block ?_
      | refine WP_scope ?_
      | ((first | refine WP_region ?_ | refine WP_skip ?_ | refine WP_exit ?_ | refine WP_ret ?_); try simp (disch := first | omega | (simp only [go_sem, ↓reduceIte, Nat.reduceEqDiff]; done) | fail) only [go_sem, ↓reduceIte, Int.reduceToNat, Int.reduceLE, Int.reduceLT, Int.reduceSub, Int.reduceAdd, Nat.reduceEqDiff, Nat.reduceAdd, Nat.reduceLeDiff, Nat.reduceLT, Nat.reduceMul, Nat.reduceSub])
      | (refine WP_condK ?_; simp (disch := first | omega | (simp only [go_sem, ↓reduceIte, Nat.reduceEqDiff]; done) | fail) only [go_sem, ↓reduceIte, Int.reduceToNat, Int.reduceLE, Int.reduceLT, Int.reduceSub, Int.reduceAdd, Nat.reduceEqDiff, Nat.reduceAdd, Nat.reduceLeDiff, Nat.reduceLT, Nat.reduceMul, Nat.reduceSub]; refine went ?_)
      | (refine hK _ _ (Wkn.refl ?_); clear hK K)
      | (clear hK K; first | (refine hK _ _ (Wkn.refl ?_); clear hK K) | (clear hK K; refine hK _ _ (Wkn.refl ?_); clear hK K))))
    refine (hQ _ _ ?_).2
    simp (disch := first | omega | (simp only [go_sem, ↓reduceIte, Nat.reduceEqDiff]; done) | fail) only [go_sem, ↓reduceIte, Int.reduceToNat, Int.reduceLE, Int.reduceLT, Int.reduceSub, Int.reduceAdd, Nat.reduceEqDiff, Nat.reduceAdd, Nat.reduceLeDiff, Nat.reduceLT, Nat.reduceMul, Nat.reduceSub]
    exact end_

theorem bytes_sz : byT Tryz.prog 5 = some 1 := by kernel_rfl
theorem elems_str (h : Heap) (x : Bs) : elemsOf h 1 (.str x) = some (x.map bytA) := rfl
theorem elems_sl1 (h : Heap) (es : List AVal) : elemsOf h 1 (.sl 1 es) = some es := by simp [elemsOf]
theorem zro_u8 : (zroT Tryz.prog 5).map (fun z => z.cells.length) = some 1 := by simp only [go_sem]

theorem WriteString_sat (a : AVal) (h j : Heap) (v : Nat) (s x : Bs) (ha : bldA a h.length) (hs : s.length + x.length ≤ 1073741824) :
    Sat (CT G) 55 [.hp h.length 0 0 0, .str x] (bldH h j a v s) (fun r h' => r = .tup [.int .i64 x.length, .nil .nilIface] ∧ h' = bldH h j (.hp h.length 0 0 0) (v + 1) (s ++ x)) := by
  have end_ : Fin (bldH h j a v s) (bldH h j (.hp h.length 0 0 0) (v + 1) (s ++ x)) (fun r h' => r = .tup [.int .i64 x.length, .nil .nilIface] ∧ h' = bldH h j (.hp h.length 0 0 0) (v + 1) (s ++ x)) (.tup [.int .i64 x.length, .nil .nilIface]) :=
    Fin.keep0 ((bldH_len ..).trans (bldH_len ..).symm) (bldH_keep _ _ _ _ _ _ _) (.tup _ (by intro c hc; simp at hc; rcases hc with rfl | rfl; exact .int _ _; exact .nil _)) ⟨rfl, rfl⟩
  refine Sat.body [.tmp 4, .tmp 5] (fn := Tryz.f55) Tryz.func55 rfl rfl (by kernel_rfl) (by kernel_rfl) (by kernel_rfl) rfl ?_
  intro Q hQ
  (repeat (first
    | refine WP_seq (fun K hK => ?_)
    | refine WP_block ?_
    | refine WP_scope ?_
    | ((first | refine WP_region ?_ | refine WP_skip ?_ | refine WP_exit ?_ | refine WP_ret ?_); try simp (disch := first | omega | (simp only [go_sem, ↓reduceIte, Nat.reduceEqDiff]; done) | fail) only [go_sem, ↓reduceIte, Int.reduceToNat, Int.reduceLE, Int.reduceLT, Int.reduceSub, Int.reduceAdd, Nat.reduceEqDiff, Nat.reduceAdd, Nat.reduceLeDiff, Nat.reduceLT, Nat.reduceMul, Nat.reduceSub])
    | (refine WP_condK ?_; simp (disch := first | omega | (simp only [go_sem, ↓reduceIte, Nat.reduceEqDiff]; done) | fail) only [go_sem, ↓reduceIte, Int.reduceToNat, Int.reduceLE, Int.reduceLT, Int.reduceSub, Int.reduceAdd, Nat.reduceEqDiff, Nat.reduceAdd, Nat.reduceLeDiff, Nat.reduceLT, Nat.reduceMul, Nat.reduceSub]; refine went ?_)
    | (refine hK _ _ (Wkn.refl ?_); clear hK K)
    | (clear hK K; first | (refine hK _ _ (Wkn.refl ?_); clear hK K) | (clear hK K; refine hK _ _ (Wkn.refl ?_); clear hK K))))
  refine (copyCheck_sat G a h j v s ha).mono ?_
  rintro r h' ⟨rfl, rfl⟩
  unfold bldH at *
  try simp (disch := first | omega | (simp only [go_sem, ↓reduceIte, Nat.reduceEqDiff]; done) | fail) only [go_sem, ↓reduceIte, Int.reduceToNat, Int.reduceLE, Int.reduceLT, Int.reduceSub, Int.reduceAdd, Nat.reduceEqDiff, Nat.reduceAdd, Nat.reduceLeDiff, Nat.reduceLT, Nat.reduceMul, Nat.reduceSub]
  (repeat (first
    | refine WP_seq (fun K hK => ?_)
    | refine WP_block ?_
    | refine WP_scope ?_
    | ((first | refine WP_region ?_ | refine WP_skip ?_ | refine WP_exit ?_ | refine WP_ret ?_); try simp (disch := first | omega | (simp only [go_sem, ↓reduceIte, Nat.reduceEqDiff]; done) | fail) only [go_sem, ↓reduceIte, Int.reduceToNat, Int.reduceLE, Int.reduceLT, Int.reduceSub, Int.reduceAdd, Nat.reduceEqDiff, Nat.reduceAdd, Nat.reduceLeDiff, Nat.reduceLT, Nat.reduceMul, Nat.reduceSub])
    | (refine WP_condK ?_; simp (disch := first | omega | (simp only [go_sem, ↓reduceIte, Nat.reduceEqDiff]; done) | fail) only [go_sem, ↓reduceIte, Int.reduceToNat, Int.reduceLE, Int.reduceLT, Int.reduceSub, Int.reduceAdd, Nat.reduceEqDiff, Nat.reduceAdd, Nat.reduceLeDiff, Nat.reduceLT, Nat.reduceMul, Nat.reduceSub]; refine went ?_)
    | (refine hK _ _ (Wkn.refl ?_); clear hK K)
    | (clear hK K; first | (refine hK _ _ (Wkn.refl ?_); clear hK K) | (clear hK K; refine hK _ _ (Wkn.refl ?_); clear hK K))))
  refine appK_row (.inr (by simp (disch := first | omega | (simp only [go_sem, ↓reduceIte, Nat.reduceEqDiff]; done) | fail) only [go_sem, ↓reduceIte, Int.reduceToNat, Int.reduceLE, Int.reduceLT, Int.reduceSub, Int.reduceAdd, Nat.reduceEqDiff, Nat.reduceAdd, Nat.reduceLeDiff, Nat.reduceLT, Nat.reduceMul, Nat.reduceSub])) (by simp (disch := first | omega | (simp only [go_sem, ↓reduceIte, Nat.reduceEqDiff]; done) | fail) only [go_sem, ↓reduceIte, Int.reduceToNat, Int.reduceLE, Int.reduceLT, Int.reduceSub, Int.reduceAdd, Nat.reduceEqDiff, Nat.reduceAdd, Nat.reduceLeDiff, Nat.reduceLT, Nat.reduceMul, Nat.reduceSub]) (by simp (disch := first | omega | (simp only [go_sem, ↓reduceIte, Nat.reduceEqDiff]; done) | fail) only [go_sem, ↓reduceIte, Int.reduceToNat, Int.reduceLE, Int.reduceLT, Int.reduceSub, Int.reduceAdd, Nat.reduceEqDiff, Nat.reduceAdd, Nat.reduceLeDiff, Nat.reduceLT, Nat.reduceMul, Nat.reduceSub]) bytes_sz zro_u8 (by omega) (elems_str _ x) (by simp (disch := first | omega | (simp only [go_sem, ↓reduceIte, Nat.reduceEqDiff]; done) | fail) only [go_sem, ↓reduceIte, Int.reduceToNat, Int.reduceLE, Int.reduceLT, Int.reduceSub, Int.reduceAdd, Nat.reduceEqDiff, Nat.reduceAdd, Nat.reduceLeDiff, Nat.reduceLT, Nat.reduceMul, Nat.reduceSub, getRow_buf]; rfl) (by simp) ?_ ?_
  · simp [maxLen]; omega
  simp (disch := first | omega | (simp only [go_sem, ↓reduceIte, Nat.reduceEqDiff]; done) | fail) only [go_sem, ↓reduceIte, Int.reduceToNat, Int.reduceLE, Int.reduceLT, Int.reduceSub, Int.reduceAdd, Nat.reduceEqDiff, Nat.reduceAdd, Nat.reduceLeDiff, Nat.reduceLT, Nat.reduceMul, Nat.reduceSub]
  (repeat (first
    | refine WP_seq (fun K hK => ?_)
    | refine WP_block ?_
    | refine WP_scope ?_
    | ((first | refine WP_region ?_ | refine WP_skip ?_ | refine WP_exit ?_ | refine WP_ret ?_); try simp (disch := first | omega | (simp only [go_sem, ↓reduceIte, Nat.reduceEqDiff]; done) | fail) only [go_sem, ↓reduceIte, Int.reduceToNat, Int.reduceLE, Int.reduceLT, Int.reduceSub, Int.reduceAdd, Nat.reduceEqDiff, Nat.reduceAdd, Nat.reduceLeDiff, Nat.reduceLT, Nat.reduceMul, Nat.reduceSub])
    | (refine WP_condK ?_; simp (disch := first | omega | (simp only [go_sem, ↓reduceIte, Nat.reduceEqDiff]; done) | fail) only [go_sem, ↓reduceIte, Int.reduceToNat, Int.reduceLE, Int.reduceLT, Int.reduceSub, Int.reduceAdd, Nat.reduceEqDiff, Nat.reduceAdd, Nat.reduceLeDiff, Nat.reduceLT, Nat.reduceMul, Nat.reduceSub]; refine went ?_)
    | (refine hK _ _ (Wkn.refl ?_); clear hK K)
    | (clear hK K; first | (refine hK _ _ (Wkn.refl ?_); clear hK K) | (clear hK K; refine hK _ _ (Wkn.refl ?_); clear hK K))))
  refine (hQ _ _ ?_).1
  simp (disch := first | omega | (simp only [go_sem, ↓reduceIte, Nat.reduceEqDiff]; done) | fail) only [go_sem, ↓reduceIte, Int.reduceToNat, Int.reduceLE, Int.reduceLT, Int.reduceSub, Int.reduceAdd, Nat.reduceEqDiff, Nat.reduceAdd, Nat.reduceLeDiff, Nat.reduceLT, Nat.reduceMul, Nat.reduceSub]
  simp only [bldR, bufR, List.length_append, List.map_append, List.length_map] at end_ ⊢
  exact end_

theorem WriteByte_sat (a : AVal) (h j : Heap) (v : Nat) (s : Bs) (b : UInt8) (ha : bldA a h.length) (hs : s.length + 1 ≤ 1073741824) :
    Sat (CT G) 122 [.hp h.length 0 0 0, .int .u8 b.toNat] (bldH h j a v s) (fun r h' => r = .nil .nilIface ∧ h' = bldH h j (.hp h.length 0 0 0) (v + 1) (s ++ [b])) := by
  have end_ : Fin (bldH h j a v s) (bldH h j (.hp h.length 0 0 0) (v + 1) (s ++ [b])) (fun r h' => r = .nil .nilIface ∧ h' = bldH h j (.hp h.length 0 0 0) (v + 1) (s ++ [b])) (.nil .nilIface) :=
    Fin.keep0 ((bldH_len ..).trans (bldH_len ..).symm) (bldH_keep _ _ _ _ _ _ _) (.nil _) ⟨rfl, rfl⟩
  refine Sat.body [.tmp 4] (fn := Tryz.f122) Tryz.func122 rfl rfl (by kernel_rfl) (by kernel_rfl) (by kernel_rfl) rfl ?_
  intro Q hQ
  (repeat (first
    | refine WP_seq (fun K hK => ?_)
    | refine WP_block ?_
    | refine WP_scope ?_
    | ((first | refine WP_region ?_ | refine WP_skip ?_ | refine WP_exit ?_ | refine WP_ret ?_); try simp (disch := first | omega | (simp only [go_sem, ↓reduceIte, Nat.reduceEqDiff]; done) | fail) only [go_sem, ↓reduceIte, Int.reduceToNat, Int.reduceLE, Int.reduceLT, Int.reduceSub, Int.reduceAdd, Nat.reduceEqDiff, Nat.reduceAdd, Nat.reduceLeDiff, Nat.reduceLT, Nat.reduceMul, Nat.reduceSub])
    | (refine WP_condK ?_; simp (disch := first | omega | (simp only [go_sem, ↓reduceIte, Nat.reduceEqDiff]; done) | fail) only [go_sem, ↓reduceIte, Int.reduceToNat, Int.reduceLE, Int.reduceLT, Int.reduceSub, Int.reduceAdd, Nat.reduceEqDiff, Nat.reduceAdd, Nat.reduceLeDiff, Nat.reduceLT, Nat.reduceMul, Nat.reduceSub]; refine went ?_)
    | (refine rowsK_sl (by simp only [go_sem]; rfl) (by simp only [go_sem]; rfl) (by simp only [go_sem]; try rfl) (by simp) (by omega) (by omega) (by omega) rfl (by simp (disch := first | omega | (simp only [go_sem, ↓reduceIte, Nat.reduceEqDiff]; done) | fail) only [go_sem, ↓reduceIte, Int.reduceToNat, Int.reduceLE, Int.reduceLT, Int.reduceSub, Int.reduceAdd, Nat.reduceEqDiff, Nat.reduceAdd, Nat.reduceLeDiff, Nat.reduceLT, Nat.reduceMul, Nat.reduceSub]; try simp) ?_; try simp (disch := first | omega | (simp only [go_sem, ↓reduceIte, Nat.reduceEqDiff]; done) | fail) only [go_sem, ↓reduceIte, Int.reduceToNat, Int.reduceLE, Int.reduceLT, Int.reduceSub, Int.reduceAdd, Nat.reduceEqDiff, Nat.reduceAdd, Nat.reduceLeDiff, Nat.reduceLT, Nat.reduceMul, Nat.reduceSub])
    | (refine rowsV_sl (by simp only [go_sem]; rfl) (by simp only [go_sem]; rfl) (by simp only [go_sem]; try rfl) (by simp) (by omega) (by omega) (by omega) rfl (by simp (disch := first | omega | (simp only [go_sem, ↓reduceIte, Nat.reduceEqDiff]; done) | fail) only [go_sem, ↓reduceIte, Int.reduceToNat, Int.reduceLE, Int.reduceLT, Int.reduceSub, Int.reduceAdd, Nat.reduceEqDiff, Nat.reduceAdd, Nat.reduceLeDiff, Nat.reduceLT, Nat.reduceMul, Nat.reduceSub]; try simp) ?_; try simp (disch := first | omega | (simp only [go_sem, ↓reduceIte, Nat.reduceEqDiff]; done) | fail) only [go_sem, ↓reduceIte, Int.reduceToNat, Int.reduceLE, Int.reduceLT, Int.reduceSub, Int.reduceAdd, Nat.reduceEqDiff, Nat.reduceAdd, Nat.reduceLeDiff, Nat.reduceLT, Nat.reduceMul, Nat.reduceSub])
    | (refine hK _ _ (Wkn.refl ?_); clear hK K)
    | (clear hK K; first | (refine hK _ _ (Wkn.refl ?_); clear hK K) | (clear hK K; refine hK _ _ (Wkn.refl ?_); clear hK K))))
  refine (copyCheck_sat G a h j v s ha).mono ?_
  rintro r h' ⟨rfl, rfl⟩
  unfold bldH at *
  try simp (disch := first | omega | (simp only [go_sem, ↓reduceIte, Nat.reduceEqDiff]; done) | fail) only [go_sem, ↓reduceIte, Int.reduceToNat, Int.reduceLE, Int.reduceLT, Int.reduceSub, Int.reduceAdd, Nat.reduceEqDiff, Nat.reduceAdd, Nat.reduceLeDiff, Nat.reduceLT, Nat.reduceMul, Nat.reduceSub]
  (repeat (first
    | refine WP_seq (fun K hK => ?_)
    | refine WP_block ?_
    | refine WP_scope ?_
    | ((first | refine WP_region ?_ | refine WP_skip ?_ | refine WP_exit ?_ | refine WP_ret ?_); try simp (disch := first | omega | (simp only [go_sem, ↓reduceIte, Nat.reduceEqDiff]; done) | fail) only [go_sem, ↓reduceIte, Int.reduceToNat, Int.reduceLE, Int.reduceLT, Int.reduceSub, Int.reduceAdd, Nat.reduceEqDiff, Nat.reduceAdd, Nat.reduceLeDiff, Nat.reduceLT, Nat.reduceMul, Nat.reduceSub])
    | (refine WP_condK ?_; simp (disch := first | omega | (simp only [go_sem, ↓reduceIte, Nat.reduceEqDiff]; done) | fail) only [go_sem, ↓reduceIte, Int.reduceToNat, Int.reduceLE, Int.reduceLT, Int.reduceSub, Int.reduceAdd, Nat.reduceEqDiff, Nat.reduceAdd, Nat.reduceLeDiff, Nat.reduceLT, Nat.reduceMul, Nat.reduceSub]; refine went ?_)
    | (refine rowsK_sl (by simp only [go_sem]; rfl) (by simp only [go_sem]; rfl) (by simp only [go_sem]; try rfl) (by simp) (by omega) (by omega) (by omega) rfl (by simp (disch := first | omega | (simp only [go_sem, ↓reduceIte, Nat.reduceEqDiff]; done) | fail) only [go_sem, ↓reduceIte, Int.reduceToNat, Int.reduceLE, Int.reduceLT, Int.reduceSub, Int.reduceAdd, Nat.reduceEqDiff, Nat.reduceAdd, Nat.reduceLeDiff, Nat.reduceLT, Nat.reduceMul, Nat.reduceSub]; try simp) ?_; try simp (disch := first | omega | (simp only [go_sem, ↓reduceIte, Nat.reduceEqDiff]; done) | fail) only [go_sem, ↓reduceIte, Int.reduceToNat, Int.reduceLE, Int.reduceLT, Int.reduceSub, Int.reduceAdd, Nat.reduceEqDiff, Nat.reduceAdd, Nat.reduceLeDiff, Nat.reduceLT, Nat.reduceMul, Nat.reduceSub])
    | (refine rowsV_sl (by simp only [go_sem]; rfl) (by simp only [go_sem]; rfl) (by simp only [go_sem]; try rfl) (by simp) (by omega) (by omega) (by omega) rfl (by simp (disch := first | omega | (simp only [go_sem, ↓reduceIte, Nat.reduceEqDiff]; done) | fail) only [go_sem, ↓reduceIte, Int.reduceToNat, Int.reduceLE, Int.reduceLT, Int.reduceSub, Int.reduceAdd, Nat.reduceEqDiff, Nat.reduceAdd, Nat.reduceLeDiff, Nat.reduceLT, Nat.reduceMul, Nat.reduceSub]; try simp) ?_; try simp (disch := first | omega | (simp only [go_sem, ↓reduceIte, Nat.reduceEqDiff]; done) | fail) only [go_sem, ↓reduceIte, Int.reduceToNat, Int.reduceLE, Int.reduceLT, Int.reduceSub, Int.reduceAdd, Nat.reduceEqDiff, Nat.reduceAdd, Nat.reduceLeDiff, Nat.reduceLT, Nat.reduceMul, Nat.reduceSub])
    | (refine hK _ _ (Wkn.refl ?_); clear hK K)
    | (clear hK K; first | (refine hK _ _ (Wkn.refl ?_); clear hK K) | (clear hK K; refine hK _ _ (Wkn.refl ?_); clear hK K))))
  refine appK_row (.inl rfl) (by simp (disch := first | omega | (simp only [go_sem, ↓reduceIte, Nat.reduceEqDiff]; done) | fail) only [go_sem, ↓reduceIte, Int.reduceToNat, Int.reduceLE, Int.reduceLT, Int.reduceSub, Int.reduceAdd, Nat.reduceEqDiff, Nat.reduceAdd, Nat.reduceLeDiff, Nat.reduceLT, Nat.reduceMul, Nat.reduceSub]) (by simp (disch := first | omega | (simp only [go_sem, ↓reduceIte, Nat.reduceEqDiff]; done) | fail) only [go_sem, ↓reduceIte, Int.reduceToNat, Int.reduceLE, Int.reduceLT, Int.reduceSub, Int.reduceAdd, Nat.reduceEqDiff, Nat.reduceAdd, Nat.reduceLeDiff, Nat.reduceLT, Nat.reduceMul, Nat.reduceSub]) bytes_sz zro_u8 (by omega) (elems_sl1 _ _) (by simp (disch := first | omega | (simp only [go_sem, ↓reduceIte, Nat.reduceEqDiff]; done) | fail) only [go_sem, ↓reduceIte, Int.reduceToNat, Int.reduceLE, Int.reduceLT, Int.reduceSub, Int.reduceAdd, Nat.reduceEqDiff, Nat.reduceAdd, Nat.reduceLeDiff, Nat.reduceLT, Nat.reduceMul, Nat.reduceSub, getRow_buf]; rfl) (by simp) ?_ ?_
  · simp [maxLen]; omega
  simp (disch := first | omega | (simp only [go_sem, ↓reduceIte, Nat.reduceEqDiff]; done) | fail) only [go_sem, ↓reduceIte, Int.reduceToNat, Int.reduceLE, Int.reduceLT, Int.reduceSub, Int.reduceAdd, Nat.reduceEqDiff, Nat.reduceAdd, Nat.reduceLeDiff, Nat.reduceLT, Nat.reduceMul, Nat.reduceSub]
  (repeat (first
    | refine WP_seq (fun K hK => ?_)
    | refine WP_block ?_
    | refine WP_scope ?_
    | ((first | refine WP_region ?_ | refine WP_skip ?_ | refine WP_exit ?_ | refine WP_ret ?_); try simp (disch := first | omega | (simp only [go_sem, ↓reduceIte, Nat.reduceEqDiff]; done) | fail) only [go_sem, ↓reduceIte, Int.reduceToNat, Int.reduceLE, Int.reduceLT, Int.reduceSub, Int.reduceAdd, Nat.reduceEqDiff, Nat.reduceAdd, Nat.reduceLeDiff, Nat.reduceLT, Nat.reduceMul, Nat.reduceSub])
    | (refine WP_condK ?_; simp (disch := first | omega | (simp only [go_sem, ↓reduceIte, Nat.reduceEqDiff]; done) | fail) only [go_sem, ↓reduceIte, Int.reduceToNat, Int.reduceLE, Int.reduceLT, Int.reduceSub, Int.reduceAdd, Nat.reduceEqDiff, Nat.reduceAdd, Nat.reduceLeDiff, Nat.reduceLT, Nat.reduceMul, Nat.reduceSub]; refine went ?_)
    | (refine rowsK_sl (by simp only [go_sem]; rfl) (by simp only [go_sem]; rfl) (by simp only [go_sem]; try rfl) (by simp) (by omega) (by omega) (by omega) rfl (by simp (disch := first | omega | (simp only [go_sem, ↓reduceIte, Nat.reduceEqDiff]; done) | fail) only [go_sem, ↓reduceIte, Int.reduceToNat, Int.reduceLE, Int.reduceLT, Int.reduceSub, Int.reduceAdd, Nat.reduceEqDiff, Nat.reduceAdd, Nat.reduceLeDiff, Nat.reduceLT, Nat.reduceMul, Nat.reduceSub]; try simp) ?_; try simp (disch := first | omega | (simp only [go_sem, ↓reduceIte, Nat.reduceEqDiff]; done) | fail) only [go_sem, ↓reduceIte, Int.reduceToNat, Int.reduceLE, Int.reduceLT, Int.reduceSub, Int.reduceAdd, Nat.reduceEqDiff, Nat.reduceAdd, Nat.reduceLeDiff, Nat.reduceLT, Nat.reduceMul, Nat.reduceSub])
    | (refine rowsV_sl (by simp only [go_sem]; rfl) (by simp only [go_sem]; rfl) (by simp only [go_sem]; try rfl) (by simp) (by omega) (by omega) (by omega) rfl (by simp (disch := first | omega | (simp only [go_sem, ↓reduceIte, Nat.reduceEqDiff]; done) | fail) only [go_sem, ↓reduceIte, Int.reduceToNat, Int.reduceLE, Int.reduceLT, Int.reduceSub, Int.reduceAdd, Nat.reduceEqDiff, Nat.reduceAdd, Nat.reduceLeDiff, Nat.reduceLT, Nat.reduceMul, Nat.reduceSub]; try simp) ?_; try simp (disch := first | omega | (simp only [go_sem, ↓reduceIte, Nat.reduceEqDiff]; done) | fail) only [go_sem, ↓reduceIte, Int.reduceToNat, Int.reduceLE, Int.reduceLT, Int.reduceSub, Int.reduceAdd, Nat.reduceEqDiff, Nat.reduceAdd, Nat.reduceLeDiff, Nat.reduceLT, Nat.reduceMul, Nat.reduceSub])
    | (refine hK _ _ (Wkn.refl ?_); clear hK K)
    | (clear hK K; first | (refine hK _ _ (Wkn.refl ?_); clear hK K) | (clear hK K; refine hK _ _ (Wkn.refl ?_); clear hK K))))
  first | refine (hQ _ _ ?_).1 | refine (hQ _ _ ?_).2
  simp (disch := first | omega | (simp only [go_sem, ↓reduceIte, Nat.reduceEqDiff]; done) | fail) only [go_sem, ↓reduceIte, Int.reduceToNat, Int.reduceLE, Int.reduceLT, Int.reduceSub, Int.reduceAdd, Nat.reduceEqDiff, Nat.reduceAdd, Nat.reduceLeDiff, Nat.reduceLT, Nat.reduceMul, Nat.reduceSub]
  simp only [bldR, bufR, List.length_append, List.map_append, List.length_cons, List.length_nil, List.map_cons, List.map_nil, bytA, Nat.zero_add] at end_ ⊢
  exact end_

theorem Len_sat (a : AVal) (h j : Heap) (v : Nat) (s : Bs) : Sat (CT G) 142 [.hp h.length 0 0 0] (bldH h j a v s) (fun r h' => r = .int .i64 s.length ∧ h' = bldH h j a v s) := by
  have end_ : Fin (bldH h j a v s) (bldH h j a v s) (fun r h' => r = .int .i64 s.length ∧ h' = bldH h j a v s) (.int .i64 s.length) := Fin.same (.int _ _) ⟨rfl, rfl⟩
  unfold bldH at *
  skip
  refine Sat.body [.tmp 2] (fn := Tryz.f142) Tryz.func142 rfl rfl (by kernel_rfl) (by kernel_rfl) (by kernel_rfl) rfl ?_
  intro Q hQ
  (repeat (first
    | refine WP_seq (fun K hK => ?_)
    | refine WP_block ?_
    | refine WP_scope ?_
    | ((first | refine WP_region ?_ | refine WP_skip ?_ | refine WP_exit ?_ | refine WP_ret ?_); try simp (disch := first | omega | (simp only [go_sem, ↓reduceIte, Nat.reduceEqDiff]; done) | fail) only [go_sem, ↓reduceIte, Int.reduceToNat, Int.reduceLE, Int.reduceLT, Int.reduceSub, Int.reduceAdd, Nat.reduceEqDiff, Nat.reduceAdd, Nat.reduceLeDiff, Nat.reduceLT, Nat.reduceMul, Nat.reduceSub, getRow_buf])
    | (refine WP_condK ?_; simp (disch := first | omega | (simp only [go_sem, ↓reduceIte, Nat.reduceEqDiff]; done) | fail) only [go_sem, ↓reduceIte, Int.reduceToNat, Int.reduceLE, Int.reduceLT, Int.reduceSub, Int.reduceAdd, Nat.reduceEqDiff, Nat.reduceAdd, Nat.reduceLeDiff, Nat.reduceLT, Nat.reduceMul, Nat.reduceSub, getRow_buf]; refine went ?_)
    | (refine hK _ _ (Wkn.refl ?_); clear hK K)
    | (clear hK K; first | (refine hK _ _ (Wkn.refl ?_); clear hK K) | (clear hK K; refine hK _ _ (Wkn.refl ?_); clear hK K))))
  (repeat (first
    | refine WP_seq (fun K hK => ?_)
    | refine WP_block ?_
    | refine WP_scope ?_
    | ((first | refine WP_region ?_ | refine WP_skip ?_ | refine WP_exit ?_ | refine WP_ret ?_); try simp (disch := first | omega | (simp only [go_sem, ↓reduceIte, Nat.reduceEqDiff]; done) | fail) only [go_sem, ↓reduceIte, Int.reduceToNat, Int.reduceLE, Int.reduceLT, Int.reduceSub, Int.reduceAdd, Nat.reduceEqDiff, Nat.reduceAdd, Nat.reduceLeDiff, Nat.reduceLT, Nat.reduceMul, Nat.reduceSub, getRow_buf])
    | (refine WP_condK ?_; simp (disch := first | omega | (simp only [go_sem, ↓reduceIte, Nat.reduceEqDiff]; done) | fail) only [go_sem, ↓reduceIte, Int.reduceToNat, Int.reduceLE, Int.reduceLT, Int.reduceSub, Int.reduceAdd, Nat.reduceEqDiff, Nat.reduceAdd, Nat.reduceLeDiff, Nat.reduceLT, Nat.reduceMul, Nat.reduceSub, getRow_buf]; refine went ?_)
    | (refine hK _ _ (Wkn.refl ?_); clear hK K)
    | (clear hK K; first | (refine hK _ _ (Wkn.refl ?_); clear hK K) | (clear hK K; refine hK _ _ (Wkn.refl ?_); clear hK K))))
  first | refine (hQ _ _ ?_).1 | refine (hQ _ _ ?_).2
  simp (disch := first | omega | (simp only [go_sem, ↓reduceIte, Nat.reduceEqDiff]; done) | fail) only [go_sem, ↓reduceIte, Int.reduceToNat, Int.reduceLE, Int.reduceLT, Int.reduceSub, Int.reduceAdd, Nat.reduceEqDiff, Nat.reduceAdd, Nat.reduceLeDiff, Nat.reduceLT, Nat.reduceMul, Nat.reduceSub, getRow_buf]
  exact end_

theorem bptr_b : bptr Tryz.prog 112 5 = true := by kernel_rfl
theorem String_sat (a : AVal) (h j : Heap) (v : Nat) (s : Bs) : Sat (CT G) 57 [.hp h.length 0 0 0] (bldH h j a v s) (fun r h' => r = .str s ∧ ∃ b, h' = h ++ bldR a (h.length + 1) v s :: b :: j) := by
  unfold bldH
  skip
  refine Sat.body [.tmp 2] (fn := Tryz.f57) Tryz.func57 rfl rfl (by kernel_rfl) (by kernel_rfl) (by kernel_rfl) rfl ?_
  intro Q hQ
  (repeat (first
    | refine WP_seq (fun K hK => ?_)
    | refine WP_block ?_
    | refine WP_scope ?_
    | ((first | refine WP_region ?_ | refine WP_draw 10 (by decide +kernel) ?_ | refine WP_skip ?_ | refine WP_exit ?_ | refine WP_ret ?_); try simp (disch := first | omega | (simp only [go_sem, ↓reduceIte, Nat.reduceEqDiff]; done) | fail) only [go_sem, ↓reduceIte, Int.reduceToNat, Int.reduceLE, Int.reduceLT, Int.reduceSub, Int.reduceAdd, Nat.reduceEqDiff, Nat.reduceAdd, Nat.reduceLeDiff, Nat.reduceLT, Nat.reduceMul, Nat.reduceSub, getRow_buf])
    | (refine WP_condK ?_; simp (disch := first | omega | (simp only [go_sem, ↓reduceIte, Nat.reduceEqDiff]; done) | fail) only [go_sem, ↓reduceIte, Int.reduceToNat, Int.reduceLE, Int.reduceLT, Int.reduceSub, Int.reduceAdd, Nat.reduceEqDiff, Nat.reduceAdd, Nat.reduceLeDiff, Nat.reduceLT, Nat.reduceMul, Nat.reduceSub, getRow_buf]; refine went ?_)
    | (refine hK _ _ (Wkn.refl ?_); clear hK K)
    | (clear hK K; first | (refine hK _ _ (Wkn.refl ?_); clear hK K) | (clear hK K; refine hK _ _ (Wkn.refl ?_); clear hK K))))
  have fin : ∀ b, Fin (h ++ bldR a (h.length + 1) v s :: bufR v s :: j) (h ++ bldR a (h.length + 1) v s :: b :: j) (fun r h' => r = .str s ∧ ∃ b, h' = h ++ bldR a (h.length + 1) v s :: b :: j) (.str s) ∨ ¬ (b = bufR v s ∨ b = .dead) := fun b => by
    by_cases hb : b = bufR v s ∨ b = .dead
    · refine .inl (Fin.keep0 (by simp) (fun p k hk => ?_) (.str _) ⟨rfl, b, rfl⟩)
      rcases Nat.lt_or_ge p h.length with h1 | h1
      · rw [List.getElem?_append_left h1] at hk ⊢; exact .inl hk
      · rw [List.getElem?_append_right h1] at hk ⊢
        match p - h.length, hk with
        | 0, hk => exact .inl (by simpa using hk)
        | 1, hk =>
          simp at hk; subst hk
          rcases hb with rfl | rfl
          · exact .inl (by simp)
          · exact .inr trivial
        | i + 2, hk => exact .inl (by simpa using hk)
    · exact .inr hb
  rcases Nat.eq_zero_or_pos s.length with h0 | h0
  · have hs : s = [] := List.length_eq_zero_iff.1 h0
    subst hs
    simp (disch := first | omega | (simp only [go_sem, ↓reduceIte, Nat.reduceEqDiff]; done) | fail) only [go_sem, ↓reduceIte, Int.reduceToNat, Int.reduceLE, Int.reduceLT, Int.reduceSub, Int.reduceAdd, Nat.reduceEqDiff, Nat.reduceAdd, Nat.reduceLeDiff, Nat.reduceLT, Nat.reduceMul, Nat.reduceSub, getRow_buf, List.length_nil, Nat.lt_irrefl, Int.natCast_zero]
    (repeat (first
      | refine WP_seq (fun K hK => ?_)
      | refine WP_block ?_
      | refine WP_scope ?_
      | ((first | refine WP_region ?_ | refine WP_draw 10 (by decide +kernel) ?_ | refine WP_skip ?_ | refine WP_exit ?_ | refine WP_ret ?_); try simp (disch := first | omega | (simp only [go_sem, ↓reduceIte, Nat.reduceEqDiff]; done) | fail) only [go_sem, ↓reduceIte, Int.reduceToNat, Int.reduceLE, Int.reduceLT, Int.reduceSub, Int.reduceAdd, Nat.reduceEqDiff, Nat.reduceAdd, Nat.reduceLeDiff, Nat.reduceLT, Nat.reduceMul, Nat.reduceSub, getRow_buf])
      | (refine WP_condK ?_; simp (disch := first | omega | (simp only [go_sem, ↓reduceIte, Nat.reduceEqDiff]; done) | fail) only [go_sem, ↓reduceIte, Int.reduceToNat, Int.reduceLE, Int.reduceLT, Int.reduceSub, Int.reduceAdd, Nat.reduceEqDiff, Nat.reduceAdd, Nat.reduceLeDiff, Nat.reduceLT, Nat.reduceMul, Nat.reduceSub, getRow_buf]; refine went ?_)
      | (refine hK _ _ (Wkn.refl ?_); clear hK K)
      | (clear hK K; first | (refine hK _ _ (Wkn.refl ?_); clear hK K) | (clear hK K; refine hK _ _ (Wkn.refl ?_); clear hK K))))
    first | refine (hQ _ _ ?_).1 | refine (hQ _ _ ?_).2
    simp (disch := first | omega | (simp only [go_sem, ↓reduceIte, Nat.reduceEqDiff]; done) | fail) only [go_sem, ↓reduceIte, Int.reduceToNat, Int.reduceLE, Int.reduceLT, Int.reduceSub, Int.reduceAdd, Nat.reduceEqDiff, Nat.reduceAdd, Nat.reduceLeDiff, Nat.reduceLT, Nat.reduceMul, Nat.reduceSub, getRow_buf]
    rcases fin (bufR v []) with f | f
    · exact f
    · exact absurd (.inl rfl) f
  · simp (disch := first | omega | (simp only [go_sem, ↓reduceIte, Nat.reduceEqDiff]; done) | fail) only [go_sem, ↓reduceIte, Int.reduceToNat, Int.reduceLE, Int.reduceLT, Int.reduceSub, Int.reduceAdd, Nat.reduceEqDiff, Nat.reduceAdd, Nat.reduceLeDiff, Nat.reduceLT, Nat.reduceMul, Nat.reduceSub, getRow_buf, h0]
    refine ustrK_hp h0 (by simp (disch := first | omega | (simp only [go_sem, ↓reduceIte, Nat.reduceEqDiff]; done) | fail) only [go_sem, ↓reduceIte, Int.reduceToNat, Int.reduceLE, Int.reduceLT, Int.reduceSub, Int.reduceAdd, Nat.reduceEqDiff, Nat.reduceAdd, Nat.reduceLeDiff, Nat.reduceLT, Nat.reduceMul, Nat.reduceSub, getRow_buf]; rfl) bptr_b (by simp) (by rw [List.take_of_length_le (by simp)]; exact bytesA_map s) ?_
    try simp (disch := first | omega | (simp only [go_sem, ↓reduceIte, Nat.reduceEqDiff]; done) | fail) only [go_sem, ↓reduceIte, Int.reduceToNat, Int.reduceLE, Int.reduceLT, Int.reduceSub, Int.reduceAdd, Nat.reduceEqDiff, Nat.reduceAdd, Nat.reduceLeDiff, Nat.reduceLT, Nat.reduceMul, Nat.reduceSub, getRow_buf]
    (repeat (first
      | refine WP_seq (fun K hK => ?_)
      | refine WP_block ?_
      | refine WP_scope ?_
      | ((first | refine WP_region ?_ | refine WP_draw 10 (by decide +kernel) ?_ | refine WP_skip ?_ | refine WP_exit ?_ | refine WP_ret ?_); try simp (disch := first | omega | (simp only [go_sem, ↓reduceIte, Nat.reduceEqDiff]; done) | fail) only [go_sem, ↓reduceIte, Int.reduceToNat, Int.reduceLE, Int.reduceLT, Int.reduceSub, Int.reduceAdd, Nat.reduceEqDiff, Nat.reduceAdd, Nat.reduceLeDiff, Nat.reduceLT, Nat.reduceMul, Nat.reduceSub, getRow_buf])
      | (refine WP_condK ?_; simp (disch := first | omega | (simp only [go_sem, ↓reduceIte, Nat.reduceEqDiff]; done) | fail) only [go_sem, ↓reduceIte, Int.reduceToNat, Int.reduceLE, Int.reduceLT, Int.reduceSub, Int.reduceAdd, Nat.reduceEqDiff, Nat.reduceAdd, Nat.reduceLeDiff, Nat.reduceLT, Nat.reduceMul, Nat.reduceSub, getRow_buf]; refine went ?_)
      | (refine hK _ _ (Wkn.refl ?_); clear hK K)
      | (clear hK K; first | (refine hK _ _ (Wkn.refl ?_); clear hK K) | (clear hK K; refine hK _ _ (Wkn.refl ?_); clear hK K))))
    first | refine (hQ _ _ ?_).1 | refine (hQ _ _ ?_).2
    simp (disch := first | omega | (simp only [go_sem, ↓reduceIte, Nat.reduceEqDiff]; done) | fail) only [go_sem, ↓reduceIte, Int.reduceToNat, Int.reduceLE, Int.reduceLT, Int.reduceSub, Int.reduceAdd, Nat.reduceEqDiff, Nat.reduceAdd, Nat.reduceLeDiff, Nat.reduceLT, Nat.reduceMul, Nat.reduceSub, getRow_buf]
    rcases fin .dead with f | f
    · exact f
    · exact absurd (.inr rfl) f
end Go.Av
