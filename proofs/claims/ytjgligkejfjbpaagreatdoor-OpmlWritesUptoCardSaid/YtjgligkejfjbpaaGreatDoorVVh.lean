/- Which outlines may be, and their document; they are read: the law; and what is read, written, and read again. -/
import Derived.Test.YtjgligkejfjbpaaGreatDoorVUl
set_option linter.unusedSimpArgs false
set_option linter.unusedVariables false
namespace Go.Av
open Go Go.Proofs Go.RowKit
set_option maxRecDepth 100000
theorem cutN_all : ∀ (f : Nat) (s : Bs) (n : Nat), s.length ≤ f → s.length ≤ n → cutN f s n = s.length := by
 intro f
 induction f with
 | zero => intro s n hf _; rw [cutN]; omega
 | succ f ih =>
  intro s n hf hn
  rw [cutN]
  by_cases hs : s = []
  ·subst hs; rfl
  ·have hp := List.length_pos_iff.2 hs
   have hd := dec_pos s 0 hp
   rw [if_neg hs, if_neg (by omega), ih _ _ (by rw [List.length_drop]; omega) (by rw [List.length_drop]; omega), List.length_drop]
   omega
theorem shortF_ok {s : Bs} {n : Nat} (h : textO s n = true) : shortF s n = s := by
 unfold textO at h
 simp only [Bool.and_eq_true, decide_eq_true_eq] at h
 have hc : cutF s n = s := by unfold cutF; rw [cutN_all _ _ _ (Nat.le_refl _) h.1.1]; exact List.take_length
 unfold shortF
 rw [h.2, hc, h.2]
theorem cntGo_ok (g : List Outl → Nat) : ∀ (t : List Outl) (a : Nat), cntGo g t a ≤ 512 → (∀ o ∈ t, oneOk o = true ∧ g o.kids ≤ 512) ∧ a ≤ cntGo g t a
 | [], a, h => ⟨fun o ho => by simp at ho, Nat.le_refl _⟩
 | o :: t, a, h => by
  rw [cntGo] at h ⊢
  by_cases hk : oneOk o = true
  ·rw [if_pos hk] at h ⊢
   by_cases h5 : 512 < a + g o.kids
   ·rw [if_pos h5] at h; omega
   ·rw [if_neg h5] at h ⊢
    obtain ⟨h1, h2⟩ := cntGo_ok g t _ h
    refine ⟨fun x hx => ?_, by omega⟩
    rcases List.mem_cons.1 hx with rfl | hx
    ·exact ⟨hk, by omega⟩
    ·exact h1 x hx
  ·rw [if_neg hk] at h; omega
theorem cntN_zero {l : List Outl} (h : cntN 0 l ≤ 512) : l = [] := by
 rw [cntN] at h
 by_cases hl : l = []
 ·exact hl
 ·rw [if_neg hl] at h; omega
theorem cntN_succ {f : Nat} {l : List Outl} (h : cntN (f + 1) l ≤ 512) : (∀ o ∈ l, oneOk o = true ∧ cntN f o.kids ≤ 512) ∧ cntGo (cntN f) l l.length = cntN (f + 1) l := by
 rw [cntN] at h ⊢
 by_cases hl : 512 < l.length
 ·rw [if_pos hl] at h; omega
 ·rw [if_neg hl] at h ⊢
  exact ⟨(cntGo_ok _ l _ h).1, rfl⟩
theorem pcs_go (f : Nat) (ih : ∀ l, cntN f l ≤ 512 → (pcs f l).length ≤ 2 * cntN f l) : ∀ (t : List Outl) (a : Nat), cntGo (cntN f) t a ≤ 512 → (pcs (f + 1) t).length + 2 * a ≤ 2 * cntGo (cntN f) t a + 2 * t.length
 | [], a, _ => by simp [pcs, cntGo]
 | o :: t, a, h => by
  rw [cntGo] at h ⊢
  by_cases hk : oneOk o = true
  ·rw [if_pos hk] at h ⊢
   by_cases h5 : 512 < a + cntN f o.kids
   ·rw [if_pos h5] at h; omega
   ·rw [if_neg h5] at h ⊢
    have h1 := pcs_go f ih t _ h
    have h2 := ih o.kids (by omega)
    have e : (pcs (f + 1) (o :: t)).length = (pcs f o.kids).length + 2 + (pcs (f + 1) t).length := by
     rw [pcs, pcs, List.flatMap_cons]; simp; omega
    rw [e]; simp only [List.length_cons]; omega
  ·rw [if_neg hk] at h; omega
theorem pcs_len : ∀ (f : Nat) (l : List Outl), cntN f l ≤ 512 → (pcs f l).length ≤ 2 * cntN f l := by
 intro f
 induction f with
 | zero => intro l h; rw [cntN_zero h]; simp [pcs]
 | succ f ih =>
  intro l h
  obtain ⟨_, h1⟩ := cntN_succ h
  have := pcs_go f ih l l.length (by omega)
  omega
def atO (o : Outl) : List At := (bText, o.title) :: (if o.url = [] then [] else [(bUrl, o.url)])
def elsO : Nat → List Outl → List Elem
 | 0, _ => []
 | f + 1, l => l.map fun o => ⟨bOutline, atO o, [], elsO f o.kids⟩
theorem elL_pcs : ∀ (f d : Nat) (n : Bs) (a : List At) (x : Bs) (l : List Outl) (k : List Elem) (rest : List Tok) (g g' : Nat), f ≤ d → ((pcs f l).map (·.2) ++ rest).length < g → rest.length < g' →
  elL g d n a x k ((pcs f l).map (·.2) ++ rest) = elL g' d n a x (k ++ elsO f l) rest := by
 intro f
 induction f with
 | zero =>
  intro d n a x l k rest g g' _ hg hg'
  simp only [pcs, elsO, List.map_nil, List.nil_append, List.append_nil] at hg ⊢
  exact elL_fuel _ _ _ _ _ _ _ _ hg hg'
 | succ f ih =>
  intro d n a x l
  induction l with
  | nil =>
   intro k rest g g' _ hg hg'
   simp only [pcs, elsO, List.flatMap_nil, List.map_nil, List.nil_append, List.append_nil] at hg ⊢
   exact elL_fuel _ _ _ _ _ _ _ _ hg hg'
  | cons o l ihl =>
   intro k rest g g' hd hg hg'
   have e : (pcs (f + 1) (o :: l)).map (·.2) ++ rest = opT o :: ((pcs f o.kids).map (·.2) ++ clT :: ((pcs (f + 1) l).map (·.2) ++ rest)) := by
    rw [pcs, pcs, List.flatMap_cons]; simp
   rw [e] at hg ⊢
   simp only [List.length_cons, List.length_append, List.length_map] at hg
   obtain ⟨g, rfl⟩ : ∃ q, g = q + 1 := ⟨g - 1, by omega⟩
   have t1 : (opT o).1 = 1 := rfl
   have hi : elL g (d - 1) (opT o).2.1 (opT o).2.2.1 [] [] ((pcs f o.kids).map (·.2) ++ clT :: ((pcs (f + 1) l).map (·.2) ++ rest)) = some (⟨bOutline, atO o, [], elsO f o.kids⟩, (pcs (f + 1) l).map (·.2) ++ rest) := by
    rw [ih (d - 1) _ _ _ o.kids [] _ g (((pcs (f + 1) l).map (·.2) ++ rest).length + 2) (by omega) (by simp; omega) (by simp), elL_one]
    rfl
   rw [elL_one, if_neg (by rw [t1]; decide), if_pos t1, if_neg (by omega), hi, Option.bind_some]
   show elL g d n a x (k ++ [⟨bOutline, atO o, [], elsO f o.kids⟩]) ((pcs (f + 1) l).map (·.2) ++ rest) = _
   refine (ihl _ rest g g' hd (by simp; omega) hg').trans ?_
   rw [List.append_assoc]
   rfl
def docE (f : Nat) (l : List Outl) : Elem := ⟨bOpml, [(nVer, [50, 46, 48])], [], [⟨bBody, [], [], elsO f l⟩]⟩
theorem bldF_doc (f : Nat) (l : List Outl) (hf : f ≤ 30) : bldF ((docP f l).map (·.2)) = some (docE f l) := by
 have e : (docP f l).map (·.2) = (1, bOpml, [(nVer, [50, 46, 48])], []) :: (1, bBody, [], []) :: ((pcs f l).map (·.2) ++ [(2, bBody, [], []), (2, bOpml, [], [])]) := by simp [docP]
 unfold bldF
 rw [e]
 have b1 : (((1, bOpml, [(nVer, [50, 46, 48])], []) :: (1, bBody, [], []) :: ((pcs f l).map (·.2) ++ [(2, bBody, [], []), (2, bOpml, [], [])]) : List Tok)).dropWhile blankT = (1, bOpml, [(nVer, [50, 46, 48])], []) :: (1, bBody, [], []) :: ((pcs f l).map (·.2) ++ [(2, bBody, [], []), (2, bOpml, [], [])]) := rfl
 rw [b1, elF_cons, if_pos rfl, if_neg (by decide), elL_one, if_neg (by decide), if_pos rfl, if_neg (by decide)]
 rw [elL_pcs f 30 bBody [] [] l [] _ _ 3 hf (by simp) (by simp)]
 rfl
theorem of_els : ∀ (f g : Nat) (n : Bs) (a : List At) (x : Bs) (l : List Outl), f ≤ g → cntN f l ≤ 512 → ofF g ⟨n, a, x, elsO f l⟩ = l := by
 intro f
 induction f with
 | zero => intro g n a x l _ h; rw [cntN_zero h]; cases g <;> rfl
 | succ f ih =>
  intro g n a x l hg h
  obtain ⟨g, rfl⟩ : ∃ q, g = q + 1 := ⟨g - 1, by omega⟩
  obtain ⟨h1, _⟩ := cntN_succ h
  have hk : kidsF ⟨n, a, x, elsO (f + 1) l⟩ bOutline = elsO (f + 1) l := by
   refine List.filter_eq_self.2 fun k hk => ?_
   obtain ⟨o, _, rfl⟩ := List.mem_map.1 hk
   rfl
  rw [ofF, hk, elsO]
  have key : ∀ t : List Outl, (∀ o ∈ t, oneOk o = true ∧ cntN f o.kids ≤ 512) → (t.map fun o => (⟨bOutline, atO o, [], elsO f o.kids⟩ : Elem)).filterMap (oneO (ofF g)) = t := by
   intro t
   induction t with
   | nil => intro _; rfl
   | cons o t iht =>
    intro ht
    obtain ⟨ho, hc⟩ := ht o (List.mem_cons_self ..)
    have hq := ho
    unfold oneOk at hq
    simp only [Bool.and_eq_true, Bool.or_eq_true, decide_eq_true_eq] at hq
    obtain ⟨⟨⟨q1, q2⟩, q3⟩, q4⟩ := hq
    have a1 : attrS ⟨bOutline, atO o, [], elsO f o.kids⟩ bText 256 = o.title := by
     show shortF (attrF (atO o) bText).1 256 = _
     exact shortF_ok q2
    have a2 : attrS ⟨bOutline, atO o, [], elsO f o.kids⟩ bUrl 512 = o.url := by
     show shortF (attrF (atO o) bUrl).1 512 = _
     by_cases hu : o.url = []
     ·have : (attrF (atO o) bUrl).1 = [] := by unfold atO; rw [if_pos hu]; rfl
      rw [this, hu]; rfl
     ·have : (attrF (atO o) bUrl).1 = o.url := by unfold atO; rw [if_neg hu]; rfl
      rw [this]; exact shortF_ok q3
    have a3 : titF ⟨bOutline, atO o, [], elsO f o.kids⟩ = o.title := by
     unfold titF orF; rw [a1, if_pos q1]
    have a4 : oneO (ofF g) ⟨bOutline, atO o, [], elsO f o.kids⟩ = some o := by
     unfold oneO
     rw [a3, if_neg q1, a2, ih g _ _ _ o.kids (by omega) hc]
     have a5 : (if o.url = [] then o.kids else []) = o.kids := by
      rcases q4 with q4 | q4
      ·rw [if_pos q4]
      ·rw [q4]; split <;> rfl
     rw [a5]; cases o; rfl
    rw [List.map_cons, List.filterMap_cons_some a4, iht fun x hx => ht x (List.mem_cons_of_mem _ hx)]
  exact key l h1
theorem rdF_doc (l : List Outl) (h : okO l = true) (hs : (docF 8 l).length ≤ 65536) : rdF (docF 8 l) = (l, 0) := by
 have hc : cntN 8 l ≤ 512 := of_decide_eq_true h
 have hp := pcs_len 8 l hc
 have ht := toksF_doc 8 l hs (by simp [docP]; omega)
 have hb := bldF_doc 8 l (by omega)
 have hk : kidF (docE 8 l) bBody = (⟨bBody, [], [], elsO 8 l⟩, true) := rfl
 have hr : rdO (docE 8 l) = l := by unfold rdO; rw [hk]; exact of_els 8 40 _ _ _ l (by omega) hc
 have h0 : prsC (docF 8 l) = 0 := by unfold prsC; rw [ht, if_pos rfl]; simp only []; rw [hb]; rfl
 rw [rdF_some h0 (e := docE 8 l) (by rw [ht]; exact hb), hr]
 rw [if_pos]
 unfold goodO
 rw [hr, hk, h]
 rfl
end Go.Av
namespace Go.Av
open Go Go.Proofs Go.RowKit
attribute [local irreducible] WP WPl WPix Sat
set_option maxRecDepth 100000
set_option maxHeartbeats 1000000
variable (G : Nat → Option (List AVal))
def bldWR (a : AVal) (q v : Nat) (s : Bs) : Blk := .row 94 2 0 [.agg [a, .hs q v 0 s.length true]]
@[go_sem] theorem getRow_bldW (a : AVal) (q v : Nat) (s : Bs) (l : Heap) : getRow (bldWR a q v s :: l) 0 0 = some (94, 2, [.agg [a, .hs q v 0 s.length true]]) := rfl
theorem ptrConvW_to : ptrConv Tryz.prog 70 128 94 2 = true := by kernel_rfl
theorem ptrConvW_from : ptrConv Tryz.prog 128 70 94 2 = true := by kernel_rfl
attribute [go_sem] ptrConvW_to ptrConvW_from
theorem bldW_clo (n p q v : Nat) (s : Bs) (hp : p < n) (hq : q < n) : CloB n (bldWR (.hp p 0 0 0) q v s) := by
 intro r hr
 simp only [List.mem_singleton] at hr
 subst hr
 refine .agg _ fun c hc => ?_
 simp only [List.mem_cons, List.mem_nil_iff, or_false] at hc
 rcases hc with rfl | rfl
 ·exact .hp _ _ _ _ hp
 ·exact .hs _ _ _ _ _ hq
def bldW (h j : Heap) (a : AVal) (v : Nat) (s : Bs) : Heap := h ++ bldWR a (h.length + 1) v s :: bufR v s :: j
theorem bldW_len (h j : Heap) (a : AVal) (v : Nat) (s : Bs) : (bldW h j a v s).length = h.length + (2 + j.length) := by simp [bldW]; omega
theorem bldW_keep (h j : Heap) (a : AVal) (v v' : Nat) (s s' : Bs) : ∀ (p : Nat) (k : Blk), (bldW h j (.hp h.length 0 0 0) v' s')[p]? = some k → (bldW h j a v s)[p]? = some k ∨ CloB (bldW h j a v s).length k := by
 rw [bldW_len]
 exact keep2 (bldW_clo _ _ _ _ _ (by omega) (by omega)) (buf_clo _ _ _)
theorem copyCheckW_sat (a : AVal) (h j : Heap) (v : Nat) (s : Bs) (ha : bldA a h.length) :
  Sat (CT G) 85 [.hp h.length 0 0 0] (bldW h j a v s) (fun r h' => r = .tup [] ∧ h' = bldW h j (.hp h.length 0 0 0) v s) := by
 have hK := bldW_keep h j a v v s s
 have hl := (bldW_len h j (.hp h.length 0 0 0) v s).trans (bldW_len h j a v s).symm
 have hfin : ∀ t', Fin (bldW h j a v s) (bldW h j (.hp h.length 0 0 0) v s) (fun r h' => r = .tup [] ∧ h' = bldW h j (.hp h.length 0 0 0) v s) t' ∨ True := fun _ => .inr trivial
 have end_ : Fin (bldW h j a v s) (bldW h j (.hp h.length 0 0 0) v s) (fun r h' => r = .tup [] ∧ h' = bldW h j (.hp h.length 0 0 0) v s) (.tup []) := Fin.keep0 hl hK (.tup _ (by simp)) ⟨rfl, rfl⟩
 clear hfin hK hl
 unfold bldW at *
 refine sb [] (fn := Tryz.f85) Tryz.func85 ?_
 intro Q hQ
 (repeat (first | refine w1 (fun K hK => ?_) | refine w2 ?_ | refine w3 ?_ | ((first | refine w4 ?_ | refine wD ?_ | refine w5 ?_ | refine w6 ?_ | refine w7 ?_); try refine sqo trivial ?_) | (refine w8 ?_; refine sqo trivial ?_; refine w9 ?_) | ((first | refine hK _ _ (w0 ?_) | (clear hK K; refine hK _ _ (w0 ?_)) | (clear hK K; clear hK K; refine hK _ _ (w0 ?_))); clear hK K)))
 rcases ha with rfl | rfl
 ·rw [binK_nnil, abin_nn]
  simp (disch := first | omega | (simp only [go_sem, ↓reduceIte, Nat.reduceEqDiff]; done) | fail) only [go_sem, ↓reduceIte, Int.reduceToNat, Int.reduceLE, Int.reduceLT, Int.reduceSub, Int.reduceAdd, Nat.reduceEqDiff, Nat.reduceAdd, Nat.reduceLeDiff, Nat.reduceLT, Nat.reduceMul, Nat.reduceSub]
  (repeat (first | refine w1 (fun K hK => ?_) | refine w2 ?_ | refine w3 ?_ | ((first | refine w4 ?_ | refine wD ?_ | refine w5 ?_ | refine w6 ?_ | refine w7 ?_); try refine sqo trivial ?_) | (refine w8 ?_; refine sqo trivial ?_; refine w9 ?_) | ((first | refine hK _ _ (w0 ?_) | (clear hK K; refine hK _ _ (w0 ?_)) | (clear hK K; clear hK K; refine hK _ _ (w0 ?_))); clear hK K)))
  refine ⟨by simp, ?_⟩
  refine (NoEscape_sat G _ _).mono ?_
  rintro r h' ⟨rfl, rfl⟩
  simp (disch := first | omega | (simp only [go_sem, ↓reduceIte, Nat.reduceEqDiff]; done) | fail) only [go_sem, ↓reduceIte, Int.reduceToNat, Int.reduceLE, Int.reduceLT, Int.reduceSub, Int.reduceAdd, Nat.reduceEqDiff, Nat.reduceAdd, Nat.reduceLeDiff, Nat.reduceLT, Nat.reduceMul, Nat.reduceSub, List.cons_ne_nil]
  refine (hQ _ _ ?_).2
  simp (disch := first | omega | (simp only [go_sem, ↓reduceIte, Nat.reduceEqDiff]; done) | fail) only [go_sem, ↓reduceIte, Int.reduceToNat, Int.reduceLE, Int.reduceLT, Int.reduceSub, Int.reduceAdd, Nat.reduceEqDiff, Nat.reduceAdd, Nat.reduceLeDiff, Nat.reduceLT, Nat.reduceMul, Nat.reduceSub]
  exact end_
 ·rw [binK_nhp, abin_ptrn _ _ _ (by simp (disch := first | omega | (simp only [go_sem, ↓reduceIte, Nat.reduceEqDiff]; done) | fail) only [go_sem, ↓reduceIte, Int.reduceToNat, Int.reduceLE, Int.reduceLT, Int.reduceSub, Int.reduceAdd, Nat.reduceEqDiff, Nat.reduceAdd, Nat.reduceLeDiff, Nat.reduceLT, Nat.reduceMul, Nat.reduceSub]; rfl)]
  simp (disch := first | omega | (simp only [go_sem, ↓reduceIte, Nat.reduceEqDiff]; done) | fail) only [go_sem, ↓reduceIte, Int.reduceToNat, Int.reduceLE, Int.reduceLT, Int.reduceSub, Int.reduceAdd, Nat.reduceEqDiff, Nat.reduceAdd, Nat.reduceLeDiff, Nat.reduceLT, Nat.reduceMul, Nat.reduceSub]
  (repeat (first | refine w1 (fun K hK => ?_) | refine w2 ?_ | refine w3 ?_ | ((first | refine w4 ?_ | refine wD ?_ | refine w5 ?_ | refine w6 ?_ | refine w7 ?_); try refine sqo trivial ?_) | (refine w8 ?_; refine sqo trivial ?_; refine w9 ?_) | ((first | refine hK _ _ (w0 ?_) | (clear hK K; refine hK _ _ (w0 ?_)) | (clear hK K; clear hK K; refine hK _ _ (w0 ?_))); clear hK K)))
  rw [abin_ptr _ _ (by exact zqo trivial)]
  simp (disch := first | omega | (simp only [go_sem, ↓reduceIte, Nat.reduceEqDiff]; done) | fail) only [go_sem, ↓reduceIte, Int.reduceToNat, Int.reduceLE, Int.reduceLT, Int.reduceSub, Int.reduceAdd, Nat.reduceEqDiff, Nat.reduceAdd, Nat.reduceLeDiff, Nat.reduceLT, Nat.reduceMul, Nat.reduceSub]
  (repeat (first | refine w1 (fun K hK => ?_) | refine w2 ?_ | refine w3 ?_ | ((first | refine w4 ?_ | refine wD ?_ | refine w5 ?_ | refine w6 ?_ | refine w7 ?_); try refine sqo trivial ?_) | (refine w8 ?_; refine sqo trivial ?_; refine w9 ?_) | ((first | refine hK _ _ (w0 ?_) | (clear hK K; refine hK _ _ (w0 ?_)) | (clear hK K; clear hK K; refine hK _ _ (w0 ?_))); clear hK K)))
  refine (hQ _ _ ?_).2
  simp (disch := first | omega | (simp only [go_sem, ↓reduceIte, Nat.reduceEqDiff]; done) | fail) only [go_sem, ↓reduceIte, Int.reduceToNat, Int.reduceLE, Int.reduceLT, Int.reduceSub, Int.reduceAdd, Nat.reduceEqDiff, Nat.reduceAdd, Nat.reduceLeDiff, Nat.reduceLT, Nat.reduceMul, Nat.reduceSub]
  exact end_
theorem WriteStringW_sat (a : AVal) (h j : Heap) (v : Nat) (s x : Bs) (ha : bldA a h.length) (hs : s.length + x.length ≤ 1073741824) :
  Sat (CT G) 55 [.hp h.length 0 0 0, .str x] (bldW h j a v s) (fun r h' => r = .tup [.int .i64 x.length, .nil .nilIface] ∧ h' = bldW h j (.hp h.length 0 0 0) (v + 1) (s ++ x)) := by
 have end_ : Fin (bldW h j a v s) (bldW h j (.hp h.length 0 0 0) (v + 1) (s ++ x)) (fun r h' => r = .tup [.int .i64 x.length, .nil .nilIface] ∧ h' = bldW h j (.hp h.length 0 0 0) (v + 1) (s ++ x)) (.tup [.int .i64 x.length, .nil .nilIface]) :=
  Fin.keep0 ((bldW_len ..).trans (bldW_len ..).symm) (bldW_keep _ _ _ _ _ _ _) (.tup _ (by intro c hc; simp at hc; rcases hc with rfl | rfl; exact .int _ _; exact .nil _)) ⟨rfl, rfl⟩
 refine sb [.tmp 4, .tmp 5] (fn := Tryz.f55) Tryz.func55 ?_
 intro Q hQ
 refine wko trivial ?_
 refine (copyCheckW_sat G a h j v s ha).mono ?_
 rintro r h' ⟨rfl, rfl⟩
 unfold bldW at *
 try refine sqo trivial ?_
 refine wko trivial ?_
 refine appK_row (.inr (by exact zqo trivial)) (by exact zqo trivial) (by exact zqo trivial) bytes_sz zro_u8 (by omega) (elems_str _ x) (by simp (disch := first | omega | (simp only [go_sem, ↓reduceIte, Nat.reduceEqDiff]; done) | fail) only [go_sem, ↓reduceIte, Int.reduceToNat, Int.reduceLE, Int.reduceLT, Int.reduceSub, Int.reduceAdd, Nat.reduceEqDiff, Nat.reduceAdd, Nat.reduceLeDiff, Nat.reduceLT, Nat.reduceMul, Nat.reduceSub, getRow_buf]; rfl) (by simp) ?_ ?_
 ·simp [maxLen]; omega
 simp (disch := first | omega | (simp only [go_sem, ↓reduceIte, Nat.reduceEqDiff]; done) | fail) only [go_sem, ↓reduceIte, Int.reduceToNat, Int.reduceLE, Int.reduceLT, Int.reduceSub, Int.reduceAdd, Nat.reduceEqDiff, Nat.reduceAdd, Nat.reduceLeDiff, Nat.reduceLT, Nat.reduceMul, Nat.reduceSub]
 refine wko trivial ?_
 refine (hQ _ _ ?_).1
 simp (disch := first | omega | (simp only [go_sem, ↓reduceIte, Nat.reduceEqDiff]; done) | fail) only [go_sem, ↓reduceIte, Int.reduceToNat, Int.reduceLE, Int.reduceLT, Int.reduceSub, Int.reduceAdd, Nat.reduceEqDiff, Nat.reduceAdd, Nat.reduceLeDiff, Nat.reduceLT, Nat.reduceMul, Nat.reduceSub]
 simp only [bldWR, bufR, List.length_append, List.map_append, List.length_map] at end_ ⊢
 exact end_
theorem StringW_sat (a : AVal) (h j : Heap) (v : Nat) (s : Bs) : Sat (CT G) 57 [.hp h.length 0 0 0] (bldW h j a v s) (fun r h' => r = .str s ∧ ∃ b, h' = h ++ bldWR a (h.length + 1) v s :: b :: j) := by
 unfold bldW
 have F := @getRow_buf
 refine sb [.tmp 2] (fn := Tryz.f57) Tryz.func57 ?_
 intro Q hQ
 refine wko F ?_
 have fin : ∀ b, Fin (h ++ bldWR a (h.length + 1) v s :: bufR v s :: j) (h ++ bldWR a (h.length + 1) v s :: b :: j) (fun r h' => r = .str s ∧ ∃ b, h' = h ++ bldWR a (h.length + 1) v s :: b :: j) (.str s) ∨ ¬ (b = bufR v s ∨ b = .dead) := fun b => by
  by_cases hb : b = bufR v s ∨ b = .dead
  ·refine .inl (Fin.keep0 (by simp) (fun p k hk => ?_) (.str _) ⟨rfl, b, rfl⟩)
   rcases Nat.lt_or_ge p h.length with h1 | h1
   ·rw [List.getElem?_append_left h1] at hk ⊢; exact .inl hk
   ·rw [List.getElem?_append_right h1] at hk ⊢
    match p - h.length, hk with
    | 0, hk => exact .inl (by simpa using hk)
    | 1, hk =>
     simp at hk; subst hk
     rcases hb with rfl | rfl
     ·exact .inl (by simp)
     ·exact .inr trivial
    | i + 2, hk => exact .inl (by simpa using hk)
  ·exact .inr hb
 rcases Nat.eq_zero_or_pos s.length with h0 | h0
 ·have hs : s = [] := List.length_eq_zero_iff.1 h0
  subst hs
  simp (disch := first | omega | (simp only [go_sem, ↓reduceIte, Nat.reduceEqDiff]; done) | fail) only [go_sem, ↓reduceIte, Int.reduceToNat, Int.reduceLE, Int.reduceLT, Int.reduceSub, Int.reduceAdd, Nat.reduceEqDiff, Nat.reduceAdd, Nat.reduceLeDiff, Nat.reduceLT, Nat.reduceMul, Nat.reduceSub, F, List.length_nil, Nat.lt_irrefl, Int.natCast_zero]
  refine wko F ?_
  refine eeo hQ F ?_
  rcases fin (bufR v []) with f | f
  ·exact f
  ·exact absurd (.inl rfl) f
 ·simp (disch := first | omega | (simp only [go_sem, ↓reduceIte, Nat.reduceEqDiff]; done) | fail) only [go_sem, ↓reduceIte, Int.reduceToNat, Int.reduceLE, Int.reduceLT, Int.reduceSub, Int.reduceAdd, Nat.reduceEqDiff, Nat.reduceAdd, Nat.reduceLeDiff, Nat.reduceLT, Nat.reduceMul, Nat.reduceSub, F, h0]
  refine ustrK_hp h0 (by simp (disch := first | omega | (simp only [go_sem, ↓reduceIte, Nat.reduceEqDiff]; done) | fail) only [go_sem, ↓reduceIte, Int.reduceToNat, Int.reduceLE, Int.reduceLT, Int.reduceSub, Int.reduceAdd, Nat.reduceEqDiff, Nat.reduceAdd, Nat.reduceLeDiff, Nat.reduceLT, Nat.reduceMul, Nat.reduceSub, F]; rfl) bptr_b (by simp) (by rw [List.take_of_length_le (by simp)]; exact bytesA_map s) ?_
  try refine sqo F ?_
  refine wko F ?_
  refine eeo hQ F ?_
  rcases fin .dead with f | f
  ·exact f
  ·exact absurd (.inr rfl) f
end Go.Av
namespace Go.Av
open Go Go.Proofs Go.RowKit
attribute [local irreducible] WP WPl WPix Sat
set_option maxRecDepth 100000
set_option maxHeartbeats 1000000
variable (G : Nat → Option (List AVal))
theorem esc_next {s : Bs} {k : Nat} {y : UInt8} (hy : s[k]? = some y) {e : Bs} (he : escB y = e) : escF (s.take (k + 1)) = escF (s.take k) ++ e := by
 rw [List.take_add_one, hy, ← he]; exact escF_snoc _ _
theorem esc_take (s : Bs) (k : Nat) : (escF (s.take k)).length ≤ 6 * s.length := by
 have h1 := (escF_len (s.take k)).1
 have h2 : (s.take k).length ≤ s.length := by rw [List.length_take]; omega
 omega
theorem byte_is {y : UInt8} {k : Nat} (hk : k < 256) (h : (y.toNat : Int) = (k : Int)) : y = UInt8.ofNat k := by
 apply UInt8.toNat_inj.1
 rw [UInt8.toNat_ofNat', Nat.mod_eq_of_lt hk]; omega
theorem esc_is {y : UInt8} {e : Bs} (k : Nat) (hk : k < 256) (h : (y.toNat : Int) = (k : Int)) (he : escB (UInt8.ofNat k) = e) : escB y = e := by rw [byte_is hk h]; exact he
theorem byte_no {y : UInt8} {k : Nat} (hk : k < 256) (h : ¬ (y.toNat : Int) = (k : Int)) : y ≠ UInt8.ofNat k := by
 rintro rfl
 apply h
 rw [UInt8.toNat_ofNat', Nat.mod_eq_of_lt hk]
theorem esc_no {y : UInt8} (c1 : ¬ (y.toNat : Int) = 38) (c2 : ¬ (y.toNat : Int) = 60) (c3 : ¬ (y.toNat : Int) = 62) (c4 : ¬ (y.toNat : Int) = 34) (c5 : ¬ (y.toNat : Int) = 39) : escB y = [y] := by
 have h1 : y ≠ 38 := byte_no (k := 38) (by omega) c1
 have h2 : y ≠ 60 := byte_no (k := 60) (by omega) c2
 have h3 : y ≠ 62 := byte_no (k := 62) (by omega) c3
 have h4 : y ≠ 34 := byte_no (k := 34) (by omega) c4
 have h5 : y ≠ 39 := byte_no (k := 39) (by omega) c5
 unfold escB
 rw [if_neg h1, if_neg h2, if_neg h3, if_neg h4, if_neg h5]
theorem EWrite_sat (s : Bs) (hs : s.length ≤ 1048576) (h : Heap) : Sat (CT G) 95 [.str s] h (fun r h' => r = .str (escF s) ∧ h' = h) := by
 refine sb [.tmp 2] (fn := Tryz.f95) Tryz.func95 ?_
 intro Q hQ
 refine wk trivial ?_
 refine lm (fun nL tL hL => ∃ (k v : Nat) (a : AVal), s.length - k = nL ∧ bldH h [] a v (escF (s.take k)) = hL ∧ tL 7 = .int .i64 k ∧ bldA a h.length ∧ k ≤ s.length) ((fun (k v : Nat) (a : AVal) => (s.length - k : Nat)) (0) (0) ((.nil (.pointer none)))) ?_ ?_
 ·refine ⟨_, _, Weak.virtCell (p := h.length) (v := 0) 5 1 (by omega) (by simp (disch := first | omega | (simp only [go_sem, ↓reduceIte, seval]; first | done | omega) | fail) only [go_sem, ↓reduceIte, seval]; rfl) 1 rfl, ⟨0, 0, (.nil (.pointer none)), rfl, hpE, ?_, .inl rfl, by omega⟩⟩
  all_goals first | exact zq trivial | rfl | omega | trivial | skip
 rintro _ s2 h' ⟨k, v, a, rfl, rfl, e7, ha, hk⟩ K2 hK2
 simp only [mix_cons, mix_nil, Nat.reduceEqDiff, ↓reduceIte] at e7
 have F := e7
 have hel := esc_take s k
 refine wk F ?_
 refine cq F (fun c0 => ?_) (fun c0 => ?_) <;> (try exact c0.elim) <;> (refine wk F ?_)
 ·obtain ⟨y, hy, hym⟩ := getElem?_of_lt c0
  have nx := @esc_next s k y hy
  have F := F2 F hy
  try refine sq F ?_
  refine wk F ?_
  refine cq F (fun c1 => ?_) (fun c1 => ?_) <;> (try exact c1.elim) <;> (refine wk F ?_)
  ·refine kq F (WriteString_sat G a h [] v (escF (s.take k)) [38, 97, 109, 112, 59] ha (by simp; omega)) ?_
   refine hK2 _ _ _ (Wkn.refl ⟨k + 1, v + 1, (.hp h.length 0 0 0), rfl, by rw [@nx [38, 97, 109, 112, 59] (esc_is 38 (by omega) c1 rfl)], ?_, .inr rfl, by omega⟩) (by omega)
   all_goals first | exact zq F | rfl | omega | trivial | skip
  refine cq F (fun c2 => ?_) (fun c2 => ?_) <;> (try exact c2.elim) <;> (refine wk F ?_)
  ·refine kq F (WriteString_sat G a h [] v (escF (s.take k)) [38, 108, 116, 59] ha (by simp; omega)) ?_
   refine hK2 _ _ _ (Wkn.refl ⟨k + 1, v + 1, (.hp h.length 0 0 0), rfl, by rw [@nx [38, 108, 116, 59] (esc_is 60 (by omega) c2 rfl)], ?_, .inr rfl, by omega⟩) (by omega)
   all_goals first | exact zq F | rfl | omega | trivial | skip
  refine cq F (fun c3 => ?_) (fun c3 => ?_) <;> (try exact c3.elim) <;> (refine wk F ?_)
  ·refine kq F (WriteString_sat G a h [] v (escF (s.take k)) [38, 103, 116, 59] ha (by simp; omega)) ?_
   refine hK2 _ _ _ (Wkn.refl ⟨k + 1, v + 1, (.hp h.length 0 0 0), rfl, by rw [@nx [38, 103, 116, 59] (esc_is 62 (by omega) c3 rfl)], ?_, .inr rfl, by omega⟩) (by omega)
   all_goals first | exact zq F | rfl | omega | trivial | skip
  refine cq F (fun c4 => ?_) (fun c4 => ?_) <;> (try exact c4.elim) <;> (refine wk F ?_)
  ·refine kq F (WriteString_sat G a h [] v (escF (s.take k)) [38, 113, 117, 111, 116, 59] ha (by simp; omega)) ?_
   refine hK2 _ _ _ (Wkn.refl ⟨k + 1, v + 1, (.hp h.length 0 0 0), rfl, by rw [@nx [38, 113, 117, 111, 116, 59] (esc_is 34 (by omega) c4 rfl)], ?_, .inr rfl, by omega⟩) (by omega)
   all_goals first | exact zq F | rfl | omega | trivial | skip
  refine cq F (fun c5 => ?_) (fun c5 => ?_) <;> (try exact c5.elim) <;> (refine wk F ?_)
  ·refine kq F (WriteString_sat G a h [] v (escF (s.take k)) [38, 97, 112, 111, 115, 59] ha (by simp; omega)) ?_
   refine hK2 _ _ _ (Wkn.refl ⟨k + 1, v + 1, (.hp h.length 0 0 0), rfl, by rw [@nx [38, 97, 112, 111, 115, 59] (esc_is 39 (by omega) c5 rfl)], ?_, .inr rfl, by omega⟩) (by omega)
   all_goals first | exact zq F | rfl | omega | trivial | skip
  ·have e := esc_no c1 c2 c3 c4 c5
   refine kq F (WriteByte_sat G a h [] v (escF (s.take k)) y ha (by omega)) ?_
   refine hK2 _ _ _ (Wkn.refl ⟨k + 1, v + 1, (.hp h.length 0 0 0), rfl, by rw [nx e], ?_, .inr rfl, by omega⟩) (by omega)
   all_goals first | exact zq F | rfl | omega | trivial | skip
 ·have e : s.take k = s := List.take_of_length_le (by omega)
  refine (String_sat G a h [] v (escF (s.take k))).mono ?_
  rintro r h' ⟨rfl, b2, rfl⟩
  try refine sq F ?_
  refine wk F ?_
  refine ee hQ F ?_
  exact Fin.plainE (j := [bldR a (h.length + 1) v (escF (s.take k)), b2]) (by simp) (.str _) ⟨by rw [e], rfl⟩
theorem rEWrite_sat (s : Bs) (hs : s.length ≤ 1048576) (h : Heap) : Sat (CT G) 97 [.str s] h (fun r h' => r = .str (escF s) ∧ h' = h) := by
 refine sb [.tmp 2] (fn := Tryz.f97) Tryz.func97 ?_
 intro Q hQ
 refine wk trivial ?_
 refine lm (fun nL tL hL => ∃ (k : Nat), s.length - k = nL ∧ h = hL ∧ tL 3 = .str (escF (s.take k)) ∧ tL 4 = .int .i64 k ∧ k ≤ s.length) ((fun (k : Nat) => (s.length - k : Nat)) (0)) ?_ ?_
 ·refine Wkn.refl ⟨0, rfl, hpE, ?_, ?_, by omega⟩
  all_goals first | exact zq trivial | rfl | omega | trivial | skip
 rintro _ s2 h' ⟨k, rfl, rfl, e3, e4, hk⟩ K2 hK2
 simp only [mix_cons, mix_nil, Nat.reduceEqDiff, ↓reduceIte] at e3 e4
 have F := F2 e3 e4
 have hel := esc_take s k
 refine wk F ?_
 refine cq F (fun c0 => ?_) (fun c0 => ?_) <;> (try exact c0.elim) <;> (refine wk F ?_)
 ·obtain ⟨y, hy, hym⟩ := getElem?_of_lt c0
  have nx := @esc_next s k y hy
  have hsl : (s.take (k + 1)).drop k = [y] := by rw [List.take_add_one, hy, List.drop_append_of_le_length (by rw [List.length_take]; omega), List.drop_eq_nil_of_le (by rw [List.length_take]; omega)]; rfl
  have F := F2 F hy
  try refine sq F ?_
  refine wk F ?_
  refine cq F (fun c1 => ?_) (fun c1 => ?_) <;> (try exact c1.elim) <;> (refine wk F ?_)
  ·rw [← @nx [38, 97, 109, 112, 59] (esc_is 38 (by omega) c1 rfl)]
   refine hK2 _ _ _ (Wkn.refl ⟨k + 1, rfl, hpE, ?_, ?_, by omega⟩) (by omega)
   all_goals first | exact zq F | rfl | omega | trivial | skip
  refine cq F (fun c2 => ?_) (fun c2 => ?_) <;> (try exact c2.elim) <;> (refine wk F ?_)
  ·rw [← @nx [38, 108, 116, 59] (esc_is 60 (by omega) c2 rfl)]
   refine hK2 _ _ _ (Wkn.refl ⟨k + 1, rfl, hpE, ?_, ?_, by omega⟩) (by omega)
   all_goals first | exact zq F | rfl | omega | trivial | skip
  refine cq F (fun c3 => ?_) (fun c3 => ?_) <;> (try exact c3.elim) <;> (refine wk F ?_)
  ·rw [← @nx [38, 103, 116, 59] (esc_is 62 (by omega) c3 rfl)]
   refine hK2 _ _ _ (Wkn.refl ⟨k + 1, rfl, hpE, ?_, ?_, by omega⟩) (by omega)
   all_goals first | exact zq F | rfl | omega | trivial | skip
  refine cq F (fun c4 => ?_) (fun c4 => ?_) <;> (try exact c4.elim) <;> (refine wk F ?_)
  ·rw [← @nx [38, 113, 117, 111, 116, 59] (esc_is 34 (by omega) c4 rfl)]
   refine hK2 _ _ _ (Wkn.refl ⟨k + 1, rfl, hpE, ?_, ?_, by omega⟩) (by omega)
   all_goals first | exact zq F | rfl | omega | trivial | skip
  refine cq F (fun c5 => ?_) (fun c5 => ?_) <;> (try exact c5.elim) <;> (refine wk F ?_)
  ·rw [← @nx [38, 97, 112, 111, 115, 59] (esc_is 39 (by omega) c5 rfl)]
   refine hK2 _ _ _ (Wkn.refl ⟨k + 1, rfl, hpE, ?_, ?_, by omega⟩) (by omega)
   all_goals first | exact zq F | rfl | omega | trivial | skip
  ·have e := esc_no c1 c2 c3 c4 c5
   rw [hsl, if_pos (by simp only [List.length_cons, List.length_nil]; omega), ← nx e]
   try refine sq F ?_
   refine wk F ?_
   refine hK2 _ _ _ (Wkn.refl ⟨k + 1, rfl, hpE, ?_, ?_, by omega⟩) (by omega)
   all_goals first | exact zq F | rfl | omega | trivial | skip
 ·have e : s.take k = s := List.take_of_length_le (by omega)
  rw [e]
  refine ee hQ F ?_
  refine fR (.str _) ?_
  rfl
end Go.Av
namespace Go.Av
open Go Go.Proofs Go.RowKit
attribute [local irreducible] WP WPl WPix Sat
set_option maxRecDepth 100000
set_option maxHeartbeats 1000000
variable (G : Nat → Option (List AVal))
def wrF (f : Nat) (l : List Outl) : Bs := (pcs f l).flatMap (·.1)
def wrG (g : Outl → Bs) (l : List Outl) : Bs := l.flatMap fun o => opB o ++ (g o ++ q4)
theorem wrF_succ (f : Nat) (l : List Outl) : wrF (f + 1) l = wrG (fun o => wrF f o.kids) l := by
 unfold wrF wrG
 rw [pcs, List.flatMap_assoc]
 congr 1
 funext o
 simp [wrF]
theorem wrG_take {g : Outl → Bs} {l : List Outl} {k : Nat} {o : Outl} (hy : l[k]? = some o) : wrG g (l.take (k + 1)) = wrG g (l.take k) ++ (opB o ++ (g o ++ q4)) := by
 rw [List.take_add_one, hy]; simp [wrG]
theorem wrG_le (g : Outl → Bs) (l : List Outl) (k : Nat) : (wrG g (l.take k)).length ≤ (wrG g l).length := by
 have : wrG g l = wrG g (l.take k) ++ wrG g (l.drop k) := by
  unfold wrG; rw [← List.flatMap_append, List.take_append_drop]
 rw [this, List.length_append]; omega
theorem wrG_mem (g : Outl → Bs) : ∀ {l : List Outl} {o : Outl}, o ∈ l → (g o).length ≤ (wrG g l).length
 | x :: l, o, h => by
  have e : wrG g (x :: l) = opB x ++ (g x ++ q4) ++ wrG g l := by simp [wrG]
  rw [e, List.length_append, List.length_append, List.length_append]
  rcases List.mem_cons.1 h with rfl | h
  ·omega
  ·have := wrG_mem g h; omega
theorem opB_len (o : Outl) : (opB o).length = 17 + (escF o.title).length + (if o.url = [] then 0 else 10 + (escF o.url).length) := by
 unfold opB; split <;> simp [q1, q2, q3] <;> omega
theorem wrF_len : ∀ (f : Nat) (l : List Outl), (wrF f l).length ≤ 6 * szs Outl.sz l + 31 * (pcs f l).length := by
 intro f
 induction f with
 | zero => intro l; simp [wrF, pcs]
 | succ f ih =>
  intro l
  induction l with
  | nil => simp [wrF, pcs]
  | cons o l ihl =>
   have e1 : wrF (f + 1) (o :: l) = opB o ++ (wrF f o.kids ++ q4) ++ wrF (f + 1) l := by rw [wrF_succ, wrF_succ]; simp [wrG]
   have e2 : (pcs (f + 1) (o :: l)).length = (pcs f o.kids).length + 2 + (pcs (f + 1) l).length := by rw [pcs, pcs, List.flatMap_cons]; simp; omega
   have h1 := opB_len o
   have h2 := escF_len o.title
   have h3 := escF_len o.url
   have h4 := ih o.kids
   have h5 := o.sz_eq
   have h6 : (opB o).length ≤ 27 + (escF o.title).length + (escF o.url).length := by rw [h1]; split <;> omega
   rw [e1, e2, szs]
   simp only [List.length_append, show q4.length = 10 from rfl]
   omega
theorem docF_eq (f : Nat) (l : List Outl) : docF f l = (q5 ++ q6) ++ wrF f l ++ (q7 ++ q8) := by
 unfold docF docP wrF; simp
theorem rwrite_body (g : Outl → Bs) (l : List Outl) (hs : szs Outl.sz l ≤ 1048576) (hB : (wrG g l).length ≤ 1048576) (ih : ∀ o ∈ l, ∀ h, Sat (CT G) 74 [.sl 3 (o.kids.map Outl.av)] h (fun r h' => r = .str (g o) ∧ h' = h)) (h : Heap) :
  Sat (CT G) 74 [.sl 3 (l.map Outl.av)] h (fun r h' => r = .str (wrG g l) ∧ h' = h) := by
 have hlm : (l.map Outl.av).length = l.length := List.length_map ..
 have hll := outl_len l
 have F := hlm
 refine sb [.tmp 2] (fn := Tryz.f74) Tryz.func74 ?_
 intro Q hQ
 refine wk F ?_
 refine lm (fun nL tL hL => ∃ (k : Nat), l.length - k = nL ∧ h = hL ∧ tL 3 = .str (wrG g (l.take k)) ∧ tL 4 = .int .i64 k ∧ k ≤ l.length) ((fun (k : Nat) => (l.length - k : Nat)) (0)) ?_ ?_
 ·refine Wkn.refl ⟨0, rfl, hpE, ?_, ?_, by omega⟩
  all_goals first | exact zq F | rfl | omega | trivial | skip
 rintro _ s2 h' ⟨k, rfl, rfl, e3, e4, hk⟩ K2 hK2
 simp only [mix_cons, mix_nil, Nat.reduceEqDiff, ↓reduceIte] at e3 e4
 have F := F3 F e3 e4
 have hle := wrG_le g l k
 have hle1 := wrG_le g l (k + 1)
 refine wk F ?_
 refine cq F (fun c0 => ?_) (fun c0 => ?_) <;> (try exact c0.elim) <;> (refine wk F ?_)
 ·obtain ⟨y, hy, hym⟩ := getElem?_of_lt c0
  have hyv : (l.map Outl.av)[k]? = some y.av := by rw [List.getElem?_map, hy]; rfl
  have nx := @wrG_take g l k y hy
  have hys := szs_mem Outl.sz hym
  have hyz := y.sz_eq
  have h2 := escF_len y.title
  have h3 := escF_len y.url
  rw [nx, List.length_append, List.length_append, List.length_append, opB_len] at hle1
  have lq : q4.length = 10 := rfl
  have F := F2 F hy
  try refine sq F ?_
  refine wk F ?_
  refine kq F (rEWrite_sat G y.title (by omega) _) ?_
  refine cq F (fun c1 => ?_) (fun c1 => ?_) <;> (try exact c1.elim) <;> (refine wk F ?_)
  ·refine kq F (rEWrite_sat G y.url (by omega) _) ?_
   rw [if_neg c1] at hle1
   refine kq F (ih y hym _) ?_
   refine hK2 _ _ _ (Wkn.refl ⟨k + 1, rfl, hpE, ?_, ?_, by omega⟩) (by omega)
   all_goals first | exact zq F | rfl | omega | trivial | skip
   try refine sq F ?_
   rw [nx]
   unfold opB
   rw [if_neg c1]
   simp [q1, q2, q3, q4]
  ·rw [if_pos c1] at hle1
   refine kq F (ih y hym _) ?_
   refine hK2 _ _ _ (Wkn.refl ⟨k + 1, rfl, hpE, ?_, ?_, by omega⟩) (by omega)
   all_goals first | exact zq F | rfl | omega | trivial | skip
   try refine sq F ?_
   rw [nx]
   unfold opB
   rw [if_pos c1]
   simp [q1, q3, q4]
 ·have e : l.take k = l := List.take_of_length_le (by omega)
  refine wk F ?_
  refine ee hQ F ?_
  refine fR (.str _) ?_
  rw [e]
theorem rwrite_sat : ∀ (f : Nat) (l : List Outl), cntN f l ≤ 512 → szs Outl.sz l ≤ 1048576 → (wrF f l).length ≤ 1048576 → ∀ h : Heap, Sat (CT G) 74 [.sl 3 (l.map Outl.av)] h (fun r h' => r = .str (wrF f l) ∧ h' = h) := by
 intro f
 induction f with
 | zero =>
  intro l hc hs hw h
  have e := cntN_zero hc
  subst e
  exact rwrite_body G (fun _ => []) [] hs (by simp [wrG]) (fun o ho => by simp at ho) h
 | succ f ih =>
  intro l hc hs hw h
  rw [wrF_succ] at hw ⊢
  refine rwrite_body G _ l hs hw (fun o ho h => ?_) h
  have h1 := szs_mem Outl.sz ho
  have h2 := o.sz_eq
  have h3 := wrG_mem (fun o => wrF f o.kids) ho
  exact ih o.kids ((cntN_succ hc).1 o ho).2 (by omega) (by omega) h
theorem rWriteO_sat (l : List Outl) (hc : okO l = true) (hs : szs Outl.sz l ≤ 1048576) (hw : (wrF 8 l).length ≤ 1000000) (h : Heap) : Sat (CT G) 40 [.sl 3 (l.map Outl.av)] h (fun r h' => r = .str (docF 8 l) ∧ h' = h) := by
 have hc := of_decide_eq_true hc
 refine sb [.tmp 2] (fn := Tryz.f40) Tryz.func40 ?_
 intro Q hQ
 refine wk trivial ?_
 refine kq trivial (rwrite_sat G 8 l hc hs (by omega) _) ?_
 refine ee hQ trivial ?_
 refine fR (.str _) ?_
 rw [docF_eq]; simp [q5, q6, q7, q8]
end Go.Av
namespace Go.Av
open Go Go.Proofs Go.RowKit
attribute [local irreducible] WP WPl WPix Sat
set_option maxRecDepth 100000
set_option maxHeartbeats 1000000
variable (G : Nat → Option (List AVal))
attribute [go_sem] bldW_len
theorem bldW_app (h j l : Heap) (a : AVal) (v : Nat) (s : Bs) : bldW h j a v s ++ l = bldW h (j ++ l) a v s := by simp [bldW]
@[go_sem] theorem getRow_bldWz (h j l : Heap) (a : AVal) (v u n : Nat) (s : Bs) (hn : j.length = n) : getRow (bldW h j a v s ++ l) (h.length + (2 + n)) u = getRow l 0 u := by
 rw [← hn, ← bldW_len h j a v s]; exact getRow_app0 _ l u
@[go_sem] theorem set_bldWz (h j l : Heap) (a : AVal) (v n : Nat) (s : Bs) (x : Blk) (hn : j.length = n) : (bldW h j a v s ++ l).set (h.length + (2 + n)) x = bldW h j a v s ++ l.set 0 x := by
 rw [← hn, ← bldW_len h j a v s]; exact set_app0 _ l x
@[go_sem] theorem getRow_bldWp (h j : Heap) (a : AVal) (v : Nat) (s : Bs) : getRow (bldW h j a v s) h.length 0 = some (94, 2, [.agg [a, .hs (h.length + 1) v 0 s.length true]]) := by
 unfold bldW; exact getRow_app0 _ _ _
@[go_sem] theorem getRow_bldWq (h j l : Heap) (a : AVal) (v : Nat) (s : Bs) : getRow (bldW h j a v s ++ l) h.length 0 = some (94, 2, [.agg [a, .hs (h.length + 1) v 0 s.length true]]) := by
 rw [bldW_app]; exact getRow_bldWp ..
theorem wsW {h j l : Heap} {a : AVal} {v : Nat} {s : Bs} (x : Bs) (ha : bldA a h.length) (hs : s.length + x.length ≤ 1073741824) :
  Sat (CT G) 55 [.hp h.length 0 0 0, .str x] (bldW h j a v s ++ l) (fun r h' => r = .tup [.int .i64 x.length, .nil .nilIface] ∧ h' = bldW h j (.hp h.length 0 0 0) (v + 1) (s ++ x) ++ l) := by
 rw [bldW_app, bldW_app]; exact WriteStringW_sat G a h (j ++ l) v s x ha hs
def AllR (h j : Heap) (s : Bs) (r : AVal) (h' : Heap) : Prop := r = .tup [] ∧ ∃ a v, bldA a h.length ∧ h' = bldW h j a v s
theorem all_fin {h j jj : Heap} {a a1 : AVal} {v v1 : Nat} {s s1 : Bs} (ha : bldA a1 h.length) (hq : a1 = a ∧ v1 = v ∧ s1 = s ∨ a1 = .hp h.length 0 0 0) : Fin (bldW h j a v s) (bldW h (j ++ jj) a1 v1 s1) (AllR h j s1) (.tup []) := by
 rw [← bldW_app]
 refine Fin.keep ((bldW_len ..).trans (bldW_len ..).symm) ?_ (.tup _ (by simp)) ⟨rfl, a1, v1, ha, rfl⟩
 rcases hq with ⟨rfl, rfl, rfl⟩ | rfl
 ·exact fun p k hk => .inl hk
 ·exact bldW_keep _ _ _ _ _ _ _
theorem Pall_body (g : Outl → Bs) (l : List Outl) (hs : szs Outl.sz l ≤ 1048576) (ih : ∀ o ∈ l, ∀ (h j : Heap) (a : AVal) (v : Nat) (s : Bs), bldA a h.length → s.length + (g o).length ≤ 8388608 → Sat (CT G) 72 [.hp h.length 0 0 0, .sl 3 (o.kids.map Outl.av)] (bldW h j a v s) (AllR h j (s ++ g o)))
  (h j : Heap) (a : AVal) (v : Nat) (s : Bs) (ha : bldA a h.length) (hB : s.length + (wrG g l).length ≤ 8388608) : Sat (CT G) 72 [.hp h.length 0 0 0, .sl 3 (l.map Outl.av)] (bldW h j a v s) (AllR h j (s ++ wrG g l)) := by
 have hlm : (l.map Outl.av).length = l.length := List.length_map ..
 have hll := outl_len l
 have F := hlm
 skip
 refine sb [] (fn := Tryz.f72) Tryz.func72 ?_
 intro Q hQ
 refine wn F ?_
 refine lm (fun nL tL hL => ∃ (k u : Nat) (b : AVal) (jj : Heap), l.length - k = nL ∧ bldW h (j ++ jj) b u (s ++ wrG g (l.take k)) = hL ∧ tL 8 = .int .i64 k ∧ bldA b h.length ∧ (b = a ∧ u = v ∧ s ++ wrG g (l.take k) = s ∨ b = .hp h.length 0 0 0) ∧ k ≤ l.length) ((fun (k u : Nat) (b : AVal) (jj : Heap) => (l.length - k : Nat)) (0) (v) (a) ([])) ?_ ?_
 ·refine Wkn.refl ⟨0, v, a, [], rfl, by simp [wrG], ?_, ha, .inl ⟨rfl, rfl, by simp [wrG]⟩, by omega⟩
  all_goals first | exact zq F | rfl | omega | trivial | skip
 rintro _ s2 h' ⟨k, u, b, jj, rfl, rfl, e8, hb, hq, hk⟩ K2 hK2
 simp only [mix_cons, mix_nil, Nat.reduceEqDiff, ↓reduceIte] at e8
 have F := F2 F e8
 have hle := wrG_le g l k
 have hle1 := wrG_le g l (k + 1)
 refine wn F ?_
 refine cq F (fun c0 => ?_) (fun c0 => ?_) <;> (try exact c0.elim) <;> (refine wn F ?_)
 ·obtain ⟨y, hy, hym⟩ := getElem?_of_lt c0
  have hyv : (l.map Outl.av)[k]? = some y.av := by rw [List.getElem?_map, hy]; rfl
  have nx := @wrG_take g l k y hy
  have hys := szs_mem Outl.sz hym
  have hyz := y.sz_eq
  have h2 := escF_len y.title
  have h3 := escF_len y.url
  rw [nx, List.length_append, List.length_append, List.length_append, opB_len] at hle1
  have lq : q4.length = 10 := rfl
  have F := F2 F hy
  try refine sq F ?_
  refine wn F ?_
  refine WP_draw 7 (by kernel_rfl) ?_
  refine sq F ?_
  refine wn F ?_
  refine ⟨_, EWrite_sat G y.title (by omega) _, ?_⟩
  try refine sq F ?_
  refine wn F ?_
  refine kn F (wsW G _ hb (by simp only [List.length_append, List.length_cons, List.length_nil]; omega)) ?_
  refine cq F (fun c1 => ?_) (fun c1 => ?_) <;> (try exact c1.elim) <;> (refine wn F ?_)
  ·rw [if_neg c1] at hle1
   refine WP_draw 7 (by kernel_rfl) ?_
   refine sq F ?_
   refine wn F ?_
   refine ⟨_, EWrite_sat G y.url (by omega) _, ?_⟩
   try refine sq F ?_
   refine wn F ?_
   refine kn F (wsW G _ (.inr rfl) (by simp only [List.length_append, List.length_cons, List.length_nil]; omega)) ?_
   refine kn F (wsW G _ (.inr rfl) (by simp only [List.length_append, List.length_cons, List.length_nil]; omega)) ?_
   rw [bldW_app]
   refine (ih y hym h _ _ _ _ (.inr rfl) (by simp only [List.length_append, List.length_cons, List.length_nil]; omega)).mono ?_
   rintro r h' ⟨rfl, a1, u1, ha1, rfl⟩
   try refine sq F ?_
   refine wn F ?_
   refine kn F (WriteStringW_sat G a1 h _ u1 _ _ ha1 (by simp only [List.length_append, List.length_cons, List.length_nil]; omega)) ?_
   refine hK2 _ _ _ (Wkn.refl ⟨k + 1, u1 + 1, (.hp h.length 0 0 0), jj ++ [.row 58 3 0 [y.av]], rfl, by rw [nx]; unfold opB; rw [if_neg c1]; simp [q1, q2, q3, q4], ?_, .inr rfl, .inr rfl, by omega⟩) (by omega)
   all_goals first | exact zq F | rfl | omega | trivial | skip
  ·rw [if_pos c1] at hle1
   refine kn F (wsW G _ (.inr rfl) (by simp only [List.length_append, List.length_cons, List.length_nil]; omega)) ?_
   rw [bldW_app]
   refine (ih y hym h _ _ _ _ (.inr rfl) (by simp only [List.length_append, List.length_cons, List.length_nil]; omega)).mono ?_
   rintro r h' ⟨rfl, a1, u1, ha1, rfl⟩
   try refine sq F ?_
   refine wn F ?_
   refine kn F (WriteStringW_sat G a1 h _ u1 _ _ ha1 (by simp only [List.length_append, List.length_cons, List.length_nil]; omega)) ?_
   refine hK2 _ _ _ (Wkn.refl ⟨k + 1, u1 + 1, (.hp h.length 0 0 0), jj ++ [.row 58 3 0 [y.av]], rfl, by rw [nx]; unfold opB; rw [if_pos c1]; simp [q1, q2, q3, q4], ?_, .inr rfl, .inr rfl, by omega⟩) (by omega)
   all_goals first | exact zq F | rfl | omega | trivial | skip
 ·have e : l.take k = l := List.take_of_length_le (by omega)
  refine wn F ?_
  refine ee hQ F ?_
  rw [e] at hq ⊢
  exact all_fin hb hq
theorem Pall_sat : ∀ (f : Nat) (l : List Outl), cntN f l ≤ 512 → szs Outl.sz l ≤ 1048576 → ∀ (h j : Heap) (a : AVal) (v : Nat) (s : Bs), bldA a h.length → s.length + (wrF f l).length ≤ 8388608 → Sat (CT G) 72 [.hp h.length 0 0 0, .sl 3 (l.map Outl.av)] (bldW h j a v s) (AllR h j (s ++ wrF f l)) := by
 intro f
 induction f with
 | zero =>
  intro l hc hs h j a v s ha hw
  have e := cntN_zero hc
  subst e
  exact Pall_body G (fun _ => []) [] hs (fun o ho => by simp at ho) h j a v s ha hw
 | succ f ih =>
  intro l hc hs h j a v s ha hw
  rw [wrF_succ] at hw ⊢
  refine Pall_body G _ l hs (fun o ho h j a v s ha hw => ?_) h j a v s ha hw
  have h1 := szs_mem Outl.sz ho
  have h2 := o.sz_eq
  exact ih o.kids ((cntN_succ hc).1 o ho).2 (by omega) h j a v s ha hw
end Go.Av
namespace Go.Av
open Go Go.Proofs Go.RowKit
attribute [local irreducible] WP WPl WPix Sat
set_option maxRecDepth 100000
set_option maxHeartbeats 1000000
variable (G : Nat → Option (List AVal))
theorem same_go (g : List Outl → Nat) (f : Nat) (hg : ∀ l, g l ≤ 512 → sameOL f l l = true) : ∀ (t : List Outl) (a : Nat), t.length ≤ a → cntGo g t a ≤ 512 → ((t.zip t).all fun p => decide (p.1.title = p.2.title) && (decide (p.1.url = p.2.url) && sameOL f p.1.kids p.2.kids)) = true
 | [], a, _, _ => rfl
 | o :: t, a, ha, h => by
  rw [cntGo] at h
  simp only [List.length_cons] at ha
  by_cases hk : oneOk o = true
  ·rw [if_pos hk] at h
   by_cases h5 : 512 < a + g o.kids
   ·rw [if_pos h5] at h; omega
   ·rw [if_neg h5] at h
    have h1 := same_go g f hg t (a + g o.kids) (by omega) h
    have h2 := hg o.kids (by omega)
    rw [List.zip_cons_cons, List.all_cons, h1]
    simp [h2]
  ·rw [if_neg hk] at h; omega
theorem sameOL_refl : ∀ (f : Nat) (l : List Outl), cntN f l ≤ 512 → sameOL f l l = true := by
 intro f
 induction f with
 | zero =>
  intro l h
  rw [cntN] at h
  by_cases hl : l = []
  ·subst hl; rfl
  ·rw [if_neg hl] at h; omega
 | succ f ih =>
  intro l h
  rw [cntN] at h
  by_cases hl : 512 < l.length
  ·rw [if_pos hl] at h; omega
  ·rw [if_neg hl] at h
   have := same_go (cntN f) f ih l l.length (Nat.le_refl _) h
   rw [sameOL, this]; simp
theorem rdF_list (s : Bs) (hs : s.length ≤ 5000) : okO (rdF s).1 = true ∧ OkN 8 (rdF s).1 := by
 have hnil : okO [] = true ∧ OkN 8 [] := ⟨rfl, OkN.nil 8⟩
 have hsz : szs Tok.sz (toksF s).1 ≤ 50000 := by have := toksF_sz s; omega
 unfold rdF
 by_cases c0 : prsC s = 0
 ·rw [if_pos c0]
  cases hb : bldF (toksF s).1 with
  | none => exact hnil
  | some e =>
   simp only []
   by_cases hg : goodO e = true
   ·rw [if_pos hg]
    have hes := bldF_sz hb
    have hk := (kidF_sz e bBody).1
    unfold goodO at hg
    simp only [Bool.and_eq_true] at hg
    exact ⟨hg.2, ofF_ok 8 40 _ (by omega)⟩
   ·rw [if_neg hg]; exact hnil
 ·rw [if_neg c0]; exact hnil
end Go.Av
namespace Go.Av
open Go Go.Proofs Go.RowKit
attribute [local irreducible] WP WPl WPix Sat
set_option maxRecDepth 100000
set_option maxHeartbeats 1000000
variable (G : Nat → Option (List AVal))
theorem ocnt_ok : ∀ (f d : Nat) (l : List Outl) (m : Int), d + f ≤ 39 → m ≤ 700 → 0 < ocntL l d m → OkN f l ∧ (l.length : Int) ≤ m - ocntL l d m := by
 intro f
 induction f with
 | zero =>
  intro d l
  induction l with
  | nil => intro m _ hm h; rw [ocntL]; exact ⟨OkN.nil 0, by simp⟩
  | cons o r ihr =>
   intro m hd hm h
   rw [ocntL] at h ⊢
   by_cases h0 : 0 < m ∧ d < 40
   ·rw [if_pos h0] at h ⊢
    have hb := ocntO_bd o d m
    have he := ocntO_eq o d m
    have hk := (ocntL_bd o.kids (d + 1) (m - 1 - (o.title.length / 20 : Nat) - (o.url.length / 20 : Nat))).2
    obtain ⟨h1, h2⟩ := ihr (ocntO o d m) hd (by omega) h
    have h3 : (o :: r).length ≤ 1000000 := by simp only [List.length_cons]; omega
    exact ⟨h3, by simp only [List.length_cons]; omega⟩
   ·rw [if_neg h0] at h; exact absurd ⟨h, by omega⟩ h0
 | succ f ih =>
  intro d l
  induction l with
  | nil => intro m _ hm h; rw [ocntL]; exact ⟨OkN.nil _, by simp⟩
  | cons o r ihr =>
   intro m hd hm h
   rw [ocntL] at h ⊢
   by_cases h0 : 0 < m ∧ d < 40
   ·rw [if_pos h0] at h ⊢
    have hb := ocntO_bd o d m
    have he := ocntO_eq o d m
    have hk := (ocntL_bd o.kids (d + 1) (m - 1 - (o.title.length / 20 : Nat) - (o.url.length / 20 : Nat))).2
    have hr := (ocntL_bd r d (ocntO o d m)).2
    obtain ⟨h1, h2⟩ := ihr (ocntO o d m) hd (by omega) h
    have h3 := (ih (d + 1) o.kids (m - 1 - (o.title.length / 20 : Nat) - (o.url.length / 20 : Nat)) (by omega) (by omega) (by omega)).1
    refine ⟨⟨by simp only [List.length_cons]; omega, fun x hx => ?_⟩, by simp only [List.length_cons]; omega⟩
    rcases List.mem_cons.1 hx with rfl | hx
    ·exact ⟨by omega, by omega, h3⟩
    ·exact h1.2 x hx
   ·rw [if_neg h0] at h; exact absurd ⟨h, by omega⟩ h0
theorem ocnt_sz : ∀ (f d : Nat) (l : List Outl) (m : Int), d + f ≤ 39 → (∀ q, (q ∈ l → True)) → cntN f l ≤ 512 → 0 < ocntL l d m → (szs Outl.sz l : Int) ≤ 39 * (m - ocntL l d m) := by
 intro f
 induction f with
 | zero => intro d l m _ _ hc h; rw [cntN_zero hc, ocntL]; simp [szs]
 | succ f ih =>
  intro d l m hd _ hc h
  have hq := (cntN_succ hc).1
  clear hc
  induction l generalizing m with
  | nil => rw [ocntL]; simp [szs]
  | cons o r ihr =>
   rw [ocntL] at h ⊢
   by_cases h0 : 0 < m ∧ d < 40
   ·rw [if_pos h0] at h ⊢
    have he := ocntO_eq o d m
    have hr := (ocntL_bd r d (ocntO o d m)).2
    have h1 := ihr (ocntO o d m) (fun _ _ => trivial) h fun x hx => hq x (List.mem_cons_of_mem _ hx)
    have h3 := ih (d + 1) o.kids (m - 1 - (o.title.length / 20 : Nat) - (o.url.length / 20 : Nat)) (by omega) (fun _ _ => trivial) (hq o (List.mem_cons_self ..)).2 (by omega)
    have h5 := o.sz_eq
    rw [szs]; omega
   ·rw [if_neg h0] at h; exact absurd ⟨h, by omega⟩ h0
theorem wr_small {l : List Outl} (h : 0 < ocntL l 1 700) (hc : okO l = true) : szs Outl.sz l ≤ 27300 ∧ (wrF 8 l).length ≤ 200000 := by
 have hc := of_decide_eq_true hc
 have h0 := (ocntL_bd l 1 700).1
 have h1 := ocnt_sz 8 1 l 700 (by omega) (fun _ _ => trivial) hc h
 have h2 := wrF_len 8 l
 have h3 := pcs_len 8 l hc
 omega
theorem wr_small2 {l : List Outl} (hc : okO l = true) : (wrF 8 l).length ≤ 3000000 ∧ szs Outl.sz l ≤ 400000 := by
 have hc := of_decide_eq_true hc
 have h1 := cnt_sz 8 l hc
 have h2 := wrF_len 8 l
 have h3 := pcs_len 8 l hc
 omega
theorem WP_heap {C : Ctx} {c : Code} {Q : Exit → Env → Heap → Prop} {t : Env} {h h' : Heap} (e : h = h') (g : WP C c Q t h') : WP C c Q t h := e ▸ g
theorem PWriteO_sat (l : List Outl) (hk : OkN 8 l) (hs : szs Outl.sz l ≤ 1048576) (hw : okO l = true → (wrF 8 l).length ≤ 4000000) (h : Heap) :
  Sat (CT G) 38 [.sl 3 (l.map Outl.av)] h (fun r h' => r = .tup [.str (if okO l then docF 8 l else []), .int .i64 (if okO l then 0 else 130)] ∧ h' = h) := by
 refine sb [.tmp 2, .tmp 3] (fn := Tryz.f38) Tryz.func38 ?_
 intro Q hQ
 (repeat (first | refine w1 (fun K hK => ?_) | refine w2 ?_ | refine w3 ?_ | ((first | refine w4 ?_ | refine wD ?_ | refine w5 ?_ | refine w6 ?_ | refine w7 ?_); try refine sq trivial ?_) | (refine w8 ?_; refine sq trivial ?_; refine w9 ?_) | ((first | refine hK _ _ (w0 ?_) | (clear hK K; refine hK _ _ (w0 ?_)) | (clear hK K; clear hK K; refine hK _ _ (w0 ?_))); clear hK K)))
 refine (PCheckO_sat G l hk _).mono ?_
 rintro r h' ⟨rfl, hk_⟩
 replace hk_ := hk_.symm
 subst hk_
 try refine sq trivial ?_
 (repeat (first | refine w1 (fun K hK => ?_) | refine w2 ?_ | refine w3 ?_ | ((first | refine w4 ?_ | refine wD ?_ | refine w5 ?_ | refine w6 ?_ | refine w7 ?_); try refine sq trivial ?_) | (refine w8 ?_; refine sq trivial ?_; refine w9 ?_) | ((first | refine hK _ _ (w0 ?_) | (clear hK K; refine hK _ _ (w0 ?_)) | (clear hK K; clear hK K; refine hK _ _ (w0 ?_))); clear hK K)))
 cases hok : okO l with
 | false =>
  try refine sq trivial ?_
  (repeat (first | refine w1 (fun K hK => ?_) | refine w2 ?_ | refine w3 ?_ | ((first | refine w4 ?_ | refine wD ?_ | refine w5 ?_ | refine w6 ?_ | refine w7 ?_); try refine sq trivial ?_) | (refine w8 ?_; refine sq trivial ?_; refine w9 ?_) | ((first | refine hK _ _ (w0 ?_) | (clear hK K; refine hK _ _ (w0 ?_)) | (clear hK K; clear hK K; refine hK _ _ (w0 ?_))); clear hK K)))
  refine ye hQ trivial ?_
  exact Fin.same (.tup _ (by intro c hc; simp at hc; rcases hc with rfl | rfl; exact .str _; exact .int _ _)) ⟨by rw [hok]; rfl, rfl⟩
 | true =>
  have hwl := hw hok
  have hc := of_decide_eq_true hok
  try refine sq trivial ?_
  (repeat (first | refine w1 (fun K hK => ?_) | refine w2 ?_ | refine w3 ?_ | ((first | refine w4 ?_ | refine wD ?_ | refine w5 ?_ | refine w6 ?_ | refine w7 ?_); try refine sq trivial ?_) | (refine w8 ?_; refine sq trivial ?_; refine w9 ?_)))
  refine hK _ _ (Wkn.refl ?_)
  clear hK K
  (repeat (first | refine w1 (fun K hK => ?_) | refine w2 ?_ | refine w3 ?_ | ((first | refine w4 ?_ | refine wD ?_ | refine w5 ?_ | refine w6 ?_ | refine w7 ?_); try refine sq trivial ?_) | (refine w8 ?_; refine sq trivial ?_; refine w9 ?_)))
  refine hK _ _ ⟨_, _, Weak.virtCell (p := h.length) (v := 0) 5 1 (by omega) (by simp (disch := first | omega | (simp only [go_sem, ↓reduceIte, seval]; first | done | omega) | fail) only [go_sem, ↓reduceIte, seval]; rfl) 1 rfl, ?_⟩
  clear hK K
  refine WP_heap (h' := bldW h [] (.nil (.pointer none)) 0 []) hpE ?_
  (repeat (first | refine w1 (fun K hK => ?_) | refine w2 ?_ | refine w3 ?_ | ((first | refine w4 ?_ | refine wD ?_ | refine w5 ?_ | refine w6 ?_ | refine w7 ?_); try refine sq trivial ?_) | (refine w8 ?_; refine sq trivial ?_; refine w9 ?_) | ((first | refine hK _ _ (w0 ?_) | (clear hK K; refine hK _ _ (w0 ?_)) | (clear hK K; clear hK K; refine hK _ _ (w0 ?_))); clear hK K)))
  refine (WriteStringW_sat G (.nil (.pointer none)) h [] 0 [] _ (.inl rfl) (by simp)).mono ?_
  rintro r h' ⟨rfl, rfl⟩
  try refine sq trivial ?_
  (repeat (first | refine w1 (fun K hK => ?_) | refine w2 ?_ | refine w3 ?_ | ((first | refine w4 ?_ | refine wD ?_ | refine w5 ?_ | refine w6 ?_ | refine w7 ?_); try refine sq trivial ?_) | (refine w8 ?_; refine sq trivial ?_; refine w9 ?_) | ((first | refine hK _ _ (w0 ?_) | (clear hK K; refine hK _ _ (w0 ?_)) | (clear hK K; clear hK K; refine hK _ _ (w0 ?_))); clear hK K)))
  refine (Pall_sat G 8 l hc hs h [] _ _ _ (.inr rfl) (by simp only [List.length_append, List.length_cons, List.length_nil]; omega)).mono ?_
  rintro r h' ⟨rfl, a1, u1, ha1, rfl⟩
  try refine sq trivial ?_
  (repeat (first | refine w1 (fun K hK => ?_) | refine w2 ?_ | refine w3 ?_ | ((first | refine w4 ?_ | refine wD ?_ | refine w5 ?_ | refine w6 ?_ | refine w7 ?_); try refine sq trivial ?_) | (refine w8 ?_; refine sq trivial ?_; refine w9 ?_) | ((first | refine hK _ _ (w0 ?_) | (clear hK K; refine hK _ _ (w0 ?_)) | (clear hK K; clear hK K; refine hK _ _ (w0 ?_))); clear hK K)))
  refine (WriteStringW_sat G a1 h [] u1 _ _ ha1 (by simp only [List.length_append, List.length_cons, List.length_nil]; omega)).mono ?_
  rintro r h' ⟨rfl, rfl⟩
  try refine sq trivial ?_
  (repeat (first | refine w1 (fun K hK => ?_) | refine w2 ?_ | refine w3 ?_ | ((first | refine w4 ?_ | refine wD ?_ | refine w5 ?_ | refine w6 ?_ | refine w7 ?_); try refine sq trivial ?_) | (refine w8 ?_; refine sq trivial ?_; refine w9 ?_) | ((first | refine hK _ _ (w0 ?_) | (clear hK K; refine hK _ _ (w0 ?_)) | (clear hK K; clear hK K; refine hK _ _ (w0 ?_))); clear hK K)))
  refine (StringW_sat G _ h [] _ _).mono ?_
  rintro r h' ⟨rfl, b2, rfl⟩
  try refine sq trivial ?_
  (repeat (first | refine w1 (fun K hK => ?_) | refine w2 ?_ | refine w3 ?_ | ((first | refine w4 ?_ | refine wD ?_ | refine w5 ?_ | refine w6 ?_ | refine w7 ?_); try refine sq trivial ?_) | (refine w8 ?_; refine sq trivial ?_; refine w9 ?_) | ((first | refine hK _ _ (w0 ?_) | (clear hK K; refine hK _ _ (w0 ?_)) | (clear hK K; clear hK K; refine hK _ _ (w0 ?_))); clear hK K)))
  refine ye hQ trivial ?_
  refine Fin.plainE rfl (.tup _ (by intro c hc; simp at hc; rcases hc with rfl | rfl; exact .str _; exact .int _ _)) ⟨?_, rfl⟩
  rw [hok, docF_eq]; simp [q5, q6, q7, q8]
theorem OpmlWrites_sat (hG : GOk G) (hC : GClo (CT G)) (hlives : ∀ h, Sat (CT G) 32 [] h (fun r h' => r = .bool true ∧ h' = h)) (l : List Outl) (hs : szs Outl.sz l ≤ 1048576) (h : Heap) :
  Sat (CT G) 6 [.sl 3 (l.map Outl.av)] h (fun r h' => r = .bool true ∧ h' = h) := by
 have F := F5 (F3 (@beq_self_eq_true Int _ _) (@beq_self_eq_true Bool _ _) (@beq_self_eq_true Bs _ _)) (F3 (@bne_self_eq_false Int _ _) (@bne_self_eq_false Bool _ _) (@bne_self_eq_false Bs _ _)) @Bool.not_true @Bool.not_false @decide_true
 refine sb [.tmp 2] (fn := Tryz.f6) Tryz.func6 ?_
 intro Q hQ
 refine wk F ?_
 refine kq F (rLarge_sat G l hs _) ?_
 refine cq F (fun g1 => ?_) (fun g1 => ?_) <;> (try exact g1.elim) <;> (refine wk F ?_)
 ·refine kq F (hlives _) ?_
  refine ee hQ F ?_
  refine fR (.bool _) ?_
  rfl
 have hL : 0 < ocntL l 1 700 := by omega
 have hk := (ocnt_ok 8 1 l 700 (by omega) (by omega) hL).1
 refine kq F (PWriteO_sat G l hk hs (fun hq => by have := (wr_small hL hq).2; omega) _) ?_
 refine kq F (hlives _) ?_
 refine kq F (rCheckO_sat G l hk _) ?_
 cases hok : okO l with
 | false =>
  try refine sq F ?_
  refine wk F ?_
  refine kq F (PCheckO_sat G l hk _) ?_
  rw [hok]
  try refine sq F ?_
  refine wk F ?_
  refine ee hQ F ?_
  refine fR (.bool _) ?_
  rfl
 | true =>
  obtain ⟨hz, hw⟩ := wr_small hL hok
  have hd : (docF 8 l).length ≤ 4194304 := by rw [docF_eq]; simp [q5, q6, q7, q8]; omega
  try refine sq F ?_
  refine wk F ?_
  refine kq F (PCheckO_sat G l hk _) ?_
  rw [hok]
  try refine sq F ?_
  refine wk F ?_
  refine kq F (rWriteO_sat G l hok hs (by omega) _) ?_
  refine (PReadO_sat G hG hC (docF 8 l) hd _).mono ?_
  rintro r h' ⟨rfl, rfl⟩
  try refine sq F ?_
  refine wk F ?_
  (first | refine gq F (fun g1 => ?_) (fun g1 => ?_) | refine pq F (fun g1 => ?_) (fun g1 => ?_)) <;> (try exact g1.elim) <;> (try refine sq F ?_) <;> (refine wk F ?_)
  ·refine ee hQ F ?_
   refine fR (.bool _) ?_
   rfl
  ·have hr := rdF_doc l hok (by omega)
   have hsame := sameOL_refl 8 l (of_decide_eq_true hok)
   rw [hr]
   have F := F2 F @hsame
   try refine sq F ?_
   refine wk F ?_
   refine kq F (rSame_sat G l l (by omega) (by omega) _) ?_
   refine ee hQ F ?_
   refine fR (.bool _) ?_
   rfl
theorem OpmlAgain_sat (hG : GOk G) (hC : GClo (CT G)) (hlives : ∀ h, Sat (CT G) 32 [] h (fun r h' => r = .bool true ∧ h' = h)) (s : Bs) (h : Heap) :
  Sat (CT G) 8 [.str s] h (fun r h' => r = .bool true ∧ h' = h) := by
 have F := F5 (F3 (@beq_self_eq_true Int _ _) (@beq_self_eq_true Bool _ _) (@beq_self_eq_true Bs _ _)) (F3 (@bne_self_eq_false Int _ _) (@bne_self_eq_false Bool _ _) (@bne_self_eq_false Bs _ _)) @Bool.not_true @Bool.not_false @decide_true
 refine sb [.tmp 2] (fn := Tryz.f8) Tryz.func8 ?_
 intro Q hQ
 refine wk F ?_
 refine cq F (fun hl => ?_) (fun hl => ?_) <;> (try exact hl.elim) <;> (refine wk F ?_)
 ·refine kq F (hlives _) ?_
  refine ee hQ F ?_
  refine fR (.bool _) ?_
  rfl
 refine (PReadO_sat G hG hC s (by omega) _).mono ?_
 rintro r h' ⟨rfl, rfl⟩
 try refine sq F ?_
 refine wk F ?_
 refine kq F (hlives _) ?_
 by_cases c0 : (rdF s).2 = 0
 ·obtain ⟨hok, hokn⟩ := rdF_list s (by omega)
  obtain ⟨hw, hz⟩ := wr_small2 hok
  have hsame := sameOL_refl 8 _ (of_decide_eq_true hok)
  have hd : (docF 8 (rdF s).1).length ≤ 4194304 := by rw [docF_eq]; simp [q5, q6, q7, q8]; omega
  rw [c0]
  have F := F2 F @hsame
  try refine sq F ?_
  refine wk F ?_
  refine kq F (PWriteO_sat G (rdF s).1 hokn (by omega) (fun _ => by omega) _) ?_
  rw [hok]
  try refine sq F ?_
  refine wk F ?_
  refine (PReadO_sat G hG hC (docF 8 (rdF s).1) hd _).mono ?_
  rintro r h' ⟨rfl, rfl⟩
  try refine sq F ?_
  refine wk F ?_
  (first | refine gq F (fun g1 => ?_) (fun g1 => ?_) | refine pq F (fun g1 => ?_) (fun g1 => ?_)) <;> (try exact g1.elim) <;> (try refine sq F ?_) <;> (refine wk F ?_)
  ·refine ee hQ F ?_
   refine fR (.bool _) ?_
   rfl
  ·have hr := rdF_doc (rdF s).1 hok (by omega)
   rw [hr]
   try refine sq F ?_
   refine wk F ?_
   refine kq F (rSame_sat G (rdF s).1 (rdF s).1 (by omega) (by omega) _) ?_
   refine ee hQ F ?_
   refine fR (.bool _) ?_
   rfl
 ·have b0 : ((rdF s).2 != 0) = true := by simpa using c0
  have F := F2 F b0
  try refine sq F ?_
  refine wk F ?_
  refine kq F (hlives _) ?_
  refine ee hQ F ?_
  refine fR (.bool _) ?_
  rfl
end Go.Av
