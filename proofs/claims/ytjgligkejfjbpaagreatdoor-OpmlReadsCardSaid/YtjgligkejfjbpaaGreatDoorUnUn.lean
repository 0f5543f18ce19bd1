/- The outlines of any text, or what is wrong with it, are the document's, and they may be written: the card, for every text. -/
import Derived.Test.YtjgligkejfjbpaaGreatDoorUnUh
import Derived.Test.YtjgligkejfjbpaaGreatDoorUnIb
import Derived.Test.YtjgligkejfjbpaaGreatDoorUnRl
set_option linter.unusedSimpArgs false
set_option linter.unusedVariables false
namespace Go.Av
open Go Go.Proofs Go.RowKit
attribute [local irreducible] WP WPl WPix Sat
set_option maxRecDepth 100000
set_option maxHeartbeats 1000000
variable (G : Nat → Option (List AVal))
theorem rof_sat : ∀ (f d : Nat), f + d = 41 → d ≤ 41 → ∀ (e : Elem) (_ : e.sz ≤ 100000) (h : Heap), Sat (CT G) 68 [e.av, .int .i64 d] h (fun r h' => r = .sl 3 ((ofF f e).map Outl.av) ∧ h' = h) := by
 intro f
 induction f with
 | zero =>
  intro d hf hd e hs h
  refine sb [.tmp 4] (fn := Tryz.f68) Tryz.func68 ?_
  intro Q hQ
  (repeat (first | refine w1 (fun K hK => ?_) | refine w2 ?_ | refine w3 ?_ | ((first | refine w4 ?_ | refine wD ?_ | refine w5 ?_ | refine w6 ?_ | refine w7 ?_); try refine sq trivial ?_) | (refine w8 ?_; refine sq trivial ?_; refine w9 ?_) | (refine rq trivial ?_; try refine sq trivial ?_) | (refine vq trivial ?_; try refine sq trivial ?_) | ((first | refine hK _ _ (w0 ?_) | (clear hK K; refine hK _ _ (w0 ?_)) | (clear hK K; clear hK K; refine hK _ _ (w0 ?_))); clear hK K)))
  refine cq trivial (fun c0 => ?_) (fun c0 => ?_) <;> (try exact c0.elim) <;> ((repeat (first | refine w1 (fun K hK => ?_) | refine w2 ?_ | refine w3 ?_ | ((first | refine w4 ?_ | refine wD ?_ | refine w5 ?_ | refine w6 ?_ | refine w7 ?_); try refine sq trivial ?_) | (refine w8 ?_; refine sq trivial ?_; refine w9 ?_) | (refine rq trivial ?_; try refine sq trivial ?_) | (refine vq trivial ?_; try refine sq trivial ?_) | ((first | refine hK _ _ (w0 ?_) | (clear hK K; refine hK _ _ (w0 ?_)) | (clear hK K; clear hK K; refine hK _ _ (w0 ?_))); clear hK K))))
  ·refine ee hQ trivial ?_
   exact Fin.frz (.nils 3) ⟨rfl, rfl⟩
  ·exfalso; omega
 | succ f ih =>
  intro d hf hd e hs h
  have hks := kidsF_szs e bOutline
  have hkin : ∀ k ∈ kidsF e bOutline, k ∈ e.kids := fun k hk => kidsF_in hk
  have hof : ofF (f + 1) e = (kidsF e bOutline).filterMap (oneO (ofF f)) := rfl
  skip
  refine sb [.tmp 4] (fn := Tryz.f68) Tryz.func68 ?_
  intro Q hQ
  (repeat (first | refine w1 (fun K hK => ?_) | refine w2 ?_ | refine w3 ?_ | ((first | refine w4 ?_ | refine w5 ?_ | refine w6 ?_ | refine w7 ?_); try refine sq trivial ?_) | (refine w8 ?_; refine sq trivial ?_; refine w9 ?_) | (refine rq trivial ?_; try refine sq trivial ?_) | (refine vq trivial ?_; try refine sq trivial ?_) | ((first | refine hK _ _ (w0 ?_) | (clear hK K; refine hK _ _ (w0 ?_)) | (clear hK K; clear hK K; refine hK _ _ (w0 ?_))); clear hK K)))
  refine cq trivial (fun c0 => ?_) (fun c0 => ?_) <;> (try exact c0.elim) <;> ((repeat (first | refine w1 (fun K hK => ?_) | refine w2 ?_ | refine w3 ?_ | ((first | refine w4 ?_ | refine w5 ?_ | refine w6 ?_ | refine w7 ?_); try refine sq trivial ?_) | (refine w8 ?_; refine sq trivial ?_; refine w9 ?_) | (refine rq trivial ?_; try refine sq trivial ?_) | (refine vq trivial ?_; try refine sq trivial ?_) | ((first | refine hK _ _ (w0 ?_) | (clear hK K; refine hK _ _ (w0 ?_)) | (clear hK K; clear hK K; refine hK _ _ (w0 ?_))); clear hK K))))
  ·exfalso; omega
  refine (Kids_sat G e bOutline (by omega) _).mono ?_
  rintro r h' ⟨rfl, hk_⟩
  replace hk_ := hk_.symm
  subst hk_
  try refine sq trivial ?_
  (repeat (first | refine w1 (fun K hK => ?_) | refine w2 ?_ | refine w3 ?_ | ((first | refine w4 ?_ | refine w5 ?_ | refine w6 ?_ | refine w7 ?_); try refine sq trivial ?_) | (refine w8 ?_; refine sq trivial ?_; refine w9 ?_) | (refine rq trivial ?_; try refine sq trivial ?_) | (refine vq trivial ?_; try refine sq trivial ?_) | ((first | refine hK _ _ (w0 ?_) | (clear hK K; refine hK _ _ (w0 ?_)) | (clear hK K; clear hK K; refine hK _ _ (w0 ?_))); clear hK K)))
  have hkl := szs_len Elem.sz Elem.sz_pos (kidsF e bOutline)
  rw [hof] at hQ
  clear hof
  generalize kidsF e bOutline = l at *
  have hlm : (l.map Elem.av).length = l.length := List.length_map ..
  have F := hlm
  refine lm (fun nL tL hL => ∃ (k v : Nat) (acc : List Outl) (hh : Heap), l.length - k = nL ∧ hh = hL ∧ tL 5 = .hs (h.length + 1) v 0 acc.length true ∧ tL 7 = .int .i64 k ∧ k ≤ l.length ∧ acc.length ≤ k ∧ acc ++ (l.drop k).filterMap (oneO (ofF f)) = l.filterMap (oneO (ofF f)) ∧ (FrN h.length h hh ∧ h.length + 1 < hh.length) ∧ getRow hh (h.length + 1) v = some (58, 3, acc.map Outl.av)) ((fun (k v : Nat) (acc : List Outl) (hh : Heap) => (l.length - k : Nat)) (0) (0) ([]) (h ++ [.row 26 4 0 [e.av], .row 58 3 0 []])) ?_ ?_
  ·refine ⟨_, _, Weak.virt 5 58 3 (by simp) (by omega) (by exact zq F), ⟨0, 0, [], h ++ [.row 26 4 0 [e.av], .row 58 3 0 []], rfl, hpE, ?_, ?_, by omega, by simp, rfl, ⟨FrN.app _ (by omega) (FrN.refl _ _), by simp⟩, by rw [gs_new _ rfl]; rfl⟩⟩
   all_goals first | exact zq F | rfl | omega | trivial | skip
  rintro _ s2 h' ⟨k, v, acc, hh, rfl, rfl, e5, e7, hk, hl, hp, hf, hg⟩ K2 hK2
  simp only [mix_cons, mix_nil, Nat.reduceEqDiff, ↓reduceIte] at e5 e7
  have F := F3 F e5 e7
  (repeat (first | refine w1 (fun K hK => ?_) | refine w2 ?_ | refine w3 ?_ | ((first | refine w4 ?_ | refine w5 ?_ | refine w6 ?_ | refine w7 ?_); try refine sq F ?_) | (refine w8 ?_; refine sq F ?_; refine w9 ?_) | (refine rq F ?_; try refine sq F ?_) | (refine vq F ?_; try refine sq F ?_) | ((first | refine hK _ _ (w0 ?_) | (clear hK K; refine hK _ _ (w0 ?_)) | (clear hK K; clear hK K; refine hK _ _ (w0 ?_))); clear hK K)))
  obtain ⟨hfr, hfl⟩ := hf
  refine cq F (fun c1 => ?_) (fun c1 => ?_) <;> (try exact c1.elim) <;> ((repeat (first | refine w1 (fun K hK => ?_) | refine w2 ?_ | refine w3 ?_ | ((first | refine w4 ?_ | refine w5 ?_ | refine w6 ?_ | refine w7 ?_); try refine sq F ?_) | (refine w8 ?_; refine sq F ?_; refine w9 ?_) | (refine rq F ?_; try refine sq F ?_) | (refine vq F ?_; try refine sq F ?_) | ((first | refine hK _ _ (w0 ?_) | (clear hK K; refine hK _ _ (w0 ?_)) | (clear hK K; clear hK K; refine hK _ _ (w0 ?_))); clear hK K))))
  ·obtain ⟨y, hy, hym⟩ := getElem?_of_lt c1
   have hys := Elem.kid_sz (hkin y hym)
   have hul := url_len y
   rw [drop_cons_of hy, List.filterMap_cons] at hp
   have hg1 : ∀ j : Heap, getRow (hh ++ j) (h.length + 1) v = some (58, 3, acc.map Outl.av) := fun j => by rw [gs_old _ (by omega)]; exact hg
   have hs1 : ∀ (j : Heap) (b : Blk), (hh ++ j).set (h.length + 1) b = hh.set (h.length + 1) b ++ j := fun j b => st_old b (by omega)
   have F := F4 F hy hg1 hs1
   try refine sq F ?_
   (repeat (first | refine w1 (fun K hK => ?_) | refine w2 ?_ | refine w3 ?_ | ((first | refine w4 ?_ | refine w5 ?_ | refine w6 ?_ | refine w7 ?_); try refine sq F ?_) | (refine w8 ?_; refine sq F ?_; refine w9 ?_) | (refine rq F ?_; try refine sq F ?_) | (refine vq F ?_; try refine sq F ?_) | ((first | refine hK _ _ (w0 ?_) | (clear hK K; refine hK _ _ (w0 ?_)) | (clear hK K; clear hK K; refine hK _ _ (w0 ?_))); clear hK K)))
   refine WP_draw5 11 11 _ (by rfl) (by decide +kernel) (by kernel_rfl) (by decide +kernel) (by decide +kernel) (by decide +kernel) ?_
   simp only [List.take_succ_cons, List.take_zero]
   refine sq F ?_
   (repeat (first | refine w1 (fun K hK => ?_) | refine w2 ?_ | refine w3 ?_ | ((first | refine w4 ?_ | refine w5 ?_ | refine w6 ?_ | refine w7 ?_); try refine sq F ?_) | (refine w8 ?_; refine sq F ?_; refine w9 ?_) | (refine rq F ?_; try refine sq F ?_) | (refine vq F ?_; try refine sq F ?_) | ((first | refine hK _ _ (w0 ?_) | (clear hK K; refine hK _ _ (w0 ?_)) | (clear hK K; clear hK K; refine hK _ _ (w0 ?_))); clear hK K)))
   skip
   refine ⟨_, rattrO_sat G y bText 256 (by omega) (by omega) _, ?_⟩
   try refine sq F ?_
   (repeat (first | refine w1 (fun K hK => ?_) | refine w2 ?_ | refine w3 ?_ | ((first | refine w4 ?_ | refine wD ?_ | refine w5 ?_ | refine w6 ?_ | refine w7 ?_); try refine sq F ?_) | (refine w8 ?_; refine sq F ?_; refine w9 ?_) | (refine rq F ?_; try refine sq F ?_) | (refine vq F ?_; try refine sq F ?_) | ((first | refine hK _ _ (w0 ?_) | (clear hK K; refine hK _ _ (w0 ?_)) | (clear hK K; clear hK K; refine hK _ _ (w0 ?_))); clear hK K)))
   refine ⟨_, rattrO_sat G y bUrl 512 (by omega) (by omega) _, ?_⟩
   try refine sq F ?_
   (repeat (first | refine w1 (fun K hK => ?_) | refine w2 ?_ | refine w3 ?_ | ((first | refine w4 ?_ | refine wD ?_ | refine w5 ?_ | refine w6 ?_ | refine w7 ?_); try refine sq F ?_) | (refine w8 ?_; refine sq F ?_; refine w9 ?_) | (refine rq F ?_; try refine sq F ?_) | (refine vq F ?_; try refine sq F ?_) | ((first | refine hK _ _ (w0 ?_) | (clear hK K; refine hK _ _ (w0 ?_)) | (clear hK K; clear hK K; refine hK _ _ (w0 ?_))); clear hK K)))
   rw [wpOperV_alloc]
   simp (disch := first | omega | (simp only [go_sem, ↓reduceIte, seval]; first | done | omega) | fail) only [go_sem, ↓reduceIte, seval, F]
   refine ⟨⟨_, rattrO_sat G y bText 256 (by omega) (by omega) _, _, rattrO_sat G y bUrl 512 (by omega) (by omega) _, ?_⟩, ?_⟩
   ·simp (disch := first | omega | (simp only [go_sem, ↓reduceIte, seval]; first | done | omega) | fail) only [go_sem, ↓reduceIte, seval, F]
    first | done | exact ⟨rfl, rfl, rfl⟩ | simp
   (repeat (first | refine w1 (fun K hK => ?_) | refine w2 ?_ | refine w3 ?_ | ((first | refine w4 ?_ | refine wD ?_ | refine w5 ?_ | refine w6 ?_ | refine w7 ?_); try refine sq F ?_) | (refine w8 ?_; refine sq F ?_; refine w9 ?_) | (refine rq F ?_; try refine sq F ?_) | (refine vq F ?_; try refine sq F ?_)))
   refine hK _ _ ⟨_, _, Weak.rows (p := hh.length) (v := 0) (e := 58) (m := 3) (rows := [.agg [.str (attrS y bText 256), .str (attrS y bUrl 512), .nil (.slice none 0 0)]]) [.agg [.str (attrS y bText 256), .str (attrS y bUrl 512), .sl 3 []]] (by rw [gs_new0 _ rfl]; rfl) rfl (fun i r s h1 h2 => ?_), ?_⟩
   ·match i with
    | 0 => simp at h1 h2; subst h1; subst h2; exact wk_outl _ _
    | i + 1 => simp at h1
   clear hK K
   rw [st_new0 _ rfl]
   simp only [List.set_cons_zero]
   have put : ∀ (o : Outl) (B : Blk), FrN h.length h (hh.set (h.length + 1) (.row 58 3 (v + 1) ((acc ++ [o]).map Outl.av)) ++ [B]) ∧ h.length + 1 < (hh.set (h.length + 1) (.row 58 3 (v + 1) ((acc ++ [o]).map Outl.av)) ++ [B]).length := fun o B =>
    ⟨FrN.app _ (by simp; omega) (FrN.set _ (by omega) hfr), by simp; omega⟩
   have put2 : ∀ (o : Outl) (B : Blk), getRow (hh.set (h.length + 1) (.row 58 3 (v + 1) ((acc ++ [o]).map Outl.av)) ++ [B]) (h.length + 1) (v + 1) = some (58, 3, (acc ++ [o]).map Outl.av) := fun o B => by
    rw [gs_old _ (by simp; omega), gs_eq _ _ _ _ _ (by omega)]; simp
   have hun : titF y = orF (attrS y bText 256) (attrS y bTitle 256) (shortF (attrS y bUrl 512) 256) := rfl
   (repeat (first | refine w1 (fun K hK => ?_) | refine w2 ?_ | refine w3 ?_ | ((first | refine w4 ?_ | refine wD ?_ | refine w5 ?_ | refine w6 ?_ | refine w7 ?_); try refine sq F ?_) | (refine w8 ?_; refine sq F ?_; refine w9 ?_) | (refine rq F ?_; try refine sq F ?_) | (refine vq F ?_; try refine sq F ?_) | ((first | refine hK _ _ (w0 ?_) | (clear hK K; refine hK _ _ (w0 ?_)) | (clear hK K; clear hK K; refine hK _ _ (w0 ?_))); clear hK K)))
   refine cq F (fun c2 => ?_) (fun c2 => ?_) <;> (try exact c2.elim) <;> ((repeat (first | refine w1 (fun K hK => ?_) | refine w2 ?_ | refine w3 ?_ | ((first | refine w4 ?_ | refine wD ?_ | refine w5 ?_ | refine w6 ?_ | refine w7 ?_); try refine sq F ?_) | (refine w8 ?_; refine sq F ?_; refine w9 ?_) | (refine rq F ?_; try refine sq F ?_) | (refine vq F ?_; try refine sq F ?_) | ((first | refine hK _ _ (w0 ?_) | (clear hK K; refine hK _ _ (w0 ?_)) | (clear hK K; clear hK K; refine hK _ _ (w0 ?_))); clear hK K))))
   ·refine (rattrO_sat G y bTitle 256 (by omega) (by omega) _).mono ?_
    rintro r h' ⟨rfl, rfl⟩
    try refine sq F ?_
    (repeat (first | refine w1 (fun K hK => ?_) | refine w2 ?_ | refine w3 ?_ | ((first | refine w4 ?_ | refine wD ?_ | refine w5 ?_ | refine w6 ?_ | refine w7 ?_); try refine sq F ?_) | (refine w8 ?_; refine sq F ?_; refine w9 ?_) | (refine rq F ?_; try refine sq F ?_) | (refine vq F ?_; try refine sq F ?_) | ((first | refine hK _ _ (w0 ?_) | (clear hK K; refine hK _ _ (w0 ?_)) | (clear hK K; clear hK K; refine hK _ _ (w0 ?_))); clear hK K)))
    refine cq F (fun c3 => ?_) (fun c3 => ?_) <;> (try exact c3.elim) <;> ((repeat (first | refine w1 (fun K hK => ?_) | refine w2 ?_ | refine w3 ?_ | ((first | refine w4 ?_ | refine wD ?_ | refine w5 ?_ | refine w6 ?_ | refine w7 ?_); try refine sq F ?_) | (refine w8 ?_; refine sq F ?_; refine w9 ?_) | (refine rq F ?_; try refine sq F ?_) | (refine vq F ?_; try refine sq F ?_) | ((first | refine hK _ _ (w0 ?_) | (clear hK K; refine hK _ _ (w0 ?_)) | (clear hK K; clear hK K; refine hK _ _ (w0 ?_))); clear hK K))))
    ·refine (rShort10_sat G (attrS y bUrl 512) 256 (by omega) (by omega) _).mono ?_
     rintro r h' ⟨rfl, rfl⟩
     try refine sq F ?_
     (repeat (first | refine w1 (fun K hK => ?_) | refine w2 ?_ | refine w3 ?_ | ((first | refine w4 ?_ | refine wD ?_ | refine w5 ?_ | refine w6 ?_ | refine w7 ?_); try refine sq F ?_) | (refine w8 ?_; refine sq F ?_; refine w9 ?_) | (refine rq F ?_; try refine sq F ?_) | (refine vq F ?_; try refine sq F ?_) | ((first | refine hK _ _ (w0 ?_) | (clear hK K; refine hK _ _ (w0 ?_)) | (clear hK K; clear hK K; refine hK _ _ (w0 ?_))); clear hK K)))
     have htit : titF y = shortF (attrS y bUrl 512) 256 := by rw [hun]; unfold orF; rw [if_neg (by simp [c2]), if_neg (by simp [c3])]
     refine cq F (fun c4 => ?_) (fun c4 => ?_) <;> (try exact c4.elim) <;> ((repeat (first | refine w1 (fun K hK => ?_) | refine w2 ?_ | refine w3 ?_ | ((first | refine w4 ?_ | refine wD ?_ | refine w5 ?_ | refine w6 ?_ | refine w7 ?_); try refine sq F ?_) | (refine w8 ?_; refine sq F ?_; refine w9 ?_) | (refine rq F ?_; try refine sq F ?_) | (refine vq F ?_; try refine sq F ?_) | ((first | refine hK _ _ (w0 ?_) | (clear hK K; refine hK _ _ (w0 ?_)) | (clear hK K; clear hK K; refine hK _ _ (w0 ?_))); clear hK K))))
     ·have ho : oneO (ofF f) y = none := by unfold oneO; rw [if_pos (by rw [htit]; exact c4)]
      rw [ho] at hp
      refine hK2 _ _ _ (Wkn.refl ⟨k + 1, v, acc, hh ++ [.row 58 3 0 [.agg [.str (shortF (attrS y bUrl 512) 256), .str (attrS y bUrl 512), .sl 3 []]]], rfl, hpE, ?_, ?_, by omega, by omega, hp, ⟨FrN.app _ (by omega) hfr, by simp; omega⟩, hg1 _⟩) (by omega)
      all_goals first | exact zq F | rfl | omega | trivial | skip
     ·have hne : ¬ titF y = [] := by rw [htit]; exact c4
      refine cq F (fun c5 => ?_) (fun c5 => ?_) <;> (try exact c5.elim) <;> ((repeat (first | refine w1 (fun K hK => ?_) | refine w2 ?_ | refine w3 ?_ | ((first | refine w4 ?_ | refine wD ?_ | refine w5 ?_ | refine w6 ?_ | refine w7 ?_); try refine sq F ?_) | (refine w8 ?_; refine sq F ?_; refine w9 ?_) | (refine rq F ?_; try refine sq F ?_) | (refine vq F ?_; try refine sq F ?_) | ((first | refine hK _ _ (w0 ?_) | (clear hK K; refine hK _ _ (w0 ?_)) | (clear hK K; clear hK K; refine hK _ _ (w0 ?_))); clear hK K))))
      ·have ho : oneO (ofF f) y = some ⟨titF y, attrS y bUrl 512, ofF f y⟩ := by unfold oneO; rw [if_neg hne, if_pos c5]
       rw [ho, htit] at hp
       refine (ih (d + 1) (by omega) (by omega) y (by omega) _).mono ?_
       rintro r h' ⟨rfl, rfl⟩
       try refine sq F ?_
       (repeat (first | refine w1 (fun K hK => ?_) | refine w2 ?_ | refine w3 ?_ | ((first | refine w4 ?_ | refine wD ?_ | refine w5 ?_ | refine w6 ?_ | refine w7 ?_); try refine sq F ?_) | (refine w8 ?_; refine sq F ?_; refine w9 ?_) | (refine rq F ?_; try refine sq F ?_) | (refine vq F ?_; try refine sq F ?_) | ((first | refine hK _ _ (w0 ?_) | (clear hK K; refine hK _ _ (w0 ?_)) | (clear hK K; clear hK K; refine hK _ _ (w0 ?_))); clear hK K)))
       refine aq F ?_
       try refine sq F ?_
       (repeat (first | refine w1 (fun K hK => ?_) | refine w2 ?_ | refine w3 ?_ | ((first | refine w4 ?_ | refine wD ?_ | refine w5 ?_ | refine w6 ?_ | refine w7 ?_); try refine sq F ?_) | (refine w8 ?_; refine sq F ?_; refine w9 ?_) | (refine rq F ?_; try refine sq F ?_) | (refine vq F ?_; try refine sq F ?_) | ((first | refine hK _ _ (w0 ?_) | (clear hK K; refine hK _ _ (w0 ?_)) | (clear hK K; clear hK K; refine hK _ _ (w0 ?_))); clear hK K)))
       refine hK2 _ _ _ (Wkn.refl ⟨k + 1, v + 1, acc ++ [⟨shortF (attrS y bUrl 512) 256, attrS y bUrl 512, ofF f y⟩], hh.set (h.length + 1) (.row 58 3 (v + 1) ((acc ++ [Outl.mk (shortF (attrS y bUrl 512) 256) (attrS y bUrl 512) (ofF f y)]).map Outl.av)) ++ [.row 58 3 0 [.agg [.str (shortF (attrS y bUrl 512) 256), .str (attrS y bUrl 512), .sl 3 ((ofF f y).map Outl.av)]]], rfl, by simp [Outl.av_eq, Outl.title, Outl.url, Outl.kids], ?_, ?_, by omega, by simp; omega, by rw [← hp]; simp, put _ _, put2 _ _⟩) (by omega)
       all_goals first | exact zq F | rfl | omega | trivial | skip
      ·have ho : oneO (ofF f) y = some ⟨titF y, attrS y bUrl 512, []⟩ := by unfold oneO; rw [if_neg hne, if_neg c5]
       rw [ho, htit] at hp
       refine aq F ?_
       try refine sq F ?_
       (repeat (first | refine w1 (fun K hK => ?_) | refine w2 ?_ | refine w3 ?_ | ((first | refine w4 ?_ | refine wD ?_ | refine w5 ?_ | refine w6 ?_ | refine w7 ?_); try refine sq F ?_) | (refine w8 ?_; refine sq F ?_; refine w9 ?_) | (refine rq F ?_; try refine sq F ?_) | (refine vq F ?_; try refine sq F ?_) | ((first | refine hK _ _ (w0 ?_) | (clear hK K; refine hK _ _ (w0 ?_)) | (clear hK K; clear hK K; refine hK _ _ (w0 ?_))); clear hK K)))
       refine hK2 _ _ _ (Wkn.refl ⟨k + 1, v + 1, acc ++ [⟨shortF (attrS y bUrl 512) 256, attrS y bUrl 512, []⟩], hh.set (h.length + 1) (.row 58 3 (v + 1) ((acc ++ [Outl.mk (shortF (attrS y bUrl 512) 256) (attrS y bUrl 512) []]).map Outl.av)) ++ [.row 58 3 0 [.agg [.str (shortF (attrS y bUrl 512) 256), .str (attrS y bUrl 512), .sl 3 []]]], rfl, by simp [Outl.av_eq, Outl.title, Outl.url, Outl.kids], ?_, ?_, by omega, by simp; omega, by rw [← hp]; simp, put _ _, put2 _ _⟩) (by omega)
       all_goals first | exact zq F | rfl | omega | trivial | skip
    ·have htit : titF y = attrS y bTitle 256 := by rw [hun]; unfold orF; rw [if_neg (by simp [c2]), if_pos c3]
     have hne : ¬ titF y = [] := by rw [htit]; exact c3
     have c3f : (attrS y bTitle 256 == ([] : Bs)) = false := by simpa using c3
     have F := F2 F @c3f
     try refine sq F ?_
     (repeat (first | refine w1 (fun K hK => ?_) | refine w2 ?_ | refine w3 ?_ | ((first | refine w4 ?_ | refine wD ?_ | refine w5 ?_ | refine w6 ?_ | refine w7 ?_); try refine sq F ?_) | (refine w8 ?_; refine sq F ?_; refine w9 ?_) | (refine rq F ?_; try refine sq F ?_) | (refine vq F ?_; try refine sq F ?_) | ((first | refine hK _ _ (w0 ?_) | (clear hK K; refine hK _ _ (w0 ?_)) | (clear hK K; clear hK K; refine hK _ _ (w0 ?_))); clear hK K)))
     refine cq F (fun c5 => ?_) (fun c5 => ?_) <;> (try exact c5.elim) <;> ((repeat (first | refine w1 (fun K hK => ?_) | refine w2 ?_ | refine w3 ?_ | ((first | refine w4 ?_ | refine wD ?_ | refine w5 ?_ | refine w6 ?_ | refine w7 ?_); try refine sq F ?_) | (refine w8 ?_; refine sq F ?_; refine w9 ?_) | (refine rq F ?_; try refine sq F ?_) | (refine vq F ?_; try refine sq F ?_) | ((first | refine hK _ _ (w0 ?_) | (clear hK K; refine hK _ _ (w0 ?_)) | (clear hK K; clear hK K; refine hK _ _ (w0 ?_))); clear hK K))))
     ·have ho : oneO (ofF f) y = some ⟨titF y, attrS y bUrl 512, ofF f y⟩ := by unfold oneO; rw [if_neg hne, if_pos c5]
      rw [ho, htit] at hp
      refine (ih (d + 1) (by omega) (by omega) y (by omega) _).mono ?_
      rintro r h' ⟨rfl, rfl⟩
      try refine sq F ?_
      (repeat (first | refine w1 (fun K hK => ?_) | refine w2 ?_ | refine w3 ?_ | ((first | refine w4 ?_ | refine wD ?_ | refine w5 ?_ | refine w6 ?_ | refine w7 ?_); try refine sq F ?_) | (refine w8 ?_; refine sq F ?_; refine w9 ?_) | (refine rq F ?_; try refine sq F ?_) | (refine vq F ?_; try refine sq F ?_) | ((first | refine hK _ _ (w0 ?_) | (clear hK K; refine hK _ _ (w0 ?_)) | (clear hK K; clear hK K; refine hK _ _ (w0 ?_))); clear hK K)))
      refine aq F ?_
      try refine sq F ?_
      (repeat (first | refine w1 (fun K hK => ?_) | refine w2 ?_ | refine w3 ?_ | ((first | refine w4 ?_ | refine wD ?_ | refine w5 ?_ | refine w6 ?_ | refine w7 ?_); try refine sq F ?_) | (refine w8 ?_; refine sq F ?_; refine w9 ?_) | (refine rq F ?_; try refine sq F ?_) | (refine vq F ?_; try refine sq F ?_) | ((first | refine hK _ _ (w0 ?_) | (clear hK K; refine hK _ _ (w0 ?_)) | (clear hK K; clear hK K; refine hK _ _ (w0 ?_))); clear hK K)))
      refine hK2 _ _ _ (Wkn.refl ⟨k + 1, v + 1, acc ++ [⟨attrS y bTitle 256, attrS y bUrl 512, ofF f y⟩], hh.set (h.length + 1) (.row 58 3 (v + 1) ((acc ++ [Outl.mk (attrS y bTitle 256) (attrS y bUrl 512) (ofF f y)]).map Outl.av)) ++ [.row 58 3 0 [.agg [.str (attrS y bTitle 256), .str (attrS y bUrl 512), .sl 3 ((ofF f y).map Outl.av)]]], rfl, by simp [Outl.av_eq, Outl.title, Outl.url, Outl.kids], ?_, ?_, by omega, by simp; omega, by rw [← hp]; simp, put _ _, put2 _ _⟩) (by omega)
      all_goals first | exact zq F | rfl | omega | trivial | skip
     ·have ho : oneO (ofF f) y = some ⟨titF y, attrS y bUrl 512, []⟩ := by unfold oneO; rw [if_neg hne, if_neg c5]
      rw [ho, htit] at hp
      refine aq F ?_
      try refine sq F ?_
      (repeat (first | refine w1 (fun K hK => ?_) | refine w2 ?_ | refine w3 ?_ | ((first | refine w4 ?_ | refine wD ?_ | refine w5 ?_ | refine w6 ?_ | refine w7 ?_); try refine sq F ?_) | (refine w8 ?_; refine sq F ?_; refine w9 ?_) | (refine rq F ?_; try refine sq F ?_) | (refine vq F ?_; try refine sq F ?_) | ((first | refine hK _ _ (w0 ?_) | (clear hK K; refine hK _ _ (w0 ?_)) | (clear hK K; clear hK K; refine hK _ _ (w0 ?_))); clear hK K)))
      refine hK2 _ _ _ (Wkn.refl ⟨k + 1, v + 1, acc ++ [⟨attrS y bTitle 256, attrS y bUrl 512, []⟩], hh.set (h.length + 1) (.row 58 3 (v + 1) ((acc ++ [Outl.mk (attrS y bTitle 256) (attrS y bUrl 512) []]).map Outl.av)) ++ [.row 58 3 0 [.agg [.str (attrS y bTitle 256), .str (attrS y bUrl 512), .sl 3 []]]], rfl, by simp [Outl.av_eq, Outl.title, Outl.url, Outl.kids], ?_, ?_, by omega, by simp; omega, by rw [← hp]; simp, put _ _, put2 _ _⟩) (by omega)
      all_goals first | exact zq F | rfl | omega | trivial | skip
   ·have htit : titF y = attrS y bText 256 := by rw [hun]; unfold orF; rw [if_pos c2]
    have hne : ¬ titF y = [] := by rw [htit]; exact c2
    have c2f : (attrS y bText 256 == ([] : Bs)) = false := by simpa using c2
    have F := F2 F @c2f
    try refine sq F ?_
    (repeat (first | refine w1 (fun K hK => ?_) | refine w2 ?_ | refine w3 ?_ | ((first | refine w4 ?_ | refine wD ?_ | refine w5 ?_ | refine w6 ?_ | refine w7 ?_); try refine sq F ?_) | (refine w8 ?_; refine sq F ?_; refine w9 ?_) | (refine rq F ?_; try refine sq F ?_) | (refine vq F ?_; try refine sq F ?_) | ((first | refine hK _ _ (w0 ?_) | (clear hK K; refine hK _ _ (w0 ?_)) | (clear hK K; clear hK K; refine hK _ _ (w0 ?_))); clear hK K)))
    refine cq F (fun c5 => ?_) (fun c5 => ?_) <;> (try exact c5.elim) <;> ((repeat (first | refine w1 (fun K hK => ?_) | refine w2 ?_ | refine w3 ?_ | ((first | refine w4 ?_ | refine wD ?_ | refine w5 ?_ | refine w6 ?_ | refine w7 ?_); try refine sq F ?_) | (refine w8 ?_; refine sq F ?_; refine w9 ?_) | (refine rq F ?_; try refine sq F ?_) | (refine vq F ?_; try refine sq F ?_) | ((first | refine hK _ _ (w0 ?_) | (clear hK K; refine hK _ _ (w0 ?_)) | (clear hK K; clear hK K; refine hK _ _ (w0 ?_))); clear hK K))))
    ·have ho : oneO (ofF f) y = some ⟨titF y, attrS y bUrl 512, ofF f y⟩ := by unfold oneO; rw [if_neg hne, if_pos c5]
     rw [ho, htit] at hp
     refine (ih (d + 1) (by omega) (by omega) y (by omega) _).mono ?_
     rintro r h' ⟨rfl, rfl⟩
     try refine sq F ?_
     (repeat (first | refine w1 (fun K hK => ?_) | refine w2 ?_ | refine w3 ?_ | ((first | refine w4 ?_ | refine wD ?_ | refine w5 ?_ | refine w6 ?_ | refine w7 ?_); try refine sq F ?_) | (refine w8 ?_; refine sq F ?_; refine w9 ?_) | (refine rq F ?_; try refine sq F ?_) | (refine vq F ?_; try refine sq F ?_) | ((first | refine hK _ _ (w0 ?_) | (clear hK K; refine hK _ _ (w0 ?_)) | (clear hK K; clear hK K; refine hK _ _ (w0 ?_))); clear hK K)))
     refine aq F ?_
     try refine sq F ?_
     (repeat (first | refine w1 (fun K hK => ?_) | refine w2 ?_ | refine w3 ?_ | ((first | refine w4 ?_ | refine wD ?_ | refine w5 ?_ | refine w6 ?_ | refine w7 ?_); try refine sq F ?_) | (refine w8 ?_; refine sq F ?_; refine w9 ?_) | (refine rq F ?_; try refine sq F ?_) | (refine vq F ?_; try refine sq F ?_) | ((first | refine hK _ _ (w0 ?_) | (clear hK K; refine hK _ _ (w0 ?_)) | (clear hK K; clear hK K; refine hK _ _ (w0 ?_))); clear hK K)))
     refine hK2 _ _ _ (Wkn.refl ⟨k + 1, v + 1, acc ++ [⟨attrS y bText 256, attrS y bUrl 512, ofF f y⟩], hh.set (h.length + 1) (.row 58 3 (v + 1) ((acc ++ [Outl.mk (attrS y bText 256) (attrS y bUrl 512) (ofF f y)]).map Outl.av)) ++ [.row 58 3 0 [.agg [.str (attrS y bText 256), .str (attrS y bUrl 512), .sl 3 ((ofF f y).map Outl.av)]]], rfl, by simp [Outl.av_eq, Outl.title, Outl.url, Outl.kids], ?_, ?_, by omega, by simp; omega, by rw [← hp]; simp, put _ _, put2 _ _⟩) (by omega)
     all_goals first | exact zq F | rfl | omega | trivial | skip
    ·have ho : oneO (ofF f) y = some ⟨titF y, attrS y bUrl 512, []⟩ := by unfold oneO; rw [if_neg hne, if_neg c5]
     rw [ho, htit] at hp
     refine aq F ?_
     try refine sq F ?_
     (repeat (first | refine w1 (fun K hK => ?_) | refine w2 ?_ | refine w3 ?_ | ((first | refine w4 ?_ | refine wD ?_ | refine w5 ?_ | refine w6 ?_ | refine w7 ?_); try refine sq F ?_) | (refine w8 ?_; refine sq F ?_; refine w9 ?_) | (refine rq F ?_; try refine sq F ?_) | (refine vq F ?_; try refine sq F ?_) | ((first | refine hK _ _ (w0 ?_) | (clear hK K; refine hK _ _ (w0 ?_)) | (clear hK K; clear hK K; refine hK _ _ (w0 ?_))); clear hK K)))
     refine hK2 _ _ _ (Wkn.refl ⟨k + 1, v + 1, acc ++ [⟨attrS y bText 256, attrS y bUrl 512, []⟩], hh.set (h.length + 1) (.row 58 3 (v + 1) ((acc ++ [Outl.mk (attrS y bText 256) (attrS y bUrl 512) []]).map Outl.av)) ++ [.row 58 3 0 [.agg [.str (attrS y bText 256), .str (attrS y bUrl 512), .sl 3 []]]], rfl, by simp [Outl.av_eq, Outl.title, Outl.url, Outl.kids], ?_, ?_, by omega, by simp; omega, by rw [← hp]; simp, put _ _, put2 _ _⟩) (by omega)
     all_goals first | exact zq F | rfl | omega | trivial | skip
  ·rw [drop_nil_of c1, List.filterMap_nil, List.append_nil] at hp
   (repeat (first | refine w1 (fun K hK => ?_) | refine w2 ?_ | refine w3 ?_ | ((first | refine w4 ?_ | refine wD ?_ | refine w5 ?_ | refine w6 ?_ | refine w7 ?_); try refine sq F ?_) | (refine w8 ?_; refine sq F ?_; refine w9 ?_) | (refine rq F ?_; try refine sq F ?_) | (refine vq F ?_; try refine sq F ?_) | ((first | refine hK _ _ (w0 ?_) | (clear hK K; refine hK _ _ (w0 ?_)) | (clear hK K; clear hK K; refine hK _ _ (w0 ?_))); clear hK K)))
   refine ee hQ F ?_
   rw [← hp]
   obtain ⟨j, hj⟩ := hfr.split (by omega)
   have hg2 : getRow (h ++ j) (h.length + 1) v = some (58, 3, acc.map Outl.av) := by rw [← hj]; exact hg
   rw [hj]
   exact Fin.frz (Frz.outls (by omega) hg2 rfl) ⟨rfl, rfl⟩
end Go.Av
namespace Go.Av
open Go Go.Proofs Go.RowKit
attribute [local irreducible] WP WPl WPix Sat
set_option maxRecDepth 100000
set_option maxHeartbeats 1000000
variable (G : Nat → Option (List AVal))
theorem cntGo_le (g : List Outl → Nat) (b : Nat) (hb : 1 ≤ b) (hg : ∀ l, g l ≤ b) : ∀ (t : List Outl) (a : Nat), a ≤ 512 → cntGo g t a ≤ 512 + b
 | [], a, h => by rw [cntGo]; omega
 | o :: t, a, h => by
  rw [cntGo]
  split
  ·split
   ·have := hg o.kids; omega
   ·exact cntGo_le g b hb hg t _ (by omega)
  ·omega
theorem cntN_le : ∀ (f : Nat) (l : List Outl), cntN f l ≤ 513 + 512 * f := by
 intro f
 induction f with
 | zero => intro l; rw [cntN]; split <;> omega
 | succ f ih =>
  intro l
  rw [cntN]
  split
  ·omega
  ·have := cntGo_le (cntN f) (513 + 512 * f) (by omega) ih l l.length (by omega); omega
def OkN : Nat → List Outl → Prop
 | 0, l => l.length ≤ 1000000
 | f + 1, l => l.length ≤ 1000000 ∧ ∀ o ∈ l, o.title.length ≤ 100000 ∧ o.url.length ≤ 100000 ∧ OkN f o.kids
theorem ofF_len (f : Nat) (e : Elem) : (ofF f e).length ≤ e.sz := by
 cases f with
 | zero => exact Nat.zero_le _
 | succ f =>
  have h1 := List.length_filterMap_le (oneO (ofF f)) (kidsF e bOutline)
  have h2 := szs_len Elem.sz Elem.sz_pos (kidsF e bOutline)
  have h3 := kidsF_szs e bOutline
  show ((kidsF e bOutline).filterMap (oneO (ofF f))).length ≤ _
  omega
theorem OkN.nil : ∀ f : Nat, OkN f [] := fun f => by cases f with | zero => exact Nat.zero_le _ | succ f => exact ⟨Nat.zero_le _, fun o ho => by cases ho⟩
theorem ofF_ok : ∀ (g f : Nat) (e : Elem), e.sz ≤ 1000000 → OkN g (ofF f e) := by
 intro g
 induction g with
 | zero => intro f e he; have := ofF_len f e; show _ ≤ _; omega
 | succ g ih =>
  intro f e he
  have hl := ofF_len f e
  refine ⟨by omega, fun o ho => ?_⟩
  cases f with
  | zero => cases ho
  | succ f =>
   obtain ⟨k, hk, hko⟩ := List.mem_filterMap.1 ho
   have h1 := Elem.kid_sz (kidsF_in hk)
   have h2 := titF_len k
   have h3 := url_len k
   unfold oneO at hko
   by_cases h0 : titF k = []
   ·rw [if_pos h0] at hko; cases hko
   ·rw [if_neg h0] at hko
    cases hko
    refine ⟨by show (titF k).length ≤ _; omega, by show (attrS k bUrl 512).length ≤ _; omega, ?_⟩
    show OkN g (if attrS k bUrl 512 = [] then ofF f k else [])
    by_cases h4 : attrS k bUrl 512 = []
    ·rw [if_pos h4]; exact ih f k (by omega)
    ·rw [if_neg h4]; exact OkN.nil g
theorem cntN_nil (f : Nat) : cntN f [] = 0 := by cases f <;> rfl
theorem Pcount_nil (f d : Nat) (h : Heap) : Sat (CT G) 70 [.sl 3 (([] : List Outl).map Outl.av), .int .i64 d] h (fun r h' => r = .int .i64 (cntN f []) ∧ h' = h) := by
 rw [cntN_nil]
 refine sb [.tmp 4] (fn := Tryz.f70) Tryz.func70 ?_
 intro Q hQ
 refine wk trivial ?_
 refine lm (fun nL tL hL => ∃ (k : Nat), 0 = nL ∧ h = hL ∧ tL 5 = .int .i64 0 ∧ tL 22 = .int .i64 k ∧ k = 0) ((fun (k : Nat) => (0 : Nat)) (0)) ?_ ?_
 ·refine Wkn.refl ⟨0, rfl, hpE, ?_, ?_, rfl⟩
  all_goals first | exact zq trivial | rfl | omega | trivial | skip
 rintro _ s2 h' ⟨k, rfl, rfl, e5, e22, hk⟩ K2 hK2
 simp only [mix_cons, mix_nil, Nat.reduceEqDiff, ↓reduceIte] at e5 e22
 have F := F2 e5 e22
 subst hk
 refine wk F ?_
 refine ee hQ F ?_
 refine fR (.int _ _) ?_
 rfl
theorem Pcount_sat : ∀ (f d : Nat), f + d = 9 → ∀ (l : List Outl) (_ : OkN f l) (h : Heap), Sat (CT G) 70 [.sl 3 (l.map Outl.av), .int .i64 d] h (fun r h' => r = .int .i64 (cntN f l) ∧ h' = h) := by
 intro f
 induction f with
 | zero =>
  intro d hf l hs h
  by_cases hl0 : l = []
  ·subst hl0; exact Pcount_nil G 0 d h
  have hlp := List.length_pos_iff.2 hl0
  have hlm : (l.map Outl.av).length = l.length := List.length_map ..
  have f1 : decide ((l.length : Int) > 0) = true := by rw [decide_eq_true_iff]; omega
  have f2 : decide ((d : Int) > 8) = true := by rw [decide_eq_true_iff]; omega
  have F := F3 hlm f1 f2
  refine sb [.tmp 4] (fn := Tryz.f70) Tryz.func70 ?_
  intro Q hQ
  refine wk F ?_
  refine ee hQ F ?_
  refine fR (.int _ _) ?_
  rw [cntN, if_neg hl0]; rfl
 | succ f ih =>
  intro d hf l hs h
  by_cases hl0 : l = []
  ·subst hl0; exact Pcount_nil G (f + 1) d h
  have hlp := List.length_pos_iff.2 hl0
  have hlm : (l.map Outl.av).length = l.length := List.length_map ..
  have hll := hs.1
  have f1 : decide ((l.length : Int) > 0) = true := by rw [decide_eq_true_iff]; omega
  have f2 : decide ((d : Int) > 8) = false := by rw [decide_eq_false_iff_not]; omega
  by_cases hl : 512 < l.length
  ·have f3 : decide ((l.length : Int) > 512) = true := by rw [decide_eq_true_iff]; omega
   have F := F4 hlm f1 f2 f3
   refine sb [.tmp 4] (fn := Tryz.f70) Tryz.func70 ?_
   intro Q hQ
   refine wk F ?_
   refine ee hQ F ?_
   refine fR (.int _ _) ?_
   rw [cntN, if_pos hl]; rfl
  have f3 : decide ((l.length : Int) > 512) = false := by rw [decide_eq_false_iff_not]; omega
  rw [cntN, if_neg hl]
  have F := F4 hlm f1 f2 f3
  refine sb [.tmp 4] (fn := Tryz.f70) Tryz.func70 ?_
  intro Q hQ
  refine wk F ?_
  refine lm (fun nL tL hL => ∃ (k a : Nat) (jj : Heap), l.length - k = nL ∧ h ++ jj = hL ∧ tL 5 = .int .i64 a ∧ tL 22 = .int .i64 k ∧ k ≤ l.length ∧ a ≤ 512 ∧ cntGo (cntN f) (l.drop k) a = cntGo (cntN f) l l.length) ((fun (k a : Nat) (jj : Heap) => (l.length - k : Nat)) (0) (l.length) ([])) ?_ ?_
  ·refine Wkn.refl ⟨0, l.length, [], rfl, hpE, ?_, ?_, by omega, by omega, rfl⟩
   all_goals first | exact zq F | rfl | omega | trivial | skip
  rintro _ s2 h' ⟨k, a, jj, rfl, rfl, e5, e22, hk, ha, hp⟩ K2 hK2
  simp only [mix_cons, mix_nil, Nat.reduceEqDiff, ↓reduceIte] at e5 e22
  have F := F3 F e5 e22
  refine wk F ?_
  refine cq F (fun c1 => ?_) (fun c1 => ?_) <;> (try exact c1.elim) <;> (refine wk F ?_)
  ·obtain ⟨y, hy, hym⟩ := getElem?_of_lt c1
   have hyo := hs.2 y hym
   have hcl := cntN_le f y.kids
   rw [drop_cons_of hy, cntGo] at hp
   have F := F2 F hy
   try refine sq F ?_
   refine wk F ?_
   refine kq F (PoneO_sat G y hyo.1 hyo.2.1 _) ?_
   refine cq F (fun c2 => ?_) (fun c2 => ?_) <;> (try exact c2.elim) <;> (refine wk F ?_)
   ·rw [if_neg (by simp [c2])] at hp
    refine ee hQ F ?_
    refine fR (.int _ _) ?_
    rw [← hp]; rfl
   ·rw [if_pos c2] at hp
    refine kq F (ih (d + 1) (by omega) y.kids hyo.2.2 _) ?_
    refine cq F (fun c3 => ?_) (fun c3 => ?_) <;> (try exact c3.elim) <;> (refine wk F ?_)
    ·rw [if_pos (by omega)] at hp
     refine ee hQ F ?_
     refine fR (.int _ _) ?_
     rw [← hp]; rfl
    ·rw [if_neg (by omega)] at hp
     refine hK2 _ _ _ (Wkn.refl ⟨k + 1, a + cntN f y.kids, jj ++ [.row 58 3 0 [y.av]], rfl, by simp, ?_, ?_, by omega, by omega, hp⟩) (by omega)
     all_goals first | exact zq F | rfl | omega | trivial | skip
  ·rw [drop_nil_of c1, cntGo] at hp
   refine wk F ?_
   refine ee hQ F ?_
   refine fR (.int _ _) ?_
   rw [hp]
end Go.Av
namespace Go.Av
open Go Go.Proofs Go.RowKit
attribute [local irreducible] WP WPl WPix Sat
set_option maxRecDepth 100000
set_option maxHeartbeats 1000000
variable (G : Nat → Option (List AVal))
theorem rmay_sat : ∀ (f d : Nat), f + d = 9 → ∀ (l : List Outl) (_ : OkN f l) (n : Nat) (_ : n ≤ 512) (h : Heap), Sat (CT G) 73 [.sl 3 (l.map Outl.av), .int .i64 d, .int .i64 n] h (fun r h' => r = .tup [.int .i64 (mayN f l n).1, .bool (mayN f l n).2] ∧ h' = h) := by
 intro f
 induction f with
 | zero =>
  intro d hf l hs n hn h
  have fin : ∀ (a : Int) (b : Bool), ((mayN 0 l n).1 : Int) = a → (mayN 0 l n).2 = b → Fin h h (fun r h' => r = .tup [.int .i64 (mayN 0 l n).1, .bool (mayN 0 l n).2] ∧ h' = h) (.tup [.int .i64 a, .bool b]) := fun a b e1 e2 => by
   rw [e1, e2]
   exact Fin.same (.tup _ (by intro c hc; simp at hc; rcases hc with rfl | rfl; exact .int _ _; exact .bool _)) ⟨rfl, rfl⟩
  by_cases hl0 : l = []
  ·subst hl0
   refine sb [.tmp 6, .tmp 7] (fn := Tryz.f73) Tryz.func73 ?_
   intro Q hQ
   refine wk trivial ?_
   refine lm (fun nL tL hL => ∃ (k : Nat), 0 = nL ∧ h = hL ∧ tL 2 = .int .i64 n ∧ tL 8 = .int .i64 k ∧ k = 0) ((fun (k : Nat) => (0 : Nat)) (0)) ?_ ?_
   ·refine Wkn.refl ⟨0, rfl, hpE, ?_, ?_, rfl⟩
    all_goals first | exact zq trivial | rfl | omega | trivial | skip
   rintro _ s2 h' ⟨k, rfl, rfl, e2, e8, hk⟩ K2 hK2
   simp only [mix_cons, mix_nil, Nat.reduceEqDiff, ↓reduceIte] at e2 e8
   have F := F2 e2 e8
   subst hk
   refine wk F ?_
   refine ee hQ F ?_
   exact fin _ _ rfl rfl
  have hlp := List.length_pos_iff.2 hl0
  have hlm : (l.map Outl.av).length = l.length := List.length_map ..
  have f1 : decide ((l.length : Int) > 0) = true := by rw [decide_eq_true_iff]; omega
  have f2 : decide ((d : Int) > 8) = true := by rw [decide_eq_true_iff]; omega
  have F := F3 hlm f1 f2
  refine sb [.tmp 6, .tmp 7] (fn := Tryz.f73) Tryz.func73 ?_
  intro Q hQ
  refine wk F ?_
  refine ee hQ F ?_
  exact fin _ _ (by rw [mayN, if_neg hl0]) (by rw [mayN, if_neg hl0])
 | succ f ih =>
  intro d hf l hs n hn h
  have fin : ∀ (j : Heap) (a : Int) (b : Bool), ((mayN (f + 1) l n).1 : Int) = a → (mayN (f + 1) l n).2 = b → Fin h (h ++ j) (fun r h' => r = .tup [.int .i64 (mayN (f + 1) l n).1, .bool (mayN (f + 1) l n).2] ∧ h' = h) (.tup [.int .i64 a, .bool b]) := fun j a b e1 e2 => by
   rw [e1, e2]
   exact Fin.plain (.tup _ (by intro c hc; simp at hc; rcases hc with rfl | rfl; exact .int _ _; exact .bool _)) ⟨rfl, rfl⟩
  have fin0 : ∀ (a : Int) (b : Bool), ((mayN (f + 1) l n).1 : Int) = a → (mayN (f + 1) l n).2 = b → Fin h h (fun r h' => r = .tup [.int .i64 (mayN (f + 1) l n).1, .bool (mayN (f + 1) l n).2] ∧ h' = h) (.tup [.int .i64 a, .bool b]) := fun a b e1 e2 => by
   have := fin [] a b e1 e2; simpa using this
  have hlm : (l.map Outl.av).length = l.length := List.length_map ..
  have hll := hs.1
  have hst : mayN (f + 1) l n = mayGo (mayN f) l n := rfl
  have f2 : decide ((d : Int) > 8) = false := by rw [decide_eq_false_iff_not]; omega
  have start : ∀ b : Bool, decide ((l.length : Int) > 0) = b → Sat (CT G) 73 [.sl 3 (l.map Outl.av), .int .i64 d, .int .i64 n] h (fun r h' => r = .tup [.int .i64 (mayN (f + 1) l n).1, .bool (mayN (f + 1) l n).2] ∧ h' = h) := by
   intro b f1
   cases b
   all_goals (
    have F := F3 hlm f1 f2
    refine sb [.tmp 6, .tmp 7] (fn := Tryz.f73) Tryz.func73 ?_
    intro Q hQ
    refine wk F ?_
    refine lm (fun nL tL hL => ∃ (k m : Nat), l.length - k = nL ∧ h = hL ∧ tL 2 = .int .i64 m ∧ tL 8 = .int .i64 k ∧ k ≤ l.length ∧ m ≤ 512 ∧ mayGo (mayN f) (l.drop k) m = mayN (f + 1) l n) ((fun (k m : Nat) => (l.length - k : Nat)) (0) (n)) ?_ ?_
    ·refine Wkn.refl ⟨0, n, rfl, hpE, ?_, ?_, by omega, hn, rfl⟩
     all_goals first | exact zq F | rfl | omega | trivial | skip
    rintro _ s2 h' ⟨k, m, rfl, rfl, e2, e8, hk, hm, hp⟩ K2 hK2
    simp only [mix_cons, mix_nil, Nat.reduceEqDiff, ↓reduceIte] at e2 e8
    have F := F3 F e2 e8
    refine wk F ?_
    refine cq F (fun c1 => ?_) (fun c1 => ?_) <;> (try exact c1.elim) <;> (refine wk F ?_)
    ·obtain ⟨y, hy, hym⟩ := getElem?_of_lt c1
     have hyo := hs.2 y hym
     rw [drop_cons_of hy, mayGo] at hp
     have bad : ¬ (m + 1 ≤ 512 ∧ oneOk y = true) → Fin h h (fun r h' => r = .tup [.int .i64 (mayN (f + 1) l n).1, .bool (mayN (f + 1) l n).2] ∧ h' = h) (.tup [.int .i64 ((m : Int) + 1), .bool false]) := fun hn => by
      rw [if_neg hn] at hp
      exact fin0 _ _ (by rw [← hp]; rfl) (by rw [← hp])
     have F := F2 F hy
     try refine sq F ?_
     refine wk F ?_
     (first | refine gq F (fun g1 => ?_) (fun g1 => ?_) | refine pq F (fun g1 => ?_) (fun g1 => ?_)) <;> (try exact g1.elim) <;> (try refine sq F ?_) <;> (refine wk F ?_)
     ·refine ee hQ F ?_
      exact bad (fun hh => by omega)
     ·(first | refine gq F (fun g2 => ?_) (fun g2 => ?_) | refine pq F (fun g2 => ?_) (fun g2 => ?_)) <;> (try exact g2.elim) <;> (try refine sq F ?_) <;> (refine wk F ?_)
      ·refine ee hQ F ?_
       exact bad (fun hh => by have := hh.2; unfold oneOk at this; simp [g2] at this)
      ·refine kq F (rtextO_sat G y.title 256 hyo.1 _) ?_
       (first | refine gq F (fun g3 => ?_) (fun g3 => ?_) | refine pq F (fun g3 => ?_) (fun g3 => ?_)) <;> (try exact g3.elim) <;> (try refine sq F ?_) <;> (refine wk F ?_)
       ·refine ee hQ F ?_
        exact bad (fun hh => by have := hh.2; unfold oneOk at this; simp [g3] at this)
       ·refine kq F (rtextO_sat G y.url 512 hyo.2.1 _) ?_
        (first | refine gq F (fun g4 => ?_) (fun g4 => ?_) | refine pq F (fun g4 => ?_) (fun g4 => ?_)) <;> (try exact g4.elim) <;> (try refine sq F ?_) <;> (refine wk F ?_)
        ·refine ee hQ F ?_
         exact bad (fun hh => by have := hh.2; unfold oneOk at this; simp [g4] at this)
        ·(first | refine gq F (fun g5 => ?_) (fun g5 => ?_) | refine pq F (fun g5 => ?_) (fun g5 => ?_)) <;> (try exact g5.elim) <;> (try refine sq F ?_) <;> (refine wk F ?_)
         ·refine cq F (fun g6 => ?_) (fun g6 => ?_) <;> (try exact g6.elim) <;> (refine wk F ?_)
          ·refine ee hQ F ?_
           exact bad (fun hh => by have := hh.2; unfold oneOk at this; simp [g5] at this; rw [this.2] at g6; simp at g6)
          ·have hk0 : y.kids = [] := List.length_eq_zero_iff.1 (by omega)
           have hok : m + 1 ≤ 512 ∧ oneOk y = true := ⟨by omega, by unfold oneOk; simp [g2, g3, g4, hk0]⟩
           rw [if_pos hok] at hp
           refine (ih (d + 1) (by omega) y.kids hyo.2.2 (m + 1) hok.1 _).mono ?_
           rintro r h' ⟨rfl, rfl⟩
           try refine sq F ?_
           refine wk F ?_
           refine cq F (fun c5 => ?_) (fun c5 => ?_) <;> (try exact c5.elim) <;> (refine wk F ?_)
           ·rw [if_neg (by simp [c5])] at hp
            refine ee hQ F ?_
            exact fin0 _ _ (by rw [← hp]) (by rw [← hp])
           ·rw [if_pos c5] at hp
            refine hK2 _ _ _ (Wkn.refl ⟨k + 1, (mayN f y.kids (m + 1)).1, rfl, hpE, ?_, ?_, by omega, (mayN_ge f y.kids (m + 1) hok.1 c5).2, hp⟩) (by omega)
            all_goals first | exact zq F | rfl | omega | trivial | skip
         ·have hu0 : y.url = [] := by simpa using g5
          have hok : m + 1 ≤ 512 ∧ oneOk y = true := ⟨by omega, by unfold oneOk; simp [g2, g3, hu0] at g4 ⊢; exact g4⟩
          rw [if_pos hok] at hp
          refine (ih (d + 1) (by omega) y.kids hyo.2.2 (m + 1) hok.1 _).mono ?_
          rintro r h' ⟨rfl, rfl⟩
          try refine sq F ?_
          refine wk F ?_
          refine cq F (fun c5 => ?_) (fun c5 => ?_) <;> (try exact c5.elim) <;> (refine wk F ?_)
          ·rw [if_neg (by simp [c5])] at hp
           refine ee hQ F ?_
           exact fin0 _ _ (by rw [← hp]) (by rw [← hp])
          ·rw [if_pos c5] at hp
           refine hK2 _ _ _ (Wkn.refl ⟨k + 1, (mayN f y.kids (m + 1)).1, rfl, hpE, ?_, ?_, by omega, (mayN_ge f y.kids (m + 1) hok.1 c5).2, hp⟩) (by omega)
           all_goals first | exact zq F | rfl | omega | trivial | skip
    ·rw [drop_nil_of c1, mayGo] at hp
     refine wk F ?_
     refine ee hQ F ?_
     exact fin0 _ _ (by rw [← hp]) (by rw [← hp]))
  exact start _ rfl
end Go.Av
namespace Go.Av
open Go Go.Proofs Go.RowKit
attribute [local irreducible] WP WPl WPix Sat
set_option maxRecDepth 100000
set_option maxHeartbeats 1000000
variable (G : Nat → Option (List AVal))
theorem PParse_sat (hG : GOk G) (hC : GClo (CT G)) (s : Bs) (hs : s.length ≤ 4194304) (h : Heap) : Sat (CT G) 10 [.str s] h (PrsR h s) := by
 have hsz : szs Tok.sz (toksF s).1 ≤ 1048576 := by have := toksF_szB s; omega
 refine sb [.cell 2 26, .tmp 3] (fn := Tryz.f10) Tryz.func10 ?_
 intro Q hQ
 refine wk trivial ?_
 refine (Tokens8_sat G hG s (by omega) _).mono ?_
 rintro r h' ⟨a, rfl, rfl⟩
 try refine sq trivial ?_
 refine wk trivial ?_
 by_cases c0 : (toksF s).2 = 0
 ·have b0 : ((toksF s).2 != 0) = false := by simpa using c0
  have F := b0
  try refine sq F ?_
  refine wk F ?_
  refine (PBuild_sat G hG hC (toksF s).1 hsz _).mono ?_
  rintro r h' ⟨e, rfl, he, hz, rfl⟩
  try refine sq F ?_
  refine wk F ?_
  refine ye hQ F ?_
  have hp : prsC s = if (bldF (toksF s).1).isSome then 0 else 90 := by unfold prsC; rw [if_pos c0]
  exact Fin.plain (.tup _ (by intro c hc; simp at hc; rcases hc with rfl | rfl; exact Elem.clo _ _; exact .int _ _)) ⟨e, by rw [hp], (fun y _ hy => he y hy), (fun hne => hz (by cases hb : bldF (toksF s).1 with | none => rfl | some x => rw [hp, hb] at hne; exact absurd rfl hne)), rfl⟩
 ·have b0 : ((toksF s).2 != 0) = true := by simpa using c0
  have F := b0
  try refine sq F ?_
  refine wk F ?_
  refine ye hQ F ?_
  exact PrsR.bad _ _ (by unfold prsC; rw [if_neg c0]) c0
end Go.Av
namespace Go.Av
open Go Go.Proofs Go.RowKit
attribute [local irreducible] WP WPl WPix Sat
set_option maxRecDepth 100000
set_option maxHeartbeats 1000000
variable (G : Nat → Option (List AVal))
def okO (l : List Outl) : Bool := decide (cntN 8 l ≤ 512)
theorem PCheckO_sat (l : List Outl) (hl : OkN 8 l) (h : Heap) : Sat (CT G) 36 [.sl 3 (l.map Outl.av)] h (fun r h' => r = .int .i64 (if okO l then 0 else 130) ∧ h' = h) := by
 have hc := cntN_le 8 l
 refine sb [.tmp 2] (fn := Tryz.f36) Tryz.func36 ?_
 intro Q hQ
 refine wk trivial ?_
 refine kq trivial (Pcount_sat G 8 1 (by omega) l hl _) ?_
 refine cq trivial (fun c1 => ?_) (fun c1 => ?_) <;> (try exact c1.elim) <;> (refine wk trivial ?_)
 ·refine ee hQ trivial ?_
  refine fR (.int _ _) ?_
  rw [if_neg (by unfold okO; simp; omega)]
 ·refine ee hQ trivial ?_
  refine fR (.int _ _) ?_
  rw [if_pos (by unfold okO; simp; omega)]
theorem rCheckO_sat (l : List Outl) (hl : OkN 8 l) (h : Heap) : Sat (CT G) 39 [.sl 3 (l.map Outl.av)] h (fun r h' => r = .bool (okO l) ∧ h' = h) := by
 have hm := (may_cnt 8 l 0 (by omega)).1
 refine sb [.tmp 2] (fn := Tryz.f39) Tryz.func39 ?_
 intro Q hQ
 refine wk trivial ?_
 refine (rmay_sat G 8 1 (by omega) l hl 0 (by omega) _).mono ?_
 rintro r h' ⟨rfl, rfl⟩
 try refine sq trivial ?_
 refine wk trivial ?_
 refine ee hQ trivial ?_
 refine fR (.bool _) ?_
 unfold okO
 congr 1
 rw [Bool.eq_iff_iff, hm]; simp
theorem deep_less : ∀ (n d : Nat), d + n = 40 → ∀ e : Elem, deep e (d + 1) ≤ 32 → deep e d ≤ 32 := by
 intro n
 induction n with
 | zero => intro d hd e he; rw [deep_eq, if_pos (by omega)] at he; omega
 | succ n ih =>
  intro d hd e he
  have h40 : ¬ 40 ≤ d + 1 := fun h => by rw [deep_eq, if_pos h] at he; omega
  rw [deep_eq, if_neg h40] at he
  have h2 := deepL_ge e.kids (d + 1) (d + 1)
  rw [deep_eq, if_neg (by omega)]
  exact deepL_up _ _ _ (by omega) fun k hk => ih (d + 1) (by omega) k (by have := h2.2 k hk; omega)
theorem cnt_sz_go (g : List Outl → Nat) (hg : ∀ l, g l ≤ 512 → szs Outl.sz l ≤ 769 * g l) : ∀ (t : List Outl) (a : Nat), t.length ≤ a → cntGo g t a ≤ 512 → szs Outl.sz t + 769 * (a - t.length) ≤ 769 * cntGo g t a
 | [], a, _, _ => by simp [szs, cntGo]
 | o :: t, a, ha, h => by
  rw [cntGo] at h ⊢
  simp only [List.length_cons] at ha ⊢
  by_cases hk : oneOk o = true
  ·rw [if_pos hk] at h ⊢
   by_cases h5 : 512 < a + g o.kids
   ·rw [if_pos h5] at h; omega
   ·rw [if_neg h5] at h ⊢
    have h1 := cnt_sz_go g hg t (a + g o.kids) (by omega) h
    have h2 := hg o.kids (by omega)
    have h3 := o.sz_eq
    unfold oneOk textO at hk
    simp only [Bool.and_eq_true, decide_eq_true_eq] at hk
    have h4 := hk.1.1.2.1.1
    have h6 := hk.1.2.1.1
    rw [szs]; omega
  ·rw [if_neg hk] at h; omega
theorem cnt_sz : ∀ (f : Nat) (l : List Outl), cntN f l ≤ 512 → szs Outl.sz l ≤ 769 * cntN f l := by
 intro f
 induction f with
 | zero =>
  intro l h
  rw [cntN] at h ⊢
  by_cases hl : l = []
  ·subst hl; simp [szs]
  ·rw [if_neg hl] at h; omega
 | succ f ih =>
  intro l h
  rw [cntN] at h ⊢
  by_cases hl : 512 < l.length
  ·rw [if_pos hl] at h; omega
  ·rw [if_neg hl] at h ⊢
   have := cnt_sz_go (cntN f) ih l l.length (Nat.le_refl _) h
   omega
def rdO (e : Elem) : List Outl := ofF 40 (kidF e bBody).1
def goodO (e : Elem) : Bool := (kidF e bBody).2 && decide (short e.name = bOpml) && okO (rdO e)
def rdF (s : Bs) : List Outl × Int :=
 if prsC s = 0 then
  match bldF (toksF s).1 with
  | none => ([], 0)
  | some e => if goodO e then (rdO e, 0) else ([], 130)
 else ([], prsC s)
def RdO (h : Heap) (s : Bs) (r : AVal) (h' : Heap) : Prop := r = .tup [.sl 3 ((rdF s).1.map Outl.av), .int .i64 (rdF s).2] ∧ h' = h
theorem prs0 {s : Bs} (h : prsC s = 0) : ∃ y, bldF (toksF s).1 = some y := by
 unfold prsC at h
 by_cases c0 : (toksF s).2 = 0
 ·rw [if_pos c0] at h
  cases hb : bldF (toksF s).1 with
  | none => rw [hb] at h; exact absurd h (by decide)
  | some y => exact ⟨y, rfl⟩
 ·rw [if_neg c0] at h; exact absurd h c0
theorem RdO.bad {h : Heap} {s : Bs} (j : Heap) (c : Int) (e : rdF s = ([], c)) : Fin h (h ++ j) (RdO h s) (.tup [.nil (.slice none 0 0), .int .i64 c]) := by
 refine Fin.frz (FrzL.tup (.cons (.nils 3) (.cons (.clo _ (.int _ _)) .nil))) ⟨?_, rfl⟩
 rw [e]; rfl
theorem rdF_bad {s : Bs} (h : prsC s ≠ 0) : rdF s = ([], prsC s) := by unfold rdF; rw [if_neg h]
theorem rdF_some {s : Bs} {e : Elem} (h : prsC s = 0) (he : bldF (toksF s).1 = some e) : rdF s = if goodO e then (rdO e, 0) else ([], 130) := by
 unfold rdF; rw [if_pos h, he]
theorem kidF_sz (e : Elem) (n : Bs) : (kidF e n).1.sz ≤ e.sz ∧ (deep e 1 ≤ 32 → deep (kidF e n).1 1 ≤ 32) := by
 have hp := e.sz_pos
 by_cases h : (kidF e n).2 = true
 ·have h1 := kidF_mem e n h
  have h2 := Elem.kid_sz h1
  exact ⟨by omega, fun hd => deep_less 39 1 rfl _ (deep_kid hd h1).2⟩
 ·have : (kidF e n).1 = ⟨[], [], [], []⟩ := by
   unfold kidF at h ⊢
   cases hq : kidsF e n with
   | nil => rfl
   | cons k l => rw [hq] at h; exact absurd rfl h
  rw [this]
  exact ⟨by show 1 ≤ _; exact hp, fun _ => by decide⟩
theorem PReadO_sat (hG : GOk G) (hC : GClo (CT G)) (s : Bs) (hs : s.length ≤ 4194304) (h : Heap) : Sat (CT G) 33 [.str s] h (RdO h s) := by
 have hsz := toksF_szB s
 refine sb [.tmp 2, .tmp 3] (fn := Tryz.f33) Tryz.func33 ?_
 intro Q hQ
 refine wk trivial ?_
 refine (PParse_sat G hG hC s (by omega) _).mono ?_
 rintro r h' ⟨e, rfl, he, hez, rfl⟩
 try refine sq trivial ?_
 refine wk trivial ?_
 by_cases c0 : prsC s = 0
 ·obtain ⟨y, hb⟩ := prs0 c0
  have hey := he y c0 hb
  subst hey
  have hes := bldF_sz hb
  have hed := bldF_deep hb
  have hnl := e.name_len
  obtain ⟨hk1, hk2⟩ := kidF_sz e bBody
  have hr := rdF_some c0 hb
  have b0 : (prsC s != 0) = false := by simpa using c0
  have F := b0
  try refine sq F ?_
  refine wk F ?_
  refine kq F (PKid_sat G e bBody (by omega) _) ?_
  (first | refine gq F (fun g1 => ?_) (fun g1 => ?_) | refine pq F (fun g1 => ?_) (fun g1 => ?_)) <;> (try exact g1.elim) <;> (try refine sq F ?_) <;> (refine wk F ?_)
  ·refine ye hQ F ?_
   exact RdO.bad _ _ (by rw [hr, if_neg (by unfold goodO; simp [g1])])
  ·refine kq F (PShort_sat G e.name (by omega) _) ?_
   refine cq F (fun g2 => ?_) (fun g2 => ?_) <;> (try exact g2.elim) <;> (refine wk F ?_)
   ·refine ye hQ F ?_
    exact RdO.bad _ _ (by rw [hr, if_neg (by unfold goodO; intro hh; simp only [Bool.and_eq_true, decide_eq_true_eq] at hh; exact g2 hh.1.2)])
   ·refine kq F (Pof_sat G 40 1 rfl (kidF e bBody).1 (hk2 hed) (by omega) _) ?_
    refine kq F (PCheckO_sat G (rdO e) (ofF_ok 8 40 _ (by omega)) _) ?_
    cases hok : okO (rdO e) with
    | true =>
     have q : rdF s = (rdO e, 0) := by rw [hr, if_pos (by unfold goodO; rw [g1, hok, g2]; simp [bOpml])]
     have n0 : ((0 : Int) != 0) = false := rfl
     have F := F2 F n0
     try refine sq F ?_
     refine wk F ?_
     refine ye hQ F ?_
     refine Fin.plain (.tup _ (by intro c hc; simp at hc; rcases hc with rfl | rfl; exact Outls.clo _ _ _; exact .int _ _)) ⟨?_, rfl⟩
     rw [q]; rfl
    | false =>
     have n1 : ((130 : Int) != 0) = true := rfl
     have F := F2 F n1
     try refine sq F ?_
     refine wk F ?_
     refine ye hQ F ?_
     exact RdO.bad _ _ (by rw [hr, if_neg (by unfold goodO; rw [hok]; simp)])
 ·have b0 : (prsC s != 0) = true := by simpa using c0
  have F := b0
  try refine sq F ?_
  refine wk F ?_
  refine ye hQ F ?_
  exact RdO.bad _ _ (rdF_bad c0)
theorem rReadO_sat (hG : GOk G) (hC : GClo (CT G)) (s : Bs) (hs : s.length ≤ 5000) (h : Heap) : Sat (CT G) 34 [.str s] h (RdO h s) := by
 have hsz : szs Tok.sz (toksF s).1 ≤ 50000 := by have := toksF_sz s; omega
 refine sb [.tmp 2, .tmp 3] (fn := Tryz.f34) Tryz.func34 ?_
 intro Q hQ
 refine wk trivial ?_
 refine (rParse_sat hG hC s (by omega) _).mono ?_
 rintro r h' ⟨e, rfl, he, hez, rfl⟩
 try refine sq trivial ?_
 refine wk trivial ?_
 by_cases c0 : prsC s = 0
 ·obtain ⟨y, hb⟩ := prs0 c0
  have hey := he y c0 hb
  subst hey
  have hes := bldF_sz hb
  have hed := bldF_deep hb
  have hnl := e.name_len
  obtain ⟨hk1, hk2⟩ := kidF_sz e bBody
  have hr := rdF_some c0 hb
  have b0 : (prsC s != 0) = false := by simpa using c0
  have F := b0
  try refine sq F ?_
  refine wk F ?_
  refine kq F (Kid_sat G e bBody (by omega) _) ?_
  refine kq F (rof_sat G 40 1 rfl (by omega) (kidF e bBody).1 (by omega) _) ?_
  refine kq F (Short_sat G e.name (by omega) _) ?_
  (first | refine gq F (fun g2 => ?_) (fun g2 => ?_) | refine pq F (fun g2 => ?_) (fun g2 => ?_)) <;> (try exact g2.elim) <;> (try refine sq F ?_) <;> (refine wk F ?_)
  ·refine ye hQ F ?_
   exact RdO.bad _ _ (by rw [hr, if_neg (by unfold goodO; intro hh; simp only [Bool.and_eq_true, decide_eq_true_eq] at hh; exact g2 hh.1.2)])
  ·(first | refine gq F (fun g1 => ?_) (fun g1 => ?_) | refine pq F (fun g1 => ?_) (fun g1 => ?_)) <;> (try exact g1.elim) <;> (try refine sq F ?_) <;> (refine wk F ?_)
   ·refine ye hQ F ?_
    exact RdO.bad _ _ (by rw [hr, if_neg (by unfold goodO; simp [g1])])
   ·refine kq F (rCheckO_sat G (rdO e) (ofF_ok 8 40 _ (by omega)) _) ?_
    refine cq F (fun g3 => ?_) (fun g3 => ?_) <;> (try exact g3.elim) <;> (refine wk F ?_)
    ·refine ye hQ F ?_
     exact RdO.bad _ _ (by rw [hr, if_neg (by unfold goodO; rw [g3]; simp)])
    ·have q : rdF s = (rdO e, 0) := by rw [hr, if_pos (by unfold goodO; rw [g1, g3, g2]; simp [bOpml])]
     refine ye hQ F ?_
     refine Fin.plain (.tup _ (by intro c hc; simp at hc; rcases hc with rfl | rfl; exact Outls.clo _ _ _; exact .int _ _)) ⟨?_, rfl⟩
     rw [q]; rfl
 ·have b0 : (prsC s != 0) = true := by simpa using c0
  have F := b0
  try refine sq F ?_
  refine wk F ?_
  refine ye hQ F ?_
  exact RdO.bad _ _ (rdF_bad c0)
end Go.Av
namespace Go.Av
open Go Go.Proofs Go.RowKit
attribute [local irreducible] WP WPl WPix Sat
set_option maxRecDepth 100000
set_option maxHeartbeats 1000000
variable (G : Nat → Option (List AVal))
theorem same_go (g : List Outl → Nat) (f : Nat) (hg : ∀ l, g l ≤ 512 → sameOL f l l = true) : ∀ (t : List Outl) (a : Nat), t.length ≤ a → cntGo g t a ≤ 512 → ((t.zip t).all fun p => decide (p.1.title = p.2.title) && (decide (p.1.url = p.2.url) && sameOL f p.1.kids p.2.kids)) = true
 | [], a, _, _ => rfl
 | o :: t, a, ha, h => by
  rw [cntGo] at h
  simp only [List.length_cons] at ha
  by_cases hk : oneOk o = true
  ·rw [if_pos hk] at h
   by_cases h5 : 512 < a + g o.kids
   ·rw [if_pos h5] at h; omega
   ·rw [if_neg h5] at h
    have h1 := same_go g f hg t (a + g o.kids) (by omega) h
    have h2 := hg o.kids (by omega)
    rw [List.zip_cons_cons, List.all_cons, h1]
    simp [h2]
  ·rw [if_neg hk] at h; omega
theorem sameOL_refl : ∀ (f : Nat) (l : List Outl), cntN f l ≤ 512 → sameOL f l l = true := by
 intro f
 induction f with
 | zero =>
  intro l h
  rw [cntN] at h
  by_cases hl : l = []
  ·subst hl; rfl
  ·rw [if_neg hl] at h; omega
 | succ f ih =>
  intro l h
  rw [cntN] at h
  by_cases hl : 512 < l.length
  ·rw [if_pos hl] at h; omega
  ·rw [if_neg hl] at h
   have := same_go (cntN f) f ih l l.length (Nat.le_refl _) h
   rw [sameOL, this]; simp
theorem rdF_list (s : Bs) (hs : s.length ≤ 5000) : okO (rdF s).1 = true ∧ OkN 8 (rdF s).1 := by
 have hnil : okO [] = true ∧ OkN 8 [] := ⟨rfl, OkN.nil 8⟩
 have hsz : szs Tok.sz (toksF s).1 ≤ 50000 := by have := toksF_sz s; omega
 unfold rdF
 by_cases c0 : prsC s = 0
 ·rw [if_pos c0]
  cases hb : bldF (toksF s).1 with
  | none => exact hnil
  | some e =>
   simp only []
   by_cases hg : goodO e = true
   ·rw [if_pos hg]
    have hes := bldF_sz hb
    have hk := (kidF_sz e bBody).1
    unfold goodO at hg
    simp only [Bool.and_eq_true] at hg
    exact ⟨hg.2, ofF_ok 8 40 _ (by omega)⟩
   ·rw [if_neg hg]; exact hnil
 ·rw [if_neg c0]; exact hnil
theorem OpmlReads_sat (hG : GOk G) (hC : GClo (CT G)) (hlives : ∀ h, Sat (CT G) 32 [] h (fun r h' => r = .bool true ∧ h' = h)) (s : Bs) (h : Heap) :
  Sat (CT G) 5 [.str s] h (fun r h' => r = .bool true ∧ h' = h) := by
 have F := F5 (F3 (@beq_self_eq_true Int _ _) (@beq_self_eq_true Bool _ _) (@beq_self_eq_true Bs _ _)) (F3 (@bne_self_eq_false Int _ _) (@bne_self_eq_false Bool _ _) (@bne_self_eq_false Bs _ _)) @Bool.not_true @Bool.not_false @decide_true
 refine sb [.tmp 2] (fn := Tryz.f5) Tryz.func5 ?_
 intro Q hQ
 refine wk F ?_
 refine cq F (fun hl => ?_) (fun hl => ?_) <;> (try exact hl.elim) <;> (refine wk F ?_)
 ·refine kq F (hlives _) ?_
  refine ee hQ F ?_
  refine fR (.bool _) ?_
  rfl
 refine (PReadO_sat G hG hC s (by omega) _).mono ?_
 rintro r h' ⟨rfl, rfl⟩
 try refine sq F ?_
 refine wk F ?_
 refine (rReadO_sat G hG hC s (by omega) _).mono ?_
 rintro r h' ⟨rfl, rfl⟩
 try refine sq F ?_
 refine wk F ?_
 obtain ⟨hok, hokn⟩ := rdF_list s (by omega)
 have hcn : cntN 8 (rdF s).1 ≤ 512 := by unfold okO at hok; exact of_decide_eq_true hok
 have hsz := cnt_sz 8 _ hcn
 have hsame := sameOL_refl 8 _ hcn
 have F := F3 F @hsame hok
 refine kq F (hlives _) ?_
 refine kq F (rSame_sat G (rdF s).1 (rdF s).1 (by omega) (by omega) _) ?_
 (first | refine gq F (fun g1 => ?_) (fun g1 => ?_) | refine pq F (fun g1 => ?_) (fun g1 => ?_)) <;> (try exact g1.elim) <;> (try refine sq F ?_) <;> (refine wk F ?_)
 ·refine ee hQ F ?_
  refine fR (.bool _) ?_
  rfl
 ·refine kq F (PCheckO_sat G (rdF s).1 hokn _) ?_
  refine ee hQ F ?_
  refine fR (.bool _) ?_
  rfl
end Go.Av
namespace Go.Proofs.YtjgligkejfjbpaaGreatDoor.opmlReads
open Go Go.Av Go.RowKit Go.ChangeShapes Go.WideShapes Go.ChangeAt
set_option maxRecDepth 100000
theorem lives {m : Int} (h : Heap) : Sat (CT (gM m)) 32 [] h (fun r h' => r = .bool true ∧ h' = h) :=
 Sat.lives (gM_clo m) (orcY_ok (gM_ok m) (gM_clo m)) 1000 100 rfl (lives13 _) h
theorem contract (H : Type) (enc : TypeId × Value → H) (W : World) (base : Nat) (args : Array Value) (ds gs : List (DataW H)) (before : List MemPlace)
  (hval : ∀ (j : Nat) t v, Tryz.f5.params[j]? = some t → args[j]? = some v → Value.okWide Tryz.prog W .any base t v)
  (hW : DataW.Whole enc Tryz.prog Tryz.f5.params.toList Rows.opmlReadsSpec.vars false W args.toList ds gs before) (hsh : W.ShapedOpen Tryz.prog) :
  Calls Tryz.prog 5 args W fun e W' => ∃ v, e = .returned v ∧ Rows.opmlReadsSpec.post enc Tryz.prog Tryz.f5 false true false false W args v W' := by
 have hW' := hW
 obtain ⟨p, q, hA0, hV, rfl, hfz, hnd⟩ := hW
 have hA : DataW.TrodAll enc Tryz.prog W 0 (fun _ => true) true Tryz.f5.params.toList args.toList ds p := hA0
 rw [Tryz.params5] at hA hval
 obtain ⟨v0, vs0, d0, ds0, p0, q0, hargs, rfl, rfl, h0, r0⟩ := trodAll_cons hA
 obtain ⟨rfl, rfl, rfl⟩ := trodAll_nil r0
 obtain ⟨rfl, rfl⟩ := trodVars_none hV
 obtain rfl : args = #[v0] := by cases args; simp_all
 obtain ⟨n, rn, bn⟩ := str_of_trod Tryz.underlying9 (hval 0 9 v0 rfl rfl) h0
 obtain ⟨m, hm⟩ := maxLen_shape hsh
 refine contract_of_sat (C := CT (gM m)) Tryz.func5 rfl rfl kids_prog full_prog (fun t ht => ?_) rfl rfl rfl Tryz.underlying4 hW' (gM_rep hm) (xs := [.str n]) ⟨rfl, fun i x hi => ?_⟩ (OpmlReads_sat (gM m) (gM_ok m) (gM_clo m) (fun h => lives h) n [])
 ·rw [Tryz.params5] at ht
  change t ∈ [_] at ht
  refine params_row t ?_
  simp only [List.mem_cons, List.mem_nil_iff, or_false] at ht ⊢
  subst ht; simp
 ·match i with
  | 0 => simp at hi; subst hi; exact rn
  | i + 1 => simp at hi
def wit : Array Value := #[.string .empty]
theorem laid_met (os : Os) : laidMet Tryz.prog Rows.opmlReadsRow.laid ((laidWorld os wit).forCall (fun _ _ => 0) ⟨#[], wit, []⟩).memory :=
 laidMet_of_run' 8 (by kernel_rfl) (by kernel_rfl)
theorem reads (os : Os) {H : Type} (enc : TypeId × Value → H) : ∃ places, DataW.whole enc Tryz.prog ((laidWorld os wit).forCall (fun _ _ => 0) ⟨#[], wit, []⟩).memory Tryz.f5.params.toList Rows.opmlReadsSpec.vars false wit.toList 8 =
  some ([.lit (.string [])], [], places) :=
 ⟨[], by kernel_rfl⟩
theorem lifted (os : Os) (started : os.Started) (H : Type) (enc : TypeId × Value → H) (F : Stop.Interp) :
  ReturnsInHanded {} Tryz.checked os 5 .any ((OpenSpec.ofChange Rows.opmlReadsSpec).preRow enc Tryz.prog Tryz.f5 Rows.opmlReadsRow.domain false Rows.opmlReadsRow.laid) (((OpenSpec.ofChange Rows.opmlReadsSpec).at F).post enc Tryz.prog Tryz.f5 false true false false) := by
 obtain ⟨places, hx⟩ := reads os enc
 refine returnsInHanded_of_row (C := Tryz.checked) (s := OpenSpec.ofChange Rows.opmlReadsSpec) own_prog started (by kernel_rfl) Tryz.func5
  (witness_row_at (enc := enc) (C := Tryz.checked) false (laidWorld os wit) wit rfl (by kernel_rfl) (by kernel_rfl) (by kernel_rfl)
   (OpenSpec.preRow_of_cond 8 hx (by kernel_rfl) (fun k hk => by cases hk <;> kernel_rfl) (by kernel_rfl) (laid_met os))) ?_
 intro W base args ds gs before hval hW _ _ _ _ hsh _
 exact contract H enc W base args ds gs before hval hW hsh
theorem said : Rows.OpmlReadsSaid :=
 OpenClaim.holds_of_cond 5 Tryz.f5 rfl rfl rfl rfl rfl rfl rfl ⟨rfl, rfl, rfl, rfl, rfl⟩ rfl rfl rfl rfl rfl (by kernel_rfl) Tryz.func5 (by kernel_rfl)
  (of_decide_eq_true (by kernel_rfl)) (by unfold Func.isWrapper; first | (rw [if_pos (by decide +kernel)]; kernel_rfl) | (rw [if_neg (by decide +kernel)]; exact ⟨rfl, rfl⟩))
  (fun os started H enc _ F => by rw [OpenClaim.pre_eq_preRow]; exact lifted os started H enc F)
theorem plain (f : FuncId) (fn : Func) (hf : Tryz.pinned.checked.prog.funcNamed "newsstand/newsstandlaw13.OpmlReads" = some f) (hfn : Tryz.pinned.checked.prog.funcs[f]? = some fn) :
  false = Tryz.pinned.checked.prog.looks [] ∧ ∀ (j : Nat) t, fn.params[j]? = some t → Tryz.pinned.checked.prog.wantsStandIn t = false := by
 obtain rfl : f = 5 := Option.some.inj ((show Tryz.prog.funcNamed "newsstand/newsstandlaw13.OpmlReads" = some 5 by kernel_rfl).symm.trans hf) |>.symm
 obtain rfl : fn = Tryz.f5 := (Option.some.inj (Tryz.func5.symm.trans hfn)).symm
 refine ⟨by kernel_rfl, fun j t ht => ?_⟩
 rw [Tryz.params5] at ht
 have hm := Array.mem_of_getElem? ht
 simp only [List.mem_toArray, List.mem_cons, List.mem_nil_iff, or_false] at hm
 subst hm
 exact (show Tryz.prog.wantsStandIn 9 = false by kernel_rfl)
theorem card : Rows.OpmlReadsCardSaid :=
 Claim7.holds_tied_plain_at .later [] _ _ _ _ said (fun _ h => by cases h) (by kernel_rfl) (fun _ h => by cases h) opmlReads_row_tie rfl ⟨rfl, rfl⟩ (by kernel_rfl) rfl plain (by kernel_rfl)
end Go.Proofs.YtjgligkejfjbpaaGreatDoor.opmlReads
