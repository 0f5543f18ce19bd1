/- The program's counts, made of a state. -/
import Derived.Test.YtanjiiailjilbaaGreatMbPa
import Derived.Test.YtanjiiailjilbaaGreatMbSk
import Derived.Test.YtanjiiailjilbaaGreatMbEb
set_option linter.unusedSimpArgs false
set_option linter.unusedVariables false
set_option linter.unusedSectionVars false
set_option linter.unnecessarySimpa false
namespace Go.Av
open Go Go.Proofs Go.RowKit
set_option maxHeartbeats 1000000
variable {s : PS} {e : Ev}
theorem none_of {κ α : Type} [DecidableEq κ] {l : ML κ α} {x : κ} (h : (lkM l x).isSome = false) : lkM l x = none := by
 cases hl : lkM l x with
 | none => rfl
 | some a => rw [hl] at h; cases h
theorem some_of {κ α : Type} [DecidableEq κ] {l : ML κ α} {x : κ} (h : (lkM l x).isSome = true) : ∃ a, lkM l x = some a := Option.isSome_iff_exists.1 h
theorem up_some {κ α : Type} [DecidableEq κ] {l : ML κ α} (c : Nat) (x : κ) (a : α) {y : κ} (h : (lkM l y).isSome = true) : (lkM (upM l c x a) y).isSome = true := by
 rw [lkM_up]; split
 ·rfl
 ·exact h
theorem lk_upC {κ α : Type} [DecidableEq κ] {l : ML κ α} {c : Nat} {x y : κ} {a b : α} (h : lkM (upM l c x a) y = some b) : (y = x ∧ b = a) ∨ (y ≠ x ∧ lkM l y = some b) := by
 rw [lkM_up] at h
 split at h
 ·rename_i hy; cases h; exact .inl ⟨hy, rfl⟩
 ·rename_i hy; exact .inr ⟨hy, h⟩
theorem lk_dlC {κ α : Type} [DecidableEq κ] {l : ML κ α} (hn : (l.map (·.1)).Nodup) {x y : κ} {b : α} (h : lkM (dlM l x) y = some b) : y ≠ x ∧ lkM l y = some b := by
 rw [lkM_dl hn] at h
 split at h
 ·cases h
 ·rename_i hy; exact ⟨hy, h⟩
theorem lk_filC {α : Type} {l : ML Int α} (hn : (l.map (·.1)).Nodup) {p : Int × α × Nat → Bool} {y : Int} {b : α} (h : lkM (l.filter p) y = some b) : lkM l y = some b := by
 obtain ⟨n, hm⟩ := lkM_mem h
 exact lkM_of_mem hn (List.mem_filter.1 hm).1
theorem up_len {κ α : Type} [DecidableEq κ] (l : ML κ α) (c : Nat) (x : κ) (a : α) (m : Nat) (h : l.length < m ∨ ((lkM l x).isSome = true ∧ l.length ≤ m)) : (upM l c x a).length ≤ m := by
 rw [upM_len]; split
 ·omega
 ·rename_i h1; rcases h with h | h
  ·omega
  ·exact (h1 h.1).elim
theorem dl_len {κ α : Type} [DecidableEq κ] (l : ML κ α) (x : κ) (m : Nat) (h : l.length ≤ m) : (dlM l x).length ≤ m := Nat.le_trans (dlM_sub l x).length_le h
theorem PS.Inv.no0 (h : s.Inv) : lkM s.fo 0 = none := by
 cases hl : lkM s.fo 0 with
 | none => rfl
 | some f => have := (h.i1 _ _ hl).2.1; omega
theorem PS.Inv.deep (h : s.Inv) (id : Int) : deepO s.fo 7 id = some (s.dpt id) ∧ s.dpt id ≤ 7 := by
 obtain ⟨d, h1, h2⟩ := h.dp id
 unfold PS.dpt; rw [h2]; exact ⟨rfl, h1⟩
theorem within_of (h : s.within e.b = true) : e.b = 0 ∨ (lkM s.fo e.b).isSome = true := by
 unfold PS.within at h; simpa using h
theorem PS.Inv.mkFo (h : s.Inv) (ha : 1 ≤ e.a ∧ e.a ≤ 1048576) (hn : (lkM s.fo e.a).isSome = false) (hl : s.fo.length < 64) (hw : s.within e.b = true) (hd : s.dpt e.b < 7) :
  PS.Inv ((((s.upFo e.a ⟨e.a, e.b, e.s⟩).upNm (e.b, e.s) e.a).hold e.b 1).raise 0 e.a) := by
 rw [hold_eq]
 have hb := within_of hw
 have hnn := none_of hn
 have hba : e.b ≠ e.a := by
  rcases hb with hb | hb
  ·omega
  ·intro q; rw [q, hn] at hb; cases hb
 have hcg : ∀ k id, id ≠ e.a → deepO (upM s.fo s.c1 e.a ⟨e.a, e.b, e.s⟩) k id = deepO s.fo k id := by
  refine deepO_congr (fun id => id ≠ e.a) (fun id hi => by rw [lkM_up, if_neg hi]) (fun id f hi hf => ?_)
  rcases h.u1 id f hf with h1 | h1
  ·omega
  ·intro q; rw [q, hn] at h1; cases h1
 exact { h with
  w1 := h.w1.up _ _
  w8 := heF_wf h.w8 _ _
  i1 := fun k f hk => by
   rcases lk_upC (l := s.fo) hk with ⟨rfl, rfl⟩ | ⟨_, hk⟩
   ·exact ⟨rfl, ha⟩
   ·exact h.i1 k f hk
  u1 := fun k f hk => by
   rcases lk_upC (l := s.fo) hk with ⟨rfl, rfl⟩ | ⟨_, hk⟩
   ·exact hb.imp id (up_some _ _ _)
   ·exact (h.u1 k f hk).imp id (up_some _ _ _)
  u2 := fun k f hk => (h.u2 k f hk).imp id (up_some _ _ _)
  dp := fun id => by
   show ∃ d, d ≤ 7 ∧ deepO (upM s.fo s.c1 e.a ⟨e.a, e.b, e.s⟩) 7 id = some d
   by_cases hi : id = e.a
   ·subst hi
    obtain ⟨h1, h2⟩ := h.deep e.b
    refine ⟨s.dpt e.b + 1, by omega, ?_⟩
    rw [deepO, lkM_up, if_pos rfl]
    simp only [hcg 6 e.b hba, deepO_fit h1 (k' := 6) (by omega), Option.map_some]
   ·obtain ⟨d, h1, h2⟩ := h.dp id
    exact ⟨d, h1, by rw [hcg 7 id hi, h2]⟩
  hd := fun id hi => by
   show (lkM (heF s.he s.c8 e.b 1) id).getD 0 = sumM (inFo id) (upM s.fo s.c1 e.a ⟨e.a, e.b, e.s⟩) + sumM (inFe id) s.fe
   rw [heF_lk, sumM_up, hnn, h.hd id hi]
   simp only [atM, inFo]
   by_cases hx : e.b = id
   ·subst hx; simp [hi]; omega
   ·rw [if_neg (by omega), if_neg hx]; omega
  h0 := heF_0 _ _ _ h.h0
  l1 := up_len _ _ _ _ _ (.inl hl) }
theorem PS.Inv.mkFe (h : s.Inv) (ha : 1 ≤ e.a ∧ e.a ≤ 1048576) (hn : (lkM s.fe e.a).isSome = false) (hl : s.fe.length < 64) (hw : s.within e.b = true) :
  PS.Inv ((((s.upFe e.a ⟨e.a, e.b, e.s, e.t⟩).upPl e.s e.a).hold e.b 1).raise 1 e.a) := by
 rw [hold_eq]
 have hb := within_of hw
 have hnn := none_of hn
 exact { h with
  w2 := h.w2.up _ _
  w8 := heF_wf h.w8 _ _
  i2 := fun k f hk => by
   rcases lk_upC (l := s.fe) hk with ⟨rfl, rfl⟩ | ⟨_, hk⟩
   ·exact ⟨rfl, ha⟩
   ·exact h.i2 k f hk
  u2 := fun k f hk => by
   rcases lk_upC (l := s.fe) hk with ⟨rfl, rfl⟩ | ⟨_, hk⟩
   ·exact hb
   ·exact h.u2 k f hk
  u3 := fun k f hk => up_some _ _ _ (h.u3 k f hk)
  hd := fun id hi => by
   show (lkM (heF s.he s.c8 e.b 1) id).getD 0 = sumM (inFo id) s.fo + sumM (inFe id) (upM s.fe s.c2 e.a ⟨e.a, e.b, e.s, e.t⟩)
   rw [heF_lk, sumM_up, hnn, h.hd id hi]
   simp only [atM, inFe]
   by_cases hx : e.b = id
   ·subst hx; simp [hi]; omega
   ·rw [if_neg (by omega), if_neg hx]; omega
  h0 := heF_0 _ _ _ h.h0
  l2 := up_len _ _ _ _ _ (.inl hl) }
theorem PS.Inv.mkIt (h : s.Inv) (ha : 1 ≤ e.a ∧ e.a ≤ 1048576) (hl : s.it.length < 1024) (hw : (lkM s.fe e.b).isSome = true) :
  PS.Inv (((s.upIt e.a ⟨e.a, e.b, e.n, e.s, e.t, e.u, false, false, []⟩).upGu (e.b, e.s) e.a).raise 2 e.a) :=
 { h with
  w3 := h.w3.up _ _
  w7 := h.w7.up _ _
  i3 := fun k f hk => by
   rcases lk_upC (l := s.it) hk with ⟨rfl, rfl⟩ | ⟨_, hk⟩
   ·exact ⟨rfl, ha⟩
   ·exact h.i3 k f hk
  u3 := fun k f hk => by
   rcases lk_upC (l := s.it) hk with ⟨rfl, rfl⟩ | ⟨_, hk⟩
   ·exact hw
   ·exact h.u3 k f hk
  tg := fun k f hk => by
   rcases lk_upC (l := s.it) hk with ⟨rfl, rfl⟩ | ⟨_, hk⟩
   ·exact ⟨by simp [Srt], by simp⟩
   ·exact h.tg k f hk
  l3 := up_len _ _ _ _ _ (.inl hl) }
theorem PS.Inv.mkSe (h : s.Inv) (ha : 1 ≤ e.a ∧ e.a ≤ 1048576) (hl : s.se.length < 32) : PS.Inv ((s.upSe e.a ⟨e.a, e.s, e.t⟩).raise 3 e.a) :=
 { h with
  w4 := h.w4.up _ _
  i4 := fun k f hk => by
   rcases lk_upC (l := s.se) hk with ⟨rfl, rfl⟩ | ⟨_, hk⟩
   ·exact ⟨rfl, ha⟩
   ·exact h.i4 k f hk
  l4 := up_len _ _ _ _ _ (.inl hl) }
theorem PS.Inv.reIt (h : s.Inv) {k : Int} {t : It} (t' : It) (hk : lkM s.it k = some t) (h1 : t'.id = t.id) (h2 : t'.feed = t.feed) (h3 : Srt t'.tags ∧ t'.tags.length ≤ 8) : PS.Inv (s.upIt k t') :=
 { h with
  w3 := h.w3.up _ _
  i3 := fun j f hj => by
   rcases lk_upC (l := s.it) hj with ⟨rfl, rfl⟩ | ⟨_, hj⟩
   ·rw [h1]; exact h.i3 _ _ hk
   ·exact h.i3 j f hj
  u3 := fun j f hj => by
   rcases lk_upC (l := s.it) hj with ⟨rfl, rfl⟩ | ⟨_, hj⟩
   ·rw [h2]; exact h.u3 _ _ hk
   ·exact h.u3 j f hj
  tg := fun j f hj => by
   rcases lk_upC (l := s.it) hj with ⟨rfl, rfl⟩ | ⟨_, hj⟩
   ·exact h3
   ·exact h.tg j f hj
  l3 := up_len _ _ _ _ _ (.inr ⟨by rw [hk]; rfl, h.l3⟩) }
theorem PS.Inv.unFo (h : s.Inv) {k : Int} {f : Fo} (hk : lkM s.fo k = some f) (h0 : (lkM s.he k).getD 0 = 0) : PS.Inv (((s.dlNm (f.inn, f.name)).dlFo k).hold f.inn (-1)) := by
 rw [hold_eq]
 have hk1 := (h.i1 _ _ hk).2
 have hs := h.hd k (by omega)
 have n1 := sumM_nn (inFo_nn k) s.fo
 have n2 := sumM_nn (inFe_nn k) s.fe
 have hA : ∀ j g, lkM s.fo j = some g → g.inn ≠ k := fun j g hg q => by
  have := sumM_0 (inFo_nn k) (l := s.fo) (by omega) hg
  rw [inFo, if_pos q] at this; omega
 have hB : ∀ j g, lkM s.fe j = some g → g.inn ≠ k := fun j g hg q => by
  have := sumM_0 (inFe_nn k) (l := s.fe) (by omega) hg
  rw [inFe, if_pos q] at this; omega
 have hcg : ∀ m id, id ≠ k → deepO (dlM s.fo k) m id = deepO s.fo m id :=
  deepO_congr (fun id => id ≠ k) (fun id hi => by rw [lkM_dl h.w1.keys, if_neg hi]) (fun id g _ hg => hA id g hg)
 have hst : ∀ x, x ≠ k → (lkM s.fo x).isSome = true → (lkM (dlM s.fo k) x).isSome = true := fun x hx hs => by rw [lkM_dl h.w1.keys, if_neg hx]; exact hs
 exact { h with
  w1 := h.w1.dl _
  w8 := heF_wf h.w8 _ _
  i1 := fun j g hj => h.i1 j g (lk_dlC h.w1.keys hj).2
  u1 := fun j g hj => by
   obtain ⟨_, hj⟩ := lk_dlC h.w1.keys hj
   exact (h.u1 j g hj).imp id (hst _ (hA j g hj))
  u2 := fun j g hj => (h.u2 j g hj).imp id (hst _ (hB j g hj))
  dp := fun id => by
   show ∃ d, d ≤ 7 ∧ deepO (dlM s.fo k) 7 id = some d
   by_cases hi : id = k
   ·subst hi; exact ⟨0, by omega, by rw [deepO, lkM_dl h.w1.keys, if_pos rfl]⟩
   ·rw [hcg 7 id hi]; exact h.dp id
  hd := fun id hi => by
   show (lkM (heF s.he s.c8 f.inn (-1)) id).getD 0 = sumM (inFo id) (dlM s.fo k) + sumM (inFe id) s.fe
   rw [heF_lk, sumM_dl, hk, h.hd id hi]
   simp only [atM, inFo]
   by_cases hx : f.inn = id
   ·subst hx; simp [hi]; omega
   ·rw [if_neg (by omega), if_neg hx]; omega
  h0 := heF_0 _ _ _ h.h0
  l1 := dl_len _ _ _ h.l1 }
theorem PS.Inv.reTi (h : s.Inv) {k : Int} {f : Fe} (t : Bs) (hk : lkM s.fe k = some f) : PS.Inv (s.upFe k { f with title := t }) :=
 { h with
  w2 := h.w2.up _ _
  i2 := fun j g hj => by
   rcases lk_upC (l := s.fe) hj with ⟨rfl, rfl⟩ | ⟨_, hj⟩
   ·have := h.i2 _ _ hk; exact this
   ·exact h.i2 j g hj
  u2 := fun j g hj => by
   rcases lk_upC (l := s.fe) hj with ⟨rfl, rfl⟩ | ⟨_, hj⟩
   ·have := h.u2 _ _ hk; exact this
   ·exact h.u2 j g hj
  u3 := fun j g hj => up_some _ _ _ (h.u3 j g hj)
  hd := fun id hi => by
   show (lkM s.he id).getD 0 = sumM (inFo id) s.fo + sumM (inFe id) (upM s.fe s.c2 k { f with title := t })
   rw [sumM_up, hk, h.hd id hi]
   simp only [atM, inFe]; omega
  l2 := up_len _ _ _ _ _ (.inr ⟨by rw [hk]; rfl, h.l2⟩) }
theorem PS.Inv.reIn (h : s.Inv) {k b : Int} {f : Fe} (hk : lkM s.fe k = some f) (hb : b = 0 ∨ (lkM s.fo b).isSome = true) : PS.Inv (((s.hold f.inn (-1)).hold b 1).upFe k { f with inn := b }) := by
 rw [hold_eq s, hold_eq]
 exact { h with
  w2 := h.w2.up _ _
  w8 := heF_wf (heF_wf h.w8 _ _) _ _
  i2 := fun j g hj => by
   rcases lk_upC (l := s.fe) hj with ⟨rfl, rfl⟩ | ⟨_, hj⟩
   ·have := h.i2 _ _ hk; exact this
   ·exact h.i2 j g hj
  u2 := fun j g hj => by
   rcases lk_upC (l := s.fe) hj with ⟨rfl, rfl⟩ | ⟨_, hj⟩
   ·exact hb
   ·exact h.u2 j g hj
  u3 := fun j g hj => up_some _ _ _ (h.u3 j g hj)
  hd := fun id hi => by
   show (lkM (heF (heF s.he s.c8 f.inn (-1)) (chF s.he s.c8 f.inn) b 1) id).getD 0 = sumM (inFo id) s.fo + sumM (inFe id) (upM s.fe s.c2 k { f with inn := b })
   rw [heF_lk, heF_lk, sumM_up, hk, h.hd id hi]
   simp only [atM, inFe]
   by_cases h1 : f.inn = id
   ·by_cases h2 : b = id
    ·rw [if_pos ⟨h1.symm, by omega⟩, if_pos ⟨h2.symm, by omega⟩, if_pos h1, if_pos h2]; omega
    ·rw [if_pos ⟨h1.symm, by omega⟩, if_neg (by omega), if_pos h1, if_neg h2]; omega
   ·by_cases h2 : b = id
    ·rw [if_neg (by omega), if_pos ⟨h2.symm, by omega⟩, if_neg h1, if_pos h2]; omega
    ·rw [if_neg (by omega), if_neg (by omega), if_neg h1, if_neg h2]; omega
  h0 := heF_0 _ _ _ (heF_0 _ _ _ h.h0)
  l2 := up_len _ _ _ _ _ (.inr ⟨by rw [hk]; rfl, h.l2⟩) }
theorem PS.Inv.unFe (h : s.Inv) {k : Int} {f : Fe} (hk : lkM s.fe k = some f) : PS.Inv (s.unfeed f) := by
 have hfk := (h.i2 _ _ hk).1
 unfold PS.unfeed
 rw [hold_eq]
 exact { h with
  w2 := h.w2.dl _
  w3 := h.w3.filter _
  w7 := h.w7.filter _
  w8 := heF_wf h.w8 _ _
  i2 := fun j g hj => h.i2 j g (lk_dlC h.w2.keys hj).2
  i3 := fun j t hj => h.i3 j t (lk_filC h.w3.keys hj)
  u2 := fun j g hj => h.u2 j g (lk_dlC h.w2.keys hj).2
  u3 := fun j t hj => by
   have hj' : lkM (itF s.it f.id) j = some t := hj
   show (lkM (dlM s.fe f.id) t.feed).isSome = true
   have hne : t.feed ≠ f.id := by
    obtain ⟨n, hm⟩ := lkM_mem hj'
    have := (List.mem_filter.1 hm).2
    simpa using this
   rw [lkM_dl h.w2.keys, if_neg hne]
   exact h.u3 j t (lk_filC h.w3.keys hj')
  hd := fun id hi => by
   show (lkM (heF s.he s.c8 f.inn (-1)) id).getD 0 = sumM (inFo id) s.fo + sumM (inFe id) (dlM s.fe f.id)
   rw [heF_lk, sumM_dl, hfk, hk, h.hd id hi]
   simp only [atM, inFe]
   by_cases hx : f.inn = id
   ·subst hx; simp [hi]; omega
   ·rw [if_neg (by omega), if_neg hx]; omega
  h0 := heF_0 _ _ _ h.h0
  tg := fun j t hj => h.tg j t (lk_filC h.w3.keys hj)
  l2 := dl_len _ _ _ h.l2
  l3 := Nat.le_trans (List.length_filter_le _ _) h.l3 }
theorem PS.Inv.unSe (h : s.Inv) (k : Int) : PS.Inv (s.dlSe k) :=
 { h with
  w4 := h.w4.dl _
  i4 := fun j g hj => h.i4 j g (lk_dlC h.w4.keys hj).2
  l4 := dl_len _ _ _ h.l4 }
theorem PS.Inv.clk (h : s.Inv) (k : Int) : PS.Inv { s with clock := k } := { h with }
theorem PS.Inv.step {L : Leaf} (h : s.Inv) (e : Ev) : (s.step L e).Inv := by
 unfold PS.step
 split
 ·rename_i hok
  unfold PS.ok PS.fits at hok
  rw [Bool.and_eq_true] at hok
  obtain ⟨hck, hf⟩ := hok
  have hr : L.right e = true := by unfold Leaf.ck at hck; simp only [Bool.and_eq_true] at hck; exact hck.1
  have ha : e.kind ≠ 13 → 1 ≤ e.a ∧ e.a ≤ 1048576 := fun hk => right_id hr hk
  unfold PS.aft PS.after
  by_cases k1 : e.kind = 1
  ·rw [if_pos k1] at hf
   simp only [Bool.and_eq_true, Bool.not_eq_true', decide_eq_true_eq, beq_iff_eq] at hf
   rw [if_neg (by omega), if_neg (by omega), if_neg (by omega), if_neg (by omega), if_neg (by omega), if_neg (by omega), if_neg (by omega), if_neg (by omega), if_neg (by omega), PS.make, if_pos k1]
   exact h.mkFo (ha (by omega)) hf.1.1.1.1 hf.1.1.1.2 hf.1.1.2 hf.1.2
  rw [if_neg k1] at hf
  by_cases k2 : e.kind = 2
  ·rw [if_pos k2] at hf ⊢
   simp only [Bool.and_eq_true, beq_iff_eq] at hf
   obtain ⟨f, hfo⟩ := some_of hf.1
   rw [hfo]
   exact h.unFo hfo hf.2
  rw [if_neg k2] at hf ⊢
  by_cases k3 : e.kind = 3
  ·rw [if_pos k3] at hf
   simp only [Bool.and_eq_true, Bool.not_eq_true', decide_eq_true_eq, beq_iff_eq] at hf
   rw [if_neg (by omega), if_neg (by omega), if_neg (by omega), if_neg (by omega), if_neg (by omega), if_neg (by omega), if_neg (by omega), if_neg (by omega), PS.make, if_neg (by omega), if_pos k3]
   exact h.mkFe (ha (by omega)) hf.1.1.1 hf.1.1.2 hf.1.2
  rw [if_neg k3] at hf
  by_cases k4 : e.kind = 4
  ·rw [if_pos (.inl k4)] at hf
   rw [if_pos k4]
   obtain ⟨f, hfo⟩ := some_of hf
   rw [hfo]
   exact h.unFe hfo
  rw [if_neg k4]
  by_cases k5 : e.kind = 5
  ·rw [if_pos (.inr k5)] at hf
   rw [if_pos k5]
   obtain ⟨f, hfo⟩ := some_of hf
   rw [hfo]
   exact h.reTi _ hfo
  rw [if_neg (by omega)] at hf
  rw [if_neg k5]
  by_cases k6 : e.kind = 6
  ·rw [if_pos k6] at hf ⊢
   simp only [Bool.and_eq_true] at hf
   obtain ⟨f, hfo⟩ := some_of hf.1
   rw [hfo]
   exact h.reIn hfo (within_of hf.2)
  rw [if_neg k6] at hf ⊢
  by_cases k7 : e.kind = 7
  ·rw [if_pos k7] at hf
   simp only [Bool.and_eq_true, Bool.not_eq_true', decide_eq_true_eq, beq_iff_eq] at hf
   rw [if_neg (by omega), if_neg (by omega), if_neg (by omega), if_neg (by omega), if_neg (by omega), PS.make, if_neg (by omega), if_neg (by omega), if_pos k7]
   exact h.mkIt (ha (by omega)) hf.1.1.2 hf.1.2
  rw [if_neg k7] at hf
  by_cases k8 : e.kind = 8
  ·rw [if_pos (.inl k8)] at hf
   rw [if_pos k8]
   obtain ⟨f, hfo⟩ := some_of hf
   rw [hfo]
   have htg := h.tg _ _ hfo
   exact h.reIt _ hfo rfl rfl htg
  rw [if_neg k8]
  by_cases k9 : e.kind = 9
  ·rw [if_pos (.inr k9)] at hf
   rw [if_pos k9]
   obtain ⟨f, hfo⟩ := some_of hf
   rw [hfo]
   have htg := h.tg _ _ hfo
   exact h.reIt _ hfo rfl rfl htg
  rw [if_neg (by omega)] at hf
  rw [if_neg k9]
  by_cases k10 : e.kind = 10
  ·rw [if_pos k10] at hf ⊢
   simp only [Bool.and_eq_true, Bool.or_eq_true, decide_eq_true_eq] at hf
   obtain ⟨f, hfo⟩ := some_of hf.1
   rw [hfo] at hf ⊢
   simp only [Option.getD_some] at hf ⊢
   have htg := h.tg _ _ hfo
   exact h.reIt _ hfo rfl rfl ⟨tgF_srt htg.1 _ _, tgF_len _ _ htg.2 (by rcases hf.2 with (h1 | h1) | h1 <;> simp [h1])⟩
  rw [if_neg k10] at hf ⊢
  by_cases k11 : e.kind = 11
  ·rw [if_pos k11] at hf
   simp only [Bool.and_eq_true, Bool.not_eq_true', decide_eq_true_eq] at hf
   rw [if_neg (by omega), if_neg (by omega), PS.make, if_neg (by omega), if_neg (by omega), if_neg (by omega), if_pos k11]
   exact h.mkSe (ha (by omega)) hf.2
  rw [if_neg k11] at hf
  by_cases k12 : e.kind = 12
  ·rw [if_pos k12]; exact h.unSe _
  rw [if_neg k12]
  by_cases k13 : e.kind = 13
  ·rw [if_pos k13]; exact h.clk _
  ·exfalso
   unfold Leaf.right at hr
   rw [if_neg k1, if_neg (by omega), if_neg k3, if_neg k5, if_neg k6, if_neg k7, if_neg (by omega), if_neg k10, if_neg k11, if_neg k13] at hr
   cases hr
 ·exact h
theorem PS.Inv.fold {L : Leaf} (h : s.Inv) (l : List Ev) : (l.foldl (PS.step L) s).Inv := by
 induction l generalizing s with
 | nil => exact h
 | cons e l ih => exact ih (h.step e)
theorem vals_mem {α : Type} {z : α} {l : ML Int α} {a : α} (h : a ∈ valsM z l) : ∃ k, lkM l k = some a := by
 unfold valsM at h
 obtain ⟨k, hk, rfl⟩ := List.mem_map.1 h
 have hk2 : k ∈ l.map (·.1) := (List.mergeSort_perm _ _).mem_iff.1 hk
 refine ⟨k, ?_⟩
 cases hl : lkM l k with
 | none =>
  have : (lkM l k).isSome = false := by rw [hl]; rfl
  exact (lkM_key this hk2).elim
 | some a => rfl
theorem inI_of {α : Type} {l : ML Int α} {c : Nat} (w : WFM l c) (h : ∀ k a, lkM l k = some a → 1 ≤ k ∧ k ≤ 1048576) : ∀ e ∈ l, inI e.1 := fun e he => by
 have := h e.1 e.2.1 (lkM_of_mem w.keys (b := e.2.2) (by exact he))
 unfold inI; omega
theorem PS.Inv.toOk (h : s.Inv) : s.Ok where
 w1 := h.w1
 w2 := h.w2
 w3 := h.w3
 w4 := h.w4
 b1 := inI_of h.w1 fun k f hk => (h.i1 k f hk).2
 b2 := inI_of h.w2 fun k f hk => (h.i2 k f hk).2
 b3 := inI_of h.w3 fun k f hk => (h.i3 k f hk).2
 b4 := inI_of h.w4 fun k f hk => (h.i4 k f hk).2
 l1 := Nat.le_trans h.l1 (by omega)
 l2 := Nat.le_trans h.l2 (by omega)
 l3 := Nat.le_trans h.l3 (by omega)
 l4 := Nat.le_trans h.l4 (by omega)
 tg := fun t ht => by
  obtain ⟨k, hk⟩ := vals_mem ht
  exact Nat.le_trans (h.tg k t hk).2 (by omega)
theorem PS.Inv.tags (h : s.Inv) (id : Int) : Srt ((lkM s.it id).getD It.z).tags ∧ ((lkM s.it id).getD It.z).tags.length ≤ 8 := by
 cases hl : lkM s.it id with
 | none => exact ⟨by simp [It.z, Srt], by simp [It.z]⟩
 | some t => exact h.tg id t hl
end Go.Av
namespace Go.Av
open Go Go.Proofs Go.RowKit
attribute [local irreducible] WP WPl WPix Sat
set_option maxRecDepth 100000
set_option maxHeartbeats 2000000
variable (G : Nat → Option (List AVal))
def L0 : Leaf where
 label := fun t => !(t == []) && textF rightS cleanF t 64
 title := fun t => textF rightS cleanF t 256
 link := fun t => textF rightS cleanF t 512
 tag := fun t => (!(t == []) && textF rightS cleanF t 64) && isF t
 query := fun t => !(t == []) && textF rightS cleanF t 512
 moment := momF
theorem R0 (t : Bs) (ht : t.length ≤ 1000) (h : Heap) : Sat (CT G) 263 [.str t] h (fun r h' => r = .bool (rightS t) ∧ h' = h) := PRight_sat G t (by omega) h
theorem C0 (t : Bs) (ht : t.length ≤ 1000) (h : Heap) : Sat (CT G) 264 [.str t] h (fun r h' => r = .str (cleanF t) ∧ h' = h) := PClean_sat G t (by omega) h
theorem ETag_sat (t : Bs) (h : Heap) : Sat (CT G) 198 [.str t] h (fun r h' => r = .bool (L0.tag t) ∧ h' = h) := by
 have hL := PELabel_sat G rightS cleanF (R0 G) (C0 G) t
 have hu : L0.tag t = ((!(t == []) && textF rightS cleanF t 64) && isF t) := rfl
 rw [hu]
 cases hl : (!(t == []) && textF rightS cleanF t 64) with
 | false =>
  rw [hl] at hL
  refine sb [.tmp 2] (fn := Tryz.f198) Tryz.func198 ?_
  intro Q hQ
  refine wk trivial ?_
  refine kq trivial (hL _) ?_
  refine ee hQ trivial ?_
  exact Fin.same (.bool _) ⟨by simp, rfl⟩
 | true =>
  rw [hl] at hL
  have hlen : t.length ≤ 64 := by
   rw [Bool.and_eq_true] at hl
   have := hl.2
   unfold textF at this
   rw [Bool.and_eq_true, decide_eq_true_eq] at this
   omega
  refine sb [.tmp 2] (fn := Tryz.f198) Tryz.func198 ?_
  intro Q hQ
  refine wk trivial ?_
  refine kq trivial (hL _) ?_
  refine kq trivial (PIs_sat G t (by omega) _) ?_
  refine ee hQ trivial ?_
  exact Fin.same (.bool _) ⟨by simp, rfl⟩
theorem ECheck_sat (e : Ev) (h : Heap) : Sat (CT G) 92 [e.av] h (fun r h' => r = .int .i64 (if L0.ck e then 0 else 140) ∧ h' = h) :=
 PECheck_sat G L0 e (PEright_sat G L0 (PELabel_sat G rightS cleanF (R0 G) (C0 G)) (PETitle_sat G rightS cleanF (R0 G) (C0 G)) (PELink_sat G rightS cleanF (R0 G) (C0 G)) (PEplace_sat G L0 (PELink_sat G rightS cleanF (R0 G) (C0 G))) (ETag_sat G) (PEQuery_sat G rightS cleanF (R0 G) (C0 G)) (Emoment_sat G) e) h
theorem Apply0_sat (s : PS) (h : s.Inv) (e : Ev) {H : Heap} {n : Nat} (hn : n + 9 ≤ H.length) : Sat (CT G) 21 [.hp (n + 8) 0 0 0, e.av] (so H n s) (fun r h' => r = .bool (s.ok L0 e) ∧ h' = so H n (s.step L0 e)) := by
 obtain ⟨d1, d2⟩ := h.deep e.b
 obtain ⟨g1, g2⟩ := h.tags e.a
 have hl := (⟨Nat.le_trans h.l1 (by omega), Nat.le_trans h.l2 (by omega), Nat.le_trans h.l3 (by omega), Nat.le_trans h.l4 (by omega)⟩ : s.fo.length ≤ 100 ∧ s.fe.length ≤ 100 ∧ s.it.length ≤ 2000 ∧ s.se.length ≤ 100)
 exact PSApply_sat G s e (s.ok L0 e) (tgF ((lkM s.it e.a).getD It.z).tags e.s e.n) h.w3 h.w7 h.few (few_hold h _ _ (by omega))
  (fun n H hn => PSFits_sat G s e (L0.ck e) 7 (s.dpt e.b) d1 (by omega) hl (ECheck_sat G e) (fun n H hn => (PStag_sat G s e.a e.s g1 (by omega) hn).mono fun r h' ⟨hr, hh⟩ => ⟨⟨_, hr⟩, hh⟩) hn)
  (fun n H hn => PStagged_sat G s e g1 (by omega) hn) hn
theorem Fold0_sat (es : List Ev) (hl : es.length ≤ 1048576) (h : Heap) : Sat (CT G) 13 [.sl 7 (es.map Ev.av)] h (fun r h' => r = .hp (h.length + 8) 0 0 0 ∧ h' = so (h ++ PS.z.bl h.length) h.length (es.foldl (PS.step L0) PS.z)) :=
 PSFold_sat G es hl PS.Inv (PS.ok L0) (PS.step L0) .z (fun s e _ h => h.step e) (fun s e _ h n H hn => Apply0_sat G s h e hn) h
end Go.Av
namespace Go.Av
open Go Go.Proofs Go.RowKit
abbrev T2 := Int × Int
def tA (t : T2) : AVal := .agg [.int .i64 t.1, .int .i64 t.2]
@[go_sem] theorem tA_eq (t : T2) : tA t = .agg [.int .i64 t.1, .int .i64 t.2] := (rfl)
def tadd (a b : T2) : T2 := (a.1 + b.1, a.2 + b.2)
@[go_sem] theorem v1_t (o : Option T2) : v1 (.agg [.int .i64 0, .int .i64 0]) tA o = .agg [.int .i64 (o.getD (0, 0)).1, .int .i64 (o.getD (0, 0)).2] := v1_d (d := (0, 0)) rfl o
@[go_sem] theorem mp_t (c : Nat) (l : ML Int T2) (x a b : Int) : putM (encM iA tA l) c (.int .i64 x) (.agg [.int .i64 a, .int .i64 b]) (ixM l x) = .mp (encM iA tA (upM l c x (a, b))) (ckM l c x) := mp_i c l x (a, b) rfl
@[go_sem] theorem mp_ts (c : Nat) (l : ML Bs T2) (x : Bs) (a b : Int) : putM (encM AVal.str tA l) c (.str x) (.agg [.int .i64 a, .int .i64 b]) (ixM l x) = .mp (encM AVal.str tA (upM l c x (a, b))) (ckM l c x) := mp_s c l x (a, b) rfl
structure CS where
 al : T2
 st : T2
 fo : ML Int T2
 fe : ML Int T2
 tg : ML Bs T2
 it : ML Int It
 inn : ML Int Int
 ab : ML Int Int
 c1 : Nat
 c2 : Nat
 c3 : Nat
 c4 : Nat
 c5 : Nat
 c6 : Nat
def CS.row (m : Nat) (c : CS) : AVal := .agg [.int .i64 c.al.1, .int .i64 c.al.2, .int .i64 c.st.1, .int .i64 c.st.2, .hm m, .hm (m + 1), .hm (m + 2), .hm (m + 3), .hm (m + 4), .hm (m + 5)]
def CS.bl (m : Nat) (c : CS) : List Blk :=
 [.mp (encM iA tA c.fo) c.c1, .mp (encM iA tA c.fe) c.c2, .mp (encM AVal.str tA c.tg) c.c3, .mp (encM iA It.av c.it) c.c4, .mp (encM iA iA c.inn) c.c5, .mp (encM iA iA c.ab) c.c6, .row 96 10 0 [c.row m]]
def CS.z : CS := ⟨(0, 0), (0, 0), [], [], [], [], [], [], 0, 0, 0, 0, 0, 0⟩
def co (H : Heap) (m : Nat) (c : CS) : Heap := ov H m (c.bl m)
section
variable {H : Heap} {m : Nat} {c : CS}
@[go_sem] theorem co_row (hm : m + 7 ≤ H.length) : getRow (co H m c) (m + 6) 0 = some (96, 10, [.agg [.int .i64 c.al.1, .int .i64 c.al.2, .int .i64 c.st.1, .int .i64 c.st.2, .hm m, .hm (m + 1), .hm (m + 2), .hm (m + 3), .hm (m + 4), .hm (m + 5)]]) := by
 unfold co; rw [ovR_in 0 hm (by decide +revert : 6 < 7)]; rfl
@[go_sem] theorem co_m1 (hm : m + 7 ≤ H.length) : mapAt (co H m c) m = some (encM iA tA c.fo, c.c1) := by unfold co; rw [ovM_in0 hm (by simp [CS.bl])]; rfl
@[go_sem] theorem co_m2 (hm : m + 7 ≤ H.length) : mapAt (co H m c) (m + 1) = some (encM iA tA c.fe, c.c2) := by unfold co; rw [ovM_in hm (by simp [CS.bl])]; rfl
@[go_sem] theorem co_m3 (hm : m + 7 ≤ H.length) : mapAt (co H m c) (m + 2) = some (encM AVal.str tA c.tg, c.c3) := by unfold co; rw [ovM_in hm (by simp [CS.bl])]; rfl
@[go_sem] theorem co_m4 (hm : m + 7 ≤ H.length) : mapAt (co H m c) (m + 3) = some (encM iA It.av c.it, c.c4) := by unfold co; rw [ovM_in hm (by simp [CS.bl])]; rfl
@[go_sem] theorem co_m5 (hm : m + 7 ≤ H.length) : mapAt (co H m c) (m + 4) = some (encM iA iA c.inn, c.c5) := by unfold co; rw [ovM_in hm (by simp [CS.bl])]; rfl
@[go_sem] theorem co_m6 (hm : m + 7 ≤ H.length) : mapAt (co H m c) (m + 5) = some (encM iA iA c.ab, c.c6) := by unfold co; rw [ovM_in hm (by simp [CS.bl])]; rfl
@[go_sem] theorem co_s1 (hm : m + 7 ≤ H.length) (l : ML Int T2) (k : Nat) : (co H m c).set m (.mp (encM iA tA l) k) = co H m { c with fo := l, c1 := k } := by unfold co; rw [ov_set0 _ hm (by simp [CS.bl])]; rfl
@[go_sem] theorem co_s2 (hm : m + 7 ≤ H.length) (l : ML Int T2) (k : Nat) : (co H m c).set (m + 1) (.mp (encM iA tA l) k) = co H m { c with fe := l, c2 := k } := by unfold co; rw [ov_set _ hm (by simp [CS.bl])]; rfl
@[go_sem] theorem co_s3 (hm : m + 7 ≤ H.length) (l : ML Bs T2) (k : Nat) : (co H m c).set (m + 2) (.mp (encM AVal.str tA l) k) = co H m { c with tg := l, c3 := k } := by unfold co; rw [ov_set _ hm (by simp [CS.bl])]; rfl
@[go_sem] theorem co_s4 (hm : m + 7 ≤ H.length) (l : ML Int It) (k : Nat) : (co H m c).set (m + 3) (.mp (encM iA It.av l) k) = co H m { c with it := l, c4 := k } := by unfold co; rw [ov_set _ hm (by simp [CS.bl])]; rfl
@[go_sem] theorem co_s5 (hm : m + 7 ≤ H.length) (l : ML Int Int) (k : Nat) : (co H m c).set (m + 4) (.mp (encM iA iA l) k) = co H m { c with inn := l, c5 := k } := by unfold co; rw [ov_set _ hm (by simp [CS.bl])]; rfl
@[go_sem] theorem co_s6 (hm : m + 7 ≤ H.length) (l : ML Int Int) (k : Nat) : (co H m c).set (m + 5) (.mp (encM iA iA l) k) = co H m { c with ab := l, c6 := k } := by unfold co; rw [ov_set _ hm (by simp [CS.bl])]; rfl
@[go_sem] theorem co_s7 (hm : m + 7 ≤ H.length) (a b d e : Int) : (co H m c).set (m + 6) (.row 96 10 0 [.agg [.int .i64 a, .int .i64 b, .int .i64 d, .int .i64 e, .hm m, .hm (m + 1), .hm (m + 2), .hm (m + 3), .hm (m + 4), .hm (m + 5)]]) = co H m { c with al := (a, b), st := (d, e) } := by unfold co; rw [ov_set _ hm (by simp [CS.bl])]; rfl
@[go_sem] theorem co_app (hm : m + 7 ≤ H.length) (j : Heap) : co H m c ++ j = co (H ++ j) m c := ov_app hm
@[go_sem] theorem co_len (hm : m + 7 ≤ H.length) : (co H m c).length = H.length := ov_len hm
@[go_sem] theorem co_get (hm : m + 7 ≤ H.length) {p : Nat} (hp : m + 7 ≤ p) : (co H m c)[p]? = H[p]? := ov_out hm (.inr hp)
@[go_sem] theorem co_row' (hm : m + 7 ≤ H.length) {p : Nat} (v : Nat) (hp : m + 7 ≤ p) : getRow (co H m c) p v = getRow H p v := ovR_out v hm (.inr hp)
@[go_sem] theorem co_set' (hm : m + 7 ≤ H.length) {p : Nat} (b : Blk) (hp : m + 7 ≤ p) : (co H m c).set p b = co (H.set p b) m c := ov_setout b hm (.inr hp)
@[go_sem] theorem co_eql (hm : m + 7 ≤ H.length) : abin Tryz.prog (co H m c) .eql 25 (.hp (m + 6) 0 0 0) (.nil (.pointer none)) = some (.bool false) := by
 have hk : nilKind Tryz.prog 25 (.pointer none) = true := by kernel_rfl
 simp [abin, hk, aeqNil, co_row hm]
@[go_sem] theorem co_neq (hm : m + 7 ≤ H.length) : abin Tryz.prog (co H m c) .neq 25 (.hp (m + 6) 0 0 0) (.nil (.pointer none)) = some (.bool true) := by
 have hk : nilKind Tryz.prog 25 (.pointer none) = true := by kernel_rfl
 simp [abin, hk, aeqNil, co_row hm]
end
theorem CS.clo {N m : Nat} (hm : m + 7 ≤ N) (c : CS) : ∀ b ∈ c.bl m, CloB N b := fun b hb => by
 have hi : ∀ x : Int, Clo N (iA x) := fun x => .int _ _
 have ht : ∀ x : T2, Clo N (tA x) := fun x => clo_flat fun c hc => by simp at hc; rcases hc with rfl | rfl <;> simp
 simp only [CS.bl, List.mem_cons, List.not_mem_nil, or_false] at hb
 rcases hb with rfl | rfl | rfl | rfl | rfl | rfl | rfl
 ·exact encM_clo hi ht _
 ·exact encM_clo hi ht _
 ·exact encM_clo (fun x => .str _) ht _
 ·exact encM_clo hi (fun x => It.clo N x) _
 ·exact encM_clo hi hi _
 ·exact encM_clo hi hi _
 ·exact CloB.row fun r hr => by
   simp at hr; subst hr
   exact clo_flat fun c hc => by
    simp only [CS.row, List.mem_cons, List.not_mem_nil, or_false] at hc
    rcases hc with rfl | rfl | rfl | rfl | rfl | rfl | rfl | rfl | rfl | rfl <;> simp <;> omega
theorem co_fin {H j : Heap} {m : Nat} {c c' : CS} {R : AVal → Heap → Prop} {r : AVal} (hm : m + 7 ≤ H.length) (hc : Clo H.length r) (hR : R r (co H m c')) : Fin (co H m c) (co (H ++ j) m c') R r := fin_ov hm rfl (CS.clo hm c') hc hR
theorem co_fin0 {H : Heap} {m : Nat} {c c' : CS} {R : AVal → Heap → Prop} {r : AVal} (hm : m + 7 ≤ H.length) (hc : Clo H.length r) (hR : R r (co H m c')) : Fin (co H m c) (co H m c') R r := fin_ov0 hm rfl (CS.clo hm c') hc hR
theorem co_finF {H j : Heap} {m : Nat} {c c' : CS} {R : AVal → Heap → Prop} {r0 r : AVal} (hm : m + 7 ≤ H.length) (hz : Frz (co (H ++ j) m c') H.length r0 r) (hR : R r (co H m c')) : Fin (co H m c) (co (H ++ j) m c') R r0 := fin_ovF hm rfl (CS.clo hm c') hz hR
theorem co_z (h : Heap) (c : CS) : h ++ c.bl h.length = co (h ++ CS.z.bl h.length) h.length c := by
 have := ov_end h (c.bl h.length) []
 rw [List.append_nil] at this
 rw [this]; unfold co
 have hz : ov (h ++ CS.z.bl h.length) h.length (CS.z.bl h.length) = h ++ CS.z.bl h.length := by
  have := ov_end h (CS.z.bl h.length) []
  rw [List.append_nil] at this; exact this.symm
 apply List.ext_getElem?
 intro p
 rw [ov_get (by simp), ov_get (by simp [CS.bl])]
 split
 ·rfl
 ·rename_i hp
  rcases Nat.lt_or_ge p h.length with h1 | h1
  ·rw [List.getElem?_append_left h1, List.getElem?_append_left h1]
  ·rw [List.getElem?_append_right h1, List.getElem?_append_right h1, List.getElem?_eq_none (by simp [CS.bl] at hp ⊢; omega), List.getElem?_eq_none (by simp [CS.bl] at hp ⊢; omega)]
theorem so_co {H : Heap} {n m : Nat} (s : PS) (c : CS) (hn : n + 9 ≤ m) (hm : m + 7 ≤ H.length) : so (co H m c) n s = co (so H n s) m c := ov_comm (bs := s.bl n) (cs := c.bl m) (by show n + 9 ≤ H.length; omega) hm (.inl hn)
end Go.Av
namespace Go.Av
open Go Go.Proofs Go.RowKit
set_option maxHeartbeats 1000000
def negT (t : T2) : T2 := (-t.1, -t.2)
def oneT (t : It) : T2 := (1, if t.read then 0 else 1)
def foF (t : T2) : List Int → ML Int T2 → Nat → ML Int T2 × Nat
 | [], l, k => (l, k)
 | id :: ch, l, k => foF t ch (upM l k id (tadd ((lkM l id).getD (0, 0)) t)) (ckM l k id)
theorem foF_snoc (t : T2) (ch : List Int) (id : Int) : ∀ (l : ML Int T2) (k : Nat), foF t (ch ++ [id]) l k = (upM (foF t ch l k).1 (foF t ch l k).2 id (tadd ((lkM (foF t ch l k).1 id).getD (0, 0)) t), ckM (foF t ch l k).1 (foF t ch l k).2 id) := by
 induction ch with
 | nil => intro l k; rfl
 | cons a ch ih => intro l k; rw [List.cons_append, foF, ih]; rfl
def CS.shift (c : CS) (ch : List Int) (feed : Int) (t : T2) : CS :=
 { c with al := tadd c.al t, fe := upM c.fe c.c2 feed (tadd ((lkM c.fe feed).getD (0, 0)) t), c2 := ckM c.fe c.c2 feed, fo := (foF t ch c.fo c.c1).1, c1 := (foF t ch c.fo c.c1).2 }
def tg1F (n : T2) (g : Bs) (l : ML Bs T2) (k : Nat) : ML Bs T2 × Nat :=
 if (tadd ((lkM l g).getD (0, 0)) n).1 = 0 then (dlM l g, k) else (upM l k g (tadd ((lkM l g).getD (0, 0)) n), ckM l k g)
def tgsF (n : T2) : List Bs → ML Bs T2 → Nat → ML Bs T2 × Nat
 | [], l, k => (l, k)
 | g :: gs, l, k => tgsF n gs (tg1F n g l k).1 (tg1F n g l k).2
theorem tgsF_snoc (n : T2) (gs : List Bs) (g : Bs) : ∀ (l : ML Bs T2) (k : Nat), tgsF n (gs ++ [g]) l k = tg1F n g (tgsF n gs l k).1 (tgsF n gs l k).2 := by
 induction gs with
 | nil => intro l k; rfl
 | cons a gs ih => intro l k; rw [List.cons_append, tgsF, ih]; rfl
def CS.tag (c : CS) (g : Bs) (n : T2) : CS := { c with tg := (tg1F n g c.tg c.c3).1, c3 := (tg1F n g c.tg c.c3).2 }
def CS.tags (c : CS) (gs : List Bs) (n : T2) : CS := { c with tg := (tgsF n gs c.tg c.c3).1, c3 := (tgsF n gs c.tg c.c3).2 }
def CS.star (c : CS) (b : Bool) (n : T2) : CS := { c with st := if b then tadd c.st n else c.st }
def CS.count (c : CS) (ch : List Int) (t : It) (n : T2) : CS := ((c.shift ch t.feed n).star t.star n).tags t.tags n
def chO (ab : ML Int Int) : Nat → Int → Option (List Int)
 | 0, id => if id = 0 then some [] else none
 | k + 1, id => if id = 0 then some [] else (chO ab k ((lkM ab id).getD 0)).map (id :: ·)
def CS.chn (c : CS) (feed : Int) : List Int := (chO c.ab 7 ((lkM c.inn feed).getD 0)).getD []
theorem foF_lk (t : T2) : ∀ {ch : List Int} (_ : ch.Nodup) (l : ML Int T2) (k : Nat) (x : Int), lkM (foF t ch l k).1 x = if x ∈ ch then some (tadd ((lkM l x).getD (0, 0)) t) else lkM l x := by
 intro ch
 induction ch with
 | nil => intro _ l k x; simp [foF]
 | cons a ch ih =>
  intro hn l k x
  rw [List.nodup_cons] at hn
  rw [foF, ih hn.2]
  by_cases hx : x ∈ ch
  ·have hxa : x ≠ a := fun e => hn.1 (e ▸ hx)
   rw [if_pos hx, if_pos (List.mem_cons_of_mem _ hx), lkM_up, if_neg hxa]
  ·rw [if_neg hx, lkM_up]
   by_cases hxa : x = a
   ·subst hxa; rw [if_pos rfl, if_pos (List.mem_cons_self ..)]
   ·rw [if_neg hxa, if_neg (by simp [hx, hxa])]
theorem foF_wf (t : T2) : ∀ (ch : List Int) {l : ML Int T2} {k : Nat}, WFM l k → WFM (foF t ch l k).1 (foF t ch l k).2 := by
 intro ch
 induction ch with
 | nil => intro l k h; exact h
 | cons a ch ih => intro l k h; rw [foF]; exact ih (h.up _ _)
theorem tg1F_wf (n : T2) (g : Bs) {l : ML Bs T2} {k : Nat} (h : WFM l k) : WFM (tg1F n g l k).1 (tg1F n g l k).2 := by
 unfold tg1F
 split
 ·exact h.dl _
 ·exact h.up _ _
theorem tgsF_wf (n : T2) : ∀ (gs : List Bs) {l : ML Bs T2} {k : Nat}, WFM l k → WFM (tgsF n gs l k).1 (tgsF n gs l k).2 := by
 intro gs
 induction gs with
 | nil => intro l k h; exact h
 | cons a gs ih => intro l k h; rw [tgsF]; exact ih (tg1F_wf _ _ h)
def some0 (u : T2) : Option T2 := if u.1 = 0 then none else some u
theorem tg1F_lk (n : T2) (g : Bs) {l : ML Bs T2} {k : Nat} (w : WFM l k) (x : Bs) : lkM (tg1F n g l k).1 x = if x = g then some0 (tadd ((lkM l x).getD (0, 0)) n) else lkM l x := by
 unfold tg1F some0
 by_cases hx : x = g
 ·subst hx
  rw [if_pos rfl]
  split
  ·rw [lkM_dl w.keys, if_pos rfl]
  ·rw [lkM_up, if_pos rfl]
 ·rw [if_neg hx]
  split
  ·rw [lkM_dl w.keys, if_neg hx]
  ·rw [lkM_up, if_neg hx]
theorem tgsF_lk (n : T2) : ∀ {gs : List Bs} (_ : gs.Nodup) {l : ML Bs T2} {k : Nat} (_ : WFM l k) (x : Bs), lkM (tgsF n gs l k).1 x = if x ∈ gs then some0 (tadd ((lkM l x).getD (0, 0)) n) else lkM l x := by
 intro gs
 induction gs with
 | nil => intro _ l k _ x; simp [tgsF]
 | cons a gs ih =>
  intro hn l k w x
  rw [List.nodup_cons] at hn
  rw [tgsF, ih hn.2 (tg1F_wf _ _ w)]
  by_cases hx : x ∈ gs
  ·have hxa : x ≠ a := fun e => hn.1 (e ▸ hx)
   rw [if_pos hx, if_pos (List.mem_cons_of_mem _ hx), tg1F_lk _ _ w, if_neg hxa]
  ·rw [if_neg hx, tg1F_lk _ _ w]
   by_cases hxa : x = a
   ·subst hxa; rw [if_pos rfl, if_pos (List.mem_cons_self ..)]
   ·rw [if_neg hxa, if_neg (by simp [hx, hxa])]
def tl (L : List It) (p : It → Bool) : T2 := ((L.countP p : Nat), (L.countP (fun t => p t && !t.read) : Nat))
def dlt (t : It) (p : It → Bool) : T2 := if p t then oneT t else (0, 0)
theorem tl_cons (t : It) (L : List It) (p : It → Bool) : tl (t :: L) p = tadd (tl L p) (dlt t p) := by
 unfold tl dlt oneT tadd
 rw [List.countP_cons, List.countP_cons]
 cases h : p t <;> cases h2 : t.read <;> simp [h]
theorem tl_perm {L L' : List It} (h : L.Perm L') (p : It → Bool) : tl L p = tl L' p := by
 unfold tl; rw [h.countP_eq, h.countP_eq]
theorem tl_congr {L : List It} {p q : It → Bool} (h : ∀ t ∈ L, p t = q t) : tl L p = tl L q := by
 induction L with
 | nil => rfl
 | cons t L ih => rw [tl_cons, tl_cons, ih fun x hx => h x (List.mem_cons_of_mem _ hx), dlt, dlt, h t (List.mem_cons_self ..)]
theorem tl_le (L : List It) (p : It → Bool) : 0 ≤ (tl L p).2 ∧ (tl L p).2 ≤ (tl L p).1 ∧ (tl L p).1 ≤ L.length := by
 unfold tl
 refine ⟨by simp, ?_, by simp only; exact Int.ofNat_le.2 List.countP_le_length⟩
 simp only
 exact Int.ofNat_le.2 (List.countP_mono_left fun t _ h => by simp only [Bool.and_eq_true] at h; exact h.1)
theorem tl_0 {L : List It} {p : It → Bool} (h : (tl L p).1 = 0) : tl L p = (0, 0) := by
 have := tl_le L p
 rw [Prod.ext_iff]; exact ⟨h, by omega⟩
theorem tl_none {L : List It} {p : It → Bool} (h : ∀ t ∈ L, p t = false) : tl L p = (0, 0) := by
 apply tl_0
 unfold tl
 simp only
 have : L.countP p = 0 := List.countP_eq_zero.2 fun t ht => by rw [h t ht]; simp
 rw [this]; rfl
theorem tadd_0 (t : T2) : tadd t (0, 0) = t := by unfold tadd; simp
theorem tadd_neg (t n : T2) : tadd (tadd t n) (negT n) = t := by unfold tadd negT; rw [Prod.ext_iff]; simp only; omega
theorem some0_get (L : List It) (p : It → Bool) : (some0 (tl L p)).getD (0, 0) = tl L p := by
 unfold some0
 split
 ·rename_i h; rw [tl_0 h]; rfl
 ·rfl
structure Tal (c : CS) (L : List It) : Prop where
 al : c.al = tl L fun _ => true
 st : c.st = tl L fun t => t.star
 fe : ∀ id, (lkM c.fe id).isSome = true → lkM c.fe id = some (tl L fun t => decide (t.feed = id))
 fo : ∀ id, (lkM c.fo id).isSome = true → lkM c.fo id = some (tl L fun t => decide (id ∈ c.chn t.feed))
 tg : ∀ g, lkM c.tg g = some0 (tl L fun t => decide (g ∈ t.tags))
theorem Tal.perm {c : CS} {L L' : List It} (h : Tal c L) (p : L.Perm L') : Tal c L' where
 al := by rw [← tl_perm p]; exact h.al
 st := by rw [← tl_perm p]; exact h.st
 fe := fun id hi => by rw [← tl_perm p]; exact h.fe id hi
 fo := fun id hi => by rw [← tl_perm p]; exact h.fo id hi
 tg := fun g => by rw [← tl_perm p]; exact h.tg g
structure Rdy (c : CS) (t : It) : Prop where
 fe : (lkM c.fe t.feed).isSome = true
 ch : ∃ l, chO c.ab 7 ((lkM c.inn t.feed).getD 0) = some l ∧ l.Nodup ∧ l.length ≤ 7 ∧ ∀ x ∈ l, (lkM c.fo x).isSome = true
 tg : t.tags.Nodup
theorem Rdy.chn {c : CS} {t : It} (h : Rdy c t) : (c.chn t.feed).Nodup ∧ ∀ x ∈ c.chn t.feed, (lkM c.fo x).isSome = true := by
 obtain ⟨l, h1, h2, _, h3⟩ := h.ch
 unfold CS.chn; rw [h1]; exact ⟨h2, h3⟩
theorem count_tal {c : CS} {L L' : List It} {t : It} {n : T2} (h : Tal c L) (r : Rdy c t) (w3 : WFM c.tg c.c3)
  (hy : ∀ p : It → Bool, p t = true → tl L' p = tadd (tl L p) n) (hn : ∀ p : It → Bool, p t = false → tl L' p = tl L p) : Tal (c.count (c.chn t.feed) t n) L' where
 al := by rw [hy _ rfl, ← h.al]; rfl
 st := by
  show (if t.star then tadd c.st n else c.st) = _
  cases hs : t.star with
  | true => rw [if_pos rfl, hy _ hs, ← h.st]
  | false => rw [if_neg (by simp), hn _ hs, ← h.st]
 fe := fun id hi => by
  have hi : (lkM (upM c.fe c.c2 t.feed (tadd ((lkM c.fe t.feed).getD (0, 0)) n)) id).isSome = true := hi
  show lkM (upM c.fe c.c2 t.feed (tadd ((lkM c.fe t.feed).getD (0, 0)) n)) id = _
  rw [lkM_up] at hi ⊢
  by_cases hx : id = t.feed
  ·subst hx
   rw [if_pos rfl, h.fe _ r.fe, hy _ (by simp)]; rfl
  ·rw [if_neg hx] at hi ⊢
   rw [h.fe _ hi, hn _ (by simp; exact fun e => hx e.symm)]
 fo := fun id hi => by
  obtain ⟨hnd, hpr⟩ := r.chn
  have hi : (lkM (foF n (c.chn t.feed) c.fo c.c1).1 id).isSome = true := hi
  show lkM (foF n (c.chn t.feed) c.fo c.c1).1 id = some (tl L' fun t => decide (id ∈ c.chn t.feed))
  rw [foF_lk n hnd] at hi ⊢
  by_cases hx : id ∈ c.chn t.feed
  ·rw [if_pos hx, h.fo _ (hpr id hx), hy _ (by simpa using hx)]; rfl
  ·rw [if_neg hx] at hi ⊢
   rw [h.fo _ hi, hn _ (by simpa using hx)]
 tg := fun g => by
  show lkM (tgsF n t.tags c.tg c.c3).1 g = _
  rw [tgsF_lk n r.tg w3]
  by_cases hx : g ∈ t.tags
  ·rw [if_pos hx, h.tg, some0_get, hy _ (by simpa using hx)]
  ·rw [if_neg hx, h.tg, hn _ (by simpa using hx)]
theorem count_in {c : CS} {L : List It} {t : It} (h : Tal c L) (r : Rdy c t) (w3 : WFM c.tg c.c3) : Tal (c.count (c.chn t.feed) t (oneT t)) (t :: L) :=
 count_tal h r w3 (fun p hp => by rw [tl_cons, dlt, if_pos hp]) (fun p hp => by rw [tl_cons, dlt, if_neg (by simp [hp]), tadd_0])
theorem count_out {c : CS} {L : List It} {t : It} (h : Tal c (t :: L)) (r : Rdy c t) (w3 : WFM c.tg c.c3) : Tal (c.count (c.chn t.feed) t (negT (oneT t))) L :=
 count_tal h r w3 (fun p hp => by rw [tl_cons, dlt, if_pos hp, tadd_neg]) (fun p hp => by rw [tl_cons, dlt, if_neg (by simp [hp]), tadd_0])
structure CS.Wf (c : CS) : Prop where
 w1 : WFM c.fo c.c1
 w2 : WFM c.fe c.c2
 w3 : WFM c.tg c.c3
 w4 : WFM c.it c.c4
 w5 : WFM c.inn c.c5
 w6 : WFM c.ab c.c6
theorem CS.Wf.count {c : CS} (w : c.Wf) (ch : List Int) (t : It) (n : T2) : (c.count ch t n).Wf :=
 { w with w1 := foF_wf _ _ w.w1, w2 := w.w2.up _ _, w3 := tgsF_wf _ _ w.w3 }
structure CS.Like (c d : CS) : Prop where
 it : d.it = c.it
 c4 : d.c4 = c.c4
 inn : d.inn = c.inn
 ab : d.ab = c.ab
 fe : ∀ id, (lkM d.fe id).isSome = (lkM c.fe id).isSome
 fo : ∀ id, (lkM d.fo id).isSome = (lkM c.fo id).isSome
theorem CS.Like.chn {c d : CS} (h : c.Like d) (f : Int) : d.chn f = c.chn f := by unfold CS.chn; rw [h.ab, h.inn]
theorem CS.Like.rdy {c d : CS} (h : c.Like d) {t : It} (r : Rdy c t) : Rdy d t where
 fe := by rw [h.fe]; exact r.fe
 ch := by
  obtain ⟨l, h1, h2, h3, h4⟩ := r.ch
  exact ⟨l, by rw [h.ab, h.inn]; exact h1, h2, h3, fun x hx => by rw [h.fo]; exact h4 x hx⟩
 tg := r.tg
theorem CS.count_like {c : CS} {t : It} (r : Rdy c t) (n : T2) : c.Like (c.count (c.chn t.feed) t n) where
 it := rfl
 c4 := rfl
 inn := rfl
 ab := rfl
 fe := fun id => by
  show (lkM (upM c.fe c.c2 t.feed _) id).isSome = _
  rw [lkM_up]
  split
  ·rename_i h; subst h; rw [r.fe]; rfl
  ·rfl
 fo := fun id => by
  obtain ⟨hnd, hpr⟩ := r.chn
  show (lkM (foF n (c.chn t.feed) c.fo c.c1).1 id).isSome = _
  rw [foF_lk n hnd]
  split
  ·rename_i h; rw [hpr id h]; rfl
  ·rfl
end Go.Av
namespace Go.Av
open Go Go.Proofs Go.RowKit
attribute [local irreducible] WP WPl WPix Sat
set_option maxRecDepth 100000
set_option maxHeartbeats 2000000
section
variable {C : Ctx} {ops : Array Oper} {rest : List Oper} {t : Env} {h : Heap} {K : Env → Prop} {dst : Option Nat} {ty : TypeId} {pos : String} {aft : Array Edge}
@[go_sem] theorem WPp_makeFunc (f : Fn) (a b : Array Operand) : WPp C ops (⟨dst, .makeFunc f a b, ty, pos, aft, none⟩ :: rest) t h K = WPp C ops rest (put t dst (.fn f (a.toList.map (aev C.G t)) (b.toList.map (aev C.G t)))) h K := WPp_det (Det.pure _) fun _ => rfl
end
variable (G : Nat → Option (List AVal))
def bd (B : Int) (t : T2) : Prop := (-B ≤ t.1 ∧ t.1 ≤ B) ∧ (-B ≤ t.2 ∧ t.2 ≤ B)
theorem clo2 (N : Nat) (a b : Int) : Clo N (.agg [.int .i64 a, .int .i64 b]) := clo_flat fun c hc => by simp at hc; rcases hc with rfl | rfl <;> simp
theorem Tadd_sat (a1 a2 b1 b2 : Int) (ha : bd 1000000000 (a1, a2)) (hb : bd 1000000000 (b1, b2)) (h : Heap) : Sat (CT G) 124 [.agg [.int .i64 a1, .int .i64 a2], .agg [.int .i64 b1, .int .i64 b2]] h (fun r h' => r = .agg [.int .i64 (a1 + b1), .int .i64 (a2 + b2)] ∧ h' = h) := by
 obtain ⟨⟨_, _⟩, _, _⟩ := ha
 obtain ⟨⟨_, _⟩, _, _⟩ := hb
 simp only at *
 refine sb [.cell 4 94] (fn := Tryz.f124) Tryz.func124 ?_
 intro Q hQ
 refine wk trivial ?_
 refine ye hQ trivial ?_
 exact Fin.plain (clo2 ..) ⟨rfl, rfl⟩
theorem Tless_sat (a1 a2 : Int) (ha : bd 1000000000 (a1, a2)) (h : Heap) : Sat (CT G) 91 [.agg [.int .i64 a1, .int .i64 a2]] h (fun r h' => r = .agg [.int .i64 (-a1), .int .i64 (-a2)] ∧ h' = h) := by
 obtain ⟨⟨_, _⟩, _, _⟩ := ha
 simp only at *
 refine sb [.cell 2 94] (fn := Tryz.f91) Tryz.func91 ?_
 intro Q hQ
 refine wk trivial ?_
 refine ye hQ trivial ?_
 exact Fin.plain (clo2 ..) ⟨by simp, rfl⟩
theorem CStag_sat (c : CS) (g : Bs) (n : T2) (hb : bd 1000000 ((lkM c.tg g).getD (0, 0))) (hn : bd 1000000 n) {H : Heap} {m : Nat} (hm : m + 7 ≤ H.length) : Sat (CT G) 125 [.hp (m + 6) 0 0 0, .str g, tA n] (co H m c) (fun r h' => r = .tup [] ∧ h' = co H m (c.tag g n)) := by
 have hb' : bd 1000000000 (((lkM c.tg g).getD (0, 0)).1, ((lkM c.tg g).getD (0, 0)).2) := by unfold bd at *; omega
 have hn' : bd 1000000000 (n.1, n.2) := by unfold bd at *; omega
 refine sb [] (fn := Tryz.f125) Tryz.func125 ?_
 intro Q hQ
 refine wk trivial ?_
 refine callS_of (Tadd_sat G _ _ _ _ hb' hn' _) ?_
 try refine sq trivial ?_
 refine wk trivial ?_
 refine cq trivial (fun c1 => ?_) (fun c1 => ?_) <;> (try exact c1.elim) <;> (refine wk trivial ?_)
 ·refine ee hQ trivial ?_
  exact co_fin hm (.tup _ (by simp)) ⟨rfl, by simp [CS.tag, tg1F, tadd, c1]⟩
 ·refine ee hQ trivial ?_
  exact co_fin hm (.tup _ (by simp)) ⟨rfl, by simp [CS.tag, tg1F, tadd, c1]⟩
def Boxed (H : Heap) (m q1 q2 : Nat) (n : T2) : Prop :=
 m + 7 ≤ q1 ∧ m + 7 ≤ q2 ∧ getRow H q1 0 = some (25, 1, [.hp (m + 6) 0 0 0]) ∧ getRow H q2 0 = some (94, 2, [.agg [.int .i64 n.1, .int .i64 n.2]])
def CS.add1 (c : CS) (id : Int) (n : T2) : CS := { c with fo := upM c.fo c.c1 id (tadd ((lkM c.fo id).getD (0, 0)) n), c1 := ckM c.fo c.c1 id }
theorem CSshift1_sat (c : CS) (id : Int) (n : T2) (hb : bd 100000000 ((lkM c.fo id).getD (0, 0))) (hn : bd 1000000 n) {H : Heap} {m q1 q2 : Nat} (hm : m + 7 ≤ H.length) (hx : Boxed H m q1 q2 n) :
  Sat (CT G) 145 [.int .i64 id, .hp q1 0 0 0, .hp q2 0 0 0] (co H m c) (fun r h' => r = .tup [] ∧ h' = co H m (c.add1 id n)) := by
 have hb' : bd 1000000000 (((lkM c.fo id).getD (0, 0)).1, ((lkM c.fo id).getD (0, 0)).2) := by unfold bd at *; omega
 have hn' : bd 1000000000 (n.1, n.2) := by unfold bd at *; omega
 obtain ⟨x1, x2, x3, x4⟩ := hx
 have F := F2 x3 x4
 refine sb [] (fn := Tryz.f145) Tryz.func145 ?_
 intro Q hQ
 refine wk F ?_
 refine callS_of (Tadd_sat G _ _ _ _ hb' hn' _) ?_
 try refine sq F ?_
 refine wk F ?_
 refine ee hQ F ?_
 exact co_fin0 hm (.tup _ (by simp)) ⟨rfl, rfl⟩
end Go.Av
namespace Go.Av
open Go Go.Proofs Go.RowKit
attribute [local irreducible] WP WPl WPix Sat
set_option maxRecDepth 100000
set_option maxHeartbeats 2000000
variable (G : Nat → Option (List AVal))
def CS.foT (c : CS) (ch : List Int) (n : T2) : CS := { c with fo := (foF n ch c.fo c.c1).1, c1 := (foF n ch c.fo c.c1).2 }
theorem CS.foT_snoc (c : CS) (ch : List Int) (id : Int) (n : T2) : (c.foT ch n).add1 id n = c.foT (ch ++ [id]) n := by
 unfold CS.foT CS.add1
 rw [foF_snoc]
theorem foF_bd {n : T2} {B D : Int} (hn : bd D n) : ∀ (ch : List Int) {l : ML Int T2} {k : Nat}, (∀ id, bd B ((lkM l id).getD (0, 0))) → ∀ id, bd (B + D * ch.length) ((lkM (foF n ch l k).1 id).getD (0, 0)) := by
 intro ch
 induction ch generalizing B with
 | nil => intro l k h id; have := h id; simpa [foF] using this
 | cons a ch ih =>
  intro l k h id
  rw [foF]
  have h1 : ∀ id, bd (B + D) ((lkM (upM l k a (tadd ((lkM l a).getD (0, 0)) n)) id).getD (0, 0)) := by
   intro id
   rw [lkM_up]
   split
   ·have := h a
    simp only [Option.getD_some, tadd]
    unfold bd at *; simp only; omega
   ·have := h id
    unfold bd at *; omega
  have h2 := ih h1 id (k := ckM l k a)
  have : D * ((a :: ch).length : Int) = D + D * (ch.length : Int) := by rw [List.length_cons]; push_cast; rw [Int.mul_add]; omega
  rw [this, ← Int.add_assoc]; exact h2
theorem CSchain_sat (c : CS) (id0 : Int) (ch : List Int) (k0 : Nat) (n : T2) (hch : chO c.ab k0 id0 = some ch) (hl : ch.length ≤ 50) (hb : ∀ id, bd 1000000 ((lkM c.fo id).getD (0, 0))) (hn : bd 1000000 n) {H : Heap} {m q1 q2 : Nat} (hm : m + 7 ≤ H.length) (hx : Boxed H m q1 q2 n) :
  Sat (CT G) 144 [.hp (m + 6) 0 0 0, .int .i64 id0, .fn (.func 145) [] [.hp q1 0 0 0, .hp q2 0 0 0]] (co H m c) (fun r h' => r = .tup [] ∧ h' = co H m (c.foT ch n)) := by
 refine sb [] (fn := Tryz.f144) Tryz.func144 ?_
 intro Q hQ
 refine wk trivial ?_
 refine lm (fun nL tL hL => ∃ (done rest : List Int) (id : Int), rest.length = nL ∧ co H m (c.foT done n) = hL ∧ tL 0 = .hp (m + 6) 0 0 0 ∧ tL 1 = .int .i64 id ∧ tL 2 = .fn (.func 145) [] [.hp q1 0 0 0, .hp q2 0 0 0] ∧ done ++ rest = ch ∧ (∃ k, chO c.ab k id = some rest)) ((fun (done rest : List Int) (id : Int) => (rest.length : Nat)) ([]) (ch) (id0)) ?_ ?_
 ·refine Wkn.refl ⟨[], ch, id0, rfl, hpE, ?_, ?_, ?_, rfl, ⟨k0, hch⟩⟩
  all_goals first | exact zq trivial | rfl | omega | trivial | skip
 rintro _ s2 h' ⟨done, rest, id, rfl, rfl, e0, e1, e2, hd, hr⟩ K2 hK2
 simp only [mix_cons, mix_nil, Nat.reduceEqDiff, ↓reduceIte] at e0 e1 e2
 have F := F3 e0 e1 e2
 refine wk F ?_
 obtain ⟨k, hr⟩ := hr
 have hdl : (done.length : Int) ≤ 50 := by have := congrArg List.length hd; rw [List.length_append] at this; omega
 have hbd : ∀ id, bd 100000000 ((lkM (c.foT done n).fo id).getD (0, 0)) := fun id => by
  have := foF_bd (B := 1000000) (D := 1000000) hn done (k := c.c1) hb id
  unfold CS.foT
  unfold bd at this ⊢; simp only; omega
 refine cq F (fun c1 => ?_) (fun c1 => ?_) <;> (try exact c1.elim) <;> (refine wk F ?_)
 ·obtain ⟨k', rest', rfl, hr'⟩ : ∃ k' rest', rest = id :: rest' ∧ chO c.ab k' ((lkM c.ab id).getD 0) = some rest' := by
   cases k with
   | zero => rw [chO, if_neg c1] at hr; cases hr
   | succ k =>
    rw [chO, if_neg c1] at hr
    simp only [Option.map_eq_some_iff] at hr
    obtain ⟨r, h1, h2⟩ := hr
    exact ⟨k, r, h2.symm, h1⟩
  refine kq F (CSshift1_sat G (c.foT done n) id n (hbd id) hn hm hx) ?_
  have hlc : (id :: rest').length = rest'.length + 1 := rfl
  refine hK2 _ _ _ (Wkn.refl ⟨done ++ [id], rest', (lkM c.ab id).getD 0, rfl, by rw [CS.foT_snoc], ?_, ?_, ?_, by rw [List.append_assoc]; exact hd, ⟨k', hr'⟩⟩) (by omega)
  all_goals first | exact zq F | rfl | omega | trivial | skip
 ·have hre : rest = [] := by
   cases k with
   | zero => rw [chO] at hr; rw [c1] at hr; simpa using hr.symm
   | succ k => rw [chO] at hr; rw [c1] at hr; simpa using hr.symm
  subst hre
  rw [List.append_nil] at hd
  subst hd
  refine wk F ?_
  refine ee hQ F ?_
  exact co_fin0 hm (.tup _ (by simp)) ⟨rfl, rfl⟩
structure CS.Bd (c : CS) (B : Int) : Prop where
 al : bd B c.al
 st : bd B c.st
 fe : ∀ id, bd B ((lkM c.fe id).getD (0, 0))
 fo : ∀ id, bd B ((lkM c.fo id).getD (0, 0))
 tg : ∀ g, bd B ((lkM c.tg g).getD (0, 0))
theorem CSshift_sat (c : CS) (feed : Int) (ch : List Int) (k0 : Nat) (n : T2) (hch : chO c.ab k0 ((lkM c.inn feed).getD 0) = some ch) (hl : ch.length ≤ 50) (hb : c.Bd 1000000) (hn : bd 1000000 n) {H : Heap} {m : Nat} (hm : m + 7 ≤ H.length) :
  Sat (CT G) 90 [.hp (m + 6) 0 0 0, .int .i64 feed, .agg [.int .i64 n.1, .int .i64 n.2]] (co H m c) (fun r h' => r = .tup [] ∧ h' = co H m (c.shift ch feed n)) := by
 have b1 : bd 1000000000 (c.al.1, c.al.2) := by have := hb.al; unfold bd at *; omega
 have b2 : bd 1000000000 (((lkM c.fe feed).getD (0, 0)).1, ((lkM c.fe feed).getD (0, 0)).2) := by have := hb.fe feed; unfold bd at *; omega
 have hn' : bd 1000000000 (n.1, n.2) := by unfold bd at *; omega
 refine sb [] (fn := Tryz.f90) Tryz.func90 ?_
 intro Q hQ
 refine wk trivial ?_
 refine callS_of (Tadd_sat G _ _ _ _ b1 hn' _) ?_
 try refine sq trivial ?_
 refine wk trivial ?_
 skip
 refine callS_of (Tadd_sat G _ _ _ _ b2 hn' _) ?_
 try refine sq trivial ?_
 refine wn trivial ?_
 refine WP_draw5 8 0 _ (by rfl) (by decide +kernel) (by kernel_rfl) (by decide +kernel) (by decide +kernel) (by decide +kernel) ?_
 simp only [List.take_succ_cons, List.take_zero]
 refine sq trivial ?_
 refine wn trivial ?_
 skip
 refine (CSchain_sat G { c with al := tadd c.al n, fe := upM c.fe c.c2 feed (tadd ((lkM c.fe feed).getD (0, 0)) n), c2 := ckM c.fe c.c2 feed } ((lkM c.inn feed).getD 0) ch k0 n hch hl hb.fo hn (by first | omega | (simp; omega)) ⟨by omega, by omega, by rw [gs_new0 _ rfl]; rfl, by rw [gs_new _ rfl]; rfl⟩).mono ?_
 rintro r h' ⟨rfl, rfl⟩
 try refine sq trivial ?_
 refine wk trivial ?_
 refine ee hQ trivial ?_
 exact co_fin hm (.tup _ (by simp)) ⟨rfl, rfl⟩
end Go.Av
namespace Go.Av
open Go Go.Proofs Go.RowKit
attribute [local irreducible] WP WPl WPix Sat
set_option maxRecDepth 100000
set_option maxHeartbeats 4000000
variable (G : Nat → Option (List AVal))
theorem tg1F_bd {n : T2} {B D : Int} (hB : 0 ≤ B + D) (hn : bd D n) (g : Bs) {l : ML Bs T2} {k : Nat} (w : WFM l k) (h : ∀ x, bd B ((lkM l x).getD (0, 0))) (h0 : 0 ≤ B) (hD : 0 ≤ D) (x : Bs) : bd (B + D) ((lkM (tg1F n g l k).1 x).getD (0, 0)) := by
 rw [tg1F_lk n g w]
 have h1 := h x
 split
 ·unfold some0
  split
  ·simp only [Option.getD_none]; unfold bd; simp only; omega
  ·simp only [Option.getD_some, tadd]; unfold bd at *; simp only; omega
 ·unfold bd at *; omega
theorem tgsF_bd {n : T2} {D : Int} (hD : 0 ≤ D) (hn : bd D n) : ∀ (gs : List Bs) {B : Int} (_ : 0 ≤ B) {l : ML Bs T2} {k : Nat} (_ : WFM l k), (∀ x, bd B ((lkM l x).getD (0, 0))) → ∀ x, bd (B + D * gs.length) ((lkM (tgsF n gs l k).1 x).getD (0, 0)) := by
 intro gs
 induction gs with
 | nil => intro B _ l k _ h x; have := h x; simpa [tgsF] using this
 | cons a gs ih =>
  intro B h0 l k w h x
  rw [tgsF]
  have h2 := ih (B := B + D) (by omega) (tg1F_wf n a w) (tg1F_bd (by omega) hn a w h h0 hD) x
  have : D * ((a :: gs).length : Int) = D + D * (gs.length : Int) := by rw [List.length_cons]; push_cast; rw [Int.mul_add]; omega
  rw [this, ← Int.add_assoc]; exact h2
def awT (t : It) (aw : Bool) : T2 := if aw then negT (oneT t) else oneT t
theorem awT_bd (t : It) (aw : Bool) : bd 1 (awT t aw) := by
 unfold awT oneT negT bd
 cases aw <;> cases t.read <;> simp
theorem CS.tags_snoc (c : CS) (gs : List Bs) (g : Bs) (n : T2) : (c.tags gs n).tag g n = c.tags (gs ++ [g]) n := by
 unfold CS.tags CS.tag
 rw [tgsF_snoc]
theorem CScount_sat (c : CS) (t : It) (aw : Bool) (ch : List Int) (k0 : Nat) (hch : chO c.ab k0 ((lkM c.inn t.feed).getD 0) = some ch) (hl : ch.length ≤ 50) (ht : t.tags.length ≤ 1000) (w3 : WFM c.tg c.c3) (hb : c.Bd 100000) {H : Heap} {m : Nat} (hm : m + 7 ≤ H.length) :
  Sat (CT G) 78 [.hp (m + 6) 0 0 0, t.av, .bool aw] (co H m c) (fun r h' => r = .tup [] ∧ h' = co H m (c.count ch t (awT t aw))) := by
 have hb1 : c.Bd 1000000 := ⟨by have := hb.al; unfold bd at *; omega, by have := hb.st; unfold bd at *; omega, fun id => by have := hb.fe id; unfold bd at *; omega, fun id => by have := hb.fo id; unfold bd at *; omega, fun id => by have := hb.tg id; unfold bd at *; omega⟩
 have hsh : ∀ (n : T2), bd 1000000 n → ∀ (H : Heap), m + 7 ≤ H.length → Sat (CT G) 90 [.hp (m + 6) 0 0 0, .int .i64 t.feed, .agg [.int .i64 n.1, .int .i64 n.2]] (co H m c) (fun r h' => r = .tup [] ∧ h' = co H m (c.shift ch t.feed n)) := fun n hn H hm => CSshift_sat G c t.feed ch k0 n hch hl hb1 hn hm
 have b2 : bd 1000000000 (c.st.1, c.st.2) := by have := hb.st; unfold bd at *; omega
 have hnb := awT_bd t aw
 have hnb1 : bd 1000000 (awT t aw) := by unfold bd at *; omega
 have hnb2 : bd 1000000000 ((awT t aw).1, (awT t aw).2) := by unfold bd at *; omega
 have hsn := hsh (awT t aw) hnb1
 have hlast : ∀ (H : Heap), m + 7 ≤ H.length → ∀ k, k ≤ t.tags.length → ∀ g, t.tags[k]? = some g → Sat (CT G) 125 [.hp (m + 6) 0 0 0, .str g, .agg [.int .i64 (awT t aw).1, .int .i64 (awT t aw).2]] (co H m (((c.shift ch t.feed (awT t aw)).star t.star (awT t aw)).tags (t.tags.take k) (awT t aw)))
   (fun r h' => r = .tup [] ∧ h' = co H m (((c.shift ch t.feed (awT t aw)).star t.star (awT t aw)).tags (t.tags.take (k + 1)) (awT t aw))) := fun H hm k hk g hg => by
  have htk : t.tags.take (k + 1) = t.tags.take k ++ [g] := by rw [List.take_add_one, hg]; rfl
  rw [htk, ← CS.tags_snoc]
  refine CStag_sat G _ g (awT t aw) ?_ hnb1 hm
  have h1 := tgsF_bd (D := 1) (by omega) hnb (t.tags.take k) (B := 100000) (by omega) w3 hb.tg g
  have : ((t.tags.take k).length : Int) ≤ 1000 := by rw [List.length_take]; omega
  show bd 1000000 ((lkM (tgsF (awT t aw) (t.tags.take k) c.tg c.c3).1 g).getD (0, 0))
  unfold bd at *; omega
 have hend : ((c.shift ch t.feed (awT t aw)).star t.star (awT t aw)).tags (t.tags.take t.tags.length) (awT t aw) = c.count ch t (awT t aw) := by rw [List.take_length]; rfl
 have hst0 : ((c.shift ch t.feed (awT t aw)).star t.star (awT t aw)).tags (t.tags.take 0) (awT t aw) = (c.shift ch t.feed (awT t aw)).star t.star (awT t aw) := rfl
 have hsl := hsn
 have hnl := hnb2
 generalize hn : awT t aw = n at hsn hnb hnb1 hnb2 hlast hend hst0 ⊢
 obtain ⟨b, hbs⟩ : ∃ b, t.star = b := ⟨_, rfl⟩
 rw [hbs] at hlast hend hst0
 cases hr : t.read <;> cases aw <;> cases hs : t.star
 all_goals (
  simp only [awT, oneT, negT, hr, Bool.false_eq_true, ↓reduceIte] at hsl hnl
  have F := F2 hr hs
  refine sb [] (fn := Tryz.f78) Tryz.func78 ?_
  intro Q hQ
  refine wk F ?_
  try refine kq F (Tless_sat G 1 1 (by unfold bd; simp) _) ?_
  try refine kq F (Tless_sat G 1 0 (by unfold bd; simp) _) ?_
  refine kq F (hsl _ (by first | omega | (simp; omega))) ?_
  try refine callS_of (Tadd_sat G _ _ _ _ b2 hnl _) ?_
  try refine sq F ?_
  refine wk F ?_
  refine lm (fun nL tL hL => ∃ (k : Nat), t.tags.length - k = nL ∧ co (H ++ [.row 82 9 0 [t.av], .row 94 2 0 [.agg [.int .i64 n.1, .int .i64 n.2]]]) m (((c.shift ch t.feed n).star b n).tags (t.tags.take k) n) = hL ∧ tL 0 = .hp (m + 6) 0 0 0 ∧ tL 6 = .hp (H.length + 1) 0 0 0 ∧ tL 33 = .sl 1 (t.tags.map .str) ∧ tL 34 = .int .i64 (t.tags.length : Int) ∧ tL 35 = .int .i64 k ∧ k ≤ t.tags.length) ((fun (k : Nat) => (t.tags.length - k : Nat)) (0)) ?_ ?_
  ·refine Wkn.refl ⟨0, rfl, by subst hn; rw [hst0, ← hbs]; simp [awT, oneT, negT, hr, hs, It.av, CS.star, CS.shift, tadd], ?_, ?_, ?_, ?_, ?_, by omega⟩
   all_goals first | exact zq F | rfl | omega | trivial | skip
  rintro _ s2 h' ⟨k, rfl, rfl, e0, e6, e33, e34, e35, hk⟩ K2 hK2
  simp only [mix_cons, mix_nil, Nat.reduceEqDiff, ↓reduceIte] at e0 e6 e33 e34 e35
  have F := F6 F e0 e6 e33 e34 e35
  refine wk F ?_
  refine cq F (fun c1 => ?_) (fun c1 => ?_) <;> (try exact c1.elim) <;> (refine wk F ?_)
  ·have c2 : k < t.tags.length := by omega
   obtain ⟨g, hg, _⟩ := getElem?_of_lt c2
   have F := F3 F c2 hg
   try refine sq F ?_
   refine wk F ?_
   refine kq F (hlast _ (by first | omega | (simp; omega)) k hk g hg) ?_
   refine hK2 _ _ _ (Wkn.refl ⟨k + 1, rfl, by rw [It.av_eq, hr, hs], ?_, ?_, ?_, ?_, ?_, by omega⟩) (by omega)
   all_goals first | exact zq F | rfl | omega | trivial | skip
  ·have hk2 : k = t.tags.length := by omega
   subst hk2
   rw [hend]
   refine ee hQ F ?_
   exact co_fin hm (.tup _ (by simp)) ⟨rfl, rfl⟩)
end Go.Av
namespace Go.Av
open Go Go.Proofs Go.RowKit
attribute [local irreducible] WP WPl WPix Sat
set_option maxRecDepth 100000
set_option maxHeartbeats 4000000
theorem vals_dl {κ α : Type} [DecidableEq κ] {l : ML κ α} {k : κ} {o : α} (h : lkM l k = some o) : (l.map (·.2.1)).Perm (o :: (dlM l k).map (·.2.1)) := by
 induction l with
 | nil => cases h
 | cons e l ih =>
  rw [lkM] at h
  rw [dlM]
  split at h
  ·rename_i hx; cases h; rw [if_pos hx]; exact .refl _
  ·rename_i hx; rw [if_neg hx]; exact ((ih h).cons _).trans (.swap _ _ _)
theorem vals_dl0 {κ α : Type} [DecidableEq κ] {l : ML κ α} {k : κ} (h : lkM l k = none) : dlM l k = l := by
 induction l with
 | nil => rfl
 | cons e l ih =>
  rw [lkM] at h
  rw [dlM]
  split at h
  ·cases h
  ·rename_i hx; rw [if_neg hx, ih h]
theorem vals_up {κ α : Type} [DecidableEq κ] (l : ML κ α) (c : Nat) (k : κ) (a : α) : ((upM l c k a).map (·.2.1)).Perm (a :: (dlM l k).map (·.2.1)) := by
 induction l with
 | nil => exact .refl _
 | cons e l ih =>
  rw [upM, dlM]
  split
  ·exact .refl _
  ·exact (ih.cons _).trans (.swap _ _ _)
theorem Tal.toBd {c : CS} {L : List It} (h : Tal c L) (hl : L.length ≤ 100000) : c.Bd 100000 := by
 have hb : ∀ p, Av.bd 100000 (tl L p) := fun p => by have := tl_le L p; unfold Av.bd; omega
 have h0 : Av.bd 100000 (0, 0) := by unfold Av.bd; simp
 refine ⟨by rw [h.al]; exact hb _, by rw [h.st]; exact hb _, fun id => ?_, fun id => ?_, fun g => ?_⟩
 ·cases hl : (lkM c.fe id).isSome with
  | true => rw [h.fe id hl]; exact hb _
  | false => rw [Option.isSome_eq_false_iff, Option.isNone_iff_eq_none] at hl; rw [hl]; exact h0
 ·cases hl : (lkM c.fo id).isSome with
  | true => rw [h.fo id hl]; exact hb _
  | false => rw [Option.isSome_eq_false_iff, Option.isNone_iff_eq_none] at hl; rw [hl]; exact h0
 ·rw [h.tg, some0_get]; exact hb _
structure CS.Own (c : CS) : Prop where
 wf : c.Wf
 tal : Tal c (c.it.map (·.2.1))
 rdy : ∀ k t, lkM c.it k = some t → Rdy c t ∧ t.id = k ∧ t.tags.length ≤ 8
 len : c.it.length ≤ 1024
def CS.inIt (c : CS) (t : It) : CS := { c with it := upM c.it c.c4 t.id t, c4 := ckM c.it c.c4 t.id }
def CS.out1 (c : CS) (t : It) : CS := match lkM c.it t.id with
 | some o => c.count (c.chn o.feed) o (negT (oneT o))
 | none => c
def CS.putF (c : CS) (t : It) : CS := ((c.out1 t).inIt t).count (c.chn t.feed) t (oneT t)
theorem CS.Like.refl (c : CS) : c.Like c := ⟨rfl, rfl, rfl, rfl, fun _ => rfl, fun _ => rfl⟩
theorem CS.Own.out1 {c : CS} (h : c.Own) (t : It) : Tal (c.out1 t) ((dlM c.it t.id).map (·.2.1)) ∧ c.Like (c.out1 t) ∧ (c.out1 t).Wf := by
 unfold CS.out1
 cases hl : lkM c.it t.id with
 | none => simp only; rw [vals_dl0 hl]; exact ⟨h.tal, .refl c, h.wf⟩
 | some o =>
  simp only
  have hr := (h.rdy _ _ hl).1
  exact ⟨count_out (h.tal.perm (vals_dl hl)) hr h.wf.w3, CS.count_like hr _, h.wf.count _ _ _⟩
theorem Rdy.ch7 {c : CS} {t : It} (r : Rdy c t) : chO c.ab 7 ((lkM c.inn t.feed).getD 0) = some (c.chn t.feed) ∧ (c.chn t.feed).length ≤ 7 := by
 obtain ⟨l, h1, _, h3, _⟩ := r.ch
 unfold CS.chn; rw [h1]; exact ⟨rfl, h3⟩
theorem Tal.inIt {c : CS} {L : List It} (h : Tal c L) (t : It) : Tal (c.inIt t) L := ⟨h.al, h.st, h.fe, h.fo, h.tg⟩
theorem Rdy.inIt {c : CS} {t : It} (r : Rdy c t) (u : It) : Rdy (c.inIt u) t := ⟨r.fe, r.ch, r.tg⟩
theorem CS.Own.putF {c : CS} (h : c.Own) {t : It} (r : Rdy c t) (ht : t.tags.length ≤ 8) (hl : c.it.length < 1024 ∨ (lkM c.it t.id).isSome = true) : (c.putF t).Own ∧ c.it.length ≤ 1024 ∧ (c.putF t).it = upM c.it c.c4 t.id t ∧ (c.putF t).inn = c.inn ∧ (c.putF t).ab = c.ab ∧ (∀ id, (lkM (c.putF t).fe id).isSome = (lkM c.fe id).isSome) ∧ (∀ id, (lkM (c.putF t).fo id).isSome = (lkM c.fo id).isSome) := by
 obtain ⟨h1, h2, h3⟩ := h.out1 t
 have r1 : Rdy ((c.out1 t).inIt t) t := (h2.rdy r).inIt t
 have hc : ((c.out1 t).inIt t).chn t.feed = c.chn t.feed := h2.chn _
 have w4 : ((c.out1 t).inIt t).Wf := { h3 with w4 := h3.w4.up _ _ }
 have hk := CS.count_like r1 (oneT t)
 have hT := count_in (h1.inIt t) r1 w4.w3
 rw [hc] at hk hT
 have hit : (c.putF t).it = upM c.it c.c4 t.id t := by
  show upM (c.out1 t).it (c.out1 t).c4 t.id t = _
  rw [h2.it, h2.c4]
 have hfe : ∀ id, (lkM (c.putF t).fe id).isSome = (lkM c.fe id).isSome := fun id => (hk.fe id).trans (h2.fe id)
 have hfo : ∀ id, (lkM (c.putF t).fo id).isSome = (lkM c.fo id).isSome := fun id => (hk.fo id).trans (h2.fo id)
 have hinn : (c.putF t).inn = c.inn := hk.inn.trans h2.inn
 have hab : (c.putF t).ab = c.ab := hk.ab.trans h2.ab
 have hrd : ∀ u, Rdy c u → Rdy (c.putF t) u := fun u ru => ⟨by rw [hfe]; exact ru.fe, by
  obtain ⟨l, a1, a2, a3, a4⟩ := ru.ch
  exact ⟨l, by rw [hab, hinn]; exact a1, a2, a3, fun x hx => by rw [hfo]; exact a4 x hx⟩, ru.tg⟩
 refine ⟨⟨w4.count _ _ _, ?_, fun k u hu => ?_, ?_⟩, h.len, hit, hinn, hab, hfe, hfo⟩
 ·rw [hit]; exact hT.perm (vals_up _ _ _ _).symm
 ·rw [hit, lkM_up] at hu
  split at hu
  ·rename_i hk; cases hu; exact ⟨hrd _ r, hk.symm, ht⟩
  ·obtain ⟨a1, a2⟩ := h.rdy k u hu; exact ⟨hrd _ a1, a2⟩
 ·rw [hit, upM_len]
  have := h.len
  split
  ·exact this
  ·rename_i hn; rcases hl with hl | hl
   ·omega
   ·exact (hn hl).elim
variable (G : Nat → Option (List AVal))
theorem CSput_sat (c : CS) (h : c.Own) (t : It) (r : Rdy c t) (ht : t.tags.length ≤ 8) {H : Heap} {m : Nat} (hm : m + 7 ≤ H.length) :
  Sat (CT G) 41 [.hp (m + 6) 0 0 0, t.av] (co H m c) (fun r h' => r = .tup [] ∧ h' = co H m (c.putF t)) := by
 obtain ⟨h1, h2, h3⟩ := h.out1 t
 have hlen : ((dlM c.it t.id).map (·.2.1)).length ≤ 100000 := by
  rw [List.length_map]
  have := (dlM_sub c.it t.id).length_le
  have := h.len
  omega
 have hb2 := ((h1.inIt t).toBd hlen)
 have hb1 := h.tal.toBd (by rw [List.length_map]; have := h.len; omega)
 have hc2 : chO ((c.out1 t).inIt t).ab 7 ((lkM ((c.out1 t).inIt t).inn t.feed).getD 0) = some (c.chn t.feed) := by
  show chO (c.out1 t).ab 7 ((lkM (c.out1 t).inn t.feed).getD 0) = _
  rw [h2.ab, h2.inn]; exact r.ch7.1
 have hcl : (c.chn t.feed).length ≤ 50 := by have := r.ch7.2; omega
 have hP : ∀ (H : Heap), m + 7 ≤ H.length → Sat (CT G) 78 [.hp (m + 6) 0 0 0, t.av, .bool false] (co H m ((c.out1 t).inIt t)) (fun r h' => r = .tup [] ∧ h' = co H m (c.putF t)) :=
  fun H hm => CScount_sat G ((c.out1 t).inIt t) t false (c.chn t.feed) 7 hc2 hcl (by omega) h3.w3 hb2 hm
 have hO : ∀ o, lkM c.it t.id = some o → ∀ (H : Heap), m + 7 ≤ H.length → Sat (CT G) 78 [.hp (m + 6) 0 0 0, o.av, .bool true] (co H m c) (fun r h' => r = .tup [] ∧ h' = co H m (c.out1 t)) := fun o ho H hm => by
  obtain ⟨ro, _, hot⟩ := h.rdy _ _ ho
  have := CScount_sat G c o true (c.chn o.feed) 7 ro.ch7.1 (by have := ro.ch7.2; omega) (by omega) h.wf.w3 hb1 hm
  have he : c.out1 t = c.count (c.chn o.feed) o (awT o true) := by unfold CS.out1; rw [ho]; rfl
  rw [he]; exact this
 cases hl : lkM c.it t.id with
 | none =>
  have he : c.out1 t = c := by unfold CS.out1; rw [hl]
  rw [he] at hP
  have his : (lkM c.it t.id).isSome = false := by rw [hl]; rfl
  have F := his
  refine sb [] (fn := Tryz.f41) Tryz.func41 ?_
  intro Q hQ
  refine wk F ?_
  refine WP_draw8 12 [10, 11] [true, true, true, true, true, true, true, true, true, true, false, false] (.one 10 [false, true, true, true, true, true, true] (.one 11 [] .fin)) (by decide +kernel) (by kernel_rfl) (by decide +kernel) ?_
  simp only [maskL_t, maskL_f, maskL_n]
  try refine sq F ?_
  repeat' (first | (refine WPe_finI ?_; try refine sq F ?_) | (refine WPe_oneI ?_; try refine sq F ?_) | (refine WPe_twoI ?_ ?_ <;> try refine sq F ?_))
  all_goals try refine wk F ?_
  all_goals (
   refine kq F (hP _ (by first | omega | (simp; omega))) ?_
   refine ee hQ F ?_
   exact co_fin hm (.tup _ (by simp)) ⟨rfl, rfl⟩)
 | some o =>
  have hO1 := hO o hl
  have his : (lkM c.it t.id).isSome = true := by rw [hl]; rfl
  have hgd : (lkM c.it t.id).getD It.z = o := by rw [hl]; rfl
  have F := F2 his hgd
  refine sb [] (fn := Tryz.f41) Tryz.func41 ?_
  intro Q hQ
  refine wk F ?_
  refine WP_draw8 12 [10, 11] [true, true, true, true, true, true, true, true, true, true, false, false] (.one 10 [false, true, true, true, true, true, true] (.one 11 [] .fin)) (by decide +kernel) (by kernel_rfl) (by decide +kernel) ?_
  simp only [maskL_t, maskL_f, maskL_n]
  try refine sq F ?_
  repeat' (first | (refine WPe_finI ?_; try refine sq F ?_) | (refine WPe_oneI ?_; try refine sq F ?_) | (refine WPe_twoI ?_ ?_ <;> try refine sq F ?_))
  all_goals try refine wk F ?_
  all_goals (
   refine kq F (hO1 _ (by first | omega | (simp; omega))) ?_
   refine kq F (hP _ (by first | omega | (simp; omega))) ?_
   refine ee hQ F ?_
   exact co_fin hm (.tup _ (by simp)) ⟨rfl, rfl⟩)
end Go.Av
namespace Go.Av
open Go Go.Proofs Go.RowKit
attribute [local irreducible] WP WPl WPix Sat
set_option maxRecDepth 100000
set_option maxHeartbeats 4000000
structure Unf (c : CS) (l : ML Int It) (d : CS) : Prop where
 it : d.it = l
 c4 : d.c4 = c.c4
 inn : d.inn = c.inn
 ab : d.ab = c.ab
 fe : ∀ id, (lkM d.fe id).isSome = (lkM c.fe id).isSome
 fo : ∀ id, (lkM d.fo id).isSome = (lkM c.fo id).isSome
 wf : d.Wf
 tal : Tal d (d.it.map (·.2.1))
theorem Unf.rdy {c : CS} {l : ML Int It} {d : CS} (h : Unf c l d) {t : It} (r : Rdy c t) : Rdy d t where
 fe := by rw [h.fe]; exact r.fe
 ch := by
  obtain ⟨l, h1, h2, h3, h4⟩ := r.ch
  exact ⟨l, by rw [h.ab, h.inn]; exact h1, h2, h3, fun x hx => by rw [h.fo]; exact h4 x hx⟩
 tg := r.tg
def CS.drop (d : CS) (k : Int) (t : It) : CS := { d.count (d.chn t.feed) t (negT (oneT t)) with it := dlM d.it k }
theorem Unf.go {c : CS} {l : ML Int It} {d : CS} (h : Unf c l d) {k : Int} {t : It} (r : Rdy c t) (hk : lkM l k = some t) : Unf c (dlM l k) (d.drop k t) := by
 have r1 := h.rdy r
 have hl := CS.count_like r1 (negT (oneT t))
 have hw := h.wf.count (d.chn t.feed) t (negT (oneT t))
 have ht : Tal d (t :: (dlM d.it k).map (·.2.1)) := h.tal.perm (vals_dl (by rw [h.it]; exact hk))
 have h2 := count_out ht r1 h.wf.w3
 exact ⟨by show dlM d.it k = _; rw [h.it], h.c4, h.inn, h.ab, fun id => (hl.fe id).trans (h.fe id), fun id => (hl.fo id).trans (h.fo id), { hw with w4 := by have := h.wf.w4.dl k; exact this }, ⟨h2.al, h2.st, h2.fe, h2.fo, h2.tg⟩⟩
theorem Unf.refl {c : CS} (h : c.Own) : Unf c c.it c := ⟨rfl, rfl, rfl, rfl, fun _ => rfl, fun _ => rfl, h.wf, h.tal⟩
variable (G : Nat → Option (List AVal))
def CS.less (d : CS) (feed : Int) : CS := { d with fe := dlM d.fe feed, inn := dlM d.inn feed }
theorem CSunfeed_sat (c : CS) (h : c.Own) (feed : Int) {H : Heap} {m : Nat} (hm : m + 7 ≤ H.length) :
  Sat (CT G) 49 [.hp (m + 6) 0 0 0, .int .i64 feed] (co H m c) (fun r h' => r = .tup [] ∧ ∃ d, Unf c (itF c.it feed) d ∧ h' = co H m (d.less feed)) := by
 have hw := h.wf.w4
 refine sb [] (fn := Tryz.f49) Tryz.func49 ?_
 intro Q hQ
 refine wk trivial ?_
 refine lm (fun nL tL hL => ∃ (hh : Heap) (seen : List Nat) (d : CS), leftM (itS c.it feed seen) seen = nL ∧ co hh m d = hL ∧ tL 0 = .hp (m + 6) 0 0 0 ∧ tL 1 = .int .i64 feed ∧ tL 10 = .hp H.length 0 0 0 ∧ Unf c (itS c.it feed seen) d ∧ (FrN H.length H hh ∧ H.length < hh.length) ∧ hh[H.length]? = some (.mit (m + 3) c.c4 seen c.c4)) ((fun (hh : Heap) (seen : List Nat) (d : CS) => (leftM (itS c.it feed seen) seen : Nat)) (H ++ [.mit (m + 3) c.c4 [] c.c4]) ([]) (c)) ?_ ?_
 ·refine Wkn.refl ⟨H ++ [.mit (m + 3) c.c4 [] c.c4], [], c, rfl, hpE, ?_, ?_, ?_, by rw [itS_nil]; exact .refl h, ⟨FrN.app _ (by omega) (FrN.refl _ _), by simp⟩, by simp⟩
  all_goals first | exact zq trivial | rfl | omega | trivial | skip
 rintro _ s2 h' ⟨hh, seen, d, rfl, rfl, e0, e1, e10, hd, hfr, hi⟩ K2 hK2
 simp only [mix_cons, mix_nil, Nat.reduceEqDiff, ↓reduceIte] at e0 e1 e10
 have F := F3 e0 e1 e10
 refine wk F ?_
 obtain ⟨hfr, hfl⟩ := hfr
 have hm1 : m + 7 ≤ hh.length := by omega
 have hmp : ∀ {hh : Heap}, m + 7 ≤ hh.length → mapAt (co hh m d) (m + 3) = some (encM iA It.av (itS c.it feed seen), c.c4) := fun hm => by rw [co_m4 hm, hd.it, hd.c4]
 refine nextM_at (q := m + 3) (c := c.c4) (seen := seen) (l := itS c.it feed seen) (by rw [co_get hm1 (by omega)]; exact hi) (hmp hm1) (hw.filter _).lt (fun e he hs => ?_) (fun hall => ?_)
 ·have F := F2 F @heapF
  try refine sq F ?_
  refine wk F ?_
  have hel := (List.mem_filter.1 he).1
  have hek : lkM (itS c.it feed seen) e.1 = some e.2.1 := lkM_of_mem (hw.filter _).keys (b := e.2.2) he
  obtain ⟨re, _, ret⟩ := h.rdy e.1 e.2.1 (lkM_of_mem hw.keys (b := e.2.2) hel)
  refine entry_at (q := m + 3) (l := itS c.it feed seen) (by rw [co_get (by simpa using hm1) (by omega), List.getElem?_set_self hfl]) (hmp (by simpa using hm1)) (hw.filter _) he ?_
  try refine sq F ?_
  refine wk F ?_
  refine cq F (fun c1 => ?_) (fun c1 => ?_) <;> (try exact c1.elim) <;> (refine wk F ?_)
  ·have hlt : leftM (itS c.it feed (seen ++ [e.2.2])) (seen ++ [e.2.2]) < leftM (itS c.it feed seen) seen := by rw [← itS_go hw hel c1]; exact leftM_lt he hs (dlM_sub _ _)
   have r1 := hd.rdy re
   have hlen : (d.it.map (·.2.1)).length ≤ 100000 := by
    rw [List.length_map, hd.it]
    have h1 : (itS c.it feed seen).length ≤ c.it.length := List.length_filter_le _ _
    have := h.len
    omega
   refine kq F (CScount_sat G d e.2.1 true (d.chn e.2.1.feed) 7 r1.ch7.1 (by have := r1.ch7.2; omega) (by omega) hd.wf.w3 (hd.tal.toBd hlen) (by first | omega | (simp; omega))) ?_
   refine hK2 _ _ _ (Wkn.refl ⟨hh.set H.length (.mit (m + 3) c.c4 (seen ++ [e.2.2]) c.c4) ++ [.row 82 9 0 [e.2.1.av]], seen ++ [e.2.2], d.drop e.1 e.2.1, rfl, by show co _ m (d.drop e.1 e.2.1) = _; rfl, ?_, ?_, ?_, by rw [← itS_go hw hel c1]; exact hd.go re hek, ⟨FrN.app _ (by simp; omega) (FrN.set _ (by omega) hfr), by simp; omega⟩, by rw [List.getElem?_append_left (by simp; omega), List.getElem?_set_self hfl]⟩) (by omega)
   all_goals first | exact zq F | rfl | omega | trivial | skip
  ·have hlt : leftM (itS c.it feed (seen ++ [e.2.2])) (seen ++ [e.2.2]) < leftM (itS c.it feed seen) seen := by rw [itS_stay hw hel c1]; exact leftM_lt he hs (List.Sublist.refl _)
   refine hK2 _ _ _ (Wkn.refl ⟨hh.set H.length (.mit (m + 3) c.c4 (seen ++ [e.2.2]) c.c4) ++ [.row 82 9 0 [e.2.1.av]], seen ++ [e.2.2], d, rfl, hpE, ?_, ?_, ?_, by rw [itS_stay hw hel c1]; exact hd, ⟨FrN.app _ (by simp; omega) (FrN.set _ (by omega) hfr), by simp; omega⟩, by rw [List.getElem?_append_left (by simp; omega), List.getElem?_set_self hfl]⟩) (by omega)
   all_goals first | exact zq F | rfl | omega | trivial | skip
 ·have hx := itS_end hall
  rw [itS_all hx] at hd
  try refine sq F ?_
  refine wk F ?_
  obtain ⟨j, hj⟩ := hfr.behind (by omega)
  subst hj
  refine ee hQ F ?_
  exact co_fin hm (.tup _ (by simp)) ⟨rfl, d, hd, rfl⟩
theorem shift_bd {c : CS} {ch : List Int} {n : T2} (feed : Int) (hb : c.Bd 100000) (hn : bd 100000 n) (hl : ch.length ≤ 7) : (c.shift ch feed n).Bd 1000000 where
 al := by
  show bd 1000000 (tadd c.al n)
  have := hb.al; unfold bd tadd at *; simp only; omega
 st := by
  show bd 1000000 c.st
  have := hb.st; unfold bd at *; omega
 fe := fun id => by
  show bd 1000000 ((lkM (upM c.fe c.c2 feed (tadd ((lkM c.fe feed).getD (0, 0)) n)) id).getD (0, 0))
  rw [lkM_up]
  split
  ·have := hb.fe feed; unfold bd tadd at *; simp only [Option.getD_some]; omega
  ·have := hb.fe id; unfold bd at *; omega
 fo := fun id => by
  have := foF_bd hn ch (k := c.c1) hb.fo id
  show bd 1000000 ((lkM (foF n ch c.fo c.c1).1 id).getD (0, 0))
  unfold bd at *; omega
 tg := fun g => by
  show bd 1000000 ((lkM c.tg g).getD (0, 0))
  have := hb.tg g; unfold bd at *; omega
def CS.setIn (c : CS) (feed to1 : Int) : CS := { c with inn := upM c.inn c.c5 feed to1, c5 := ckM c.inn c.c5 feed }
def CS.moveF (c : CS) (feed to1 : Int) : CS :=
 ((c.shift (c.chn feed) feed (negT ((lkM c.fe feed).getD (0, 0)))).setIn feed to1).shift ((chO c.ab 7 to1).getD []) feed ((lkM c.fe feed).getD (0, 0))
theorem CSmove_sat (c : CS) (h : c.Own) (feed to1 : Int) {ch1 ch2 : List Int} (h1 : chO c.ab 7 ((lkM c.inn feed).getD 0) = some ch1) (l1 : ch1.length ≤ 7) (h2 : chO c.ab 7 to1 = some ch2) (l2 : ch2.length ≤ 7) {H : Heap} {m : Nat} (hm : m + 7 ≤ H.length) :
  Sat (CT G) 50 [.hp (m + 6) 0 0 0, .int .i64 feed, .int .i64 to1] (co H m c) (fun r h' => r = .tup [] ∧ h' = co H m (c.moveF feed to1)) := by
 have hb := h.tal.toBd (by rw [List.length_map]; have := h.len; omega)
 have hb1 : c.Bd 1000000 := ⟨by have := hb.al; unfold bd at *; omega, by have := hb.st; unfold bd at *; omega, fun id => by have := hb.fe id; unfold bd at *; omega, fun id => by have := hb.fo id; unfold bd at *; omega, fun id => by have := hb.tg id; unfold bd at *; omega⟩
 have he1 : c.chn feed = ch1 := by unfold CS.chn; rw [h1]; rfl
 have he2 : (chO c.ab 7 to1).getD [] = ch2 := by rw [h2]; rfl
 have hn := hb.fe feed
 have hnn : bd 100000 (negT ((lkM c.fe feed).getD (0, 0))) := by unfold bd negT at *; simp only; omega
 have hb2 := shift_bd feed hb hnn l1
 have hb3 : ((c.shift ch1 feed (negT ((lkM c.fe feed).getD (0, 0)))).setIn feed to1).Bd 1000000 := ⟨hb2.al, hb2.st, hb2.fe, hb2.fo, hb2.tg⟩
 have hto : (lkM ((c.shift ch1 feed (negT ((lkM c.fe feed).getD (0, 0)))).setIn feed to1).inn feed).getD 0 = to1 := by
  show (lkM (upM c.inn c.c5 feed to1) feed).getD 0 = to1
  rw [lkM_up, if_pos rfl]; rfl
 have hS2 := fun (H : Heap) (hm : m + 7 ≤ H.length) => CSshift_sat G ((c.shift ch1 feed (negT ((lkM c.fe feed).getD (0, 0)))).setIn feed to1) feed ch2 7 ((lkM c.fe feed).getD (0, 0)) (by rw [hto]; exact h2) (by omega) hb3 (by unfold bd at *; omega) (H := H) hm
 have hS1 := fun (H : Heap) (hm : m + 7 ≤ H.length) => CSshift_sat G c feed ch1 7 (negT ((lkM c.fe feed).getD (0, 0))) h1 (by omega) hb1 (by unfold bd at *; omega) (H := H) hm
 unfold CS.moveF
 rw [he1, he2]
 generalize hg : (lkM c.fe feed).getD (0, 0) = n at *
 have F := hg
 refine sb [] (fn := Tryz.f50) Tryz.func50 ?_
 intro Q hQ
 refine wk F ?_
 refine kq F (Tless_sat G n.1 n.2 (by unfold bd at *; omega) _) ?_
 refine kq F (hS1 _ (by first | omega | (simp; omega))) ?_
 refine kq F (hS2 _ (by first | omega | (simp; omega))) ?_
 refine ee hQ F ?_
 exact co_fin hm (.tup _ (by simp)) ⟨rfl, rfl⟩
end Go.Av
namespace Go.Av
open Go Go.Proofs Go.RowKit
attribute [local irreducible] WP WPl WPix Sat
set_option maxRecDepth 100000
set_option maxHeartbeats 4000000
variable (G : Nat → Option (List AVal))
def StepR (c : CS) (e : Ev) (t : It) (b : Bool) (d : CS) : Prop :=
 if e.kind = 1 then d = { c with fo := upM c.fo c.c1 e.a (0, 0), c1 := ckM c.fo c.c1 e.a, ab := upM c.ab c.c6 e.a e.b, c6 := ckM c.ab c.c6 e.a }
 else if e.kind = 2 then d = { c with fo := dlM c.fo e.a, ab := dlM c.ab e.a }
 else if e.kind = 3 then d = { c with fe := upM c.fe c.c2 e.a (0, 0), c2 := ckM c.fe c.c2 e.a, inn := upM c.inn c.c5 e.a e.b, c5 := ckM c.inn c.c5 e.a }
 else if e.kind = 4 then ∃ d', Unf c (itF c.it e.a) d' ∧ d = d'.less e.a
 else if e.kind = 6 then d = c.moveF e.a e.b
 else if e.kind = 7 ∨ e.kind = 8 ∨ e.kind = 9 ∨ e.kind = 10 then d = if b then c.putF t else c
 else d = c
theorem CSStep_sat (c : CS) (h : c.Own) (e : Ev) (q : Nat) (t : It) (b : Bool) {H : Heap} {m : Nat} (hm : m + 7 ≤ H.length)
  (hI : (e.kind = 7 ∨ e.kind = 8 ∨ e.kind = 9 ∨ e.kind = 10) → ∀ j, Sat (CT G) 38 [.hp q 0 0 0, .int .i64 e.a] (co (H ++ j) m c) (fun r h' => r = .tup [t.av, .bool b] ∧ h' = co (H ++ j) m c))
  (hr : (e.kind = 7 ∨ e.kind = 8 ∨ e.kind = 9 ∨ e.kind = 10) → b = true → Rdy c t ∧ t.tags.length ≤ 8)
  (hv : e.kind = 6 → (∃ ch, chO c.ab 7 ((lkM c.inn e.a).getD 0) = some ch ∧ ch.length ≤ 7) ∧ ∃ ch, chO c.ab 7 e.b = some ch ∧ ch.length ≤ 7) :
  Sat (CT G) 20 [.hp (m + 6) 0 0 0, .hp q 0 0 0, e.av] (co H m c) (fun r h' => r = .tup [] ∧ ∃ d, StepR c e t b d ∧ h' = co H m d) := by
 refine sb [] (fn := Tryz.f20) Tryz.func20 ?_
 intro Q hQ
 refine wk trivial ?_
 by_cases k1 : e.kind = 1
 ·have F := k1
  try refine sq F ?_
  refine wk F ?_
  refine ee hQ F ?_
  exact co_fin hm (.tup _ (by simp)) ⟨rfl, _, by rw [StepR, if_pos k1], rfl⟩
 by_cases k2 : e.kind = 2
 ·have F := k2
  try refine sq F ?_
  refine wk F ?_
  refine ee hQ F ?_
  exact co_fin hm (.tup _ (by simp)) ⟨rfl, _, by rw [StepR, if_neg k1, if_pos k2], rfl⟩
 by_cases k3 : e.kind = 3
 ·have F := k3
  try refine sq F ?_
  refine wk F ?_
  refine ee hQ F ?_
  exact co_fin hm (.tup _ (by simp)) ⟨rfl, _, by rw [StepR, if_neg k1, if_neg k2, if_pos k3], rfl⟩
 by_cases k4 : e.kind = 4
 ·have F := k4
  try refine sq F ?_
  refine wk F ?_
  refine (CSunfeed_sat G c h e.a (by first | omega | (simp; omega))).mono ?_
  rintro r h' ⟨rfl, d, hd, rfl⟩
  try refine sq F ?_
  refine wk F ?_
  refine ee hQ F ?_
  exact co_fin hm (.tup _ (by simp)) ⟨rfl, _, by rw [StepR, if_neg k1, if_neg k2, if_neg k3, if_pos k4]; exact ⟨d, hd, rfl⟩, rfl⟩
 by_cases k6 : e.kind = 6
 ·obtain ⟨⟨ch1, a1, a2⟩, ch2, a3, a4⟩ := hv k6
  have F := k6
  try refine sq F ?_
  refine wk F ?_
  refine kq F (CSmove_sat G c h e.a e.b a1 a2 a3 a4 (by first | omega | (simp; omega))) ?_
  refine ee hQ F ?_
  exact co_fin hm (.tup _ (by simp)) ⟨rfl, _, by rw [StepR, if_neg k1, if_neg k2, if_neg k3, if_neg k4, if_pos k6], rfl⟩
 have n1 : (e.kind == 1) = false := by simp [k1]
 have n2 : (e.kind == 2) = false := by simp [k2]
 have n3 : (e.kind == 3) = false := by simp [k3]
 have n4 : (e.kind == 4) = false := by simp [k4]
 have n6 : (e.kind == 6) = false := by simp [k6]
 by_cases k7 : e.kind = 7 ∨ e.kind = 8 ∨ e.kind = 9 ∨ e.kind = 10
 ·have hI2 := hI k7
  have hr2 := hr k7
  have hfin : StepR c e t b (if b then c.putF t else c) := by rw [StepR, if_neg k1, if_neg k2, if_neg k3, if_neg k4, if_neg k6, if_pos k7]
  cases b with
  | false =>
   rcases k7 with k | k | k | k
   all_goals (
    have F := k
    try refine sq F ?_
    refine wk F ?_
    refine kq F (hI2 _) ?_
    refine ee hQ F ?_
    exact co_fin hm (.tup _ (by simp)) ⟨rfl, _, hfin, rfl⟩)
  | true =>
   obtain ⟨r1, r2⟩ := hr2 rfl
   rcases k7 with k | k | k | k
   all_goals (
    have F := k
    try refine sq F ?_
    refine wk F ?_
    refine kq F (hI2 _) ?_
    refine kq F (CSput_sat G c h t r1 r2 (by first | omega | (simp; omega))) ?_
    refine ee hQ F ?_
    exact co_fin hm (.tup _ (by simp)) ⟨rfl, _, hfin, rfl⟩)
 ·have n7 : (e.kind == 7) = false := by simp; omega
  have n8 : (e.kind == 8) = false := by simp; omega
  have n9 : (e.kind == 9) = false := by simp; omega
  have n10 : (e.kind == 10) = false := by simp; omega
  have F := F9 n1 n2 n3 n4 n6 n7 n8 n9 n10
  try refine sq F ?_
  refine wk F ?_
  refine ee hQ F ?_
  exact co_fin hm (.tup _ (by simp)) ⟨rfl, _, by rw [StepR, if_neg k1, if_neg k2, if_neg k3, if_neg k4, if_neg k6, if_neg k7], rfl⟩
def CS.of (c : CS) (kind id : Int) (g : Bs) : T2 :=
 if kind = 1 then c.al else if kind = 2 then (lkM c.fo id).getD (0, 0) else if kind = 3 then (lkM c.fe id).getD (0, 0) else if kind = 4 then (lkM c.tg g).getD (0, 0) else if kind = 5 then c.st else (0, 0)
theorem CSOf_sat (c : CS) (kind id : Int) (g : Bs) {H : Heap} {m : Nat} (hm : m + 7 ≤ H.length) :
  Sat (CT G) 18 [.hp (m + 6) 0 0 0, .int .i64 kind, .int .i64 id, .str g] (co H m c) (fun r h' => r = .tup [.int .i64 (c.of kind id g).1, .int .i64 (c.of kind id g).2] ∧ h' = co H m c) := by
 by_cases k1 : kind = 1
 ·have F := k1
  skip
  refine sb [.tmp 8, .tmp 9] (fn := Tryz.f18) Tryz.func18 ?_
  intro Q hQ
  refine wn F ?_
  refine WP_drawW (by decide +kernel) (mixT G) ?_
  refine sq F ?_
  refine wn F ?_
  skip
  all_goals (
   refine ee hQ F ?_
   exact co_fin hm (.tup _ (fun x hx => by simp at hx; rcases hx with rfl | rfl <;> exact .int _ _)) ⟨by simp [CS.of, k1], rfl⟩)
 by_cases k2 : kind = 2
 ·have F := k2
  skip
  refine sb [.tmp 8, .tmp 9] (fn := Tryz.f18) Tryz.func18 ?_
  intro Q hQ
  refine wn F ?_
  refine WP_drawW (by decide +kernel) (mixT G) ?_
  refine sq F ?_
  refine wn F ?_
  skip
  all_goals (
   refine ee hQ F ?_
   exact co_fin hm (.tup _ (fun x hx => by simp at hx; rcases hx with rfl | rfl <;> exact .int _ _)) ⟨by simp [CS.of, k2], rfl⟩)
 by_cases k3 : kind = 3
 ·have F := k3
  skip
  refine sb [.tmp 8, .tmp 9] (fn := Tryz.f18) Tryz.func18 ?_
  intro Q hQ
  refine wn F ?_
  refine WP_drawW (by decide +kernel) (mixT G) ?_
  refine sq F ?_
  refine wn F ?_
  skip
  all_goals (
   refine ee hQ F ?_
   exact co_fin hm (.tup _ (fun x hx => by simp at hx; rcases hx with rfl | rfl <;> exact .int _ _)) ⟨by simp [CS.of, k3], rfl⟩)
 by_cases k4 : kind = 4
 ·have F := k4
  skip
  refine sb [.tmp 8, .tmp 9] (fn := Tryz.f18) Tryz.func18 ?_
  intro Q hQ
  refine wn F ?_
  refine WP_drawW (by decide +kernel) (mixT G) ?_
  refine sq F ?_
  refine wn F ?_
  skip
  all_goals (
   refine ee hQ F ?_
   exact co_fin hm (.tup _ (fun x hx => by simp at hx; rcases hx with rfl | rfl <;> exact .int _ _)) ⟨by simp [CS.of, k4], rfl⟩)
 by_cases k5 : kind = 5
 ·have F := k5
  skip
  refine sb [.tmp 8, .tmp 9] (fn := Tryz.f18) Tryz.func18 ?_
  intro Q hQ
  refine wn F ?_
  refine WP_drawW (by decide +kernel) (mixT G) ?_
  refine sq F ?_
  refine wn F ?_
  skip
  all_goals (
   refine ee hQ F ?_
   exact co_fin hm (.tup _ (fun x hx => by simp at hx; rcases hx with rfl | rfl <;> exact .int _ _)) ⟨by simp [CS.of, k5], rfl⟩)
 have n1 : (kind == 1) = false := by simp [k1]
 have n2 : (kind == 2) = false := by simp [k2]
 have n3 : (kind == 3) = false := by simp [k3]
 have n4 : (kind == 4) = false := by simp [k4]
 have n5 : (kind == 5) = false := by simp [k5]
 have F := F5 n1 n2 n3 n4 n5
 skip
 refine sb [.tmp 8, .tmp 9] (fn := Tryz.f18) Tryz.func18 ?_
 intro Q hQ
 refine wn F ?_
 refine WP_drawW (by decide +kernel) (mixT G) ?_
 refine sq F ?_
 refine wn F ?_
 skip
 all_goals (
  refine ee hQ F ?_
  exact co_fin hm (.tup _ (fun x hx => by simp at hx; rcases hx with rfl | rfl <;> exact .int _ _)) ⟨by simp [CS.of, k1, k2, k3, k4, k5], rfl⟩)
end Go.Av
namespace Go.Av
open Go Go.Proofs Go.RowKit Go.Maps Go.Sort
set_option maxRecDepth 100000
def sortB (l : List Bs) : List Bs := l.mergeSort fun x y => decide (x ≤ y)
theorem leB_tr (a b c : Bs) (h1 : decide (a ≤ b) = true) (h2 : decide (b ≤ c) = true) : decide (a ≤ c) = true := by
 simp only [decide_eq_true_eq] at *; exact List.le_trans h1 h2
theorem leB_to (a b : Bs) : (decide (a ≤ b) || decide (b ≤ a)) = true := by simp only [Bool.or_eq_true, decide_eq_true_eq]; exact List.le_total a b
theorem sortB_perm {l l' : List Bs} (h : l.Perm l') : l.mergeSort (fun x y => decide (x ≤ y)) = l'.mergeSort fun x y => decide (x ≤ y) := by
 refine List.Perm.eq_of_pairwise (le := fun a b => decide (a ≤ b) = true) (fun a b _ _ h1 h2 => ?_) (List.pairwise_mergeSort leB_tr leB_to l) (List.pairwise_mergeSort leB_tr leB_to l') (((List.mergeSort_perm l _).trans h).trans (List.mergeSort_perm l' _).symm)
 simp only [decide_eq_true_eq] at h1 h2
 exact List.le_antisymm h1 h2
variable (G : Nat → Option (List AVal))
theorem SortedS_sat {α : Type} (ev : α → AVal) (I : FuncId)
  (hI : ∀ (Bm b nn : Nat) (D0 : DataW Unit) (R : Value → Option (DataW Unit × List MemPlace)) (w : World), Bm < w.heap.size → w.cell? ⟨Bm, 0, none⟩ = some (.map (some b)) → w.ownsMap Tryz.prog 9 R b nn D0 → Maps.size D0 ≤ maxLen → Maps.size D0 * 16 ≤ 140737488355328 →
   Calls Tryz.prog 45 #[.func (.func I) #[] #[.pointer (some ⟨Bm, 0, none⟩)]] w fun e w' => ∃ (v : Value) (ss : List Bs), e = .returned v ∧ ss.Perm (strKeys D0) ∧ w'.ownsRow w.heap.size 9 1 v ss.length ((ss.mergeSort (fun x y => decide (x ≤ y))).map encStr) ∧ (v = .slice none 0 0 ↔ ss = []) ∧ Below w.heap.size w w')
  (l : ML Bs α) (c : Nat) (hw : WFM l c) (hb : ∀ e ∈ l, e.1.length ≤ 1048576) (hl : l.length ≤ 100000) {h : Heap} {q p T : Nat} (hq : getRow h q 0 = some (T, 1, [.hm p])) (hp : mapAt h p = some (encM AVal.str ev l, c)) :
  Sat (CT G) 45 [.fn (.func I) [] [.hp q 0 0 0]] h (fun r h' => r = .sl 1 (((l.map (·.1)).mergeSort (fun x y => decide (x ≤ y))).map AVal.str) ∧ h' = h) := by
 intro B S μ w us fit rl
 obtain ⟨hul, hur⟩ := rl
 match us, hul, hur with
 | [v0], _, hur =>
  have r0 : Rep w S μ (.fn (.func I) [] [.hp q 0 0 0]) v0 := hur 0 _ rfl
  obtain ⟨cv, rfl, rc⟩ : ∃ cv, v0 = .func (.func I) #[] #[cv] ∧ Rep w S μ (.hp q 0 0 0) cv := by
   cases r0 with
   | fn _ _ _ xv cv h1 h2 h3 h4 =>
    match xv, cv, h1, h2, h4 with
    | [], [cv], _, _, h4 => exact ⟨cv, rfl, h4 0 _ rfl⟩
  obtain ⟨m, hm, rf⟩ := fit.row hq
  obtain ⟨b0, hb0, rfl⟩ := rc.hp_now hm rf.hver
  have hz : 0 * m.size + 0 = 0 := by simp
  rw [hz]
  obtain ⟨cur, hheap, hcell⟩ : ∃ cur, w.heap[b0]? = some (.cells cur T (0, 0)) ∧ ∃ x, cur[0]? = some x ∧ Rep w S μ (.hm p) x := by
   rcases rf.lies with ⟨_, h2⟩ | ⟨b, cur, h1, h2, _, _, _, h6⟩
   ·cases h2
   ·rw [hb0] at h1; cases h1
    obtain ⟨x, hx, rx⟩ := h6 0 (.hm p) 0 (.hm p) rfl rfl
    exact ⟨cur, h2, x, by simpa using hx, rx⟩
  obtain ⟨x, hx0, rx⟩ := hcell
  obtain ⟨m2, b2, cur2, hm2, hv2, hb2, rfl, hheap2, E⟩ := mapAt_fits fit rx hp
  have hcell0 : w.cell? ⟨b0, 0, none⟩ = some (.map (some b2)) := by simp [World.cell?, hheap, hx0]
  have hlen : cur2.size = l.length := by have := E.len; simpa [encM] using this
  have hget : ∀ (i : Nat) (y : MapEntry), cur2[i]? = some y → ∃ e, l[i]? = some e ∧ y.key = encStr e.1 ∧ y.born = e.2.2 := by
   intro i y hy
   have hi : i < l.length := by have := (Array.getElem?_eq_some_iff.1 hy).1; omega
   obtain ⟨y', hy', r1, _, r3⟩ := E.get i (AVal.str l[i].1, ev l[i].2.1, l[i].2.2) (by rw [encM, List.getElem?_map, List.getElem?_eq_getElem hi]; rfl)
   rw [Array.getElem?_toList, hy] at hy'; cases hy'
   refine ⟨l[i], List.getElem?_eq_getElem hi, ?_, r3⟩
   have := r1.str_inv; simpa [encStr] using this
  have hbk : cur2.toList.map (·.born) = l.map (·.2.2) := by
   apply List.ext_getElem?
   intro i
   rw [List.getElem?_map, List.getElem?_map, Array.getElem?_toList]
   cases hy : cur2[i]? with
   | none => rw [List.getElem?_eq_none (l := l) (by rw [Array.getElem?_eq_none_iff] at hy; omega)]; rfl
   | some y => obtain ⟨e, h1, _, h3⟩ := hget i y hy; rw [h1]; simp [h3]
  have hkk : cur2.toList.map (·.key) = l.map (fun e => encStr e.1) := by
   apply List.ext_getElem?
   intro i
   rw [List.getElem?_map, List.getElem?_map, Array.getElem?_toList]
   cases hy : cur2[i]? with
   | none => rw [List.getElem?_eq_none (l := l) (by rw [Array.getElem?_eq_none_iff] at hy; omega)]; rfl
   | some y => obtain ⟨e, h1, h2, _⟩ := hget i y hy; rw [h1]; simp [h2]
  have hown : w.ownsMap Tryz.prog 9 noR b2 cur2.size (datK (l.map fun e => kS e.1)) := by
   refine owns_of hheap2 (by simp [hlen]) (by simp [maxLen]; omega) (fun i y hy => ?_) (fun y hy => ?_) (by rw [hbk]; exact hw.borns) ?_
   ·obtain ⟨e, h1, h2, _⟩ := hget i y hy
    refine ⟨kS e.1, by rw [List.getElem?_map, h1]; rfl, ?_⟩
    have hu : Tryz.prog.underlying 9 = some .string := by kernel_rfl
    have hle := hb e (List.mem_of_getElem? h1)
    have hle2 : e.1.length ≤ maxLen := by simp [maxLen]; omega
    rw [h2]
    simp [keyOf, hu, mapKey, encStr, kS, ByteArray.size, hle2]
   ·obtain ⟨i, hi⟩ := List.getElem?_of_mem hy
    obtain ⟨e, h1, _, h3⟩ := hget i y (by simpa using hi)
    rw [h3]; exact hw.lt e (List.mem_of_getElem? h1)
   ·rw [hkk]
    have := hw.keys
    rw [show (l.map fun e => encStr e.1) = (l.map (·.1)).map encStr by simp]
    exact List.Pairwise.map encStr (fun a b hab he => hab (by first | exact encStr_inj he | (simpa [encStr] using he))) this
  have hsz : Maps.size (datK (l.map fun e => kS e.1)) = l.length := by rw [datK_size]; simp
  change OpOk Tryz.prog _ ((callFunc 45 #[Value.func (Fn.func I) #[] #[Value.pointer (some ⟨b0, 0, none⟩)]]).run Tryz.prog w)
  rw [run_enter (f := 45) Tryz.func45 rfl rfl]
  refine (hI b0 b2 _ _ _ w (Array.getElem?_eq_some_iff.1 hheap).1 hcell0 hown (by rw [hsz]; simp [maxLen]; omega) (by rw [hsz]; omega)).mono fun e w' ⟨v, ss, he, hperm, hrow, _, hbel⟩ => ?_
  refine ⟨v, he, ?_⟩
  have hk : (strKeys (datK (l.map fun e => kS e.1))).Perm (l.map (·.1)) := by
   unfold datK
   refine ((foldr_perm _).map _).trans ?_
   rw [List.map_map, List.map_map]
   exact List.Perm.of_eq (List.map_congr_left fun e _ => rfl)
  have hs : ss.mergeSort (fun x y => decide (x ≤ y)) = (l.map (·.1)).mergeSort (fun x y => decide (x ≤ y)) := sortB_perm (hperm.trans hk)
  rw [hs] at hrow
  have hl2 : ss.length = ((l.map (·.1)).mergeSort (fun x y => decide (x ≤ y))).length := by
   rw [← hs, (List.mergeSort_perm _ _).length_eq]
  rw [hl2] at hrow
  obtain ⟨S', f', st', r'⟩ := fits_row (av := AVal.str) (enc := encStr) (fun _ => rfl) (fun _ => rfl) (fun _ _ _ _ => by first | exact .int _ _ | exact .str _) fit hrow hbel
  exact ⟨_, h, S', μ, ⟨rfl, rfl⟩, st', f', r'⟩
end Go.Av
namespace Go.Av
open Go Go.Proofs Go.RowKit
attribute [local irreducible] WP WPl WPix Sat
set_option maxRecDepth 100000
set_option maxHeartbeats 4000000
section
variable {C : Ctx} {ops : Array Oper} {t : Env} {h : Heap} {dst : Option Nat} {ty : TypeId} {pos : String} {aft : Array Edge} {T : TypeId}
@[go_sem] theorem wpV_buildSlice (len : Nat) (parts : Array (Nat × Operand)) (K : AVal → Heap → Prop) : wpOperV C ops ⟨dst, .buildSlice T len parts, ty, pos, aft, none⟩ t h K =
  rowsK C T len (parts.toList.map (·.1)) (parts.toList.map fun q => aev C.G t q.2) h K := by
 show wpOp C (.buildSlice T len parts) t h K = _
 simp only [wpOp, rowsK, List.length_map, Array.length_toList]
end
structure Ct where
 kind : Int
 id : Int
 tag : Bs
 all : Int
 un : Int
def Ct.av (x : Ct) : AVal := .agg [.int .i64 x.kind, .int .i64 x.id, .str x.tag, .int .i64 x.all, .int .i64 x.un]
@[go_sem] theorem Ct.av_eq (x : Ct) : x.av = .agg [.int .i64 x.kind, .int .i64 x.id, .str x.tag, .int .i64 x.all, .int .i64 x.un] := (rfl)
theorem Ct.clo (N : Nat) (x : Ct) : Clo N x.av := clo_flat fun c hc => by simp [Ct.av] at hc; rcases hc with rfl | rfl | rfl | rfl | rfl <;> simp
theorem Ct.cells_sto (e : Ct) : ∀ c ∈ e.av.cells, c.sto = true := by
 intro c hc; simp only [Ct.av, AVal.cells, List.mem_cons, List.mem_nil_iff, or_false] at hc; rcases hc with rfl | rfl | rfl | rfl | rfl <;> rfl
def ctI (kind : Int) (l : ML Int T2) (id : Int) : Ct := ⟨kind, id, [], ((lkM l id).getD (0, 0)).1, ((lkM l id).getD (0, 0)).2⟩
def toldI (kind : Int) (l : ML Int T2) : List Ct := (sortI (l.map (·.1))).map (ctI kind l)
def ctS (l : ML Bs T2) (g : Bs) : Ct := ⟨4, 0, g, ((lkM l g).getD (0, 0)).1, ((lkM l g).getD (0, 0)).2⟩
def toldS (l : ML Bs T2) : List Ct := (sortB (l.map (·.1))).map (ctS l)
def CS.tell (c : CS) : List Ct := ⟨1, 0, [], c.al.1, c.al.2⟩ :: (toldI 2 c.fo ++ toldI 3 c.fe ++ toldS c.tg) ++ [⟨5, 0, [], c.st.1, c.st.2⟩]
theorem sortB_len (l : List Bs) : (sortB l).length = l.length := (List.mergeSort_perm _ _).length_eq
variable (G : Nat → Option (List AVal))
theorem KeysT_sat (p : Nat) (h : Heap) : Sat (CT G) 85 [.hm p] h (fun r h' => r = .fn (.func 138) [] [.hp h.length 0 0 0] ∧ h' = h ++ [.row 89 1 0 [.hm p]]) := by
 refine sb [.tmp 2] (fn := Tryz.f85) Tryz.func85 ?_
 intro Q hQ
 refine wk trivial ?_
 refine ee hQ trivial ?_
 exact Fin.whole (by simp) (.fn _ _ _ (fun _ h => by cases h) (fun x hx => by simp at hx; subst hx; exact .hp _ _ _ _ (by simp))) ⟨rfl, rfl⟩
theorem KeysTS_sat (p : Nat) (h : Heap) : Sat (CT G) 46 [.hm p] h (fun r h' => r = .fn (.func 88) [] [.hp h.length 0 0 0] ∧ h' = h ++ [.row 90 1 0 [.hm p]]) := by
 refine sb [.tmp 2] (fn := Tryz.f46) Tryz.func46 ?_
 intro Q hQ
 refine wk trivial ?_
 refine ee hQ trivial ?_
 exact Fin.whole (by simp) (.fn _ _ _ (fun _ h => by cases h) (fun x hx => by simp at hx; subst hx; exact .hp _ _ _ _ (by simp))) ⟨rfl, rfl⟩
theorem CStold_sat (kind : Int) (l : ML Int T2) (c : Nat) (hw : WFM l c) (hb : ∀ e ∈ l, -9223372036854775808 ≤ e.1 ∧ e.1 ≤ 9223372036854775807) (hl : l.length ≤ 100000) {h : Heap} {p : Nat} (hp : mapAt h p = some (encM iA tA l, c)) :
  Sat (CT G) 44 [.int .i64 kind, .hm p] h (fun r h' => r = .sl 5 ((toldI kind l).map Ct.av) ∧ h' = h) := by
 have hsl := sortI_len (l.map (·.1))
 rw [List.length_map] at hsl
 have hpl : p < h.length := by
  refine Nat.lt_of_not_le fun hle => ?_
  unfold mapAt at hp
  rw [List.getElem?_eq_none hle] at hp
  cases hp
 have hpa : ∀ j, mapAt (h ++ j) p = some (encM iA tA l, c) := fun j => by rw [ms_old hpl]; exact hp
 refine sb [.tmp 4] (fn := Tryz.f44) Tryz.func44 ?_
 intro Q hQ
 refine wk trivial ?_
 refine kq trivial (KeysT_sat G _ _) ?_
 refine kq trivial (SortedI_sat G tA _ Tryz.sortedKeys85 l c hw hb hl (by rw [gs_new0 _ rfl]; rfl) (hpa _)) ?_
 unfold toldI at hQ
 have hks : (List.map (fun x => x.1) l).mergeSort (fun x y => decide (x ≤ y)) = sortI (l.map (·.1)) := rfl
 rw [hks]
 generalize sortI (l.map (·.1)) = ks at *
 have hkm : (ks.map iA).length = ks.length := List.length_map ..
 have F := hkm
 refine lm (fun nL tL hL => ∃ (k v : Nat) (acc : List Ct), ks.length - k = nL ∧ h ++ [.row 89 1 0 [.hm p], .row 88 5 v (acc.map Ct.av)] = hL ∧ tL 0 = .int .i64 kind ∧ tL 1 = .hm p ∧ tL 5 = .hs (h.length + 1) v 0 acc.length true ∧ tL 10 = .sl 1 (ks.map iA) ∧ tL 11 = .int .i64 (ks.length : Int) ∧ tL 12 = .int .i64 k ∧ k ≤ ks.length ∧ acc.length = k ∧ acc ++ (ks.drop k).map (ctI kind l) = ks.map (ctI kind l)) ((fun (k v : Nat) (acc : List Ct) => (ks.length - k : Nat)) (0) (0) ([])) ?_ ?_
 ·refine ⟨_, _, Weak.virt 5 88 5 (by simp) (by omega) (by exact zq F), ⟨0, 0, [], rfl, by simp, ?_, ?_, ?_, ?_, ?_, ?_, by omega, rfl, by simp⟩⟩
  all_goals first | exact zq F | rfl | omega | trivial | skip
 rintro _ s2 h' ⟨k, v, acc, rfl, rfl, e0, e1, e5, e10, e11, e12, hk, hac, hpp⟩ K2 hK2
 simp only [mix_cons, mix_nil, Nat.reduceEqDiff, ↓reduceIte] at e0 e1 e5 e10 e11 e12
 have F := F7 F e0 e1 e5 e10 e11 e12
 refine wk F ?_
 refine cq F (fun c1 => ?_) (fun c1 => ?_) <;> (try exact c1.elim) <;> (refine wk F ?_)
 ·have c2 : k < ks.length := by omega
  obtain ⟨y, hy, hym⟩ := getElem?_of_lt c2
  rw [drop_cons_of hy, List.map_cons] at hpp
  have F := F4 F hy hpa @heapF
  try refine sq F ?_
  refine wk F ?_
  refine aq F ?_
  try refine sq F ?_
  refine wk F ?_
  refine hK2 _ _ _ (Wkn.refl ⟨k + 1, v + 1, acc ++ [ctI kind l y], rfl, by simp [Ct.av, ctI], ?_, ?_, ?_, ?_, ?_, ?_, by omega, by simp; omega, by rw [← hpp]; simp⟩) (by omega)
  all_goals first | exact zq F | rfl | omega | trivial | skip
 ·rw [drop_nil_of c1, List.map_nil, List.append_nil] at hpp
  refine ee hQ F ?_
  rw [← hpp]
  have hg : getRow (h ++ [.row 89 1 0 [.hm p], .row 88 5 v (acc.map Ct.av)]) (h.length + 1) v = some (88, 5, acc.map Ct.av) := by
   rw [gs_new _ rfl]; simp [getRow]
  exact Fin.frz (Frz.data (by omega) hg (by simp) (fun r hr => by obtain ⟨a, _, rfl⟩ := List.mem_map.1 hr; exact Ct.clo _ a) (fun r hr => by obtain ⟨a, _, rfl⟩ := List.mem_map.1 hr; exact a.cells_sto)) ⟨rfl, rfl⟩
end Go.Av
namespace Go.Av
open Go Go.Proofs Go.RowKit
attribute [local irreducible] WP WPl WPix Sat
set_option maxRecDepth 100000
set_option maxHeartbeats 4000000
variable (G : Nat → Option (List AVal))
theorem toldI_len (k : Int) (l : ML Int T2) : (toldI k l).length = l.length := by unfold toldI; rw [List.length_map, sortI_len, List.length_map]
theorem CSTell_sat (c : CS) (w : c.Wf) (b1 : ∀ e ∈ c.fo, -9223372036854775808 ≤ e.1 ∧ e.1 ≤ 9223372036854775807) (b2 : ∀ e ∈ c.fe, -9223372036854775808 ≤ e.1 ∧ e.1 ≤ 9223372036854775807) (b3 : ∀ e ∈ c.tg, e.1.length ≤ 1048576)
  (l1 : c.fo.length ≤ 100000) (l2 : c.fe.length ≤ 100000) (l3 : c.tg.length ≤ 100000) {H : Heap} {m : Nat} (hm : m + 7 ≤ H.length) :
  Sat (CT G) 16 [.hp (m + 6) 0 0 0] (co H m c) (fun r h' => r = .sl 5 (c.tell.map Ct.av) ∧ h' = co H m c) := by
 have hsl := sortB_len (c.tg.map (·.1))
 rw [List.length_map] at hsl
 have e1 := toldI_len 2 c.fo
 have e2 := toldI_len 3 c.fe
 skip
 refine sb [.tmp 2] (fn := Tryz.f16) Tryz.func16 ?_
 intro Q hQ
 refine wn trivial ?_
 skip
 refine WP_draw5 11 0 _ (by rfl) (by decide +kernel) (by kernel_rfl) (by decide +kernel) (by decide +kernel) (by decide +kernel) ?_
 simp only [List.take_succ_cons, List.take_zero]
 refine sq trivial ?_
 refine wx trivial ?_
 skip
 skip
 refine kq trivial (CStold_sat G 2 c.fo c.c1 w.w1 b1 l1 (co_m1 (by first | omega | (simp; omega)))) ?_
 have F := @heapF
 refine aq F ?_
 try refine sq F ?_
 refine wk F ?_
 refine kq F (CStold_sat G 3 c.fe c.c2 w.w2 b2 l2 (co_m2 (by first | omega | (simp; omega)))) ?_
 refine aq F ?_ (hl := by simp; omega)
 try refine sq F ?_
 refine wk F ?_
 refine kq F (KeysTS_sat G _ _) ?_
 refine kq F (SortedS_sat G tA _ Tryz.sortedKeys46 c.tg c.c3 w.w3 b3 l3 (by rw [co_row' (by simp; omega) 0 (by omega), gs_new _ rfl]; rfl) (co_m3 (by simp; omega))) ?_
 have hks : (List.map (fun x => x.1) c.tg).mergeSort (fun x y => decide (x ≤ y)) = sortB (c.tg.map (·.1)) := rfl
 have htel : c.tell = (⟨1, 0, [], c.al.1, c.al.2⟩ :: (toldI 2 c.fo ++ toldI 3 c.fe)) ++ (sortB (c.tg.map (·.1))).map (ctS c.tg) ++ [⟨5, 0, [], c.st.1, c.st.2⟩] := by unfold CS.tell toldS; simp
 rw [hks]
 rw [htel] at hQ
 generalize hpre : (⟨1, 0, [], c.al.1, c.al.2⟩ :: (toldI 2 c.fo ++ toldI 3 c.fe) : List Ct) = pre at *
 have hprl : pre.length = 1 + c.fo.length + c.fe.length := by rw [← hpre]; simp [e1, e2]; omega
 generalize sortB (c.tg.map (·.1)) = ks at *
 have hkm : (ks.map AVal.str).length = ks.length := List.length_map ..
 have hprl2 : 1 + ((toldI 2 c.fo).length + (toldI 3 c.fe).length) = pre.length := by omega
 have F := F3 F hkm @hprl2
 refine lm (fun nL tL hL => ∃ (k v : Nat) (acc : List Ct) (hh : Heap), ks.length - k = nL ∧ co hh m c = hL ∧ tL 0 = .hp (m + 6) 0 0 0 ∧ tL 3 = .hs H.length v 0 acc.length true ∧ tL 40 = .sl 1 (ks.map .str) ∧ tL 41 = .int .i64 (ks.length : Int) ∧ tL 42 = .int .i64 k ∧ k ≤ ks.length ∧ acc.length = pre.length + k ∧ acc ++ (ks.drop k).map (ctS c.tg) = pre ++ ks.map (ctS c.tg) ∧ (FrN H.length H hh ∧ H.length < hh.length) ∧ getRow hh H.length v = some (88, 5, acc.map Ct.av)) ((fun (k v : Nat) (acc : List Ct) (hh : Heap) => (ks.length - k : Nat)) (0) (2) (pre) (H ++ [.row 88 5 2 (pre.map Ct.av), .row 90 1 0 [.hm (m + 2)]])) ?_ ?_
 ·refine Wkn.refl ⟨0, 2, pre, H ++ [.row 88 5 2 (pre.map Ct.av), .row 90 1 0 [.hm (m + 2)]], rfl, by rw [← hpre]; simp [Ct.av], ?_, ?_, ?_, ?_, ?_, by omega, rfl, by simp, ⟨FrN.app _ (by omega) (FrN.refl _ _), by simp⟩, by rw [gs_new0 _ rfl]; simp [getRow]⟩
  all_goals first | exact zq F | rfl | omega | trivial | skip
 rintro _ s2 h' ⟨k, v, acc, hh, rfl, rfl, e0, e3, e40, e41, e42, hk, hac, hpp, hfr, hg⟩ K2 hK2
 simp only [mix_cons, mix_nil, Nat.reduceEqDiff, ↓reduceIte] at e0 e3 e40 e41 e42
 have F := F6 F e0 e3 e40 e41 e42
 refine wk F ?_
 obtain ⟨hfr, hfl⟩ := hfr
 have hm1 : m + 7 ≤ hh.length := by omega
 have hll : k + pre.length ≤ 300001 := by omega
 refine cq F (fun c1 => ?_) (fun c1 => ?_) <;> (try exact c1.elim) <;> (refine wk F ?_)
 ·have c2 : k < ks.length := by omega
  obtain ⟨y, hy, hym⟩ := getElem?_of_lt c2
  rw [drop_cons_of hy, List.map_cons] at hpp
  have F := F4 F hy hg @heapF
  try refine sq F ?_
  refine wk F ?_
  refine aq F ?_
  try refine sq F ?_
  refine wk F ?_
  refine hK2 _ _ _ (Wkn.refl ⟨k + 1, v + 1, acc ++ [ctS c.tg y], hh.set H.length (.row 88 5 (v + 1) ((acc ++ [ctS c.tg y]).map Ct.av)) ++ [.row 94 2 0 [.agg [.int .i64 ((lkM c.tg y).getD (0, 0)).1, .int .i64 ((lkM c.tg y).getD (0, 0)).2]]], rfl, by simp [Ct.av, ctS], ?_, ?_, ?_, ?_, ?_, by omega, by simp; omega, by rw [← hpp]; simp, ⟨FrN.app _ (by simp; omega) (FrN.set _ (by omega) hfr), by simp; omega⟩, by rw [gs_old _ (by simp; omega), gs_eq _ _ _ _ _ (by omega), if_pos rfl]⟩) (by omega)
  all_goals first | exact zq F | rfl | omega | trivial | skip
 ·rw [drop_nil_of c1, List.map_nil, List.append_nil] at hpp
  rw [← hpp] at hQ
  have F := F3 F hg @heapF
  try refine sq F ?_
  refine wk F ?_
  refine aq F ?_
  try refine sq F ?_
  refine wk F ?_
  refine ee hQ F ?_
  obtain ⟨j, hj⟩ := hfr.behind (by omega)
  subst hj
  rw [st_new0 _ rfl]
  have hgf : getRow (co (H ++ j.set 0 (.row 88 5 (v + 1) (acc.map Ct.av ++ [(⟨5, 0, [], c.st.1, c.st.2⟩ : Ct).av]))) m c) H.length (v + 1) = some (88, 5, (acc ++ [(⟨5, 0, [], c.st.1, c.st.2⟩ : Ct)]).map Ct.av) := by
   rw [co_row' (by simp; omega) _ (by omega), gs_new0 _ rfl]
   cases j with
   | nil => simp at hfl
   | cons x j => simp [getRow]
  have hz := Frz.data (n := H.length) (len := acc.length + 1) (room := true) (Nat.le_refl _) hgf (by simp) (fun r hr => by obtain ⟨a, _, rfl⟩ := List.mem_map.1 hr; exact Ct.clo _ a) (fun r hr => by obtain ⟨a, _, rfl⟩ := List.mem_map.1 hr; exact a.cells_sto)
  exact co_finF hm hz ⟨rfl, rfl⟩
end Go.Av
namespace Go.Av
open Go Go.Proofs Go.RowKit
set_option maxHeartbeats 1000000
theorem chO_uniq {ab : ML Int Int} : ∀ {k : Nat} {id : Int} {l : List Int}, chO ab k id = some l → ∀ {k' : Nat} {l' : List Int}, chO ab k' id = some l' → l = l' := by
 intro k
 induction k with
 | zero =>
  intro id l h k' l' h'
  rw [chO] at h
  split at h
  ·rename_i h0
   cases h
   cases k' with
   | zero => rw [chO, if_pos h0] at h'; cases h'; rfl
   | succ k' => rw [chO, if_pos h0] at h'; cases h'; rfl
  ·cases h
 | succ k ih =>
  intro id l h k' l' h'
  rw [chO] at h
  split at h
  ·rename_i h0
   cases h
   cases k' with
   | zero => rw [chO, if_pos h0] at h'; cases h'; rfl
   | succ k' => rw [chO, if_pos h0] at h'; cases h'; rfl
  ·rename_i h0
   simp only [Option.map_eq_some_iff] at h
   obtain ⟨r, hr, rfl⟩ := h
   cases k' with
   | zero => rw [chO, if_neg h0] at h'; cases h'
   | succ k' =>
    rw [chO, if_neg h0] at h'
    simp only [Option.map_eq_some_iff] at h'
    obtain ⟨r', hr', rfl⟩ := h'
    rw [ih hr hr']
theorem chO_sub {ab : ML Int Int} : ∀ {k : Nat} {id : Int} {l : List Int}, chO ab k id = some l → ∀ x ∈ l, ∃ k' l', chO ab k' x = some l' ∧ l'.length ≤ l.length := by
 intro k
 induction k with
 | zero =>
  intro id l h x hx
  rw [chO] at h
  split at h
  ·cases h; cases hx
  ·cases h
 | succ k ih =>
  intro id l h x hx
  have h2 := h
  rw [chO] at h
  split at h
  ·cases h; cases hx
  ·simp only [Option.map_eq_some_iff] at h
   obtain ⟨r, hr, rfl⟩ := h
   rcases List.mem_cons.1 hx with rfl | hx
   ·exact ⟨k + 1, _, h2, Nat.le_refl _⟩
   ·obtain ⟨k', l', h3, h4⟩ := ih hr x hx
    exact ⟨k', l', h3, Nat.le_trans h4 (by simp)⟩
theorem chO_nodup {ab : ML Int Int} : ∀ {k : Nat} {id : Int} {l : List Int}, chO ab k id = some l → l.Nodup := by
 intro k
 induction k with
 | zero =>
  intro id l h
  rw [chO] at h
  split at h
  ·cases h; simp
  ·cases h
 | succ k ih =>
  intro id l h
  have h2 := h
  rw [chO] at h
  split at h
  ·cases h; simp
  ·simp only [Option.map_eq_some_iff] at h
   obtain ⟨r, hr, rfl⟩ := h
   rw [List.nodup_cons]
   refine ⟨fun hm => ?_, ih hr⟩
   obtain ⟨k', l', h3, h4⟩ := chO_sub hr id hm
   have := chO_uniq h2 h3
   rw [← this] at h4
   simp at h4; omega
theorem chO_congr {ab ab' : ML Int Int} (P : Int → Prop) (h : ∀ id, P id → lkM ab' id = lkM ab id) (hc : ∀ id, P id → id ≠ 0 → P ((lkM ab id).getD 0)) : ∀ (k : Nat) (id : Int), P id → chO ab' k id = chO ab k id := by
 intro k
 induction k with
 | zero => intro id hp; rw [chO, chO]
 | succ k ih =>
  intro id hp
  rw [chO, chO, h id hp]
  split
  ·rfl
  ·rename_i h0; rw [ih _ (hc id hp h0)]
theorem chain_of {ab : ML Int Int} {fo : ML Int Fo} (hab : ∀ id, lkM ab id = (lkM fo id).map (·.inn)) (hu : ∀ k f, lkM fo k = some f → f.inn = 0 ∨ (lkM fo f.inn).isSome = true) (h0 : lkM fo 0 = none) :
  ∀ (k : Nat) (id : Int) (d : Nat), (id = 0 ∨ (lkM fo id).isSome = true) → deepO fo k id = some d → ∃ l, chO ab k id = some l ∧ l.length = d ∧ ∀ x ∈ l, (lkM fo x).isSome = true := by
 intro k
 induction k with
 | zero =>
  intro id d hi hd
  rw [deepO] at hd
  split at hd
  ·cases hd
  ·rename_i hs
   cases hd
   have : id = 0 := hi.resolve_right hs
   exact ⟨[], by rw [chO, if_pos this], rfl, fun x hx => by cases hx⟩
 | succ k ih =>
  intro id d hi hd
  rw [deepO] at hd
  by_cases hz : id = 0
  ·subst hz
   rw [h0] at hd
   simp only at hd
   cases hd
   exact ⟨[], by rw [chO, if_pos rfl], rfl, fun x hx => by cases hx⟩
  ·obtain ⟨f, hf⟩ := Option.isSome_iff_exists.1 (hi.resolve_left hz)
   rw [hf] at hd
   simp only [Option.map_eq_some_iff] at hd
   obtain ⟨j, hj, rfl⟩ := hd
   obtain ⟨l, h1, h2, h3⟩ := ih f.inn j (hu id f hf) hj
   refine ⟨id :: l, ?_, by simp [h2], fun x hx => ?_⟩
   ·rw [chO, if_neg hz, hab, hf]
    simp only [Option.map_some, Option.getD_some, h1]
   ·rcases List.mem_cons.1 hx with rfl | hx
    ·rw [hf]; rfl
    ·exact h3 x hx
structure Kp (c : CS) (s : PS) : Prop where
 wf : c.Wf
 tal : Tal c (c.it.map (·.2.1))
 it : ∀ id, lkM c.it id = lkM s.it id
 inn : ∀ id, lkM c.inn id = (lkM s.fe id).map (·.inn)
 ab : ∀ id, lkM c.ab id = (lkM s.fo id).map (·.inn)
 fe : ∀ id, (lkM c.fe id).isSome = (lkM s.fe id).isSome
 fo : ∀ id, (lkM c.fo id).isSome = (lkM s.fo id).isSome
 len : c.it.length ≤ 1024
variable {c d : CS} {s : PS} {e : Ev}
theorem Kp.chain (K : Kp c s) (h : s.Inv) {id : Int} (hi : id = 0 ∨ (lkM s.fo id).isSome = true) : ∃ l, chO c.ab 7 id = some l ∧ l.Nodup ∧ l.length ≤ 7 ∧ ∀ x ∈ l, (lkM s.fo x).isSome = true := by
 obtain ⟨d, h1, h2⟩ := h.dp id
 obtain ⟨l, h3, h4, h5⟩ := chain_of K.ab h.u1 h.no0 7 id d hi h2
 exact ⟨l, h3, chO_nodup h3, by omega, h5⟩
theorem Kp.up (K : Kp c s) (h : s.Inv) (feed : Int) : (lkM c.inn feed).getD 0 = 0 ∨ (lkM s.fo ((lkM c.inn feed).getD 0)).isSome = true := by
 rw [K.inn]
 cases hf : lkM s.fe feed with
 | none => exact .inl rfl
 | some f => exact h.u2 _ _ hf
theorem Kp.chn (K : Kp c s) (h : s.Inv) (feed : Int) : ∃ l, chO c.ab 7 ((lkM c.inn feed).getD 0) = some l ∧ c.chn feed = l ∧ l.Nodup ∧ l.length ≤ 7 ∧ ∀ x ∈ l, (lkM s.fo x).isSome = true := by
 obtain ⟨l, h1, h2, h3, h4⟩ := K.chain h (K.up h feed)
 exact ⟨l, h1, by unfold CS.chn; rw [h1]; rfl, h2, h3, h4⟩
theorem srt_nodup {l : List Bs} (h : Srt l) : l.Nodup := by
 unfold Srt at h
 refine h.imp fun {a b} hab => ?_
 rintro rfl
 rw [bl_irr] at hab; cases hab
theorem Kp.rdy (K : Kp c s) (h : s.Inv) {t : It} (hf : (lkM s.fe t.feed).isSome = true) (ht : Srt t.tags) : Rdy c t where
 fe := by rw [K.fe]; exact hf
 ch := by
  obtain ⟨l, h1, _, h2, h3, h4⟩ := K.chn h t.feed
  exact ⟨l, h1, h2, h3, fun x hx => by rw [K.fo]; exact h4 x hx⟩
 tg := srt_nodup ht
theorem Kp.own (K : Kp c s) (h : s.Inv) : c.Own where
 wf := K.wf
 tal := K.tal
 rdy := fun k t ht => by
  rw [K.it] at ht
  exact ⟨K.rdy h (h.u3 k t ht) (h.tg k t ht).1, (h.i3 k t ht).1, (h.tg k t ht).2⟩
 len := K.len
theorem Kp.mem (K : Kp c s) {t : It} (ht : t ∈ c.it.map (·.2.1)) : ∃ k, lkM s.it k = some t := by
 obtain ⟨x, hx, rfl⟩ := List.mem_map.1 ht
 exact ⟨x.1, by rw [← K.it]; exact lkM_of_mem K.wf.w4.keys (b := x.2.2) hx⟩
theorem Kp.feeds (K : Kp c s) (h : s.Inv) {t : It} (ht : t ∈ c.it.map (·.2.1)) : (lkM s.fe t.feed).isSome = true := by
 obtain ⟨k, hk⟩ := K.mem ht
 exact h.u3 k t hk
theorem Tal.re {L : List It} (h : Tal c L) (ha : d.al = c.al) (hs : d.st = c.st) (ht : d.tg = c.tg)
  (hfe : ∀ id, (lkM d.fe id).isSome = true → (lkM c.fe id).isSome = true ∧ lkM d.fe id = lkM c.fe id ∨ lkM d.fe id = some (0, 0) ∧ ∀ t ∈ L, t.feed ≠ id)
  (hfo : ∀ id, (lkM d.fo id).isSome = true → (lkM c.fo id).isSome = true ∧ lkM d.fo id = lkM c.fo id ∨ lkM d.fo id = some (0, 0) ∧ ∀ t ∈ L, id ∉ d.chn t.feed)
  (hch : ∀ t ∈ L, d.chn t.feed = c.chn t.feed) : Tal d L where
 al := by rw [ha]; exact h.al
 st := by rw [hs]; exact h.st
 fe := fun id hi => by
  rcases hfe id hi with ⟨h1, h2⟩ | ⟨h1, h2⟩
  ·rw [h2]; exact h.fe id h1
  ·rw [h1, tl_none fun t ht => by simpa using h2 t ht]
 fo := fun id hi => by
  rcases hfo id hi with ⟨h1, h2⟩ | ⟨h1, h2⟩
  ·rw [h2, h.fo id h1]; congr 1
   exact tl_congr fun t ht => by rw [hch t ht]
  ·rw [h1, tl_none fun t ht => by simpa using h2 t ht]
 tg := fun g => by rw [ht]; exact h.tg g
theorem Kp.mkFo (K : Kp c s) (h : s.Inv) (ha : 1 ≤ e.a ∧ e.a ≤ 1048576) (hn : (lkM s.fo e.a).isSome = false) (hw : s.within e.b = true) {s' : PS}
  (e1 : s'.fo = upM s.fo s.c1 e.a ⟨e.a, e.b, e.s⟩) (e2 : s'.fe = s.fe) (e3 : s'.it = s.it) :
  Kp { c with fo := upM c.fo c.c1 e.a (0, 0), c1 := ckM c.fo c.c1 e.a, ab := upM c.ab c.c6 e.a e.b, c6 := ckM c.ab c.c6 e.a } s' where
 wf := { K.wf with w1 := K.wf.w1.up _ _, w6 := K.wf.w6.up _ _ }
 it := fun id => by rw [e3]; exact K.it id
 inn := fun id => by rw [e2]; exact K.inn id
 ab := fun id => by
  show lkM (upM c.ab c.c6 e.a e.b) id = _
  rw [e1, lkM_up, lkM_up]
  split
  ·rfl
  ·exact K.ab id
 fe := fun id => by rw [e2]; exact K.fe id
 fo := fun id => by
  show (lkM (upM c.fo c.c1 e.a (0, 0)) id).isSome = _
  rw [e1, lkM_up, lkM_up]
  split
  ·rfl
  ·exact K.fo id
 len := K.len
 tal := by
  have hne : ∀ x, (x = 0 ∨ (lkM s.fo x).isSome = true) → x ≠ e.a := fun x hx => by
   rcases hx with hx | hx
   ·omega
   ·intro q; rw [q, hn] at hx; cases hx
  have hch : ∀ f, ({ c with fo := upM c.fo c.c1 e.a (0, 0), c1 := ckM c.fo c.c1 e.a, ab := upM c.ab c.c6 e.a e.b, c6 := ckM c.ab c.c6 e.a } : CS).chn f = c.chn f := fun f => by
   show (chO (upM c.ab c.c6 e.a e.b) 7 ((lkM c.inn f).getD 0)).getD [] = (chO c.ab 7 ((lkM c.inn f).getD 0)).getD []
   have hcg : ∀ id, id ≠ e.a → id ≠ 0 → (lkM c.ab id).getD 0 ≠ e.a := fun id _ _ => by
    rw [K.ab]
    cases hf : lkM s.fo id with
    | none => simp; omega
    | some g => exact hne _ (h.u1 _ _ hf)
   rw [chO_congr (fun id => id ≠ e.a) (fun id hi => by rw [lkM_up, if_neg hi]) hcg 7 _ (hne _ (K.up h f))]
  refine K.tal.re rfl rfl rfl (fun id hi => .inl ⟨hi, rfl⟩) (fun id hi => ?_) (fun t _ => hch _)
  have hi : (lkM (upM c.fo c.c1 e.a (0, 0)) id).isSome = true := hi
  show _ ∨ lkM (upM c.fo c.c1 e.a (0, 0)) id = _ ∧ _
  rw [lkM_up] at hi ⊢
  by_cases hx : id = e.a
  ·refine .inr ⟨by rw [if_pos hx], fun t _ => ?_⟩
   rw [hch]
   obtain ⟨l, _, h1, _, _, h2⟩ := K.chn h t.feed
   rw [h1, hx]
   intro hm
   rw [h2 _ hm] at hn; cases hn
  ·rw [if_neg hx] at hi
   exact .inl ⟨hi, by rw [if_neg hx]⟩
theorem Kp.unFo (K : Kp c s) (h : s.Inv) {k : Int} {f : Fo} (hk : lkM s.fo k = some f) (h0 : (lkM s.he k).getD 0 = 0) {s' : PS}
  (e1 : s'.fo = dlM s.fo k) (e2 : s'.fe = s.fe) (e3 : s'.it = s.it) : Kp { c with fo := dlM c.fo k, ab := dlM c.ab k } s' where
 wf := { K.wf with w1 := K.wf.w1.dl _, w6 := K.wf.w6.dl _ }
 it := fun id => by rw [e3]; exact K.it id
 inn := fun id => by rw [e2]; exact K.inn id
 ab := fun id => by
  show lkM (dlM c.ab k) id = _
  rw [e1, lkM_dl K.wf.w6.keys, lkM_dl h.w1.keys]
  split
  ·rfl
  ·exact K.ab id
 fe := fun id => by rw [e2]; exact K.fe id
 fo := fun id => by
  show (lkM (dlM c.fo k) id).isSome = _
  rw [e1, lkM_dl K.wf.w1.keys, lkM_dl h.w1.keys]
  split
  ·rfl
  ·exact K.fo id
 len := K.len
 tal := by
  have hk1 := (h.i1 _ _ hk).2
  have hs := h.hd k (by omega)
  have n1 := sumM_nn (inFo_nn k) s.fo
  have n2 := sumM_nn (inFe_nn k) s.fe
  have hA : ∀ j g, lkM s.fo j = some g → g.inn ≠ k := fun j g hg q => by
   have := sumM_0 (inFo_nn k) (l := s.fo) (by omega) hg
   rw [inFo, if_pos q] at this; omega
  have hB : ∀ j g, lkM s.fe j = some g → g.inn ≠ k := fun j g hg q => by
   have := sumM_0 (inFe_nn k) (l := s.fe) (by omega) hg
   rw [inFe, if_pos q] at this; omega
  have hin : ∀ f, (lkM c.inn f).getD 0 ≠ k := fun f => by
   rw [K.inn]
   cases hf : lkM s.fe f with
   | none => simp; omega
   | some g => exact hB _ _ hf
  have hch : ∀ f, ({ c with fo := dlM c.fo k, ab := dlM c.ab k } : CS).chn f = c.chn f := fun f => by
   show (chO (dlM c.ab k) 7 ((lkM c.inn f).getD 0)).getD [] = (chO c.ab 7 ((lkM c.inn f).getD 0)).getD []
   have hcg : ∀ id, id ≠ k → id ≠ 0 → (lkM c.ab id).getD 0 ≠ k := fun id _ _ => by
    rw [K.ab]
    cases hf : lkM s.fo id with
    | none => simp; omega
    | some g => exact hA _ _ hf
   rw [chO_congr (fun id => id ≠ k) (fun id hi => by rw [lkM_dl K.wf.w6.keys, if_neg hi]) hcg 7 _ (hin f)]
  refine K.tal.re rfl rfl rfl (fun id hi => .inl ⟨hi, rfl⟩) (fun id hi => ?_) (fun t _ => hch _)
  have hi : (lkM (dlM c.fo k) id).isSome = true := hi
  rw [lkM_dl K.wf.w1.keys] at hi
  split at hi
  ·cases hi
  ·rename_i hx
   refine .inl ⟨hi, ?_⟩
   show lkM (dlM c.fo k) id = _
   rw [lkM_dl K.wf.w1.keys, if_neg hx]
theorem Kp.mkFe (K : Kp c s) (h : s.Inv) (hn : (lkM s.fe e.a).isSome = false) {s' : PS} {u t : Bs}
  (e1 : s'.fo = s.fo) (e2 : s'.fe = upM s.fe s.c2 e.a ⟨e.a, e.b, u, t⟩) (e3 : s'.it = s.it) :
  Kp { c with fe := upM c.fe c.c2 e.a (0, 0), c2 := ckM c.fe c.c2 e.a, inn := upM c.inn c.c5 e.a e.b, c5 := ckM c.inn c.c5 e.a } s' where
 wf := { K.wf with w2 := K.wf.w2.up _ _, w5 := K.wf.w5.up _ _ }
 it := fun id => by rw [e3]; exact K.it id
 ab := fun id => by rw [e1]; exact K.ab id
 inn := fun id => by
  show lkM (upM c.inn c.c5 e.a e.b) id = _
  rw [e2, lkM_up, lkM_up]
  split
  ·rfl
  ·exact K.inn id
 fo := fun id => by rw [e1]; exact K.fo id
 fe := fun id => by
  show (lkM (upM c.fe c.c2 e.a (0, 0)) id).isSome = _
  rw [e2, lkM_up, lkM_up]
  split
  ·rfl
  ·exact K.fe id
 len := K.len
 tal := by
  have hne : ∀ t ∈ c.it.map (·.2.1), t.feed ≠ e.a := fun t ht q => by
   have := K.feeds h ht
   rw [q, hn] at this; cases this
  refine K.tal.re rfl rfl rfl (fun id hi => ?_) (fun id hi => .inl ⟨hi, rfl⟩) (fun t ht => ?_)
  ·have hi : (lkM (upM c.fe c.c2 e.a (0, 0)) id).isSome = true := hi
   show _ ∨ lkM (upM c.fe c.c2 e.a (0, 0)) id = _ ∧ _
   rw [lkM_up] at hi ⊢
   by_cases hx : id = e.a
   ·exact .inr ⟨by rw [if_pos hx], fun t ht => by rw [hx]; exact hne t ht⟩
   ·rw [if_neg hx] at hi
    exact .inl ⟨hi, by rw [if_neg hx]⟩
  ·show (chO c.ab 7 ((lkM (upM c.inn c.c5 e.a e.b) t.feed).getD 0)).getD [] = _
   rw [lkM_up, if_neg (hne t ht)]; rfl
theorem lk_filter {α : Type} {l : ML Int α} (hn : (l.map (·.1)).Nodup) (p : α → Bool) (x : Int) : lkM (l.filter fun e => p e.2.1) x = (lkM l x).filter p := by
 induction l with
 | nil => rfl
 | cons e l ih =>
  rw [List.map_cons, List.nodup_cons] at hn
  rw [List.filter_cons, lkM]
  by_cases hx : x = e.1
  ·rw [if_pos hx]
   cases hp : p e.2.1 with
   | true => rw [if_pos rfl, lkM, if_pos hx, Option.filter, if_pos hp]
   | false =>
    rw [if_neg (by simp), ih hn.2, hx, lkM_none hn.1]
    simp [Option.filter, hp]
  ·rw [if_neg hx, ← ih hn.2]
   split
   ·rw [lkM, if_neg hx]
   ·rfl
theorem Kp.unFe (K : Kp c s) (h : s.Inv) {k : Int} {d' : CS} (hd : Unf c (itF c.it k) d') {s' : PS}
  (e1 : s'.fo = s.fo) (e2 : s'.fe = dlM s.fe k) (e3 : s'.it = itF s.it k) : Kp (d'.less k) s' where
 wf := { hd.wf with w2 := hd.wf.w2.dl _, w5 := hd.wf.w5.dl _ }
 it := fun id => by
  show lkM d'.it id = _
  rw [hd.it, e3]
  unfold itF
  rw [lk_filter (p := fun t => !decide (t.feed = k)) K.wf.w4.keys, lk_filter (p := fun t => !decide (t.feed = k)) h.w3.keys, K.it]
 ab := fun id => by
  show lkM d'.ab id = _
  rw [hd.ab, e1]; exact K.ab id
 inn := fun id => by
  show lkM (dlM d'.inn k) id = _
  rw [lkM_dl hd.wf.w5.keys, e2, lkM_dl h.w2.keys, hd.inn]
  split
  ·rfl
  ·exact K.inn id
 fo := fun id => by
  show (lkM d'.fo id).isSome = _
  rw [hd.fo, e1]; exact K.fo id
 fe := fun id => by
  show (lkM (dlM d'.fe k) id).isSome = _
  rw [lkM_dl hd.wf.w2.keys, e2, lkM_dl h.w2.keys]
  split
  ·rfl
  ·rw [hd.fe]; exact K.fe id
 len := by
  show d'.it.length ≤ 1024
  rw [hd.it]
  exact Nat.le_trans (List.length_filter_le _ _) K.len
 tal := by
  have hne : ∀ t ∈ d'.it.map (·.2.1), t.feed ≠ k := fun t ht => by
   rw [hd.it] at ht
   obtain ⟨x, hx, rfl⟩ := List.mem_map.1 ht
   have := (List.mem_filter.1 hx).2
   simpa using this
  refine hd.tal.re (d := d'.less k) rfl rfl rfl (fun id hi => ?_) (fun id hi => .inl ⟨hi, rfl⟩) (fun t ht => ?_)
  ·have hi : (lkM (dlM d'.fe k) id).isSome = true := hi
   rw [lkM_dl hd.wf.w2.keys] at hi
   split at hi
   ·cases hi
   ·rename_i hx
    refine .inl ⟨hi, ?_⟩
    show lkM (dlM d'.fe k) id = _
    rw [lkM_dl hd.wf.w2.keys, if_neg hx]
  ·show (chO d'.ab 7 ((lkM (dlM d'.inn k) t.feed).getD 0)).getD [] = _
   rw [lkM_dl hd.wf.w5.keys, if_neg (hne t ht)]; rfl
theorem tl_split (L : List It) (p q : It → Bool) : tl L p = tadd (tl L fun t => p t && q t) (tl L fun t => p t && !q t) := by
 induction L with
 | nil => rfl
 | cons t L ih =>
  rw [tl_cons, tl_cons, tl_cons, ih]
  simp only [dlt, tadd, oneT]
  generalize (if t.read = true then (0 : Int) else 1) = r
  rcases Bool.eq_false_or_eq_true (p t) with hp | hp <;> rcases Bool.eq_false_or_eq_true (q t) with hq | hq <;> simp only [hp, hq, Bool.and_true, Bool.and_false, Bool.and_self, Bool.not_true, Bool.not_false, Bool.false_eq_true, if_true, if_false] <;> rw [Prod.ext_iff] <;> simp only <;> omega
theorem Kp.mov (K : Kp c s) (h : s.Inv) {k b : Int} {f : Fe} (hk : lkM s.fe k = some f) (hb : b = 0 ∨ (lkM s.fo b).isSome = true) {s' : PS}
  (e1 : s'.fo = s.fo) (e2 : s'.fe = upM s.fe s.c2 k { f with inn := b }) (e3 : s'.it = s.it) : Kp (c.moveF k b) s' := by
 obtain ⟨ch1, a1, a2, a3, _, a4⟩ := K.chn h k
 obtain ⟨ch2, b1, b2, _, b4⟩ := K.chain h hb
 have hfk : (lkM c.fe k).isSome = true := by rw [K.fe, hk]; rfl
 have hn := K.tal.fe k hfk
 have hmv : c.moveF k b = ((c.shift ch1 k (negT (tl (c.it.map (·.2.1)) fun t => decide (t.feed = k)))).setIn k b).shift ch2 k (tl (c.it.map (·.2.1)) fun t => decide (t.feed = k)) := by
  unfold CS.moveF; rw [a2, b1, hn]; rfl
 rw [hmv]
 have hT := K.tal
 generalize hL : c.it.map (·.2.1) = L at hT hn ⊢
 have hw := K.wf
 refine ⟨{ hw with w1 := foF_wf _ _ (foF_wf _ _ hw.w1), w2 := (hw.w2.up _ _).up _ _, w5 := hw.w5.up _ _ }, ?_, fun id => by rw [e3]; exact K.it id, fun id => ?_, fun id => by rw [e1]; exact K.ab id, fun id => ?_, fun id => ?_, K.len⟩
 ·show Tal _ (c.it.map (·.2.1))
  rw [hL]
  generalize hnn : (tl L fun t => decide (t.feed = k)) = n at *
  have hfe2 : ∀ id, lkM (((c.shift ch1 k (negT n)).setIn k b).shift ch2 k n).fe id = lkM c.fe id := fun id => by
   show lkM (upM (upM c.fe c.c2 k (tadd ((lkM c.fe k).getD (0, 0)) (negT n))) (ckM c.fe c.c2 k) k (tadd ((lkM (upM c.fe c.c2 k (tadd ((lkM c.fe k).getD (0, 0)) (negT n))) k).getD (0, 0)) n)) id = _
   rw [lkM_up, lkM_up, if_pos rfl, lkM_up]
   split
   ·rename_i hx
    rw [hx, hn]
    simp only [Option.getD_some, Option.some.injEq, tadd, negT]
    rw [Prod.ext_iff]; simp only; omega
   ·rfl
  have hch : ∀ f, (((c.shift ch1 k (negT n)).setIn k b).shift ch2 k n).chn f = if f = k then ch2 else c.chn f := fun f => by
   show (chO c.ab 7 ((lkM (upM c.inn c.c5 k b) f).getD 0)).getD [] = _
   rw [lkM_up]
   split
   ·simp only [Option.getD_some, b1]
   ·rfl
  refine ⟨?_, hT.st, fun id hi => ?_, fun id hi => ?_, hT.tg⟩
  ·show tadd (tadd c.al (negT n)) n = _
   rw [← hT.al]
   unfold tadd negT; rw [Prod.ext_iff]; simp only; omega
  ·rw [hfe2] at hi ⊢
   exact hT.fe id hi
  ·have hlk : lkM (((c.shift ch1 k (negT n)).setIn k b).shift ch2 k n).fo id = if id ∈ ch2 then some (tadd ((if id ∈ ch1 then some (tadd ((lkM c.fo id).getD (0, 0)) (negT n)) else lkM c.fo id).getD (0, 0)) n) else if id ∈ ch1 then some (tadd ((lkM c.fo id).getD (0, 0)) (negT n)) else lkM c.fo id := by
    show lkM (foF n ch2 (foF (negT n) ch1 c.fo c.c1).1 (foF (negT n) ch1 c.fo c.c1).2).1 id = _
    rw [foF_lk n b2, foF_lk (negT n) a3]
   have hpr : (lkM c.fo id).isSome = true := by
    rw [hlk] at hi
    by_cases h2 : id ∈ ch2
    ·rw [K.fo]; exact b4 id h2
    ·rw [if_neg h2] at hi
     by_cases h1 : id ∈ ch1
     ·rw [K.fo]; exact a4 id h1
     ·rw [if_neg h1] at hi; exact hi
   have hv := hT.fo id hpr
   rw [hlk, hv]
   have s1 := tl_split L (fun t => decide (id ∈ c.chn t.feed)) (fun t => decide (t.feed = k))
   have s2 := tl_split L (fun t => decide (id ∈ (((c.shift ch1 k (negT n)).setIn k b).shift ch2 k n).chn t.feed)) (fun t => decide (t.feed = k))
   have r1 : (tl L fun t => decide (id ∈ c.chn t.feed) && decide (t.feed = k)) = if id ∈ ch1 then n else (0, 0) := by
    split
    ·rename_i h1
     rw [← hnn]
     refine tl_congr fun t _ => ?_
     by_cases hx : t.feed = k
     ·rw [hx, a2]; simp [h1]
     ·simp [hx]
    ·rename_i h1
     refine tl_none fun t _ => ?_
     by_cases hx : t.feed = k
     ·rw [hx, a2]; simp [h1]
     ·simp [hx]
   have r2 : (tl L fun t => decide (id ∈ (((c.shift ch1 k (negT n)).setIn k b).shift ch2 k n).chn t.feed) && decide (t.feed = k)) = if id ∈ ch2 then n else (0, 0) := by
    split
    ·rename_i h1
     refine (tl_congr (q := fun t => decide (t.feed = k)) fun t _ => ?_).trans hnn
     rw [hch]
     by_cases hx : t.feed = k
     ·rw [if_pos hx]; simp [h1]
     ·simp [hx]
    ·rename_i h1
     refine tl_none fun t _ => ?_
     rw [hch]
     by_cases hx : t.feed = k
     ·rw [if_pos hx]; simp [h1]
     ·simp [hx]
   have r3 : (tl L fun t => decide (id ∈ (((c.shift ch1 k (negT n)).setIn k b).shift ch2 k n).chn t.feed) && !decide (t.feed = k)) = tl L fun t => decide (id ∈ c.chn t.feed) && !decide (t.feed = k) := by
    refine tl_congr fun t _ => ?_
    rw [hch]
    by_cases hx : t.feed = k
    ·simp [hx]
    ·rw [if_neg hx]
   rw [r1] at s1
   rw [r2, r3] at s2
   rw [s1, s2]
   unfold tadd negT
   by_cases h1 : id ∈ ch1 <;> by_cases h2 : id ∈ ch2 <;> simp only [h1, h2, if_true, if_false, Option.getD_some, Option.some.injEq] <;> rw [Prod.ext_iff] <;> simp only <;> omega
 ·show lkM (upM c.inn c.c5 k b) id = _
  rw [e2, lkM_up, lkM_up]
  split
  ·rfl
  ·exact K.inn id
 ·show (lkM (upM (upM c.fe c.c2 k _) (ckM c.fe c.c2 k) k _) id).isSome = _
  rw [e2, lkM_up, lkM_up, lkM_up]
  split
  ·rfl
  ·exact K.fe id
 ·show (lkM (foF _ ch2 (foF _ ch1 c.fo c.c1).1 _).1 id).isSome = _
  rw [foF_lk _ b2, foF_lk _ a3, e1]
  split
  ·rename_i h2; rw [b4 id h2]; rfl
  ·split
   ·rename_i h1; rw [a4 id h1]; rfl
   ·exact K.fo id
theorem Kp.pt (K : Kp c s) (h : s.Inv) {k : Int} {t : It} {s' : PS} (h' : s'.Inv) (e1 : s'.fo = s.fo) (e2 : s'.fe = s.fe) (e3 : s'.it = upM s.it s.c3 k t) : Kp (c.putF t) s' := by
 have hk : lkM s'.it k = some t := by rw [e3, lkM_up, if_pos rfl]
 have hid := (h'.i3 _ _ hk).1
 have hf := h'.u3 _ _ hk
 rw [e2] at hf
 have htg := h'.tg _ _ hk
 have r := K.rdy h hf htg.1
 have hlen : c.it.length < 1024 ∨ (lkM c.it t.id).isSome = true := by
  rw [hid, K.it]
  cases hs : (lkM s.it k).isSome with
  | true => exact .inr rfl
  | false =>
   left
   have h1 := h'.l3
   rw [e3, upM_len, hs] at h1
   simp only [Bool.false_eq_true, if_false] at h1
   have h2 : c.it.length = s.it.length := by
    have p : (c.it.map (·.1)).Perm (s.it.map (·.1)) := by
     rw [List.perm_ext_iff_of_nodup K.wf.w4.keys h.w3.keys]
     intro x
     have hb : ∀ {l : ML Int It}, x ∈ l.map (·.1) ↔ (lkM l x).isSome = true := fun {l} => by
      constructor
      ·intro hm
       cases hq : (lkM l x).isSome with
       | true => rfl
       | false => exact (lkM_key hq hm).elim
      ·intro hq
       obtain ⟨a, ha⟩ := Option.isSome_iff_exists.1 hq
       obtain ⟨n, hn⟩ := lkM_mem ha
       exact List.mem_map.2 ⟨_, hn, rfl⟩
     rw [hb, hb, K.it]
    have := p.length_eq
    simpa using this
   omega
 obtain ⟨o, _, q1, q2, q3, q4, q5⟩ := (K.own h).putF r htg.2 hlen
 refine ⟨o.wf, o.tal, fun id => ?_, fun id => by rw [q2, e2]; exact K.inn id, fun id => by rw [q3, e1]; exact K.ab id, fun id => by rw [q4, e2]; exact K.fe id, fun id => by rw [q5, e1]; exact K.fo id, o.len⟩
 rw [q1, e3, lkM_up, lkM_up, hid]
 split
 ·rfl
 ·exact K.it id
theorem Kp.same (K : Kp c s) {s' : PS} (e1 : ∀ id, lkM s'.fo id = lkM s.fo id) (e2 : ∀ id, (lkM s'.fe id).map (·.inn) = (lkM s.fe id).map (·.inn)) (e3 : ∀ id, lkM s'.it id = lkM s.it id) : Kp c s' :=
 ⟨K.wf, K.tal, fun id => by rw [e3]; exact K.it id, fun id => by rw [e2]; exact K.inn id, fun id => by rw [e1]; exact K.ab id, fun id => by
  rw [K.fe id]
  have := congrArg Option.isSome (e2 id)
  simpa using this.symm, fun id => by rw [e1]; exact K.fo id, K.len⟩
end Go.Av
namespace Go.Av
open Go Go.Proofs Go.RowKit
attribute [local irreducible] WP WPl WPix Sat
set_option maxRecDepth 100000
set_option maxHeartbeats 4000000
variable (G : Nat → Option (List AVal))
def CS.mkFo (c : CS) (f : Fo) : CS := { c with fo := upM c.fo c.c1 f.id (0, 0), c1 := ckM c.fo c.c1 f.id, ab := upM c.ab c.c6 f.id f.inn, c6 := ckM c.ab c.c6 f.id }
def CS.mkFe (c : CS) (f : Fe) : CS := { c with fe := upM c.fe c.c2 f.id (0, 0), c2 := ckM c.fe c.c2 f.id, inn := upM c.inn c.c5 f.id f.inn, c5 := ckM c.inn c.c5 f.id }
def CS.of0 (x : St) : CS := x.fe.foldl CS.mkFe (x.fo.foldl CS.mkFo CS.z)
def CS.ofSt (x : St) : CS := x.it.foldl CS.putF (CS.of0 x)
theorem foldl_take {α β : Type} (f : β → α → β) (l : List α) (b : β) {k : Nat} {y : α} (h : l[k]? = some y) : (l.take (k + 1)).foldl f b = f ((l.take k).foldl f b) y := by
 rw [List.take_add_one, List.foldl_append, h]; rfl
theorem CSNew_sat (x : St) (sp : AVal) (h : Heap) (hT : ∀ j, Sat (CT G) 22 [sp] (h ++ j) (fun r h' => r = x.av ∧ h' = h ++ j))
  (hP : ∀ (k : Nat) (t : It), x.it[k]? = some t → ((x.it.take k).foldl CS.putF (CS.of0 x)).Own ∧ Rdy ((x.it.take k).foldl CS.putF (CS.of0 x)) t ∧ t.tags.length ≤ 8)
  (l1 : x.fo.length ≤ 100000) (l2 : x.fe.length ≤ 100000) (l3 : x.it.length ≤ 100000) :
  Sat (CT G) 12 [sp] h (fun r h' => r = .hp (h.length + 6) 0 0 0 ∧ h' = co (h ++ CS.z.bl h.length) h.length (CS.ofSt x)) := by
 have hz7 : (CS.z.bl h.length).length = 7 := rfl
 have hm : h.length + 7 ≤ (h ++ CS.z.bl h.length).length := by simp [hz7]
 have hcoz : ∀ j, co ((h ++ CS.z.bl h.length) ++ j) h.length CS.z = (h ++ CS.z.bl h.length) ++ j := fun j => by rw [← co_app hm, ← co_z]
 generalize hH : h ++ CS.z.bl h.length = H0 at hm hcoz ⊢
 have hl0 : H0.length = h.length + 7 := by rw [← hH]; simp [hz7]
 refine sb [.tmp 2] (fn := Tryz.f12) Tryz.func12 ?_
 intro Q hQ
 refine wk trivial ?_
 refine kq trivial (hT _) ?_
 refine lm (fun nL tL hL => ∃ (k : Nat) (j : Heap), x.fo.length - k = nL ∧ co (H0 ++ j) h.length ((x.fo.take k).foldl CS.mkFo CS.z) = hL ∧ tL 3 = .hp (h.length + 6) 0 0 0 ∧ tL 4 = .hp (h.length + 7) 0 0 0 ∧ tL 22 = .sl 3 (x.fo.map Fo.av) ∧ tL 23 = .int .i64 (x.fo.length : Int) ∧ tL 24 = .int .i64 k ∧ k ≤ x.fo.length ∧ getRow (H0 ++ j) (h.length + 7) 0 = some (34, 9, [x.av])) ((fun (k : Nat) (j : Heap) => (x.fo.length - k : Nat)) (0) ([.row 34 9 0 [x.av]])) ?_ ?_
 ·refine Wkn.refl ⟨0, [.row 34 9 0 [x.av]], rfl, by rw [List.take_zero, List.foldl_nil, hcoz, ← hH]; simp [CS.bl, CS.z, encM, CS.row, St.av], ?_, ?_, ?_, ?_, ?_, by omega, by rw [gs_new0 _ (by omega)]; rfl⟩
  all_goals first | exact zq trivial | rfl | omega | trivial | skip
 rintro _ s2 h' ⟨k, j, rfl, rfl, e3, e4, e22, e23, e24, hk, hg⟩ K2 hK2
 simp only [mix_cons, mix_nil, Nat.reduceEqDiff, ↓reduceIte] at e3 e4 e22 e23 e24
 have F := F5 e3 e4 e22 e23 e24
 refine wk F ?_
 refine cq F (fun c1 => ?_) (fun c1 => ?_) <;> (try exact c1.elim) <;> (refine wk F ?_)
 ·have c2 : k < x.fo.length := by omega
  obtain ⟨f, hf, _⟩ := getElem?_of_lt c2
  have F := F4 F c2 hf hg
  try refine sq F ?_
  refine wk F ?_
  refine hK2 _ _ _ (Wkn.refl ⟨k + 1, j ++ [.row 53 3 0 [f.av]], rfl, by rw [foldl_take _ _ _ hf]; rfl, ?_, ?_, ?_, ?_, ?_, by omega, by rw [← List.append_assoc, gs_old _ (gr_lt hg)]; exact hg⟩) (by omega)
  all_goals first | exact zq F | rfl | omega | trivial | skip
 have hk1 : k = x.fo.length := by omega
 subst hk1
 rw [List.take_length]
 have F := F2 F hg
 try refine sq F ?_
 refine wk F ?_
 refine lm (fun nL tL hL => ∃ (k : Nat) (j : Heap), x.fe.length - k = nL ∧ co (H0 ++ j) h.length ((x.fe.take k).foldl CS.mkFe (x.fo.foldl CS.mkFo CS.z)) = hL ∧ tL 3 = .hp (h.length + 6) 0 0 0 ∧ tL 4 = .hp (h.length + 7) 0 0 0 ∧ tL 45 = .sl 4 (x.fe.map Fe.av) ∧ tL 46 = .int .i64 (x.fe.length : Int) ∧ tL 47 = .int .i64 k ∧ k ≤ x.fe.length ∧ getRow (H0 ++ j) (h.length + 7) 0 = some (34, 9, [x.av])) ((fun (k : Nat) (j : Heap) => (x.fe.length - k : Nat)) (0) (j)) ?_ ?_
 ·refine Wkn.refl ⟨0, j, rfl, by rw [List.take_zero, List.foldl_nil], ?_, ?_, ?_, ?_, ?_, by omega, hg⟩
  all_goals first | exact zq F | rfl | omega | trivial | skip
 rintro _ s3 h' ⟨k, j, rfl, rfl, e3, e4, e45, e46, e47, hk, hg⟩ K3 hK3
 simp only [mix_cons, mix_nil, Nat.reduceEqDiff, ↓reduceIte] at e3 e4 e45 e46 e47
 have F := F6 F e3 e4 e45 e46 e47
 refine wk F ?_
 refine cq F (fun c1 => ?_) (fun c1 => ?_) <;> (try exact c1.elim) <;> (refine wk F ?_)
 ·have c2 : k < x.fe.length := by omega
  obtain ⟨f, hf, _⟩ := getElem?_of_lt c2
  have F := F4 F c2 hf hg
  try refine sq F ?_
  refine wk F ?_
  refine hK3 _ _ _ (Wkn.refl ⟨k + 1, j ++ [.row 51 4 0 [f.av]], rfl, by rw [foldl_take _ _ _ hf]; rfl, ?_, ?_, ?_, ?_, ?_, by omega, by rw [← List.append_assoc, gs_old _ (gr_lt hg)]; exact hg⟩) (by omega)
  all_goals first | exact zq F | rfl | omega | trivial | skip
 have hk1 : k = x.fe.length := by omega
 subst hk1
 rw [List.take_length]
 have F := F2 F hg
 try refine sq F ?_
 refine wk F ?_
 refine lm (fun nL tL hL => ∃ (k : Nat) (j : Heap), x.it.length - k = nL ∧ co (H0 ++ j) h.length ((x.it.take k).foldl CS.putF (CS.of0 x)) = hL ∧ tL 3 = .hp (h.length + 6) 0 0 0 ∧ tL 68 = .sl 9 (x.it.map It.av) ∧ tL 69 = .int .i64 (x.it.length : Int) ∧ tL 70 = .int .i64 k ∧ k ≤ x.it.length) ((fun (k : Nat) (j : Heap) => (x.it.length - k : Nat)) (0) (j)) ?_ ?_
 ·refine Wkn.refl ⟨0, j, rfl, by rw [List.take_zero, List.foldl_nil]; rfl, ?_, ?_, ?_, ?_, by omega⟩
  all_goals first | exact zq F | rfl | omega | trivial | skip
 rintro _ s4 h' ⟨k, j, rfl, rfl, e3, e68, e69, e70, hk⟩ K4 hK4
 simp only [mix_cons, mix_nil, Nat.reduceEqDiff, ↓reduceIte] at e3 e68 e69 e70
 have F := F5 F e3 e68 e69 e70
 refine wk F ?_
 refine cq F (fun c1 => ?_) (fun c1 => ?_) <;> (try exact c1.elim) <;> (refine wk F ?_)
 ·have c2 : k < x.it.length := by omega
  obtain ⟨f, hf, _⟩ := getElem?_of_lt c2
  obtain ⟨p1, p2, p3⟩ := hP k f hf
  have F := F3 F c2 hf
  try refine sq F ?_
  refine wk F ?_
  refine kq F (CSput_sat G _ p1 f p2 p3 (by first | omega | (simp; omega))) ?_
  refine hK4 _ _ _ (Wkn.refl ⟨k + 1, j ++ [.row 82 9 0 [f.av]], rfl, by rw [foldl_take _ _ _ hf]; rfl, ?_, ?_, ?_, ?_, by omega⟩) (by omega)
  all_goals first | exact zq F | rfl | omega | trivial | skip
 have hk1 : k = x.it.length := by omega
 subst hk1
 rw [List.take_length]
 try refine sq F ?_
 refine wk F ?_
 refine ee hQ F ?_
 rw [← co_app hm]
 refine Fin.upto (by rw [co_len hm]; omega) ?_ (.hp _ _ _ _ (by rw [co_len hm]; omega)) ⟨rfl, rfl⟩
 rw [co_len hm]
 have := co_z h (x.it.foldl CS.putF (CS.of0 x))
 rw [hH] at this
 rw [← this]
 exact (KeepC.refl h _).app (CS.clo hm _)
end Go.Av
