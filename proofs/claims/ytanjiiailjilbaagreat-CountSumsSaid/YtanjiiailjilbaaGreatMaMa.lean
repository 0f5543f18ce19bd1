/- All counts are the sum of the feeds'; a folder's are those of the feeds and folders straight within it: for every list of events the call returns true, and its argument reads as before. -/
import Derived.Test.YtanjiiailjilbaaGreatMaCj
import Derived.Test.YtanjiiailjilbaaGreatMaPa
import Derived.Test.YtanjiiailjilbaaGreatMaHd
set_option linter.unusedSimpArgs false
set_option linter.unusedVariables false
set_option linter.unusedSectionVars false
set_option linter.unnecessarySimpa false
namespace Go.Av
open Go Go.Proofs Go.RowKit
set_option maxHeartbeats 1000000
theorem chO_uniq {ab : ML Int Int} : ∀ {k : Nat} {id : Int} {l : List Int}, chO ab k id = some l → ∀ {k' : Nat} {l' : List Int}, chO ab k' id = some l' → l = l' := by
 intro k
 induction k with
 | zero =>
  intro id l h k' l' h'
  rw [chO] at h
  split at h
  ·rename_i h0
   cases h
   cases k' with
   | zero => rw [chO, if_pos h0] at h'; cases h'; rfl
   | succ k' => rw [chO, if_pos h0] at h'; cases h'; rfl
  ·cases h
 | succ k ih =>
  intro id l h k' l' h'
  rw [chO] at h
  split at h
  ·rename_i h0
   cases h
   cases k' with
   | zero => rw [chO, if_pos h0] at h'; cases h'; rfl
   | succ k' => rw [chO, if_pos h0] at h'; cases h'; rfl
  ·rename_i h0
   simp only [Option.map_eq_some_iff] at h
   obtain ⟨r, hr, rfl⟩ := h
   cases k' with
   | zero => rw [chO, if_neg h0] at h'; cases h'
   | succ k' =>
    rw [chO, if_neg h0] at h'
    simp only [Option.map_eq_some_iff] at h'
    obtain ⟨r', hr', rfl⟩ := h'
    rw [ih hr hr']
theorem chO_sub {ab : ML Int Int} : ∀ {k : Nat} {id : Int} {l : List Int}, chO ab k id = some l → ∀ x ∈ l, ∃ k' l', chO ab k' x = some l' ∧ l'.length ≤ l.length := by
 intro k
 induction k with
 | zero =>
  intro id l h x hx
  rw [chO] at h
  split at h
  ·cases h; cases hx
  ·cases h
 | succ k ih =>
  intro id l h x hx
  have h2 := h
  rw [chO] at h
  split at h
  ·cases h; cases hx
  ·simp only [Option.map_eq_some_iff] at h
   obtain ⟨r, hr, rfl⟩ := h
   rcases List.mem_cons.1 hx with rfl | hx
   ·exact ⟨k + 1, _, h2, Nat.le_refl _⟩
   ·obtain ⟨k', l', h3, h4⟩ := ih hr x hx
    exact ⟨k', l', h3, Nat.le_trans h4 (by simp)⟩
theorem chO_nodup {ab : ML Int Int} : ∀ {k : Nat} {id : Int} {l : List Int}, chO ab k id = some l → l.Nodup := by
 intro k
 induction k with
 | zero =>
  intro id l h
  rw [chO] at h
  split at h
  ·cases h; simp
  ·cases h
 | succ k ih =>
  intro id l h
  have h2 := h
  rw [chO] at h
  split at h
  ·cases h; simp
  ·simp only [Option.map_eq_some_iff] at h
   obtain ⟨r, hr, rfl⟩ := h
   rw [List.nodup_cons]
   refine ⟨fun hm => ?_, ih hr⟩
   obtain ⟨k', l', h3, h4⟩ := chO_sub hr id hm
   have := chO_uniq h2 h3
   rw [← this] at h4
   simp at h4; omega
theorem chO_congr {ab ab' : ML Int Int} (P : Int → Prop) (h : ∀ id, P id → lkM ab' id = lkM ab id) (hc : ∀ id, P id → id ≠ 0 → P ((lkM ab id).getD 0)) : ∀ (k : Nat) (id : Int), P id → chO ab' k id = chO ab k id := by
 intro k
 induction k with
 | zero => intro id hp; rw [chO, chO]
 | succ k ih =>
  intro id hp
  rw [chO, chO, h id hp]
  split
  ·rfl
  ·rename_i h0; rw [ih _ (hc id hp h0)]
theorem chain_of {ab : ML Int Int} {fo : ML Int Fo} (hab : ∀ id, lkM ab id = (lkM fo id).map (·.inn)) (hu : ∀ k f, lkM fo k = some f → f.inn = 0 ∨ (lkM fo f.inn).isSome = true) (h0 : lkM fo 0 = none) :
  ∀ (k : Nat) (id : Int) (d : Nat), (id = 0 ∨ (lkM fo id).isSome = true) → deepO fo k id = some d → ∃ l, chO ab k id = some l ∧ l.length = d ∧ ∀ x ∈ l, (lkM fo x).isSome = true := by
 intro k
 induction k with
 | zero =>
  intro id d hi hd
  rw [deepO] at hd
  split at hd
  ·cases hd
  ·rename_i hs
   cases hd
   have : id = 0 := hi.resolve_right hs
   exact ⟨[], by rw [chO, if_pos this], rfl, fun x hx => by cases hx⟩
 | succ k ih =>
  intro id d hi hd
  rw [deepO] at hd
  by_cases hz : id = 0
  ·subst hz
   rw [h0] at hd
   simp only at hd
   cases hd
   exact ⟨[], by rw [chO, if_pos rfl], rfl, fun x hx => by cases hx⟩
  ·obtain ⟨f, hf⟩ := Option.isSome_iff_exists.1 (hi.resolve_left hz)
   rw [hf] at hd
   simp only [Option.map_eq_some_iff] at hd
   obtain ⟨j, hj, rfl⟩ := hd
   obtain ⟨l, h1, h2, h3⟩ := ih f.inn j (hu id f hf) hj
   refine ⟨id :: l, ?_, by simp [h2], fun x hx => ?_⟩
   ·rw [chO, if_neg hz, hab, hf]
    simp only [Option.map_some, Option.getD_some, h1]
   ·rcases List.mem_cons.1 hx with rfl | hx
    ·rw [hf]; rfl
    ·exact h3 x hx
structure Kp (c : CS) (s : PS) : Prop where
 wf : c.Wf
 tal : Tal c (c.it.map (·.2.1))
 it : ∀ id, lkM c.it id = lkM s.it id
 inn : ∀ id, lkM c.inn id = (lkM s.fe id).map (·.inn)
 ab : ∀ id, lkM c.ab id = (lkM s.fo id).map (·.inn)
 fe : ∀ id, (lkM c.fe id).isSome = (lkM s.fe id).isSome
 fo : ∀ id, (lkM c.fo id).isSome = (lkM s.fo id).isSome
 len : c.it.length ≤ 1024
variable {c d : CS} {s : PS} {e : Ev}
theorem Kp.chain (K : Kp c s) (h : s.Inv) {id : Int} (hi : id = 0 ∨ (lkM s.fo id).isSome = true) : ∃ l, chO c.ab 7 id = some l ∧ l.Nodup ∧ l.length ≤ 7 ∧ ∀ x ∈ l, (lkM s.fo x).isSome = true := by
 obtain ⟨d, h1, h2⟩ := h.dp id
 obtain ⟨l, h3, h4, h5⟩ := chain_of K.ab h.u1 h.no0 7 id d hi h2
 exact ⟨l, h3, chO_nodup h3, by omega, h5⟩
theorem Kp.up (K : Kp c s) (h : s.Inv) (feed : Int) : (lkM c.inn feed).getD 0 = 0 ∨ (lkM s.fo ((lkM c.inn feed).getD 0)).isSome = true := by
 rw [K.inn]
 cases hf : lkM s.fe feed with
 | none => exact .inl rfl
 | some f => exact h.u2 _ _ hf
theorem Kp.chn (K : Kp c s) (h : s.Inv) (feed : Int) : ∃ l, chO c.ab 7 ((lkM c.inn feed).getD 0) = some l ∧ c.chn feed = l ∧ l.Nodup ∧ l.length ≤ 7 ∧ ∀ x ∈ l, (lkM s.fo x).isSome = true := by
 obtain ⟨l, h1, h2, h3, h4⟩ := K.chain h (K.up h feed)
 exact ⟨l, h1, by unfold CS.chn; rw [h1]; rfl, h2, h3, h4⟩
theorem srt_nodup {l : List Bs} (h : Srt l) : l.Nodup := by
 unfold Srt at h
 refine h.imp fun {a b} hab => ?_
 rintro rfl
 rw [bl_irr] at hab; cases hab
theorem Kp.rdy (K : Kp c s) (h : s.Inv) {t : It} (hf : (lkM s.fe t.feed).isSome = true) (ht : Srt t.tags) : Rdy c t where
 fe := by rw [K.fe]; exact hf
 ch := by
  obtain ⟨l, h1, _, h2, h3, h4⟩ := K.chn h t.feed
  exact ⟨l, h1, h2, h3, fun x hx => by rw [K.fo]; exact h4 x hx⟩
 tg := srt_nodup ht
theorem Kp.own (K : Kp c s) (h : s.Inv) : c.Own where
 wf := K.wf
 tal := K.tal
 rdy := fun k t ht => by
  rw [K.it] at ht
  exact ⟨K.rdy h (h.u3 k t ht) (h.tg k t ht).1, (h.i3 k t ht).1, (h.tg k t ht).2⟩
 len := K.len
theorem Kp.mem (K : Kp c s) {t : It} (ht : t ∈ c.it.map (·.2.1)) : ∃ k, lkM s.it k = some t := by
 obtain ⟨x, hx, rfl⟩ := List.mem_map.1 ht
 exact ⟨x.1, by rw [← K.it]; exact lkM_of_mem K.wf.w4.keys (b := x.2.2) hx⟩
theorem Kp.feeds (K : Kp c s) (h : s.Inv) {t : It} (ht : t ∈ c.it.map (·.2.1)) : (lkM s.fe t.feed).isSome = true := by
 obtain ⟨k, hk⟩ := K.mem ht
 exact h.u3 k t hk
theorem Tal.re {L : List It} (h : Tal c L) (ha : d.al = c.al) (hs : d.st = c.st) (ht : d.tg = c.tg)
  (hfe : ∀ id, (lkM d.fe id).isSome = true → (lkM c.fe id).isSome = true ∧ lkM d.fe id = lkM c.fe id ∨ lkM d.fe id = some (0, 0) ∧ ∀ t ∈ L, t.feed ≠ id)
  (hfo : ∀ id, (lkM d.fo id).isSome = true → (lkM c.fo id).isSome = true ∧ lkM d.fo id = lkM c.fo id ∨ lkM d.fo id = some (0, 0) ∧ ∀ t ∈ L, id ∉ d.chn t.feed)
  (hch : ∀ t ∈ L, d.chn t.feed = c.chn t.feed) : Tal d L where
 al := by rw [ha]; exact h.al
 st := by rw [hs]; exact h.st
 fe := fun id hi => by
  rcases hfe id hi with ⟨h1, h2⟩ | ⟨h1, h2⟩
  ·rw [h2]; exact h.fe id h1
  ·rw [h1, tl_none fun t ht => by simpa using h2 t ht]
 fo := fun id hi => by
  rcases hfo id hi with ⟨h1, h2⟩ | ⟨h1, h2⟩
  ·rw [h2, h.fo id h1]; congr 1
   exact tl_congr fun t ht => by rw [hch t ht]
  ·rw [h1, tl_none fun t ht => by simpa using h2 t ht]
 tg := fun g => by rw [ht]; exact h.tg g
theorem Kp.mkFo (K : Kp c s) (h : s.Inv) (ha : 1 ≤ e.a ∧ e.a ≤ 1048576) (hn : (lkM s.fo e.a).isSome = false) (hw : s.within e.b = true) {s' : PS}
  (e1 : s'.fo = upM s.fo s.c1 e.a ⟨e.a, e.b, e.s⟩) (e2 : s'.fe = s.fe) (e3 : s'.it = s.it) :
  Kp { c with fo := upM c.fo c.c1 e.a (0, 0), c1 := ckM c.fo c.c1 e.a, ab := upM c.ab c.c6 e.a e.b, c6 := ckM c.ab c.c6 e.a } s' where
 wf := { K.wf with w1 := K.wf.w1.up _ _, w6 := K.wf.w6.up _ _ }
 it := fun id => by rw [e3]; exact K.it id
 inn := fun id => by rw [e2]; exact K.inn id
 ab := fun id => by
  show lkM (upM c.ab c.c6 e.a e.b) id = _
  rw [e1, lkM_up, lkM_up]
  split
  ·rfl
  ·exact K.ab id
 fe := fun id => by rw [e2]; exact K.fe id
 fo := fun id => by
  show (lkM (upM c.fo c.c1 e.a (0, 0)) id).isSome = _
  rw [e1, lkM_up, lkM_up]
  split
  ·rfl
  ·exact K.fo id
 len := K.len
 tal := by
  have hne : ∀ x, (x = 0 ∨ (lkM s.fo x).isSome = true) → x ≠ e.a := fun x hx => by
   rcases hx with hx | hx
   ·omega
   ·intro q; rw [q, hn] at hx; cases hx
  have hch : ∀ f, ({ c with fo := upM c.fo c.c1 e.a (0, 0), c1 := ckM c.fo c.c1 e.a, ab := upM c.ab c.c6 e.a e.b, c6 := ckM c.ab c.c6 e.a } : CS).chn f = c.chn f := fun f => by
   show (chO (upM c.ab c.c6 e.a e.b) 7 ((lkM c.inn f).getD 0)).getD [] = (chO c.ab 7 ((lkM c.inn f).getD 0)).getD []
   have hcg : ∀ id, id ≠ e.a → id ≠ 0 → (lkM c.ab id).getD 0 ≠ e.a := fun id _ _ => by
    rw [K.ab]
    cases hf : lkM s.fo id with
    | none => simp; omega
    | some g => exact hne _ (h.u1 _ _ hf)
   rw [chO_congr (fun id => id ≠ e.a) (fun id hi => by rw [lkM_up, if_neg hi]) hcg 7 _ (hne _ (K.up h f))]
  refine K.tal.re rfl rfl rfl (fun id hi => .inl ⟨hi, rfl⟩) (fun id hi => ?_) (fun t _ => hch _)
  have hi : (lkM (upM c.fo c.c1 e.a (0, 0)) id).isSome = true := hi
  show _ ∨ lkM (upM c.fo c.c1 e.a (0, 0)) id = _ ∧ _
  rw [lkM_up] at hi ⊢
  by_cases hx : id = e.a
  ·refine .inr ⟨by rw [if_pos hx], fun t _ => ?_⟩
   rw [hch]
   obtain ⟨l, _, h1, _, _, h2⟩ := K.chn h t.feed
   rw [h1, hx]
   intro hm
   rw [h2 _ hm] at hn; cases hn
  ·rw [if_neg hx] at hi
   exact .inl ⟨hi, by rw [if_neg hx]⟩
theorem Kp.unFo (K : Kp c s) (h : s.Inv) {k : Int} {f : Fo} (hk : lkM s.fo k = some f) (h0 : (lkM s.he k).getD 0 = 0) {s' : PS}
  (e1 : s'.fo = dlM s.fo k) (e2 : s'.fe = s.fe) (e3 : s'.it = s.it) : Kp { c with fo := dlM c.fo k, ab := dlM c.ab k } s' where
 wf := { K.wf with w1 := K.wf.w1.dl _, w6 := K.wf.w6.dl _ }
 it := fun id => by rw [e3]; exact K.it id
 inn := fun id => by rw [e2]; exact K.inn id
 ab := fun id => by
  show lkM (dlM c.ab k) id = _
  rw [e1, lkM_dl K.wf.w6.keys, lkM_dl h.w1.keys]
  split
  ·rfl
  ·exact K.ab id
 fe := fun id => by rw [e2]; exact K.fe id
 fo := fun id => by
  show (lkM (dlM c.fo k) id).isSome = _
  rw [e1, lkM_dl K.wf.w1.keys, lkM_dl h.w1.keys]
  split
  ·rfl
  ·exact K.fo id
 len := K.len
 tal := by
  have hk1 := (h.i1 _ _ hk).2
  have hs := h.hd k (by omega)
  have n1 := sumM_nn (inFo_nn k) s.fo
  have n2 := sumM_nn (inFe_nn k) s.fe
  have hA : ∀ j g, lkM s.fo j = some g → g.inn ≠ k := fun j g hg q => by
   have := sumM_0 (inFo_nn k) (l := s.fo) (by omega) hg
   rw [inFo, if_pos q] at this; omega
  have hB : ∀ j g, lkM s.fe j = some g → g.inn ≠ k := fun j g hg q => by
   have := sumM_0 (inFe_nn k) (l := s.fe) (by omega) hg
   rw [inFe, if_pos q] at this; omega
  have hin : ∀ f, (lkM c.inn f).getD 0 ≠ k := fun f => by
   rw [K.inn]
   cases hf : lkM s.fe f with
   | none => simp; omega
   | some g => exact hB _ _ hf
  have hch : ∀ f, ({ c with fo := dlM c.fo k, ab := dlM c.ab k } : CS).chn f = c.chn f := fun f => by
   show (chO (dlM c.ab k) 7 ((lkM c.inn f).getD 0)).getD [] = (chO c.ab 7 ((lkM c.inn f).getD 0)).getD []
   have hcg : ∀ id, id ≠ k → id ≠ 0 → (lkM c.ab id).getD 0 ≠ k := fun id _ _ => by
    rw [K.ab]
    cases hf : lkM s.fo id with
    | none => simp; omega
    | some g => exact hA _ _ hf
   rw [chO_congr (fun id => id ≠ k) (fun id hi => by rw [lkM_dl K.wf.w6.keys, if_neg hi]) hcg 7 _ (hin f)]
  refine K.tal.re rfl rfl rfl (fun id hi => .inl ⟨hi, rfl⟩) (fun id hi => ?_) (fun t _ => hch _)
  have hi : (lkM (dlM c.fo k) id).isSome = true := hi
  rw [lkM_dl K.wf.w1.keys] at hi
  split at hi
  ·cases hi
  ·rename_i hx
   refine .inl ⟨hi, ?_⟩
   show lkM (dlM c.fo k) id = _
   rw [lkM_dl K.wf.w1.keys, if_neg hx]
theorem Kp.mkFe (K : Kp c s) (h : s.Inv) (hn : (lkM s.fe e.a).isSome = false) {s' : PS} {u t : Bs}
  (e1 : s'.fo = s.fo) (e2 : s'.fe = upM s.fe s.c2 e.a ⟨e.a, e.b, u, t⟩) (e3 : s'.it = s.it) :
  Kp { c with fe := upM c.fe c.c2 e.a (0, 0), c2 := ckM c.fe c.c2 e.a, inn := upM c.inn c.c5 e.a e.b, c5 := ckM c.inn c.c5 e.a } s' where
 wf := { K.wf with w2 := K.wf.w2.up _ _, w5 := K.wf.w5.up _ _ }
 it := fun id => by rw [e3]; exact K.it id
 ab := fun id => by rw [e1]; exact K.ab id
 inn := fun id => by
  show lkM (upM c.inn c.c5 e.a e.b) id = _
  rw [e2, lkM_up, lkM_up]
  split
  ·rfl
  ·exact K.inn id
 fo := fun id => by rw [e1]; exact K.fo id
 fe := fun id => by
  show (lkM (upM c.fe c.c2 e.a (0, 0)) id).isSome = _
  rw [e2, lkM_up, lkM_up]
  split
  ·rfl
  ·exact K.fe id
 len := K.len
 tal := by
  have hne : ∀ t ∈ c.it.map (·.2.1), t.feed ≠ e.a := fun t ht q => by
   have := K.feeds h ht
   rw [q, hn] at this; cases this
  refine K.tal.re rfl rfl rfl (fun id hi => ?_) (fun id hi => .inl ⟨hi, rfl⟩) (fun t ht => ?_)
  ·have hi : (lkM (upM c.fe c.c2 e.a (0, 0)) id).isSome = true := hi
   show _ ∨ lkM (upM c.fe c.c2 e.a (0, 0)) id = _ ∧ _
   rw [lkM_up] at hi ⊢
   by_cases hx : id = e.a
   ·exact .inr ⟨by rw [if_pos hx], fun t ht => by rw [hx]; exact hne t ht⟩
   ·rw [if_neg hx] at hi
    exact .inl ⟨hi, by rw [if_neg hx]⟩
  ·show (chO c.ab 7 ((lkM (upM c.inn c.c5 e.a e.b) t.feed).getD 0)).getD [] = _
   rw [lkM_up, if_neg (hne t ht)]; rfl
theorem lk_filter {α : Type} {l : ML Int α} (hn : (l.map (·.1)).Nodup) (p : α → Bool) (x : Int) : lkM (l.filter fun e => p e.2.1) x = (lkM l x).filter p := by
 induction l with
 | nil => rfl
 | cons e l ih =>
  rw [List.map_cons, List.nodup_cons] at hn
  rw [List.filter_cons, lkM]
  by_cases hx : x = e.1
  ·rw [if_pos hx]
   cases hp : p e.2.1 with
   | true => rw [if_pos rfl, lkM, if_pos hx, Option.filter, if_pos hp]
   | false =>
    rw [if_neg (by simp), ih hn.2, hx, lkM_none hn.1]
    simp [Option.filter, hp]
  ·rw [if_neg hx, ← ih hn.2]
   split
   ·rw [lkM, if_neg hx]
   ·rfl
theorem Kp.unFe (K : Kp c s) (h : s.Inv) {k : Int} {d' : CS} (hd : Unf c (itF c.it k) d') {s' : PS}
  (e1 : s'.fo = s.fo) (e2 : s'.fe = dlM s.fe k) (e3 : s'.it = itF s.it k) : Kp (d'.less k) s' where
 wf := { hd.wf with w2 := hd.wf.w2.dl _, w5 := hd.wf.w5.dl _ }
 it := fun id => by
  show lkM d'.it id = _
  rw [hd.it, e3]
  unfold itF
  rw [lk_filter (p := fun t => !decide (t.feed = k)) K.wf.w4.keys, lk_filter (p := fun t => !decide (t.feed = k)) h.w3.keys, K.it]
 ab := fun id => by
  show lkM d'.ab id = _
  rw [hd.ab, e1]; exact K.ab id
 inn := fun id => by
  show lkM (dlM d'.inn k) id = _
  rw [lkM_dl hd.wf.w5.keys, e2, lkM_dl h.w2.keys, hd.inn]
  split
  ·rfl
  ·exact K.inn id
 fo := fun id => by
  show (lkM d'.fo id).isSome = _
  rw [hd.fo, e1]; exact K.fo id
 fe := fun id => by
  show (lkM (dlM d'.fe k) id).isSome = _
  rw [lkM_dl hd.wf.w2.keys, e2, lkM_dl h.w2.keys]
  split
  ·rfl
  ·rw [hd.fe]; exact K.fe id
 len := by
  show d'.it.length ≤ 1024
  rw [hd.it]
  exact Nat.le_trans (List.length_filter_le _ _) K.len
 tal := by
  have hne : ∀ t ∈ d'.it.map (·.2.1), t.feed ≠ k := fun t ht => by
   rw [hd.it] at ht
   obtain ⟨x, hx, rfl⟩ := List.mem_map.1 ht
   have := (List.mem_filter.1 hx).2
   simpa using this
  refine hd.tal.re (d := d'.less k) rfl rfl rfl (fun id hi => ?_) (fun id hi => .inl ⟨hi, rfl⟩) (fun t ht => ?_)
  ·have hi : (lkM (dlM d'.fe k) id).isSome = true := hi
   rw [lkM_dl hd.wf.w2.keys] at hi
   split at hi
   ·cases hi
   ·rename_i hx
    refine .inl ⟨hi, ?_⟩
    show lkM (dlM d'.fe k) id = _
    rw [lkM_dl hd.wf.w2.keys, if_neg hx]
  ·show (chO d'.ab 7 ((lkM (dlM d'.inn k) t.feed).getD 0)).getD [] = _
   rw [lkM_dl hd.wf.w5.keys, if_neg (hne t ht)]; rfl
theorem tl_split (L : List It) (p q : It → Bool) : tl L p = tadd (tl L fun t => p t && q t) (tl L fun t => p t && !q t) := by
 induction L with
 | nil => rfl
 | cons t L ih =>
  rw [tl_cons, tl_cons, tl_cons, ih]
  simp only [dlt, tadd, oneT]
  generalize (if t.read = true then (0 : Int) else 1) = r
  rcases Bool.eq_false_or_eq_true (p t) with hp | hp <;> rcases Bool.eq_false_or_eq_true (q t) with hq | hq <;> simp only [hp, hq, Bool.and_true, Bool.and_false, Bool.and_self, Bool.not_true, Bool.not_false, Bool.false_eq_true, if_true, if_false] <;> rw [Prod.ext_iff] <;> simp only <;> omega
theorem Kp.mov (K : Kp c s) (h : s.Inv) {k b : Int} {f : Fe} (hk : lkM s.fe k = some f) (hb : b = 0 ∨ (lkM s.fo b).isSome = true) {s' : PS}
  (e1 : s'.fo = s.fo) (e2 : s'.fe = upM s.fe s.c2 k { f with inn := b }) (e3 : s'.it = s.it) : Kp (c.moveF k b) s' := by
 obtain ⟨ch1, a1, a2, a3, _, a4⟩ := K.chn h k
 obtain ⟨ch2, b1, b2, _, b4⟩ := K.chain h hb
 have hfk : (lkM c.fe k).isSome = true := by rw [K.fe, hk]; rfl
 have hn := K.tal.fe k hfk
 have hmv : c.moveF k b = ((c.shift ch1 k (negT (tl (c.it.map (·.2.1)) fun t => decide (t.feed = k)))).setIn k b).shift ch2 k (tl (c.it.map (·.2.1)) fun t => decide (t.feed = k)) := by
  unfold CS.moveF; rw [a2, b1, hn]; rfl
 rw [hmv]
 have hT := K.tal
 generalize hL : c.it.map (·.2.1) = L at hT hn ⊢
 have hw := K.wf
 refine ⟨{ hw with w1 := foF_wf _ _ (foF_wf _ _ hw.w1), w2 := (hw.w2.up _ _).up _ _, w5 := hw.w5.up _ _ }, ?_, fun id => by rw [e3]; exact K.it id, fun id => ?_, fun id => by rw [e1]; exact K.ab id, fun id => ?_, fun id => ?_, K.len⟩
 ·show Tal _ (c.it.map (·.2.1))
  rw [hL]
  generalize hnn : (tl L fun t => decide (t.feed = k)) = n at *
  have hfe2 : ∀ id, lkM (((c.shift ch1 k (negT n)).setIn k b).shift ch2 k n).fe id = lkM c.fe id := fun id => by
   show lkM (upM (upM c.fe c.c2 k (tadd ((lkM c.fe k).getD (0, 0)) (negT n))) (ckM c.fe c.c2 k) k (tadd ((lkM (upM c.fe c.c2 k (tadd ((lkM c.fe k).getD (0, 0)) (negT n))) k).getD (0, 0)) n)) id = _
   rw [lkM_up, lkM_up, if_pos rfl, lkM_up]
   split
   ·rename_i hx
    rw [hx, hn]
    simp only [Option.getD_some, Option.some.injEq, tadd, negT]
    rw [Prod.ext_iff]; simp only; omega
   ·rfl
  have hch : ∀ f, (((c.shift ch1 k (negT n)).setIn k b).shift ch2 k n).chn f = if f = k then ch2 else c.chn f := fun f => by
   show (chO c.ab 7 ((lkM (upM c.inn c.c5 k b) f).getD 0)).getD [] = _
   rw [lkM_up]
   split
   ·simp only [Option.getD_some, b1]
   ·rfl
  refine ⟨?_, hT.st, fun id hi => ?_, fun id hi => ?_, hT.tg⟩
  ·show tadd (tadd c.al (negT n)) n = _
   rw [← hT.al]
   unfold tadd negT; rw [Prod.ext_iff]; simp only; omega
  ·rw [hfe2] at hi ⊢
   exact hT.fe id hi
  ·have hlk : lkM (((c.shift ch1 k (negT n)).setIn k b).shift ch2 k n).fo id = if id ∈ ch2 then some (tadd ((if id ∈ ch1 then some (tadd ((lkM c.fo id).getD (0, 0)) (negT n)) else lkM c.fo id).getD (0, 0)) n) else if id ∈ ch1 then some (tadd ((lkM c.fo id).getD (0, 0)) (negT n)) else lkM c.fo id := by
    show lkM (foF n ch2 (foF (negT n) ch1 c.fo c.c1).1 (foF (negT n) ch1 c.fo c.c1).2).1 id = _
    rw [foF_lk n b2, foF_lk (negT n) a3]
   have hpr : (lkM c.fo id).isSome = true := by
    rw [hlk] at hi
    by_cases h2 : id ∈ ch2
    ·rw [K.fo]; exact b4 id h2
    ·rw [if_neg h2] at hi
     by_cases h1 : id ∈ ch1
     ·rw [K.fo]; exact a4 id h1
     ·rw [if_neg h1] at hi; exact hi
   have hv := hT.fo id hpr
   rw [hlk, hv]
   have s1 := tl_split L (fun t => decide (id ∈ c.chn t.feed)) (fun t => decide (t.feed = k))
   have s2 := tl_split L (fun t => decide (id ∈ (((c.shift ch1 k (negT n)).setIn k b).shift ch2 k n).chn t.feed)) (fun t => decide (t.feed = k))
   have r1 : (tl L fun t => decide (id ∈ c.chn t.feed) && decide (t.feed = k)) = if id ∈ ch1 then n else (0, 0) := by
    split
    ·rename_i h1
     rw [← hnn]
     refine tl_congr fun t _ => ?_
     by_cases hx : t.feed = k
     ·rw [hx, a2]; simp [h1]
     ·simp [hx]
    ·rename_i h1
     refine tl_none fun t _ => ?_
     by_cases hx : t.feed = k
     ·rw [hx, a2]; simp [h1]
     ·simp [hx]
   have r2 : (tl L fun t => decide (id ∈ (((c.shift ch1 k (negT n)).setIn k b).shift ch2 k n).chn t.feed) && decide (t.feed = k)) = if id ∈ ch2 then n else (0, 0) := by
    split
    ·rename_i h1
     refine (tl_congr (q := fun t => decide (t.feed = k)) fun t _ => ?_).trans hnn
     rw [hch]
     by_cases hx : t.feed = k
     ·rw [if_pos hx]; simp [h1]
     ·simp [hx]
    ·rename_i h1
     refine tl_none fun t _ => ?_
     rw [hch]
     by_cases hx : t.feed = k
     ·rw [if_pos hx]; simp [h1]
     ·simp [hx]
   have r3 : (tl L fun t => decide (id ∈ (((c.shift ch1 k (negT n)).setIn k b).shift ch2 k n).chn t.feed) && !decide (t.feed = k)) = tl L fun t => decide (id ∈ c.chn t.feed) && !decide (t.feed = k) := by
    refine tl_congr fun t _ => ?_
    rw [hch]
    by_cases hx : t.feed = k
    ·simp [hx]
    ·rw [if_neg hx]
   rw [r1] at s1
   rw [r2, r3] at s2
   rw [s1, s2]
   unfold tadd negT
   by_cases h1 : id ∈ ch1 <;> by_cases h2 : id ∈ ch2 <;> simp only [h1, h2, if_true, if_false, Option.getD_some, Option.some.injEq] <;> rw [Prod.ext_iff] <;> simp only <;> omega
 ·show lkM (upM c.inn c.c5 k b) id = _
  rw [e2, lkM_up, lkM_up]
  split
  ·rfl
  ·exact K.inn id
 ·show (lkM (upM (upM c.fe c.c2 k _) (ckM c.fe c.c2 k) k _) id).isSome = _
  rw [e2, lkM_up, lkM_up, lkM_up]
  split
  ·rfl
  ·exact K.fe id
 ·show (lkM (foF _ ch2 (foF _ ch1 c.fo c.c1).1 _).1 id).isSome = _
  rw [foF_lk _ b2, foF_lk _ a3, e1]
  split
  ·rename_i h2; rw [b4 id h2]; rfl
  ·split
   ·rename_i h1; rw [a4 id h1]; rfl
   ·exact K.fo id
theorem Kp.pt (K : Kp c s) (h : s.Inv) {k : Int} {t : It} {s' : PS} (h' : s'.Inv) (e1 : s'.fo = s.fo) (e2 : s'.fe = s.fe) (e3 : s'.it = upM s.it s.c3 k t) : Kp (c.putF t) s' := by
 have hk : lkM s'.it k = some t := by rw [e3, lkM_up, if_pos rfl]
 have hid := (h'.i3 _ _ hk).1
 have hf := h'.u3 _ _ hk
 rw [e2] at hf
 have htg := h'.tg _ _ hk
 have r := K.rdy h hf htg.1
 have hlen : c.it.length < 1024 ∨ (lkM c.it t.id).isSome = true := by
  rw [hid, K.it]
  cases hs : (lkM s.it k).isSome with
  | true => exact .inr rfl
  | false =>
   left
   have h1 := h'.l3
   rw [e3, upM_len, hs] at h1
   simp only [Bool.false_eq_true, if_false] at h1
   have h2 : c.it.length = s.it.length := by
    have p : (c.it.map (·.1)).Perm (s.it.map (·.1)) := by
     rw [List.perm_ext_iff_of_nodup K.wf.w4.keys h.w3.keys]
     intro x
     have hb : ∀ {l : ML Int It}, x ∈ l.map (·.1) ↔ (lkM l x).isSome = true := fun {l} => by
      constructor
      ·intro hm
       cases hq : (lkM l x).isSome with
       | true => rfl
       | false => exact (lkM_key hq hm).elim
      ·intro hq
       obtain ⟨a, ha⟩ := Option.isSome_iff_exists.1 hq
       obtain ⟨n, hn⟩ := lkM_mem ha
       exact List.mem_map.2 ⟨_, hn, rfl⟩
     rw [hb, hb, K.it]
    have := p.length_eq
    simpa using this
   omega
 obtain ⟨o, _, q1, q2, q3, q4, q5⟩ := (K.own h).putF r htg.2 hlen
 refine ⟨o.wf, o.tal, fun id => ?_, fun id => by rw [q2, e2]; exact K.inn id, fun id => by rw [q3, e1]; exact K.ab id, fun id => by rw [q4, e2]; exact K.fe id, fun id => by rw [q5, e1]; exact K.fo id, o.len⟩
 rw [q1, e3, lkM_up, lkM_up, hid]
 split
 ·rfl
 ·exact K.it id
theorem Kp.same (K : Kp c s) {s' : PS} (e1 : ∀ id, lkM s'.fo id = lkM s.fo id) (e2 : ∀ id, (lkM s'.fe id).map (·.inn) = (lkM s.fe id).map (·.inn)) (e3 : ∀ id, lkM s'.it id = lkM s.it id) : Kp c s' :=
 ⟨K.wf, K.tal, fun id => by rw [e3]; exact K.it id, fun id => by rw [e2]; exact K.inn id, fun id => by rw [e1]; exact K.ab id, fun id => by
  rw [K.fe id]
  have := congrArg Option.isSome (e2 id)
  simpa using this.symm, fun id => by rw [e1]; exact K.fo id, K.len⟩
end Go.Av
namespace Go.Av
open Go Go.Proofs Go.RowKit
attribute [local irreducible] WP WPl WPix Sat
set_option maxRecDepth 100000
set_option maxHeartbeats 4000000
variable (G : Nat → Option (List AVal))
def CS.mkFo (c : CS) (f : Fo) : CS := { c with fo := upM c.fo c.c1 f.id (0, 0), c1 := ckM c.fo c.c1 f.id, ab := upM c.ab c.c6 f.id f.inn, c6 := ckM c.ab c.c6 f.id }
def CS.mkFe (c : CS) (f : Fe) : CS := { c with fe := upM c.fe c.c2 f.id (0, 0), c2 := ckM c.fe c.c2 f.id, inn := upM c.inn c.c5 f.id f.inn, c5 := ckM c.inn c.c5 f.id }
def CS.of0 (x : St) : CS := x.fe.foldl CS.mkFe (x.fo.foldl CS.mkFo CS.z)
def CS.ofSt (x : St) : CS := x.it.foldl CS.putF (CS.of0 x)
theorem foldl_take {α β : Type} (f : β → α → β) (l : List α) (b : β) {k : Nat} {y : α} (h : l[k]? = some y) : (l.take (k + 1)).foldl f b = f ((l.take k).foldl f b) y := by
 rw [List.take_add_one, List.foldl_append, h]; rfl
theorem CSNew_sat (x : St) (sp : AVal) (h : Heap) (hT : ∀ j, Sat (CT G) 22 [sp] (h ++ j) (fun r h' => r = x.av ∧ h' = h ++ j))
  (hP : ∀ (k : Nat) (t : It), x.it[k]? = some t → ((x.it.take k).foldl CS.putF (CS.of0 x)).Own ∧ Rdy ((x.it.take k).foldl CS.putF (CS.of0 x)) t ∧ t.tags.length ≤ 8)
  (l1 : x.fo.length ≤ 100000) (l2 : x.fe.length ≤ 100000) (l3 : x.it.length ≤ 100000) :
  Sat (CT G) 12 [sp] h (fun r h' => r = .hp (h.length + 6) 0 0 0 ∧ h' = co (h ++ CS.z.bl h.length) h.length (CS.ofSt x)) := by
 have hz7 : (CS.z.bl h.length).length = 7 := rfl
 have hm : h.length + 7 ≤ (h ++ CS.z.bl h.length).length := by simp [hz7]
 have hcoz : ∀ j, co ((h ++ CS.z.bl h.length) ++ j) h.length CS.z = (h ++ CS.z.bl h.length) ++ j := fun j => by rw [← co_app hm, ← co_z]
 generalize hH : h ++ CS.z.bl h.length = H0 at hm hcoz ⊢
 have hl0 : H0.length = h.length + 7 := by rw [← hH]; simp [hz7]
 refine sb [.tmp 2] (fn := Tryz.f12) Tryz.func12 ?_
 intro Q hQ
 refine wk trivial ?_
 refine kq trivial (hT _) ?_
 refine lm (fun nL tL hL => ∃ (k : Nat) (j : Heap), x.fo.length - k = nL ∧ co (H0 ++ j) h.length ((x.fo.take k).foldl CS.mkFo CS.z) = hL ∧ tL 3 = .hp (h.length + 6) 0 0 0 ∧ tL 4 = .hp (h.length + 7) 0 0 0 ∧ tL 22 = .sl 3 (x.fo.map Fo.av) ∧ tL 23 = .int .i64 (x.fo.length : Int) ∧ tL 24 = .int .i64 k ∧ k ≤ x.fo.length ∧ getRow (H0 ++ j) (h.length + 7) 0 = some (34, 9, [x.av])) ((fun (k : Nat) (j : Heap) => (x.fo.length - k : Nat)) (0) ([.row 34 9 0 [x.av]])) ?_ ?_
 ·refine Wkn.refl ⟨0, [.row 34 9 0 [x.av]], rfl, by rw [List.take_zero, List.foldl_nil, hcoz, ← hH]; simp [CS.bl, CS.z, encM, CS.row, St.av], ?_, ?_, ?_, ?_, ?_, by omega, by rw [gs_new0 _ (by omega)]; rfl⟩
  all_goals first | exact zq trivial | rfl | omega | trivial | skip
 rintro _ s2 h' ⟨k, j, rfl, rfl, e3, e4, e22, e23, e24, hk, hg⟩ K2 hK2
 simp only [mix_cons, mix_nil, Nat.reduceEqDiff, ↓reduceIte] at e3 e4 e22 e23 e24
 have F := F5 e3 e4 e22 e23 e24
 refine wk F ?_
 refine cq F (fun c1 => ?_) (fun c1 => ?_) <;> (try exact c1.elim) <;> (refine wk F ?_)
 ·have c2 : k < x.fo.length := by omega
  obtain ⟨f, hf, _⟩ := getElem?_of_lt c2
  have F := F4 F c2 hf hg
  try refine sq F ?_
  refine wk F ?_
  refine hK2 _ _ _ (Wkn.refl ⟨k + 1, j ++ [.row 53 3 0 [f.av]], rfl, by rw [foldl_take _ _ _ hf]; rfl, ?_, ?_, ?_, ?_, ?_, by omega, by rw [← List.append_assoc, gs_old _ (gr_lt hg)]; exact hg⟩) (by omega)
  all_goals first | exact zq F | rfl | omega | trivial | skip
 have hk1 : k = x.fo.length := by omega
 subst hk1
 rw [List.take_length]
 have F := F2 F hg
 try refine sq F ?_
 refine wk F ?_
 refine lm (fun nL tL hL => ∃ (k : Nat) (j : Heap), x.fe.length - k = nL ∧ co (H0 ++ j) h.length ((x.fe.take k).foldl CS.mkFe (x.fo.foldl CS.mkFo CS.z)) = hL ∧ tL 3 = .hp (h.length + 6) 0 0 0 ∧ tL 4 = .hp (h.length + 7) 0 0 0 ∧ tL 45 = .sl 4 (x.fe.map Fe.av) ∧ tL 46 = .int .i64 (x.fe.length : Int) ∧ tL 47 = .int .i64 k ∧ k ≤ x.fe.length ∧ getRow (H0 ++ j) (h.length + 7) 0 = some (34, 9, [x.av])) ((fun (k : Nat) (j : Heap) => (x.fe.length - k : Nat)) (0) (j)) ?_ ?_
 ·refine Wkn.refl ⟨0, j, rfl, by rw [List.take_zero, List.foldl_nil], ?_, ?_, ?_, ?_, ?_, by omega, hg⟩
  all_goals first | exact zq F | rfl | omega | trivial | skip
 rintro _ s3 h' ⟨k, j, rfl, rfl, e3, e4, e45, e46, e47, hk, hg⟩ K3 hK3
 simp only [mix_cons, mix_nil, Nat.reduceEqDiff, ↓reduceIte] at e3 e4 e45 e46 e47
 have F := F6 F e3 e4 e45 e46 e47
 refine wk F ?_
 refine cq F (fun c1 => ?_) (fun c1 => ?_) <;> (try exact c1.elim) <;> (refine wk F ?_)
 ·have c2 : k < x.fe.length := by omega
  obtain ⟨f, hf, _⟩ := getElem?_of_lt c2
  have F := F4 F c2 hf hg
  try refine sq F ?_
  refine wk F ?_
  refine hK3 _ _ _ (Wkn.refl ⟨k + 1, j ++ [.row 51 4 0 [f.av]], rfl, by rw [foldl_take _ _ _ hf]; rfl, ?_, ?_, ?_, ?_, ?_, by omega, by rw [← List.append_assoc, gs_old _ (gr_lt hg)]; exact hg⟩) (by omega)
  all_goals first | exact zq F | rfl | omega | trivial | skip
 have hk1 : k = x.fe.length := by omega
 subst hk1
 rw [List.take_length]
 have F := F2 F hg
 try refine sq F ?_
 refine wk F ?_
 refine lm (fun nL tL hL => ∃ (k : Nat) (j : Heap), x.it.length - k = nL ∧ co (H0 ++ j) h.length ((x.it.take k).foldl CS.putF (CS.of0 x)) = hL ∧ tL 3 = .hp (h.length + 6) 0 0 0 ∧ tL 68 = .sl 9 (x.it.map It.av) ∧ tL 69 = .int .i64 (x.it.length : Int) ∧ tL 70 = .int .i64 k ∧ k ≤ x.it.length) ((fun (k : Nat) (j : Heap) => (x.it.length - k : Nat)) (0) (j)) ?_ ?_
 ·refine Wkn.refl ⟨0, j, rfl, by rw [List.take_zero, List.foldl_nil]; rfl, ?_, ?_, ?_, ?_, by omega⟩
  all_goals first | exact zq F | rfl | omega | trivial | skip
 rintro _ s4 h' ⟨k, j, rfl, rfl, e3, e68, e69, e70, hk⟩ K4 hK4
 simp only [mix_cons, mix_nil, Nat.reduceEqDiff, ↓reduceIte] at e3 e68 e69 e70
 have F := F5 F e3 e68 e69 e70
 refine wk F ?_
 refine cq F (fun c1 => ?_) (fun c1 => ?_) <;> (try exact c1.elim) <;> (refine wk F ?_)
 ·have c2 : k < x.it.length := by omega
  obtain ⟨f, hf, _⟩ := getElem?_of_lt c2
  obtain ⟨p1, p2, p3⟩ := hP k f hf
  have F := F3 F c2 hf
  try refine sq F ?_
  refine wk F ?_
  refine kq F (CSput_sat G _ p1 f p2 p3 (by first | omega | (simp; omega))) ?_
  refine hK4 _ _ _ (Wkn.refl ⟨k + 1, j ++ [.row 82 9 0 [f.av]], rfl, by rw [foldl_take _ _ _ hf]; rfl, ?_, ?_, ?_, ?_, by omega⟩) (by omega)
  all_goals first | exact zq F | rfl | omega | trivial | skip
 have hk1 : k = x.it.length := by omega
 subst hk1
 rw [List.take_length]
 try refine sq F ?_
 refine wk F ?_
 refine ee hQ F ?_
 rw [← co_app hm]
 refine Fin.upto (by rw [co_len hm]; omega) ?_ (.hp _ _ _ _ (by rw [co_len hm]; omega)) ⟨rfl, rfl⟩
 rw [co_len hm]
 have := co_z h (x.it.foldl CS.putF (CS.of0 x))
 rw [hH] at this
 rw [← this]
 exact (KeepC.refl h _).app (CS.clo hm _)
end Go.Av
namespace Go.Av
open Go Go.Proofs Go.RowKit
set_option maxHeartbeats 1000000
variable {c d : CS} {s : PS} {e : Ev}
theorem Kp.step {L : Leaf} (K : Kp c s) (h : s.Inv) (hok : s.ok L e = true) (hR : StepR c e ((lkM (s.aft e).it e.a).getD It.z) (lkM (s.aft e).it e.a).isSome d) : Kp d (s.aft e) := by
 have hI : (s.aft e).Inv := by have := h.step (L := L) e; unfold PS.step at this; rw [if_pos hok] at this; exact this
 unfold PS.ok PS.fits at hok
 rw [Bool.and_eq_true] at hok
 obtain ⟨hck, hf⟩ := hok
 have hr : L.right e = true := by unfold Leaf.ck at hck; simp only [Bool.and_eq_true] at hck; exact hck.1
 have ha : e.kind ≠ 13 → 1 ≤ e.a ∧ e.a ≤ 1048576 := fun hk => right_id hr hk
 unfold StepR at hR
 have hat : s.aft e = s.after (tgF ((lkM s.it e.a).getD It.z).tags e.s e.n) e := rfl
 unfold PS.after at hat
 by_cases k1 : e.kind = 1
 ·rw [if_pos k1] at hf hR
  simp only [Bool.and_eq_true, Bool.not_eq_true', decide_eq_true_eq, beq_iff_eq] at hf
  rw [if_neg (by omega), if_neg (by omega), if_neg (by omega), if_neg (by omega), if_neg (by omega), if_neg (by omega), if_neg (by omega), if_neg (by omega), if_neg (by omega), PS.make, if_pos k1, hold_eq] at hat
  rw [hR, hat]
  exact K.mkFo h (ha (by omega)) hf.1.1.1.1 hf.1.1.2 rfl rfl rfl
 rw [if_neg k1] at hf hR
 by_cases k2 : e.kind = 2
 ·rw [if_pos k2] at hf hat hR
  simp only [Bool.and_eq_true, beq_iff_eq] at hf
  obtain ⟨f, hfo⟩ := some_of hf.1
  rw [hold_eq] at hat
  rw [hR, hat]
  exact K.unFo h hfo hf.2 rfl rfl rfl
 rw [if_neg k2] at hf hat hR
 by_cases k3 : e.kind = 3
 ·rw [if_pos k3] at hf hR
  simp only [Bool.and_eq_true, Bool.not_eq_true', decide_eq_true_eq, beq_iff_eq] at hf
  rw [if_neg (by omega), if_neg (by omega), if_neg (by omega), if_neg (by omega), if_neg (by omega), if_neg (by omega), if_neg (by omega), if_neg (by omega), PS.make, if_neg (by omega), if_pos k3, hold_eq] at hat
  rw [hR, hat]
  exact K.mkFe h hf.1.1.1 rfl rfl rfl
 rw [if_neg k3] at hf hR
 by_cases k4 : e.kind = 4
 ·rw [if_pos (.inl k4)] at hf
  rw [if_pos k4] at hat hR
  obtain ⟨f, hfo⟩ := some_of hf
  obtain ⟨d', hd, rfl⟩ := hR
  rw [hfo, Option.getD_some, PS.unfeed, hold_eq, (h.i2 _ _ hfo).1] at hat
  rw [hat]
  exact K.unFe h hd rfl rfl rfl
 rw [if_neg k4] at hat hR
 by_cases k5 : e.kind = 5
 ·rw [if_pos (.inr k5)] at hf
  rw [if_pos k5] at hat
  rw [if_neg (by omega), if_neg (by omega)] at hR
  obtain ⟨f, hfo⟩ := some_of hf
  rw [hfo, Option.getD_some] at hat
  rw [hR, hat]
  refine K.same (fun _ => rfl) (fun id => ?_) (fun _ => rfl)
  show (lkM (upM s.fe s.c2 e.a { f with title := e.t }) id).map (·.inn) = _
  rw [lkM_up]
  split
  ·rename_i hx; rw [hx, hfo]; rfl
  ·rfl
 rw [if_neg (by omega)] at hf
 rw [if_neg k5] at hat
 by_cases k6 : e.kind = 6
 ·rw [if_pos k6] at hf hat hR
  simp only [Bool.and_eq_true] at hf
  obtain ⟨f, hfo⟩ := some_of hf.1
  rw [hfo, Option.getD_some, hold_eq s, hold_eq] at hat
  rw [hR, hat]
  exact K.mov h hfo (within_of hf.2) rfl rfl rfl
 rw [if_neg k6] at hf hat hR
 by_cases k7 : e.kind = 7 ∨ e.kind = 8 ∨ e.kind = 9 ∨ e.kind = 10
 ·rw [if_pos k7] at hR
  have hu : ∃ t, (s.aft e).it = upM s.it s.c3 e.a t ∧ (s.aft e).fo = s.fo ∧ (s.aft e).fe = s.fe := by
   rcases k7 with k | k | k | k
   ·rw [if_neg (by omega), if_neg (by omega), if_neg (by omega), if_neg (by omega), if_neg (by omega), PS.make, if_neg (by omega), if_neg (by omega), if_pos k] at hat
    rw [hat]; exact ⟨_, rfl, rfl, rfl⟩
   ·rw [if_pos k] at hat
    rw [hat]; exact ⟨_, rfl, rfl, rfl⟩
   ·rw [if_neg (by omega), if_pos k] at hat
    rw [hat]; exact ⟨_, rfl, rfl, rfl⟩
   ·rw [if_neg (by omega), if_neg (by omega), if_pos k] at hat
    rw [hat]; exact ⟨_, rfl, rfl, rfl⟩
  obtain ⟨t, u1, u2, u3⟩ := hu
  have hl : lkM (s.aft e).it e.a = some t := by rw [u1, lkM_up, if_pos rfl]
  rw [hl] at hR
  simp only [Option.isSome_some, if_true, Option.getD_some] at hR
  rw [hR]
  exact K.pt h hI u2 u3 u1
 rw [if_neg k7] at hR
 rw [hR]
 have hs : (s.aft e).fo = s.fo ∧ (s.aft e).fe = s.fe ∧ (s.aft e).it = s.it := by
  rw [if_neg (by omega), if_neg (by omega), if_neg (by omega)] at hat
  by_cases k12 : e.kind = 12
  ·rw [if_pos k12] at hat; rw [hat]; exact ⟨rfl, rfl, rfl⟩
  rw [if_neg k12] at hat
  by_cases k13 : e.kind = 13
  ·rw [if_pos k13] at hat; rw [hat]; exact ⟨rfl, rfl, rfl⟩
  rw [if_neg k13, PS.make, if_neg k1, if_neg k3, if_neg (by omega)] at hat
  by_cases k11 : e.kind = 11
  ·rw [if_pos k11] at hat; rw [hat]; exact ⟨rfl, rfl, rfl⟩
  ·rw [if_neg k11] at hat; rw [hat]; exact ⟨rfl, rfl, rfl⟩
 obtain ⟨q1, q2, q3⟩ := hs
 exact K.same (fun id => by rw [q1]) (fun id => by rw [q2]) (fun id => by rw [q3])
theorem mem_vals {α : Type} {z : α} {l : ML Int α} {k : Int} {a : α} (h : lkM l k = some a) : a ∈ valsM z l := by
 unfold valsM
 refine List.mem_map.2 ⟨k, ?_, by rw [h]; rfl⟩
 refine (List.mergeSort_perm _ _).mem_iff.2 ?_
 obtain ⟨n, hn⟩ := lkM_mem h
 exact List.mem_map.2 ⟨_, hn, rfl⟩
theorem vals_find {α : Type} {z : α} {l : ML Int α} (idf : α → Int) (hid : ∀ k a, lkM l k = some a → idf a = k) (x : Int) : (valsM z l).find? (fun a => decide (idf a = x)) = lkM l x := by
 cases hl : lkM l x with
 | none =>
  rw [List.find?_eq_none]
  intro a ha
  obtain ⟨k, hk⟩ := vals_mem ha
  have := hid k a hk
  simp only [decide_eq_true_eq]
  rintro rfl
  rw [this, hk] at hl; cases hl
 | some a =>
  have hm := mem_vals (z := z) hl
  have hs : ((valsM z l).find? (fun a => decide (idf a = x))).isSome = true := by
   rw [List.find?_isSome]
   exact ⟨a, hm, by simp [hid x a hl]⟩
  obtain ⟨b, hb⟩ := Option.isSome_iff_exists.1 hs
  have h1 := List.find?_some hb
  simp only [decide_eq_true_eq] at h1
  obtain ⟨k, hk⟩ := vals_mem (List.mem_of_find?_eq_some hb)
  have h2 := hid k b hk
  rw [hb, ← hl, ← h1, h2, hk]
theorem vals_ids {α : Type} {z : α} {l : ML Int α} {c : Nat} (w : WFM l c) (idf : α → Int) (hid : ∀ k a, lkM l k = some a → idf a = k) : (valsM z l).map idf = sortI (l.map (·.1)) := by
 unfold valsM
 rw [List.map_map]
 have : ∀ k ∈ sortI (l.map (·.1)), (idf ∘ fun k => (lkM l k).getD z) k = k := fun k hk => by
  have hk2 : k ∈ l.map (·.1) := (List.mergeSort_perm _ _).mem_iff.1 hk
  obtain ⟨x, hx, rfl⟩ := List.mem_map.1 hk2
  have := lkM_of_mem w.keys (b := x.2.2) (a := x.2.1) (x := x.1) hx
  simp only [Function.comp, this, Option.getD_some]
  exact hid _ _ this
 rw [List.map_congr_left this, List.map_id']
theorem sortI_nodup {l : List Int} (h : l.Nodup) : (sortI l).Nodup := (List.mergeSort_perm l _).nodup_iff.2 h
theorem foFold (F : List Fo) : ∀ (c : CS), (F.map (·.id)).Nodup →
  (∀ id, lkM (F.foldl CS.mkFo c).ab id = match F.find? (fun f => decide (f.id = id)) with | some f => some f.inn | none => lkM c.ab id) ∧
  (∀ id, lkM (F.foldl CS.mkFo c).fo id = match F.find? (fun f => decide (f.id = id)) with | some _ => some (0, 0) | none => lkM c.fo id) ∧
  (c.Wf → (F.foldl CS.mkFo c).Wf) ∧ (F.foldl CS.mkFo c).al = c.al ∧ (F.foldl CS.mkFo c).st = c.st ∧ (F.foldl CS.mkFo c).tg = c.tg ∧ (F.foldl CS.mkFo c).it = c.it ∧ (F.foldl CS.mkFo c).inn = c.inn ∧ (F.foldl CS.mkFo c).fe = c.fe := by
 induction F with
 | nil => intro c _; exact ⟨fun _ => rfl, fun _ => rfl, fun w => w, rfl, rfl, rfl, rfl, rfl, rfl⟩
 | cons f F ih =>
  intro c hn
  rw [List.map_cons, List.nodup_cons] at hn
  obtain ⟨a1, a2, a3, a4, a5, a6, a7, a8, a9⟩ := ih (c.mkFo f) hn.2
  have hno : ∀ id, f.id = id → F.find? (fun f => decide (f.id = id)) = none := fun id hid => by
   rw [List.find?_eq_none]
   intro g hg
   simp only [decide_eq_true_eq]
   intro q
   exact hn.1 (List.mem_map.2 ⟨g, hg, by rw [q, hid]⟩)
  refine ⟨fun id => ?_, fun id => ?_, fun w => a3 { w with w1 := w.w1.up _ _, w6 := w.w6.up _ _ }, a4, a5, a6, a7, a8, a9⟩
  ·rw [List.foldl_cons, a1, List.find?_cons]
   by_cases hid : f.id = id
   ·rw [hno id hid, decide_eq_true hid]
    show lkM (upM c.ab c.c6 f.id f.inn) id = _
    rw [lkM_up, if_pos hid.symm]
   ·rw [decide_eq_false hid]
    simp only
    cases F.find? (fun f => decide (f.id = id)) with
    | some g => rfl
    | none =>
     show lkM (upM c.ab c.c6 f.id f.inn) id = _
     rw [lkM_up, if_neg (fun q => hid q.symm)]
  ·rw [List.foldl_cons, a2, List.find?_cons]
   by_cases hid : f.id = id
   ·rw [hno id hid, decide_eq_true hid]
    show lkM (upM c.fo c.c1 f.id (0, 0)) id = _
    rw [lkM_up, if_pos hid.symm]
   ·rw [decide_eq_false hid]
    simp only
    cases F.find? (fun f => decide (f.id = id)) with
    | some g => rfl
    | none =>
     show lkM (upM c.fo c.c1 f.id (0, 0)) id = _
     rw [lkM_up, if_neg (fun q => hid q.symm)]
theorem feFold (F : List Fe) : ∀ (c : CS), (F.map (·.id)).Nodup →
  (∀ id, lkM (F.foldl CS.mkFe c).inn id = match F.find? (fun f => decide (f.id = id)) with | some f => some f.inn | none => lkM c.inn id) ∧
  (∀ id, lkM (F.foldl CS.mkFe c).fe id = match F.find? (fun f => decide (f.id = id)) with | some _ => some (0, 0) | none => lkM c.fe id) ∧
  (c.Wf → (F.foldl CS.mkFe c).Wf) ∧ (F.foldl CS.mkFe c).al = c.al ∧ (F.foldl CS.mkFe c).st = c.st ∧ (F.foldl CS.mkFe c).tg = c.tg ∧ (F.foldl CS.mkFe c).it = c.it ∧ (F.foldl CS.mkFe c).ab = c.ab ∧ (F.foldl CS.mkFe c).fo = c.fo := by
 induction F with
 | nil => intro c _; exact ⟨fun _ => rfl, fun _ => rfl, fun w => w, rfl, rfl, rfl, rfl, rfl, rfl⟩
 | cons f F ih =>
  intro c hn
  rw [List.map_cons, List.nodup_cons] at hn
  obtain ⟨a1, a2, a3, a4, a5, a6, a7, a8, a9⟩ := ih (c.mkFe f) hn.2
  have hno : ∀ id, f.id = id → F.find? (fun f => decide (f.id = id)) = none := fun id hid => by
   rw [List.find?_eq_none]
   intro g hg
   simp only [decide_eq_true_eq]
   intro q
   exact hn.1 (List.mem_map.2 ⟨g, hg, by rw [q, hid]⟩)
  refine ⟨fun id => ?_, fun id => ?_, fun w => a3 { w with w2 := w.w2.up _ _, w5 := w.w5.up _ _ }, a4, a5, a6, a7, a8, a9⟩
  ·rw [List.foldl_cons, a1, List.find?_cons]
   by_cases hid : f.id = id
   ·rw [hno id hid, decide_eq_true hid]
    show lkM (upM c.inn c.c5 f.id f.inn) id = _
    rw [lkM_up, if_pos hid.symm]
   ·rw [decide_eq_false hid]
    simp only
    cases F.find? (fun f => decide (f.id = id)) with
    | some g => rfl
    | none =>
     show lkM (upM c.inn c.c5 f.id f.inn) id = _
     rw [lkM_up, if_neg (fun q => hid q.symm)]
  ·rw [List.foldl_cons, a2, List.find?_cons]
   by_cases hid : f.id = id
   ·rw [hno id hid, decide_eq_true hid]
    show lkM (upM c.fe c.c2 f.id (0, 0)) id = _
    rw [lkM_up, if_pos hid.symm]
   ·rw [decide_eq_false hid]
    simp only
    cases F.find? (fun f => decide (f.id = id)) with
    | some g => rfl
    | none =>
     show lkM (upM c.fe c.c2 f.id (0, 0)) id = _
     rw [lkM_up, if_neg (fun q => hid q.symm)]
theorem Kp.of0 (h : s.Inv) : Kp (CS.of0 s.tell) { s with it := [], c3 := 0 } := by
 have n1 : ((valsM Fo.z s.fo).map (·.id)).Nodup := by rw [vals_ids h.w1 _ fun k f hk => (h.i1 k f hk).1]; exact sortI_nodup h.w1.keys
 have n2 : ((valsM Fe.z s.fe).map (·.id)).Nodup := by rw [vals_ids h.w2 _ fun k f hk => (h.i2 k f hk).1]; exact sortI_nodup h.w2.keys
 obtain ⟨a1, a2, a3, a4, a5, a6, a7, a8, a9⟩ := foFold (valsM Fo.z s.fo) CS.z n1
 obtain ⟨b1, b2, b3, b4, b5, b6, b7, b8, b9⟩ := feFold (valsM Fe.z s.fe) ((valsM Fo.z s.fo).foldl CS.mkFo CS.z) n2
 have f1 := vals_find (z := Fo.z) (l := s.fo) (·.id) fun k f hk => (h.i1 k f hk).1
 have f2 := vals_find (z := Fe.z) (l := s.fe) (·.id) fun k f hk => (h.i2 k f hk).1
 have hz : CS.z.Wf := ⟨.nil, .nil, .nil, .nil, .nil, .nil⟩
 have e0 : CS.of0 s.tell = (valsM Fe.z s.fe).foldl CS.mkFe ((valsM Fo.z s.fo).foldl CS.mkFo CS.z) := rfl
 rw [← e0] at b1 b2 b3 b4 b5 b6 b7 b8 b9
 have hit : (CS.of0 s.tell).it = [] := by rw [b7, a7]; rfl
 refine ⟨b3 (a3 hz), ?_, fun id => by rw [hit], fun id => ?_, fun id => ?_, fun id => ?_, fun id => ?_, by rw [hit]; simp⟩
 ·rw [hit]
  refine ⟨by rw [b4, a4]; rfl, by rw [b5, a5]; rfl, fun id hi => ?_, fun id hi => ?_, fun g => by rw [b6, a6]; rfl⟩
  ·rw [b2, f2] at hi ⊢
   cases hl : lkM s.fe id with
   | some f => rfl
   | none => rw [hl, a9] at hi; cases hi
  ·rw [b9, a2, f1] at hi ⊢
   cases hl : lkM s.fo id with
   | some f => rfl
   | none => rw [hl] at hi; cases hi
 ·rw [b1, f2, a8]
  cases lkM s.fe id <;> rfl
 ·rw [b8, a1, f1]
  cases lkM s.fo id <;> rfl
 ·rw [b2, f2, a9]
  cases lkM s.fe id <;> rfl
 ·rw [b9, a2, f1]
  cases lkM s.fo id <;> rfl
theorem inv_sub (h : s.Inv) {I : ML Int It} {c3 : Nat} (w : WFM I c3) (hs : ∀ k t, lkM I k = some t → lkM s.it k = some t) (hl : I.length ≤ 1024) : PS.Inv { s with it := I, c3 := c3 } :=
 { h with
  w3 := w
  i3 := fun k t hk => h.i3 k t (hs k t hk)
  u3 := fun k t hk => h.u3 k t (hs k t hk)
  tg := fun k t hk => h.tg k t (hs k t hk)
  l3 := hl }
theorem vals_len {α : Type} {z : α} (l : ML Int α) : (valsM z l).length = l.length := by unfold valsM; rw [List.length_map, sortI_len, List.length_map]
theorem new_keep (h : s.Inv) : ∀ k, k ≤ (valsM It.z s.it).length → ∃ I c3, Kp (((valsM It.z s.it).take k).foldl CS.putF (CS.of0 s.tell)) { s with it := I, c3 := c3 } ∧ PS.Inv { s with it := I, c3 := c3 } ∧ I.length ≤ k ∧
  ∀ id, lkM I id = ((valsM It.z s.it).take k).find? (fun t => decide (t.id = id)) := by
 have hid : ∀ k t, lkM s.it k = some t → t.id = k := fun k t hk => (h.i3 k t hk).1
 have f3 := vals_find (z := It.z) (l := s.it) (·.id) hid
 have n3 : ((valsM It.z s.it).map (·.id)).Nodup := by rw [vals_ids h.w3 _ hid]; exact sortI_nodup h.w3.keys
 have hlen := vals_len (z := It.z) s.it
 have h3 := h.l3
 intro k
 induction k with
 | zero => intro _; exact ⟨[], 0, Kp.of0 h, inv_sub h .nil (fun _ _ h => by cases h) (by simp), by simp, fun _ => rfl⟩
 | succ k ih =>
  intro hk
  obtain ⟨I, c3, K, hI, hl, hf⟩ := ih (by omega)
  obtain ⟨t, ht, htm⟩ := getElem?_of_lt (show k < (valsM It.z s.it).length by omega)
  obtain ⟨j, hj⟩ := vals_mem htm
  have hjt := hid j t hj
  have hnew : lkM I t.id = none := by
   rw [hf, List.find?_eq_none]
   intro u hu
   simp only [decide_eq_true_eq]
   intro q
   obtain ⟨i, hi⟩ := List.getElem?_of_mem hu
   have hik : i < k := by have := (List.getElem?_eq_some_iff.1 hi).1; rw [List.length_take] at this; omega
   rw [List.getElem?_take_of_lt hik] at hi
   have h1 : ((valsM It.z s.it).map (·.id))[i]? = some t.id := by rw [List.getElem?_map, hi]; simp [q]
   have h2 : ((valsM It.z s.it).map (·.id))[k]? = some t.id := by rw [List.getElem?_map, ht]; rfl
   have := (List.getElem?_inj (by rw [List.length_map]; omega) n3).1 (h1.trans h2.symm)
   omega
  have hul : (upM I c3 t.id t).length ≤ k + 1 := by rw [upM_len, hnew]; simp; omega
  have hI2 : PS.Inv { s with it := upM I c3 t.id t, c3 := ckM I c3 t.id } := inv_sub h (hI.w3.up _ _) (fun k' t' hk' => by
   rcases lk_upC hk' with ⟨rfl, rfl⟩ | ⟨_, hk'⟩
   ·rw [hjt]; exact hj
   ·rw [hf] at hk'
    have h1 := List.find?_some hk'
    simp only [decide_eq_true_eq] at h1
    obtain ⟨q, hq⟩ := vals_mem (List.mem_of_mem_take (List.mem_of_find?_eq_some hk'))
    rw [← h1, hid q t' hq]; exact hq) (by omega)
  refine ⟨_, _, ?_, hI2, hul, fun id => ?_⟩
  ·rw [foldl_take _ _ _ ht]
   exact K.pt hI hI2 rfl rfl rfl
  ·rw [lkM_up, List.take_add_one, ht, List.find?_append, hf]
   by_cases hx : id = t.id
   ·rw [if_pos hx, hx, ← hf, hnew]
    simp
   ·rw [if_neg hx]
    cases ((valsM It.z s.it).take k).find? (fun t => decide (t.id = id)) with
    | some u => rfl
    | none =>
     have : ¬ t.id = id := fun q => hx q.symm
     simp [this]
theorem Kp.new (h : s.Inv) : Kp (CS.ofSt s.tell) s := by
 obtain ⟨I, c3, K, _, _, hf⟩ := new_keep h _ (Nat.le_refl _)
 rw [List.take_length] at K hf
 have f3 := vals_find (z := It.z) (l := s.it) (·.id) fun k t hk => (h.i3 k t hk).1
 exact ⟨K.wf, K.tal, fun id => (K.it id).trans ((hf id).trans (f3 id)), K.inn, K.ab, K.fe, K.fo, K.len⟩
theorem new_ready (h : s.Inv) (k : Nat) (t : It) (ht : s.tell.it[k]? = some t) : ((s.tell.it.take k).foldl CS.putF (CS.of0 s.tell)).Own ∧ Rdy ((s.tell.it.take k).foldl CS.putF (CS.of0 s.tell)) t ∧ t.tags.length ≤ 8 := by
 have hk := (List.getElem?_eq_some_iff.1 ht).1
 obtain ⟨I, c3, K, hI, _, _⟩ := new_keep h k (Nat.le_of_lt hk)
 obtain ⟨j, hj⟩ := vals_mem (List.mem_of_getElem? ht)
 exact ⟨K.own hI, K.rdy hI (h.u3 j t hj) (h.tg j t hj).1, (h.tg j t hj).2⟩
end Go.Av
namespace Go.Av
open Go Go.Proofs Go.RowKit
attribute [local irreducible] WP WPl WPix Sat
set_option maxRecDepth 100000
set_option maxHeartbeats 2000000
def sc (Y : Heap) (n : Nat) (s : PS) (m : Nat) (c : CS) : Heap := so (co Y m c) n s
section
variable {Y : Heap} {n m : Nat} {s : PS} {c : CS}
theorem sc_co (hn : n + 9 ≤ m) (hm : m + 7 ≤ Y.length) : sc Y n s m c = co (so Y n s) m c := so_co s c hn hm
@[go_sem] theorem sc_app (hn : n + 9 ≤ m) (hm : m + 7 ≤ Y.length) (j : Heap) : sc Y n s m c ++ j = sc (Y ++ j) n s m c := by
 unfold sc; rw [so_app (by rw [co_len hm]; omega), co_app hm]
@[go_sem] theorem sc_len (hn : n + 9 ≤ m) (hm : m + 7 ≤ Y.length) : (sc Y n s m c).length = Y.length := by
 unfold sc; rw [so_len (by rw [co_len hm]; omega), co_len hm]
@[go_sem] theorem sc_row (hn : n + 9 ≤ m) (hm : m + 7 ≤ Y.length) {p : Nat} (v : Nat) (hp : m + 7 ≤ p) : getRow (sc Y n s m c) p v = getRow Y p v := by
 unfold sc; rw [so_row' (by rw [co_len hm]; omega) v (by omega), co_row' hm v hp]
@[go_sem] theorem sc_set (hn : n + 9 ≤ m) (hm : m + 7 ≤ Y.length) {p : Nat} (b : Blk) (hp : m + 7 ≤ p) : (sc Y n s m c).set p b = sc (Y.set p b) n s m c := by
 unfold sc; rw [so_set' (by rw [co_len hm]; omega) b (by omega), co_set' hm b hp]
@[go_sem] theorem sc_eqs (hn : n + 9 ≤ m) (hm : m + 7 ≤ Y.length) : abin Tryz.prog (sc Y n s m c) .eql 27 (.hp (n + 8) 0 0 0) (.nil (.pointer none)) = some (.bool false) := by
 unfold sc; exact so_eql (by rw [co_len hm]; omega)
@[go_sem] theorem sc_eqc (hn : n + 9 ≤ m) (hm : m + 7 ≤ Y.length) : abin Tryz.prog (sc Y n s m c) .eql 25 (.hp (m + 6) 0 0 0) (.nil (.pointer none)) = some (.bool false) := by
 rw [sc_co hn hm]; exact co_eql (by rw [so_len (by omega)]; exact hm)
theorem sc_pre (hn : n + 9 ≤ m) {h j : Heap} (hm : m + 7 ≤ (h ++ j).length) (hh : h.length ≤ n) : ∃ j', sc (h ++ j) n s m c = h ++ j' := by
 refine ⟨(sc (h ++ j) n s m c).drop h.length, ?_⟩
 have hl := sc_len (s := s) (c := c) hn hm
 apply List.ext_getElem?
 intro p
 by_cases hp : p < h.length
 ·rw [List.getElem?_append_left hp]
  unfold sc so co
  rw [ov_out (by show n + 9 ≤ _; rw [ov_len hm]; omega) (.inl (by omega)), ov_out hm (.inl (by omega)), List.getElem?_append_left hp]
 ·rw [List.getElem?_append_right (by omega), List.getElem?_drop]; congr 1; omega
end
variable (G : Nat → Option (List AVal))
section
variable {Y : Heap} {n m : Nat} {s : PS} {c : CS}
theorem ZOf (hn : n + 9 ≤ m) (hm : m + 7 ≤ Y.length) (kind id : Int) (g : Bs) : Sat (CT G) 18 [.hp (m + 6) 0 0 0, .int .i64 kind, .int .i64 id, .str g] (sc Y n s m c) (fun r h' => r = .tup [.int .i64 (c.of kind id g).1, .int .i64 (c.of kind id g).2] ∧ h' = sc Y n s m c) := by
 rw [sc_co hn hm]; exact CSOf_sat G c kind id g (by rw [so_len (by omega)]; exact hm)
theorem ZTell (h : s.Inv) (hn : n + 9 ≤ m) (hm : m + 7 ≤ Y.length) : Sat (CT G) 22 [.hp (n + 8) 0 0 0] (sc Y n s m c) (fun r h' => r = s.tell.av ∧ h' = sc Y n s m c) :=
 PSTell_sat G s h.toOk (by rw [co_len hm]; omega)
theorem ZApply (h : s.Inv) (e : Ev) (hn : n + 9 ≤ m) (hm : m + 7 ≤ Y.length) : Sat (CT G) 21 [.hp (n + 8) 0 0 0, e.av] (sc Y n s m c) (fun r h' => r = .bool (s.ok L0 e) ∧ h' = sc Y n (s.step L0 e) m c) :=
 Apply0_sat G s h e (by rw [co_len hm]; omega)
theorem ZNew (h : s.Inv) {H : Heap} {n : Nat} (hn : n + 9 ≤ H.length) : Sat (CT G) 12 [.hp (n + 8) 0 0 0] (so H n s) (fun r h' => r = .hp (H.length + 6) 0 0 0 ∧ h' = sc (H ++ CS.z.bl H.length) n s H.length (CS.ofSt s.tell)) := by
 have h0 := CSNew_sat G s.tell (.hp (n + 8) 0 0 0) (so H n s) (fun j => by
  rw [so_app hn]; exact PSTell_sat G s h.toOk (by simp; omega)) (new_ready h) (by have := vals_len (z := Fo.z) s.fo; have := h.l1; show (valsM Fo.z s.fo).length ≤ _; omega) (by have := vals_len (z := Fe.z) s.fe; have := h.l2; show (valsM Fe.z s.fe).length ≤ _; omega) (by have := vals_len (z := It.z) s.it; have := h.l3; show (valsM It.z s.it).length ≤ _; omega)
 rw [so_len hn, so_app hn] at h0
 refine h0.mono fun r h' ⟨h1, h2⟩ => ⟨h1, ?_⟩
 rw [h2, sc_co hn (by simp [CS.bl])]
theorem ZStep {s : PS} (Kc : Kp c s) (h : s.Inv) (e : Ev) (hok : s.ok L0 e = true) (hn : n + 9 ≤ m) (hm : m + 7 ≤ Y.length) : Sat (CT G) 20 [.hp (m + 6) 0 0 0, .hp (n + 8) 0 0 0, e.av] (sc Y n (s.aft e) m c)
  (fun r h' => r = .tup [] ∧ ∃ d, Kp d (s.aft e) ∧ h' = sc Y n (s.aft e) m d) := by
 have hI : (s.aft e).Inv := by have := h.step (L := L0) e; unfold PS.step at this; rw [if_pos hok] at this; exact this
 rw [sc_co hn hm]
 have hr : e.kind ≠ 13 → 1 ≤ e.a := fun hk => by
  unfold PS.ok PS.fits at hok
  rw [Bool.and_eq_true] at hok
  have := hok.1
  unfold Leaf.ck at this; simp only [Bool.and_eq_true] at this
  exact (right_id this.1 hk).1
 refine (CSStep_sat G c (Kc.own h) e (n + 8) ((lkM (s.aft e).it e.a).getD It.z) (lkM (s.aft e).it e.a).isSome (H := so Y n (s.aft e)) (by rw [so_len (by omega)]; exact hm) (fun _ j => ?_) (fun hk hb => ?_) (fun hk => ?_)).mono fun r h' ⟨h1, d, h2, h3⟩ => ⟨h1, d, Kc.step h hok h2, by rw [h3, sc_co hn hm]⟩
 ·rw [so_app (by omega), ← so_co _ _ hn (by simp; omega)]
  exact PSItem_sat G (s.aft e) e.a (by have := (hI.tags e.a).2; omega) (by rw [co_len (by simp; omega)]; simp; omega)
 ·obtain ⟨t, ht⟩ := Option.isSome_iff_exists.1 hb
  rw [ht]
  have hfe : (s.aft e).fe = s.fe := by
   have hat : s.aft e = s.after (tgF ((lkM s.it e.a).getD It.z).tags e.s e.n) e := rfl
   unfold PS.after at hat
   rcases hk with k | k | k | k
   ·rw [if_neg (by omega), if_neg (by omega), if_neg (by omega), if_neg (by omega), if_neg (by omega), if_neg (by omega), if_neg (by omega), if_neg (by omega), if_neg (by omega), PS.make, if_neg (by omega), if_neg (by omega), if_pos k] at hat
    rw [hat]; rfl
   ·rw [if_neg (by omega), if_neg (by omega), if_neg (by omega), if_neg (by omega), if_pos k] at hat
    rw [hat]; rfl
   ·rw [if_neg (by omega), if_neg (by omega), if_neg (by omega), if_neg (by omega), if_neg (by omega), if_pos k] at hat
    rw [hat]; rfl
   ·rw [if_neg (by omega), if_neg (by omega), if_neg (by omega), if_neg (by omega), if_neg (by omega), if_neg (by omega), if_pos k] at hat
    rw [hat]; rfl
  have h1 := hI.u3 _ _ ht
  rw [hfe] at h1
  exact ⟨Kc.rdy h h1 (hI.tg _ _ ht).1, (hI.tg _ _ ht).2⟩
 ·have hw : e.b = 0 ∨ (lkM s.fo e.b).isSome = true := by
   unfold PS.ok PS.fits at hok
   rw [Bool.and_eq_true] at hok
   have hf := hok.2
   rw [if_neg (by omega), if_neg (by omega), if_neg (by omega), if_neg (by omega), if_pos hk, Bool.and_eq_true] at hf
   exact within_of hf.2
  obtain ⟨l, a1, _, a2, _⟩ := Kc.chain h (Kc.up h e.a)
  obtain ⟨l', b1, _, b2, _⟩ := Kc.chain h hw
  exact ⟨⟨l, a1, a2⟩, l', b1, b2⟩
end
def lgE (e : Ev) : Bool := decide ((e.s.length : Int) > 1000) || (decide ((e.t.length : Int) > 1000) || decide ((e.u.length : Int) > 1000))
theorem Large_sat (e : Ev) (h : Heap) : Sat (CT G) 40 [e.av] h (fun r h' => r = .bool (lgE e) ∧ h' = h) := by
 refine sb [.tmp 2] (fn := Tryz.f40) Tryz.func40 ?_
 intro Q hQ
 refine wk trivial ?_
 cases k1 : decide ((e.s.length : Int) > 1000) with
 | true =>
  have F := k1
  try refine sq F ?_
  refine wk F ?_
  refine ee hQ F ?_
  exact Fin.plain (.bool _) ⟨by simp [lgE, k1], rfl⟩
 | false =>
  cases k2 : decide ((e.t.length : Int) > 1000) with
  | true =>
   have F := F2 k1 k2
   try refine sq F ?_
   refine wk F ?_
   refine ee hQ F ?_
   exact Fin.plain (.bool _) ⟨by simp [lgE, k1, k2], rfl⟩
  | false =>
   have F := F2 k1 k2
   try refine sq F ?_
   refine wk F ?_
   refine ee hQ F ?_
   exact Fin.plain (.bool _) ⟨by simp [lgE, k1, k2], rfl⟩
def lgF (es : List Ev) : Bool := decide ((es.length : Int) > 150) || es.any lgE
theorem LargeEvents_sat (es : List Ev) (h : Heap) : Sat (CT G) 10 [.sl 7 (es.map Ev.av)] h (fun r h' => r = .bool (lgF es) ∧ h' = h) := by
 refine sb [.tmp 2] (fn := Tryz.f10) Tryz.func10 ?_
 intro Q hQ
 refine wk trivial ?_
 have hel : (es.map Ev.av).length = es.length := List.length_map ..
 have F := hel
 try refine sq F ?_
 refine cq F (fun c0 => ?_) (fun c0 => ?_) <;> (try exact c0.elim) <;> (refine wk F ?_)
 ·refine ee hQ F ?_
  exact Fin.same (.bool _) ⟨by simp [lgF]; omega, rfl⟩
 ·refine lm (fun nL tL hL => ∃ (k : Nat), es.length - k = nL ∧ [] ++ h = hL ∧ tL 0 = .sl 7 (es.map Ev.av) ∧ tL 3 = .int .i64 k ∧ k ≤ es.length ∧ (∀ e ∈ es.take k, lgE e = false)) ((fun (k : Nat) => (es.length - k : Nat)) (0)) ?_ ?_
  ·refine Wkn.refl ⟨0, rfl, rfl, ?_, ?_, by omega, by simp⟩
   all_goals first | exact zq F | rfl | omega | trivial | skip
  rintro _ s2 h' ⟨k, rfl, rfl, e0, e3, hk, hp⟩ K2 hK2
  simp only [mix_cons, mix_nil, Nat.reduceEqDiff, ↓reduceIte] at e0 e3
  have F := F3 F e0 e3
  refine wk F ?_
  refine cq F (fun c1 => ?_) (fun c1 => ?_) <;> (try exact c1.elim) <;> (refine wk F ?_)
  ·have c2 : k < es.length := by omega
   obtain ⟨e, he, _⟩ := getElem?_of_lt c2
   have F := F3 F c2 he
   try refine sq F ?_
   refine wk F ?_
   refine kq F (Large_sat G e _) ?_
   refine cq F (fun c3 => ?_) (fun c3 => ?_) <;> (try exact c3.elim) <;> (refine wk F ?_)
   ·refine ee hQ F ?_
    exact Fin.same (.bool _) ⟨by
     have : es.any lgE = true := List.any_eq_true.2 ⟨e, List.mem_of_getElem? he, c3⟩
     simp [lgF, this], rfl⟩
   ·have hp1 : ∀ x ∈ es.take (k + 1), lgE x = false := by
     rw [List.take_add_one, he]
     intro x hx
     simp at hx
     rcases hx with hx | rfl
     ·exact hp x hx
     ·exact c3
    refine hK2 _ _ _ (Wkn.refl ⟨k + 1, rfl, rfl, ?_, ?_, by omega, hp1⟩) (by omega)
    all_goals first | exact zq F | rfl | omega | trivial | skip
  ·rw [List.take_of_length_le (by omega)] at hp
   refine ee hQ F ?_
   exact Fin.same (.bool _) ⟨by
    have : es.any lgE = false := by rw [List.any_eq_false]; intro x hx; rw [hp x hx]; simp
    simp [lgF, this]; omega, rfl⟩
instance : DecidableEq Ct := fun x y => by
 cases x; cases y; simp only [Ct.mk.injEq]; exact inferInstance
@[go_sem] theorem abin_ct (h : Heap) (d e : Ct) : abin Tryz.prog h .neq 88 (.agg [.int .i64 d.kind, .int .i64 d.id, .str d.tag, .int .i64 d.all, .int .i64 d.un]) (.agg [.int .i64 e.kind, .int .i64 e.id, .str e.tag, .int .i64 e.all, .int .i64 e.un]) = some (.bool (!decide (d = e))) := by
 obtain ⟨a1, a2, a3, a4, a5⟩ := d
 obtain ⟨b1, b2, b3, b4, b5⟩ := e
 simp only [abin, go_sem, aeqL, aeq1, ↓reduceIte, Option.map_some, Option.some.injEq, AVal.bool.injEq, Ct.mk.injEq, Bool.not_inj_iff]
 rw [Bool.eq_iff_iff]
 simp
theorem Same_sat (a b : List Ct) (ha : a.length ≤ 1000000) (hb : b.length ≤ 1000000) (h : Heap) : Sat (CT G) 15 [.sl 5 (a.map Ct.av), .sl 5 (b.map Ct.av)] h (fun r h' => r = .bool (decide (a = b)) ∧ h' = h) := by
 have ela : (a.map Ct.av).length = a.length := List.length_map ..
 have elb : (b.map Ct.av).length = b.length := List.length_map ..
 have F := F2 @ela @elb
 refine sb [.tmp 4] (fn := Tryz.f15) Tryz.func15 ?_
 intro Q hQ
 refine wk F ?_
 refine cq F (fun c0 => ?_) (fun c0 => ?_) <;> (try exact c0.elim) <;> (refine wk F ?_)
 ·refine ee hQ F ?_
  exact Fin.same (.bool _) ⟨by simp; rintro rfl; omega, rfl⟩
 ·refine lm (fun nL tL hL => ∃ (k : Nat), a.length - k = nL ∧ [] ++ h = hL ∧ tL 0 = .sl 5 (a.map Ct.av) ∧ tL 1 = .sl 5 (b.map Ct.av) ∧ tL 5 = .int .i64 k ∧ k ≤ a.length ∧ a.take k = b.take k) ((fun (k : Nat) => (a.length - k : Nat)) (0)) ?_ ?_
  ·refine Wkn.refl ⟨0, rfl, rfl, ?_, ?_, ?_, by omega, by simp⟩
   all_goals first | exact zq F | rfl | omega | trivial | skip
  rintro _ s2 h' ⟨k, rfl, rfl, e0, e1, e5, hk, hp⟩ K2 hK2
  simp only [mix_cons, mix_nil, Nat.reduceEqDiff, ↓reduceIte] at e0 e1 e5
  have F := F4 F e0 e1 e5
  refine wk F ?_
  refine cq F (fun c1 => ?_) (fun c1 => ?_) <;> (try exact c1.elim) <;> (refine wk F ?_)
  ·have c2 : k < a.length := by omega
   have c2b : k < b.length := by omega
   obtain ⟨x, hx, _⟩ := getElem?_of_lt c2
   obtain ⟨y, hy, _⟩ := getElem?_of_lt c2b
   have F := F5 F c2 @c2b hx hy
   try refine sq F ?_
   refine wk F ?_
   refine cq F (fun c3 => ?_) (fun c3 => ?_) <;> (try exact c3.elim) <;> (refine wk F ?_)
   ·refine ee hQ F ?_
    exact Fin.same (.bool _) ⟨by
     simp
     rintro rfl
     rw [hx] at hy; cases hy
     simp at c3, rfl⟩
   ·have c4 : x = y := by simpa using c3
    have hp1 : a.take (k + 1) = b.take (k + 1) := by rw [List.take_add_one, List.take_add_one, hx, hy, hp, c4]
    refine hK2 _ _ _ (Wkn.refl ⟨k + 1, rfl, rfl, ?_, ?_, ?_, by omega, hp1⟩) (by omega)
    all_goals first | exact zq F | rfl | omega | trivial | skip
  ·rw [List.take_of_length_le (by omega), List.take_of_length_le (by omega)] at hp
   refine ee hQ F ?_
   exact Fin.same (.bool _) ⟨by simp [hp], rfl⟩
end Go.Av
namespace Go.Av
open Go Go.Proofs Go.RowKit
set_option maxHeartbeats 1000000
variable {c : CS} {s : PS}
def chS (fo : ML Int Fo) : Nat → Int → Option (List Int)
 | 0, id => if id = 0 then some [] else none
 | k + 1, id => if id = 0 then some [] else (chS fo k (((lkM fo id).map (·.inn)).getD 0)).map (id :: ·)
theorem chO_chS {ab : ML Int Int} {fo : ML Int Fo} (h : ∀ id, lkM ab id = (lkM fo id).map (·.inn)) : ∀ (k : Nat) (id : Int), chO ab k id = chS fo k id := by
 intro k
 induction k with
 | zero => intro id; rfl
 | succ k ih => intro id; rw [chO, chS, h, ih]
def PS.chn (s : PS) (feed : Int) : List Int := (chS s.fo 7 (((lkM s.fe feed).map (·.inn)).getD 0)).getD []
theorem Kp.chnS (K : Kp c s) (f : Int) : c.chn f = s.chn f := by unfold CS.chn PS.chn; rw [chO_chS K.ab, K.inn]
theorem mem_keys {κ α : Type} [DecidableEq κ] {l : ML κ α} {x : κ} : x ∈ l.map (·.1) ↔ (lkM l x).isSome = true := by
 constructor
 ·intro hm
  cases hq : (lkM l x).isSome with
  | true => rfl
  | false => exact (lkM_key hq hm).elim
 ·intro hq
  obtain ⟨a, ha⟩ := Option.isSome_iff_exists.1 hq
  obtain ⟨n, hn⟩ := lkM_mem ha
  exact List.mem_map.2 ⟨_, hn, rfl⟩
theorem keys_perm {κ α β : Type} [DecidableEq κ] {l : ML κ α} {l' : ML κ β} {n n' : Nat} (w : WFM l n) (w' : WFM l' n') (h : ∀ x, (lkM l x).isSome = (lkM l' x).isSome) : (l.map (·.1)).Perm (l'.map (·.1)) := by
 rw [List.perm_ext_iff_of_nodup w.keys w'.keys]
 intro x
 rw [mem_keys, mem_keys, h]
theorem sortI_eq {l l' : List Int} (h : l.Perm l') : sortI l = sortI l' := mergeSort_of_perm_i h
theorem vals_perm {κ α : Type} [DecidableEq κ] {l l' : ML κ α} {n n' : Nat} (w : WFM l n) (w' : WFM l' n') (h : ∀ x, lkM l x = lkM l' x) : (l.map (·.2.1)).Perm (l'.map (·.2.1)) := by
 have hp := keys_perm w w' fun x => by rw [h]
 have hv : ∀ {l : ML κ α} {n : Nat}, WFM l n → l.map (fun e => some e.2.1) = (l.map (·.1)).map (lkM l) := fun {l n} w => by
  rw [List.map_map]
  exact List.map_congr_left fun e he => (lkM_of_mem w.keys (b := e.2.2) he).symm
 have h1 : (l.map fun e => some e.2.1).Perm (l'.map fun e => some e.2.1) := by
  rw [hv w, hv w', List.map_congr_left (fun x _ => h x)]
  exact hp.map _
 have h2 := h1.map (fun o : Option α => o)
 have h3 : ∀ l : ML κ α, (l.map fun e => some e.2.1) = (l.map (·.2.1)).map some := fun l => by rw [List.map_map]; rfl
 rw [h3, h3] at h1
 have := h1.filterMap id
 simpa using this
def PS.its (s : PS) : List It := s.it.map (·.2.1)
theorem Kp.tl (K : Kp c s) (h : s.Inv) (p : It → Bool) : Av.tl (c.it.map (·.2.1)) p = Av.tl s.its p := tl_perm (vals_perm K.wf.w4 h.w3 K.it) p
def insT (l : List Bs) (g : Bs) : List Bs := match l with
 | [] => [g]
 | a :: l => if Op.bytesLess a g = true then a :: insT l g else if a = g then a :: l else g :: a :: l
def tagsR (L : List It) : List Bs := (L.flatMap (·.tags)).foldl insT []
theorem insT_mem (l : List Bs) (g x : Bs) : x ∈ insT l g ↔ x = g ∨ x ∈ l := by
 induction l with
 | nil => simp [insT]
 | cons a l ih =>
  rw [insT]
  split
  ·rw [List.mem_cons, ih, List.mem_cons]
   constructor
   ·rintro (h | h | h)
    ·exact .inr (.inl h)
    ·exact .inl h
    ·exact .inr (.inr h)
   ·rintro (h | h | h)
    ·exact .inr (.inl h)
    ·exact .inl h
    ·exact .inr (.inr h)
  ·split
   ·rename_i h; subst h
    constructor
    ·exact .inr
    ·rintro (h | h)
     ·rw [h]; exact List.mem_cons_self ..
     ·exact h
   ·rw [List.mem_cons]
theorem insT_srt {l : List Bs} (h : Srt l) (g : Bs) : Srt (insT l g) := by
 induction l with
 | nil => simp [insT, Srt]
 | cons a l ih =>
  have h2 := h
  unfold Srt at h
  rw [List.pairwise_cons] at h
  rw [insT]
  split
  ·rename_i hl
   unfold Srt
   rw [List.pairwise_cons]
   refine ⟨fun x hx => ?_, ih h.2⟩
   rcases (insT_mem l g x).1 hx with rfl | hx
   ·exact hl
   ·exact h.1 x hx
  ·rename_i hl
   split
   ·exact h2
   ·rename_i hne
    have hga : Op.bytesLess g a = true := by
     cases hq : Op.bytesLess g a with
     | true => rfl
     | false => exact (hne (bl_tri a g (by simpa using hl) hq)).elim
    unfold Srt
    rw [List.pairwise_cons]
    refine ⟨fun x hx => ?_, h2⟩
    rcases List.mem_cons.1 hx with rfl | hx
    ·exact hga
    ·exact bl_trans hga (h.1 x hx)
theorem foldT (gs : List Bs) : ∀ {l : List Bs}, Srt l → Srt (gs.foldl insT l) ∧ ∀ x, x ∈ gs.foldl insT l ↔ x ∈ gs ∨ x ∈ l := by
 induction gs with
 | nil => intro l h; exact ⟨h, fun x => by simp⟩
 | cons g gs ih =>
  intro l h
  obtain ⟨h1, h2⟩ := ih (insT_srt h g)
  refine ⟨h1, fun x => ?_⟩
  rw [List.foldl_cons, h2, insT_mem, List.mem_cons]
  constructor
  ·rintro (h | h | h)
   ·exact .inl (.inr h)
   ·exact .inl (.inl h)
   ·exact .inr h
  ·rintro ((h | h) | h)
   ·exact .inr (.inl h)
   ·exact .inl h
   ·exact .inr (.inr h)
theorem tagsR_srt (L : List It) : Srt (tagsR L) := (foldT _ (by simp [Srt])).1
theorem tagsR_mem (L : List It) (x : Bs) : x ∈ tagsR L ↔ ∃ t ∈ L, x ∈ t.tags := by
 unfold tagsR
 rw [(foldT _ (by simp [Srt])).2]
 simp
theorem srt_uniq {l l' : List Bs} (h : Srt l) (h' : Srt l') (hm : ∀ x, x ∈ l ↔ x ∈ l') : l = l' := by
 have hp : l.Perm l' := (List.perm_ext_iff_of_nodup (srt_nodup h) (srt_nodup h')).2 hm
 refine List.Perm.eq_of_pairwise (le := fun a b => Op.bytesLess a b = true) (fun a b _ _ h1 h2 => ?_) h h' hp
 have := bl_trans h1 h2
 rw [bl_irr] at this; cases this
theorem sortB_srt {l : List Bs} (h : l.Nodup) : Srt (sortB l) := by
 have h1 : (sortB l).Pairwise fun a b => decide (a ≤ b) = true := List.pairwise_mergeSort leB_tr leB_to l
 have h2 : (sortB l).Nodup := (List.mergeSort_perm l _).nodup_iff.2 h
 unfold Srt
 refine List.Pairwise.imp₂ (R := fun a b => decide (a ≤ b) = true) (S := fun a b => a ≠ b) (fun a b hab hne => ?_) h1 h2
 rw [bytesLess_eq, decide_eq_true_eq]
 rw [decide_eq_true_eq] at hab
 rcases List.le_iff_lt_or_eq.1 hab with h | h
 ·exact h
 ·exact (hne h).elim
def ctM (kind id : Int) (g : Bs) (n : T2) : Ct := ⟨kind, id, g, n.1, n.2⟩
def PS.tellC (s : PS) : List Ct :=
 ctM 1 0 [] (tl s.its fun _ => true) :: (((sortI (s.fo.map (·.1))).map fun id => ctM 2 id [] (tl s.its fun t => decide (id ∈ s.chn t.feed))) ++ ((sortI (s.fe.map (·.1))).map fun id => ctM 3 id [] (tl s.its fun t => decide (t.feed = id)))
  ++ (tagsR s.its).map fun g => ctM 4 0 g (tl s.its fun t => decide (g ∈ t.tags))) ++ [ctM 5 0 [] (tl s.its fun t => t.star)]
theorem Kp.lkFo (K : Kp c s) (h : s.Inv) {id : Int} (hi : (lkM s.fo id).isSome = true) : lkM c.fo id = some (Av.tl s.its fun t => decide (id ∈ s.chn t.feed)) := by
 rw [K.tal.fo id (by rw [K.fo]; exact hi), K.tl h]
 congr 1
 exact tl_congr fun t _ => by rw [K.chnS]
theorem Kp.lkFe (K : Kp c s) (h : s.Inv) {id : Int} (hi : (lkM s.fe id).isSome = true) : lkM c.fe id = some (Av.tl s.its fun t => decide (t.feed = id)) := by
 rw [K.tal.fe id (by rw [K.fe]; exact hi), K.tl h]
theorem Kp.lkTg (K : Kp c s) (h : s.Inv) (g : Bs) : lkM c.tg g = some0 (Av.tl s.its fun t => decide (g ∈ t.tags)) := by
 rw [K.tal.tg, K.tl h]
theorem some0_mem (L : List It) (g : Bs) : (some0 (tl L fun t => decide (g ∈ t.tags))).isSome = true ↔ ∃ t ∈ L, g ∈ t.tags := by
 unfold some0 tl
 simp only
 constructor
 ·intro h
  split at h
  ·cases h
  ·rename_i h0
   have : L.countP (fun t => decide (g ∈ t.tags)) ≠ 0 := fun q => h0 (by rw [q]; rfl)
   obtain ⟨t, ht, hg⟩ := List.countP_pos_iff.1 (Nat.pos_of_ne_zero this)
   exact ⟨t, ht, by simpa using hg⟩
 ·rintro ⟨t, ht, hg⟩
  rw [if_neg]
  ·rfl
  ·have : 0 < L.countP (fun t => decide (g ∈ t.tags)) := List.countP_pos_iff.2 ⟨t, ht, by simpa using hg⟩
   omega
theorem Kp.keysTg (K : Kp c s) (h : s.Inv) : sortB (c.tg.map (·.1)) = tagsR s.its := by
 refine srt_uniq (sortB_srt K.wf.w3.keys) (tagsR_srt _) fun x => ?_
 rw [tagsR_mem, ← some0_mem, ← K.lkTg h, ← mem_keys]
 exact (List.mergeSort_perm _ _).mem_iff
theorem Kp.told (K : Kp c s) (h : s.Inv) : c.tell = s.tellC := by
 unfold CS.tell PS.tellC toldI toldS
 rw [K.keysTg h, sortI_eq (keys_perm K.wf.w1 h.w1 K.fo), sortI_eq (keys_perm K.wf.w2 h.w2 K.fe), K.tal.al, K.tal.st, K.tl h, K.tl h]
 have e1 : (sortI (s.fo.map (·.1))).map (ctI 2 c.fo) = (sortI (s.fo.map (·.1))).map fun id => ctM 2 id [] (Av.tl s.its fun t => decide (id ∈ s.chn t.feed)) :=
  List.map_congr_left fun id hid => by
   unfold ctI
   rw [K.lkFo h (mem_keys.1 ((List.mergeSort_perm _ _).mem_iff.1 hid))]; rfl
 have e2 : (sortI (s.fe.map (·.1))).map (ctI 3 c.fe) = (sortI (s.fe.map (·.1))).map fun id => ctM 3 id [] (Av.tl s.its fun t => decide (t.feed = id)) :=
  List.map_congr_left fun id hid => by
   unfold ctI
   rw [K.lkFe h (mem_keys.1 ((List.mergeSort_perm _ _).mem_iff.1 hid))]; rfl
 have e3 : (tagsR s.its).map (ctS c.tg) = (tagsR s.its).map fun g => ctM 4 0 g (Av.tl s.its fun t => decide (g ∈ t.tags)) :=
  List.map_congr_left fun g _ => by
   unfold ctS
   rw [K.lkTg h, some0_get]; rfl
 rw [e1, e2, e3]; rfl
end Go.Av
namespace Go.Av
open Go Go.Proofs Go.RowKit
attribute [local irreducible] WP WPl WPix Sat
set_option maxRecDepth 100000
set_option maxHeartbeats 4000000
variable (G : Nat → Option (List AVal))
def PS.step1 (s : PS) (e : Ev) : PS := if s.fits true (s.dpt e.b) e then s.aft e else s
theorem step_ck {s : PS} {e : Ev} (h : L0.ck e = true) : s.step L0 e = s.step1 e := by unfold PS.step PS.step1 PS.ok; rw [h]
theorem ck_of {e : Ev} (h1 : L0.right e = true) (h2 : usedE e = e) : L0.ck e = true := by unfold Leaf.ck; rw [h1, h2]; simp
def lvs : List Ev := [⟨1, 1, 0, 0, [102], [], []⟩, ⟨3, 1, 1, 0, [117], [], []⟩, ⟨7, 1, 1, 0, [97], [], []⟩, ⟨7, 2, 1, 0, [98], [], []⟩, ⟨10, 2, 0, 1, [103, 111], [], []⟩]
def lvE : Ev := ⟨8, 2, 0, 1, [], [], []⟩
def lvS : PS := lvs.foldl PS.step1 PS.z
def lvT : PS := lvS.aft lvE
theorem lvE_ck : L0.ck lvE = true := ck_of (by kernel_rfl) rfl
theorem lvs_fold : lvs.foldl (PS.step L0) PS.z = lvS := by
 show (((((PS.z.step L0 _).step L0 _).step L0 _).step L0 _).step L0 _) = _
 rw [step_ck (ck_of (by kernel_rfl) rfl), step_ck (ck_of (by kernel_rfl) rfl), step_ck (ck_of (by kernel_rfl) rfl), step_ck (ck_of (by kernel_rfl) rfl), step_ck (ck_of (by kernel_rfl) rfl)]
 rfl
theorem lvS_ok : lvS.ok L0 lvE = true := by unfold PS.ok; rw [lvE_ck]; kernel_rfl
theorem lvS_inv : lvS.Inv := by rw [← lvs_fold]; exact PS.Inv.z.fold lvs
theorem lvS_step : lvS.step L0 lvE = lvT := by unfold PS.step; rw [lvS_ok]; rfl
theorem lvT_inv : lvT.Inv := by rw [← lvS_step]; exact lvS_inv.step lvE
def lvC : List Ct := [⟨1, 0, [], 2, 1⟩, ⟨2, 1, [], 2, 1⟩, ⟨3, 1, [], 2, 1⟩, ⟨4, 0, [103, 111], 1, 0⟩, ⟨5, 0, [], 0, 0⟩]
theorem sortI_one (n : Int) : sortI [n] = [n] := List.mergeSort_of_pairwise (by simp)
theorem lvT_fo : lvT.fo.map (·.1) = [1] := by kernel_rfl
theorem lvT_fe : lvT.fe.map (·.1) = [1] := by kernel_rfl
theorem lvT_tell : lvT.tellC = lvC := by
 unfold PS.tellC
 rw [lvT_fo, lvT_fe, sortI_one]
 kernel_rfl
theorem lvT_tags : tagsR lvT.its = [[103, 111]] := by kernel_rfl
section
variable {Y : Heap} {n m : Nat} {s : PS} {c : CS}
theorem ZCTell (Kc : Kp c s) (h : s.Inv) (t1 : ∀ g ∈ tagsR s.its, g.length ≤ 1048576) (t2 : (tagsR s.its).length ≤ 100000) (hn : n + 9 ≤ m) (hm : m + 7 ≤ Y.length) :
  Sat (CT G) 16 [.hp (m + 6) 0 0 0] (sc Y n s m c) (fun r h' => r = .sl 5 (s.tellC.map Ct.av) ∧ h' = sc Y n s m c) := by
 have hp : (c.tg.map (·.1)).Perm (tagsR s.its) := by rw [← Kc.keysTg h]; exact (List.mergeSort_perm _ _).symm
 have p1 := keys_perm Kc.wf.w1 h.w1 Kc.fo
 have p2 := keys_perm Kc.wf.w2 h.w2 Kc.fe
 have q1 := p1.length_eq
 have q2 := p2.length_eq
 have q3 := hp.length_eq
 rw [List.length_map, List.length_map] at q1 q2
 rw [List.length_map] at q3
 have l1 := h.l1
 have l2 := h.l2
 rw [sc_co hn hm, ← Kc.told h]
 refine CSTell_sat G c Kc.wf (fun e he => ?_) (fun e he => ?_) (fun e he => ?_) (by omega) (by omega) (by omega) (by rw [so_len (by omega)]; exact hm)
 ·have := mem_keys.1 (p1.mem_iff.1 (List.mem_map.2 ⟨e, he, rfl⟩))
  obtain ⟨f, hf⟩ := Option.isSome_iff_exists.1 this
  have := h.i1 _ _ hf
  omega
 ·have := mem_keys.1 (p2.mem_iff.1 (List.mem_map.2 ⟨e, he, rfl⟩))
  obtain ⟨f, hf⟩ := Option.isSome_iff_exists.1 this
  have := h.i2 _ _ hf
  omega
 ·exact t1 _ (hp.mem_iff.1 (List.mem_map.2 ⟨e, he, rfl⟩))
end
theorem fin_sc {h Y : Heap} {n m : Nat} {s : PS} {c : CS} {R : AVal → Heap → Prop} {b : Bool} (hn : n + 9 ≤ m) (hm : m + 7 ≤ Y.length) (hp : ∃ j, Y = h ++ j) (hh : h.length ≤ n) (hR : R (.bool b) h) : Fin h (sc Y n s m c) R (.bool b) := by
 obtain ⟨j, rfl⟩ := hp
 obtain ⟨j', he⟩ := sc_pre (s := s) (c := c) hn hm hh
 rw [he]
 exact Fin.plainE (j := j') rfl (.bool _) hR
theorem lives28_sat (h : Heap) : Sat (CT G) 11 [] h (fun r h' => r = .bool true ∧ h' = h) := by
 have hF := fun h => Fold0_sat G lvs (by decide) h
 rw [lvs_fold] at hF
 have hz9 : (PS.z.bl h.length).length = 9 := rfl
 have hfh := hF h
 generalize hH : h ++ PS.z.bl h.length = H0 at hfh
 have hl0 : H0.length = h.length + 9 := by rw [← hH]; simp [hz9]
 have hnw := ZNew G lvS_inv (H := H0) (n := h.length) (by omega)
 have hz7 : (CS.z.bl H0.length).length = 7 := rfl
 generalize hWw : H0 ++ CS.z.bl H0.length = W0 at hnw
 have hlW : W0.length = H0.length + 7 := by rw [← hWw]; simp [hz7]
 have hpre : ∃ j, W0 = h ++ j := ⟨PS.z.bl h.length ++ CS.z.bl H0.length, by rw [← hWw, ← hH, List.append_assoc]⟩
 generalize H0.length = m at *
 have hn : h.length + 9 ≤ m := by omega
 have hap := fun (W : Heap) (hm : m + 7 ≤ W.length) => ZApply G (Y := W) (n := h.length) (m := m) (c := CS.ofSt lvS.tell) lvS_inv lvE hn hm
 rw [lvS_step, lvS_ok] at hap
 have hst := fun (W : Heap) (hm : m + 7 ≤ W.length) => ZStep G (Y := W) (n := h.length) (m := m) (Kp.new lvS_inv) lvS_inv lvE lvS_ok hn hm
 refine sb [.tmp 0] (fn := Tryz.f11) Tryz.func11 ?_
 intro Q hQ
 refine wk trivial ?_
 refine kq trivial (hfh) ?_
 refine kq trivial (hnw) ?_
 refine kq trivial (hap _ (by first | omega | (simp; omega))) ?_
 refine (hst _ (by first | omega | (simp; omega))).mono ?_
 rintro r h' ⟨rfl, d, kd, rfl⟩
 change Kp d lvT at kd
 have hof : d.of 2 1 [] = (2, 1) := by
  show (lkM d.fo 1).getD (0, 0) = _
  rw [kd.lkFo lvT_inv (by kernel_rfl)]
  kernel_rfl
 have hof1 : (d.of 2 1 []).1 = 2 := by rw [hof]
 have hof2 : (d.of 2 1 []).2 = 1 := by rw [hof]
 have htl := fun (W : Heap) (hm : m + 7 ≤ W.length) => ZCTell G (Y := W) (n := h.length) (m := m) kd lvT_inv (by rw [lvT_tags]; decide) (by rw [lvT_tags]; decide) hn hm
 rw [lvT_tell] at htl
 have hsm := fun h => Same_sat G lvC lvC (by decide) (by decide) h
 rw [decide_eq_true (rfl : lvC = lvC)] at hsm
 have F := F2 hof1 hof2
 try refine sq F ?_
 refine wk F ?_
 refine kq F (ZOf G (n := h.length) (s := lvT) (c := d) hn (by first | omega | (simp; omega)) 2 1 []) ?_
 refine kq F (htl _ (by first | omega | (simp; omega))) ?_
 refine kq F (hsm _) ?_
 refine ee hQ F ?_
 obtain ⟨j0, hj0⟩ := hpre
 exact fin_sc hn (by simp; omega) ⟨j0 ++ _, by rw [hj0, List.append_assoc]⟩ (Nat.le_refl _) ⟨rfl, rfl⟩
end Go.Av
namespace Go.Av
open Go Go.Proofs Go.RowKit
set_option maxHeartbeats 1000000
def sumZ : List Int → Int
 | [] => 0
 | a :: l => a + sumZ l
theorem sumZ_app (a b : List Int) : sumZ (a ++ b) = sumZ a + sumZ b := by
 induction a with
 | nil => simp [sumZ]
 | cons x a ih => rw [List.cons_append, sumZ, sumZ, ih]; omega
def S2 {α : Type} (F : List α) (L : List It) (P : α → It → Bool) : Int := sumZ (F.map fun g => (L.countP (P g) : Int))
theorem S2_snoc {α : Type} {F : List α} {k : Nat} {g : α} (h : F[k]? = some g) (L : List It) (P : α → It → Bool) : S2 (F.take (k + 1)) L P = S2 (F.take k) L P + L.countP (P g) := by
 unfold S2
 rw [List.take_add_one, h, List.map_append, sumZ_app]
 simp [sumZ]
theorem S2_cons {α : Type} (F : List α) (t : It) (L : List It) (P : α → It → Bool) : S2 F (t :: L) P = S2 F L P + F.countP (fun g => P g t) := by
 induction F with
 | nil => rfl
 | cons g F ih =>
  unfold S2 at ih ⊢
  rw [List.map_cons, List.map_cons, sumZ, sumZ, ih, List.countP_cons, List.countP_cons]
  cases P g t <;> simp <;> omega
theorem S2_all {α β : Type} (F : List α) (H : List β) (L : List It) (P : α → It → Bool) (Q : β → It → Bool) (q : It → Bool)
  (h : ∀ t ∈ L, F.countP (fun g => P g t) + H.countP (fun g => Q g t) = if q t then 1 else 0) : S2 F L P + S2 H L Q = L.countP q := by
 induction L with
 | nil =>
  have hz : ∀ {γ : Type} (F : List γ) (P : γ → It → Bool), S2 F [] P = 0 := fun F P => by
   unfold S2
   induction F with
   | nil => rfl
   | cons g F ih => rw [List.map_cons, sumZ, ih]; rfl
  rw [hz, hz]; rfl
 | cons t L ih =>
  have h1 := ih fun x hx => h x (List.mem_cons_of_mem _ hx)
  have h2 := h t (List.mem_cons_self ..)
  rw [S2_cons, S2_cons, List.countP_cons]
  cases hq : q t <;> simp only [hq, Bool.false_eq_true, if_true, if_false] at h2 ⊢ <;> omega
theorem S2_bd {α : Type} (F : List α) (L : List It) (P : α → It → Bool) : 0 ≤ S2 F L P ∧ S2 F L P ≤ L.length * F.length := by
 unfold S2
 induction F with
 | nil => simp [sumZ]
 | cons g F ih =>
  rw [List.map_cons, sumZ]
  have := List.countP_le_length (p := P g) (l := L)
  have h2 : (L.length : Int) * ((g :: F).length : Int) = L.length + (L.length : Int) * (F.length : Int) := by rw [List.length_cons]; push_cast; rw [Int.mul_add]; omega
  omega
theorem count_sub {A B : List Int} (hA : A.Nodup) (hB : B.Nodup) (hs : ∀ x ∈ B, x ∈ A) (q : Int → Bool) : A.countP (fun x => q x && decide (x ∈ B)) = B.countP q := by
 have hp : (A.filter fun x => decide (x ∈ B)).Perm B := by
  rw [List.perm_ext_iff_of_nodup (hA.sublist List.filter_sublist) hB]
  intro x
  rw [List.mem_filter]
  simp only [decide_eq_true_eq]
  exact ⟨fun h => h.2, fun h => ⟨hs x h, h⟩⟩
 rw [← hp.countP_eq, List.countP_filter]
variable {s : PS}
def PS.inn (s : PS) (id : Int) : Int := ((lkM s.fo id).map (·.inn)).getD 0
theorem chS_cnt (s : PS) : ∀ {k : Nat} {p : Int} {l : List Int}, chS s.fo k p = some l → l.Nodup → ∀ {id : Int}, id ≠ 0 → (if id ∈ l then 1 else 0) = (if p = id then 1 else 0) + l.countP (fun g => decide (s.inn g = id)) := by
 intro k
 induction k with
 | zero =>
  intro p l h _ id hid
  rw [chS] at h
  split at h
  ·rename_i hp
   cases h
   rw [if_neg (by simp), if_neg (by omega)]; rfl
  ·cases h
 | succ k ih =>
  intro p l h hn id hid
  rw [chS] at h
  split at h
  ·rename_i hp
   cases h
   rw [if_neg (by simp), if_neg (by omega)]; rfl
  ·rename_i hp
   simp only [Option.map_eq_some_iff] at h
   obtain ⟨r, hr, rfl⟩ := h
   rw [List.nodup_cons] at hn
   have h1 := ih hr hn.2 hid
   rw [List.countP_cons]
   have hin : s.inn p = ((lkM s.fo p).map (·.inn)).getD 0 := rfl
   rw [← hin] at h1
   have hc : (if decide (s.inn p = id) = true then 1 else 0) = (if s.inn p = id then 1 else 0) := by simp only [decide_eq_true_eq]
   rw [hc]
   generalize (if s.inn p = id then 1 else 0) = z at *
   by_cases hm : id ∈ r
   ·have hne : ¬ p = id := fun q => hn.1 (q ▸ hm)
    rw [if_pos hm] at h1
    rw [if_pos (List.mem_cons_of_mem _ hm), if_neg hne]
    omega
   ·rw [if_neg hm] at h1
    by_cases hpid : p = id
    ·rw [if_pos (by rw [hpid]; exact List.mem_cons_self ..), if_pos hpid]
     omega
    ·have h3 : ¬ id ∈ p :: r := by
      intro q
      rcases List.mem_cons.1 q with q | q
      ·exact hpid q.symm
      ·exact hm q
     rw [if_neg h3, if_neg hpid]
     omega
theorem PS.Inv.chs (h : s.Inv) {p : Int} (hp : p = 0 ∨ (lkM s.fo p).isSome = true) : ∃ l, chS s.fo 7 p = some l ∧ l.Nodup ∧ ∀ x ∈ l, (lkM s.fo x).isSome = true := by
 obtain ⟨l, h1, h2, _, h4⟩ := (Kp.new h).chain h hp
 exact ⟨l, by rw [← chO_chS (Kp.new h).ab]; exact h1, h2, h4⟩
theorem fe_cnt (h : s.Inv) {feed : Int} (hf : (lkM s.fe feed).isSome = true) (q : Fe → Bool) : (valsM Fe.z s.fe).countP (fun f => q f && decide (feed = f.id)) = if q ((lkM s.fe feed).getD Fe.z) then 1 else 0 := by
 have hid : ∀ k f, lkM s.fe k = some f → f.id = k := fun k f hk => (h.i2 k f hk).1
 have hnd : ((valsM Fe.z s.fe).map (·.id)).Nodup := by rw [vals_ids h.w2 _ hid]; exact sortI_nodup h.w2.keys
 obtain ⟨f0, hf0⟩ := Option.isSome_iff_exists.1 hf
 have hm := mem_vals (z := Fe.z) hf0
 rw [hf0, Option.getD_some]
 have gen : ∀ (l : List Fe), (l.map (·.id)).Nodup → f0 ∈ l → l.countP (fun f => q f && decide (feed = f.id)) = if q f0 then 1 else 0 := by
  intro l
  induction l with
  | nil => intro _ hm; cases hm
  | cons g l ih =>
   intro hn hm
   rw [List.map_cons, List.nodup_cons] at hn
   rw [List.countP_cons]
   rcases List.mem_cons.1 hm with rfl | hm
   ·have h0 : l.countP (fun f => q f && decide (feed = f.id)) = 0 := by
     rw [List.countP_eq_zero]
     intro g hg
     simp only [Bool.and_eq_true, decide_eq_true_eq]
     rintro ⟨_, e⟩
     exact hn.1 (List.mem_map.2 ⟨g, hg, by rw [← e, hid _ _ hf0]⟩)
    rw [h0, hid _ _ hf0]
    simp
   ·have hne : ¬ feed = g.id := fun e => hn.1 (List.mem_map.2 ⟨f0, hm, by rw [hid _ _ hf0, e]⟩)
    rw [ih hn.2 hm]
    simp [hne]
 exact gen _ hnd hm
theorem sum_all (h : s.Inv) (L : List It) (hL : ∀ t ∈ L, ∃ k, lkM s.it k = some t) : S2 (valsM Fe.z s.fe) L (fun f t => decide (t.feed = f.id)) = L.countP fun _ => true := by
 have := S2_all (valsM Fe.z s.fe) ([] : List Fe) L (fun f t => decide (t.feed = f.id)) (fun _ _ => false) (fun _ => true) fun t ht => by
  obtain ⟨k, hk⟩ := hL t ht
  have := fe_cnt h (h.u3 k t hk) fun _ => true
  simpa using this
 unfold S2 at this ⊢
 simpa [sumZ] using this
theorem sum_folder (h : s.Inv) (L : List It) (hL : ∀ t ∈ L, ∃ k, lkM s.it k = some t) {id : Int} (hid : id ≠ 0) :
  S2 (valsM Fe.z s.fe) L (fun f t => decide (f.inn = id) && decide (t.feed = f.id)) + S2 (valsM Fo.z s.fo) L (fun f t => decide (f.inn = id) && decide (f.id ∈ s.chn t.feed)) = L.countP fun t => decide (id ∈ s.chn t.feed) := by
 refine S2_all _ _ L _ _ _ fun t ht => ?_
 obtain ⟨k, hk⟩ := hL t ht
 have hf := h.u3 k t hk
 have h1 := fe_cnt h hf fun f => decide (f.inn = id)
 obtain ⟨f0, hf0⟩ := Option.isSome_iff_exists.1 hf
 have hup : ((lkM s.fe t.feed).map (·.inn)).getD 0 = f0.inn := by rw [hf0]; rfl
 obtain ⟨l, a1, a2, a3⟩ := h.chs (h.u2 _ _ hf0)
 have hch : s.chn t.feed = l := by unfold PS.chn; rw [hup, a1]; rfl
 have h2 := chS_cnt s a1 a2 hid
 have hids : ∀ k f, lkM s.fo k = some f → f.id = k := fun k f hk => (h.i1 k f hk).1
 have hv := vals_ids (z := Fo.z) h.w1 (·.id) hids
 have h3 : (valsM Fo.z s.fo).countP (fun f => decide (f.inn = id) && decide (f.id ∈ s.chn t.feed)) = l.countP fun g => decide (s.inn g = id) := by
  rw [← count_sub (A := (valsM Fo.z s.fo).map (·.id)) (B := l) (by rw [hv]; exact sortI_nodup h.w1.keys) a2 (fun x hx => ?_) (fun g => decide (s.inn g = id)), List.countP_map, hch]
  ·refine List.countP_congr fun f hf => ?_
   obtain ⟨k', hk'⟩ := vals_mem hf
   have : s.inn f.id = f.inn := by unfold PS.inn; rw [hids k' f hk', hk']; rfl
   simp [Function.comp, this]
  ·obtain ⟨f, hf⟩ := Option.isSome_iff_exists.1 (a3 x hx)
   exact List.mem_map.2 ⟨f, mem_vals hf, hids _ _ hf⟩
 rw [h1, h3, hch, hf0, Option.getD_some]
 simp only [decide_eq_true_eq]
 exact h2.symm
end Go.Av
namespace Go.Av
open Go Go.Proofs Go.RowKit
attribute [local irreducible] WP WPl WPix Sat
set_option maxRecDepth 100000
set_option maxHeartbeats 4000000
variable (G : Nat → Option (List AVal))
def PS.new (s : PS) : List It := s.its.filter fun t => !t.read
abbrev p2 (a b : Nat) : T2 := ((a : Int), (b : Int))
theorem tl_two (s : PS) (p : It → Bool) : tl s.its p = p2 (s.its.countP p) (s.new.countP p) := by
 unfold tl PS.new
 rw [List.countP_filter]
theorem S2_b {α : Type} {F : List α} {L : List It} (P : α → It → Bool) (hF : F.length ≤ 64) (hL : L.length ≤ 1024) : 0 ≤ S2 F L P ∧ S2 F L P ≤ 65536 := by
 obtain ⟨h1, h2⟩ := S2_bd F L P
 refine ⟨h1, Int.le_trans h2 ?_⟩
 have : L.length * F.length ≤ 1024 * 64 := Nat.mul_le_mul hL hF
 have h3 : ((L.length * F.length : Nat) : Int) ≤ ((65536 : Nat) : Int) := Int.ofNat_le.2 (by omega)
 rw [Int.natCast_mul] at h3
 exact h3
theorem take_le {α : Type} {F : List α} {n : Nat} (h : F.length ≤ n) (k : Nat) : (F.take k).length ≤ n := by rw [List.length_take]; omega
def Pf (f : Fe) (t : It) : Bool := decide (t.feed = f.id)
def Pfi (id : Int) (f : Fe) (t : It) : Bool := decide (f.inn = id) && decide (t.feed = f.id)
def Pgi (s : PS) (id : Int) (f : Fo) (t : It) : Bool := decide (f.inn = id) && decide (f.id ∈ s.chn t.feed)
theorem CountSums_sat (es : List Ev) (h : Heap) : Sat (CT G) 5 [.sl 7 (es.map Ev.av)] h (fun r h' => r = .bool true ∧ h' = h) := by
 have hLg := LargeEvents_sat G es
 cases hlg : lgF es with
 | true =>
  rw [hlg] at hLg
  refine sb [.tmp 2] (fn := Tryz.f5) Tryz.func5 ?_
  intro Q hQ
  refine wk trivial ?_
  refine kq trivial (hLg _) ?_
  refine kq trivial (lives28_sat G _) ?_
  refine ee hQ trivial ?_
  exact Fin.same (.bool _) ⟨rfl, rfl⟩
 | false =>
  rw [hlg] at hLg
  have hel : es.length ≤ 150 := by
   unfold lgF at hlg
   rw [Bool.or_eq_false_iff] at hlg
   have := hlg.1
   simp only [decide_eq_false_iff_not] at this
   omega
  have hI : (es.foldl (PS.step L0) PS.z).Inv := PS.Inv.z.fold es
  have hfh := Fold0_sat G es (by omega) h
  generalize es.foldl (PS.step L0) PS.z = s at hI hfh
  have hz9 : (PS.z.bl h.length).length = 9 := rfl
  generalize hH : h ++ PS.z.bl h.length = H0 at hfh
  have hl0 : H0.length = h.length + 9 := by rw [← hH]; simp [hz9]
  have hnw := ZNew G hI (H := H0) (n := h.length) (by omega)
  have kc := Kp.new hI
  generalize CS.ofSt s.tell = c at hnw kc
  have hz7 : (CS.z.bl H0.length).length = 7 := rfl
  generalize hWw : H0 ++ CS.z.bl H0.length = W0 at hnw
  have hlW : W0.length = H0.length + 7 := by rw [← hWw]; simp [hz7]
  have hpre : ∃ j, W0 = h ++ j := ⟨PS.z.bl h.length ++ CS.z.bl H0.length, by rw [← hWw, ← hH, List.append_assoc]⟩
  generalize H0.length = m at *
  have hn : h.length + 9 ≤ m := by omega
  have hm0 : m + 7 ≤ W0.length := by omega
  have hL1 : s.its.length ≤ 1024 := by unfold PS.its; rw [List.length_map]; exact hI.l3
  have hL2 : s.new.length ≤ 1024 := Nat.le_trans (List.length_filter_le _ _) hL1
  have hM1 : ∀ t ∈ s.its, ∃ k, lkM s.it k = some t := fun t ht => by
   obtain ⟨x, hx, rfl⟩ := List.mem_map.1 ht
   exact ⟨x.1, lkM_of_mem hI.w3.keys (b := x.2.2) hx⟩
  have hM2 : ∀ t ∈ s.new, ∃ k, lkM s.it k = some t := fun t ht => hM1 t (List.mem_filter.1 ht).1
  have hfl : s.tell.fe.length ≤ 64 := by have := vals_len (z := Fe.z) s.fe; have := hI.l2; show (valsM Fe.z s.fe).length ≤ 64; omega
  have hgl : s.tell.fo.length ≤ 64 := by have := vals_len (z := Fo.z) s.fo; have := hI.l1; show (valsM Fo.z s.fo).length ≤ 64; omega
  have hbT : ∀ p, 0 ≤ (s.new.countP p : Int) ∧ (s.new.countP p : Int) ≤ (s.its.countP p : Int) ∧ (s.its.countP p : Int) ≤ 1024 := fun p => by
   have h1 := tl_le s.its p
   rw [tl_two] at h1
   simp only at h1
   omega
  have hof1 : c.of 1 0 [] = p2 (s.its.countP fun _ => true) (s.new.countP fun _ => true) := by
   show c.al = _
   rw [kc.tal.al, kc.tl hI, tl_two]
  have hof3 : ∀ f ∈ s.tell.fe, c.of 3 f.id [] = p2 (s.its.countP (Pf f)) (s.new.countP (Pf f)) := fun f hf => by
   obtain ⟨k, hk⟩ := vals_mem hf
   have hid := (hI.i2 _ _ hk).1
   show (lkM c.fe f.id).getD (0, 0) = _
   rw [kc.lkFe hI (by rw [hid, hk]; rfl), tl_two]; rfl
  have hof2 : ∀ f ∈ s.tell.fo, c.of 2 f.id [] = p2 (s.its.countP fun t => decide (f.id ∈ s.chn t.feed)) (s.new.countP fun t => decide (f.id ∈ s.chn t.feed)) := fun f hf => by
   obtain ⟨k, hk⟩ := vals_mem hf
   have hid := (hI.i1 _ _ hk).1
   show (lkM c.fo f.id).getD (0, 0) = _
   rw [kc.lkFo hI (by rw [hid, hk]; rfl), tl_two]; rfl
  have hid2 : ∀ f ∈ s.tell.fo, f.id ≠ 0 := fun f hf => by
   obtain ⟨k, hk⟩ := vals_mem hf
   have := hI.i1 _ _ hk
   omega
  have hA1 := sum_all hI s.its hM1
  have hA2 := sum_all hI s.new hM2
  have hG1 := fun id (hid : id ≠ 0) => sum_folder hI s.its hM1 (id := id) hid
  have hG2 := fun id (hid : id ≠ 0) => sum_folder hI s.new hM2 (id := id) hid
  change S2 s.tell.fe s.its Pf = _ at hA1
  change S2 s.tell.fe s.new Pf = _ at hA2
  change ∀ id, id ≠ 0 → S2 s.tell.fe s.its (Pfi id) + S2 s.tell.fo s.its (Pgi s id) = _ at hG1
  change ∀ id, id ≠ 0 → S2 s.tell.fe s.new (Pfi id) + S2 s.tell.fo s.new (Pgi s id) = _ at hG2
  have hte := fun (W : Heap) (hm : m + 7 ≤ W.length) => ZTell G (Y := W) (n := h.length) (m := m) (c := c) hI hn hm
  have hZ := fun (W : Heap) (hm : m + 7 ≤ W.length) => ZOf G (Y := W) (n := h.length) (m := m) (s := s) (c := c) hn hm
  have hZ1 := fun W hm => hZ W hm 1 0 []
  rw [hof1] at hZ1
  generalize hx : s.tell = x at *
  refine sb [.tmp 2] (fn := Tryz.f5) Tryz.func5 ?_
  intro Q hQ
  refine wk trivial ?_
  refine kq trivial (hLg _) ?_
  refine kq trivial (hfh) ?_
  refine kq trivial (hnw) ?_
  refine kq trivial (lives28_sat G _) ?_
  refine kq trivial (hte _ (by first | omega | (simp; omega))) ?_
  refine kq trivial (hZ1 _ (by first | omega | (simp; omega))) ?_
  have hm1 : m + 7 ≤ (W0 ++ [Blk.row 34 9 0 [x.av]]).length := by simp; omega
  have hg1 : getRow (W0 ++ [Blk.row 34 9 0 [x.av]]) W0.length 0 = some (34, 9, [x.av]) := by rw [gs_new0 _ rfl]; rfl
  have hpre1 : ∃ j, W0 ++ [Blk.row 34 9 0 [x.av]] = h ++ j := by
   obtain ⟨j, hj⟩ := hpre
   exact ⟨j ++ [Blk.row 34 9 0 [x.av]], by rw [hj, List.append_assoc]⟩
  have hfel : (x.fe.map Fe.av).length = x.fe.length := List.length_map ..
  have hfol : (x.fo.map Fo.av).length = x.fo.length := List.length_map ..
  have hlW1 : m + 7 ≤ W0.length := hm0
  generalize hW1 : W0 ++ [Blk.row 34 9 0 [x.av]] = W1 at hm1 hg1 hpre1
  rw [St.av_eq] at hg1
  have F := F2 @hfel @hfol
  refine lm (fun nL tL hL => ∃ (k : Nat) (a u : Int), x.fe.length - k = nL ∧ sc W1 h.length s m c = hL ∧ tL 4 = .hp (m + 6) 0 0 0 ∧ tL 5 = .hp W0.length 0 0 0 ∧ tL 6 = .int .i64 a ∧ tL 7 = .int .i64 u ∧ tL 8 = .int .i64 k ∧ k ≤ x.fe.length ∧ a = (s.its.countP (fun _ => true) : Int) - S2 (x.fe.take k) s.its Pf ∧ u = (s.new.countP (fun _ => true) : Int) - S2 (x.fe.take k) s.new Pf) ((fun (k : Nat) (a u : Int) => (x.fe.length - k : Nat)) (0) ((s.its.countP (fun _ => true) : Int)) ((s.new.countP (fun _ => true) : Int))) ?_ ?_
  ·refine Wkn.refl ⟨0, (s.its.countP (fun _ => true) : Int), (s.new.countP (fun _ => true) : Int), rfl, by rw [← hW1, St.av_eq], ?_, ?_, ?_, ?_, ?_, by omega, by simp [S2, sumZ], by simp [S2, sumZ]⟩
   all_goals first | exact zq F | rfl | omega | trivial | skip
  rintro _ s2 h' ⟨k, a, u, rfl, rfl, e4, e5, e6, e7, e8, hk, ha, hu⟩ K2 hK2
  simp only [mix_cons, mix_nil, Nat.reduceEqDiff, ↓reduceIte] at e4 e5 e6 e7 e8
  have F := F6 F e4 e5 e6 e7 e8
  have F := F2 F hg1
  refine wk F ?_
  refine cq F (fun c1 => ?_) (fun c1 => ?_) <;> (try exact c1.elim) <;> (refine wk F ?_)
  ·have c2 : k < x.fe.length := by omega
   obtain ⟨f, hf, hfm⟩ := getElem?_of_lt c2
   have hZ3 := hZ W1 hm1 3 f.id []
   rw [hof3 f hfm] at hZ3
   simp only [p2] at hZ3
   have hs1 := S2_snoc hf s.its Pf
   have hs2 := S2_snoc hf s.new Pf
   obtain ⟨w1, w2, w3⟩ := hbT (Pf f)
   have q1 := S2_b (F := x.fe.take k) (L := s.its) Pf (take_le hfl k) hL1
   have q2 := S2_b (F := x.fe.take k) (L := s.new) Pf (take_le hfl k) hL2
   have q3 := hbT fun _ => true
   generalize (s.its.countP (Pf f) : Int) = y1 at *
   generalize (s.new.countP (Pf f) : Int) = y2 at *
   have d1 : decide (y1 < y2) = false := by simp; omega
   have d2 : decide (y2 < 0) = false := by simp; omega
   have F := F5 F c2 hf d1 d2
   try refine sq F ?_
   refine wk F ?_
   refine kq F (hZ3) ?_
   refine hK2 _ _ _ (Wkn.refl ⟨k + 1, a - y1, u - y2, rfl, rfl, ?_, ?_, ?_, ?_, ?_, by omega, by omega, by omega⟩) (by omega)
   all_goals first | exact zq F | rfl | omega | trivial | skip
  have hk1 : k = x.fe.length := by omega
  subst hk1
  rw [List.take_length, hA1] at ha
  rw [List.take_length, hA2] at hu
  have ha0 : a = 0 := by omega
  have hu0 : u = 0 := by omega
  subst ha0
  subst hu0
  try refine sq F ?_
  refine wk F ?_
  refine lm (fun nL tL hL => ∃ (k : Nat), x.fo.length - k = nL ∧ sc W1 h.length s m c = hL ∧ tL 4 = .hp (m + 6) 0 0 0 ∧ tL 5 = .hp W0.length 0 0 0 ∧ tL 11 = .int .i64 k ∧ k ≤ x.fo.length) ((fun (k : Nat) => (x.fo.length - k : Nat)) (0)) ?_ ?_
  ·refine Wkn.refl ⟨0, rfl, rfl, ?_, ?_, ?_, by omega⟩
   all_goals first | exact zq F | rfl | omega | trivial | skip
  rintro _ s3 h' ⟨k, rfl, rfl, e4, e5, e11, hk⟩ K3 hK3
  simp only [mix_cons, mix_nil, Nat.reduceEqDiff, ↓reduceIte] at e4 e5 e11
  have F := F4 F e4 e5 e11
  refine wk F ?_
  refine cq F (fun c1 => ?_) (fun c1 => ?_) <;> (try exact c1.elim) <;> (refine wk F ?_)
  ·have c2 : k < x.fo.length := by omega
   obtain ⟨g, hg, hgm⟩ := getElem?_of_lt c2
   have hZ2 := hZ W1 hm1 2 g.id []
   rw [hof2 g hgm] at hZ2
   simp only [p2] at hZ2
   have hid := hid2 g hgm
   have t1 := hG1 g.id hid
   have t2 := hG2 g.id hid
   have q3 := hbT fun t => decide (g.id ∈ s.chn t.feed)
   generalize (s.its.countP (fun t => decide (g.id ∈ s.chn t.feed)) : Int) = z1 at hZ2 t1 q3
   generalize (s.new.countP (fun t => decide (g.id ∈ s.chn t.feed)) : Int) = z2 at hZ2 t2 q3
   have F := F3 F c2 hg
   try refine sq F ?_
   refine wk F ?_
   refine kq F (hZ2) ?_
   refine lm (fun nL tL hL => ∃ (i : Nat) (a u : Int), x.fe.length - i = nL ∧ sc W1 h.length s m c = hL ∧ tL 4 = .hp (m + 6) 0 0 0 ∧ tL 5 = .hp W0.length 0 0 0 ∧ tL 6 = .int .i64 a ∧ tL 7 = .int .i64 u ∧ tL 11 = .int .i64 k ∧ tL 12 = .int .i64 g.id ∧ tL 13 = .int .i64 i ∧ i ≤ x.fe.length ∧ a = z1 - S2 (x.fe.take i) s.its (Pfi g.id) ∧ u = z2 - S2 (x.fe.take i) s.new (Pfi g.id)) ((fun (i : Nat) (a u : Int) => (x.fe.length - i : Nat)) (0) (z1) (z2)) ?_ ?_
   ·refine Wkn.refl ⟨0, z1, z2, rfl, rfl, ?_, ?_, ?_, ?_, ?_, ?_, ?_, by omega, by simp [S2, sumZ], by simp [S2, sumZ]⟩
    all_goals first | exact zq F | rfl | omega | trivial | skip
   rintro _ s4 h' ⟨i, a, u, rfl, rfl, e4, e5, e6, e7, e11, e12, e13, hi, ha, hu⟩ K4 hK4
   simp only [mix_cons, mix_nil, Nat.reduceEqDiff, ↓reduceIte] at e4 e5 e6 e7 e11 e12 e13
   have F := F8 F e4 e5 e6 e7 e11 e12 e13
   refine wk F ?_
   refine cq F (fun c3 => ?_) (fun c3 => ?_) <;> (try exact c3.elim) <;> (refine wk F ?_)
   ·have c4 : i < x.fe.length := by omega
    obtain ⟨f, hf, hfm⟩ := getElem?_of_lt c4
    have hZ3 := hZ W1 hm1 3 f.id []
    rw [hof3 f hfm] at hZ3
    simp only [p2] at hZ3
    have hs1 := S2_snoc hf s.its (Pfi g.id)
    have hs2 := S2_snoc hf s.new (Pfi g.id)
    obtain ⟨w1, w2, w3⟩ := hbT (Pf f)
    have q1 := S2_b (F := x.fe.take i) (L := s.its) (Pfi g.id) (take_le hfl i) hL1
    have q2 := S2_b (F := x.fe.take i) (L := s.new) (Pfi g.id) (take_le hfl i) hL2
    have hp1 : f.inn = g.id → Pfi g.id f = Pf f := fun hq => by funext t; simp [Pfi, Pf, hq]
    have hp0 : ¬ f.inn = g.id → Pfi g.id f = fun _ => false := fun hq => by funext t; simp [Pfi, hq]
    have F := F3 F c4 hf
    try refine sq F ?_
    refine wk F ?_
    refine kq F (hZ3) ?_
    refine cq F (fun c5 => ?_) (fun c5 => ?_) <;> (try exact c5.elim) <;> (refine wk F ?_)
    ·have c6 : f.inn = g.id := by first | exact c5 | omega
     rw [hp1 c6] at hs1 hs2
     refine hK4 _ _ _ (Wkn.refl ⟨i + 1, a - (s.its.countP (Pf f) : Int), u - (s.new.countP (Pf f) : Int), rfl, rfl, ?_, ?_, ?_, ?_, ?_, ?_, ?_, by omega, by omega, by omega⟩) (by omega)
     all_goals first | exact zq F | rfl | omega | trivial | skip
    ·have c6 : ¬ f.inn = g.id := by first | exact c5 | omega
     rw [hp0 c6] at hs1 hs2
     simp only [List.countP_false, Function.const, Int.natCast_zero] at hs1 hs2
     refine hK4 _ _ _ (Wkn.refl ⟨i + 1, a, u, rfl, rfl, ?_, ?_, ?_, ?_, ?_, ?_, ?_, by omega, by omega, by omega⟩) (by omega)
     all_goals first | exact zq F | rfl | omega | trivial | skip
   have hi1 : i = x.fe.length := by omega
   subst hi1
   rw [List.take_length] at ha hu
   refine lm (fun nL tL hL => ∃ (i : Nat) (b v : Int), x.fo.length - i = nL ∧ sc W1 h.length s m c = hL ∧ tL 4 = .hp (m + 6) 0 0 0 ∧ tL 5 = .hp W0.length 0 0 0 ∧ tL 6 = .int .i64 b ∧ tL 7 = .int .i64 v ∧ tL 11 = .int .i64 k ∧ tL 12 = .int .i64 g.id ∧ tL 16 = .int .i64 i ∧ i ≤ x.fo.length ∧ b = a - S2 (x.fo.take i) s.its (Pgi s g.id) ∧ v = u - S2 (x.fo.take i) s.new (Pgi s g.id)) ((fun (i : Nat) (b v : Int) => (x.fo.length - i : Nat)) (0) (a) (u)) ?_ ?_
   ·refine Wkn.refl ⟨0, a, u, rfl, rfl, ?_, ?_, ?_, ?_, ?_, ?_, ?_, by omega, by simp [S2, sumZ], by simp [S2, sumZ]⟩
    all_goals first | exact zq F | rfl | omega | trivial | skip
   rintro _ s5 h' ⟨i, b, v, rfl, rfl, e4, e5, e6, e7, e11, e12, e16, hi, hb, hv⟩ K5 hK5
   simp only [mix_cons, mix_nil, Nat.reduceEqDiff, ↓reduceIte] at e4 e5 e6 e7 e11 e12 e16
   have F := F8 F e4 e5 e6 e7 e11 e12 e16
   refine wk F ?_
   refine cq F (fun c3 => ?_) (fun c3 => ?_) <;> (try exact c3.elim) <;> (refine wk F ?_)
   ·have c4 : i < x.fo.length := by omega
    obtain ⟨f, hf, hfm⟩ := getElem?_of_lt c4
    have hZ3 := hZ W1 hm1 2 f.id []
    rw [hof2 f hfm] at hZ3
    simp only [p2] at hZ3
    have hs1 := S2_snoc hf s.its (Pgi s g.id)
    have hs2 := S2_snoc hf s.new (Pgi s g.id)
    obtain ⟨w1, w2, w3⟩ := hbT fun t => decide (f.id ∈ s.chn t.feed)
    have q1 := S2_b (F := x.fo.take i) (L := s.its) (Pgi s g.id) (take_le hgl i) hL1
    have q2 := S2_b (F := x.fo.take i) (L := s.new) (Pgi s g.id) (take_le hgl i) hL2
    have q4 := S2_b (F := x.fe) (L := s.its) (Pfi g.id) hfl hL1
    have q5 := S2_b (F := x.fe) (L := s.new) (Pfi g.id) hfl hL2
    have hp1 : f.inn = g.id → Pgi s g.id f = fun t => decide (f.id ∈ s.chn t.feed) := fun hq => by funext t; simp [Pgi, hq]
    have hp0 : ¬ f.inn = g.id → Pgi s g.id f = fun _ => false := fun hq => by funext t; simp [Pgi, hq]
    have F := F3 F c4 hf
    try refine sq F ?_
    refine wk F ?_
    refine kq F (hZ3) ?_
    refine cq F (fun c5 => ?_) (fun c5 => ?_) <;> (try exact c5.elim) <;> (refine wk F ?_)
    ·have c6 : f.inn = g.id := by first | exact c5 | omega
     rw [hp1 c6] at hs1 hs2
     refine hK5 _ _ _ (Wkn.refl ⟨i + 1, b - (s.its.countP (fun t => decide (f.id ∈ s.chn t.feed)) : Int), v - (s.new.countP (fun t => decide (f.id ∈ s.chn t.feed)) : Int), rfl, rfl, ?_, ?_, ?_, ?_, ?_, ?_, ?_, by omega, by omega, by omega⟩) (by omega)
     all_goals first | exact zq F | rfl | omega | trivial | skip
    ·have c6 : ¬ f.inn = g.id := by first | exact c5 | omega
     rw [hp0 c6] at hs1 hs2
     simp only [List.countP_false, Function.const, Int.natCast_zero] at hs1 hs2
     refine hK5 _ _ _ (Wkn.refl ⟨i + 1, b, v, rfl, rfl, ?_, ?_, ?_, ?_, ?_, ?_, ?_, by omega, by omega, by omega⟩) (by omega)
     all_goals first | exact zq F | rfl | omega | trivial | skip
   have hi2 : i = x.fo.length := by omega
   subst hi2
   rw [List.take_length] at hb hv
   have hb0 : b = 0 := by omega
   have hv0 : v = 0 := by omega
   subst hb0
   subst hv0
   try refine sq F ?_
   refine wk F ?_
   refine hK3 _ _ _ (Wkn.refl ⟨k + 1, rfl, rfl, ?_, ?_, ?_, by omega⟩) (by omega)
   all_goals first | exact zq F | rfl | omega | trivial | skip
  ·refine ee hQ F ?_
   exact fin_sc hn hm1 hpre1 (Nat.le_refl _) ⟨rfl, rfl⟩
end Go.Av
namespace Go.Proofs.YtanjiiailjilbaaGreat.countSums
open Go Go.Av Go.RowKit Go.ChangeShapes Go.WideShapes Go.ChangeAt
set_option maxRecDepth 100000
def none' : Nat → Option (List AVal) := fun _ => none
theorem contract (H : Type) (enc : TypeId × Value → H) (W : World) (base : Nat) (args : Array Value) (ds gs : List (DataW H)) (before : List MemPlace)
  (hval : ∀ (j : Nat) t v, Tryz.f5.params[j]? = some t → args[j]? = some v → Value.okWide Tryz.prog W .any base t v)
  (hW : DataW.Whole enc Tryz.prog Tryz.f5.params.toList Rows.countSumsSpec.vars false W args.toList ds gs before) :
  Calls Tryz.prog 5 args W fun e W' => ∃ v, e = .returned v ∧ Rows.countSumsSpec.post enc Tryz.prog Tryz.f5 false true false false W args v W' := by
 have hW' := hW
 obtain ⟨p, q, hA0, hV, rfl, hfz, hnd⟩ := hW
 have hA : DataW.TrodAll enc Tryz.prog W 0 (fun _ => true) true Tryz.f5.params.toList args.toList ds p := hA0
 rw [Tryz.params5] at hA hval
 obtain ⟨v0, vs0, d0, ds0, p0, q0, hargs, rfl, rfl, h0, r0⟩ := trodAll_cons hA
 obtain ⟨rfl, rfl, rfl⟩ := trodAll_nil r0
 obtain ⟨rfl, rfl⟩ := trodVars_none hV
 obtain rfl : args = #[v0] := by cases args; simp_all
 obtain ⟨e0, re0⟩ := evs_of_trod (hval 0 22 v0 rfl rfl) h0
 refine contract_of_sat (C := CT none') Tryz.func5 rfl rfl kids_prog full_prog (fun t ht => ?_) rfl rfl rfl Tryz.underlying4 hW' (fun g cs hg => by simp only [CT_G, none'] at hg; cases hg) (xs := [.sl 7 (e0.map Ev.av)]) ⟨rfl, fun i x hi => ?_⟩ (CountSums_sat none' e0 [])
 ·rw [Tryz.params5] at ht
  change t ∈ [_] at ht
  simp only [List.mem_cons, List.mem_nil_iff, or_false, or_self] at ht
  subst ht
  exact of_decide_eq_true (by kernel_rfl)
 ·match i with
  | 0 => simp at hi; subst hi; exact re0
  | i + 1 => simp at hi
def wit : Array Value := #[.slice none 0 0]
noncomputable def witW (os : Os) : World := World.holding Tryz.prog os ⟨#[], wit, []⟩
theorem laid_met (os : Os) : laidMet Tryz.prog Rows.countSumsRow.laid ((witW os).forCall (fun _ _ => 0) ⟨#[], wit, []⟩).memory :=
 laidMet_of_run' 8 (by kernel_rfl) (by kernel_rfl)
theorem reads (os : Os) {H : Type} (enc : TypeId × Value → H) : ∃ places, DataW.whole enc Tryz.prog ((witW os).forCall (fun _ _ => 0) ⟨#[], wit, []⟩).memory Tryz.f5.params.toList Rows.countSumsSpec.vars false wit.toList 8 =
  some ([.nil], [], places) :=
 ⟨[], by kernel_rfl⟩
theorem lifted (os : Os) (started : os.Started) (H : Type) (enc : TypeId × Value → H) (F : Stop.Interp) :
  ReturnsInHanded {} Tryz.checked os 5 .any ((OpenSpec.ofChange Rows.countSumsSpec).preRow enc Tryz.prog Tryz.f5 Rows.countSumsRow.domain false Rows.countSumsRow.laid) (((OpenSpec.ofChange Rows.countSumsSpec).at F).post enc Tryz.prog Tryz.f5 false true false false) := by
 obtain ⟨places, hx⟩ := reads os enc
 refine returnsInHanded_of_row (C := Tryz.checked) (s := OpenSpec.ofChange Rows.countSumsSpec) own_prog started (by kernel_rfl) Tryz.func5
  (witness_row_at (enc := enc) (C := Tryz.checked) false (witW os) wit rfl (by kernel_rfl) (by kernel_rfl) (by kernel_rfl)
   (OpenSpec.preRow_of_cond 8 hx (by kernel_rfl) (fun k hk => by cases hk <;> kernel_rfl) (by kernel_rfl) (laid_met os))) ?_
 intro W base args ds gs before hval hW _ _ _ _ hsh _
 exact contract H enc W base args ds gs before hval hW
theorem said : Rows.CountSumsSaid :=
 OpenClaim.holds_of_cond 5 Tryz.f5 rfl rfl rfl rfl rfl rfl rfl ⟨rfl, rfl, rfl, rfl, rfl⟩ rfl rfl rfl rfl rfl (by kernel_rfl) Tryz.func5 (by kernel_rfl)
  (of_decide_eq_true (by kernel_rfl)) (by unfold Func.isWrapper; first | (rw [if_pos (by decide +kernel)]; kernel_rfl) | (rw [if_neg (by decide +kernel)]; exact ⟨rfl, rfl⟩))
  (fun os started H enc _ F => by rw [OpenClaim.pre_eq_preRow]; exact lifted os started H enc F)
end Go.Proofs.YtanjiiailjilbaaGreat.countSums
