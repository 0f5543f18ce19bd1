/- Counts that are kept, event by event, are those that are made anew: for all two lists of events the call returns true, and its arguments read as before. -/
import Derived.Test.YtanjiiailjilbaaGreatMbCk
import Derived.Test.YtanjiiailjilbaaGreatMbEb
import Derived.Test.YtanjiiailjilbaaGreatMbSk
set_option linter.unusedSimpArgs false
set_option linter.unusedVariables false
set_option linter.unusedSectionVars false
set_option linter.unnecessarySimpa false
namespace Go.Av
open Go Go.Proofs Go.RowKit
set_option maxHeartbeats 1000000
variable {c d : CS} {s : PS} {e : Ev}
theorem Kp.step {L : Leaf} (K : Kp c s) (h : s.Inv) (hok : s.ok L e = true) (hR : StepR c e ((lkM (s.aft e).it e.a).getD It.z) (lkM (s.aft e).it e.a).isSome d) : Kp d (s.aft e) := by
 have hI : (s.aft e).Inv := by have := h.step (L := L) e; unfold PS.step at this; rw [if_pos hok] at this; exact this
 unfold PS.ok PS.fits at hok
 rw [Bool.and_eq_true] at hok
 obtain ⟨hck, hf⟩ := hok
 have hr : L.right e = true := by unfold Leaf.ck at hck; simp only [Bool.and_eq_true] at hck; exact hck.1
 have ha : e.kind ≠ 13 → 1 ≤ e.a ∧ e.a ≤ 1048576 := fun hk => right_id hr hk
 unfold StepR at hR
 have hat : s.aft e = s.after (tgF ((lkM s.it e.a).getD It.z).tags e.s e.n) e := rfl
 unfold PS.after at hat
 by_cases k1 : e.kind = 1
 ·rw [if_pos k1] at hf hR
  simp only [Bool.and_eq_true, Bool.not_eq_true', decide_eq_true_eq, beq_iff_eq] at hf
  rw [if_neg (by omega), if_neg (by omega), if_neg (by omega), if_neg (by omega), if_neg (by omega), if_neg (by omega), if_neg (by omega), if_neg (by omega), if_neg (by omega), PS.make, if_pos k1, hold_eq] at hat
  rw [hR, hat]
  exact K.mkFo h (ha (by omega)) hf.1.1.1.1 hf.1.1.2 rfl rfl rfl
 rw [if_neg k1] at hf hR
 by_cases k2 : e.kind = 2
 ·rw [if_pos k2] at hf hat hR
  simp only [Bool.and_eq_true, beq_iff_eq] at hf
  obtain ⟨f, hfo⟩ := some_of hf.1
  rw [hold_eq] at hat
  rw [hR, hat]
  exact K.unFo h hfo hf.2 rfl rfl rfl
 rw [if_neg k2] at hf hat hR
 by_cases k3 : e.kind = 3
 ·rw [if_pos k3] at hf hR
  simp only [Bool.and_eq_true, Bool.not_eq_true', decide_eq_true_eq, beq_iff_eq] at hf
  rw [if_neg (by omega), if_neg (by omega), if_neg (by omega), if_neg (by omega), if_neg (by omega), if_neg (by omega), if_neg (by omega), if_neg (by omega), PS.make, if_neg (by omega), if_pos k3, hold_eq] at hat
  rw [hR, hat]
  exact K.mkFe h hf.1.1.1 rfl rfl rfl
 rw [if_neg k3] at hf hR
 by_cases k4 : e.kind = 4
 ·rw [if_pos (.inl k4)] at hf
  rw [if_pos k4] at hat hR
  obtain ⟨f, hfo⟩ := some_of hf
  obtain ⟨d', hd, rfl⟩ := hR
  rw [hfo, Option.getD_some, PS.unfeed, hold_eq, (h.i2 _ _ hfo).1] at hat
  rw [hat]
  exact K.unFe h hd rfl rfl rfl
 rw [if_neg k4] at hat hR
 by_cases k5 : e.kind = 5
 ·rw [if_pos (.inr k5)] at hf
  rw [if_pos k5] at hat
  rw [if_neg (by omega), if_neg (by omega)] at hR
  obtain ⟨f, hfo⟩ := some_of hf
  rw [hfo, Option.getD_some] at hat
  rw [hR, hat]
  refine K.same (fun _ => rfl) (fun id => ?_) (fun _ => rfl)
  show (lkM (upM s.fe s.c2 e.a { f with title := e.t }) id).map (·.inn) = _
  rw [lkM_up]
  split
  ·rename_i hx; rw [hx, hfo]; rfl
  ·rfl
 rw [if_neg (by omega)] at hf
 rw [if_neg k5] at hat
 by_cases k6 : e.kind = 6
 ·rw [if_pos k6] at hf hat hR
  simp only [Bool.and_eq_true] at hf
  obtain ⟨f, hfo⟩ := some_of hf.1
  rw [hfo, Option.getD_some, hold_eq s, hold_eq] at hat
  rw [hR, hat]
  exact K.mov h hfo (within_of hf.2) rfl rfl rfl
 rw [if_neg k6] at hf hat hR
 by_cases k7 : e.kind = 7 ∨ e.kind = 8 ∨ e.kind = 9 ∨ e.kind = 10
 ·rw [if_pos k7] at hR
  have hu : ∃ t, (s.aft e).it = upM s.it s.c3 e.a t ∧ (s.aft e).fo = s.fo ∧ (s.aft e).fe = s.fe := by
   rcases k7 with k | k | k | k
   ·rw [if_neg (by omega), if_neg (by omega), if_neg (by omega), if_neg (by omega), if_neg (by omega), PS.make, if_neg (by omega), if_neg (by omega), if_pos k] at hat
    rw [hat]; exact ⟨_, rfl, rfl, rfl⟩
   ·rw [if_pos k] at hat
    rw [hat]; exact ⟨_, rfl, rfl, rfl⟩
   ·rw [if_neg (by omega), if_pos k] at hat
    rw [hat]; exact ⟨_, rfl, rfl, rfl⟩
   ·rw [if_neg (by omega), if_neg (by omega), if_pos k] at hat
    rw [hat]; exact ⟨_, rfl, rfl, rfl⟩
  obtain ⟨t, u1, u2, u3⟩ := hu
  have hl : lkM (s.aft e).it e.a = some t := by rw [u1, lkM_up, if_pos rfl]
  rw [hl] at hR
  simp only [Option.isSome_some, if_true, Option.getD_some] at hR
  rw [hR]
  exact K.pt h hI u2 u3 u1
 rw [if_neg k7] at hR
 rw [hR]
 have hs : (s.aft e).fo = s.fo ∧ (s.aft e).fe = s.fe ∧ (s.aft e).it = s.it := by
  rw [if_neg (by omega), if_neg (by omega), if_neg (by omega)] at hat
  by_cases k12 : e.kind = 12
  ·rw [if_pos k12] at hat; rw [hat]; exact ⟨rfl, rfl, rfl⟩
  rw [if_neg k12] at hat
  by_cases k13 : e.kind = 13
  ·rw [if_pos k13] at hat; rw [hat]; exact ⟨rfl, rfl, rfl⟩
  rw [if_neg k13, PS.make, if_neg k1, if_neg k3, if_neg (by omega)] at hat
  by_cases k11 : e.kind = 11
  ·rw [if_pos k11] at hat; rw [hat]; exact ⟨rfl, rfl, rfl⟩
  ·rw [if_neg k11] at hat; rw [hat]; exact ⟨rfl, rfl, rfl⟩
 obtain ⟨q1, q2, q3⟩ := hs
 exact K.same (fun id => by rw [q1]) (fun id => by rw [q2]) (fun id => by rw [q3])
theorem mem_vals {α : Type} {z : α} {l : ML Int α} {k : Int} {a : α} (h : lkM l k = some a) : a ∈ valsM z l := by
 unfold valsM
 refine List.mem_map.2 ⟨k, ?_, by rw [h]; rfl⟩
 refine (List.mergeSort_perm _ _).mem_iff.2 ?_
 obtain ⟨n, hn⟩ := lkM_mem h
 exact List.mem_map.2 ⟨_, hn, rfl⟩
theorem vals_find {α : Type} {z : α} {l : ML Int α} (idf : α → Int) (hid : ∀ k a, lkM l k = some a → idf a = k) (x : Int) : (valsM z l).find? (fun a => decide (idf a = x)) = lkM l x := by
 cases hl : lkM l x with
 | none =>
  rw [List.find?_eq_none]
  intro a ha
  obtain ⟨k, hk⟩ := vals_mem ha
  have := hid k a hk
  simp only [decide_eq_true_eq]
  rintro rfl
  rw [this, hk] at hl; cases hl
 | some a =>
  have hm := mem_vals (z := z) hl
  have hs : ((valsM z l).find? (fun a => decide (idf a = x))).isSome = true := by
   rw [List.find?_isSome]
   exact ⟨a, hm, by simp [hid x a hl]⟩
  obtain ⟨b, hb⟩ := Option.isSome_iff_exists.1 hs
  have h1 := List.find?_some hb
  simp only [decide_eq_true_eq] at h1
  obtain ⟨k, hk⟩ := vals_mem (List.mem_of_find?_eq_some hb)
  have h2 := hid k b hk
  rw [hb, ← hl, ← h1, h2, hk]
theorem vals_ids {α : Type} {z : α} {l : ML Int α} {c : Nat} (w : WFM l c) (idf : α → Int) (hid : ∀ k a, lkM l k = some a → idf a = k) : (valsM z l).map idf = sortI (l.map (·.1)) := by
 unfold valsM
 rw [List.map_map]
 have : ∀ k ∈ sortI (l.map (·.1)), (idf ∘ fun k => (lkM l k).getD z) k = k := fun k hk => by
  have hk2 : k ∈ l.map (·.1) := (List.mergeSort_perm _ _).mem_iff.1 hk
  obtain ⟨x, hx, rfl⟩ := List.mem_map.1 hk2
  have := lkM_of_mem w.keys (b := x.2.2) (a := x.2.1) (x := x.1) hx
  simp only [Function.comp, this, Option.getD_some]
  exact hid _ _ this
 rw [List.map_congr_left this, List.map_id']
theorem sortI_nodup {l : List Int} (h : l.Nodup) : (sortI l).Nodup := (List.mergeSort_perm l _).nodup_iff.2 h
theorem foFold (F : List Fo) : ∀ (c : CS), (F.map (·.id)).Nodup →
  (∀ id, lkM (F.foldl CS.mkFo c).ab id = match F.find? (fun f => decide (f.id = id)) with | some f => some f.inn | none => lkM c.ab id) ∧
  (∀ id, lkM (F.foldl CS.mkFo c).fo id = match F.find? (fun f => decide (f.id = id)) with | some _ => some (0, 0) | none => lkM c.fo id) ∧
  (c.Wf → (F.foldl CS.mkFo c).Wf) ∧ (F.foldl CS.mkFo c).al = c.al ∧ (F.foldl CS.mkFo c).st = c.st ∧ (F.foldl CS.mkFo c).tg = c.tg ∧ (F.foldl CS.mkFo c).it = c.it ∧ (F.foldl CS.mkFo c).inn = c.inn ∧ (F.foldl CS.mkFo c).fe = c.fe := by
 induction F with
 | nil => intro c _; exact ⟨fun _ => rfl, fun _ => rfl, fun w => w, rfl, rfl, rfl, rfl, rfl, rfl⟩
 | cons f F ih =>
  intro c hn
  rw [List.map_cons, List.nodup_cons] at hn
  obtain ⟨a1, a2, a3, a4, a5, a6, a7, a8, a9⟩ := ih (c.mkFo f) hn.2
  have hno : ∀ id, f.id = id → F.find? (fun f => decide (f.id = id)) = none := fun id hid => by
   rw [List.find?_eq_none]
   intro g hg
   simp only [decide_eq_true_eq]
   intro q
   exact hn.1 (List.mem_map.2 ⟨g, hg, by rw [q, hid]⟩)
  refine ⟨fun id => ?_, fun id => ?_, fun w => a3 { w with w1 := w.w1.up _ _, w6 := w.w6.up _ _ }, a4, a5, a6, a7, a8, a9⟩
  ·rw [List.foldl_cons, a1, List.find?_cons]
   by_cases hid : f.id = id
   ·rw [hno id hid, decide_eq_true hid]
    show lkM (upM c.ab c.c6 f.id f.inn) id = _
    rw [lkM_up, if_pos hid.symm]
   ·rw [decide_eq_false hid]
    simp only
    cases F.find? (fun f => decide (f.id = id)) with
    | some g => rfl
    | none =>
     show lkM (upM c.ab c.c6 f.id f.inn) id = _
     rw [lkM_up, if_neg (fun q => hid q.symm)]
  ·rw [List.foldl_cons, a2, List.find?_cons]
   by_cases hid : f.id = id
   ·rw [hno id hid, decide_eq_true hid]
    show lkM (upM c.fo c.c1 f.id (0, 0)) id = _
    rw [lkM_up, if_pos hid.symm]
   ·rw [decide_eq_false hid]
    simp only
    cases F.find? (fun f => decide (f.id = id)) with
    | some g => rfl
    | none =>
     show lkM (upM c.fo c.c1 f.id (0, 0)) id = _
     rw [lkM_up, if_neg (fun q => hid q.symm)]
theorem feFold (F : List Fe) : ∀ (c : CS), (F.map (·.id)).Nodup →
  (∀ id, lkM (F.foldl CS.mkFe c).inn id = match F.find? (fun f => decide (f.id = id)) with | some f => some f.inn | none => lkM c.inn id) ∧
  (∀ id, lkM (F.foldl CS.mkFe c).fe id = match F.find? (fun f => decide (f.id = id)) with | some _ => some (0, 0) | none => lkM c.fe id) ∧
  (c.Wf → (F.foldl CS.mkFe c).Wf) ∧ (F.foldl CS.mkFe c).al = c.al ∧ (F.foldl CS.mkFe c).st = c.st ∧ (F.foldl CS.mkFe c).tg = c.tg ∧ (F.foldl CS.mkFe c).it = c.it ∧ (F.foldl CS.mkFe c).ab = c.ab ∧ (F.foldl CS.mkFe c).fo = c.fo := by
 induction F with
 | nil => intro c _; exact ⟨fun _ => rfl, fun _ => rfl, fun w => w, rfl, rfl, rfl, rfl, rfl, rfl⟩
 | cons f F ih =>
  intro c hn
  rw [List.map_cons, List.nodup_cons] at hn
  obtain ⟨a1, a2, a3, a4, a5, a6, a7, a8, a9⟩ := ih (c.mkFe f) hn.2
  have hno : ∀ id, f.id = id → F.find? (fun f => decide (f.id = id)) = none := fun id hid => by
   rw [List.find?_eq_none]
   intro g hg
   simp only [decide_eq_true_eq]
   intro q
   exact hn.1 (List.mem_map.2 ⟨g, hg, by rw [q, hid]⟩)
  refine ⟨fun id => ?_, fun id => ?_, fun w => a3 { w with w2 := w.w2.up _ _, w5 := w.w5.up _ _ }, a4, a5, a6, a7, a8, a9⟩
  ·rw [List.foldl_cons, a1, List.find?_cons]
   by_cases hid : f.id = id
   ·rw [hno id hid, decide_eq_true hid]
    show lkM (upM c.inn c.c5 f.id f.inn) id = _
    rw [lkM_up, if_pos hid.symm]
   ·rw [decide_eq_false hid]
    simp only
    cases F.find? (fun f => decide (f.id = id)) with
    | some g => rfl
    | none =>
     show lkM (upM c.inn c.c5 f.id f.inn) id = _
     rw [lkM_up, if_neg (fun q => hid q.symm)]
  ·rw [List.foldl_cons, a2, List.find?_cons]
   by_cases hid : f.id = id
   ·rw [hno id hid, decide_eq_true hid]
    show lkM (upM c.fe c.c2 f.id (0, 0)) id = _
    rw [lkM_up, if_pos hid.symm]
   ·rw [decide_eq_false hid]
    simp only
    cases F.find? (fun f => decide (f.id = id)) with
    | some g => rfl
    | none =>
     show lkM (upM c.fe c.c2 f.id (0, 0)) id = _
     rw [lkM_up, if_neg (fun q => hid q.symm)]
theorem Kp.of0 (h : s.Inv) : Kp (CS.of0 s.tell) { s with it := [], c3 := 0 } := by
 have n1 : ((valsM Fo.z s.fo).map (·.id)).Nodup := by rw [vals_ids h.w1 _ fun k f hk => (h.i1 k f hk).1]; exact sortI_nodup h.w1.keys
 have n2 : ((valsM Fe.z s.fe).map (·.id)).Nodup := by rw [vals_ids h.w2 _ fun k f hk => (h.i2 k f hk).1]; exact sortI_nodup h.w2.keys
 obtain ⟨a1, a2, a3, a4, a5, a6, a7, a8, a9⟩ := foFold (valsM Fo.z s.fo) CS.z n1
 obtain ⟨b1, b2, b3, b4, b5, b6, b7, b8, b9⟩ := feFold (valsM Fe.z s.fe) ((valsM Fo.z s.fo).foldl CS.mkFo CS.z) n2
 have f1 := vals_find (z := Fo.z) (l := s.fo) (·.id) fun k f hk => (h.i1 k f hk).1
 have f2 := vals_find (z := Fe.z) (l := s.fe) (·.id) fun k f hk => (h.i2 k f hk).1
 have hz : CS.z.Wf := ⟨.nil, .nil, .nil, .nil, .nil, .nil⟩
 have e0 : CS.of0 s.tell = (valsM Fe.z s.fe).foldl CS.mkFe ((valsM Fo.z s.fo).foldl CS.mkFo CS.z) := rfl
 rw [← e0] at b1 b2 b3 b4 b5 b6 b7 b8 b9
 have hit : (CS.of0 s.tell).it = [] := by rw [b7, a7]; rfl
 refine ⟨b3 (a3 hz), ?_, fun id => by rw [hit], fun id => ?_, fun id => ?_, fun id => ?_, fun id => ?_, by rw [hit]; simp⟩
 ·rw [hit]
  refine ⟨by rw [b4, a4]; rfl, by rw [b5, a5]; rfl, fun id hi => ?_, fun id hi => ?_, fun g => by rw [b6, a6]; rfl⟩
  ·rw [b2, f2] at hi ⊢
   cases hl : lkM s.fe id with
   | some f => rfl
   | none => rw [hl, a9] at hi; cases hi
  ·rw [b9, a2, f1] at hi ⊢
   cases hl : lkM s.fo id with
   | some f => rfl
   | none => rw [hl] at hi; cases hi
 ·rw [b1, f2, a8]
  cases lkM s.fe id <;> rfl
 ·rw [b8, a1, f1]
  cases lkM s.fo id <;> rfl
 ·rw [b2, f2, a9]
  cases lkM s.fe id <;> rfl
 ·rw [b9, a2, f1]
  cases lkM s.fo id <;> rfl
theorem inv_sub (h : s.Inv) {I : ML Int It} {c3 : Nat} (w : WFM I c3) (hs : ∀ k t, lkM I k = some t → lkM s.it k = some t) (hl : I.length ≤ 1024) : PS.Inv { s with it := I, c3 := c3 } :=
 { h with
  w3 := w
  i3 := fun k t hk => h.i3 k t (hs k t hk)
  u3 := fun k t hk => h.u3 k t (hs k t hk)
  tg := fun k t hk => h.tg k t (hs k t hk)
  l3 := hl }
theorem vals_len {α : Type} {z : α} (l : ML Int α) : (valsM z l).length = l.length := by unfold valsM; rw [List.length_map, sortI_len, List.length_map]
theorem new_keep (h : s.Inv) : ∀ k, k ≤ (valsM It.z s.it).length → ∃ I c3, Kp (((valsM It.z s.it).take k).foldl CS.putF (CS.of0 s.tell)) { s with it := I, c3 := c3 } ∧ PS.Inv { s with it := I, c3 := c3 } ∧ I.length ≤ k ∧
  ∀ id, lkM I id = ((valsM It.z s.it).take k).find? (fun t => decide (t.id = id)) := by
 have hid : ∀ k t, lkM s.it k = some t → t.id = k := fun k t hk => (h.i3 k t hk).1
 have f3 := vals_find (z := It.z) (l := s.it) (·.id) hid
 have n3 : ((valsM It.z s.it).map (·.id)).Nodup := by rw [vals_ids h.w3 _ hid]; exact sortI_nodup h.w3.keys
 have hlen := vals_len (z := It.z) s.it
 have h3 := h.l3
 intro k
 induction k with
 | zero => intro _; exact ⟨[], 0, Kp.of0 h, inv_sub h .nil (fun _ _ h => by cases h) (by simp), by simp, fun _ => rfl⟩
 | succ k ih =>
  intro hk
  obtain ⟨I, c3, K, hI, hl, hf⟩ := ih (by omega)
  obtain ⟨t, ht, htm⟩ := getElem?_of_lt (show k < (valsM It.z s.it).length by omega)
  obtain ⟨j, hj⟩ := vals_mem htm
  have hjt := hid j t hj
  have hnew : lkM I t.id = none := by
   rw [hf, List.find?_eq_none]
   intro u hu
   simp only [decide_eq_true_eq]
   intro q
   obtain ⟨i, hi⟩ := List.getElem?_of_mem hu
   have hik : i < k := by have := (List.getElem?_eq_some_iff.1 hi).1; rw [List.length_take] at this; omega
   rw [List.getElem?_take_of_lt hik] at hi
   have h1 : ((valsM It.z s.it).map (·.id))[i]? = some t.id := by rw [List.getElem?_map, hi]; simp [q]
   have h2 : ((valsM It.z s.it).map (·.id))[k]? = some t.id := by rw [List.getElem?_map, ht]; rfl
   have := (List.getElem?_inj (by rw [List.length_map]; omega) n3).1 (h1.trans h2.symm)
   omega
  have hul : (upM I c3 t.id t).length ≤ k + 1 := by rw [upM_len, hnew]; simp; omega
  have hI2 : PS.Inv { s with it := upM I c3 t.id t, c3 := ckM I c3 t.id } := inv_sub h (hI.w3.up _ _) (fun k' t' hk' => by
   rcases lk_upC hk' with ⟨rfl, rfl⟩ | ⟨_, hk'⟩
   ·rw [hjt]; exact hj
   ·rw [hf] at hk'
    have h1 := List.find?_some hk'
    simp only [decide_eq_true_eq] at h1
    obtain ⟨q, hq⟩ := vals_mem (List.mem_of_mem_take (List.mem_of_find?_eq_some hk'))
    rw [← h1, hid q t' hq]; exact hq) (by omega)
  refine ⟨_, _, ?_, hI2, hul, fun id => ?_⟩
  ·rw [foldl_take _ _ _ ht]
   exact K.pt hI hI2 rfl rfl rfl
  ·rw [lkM_up, List.take_add_one, ht, List.find?_append, hf]
   by_cases hx : id = t.id
   ·rw [if_pos hx, hx, ← hf, hnew]
    simp
   ·rw [if_neg hx]
    cases ((valsM It.z s.it).take k).find? (fun t => decide (t.id = id)) with
    | some u => rfl
    | none =>
     have : ¬ t.id = id := fun q => hx q.symm
     simp [this]
theorem Kp.new (h : s.Inv) : Kp (CS.ofSt s.tell) s := by
 obtain ⟨I, c3, K, _, _, hf⟩ := new_keep h _ (Nat.le_refl _)
 rw [List.take_length] at K hf
 have f3 := vals_find (z := It.z) (l := s.it) (·.id) fun k t hk => (h.i3 k t hk).1
 exact ⟨K.wf, K.tal, fun id => (K.it id).trans ((hf id).trans (f3 id)), K.inn, K.ab, K.fe, K.fo, K.len⟩
theorem new_ready (h : s.Inv) (k : Nat) (t : It) (ht : s.tell.it[k]? = some t) : ((s.tell.it.take k).foldl CS.putF (CS.of0 s.tell)).Own ∧ Rdy ((s.tell.it.take k).foldl CS.putF (CS.of0 s.tell)) t ∧ t.tags.length ≤ 8 := by
 have hk := (List.getElem?_eq_some_iff.1 ht).1
 obtain ⟨I, c3, K, hI, _, _⟩ := new_keep h k (Nat.le_of_lt hk)
 obtain ⟨j, hj⟩ := vals_mem (List.mem_of_getElem? ht)
 exact ⟨K.own hI, K.rdy hI (h.u3 j t hj) (h.tg j t hj).1, (h.tg j t hj).2⟩
end Go.Av
namespace Go.Av
open Go Go.Proofs Go.RowKit
attribute [local irreducible] WP WPl WPix Sat
set_option maxRecDepth 100000
set_option maxHeartbeats 2000000
def sc (Y : Heap) (n : Nat) (s : PS) (m : Nat) (c : CS) : Heap := so (co Y m c) n s
section
variable {Y : Heap} {n m : Nat} {s : PS} {c : CS}
theorem sc_co (hn : n + 9 ≤ m) (hm : m + 7 ≤ Y.length) : sc Y n s m c = co (so Y n s) m c := so_co s c hn hm
@[go_sem] theorem sc_app (hn : n + 9 ≤ m) (hm : m + 7 ≤ Y.length) (j : Heap) : sc Y n s m c ++ j = sc (Y ++ j) n s m c := by
 unfold sc; rw [so_app (by rw [co_len hm]; omega), co_app hm]
@[go_sem] theorem sc_len (hn : n + 9 ≤ m) (hm : m + 7 ≤ Y.length) : (sc Y n s m c).length = Y.length := by
 unfold sc; rw [so_len (by rw [co_len hm]; omega), co_len hm]
@[go_sem] theorem sc_row (hn : n + 9 ≤ m) (hm : m + 7 ≤ Y.length) {p : Nat} (v : Nat) (hp : m + 7 ≤ p) : getRow (sc Y n s m c) p v = getRow Y p v := by
 unfold sc; rw [so_row' (by rw [co_len hm]; omega) v (by omega), co_row' hm v hp]
@[go_sem] theorem sc_set (hn : n + 9 ≤ m) (hm : m + 7 ≤ Y.length) {p : Nat} (b : Blk) (hp : m + 7 ≤ p) : (sc Y n s m c).set p b = sc (Y.set p b) n s m c := by
 unfold sc; rw [so_set' (by rw [co_len hm]; omega) b (by omega), co_set' hm b hp]
@[go_sem] theorem sc_eqs (hn : n + 9 ≤ m) (hm : m + 7 ≤ Y.length) : abin Tryz.prog (sc Y n s m c) .eql 27 (.hp (n + 8) 0 0 0) (.nil (.pointer none)) = some (.bool false) := by
 unfold sc; exact so_eql (by rw [co_len hm]; omega)
@[go_sem] theorem sc_eqc (hn : n + 9 ≤ m) (hm : m + 7 ≤ Y.length) : abin Tryz.prog (sc Y n s m c) .eql 25 (.hp (m + 6) 0 0 0) (.nil (.pointer none)) = some (.bool false) := by
 rw [sc_co hn hm]; exact co_eql (by rw [so_len (by omega)]; exact hm)
theorem sc_pre (hn : n + 9 ≤ m) {h j : Heap} (hm : m + 7 ≤ (h ++ j).length) (hh : h.length ≤ n) : ∃ j', sc (h ++ j) n s m c = h ++ j' := by
 refine ⟨(sc (h ++ j) n s m c).drop h.length, ?_⟩
 have hl := sc_len (s := s) (c := c) hn hm
 apply List.ext_getElem?
 intro p
 by_cases hp : p < h.length
 ·rw [List.getElem?_append_left hp]
  unfold sc so co
  rw [ov_out (by show n + 9 ≤ _; rw [ov_len hm]; omega) (.inl (by omega)), ov_out hm (.inl (by omega)), List.getElem?_append_left hp]
 ·rw [List.getElem?_append_right (by omega), List.getElem?_drop]; congr 1; omega
end
variable (G : Nat → Option (List AVal))
section
variable {Y : Heap} {n m : Nat} {s : PS} {c : CS}
theorem ZOf (hn : n + 9 ≤ m) (hm : m + 7 ≤ Y.length) (kind id : Int) (g : Bs) : Sat (CT G) 18 [.hp (m + 6) 0 0 0, .int .i64 kind, .int .i64 id, .str g] (sc Y n s m c) (fun r h' => r = .tup [.int .i64 (c.of kind id g).1, .int .i64 (c.of kind id g).2] ∧ h' = sc Y n s m c) := by
 rw [sc_co hn hm]; exact CSOf_sat G c kind id g (by rw [so_len (by omega)]; exact hm)
theorem ZTell (h : s.Inv) (hn : n + 9 ≤ m) (hm : m + 7 ≤ Y.length) : Sat (CT G) 22 [.hp (n + 8) 0 0 0] (sc Y n s m c) (fun r h' => r = s.tell.av ∧ h' = sc Y n s m c) :=
 PSTell_sat G s h.toOk (by rw [co_len hm]; omega)
theorem ZApply (h : s.Inv) (e : Ev) (hn : n + 9 ≤ m) (hm : m + 7 ≤ Y.length) : Sat (CT G) 21 [.hp (n + 8) 0 0 0, e.av] (sc Y n s m c) (fun r h' => r = .bool (s.ok L0 e) ∧ h' = sc Y n (s.step L0 e) m c) :=
 Apply0_sat G s h e (by rw [co_len hm]; omega)
theorem ZNew (h : s.Inv) {H : Heap} {n : Nat} (hn : n + 9 ≤ H.length) : Sat (CT G) 12 [.hp (n + 8) 0 0 0] (so H n s) (fun r h' => r = .hp (H.length + 6) 0 0 0 ∧ h' = sc (H ++ CS.z.bl H.length) n s H.length (CS.ofSt s.tell)) := by
 have h0 := CSNew_sat G s.tell (.hp (n + 8) 0 0 0) (so H n s) (fun j => by
  rw [so_app hn]; exact PSTell_sat G s h.toOk (by simp; omega)) (new_ready h) (by have := vals_len (z := Fo.z) s.fo; have := h.l1; show (valsM Fo.z s.fo).length ≤ _; omega) (by have := vals_len (z := Fe.z) s.fe; have := h.l2; show (valsM Fe.z s.fe).length ≤ _; omega) (by have := vals_len (z := It.z) s.it; have := h.l3; show (valsM It.z s.it).length ≤ _; omega)
 rw [so_len hn, so_app hn] at h0
 refine h0.mono fun r h' ⟨h1, h2⟩ => ⟨h1, ?_⟩
 rw [h2, sc_co hn (by simp [CS.bl])]
theorem ZStep {s : PS} (Kc : Kp c s) (h : s.Inv) (e : Ev) (hok : s.ok L0 e = true) (hn : n + 9 ≤ m) (hm : m + 7 ≤ Y.length) : Sat (CT G) 20 [.hp (m + 6) 0 0 0, .hp (n + 8) 0 0 0, e.av] (sc Y n (s.aft e) m c)
  (fun r h' => r = .tup [] ∧ ∃ d, Kp d (s.aft e) ∧ h' = sc Y n (s.aft e) m d) := by
 have hI : (s.aft e).Inv := by have := h.step (L := L0) e; unfold PS.step at this; rw [if_pos hok] at this; exact this
 rw [sc_co hn hm]
 have hr : e.kind ≠ 13 → 1 ≤ e.a := fun hk => by
  unfold PS.ok PS.fits at hok
  rw [Bool.and_eq_true] at hok
  have := hok.1
  unfold Leaf.ck at this; simp only [Bool.and_eq_true] at this
  exact (right_id this.1 hk).1
 refine (CSStep_sat G c (Kc.own h) e (n + 8) ((lkM (s.aft e).it e.a).getD It.z) (lkM (s.aft e).it e.a).isSome (H := so Y n (s.aft e)) (by rw [so_len (by omega)]; exact hm) (fun _ j => ?_) (fun hk hb => ?_) (fun hk => ?_)).mono fun r h' ⟨h1, d, h2, h3⟩ => ⟨h1, d, Kc.step h hok h2, by rw [h3, sc_co hn hm]⟩
 ·rw [so_app (by omega), ← so_co _ _ hn (by simp; omega)]
  exact PSItem_sat G (s.aft e) e.a (by have := (hI.tags e.a).2; omega) (by rw [co_len (by simp; omega)]; simp; omega)
 ·obtain ⟨t, ht⟩ := Option.isSome_iff_exists.1 hb
  rw [ht]
  have hfe : (s.aft e).fe = s.fe := by
   have hat : s.aft e = s.after (tgF ((lkM s.it e.a).getD It.z).tags e.s e.n) e := rfl
   unfold PS.after at hat
   rcases hk with k | k | k | k
   ·rw [if_neg (by omega), if_neg (by omega), if_neg (by omega), if_neg (by omega), if_neg (by omega), if_neg (by omega), if_neg (by omega), if_neg (by omega), if_neg (by omega), PS.make, if_neg (by omega), if_neg (by omega), if_pos k] at hat
    rw [hat]; rfl
   ·rw [if_neg (by omega), if_neg (by omega), if_neg (by omega), if_neg (by omega), if_pos k] at hat
    rw [hat]; rfl
   ·rw [if_neg (by omega), if_neg (by omega), if_neg (by omega), if_neg (by omega), if_neg (by omega), if_pos k] at hat
    rw [hat]; rfl
   ·rw [if_neg (by omega), if_neg (by omega), if_neg (by omega), if_neg (by omega), if_neg (by omega), if_neg (by omega), if_pos k] at hat
    rw [hat]; rfl
  have h1 := hI.u3 _ _ ht
  rw [hfe] at h1
  exact ⟨Kc.rdy h h1 (hI.tg _ _ ht).1, (hI.tg _ _ ht).2⟩
 ·have hw : e.b = 0 ∨ (lkM s.fo e.b).isSome = true := by
   unfold PS.ok PS.fits at hok
   rw [Bool.and_eq_true] at hok
   have hf := hok.2
   rw [if_neg (by omega), if_neg (by omega), if_neg (by omega), if_neg (by omega), if_pos hk, Bool.and_eq_true] at hf
   exact within_of hf.2
  obtain ⟨l, a1, _, a2, _⟩ := Kc.chain h (Kc.up h e.a)
  obtain ⟨l', b1, _, b2, _⟩ := Kc.chain h hw
  exact ⟨⟨l, a1, a2⟩, l', b1, b2⟩
end
def lgE (e : Ev) : Bool := decide ((e.s.length : Int) > 1000) || (decide ((e.t.length : Int) > 1000) || decide ((e.u.length : Int) > 1000))
theorem Large_sat (e : Ev) (h : Heap) : Sat (CT G) 40 [e.av] h (fun r h' => r = .bool (lgE e) ∧ h' = h) := by
 refine sb [.tmp 2] (fn := Tryz.f40) Tryz.func40 ?_
 intro Q hQ
 refine wk trivial ?_
 cases k1 : decide ((e.s.length : Int) > 1000) with
 | true =>
  have F := k1
  try refine sq F ?_
  refine wk F ?_
  refine ee hQ F ?_
  exact Fin.plain (.bool _) ⟨by simp [lgE, k1], rfl⟩
 | false =>
  cases k2 : decide ((e.t.length : Int) > 1000) with
  | true =>
   have F := F2 k1 k2
   try refine sq F ?_
   refine wk F ?_
   refine ee hQ F ?_
   exact Fin.plain (.bool _) ⟨by simp [lgE, k1, k2], rfl⟩
  | false =>
   have F := F2 k1 k2
   try refine sq F ?_
   refine wk F ?_
   refine ee hQ F ?_
   exact Fin.plain (.bool _) ⟨by simp [lgE, k1, k2], rfl⟩
def lgF (es : List Ev) : Bool := decide ((es.length : Int) > 150) || es.any lgE
theorem LargeEvents_sat (es : List Ev) (h : Heap) : Sat (CT G) 10 [.sl 7 (es.map Ev.av)] h (fun r h' => r = .bool (lgF es) ∧ h' = h) := by
 refine sb [.tmp 2] (fn := Tryz.f10) Tryz.func10 ?_
 intro Q hQ
 refine wk trivial ?_
 have hel : (es.map Ev.av).length = es.length := List.length_map ..
 have F := hel
 try refine sq F ?_
 refine cq F (fun c0 => ?_) (fun c0 => ?_) <;> (try exact c0.elim) <;> (refine wk F ?_)
 ·refine ee hQ F ?_
  exact Fin.same (.bool _) ⟨by simp [lgF]; omega, rfl⟩
 ·refine lm (fun nL tL hL => ∃ (k : Nat), es.length - k = nL ∧ [] ++ h = hL ∧ tL 0 = .sl 7 (es.map Ev.av) ∧ tL 3 = .int .i64 k ∧ k ≤ es.length ∧ (∀ e ∈ es.take k, lgE e = false)) ((fun (k : Nat) => (es.length - k : Nat)) (0)) ?_ ?_
  ·refine Wkn.refl ⟨0, rfl, rfl, ?_, ?_, by omega, by simp⟩
   all_goals first | exact zq F | rfl | omega | trivial | skip
  rintro _ s2 h' ⟨k, rfl, rfl, e0, e3, hk, hp⟩ K2 hK2
  simp only [mix_cons, mix_nil, Nat.reduceEqDiff, ↓reduceIte] at e0 e3
  have F := F3 F e0 e3
  refine wk F ?_
  refine cq F (fun c1 => ?_) (fun c1 => ?_) <;> (try exact c1.elim) <;> (refine wk F ?_)
  ·have c2 : k < es.length := by omega
   obtain ⟨e, he, _⟩ := getElem?_of_lt c2
   have F := F3 F c2 he
   try refine sq F ?_
   refine wk F ?_
   refine kq F (Large_sat G e _) ?_
   refine cq F (fun c3 => ?_) (fun c3 => ?_) <;> (try exact c3.elim) <;> (refine wk F ?_)
   ·refine ee hQ F ?_
    exact Fin.same (.bool _) ⟨by
     have : es.any lgE = true := List.any_eq_true.2 ⟨e, List.mem_of_getElem? he, c3⟩
     simp [lgF, this], rfl⟩
   ·have hp1 : ∀ x ∈ es.take (k + 1), lgE x = false := by
     rw [List.take_add_one, he]
     intro x hx
     simp at hx
     rcases hx with hx | rfl
     ·exact hp x hx
     ·exact c3
    refine hK2 _ _ _ (Wkn.refl ⟨k + 1, rfl, rfl, ?_, ?_, by omega, hp1⟩) (by omega)
    all_goals first | exact zq F | rfl | omega | trivial | skip
  ·rw [List.take_of_length_le (by omega)] at hp
   refine ee hQ F ?_
   exact Fin.same (.bool _) ⟨by
    have : es.any lgE = false := by rw [List.any_eq_false]; intro x hx; rw [hp x hx]; simp
    simp [lgF, this]; omega, rfl⟩
instance : DecidableEq Ct := fun x y => by
 cases x; cases y; simp only [Ct.mk.injEq]; exact inferInstance
@[go_sem] theorem abin_ct (h : Heap) (d e : Ct) : abin Tryz.prog h .neq 88 (.agg [.int .i64 d.kind, .int .i64 d.id, .str d.tag, .int .i64 d.all, .int .i64 d.un]) (.agg [.int .i64 e.kind, .int .i64 e.id, .str e.tag, .int .i64 e.all, .int .i64 e.un]) = some (.bool (!decide (d = e))) := by
 obtain ⟨a1, a2, a3, a4, a5⟩ := d
 obtain ⟨b1, b2, b3, b4, b5⟩ := e
 simp only [abin, go_sem, aeqL, aeq1, ↓reduceIte, Option.map_some, Option.some.injEq, AVal.bool.injEq, Ct.mk.injEq, Bool.not_inj_iff]
 rw [Bool.eq_iff_iff]
 simp
theorem Same_sat (a b : List Ct) (ha : a.length ≤ 1000000) (hb : b.length ≤ 1000000) (h : Heap) : Sat (CT G) 15 [.sl 5 (a.map Ct.av), .sl 5 (b.map Ct.av)] h (fun r h' => r = .bool (decide (a = b)) ∧ h' = h) := by
 have ela : (a.map Ct.av).length = a.length := List.length_map ..
 have elb : (b.map Ct.av).length = b.length := List.length_map ..
 have F := F2 @ela @elb
 refine sb [.tmp 4] (fn := Tryz.f15) Tryz.func15 ?_
 intro Q hQ
 refine wk F ?_
 refine cq F (fun c0 => ?_) (fun c0 => ?_) <;> (try exact c0.elim) <;> (refine wk F ?_)
 ·refine ee hQ F ?_
  exact Fin.same (.bool _) ⟨by simp; rintro rfl; omega, rfl⟩
 ·refine lm (fun nL tL hL => ∃ (k : Nat), a.length - k = nL ∧ [] ++ h = hL ∧ tL 0 = .sl 5 (a.map Ct.av) ∧ tL 1 = .sl 5 (b.map Ct.av) ∧ tL 5 = .int .i64 k ∧ k ≤ a.length ∧ a.take k = b.take k) ((fun (k : Nat) => (a.length - k : Nat)) (0)) ?_ ?_
  ·refine Wkn.refl ⟨0, rfl, rfl, ?_, ?_, ?_, by omega, by simp⟩
   all_goals first | exact zq F | rfl | omega | trivial | skip
  rintro _ s2 h' ⟨k, rfl, rfl, e0, e1, e5, hk, hp⟩ K2 hK2
  simp only [mix_cons, mix_nil, Nat.reduceEqDiff, ↓reduceIte] at e0 e1 e5
  have F := F4 F e0 e1 e5
  refine wk F ?_
  refine cq F (fun c1 => ?_) (fun c1 => ?_) <;> (try exact c1.elim) <;> (refine wk F ?_)
  ·have c2 : k < a.length := by omega
   have c2b : k < b.length := by omega
   obtain ⟨x, hx, _⟩ := getElem?_of_lt c2
   obtain ⟨y, hy, _⟩ := getElem?_of_lt c2b
   have F := F5 F c2 @c2b hx hy
   try refine sq F ?_
   refine wk F ?_
   refine cq F (fun c3 => ?_) (fun c3 => ?_) <;> (try exact c3.elim) <;> (refine wk F ?_)
   ·refine ee hQ F ?_
    exact Fin.same (.bool _) ⟨by
     simp
     rintro rfl
     rw [hx] at hy; cases hy
     simp at c3, rfl⟩
   ·have c4 : x = y := by simpa using c3
    have hp1 : a.take (k + 1) = b.take (k + 1) := by rw [List.take_add_one, List.take_add_one, hx, hy, hp, c4]
    refine hK2 _ _ _ (Wkn.refl ⟨k + 1, rfl, rfl, ?_, ?_, ?_, by omega, hp1⟩) (by omega)
    all_goals first | exact zq F | rfl | omega | trivial | skip
  ·rw [List.take_of_length_le (by omega), List.take_of_length_le (by omega)] at hp
   refine ee hQ F ?_
   exact Fin.same (.bool _) ⟨by simp [hp], rfl⟩
end Go.Av
namespace Go.Av
open Go Go.Proofs Go.RowKit
attribute [local irreducible] WP WPl WPix Sat
set_option maxRecDepth 100000
set_option maxHeartbeats 2000000
variable (G : Nat → Option (List AVal))
def St.inn (x : St) (id : Int) : Int := ((fnd (·.id) x.fo id).map (·.inn)).getD 0
def St.upW (x : St) (u : Int) : Nat → Int → Int
 | 0, id => id
 | k + 1, id => if id = u ∨ id = 0 then id else St.upW x u k (x.inn id)
def St.within (x : St) (id u : Int) : Bool := decide (x.upW u 10 id = u) || decide (u = 0)
def St.has (x : St) (id : Int) : Prop := id = 0 ∨ ∃ f, fnd (·.id) x.fo id = some f
structure St.Up (x : St) : Prop where
 fo : ∀ f ∈ x.fo, x.has f.inn
 fe : ∀ f ∈ x.fe, x.has f.inn
 it : ∀ t ∈ x.it, ∃ f, fnd (·.id) x.fe t.feed = some f
 l1 : x.fo.length ≤ 64
 l2 : x.fe.length ≤ 64
 l3 : x.it.length ≤ 1024
 tg : ∀ t ∈ x.it, t.tags.length ≤ 8
theorem RWithin_sat (x : St) (hx : x.Up) (id u : Int) (hid : x.has id) (h : Heap) : Sat (CT G) 142 [x.av, .int .i64 id, .int .i64 u] h (fun r h' => r = .bool (x.within id u) ∧ h' = h) := by
 have hel : (x.fo.map Fo.av).length = x.fo.length := List.length_map ..
 have hl1 := hx.l1
 have hup0 : ∀ i : Int, (i = u ∨ i = 0) → ∀ k, x.upW u k i = i := fun i hi k => by
  cases k with
  | zero => rfl
  | succ k => rw [St.upW, if_pos hi]
 have F := hel
 refine sb [.tmp 6] (fn := Tryz.f142) Tryz.func142 ?_
 intro Q hQ
 refine wk F ?_
 refine lm (fun nL tL hL => ∃ (n : Nat) (i : Int), 10 - n = nL ∧ h ++ [.row 34 9 0 [x.av]] = hL ∧ tL 1 = .int .i64 i ∧ tL 2 = .int .i64 u ∧ tL 3 = .hp h.length 0 0 0 ∧ tL 7 = .int .i64 n ∧ n ≤ 10 ∧ x.has i ∧ x.upW u (10 - n) i = x.upW u 10 id) ((fun (n : Nat) (i : Int) => (10 - n : Nat)) (0) (id)) ?_ ?_
 ·refine Wkn.refl ⟨0, id, rfl, hpE, ?_, ?_, ?_, ?_, by omega, hid, rfl⟩
  all_goals first | exact zq F | rfl | omega | trivial | skip
 rintro _ s2 h' ⟨n, i, rfl, rfl, e1, e2, e3, e7, hk, hi, hu⟩ K2 hK2
 simp only [mix_cons, mix_nil, Nat.reduceEqDiff, ↓reduceIte] at e1 e2 e3 e7
 have F := F5 F e1 e2 e3 e7
 refine wk F ?_
 have fin : ∀ b : Bool, b = x.within id u → Fin h (h ++ [.row 34 9 0 [x.av]]) (fun r h' => r = .bool (x.within id u) ∧ h' = h) (.bool b) := fun b hb => Fin.plain (.bool _) ⟨by rw [hb], rfl⟩
 have fin2 : x.upW u 10 id = i → x.within id u = (decide (i = u) || decide (u = 0)) := fun e => by rw [St.within, e]
 by_cases c1 : (n : Int) < 10
 ·have d1 : decide ((n : Int) < 10) = true := by simp [c1]
  have F := F2 F d1
  try refine sq F ?_
  refine wk F ?_
  by_cases c2 : i = u
  ·have y2 := fin2 (by rw [← hu, hup0 i (.inl c2)])
   have d2 : (i == u) = true := by simp [c2]
   have d3 : (i != u) = false := by simp [c2]
   have F := F3 F d2 d3
   try refine sq F ?_
   refine wk F ?_
   refine ee hQ F ?_
   exact fin _ (by rw [y2]; simp [c2])
  ·have d2 : (i == u) = false := by simp [c2]
   have d3 : (i != u) = true := by simp [c2]
   have F := F3 F d2 d3
   try refine sq F ?_
   refine wk F ?_
   refine cq F (fun c3 => ?_) (fun c3 => ?_) <;> (try exact c3.elim) <;> (refine wk F ?_)
   ·obtain ⟨f, hf⟩ : ∃ f, fnd (·.id) x.fo i = some f := by
     rcases hi with hi | hi
     ·exact (c3 hi).elim
     ·exact hi
    obtain ⟨k, hk1, hk2, hk3⟩ := posF_at hf
    have hin : x.inn i = f.inn := by unfold St.inn; rw [hf]; rfl
    have hkl : k < x.fo.length := (List.getElem?_eq_some_iff.1 hk1).1
    have hn : n ≤ 9 := by omega
    have hst : x.upW u (10 - (n + 1)) f.inn = x.upW u 10 id := by
     rw [← hu, show 10 - n = (10 - (n + 1)) + 1 by omega, St.upW, if_neg (by rintro (q | q); exact c2 q; exact c3 q), hin]
    have hF := RFolder_sat G x i (by omega)
    rw [hk2] at hF
    have F := F3 F hk1 hkl
    refine callS_of (hF _) ?_
    try refine sq F ?_
    refine wk F ?_
    refine hK2 _ _ _ (Wkn.refl ⟨n + 1, f.inn, rfl, hpE, ?_, ?_, ?_, ?_, by omega, hx.fo f (List.mem_of_getElem? hk1), hst⟩) (by omega)
    all_goals first | exact zq F | rfl | omega | trivial | skip
   ·have c4 : i = 0 := by simpa using c3
    have y2 := fin2 (by rw [← hu, hup0 i (.inr c4)])
    refine ee hQ F ?_
    exact fin _ (by rw [y2]; simp [c2]; try rw [Bool.eq_iff_iff]; try simp)
 ·have d1 : decide ((n : Int) < 10) = false := by simp [c1]
  have hn : 10 - n = 0 := by omega
  have y2 := fin2 (by rw [← hu, hn]; rfl)
  have F := F2 F d1
  try refine sq F ?_
  refine wk F ?_
  by_cases c2 : i = u
  ·have d2 : (i == u) = true := by simp [c2]
   have F := F2 F d2
   try refine sq F ?_
   refine wk F ?_
   refine ee hQ F ?_
   exact fin _ (by rw [y2]; simp [c2])
  ·have d2 : (i == u) = false := by simp [c2]
   have F := F2 F d2
   try refine sq F ?_
   refine wk F ?_
   refine ee hQ F ?_
   exact fin _ (by rw [y2]; simp [c2]; try rw [Bool.eq_iff_iff]; try simp)
theorem Rtagged_sat (t : It) (g : Bs) (hl : t.tags.length ≤ 100000) (h : Heap) : Sat (CT G) 143 [t.av, .str g] h (fun r h' => r = .bool (decide (g ∈ t.tags)) ∧ h' = h) := by
 have hel : (t.tags.map AVal.str).length = t.tags.length := List.length_map ..
 have F := hel
 refine sb [.tmp 4] (fn := Tryz.f143) Tryz.func143 ?_
 intro Q hQ
 refine wk F ?_
 refine lm (fun nL tL hL => ∃ (k : Nat), t.tags.length - k = nL ∧ h ++ [.row 82 9 0 [t.av]] = hL ∧ tL 1 = .str g ∧ tL 2 = .hp h.length 0 0 0 ∧ tL 5 = .int .i64 k ∧ k ≤ t.tags.length ∧ g ∉ t.tags.take k) ((fun (k : Nat) => (t.tags.length - k : Nat)) (0)) ?_ ?_
 ·refine Wkn.refl ⟨0, rfl, hpE, ?_, ?_, ?_, by omega, by simp⟩
  all_goals first | exact zq F | rfl | omega | trivial | skip
 rintro _ s2 h' ⟨k, rfl, rfl, e1, e2, e5, hk, hp⟩ K2 hK2
 simp only [mix_cons, mix_nil, Nat.reduceEqDiff, ↓reduceIte] at e1 e2 e5
 have F := F4 F e1 e2 e5
 refine wk F ?_
 refine cq F (fun c1 => ?_) (fun c1 => ?_) <;> (try exact c1.elim) <;> (refine wk F ?_)
 ·have c2 : k < t.tags.length := by omega
  obtain ⟨f, hf, hfm⟩ := getElem?_of_lt c2
  have F := F3 F c2 hf
  try refine sq F ?_
  refine wk F ?_
  refine cq F (fun c3 => ?_) (fun c3 => ?_) <;> (try exact c3.elim) <;> (refine wk F ?_)
  ·refine ee hQ F ?_
   exact Fin.plain (.bool _) ⟨by rw [decide_eq_true (by rw [← c3]; exact hfm)], rfl⟩
  ·have hp1 : g ∉ t.tags.take (k + 1) := by
    rw [List.take_add_one, hf]
    intro q
    simp at q
    rcases q with q | q
    ·exact hp q
    ·exact c3 q.symm
   refine hK2 _ _ _ (Wkn.refl ⟨k + 1, rfl, hpE, ?_, ?_, ?_, by omega, hp1⟩) (by omega)
   all_goals first | exact zq F | rfl | omega | trivial | skip
 ·rw [List.take_of_length_le (by omega)] at hp
  refine ee hQ F ?_
  exact Fin.plain (.bool _) ⟨by rw [decide_eq_false hp], rfl⟩
def St.cnt (x : St) (c : Ct) (t : It) : Bool :=
 if c.kind = 1 then true
 else if c.kind = 2 then !(c.id == 0) && x.within (((fnd (·.id) x.fe t.feed).map (·.inn)).getD 0) c.id
 else if c.kind = 3 then t.feed == c.id
 else if c.kind = 4 then decide (c.tag ∈ t.tags)
 else if c.kind = 5 then t.star
 else false
theorem Rcounts_sat (x : St) (hx : x.Up) (c : Ct) (t : It) (ht : t ∈ x.it) (h : Heap) : Sat (CT G) 89 [x.av, c.av, t.av] h (fun r h' => r = .bool (x.cnt c t) ∧ h' = h) := by
 have hl2 := hx.l2
 by_cases k1 : c.kind = 1
 ·have F := k1
  refine sb [.tmp 6] (fn := Tryz.f89) Tryz.func89 ?_
  intro Q hQ
  refine wk F ?_
  refine ee hQ F ?_
  exact Fin.plain (.bool _) ⟨by rw [St.cnt, if_pos k1], rfl⟩
 have n1 : (c.kind == 1) = false := by simp [k1]
 by_cases k2 : c.kind = 2
 ·obtain ⟨f, hf⟩ := hx.it t ht
  obtain ⟨k, hk1, hk2, hk3⟩ := posF_at hf
  have hkl : k < x.fe.length := (List.getElem?_eq_some_iff.1 hk1).1
  have hF := RFeed_sat G x t.feed (by omega)
  rw [hk2] at hF
  have hW := RWithin_sat G x hx f.inn c.id (hx.fe f (List.mem_of_getElem? hk1))
  by_cases c0 : c.id = 0
  ·have d0 : (c.id == 0) = true := by simp [c0]
   have d1 : (c.id != 0) = false := by simp [c0]
   have F := F3 k2 d0 d1
   refine sb [.tmp 6] (fn := Tryz.f89) Tryz.func89 ?_
   intro Q hQ
   refine wk F ?_
   refine ee hQ F ?_
   exact Fin.plain (.bool _) ⟨by rw [St.cnt, if_neg k1, if_pos k2, d0]; rfl, rfl⟩
  ·have d0 : (c.id == 0) = false := by simp [c0]
   have d1 : (c.id != 0) = true := by simp [c0]
   have F := F5 k2 d0 d1 hk1 hkl
   refine sb [.tmp 6] (fn := Tryz.f89) Tryz.func89 ?_
   intro Q hQ
   refine wk F ?_
   refine callS_of (hF _) ?_
   try refine sq F ?_
   refine wk F ?_
   refine callS_of (hW _) ?_
   try refine sq F ?_
   refine wk F ?_
   refine ee hQ F ?_
   exact Fin.plain (.bool _) ⟨by rw [St.cnt, if_neg k1, if_pos k2, d0, hf]; rfl, rfl⟩
 have n2 : (c.kind == 2) = false := by simp [k2]
 by_cases k3 : c.kind = 3
 ·have F := k3
  refine sb [.tmp 6] (fn := Tryz.f89) Tryz.func89 ?_
  intro Q hQ
  refine wk F ?_
  refine ee hQ F ?_
  exact Fin.plain (.bool _) ⟨by rw [St.cnt, if_neg k1, if_neg k2, if_pos k3], rfl⟩
 have n3 : (c.kind == 3) = false := by simp [k3]
 by_cases k4 : c.kind = 4
 ·have F := k4
  refine sb [.tmp 6] (fn := Tryz.f89) Tryz.func89 ?_
  intro Q hQ
  refine wk F ?_
  refine kq F (Rtagged_sat G t c.tag (by have := hx.tg t ht; omega) _) ?_
  refine ee hQ F ?_
  exact Fin.plain (.bool _) ⟨by rw [St.cnt, if_neg k1, if_neg k2, if_neg k3, if_pos k4], rfl⟩
 have n4 : (c.kind == 4) = false := by simp [k4]
 by_cases k5 : c.kind = 5
 ·have F := k5
  refine sb [.tmp 6] (fn := Tryz.f89) Tryz.func89 ?_
  intro Q hQ
  refine wk F ?_
  refine ee hQ F ?_
  exact Fin.plain (.bool _) ⟨by rw [St.cnt, if_neg k1, if_neg k2, if_neg k3, if_neg k4, if_pos k5], rfl⟩
 have n5 : (c.kind == 5) = false := by simp [k5]
 have F := F5 n1 n2 n3 n4 n5
 refine sb [.tmp 6] (fn := Tryz.f89) Tryz.func89 ?_
 intro Q hQ
 refine wk F ?_
 refine ee hQ F ?_
 exact Fin.plain (.bool _) ⟨by rw [St.cnt, if_neg k1, if_neg k2, if_neg k3, if_neg k4, if_neg k5], rfl⟩
end Go.Av
namespace Go.Av
open Go Go.Proofs Go.RowKit
set_option maxHeartbeats 1000000
variable {c : CS} {s : PS}
def chS (fo : ML Int Fo) : Nat → Int → Option (List Int)
 | 0, id => if id = 0 then some [] else none
 | k + 1, id => if id = 0 then some [] else (chS fo k (((lkM fo id).map (·.inn)).getD 0)).map (id :: ·)
theorem chO_chS {ab : ML Int Int} {fo : ML Int Fo} (h : ∀ id, lkM ab id = (lkM fo id).map (·.inn)) : ∀ (k : Nat) (id : Int), chO ab k id = chS fo k id := by
 intro k
 induction k with
 | zero => intro id; rfl
 | succ k ih => intro id; rw [chO, chS, h, ih]
def PS.chn (s : PS) (feed : Int) : List Int := (chS s.fo 7 (((lkM s.fe feed).map (·.inn)).getD 0)).getD []
theorem Kp.chnS (K : Kp c s) (f : Int) : c.chn f = s.chn f := by unfold CS.chn PS.chn; rw [chO_chS K.ab, K.inn]
theorem mem_keys {κ α : Type} [DecidableEq κ] {l : ML κ α} {x : κ} : x ∈ l.map (·.1) ↔ (lkM l x).isSome = true := by
 constructor
 ·intro hm
  cases hq : (lkM l x).isSome with
  | true => rfl
  | false => exact (lkM_key hq hm).elim
 ·intro hq
  obtain ⟨a, ha⟩ := Option.isSome_iff_exists.1 hq
  obtain ⟨n, hn⟩ := lkM_mem ha
  exact List.mem_map.2 ⟨_, hn, rfl⟩
theorem keys_perm {κ α β : Type} [DecidableEq κ] {l : ML κ α} {l' : ML κ β} {n n' : Nat} (w : WFM l n) (w' : WFM l' n') (h : ∀ x, (lkM l x).isSome = (lkM l' x).isSome) : (l.map (·.1)).Perm (l'.map (·.1)) := by
 rw [List.perm_ext_iff_of_nodup w.keys w'.keys]
 intro x
 rw [mem_keys, mem_keys, h]
theorem sortI_eq {l l' : List Int} (h : l.Perm l') : sortI l = sortI l' := mergeSort_of_perm_i h
theorem vals_perm {κ α : Type} [DecidableEq κ] {l l' : ML κ α} {n n' : Nat} (w : WFM l n) (w' : WFM l' n') (h : ∀ x, lkM l x = lkM l' x) : (l.map (·.2.1)).Perm (l'.map (·.2.1)) := by
 have hp := keys_perm w w' fun x => by rw [h]
 have hv : ∀ {l : ML κ α} {n : Nat}, WFM l n → l.map (fun e => some e.2.1) = (l.map (·.1)).map (lkM l) := fun {l n} w => by
  rw [List.map_map]
  exact List.map_congr_left fun e he => (lkM_of_mem w.keys (b := e.2.2) he).symm
 have h1 : (l.map fun e => some e.2.1).Perm (l'.map fun e => some e.2.1) := by
  rw [hv w, hv w', List.map_congr_left (fun x _ => h x)]
  exact hp.map _
 have h2 := h1.map (fun o : Option α => o)
 have h3 : ∀ l : ML κ α, (l.map fun e => some e.2.1) = (l.map (·.2.1)).map some := fun l => by rw [List.map_map]; rfl
 rw [h3, h3] at h1
 have := h1.filterMap id
 simpa using this
def PS.its (s : PS) : List It := s.it.map (·.2.1)
theorem Kp.tl (K : Kp c s) (h : s.Inv) (p : It → Bool) : Av.tl (c.it.map (·.2.1)) p = Av.tl s.its p := tl_perm (vals_perm K.wf.w4 h.w3 K.it) p
def insT (l : List Bs) (g : Bs) : List Bs := match l with
 | [] => [g]
 | a :: l => if Op.bytesLess a g = true then a :: insT l g else if a = g then a :: l else g :: a :: l
def tagsR (L : List It) : List Bs := (L.flatMap (·.tags)).foldl insT []
theorem insT_mem (l : List Bs) (g x : Bs) : x ∈ insT l g ↔ x = g ∨ x ∈ l := by
 induction l with
 | nil => simp [insT]
 | cons a l ih =>
  rw [insT]
  split
  ·rw [List.mem_cons, ih, List.mem_cons]
   constructor
   ·rintro (h | h | h)
    ·exact .inr (.inl h)
    ·exact .inl h
    ·exact .inr (.inr h)
   ·rintro (h | h | h)
    ·exact .inr (.inl h)
    ·exact .inl h
    ·exact .inr (.inr h)
  ·split
   ·rename_i h; subst h
    constructor
    ·exact .inr
    ·rintro (h | h)
     ·rw [h]; exact List.mem_cons_self ..
     ·exact h
   ·rw [List.mem_cons]
theorem insT_srt {l : List Bs} (h : Srt l) (g : Bs) : Srt (insT l g) := by
 induction l with
 | nil => simp [insT, Srt]
 | cons a l ih =>
  have h2 := h
  unfold Srt at h
  rw [List.pairwise_cons] at h
  rw [insT]
  split
  ·rename_i hl
   unfold Srt
   rw [List.pairwise_cons]
   refine ⟨fun x hx => ?_, ih h.2⟩
   rcases (insT_mem l g x).1 hx with rfl | hx
   ·exact hl
   ·exact h.1 x hx
  ·rename_i hl
   split
   ·exact h2
   ·rename_i hne
    have hga : Op.bytesLess g a = true := by
     cases hq : Op.bytesLess g a with
     | true => rfl
     | false => exact (hne (bl_tri a g (by simpa using hl) hq)).elim
    unfold Srt
    rw [List.pairwise_cons]
    refine ⟨fun x hx => ?_, h2⟩
    rcases List.mem_cons.1 hx with rfl | hx
    ·exact hga
    ·exact bl_trans hga (h.1 x hx)
theorem foldT (gs : List Bs) : ∀ {l : List Bs}, Srt l → Srt (gs.foldl insT l) ∧ ∀ x, x ∈ gs.foldl insT l ↔ x ∈ gs ∨ x ∈ l := by
 induction gs with
 | nil => intro l h; exact ⟨h, fun x => by simp⟩
 | cons g gs ih =>
  intro l h
  obtain ⟨h1, h2⟩ := ih (insT_srt h g)
  refine ⟨h1, fun x => ?_⟩
  rw [List.foldl_cons, h2, insT_mem, List.mem_cons]
  constructor
  ·rintro (h | h | h)
   ·exact .inl (.inr h)
   ·exact .inl (.inl h)
   ·exact .inr h
  ·rintro ((h | h) | h)
   ·exact .inr (.inl h)
   ·exact .inl h
   ·exact .inr (.inr h)
theorem tagsR_srt (L : List It) : Srt (tagsR L) := (foldT _ (by simp [Srt])).1
theorem tagsR_mem (L : List It) (x : Bs) : x ∈ tagsR L ↔ ∃ t ∈ L, x ∈ t.tags := by
 unfold tagsR
 rw [(foldT _ (by simp [Srt])).2]
 simp
theorem srt_uniq {l l' : List Bs} (h : Srt l) (h' : Srt l') (hm : ∀ x, x ∈ l ↔ x ∈ l') : l = l' := by
 have hp : l.Perm l' := (List.perm_ext_iff_of_nodup (srt_nodup h) (srt_nodup h')).2 hm
 refine List.Perm.eq_of_pairwise (le := fun a b => Op.bytesLess a b = true) (fun a b _ _ h1 h2 => ?_) h h' hp
 have := bl_trans h1 h2
 rw [bl_irr] at this; cases this
theorem sortB_srt {l : List Bs} (h : l.Nodup) : Srt (sortB l) := by
 have h1 : (sortB l).Pairwise fun a b => decide (a ≤ b) = true := List.pairwise_mergeSort leB_tr leB_to l
 have h2 : (sortB l).Nodup := (List.mergeSort_perm l _).nodup_iff.2 h
 unfold Srt
 refine List.Pairwise.imp₂ (R := fun a b => decide (a ≤ b) = true) (S := fun a b => a ≠ b) (fun a b hab hne => ?_) h1 h2
 rw [bytesLess_eq, decide_eq_true_eq]
 rw [decide_eq_true_eq] at hab
 rcases List.le_iff_lt_or_eq.1 hab with h | h
 ·exact h
 ·exact (hne h).elim
def ctM (kind id : Int) (g : Bs) (n : T2) : Ct := ⟨kind, id, g, n.1, n.2⟩
def PS.tellC (s : PS) : List Ct :=
 ctM 1 0 [] (tl s.its fun _ => true) :: (((sortI (s.fo.map (·.1))).map fun id => ctM 2 id [] (tl s.its fun t => decide (id ∈ s.chn t.feed))) ++ ((sortI (s.fe.map (·.1))).map fun id => ctM 3 id [] (tl s.its fun t => decide (t.feed = id)))
  ++ (tagsR s.its).map fun g => ctM 4 0 g (tl s.its fun t => decide (g ∈ t.tags))) ++ [ctM 5 0 [] (tl s.its fun t => t.star)]
theorem Kp.lkFo (K : Kp c s) (h : s.Inv) {id : Int} (hi : (lkM s.fo id).isSome = true) : lkM c.fo id = some (Av.tl s.its fun t => decide (id ∈ s.chn t.feed)) := by
 rw [K.tal.fo id (by rw [K.fo]; exact hi), K.tl h]
 congr 1
 exact tl_congr fun t _ => by rw [K.chnS]
theorem Kp.lkFe (K : Kp c s) (h : s.Inv) {id : Int} (hi : (lkM s.fe id).isSome = true) : lkM c.fe id = some (Av.tl s.its fun t => decide (t.feed = id)) := by
 rw [K.tal.fe id (by rw [K.fe]; exact hi), K.tl h]
theorem Kp.lkTg (K : Kp c s) (h : s.Inv) (g : Bs) : lkM c.tg g = some0 (Av.tl s.its fun t => decide (g ∈ t.tags)) := by
 rw [K.tal.tg, K.tl h]
theorem some0_mem (L : List It) (g : Bs) : (some0 (tl L fun t => decide (g ∈ t.tags))).isSome = true ↔ ∃ t ∈ L, g ∈ t.tags := by
 unfold some0 tl
 simp only
 constructor
 ·intro h
  split at h
  ·cases h
  ·rename_i h0
   have : L.countP (fun t => decide (g ∈ t.tags)) ≠ 0 := fun q => h0 (by rw [q]; rfl)
   obtain ⟨t, ht, hg⟩ := List.countP_pos_iff.1 (Nat.pos_of_ne_zero this)
   exact ⟨t, ht, by simpa using hg⟩
 ·rintro ⟨t, ht, hg⟩
  rw [if_neg]
  ·rfl
  ·have : 0 < L.countP (fun t => decide (g ∈ t.tags)) := List.countP_pos_iff.2 ⟨t, ht, by simpa using hg⟩
   omega
theorem Kp.keysTg (K : Kp c s) (h : s.Inv) : sortB (c.tg.map (·.1)) = tagsR s.its := by
 refine srt_uniq (sortB_srt K.wf.w3.keys) (tagsR_srt _) fun x => ?_
 rw [tagsR_mem, ← some0_mem, ← K.lkTg h, ← mem_keys]
 exact (List.mergeSort_perm _ _).mem_iff
theorem Kp.told (K : Kp c s) (h : s.Inv) : c.tell = s.tellC := by
 unfold CS.tell PS.tellC toldI toldS
 rw [K.keysTg h, sortI_eq (keys_perm K.wf.w1 h.w1 K.fo), sortI_eq (keys_perm K.wf.w2 h.w2 K.fe), K.tal.al, K.tal.st, K.tl h, K.tl h]
 have e1 : (sortI (s.fo.map (·.1))).map (ctI 2 c.fo) = (sortI (s.fo.map (·.1))).map fun id => ctM 2 id [] (Av.tl s.its fun t => decide (id ∈ s.chn t.feed)) :=
  List.map_congr_left fun id hid => by
   unfold ctI
   rw [K.lkFo h (mem_keys.1 ((List.mergeSort_perm _ _).mem_iff.1 hid))]; rfl
 have e2 : (sortI (s.fe.map (·.1))).map (ctI 3 c.fe) = (sortI (s.fe.map (·.1))).map fun id => ctM 3 id [] (Av.tl s.its fun t => decide (t.feed = id)) :=
  List.map_congr_left fun id hid => by
   unfold ctI
   rw [K.lkFe h (mem_keys.1 ((List.mergeSort_perm _ _).mem_iff.1 hid))]; rfl
 have e3 : (tagsR s.its).map (ctS c.tg) = (tagsR s.its).map fun g => ctM 4 0 g (Av.tl s.its fun t => decide (g ∈ t.tags)) :=
  List.map_congr_left fun g _ => by
   unfold ctS
   rw [K.lkTg h, some0_get]; rfl
 rw [e1, e2, e3]; rfl
end Go.Av
namespace Go.Av
open Go Go.Proofs Go.RowKit
attribute [local irreducible] WP WPl WPix Sat
set_option maxRecDepth 100000
set_option maxHeartbeats 2000000
variable (G : Nat → Option (List AVal))
def St.fil (x : St) (kind id : Int) (g : Bs) : Ct := ctM kind id g (tl x.it (x.cnt ⟨kind, id, g, 0, 0⟩))
theorem Rfill_sat (x : St) (hx : x.Up) (kind id : Int) (g : Bs) (h : Heap) : Sat (CT G) 47 [x.av, .agg [.int .i64 kind, .int .i64 id, .str g, .int .i64 0, .int .i64 0]] h (fun r h' => r = (x.fil kind id g).av ∧ h' = h) := by
 have hel : (x.it.map It.av).length = x.it.length := List.length_map ..
 have hl3 := hx.l3
 have hcn : ∀ a u t, x.cnt ⟨kind, id, g, a, u⟩ t = x.cnt ⟨kind, id, g, 0, 0⟩ t := fun _ _ _ => rfl
 have F := hel
 refine sb [.cell 4 88] (fn := Tryz.f47) Tryz.func47 ?_
 intro Q hQ
 refine wk F ?_
 refine lm (fun nL tL hL => ∃ (k a u : Nat), x.it.length - k = nL ∧ h ++ [.row 34 9 0 [x.av], .row 88 5 0 [.agg [.int .i64 kind, .int .i64 id, .str g, .int .i64 a, .int .i64 u]], .row 88 5 0 [.agg [.int .i64 0, .int .i64 0, .str [], .int .i64 0, .int .i64 0]]] = hL ∧ tL 2 = .hp h.length 0 0 0 ∧ tL 3 = .hp (h.length + 1) 0 0 0 ∧ tL 4 = .hp (h.length + 2) 0 0 0 ∧ tL 5 = .int .i64 k ∧ k ≤ x.it.length ∧ a = (x.it.take k).countP (x.cnt ⟨kind, id, g, 0, 0⟩) ∧ u = (x.it.take k).countP (fun t => x.cnt ⟨kind, id, g, 0, 0⟩ t && !t.read)) ((fun (k a u : Nat) => (x.it.length - k : Nat)) (0) (0) (0)) ?_ ?_
 ·refine Wkn.refl ⟨0, 0, 0, rfl, by simp [St.av], ?_, ?_, ?_, ?_, by omega, by simp, by simp⟩
  all_goals first | exact zq F | rfl | omega | trivial | skip
 rintro _ s2 h' ⟨k, a, u, rfl, rfl, e2, e3, e4, e5, hk, ha, hu⟩ K2 hK2
 simp only [mix_cons, mix_nil, Nat.reduceEqDiff, ↓reduceIte] at e2 e3 e4 e5
 have F := F5 F e2 e3 e4 e5
 refine wk F ?_
 refine cq F (fun c1 => ?_) (fun c1 => ?_) <;> (try exact c1.elim) <;> (refine wk F ?_)
 ·have c2 : k < x.it.length := by omega
  obtain ⟨y, hy, hym⟩ := getElem?_of_lt c2
  have hC := Rcounts_sat G x hx ⟨kind, id, g, a, u⟩ y hym
  rw [hcn] at hC
  have b1 := List.countP_le_length (p := x.cnt ⟨kind, id, g, 0, 0⟩) (l := x.it.take k)
  have b2 := List.countP_le_length (p := fun t => x.cnt ⟨kind, id, g, 0, 0⟩ t && !t.read) (l := x.it.take k)
  rw [← ha, List.length_take] at b1
  rw [← hu, List.length_take] at b2
  have ha1 : (x.it.take (k + 1)).countP (x.cnt ⟨kind, id, g, 0, 0⟩) = a + if x.cnt ⟨kind, id, g, 0, 0⟩ y then 1 else 0 := by
   rw [List.take_add_one, hy, List.countP_append, ← ha]; simp [List.countP_cons]
  have hu1 : (x.it.take (k + 1)).countP (fun t => x.cnt ⟨kind, id, g, 0, 0⟩ t && !t.read) = u + if (x.cnt ⟨kind, id, g, 0, 0⟩ y && !y.read) then 1 else 0 := by
   rw [List.take_add_one, hy, List.countP_append, ← hu]; simp [List.countP_cons]
  have F := F3 F c2 hy
  try refine sq F ?_
  refine wk F ?_
  cases hc : x.cnt ⟨kind, id, g, 0, 0⟩ y with
  | false =>
   rw [hc] at hC ha1 hu1
   refine callS_of (hC _) ?_
   try refine sq F ?_
   refine wk F ?_
   refine hK2 _ _ _ (Wkn.refl ⟨k + 1, a, u, rfl, hpE, ?_, ?_, ?_, ?_, by omega, by simp at ha1; omega, by simp at hu1; omega⟩) (by omega)
   all_goals first | exact zq F | rfl | omega | trivial | skip
  | true =>
   rw [hc] at hC ha1 hu1
   refine callS_of (hC _) ?_
   try refine sq F ?_
   refine wk F ?_
   cases hr : y.read with
   | true =>
    rw [hr] at hu1
    have F := F2 F hr
    try refine sq F ?_
    refine wk F ?_
    refine hK2 _ _ _ (Wkn.refl ⟨k + 1, a + 1, u, rfl, by simp [St.av], ?_, ?_, ?_, ?_, by omega, by simp at ha1; omega, by simp at hu1; omega⟩) (by omega)
    all_goals first | exact zq F | rfl | omega | trivial | skip
   | false =>
    rw [hr] at hu1
    have F := F2 F hr
    try refine sq F ?_
    refine wk F ?_
    refine hK2 _ _ _ (Wkn.refl ⟨k + 1, a + 1, u + 1, rfl, by simp [St.av], ?_, ?_, ?_, ?_, by omega, by simp at ha1; omega, by simp at hu1; omega⟩) (by omega)
    all_goals first | exact zq F | rfl | omega | trivial | skip
 ·rw [List.take_of_length_le (by omega)] at ha hu
  try refine sq F ?_
  refine wk F ?_
  refine ye hQ F ?_
  exact Fin.plain (Ct.clo _ ⟨_, _, _, _, _⟩) ⟨by simp only [St.fil, ctM, tl, ha, hu], rfl⟩
theorem insT_at {g : Bs} : ∀ {l : List Bs} {a : Nat}, (∀ b ∈ l.take a, Op.bytesLess b g = true) → a ≤ l.length → (∀ b, l[a]? = some b → Op.bytesLess b g = false) → insT l g = if l[a]? = some g then l else l.take a ++ g :: l.drop a
 | [], 0, _, _, _ => by simp [insT]
 | [], a + 1, _, h, _ => by simp at h
 | b :: l, 0, _, _, h2 => by
  have := h2 b rfl
  rw [insT, if_neg (by rw [this]; simp)]
  simp
 | b :: l, a + 1, h0, h1, h2 => by
  have hb := h0 b (by simp)
  rw [insT, if_pos hb, insT_at (l := l) (a := a) (fun c hc => h0 c (by simp [hc])) (by simpa using h1) (fun c hc => h2 c (by simpa using hc))]
  simp only [List.getElem?_cons_succ, List.take_succ_cons, List.drop_succ_cons]
  split <;> simp
theorem insT_len (l : List Bs) (g : Bs) : (insT l g).length ≤ l.length + 1 := by
 induction l with
 | nil => simp [insT]
 | cons a l ih =>
  rw [insT]
  split
  ·simp; omega
  ·split <;> simp
theorem foldT_len (gs : List Bs) : ∀ l : List Bs, (gs.foldl insT l).length ≤ l.length + gs.length := by
 induction gs with
 | nil => intro l; simp
 | cons g gs ih => intro l; have := ih (insT l g); have := insT_len l g; simp; omega
theorem frz_strs {h0 H : Heap} {p v e : Nat} {l : List Bs} (hp : h0.length ≤ p) (hg : getRow H p v = some (e, 1, l.map .str)) : Frz H h0.length (.hs p v 0 l.length true) (.sl 1 (l.map .str)) := by
 have := Frz.data (n := h0.length) (len := l.length) (room := true) hp hg (by simp) (fun r hr => by obtain ⟨a, _, rfl⟩ := List.mem_map.1 hr; exact .str _) (fun r hr c hc => by obtain ⟨a, _, rfl⟩ := List.mem_map.1 hr; simp [AVal.cells] at hc; subst hc; rfl)
 simpa using this
end Go.Av
namespace Go.Av
open Go Go.Proofs Go.RowKit
attribute [local irreducible] WP WPl WPix Sat
set_option maxRecDepth 100000
set_option maxHeartbeats 2000000
set_option pp.deepTerms true
set_option pp.maxSteps 200000
theorem elemsOf_hsF {h : Heap} {p v len n m i : Nat} {b : Bool} {rows : List AVal} (hg : getRow h p v = some (m, n, rows)) (hl : rows.length = len) (hi : i ≤ len) : elemsOf h n (.hs p v i (len - i) b) = some (rows.drop i) := by
 simp only [elemsOf, hg, true_and]
 rw [if_pos (by omega), List.take_of_length_le (by rw [List.length_drop]; omega)]
theorem elemsOf_hs0 {h : Heap} {p v len n m : Nat} {b : Bool} {rows : List AVal} (hg : getRow h p v = some (m, n, rows)) (hl : rows.length = len) : elemsOf h n (.hs p v 0 len b) = some rows := by
 simp only [elemsOf, hg, true_and]
 rw [if_pos (by omega), List.drop_zero, List.take_of_length_le (by omega)]
theorem aslice_hs0 {P : Program} {h : Heap} {T e p v n m : Nat} {rows : List AVal} {k : IntKind} (he : elmT P T = some e) (hg : getRow h p v = some (m, n, rows)) (hn : szOf P e = some n) :
  aslice P h T (.hs p v 0 0 true) (some (.int k ((0 : Nat) : Int))) none none = some (.hs p v 0 0 true) := by
 simp [aslice, he, hg, hn, optInt]
variable (G : Nat → Option (List AVal))
theorem foldT_take {y : It} {acc0 : List Bs} {k : Nat} {g : Bs} (h : y.tags[k]? = some g) : (y.tags.take (k + 1)).foldl insT acc0 = insT ((y.tags.take k).foldl insT acc0) g := by
 rw [List.take_add_one, h, List.foldl_append]; rfl
theorem tagsR_take {l : List It} {i : Nat} {y : It} (h : l[i]? = some y) : tagsR (l.take (i + 1)) = y.tags.foldl insT (tagsR (l.take i)) := by
 unfold tagsR
 rw [List.take_add_one, h, List.flatMap_append, List.foldl_append]; simp
theorem RTags_sat (x : St) (hx : x.Up) (h : Heap) : Sat (CT G) 48 [x.av] h (fun r h' => r = .sl 1 ((tagsR x.it).map .str) ∧ h' = h) := by
 have hel : (x.it.map It.av).length = x.it.length := List.length_map ..
 have hl3 := hx.l3
 have F := hel
 refine sb [.tmp 2] (fn := Tryz.f48) Tryz.func48 ?_
 intro Q hQ
 refine wk F ?_
 refine lm (fun nL tL hL => ∃ (i p v : Nat) (hh : Heap) (acc : List Bs), x.it.length - i = nL ∧ hh = hL ∧ tL 1 = .hp h.length 0 0 0 ∧ tL 3 = .hs p v 0 acc.length true ∧ tL 4 = .int .i64 i ∧ i ≤ x.it.length ∧ acc = tagsR (x.it.take i) ∧ acc.length ≤ 8 * i ∧ getRow hh h.length 0 = some (34, 9, [x.av]) ∧ getRow hh p v = some (9, 1, acc.map .str) ∧ (FrN h.length h hh ∧ h.length < p)) ((fun (i p v : Nat) (hh : Heap) (acc : List Bs) => (x.it.length - i : Nat)) (0) (h.length + 1) (0) (h ++ [.row 34 9 0 [x.av], .row 9 1 0 []]) ([])) ?_ ?_
 ·refine ⟨_, _, Weak.virt 3 9 1 (by simp) (by omega) (by exact zq F), ⟨0, h.length + 1, 0, h ++ [.row 34 9 0 [x.av], .row 9 1 0 []], [], rfl, hpE, ?_, ?_, ?_, by omega, by simp [tagsR], by simp, by rw [gs_new0 _ rfl]; rfl, by rw [gs_new _ rfl]; rfl, ⟨FrN.app _ (by omega) (FrN.refl _ _), by omega⟩⟩⟩
  all_goals first | exact zq F | rfl | omega | trivial | skip
 rintro _ s2 h' ⟨i, p, v, hh, acc, rfl, rfl, e1, e3, e4, hi, hac, hal, hg1, hg2, hfr⟩ K2 hK2
 simp only [mix_cons, mix_nil, Nat.reduceEqDiff, ↓reduceIte] at e1 e3 e4
 have F := F4 F e1 e3 e4
 have hgl1 := gr_lt hg1
 have hgl2 := gr_lt hg2
 have F := F3 F hg1 hg2
 try refine sq F ?_
 refine wk F ?_
 refine cq F (fun c1 => ?_) (fun c1 => ?_) <;> (try exact c1.elim) <;> (refine wk F ?_)
 ·have c2 : i < x.it.length := by omega
  obtain ⟨y, hy, hym⟩ := getElem?_of_lt c2
  have hyt := hx.tg y hym
  have hyl : (y.tags.map AVal.str).length = y.tags.length := List.length_map ..
  have F := F4 F c2 hy hyl
  try refine sq F ?_
  refine wk F ?_
  refine lm (fun nL tL hL => ∃ (k p v : Nat) (hh : Heap) (acc : List Bs), y.tags.length - k = nL ∧ hh = hL ∧ tL 1 = .hp h.length 0 0 0 ∧ tL 3 = .hs p v 0 acc.length true ∧ tL 4 = .int .i64 i ∧ tL 5 = .int .i64 k ∧ k ≤ y.tags.length ∧ acc = (y.tags.take k).foldl insT (tagsR (x.it.take i)) ∧ acc.length ≤ 8 * i + k ∧ getRow hh h.length 0 = some (34, 9, [x.av]) ∧ getRow hh p v = some (9, 1, acc.map .str) ∧ (FrN h.length h hh ∧ h.length < p)) ((fun (k p v : Nat) (hh : Heap) (acc : List Bs) => (y.tags.length - k : Nat)) (0) (p) (v) (hh) (acc)) ?_ ?_
  ·refine Wkn.refl ⟨0, p, v, hh, acc, rfl, hpE, ?_, ?_, ?_, ?_, by omega, by rw [hac]; rfl, by omega, hg1, hg2, hfr⟩
   all_goals first | exact zq F | rfl | omega | trivial | skip
  rintro _ s3 h' ⟨k, p, v, hh, acc, rfl, rfl, e1, e3, e4, e5, hk, hac, hal, hg1, hg2, hfr⟩ K3 hK3
  simp only [mix_cons, mix_nil, Nat.reduceEqDiff, ↓reduceIte] at e1 e3 e4 e5
  have F := F5 F e1 e3 e4 e5
  have hgl1 := gr_lt hg1
  have hgl2 := gr_lt hg2
  have hacl : (acc.map AVal.str).length = acc.length := List.length_map ..
  have F := F4 F hg1 hg2 @hacl
  try refine sq F ?_
  refine wk F ?_
  refine cq F (fun c3 => ?_) (fun c3 => ?_) <;> (try exact c3.elim) <;> (refine wk F ?_)
  ·have c4 : k < y.tags.length := by omega
   obtain ⟨g, hg, _⟩ := getElem?_of_lt c4
   have F := F3 F c4 hg
   try refine sq F ?_
   refine wk F ?_
   refine lm (fun nL tL hL => ∃ (a : Nat), acc.length - a = nL ∧ [] ++ hh = hL ∧ tL 1 = .hp h.length 0 0 0 ∧ tL 3 = .hs p v 0 acc.length true ∧ tL 4 = .int .i64 i ∧ tL 5 = .int .i64 k ∧ tL 6 = .str g ∧ tL 7 = .int .i64 a ∧ a ≤ acc.length ∧ (∀ b ∈ acc.take a, Op.bytesLess b g = true)) ((fun (a : Nat) => (acc.length - a : Nat)) (0)) ?_ ?_
   ·refine Wkn.refl ⟨0, rfl, rfl, ?_, ?_, ?_, ?_, ?_, ?_, by omega, by simp⟩
    all_goals first | exact zq F | rfl | omega | trivial | skip
   rintro _ s4 h' ⟨a, rfl, rfl, e1, e3, e4, e5, e6, e7, ha, hlt⟩ K4 hK4
   simp only [mix_cons, mix_nil, Nat.reduceEqDiff, ↓reduceIte] at e1 e3 e4 e5 e6 e7
   have F := F7 F e1 e3 e4 e5 e6 e7
   rw [List.nil_append]
   by_cases c5 : a < acc.length
   ·obtain ⟨b, hb, _⟩ := getElem?_of_lt c5
    have dt : ∀ i : Decidable True, @decide True i = true := fun i => decide_eq_true trivial
    have d5 : decide (a < acc.length) = true := by simp; omega
    have F := F4 F hb c5 dt
    try refine sq F ?_
    refine wk F ?_
    cases hbl : Op.bytesLess b g with
    | true =>
     have F := F2 F hbl
     try refine sq F ?_
     refine wk F ?_
     have hlt1 : ∀ b ∈ acc.take (a + 1), Op.bytesLess b g = true := by
      rw [List.take_add_one, hb]
      intro z hz
      simp at hz
      rcases hz with hz | rfl
      ·exact hlt z hz
      ·exact hbl
     refine hK4 _ _ _ (Wkn.refl ⟨a + 1, rfl, rfl, ?_, ?_, ?_, ?_, ?_, ?_, by omega, hlt1⟩) (by omega)
     all_goals first | exact zq F | rfl | omega | trivial | skip
    | false =>
     have hins := insT_at hlt (by omega) (fun z hz => by rw [hb] at hz; cases hz; exact hbl)
     have F := F2 F hbl
     try refine sq F ?_
     refine wk F ?_
     cases heq : decide (b = g) with
     | true =>
      have hbg : b = g := of_decide_eq_true heq
      have h2 : insT acc g = acc := by rw [hins, if_pos (by rw [hb, hbg])]
      have hac2 : acc = (y.tags.take (k + 1)).foldl insT (tagsR (x.it.take i)) := by rw [foldT_take hg, ← hac, h2]
      have hbe : (b == g) = true := by simp [hbg]
      have F := F2 F hbe
      try refine sq F ?_
      refine wk F ?_
      refine hK3 _ _ _ (Wkn.refl ⟨k + 1, p, v, hh, acc, rfl, hpE, ?_, ?_, ?_, ?_, by omega, hac2, by omega, hg1, hg2, hfr⟩) (by omega)
      all_goals first | exact zq F | rfl | omega | trivial | skip
     | false =>
      have hbe : (b == g) = false := by simpa using heq
      have h2 : insT acc g = acc.take a ++ g :: acc.drop a := by rw [hins, if_neg (by rw [hb]; simpa using heq)]
      have hac2 : acc.take a ++ g :: acc.drop a = (y.tags.take (k + 1)).foldl insT (tagsR (x.it.take i)) := by rw [foldT_take hg, ← hac, h2]
      have hL : (acc.take a ++ g :: acc.drop a).length = a + 1 + (acc.length - a) := by simp; omega
      have hys := elemsOf_hsF (b := true) (i := a) hg2 hacl (by omega)
      have hsl := aslice_hsF (P := Tryz.prog) (T := 80) (k := .i64) (len := acc.length) (i := a) (by simp only [go_sem]; try rfl) hg2 (by simp only [go_sem]; try rfl) c5
      have F := F3 F hbe hsl
      try refine sq F ?_
      refine wk F ?_
      refine appK_ez (.inl rfl) (by simp (disch := first | omega | (simp only [go_sem, ↓reduceIte, seval]; first | done | omega) | fail) only [go_sem, ↓reduceIte, seval, F]; try rfl) (by simp (disch := first | omega | (simp only [go_sem, ↓reduceIte, seval]; first | done | omega) | fail) only [go_sem, ↓reduceIte, seval, F]; try rfl) (by simp (disch := first | omega | (simp only [go_sem, ↓reduceIte, seval]; first | done | omega) | fail) only [go_sem, ↓reduceIte, seval, F]; try rfl) (by simp (disch := first | omega | (simp only [go_sem, ↓reduceIte, seval]; first | done | omega) | fail) only [go_sem, ↓reduceIte, seval, F]; try rfl) (by omega) hys ⟨by simp [maxLen]; try omega, by simp; try omega⟩ (fun h => by simp at h; omega) (fun _ => ?_)
      have hg3 : getRow (hh ++ [.row 9 1 0 ((acc.map AVal.str).drop a)]) p v = some (9, 1, acc.map .str) := by rw [gs_old _ hgl2]; exact hg2
      have hsl2 := aslice_hs3 (P := Tryz.prog) (T := 80) (off := 0) (len := acc.length) (room := true) (k := .i64) (k' := .i64) (r := a) (by simp only [go_sem]; try rfl) hg3 (by simp only [go_sem]; try rfl) (by omega)
      have F := F2 F hsl2
      try refine sq F ?_
      refine wk F ?_
      refine appK_cut (.inl rfl) (by simp (disch := first | omega | (simp only [go_sem, ↓reduceIte, seval]; first | done | omega) | fail) only [go_sem, ↓reduceIte, seval, F]; try rfl) (by simp (disch := first | omega | (simp only [go_sem, ↓reduceIte, seval]; first | done | omega) | fail) only [go_sem, ↓reduceIte, seval, F]; try rfl) (by simp (disch := first | omega | (simp only [go_sem, ↓reduceIte, seval]; first | done | omega) | fail) only [go_sem, ↓reduceIte, seval, F]; try rfl) (by simp (disch := first | omega | (simp only [go_sem, ↓reduceIte, seval]; first | done | omega) | fail) only [go_sem, ↓reduceIte, seval, F]; try rfl) (by omega) (by simp only [elemsOf, ↓reduceIte]; rfl) hg3 (by simp; try omega) (by simp) ⟨by simp [maxLen]; try omega, by simp; try omega⟩ ?_
      try refine sq F ?_
      refine wk F ?_
      have hg4 : getRow (hh ++ [.row 9 1 0 ((acc.map AVal.str).drop a), .row 9 1 0 ((acc.map AVal.str).take a ++ [.str g])]) hh.length 0 = some (9, 1, (acc.map AVal.str).drop a) := by rw [gs_new0 _ rfl]; rfl
      have hg5 : getRow (hh ++ [.row 9 1 0 ((acc.map AVal.str).drop a), .row 9 1 0 ((acc.map AVal.str).take a ++ [.str g])]) (hh.length + 1) 0 = some (9, 1, (acc.map AVal.str).take a ++ [.str g]) := by rw [gs_new _ rfl]; rfl
      refine appK_row (.inl rfl) (by simp (disch := first | omega | (simp only [go_sem, ↓reduceIte, seval]; first | done | omega) | fail) only [go_sem, ↓reduceIte, seval, F]; try rfl) (by simp (disch := first | omega | (simp only [go_sem, ↓reduceIte, seval]; first | done | omega) | fail) only [go_sem, ↓reduceIte, seval, F]; try rfl) (by simp (disch := first | omega | (simp only [go_sem, ↓reduceIte, seval]; first | done | omega) | fail) only [go_sem, ↓reduceIte, seval, F]; try rfl) (by simp (disch := first | omega | (simp only [go_sem, ↓reduceIte, seval]; first | done | omega) | fail) only [go_sem, ↓reduceIte, seval, F]; try rfl) (by omega) (elemsOf_hs0 hg4 rfl) hg5 (by simp; try omega) ⟨by simp [maxLen]; try omega, by simp; try omega⟩ ?_
      try refine sq F ?_
      refine wk F ?_
      have hrw : (acc.map AVal.str).take a ++ [.str g] ++ (acc.map AVal.str).drop a = (acc.take a ++ g :: acc.drop a).map AVal.str := by simp
      have hg6 : getRow (hh ++ [.row 9 1 0 ((acc.map AVal.str).drop a), .row 9 1 1 ((acc.take a ++ g :: acc.drop a).map AVal.str)]) (hh.length + 1) 1 = some (9, 1, (acc.take a ++ g :: acc.drop a).map AVal.str) := by rw [gs_new _ rfl]; rfl
      have hdl : ((acc.map AVal.str).drop a).length = acc.length - a := by simp
      have hsl3 : AVal.hs (hh.length + 1) 1 0 (a + 1 + (acc.length - a)) true = .hs (hh.length + 1) 1 0 (acc.take a ++ g :: acc.drop a).length true := by rw [hL]
      have F := F3 F hL hdl
      refine hK3 _ _ _ (Wkn.refl ⟨k + 1, hh.length + 1, 1, hh ++ [.row 9 1 0 ((acc.map AVal.str).drop a), .row 9 1 1 ((acc.take a ++ g :: acc.drop a).map AVal.str)], acc.take a ++ g :: acc.drop a, rfl, by simp, ?_, ?_, ?_, ?_, by omega, hac2, by rw [hL]; omega, by rw [gs_old _ (by omega)]; exact hg1, hg6, ⟨FrN.app _ (by omega) hfr.1, by omega⟩⟩) (by omega)
      all_goals first | exact zq F | rfl | omega | trivial | skip
      done
   ·have d5 : decide (a < acc.length) = false := by simp; omega
    have hae : a = acc.length := by omega
    have hins := insT_at hlt (by omega) (fun z hz => by rw [List.getElem?_eq_none (by omega)] at hz; cases hz)
    have h2 : insT acc g = acc ++ [g] := by rw [hins, if_neg (by rw [List.getElem?_eq_none (by omega)]; simp), hae]; simp
    have hac2 : acc ++ [g] = (y.tags.take (k + 1)).foldl insT (tagsR (x.it.take i)) := by rw [foldT_take hg, ← hac, h2]
    have hsl : ∃ z, aslice Tryz.prog hh 80 (.hs p v 0 acc.length true) (some (.int .i64 (a : Int))) none none = some z ∧ elemsOf hh 1 z = some [] := by
     by_cases ha0 : a = 0
     ·have hl0 : acc.length = 0 := by omega
      subst ha0
      rw [hl0]
      exact ⟨_, aslice_hs0 (by simp only [go_sem]; try rfl) hg2 (by simp only [go_sem]; try rfl), by rw [elemsOf_hs0 hg2 (by rw [hacl, hl0])]; rw [List.length_eq_zero_iff.1 hl0]; rfl⟩
     ·exact ⟨_, aslice_hsE (by simp only [go_sem]; try rfl) hg2 (by simp only [go_sem]; try rfl) hae (by omega), rfl⟩
    obtain ⟨z, hz1, hz2⟩ := hsl
    have F := F3 F d5 hz1
    try refine sq F ?_
    refine wk F ?_
    refine appK_ez (.inl rfl) (by simp (disch := first | omega | (simp only [go_sem, ↓reduceIte, seval]; first | done | omega) | fail) only [go_sem, ↓reduceIte, seval, F]; try rfl) (by simp (disch := first | omega | (simp only [go_sem, ↓reduceIte, seval]; first | done | omega) | fail) only [go_sem, ↓reduceIte, seval, F]; try rfl) (by simp (disch := first | omega | (simp only [go_sem, ↓reduceIte, seval]; first | done | omega) | fail) only [go_sem, ↓reduceIte, seval, F]; try rfl) (by simp (disch := first | omega | (simp only [go_sem, ↓reduceIte, seval]; first | done | omega) | fail) only [go_sem, ↓reduceIte, seval, F]; try rfl) (by omega) hz2 ⟨by simp [maxLen], by simp⟩ (fun _ => ?_) (fun h => absurd rfl h)
    have hsl2 := aslice_hs3 (P := Tryz.prog) (T := 80) (off := 0) (len := acc.length) (room := true) (k := .i64) (k' := .i64) (r := a) (by simp only [go_sem]; try rfl) hg2 (by simp only [go_sem]; try rfl) (by omega)
    have F := F2 F hsl2
    try refine sq F ?_
    refine wk F ?_
    refine appK_cut (.inl rfl) (by simp (disch := first | omega | (simp only [go_sem, ↓reduceIte, seval]; first | done | omega) | fail) only [go_sem, ↓reduceIte, seval, F]; try rfl) (by simp (disch := first | omega | (simp only [go_sem, ↓reduceIte, seval]; first | done | omega) | fail) only [go_sem, ↓reduceIte, seval, F]; try rfl) (by simp (disch := first | omega | (simp only [go_sem, ↓reduceIte, seval]; first | done | omega) | fail) only [go_sem, ↓reduceIte, seval, F]; try rfl) (by simp (disch := first | omega | (simp only [go_sem, ↓reduceIte, seval]; first | done | omega) | fail) only [go_sem, ↓reduceIte, seval, F]; try rfl) (by omega) (by simp only [elemsOf, ↓reduceIte]; rfl) hg2 (by simp; try omega) (by simp) ⟨by simp [maxLen]; try omega, by simp; try omega⟩ ?_
    have hta : (acc.map AVal.str).take a ++ [.str g] = (acc ++ [g]).map AVal.str := by rw [hae, ← hacl, List.take_length]; simp
    have hlz : ([AVal.str g]).length = 1 := rfl
    rw [hta]
    try refine sq F ?_
    refine wk F ?_
    have hg5 : getRow (hh ++ [.row 9 1 0 ((acc ++ [g]).map AVal.str)]) hh.length 0 = some (9, 1, (acc ++ [g]).map AVal.str) := by rw [gs_new0 _ rfl]; rfl
    refine appK_row (ys := []) (.inl rfl) (by simp (disch := first | omega | (simp only [go_sem, ↓reduceIte, seval]; first | done | omega) | fail) only [go_sem, ↓reduceIte, seval, F]; try rfl) (by simp (disch := first | omega | (simp only [go_sem, ↓reduceIte, seval]; first | done | omega) | fail) only [go_sem, ↓reduceIte, seval, F]; try rfl) (by simp (disch := first | omega | (simp only [go_sem, ↓reduceIte, seval]; first | done | omega) | fail) only [go_sem, ↓reduceIte, seval, F]; try rfl) (by simp (disch := first | omega | (simp only [go_sem, ↓reduceIte, seval]; first | done | omega) | fail) only [go_sem, ↓reduceIte, seval, F]; try rfl) (by omega) (by simp only [elemsOf]) hg5 (by simp; try omega) ⟨by simp [maxLen]; try omega, by simp; try omega⟩ ?_
    rw [List.append_nil]
    try refine sq F ?_
    refine wk F ?_
    have hg6 : getRow (hh ++ [.row 9 1 1 ((acc ++ [g]).map AVal.str)]) hh.length 1 = some (9, 1, (acc ++ [g]).map AVal.str) := by rw [gs_new0 _ rfl]; rfl
    have hL : (acc ++ [g]).length = a + 1 := by simp; omega
    have hnl : ([] : List AVal).length = 0 := rfl
    have hL' : (acc ++ [g]).length = a + 1 + 0 := by simp; omega
    have F := F3 F hL' hnl
    refine hK3 _ _ _ (Wkn.refl ⟨k + 1, hh.length, 1, hh ++ [.row 9 1 1 ((acc ++ [g]).map AVal.str)], acc ++ [g], rfl, by simp, ?_, ?_, ?_, ?_, by omega, hac2, by rw [hL]; omega, by rw [gs_old _ (by omega)]; exact hg1, hg6, ⟨FrN.app _ (by omega) hfr.1, by omega⟩⟩) (by omega)
    all_goals first | exact zq F | rfl | omega | trivial | skip
    done
  ·have hk2 : k = y.tags.length := by omega
   subst hk2
   rw [List.take_length] at hac
   have h9 : acc.length ≤ 8 * (i + 1) := by omega
   have h10 : acc = tagsR (x.it.take (i + 1)) := by rw [tagsR_take hy, hac]
   try refine sq F ?_
   refine wk F ?_
   refine hK2 _ _ _ (Wkn.refl ⟨i + 1, p, v, hh, acc, rfl, hpE, ?_, ?_, ?_, by omega, h10, h9, hg1, hg2, hfr⟩) (by omega)
   all_goals first | exact zq F | rfl | omega | trivial | skip
 ·rw [List.take_of_length_le (by omega)] at hac
  obtain ⟨hfr, hfp⟩ := hfr
  obtain ⟨j, rfl⟩ := hfr.behind (by omega)
  try refine sq F ?_
  refine wk F ?_
  refine ee hQ F ?_
  rw [← hac]
  exact Fin.frz (frz_strs (by omega) hg2) ⟨rfl, rfl⟩
end Go.Av
namespace Go.Av
open Go Go.Proofs Go.RowKit
attribute [local irreducible] WP WPl WPix Sat
set_option maxRecDepth 100000
set_option maxHeartbeats 2000000
variable (G : Nat → Option (List AVal))
def St.tellC (x : St) : List Ct := x.fil 1 0 [] :: (x.fo.map (fun f => x.fil 2 f.id []) ++ x.fe.map (fun f => x.fil 3 f.id []) ++ (tagsR x.it).map (fun g => x.fil 4 0 g)) ++ [x.fil 5 0 []]
theorem tagsR_len {x : St} (hx : x.Up) : (tagsR x.it).length ≤ 8192 := by
 have h1 := foldT_len (x.it.flatMap (·.tags)) []
 have h2 : ∀ l : List It, (∀ t ∈ l, t.tags.length ≤ 8) → (l.flatMap (·.tags)).length ≤ 8 * l.length := by
  intro l
  induction l with
  | nil => intro _; simp
  | cons t l ih =>
   intro h
   have a := h t (by simp)
   have b := ih fun u hu => h u (by simp [hu])
   simp only [List.flatMap_cons, List.length_append, List.length_cons]; omega
 have h3 := h2 x.it hx.tg
 have h4 := hx.l3
 unfold tagsR
 simp only [List.length_nil] at h1
 omega
theorem map_take_succ {α β : Type} (F : α → β) {l : List α} {k : Nat} {a : α} (h : l[k]? = some a) : (l.take (k + 1)).map F = (l.take k).map F ++ [F a] := by
 rw [List.take_add_one, h]; simp
theorem RTell_sat (x : St) (hx : x.Up) (h : Heap) : Sat (CT G) 17 [x.av] h (fun r h' => r = .sl 5 (x.tellC.map Ct.av) ∧ h' = h) := by
 have he1 : (x.fo.map Fo.av).length = x.fo.length := List.length_map ..
 have he2 : (x.fe.map Fe.av).length = x.fe.length := List.length_map ..
 have hl1 := hx.l1
 have hl2 := hx.l2
 have hl4 := tagsR_len hx
 have F := F2 he1 he2
 skip
 refine sb [.tmp 2] (fn := Tryz.f17) Tryz.func17 ?_
 intro Q hQ
 refine wx F ?_
 refine kx F (Rfill_sat G x hx 1 0 [] _) ?_
 skip
 refine lm (fun nL tL hL => ∃ (k v : Nat) (acc : List Ct), x.fo.length - k = nL ∧ h ++ [.row 34 9 0 [x.av], .row 88 5 v (acc.map Ct.av)] = hL ∧ tL 1 = .hp h.length 0 0 0 ∧ tL 3 = .hs (h.length + 1) v 0 acc.length true ∧ tL 4 = .int .i64 k ∧ k ≤ x.fo.length ∧ acc.length = k + 1 ∧ acc = x.fil 1 0 [] :: (x.fo.take k).map (fun f => x.fil 2 f.id [])) ((fun (k v : Nat) (acc : List Ct) => (x.fo.length - k : Nat)) (0) (0) ([x.fil 1 0 []])) ?_ ?_
 ·refine Wkn.refl ⟨0, 0, [x.fil 1 0 []], rfl, by simp [St.av, Ct.av], ?_, ?_, ?_, by omega, rfl, by simp⟩
  all_goals first | exact zq F | rfl | omega | trivial | skip
 rintro _ s2 h' ⟨k, v, acc, rfl, rfl, e1, e3, e4, hk, hal, hac⟩ K2 hK2
 simp only [mix_cons, mix_nil, Nat.reduceEqDiff, ↓reduceIte] at e1 e3 e4
 have F := F4 F e1 e3 e4
 refine wk F ?_
 refine cq F (fun c1 => ?_) (fun c1 => ?_) <;> (try exact c1.elim) <;> (refine wk F ?_)
 ·have c2 : k < x.fo.length := by omega
  obtain ⟨f, hf, _⟩ := getElem?_of_lt c2
  have F := F3 F c2 hf
  try refine sq F ?_
  refine wk F ?_
  refine callS_of (Rfill_sat G x hx 2 f.id [] _) ?_
  try refine sq F ?_
  refine wk F ?_
  refine aq F ?_
  try refine sq F ?_
  refine wk F ?_
  refine hK2 _ _ _ (Wkn.refl ⟨k + 1, v + 1, acc ++ [x.fil 2 f.id []], rfl, by simp [St.av, Ct.av], ?_, ?_, ?_, by omega, by simp; omega, by rw [hac, map_take_succ (fun f => x.fil 2 f.id []) hf]; simp⟩) (by omega)
  all_goals first | exact zq F | rfl | omega | trivial | skip
 have hk1 : k = x.fo.length := by omega
 subst hk1
 rw [List.take_length] at hac
 try refine sq F ?_
 refine wk F ?_
 refine lm (fun nL tL hL => ∃ (k v : Nat) (acc : List Ct), x.fe.length - k = nL ∧ h ++ [.row 34 9 0 [x.av], .row 88 5 v (acc.map Ct.av)] = hL ∧ tL 1 = .hp h.length 0 0 0 ∧ tL 3 = .hs (h.length + 1) v 0 acc.length true ∧ tL 5 = .int .i64 k ∧ k ≤ x.fe.length ∧ acc.length = k + x.fo.length + 1 ∧ acc = x.fil 1 0 [] :: (x.fo.map (fun f => x.fil 2 f.id []) ++ (x.fe.take k).map (fun f => x.fil 3 f.id []))) ((fun (k v : Nat) (acc : List Ct) => (x.fe.length - k : Nat)) (0) (v) (acc)) ?_ ?_
 ·refine Wkn.refl ⟨0, v, acc, rfl, hpE, ?_, ?_, ?_, by omega, by omega, by rw [hac]; simp⟩
  all_goals first | exact zq F | rfl | omega | trivial | skip
 rintro _ s3 h' ⟨k, v, acc, rfl, rfl, e1, e3, e5, hk, hal, hac⟩ K3 hK3
 simp only [mix_cons, mix_nil, Nat.reduceEqDiff, ↓reduceIte] at e1 e3 e5
 have F := F4 F e1 e3 e5
 refine wk F ?_
 refine cq F (fun c1 => ?_) (fun c1 => ?_) <;> (try exact c1.elim) <;> (refine wk F ?_)
 ·have c2 : k < x.fe.length := by omega
  obtain ⟨f, hf, _⟩ := getElem?_of_lt c2
  have F := F3 F c2 hf
  try refine sq F ?_
  refine wk F ?_
  refine callS_of (Rfill_sat G x hx 3 f.id [] _) ?_
  try refine sq F ?_
  refine wk F ?_
  refine aq F ?_
  try refine sq F ?_
  refine wk F ?_
  refine hK3 _ _ _ (Wkn.refl ⟨k + 1, v + 1, acc ++ [x.fil 3 f.id []], rfl, by simp [St.av, Ct.av], ?_, ?_, ?_, by omega, by simp; omega, by rw [hac, map_take_succ (fun f => x.fil 3 f.id []) hf]; simp⟩) (by omega)
  all_goals first | exact zq F | rfl | omega | trivial | skip
 have hk1 : k = x.fe.length := by omega
 subst hk1
 rw [List.take_length] at hac
 have hT := RTags_sat G x hx
 have ht : tagsR x.it = tagsR x.it := rfl
 revert hT hl4 ht
 generalize hgs : tagsR x.it = gs
 intro hl4 hT _
 have hgl : (gs.map AVal.str).length = gs.length := List.length_map ..
 try refine sq F ?_
 refine wk F ?_
 refine kq F (hT _) ?_
 have F := F2 F hgl
 refine lm (fun nL tL hL => ∃ (k v : Nat) (acc : List Ct), gs.length - k = nL ∧ h ++ [.row 34 9 0 [x.av], .row 88 5 v (acc.map Ct.av)] = hL ∧ tL 1 = .hp h.length 0 0 0 ∧ tL 3 = .hs (h.length + 1) v 0 acc.length true ∧ tL 6 = .sl 1 (gs.map .str) ∧ tL 7 = .int .i64 k ∧ k ≤ gs.length ∧ acc.length = k + x.fe.length + x.fo.length + 1 ∧ acc = x.fil 1 0 [] :: (x.fo.map (fun f => x.fil 2 f.id []) ++ x.fe.map (fun f => x.fil 3 f.id []) ++ (gs.take k).map (fun g => x.fil 4 0 g))) ((fun (k v : Nat) (acc : List Ct) => (gs.length - k : Nat)) (0) (v) (acc)) ?_ ?_
 ·refine Wkn.refl ⟨0, v, acc, rfl, hpE, ?_, ?_, ?_, ?_, by omega, by omega, by rw [hac]; simp⟩
  all_goals first | exact zq F | rfl | omega | trivial | skip
 rintro _ s4 h' ⟨k, v, acc, rfl, rfl, e1, e3, e6, e7, hk, hal, hac⟩ K4 hK4
 simp only [mix_cons, mix_nil, Nat.reduceEqDiff, ↓reduceIte] at e1 e3 e6 e7
 have F := F5 F e1 e3 e6 e7
 refine wk F ?_
 refine cq F (fun c1 => ?_) (fun c1 => ?_) <;> (try exact c1.elim) <;> (refine wk F ?_)
 ·have c2 : k < gs.length := by omega
  obtain ⟨f, hf, _⟩ := getElem?_of_lt c2
  have F := F3 F c2 hf
  try refine sq F ?_
  refine wk F ?_
  refine callS_of (Rfill_sat G x hx 4 0 f _) ?_
  try refine sq F ?_
  refine wk F ?_
  refine aq F ?_
  try refine sq F ?_
  refine wk F ?_
  refine hK4 _ _ _ (Wkn.refl ⟨k + 1, v + 1, acc ++ [x.fil 4 0 f], rfl, by simp [St.av, Ct.av], ?_, ?_, ?_, ?_, by omega, by simp; omega, by rw [hac, map_take_succ (fun g => x.fil 4 0 g) hf]; simp⟩) (by omega)
  all_goals first | exact zq F | rfl | omega | trivial | skip
 have hk1 : k = gs.length := by omega
 subst hk1
 rw [List.take_length] at hac
 try refine sq F ?_
 refine wk F ?_
 refine kq F (Rfill_sat G x hx 5 0 [] _) ?_
 refine aq F ?_
 try refine sq F ?_
 refine wk F ?_
 refine ee hQ F ?_
 have hfin : x.tellC = acc ++ [x.fil 5 0 []] := by rw [St.tellC, hgs, hac]
 rw [hfin]
 have hg : getRow (h ++ [.row 34 9 0 [x.av], .row 88 5 (v + 1) ((acc ++ [x.fil 5 0 []]).map Ct.av)]) (h.length + 1) (v + 1) = some (88, 5, (acc ++ [x.fil 5 0 []]).map Ct.av) := by
  rw [gs_new _ rfl]; simp [getRow]
 have := Frz.data (n := h.length) (len := (acc ++ [x.fil 5 0 []]).length) (room := true) (by omega) hg (by simp) (fun r hr => by obtain ⟨a, _, rfl⟩ := List.mem_map.1 hr; exact Ct.clo _ a) (fun r hr => by obtain ⟨a, _, rfl⟩ := List.mem_map.1 hr; exact a.cells_sto)
 have hz := Fin.frz (R := fun r h' => r = .sl 5 ((acc ++ [x.fil 5 0 []]).map Ct.av) ∧ h' = h) this ⟨rfl, rfl⟩
 simpa [St.av, Ct.av] using hz
end Go.Av
namespace Go.Av
open Go Go.Proofs Go.RowKit
set_option maxHeartbeats 1000000
def sumZ : List Int → Int
 | [] => 0
 | a :: l => a + sumZ l
def S2 {α : Type} (F : List α) (L : List It) (P : α → It → Bool) : Int := sumZ (F.map fun g => (L.countP (P g) : Int))
variable {s : PS}
theorem PS.Inv.chs (h : s.Inv) {p : Int} (hp : p = 0 ∨ (lkM s.fo p).isSome = true) : ∃ l, chS s.fo 7 p = some l ∧ l.Nodup ∧ ∀ x ∈ l, (lkM s.fo x).isSome = true := by
 obtain ⟨l, h1, h2, _, h4⟩ := (Kp.new h).chain h hp
 exact ⟨l, by rw [← chO_chS (Kp.new h).ab]; exact h1, h2, h4⟩
end Go.Av
namespace Go.Av
open Go Go.Proofs Go.RowKit
set_option maxHeartbeats 1000000
variable {s : PS}
theorem vals_perm0 {α : Type} {z : α} {l : ML Int α} {c : Nat} (w : WFM l c) : (valsM z l).Perm (l.map (·.2.1)) := by
 have h1 : (l.map (·.2.1)) = (l.map (·.1)).map fun k => (lkM l k).getD z := by
  rw [List.map_map]
  exact List.map_congr_left fun e he => by simp only [Function.comp]; rw [lkM_of_mem w.keys (b := e.2.2) he]; rfl
 rw [h1]
 exact (List.mergeSort_perm _ _).map _
theorem fnd_vals {α : Type} {z : α} {l : ML Int α} {key : α → Int} (hid : ∀ k a, lkM l k = some a → key a = k) (id : Int) : fnd key (valsM z l) id = lkM l id := vals_find key hid id
theorem PS.Inv.fndFo (h : s.Inv) (id : Int) : fnd (·.id) s.tell.fo id = lkM s.fo id := fnd_vals (fun k a hk => (h.i1 k a hk).1) id
theorem PS.Inv.fndFe (h : s.Inv) (id : Int) : fnd (·.id) s.tell.fe id = lkM s.fe id := fnd_vals (fun k a hk => (h.i2 k a hk).1) id
theorem PS.Inv.hasT (h : s.Inv) {id : Int} (hi : id = 0 ∨ (lkM s.fo id).isSome = true) : s.tell.has id := by
 rcases hi with hi | hi
 ·exact .inl hi
 ·obtain ⟨f, hf⟩ := Option.isSome_iff_exists.1 hi
  exact .inr ⟨f, by rw [h.fndFo, hf]⟩
theorem PS.Inv.up (h : s.Inv) : s.tell.Up where
 fo := fun f hf => by
  obtain ⟨k, hk⟩ := vals_mem hf
  exact h.hasT (h.u1 k f hk)
 fe := fun f hf => by
  obtain ⟨k, hk⟩ := vals_mem hf
  exact h.hasT (h.u2 k f hk)
 it := fun t ht => by
  obtain ⟨k, hk⟩ := vals_mem ht
  obtain ⟨f, hf⟩ := Option.isSome_iff_exists.1 (h.u3 k t hk)
  exact ⟨f, by rw [h.fndFe, hf]⟩
 l1 := by have := vals_len (z := Fo.z) s.fo; have := h.l1; show (valsM Fo.z s.fo).length ≤ _; omega
 l2 := by have := vals_len (z := Fe.z) s.fe; have := h.l2; show (valsM Fe.z s.fe).length ≤ _; omega
 l3 := by have := vals_len (z := It.z) s.it; have := h.l3; show (valsM It.z s.it).length ≤ _; omega
 tg := fun t ht => by
  obtain ⟨k, hk⟩ := vals_mem ht
  exact (h.tg k t hk).2
theorem PS.Inv.inT (h : s.Inv) (id : Int) : s.tell.inn id = ((lkM s.fo id).map (·.inn)).getD 0 := by unfold St.inn; rw [h.fndFo]
theorem upW_chS (h : s.Inv) {u : Int} (hu : u ≠ 0) : ∀ {k m : Nat} {p : Int} {l : List Int}, k ≤ m → chS s.fo k p = some l → (s.tell.upW u m p = u ↔ u ∈ l) := by
 intro k
 induction k with
 | zero =>
  intro m p l _ hc
  rw [chS] at hc
  split at hc
  ·rename_i hp
   cases hc
   subst hp
   have : s.tell.upW u m 0 = 0 := by
    cases m with
    | zero => rfl
    | succ m => rw [St.upW, if_pos (.inr rfl)]
   rw [this]
   exact ⟨fun e => (hu e.symm).elim, fun e => by cases e⟩
  ·cases hc
 | succ k ih =>
  intro m p l hm hc
  obtain ⟨m, rfl⟩ : ∃ m', m = m' + 1 := ⟨m - 1, by omega⟩
  rw [chS] at hc
  split at hc
  ·rename_i hp
   cases hc
   subst hp
   rw [St.upW, if_pos (.inr rfl)]
   exact ⟨fun e => (hu e.symm).elim, fun e => by cases e⟩
  ·rename_i hp
   simp only [Option.map_eq_some_iff] at hc
   obtain ⟨r, hr, rfl⟩ := hc
   rw [St.upW]
   by_cases hpu : p = u
   ·rw [if_pos (.inl hpu)]
    exact ⟨fun _ => by rw [hpu]; exact List.mem_cons_self .., fun _ => hpu⟩
   ·rw [if_neg (by rintro (q | q); exact hpu q; exact hp q), h.inT, ih (by omega) hr, List.mem_cons]
    exact ⟨.inr, fun q => q.elim (fun e => (hpu e.symm).elim) id⟩
theorem within_chn (h : s.Inv) {feed u : Int} (hf : (lkM s.fe feed).isSome = true) (hu : u ≠ 0) : s.tell.within (((lkM s.fe feed).map (·.inn)).getD 0) u = decide (u ∈ s.chn feed) := by
 obtain ⟨f0, hf0⟩ := Option.isSome_iff_exists.1 hf
 obtain ⟨l, a1, _, _⟩ := h.chs (h.u2 _ _ hf0)
 have hch : s.chn feed = l := by unfold PS.chn; rw [hf0]; simp only [Option.map_some, Option.getD_some]; rw [a1]; rfl
 rw [hch, hf0]
 simp only [Option.map_some, Option.getD_some]
 unfold St.within
 rw [decide_eq_false hu, Bool.or_false]
 exact decide_eq_decide.2 (upW_chS h hu (by omega) a1)
theorem its_lk {t : It} (h : s.Inv) (ht : t ∈ s.its) : ∃ k, lkM s.it k = some t := by
 obtain ⟨e, he, rfl⟩ := List.mem_map.1 ht
 exact ⟨e.1, lkM_of_mem h.w3.keys (b := e.2.2) he⟩
theorem its_perm (h : s.Inv) : s.tell.it.Perm s.its := vals_perm0 h.w3
theorem fil_eq (h : s.Inv) (kind id : Int) (g : Bs) (p : It → Bool) (hp : ∀ t ∈ s.its, s.tell.cnt ⟨kind, id, g, 0, 0⟩ t = p t) : s.tell.fil kind id g = ctM kind id g (tl s.its p) := by
 unfold St.fil
 rw [tl_perm (its_perm h), tl_congr hp]
theorem tagsR_perm {l l' : List It} (h : l.Perm l') : tagsR l = tagsR l' := by
 refine srt_uniq (tagsR_srt _) (tagsR_srt _) fun x => ?_
 rw [tagsR_mem, tagsR_mem]
 constructor
 ·rintro ⟨t, ht, hx⟩; exact ⟨t, h.mem_iff.1 ht, hx⟩
 ·rintro ⟨t, ht, hx⟩; exact ⟨t, h.mem_iff.2 ht, hx⟩
theorem tellC_eq (h : s.Inv) : s.tell.tellC = s.tellC := by
 have hfo : s.tell.fo.map (·.id) = sortI (s.fo.map (·.1)) := vals_ids h.w1 _ fun k f hk => (h.i1 k f hk).1
 have hfe : s.tell.fe.map (·.id) = sortI (s.fe.map (·.1)) := vals_ids h.w2 _ fun k f hk => (h.i2 k f hk).1
 unfold St.tellC PS.tellC
 rw [← hfo, ← hfe, List.map_map, List.map_map, tagsR_perm (its_perm h)]
 congr 1
 ·congr 1
  ·exact fil_eq h _ _ _ _ fun t _ => by simp [St.cnt]
  ·congr 1
   ·congr 1
    ·refine List.map_congr_left fun f hf => ?_
     obtain ⟨k, hk⟩ := vals_mem hf
     have hid := h.i1 k f hk
     refine fil_eq h _ _ _ _ fun t ht => ?_
     obtain ⟨q, hq⟩ := its_lk h ht
     have h0 : f.id ≠ 0 := by omega
     simp only [St.cnt, h.fndFe]
     rw [if_neg (by omega), if_pos trivial, within_chn h (h.u3 q t hq) h0]
     simp [h0]
    ·refine List.map_congr_left fun f hf => fil_eq h _ _ _ _ fun t ht => ?_
     simp only [St.cnt]
     rw [if_neg (by omega), if_neg (by omega), if_pos trivial]
     rfl
   ·refine List.map_congr_left fun g hg => fil_eq h _ _ _ _ fun t ht => ?_
    simp only [St.cnt]
    rw [if_neg (by omega), if_neg (by omega), if_neg (by omega), if_pos trivial]
 ·congr 1
  exact fil_eq h _ _ _ _ fun t _ => by simp [St.cnt]
end Go.Av
namespace Go.Av
open Go Go.Proofs Go.RowKit
set_option maxHeartbeats 1000000
theorem hold_it (s : PS) (id k : Int) : (s.hold id k).it = s.it := by rw [hold_eq]
theorem aft_it (s : PS) (e : Ev) : (s.aft e).it =
  if e.kind = 4 then itF s.it ((lkM s.fe e.a).getD Fe.z).id
  else if e.kind = 7 then upM s.it s.c3 e.a ⟨e.a, e.b, e.n, e.s, e.t, e.u, false, false, []⟩
  else if e.kind = 8 then upM s.it s.c3 e.a { (lkM s.it e.a).getD It.z with read := e.n == 1 }
  else if e.kind = 9 then upM s.it s.c3 e.a { (lkM s.it e.a).getD It.z with star := e.n == 1 }
  else if e.kind = 10 then upM s.it s.c3 e.a { (lkM s.it e.a).getD It.z with tags := tgF ((lkM s.it e.a).getD It.z).tags e.s e.n }
  else s.it := by
 unfold PS.aft PS.after
 by_cases k2 : e.kind = 2
 ·rw [if_pos k2, hold_it, if_neg (by omega), if_neg (by omega), if_neg (by omega), if_neg (by omega), if_neg (by omega)]; rfl
 by_cases k4 : e.kind = 4
 ·rw [if_neg k2, if_pos k4, if_pos k4, PS.unfeed, hold_it]; rfl
 rw [if_neg k2, if_neg k4, if_neg k4]
 by_cases k5 : e.kind = 5
 ·rw [if_pos k5, if_neg (by omega), if_neg (by omega), if_neg (by omega), if_neg (by omega)]; rfl
 rw [if_neg k5]
 by_cases k6 : e.kind = 6
 ·rw [if_pos k6, if_neg (by omega), if_neg (by omega), if_neg (by omega), if_neg (by omega)]
  show ((s.hold _ _).hold _ _).it = _
  rw [hold_it, hold_it]
 rw [if_neg k6]
 by_cases k7 : e.kind = 7
 ·rw [if_neg (by omega), if_neg (by omega), if_neg (by omega), if_neg (by omega), if_neg (by omega), PS.make, if_neg (by omega), if_neg (by omega), if_pos k7, if_pos k7]; rfl
 rw [if_neg k7]
 by_cases k8 : e.kind = 8
 ·rw [if_pos k8, if_pos k8]; rfl
 rw [if_neg k8, if_neg k8]
 by_cases k9 : e.kind = 9
 ·rw [if_pos k9, if_pos k9]; rfl
 rw [if_neg k9, if_neg k9]
 by_cases k10 : e.kind = 10
 ·rw [if_pos k10, if_pos k10]; rfl
 rw [if_neg k10, if_neg k10]
 by_cases k12 : e.kind = 12
 ·rw [if_pos k12]; rfl
 rw [if_neg k12]
 by_cases k13 : e.kind = 13
 ·rw [if_pos k13]
 rw [if_neg k13, PS.make]
 by_cases k1 : e.kind = 1
 ·rw [if_pos k1]
  show ((((s.upFo e.a _).upNm _ _).hold _ _)).it = _
  rw [hold_it]; rfl
 rw [if_neg k1]
 by_cases k3 : e.kind = 3
 ·rw [if_pos k3]
  show ((((s.upFe e.a _).upPl _ _).hold _ _)).it = _
  rw [hold_it]; rfl
 rw [if_neg k3, if_neg k7]
 split <;> rfl
theorem tgF_mem {l : List Bs} {t : Bs} {n : Int} {g : Bs} (h : g ∈ tgF l t n) : g ∈ l ∨ g = t := by
 unfold tgF at h
 split at h
 ·rw [List.mem_append, List.mem_cons] at h
  rcases h with h | h | h
  ·exact .inl (List.mem_of_mem_take h)
  ·exact .inr h
  ·exact .inl (List.mem_of_mem_drop h)
 ·split at h
  ·rw [List.mem_append] at h
   rcases h with h | h
   ·exact .inl (List.mem_of_mem_take h)
   ·exact .inl (List.mem_of_mem_drop h)
  ·exact .inl h
def PS.Tg (s : PS) : Prop := ∀ k t, lkM s.it k = some t → ∀ g ∈ t.tags, g.length ≤ 64
theorem PS.Tg.z : PS.z.Tg := fun _ _ h => by cases h
theorem PS.Tg.getD {s : PS} (h : s.Tg) (k : Int) : ∀ g ∈ ((lkM s.it k).getD It.z).tags, g.length ≤ 64 := by
 cases hl : lkM s.it k with
 | none => intro g hg; simp [It.z] at hg
 | some t => exact h k t hl
theorem tag_len {g : Bs} (h : L0.tag g = true) : g.length ≤ 64 := by
 have hu : L0.tag g = ((!(g == []) && textF rightS cleanF g 64) && isF g) := rfl
 rw [hu] at h
 simp only [Bool.and_eq_true] at h
 have := h.1.2
 unfold textF at this
 rw [Bool.and_eq_true, decide_eq_true_eq] at this
 omega
theorem PS.Tg.step {s : PS} (h : s.Tg) (hI : s.Inv) (e : Ev) : (s.step L0 e).Tg := by
 unfold PS.step
 split
 ·rename_i hok
  have hr : e.kind = 10 → e.s.length ≤ 64 := fun k => by
   unfold PS.ok PS.fits at hok
   rw [Bool.and_eq_true] at hok
   have := hok.1
   unfold Leaf.ck at this
   simp only [Bool.and_eq_true] at this
   have hq := this.1
   unfold Leaf.right at hq
   rw [if_neg (by omega), if_neg (by omega), if_neg (by omega), if_neg (by omega), if_neg (by omega), if_neg (by omega), if_neg (by omega), if_pos k] at hq
   simp only [Bool.and_eq_true] at hq
   exact tag_len hq.2.2
  intro k t hk g hg
  rw [aft_it] at hk
  split at hk
  ·exact h k t (lk_filC hI.w3.keys hk) g hg
  split at hk
  ·rcases lk_upC hk with ⟨rfl, rfl⟩ | ⟨_, hk⟩
   ·simp at hg
   ·exact h k t hk g hg
  split at hk
  ·rcases lk_upC hk with ⟨rfl, rfl⟩ | ⟨_, hk⟩
   ·exact h.getD _ g hg
   ·exact h k t hk g hg
  split at hk
  ·rcases lk_upC hk with ⟨rfl, rfl⟩ | ⟨_, hk⟩
   ·exact h.getD _ g hg
   ·exact h k t hk g hg
  split at hk
  ·rename_i k10
   rcases lk_upC hk with ⟨rfl, rfl⟩ | ⟨_, hk⟩
   ·rcases tgF_mem hg with hg | rfl
    ·exact h.getD _ g hg
    ·exact hr k10
   ·exact h k t hk g hg
  ·exact h k t hk g hg
 ·exact h
theorem PS.Tg.fold {s : PS} (h : s.Tg) (hI : s.Inv) (l : List Ev) : (l.foldl (PS.step L0) s).Tg := by
 induction l generalizing s with
 | nil => exact h
 | cons e l ih => exact ih (h.step hI e) (hI.step e)
end Go.Av
namespace Go.Av
open Go Go.Proofs Go.RowKit
attribute [local irreducible] WP WPl WPix Sat
set_option maxRecDepth 100000
set_option maxHeartbeats 4000000
variable (G : Nat → Option (List AVal))
def PS.step1 (s : PS) (e : Ev) : PS := if s.fits true (s.dpt e.b) e then s.aft e else s
theorem step_ck {s : PS} {e : Ev} (h : L0.ck e = true) : s.step L0 e = s.step1 e := by unfold PS.step PS.step1 PS.ok; rw [h]
theorem ck_of {e : Ev} (h1 : L0.right e = true) (h2 : usedE e = e) : L0.ck e = true := by unfold Leaf.ck; rw [h1, h2]; simp
def lvs : List Ev := [⟨1, 1, 0, 0, [102], [], []⟩, ⟨3, 1, 1, 0, [117], [], []⟩, ⟨7, 1, 1, 0, [97], [], []⟩, ⟨7, 2, 1, 0, [98], [], []⟩, ⟨10, 2, 0, 1, [103, 111], [], []⟩]
def lvE : Ev := ⟨8, 2, 0, 1, [], [], []⟩
def lvS : PS := lvs.foldl PS.step1 PS.z
def lvT : PS := lvS.aft lvE
theorem lvE_ck : L0.ck lvE = true := ck_of (by kernel_rfl) rfl
theorem lvs_fold : lvs.foldl (PS.step L0) PS.z = lvS := by
 show (((((PS.z.step L0 _).step L0 _).step L0 _).step L0 _).step L0 _) = _
 rw [step_ck (ck_of (by kernel_rfl) rfl), step_ck (ck_of (by kernel_rfl) rfl), step_ck (ck_of (by kernel_rfl) rfl), step_ck (ck_of (by kernel_rfl) rfl), step_ck (ck_of (by kernel_rfl) rfl)]
 rfl
theorem lvS_ok : lvS.ok L0 lvE = true := by unfold PS.ok; rw [lvE_ck]; kernel_rfl
theorem lvS_inv : lvS.Inv := by rw [← lvs_fold]; exact PS.Inv.z.fold lvs
theorem lvS_step : lvS.step L0 lvE = lvT := by unfold PS.step; rw [lvS_ok]; rfl
theorem lvT_inv : lvT.Inv := by rw [← lvS_step]; exact lvS_inv.step lvE
def lvC : List Ct := [⟨1, 0, [], 2, 1⟩, ⟨2, 1, [], 2, 1⟩, ⟨3, 1, [], 2, 1⟩, ⟨4, 0, [103, 111], 1, 0⟩, ⟨5, 0, [], 0, 0⟩]
theorem sortI_one (n : Int) : sortI [n] = [n] := List.mergeSort_of_pairwise (by simp)
theorem lvT_fo : lvT.fo.map (·.1) = [1] := by kernel_rfl
theorem lvT_fe : lvT.fe.map (·.1) = [1] := by kernel_rfl
theorem lvT_tell : lvT.tellC = lvC := by
 unfold PS.tellC
 rw [lvT_fo, lvT_fe, sortI_one]
 kernel_rfl
theorem lvT_tags : tagsR lvT.its = [[103, 111]] := by kernel_rfl
section
variable {Y : Heap} {n m : Nat} {s : PS} {c : CS}
theorem ZCTell (Kc : Kp c s) (h : s.Inv) (t1 : ∀ g ∈ tagsR s.its, g.length ≤ 1048576) (t2 : (tagsR s.its).length ≤ 100000) (hn : n + 9 ≤ m) (hm : m + 7 ≤ Y.length) :
  Sat (CT G) 16 [.hp (m + 6) 0 0 0] (sc Y n s m c) (fun r h' => r = .sl 5 (s.tellC.map Ct.av) ∧ h' = sc Y n s m c) := by
 have hp : (c.tg.map (·.1)).Perm (tagsR s.its) := by rw [← Kc.keysTg h]; exact (List.mergeSort_perm _ _).symm
 have p1 := keys_perm Kc.wf.w1 h.w1 Kc.fo
 have p2 := keys_perm Kc.wf.w2 h.w2 Kc.fe
 have q1 := p1.length_eq
 have q2 := p2.length_eq
 have q3 := hp.length_eq
 rw [List.length_map, List.length_map] at q1 q2
 rw [List.length_map] at q3
 have l1 := h.l1
 have l2 := h.l2
 rw [sc_co hn hm, ← Kc.told h]
 refine CSTell_sat G c Kc.wf (fun e he => ?_) (fun e he => ?_) (fun e he => ?_) (by omega) (by omega) (by omega) (by rw [so_len (by omega)]; exact hm)
 ·have := mem_keys.1 (p1.mem_iff.1 (List.mem_map.2 ⟨e, he, rfl⟩))
  obtain ⟨f, hf⟩ := Option.isSome_iff_exists.1 this
  have := h.i1 _ _ hf
  omega
 ·have := mem_keys.1 (p2.mem_iff.1 (List.mem_map.2 ⟨e, he, rfl⟩))
  obtain ⟨f, hf⟩ := Option.isSome_iff_exists.1 this
  have := h.i2 _ _ hf
  omega
 ·exact t1 _ (hp.mem_iff.1 (List.mem_map.2 ⟨e, he, rfl⟩))
end
theorem fin_sc {h Y : Heap} {n m : Nat} {s : PS} {c : CS} {R : AVal → Heap → Prop} {b : Bool} (hn : n + 9 ≤ m) (hm : m + 7 ≤ Y.length) (hp : ∃ j, Y = h ++ j) (hh : h.length ≤ n) (hR : R (.bool b) h) : Fin h (sc Y n s m c) R (.bool b) := by
 obtain ⟨j, rfl⟩ := hp
 obtain ⟨j', he⟩ := sc_pre (s := s) (c := c) hn hm hh
 rw [he]
 exact Fin.plainE (j := j') rfl (.bool _) hR
theorem lives28_sat (h : Heap) : Sat (CT G) 11 [] h (fun r h' => r = .bool true ∧ h' = h) := by
 have hF := fun h => Fold0_sat G lvs (by decide) h
 rw [lvs_fold] at hF
 have hz9 : (PS.z.bl h.length).length = 9 := rfl
 have hfh := hF h
 generalize hH : h ++ PS.z.bl h.length = H0 at hfh
 have hl0 : H0.length = h.length + 9 := by rw [← hH]; simp [hz9]
 have hnw := ZNew G lvS_inv (H := H0) (n := h.length) (by omega)
 have hz7 : (CS.z.bl H0.length).length = 7 := rfl
 generalize hWw : H0 ++ CS.z.bl H0.length = W0 at hnw
 have hlW : W0.length = H0.length + 7 := by rw [← hWw]; simp [hz7]
 have hpre : ∃ j, W0 = h ++ j := ⟨PS.z.bl h.length ++ CS.z.bl H0.length, by rw [← hWw, ← hH, List.append_assoc]⟩
 generalize H0.length = m at *
 have hn : h.length + 9 ≤ m := by omega
 have hap := fun (W : Heap) (hm : m + 7 ≤ W.length) => ZApply G (Y := W) (n := h.length) (m := m) (c := CS.ofSt lvS.tell) lvS_inv lvE hn hm
 rw [lvS_step, lvS_ok] at hap
 have hst := fun (W : Heap) (hm : m + 7 ≤ W.length) => ZStep G (Y := W) (n := h.length) (m := m) (Kp.new lvS_inv) lvS_inv lvE lvS_ok hn hm
 refine sb [.tmp 0] (fn := Tryz.f11) Tryz.func11 ?_
 intro Q hQ
 refine wk trivial ?_
 refine kq trivial (hfh) ?_
 refine kq trivial (hnw) ?_
 refine kq trivial (hap _ (by first | omega | (simp; omega))) ?_
 refine (hst _ (by first | omega | (simp; omega))).mono ?_
 rintro r h' ⟨rfl, d, kd, rfl⟩
 change Kp d lvT at kd
 have hof : d.of 2 1 [] = (2, 1) := by
  show (lkM d.fo 1).getD (0, 0) = _
  rw [kd.lkFo lvT_inv (by kernel_rfl)]
  kernel_rfl
 have hof1 : (d.of 2 1 []).1 = 2 := by rw [hof]
 have hof2 : (d.of 2 1 []).2 = 1 := by rw [hof]
 have htl := fun (W : Heap) (hm : m + 7 ≤ W.length) => ZCTell G (Y := W) (n := h.length) (m := m) kd lvT_inv (by rw [lvT_tags]; decide) (by rw [lvT_tags]; decide) hn hm
 rw [lvT_tell] at htl
 have hsm := fun h => Same_sat G lvC lvC (by decide) (by decide) h
 rw [decide_eq_true (rfl : lvC = lvC)] at hsm
 have F := F2 hof1 hof2
 try refine sq F ?_
 refine wk F ?_
 refine kq F (ZOf G (n := h.length) (s := lvT) (c := d) hn (by first | omega | (simp; omega)) 2 1 []) ?_
 refine kq F (htl _ (by first | omega | (simp; omega))) ?_
 refine kq F (hsm _) ?_
 refine ee hQ F ?_
 obtain ⟨j0, hj0⟩ := hpre
 exact fin_sc hn (by simp; omega) ⟨j0 ++ _, by rw [hj0, List.append_assoc]⟩ (Nat.le_refl _) ⟨rfl, rfl⟩
end Go.Av
namespace Go.Av
open Go Go.Proofs Go.RowKit
attribute [local irreducible] WP WPl WPix Sat
set_option maxRecDepth 100000
set_option maxHeartbeats 4000000
variable (G : Nat → Option (List AVal))
theorem PS.Inv.tgs {s : PS} (h : s.Inv) (ht : s.Tg) : ∀ g ∈ tagsR s.its, g.length ≤ 1048576 := fun g hg => by
 obtain ⟨t, ht2, hgt⟩ := (tagsR_mem _ _).1 hg
 obtain ⟨k, hk⟩ := its_lk h ht2
 have := ht k t hk g hgt
 omega
theorem PS.Inv.tgl {s : PS} (h : s.Inv) : (tagsR s.its).length ≤ 100000 := by
 have := tagsR_len h.up
 rw [tagsR_perm (its_perm h)] at this
 omega
theorem tellC_len {s : PS} (h : s.Inv) : s.tellC.length ≤ 1000000 := by
 have h1 := h.tgl
 have h2 := h.l1
 have h3 := h.l2
 unfold PS.tellC
 simp only [List.length_append, List.length_cons, List.length_map, List.length_nil, sortI_len]
 omega
theorem sc_swap {W : Heap} {n m m' : Nat} {s : PS} {c d : CS} (hn : n + 9 ≤ m) (hm : m + 7 ≤ m') (hm' : m' + 7 ≤ W.length) : sc (co W m c) n s m' d = sc (co W m' d) n s m c := by
 unfold sc
 congr 1
 exact ov_comm (bs := d.bl m') (cs := c.bl m) (by show m' + 7 ≤ W.length; omega) (by show m + 7 ≤ W.length; omega) (.inr hm)
theorem CountKept_sat (es ms : List Ev) (h : Heap) : Sat (CT G) 4 [.sl 7 (es.map Ev.av), .sl 7 (ms.map Ev.av)] h (fun r h' => r = .bool true ∧ h' = h) := by
 have hLg := LargeEvents_sat G es
 have hMg := LargeEvents_sat G ms
 cases hlg : lgF es with
 | true =>
  rw [hlg] at hLg
  refine sb [.tmp 4] (fn := Tryz.f4) Tryz.func4 ?_
  intro Q hQ
  refine wk trivial ?_
  refine kq trivial (hLg _) ?_
  refine kq trivial (lives28_sat G _) ?_
  refine ee hQ trivial ?_
  exact Fin.same (.bool _) ⟨rfl, rfl⟩
 | false =>
 cases hmg : lgF ms with
 | true =>
  rw [hlg] at hLg
  rw [hmg] at hMg
  refine sb [.tmp 4] (fn := Tryz.f4) Tryz.func4 ?_
  intro Q hQ
  refine wk trivial ?_
  refine kq trivial (hLg _) ?_
  refine kq trivial (hMg _) ?_
  refine kq trivial (lives28_sat G _) ?_
  refine ee hQ trivial ?_
  exact Fin.same (.bool _) ⟨rfl, rfl⟩
 | false =>
  rw [hlg] at hLg
  rw [hmg] at hMg
  have hel : es.length ≤ 150 := by
   unfold lgF at hlg
   rw [Bool.or_eq_false_iff] at hlg
   have := hlg.1
   simp only [decide_eq_false_iff_not] at this
   omega
  have hmel : ms.length ≤ 150 := by
   unfold lgF at hmg
   rw [Bool.or_eq_false_iff] at hmg
   have := hmg.1
   simp only [decide_eq_false_iff_not] at this
   omega
  have hI0 : (es.foldl (PS.step L0) PS.z).Inv := PS.Inv.z.fold es
  have hT0 : (es.foldl (PS.step L0) PS.z).Tg := PS.Tg.z.fold .z es
  have hfh := Fold0_sat G es (by omega) h
  generalize es.foldl (PS.step L0) PS.z = s0 at hI0 hT0 hfh
  have hz9 : (PS.z.bl h.length).length = 9 := rfl
  generalize hH : h ++ PS.z.bl h.length = H0 at hfh
  have hl0 : H0.length = h.length + 9 := by rw [← hH]; simp [hz9]
  have hnw := ZNew G hI0 (H := H0) (n := h.length) (by omega)
  have kc0 := Kp.new hI0
  generalize CS.ofSt s0.tell = c0 at hnw kc0
  have hz7 : (CS.z.bl H0.length).length = 7 := rfl
  generalize hWw : H0 ++ CS.z.bl H0.length = W0 at hnw
  have hlW : W0.length = H0.length + 7 := by rw [← hWw]; simp [hz7]
  have hpre : ∃ j, W0 = h ++ j := ⟨PS.z.bl h.length ++ CS.z.bl H0.length, by rw [← hWw, ← hH, List.append_assoc]⟩
  generalize H0.length = m at *
  have hn : h.length + 9 ≤ m := by omega
  have hm0 : m + 7 ≤ W0.length := by omega
  have hml : (ms.map Ev.av).length = ms.length := List.length_map ..
  have F := hml
  refine sb [.tmp 4] (fn := Tryz.f4) Tryz.func4 ?_
  intro Q hQ
  refine wk F ?_
  refine kq F (hLg _) ?_
  refine kq F (hMg _) ?_
  refine kq F (hfh) ?_
  refine kq F (hnw) ?_
  refine kq F (lives28_sat G _) ?_
  refine lm (fun nL tL hL => ∃ (k : Nat) (s : PS) (c : CS), ms.length - k = nL ∧ sc W0 h.length s m c = hL ∧ tL 1 = .sl 7 (ms.map Ev.av) ∧ tL 5 = .hp (h.length + 8) 0 0 0 ∧ tL 6 = .hp (m + 6) 0 0 0 ∧ tL 7 = .int .i64 k ∧ k ≤ ms.length ∧ s.Inv ∧ s.Tg ∧ Kp c s) ((fun (k : Nat) (s : PS) (c : CS) => (ms.length - k : Nat)) (0) (s0) (c0)) ?_ ?_
  ·refine Wkn.refl ⟨0, s0, c0, rfl, rfl, ?_, ?_, ?_, ?_, by omega, hI0, hT0, kc0⟩
   all_goals first | exact zq F | rfl | omega | trivial | skip
  rintro _ s2 h' ⟨k, s, c, rfl, rfl, e1, e5, e6, e7, hk, hI, hTg, kc⟩ K2 hK2
  simp only [mix_cons, mix_nil, Nat.reduceEqDiff, ↓reduceIte] at e1 e5 e6 e7
  have F := F5 F e1 e5 e6 e7
  refine wk F ?_
  refine cq F (fun c1 => ?_) (fun c1 => ?_) <;> (try exact c1.elim) <;> (refine wk F ?_)
  ·have c2 : k < ms.length := by omega
   obtain ⟨e, he, _⟩ := getElem?_of_lt c2
   have hap := ZApply G (Y := W0) (n := h.length) (m := m) (c := c) hI e hn hm0
   have hI2 := hI.step (L := L0) e
   have hT2 := hTg.step hI e
   cases hok : s.ok L0 e with
   | false =>
    have hst : s.step L0 e = s := by unfold PS.step; rw [hok]; rfl
    rw [hst, hok] at hap
    have F := F3 F c2 he
    try refine sq F ?_
    refine wk F ?_
    refine kq F (hap) ?_
    refine hK2 _ _ _ (Wkn.refl ⟨k + 1, s, c, rfl, rfl, ?_, ?_, ?_, ?_, by omega, hI, hTg, kc⟩) (by omega)
    all_goals first | exact zq F | rfl | omega | trivial | skip
   | true =>
    have hst : s.step L0 e = s.aft e := by unfold PS.step; rw [hok]; rfl
    rw [hst] at hI2 hT2
    rw [hst, hok] at hap
    have hsp := ZStep G (Y := W0) kc hI e hok hn hm0
    have F := F3 F c2 he
    try refine sq F ?_
    refine wk F ?_
    refine kq F (hap) ?_
    refine hsp.mono ?_
    rintro r h' ⟨rfl, d, kd, rfl⟩
    have htl := ZCTell G (Y := W0) (n := h.length) (m := m) kd hI2 (hI2.tgs hT2) hI2.tgl hn hm0
    have hte := ZTell G (Y := W0) (n := h.length) (m := m) (c := d) hI2 hn hm0
    have hrt := RTell_sat G (s.aft e).tell hI2.up (sc W0 h.length (s.aft e) m d)
    rw [tellC_eq hI2] at hrt
    have hsm := Same_sat G (s.aft e).tellC (s.aft e).tellC (tellC_len hI2) (tellC_len hI2) (sc W0 h.length (s.aft e) m d)
    rw [decide_eq_true (rfl : (s.aft e).tellC = (s.aft e).tellC)] at hsm
    try refine sq F ?_
    refine wk F ?_
    refine kq F (htl) ?_
    refine kq F (hte) ?_
    refine kq F (hrt) ?_
    refine kq F (hsm) ?_
    refine hK2 _ _ _ (Wkn.refl ⟨k + 1, s.aft e, d, rfl, rfl, ?_, ?_, ?_, ?_, by omega, hI2, hT2, kd⟩) (by omega)
    all_goals first | exact zq F | rfl | omega | trivial | skip
  ·have hN := ZNew G hI (H := co W0 m c) (n := h.length) (by rw [co_len hm0]; omega)
   have kn := Kp.new hI
   have hb7 : (CS.z.bl (co W0 m c).length).length = 7 := rfl
   rw [co_app hm0, co_len hm0] at hN
   rw [co_len hm0] at hb7
   generalize hbz : CS.z.bl W0.length = bz at hN hb7
   generalize CS.ofSt s.tell = d at hN kn
   have hlW1 : (W0 ++ bz).length = W0.length + 7 := by simp [hb7]
   have hsw : sc (co (W0 ++ bz) m c) h.length s W0.length d = sc (co (W0 ++ bz) W0.length d) h.length s m c := sc_swap hn hm0 (by omega)
   have t1 := ZCTell G (Y := co (W0 ++ bz) W0.length d) (n := h.length) (m := m) kc hI (hI.tgs hTg) hI.tgl hn (by rw [co_len (by omega)]; omega)
   have t2 := ZCTell G (Y := co (W0 ++ bz) m c) (n := h.length) (m := W0.length) kn hI (hI.tgs hTg) hI.tgl (by omega) (by rw [co_len (by omega)]; omega)
   have q2 : abin Tryz.prog (sc (co (W0 ++ bz) m c) h.length s W0.length d) .neq 25 (.hp (W0.length + 6) 0 0 0) (.nil (.pointer none)) = some (.bool true) := by
    rw [sc_co (by omega) (by rw [co_len (by omega)]; omega)]; exact co_neq (by rw [so_len (by rw [co_len (by omega)]; omega), co_len (by omega)]; omega)
   rw [← hsw] at t1
   have hfn : ∃ j, sc (co (W0 ++ bz) m c) h.length s W0.length d = h ++ j := by
    obtain ⟨j0, hj0⟩ := hpre
    have h1 : sc (co (W0 ++ bz) m c) h.length s W0.length d = sc (co (W0 ++ bz) m c) h.length s W0.length d := rfl
    have h2 : ∃ j, co (W0 ++ bz) m c = h ++ j := by
     refine ⟨(co (W0 ++ bz) m c).drop h.length, ?_⟩
     have hl := co_len (H := W0 ++ bz) (c := c) (m := m) (by omega)
     apply List.ext_getElem?
     intro p
     by_cases hp : p < h.length
     ·rw [List.getElem?_append_left hp]
      unfold co
      rw [ov_out (by show m + 7 ≤ _; omega) (.inl (by omega)), hj0, List.append_assoc, List.getElem?_append_left hp]
     ·rw [List.getElem?_append_right (by omega), List.getElem?_drop]; congr 1; omega
    obtain ⟨j1, hj1⟩ := h2
    rw [hj1]
    exact sc_pre (by omega) (by rw [← hj1, co_len (by omega)]; omega) (Nat.le_refl _)
   have hsm := Same_sat G s.tellC s.tellC (tellC_len hI) (tellC_len hI) (sc (co (W0 ++ bz) m c) h.length s W0.length d)
   rw [decide_eq_true (rfl : s.tellC = s.tellC)] at hsm
   have hscu : sc W0 h.length s m c = so (co W0 m c) h.length s := rfl
   rw [← hscu] at hN
   generalize sc (co (W0 ++ bz) m c) h.length s W0.length d = Z at hN t1 t2 q2 hfn hsm
   try refine sq F ?_
   refine wk F ?_
   refine kq F (hN) ?_
   have F := F2 F q2
   try refine sq F ?_
   refine wk F ?_
   refine kq F (t1) ?_
   refine kq F (t2) ?_
   refine kq F (hsm) ?_
   refine ee hQ F ?_
   obtain ⟨j, rfl⟩ := hfn
   exact Fin.plain (.bool _) ⟨rfl, rfl⟩
end Go.Av
namespace Go.Proofs.YtanjiiailjilbaaGreat.countKept
open Go Go.Av Go.RowKit Go.ChangeShapes Go.WideShapes Go.ChangeAt
set_option maxRecDepth 100000
def none' : Nat → Option (List AVal) := fun _ => none
theorem contract (H : Type) (enc : TypeId × Value → H) (W : World) (base : Nat) (args : Array Value) (ds gs : List (DataW H)) (before : List MemPlace)
  (hval : ∀ (j : Nat) t v, Tryz.f4.params[j]? = some t → args[j]? = some v → Value.okWide Tryz.prog W .any base t v)
  (hW : DataW.Whole enc Tryz.prog Tryz.f4.params.toList Rows.countKeptSpec.vars false W args.toList ds gs before) :
  Calls Tryz.prog 4 args W fun e W' => ∃ v, e = .returned v ∧ Rows.countKeptSpec.post enc Tryz.prog Tryz.f4 false true false false W args v W' := by
 have hW' := hW
 obtain ⟨p, q, hA0, hV, rfl, hfz, hnd⟩ := hW
 have hA : DataW.TrodAll enc Tryz.prog W 0 (fun _ => true) true Tryz.f4.params.toList args.toList ds p := hA0
 rw [Tryz.params4] at hA hval
 obtain ⟨v0, vs0, d0, ds0, p0, q0, hargs, rfl, rfl, h0, r0⟩ := trodAll_cons hA
 obtain ⟨v1, vs1, d1, ds1, p1, q1, rfl, rfl, rfl, h1, r1⟩ := trodAll_cons r0
 obtain ⟨rfl, rfl, rfl⟩ := trodAll_nil r1
 obtain ⟨rfl, rfl⟩ := trodVars_none hV
 obtain rfl : args = #[v0, v1] := by cases args; simp_all
 obtain ⟨e0, re0⟩ := evs_of_trod (hval 0 22 v0 rfl rfl) h0
 obtain ⟨e1, re1⟩ := evs_of_trod (hval 1 22 v1 rfl rfl) h1
 refine contract_of_sat (C := CT none') Tryz.func4 rfl rfl kids_prog full_prog (fun t ht => ?_) rfl rfl rfl Tryz.underlying4 hW' (fun g cs hg => by simp only [CT_G, none'] at hg; cases hg) (xs := [.sl 7 (e0.map Ev.av), .sl 7 (e1.map Ev.av)]) ⟨rfl, fun i x hi => ?_⟩ (CountKept_sat none' e0 e1 [])
 ·rw [Tryz.params4] at ht
  change t ∈ [_, _] at ht
  simp only [List.mem_cons, List.mem_nil_iff, or_false, or_self] at ht
  subst ht
  exact of_decide_eq_true (by kernel_rfl)
 ·match i with
  | 0 => simp at hi; subst hi; exact re0
  | 1 => simp at hi; subst hi; exact re1
  | i + 2 => simp at hi
def wit : Array Value := #[.slice none 0 0, .slice none 0 0]
noncomputable def witW (os : Os) : World := World.holding Tryz.prog os ⟨#[], wit, []⟩
theorem laid_met (os : Os) : laidMet Tryz.prog Rows.countKeptRow.laid ((witW os).forCall (fun _ _ => 0) ⟨#[], wit, []⟩).memory :=
 laidMet_of_run' 8 (by kernel_rfl) (by kernel_rfl)
theorem reads (os : Os) {H : Type} (enc : TypeId × Value → H) : ∃ places, DataW.whole enc Tryz.prog ((witW os).forCall (fun _ _ => 0) ⟨#[], wit, []⟩).memory Tryz.f4.params.toList Rows.countKeptSpec.vars false wit.toList 8 =
  some ([.nil, .nil], [], places) :=
 ⟨[], by kernel_rfl⟩
theorem lifted (os : Os) (started : os.Started) (H : Type) (enc : TypeId × Value → H) (F : Stop.Interp) :
  ReturnsInHanded {} Tryz.checked os 4 .any ((OpenSpec.ofChange Rows.countKeptSpec).preRow enc Tryz.prog Tryz.f4 Rows.countKeptRow.domain false Rows.countKeptRow.laid) (((OpenSpec.ofChange Rows.countKeptSpec).at F).post enc Tryz.prog Tryz.f4 false true false false) := by
 obtain ⟨places, hx⟩ := reads os enc
 refine returnsInHanded_of_row (C := Tryz.checked) (s := OpenSpec.ofChange Rows.countKeptSpec) own_prog started (by kernel_rfl) Tryz.func4
  (witness_row_at (enc := enc) (C := Tryz.checked) false (witW os) wit rfl (by kernel_rfl) (by kernel_rfl) (by kernel_rfl)
   (OpenSpec.preRow_of_cond 8 hx (by kernel_rfl) (fun k hk => by cases hk <;> kernel_rfl) (by kernel_rfl) (laid_met os))) ?_
 intro W base args ds gs before hval hW _ _ _ _ hsh _
 exact contract H enc W base args ds gs before hval hW
theorem said : Rows.CountKeptSaid :=
 OpenClaim.holds_of_cond 4 Tryz.f4 rfl rfl rfl rfl rfl rfl rfl ⟨rfl, rfl, rfl, rfl, rfl⟩ rfl rfl rfl rfl rfl (by kernel_rfl) Tryz.func4 (by kernel_rfl)
  (of_decide_eq_true (by kernel_rfl)) (by unfold Func.isWrapper; first | (rw [if_pos (by decide +kernel)]; kernel_rfl) | (rw [if_neg (by decide +kernel)]; exact ⟨rfl, rfl⟩))
  (fun os started H enc _ F => by rw [OpenClaim.pre_eq_preRow]; exact lifted os started H enc F)
end Go.Proofs.YtanjiiailjilbaaGreat.countKept
