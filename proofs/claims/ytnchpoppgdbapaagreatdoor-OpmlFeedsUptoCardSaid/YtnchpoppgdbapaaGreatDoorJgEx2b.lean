/- Closed runs: are two memories the same; what is handed back, read as data. -/
import Derived.Test.YtnchpoppgdbapaaGreatDoorJgEx2
set_option linter.unusedSimpArgs false
set_option linter.unusedVariables false
namespace Go.Av
open Go.RowKit

def nilEq : Value → Value → Bool
  | .slice none 0 0, .slice none 0 0 => true
  | .pointer none, .pointer none => true
  | .nilFunc, .nilFunc => true
  | .nilIface, .nilIface => true
  | .map none, .map none => true
  | .tuple ⟨[]⟩, .tuple ⟨[]⟩ => true
  | _, _ => false
theorem nilEq_ok {v w : Value} (h : nilEq v w = true) : v = w := by
  unfold nilEq at h; split at h <;> first | rfl | cases h
def fnEq : Fn → Fn → Bool
  | .func f, .func g => decide (f = g)
  | _, _ => false
theorem fnEq_ok {v w : Fn} (h : fnEq v w = true) : v = w := by
  unfold fnEq at h; split at h
  · rw [of_decide_eq_true h]
  · cases h
mutual
def beqA : AVal → AVal → Bool
  | .int k n, .int k' n' => decide (k = k') && decide (n = n')
  | .bool b, .bool b' => b == b'
  | .str s, .str s' => decide (s = s')
  | .nil v, .nil w => nilEq v w
  | .agg cs, .agg ds => beqAs cs ds
  | .tup cs, .tup ds => beqAs cs ds
  | .sl n es, .sl m fs => decide (n = m) && beqAs es fs
  | .ad cs, .ad ds => beqAs cs ds
  | .hp p v i o, .hp p' v' i' o' => decide (p = p') && decide (v = v') && decide (i = i') && decide (o = o')
  | .hs p v o l r, .hs p' v' o' l' r' => decide (p = p') && decide (v = v') && decide (o = o') && decide (l = l') && (r == r')
  | .fn f xs cs, .fn g ys ds => fnEq f g && beqAs xs ys && beqAs cs ds
  | .ifc t x, .ifc t' y => decide (t = t') && beqA x y
  | .pa, .pa => true
  | .ez, .ez => true
  | _, _ => false
def beqAs : List AVal → List AVal → Bool
  | [], [] => true
  | x :: l, y :: m => beqA x y && beqAs l m
  | _, _ => false
end
mutual
theorem beqA_ok : ∀ (x y : AVal), beqA x y = true → x = y
  | .int k n, y, h => by
    cases y <;> simp only [beqA, Bool.and_eq_true, decide_eq_true_eq, Bool.false_eq_true] at h
    rw [h.1, h.2]
  | .bool b, y, h => by
    cases y <;> simp only [beqA, beq_iff_eq, Bool.false_eq_true] at h
    rw [h]
  | .str s, y, h => by
    cases y <;> simp only [beqA, decide_eq_true_eq, Bool.false_eq_true] at h
    rw [h]
  | .nil v, y, h => by
    cases y <;> simp only [beqA, Bool.false_eq_true] at h
    rw [nilEq_ok h]
  | .agg cs, y, h => by
    cases y <;> simp only [beqA, Bool.false_eq_true] at h
    rw [beqAs_ok cs _ h]
  | .tup cs, y, h => by
    cases y <;> simp only [beqA, Bool.false_eq_true] at h
    rw [beqAs_ok cs _ h]
  | .sl n es, y, h => by
    cases y <;> simp only [beqA, Bool.and_eq_true, decide_eq_true_eq, Bool.false_eq_true] at h
    rw [h.1, beqAs_ok es _ h.2]
  | .ad cs, y, h => by
    cases y <;> simp only [beqA, Bool.false_eq_true] at h
    rw [beqAs_ok cs _ h]
  | .hp p v i o, y, h => by
    cases y <;> simp only [beqA, Bool.and_eq_true, decide_eq_true_eq, Bool.false_eq_true] at h
    obtain ⟨⟨⟨rfl, rfl⟩, rfl⟩, rfl⟩ := h; rfl
  | .hs p v o l r, y, h => by
    cases y <;> simp only [beqA, Bool.and_eq_true, decide_eq_true_eq, beq_iff_eq, Bool.false_eq_true] at h
    obtain ⟨⟨⟨⟨rfl, rfl⟩, rfl⟩, rfl⟩, rfl⟩ := h; rfl
  | .fn f xs cs, y, h => by
    cases y <;> simp only [beqA, Bool.and_eq_true, Bool.false_eq_true] at h
    rw [fnEq_ok h.1.1, beqAs_ok xs _ h.1.2, beqAs_ok cs _ h.2]
  | .ifc t x, y, h => by
    cases y <;> simp only [beqA, Bool.and_eq_true, decide_eq_true_eq, Bool.false_eq_true] at h
    rw [h.1, beqA_ok x _ h.2]
  | .pa, y, h => by cases y <;> first | rfl | simp [beqA] at h
  | .ez, y, h => by cases y <;> first | rfl | simp [beqA] at h
theorem beqAs_ok : ∀ (l m : List AVal), beqAs l m = true → l = m
  | [], m, h => by cases m <;> first | rfl | simp [beqAs] at h
  | x :: l, m, h => by
    cases m with
    | nil => simp [beqAs] at h
    | cons y m =>
      simp only [beqAs, Bool.and_eq_true] at h
      rw [beqA_ok x y h.1, beqAs_ok l m h.2]
end
def beqB : Blk → Blk → Bool
  | .row e n v rows, .row e' n' v' rows' => decide (e = e') && decide (n = n') && decide (v = v') && beqAs rows rows'
  | .iter s p, .iter s' p' => decide (s = s') && decide (p = p')
  | .dead, .dead => true
  | _, _ => false
theorem beqB_ok {x y : Blk} (h : beqB x y = true) : x = y := by
  unfold beqB at h; split at h
  · simp only [Bool.and_eq_true, decide_eq_true_eq] at h
    obtain ⟨⟨⟨rfl, rfl⟩, rfl⟩, h⟩ := h
    rw [beqAs_ok _ _ h]
  · simp only [Bool.and_eq_true, decide_eq_true_eq] at h
    rw [h.1, h.2]
  · rfl
  · cases h
/-- Does a memory begin with another one? -/
def begH : Heap → Heap → Bool
  | [], _ => true
  | _ :: _, [] => false
  | a :: l, b :: m => beqB a b && begH l m
theorem begH_ok : ∀ {h h1 : Heap}, begH h h1 = true → h1.take h.length = h
  | [], _, _ => by simp
  | _ :: _, [], h => by simp [begH] at h
  | a :: l, b :: m, h => by
    simp only [begH, Bool.and_eq_true] at h
    simp only [List.length_cons, List.take_succ_cons, begH_ok h.2, beqB_ok h.1]

/-! What is handed back, read as data. -/
mutual
def cloA (n : Nat) : AVal → Bool
  | .agg cs => cloAs n cs
  | .tup cs => cloAs n cs
  | .sl _ es => cloAs n es
  | .ad cs => cloAs n cs
  | .hp p _ _ _ => decide (p < n)
  | .hs p _ _ _ _ => decide (p < n)
  | .fn _ xs cs => cloAs n xs && cloAs n cs
  | .ifc _ x => cloA n x
  | _ => true
def cloAs (n : Nat) : List AVal → Bool
  | [] => true
  | x :: l => cloA n x && cloAs n l
end
mutual
theorem cloA_ok (n : Nat) : ∀ x : AVal, cloA n x = true → Clo n x
  | .int _ _, _ => .int _ _
  | .bool _, _ => .bool _
  | .str _, _ => .str _
  | .nil _, _ => .nil _
  | .agg cs, h => .agg _ (cloAs_ok n cs (by simpa only [cloA] using h))
  | .tup cs, h => .tup _ (cloAs_ok n cs (by simpa only [cloA] using h))
  | .sl _ es, h => .sl _ _ (cloAs_ok n es (by simpa only [cloA] using h))
  | .ad cs, h => .ad _ (cloAs_ok n cs (by simpa only [cloA] using h))
  | .hp p _ _ _, h => .hp _ _ _ _ (by simpa only [cloA, decide_eq_true_eq] using h)
  | .hs p _ _ _ _, h => .hs _ _ _ _ _ (by simpa only [cloA, decide_eq_true_eq] using h)
  | .fn _ xs cs, h => by
    simp only [cloA, Bool.and_eq_true] at h
    exact .fn _ _ _ (cloAs_ok n xs h.1) (cloAs_ok n cs h.2)
  | .ifc _ x, h => .ifc _ _ (cloA_ok n x (by simpa only [cloA] using h))
  | .pa, _ => .pa
  | .ez, _ => .ez
theorem cloAs_ok (n : Nat) : ∀ l : List AVal, cloAs n l = true → ∀ x ∈ l, Clo n x
  | [], _ => by intro x hx; cases hx
  | y :: l, h => by
    simp only [cloAs, Bool.and_eq_true] at h
    intro x hx
    rcases List.mem_cons.1 hx with e | hx
    · rw [e]; exact cloA_ok n y h.1
    · exact cloAs_ok n l h.2 x hx
end

/-- Each by a function that may fail. -/
def mapO {α β : Type} (f : α → Option β) : List α → Option (List β)
  | [] => some []
  | x :: l => match f x with
    | some y => match mapO f l with | some m => some (y :: m) | none => none
    | none => none
theorem mapO_ok {α β : Type} {f : α → Option β} : ∀ {l : List α} {m : List β}, mapO f l = some m → l.length = m.length ∧ ∀ (i : Nat) (x : α) (y : β), l[i]? = some x → m[i]? = some y → f x = some y
  | [], m, h => by simp only [mapO, Option.some.injEq] at h; subst h; exact ⟨rfl, fun i x y hx => by simp at hx⟩
  | x :: l, m, h => by
    simp only [mapO] at h
    split at h
    · rename_i y hy
      split at h
      · rename_i m1 hm; cases h
        obtain ⟨h1, h2⟩ := mapO_ok hm
        refine ⟨by simp [h1], fun i a b ha hb => ?_⟩
        cases i with
        | zero => simp at ha hb; subst ha; subst hb; exact hy
        | succ i => exact h2 i a b (by simpa using ha) (by simpa using hb)
      · cases h
    · cases h

def frzX (h : Heap) (n : Nat) : Nat → AVal → Option AVal
  | 0, x => if cloA n x = true then some x else none
  | f + 1, x => if cloA n x = true then some x else match x with
    | .agg cs => match mapO (frzX h n f) cs with | some ds => if ds.all AVal.sto = true then some (.agg ds) else none | none => none
    | .tup cs => match mapO (frzX h n f) cs with | some ds => some (.tup ds) | none => none
    | .ifc t x => match frzX h n f x with | some y => some (.ifc t y) | none => none
    | .hs p ver off len room => match getRow h p ver with
      | some (_, m, rows) => if n ≤ p ∧ off + len ≤ rows.length then
          match mapO (fun r => match mapO (frzX h n f) r.cells with | some ds => if ds.all AVal.sto = true then some (match r with | .agg _ => AVal.agg ds | _ => (match ds with | [d] => if d.sto = true then d else .pa | _ => .pa)) else none | none => none) rows with
          | some es => some (.sl m ((es.drop off).take len))
          | none => none else none
      | none => none
    | _ => none

theorem frzX_ok (h : Heap) (n : Nat) : ∀ (f : Nat) (x y : AVal), frzX h n f x = some y → Frz h n x y := by
  intro f
  induction f with
  | zero =>
    intro x y g
    simp only [frzX] at g
    split at g
    · rename_i hc; cases g; exact .clo _ (cloA_ok n _ hc)
    · cases g
  | succ f ih =>
    intro x y g
    simp only [frzX] at g
    split at g
    · rename_i hc; cases g; exact .clo _ (cloA_ok n _ hc)
    · split at g
      · split at g
        · rename_i ds hm
          split at g
          · rename_i hs; cases g
            obtain ⟨h1, h2⟩ := mapO_ok hm
            exact .agg _ _ h1 (fun d hd => List.all_eq_true.1 hs d hd) fun i c d hc hd => ih _ _ (h2 i c d hc hd)
          · cases g
        · cases g
      · split at g
        · rename_i ds hm; cases g
          obtain ⟨h1, h2⟩ := mapO_ok hm
          exact .tup _ _ h1 fun i c d hc hd => ih _ _ (h2 i c d hc hd)
        · cases g
      · split at g
        · rename_i hy; cases g; exact .ifc _ _ _ (ih _ _ hy)
        · cases g
      · split at g
        · rename_i hq
          split at g
          · rename_i hb
            split at g
            · rename_i es hm; cases g
              obtain ⟨h1, h2⟩ := mapO_ok hm
              have key : ∀ (i : Nat) (r s : AVal), _ → es[i]? = some s → Frz h n r s ∧ r.cells.length = s.cells.length ∧ (∀ (j : Nat) (c d : AVal), r.cells[j]? = some c → s.cells[j]? = some d → d.sto = true) ∧
                  ∀ (j : Nat) (c d : AVal), r.cells[j]? = some c → s.cells[j]? = some d → Frz h n c d := fun i r s hr hs => by
                have e := h2 i r s hr hs
                split at e
                · rename_i ds hd
                  obtain ⟨k1, k2⟩ := mapO_ok hd
                  split at e
                  · rename_i hst
                    have hst' := List.all_eq_true.1 hst
                    split at e
                    · cases e
                      exact ⟨.agg _ _ k1 (fun d hd => hst' d hd) fun j c d hc hd => ih _ _ (k2 j c d hc hd), k1, fun j c d hc hd => hst' d (List.mem_of_getElem? hd), fun j c d hc hd => ih _ _ (k2 j c d hc hd)⟩
                    · rename_i hna
                      have hc1 : r.cells = [r] := by cases r <;> first | rfl | exact absurd rfl (hna _)
                      rw [hc1] at k1 k2 ⊢
                      match ds, k1 with
                      | [d], _ =>
                        simp only at e
                        have hd1 := hst' d (by simp)
                        rw [if_pos hd1] at e
                        have e2 : d = s := by simpa using e
                        subst e2
                        have hs1 : d.cells = [d] := by cases d <;> first | rfl | (simp [AVal.sto] at hd1)
                        have hf := ih _ _ (k2 0 r d rfl rfl)
                        rw [hs1]
                        refine ⟨hf, rfl, fun j c x hc hx => ?_, fun j c x hc hx => ?_⟩
                        · match j with
                          | 0 => simp at hx; subst hx; exact hd1
                          | j + 1 => simp at hx
                        · match j with
                          | 0 => simp at hx hc; subst hx; subst hc; exact hf
                          | j + 1 => simp at hx
                  · cases e
                · cases e
              exact .hs _ _ _ _ _ _ _ _ es hb.1 hq hb.2 h1.symm (fun i r s hr hs => (key i r s hr hs).1) (fun i r s hr hs => ⟨(key i r s hr hs).2.1, fun j c d hc hd => (key i r s hr hs).2.2.1 j c d hc hd⟩)
                (fun i r s j c d hr hs hc hd => (key i r s hr hs).2.2.2 j c d hc hd)
            · cases g
          · cases g
        · cases g
      · cases g

section
variable {C : Ctx} {h : Heap}
/-- What a contract gives, the memory that was made let go. -/
theorem Sat.letgo {f : FuncId} {args : List AVal} {r v : AVal} {h1 : Heap} (hb : h1.take h.length = h) (hz : Frz h1 h.length r v) (s : Sat C f args h fun r2 h2 => r2 = r ∧ h2 = h1) : Sat C f args h fun r2 h2 => r2 = v ∧ h2 = h := by
  intro B S μ w vs fit rl
  refine (s B S μ w vs fit rl).mono fun u w' hp => ?_
  obtain ⟨r2, h', S', μ', ⟨rfl, rfl⟩, st, fit', hrep⟩ := hp
  obtain ⟨fc, sc⟩ := Fits.cut fit st fit' (n := h.length) (Nat.le_refl _) (fun p k hp hk => by
    refine .inl ⟨hp, ?_⟩
    rw [← hb, List.getElem?_take_of_lt hp]; exact hk)
  rw [hb] at fc
  exact ⟨v, h, _, _, ⟨rfl, rfl⟩, sc, fc, hz.rep fit' hrep⟩
end
end Go.Av
