/- How a walk goes through the beginning of a region that draws its order. -/
import Derived.Test.YtnchpoppgdbapaaGreatDoorJgAv19
set_option linter.unusedSimpArgs false
set_option linter.unusedVariables false
namespace Go.Av
open Go.RowKit

section
variable {C : Ctx} {ops : Array Oper} {rest : List Oper} {t : Env} {h : Heap} {K : Env → Prop} {dst : Option Nat} {ty : TypeId} {pos : String} {aft : Array Edge}

/-- One value, if any. -/
def Det (E : (AVal → Prop) → Prop) : Prop := ∀ R, E R ↔ ∃ v, (∀ KK : AVal → Prop, KK v → E KK) ∧ R v
theorem Det.pure (a : AVal) : Det fun k => k a := fun R => ⟨fun g => ⟨a, fun _ k => k, g⟩, fun ⟨v, h1, h2⟩ => by have := h1 (fun x => x = v) rfl; rw [this]; exact h2⟩
theorem Det.false : Det fun _ => False := fun R => ⟨fun g => g.elim, fun ⟨_, h1, _⟩ => h1 (fun _ => True) trivial⟩
theorem Det.and {c : Prop} {E : (AVal → Prop) → Prop} (d : Det E) : Det fun k => c ∧ E k := fun R =>
  ⟨fun g => by obtain ⟨v, h1, h2⟩ := (d R).1 g.2; exact ⟨v, fun KK k => ⟨g.1, h1 KK k⟩, h2⟩,
   fun ⟨v, h1, h2⟩ => ⟨(h1 (fun _ => True) trivial).1, (d R).2 ⟨v, fun KK k => (h1 KK k).2, h2⟩⟩⟩
theorem Det.need {α : Type} (x : Option α) {f : α → (AVal → Prop) → Prop} (d : ∀ a, Det (f a)) : Det fun k => Av.need x fun a => f a k := by
  cases x with
  | none => exact Det.false
  | some a => exact d a
theorem Det.need' (x : Option AVal) : Det fun k => Av.need x k := by
  cases x with
  | none => exact Det.false
  | some a => exact Det.pure a

theorem WPp_det {op : Op} {E : (AVal → Prop) → Prop} (d : Det E) (hE : ∀ KK : AVal → Heap → Prop, wpOp C op t h KK = E fun v => KK v h) :
    WPp C ops (⟨dst, op, ty, pos, aft, none⟩ :: rest) t h K = E fun v => WPp C ops rest (put t dst v) h K := by
  apply propext
  show (∃ v, (∀ KK : AVal → Heap → Prop, KK v h → wpOp C op t h KK) ∧ WPp C ops rest (put t dst v) h K) ↔ _
  rw [d (fun v => WPp C ops rest (put t dst v) h K)]
  constructor
  · rintro ⟨v, h1, h2⟩
    exact ⟨v, fun KK k => by have := h1 (fun v _ => KK v) k; rw [hE] at this; exact this, h2⟩
  · rintro ⟨v, h1, h2⟩
    exact ⟨v, fun KK k => by rw [hE]; exact h1 (fun v => KK v h) k, h2⟩

@[go_sem] theorem WPp_nil : WPp C ops [] t h K = K t := (rfl)
@[go_sem] theorem WPp_move (x : Operand) : WPp C ops (⟨dst, .move x, ty, pos, aft, none⟩ :: rest) t h K = WPp C ops rest (put t dst (aev C.G t x)) h K := WPp_det (Det.pure _) fun _ => rfl
@[go_sem] theorem WPp_assign (x : Operand) : WPp C ops (⟨dst, .assign x, ty, pos, aft, none⟩ :: rest) t h K = WPp C ops rest (put t dst (aev C.G t x)) h K := WPp_det (Det.pure _) fun _ => rfl

theorem Det.pick (c a b : AVal) : Det (pickK c a b) := by
  cases c <;> first | exact Det.false | skip
  rename_i q
  intro R
  simp only [pickK]
  constructor
  · intro g
    refine ⟨if q = true then a else b, fun KK k => ?_, ?_⟩
    · cases q <;> simp at k ⊢ <;> exact k
    · cases q <;> simp at g ⊢ <;> exact g
  · rintro ⟨v, h1, h2⟩
    have := h1 (fun x => x = v) rfl
    cases q <;> simp at this ⊢ <;> rw [this] <;> exact h2
@[go_sem] theorem WPp_pick (c x y : Operand) : WPp C ops (⟨dst, .pick c x y, ty, pos, aft, none⟩ :: rest) t h K = pickK (aev C.G t c) (aev C.G t x) (aev C.G t y) (fun v => WPp C ops rest (put t dst v) h K) :=
  WPp_det (Det.pick _ _ _) fun _ => rfl

theorem Det.load (C : Ctx) (T : TypeId) (x : AVal) (h : Heap) : Det (loadK C T x h) := by
  cases x with
  | ad cs => exact Det.need' (pickT C.P T cs)
  | hp p ver i off => exact Det.need (getRow h p ver) fun q => Det.need (q.2.2[i]?) fun r => Det.need' (pickT C.P T (r.cells.drop off))
  | _ => exact Det.false
@[go_sem] theorem WPp_load (T : TypeId) (x : Operand) : WPp C ops (⟨dst, .load T x, ty, pos, aft, none⟩ :: rest) t h K = loadK C T (aev C.G t x) h (fun v => WPp C ops rest (put t dst v) h K) :=
  WPp_det (Det.load _ _ _ _) fun KK => by simp only [wpOp, loadK]; generalize aev C.G t x = v; cases v <;> rfl

def nilV (x : AVal) (h : Heap) (k : AVal → Prop) : Prop := nilK x h (k x)
theorem Det.nilC (x : AVal) (h : Heap) : Det (nilV x h) := by
  unfold nilV
  cases x <;> simp only [nilK] <;> first | exact Det.false | exact Det.pure _ | exact Det.and (Det.pure _) | skip
  rename_i f _ _; cases f <;> first | exact Det.pure _ | exact Det.false
@[go_sem] theorem WPp_nilCheck (x : Operand) : WPp C ops (⟨dst, .nilCheck x, ty, pos, aft, none⟩ :: rest) t h K = nilK (aev C.G t x) h (WPp C ops rest (put t dst (aev C.G t x)) h K) :=
  WPp_det (E := nilV (aev C.G t x) h) (Det.nilC _ _) fun KK => by
    simp only [wpOp, nilV, nilK]; generalize aev C.G t x = v; cases v <;> first | rfl | (rename_i f _ _; cases f <;> rfl)

@[go_sem] theorem WPp_binOp (op : BinOp) (T T' : TypeId) (x y : Operand) : WPp C ops (⟨dst, .binOp op T x y T', ty, pos, aft, none⟩ :: rest) t h K =
    need (abin C.P h op T (aev C.G t x) (aev C.G t y)) fun v => WPp C ops rest (put t dst v) h K := by
  have key : ∀ KK : AVal → Heap → Prop, (∃ v, ∀ u h', KK u h' → u = v) → wpOp C (.binOp op T x y T') t h KK → need (abin C.P h op T (aev C.G t x) (aev C.G t y)) fun v => KK v h := by
    intro KK ⟨v, hv⟩ g
    simp only [wpOp] at g
    unfold binK at g
    split at g
    · split at g
      · exfalso
        cases op <;> first | exact g.elim | (have h1 := hv _ _ (g true); have h2 := hv _ _ (g false); rw [← h2] at h1; cases h1)
      · exact g.elim
    · exact g
  have back : ∀ KK : AVal → Heap → Prop, (need (abin C.P h op T (aev C.G t x) (aev C.G t y)) fun v => KK v h) → wpOp C (.binOp op T x y T') t h KK := by
    intro KK g
    simp only [wpOp]
    unfold binK
    split
    · rename_i n h1 h2
      rw [h1, h2] at g
      have e0 : abin C.P h op T (.sl n []) (.nil (.slice none 0 0)) = none := by
        simp only [abin, aeqNil]
        split
        · cases op <;> rfl
        · rfl
      rw [e0] at g; exact g.elim
    · exact g
  apply propext
  show (∃ v, (∀ KK : AVal → Heap → Prop, KK v h → wpOp C (.binOp op T x y T') t h KK) ∧ WPp C ops rest (put t dst v) h K) ↔ _
  have hd := Det.need' (abin C.P h op T (aev C.G t x) (aev C.G t y)) (fun v => WPp C ops rest (put t dst v) h K)
  refine Iff.trans ?_ hd.symm
  constructor
  · rintro ⟨v, h1, h2⟩
    refine ⟨v, fun KK k => ?_, h2⟩
    have := key (fun u h' => u = v ∧ KK v) ⟨v, fun u h' e => e.1⟩ (h1 _ ⟨rfl, k⟩)
    exact need_imp this fun a e => by rw [e.1]; exact e.2
  · rintro ⟨v, h1, h2⟩
    exact ⟨v, fun KK k => back KK (h1 (fun u => KK u h) k), h2⟩
@[go_sem] theorem WPp_unOp (op : UnOp) (T : TypeId) (x : Operand) : WPp C ops (⟨dst, .unOp op T x, ty, pos, aft, none⟩ :: rest) t h K =
    need (aun op (aev C.G t x)) fun v => WPp C ops rest (put t dst v) h K := WPp_det (Det.need' _) fun _ => rfl
theorem Det.conv (P : Program) (s d : TypeId) (x : AVal) (h : Heap) : Det (convK P s d x h) := by
  unfold convK
  split
  · exact Det.need _ fun q => Det.and (Det.and (Det.pure _))
  · exact Det.and (Det.need _ fun ys => Det.need _ fun bs => Det.pure _)
  · exact Det.and (Det.need _ fun ys => Det.need _ fun bs => Det.pure _)
  · exact Det.and (Det.pure _)
  · exact Det.need' _
@[go_sem] theorem WPp_convert (s d : TypeId) (x : Operand) : WPp C ops (⟨dst, .convert s d x, ty, pos, aft, none⟩ :: rest) t h K =
    convK C.P s d (aev C.G t x) h fun v => WPp C ops rest (put t dst v) h K := WPp_det (Det.conv _ _ _ _ _) fun _ => rfl
theorem Det.max (p : Int → Int → Bool) (x y : AVal) : Det (maxK p x y) := by
  unfold maxK
  split
  · exact Det.pure _
  · exact Det.false
@[go_sem] theorem WPp_max (x y : Operand) (Ts : Array TypeId) : WPp C ops (⟨dst, .call ⟨.builtin .max, #[x, y], Ts⟩, ty, pos, aft, none⟩ :: rest) t h K =
    maxK (fun a b => decide (b > a)) (aev C.G t x) (aev C.G t y) fun v => WPp C ops rest (put t dst v) h K := WPp_det (Det.max _ _ _) fun _ => rfl
@[go_sem] theorem WPp_min (x y : Operand) (Ts : Array TypeId) : WPp C ops (⟨dst, .call ⟨.builtin .min, #[x, y], Ts⟩, ty, pos, aft, none⟩ :: rest) t h K =
    maxK (fun a b => decide (b < a)) (aev C.G t x) (aev C.G t y) fun v => WPp C ops rest (put t dst v) h K := WPp_det (Det.max _ _ _) fun _ => rfl
theorem Det.sdata (x : AVal) (h : Heap) : Det (sdataK x h) := by
  unfold sdataK
  split
  · refine Det.and ?_
    split
    · exact Det.pure _
    · exact Det.pure _
  · exact Det.pure _
  · exact Det.false
@[go_sem] theorem WPp_sdata (x : Operand) (Ts : Array TypeId) : WPp C ops (⟨dst, .call ⟨.builtin .unsafeSliceData, #[x], Ts⟩, ty, pos, aft, none⟩ :: rest) t h K =
    sdataK (aev C.G t x) h fun v => WPp C ops rest (put t dst v) h K := WPp_det (Det.sdata _ _) fun _ => rfl
@[go_sem] theorem WPp_slice (T : TypeId) (x : Operand) (lo hi mx : Option Operand) : WPp C ops (⟨dst, .slice T x lo hi mx, ty, pos, aft, none⟩ :: rest) t h K =
    need (aslice C.P h T (aev C.G t x) (lo.map (aev C.G t)) (hi.map (aev C.G t)) (mx.map (aev C.G t))) fun v => WPp C ops rest (put t dst v) h K := WPp_det (Det.need' _) fun _ => rfl

theorem Det.field (x : AVal) (o : Nat) (h : Heap) : Det (fieldK x o h) := by
  cases x with
  | hp p ver i off => exact Det.and (Det.pure (.hp p ver i (off + o)))
  | ad cs => exact Det.and (Det.pure (.ad (cs.drop o)))
  | _ => exact Det.false
@[go_sem] theorem WPp_fieldAddr (T : TypeId) (x : Operand) (f : Nat) : WPp C ops (⟨dst, .fieldAddr T x f, ty, pos, aft, none⟩ :: rest) t h K =
    need (fOff C.P T f) fun q => q.2.2 ≠ 0 ∧ fieldK (aev C.G t x) q.1 h (fun v => WPp C ops rest (put t dst v) h K) :=
  WPp_det (E := fun k => need (fOff C.P T f) fun q => q.2.2 ≠ 0 ∧ fieldK (aev C.G t x) q.1 h k) (Det.need _ fun q => Det.and (Det.field _ _ _)) fun KK => by
    simp only [wpOp, fieldK]; cases fOff C.P T f <;> first | rfl | (simp only [need_eq]; generalize aev C.G t x = v; cases v <;> rfl)

theorem Det.index (C : Ctx) (T : TypeId) (x i : AVal) (h : Heap) : Det (indexK C T x i h) := by
  cases i with
  | int kd n =>
    cases x with
    | sl m es => exact Det.need (elmT C.P T) fun e => Det.and (Det.and (Det.and (Det.need (es[n.toNat]?) fun r => Det.pure (.ad r.cells))))
    | hs p ver off len room => exact Det.need (elmT C.P T) fun e => Det.need (getRow h p ver) fun q => Det.and (Det.and (Det.and (Det.pure (.hp p ver (off + n.toNat) 0))))
    | hp p ver j off => exact Det.need (arrT C.P T) fun q => Det.need (szOf C.P q.2) fun m => Det.and (Det.and (Det.and (Det.pure (.hp p ver j (off + n.toNat * m)))))
    | ad cs => exact Det.need (arrT C.P T) fun q => Det.need (szOf C.P q.2) fun m => Det.and (Det.and (Det.and (Det.pure (.ad (cs.drop (n.toNat * m))))))
    | _ => exact Det.false
  | _ => exact Det.false
@[go_sem] theorem WPp_indexAddr (T : TypeId) (x i : Operand) : WPp C ops (⟨dst, .indexAddr T x i, ty, pos, aft, none⟩ :: rest) t h K = indexK C T (aev C.G t x) (aev C.G t i) h (fun v => WPp C ops rest (put t dst v) h K) :=
  WPp_det (Det.index _ _ _ _ _) fun KK => by
    simp only [wpOp, indexK]; generalize aev C.G t i = vi; generalize aev C.G t x = v; cases vi <;> first | rfl | (cases v <;> rfl)

theorem Det.indexV (C : Ctx) (T : TypeId) (x i : AVal) : Det (indexV C T x i) := by
  cases i with
  | int kd n =>
    cases x with
    | str s => exact Det.and (Det.and (Det.need (s[n.toNat]?) fun b => Det.pure (.int .u8 b.toNat)))
    | agg cs => exact Det.need (arrT C.P T) fun q => Det.need (szOf C.P q.2) fun m => Det.and (Det.and (Det.need' (pickT C.P q.2 (cs.drop (n.toNat * m)))))
    | _ => exact Det.false
  | _ => exact Det.false
@[go_sem] theorem WPp_index (T : TypeId) (x i : Operand) : WPp C ops (⟨dst, .index T x i, ty, pos, aft, none⟩ :: rest) t h K = indexV C T (aev C.G t x) (aev C.G t i) (fun v => WPp C ops rest (put t dst v) h K) :=
  WPp_det (Det.indexV _ _ _ _) fun KK => by
    simp only [wpOp, indexV]; generalize aev C.G t i = vi; generalize aev C.G t x = v; cases vi <;> first | rfl | (cases v <;> rfl)

@[go_sem] theorem WPp_extract (x : Operand) (i : Nat) : WPp C ops (⟨dst, .extract x i, ty, pos, aft, none⟩ :: rest) t h K =
    need (match aev C.G t x with | .tup vs => vs[i]? | _ => none) fun v => WPp C ops rest (put t dst v) h K :=
  WPp_det (E := fun k => need (match aev C.G t x with | .tup vs => vs[i]? | _ => none) k) (Det.need' _) fun KK => by
    simp only [wpOp]; generalize aev C.G t x = v; cases v <;> rfl

@[go_sem] theorem WPp_build (T : TypeId) (parts : Array (Nat × Operand)) : WPp C ops (⟨dst, .build T parts, ty, pos, aft, none⟩ :: rest) t h K =
    need (buildA C T (parts.toList.map fun q => (q.1, aev C.G t q.2))) fun v => WPp C ops rest (put t dst v) h K :=
  WPp_det (E := fun k => need (buildA C T (parts.toList.map fun q => (q.1, aev C.G t q.2))) k) (Det.need' _) fun KK => by
    have := WPl_build (C := C) (ops := #[]) (Q := fun _ t h => KK (t 0) h) (rest := []) (t := t) (h := h) (dst := some 0) (ty := 0) (pos := "") (aft := #[]) T parts
    simpa [WPl, wpOper, put, upd] using this

def rowsV (C : Ctx) (T : TypeId) (len : Nat) (idx : List Nat) (xs : List AVal) (k : AVal → Prop) : Prop :=
  need (elmT C.P T) fun e => need (szOf C.P e) fun n => if len = 0 then xs.length = 0 ∧ k .ez else
      xs.length = len ∧ 0 < len ∧ 0 < n ∧ len * n ≤ 16777216 ∧ idx = List.range len ∧ (zroT C.P e).map (fun z => (z.cells.length, z.cells.all AVal.sto)) = some (n, true) ∧
      (∀ x ∈ xs, x.cells.length = n ∧ x.lies = true) ∧ k (.sl n xs)
@[congr] theorem rowsV_congr {T : TypeId} {len : Nat} {idx idx' : List Nat} {xs xs' : List AVal} {k : AVal → Prop} (e1 : xs = xs') (e3 : idx = idx') : rowsV C T len idx xs k = rowsV C T len idx' xs' k := by rw [e1, e3]
@[go_sem] theorem WPp_buildSlice (T : TypeId) (len : Nat) (parts : Array (Nat × Operand)) : WPp C ops (⟨dst, .buildSlice T len parts, ty, pos, aft, none⟩ :: rest) t h K =
    rowsV C T len (parts.toList.map (·.1)) (parts.toList.map fun q => aev C.G t q.2) (fun v => WPp C ops rest (put t dst v) h K) := by
  have d : Det (rowsV C T len (parts.toList.map (·.1)) (parts.toList.map fun q => aev C.G t q.2)) := by
    refine Det.need _ fun e => Det.need _ fun n => ?_
    by_cases hn : len = 0
    · simp only [if_pos hn]; exact Det.and (Det.pure _)
    · simp only [if_neg hn]; exact Det.and (Det.and (Det.and (Det.and (Det.and (Det.and (Det.and (Det.pure _)))))))
  apply propext
  show (∃ v, (∀ KK : AVal → Heap → Prop, KK v h → wpOp C (.buildSlice T len parts) t h KK) ∧ WPp C ops rest (put t dst v) h K) ↔ _
  rw [d (fun v => WPp C ops rest (put t dst v) h K)]
  have key : ∀ KK : AVal → Heap → Prop, (∀ v h', KK v h' → h' = h) → wpOp C (.buildSlice T len parts) t h KK → rowsV C T len (parts.toList.map (·.1)) (parts.toList.map fun q => aev C.G t q.2) (fun v => KK v h) := by
    intro KK hh g
    simp only [wpOp] at g
    unfold rowsV
    refine need_imp g fun e g => need_imp g fun n g => ?_
    by_cases hn : len = 0
    · rw [if_pos hn] at g ⊢
      exact ⟨by simpa using g.1, g.2⟩
    rw [if_neg hn] at g ⊢
    obtain ⟨g1, g2, g3, g4, g5, g6, g7, g8⟩ := g
    refine ⟨by simpa using g1, g2, g3, g4, g5, g6, g7, ?_⟩
    rcases g8 with g8 | g8
    · have := hh _ _ g8; simp at this
    · exact g8
  have back : ∀ KK : AVal → Heap → Prop, rowsV C T len (parts.toList.map (·.1)) (parts.toList.map fun q => aev C.G t q.2) (fun v => KK v h) → wpOp C (.buildSlice T len parts) t h KK := by
    intro KK g
    simp only [wpOp]
    unfold rowsV at g
    refine need_imp g fun e g => need_imp g fun n g => ?_
    by_cases hn : len = 0
    · rw [if_pos hn] at g ⊢
      exact ⟨by simpa using g.1, g.2⟩
    rw [if_neg hn] at g ⊢
    exact ⟨by simpa using g.1, g.2.1, g.2.2.1, g.2.2.2.1, g.2.2.2.2.1, g.2.2.2.2.2.1, g.2.2.2.2.2.2.1, .inr g.2.2.2.2.2.2.2⟩
  have mono : ∀ k k' : AVal → Prop, (∀ v, k v → k' v) → rowsV C T len (parts.toList.map (·.1)) (parts.toList.map fun q => aev C.G t q.2) k → rowsV C T len (parts.toList.map (·.1)) (parts.toList.map fun q => aev C.G t q.2) k' := by
    intro k k' i g
    unfold rowsV at *
    refine need_imp g fun e g => need_imp g fun n g => ?_
    by_cases hn : len = 0
    · rw [if_pos hn] at g ⊢
      exact ⟨g.1, i _ g.2⟩
    rw [if_neg hn] at g ⊢
    exact ⟨g.1, g.2.1, g.2.2.1, g.2.2.2.1, g.2.2.2.2.1, g.2.2.2.2.2.1, g.2.2.2.2.2.2.1, i _ g.2.2.2.2.2.2.2⟩
  constructor
  · rintro ⟨v, h1, h2⟩
    refine ⟨v, fun KK k => ?_, h2⟩
    exact mono _ _ (fun v e => e.1) (key (fun v' h' => KK v' ∧ h' = h) (fun _ _ e => e.2) (h1 _ ⟨k, rfl⟩))
  · rintro ⟨v, h1, h2⟩
    exact ⟨v, fun KK k => back KK (h1 (fun v => KK v h) k), h2⟩

@[go_sem] theorem WPp_len (x : Operand) (T : TypeId) : WPp C ops (⟨dst, .call ⟨.builtin .len, #[x], #[T]⟩, ty, pos, aft, none⟩ :: rest) t h K =
    need (alen C.P h T (aev C.G t x)) fun n => WPp C ops rest (put t dst (.int .i64 n)) h K :=
  WPp_det (E := fun k => need (alen C.P h T (aev C.G t x)) fun n => k (.int .i64 n)) (Det.need _ fun _ => Det.pure _) fun _ => rfl

/-- A call within: it gives a value, and changes no memory. -/
def callV (C : Ctx) (f : AVal) (args : List AVal) (h : Heap) (k : AVal → Prop) : Prop := ∃ v, callK C f args h (fun r h' => r = v ∧ h' = h) ∧ k v
@[congr] theorem callV_congr {f f' : AVal} {args args' : List AVal} {h h' : Heap} {k : AVal → Prop} (e1 : f = f') (e2 : args = args') (e3 : h = h') : callV C f args h k = callV C f' args' h' k := by rw [e1, e2, e3]
@[go_sem] theorem callV_fn (g : FuncId) (first captured args : List AVal) (k : AVal → Prop) : callV C (.fn (.func g) first captured) args h k = ∃ v, Sat C g (first ++ args ++ captured) h (fun r h' => r = v ∧ h' = h) ∧ k v := (rfl)
@[go_sem] theorem WPp_call (f : Operand) (args : Array Operand) (Ts : Array TypeId) : WPp C ops (⟨dst, .call ⟨.value f, args, Ts⟩, ty, pos, aft, none⟩ :: rest) t h K =
    callV C (aev C.G t f) (args.toList.map (aev C.G t)) h (fun v => WPp C ops rest (put t dst v) h K) := by
  have e : ∀ KK : AVal → Heap → Prop, wpOp C (.call ⟨.value f, args, Ts⟩) t h KK = callK C (aev C.G t f) (args.toList.map (aev C.G t)) h KK := fun KK => by
    simp only [wpOp, wpCall, callK]; generalize aev C.G t f = v; cases v <;> first | rfl | (rename_i f _ _; cases f <;> rfl)
  apply propext
  show (∃ v, (∀ KK : AVal → Heap → Prop, KK v h → wpOp C (.call ⟨.value f, args, Ts⟩) t h KK) ∧ WPp C ops rest (put t dst v) h K) ↔ _
  constructor
  · rintro ⟨v, h1, h2⟩
    refine ⟨v, ?_, h2⟩
    have := h1 (fun r h' => r = v ∧ h' = h) ⟨rfl, rfl⟩
    rw [e] at this; exact this
  · rintro ⟨v, h1, h2⟩
    refine ⟨v, fun KK k => ?_, h2⟩
    rw [← e] at h1
    exact wpOp_mono (fun r h' ⟨e1, e2⟩ => by rw [e1, e2]; exact k) h1

theorem WPp_guard (op : Op) (j : Nat) (want : Bool) : WPp C ops (⟨dst, op, ty, pos, aft, some (j, want)⟩ :: rest) t h K =
    guardK (guardA ops t j) want (WPp C ops (⟨dst, op, ty, pos, aft, none⟩ :: rest) t h K) (WPp C ops rest (put t dst undefA) h K) := by
  apply propext
  show (∃ v, (∀ KK : AVal → Heap → Prop, KK v h → wpOperV C ops ⟨dst, op, ty, pos, aft, some (j, want)⟩ t h KK) ∧ WPp C ops rest (put t dst v) h K) ↔ _
  simp only [wpOperV]
  cases guardA ops t j with
  | none => exact ⟨fun ⟨v, h1, _⟩ => h1 (fun _ _ => True) trivial, fun g => g.elim⟩
  | some q =>
    simp only [guardK]
    by_cases e : q = some want
    · constructor
      · rintro ⟨v, h1, h2⟩
        exact ⟨fun _ => ⟨v, fun KK k => (h1 KK k).1 e, h2⟩, fun h3 => absurd e h3⟩
      · rintro ⟨g, _⟩
        obtain ⟨v, h1, h2⟩ := g e
        exact ⟨v, fun KK k => ⟨fun _ => h1 KK k, fun h3 => absurd e h3⟩, h2⟩
    · constructor
      · rintro ⟨v, h1, h2⟩
        have := (h1 (fun x _ => x = v) rfl).2 e
        refine ⟨fun h3 => absurd h3 e, fun _ => ?_⟩
        rw [this]; exact h2
      · rintro ⟨_, g⟩
        exact ⟨undefA, fun KK k => ⟨fun h3 => absurd h3 e, fun _ => k⟩, g e⟩
@[go_sem] theorem WPp_yes (op : Op) (j : Nat) (want : Bool) (hg : guardA ops t j = some (some want)) : WPp C ops (⟨dst, op, ty, pos, aft, some (j, want)⟩ :: rest) t h K = WPp C ops (⟨dst, op, ty, pos, aft, none⟩ :: rest) t h K := by
  rw [WPp_guard, hg]; simp [guardK]
@[go_sem] theorem WPp_no (op : Op) (j : Nat) (want : Bool) (hg : guardA ops t j = some (some (!want))) : WPp C ops (⟨dst, op, ty, pos, aft, some (j, want)⟩ :: rest) t h K = WPp C ops rest (put t dst undefA) h K := by
  rw [WPp_guard, hg]; simp [guardK]
@[go_sem] theorem WPp_un (op : Op) (j : Nat) (want : Bool) (hg : guardA ops t j = some none) : WPp C ops (⟨dst, op, ty, pos, aft, some (j, want)⟩ :: rest) t h K = WPp C ops rest (put t dst undefA) h K := by
  rw [WPp_guard, hg]; simp [guardK]
end
attribute [go_sem] List.take_succ_cons List.take_zero
end Go.Av
