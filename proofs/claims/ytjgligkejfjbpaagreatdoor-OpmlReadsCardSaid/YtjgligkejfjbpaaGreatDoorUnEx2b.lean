/- Closed runs: are two memories the same; what is handed back, read as data. -/
import Derived.Test.YtjgligkejfjbpaaGreatDoorUnAv18
import Derived.Orders
import Derived.Laws.Externs
set_option linter.unusedSimpArgs false
set_option linter.unusedVariables false
namespace Go.Av
open Go.RowKit
section
variable {C : Ctx} {t : Env} {h : Heap}
theorem wpOp_congr {o : Op} {t t2 : Env} {K : AVal → Heap → Prop} (hx : ∀ x ∈ o.operands.toList, aev C.G t x = aev C.G t2 x) : wpOp C o t h K = wpOp C o t2 h K := by
 have pairs : ∀ ps : Array (Nat × Operand), (∀ x ∈ ps.toList.map (·.2), aev C.G t x = aev C.G t2 x) → (ps.toList.map fun q => aev C.G t q.2) = ps.toList.map fun q => aev C.G t2 q.2 := fun ps hp =>
  List.map_congr_left fun q hq => hp q.2 (List.mem_map.2 ⟨q, hq, rfl⟩)
 have pairs2 : ∀ ps : Array (Nat × Operand), (∀ x ∈ ps.toList.map (·.2), aev C.G t x = aev C.G t2 x) → (ps.toList.map fun q => (q.1, aev C.G t q.2)) = ps.toList.map fun q => (q.1, aev C.G t2 q.2) := fun ps hp =>
  List.map_congr_left fun q hq => by rw [hp q.2 (List.mem_map.2 ⟨q, hq, rfl⟩)]
 have arr : ∀ xs : Array Operand, (∀ x ∈ xs.toList, aev C.G t x = aev C.G t2 x) → xs.toList.map (aev C.G t) = xs.toList.map (aev C.G t2) := fun xs hp => List.map_congr_left hp
 have opt : ∀ lo : Option Operand, (∀ x ∈ lo.toList, aev C.G t x = aev C.G t2 x) → lo.map (aev C.G t) = lo.map (aev C.G t2) := fun lo hp => by
  cases lo with | none => rfl | some x => simp [hp x (by simp)]
 cases o <;> simp only [Op.operands, Array.toList_map] at hx <;> simp only [wpOp]
 case build T ps => rw [pairs2 ps hx]
 case buildSlice T n ps => rw [pairs ps hx]
 case makeFunc fn first captured => rw [arr first fun x hx' => hx x (by simp at hx' ⊢; exact .inl hx'), arr captured fun x hx' => hx x (by simp at hx' ⊢; exact .inr hx')]
 case slice T x lo hi mx =>
  rw [hx x (by simp), opt lo fun y hy => hx y (by simp at hy ⊢; simp [hy]), opt hi fun y hy => hx y (by simp at hy ⊢; simp [hy]), opt mx fun y hy => hx y (by simp at hy ⊢; simp [hy])]
 case call c =>
  obtain ⟨callee, args, Ts⟩ := c
  have ha := arr args fun x hx' => hx x (by simp [Call.operands] at hx' ⊢; exact .inr hx')
  cases callee with
  | value f => simp only [wpCall, ha, hx f (by simp [Call.operands])]
  | builtin b =>
   cases b <;> simp only [wpCall]
   case len =>
    obtain ⟨args⟩ := args
    match args, hx with
    | [], _ => rfl
    | [x], hx => have e := hx x (by simp [Call.operands]); rcases Ts with ⟨_ | ⟨T0, _ | ⟨T1, Tl⟩⟩⟩ <;> first | rfl | simp only [e]
    | x :: y :: l, _ => rfl
   case append =>
    obtain ⟨args⟩ := args
    match args, hx with
    | [], _ => rfl
    | [x], _ => rfl
    | [x, y], hx => have e := hx x (by simp [Call.operands]); have e' := hx y (by simp [Call.operands]); rcases Ts with ⟨_ | ⟨T0, _ | ⟨T1, _ | ⟨T2, Tl⟩⟩⟩⟩ <;> first | rfl | simp only [e, e']
    | x :: y :: z :: l, _ => rfl
   case max =>
    obtain ⟨args⟩ := args
    match args, hx with
    | [], _ => rfl
    | [x], _ => rfl
    | [x, y], hx => have e := hx x (by simp [Call.operands]); have e' := hx y (by simp [Call.operands]); simp only [e, e']
    | x :: y :: z :: l, _ => rfl
   case min =>
    obtain ⟨args⟩ := args
    match args, hx with
    | [], _ => rfl
    | [x], _ => rfl
    | [x, y], hx => have e := hx x (by simp [Call.operands]); have e' := hx y (by simp [Call.operands]); simp only [e, e']
    | x :: y :: z :: l, _ => rfl
   case unsafeSliceData =>
    obtain ⟨args⟩ := args
    match args, hx with
    | [], _ => rfl
    | [x], hx => have e := hx x (by simp [Call.operands]); simp only [e]
    | x :: y :: l, _ => rfl
   case unsafeString =>
    obtain ⟨args⟩ := args
    match args, hx with
    | [], _ => rfl
    | [x], _ => rfl
    | [x, y], hx => have e := hx x (by simp [Call.operands]); have e' := hx y (by simp [Call.operands]); rcases Ts with ⟨_ | ⟨T0, _ | ⟨T1, _ | ⟨T2, Tl⟩⟩⟩⟩ <;> first | rfl | simp only [e, e']
    | x :: y :: z :: l, _ => rfl
  | invoke r m => rfl
 all_goals (first | rfl | (simp_all; done))
theorem need_imp {α : Type} {x : Option α} {f g : α → Prop} (hx : need x f) (hfg : ∀ a, f a → g a) : need x g := by
 cases x with
 | none => exact hx
 | some a => exact hfg a hx
theorem binK_mono {P : Program} {op : BinOp} {T : TypeId} {x y : AVal} {k k' : AVal → Prop} (i : ∀ v, k v → k' v) (g : binK P h op T x y k) : binK P h op T x y k' := by
 unfold binK at g ⊢
 split at g
 ·split at g
  ·rename_i hc; simp only [if_pos hc]
   cases op <;> first | exact fun b => i _ (g b) | exact g.elim
  ·exact g.elim
 ·exact need_imp g fun v g => i _ g
theorem wpAppend_mono {P : Program} {T : TypeId} {x y : AVal} {K K' : AVal → Heap → Prop} (k : ∀ v h', K v h' → K' v h') (g : wpAppend P T x y h K) : wpAppend P T x y h K' := by
 unfold wpAppend at *
 refine need_imp g fun e g => need_imp g fun n g => need_imp g fun b g => need_imp g fun ys g => ⟨g.1, g.2.1, ?_⟩
 have g := g.2.2
 split at g
 ·exact ⟨g.1, k _ _ g.2⟩
 ·refine need_imp g fun q g => ?_
  obtain ⟨e', m, rows⟩ := q
  obtain ⟨h1, h2, h3, h4, g⟩ := g
  refine ⟨h1, h2, h3, h4, ?_⟩
  split at g
  ·rename_i hr; rw [if_pos hr]; exact ⟨g.1, k _ _ g.2⟩
  ·rename_i hr; rw [if_neg hr]; exact ⟨g.1, g.2.1, k _ _ g.2.2⟩
 ·split at g
  ·rename_i hr; simp only [if_pos hr]; exact k _ _ g
  ·rename_i hr; simp only [if_neg hr]; exact ⟨g.1, k _ _ g.2⟩
 ·exact g.elim
theorem convK_mono {P : Program} {src dst : TypeId} {x : AVal} {k k' : AVal → Prop} (i : ∀ v, k v → k' v) (g : convK P src dst x h k) : convK P src dst x h k' := by
 unfold convK at g ⊢
 split at g
 ·exact need_imp g fun q g => ⟨g.1, g.2.1, i _ g.2.2⟩
 ·exact ⟨g.1, need_imp g.2 fun ys g => need_imp g fun bs g => i _ g⟩
 ·exact ⟨g.1, need_imp g.2 fun ys g => need_imp g fun bs g => i _ g⟩
 ·exact ⟨g.1, i _ g.2⟩
 ·exact need_imp g fun v g => i _ g
theorem maxK_mono {p : Int → Int → Bool} {x y : AVal} {k k' : AVal → Prop} (i : ∀ v, k v → k' v) (g : maxK p x y k) : maxK p x y k' := by
 unfold maxK at g ⊢
 split at g
 ·exact i _ g
 ·exact g.elim
theorem sdataK_mono {x : AVal} {k k' : AVal → Prop} (i : ∀ v, k v → k' v) (g : sdataK x h k) : sdataK x h k' := by
 unfold sdataK at g ⊢
 split at g
 ·refine ⟨g.1, ?_⟩
  have g := g.2
  split at g
  ·rename_i hh; rw [if_pos hh]; exact i _ g
  ·rename_i hh; rw [if_neg hh]; exact i _ g
 ·exact i _ g
 ·exact g.elim
theorem ustrK_mono {P : Program} {T : TypeId} {x y : AVal} {k k' : AVal → Heap → Prop} (i : ∀ v h', k v h' → k' v h') (g : ustrK P T x y h k) : ustrK P T x y h k' := by
 unfold ustrK at g ⊢
 split at g
 ·split at g
  ·rename_i hm; rw [if_pos hm]
   split at g
   ·exact i _ _ g
   ·exact g.elim
  ·rename_i hm; rw [if_neg hm]
   split at g
   ·exact need_imp g fun q g => ⟨g.1, g.2.1, g.2.2.1, g.2.2.2.1, need_imp g.2.2.2.2 fun bs g => i _ _ g⟩
   ·exact g.elim
 ·exact g.elim
theorem wpOp_mono {o : Op} {K K' : AVal → Heap → Prop} (k : ∀ v h', K v h' → K' v h') (g : wpOp C o t h K) : wpOp C o t h K' := by
 cases o <;> simp only [wpOp] at g ⊢
 case move x => exact k _ _ g
 case assign x => exact k _ _ g
 case pick c a b => split at g <;> first | exact ⟨fun e => k _ _ (g.1 e), fun e => k _ _ (g.2 e)⟩ | exact g.elim
 case alloc e => exact need_imp g fun z g => ⟨g.1, g.2.1, g.2.2.1, k _ _ g.2.2.2⟩
 case box e x => exact ⟨g.1, g.2.1, k _ _ g.2.2⟩
 case build T ps =>
  refine need_imp g fun z g => ⟨g.1, ?_⟩
  have g := g.2
  split at g
  ·exact need_imp g fun cs g => k _ _ g
  ·exact need_imp g fun n g => need_imp g fun cs g => k _ _ g
  ·exact g.elim
 case buildSlice T n ps =>
  refine need_imp g fun e g => need_imp g fun m g => ?_
  split at g
  ·rename_i hn; rw [if_pos hn]; exact ⟨g.1, k _ _ g.2⟩
  rename_i hn; rw [if_neg hn]
  exact ⟨g.1, g.2.1, g.2.2.1, g.2.2.2.1, g.2.2.2.2.1, g.2.2.2.2.2.1, g.2.2.2.2.2.2.1, g.2.2.2.2.2.2.2.imp (k _ _) (k _ _)⟩
 case load T x =>
  split at g
  ·exact need_imp g fun v g => k _ _ g
  ·exact need_imp g fun q g => need_imp g fun r g => need_imp g fun v g => k _ _ g
  ·exact g.elim
 case store T x y =>
  split at g
  ·exact need_imp g fun q g => need_imp g fun r g => ⟨g.1, g.2.1, g.2.2.1, k _ _ g.2.2.2⟩
  ·exact g.elim
 case nilCheck x => split at g <;> first | exact ⟨g.1, k _ _ g.2⟩ | exact k _ _ g | exact g.elim
 case binOp => exact binK_mono (fun v => k _ _) g
 case unOp => exact need_imp g fun v g => k _ _ g
 case convert => exact convK_mono (fun v => k _ _) g
 case makeInterface => exact ⟨g.1, k _ _ g.2⟩
 case makeFunc => exact k _ _ g
 case slice => exact need_imp g fun v g => k _ _ g
 case fieldAddr T x f =>
  refine need_imp g fun q g => ⟨g.1, ?_⟩
  have g := g.2
  split at g
  ·exact ⟨g.1, k _ _ g.2⟩
  ·exact ⟨g.1, k _ _ g.2⟩
  ·exact g.elim
 case field T x f =>
  refine need_imp g fun q g => ?_
  split at g
  ·exact need_imp g fun v g => k _ _ g
  ·exact g.elim
 case indexAddr T x i =>
  split at g
  ·split at g
   ·exact need_imp g fun e g => ⟨g.1, g.2.1, g.2.2.1, need_imp g.2.2.2 fun r g => k _ _ g⟩
   ·exact need_imp g fun e g => need_imp g fun q g => ⟨g.1, g.2.1, g.2.2.1, k _ _ g.2.2.2⟩
   ·exact need_imp g fun q g => need_imp g fun m g => ⟨g.1, g.2.1, g.2.2.1, k _ _ g.2.2.2⟩
   ·exact need_imp g fun q g => need_imp g fun m g => ⟨g.1, g.2.1, g.2.2.1, k _ _ g.2.2.2⟩
   ·exact g.elim
  ·exact g.elim
 case index T x i =>
  split at g
  ·split at g
   ·exact ⟨g.1, g.2.1, need_imp g.2.2 fun r g => k _ _ g⟩
   ·exact need_imp g fun q g => need_imp g fun m g => ⟨g.1, g.2.1, need_imp g.2.2 fun r g => k _ _ g⟩
   ·exact g.elim
  ·exact g.elim
 case extract x i =>
  split at g
  ·exact need_imp g fun v g => k _ _ g
  ·exact g.elim
 case range T x =>
  split at g
  ·exact ⟨g.1, k _ _ g.2⟩
  ·exact g.elim
 case next x s =>
  split at g
  ·refine ⟨g.1, ?_⟩
   have g := g.2
   split at g
   ·exact ⟨fun e => k _ _ (g.1 e), fun e => k _ _ (g.2 e)⟩
   ·exact g.elim
  ·exact g.elim
 case call c =>
  unfold wpCall at *
  simp only [] at g ⊢
  split at g
  ·split at g
   ·exact need_imp g fun n g => k _ _ g
   ·exact g.elim
  ·split at g
   ·exact ⟨g.1, wpAppend_mono k g.2⟩
   ·exact g.elim
  ·split at g
   ·exact maxK_mono (fun v => k _ _) g
   ·exact g.elim
  ·split at g
   ·exact maxK_mono (fun v => k _ _) g
   ·exact g.elim
  ·split at g
   ·exact sdataK_mono (fun v => k _ _) g
   ·exact g.elim
  ·split at g
   ·exact ustrK_mono k g
   ·exact g.elim
  ·exact g.elim
  ·split at g
   ·exact Sat.mono g k
   ·exact g.elim
  ·exact g.elim
 all_goals exact g.elim
theorem wpOper_mono {ops : Array Oper} {o : Oper} {K K' : Env → Heap → Prop} (g : wpOper C ops o t h K) (k : ∀ t' h', K t' h' → K' t' h') : wpOper C ops o t h K' := by
 unfold wpOper at *
 split at g
 ·exact wpOp_mono (fun v h' => k _ _) g
 ·split at g
  ·exact ⟨fun e => wpOp_mono (fun v h' => k _ _) (g.1 e), fun e => k _ _ (g.2 e)⟩
  ·exact g.elim
def wpOperV (C : Ctx) (ops : Array Oper) (o : Oper) (t : Env) (h : Heap) (K : AVal → Heap → Prop) : Prop :=
 match o.guard with
 | none => wpOp C o.op t h K
 | some (j, want) => match guardA ops t j with
  | some b => (b = some want → wpOp C o.op t h K) ∧ (b ≠ some want → K undefA h)
  | none => False
theorem wpOper_V (C : Ctx) (ops : Array Oper) (o : Oper) (t : Env) (h : Heap) (K : Env → Heap → Prop) : wpOper C ops o t h K = wpOperV C ops o t h fun v h' => K (put t o.dst v) h' := rfl
theorem wpOperV_congr {ops : Array Oper} {o : Oper} {t t2 : Env} {K : AVal → Heap → Prop} (hx : ∀ d ∈ o.looksAt ops, t d = t2 d) : wpOperV C ops o t h K = wpOperV C ops o t2 h K := by
 have h1 : ∀ x ∈ o.op.operands.toList, aev C.G t x = aev C.G t2 x := fun x hm => by
  cases x with
  | tmp d => exact hx d (List.mem_append_left _ (List.mem_filterMap.2 ⟨.tmp d, hm, rfl⟩))
  | _ => rfl
 unfold wpOperV
 cases hg : o.guard with
 | none => exact wpOp_congr h1
 | some q =>
  obtain ⟨j, want⟩ := q
  have h2 : guardA ops t j = guardA ops t2 j := by
   unfold guardA
   cases hd : (ops[j]?).bind (·.dst) with
   | none => rfl
   | some d => simp only []; rw [hx d (by simp [Oper.looksAt, hg, hd])]
  simp only [h2, wpOp_congr h1]
def WPp (C : Ctx) (ops : Array Oper) : List Oper → Env → Heap → (Env → Prop) → Prop
 | [], t, _, K => K t
 | o :: rest, t, h, K => ∃ v, (∀ KK : AVal → Heap → Prop, KK v h → wpOperV C ops o t h KK) ∧ WPp C ops rest (put t o.dst v) h K
def T (V : Nat → AVal) : List Oper → Env → Nat → Env
 | [], t, _ => t
 | _ :: _, t, 0 => t
 | o :: rest, t, i + 1 => T (fun j => V (j + 1)) rest (put t o.dst (V 0)) i
theorem WPp_vals {ops : Array Oper} {K : Env → Prop} : ∀ (l : List Oper) (t : Env), WPp C ops l t h K →
  ∃ V, (∀ (i : Nat) (o : Oper), l[i]? = some o → ∀ KK : AVal → Heap → Prop, KK (V i) h → wpOperV C ops o (T V l t i) h KK) ∧ K (T V l t l.length)
 | [], t, g => ⟨fun _ => undefA, fun i o hi => by simp at hi, g⟩
 | o :: rest, t, ⟨v, hv, g⟩ => by
  obtain ⟨V, h1, h2⟩ := WPp_vals rest _ g
  refine ⟨fun i => match i with | 0 => v | i + 1 => V i, fun i o' hi => ?_, h2⟩
  cases i with
  | zero => simp at hi; subst hi; exact hv
  | succ i => exact h1 i o' (by simpa using hi)
theorem T_succ (V : Nat → AVal) : ∀ (l : List Oper) (t : Env) (i : Nat) (o : Oper), l[i]? = some o → T V l t (i + 1) = put (T V l t i) o.dst (V i)
 | [], t, i, o, hi => by simp at hi
 | o' :: rest, t, 0, o, hi => by
  simp at hi; subst hi
  cases rest <;> rfl
 | o' :: rest, t, i + 1, o, hi => by
  simp only [T]
  exact T_succ (fun j => V (j + 1)) rest _ i o (by simpa using hi)
theorem T_zero (V : Nat → AVal) (l : List Oper) (t : Env) : T V l t 0 = t := by cases l <;> rfl
def drawOk (ops : Array Oper) (k : Nat) : Bool :=
 let b := Region.before ops
 (List.range ops.size).all fun j => match ops[j]? with
  | none => true
  | some oj => (oj.after.all fun e => decide (e.on < j)) && (List.range j).all fun i => match ops[i]? with
   | none => true
   | some oi =>
    (!(b.getD j 0).testBit i || oj.after.any fun e => Region.binds .any e && (e.on == i || (decide (i < e.on) && (b.getD e.on 0).testBit i))) &&
    (if k ≤ j then (b.getD j 0).testBit i else ((b.getD j 0).testBit i || oi.apart ops oj) && (oi.dst.isNone || oi.dst != oj.dst))
structure DrawOk (ops : Array Oper) (k : Nat) (c : Nat → Nat → Bool) : Prop where
 less : ∀ (j : Nat) (oj : Oper), ops[j]? = some oj → ∀ e ∈ oj.after, e.on < j
 cert : ∀ (i j : Nat) (oj : Oper), ops[j]? = some oj → i < j → c i j = true → ∃ e ∈ oj.after, Region.binds .any e = true ∧ (e.on = i ∨ (i < e.on ∧ c i e.on = true))
 sfx : ∀ (i j : Nat) (oj : Oper), ops[j]? = some oj → i < j → k ≤ j → c i j = true
 pre : ∀ (i j : Nat) (oi oj : Oper), ops[i]? = some oi → ops[j]? = some oj → i < j → j < k → (c i j = true ∨ oi.apart ops oj = true) ∧ (∀ d, oi.dst = some d → oj.dst ≠ some d)
theorem drawOk_spec {ops : Array Oper} {k : Nat} (hk : drawOk ops k = true) : DrawOk ops k fun i j => ((Region.before ops).getD j 0).testBit i := by
 unfold drawOk at hk
 simp only [List.all_eq_true, List.mem_range] at hk
 have key : ∀ (j : Nat) (oj : Oper), ops[j]? = some oj → (oj.after.all fun e => decide (e.on < j)) = true ∧ ∀ (i : Nat) (oi : Oper), ops[i]? = some oi → i < j →
   ((!((Region.before ops).getD j 0).testBit i || oj.after.any fun e => Region.binds .any e && (e.on == i || (decide (i < e.on) && ((Region.before ops).getD e.on 0).testBit i))) &&
    (if k ≤ j then ((Region.before ops).getD j 0).testBit i else (((Region.before ops).getD j 0).testBit i || oi.apart ops oj) && (oi.dst.isNone || oi.dst != oj.dst))) = true := by
  intro j oj hj
  have := hk j (Array.getElem?_eq_some_iff.1 hj).1
  rw [hj] at this
  simp only [Bool.and_eq_true, List.all_eq_true, List.mem_range] at this
  refine ⟨this.1, fun i oi hi hij => ?_⟩
  have := this.2 i hij
  rw [hi] at this
  simpa only [Bool.and_eq_true] using this
 have some_i : ∀ (i j : Nat) (oj : Oper), ops[j]? = some oj → i < j → ∃ oi, ops[i]? = some oi := fun i j oj hj hij => by
  have := (Array.getElem?_eq_some_iff.1 hj).1
  exact ⟨_, Array.getElem?_eq_getElem (show i < ops.size by omega)⟩
 refine ⟨fun j oj hj e he => ?_, fun i j oj hj hij hc => ?_, fun i j oj hj hij hkj => ?_, fun i j oi oj hi hj hij hjk => ?_⟩
 ·have := (key j oj hj).1
  rw [Array.all_eq_true_iff_forall_mem] at this
  simpa using this e he
 ·obtain ⟨oi, hi⟩ := some_i i j oj hj hij
  have := (key j oj hj).2 i oi hi hij
  simp only [Bool.and_eq_true, Bool.or_eq_true, Bool.not_eq_true'] at this
  rcases this.1 with h1 | h1
  ·rw [hc] at h1; cases h1
  ·obtain ⟨e, he, h2⟩ := Array.any_eq_true'.1 h1
   simp only [Bool.and_eq_true, Bool.or_eq_true, beq_iff_eq, decide_eq_true_eq] at h2
   exact ⟨e, he, h2.1, h2.2⟩
 ·obtain ⟨oi, hi⟩ := some_i i j oj hj hij
  have := (key j oj hj).2 i oi hi hij
  simp only [Bool.and_eq_true, if_pos hkj] at this
  exact this.2
 ·have := (key j oj hj).2 i oi hi hij
  simp only [Bool.and_eq_true, if_neg (show ¬ k ≤ j by omega), Bool.or_eq_true] at this
  refine ⟨this.2.1, fun d hd e => ?_⟩
  rcases this.2.2 with h1 | h1
  ·rw [hd] at h1; cases h1
  ·rw [hd, e] at h1; simp at h1
theorem binds_any {md : Region.Mode} {e : Edge} (hb : Region.binds .any e = true) : Region.binds md e = true := by
 unfold Region.binds at *
 cases hg : e.ground <;> rw [hg] at hb <;> first | rfl | (cases hb; done)
def Closed (ops : Array Oper) (L : Array Bool) : Prop := ∀ (j : Nat) (oj : Oper), ops[j]? = some oj → L.getD j false = true → ∀ e ∈ oj.after, Region.binds .any e = true → L.getD e.on false = true
theorem Closed.bef {ops : Array Oper} {L : Array Bool} {k : Nat} {c : Nat → Nat → Bool} (D : DrawOk ops k c) (cl : Closed ops L) :
  ∀ (j : Nat) (oj : Oper), ops[j]? = some oj → ∀ i, i < j → c i j = true → (∀ e ∈ oj.after, Region.binds .any e = true → L.getD e.on false = true) → L.getD i false = true := by
 intro j
 induction j using Nat.strongRecOn with
 | ind j ih =>
  intro oj hj i hij hc hl
  obtain ⟨e, he, hb, h1⟩ := D.cert i j oj hj hij hc
  have h2 := hl e he hb
  rcases h1 with rfl | h1
  ·exact h2
  ·have h3 := D.less j oj hj e he
   have hsz := (Array.getElem?_eq_some_iff.1 hj).1
   have hoe : ops[e.on]? = some ops[e.on] := Array.getElem?_eq_getElem (by omega)
   exact ih e.on h3 _ hoe i h1.1 h1.2 fun e' he' hb' => cl e.on _ hoe h2 e' he' hb'
def Ag (ops : Array Oper) (k : Nat) (V : Nat → AVal) (t : Env) (p : Nat → Bool) (s : Env) : Prop :=
 (∀ (j : Nat) (o : Oper) (x : Nat), j < k → ops[j]? = some o → p j = true → o.dst = some x → s x = V j) ∧
 (∀ (x : Nat), (∀ (j : Nat) (o : Oper), j < k → ops[j]? = some o → p j = true → o.dst ≠ some x) → s x = t x)
theorem Ag.eq {ops : Array Oper} {k : Nat} {V : Nat → AVal} {t s s' : Env} {p : Nat → Bool} (g : Ag ops k V t p s) (g' : Ag ops k V t p s') : s = s' := by
 funext x
 by_cases hx : ∃ (j : Nat) (o : Oper), j < k ∧ ops[j]? = some o ∧ p j = true ∧ o.dst = some x
 ·obtain ⟨j, o, h1, h2, h3, h4⟩ := hx
  rw [g.1 j o x h1 h2 h3 h4, g'.1 j o x h1 h2 h3 h4]
 ·have hn : ∀ (j : Nat) (o : Oper), j < k → ops[j]? = some o → p j = true → o.dst ≠ some x := fun j o h1 h2 h3 h4 => hx ⟨j, o, h1, h2, h3, h4⟩
  rw [g.2 x hn, g'.2 x hn]
theorem Ag.put {ops : Array Oper} {k : Nat} {c : Nat → Nat → Bool} (D : DrawOk ops k c) {V : Nat → AVal} {t s : Env} {p p' : Nat → Bool} (g : Ag ops k V t p s) {i : Nat} {o : Oper} (hi : ops[i]? = some o) (hk : i < k)
  (hp : ∀ j, j < k → p' j = (p j || j == i)) : Ag ops k V t p' (put s o.dst (V i)) := by
 have uniq : ∀ (j : Nat) (oj : Oper) (x : Nat), j < k → ops[j]? = some oj → oj.dst = some x → o.dst = some x → j = i := fun j oj x hj hoj h1 h2 => by
  rcases Nat.lt_trichotomy j i with h3 | h3 | h3
  ·exact absurd h2 ((D.pre j i oj o hoj hi h3 hk).2 x h1)
  ·exact h3
  ·exact absurd h1 ((D.pre i j o oj hi hoj h3 hj).2 x h2)
 refine ⟨fun j oj x hj hoj hpj hd => ?_, fun x hn => ?_⟩
 ·by_cases hji : j = i
  ·subst hji
   rw [hoj] at hi; cases hi
   simp [Av.put, hd, upd]
  ·have : o.dst ≠ some x := fun e => hji (uniq j oj x hj hoj hd e)
   have hs : (Av.put s o.dst (V i)) x = s x := by
    cases hdo : o.dst with
    | none => rfl
    | some d => simp only [Av.put, upd]; rw [if_neg]; intro e; subst e; exact this hdo
   rw [hs]
   exact g.1 j oj x hj hoj (by have := hp j hj; rw [hpj] at this; simpa [hji] using this.symm) hd
 ·have : o.dst ≠ some x := hn i o hk hi (by rw [hp i hk]; simp)
  have hs : (Av.put s o.dst (V i)) x = s x := by
   cases hdo : o.dst with
   | none => rfl
   | some d => simp only [Av.put, upd]; rw [if_neg]; intro e; subst e; exact this hdo
  rw [hs]
  exact g.2 x fun j oj hj hoj hpj => hn j oj hj hoj (by rw [hp j hj, hpj]; rfl)
theorem Ag.start (ops : Array Oper) (k : Nat) (V : Nat → AVal) (t : Env) {p : Nat → Bool} (hp : ∀ j, j < k → p j = false) : Ag ops k V t p t :=
 ⟨fun j o x hj _ hpj => absurd ((hp j hj).symm.trans hpj) Bool.false_ne_true, fun _ _ => rfl⟩
theorem Ag.T {ops : Array Oper} {k : Nat} {c : Nat → Nat → Bool} (D : DrawOk ops k c) (V : Nat → AVal) (t : Env) (hkn : k ≤ ops.size) : ∀ i, i ≤ k → Ag ops k V t (fun j => decide (j < i)) (Av.T V (ops.toList.take k) t i)
 | 0, _ => by rw [T_zero]; exact Ag.start ops k V t fun j _ => by simp
 | i + 1, hi => by
  have ih := Ag.T D V t hkn i (by omega)
  have ho : ops[i]? = some (ops[i]'(by omega)) := Array.getElem?_eq_getElem _
  have ho2 : (ops.toList.take k)[i]? = some (ops[i]'(by omega)) := by rw [List.getElem?_take, if_pos (by omega)]; simp
  rw [T_succ V _ t i _ ho2]
  refine ih.put D ho (by omega) fun j hj => ?_
  by_cases h1 : j < i
  ·have h2 : j < i + 1 := by omega
   simp [h1, h2]
  ·by_cases h2 : j = i
   ·subst h2; simp
   ·have h3 : ¬ j < i + 1 := by omega
    have h4 : (j == i) = false := by simpa using h2
    simp [h1, h3, h4]
theorem Ag.sees {ops : Array Oper} {k : Nat} {c : Nat → Nat → Bool} (D : DrawOk ops k c) {V : Nat → AVal} {t s : Env} {L : Array Bool} (cl : Closed ops L) (g : Ag ops k V t (fun j => L.getD j false) s)
  {i : Nat} {o : Oper} (hi : ops[i]? = some o) (hk : i < k) (hkn : k ≤ ops.size) (hun : L.getD i false = false) (hrd : ∀ e ∈ o.after, Region.binds .any e = true → L.getD e.on false = true) :
  ∀ d ∈ o.looksAt ops, Av.T V (ops.toList.take k) t i d = s d := by
 intro d hd
 have gT := Ag.T D V t hkn i (by omega)
 by_cases hx : ∃ (j : Nat) (oj : Oper), j < k ∧ ops[j]? = some oj ∧ oj.dst = some d
 ·obtain ⟨j, oj, hj, hoj, hdj⟩ := hx
  have uniq : ∀ (j' : Nat) (o' : Oper), j' < k → ops[j']? = some o' → o'.dst = some d → j' = j := fun j' o' hj' ho' h1 => by
   rcases Nat.lt_trichotomy j' j with h3 | h3 | h3
   ·exact absurd hdj ((D.pre j' j o' oj ho' hoj h3 hj).2 d h1)
   ·exact h3
   ·exact absurd h1 ((D.pre j j' oj o' hoj ho' h3 hj').2 d hdj)
  rcases Nat.lt_trichotomy j i with h3 | h3 | h3
  ·have hc : c j i = true := by
    rcases (D.pre j i oj o hoj hi h3 hk).1 with h4 | h4
    ·exact h4
    ·exact absurd hd ((Oper.apart_spec h4).1 d hdj)
   have hl := cl.bef D i o hi j h3 hc hrd
   rw [gT.1 j oj d hj hoj (by simpa using h3) hdj, g.1 j oj d hj hoj hl hdj]
  ·subst h3
   rw [gT.2 d fun j' o' hj' ho' hp h1 => by have := uniq j' o' hj' ho' h1; subst this; simp at hp,
    g.2 d fun j' o' hj' ho' hp h1 => by have := uniq j' o' hj' ho' h1; subst this; simp only [hun] at hp; cases hp]
  ·have hc : c i j = true := by
    rcases (D.pre i j o oj hi hoj h3 hj).1 with h4 | h4
    ·exact h4
    ·exact absurd hd ((Oper.apart_spec h4).2.2 d hdj)
   have hl : L.getD j false = false := by
    cases hlj : L.getD j false with
    | false => rfl
    | true => have := cl.bef D j oj hoj i h3 hc (cl j oj hoj hlj); rw [hun] at this; cases this
   rw [gT.2 d fun j' o' hj' ho' hp h1 => by have := uniq j' o' hj' ho' h1; subst this; simp at hp; omega,
    g.2 d fun j' o' hj' ho' hp h1 => by have := uniq j' o' hj' ho' h1; subst this; simp only [hl] at hp; cases hp]
 ·have hn : ∀ (j : Nat) (oj : Oper), j < k → ops[j]? = some oj → oj.dst ≠ some d := fun j oj h1 h2 h3 => hx ⟨j, oj, h1, h2, h3⟩
  rw [gT.2 d fun j oj h1 h2 _ => hn j oj h1 h2, g.2 d fun j oj h1 h2 _ => hn j oj h1 h2]
theorem Closed.set {ops : Array Oper} {L : Array Bool} (cl : Closed ops L) {i : Nat} {o : Oper} (hi : ops[i]? = some o) (hrd : ∀ e ∈ o.after, Region.binds .any e = true → L.getD e.on false = true) :
  Closed ops (L.setIfInBounds i true) := by
 intro j oj hj hl e he hb
 by_cases hji : i = j
 ·subst hji
  rw [hi] at hj; cases hj
  exact getD_set_true (hrd e he hb)
 ·rw [getD_set_ne false hji] at hl
  exact getD_set_true (cl j oj hj hl e he hb)
def left (ops : Array Oper) (L : Array Bool) : Nat := ((List.range ops.size).filter fun i => !L.getD i true).length
theorem left_zero {ops : Array Oper} {L : Array Bool} (hs : L.size = ops.size) (h0 : left ops L = 0) : ∀ i, i < ops.size → L.getD i false = true := by
 intro i hi
 have h1 : (List.range ops.size).filter (fun i => !L.getD i true) = [] := List.length_eq_zero_iff.1 h0
 have h2 := List.filter_eq_nil_iff.1 h1 i (List.mem_range.2 hi)
 have h3 : i < L.size := by omega
 simp [h3] at h2 ⊢
 exact h2
theorem filter_len_set (p : Nat → Bool) (i : Nat) (hp : p i = true) : ∀ (l : List Nat), l.Nodup → i ∈ l → (l.filter fun j => p j && j != i).length + 1 = (l.filter p).length
 | [], _, hm => by cases hm
 | x :: l, hn, hm => by
  obtain ⟨hx, hn⟩ := List.nodup_cons.1 hn
  by_cases hxi : x = i
  ·subst hxi
   have : (l.filter fun j => p j && j != x) = l.filter p := List.filter_congr fun j hj => by
    have : j ≠ x := fun e => hx (e ▸ hj)
    simp [this]
   simp [hp, this]
  ·have hm : i ∈ l := (List.mem_cons.1 hm).resolve_left fun h1 => absurd h1.symm hxi
   have ih := filter_len_set p i hp l hn hm
   by_cases hpx : p x = true
   ·simp [List.filter_cons, hpx, hxi]; omega
   ·simp [List.filter_cons, hpx]; exact ih
theorem left_set {ops : Array Oper} {L : Array Bool} (hs : L.size = ops.size) {i : Nat} (hi : i < ops.size) (hun : L.getD i false = false) : left ops (L.setIfInBounds i true) + 1 = left ops L := by
 have h3 : i < L.size := by omega
 have hp : (!L.getD i true) = true := by simp [h3] at hun ⊢; exact hun
 have := filter_len_set (fun j => !L.getD j true) i hp (List.range ops.size) List.nodup_range (List.mem_range.2 hi)
 unfold left
 rw [← this]
 congr 2
 refine List.filter_congr fun j hj => ?_
 by_cases hji : i = j
 ·subst hji; simp [h3]
 ·rw [getD_set_ne true hji]
  have : (j != i) = true := by simp; exact fun e => hji e.symm
  rw [this, Bool.and_true]
theorem ready_some {ops : Array Oper} {L : Array Bool} {k : Nat} {c : Nat → Nat → Bool} (D : DrawOk ops k c) (md : Region.Mode) (hs : L.size = ops.size) (hne : left ops L ≠ 0) : Region.ready md ops L ≠ [] := by
 have hex : ∃ i, i < ops.size ∧ L.getD i false = false := by
  refine Classical.byContradiction fun hno => hne ?_
  unfold left
  rw [List.length_eq_zero_iff, List.filter_eq_nil_iff]
  intro i hi
  have hi := List.mem_range.1 hi
  have h3 : i < L.size := by omega
  have : L.getD i false = true := by
   cases hl : L.getD i false with
   | true => rfl
   | false => exact absurd ⟨i, hi, hl⟩ hno
  simp [h3] at this ⊢
  exact this
 have hmin : ∃ i, i < ops.size ∧ L.getD i false = false ∧ ∀ j, j < i → L.getD j false = true := by
  obtain ⟨i, hi, hl⟩ := hex
  induction i using Nat.strongRecOn with
  | ind i ih =>
   by_cases hall : ∀ j, j < i → L.getD j false = true
   ·exact ⟨i, hi, hl, hall⟩
   ·have : ∃ j, j < i ∧ L.getD j false = false := Classical.byContradiction fun hno => hall fun j hj => by
     cases hlj : L.getD j false with
     | true => rfl
     | false => exact absurd ⟨j, hj, hlj⟩ hno
    obtain ⟨j, hj, hlj⟩ := this
    exact ih j hj (by omega) hlj
 obtain ⟨i, hi, hl, hall⟩ := hmin
 have h3 : i < L.size := by omega
 intro e
 have : i ∈ Region.ready md ops L := mem_ready.2 ⟨by simp [h3] at hl ⊢; exact hl, ops[i], Array.getElem?_eq_getElem hi, fun e he _ => hall _ (D.less i _ (Array.getElem?_eq_getElem hi) e he)⟩
 rw [e] at this; cases this
theorem getElem?_mod {α : Type} {l : List α} (h : l ≠ []) (n : Nat) : ∃ x, l[n % l.length]? = some x ∧ x ∈ l := by
 have hlt : n % l.length < l.length := Nat.mod_lt _ (List.length_pos_iff.2 h)
 exact ⟨l[n % l.length], List.getElem?_eq_getElem hlt, List.getElem_mem hlt⟩
theorem go_succ (md : Region.Mode) (ops : Array Oper) (fuel n : Nat) (L : Array Bool) {i : Nat} (hi : (Region.ready md ops L)[n % (Region.ready md ops L).length]? = some i) :
  Region.linearise.go md ops (fuel + 1) n L [] = i :: Region.linearise.go md ops fuel (n / (Region.ready md ops L).length) (L.setIfInBounds i true) [] := by
 simp only [Region.linearise.go]
 change (match (Region.ready md ops L)[n % (Region.ready md ops L).length]? with
   | some i => Region.linearise.go md ops fuel (n / (Region.ready md ops L).length) (L.setIfInBounds i true) [i]
   | none => [].reverse) = _
 rw [hi]
 simp only []
 rw [linearise_go_acc]; rfl
theorem sfx_sound {ops : Array Oper} {Q : Exit → Env → Heap → Prop} {k : Nat} {c : Nat → Nat → Bool} (D : DrawOk ops k c) (md : Region.Mode) : ∀ (fuel n m : Nat) (L : Array Bool) (t : Env) (h : Heap), L.size = ops.size → left ops L = fuel → k ≤ m →
  (∀ i, i < ops.size → L.getD i false = decide (i < m)) → WPl C ops Q (ops.toList.drop m) t h → WPix C ops Q (Region.linearise.go md ops fuel n L []) t h := by
 intro fuel
 induction fuel with
 | zero =>
  intro n m L t h hs hl hk hL g
  have hall := left_zero hs hl
  have hm : ops.size ≤ m := Nat.le_of_not_lt fun hlt => by
   have h1 := hall m hlt
   rw [hL m hlt] at h1
   simp at h1
  rw [List.drop_eq_nil_of_le (by simpa using hm)] at g
  simpa [Region.linearise.go, WPix, WPl] using g
 | succ fuel ih =>
  intro n m L t h hs hl hk hL g
  obtain ⟨i, hi, hmem⟩ := getElem?_mod (ready_some D md hs (by omega)) n
  rw [go_succ md ops fuel n L hi]
  obtain ⟨hun, o, ho, hrd⟩ := mem_ready.1 hmem
  have hlt := (Array.getElem?_eq_some_iff.1 ho).1
  have h3 : i < L.size := by omega
  have hun' : L.getD i false = false := by simp [h3] at hun ⊢; exact hun
  have him : ¬ i < m := by rw [hL i hlt] at hun'; simpa using hun'
  have hrd' : ∀ e ∈ o.after, Region.binds .any e = true → L.getD e.on false = true := fun e he hb => hrd e he (binds_any hb)
  have cl : Closed ops L := fun j oj hj hlj e he hb => by
   have hj' := (Array.getElem?_eq_some_iff.1 hj).1
   have h4 := D.less j oj hj e he
   rw [hL j hj'] at hlj
   rw [hL e.on (by omega)]
   simp at hlj ⊢; omega
  have hmi : i = m := by
   refine Classical.byContradiction fun hne => ?_
   have h5 : m < i := by omega
   have h6 := cl.bef D i o ho m h5 (D.sfx m i o ho h5 (by omega)) hrd'
   rw [hL m (by omega)] at h6
   simp at h6
  subst hmi
  have hd : ops.toList.drop i = o :: ops.toList.drop (i + 1) := by
   have : ops.toList[i]? = some o := by simpa using ho
   obtain ⟨h7, rfl⟩ := List.getElem?_eq_some_iff.1 this
   exact List.drop_eq_getElem_cons h7
  rw [hd] at g
  simp only [WPix, ho]
  simp only [WPl] at g
  refine wpOper_mono g fun t' h' g' => ih _ (i + 1) _ t' h' (by simpa using hs) (by have := left_set hs hlt hun'; omega) (by omega) (fun j hj => ?_) g'
  by_cases hji : i = j
  ·subst hji; simp [h3]
  ·rw [getD_set_ne false hji, hL j hj]
   simp; omega
theorem pre_sound {ops : Array Oper} {Q : Exit → Env → Heap → Prop} {k : Nat} {c : Nat → Nat → Bool} (D : DrawOk ops k c) (md : Region.Mode) (hkn : k ≤ ops.size) {V : Nat → AVal} {t0 : Env} {h : Heap}
  (hv : ∀ (i : Nat) (o : Oper), (ops.toList.take k)[i]? = some o → ∀ KK : AVal → Heap → Prop, KK (V i) h → wpOperV C ops o (Av.T V (ops.toList.take k) t0 i) h KK)
  (hK : WPl C ops Q (ops.toList.drop k) (Av.T V (ops.toList.take k) t0 k) h) :
  ∀ (fuel n : Nat) (L : Array Bool) (s : Env), L.size = ops.size → left ops L = fuel → Closed ops L → (∀ j, j < ops.size → L.getD j false = true → j < k) → Ag ops k V t0 (fun j => L.getD j false) s →
   WPix C ops Q (Region.linearise.go md ops fuel n L []) s h := by
 have fin : ∀ (fuel n : Nat) (L : Array Bool) (s : Env), L.size = ops.size → left ops L = fuel → (∀ j, j < ops.size → L.getD j false = decide (j < k)) → Ag ops k V t0 (fun j => L.getD j false) s →
   WPix C ops Q (Region.linearise.go md ops fuel n L []) s h := fun fuel n L s hs hl hL ag => by
  have h1 := Ag.T D V t0 hkn k (Nat.le_refl _)
  have h2 : Ag ops k V t0 (fun j => decide (j < k)) s := ⟨fun j o x hj ho hp hd => ag.1 j o x hj ho (by show L.getD j false = true; rw [hL j (by omega)]; exact hp) hd,
   fun x hn => ag.2 x fun j o hj ho hp => hn j o hj ho (by simpa using hj)⟩
  have := h2.eq h1
  subst this
  exact sfx_sound D md fuel n k L _ h hs hl (Nat.le_refl _) hL hK
 intro fuel
 induction fuel with
 | zero =>
  intro n L s hs hl cl hlt ag
  have hall := left_zero hs hl
  refine fin 0 n L s hs hl (fun j hj => ?_) ag
  rw [hall j hj]; have := hlt j hj (hall j hj); simp [this]
 | succ fuel ih =>
  intro n L s hs hl cl hlt ag
  obtain ⟨i, hi, hmem⟩ := getElem?_mod (ready_some D md hs (by omega)) n
  obtain ⟨hun, o, ho, hrd⟩ := mem_ready.1 hmem
  have hin := (Array.getElem?_eq_some_iff.1 ho).1
  have h3 : i < L.size := by omega
  have hun' : L.getD i false = false := by simp [h3] at hun ⊢; exact hun
  have hrd' : ∀ e ∈ o.after, Region.binds .any e = true → L.getD e.on false = true := fun e he hb => hrd e he (binds_any hb)
  by_cases hk : i < k
  ·rw [go_succ md ops fuel n L hi]
   simp only [WPix, ho]
   rw [wpOper_V]
   have ho2 : (ops.toList.take k)[i]? = some o := by rw [List.getElem?_take, if_pos hk]; simpa using ho
   rw [← wpOperV_congr (t := Av.T V (ops.toList.take k) t0 i) (ag.sees D cl ho hk hkn hun' hrd')]
   refine hv i o ho2 _ ?_
   refine ih _ _ _ (by simpa using hs) (by have := left_set hs hin hun'; omega) (cl.set ho hrd') (fun j hj hlj => ?_) (ag.put D ho hk fun j hj => ?_)
   ·by_cases hji : i = j
    ·subst hji; exact hk
    ·rw [getD_set_ne false hji] at hlj; exact hlt j hj hlj
   ·by_cases hji : i = j
    ·subst hji; simp [h3]
    ·rw [getD_set_ne false hji]
     have : (j == i) = false := by simp; exact fun e => hji e.symm
     rw [this, Bool.or_false]
  ·refine fin (fuel + 1) n L s hs hl (fun j hj => ?_) ag
   by_cases hjk : j < k
   ·have := cl.bef D i o ho j (by omega) (D.sfx j i o ho (by omega) (by omega)) hrd'
    rw [this]; simp [hjk]
   ·cases hlj : L.getD j false with
    | false => simp [hjk]
    | true => exact absurd (hlt j hj hlj) hjk
theorem WP_draw {id : Nat} {l : List Oper} {Q : Exit → Env → Heap → Prop} (k : Nat) (hok : (drawOk l.toArray k && decide (k ≤ l.length)) = true)
  (hh : WPp C l.toArray (l.take k) t h fun t' => WPl C l.toArray Q (l.drop k) t' h) : WP C (.region id l.toArray true) Q t h := by
 simp only [Bool.and_eq_true, decide_eq_true_eq] at hok
 have D := drawOk_spec hok.1
 obtain ⟨V, hv, hK⟩ := WPp_vals _ _ hh
 have hlen : (l.take k).length = k := by simp [hok.2]
 rw [hlen] at hK
 have main : ∀ md n, WPix C l.toArray Q (Region.linearise md l.toArray n) t h := fun md n => by
  unfold Region.linearise
  refine pre_sound D md (by simpa using hok.2) (V := V) (t0 := t) hv hK _ _ _ _ (by simp) ?_ (fun j oj hj hl => ?_) (fun j hj hl => ?_) (Ag.start _ _ _ _ fun j hj => ?_)
  ·unfold left
   have : (List.range l.toArray.size).filter (fun i => !(Array.replicate l.toArray.size false).getD i true) = List.range l.toArray.size := by
    rw [List.filter_eq_self]
    intro i hi
    have := List.mem_range.1 hi
    have h8 : i < (Array.replicate l.toArray.size false).size := by simpa using this
    simp at this ⊢
    simp [this]
   rw [this, List.length_range]
  ·have h8 := (Array.getElem?_eq_some_iff.1 hj).1
   simp at h8 hl
   simp [h8] at hl
  ·simp at hj hl
   simp [hj] at hl
  ·have : j < l.length := by omega
   simp [this]
 show ∀ tp, WPix C l.toArray Q (Region.schedule (C.P.follows .mixedOrders) l.toArray tp) t h
 intro tp
 unfold Region.schedule
 split
 ·exact main _ _
 ·exact main _ _
end
end Go.Av
namespace Go.Av
open Go.RowKit
section
variable {C : Ctx} {ops : Array Oper} {rest : List Oper} {t : Env} {h : Heap} {K : Env → Prop} {dst : Option Nat} {ty : TypeId} {pos : String} {aft : Array Edge}
def Det (E : (AVal → Prop) → Prop) : Prop := ∀ R, E R ↔ ∃ v, (∀ KK : AVal → Prop, KK v → E KK) ∧ R v
theorem Det.pure (a : AVal) : Det fun k => k a := fun R => ⟨fun g => ⟨a, fun _ k => k, g⟩, fun ⟨v, h1, h2⟩ => by have := h1 (fun x => x = v) rfl; rw [this]; exact h2⟩
theorem Det.false : Det fun _ => False := fun R => ⟨fun g => g.elim, fun ⟨_, h1, _⟩ => h1 (fun _ => True) trivial⟩
theorem Det.and {c : Prop} {E : (AVal → Prop) → Prop} (d : Det E) : Det fun k => c ∧ E k := fun R =>
 ⟨fun g => by obtain ⟨v, h1, h2⟩ := (d R).1 g.2; exact ⟨v, fun KK k => ⟨g.1, h1 KK k⟩, h2⟩,
 fun ⟨v, h1, h2⟩ => ⟨(h1 (fun _ => True) trivial).1, (d R).2 ⟨v, fun KK k => (h1 KK k).2, h2⟩⟩⟩
theorem Det.need {α : Type} (x : Option α) {f : α → (AVal → Prop) → Prop} (d : ∀ a, Det (f a)) : Det fun k => Av.need x fun a => f a k := by
 cases x with
 | none => exact Det.false
 | some a => exact d a
theorem Det.need' (x : Option AVal) : Det fun k => Av.need x k := by
 cases x with
 | none => exact Det.false
 | some a => exact Det.pure a
theorem WPp_det {op : Op} {E : (AVal → Prop) → Prop} (d : Det E) (hE : ∀ KK : AVal → Heap → Prop, wpOp C op t h KK = E fun v => KK v h) :
  WPp C ops (⟨dst, op, ty, pos, aft, none⟩ :: rest) t h K = E fun v => WPp C ops rest (put t dst v) h K := by
 apply propext
 show (∃ v, (∀ KK : AVal → Heap → Prop, KK v h → wpOp C op t h KK) ∧ WPp C ops rest (put t dst v) h K) ↔ _
 rw [d (fun v => WPp C ops rest (put t dst v) h K)]
 constructor
 ·rintro ⟨v, h1, h2⟩
  exact ⟨v, fun KK k => by have := h1 (fun v _ => KK v) k; rw [hE] at this; exact this, h2⟩
 ·rintro ⟨v, h1, h2⟩
  exact ⟨v, fun KK k => by rw [hE]; exact h1 (fun v => KK v h) k, h2⟩
@[go_sem] theorem WPp_nil : WPp C ops [] t h K = K t := (rfl)
@[go_sem] theorem WPp_move (x : Operand) : WPp C ops (⟨dst, .move x, ty, pos, aft, none⟩ :: rest) t h K = WPp C ops rest (put t dst (aev C.G t x)) h K := WPp_det (Det.pure _) fun _ => rfl
@[go_sem] theorem WPp_assign (x : Operand) : WPp C ops (⟨dst, .assign x, ty, pos, aft, none⟩ :: rest) t h K = WPp C ops rest (put t dst (aev C.G t x)) h K := WPp_det (Det.pure _) fun _ => rfl
theorem Det.pick (c a b : AVal) : Det (pickK c a b) := by
 cases c <;> first | exact Det.false | skip
 rename_i q
 intro R
 simp only [pickK]
 constructor
 ·intro g
  refine ⟨if q = true then a else b, fun KK k => ?_, ?_⟩
  ·cases q <;> simp at k ⊢ <;> exact k
  ·cases q <;> simp at g ⊢ <;> exact g
 ·rintro ⟨v, h1, h2⟩
  have := h1 (fun x => x = v) rfl
  cases q <;> simp at this ⊢ <;> rw [this] <;> exact h2
@[go_sem] theorem WPp_pick (c x y : Operand) : WPp C ops (⟨dst, .pick c x y, ty, pos, aft, none⟩ :: rest) t h K = pickK (aev C.G t c) (aev C.G t x) (aev C.G t y) (fun v => WPp C ops rest (put t dst v) h K) :=
 WPp_det (Det.pick _ _ _) fun _ => rfl
theorem Det.load (C : Ctx) (T : TypeId) (x : AVal) (h : Heap) : Det (loadK C T x h) := by
 cases x with
 | ad cs => exact Det.need' (pickT C.P T cs)
 | hp p ver i off => exact Det.need (getRow h p ver) fun q => Det.need (q.2.2[i]?) fun r => Det.need' (pickT C.P T (r.cells.drop off))
 | _ => exact Det.false
@[go_sem] theorem WPp_load (T : TypeId) (x : Operand) : WPp C ops (⟨dst, .load T x, ty, pos, aft, none⟩ :: rest) t h K = loadK C T (aev C.G t x) h (fun v => WPp C ops rest (put t dst v) h K) :=
 WPp_det (Det.load _ _ _ _) fun KK => by simp only [wpOp, loadK]; generalize aev C.G t x = v; cases v <;> rfl
def nilV (x : AVal) (h : Heap) (k : AVal → Prop) : Prop := nilK x h (k x)
theorem Det.nilC (x : AVal) (h : Heap) : Det (nilV x h) := by
 unfold nilV
 cases x <;> simp only [nilK] <;> first | exact Det.false | exact Det.pure _ | exact Det.and (Det.pure _) | skip
 rename_i f _ _; cases f <;> first | exact Det.pure _ | exact Det.false
@[go_sem] theorem WPp_nilCheck (x : Operand) : WPp C ops (⟨dst, .nilCheck x, ty, pos, aft, none⟩ :: rest) t h K = nilK (aev C.G t x) h (WPp C ops rest (put t dst (aev C.G t x)) h K) :=
 WPp_det (E := nilV (aev C.G t x) h) (Det.nilC _ _) fun KK => by
  simp only [wpOp, nilV, nilK]; generalize aev C.G t x = v; cases v <;> first | rfl | (rename_i f _ _; cases f <;> rfl)
@[go_sem] theorem WPp_binOp (op : BinOp) (T T' : TypeId) (x y : Operand) : WPp C ops (⟨dst, .binOp op T x y T', ty, pos, aft, none⟩ :: rest) t h K =
  need (abin C.P h op T (aev C.G t x) (aev C.G t y)) fun v => WPp C ops rest (put t dst v) h K := by
 have key : ∀ KK : AVal → Heap → Prop, (∃ v, ∀ u h', KK u h' → u = v) → wpOp C (.binOp op T x y T') t h KK → need (abin C.P h op T (aev C.G t x) (aev C.G t y)) fun v => KK v h := by
  intro KK ⟨v, hv⟩ g
  simp only [wpOp] at g
  unfold binK at g
  split at g
  ·split at g
   ·exfalso
    cases op <;> first | exact g.elim | (have h1 := hv _ _ (g true); have h2 := hv _ _ (g false); rw [← h2] at h1; cases h1)
   ·exact g.elim
  ·exact g
 have back : ∀ KK : AVal → Heap → Prop, (need (abin C.P h op T (aev C.G t x) (aev C.G t y)) fun v => KK v h) → wpOp C (.binOp op T x y T') t h KK := by
  intro KK g
  simp only [wpOp]
  unfold binK
  split
  ·rename_i n h1 h2
   rw [h1, h2] at g
   have e0 : abin C.P h op T (.sl n []) (.nil (.slice none 0 0)) = none := by
    simp only [abin, aeqNil]
    split
    ·cases op <;> rfl
    ·rfl
   rw [e0] at g; exact g.elim
  ·exact g
 apply propext
 show (∃ v, (∀ KK : AVal → Heap → Prop, KK v h → wpOp C (.binOp op T x y T') t h KK) ∧ WPp C ops rest (put t dst v) h K) ↔ _
 have hd := Det.need' (abin C.P h op T (aev C.G t x) (aev C.G t y)) (fun v => WPp C ops rest (put t dst v) h K)
 refine Iff.trans ?_ hd.symm
 constructor
 ·rintro ⟨v, h1, h2⟩
  refine ⟨v, fun KK k => ?_, h2⟩
  have := key (fun u h' => u = v ∧ KK v) ⟨v, fun u h' e => e.1⟩ (h1 _ ⟨rfl, k⟩)
  exact need_imp this fun a e => by rw [e.1]; exact e.2
 ·rintro ⟨v, h1, h2⟩
  exact ⟨v, fun KK k => back KK (h1 (fun u => KK u h) k), h2⟩
@[go_sem] theorem WPp_unOp (op : UnOp) (T : TypeId) (x : Operand) : WPp C ops (⟨dst, .unOp op T x, ty, pos, aft, none⟩ :: rest) t h K =
  need (aun op (aev C.G t x)) fun v => WPp C ops rest (put t dst v) h K := WPp_det (Det.need' _) fun _ => rfl
theorem Det.sdata (x : AVal) (h : Heap) : Det (sdataK x h) := by
 unfold sdataK
 split
 ·refine Det.and ?_
  split
  ·exact Det.pure _
  ·exact Det.pure _
 ·exact Det.pure _
 ·exact Det.false
@[go_sem] theorem WPp_sdata (x : Operand) (Ts : Array TypeId) : WPp C ops (⟨dst, .call ⟨.builtin .unsafeSliceData, #[x], Ts⟩, ty, pos, aft, none⟩ :: rest) t h K =
  sdataK (aev C.G t x) h fun v => WPp C ops rest (put t dst v) h K := WPp_det (Det.sdata _ _) fun _ => rfl
@[go_sem] theorem WPp_slice (T : TypeId) (x : Operand) (lo hi mx : Option Operand) : WPp C ops (⟨dst, .slice T x lo hi mx, ty, pos, aft, none⟩ :: rest) t h K =
  need (aslice C.P h T (aev C.G t x) (lo.map (aev C.G t)) (hi.map (aev C.G t)) (mx.map (aev C.G t))) fun v => WPp C ops rest (put t dst v) h K := WPp_det (Det.need' _) fun _ => rfl
theorem Det.field (x : AVal) (o : Nat) (h : Heap) : Det (fieldK x o h) := by
 cases x with
 | hp p ver i off => exact Det.and (Det.pure (.hp p ver i (off + o)))
 | ad cs => exact Det.and (Det.pure (.ad (cs.drop o)))
 | _ => exact Det.false
@[go_sem] theorem WPp_fieldAddr (T : TypeId) (x : Operand) (f : Nat) : WPp C ops (⟨dst, .fieldAddr T x f, ty, pos, aft, none⟩ :: rest) t h K =
  need (fOff C.P T f) fun q => q.2.2 ≠ 0 ∧ fieldK (aev C.G t x) q.1 h (fun v => WPp C ops rest (put t dst v) h K) :=
 WPp_det (E := fun k => need (fOff C.P T f) fun q => q.2.2 ≠ 0 ∧ fieldK (aev C.G t x) q.1 h k) (Det.need _ fun q => Det.and (Det.field _ _ _)) fun KK => by
  simp only [wpOp, fieldK]; cases fOff C.P T f <;> first | rfl | (simp only [need_eq]; generalize aev C.G t x = v; cases v <;> rfl)
theorem Det.index (C : Ctx) (T : TypeId) (x i : AVal) (h : Heap) : Det (indexK C T x i h) := by
 cases i with
 | int kd n =>
  cases x with
  | sl m es => exact Det.need (elmT C.P T) fun e => Det.and (Det.and (Det.and (Det.need (es[n.toNat]?) fun r => Det.pure (.ad r.cells))))
  | hs p ver off len room => exact Det.need (elmT C.P T) fun e => Det.need (getRow h p ver) fun q => Det.and (Det.and (Det.and (Det.pure (.hp p ver (off + n.toNat) 0))))
  | hp p ver j off => exact Det.need (arrT C.P T) fun q => Det.need (szOf C.P q.2) fun m => Det.and (Det.and (Det.and (Det.pure (.hp p ver j (off + n.toNat * m)))))
  | ad cs => exact Det.need (arrT C.P T) fun q => Det.need (szOf C.P q.2) fun m => Det.and (Det.and (Det.and (Det.pure (.ad (cs.drop (n.toNat * m))))))
  | _ => exact Det.false
 | _ => exact Det.false
@[go_sem] theorem WPp_indexAddr (T : TypeId) (x i : Operand) : WPp C ops (⟨dst, .indexAddr T x i, ty, pos, aft, none⟩ :: rest) t h K = indexK C T (aev C.G t x) (aev C.G t i) h (fun v => WPp C ops rest (put t dst v) h K) :=
 WPp_det (Det.index _ _ _ _ _) fun KK => by
  simp only [wpOp, indexK]; generalize aev C.G t i = vi; generalize aev C.G t x = v; cases vi <;> first | rfl | (cases v <;> rfl)
theorem Det.indexV (C : Ctx) (T : TypeId) (x i : AVal) : Det (indexV C T x i) := by
 cases i with
 | int kd n =>
  cases x with
  | str s => exact Det.and (Det.and (Det.need (s[n.toNat]?) fun b => Det.pure (.int .u8 b.toNat)))
  | agg cs => exact Det.need (arrT C.P T) fun q => Det.need (szOf C.P q.2) fun m => Det.and (Det.and (Det.need' (pickT C.P q.2 (cs.drop (n.toNat * m)))))
  | _ => exact Det.false
 | _ => exact Det.false
@[go_sem] theorem WPp_index (T : TypeId) (x i : Operand) : WPp C ops (⟨dst, .index T x i, ty, pos, aft, none⟩ :: rest) t h K = indexV C T (aev C.G t x) (aev C.G t i) (fun v => WPp C ops rest (put t dst v) h K) :=
 WPp_det (Det.indexV _ _ _ _) fun KK => by
  simp only [wpOp, indexV]; generalize aev C.G t i = vi; generalize aev C.G t x = v; cases vi <;> first | rfl | (cases v <;> rfl)
@[go_sem] theorem WPp_build (T : TypeId) (parts : Array (Nat × Operand)) : WPp C ops (⟨dst, .build T parts, ty, pos, aft, none⟩ :: rest) t h K =
  need (buildA C T (parts.toList.map fun q => (q.1, aev C.G t q.2))) fun v => WPp C ops rest (put t dst v) h K :=
 WPp_det (E := fun k => need (buildA C T (parts.toList.map fun q => (q.1, aev C.G t q.2))) k) (Det.need' _) fun KK => by
  have := WPl_build (C := C) (ops := #[]) (Q := fun _ t h => KK (t 0) h) (rest := []) (t := t) (h := h) (dst := some 0) (ty := 0) (pos := "") (aft := #[]) T parts
  simpa [WPl, wpOper, put, upd] using this
def rowsV (C : Ctx) (T : TypeId) (len : Nat) (idx : List Nat) (xs : List AVal) (k : AVal → Prop) : Prop :=
 need (elmT C.P T) fun e => need (szOf C.P e) fun n => if len = 0 then xs.length = 0 ∧ k .ez else
   xs.length = len ∧ 0 < len ∧ 0 < n ∧ len * n ≤ 16777216 ∧ idx = List.range len ∧ (zroT C.P e).map (fun z => (z.cells.length, z.cells.all AVal.sto)) = some (n, true) ∧
   (∀ x ∈ xs, x.cells.length = n ∧ x.lies = true) ∧ k (.sl n xs)
@[congr] theorem rowsV_congr {T : TypeId} {len : Nat} {idx idx' : List Nat} {xs xs' : List AVal} {k : AVal → Prop} (e1 : xs = xs') (e3 : idx = idx') : rowsV C T len idx xs k = rowsV C T len idx' xs' k := by rw [e1, e3]
@[go_sem] theorem WPp_buildSlice (T : TypeId) (len : Nat) (parts : Array (Nat × Operand)) : WPp C ops (⟨dst, .buildSlice T len parts, ty, pos, aft, none⟩ :: rest) t h K =
  rowsV C T len (parts.toList.map (·.1)) (parts.toList.map fun q => aev C.G t q.2) (fun v => WPp C ops rest (put t dst v) h K) := by
 have d : Det (rowsV C T len (parts.toList.map (·.1)) (parts.toList.map fun q => aev C.G t q.2)) := by
  refine Det.need _ fun e => Det.need _ fun n => ?_
  by_cases hn : len = 0
  ·simp only [if_pos hn]; exact Det.and (Det.pure _)
  ·simp only [if_neg hn]; exact Det.and (Det.and (Det.and (Det.and (Det.and (Det.and (Det.and (Det.pure _)))))))
 apply propext
 show (∃ v, (∀ KK : AVal → Heap → Prop, KK v h → wpOp C (.buildSlice T len parts) t h KK) ∧ WPp C ops rest (put t dst v) h K) ↔ _
 rw [d (fun v => WPp C ops rest (put t dst v) h K)]
 have key : ∀ KK : AVal → Heap → Prop, (∀ v h', KK v h' → h' = h) → wpOp C (.buildSlice T len parts) t h KK → rowsV C T len (parts.toList.map (·.1)) (parts.toList.map fun q => aev C.G t q.2) (fun v => KK v h) := by
  intro KK hh g
  simp only [wpOp] at g
  unfold rowsV
  refine need_imp g fun e g => need_imp g fun n g => ?_
  by_cases hn : len = 0
  ·rw [if_pos hn] at g ⊢
   exact ⟨by simpa using g.1, g.2⟩
  rw [if_neg hn] at g ⊢
  obtain ⟨g1, g2, g3, g4, g5, g6, g7, g8⟩ := g
  refine ⟨by simpa using g1, g2, g3, g4, g5, g6, g7, ?_⟩
  rcases g8 with g8 | g8
  ·have := hh _ _ g8; simp at this
  ·exact g8
 have back : ∀ KK : AVal → Heap → Prop, rowsV C T len (parts.toList.map (·.1)) (parts.toList.map fun q => aev C.G t q.2) (fun v => KK v h) → wpOp C (.buildSlice T len parts) t h KK := by
  intro KK g
  simp only [wpOp]
  unfold rowsV at g
  refine need_imp g fun e g => need_imp g fun n g => ?_
  by_cases hn : len = 0
  ·rw [if_pos hn] at g ⊢
   exact ⟨by simpa using g.1, g.2⟩
  rw [if_neg hn] at g ⊢
  exact ⟨by simpa using g.1, g.2.1, g.2.2.1, g.2.2.2.1, g.2.2.2.2.1, g.2.2.2.2.2.1, g.2.2.2.2.2.2.1, .inr g.2.2.2.2.2.2.2⟩
 have mono : ∀ k k' : AVal → Prop, (∀ v, k v → k' v) → rowsV C T len (parts.toList.map (·.1)) (parts.toList.map fun q => aev C.G t q.2) k → rowsV C T len (parts.toList.map (·.1)) (parts.toList.map fun q => aev C.G t q.2) k' := by
  intro k k' i g
  unfold rowsV at *
  refine need_imp g fun e g => need_imp g fun n g => ?_
  by_cases hn : len = 0
  ·rw [if_pos hn] at g ⊢
   exact ⟨g.1, i _ g.2⟩
  rw [if_neg hn] at g ⊢
  exact ⟨g.1, g.2.1, g.2.2.1, g.2.2.2.1, g.2.2.2.2.1, g.2.2.2.2.2.1, g.2.2.2.2.2.2.1, i _ g.2.2.2.2.2.2.2⟩
 constructor
 ·rintro ⟨v, h1, h2⟩
  refine ⟨v, fun KK k => ?_, h2⟩
  exact mono _ _ (fun v e => e.1) (key (fun v' h' => KK v' ∧ h' = h) (fun _ _ e => e.2) (h1 _ ⟨k, rfl⟩))
 ·rintro ⟨v, h1, h2⟩
  exact ⟨v, fun KK k => back KK (h1 (fun v => KK v h) k), h2⟩
@[go_sem] theorem WPp_len (x : Operand) (T : TypeId) : WPp C ops (⟨dst, .call ⟨.builtin .len, #[x], #[T]⟩, ty, pos, aft, none⟩ :: rest) t h K =
  need (alen C.P h T (aev C.G t x)) fun n => WPp C ops rest (put t dst (.int .i64 n)) h K :=
 WPp_det (E := fun k => need (alen C.P h T (aev C.G t x)) fun n => k (.int .i64 n)) (Det.need _ fun _ => Det.pure _) fun _ => rfl
def callV (C : Ctx) (f : AVal) (args : List AVal) (h : Heap) (k : AVal → Prop) : Prop := ∃ v, callK C f args h (fun r h' => r = v ∧ h' = h) ∧ k v
@[congr] theorem callV_congr {f f' : AVal} {args args' : List AVal} {h h' : Heap} {k : AVal → Prop} (e1 : f = f') (e2 : args = args') (e3 : h = h') : callV C f args h k = callV C f' args' h' k := by rw [e1, e2, e3]
@[go_sem] theorem callV_fn (g : FuncId) (first captured args : List AVal) (k : AVal → Prop) : callV C (.fn (.func g) first captured) args h k = ∃ v, Sat C g (first ++ args ++ captured) h (fun r h' => r = v ∧ h' = h) ∧ k v := (rfl)
@[go_sem] theorem WPp_call (f : Operand) (args : Array Operand) (Ts : Array TypeId) : WPp C ops (⟨dst, .call ⟨.value f, args, Ts⟩, ty, pos, aft, none⟩ :: rest) t h K =
  callV C (aev C.G t f) (args.toList.map (aev C.G t)) h (fun v => WPp C ops rest (put t dst v) h K) := by
 have e : ∀ KK : AVal → Heap → Prop, wpOp C (.call ⟨.value f, args, Ts⟩) t h KK = callK C (aev C.G t f) (args.toList.map (aev C.G t)) h KK := fun KK => by
  simp only [wpOp, wpCall, callK]; generalize aev C.G t f = v; cases v <;> first | rfl | (rename_i f _ _; cases f <;> rfl)
 apply propext
 show (∃ v, (∀ KK : AVal → Heap → Prop, KK v h → wpOp C (.call ⟨.value f, args, Ts⟩) t h KK) ∧ WPp C ops rest (put t dst v) h K) ↔ _
 constructor
 ·rintro ⟨v, h1, h2⟩
  refine ⟨v, ?_, h2⟩
  have := h1 (fun r h' => r = v ∧ h' = h) ⟨rfl, rfl⟩
  rw [e] at this; exact this
 ·rintro ⟨v, h1, h2⟩
  refine ⟨v, fun KK k => ?_, h2⟩
  rw [← e] at h1
  exact wpOp_mono (fun r h' ⟨e1, e2⟩ => by rw [e1, e2]; exact k) h1
theorem WPp_guard (op : Op) (j : Nat) (want : Bool) : WPp C ops (⟨dst, op, ty, pos, aft, some (j, want)⟩ :: rest) t h K =
  guardK (guardA ops t j) want (WPp C ops (⟨dst, op, ty, pos, aft, none⟩ :: rest) t h K) (WPp C ops rest (put t dst undefA) h K) := by
 apply propext
 show (∃ v, (∀ KK : AVal → Heap → Prop, KK v h → wpOperV C ops ⟨dst, op, ty, pos, aft, some (j, want)⟩ t h KK) ∧ WPp C ops rest (put t dst v) h K) ↔ _
 simp only [wpOperV]
 cases guardA ops t j with
 | none => exact ⟨fun ⟨v, h1, _⟩ => h1 (fun _ _ => True) trivial, fun g => g.elim⟩
 | some q =>
  simp only [guardK]
  by_cases e : q = some want
  ·constructor
   ·rintro ⟨v, h1, h2⟩
    exact ⟨fun _ => ⟨v, fun KK k => (h1 KK k).1 e, h2⟩, fun h3 => absurd e h3⟩
   ·rintro ⟨g, _⟩
    obtain ⟨v, h1, h2⟩ := g e
    exact ⟨v, fun KK k => ⟨fun _ => h1 KK k, fun h3 => absurd e h3⟩, h2⟩
  ·constructor
   ·rintro ⟨v, h1, h2⟩
    have := (h1 (fun x _ => x = v) rfl).2 e
    refine ⟨fun h3 => absurd h3 e, fun _ => ?_⟩
    rw [this]; exact h2
   ·rintro ⟨_, g⟩
    exact ⟨undefA, fun KK k => ⟨fun h3 => absurd h3 e, fun _ => k⟩, g e⟩
@[go_sem] theorem WPp_yes (op : Op) (j : Nat) (want : Bool) (hg : guardA ops t j = some (some want)) : WPp C ops (⟨dst, op, ty, pos, aft, some (j, want)⟩ :: rest) t h K = WPp C ops (⟨dst, op, ty, pos, aft, none⟩ :: rest) t h K := by
 rw [WPp_guard, hg]; simp [guardK]
@[go_sem] theorem WPp_no (op : Op) (j : Nat) (want : Bool) (hg : guardA ops t j = some (some (!want))) : WPp C ops (⟨dst, op, ty, pos, aft, some (j, want)⟩ :: rest) t h K = WPp C ops rest (put t dst undefA) h K := by
 rw [WPp_guard, hg]; simp [guardK]
end
attribute [go_sem] List.take_succ_cons List.take_zero
end Go.Av
namespace Go.Av
open Go.RowKit
section
variable {C : Ctx} {h : Heap}
theorem Fin.frz {h0 j : Heap} {R : AVal → Heap → Prop} {r0 r : AVal} (hz : Frz (h0 ++ j) h0.length r0 r) (hR : R r h0) : Fin h0 (h0 ++ j) R r0 := by
 refine ⟨h0.length, r, Nat.le_refl _, hz, .inr fun p k hp hk => ?_, by rw [List.take_left' rfl]; exact hR⟩
 rw [List.getElem?_append_left hp] at hk
 exact .inl ⟨hp, hk⟩
def Wk (x y : AVal) : Prop := ∀ (w : World) (S : Addr → Prop) (μ : Map) (v : Value), Rep w S μ x v → Rep w S μ y v
theorem Wk.refl (x : AVal) : Wk x x := fun _ _ _ _ r => r
theorem Wk.nils (n : Nat) : Wk (.nil (.slice none 0 0)) (.sl n []) := fun _ _ _ _ r => by cases r; exact .sl0 n none 0
theorem upd_self {t : Env} {d : Nat} {q b : Bool} (h1 : t d = .bool q) (h2 : q = b) : upd t d (.bool b) = t := by
 funext i; simp only [upd]; split
 ·rename_i e; subst e; rw [h1, h2]
 ·rfl
theorem WPl_gsplit {ops : Array Oper} {Q : Exit → Env → Heap → Prop} {rest : List Oper} {t : Env} {dst : Option Nat} {op : Op} {ty : TypeId} {pos : String} {aft : Array Edge} {j d : Nat} {want q : Bool}
  (_hd : (ops[j]?).bind (·.dst) = some d) (hq : t d = .bool q)
  (h1 : q = true → WPl C ops Q (⟨dst, op, ty, pos, aft, some (j, want)⟩ :: rest) (upd t d (.bool true)) h) (h2 : q = false → WPl C ops Q (⟨dst, op, ty, pos, aft, some (j, want)⟩ :: rest) (upd t d (.bool false)) h) :
  WPl C ops Q (⟨dst, op, ty, pos, aft, some (j, want)⟩ :: rest) t h := by
 cases q with
 | true => have := h1 rfl; rwa [upd_self hq rfl] at this
 | false => have := h2 rfl; rwa [upd_self hq rfl] at this
theorem WPp_gsplit {ops : Array Oper} {K : Env → Prop} {rest : List Oper} {t : Env} {dst : Option Nat} {op : Op} {ty : TypeId} {pos : String} {aft : Array Edge} {j d : Nat} {want q : Bool}
  (_hd : (ops[j]?).bind (·.dst) = some d) (hq : t d = .bool q)
  (h1 : q = true → WPp C ops (⟨dst, op, ty, pos, aft, some (j, want)⟩ :: rest) (upd t d (.bool true)) h K) (h2 : q = false → WPp C ops (⟨dst, op, ty, pos, aft, some (j, want)⟩ :: rest) (upd t d (.bool false)) h K) :
  WPp C ops (⟨dst, op, ty, pos, aft, some (j, want)⟩ :: rest) t h K := by
 cases q with
 | true => have := h1 rfl; rwa [upd_self hq rfl] at this
 | false => have := h2 rfl; rwa [upd_self hq rfl] at this
@[go_sem] theorem pickK_t (a b : AVal) (k : AVal → Prop) : pickK (.bool true) a b k = k a := by simp [pickK]
@[go_sem] theorem pickK_f (a b : AVal) (k : AVal → Prop) : pickK (.bool false) a b k = k b := by simp [pickK]
@[go_sem] theorem pickK_or (q r : Bool) (k : AVal → Prop) : pickK (.bool q) (.bool true) (.bool r) k = k (.bool (q || r)) := by cases q <;> simp [pickK]
@[go_sem] theorem pickK_and (q r : Bool) (k : AVal → Prop) : pickK (.bool q) (.bool r) (.bool false) k = k (.bool (q && r)) := by cases q <;> simp [pickK]
end
end Go.Av
namespace Go.Av
open Go.RowKit
section
variable {C : Ctx}
def Agr (ms : List Nat) (s t : Env) : Prop := ∀ i, i ∉ ms → s i = t i
theorem Agr.put {ms : List Nat} {s t : Env} {d : Option Nat} {v : AVal} (g : Agr ms s t) (hd : ∀ x, d = some x → x ∈ ms) : Agr ms (put s d v) t := by
 intro i hi
 cases d with
 | none => exact g i hi
 | some x =>
  have : i ≠ x := fun e => hi (e ▸ hd x rfl)
  simp only [Av.put, upd]; rw [if_neg this]; exact g i hi
theorem wpOperV_mono {ops : Array Oper} {o : Oper} {t : Env} {h : Heap} {K K' : AVal → Heap → Prop} (g : wpOperV C ops o t h K) (k : ∀ v h', K v h' → K' v h') : wpOperV C ops o t h K' := by
 unfold wpOperV at *
 split at g
 ·exact wpOp_mono k g
 ·split at g
  ·exact ⟨fun e => wpOp_mono k (g.1 e), fun e => k _ _ (g.2 e)⟩
  ·exact g.elim
theorem WPl_frame {ops : Array Oper} {ms : List Nat} {t0 : Env} {Q Q' : Exit → Env → Heap → Prop} (k : ∀ e t h, Q e t h → Agr ms t t0 → Q' e t h) :
  ∀ (l : List Oper) (t : Env) (h : Heap), (∀ x ∈ wrOps l, x ∈ ms) → Agr ms t t0 → WPl C ops Q l t h → WPl C ops Q' l t h
 | [], t, h, _, a, g => k _ _ _ g a
 | o :: rest, t, h, hm, a, g => by
  unfold WPl at g ⊢
  rw [wpOper_V] at g ⊢
  refine wpOperV_mono g fun v h' g' => WPl_frame k rest _ h' (fun x hx => hm x ?_) (a.put fun x hx => hm x ?_) g'
  ·unfold wrOps; split <;> simp [hx]
  ·unfold wrOps; simp [hx]
theorem mem_wrOps {o : Oper} {x : Nat} (hx : o.dst = some x) : ∀ (l : List Oper), o ∈ l → x ∈ wrOps l
 | o' :: rest, hm => by
  unfold wrOps
  rcases List.mem_cons.1 hm with rfl | hm
  ·rw [hx]; simp
  ·split <;> simp [mem_wrOps hx rest hm]
theorem WPix_frame {ops : Array Oper} {ms : List Nat} {t0 : Env} {Q Q' : Exit → Env → Heap → Prop} (k : ∀ e t h, Q e t h → Agr ms t t0 → Q' e t h) (hm : ∀ x ∈ wrOps ops.toList, x ∈ ms) :
  ∀ (l : List Nat) (t : Env) (h : Heap), Agr ms t t0 → WPix C ops Q l t h → WPix C ops Q' l t h
 | [], t, h, a, g => k _ _ _ g a
 | i :: rest, t, h, a, g => by
  unfold WPix at g ⊢
  cases hi : ops[i]? with
  | none => rw [hi] at g; exact WPix_frame k hm rest t h a g
  | some o =>
   rw [hi] at g
   simp only [] at g ⊢
   rw [wpOper_V] at g ⊢
   exact wpOperV_mono g fun v h' g' => WPix_frame k hm rest _ h' (a.put fun x hx => hm x (mem_wrOps hx _ (by simpa using Array.mem_of_getElem? hi))) g'
theorem WP_frame {ms : List Nat} {t0 : Env} : ∀ (c : Code) {Q Q' : Exit → Env → Heap → Prop}, (∀ e t h, Q e t h → Agr ms t t0 → Q' e t h) →
  ∀ (t : Env) (h : Heap), (∀ x ∈ wr c, x ∈ ms) → Agr ms t t0 → WP C c Q t h → WP C c Q' t h := by
 intro c
 induction c with
 | skip => intro Q Q' k t h _ a g; exact k _ _ _ g a
 | label l => intro Q Q' k t h _ a g; exact k _ _ _ g a
 | exit id => intro Q Q' k t h _ a g; exact k _ _ _ g a
 | ret => intro Q Q' k t h _ a g; exact k _ _ _ g a
 | region id ops draw =>
  intro Q Q' k t h hm a g
  cases draw with
  | false => exact WPl_frame k _ t h hm a g
  | true => exact fun tp => WPix_frame k hm _ t h a (g tp)
 | seq x y ihx ihy =>
  intro Q Q' k t h hm a g
  refine ihx (Q := thenQ (fun t h => Wkn C (wr x) t h fun t h => WP C y Q t h) Q) (fun e t' h' g' a' => ?_) t h (fun i hi => hm i (by simp [wr, hi])) a g
  cases e with
  | normal =>
   obtain ⟨t1, h1, hw, g'⟩ := g'
   exact ⟨t1, h1, hw, ihy k t1 h1 (fun i hi => hm i (by simp [wr, hi])) (fun i hi => (hw.1 i fun e => hi (hm i (by simp [wr, e]))).trans (a' i hi)) g'⟩
  | _ => exact k _ _ _ g' a'
 | cond c x y ihx ihy =>
  intro Q Q' k t h hm a g
  simp only [WP] at g ⊢
  split at g
  ·exact ⟨fun e => ihx k t h (fun i hi => hm i (by simp [wr, hi])) a (g.1 e), fun e => ihy k t h (fun i hi => hm i (by simp [wr, hi])) a (g.2 e)⟩
  ·exact g.elim
 | block id x ih =>
  intro Q Q' k t h hm a g
  refine ih (Q := blockQ id Q) (fun e t' h' g' a' => ?_) t h hm a g
  cases e with
  | exit id' =>
   simp only [blockQ] at g' ⊢
   split at g'
   ·rename_i e; rw [if_pos e]; exact k _ _ _ g' a'
   ·rename_i e; rw [if_neg e]; exact k _ _ _ g' a'
  | _ => exact k _ _ _ g' a'
 | loop x ih =>
  intro Q Q' k t h hm a g
  obtain ⟨I, n, ⟨t1, h1, hw, h0⟩, round⟩ := g
  have wk : ∀ t h t1 h1, Weak C (wr x) t h t1 h1 → Agr ms t t0 → Agr ms t1 t0 := fun t h t1 h1 hw a i hi => (hw.1 i fun e => hi (hm i e)).trans (a i hi)
  refine ⟨fun n t h => I n t h ∧ Agr ms t t0, n, ⟨t1, h1, hw, h0, wk _ _ _ _ hw a⟩, fun n' t' h' hI => ?_⟩
  refine ih (Q := thenQ (fun t2 h2 => ∃ m, m < n' ∧ Wkn C (wr x) t2 h2 (I m)) Q) (fun e t2 h2 g' a' => ?_) t' h' hm hI.2 (round n' t' h' hI.1)
  cases e with
  | normal => obtain ⟨m, h1, t3, h3, hw3, h2⟩ := g'; exact ⟨m, h1, t3, h3, hw3, h2, wk _ _ _ _ hw3 a'⟩
  | _ => exact k _ _ _ g' a'
 | rangeFunc f ps as b _ _ => intro Q Q' k t h _ a g; exact g.elim
 | scope x ih =>
  intro Q Q' k t h hm a g
  refine ih (Q := noG Q) (fun e t' h' g' a' => ?_) t h hm a g
  cases e with
  | goto l => exact g'.elim
  | _ => exact k _ _ _ g' a'
 | goto l => intro Q Q' k t h _ a g; exact g.elim
 | refuse s => intro Q Q' k t h _ a g; exact g.elim
def mix : List Nat → Env → Env → Env
 | [], _, t => t
 | a :: ms, s, t => upd (mix ms s t) a (s a)
@[go_sem] theorem mix_nil (s t : Env) (i : Nat) : mix [] s t i = t i := (rfl)
@[go_sem] theorem mix_cons (a : Nat) (ms : List Nat) (s t : Env) (i : Nat) : mix (a :: ms) s t i = if i = a then s a else mix ms s t i := (rfl)
theorem mix_in {ms : List Nat} {s t : Env} {i : Nat} (h : i ∈ ms) : mix ms s t i = s i := by
 induction ms with
 | nil => cases h
 | cons a ms ih =>
  rw [mix_cons]; split
  ·rename_i e; rw [e]
  ·rename_i e; rcases List.mem_cons.1 h with h | h
   ·exact absurd h e
   ·exact ih h
theorem mix_out {ms : List Nat} {s t : Env} {i : Nat} (h : i ∉ ms) : mix ms s t i = t i := by
 induction ms with
 | nil => rfl
 | cons a ms ih =>
  rw [mix_cons]; simp only [List.mem_cons, not_or] at h
  rw [if_neg h.1]; exact ih h.2
theorem Agr.mix {ms : List Nat} {s t : Env} (g : Agr ms s t) : s = mix ms s t := by
 funext i
 by_cases h : i ∈ ms
 ·rw [mix_in h]
 ·rw [mix_out h]; exact g i h
theorem WP_loopm {c : Code} {ms : List Nat} {Q : Exit → Env → Heap → Prop} {t : Env} {h : Heap} (hms : wr c = ms) (I : Nat → Env → Heap → Prop) (n : Nat) (h0 : Wkn C ms t h (I n))
  (round : ∀ (n' : Nat) (s : Env) (h' : Heap), I n' (mix ms s t) h' → ∀ K : Env → Heap → Prop, (∀ m t2 h2, Wkn C ms t2 h2 (I m) → m < n' → K t2 h2) → WP C c (thenQ K Q) (mix ms s t) h') : WP C (.loop c) Q t h := by
 subst hms
 obtain ⟨t1, h1, hw, h0⟩ := h0
 refine ⟨fun n t' h' => I n t' h' ∧ Agr (wr c) t' t, n, ⟨t1, h1, hw, h0, hw.1⟩, fun n' t' h' hI => ?_⟩
 obtain ⟨hI, ha⟩ := hI
 have e := ha.mix
 have h1 := round n' t' h' (by rw [← e]; exact hI) (fun t2 h2 => ∃ m, m < n' ∧ Wkn C (wr c) t2 h2 (I m)) (fun m t2 h2 hm hi => ⟨m, hi, hm⟩)
 rw [← e] at h1
 refine WP_frame (ms := wr c) (t0 := t) c (fun e t2 h2 g' a' => ?_) t' h' (fun x hx => hx) ha h1
 cases e with
 | normal => obtain ⟨m, hm, t3, h3, hw3, hi⟩ := g'; exact ⟨m, hm, t3, h3, hw3, hi, fun i hi => (hw3.1 i hi).trans (a' i hi)⟩
 | _ => exact g'
attribute [go_sem] wr wrOps
theorem Weak.trans {ms : List Nat} {t t1 t2 : Env} {h h1 h2 : Heap} (a : Weak C ms t h t1 h1) (b : Weak C ms t1 h1 t2 h2) : Weak C ms t h t2 h2 :=
 ⟨fun i hi => (b.1 i hi).trans (a.1 i hi), fun B n S μ w ac f r => by
  obtain ⟨S1, μ1, st1, f1, r1⟩ := a.2 B n S μ w ac f r
  obtain ⟨S2, μ2, st2, f2, r2⟩ := b.2 B n S1 μ1 w ac f1 r1
  exact ⟨S2, μ2, st1.trans st2, f2, r2⟩⟩
theorem rep_virt {w : World} {S : Addr → Prop} {μ : Map} {m : MB} (hm : m.blk = none) (hv : m.ver = 0) : Rep w S (μ ++ [m]) (.hs μ.length 0 0 0 true) (.slice none 0 0) :=
 .hs _ _ _ _ _ m _ (by simp) (by omega) (by intro cs h; cases h) rfl fun _ => .inl ⟨hm, rfl, rfl, rfl⟩
theorem fits_virt {S : Addr → Prop} {μ : Map} {w : World} {B : Nat} {h : Heap} (f : Fits C B S μ h w) (e n : Nat) (hn : 0 < n) :
  Fits C B S (μ ++ [⟨none, 0, n, 0⟩]) (h ++ [.row e n 0 []]) w ∧ Step B S μ w S (μ ++ [⟨none, 0, n, 0⟩]) w :=
 f.virtual ⟨none, 0, n, 0⟩ (.row e n 0 []) rfl ⟨rfl, rfl, hn, fun i r hi => by simp at hi, fun i r j c hi => by simp at hi, .inl ⟨rfl, rfl⟩⟩
theorem Weak.virt {ms : List Nat} {t : Env} {h : Heap} (i e n : Nat) (hi : i ∈ ms) (hn : 0 < n) (ht : t i = .nil (.slice none 0 0)) :
  Weak C ms t h (upd t i (.hs h.length 0 0 0 true)) (h ++ [.row e n 0 []]) := by
 refine ⟨fun j hj => by simp only [upd]; rw [if_neg]; intro e; subst e; exact hj hi, fun B k S μ w a f r => ?_⟩
 obtain ⟨f', st⟩ := fits_virt f e n hn
 refine ⟨S, _, st, f', r.1, r.2.1, fun j hj => ?_⟩
 have hr := r.2.2 j hj
 simp only [upd]
 split
 ·rename_i e; subst e
  rw [ht] at hr
  generalize a.tmps.getD j undef = v at hr
  cases hr
  rw [← f.len]; exact rep_virt rfl rfl
 ·exact hr.mono st
def WkR (r s : AVal) : Prop := r.cells.length = s.cells.length ∧ ∀ (j : Nat) (c d : AVal), r.cells[j]? = some c → s.cells[j]? = some d → Wk c d ∧ (c.sto = true → d.sto = true)
theorem Weak.rows {ms : List Nat} {t : Env} {h : Heap} {p v e m : Nat} {rows : List AVal} (rows' : List AVal) (hg : getRow h p v = some (e, m, rows)) (hl : rows.length = rows'.length)
  (hw : ∀ (i : Nat) (r s : AVal), rows[i]? = some r → rows'[i]? = some s → WkR r s) : Weak C ms t h t (h.set p (.row e m v rows')) := by
 refine ⟨fun _ _ => rfl, fun B k S μ w a f r => ?_⟩
 have hh := getRow_some hg
 obtain ⟨mb, hm, rf⟩ := f.row hg
 have hset : List.set μ p mb = μ := by
  obtain ⟨hlt, he⟩ := List.getElem?_eq_some_iff.1 hm
  rw [← he, List.set_getElem_self]
 have at_ : ∀ (i : Nat) (s : AVal), rows'[i]? = some s → ∃ r, rows[i]? = some r ∧ WkR r s := by
  intro i s hi
  have hlt := (List.getElem?_eq_some_iff.1 hi).1
  exact ⟨_, List.getElem?_eq_getElem (by omega), hw i _ s (List.getElem?_eq_getElem (by omega)) hi⟩
 have cat : ∀ (r s : AVal) (j : Nat) (d : AVal), WkR r s → s.cells[j]? = some d → ∃ c, r.cells[j]? = some c ∧ Wk c d ∧ (c.sto = true → d.sto = true) := by
  intro r s j d hw hj
  have hlt := (List.getElem?_eq_some_iff.1 hj).1
  have hc := List.getElem?_eq_getElem (show j < r.cells.length by rw [hw.1]; exact hlt)
  exact ⟨_, hc, hw.2 j _ d hc hj⟩
 have key : BlkFits w S (List.set μ p mb) mb (.row e m v rows') := by
  rw [hset]
  refine ⟨rf.hver, rf.hsize, rf.pos, fun i s hi => ?_, fun i s j d hi hj => ?_, ?_⟩
  ·obtain ⟨r, h0, h1⟩ := at_ i s hi
   rw [← h1.1]; exact rf.lens i r h0
  ·obtain ⟨r, h0, h1⟩ := at_ i s hi
   obtain ⟨c, h2, _, h4⟩ := cat r s j d h1 hj
   exact h4 (rf.sto i r j c h0 h2)
  ·rcases rf.lies with ⟨h1, h2⟩ | ⟨b, cur, h1, h2, h3, h4, h5, h6⟩
   ·subst h2
    have : rows' = [] := List.length_eq_zero_iff.1 (by simpa using hl.symm)
    exact .inl ⟨h1, this⟩
   ·refine .inr ⟨b, cur, h1, h2, h3, by omega, h5, fun i s j d hi hj => ?_⟩
    obtain ⟨r, h0, h7⟩ := at_ i s hi
    obtain ⟨c, h8, h9, _⟩ := cat r s j d h7 hj
    obtain ⟨x, hx, hr⟩ := h6 i r j c h0 h8
    exact ⟨x, hx, h9 w S μ x hr⟩
 obtain ⟨f2, st2⟩ := f.update (m' := mb) (k' := .row e m v rows') hm (Only.refl w _) (Nat.le_refl _) (fun _ => rfl) (.inl rfl) key
 exact ⟨S, _, st2, f2, r.mono st2⟩
theorem Weak.virtRows {ms : List Nat} {t : Env} {h : Heap} {p v e m : Nat} {rows : List AVal} (rows' : List AVal) (e' n' : Nat) (hn : 0 < n') (hg : getRow h p v = some (e, m, rows)) (hl : rows'.length = rows.length)
  (at_ : ∀ (i : Nat) (r' : AVal), rows'[i]? = some r' → ∃ r0, rows[i]? = some r0 ∧ r'.cells.length = r0.cells.length ∧
    ∀ (q : Nat) (c : AVal), r'.cells[q]? = some c → (r0.cells[q]? = some c) ∨ (c = .hs h.length 0 0 0 true ∧ r0.cells[q]? = some (.nil (.slice none 0 0)))) :
  Weak C ms t h t (h.set p (.row e m v rows') ++ [.row e' n' 0 []]) := by
 refine ⟨fun _ _ => rfl, fun B k S μ w a f r => ?_⟩
 obtain ⟨f1, st1⟩ := fits_virt f e' n' hn
 have hh := getRow_some hg
 have hp := (List.getElem?_eq_some_iff.1 hh).1
 have hg1 : getRow (h ++ [.row e' n' 0 []]) p v = some (e, m, rows) := getRow_old hg
 obtain ⟨mb, hm, rf⟩ := f1.row hg1
 have key : BlkFits w S (List.set (μ ++ [(⟨none, 0, n', 0⟩ : MB)]) p mb) mb (.row e m v rows') := by
  have hset : List.set (μ ++ [(⟨none, 0, n', 0⟩ : MB)]) p mb = μ ++ [(⟨none, 0, n', 0⟩ : MB)] := by
   obtain ⟨hlt, he⟩ := List.getElem?_eq_some_iff.1 hm
   rw [← he, List.set_getElem_self]
  rw [hset]
  refine ⟨rf.hver, rf.hsize, rf.pos, fun i r' hi => ?_, fun i r' q c hi hc => ?_, ?_⟩
  ·obtain ⟨r0, h0, h1, _⟩ := at_ i r' hi
   rw [h1]; exact rf.lens i r0 h0
  ·obtain ⟨r0, h0, _, h2⟩ := at_ i r' hi
   rcases h2 q c hc with h3 | ⟨rfl, h3⟩
   ·exact rf.sto i r0 q c h0 h3
   ·rfl
  ·rcases rf.lies with ⟨h1, h2⟩ | ⟨b, cur, h1, h2, h3, h4, h5, h6⟩
   ·subst h2
    exact .inl ⟨h1, List.length_eq_zero_iff.1 (by simpa using hl)⟩
   ·refine .inr ⟨b, cur, h1, h2, h3, by omega, h5, fun i r' q c hi hc => ?_⟩
    obtain ⟨r0, h0, _, h7⟩ := at_ i r' hi
    rcases h7 q c hc with h8 | ⟨rfl, h8⟩
    ·exact h6 i r0 q c h0 h8
    ·obtain ⟨x, hx, hr⟩ := h6 i r0 q _ h0 h8
     refine ⟨x, hx, ?_⟩
     cases hr
     rw [← f.len]; exact rep_virt rfl rfl
 obtain ⟨f2, st2⟩ := f1.update (m' := mb) (k' := .row e m v rows') hm (Only.refl w _) (Nat.le_refl _) (fun _ => rfl) (.inl rfl) key
 rw [List.set_append_left _ _ hp] at f2
 exact ⟨S, _, st1.trans st2, f2, r.mono (st1.trans st2)⟩
theorem Weak.virtCell {ms : List Nat} {t : Env} {h : Heap} {p v e m : Nat} {cs : List AVal} (e' n' : Nat) (hn : 0 < n') (hg : getRow h p v = some (e, m, [.agg cs])) (j : Nat) (hj : cs[j]? = some (.nil (.slice none 0 0))) :
  Weak C ms t h t (h.set p (.row e m v [.agg (cs.set j (.hs h.length 0 0 0 true))]) ++ [.row e' n' 0 []]) := by
 refine Weak.virtRows _ e' n' hn hg rfl fun i r' hi => ?_
 match i with
 | 0 =>
  simp only [List.getElem?_cons_zero, Option.some.injEq] at hi
  subst hi
  refine ⟨_, rfl, by simp [AVal.cells], fun q c hc => ?_⟩
  simp only [AVal.cells] at hc ⊢
  by_cases hq : j = q
  ·subst hq
   rw [List.getElem?_set_self (List.getElem?_eq_some_iff.1 hj).1] at hc
   cases hc; exact .inr ⟨rfl, hj⟩
  ·rw [List.getElem?_set_ne hq] at hc; exact .inl hc
 | i + 1 => simp at hi
end
end Go.Av
namespace Go.Av
open Go.RowKit
section
variable {C : Ctx} {B n : Nat} {S : Addr → Prop} {μ : Map} {h : Heap} {w w' : World} {t : Env} {a : Act} {K : AVal → Heap → Prop}
theorem Fits.grown (f : Fits C B S μ h w) (b : Below w.heap.size w w') : Fits C B S μ h w' ∧ Step B S μ w S μ w' := by
 have hk : ∀ k, k < w.heap.size → w'.heap[k]? = w.heap[k]? := fun k hk => b.block k hk
 have st : Step B S μ w S μ w' := ⟨fun _ ha => ha, fun a ha => World.cell?_of_block (hk _ (f.lie a ha)), b.mono f.base, MapLe.refl _, fun _ ha => .inl ha⟩
 exact ⟨⟨fun g cs hg => (f.glob g cs hg).mono st, f.len, f.sep, fun p m k h1 e1 => by
  obtain ⟨a1, a2, a3⟩ := f.own p m k h1 e1
  exact ⟨a1, Nat.lt_of_lt_of_le a2 b.size, a3⟩, Nat.le_trans f.base b.size, fun a ha => Nat.lt_of_lt_of_le (f.lie a ha) b.size,
  fun p m k h1 h2 => (f.blk p m k h1 h2).mono st fun q hq => hk q (f.own p m q h1 hq).2.1⟩, st⟩
theorem rowsK_sl {T len e n : Nat} {idx : List Nat} {xs : List AVal} {k : AVal → Heap → Prop} (he : elmT C.P T = some e) (hn : szOf C.P e = some n) (hz : (zroT C.P e).map (fun z => (z.cells.length, z.cells.all AVal.sto)) = some (n, true))
  (hl : xs.length = len) (h0 : 0 < len) (h1 : 0 < n) (hb : len * n ≤ 16777216) (hi : idx = List.range len) (hx : xs.all (fun x => decide (x.cells.length = n) && x.lies) = true) (hk : k (.sl n xs) h) : rowsK C T len idx xs h k := by
 unfold rowsK
 rw [he, need_eq, hn, need_eq, if_neg (by omega)]
 refine ⟨hl, h0, h1, hb, hi, hz, fun x hm => ?_, .inr hk⟩
 have := List.all_eq_true.1 hx x hm
 simpa using this
theorem rowsK_hs {T len e n : Nat} {idx : List Nat} {xs : List AVal} {k : AVal → Heap → Prop} (he : elmT C.P T = some e) (hn : szOf C.P e = some n) (hz : (zroT C.P e).map (fun z => (z.cells.length, z.cells.all AVal.sto)) = some (n, true))
  (hl : xs.length = len) (h0 : 0 < len) (h1 : 0 < n) (hb : len * n ≤ 16777216) (hi : idx = List.range len) (hx : xs.all (fun x => decide (x.cells.length = n) && x.lies) = true) (hk : k (.hs h.length 0 0 len true) (h ++ [.row e n 0 xs])) : rowsK C T len idx xs h k := by
 unfold rowsK
 rw [he, need_eq, hn, need_eq, if_neg (by omega)]
 refine ⟨hl, h0, h1, hb, hi, hz, fun x hm => ?_, .inl hk⟩
 have := List.all_eq_true.1 hx x hm
 simpa using this
theorem rowsV_sl {T len e n : Nat} {idx : List Nat} {xs : List AVal} {k : AVal → Prop} (he : elmT C.P T = some e) (hn : szOf C.P e = some n) (hz : (zroT C.P e).map (fun z => (z.cells.length, z.cells.all AVal.sto)) = some (n, true))
  (hl : xs.length = len) (h0 : 0 < len) (h1 : 0 < n) (hb : len * n ≤ 16777216) (hi : idx = List.range len) (hx : xs.all (fun x => decide (x.cells.length = n) && x.lies) = true) (hk : k (.sl n xs)) : rowsV C T len idx xs k := by
 unfold rowsV
 rw [he, need_eq, hn, need_eq, if_neg (by omega)]
 refine ⟨hl, h0, h1, hb, hi, hz, fun x hm => ?_, hk⟩
 have := List.all_eq_true.1 hx x hm
 simpa using this
def plainV : AVal → Option Value
 | .int k n => some (.int k n)
 | .bool b => some (.bool b)
 | .str s => some (.string ⟨s.toArray⟩)
 | _ => none
def plainL : List AVal → Option (List Value)
 | [] => some []
 | x :: l => match plainV x, plainL l with | some v, some vs => some (v :: vs) | _, _ => none
theorem plainV_rep {x : AVal} {v u : Value} (g : plainV x = some v) (r : Rep w S μ x u) : u = v := by
 unfold plainV at g
 split at g
 ·cases g; exact r.int_inv
 ·cases g; exact r.bool_inv
 ·cases g; exact r.str_inv
 ·cases g
theorem plainV_mk {x : AVal} {v : Value} (g : plainV x = some v) : Rep w S μ x v := by
 unfold plainV at g
 split at g
 ·cases g; exact .int _ _
 ·cases g; exact .bool _
 ·cases g; exact .str _
 ·cases g
theorem plainL_rep : ∀ {xs : List AVal} {vs us : List Value}, plainL xs = some vs → RepL w S μ xs us → us = vs
 | [], vs, us, g, r => by
  cases g
  have h1 := r.1
  simpa using h1
 | x :: l, vs, us, g, r => by
  unfold plainL at g
  split at g
  ·rename_i v vs' h1 h2
   cases g
   obtain ⟨hl, hr⟩ := r
   match us, hl, hr with
   | u :: us, hl, hr =>
    have e1 := plainV_rep h1 (by simpa using hr 0 x rfl)
    have e2 := plainL_rep (us := us) h2 ⟨by simpa using hl, fun i y hi => by simpa using hr (i + 1) y (by simpa using hi)⟩
    rw [e1, e2]
  ·cases g
theorem plainL_mk (w : World) (S : Addr → Prop) (μ : Map) : ∀ {xs : List AVal} {vs : List Value}, plainL xs = some vs → RepL w S μ xs vs
 | [], vs, g => by cases g; exact ⟨rfl, fun i x hi => by simp at hi⟩
 | x :: l, vs, g => by
  unfold plainL at g
  split at g
  ·rename_i v vs' h1 h2
   cases g
   have ih := plainL_mk w S μ h2
   refine ⟨by simp [ih.1], fun i y hi => ?_⟩
   match i with
   | 0 => simp at hi; subst hi; simpa using plainV_mk h1
   | i + 1 => simpa using ih.2 i y (by simpa using hi)
  ·cases g
def plainR : AVal → Option Value
 | .tup l => (plainL l).map fun vs => .tuple vs.toArray
 | x => plainV x
theorem plainR_mk {x : AVal} {v : Value} (g : plainR x = some v) : Rep w S μ x v := by
 unfold plainR at g
 split at g
 ·obtain ⟨vs, hv, rfl⟩ := Option.map_eq_some_iff.1 g
  have := plainL_mk w S μ hv
  exact .tup _ vs this.1 this.2
 ·exact plainV_mk g
theorem Sat.of_calls {f : FuncId} {fn : Func} {args : List AVal} {vs : List Value} {r : AVal} {v : Value} (hf : C.P.funcs[f]? = some fn) (hb : fn.body.isNone = false) (hname : (fn.name == "runtime.NumGoroutine") = false)
  (ha : plainL args = some vs) (hr : plainR r = some v) (hc : ∀ B S μ w, Fits C B S μ h w → Calls C.P f vs.toArray w fun e w' => e = .returned v ∧ Below w.heap.size w w') : Sat C f args h (fun r' h' => r' = r ∧ h' = h) := by
 intro B S μ w us fit rl
 obtain rfl := plainL_rep ha rl
 have e : (callFunc f us.toArray).run C.P w = .ok (.enter f us.toArray) w := by
  have hne : fn.name ≠ "runtime.NumGoroutine" := by simpa using hname
  obtain ⟨c, hbc⟩ : ∃ c, fn.body = some c := by cases hq : fn.body with | none => simp [hq] at hb | some c => exact ⟨c, rfl⟩
  simp [callFunc, hf, hne, hbc]
 rw [e]
 refine (hc B S μ w fit).mono fun e' w' ⟨he, hw⟩ => ⟨v, he, ?_⟩
 obtain ⟨f', st⟩ := fit.grown hw
 exact ⟨r, h, S, μ, ⟨rfl, rfl⟩, st, f', plainR_mk hr⟩
theorem Sat.of_extern {f : FuncId} {fn : Func} {ex : Array Value → Sem Value} {args : List AVal} {R : AVal → Heap → Prop} (hf : C.P.funcs[f]? = some fn) (hname : (fn.name == "runtime.NumGoroutine") = false)
  (hb : fn.body.isNone = true) (hn : Extern.findNext fn = none) (he : Extern.find fn = some ex)
  (hc : ∀ B S μ w vs, Fits C B S μ h w → RepL w S μ args vs → ∃ v w', (ex vs.toArray).run C.P w = .ok v w' ∧ OpPost C B S μ w R v w') : Sat C f args h R := by
 intro B S μ w vs fit rl
 obtain ⟨v, w', hr, hp⟩ := hc B S μ w vs fit rl
 rw [run_callFunc_extern hf hname hb hn he]
 simp [Sem.run_bind, hr]
 exact hp
theorem Fin.plainE {h0 h1 j : Heap} {R : AVal → Heap → Prop} {r : AVal} (hh : h1 = h0 ++ j) (hc : Clo h0.length r) (hR : R r h0) : Fin h0 h1 R r := by
 subst hh; exact Fin.plain hc hR
theorem Fin.keep {h0 h1 j : Heap} {R : AVal → Heap → Prop} {r : AVal} (hl : h1.length = h0.length) (hk : ∀ (p : Nat) (k : Blk), h1[p]? = some k → h0[p]? = some k ∨ CloB h0.length k) (hc : Clo h0.length r) (hR : R r h1) : Fin h0 (h1 ++ j) R r := by
 refine ⟨h0.length, r, Nat.le_refl _, .clo _ hc, .inr fun p k hp h2 => ?_, by rw [List.take_left' hl]; exact hR⟩
 rw [List.getElem?_append_left (by omega)] at h2
 rcases hk p k h2 with h3 | h3
 ·exact .inl ⟨hp, h3⟩
 ·exact .inr h3
theorem Fin.keep0 {h0 h1 : Heap} {R : AVal → Heap → Prop} {r : AVal} (hl : h1.length = h0.length) (hk : ∀ (p : Nat) (k : Blk), h1[p]? = some k → h0[p]? = some k ∨ CloB h0.length k) (hc : Clo h0.length r) (hR : R r h1) : Fin h0 h1 R r := by
 have := Fin.keep (j := []) hl hk hc hR
 simpa using this
theorem Fin.keepF {h0 h1 j : Heap} {R : AVal → Heap → Prop} {r0 r : AVal} (hl : h1.length = h0.length) (hk : ∀ (p : Nat) (k : Blk), h1[p]? = some k → h0[p]? = some k ∨ CloB h0.length k) (hc : Frz (h1 ++ j) h0.length r0 r) (hR : R r h1) : Fin h0 (h1 ++ j) R r0 := by
 refine ⟨h0.length, r, Nat.le_refl _, hc, .inr fun p k hp h2 => ?_, by rw [List.take_left' hl]; exact hR⟩
 rw [List.getElem?_append_left (by omega)] at h2
 rcases hk p k h2 with h3 | h3
 ·exact .inl ⟨hp, h3⟩
 ·exact .inr h3
theorem Fin.keepE {h0 h1 h2 j : Heap} {R : AVal → Heap → Prop} {r : AVal} (hh : h2 = h1 ++ j) (hl : h1.length = h0.length) (hk : ∀ (p : Nat) (k : Blk), h1[p]? = some k → h0[p]? = some k ∨ CloB h0.length k) (hc : Clo h0.length r) (hR : R r h1) : Fin h0 h2 R r := by
 subst hh; exact Fin.keep hl hk hc hR
end
end Go.Av
namespace Go.Av
open Go.RowKit
section
variable (C : Ctx)
def loadX (T : TypeId) (x : AVal) (h : Heap) : Option AVal := match x with
 | .ad cs => pickT C.P T cs
 | .hp p ver i off => match getRow h p ver with
  | some (_, _, rows) => match rows[i]? with
   | some r => pickT C.P T (r.cells.drop off)
   | none => none
  | none => none
 | _ => none
def nilX (x : AVal) (h : Heap) : Option AVal := match x with
 | .hp p ver i off => if (getRow h p ver).isSome = true then some (.hp p ver i off) else none
 | .ad cs => some (.ad cs)
 | .fn (.func f) a b => some (.fn (.func f) a b)
 | .ifc T v => some (.ifc T v)
 | _ => none
def binX (h : Heap) (op : BinOp) (T : TypeId) (x y : AVal) : Option AVal := match x, y with
 | .sl _ [], .nil (.slice none 0 0) => none
 | x, y => abin C.P h op T x y
def convX (src dst : TypeId) (x : AVal) (h : Heap) : Option AVal := match x with
 | .hp p ver 0 0 => match getRow h p ver with
  | some (e, n, rows) => match rows with
   | [] => none
   | _ :: _ => if ptrConv C.P src dst e n = true then some (.hp p ver 0 0) else none
  | none => none
 | .hs p v o l r => if bytesStr C.P src dst = true then match elemsOf h 1 (.hs p v o l r) with
  | some ys => match bytesA ys with | some bs => some (.str bs) | none => none
  | none => none else none
 | .int k n => aconv C.P src dst (.int k n)
 | .str s => aconv C.P src dst (.str s)
 | _ => none
def fieldAX (T : TypeId) (f : Nat) (x : AVal) (h : Heap) : Option AVal := match fOff C.P T f with
 | some (o, _, n) => if n = 0 then none else match x with
  | .hp p ver i off => if (getRow h p ver).isSome = true then some (.hp p ver i (off + o)) else none
  | .ad cs => if o < cs.length then some (.ad (cs.drop o)) else none
  | _ => none
 | none => none
def fieldX (T : TypeId) (f : Nat) (x : AVal) : Option AVal := match fOff C.P T f with
 | some (o, fT, _) => match x with
  | .agg cs => pickT C.P fT (cs.drop o)
  | _ => none
 | none => none
def indexAX (T : TypeId) (x i : AVal) (h : Heap) : Option AVal := match i with
 | .int _ n => if 0 ≤ n then match x with
  | .sl m es => match elmT C.P T with
   | some e => if szOf C.P e = some m ∧ 0 < m then match es[n.toNat]? with
    | some r => some (.ad r.cells)
    | none => none else none
   | none => none
  | .hs p ver off len _ => match elmT C.P T, getRow h p ver with
   | some e, some (_, m, _) => if szOf C.P e = some m ∧ n < len then some (.hp p ver (off + n.toNat) 0) else none
   | _, _ => none
  | .hp p ver j off => match arrT C.P T with
   | some (k, e) => match szOf C.P e with
    | some m => if (getRow h p ver).isSome = true ∧ n < k then some (.hp p ver j (off + n.toNat * m)) else none
    | none => none
   | none => none
  | .ad cs => match arrT C.P T with
   | some (k, e) => match szOf C.P e with
    | some m => if n < k ∧ n.toNat * m < cs.length then some (.ad (cs.drop (n.toNat * m))) else none
    | none => none
   | none => none
  | _ => none else none
 | _ => none
def indexX (T : TypeId) (x i : AVal) : Option AVal := match i with
 | .int _ n => if 0 ≤ n then match x with
  | .str s => if strT C.P T = true then match s[n.toNat]? with
   | some b => some (.int .u8 b.toNat)
   | none => none else none
  | .agg cs => match arrT C.P T with
   | some (k, e) => match szOf C.P e with
    | some m => if n < k then pickT C.P e (cs.drop (n.toNat * m)) else none
    | none => none
   | none => none
  | _ => none else none
 | _ => none
def buildX (T : TypeId) (parts : List (Nat × AVal)) : Option AVal := match zroT C.P T with
 | some z => if z.cells.all AVal.sto = true then match nFld C.P T with
  | some _ => match fillA (fun i => (fOff C.P T i).map fun q => (q.1, q.2.2)) z.cells parts with
   | some cs => some (.agg cs)
   | none => none
  | none => match arrT C.P T with
   | some (_, e) => match szOf C.P e with
    | some n => match fillA (fun i => some (i * n, n)) z.cells parts with
     | some cs => some (.agg cs)
     | none => none
    | none => none
   | none => none else none
 | none => none
def callPX (c : Call) (ρ : Operand → AVal) (h : Heap) : Option AVal := match c.callee with
 | .builtin .len => match c.args.toList, c.argTypes.toList with
  | [x], [T] => match alen C.P h T (ρ x) with | some n => some (.int .i64 n) | none => none
  | _, _ => none
 | .builtin .max => match c.args.toList with
  | [x, y] => match ρ x, ρ y with | .int kd a, .int _ b => some (.int kd (if b > a then b else a)) | _, _ => none
  | _ => none
 | .builtin .min => match c.args.toList with
  | [x, y] => match ρ x, ρ y with | .int kd a, .int _ b => some (.int kd (if b < a then b else a)) | _, _ => none
  | _ => none
 | .builtin .unsafeSliceData => match c.args.toList with
  | [x] => match ρ x with
   | .hs p ver 0 len true => if (getRow h p ver).isSome = true then (if 0 < len then some (.hp p ver 0 0) else some .pa) else none
   | .nil (.slice none 0 0) => some .pa
   | _ => none
  | _ => none
 | _ => none
def pureX (o : Op) (t : Env) (h : Heap) : Option AVal :=
 let ρ := aev C.G t
 match o with
 | .move x => some (ρ x)
 | .assign x => some (ρ x)
 | .pick c a b => match ρ c with | .bool true => some (ρ a) | .bool false => some (ρ b) | _ => none
 | .load T x => loadX C T (ρ x) h
 | .nilCheck x => nilX (ρ x) h
 | .binOp op T x y _ => binX C h op T (ρ x) (ρ y)
 | .unOp op _ x => aun op (ρ x)
 | .convert s d x => convX C s d (ρ x) h
 | .makeInterface T x => if ifcT C.P T = some false then some (.ifc T (ρ x)) else none
 | .makeFunc f first captured => some (.fn f (first.toList.map ρ) (captured.toList.map ρ))
 | .slice T x lo hi mx => aslice C.P h T (ρ x) (lo.map ρ) (hi.map ρ) (mx.map ρ)
 | .fieldAddr T x f => fieldAX C T f (ρ x) h
 | .field T x f => fieldX C T f (ρ x)
 | .indexAddr T x i => indexAX C T (ρ x) (ρ i) h
 | .index T x i => indexX C T (ρ x) (ρ i)
 | .extract x i => match ρ x with | .tup vs => vs[i]? | _ => none
 | .build T parts => buildX C T (parts.toList.map fun q => (q.1, ρ q.2))
 | .call c => callPX C c ρ h
 | _ => none
variable {C} {t : Env} {h : Heap}
theorem need_of {α : Type} {x : Option α} {a : α} {f : α → Prop} (e : x = some a) (h : f a) : need x f := by rw [e]; exact h
theorem loadX_ok {T : TypeId} {x v : AVal} (g : loadX C T x h = some v) {k : AVal → Prop} (hk : k v) : loadK C T x h k := by
 unfold loadX at g; unfold loadK
 split at g
 ·exact need_of g hk
 ·split at g
  ·rename_i hq
   split at g
   ·rename_i hr
    exact need_of hq (need_of hr (need_of g hk))
   ·cases g
  ·cases g
 ·cases g
theorem binX_ok {op : BinOp} {T : TypeId} {x y v : AVal} (g : binX C h op T x y = some v) {k : AVal → Prop} (hk : k v) : binK C.P h op T x y k := by
 unfold binX at g
 split at g
 ·cases g
 ·rename_i hne
  rw [binK_of fun n e1 e2 => hne n e1 e2]
  exact need_of g hk
theorem convX_ok {s d : TypeId} {x v : AVal} (g : convX C s d x h = some v) {k : AVal → Prop} (hk : k v) : convK C.P s d x h k := by
 unfold convX at g
 split at g
 ·split at g
  ·rename_i hq
   split at g
   ·cases g
   ·split at g
    ·rename_i hp; cases g
     exact need_of hq ⟨hp, by simp, hk⟩
    ·cases g
  ·cases g
 ·split at g
  ·rename_i hb
   split at g
   ·rename_i hy
    split at g
    ·rename_i hz
     cases g
     exact ⟨hb, need_of hy (need_of hz hk)⟩
    ·cases g
   ·cases g
  ·cases g
 ·exact need_of g hk
 ·exact need_of g hk
 ·cases g
theorem pureX_ok {o : Op} {v : AVal} (g : pureX C o t h = some v) {K : AVal → Heap → Prop} (hk : K v h) : wpOp C o t h K := by
 cases o with
 | move x => simp only [pureX, Option.some.injEq] at g; subst g; exact hk
 | assign x => simp only [pureX, Option.some.injEq] at g; subst g; exact hk
 | pick c a b =>
  simp only [pureX] at g
  unfold wpOp; simp only []
  split at g
  ·rename_i e; cases g; rw [e]; exact And.intro (fun _ => hk) (fun e => Bool.noConfusion e)
  ·rename_i e; cases g; rw [e]; exact And.intro (fun e => Bool.noConfusion e) (fun _ => hk)
  ·cases g
 | load T x =>
  have := loadX_ok (k := fun v => K v h) g hk
  unfold loadK at this; unfold wpOp; simp only []
  exact this
 | nilCheck x =>
  simp only [pureX, nilX] at g
  unfold wpOp; simp only []
  split at g
  ·rename_i e; rw [e]
   split at g
   ·rename_i e2; cases g; exact ⟨e2, hk⟩
   ·cases g
  ·rename_i e; rw [e]; cases g; exact hk
  ·rename_i e; rw [e]; cases g; exact hk
  ·rename_i e; rw [e]; cases g; exact hk
  ·cases g
 | binOp op T x y _ => exact binX_ok (k := fun v => K v h) g hk
 | unOp op _ x => exact need_of g hk
 | convert s d x => exact convX_ok (k := fun v => K v h) g hk
 | makeInterface T x =>
  simp only [pureX] at g
  split at g
  ·rename_i e; cases g; exact ⟨e, hk⟩
  ·cases g
 | makeFunc f a b => simp only [pureX, Option.some.injEq] at g; subst g; exact hk
 | slice T x lo hi mx => exact need_of g hk
 | fieldAddr T x f =>
  simp only [pureX, fieldAX] at g
  unfold wpOp; simp only []
  split at g
  ·rename_i e
   split at g
   ·cases g
   ·rename_i hn
    refine need_of e ⟨hn, ?_⟩
    split at g
    ·rename_i e; rw [e]
     split at g
     ·rename_i e2; cases g; exact ⟨e2, hk⟩
     ·cases g
    ·rename_i e; rw [e]
     split at g
     ·rename_i e2; cases g; exact ⟨e2, hk⟩
     ·cases g
    ·cases g
  ·cases g
 | field T x f =>
  simp only [pureX, fieldX] at g
  unfold wpOp; simp only []
  split at g
  ·rename_i e
   refine need_of e ?_
   split at g
   ·rename_i e; rw [e]; exact need_of g hk
   ·cases g
  ·cases g
 | indexAddr T x i =>
  simp only [pureX, indexAX] at g
  unfold wpOp; simp only []
  split at g
  ·rename_i ei; rw [ei]; simp only []
   split at g
   ·rename_i h0
    split at g
    ·rename_i e; rw [e]; simp only []
     split at g
     ·rename_i he
      split at g
      ·rename_i hs
       split at g
       ·rename_i hr; cases g; exact need_of he ⟨hs.1, h0, hs.2, need_of hr hk⟩
       ·cases g
      ·cases g
     ·cases g
    ·rename_i e; rw [e]; simp only []
     split at g
     ·rename_i he hr
      split at g
      ·rename_i hs; cases g; exact need_of he (need_of hr ⟨hs.1, h0, hs.2, hk⟩)
      ·cases g
     ·cases g
    ·rename_i e; rw [e]; simp only []
     split at g
     ·rename_i he
      split at g
      ·rename_i hs
       split at g
       ·rename_i hc; cases g; exact need_of he (need_of hs ⟨hc.1, h0, hc.2, hk⟩)
       ·cases g
      ·cases g
     ·cases g
    ·rename_i e; rw [e]; simp only []
     split at g
     ·rename_i he
      split at g
      ·rename_i hs
       split at g
       ·rename_i hc; cases g; exact need_of he (need_of hs ⟨h0, hc.1, hc.2, hk⟩)
       ·cases g
      ·cases g
     ·cases g
    ·cases g
   ·cases g
  ·cases g
 | index T x i =>
  simp only [pureX, indexX] at g
  unfold wpOp; simp only []
  split at g
  ·rename_i ei; rw [ei]; simp only []
   split at g
   ·rename_i h0
    split at g
    ·rename_i e; rw [e]; simp only []
     split at g
     ·rename_i he
      split at g
      ·rename_i hr; cases g; exact ⟨he, h0, need_of hr hk⟩
      ·cases g
     ·cases g
    ·rename_i e; rw [e]; simp only []
     split at g
     ·rename_i he
      split at g
      ·rename_i hs
       split at g
       ·rename_i hc; exact need_of he (need_of hs ⟨h0, hc, need_of g hk⟩)
       ·cases g
      ·cases g
     ·cases g
    ·cases g
   ·cases g
  ·cases g
 | extract x i =>
  simp only [pureX] at g
  unfold wpOp; simp only []
  split at g
  ·rename_i e; rw [e]; exact need_of g hk
  ·cases g
 | build T parts =>
  simp only [pureX, buildX] at g
  unfold wpOp; simp only []
  split at g
  ·rename_i hz
   split at g
   ·rename_i ha
    refine need_of hz ⟨ha, ?_⟩
    split at g
    ·rename_i hn; rw [hn]; simp only []
     split at g
     ·rename_i hf; cases g; exact need_of hf hk
     ·cases g
    ·rename_i hn; rw [hn]
     split at g
     ·rename_i hr; rw [hr]; simp only []
      split at g
      ·rename_i hs
       split at g
       ·rename_i hf; cases g; exact need_of hs (need_of hf hk)
       ·cases g
      ·cases g
     ·cases g
   ·cases g
  ·cases g
 | call c =>
  simp only [pureX, callPX] at g
  unfold wpOp; simp only []
  unfold wpCall; simp only []
  split at g
  ·rename_i hc; rw [hc]; simp only []
   split at g
   ·rename_i h1 h2; rw [h1, h2]; simp only []
    split at g
    ·rename_i hn; cases g; exact need_of hn hk
    ·cases g
   ·cases g
  ·rename_i hc; rw [hc]; simp only []
   split at g
   ·rename_i h1; rw [h1]; simp only []
    split at g
    ·rename_i e1 e2; cases g; rw [e1, e2]; unfold maxK; simp only [decide_eq_true_eq]; exact hk
    ·cases g
   ·cases g
  ·rename_i hc; rw [hc]; simp only []
   split at g
   ·rename_i h1; rw [h1]; simp only []
    split at g
    ·rename_i e1 e2; cases g; rw [e1, e2]; unfold maxK; simp only [decide_eq_true_eq]; exact hk
    ·cases g
   ·cases g
  ·rename_i hc; rw [hc]; simp only []
   split at g
   ·rename_i h1; rw [h1]; simp only []
    split at g
    ·rename_i e1; rw [e1]; unfold sdataK; simp only []
     split at g
     ·rename_i hs
      refine ⟨hs, ?_⟩
      split at g
      ·rename_i hl; cases g; rw [if_pos hl]; exact hk
      ·rename_i hl; cases g; rw [if_neg hl]; exact hk
     ·cases g
    ·rename_i e1; rw [e1]; cases g; exact hk
    ·cases g
   ·cases g
  ·cases g
 | _ => cases g
end
end Go.Av
namespace Go.Av
open Go.RowKit
abbrev CallX := FuncId → List AVal → Heap → Option (AVal × Heap)
section
variable (C : Ctx)
def roomyB (n bytes : Nat) : Bool := decide (n ≤ maxLen) && decide (n * bytes ≤ 140737488355328)
def appX (T : TypeId) (x y : AVal) (h : Heap) : Option (AVal × Heap) := match elmT C.P T with
 | none => none
 | some e => match szOf C.P e with
  | none => none
  | some n => match byT C.P e with
   | none => none
   | some by' => match elemsOf h n y with
    | none => none
    | some ys => if 0 < n ∧ (zroT C.P e).map (fun z => z.cells.length) = some n then match x with
     | .nil (.slice none 0 0) => if roomyB ys.length by' = true then some (.hs h.length 0 0 ys.length true, h ++ [.row e n 0 ys]) else none
     | .hs p ver off len room => match getRow h p ver with
      | some (e', m, rows) => if e' = e ∧ m = n ∧ off = 0 ∧ roomyB (len + ys.length) by' = true then
        (if room = true then (if len = rows.length then some (.hs p (ver + 1) 0 (len + ys.length) true, h.set p (.row e n (ver + 1) (rows ++ ys))) else none)
        else (if 0 < ys.length ∧ len ≤ rows.length then some (.hs h.length 0 0 (len + ys.length) true, h ++ [.row e n 0 (rows.take len ++ ys)]) else none)) else none
      | none => none
     | .ez => if ys = [] then some (.ez, h) else if roomyB ys.length by' = true then some (.hs h.length 0 0 ys.length true, h ++ [.row e n 0 ys]) else none
     | _ => none else none
def ustrX (T : TypeId) (x n : AVal) (h : Heap) : Option (AVal × Heap) := match n with
 | .int .i64 m => if m = 0 then (match x with | .pa => some (.str [], h) | _ => none)
  else match x with
   | .hp p ver 0 0 => match getRow h p ver with
    | some (e, k, rows) => if k = 1 ∧ bptr C.P T e = true ∧ 0 < m ∧ m.toNat ≤ rows.length then match bytesA (rows.take m.toNat) with
     | some bs => some (.str bs, h.set p .dead)
     | none => none else none
    | none => none
   | _ => none
 | _ => none
def rowsX (T len : Nat) (idx : List Nat) (xs : List AVal) (h : Heap) : Option (AVal × Heap) := match elmT C.P T with
 | none => none
 | some e => match szOf C.P e with
  | none => none
  | some n => if len = 0 then (if idx.length = 0 then some (.ez, h) else none)
   else if idx.length = len ∧ 0 < n ∧ len * n ≤ 16777216 ∧ idx = List.range len ∧ (zroT C.P e).map (fun z => (z.cells.length, z.cells.all AVal.sto)) = some (n, true) ∧
    xs.all (fun x => decide (x.cells.length = n) && x.lies) = true then some (.hs h.length 0 0 len true, h ++ [.row e n 0 xs]) else none
def storeX (T : TypeId) (x y : AVal) (h : Heap) : Option (AVal × Heap) := match x with
 | .hp p ver i off => match getRow h p ver with
  | some (e, n, rows) => match rows[i]? with
   | some r => if szOf C.P T = some y.cells.length ∧ y.lies = true ∧ off + y.cells.length ≤ n then some (undefA, h.set p (.row e n ver (rows.set i (putA r off y.cells)))) else none
   | none => none
  | none => none
 | _ => none
def nextX (x : AVal) (isS : Bool) (h : Heap) : Option (AVal × Heap) := match x with
 | .hp p 0 0 0 => if isS = true then match h[p]? with
  | some (.iter s pos) => if pos < s.length then some (.tup [.bool true, .int .i64 pos, .int .i32 (Utf8.decode ⟨s.toArray⟩ pos).1], h.set p (.iter s (pos + (Utf8.decode ⟨s.toArray⟩ pos).2))) else some (.tup [.bool false], h)
  | _ => none else none
 | _ => none
def opX (call : CallX) (o : Op) (t : Env) (h : Heap) : Option (AVal × Heap) :=
 match pureX C o t h with
 | some v => some (v, h)
 | none =>
 let ρ := aev C.G t
 match o with
 | .alloc e => match zroT C.P e with
  | some z => if 0 < z.cells.length ∧ z.cells.all AVal.sto = true ∧ z.lies = true then some (.hp h.length 0 0 0, h ++ [.row e z.cells.length 0 [z]]) else none
  | none => none
 | .box e x => if 0 < (ρ x).cells.length ∧ (ρ x).lies = true then some (.hp h.length 0 0 0, h ++ [.row e (ρ x).cells.length 0 [ρ x]]) else none
 | .buildSlice T len parts => rowsX C T len (parts.toList.map (·.1)) (parts.toList.map fun q => ρ q.2) h
 | .store T x y => storeX C T (ρ x) (ρ y) h
 | .range T x => match ρ x with
  | .str s => if strT C.P T = true then some (.hp h.length 0 0 0, h ++ [.iter s 0]) else none
  | _ => none
 | .next x b => nextX (ρ x) b h
 | .call c => match c.callee with
  | .builtin .append => match c.args.toList, c.argTypes.toList with
   | [x, y], [T, T'] => if T' = T ∨ strT C.P T' = true then appX C T (ρ x) (ρ y) h else none
   | _, _ => none
  | .builtin .unsafeString => match c.args.toList, c.argTypes.toList with
   | [x, n], [T, _] => ustrX C T (ρ x) (ρ n) h
   | _, _ => none
  | .value f => match ρ f with
   | .fn (.func g) first captured => call g (first ++ c.args.toList.map ρ ++ captured) h
   | _ => none
  | _ => none
 | _ => none
variable {C} {t : Env} {h h' : Heap} {call : CallX}
theorem roomyB_ok {n b : Nat} (g : roomyB n b = true) : roomy n b := by
 simpa [roomyB, roomy] using g
theorem appX_ok {T : TypeId} {x y v : AVal} (g : appX C T x y h = some (v, h')) {K : AVal → Heap → Prop} (hk : K v h') : wpAppend C.P T x y h K := by
 unfold appX at g; unfold wpAppend
 split at g
 ·cases g
 ·rename_i e he
  refine need_of he ?_
  split at g
  ·cases g
  ·rename_i n hn
   refine need_of hn ?_
   split at g
   ·cases g
   ·rename_i b hb
    refine need_of hb ?_
    split at g
    ·cases g
    ·rename_i ys hy
     refine need_of hy ?_
     split at g
     ·rename_i hc
      refine ⟨hc.1, hc.2, ?_⟩
      split at g
      ·simp only []
       split at g
       ·rename_i hr; cases g; exact ⟨roomyB_ok hr, hk⟩
       ·cases g
      ·simp only []
       split at g
       ·rename_i hq
        refine need_of hq ?_
        split at g
        ·rename_i hs
         refine ⟨hs.1, hs.2.1, hs.2.2.1, roomyB_ok hs.2.2.2, ?_⟩
         split at g
         ·rename_i hr; rw [if_pos hr]
          split at g
          ·rename_i hl; cases g; exact ⟨hl, hk⟩
          ·cases g
         ·rename_i hr; rw [if_neg hr]
          split at g
          ·rename_i hl; cases g; exact ⟨hl.1, hl.2, hk⟩
          ·cases g
        ·cases g
       ·cases g
      ·simp only []
       split at g
       ·rename_i hz; rw [if_pos hz]; cases g; exact hk
       ·rename_i hz; rw [if_neg hz]
        split at g
        ·rename_i hr; cases g; exact ⟨roomyB_ok hr, hk⟩
        ·cases g
      ·cases g
     ·cases g
theorem ustrX_ok {T : TypeId} {x y v : AVal} (g : ustrX C T x y h = some (v, h')) {K : AVal → Heap → Prop} (hk : K v h') : ustrK C.P T x y h K := by
 unfold ustrX at g; unfold ustrK
 split at g
 ·simp only []
  split at g
  ·rename_i hm; rw [if_pos hm]
   split at g
   ·cases g; exact hk
   ·cases g
  ·rename_i hm; rw [if_neg hm]
   split at g
   ·simp only []
    split at g
    ·rename_i hq
     refine need_of hq ?_
     split at g
     ·rename_i hs
      split at g
      ·rename_i hb; cases g; exact ⟨hs.1, hs.2.1, hs.2.2.1, hs.2.2.2, need_of hb hk⟩
      ·cases g
     ·cases g
    ·cases g
   ·cases g
 ·cases g
theorem opX_ok (hcall : ∀ f args h r h', call f args h = some (r, h') → Sat C f args h fun r2 h2 => r2 = r ∧ h2 = h') {o : Op} {v : AVal} (g : opX C call o t h = some (v, h')) {K : AVal → Heap → Prop} (hk : K v h') : wpOp C o t h K := by
 unfold opX at g
 split at g
 ·rename_i hp; cases g; exact pureX_ok hp hk
 ·rename_i hp
  clear hp
  cases o with
  | alloc e =>
   simp only [] at g
   unfold wpOp; simp only []
   split at g
   ·rename_i hz
    split at g
    ·rename_i hs; cases g; exact need_of hz ⟨hs.1, hs.2.1, hs.2.2, hk⟩
    ·cases g
   ·cases g
  | box e x =>
   simp only [] at g
   unfold wpOp; simp only []
   split at g
   ·rename_i hs; cases g; exact ⟨hs.1, hs.2, hk⟩
   ·cases g
  | buildSlice T len parts =>
   simp only [rowsX] at g
   unfold wpOp; simp only []
   split at g
   ·cases g
   ·rename_i he
    refine need_of he ?_
    split at g
    ·cases g
    ·rename_i hn
     refine need_of hn ?_
     split at g
     ·rename_i h0; rw [if_pos h0]
      split at g
      ·rename_i hp; cases g; exact ⟨by simpa using hp, hk⟩
      ·cases g
     ·rename_i h0; rw [if_neg h0]
      split at g
      ·rename_i hs; cases g
       obtain ⟨s1, s2, s3, s4, s5, s6⟩ := hs
       refine ⟨by simpa using s1, by omega, s2, s3, s4, s5, fun x hx => ?_, .inl hk⟩
       simpa using List.all_eq_true.1 s6 x hx
      ·cases g
  | store T x y =>
   simp only [storeX] at g
   unfold wpOp; simp only []
   split at g
   ·rename_i e; rw [e]; simp only []
    split at g
    ·rename_i hq
     refine need_of hq ?_
     split at g
     ·rename_i hr
      refine need_of hr ?_
      split at g
      ·rename_i hs; cases g; exact ⟨hs.1, hs.2.1, hs.2.2, hk⟩
      ·cases g
     ·cases g
    ·cases g
   ·cases g
  | range T x =>
   simp only [] at g
   unfold wpOp; simp only []
   split at g
   ·rename_i e; rw [e]; simp only []
    split at g
    ·rename_i hs; cases g; exact ⟨hs, hk⟩
    ·cases g
   ·cases g
  | next x b =>
   simp only [nextX] at g
   unfold wpOp; simp only []
   split at g
   ·rename_i e; rw [e]; simp only []
    split at g
    ·rename_i hb
     refine ⟨hb, ?_⟩
     split at g
     ·rename_i hi; rw [hi]; simp only []
      split at g
      ·rename_i hl; cases g; exact ⟨fun _ => hk, fun hn => absurd hl hn⟩
      ·rename_i hl; cases g; exact ⟨fun hn => absurd hn hl, fun _ => hk⟩
     ·cases g
    ·cases g
   ·cases g
  | call c =>
   simp only [] at g
   unfold wpOp; simp only []
   unfold wpCall; simp only []
   split at g
   ·rename_i hc; rw [hc]; simp only []
    split at g
    ·rename_i h1 h2; rw [h1, h2]; simp only []
     split at g
     ·rename_i hT; exact ⟨hT, appX_ok g hk⟩
     ·cases g
    ·cases g
   ·rename_i hc; rw [hc]; simp only []
    split at g
    ·rename_i h1 h2; rw [h1, h2]; simp only []
     exact ustrX_ok g hk
    ·cases g
   ·rename_i hc; rw [hc]; simp only []
    split at g
    ·rename_i e; rw [e]; simp only []
     exact (hcall _ _ _ _ _ g).mono fun r2 h2 ⟨e1, e2⟩ => by rw [e1, e2]; exact hk
    ·cases g
   ·cases g
  | _ => cases g
end
end Go.Av
namespace Go.Av
open Go.RowKit
def nilEq : Value → Value → Bool
 | .slice none 0 0, .slice none 0 0 => true
 | .pointer none, .pointer none => true
 | .nilFunc, .nilFunc => true
 | .nilIface, .nilIface => true
 | .map none, .map none => true
 | .tuple ⟨[]⟩, .tuple ⟨[]⟩ => true
 | _, _ => false
theorem nilEq_ok {v w : Value} (h : nilEq v w = true) : v = w := by
 unfold nilEq at h; split at h <;> first | rfl | cases h
def fnEq : Fn → Fn → Bool
 | .func f, .func g => decide (f = g)
 | _, _ => false
theorem fnEq_ok {v w : Fn} (h : fnEq v w = true) : v = w := by
 unfold fnEq at h; split at h
 ·rw [of_decide_eq_true h]
 ·cases h
mutual
def beqA : AVal → AVal → Bool
 | .int k n, .int k' n' => decide (k = k') && decide (n = n')
 | .bool b, .bool b' => b == b'
 | .str s, .str s' => decide (s = s')
 | .nil v, .nil w => nilEq v w
 | .agg cs, .agg ds => beqAs cs ds
 | .tup cs, .tup ds => beqAs cs ds
 | .sl n es, .sl m fs => decide (n = m) && beqAs es fs
 | .ad cs, .ad ds => beqAs cs ds
 | .hp p v i o, .hp p' v' i' o' => decide (p = p') && decide (v = v') && decide (i = i') && decide (o = o')
 | .hs p v o l r, .hs p' v' o' l' r' => decide (p = p') && decide (v = v') && decide (o = o') && decide (l = l') && (r == r')
 | .fn f xs cs, .fn g ys ds => fnEq f g && beqAs xs ys && beqAs cs ds
 | .ifc t x, .ifc t' y => decide (t = t') && beqA x y
 | .pa, .pa => true
 | .ez, .ez => true
 | _, _ => false
def beqAs : List AVal → List AVal → Bool
 | [], [] => true
 | x :: l, y :: m => beqA x y && beqAs l m
 | _, _ => false
end
mutual
theorem beqA_ok : ∀ (x y : AVal), beqA x y = true → x = y
 | .int k n, y, h => by
  cases y <;> simp only [beqA, Bool.and_eq_true, decide_eq_true_eq, Bool.false_eq_true] at h
  rw [h.1, h.2]
 | .bool b, y, h => by
  cases y <;> simp only [beqA, beq_iff_eq, Bool.false_eq_true] at h
  rw [h]
 | .str s, y, h => by
  cases y <;> simp only [beqA, decide_eq_true_eq, Bool.false_eq_true] at h
  rw [h]
 | .nil v, y, h => by
  cases y <;> simp only [beqA, Bool.false_eq_true] at h
  rw [nilEq_ok h]
 | .agg cs, y, h => by
  cases y <;> simp only [beqA, Bool.false_eq_true] at h
  rw [beqAs_ok cs _ h]
 | .tup cs, y, h => by
  cases y <;> simp only [beqA, Bool.false_eq_true] at h
  rw [beqAs_ok cs _ h]
 | .sl n es, y, h => by
  cases y <;> simp only [beqA, Bool.and_eq_true, decide_eq_true_eq, Bool.false_eq_true] at h
  rw [h.1, beqAs_ok es _ h.2]
 | .ad cs, y, h => by
  cases y <;> simp only [beqA, Bool.false_eq_true] at h
  rw [beqAs_ok cs _ h]
 | .hp p v i o, y, h => by
  cases y <;> simp only [beqA, Bool.and_eq_true, decide_eq_true_eq, Bool.false_eq_true] at h
  obtain ⟨⟨⟨rfl, rfl⟩, rfl⟩, rfl⟩ := h; rfl
 | .hs p v o l r, y, h => by
  cases y <;> simp only [beqA, Bool.and_eq_true, decide_eq_true_eq, beq_iff_eq, Bool.false_eq_true] at h
  obtain ⟨⟨⟨⟨rfl, rfl⟩, rfl⟩, rfl⟩, rfl⟩ := h; rfl
 | .fn f xs cs, y, h => by
  cases y <;> simp only [beqA, Bool.and_eq_true, Bool.false_eq_true] at h
  rw [fnEq_ok h.1.1, beqAs_ok xs _ h.1.2, beqAs_ok cs _ h.2]
 | .ifc t x, y, h => by
  cases y <;> simp only [beqA, Bool.and_eq_true, decide_eq_true_eq, Bool.false_eq_true] at h
  rw [h.1, beqA_ok x _ h.2]
 | .pa, y, h => by cases y <;> first | rfl | simp [beqA] at h
 | .ez, y, h => by cases y <;> first | rfl | simp [beqA] at h
theorem beqAs_ok : ∀ (l m : List AVal), beqAs l m = true → l = m
 | [], m, h => by cases m <;> first | rfl | simp [beqAs] at h
 | x :: l, m, h => by
  cases m with
  | nil => simp [beqAs] at h
  | cons y m =>
   simp only [beqAs, Bool.and_eq_true] at h
   rw [beqA_ok x y h.1, beqAs_ok l m h.2]
end
def beqB : Blk → Blk → Bool
 | .row e n v rows, .row e' n' v' rows' => decide (e = e') && decide (n = n') && decide (v = v') && beqAs rows rows'
 | .iter s p, .iter s' p' => decide (s = s') && decide (p = p')
 | .dead, .dead => true
 | _, _ => false
theorem beqB_ok {x y : Blk} (h : beqB x y = true) : x = y := by
 unfold beqB at h; split at h
 ·simp only [Bool.and_eq_true, decide_eq_true_eq] at h
  obtain ⟨⟨⟨rfl, rfl⟩, rfl⟩, h⟩ := h
  rw [beqAs_ok _ _ h]
 ·simp only [Bool.and_eq_true, decide_eq_true_eq] at h
  rw [h.1, h.2]
 ·rfl
 ·cases h
def begH : Heap → Heap → Bool
 | [], _ => true
 | _ :: _, [] => false
 | a :: l, b :: m => beqB a b && begH l m
theorem begH_ok : ∀ {h h1 : Heap}, begH h h1 = true → h1.take h.length = h
 | [], _, _ => by simp
 | _ :: _, [], h => by simp [begH] at h
 | a :: l, b :: m, h => by
  simp only [begH, Bool.and_eq_true] at h
  simp only [List.length_cons, List.take_succ_cons, begH_ok h.2, beqB_ok h.1]
mutual
def cloA (n : Nat) : AVal → Bool
 | .agg cs => cloAs n cs
 | .tup cs => cloAs n cs
 | .sl _ es => cloAs n es
 | .ad cs => cloAs n cs
 | .hp p _ _ _ => decide (p < n)
 | .hs p _ _ _ _ => decide (p < n)
 | .fn _ xs cs => cloAs n xs && cloAs n cs
 | .ifc _ x => cloA n x
 | _ => true
def cloAs (n : Nat) : List AVal → Bool
 | [] => true
 | x :: l => cloA n x && cloAs n l
end
mutual
theorem cloA_ok (n : Nat) : ∀ x : AVal, cloA n x = true → Clo n x
 | .int _ _, _ => .int _ _
 | .bool _, _ => .bool _
 | .str _, _ => .str _
 | .nil _, _ => .nil _
 | .agg cs, h => .agg _ (cloAs_ok n cs (by simpa only [cloA] using h))
 | .tup cs, h => .tup _ (cloAs_ok n cs (by simpa only [cloA] using h))
 | .sl _ es, h => .sl _ _ (cloAs_ok n es (by simpa only [cloA] using h))
 | .ad cs, h => .ad _ (cloAs_ok n cs (by simpa only [cloA] using h))
 | .hp p _ _ _, h => .hp _ _ _ _ (by simpa only [cloA, decide_eq_true_eq] using h)
 | .hs p _ _ _ _, h => .hs _ _ _ _ _ (by simpa only [cloA, decide_eq_true_eq] using h)
 | .fn _ xs cs, h => by
  simp only [cloA, Bool.and_eq_true] at h
  exact .fn _ _ _ (cloAs_ok n xs h.1) (cloAs_ok n cs h.2)
 | .ifc _ x, h => .ifc _ _ (cloA_ok n x (by simpa only [cloA] using h))
 | .pa, _ => .pa
 | .ez, _ => .ez
theorem cloAs_ok (n : Nat) : ∀ l : List AVal, cloAs n l = true → ∀ x ∈ l, Clo n x
 | [], _ => by intro x hx; cases hx
 | y :: l, h => by
  simp only [cloAs, Bool.and_eq_true] at h
  intro x hx
  rcases List.mem_cons.1 hx with e | hx
  ·rw [e]; exact cloA_ok n y h.1
  ·exact cloAs_ok n l h.2 x hx
end
def mapO {α β : Type} (f : α → Option β) : List α → Option (List β)
 | [] => some []
 | x :: l => match f x with
  | some y => match mapO f l with | some m => some (y :: m) | none => none
  | none => none
theorem mapO_ok {α β : Type} {f : α → Option β} : ∀ {l : List α} {m : List β}, mapO f l = some m → l.length = m.length ∧ ∀ (i : Nat) (x : α) (y : β), l[i]? = some x → m[i]? = some y → f x = some y
 | [], m, h => by simp only [mapO, Option.some.injEq] at h; subst h; exact ⟨rfl, fun i x y hx => by simp at hx⟩
 | x :: l, m, h => by
  simp only [mapO] at h
  split at h
  ·rename_i y hy
   split at h
   ·rename_i m1 hm; cases h
    obtain ⟨h1, h2⟩ := mapO_ok hm
    refine ⟨by simp [h1], fun i a b ha hb => ?_⟩
    cases i with
    | zero => simp at ha hb; subst ha; subst hb; exact hy
    | succ i => exact h2 i a b (by simpa using ha) (by simpa using hb)
   ·cases h
  ·cases h
def frzX (h : Heap) (n : Nat) : Nat → AVal → Option AVal
 | 0, x => if cloA n x = true then some x else none
 | f + 1, x => if cloA n x = true then some x else match x with
  | .agg cs => match mapO (frzX h n f) cs with | some ds => if ds.all AVal.sto = true then some (.agg ds) else none | none => none
  | .tup cs => match mapO (frzX h n f) cs with | some ds => some (.tup ds) | none => none
  | .ifc t x => match frzX h n f x with | some y => some (.ifc t y) | none => none
  | .hs p ver off len room => match getRow h p ver with
   | some (_, m, rows) => if n ≤ p ∧ off + len ≤ rows.length then
     match mapO (fun r => match mapO (frzX h n f) r.cells with | some ds => if ds.all AVal.sto = true then some (match r with | .agg _ => AVal.agg ds | _ => (match ds with | [d] => if d.sto = true then d else .pa | _ => .pa)) else none | none => none) rows with
     | some es => some (.sl m ((es.drop off).take len))
     | none => none else none
   | none => none
  | _ => none
theorem frzX_ok (h : Heap) (n : Nat) : ∀ (f : Nat) (x y : AVal), frzX h n f x = some y → Frz h n x y := by
 intro f
 induction f with
 | zero =>
  intro x y g
  simp only [frzX] at g
  split at g
  ·rename_i hc; cases g; exact .clo _ (cloA_ok n _ hc)
  ·cases g
 | succ f ih =>
  intro x y g
  simp only [frzX] at g
  split at g
  ·rename_i hc; cases g; exact .clo _ (cloA_ok n _ hc)
  ·split at g
   ·split at g
    ·rename_i ds hm
     split at g
     ·rename_i hs; cases g
      obtain ⟨h1, h2⟩ := mapO_ok hm
      exact .agg _ _ h1 (fun d hd => List.all_eq_true.1 hs d hd) fun i c d hc hd => ih _ _ (h2 i c d hc hd)
     ·cases g
    ·cases g
   ·split at g
    ·rename_i ds hm; cases g
     obtain ⟨h1, h2⟩ := mapO_ok hm
     exact .tup _ _ h1 fun i c d hc hd => ih _ _ (h2 i c d hc hd)
    ·cases g
   ·split at g
    ·rename_i hy; cases g; exact .ifc _ _ _ (ih _ _ hy)
    ·cases g
   ·split at g
    ·rename_i hq
     split at g
     ·rename_i hb
      split at g
      ·rename_i es hm; cases g
       obtain ⟨h1, h2⟩ := mapO_ok hm
       have key : ∀ (i : Nat) (r s : AVal), _ → es[i]? = some s → Frz h n r s ∧ r.cells.length = s.cells.length ∧ (∀ (j : Nat) (c d : AVal), r.cells[j]? = some c → s.cells[j]? = some d → d.sto = true) ∧
         ∀ (j : Nat) (c d : AVal), r.cells[j]? = some c → s.cells[j]? = some d → Frz h n c d := fun i r s hr hs => by
        have e := h2 i r s hr hs
        split at e
        ·rename_i ds hd
         obtain ⟨k1, k2⟩ := mapO_ok hd
         split at e
         ·rename_i hst
          have hst' := List.all_eq_true.1 hst
          split at e
          ·cases e
           exact ⟨.agg _ _ k1 (fun d hd => hst' d hd) fun j c d hc hd => ih _ _ (k2 j c d hc hd), k1, fun j c d hc hd => hst' d (List.mem_of_getElem? hd), fun j c d hc hd => ih _ _ (k2 j c d hc hd)⟩
          ·rename_i hna
           have hc1 : r.cells = [r] := by cases r <;> first | rfl | exact absurd rfl (hna _)
           rw [hc1] at k1 k2 ⊢
           match ds, k1 with
           | [d], _ =>
            simp only at e
            have hd1 := hst' d (by simp)
            rw [if_pos hd1] at e
            have e2 : d = s := by simpa using e
            subst e2
            have hs1 : d.cells = [d] := by cases d <;> first | rfl | (simp [AVal.sto] at hd1)
            have hf := ih _ _ (k2 0 r d rfl rfl)
            rw [hs1]
            refine ⟨hf, rfl, fun j c x hc hx => ?_, fun j c x hc hx => ?_⟩
            ·match j with
             | 0 => simp at hx; subst hx; exact hd1
             | j + 1 => simp at hx
            ·match j with
             | 0 => simp at hx hc; subst hx; subst hc; exact hf
             | j + 1 => simp at hx
         ·cases e
        ·cases e
       exact .hs _ _ _ _ _ _ _ _ es hb.1 hq hb.2 h1.symm (fun i r s hr hs => (key i r s hr hs).1) (fun i r s hr hs => ⟨(key i r s hr hs).2.1, fun j c d hc hd => (key i r s hr hs).2.2.1 j c d hc hd⟩)
        (fun i r s j c d hr hs hc hd => (key i r s hr hs).2.2.2 j c d hc hd)
      ·cases g
     ·cases g
    ·cases g
   ·cases g
section
variable {C : Ctx} {h : Heap}
theorem Sat.letgo {f : FuncId} {args : List AVal} {r v : AVal} {h1 : Heap} (hb : h1.take h.length = h) (hz : Frz h1 h.length r v) (s : Sat C f args h fun r2 h2 => r2 = r ∧ h2 = h1) : Sat C f args h fun r2 h2 => r2 = v ∧ h2 = h := by
 intro B S μ w vs fit rl
 refine (s B S μ w vs fit rl).mono fun u w' hp => ?_
 obtain ⟨r2, h', S', μ', ⟨rfl, rfl⟩, st, fit', hrep⟩ := hp
 obtain ⟨fc, sc⟩ := Fits.cut fit st fit' (n := h.length) (Nat.le_refl _) (fun p k hp hk => by
  refine .inl ⟨hp, ?_⟩
  rw [← hb, List.getElem?_take_of_lt hp]; exact hk)
 rw [hb] at fc
 exact ⟨v, h, _, _, ⟨rfl, rfl⟩, sc, fc, hz.rep fit' hrep⟩
end
end Go.Av
