/- A region that draws its order: a beginning of operations that change no memory, apart but for what they say; what is behind comes in its own order. -/
import Derived.Test.YtnchpoppgdbapaaGreatDoorJgAv18
import Derived.Orders
set_option linter.unusedSimpArgs false
set_option linter.unusedVariables false
namespace Go.Av
open Go.RowKit

section
variable {C : Ctx} {t : Env} {h : Heap}

/-! An operation looks at its operands and at its guard alone. -/
theorem wpOp_congr {o : Op} {t t2 : Env} {K : AVal → Heap → Prop} (hx : ∀ x ∈ o.operands.toList, aev C.G t x = aev C.G t2 x) : wpOp C o t h K = wpOp C o t2 h K := by
  have pairs : ∀ ps : Array (Nat × Operand), (∀ x ∈ ps.toList.map (·.2), aev C.G t x = aev C.G t2 x) → (ps.toList.map fun q => aev C.G t q.2) = ps.toList.map fun q => aev C.G t2 q.2 := fun ps hp =>
    List.map_congr_left fun q hq => hp q.2 (List.mem_map.2 ⟨q, hq, rfl⟩)
  have pairs2 : ∀ ps : Array (Nat × Operand), (∀ x ∈ ps.toList.map (·.2), aev C.G t x = aev C.G t2 x) → (ps.toList.map fun q => (q.1, aev C.G t q.2)) = ps.toList.map fun q => (q.1, aev C.G t2 q.2) := fun ps hp =>
    List.map_congr_left fun q hq => by rw [hp q.2 (List.mem_map.2 ⟨q, hq, rfl⟩)]
  have arr : ∀ xs : Array Operand, (∀ x ∈ xs.toList, aev C.G t x = aev C.G t2 x) → xs.toList.map (aev C.G t) = xs.toList.map (aev C.G t2) := fun xs hp => List.map_congr_left hp
  have opt : ∀ lo : Option Operand, (∀ x ∈ lo.toList, aev C.G t x = aev C.G t2 x) → lo.map (aev C.G t) = lo.map (aev C.G t2) := fun lo hp => by
    cases lo with | none => rfl | some x => simp [hp x (by simp)]
  cases o <;> simp only [Op.operands, Array.toList_map] at hx <;> simp only [wpOp]
  case build T ps => rw [pairs2 ps hx]
  case buildSlice T n ps => rw [pairs ps hx]
  case makeFunc fn first captured => rw [arr first fun x hx' => hx x (by simp at hx' ⊢; exact .inl hx'), arr captured fun x hx' => hx x (by simp at hx' ⊢; exact .inr hx')]
  case slice T x lo hi mx =>
    rw [hx x (by simp), opt lo fun y hy => hx y (by simp at hy ⊢; simp [hy]), opt hi fun y hy => hx y (by simp at hy ⊢; simp [hy]), opt mx fun y hy => hx y (by simp at hy ⊢; simp [hy])]
  case call c =>
    obtain ⟨callee, args, Ts⟩ := c
    have ha := arr args fun x hx' => hx x (by simp [Call.operands] at hx' ⊢; exact .inr hx')
    cases callee with
    | value f => simp only [wpCall, ha, hx f (by simp [Call.operands])]
    | builtin b =>
      cases b <;> simp only [wpCall]
      case len =>
        obtain ⟨args⟩ := args
        match args, hx with
        | [], _ => rfl
        | [x], hx => have e := hx x (by simp [Call.operands]); rcases Ts with ⟨_ | ⟨T0, _ | ⟨T1, Tl⟩⟩⟩ <;> first | rfl | simp only [e]
        | x :: y :: l, _ => rfl
      case append =>
        obtain ⟨args⟩ := args
        match args, hx with
        | [], _ => rfl
        | [x], _ => rfl
        | [x, y], hx => have e := hx x (by simp [Call.operands]); have e' := hx y (by simp [Call.operands]); rcases Ts with ⟨_ | ⟨T0, _ | ⟨T1, _ | ⟨T2, Tl⟩⟩⟩⟩ <;> first | rfl | simp only [e, e']
        | x :: y :: z :: l, _ => rfl
      case max =>
        obtain ⟨args⟩ := args
        match args, hx with
        | [], _ => rfl
        | [x], _ => rfl
        | [x, y], hx => have e := hx x (by simp [Call.operands]); have e' := hx y (by simp [Call.operands]); simp only [e, e']
        | x :: y :: z :: l, _ => rfl
      case min =>
        obtain ⟨args⟩ := args
        match args, hx with
        | [], _ => rfl
        | [x], _ => rfl
        | [x, y], hx => have e := hx x (by simp [Call.operands]); have e' := hx y (by simp [Call.operands]); simp only [e, e']
        | x :: y :: z :: l, _ => rfl
      case unsafeSliceData =>
        obtain ⟨args⟩ := args
        match args, hx with
        | [], _ => rfl
        | [x], hx => have e := hx x (by simp [Call.operands]); simp only [e]
        | x :: y :: l, _ => rfl
      case unsafeString =>
        obtain ⟨args⟩ := args
        match args, hx with
        | [], _ => rfl
        | [x], _ => rfl
        | [x, y], hx => have e := hx x (by simp [Call.operands]); have e' := hx y (by simp [Call.operands]); rcases Ts with ⟨_ | ⟨T0, _ | ⟨T1, _ | ⟨T2, Tl⟩⟩⟩⟩ <;> first | rfl | simp only [e, e']
        | x :: y :: z :: l, _ => rfl
    | invoke r m => rfl
  all_goals (first | rfl | (simp_all; done))

theorem need_imp {α : Type} {x : Option α} {f g : α → Prop} (hx : need x f) (hfg : ∀ a, f a → g a) : need x g := by
  cases x with
  | none => exact hx
  | some a => exact hfg a hx

theorem binK_mono {P : Program} {op : BinOp} {T : TypeId} {x y : AVal} {k k' : AVal → Prop} (i : ∀ v, k v → k' v) (g : binK P h op T x y k) : binK P h op T x y k' := by
  unfold binK at g ⊢
  split at g
  · split at g
    · rename_i hc; simp only [if_pos hc]
      cases op <;> first | exact fun b => i _ (g b) | exact g.elim
    · exact g.elim
  · exact need_imp g fun v g => i _ g
theorem wpAppend_mono {P : Program} {T : TypeId} {x y : AVal} {K K' : AVal → Heap → Prop} (k : ∀ v h', K v h' → K' v h') (g : wpAppend P T x y h K) : wpAppend P T x y h K' := by
  unfold wpAppend at *
  refine need_imp g fun e g => need_imp g fun n g => need_imp g fun b g => need_imp g fun ys g => ⟨g.1, g.2.1, ?_⟩
  have g := g.2.2
  split at g
  · exact ⟨g.1, k _ _ g.2⟩
  · refine need_imp g fun q g => ?_
    obtain ⟨e', m, rows⟩ := q
    obtain ⟨h1, h2, h3, h4, g⟩ := g
    refine ⟨h1, h2, h3, h4, ?_⟩
    split at g
    · rename_i hr; rw [if_pos hr]; exact ⟨g.1, k _ _ g.2⟩
    · rename_i hr; rw [if_neg hr]; exact ⟨g.1, g.2.1, k _ _ g.2.2⟩
  · split at g
    · rename_i hr; simp only [if_pos hr]; exact k _ _ g
    · rename_i hr; simp only [if_neg hr]; exact ⟨g.1, k _ _ g.2⟩
  · exact g.elim

theorem convK_mono {P : Program} {src dst : TypeId} {x : AVal} {k k' : AVal → Prop} (i : ∀ v, k v → k' v) (g : convK P src dst x h k) : convK P src dst x h k' := by
  unfold convK at g ⊢
  split at g
  · exact need_imp g fun q g => ⟨g.1, g.2.1, i _ g.2.2⟩
  · exact ⟨g.1, need_imp g.2 fun ys g => need_imp g fun bs g => i _ g⟩
  · exact ⟨g.1, need_imp g.2 fun ys g => need_imp g fun bs g => i _ g⟩
  · exact ⟨g.1, i _ g.2⟩
  · exact need_imp g fun v g => i _ g
theorem maxK_mono {p : Int → Int → Bool} {x y : AVal} {k k' : AVal → Prop} (i : ∀ v, k v → k' v) (g : maxK p x y k) : maxK p x y k' := by
  unfold maxK at g ⊢
  split at g
  · exact i _ g
  · exact g.elim
theorem sdataK_mono {x : AVal} {k k' : AVal → Prop} (i : ∀ v, k v → k' v) (g : sdataK x h k) : sdataK x h k' := by
  unfold sdataK at g ⊢
  split at g
  · refine ⟨g.1, ?_⟩
    have g := g.2
    split at g
    · rename_i hh; rw [if_pos hh]; exact i _ g
    · rename_i hh; rw [if_neg hh]; exact i _ g
  · exact i _ g
  · exact g.elim
theorem ustrK_mono {P : Program} {T : TypeId} {x y : AVal} {k k' : AVal → Heap → Prop} (i : ∀ v h', k v h' → k' v h') (g : ustrK P T x y h k) : ustrK P T x y h k' := by
  unfold ustrK at g ⊢
  split at g
  · split at g
    · rename_i hm; rw [if_pos hm]
      split at g
      · exact i _ _ g
      · exact g.elim
    · rename_i hm; rw [if_neg hm]
      split at g
      · exact need_imp g fun q g => ⟨g.1, g.2.1, g.2.2.1, g.2.2.2.1, need_imp g.2.2.2.2 fun bs g => i _ _ g⟩
      · exact g.elim
  · exact g.elim

theorem wpOp_mono {o : Op} {K K' : AVal → Heap → Prop} (k : ∀ v h', K v h' → K' v h') (g : wpOp C o t h K) : wpOp C o t h K' := by
  cases o <;> simp only [wpOp] at g ⊢
  case move x => exact k _ _ g
  case assign x => exact k _ _ g
  case pick c a b => split at g <;> first | exact ⟨fun e => k _ _ (g.1 e), fun e => k _ _ (g.2 e)⟩ | exact g.elim
  case alloc e => exact need_imp g fun z g => ⟨g.1, g.2.1, g.2.2.1, k _ _ g.2.2.2⟩
  case box e x => exact ⟨g.1, g.2.1, k _ _ g.2.2⟩
  case build T ps =>
    refine need_imp g fun z g => ⟨g.1, ?_⟩
    have g := g.2
    split at g
    · exact need_imp g fun cs g => k _ _ g
    · exact need_imp g fun n g => need_imp g fun cs g => k _ _ g
    · exact g.elim
  case buildSlice T n ps =>
    refine need_imp g fun e g => need_imp g fun m g => ?_
    split at g
    · rename_i hn; rw [if_pos hn]; exact ⟨g.1, k _ _ g.2⟩
    rename_i hn; rw [if_neg hn]
    exact ⟨g.1, g.2.1, g.2.2.1, g.2.2.2.1, g.2.2.2.2.1, g.2.2.2.2.2.1, g.2.2.2.2.2.2.1, g.2.2.2.2.2.2.2.imp (k _ _) (k _ _)⟩
  case load T x =>
    split at g
    · exact need_imp g fun v g => k _ _ g
    · exact need_imp g fun q g => need_imp g fun r g => need_imp g fun v g => k _ _ g
    · exact g.elim
  case store T x y =>
    split at g
    · exact need_imp g fun q g => need_imp g fun r g => ⟨g.1, g.2.1, g.2.2.1, k _ _ g.2.2.2⟩
    · exact g.elim
  case nilCheck x => split at g <;> first | exact ⟨g.1, k _ _ g.2⟩ | exact k _ _ g | exact g.elim
  case binOp => exact binK_mono (fun v => k _ _) g
  case unOp => exact need_imp g fun v g => k _ _ g
  case convert => exact convK_mono (fun v => k _ _) g
  case makeInterface => exact ⟨g.1, k _ _ g.2⟩
  case makeFunc => exact k _ _ g
  case slice => exact need_imp g fun v g => k _ _ g
  case fieldAddr T x f =>
    refine need_imp g fun q g => ⟨g.1, ?_⟩
    have g := g.2
    split at g
    · exact ⟨g.1, k _ _ g.2⟩
    · exact ⟨g.1, k _ _ g.2⟩
    · exact g.elim
  case field T x f =>
    refine need_imp g fun q g => ?_
    split at g
    · exact need_imp g fun v g => k _ _ g
    · exact g.elim
  case indexAddr T x i =>
    split at g
    · split at g
      · exact need_imp g fun e g => ⟨g.1, g.2.1, g.2.2.1, need_imp g.2.2.2 fun r g => k _ _ g⟩
      · exact need_imp g fun e g => need_imp g fun q g => ⟨g.1, g.2.1, g.2.2.1, k _ _ g.2.2.2⟩
      · exact need_imp g fun q g => need_imp g fun m g => ⟨g.1, g.2.1, g.2.2.1, k _ _ g.2.2.2⟩
      · exact need_imp g fun q g => need_imp g fun m g => ⟨g.1, g.2.1, g.2.2.1, k _ _ g.2.2.2⟩
      · exact g.elim
    · exact g.elim
  case index T x i =>
    split at g
    · split at g
      · exact ⟨g.1, g.2.1, need_imp g.2.2 fun r g => k _ _ g⟩
      · exact need_imp g fun q g => need_imp g fun m g => ⟨g.1, g.2.1, need_imp g.2.2 fun r g => k _ _ g⟩
      · exact g.elim
    · exact g.elim
  case extract x i =>
    split at g
    · exact need_imp g fun v g => k _ _ g
    · exact g.elim
  case range T x =>
    split at g
    · exact ⟨g.1, k _ _ g.2⟩
    · exact g.elim
  case next x s =>
    split at g
    · refine ⟨g.1, ?_⟩
      have g := g.2
      split at g
      · exact ⟨fun e => k _ _ (g.1 e), fun e => k _ _ (g.2 e)⟩
      · exact g.elim
    · exact g.elim
  case call c =>
    unfold wpCall at *
    simp only [] at g ⊢
    split at g
    · split at g
      · exact need_imp g fun n g => k _ _ g
      · exact g.elim
    · split at g
      · exact ⟨g.1, wpAppend_mono k g.2⟩
      · exact g.elim
    · split at g
      · exact maxK_mono (fun v => k _ _) g
      · exact g.elim
    · split at g
      · exact maxK_mono (fun v => k _ _) g
      · exact g.elim
    · split at g
      · exact sdataK_mono (fun v => k _ _) g
      · exact g.elim
    · split at g
      · exact ustrK_mono k g
      · exact g.elim
    · exact g.elim
    · split at g
      · exact Sat.mono g k
      · exact g.elim
    · exact g.elim
  all_goals exact g.elim

theorem wpOper_mono {ops : Array Oper} {o : Oper} {K K' : Env → Heap → Prop} (g : wpOper C ops o t h K) (k : ∀ t' h', K t' h' → K' t' h') : wpOper C ops o t h K' := by
  unfold wpOper at *
  split at g
  · exact wpOp_mono (fun v h' => k _ _) g
  · split at g
    · exact ⟨fun e => wpOp_mono (fun v h' => k _ _) (g.1 e), fun e => k _ _ (g.2 e)⟩
    · exact g.elim

/-- An operation, with its guard, and its value. -/
def wpOperV (C : Ctx) (ops : Array Oper) (o : Oper) (t : Env) (h : Heap) (K : AVal → Heap → Prop) : Prop :=
  match o.guard with
  | none => wpOp C o.op t h K
  | some (j, want) => match guardA ops t j with
    | some b => (b = some want → wpOp C o.op t h K) ∧ (b ≠ some want → K undefA h)
    | none => False
theorem wpOper_V (C : Ctx) (ops : Array Oper) (o : Oper) (t : Env) (h : Heap) (K : Env → Heap → Prop) : wpOper C ops o t h K = wpOperV C ops o t h fun v h' => K (put t o.dst v) h' := rfl

theorem wpOperV_congr {ops : Array Oper} {o : Oper} {t t2 : Env} {K : AVal → Heap → Prop} (hx : ∀ d ∈ o.looksAt ops, t d = t2 d) : wpOperV C ops o t h K = wpOperV C ops o t2 h K := by
  have h1 : ∀ x ∈ o.op.operands.toList, aev C.G t x = aev C.G t2 x := fun x hm => by
    cases x with
    | tmp d => exact hx d (List.mem_append_left _ (List.mem_filterMap.2 ⟨.tmp d, hm, rfl⟩))
    | _ => rfl
  unfold wpOperV
  cases hg : o.guard with
  | none => exact wpOp_congr h1
  | some q =>
    obtain ⟨j, want⟩ := q
    have h2 : guardA ops t j = guardA ops t2 j := by
      unfold guardA
      cases hd : (ops[j]?).bind (·.dst) with
      | none => rfl
      | some d => simp only []; rw [hx d (by simp [Oper.looksAt, hg, hd])]
    simp only [h2, wpOp_congr h1]

/-- Operations that change no memory, one behind the other. -/
def WPp (C : Ctx) (ops : Array Oper) : List Oper → Env → Heap → (Env → Prop) → Prop
  | [], t, _, K => K t
  | o :: rest, t, h, K => ∃ v, (∀ KK : AVal → Heap → Prop, KK v h → wpOperV C ops o t h KK) ∧ WPp C ops rest (put t o.dst v) h K

/-- The slots behind so many of them. -/
def T (V : Nat → AVal) : List Oper → Env → Nat → Env
  | [], t, _ => t
  | _ :: _, t, 0 => t
  | o :: rest, t, i + 1 => T (fun j => V (j + 1)) rest (put t o.dst (V 0)) i

theorem WPp_vals {ops : Array Oper} {K : Env → Prop} : ∀ (l : List Oper) (t : Env), WPp C ops l t h K →
    ∃ V, (∀ (i : Nat) (o : Oper), l[i]? = some o → ∀ KK : AVal → Heap → Prop, KK (V i) h → wpOperV C ops o (T V l t i) h KK) ∧ K (T V l t l.length)
  | [], t, g => ⟨fun _ => undefA, fun i o hi => by simp at hi, g⟩
  | o :: rest, t, ⟨v, hv, g⟩ => by
    obtain ⟨V, h1, h2⟩ := WPp_vals rest _ g
    refine ⟨fun i => match i with | 0 => v | i + 1 => V i, fun i o' hi => ?_, h2⟩
    cases i with
    | zero => simp at hi; subst hi; exact hv
    | succ i => exact h1 i o' (by simpa using hi)

theorem T_succ (V : Nat → AVal) : ∀ (l : List Oper) (t : Env) (i : Nat) (o : Oper), l[i]? = some o → T V l t (i + 1) = put (T V l t i) o.dst (V i)
  | [], t, i, o, hi => by simp at hi
  | o' :: rest, t, 0, o, hi => by
    simp at hi; subst hi
    cases rest <;> rfl
  | o' :: rest, t, i + 1, o, hi => by
    simp only [T]
    exact T_succ (fun j => V (j + 1)) rest _ i o (by simpa using hi)
theorem T_zero (V : Nat → AVal) (l : List Oper) (t : Env) : T V l t 0 = t := by cases l <;> rfl

/-- May the region's beginning of k operations come in any order, and what is behind it in its own alone? -/
def drawOk (ops : Array Oper) (k : Nat) : Bool :=
  let b := Region.before ops
  (List.range ops.size).all fun j => match ops[j]? with
    | none => true
    | some oj => (oj.after.all fun e => decide (e.on < j)) && (List.range j).all fun i => match ops[i]? with
      | none => true
      | some oi =>
        (!(b.getD j 0).testBit i || oj.after.any fun e => Region.binds .any e && (e.on == i || (decide (i < e.on) && (b.getD e.on 0).testBit i))) &&
        (if k ≤ j then (b.getD j 0).testBit i else ((b.getD j 0).testBit i || oi.apart ops oj) && (oi.dst.isNone || oi.dst != oj.dst))

structure DrawOk (ops : Array Oper) (k : Nat) (c : Nat → Nat → Bool) : Prop where
  less : ∀ (j : Nat) (oj : Oper), ops[j]? = some oj → ∀ e ∈ oj.after, e.on < j
  cert : ∀ (i j : Nat) (oj : Oper), ops[j]? = some oj → i < j → c i j = true → ∃ e ∈ oj.after, Region.binds .any e = true ∧ (e.on = i ∨ (i < e.on ∧ c i e.on = true))
  sfx : ∀ (i j : Nat) (oj : Oper), ops[j]? = some oj → i < j → k ≤ j → c i j = true
  pre : ∀ (i j : Nat) (oi oj : Oper), ops[i]? = some oi → ops[j]? = some oj → i < j → j < k → (c i j = true ∨ oi.apart ops oj = true) ∧ (∀ d, oi.dst = some d → oj.dst ≠ some d)

theorem drawOk_spec {ops : Array Oper} {k : Nat} (hk : drawOk ops k = true) : DrawOk ops k fun i j => ((Region.before ops).getD j 0).testBit i := by
  unfold drawOk at hk
  simp only [List.all_eq_true, List.mem_range] at hk
  have key : ∀ (j : Nat) (oj : Oper), ops[j]? = some oj → (oj.after.all fun e => decide (e.on < j)) = true ∧ ∀ (i : Nat) (oi : Oper), ops[i]? = some oi → i < j →
      ((!((Region.before ops).getD j 0).testBit i || oj.after.any fun e => Region.binds .any e && (e.on == i || (decide (i < e.on) && ((Region.before ops).getD e.on 0).testBit i))) &&
        (if k ≤ j then ((Region.before ops).getD j 0).testBit i else (((Region.before ops).getD j 0).testBit i || oi.apart ops oj) && (oi.dst.isNone || oi.dst != oj.dst))) = true := by
    intro j oj hj
    have := hk j (Array.getElem?_eq_some_iff.1 hj).1
    rw [hj] at this
    simp only [Bool.and_eq_true, List.all_eq_true, List.mem_range] at this
    refine ⟨this.1, fun i oi hi hij => ?_⟩
    have := this.2 i hij
    rw [hi] at this
    simpa only [Bool.and_eq_true] using this
  have some_i : ∀ (i j : Nat) (oj : Oper), ops[j]? = some oj → i < j → ∃ oi, ops[i]? = some oi := fun i j oj hj hij => by
    have := (Array.getElem?_eq_some_iff.1 hj).1
    exact ⟨_, Array.getElem?_eq_getElem (show i < ops.size by omega)⟩
  refine ⟨fun j oj hj e he => ?_, fun i j oj hj hij hc => ?_, fun i j oj hj hij hkj => ?_, fun i j oi oj hi hj hij hjk => ?_⟩
  · have := (key j oj hj).1
    rw [Array.all_eq_true_iff_forall_mem] at this
    simpa using this e he
  · obtain ⟨oi, hi⟩ := some_i i j oj hj hij
    have := (key j oj hj).2 i oi hi hij
    simp only [Bool.and_eq_true, Bool.or_eq_true, Bool.not_eq_true'] at this
    rcases this.1 with h1 | h1
    · rw [hc] at h1; cases h1
    · obtain ⟨e, he, h2⟩ := Array.any_eq_true'.1 h1
      simp only [Bool.and_eq_true, Bool.or_eq_true, beq_iff_eq, decide_eq_true_eq] at h2
      exact ⟨e, he, h2.1, h2.2⟩
  · obtain ⟨oi, hi⟩ := some_i i j oj hj hij
    have := (key j oj hj).2 i oi hi hij
    simp only [Bool.and_eq_true, if_pos hkj] at this
    exact this.2
  · have := (key j oj hj).2 i oi hi hij
    simp only [Bool.and_eq_true, if_neg (show ¬ k ≤ j by omega), Bool.or_eq_true] at this
    refine ⟨this.2.1, fun d hd e => ?_⟩
    rcases this.2.2 with h1 | h1
    · rw [hd] at h1; cases h1
    · rw [hd, e] at h1; simp at h1

theorem binds_any {md : Region.Mode} {e : Edge} (hb : Region.binds .any e = true) : Region.binds md e = true := by
  unfold Region.binds at *
  cases hg : e.ground <;> rw [hg] at hb <;> first | rfl | (cases hb; done)

/-- What is listed holds what must come first. -/
def Closed (ops : Array Oper) (L : Array Bool) : Prop := ∀ (j : Nat) (oj : Oper), ops[j]? = some oj → L.getD j false = true → ∀ e ∈ oj.after, Region.binds .any e = true → L.getD e.on false = true

theorem Closed.bef {ops : Array Oper} {L : Array Bool} {k : Nat} {c : Nat → Nat → Bool} (D : DrawOk ops k c) (cl : Closed ops L) :
    ∀ (j : Nat) (oj : Oper), ops[j]? = some oj → ∀ i, i < j → c i j = true → (∀ e ∈ oj.after, Region.binds .any e = true → L.getD e.on false = true) → L.getD i false = true := by
  intro j
  induction j using Nat.strongRecOn with
  | ind j ih =>
    intro oj hj i hij hc hl
    obtain ⟨e, he, hb, h1⟩ := D.cert i j oj hj hij hc
    have h2 := hl e he hb
    rcases h1 with rfl | h1
    · exact h2
    · have h3 := D.less j oj hj e he
      have hsz := (Array.getElem?_eq_some_iff.1 hj).1
      have hoe : ops[e.on]? = some ops[e.on] := Array.getElem?_eq_getElem (by omega)
      exact ih e.on h3 _ hoe i h1.1 h1.2 fun e' he' hb' => cl e.on _ hoe h2 e' he' hb'

/-- The slots when so many of the beginning's operations are done, in any order. -/
def Ag (ops : Array Oper) (k : Nat) (V : Nat → AVal) (t : Env) (p : Nat → Bool) (s : Env) : Prop :=
  (∀ (j : Nat) (o : Oper) (x : Nat), j < k → ops[j]? = some o → p j = true → o.dst = some x → s x = V j) ∧
  (∀ (x : Nat), (∀ (j : Nat) (o : Oper), j < k → ops[j]? = some o → p j = true → o.dst ≠ some x) → s x = t x)

theorem Ag.eq {ops : Array Oper} {k : Nat} {V : Nat → AVal} {t s s' : Env} {p : Nat → Bool} (g : Ag ops k V t p s) (g' : Ag ops k V t p s') : s = s' := by
  funext x
  by_cases hx : ∃ (j : Nat) (o : Oper), j < k ∧ ops[j]? = some o ∧ p j = true ∧ o.dst = some x
  · obtain ⟨j, o, h1, h2, h3, h4⟩ := hx
    rw [g.1 j o x h1 h2 h3 h4, g'.1 j o x h1 h2 h3 h4]
  · have hn : ∀ (j : Nat) (o : Oper), j < k → ops[j]? = some o → p j = true → o.dst ≠ some x := fun j o h1 h2 h3 h4 => hx ⟨j, o, h1, h2, h3, h4⟩
    rw [g.2 x hn, g'.2 x hn]

theorem Ag.put {ops : Array Oper} {k : Nat} {c : Nat → Nat → Bool} (D : DrawOk ops k c) {V : Nat → AVal} {t s : Env} {p p' : Nat → Bool} (g : Ag ops k V t p s) {i : Nat} {o : Oper} (hi : ops[i]? = some o) (hk : i < k)
    (hp : ∀ j, j < k → p' j = (p j || j == i)) : Ag ops k V t p' (put s o.dst (V i)) := by
  have uniq : ∀ (j : Nat) (oj : Oper) (x : Nat), j < k → ops[j]? = some oj → oj.dst = some x → o.dst = some x → j = i := fun j oj x hj hoj h1 h2 => by
    rcases Nat.lt_trichotomy j i with h3 | h3 | h3
    · exact absurd h2 ((D.pre j i oj o hoj hi h3 hk).2 x h1)
    · exact h3
    · exact absurd h1 ((D.pre i j o oj hi hoj h3 hj).2 x h2)
  refine ⟨fun j oj x hj hoj hpj hd => ?_, fun x hn => ?_⟩
  · by_cases hji : j = i
    · subst hji
      rw [hoj] at hi; cases hi
      simp [Av.put, hd, upd]
    · have : o.dst ≠ some x := fun e => hji (uniq j oj x hj hoj hd e)
      have hs : (Av.put s o.dst (V i)) x = s x := by
        cases hdo : o.dst with
        | none => rfl
        | some d => simp only [Av.put, upd]; rw [if_neg]; intro e; subst e; exact this hdo
      rw [hs]
      exact g.1 j oj x hj hoj (by have := hp j hj; rw [hpj] at this; simpa [hji] using this.symm) hd
  · have : o.dst ≠ some x := hn i o hk hi (by rw [hp i hk]; simp)
    have hs : (Av.put s o.dst (V i)) x = s x := by
      cases hdo : o.dst with
      | none => rfl
      | some d => simp only [Av.put, upd]; rw [if_neg]; intro e; subst e; exact this hdo
    rw [hs]
    exact g.2 x fun j oj hj hoj hpj => hn j oj hj hoj (by rw [hp j hj, hpj]; rfl)

theorem Ag.start (ops : Array Oper) (k : Nat) (V : Nat → AVal) (t : Env) {p : Nat → Bool} (hp : ∀ j, j < k → p j = false) : Ag ops k V t p t :=
  ⟨fun j o x hj _ hpj => absurd ((hp j hj).symm.trans hpj) Bool.false_ne_true, fun _ _ => rfl⟩

theorem Ag.T {ops : Array Oper} {k : Nat} {c : Nat → Nat → Bool} (D : DrawOk ops k c) (V : Nat → AVal) (t : Env) (hkn : k ≤ ops.size) : ∀ i, i ≤ k → Ag ops k V t (fun j => decide (j < i)) (Av.T V (ops.toList.take k) t i)
  | 0, _ => by rw [T_zero]; exact Ag.start ops k V t fun j _ => by simp
  | i + 1, hi => by
    have ih := Ag.T D V t hkn i (by omega)
    have ho : ops[i]? = some (ops[i]'(by omega)) := Array.getElem?_eq_getElem _
    have ho2 : (ops.toList.take k)[i]? = some (ops[i]'(by omega)) := by rw [List.getElem?_take, if_pos (by omega)]; simp
    rw [T_succ V _ t i _ ho2]
    refine ih.put D ho (by omega) fun j hj => ?_
    by_cases h1 : j < i
    · have h2 : j < i + 1 := by omega
      simp [h1, h2]
    · by_cases h2 : j = i
      · subst h2; simp
      · have h3 : ¬ j < i + 1 := by omega
        have h4 : (j == i) = false := by simpa using h2
        simp [h1, h3, h4]

/-- What an operation of the beginning sees is what it sees in the text's order. -/
theorem Ag.sees {ops : Array Oper} {k : Nat} {c : Nat → Nat → Bool} (D : DrawOk ops k c) {V : Nat → AVal} {t s : Env} {L : Array Bool} (cl : Closed ops L) (g : Ag ops k V t (fun j => L.getD j false) s)
    {i : Nat} {o : Oper} (hi : ops[i]? = some o) (hk : i < k) (hkn : k ≤ ops.size) (hun : L.getD i false = false) (hrd : ∀ e ∈ o.after, Region.binds .any e = true → L.getD e.on false = true) :
    ∀ d ∈ o.looksAt ops, Av.T V (ops.toList.take k) t i d = s d := by
  intro d hd
  have gT := Ag.T D V t hkn i (by omega)
  by_cases hx : ∃ (j : Nat) (oj : Oper), j < k ∧ ops[j]? = some oj ∧ oj.dst = some d
  · obtain ⟨j, oj, hj, hoj, hdj⟩ := hx
    have uniq : ∀ (j' : Nat) (o' : Oper), j' < k → ops[j']? = some o' → o'.dst = some d → j' = j := fun j' o' hj' ho' h1 => by
      rcases Nat.lt_trichotomy j' j with h3 | h3 | h3
      · exact absurd hdj ((D.pre j' j o' oj ho' hoj h3 hj).2 d h1)
      · exact h3
      · exact absurd h1 ((D.pre j j' oj o' hoj ho' h3 hj').2 d hdj)
    rcases Nat.lt_trichotomy j i with h3 | h3 | h3
    · have hc : c j i = true := by
        rcases (D.pre j i oj o hoj hi h3 hk).1 with h4 | h4
        · exact h4
        · exact absurd hd ((Oper.apart_spec h4).1 d hdj)
      have hl := cl.bef D i o hi j h3 hc hrd
      rw [gT.1 j oj d hj hoj (by simpa using h3) hdj, g.1 j oj d hj hoj hl hdj]
    · subst h3
      rw [gT.2 d fun j' o' hj' ho' hp h1 => by have := uniq j' o' hj' ho' h1; subst this; simp at hp,
        g.2 d fun j' o' hj' ho' hp h1 => by have := uniq j' o' hj' ho' h1; subst this; simp only [hun] at hp; cases hp]
    · have hc : c i j = true := by
        rcases (D.pre i j o oj hi hoj h3 hj).1 with h4 | h4
        · exact h4
        · exact absurd hd ((Oper.apart_spec h4).2.2 d hdj)
      have hl : L.getD j false = false := by
        cases hlj : L.getD j false with
        | false => rfl
        | true => have := cl.bef D j oj hoj i h3 hc (cl j oj hoj hlj); rw [hun] at this; cases this
      rw [gT.2 d fun j' o' hj' ho' hp h1 => by have := uniq j' o' hj' ho' h1; subst this; simp at hp; omega,
        g.2 d fun j' o' hj' ho' hp h1 => by have := uniq j' o' hj' ho' h1; subst this; simp only [hl] at hp; cases hp]
  · have hn : ∀ (j : Nat) (oj : Oper), j < k → ops[j]? = some oj → oj.dst ≠ some d := fun j oj h1 h2 h3 => hx ⟨j, oj, h1, h2, h3⟩
    rw [gT.2 d fun j oj h1 h2 _ => hn j oj h1 h2, g.2 d fun j oj h1 h2 _ => hn j oj h1 h2]

theorem Closed.set {ops : Array Oper} {L : Array Bool} (cl : Closed ops L) {i : Nat} {o : Oper} (hi : ops[i]? = some o) (hrd : ∀ e ∈ o.after, Region.binds .any e = true → L.getD e.on false = true) :
    Closed ops (L.setIfInBounds i true) := by
  intro j oj hj hl e he hb
  by_cases hji : i = j
  · subst hji
    rw [hi] at hj; cases hj
    exact getD_set_true (hrd e he hb)
  · rw [getD_set_ne false hji] at hl
    exact getD_set_true (cl j oj hj hl e he hb)

/-- How many are not listed yet. -/
def left (ops : Array Oper) (L : Array Bool) : Nat := ((List.range ops.size).filter fun i => !L.getD i true).length

theorem left_zero {ops : Array Oper} {L : Array Bool} (hs : L.size = ops.size) (h0 : left ops L = 0) : ∀ i, i < ops.size → L.getD i false = true := by
  intro i hi
  have h1 : (List.range ops.size).filter (fun i => !L.getD i true) = [] := List.length_eq_zero_iff.1 h0
  have h2 := List.filter_eq_nil_iff.1 h1 i (List.mem_range.2 hi)
  have h3 : i < L.size := by omega
  simp [h3] at h2 ⊢
  exact h2

theorem filter_len_set (p : Nat → Bool) (i : Nat) (hp : p i = true) : ∀ (l : List Nat), l.Nodup → i ∈ l → (l.filter fun j => p j && j != i).length + 1 = (l.filter p).length
  | [], _, hm => by cases hm
  | x :: l, hn, hm => by
    obtain ⟨hx, hn⟩ := List.nodup_cons.1 hn
    by_cases hxi : x = i
    · subst hxi
      have : (l.filter fun j => p j && j != x) = l.filter p := List.filter_congr fun j hj => by
        have : j ≠ x := fun e => hx (e ▸ hj)
        simp [this]
      simp [hp, this]
    · have hm : i ∈ l := by rcases List.mem_cons.1 hm with h1 | h1; · exact absurd h1.symm hxi
                            · exact h1
      have ih := filter_len_set p i hp l hn hm
      by_cases hpx : p x = true
      · simp [List.filter_cons, hpx, hxi]; omega
      · simp [List.filter_cons, hpx]; exact ih

theorem left_set {ops : Array Oper} {L : Array Bool} (hs : L.size = ops.size) {i : Nat} (hi : i < ops.size) (hun : L.getD i false = false) : left ops (L.setIfInBounds i true) + 1 = left ops L := by
  have h3 : i < L.size := by omega
  have hp : (!L.getD i true) = true := by simp [h3] at hun ⊢; exact hun
  have := filter_len_set (fun j => !L.getD j true) i hp (List.range ops.size) List.nodup_range (List.mem_range.2 hi)
  unfold left
  rw [← this]
  congr 2
  refine List.filter_congr fun j hj => ?_
  by_cases hji : i = j
  · subst hji; simp [h3]
  · rw [getD_set_ne true hji]
    have : (j != i) = true := by simp; exact fun e => hji e.symm
    rw [this, Bool.and_true]

/-- Some operation is ready, as long as one is not listed. -/
theorem ready_some {ops : Array Oper} {L : Array Bool} {k : Nat} {c : Nat → Nat → Bool} (D : DrawOk ops k c) (md : Region.Mode) (hs : L.size = ops.size) (hne : left ops L ≠ 0) : Region.ready md ops L ≠ [] := by
  have hex : ∃ i, i < ops.size ∧ L.getD i false = false := by
    refine Classical.byContradiction fun hno => hne ?_
    unfold left
    rw [List.length_eq_zero_iff, List.filter_eq_nil_iff]
    intro i hi
    have hi := List.mem_range.1 hi
    have h3 : i < L.size := by omega
    have : L.getD i false = true := by
      cases hl : L.getD i false with
      | true => rfl
      | false => exact absurd ⟨i, hi, hl⟩ hno
    simp [h3] at this ⊢
    exact this
  have hmin : ∃ i, i < ops.size ∧ L.getD i false = false ∧ ∀ j, j < i → L.getD j false = true := by
    obtain ⟨i, hi, hl⟩ := hex
    induction i using Nat.strongRecOn with
    | ind i ih =>
      by_cases hall : ∀ j, j < i → L.getD j false = true
      · exact ⟨i, hi, hl, hall⟩
      · have : ∃ j, j < i ∧ L.getD j false = false := Classical.byContradiction fun hno => hall fun j hj => by
          cases hlj : L.getD j false with
          | true => rfl
          | false => exact absurd ⟨j, hj, hlj⟩ hno
        obtain ⟨j, hj, hlj⟩ := this
        exact ih j hj (by omega) hlj
  obtain ⟨i, hi, hl, hall⟩ := hmin
  have h3 : i < L.size := by omega
  intro e
  have : i ∈ Region.ready md ops L := mem_ready.2 ⟨by simp [h3] at hl ⊢; exact hl, ops[i], Array.getElem?_eq_getElem hi, fun e he _ => hall _ (D.less i _ (Array.getElem?_eq_getElem hi) e he)⟩
  rw [e] at this; cases this

theorem getElem?_mod {α : Type} {l : List α} (h : l ≠ []) (n : Nat) : ∃ x, l[n % l.length]? = some x ∧ x ∈ l := by
  have hlt : n % l.length < l.length := Nat.mod_lt _ (List.length_pos_iff.2 h)
  exact ⟨l[n % l.length], List.getElem?_eq_getElem hlt, List.getElem_mem hlt⟩

theorem go_succ (md : Region.Mode) (ops : Array Oper) (fuel n : Nat) (L : Array Bool) {i : Nat} (hi : (Region.ready md ops L)[n % (Region.ready md ops L).length]? = some i) :
    Region.linearise.go md ops (fuel + 1) n L [] = i :: Region.linearise.go md ops fuel (n / (Region.ready md ops L).length) (L.setIfInBounds i true) [] := by
  simp only [Region.linearise.go]
  change (match (Region.ready md ops L)[n % (Region.ready md ops L).length]? with
      | some i => Region.linearise.go md ops fuel (n / (Region.ready md ops L).length) (L.setIfInBounds i true) [i]
      | none => [].reverse) = _
  rw [hi]
  simp only []
  rw [linearise_go_acc]; rfl

/-- What is behind the beginning comes in its own order. -/
theorem sfx_sound {ops : Array Oper} {Q : Exit → Env → Heap → Prop} {k : Nat} {c : Nat → Nat → Bool} (D : DrawOk ops k c) (md : Region.Mode) : ∀ (fuel n m : Nat) (L : Array Bool) (t : Env) (h : Heap), L.size = ops.size → left ops L = fuel → k ≤ m →
    (∀ i, i < ops.size → L.getD i false = decide (i < m)) → WPl C ops Q (ops.toList.drop m) t h → WPix C ops Q (Region.linearise.go md ops fuel n L []) t h := by
  intro fuel
  induction fuel with
  | zero =>
    intro n m L t h hs hl hk hL g
    have hall := left_zero hs hl
    have hm : ops.size ≤ m := Nat.le_of_not_lt fun hlt => by
      have h1 := hall m hlt
      rw [hL m hlt] at h1
      simp at h1
    rw [List.drop_eq_nil_of_le (by simpa using hm)] at g
    simpa [Region.linearise.go, WPix, WPl] using g
  | succ fuel ih =>
    intro n m L t h hs hl hk hL g
    obtain ⟨i, hi, hmem⟩ := getElem?_mod (ready_some D md hs (by omega)) n
    rw [go_succ md ops fuel n L hi]
    obtain ⟨hun, o, ho, hrd⟩ := mem_ready.1 hmem
    have hlt := (Array.getElem?_eq_some_iff.1 ho).1
    have h3 : i < L.size := by omega
    have hun' : L.getD i false = false := by simp [h3] at hun ⊢; exact hun
    have him : ¬ i < m := by rw [hL i hlt] at hun'; simpa using hun'
    have hrd' : ∀ e ∈ o.after, Region.binds .any e = true → L.getD e.on false = true := fun e he hb => hrd e he (binds_any hb)
    have cl : Closed ops L := fun j oj hj hlj e he hb => by
      have hj' := (Array.getElem?_eq_some_iff.1 hj).1
      have h4 := D.less j oj hj e he
      rw [hL j hj'] at hlj
      rw [hL e.on (by omega)]
      simp at hlj ⊢; omega
    have hmi : i = m := by
      refine Classical.byContradiction fun hne => ?_
      have h5 : m < i := by omega
      have h6 := cl.bef D i o ho m h5 (D.sfx m i o ho h5 (by omega)) hrd'
      rw [hL m (by omega)] at h6
      simp at h6
    subst hmi
    have hd : ops.toList.drop i = o :: ops.toList.drop (i + 1) := by
      have : ops.toList[i]? = some o := by simpa using ho
      obtain ⟨h7, rfl⟩ := List.getElem?_eq_some_iff.1 this
      exact List.drop_eq_getElem_cons h7
    rw [hd] at g
    simp only [WPix, ho]
    simp only [WPl] at g
    refine wpOper_mono g fun t' h' g' => ih _ (i + 1) _ t' h' (by simpa using hs) (by have := left_set hs hlt hun'; omega) (by omega) (fun j hj => ?_) g'
    by_cases hji : i = j
    · subst hji; simp [h3]
    · rw [getD_set_ne false hji, hL j hj]
      simp; omega

theorem pre_sound {ops : Array Oper} {Q : Exit → Env → Heap → Prop} {k : Nat} {c : Nat → Nat → Bool} (D : DrawOk ops k c) (md : Region.Mode) (hkn : k ≤ ops.size) {V : Nat → AVal} {t0 : Env} {h : Heap}
    (hv : ∀ (i : Nat) (o : Oper), (ops.toList.take k)[i]? = some o → ∀ KK : AVal → Heap → Prop, KK (V i) h → wpOperV C ops o (Av.T V (ops.toList.take k) t0 i) h KK)
    (hK : WPl C ops Q (ops.toList.drop k) (Av.T V (ops.toList.take k) t0 k) h) :
    ∀ (fuel n : Nat) (L : Array Bool) (s : Env), L.size = ops.size → left ops L = fuel → Closed ops L → (∀ j, j < ops.size → L.getD j false = true → j < k) → Ag ops k V t0 (fun j => L.getD j false) s →
      WPix C ops Q (Region.linearise.go md ops fuel n L []) s h := by
  have fin : ∀ (fuel n : Nat) (L : Array Bool) (s : Env), L.size = ops.size → left ops L = fuel → (∀ j, j < ops.size → L.getD j false = decide (j < k)) → Ag ops k V t0 (fun j => L.getD j false) s →
      WPix C ops Q (Region.linearise.go md ops fuel n L []) s h := fun fuel n L s hs hl hL ag => by
    have h1 := Ag.T D V t0 hkn k (Nat.le_refl _)
    have h2 : Ag ops k V t0 (fun j => decide (j < k)) s := ⟨fun j o x hj ho hp hd => ag.1 j o x hj ho (by show L.getD j false = true; rw [hL j (by omega)]; exact hp) hd,
      fun x hn => ag.2 x fun j o hj ho hp => hn j o hj ho (by simpa using hj)⟩
    have := h2.eq h1
    subst this
    exact sfx_sound D md fuel n k L _ h hs hl (Nat.le_refl _) hL hK
  intro fuel
  induction fuel with
  | zero =>
    intro n L s hs hl cl hlt ag
    have hall := left_zero hs hl
    refine fin 0 n L s hs hl (fun j hj => ?_) ag
    rw [hall j hj]; have := hlt j hj (hall j hj); simp [this]
  | succ fuel ih =>
    intro n L s hs hl cl hlt ag
    obtain ⟨i, hi, hmem⟩ := getElem?_mod (ready_some D md hs (by omega)) n
    obtain ⟨hun, o, ho, hrd⟩ := mem_ready.1 hmem
    have hin := (Array.getElem?_eq_some_iff.1 ho).1
    have h3 : i < L.size := by omega
    have hun' : L.getD i false = false := by simp [h3] at hun ⊢; exact hun
    have hrd' : ∀ e ∈ o.after, Region.binds .any e = true → L.getD e.on false = true := fun e he hb => hrd e he (binds_any hb)
    by_cases hk : i < k
    · rw [go_succ md ops fuel n L hi]
      simp only [WPix, ho]
      rw [wpOper_V]
      have ho2 : (ops.toList.take k)[i]? = some o := by rw [List.getElem?_take, if_pos hk]; simpa using ho
      rw [← wpOperV_congr (t := Av.T V (ops.toList.take k) t0 i) (ag.sees D cl ho hk hkn hun' hrd')]
      refine hv i o ho2 _ ?_
      refine ih _ _ _ (by simpa using hs) (by have := left_set hs hin hun'; omega) (cl.set ho hrd') (fun j hj hlj => ?_) (ag.put D ho hk fun j hj => ?_)
      · by_cases hji : i = j
        · subst hji; exact hk
        · rw [getD_set_ne false hji] at hlj; exact hlt j hj hlj
      · by_cases hji : i = j
        · subst hji; simp [h3]
        · rw [getD_set_ne false hji]
          have : (j == i) = false := by simp; exact fun e => hji e.symm
          rw [this, Bool.or_false]
    · refine fin (fuel + 1) n L s hs hl (fun j hj => ?_) ag
      by_cases hjk : j < k
      · have := cl.bef D i o ho j (by omega) (D.sfx j i o ho (by omega) (by omega)) hrd'
        rw [this]; simp [hjk]
      · cases hlj : L.getD j false with
        | false => simp [hjk]
        | true => exact absurd (hlt j hj hlj) hjk

/-- A region that draws its order. -/
theorem WP_draw {id : Nat} {l : List Oper} {Q : Exit → Env → Heap → Prop} (k : Nat) (hok : (drawOk l.toArray k && decide (k ≤ l.length)) = true)
    (hh : WPp C l.toArray (l.take k) t h fun t' => WPl C l.toArray Q (l.drop k) t' h) : WP C (.region id l.toArray true) Q t h := by
  simp only [Bool.and_eq_true, decide_eq_true_eq] at hok
  have D := drawOk_spec hok.1
  obtain ⟨V, hv, hK⟩ := WPp_vals _ _ hh
  have hlen : (l.take k).length = k := by simp [hok.2]
  rw [hlen] at hK
  have main : ∀ md n, WPix C l.toArray Q (Region.linearise md l.toArray n) t h := fun md n => by
    unfold Region.linearise
    refine pre_sound D md (by simpa using hok.2) (V := V) (t0 := t) hv hK _ _ _ _ (by simp) ?_ (fun j oj hj hl => ?_) (fun j hj hl => ?_) (Ag.start _ _ _ _ fun j hj => ?_)
    · unfold left
      have : (List.range l.toArray.size).filter (fun i => !(Array.replicate l.toArray.size false).getD i true) = List.range l.toArray.size := by
        rw [List.filter_eq_self]
        intro i hi
        have := List.mem_range.1 hi
        have h8 : i < (Array.replicate l.toArray.size false).size := by simpa using this
        simp at this ⊢
        simp [this]
      rw [this, List.length_range]
    · have h8 := (Array.getElem?_eq_some_iff.1 hj).1
      simp at h8 hl
      simp [h8] at hl
    · simp at hj hl
      simp [hj] at hl
    · have : j < l.length := by omega
      simp [this]
  show ∀ tp, WPix C l.toArray Q (Region.schedule (C.P.follows .mixedOrders) l.toArray tp) t h
  intro tp
  unfold Region.schedule
  split
  · exact main _ _
  · exact main _ _

end
end Go.Av
