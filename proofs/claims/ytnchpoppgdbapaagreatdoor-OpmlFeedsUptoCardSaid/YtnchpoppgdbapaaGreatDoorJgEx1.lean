/- Closed runs: a run over abstract values that is reckoned out; what it gives is what the code does. -/
import Derived.Test.YtnchpoppgdbapaaGreatDoorJgAv23
set_option linter.unusedSimpArgs false
set_option linter.unusedVariables false
namespace Go.Av
open Go.RowKit

section
variable (C : Ctx)

def loadX (T : TypeId) (x : AVal) (h : Heap) : Option AVal := match x with
  | .ad cs => pickT C.P T cs
  | .hp p ver i off => match getRow h p ver with
    | some (_, _, rows) => match rows[i]? with
      | some r => pickT C.P T (r.cells.drop off)
      | none => none
    | none => none
  | _ => none
def nilX (x : AVal) (h : Heap) : Option AVal := match x with
  | .hp p ver i off => if (getRow h p ver).isSome = true then some (.hp p ver i off) else none
  | .ad cs => some (.ad cs)
  | .fn (.func f) a b => some (.fn (.func f) a b)
  | .ifc T v => some (.ifc T v)
  | _ => none
def binX (h : Heap) (op : BinOp) (T : TypeId) (x y : AVal) : Option AVal := match x, y with
  | .sl _ [], .nil (.slice none 0 0) => none
  | x, y => abin C.P h op T x y
def convX (src dst : TypeId) (x : AVal) (h : Heap) : Option AVal := match x with
  | .hp p ver 0 0 => match getRow h p ver with
    | some (e, n, rows) => match rows with
      | [] => none
      | _ :: _ => if ptrConv C.P src dst e n = true then some (.hp p ver 0 0) else none
    | none => none
  | .hs p v o l r => if bytesStr C.P src dst = true then match elemsOf h 1 (.hs p v o l r) with
    | some ys => match bytesA ys with | some bs => some (.str bs) | none => none
    | none => none else none
  | .int k n => aconv C.P src dst (.int k n)
  | .str s => aconv C.P src dst (.str s)
  | _ => none
def fieldAX (T : TypeId) (f : Nat) (x : AVal) (h : Heap) : Option AVal := match fOff C.P T f with
  | some (o, _, n) => if n = 0 then none else match x with
    | .hp p ver i off => if (getRow h p ver).isSome = true then some (.hp p ver i (off + o)) else none
    | .ad cs => if o < cs.length then some (.ad (cs.drop o)) else none
    | _ => none
  | none => none
def fieldX (T : TypeId) (f : Nat) (x : AVal) : Option AVal := match fOff C.P T f with
  | some (o, fT, _) => match x with
    | .agg cs => pickT C.P fT (cs.drop o)
    | _ => none
  | none => none
def indexAX (T : TypeId) (x i : AVal) (h : Heap) : Option AVal := match i with
  | .int _ n => if 0 ≤ n then match x with
    | .sl m es => match elmT C.P T with
      | some e => if szOf C.P e = some m ∧ 0 < m then match es[n.toNat]? with
        | some r => some (.ad r.cells)
        | none => none else none
      | none => none
    | .hs p ver off len _ => match elmT C.P T, getRow h p ver with
      | some e, some (_, m, _) => if szOf C.P e = some m ∧ n < len then some (.hp p ver (off + n.toNat) 0) else none
      | _, _ => none
    | .hp p ver j off => match arrT C.P T with
      | some (k, e) => match szOf C.P e with
        | some m => if (getRow h p ver).isSome = true ∧ n < k then some (.hp p ver j (off + n.toNat * m)) else none
        | none => none
      | none => none
    | .ad cs => match arrT C.P T with
      | some (k, e) => match szOf C.P e with
        | some m => if n < k ∧ n.toNat * m < cs.length then some (.ad (cs.drop (n.toNat * m))) else none
        | none => none
      | none => none
    | _ => none else none
  | _ => none
def indexX (T : TypeId) (x i : AVal) : Option AVal := match i with
  | .int _ n => if 0 ≤ n then match x with
    | .str s => if strT C.P T = true then match s[n.toNat]? with
      | some b => some (.int .u8 b.toNat)
      | none => none else none
    | .agg cs => match arrT C.P T with
      | some (k, e) => match szOf C.P e with
        | some m => if n < k then pickT C.P e (cs.drop (n.toNat * m)) else none
        | none => none
      | none => none
    | _ => none else none
  | _ => none
def buildX (T : TypeId) (parts : List (Nat × AVal)) : Option AVal := match zroT C.P T with
  | some z => if z.cells.all AVal.sto = true then match nFld C.P T with
    | some _ => match fillA (fun i => (fOff C.P T i).map fun q => (q.1, q.2.2)) z.cells parts with
      | some cs => some (.agg cs)
      | none => none
    | none => match arrT C.P T with
      | some (_, e) => match szOf C.P e with
        | some n => match fillA (fun i => some (i * n, n)) z.cells parts with
          | some cs => some (.agg cs)
          | none => none
        | none => none
      | none => none else none
  | none => none
def callPX (c : Call) (ρ : Operand → AVal) (h : Heap) : Option AVal := match c.callee with
  | .builtin .len => match c.args.toList, c.argTypes.toList with
    | [x], [T] => match alen C.P h T (ρ x) with | some n => some (.int .i64 n) | none => none
    | _, _ => none
  | .builtin .max => match c.args.toList with
    | [x, y] => match ρ x, ρ y with | .int kd a, .int _ b => some (.int kd (if b > a then b else a)) | _, _ => none
    | _ => none
  | .builtin .min => match c.args.toList with
    | [x, y] => match ρ x, ρ y with | .int kd a, .int _ b => some (.int kd (if b < a then b else a)) | _, _ => none
    | _ => none
  | .builtin .unsafeSliceData => match c.args.toList with
    | [x] => match ρ x with
      | .hs p ver 0 len true => if (getRow h p ver).isSome = true then (if 0 < len then some (.hp p ver 0 0) else some .pa) else none
      | .nil (.slice none 0 0) => some .pa
      | _ => none
    | _ => none
  | _ => none

/-- An operation that changes no memory. -/
def pureX (o : Op) (t : Env) (h : Heap) : Option AVal :=
  let ρ := aev C.G t
  match o with
  | .move x => some (ρ x)
  | .assign x => some (ρ x)
  | .pick c a b => match ρ c with | .bool true => some (ρ a) | .bool false => some (ρ b) | _ => none
  | .load T x => loadX C T (ρ x) h
  | .nilCheck x => nilX (ρ x) h
  | .binOp op T x y _ => binX C h op T (ρ x) (ρ y)
  | .unOp op _ x => aun op (ρ x)
  | .convert s d x => convX C s d (ρ x) h
  | .makeInterface T x => if ifcT C.P T = some false then some (.ifc T (ρ x)) else none
  | .makeFunc f first captured => some (.fn f (first.toList.map ρ) (captured.toList.map ρ))
  | .slice T x lo hi mx => aslice C.P h T (ρ x) (lo.map ρ) (hi.map ρ) (mx.map ρ)
  | .fieldAddr T x f => fieldAX C T f (ρ x) h
  | .field T x f => fieldX C T f (ρ x)
  | .indexAddr T x i => indexAX C T (ρ x) (ρ i) h
  | .index T x i => indexX C T (ρ x) (ρ i)
  | .extract x i => match ρ x with | .tup vs => vs[i]? | _ => none
  | .build T parts => buildX C T (parts.toList.map fun q => (q.1, ρ q.2))
  | .call c => callPX C c ρ h
  | _ => none

variable {C} {t : Env} {h : Heap}

theorem need_of {α : Type} {x : Option α} {a : α} {f : α → Prop} (e : x = some a) (h : f a) : need x f := by rw [e]; exact h
theorem loadX_ok {T : TypeId} {x v : AVal} (g : loadX C T x h = some v) {k : AVal → Prop} (hk : k v) : loadK C T x h k := by
  unfold loadX at g; unfold loadK
  split at g
  · exact need_of g hk
  · split at g
    · rename_i hq
      split at g
      · rename_i hr
        exact need_of hq (need_of hr (need_of g hk))
      · cases g
    · cases g
  · cases g
theorem binX_ok {op : BinOp} {T : TypeId} {x y v : AVal} (g : binX C h op T x y = some v) {k : AVal → Prop} (hk : k v) : binK C.P h op T x y k := by
  unfold binX at g
  split at g
  · cases g
  · rename_i hne
    rw [binK_of fun n e1 e2 => hne n e1 e2]
    exact need_of g hk
theorem convX_ok {s d : TypeId} {x v : AVal} (g : convX C s d x h = some v) {k : AVal → Prop} (hk : k v) : convK C.P s d x h k := by
  unfold convX at g
  split at g
  · split at g
    · rename_i hq
      split at g
      · cases g
      · split at g
        · rename_i hp; cases g
          exact need_of hq ⟨hp, by simp, hk⟩
        · cases g
    · cases g
  · split at g
    · rename_i hb
      split at g
      · rename_i hy
        split at g
        · rename_i hz
          cases g
          exact ⟨hb, need_of hy (need_of hz hk)⟩
        · cases g
      · cases g
    · cases g
  · exact need_of g hk
  · exact need_of g hk
  · cases g

theorem pureX_ok {o : Op} {v : AVal} (g : pureX C o t h = some v) {K : AVal → Heap → Prop} (hk : K v h) : wpOp C o t h K := by
  cases o with
  | move x => simp only [pureX, Option.some.injEq] at g; subst g; exact hk
  | assign x => simp only [pureX, Option.some.injEq] at g; subst g; exact hk
  | pick c a b =>
    simp only [pureX] at g
    unfold wpOp; simp only []
    split at g
    · rename_i e; cases g; rw [e]; exact And.intro (fun _ => hk) (fun e => Bool.noConfusion e)
    · rename_i e; cases g; rw [e]; exact And.intro (fun e => Bool.noConfusion e) (fun _ => hk)
    · cases g
  | load T x =>
    have := loadX_ok (k := fun v => K v h) g hk
    unfold loadK at this; unfold wpOp; simp only []
    exact this
  | nilCheck x =>
    simp only [pureX, nilX] at g
    unfold wpOp; simp only []
    split at g
    · rename_i e; rw [e]
      split at g
      · rename_i e2; cases g; exact ⟨e2, hk⟩
      · cases g
    · rename_i e; rw [e]; cases g; exact hk
    · rename_i e; rw [e]; cases g; exact hk
    · rename_i e; rw [e]; cases g; exact hk
    · cases g
  | binOp op T x y _ => exact binX_ok (k := fun v => K v h) g hk
  | unOp op _ x => exact need_of g hk
  | convert s d x => exact convX_ok (k := fun v => K v h) g hk
  | makeInterface T x =>
    simp only [pureX] at g
    split at g
    · rename_i e; cases g; exact ⟨e, hk⟩
    · cases g
  | makeFunc f a b => simp only [pureX, Option.some.injEq] at g; subst g; exact hk
  | slice T x lo hi mx => exact need_of g hk
  | fieldAddr T x f =>
    simp only [pureX, fieldAX] at g
    unfold wpOp; simp only []
    split at g
    · rename_i e
      split at g
      · cases g
      · rename_i hn
        refine need_of e ⟨hn, ?_⟩
        split at g
        · rename_i e; rw [e]
          split at g
          · rename_i e2; cases g; exact ⟨e2, hk⟩
          · cases g
        · rename_i e; rw [e]
          split at g
          · rename_i e2; cases g; exact ⟨e2, hk⟩
          · cases g
        · cases g
    · cases g
  | field T x f =>
    simp only [pureX, fieldX] at g
    unfold wpOp; simp only []
    split at g
    · rename_i e
      refine need_of e ?_
      split at g
      · rename_i e; rw [e]; exact need_of g hk
      · cases g
    · cases g
  | indexAddr T x i =>
    simp only [pureX, indexAX] at g
    unfold wpOp; simp only []
    split at g
    · rename_i ei; rw [ei]; simp only []
      split at g
      · rename_i h0
        split at g
        · rename_i e; rw [e]; simp only []
          split at g
          · rename_i he
            split at g
            · rename_i hs
              split at g
              · rename_i hr; cases g; exact need_of he ⟨hs.1, h0, hs.2, need_of hr hk⟩
              · cases g
            · cases g
          · cases g
        · rename_i e; rw [e]; simp only []
          split at g
          · rename_i he hr
            split at g
            · rename_i hs; cases g; exact need_of he (need_of hr ⟨hs.1, h0, hs.2, hk⟩)
            · cases g
          · cases g
        · rename_i e; rw [e]; simp only []
          split at g
          · rename_i he
            split at g
            · rename_i hs
              split at g
              · rename_i hc; cases g; exact need_of he (need_of hs ⟨hc.1, h0, hc.2, hk⟩)
              · cases g
            · cases g
          · cases g
        · rename_i e; rw [e]; simp only []
          split at g
          · rename_i he
            split at g
            · rename_i hs
              split at g
              · rename_i hc; cases g; exact need_of he (need_of hs ⟨h0, hc.1, hc.2, hk⟩)
              · cases g
            · cases g
          · cases g
        · cases g
      · cases g
    · cases g
  | index T x i =>
    simp only [pureX, indexX] at g
    unfold wpOp; simp only []
    split at g
    · rename_i ei; rw [ei]; simp only []
      split at g
      · rename_i h0
        split at g
        · rename_i e; rw [e]; simp only []
          split at g
          · rename_i he
            split at g
            · rename_i hr; cases g; exact ⟨he, h0, need_of hr hk⟩
            · cases g
          · cases g
        · rename_i e; rw [e]; simp only []
          split at g
          · rename_i he
            split at g
            · rename_i hs
              split at g
              · rename_i hc; exact need_of he (need_of hs ⟨h0, hc, need_of g hk⟩)
              · cases g
            · cases g
          · cases g
        · cases g
      · cases g
    · cases g
  | extract x i =>
    simp only [pureX] at g
    unfold wpOp; simp only []
    split at g
    · rename_i e; rw [e]; exact need_of g hk
    · cases g
  | build T parts =>
    simp only [pureX, buildX] at g
    unfold wpOp; simp only []
    split at g
    · rename_i hz
      split at g
      · rename_i ha
        refine need_of hz ⟨ha, ?_⟩
        split at g
        · rename_i hn; rw [hn]; simp only []
          split at g
          · rename_i hf; cases g; exact need_of hf hk
          · cases g
        · rename_i hn; rw [hn]
          split at g
          · rename_i hr; rw [hr]; simp only []
            split at g
            · rename_i hs
              split at g
              · rename_i hf; cases g; exact need_of hs (need_of hf hk)
              · cases g
            · cases g
          · cases g
      · cases g
    · cases g
  | call c =>
    simp only [pureX, callPX] at g
    unfold wpOp; simp only []
    unfold wpCall; simp only []
    split at g
    · rename_i hc; rw [hc]; simp only []
      split at g
      · rename_i h1 h2; rw [h1, h2]; simp only []
        split at g
        · rename_i hn; cases g; exact need_of hn hk
        · cases g
      · cases g
    · rename_i hc; rw [hc]; simp only []
      split at g
      · rename_i h1; rw [h1]; simp only []
        split at g
        · rename_i e1 e2; cases g; rw [e1, e2]; unfold maxK; simp only [decide_eq_true_eq]; exact hk
        · cases g
      · cases g
    · rename_i hc; rw [hc]; simp only []
      split at g
      · rename_i h1; rw [h1]; simp only []
        split at g
        · rename_i e1 e2; cases g; rw [e1, e2]; unfold maxK; simp only [decide_eq_true_eq]; exact hk
        · cases g
      · cases g
    · rename_i hc; rw [hc]; simp only []
      split at g
      · rename_i h1; rw [h1]; simp only []
        split at g
        · rename_i e1; rw [e1]; unfold sdataK; simp only []
          split at g
          · rename_i hs
            refine ⟨hs, ?_⟩
            split at g
            · rename_i hl; cases g; rw [if_pos hl]; exact hk
            · rename_i hl; cases g; rw [if_neg hl]; exact hk
          · cases g
        · rename_i e1; rw [e1]; cases g; exact hk
        · cases g
      · cases g
    · cases g
  | _ => cases g
end
end Go.Av
