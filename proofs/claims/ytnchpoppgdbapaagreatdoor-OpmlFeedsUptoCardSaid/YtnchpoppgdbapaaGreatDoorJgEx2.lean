/- Closed runs: operations that change memory, calls, code. -/
import Derived.Test.YtnchpoppgdbapaaGreatDoorJgEx1
set_option linter.unusedSimpArgs false
set_option linter.unusedVariables false
namespace Go.Av
open Go.RowKit

abbrev CallX := FuncId → List AVal → Heap → Option (AVal × Heap)

section
variable (C : Ctx)

def roomyB (n bytes : Nat) : Bool := decide (n ≤ maxLen) && decide (n * bytes ≤ 140737488355328)
def appX (T : TypeId) (x y : AVal) (h : Heap) : Option (AVal × Heap) := match elmT C.P T with
  | none => none
  | some e => match szOf C.P e with
    | none => none
    | some n => match byT C.P e with
      | none => none
      | some by' => match elemsOf h n y with
        | none => none
        | some ys => if 0 < n ∧ (zroT C.P e).map (fun z => z.cells.length) = some n then match x with
          | .nil (.slice none 0 0) => if roomyB ys.length by' = true then some (.hs h.length 0 0 ys.length true, h ++ [.row e n 0 ys]) else none
          | .hs p ver off len room => match getRow h p ver with
            | some (e', m, rows) => if e' = e ∧ m = n ∧ off = 0 ∧ roomyB (len + ys.length) by' = true then
                (if room = true then (if len = rows.length then some (.hs p (ver + 1) 0 (len + ys.length) true, h.set p (.row e n (ver + 1) (rows ++ ys))) else none)
                else (if 0 < ys.length ∧ len ≤ rows.length then some (.hs h.length 0 0 (len + ys.length) true, h ++ [.row e n 0 (rows.take len ++ ys)]) else none)) else none
            | none => none
          | .ez => if ys = [] then some (.ez, h) else if roomyB ys.length by' = true then some (.hs h.length 0 0 ys.length true, h ++ [.row e n 0 ys]) else none
          | _ => none else none
def ustrX (T : TypeId) (x n : AVal) (h : Heap) : Option (AVal × Heap) := match n with
  | .int .i64 m => if m = 0 then (match x with | .pa => some (.str [], h) | _ => none)
    else match x with
      | .hp p ver 0 0 => match getRow h p ver with
        | some (e, k, rows) => if k = 1 ∧ bptr C.P T e = true ∧ 0 < m ∧ m.toNat ≤ rows.length then match bytesA (rows.take m.toNat) with
          | some bs => some (.str bs, h.set p .dead)
          | none => none else none
        | none => none
      | _ => none
  | _ => none
def rowsX (T len : Nat) (idx : List Nat) (xs : List AVal) (h : Heap) : Option (AVal × Heap) := match elmT C.P T with
  | none => none
  | some e => match szOf C.P e with
    | none => none
    | some n => if len = 0 then (if idx.length = 0 then some (.ez, h) else none)
      else if idx.length = len ∧ 0 < n ∧ len * n ≤ 16777216 ∧ idx = List.range len ∧ (zroT C.P e).map (fun z => (z.cells.length, z.cells.all AVal.sto)) = some (n, true) ∧
        xs.all (fun x => decide (x.cells.length = n) && x.lies) = true then some (.hs h.length 0 0 len true, h ++ [.row e n 0 xs]) else none
def storeX (T : TypeId) (x y : AVal) (h : Heap) : Option (AVal × Heap) := match x with
  | .hp p ver i off => match getRow h p ver with
    | some (e, n, rows) => match rows[i]? with
      | some r => if szOf C.P T = some y.cells.length ∧ y.lies = true ∧ off + y.cells.length ≤ n then some (undefA, h.set p (.row e n ver (rows.set i (putA r off y.cells)))) else none
      | none => none
    | none => none
  | _ => none
def nextX (x : AVal) (isS : Bool) (h : Heap) : Option (AVal × Heap) := match x with
  | .hp p 0 0 0 => if isS = true then match h[p]? with
    | some (.iter s pos) => if pos < s.length then some (.tup [.bool true, .int .i64 pos, .int .i32 (Utf8.decode ⟨s.toArray⟩ pos).1], h.set p (.iter s (pos + (Utf8.decode ⟨s.toArray⟩ pos).2))) else some (.tup [.bool false], h)
    | _ => none else none
  | _ => none

/-- An operation. -/
def opX (call : CallX) (o : Op) (t : Env) (h : Heap) : Option (AVal × Heap) :=
  match pureX C o t h with
  | some v => some (v, h)
  | none =>
  let ρ := aev C.G t
  match o with
  | .alloc e => match zroT C.P e with
    | some z => if 0 < z.cells.length ∧ z.cells.all AVal.sto = true ∧ z.lies = true then some (.hp h.length 0 0 0, h ++ [.row e z.cells.length 0 [z]]) else none
    | none => none
  | .box e x => if 0 < (ρ x).cells.length ∧ (ρ x).lies = true then some (.hp h.length 0 0 0, h ++ [.row e (ρ x).cells.length 0 [ρ x]]) else none
  | .buildSlice T len parts => rowsX C T len (parts.toList.map (·.1)) (parts.toList.map fun q => ρ q.2) h
  | .store T x y => storeX C T (ρ x) (ρ y) h
  | .range T x => match ρ x with
    | .str s => if strT C.P T = true then some (.hp h.length 0 0 0, h ++ [.iter s 0]) else none
    | _ => none
  | .next x b => nextX (ρ x) b h
  | .call c => match c.callee with
    | .builtin .append => match c.args.toList, c.argTypes.toList with
      | [x, y], [T, T'] => if T' = T ∨ strT C.P T' = true then appX C T (ρ x) (ρ y) h else none
      | _, _ => none
    | .builtin .unsafeString => match c.args.toList, c.argTypes.toList with
      | [x, n], [T, _] => ustrX C T (ρ x) (ρ n) h
      | _, _ => none
    | .value f => match ρ f with
      | .fn (.func g) first captured => call g (first ++ c.args.toList.map ρ ++ captured) h
      | _ => none
    | _ => none
  | _ => none

variable {C} {t : Env} {h h' : Heap} {call : CallX}

theorem roomyB_ok {n b : Nat} (g : roomyB n b = true) : roomy n b := by
  simpa [roomyB, roomy] using g
theorem appX_ok {T : TypeId} {x y v : AVal} (g : appX C T x y h = some (v, h')) {K : AVal → Heap → Prop} (hk : K v h') : wpAppend C.P T x y h K := by
  unfold appX at g; unfold wpAppend
  split at g
  · cases g
  · rename_i e he
    refine need_of he ?_
    split at g
    · cases g
    · rename_i n hn
      refine need_of hn ?_
      split at g
      · cases g
      · rename_i b hb
        refine need_of hb ?_
        split at g
        · cases g
        · rename_i ys hy
          refine need_of hy ?_
          split at g
          · rename_i hc
            refine ⟨hc.1, hc.2, ?_⟩
            split at g
            · simp only []
              split at g
              · rename_i hr; cases g; exact ⟨roomyB_ok hr, hk⟩
              · cases g
            · simp only []
              split at g
              · rename_i hq
                refine need_of hq ?_
                split at g
                · rename_i hs
                  refine ⟨hs.1, hs.2.1, hs.2.2.1, roomyB_ok hs.2.2.2, ?_⟩
                  split at g
                  · rename_i hr; rw [if_pos hr]
                    split at g
                    · rename_i hl; cases g; exact ⟨hl, hk⟩
                    · cases g
                  · rename_i hr; rw [if_neg hr]
                    split at g
                    · rename_i hl; cases g; exact ⟨hl.1, hl.2, hk⟩
                    · cases g
                · cases g
              · cases g
            · simp only []
              split at g
              · rename_i hz; rw [if_pos hz]; cases g; exact hk
              · rename_i hz; rw [if_neg hz]
                split at g
                · rename_i hr; cases g; exact ⟨roomyB_ok hr, hk⟩
                · cases g
            · cases g
          · cases g
theorem ustrX_ok {T : TypeId} {x y v : AVal} (g : ustrX C T x y h = some (v, h')) {K : AVal → Heap → Prop} (hk : K v h') : ustrK C.P T x y h K := by
  unfold ustrX at g; unfold ustrK
  split at g
  · simp only []
    split at g
    · rename_i hm; rw [if_pos hm]
      split at g
      · cases g; exact hk
      · cases g
    · rename_i hm; rw [if_neg hm]
      split at g
      · simp only []
        split at g
        · rename_i hq
          refine need_of hq ?_
          split at g
          · rename_i hs
            split at g
            · rename_i hb; cases g; exact ⟨hs.1, hs.2.1, hs.2.2.1, hs.2.2.2, need_of hb hk⟩
            · cases g
          · cases g
        · cases g
      · cases g
  · cases g

theorem opX_ok (hcall : ∀ f args h r h', call f args h = some (r, h') → Sat C f args h fun r2 h2 => r2 = r ∧ h2 = h') {o : Op} {v : AVal} (g : opX C call o t h = some (v, h')) {K : AVal → Heap → Prop} (hk : K v h') : wpOp C o t h K := by
  unfold opX at g
  split at g
  · rename_i hp; cases g; exact pureX_ok hp hk
  · rename_i hp
    clear hp
    cases o with
    | alloc e =>
      simp only [] at g
      unfold wpOp; simp only []
      split at g
      · rename_i hz
        split at g
        · rename_i hs; cases g; exact need_of hz ⟨hs.1, hs.2.1, hs.2.2, hk⟩
        · cases g
      · cases g
    | box e x =>
      simp only [] at g
      unfold wpOp; simp only []
      split at g
      · rename_i hs; cases g; exact ⟨hs.1, hs.2, hk⟩
      · cases g
    | buildSlice T len parts =>
      simp only [rowsX] at g
      unfold wpOp; simp only []
      split at g
      · cases g
      · rename_i he
        refine need_of he ?_
        split at g
        · cases g
        · rename_i hn
          refine need_of hn ?_
          split at g
          · rename_i h0; rw [if_pos h0]
            split at g
            · rename_i hp; cases g; exact ⟨by simpa using hp, hk⟩
            · cases g
          · rename_i h0; rw [if_neg h0]
            split at g
            · rename_i hs; cases g
              obtain ⟨s1, s2, s3, s4, s5, s6⟩ := hs
              refine ⟨by simpa using s1, by omega, s2, s3, s4, s5, fun x hx => ?_, .inl hk⟩
              simpa using List.all_eq_true.1 s6 x hx
            · cases g
    | store T x y =>
      simp only [storeX] at g
      unfold wpOp; simp only []
      split at g
      · rename_i e; rw [e]; simp only []
        split at g
        · rename_i hq
          refine need_of hq ?_
          split at g
          · rename_i hr
            refine need_of hr ?_
            split at g
            · rename_i hs; cases g; exact ⟨hs.1, hs.2.1, hs.2.2, hk⟩
            · cases g
          · cases g
        · cases g
      · cases g
    | range T x =>
      simp only [] at g
      unfold wpOp; simp only []
      split at g
      · rename_i e; rw [e]; simp only []
        split at g
        · rename_i hs; cases g; exact ⟨hs, hk⟩
        · cases g
      · cases g
    | next x b =>
      simp only [nextX] at g
      unfold wpOp; simp only []
      split at g
      · rename_i e; rw [e]; simp only []
        split at g
        · rename_i hb
          refine ⟨hb, ?_⟩
          split at g
          · rename_i hi; rw [hi]; simp only []
            split at g
            · rename_i hl; cases g; exact ⟨fun _ => hk, fun hn => absurd hl hn⟩
            · rename_i hl; cases g; exact ⟨fun hn => absurd hn hl, fun _ => hk⟩
          · cases g
        · cases g
      · cases g
    | call c =>
      simp only [] at g
      unfold wpOp; simp only []
      unfold wpCall; simp only []
      split at g
      · rename_i hc; rw [hc]; simp only []
        split at g
        · rename_i h1 h2; rw [h1, h2]; simp only []
          split at g
          · rename_i hT; exact ⟨hT, appX_ok g hk⟩
          · cases g
        · cases g
      · rename_i hc; rw [hc]; simp only []
        split at g
        · rename_i h1 h2; rw [h1, h2]; simp only []
          exact ustrX_ok g hk
        · cases g
      · rename_i hc; rw [hc]; simp only []
        split at g
        · rename_i e; rw [e]; simp only []
          exact (hcall _ _ _ _ _ g).mono fun r2 h2 ⟨e1, e2⟩ => by rw [e1, e2]; exact hk
        · cases g
      · cases g
    | _ => cases g
end
end Go.Av
