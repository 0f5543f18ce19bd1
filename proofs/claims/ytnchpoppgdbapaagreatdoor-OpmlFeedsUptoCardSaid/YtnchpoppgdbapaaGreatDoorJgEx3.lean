/- Closed runs: code, calls; a contract at no memory holds at any. -/
import Derived.Test.YtnchpoppgdbapaaGreatDoorJgEx2b
import Derived.Test.YtnchpoppgdbapaaGreatDoorJgDr
set_option linter.unusedSimpArgs false
set_option linter.unusedVariables false
namespace Go.Av
open Go.RowKit

/-- Slots, as a tree. -/
inductive Tr where
  | lf
  | nd (l : Tr) (v : AVal) (r : Tr)
namespace Tr
def get : Tr → Nat → AVal
  | .lf, _ => undefA
  | .nd _ v _, 0 => v
  | .nd l _ r, i + 1 => match i % 2 with
    | 0 => l.get (i / 2)
    | _ => r.get (i / 2)
def set : Tr → Nat → AVal → Tr
  | .lf, _, _ => .lf
  | .nd l _ r, 0, x => .nd l x r
  | .nd l v r, i + 1, x => match i % 2 with
    | 0 => .nd (l.set (i / 2) x) v r
    | _ => .nd l v (r.set (i / 2) x)
def mk : Nat → Tr
  | 0 => .lf
  | d + 1 => .nd (mk d) undefA (mk d)
def Full : Nat → Tr → Prop
  | 0, _ => True
  | k + 1, .nd l _ r => Full k l ∧ Full k r
  | _ + 1, .lf => False
theorem full_mk : ∀ k, Full k (mk k)
  | 0 => trivial
  | k + 1 => ⟨full_mk k, full_mk k⟩
theorem full_set : ∀ (k : Nat) (t : Tr) (i : Nat) (x : AVal), Full k t → Full k (t.set i x)
  | 0, _, _, _, _ => trivial
  | k + 1, .nd l v r, 0, x, h => h
  | k + 1, .nd l v r, i + 1, x, h => by
    simp only [set]
    split
    · exact ⟨full_set k l _ x h.1, h.2⟩
    · exact ⟨h.1, full_set k r _ x h.2⟩
theorem get_mk : ∀ (k i : Nat), (mk k).get i = undefA
  | 0, i => rfl
  | k + 1, 0 => rfl
  | k + 1, i + 1 => by
    simp only [mk, get]
    split <;> exact get_mk k _
theorem get_set : ∀ (k : Nat) (t : Tr) (i j : Nat) (x : AVal), Full k t → i + 1 < 2 ^ k → (t.set i x).get j = if j = i then x else t.get j
  | 0, t, i, j, x, _, h => by simp at h
  | k + 1, .nd l v r, 0, 0, x, _, _ => rfl
  | k + 1, .nd l v r, 0, j + 1, x, _, _ => rfl
  | k + 1, .nd l v r, i + 1, 0, x, _, _ => by simp only [set]; split <;> rfl
  | k + 1, .nd l v r, i + 1, j + 1, x, hf, h => by
    have hp : 2 ^ (k + 1) = 2 * 2 ^ k := by rw [Nat.pow_succ, Nat.mul_comm]
    rw [hp] at h
    have hk : i / 2 + 1 < 2 ^ k := by omega
    simp only [set]
    split
    · rename_i hi
      simp only [get]
      split
      · rename_i hj
        rw [get_set k l (i / 2) (j / 2) x hf.1 hk]
        by_cases e : j = i
        · subst e; simp
        · rw [if_neg (by omega), if_neg (by omega)]
      · rename_i hj
        rw [if_neg (by intro e; have : j = i := by omega
                       subst this; exact hj hi)]
    · rename_i hi
      simp only [get]
      split
      · rename_i hj
        rw [if_neg (by intro e; have : j = i := by omega
                       subst this; exact hi hj)]
      · rename_i hj
        have hi' : i % 2 = 1 := (Nat.mod_two_eq_zero_or_one i).resolve_left hi
        have hj' : j % 2 = 1 := (Nat.mod_two_eq_zero_or_one j).resolve_left hj
        rw [get_set k r (i / 2) (j / 2) x hf.2 hk]
        by_cases e : j = i
        · subst e; simp
        · rw [if_neg (by omega), if_neg (by omega)]
def beq : Tr → Tr → Bool
  | .lf, .lf => true
  | .nd l v r, .nd l' v' r' => beqA v v' && (l.beq l' && r.beq r')
  | _, _ => false
theorem beq_ok : ∀ (a b : Tr), beq a b = true → a = b
  | .lf, .lf, _ => rfl
  | .lf, .nd _ _ _, h => by simp [beq] at h
  | .nd _ _ _, .lf, h => by simp [beq] at h
  | .nd l v r, .nd l' v' r', h => by
    simp only [beq, Bool.and_eq_true] at h
    rw [beqA_ok _ _ h.1, beq_ok l l' h.2.1, beq_ok r r' h.2.2]
end Tr

def envL (ts : Tr) : Env := ts.get
def putL (ts : Tr) (d : Option Nat) (v : AVal) : Tr := match d with | some d => ts.set d v | none => ts
def okDst (n : Nat) (o : Oper) : Bool := match o.dst with | some d => decide (d < n) | none => true
/-- How deep the tree of so many slots is. -/
def kOf (n : Nat) : Nat := Nat.log2 (n + 1) + 1
def argsT : Tr → Nat → List AVal → Tr
  | t, _, [] => t
  | t, i, x :: l => argsT (t.set i x) (i + 1) l

theorem putL_full {k0 : Nat} (ts : Tr) (d : Option Nat) (v : AVal) (h : Tr.Full k0 ts) : Tr.Full k0 (putL ts d v) := by
  cases d
  · exact h
  · exact Tr.full_set _ _ _ _ h
theorem envL_put {k0 n : Nat} {ts : Tr} {d : Option Nat} {v : AVal} (hf : Tr.Full k0 ts) (hn : n + 1 < 2 ^ k0) (hd : ∀ i, d = some i → i < n) : envL (putL ts d v) = put (envL ts) d v := by
  cases d with
  | none => rfl
  | some d =>
    have hlt := hd d rfl
    funext i
    simp only [putL, put, envL, upd]
    exact Tr.get_set k0 ts d i v hf (by omega)
theorem argsT_full {k0 : Nat} : ∀ (l : List AVal) (t : Tr) (i : Nat), Tr.Full k0 t → Tr.Full k0 (argsT t i l)
  | [], _, _, h => h
  | x :: l, t, i, h => argsT_full l _ _ (Tr.full_set _ _ _ _ h)
theorem argsT_get {k0 : Nat} : ∀ (l : List AVal) (t : Tr) (i j : Nat), Tr.Full k0 t → i + l.length + 1 < 2 ^ k0 → (argsT t i l).get j = if i ≤ j ∧ j < i + l.length then l.getD (j - i) undefA else t.get j
  | [], t, i, j, _, _ => by rw [if_neg (by simp)]; rfl
  | x :: l, t, i, j, h, hn => by
    simp only [List.length_cons] at hn ⊢
    rw [argsT, argsT_get l _ _ _ (Tr.full_set _ _ _ _ h) (by omega), Tr.get_set k0 t i j x h (by omega)]
    by_cases h1 : j = i
    · subst h1
      rw [if_neg (by omega), if_pos rfl, if_pos (by omega)]; simp
    · by_cases h2 : i + 1 ≤ j ∧ j < i + 1 + l.length
      · rw [if_pos h2, if_pos (by omega)]
        have : j - i = (j - (i + 1)) + 1 := by omega
        rw [this]; simp
      · rw [if_neg h2, if_neg h1, if_neg (by omega)]

section
variable (C : Ctx)

def callP (call : CallX) (g : FuncId) (args : List AVal) (h : Heap) : Option AVal := match call g args h with
  | some (r, h1) => if begH h h1 = true then frzX h1 h.length 20 r else none
  | none => none
/-- In a region that draws its order: a list by value, a call that changes nothing. -/
def heldX (call : CallX) (o : Op) (t : Env) (h : Heap) : Option AVal := match pureX C o t h with
  | some v => some v
  | none => match o with
    | .buildSlice T len parts => match rowsX C T len (parts.toList.map (·.1)) (parts.toList.map fun q => aev C.G t q.2) h with
      | some (.ez, _) => some .ez
      | some (.hs _ _ _ _ _, _) => match (elmT C.P T).bind (szOf C.P) with | some n => some (.sl n (parts.toList.map fun q => aev C.G t q.2)) | none => none
      | _ => none
    | .call c => match c.callee with
      | .value f => match aev C.G t f with
        | .fn (.func g) first captured => callP call g (first ++ c.args.toList.map (aev C.G t) ++ captured) h
        | _ => none
      | _ => none
    | _ => none
def isHeldB : Op → Bool
  | .buildSlice _ _ _ => true
  | .move _ | .assign _ | .pick _ _ _ | .load _ _ | .nilCheck _ | .binOp _ _ _ _ _ | .unOp _ _ _ | .convert _ _ _ | .makeInterface _ _ | .makeFunc _ _ _ | .slice _ _ _ _ _
  | .fieldAddr _ _ _ | .field _ _ _ | .indexAddr _ _ _ | .index _ _ _ | .extract _ _ | .build _ _ => true
  | .call c => match c.callee with | .builtin .len => true | .builtin .max => true | .builtin .min => true | .builtin .unsafeSliceData => true | .value _ => true | _ => false
  | _ => false
/-- How much of a region may come in any order: as much as does. -/
def drawK (l : List Oper) : List Nat := match (List.range (l.length + 1)).reverse.filter (fun k => (l.take k).all (fun o => isHeldB o.op) && (preOk l.toArray k && decide (k ≤ l.length))) with
  | [] => []
  | m :: rest => (m :: rest).filter fun k => decide (m ≤ k + 2)
theorem drawK_mem {l : List Oper} {k : Nat} (h : k ∈ drawK l) : ((l.take k).all (fun o => isHeldB o.op) && (preOk l.toArray k && decide (k ≤ l.length))) = true := by
  unfold drawK at h
  split at h
  · cases h
  · rename_i m rest hq
    have h1 := (List.mem_filter.1 h).1
    rw [← hq] at h1
    exact (List.mem_filter.1 h1).2

/-- .. and one more, that changes memory. -/
def drawE (l : List Oper) : Option (Nat × Oper) := match drawK l with
  | _ :: _ => let k := (l.takeWhile fun o => isHeldB o.op).length
    match l[k]? with
    | some oe => if preOk l.toArray (k + 1) = true then some (k, oe) else none
    | none => none
  | [] => none

def operX (call : CallX) (ops : Array Oper) (o : Oper) (ts : Tr) (h : Heap) : Option (Tr × Heap) :=
  match o.guard with
  | none => match opX C call o.op (envL ts) h with | some (v, h') => some (putL ts o.dst v, h') | none => none
  | some (j, want) => match guardA ops (envL ts) j with
    | some b => if b = some want then (match opX C call o.op (envL ts) h with | some (v, h') => some (putL ts o.dst v, h') | none => none) else some (putL ts o.dst undefA, h)
    | none => none
def operPX (call : CallX) (ops : Array Oper) (o : Oper) (ts : Tr) (h : Heap) : Option AVal :=
  match o.guard with
  | none => heldX C call o.op (envL ts) h
  | some (j, want) => match guardA ops (envL ts) j with
    | some b => if b = some want then heldX C call o.op (envL ts) h else some undefA
    | none => none
def lX (call : CallX) (ops : Array Oper) : List Oper → Tr → Heap → Option (Tr × Heap)
  | [], ts, h => some (ts, h)
  | o :: rest, ts, h => match operX C call ops o ts h with | some (ts', h') => lX call ops rest ts' h' | none => none
def sameTH (x y : Tr × Heap) : Bool := Tr.beq x.1 y.1 && (decide (x.2.length = y.2.length) && begH x.2 y.2)
def sameTH3 (x y : Exit × Tr × Heap) : Bool := sameTH x.2 y.2
/-- Each once. -/
def dedup : List (Tr × Heap) → List (Tr × Heap)
  | [] => []
  | x :: l => if l.any (sameTH x) = true then dedup l else x :: dedup l
/-- Each by a function that may fail and may have many answers. -/
def bindO {α β : Type} (f : α → Option (List β)) : List α → Option (List β)
  | [] => some []
  | x :: l => match f x with
    | some ys => match bindO f l with | some zs => some (ys ++ zs) | none => none
    | none => none
/-- The rest of a region: what comes of all orders. -/
def sufX (call : CallX) (ops : Array Oper) : Nat → Array Bool → Tr → Heap → Option (List (Tr × Heap))
  | 0, _, ts, h => some [(ts, h)]
  | f + 1, L, ts, h => if (Region.ready .text ops L).isEmpty = false ∧ (Region.ready .gc ops L).isEmpty = false then
      match bindO (fun i => match ops[i]? with
        | some o => match operX C call ops o ts h with | some (ts', h') => sufX call ops f (L.setIfInBounds i true) ts' h' | none => none
        | none => none) (Region.ready .any ops L) with
      | some rs => some rs
      | none => none
    else none
def pX (call : CallX) (ops : Array Oper) : List Oper → Tr → Heap → Option Tr
  | [], ts, _ => some ts
  | o :: rest, ts, h => match operPX C call ops o ts h with | some v => pX call ops rest (putL ts o.dst v) h | none => none
/-- The beginning, with the slots ahead of each operation and its value. -/
def pXt (call : CallX) (ops : Array Oper) : List Oper → Tr → Heap → Option (List (Tr × AVal) × Tr)
  | [], ts, _ => some ([], ts)
  | o :: rest, ts, h => match operPX C call ops o ts h with
    | some v => match pXt call ops rest (putL ts o.dst v) h with
      | some (l, ts') => some ((ts, v) :: l, ts')
      | none => none
    | none => none
/-- Is what was not bound to come ahead the same behind? -/
def sameX (call : CallX) (ops : Array Oper) (cb : Nat → Bool) (h' : Heap) : Nat → List Oper → List (Tr × AVal) → Bool
  | _, [], [] => true
  | i, o :: rest, (ts, v) :: l => (cb i || (match operPX C call ops o ts h' with | some v' => beqA v' v | none => false)) && sameX call ops cb h' (i + 1) rest l
  | _, _, _ => false
def drawX3 (call : CallX) (l : List Oper) (ts : Tr) (h : Heap) : Option (List (Tr × Heap)) := match drawE l with
  | some (k, oe) => match pXt C call ⟨l⟩ (l.take k) ts h with
    | some (vs, ts1) => match operX C call ⟨l⟩ oe ts1 h with
      | some (ts2, h') => if sameX C call ⟨l⟩ (fun i => ((Region.before l.toArray).getD k 0).testBit i) h' 0 (l.take k) vs = true then
          sufX C call ⟨l⟩ (l.length - (k + 1)) (listK l.length (k + 1)) ts2 h' else none
      | none => none
    | none => none
  | none => none

abbrev Outs := List (Exit × Tr × Heap)
def iterX (body : Tr → Heap → Option Outs) : Nat → Tr → Heap → Option Outs
  | 0, _, _ => none
  | n + 1, ts, h => match body ts h with
    | some rs => bindO (fun r => match r with
      | (.normal, ts', h') => iterX body n ts' h'
      | r => some [r]) rs
    | none => none
def codeX (call : CallX) (lf : Nat) : Code → Tr → Heap → Option Outs
  | .skip, ts, h => some [(.normal, ts, h)]
  | .label _, ts, h => some [(.normal, ts, h)]
  | .exit id, ts, h => some [(.exit id, ts, h)]
  | .ret, ts, h => some [(.ret, ts, h)]
  | .region _ ⟨l⟩ false, ts, h => match lX C call ⟨l⟩ l ts h with | some (ts', h') => some [(.normal, ts', h')] | none => none
  | .region _ ⟨l⟩ true, ts, h => match drawX3 C call l ts h with
    | some rs => some ((dedup rs).map fun q => (.normal, q.1, q.2))
    | none => match (drawK l).findSome? (fun k => match pX C call ⟨l⟩ (l.take k) ts h with
      | some ts1 => sufX C call ⟨l⟩ (l.length - k) (listK l.length k) ts1 h
      | none => none) with
      | some rs => some ((dedup rs).map fun q => (.normal, q.1, q.2))
      | none => none
  | .seq a b, ts, h => match codeX call lf a ts h with
    | some rs => bindO (fun r => match r with
      | (.normal, ts', h') => codeX call lf b ts' h'
      | r => some [r]) rs
    | none => none
  | .cond c a b, ts, h => match aev C.G (envL ts) c with
    | .bool true => codeX call lf a ts h
    | .bool false => codeX call lf b ts h
    | _ => none
  | .block id c, ts, h => match codeX call lf c ts h with
    | some rs => some (rs.map fun r => match r with
      | (.exit id', ts', h') => if id' = id then (.normal, ts', h') else (.exit id', ts', h')
      | r => r)
    | none => none
  | .scope c, ts, h => match codeX call lf c ts h with
    | some rs => bindO (fun r => match r with
      | (.goto _, _, _) => none
      | r => some [r]) rs
    | none => none
  | .loop c, ts, h => iterX (fun ts h => codeX call lf c ts h) lf ts h
  | _, _, _ => none

/-- What one way of a body gives. -/
def endX (fn : Func) (r : Exit × Tr × Heap) : Option (AVal × Heap) := match r with
  | (.normal, ts, h') => match resA C (envL ts) h' fn.results.toList with | some r => some (r, h') | none => none
  | (.ret, ts, h') => match resA C (envL ts) h' fn.results.toList with | some r => some (r, h') | none => none
  | _ => none
/-- What two memories agree upon; what they do not is given up. -/
def mergeH : Heap → Heap → Option Heap
  | [], [] => some []
  | a :: l, b :: m => match mergeH l m with
    | some q => some ((if beqB a b = true then a else .dead) :: q)
    | none => none
  | _, _ => none
def mergeAH (x y : AVal × Heap) : Option (AVal × Heap) := if beqA x.1 y.1 = true then (match mergeH x.2 y.2 with | some q => some (x.1, q) | none => none) else none
/-- All ways must come to the same. -/
def allX (fn : Func) : Outs → Option (AVal × Heap)
  | [] => none
  | [r] => endX C fn r
  | r :: rest => match endX C fn r, allX fn rest with
    | some x, some y => mergeAH x y
    | _, _ => none
/-- What a call gives; orc: what is known of functions that only reckon. -/
def callX (orc : FuncId → List AVal → Option AVal) (lf : Nat) : Nat → CallX
  | 0, _, _, _ => none
  | n + 1, f, args, h => match orc f args with
    | some r => some (r, h)
    | none => match C.P.funcs[f]? with
      | none => none
      | some fn => match fn.body with
        | none => none
        | some c => if (fn.name == "runtime.NumGoroutine") = false ∧ okCode fn.ntmps c = true ∧ fn.results.toList.all (okRes fn.ntmps) = true ∧ args.length ≤ fn.ntmps ∧ fn.ntmps + 1 < 2 ^ kOf fn.ntmps then
            match codeX C (callX orc lf n) lf c (argsT (Tr.mk (kOf fn.ntmps)) 0 args) h with
            | some rs => allX C fn rs
            | none => none
          else none

variable {C} {h h' : Heap} {call : CallX} {k0 : Nat}

def CallOk (C : Ctx) (call : CallX) : Prop := ∀ f args h r h', call f args h = some (r, h') → Sat C f args h fun r2 h2 => r2 = r ∧ h2 = h'

theorem operX_ok (hcall : CallOk C call) {ops : Array Oper} {o : Oper} {n : Nat} (hn : n + 1 < 2 ^ k0) {ts ts' : Tr} (hF : Tr.Full k0 ts) (ho : okDst n o = true) (g : operX C call ops o ts h = some (ts', h')) {K : Env → Heap → Prop} (hk : K (envL ts') h') :
    wpOper C ops o (envL ts) h K ∧ Tr.Full k0 ts' := by
  have hd : ∀ i, o.dst = some i → i < n := fun i e => by simpa [okDst, e] using ho
  unfold operX at g; unfold wpOper
  split at g
  · rename_i hg; rw [hg]; simp only []
    split at g
    · rename_i e; cases g
      exact ⟨opX_ok hcall e (by rw [← envL_put hF hn hd]; exact hk), putL_full _ _ _ hF⟩
    · cases g
  · rename_i hg; rw [hg]; simp only []
    split at g
    · rename_i hq; rw [hq]; simp only []
      split at g
      · rename_i hb
        split at g
        · rename_i e; cases g
          exact ⟨⟨fun _ => opX_ok hcall e (by rw [← envL_put hF hn hd]; exact hk), fun hn => absurd hb hn⟩, putL_full _ _ _ hF⟩
        · cases g
      · rename_i hb; cases g
        exact ⟨⟨fun hn => absurd hn hb, fun _ => by rw [← envL_put hF hn hd]; exact hk⟩, putL_full _ _ _ hF⟩
    · cases g
theorem lX_ok (hcall : CallOk C call) {n : Nat} (hn : n + 1 < 2 ^ k0) {ops : Array Oper} {Q : Exit → Env → Heap → Prop} : ∀ (l : List Oper) {ts ts' : Tr} {h h' : Heap}, Tr.Full k0 ts → (∀ o ∈ l, okDst n o = true) → lX C call ops l ts h = some (ts', h') → Q .normal (envL ts') h' →
    WPl C ops Q l (envL ts) h ∧ Tr.Full k0 ts'
  | [], ts, ts', h, h', hF, _, g, hq => by
    simp only [lX, Option.some.injEq, Prod.mk.injEq] at g
    obtain ⟨rfl, rfl⟩ := g
    exact ⟨hq, hF⟩
  | o :: rest, ts, ts', h, h', hF, ho, g, hq => by
    unfold lX at g
    split at g
    · rename_i ts1 h1 e
      have hF1 := (operX_ok hcall hn hF (ho o (by simp)) e (K := fun _ _ => True) trivial).2
      have ih := lX_ok hcall hn (ops := ops) (Q := Q) rest hF1 (fun o hm => ho o (by simp [hm])) g hq
      unfold WPl
      exact ⟨(operX_ok hcall hn hF (ho o (by simp)) e ih.1).1, ih.2⟩
    · cases g
theorem sameTH_ok {x y : Tr × Heap} (h : sameTH x y = true) : x = y := by
  simp only [sameTH, Bool.and_eq_true, decide_eq_true_eq] at h
  obtain ⟨h1, h2, h3⟩ := h
  have e := begH_ok h3
  rw [h2, List.take_length] at e
  exact Prod.ext (Tr.beq_ok _ _ h1) e.symm
theorem dedup_mem : ∀ {l : List (Tr × Heap)}, ∀ x ∈ l, x ∈ dedup l
  | [], x, h => by cases h
  | a :: l, x, h => by
    simp only [dedup]
    rcases List.mem_cons.1 h with rfl | h
    · split
      · rename_i hs
        obtain ⟨y, hy, e⟩ := List.any_eq_true.1 hs
        rw [sameTH_ok e]; exact dedup_mem y hy
      · simp
    · have := dedup_mem (l := l) x h
      split
      · exact this
      · simp [this]
theorem dedup_sub : ∀ {l : List (Tr × Heap)}, ∀ x ∈ dedup l, x ∈ l
  | [], x, h => by cases h
  | a :: l, x, h => by
    simp only [dedup] at h
    split at h
    · exact List.mem_cons_of_mem _ (dedup_sub x h)
    · rcases List.mem_cons.1 h with rfl | h
      · simp
      · exact List.mem_cons_of_mem _ (dedup_sub x h)
theorem dedup_ne {l : List (Tr × Heap)} (h : l ≠ []) : dedup l ≠ [] := by
  obtain ⟨x, hx⟩ := List.exists_mem_of_ne_nil _ h
  intro e
  have := dedup_mem x hx
  rw [e] at this; cases this
theorem bindO_ok {α β : Type} {f : α → Option (List β)} : ∀ {l : List α} {m : List β}, bindO f l = some m → (∀ x ∈ l, ∃ ys, f x = some ys ∧ ∀ y ∈ ys, y ∈ m) ∧ ∀ y ∈ m, ∃ x ∈ l, ∃ ys, f x = some ys ∧ y ∈ ys
  | [], m, h => by simp only [bindO, Option.some.injEq] at h; subst h; exact ⟨fun x hx => (by cases hx), fun y hy => (by cases hy)⟩
  | a :: l, m, h => by
    simp only [bindO] at h
    split at h
    · rename_i ys hy
      split at h
      · rename_i zs hz; cases h
        obtain ⟨h1, h2⟩ := bindO_ok hz
        refine ⟨fun x hx => ?_, fun y hm => ?_⟩
        · rcases List.mem_cons.1 hx with rfl | hx
          · exact ⟨ys, hy, fun y h => List.mem_append_left _ h⟩
          · obtain ⟨q, k1, k2⟩ := h1 x hx
            exact ⟨q, k1, fun y h => List.mem_append_right _ (k2 y h)⟩
        · rcases List.mem_append.1 hm with hm | hm
          · exact ⟨a, by simp, ys, hy, hm⟩
          · obtain ⟨x, k1, q, k2, k3⟩ := h2 y hm
            exact ⟨x, by simp [k1], q, k2, k3⟩
      · cases h
    · cases h
theorem sufX_ok (hcall : CallOk C call) {n : Nat} (hn : n + 1 < 2 ^ k0) {ops : Array Oper} {Q : Exit → Env → Heap → Prop} (ho : ∀ o ∈ ops.toList, okDst n o = true) : ∀ (f : Nat) {L : Array Bool} {ts : Tr} {h : Heap} {rs : List (Tr × Heap)}, Tr.Full k0 ts → sufX C call ops f L ts h = some rs →
    (∀ r ∈ rs, Q .normal (envL r.1) r.2) → Rest C ops Q f L (envL ts) h ∧ (∀ r ∈ rs, Tr.Full k0 r.1) := by
  intro f
  induction f with
  | zero =>
    intro L ts h rs hF g hq
    simp only [sufX, Option.some.injEq] at g
    subst g
    exact ⟨Rest.nil (hq (ts, h) (by simp)), fun r hr => by simp at hr; rw [hr]; exact hF⟩
  | succ f ih =>
    intro L ts h rs hF g hq
    simp only [sufX] at g
    split at g
    · rename_i hr
      split at g
      · rename_i rs1 hm; cases g
        obtain ⟨b1, b2⟩ := bindO_ok hm
        have hmem : ∀ (i : Nat) (o : Oper), ops[i]? = some o → o ∈ ops.toList := fun i o e => by simpa using Array.mem_of_getElem? e
        have at_ : ∀ i, ∀ ys, (match ops[i]? with
            | some o => match operX C call ops o ts h with | some (ts', h') => sufX C call ops f (L.setIfInBounds i true) ts' h' | none => none
            | none => none) = some ys → ∃ o ts1 h1, ops[i]? = some o ∧ operX C call ops o ts h = some (ts1, h1) ∧ sufX C call ops f (L.setIfInBounds i true) ts1 h1 = some ys := fun i ys e => by
          split at e
          · rename_i o hoi
            split at e
            · rename_i ts1 h1 e1; exact ⟨o, ts1, h1, hoi, e1, e⟩
            · cases e
          · cases e
        have hany : Region.ready .any ops L ≠ [] := fun e => by
          have h1 := hr.1
          cases hx : Region.ready .text ops L with
          | nil => rw [hx] at h1; simp at h1
          | cons i l =>
            have : i ∈ Region.ready .any ops L := ready_any (md := .text) (by rw [hx]; simp)
            rw [e] at this; cases this
        refine ⟨Rest.step (fun e => by rw [e] at hr; simp at hr) (fun e => by rw [e] at hr; simp at hr) hany fun i hi o hoi => ?_, fun r hr => ?_⟩
        · obtain ⟨ys, hys, hsub⟩ := b1 i hi
          obtain ⟨o', ts1, h1, e1, e2, e3⟩ := at_ i ys hys
          rw [hoi] at e1; cases e1
          have hF1 := (operX_ok hcall hn hF (ho o (hmem i o hoi)) e2 (K := fun _ _ => True) trivial).2
          exact (operX_ok hcall hn hF (ho o (hmem i o hoi)) e2 (ih hF1 e3 (fun r hr => hq r (hsub r hr))).1).1
        · obtain ⟨i, hi, ys, hys, hry⟩ := b2 r hr
          obtain ⟨o', ts1, h1, e1, e2, e3⟩ := at_ i ys hys
          have hF1 := (operX_ok hcall hn hF (ho o' (hmem i o' e1)) e2 (K := fun _ _ => True) trivial).2
          obtain ⟨ys', hys', hsub⟩ := b1 i hi
          rw [hys] at hys'; cases hys'
          exact (ih hF1 e3 (fun r hr => hq r (hsub r hr))).2 r hry
      · cases g
    · cases g
theorem callP_ok (hcall : CallOk C call) {g : FuncId} {args : List AVal} {v : AVal} (e : callP call g args h = some v) : Sat C g args h fun r2 h2 => r2 = v ∧ h2 = h := by
  unfold callP at e
  split at e
  · rename_i hc
    split at e
    · rename_i hb
      exact (hcall _ _ _ _ _ hc).letgo (begH_ok hb) (frzX_ok _ _ _ _ _ e)
    · cases e
  · cases e
theorem heldX_ok (hcall : CallOk C call) {o : Op} {t : Env} {v : AVal} (e : heldX C call o t h = some v) {K : AVal → Heap → Prop} (hk : K v h) : wpOp C o t h K := by
  unfold heldX at e
  split at e
  · rename_i hp; cases e; exact pureX_ok hp hk
  · split at e
    · rename_i T len parts _
      unfold wpOp; simp only []
      unfold rowsX at e
      cases he : elmT C.P T with
      | none => rw [he] at e; cases e
      | some el =>
        rw [he] at e
        simp only [] at e
        refine need_of rfl ?_
        cases hn : szOf C.P el with
        | none => rw [hn] at e; cases e
        | some n =>
          rw [hn] at e
          simp only [] at e
          refine need_of rfl ?_
          by_cases h0 : len = 0
          · rw [if_pos h0] at e ⊢
            by_cases hp : (parts.toList.map (·.1)).length = 0
            · rw [if_pos hp] at e; simp only [Option.some.injEq] at e; subst e; exact ⟨by simpa using hp, hk⟩
            · rw [if_neg hp] at e; cases e
          · rw [if_neg h0] at e ⊢
            split at e
            · rename_i hh
              split at hh
              · cases hh
              · cases hh
            · rename_i hh
              split at hh
              · rename_i hs
                obtain ⟨s1, s2, s3, s4, s5, s6⟩ := hs
                simp only [Option.bind_some, hn, Option.some.injEq] at e
                subst e
                refine ⟨by simpa using s1, by omega, s2, s3, s4, s5, fun x hx => ?_, .inr hk⟩
                simpa using List.all_eq_true.1 s6 x hx
              · cases hh
            · cases e
    · rename_i c _
      split at e
      · rename_i hc
        split at e
        · rename_i hf
          unfold wpOp; simp only []
          unfold wpCall; rw [hc]; simp only []; rw [hf]; simp only []
          exact (callP_ok hcall e).mono fun r2 h2 ⟨e1, e2⟩ => by rw [e1, e2]; exact hk
        · cases e
      · cases e
    · cases e
theorem pX_ok (hcall : CallOk C call) {n : Nat} (hn : n + 1 < 2 ^ k0) {ops : Array Oper} {K : Env → Prop} : ∀ (l : List Oper) {ts ts' : Tr} {h : Heap}, Tr.Full k0 ts → (∀ o ∈ l, okDst n o = true) → pX C call ops l ts h = some ts' → K (envL ts') →
    WPp C ops l (envL ts) h K ∧ Tr.Full k0 ts'
  | [], ts, ts', h, hF, _, g, hq => by
    simp only [pX, Option.some.injEq] at g
    subst g
    exact ⟨hq, hF⟩
  | o :: rest, ts, ts', h, hF, ho, g, hq => by
    have hd : ∀ i, o.dst = some i → i < n := fun i e => by have := ho o (by simp); simpa [okDst, e] using this
    unfold pX at g
    split at g
    · rename_i v e
      have ih := pX_ok hcall hn (ops := ops) (K := K) rest (ts := putL ts o.dst v) (putL_full _ _ _ hF) (fun o hm => ho o (by simp [hm])) g hq
      rw [envL_put hF hn hd] at ih
      refine ⟨⟨v, fun KK hkk => ?_, ih.1⟩, ih.2⟩
      unfold operPX at e; unfold wpOperV
      split at e
      · rename_i hg; rw [hg]; simp only []
        exact heldX_ok hcall e hkk
      · rename_i hg; rw [hg]; simp only []
        split at e
        · rename_i hq; rw [hq]; simp only []
          split at e
          · rename_i hb; exact ⟨fun _ => heldX_ok hcall e hkk, fun hn => absurd hb hn⟩
          · rename_i hb; cases e; exact ⟨fun hn => absurd hn hb, fun _ => hkk⟩
        · cases e
    · cases g

/-- The values of a beginning, one by one. -/
theorem pXt_ok (hcall : CallOk C call) {n : Nat} (hn : n + 1 < 2 ^ k0) {ops : Array Oper} {cb : Nat → Bool} : ∀ (l : List Oper) {ts ts' : Tr} {h : Heap} {vs : List (Tr × AVal)}, Tr.Full k0 ts → (∀ o ∈ l, okDst n o = true) → pXt C call ops l ts h = some (vs, ts') →
    ∃ V : Nat → AVal, (∀ (i : Nat) (o : Oper), l[i]? = some o → ∀ KK : AVal → Heap → Prop, KK (V i) h → wpOperV C ops o (Av.T V l (envL ts) i) h KK) ∧ Av.T V l (envL ts) l.length = envL ts' ∧ Tr.Full k0 ts' ∧
      ∀ (s : Nat) (h' : Heap), sameX C call ops cb h' s l vs = true → ∀ (i : Nat) (o : Oper), l[i]? = some o → cb (s + i) = false → ∀ KK : AVal → Heap → Prop, KK (V i) h' → wpOperV C ops o (Av.T V l (envL ts) i) h' KK
  | [], ts, ts', h, vs, hF, _, g => by
    simp only [pXt, Option.some.injEq, Prod.mk.injEq] at g
    obtain ⟨rfl, rfl⟩ := g
    exact ⟨fun _ => undefA, fun i o hi => by simp at hi, rfl, hF, fun s h' _ i o hi => by simp at hi⟩
  | o :: rest, ts, ts', h, vs, hF, ho, g => by
    have hd : ∀ i, o.dst = some i → i < n := fun i e => by have := ho o (by simp); simpa [okDst, e] using this
    have one : ∀ (h : Heap) (v : AVal), operPX C call ops o ts h = some v → ∀ KK : AVal → Heap → Prop, KK v h → wpOperV C ops o (envL ts) h KK := fun h v e KK hkk => by
      unfold operPX at e; unfold wpOperV
      split at e
      · rename_i hg; rw [hg]; simp only []
        exact heldX_ok hcall e hkk
      · rename_i hg; rw [hg]; simp only []
        split at e
        · rename_i hq; rw [hq]; simp only []
          split at e
          · rename_i hb; exact ⟨fun _ => heldX_ok hcall e hkk, fun hn => absurd hb hn⟩
          · rename_i hb; cases e; exact ⟨fun hn => absurd hn hb, fun _ => hkk⟩
        · cases e
    simp only [pXt] at g
    split at g
    · rename_i v e
      split at g
      · rename_i l1 ts1 e1; cases g
        obtain ⟨V, h1, h2, h3, h4⟩ := pXt_ok hcall hn (ops := ops) (cb := cb) rest (ts := putL ts o.dst v) (putL_full _ _ _ hF) (fun o hm => ho o (by simp [hm])) e1
        rw [envL_put hF hn hd] at h1 h2 h4
        refine ⟨fun i => match i with | 0 => v | i + 1 => V i, fun i o' hi => ?_, ?_, h3, fun s h' hs i o' hi hc => ?_⟩
        · cases i with
          | zero => simp at hi; subst hi; exact one h v e
          | succ i => exact h1 i o' (by simpa using hi)
        · exact h2
        · simp only [sameX, Bool.and_eq_true, Bool.or_eq_true] at hs
          cases i with
          | zero =>
            simp at hi; subst hi
            rcases hs.1 with h5 | h5
            · rw [Nat.add_zero] at hc; rw [hc] at h5; cases h5
            · split at h5
              · rename_i v' e'
                rw [beqA_ok _ _ h5] at e'
                exact one h' v e'
              · cases h5
          | succ i => exact h4 (s + 1) h' hs.2 i o' (by simpa using hi) (by rw [show s + 1 + i = s + (i + 1) by omega]; exact hc)
      · cases g
    · cases g

theorem okDst_of {n : Nat} {o : Oper} (h : okOper n o = true) : okDst n o = true := by
  unfold okOper at h
  simp only [Bool.and_eq_true] at h
  exact h.2

/-- The run gives what it gives. -/
theorem codeX_ok (hcall : CallOk C call) (lf : Nat) {n : Nat} (hn : n + 1 < 2 ^ k0) : ∀ (c : Code) {ts : Tr} {h : Heap} {rs : Outs} {Q : Exit → Env → Heap → Prop}, Tr.Full k0 ts → okCode n c = true → codeX C call lf c ts h = some rs → (∀ r ∈ rs, Q r.1 (envL r.2.1) r.2.2) →
    WP C c Q (envL ts) h ∧ ∀ r ∈ rs, Tr.Full k0 r.2.1 := by
  intro c
  induction c with
  | skip => intro ts h rs Q hF _ g hq; simp only [codeX, Option.some.injEq] at g; subst g; exact ⟨hq (_, ts, h) (by simp), fun r hr => by simp at hr; rw [hr]; exact hF⟩
  | label l => intro ts h rs Q hF _ g hq; simp only [codeX, Option.some.injEq] at g; subst g; exact ⟨hq (_, ts, h) (by simp), fun r hr => by simp at hr; rw [hr]; exact hF⟩
  | exit id => intro ts h rs Q hF _ g hq; simp only [codeX, Option.some.injEq] at g; subst g; exact ⟨hq (_, ts, h) (by simp), fun r hr => by simp at hr; rw [hr]; exact hF⟩
  | ret => intro ts h rs Q hF _ g hq; simp only [codeX, Option.some.injEq] at g; subst g; exact ⟨hq (_, ts, h) (by simp), fun r hr => by simp at hr; rw [hr]; exact hF⟩
  | region id ops draw =>
    obtain ⟨l⟩ := ops
    intro ts h rs Q hF hok g hq
    have hall : ∀ o ∈ l, okDst n o = true := fun o ho => by
      simp only [okCode, List.all_eq_true] at hok
      exact okDst_of (hok o ho)
    cases draw with
    | false =>
      simp only [codeX] at g
      split at g
      · rename_i ts' h' e1; cases g
        have := lX_ok hcall hn l hF hall e1 (Q := Q) (hq (_, ts', h') (by simp))
        exact ⟨this.1, fun r hr => by simp at hr; rw [hr]; exact this.2⟩
      · cases g
    | true =>
      simp only [codeX] at g
      split at g
      · rename_i rs1 hd; cases g
        unfold drawX3 at hd
        split at hd
        · rename_i k oe hde
          have hdr : l[k]? = some oe ∧ preOk l.toArray (k + 1) = true := by
            unfold drawE at hde
            split at hde
            · simp only [] at hde
              split at hde
              · rename_i hoe
                split at hde
                · rename_i hp; cases hde; exact ⟨hoe, hp⟩
                · cases hde
              · cases hde
            · cases hde
          have hkl := (List.getElem?_eq_some_iff.1 hdr.1).1
          split at hd
          · rename_i vs ts1 e1
            split at hd
            · rename_i ts2 h2 e2
              split at hd
              · rename_i hsame
                obtain ⟨V, v1, v2, v3, v4⟩ := pXt_ok hcall hn (cb := fun i => ((Region.before l.toArray).getD k 0).testBit i) (l.take k) hF (fun o ho => hall o (List.mem_of_mem_take ho)) e1
                have hlen : (l.take k).length = k := by simp; omega
                have hTT : ∀ i, i ≤ k → Av.T V (l.take k) (envL ts) i = Av.T V l (envL ts) i := fun i hi => T_take V V k (fun _ _ => rfl) _ _ _ _ hi (by rw [List.take_take]; congr 1; omega) (by rw [hlen]; exact hi) (by omega)
                have hget : ∀ (i : Nat) (o : Oper), i < k → l[i]? = some o → (l.take k)[i]? = some o := fun i o hi ho => by rw [List.getElem?_take, if_pos hi]; exact ho
                have hoe := hall oe (List.mem_of_getElem? hdr.1)
                have hF2 := (operX_ok hcall hn v3 hoe e2 (K := fun _ _ => True) trivial).2
                have hsx := sufX_ok hcall hn (ops := ⟨l⟩) (fun o ho => hall o ho) (l.length - (k + 1)) hF2 hd (Q := Q) (fun r hr => hq (.normal, r.1, r.2) (List.mem_map.2 ⟨r, dedup_mem r hr, rfl⟩))
                rw [hlen] at v2
                rw [hTT k (Nat.le_refl _)] at v2
                refine ⟨WP_draw3 k oe hdr.1 hdr.2 V (fun i o hi ho => ?_) ?_, fun r hr => ?_⟩
                · rw [← hTT i (by omega)]
                  exact v1 i o (hget i o hi ho)
                · rw [v2]
                  have hd' : ∀ i, oe.dst = some i → i < n := fun i e => by simpa [okDst, e] using hoe
                  unfold operX at e2; unfold wpOperV
                  have post : ∀ v, ts2 = putL ts1 oe.dst v → (∀ (i : Nat) (o : Oper), i < k → l[i]? = some o → ((Region.before l.toArray).getD k 0).testBit i = false → ∀ KK : AVal → Heap → Prop, KK (V i) h2 → wpOperV C l.toArray o (Av.T V l (envL ts) i) h2 KK) ∧
                      Rest C l.toArray Q (l.length - (k + 1)) (listK l.length (k + 1)) (put (envL ts1) oe.dst v) h2 := fun v ev => by
                    refine ⟨fun i o hi ho hc => ?_, ?_⟩
                    · rw [← hTT i (by omega)]
                      exact v4 0 h2 hsame i o (hget i o hi ho) (by simpa using hc)
                    · rw [← envL_put v3 hn hd', ← ev]
                      exact hsx.1
                  split at e2
                  · rename_i hg; rw [hg]; simp only []
                    split at e2
                    · rename_i e3; cases e2
                      exact opX_ok hcall e3 (post _ rfl)
                    · cases e2
                  · rename_i hg; rw [hg]; simp only []
                    split at e2
                    · rename_i hqq; rw [hqq]; simp only []
                      split at e2
                      · rename_i hb
                        split at e2
                        · rename_i e3; cases e2
                          exact ⟨fun _ => opX_ok hcall e3 (post _ rfl), fun hn => absurd hb hn⟩
                        · cases e2
                      · rename_i hb; cases e2
                        exact ⟨fun hn => absurd hn hb, fun _ => post _ rfl⟩
                    · cases e2
                · obtain ⟨q, hq1, rfl⟩ := List.mem_map.1 hr
                  exact hsx.2 q (dedup_sub q hq1)
              · cases hd
            · cases hd
          · cases hd
        · cases hd
      · split at g
        · rename_i rs1 hd; cases g
          obtain ⟨k, hk, e⟩ := List.exists_of_findSome?_eq_some hd
          have hk := drawK_mem hk
          simp only [Bool.and_eq_true] at hk
          split at e
          · rename_i ts1 e1
            have hF1 := (pX_ok hcall hn (K := fun _ => True) (ops := ⟨l⟩) (C := C) (l.take k) hF (fun o ho => hall o (List.mem_of_mem_take ho)) e1 trivial).2
            have h2 := sufX_ok hcall hn (ops := ⟨l⟩) (fun o ho => hall o ho) (l.length - k) hF1 e (Q := Q) (fun r hr => hq (.normal, r.1, r.2) (List.mem_map.2 ⟨r, dedup_mem r hr, rfl⟩))
            have h1 := pX_ok hcall hn (K := fun t' => Rest C ⟨l⟩ Q (l.length - k) (listK l.length k) t' h) (ops := ⟨l⟩) (C := C) (l.take k) hF (fun o ho => hall o (List.mem_of_mem_take ho)) e1 h2.1
            refine ⟨WP_draw2 k (by simpa using hk.2) h1.1, fun r hr => ?_⟩
            obtain ⟨q, hq1, rfl⟩ := List.mem_map.1 hr
            exact h2.2 q (dedup_sub q hq1)
          · cases e
        · cases g
  | seq a b iha ihb =>
    intro ts h rs Q hF hok g hq
    simp only [okCode, Bool.and_eq_true] at hok
    simp only [codeX] at g
    split at g
    · rename_i rs1 e1
      obtain ⟨b1, b2⟩ := bindO_ok g
      have hlen := (iha (Q := fun _ _ _ => True) hF hok.1 e1 (fun _ _ => trivial)).2
      refine ⟨(iha (Q := thenQ (fun t h => Wkn C (wr a) t h fun t h => WP C b Q t h) Q) hF hok.1 e1 (fun r hr => ?_)).1, fun r hr => ?_⟩
      · obtain ⟨ys, hys, hsub⟩ := b1 r hr
        obtain ⟨e, ts1, h1⟩ := r
        cases e with
        | normal => exact Wkn.refl (ihb (hlen _ hr) hok.2 hys (fun r hr => hq r (hsub r hr))).1
        | _ => simp only [Option.some.injEq] at hys; subst hys; exact hq _ (hsub _ (by simp))
      · obtain ⟨r1, hr1, ys, hys, hry⟩ := b2 r hr
        obtain ⟨e, ts1, h1⟩ := r1
        cases e with
        | normal => exact (ihb (Q := fun _ _ _ => True) (hlen _ hr1) hok.2 hys (fun _ _ => trivial)).2 r hry
        | _ => simp only [Option.some.injEq] at hys; subst hys; simp at hry; subst hry; exact hlen _ hr1
    · cases g
  | cond c a b iha ihb =>
    intro ts h rs Q hF hok g hq
    simp only [okCode, Bool.and_eq_true] at hok
    simp only [codeX] at g
    unfold WP
    split at g
    · rename_i hc; rw [hc]; simp only []
      have := iha (Q := Q) hF (by simp [hok]) g hq
      exact ⟨⟨fun _ => this.1, fun e => Bool.noConfusion e⟩, this.2⟩
    · rename_i hc; rw [hc]; simp only []
      have := ihb (Q := Q) hF (by simp [hok]) g hq
      exact ⟨⟨fun e => Bool.noConfusion e, fun _ => this.1⟩, this.2⟩
    · cases g
  | block id c ih =>
    intro ts h rs Q hF hok g hq
    simp only [okCode] at hok
    simp only [codeX] at g
    split at g
    · rename_i rs1 e1; cases g
      have hlen := (ih (Q := fun _ _ _ => True) hF hok e1 (fun _ _ => trivial)).2
      refine ⟨(ih (Q := blockQ id Q) hF hok e1 (fun r hr => ?_)).1, fun r hr => ?_⟩
      · have := hq _ (List.mem_map.2 ⟨r, hr, rfl⟩)
        obtain ⟨e, ts1, h1⟩ := r
        cases e with
        | exit id' =>
          simp only [blockQ] at this ⊢
          split at this
          · rename_i e; rw [if_pos e]; exact this
          · rename_i e; rw [if_neg e]; exact this
        | _ => exact this
      · obtain ⟨r1, hr1, rfl⟩ := List.mem_map.1 hr
        have := hlen r1 hr1
        obtain ⟨e, ts1, h1⟩ := r1
        cases e with
        | exit id' => simp only []; split <;> exact this
        | _ => exact this
    · cases g
  | scope c ih =>
    intro ts h rs Q hF hok g hq
    simp only [okCode] at hok
    simp only [codeX] at g
    split at g
    · rename_i rs1 e1
      obtain ⟨b1, b2⟩ := bindO_ok g
      have hlen := (ih (Q := fun _ _ _ => True) hF hok e1 (fun _ _ => trivial)).2
      refine ⟨(ih (Q := noG Q) hF hok e1 (fun r hr => ?_)).1, fun r hr => ?_⟩
      · obtain ⟨ys, hys, hsub⟩ := b1 r hr
        obtain ⟨e, ts1, h1⟩ := r
        cases e with
        | goto l => cases hys
        | _ => simp only [Option.some.injEq] at hys; subst hys; exact hq _ (hsub _ (by simp))
      · obtain ⟨r1, hr1, ys, hys, hry⟩ := b2 r hr
        obtain ⟨e, ts1, h1⟩ := r1
        cases e with
        | goto l => cases hys
        | _ => simp only [Option.some.injEq] at hys; subst hys; simp at hry; subst hry; exact hlen _ hr1
    · cases g
  | loop c ih =>
    intro ts h rs Q hF hok g hq
    simp only [okCode] at hok
    simp only [codeX] at g
    have lens : ∀ (m : Nat) (s : Tr) (k : Heap) (rs : Outs), Tr.Full k0 s → iterX (fun ts h => codeX C call lf c ts h) m s k = some rs → ∀ r ∈ rs, Tr.Full k0 r.2.1 := by
      intro m
      induction m with
      | zero => intro s k rs _ g; simp [iterX] at g
      | succ m ihn =>
        intro s k rs hs g r hr
        simp only [iterX] at g
        split at g
        · rename_i rs1 e1
          obtain ⟨b1, b2⟩ := bindO_ok g
          have hl := (ih (Q := fun _ _ _ => True) hs hok e1 (fun _ _ => trivial)).2
          obtain ⟨r1, hr1, ys, hys, hry⟩ := b2 r hr
          have h1 := hl r1 hr1
          obtain ⟨e, ts1, k1⟩ := r1
          cases e with
          | normal => exact ihn _ _ _ h1 hys r hry
          | _ => simp only [Option.some.injEq] at hys; subst hys; simp at hry; subst hry; exact h1
        · cases g
    refine ⟨⟨fun n t1 h1 => ∃ (s : Tr) (rs1 : Outs), t1 = envL s ∧ Tr.Full k0 s ∧ iterX (fun ts h => codeX C call lf c ts h) n s h1 = some rs1 ∧ ∀ r ∈ rs1, r ∈ rs, lf, Wkn.refl ⟨ts, rs, rfl, hF, g, fun _ h => h⟩, fun n' t1 h1 hI => ?_⟩, lens _ _ _ _ hF g⟩
    obtain ⟨s, rs1, rfl, hs, gi, hsub⟩ := hI
    cases n' with
    | zero => simp [iterX] at gi
    | succ n =>
      simp only [iterX] at gi
      split at gi
      · rename_i rs2 e1
        obtain ⟨b1, b2⟩ := bindO_ok gi
        have hl := (ih (Q := fun _ _ _ => True) hs hok e1 (fun _ _ => trivial)).2
        refine (ih hs hok e1 (fun r hr => ?_)).1
        obtain ⟨ys, hys, hs2⟩ := b1 r hr
        have h2 := hl r hr
        obtain ⟨e, ts1, k1⟩ := r
        cases e with
        | normal => exact ⟨n, by omega, Wkn.refl ⟨ts1, ys, rfl, h2, hys, fun r h => hsub r (hs2 r h)⟩⟩
        | _ => simp only [Option.some.injEq] at hys; subst hys; exact hq _ (hsub _ (hs2 _ (by simp)))
      · cases gi
  | _ => intro ts h rs Q _ _ g; simp [codeX] at g

def Kill (a b : Heap) : Prop := a.length = b.length ∧ ∀ (p : Nat) (k : Blk), b[p]? = some k → k = .dead ∨ a[p]? = some k
theorem Kill.refl (a : Heap) : Kill a a := ⟨rfl, fun _ _ h => .inr h⟩
theorem Kill.trans {a b c : Heap} (h : Kill a b) (k : Kill b c) : Kill a c := ⟨h.1.trans k.1, fun p x hx => (k.2 p x hx).elim .inl (h.2 p x)⟩
theorem mergeH_ok : ∀ {a b q : Heap}, mergeH a b = some q → Kill a q ∧ Kill b q
  | [], [], q, h => by simp only [mergeH, Option.some.injEq] at h; subst h; exact ⟨Kill.refl _, Kill.refl _⟩
  | [], _ :: _, q, h => by simp [mergeH] at h
  | _ :: _, [], q, h => by simp [mergeH] at h
  | a :: l, b :: m, q, h => by
    simp only [mergeH] at h
    split at h
    · rename_i q1 hq; cases h
      obtain ⟨h1, h2⟩ := mergeH_ok hq
      refine ⟨⟨by simp [h1.1], fun p k hk => ?_⟩, ⟨by simp [h2.1], fun p k hk => ?_⟩⟩
      · cases p with
        | zero =>
          simp at hk
          split at hk
          · subst hk; exact .inr rfl
          · exact .inl hk.symm
        | succ p => exact (h1.2 p k (by simpa using hk)).imp id (by simp)
      · cases p with
        | zero =>
          simp at hk
          split at hk
          · rename_i e; subst hk; exact .inr (by rw [beqB_ok e]; rfl)
          · exact .inl hk.symm
        | succ p => exact (h2.2 p k (by simpa using hk)).imp id (by simp)
    · cases h
theorem allX_ok {fn : Func} : ∀ {rs : Outs} {x : AVal × Heap}, allX C fn rs = some x → ∀ r ∈ rs, ∃ h1, endX C fn r = some (x.1, h1) ∧ Kill h1 x.2
  | [], x, g => by cases g
  | [r], x, g => by intro r' hr; simp at hr; subst hr; exact ⟨x.2, g, Kill.refl _⟩
  | r :: r2 :: rest, x, g => by
    simp only [allX] at g
    split at g
    · rename_i x1 y1 h1 h2
      unfold mergeAH at g
      split at g
      · rename_i hb
        split at g
        · rename_i q hq; cases g
          obtain ⟨k1, k2⟩ := mergeH_ok hq
          intro r' hr
          rcases List.mem_cons.1 hr with rfl | hr
          · exact ⟨_, h1, k1⟩
          · obtain ⟨h3, e, k3⟩ := allX_ok h2 r' hr
            exact ⟨h3, by rw [beqA_ok _ _ hb]; exact e, k3.trans k2⟩
        · cases g
      · cases g
    · cases g
theorem Sat.kill {f : FuncId} {args : List AVal} {r : AVal} {h1 : Heap} (s : Sat C f args h fun r2 h2 => r2 = r ∧ Kill h2 h1) : Sat C f args h fun r2 h2 => r2 = r ∧ h2 = h1 := by
  intro B S μ w vs fit rl
  refine (s B S μ w vs fit rl).mono fun u w' hp => ?_
  obtain ⟨r2, h', S', μ', ⟨rfl, hk⟩, st, fit', hrep⟩ := hp
  refine ⟨r2, h1, S', μ', ⟨rfl, rfl⟩, st, ⟨fit'.glob, fit'.len.trans hk.1, fit'.sep, fit'.own, fit'.base, fit'.lie, fun p m k hm hp => ?_⟩, hrep⟩
  rcases hk.2 p k hp with rfl | h2
  · trivial
  · exact fit'.blk p m k hm h2

theorem env0_pad {k0 : Nat} (args : List AVal) (hl : args.length + 1 < 2 ^ k0) : envL (argsT (Tr.mk k0) 0 args) = env0 args := by
  funext i
  simp only [envL, env0]
  rw [argsT_get _ _ _ _ (Tr.full_mk _) (by omega), Tr.get_mk]
  by_cases h : i < args.length
  · rw [if_pos (by omega)]; simp
  · rw [if_neg (by omega)]; simp [List.getD, List.getElem?_eq_none (show args.length ≤ i by omega)]

/-- The rule of a function, nothing let go. -/
theorem Sat.of_body0 {f : FuncId} {fn : Func} {c : Code} {args : List AVal} {R : AVal → Heap → Prop} (hf : C.P.funcs[f]? = some fn) (hb : fn.body = some c) (hname : (fn.name == "runtime.NumGoroutine") = false)
    (hok : okCode fn.ntmps c = true) (hres : fn.results.toList.all (okRes fn.ntmps) = true) (hlen : args.length ≤ fn.ntmps)
    (hw : WP C c (fun e t' h' => match e with
      | .normal => need (resA C t' h' fn.results.toList) fun r => R r h'
      | .ret => need (resA C t' h' fn.results.toList) fun r => R r h'
      | _ => False) (env0 args) h) : Sat C f args h R := by
  intro B S μ w vs fit rl
  have hcall : (callFunc f vs.toArray).run C.P w = .ok (.enter f vs.toArray) w := by
    have hne : fn.name ≠ "runtime.NumGoroutine" := by simpa using hname
    simp [callFunc, hf, hne, hb]
  rw [hcall]
  show Calls C.P f vs.toArray w _
  refine calls_of_wp hf hb ?_
  have hlv : vs.length ≤ fn.ntmps := by rw [rl.1]; exact hlen
  have renv : REnv fn.ntmps w S μ (env0 args) { tmps := vs.toArray ++ Array.replicate (fn.ntmps - vs.toArray.size) undef, defers := [] } := by
    refine ⟨by simp; omega, rfl, fun i hi => ?_⟩
    unfold env0
    by_cases hlt : i < args.length
    · have hx := List.getElem?_eq_getElem hlt
      have := rl.2 i _ hx
      have hv : i < vs.length := by rw [rl.1]; exact hlt
      have e1 : args.getD i undefA = args[i] := by simp [List.getD, hx]
      have e2 : (vs.toArray ++ Array.replicate (fn.ntmps - vs.toArray.size) undef).getD i undef = vs.getD i undef := by
        simp [Array.getD_eq_getD_getElem?, Array.getElem?_append, hv, List.getD]
      rw [e1]
      simp only [e2]
      exact this
    · have e1 : args.getD i undefA = undefA := by simp [List.getD, List.getElem?_eq_none (show args.length ≤ i by omega)]
      have hv : ¬ i < vs.length := by rw [rl.1]; exact hlt
      have e2 : (vs.toArray ++ Array.replicate (fn.ntmps - vs.toArray.size) undef).getD i undef = undef := by
        simp [Array.getD_eq_getD_getElem?, Array.getElem?_append, hv, Array.getElem?_replicate]
        split <;> rfl
      rw [e1]
      simp only [e2]
      exact undefA_rep _ _ _
  have hres' := List.all_eq_true.1 hres
  refine wp_mono (WP_sound (B := B) (n := fn.ntmps) c hok (Step.refl B S μ w) fit renv hw) fun e a' w' hp => ?_
  obtain ⟨t', h', S', μ', hq, st, fit', renv'⟩ := hp
  have fin : need (resA C t' h' fn.results.toList) (fun r => R r h') → a'.defers = [] ∧ ∃ v, (results fn a'.tmps).run C.P w' = .ok v w' ∧
      ∃ u, Ending.returned v = Ending.returned u ∧ OpPost C B S μ w R u w' := by
    intro hq
    obtain ⟨r, hr0, hR⟩ := need_some hq
    obtain ⟨v, hv, hrep⟩ := run_resA fit' renv' hres' hr0
    exact ⟨renv'.2.1, v, hv, v, rfl, r, _, _, _, hR, st, fit', hrep⟩
  cases e with
  | normal => exact fin hq
  | ret => exact fin hq
  | _ => exact hq.elim

def OrcOk (C : Ctx) (orc : FuncId → List AVal → Option AVal) : Prop := ∀ f args r, orc f args = some r → ∀ h, Sat C f args h fun r2 h2 => r2 = r ∧ h2 = h

theorem callX_ok {orc : FuncId → List AVal → Option AVal} (horc : OrcOk C orc) (lf : Nat) : ∀ n, CallOk C (callX C orc lf n) := by
  intro n
  induction n with
  | zero => intro f args h r h' g; simp [callX] at g
  | succ n ih =>
    intro f args h r h' g
    simp only [callX] at g
    split at g
    · rename_i e; cases g; exact horc _ _ _ e h
    · split at g
      · cases g
      · rename_i fn hfn
        split at g
        · cases g
        · rename_i c hc
          split at g
          · rename_i hs
            obtain ⟨s1, s2, s3, s4, s5⟩ := hs
            split at g
            · rename_i rs e1
              have hend := allX_ok g
              refine (Sat.of_body0 hfn hc s1 s2 s3 s4 (R := fun r2 h2 => r2 = r ∧ Kill h2 h') ?_).kill
              have := (codeX_ok ih lf s5 c (argsT_full _ _ _ (Tr.full_mk _)) s2 e1 (Q := fun e t' h9 => match e with
                | .normal => need (resA C t' h9 fn.results.toList) fun r2 => r2 = r ∧ Kill h9 h'
                | .ret => need (resA C t' h9 fn.results.toList) fun r2 => r2 = r ∧ Kill h9 h'
                | _ => False) (fun q hq => ?_)).1
              · rwa [env0_pad _ (by omega)] at this
              · obtain ⟨h1, e, hkill⟩ := hend q hq
                obtain ⟨ex, ts, h9⟩ := q
                unfold endX at e
                split at e
                · rename_i hqq; cases hqq
                  split at e
                  · rename_i hr; cases e; exact need_of hr ⟨rfl, hkill⟩
                  · cases e
                · rename_i hqq; cases hqq
                  split at e
                  · rename_i hr; cases e; exact need_of hr ⟨rfl, hkill⟩
                  · cases e
                · cases e
            · cases g
          · cases g

end
end Go.Av
