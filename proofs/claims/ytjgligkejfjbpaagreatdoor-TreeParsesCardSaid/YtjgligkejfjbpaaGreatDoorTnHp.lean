/- Memory that is known by what lies at its places. -/
import Derived.Test.YtjgligkejfjbpaaGreatDoorTnDr
import Derived.Test.YtjgligkejfjbpaaGreatDoorRows
import Derived.ChangeSame
import Derived.RowKit
import Derived.ReadAgain
import Derived.ChangeArms
import Derived.Clock
import Derived.Deep.Slices
import Derived.Test.YtjgligkejfjbpaaGreatDoorTnAv15
import Derived.Test.YtjgligkejfjbpaaGreatDoorProg
import Derived.KernelRfl
import Derived.Lib.Builder
import Derived.Shelf.Strings.Trim
import Derived.Shelf.Small.Utf8
import Derived.Shelf.Small.Strs
import Derived.Shelf.Small.Wraps
import Derived.Shelf.Strings.Search1
import Derived.Shelf.Strings.Search2
import Derived.Shelf.Strings.Search3
import Derived.Shelf.Strings.Cut
import Derived.Shelf.LaysM
import Derived.Shelf.Strings.Shaped
import Derived.Shelf.Strings.LastIndex
import Derived.Shelf.Strings.Prefix
import Derived.Shelf.Unicode.Decode
import Derived.Shelf.Strings.Runes
import Derived.Shelf.Strings.AsciiSet
import Derived.Shelf.Unicode.DecodeSlow
import Derived.Test.YtjgligkejfjbpaaGreatDoorCards
import Derived.Test.YtjgligkejfjbpaaGreatDoorTie
import Derived.WalkKit
import Derived.ProofKit
import Derived.OpenShut
import Derived.Deep.DeepHandedRow
import Derived.Lib.LaidTab
set_option linter.unusedSimpArgs false
set_option linter.unusedVariables false
namespace Go.Av
open Go.RowKit
inductive Tr where
 | lf
 | nd (l : Tr) (v : AVal) (r : Tr)
namespace Tr
def get : Tr → Nat → AVal
 | .lf, _ => undefA
 | .nd _ v _, 0 => v
 | .nd l _ r, i + 1 => match i % 2 with
  | 0 => l.get (i / 2)
  | _ => r.get (i / 2)
def set : Tr → Nat → AVal → Tr
 | .lf, _, _ => .lf
 | .nd l _ r, 0, x => .nd l x r
 | .nd l v r, i + 1, x => match i % 2 with
  | 0 => .nd (l.set (i / 2) x) v r
  | _ => .nd l v (r.set (i / 2) x)
def mk : Nat → Tr
 | 0 => .lf
 | d + 1 => .nd (mk d) undefA (mk d)
def Full : Nat → Tr → Prop
 | 0, _ => True
 | k + 1, .nd l _ r => Full k l ∧ Full k r
 | _ + 1, .lf => False
theorem full_mk : ∀ k, Full k (mk k)
 | 0 => trivial
 | k + 1 => ⟨full_mk k, full_mk k⟩
theorem full_set : ∀ (k : Nat) (t : Tr) (i : Nat) (x : AVal), Full k t → Full k (t.set i x)
 | 0, _, _, _, _ => trivial
 | k + 1, .nd l v r, 0, x, h => h
 | k + 1, .nd l v r, i + 1, x, h => by
  simp only [set]
  split
  ·exact ⟨full_set k l _ x h.1, h.2⟩
  ·exact ⟨h.1, full_set k r _ x h.2⟩
theorem get_mk : ∀ (k i : Nat), (mk k).get i = undefA
 | 0, i => rfl
 | k + 1, 0 => rfl
 | k + 1, i + 1 => by
  simp only [mk, get]
  split <;> exact get_mk k _
theorem get_set : ∀ (k : Nat) (t : Tr) (i j : Nat) (x : AVal), Full k t → i + 1 < 2 ^ k → (t.set i x).get j = if j = i then x else t.get j
 | 0, t, i, j, x, _, h => by simp at h
 | k + 1, .nd l v r, 0, 0, x, _, _ => rfl
 | k + 1, .nd l v r, 0, j + 1, x, _, _ => rfl
 | k + 1, .nd l v r, i + 1, 0, x, _, _ => by simp only [set]; split <;> rfl
 | k + 1, .nd l v r, i + 1, j + 1, x, hf, h => by
  have hp : 2 ^ (k + 1) = 2 * 2 ^ k := by rw [Nat.pow_succ, Nat.mul_comm]
  rw [hp] at h
  have hk : i / 2 + 1 < 2 ^ k := by omega
  simp only [set]
  split
  ·rename_i hi
   simp only [get]
   split
   ·rename_i hj
    rw [get_set k l (i / 2) (j / 2) x hf.1 hk]
    by_cases e : j = i
    ·subst e; simp
    ·rw [if_neg (by omega), if_neg (by omega)]
   ·rename_i hj
    rw [if_neg (by intro e; have : j = i := (by omega); subst this; exact hj hi)]
  ·rename_i hi
   simp only [get]
   split
   ·rename_i hj
    rw [if_neg (by intro e; have : j = i := (by omega); subst this; exact hi hj)]
   ·rename_i hj
    have hi' : i % 2 = 1 := (Nat.mod_two_eq_zero_or_one i).resolve_left hi
    have hj' : j % 2 = 1 := (Nat.mod_two_eq_zero_or_one j).resolve_left hj
    rw [get_set k r (i / 2) (j / 2) x hf.2 hk]
    by_cases e : j = i
    ·subst e; simp
    ·rw [if_neg (by omega), if_neg (by omega)]
def beq : Tr → Tr → Bool
 | .lf, .lf => true
 | .nd l v r, .nd l' v' r' => beqA v v' && (l.beq l' && r.beq r')
 | _, _ => false
theorem beq_ok : ∀ (a b : Tr), beq a b = true → a = b
 | .lf, .lf, _ => rfl
 | .lf, .nd _ _ _, h => by simp [beq] at h
 | .nd _ _ _, .lf, h => by simp [beq] at h
 | .nd l v r, .nd l' v' r', h => by
  simp only [beq, Bool.and_eq_true] at h
  rw [beqA_ok _ _ h.1, beq_ok l l' h.2.1, beq_ok r r' h.2.2]
end Tr
def envL (ts : Tr) : Env := ts.get
def putL (ts : Tr) (d : Option Nat) (v : AVal) : Tr := match d with | some d => ts.set d v | none => ts
def okDst (n : Nat) (o : Oper) : Bool := match o.dst with | some d => decide (d < n) | none => true
def kOf (n : Nat) : Nat := Nat.log2 (n + 1) + 1
def argsT : Tr → Nat → List AVal → Tr
 | t, _, [] => t
 | t, i, x :: l => argsT (t.set i x) (i + 1) l
theorem putL_full {k0 : Nat} (ts : Tr) (d : Option Nat) (v : AVal) (h : Tr.Full k0 ts) : Tr.Full k0 (putL ts d v) := by
 cases d
 ·exact h
 ·exact Tr.full_set _ _ _ _ h
theorem envL_put {k0 n : Nat} {ts : Tr} {d : Option Nat} {v : AVal} (hf : Tr.Full k0 ts) (hn : n + 1 < 2 ^ k0) (hd : ∀ i, d = some i → i < n) : envL (putL ts d v) = put (envL ts) d v := by
 cases d with
 | none => rfl
 | some d =>
  have hlt := hd d rfl
  funext i
  simp only [putL, put, envL, upd]
  exact Tr.get_set k0 ts d i v hf (by omega)
theorem argsT_full {k0 : Nat} : ∀ (l : List AVal) (t : Tr) (i : Nat), Tr.Full k0 t → Tr.Full k0 (argsT t i l)
 | [], _, _, h => h
 | x :: l, t, i, h => argsT_full l _ _ (Tr.full_set _ _ _ _ h)
theorem argsT_get {k0 : Nat} : ∀ (l : List AVal) (t : Tr) (i j : Nat), Tr.Full k0 t → i + l.length + 1 < 2 ^ k0 → (argsT t i l).get j = if i ≤ j ∧ j < i + l.length then l.getD (j - i) undefA else t.get j
 | [], t, i, j, _, _ => by rw [if_neg (by simp)]; rfl
 | x :: l, t, i, j, h, hn => by
  simp only [List.length_cons] at hn ⊢
  rw [argsT, argsT_get l _ _ _ (Tr.full_set _ _ _ _ h) (by omega), Tr.get_set k0 t i j x h (by omega)]
  by_cases h1 : j = i
  ·subst h1
   rw [if_neg (by omega), if_pos rfl, if_pos (by omega)]; simp
  ·by_cases h2 : i + 1 ≤ j ∧ j < i + 1 + l.length
   ·rw [if_pos h2, if_pos (by omega)]
    have : j - i = (j - (i + 1)) + 1 := by omega
    rw [this]; simp
   ·rw [if_neg h2, if_neg h1, if_neg (by omega)]
section
variable (C : Ctx)
def callP (call : CallX) (g : FuncId) (args : List AVal) (h : Heap) : Option AVal := match call g args h with
 | some (r, h1) => if begH h h1 = true then frzX h1 h.length 20 r else none
 | none => none
def heldX (call : CallX) (o : Op) (t : Env) (h : Heap) : Option AVal := match pureX C o t h with
 | some v => some v
 | none => match o with
  | .buildSlice T len parts => match rowsX C T len (parts.toList.map (·.1)) (parts.toList.map fun q => aev C.G t q.2) h with
   | some (.ez, _) => some .ez
   | some (.hs _ _ _ _ _, _) => match (elmT C.P T).bind (szOf C.P) with | some n => some (.sl n (parts.toList.map fun q => aev C.G t q.2)) | none => none
   | _ => none
  | .call c => match c.callee with
   | .value f => match aev C.G t f with
    | .fn (.func g) first captured => callP call g (first ++ c.args.toList.map (aev C.G t) ++ captured) h
    | _ => none
   | _ => none
  | _ => none
def isHeldB : Op → Bool
 | .buildSlice _ _ _ => true
 | .move _ | .assign _ | .pick _ _ _ | .load _ _ | .nilCheck _ | .binOp _ _ _ _ _ | .unOp _ _ _ | .convert _ _ _ | .makeInterface _ _ | .makeFunc _ _ _ | .slice _ _ _ _ _
 | .fieldAddr _ _ _ | .field _ _ _ | .indexAddr _ _ _ | .index _ _ _ | .extract _ _ | .build _ _ => true
 | .call c => match c.callee with | .builtin .len => true | .builtin .max => true | .builtin .min => true | .builtin .unsafeSliceData => true | .value _ => true | _ => false
 | _ => false
def drawK (l : List Oper) : List Nat := match (List.range (l.length + 1)).reverse.filter (fun k => (l.take k).all (fun o => isHeldB o.op) && (preOk l.toArray k && decide (k ≤ l.length))) with
 | [] => []
 | m :: rest => (m :: rest).filter fun k => decide (m ≤ k + 2)
theorem drawK_mem {l : List Oper} {k : Nat} (h : k ∈ drawK l) : ((l.take k).all (fun o => isHeldB o.op) && (preOk l.toArray k && decide (k ≤ l.length))) = true := by
 unfold drawK at h
 split at h
 ·cases h
 ·rename_i m rest hq
  have h1 := (List.mem_filter.1 h).1
  rw [← hq] at h1
  exact (List.mem_filter.1 h1).2
def drawE (l : List Oper) : Option (Nat × Oper) := match drawK l with
 | _ :: _ => let k := (l.takeWhile fun o => isHeldB o.op).length
  match l[k]? with
  | some oe => if preOk l.toArray (k + 1) = true then some (k, oe) else none
  | none => none
 | [] => none
def operX (call : CallX) (ops : Array Oper) (o : Oper) (ts : Tr) (h : Heap) : Option (Tr × Heap) :=
 match o.guard with
 | none => match opX C call o.op (envL ts) h with | some (v, h') => some (putL ts o.dst v, h') | none => none
 | some (j, want) => match guardA ops (envL ts) j with
  | some b => if b = some want then (match opX C call o.op (envL ts) h with | some (v, h') => some (putL ts o.dst v, h') | none => none) else some (putL ts o.dst undefA, h)
  | none => none
def operPX (call : CallX) (ops : Array Oper) (o : Oper) (ts : Tr) (h : Heap) : Option AVal :=
 match o.guard with
 | none => heldX C call o.op (envL ts) h
 | some (j, want) => match guardA ops (envL ts) j with
  | some b => if b = some want then heldX C call o.op (envL ts) h else some undefA
  | none => none
def lX (call : CallX) (ops : Array Oper) : List Oper → Tr → Heap → Option (Tr × Heap)
 | [], ts, h => some (ts, h)
 | o :: rest, ts, h => match operX C call ops o ts h with | some (ts', h') => lX call ops rest ts' h' | none => none
def sameTH (x y : Tr × Heap) : Bool := Tr.beq x.1 y.1 && (decide (x.2.length = y.2.length) && begH x.2 y.2)
def dedup : List (Tr × Heap) → List (Tr × Heap)
 | [] => []
 | x :: l => if l.any (sameTH x) = true then dedup l else x :: dedup l
def bindO {α β : Type} (f : α → Option (List β)) : List α → Option (List β)
 | [] => some []
 | x :: l => match f x with
  | some ys => match bindO f l with | some zs => some (ys ++ zs) | none => none
  | none => none
def sufX (call : CallX) (ops : Array Oper) : Nat → Array Bool → Tr → Heap → Option (List (Tr × Heap))
 | 0, _, ts, h => some [(ts, h)]
 | f + 1, L, ts, h => if (Region.ready .text ops L).isEmpty = false ∧ (Region.ready .gc ops L).isEmpty = false then
   match bindO (fun i => match ops[i]? with
    | some o => match operX C call ops o ts h with | some (ts', h') => sufX call ops f (L.setIfInBounds i true) ts' h' | none => none
    | none => none) (Region.ready .any ops L) with
   | some rs => some rs
   | none => none
  else none
def pX (call : CallX) (ops : Array Oper) : List Oper → Tr → Heap → Option Tr
 | [], ts, _ => some ts
 | o :: rest, ts, h => match operPX C call ops o ts h with | some v => pX call ops rest (putL ts o.dst v) h | none => none
def pXt (call : CallX) (ops : Array Oper) : List Oper → Tr → Heap → Option (List (Tr × AVal) × Tr)
 | [], ts, _ => some ([], ts)
 | o :: rest, ts, h => match operPX C call ops o ts h with
  | some v => match pXt call ops rest (putL ts o.dst v) h with
   | some (l, ts') => some ((ts, v) :: l, ts')
   | none => none
  | none => none
def sameX (call : CallX) (ops : Array Oper) (cb : Nat → Bool) (h' : Heap) : Nat → List Oper → List (Tr × AVal) → Bool
 | _, [], [] => true
 | i, o :: rest, (ts, v) :: l => (cb i || (match operPX C call ops o ts h' with | some v' => beqA v' v | none => false)) && sameX call ops cb h' (i + 1) rest l
 | _, _, _ => false
def drawX3 (call : CallX) (l : List Oper) (ts : Tr) (h : Heap) : Option (List (Tr × Heap)) := match drawE l with
 | some (k, oe) => match pXt C call ⟨l⟩ (l.take k) ts h with
  | some (vs, ts1) => match operX C call ⟨l⟩ oe ts1 h with
   | some (ts2, h') => if sameX C call ⟨l⟩ (fun i => ((Region.before l.toArray).getD k 0).testBit i) h' 0 (l.take k) vs = true then
     sufX C call ⟨l⟩ (l.length - (k + 1)) (listK l.length (k + 1)) ts2 h' else none
   | none => none
  | none => none
 | none => none
abbrev Outs := List (Exit × Tr × Heap)
def iterX (body : Tr → Heap → Option Outs) : Nat → Tr → Heap → Option Outs
 | 0, _, _ => none
 | n + 1, ts, h => match body ts h with
  | some rs => bindO (fun r => match r with
   | (.normal, ts', h') => iterX body n ts' h'
   | r => some [r]) rs
  | none => none
def codeX (call : CallX) (lf : Nat) : Code → Tr → Heap → Option Outs
 | .skip, ts, h => some [(.normal, ts, h)]
 | .label _, ts, h => some [(.normal, ts, h)]
 | .exit id, ts, h => some [(.exit id, ts, h)]
 | .ret, ts, h => some [(.ret, ts, h)]
 | .region _ ⟨l⟩ false, ts, h => match lX C call ⟨l⟩ l ts h with | some (ts', h') => some [(.normal, ts', h')] | none => none
 | .region _ ⟨l⟩ true, ts, h => match drawX3 C call l ts h with
  | some rs => some ((dedup rs).map fun q => (.normal, q.1, q.2))
  | none => match (drawK l).findSome? (fun k => match pX C call ⟨l⟩ (l.take k) ts h with
   | some ts1 => sufX C call ⟨l⟩ (l.length - k) (listK l.length k) ts1 h
   | none => none) with
   | some rs => some ((dedup rs).map fun q => (.normal, q.1, q.2))
   | none => none
 | .seq a b, ts, h => match codeX call lf a ts h with
  | some rs => bindO (fun r => match r with
   | (.normal, ts', h') => codeX call lf b ts' h'
   | r => some [r]) rs
  | none => none
 | .cond c a b, ts, h => match aev C.G (envL ts) c with
  | .bool true => codeX call lf a ts h
  | .bool false => codeX call lf b ts h
  | _ => none
 | .block id c, ts, h => match codeX call lf c ts h with
  | some rs => some (rs.map fun r => match r with
   | (.exit id', ts', h') => if id' = id then (.normal, ts', h') else (.exit id', ts', h')
   | r => r)
  | none => none
 | .scope c, ts, h => match codeX call lf c ts h with
  | some rs => bindO (fun r => match r with
   | (.goto _, _, _) => none
   | r => some [r]) rs
  | none => none
 | .loop c, ts, h => iterX (fun ts h => codeX call lf c ts h) lf ts h
 | _, _, _ => none
def endX (fn : Func) (r : Exit × Tr × Heap) : Option (AVal × Heap) := match r with
 | (.normal, ts, h') => match resA C (envL ts) h' fn.results.toList with | some r => some (r, h') | none => none
 | (.ret, ts, h') => match resA C (envL ts) h' fn.results.toList with | some r => some (r, h') | none => none
 | _ => none
def mergeH : Heap → Heap → Option Heap
 | [], [] => some []
 | a :: l, b :: m => match mergeH l m with
  | some q => some ((if beqB a b = true then a else .dead) :: q)
  | none => none
 | _, _ => none
def mergeAH (x y : AVal × Heap) : Option (AVal × Heap) := if beqA x.1 y.1 = true then (match mergeH x.2 y.2 with | some q => some (x.1, q) | none => none) else none
def allX (fn : Func) : Outs → Option (AVal × Heap)
 | [] => none
 | [r] => endX C fn r
 | r :: rest => match endX C fn r, allX fn rest with
  | some x, some y => mergeAH x y
  | _, _ => none
def callX (orc : FuncId → List AVal → Option AVal) (lf : Nat) : Nat → CallX
 | 0, _, _, _ => none
 | n + 1, f, args, h => match orc f args with
  | some r => some (r, h)
  | none => match C.P.funcs[f]? with
   | none => none
   | some fn => match fn.body with
    | none => none
    | some c => if (fn.name == "runtime.NumGoroutine") = false ∧ okCode fn.ntmps c = true ∧ fn.results.toList.all (okRes fn.ntmps) = true ∧ args.length ≤ fn.ntmps ∧ fn.ntmps + 1 < 2 ^ kOf fn.ntmps then
      match codeX C (callX orc lf n) lf c (argsT (Tr.mk (kOf fn.ntmps)) 0 args) h with
      | some rs => allX C fn rs
      | none => none
     else none
variable {C} {h h' : Heap} {call : CallX} {k0 : Nat}
def CallOk (C : Ctx) (call : CallX) : Prop := ∀ f args h r h', call f args h = some (r, h') → Sat C f args h fun r2 h2 => r2 = r ∧ h2 = h'
theorem operX_ok (hcall : CallOk C call) {ops : Array Oper} {o : Oper} {n : Nat} (hn : n + 1 < 2 ^ k0) {ts ts' : Tr} (hF : Tr.Full k0 ts) (ho : okDst n o = true) (g : operX C call ops o ts h = some (ts', h')) {K : Env → Heap → Prop} (hk : K (envL ts') h') :
  wpOper C ops o (envL ts) h K ∧ Tr.Full k0 ts' := by
 have hd : ∀ i, o.dst = some i → i < n := fun i e => by simpa [okDst, e] using ho
 unfold operX at g; unfold wpOper
 split at g
 ·rename_i hg; rw [hg]; simp only []
  split at g
  ·rename_i e; cases g
   exact ⟨opX_ok hcall e (by rw [← envL_put hF hn hd]; exact hk), putL_full _ _ _ hF⟩
  ·cases g
 ·rename_i hg; rw [hg]; simp only []
  split at g
  ·rename_i hq; rw [hq]; simp only []
   split at g
   ·rename_i hb
    split at g
    ·rename_i e; cases g
     exact ⟨⟨fun _ => opX_ok hcall e (by rw [← envL_put hF hn hd]; exact hk), fun hn => absurd hb hn⟩, putL_full _ _ _ hF⟩
    ·cases g
   ·rename_i hb; cases g
    exact ⟨⟨fun hn => absurd hn hb, fun _ => by rw [← envL_put hF hn hd]; exact hk⟩, putL_full _ _ _ hF⟩
  ·cases g
theorem lX_ok (hcall : CallOk C call) {n : Nat} (hn : n + 1 < 2 ^ k0) {ops : Array Oper} {Q : Exit → Env → Heap → Prop} : ∀ (l : List Oper) {ts ts' : Tr} {h h' : Heap}, Tr.Full k0 ts → (∀ o ∈ l, okDst n o = true) → lX C call ops l ts h = some (ts', h') → Q .normal (envL ts') h' →
  WPl C ops Q l (envL ts) h ∧ Tr.Full k0 ts'
 | [], ts, ts', h, h', hF, _, g, hq => by
  simp only [lX, Option.some.injEq, Prod.mk.injEq] at g
  obtain ⟨rfl, rfl⟩ := g
  exact ⟨hq, hF⟩
 | o :: rest, ts, ts', h, h', hF, ho, g, hq => by
  unfold lX at g
  split at g
  ·rename_i ts1 h1 e
   have hF1 := (operX_ok hcall hn hF (ho o (by simp)) e (K := fun _ _ => True) trivial).2
   have ih := lX_ok hcall hn (ops := ops) (Q := Q) rest hF1 (fun o hm => ho o (by simp [hm])) g hq
   unfold WPl
   exact ⟨(operX_ok hcall hn hF (ho o (by simp)) e ih.1).1, ih.2⟩
  ·cases g
theorem sameTH_ok {x y : Tr × Heap} (h : sameTH x y = true) : x = y := by
 simp only [sameTH, Bool.and_eq_true, decide_eq_true_eq] at h
 obtain ⟨h1, h2, h3⟩ := h
 have e := begH_ok h3
 rw [h2, List.take_length] at e
 exact Prod.ext (Tr.beq_ok _ _ h1) e.symm
theorem dedup_mem : ∀ {l : List (Tr × Heap)}, ∀ x ∈ l, x ∈ dedup l
 | [], x, h => by cases h
 | a :: l, x, h => by
  simp only [dedup]
  rcases List.mem_cons.1 h with rfl | h
  ·split
   ·rename_i hs
    obtain ⟨y, hy, e⟩ := List.any_eq_true.1 hs
    rw [sameTH_ok e]; exact dedup_mem y hy
   ·simp
  ·have := dedup_mem (l := l) x h
   split
   ·exact this
   ·simp [this]
theorem dedup_sub : ∀ {l : List (Tr × Heap)}, ∀ x ∈ dedup l, x ∈ l
 | [], x, h => by cases h
 | a :: l, x, h => by
  simp only [dedup] at h
  split at h
  ·exact List.mem_cons_of_mem _ (dedup_sub x h)
  ·rcases List.mem_cons.1 h with rfl | h
   ·simp
   ·exact List.mem_cons_of_mem _ (dedup_sub x h)
theorem bindO_ok {α β : Type} {f : α → Option (List β)} : ∀ {l : List α} {m : List β}, bindO f l = some m → (∀ x ∈ l, ∃ ys, f x = some ys ∧ ∀ y ∈ ys, y ∈ m) ∧ ∀ y ∈ m, ∃ x ∈ l, ∃ ys, f x = some ys ∧ y ∈ ys
 | [], m, h => by simp only [bindO, Option.some.injEq] at h; subst h; exact ⟨fun x hx => (by cases hx), fun y hy => (by cases hy)⟩
 | a :: l, m, h => by
  simp only [bindO] at h
  split at h
  ·rename_i ys hy
   split at h
   ·rename_i zs hz; cases h
    obtain ⟨h1, h2⟩ := bindO_ok hz
    refine ⟨fun x hx => ?_, fun y hm => ?_⟩
    ·rcases List.mem_cons.1 hx with rfl | hx
     ·exact ⟨ys, hy, fun y h => List.mem_append_left _ h⟩
     ·obtain ⟨q, k1, k2⟩ := h1 x hx
      exact ⟨q, k1, fun y h => List.mem_append_right _ (k2 y h)⟩
    ·rcases List.mem_append.1 hm with hm | hm
     ·exact ⟨a, by simp, ys, hy, hm⟩
     ·obtain ⟨x, k1, q, k2, k3⟩ := h2 y hm
      exact ⟨x, by simp [k1], q, k2, k3⟩
   ·cases h
  ·cases h
theorem sufX_ok (hcall : CallOk C call) {n : Nat} (hn : n + 1 < 2 ^ k0) {ops : Array Oper} {Q : Exit → Env → Heap → Prop} (ho : ∀ o ∈ ops.toList, okDst n o = true) : ∀ (f : Nat) {L : Array Bool} {ts : Tr} {h : Heap} {rs : List (Tr × Heap)}, Tr.Full k0 ts → sufX C call ops f L ts h = some rs →
  (∀ r ∈ rs, Q .normal (envL r.1) r.2) → Rest C ops Q f L (envL ts) h ∧ (∀ r ∈ rs, Tr.Full k0 r.1) := by
 intro f
 induction f with
 | zero =>
  intro L ts h rs hF g hq
  simp only [sufX, Option.some.injEq] at g
  subst g
  exact ⟨Rest.nil (hq (ts, h) (by simp)), fun r hr => by simp at hr; rw [hr]; exact hF⟩
 | succ f ih =>
  intro L ts h rs hF g hq
  simp only [sufX] at g
  split at g
  ·rename_i hr
   split at g
   ·rename_i rs1 hm; cases g
    obtain ⟨b1, b2⟩ := bindO_ok hm
    have hmem : ∀ (i : Nat) (o : Oper), ops[i]? = some o → o ∈ ops.toList := fun i o e => by simpa using Array.mem_of_getElem? e
    have at_ : ∀ i, ∀ ys, (match ops[i]? with
      | some o => match operX C call ops o ts h with | some (ts', h') => sufX C call ops f (L.setIfInBounds i true) ts' h' | none => none
      | none => none) = some ys → ∃ o ts1 h1, ops[i]? = some o ∧ operX C call ops o ts h = some (ts1, h1) ∧ sufX C call ops f (L.setIfInBounds i true) ts1 h1 = some ys := fun i ys e => by
     split at e
     ·rename_i o hoi
      split at e
      ·rename_i ts1 h1 e1; exact ⟨o, ts1, h1, hoi, e1, e⟩
      ·cases e
     ·cases e
    have hany : Region.ready .any ops L ≠ [] := fun e => by
     have h1 := hr.1
     cases hx : Region.ready .text ops L with
     | nil => rw [hx] at h1; simp at h1
     | cons i l =>
      have : i ∈ Region.ready .any ops L := ready_any (md := .text) (by rw [hx]; simp)
      rw [e] at this; cases this
    refine ⟨Rest.step (fun e => by rw [e] at hr; simp at hr) (fun e => by rw [e] at hr; simp at hr) hany fun i hi o hoi => ?_, fun r hr => ?_⟩
    ·obtain ⟨ys, hys, hsub⟩ := b1 i hi
     obtain ⟨o', ts1, h1, e1, e2, e3⟩ := at_ i ys hys
     rw [hoi] at e1; cases e1
     have hF1 := (operX_ok hcall hn hF (ho o (hmem i o hoi)) e2 (K := fun _ _ => True) trivial).2
     exact (operX_ok hcall hn hF (ho o (hmem i o hoi)) e2 (ih hF1 e3 (fun r hr => hq r (hsub r hr))).1).1
    ·obtain ⟨i, hi, ys, hys, hry⟩ := b2 r hr
     obtain ⟨o', ts1, h1, e1, e2, e3⟩ := at_ i ys hys
     have hF1 := (operX_ok hcall hn hF (ho o' (hmem i o' e1)) e2 (K := fun _ _ => True) trivial).2
     obtain ⟨ys', hys', hsub⟩ := b1 i hi
     rw [hys] at hys'; cases hys'
     exact (ih hF1 e3 (fun r hr => hq r (hsub r hr))).2 r hry
   ·cases g
  ·cases g
theorem callP_ok (hcall : CallOk C call) {g : FuncId} {args : List AVal} {v : AVal} (e : callP call g args h = some v) : Sat C g args h fun r2 h2 => r2 = v ∧ h2 = h := by
 unfold callP at e
 split at e
 ·rename_i hc
  split at e
  ·rename_i hb
   exact (hcall _ _ _ _ _ hc).letgo (begH_ok hb) (frzX_ok _ _ _ _ _ e)
  ·cases e
 ·cases e
theorem heldX_ok (hcall : CallOk C call) {o : Op} {t : Env} {v : AVal} (e : heldX C call o t h = some v) {K : AVal → Heap → Prop} (hk : K v h) : wpOp C o t h K := by
 unfold heldX at e
 split at e
 ·rename_i hp; cases e; exact pureX_ok hp hk
 ·split at e
  ·rename_i T len parts _
   unfold wpOp; simp only []
   unfold rowsX at e
   cases he : elmT C.P T with
   | none => rw [he] at e; cases e
   | some el =>
    rw [he] at e
    simp only [] at e
    refine need_of rfl ?_
    cases hn : szOf C.P el with
    | none => rw [hn] at e; cases e
    | some n =>
     rw [hn] at e
     simp only [] at e
     refine need_of rfl ?_
     by_cases h0 : len = 0
     ·rw [if_pos h0] at e ⊢
      by_cases hp : (parts.toList.map (·.1)).length = 0
      ·rw [if_pos hp] at e; simp only [Option.some.injEq] at e; subst e; exact ⟨by simpa using hp, hk⟩
      ·rw [if_neg hp] at e; cases e
     ·rw [if_neg h0] at e ⊢
      split at e
      ·rename_i hh
       split at hh
       ·cases hh
       ·cases hh
      ·rename_i hh
       split at hh
       ·rename_i hs
        obtain ⟨s1, s2, s3, s4, s5, s6⟩ := hs
        simp only [Option.bind_some, hn, Option.some.injEq] at e
        subst e
        refine ⟨by simpa using s1, by omega, s2, s3, s4, s5, fun x hx => ?_, .inr hk⟩
        simpa using List.all_eq_true.1 s6 x hx
       ·cases hh
      ·cases e
  ·rename_i c _
   split at e
   ·rename_i hc
    split at e
    ·rename_i hf
     unfold wpOp; simp only []
     unfold wpCall; rw [hc]; simp only []; rw [hf]; simp only []
     exact (callP_ok hcall e).mono fun r2 h2 ⟨e1, e2⟩ => by rw [e1, e2]; exact hk
    ·cases e
   ·cases e
  ·cases e
theorem pX_ok (hcall : CallOk C call) {n : Nat} (hn : n + 1 < 2 ^ k0) {ops : Array Oper} {K : Env → Prop} : ∀ (l : List Oper) {ts ts' : Tr} {h : Heap}, Tr.Full k0 ts → (∀ o ∈ l, okDst n o = true) → pX C call ops l ts h = some ts' → K (envL ts') →
  WPp C ops l (envL ts) h K ∧ Tr.Full k0 ts'
 | [], ts, ts', h, hF, _, g, hq => by
  simp only [pX, Option.some.injEq] at g
  subst g
  exact ⟨hq, hF⟩
 | o :: rest, ts, ts', h, hF, ho, g, hq => by
  have hd : ∀ i, o.dst = some i → i < n := fun i e => by have := ho o (by simp); simpa [okDst, e] using this
  unfold pX at g
  split at g
  ·rename_i v e
   have ih := pX_ok hcall hn (ops := ops) (K := K) rest (ts := putL ts o.dst v) (putL_full _ _ _ hF) (fun o hm => ho o (by simp [hm])) g hq
   rw [envL_put hF hn hd] at ih
   refine ⟨⟨v, fun KK hkk => ?_, ih.1⟩, ih.2⟩
   unfold operPX at e; unfold wpOperV
   split at e
   ·rename_i hg; rw [hg]; simp only []
    exact heldX_ok hcall e hkk
   ·rename_i hg; rw [hg]; simp only []
    split at e
    ·rename_i hq; rw [hq]; simp only []
     split at e
     ·rename_i hb; exact ⟨fun _ => heldX_ok hcall e hkk, fun hn => absurd hb hn⟩
     ·rename_i hb; cases e; exact ⟨fun hn => absurd hn hb, fun _ => hkk⟩
    ·cases e
  ·cases g
theorem pXt_ok (hcall : CallOk C call) {n : Nat} (hn : n + 1 < 2 ^ k0) {ops : Array Oper} {cb : Nat → Bool} : ∀ (l : List Oper) {ts ts' : Tr} {h : Heap} {vs : List (Tr × AVal)}, Tr.Full k0 ts → (∀ o ∈ l, okDst n o = true) → pXt C call ops l ts h = some (vs, ts') →
  ∃ V : Nat → AVal, (∀ (i : Nat) (o : Oper), l[i]? = some o → ∀ KK : AVal → Heap → Prop, KK (V i) h → wpOperV C ops o (Av.T V l (envL ts) i) h KK) ∧ Av.T V l (envL ts) l.length = envL ts' ∧ Tr.Full k0 ts' ∧
   ∀ (s : Nat) (h' : Heap), sameX C call ops cb h' s l vs = true → ∀ (i : Nat) (o : Oper), l[i]? = some o → cb (s + i) = false → ∀ KK : AVal → Heap → Prop, KK (V i) h' → wpOperV C ops o (Av.T V l (envL ts) i) h' KK
 | [], ts, ts', h, vs, hF, _, g => by
  simp only [pXt, Option.some.injEq, Prod.mk.injEq] at g
  obtain ⟨rfl, rfl⟩ := g
  exact ⟨fun _ => undefA, fun i o hi => by simp at hi, rfl, hF, fun s h' _ i o hi => by simp at hi⟩
 | o :: rest, ts, ts', h, vs, hF, ho, g => by
  have hd : ∀ i, o.dst = some i → i < n := fun i e => by have := ho o (by simp); simpa [okDst, e] using this
  have one : ∀ (h : Heap) (v : AVal), operPX C call ops o ts h = some v → ∀ KK : AVal → Heap → Prop, KK v h → wpOperV C ops o (envL ts) h KK := fun h v e KK hkk => by
   unfold operPX at e; unfold wpOperV
   split at e
   ·rename_i hg; rw [hg]; simp only []
    exact heldX_ok hcall e hkk
   ·rename_i hg; rw [hg]; simp only []
    split at e
    ·rename_i hq; rw [hq]; simp only []
     split at e
     ·rename_i hb; exact ⟨fun _ => heldX_ok hcall e hkk, fun hn => absurd hb hn⟩
     ·rename_i hb; cases e; exact ⟨fun hn => absurd hn hb, fun _ => hkk⟩
    ·cases e
  simp only [pXt] at g
  split at g
  ·rename_i v e
   split at g
   ·rename_i l1 ts1 e1; cases g
    obtain ⟨V, h1, h2, h3, h4⟩ := pXt_ok hcall hn (ops := ops) (cb := cb) rest (ts := putL ts o.dst v) (putL_full _ _ _ hF) (fun o hm => ho o (by simp [hm])) e1
    rw [envL_put hF hn hd] at h1 h2 h4
    refine ⟨fun i => match i with | 0 => v | i + 1 => V i, fun i o' hi => ?_, ?_, h3, fun s h' hs i o' hi hc => ?_⟩
    ·cases i with
     | zero => simp at hi; subst hi; exact one h v e
     | succ i => exact h1 i o' (by simpa using hi)
    ·exact h2
    ·simp only [sameX, Bool.and_eq_true, Bool.or_eq_true] at hs
     cases i with
     | zero =>
      simp at hi; subst hi
      rcases hs.1 with h5 | h5
      ·rw [Nat.add_zero] at hc; rw [hc] at h5; cases h5
      ·split at h5
       ·rename_i v' e'
        rw [beqA_ok _ _ h5] at e'
        exact one h' v e'
       ·cases h5
     | succ i => exact h4 (s + 1) h' hs.2 i o' (by simpa using hi) (by rw [show s + 1 + i = s + (i + 1) by omega]; exact hc)
   ·cases g
  ·cases g
theorem okDst_of {n : Nat} {o : Oper} (h : okOper n o = true) : okDst n o = true := by
 unfold okOper at h
 simp only [Bool.and_eq_true] at h
 exact h.2
theorem codeX_ok (hcall : CallOk C call) (lf : Nat) {n : Nat} (hn : n + 1 < 2 ^ k0) : ∀ (c : Code) {ts : Tr} {h : Heap} {rs : Outs} {Q : Exit → Env → Heap → Prop}, Tr.Full k0 ts → okCode n c = true → codeX C call lf c ts h = some rs → (∀ r ∈ rs, Q r.1 (envL r.2.1) r.2.2) →
  WP C c Q (envL ts) h ∧ ∀ r ∈ rs, Tr.Full k0 r.2.1 := by
 intro c
 induction c with
 | skip => intro ts h rs Q hF _ g hq; simp only [codeX, Option.some.injEq] at g; subst g; exact ⟨hq (_, ts, h) (by simp), fun r hr => by simp at hr; rw [hr]; exact hF⟩
 | label l => intro ts h rs Q hF _ g hq; simp only [codeX, Option.some.injEq] at g; subst g; exact ⟨hq (_, ts, h) (by simp), fun r hr => by simp at hr; rw [hr]; exact hF⟩
 | exit id => intro ts h rs Q hF _ g hq; simp only [codeX, Option.some.injEq] at g; subst g; exact ⟨hq (_, ts, h) (by simp), fun r hr => by simp at hr; rw [hr]; exact hF⟩
 | ret => intro ts h rs Q hF _ g hq; simp only [codeX, Option.some.injEq] at g; subst g; exact ⟨hq (_, ts, h) (by simp), fun r hr => by simp at hr; rw [hr]; exact hF⟩
 | region id ops draw =>
  obtain ⟨l⟩ := ops
  intro ts h rs Q hF hok g hq
  have hall : ∀ o ∈ l, okDst n o = true := fun o ho => by
   simp only [okCode, List.all_eq_true] at hok
   exact okDst_of (hok o ho)
  cases draw with
  | false =>
   simp only [codeX] at g
   split at g
   ·rename_i ts' h' e1; cases g
    have := lX_ok hcall hn l hF hall e1 (Q := Q) (hq (_, ts', h') (by simp))
    exact ⟨this.1, fun r hr => by simp at hr; rw [hr]; exact this.2⟩
   ·cases g
  | true =>
   simp only [codeX] at g
   split at g
   ·rename_i rs1 hd; cases g
    unfold drawX3 at hd
    split at hd
    ·rename_i k oe hde
     have hdr : l[k]? = some oe ∧ preOk l.toArray (k + 1) = true := by
      unfold drawE at hde
      split at hde
      ·simp only [] at hde
       split at hde
       ·rename_i hoe
        split at hde
        ·rename_i hp; cases hde; exact ⟨hoe, hp⟩
        ·cases hde
       ·cases hde
      ·cases hde
     have hkl := (List.getElem?_eq_some_iff.1 hdr.1).1
     split at hd
     ·rename_i vs ts1 e1
      split at hd
      ·rename_i ts2 h2 e2
       split at hd
       ·rename_i hsame
        obtain ⟨V, v1, v2, v3, v4⟩ := pXt_ok hcall hn (cb := fun i => ((Region.before l.toArray).getD k 0).testBit i) (l.take k) hF (fun o ho => hall o (List.mem_of_mem_take ho)) e1
        have hlen : (l.take k).length = k := by simp; omega
        have hTT : ∀ i, i ≤ k → Av.T V (l.take k) (envL ts) i = Av.T V l (envL ts) i := fun i hi => T_take V V k (fun _ _ => rfl) _ _ _ _ hi (by rw [List.take_take]; congr 1; omega) (by rw [hlen]; exact hi) (by omega)
        have hget : ∀ (i : Nat) (o : Oper), i < k → l[i]? = some o → (l.take k)[i]? = some o := fun i o hi ho => by rw [List.getElem?_take, if_pos hi]; exact ho
        have hoe := hall oe (List.mem_of_getElem? hdr.1)
        have hF2 := (operX_ok hcall hn v3 hoe e2 (K := fun _ _ => True) trivial).2
        have hsx := sufX_ok hcall hn (ops := ⟨l⟩) (fun o ho => hall o ho) (l.length - (k + 1)) hF2 hd (Q := Q) (fun r hr => hq (.normal, r.1, r.2) (List.mem_map.2 ⟨r, dedup_mem r hr, rfl⟩))
        rw [hlen] at v2
        rw [hTT k (Nat.le_refl _)] at v2
        refine ⟨WP_draw3 k oe hdr.1 hdr.2 V (fun i o hi ho => ?_) ?_, fun r hr => ?_⟩
        ·rw [← hTT i (by omega)]
         exact v1 i o (hget i o hi ho)
        ·rw [v2]
         have hd' : ∀ i, oe.dst = some i → i < n := fun i e => by simpa [okDst, e] using hoe
         unfold operX at e2; unfold wpOperV
         have post : ∀ v, ts2 = putL ts1 oe.dst v → (∀ (i : Nat) (o : Oper), i < k → l[i]? = some o → ((Region.before l.toArray).getD k 0).testBit i = false → ∀ KK : AVal → Heap → Prop, KK (V i) h2 → wpOperV C l.toArray o (Av.T V l (envL ts) i) h2 KK) ∧
           Rest C l.toArray Q (l.length - (k + 1)) (listK l.length (k + 1)) (put (envL ts1) oe.dst v) h2 := fun v ev => by
          refine ⟨fun i o hi ho hc => ?_, ?_⟩
          ·rw [← hTT i (by omega)]
           exact v4 0 h2 hsame i o (hget i o hi ho) (by simpa using hc)
          ·rw [← envL_put v3 hn hd', ← ev]
           exact hsx.1
         split at e2
         ·rename_i hg; rw [hg]; simp only []
          split at e2
          ·rename_i e3; cases e2
           exact opX_ok hcall e3 (post _ rfl)
          ·cases e2
         ·rename_i hg; rw [hg]; simp only []
          split at e2
          ·rename_i hqq; rw [hqq]; simp only []
           split at e2
           ·rename_i hb
            split at e2
            ·rename_i e3; cases e2
             exact ⟨fun _ => opX_ok hcall e3 (post _ rfl), fun hn => absurd hb hn⟩
            ·cases e2
           ·rename_i hb; cases e2
            exact ⟨fun hn => absurd hn hb, fun _ => post _ rfl⟩
          ·cases e2
        ·obtain ⟨q, hq1, rfl⟩ := List.mem_map.1 hr
         exact hsx.2 q (dedup_sub q hq1)
       ·cases hd
      ·cases hd
     ·cases hd
    ·cases hd
   ·split at g
    ·rename_i rs1 hd; cases g
     obtain ⟨k, hk, e⟩ := List.exists_of_findSome?_eq_some hd
     have hk := drawK_mem hk
     simp only [Bool.and_eq_true] at hk
     split at e
     ·rename_i ts1 e1
      have hF1 := (pX_ok hcall hn (K := fun _ => True) (ops := ⟨l⟩) (C := C) (l.take k) hF (fun o ho => hall o (List.mem_of_mem_take ho)) e1 trivial).2
      have h2 := sufX_ok hcall hn (ops := ⟨l⟩) (fun o ho => hall o ho) (l.length - k) hF1 e (Q := Q) (fun r hr => hq (.normal, r.1, r.2) (List.mem_map.2 ⟨r, dedup_mem r hr, rfl⟩))
      have h1 := pX_ok hcall hn (K := fun t' => Rest C ⟨l⟩ Q (l.length - k) (listK l.length k) t' h) (ops := ⟨l⟩) (C := C) (l.take k) hF (fun o ho => hall o (List.mem_of_mem_take ho)) e1 h2.1
      refine ⟨WP_draw2 k (by simpa using hk.2) h1.1, fun r hr => ?_⟩
      obtain ⟨q, hq1, rfl⟩ := List.mem_map.1 hr
      exact h2.2 q (dedup_sub q hq1)
     ·cases e
    ·cases g
 | seq a b iha ihb =>
  intro ts h rs Q hF hok g hq
  simp only [okCode, Bool.and_eq_true] at hok
  simp only [codeX] at g
  split at g
  ·rename_i rs1 e1
   obtain ⟨b1, b2⟩ := bindO_ok g
   have hlen := (iha (Q := fun _ _ _ => True) hF hok.1 e1 (fun _ _ => trivial)).2
   refine ⟨(iha (Q := thenQ (fun t h => Wkn C (wr a) t h fun t h => WP C b Q t h) Q) hF hok.1 e1 (fun r hr => ?_)).1, fun r hr => ?_⟩
   ·obtain ⟨ys, hys, hsub⟩ := b1 r hr
    obtain ⟨e, ts1, h1⟩ := r
    cases e with
    | normal => exact Wkn.refl (ihb (hlen _ hr) hok.2 hys (fun r hr => hq r (hsub r hr))).1
    | _ => simp only [Option.some.injEq] at hys; subst hys; exact hq _ (hsub _ (by simp))
   ·obtain ⟨r1, hr1, ys, hys, hry⟩ := b2 r hr
    obtain ⟨e, ts1, h1⟩ := r1
    cases e with
    | normal => exact (ihb (Q := fun _ _ _ => True) (hlen _ hr1) hok.2 hys (fun _ _ => trivial)).2 r hry
    | _ => simp only [Option.some.injEq] at hys; subst hys; simp at hry; subst hry; exact hlen _ hr1
  ·cases g
 | cond c a b iha ihb =>
  intro ts h rs Q hF hok g hq
  simp only [okCode, Bool.and_eq_true] at hok
  simp only [codeX] at g
  unfold WP
  split at g
  ·rename_i hc; rw [hc]; simp only []
   have := iha (Q := Q) hF (by simp [hok]) g hq
   exact ⟨⟨fun _ => this.1, fun e => Bool.noConfusion e⟩, this.2⟩
  ·rename_i hc; rw [hc]; simp only []
   have := ihb (Q := Q) hF (by simp [hok]) g hq
   exact ⟨⟨fun e => Bool.noConfusion e, fun _ => this.1⟩, this.2⟩
  ·cases g
 | block id c ih =>
  intro ts h rs Q hF hok g hq
  simp only [okCode] at hok
  simp only [codeX] at g
  split at g
  ·rename_i rs1 e1; cases g
   have hlen := (ih (Q := fun _ _ _ => True) hF hok e1 (fun _ _ => trivial)).2
   refine ⟨(ih (Q := blockQ id Q) hF hok e1 (fun r hr => ?_)).1, fun r hr => ?_⟩
   ·have := hq _ (List.mem_map.2 ⟨r, hr, rfl⟩)
    obtain ⟨e, ts1, h1⟩ := r
    cases e with
    | exit id' =>
     simp only [blockQ] at this ⊢
     split at this
     ·rename_i e; rw [if_pos e]; exact this
     ·rename_i e; rw [if_neg e]; exact this
    | _ => exact this
   ·obtain ⟨r1, hr1, rfl⟩ := List.mem_map.1 hr
    have := hlen r1 hr1
    obtain ⟨e, ts1, h1⟩ := r1
    cases e with
    | exit id' => simp only []; split <;> exact this
    | _ => exact this
  ·cases g
 | scope c ih =>
  intro ts h rs Q hF hok g hq
  simp only [okCode] at hok
  simp only [codeX] at g
  split at g
  ·rename_i rs1 e1
   obtain ⟨b1, b2⟩ := bindO_ok g
   have hlen := (ih (Q := fun _ _ _ => True) hF hok e1 (fun _ _ => trivial)).2
   refine ⟨(ih (Q := noG Q) hF hok e1 (fun r hr => ?_)).1, fun r hr => ?_⟩
   ·obtain ⟨ys, hys, hsub⟩ := b1 r hr
    obtain ⟨e, ts1, h1⟩ := r
    cases e with
    | goto l => cases hys
    | _ => simp only [Option.some.injEq] at hys; subst hys; exact hq _ (hsub _ (by simp))
   ·obtain ⟨r1, hr1, ys, hys, hry⟩ := b2 r hr
    obtain ⟨e, ts1, h1⟩ := r1
    cases e with
    | goto l => cases hys
    | _ => simp only [Option.some.injEq] at hys; subst hys; simp at hry; subst hry; exact hlen _ hr1
  ·cases g
 | loop c ih =>
  intro ts h rs Q hF hok g hq
  simp only [okCode] at hok
  simp only [codeX] at g
  have lens : ∀ (m : Nat) (s : Tr) (k : Heap) (rs : Outs), Tr.Full k0 s → iterX (fun ts h => codeX C call lf c ts h) m s k = some rs → ∀ r ∈ rs, Tr.Full k0 r.2.1 := by
   intro m
   induction m with
   | zero => intro s k rs _ g; simp [iterX] at g
   | succ m ihn =>
    intro s k rs hs g r hr
    simp only [iterX] at g
    split at g
    ·rename_i rs1 e1
     obtain ⟨b1, b2⟩ := bindO_ok g
     have hl := (ih (Q := fun _ _ _ => True) hs hok e1 (fun _ _ => trivial)).2
     obtain ⟨r1, hr1, ys, hys, hry⟩ := b2 r hr
     have h1 := hl r1 hr1
     obtain ⟨e, ts1, k1⟩ := r1
     cases e with
     | normal => exact ihn _ _ _ h1 hys r hry
     | _ => simp only [Option.some.injEq] at hys; subst hys; simp at hry; subst hry; exact h1
    ·cases g
  refine ⟨⟨fun n t1 h1 => ∃ (s : Tr) (rs1 : Outs), t1 = envL s ∧ Tr.Full k0 s ∧ iterX (fun ts h => codeX C call lf c ts h) n s h1 = some rs1 ∧ ∀ r ∈ rs1, r ∈ rs, lf, Wkn.refl ⟨ts, rs, rfl, hF, g, fun _ h => h⟩, fun n' t1 h1 hI => ?_⟩, lens _ _ _ _ hF g⟩
  obtain ⟨s, rs1, rfl, hs, gi, hsub⟩ := hI
  cases n' with
  | zero => simp [iterX] at gi
  | succ n =>
   simp only [iterX] at gi
   split at gi
   ·rename_i rs2 e1
    obtain ⟨b1, b2⟩ := bindO_ok gi
    have hl := (ih (Q := fun _ _ _ => True) hs hok e1 (fun _ _ => trivial)).2
    refine (ih hs hok e1 (fun r hr => ?_)).1
    obtain ⟨ys, hys, hs2⟩ := b1 r hr
    have h2 := hl r hr
    obtain ⟨e, ts1, k1⟩ := r
    cases e with
    | normal => exact ⟨n, by omega, Wkn.refl ⟨ts1, ys, rfl, h2, hys, fun r h => hsub r (hs2 r h)⟩⟩
    | _ => simp only [Option.some.injEq] at hys; subst hys; exact hq _ (hsub _ (hs2 _ (by simp)))
   ·cases gi
 | _ => intro ts h rs Q _ _ g; simp [codeX] at g
def Kill (a b : Heap) : Prop := a.length = b.length ∧ ∀ (p : Nat) (k : Blk), b[p]? = some k → k = .dead ∨ a[p]? = some k
theorem Kill.refl (a : Heap) : Kill a a := ⟨rfl, fun _ _ h => .inr h⟩
theorem Kill.trans {a b c : Heap} (h : Kill a b) (k : Kill b c) : Kill a c := ⟨h.1.trans k.1, fun p x hx => (k.2 p x hx).elim .inl (h.2 p x)⟩
theorem mergeH_ok : ∀ {a b q : Heap}, mergeH a b = some q → Kill a q ∧ Kill b q
 | [], [], q, h => by simp only [mergeH, Option.some.injEq] at h; subst h; exact ⟨Kill.refl _, Kill.refl _⟩
 | [], _ :: _, q, h => by simp [mergeH] at h
 | _ :: _, [], q, h => by simp [mergeH] at h
 | a :: l, b :: m, q, h => by
  simp only [mergeH] at h
  split at h
  ·rename_i q1 hq; cases h
   obtain ⟨h1, h2⟩ := mergeH_ok hq
   refine ⟨⟨by simp [h1.1], fun p k hk => ?_⟩, ⟨by simp [h2.1], fun p k hk => ?_⟩⟩
   ·cases p with
    | zero =>
     simp at hk
     split at hk
     ·subst hk; exact .inr rfl
     ·exact .inl hk.symm
    | succ p => exact (h1.2 p k (by simpa using hk)).imp id (by simp)
   ·cases p with
    | zero =>
     simp at hk
     split at hk
     ·rename_i e; subst hk; exact .inr (by rw [beqB_ok e]; rfl)
     ·exact .inl hk.symm
    | succ p => exact (h2.2 p k (by simpa using hk)).imp id (by simp)
  ·cases h
theorem allX_ok {fn : Func} : ∀ {rs : Outs} {x : AVal × Heap}, allX C fn rs = some x → ∀ r ∈ rs, ∃ h1, endX C fn r = some (x.1, h1) ∧ Kill h1 x.2
 | [], x, g => by cases g
 | [r], x, g => by intro r' hr; simp at hr; subst hr; exact ⟨x.2, g, Kill.refl _⟩
 | r :: r2 :: rest, x, g => by
  simp only [allX] at g
  split at g
  ·rename_i x1 y1 h1 h2
   unfold mergeAH at g
   split at g
   ·rename_i hb
    split at g
    ·rename_i q hq; cases g
     obtain ⟨k1, k2⟩ := mergeH_ok hq
     intro r' hr
     rcases List.mem_cons.1 hr with rfl | hr
     ·exact ⟨_, h1, k1⟩
     ·obtain ⟨h3, e, k3⟩ := allX_ok h2 r' hr
      exact ⟨h3, by rw [beqA_ok _ _ hb]; exact e, k3.trans k2⟩
    ·cases g
   ·cases g
  ·cases g
theorem Sat.kill {f : FuncId} {args : List AVal} {r : AVal} {h1 : Heap} (s : Sat C f args h fun r2 h2 => r2 = r ∧ Kill h2 h1) : Sat C f args h fun r2 h2 => r2 = r ∧ h2 = h1 := by
 intro B S μ w vs fit rl
 refine (s B S μ w vs fit rl).mono fun u w' hp => ?_
 obtain ⟨r2, h', S', μ', ⟨rfl, hk⟩, st, fit', hrep⟩ := hp
 refine ⟨r2, h1, S', μ', ⟨rfl, rfl⟩, st, ⟨fit'.glob, fit'.len.trans hk.1, fit'.sep, fit'.own, fit'.base, fit'.lie, fun p m k hm hp => ?_⟩, hrep⟩
 rcases hk.2 p k hp with rfl | h2
 ·trivial
 ·exact fit'.blk p m k hm h2
theorem env0_pad {k0 : Nat} (args : List AVal) (hl : args.length + 1 < 2 ^ k0) : envL (argsT (Tr.mk k0) 0 args) = env0 args := by
 funext i
 simp only [envL, env0]
 rw [argsT_get _ _ _ _ (Tr.full_mk _) (by omega), Tr.get_mk]
 by_cases h : i < args.length
 ·rw [if_pos (by omega)]; simp
 ·rw [if_neg (by omega)]; simp [List.getD, List.getElem?_eq_none (show args.length ≤ i by omega)]
theorem Sat.of_body0 {f : FuncId} {fn : Func} {c : Code} {args : List AVal} {R : AVal → Heap → Prop} (hf : C.P.funcs[f]? = some fn) (hb : fn.body = some c) (hname : (fn.name == "runtime.NumGoroutine") = false)
  (hok : okCode fn.ntmps c = true) (hres : fn.results.toList.all (okRes fn.ntmps) = true) (hlen : args.length ≤ fn.ntmps)
  (hw : WP C c (fun e t' h' => match e with
   | .normal => need (resA C t' h' fn.results.toList) fun r => R r h'
   | .ret => need (resA C t' h' fn.results.toList) fun r => R r h'
   | _ => False) (env0 args) h) : Sat C f args h R := by
 intro B S μ w vs fit rl
 have hcall : (callFunc f vs.toArray).run C.P w = .ok (.enter f vs.toArray) w := by
  have hne : fn.name ≠ "runtime.NumGoroutine" := by simpa using hname
  simp [callFunc, hf, hne, hb]
 rw [hcall]
 show Calls C.P f vs.toArray w _
 refine calls_of_wp hf hb ?_
 have hlv : vs.length ≤ fn.ntmps := by rw [rl.1]; exact hlen
 have renv : REnv fn.ntmps w S μ (env0 args) { tmps := vs.toArray ++ Array.replicate (fn.ntmps - vs.toArray.size) undef, defers := [] } := by
  refine ⟨by simp; omega, rfl, fun i hi => ?_⟩
  unfold env0
  by_cases hlt : i < args.length
  ·have hx := List.getElem?_eq_getElem hlt
   have := rl.2 i _ hx
   have hv : i < vs.length := by rw [rl.1]; exact hlt
   have e1 : args.getD i undefA = args[i] := by simp [List.getD, hx]
   have e2 : (vs.toArray ++ Array.replicate (fn.ntmps - vs.toArray.size) undef).getD i undef = vs.getD i undef := by
    simp [Array.getD_eq_getD_getElem?, Array.getElem?_append, hv, List.getD]
   rw [e1]
   simp only [e2]
   exact this
  ·have e1 : args.getD i undefA = undefA := by simp [List.getD, List.getElem?_eq_none (show args.length ≤ i by omega)]
   have hv : ¬ i < vs.length := by rw [rl.1]; exact hlt
   have e2 : (vs.toArray ++ Array.replicate (fn.ntmps - vs.toArray.size) undef).getD i undef = undef := by
    simp [Array.getD_eq_getD_getElem?, Array.getElem?_append, hv, Array.getElem?_replicate]
    split <;> rfl
   rw [e1]
   simp only [e2]
   exact undefA_rep _ _ _
 have hres' := List.all_eq_true.1 hres
 refine wp_mono (WP_sound (B := B) (n := fn.ntmps) c hok (Step.refl B S μ w) fit renv hw) fun e a' w' hp => ?_
 obtain ⟨t', h', S', μ', hq, st, fit', renv'⟩ := hp
 have fin : need (resA C t' h' fn.results.toList) (fun r => R r h') → a'.defers = [] ∧ ∃ v, (results fn a'.tmps).run C.P w' = .ok v w' ∧
   ∃ u, Ending.returned v = Ending.returned u ∧ OpPost C B S μ w R u w' := by
  intro hq
  obtain ⟨r, hr0, hR⟩ := need_some hq
  obtain ⟨v, hv, hrep⟩ := run_resA fit' renv' hres' hr0
  exact ⟨renv'.2.1, v, hv, v, rfl, r, _, _, _, hR, st, fit', hrep⟩
 cases e with
 | normal => exact fin hq
 | ret => exact fin hq
 | _ => exact hq.elim
def OrcOk (C : Ctx) (orc : FuncId → List AVal → Option AVal) : Prop := ∀ f args r, orc f args = some r → ∀ h, Sat C f args h fun r2 h2 => r2 = r ∧ h2 = h
theorem callX_ok {orc : FuncId → List AVal → Option AVal} (horc : OrcOk C orc) (lf : Nat) : ∀ n, CallOk C (callX C orc lf n) := by
 intro n
 induction n with
 | zero => intro f args h r h' g; simp [callX] at g
 | succ n ih =>
  intro f args h r h' g
  simp only [callX] at g
  split at g
  ·rename_i e; cases g; exact horc _ _ _ e h
  ·split at g
   ·cases g
   ·rename_i fn hfn
    split at g
    ·cases g
    ·rename_i c hc
     split at g
     ·rename_i hs
      obtain ⟨s1, s2, s3, s4, s5⟩ := hs
      split at g
      ·rename_i rs e1
       have hend := allX_ok g
       refine (Sat.of_body0 hfn hc s1 s2 s3 s4 (R := fun r2 h2 => r2 = r ∧ Kill h2 h') ?_).kill
       have := (codeX_ok ih lf s5 c (argsT_full _ _ _ (Tr.full_mk _)) s2 e1 (Q := fun e t' h9 => match e with
        | .normal => need (resA C t' h9 fn.results.toList) fun r2 => r2 = r ∧ Kill h9 h'
        | .ret => need (resA C t' h9 fn.results.toList) fun r2 => r2 = r ∧ Kill h9 h'
        | _ => False) (fun q hq => ?_)).1
       ·rwa [env0_pad _ (by omega)] at this
       ·obtain ⟨h1, e, hkill⟩ := hend q hq
        obtain ⟨ex, ts, h9⟩ := q
        unfold endX at e
        split at e
        ·rename_i hqq; cases hqq
         split at e
         ·rename_i hr; cases e; exact need_of hr ⟨rfl, hkill⟩
         ·cases e
        ·rename_i hqq; cases hqq
         split at e
         ·rename_i hr; cases e; exact need_of hr ⟨rfl, hkill⟩
         ·cases e
        ·cases e
      ·cases g
     ·cases g
end
end Go.Av
namespace Go.Av
open Go.RowKit
section
variable {C : Ctx}
def GClo (C : Ctx) : Prop := ∀ g cs, C.G g = some cs → Clo 0 (.ad cs)
theorem Sat.frame (hG : GClo C) {f : FuncId} {args : List AVal} {R : AVal → Heap → Prop} (ha : ∀ x ∈ args, Clo 0 x) (hR : ∀ r h', R r h' → Clo 0 r ∧ h' = [])
  (s : Sat C f args [] R) (h : Heap) : Sat C f args h fun r h' => R r [] ∧ h' = h := by
 intro B S μ w vs fit rl
 have st0 : ∀ (x : AVal) (v : Value), Clo 0 x → Rep w S μ x v → Rep w S [] x v := fun x v hc hr => by
  have := hc.rep (S' := S) hr fun a ha => ha
  simpa using this
 have fit0 : Fits C w.heap.size S [] [] w := by
  refine ⟨fun g cs hg => st0 _ _ (hG g cs hg) (fit.glob g cs hg), rfl, ?_, ?_, Nat.le_refl _, fit.lie, ?_⟩
  ·intro p q m m' b h1; simp at h1
  ·intro p m b h1; simp at h1
  ·intro p m k h1; simp at h1
 have rl0 : RepL w S [] args vs := ⟨rl.1, fun i x hx => st0 _ _ (ha x (List.mem_of_getElem? hx)) (rl.2 i x hx)⟩
 refine (s _ S [] w vs fit0 rl0).mono fun v w' hp => ?_
 obtain ⟨r, h', S', μ', hr, st, fit', hrep⟩ := hp
 obtain ⟨hclo, rfl⟩ := hR r h' hr
 obtain rfl : μ' = [] := List.length_eq_zero_iff.1 (by rw [fit'.len]; rfl)
 have own : ∀ (p : Nat) (m : MB) (b : Nat), μ[p]? = some m → m.blk = some b → ∀ a, S' a → a.block ≠ b := fun p m b h1 e1 a ha => by
  obtain ⟨k1, k2, k3⟩ := fit.own p m b h1 e1
  rcases st.new a ha with h2 | h2
  ·exact k3 a h2
  ·omega
 have st2 : Step B S μ w S' μ w' := ⟨st.sub, st.keep, st.below.mono fit.base, MapLe.refl _, fun a ha => (st.new a ha).imp id fun e => Nat.le_trans fit.base e⟩
 refine ⟨r, h, S', μ, ⟨hr, rfl⟩, st2, ?_, ?_⟩
 ·refine ⟨fun g cs hg => (fit.glob g cs hg).mono st2, fit.len, fit.sep, fun p m b h1 e1 => ?_, Nat.le_trans fit.base st.below.size, fit'.lie, fun p m k h1 h2 => ?_⟩
  ·obtain ⟨k1, k2, k3⟩ := fit.own p m b h1 e1
   exact ⟨k1, Nat.lt_of_lt_of_le k2 st.below.size, own p m b h1 e1⟩
  ·exact (fit.blk p m k h1 h2).mono st2 fun b hb => st.below.block b (fit.own p m b h1 hb).2.1
 ·have grow : ∀ (x : AVal) (v : Value), Rep w' S' [] x v → Rep w' S' μ x v := fun x v hr => by
   refine hr.mono (B := 0) (S' := S') (w' := w') ⟨fun _ ha => ha, fun _ _ => rfl, Below.refl _ _, fun p m hm => by simp at hm, fun _ ha => .inl ha⟩
  exact grow _ _ hrep
def runX (C : Ctx) (orc : FuncId → List AVal → Option AVal) (lf n : Nat) (f : FuncId) (args : List AVal) : Option AVal :=
 (callX C orc lf n f args []).map (·.1)
def plainB : AVal → Bool
 | .int _ _ => true
 | .bool _ => true
 | .str _ => true
 | _ => false
theorem plainB_clo {n : Nat} {x : AVal} (h : plainB x = true) : Clo n x := by
 cases x <;> first | exact .int _ _ | exact .bool _ | exact .str _ | cases h
theorem Sat.forget {f : FuncId} {args : List AVal} {r : AVal} {h1 : Heap} (hr : plainB r = true) (s : Sat C f args [] fun r2 h2 => r2 = r ∧ h2 = h1) : Sat C f args [] fun r2 h2 => r2 = r ∧ h2 = [] := by
 intro B S μ w vs fit rl
 obtain rfl : μ = [] := List.length_eq_zero_iff.1 (by rw [fit.len]; rfl)
 refine (s B S [] w vs fit rl).mono fun v w' hp => ?_
 obtain ⟨r2, h', S', μ', ⟨rfl, rfl⟩, st, fit', hrep⟩ := hp
 obtain ⟨fc, sc⟩ := Fits.cut fit st fit' (n := 0) (Nat.le_refl _) (fun p k hp => absurd hp (by omega))
 simp only [List.take_zero] at fc sc
 have hz := (plainB_clo (n := 0) hr).rep (S' := Let S' μ' w' 0) hrep fun a ha => .inl ha
 simp only [List.take_zero] at hz
 exact ⟨r2, [], _, [], ⟨rfl, rfl⟩, sc, fc, hz⟩
theorem Sat.closed (hG : GClo C) {orc : FuncId → List AVal → Option AVal} (horc : OrcOk C orc) (lf n : Nat) {f : FuncId} {args : List AVal} {r : AVal} (ha : args.all plainB = true) (hr : plainB r = true)
  (hrun : runX C orc lf n f args = some r) (h : Heap) : Sat C f args h fun r2 h2 => r2 = r ∧ h2 = h := by
 unfold runX at hrun
 obtain ⟨⟨r1, h1⟩, e, rfl⟩ := Option.map_eq_some_iff.1 hrun
 have s := (callX_ok horc lf n f args [] r1 h1 e).forget hr
 refine (s.frame hG (fun x hx => plainB_clo (List.all_eq_true.1 ha x hx)) (fun r h' ⟨e1, e2⟩ => ⟨by rw [e1]; exact plainB_clo hr, e2⟩) h).mono fun r2 h2 ⟨⟨e1, _⟩, e2⟩ => ⟨e1, e2⟩
def isT : Option AVal → Bool
 | some (.bool b) => b
 | _ => false
theorem isT_ok {x : Option AVal} (h : isT x = true) : x = some (.bool true) := by
 unfold isT at h
 split at h
 ·rw [h]
 ·cases h
theorem Sat.lives (hG : GClo C) {orc : FuncId → List AVal → Option AVal} (horc : OrcOk C orc) (lf n : Nat) {f : FuncId} {args : List AVal} (ha : args.all plainB = true)
  (hrun : isT (runX C orc lf n f args) = true) (h : Heap) : Sat C f args h fun r2 h2 => r2 = .bool true ∧ h2 = h := Sat.closed hG horc lf n ha rfl (isT_ok hrun) h
def isV (v : AVal) : Option (AVal × Heap) → Bool
 | some (r, h1) => match frzX h1 0 20 r with
  | some y => beqA y v
  | none => false
 | none => false
theorem Sat.closedV (hG : GClo C) {orc : FuncId → List AVal → Option AVal} (horc : OrcOk C orc) (lf n : Nat) {f : FuncId} {args : List AVal} {v : AVal} (ha : args.all plainB = true) (hv : cloA 0 v = true)
  (hrun : isV v (callX C orc lf n f args []) = true) (h : Heap) : Sat C f args h fun r2 h2 => r2 = v ∧ h2 = h := by
 unfold isV at hrun
 split at hrun
 ·rename_i r h1 e
  split at hrun
  ·rename_i y hy
   have ey := beqA_ok _ _ hrun
   subst ey
   have s := (callX_ok horc lf n f args [] r h1 e).letgo (v := y) (by simp) (frzX_ok _ _ _ _ _ hy)
   refine (s.frame hG (fun x hx => plainB_clo (List.all_eq_true.1 ha x hx)) (fun r h' ⟨e1, e2⟩ => ⟨by rw [e1]; exact cloA_ok 0 _ hv, e2⟩) h).mono fun r2 h2 ⟨⟨e1, _⟩, e2⟩ => ⟨e1, e2⟩
  ·cases hrun
 ·cases hrun
end
end Go.Av
namespace Go.Av
open Go.RowKit Go.ChangeShapes Go.WideShapes
section
variable {H : Type} {enc : TypeId × Value → H} {P : Program}
theorem trodAll_carry {w w' : World} {base : Nat} {sp : Nat → Bool} {held : Bool} : ∀ {ts : List TypeId} {vs : List Value} {ds : List (DataW H)} {ps : List MemPlace}, DataW.TrodAll enc P w base sp held ts vs ds ps → (∀ p ∈ ps, w.sameAt w' p) → DataW.TrodAll enc P w' base sp held ts vs ds ps
 | [], [], [], _, h, _ => h
 | _ :: _, _ :: _, _ :: _, _, ⟨p, q, ⟨n, h1⟩, h2, e⟩, hs => ⟨p, q, ⟨n, DataW.trod_carry n _ _ _ h1 (fun x hx => hs x (by rw [e]; exact List.mem_append_left _ hx))⟩, trodAll_carry h2 (fun x hx => hs x (by rw [e]; exact List.mem_append_right _ hx)), e⟩
theorem post_of_below {f : Func} {s : ChangeSpec} {apart fresh handsOn again : Bool} {W W' : World} {args : Array Value} {v : Value} {ds gs : List (DataW H)} {before : List MemPlace}
  (K : Kids P (· < P.types.size)) (full : ∀ t e, t < P.types.size → P.underlying t = some (.slice e) → 0 < P.cellsOf e) (hts : ∀ t ∈ f.params.toList, t < P.types.size)
  (hv : s.vars = []) (hfn : s.fn H (ds ++ gs) = { results := [.lit (.bool true)], args := ds }) {tb : TypeId} (hres : f.resultTypes = #[tb]) (hb : P.underlying tb = some .bool)
  (hW : DataW.Whole enc P f.params.toList s.vars apart W args.toList ds gs before) (hbel : Below W.heap.size W W') (hvv : v = .bool true) :
  s.post enc P f apart fresh handsOn again W args v W' := by
 subst hvv
 have hlt := hW.lt
 obtain ⟨p, q, hA, hV, hbe, hz, hn⟩ := hW
 have hV0 := hV
 rw [hv] at hV0
 obtain ⟨rfl, rfl⟩ := trodVars_none hV0
 simp only [List.append_nil] at hbe
 subst hbe
 have hA' := trodAll_carry hA fun x hx => hbel.same (hlt x hx)
 have hold : ∀ x ∈ before, (fun b => decide (b < W.heap.size)) x.block = true := fun x hx => by simpa using hlt x hx
 have hr : ∀ (b : Nat) (sp : Nat → Bool) (hd : Bool), DataW.TrodAll enc P W' b sp hd f.resultTypes.toList ((Value.bool true).resultList f.resultTypes.size) [.lit (.bool true)] [] := fun b sp hd => by
  rw [hres]; exact trodAll_mk1 (shut_bool hb true)
 refine ⟨ds, [], before, [], before, [], ⟨before, [], hA, hV, by simp, hz, hn⟩, by rw [hfn]; exact hr _ _ _, by rw [hfn]; exact hA'.respare K full hts hold, by rw [hfn, hv]; rfl, hbel.frame _, fun _ => ⟨ok_one hres rfl (okWide_bool_mk hb _), [.lit (.bool true)] ++ ds, [], before, ⟨before, [], ?_, by rw [hv]; rfl, by simp, ?_, fun ha => hn ha⟩, fun x hx _ => hx⟩⟩
 ·have := trodAll_append hA' (hr 0 (fun _ => true) true)
  simpa using this
 ·intro b off hp
  have h1 := hz b off hp
  have h2 := hlt _ hp
  rw [hbel.frozen (p := ⟨b, off, none⟩) h2]
  exact h1
def lies0 (W : World) : Addr → Prop := fun a => (W.cell? a).isSome = true
theorem lies0_lt {W : World} {a : Addr} (h : lies0 W a) : a.block < W.heap.size := by
 unfold lies0 World.cell? at h
 refine Nat.lt_of_not_le fun hle => ?_
 rw [Array.getElem?_eq_none hle] at h
 cases h
theorem fits0 {C : Ctx} {W : World} (hg : ∀ g cs, C.G g = some cs → Rep W (lies0 W) [] (.ad cs) (.pointer (some ⟨g, 0, none⟩))) : Fits C W.heap.size (lies0 W) [] [] W :=
 ⟨hg, rfl, fun p q m m' b h => by simp at h, fun p m b h => by simp at h, Nat.le_refl _, fun a ha => lies0_lt ha, fun p m k h => by simp at h⟩
theorem calls_of_sat {C : Ctx} {f : FuncId} {fn : Func} {c : Code} (hf : C.P.funcs[f]? = some fn) (hb : fn.body = some c) (hname : (fn.name == "runtime.NumGoroutine") = false) {W : World} {args : Array Value} {xs : List AVal}
  (fit : Fits C W.heap.size (lies0 W) [] [] W) (rl : RepL W (lies0 W) [] xs args.toList) (sat : Sat C f xs [] fun r h' => r = .bool true ∧ h' = []) :
  Calls C.P f args W fun e W' => e = .returned (.bool true) ∧ Below W.heap.size W W' := by
 have h := sat _ _ [] W args.toList fit rl
 have hcall : (callFunc f args.toList.toArray).run C.P W = .ok (.enter f args.toList.toArray) W := by
  have hne : fn.name ≠ "runtime.NumGoroutine" := by simpa using hname
  simp [callFunc, hf, hne, hb]
 rw [hcall] at h
 have h : Calls C.P f args.toList.toArray W fun e w'' => ∃ v, e = .returned v ∧ OpPost C W.heap.size (lies0 W) [] W (fun r h' => r = .bool true ∧ h' = []) v w'' := h
 rw [Array.toArray_toList] at h
 refine h.mono fun e W' ⟨v, he, r, h', S', μ', ⟨hr, _⟩, st, _, hrep⟩ => ?_
 subst hr
 rw [hrep.bool_inv] at he
 exact ⟨he, st.below⟩
theorem contract_of_sat {C : Ctx} {f : FuncId} {fn : Func} {c : Code} (hf : C.P.funcs[f]? = some fn) (hb : fn.body = some c) (hname : (fn.name == "runtime.NumGoroutine") = false) {s : ChangeSpec} {apart fresh handsOn again : Bool} {W : World} {args : Array Value} {xs : List AVal} {ds gs : List (DataW H)} {before : List MemPlace}
  (K : Kids C.P (· < C.P.types.size)) (full : ∀ t e, t < C.P.types.size → C.P.underlying t = some (.slice e) → 0 < C.P.cellsOf e) (hts : ∀ t ∈ fn.params.toList, t < C.P.types.size)
  (hv : s.vars = []) (hfn : s.fn H (ds ++ gs) = { results := [.lit (.bool true)], args := ds }) {tb : TypeId} (hres : fn.resultTypes = #[tb]) (hbt : C.P.underlying tb = some .bool)
  (hW : DataW.Whole enc C.P fn.params.toList s.vars apart W args.toList ds gs before)
  (hg : ∀ g cs, C.G g = some cs → Rep W (lies0 W) [] (.ad cs) (.pointer (some ⟨g, 0, none⟩))) (rl : RepL W (lies0 W) [] xs args.toList) (sat : Sat C f xs [] fun r h' => r = .bool true ∧ h' = []) :
  Calls C.P f args W fun e W' => ∃ v, e = .returned v ∧ s.post enc C.P fn apart fresh handsOn again W args v W' :=
 (calls_of_sat hf hb hname (fits0 hg) rl sat).mono fun e W' ⟨he, hbel⟩ => ⟨_, he, post_of_below K full hts hv hfn hres hbt hW hbel rfl⟩
variable {W : World}
end
end Go.Av
namespace Go.Av
attribute [go_sem] Nat.le_refl Bool.false_or Bool.true_or Bool.false_and wrap64_in Int.natCast_nonneg Int.ofNat_lt Int.ofNat_le Bool.not_true Bool.not_false
attribute [go_sem ↓] astr_add guardA_list List.getElem?_cons_succ List.getElem?_cons_zero
def condK (c : AVal) (a b : Prop) : Prop := match c with | .bool q => (q = true → a) ∧ (q = false → b) | _ => False
structure Went (a : Prop) : Prop where
 go : a
@[congr] theorem Went_congr (a : Prop) : Went a = Went a := rfl
@[congr] theorem condK_congr {c c' : AVal} {a b : Prop} (e : c = c') : condK c a b = condK c' a b := by rw [e]
@[go_sem] theorem condK_t (a b : Prop) : condK (.bool true) a b = Went a := propext ⟨fun h => ⟨h.1 rfl⟩, fun h => ⟨fun _ => h.go, fun e => Bool.noConfusion e⟩⟩
@[go_sem] theorem condK_f (a b : Prop) : condK (.bool false) a b = Went b := propext ⟨fun h => ⟨h.2 rfl⟩, fun h => ⟨fun e => Bool.noConfusion e, fun _ => h.go⟩⟩
theorem WP_condK {C : Ctx} {t : Env} {h : Heap} {c : Operand} {x y : Code} {Q : Exit → Env → Heap → Prop} (g : condK (aev C.G t c) (WP C x Q t h) (WP C y Q t h)) : WP C (.cond c x y) Q t h := by
 unfold condK at g
 split at g
 ·rename_i q hq
  exact WP_cond hq g.1 g.2
 ·exact g.elim
end Go.Av
namespace Go.Av
theorem hcE {p P : Prop} (e : p = P := by first | (simp only [Bool.false_or, Bool.or_false, Bool.true_or, Bool.or_true, Bool.false_and, Bool.and_false, Bool.and_true, Bool.true_and, Bool.or_eq_true, Bool.or_eq_false_iff, Bool.and_eq_true, Bool.and_eq_false_iff, Nat.not_lt, Nat.not_le, decide_eq_true_eq, decide_eq_false_iff_not, Bool.not_eq_true', Bool.not_eq_false', beq_iff_eq, bne_iff_ne, ne_eq, beq_eq_false_iff_ne, bne_eq_false_iff_eq, Bool.not_eq_true, Bool.not_eq_false, Int.not_lt, Int.not_le, gt_iff_lt, ge_iff_le, Int.ofNat_lt, Int.ofNat_le, Int.natCast_inj, Int.natCast_inj, Bool.not_not, decide_not, Decidable.not_not]; rfl) | rfl) : p = P := e
variable {C : Ctx} {Q : Exit → Env → Heap → Prop} {t : Env} {h : Heap}
theorem w1 {a b : Code} (hh : ∀ K : Env → Heap → Prop, (∀ t h, Wkn C (wr a) t h (fun t h => WP C b Q t h) → K t h) → WP C a (thenQ K Q) t h) : WP C (.seq a b) Q t h := WP_seq hh
theorem w2 {id : Nat} {c : Code} (hh : WP C c (blockQ id Q) t h) : WP C (.block id c) Q t h := WP_block hh
theorem w3 {c : Code} (hh : WP C c (noG Q) t h) : WP C (.scope c) Q t h := WP_scope hh
theorem w4 {id : Nat} {l : List Oper} (hh : WPl C l.toArray Q l t h) : WP C (.region id l.toArray false) Q t h := WP_region hh
theorem w5 (hh : Q .normal t h) : WP C .skip Q t h := WP_skip hh
theorem w6 {id : Nat} (hh : Q (.exit id) t h) : WP C (.exit id) Q t h := WP_exit hh
theorem w7 (hh : Q .ret t h) : WP C .ret Q t h := WP_ret hh
theorem w8 {c : Operand} {x y : Code} (g : condK (aev C.G t c) (WP C x Q t h) (WP C y Q t h)) : WP C (.cond c x y) Q t h := WP_condK g
theorem w9 {a : Prop} (g : a) : Went a := ⟨g⟩
theorem w0 {ms : List Nat} {R : Env → Heap → Prop} (g : R t h) : Wkn C ms t h R := Wkn.refl g
variable {F0 F1 F2 F3 F4 F5 F6 F7 F8 F9 F10 F11 F12 F13 F14 F15 F16 F17 F18 F19 X Y P N : Prop} {c : Operand} {a b : Code} {q : Bool} {ops : Array Oper} {rest : List Oper} {dst : Option Nat} {op : Op} {ty : TypeId} {pos : String} {aft : Array Edge} {j d : Nat} {want : Bool} {K : Env → Prop} {T T' len e n by' p ver : Nat} {idx : List Nat} {xs rows ys : List AVal} {y : AVal} {k : AVal → Heap → Prop} {kv : AVal → Prop}
theorem sq0 (g : Y) (e : X = Y := by simp (disch := first | omega | (simp only [go_sem, ↓reduceIte, seval]; first | done | omega) | fail) only [go_sem, ↓reduceIte, seval]; rfl) : X := (e).mpr g
theorem zq0 (e : X := by simp (disch := first | omega | (simp only [go_sem, ↓reduceIte, seval]; first | done | omega) | fail) only [go_sem, ↓reduceIte, seval]; all_goals fail) : X := e
theorem cq0 (h1 : P → WP C a Q t h) (h2 : N → WP C b Q t h) (e : aev C.G t c = .bool q := by simp (disch := first | omega | (simp only [go_sem, ↓reduceIte, seval]; first | done | omega) | fail) only [go_sem, ↓reduceIte, seval]; rfl) (hP : (q = true) = P := by exact hcE) (hN : (q = false) = N := by exact hcE) : WP C (.cond c a b) Q t h := WP_cond (e) (fun x => h1 (hP.mp x)) (fun x => h2 (hN.mp x))
theorem gq0 (h1 : P → WPl C ops Q (⟨dst, op, ty, pos, aft, some (j, want)⟩ :: rest) (upd t d (.bool true)) h) (h2 : N → WPl C ops Q (⟨dst, op, ty, pos, aft, some (j, want)⟩ :: rest) (upd t d (.bool false)) h) (hd : (ops[j]?).bind (·.dst) = some d := by rfl) (e : t d = .bool q := by simp (disch := first | omega | (simp only [go_sem, ↓reduceIte, seval]; first | done | omega) | fail) only [go_sem, ↓reduceIte, seval]; rfl) (hP : (q = true) = P := by exact hcE) (hN : (q = false) = N := by exact hcE) : WPl C ops Q (⟨dst, op, ty, pos, aft, some (j, want)⟩ :: rest) t h := WPl_gsplit hd (e) (fun x => h1 (hP.mp x)) (fun x => h2 (hN.mp x))
theorem sq1 (f0 : F0) (g : Y) (e : F0 → X = Y := by intro f0; simp (disch := first | omega | (simp only [go_sem, ↓reduceIte, seval]; first | done | omega) | fail) only [go_sem, ↓reduceIte, seval, f0]; rfl) : X := (e f0).mpr g
theorem zq1 (f0 : F0) (e : F0 → X := by intro f0; simp (disch := first | omega | (simp only [go_sem, ↓reduceIte, seval]; first | done | omega) | fail) only [go_sem, ↓reduceIte, seval, f0]; all_goals fail) : X := e f0
theorem cq1 (f0 : F0) (h1 : P → WP C a Q t h) (h2 : N → WP C b Q t h) (e : F0 → aev C.G t c = .bool q := by intro f0; simp (disch := first | omega | (simp only [go_sem, ↓reduceIte, seval]; first | done | omega) | fail) only [go_sem, ↓reduceIte, seval, f0]; rfl) (hP : (q = true) = P := by exact hcE) (hN : (q = false) = N := by exact hcE) : WP C (.cond c a b) Q t h := WP_cond (e f0) (fun x => h1 (hP.mp x)) (fun x => h2 (hN.mp x))
theorem gq1 (f0 : F0) (h1 : P → WPl C ops Q (⟨dst, op, ty, pos, aft, some (j, want)⟩ :: rest) (upd t d (.bool true)) h) (h2 : N → WPl C ops Q (⟨dst, op, ty, pos, aft, some (j, want)⟩ :: rest) (upd t d (.bool false)) h) (hd : (ops[j]?).bind (·.dst) = some d := by rfl) (e : F0 → t d = .bool q := by intro f0; simp (disch := first | omega | (simp only [go_sem, ↓reduceIte, seval]; first | done | omega) | fail) only [go_sem, ↓reduceIte, seval, f0]; rfl) (hP : (q = true) = P := by exact hcE) (hN : (q = false) = N := by exact hcE) : WPl C ops Q (⟨dst, op, ty, pos, aft, some (j, want)⟩ :: rest) t h := WPl_gsplit hd (e f0) (fun x => h1 (hP.mp x)) (fun x => h2 (hN.mp x))
theorem sq2 (f0 : F0) (f1 : F1) (g : Y) (e : F0 → F1 → X = Y := by intro f0 f1; simp (disch := first | omega | (simp only [go_sem, ↓reduceIte, seval]; first | done | omega) | fail) only [go_sem, ↓reduceIte, seval, f0, f1]; rfl) : X := (e f0 f1).mpr g
theorem zq2 (f0 : F0) (f1 : F1) (e : F0 → F1 → X := by intro f0 f1; simp (disch := first | omega | (simp only [go_sem, ↓reduceIte, seval]; first | done | omega) | fail) only [go_sem, ↓reduceIte, seval, f0, f1]; all_goals fail) : X := e f0 f1
theorem cq2 (f0 : F0) (f1 : F1) (h1 : P → WP C a Q t h) (h2 : N → WP C b Q t h) (e : F0 → F1 → aev C.G t c = .bool q := by intro f0 f1; simp (disch := first | omega | (simp only [go_sem, ↓reduceIte, seval]; first | done | omega) | fail) only [go_sem, ↓reduceIte, seval, f0, f1]; rfl) (hP : (q = true) = P := by exact hcE) (hN : (q = false) = N := by exact hcE) : WP C (.cond c a b) Q t h := WP_cond (e f0 f1) (fun x => h1 (hP.mp x)) (fun x => h2 (hN.mp x))
theorem gq2 (f0 : F0) (f1 : F1) (h1 : P → WPl C ops Q (⟨dst, op, ty, pos, aft, some (j, want)⟩ :: rest) (upd t d (.bool true)) h) (h2 : N → WPl C ops Q (⟨dst, op, ty, pos, aft, some (j, want)⟩ :: rest) (upd t d (.bool false)) h) (hd : (ops[j]?).bind (·.dst) = some d := by rfl) (e : F0 → F1 → t d = .bool q := by intro f0 f1; simp (disch := first | omega | (simp only [go_sem, ↓reduceIte, seval]; first | done | omega) | fail) only [go_sem, ↓reduceIte, seval, f0, f1]; rfl) (hP : (q = true) = P := by exact hcE) (hN : (q = false) = N := by exact hcE) : WPl C ops Q (⟨dst, op, ty, pos, aft, some (j, want)⟩ :: rest) t h := WPl_gsplit hd (e f0 f1) (fun x => h1 (hP.mp x)) (fun x => h2 (hN.mp x))
theorem rq2 (f0 : F0) (f1 : F1) (hk : k (.sl n xs) h) (he : elmT C.P T = some e := by simp only [go_sem]; rfl) (hn : szOf C.P e = some n := by simp only [go_sem]; rfl) (hz : (zroT C.P e).map (fun z => (z.cells.length, z.cells.all AVal.sto)) = some (n, true) := by simp only [go_sem]; try rfl) (hl : xs.length = len := by simp) (h0 : 0 < len := by omega) (h1 : 0 < n := by omega) (hb : len * n ≤ 16777216 := by omega) (hi : idx = List.range len := by rfl) (hx : F0 → F1 → xs.all (fun x => decide (x.cells.length = n) && x.lies) = true := by intro f0 f1; simp (disch := first | omega | (simp only [go_sem, ↓reduceIte, seval]; first | done | omega) | fail) only [go_sem, ↓reduceIte, seval, f0, f1]; all_goals (simp; all_goals fail)) : rowsK C T len idx xs h k := rowsK_sl he hn hz hl h0 h1 hb hi (hx f0 f1) hk
theorem xq2 (f0 : F0) (f1 : F1) (hk : k (.hs h.length 0 0 len true) (h ++ [.row e n 0 xs])) (he : elmT C.P T = some e := by simp only [go_sem]; rfl) (hn : szOf C.P e = some n := by simp only [go_sem]; rfl) (hz : (zroT C.P e).map (fun z => (z.cells.length, z.cells.all AVal.sto)) = some (n, true) := by simp only [go_sem]; try rfl) (hl : xs.length = len := by simp) (h0 : 0 < len := by omega) (h1 : 0 < n := by omega) (hb : len * n ≤ 16777216 := by omega) (hi : idx = List.range len := by rfl) (hx : F0 → F1 → xs.all (fun x => decide (x.cells.length = n) && x.lies) = true := by intro f0 f1; simp (disch := first | omega | (simp only [go_sem, ↓reduceIte, seval]; first | done | omega) | fail) only [go_sem, ↓reduceIte, seval, f0, f1]; all_goals (simp; all_goals fail)) : rowsK C T len idx xs h k := rowsK_hs he hn hz hl h0 h1 hb hi (hx f0 f1) hk
theorem aq2 (f0 : F0) (f1 : F1) (hk : k (.hs p (ver + 1) 0 (len + ys.length) true) (h.set p (.row e n (ver + 1) (rows ++ ys)))) (hT : T' = T ∨ strT C.P T' = true := by first | exact .inl rfl | (right; simp only [go_sem])) (he : elmT C.P T = some e := by simp only [go_sem]; rfl) (hn : szOf C.P e = some n := by simp only [go_sem]; rfl) (hb : byT C.P e = some by' := by simp only [go_sem]; rfl) (hz : (zroT C.P e).map (fun z => z.cells.length) = some n := by simp only [go_sem]; try rfl) (h0 : 0 < n := by omega) (hy : elemsOf h n y = some ys := by simp only [elemsOf, ↓reduceIte]; rfl) (hrow : F0 → F1 → getRow h p ver = some (e, n, rows) := by intro f0 f1; simp (disch := first | omega | (simp only [go_sem, ↓reduceIte, seval]; first | done | omega) | fail) only [go_sem, ↓reduceIte, seval, f0, f1]; rfl) (hl : len = rows.length := by simp) (hr : len + ys.length ≤ maxLen ∧ (len + ys.length) * by' ≤ 140737488355328 := by refine ⟨?_, ?_⟩ <;> simp only [maxLen, List.length_map, List.length_cons, List.length_nil, List.length_append] <;> omega) : appK C T T' (.hs p ver 0 len true) y h k := appK_row hT he hn hb hz h0 hy (hrow f0 f1) hl hr hk
theorem sq3 (f0 : F0) (f1 : F1) (f2 : F2) (g : Y) (e : F0 → F1 → F2 → X = Y := by intro f0 f1 f2; simp (disch := first | omega | (simp only [go_sem, ↓reduceIte, seval]; first | done | omega) | fail) only [go_sem, ↓reduceIte, seval, f0, f1, f2]; rfl) : X := (e f0 f1 f2).mpr g
theorem zq3 (f0 : F0) (f1 : F1) (f2 : F2) (e : F0 → F1 → F2 → X := by intro f0 f1 f2; simp (disch := first | omega | (simp only [go_sem, ↓reduceIte, seval]; first | done | omega) | fail) only [go_sem, ↓reduceIte, seval, f0, f1, f2]; all_goals fail) : X := e f0 f1 f2
theorem cq3 (f0 : F0) (f1 : F1) (f2 : F2) (h1 : P → WP C a Q t h) (h2 : N → WP C b Q t h) (e : F0 → F1 → F2 → aev C.G t c = .bool q := by intro f0 f1 f2; simp (disch := first | omega | (simp only [go_sem, ↓reduceIte, seval]; first | done | omega) | fail) only [go_sem, ↓reduceIte, seval, f0, f1, f2]; rfl) (hP : (q = true) = P := by exact hcE) (hN : (q = false) = N := by exact hcE) : WP C (.cond c a b) Q t h := WP_cond (e f0 f1 f2) (fun x => h1 (hP.mp x)) (fun x => h2 (hN.mp x))
theorem gq3 (f0 : F0) (f1 : F1) (f2 : F2) (h1 : P → WPl C ops Q (⟨dst, op, ty, pos, aft, some (j, want)⟩ :: rest) (upd t d (.bool true)) h) (h2 : N → WPl C ops Q (⟨dst, op, ty, pos, aft, some (j, want)⟩ :: rest) (upd t d (.bool false)) h) (hd : (ops[j]?).bind (·.dst) = some d := by rfl) (e : F0 → F1 → F2 → t d = .bool q := by intro f0 f1 f2; simp (disch := first | omega | (simp only [go_sem, ↓reduceIte, seval]; first | done | omega) | fail) only [go_sem, ↓reduceIte, seval, f0, f1, f2]; rfl) (hP : (q = true) = P := by exact hcE) (hN : (q = false) = N := by exact hcE) : WPl C ops Q (⟨dst, op, ty, pos, aft, some (j, want)⟩ :: rest) t h := WPl_gsplit hd (e f0 f1 f2) (fun x => h1 (hP.mp x)) (fun x => h2 (hN.mp x))
theorem rq3 (f0 : F0) (f1 : F1) (f2 : F2) (hk : k (.sl n xs) h) (he : elmT C.P T = some e := by simp only [go_sem]; rfl) (hn : szOf C.P e = some n := by simp only [go_sem]; rfl) (hz : (zroT C.P e).map (fun z => (z.cells.length, z.cells.all AVal.sto)) = some (n, true) := by simp only [go_sem]; try rfl) (hl : xs.length = len := by simp) (h0 : 0 < len := by omega) (h1 : 0 < n := by omega) (hb : len * n ≤ 16777216 := by omega) (hi : idx = List.range len := by rfl) (hx : F0 → F1 → F2 → xs.all (fun x => decide (x.cells.length = n) && x.lies) = true := by intro f0 f1 f2; simp (disch := first | omega | (simp only [go_sem, ↓reduceIte, seval]; first | done | omega) | fail) only [go_sem, ↓reduceIte, seval, f0, f1, f2]; all_goals (simp; all_goals fail)) : rowsK C T len idx xs h k := rowsK_sl he hn hz hl h0 h1 hb hi (hx f0 f1 f2) hk
theorem vq3 (f0 : F0) (f1 : F1) (f2 : F2) (hk : kv (.sl n xs)) (he : elmT C.P T = some e := by simp only [go_sem]; rfl) (hn : szOf C.P e = some n := by simp only [go_sem]; rfl) (hz : (zroT C.P e).map (fun z => (z.cells.length, z.cells.all AVal.sto)) = some (n, true) := by simp only [go_sem]; try rfl) (hl : xs.length = len := by simp) (h0 : 0 < len := by omega) (h1 : 0 < n := by omega) (hb : len * n ≤ 16777216 := by omega) (hi : idx = List.range len := by rfl) (hx : F0 → F1 → F2 → xs.all (fun x => decide (x.cells.length = n) && x.lies) = true := by intro f0 f1 f2; simp (disch := first | omega | (simp only [go_sem, ↓reduceIte, seval]; first | done | omega) | fail) only [go_sem, ↓reduceIte, seval, f0, f1, f2]; all_goals (simp; all_goals fail)) : rowsV C T len idx xs kv := rowsV_sl he hn hz hl h0 h1 hb hi (hx f0 f1 f2) hk
theorem aq3 (f0 : F0) (f1 : F1) (f2 : F2) (hk : k (.hs p (ver + 1) 0 (len + ys.length) true) (h.set p (.row e n (ver + 1) (rows ++ ys)))) (hT : T' = T ∨ strT C.P T' = true := by first | exact .inl rfl | (right; simp only [go_sem])) (he : elmT C.P T = some e := by simp only [go_sem]; rfl) (hn : szOf C.P e = some n := by simp only [go_sem]; rfl) (hb : byT C.P e = some by' := by simp only [go_sem]; rfl) (hz : (zroT C.P e).map (fun z => z.cells.length) = some n := by simp only [go_sem]; try rfl) (h0 : 0 < n := by omega) (hy : elemsOf h n y = some ys := by simp only [elemsOf, ↓reduceIte]; rfl) (hrow : F0 → F1 → F2 → getRow h p ver = some (e, n, rows) := by intro f0 f1 f2; simp (disch := first | omega | (simp only [go_sem, ↓reduceIte, seval]; first | done | omega) | fail) only [go_sem, ↓reduceIte, seval, f0, f1, f2]; rfl) (hl : len = rows.length := by simp) (hr : len + ys.length ≤ maxLen ∧ (len + ys.length) * by' ≤ 140737488355328 := by refine ⟨?_, ?_⟩ <;> simp only [maxLen, List.length_map, List.length_cons, List.length_nil, List.length_append] <;> omega) : appK C T T' (.hs p ver 0 len true) y h k := appK_row hT he hn hb hz h0 hy (hrow f0 f1 f2) hl hr hk
theorem sq4 (f0 : F0) (f1 : F1) (f2 : F2) (f3 : F3) (g : Y) (e : F0 → F1 → F2 → F3 → X = Y := by intro f0 f1 f2 f3; simp (disch := first | omega | (simp only [go_sem, ↓reduceIte, seval]; first | done | omega) | fail) only [go_sem, ↓reduceIte, seval, f0, f1, f2, f3]; rfl) : X := (e f0 f1 f2 f3).mpr g
theorem zq4 (f0 : F0) (f1 : F1) (f2 : F2) (f3 : F3) (e : F0 → F1 → F2 → F3 → X := by intro f0 f1 f2 f3; simp (disch := first | omega | (simp only [go_sem, ↓reduceIte, seval]; first | done | omega) | fail) only [go_sem, ↓reduceIte, seval, f0, f1, f2, f3]; all_goals fail) : X := e f0 f1 f2 f3
theorem cq4 (f0 : F0) (f1 : F1) (f2 : F2) (f3 : F3) (h1 : P → WP C a Q t h) (h2 : N → WP C b Q t h) (e : F0 → F1 → F2 → F3 → aev C.G t c = .bool q := by intro f0 f1 f2 f3; simp (disch := first | omega | (simp only [go_sem, ↓reduceIte, seval]; first | done | omega) | fail) only [go_sem, ↓reduceIte, seval, f0, f1, f2, f3]; rfl) (hP : (q = true) = P := by exact hcE) (hN : (q = false) = N := by exact hcE) : WP C (.cond c a b) Q t h := WP_cond (e f0 f1 f2 f3) (fun x => h1 (hP.mp x)) (fun x => h2 (hN.mp x))
theorem gq4 (f0 : F0) (f1 : F1) (f2 : F2) (f3 : F3) (h1 : P → WPl C ops Q (⟨dst, op, ty, pos, aft, some (j, want)⟩ :: rest) (upd t d (.bool true)) h) (h2 : N → WPl C ops Q (⟨dst, op, ty, pos, aft, some (j, want)⟩ :: rest) (upd t d (.bool false)) h) (hd : (ops[j]?).bind (·.dst) = some d := by rfl) (e : F0 → F1 → F2 → F3 → t d = .bool q := by intro f0 f1 f2 f3; simp (disch := first | omega | (simp only [go_sem, ↓reduceIte, seval]; first | done | omega) | fail) only [go_sem, ↓reduceIte, seval, f0, f1, f2, f3]; rfl) (hP : (q = true) = P := by exact hcE) (hN : (q = false) = N := by exact hcE) : WPl C ops Q (⟨dst, op, ty, pos, aft, some (j, want)⟩ :: rest) t h := WPl_gsplit hd (e f0 f1 f2 f3) (fun x => h1 (hP.mp x)) (fun x => h2 (hN.mp x))
theorem vq4 (f0 : F0) (f1 : F1) (f2 : F2) (f3 : F3) (hk : kv (.sl n xs)) (he : elmT C.P T = some e := by simp only [go_sem]; rfl) (hn : szOf C.P e = some n := by simp only [go_sem]; rfl) (hz : (zroT C.P e).map (fun z => (z.cells.length, z.cells.all AVal.sto)) = some (n, true) := by simp only [go_sem]; try rfl) (hl : xs.length = len := by simp) (h0 : 0 < len := by omega) (h1 : 0 < n := by omega) (hb : len * n ≤ 16777216 := by omega) (hi : idx = List.range len := by rfl) (hx : F0 → F1 → F2 → F3 → xs.all (fun x => decide (x.cells.length = n) && x.lies) = true := by intro f0 f1 f2 f3; simp (disch := first | omega | (simp only [go_sem, ↓reduceIte, seval]; first | done | omega) | fail) only [go_sem, ↓reduceIte, seval, f0, f1, f2, f3]; all_goals (simp; all_goals fail)) : rowsV C T len idx xs kv := rowsV_sl he hn hz hl h0 h1 hb hi (hx f0 f1 f2 f3) hk
theorem aq4 (f0 : F0) (f1 : F1) (f2 : F2) (f3 : F3) (hk : k (.hs p (ver + 1) 0 (len + ys.length) true) (h.set p (.row e n (ver + 1) (rows ++ ys)))) (hT : T' = T ∨ strT C.P T' = true := by first | exact .inl rfl | (right; simp only [go_sem])) (he : elmT C.P T = some e := by simp only [go_sem]; rfl) (hn : szOf C.P e = some n := by simp only [go_sem]; rfl) (hb : byT C.P e = some by' := by simp only [go_sem]; rfl) (hz : (zroT C.P e).map (fun z => z.cells.length) = some n := by simp only [go_sem]; try rfl) (h0 : 0 < n := by omega) (hy : elemsOf h n y = some ys := by simp only [elemsOf, ↓reduceIte]; rfl) (hrow : F0 → F1 → F2 → F3 → getRow h p ver = some (e, n, rows) := by intro f0 f1 f2 f3; simp (disch := first | omega | (simp only [go_sem, ↓reduceIte, seval]; first | done | omega) | fail) only [go_sem, ↓reduceIte, seval, f0, f1, f2, f3]; rfl) (hl : len = rows.length := by simp) (hr : len + ys.length ≤ maxLen ∧ (len + ys.length) * by' ≤ 140737488355328 := by refine ⟨?_, ?_⟩ <;> simp only [maxLen, List.length_map, List.length_cons, List.length_nil, List.length_append] <;> omega) : appK C T T' (.hs p ver 0 len true) y h k := appK_row hT he hn hb hz h0 hy (hrow f0 f1 f2 f3) hl hr hk
theorem sq5 (f0 : F0) (f1 : F1) (f2 : F2) (f3 : F3) (f4 : F4) (g : Y) (e : F0 → F1 → F2 → F3 → F4 → X = Y := by intro f0 f1 f2 f3 f4; simp (disch := first | omega | (simp only [go_sem, ↓reduceIte, seval]; first | done | omega) | fail) only [go_sem, ↓reduceIte, seval, f0, f1, f2, f3, f4]; rfl) : X := (e f0 f1 f2 f3 f4).mpr g
theorem zq5 (f0 : F0) (f1 : F1) (f2 : F2) (f3 : F3) (f4 : F4) (e : F0 → F1 → F2 → F3 → F4 → X := by intro f0 f1 f2 f3 f4; simp (disch := first | omega | (simp only [go_sem, ↓reduceIte, seval]; first | done | omega) | fail) only [go_sem, ↓reduceIte, seval, f0, f1, f2, f3, f4]; all_goals fail) : X := e f0 f1 f2 f3 f4
theorem cq5 (f0 : F0) (f1 : F1) (f2 : F2) (f3 : F3) (f4 : F4) (h1 : P → WP C a Q t h) (h2 : N → WP C b Q t h) (e : F0 → F1 → F2 → F3 → F4 → aev C.G t c = .bool q := by intro f0 f1 f2 f3 f4; simp (disch := first | omega | (simp only [go_sem, ↓reduceIte, seval]; first | done | omega) | fail) only [go_sem, ↓reduceIte, seval, f0, f1, f2, f3, f4]; rfl) (hP : (q = true) = P := by exact hcE) (hN : (q = false) = N := by exact hcE) : WP C (.cond c a b) Q t h := WP_cond (e f0 f1 f2 f3 f4) (fun x => h1 (hP.mp x)) (fun x => h2 (hN.mp x))
theorem gq5 (f0 : F0) (f1 : F1) (f2 : F2) (f3 : F3) (f4 : F4) (h1 : P → WPl C ops Q (⟨dst, op, ty, pos, aft, some (j, want)⟩ :: rest) (upd t d (.bool true)) h) (h2 : N → WPl C ops Q (⟨dst, op, ty, pos, aft, some (j, want)⟩ :: rest) (upd t d (.bool false)) h) (hd : (ops[j]?).bind (·.dst) = some d := by rfl) (e : F0 → F1 → F2 → F3 → F4 → t d = .bool q := by intro f0 f1 f2 f3 f4; simp (disch := first | omega | (simp only [go_sem, ↓reduceIte, seval]; first | done | omega) | fail) only [go_sem, ↓reduceIte, seval, f0, f1, f2, f3, f4]; rfl) (hP : (q = true) = P := by exact hcE) (hN : (q = false) = N := by exact hcE) : WPl C ops Q (⟨dst, op, ty, pos, aft, some (j, want)⟩ :: rest) t h := WPl_gsplit hd (e f0 f1 f2 f3 f4) (fun x => h1 (hP.mp x)) (fun x => h2 (hN.mp x))
theorem rq5 (f0 : F0) (f1 : F1) (f2 : F2) (f3 : F3) (f4 : F4) (hk : k (.sl n xs) h) (he : elmT C.P T = some e := by simp only [go_sem]; rfl) (hn : szOf C.P e = some n := by simp only [go_sem]; rfl) (hz : (zroT C.P e).map (fun z => (z.cells.length, z.cells.all AVal.sto)) = some (n, true) := by simp only [go_sem]; try rfl) (hl : xs.length = len := by simp) (h0 : 0 < len := by omega) (h1 : 0 < n := by omega) (hb : len * n ≤ 16777216 := by omega) (hi : idx = List.range len := by rfl) (hx : F0 → F1 → F2 → F3 → F4 → xs.all (fun x => decide (x.cells.length = n) && x.lies) = true := by intro f0 f1 f2 f3 f4; simp (disch := first | omega | (simp only [go_sem, ↓reduceIte, seval]; first | done | omega) | fail) only [go_sem, ↓reduceIte, seval, f0, f1, f2, f3, f4]; all_goals (simp; all_goals fail)) : rowsK C T len idx xs h k := rowsK_sl he hn hz hl h0 h1 hb hi (hx f0 f1 f2 f3 f4) hk
theorem vq5 (f0 : F0) (f1 : F1) (f2 : F2) (f3 : F3) (f4 : F4) (hk : kv (.sl n xs)) (he : elmT C.P T = some e := by simp only [go_sem]; rfl) (hn : szOf C.P e = some n := by simp only [go_sem]; rfl) (hz : (zroT C.P e).map (fun z => (z.cells.length, z.cells.all AVal.sto)) = some (n, true) := by simp only [go_sem]; try rfl) (hl : xs.length = len := by simp) (h0 : 0 < len := by omega) (h1 : 0 < n := by omega) (hb : len * n ≤ 16777216 := by omega) (hi : idx = List.range len := by rfl) (hx : F0 → F1 → F2 → F3 → F4 → xs.all (fun x => decide (x.cells.length = n) && x.lies) = true := by intro f0 f1 f2 f3 f4; simp (disch := first | omega | (simp only [go_sem, ↓reduceIte, seval]; first | done | omega) | fail) only [go_sem, ↓reduceIte, seval, f0, f1, f2, f3, f4]; all_goals (simp; all_goals fail)) : rowsV C T len idx xs kv := rowsV_sl he hn hz hl h0 h1 hb hi (hx f0 f1 f2 f3 f4) hk
theorem aq5 (f0 : F0) (f1 : F1) (f2 : F2) (f3 : F3) (f4 : F4) (hk : k (.hs p (ver + 1) 0 (len + ys.length) true) (h.set p (.row e n (ver + 1) (rows ++ ys)))) (hT : T' = T ∨ strT C.P T' = true := by first | exact .inl rfl | (right; simp only [go_sem])) (he : elmT C.P T = some e := by simp only [go_sem]; rfl) (hn : szOf C.P e = some n := by simp only [go_sem]; rfl) (hb : byT C.P e = some by' := by simp only [go_sem]; rfl) (hz : (zroT C.P e).map (fun z => z.cells.length) = some n := by simp only [go_sem]; try rfl) (h0 : 0 < n := by omega) (hy : elemsOf h n y = some ys := by simp only [elemsOf, ↓reduceIte]; rfl) (hrow : F0 → F1 → F2 → F3 → F4 → getRow h p ver = some (e, n, rows) := by intro f0 f1 f2 f3 f4; simp (disch := first | omega | (simp only [go_sem, ↓reduceIte, seval]; first | done | omega) | fail) only [go_sem, ↓reduceIte, seval, f0, f1, f2, f3, f4]; rfl) (hl : len = rows.length := by simp) (hr : len + ys.length ≤ maxLen ∧ (len + ys.length) * by' ≤ 140737488355328 := by refine ⟨?_, ?_⟩ <;> simp only [maxLen, List.length_map, List.length_cons, List.length_nil, List.length_append] <;> omega) : appK C T T' (.hs p ver 0 len true) y h k := appK_row hT he hn hb hz h0 hy (hrow f0 f1 f2 f3 f4) hl hr hk
theorem sq6 (f0 : F0) (f1 : F1) (f2 : F2) (f3 : F3) (f4 : F4) (f5 : F5) (g : Y) (e : F0 → F1 → F2 → F3 → F4 → F5 → X = Y := by intro f0 f1 f2 f3 f4 f5; simp (disch := first | omega | (simp only [go_sem, ↓reduceIte, seval]; first | done | omega) | fail) only [go_sem, ↓reduceIte, seval, f0, f1, f2, f3, f4, f5]; rfl) : X := (e f0 f1 f2 f3 f4 f5).mpr g
theorem zq6 (f0 : F0) (f1 : F1) (f2 : F2) (f3 : F3) (f4 : F4) (f5 : F5) (e : F0 → F1 → F2 → F3 → F4 → F5 → X := by intro f0 f1 f2 f3 f4 f5; simp (disch := first | omega | (simp only [go_sem, ↓reduceIte, seval]; first | done | omega) | fail) only [go_sem, ↓reduceIte, seval, f0, f1, f2, f3, f4, f5]; all_goals fail) : X := e f0 f1 f2 f3 f4 f5
theorem cq6 (f0 : F0) (f1 : F1) (f2 : F2) (f3 : F3) (f4 : F4) (f5 : F5) (h1 : P → WP C a Q t h) (h2 : N → WP C b Q t h) (e : F0 → F1 → F2 → F3 → F4 → F5 → aev C.G t c = .bool q := by intro f0 f1 f2 f3 f4 f5; simp (disch := first | omega | (simp only [go_sem, ↓reduceIte, seval]; first | done | omega) | fail) only [go_sem, ↓reduceIte, seval, f0, f1, f2, f3, f4, f5]; rfl) (hP : (q = true) = P := by exact hcE) (hN : (q = false) = N := by exact hcE) : WP C (.cond c a b) Q t h := WP_cond (e f0 f1 f2 f3 f4 f5) (fun x => h1 (hP.mp x)) (fun x => h2 (hN.mp x))
theorem gq6 (f0 : F0) (f1 : F1) (f2 : F2) (f3 : F3) (f4 : F4) (f5 : F5) (h1 : P → WPl C ops Q (⟨dst, op, ty, pos, aft, some (j, want)⟩ :: rest) (upd t d (.bool true)) h) (h2 : N → WPl C ops Q (⟨dst, op, ty, pos, aft, some (j, want)⟩ :: rest) (upd t d (.bool false)) h) (hd : (ops[j]?).bind (·.dst) = some d := by rfl) (e : F0 → F1 → F2 → F3 → F4 → F5 → t d = .bool q := by intro f0 f1 f2 f3 f4 f5; simp (disch := first | omega | (simp only [go_sem, ↓reduceIte, seval]; first | done | omega) | fail) only [go_sem, ↓reduceIte, seval, f0, f1, f2, f3, f4, f5]; rfl) (hP : (q = true) = P := by exact hcE) (hN : (q = false) = N := by exact hcE) : WPl C ops Q (⟨dst, op, ty, pos, aft, some (j, want)⟩ :: rest) t h := WPl_gsplit hd (e f0 f1 f2 f3 f4 f5) (fun x => h1 (hP.mp x)) (fun x => h2 (hN.mp x))
theorem rq6 (f0 : F0) (f1 : F1) (f2 : F2) (f3 : F3) (f4 : F4) (f5 : F5) (hk : k (.sl n xs) h) (he : elmT C.P T = some e := by simp only [go_sem]; rfl) (hn : szOf C.P e = some n := by simp only [go_sem]; rfl) (hz : (zroT C.P e).map (fun z => (z.cells.length, z.cells.all AVal.sto)) = some (n, true) := by simp only [go_sem]; try rfl) (hl : xs.length = len := by simp) (h0 : 0 < len := by omega) (h1 : 0 < n := by omega) (hb : len * n ≤ 16777216 := by omega) (hi : idx = List.range len := by rfl) (hx : F0 → F1 → F2 → F3 → F4 → F5 → xs.all (fun x => decide (x.cells.length = n) && x.lies) = true := by intro f0 f1 f2 f3 f4 f5; simp (disch := first | omega | (simp only [go_sem, ↓reduceIte, seval]; first | done | omega) | fail) only [go_sem, ↓reduceIte, seval, f0, f1, f2, f3, f4, f5]; all_goals (simp; all_goals fail)) : rowsK C T len idx xs h k := rowsK_sl he hn hz hl h0 h1 hb hi (hx f0 f1 f2 f3 f4 f5) hk
theorem aq6 (f0 : F0) (f1 : F1) (f2 : F2) (f3 : F3) (f4 : F4) (f5 : F5) (hk : k (.hs p (ver + 1) 0 (len + ys.length) true) (h.set p (.row e n (ver + 1) (rows ++ ys)))) (hT : T' = T ∨ strT C.P T' = true := by first | exact .inl rfl | (right; simp only [go_sem])) (he : elmT C.P T = some e := by simp only [go_sem]; rfl) (hn : szOf C.P e = some n := by simp only [go_sem]; rfl) (hb : byT C.P e = some by' := by simp only [go_sem]; rfl) (hz : (zroT C.P e).map (fun z => z.cells.length) = some n := by simp only [go_sem]; try rfl) (h0 : 0 < n := by omega) (hy : elemsOf h n y = some ys := by simp only [elemsOf, ↓reduceIte]; rfl) (hrow : F0 → F1 → F2 → F3 → F4 → F5 → getRow h p ver = some (e, n, rows) := by intro f0 f1 f2 f3 f4 f5; simp (disch := first | omega | (simp only [go_sem, ↓reduceIte, seval]; first | done | omega) | fail) only [go_sem, ↓reduceIte, seval, f0, f1, f2, f3, f4, f5]; rfl) (hl : len = rows.length := by simp) (hr : len + ys.length ≤ maxLen ∧ (len + ys.length) * by' ≤ 140737488355328 := by refine ⟨?_, ?_⟩ <;> simp only [maxLen, List.length_map, List.length_cons, List.length_nil, List.length_append] <;> omega) : appK C T T' (.hs p ver 0 len true) y h k := appK_row hT he hn hb hz h0 hy (hrow f0 f1 f2 f3 f4 f5) hl hr hk
theorem sq7 (f0 : F0) (f1 : F1) (f2 : F2) (f3 : F3) (f4 : F4) (f5 : F5) (f6 : F6) (g : Y) (e : F0 → F1 → F2 → F3 → F4 → F5 → F6 → X = Y := by intro f0 f1 f2 f3 f4 f5 f6; simp (disch := first | omega | (simp only [go_sem, ↓reduceIte, seval]; first | done | omega) | fail) only [go_sem, ↓reduceIte, seval, f0, f1, f2, f3, f4, f5, f6]; rfl) : X := (e f0 f1 f2 f3 f4 f5 f6).mpr g
theorem zq7 (f0 : F0) (f1 : F1) (f2 : F2) (f3 : F3) (f4 : F4) (f5 : F5) (f6 : F6) (e : F0 → F1 → F2 → F3 → F4 → F5 → F6 → X := by intro f0 f1 f2 f3 f4 f5 f6; simp (disch := first | omega | (simp only [go_sem, ↓reduceIte, seval]; first | done | omega) | fail) only [go_sem, ↓reduceIte, seval, f0, f1, f2, f3, f4, f5, f6]; all_goals fail) : X := e f0 f1 f2 f3 f4 f5 f6
theorem cq7 (f0 : F0) (f1 : F1) (f2 : F2) (f3 : F3) (f4 : F4) (f5 : F5) (f6 : F6) (h1 : P → WP C a Q t h) (h2 : N → WP C b Q t h) (e : F0 → F1 → F2 → F3 → F4 → F5 → F6 → aev C.G t c = .bool q := by intro f0 f1 f2 f3 f4 f5 f6; simp (disch := first | omega | (simp only [go_sem, ↓reduceIte, seval]; first | done | omega) | fail) only [go_sem, ↓reduceIte, seval, f0, f1, f2, f3, f4, f5, f6]; rfl) (hP : (q = true) = P := by exact hcE) (hN : (q = false) = N := by exact hcE) : WP C (.cond c a b) Q t h := WP_cond (e f0 f1 f2 f3 f4 f5 f6) (fun x => h1 (hP.mp x)) (fun x => h2 (hN.mp x))
theorem rq7 (f0 : F0) (f1 : F1) (f2 : F2) (f3 : F3) (f4 : F4) (f5 : F5) (f6 : F6) (hk : k (.sl n xs) h) (he : elmT C.P T = some e := by simp only [go_sem]; rfl) (hn : szOf C.P e = some n := by simp only [go_sem]; rfl) (hz : (zroT C.P e).map (fun z => (z.cells.length, z.cells.all AVal.sto)) = some (n, true) := by simp only [go_sem]; try rfl) (hl : xs.length = len := by simp) (h0 : 0 < len := by omega) (h1 : 0 < n := by omega) (hb : len * n ≤ 16777216 := by omega) (hi : idx = List.range len := by rfl) (hx : F0 → F1 → F2 → F3 → F4 → F5 → F6 → xs.all (fun x => decide (x.cells.length = n) && x.lies) = true := by intro f0 f1 f2 f3 f4 f5 f6; simp (disch := first | omega | (simp only [go_sem, ↓reduceIte, seval]; first | done | omega) | fail) only [go_sem, ↓reduceIte, seval, f0, f1, f2, f3, f4, f5, f6]; all_goals (simp; all_goals fail)) : rowsK C T len idx xs h k := rowsK_sl he hn hz hl h0 h1 hb hi (hx f0 f1 f2 f3 f4 f5 f6) hk
theorem vq7 (f0 : F0) (f1 : F1) (f2 : F2) (f3 : F3) (f4 : F4) (f5 : F5) (f6 : F6) (hk : kv (.sl n xs)) (he : elmT C.P T = some e := by simp only [go_sem]; rfl) (hn : szOf C.P e = some n := by simp only [go_sem]; rfl) (hz : (zroT C.P e).map (fun z => (z.cells.length, z.cells.all AVal.sto)) = some (n, true) := by simp only [go_sem]; try rfl) (hl : xs.length = len := by simp) (h0 : 0 < len := by omega) (h1 : 0 < n := by omega) (hb : len * n ≤ 16777216 := by omega) (hi : idx = List.range len := by rfl) (hx : F0 → F1 → F2 → F3 → F4 → F5 → F6 → xs.all (fun x => decide (x.cells.length = n) && x.lies) = true := by intro f0 f1 f2 f3 f4 f5 f6; simp (disch := first | omega | (simp only [go_sem, ↓reduceIte, seval]; first | done | omega) | fail) only [go_sem, ↓reduceIte, seval, f0, f1, f2, f3, f4, f5, f6]; all_goals (simp; all_goals fail)) : rowsV C T len idx xs kv := rowsV_sl he hn hz hl h0 h1 hb hi (hx f0 f1 f2 f3 f4 f5 f6) hk
theorem aq7 (f0 : F0) (f1 : F1) (f2 : F2) (f3 : F3) (f4 : F4) (f5 : F5) (f6 : F6) (hk : k (.hs p (ver + 1) 0 (len + ys.length) true) (h.set p (.row e n (ver + 1) (rows ++ ys)))) (hT : T' = T ∨ strT C.P T' = true := by first | exact .inl rfl | (right; simp only [go_sem])) (he : elmT C.P T = some e := by simp only [go_sem]; rfl) (hn : szOf C.P e = some n := by simp only [go_sem]; rfl) (hb : byT C.P e = some by' := by simp only [go_sem]; rfl) (hz : (zroT C.P e).map (fun z => z.cells.length) = some n := by simp only [go_sem]; try rfl) (h0 : 0 < n := by omega) (hy : elemsOf h n y = some ys := by simp only [elemsOf, ↓reduceIte]; rfl) (hrow : F0 → F1 → F2 → F3 → F4 → F5 → F6 → getRow h p ver = some (e, n, rows) := by intro f0 f1 f2 f3 f4 f5 f6; simp (disch := first | omega | (simp only [go_sem, ↓reduceIte, seval]; first | done | omega) | fail) only [go_sem, ↓reduceIte, seval, f0, f1, f2, f3, f4, f5, f6]; rfl) (hl : len = rows.length := by simp) (hr : len + ys.length ≤ maxLen ∧ (len + ys.length) * by' ≤ 140737488355328 := by refine ⟨?_, ?_⟩ <;> simp only [maxLen, List.length_map, List.length_cons, List.length_nil, List.length_append] <;> omega) : appK C T T' (.hs p ver 0 len true) y h k := appK_row hT he hn hb hz h0 hy (hrow f0 f1 f2 f3 f4 f5 f6) hl hr hk
theorem sq8 (f0 : F0) (f1 : F1) (f2 : F2) (f3 : F3) (f4 : F4) (f5 : F5) (f6 : F6) (f7 : F7) (g : Y) (e : F0 → F1 → F2 → F3 → F4 → F5 → F6 → F7 → X = Y := by intro f0 f1 f2 f3 f4 f5 f6 f7; simp (disch := first | omega | (simp only [go_sem, ↓reduceIte, seval]; first | done | omega) | fail) only [go_sem, ↓reduceIte, seval, f0, f1, f2, f3, f4, f5, f6, f7]; rfl) : X := (e f0 f1 f2 f3 f4 f5 f6 f7).mpr g
theorem zq8 (f0 : F0) (f1 : F1) (f2 : F2) (f3 : F3) (f4 : F4) (f5 : F5) (f6 : F6) (f7 : F7) (e : F0 → F1 → F2 → F3 → F4 → F5 → F6 → F7 → X := by intro f0 f1 f2 f3 f4 f5 f6 f7; simp (disch := first | omega | (simp only [go_sem, ↓reduceIte, seval]; first | done | omega) | fail) only [go_sem, ↓reduceIte, seval, f0, f1, f2, f3, f4, f5, f6, f7]; all_goals fail) : X := e f0 f1 f2 f3 f4 f5 f6 f7
theorem cq8 (f0 : F0) (f1 : F1) (f2 : F2) (f3 : F3) (f4 : F4) (f5 : F5) (f6 : F6) (f7 : F7) (h1 : P → WP C a Q t h) (h2 : N → WP C b Q t h) (e : F0 → F1 → F2 → F3 → F4 → F5 → F6 → F7 → aev C.G t c = .bool q := by intro f0 f1 f2 f3 f4 f5 f6 f7; simp (disch := first | omega | (simp only [go_sem, ↓reduceIte, seval]; first | done | omega) | fail) only [go_sem, ↓reduceIte, seval, f0, f1, f2, f3, f4, f5, f6, f7]; rfl) (hP : (q = true) = P := by exact hcE) (hN : (q = false) = N := by exact hcE) : WP C (.cond c a b) Q t h := WP_cond (e f0 f1 f2 f3 f4 f5 f6 f7) (fun x => h1 (hP.mp x)) (fun x => h2 (hN.mp x))
theorem gq8 (f0 : F0) (f1 : F1) (f2 : F2) (f3 : F3) (f4 : F4) (f5 : F5) (f6 : F6) (f7 : F7) (h1 : P → WPl C ops Q (⟨dst, op, ty, pos, aft, some (j, want)⟩ :: rest) (upd t d (.bool true)) h) (h2 : N → WPl C ops Q (⟨dst, op, ty, pos, aft, some (j, want)⟩ :: rest) (upd t d (.bool false)) h) (hd : (ops[j]?).bind (·.dst) = some d := by rfl) (e : F0 → F1 → F2 → F3 → F4 → F5 → F6 → F7 → t d = .bool q := by intro f0 f1 f2 f3 f4 f5 f6 f7; simp (disch := first | omega | (simp only [go_sem, ↓reduceIte, seval]; first | done | omega) | fail) only [go_sem, ↓reduceIte, seval, f0, f1, f2, f3, f4, f5, f6, f7]; rfl) (hP : (q = true) = P := by exact hcE) (hN : (q = false) = N := by exact hcE) : WPl C ops Q (⟨dst, op, ty, pos, aft, some (j, want)⟩ :: rest) t h := WPl_gsplit hd (e f0 f1 f2 f3 f4 f5 f6 f7) (fun x => h1 (hP.mp x)) (fun x => h2 (hN.mp x))
theorem rq8 (f0 : F0) (f1 : F1) (f2 : F2) (f3 : F3) (f4 : F4) (f5 : F5) (f6 : F6) (f7 : F7) (hk : k (.sl n xs) h) (he : elmT C.P T = some e := by simp only [go_sem]; rfl) (hn : szOf C.P e = some n := by simp only [go_sem]; rfl) (hz : (zroT C.P e).map (fun z => (z.cells.length, z.cells.all AVal.sto)) = some (n, true) := by simp only [go_sem]; try rfl) (hl : xs.length = len := by simp) (h0 : 0 < len := by omega) (h1 : 0 < n := by omega) (hb : len * n ≤ 16777216 := by omega) (hi : idx = List.range len := by rfl) (hx : F0 → F1 → F2 → F3 → F4 → F5 → F6 → F7 → xs.all (fun x => decide (x.cells.length = n) && x.lies) = true := by intro f0 f1 f2 f3 f4 f5 f6 f7; simp (disch := first | omega | (simp only [go_sem, ↓reduceIte, seval]; first | done | omega) | fail) only [go_sem, ↓reduceIte, seval, f0, f1, f2, f3, f4, f5, f6, f7]; all_goals (simp; all_goals fail)) : rowsK C T len idx xs h k := rowsK_sl he hn hz hl h0 h1 hb hi (hx f0 f1 f2 f3 f4 f5 f6 f7) hk
theorem aq8 (f0 : F0) (f1 : F1) (f2 : F2) (f3 : F3) (f4 : F4) (f5 : F5) (f6 : F6) (f7 : F7) (hk : k (.hs p (ver + 1) 0 (len + ys.length) true) (h.set p (.row e n (ver + 1) (rows ++ ys)))) (hT : T' = T ∨ strT C.P T' = true := by first | exact .inl rfl | (right; simp only [go_sem])) (he : elmT C.P T = some e := by simp only [go_sem]; rfl) (hn : szOf C.P e = some n := by simp only [go_sem]; rfl) (hb : byT C.P e = some by' := by simp only [go_sem]; rfl) (hz : (zroT C.P e).map (fun z => z.cells.length) = some n := by simp only [go_sem]; try rfl) (h0 : 0 < n := by omega) (hy : elemsOf h n y = some ys := by simp only [elemsOf, ↓reduceIte]; rfl) (hrow : F0 → F1 → F2 → F3 → F4 → F5 → F6 → F7 → getRow h p ver = some (e, n, rows) := by intro f0 f1 f2 f3 f4 f5 f6 f7; simp (disch := first | omega | (simp only [go_sem, ↓reduceIte, seval]; first | done | omega) | fail) only [go_sem, ↓reduceIte, seval, f0, f1, f2, f3, f4, f5, f6, f7]; rfl) (hl : len = rows.length := by simp) (hr : len + ys.length ≤ maxLen ∧ (len + ys.length) * by' ≤ 140737488355328 := by refine ⟨?_, ?_⟩ <;> simp only [maxLen, List.length_map, List.length_cons, List.length_nil, List.length_append] <;> omega) : appK C T T' (.hs p ver 0 len true) y h k := appK_row hT he hn hb hz h0 hy (hrow f0 f1 f2 f3 f4 f5 f6 f7) hl hr hk
theorem sq9 (f0 : F0) (f1 : F1) (f2 : F2) (f3 : F3) (f4 : F4) (f5 : F5) (f6 : F6) (f7 : F7) (f8 : F8) (g : Y) (e : F0 → F1 → F2 → F3 → F4 → F5 → F6 → F7 → F8 → X = Y := by intro f0 f1 f2 f3 f4 f5 f6 f7 f8; simp (disch := first | omega | (simp only [go_sem, ↓reduceIte, seval]; first | done | omega) | fail) only [go_sem, ↓reduceIte, seval, f0, f1, f2, f3, f4, f5, f6, f7, f8]; rfl) : X := (e f0 f1 f2 f3 f4 f5 f6 f7 f8).mpr g
theorem zq9 (f0 : F0) (f1 : F1) (f2 : F2) (f3 : F3) (f4 : F4) (f5 : F5) (f6 : F6) (f7 : F7) (f8 : F8) (e : F0 → F1 → F2 → F3 → F4 → F5 → F6 → F7 → F8 → X := by intro f0 f1 f2 f3 f4 f5 f6 f7 f8; simp (disch := first | omega | (simp only [go_sem, ↓reduceIte, seval]; first | done | omega) | fail) only [go_sem, ↓reduceIte, seval, f0, f1, f2, f3, f4, f5, f6, f7, f8]; all_goals fail) : X := e f0 f1 f2 f3 f4 f5 f6 f7 f8
theorem cq9 (f0 : F0) (f1 : F1) (f2 : F2) (f3 : F3) (f4 : F4) (f5 : F5) (f6 : F6) (f7 : F7) (f8 : F8) (h1 : P → WP C a Q t h) (h2 : N → WP C b Q t h) (e : F0 → F1 → F2 → F3 → F4 → F5 → F6 → F7 → F8 → aev C.G t c = .bool q := by intro f0 f1 f2 f3 f4 f5 f6 f7 f8; simp (disch := first | omega | (simp only [go_sem, ↓reduceIte, seval]; first | done | omega) | fail) only [go_sem, ↓reduceIte, seval, f0, f1, f2, f3, f4, f5, f6, f7, f8]; rfl) (hP : (q = true) = P := by exact hcE) (hN : (q = false) = N := by exact hcE) : WP C (.cond c a b) Q t h := WP_cond (e f0 f1 f2 f3 f4 f5 f6 f7 f8) (fun x => h1 (hP.mp x)) (fun x => h2 (hN.mp x))
theorem gq9 (f0 : F0) (f1 : F1) (f2 : F2) (f3 : F3) (f4 : F4) (f5 : F5) (f6 : F6) (f7 : F7) (f8 : F8) (h1 : P → WPl C ops Q (⟨dst, op, ty, pos, aft, some (j, want)⟩ :: rest) (upd t d (.bool true)) h) (h2 : N → WPl C ops Q (⟨dst, op, ty, pos, aft, some (j, want)⟩ :: rest) (upd t d (.bool false)) h) (hd : (ops[j]?).bind (·.dst) = some d := by rfl) (e : F0 → F1 → F2 → F3 → F4 → F5 → F6 → F7 → F8 → t d = .bool q := by intro f0 f1 f2 f3 f4 f5 f6 f7 f8; simp (disch := first | omega | (simp only [go_sem, ↓reduceIte, seval]; first | done | omega) | fail) only [go_sem, ↓reduceIte, seval, f0, f1, f2, f3, f4, f5, f6, f7, f8]; rfl) (hP : (q = true) = P := by exact hcE) (hN : (q = false) = N := by exact hcE) : WPl C ops Q (⟨dst, op, ty, pos, aft, some (j, want)⟩ :: rest) t h := WPl_gsplit hd (e f0 f1 f2 f3 f4 f5 f6 f7 f8) (fun x => h1 (hP.mp x)) (fun x => h2 (hN.mp x))
theorem rq9 (f0 : F0) (f1 : F1) (f2 : F2) (f3 : F3) (f4 : F4) (f5 : F5) (f6 : F6) (f7 : F7) (f8 : F8) (hk : k (.sl n xs) h) (he : elmT C.P T = some e := by simp only [go_sem]; rfl) (hn : szOf C.P e = some n := by simp only [go_sem]; rfl) (hz : (zroT C.P e).map (fun z => (z.cells.length, z.cells.all AVal.sto)) = some (n, true) := by simp only [go_sem]; try rfl) (hl : xs.length = len := by simp) (h0 : 0 < len := by omega) (h1 : 0 < n := by omega) (hb : len * n ≤ 16777216 := by omega) (hi : idx = List.range len := by rfl) (hx : F0 → F1 → F2 → F3 → F4 → F5 → F6 → F7 → F8 → xs.all (fun x => decide (x.cells.length = n) && x.lies) = true := by intro f0 f1 f2 f3 f4 f5 f6 f7 f8; simp (disch := first | omega | (simp only [go_sem, ↓reduceIte, seval]; first | done | omega) | fail) only [go_sem, ↓reduceIte, seval, f0, f1, f2, f3, f4, f5, f6, f7, f8]; all_goals (simp; all_goals fail)) : rowsK C T len idx xs h k := rowsK_sl he hn hz hl h0 h1 hb hi (hx f0 f1 f2 f3 f4 f5 f6 f7 f8) hk
theorem aq9 (f0 : F0) (f1 : F1) (f2 : F2) (f3 : F3) (f4 : F4) (f5 : F5) (f6 : F6) (f7 : F7) (f8 : F8) (hk : k (.hs p (ver + 1) 0 (len + ys.length) true) (h.set p (.row e n (ver + 1) (rows ++ ys)))) (hT : T' = T ∨ strT C.P T' = true := by first | exact .inl rfl | (right; simp only [go_sem])) (he : elmT C.P T = some e := by simp only [go_sem]; rfl) (hn : szOf C.P e = some n := by simp only [go_sem]; rfl) (hb : byT C.P e = some by' := by simp only [go_sem]; rfl) (hz : (zroT C.P e).map (fun z => z.cells.length) = some n := by simp only [go_sem]; try rfl) (h0 : 0 < n := by omega) (hy : elemsOf h n y = some ys := by simp only [elemsOf, ↓reduceIte]; rfl) (hrow : F0 → F1 → F2 → F3 → F4 → F5 → F6 → F7 → F8 → getRow h p ver = some (e, n, rows) := by intro f0 f1 f2 f3 f4 f5 f6 f7 f8; simp (disch := first | omega | (simp only [go_sem, ↓reduceIte, seval]; first | done | omega) | fail) only [go_sem, ↓reduceIte, seval, f0, f1, f2, f3, f4, f5, f6, f7, f8]; rfl) (hl : len = rows.length := by simp) (hr : len + ys.length ≤ maxLen ∧ (len + ys.length) * by' ≤ 140737488355328 := by refine ⟨?_, ?_⟩ <;> simp only [maxLen, List.length_map, List.length_cons, List.length_nil, List.length_append] <;> omega) : appK C T T' (.hs p ver 0 len true) y h k := appK_row hT he hn hb hz h0 hy (hrow f0 f1 f2 f3 f4 f5 f6 f7 f8) hl hr hk
theorem sq10 (f0 : F0) (f1 : F1) (f2 : F2) (f3 : F3) (f4 : F4) (f5 : F5) (f6 : F6) (f7 : F7) (f8 : F8) (f9 : F9) (g : Y) (e : F0 → F1 → F2 → F3 → F4 → F5 → F6 → F7 → F8 → F9 → X = Y := by intro f0 f1 f2 f3 f4 f5 f6 f7 f8 f9; simp (disch := first | omega | (simp only [go_sem, ↓reduceIte, seval]; first | done | omega) | fail) only [go_sem, ↓reduceIte, seval, f0, f1, f2, f3, f4, f5, f6, f7, f8, f9]; rfl) : X := (e f0 f1 f2 f3 f4 f5 f6 f7 f8 f9).mpr g
theorem gq10 (f0 : F0) (f1 : F1) (f2 : F2) (f3 : F3) (f4 : F4) (f5 : F5) (f6 : F6) (f7 : F7) (f8 : F8) (f9 : F9) (h1 : P → WPl C ops Q (⟨dst, op, ty, pos, aft, some (j, want)⟩ :: rest) (upd t d (.bool true)) h) (h2 : N → WPl C ops Q (⟨dst, op, ty, pos, aft, some (j, want)⟩ :: rest) (upd t d (.bool false)) h) (hd : (ops[j]?).bind (·.dst) = some d := by rfl) (e : F0 → F1 → F2 → F3 → F4 → F5 → F6 → F7 → F8 → F9 → t d = .bool q := by intro f0 f1 f2 f3 f4 f5 f6 f7 f8 f9; simp (disch := first | omega | (simp only [go_sem, ↓reduceIte, seval]; first | done | omega) | fail) only [go_sem, ↓reduceIte, seval, f0, f1, f2, f3, f4, f5, f6, f7, f8, f9]; rfl) (hP : (q = true) = P := by exact hcE) (hN : (q = false) = N := by exact hcE) : WPl C ops Q (⟨dst, op, ty, pos, aft, some (j, want)⟩ :: rest) t h := WPl_gsplit hd (e f0 f1 f2 f3 f4 f5 f6 f7 f8 f9) (fun x => h1 (hP.mp x)) (fun x => h2 (hN.mp x))
theorem sq11 (f0 : F0) (f1 : F1) (f2 : F2) (f3 : F3) (f4 : F4) (f5 : F5) (f6 : F6) (f7 : F7) (f8 : F8) (f9 : F9) (f10 : F10) (g : Y) (e : F0 → F1 → F2 → F3 → F4 → F5 → F6 → F7 → F8 → F9 → F10 → X = Y := by intro f0 f1 f2 f3 f4 f5 f6 f7 f8 f9 f10; simp (disch := first | omega | (simp only [go_sem, ↓reduceIte, seval]; first | done | omega) | fail) only [go_sem, ↓reduceIte, seval, f0, f1, f2, f3, f4, f5, f6, f7, f8, f9, f10]; rfl) : X := (e f0 f1 f2 f3 f4 f5 f6 f7 f8 f9 f10).mpr g
theorem zq11 (f0 : F0) (f1 : F1) (f2 : F2) (f3 : F3) (f4 : F4) (f5 : F5) (f6 : F6) (f7 : F7) (f8 : F8) (f9 : F9) (f10 : F10) (e : F0 → F1 → F2 → F3 → F4 → F5 → F6 → F7 → F8 → F9 → F10 → X := by intro f0 f1 f2 f3 f4 f5 f6 f7 f8 f9 f10; simp (disch := first | omega | (simp only [go_sem, ↓reduceIte, seval]; first | done | omega) | fail) only [go_sem, ↓reduceIte, seval, f0, f1, f2, f3, f4, f5, f6, f7, f8, f9, f10]; all_goals fail) : X := e f0 f1 f2 f3 f4 f5 f6 f7 f8 f9 f10
theorem rq11 (f0 : F0) (f1 : F1) (f2 : F2) (f3 : F3) (f4 : F4) (f5 : F5) (f6 : F6) (f7 : F7) (f8 : F8) (f9 : F9) (f10 : F10) (hk : k (.sl n xs) h) (he : elmT C.P T = some e := by simp only [go_sem]; rfl) (hn : szOf C.P e = some n := by simp only [go_sem]; rfl) (hz : (zroT C.P e).map (fun z => (z.cells.length, z.cells.all AVal.sto)) = some (n, true) := by simp only [go_sem]; try rfl) (hl : xs.length = len := by simp) (h0 : 0 < len := by omega) (h1 : 0 < n := by omega) (hb : len * n ≤ 16777216 := by omega) (hi : idx = List.range len := by rfl) (hx : F0 → F1 → F2 → F3 → F4 → F5 → F6 → F7 → F8 → F9 → F10 → xs.all (fun x => decide (x.cells.length = n) && x.lies) = true := by intro f0 f1 f2 f3 f4 f5 f6 f7 f8 f9 f10; simp (disch := first | omega | (simp only [go_sem, ↓reduceIte, seval]; first | done | omega) | fail) only [go_sem, ↓reduceIte, seval, f0, f1, f2, f3, f4, f5, f6, f7, f8, f9, f10]; all_goals (simp; all_goals fail)) : rowsK C T len idx xs h k := rowsK_sl he hn hz hl h0 h1 hb hi (hx f0 f1 f2 f3 f4 f5 f6 f7 f8 f9 f10) hk
theorem vq11 (f0 : F0) (f1 : F1) (f2 : F2) (f3 : F3) (f4 : F4) (f5 : F5) (f6 : F6) (f7 : F7) (f8 : F8) (f9 : F9) (f10 : F10) (hk : kv (.sl n xs)) (he : elmT C.P T = some e := by simp only [go_sem]; rfl) (hn : szOf C.P e = some n := by simp only [go_sem]; rfl) (hz : (zroT C.P e).map (fun z => (z.cells.length, z.cells.all AVal.sto)) = some (n, true) := by simp only [go_sem]; try rfl) (hl : xs.length = len := by simp) (h0 : 0 < len := by omega) (h1 : 0 < n := by omega) (hb : len * n ≤ 16777216 := by omega) (hi : idx = List.range len := by rfl) (hx : F0 → F1 → F2 → F3 → F4 → F5 → F6 → F7 → F8 → F9 → F10 → xs.all (fun x => decide (x.cells.length = n) && x.lies) = true := by intro f0 f1 f2 f3 f4 f5 f6 f7 f8 f9 f10; simp (disch := first | omega | (simp only [go_sem, ↓reduceIte, seval]; first | done | omega) | fail) only [go_sem, ↓reduceIte, seval, f0, f1, f2, f3, f4, f5, f6, f7, f8, f9, f10]; all_goals (simp; all_goals fail)) : rowsV C T len idx xs kv := rowsV_sl he hn hz hl h0 h1 hb hi (hx f0 f1 f2 f3 f4 f5 f6 f7 f8 f9 f10) hk
theorem aq11 (f0 : F0) (f1 : F1) (f2 : F2) (f3 : F3) (f4 : F4) (f5 : F5) (f6 : F6) (f7 : F7) (f8 : F8) (f9 : F9) (f10 : F10) (hk : k (.hs p (ver + 1) 0 (len + ys.length) true) (h.set p (.row e n (ver + 1) (rows ++ ys)))) (hT : T' = T ∨ strT C.P T' = true := by first | exact .inl rfl | (right; simp only [go_sem])) (he : elmT C.P T = some e := by simp only [go_sem]; rfl) (hn : szOf C.P e = some n := by simp only [go_sem]; rfl) (hb : byT C.P e = some by' := by simp only [go_sem]; rfl) (hz : (zroT C.P e).map (fun z => z.cells.length) = some n := by simp only [go_sem]; try rfl) (h0 : 0 < n := by omega) (hy : elemsOf h n y = some ys := by simp only [elemsOf, ↓reduceIte]; rfl) (hrow : F0 → F1 → F2 → F3 → F4 → F5 → F6 → F7 → F8 → F9 → F10 → getRow h p ver = some (e, n, rows) := by intro f0 f1 f2 f3 f4 f5 f6 f7 f8 f9 f10; simp (disch := first | omega | (simp only [go_sem, ↓reduceIte, seval]; first | done | omega) | fail) only [go_sem, ↓reduceIte, seval, f0, f1, f2, f3, f4, f5, f6, f7, f8, f9, f10]; rfl) (hl : len = rows.length := by simp) (hr : len + ys.length ≤ maxLen ∧ (len + ys.length) * by' ≤ 140737488355328 := by refine ⟨?_, ?_⟩ <;> simp only [maxLen, List.length_map, List.length_cons, List.length_nil, List.length_append] <;> omega) : appK C T T' (.hs p ver 0 len true) y h k := appK_row hT he hn hb hz h0 hy (hrow f0 f1 f2 f3 f4 f5 f6 f7 f8 f9 f10) hl hr hk
theorem sq12 (f0 : F0) (f1 : F1) (f2 : F2) (f3 : F3) (f4 : F4) (f5 : F5) (f6 : F6) (f7 : F7) (f8 : F8) (f9 : F9) (f10 : F10) (f11 : F11) (g : Y) (e : F0 → F1 → F2 → F3 → F4 → F5 → F6 → F7 → F8 → F9 → F10 → F11 → X = Y := by intro f0 f1 f2 f3 f4 f5 f6 f7 f8 f9 f10 f11; simp (disch := first | omega | (simp only [go_sem, ↓reduceIte, seval]; first | done | omega) | fail) only [go_sem, ↓reduceIte, seval, f0, f1, f2, f3, f4, f5, f6, f7, f8, f9, f10, f11]; rfl) : X := (e f0 f1 f2 f3 f4 f5 f6 f7 f8 f9 f10 f11).mpr g
theorem zq12 (f0 : F0) (f1 : F1) (f2 : F2) (f3 : F3) (f4 : F4) (f5 : F5) (f6 : F6) (f7 : F7) (f8 : F8) (f9 : F9) (f10 : F10) (f11 : F11) (e : F0 → F1 → F2 → F3 → F4 → F5 → F6 → F7 → F8 → F9 → F10 → F11 → X := by intro f0 f1 f2 f3 f4 f5 f6 f7 f8 f9 f10 f11; simp (disch := first | omega | (simp only [go_sem, ↓reduceIte, seval]; first | done | omega) | fail) only [go_sem, ↓reduceIte, seval, f0, f1, f2, f3, f4, f5, f6, f7, f8, f9, f10, f11]; all_goals fail) : X := e f0 f1 f2 f3 f4 f5 f6 f7 f8 f9 f10 f11
theorem rq12 (f0 : F0) (f1 : F1) (f2 : F2) (f3 : F3) (f4 : F4) (f5 : F5) (f6 : F6) (f7 : F7) (f8 : F8) (f9 : F9) (f10 : F10) (f11 : F11) (hk : k (.sl n xs) h) (he : elmT C.P T = some e := by simp only [go_sem]; rfl) (hn : szOf C.P e = some n := by simp only [go_sem]; rfl) (hz : (zroT C.P e).map (fun z => (z.cells.length, z.cells.all AVal.sto)) = some (n, true) := by simp only [go_sem]; try rfl) (hl : xs.length = len := by simp) (h0 : 0 < len := by omega) (h1 : 0 < n := by omega) (hb : len * n ≤ 16777216 := by omega) (hi : idx = List.range len := by rfl) (hx : F0 → F1 → F2 → F3 → F4 → F5 → F6 → F7 → F8 → F9 → F10 → F11 → xs.all (fun x => decide (x.cells.length = n) && x.lies) = true := by intro f0 f1 f2 f3 f4 f5 f6 f7 f8 f9 f10 f11; simp (disch := first | omega | (simp only [go_sem, ↓reduceIte, seval]; first | done | omega) | fail) only [go_sem, ↓reduceIte, seval, f0, f1, f2, f3, f4, f5, f6, f7, f8, f9, f10, f11]; all_goals (simp; all_goals fail)) : rowsK C T len idx xs h k := rowsK_sl he hn hz hl h0 h1 hb hi (hx f0 f1 f2 f3 f4 f5 f6 f7 f8 f9 f10 f11) hk
theorem aq12 (f0 : F0) (f1 : F1) (f2 : F2) (f3 : F3) (f4 : F4) (f5 : F5) (f6 : F6) (f7 : F7) (f8 : F8) (f9 : F9) (f10 : F10) (f11 : F11) (hk : k (.hs p (ver + 1) 0 (len + ys.length) true) (h.set p (.row e n (ver + 1) (rows ++ ys)))) (hT : T' = T ∨ strT C.P T' = true := by first | exact .inl rfl | (right; simp only [go_sem])) (he : elmT C.P T = some e := by simp only [go_sem]; rfl) (hn : szOf C.P e = some n := by simp only [go_sem]; rfl) (hb : byT C.P e = some by' := by simp only [go_sem]; rfl) (hz : (zroT C.P e).map (fun z => z.cells.length) = some n := by simp only [go_sem]; try rfl) (h0 : 0 < n := by omega) (hy : elemsOf h n y = some ys := by simp only [elemsOf, ↓reduceIte]; rfl) (hrow : F0 → F1 → F2 → F3 → F4 → F5 → F6 → F7 → F8 → F9 → F10 → F11 → getRow h p ver = some (e, n, rows) := by intro f0 f1 f2 f3 f4 f5 f6 f7 f8 f9 f10 f11; simp (disch := first | omega | (simp only [go_sem, ↓reduceIte, seval]; first | done | omega) | fail) only [go_sem, ↓reduceIte, seval, f0, f1, f2, f3, f4, f5, f6, f7, f8, f9, f10, f11]; rfl) (hl : len = rows.length := by simp) (hr : len + ys.length ≤ maxLen ∧ (len + ys.length) * by' ≤ 140737488355328 := by refine ⟨?_, ?_⟩ <;> simp only [maxLen, List.length_map, List.length_cons, List.length_nil, List.length_append] <;> omega) : appK C T T' (.hs p ver 0 len true) y h k := appK_row hT he hn hb hz h0 hy (hrow f0 f1 f2 f3 f4 f5 f6 f7 f8 f9 f10 f11) hl hr hk
theorem sq13 (f0 : F0) (f1 : F1) (f2 : F2) (f3 : F3) (f4 : F4) (f5 : F5) (f6 : F6) (f7 : F7) (f8 : F8) (f9 : F9) (f10 : F10) (f11 : F11) (f12 : F12) (g : Y) (e : F0 → F1 → F2 → F3 → F4 → F5 → F6 → F7 → F8 → F9 → F10 → F11 → F12 → X = Y := by intro f0 f1 f2 f3 f4 f5 f6 f7 f8 f9 f10 f11 f12; simp (disch := first | omega | (simp only [go_sem, ↓reduceIte, seval]; first | done | omega) | fail) only [go_sem, ↓reduceIte, seval, f0, f1, f2, f3, f4, f5, f6, f7, f8, f9, f10, f11, f12]; rfl) : X := (e f0 f1 f2 f3 f4 f5 f6 f7 f8 f9 f10 f11 f12).mpr g
theorem zq13 (f0 : F0) (f1 : F1) (f2 : F2) (f3 : F3) (f4 : F4) (f5 : F5) (f6 : F6) (f7 : F7) (f8 : F8) (f9 : F9) (f10 : F10) (f11 : F11) (f12 : F12) (e : F0 → F1 → F2 → F3 → F4 → F5 → F6 → F7 → F8 → F9 → F10 → F11 → F12 → X := by intro f0 f1 f2 f3 f4 f5 f6 f7 f8 f9 f10 f11 f12; simp (disch := first | omega | (simp only [go_sem, ↓reduceIte, seval]; first | done | omega) | fail) only [go_sem, ↓reduceIte, seval, f0, f1, f2, f3, f4, f5, f6, f7, f8, f9, f10, f11, f12]; all_goals fail) : X := e f0 f1 f2 f3 f4 f5 f6 f7 f8 f9 f10 f11 f12
theorem vq13 (f0 : F0) (f1 : F1) (f2 : F2) (f3 : F3) (f4 : F4) (f5 : F5) (f6 : F6) (f7 : F7) (f8 : F8) (f9 : F9) (f10 : F10) (f11 : F11) (f12 : F12) (hk : kv (.sl n xs)) (he : elmT C.P T = some e := by simp only [go_sem]; rfl) (hn : szOf C.P e = some n := by simp only [go_sem]; rfl) (hz : (zroT C.P e).map (fun z => (z.cells.length, z.cells.all AVal.sto)) = some (n, true) := by simp only [go_sem]; try rfl) (hl : xs.length = len := by simp) (h0 : 0 < len := by omega) (h1 : 0 < n := by omega) (hb : len * n ≤ 16777216 := by omega) (hi : idx = List.range len := by rfl) (hx : F0 → F1 → F2 → F3 → F4 → F5 → F6 → F7 → F8 → F9 → F10 → F11 → F12 → xs.all (fun x => decide (x.cells.length = n) && x.lies) = true := by intro f0 f1 f2 f3 f4 f5 f6 f7 f8 f9 f10 f11 f12; simp (disch := first | omega | (simp only [go_sem, ↓reduceIte, seval]; first | done | omega) | fail) only [go_sem, ↓reduceIte, seval, f0, f1, f2, f3, f4, f5, f6, f7, f8, f9, f10, f11, f12]; all_goals (simp; all_goals fail)) : rowsV C T len idx xs kv := rowsV_sl he hn hz hl h0 h1 hb hi (hx f0 f1 f2 f3 f4 f5 f6 f7 f8 f9 f10 f11 f12) hk
theorem aq13 (f0 : F0) (f1 : F1) (f2 : F2) (f3 : F3) (f4 : F4) (f5 : F5) (f6 : F6) (f7 : F7) (f8 : F8) (f9 : F9) (f10 : F10) (f11 : F11) (f12 : F12) (hk : k (.hs p (ver + 1) 0 (len + ys.length) true) (h.set p (.row e n (ver + 1) (rows ++ ys)))) (hT : T' = T ∨ strT C.P T' = true := by first | exact .inl rfl | (right; simp only [go_sem])) (he : elmT C.P T = some e := by simp only [go_sem]; rfl) (hn : szOf C.P e = some n := by simp only [go_sem]; rfl) (hb : byT C.P e = some by' := by simp only [go_sem]; rfl) (hz : (zroT C.P e).map (fun z => z.cells.length) = some n := by simp only [go_sem]; try rfl) (h0 : 0 < n := by omega) (hy : elemsOf h n y = some ys := by simp only [elemsOf, ↓reduceIte]; rfl) (hrow : F0 → F1 → F2 → F3 → F4 → F5 → F6 → F7 → F8 → F9 → F10 → F11 → F12 → getRow h p ver = some (e, n, rows) := by intro f0 f1 f2 f3 f4 f5 f6 f7 f8 f9 f10 f11 f12; simp (disch := first | omega | (simp only [go_sem, ↓reduceIte, seval]; first | done | omega) | fail) only [go_sem, ↓reduceIte, seval, f0, f1, f2, f3, f4, f5, f6, f7, f8, f9, f10, f11, f12]; rfl) (hl : len = rows.length := by simp) (hr : len + ys.length ≤ maxLen ∧ (len + ys.length) * by' ≤ 140737488355328 := by refine ⟨?_, ?_⟩ <;> simp only [maxLen, List.length_map, List.length_cons, List.length_nil, List.length_append] <;> omega) : appK C T T' (.hs p ver 0 len true) y h k := appK_row hT he hn hb hz h0 hy (hrow f0 f1 f2 f3 f4 f5 f6 f7 f8 f9 f10 f11 f12) hl hr hk
theorem sqo0 (g : Y) (e : X = Y := by simp (disch := first | omega | (simp only [go_sem, ↓reduceIte, Nat.reduceEqDiff]; done) | fail) only [go_sem, ↓reduceIte, Int.reduceToNat, Int.reduceLE, Int.reduceLT, Int.reduceSub, Int.reduceAdd, Nat.reduceEqDiff, Nat.reduceAdd, Nat.reduceLeDiff, Nat.reduceLT, Nat.reduceMul, Nat.reduceSub]; rfl) : X := (e).mpr g
theorem zqo0 (e : X := by simp (disch := first | omega | (simp only [go_sem, ↓reduceIte, Nat.reduceEqDiff]; done) | fail) only [go_sem, ↓reduceIte, Int.reduceToNat, Int.reduceLE, Int.reduceLT, Int.reduceSub, Int.reduceAdd, Nat.reduceEqDiff, Nat.reduceAdd, Nat.reduceLeDiff, Nat.reduceLT, Nat.reduceMul, Nat.reduceSub]; all_goals fail) : X := e
theorem cqo0 (h1 : P → WP C a Q t h) (h2 : N → WP C b Q t h) (e : aev C.G t c = .bool q := by simp (disch := first | omega | (simp only [go_sem, ↓reduceIte, Nat.reduceEqDiff]; done) | fail) only [go_sem, ↓reduceIte, Int.reduceToNat, Int.reduceLE, Int.reduceLT, Int.reduceSub, Int.reduceAdd, Nat.reduceEqDiff, Nat.reduceAdd, Nat.reduceLeDiff, Nat.reduceLT, Nat.reduceMul, Nat.reduceSub]; rfl) (hP : (q = true) = P := by exact hcE) (hN : (q = false) = N := by exact hcE) : WP C (.cond c a b) Q t h := WP_cond (e) (fun x => h1 (hP.mp x)) (fun x => h2 (hN.mp x))
theorem gqo0 (h1 : P → WPl C ops Q (⟨dst, op, ty, pos, aft, some (j, want)⟩ :: rest) (upd t d (.bool true)) h) (h2 : N → WPl C ops Q (⟨dst, op, ty, pos, aft, some (j, want)⟩ :: rest) (upd t d (.bool false)) h) (hd : (ops[j]?).bind (·.dst) = some d := by rfl) (e : t d = .bool q := by simp (disch := first | omega | (simp only [go_sem, ↓reduceIte, Nat.reduceEqDiff]; done) | fail) only [go_sem, ↓reduceIte, Int.reduceToNat, Int.reduceLE, Int.reduceLT, Int.reduceSub, Int.reduceAdd, Nat.reduceEqDiff, Nat.reduceAdd, Nat.reduceLeDiff, Nat.reduceLT, Nat.reduceMul, Nat.reduceSub]; rfl) (hP : (q = true) = P := by exact hcE) (hN : (q = false) = N := by exact hcE) : WPl C ops Q (⟨dst, op, ty, pos, aft, some (j, want)⟩ :: rest) t h := WPl_gsplit hd (e) (fun x => h1 (hP.mp x)) (fun x => h2 (hN.mp x))
theorem rqo0 (hk : k (.sl n xs) h) (he : elmT C.P T = some e := by simp only [go_sem]; rfl) (hn : szOf C.P e = some n := by simp only [go_sem]; rfl) (hz : (zroT C.P e).map (fun z => (z.cells.length, z.cells.all AVal.sto)) = some (n, true) := by simp only [go_sem]; try rfl) (hl : xs.length = len := by simp) (h0 : 0 < len := by omega) (h1 : 0 < n := by omega) (hb : len * n ≤ 16777216 := by omega) (hi : idx = List.range len := by rfl) (hx : xs.all (fun x => decide (x.cells.length = n) && x.lies) = true := by simp (disch := first | omega | (simp only [go_sem, ↓reduceIte, Nat.reduceEqDiff]; done) | fail) only [go_sem, ↓reduceIte, Int.reduceToNat, Int.reduceLE, Int.reduceLT, Int.reduceSub, Int.reduceAdd, Nat.reduceEqDiff, Nat.reduceAdd, Nat.reduceLeDiff, Nat.reduceLT, Nat.reduceMul, Nat.reduceSub]; all_goals (simp; all_goals fail)) : rowsK C T len idx xs h k := rowsK_sl he hn hz hl h0 h1 hb hi (hx) hk
theorem xqo0 (hk : k (.hs h.length 0 0 len true) (h ++ [.row e n 0 xs])) (he : elmT C.P T = some e := by simp only [go_sem]; rfl) (hn : szOf C.P e = some n := by simp only [go_sem]; rfl) (hz : (zroT C.P e).map (fun z => (z.cells.length, z.cells.all AVal.sto)) = some (n, true) := by simp only [go_sem]; try rfl) (hl : xs.length = len := by simp) (h0 : 0 < len := by omega) (h1 : 0 < n := by omega) (hb : len * n ≤ 16777216 := by omega) (hi : idx = List.range len := by rfl) (hx : xs.all (fun x => decide (x.cells.length = n) && x.lies) = true := by simp (disch := first | omega | (simp only [go_sem, ↓reduceIte, Nat.reduceEqDiff]; done) | fail) only [go_sem, ↓reduceIte, Int.reduceToNat, Int.reduceLE, Int.reduceLT, Int.reduceSub, Int.reduceAdd, Nat.reduceEqDiff, Nat.reduceAdd, Nat.reduceLeDiff, Nat.reduceLT, Nat.reduceMul, Nat.reduceSub]; all_goals (simp; all_goals fail)) : rowsK C T len idx xs h k := rowsK_hs he hn hz hl h0 h1 hb hi (hx) hk
theorem sqo1 (f0 : F0) (g : Y) (e : F0 → X = Y := by intro f0; simp (disch := first | omega | (simp only [go_sem, ↓reduceIte, Nat.reduceEqDiff]; done) | fail) only [go_sem, ↓reduceIte, Int.reduceToNat, Int.reduceLE, Int.reduceLT, Int.reduceSub, Int.reduceAdd, Nat.reduceEqDiff, Nat.reduceAdd, Nat.reduceLeDiff, Nat.reduceLT, Nat.reduceMul, Nat.reduceSub, f0]; rfl) : X := (e f0).mpr g
theorem zqo1 (f0 : F0) (e : F0 → X := by intro f0; simp (disch := first | omega | (simp only [go_sem, ↓reduceIte, Nat.reduceEqDiff]; done) | fail) only [go_sem, ↓reduceIte, Int.reduceToNat, Int.reduceLE, Int.reduceLT, Int.reduceSub, Int.reduceAdd, Nat.reduceEqDiff, Nat.reduceAdd, Nat.reduceLeDiff, Nat.reduceLT, Nat.reduceMul, Nat.reduceSub, f0]; all_goals fail) : X := e f0
theorem cqo1 (f0 : F0) (h1 : P → WP C a Q t h) (h2 : N → WP C b Q t h) (e : F0 → aev C.G t c = .bool q := by intro f0; simp (disch := first | omega | (simp only [go_sem, ↓reduceIte, Nat.reduceEqDiff]; done) | fail) only [go_sem, ↓reduceIte, Int.reduceToNat, Int.reduceLE, Int.reduceLT, Int.reduceSub, Int.reduceAdd, Nat.reduceEqDiff, Nat.reduceAdd, Nat.reduceLeDiff, Nat.reduceLT, Nat.reduceMul, Nat.reduceSub, f0]; rfl) (hP : (q = true) = P := by exact hcE) (hN : (q = false) = N := by exact hcE) : WP C (.cond c a b) Q t h := WP_cond (e f0) (fun x => h1 (hP.mp x)) (fun x => h2 (hN.mp x))
theorem gqo1 (f0 : F0) (h1 : P → WPl C ops Q (⟨dst, op, ty, pos, aft, some (j, want)⟩ :: rest) (upd t d (.bool true)) h) (h2 : N → WPl C ops Q (⟨dst, op, ty, pos, aft, some (j, want)⟩ :: rest) (upd t d (.bool false)) h) (hd : (ops[j]?).bind (·.dst) = some d := by rfl) (e : F0 → t d = .bool q := by intro f0; simp (disch := first | omega | (simp only [go_sem, ↓reduceIte, Nat.reduceEqDiff]; done) | fail) only [go_sem, ↓reduceIte, Int.reduceToNat, Int.reduceLE, Int.reduceLT, Int.reduceSub, Int.reduceAdd, Nat.reduceEqDiff, Nat.reduceAdd, Nat.reduceLeDiff, Nat.reduceLT, Nat.reduceMul, Nat.reduceSub, f0]; rfl) (hP : (q = true) = P := by exact hcE) (hN : (q = false) = N := by exact hcE) : WPl C ops Q (⟨dst, op, ty, pos, aft, some (j, want)⟩ :: rest) t h := WPl_gsplit hd (e f0) (fun x => h1 (hP.mp x)) (fun x => h2 (hN.mp x))
theorem sqo2 (f0 : F0) (f1 : F1) (g : Y) (e : F0 → F1 → X = Y := by intro f0 f1; simp (disch := first | omega | (simp only [go_sem, ↓reduceIte, Nat.reduceEqDiff]; done) | fail) only [go_sem, ↓reduceIte, Int.reduceToNat, Int.reduceLE, Int.reduceLT, Int.reduceSub, Int.reduceAdd, Nat.reduceEqDiff, Nat.reduceAdd, Nat.reduceLeDiff, Nat.reduceLT, Nat.reduceMul, Nat.reduceSub, f0, f1]; rfl) : X := (e f0 f1).mpr g
theorem zqo2 (f0 : F0) (f1 : F1) (e : F0 → F1 → X := by intro f0 f1; simp (disch := first | omega | (simp only [go_sem, ↓reduceIte, Nat.reduceEqDiff]; done) | fail) only [go_sem, ↓reduceIte, Int.reduceToNat, Int.reduceLE, Int.reduceLT, Int.reduceSub, Int.reduceAdd, Nat.reduceEqDiff, Nat.reduceAdd, Nat.reduceLeDiff, Nat.reduceLT, Nat.reduceMul, Nat.reduceSub, f0, f1]; all_goals fail) : X := e f0 f1
theorem cqo2 (f0 : F0) (f1 : F1) (h1 : P → WP C a Q t h) (h2 : N → WP C b Q t h) (e : F0 → F1 → aev C.G t c = .bool q := by intro f0 f1; simp (disch := first | omega | (simp only [go_sem, ↓reduceIte, Nat.reduceEqDiff]; done) | fail) only [go_sem, ↓reduceIte, Int.reduceToNat, Int.reduceLE, Int.reduceLT, Int.reduceSub, Int.reduceAdd, Nat.reduceEqDiff, Nat.reduceAdd, Nat.reduceLeDiff, Nat.reduceLT, Nat.reduceMul, Nat.reduceSub, f0, f1]; rfl) (hP : (q = true) = P := by exact hcE) (hN : (q = false) = N := by exact hcE) : WP C (.cond c a b) Q t h := WP_cond (e f0 f1) (fun x => h1 (hP.mp x)) (fun x => h2 (hN.mp x))
theorem gqo2 (f0 : F0) (f1 : F1) (h1 : P → WPl C ops Q (⟨dst, op, ty, pos, aft, some (j, want)⟩ :: rest) (upd t d (.bool true)) h) (h2 : N → WPl C ops Q (⟨dst, op, ty, pos, aft, some (j, want)⟩ :: rest) (upd t d (.bool false)) h) (hd : (ops[j]?).bind (·.dst) = some d := by rfl) (e : F0 → F1 → t d = .bool q := by intro f0 f1; simp (disch := first | omega | (simp only [go_sem, ↓reduceIte, Nat.reduceEqDiff]; done) | fail) only [go_sem, ↓reduceIte, Int.reduceToNat, Int.reduceLE, Int.reduceLT, Int.reduceSub, Int.reduceAdd, Nat.reduceEqDiff, Nat.reduceAdd, Nat.reduceLeDiff, Nat.reduceLT, Nat.reduceMul, Nat.reduceSub, f0, f1]; rfl) (hP : (q = true) = P := by exact hcE) (hN : (q = false) = N := by exact hcE) : WPl C ops Q (⟨dst, op, ty, pos, aft, some (j, want)⟩ :: rest) t h := WPl_gsplit hd (e f0 f1) (fun x => h1 (hP.mp x)) (fun x => h2 (hN.mp x))
theorem rqo2 (f0 : F0) (f1 : F1) (hk : k (.sl n xs) h) (he : elmT C.P T = some e := by simp only [go_sem]; rfl) (hn : szOf C.P e = some n := by simp only [go_sem]; rfl) (hz : (zroT C.P e).map (fun z => (z.cells.length, z.cells.all AVal.sto)) = some (n, true) := by simp only [go_sem]; try rfl) (hl : xs.length = len := by simp) (h0 : 0 < len := by omega) (h1 : 0 < n := by omega) (hb : len * n ≤ 16777216 := by omega) (hi : idx = List.range len := by rfl) (hx : F0 → F1 → xs.all (fun x => decide (x.cells.length = n) && x.lies) = true := by intro f0 f1; simp (disch := first | omega | (simp only [go_sem, ↓reduceIte, Nat.reduceEqDiff]; done) | fail) only [go_sem, ↓reduceIte, Int.reduceToNat, Int.reduceLE, Int.reduceLT, Int.reduceSub, Int.reduceAdd, Nat.reduceEqDiff, Nat.reduceAdd, Nat.reduceLeDiff, Nat.reduceLT, Nat.reduceMul, Nat.reduceSub, f0, f1]; all_goals (simp; all_goals fail)) : rowsK C T len idx xs h k := rowsK_sl he hn hz hl h0 h1 hb hi (hx f0 f1) hk
theorem sqo3 (f0 : F0) (f1 : F1) (f2 : F2) (g : Y) (e : F0 → F1 → F2 → X = Y := by intro f0 f1 f2; simp (disch := first | omega | (simp only [go_sem, ↓reduceIte, Nat.reduceEqDiff]; done) | fail) only [go_sem, ↓reduceIte, Int.reduceToNat, Int.reduceLE, Int.reduceLT, Int.reduceSub, Int.reduceAdd, Nat.reduceEqDiff, Nat.reduceAdd, Nat.reduceLeDiff, Nat.reduceLT, Nat.reduceMul, Nat.reduceSub, f0, f1, f2]; rfl) : X := (e f0 f1 f2).mpr g
theorem zqo3 (f0 : F0) (f1 : F1) (f2 : F2) (e : F0 → F1 → F2 → X := by intro f0 f1 f2; simp (disch := first | omega | (simp only [go_sem, ↓reduceIte, Nat.reduceEqDiff]; done) | fail) only [go_sem, ↓reduceIte, Int.reduceToNat, Int.reduceLE, Int.reduceLT, Int.reduceSub, Int.reduceAdd, Nat.reduceEqDiff, Nat.reduceAdd, Nat.reduceLeDiff, Nat.reduceLT, Nat.reduceMul, Nat.reduceSub, f0, f1, f2]; all_goals fail) : X := e f0 f1 f2
theorem cqo3 (f0 : F0) (f1 : F1) (f2 : F2) (h1 : P → WP C a Q t h) (h2 : N → WP C b Q t h) (e : F0 → F1 → F2 → aev C.G t c = .bool q := by intro f0 f1 f2; simp (disch := first | omega | (simp only [go_sem, ↓reduceIte, Nat.reduceEqDiff]; done) | fail) only [go_sem, ↓reduceIte, Int.reduceToNat, Int.reduceLE, Int.reduceLT, Int.reduceSub, Int.reduceAdd, Nat.reduceEqDiff, Nat.reduceAdd, Nat.reduceLeDiff, Nat.reduceLT, Nat.reduceMul, Nat.reduceSub, f0, f1, f2]; rfl) (hP : (q = true) = P := by exact hcE) (hN : (q = false) = N := by exact hcE) : WP C (.cond c a b) Q t h := WP_cond (e f0 f1 f2) (fun x => h1 (hP.mp x)) (fun x => h2 (hN.mp x))
theorem gqo3 (f0 : F0) (f1 : F1) (f2 : F2) (h1 : P → WPl C ops Q (⟨dst, op, ty, pos, aft, some (j, want)⟩ :: rest) (upd t d (.bool true)) h) (h2 : N → WPl C ops Q (⟨dst, op, ty, pos, aft, some (j, want)⟩ :: rest) (upd t d (.bool false)) h) (hd : (ops[j]?).bind (·.dst) = some d := by rfl) (e : F0 → F1 → F2 → t d = .bool q := by intro f0 f1 f2; simp (disch := first | omega | (simp only [go_sem, ↓reduceIte, Nat.reduceEqDiff]; done) | fail) only [go_sem, ↓reduceIte, Int.reduceToNat, Int.reduceLE, Int.reduceLT, Int.reduceSub, Int.reduceAdd, Nat.reduceEqDiff, Nat.reduceAdd, Nat.reduceLeDiff, Nat.reduceLT, Nat.reduceMul, Nat.reduceSub, f0, f1, f2]; rfl) (hP : (q = true) = P := by exact hcE) (hN : (q = false) = N := by exact hcE) : WPl C ops Q (⟨dst, op, ty, pos, aft, some (j, want)⟩ :: rest) t h := WPl_gsplit hd (e f0 f1 f2) (fun x => h1 (hP.mp x)) (fun x => h2 (hN.mp x))
theorem sqo4 (f0 : F0) (f1 : F1) (f2 : F2) (f3 : F3) (g : Y) (e : F0 → F1 → F2 → F3 → X = Y := by intro f0 f1 f2 f3; simp (disch := first | omega | (simp only [go_sem, ↓reduceIte, Nat.reduceEqDiff]; done) | fail) only [go_sem, ↓reduceIte, Int.reduceToNat, Int.reduceLE, Int.reduceLT, Int.reduceSub, Int.reduceAdd, Nat.reduceEqDiff, Nat.reduceAdd, Nat.reduceLeDiff, Nat.reduceLT, Nat.reduceMul, Nat.reduceSub, f0, f1, f2, f3]; rfl) : X := (e f0 f1 f2 f3).mpr g
theorem cqo4 (f0 : F0) (f1 : F1) (f2 : F2) (f3 : F3) (h1 : P → WP C a Q t h) (h2 : N → WP C b Q t h) (e : F0 → F1 → F2 → F3 → aev C.G t c = .bool q := by intro f0 f1 f2 f3; simp (disch := first | omega | (simp only [go_sem, ↓reduceIte, Nat.reduceEqDiff]; done) | fail) only [go_sem, ↓reduceIte, Int.reduceToNat, Int.reduceLE, Int.reduceLT, Int.reduceSub, Int.reduceAdd, Nat.reduceEqDiff, Nat.reduceAdd, Nat.reduceLeDiff, Nat.reduceLT, Nat.reduceMul, Nat.reduceSub, f0, f1, f2, f3]; rfl) (hP : (q = true) = P := by exact hcE) (hN : (q = false) = N := by exact hcE) : WP C (.cond c a b) Q t h := WP_cond (e f0 f1 f2 f3) (fun x => h1 (hP.mp x)) (fun x => h2 (hN.mp x))
theorem sqo5 (f0 : F0) (f1 : F1) (f2 : F2) (f3 : F3) (f4 : F4) (g : Y) (e : F0 → F1 → F2 → F3 → F4 → X = Y := by intro f0 f1 f2 f3 f4; simp (disch := first | omega | (simp only [go_sem, ↓reduceIte, Nat.reduceEqDiff]; done) | fail) only [go_sem, ↓reduceIte, Int.reduceToNat, Int.reduceLE, Int.reduceLT, Int.reduceSub, Int.reduceAdd, Nat.reduceEqDiff, Nat.reduceAdd, Nat.reduceLeDiff, Nat.reduceLT, Nat.reduceMul, Nat.reduceSub, f0, f1, f2, f3, f4]; rfl) : X := (e f0 f1 f2 f3 f4).mpr g
theorem zqo5 (f0 : F0) (f1 : F1) (f2 : F2) (f3 : F3) (f4 : F4) (e : F0 → F1 → F2 → F3 → F4 → X := by intro f0 f1 f2 f3 f4; simp (disch := first | omega | (simp only [go_sem, ↓reduceIte, Nat.reduceEqDiff]; done) | fail) only [go_sem, ↓reduceIte, Int.reduceToNat, Int.reduceLE, Int.reduceLT, Int.reduceSub, Int.reduceAdd, Nat.reduceEqDiff, Nat.reduceAdd, Nat.reduceLeDiff, Nat.reduceLT, Nat.reduceMul, Nat.reduceSub, f0, f1, f2, f3, f4]; all_goals fail) : X := e f0 f1 f2 f3 f4
theorem gqo5 (f0 : F0) (f1 : F1) (f2 : F2) (f3 : F3) (f4 : F4) (h1 : P → WPl C ops Q (⟨dst, op, ty, pos, aft, some (j, want)⟩ :: rest) (upd t d (.bool true)) h) (h2 : N → WPl C ops Q (⟨dst, op, ty, pos, aft, some (j, want)⟩ :: rest) (upd t d (.bool false)) h) (hd : (ops[j]?).bind (·.dst) = some d := by rfl) (e : F0 → F1 → F2 → F3 → F4 → t d = .bool q := by intro f0 f1 f2 f3 f4; simp (disch := first | omega | (simp only [go_sem, ↓reduceIte, Nat.reduceEqDiff]; done) | fail) only [go_sem, ↓reduceIte, Int.reduceToNat, Int.reduceLE, Int.reduceLT, Int.reduceSub, Int.reduceAdd, Nat.reduceEqDiff, Nat.reduceAdd, Nat.reduceLeDiff, Nat.reduceLT, Nat.reduceMul, Nat.reduceSub, f0, f1, f2, f3, f4]; rfl) (hP : (q = true) = P := by exact hcE) (hN : (q = false) = N := by exact hcE) : WPl C ops Q (⟨dst, op, ty, pos, aft, some (j, want)⟩ :: rest) t h := WPl_gsplit hd (e f0 f1 f2 f3 f4) (fun x => h1 (hP.mp x)) (fun x => h2 (hN.mp x))
theorem sqo9 (f0 : F0) (f1 : F1) (f2 : F2) (f3 : F3) (f4 : F4) (f5 : F5) (f6 : F6) (f7 : F7) (f8 : F8) (g : Y) (e : F0 → F1 → F2 → F3 → F4 → F5 → F6 → F7 → F8 → X = Y := by intro f0 f1 f2 f3 f4 f5 f6 f7 f8; simp (disch := first | omega | (simp only [go_sem, ↓reduceIte, Nat.reduceEqDiff]; done) | fail) only [go_sem, ↓reduceIte, Int.reduceToNat, Int.reduceLE, Int.reduceLT, Int.reduceSub, Int.reduceAdd, Nat.reduceEqDiff, Nat.reduceAdd, Nat.reduceLeDiff, Nat.reduceLT, Nat.reduceMul, Nat.reduceSub, f0, f1, f2, f3, f4, f5, f6, f7, f8]; rfl) : X := (e f0 f1 f2 f3 f4 f5 f6 f7 f8).mpr g
theorem cqo9 (f0 : F0) (f1 : F1) (f2 : F2) (f3 : F3) (f4 : F4) (f5 : F5) (f6 : F6) (f7 : F7) (f8 : F8) (h1 : P → WP C a Q t h) (h2 : N → WP C b Q t h) (e : F0 → F1 → F2 → F3 → F4 → F5 → F6 → F7 → F8 → aev C.G t c = .bool q := by intro f0 f1 f2 f3 f4 f5 f6 f7 f8; simp (disch := first | omega | (simp only [go_sem, ↓reduceIte, Nat.reduceEqDiff]; done) | fail) only [go_sem, ↓reduceIte, Int.reduceToNat, Int.reduceLE, Int.reduceLT, Int.reduceSub, Int.reduceAdd, Nat.reduceEqDiff, Nat.reduceAdd, Nat.reduceLeDiff, Nat.reduceLT, Nat.reduceMul, Nat.reduceSub, f0, f1, f2, f3, f4, f5, f6, f7, f8]; rfl) (hP : (q = true) = P := by exact hcE) (hN : (q = false) = N := by exact hcE) : WP C (.cond c a b) Q t h := WP_cond (e f0 f1 f2 f3 f4 f5 f6 f7 f8) (fun x => h1 (hP.mp x)) (fun x => h2 (hN.mp x))
theorem sqo12 (f0 : F0) (f1 : F1) (f2 : F2) (f3 : F3) (f4 : F4) (f5 : F5) (f6 : F6) (f7 : F7) (f8 : F8) (f9 : F9) (f10 : F10) (f11 : F11) (g : Y) (e : F0 → F1 → F2 → F3 → F4 → F5 → F6 → F7 → F8 → F9 → F10 → F11 → X = Y := by intro f0 f1 f2 f3 f4 f5 f6 f7 f8 f9 f10 f11; simp (disch := first | omega | (simp only [go_sem, ↓reduceIte, Nat.reduceEqDiff]; done) | fail) only [go_sem, ↓reduceIte, Int.reduceToNat, Int.reduceLE, Int.reduceLT, Int.reduceSub, Int.reduceAdd, Nat.reduceEqDiff, Nat.reduceAdd, Nat.reduceLeDiff, Nat.reduceLT, Nat.reduceMul, Nat.reduceSub, f0, f1, f2, f3, f4, f5, f6, f7, f8, f9, f10, f11]; rfl) : X := (e f0 f1 f2 f3 f4 f5 f6 f7 f8 f9 f10 f11).mpr g
theorem cqo12 (f0 : F0) (f1 : F1) (f2 : F2) (f3 : F3) (f4 : F4) (f5 : F5) (f6 : F6) (f7 : F7) (f8 : F8) (f9 : F9) (f10 : F10) (f11 : F11) (h1 : P → WP C a Q t h) (h2 : N → WP C b Q t h) (e : F0 → F1 → F2 → F3 → F4 → F5 → F6 → F7 → F8 → F9 → F10 → F11 → aev C.G t c = .bool q := by intro f0 f1 f2 f3 f4 f5 f6 f7 f8 f9 f10 f11; simp (disch := first | omega | (simp only [go_sem, ↓reduceIte, Nat.reduceEqDiff]; done) | fail) only [go_sem, ↓reduceIte, Int.reduceToNat, Int.reduceLE, Int.reduceLT, Int.reduceSub, Int.reduceAdd, Nat.reduceEqDiff, Nat.reduceAdd, Nat.reduceLeDiff, Nat.reduceLT, Nat.reduceMul, Nat.reduceSub, f0, f1, f2, f3, f4, f5, f6, f7, f8, f9, f10, f11]; rfl) (hP : (q = true) = P := by exact hcE) (hN : (q = false) = N := by exact hcE) : WP C (.cond c a b) Q t h := WP_cond (e f0 f1 f2 f3 f4 f5 f6 f7 f8 f9 f10 f11) (fun x => h1 (hP.mp x)) (fun x => h2 (hN.mp x))
theorem gqo12 (f0 : F0) (f1 : F1) (f2 : F2) (f3 : F3) (f4 : F4) (f5 : F5) (f6 : F6) (f7 : F7) (f8 : F8) (f9 : F9) (f10 : F10) (f11 : F11) (h1 : P → WPl C ops Q (⟨dst, op, ty, pos, aft, some (j, want)⟩ :: rest) (upd t d (.bool true)) h) (h2 : N → WPl C ops Q (⟨dst, op, ty, pos, aft, some (j, want)⟩ :: rest) (upd t d (.bool false)) h) (hd : (ops[j]?).bind (·.dst) = some d := by rfl) (e : F0 → F1 → F2 → F3 → F4 → F5 → F6 → F7 → F8 → F9 → F10 → F11 → t d = .bool q := by intro f0 f1 f2 f3 f4 f5 f6 f7 f8 f9 f10 f11; simp (disch := first | omega | (simp only [go_sem, ↓reduceIte, Nat.reduceEqDiff]; done) | fail) only [go_sem, ↓reduceIte, Int.reduceToNat, Int.reduceLE, Int.reduceLT, Int.reduceSub, Int.reduceAdd, Nat.reduceEqDiff, Nat.reduceAdd, Nat.reduceLeDiff, Nat.reduceLT, Nat.reduceMul, Nat.reduceSub, f0, f1, f2, f3, f4, f5, f6, f7, f8, f9, f10, f11]; rfl) (hP : (q = true) = P := by exact hcE) (hN : (q = false) = N := by exact hcE) : WPl C ops Q (⟨dst, op, ty, pos, aft, some (j, want)⟩ :: rest) t h := WPl_gsplit hd (e f0 f1 f2 f3 f4 f5 f6 f7 f8 f9 f10 f11) (fun x => h1 (hP.mp x)) (fun x => h2 (hN.mp x))
theorem rqo12 (f0 : F0) (f1 : F1) (f2 : F2) (f3 : F3) (f4 : F4) (f5 : F5) (f6 : F6) (f7 : F7) (f8 : F8) (f9 : F9) (f10 : F10) (f11 : F11) (hk : k (.sl n xs) h) (he : elmT C.P T = some e := by simp only [go_sem]; rfl) (hn : szOf C.P e = some n := by simp only [go_sem]; rfl) (hz : (zroT C.P e).map (fun z => (z.cells.length, z.cells.all AVal.sto)) = some (n, true) := by simp only [go_sem]; try rfl) (hl : xs.length = len := by simp) (h0 : 0 < len := by omega) (h1 : 0 < n := by omega) (hb : len * n ≤ 16777216 := by omega) (hi : idx = List.range len := by rfl) (hx : F0 → F1 → F2 → F3 → F4 → F5 → F6 → F7 → F8 → F9 → F10 → F11 → xs.all (fun x => decide (x.cells.length = n) && x.lies) = true := by intro f0 f1 f2 f3 f4 f5 f6 f7 f8 f9 f10 f11; simp (disch := first | omega | (simp only [go_sem, ↓reduceIte, Nat.reduceEqDiff]; done) | fail) only [go_sem, ↓reduceIte, Int.reduceToNat, Int.reduceLE, Int.reduceLT, Int.reduceSub, Int.reduceAdd, Nat.reduceEqDiff, Nat.reduceAdd, Nat.reduceLeDiff, Nat.reduceLT, Nat.reduceMul, Nat.reduceSub, f0, f1, f2, f3, f4, f5, f6, f7, f8, f9, f10, f11]; all_goals (simp; all_goals fail)) : rowsK C T len idx xs h k := rowsK_sl he hn hz hl h0 h1 hb hi (hx f0 f1 f2 f3 f4 f5 f6 f7 f8 f9 f10 f11) hk
end Go.Av
namespace Go.Av.Ty
open Go Go.Av Go.Proofs
@[go_sem] theorem szOf_3 : szOf Tryz.prog 3 = some 1 := by kernel_rfl
@[go_sem] theorem aggT_3 : aggT Tryz.prog 3 = some false := by kernel_rfl
@[go_sem] theorem und_3 : Program.underlying Tryz.prog 3 = some (.int .i64) := by kernel_rfl
@[go_sem] theorem szOf_4 : szOf Tryz.prog 4 = some 1 := by kernel_rfl
@[go_sem] theorem aggT_4 : aggT Tryz.prog 4 = some false := by kernel_rfl
@[go_sem] theorem zroT_4 : zroT Tryz.prog 4 = some (.bool false) := by kernel_rfl
@[go_sem] theorem szOf_5 : szOf Tryz.prog 5 = some 1 := by kernel_rfl
@[go_sem] theorem byT_5 : byT Tryz.prog 5 = some 1 := by kernel_rfl
@[go_sem] theorem zroT_5 : zroT Tryz.prog 5 = some (.int .u8 0) := by kernel_rfl
@[go_sem] theorem und_5 : Program.underlying Tryz.prog 5 = some (.int .u8) := by kernel_rfl
@[go_sem] theorem szOf_9 : szOf Tryz.prog 9 = some 1 := by kernel_rfl
@[go_sem] theorem aggT_9 : aggT Tryz.prog 9 = some false := by kernel_rfl
@[go_sem] theorem strT_9 : strT Tryz.prog 9 = true := by kernel_rfl
@[go_sem] theorem und_9 : Program.underlying Tryz.prog 9 = some .string := by kernel_rfl
@[go_sem] theorem szOf_21 : szOf Tryz.prog 21 = some 1 := by kernel_rfl
@[go_sem] theorem aggT_21 : aggT Tryz.prog 21 = some false := by kernel_rfl
@[go_sem] theorem zroT_21 : zroT Tryz.prog 21 = some (.int .i32 0) := by kernel_rfl
@[go_sem] theorem und_21 : Program.underlying Tryz.prog 21 = some (.int .i32) := by kernel_rfl
@[go_sem] theorem szOf_23 : szOf Tryz.prog 23 = some 1 := by kernel_rfl
@[go_sem] theorem aggT_23 : aggT Tryz.prog 23 = some false := by kernel_rfl
@[go_sem] theorem elmT_23 : elmT Tryz.prog 23 = some 67 := by kernel_rfl
@[go_sem] theorem szOf_24 : szOf Tryz.prog 24 = some 1 := by kernel_rfl
@[go_sem] theorem aggT_24 : aggT Tryz.prog 24 = some false := by kernel_rfl
@[go_sem] theorem elmT_24 : elmT Tryz.prog 24 = some 26 := by kernel_rfl
@[go_sem] theorem szOf_26 : szOf Tryz.prog 26 = some 4 := by kernel_rfl
@[go_sem] theorem aggT_26 : aggT Tryz.prog 26 = some true := by kernel_rfl
@[go_sem] theorem byT_26 : byT Tryz.prog 26 = some 80 := by kernel_rfl
@[go_sem] theorem nFld_26 : nFld Tryz.prog 26 = some 4 := by kernel_rfl
@[go_sem] theorem fOff_26_0 : fOff Tryz.prog 26 0 = some (0, 9, 1) := by kernel_rfl
@[go_sem] theorem fOff_26_1 : fOff Tryz.prog 26 1 = some (1, 23, 1) := by kernel_rfl
@[go_sem] theorem fOff_26_2 : fOff Tryz.prog 26 2 = some (2, 9, 1) := by kernel_rfl
@[go_sem] theorem fOff_26_3 : fOff Tryz.prog 26 3 = some (3, 24, 1) := by kernel_rfl
@[go_sem] theorem zroT_26 : zroT Tryz.prog 26 = some (.agg [.str [], .nil (.slice none 0 0), .str [], .nil (.slice none 0 0)]) := by kernel_rfl
@[go_sem] theorem elmT_42 : elmT Tryz.prog 42 = some 83 := by kernel_rfl
@[go_sem] theorem szOf_67 : szOf Tryz.prog 67 = some 2 := by kernel_rfl
@[go_sem] theorem aggT_67 : aggT Tryz.prog 67 = some true := by kernel_rfl
@[go_sem] theorem byT_67 : byT Tryz.prog 67 = some 32 := by kernel_rfl
@[go_sem] theorem nFld_67 : nFld Tryz.prog 67 = some 2 := by kernel_rfl
@[go_sem] theorem fOff_67_0 : fOff Tryz.prog 67 0 = some (0, 9, 1) := by kernel_rfl
@[go_sem] theorem fOff_67_1 : fOff Tryz.prog 67 1 = some (1, 9, 1) := by kernel_rfl
@[go_sem] theorem zroT_67 : zroT Tryz.prog 67 = some (.agg [.str [], .str []]) := by kernel_rfl
@[go_sem] theorem szOf_70 : szOf Tryz.prog 70 = some 1 := by kernel_rfl
@[go_sem] theorem aggT_70 : aggT Tryz.prog 70 = some false := by kernel_rfl
@[go_sem] theorem szOf_71 : szOf Tryz.prog 71 = some 1 := by kernel_rfl
@[go_sem] theorem aggT_71 : aggT Tryz.prog 71 = some false := by kernel_rfl
@[go_sem] theorem elmT_71 : elmT Tryz.prog 71 = some 5 := by kernel_rfl
@[go_sem] theorem fOff_73_0 : fOff Tryz.prog 73 0 = some (0, 70, 1) := by kernel_rfl
@[go_sem] theorem fOff_73_1 : fOff Tryz.prog 73 1 = some (1, 71, 1) := by kernel_rfl
@[go_sem] theorem zroT_73 : zroT Tryz.prog 73 = some (.agg [.nil (.pointer none), .nil (.slice none 0 0)]) := by kernel_rfl
@[go_sem] theorem szOf_83 : szOf Tryz.prog 83 = some 4 := by kernel_rfl
@[go_sem] theorem aggT_83 : aggT Tryz.prog 83 = some true := by kernel_rfl
@[go_sem] theorem byT_83 : byT Tryz.prog 83 = some 64 := by kernel_rfl
@[go_sem] theorem nFld_83 : nFld Tryz.prog 83 = some 4 := by kernel_rfl
@[go_sem] theorem fOff_83_0 : fOff Tryz.prog 83 0 = some (0, 3, 1) := by kernel_rfl
@[go_sem] theorem fOff_83_1 : fOff Tryz.prog 83 1 = some (1, 9, 1) := by kernel_rfl
@[go_sem] theorem fOff_83_2 : fOff Tryz.prog 83 2 = some (2, 23, 1) := by kernel_rfl
@[go_sem] theorem fOff_83_3 : fOff Tryz.prog 83 3 = some (3, 9, 1) := by kernel_rfl
@[go_sem] theorem zroT_83 : zroT Tryz.prog 83 = some (.agg [.int .i64 0, .str [], .nil (.slice none 0 0), .str []]) := by kernel_rfl
@[go_sem] theorem nFld_101 : nFld Tryz.prog 101 = some 2 := by kernel_rfl
@[go_sem] theorem fOff_101_0 : fOff Tryz.prog 101 0 = some (0, 9, 1) := by kernel_rfl
@[go_sem] theorem fOff_101_1 : fOff Tryz.prog 101 1 = some (1, 4, 1) := by kernel_rfl
@[go_sem] theorem zroT_101 : zroT Tryz.prog 101 = some (.agg [.str [], .bool false]) := by kernel_rfl
@[go_sem] theorem nFld_106 : nFld Tryz.prog 106 = some 2 := by kernel_rfl
@[go_sem] theorem fOff_106_0 : fOff Tryz.prog 106 0 = some (0, 24, 1) := by kernel_rfl
@[go_sem] theorem fOff_106_1 : fOff Tryz.prog 106 1 = some (1, 24, 1) := by kernel_rfl
@[go_sem] theorem zroT_106 : zroT Tryz.prog 106 = some (.agg [.nil (.slice none 0 0), .nil (.slice none 0 0)]) := by kernel_rfl
@[go_sem] theorem elmT_142 : elmT Tryz.prog 142 = some 21 := by kernel_rfl
@[go_sem] theorem szOf_157 : szOf Tryz.prog 157 = some 256 := by kernel_rfl
@[go_sem] theorem arrT_157 : arrT Tryz.prog 157 = some (256, 4) := by kernel_rfl
@[go_sem] theorem zroT_157 : zroT Tryz.prog 157 = some (.agg [.bool false, .bool false, .bool false, .bool false, .bool false, .bool false, .bool false, .bool false, .bool false, .bool false, .bool false, .bool false, .bool false, .bool false, .bool false, .bool false, .bool false, .bool false, .bool false, .bool false, .bool false, .bool false, .bool false, .bool false, .bool false, .bool false, .bool false, .bool false, .bool false, .bool false, .bool false, .bool false, .bool false, .bool false, .bool false, .bool false, .bool false, .bool false, .bool false, .bool false, .bool false, .bool false, .bool false, .bool false, .bool false, .bool false, .bool false, .bool false, .bool false, .bool false, .bool false, .bool false, .bool false, .bool false, .bool false, .bool false, .bool false, .bool false, .bool false, .bool false, .bool false, .bool false, .bool false, .bool false, .bool false, .bool false, .bool false, .bool false, .bool false, .bool false, .bool false, .bool false, .bool false, .bool false, .bool false, .bool false, .bool false, .bool false, .bool false, .bool false, .bool false, .bool false, .bool false, .bool false, .bool false, .bool false, .bool false, .bool false, .bool false, .bool false, .bool false, .bool false, .bool false, .bool false, .bool false, .bool false, .bool false, .bool false, .bool false, .bool false, .bool false, .bool false, .bool false, .bool false, .bool false, .bool false, .bool false, .bool false, .bool false, .bool false, .bool false, .bool false, .bool false, .bool false, .bool false, .bool false, .bool false, .bool false, .bool false, .bool false, .bool false, .bool false, .bool false, .bool false, .bool false, .bool false, .bool false, .bool false, .bool false, .bool false, .bool false, .bool false, .bool false, .bool false, .bool false, .bool false, .bool false, .bool false, .bool false, .bool false, .bool false, .bool false, .bool false, .bool false, .bool false, .bool false, .bool false, .bool false, .bool false, .bool false, .bool false, .bool false, .bool false, .bool false, .bool false, .bool false, .bool false, .bool false, .bool false, .bool false, .bool false, .bool false, .bool false, .bool false, .bool false, .bool false, .bool false, .bool false, .bool false, .bool false, .bool false, .bool false, .bool false, .bool false, .bool false, .bool false, .bool false, .bool false, .bool false, .bool false, .bool false, .bool false, .bool false, .bool false, .bool false, .bool false, .bool false, .bool false, .bool false, .bool false, .bool false, .bool false, .bool false, .bool false, .bool false, .bool false, .bool false, .bool false, .bool false, .bool false, .bool false, .bool false, .bool false, .bool false, .bool false, .bool false, .bool false, .bool false, .bool false, .bool false, .bool false, .bool false, .bool false, .bool false, .bool false, .bool false, .bool false, .bool false, .bool false, .bool false, .bool false, .bool false, .bool false, .bool false, .bool false, .bool false, .bool false, .bool false, .bool false, .bool false, .bool false, .bool false, .bool false, .bool false, .bool false, .bool false, .bool false, .bool false, .bool false, .bool false, .bool false, .bool false, .bool false, .bool false, .bool false, .bool false, .bool false, .bool false, .bool false, .bool false, .bool false, .bool false, .bool false, .bool false, .bool false, .bool false]) := by kernel_rfl
@[go_sem] theorem und_165 : Program.underlying Tryz.prog 165 = some (.int .u32) := by kernel_rfl
end Go.Av.Ty
namespace Go.Av
open Go Go.Proofs Go.RowKit
noncomputable def CT (G : Nat → Option (List AVal)) : Ctx := ⟨Tryz.prog, G⟩
@[go_sem] theorem CT_P (G : Nat → Option (List AVal)) : (CT G).P = Tryz.prog := (rfl)
@[go_sem] theorem CT_G (G : Nat → Option (List AVal)) : (CT G).G = G := (rfl)
abbrev Bs := List UInt8
abbrev At := Bs × Bs
def At.av (a : At) : AVal := .agg [.str a.1, .str a.2]
abbrev Tok := Int × Bs × List At × Bs
def Tok.av (t : Tok) : AVal := .agg [.int .i64 t.1, .str t.2.1, .sl 2 (t.2.2.1.map At.av), .str t.2.2.2]
inductive Elem where
 | mk (name : Bs) (attrs : List At) (text : Bs) (kids : List Elem)
 deriving Inhabited
namespace Elem
def name : Elem → Bs | .mk n _ _ _ => n
def attrs : Elem → List At | .mk _ a _ _ => a
def text : Elem → Bs | .mk _ _ t _ => t
def kids : Elem → List Elem | .mk _ _ _ k => k
end Elem
mutual
def Elem.av : Elem → AVal
 | .mk n a t k => .agg [.str n, .sl 2 (a.map At.av), .str t, .sl 4 (avs k)]
def avs : List Elem → List AVal
 | [] => []
 | e :: l => e.av :: avs l
end
theorem avs_eq (l : List Elem) : avs l = l.map Elem.av := by
 induction l with
 | nil => rfl
 | cons e l ih => rw [avs, ih]; rfl
theorem Elem.av_eq (e : Elem) : e.av = .agg [.str e.name, .sl 2 (e.attrs.map At.av), .str e.text, .sl 4 (e.kids.map Elem.av)] := by
 cases e with
 | mk n a t k => simp only [Elem.av, avs_eq, Elem.name, Elem.attrs, Elem.text, Elem.kids]
def At.sz (a : At) : Nat := 1 + a.1.length + a.2.length
def szs {α : Type} (f : α → Nat) : List α → Nat
 | [] => 0
 | a :: l => f a + szs f l
mutual
def Elem.sz : Elem → Nat
 | .mk n a t k => 1 + n.length + szs At.sz a + t.length + kidsz k
def kidsz : List Elem → Nat
 | [] => 0
 | e :: l => e.sz + kidsz l
end
theorem kidsz_eq (l : List Elem) : kidsz l = szs Elem.sz l := by
 induction l with
 | nil => rfl
 | cons e l ih => rw [kidsz, ih]; rfl
theorem Elem.sz_eq (e : Elem) : e.sz = 1 + e.name.length + szs At.sz e.attrs + e.text.length + szs Elem.sz e.kids := by
 cases e with
 | mk n a t k => simp only [Elem.sz, kidsz_eq, Elem.name, Elem.attrs, Elem.text, Elem.kids]
theorem szs_mem {α : Type} (f : α → Nat) {l : List α} {a : α} (h : a ∈ l) : f a ≤ szs f l := by
 induction l with
 | nil => cases h
 | cons b l ih =>
  rw [szs]
  rcases List.mem_cons.1 h with rfl | h
  ·omega
  ·have := ih h; omega
theorem szs_len {α : Type} (f : α → Nat) (hf : ∀ a, 1 ≤ f a) (l : List α) : l.length ≤ szs f l := by
 induction l with
 | nil => exact Nat.zero_le _
 | cons b l ih => rw [szs, List.length_cons]; have := hf b; omega
theorem At.sz_pos (a : At) : 1 ≤ a.sz := by unfold At.sz; omega
theorem Elem.sz_pos (e : Elem) : 1 ≤ e.sz := by rw [Elem.sz_eq]; omega
theorem Elem.kid_sz {e k : Elem} (h : k ∈ e.kids) : k.sz + 1 ≤ e.sz := by
 have := szs_mem Elem.sz h; rw [Elem.sz_eq e]; omega
theorem Elem.kids_len (e : Elem) : e.kids.length ≤ e.sz := by
 have := szs_len Elem.sz Elem.sz_pos e.kids; rw [Elem.sz_eq e]; omega
theorem Elem.attrs_len (e : Elem) : e.attrs.length ≤ e.sz := by
 have := szs_len At.sz At.sz_pos e.attrs; rw [Elem.sz_eq e]; omega
def Tok.sz (t : Tok) : Nat := 1 + t.2.1.length + szs At.sz t.2.2.1 + t.2.2.2.length
theorem Tok.sz_pos (t : Tok) : 1 ≤ t.sz := by unfold Tok.sz; omega
@[go_sem] theorem Tok.av_cells (t : Tok) : AVal.cells (Tok.av t) = [.int .i64 t.1, .str t.2.1, .sl 2 (t.2.2.1.map At.av), .str t.2.2.2] := (rfl)
@[go_sem] theorem Tok.av_fold (t : Tok) : AVal.agg [.int .i64 t.1, .str t.2.1, .sl 2 (t.2.2.1.map At.av), .str t.2.2.2] = Tok.av t := (rfl)
@[go_sem] theorem Tok.av_lies (t : Tok) : AVal.lies (Tok.av t) = true := (rfl)
@[go_sem] theorem Tok.av_box (e : TypeId) (t : Tok) (h : Heap) (k : Heap → Prop) : boxK e (Tok.av t) h k = k (h ++ [.row e 4 0 [Tok.av t]]) := by simp [Tok.av, boxK_agg]
@[go_sem] theorem At.av_cells (a : At) : AVal.cells (At.av a) = [.str a.1, .str a.2] := (rfl)
@[go_sem] theorem Elem.av_cells (e : Elem) : AVal.cells (Elem.av e) = [.str e.name, .sl 2 (e.attrs.map At.av), .str e.text, .sl 4 (e.kids.map Elem.av)] := by rw [Elem.av_eq]; rfl
@[go_sem] theorem At.av_fold (a : At) : AVal.agg [.str a.1, .str a.2] = At.av a := (rfl)
@[go_sem] theorem Elem.av_fold (e : Elem) : AVal.agg [.str e.name, .sl 2 (e.attrs.map At.av), .str e.text, .sl 4 (e.kids.map Elem.av)] = Elem.av e := (Elem.av_eq e).symm
@[go_sem] theorem Elem.av_box (t : TypeId) (e : Elem) (h : Heap) (k : Heap → Prop) : boxK t (Elem.av e) h k = k (h ++ [.row t 4 0 [Elem.av e]]) := by simp [Elem.av_eq, boxK_agg]
@[go_sem] theorem At.av_lies (a : At) : AVal.lies (At.av a) = true := (rfl)
@[go_sem] theorem Elem.av_lies (e : Elem) : AVal.lies (Elem.av e) = true := by rw [Elem.av_eq]; rfl
@[go_sem] theorem At.neq (h : Heap) (a b : At) : abin Tryz.prog h .neq 67 (At.av a) (At.av b) = some (.bool (!decide (a = b))) := by
 have hp : plainT Tryz.prog 67 = some [2, 2] := by kernel_rfl
 simp only [abin, At.av, hp, aeqL, aeq1, Option.map_some]
 obtain ⟨a1, a2⟩ := a; obtain ⟨b1, b2⟩ := b
 by_cases h1 : a1 = b1 <;> by_cases h2 : a2 = b2 <;> simp [h1, h2]
theorem At.clo (n : Nat) (a : At) : Clo n a.av := by
 refine .agg _ fun c hc => ?_
 simp at hc; rcases hc with rfl | rfl <;> exact .str _
theorem Tok.clo (n : Nat) (t : Tok) : Clo n t.av := by
 refine .agg _ fun c hc => ?_
 simp only [List.mem_cons, List.mem_nil_iff, or_false] at hc
 rcases hc with rfl | rfl | rfl | rfl
 ·exact .int _ _
 ·exact .str _
 ·exact .sl _ _ fun e he => by obtain ⟨a, _, rfl⟩ := List.mem_map.1 he; exact At.clo n a
 ·exact .str _
theorem Toks.clo (n m : Nat) (l : List Tok) : Clo n (.sl m (l.map Tok.av)) := .sl _ _ fun e he => by
 obtain ⟨a, _, rfl⟩ := List.mem_map.1 he; exact Tok.clo n a
theorem Ats.clo (n m : Nat) (l : List At) : Clo n (.sl m (l.map At.av)) := .sl _ _ fun e he => by
 obtain ⟨a, _, rfl⟩ := List.mem_map.1 he; exact At.clo n a
mutual
theorem Elem.clo (n : Nat) : ∀ e : Elem, Clo n e.av
 | .mk nm a t k => by
  rw [Elem.av]
  refine .agg _ fun c hc => ?_
  simp only [List.mem_cons, List.mem_nil_iff, or_false] at hc
  rcases hc with rfl | rfl | rfl | rfl
  ·exact .str _
  ·exact Ats.clo n 2 a
  ·exact .str _
  ·exact .sl _ _ (kids_clo n k)
theorem kids_clo (n : Nat) : ∀ (l : List Elem), ∀ e ∈ avs l, Clo n e
 | [] => by intro e he; cases he
 | x :: l => by
  intro e he
  rw [avs] at he
  rcases List.mem_cons.1 he with rfl | he
  ·exact Elem.clo n x
  ·exact kids_clo n l e he
end
@[go_sem] theorem cast_add_one (n : Nat) : (n : Int) + 1 = ((n + 1 : Nat) : Int) := (rfl)
theorem getElem?_of_lt {α : Type} {l : List α} {k : Nat} (h : k < l.length) : ∃ a, l[k]? = some a ∧ a ∈ l := ⟨l[k], List.getElem?_eq_getElem h, List.getElem_mem h⟩
theorem drop_cons_of {α : Type} {l : List α} {k : Nat} {a : α} (h : l[k]? = some a) : l.drop k = a :: l.drop (k + 1) := by
 obtain ⟨hlt, rfl⟩ := List.getElem?_eq_some_iff.1 h
 exact List.drop_eq_getElem_cons hlt
theorem drop_nil_of {α : Type} {l : List α} {k : Nat} (h : l.length ≤ k) : l.drop k = [] := List.drop_eq_nil_of_le h
end Go.Av
namespace Go.Av
open Go Go.Proofs Go.RowKit Go.ChangeShapes Go.WideShapes
set_option maxRecDepth 100000
section
variable {H : Type} {enc : TypeId × Value → H} {W : World}
theorem kids_prog : Kids Tryz.prog (· < Tryz.prog.types.size) := kids_rows (by kernel_rfl) (by kernel_rfl)
theorem full_prog : ∀ t e, t < Tryz.prog.types.size → Tryz.prog.underlying t = some (.slice e) → 0 < Tryz.prog.cellsOf e := slices_full_of Tryz.prog (by kernel_rfl)
theorem str_of_trod {t : TypeId} (ht : Tryz.prog.underlying t = some .string) {r : Reach} {b0 : Nat} {v : Value} {d : DataW H} {ps : List MemPlace} (hval : Value.okWide Tryz.prog W r b0 t v) (h : DataW.Trod enc Tryz.prog W 0 (fun _ => true) true t v d ps) :
  ∃ s : Bs, Rep W (lies0 W) [] (.str s) v ∧ s.length + 1 ≤ Go.Proofs.YtjgligkejfjbpaaGreatDoor.Rows.uptoBulk d := by
 obtain ⟨s, rfl, rfl, _, _⟩ := Go.ChangeMaps.open_string ht hval h
 exact ⟨s.data.toList, by simpa using Rep.str (w := W) (S := lies0 W) (μ := []) s.data.toList, by simp [Go.Proofs.YtjgligkejfjbpaaGreatDoor.Rows.uptoBulk]⟩
end
end Go.Av
namespace Go.Av
open Go Go.Proofs Go.RowKit
set_option maxRecDepth 100000
variable (G : Nat → Option (List AVal))
theorem NoEscape_sat (x : AVal) (h : Heap) : Sat (CT G) 116 [x] h (fun r h' => r = x ∧ h' = h) := by
 refine Sat.of_extern (fn := Tryz.f116) (ex := Extern.AbiNoEscape.same) Tryz.func116 (by kernel_rfl) (by kernel_rfl) (by kernel_rfl) (by kernel_rfl) fun B S μ w vs f r => ?_
 obtain ⟨hl, hr⟩ := r
 match vs, hl, hr with
 | [v], _, hr =>
  refine ⟨v, w, Lib.run_noEscape w v, x, h, S, μ, ⟨rfl, rfl⟩, Step.refl _ _ _ _, f, ?_⟩
  simpa using hr 0 x rfl
end Go.Av
namespace Go.Proofs
open Go.Shelf
def Tryz.lays231_ren : Go.Shelf.Ren := ⟨fun | 231 => 161 | n => n, fun | 9 => 9 | 5 => 5 | 3 => 3 | 4 => 4 | n => n, fun | n => n⟩
def Tryz.lays137_ren : Go.Shelf.Ren := ⟨fun | 137 => 185 | 217 => 181 | 266 => 189 | n => n, fun | 9 => 9 | 5 => 5 | 3 => 3 | n => n, fun | n => n⟩
theorem Tryz.lays137 : Go.Proofs.Lays.n137 Tryz.prog Tryz.lays137_ren := {
 mixed := by kernel_rfl
 f137 := Tryz.func185.trans (congrArg some (by kernel_rfl))
 f217 := Tryz.func181.trans (congrArg some (by kernel_rfl))
 f266 := Tryz.func189.trans (congrArg some (by kernel_rfl))
 t3 := Tryz.underlying3
 a3 := Tryz.isAgg3
 z3 := Tryz.sizeOf3
 v3 := Tryz.zeroValue3
 t5 := Tryz.underlying5
 a5 := Tryz.isAgg5
 z5 := Tryz.sizeOf5
 v5 := Tryz.zeroValue5
 t9 := Tryz.underlying9
 a9 := Tryz.isAgg9
 z9 := Tryz.sizeOf9
 v9 := Tryz.zeroValue9 }
open Go.RowKit in
theorem Tryz.strings_IndexByte (s : ByteArray) (c : Int) (w : World) :
  Calls Tryz.prog 185 #[.string s, .int .u8 c] w fun e w' => e = .returned (.int .i64 (Lib.indexByte s.data.toList c.toNat.toUInt8)) ∧ w' = w := Any.strings_IndexByte Tryz.lays137 s c w
def Tryz.lays210_ren : Go.Shelf.Ren := ⟨fun | 210 => 148 | 206 => 172 | n => n, fun | 9 => 9 | 4 => 4 | 3 => 3 | n => n, fun | n => n⟩
def Tryz.lays103_ren : Go.Shelf.Ren := ⟨fun | 103 => 124 | 210 => 148 | 206 => 172 | n => n, fun | 9 => 9 | 4 => 4 | 24 => 35 | 3 => 3 | n => n, fun | n => n⟩
theorem Tryz.lays103 : Go.Proofs.Lays.n103 Tryz.prog Tryz.lays103_ren := {
 mixed := by kernel_rfl
 f103 := Tryz.func124.trans (congrArg some (by kernel_rfl))
 f206 := Tryz.func172.trans (congrArg some (by kernel_rfl))
 f210 := Tryz.func148.trans (congrArg some (by kernel_rfl))
 t3 := Tryz.underlying3
 a3 := Tryz.isAgg3
 z3 := Tryz.sizeOf3
 v3 := Tryz.zeroValue3
 t4 := Tryz.underlying4
 a4 := Tryz.isAgg4
 z4 := Tryz.sizeOf4
 v4 := Tryz.zeroValue4
 t9 := Tryz.underlying9
 a9 := Tryz.isAgg9
 z9 := Tryz.sizeOf9
 v9 := Tryz.zeroValue9
 t24 := Tryz.underlying35
 a24 := Tryz.isAgg35
 z24 := Tryz.sizeOf35
 v24 := Tryz.zeroValue35 }
open Go.RowKit in
theorem Tryz.strings_CutPrefix (s p : ByteArray) (w : World) :
  Calls Tryz.prog 124 #[.string s, .string p] w fun e w' => e = .returned (.tuple #[.string ⟨(Lib.trimPrefix s.data.toList p.data.toList).toArray⟩, .bool (Lib.hasPrefix s.data.toList p.data.toList)]) ∧ w' = w := Any.strings_CutPrefix Tryz.lays103 s p w
def Tryz.lays219_ren : Go.Shelf.Ren := ⟨fun | 219 => 173 | 217 => 181 | 225 => 182 | 224 => 183 | 267 => 184 | 266 => 189 | 314 => 190 | n => n, fun | 9 => 9 | 3 => 3 | 4 => 4 | 5 => 5 | 46 => 168 | 146 => 169 | 51 => 165 | n => n, fun | 1 => 0 | n => n⟩
def Tryz.lays144_ren : Go.Shelf.Ren := ⟨fun | 144 => 126 | 143 => 150 | 219 => 173 | 217 => 181 | 225 => 182 | 224 => 183 | 267 => 184 | 266 => 189 | 314 => 190 | n => n, fun | 9 => 9 | 4 => 4 | 3 => 3 | 5 => 5 | 46 => 168 | 146 => 169 | 51 => 165 | n => n, fun | 1 => 0 | n => n⟩
theorem Tryz.lays144 : Go.Proofs.Lays.n144 Tryz.prog Tryz.lays144_ren := {
 mixed := by kernel_rfl
 f143 := Tryz.func150.trans (congrArg some (by kernel_rfl))
 f144 := Tryz.func126.trans (congrArg some (by kernel_rfl))
 f217 := Tryz.func181.trans (congrArg some (by kernel_rfl))
 f219 := Tryz.func173.trans (congrArg some (by kernel_rfl))
 f224 := Tryz.func183.trans (congrArg some (by kernel_rfl))
 f225 := Tryz.func182.trans (congrArg some (by kernel_rfl))
 f266 := Tryz.func189.trans (congrArg some (by kernel_rfl))
 f267 := Tryz.func184.trans (congrArg some (by kernel_rfl))
 f314 := Tryz.func190.trans (congrArg some (by kernel_rfl))
 t3 := Tryz.underlying3
 a3 := Tryz.isAgg3
 z3 := Tryz.sizeOf3
 v3 := Tryz.zeroValue3
 t4 := Tryz.underlying4
 a4 := Tryz.isAgg4
 z4 := Tryz.sizeOf4
 v4 := Tryz.zeroValue4
 t5 := Tryz.underlying5
 a5 := Tryz.isAgg5
 z5 := Tryz.sizeOf5
 v5 := Tryz.zeroValue5
 t9 := Tryz.underlying9
 a9 := Tryz.isAgg9
 z9 := Tryz.sizeOf9
 v9 := Tryz.zeroValue9
 t46 := Tryz.underlying168
 a46 := Tryz.isAgg168
 z46 := Tryz.sizeOf168
 v46 := Tryz.zeroValue168
 t51 := Tryz.underlying165
 a51 := Tryz.isAgg165
 z51 := Tryz.sizeOf165
 v51 := Tryz.zeroValue165
 t146 := Tryz.underlying169
 a146 := Tryz.isAgg169
 z146 := Tryz.sizeOf169
 v146 := Tryz.zeroValue169
 g1 := by kernel_rfl }
open Go.RowKit Go.Lib in
theorem Tryz.strings_Contains (s sub : ByteArray) (m : Int) (w : World) (hs : s.size < 4294967281) (hm : w.cell? ⟨0, 0, none⟩ = some (.int .i64 m)) :
  Calls Tryz.prog 126 #[.string s, .string sub] w fun e w' => e = .returned (.bool (Lib.contains s.data.toList sub.data.toList)) ∧ w' = w := Any.strings_Contains Tryz.lays144 s sub m w hs hm
def Tryz.lays145_ren : Go.Shelf.Ren := ⟨fun | 145 => 125 | 220 => 149 | 219 => 173 | 217 => 181 | 225 => 182 | 224 => 183 | 267 => 184 | 266 => 189 | 314 => 190 | n => n, fun | 9 => 9 | 4 => 4 | 59 => 124 | 3 => 3 | 5 => 5 | 46 => 168 | 146 => 169 | 51 => 165 | n => n, fun | 1 => 0 | n => n⟩
theorem Tryz.lays145 : Go.Proofs.Lays.n145 Tryz.prog Tryz.lays145_ren := {
 mixed := by kernel_rfl
 f145 := Tryz.func125.trans (congrArg some (by kernel_rfl))
 f217 := Tryz.func181.trans (congrArg some (by kernel_rfl))
 f219 := Tryz.func173.trans (congrArg some (by kernel_rfl))
 f220 := Tryz.func149.trans (congrArg some (by kernel_rfl))
 f224 := Tryz.func183.trans (congrArg some (by kernel_rfl))
 f225 := Tryz.func182.trans (congrArg some (by kernel_rfl))
 f266 := Tryz.func189.trans (congrArg some (by kernel_rfl))
 f267 := Tryz.func184.trans (congrArg some (by kernel_rfl))
 f314 := Tryz.func190.trans (congrArg some (by kernel_rfl))
 t3 := Tryz.underlying3
 a3 := Tryz.isAgg3
 z3 := Tryz.sizeOf3
 v3 := Tryz.zeroValue3
 t4 := Tryz.underlying4
 a4 := Tryz.isAgg4
 z4 := Tryz.sizeOf4
 v4 := Tryz.zeroValue4
 t5 := Tryz.underlying5
 a5 := Tryz.isAgg5
 z5 := Tryz.sizeOf5
 v5 := Tryz.zeroValue5
 t9 := Tryz.underlying9
 a9 := Tryz.isAgg9
 z9 := Tryz.sizeOf9
 v9 := Tryz.zeroValue9
 t46 := Tryz.underlying168
 a46 := Tryz.isAgg168
 z46 := Tryz.sizeOf168
 v46 := Tryz.zeroValue168
 t51 := Tryz.underlying165
 a51 := Tryz.isAgg165
 z51 := Tryz.sizeOf165
 v51 := Tryz.zeroValue165
 t59 := Tryz.underlying124
 a59 := Tryz.isAgg124
 z59 := Tryz.sizeOf124
 v59 := Tryz.zeroValue124
 t146 := Tryz.underlying169
 a146 := Tryz.isAgg169
 z146 := Tryz.sizeOf169
 v146 := Tryz.zeroValue169
 g1 := by kernel_rfl }
open Go.RowKit Go.Lib in
theorem Tryz.strings_Cut (s sep : ByteArray) (m : Int) (w : World) (hs : s.size < 4294967281) (hm : w.cell? ⟨0, 0, none⟩ = some (.int .i64 m)) :
  Calls Tryz.prog 125 #[.string s, .string sep] w fun e w' => e = .returned (.tuple #[.string ⟨(Lib.cut s.data.toList sep.data.toList).1.toArray⟩, .string ⟨(Lib.cut s.data.toList sep.data.toList).2.1.toArray⟩, .bool (Lib.cut s.data.toList sep.data.toList).2.2]) ∧ ∃ n, w' = w.drewN n := Any.strings_Cut Tryz.lays145 s sep m w hs hm
def Tryz.lays149_ren : Go.Shelf.Ren := ⟨fun | 149 => 52 | 222 => 84 | n => n, fun | 9 => 9 | 5 => 5 | 3 => 3 | 4 => 4 | n => n, fun | n => n⟩
theorem Tryz.lays149 : Go.Proofs.Lays.n149 Tryz.prog Tryz.lays149_ren := {
 mixed := by kernel_rfl
 f149 := Tryz.func52.trans (congrArg some (by kernel_rfl))
 f222 := Tryz.func84.trans (congrArg some (by kernel_rfl))
 t3 := Tryz.underlying3
 a3 := Tryz.isAgg3
 z3 := Tryz.sizeOf3
 v3 := Tryz.zeroValue3
 t4 := Tryz.underlying4
 a4 := Tryz.isAgg4
 z4 := Tryz.sizeOf4
 v4 := Tryz.zeroValue4
 t5 := Tryz.underlying5
 a5 := Tryz.isAgg5
 z5 := Tryz.sizeOf5
 v5 := Tryz.zeroValue5
 t9 := Tryz.underlying9
 a9 := Tryz.isAgg9
 z9 := Tryz.sizeOf9
 v9 := Tryz.zeroValue9 }
open Go.RowKit Go.Lib in
theorem Tryz.strings_LastIndexByte (s : ByteArray) (c : Int) (hs : s.size < 4611686018427387904) (w : World) :
  Calls Tryz.prog 52 #[.string s, .int .u8 c] w fun e w' => e = .returned (.int .i64 (Lib.lastIndexByte s c)) ∧ w' = w := Any.strings_LastIndexByte Tryz.lays149 s c hs w
def Tryz.lays99_ren : Go.Shelf.Ren := ⟨fun | 99 => 171 | 206 => 172 | n => n, fun | 9 => 9 | 4 => 4 | 3 => 3 | n => n, fun | n => n⟩
theorem Tryz.lays99 : Go.Proofs.Lays.n99 Tryz.prog Tryz.lays99_ren := {
 mixed := by kernel_rfl
 f99 := Tryz.func171.trans (congrArg some (by kernel_rfl))
 f206 := Tryz.func172.trans (congrArg some (by kernel_rfl))
 t3 := Tryz.underlying3
 a3 := Tryz.isAgg3
 z3 := Tryz.sizeOf3
 v3 := Tryz.zeroValue3
 t4 := Tryz.underlying4
 a4 := Tryz.isAgg4
 z4 := Tryz.sizeOf4
 v4 := Tryz.zeroValue4
 t9 := Tryz.underlying9
 a9 := Tryz.isAgg9
 z9 := Tryz.sizeOf9
 v9 := Tryz.zeroValue9 }
open Go.RowKit Go.Lib in
theorem Tryz.strings_HasPrefix (s p : ByteArray) (w : World) :
  Calls Tryz.prog 171 #[.string s, .string p] w fun e w' => e = .returned (.bool (Lib.hasPrefix s.data.toList p.data.toList)) ∧ w' = w := Any.strings_HasPrefix Tryz.lays99 s p w
def Tryz.lays151_ren : Go.Shelf.Ren := ⟨fun | 151 => 154 | 152 => 174 | 137 => 185 | 119 => 186 | 224 => 183 | 225 => 182 | 217 => 181 | 266 => 189 | n => n, fun | 9 => 9 | 21 => 21 | 4 => 4 | 3 => 3 | 5 => 5 | 0 => 0 | 46 => 168 | n => n, fun | n => n⟩
theorem Tryz.lays151 : Go.Proofs.Lays.n151 Tryz.prog Tryz.lays151_ren := {
 mixed := by kernel_rfl
 f119 := Tryz.func186.trans (congrArg some (by kernel_rfl))
 f137 := Tryz.func185.trans (congrArg some (by kernel_rfl))
 f151 := Tryz.func154.trans (congrArg some (by kernel_rfl))
 f152 := Tryz.func174.trans (congrArg some (by kernel_rfl))
 f217 := Tryz.func181.trans (congrArg some (by kernel_rfl))
 f224 := Tryz.func183.trans (congrArg some (by kernel_rfl))
 f225 := Tryz.func182.trans (congrArg some (by kernel_rfl))
 f266 := Tryz.func189.trans (congrArg some (by kernel_rfl))
 t0 := Tryz.underlying0
 a0 := Tryz.isAgg0
 z0 := Tryz.sizeOf0
 v0 := Tryz.zeroValue0
 t3 := Tryz.underlying3
 a3 := Tryz.isAgg3
 z3 := Tryz.sizeOf3
 v3 := Tryz.zeroValue3
 t4 := Tryz.underlying4
 a4 := Tryz.isAgg4
 z4 := Tryz.sizeOf4
 v4 := Tryz.zeroValue4
 t5 := Tryz.underlying5
 a5 := Tryz.isAgg5
 z5 := Tryz.sizeOf5
 v5 := Tryz.zeroValue5
 t9 := Tryz.underlying9
 a9 := Tryz.isAgg9
 z9 := Tryz.sizeOf9
 v9 := Tryz.zeroValue9
 t21 := Tryz.underlying21
 a21 := Tryz.isAgg21
 z21 := Tryz.sizeOf21
 v21 := Tryz.zeroValue21
 t46 := Tryz.underlying168
 a46 := Tryz.isAgg168
 z46 := Tryz.sizeOf168
 v46 := Tryz.zeroValue168 }
open Go.RowKit Go.Lib in
theorem Tryz.strings_ContainsRune_ascii (s : ByteArray) (r : Int) (w : World) (h0 : 0 ≤ r) (h1 : r < 128) :
  Calls Tryz.prog 154 #[.string s, .int .i32 r] w fun e w' => e = .returned (.bool (decide (0 ≤ Lib.indexByte s.data.toList r.toNat.toUInt8))) ∧ w' = w := Any.strings_ContainsRune_ascii Tryz.lays151 s r w h0 h1
end Go.Proofs
namespace Go.Av
open Go Go.Proofs Go.RowKit
set_option maxRecDepth 100000
variable (G : Nat → Option (List AVal))
theorem below_same {w w' : World} (e : w' = w) : Below w.heap.size w w' := by rw [e]; exact Below.refl _ _
theorem below_drewN (w : World) (n : Nat) : Below w.heap.size w (w.drewN n) := by
 induction n with
 | zero => exact Below.refl _ _
 | succ n ih => exact ih.trans (Below.drew (Below.refl _ _))
theorem LastIndexByte_sat (s : Bs) (c : Int) (hs : s.length ≤ 1073741824) (h : Heap) : Sat (CT G) 52 [.str s, .int .u8 c] h (fun r h' => r = .int .i64 (Lib.lastIndexByte ⟨s.toArray⟩ c) ∧ h' = h) := by
 refine Sat.of_calls (fn := Tryz.f52) Tryz.func52 (by kernel_rfl) (by kernel_rfl) rfl rfl fun B S μ w f => ?_
 refine (Tryz.strings_LastIndexByte ⟨s.toArray⟩ c (by simp [ByteArray.size]; omega) w).mono fun e w' ⟨h1, h2⟩ => ⟨h1, below_same h2⟩
end Go.Av
namespace Go.Av
open Go Go.Proofs Go.RowKit
set_option maxRecDepth 100000
variable (G : Nat → Option (List AVal))
def GOk : Prop := ∃ m, G 0 = some [.int .i64 m]
theorem size_mk (s : Bs) : (⟨s.toArray⟩ : ByteArray).size = s.length := by simp [ByteArray.size]
variable {G}
theorem GOk.cell (hG : GOk G) {B : Nat} {S : Addr → Prop} {μ : Map} {h : Heap} {w : World} (f : Fits (CT G) B S μ h w) : ∃ m, w.cell? ⟨0, 0, none⟩ = some (.int .i64 m) := by
 obtain ⟨m, hm⟩ := hG
 have r := f.glob _ _ hm
 cases r with
 | ad cs b o vs hne hc hr =>
  have h1 := (hc 0 _ rfl).2.1
  have h2 := hr 0 _ rfl
  refine ⟨m, ?_⟩
  generalize vs 0 = u at h1 h2
  cases h2
  exact h1
variable (G)
theorem below_drews {w w' : World} (h : ∃ n, w' = w.drewN n) : Below w.heap.size w w' := by obtain ⟨n, rfl⟩ := h; exact below_drewN w n
theorem Cut_sat (hG : GOk G) (s p : Bs) (hs : s.length ≤ 1073741824) (h : Heap) :
  Sat (CT G) 125 [.str s, .str p] h (fun r h' => r = .tup [.str (Lib.cut s p).1, .str (Lib.cut s p).2.1, .bool (Lib.cut s p).2.2] ∧ h' = h) := by
 refine Sat.of_calls (fn := Tryz.f125) Tryz.func125 (by kernel_rfl) (by kernel_rfl) rfl rfl fun B S μ w f => ?_
 obtain ⟨m, hm⟩ := hG.cell f
 refine (Tryz.strings_Cut ⟨s.toArray⟩ ⟨p.toArray⟩ m w (by rw [size_mk]; omega) hm).mono fun e w' ⟨h1, h2⟩ => ⟨h1, below_drews h2⟩
theorem Contains_sat (hG : GOk G) (s p : Bs) (hs : s.length ≤ 1073741824) (h : Heap) :
  Sat (CT G) 126 [.str s, .str p] h (fun r h' => r = .bool (Lib.contains s p) ∧ h' = h) := by
 refine Sat.of_calls (fn := Tryz.f126) Tryz.func126 (by kernel_rfl) (by kernel_rfl) rfl rfl fun B S μ w f => ?_
 obtain ⟨m, hm⟩ := hG.cell f
 refine (Tryz.strings_Contains ⟨s.toArray⟩ ⟨p.toArray⟩ m w (by rw [size_mk]; omega) hm).mono fun e w' ⟨h1, h2⟩ => ⟨h1, below_same h2⟩
theorem CutPrefix_sat (s p : Bs) (h : Heap) :
  Sat (CT G) 124 [.str s, .str p] h (fun r h' => r = .tup [.str (Lib.trimPrefix s p), .bool (Lib.hasPrefix s p)] ∧ h' = h) := by
 refine Sat.of_calls (fn := Tryz.f124) Tryz.func124 (by kernel_rfl) (by kernel_rfl) rfl rfl fun B S μ w f => ?_
 refine (Tryz.strings_CutPrefix ⟨s.toArray⟩ ⟨p.toArray⟩ w).mono fun e w' ⟨h1, h2⟩ => ⟨h1, below_same h2⟩
theorem HasPrefix_sat (s p : Bs) (h : Heap) :
  Sat (CT G) 171 [.str s, .str p] h (fun r h' => r = .bool (Lib.hasPrefix s p) ∧ h' = h) := by
 refine Sat.of_calls (fn := Tryz.f171) Tryz.func171 (by kernel_rfl) (by kernel_rfl) rfl rfl fun B S μ w f => ?_
 refine (Tryz.strings_HasPrefix ⟨s.toArray⟩ ⟨p.toArray⟩ w).mono fun e w' ⟨h1, h2⟩ => ⟨h1, below_same h2⟩
theorem ContainsRune_ascii (s : Bs) (r : Int) (h0 : 0 ≤ r) (h1 : r < 128) (h : Heap) :
  Sat (CT G) 154 [.str s, .int .i32 r] h (fun x h' => x = .bool (decide (0 ≤ Lib.indexByte s r.toNat.toUInt8)) ∧ h' = h) := by
 refine Sat.of_calls (fn := Tryz.f154) Tryz.func154 (by kernel_rfl) (by kernel_rfl) rfl rfl fun B S μ w f => ?_
 refine (Tryz.strings_ContainsRune_ascii ⟨s.toArray⟩ r w h0 h1).mono fun e w' ⟨h1, h2⟩ => ⟨h1, below_same h2⟩
theorem IndexByteString_sat (s : Bs) (c : UInt8) (h : Heap) :
  Sat (CT G) 185 [.str s, .int .u8 c.toNat] h (fun x h' => x = .int .i64 (Lib.indexByte s c) ∧ h' = h) := by
 refine Sat.of_calls (fn := Tryz.f185) Tryz.func185 (by kernel_rfl) (by kernel_rfl) rfl rfl fun B S μ w f => ?_
 refine (Tryz.strings_IndexByte ⟨s.toArray⟩ c.toNat w).mono fun e w' ⟨h1, h2⟩ => ⟨by simpa using h1, below_same h2⟩
end Go.Av
namespace Go.Av
open Go Go.Proofs Go.RowKit
set_option maxRecDepth 100000
def bigS (s : Bs) : Bool := decide (s.length ≤ 1048576)
def orcL (f : FuncId) (args : List AVal) : Option AVal := match args with
 | [.str s, .str p] => if bigS s = true then
   (if f = 125 then some (.tup [.str (Lib.cut s p).1, .str (Lib.cut s p).2.1, .bool (Lib.cut s p).2.2])
   else if f = 126 then some (.bool (Lib.contains s p))
   else if f = 124 then some (.tup [.str (Lib.trimPrefix s p), .bool (Lib.hasPrefix s p)])
   else if f = 171 then some (.bool (Lib.hasPrefix s p)) else none) else none
 | [.str s, .int .u8 c] => if bigS s = true then (if f = 52 then some (.int .i64 (Lib.lastIndexByte ⟨s.toArray⟩ c)) else none) else none
 | [.str s, .int .i32 r] => if 0 ≤ r ∧ r < 128 then (if f = 154 then some (.bool (decide (0 ≤ Lib.indexByte s r.toNat.toUInt8))) else none) else none
 | [x] => if f = 116 then some x else none
 | _ => none
variable {G : Nat → Option (List AVal)}
theorem orcL_ok (hG : GOk G) : OrcOk (CT G) orcL := by
 intro f args r g h
 unfold orcL at g
 split at g
 ·rename_i s p
  split at g
  ·rename_i hb
   have hs : s.length ≤ 1048576 := by simpa [bigS] using hb
   split at g
   ·rename_i e; subst e; cases g; exact Cut_sat G hG s p (by omega) h
   ·split at g
    ·rename_i e; subst e; cases g; exact Contains_sat G hG s p (by omega) h
    ·split at g
     ·rename_i e; subst e; cases g; exact CutPrefix_sat G s p h
     ·split at g
      ·rename_i e; subst e; cases g; exact HasPrefix_sat G s p h
      ·cases g
  ·cases g
 ·rename_i s c
  split at g
  ·rename_i hb
   have hs : s.length ≤ 1048576 := by simpa [bigS] using hb
   split at g
   ·rename_i e; subst e; cases g; exact LastIndexByte_sat G s c (by omega) h
   ·cases g
  ·cases g
 ·rename_i s r
  split at g
  ·rename_i hb
   split at g
   ·rename_i e; subst e; cases g; exact ContainsRune_ascii G s r hb.1 hb.2 h
   ·cases g
  ·cases g
 ·rename_i x
  split at g
  ·rename_i e; subst e; cases g; exact NoEscape_sat G _ h
  ·cases g
 ·cases g
end Go.Av
namespace Go.Av
open Go Go.Proofs Go.RowKit Go.ChangeShapes Go.WideShapes
set_option maxRecDepth 100000
theorem own_prog : ownKnob Tryz.prog.godebug = none := by kernel_rfl
def flatD : DataW Unit → List Value
 | .lit (.int k n) => [.int k n]
 | .agg l => flatL l
 | _ => []
where flatL : List (DataW Unit) → List Value
 | [] => []
 | d :: l => flatD d ++ flatL l
noncomputable def laidCells (w : World) (g : Nat) (d : DataW Unit) : World :=
 { w with heap := w.heap.modify g fun
   | .cells _ t frozen => .cells (flatD d).toArray t frozen
   | o => o }
noncomputable def laidWorld (os : Os) (args : Array Value) : World :=
 laidCells (laidCells (World.holding Tryz.prog os ⟨#[], args, []⟩) 2 Go.Proofs.YtjgligkejfjbpaaGreatDoor.Rows.laid_unicode_utf8_acceptRanges) 1 Go.Proofs.YtjgligkejfjbpaaGreatDoor.Rows.laid_unicode_utf8_first
def gM (m : Int) : Nat → Option (List AVal) := fun g => if g = 0 then some [.int .i64 m] else none
theorem gM_ok (m : Int) : GOk (gM m) := ⟨m, by simp [gM]⟩
theorem gM_clo (m : Int) : GClo (CT (gM m)) := fun g cs h => by
 simp only [CT_G, gM] at h
 split at h
 ·cases h
  exact .ad _ fun c hc => by simp at hc; subst hc; exact .int _ _
 ·cases h
theorem gM_rep {W : World} {m : Int} (hm : W.cell? ⟨0, 0, none⟩ = some (.int .i64 m)) : ∀ g cs, (CT (gM m)).G g = some cs → Rep W (lies0 W) [] (.ad cs) (.pointer (some ⟨g, 0, none⟩)) := fun g cs h => by
 simp only [CT_G, gM] at h
 split at h
 ·rename_i e; subst e; cases h
  refine .ad _ _ 0 (fun _ => .int .i64 m) (by simp) (fun j c hj => ?_) (fun j c hj => ?_)
  ·match j with
   | 0 => simp at hj; subst hj; exact ⟨by unfold lies0; rw [hm]; rfl, hm, rfl⟩
   | j + 1 => simp at hj
  ·match j with
   | 0 => simp at hj; subst hj; exact .int _ _
   | j + 1 => simp at hj
 ·cases h
theorem maxLen_shape {W : World} (h : W.ShapedOpen Tryz.prog) : ∃ m, W.cell? ⟨0, 0, none⟩ = some (.int .i64 m) :=
 Go.Proofs.cell_of_shapedOpen_int (zero := #[.int .i64 0]) (t := 3) h (of_decide_eq_true (by kernel_rfl)) (by kernel_rfl) rfl (by kernel_rfl) (by kernel_rfl) Tryz.underlying3
theorem params_row : ∀ t ∈ [9, 26], t < Tryz.prog.types.size := by
 intro t ht
 have : Tryz.prog.types.size = Tryz.prog.types.size := rfl
 simp only [List.mem_cons, List.mem_nil_iff, or_false] at ht
 rcases ht with rfl | rfl
 ·exact of_decide_eq_true (by kernel_rfl)
 ·exact of_decide_eq_true (by kernel_rfl)
end Go.Av
namespace Go.Av
open Go.RowKit
section
variable {C : Ctx} {t : Env} {h : Heap}
def detGo (md : Region.Mode) (ops : Array Oper) : Nat → Array Bool → Option (List Nat)
 | 0, _ => some []
 | f + 1, L => match Region.ready md ops L with
  | [i] => (detGo md ops f (L.setIfInBounds i true)).map (i :: ·)
  | _ => none
theorem detGo_ok {ops : Array Oper} {Q : Exit → Env → Heap → Prop} {md : Region.Mode} : ∀ (f : Nat) (L : Array Bool) (idx : List Nat) (sub : List Oper) (t : Env) (h : Heap), detGo md ops f L = some idx → idx.map (fun i => ops[i]?) = sub.map some →
  WPl C ops Q sub t h → RestM C ops Q md f L t h := by
 intro f
 induction f with
 | zero =>
  intro L idx sub t h hd hs g n
  simp only [detGo, Option.some.injEq] at hd
  subst hd
  have : sub = [] := by simpa using hs.symm
  subst this
  simp only [Region.linearise.go, List.reverse_nil, WPix]
  exact g
 | succ f ih =>
  intro L idx sub t h hd hs g n
  simp only [detGo] at hd
  split at hd
  ·rename_i i hr
   obtain ⟨idx', hd', rfl⟩ := Option.map_eq_some_iff.1 hd
   cases sub with
   | nil => simp at hs
   | cons o sub =>
    simp only [List.map_cons, List.cons.injEq] at hs
    have hi : (Region.ready md ops L)[n % (Region.ready md ops L).length]? = some i := by
     rw [hr, List.length_singleton, Nat.mod_one]; rfl
    rw [go_succ md ops f n L hi]
    simp only [WPix, hs.1]
    simp only [WPl] at g
    exact wpOper_mono g fun t' h' g' => ih _ idx' sub t' h' hd' hs.2 g' _
  ·cases hd
theorem drop_idx {l : List Oper} {k n : Nat} (h : k + n ≤ l.length) : (List.range' k n).map (fun i => l.toArray[i]?) = ((l.drop k).take n).map some := by
 refine List.ext_getElem? fun i => ?_
 simp only [List.getElem?_map]
 by_cases hi : i < n
 ·rw [List.getElem?_take_of_lt hi, List.getElem?_drop, List.getElem?_range' (by omega)]
  simp only [Option.map_some, List.getElem?_toArray]
  have : k + i < l.length := by omega
  simp [List.getElem?_eq_getElem this]
 ·rw [List.getElem?_eq_none (by simp; omega), List.getElem?_eq_none (by simp; omega)]; rfl
inductive OT where
 | nil
 | one (i : Nat) (s : OT)
 | two (i : Nat) (s : OT) (j : Nat) (u : OT)
def OT.ok (ops : Array Oper) : Nat → Array Bool → OT → Bool
 | 0, _, .nil => true
 | f + 1, L, .one i s => Region.ready .any ops L == [i] && OT.ok ops f (L.setIfInBounds i true) s
 | f + 1, L, .two i s j u => Region.ready .any ops L == [i, j] && (OT.ok ops f (L.setIfInBounds i true) s && OT.ok ops f (L.setIfInBounds j true) u)
 | _, _, _ => false
def WPt (C : Ctx) (ops : Array Oper) (Q : Exit → Env → Heap → Prop) : OT → Env → Heap → Prop
 | .nil, t, h => Q .normal t h
 | .one i s, t, h => WPl C ops (fun _ t' h' => WPt C ops Q s t' h') (ops[i]?).toList t h
 | .two i s j u, t, h => WPl C ops (fun _ t' h' => WPt C ops Q s t' h') (ops[i]?).toList t h ∧ WPl C ops (fun _ t' h' => WPt C ops Q u t' h') (ops[j]?).toList t h
theorem OT.sound {ops : Array Oper} {Q : Exit → Env → Heap → Prop} : ∀ (f : Nat) (L : Array Bool) (tr : OT) (t : Env) (h : Heap), OT.ok ops f L tr = true → WPt C ops Q tr t h → RestM C ops Q .any f L t h := by
 intro f
 induction f with
 | zero =>
  intro L tr t h ho g n
  cases tr with
  | nil => simp only [Region.linearise.go, List.reverse_nil, WPix]; exact g
  | _ => simp [OT.ok] at ho
 | succ f ih =>
  intro L tr t h ho g n
  have step : ∀ (i : Nat) (s : OT), (Region.ready .any ops L)[n % (Region.ready .any ops L).length]? = some i → OT.ok ops f (L.setIfInBounds i true) s = true → WPl C ops (fun _ t' h' => WPt C ops Q s t' h') (ops[i]?).toList t h →
    WPix C ops Q (Region.linearise.go .any ops (f + 1) n L []) t h := fun i s hi hs hg => by
   rw [go_succ .any ops f n L hi]
   simp only [WPix]
   have hmem := List.mem_of_getElem? hi
   obtain ⟨_, o, ho, _⟩ := mem_ready.1 hmem
   simp only [ho, Option.toList] at hg ⊢
   simp only [WPl] at hg
   exact wpOper_mono hg fun t' h' g' => ih _ s t' h' hs g' _
  cases tr with
  | nil => simp [OT.ok] at ho
  | one i s =>
   simp only [OT.ok, Bool.and_eq_true, beq_iff_eq] at ho
   exact step i s (by rw [ho.1, List.length_singleton, Nat.mod_one]; rfl) ho.2 g
  | two i s j u =>
   simp only [OT.ok, Bool.and_eq_true, beq_iff_eq] at ho
   have hn : n % 2 = 0 ∨ n % 2 = 1 := by omega
   rcases hn with hn | hn
   ·exact step i s (by rw [ho.1]; show [i, j][n % 2]? = _; rw [hn]; rfl) ho.2.1 g.1
   ·exact step j u (by rw [ho.1]; show [i, j][n % 2]? = _; rw [hn]; rfl) ho.2.2 g.2
theorem WP_draw6 {id : Nat} {l : List Oper} {Q : Exit → Env → Heap → Prop} (k : Nat) (tr : OT) (hok : (preOk l.toArray k && decide (k ≤ l.length)) = true) (hm : C.P.follows .mixedOrders = true)
  (hT : OT.ok l.toArray (l.length - k) (listK l.length k) tr = true)
  (hh : WPp C l.toArray (l.take k) t h fun t' => WPt C l.toArray Q tr t' h) : WP C (.region id l.toArray true) Q t h := by
 simp only [Bool.and_eq_true, decide_eq_true_eq] at hok
 have D := preOk_spec hok.1
 obtain ⟨V, hv, hK⟩ := WPp_vals _ _ hh
 have hlen : (l.take k).length = k := by simp; omega
 rw [hlen] at hK
 have rT := OT.sound (ops := l.toArray) (Q := Q) _ _ tr _ h hT hK
 have main : ∀ n, WPix C l.toArray Q (Region.linearise .any l.toArray n) t h := fun n => by
  unfold Region.linearise
  refine pre_sound2 D .any D.less (by simp; omega) (V := V) (t0 := t) (fun _ => True) (fun i o hi _ => hv i o hi) (by simpa using rT) _ _ _ _ (by simp) ?_ (fun j oj hj hl => ?_) (fun j hj hl => ?_) (fun _ _ _ => trivial) (Ag.start _ _ _ _ fun j hj => ?_)
  ·unfold left
   have : (List.range l.toArray.size).filter (fun i => !(Array.replicate l.toArray.size false).getD i true) = List.range l.toArray.size := by
    rw [List.filter_eq_self]
    intro i hi
    have := List.mem_range.1 hi
    simp at this ⊢
    simp [this]
   rw [this, List.length_range]
  ·have h8 := (Array.getElem?_eq_some_iff.1 hj).1
   simp at h8 hl
   simp [h8] at hl
  ·simp at hj hl
   simp [hj] at hl
  ·have : j < l.length := by omega
   simp [this]
 show ∀ tp, WPix C l.toArray Q (Region.schedule (C.P.follows .mixedOrders) l.toArray tp) t h
 intro tp
 unfold Region.schedule
 rw [hm]
 simp only [Bool.true_or, if_true]
 exact main _
def agrL : List Nat → Env → Env → Prop
 | [], _, _ => True
 | d :: ds, s, t => s d = t d ∧ agrL ds s t
theorem agrL_mem : ∀ {ds : List Nat} {s t : Env}, agrL ds s t → ∀ d ∈ ds, s d = t d
 | [], _, _, _, d, h => by cases h
 | e :: ds, s, t, g, d, h => by
  rcases List.mem_cons.1 h with rfl | h
  ·exact g.1
  ·exact agrL_mem g.2 d h
theorem dst_mem {d : Nat} : ∀ {l : List Oper} {i : Nat} {o : Oper}, l[i]? = some o → o.dst = some d → d ∈ wrOps l
 | [], i, o, h, _ => by simp at h
 | a :: l, 0, o, h, hd => by simp at h; subst h; unfold wrOps; rw [hd]; simp
 | a :: l, i + 1, o, h, hd => by
  have := dst_mem (l := l) (i := i) (o := o) (by simpa using h) hd
  unfold wrOps; split <;> simp [this]
theorem WP_draw5 {id : Nat} {l : List Oper} {Q : Exit → Env → Heap → Prop} (k u : Nat) (oe : Oper) (hoe : l[k]? = some oe) (hok : (preOk l.toArray (k + 1) && decide (u ≤ k)) = true) (hm : C.P.follows .mixedOrders = true)
  (hu : ((List.range k).all fun i => decide (i < u) || ((Region.before l.toArray).getD k 0).testBit i) = true) (hdst : ((l.take u).all fun o => o.dst.isSome) = true)
  (hA : detGo .any l.toArray (l.length - (k + 1)) (listK l.length (k + 1)) = some (List.range' (k + 1) (l.length - (k + 1))))
  (hh : WPp C l.toArray (l.take k) t h fun t' => wpOperV C l.toArray oe t' h fun v h' =>
   (WPp C l.toArray (l.take u) t h' fun t'' => agrL (wrOps (l.take u)) t'' t') ∧ WPl C l.toArray Q (l.drop (k + 1)) (put t' oe.dst v) h') : WP C (.region id l.toArray true) Q t h := by
 simp only [Bool.and_eq_true, decide_eq_true_eq] at hok
 have D := preOk_spec hok.1
 have hkl := (List.getElem?_eq_some_iff.1 hoe).1
 obtain ⟨V, hv, hK⟩ := WPp_vals _ _ hh
 have hlen : (l.take k).length = k := by simp; omega
 rw [hlen] at hK
 have hTT : ∀ i, i ≤ k → Av.T V (l.take k) t i = Av.T V l t i := fun i hi => T_take V V k (fun _ _ => rfl) _ _ _ _ hi (by rw [List.take_take]; congr 1; omega) (by rw [hlen]; exact hi) (by omega)
 rw [hTT k (Nat.le_refl _)] at hK
 have main : ∀ n, WPix C l.toArray Q (Region.linearise .any l.toArray n) t h := fun n => by
  unfold Region.linearise
  refine pre_sound3 D .any D.less (by simp; omega) (V := V) (t0 := t) (oe := oe) (by simpa using hoe) (fun i o hi ho => ?_) ?_ _ _ _ _ (by simp) ?_ (fun j oj hj hl => ?_) (fun j hj hl => ?_) (Ag.start _ _ _ _ fun j hj => ?_)
  ·have := hv i o (by rw [List.getElem?_take, if_pos hi]; simpa using ho)
   rw [hTT i (by omega)] at this
   exact this
  ·refine wpOperV_mono hK fun v h' ⟨h1, h2⟩ => ⟨fun i o hi ho hc => ?_, ?_⟩
   ·have hiu : i < u := by
     have := List.all_eq_true.1 hu i (List.mem_range.2 hi)
     rw [hc] at this
     simpa using this
    obtain ⟨V2, hv2, hK2⟩ := WPp_vals _ _ h1
    have hlu : (l.take u).length = u := by simp; omega
    rw [hlu] at hK2
    have hVV : ∀ j, j < u → V2 j = V j := fun j hj => by
     have hoj : l[j]? = some (l[j]'(by omega)) := List.getElem?_eq_getElem _
     have hoj' : (l.take u)[j]? = some (l[j]'(by omega)) := by rw [List.getElem?_take, if_pos hj]; exact hoj
     obtain ⟨d, hdd⟩ := Option.isSome_iff_exists.1 (List.all_eq_true.1 hdst _ (List.mem_of_getElem? hoj'))
     have e := agrL_mem hK2 d (dst_mem hoj' hdd)
     have a1 := D.ag_T V2 t (by simp; omega) u (by omega)
     have a2 := D.ag_T V t (by simp; omega) k (by omega)
     have hoa : l.toArray[j]? = some (l[j]'(by omega)) := by simp
     have b1 := a1.1 j _ d (by omega) hoa (by simpa using hj) hdd
     have b2 := a2.1 j _ d (by omega) hoa (by simp; omega) hdd
     have c1 : Av.T V2 (l.toArray.toList.take (k + 1)) t u = Av.T V2 (l.take u) t u := T_take V2 V2 u (fun _ _ => rfl) _ _ _ _ (Nat.le_refl _) (by simp [List.take_take]; try omega) (by simp; omega) (by omega)
     have c2 : Av.T V (l.toArray.toList.take (k + 1)) t k = Av.T V l t k := T_take V V k (fun _ _ => rfl) _ _ _ _ (Nat.le_refl _) (by simp [List.take_take]) (by simp; omega) (by omega)
     rw [c1] at b1
     rw [c2] at b2
     rw [← b1, ← b2, e]
    have := hv2 i o (by rw [List.getElem?_take, if_pos hiu]; simpa using ho)
    rw [hVV i hiu] at this
    have c3 : Av.T V2 (l.take u) t i = Av.T V l t i := T_take V V2 u hVV _ _ _ _ (by omega) (by rw [List.take_take]; congr 1; omega) (by omega) (by omega)
    rw [c3] at this
    exact this
   ·have := detGo_ok (ops := l.toArray) (Q := Q) _ _ _ (l.drop (k + 1)) _ h' hA (by rw [drop_idx (by omega), List.take_of_length_le (by simp)]) h2
    simpa using this
  ·unfold left
   have : (List.range l.toArray.size).filter (fun i => !(Array.replicate l.toArray.size false).getD i true) = List.range l.toArray.size := by
    rw [List.filter_eq_self]
    intro i hi
    have := List.mem_range.1 hi
    simp at this ⊢
    simp [this]
   rw [this, List.length_range]
  ·have h8 := (Array.getElem?_eq_some_iff.1 hj).1
   simp at h8 hl
   simp [h8] at hl
  ·simp at hj hl
   simp [hj] at hl
  ·have : j < l.length := by omega
   simp [this]
 show ∀ tp, WPix C l.toArray Q (Region.schedule (C.P.follows .mixedOrders) l.toArray tp) t h
 intro tp
 unfold Region.schedule
 rw [hm]
 simp only [Bool.true_or, if_true]
 exact main _
attribute [go_sem] agrL
theorem WPt_nil {ops : Array Oper} {Q : Exit → Env → Heap → Prop} (g : Q .normal t h) : WPt C ops Q .nil t h := g
theorem WPt_one {ops : Array Oper} {Q : Exit → Env → Heap → Prop} {i : Nat} {s : OT} {o : Oper} (ho : ops[i]? = some o) (g : WPl C ops (fun _ t' h' => WPt C ops Q s t' h') [o] t h) : WPt C ops Q (.one i s) t h := by
 simp only [WPt, ho]; exact g
theorem WPt_two {ops : Array Oper} {Q : Exit → Env → Heap → Prop} {i j : Nat} {s u : OT} {o p : Oper} (ho : ops[i]? = some o) (hp : ops[j]? = some p) (g : WPl C ops (fun _ t' h' => WPt C ops Q s t' h') [o] t h)
  (g' : WPl C ops (fun _ t' h' => WPt C ops Q u t' h') [p] t h) : WPt C ops Q (.two i s j u) t h := by
 simp only [WPt, ho, hp]; exact ⟨g, g'⟩
end
end Go.Av
namespace Go.Av
open Go.RowKit
section
variable {C : Ctx} {B n : Nat} {S : Addr → Prop} {μ : Map} {h : Heap} {w : World} {t : Env} {a : Act}
def LetP (S : Addr → Prop) (μ : Map) (w : World) (p : Nat) : Addr → Prop := fun a => S a ∨ ∃ m, μ[p]? = some m ∧ m.blk = some a.block ∧ (w.cell? a).isSome = true
theorem Rep.letgo (f : Fits C B S μ h w) {p v e m : Nat} {rows : List AVal} (hg : getRow h p v = some (e, m, rows)) {μ' : Map} (st : Step B S μ w (LetP S μ w p) μ' w)
  {off len : Nat} {room : Bool} {val : Value} (hlen : off + len ≤ rows.length) (r : Rep w S μ (.hs p v off len room) val) : Rep w (LetP S μ w p) μ' (.sl m ((rows.drop off).take len)) val := by
 obtain ⟨mb, hm, hf⟩ := f.row hg
 have hms := hf.hsize
 rcases r.hs_now hm hf.hver with ⟨hb, rfl, rfl, rfl⟩ | ⟨b, hb, hcap, rfl⟩
 ·simpa using Rep.sl0 (w := w) (S := LetP S μ w p) (μ := μ') m none 0
 ·by_cases hl0 : len = 0
  ·subst hl0
   simpa using Rep.sl0 (w := w) (S := LetP S μ w p) (μ := μ') m _ _
  ·obtain ⟨cur, hheap, hcs, hle, hmax, fl⟩ := hf.flat hb
   have hes : ((rows.drop off).take len).length = len := by simp; omega
   have hget : ∀ (i : Nat) (s : AVal), ((rows.drop off).take len)[i]? = some s → rows[off + i]? = some s := by
    intro i s hi
    have hlt := (List.getElem?_eq_some_iff.1 hi).1
    rw [hes] at hlt
    rw [List.getElem?_take_of_lt hlt, List.getElem?_drop] at hi
    exact hi
   have e1 : ∀ i j, (off + i) * m + j = off * m + (i * m + j) := fun i j => by rw [Nat.add_mul]; omega
   have key := Rep.sl (w := w) (S := LetP S μ w p) (μ := μ') m ((rows.drop off).take len) b (off * mb.size) (if room then mb.cap - off else len)
    (fun i j => cur.getD (off * m + (i * m + j)) undef) (by intro e; rw [e] at hes; simp at hes; omega) (by rw [hes]; split <;> omega) (by split <;> omega)
    (fun i s hi => hf.lens _ _ (hget i s hi))
    (fun i s j d hi hj => by
     have h1 := hget i s hi
     obtain ⟨u, hu, _⟩ := fl.rep _ _ _ _ h1 hj
     have hu := takeGet hu
     rw [e1] at hu
     have hu2 : cur[off * m + (i * m + j)]? = some u := by simpa using hu
     have hcell : w.cell? ⟨b, off * m + (i * m + j), none⟩ = some u := by simp [World.cell?, hheap, hu2]
     rw [hms]
     refine ⟨.inr ⟨mb, hm, hb, by rw [hcell]; rfl⟩, ?_, hf.sto _ _ _ _ h1 hj⟩
     rw [hcell]; simp [Array.getD_eq_getD_getElem?, hu2])
    (fun i s j d hi hj => by
     have h1 := hget i s hi
     obtain ⟨u, hu, hrep⟩ := fl.rep _ _ _ _ h1 hj
     have hu := takeGet hu
     rw [e1] at hu
     have hu2 : cur[off * m + (i * m + j)]? = some u := by simpa using hu
     have := hrep.mono st
     simpa [Array.getD_eq_getD_getElem?, hu2] using this)
   rw [hes] at key
   exact key
theorem Fits.letgo (f : Fits C B S μ h w) {p v e m : Nat} {rows : List AVal} (hg : getRow h p v = some (e, m, rows)) :
  ∃ μ', Step B S μ w (LetP S μ w p) μ' w ∧ Fits C B (LetP S μ w p) μ' (h.set p .dead) w := by
 obtain ⟨mb, hm, hf⟩ := f.row hg
 have hlt := (List.getElem?_eq_some_iff.1 hm).1
 have st : Step B S μ w (LetP S μ w p) (μ.set p ⟨none, mb.ver + 1, mb.size, mb.cap⟩) w := ⟨fun a ha => .inl ha, fun _ _ => rfl, Below.refl _ _, mapLe_set hm (by simp) (fun e => by simp at e), fun a ha => by
  rcases ha with ha | ⟨m', hm', hb, _⟩
  ·exact .inl ha
  ·exact .inr (f.own p m' _ hm' hb).1⟩
 have at_ : ∀ q k, (μ.set p ⟨none, mb.ver + 1, mb.size, mb.cap⟩)[q]? = some k → (q = p ∧ k.blk = none) ∨ (q ≠ p ∧ μ[q]? = some k) := by
  intro q k hq
  by_cases e : p = q
  ·subst e; rw [List.getElem?_set_self hlt] at hq; cases hq; exact .inl ⟨rfl, rfl⟩
  ·rw [List.getElem?_set_ne e] at hq; exact .inr ⟨fun e' => e e'.symm, hq⟩
 refine ⟨_, st, ⟨fun g cs hg => (f.glob g cs hg).mono st, by simp [f.len], ?_, ?_, f.base, ?_, ?_⟩⟩
 ·intro p1 q1 m1 m2 b h1 h2 e1 e2
  rcases at_ p1 m1 h1 with ⟨_, k1⟩ | ⟨_, k1⟩
  ·rw [k1] at e1; cases e1
  ·rcases at_ q1 m2 h2 with ⟨_, k2⟩ | ⟨_, k2⟩
   ·rw [k2] at e2; cases e2
   ·exact f.sep p1 q1 m1 m2 b k1 k2 e1 e2
 ·intro p1 m1 b h1 e1
  rcases at_ p1 m1 h1 with ⟨_, k1⟩ | ⟨r1, k1⟩
  ·rw [k1] at e1; cases e1
  ·obtain ⟨a1, a2, a3⟩ := f.own p1 m1 b k1 e1
   refine ⟨a1, a2, fun a ha => ?_⟩
   rcases ha with ha | ⟨m', hm', hb, _⟩
   ·exact a3 a ha
   ·intro e
    exact r1 (f.sep p1 p m1 m' b k1 hm' e1 (by rw [hb, e]))
 ·intro a ha
  rcases ha with ha | ⟨m', hm', hb, _⟩
  ·exact f.lie a ha
  ·exact (f.own p m' _ hm' hb).2.1
 ·intro p1 m1 k1 h1 h2
  rcases at_ p1 m1 h1 with ⟨rfl, _⟩ | ⟨r1, h1⟩
  ·rw [List.getElem?_set_self (by rw [← f.len]; exact hlt)] at h2; cases h2; trivial
  ·rw [List.getElem?_set_ne (fun e => r1 e.symm)] at h2
   exact (f.blk p1 m1 k1 h1 h2).mono st fun b _ => rfl
inductive Fz (h : Heap) (p v : Nat) : AVal → AVal → Prop
 | same (x : AVal) : Fz h p v x x
 | hs (off len : Nat) (room : Bool) (e m : Nat) (rows es : List AVal) : getRow h p v = some (e, m, rows) → off + len ≤ rows.length → es = (rows.drop off).take len → Fz h p v (.hs p v off len room) (.sl m es)
 | agg (cs ds : List AVal) : cs.length = ds.length → (∀ d ∈ ds, d.sto = true) → (∀ (i : Nat) (c d : AVal), cs[i]? = some c → ds[i]? = some d → Fz h p v c d) → Fz h p v (.agg cs) (.agg ds)
 | tup (cs ds : List AVal) : cs.length = ds.length → (∀ (i : Nat) (c d : AVal), cs[i]? = some c → ds[i]? = some d → Fz h p v c d) → Fz h p v (.tup cs) (.tup ds)
 | wk (x y z : AVal) : Fz h p v x y → Wk y z → Fz h p v x z
theorem Fz.all (h : Heap) (p v : Nat) {off len e m : Nat} {room : Bool} {rows : List AVal} (hg : getRow h p v = some (e, m, rows)) (h0 : off = 0) (hl : len = rows.length) : Fz h p v (.hs p v off len room) (.sl m rows) :=
 .hs off len room e m rows rows hg (by omega) (by subst h0; subst hl; simp)
theorem Fz.rep (f : Fits C B S μ h w) {p v : Nat} {μ' : Map} (st : Step B S μ w (LetP S μ w p) μ' w) {x y : AVal} {u : Value} (z : Fz h p v x y) (r : Rep w S μ x u) : Rep w (LetP S μ w p) μ' y u := by
 induction z generalizing u with
 | same x => exact r.mono st
 | hs off len room e m rows es hg hl he => subst he; exact r.letgo f hg st hl
 | agg cs ds hl hst _ ih =>
  obtain ⟨vs, rfl, hvl, _, hr⟩ := r.agg_inv
  refine .agg ds vs (by omega) (fun i d hd => hst d (List.mem_of_getElem? hd)) (fun i d hd => ?_)
  have hlt := (List.getElem?_eq_some_iff.1 hd).1
  have hc := List.getElem?_eq_getElem (show i < cs.length by omega)
  exact ih i _ d hc hd (hr i _ hc)
 | tup cs ds hl _ ih =>
  obtain ⟨vs, rfl, hvl, hr⟩ := r.tup_inv
  refine .tup ds vs (by omega) (fun i d hd => ?_)
  have hlt := (List.getElem?_eq_some_iff.1 hd).1
  have hc := List.getElem?_eq_getElem (show i < cs.length by omega)
  exact ih i _ d hc hd (hr i _ hc)
 | wk x y z _ hw ih => exact hw _ _ _ _ (ih r)
theorem Weak.fz {ms : List Nat} {t1 : Env} (p v : Nat) {e m : Nat} {rows : List AVal} (hg : getRow h p v = some (e, m, rows)) (ht : ∀ i, t1 i = t i ∨ (i ∈ ms ∧ Fz h p v (t i) (t1 i))) : Weak C ms t h t1 (h.set p .dead) := by
 refine ⟨fun i hi => (ht i).elim id fun ⟨h1, _⟩ => absurd h1 hi, fun B k S μ w a f r => ?_⟩
 obtain ⟨μ', st, f1⟩ := f.letgo hg
 refine ⟨_, μ', st, f1, r.1, r.2.1, fun i hi => ?_⟩
 rcases ht i with h1 | ⟨_, h1⟩
 ·rw [h1]; exact (r.2.2 i hi).mono st
 ·exact h1.rep f st (r.2.2 i hi)
theorem Weak.fzIn {ms : List Nat} {t1 : Env} (p v q v' : Nat) {e m e' m' : Nat} {rows xs : List AVal} (ys : List AVal) (hg : getRow h p v = some (e, m, rows)) (hne : p ≠ q) (hq : getRow h q v' = some (e', m', xs))
  (hl : ys.length ≤ xs.length) (hc : ∀ (i : Nat) (x y : AVal), xs[i]? = some x → ys[i]? = some y → x.cells.length = y.cells.length ∧
   ∀ (j : Nat) (c d : AVal), x.cells[j]? = some c → y.cells[j]? = some d → Fz h p v c d ∧ d.sto = true)
  (ht : ∀ i, t1 i = t i ∨ (i ∈ ms ∧ Fz h p v (t i) (t1 i))) : Weak C ms t h t1 ((h.set p .dead).set q (.row e' m' v' ys)) := by
 refine ⟨fun i hi => (ht i).elim id fun ⟨h1, _⟩ => absurd h1 hi, fun B k S μ w a f r => ?_⟩
 obtain ⟨μ', st, f1⟩ := f.letgo hg
 obtain ⟨mq, hmq, rq⟩ := f.row hq
 have hq1 : getRow (h.set p .dead) q v' = some (e', m', xs) := by
  have := getRow_some hq
  unfold getRow
  rw [List.getElem?_set_ne hne, this]; simp
 obtain ⟨mb, hm, rf⟩ := f1.row hq1
 have hset : List.set μ' q mb = μ' := by
  obtain ⟨hlt, he⟩ := List.getElem?_eq_some_iff.1 hm
  rw [← he, List.set_getElem_self]
 have at_ : ∀ (i : Nat) (y : AVal), ys[i]? = some y → ∃ x, xs[i]? = some x := by
  intro i y hi
  have hlt := (List.getElem?_eq_some_iff.1 hi).1
  exact ⟨_, List.getElem?_eq_getElem (by omega)⟩
 have cat : ∀ (i : Nat) (y : AVal) (j : Nat) (d : AVal), ys[i]? = some y → y.cells[j]? = some d → ∃ x c, xs[i]? = some x ∧ x.cells[j]? = some c ∧ Fz h p v c d ∧ d.sto = true := by
  intro i y j d hi hj
  obtain ⟨x, hx⟩ := at_ i y hi
  obtain ⟨h1, h2⟩ := hc i x y hx hi
  have hlt := (List.getElem?_eq_some_iff.1 hj).1
  have hxj := List.getElem?_eq_getElem (show j < x.cells.length by omega)
  exact ⟨x, _, hx, hxj, h2 j _ d hxj hj⟩
 -- where the other row lies is as it was
 have hmm : mb = mq := by
  obtain ⟨m2, h2, h3, h4⟩ := st.map q mq hmq
  rw [hm] at h2; cases h2
  exact h4 (by rw [rf.hver, rq.hver])
 subst hmm
 have key : BlkFits w (LetP S μ w p) (List.set μ' q mb) mb (.row e' m' v' ys) := by
  rw [hset]
  refine ⟨rf.hver, rf.hsize, rf.pos, fun i y hi => ?_, fun i y j d hi hj => ?_, ?_⟩
  ·obtain ⟨x, hx⟩ := at_ i y hi
   rw [← (hc i x y hx hi).1]; exact rf.lens i x hx
  ·obtain ⟨x, c, _, _, _, h4⟩ := cat i y j d hi hj
   exact h4
  ·rcases rq.lies with ⟨h1, h2⟩ | ⟨b, cur, h1, h2, h3, h4, h5, h6⟩
   ·subst h2
    exact .inl ⟨h1, List.length_eq_zero_iff.1 (by simpa using hl)⟩
   ·refine .inr ⟨b, cur, h1, h2, h3, by omega, h5, fun i y j d hi hj => ?_⟩
    obtain ⟨x, c, hx, hxj, hz, _⟩ := cat i y j d hi hj
    obtain ⟨u, hu, hr⟩ := h6 i x j c hx hxj
    exact ⟨u, hu, hz.rep f st hr⟩
 obtain ⟨f2, st2⟩ := f1.update (m' := mb) (k' := .row e' m' v' ys) hm (Only.refl w _) (Nat.le_refl _) (fun _ => rfl) (.inl rfl) key
 refine ⟨_, _, st.trans st2, f2, r.1, r.2.1, fun i hi => ?_⟩
 rcases ht i with h1 | ⟨_, h1⟩
 ·rw [h1]; exact (r.2.2 i hi).mono (st.trans st2)
 ·exact (h1.rep f st (r.2.2 i hi)).mono st2
theorem Weak.rowTake {ms : List Nat} (p v k : Nat) {e m : Nat} {rows : List AVal} (hg : getRow h p v = some (e, m, rows)) : Weak C ms t h t (h.set p (.row e m v (rows.take k))) := by
 refine ⟨fun _ _ => rfl, fun B n S μ w a f r => ?_⟩
 obtain ⟨mb, hm, rf⟩ := f.row hg
 have hset : List.set μ p mb = μ := by
  obtain ⟨hlt, he⟩ := List.getElem?_eq_some_iff.1 hm
  rw [← he, List.set_getElem_self]
 have at_ : ∀ (i : Nat) (y : AVal), (rows.take k)[i]? = some y → rows[i]? = some y := fun i y hi => takeGet hi
 have key : BlkFits w S (List.set μ p mb) mb (.row e m v (rows.take k)) := by
  rw [hset]
  refine ⟨rf.hver, rf.hsize, rf.pos, fun i y hi => rf.lens i y (at_ i y hi), fun i y j d hi hj => rf.sto i y j d (at_ i y hi) hj, ?_⟩
  rcases rf.lies with ⟨h1, h2⟩ | ⟨b, cur, h1, h2, h3, h4, h5, h6⟩
  ·subst h2
   exact .inl ⟨h1, by simp⟩
  ·exact .inr ⟨b, cur, h1, h2, h3, ⟨h4.1, by simp; omega⟩, h5, fun i y j d hi hj => h6 i y j d (at_ i y hi) hj⟩
 obtain ⟨f2, st2⟩ := f.update (m' := mb) (k' := .row e m v (rows.take k)) hm (Only.refl w _) (Nat.le_refl _) (fun _ => rfl) (.inl rfl) key
 exact ⟨S, _, st2, f2, r.mono st2⟩
end
end Go.Av
namespace Go.Av
open Go Go.RowKit
theorem gs_ne {H : Heap} {p q : Nat} (b : Blk) (v : Nat) (hne : p ≠ q) : getRow (H.set p b) q v = getRow H q v := by
 unfold getRow; rw [List.getElem?_set_ne hne]
theorem gs_eq {H : Heap} {p : Nat} (e n u v : Nat) (rows : List AVal) (hp : p < H.length) : getRow (H.set p (.row e n u rows)) p v = if v = u then some (e, n, rows) else none := by
 unfold getRow; rw [List.getElem?_set_self hp]
theorem gs_old {A l : Heap} {p : Nat} (v : Nat) (hp : p < A.length) : getRow (A ++ l) p v = getRow A p v := by
 unfold getRow; rw [List.getElem?_append_left hp]
theorem gs_new {A l : Heap} {n k : Nat} (v : Nat) (hn : A.length = n) : getRow (A ++ l) (n + k) v = getRow l k v := by subst hn; exact getRow_app A l k v
theorem gs_new0 {A l : Heap} {n : Nat} (v : Nat) (hn : A.length = n) : getRow (A ++ l) n v = getRow l 0 v := by subst hn; exact getRow_app0 A l v
theorem st_old {A l : Heap} {p : Nat} (b : Blk) (hp : p < A.length) : (A ++ l).set p b = A.set p b ++ l := List.set_append_left p b hp
theorem st_new {A l : Heap} {n k : Nat} (b : Blk) (hn : A.length = n) : (A ++ l).set (n + k) b = A ++ l.set k b := by subst hn; exact set_app A l k b
theorem st_new0 {A l : Heap} {n : Nat} (b : Blk) (hn : A.length = n) : (A ++ l).set n b = A ++ l.set 0 b := by subst hn; exact set_app0 A l b
theorem heapF : (∀ {H : Heap} {p q : Nat} (b : Blk) (v : Nat) (_ : p ≠ q), getRow (H.set p b) q v = getRow H q v) ∧
  (∀ {H : Heap} {p : Nat} (e n u v : Nat) (rows : List AVal) (_ : p < H.length), getRow (H.set p (.row e n u rows)) p v = if v = u then some (e, n, rows) else none) ∧
  (∀ {A l : Heap} {p : Nat} (v : Nat) (_ : p < A.length), getRow (A ++ l) p v = getRow A p v) ∧
  (∀ {A l : Heap} {n k : Nat} (v : Nat) (_ : A.length = n), getRow (A ++ l) (n + k) v = getRow l k v) ∧
  (∀ {A l : Heap} {n : Nat} (v : Nat) (_ : A.length = n), getRow (A ++ l) n v = getRow l 0 v) ∧
  (∀ {A l : Heap} {p : Nat} (b : Blk) (_ : p < A.length), (A ++ l).set p b = A.set p b ++ l) ∧
  (∀ {A l : Heap} {n k : Nat} (b : Blk) (_ : A.length = n), (A ++ l).set (n + k) b = A ++ l.set k b) ∧
  (∀ {A l : Heap} {n : Nat} (b : Blk) (_ : A.length = n), (A ++ l).set n b = A ++ l.set 0 b) ∧
  (∀ (H : Heap) (i : Nat) (b : Blk), (H.set i b).length = H.length) ∧ (∀ (H : Heap) (i : Nat) (a b : Blk), (H.set i a).set i b = H.set i b) :=
 ⟨gs_ne, gs_eq, gs_old, gs_new, gs_new0, st_old, st_new, st_new0, fun _ _ _ => List.length_set .., fun _ _ _ _ => List.set_set ..⟩
theorem gr_lt {H : Heap} {p v : Nat} {x : TypeId × Nat × List AVal} (h : getRow H p v = some x) : p < H.length := by
 obtain ⟨e, n, r⟩ := x
 exact (List.getElem?_eq_some_iff.1 (getRow_some h)).1
attribute [go_sem] List.length_set
def FrN (n0 : Nat) (H H' : Heap) : Prop := ∀ p, p < n0 → H'[p]? = H[p]?
theorem FrN.refl (n0 : Nat) (H : Heap) : FrN n0 H H := fun _ _ => rfl
theorem FrN.set {n0 : Nat} {H H' : Heap} {q : Nat} (b : Blk) (hq : n0 ≤ q) (g : FrN n0 H H') : FrN n0 H (H'.set q b) := fun p hp => by rw [List.getElem?_set_ne (by omega)]; exact g p hp
theorem FrN.app {n0 : Nat} {H H' : Heap} (l : Heap) (hn : n0 ≤ H'.length) (g : FrN n0 H H') : FrN n0 H (H' ++ l) := fun p hp => by rw [List.getElem?_append_left (by omega)]; exact g p hp
theorem FrN.trans {n0 : Nat} {H H' H'' : Heap} (g : FrN n0 H H') (k : FrN n0 H' H'') : FrN n0 H H'' := fun p hp => (k p hp).trans (g p hp)
theorem Fin.whole {h0 h1 : Heap} {R : AVal → Heap → Prop} {r : AVal} (hl : h0.length ≤ h1.length) (hc : Clo h1.length r) (hR : R r h1) : Fin h0 h1 R r :=
 ⟨h1.length, r, hl, .clo _ hc, .inl (Nat.le_refl _), by rw [List.take_length]; exact hR⟩
section
variable {C : Ctx}
theorem Sat.postw {f : FuncId} {args : List AVal} {h : Heap} {R R' : AVal → Heap → Prop} (s : Sat C f args h R) (k : ∀ r h', R r h' → ∃ h'', (∀ t, Weak C [] t h' t h'') ∧ R' r h'') : Sat C f args h R' := by
 unfold Sat at *
 intro B S μ w vs f0 rl
 refine (s B S μ w vs f0 rl).mono fun v w' ⟨r, h', S', μ', hR, st, f1, hr⟩ => ?_
 obtain ⟨h'', hw, hR'⟩ := k r h' hR
 obtain ⟨S2, μ2, st2, f2, _⟩ := (hw fun _ => undefA).2 B 0 S' μ' w' { tmps := #[], defers := [] } f1 ⟨rfl, rfl, fun i hi => by omega⟩
 exact ⟨r, h'', S2, μ2, hR', st.trans st2, f2, hr.mono st2⟩
theorem wpOperV_app {ops : Array Oper} {x y : Operand} {T T' : TypeId} {ty : TypeId} {pos : String} {aft : Array Edge} {dst : Option Tmp} {t : Env} {h : Heap} {K : AVal → Heap → Prop} :
  wpOperV C ops ⟨dst, .call ⟨.builtin .append, #[x, y], #[T, T']⟩, ty, pos, aft, none⟩ t h K = appK C T T' (aev C.G t x) (aev C.G t y) h K := rfl
theorem appK_cut {T T' e n by' p ver len : Nat} {y : AVal} {rows ys : List AVal} {h : Heap} {k : AVal → Heap → Prop} (hT : T' = T ∨ strT C.P T' = true) (he : elmT C.P T = some e) (hn : szOf C.P e = some n) (hb : byT C.P e = some by')
  (hz : (zroT C.P e).map (fun z => z.cells.length) = some n) (h0 : 0 < n) (hy : elemsOf h n y = some ys) (hrow : getRow h p ver = some (e, n, rows)) (hl : len ≤ rows.length) (hys : 0 < ys.length)
  (hr : len + ys.length ≤ maxLen ∧ (len + ys.length) * by' ≤ 140737488355328)
  (hk : k (.hs h.length 0 0 (len + ys.length) true) (h ++ [.row e n 0 (rows.take len ++ ys)])) : appK C T T' (.hs p ver 0 len false) y h k := by
 refine ⟨hT, ?_⟩
 simp only [wpAppend, he, hn, hb, hy, hrow, need_eq]
 exact ⟨h0, hz, trivial, trivial, trivial, hr, by rw [if_neg (by simp)]; exact ⟨hys, hl, hk⟩⟩
theorem aslice_hs3 {P : Program} {h : Heap} {T e p v off len n m r : Nat} {room : Bool} {rows : List AVal} {k k' : IntKind} (he : elmT P T = some e) (hg : getRow h p v = some (m, n, rows)) (hn : szOf P e = some n) (hr : r ≤ len) :
  aslice P h T (.hs p v off len room) none (some (.int k (r : Int))) (some (.int k' (r : Int))) = some (.hs p v off r false) := by
 simp only [aslice, he, hg, hn, if_true, optInt]
 rw [if_pos ⟨Int.le_refl _, by omega, by omega, .inl trivial⟩]
 simp
end
end Go.Av
