/- The rules by which a body is walked. -/
import Derived.Test.YtnchpoppgdbapaaGreatDoorJgAv17
set_option linter.unusedSimpArgs false
set_option linter.unusedVariables false
namespace Go.Av
open Go.RowKit

section
variable {C : Ctx} {ops : Array Oper} {Q : Exit → Env → Heap → Prop} {rest : List Oper} {t : Env} {h : Heap} {ty : TypeId} {pos : String} {aft : Array Edge} {dst : Option Tmp}

@[congr] theorem need_congr {α : Type} {x x' : Option α} {f : α → Prop} (e : x = x') : need x f = need x' f := by rw [e]
@[go_sem] theorem need_eq {α : Type} (a : α) (f : α → Prop) : need (some a) f = f a := (rfl)
@[congr] theorem Sat_congr {f : FuncId} {args args' : List AVal} {h h' : Heap} {R : AVal → Heap → Prop} (e : args = args') (e' : h = h') : Sat C f args h R = Sat C f args' h' R := by rw [e, e']

@[go_sem] theorem aev_tmp (G : Nat → Option (List AVal)) (i : Tmp) : aev G t (.tmp i) = t i := (rfl)
@[go_sem] theorem aev_func (G : Nat → Option (List AVal)) (f : FuncId) : aev G t (.func f) = .fn (.func f) [] [] := (rfl)
@[go_sem] theorem aev_int (G : Nat → Option (List AVal)) (k : IntKind) (i : Int) : aev G t (.const (.int k i)) = .int k i := (rfl)
@[go_sem] theorem aev_bool (G : Nat → Option (List AVal)) (b : Bool) : aev G t (.const (.bool b)) = .bool b := (rfl)
@[go_sem] theorem aev_str (G : Nat → Option (List AVal)) (l : List UInt8) : aev G t (.const (.string ⟨⟨l⟩⟩)) = .str l := (rfl)
@[go_sem] theorem aev_slice (G : Nat → Option (List AVal)) (a : Option Addr) (n c : Nat) : aev G t (.const (.slice a n c)) = .nil (.slice a n c) := (rfl)
@[go_sem] theorem aev_ptr (G : Nat → Option (List AVal)) (a : Option Addr) : aev G t (.const (.pointer a)) = .nil (.pointer a) := (rfl)
@[go_sem] theorem aev_map (G : Nat → Option (List AVal)) (a : Option Nat) : aev G t (.const (.map a)) = .nil (.map a) := (rfl)
@[go_sem] theorem aev_iface (G : Nat → Option (List AVal)) : aev G t (.const .nilIface) = .nil .nilIface := (rfl)
@[go_sem] theorem aev_nfunc (G : Nat → Option (List AVal)) : aev G t (.const .nilFunc) = .nil .nilFunc := (rfl)
@[go_sem] theorem aev_agg (G : Nat → Option (List AVal)) (l : List Value) : aev G t (.const (.agg ⟨l⟩)) = .agg (l.map ofVal1) := (rfl)
@[go_sem] theorem aev_fn (G : Nat → Option (List AVal)) (f : Fn) : aev G t (.const (.func f ⟨[]⟩ ⟨[]⟩)) = .fn f [] [] := (rfl)
@[go_sem] theorem ofVal1_int (k : IntKind) (i : Int) : ofVal1 (.int k i) = .int k i := (rfl)
@[go_sem] theorem ofVal1_bool (b : Bool) : ofVal1 (.bool b) = .bool b := (rfl)
@[go_sem] theorem ofVal1_str (l : List UInt8) : ofVal1 (.string ⟨⟨l⟩⟩) = .str l := (rfl)
@[go_sem] theorem ofVal1_slice (a : Option Addr) (n c : Nat) : ofVal1 (.slice a n c) = .nil (.slice a n c) := (rfl)
@[go_sem] theorem ofVal1_ptr (a : Option Addr) : ofVal1 (.pointer a) = .nil (.pointer a) := (rfl)
@[go_sem] theorem ofVal1_map (a : Option Nat) : ofVal1 (.map a) = .nil (.map a) := (rfl)

@[go_sem] theorem upd_app (t : Env) (d : Nat) (v : AVal) (i : Nat) : upd t d v i = if i = d then v else t i := (rfl)
@[go_sem] theorem put_some (t : Env) (d : Nat) (v : AVal) : put t (some d) v = upd t d v := (rfl)
@[go_sem] theorem put_none (t : Env) (v : AVal) : put t none v = t := (rfl)

@[go_sem] theorem WPl_nil : WPl C ops Q [] t h = Q .normal t h := (rfl)
@[go_sem] theorem WPl_move (x : Operand) : WPl C ops Q (⟨dst, .move x, ty, pos, aft, none⟩ :: rest) t h = WPl C ops Q rest (put t dst (aev C.G t x)) h := (rfl)
@[go_sem] theorem WPl_assign (x : Operand) : WPl C ops Q (⟨dst, .assign x, ty, pos, aft, none⟩ :: rest) t h = WPl C ops Q rest (put t dst (aev C.G t x)) h := (rfl)

def pickK (c : AVal) (a b : AVal) (k : AVal → Prop) : Prop := match c with | .bool q => (q = true → k a) ∧ (q = false → k b) | _ => False
@[congr] theorem pickK_congr {c c' a a' b b' : AVal} {k : AVal → Prop} (e1 : c = c') (e2 : a = a') (e3 : b = b') : pickK c a b k = pickK c' a' b' k := by rw [e1, e2, e3]
theorem pickK_bool (q : Bool) (a b : AVal) (k : AVal → Prop) : pickK (.bool q) a b k = ((q = true → k a) ∧ (q = false → k b)) := rfl
@[go_sem] theorem WPl_pick (c x y : Operand) : WPl C ops Q (⟨dst, .pick c x y, ty, pos, aft, none⟩ :: rest) t h = pickK (aev C.G t c) (aev C.G t x) (aev C.G t y) (fun v => WPl C ops Q rest (put t dst v) h) := (rfl)

@[go_sem] theorem WPl_alloc (e : TypeId) : WPl C ops Q (⟨dst, .alloc e, ty, pos, aft, none⟩ :: rest) t h =
    need (zroT C.P e) fun z => 0 < z.cells.length ∧ z.cells.all AVal.sto = true ∧ z.lies = true ∧ WPl C ops Q rest (put t dst (.hp h.length 0 0 0)) (h ++ [.row e z.cells.length 0 [z]]) := (rfl)

def boxK (e : TypeId) (x : AVal) (h : Heap) (k : Heap → Prop) : Prop := 0 < x.cells.length ∧ x.lies = true ∧ k (h ++ [.row e x.cells.length 0 [x]])
@[congr] theorem boxK_congr {e : TypeId} {x x' : AVal} {h h' : Heap} {k : Heap → Prop} (e1 : x = x') (e2 : h = h') : boxK e x h k = boxK e x' h' k := by rw [e1, e2]
@[go_sem] theorem boxK_agg (e : TypeId) (cs : List AVal) (h : Heap) (k : Heap → Prop) : boxK e (.agg cs) h k = (0 < cs.length ∧ k (h ++ [.row e cs.length 0 [.agg cs]])) := by simp [boxK, AVal.cells, AVal.lies]
@[go_sem] theorem boxK_str (e : TypeId) (s : List UInt8) (h : Heap) (k : Heap → Prop) : boxK e (.str s) h k = k (h ++ [.row e 1 0 [.str s]]) := by simp [boxK, AVal.cells, AVal.lies, AVal.sto]
@[go_sem] theorem boxK_int (e : TypeId) (i : IntKind) (n : Int) (h : Heap) (k : Heap → Prop) : boxK e (.int i n) h k = k (h ++ [.row e 1 0 [.int i n]]) := by simp [boxK, AVal.cells, AVal.lies, AVal.sto]
@[go_sem] theorem boxK_bool (e : TypeId) (b : Bool) (h : Heap) (k : Heap → Prop) : boxK e (.bool b) h k = k (h ++ [.row e 1 0 [.bool b]]) := by simp [boxK, AVal.cells, AVal.lies, AVal.sto]
@[go_sem] theorem boxK_sl (e : TypeId) (m : Nat) (es : List AVal) (h : Heap) (k : Heap → Prop) : boxK e (.sl m es) h k = k (h ++ [.row e 1 0 [.sl m es]]) := by simp [boxK, AVal.cells, AVal.lies, AVal.sto]
@[go_sem] theorem boxK_hp (e : TypeId) (p v i o : Nat) (h : Heap) (k : Heap → Prop) : boxK e (.hp p v i o) h k = k (h ++ [.row e 1 0 [.hp p v i o]]) := by simp [boxK, AVal.cells, AVal.lies, AVal.sto]
@[go_sem] theorem boxK_hs (e : TypeId) (p v o l : Nat) (r : Bool) (h : Heap) (k : Heap → Prop) : boxK e (.hs p v o l r) h k = k (h ++ [.row e 1 0 [.hs p v o l r]]) := by simp [boxK, AVal.cells, AVal.lies, AVal.sto]
@[go_sem] theorem boxK_fn (e : TypeId) (f : Fn) (a b : List AVal) (h : Heap) (k : Heap → Prop) : boxK e (.fn f a b) h k = k (h ++ [.row e 1 0 [.fn f a b]]) := by simp [boxK, AVal.cells, AVal.lies, AVal.sto]
@[go_sem] theorem WPl_box (e : TypeId) (x : Operand) : WPl C ops Q (⟨dst, .box e x, ty, pos, aft, none⟩ :: rest) t h = boxK e (aev C.G t x) h (fun h' => WPl C ops Q rest (put t dst (.hp h.length 0 0 0)) h') := (rfl)

def loadK (C : Ctx) (T : TypeId) (x : AVal) (h : Heap) (k : AVal → Prop) : Prop := match x with
    | .ad cs => need (pickT C.P T cs) k
    | .hp p ver i off => need (getRow h p ver) fun q => need (q.2.2[i]?) fun r => need (pickT C.P T (r.cells.drop off)) k
    | _ => False
@[congr] theorem loadK_congr {T : TypeId} {x x' : AVal} {h h' : Heap} {k : AVal → Prop} (e1 : x = x') (e2 : h = h') : loadK C T x h k = loadK C T x' h' k := by rw [e1, e2]
@[go_sem] theorem loadK_ad (T : TypeId) (cs : List AVal) (k : AVal → Prop) : loadK C T (.ad cs) h k = need (pickT C.P T cs) k := (rfl)
@[go_sem] theorem loadK_hp (T : TypeId) (p ver i off : Nat) (k : AVal → Prop) : loadK C T (.hp p ver i off) h k = need (getRow h p ver) fun q => need (q.2.2[i]?) fun r => need (pickT C.P T (r.cells.drop off)) k := (rfl)
@[go_sem] theorem WPl_load (T : TypeId) (x : Operand) : WPl C ops Q (⟨dst, .load T x, ty, pos, aft, none⟩ :: rest) t h = loadK C T (aev C.G t x) h (fun v => WPl C ops Q rest (put t dst v) h) := by
  simp only [WPl, wpOper, wpOp, loadK]; generalize aev C.G t x = v; cases v <;> rfl

def storeK (C : Ctx) (T : TypeId) (x y : AVal) (h : Heap) (k : Heap → Prop) : Prop := match x with
    | .hp p ver i off => need (getRow h p ver) fun q => need (q.2.2[i]?) fun r =>
        szOf C.P T = some y.cells.length ∧ y.lies = true ∧ off + y.cells.length ≤ q.2.1 ∧ k (h.set p (.row q.1 q.2.1 ver (q.2.2.set i (putA r off y.cells))))
    | _ => False
@[congr] theorem storeK_congr {T : TypeId} {x x' y y' : AVal} {h h' : Heap} {k : Heap → Prop} (e1 : x = x') (e2 : y = y') (e3 : h = h') : storeK C T x y h k = storeK C T x' y' h' k := by rw [e1, e2, e3]
@[go_sem] theorem storeK_hp (T : TypeId) (p ver i off : Nat) (y : AVal) (k : Heap → Prop) : storeK C T (.hp p ver i off) y h k = need (getRow h p ver) fun q => need (q.2.2[i]?) fun r =>
        szOf C.P T = some y.cells.length ∧ y.lies = true ∧ off + y.cells.length ≤ q.2.1 ∧ k (h.set p (.row q.1 q.2.1 ver (q.2.2.set i (putA r off y.cells)))) := (rfl)
@[go_sem] theorem WPl_store (T : TypeId) (x y : Operand) : WPl C ops Q (⟨dst, .store T x y, ty, pos, aft, none⟩ :: rest) t h = storeK C T (aev C.G t x) (aev C.G t y) h (fun h' => WPl C ops Q rest (put t dst undefA) h') := by
  simp only [WPl, wpOper, wpOp, storeK]; generalize aev C.G t x = v; cases v <;> rfl

def nilK (x : AVal) (h : Heap) (k : Prop) : Prop := match x with
    | .hp p ver _ _ => (getRow h p ver).isSome ∧ k
    | .ad _ => k
    | .fn (.func _) _ _ => k
    | .ifc _ _ => k
    | _ => False
@[congr] theorem nilK_congr {x x' : AVal} {h h' : Heap} {k : Prop} (e1 : x = x') (e2 : h = h') : nilK x h k = nilK x' h' k := by rw [e1, e2]
@[go_sem] theorem nilK_hp (p v i o : Nat) (k : Prop) : nilK (.hp p v i o) h k = ((getRow h p v).isSome ∧ k) := (rfl)
@[go_sem] theorem nilK_ad (cs : List AVal) (k : Prop) : nilK (.ad cs) h k = k := (rfl)
@[go_sem] theorem nilK_fn (f : FuncId) (a b : List AVal) (k : Prop) : nilK (.fn (.func f) a b) h k = k := (rfl)
@[go_sem] theorem nilK_ifc (T : TypeId) (a : AVal) (k : Prop) : nilK (.ifc T a) h k = k := (rfl)
@[go_sem] theorem WPl_nilCheck (x : Operand) : WPl C ops Q (⟨dst, .nilCheck x, ty, pos, aft, none⟩ :: rest) t h = nilK (aev C.G t x) h (WPl C ops Q rest (put t dst (aev C.G t x)) h) := by
  simp only [WPl, wpOper, wpOp, nilK]; generalize aev C.G t x = v; cases v <;> first | rfl | (rename_i f _ _; cases f <;> rfl)

@[congr] theorem binK_congr {P : Program} {h h' : Heap} {op : BinOp} {T : TypeId} {x x' y y' : AVal} {k : AVal → Prop} (e1 : x = x') (e2 : y = y') (e3 : h = h') : binK P h op T x y k = binK P h' op T x' y' k := by rw [e1, e2, e3]
section
variable {P : Program} {op : BinOp} {T : TypeId} {k : AVal → Prop}
theorem binK_of {x y : AVal} (hn : ∀ n, x = .sl n [] → y ≠ .nil (.slice none 0 0)) : binK P h op T x y k = need (abin P h op T x y) k := by
  unfold binK
  split
  · exact absurd rfl (hn _ rfl)
  · rfl
@[go_sem] theorem binK_int (x : AVal) (kd : IntKind) (n : Int) : binK P h op T x (.int kd n) k = need (abin P h op T x (.int kd n)) k := binK_of (by simp)
@[go_sem] theorem binK_bool (x : AVal) (b : Bool) : binK P h op T x (.bool b) k = need (abin P h op T x (.bool b)) k := binK_of (by simp)
@[go_sem] theorem binK_str (x : AVal) (s : List UInt8) : binK P h op T x (.str s) k = need (abin P h op T x (.str s)) k := binK_of (by simp)
@[go_sem] theorem binK_agg (x : AVal) (s : List AVal) : binK P h op T x (.agg s) k = need (abin P h op T x (.agg s)) k := binK_of (by simp)
@[go_sem] theorem binK_hp (x : AVal) (p v i o : Nat) : binK P h op T x (.hp p v i o) k = need (abin P h op T x (.hp p v i o)) k := binK_of (by simp)
@[go_sem] theorem binK_nhp (y : AVal) (p v i o : Nat) : binK P h op T (.hp p v i o) y k = need (abin P h op T (.hp p v i o) y) k := binK_of (by simp)
@[go_sem] theorem binK_nnil (y : AVal) (u : Value) : binK P h op T (.nil u) y k = need (abin P h op T (.nil u) y) k := binK_of (by simp)
@[go_sem] theorem binK_nad (y : AVal) (cs : List AVal) : binK P h op T (.ad cs) y k = need (abin P h op T (.ad cs) y) k := binK_of (by simp)
@[go_sem] theorem binK_nfn (y : AVal) (f : Fn) (a b : List AVal) : binK P h op T (.fn f a b) y k = need (abin P h op T (.fn f a b) y) k := binK_of (by simp)
@[go_sem] theorem binK_nifc (y : AVal) (T' : TypeId) (v : AVal) : binK P h op T (.ifc T' v) y k = need (abin P h op T (.ifc T' v) y) k := binK_of (by simp)
@[go_sem] theorem binK_nez (y : AVal) : binK P h op T .ez y k = need (abin P h op T .ez y) k := binK_of (by simp)
@[go_sem] theorem binK_ncons (y : AVal) (n : Nat) (a : AVal) (l : List AVal) : binK P h op T (.sl n (a :: l)) y k = need (abin P h op T (.sl n (a :: l)) y) k := binK_of (by simp)
theorem binK_empty (n : Nat) (he : (elmT P T).isSome = true) (hop : op = .eql ∨ op = .neq) (hk : ∀ b, k (.bool b)) : binK P h op T (.sl n []) (.nil (.slice none 0 0)) k := by
  unfold binK
  simp only [if_pos he]
  rcases hop with rfl | rfl <;> exact hk
end
@[go_sem] theorem WPl_binOp (op : BinOp) (T T' : TypeId) (x y : Operand) : WPl C ops Q (⟨dst, .binOp op T x y T', ty, pos, aft, none⟩ :: rest) t h =
    binK C.P h op T (aev C.G t x) (aev C.G t y) fun v => WPl C ops Q rest (put t dst v) h := (rfl)
@[go_sem] theorem WPl_unOp (op : UnOp) (T : TypeId) (x : Operand) : WPl C ops Q (⟨dst, .unOp op T x, ty, pos, aft, none⟩ :: rest) t h = need (aun op (aev C.G t x)) fun v => WPl C ops Q rest (put t dst v) h := (rfl)
@[congr] theorem convK_congr {P : Program} {s d : TypeId} {x x' : AVal} {h h' : Heap} {k : AVal → Prop} (e1 : x = x') (e2 : h = h') : convK P s d x h k = convK P s d x' h' k := by rw [e1, e2]
@[go_sem] theorem convK_int (P : Program) (s d : TypeId) (kd : IntKind) (n : Int) (h : Heap) (k : AVal → Prop) : convK P s d (.int kd n) h k = need (aconv P s d (.int kd n)) k := (rfl)
@[go_sem] theorem convK_str (P : Program) (s d : TypeId) (b : List UInt8) (h : Heap) (k : AVal → Prop) : convK P s d (.str b) h k = need (aconv P s d (.str b)) k := (rfl)
@[go_sem] theorem convK_hp (P : Program) (s d : TypeId) (p v : Nat) (h : Heap) (k : AVal → Prop) : convK P s d (.hp p v 0 0) h k = need (getRow h p v) fun q => ptrConv P s d q.1 q.2.1 = true ∧ q.2.2 ≠ [] ∧ k (.hp p v 0 0) := (rfl)
@[go_sem] theorem convK_sl (P : Program) (s d : TypeId) (n : Nat) (es : List AVal) (h : Heap) (k : AVal → Prop) : convK P s d (.sl n es) h k = (bytesStr P s d = true ∧ need (elemsOf h 1 (.sl n es)) fun ys => need (bytesA ys) fun bs => k (.str bs)) := (rfl)
@[go_sem] theorem convK_hs (P : Program) (s d : TypeId) (p v o l : Nat) (r : Bool) (h : Heap) (k : AVal → Prop) : convK P s d (.hs p v o l r) h k = (bytesStr P s d = true ∧ need (elemsOf h 1 (.hs p v o l r)) fun ys => need (bytesA ys) fun bs => k (.str bs)) := (rfl)
@[go_sem] theorem convK_nil (P : Program) (s d : TypeId) (h : Heap) (k : AVal → Prop) : convK P s d (.nil (.slice none 0 0)) h k = (bytesStr P s d = true ∧ k (.str [])) := (rfl)
@[go_sem] theorem WPl_convert (s d : TypeId) (x : Operand) : WPl C ops Q (⟨dst, .convert s d x, ty, pos, aft, none⟩ :: rest) t h = convK C.P s d (aev C.G t x) h fun v => WPl C ops Q rest (put t dst v) h := (rfl)
@[congr] theorem maxK_congr {p : Int → Int → Bool} {x x' y y' : AVal} {k : AVal → Prop} (e1 : x = x') (e2 : y = y') : maxK p x y k = maxK p x' y' k := by rw [e1, e2]
@[go_sem] theorem maxK_int (p : Int → Int → Bool) (kd kd' : IntKind) (a b : Int) (k : AVal → Prop) : maxK p (.int kd a) (.int kd' b) k = k (.int kd (if p a b = true then b else a)) := (rfl)
@[congr] theorem sdataK_congr {x x' : AVal} {h h' : Heap} {k : AVal → Prop} (e1 : x = x') (e2 : h = h') : sdataK x h k = sdataK x' h' k := by rw [e1, e2]
@[go_sem] theorem sdataK_hs (p v len : Nat) (h : Heap) (k : AVal → Prop) : sdataK (.hs p v 0 len true) h k = ((getRow h p v).isSome = true ∧ if 0 < len then k (.hp p v 0 0) else k .pa) := (rfl)
@[go_sem] theorem sdataK_nil (h : Heap) (k : AVal → Prop) : sdataK (.nil (.slice none 0 0)) h k = k .pa := (rfl)
@[congr] theorem ustrK_congr {P : Program} {T : TypeId} {x x' y y' : AVal} {h h' : Heap} {k : AVal → Heap → Prop} (e1 : x = x') (e2 : y = y') (e3 : h = h') : ustrK P T x y h k = ustrK P T x' y' h' k := by rw [e1, e2, e3]
@[go_sem] theorem ustrK_pa (P : Program) (T : TypeId) (h : Heap) (k : AVal → Heap → Prop) : ustrK P T .pa (.int .i64 0) h k = k (.str []) h := (rfl)
theorem ustrK_hp {P : Program} {T : TypeId} {p v e : Nat} {m : Nat} {rows : List AVal} {bs : List UInt8} {h : Heap} {k : AVal → Heap → Prop} (hm : 0 < m) (hg : getRow h p v = some (e, 1, rows)) (hT : bptr P T e = true) (hl : m ≤ rows.length)
    (hb : bytesA (rows.take m) = some bs) (hk : k (.str bs) (h.set p .dead)) : ustrK P T (.hp p v 0 0) (.int .i64 m) h k := by
  have h0 : ¬ ((m : Int) = 0) := by omega
  simp only [ustrK, if_neg h0, hg, need_eq, true_and, Int.toNat_natCast, hb]
  exact ⟨hT, by omega, hl, hk⟩
@[go_sem] theorem WPl_max (x y : Operand) (Ts : Array TypeId) : WPl C ops Q (⟨dst, .call ⟨.builtin .max, #[x, y], Ts⟩, ty, pos, aft, none⟩ :: rest) t h =
    maxK (fun a b => decide (b > a)) (aev C.G t x) (aev C.G t y) fun v => WPl C ops Q rest (put t dst v) h := (rfl)
@[go_sem] theorem WPl_min (x y : Operand) (Ts : Array TypeId) : WPl C ops Q (⟨dst, .call ⟨.builtin .min, #[x, y], Ts⟩, ty, pos, aft, none⟩ :: rest) t h =
    maxK (fun a b => decide (b < a)) (aev C.G t x) (aev C.G t y) fun v => WPl C ops Q rest (put t dst v) h := (rfl)
@[go_sem] theorem WPl_sdata (x : Operand) (Ts : Array TypeId) : WPl C ops Q (⟨dst, .call ⟨.builtin .unsafeSliceData, #[x], Ts⟩, ty, pos, aft, none⟩ :: rest) t h =
    sdataK (aev C.G t x) h fun v => WPl C ops Q rest (put t dst v) h := (rfl)
@[go_sem] theorem WPl_ustr (x y : Operand) (T T2 : TypeId) : WPl C ops Q (⟨dst, .call ⟨.builtin .unsafeString, #[x, y], #[T, T2]⟩, ty, pos, aft, none⟩ :: rest) t h =
    ustrK C.P T (aev C.G t x) (aev C.G t y) h fun v h' => WPl C ops Q rest (put t dst v) h' := (rfl)
@[go_sem] theorem WPl_iface (T : TypeId) (x : Operand) : WPl C ops Q (⟨dst, .makeInterface T x, ty, pos, aft, none⟩ :: rest) t h = (ifcT C.P T = some false ∧ WPl C ops Q rest (put t dst (.ifc T (aev C.G t x))) h) := (rfl)
@[go_sem] theorem WPl_makeFunc (f : Fn) (a b : Array Operand) : WPl C ops Q (⟨dst, .makeFunc f a b, ty, pos, aft, none⟩ :: rest) t h = WPl C ops Q rest (put t dst (.fn f (a.toList.map (aev C.G t)) (b.toList.map (aev C.G t)))) h := (rfl)
@[go_sem] theorem WPl_slice (T : TypeId) (x : Operand) (lo hi mx : Option Operand) : WPl C ops Q (⟨dst, .slice T x lo hi mx, ty, pos, aft, none⟩ :: rest) t h =
    need (aslice C.P h T (aev C.G t x) (lo.map (aev C.G t)) (hi.map (aev C.G t)) (mx.map (aev C.G t))) fun v => WPl C ops Q rest (put t dst v) h := (rfl)

def fieldK (x : AVal) (o : Nat) (h : Heap) (k : AVal → Prop) : Prop := match x with
    | .hp p ver i off => (getRow h p ver).isSome ∧ k (.hp p ver i (off + o))
    | .ad cs => o < cs.length ∧ k (.ad (cs.drop o))
    | _ => False
@[congr] theorem fieldK_congr {x x' : AVal} {o : Nat} {h h' : Heap} {k : AVal → Prop} (e1 : x = x') (e2 : h = h') : fieldK x o h k = fieldK x' o h' k := by rw [e1, e2]
@[go_sem] theorem fieldK_hp (p ver i off o : Nat) (k : AVal → Prop) : fieldK (.hp p ver i off) o h k = ((getRow h p ver).isSome ∧ k (.hp p ver i (off + o))) := (rfl)
@[go_sem] theorem fieldK_ad (cs : List AVal) (o : Nat) (k : AVal → Prop) : fieldK (.ad cs) o h k = (o < cs.length ∧ k (.ad (cs.drop o))) := (rfl)
@[go_sem] theorem WPl_fieldAddr (T : TypeId) (x : Operand) (f : Nat) : WPl C ops Q (⟨dst, .fieldAddr T x f, ty, pos, aft, none⟩ :: rest) t h =
    need (fOff C.P T f) fun q => q.2.2 ≠ 0 ∧ fieldK (aev C.G t x) q.1 h (fun v => WPl C ops Q rest (put t dst v) h) := by
  simp only [WPl, wpOper, wpOp, fieldK]; cases fOff C.P T f <;> first | rfl | (simp only [need_eq]; generalize aev C.G t x = v; cases v <;> rfl)
@[go_sem] theorem WPl_field (T : TypeId) (x : Operand) (f : Nat) : WPl C ops Q (⟨dst, .field T x f, ty, pos, aft, none⟩ :: rest) t h =
    need (fOff C.P T f) fun q => need (match aev C.G t x with | .agg cs => pickT C.P q.2.1 (cs.drop q.1) | _ => none) fun v => WPl C ops Q rest (put t dst v) h := by
  simp only [WPl, wpOper, wpOp]; congr; funext ⟨o, a, b⟩; simp only []; generalize aev C.G t x = v; cases v <;> rfl

def indexK (C : Ctx) (T : TypeId) (x i : AVal) (h : Heap) (k : AVal → Prop) : Prop := match i with
    | .int _ n => match x with
      | .sl m es => need (elmT C.P T) fun e => szOf C.P e = some m ∧ 0 ≤ n ∧ 0 < m ∧ need (es[n.toNat]?) fun r => k (.ad r.cells)
      | .hs p ver off len _ => need (elmT C.P T) fun e => need (getRow h p ver) fun q => szOf C.P e = some q.2.1 ∧ 0 ≤ n ∧ n < len ∧ k (.hp p ver (off + n.toNat) 0)
      | .hp p ver j off => need (arrT C.P T) fun q => need (szOf C.P q.2) fun m => (getRow h p ver).isSome ∧ 0 ≤ n ∧ n < q.1 ∧ k (.hp p ver j (off + n.toNat * m))
      | .ad cs => need (arrT C.P T) fun q => need (szOf C.P q.2) fun m => 0 ≤ n ∧ n < q.1 ∧ n.toNat * m < cs.length ∧ k (.ad (cs.drop (n.toNat * m)))
      | _ => False
    | _ => False
@[congr] theorem indexK_congr {T : TypeId} {x x' i i' : AVal} {h h' : Heap} {k : AVal → Prop} (e1 : x = x') (e2 : i = i') (e3 : h = h') : indexK C T x i h k = indexK C T x' i' h' k := by rw [e1, e2, e3]
@[go_sem] theorem indexK_sl (T : TypeId) (m : Nat) (es : List AVal) (kd : IntKind) (n : Int) (k : AVal → Prop) : indexK C T (.sl m es) (.int kd n) h k =
    need (elmT C.P T) fun e => szOf C.P e = some m ∧ 0 ≤ n ∧ 0 < m ∧ need (es[n.toNat]?) fun r => k (.ad r.cells) := (rfl)
@[go_sem] theorem indexK_hs (T : TypeId) (p ver off len : Nat) (r : Bool) (kd : IntKind) (n : Int) (k : AVal → Prop) : indexK C T (.hs p ver off len r) (.int kd n) h k =
    need (elmT C.P T) fun e => need (getRow h p ver) fun q => szOf C.P e = some q.2.1 ∧ 0 ≤ n ∧ n < len ∧ k (.hp p ver (off + n.toNat) 0) := (rfl)
@[go_sem] theorem indexK_hp (T : TypeId) (p ver j off : Nat) (kd : IntKind) (n : Int) (k : AVal → Prop) : indexK C T (.hp p ver j off) (.int kd n) h k =
    need (arrT C.P T) fun q => need (szOf C.P q.2) fun m => (getRow h p ver).isSome ∧ 0 ≤ n ∧ n < q.1 ∧ k (.hp p ver j (off + n.toNat * m)) := (rfl)
@[go_sem] theorem indexK_ad (T : TypeId) (cs : List AVal) (kd : IntKind) (n : Int) (k : AVal → Prop) : indexK C T (.ad cs) (.int kd n) h k =
    need (arrT C.P T) fun q => need (szOf C.P q.2) fun m => 0 ≤ n ∧ n < q.1 ∧ n.toNat * m < cs.length ∧ k (.ad (cs.drop (n.toNat * m))) := (rfl)
@[go_sem] theorem WPl_indexAddr (T : TypeId) (x i : Operand) : WPl C ops Q (⟨dst, .indexAddr T x i, ty, pos, aft, none⟩ :: rest) t h = indexK C T (aev C.G t x) (aev C.G t i) h (fun v => WPl C ops Q rest (put t dst v) h) := by
  simp only [WPl, wpOper, wpOp, indexK]; generalize aev C.G t i = vi; generalize aev C.G t x = v; cases vi <;> first | rfl | (cases v <;> rfl)

def indexV (C : Ctx) (T : TypeId) (x i : AVal) (k : AVal → Prop) : Prop := match i with
    | .int _ n => match x with
      | .str s => strT C.P T = true ∧ 0 ≤ n ∧ need (s[n.toNat]?) fun b => k (.int .u8 b.toNat)
      | .agg cs => need (arrT C.P T) fun q => need (szOf C.P q.2) fun m => 0 ≤ n ∧ n < q.1 ∧ need (pickT C.P q.2 (cs.drop (n.toNat * m))) k
      | _ => False
    | _ => False
@[congr] theorem indexV_congr {T : TypeId} {x x' i i' : AVal} {k : AVal → Prop} (e1 : x = x') (e2 : i = i') : indexV C T x i k = indexV C T x' i' k := by rw [e1, e2]
@[go_sem] theorem indexV_str (T : TypeId) (s : List UInt8) (kd : IntKind) (n : Int) (k : AVal → Prop) : indexV C T (.str s) (.int kd n) k = (strT C.P T = true ∧ 0 ≤ n ∧ need (s[n.toNat]?) fun b => k (.int .u8 b.toNat)) := (rfl)
@[go_sem] theorem indexV_agg (T : TypeId) (cs : List AVal) (kd : IntKind) (n : Int) (k : AVal → Prop) : indexV C T (.agg cs) (.int kd n) k =
    need (arrT C.P T) fun q => need (szOf C.P q.2) fun m => 0 ≤ n ∧ n < q.1 ∧ need (pickT C.P q.2 (cs.drop (n.toNat * m))) k := (rfl)
@[go_sem] theorem WPl_index (T : TypeId) (x i : Operand) : WPl C ops Q (⟨dst, .index T x i, ty, pos, aft, none⟩ :: rest) t h = indexV C T (aev C.G t x) (aev C.G t i) (fun v => WPl C ops Q rest (put t dst v) h) := by
  simp only [WPl, wpOper, wpOp, indexV]; generalize aev C.G t i = vi; generalize aev C.G t x = v; cases vi <;> first | rfl | (cases v <;> rfl)

@[go_sem] theorem WPl_extract (x : Operand) (i : Nat) : WPl C ops Q (⟨dst, .extract x i, ty, pos, aft, none⟩ :: rest) t h =
    need (match aev C.G t x with | .tup vs => vs[i]? | _ => none) fun v => WPl C ops Q rest (put t dst v) h := by
  simp only [WPl, wpOper, wpOp]; generalize aev C.G t x = v; cases v <;> rfl

/-- A struct or array out of parts. -/
def buildA (C : Ctx) (T : TypeId) (parts : List (Nat × AVal)) : Option AVal :=
  match zroT C.P T with
  | some z => if z.cells.all AVal.sto = true then
      match nFld C.P T, arrT C.P T with
      | some _, _ => (fillA (fun i => (fOff C.P T i).map fun q => (q.1, q.2.2)) z.cells parts).map .agg
      | none, some (_, e) => match szOf C.P e with
        | some n => (fillA (fun i => some (i * n, n)) z.cells parts).map .agg
        | none => none
      | _, _ => none
      else none
  | none => none
@[go_sem] theorem WPl_build (T : TypeId) (parts : Array (Nat × Operand)) : WPl C ops Q (⟨dst, .build T parts, ty, pos, aft, none⟩ :: rest) t h =
    need (buildA C T (parts.toList.map fun q => (q.1, aev C.G t q.2))) fun v => WPl C ops Q rest (put t dst v) h := by
  simp only [WPl, wpOper, wpOp, buildA]
  cases zroT C.P T with
  | none => rfl
  | some z =>
    simp only [need_eq]
    by_cases hz : z.cells.all AVal.sto = true
    · simp only [hz, if_true, true_and]
      generalize nFld C.P T = N
      generalize arrT C.P T = A
      cases N with
      | some k =>
        simp only []
        cases fillA (fun i => (fOff C.P T i).map fun q => (q.1, q.2.2)) z.cells (parts.toList.map fun q => (q.1, aev C.G t q.2)) <;> rfl
      | none =>
        cases A with
        | none => rfl
        | some q =>
          obtain ⟨k, e⟩ := q
          simp only []
          cases szOf C.P e with
          | none => rfl
          | some n =>
            simp only [need_eq]
            cases fillA (fun i => some (i * n, n)) z.cells (parts.toList.map fun q => (q.1, aev C.G t q.2)) <;> rfl
    · simp [hz, need]

def rowsK (C : Ctx) (T : TypeId) (len : Nat) (idx : List Nat) (xs : List AVal) (h : Heap) (k : AVal → Heap → Prop) : Prop :=
  need (elmT C.P T) fun e => need (szOf C.P e) fun n => if len = 0 then xs.length = 0 ∧ k .ez h else
      xs.length = len ∧ 0 < len ∧ 0 < n ∧ len * n ≤ 16777216 ∧ idx = List.range len ∧ (zroT C.P e).map (fun z => (z.cells.length, z.cells.all AVal.sto)) = some (n, true) ∧
      (∀ x ∈ xs, x.cells.length = n ∧ x.lies = true) ∧ (k (.hs h.length 0 0 len true) (h ++ [.row e n 0 xs]) ∨ k (.sl n xs) h)
@[congr] theorem rowsK_congr {T : TypeId} {len : Nat} {idx idx' : List Nat} {xs xs' : List AVal} {h h' : Heap} {k : AVal → Heap → Prop} (e1 : xs = xs') (e2 : h = h') (e3 : idx = idx') : rowsK C T len idx xs h k = rowsK C T len idx' xs' h' k := by rw [e1, e2, e3]
@[go_sem] theorem rowsK_zero {T : TypeId} {h : Heap} {k : AVal → Heap → Prop} : rowsK C T 0 [] [] h k = need (elmT C.P T) fun e => need (szOf C.P e) fun _ => k .ez h := by simp [rowsK]
@[go_sem] theorem WPl_buildSlice (T : TypeId) (len : Nat) (parts : Array (Nat × Operand)) : WPl C ops Q (⟨dst, .buildSlice T len parts, ty, pos, aft, none⟩ :: rest) t h =
    rowsK C T len (parts.toList.map (·.1)) (parts.toList.map fun q => aev C.G t q.2) h (fun v h' => WPl C ops Q rest (put t dst v) h') := by
  simp only [WPl, wpOper, wpOp, rowsK, List.length_map, Array.length_toList]

@[go_sem] theorem WPl_range (T : TypeId) (x : Operand) : WPl C ops Q (⟨dst, .range T x, ty, pos, aft, none⟩ :: rest) t h =
    need (match aev C.G t x with | .str s => some s | _ => none) fun s => strT C.P T = true ∧ WPl C ops Q rest (put t dst (.hp h.length 0 0 0)) (h ++ [.iter s 0]) := by
  simp only [WPl, wpOper, wpOp]; generalize aev C.G t x = v; cases v <;> rfl
def nextK (x : AVal) (h : Heap) (k : AVal → Heap → Prop) : Prop := match x with
    | .hp p 0 0 0 => match h[p]? with
      | some (.iter s pos) => (pos < s.length → k (.tup [.bool true, .int .i64 pos, .int .i32 (Utf8.decode ⟨s.toArray⟩ pos).1]) (h.set p (.iter s (pos + (Utf8.decode ⟨s.toArray⟩ pos).2)))) ∧
          (¬ pos < s.length → k (.tup [.bool false]) h)
      | _ => False
    | _ => False
@[congr] theorem nextK_congr {x x' : AVal} {h h' : Heap} {k : AVal → Heap → Prop} (e1 : x = x') (e2 : h = h') : nextK x h k = nextK x' h' k := by rw [e1, e2]
@[go_sem] theorem WPl_next (x : Operand) : WPl C ops Q (⟨dst, .next x true, ty, pos, aft, none⟩ :: rest) t h = nextK (aev C.G t x) h (fun v h' => WPl C ops Q rest (put t dst v) h') := by
  simp only [WPl, wpOper, wpOp, nextK]
  generalize aev C.G t x = v
  cases v with
  | hp p ver i off =>
    cases ver with
    | succ n => rfl
    | zero =>
      cases i with
      | succ n => rfl
      | zero =>
        cases off with
        | succ n => rfl
        | zero => simp only [true_and]; split <;> simp_all
  | _ => rfl
theorem nextK_at {p : Nat} {s : List UInt8} {q : Nat} {k : AVal → Heap → Prop} (hh : h[p]? = some (.iter s q))
    (h1 : q < s.length → k (.tup [.bool true, .int .i64 q, .int .i32 (Utf8.decode ⟨s.toArray⟩ q).1]) (h.set p (.iter s (q + (Utf8.decode ⟨s.toArray⟩ q).2))))
    (h2 : ¬ q < s.length → k (.tup [.bool false]) h) : nextK (.hp p 0 0 0) h k := by
  simp only [nextK, hh]; exact ⟨h1, h2⟩

@[go_sem] theorem WPl_len (x : Operand) (T : TypeId) : WPl C ops Q (⟨dst, .call ⟨.builtin .len, #[x], #[T]⟩, ty, pos, aft, none⟩ :: rest) t h =
    need (alen C.P h T (aev C.G t x)) fun n => WPl C ops Q rest (put t dst (.int .i64 n)) h := (rfl)

def appK (C : Ctx) (T T' : TypeId) (x y : AVal) (h : Heap) (k : AVal → Heap → Prop) : Prop := (T' = T ∨ strT C.P T' = true) ∧ wpAppend C.P T x y h k
@[congr] theorem appK_congr {T T' : TypeId} {x x' y y' : AVal} {h h' : Heap} {k : AVal → Heap → Prop} (e1 : x = x') (e2 : y = y') (e3 : h = h') : appK C T T' x y h k = appK C T T' x' y' h' k := by rw [e1, e2, e3]
@[go_sem] theorem WPl_append (x y : Operand) (T T' : TypeId) : WPl C ops Q (⟨dst, .call ⟨.builtin .append, #[x, y], #[T, T']⟩, ty, pos, aft, none⟩ :: rest) t h =
    appK C T T' (aev C.G t x) (aev C.G t y) h (fun v h' => WPl C ops Q rest (put t dst v) h') := (rfl)
/-- onto nothing -/
theorem appK_nil {T T' e n by' : Nat} {y : AVal} {ys : List AVal} {k : AVal → Heap → Prop} (hT : T' = T ∨ strT C.P T' = true) (he : elmT C.P T = some e) (hn : szOf C.P e = some n) (hb : byT C.P e = some by')
    (hz : (zroT C.P e).map (fun z => z.cells.length) = some n) (h0 : 0 < n) (hy : elemsOf h n y = some ys) (hr : ys.length ≤ maxLen ∧ ys.length * by' ≤ 140737488355328)
    (hk : k (.hs h.length 0 0 ys.length true) (h ++ [.row e n 0 ys])) : appK C T T' (.nil (.slice none 0 0)) y h k := by
  refine ⟨hT, ?_⟩
  simp only [wpAppend, he, hn, hb, hy, need_eq]
  exact ⟨h0, hz, hr, hk⟩
/-- onto a row of the call's own -/
theorem appK_row {T T' e n by' p ver len : Nat} {y : AVal} {rows ys : List AVal} {k : AVal → Heap → Prop} (hT : T' = T ∨ strT C.P T' = true) (he : elmT C.P T = some e) (hn : szOf C.P e = some n) (hb : byT C.P e = some by')
    (hz : (zroT C.P e).map (fun z => z.cells.length) = some n) (h0 : 0 < n) (hy : elemsOf h n y = some ys) (hrow : getRow h p ver = some (e, n, rows)) (hl : len = rows.length)
    (hr : len + ys.length ≤ maxLen ∧ (len + ys.length) * by' ≤ 140737488355328)
    (hk : k (.hs p (ver + 1) 0 (len + ys.length) true) (h.set p (.row e n (ver + 1) (rows ++ ys)))) : appK C T T' (.hs p ver 0 len true) y h k := by
  refine ⟨hT, ?_⟩
  simp only [wpAppend, he, hn, hb, hy, hrow, need_eq]
  exact ⟨h0, hz, trivial, trivial, trivial, hr, by rw [if_pos trivial]; exact ⟨hl, hk⟩⟩

/-- onto one that has nothing, and no room -/
theorem appK_ez {T T' e n by' : Nat} {y : AVal} {ys : List AVal} {k : AVal → Heap → Prop} (hT : T' = T ∨ strT C.P T' = true) (he : elmT C.P T = some e) (hn : szOf C.P e = some n) (hb : byT C.P e = some by')
    (hz : (zroT C.P e).map (fun z => z.cells.length) = some n) (h0 : 0 < n) (hy : elemsOf h n y = some ys) (hr : ys.length ≤ maxLen ∧ ys.length * by' ≤ 140737488355328)
    (h1 : ys = [] → k .ez h) (hk : ys ≠ [] → k (.hs h.length 0 0 ys.length true) (h ++ [.row e n 0 ys])) : appK C T T' .ez y h k := by
  refine ⟨hT, ?_⟩
  simp only [wpAppend, he, hn, hb, hy, need_eq]
  refine ⟨h0, hz, ?_⟩
  split
  · rename_i e0; exact h1 e0
  · rename_i e0; exact ⟨hr, hk e0⟩

def callK (C : Ctx) (f : AVal) (args : List AVal) (h : Heap) (k : AVal → Heap → Prop) : Prop := match f with
    | .fn (.func g) first captured => Sat C g (first ++ args ++ captured) h k
    | _ => False
@[congr] theorem callK_congr {f f' : AVal} {args args' : List AVal} {h h' : Heap} {k : AVal → Heap → Prop} (e1 : f = f') (e2 : args = args') (e3 : h = h') : callK C f args h k = callK C f' args' h' k := by rw [e1, e2, e3]
@[go_sem] theorem callK_fn (g : FuncId) (first captured args : List AVal) (k : AVal → Heap → Prop) : callK C (.fn (.func g) first captured) args h k = Sat C g (first ++ args ++ captured) h k := (rfl)
@[go_sem] theorem WPl_call (f : Operand) (args : Array Operand) (Ts : Array TypeId) : WPl C ops Q (⟨dst, .call ⟨.value f, args, Ts⟩, ty, pos, aft, none⟩ :: rest) t h =
    callK C (aev C.G t f) (args.toList.map (aev C.G t)) h (fun v h' => WPl C ops Q rest (put t dst v) h') := by
  simp only [WPl, wpOper, wpOp, wpCall, callK]; generalize aev C.G t f = v; cases v <;> first | rfl | (rename_i f _ _; cases f <;> rfl)

/-- A guarded operation, where the guard is known. -/
def guardK (g : Option (Option Bool)) (want : Bool) (a b : Prop) : Prop := match g with | some q => (q = some want → a) ∧ (q ≠ some want → b) | none => False
@[congr] theorem guardK_congr {g g' : Option (Option Bool)} {want : Bool} {a b : Prop} (e : g = g') : guardK g want a b = guardK g' want a b := by rw [e]
theorem guardK_some (q : Option Bool) (want : Bool) (a b : Prop) : guardK (some q) want a b = ((q = some want → a) ∧ (q ≠ some want → b)) := rfl
theorem WPl_guard (op : Op) (j : Nat) (want : Bool) : WPl C ops Q (⟨dst, op, ty, pos, aft, some (j, want)⟩ :: rest) t h =
    guardK (guardA ops t j) want (WPl C ops Q (⟨dst, op, ty, pos, aft, none⟩ :: rest) t h) (WPl C ops Q rest (put t dst undefA) h) := by
  simp only [WPl, wpOper, guardK]; cases guardA ops t j <;> rfl

def gval (v : AVal) : Option (Option Bool) := match v with | .bool b => some (some b) | .nil (.tuple _) => some none | _ => none
def gdst (t : Env) (d : Option Nat) : Option (Option Bool) := match d with | some d => gval (t d) | none => none
@[go_sem] theorem guardA_list (l : List Oper) (j : Nat) : guardA l.toArray t j = gdst t ((l[j]?).bind (·.dst)) := by
  unfold guardA gdst
  have e : l.toArray[j]? = l[j]? := by simp
  rw [e]
  cases (l[j]?).bind (·.dst) with
  | none => rfl
  | some d => simp only [gval]; cases t d <;> rfl
@[go_sem] theorem gdst_some (d : Nat) : gdst t (some d) = gval (t d) := (rfl)
@[go_sem] theorem gval_bool (b : Bool) : gval (.bool b) = some (some b) := (rfl)
@[go_sem] theorem gval_undef : gval (.nil undef) = some none := (rfl)
attribute [go_sem] Option.bind_some
@[go_sem] theorem WPl_yes (op : Op) (j : Nat) (want : Bool) (hg : guardA ops t j = some (some want)) : WPl C ops Q (⟨dst, op, ty, pos, aft, some (j, want)⟩ :: rest) t h = WPl C ops Q (⟨dst, op, ty, pos, aft, none⟩ :: rest) t h := by
  rw [WPl_guard, hg]; simp [guardK]
@[go_sem] theorem WPl_no (op : Op) (j : Nat) (want : Bool) (hg : guardA ops t j = some (some (!want))) : WPl C ops Q (⟨dst, op, ty, pos, aft, some (j, want)⟩ :: rest) t h = WPl C ops Q rest (put t dst undefA) h := by
  rw [WPl_guard, hg]; simp [guardK]
@[go_sem] theorem WPl_un (op : Op) (j : Nat) (want : Bool) (hg : guardA ops t j = some none) : WPl C ops Q (⟨dst, op, ty, pos, aft, some (j, want)⟩ :: rest) t h = WPl C ops Q rest (put t dst undefA) h := by
  rw [WPl_guard, hg]; simp [guardK]

/-! Code. -/
theorem Weak.refl (C : Ctx) (ms : List Nat) (t : Env) (h : Heap) : Weak C ms t h t h := ⟨fun _ _ => rfl, fun B _ S μ w _ f r => ⟨S, μ, Step.refl B S μ w, f, r⟩⟩
theorem Wkn.refl {ms : List Nat} {R : Env → Heap → Prop} (g : R t h) : Wkn C ms t h R := ⟨t, h, Weak.refl C ms t h, g⟩
theorem WP_seq {a b : Code} (hh : ∀ K : Env → Heap → Prop, (∀ t h, Wkn C (wr a) t h (fun t h => WP C b Q t h) → K t h) → WP C a (thenQ K Q) t h) : WP C (.seq a b) Q t h := hh _ fun _ _ k => k
theorem WP_region {id : Nat} {l : List Oper} (hh : WPl C l.toArray Q l t h) : WP C (.region id l.toArray false) Q t h := hh
theorem WP_scope {c : Code} (hh : WP C c (noG Q) t h) : WP C (.scope c) Q t h := hh
@[go_sem] theorem noG_normal : noG Q .normal t h = Q .normal t h := (rfl)
@[go_sem] theorem noG_ret : noG Q .ret t h = Q .ret t h := (rfl)
@[go_sem] theorem noG_exit (i : Nat) : noG Q (.exit i) t h = Q (.exit i) t h := (rfl)
theorem WP_block {id : Nat} {c : Code} (hh : WP C c (blockQ id Q) t h) : WP C (.block id c) Q t h := hh
theorem WP_cond {c : Operand} {a b : Code} {q : Bool} (hc : aev C.G t c = .bool q) (h1 : q = true → WP C a Q t h) (h2 : q = false → WP C b Q t h) : WP C (.cond c a b) Q t h := by
  simp only [WP, hc]; exact ⟨h1, h2⟩
theorem WP_skip (hh : Q .normal t h) : WP C .skip Q t h := hh
theorem WP_exit {id : Nat} (hh : Q (.exit id) t h) : WP C (.exit id) Q t h := hh
theorem WP_ret (hh : Q .ret t h) : WP C .ret Q t h := hh
@[go_sem] theorem thenQ_normal (K : Env → Heap → Prop) : thenQ K Q .normal t h = K t h := (rfl)
@[go_sem] theorem thenQ_ret (K : Env → Heap → Prop) : thenQ K Q .ret t h = Q .ret t h := (rfl)
@[go_sem] theorem thenQ_exit (K : Env → Heap → Prop) (id : Nat) : thenQ K Q (.exit id) t h = Q (.exit id) t h := (rfl)
@[go_sem] theorem blockQ_normal (id : Nat) : blockQ id Q .normal t h = Q .normal t h := (rfl)
@[go_sem] theorem blockQ_ret (id : Nat) : blockQ id Q .ret t h = Q .ret t h := (rfl)
@[go_sem] theorem blockQ_exit (id id' : Nat) : blockQ id Q (.exit id') t h = if id' = id then Q .normal t h else Q (.exit id') t h := (rfl)

/-- The rule of a function, its end under a name. -/
theorem Sat.body (rs : List ResultVar) {f : FuncId} {fn : Func} {c : Code} {args : List AVal} {R : AVal → Heap → Prop} (hf : C.P.funcs[f]? = some fn) (hb : fn.body = some c) (hrs : fn.results.toList = rs) (hname : (fn.name == "runtime.NumGoroutine") = false)
    (hok : okCode fn.ntmps c = true) (hres : fn.results.toList.all (okRes fn.ntmps) = true) (hlen : decide (args.length ≤ fn.ntmps) = true)
    (hw : ∀ Q : Exit → Env → Heap → Prop, (∀ t' h', need (resA C t' h' rs) (Fin h h' R) → Q .ret t' h' ∧ Q .normal t' h') → WP C c Q (env0 args) h) : Sat C f args h R := by
  subst hrs
  refine Sat.of_body hf hb hname hok hres (by simpa using hlen) (hw _ fun t' h' k => ⟨k, k⟩)

/-- The end of a function that leaves nothing behind but new blocks, and hands back what is data. -/
theorem Fin.plain {h0 j : Heap} {R : AVal → Heap → Prop} {r : AVal} (hc : Clo h0.length r) (hR : R r h0) : Fin h0 (h0 ++ j) R r := by
  refine ⟨h0.length, r, Nat.le_refl _, .clo _ hc, fun p k hp hk => ?_, by rw [List.take_left' rfl]; exact hR⟩
  rw [List.getElem?_append_left hp] at hk
  exact .inl ⟨hp, hk⟩
theorem Fin.same {h0 : Heap} {R : AVal → Heap → Prop} {r : AVal} (hc : Clo h0.length r) (hR : R r h0) : Fin h0 h0 R r := by
  have := Fin.plain (j := []) hc hR
  simpa using this
end


attribute [go_sem] astr env0 List.getD_cons_zero List.getD_cons_succ List.toList_toArray List.map_cons List.map_nil Option.map_some Option.map_none List.append_nil List.nil_append List.cons_append

/-! The parts of a value, kind by kind. -/
@[go_sem] theorem cells_agg (cs : List AVal) : AVal.cells (.agg cs) = cs := (rfl)
@[go_sem] theorem lies_agg (cs : List AVal) : AVal.lies (.agg cs) = true := (rfl)
@[go_sem] theorem sto_agg (cs : List AVal) : AVal.sto (.agg cs) = false := (rfl)
@[go_sem] theorem ofCells_agg (a cs : List AVal) : ofCells (.agg a) cs = .agg cs := (rfl)
@[go_sem] theorem cells_int (k : IntKind) (n : Int) : AVal.cells (.int k n) = [.int k n] := (rfl)
@[go_sem] theorem ofCells_int (k : IntKind) (n : Int) (x : AVal) : ofCells (.int k n) [x] = x := (rfl)
@[go_sem] theorem lies_int (k : IntKind) (n : Int) : AVal.lies (.int k n) = true := (rfl)
@[go_sem] theorem sto_int (k : IntKind) (n : Int) : AVal.sto (.int k n) = true := (rfl)
@[go_sem] theorem cells_bool (b : Bool) : AVal.cells (.bool b) = [.bool b] := (rfl)
@[go_sem] theorem ofCells_bool (b : Bool) (x : AVal) : ofCells (.bool b) [x] = x := (rfl)
@[go_sem] theorem lies_bool (b : Bool) : AVal.lies (.bool b) = true := (rfl)
@[go_sem] theorem sto_bool (b : Bool) : AVal.sto (.bool b) = true := (rfl)
@[go_sem] theorem cells_str (s : List UInt8) : AVal.cells (.str s) = [.str s] := (rfl)
@[go_sem] theorem ofCells_str (s : List UInt8) (x : AVal) : ofCells (.str s) [x] = x := (rfl)
@[go_sem] theorem lies_str (s : List UInt8) : AVal.lies (.str s) = true := (rfl)
@[go_sem] theorem sto_str (s : List UInt8) : AVal.sto (.str s) = true := (rfl)
@[go_sem] theorem cells_nil (v : Value) : AVal.cells (.nil v) = [.nil v] := (rfl)
@[go_sem] theorem ofCells_nil (v : Value) (x : AVal) : ofCells (.nil v) [x] = x := (rfl)
@[go_sem] theorem lies_nil (v : Value) : AVal.lies (.nil v) = v.oneCell' := (rfl)
@[go_sem] theorem sto_nil (v : Value) : AVal.sto (.nil v) = v.oneCell' := (rfl)
@[go_sem] theorem cells_sl (n : Nat) (es : List AVal) : AVal.cells (.sl n es) = [.sl n es] := (rfl)
@[go_sem] theorem ofCells_sl (n : Nat) (es : List AVal) (x : AVal) : ofCells (.sl n es) [x] = x := (rfl)
@[go_sem] theorem lies_sl (n : Nat) (es : List AVal) : AVal.lies (.sl n es) = true := (rfl)
@[go_sem] theorem sto_sl (n : Nat) (es : List AVal) : AVal.sto (.sl n es) = true := (rfl)
@[go_sem] theorem cells_hp (p v i o : Nat) : AVal.cells (.hp p v i o) = [.hp p v i o] := (rfl)
@[go_sem] theorem ofCells_hp (p v i o : Nat) (x : AVal) : ofCells (.hp p v i o) [x] = x := (rfl)
@[go_sem] theorem lies_hp (p v i o : Nat) : AVal.lies (.hp p v i o) = true := (rfl)
@[go_sem] theorem sto_hp (p v i o : Nat) : AVal.sto (.hp p v i o) = true := (rfl)
@[go_sem] theorem cells_hs (p v o l : Nat) (r : Bool) : AVal.cells (.hs p v o l r) = [.hs p v o l r] := (rfl)
@[go_sem] theorem ofCells_hs (p v o l : Nat) (r : Bool) (x : AVal) : ofCells (.hs p v o l r) [x] = x := (rfl)
@[go_sem] theorem lies_hs (p v o l : Nat) (r : Bool) : AVal.lies (.hs p v o l r) = true := (rfl)
@[go_sem] theorem sto_hs (p v o l : Nat) (r : Bool) : AVal.sto (.hs p v o l r) = true := (rfl)
@[go_sem] theorem cells_fn (f : Fn) (a b : List AVal) : AVal.cells (.fn f a b) = [.fn f a b] := (rfl)
@[go_sem] theorem ofCells_fn (f : Fn) (a b : List AVal) (x : AVal) : ofCells (.fn f a b) [x] = x := (rfl)
@[go_sem] theorem lies_fn (f : Fn) (a b : List AVal) : AVal.lies (.fn f a b) = true := (rfl)
@[go_sem] theorem sto_fn (f : Fn) (a b : List AVal) : AVal.sto (.fn f a b) = true := (rfl)
@[go_sem] theorem cells_ifc (T : TypeId) (v : AVal) : AVal.cells (.ifc T v) = [.ifc T v] := (rfl)
@[go_sem] theorem ofCells_ifc (T : TypeId) (v : AVal) (x : AVal) : ofCells (.ifc T v) [x] = x := (rfl)
@[go_sem] theorem lies_ifc (T : TypeId) (v : AVal) : AVal.lies (.ifc T v) = true := (rfl)
@[go_sem] theorem sto_ifc (T : TypeId) (v : AVal) : AVal.sto (.ifc T v) = true := (rfl)
@[go_sem] theorem cells_ad (cs : List AVal) : AVal.cells (.ad cs) = [.ad cs] := (rfl)
@[go_sem] theorem ofCells_ad (cs : List AVal) (x : AVal) : ofCells (.ad cs) [x] = x := (rfl)
@[go_sem] theorem alen_str (P : Program) (h : Heap) (T : TypeId) (s : List UInt8) : alen P h T (.str s) = if strT P T = true then some s.length else none := (rfl)
@[go_sem] theorem alen_sl (P : Program) (h : Heap) (T : TypeId) (n : Nat) (es : List AVal) : alen P h T (.sl n es) = if (elmT P T).isSome then some es.length else none := (rfl)
@[go_sem] theorem alen_hs (P : Program) (h : Heap) (T : TypeId) (p v o l : Nat) (r : Bool) : alen P h T (.hs p v o l r) = if (elmT P T).isSome ∧ (getRow h p v).isSome then some l else none := (rfl)
@[go_sem] theorem alen_nil (P : Program) (h : Heap) (T : TypeId) : alen P h T (.nil (.slice none 0 0)) = if (elmT P T).isSome then some 0 else none := (rfl)
@[go_sem] theorem alen_nmap (P : Program) (h : Heap) (T : TypeId) : alen P h T (.nil (.map none)) = if (mapT P T).isSome then some 0 else none := (rfl)
@[go_sem] theorem aun_not (b : Bool) : aun .not (.bool b) = some (.bool (!b)) := (rfl)
@[go_sem] theorem aun_neg (k : IntKind) (n : Int) : aun .neg (.int k n) = some (.int k (k.wrap (0 - n))) := (rfl)

/-! Reckoning, as it stands in a walk. -/
theorem wrap64_in {x : Int} (h0 : -9223372036854775808 ≤ x) (h1 : x ≤ 9223372036854775807) : IntKind.i64.wrap x = x := by
  simp only [IntKind.wrap, IntKind.bits, IntKind.signed]; simp; omega
@[go_sem] theorem abin_add (P : Program) (h : Heap) (T : TypeId) (k : IntKind) (a b : Int) : abin P h .add T (.int k a) (.int k b) = some (.int k (k.wrap (a + b))) := by simp only [abin, aint, if_true]
@[go_sem] theorem abin_sub (P : Program) (h : Heap) (T : TypeId) (k : IntKind) (a b : Int) : abin P h .sub T (.int k a) (.int k b) = some (.int k (k.wrap (a - b))) := by simp only [abin, aint, if_true]
@[go_sem] theorem abin_mul (P : Program) (h : Heap) (T : TypeId) (k : IntKind) (a b : Int) : abin P h .mul T (.int k a) (.int k b) = some (.int k (k.wrap (a * b))) := by simp only [abin, aint, if_true]
@[go_sem] theorem abin_quo (P : Program) (h : Heap) (T : TypeId) (k : IntKind) (a b : Int) : abin P h .quo T (.int k a) (.int k b) = if b = 0 then none else some (.int k (k.wrap (a.tdiv b))) := by simp only [abin, aint, if_true]
@[go_sem] theorem abin_rem (P : Program) (h : Heap) (T : TypeId) (k : IntKind) (a b : Int) : abin P h .rem T (.int k a) (.int k b) = if b = 0 then none else some (.int k (a.tmod b)) := by simp only [abin, aint, if_true]
@[go_sem] theorem abin_eql (P : Program) (h : Heap) (T : TypeId) (k : IntKind) (a b : Int) : abin P h .eql T (.int k a) (.int k b) = some (.bool (a == b)) := by simp only [abin, aint, if_true]
@[go_sem] theorem abin_neq (P : Program) (h : Heap) (T : TypeId) (k : IntKind) (a b : Int) : abin P h .neq T (.int k a) (.int k b) = some (.bool (a != b)) := by simp only [abin, aint, if_true]
@[go_sem] theorem abin_lss (P : Program) (h : Heap) (T : TypeId) (k : IntKind) (a b : Int) : abin P h .lss T (.int k a) (.int k b) = some (.bool (decide (a < b))) := by simp only [abin, aint, if_true]
@[go_sem] theorem abin_leq (P : Program) (h : Heap) (T : TypeId) (k : IntKind) (a b : Int) : abin P h .leq T (.int k a) (.int k b) = some (.bool (decide (a ≤ b))) := by simp only [abin, aint, if_true]
@[go_sem] theorem abin_gtr (P : Program) (h : Heap) (T : TypeId) (k : IntKind) (a b : Int) : abin P h .gtr T (.int k a) (.int k b) = some (.bool (decide (a > b))) := by simp only [abin, aint, if_true]
@[go_sem] theorem abin_geq (P : Program) (h : Heap) (T : TypeId) (k : IntKind) (a b : Int) : abin P h .geq T (.int k a) (.int k b) = some (.bool (decide (a ≥ b))) := by simp only [abin, aint, if_true]
@[go_sem] theorem abin_and (P : Program) (h : Heap) (T : TypeId) (k : IntKind) (a b : Int) : abin P h .and T (.int k a) (.int k b) = some (.int k (k.wrap (BitVec.ofInt k.bits a &&& BitVec.ofInt k.bits b).toNat)) := by simp only [abin, aint, if_true]
@[go_sem] theorem abin_or (P : Program) (h : Heap) (T : TypeId) (k : IntKind) (a b : Int) : abin P h .or T (.int k a) (.int k b) = some (.int k (k.wrap (BitVec.ofInt k.bits a ||| BitVec.ofInt k.bits b).toNat)) := by simp only [abin, aint, if_true]
@[go_sem] theorem abin_xor (P : Program) (h : Heap) (T : TypeId) (k : IntKind) (a b : Int) : abin P h .xor T (.int k a) (.int k b) = some (.int k (k.wrap (BitVec.ofInt k.bits a ^^^ BitVec.ofInt k.bits b).toNat)) := by simp only [abin, aint, if_true]
@[go_sem] theorem abin_andNot (P : Program) (h : Heap) (T : TypeId) (k : IntKind) (a b : Int) : abin P h .andNot T (.int k a) (.int k b) = some (.int k (k.wrap (BitVec.ofInt k.bits a &&& ~~~(BitVec.ofInt k.bits b)).toNat)) := by simp only [abin, aint, if_true]
@[go_sem] theorem abin_shl (P : Program) (h : Heap) (T : TypeId) (k k' : IntKind) (a b : Int) : abin P h .shl T (.int k a) (.int k' b) = if b < 0 then none else some (.int k (k.wrap (a * 2 ^ (min b.toNat k.bits)))) := (rfl)
@[go_sem] theorem abin_shr (P : Program) (h : Heap) (T : TypeId) (k k' : IntKind) (a b : Int) : abin P h .shr T (.int k a) (.int k' b) = if b < 0 then none else some (.int k (a.fdiv (2 ^ (min b.toNat k.bits)))) := (rfl)
@[go_sem] theorem abin_str (P : Program) (h : Heap) (op : BinOp) (T : TypeId) (a b : List UInt8) : abin P h op T (.str a) (.str b) = astr op a b := (rfl)

theorem astr_add {a b : List UInt8} (h : a.length + b.length ≤ 140737488355328) : astr .add a b = some (.str (a ++ b)) := by simp only [astr, if_pos h]

/-! The memory of a walk: what was there, and what is new behind it. -/
@[go_sem] theorem getRow_app (h l : Heap) (k v : Nat) : getRow (h ++ l) (h.length + k) v = getRow l k v := by
  unfold getRow; rw [List.getElem?_append_right (by omega), Nat.add_sub_cancel_left]
@[go_sem] theorem getRow_app0 (h l : Heap) (v : Nat) : getRow (h ++ l) h.length v = getRow l 0 v := getRow_app h l 0 v
@[go_sem] theorem getRow_zero (e n v v' : Nat) (rows : List AVal) (l : Heap) : getRow (.row e n v rows :: l) 0 v' = if v' = v then some (e, n, rows) else none := (rfl)
@[go_sem] theorem getRow_succ (b : Blk) (l : Heap) (k v : Nat) : getRow (b :: l) (k + 1) v = getRow l k v := (rfl)
theorem getRow_old {h l : Heap} {p v : Nat} {x : TypeId × Nat × List AVal} (hp : getRow h p v = some x) : getRow (h ++ l) p v = some x := by
  unfold getRow at hp ⊢
  have : p < h.length := by
    rcases Nat.lt_or_ge p h.length with h1 | h1
    · exact h1
    · rw [List.getElem?_eq_none h1] at hp; cases hp
  rw [List.getElem?_append_left this]; exact hp
@[go_sem] theorem set_app (h l : Heap) (k : Nat) (b : Blk) : (h ++ l).set (h.length + k) b = h ++ l.set k b := by
  rw [List.set_append_right _ _ (by omega), Nat.add_sub_cancel_left]
@[go_sem] theorem set_app0 (h l : Heap) (b : Blk) : (h ++ l).set h.length b = h ++ l.set 0 b := set_app h l 0 b
@[go_sem] theorem get_app (h l : Heap) (k : Nat) : (h ++ l)[h.length + k]? = l[k]? := by
  rw [List.getElem?_append_right (by omega), Nat.add_sub_cancel_left]
@[go_sem] theorem get_app0 (h l : Heap) : (h ++ l)[h.length]? = l[0]? := get_app h l 0
attribute [go_sem] List.append_assoc List.length_append List.length_cons List.length_nil Nat.zero_add Nat.add_zero List.set_cons_zero List.set_cons_succ List.getElem?_cons_zero List.getElem?_cons_succ
  pickT List.take_succ_cons List.take_zero List.drop_zero List.drop_succ_cons List.take_nil List.drop_nil List.head?_cons Option.isSome_some true_and and_true Nat.add_assoc
  Int.toNat_natCast List.getElem?_map List.length_map ne_eq not_false_eq_true buildA fillA Value.oneCell' List.all_cons List.all_nil Bool.and_true Bool.true_and Nat.add_eq putA
@[go_sem] theorem resA_one (C : Ctx) (t : Env) (h : Heap) (i : Tmp) : resA C t h [.tmp i] = some (t i) := (rfl)
@[go_sem] theorem resA_two (C : Ctx) (t : Env) (h : Heap) (i j : Tmp) : resA C t h [.tmp i, .tmp j] = some (.tup [t i, t j]) := (rfl)
@[go_sem] theorem resA_three (C : Ctx) (t : Env) (h : Heap) (i j k : Tmp) : resA C t h [.tmp i, .tmp j, .tmp k] = some (.tup [t i, t j, t k]) := (rfl)
@[go_sem] theorem resA_none (C : Ctx) (t : Env) (h : Heap) : resA C t h [] = some (.tup []) := (rfl)

@[go_sem] theorem aslice_from (P : Program) (h : Heap) (T : TypeId) (s : List UInt8) (k : IntKind) (l : Int) (h0 : 0 ≤ l) (h1 : l ≤ s.length) :
    aslice P h T (.str s) (some (.int k l)) none none = if strT P T = true then some (.str (s.drop l.toNat)) else none := by
  simp [aslice, optInt, h0, h1]
@[go_sem] theorem aslice_to (P : Program) (h : Heap) (T : TypeId) (s : List UInt8) (k : IntKind) (r : Int) (h0 : 0 ≤ r) (h1 : r ≤ s.length) :
    aslice P h T (.str s) none (some (.int k r)) none = if strT P T = true then some (.str (s.take r.toNat)) else none := by
  simp [aslice, optInt, h0, h1]
@[go_sem] theorem aslice_mid (P : Program) (h : Heap) (T : TypeId) (s : List UInt8) (k k' : IntKind) (l r : Int) (h0 : 0 ≤ l) (h1 : l ≤ r) (h2 : r ≤ s.length) :
    aslice P h T (.str s) (some (.int k l)) (some (.int k' r)) none = if strT P T = true then some (.str ((s.take r.toNat).drop l.toNat)) else none := by
  simp [aslice, optInt, h0, h1, h2]
end Go.Av
