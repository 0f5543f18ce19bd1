/- Lists that grow: nothing at first, then a row of the call's own. Values that stand for more than is known. -/
import Derived.Test.YtnchpoppgdbapaaGreatDoorJgAv20
set_option linter.unusedSimpArgs false
set_option linter.unusedVariables false
namespace Go.Av
open Go.RowKit

/-- A list that grows, behind the blocks 'base' (q: how many these are): nothing, or the row l. -/
def Acc (q e n : Nat) (v : AVal) (l : Heap) (rows : List AVal) : Prop :=
  (v = .nil (.slice none 0 0) ∧ l = [] ∧ rows = []) ∨ ∃ ver, v = .hs q ver 0 rows.length true ∧ l = [.row e n ver rows]

theorem Acc.start (q e n : Nat) : Acc q e n (.nil (.slice none 0 0)) [] [] := .inl ⟨rfl, rfl, rfl⟩
theorem Acc.row (q e n ver : Nat) (rows : List AVal) : Acc q e n (.hs q ver 0 rows.length true) [.row e n ver rows] rows := .inr ⟨ver, rfl, rfl⟩

section
variable {C : Ctx} {h : Heap}

theorem appK_acc {T T' e n by' q : Nat} {v y : AVal} {rows ys : List AVal} {base l : Heap} {k : AVal → Heap → Prop} (ha : Acc q e n v l rows) (hT : T' = T ∨ strT C.P T' = true) (he : elmT C.P T = some e) (hn : szOf C.P e = some n) (hb : byT C.P e = some by')
    (hz : (zroT C.P e).map (fun z => z.cells.length) = some n) (h0 : 0 < n) (hh : h = base ++ l) (hq : q = base.length) (hy : elemsOf h n y = some ys)
    (hr : rows.length + ys.length ≤ maxLen ∧ (rows.length + ys.length) * by' ≤ 140737488355328)
    (hk : ∀ v' l', Acc q e n v' l' (rows ++ ys) → k v' (base ++ l')) : appK C T T' v y h k := by
  subst hh; subst hq
  rcases ha with ⟨rfl, rfl, rfl⟩ | ⟨ver, rfl, rfl⟩
  · refine appK_nil hT he hn hb hz h0 hy (by simpa using hr) ?_
    have := hk (.hs base.length 0 0 ys.length true) [.row e n 0 ys] (Acc.row _ _ _ 0 ys)
    simpa using this
  · refine appK_row hT he hn hb hz h0 hy (by simp [getRow]) rfl hr ?_
    have := hk _ _ (Acc.row base.length e n (ver + 1) (rows ++ ys))
    simpa using this

theorem Acc.frz {q e n m : Nat} {v : AVal} {l base : Heap} {rows : List AVal} (ha : Acc q e n v l rows) (hh : h = base ++ l) (hq : q = base.length) (hm : m ≤ q) (hc : ∀ r ∈ rows, Clo m r) (hs : ∀ r ∈ rows, ∀ c ∈ r.cells, c.sto = true) :
    Frz h m v (.sl n rows) := by
  subst hh; subst hq
  rcases ha with ⟨rfl, rfl, rfl⟩ | ⟨ver, rfl, rfl⟩
  · exact .nils n
  · have := Frz.hs (h := base ++ [.row e n ver rows]) (n := m) base.length ver 0 rows.length true e n rows rows hm (by simp [getRow]) (by simp) rfl
      (fun i r s hr hs' => by rw [hr] at hs'; cases hs'; exact .clo _ (hc r (List.mem_of_getElem? hr)))
      (fun i r s hr hs' => by rw [hr] at hs'; cases hs'; exact ⟨rfl, fun j c d hj hd => hs r (List.mem_of_getElem? hr) d (List.mem_of_getElem? hd)⟩)
      (fun i r s j c d hr hs' hj hd => by rw [hr] at hs'; cases hs'; rw [hj] at hd; cases hd; exact .clo _ ((hc r (List.mem_of_getElem? hr)).cells c (List.mem_of_getElem? hj)))
    simpa using this

theorem Fin.frz {h0 j : Heap} {R : AVal → Heap → Prop} {r0 r : AVal} (hz : Frz (h0 ++ j) h0.length r0 r) (hR : R r h0) : Fin h0 (h0 ++ j) R r0 := by
  refine ⟨h0.length, r, Nat.le_refl _, hz, fun p k hp hk => ?_, by rw [List.take_left' rfl]; exact hR⟩
  rw [List.getElem?_append_left hp] at hk
  exact .inl ⟨hp, hk⟩

/-- What is known of a value, and less of it. -/
def Wk (x y : AVal) : Prop := ∀ (w : World) (S : Addr → Prop) (μ : Map) (v : Value), Rep w S μ x v → Rep w S μ y v
theorem Wk.refl (x : AVal) : Wk x x := fun _ _ _ _ r => r
theorem Wk.nils (n : Nat) : Wk (.nil (.slice none 0 0)) (.sl n []) := fun _ _ _ _ r => by cases r; exact .sl0 n none 0
theorem Wk.agg {xs ys : List AVal} (hl : xs.length = ys.length) (hs : ∀ y ∈ ys, y.sto = true) (hw : ∀ (i : Nat) (x y : AVal), xs[i]? = some x → ys[i]? = some y → Wk x y) : Wk (.agg xs) (.agg ys) := fun w S μ v r => by
  obtain ⟨vs, rfl, hvl, _, hr⟩ := r.agg_inv
  refine .agg ys vs (by omega) (fun i d hd => hs d (List.mem_of_getElem? hd)) (fun i d hd => ?_)
  have hlt := (List.getElem?_eq_some_iff.1 hd).1
  have hc := List.getElem?_eq_getElem (show i < xs.length by omega)
  exact hw i _ d hc hd w S μ _ (hr i _ hc)
theorem Sat.wk {f : FuncId} {xs ys : List AVal} {R : AVal → Heap → Prop} (hl : xs.length = ys.length) (hw : ∀ (i : Nat) (x y : AVal), xs[i]? = some x → ys[i]? = some y → Wk x y) (s : Sat C f ys h R) : Sat C f xs h R :=
  fun B S μ w vs hf hr => s B S μ w vs hf ⟨by rw [hr.1, hl], fun i y hy => by
    have hlt := (List.getElem?_eq_some_iff.1 hy).1
    have hc := List.getElem?_eq_getElem (show i < xs.length by omega)
    exact hw i _ y hc hy w S μ _ (hr.2 i _ hc)⟩

/-! A region cut where a bool is known to be one or the other. -/
theorem upd_self {t : Env} {d : Nat} {q b : Bool} (h1 : t d = .bool q) (h2 : q = b) : upd t d (.bool b) = t := by
  funext i; simp only [upd]; split
  · rename_i e; subst e; rw [h1, h2]
  · rfl
/-- A walk that stands at a guard: the bool is one or the other. -/
theorem WPl_gsplit {ops : Array Oper} {Q : Exit → Env → Heap → Prop} {rest : List Oper} {t : Env} {dst : Option Nat} {op : Op} {ty : TypeId} {pos : String} {aft : Array Edge} {j d : Nat} {want q : Bool}
    (_hd : (ops[j]?).bind (·.dst) = some d) (hq : t d = .bool q)
    (h1 : q = true → WPl C ops Q (⟨dst, op, ty, pos, aft, some (j, want)⟩ :: rest) (upd t d (.bool true)) h) (h2 : q = false → WPl C ops Q (⟨dst, op, ty, pos, aft, some (j, want)⟩ :: rest) (upd t d (.bool false)) h) :
    WPl C ops Q (⟨dst, op, ty, pos, aft, some (j, want)⟩ :: rest) t h := by
  cases q with
  | true => have := h1 rfl; rwa [upd_self hq rfl] at this
  | false => have := h2 rfl; rwa [upd_self hq rfl] at this
theorem WPp_gsplit {ops : Array Oper} {K : Env → Prop} {rest : List Oper} {t : Env} {dst : Option Nat} {op : Op} {ty : TypeId} {pos : String} {aft : Array Edge} {j d : Nat} {want q : Bool}
    (_hd : (ops[j]?).bind (·.dst) = some d) (hq : t d = .bool q)
    (h1 : q = true → WPp C ops (⟨dst, op, ty, pos, aft, some (j, want)⟩ :: rest) (upd t d (.bool true)) h K) (h2 : q = false → WPp C ops (⟨dst, op, ty, pos, aft, some (j, want)⟩ :: rest) (upd t d (.bool false)) h K) :
    WPp C ops (⟨dst, op, ty, pos, aft, some (j, want)⟩ :: rest) t h K := by
  cases q with
  | true => have := h1 rfl; rwa [upd_self hq rfl] at this
  | false => have := h2 rfl; rwa [upd_self hq rfl] at this
@[go_sem] theorem guardK_tt (a b : Prop) : guardK (some (some true)) true a b = a := by simp [guardK]
@[go_sem] theorem guardK_tf (a b : Prop) : guardK (some (some true)) false a b = b := by simp [guardK]
@[go_sem] theorem guardK_ft (a b : Prop) : guardK (some (some false)) true a b = b := by simp [guardK]
@[go_sem] theorem guardK_ff (a b : Prop) : guardK (some (some false)) false a b = a := by simp [guardK]
@[go_sem] theorem pickK_t (a b : AVal) (k : AVal → Prop) : pickK (.bool true) a b k = k a := by simp [pickK]
@[go_sem] theorem pickK_f (a b : AVal) (k : AVal → Prop) : pickK (.bool false) a b k = k b := by simp [pickK]
/-- A choice between two bools. -/
@[go_sem] theorem pickK_or (q r : Bool) (k : AVal → Prop) : pickK (.bool q) (.bool true) (.bool r) k = k (.bool (q || r)) := by cases q <;> simp [pickK]
@[go_sem] theorem pickK_and (q r : Bool) (k : AVal → Prop) : pickK (.bool q) (.bool r) (.bool false) k = k (.bool (q && r)) := by cases q <;> simp [pickK]
end
end Go.Av
