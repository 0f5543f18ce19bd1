/- Contracts that come from elsewhere: of functions that only reckon; the ends of functions that change what is their caller's. -/
import Derived.Test.YtnchpoppgdbapaaGreatDoorJgAv22
import Derived.Laws.Externs
set_option linter.unusedSimpArgs false
set_option linter.unusedVariables false
namespace Go.Av
open Go.RowKit

section
variable {C : Ctx} {B n : Nat} {S : Addr → Prop} {μ : Map} {h : Heap} {w w' : World} {t : Env} {a : Act} {K : AVal → Heap → Prop}

/-- The world has at most grown. -/
theorem Fits.grown (f : Fits C B S μ h w) (b : Below w.heap.size w w') : Fits C B S μ h w' ∧ Step B S μ w S μ w' := by
  have hk : ∀ k, k < w.heap.size → w'.heap[k]? = w.heap[k]? := fun k hk => b.block k hk
  have st : Step B S μ w S μ w' := ⟨fun _ ha => ha, fun a ha => World.cell?_of_block (hk _ (f.lie a ha)), b.mono f.base, MapLe.refl _, fun _ ha => .inl ha⟩
  exact ⟨⟨fun g cs hg => (f.glob g cs hg).mono st, f.len, f.sep, fun p m k h1 e1 => by
    obtain ⟨a1, a2, a3⟩ := f.own p m k h1 e1
    exact ⟨a1, Nat.lt_of_lt_of_le a2 b.size, a3⟩, Nat.le_trans f.base b.size, fun a ha => Nat.lt_of_lt_of_le (f.lie a ha) b.size,
    fun p m k h1 h2 => (f.blk p m k h1 h2).mono st fun q hq => hk q (f.own p m q h1 hq).2.1⟩, st⟩

theorem WP_condT {c : Operand} {x y : Code} {Q : Exit → Env → Heap → Prop} (hc : aev C.G t c = .bool true) (h1 : WP C x Q t h) : WP C (.cond c x y) Q t h := WP_cond hc (fun _ => h1) (fun e => by cases e)
theorem WP_condF {c : Operand} {x y : Code} {Q : Exit → Env → Heap → Prop} (hc : aev C.G t c = .bool false) (h1 : WP C y Q t h) : WP C (.cond c x y) Q t h := WP_cond hc (fun e => by cases e) (fun _ => h1)
theorem rowsK_sl {T len e n : Nat} {idx : List Nat} {xs : List AVal} {k : AVal → Heap → Prop} (he : elmT C.P T = some e) (hn : szOf C.P e = some n) (hz : (zroT C.P e).map (fun z => (z.cells.length, z.cells.all AVal.sto)) = some (n, true))
    (hl : xs.length = len) (h0 : 0 < len) (h1 : 0 < n) (hb : len * n ≤ 16777216) (hi : idx = List.range len) (hx : xs.all (fun x => decide (x.cells.length = n) && x.lies) = true) (hk : k (.sl n xs) h) : rowsK C T len idx xs h k := by
  unfold rowsK
  rw [he, need_eq, hn, need_eq, if_neg (by omega)]
  refine ⟨hl, h0, h1, hb, hi, hz, fun x hm => ?_, .inr hk⟩
  have := List.all_eq_true.1 hx x hm
  simpa using this
theorem rowsK_hs {T len e n : Nat} {idx : List Nat} {xs : List AVal} {k : AVal → Heap → Prop} (he : elmT C.P T = some e) (hn : szOf C.P e = some n) (hz : (zroT C.P e).map (fun z => (z.cells.length, z.cells.all AVal.sto)) = some (n, true))
    (hl : xs.length = len) (h0 : 0 < len) (h1 : 0 < n) (hb : len * n ≤ 16777216) (hi : idx = List.range len) (hx : xs.all (fun x => decide (x.cells.length = n) && x.lies) = true) (hk : k (.hs h.length 0 0 len true) (h ++ [.row e n 0 xs])) : rowsK C T len idx xs h k := by
  unfold rowsK
  rw [he, need_eq, hn, need_eq, if_neg (by omega)]
  refine ⟨hl, h0, h1, hb, hi, hz, fun x hm => ?_, .inl hk⟩
  have := List.all_eq_true.1 hx x hm
  simpa using this
theorem rowsV_sl {T len e n : Nat} {idx : List Nat} {xs : List AVal} {k : AVal → Prop} (he : elmT C.P T = some e) (hn : szOf C.P e = some n) (hz : (zroT C.P e).map (fun z => (z.cells.length, z.cells.all AVal.sto)) = some (n, true))
    (hl : xs.length = len) (h0 : 0 < len) (h1 : 0 < n) (hb : len * n ≤ 16777216) (hi : idx = List.range len) (hx : xs.all (fun x => decide (x.cells.length = n) && x.lies) = true) (hk : k (.sl n xs)) : rowsV C T len idx xs k := by
  unfold rowsV
  rw [he, need_eq, hn, need_eq, if_neg (by omega)]
  refine ⟨hl, h0, h1, hb, hi, hz, fun x hm => ?_, hk⟩
  have := List.all_eq_true.1 hx x hm
  simpa using this

/-- A plain value. -/
def plainV : AVal → Option Value
  | .int k n => some (.int k n)
  | .bool b => some (.bool b)
  | .str s => some (.string ⟨s.toArray⟩)
  | _ => none
def plainL : List AVal → Option (List Value)
  | [] => some []
  | x :: l => match plainV x, plainL l with | some v, some vs => some (v :: vs) | _, _ => none
theorem plainV_rep {x : AVal} {v u : Value} (g : plainV x = some v) (r : Rep w S μ x u) : u = v := by
  unfold plainV at g
  split at g
  · cases g; exact r.int_inv
  · cases g; exact r.bool_inv
  · cases g; exact r.str_inv
  · cases g
theorem plainV_mk {x : AVal} {v : Value} (g : plainV x = some v) : Rep w S μ x v := by
  unfold plainV at g
  split at g
  · cases g; exact .int _ _
  · cases g; exact .bool _
  · cases g; exact .str _
  · cases g
theorem plainL_rep : ∀ {xs : List AVal} {vs us : List Value}, plainL xs = some vs → RepL w S μ xs us → us = vs
  | [], vs, us, g, r => by
    cases g
    have h1 := r.1
    simpa using h1
  | x :: l, vs, us, g, r => by
    unfold plainL at g
    split at g
    · rename_i v vs' h1 h2
      cases g
      obtain ⟨hl, hr⟩ := r
      match us, hl, hr with
      | u :: us, hl, hr =>
        have e1 := plainV_rep h1 (by simpa using hr 0 x rfl)
        have e2 := plainL_rep (us := us) h2 ⟨by simpa using hl, fun i y hi => by simpa using hr (i + 1) y (by simpa using hi)⟩
        rw [e1, e2]
    · cases g
theorem plainL_mk (w : World) (S : Addr → Prop) (μ : Map) : ∀ {xs : List AVal} {vs : List Value}, plainL xs = some vs → RepL w S μ xs vs
  | [], vs, g => by cases g; exact ⟨rfl, fun i x hi => by simp at hi⟩
  | x :: l, vs, g => by
    unfold plainL at g
    split at g
    · rename_i v vs' h1 h2
      cases g
      have ih := plainL_mk w S μ h2
      refine ⟨by simp [ih.1], fun i y hi => ?_⟩
      match i with
      | 0 => simp at hi; subst hi; simpa using plainV_mk h1
      | i + 1 => simpa using ih.2 i y (by simpa using hi)
    · cases g
/-- What a function gives that is told by a contract over plain values. -/
def plainR : AVal → Option Value
  | .tup l => (plainL l).map fun vs => .tuple vs.toArray
  | x => plainV x
theorem plainR_mk {x : AVal} {v : Value} (g : plainR x = some v) : Rep w S μ x v := by
  unfold plainR at g
  split at g
  · obtain ⟨vs, hv, rfl⟩ := Option.map_eq_some_iff.1 g
    have := plainL_mk w S μ hv
    exact .tup _ vs this.1 this.2
  · exact plainV_mk g

theorem Sat.of_calls {f : FuncId} {fn : Func} {args : List AVal} {vs : List Value} {r : AVal} {v : Value} (hf : C.P.funcs[f]? = some fn) (hb : fn.body.isNone = false) (hname : (fn.name == "runtime.NumGoroutine") = false)
    (ha : plainL args = some vs) (hr : plainR r = some v) (hc : ∀ B S μ w, Fits C B S μ h w → Calls C.P f vs.toArray w fun e w' => e = .returned v ∧ Below w.heap.size w w') : Sat C f args h (fun r' h' => r' = r ∧ h' = h) := by
  intro B S μ w us fit rl
  obtain rfl := plainL_rep ha rl
  have e : (callFunc f us.toArray).run C.P w = .ok (.enter f us.toArray) w := by
    have hne : fn.name ≠ "runtime.NumGoroutine" := by simpa using hname
    obtain ⟨c, hbc⟩ : ∃ c, fn.body = some c := by cases hq : fn.body with | none => simp [hq] at hb | some c => exact ⟨c, rfl⟩
    simp [callFunc, hf, hne, hbc]
  rw [e]
  refine (hc B S μ w fit).mono fun e' w' ⟨he, hw⟩ => ⟨v, he, ?_⟩
  obtain ⟨f', st⟩ := fit.grown hw
  exact ⟨r, h, S, μ, ⟨rfl, rfl⟩, st, f', plainR_mk hr⟩

/-- A function without a body, by its entry. -/
theorem Sat.of_extern {f : FuncId} {fn : Func} {ex : Array Value → Sem Value} {args : List AVal} {R : AVal → Heap → Prop} (hf : C.P.funcs[f]? = some fn) (hname : (fn.name == "runtime.NumGoroutine") = false)
    (hb : fn.body.isNone = true) (hn : Extern.findNext fn = none) (he : Extern.find fn = some ex)
    (hc : ∀ B S μ w vs, Fits C B S μ h w → RepL w S μ args vs → ∃ v w', (ex vs.toArray).run C.P w = .ok v w' ∧ OpPost C B S μ w R v w') : Sat C f args h R := by
  intro B S μ w vs fit rl
  obtain ⟨v, w', hr, hp⟩ := hc B S μ w vs fit rl
  rw [run_callFunc_extern hf hname hb hn he]
  simp [Sem.run_bind, hr]
  exact hp

theorem Fin.plainE {h0 h1 j : Heap} {R : AVal → Heap → Prop} {r : AVal} (hh : h1 = h0 ++ j) (hc : Clo h0.length r) (hR : R r h0) : Fin h0 h1 R r := by
  subst hh; exact Fin.plain hc hR
/-- The end of a function that changes its caller's blocks. -/
theorem Fin.keep {h0 h1 j : Heap} {R : AVal → Heap → Prop} {r : AVal} (hl : h1.length = h0.length) (hk : ∀ (p : Nat) (k : Blk), h1[p]? = some k → h0[p]? = some k ∨ CloB h0.length k) (hc : Clo h0.length r) (hR : R r h1) : Fin h0 (h1 ++ j) R r := by
  refine ⟨h0.length, r, Nat.le_refl _, .clo _ hc, fun p k hp h2 => ?_, by rw [List.take_left' hl]; exact hR⟩
  rw [List.getElem?_append_left (by omega)] at h2
  rcases hk p k h2 with h3 | h3
  · exact .inl ⟨hp, h3⟩
  · exact .inr h3
theorem Fin.keep0 {h0 h1 : Heap} {R : AVal → Heap → Prop} {r : AVal} (hl : h1.length = h0.length) (hk : ∀ (p : Nat) (k : Blk), h1[p]? = some k → h0[p]? = some k ∨ CloB h0.length k) (hc : Clo h0.length r) (hR : R r h1) : Fin h0 h1 R r := by
  have := Fin.keep (j := []) hl hk hc hR
  simpa using this
theorem Fin.keepF {h0 h1 j : Heap} {R : AVal → Heap → Prop} {r0 r : AVal} (hl : h1.length = h0.length) (hk : ∀ (p : Nat) (k : Blk), h1[p]? = some k → h0[p]? = some k ∨ CloB h0.length k) (hc : Frz (h1 ++ j) h0.length r0 r) (hR : R r h1) : Fin h0 (h1 ++ j) R r0 := by
  refine ⟨h0.length, r, Nat.le_refl _, hc, fun p k hp h2 => ?_, by rw [List.take_left' hl]; exact hR⟩
  rw [List.getElem?_append_left (by omega)] at h2
  rcases hk p k h2 with h3 | h3
  · exact .inl ⟨hp, h3⟩
  · exact .inr h3
theorem Fin.keepE {h0 h1 h2 j : Heap} {R : AVal → Heap → Prop} {r : AVal} (hh : h2 = h1 ++ j) (hl : h1.length = h0.length) (hk : ∀ (p : Nat) (k : Blk), h1[p]? = some k → h0[p]? = some k ∨ CloB h0.length k) (hc : Clo h0.length r) (hR : R r h1) : Fin h0 h2 R r := by
  subst hh; exact Fin.keep hl hk hc hR
theorem keep_set {h0 : Heap} {p : Nat} {b : Blk} (hb : CloB h0.length b) : ∀ (q : Nat) (k : Blk), (h0.set p b)[q]? = some k → h0[q]? = some k ∨ CloB h0.length k := by
  intro q k hq
  by_cases e : p = q
  · subst e
    rw [List.getElem?_set] at hq
    simp at hq
    obtain ⟨_, rfl⟩ := hq
    exact .inr hb
  · rw [List.getElem?_set_ne e] at hq; exact .inl hq
end
end Go.Av
