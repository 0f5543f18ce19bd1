/- A function does what its body is said to do. -/
import Derived.Test.YtnchpoppgdbapaaGreatDoorJgB
set_option linter.unusedSimpArgs false
set_option linter.unusedVariables false
namespace Go.Av
open Go.RowKit

def resA1 (C : Ctx) (t : Env) (h : Heap) : ResultVar → Option AVal
  | .tmp i => some (t i)
  | .cell a T => match t a with
    | .ad cs => pickT C.P T cs
    | .hp p ver i off => match getRow h p ver with
      | some (_, _, rows) => match rows[i]? with
        | some r => pickT C.P T (r.cells.drop off)
        | none => none
      | none => none
    | _ => none
def resL (C : Ctx) (t : Env) (h : Heap) : List ResultVar → Option (List AVal)
  | [] => some []
  | r :: rest => match resA1 C t h r with
    | some x => match resL C t h rest with
      | some xs => some (x :: xs)
      | none => none
    | none => none
def resA (C : Ctx) (t : Env) (h : Heap) (l : List ResultVar) : Option AVal :=
  match resL C t h l with
  | some [x] => some x
  | some xs => some (.tup xs)
  | none => none

def okRes (n : Nat) : ResultVar → Bool
  | .tmp i => decide (i < n)
  | .cell a _ => decide (a < n)

/-- The end of a function: h0 is the memory when it was called; n: how much of what there is now stays. -/
def Fin (h0 h1 : Heap) (R : AVal → Heap → Prop) (r0 : AVal) : Prop :=
  ∃ n r, h0.length ≤ n ∧ Frz h1 n r0 r ∧ (∀ (p : Nat) (k : Blk), p < n → h1[p]? = some k → (p < h0.length ∧ h0[p]? = some k) ∨ CloB n k) ∧ R r (h1.take n)

def env0 (args : List AVal) : Env := fun i => args.getD i undefA

def resSem (tmps : Array Value) : ResultVar → Sem Value
  | .tmp i => pure (tmps.getD i undef)
  | .cell i T => do loadVar T (← asAddr (tmps.getD i undef))

theorem results_eq (fn : Func) (tmps : Array Value) : results fn tmps = (do
    let vs ← fn.results.mapM (resSem tmps)
    pure (if h : vs.size = 1 then vs[0] else .tuple vs)) := by
  unfold results
  congr 2

section
variable {C : Ctx} {B n : Nat} {S : Addr → Prop} {μ : Map} {h : Heap} {w : World} {t : Env} {a : Act} {K : AVal → Heap → Prop}

theorem run_resA1 (f : Fits C B S μ h w) (r : REnv n w S μ t a) {v : ResultVar} (ho : okRes n v = true) {x : AVal} (g : resA1 C t h v = some x) :
    ∃ u, (resSem a.tmps v).run C.P w = .ok u w ∧ Rep w S μ x u := by
  cases v with
  | tmp i =>
    simp only [resA1, Option.some.injEq] at g
    subst g
    exact ⟨_, rfl, r.2.2 i (by simpa [okRes] using ho)⟩
  | cell i T =>
    have hx := r.2.2 i (by simpa [okRes] using ho)
    simp only [resA1] at g
    split at g
    · rename_i cs hq
      rw [hq] at hx
      generalize hv : a.tmps.getD i undef = v at hx
      obtain ⟨u, hu, hz⟩ := load_ad hx g
      refine ⟨u, ?_, hz⟩
      cases hx
      simp only [Instr.loadAt, Instr.sureAddr, Sem.run_bind, Sem.run_pure, Result.andThen_ok] at hu
      simp only [resSem, hv, asAddr, Sem.run_bind, Sem.run_pure, Result.andThen_ok, hu]
    · rename_i p ver j off hq
      rw [hq] at hx
      generalize hv : a.tmps.getD i undef = v at hx
      split at g
      · rename_i e m rows hg
        split at g
        · rename_i row hrow
          obtain ⟨u, hu, hz⟩ := load_hp f hx hg hrow g
          refine ⟨u, ?_, hz⟩
          obtain ⟨mb, hm, hf⟩ := f.row hg
          obtain ⟨b, hb, rfl⟩ := hx.hp_now hm hf.hver
          simp only [Instr.loadAt, Instr.sureAddr, Sem.run_bind, Sem.run_pure, Result.andThen_ok] at hu
          simp only [resSem, hv, asAddr, Sem.run_bind, Sem.run_pure, Result.andThen_ok, hu]
        · cases g
      · cases g
    · cases g

theorem run_resL (f : Fits C B S μ h w) (r : REnv n w S μ t a) : ∀ (l : List ResultVar), (∀ v ∈ l, okRes n v = true) → ∀ {xs : List AVal}, resL C t h l = some xs →
    ∃ us, (l.mapM (resSem a.tmps)).run C.P w = .ok us w ∧ RepL w S μ xs us
  | [], _, xs, g => by
    simp only [resL, Option.some.injEq] at g
    subst g
    exact ⟨[], rfl, rfl, by simp⟩
  | v :: rest, ho, xs, g => by
    simp only [resL] at g
    split at g
    · rename_i x hx
      split at g
      · rename_i ys hys
        cases g
        obtain ⟨u, hu, hr⟩ := run_resA1 f r (ho v (by simp)) hx
        obtain ⟨us, hus, hrs⟩ := run_resL f r rest (fun q hq => ho q (by simp [hq])) hys
        refine ⟨u :: us, ?_, by simp [hrs.1], fun i c hi => ?_⟩
        · simp only [List.mapM_cons, Sem.run_bind, hu, hus, Result.andThen_ok, Sem.run_pure]
        · match i with
          | 0 => simp at hi; subst hi; simpa using hr
          | i + 1 => simp at hi; simpa using hrs.2 i c hi
      · cases g
    · cases g

theorem run_resA (f : Fits C B S μ h w) (r : REnv n w S μ t a) {fn : Func} (ho : ∀ v ∈ fn.results.toList, okRes n v = true) {x : AVal} (g : resA C t h fn.results.toList = some x) :
    ∃ u, (results fn a.tmps).run C.P w = .ok u w ∧ Rep w S μ x u := by
  have key : ∀ xs us, resL C t h fn.results.toList = some xs → (fn.results.mapM (resSem a.tmps)).run C.P w = .ok us w → RepL w S μ xs us.toList →
      ∃ u, (results fn a.tmps).run C.P w = .ok u w ∧ Rep w S μ x u := by
    intro xs us h1 h2 h3
    unfold resA at g
    rw [h1] at g
    simp only [results_eq, Sem.run_bind, h2, Result.andThen_ok, Sem.run_pure]
    obtain ⟨us⟩ := us
    by_cases hl : us.length = 1
    · obtain ⟨u, rfl⟩ := List.length_eq_one_iff.1 hl
      obtain ⟨y, rfl⟩ := List.length_eq_one_iff.1 (show xs.length = 1 by have := h3.1; simp at this; omega)
      simp only [Option.some.injEq] at g
      subst g
      exact ⟨u, by simp, by simpa using h3.2 0 y rfl⟩
    · have hne : xs.length ≠ 1 := by have := h3.1; simp at this; omega
      have hx : x = .tup xs := by
        match xs, hne with
        | [], _ => simpa using g.symm
        | y :: z :: rest, _ => simpa using g.symm
      subst hx
      refine ⟨.tuple us.toArray, by simp [hl], .tup _ us h3.1 h3.2⟩
  cases hl : resL C t h fn.results.toList with
  | none => unfold resA at g; rw [hl] at g; cases g
  | some xs =>
    obtain ⟨us, h1, h2⟩ := run_resL f r fn.results.toList ho hl
    refine key xs us.toArray hl ?_ (by simpa using h2)
    have e : fn.results = fn.results.toList.toArray := by simp
    rw [e, List.mapM_toArray]
    simp only [Sem.run_map, h1, Result.andThen_ok]

/-- What was made alone is let go. -/
theorem Fits.cut {S0 : Addr → Prop} {μ0 : Map} {h0 : Heap} {w0 : World} (f0 : Fits C B S0 μ0 h0 w0) (st : Step B S0 μ0 w0 S μ w) (f : Fits C B S μ h w) (hn : h0.length ≤ n)
    (hk : ∀ (p : Nat) (k : Blk), p < n → h[p]? = some k → (p < h0.length ∧ h0[p]? = some k) ∨ CloB n k) :
    Fits C B (Let S μ w n) (μ.take n) (h.take n) w ∧ Step B S0 μ0 w0 (Let S μ w n) (μ.take n) w := by
  have hle0 : μ0.length ≤ n := by rw [f0.len]; exact hn
  have map' : MapLe μ0 (μ.take n) := by
    intro p m hm
    have hp := (List.getElem?_eq_some_iff.1 hm).1
    obtain ⟨m', h1, h2, h3⟩ := st.map p m hm
    exact ⟨m', by rw [List.getElem?_take_of_lt (by omega)]; exact h1, h2, h3⟩
  have st' : Step B S0 μ0 w0 (Let S μ w n) (μ.take n) w := ⟨fun a ha => .inl (st.sub a ha), st.keep, st.below, map',
    fun a ha => by
      rcases ha with ha | ⟨q, m', hq, hm', hb, _⟩
      · exact st.new a ha
      · exact .inr (f.own q m' _ hm' hb).1⟩
  refine ⟨⟨fun g cs hg => (f0.glob g cs hg).mono st', by simp [f.len], ?_, ?_, f.base, ?_, ?_⟩, st'⟩
  · intro p q m m' b h1 h2 e1 e2
    exact f.sep p q m m' b (takeGet h1) (takeGet h2) e1 e2
  · intro p m b h1 e1
    have hp : p < n := by have := (List.getElem?_eq_some_iff.1 h1).1; rw [List.length_take] at this; omega
    obtain ⟨a1, a2, a3⟩ := f.own p m b (takeGet h1) e1
    refine ⟨a1, a2, fun a ha => ?_⟩
    rcases ha with ha | ⟨q, m', hq, hm', hb, _⟩
    · exact a3 a ha
    · intro e
      have := f.sep p q m m' b (takeGet h1) hm' e1 (by rw [hb, e])
      omega
  · intro a ha
    rcases ha with ha | ⟨q, m', hq, hm', hb, _⟩
    · exact f.lie a ha
    · exact (f.own q m' _ hm' hb).2.1
  · intro p m k h1 h2
    have hp : p < n := by have := (List.getElem?_eq_some_iff.1 h1).1; rw [List.length_take] at this; omega
    have h1 := takeGet h1
    have h2 := takeGet h2
    have hb := f.blk p m k h1 h2
    cases k with
    | iter s pos => exact hb
    | dead => trivial
    | row e sz ver rows =>
      refine ⟨hb.hver, hb.hsize, hb.pos, hb.lens, hb.sto, ?_⟩
      rcases hb.lies with hl | ⟨b, cur, g1, g2, g3, g4, g5, g6⟩
      · exact .inl hl
      · refine .inr ⟨b, cur, g1, g2, g3, g4, g5, fun i r j c hi hj => ?_⟩
        obtain ⟨x, hx, hr⟩ := g6 i r j c hi hj
        rcases hk p _ hp h2 with ⟨hlt, hold⟩ | hclo
        · -- it is as it was: known by the old map
          have hm0 : p < μ0.length := by rw [f0.len]; exact hlt
          have hb0 : RowFits w0 S0 μ0 _ e sz ver rows := f0.blk p _ _ (List.getElem?_eq_getElem hm0) hold
          rcases hb0.lies with ⟨_, he⟩ | ⟨_, _, _, _, _, _, _, k6⟩
          · subst he; simp at hi
          · obtain ⟨x0, _, hr0⟩ := k6 i r j c hi hj
            exact ⟨x, hx, (hr0.clo.mono hle0).rep hr fun a ha => .inl ha⟩
        · exact ⟨x, hx, ((hclo r (List.mem_of_getElem? hi)).cells c (List.mem_of_getElem? hj)).rep hr fun a ha => .inl ha⟩

/-- The rule of a function: its body, walked. -/
theorem Sat.of_body {f : FuncId} {fn : Func} {c : Code} {args : List AVal} {R : AVal → Heap → Prop} (hf : C.P.funcs[f]? = some fn) (hb : fn.body = some c) (hname : (fn.name == "runtime.NumGoroutine") = false)
    (hok : okCode fn.ntmps c = true) (hres : fn.results.toList.all (okRes fn.ntmps) = true) (hlen : args.length ≤ fn.ntmps)
    (hw : WP C c (fun e t' h' => match e with
      | .normal => need (resA C t' h' fn.results.toList) (Fin h h' R)
      | .ret => need (resA C t' h' fn.results.toList) (Fin h h' R)
      | _ => False) (env0 args) h) : Sat C f args h R := by
  intro B S μ w vs fit rl
  have hcall : (callFunc f vs.toArray).run C.P w = .ok (.enter f vs.toArray) w := by
    have hne : fn.name ≠ "runtime.NumGoroutine" := by simpa using hname
    simp [callFunc, hf, hne, hb]
  rw [hcall]
  show Calls C.P f vs.toArray w _
  refine calls_of_wp hf hb ?_
  have hlv : vs.length ≤ fn.ntmps := by rw [rl.1]; exact hlen
  have renv : REnv fn.ntmps w S μ (env0 args) { tmps := vs.toArray ++ Array.replicate (fn.ntmps - vs.toArray.size) undef, defers := [] } := by
    refine ⟨by simp; omega, rfl, fun i hi => ?_⟩
    unfold env0
    by_cases hlt : i < args.length
    · have hx := List.getElem?_eq_getElem hlt
      have := rl.2 i _ hx
      have hv : i < vs.length := by rw [rl.1]; exact hlt
      have e1 : args.getD i undefA = args[i] := by simp [List.getD, hx]
      have e2 : (vs.toArray ++ Array.replicate (fn.ntmps - vs.toArray.size) undef).getD i undef = vs.getD i undef := by
        simp [Array.getD_eq_getD_getElem?, Array.getElem?_append, hv, List.getD]
      rw [e1]
      simp only [e2]
      exact this
    · have e1 : args.getD i undefA = undefA := by simp [List.getD, List.getElem?_eq_none (show args.length ≤ i by omega)]
      have hv : ¬ i < vs.length := by rw [rl.1]; exact hlt
      have e2 : (vs.toArray ++ Array.replicate (fn.ntmps - vs.toArray.size) undef).getD i undef = undef := by
        simp [Array.getD_eq_getD_getElem?, Array.getElem?_append, hv, Array.getElem?_replicate]
        split <;> rfl
      rw [e1]
      simp only [e2]
      exact undefA_rep _ _ _
  have hres' := List.all_eq_true.1 hres
  refine wp_mono (WP_sound (B := B) (n := fn.ntmps) c hok (Step.refl B S μ w) fit renv hw) fun e a' w' hp => ?_
  obtain ⟨t', h', S', μ', hq, st, fit', renv'⟩ := hp
  have fin : need (resA C t' h' fn.results.toList) (Fin h h' R) → a'.defers = [] ∧ ∃ v, (results fn a'.tmps).run C.P w' = .ok v w' ∧
      ∃ u, Ending.returned v = Ending.returned u ∧ OpPost C B S μ w R u w' := by
    intro hq
    obtain ⟨r0, hr0, n, r, hn, hz, hk, hR⟩ := need_some hq
    obtain ⟨v, hv, hrep⟩ := run_resA fit' renv' hres' hr0
    obtain ⟨fc, sc⟩ := Fits.cut fit st fit' hn hk
    exact ⟨renv'.2.1, v, hv, v, rfl, r, _, _, _, hR, sc, fc, hz.rep fit' hrep⟩
  cases e with
  | normal => exact fin hq
  | ret => exact fin hq
  | _ => exact hq.elim

end
end Go.Av
