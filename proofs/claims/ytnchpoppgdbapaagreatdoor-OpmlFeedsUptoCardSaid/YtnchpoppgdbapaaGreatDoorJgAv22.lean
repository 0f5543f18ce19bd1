/- What holds behind a piece of code may be weakened; slots that it does not write stay. -/
import Derived.Test.YtnchpoppgdbapaaGreatDoorJgAv21
set_option linter.unusedSimpArgs false
set_option linter.unusedVariables false
namespace Go.Av
open Go.RowKit

section
variable {C : Ctx}

def Agr (ms : List Nat) (s t : Env) : Prop := ∀ i, i ∉ ms → s i = t i
theorem Agr.refl (ms : List Nat) (t : Env) : Agr ms t t := fun _ _ => rfl
theorem Agr.put {ms : List Nat} {s t : Env} {d : Option Nat} {v : AVal} (g : Agr ms s t) (hd : ∀ x, d = some x → x ∈ ms) : Agr ms (put s d v) t := by
  intro i hi
  cases d with
  | none => exact g i hi
  | some x =>
    have : i ≠ x := fun e => hi (e ▸ hd x rfl)
    simp only [Av.put, upd]; rw [if_neg this]; exact g i hi

theorem wpOperV_mono {ops : Array Oper} {o : Oper} {t : Env} {h : Heap} {K K' : AVal → Heap → Prop} (g : wpOperV C ops o t h K) (k : ∀ v h', K v h' → K' v h') : wpOperV C ops o t h K' := by
  unfold wpOperV at *
  split at g
  · exact wpOp_mono k g
  · split at g
    · exact ⟨fun e => wpOp_mono k (g.1 e), fun e => k _ _ (g.2 e)⟩
    · exact g.elim

theorem WPl_frame {ops : Array Oper} {ms : List Nat} {t0 : Env} {Q Q' : Exit → Env → Heap → Prop} (k : ∀ e t h, Q e t h → Agr ms t t0 → Q' e t h) :
    ∀ (l : List Oper) (t : Env) (h : Heap), (∀ x ∈ wrOps l, x ∈ ms) → Agr ms t t0 → WPl C ops Q l t h → WPl C ops Q' l t h
  | [], t, h, _, a, g => k _ _ _ g a
  | o :: rest, t, h, hm, a, g => by
    unfold WPl at g ⊢
    rw [wpOper_V] at g ⊢
    refine wpOperV_mono g fun v h' g' => WPl_frame k rest _ h' (fun x hx => hm x ?_) (a.put fun x hx => hm x ?_) g'
    · unfold wrOps; split <;> simp [hx]
    · unfold wrOps; simp [hx]

theorem mem_wrOps {o : Oper} {x : Nat} (hx : o.dst = some x) : ∀ (l : List Oper), o ∈ l → x ∈ wrOps l
  | o' :: rest, hm => by
    unfold wrOps
    rcases List.mem_cons.1 hm with rfl | hm
    · rw [hx]; simp
    · split <;> simp [mem_wrOps hx rest hm]

theorem WPix_frame {ops : Array Oper} {ms : List Nat} {t0 : Env} {Q Q' : Exit → Env → Heap → Prop} (k : ∀ e t h, Q e t h → Agr ms t t0 → Q' e t h) (hm : ∀ x ∈ wrOps ops.toList, x ∈ ms) :
    ∀ (l : List Nat) (t : Env) (h : Heap), Agr ms t t0 → WPix C ops Q l t h → WPix C ops Q' l t h
  | [], t, h, a, g => k _ _ _ g a
  | i :: rest, t, h, a, g => by
    unfold WPix at g ⊢
    cases hi : ops[i]? with
    | none => rw [hi] at g; exact WPix_frame k hm rest t h a g
    | some o =>
      rw [hi] at g
      simp only [] at g ⊢
      rw [wpOper_V] at g ⊢
      exact wpOperV_mono g fun v h' g' => WPix_frame k hm rest _ h' (a.put fun x hx => hm x (mem_wrOps hx _ (by simpa using Array.mem_of_getElem? hi))) g'

theorem WP_frame {ms : List Nat} {t0 : Env} : ∀ (c : Code) {Q Q' : Exit → Env → Heap → Prop}, (∀ e t h, Q e t h → Agr ms t t0 → Q' e t h) →
    ∀ (t : Env) (h : Heap), (∀ x ∈ wr c, x ∈ ms) → Agr ms t t0 → WP C c Q t h → WP C c Q' t h := by
  intro c
  induction c with
  | skip => intro Q Q' k t h _ a g; exact k _ _ _ g a
  | label l => intro Q Q' k t h _ a g; exact k _ _ _ g a
  | exit id => intro Q Q' k t h _ a g; exact k _ _ _ g a
  | ret => intro Q Q' k t h _ a g; exact k _ _ _ g a
  | region id ops draw =>
    intro Q Q' k t h hm a g
    cases draw with
    | false => exact WPl_frame k _ t h hm a g
    | true => exact fun tp => WPix_frame k hm _ t h a (g tp)
  | seq x y ihx ihy =>
    intro Q Q' k t h hm a g
    refine ihx (Q := thenQ (fun t h => Wkn C (wr x) t h fun t h => WP C y Q t h) Q) (fun e t' h' g' a' => ?_) t h (fun i hi => hm i (by simp [wr, hi])) a g
    cases e with
    | normal =>
      obtain ⟨t1, h1, hw, g'⟩ := g'
      exact ⟨t1, h1, hw, ihy k t1 h1 (fun i hi => hm i (by simp [wr, hi])) (fun i hi => (hw.1 i fun e => hi (hm i (by simp [wr, e]))).trans (a' i hi)) g'⟩
    | _ => exact k _ _ _ g' a'
  | cond c x y ihx ihy =>
    intro Q Q' k t h hm a g
    simp only [WP] at g ⊢
    split at g
    · exact ⟨fun e => ihx k t h (fun i hi => hm i (by simp [wr, hi])) a (g.1 e), fun e => ihy k t h (fun i hi => hm i (by simp [wr, hi])) a (g.2 e)⟩
    · exact g.elim
  | block id x ih =>
    intro Q Q' k t h hm a g
    refine ih (Q := blockQ id Q) (fun e t' h' g' a' => ?_) t h hm a g
    cases e with
    | exit id' =>
      simp only [blockQ] at g' ⊢
      split at g'
      · rename_i e; rw [if_pos e]; exact k _ _ _ g' a'
      · rename_i e; rw [if_neg e]; exact k _ _ _ g' a'
    | _ => exact k _ _ _ g' a'
  | loop x ih =>
    intro Q Q' k t h hm a g
    obtain ⟨I, n, ⟨t1, h1, hw, h0⟩, round⟩ := g
    have wk : ∀ t h t1 h1, Weak C (wr x) t h t1 h1 → Agr ms t t0 → Agr ms t1 t0 := fun t h t1 h1 hw a i hi => (hw.1 i fun e => hi (hm i e)).trans (a i hi)
    refine ⟨fun n t h => I n t h ∧ Agr ms t t0, n, ⟨t1, h1, hw, h0, wk _ _ _ _ hw a⟩, fun n' t' h' hI => ?_⟩
    refine ih (Q := thenQ (fun t2 h2 => ∃ m, m < n' ∧ Wkn C (wr x) t2 h2 (I m)) Q) (fun e t2 h2 g' a' => ?_) t' h' hm hI.2 (round n' t' h' hI.1)
    cases e with
    | normal => obtain ⟨m, h1, t3, h3, hw3, h2⟩ := g'; exact ⟨m, h1, t3, h3, hw3, h2, wk _ _ _ _ hw3 a'⟩
    | _ => exact k _ _ _ g' a'
  | rangeFunc f ps as b _ _ => intro Q Q' k t h _ a g; exact g.elim
  | scope x ih =>
    intro Q Q' k t h hm a g
    refine ih (Q := noG Q) (fun e t' h' g' a' => ?_) t h hm a g
    cases e with
    | goto l => exact g'.elim
    | _ => exact k _ _ _ g' a'
  | goto l => intro Q Q' k t h _ a g; exact g.elim
  | refuse s => intro Q Q' k t h _ a g; exact g.elim

/-- Slots of s where they are among ms, of t elsewhere. -/
def mix : List Nat → Env → Env → Env
  | [], _, t => t
  | a :: ms, s, t => upd (mix ms s t) a (s a)
@[go_sem] theorem mix_nil (s t : Env) (i : Nat) : mix [] s t i = t i := (rfl)
@[go_sem] theorem mix_cons (a : Nat) (ms : List Nat) (s t : Env) (i : Nat) : mix (a :: ms) s t i = if i = a then s a else mix ms s t i := (rfl)
theorem mix_in {ms : List Nat} {s t : Env} {i : Nat} (h : i ∈ ms) : mix ms s t i = s i := by
  induction ms with
  | nil => cases h
  | cons a ms ih =>
    rw [mix_cons]; split
    · rename_i e; rw [e]
    · rename_i e; rcases List.mem_cons.1 h with h | h
      · exact absurd h e
      · exact ih h
theorem mix_out {ms : List Nat} {s t : Env} {i : Nat} (h : i ∉ ms) : mix ms s t i = t i := by
  induction ms with
  | nil => rfl
  | cons a ms ih =>
    rw [mix_cons]; simp only [List.mem_cons, not_or] at h
    rw [if_neg h.1]; exact ih h.2
theorem Agr.mix {ms : List Nat} {s t : Env} (g : Agr ms s t) : s = mix ms s t := by
  funext i
  by_cases h : i ∈ ms
  · rw [mix_in h]
  · rw [mix_out h]; exact g i h

/-- A loop: only what its body writes may be another in the next round. -/
theorem WP_loopm {c : Code} {ms : List Nat} {Q : Exit → Env → Heap → Prop} {t : Env} {h : Heap} (hms : wr c = ms) (I : Nat → Env → Heap → Prop) (n : Nat) (h0 : Wkn C ms t h (I n))
    (round : ∀ (n' : Nat) (s : Env) (h' : Heap), I n' (mix ms s t) h' → ∀ K : Env → Heap → Prop, (∀ m t2 h2, Wkn C ms t2 h2 (I m) → m < n' → K t2 h2) → WP C c (thenQ K Q) (mix ms s t) h') : WP C (.loop c) Q t h := by
  subst hms
  obtain ⟨t1, h1, hw, h0⟩ := h0
  refine ⟨fun n t' h' => I n t' h' ∧ Agr (wr c) t' t, n, ⟨t1, h1, hw, h0, hw.1⟩, fun n' t' h' hI => ?_⟩
  obtain ⟨hI, ha⟩ := hI
  have e := ha.mix
  have h1 := round n' t' h' (by rw [← e]; exact hI) (fun t2 h2 => ∃ m, m < n' ∧ Wkn C (wr c) t2 h2 (I m)) (fun m t2 h2 hm hi => ⟨m, hi, hm⟩)
  rw [← e] at h1
  refine WP_frame (ms := wr c) (t0 := t) c (fun e t2 h2 g' a' => ?_) t' h' (fun x hx => hx) ha h1
  cases e with
  | normal => obtain ⟨m, hm, t3, h3, hw3, hi⟩ := g'; exact ⟨m, hm, t3, h3, hw3, hi, fun i hi => (hw3.1 i hi).trans (a' i hi)⟩
  | _ => exact g'
attribute [go_sem] wr wrOps

/-! How a state is read anew. -/
theorem Weak.trans {ms : List Nat} {t t1 t2 : Env} {h h1 h2 : Heap} (a : Weak C ms t h t1 h1) (b : Weak C ms t1 h1 t2 h2) : Weak C ms t h t2 h2 :=
  ⟨fun i hi => (b.1 i hi).trans (a.1 i hi), fun B n S μ w ac f r => by
    obtain ⟨S1, μ1, st1, f1, r1⟩ := a.2 B n S μ w ac f r
    obtain ⟨S2, μ2, st2, f2, r2⟩ := b.2 B n S1 μ1 w ac f1 r1
    exact ⟨S2, μ2, st1.trans st2, f2, r2⟩⟩

theorem rep_virt {w : World} {S : Addr → Prop} {μ : Map} {m : MB} (hm : m.blk = none) (hv : m.ver = 0) : Rep w S (μ ++ [m]) (.hs μ.length 0 0 0 true) (.slice none 0 0) :=
  .hs _ _ _ _ _ m _ (by simp) (by omega) (by intro cs h; cases h) rfl fun _ => .inl ⟨hm, rfl, rfl, rfl⟩

theorem fits_virt {S : Addr → Prop} {μ : Map} {w : World} {B : Nat} {h : Heap} (f : Fits C B S μ h w) (e n : Nat) (hn : 0 < n) :
    Fits C B S (μ ++ [⟨none, 0, n, 0⟩]) (h ++ [.row e n 0 []]) w ∧ Step B S μ w S (μ ++ [⟨none, 0, n, 0⟩]) w :=
  f.virtual ⟨none, 0, n, 0⟩ (.row e n 0 []) rfl ⟨rfl, rfl, hn, fun i r hi => by simp at hi, fun i r j c hi => by simp at hi, .inl ⟨rfl, rfl⟩⟩

/-- A nil slice in a slot, as a list of the call's own that has nothing yet. -/
theorem Weak.virt {ms : List Nat} {t : Env} {h : Heap} (i e n : Nat) (hi : i ∈ ms) (hn : 0 < n) (ht : t i = .nil (.slice none 0 0)) :
    Weak C ms t h (upd t i (.hs h.length 0 0 0 true)) (h ++ [.row e n 0 []]) := by
  refine ⟨fun j hj => by simp only [upd]; rw [if_neg]; intro e; subst e; exact hj hi, fun B k S μ w a f r => ?_⟩
  obtain ⟨f', st⟩ := fits_virt f e n hn
  refine ⟨S, _, st, f', r.1, r.2.1, fun j hj => ?_⟩
  have hr := r.2.2 j hj
  simp only [upd]
  split
  · rename_i e; subst e
    rw [ht] at hr
    generalize a.tmps.getD j undef = v at hr
    cases hr
    rw [← f.len]; exact rep_virt rfl rfl
  · exact hr.mono st

/-- A row's element, known otherwise. -/
def WkR (r s : AVal) : Prop := r.cells.length = s.cells.length ∧ ∀ (j : Nat) (c d : AVal), r.cells[j]? = some c → s.cells[j]? = some d → Wk c d ∧ (c.sto = true → d.sto = true)
theorem WkR.refl (r : AVal) : WkR r r := ⟨rfl, fun j c d h1 h2 => by rw [h1] at h2; cases h2; exact ⟨Wk.refl _, id⟩⟩
theorem Weak.rows {ms : List Nat} {t : Env} {h : Heap} {p v e m : Nat} {rows : List AVal} (rows' : List AVal) (hg : getRow h p v = some (e, m, rows)) (hl : rows.length = rows'.length)
    (hw : ∀ (i : Nat) (r s : AVal), rows[i]? = some r → rows'[i]? = some s → WkR r s) : Weak C ms t h t (h.set p (.row e m v rows')) := by
  refine ⟨fun _ _ => rfl, fun B k S μ w a f r => ?_⟩
  have hh := getRow_some hg
  obtain ⟨mb, hm, rf⟩ := f.row hg
  have hset : List.set μ p mb = μ := by
    obtain ⟨hlt, he⟩ := List.getElem?_eq_some_iff.1 hm
    rw [← he, List.set_getElem_self]
  have at_ : ∀ (i : Nat) (s : AVal), rows'[i]? = some s → ∃ r, rows[i]? = some r ∧ WkR r s := by
    intro i s hi
    have hlt := (List.getElem?_eq_some_iff.1 hi).1
    exact ⟨_, List.getElem?_eq_getElem (by omega), hw i _ s (List.getElem?_eq_getElem (by omega)) hi⟩
  have cat : ∀ (r s : AVal) (j : Nat) (d : AVal), WkR r s → s.cells[j]? = some d → ∃ c, r.cells[j]? = some c ∧ Wk c d ∧ (c.sto = true → d.sto = true) := by
    intro r s j d hw hj
    have hlt := (List.getElem?_eq_some_iff.1 hj).1
    have hc := List.getElem?_eq_getElem (show j < r.cells.length by rw [hw.1]; exact hlt)
    exact ⟨_, hc, hw.2 j _ d hc hj⟩
  have key : BlkFits w S (List.set μ p mb) mb (.row e m v rows') := by
    rw [hset]
    refine ⟨rf.hver, rf.hsize, rf.pos, fun i s hi => ?_, fun i s j d hi hj => ?_, ?_⟩
    · obtain ⟨r, h0, h1⟩ := at_ i s hi
      rw [← h1.1]; exact rf.lens i r h0
    · obtain ⟨r, h0, h1⟩ := at_ i s hi
      obtain ⟨c, h2, _, h4⟩ := cat r s j d h1 hj
      exact h4 (rf.sto i r j c h0 h2)
    · rcases rf.lies with ⟨h1, h2⟩ | ⟨b, cur, h1, h2, h3, h4, h5, h6⟩
      · subst h2
        have : rows' = [] := List.length_eq_zero_iff.1 (by simpa using hl.symm)
        exact .inl ⟨h1, this⟩
      · refine .inr ⟨b, cur, h1, h2, h3, by omega, h5, fun i s j d hi hj => ?_⟩
        obtain ⟨r, h0, h7⟩ := at_ i s hi
        obtain ⟨c, h8, h9, _⟩ := cat r s j d h7 hj
        obtain ⟨x, hx, hr⟩ := h6 i r j c h0 h8
        exact ⟨x, hx, h9 w S μ x hr⟩
  obtain ⟨f2, st2⟩ := f.update (m' := mb) (k' := .row e m v rows') hm (Only.refl w _) (Nat.le_refl _) (fun _ => rfl) (.inl rfl) key
  exact ⟨S, _, st2, f2, r.mono st2⟩
theorem Weak.rowsLast {ms : List Nat} {t : Env} {h : Heap} {p v e m : Nat} {pre : List AVal} {r : AVal} (s : AVal) (hg : getRow h p v = some (e, m, pre ++ [r])) (hw : WkR r s) : Weak C ms t h t (h.set p (.row e m v (pre ++ [s]))) := by
  refine Weak.rows _ hg (by simp) fun i x y hx hy => ?_
  rcases Nat.lt_trichotomy i pre.length with h1 | h1 | h1
  · rw [List.getElem?_append_left h1] at hx hy
    rw [hx] at hy; cases hy; exact WkR.refl _
  · subst h1
    simp at hx hy; subst hx; subst hy; exact hw
  · rw [List.getElem?_append_right (by omega)] at hx
    rw [List.getElem?_eq_none (by simp; omega)] at hx; cases hx

theorem cells_ofCells {r : AVal} {cs : List AVal} (hl : cs.length = r.cells.length) (hx : cs.length ≠ 1 ∨ (∃ a, r = .agg a) ∨ ∀ c ∈ cs, ∀ a, c ≠ .agg a) : (ofCells r cs).cells = cs := by
  unfold ofCells
  split
  · rfl
  · rename_i hr
    have h1 : r.cells.length = 1 := by cases r <;> first | rfl | (exact absurd rfl (hr _))
    rw [h1] at hl
    match cs, hl, hx with
    | [x], _, hx =>
      rcases hx with hx | ⟨a, hx⟩ | hx
      · simp at hx
      · exact absurd hx (hr a)
      · have := hx x (by simp)
        cases x <;> first | rfl | exact absurd rfl (this _)

/-- Nil slices in cells of a block of the call's own, as a list that has nothing yet (one cell at the most). -/
theorem Weak.virtRows {ms : List Nat} {t : Env} {h : Heap} {p v e m : Nat} {rows : List AVal} (rows' : List AVal) (e' n' : Nat) (hn : 0 < n') (hg : getRow h p v = some (e, m, rows)) (hl : rows'.length = rows.length)
    (at_ : ∀ (i : Nat) (r' : AVal), rows'[i]? = some r' → ∃ r0, rows[i]? = some r0 ∧ r'.cells.length = r0.cells.length ∧
        ∀ (q : Nat) (c : AVal), r'.cells[q]? = some c → (r0.cells[q]? = some c) ∨ (c = .hs h.length 0 0 0 true ∧ r0.cells[q]? = some (.nil (.slice none 0 0)))) :
    Weak C ms t h t (h.set p (.row e m v rows') ++ [.row e' n' 0 []]) := by
  refine ⟨fun _ _ => rfl, fun B k S μ w a f r => ?_⟩
  obtain ⟨f1, st1⟩ := fits_virt f e' n' hn
  have hh := getRow_some hg
  have hp := (List.getElem?_eq_some_iff.1 hh).1
  have hg1 : getRow (h ++ [.row e' n' 0 []]) p v = some (e, m, rows) := getRow_old hg
  obtain ⟨mb, hm, rf⟩ := f1.row hg1
  have key : BlkFits w S (List.set (μ ++ [(⟨none, 0, n', 0⟩ : MB)]) p mb) mb (.row e m v rows') := by
    have hset : List.set (μ ++ [(⟨none, 0, n', 0⟩ : MB)]) p mb = μ ++ [(⟨none, 0, n', 0⟩ : MB)] := by
      obtain ⟨hlt, he⟩ := List.getElem?_eq_some_iff.1 hm
      rw [← he, List.set_getElem_self]
    rw [hset]
    refine ⟨rf.hver, rf.hsize, rf.pos, fun i r' hi => ?_, fun i r' q c hi hc => ?_, ?_⟩
    · obtain ⟨r0, h0, h1, _⟩ := at_ i r' hi
      rw [h1]; exact rf.lens i r0 h0
    · obtain ⟨r0, h0, _, h2⟩ := at_ i r' hi
      rcases h2 q c hc with h3 | ⟨rfl, h3⟩
      · exact rf.sto i r0 q c h0 h3
      · rfl
    · rcases rf.lies with ⟨h1, h2⟩ | ⟨b, cur, h1, h2, h3, h4, h5, h6⟩
      · subst h2
        exact .inl ⟨h1, List.length_eq_zero_iff.1 (by simpa using hl)⟩
      · refine .inr ⟨b, cur, h1, h2, h3, by omega, h5, fun i r' q c hi hc => ?_⟩
        obtain ⟨r0, h0, _, h7⟩ := at_ i r' hi
        rcases h7 q c hc with h8 | ⟨rfl, h8⟩
        · exact h6 i r0 q c h0 h8
        · obtain ⟨x, hx, hr⟩ := h6 i r0 q _ h0 h8
          refine ⟨x, hx, ?_⟩
          cases hr
          rw [← f.len]; exact rep_virt rfl rfl
  obtain ⟨f2, st2⟩ := f1.update (m' := mb) (k' := .row e m v rows') hm (Only.refl w _) (Nat.le_refl _) (fun _ => rfl) (.inl rfl) key
  rw [List.set_append_left _ _ hp] at f2
  exact ⟨S, _, st1.trans st2, f2, r.mono (st1.trans st2)⟩
theorem Weak.virtCell {ms : List Nat} {t : Env} {h : Heap} {p v e m : Nat} {cs : List AVal} (e' n' : Nat) (hn : 0 < n') (hg : getRow h p v = some (e, m, [.agg cs])) (j : Nat) (hj : cs[j]? = some (.nil (.slice none 0 0))) :
    Weak C ms t h t (h.set p (.row e m v [.agg (cs.set j (.hs h.length 0 0 0 true))]) ++ [.row e' n' 0 []]) := by
  refine Weak.virtRows _ e' n' hn hg rfl fun i r' hi => ?_
  match i with
  | 0 =>
    simp only [List.getElem?_cons_zero, Option.some.injEq] at hi
    subst hi
    refine ⟨_, rfl, by simp [AVal.cells], fun q c hc => ?_⟩
    simp only [AVal.cells] at hc ⊢
    by_cases hq : j = q
    · subst hq
      rw [List.getElem?_set_self (List.getElem?_eq_some_iff.1 hj).1] at hc
      cases hc; exact .inr ⟨rfl, hj⟩
    · rw [List.getElem?_set_ne hq] at hc; exact .inl hc
  | i + 1 => simp at hi
theorem Weak.virtCell1 {ms : List Nat} {t : Env} {h : Heap} {p v e m : Nat} (e' n' : Nat) (hn : 0 < n') (hg : getRow h p v = some (e, m, [.nil (.slice none 0 0)])) :
    Weak C ms t h t (h.set p (.row e m v [.hs h.length 0 0 0 true]) ++ [.row e' n' 0 []]) := by
  refine Weak.virtRows _ e' n' hn hg rfl fun i r' hi => ?_
  match i with
  | 0 =>
    simp only [List.getElem?_cons_zero, Option.some.injEq] at hi
    subst hi
    refine ⟨_, rfl, rfl, fun q c hc => ?_⟩
    match q with
    | 0 => simp [AVal.cells] at hc; subst hc; exact .inr ⟨rfl, rfl⟩
    | q + 1 => simp [AVal.cells] at hc
  | i + 1 => simp at hi
end
end Go.Av
