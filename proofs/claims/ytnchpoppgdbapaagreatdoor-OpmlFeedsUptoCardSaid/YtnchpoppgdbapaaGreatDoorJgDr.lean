/- A region that draws its order: a beginning of pure operations in any order, then what comes in one order alone (not always the text's). -/
import Derived.Test.YtnchpoppgdbapaaGreatDoorJgAv23
set_option linter.unusedSimpArgs false
set_option linter.unusedVariables false
namespace Go.Av
open Go.RowKit

/-- May the beginning of k operations come in any order, ahead of all others? -/
def preOk (ops : Array Oper) (k : Nat) : Bool :=
  let b := Region.before ops
  (List.range ops.size).all fun j => match ops[j]? with
    | none => true
    | some oj => if j < k then
        (oj.after.all fun e => decide (e.on < j)) && (List.range j).all fun i => match ops[i]? with
        | none => true
        | some oi =>
          (!(b.getD j 0).testBit i || oj.after.any fun e => Region.binds .any e && (e.on == i || (decide (i < e.on) && (b.getD e.on 0).testBit i))) &&
          (((b.getD j 0).testBit i || oi.apart ops oj) && (oi.dst.isNone || oi.dst != oj.dst))
      else (List.range k).all fun i => oj.after.any fun e => Region.binds .any e && (e.on == i || (decide (e.on < k) && decide (i < e.on) && (b.getD e.on 0).testBit i))

structure PreOk (ops : Array Oper) (k : Nat) (c : Nat → Nat → Bool) : Prop where
  less : ∀ (j : Nat) (oj : Oper), ops[j]? = some oj → j < k → ∀ e ∈ oj.after, e.on < j
  cert : ∀ (i j : Nat) (oj : Oper), ops[j]? = some oj → j < k → i < j → c i j = true → ∃ e ∈ oj.after, Region.binds .any e = true ∧ (e.on = i ∨ (i < e.on ∧ c i e.on = true))
  sfx : ∀ (i j : Nat) (oj : Oper), ops[j]? = some oj → i < k → k ≤ j → ∃ e ∈ oj.after, Region.binds .any e = true ∧ (e.on = i ∨ (e.on < k ∧ i < e.on ∧ c i e.on = true))
  pre : ∀ (i j : Nat) (oi oj : Oper), ops[i]? = some oi → ops[j]? = some oj → i < j → j < k → (c i j = true ∨ oi.apart ops oj = true) ∧ (∀ d, oi.dst = some d → oj.dst ≠ some d)

theorem preOk_spec {ops : Array Oper} {k : Nat} (hk : preOk ops k = true) : PreOk ops k fun i j => ((Region.before ops).getD j 0).testBit i := by
  unfold preOk at hk
  simp only [List.all_eq_true, List.mem_range] at hk
  have at_ : ∀ (j : Nat) (oj : Oper), ops[j]? = some oj → _ := fun j oj hj => by
    have := hk j (Array.getElem?_eq_some_iff.1 hj).1
    rw [hj] at this
    exact this
  have some_i : ∀ (i j : Nat) (oj : Oper), ops[j]? = some oj → i < j → ∃ oi, ops[i]? = some oi := fun i j oj hj hij => by
    have := (Array.getElem?_eq_some_iff.1 hj).1
    exact ⟨_, Array.getElem?_eq_getElem (show i < ops.size by omega)⟩
  have key : ∀ (j : Nat) (oj : Oper), ops[j]? = some oj → j < k → (oj.after.all fun e => decide (e.on < j)) = true ∧ ∀ (i : Nat) (oi : Oper), ops[i]? = some oi → i < j →
      ((!((Region.before ops).getD j 0).testBit i || oj.after.any fun e => Region.binds .any e && (e.on == i || (decide (i < e.on) && ((Region.before ops).getD e.on 0).testBit i))) &&
        ((((Region.before ops).getD j 0).testBit i || oi.apart ops oj) && (oi.dst.isNone || oi.dst != oj.dst))) = true := by
    intro j oj hj hjk
    have := at_ j oj hj
    simp only [if_pos hjk, Bool.and_eq_true, List.all_eq_true, List.mem_range] at this
    refine ⟨this.1, fun i oi hi hij => ?_⟩
    have := this.2 i hij
    rw [hi] at this
    simpa only [Bool.and_eq_true] using this
  refine ⟨fun j oj hj hjk e he => ?_, fun i j oj hj hjk hij hc => ?_, fun i j oj hj hik hkj => ?_, fun i j oi oj hi hj hij hjk => ?_⟩
  · have := (key j oj hj hjk).1
    rw [Array.all_eq_true_iff_forall_mem] at this
    simpa using this e he
  · obtain ⟨oi, hi⟩ := some_i i j oj hj hij
    have := (key j oj hj hjk).2 i oi hi hij
    simp only [Bool.and_eq_true, Bool.or_eq_true, Bool.not_eq_true'] at this
    rcases this.1 with h1 | h1
    · rw [hc] at h1; cases h1
    · obtain ⟨e, he, h2⟩ := Array.any_eq_true'.1 h1
      simp only [Bool.and_eq_true, Bool.or_eq_true, beq_iff_eq, decide_eq_true_eq] at h2
      exact ⟨e, he, h2.1, h2.2⟩
  · have := at_ j oj hj
    simp only [if_neg (show ¬ j < k by omega), List.all_eq_true, List.mem_range] at this
    obtain ⟨e, he, h2⟩ := Array.any_eq_true'.1 (this i hik)
    simp only [Bool.and_eq_true, Bool.or_eq_true, beq_iff_eq, decide_eq_true_eq] at h2
    exact ⟨e, he, h2.1, h2.2.imp id fun q => ⟨q.1.1, q.1.2, q.2⟩⟩
  · have := (key j oj hj hjk).2 i oi hi hij
    simp only [Bool.and_eq_true, Bool.or_eq_true] at this
    refine ⟨this.2.1, fun d hd e => ?_⟩
    rcases this.2.2 with h1 | h1
    · rw [hd] at h1; cases h1
    · rw [hd, e] at h1; simp at h1

theorem PreOk.bef {ops : Array Oper} {L : Array Bool} {k : Nat} {c : Nat → Nat → Bool} (D : PreOk ops k c) (cl : Closed ops L) :
    ∀ (j : Nat) (oj : Oper), ops[j]? = some oj → j < k → ∀ i, i < j → c i j = true → (∀ e ∈ oj.after, Region.binds .any e = true → L.getD e.on false = true) → L.getD i false = true := by
  intro j
  induction j using Nat.strongRecOn with
  | ind j ih =>
    intro oj hj hjk i hij hc hl
    obtain ⟨e, he, hb, h1⟩ := D.cert i j oj hj hjk hij hc
    have h2 := hl e he hb
    rcases h1 with rfl | h1
    · exact h2
    · have h3 := D.less j oj hj hjk e he
      have hsz := (Array.getElem?_eq_some_iff.1 hj).1
      have hoe : ops[e.on]? = some ops[e.on] := Array.getElem?_eq_getElem (by omega)
      exact ih e.on h3 _ hoe (by omega) i h1.1 h1.2 fun e' he' hb' => cl e.on _ hoe h2 e' he' hb'

/-- As far as the beginning goes it is a region that may be drawn whole. -/
theorem PreOk.ag_put {ops : Array Oper} {k : Nat} {c : Nat → Nat → Bool} (D : PreOk ops k c) {V : Nat → AVal} {t s : Env} {p p' : Nat → Bool} (g : Ag ops k V t p s) {i : Nat} {o : Oper} (hi : ops[i]? = some o) (hk : i < k)
    (hp : ∀ j, j < k → p' j = (p j || j == i)) : Ag ops k V t p' (put s o.dst (V i)) := by
  have uniq : ∀ (j : Nat) (oj : Oper) (x : Nat), j < k → ops[j]? = some oj → oj.dst = some x → o.dst = some x → j = i := fun j oj x hj hoj h1 h2 => by
    rcases Nat.lt_trichotomy j i with h3 | h3 | h3
    · exact absurd h2 ((D.pre j i oj o hoj hi h3 hk).2 x h1)
    · exact h3
    · exact absurd h1 ((D.pre i j o oj hi hoj h3 hj).2 x h2)
  refine ⟨fun j oj x hj hoj hpj hd => ?_, fun x hn => ?_⟩
  · by_cases hji : j = i
    · subst hji
      rw [hoj] at hi; cases hi
      simp [Av.put, hd, upd]
    · have : o.dst ≠ some x := fun e => hji (uniq j oj x hj hoj hd e)
      have hs : (Av.put s o.dst (V i)) x = s x := by
        cases hdo : o.dst with
        | none => rfl
        | some d => simp only [Av.put, upd]; rw [if_neg]; intro e; subst e; exact this hdo
      rw [hs]
      exact g.1 j oj x hj hoj (by have := hp j hj; rw [hpj] at this; simpa [hji] using this.symm) hd
  · have : o.dst ≠ some x := hn i o hk hi (by rw [hp i hk]; simp)
    have hs : (Av.put s o.dst (V i)) x = s x := by
      cases hdo : o.dst with
      | none => rfl
      | some d => simp only [Av.put, upd]; rw [if_neg]; intro e; subst e; exact this hdo
    rw [hs]
    exact g.2 x fun j oj hj hoj hpj => hn j oj hj hoj (by rw [hp j hj, hpj]; rfl)

theorem PreOk.ag_T {ops : Array Oper} {k : Nat} {c : Nat → Nat → Bool} (D : PreOk ops k c) (V : Nat → AVal) (t : Env) (hkn : k ≤ ops.size) : ∀ i, i ≤ k → Ag ops k V t (fun j => decide (j < i)) (Av.T V (ops.toList.take k) t i)
  | 0, _ => by rw [T_zero]; exact Ag.start ops k V t fun j _ => by simp
  | i + 1, hi => by
    have ih := PreOk.ag_T D V t hkn i (by omega)
    have ho : ops[i]? = some (ops[i]'(by omega)) := Array.getElem?_eq_getElem _
    have ho2 : (ops.toList.take k)[i]? = some (ops[i]'(by omega)) := by rw [List.getElem?_take, if_pos (by omega)]; simp
    rw [T_succ V _ t i _ ho2]
    refine D.ag_put ih ho (by omega) fun j hj => ?_
    by_cases h1 : j < i
    · have h2 : j < i + 1 := by omega
      simp [h1, h2]
    · by_cases h2 : j = i
      · subst h2; simp
      · have h3 : ¬ j < i + 1 := by omega
        have h4 : (j == i) = false := by simpa using h2
        simp [h1, h3, h4]

theorem PreOk.sees {ops : Array Oper} {k : Nat} {c : Nat → Nat → Bool} (D : PreOk ops k c) {V : Nat → AVal} {t s : Env} {L : Array Bool} (cl : Closed ops L) (g : Ag ops k V t (fun j => L.getD j false) s)
    {i : Nat} {o : Oper} (hi : ops[i]? = some o) (hk : i < k) (hkn : k ≤ ops.size) (hun : L.getD i false = false) (hrd : ∀ e ∈ o.after, Region.binds .any e = true → L.getD e.on false = true) :
    ∀ d ∈ o.looksAt ops, Av.T V (ops.toList.take k) t i d = s d := by
  intro d hd
  have gT := D.ag_T V t hkn i (by omega)
  by_cases hx : ∃ (j : Nat) (oj : Oper), j < k ∧ ops[j]? = some oj ∧ oj.dst = some d
  · obtain ⟨j, oj, hj, hoj, hdj⟩ := hx
    have uniq : ∀ (j' : Nat) (o' : Oper), j' < k → ops[j']? = some o' → o'.dst = some d → j' = j := fun j' o' hj' ho' h1 => by
      rcases Nat.lt_trichotomy j' j with h3 | h3 | h3
      · exact absurd hdj ((D.pre j' j o' oj ho' hoj h3 hj).2 d h1)
      · exact h3
      · exact absurd h1 ((D.pre j j' oj o' hoj ho' h3 hj').2 d hdj)
    rcases Nat.lt_trichotomy j i with h3 | h3 | h3
    · have hc : c j i = true := by
        rcases (D.pre j i oj o hoj hi h3 hk).1 with h4 | h4
        · exact h4
        · exact absurd hd ((Oper.apart_spec h4).1 d hdj)
      have hl := D.bef cl i o hi hk j h3 hc hrd
      rw [gT.1 j oj d hj hoj (by simpa using h3) hdj, g.1 j oj d hj hoj hl hdj]
    · subst h3
      rw [gT.2 d fun j' o' hj' ho' hp h1 => by have := uniq j' o' hj' ho' h1; subst this; simp at hp,
        g.2 d fun j' o' hj' ho' hp h1 => by have := uniq j' o' hj' ho' h1; subst this; simp only [hun] at hp; cases hp]
    · have hc : c i j = true := by
        rcases (D.pre i j o oj hi hoj h3 hj).1 with h4 | h4
        · exact h4
        · exact absurd hd ((Oper.apart_spec h4).2.2 d hdj)
      have hl : L.getD j false = false := by
        cases hlj : L.getD j false with
        | false => rfl
        | true => have := D.bef cl j oj hoj hj i h3 hc (cl j oj hoj hlj); rw [hun] at this; cases this
      rw [gT.2 d fun j' o' hj' ho' hp h1 => by have := uniq j' o' hj' ho' h1; subst this; simp at hp; omega,
        g.2 d fun j' o' hj' ho' hp h1 => by have := uniq j' o' hj' ho' h1; subst this; simp only [hl] at hp; cases hp]
  · have hn : ∀ (j : Nat) (oj : Oper), j < k → ops[j]? = some oj → oj.dst ≠ some d := fun j oj h1 h2 h3 => hx ⟨j, oj, h1, h2, h3⟩
    rw [gT.2 d fun j oj h1 h2 _ => hn j oj h1 h2, g.2 d fun j oj h1 h2 _ => hn j oj h1 h2]

/-- The first k are listed. -/
def listK (n k : Nat) : Array Bool := ((List.range n).map fun i => decide (i < k)).toArray

section
variable {C : Ctx} {t : Env} {h : Heap}

/-- The rest, whatever order is drawn. -/
def Rest (C : Ctx) (ops : Array Oper) (Q : Exit → Env → Heap → Prop) (fuel : Nat) (L : Array Bool) (t : Env) (h : Heap) : Prop :=
  ∀ md n, WPix C ops Q (Region.linearise.go md ops fuel n L []) t h
theorem ready_any {ops : Array Oper} {L : Array Bool} {md : Region.Mode} {i : Nat} (h : i ∈ Region.ready md ops L) : i ∈ Region.ready .any ops L := by
  obtain ⟨h1, o, h2, h3⟩ := mem_ready.1 h
  exact mem_ready.2 ⟨h1, o, h2, fun e he hb => h3 e he (binds_any hb)⟩
theorem Rest.nil {ops : Array Oper} {Q : Exit → Env → Heap → Prop} {L : Array Bool} (g : Q .normal t h) : Rest C ops Q 0 L t h := fun md n => by
  simpa [Region.linearise.go, WPix] using g
/-- One step of the rest: each that is ready. -/
theorem Rest.step {ops : Array Oper} {Q : Exit → Env → Heap → Prop} {fuel : Nat} {L : Array Bool} (h1 : Region.ready .text ops L ≠ []) (h2 : Region.ready .gc ops L ≠ []) (h3 : Region.ready .any ops L ≠ [])
    (g : ∀ i ∈ Region.ready .any ops L, ∀ o, ops[i]? = some o → wpOper C ops o t h fun t' h' => Rest C ops Q fuel (L.setIfInBounds i true) t' h') : Rest C ops Q (fuel + 1) L t h := fun md n => by
  have hne : Region.ready md ops L ≠ [] := by cases md; exact h1; exact h2; exact h3
  obtain ⟨i, hi, hmem⟩ := getElem?_mod hne n
  rw [go_succ md ops fuel n L hi]
  obtain ⟨_, o, ho, _⟩ := mem_ready.1 hmem
  simp only [WPix, ho]
  exact wpOper_mono (g i (ready_any hmem) o ho) fun t' h' g' => g' md _

theorem pre_sound2 {ops : Array Oper} {Q : Exit → Env → Heap → Prop} {k : Nat} {c : Nat → Nat → Bool} (D : PreOk ops k c) (md : Region.Mode) (hkn : k ≤ ops.size) {V : Nat → AVal} {t0 : Env} {h : Heap} (ok : Nat → Prop)
    (hv : ∀ (i : Nat) (o : Oper), (ops.toList.take k)[i]? = some o → ok i → ∀ KK : AVal → Heap → Prop, KK (V i) h → wpOperV C ops o (Av.T V (ops.toList.take k) t0 i) h KK)
    (hK : Rest C ops Q (ops.size - k) (listK ops.size k) (Av.T V (ops.toList.take k) t0 k) h) :
    ∀ (fuel n : Nat) (L : Array Bool) (s : Env), L.size = ops.size → left ops L = fuel → Closed ops L → (∀ j, j < ops.size → L.getD j false = true → j < k) → (∀ j, j < k → L.getD j false = false → ok j) → Ag ops k V t0 (fun j => L.getD j false) s →
      WPix C ops Q (Region.linearise.go md ops fuel n L []) s h := by
  have hlk : ∀ j, j < ops.size → (listK ops.size k).getD j false = decide (j < k) := fun j hj => by simp [listK, hj]
  have fin : ∀ (fuel n : Nat) (L : Array Bool) (s : Env), L.size = ops.size → left ops L = fuel → (∀ j, j < ops.size → L.getD j false = decide (j < k)) → Ag ops k V t0 (fun j => L.getD j false) s →
      WPix C ops Q (Region.linearise.go md ops fuel n L []) s h := fun fuel n L s hs hl hL ag => by
    have h1 := D.ag_T V t0 hkn k (Nat.le_refl _)
    have h2 : Ag ops k V t0 (fun j => decide (j < k)) s := ⟨fun j o x hj ho hp hd => ag.1 j o x hj ho (by show L.getD j false = true; rw [hL j (by omega)]; exact hp) hd,
      fun x hn => ag.2 x fun j o hj ho hp => hn j o hj ho (by simpa using hj)⟩
    have := h2.eq h1
    subst this
    have hsz : (listK ops.size k).size = ops.size := by simp [listK]
    have eL : L = listK ops.size k := by
      refine Array.ext (by rw [hs, hsz]) fun i h1 h2 => ?_
      have e1 := hL i (by omega)
      have e2 := hlk i (by omega)
      have := e1.trans e2.symm
      simpa [h1, h2] using this
    have el : fuel = ops.size - k := by
      rw [← hl]
      unfold left
      have : (List.range ops.size).filter (fun i => !L.getD i true) = (List.range ops.size).filter (fun i => decide (k ≤ i)) := List.filter_congr fun i hi => by
        have hi' := List.mem_range.1 hi
        have h3 : i < L.size := by omega
        have e1 := hL i hi'
        have e3 : L.getD i true = L.getD i false := by simp [h3]
        rw [e3, e1]
        by_cases hik : i < k
        · have : ¬ k ≤ i := by omega
          simp [hik, this]
        · have : k ≤ i := by omega
          simp [hik, this]
      rw [this]
      have cnt : ∀ n, k ≤ n → ((List.range n).filter fun i => decide (k ≤ i)).length = n - k := by
        intro n
        induction n with
        | zero => intro h; simp
        | succ n ih =>
          intro h
          rw [List.range_succ, List.filter_append, List.length_append]
          by_cases hkn2 : k ≤ n
          · rw [ih hkn2]; simp [hkn2]; omega
          · have hnil : (List.range n).filter (fun i => decide (k ≤ i)) = [] := by
              rw [List.filter_eq_nil_iff]
              intro i hi
              have := List.mem_range.1 hi
              simp; omega
            rw [hnil]; simp [hkn2]; omega
      exact cnt _ hkn
    subst eL; subst el
    exact hK md n
  intro fuel
  induction fuel with
  | zero =>
    intro n L s hs hl cl hlt hun0 ag
    have hall := left_zero hs hl
    refine fin 0 n L s hs hl (fun j hj => ?_) ag
    rw [hall j hj]; have := hlt j hj (hall j hj); simp [this]
  | succ fuel ih =>
    intro n L s hs hl cl hlt hun0 ag
    by_cases hpre : ∀ j, j < k → L.getD j false = true
    · refine fin (fuel + 1) n L s hs hl (fun j hj => ?_) ag
      by_cases hjk : j < k
      · rw [hpre j hjk]; simp [hjk]
      · cases hlj : L.getD j false with
        | false => simp [hjk]
        | true => exact absurd (hlt j hj hlj) hjk
    · have hne : Region.ready md ops L ≠ [] := by
        have hex : ∃ i, i < k ∧ L.getD i false = false := by
          refine Classical.byContradiction fun hno => hpre fun j hj => ?_
          cases hlj : L.getD j false with
          | true => rfl
          | false => exact absurd ⟨j, hj, hlj⟩ hno
        have hmin : ∃ i, i < k ∧ L.getD i false = false ∧ ∀ j, j < i → L.getD j false = true := by
          obtain ⟨i, hi, hl⟩ := hex
          induction i using Nat.strongRecOn with
          | ind i ih =>
            by_cases hall : ∀ j, j < i → L.getD j false = true
            · exact ⟨i, hi, hl, hall⟩
            · have : ∃ j, j < i ∧ L.getD j false = false := Classical.byContradiction fun hno => hall fun j hj => by
                cases hlj : L.getD j false with
                | true => rfl
                | false => exact absurd ⟨j, hj, hlj⟩ hno
              obtain ⟨j, hj, hlj⟩ := this
              exact ih j hj (by omega) hlj
        obtain ⟨i, hi, hl, hall⟩ := hmin
        have hin : i < ops.size := by omega
        have h3 : i < L.size := by omega
        intro e
        have : i ∈ Region.ready md ops L := mem_ready.2 ⟨by simp [h3] at hl ⊢; exact hl, ops[i], Array.getElem?_eq_getElem hin, fun e he _ => hall _ (D.less i _ (Array.getElem?_eq_getElem hin) hi e he)⟩
        rw [e] at this; cases this
      obtain ⟨i, hi, hmem⟩ := getElem?_mod hne n
      obtain ⟨hun, o, ho, hrd⟩ := mem_ready.1 hmem
      have hin := (Array.getElem?_eq_some_iff.1 ho).1
      have h3 : i < L.size := by omega
      have hun' : L.getD i false = false := by simp [h3] at hun ⊢; exact hun
      have hrd' : ∀ e ∈ o.after, Region.binds .any e = true → L.getD e.on false = true := fun e he hb => hrd e he (binds_any hb)
      by_cases hk : i < k
      · rw [go_succ md ops fuel n L hi]
        simp only [WPix, ho]
        rw [wpOper_V]
        have ho2 : (ops.toList.take k)[i]? = some o := by rw [List.getElem?_take, if_pos hk]; simpa using ho
        rw [← wpOperV_congr (t := Av.T V (ops.toList.take k) t0 i) (D.sees cl ag ho hk hkn hun' hrd')]
        refine hv i o ho2 (hun0 i hk hun') _ ?_
        refine ih _ _ _ (by simpa using hs) (by have := left_set hs hin hun'; omega) (cl.set ho hrd') (fun j hj hlj => ?_) (fun j hj hlj => ?_) (D.ag_put ag ho hk fun j hj => ?_)
        · by_cases hji : i = j
          · subst hji; exact hk
          · rw [getD_set_ne false hji] at hlj; exact hlt j hj hlj
        · by_cases hji : i = j
          · subst hji; simp [h3] at hlj
          · rw [getD_set_ne false hji] at hlj; exact hun0 j hj hlj
        · by_cases hji : i = j
          · subst hji; simp [h3]
          · rw [getD_set_ne false hji]
            have : (j == i) = false := by simp; exact fun e => hji e.symm
            rw [this, Bool.or_false]
      · exfalso
        refine hpre fun j hj => ?_
        obtain ⟨e, he, hb, h1⟩ := D.sfx j i o ho hj (by omega)
        have h2 := hrd' e he hb
        rcases h1 with rfl | ⟨h4, h5, h6⟩
        · exact h2
        · have hoe : ops[e.on]? = some ops[e.on] := Array.getElem?_eq_getElem (by omega)
          exact D.bef cl e.on _ hoe h4 j h5 h6 fun e' he' hb' => cl e.on _ hoe h2 e' he' hb'

/-- A region that draws its order. -/
theorem WP_draw2 {id : Nat} {l : List Oper} {Q : Exit → Env → Heap → Prop} (k : Nat) (hok : (preOk l.toArray k && decide (k ≤ l.length)) = true)
    (hh : WPp C l.toArray (l.take k) t h fun t' => Rest C l.toArray Q (l.length - k) (listK l.length k) t' h) : WP C (.region id l.toArray true) Q t h := by
  simp only [Bool.and_eq_true, decide_eq_true_eq] at hok
  have D := preOk_spec hok.1
  obtain ⟨V, hv, hK⟩ := WPp_vals _ _ hh
  have hlen : (l.take k).length = k := by simp [hok.2]
  rw [hlen] at hK
  have main : ∀ md n, WPix C l.toArray Q (Region.linearise md l.toArray n) t h := fun md n => by
    unfold Region.linearise
    refine pre_sound2 D md (by simpa using hok.2) (V := V) (t0 := t) (fun _ => True) (fun i o hi _ => hv i o hi) (by simpa using hK) _ _ _ _ (by simp) ?_ (fun j oj hj hl => ?_) (fun j hj hl => ?_) (fun _ _ _ => trivial) (Ag.start _ _ _ _ fun j hj => ?_)
    · unfold left
      have : (List.range l.toArray.size).filter (fun i => !(Array.replicate l.toArray.size false).getD i true) = List.range l.toArray.size := by
        rw [List.filter_eq_self]
        intro i hi
        have := List.mem_range.1 hi
        have h8 : i < (Array.replicate l.toArray.size false).size := by simpa using this
        simp at this ⊢
        simp [this]
      rw [this, List.length_range]
    · have h8 := (Array.getElem?_eq_some_iff.1 hj).1
      simp at h8 hl
      simp [h8] at hl
    · simp at hj hl
      simp [hj] at hl
    · have : j < l.length := by omega
      simp [this]
  show ∀ tp, WPix C l.toArray Q (Region.schedule (C.P.follows .mixedOrders) l.toArray tp) t h
  intro tp
  unfold Region.schedule
  split
  · exact main _ _
  · exact main _ _

theorem T_take (V V' : Nat → AVal) (k : Nat) (hV : ∀ i, i < k → V' i = V i) : ∀ (l l' : List Oper) (t : Env) (i : Nat), i ≤ k → l.take k = l'.take k → i ≤ l.length → i ≤ l'.length → Av.T V' l t i = Av.T V l' t i := by
  intro l l' t i
  induction i with
  | zero => intro _ _ _ _; rw [T_zero, T_zero]
  | succ i ih =>
    intro hi he h1 h2
    have e1 : l[i]? = some (l[i]'(by omega)) := List.getElem?_eq_getElem _
    have e2 : l'[i]? = some (l'[i]'(by omega)) := List.getElem?_eq_getElem _
    have e3 : l[i]? = l'[i]? := by
      have := congrArg (fun q => q[i]?) he
      simpa only [List.getElem?_take, if_pos (show i < k by omega)] using this
    rw [T_succ V' _ t i _ e1, T_succ V _ t i _ e2, ih (by omega) he (by omega) (by omega), hV i (by omega)]
    rw [e1, e2] at e3
    rw [Option.some.inj e3]

/-- The beginning holds one operation that changes memory, its last: what is not bound to come ahead of it must give the same behind it. -/
theorem pre_sound3 {ops : Array Oper} {Q : Exit → Env → Heap → Prop} {k : Nat} {c : Nat → Nat → Bool} (D : PreOk ops (k + 1) c) (md : Region.Mode) (hkn : k + 1 ≤ ops.size) {V : Nat → AVal} {t0 : Env} {h : Heap} {oe : Oper} (hoe : ops[k]? = some oe)
    (hv : ∀ (i : Nat) (o : Oper), i < k → ops[i]? = some o → ∀ KK : AVal → Heap → Prop, KK (V i) h → wpOperV C ops o (Av.T V ops.toList t0 i) h KK)
    (he : wpOperV C ops oe (Av.T V ops.toList t0 k) h fun v h' => (∀ (i : Nat) (o : Oper), i < k → ops[i]? = some o → c i k = false → ∀ KK : AVal → Heap → Prop, KK (V i) h' → wpOperV C ops o (Av.T V ops.toList t0 i) h' KK) ∧
      Rest C ops Q (ops.size - (k + 1)) (listK ops.size (k + 1)) (put (Av.T V ops.toList t0 k) oe.dst v) h') :
    ∀ (fuel n : Nat) (L : Array Bool) (s : Env), L.size = ops.size → left ops L = fuel → Closed ops L → (∀ j, j < ops.size → L.getD j false = true → j < k) → Ag ops (k + 1) V t0 (fun j => L.getD j false) s →
      WPix C ops Q (Region.linearise.go md ops fuel n L []) s h := by
  have hT : ∀ (V' : Nat → AVal) (i : Nat), (∀ j, j < k → V' j = V j) → i ≤ k → Av.T V' (ops.toList.take (k + 1)) t0 i = Av.T V ops.toList t0 i := fun V' i hV hi =>
    T_take V V' k hV _ _ _ _ hi (by rw [List.take_take]; congr 1; omega) (by simp; omega) (by simp; omega)
  intro fuel
  induction fuel with
  | zero =>
    intro n L s hs hl cl hlt ag
    have := left_zero hs hl k (by omega)
    have := hlt k (by omega) this
    omega
  | succ fuel ih =>
    intro n L s hs hl cl hlt ag
    have hkun : L.getD k false = false := by
      cases hq : L.getD k false with
      | false => rfl
      | true => have := hlt k (by omega) hq; omega
    have hne : Region.ready md ops L ≠ [] := by
      have hmin : ∃ i, i < k + 1 ∧ L.getD i false = false ∧ ∀ j, j < i → L.getD j false = true := by
        have hex : ∃ i, i < k + 1 ∧ L.getD i false = false := ⟨k, by omega, hkun⟩
        obtain ⟨i, hi, hl⟩ := hex
        clear hl
        have hex : ∃ i, i < k + 1 ∧ L.getD i false = false := ⟨k, by omega, hkun⟩
        obtain ⟨i, hi, hl⟩ := hex
        induction i using Nat.strongRecOn with
        | ind i ih =>
          by_cases hall : ∀ j, j < i → L.getD j false = true
          · exact ⟨i, hi, hl, hall⟩
          · have : ∃ j, j < i ∧ L.getD j false = false := Classical.byContradiction fun hno => hall fun j hj => by
              cases hlj : L.getD j false with
              | true => rfl
              | false => exact absurd ⟨j, hj, hlj⟩ hno
            obtain ⟨j, hj, hlj⟩ := this
            exact ih j hj (by omega) hlj
      obtain ⟨i, hi, hl, hall⟩ := hmin
      have hin : i < ops.size := by omega
      have h3 : i < L.size := by omega
      intro e
      have : i ∈ Region.ready md ops L := mem_ready.2 ⟨by simp [h3] at hl ⊢; exact hl, ops[i], Array.getElem?_eq_getElem hin, fun e he _ => hall _ (D.less i _ (Array.getElem?_eq_getElem hin) hi e he)⟩
      rw [e] at this; cases this
    obtain ⟨i, hi, hmem⟩ := getElem?_mod hne n
    obtain ⟨hun, o, ho, hrd⟩ := mem_ready.1 hmem
    have hin := (Array.getElem?_eq_some_iff.1 ho).1
    have h3 : i < L.size := by omega
    have hun' : L.getD i false = false := by simp [h3] at hun ⊢; exact hun
    have hrd' : ∀ e ∈ o.after, Region.binds .any e = true → L.getD e.on false = true := fun e he hb => hrd e he (binds_any hb)
    have hik : i < k + 1 := by
      refine Nat.lt_of_not_le fun hle => ?_
      obtain ⟨e, he, hb, h1⟩ := D.sfx k i o ho (by omega) hle
      have h2 := hrd' e he hb
      have hkl : L.getD k false = true := by
        rcases h1 with rfl | ⟨h4, h5, h6⟩
        · exact h2
        · have hoe : ops[e.on]? = some ops[e.on] := Array.getElem?_eq_getElem (by omega)
          exact D.bef cl e.on _ hoe h4 k h5 h6 fun e' he' hb' => cl e.on _ hoe h2 e' he' hb'
      rw [hkun] at hkl; cases hkl
    rw [go_succ md ops fuel n L hi]
    simp only [WPix, ho]
    rw [wpOper_V]
    have hsees := D.sees cl ag ho hik hkn hun' hrd'
    by_cases hk : i < k
    · rw [hT V i (fun _ _ => rfl) (by omega)] at hsees
      rw [← wpOperV_congr (t := Av.T V ops.toList t0 i) hsees]
      refine hv i o hk ho _ ?_
      refine ih _ _ _ (by simpa using hs) (by have := left_set hs hin hun'; omega) (cl.set ho hrd') (fun j hj hlj => ?_) (D.ag_put ag ho hik fun j hj => ?_)
      · by_cases hji : i = j
        · subst hji; exact hk
        · rw [getD_set_ne false hji] at hlj; exact hlt j hj hlj
      · by_cases hji : i = j
        · subst hji; simp [h3]
        · rw [getD_set_ne false hji]
          have : (j == i) = false := by simp; exact fun e => hji e.symm
          rw [this, Bool.or_false]
    · obtain rfl : i = k := by omega
      rw [hoe] at ho; cases ho
      rw [hT V i (fun _ _ => rfl) (Nat.le_refl _)] at hsees
      rw [← wpOperV_congr (t := Av.T V ops.toList t0 i) hsees]
      refine wpOperV_mono he fun v h' ⟨hv2, hrest⟩ => ?_
      have hV' : ∀ j, j < i → (fun j => if j = i then v else V j) j = V j := fun j hj => by simp only []; rw [if_neg (by omega)]
      have ag' : Ag ops (i + 1) (fun j => if j = i then v else V j) t0 (fun j => L.getD j false) s := by
        refine ⟨fun j o x hj hoj hp hd => ?_, ag.2⟩
        have hji : j ≠ i := fun e => by subst e; simp only [hun'] at hp; cases hp
        simp only [if_neg hji]
        exact ag.1 j o x hj hoj hp hd
      refine pre_sound2 D md hkn (V := fun j => if j = i then v else V j) (t0 := t0) (h := h') (fun j => j < i ∧ c j i = false) (fun j o hj hok KK hkk => ?_) ?_ _ _ _ _ (by simpa using hs) (by have := left_set hs hin hun'; omega) (cl.set hoe hrd') (fun j hj hlj => ?_) (fun j hj hlj => ?_) ?_
      · have hoj : ops[j]? = some o := by
          rw [List.getElem?_take, if_pos (by omega)] at hj
          simpa using hj
        rw [hT _ j hV' (by omega)]
        simp only [if_neg (show ¬ j = i by omega)] at hkk
        exact hv2 j o hok.1 hoj hok.2 KK hkk
      · have e1 : (ops.toList.take (i + 1))[i]? = some oe := by rw [List.getElem?_take, if_pos (by omega)]; simpa using hoe
        rw [T_succ _ _ _ _ _ e1, hT _ i hV' (Nat.le_refl _)]
        simpa using hrest
      · by_cases hji : i = j
        · omega
        · rw [getD_set_ne false hji] at hlj; have := hlt j hj hlj; omega
      · have hji : i ≠ j := fun e => by subst e; simp [h3] at hlj
        rw [getD_set_ne false hji] at hlj
        refine ⟨by omega, ?_⟩
        cases hc : c j i with
        | false => rfl
        | true =>
          have := D.bef cl i oe hoe (by omega) j (by omega) hc hrd'
          rw [hlj] at this; cases this
      · have := D.ag_put ag' (p' := fun j => (L.setIfInBounds i true).getD j false) hoe (by omega) fun j hj => by
          by_cases hji : i = j
          · subst hji; simp [h3]
          · rw [getD_set_ne false hji]
            have : (j == i) = false := by simp; exact fun e => hji e.symm
            rw [this, Bool.or_false]
        simpa using this

/-- A region that draws its order, with one operation among the drawn that changes memory. -/
theorem WP_draw3 {id : Nat} {l : List Oper} {Q : Exit → Env → Heap → Prop} (k : Nat) (oe : Oper) (hoe : l[k]? = some oe) (hok : preOk l.toArray (k + 1) = true) (V : Nat → AVal)
    (hv : ∀ (i : Nat) (o : Oper), i < k → l[i]? = some o → ∀ KK : AVal → Heap → Prop, KK (V i) h → wpOperV C l.toArray o (Av.T V l t i) h KK)
    (he : wpOperV C l.toArray oe (Av.T V l t k) h fun v h' => (∀ (i : Nat) (o : Oper), i < k → l[i]? = some o → ((Region.before l.toArray).getD k 0).testBit i = false → ∀ KK : AVal → Heap → Prop, KK (V i) h' → wpOperV C l.toArray o (Av.T V l t i) h' KK) ∧
      Rest C l.toArray Q (l.length - (k + 1)) (listK l.length (k + 1)) (put (Av.T V l t k) oe.dst v) h') : WP C (.region id l.toArray true) Q t h := by
  have D := preOk_spec hok
  have hkl := (List.getElem?_eq_some_iff.1 hoe).1
  have main : ∀ md n, WPix C l.toArray Q (Region.linearise md l.toArray n) t h := fun md n => by
    unfold Region.linearise
    refine pre_sound3 D md (by simp; omega) (V := V) (t0 := t) (oe := oe) (by simpa using hoe) (fun i o hi ho => hv i o hi (by simpa using ho)) ?_ _ _ _ _ (by simp) ?_ (fun j oj hj hl => ?_) (fun j hj hl => ?_) (Ag.start _ _ _ _ fun j hj => ?_)
    · refine wpOperV_mono he fun v h' ⟨h1, h2⟩ => ⟨fun i o hi ho hc => h1 i o hi (by simpa using ho) hc, by simpa using h2⟩
    · unfold left
      have : (List.range l.toArray.size).filter (fun i => !(Array.replicate l.toArray.size false).getD i true) = List.range l.toArray.size := by
        rw [List.filter_eq_self]
        intro i hi
        have := List.mem_range.1 hi
        have h8 : i < (Array.replicate l.toArray.size false).size := by simpa using this
        simp at this ⊢
        simp [this]
      rw [this, List.length_range]
    · have h8 := (Array.getElem?_eq_some_iff.1 hj).1
      simp at h8 hl
      simp [h8] at hl
    · simp at hj hl
      simp [hj] at hl
    · have : j < l.length := by omega
      simp [this]
  show ∀ tp, WPix C l.toArray Q (Region.schedule (C.P.follows .mixedOrders) l.toArray tp) t h
  intro tp
  unfold Region.schedule
  split
  · exact main _ _
  · exact main _ _
end
end Go.Av
