/- What the translator's stand-ins do. -/
import Derived.Test.YtjgligkejfjbpaaGreatDoorUnEx2b
import Derived.Test.YtjgligkejfjbpaaGreatDoorRows
import Derived.ChangeSame
import Derived.RowKit
import Derived.ReadAgain
import Derived.ChangeArms
import Derived.Clock
import Derived.Deep.Slices
import Derived.Test.YtjgligkejfjbpaaGreatDoorUnAv10
import Derived.Test.YtjgligkejfjbpaaGreatDoorProg
import Derived.KernelRfl
import Derived.Lib.Builder
set_option linter.unusedSimpArgs false
set_option linter.unusedVariables false
namespace Go.Av
open Go.RowKit
def preOkG (st : Bool) (ops : Array Oper) (k : Nat) : Bool :=
 let b := Region.before ops
 (List.range ops.size).all fun j => match ops[j]? with
  | none => true
  | some oj => if j < k then
    (oj.after.all fun e => (!st && !Region.binds .any e) || decide (e.on < j)) && (List.range j).all fun i => match ops[i]? with
    | none => true
    | some oi =>
     (!(b.getD j 0).testBit i || oj.after.any fun e => Region.binds .any e && (e.on == i || (decide (i < e.on) && (b.getD e.on 0).testBit i))) &&
     (((b.getD j 0).testBit i || oi.apart ops oj) && (oi.dst.isNone || oi.dst != oj.dst))
   else (List.range k).all fun i => oj.after.any fun e => Region.binds .any e && (e.on == i || (decide (e.on < k) && decide (i < e.on) && (b.getD e.on 0).testBit i))
def preOk (ops : Array Oper) (k : Nat) : Bool := preOkG true ops k
structure PreOk (ops : Array Oper) (k : Nat) (c : Nat → Nat → Bool) : Prop where
 less : ∀ (j : Nat) (oj : Oper), ops[j]? = some oj → j < k → ∀ e ∈ oj.after, Region.binds .any e = true → e.on < j
 cert : ∀ (i j : Nat) (oj : Oper), ops[j]? = some oj → j < k → i < j → c i j = true → ∃ e ∈ oj.after, Region.binds .any e = true ∧ (e.on = i ∨ (i < e.on ∧ c i e.on = true))
 sfx : ∀ (i j : Nat) (oj : Oper), ops[j]? = some oj → i < k → k ≤ j → ∃ e ∈ oj.after, Region.binds .any e = true ∧ (e.on = i ∨ (e.on < k ∧ i < e.on ∧ c i e.on = true))
 pre : ∀ (i j : Nat) (oi oj : Oper), ops[i]? = some oi → ops[j]? = some oj → i < j → j < k → (c i j = true ∨ oi.apart ops oj = true) ∧ (∀ d, oi.dst = some d → oj.dst ≠ some d)
theorem preOkG_spec {st : Bool} {ops : Array Oper} {k : Nat} (hk : preOkG st ops k = true) : PreOk ops k fun i j => ((Region.before ops).getD j 0).testBit i := by
 unfold preOkG at hk
 simp only [List.all_eq_true, List.mem_range] at hk
 have at_ : ∀ (j : Nat) (oj : Oper), ops[j]? = some oj → _ := fun j oj hj => by
  have := hk j (Array.getElem?_eq_some_iff.1 hj).1
  rw [hj] at this
  exact this
 have some_i : ∀ (i j : Nat) (oj : Oper), ops[j]? = some oj → i < j → ∃ oi, ops[i]? = some oi := fun i j oj hj hij => by
  have := (Array.getElem?_eq_some_iff.1 hj).1
  exact ⟨_, Array.getElem?_eq_getElem (show i < ops.size by omega)⟩
 have key : ∀ (j : Nat) (oj : Oper), ops[j]? = some oj → j < k → (oj.after.all fun e => (!st && !Region.binds .any e) || decide (e.on < j)) = true ∧ ∀ (i : Nat) (oi : Oper), ops[i]? = some oi → i < j →
   ((!((Region.before ops).getD j 0).testBit i || oj.after.any fun e => Region.binds .any e && (e.on == i || (decide (i < e.on) && ((Region.before ops).getD e.on 0).testBit i))) &&
    ((((Region.before ops).getD j 0).testBit i || oi.apart ops oj) && (oi.dst.isNone || oi.dst != oj.dst))) = true := by
  intro j oj hj hjk
  have := at_ j oj hj
  simp only [if_pos hjk, Bool.and_eq_true, List.all_eq_true, List.mem_range] at this
  refine ⟨this.1, fun i oi hi hij => ?_⟩
  have := this.2 i hij
  rw [hi] at this
  simpa only [Bool.and_eq_true] using this
 refine ⟨fun j oj hj hjk e he hb => ?_, fun i j oj hj hjk hij hc => ?_, fun i j oj hj hik hkj => ?_, fun i j oi oj hi hj hij hjk => ?_⟩
 ·have := (key j oj hj hjk).1
  rw [Array.all_eq_true_iff_forall_mem] at this
  simpa [hb] using this e he
 ·obtain ⟨oi, hi⟩ := some_i i j oj hj hij
  have := (key j oj hj hjk).2 i oi hi hij
  simp only [Bool.and_eq_true, Bool.or_eq_true, Bool.not_eq_true'] at this
  rcases this.1 with h1 | h1
  ·rw [hc] at h1; cases h1
  ·obtain ⟨e, he, h2⟩ := Array.any_eq_true'.1 h1
   simp only [Bool.and_eq_true, Bool.or_eq_true, beq_iff_eq, decide_eq_true_eq] at h2
   exact ⟨e, he, h2.1, h2.2⟩
 ·have := at_ j oj hj
  simp only [if_neg (show ¬ j < k by omega), List.all_eq_true, List.mem_range] at this
  obtain ⟨e, he, h2⟩ := Array.any_eq_true'.1 (this i hik)
  simp only [Bool.and_eq_true, Bool.or_eq_true, beq_iff_eq, decide_eq_true_eq] at h2
  exact ⟨e, he, h2.1, h2.2.imp id fun q => ⟨q.1.1, q.1.2, q.2⟩⟩
 ·have := (key j oj hj hjk).2 i oi hi hij
  simp only [Bool.and_eq_true, Bool.or_eq_true] at this
  refine ⟨this.2.1, fun d hd e => ?_⟩
  rcases this.2.2 with h1 | h1
  ·rw [hd] at h1; cases h1
  ·rw [hd, e] at h1; simp at h1
theorem preOk_spec {ops : Array Oper} {k : Nat} (hk : preOk ops k = true) : PreOk ops k fun i j => ((Region.before ops).getD j 0).testBit i := preOkG_spec hk
theorem preOk_less {ops : Array Oper} {k : Nat} (hk : preOk ops k = true) (md : Region.Mode) : ∀ (j : Nat) (oj : Oper), ops[j]? = some oj → j < k → ∀ e ∈ oj.after, Region.binds md e = true → e.on < j := by
 intro j oj hj hjk e he _
 unfold preOk preOkG at hk
 simp only [List.all_eq_true, List.mem_range] at hk
 have := hk j (Array.getElem?_eq_some_iff.1 hj).1
 rw [hj] at this
 simp only [if_pos hjk, Bool.and_eq_true] at this
 have := this.1
 rw [Array.all_eq_true_iff_forall_mem] at this
 simpa using this e he
theorem PreOk.bef {ops : Array Oper} {L : Array Bool} {k : Nat} {c : Nat → Nat → Bool} (D : PreOk ops k c) (cl : Closed ops L) :
  ∀ (j : Nat) (oj : Oper), ops[j]? = some oj → j < k → ∀ i, i < j → c i j = true → (∀ e ∈ oj.after, Region.binds .any e = true → L.getD e.on false = true) → L.getD i false = true := by
 intro j
 induction j using Nat.strongRecOn with
 | ind j ih =>
  intro oj hj hjk i hij hc hl
  obtain ⟨e, he, hb, h1⟩ := D.cert i j oj hj hjk hij hc
  have h2 := hl e he hb
  rcases h1 with rfl | h1
  ·exact h2
  ·have h3 := D.less j oj hj hjk e he hb
   have hsz := (Array.getElem?_eq_some_iff.1 hj).1
   have hoe : ops[e.on]? = some ops[e.on] := Array.getElem?_eq_getElem (by omega)
   exact ih e.on h3 _ hoe (by omega) i h1.1 h1.2 fun e' he' hb' => cl e.on _ hoe h2 e' he' hb'
theorem PreOk.ag_put {ops : Array Oper} {k : Nat} {c : Nat → Nat → Bool} (D : PreOk ops k c) {V : Nat → AVal} {t s : Env} {p p' : Nat → Bool} (g : Ag ops k V t p s) {i : Nat} {o : Oper} (hi : ops[i]? = some o) (hk : i < k)
  (hp : ∀ j, j < k → p' j = (p j || j == i)) : Ag ops k V t p' (put s o.dst (V i)) := by
 have uniq : ∀ (j : Nat) (oj : Oper) (x : Nat), j < k → ops[j]? = some oj → oj.dst = some x → o.dst = some x → j = i := fun j oj x hj hoj h1 h2 => by
  rcases Nat.lt_trichotomy j i with h3 | h3 | h3
  ·exact absurd h2 ((D.pre j i oj o hoj hi h3 hk).2 x h1)
  ·exact h3
  ·exact absurd h1 ((D.pre i j o oj hi hoj h3 hj).2 x h2)
 refine ⟨fun j oj x hj hoj hpj hd => ?_, fun x hn => ?_⟩
 ·by_cases hji : j = i
  ·subst hji
   rw [hoj] at hi; cases hi
   simp [Av.put, hd, upd]
  ·have : o.dst ≠ some x := fun e => hji (uniq j oj x hj hoj hd e)
   have hs : (Av.put s o.dst (V i)) x = s x := by
    cases hdo : o.dst with
    | none => rfl
    | some d => simp only [Av.put, upd]; rw [if_neg]; intro e; subst e; exact this hdo
   rw [hs]
   exact g.1 j oj x hj hoj (by have := hp j hj; rw [hpj] at this; simpa [hji] using this.symm) hd
 ·have : o.dst ≠ some x := hn i o hk hi (by rw [hp i hk]; simp)
  have hs : (Av.put s o.dst (V i)) x = s x := by
   cases hdo : o.dst with
   | none => rfl
   | some d => simp only [Av.put, upd]; rw [if_neg]; intro e; subst e; exact this hdo
  rw [hs]
  exact g.2 x fun j oj hj hoj hpj => hn j oj hj hoj (by rw [hp j hj, hpj]; rfl)
theorem PreOk.ag_T {ops : Array Oper} {k : Nat} {c : Nat → Nat → Bool} (D : PreOk ops k c) (V : Nat → AVal) (t : Env) (hkn : k ≤ ops.size) : ∀ i, i ≤ k → Ag ops k V t (fun j => decide (j < i)) (Av.T V (ops.toList.take k) t i)
 | 0, _ => by rw [T_zero]; exact Ag.start ops k V t fun j _ => by simp
 | i + 1, hi => by
  have ih := PreOk.ag_T D V t hkn i (by omega)
  have ho : ops[i]? = some (ops[i]'(by omega)) := Array.getElem?_eq_getElem _
  have ho2 : (ops.toList.take k)[i]? = some (ops[i]'(by omega)) := by rw [List.getElem?_take, if_pos (by omega)]; simp
  rw [T_succ V _ t i _ ho2]
  refine D.ag_put ih ho (by omega) fun j hj => ?_
  by_cases h1 : j < i
  ·have h2 : j < i + 1 := by omega
   simp [h1, h2]
  ·by_cases h2 : j = i
   ·subst h2; simp
   ·have h3 : ¬ j < i + 1 := by omega
    have h4 : (j == i) = false := by simpa using h2
    simp [h1, h3, h4]
theorem PreOk.sees {ops : Array Oper} {k : Nat} {c : Nat → Nat → Bool} (D : PreOk ops k c) {V : Nat → AVal} {t s : Env} {L : Array Bool} (cl : Closed ops L) (g : Ag ops k V t (fun j => L.getD j false) s)
  {i : Nat} {o : Oper} (hi : ops[i]? = some o) (hk : i < k) (hkn : k ≤ ops.size) (hun : L.getD i false = false) (hrd : ∀ e ∈ o.after, Region.binds .any e = true → L.getD e.on false = true) :
  ∀ d ∈ o.looksAt ops, Av.T V (ops.toList.take k) t i d = s d := by
 intro d hd
 have gT := D.ag_T V t hkn i (by omega)
 by_cases hx : ∃ (j : Nat) (oj : Oper), j < k ∧ ops[j]? = some oj ∧ oj.dst = some d
 ·obtain ⟨j, oj, hj, hoj, hdj⟩ := hx
  have uniq : ∀ (j' : Nat) (o' : Oper), j' < k → ops[j']? = some o' → o'.dst = some d → j' = j := fun j' o' hj' ho' h1 => by
   rcases Nat.lt_trichotomy j' j with h3 | h3 | h3
   ·exact absurd hdj ((D.pre j' j o' oj ho' hoj h3 hj).2 d h1)
   ·exact h3
   ·exact absurd h1 ((D.pre j j' oj o' hoj ho' h3 hj').2 d hdj)
  rcases Nat.lt_trichotomy j i with h3 | h3 | h3
  ·have hc : c j i = true := by
    rcases (D.pre j i oj o hoj hi h3 hk).1 with h4 | h4
    ·exact h4
    ·exact absurd hd ((Oper.apart_spec h4).1 d hdj)
   have hl := D.bef cl i o hi hk j h3 hc hrd
   rw [gT.1 j oj d hj hoj (by simpa using h3) hdj, g.1 j oj d hj hoj hl hdj]
  ·subst h3
   rw [gT.2 d fun j' o' hj' ho' hp h1 => by have := uniq j' o' hj' ho' h1; subst this; simp at hp,
    g.2 d fun j' o' hj' ho' hp h1 => by have := uniq j' o' hj' ho' h1; subst this; simp only [hun] at hp; cases hp]
  ·have hc : c i j = true := by
    rcases (D.pre i j o oj hi hoj h3 hj).1 with h4 | h4
    ·exact h4
    ·exact absurd hd ((Oper.apart_spec h4).2.2 d hdj)
   have hl : L.getD j false = false := by
    cases hlj : L.getD j false with
    | false => rfl
    | true => have := D.bef cl j oj hoj hj i h3 hc (cl j oj hoj hlj); rw [hun] at this; cases this
   rw [gT.2 d fun j' o' hj' ho' hp h1 => by have := uniq j' o' hj' ho' h1; subst this; simp at hp; omega,
    g.2 d fun j' o' hj' ho' hp h1 => by have := uniq j' o' hj' ho' h1; subst this; simp only [hl] at hp; cases hp]
 ·have hn : ∀ (j : Nat) (oj : Oper), j < k → ops[j]? = some oj → oj.dst ≠ some d := fun j oj h1 h2 h3 => hx ⟨j, oj, h1, h2, h3⟩
  rw [gT.2 d fun j oj h1 h2 _ => hn j oj h1 h2, g.2 d fun j oj h1 h2 _ => hn j oj h1 h2]
def listK (n k : Nat) : Array Bool := ((List.range n).map fun i => decide (i < k)).toArray
section
variable {C : Ctx} {t : Env} {h : Heap}
def Rest (C : Ctx) (ops : Array Oper) (Q : Exit → Env → Heap → Prop) (fuel : Nat) (L : Array Bool) (t : Env) (h : Heap) : Prop :=
 ∀ md n, WPix C ops Q (Region.linearise.go md ops fuel n L []) t h
def RestM (C : Ctx) (ops : Array Oper) (Q : Exit → Env → Heap → Prop) (md : Region.Mode) (fuel : Nat) (L : Array Bool) (t : Env) (h : Heap) : Prop :=
 ∀ n, WPix C ops Q (Region.linearise.go md ops fuel n L []) t h
theorem ready_any {ops : Array Oper} {L : Array Bool} {md : Region.Mode} {i : Nat} (h : i ∈ Region.ready md ops L) : i ∈ Region.ready .any ops L := by
 obtain ⟨h1, o, h2, h3⟩ := mem_ready.1 h
 exact mem_ready.2 ⟨h1, o, h2, fun e he hb => h3 e he (binds_any hb)⟩
theorem Rest.nil {ops : Array Oper} {Q : Exit → Env → Heap → Prop} {L : Array Bool} (g : Q .normal t h) : Rest C ops Q 0 L t h := fun md n => by
 simpa [Region.linearise.go, WPix] using g
theorem Rest.step {ops : Array Oper} {Q : Exit → Env → Heap → Prop} {fuel : Nat} {L : Array Bool} (h1 : Region.ready .text ops L ≠ []) (h2 : Region.ready .gc ops L ≠ []) (h3 : Region.ready .any ops L ≠ [])
  (g : ∀ i ∈ Region.ready .any ops L, ∀ o, ops[i]? = some o → wpOper C ops o t h fun t' h' => Rest C ops Q fuel (L.setIfInBounds i true) t' h') : Rest C ops Q (fuel + 1) L t h := fun md n => by
 have hne : Region.ready md ops L ≠ [] := by cases md; exact h1; exact h2; exact h3
 obtain ⟨i, hi, hmem⟩ := getElem?_mod hne n
 rw [go_succ md ops fuel n L hi]
 obtain ⟨_, o, ho, _⟩ := mem_ready.1 hmem
 simp only [WPix, ho]
 exact wpOper_mono (g i (ready_any hmem) o ho) fun t' h' g' => g' md _
theorem pre_sound2 {ops : Array Oper} {Q : Exit → Env → Heap → Prop} {k : Nat} {c : Nat → Nat → Bool} (D : PreOk ops k c) (md : Region.Mode) (hless : ∀ (j : Nat) (oj : Oper), ops[j]? = some oj → j < k → ∀ e ∈ oj.after, Region.binds md e = true → e.on < j) (hkn : k ≤ ops.size) {V : Nat → AVal} {t0 : Env} {h : Heap} (ok : Nat → Prop)
  (hv : ∀ (i : Nat) (o : Oper), (ops.toList.take k)[i]? = some o → ok i → ∀ KK : AVal → Heap → Prop, KK (V i) h → wpOperV C ops o (Av.T V (ops.toList.take k) t0 i) h KK)
  (hK : RestM C ops Q md (ops.size - k) (listK ops.size k) (Av.T V (ops.toList.take k) t0 k) h) :
  ∀ (fuel n : Nat) (L : Array Bool) (s : Env), L.size = ops.size → left ops L = fuel → Closed ops L → (∀ j, j < ops.size → L.getD j false = true → j < k) → (∀ j, j < k → L.getD j false = false → ok j) → Ag ops k V t0 (fun j => L.getD j false) s →
   WPix C ops Q (Region.linearise.go md ops fuel n L []) s h := by
 have hlk : ∀ j, j < ops.size → (listK ops.size k).getD j false = decide (j < k) := fun j hj => by simp [listK, hj]
 have fin : ∀ (fuel n : Nat) (L : Array Bool) (s : Env), L.size = ops.size → left ops L = fuel → (∀ j, j < ops.size → L.getD j false = decide (j < k)) → Ag ops k V t0 (fun j => L.getD j false) s →
   WPix C ops Q (Region.linearise.go md ops fuel n L []) s h := fun fuel n L s hs hl hL ag => by
  have h1 := D.ag_T V t0 hkn k (Nat.le_refl _)
  have h2 : Ag ops k V t0 (fun j => decide (j < k)) s := ⟨fun j o x hj ho hp hd => ag.1 j o x hj ho (by show L.getD j false = true; rw [hL j (by omega)]; exact hp) hd,
   fun x hn => ag.2 x fun j o hj ho hp => hn j o hj ho (by simpa using hj)⟩
  have := h2.eq h1
  subst this
  have hsz : (listK ops.size k).size = ops.size := by simp [listK]
  have eL : L = listK ops.size k := by
   refine Array.ext (by rw [hs, hsz]) fun i h1 h2 => ?_
   have e1 := hL i (by omega)
   have e2 := hlk i (by omega)
   have := e1.trans e2.symm
   simpa [h1, h2] using this
  have el : fuel = ops.size - k := by
   rw [← hl]
   unfold left
   have : (List.range ops.size).filter (fun i => !L.getD i true) = (List.range ops.size).filter (fun i => decide (k ≤ i)) := List.filter_congr fun i hi => by
    have hi' := List.mem_range.1 hi
    have h3 : i < L.size := by omega
    have e1 := hL i hi'
    have e3 : L.getD i true = L.getD i false := by simp [h3]
    rw [e3, e1]
    by_cases hik : i < k
    ·have : ¬ k ≤ i := by omega
     simp [hik, this]
    ·have : k ≤ i := by omega
     simp [hik, this]
   rw [this]
   have cnt : ∀ n, k ≤ n → ((List.range n).filter fun i => decide (k ≤ i)).length = n - k := by
    intro n
    induction n with
    | zero => intro h; simp
    | succ n ih =>
     intro h
     rw [List.range_succ, List.filter_append, List.length_append]
     by_cases hkn2 : k ≤ n
     ·rw [ih hkn2]; simp [hkn2]; omega
     ·have hnil : (List.range n).filter (fun i => decide (k ≤ i)) = [] := by
       rw [List.filter_eq_nil_iff]
       intro i hi
       have := List.mem_range.1 hi
       simp; omega
      rw [hnil]; simp [hkn2]; omega
   exact cnt _ hkn
  subst eL; subst el
  exact hK n
 intro fuel
 induction fuel with
 | zero =>
  intro n L s hs hl cl hlt hun0 ag
  have hall := left_zero hs hl
  refine fin 0 n L s hs hl (fun j hj => ?_) ag
  rw [hall j hj]; have := hlt j hj (hall j hj); simp [this]
 | succ fuel ih =>
  intro n L s hs hl cl hlt hun0 ag
  by_cases hpre : ∀ j, j < k → L.getD j false = true
  ·refine fin (fuel + 1) n L s hs hl (fun j hj => ?_) ag
   by_cases hjk : j < k
   ·rw [hpre j hjk]; simp [hjk]
   ·cases hlj : L.getD j false with
    | false => simp [hjk]
    | true => exact absurd (hlt j hj hlj) hjk
  ·have hne : Region.ready md ops L ≠ [] := by
    have hex : ∃ i, i < k ∧ L.getD i false = false := by
     refine Classical.byContradiction fun hno => hpre fun j hj => ?_
     cases hlj : L.getD j false with
     | true => rfl
     | false => exact absurd ⟨j, hj, hlj⟩ hno
    have hmin : ∃ i, i < k ∧ L.getD i false = false ∧ ∀ j, j < i → L.getD j false = true := by
     obtain ⟨i, hi, hl⟩ := hex
     induction i using Nat.strongRecOn with
     | ind i ih =>
      by_cases hall : ∀ j, j < i → L.getD j false = true
      ·exact ⟨i, hi, hl, hall⟩
      ·have : ∃ j, j < i ∧ L.getD j false = false := Classical.byContradiction fun hno => hall fun j hj => by
        cases hlj : L.getD j false with
        | true => rfl
        | false => exact absurd ⟨j, hj, hlj⟩ hno
       obtain ⟨j, hj, hlj⟩ := this
       exact ih j hj (by omega) hlj
    obtain ⟨i, hi, hl, hall⟩ := hmin
    have hin : i < ops.size := by omega
    have h3 : i < L.size := by omega
    intro e
    have : i ∈ Region.ready md ops L := mem_ready.2 ⟨by simp [h3] at hl ⊢; exact hl, ops[i], Array.getElem?_eq_getElem hin, fun e he hb => hall _ (hless i _ (Array.getElem?_eq_getElem hin) hi e he hb)⟩
    rw [e] at this; cases this
   obtain ⟨i, hi, hmem⟩ := getElem?_mod hne n
   obtain ⟨hun, o, ho, hrd⟩ := mem_ready.1 hmem
   have hin := (Array.getElem?_eq_some_iff.1 ho).1
   have h3 : i < L.size := by omega
   have hun' : L.getD i false = false := by simp [h3] at hun ⊢; exact hun
   have hrd' : ∀ e ∈ o.after, Region.binds .any e = true → L.getD e.on false = true := fun e he hb => hrd e he (binds_any hb)
   by_cases hk : i < k
   ·rw [go_succ md ops fuel n L hi]
    simp only [WPix, ho]
    rw [wpOper_V]
    have ho2 : (ops.toList.take k)[i]? = some o := by rw [List.getElem?_take, if_pos hk]; simpa using ho
    rw [← wpOperV_congr (t := Av.T V (ops.toList.take k) t0 i) (D.sees cl ag ho hk hkn hun' hrd')]
    refine hv i o ho2 (hun0 i hk hun') _ ?_
    refine ih _ _ _ (by simpa using hs) (by have := left_set hs hin hun'; omega) (cl.set ho hrd') (fun j hj hlj => ?_) (fun j hj hlj => ?_) (D.ag_put ag ho hk fun j hj => ?_)
    ·by_cases hji : i = j
     ·subst hji; exact hk
     ·rw [getD_set_ne false hji] at hlj; exact hlt j hj hlj
    ·by_cases hji : i = j
     ·subst hji; simp [h3] at hlj
     ·rw [getD_set_ne false hji] at hlj; exact hun0 j hj hlj
    ·by_cases hji : i = j
     ·subst hji; simp [h3]
     ·rw [getD_set_ne false hji]
      have : (j == i) = false := by simp; exact fun e => hji e.symm
      rw [this, Bool.or_false]
   ·exfalso
    refine hpre fun j hj => ?_
    obtain ⟨e, he, hb, h1⟩ := D.sfx j i o ho hj (by omega)
    have h2 := hrd' e he hb
    rcases h1 with rfl | ⟨h4, h5, h6⟩
    ·exact h2
    ·have hoe : ops[e.on]? = some ops[e.on] := Array.getElem?_eq_getElem (by omega)
     exact D.bef cl e.on _ hoe h4 j h5 h6 fun e' he' hb' => cl e.on _ hoe h2 e' he' hb'
theorem WP_draw2 {id : Nat} {l : List Oper} {Q : Exit → Env → Heap → Prop} (k : Nat) (hok : (preOk l.toArray k && decide (k ≤ l.length)) = true)
  (hh : WPp C l.toArray (l.take k) t h fun t' => Rest C l.toArray Q (l.length - k) (listK l.length k) t' h) : WP C (.region id l.toArray true) Q t h := by
 simp only [Bool.and_eq_true, decide_eq_true_eq] at hok
 have D := preOk_spec hok.1
 obtain ⟨V, hv, hK⟩ := WPp_vals _ _ hh
 have hlen : (l.take k).length = k := by simp [hok.2]
 rw [hlen] at hK
 have main : ∀ md n, WPix C l.toArray Q (Region.linearise md l.toArray n) t h := fun md n => by
  unfold Region.linearise
  refine pre_sound2 D md (preOk_less hok.1 md) (by simpa using hok.2) (V := V) (t0 := t) (fun _ => True) (fun i o hi _ => hv i o hi) (fun n => by have := hK md n; simpa using this) _ _ _ _ (by simp) ?_ (fun j oj hj hl => ?_) (fun j hj hl => ?_) (fun _ _ _ => trivial) (Ag.start _ _ _ _ fun j hj => ?_)
  ·unfold left
   have : (List.range l.toArray.size).filter (fun i => !(Array.replicate l.toArray.size false).getD i true) = List.range l.toArray.size := by
    rw [List.filter_eq_self]
    intro i hi
    have := List.mem_range.1 hi
    have h8 : i < (Array.replicate l.toArray.size false).size := by simpa using this
    simp at this ⊢
    simp [this]
   rw [this, List.length_range]
  ·have h8 := (Array.getElem?_eq_some_iff.1 hj).1
   simp at h8 hl
   simp [h8] at hl
  ·simp at hj hl
   simp [hj] at hl
  ·have : j < l.length := by omega
   simp [this]
 show ∀ tp, WPix C l.toArray Q (Region.schedule (C.P.follows .mixedOrders) l.toArray tp) t h
 intro tp
 unfold Region.schedule
 split
 ·exact main _ _
 ·exact main _ _
theorem T_take (V V' : Nat → AVal) (k : Nat) (hV : ∀ i, i < k → V' i = V i) : ∀ (l l' : List Oper) (t : Env) (i : Nat), i ≤ k → l.take k = l'.take k → i ≤ l.length → i ≤ l'.length → Av.T V' l t i = Av.T V l' t i := by
 intro l l' t i
 induction i with
 | zero => intro _ _ _ _; rw [T_zero, T_zero]
 | succ i ih =>
  intro hi he h1 h2
  have e1 : l[i]? = some (l[i]'(by omega)) := List.getElem?_eq_getElem _
  have e2 : l'[i]? = some (l'[i]'(by omega)) := List.getElem?_eq_getElem _
  have e3 : l[i]? = l'[i]? := by
   have := congrArg (fun q => q[i]?) he
   simpa only [List.getElem?_take, if_pos (show i < k by omega)] using this
  rw [T_succ V' _ t i _ e1, T_succ V _ t i _ e2, ih (by omega) he (by omega) (by omega), hV i (by omega)]
  rw [e1, e2] at e3
  rw [Option.some.inj e3]
theorem pre_sound3 {ops : Array Oper} {Q : Exit → Env → Heap → Prop} {k : Nat} {c : Nat → Nat → Bool} (D : PreOk ops (k + 1) c) (md : Region.Mode) (hless : ∀ (j : Nat) (oj : Oper), ops[j]? = some oj → j < k + 1 → ∀ e ∈ oj.after, Region.binds md e = true → e.on < j) (hkn : k + 1 ≤ ops.size) {V : Nat → AVal} {t0 : Env} {h : Heap} {oe : Oper} (hoe : ops[k]? = some oe)
  (hv : ∀ (i : Nat) (o : Oper), i < k → ops[i]? = some o → ∀ KK : AVal → Heap → Prop, KK (V i) h → wpOperV C ops o (Av.T V ops.toList t0 i) h KK)
  (he : wpOperV C ops oe (Av.T V ops.toList t0 k) h fun v h' => (∀ (i : Nat) (o : Oper), i < k → ops[i]? = some o → c i k = false → ∀ KK : AVal → Heap → Prop, KK (V i) h' → wpOperV C ops o (Av.T V ops.toList t0 i) h' KK) ∧
   RestM C ops Q md (ops.size - (k + 1)) (listK ops.size (k + 1)) (put (Av.T V ops.toList t0 k) oe.dst v) h') :
  ∀ (fuel n : Nat) (L : Array Bool) (s : Env), L.size = ops.size → left ops L = fuel → Closed ops L → (∀ j, j < ops.size → L.getD j false = true → j < k) → Ag ops (k + 1) V t0 (fun j => L.getD j false) s →
   WPix C ops Q (Region.linearise.go md ops fuel n L []) s h := by
 have hT : ∀ (V' : Nat → AVal) (i : Nat), (∀ j, j < k → V' j = V j) → i ≤ k → Av.T V' (ops.toList.take (k + 1)) t0 i = Av.T V ops.toList t0 i := fun V' i hV hi =>
  T_take V V' k hV _ _ _ _ hi (by rw [List.take_take]; congr 1; omega) (by simp; omega) (by simp; omega)
 intro fuel
 induction fuel with
 | zero =>
  intro n L s hs hl cl hlt ag
  have := left_zero hs hl k (by omega)
  have := hlt k (by omega) this
  omega
 | succ fuel ih =>
  intro n L s hs hl cl hlt ag
  have hkun : L.getD k false = false := by
   cases hq : L.getD k false with
   | false => rfl
   | true => have := hlt k (by omega) hq; omega
  have hne : Region.ready md ops L ≠ [] := by
   have hmin : ∃ i, i < k + 1 ∧ L.getD i false = false ∧ ∀ j, j < i → L.getD j false = true := by
    have hex : ∃ i, i < k + 1 ∧ L.getD i false = false := ⟨k, by omega, hkun⟩
    obtain ⟨i, hi, hl⟩ := hex
    clear hl
    have hex : ∃ i, i < k + 1 ∧ L.getD i false = false := ⟨k, by omega, hkun⟩
    obtain ⟨i, hi, hl⟩ := hex
    induction i using Nat.strongRecOn with
    | ind i ih =>
     by_cases hall : ∀ j, j < i → L.getD j false = true
     ·exact ⟨i, hi, hl, hall⟩
     ·have : ∃ j, j < i ∧ L.getD j false = false := Classical.byContradiction fun hno => hall fun j hj => by
       cases hlj : L.getD j false with
       | true => rfl
       | false => exact absurd ⟨j, hj, hlj⟩ hno
      obtain ⟨j, hj, hlj⟩ := this
      exact ih j hj (by omega) hlj
   obtain ⟨i, hi, hl, hall⟩ := hmin
   have hin : i < ops.size := by omega
   have h3 : i < L.size := by omega
   intro e
   have : i ∈ Region.ready md ops L := mem_ready.2 ⟨by simp [h3] at hl ⊢; exact hl, ops[i], Array.getElem?_eq_getElem hin, fun e he hb => hall _ (hless i _ (Array.getElem?_eq_getElem hin) hi e he hb)⟩
   rw [e] at this; cases this
  obtain ⟨i, hi, hmem⟩ := getElem?_mod hne n
  obtain ⟨hun, o, ho, hrd⟩ := mem_ready.1 hmem
  have hin := (Array.getElem?_eq_some_iff.1 ho).1
  have h3 : i < L.size := by omega
  have hun' : L.getD i false = false := by simp [h3] at hun ⊢; exact hun
  have hrd' : ∀ e ∈ o.after, Region.binds .any e = true → L.getD e.on false = true := fun e he hb => hrd e he (binds_any hb)
  have hik : i < k + 1 := by
   refine Nat.lt_of_not_le fun hle => ?_
   obtain ⟨e, he, hb, h1⟩ := D.sfx k i o ho (by omega) hle
   have h2 := hrd' e he hb
   have hkl : L.getD k false = true := by
    rcases h1 with rfl | ⟨h4, h5, h6⟩
    ·exact h2
    ·have hoe : ops[e.on]? = some ops[e.on] := Array.getElem?_eq_getElem (by omega)
     exact D.bef cl e.on _ hoe h4 k h5 h6 fun e' he' hb' => cl e.on _ hoe h2 e' he' hb'
   rw [hkun] at hkl; cases hkl
  rw [go_succ md ops fuel n L hi]
  simp only [WPix, ho]
  rw [wpOper_V]
  have hsees := D.sees cl ag ho hik hkn hun' hrd'
  by_cases hk : i < k
  ·rw [hT V i (fun _ _ => rfl) (by omega)] at hsees
   rw [← wpOperV_congr (t := Av.T V ops.toList t0 i) hsees]
   refine hv i o hk ho _ ?_
   refine ih _ _ _ (by simpa using hs) (by have := left_set hs hin hun'; omega) (cl.set ho hrd') (fun j hj hlj => ?_) (D.ag_put ag ho hik fun j hj => ?_)
   ·by_cases hji : i = j
    ·subst hji; exact hk
    ·rw [getD_set_ne false hji] at hlj; exact hlt j hj hlj
   ·by_cases hji : i = j
    ·subst hji; simp [h3]
    ·rw [getD_set_ne false hji]
     have : (j == i) = false := by simp; exact fun e => hji e.symm
     rw [this, Bool.or_false]
  ·obtain rfl : i = k := by omega
   rw [hoe] at ho; cases ho
   rw [hT V i (fun _ _ => rfl) (Nat.le_refl _)] at hsees
   rw [← wpOperV_congr (t := Av.T V ops.toList t0 i) hsees]
   refine wpOperV_mono he fun v h' ⟨hv2, hrest⟩ => ?_
   have hV' : ∀ j, j < i → (fun j => if j = i then v else V j) j = V j := fun j hj => by simp only []; rw [if_neg (by omega)]
   have ag' : Ag ops (i + 1) (fun j => if j = i then v else V j) t0 (fun j => L.getD j false) s := by
    refine ⟨fun j o x hj hoj hp hd => ?_, ag.2⟩
    have hji : j ≠ i := fun e => by subst e; simp only [hun'] at hp; cases hp
    simp only [if_neg hji]
    exact ag.1 j o x hj hoj hp hd
   refine pre_sound2 D md hless hkn (V := fun j => if j = i then v else V j) (t0 := t0) (h := h') (fun j => j < i ∧ c j i = false) (fun j o hj hok KK hkk => ?_) ?_ _ _ _ _ (by simpa using hs) (by have := left_set hs hin hun'; omega) (cl.set hoe hrd') (fun j hj hlj => ?_) (fun j hj hlj => ?_) ?_
   ·have hoj : ops[j]? = some o := by
     rw [List.getElem?_take, if_pos (by omega)] at hj
     simpa using hj
    rw [hT _ j hV' (by omega)]
    simp only [if_neg (show ¬ j = i by omega)] at hkk
    exact hv2 j o hok.1 hoj hok.2 KK hkk
   ·have e1 : (ops.toList.take (i + 1))[i]? = some oe := by rw [List.getElem?_take, if_pos (by omega)]; simpa using hoe
    rw [T_succ _ _ _ _ _ e1, hT _ i hV' (Nat.le_refl _)]
    simpa using hrest
   ·by_cases hji : i = j
    ·omega
    ·rw [getD_set_ne false hji] at hlj; have := hlt j hj hlj; omega
   ·have hji : i ≠ j := fun e => by subst e; simp [h3] at hlj
    rw [getD_set_ne false hji] at hlj
    refine ⟨by omega, ?_⟩
    cases hc : c j i with
    | false => rfl
    | true =>
     have := D.bef cl i oe hoe (by omega) j (by omega) hc hrd'
     rw [hlj] at this; cases this
   ·have := D.ag_put ag' (p' := fun j => (L.setIfInBounds i true).getD j false) hoe (by omega) fun j hj => by
     by_cases hji : i = j
     ·subst hji; simp [h3]
     ·rw [getD_set_ne false hji]
      have : (j == i) = false := by simp; exact fun e => hji e.symm
      rw [this, Bool.or_false]
    simpa using this
theorem WP_draw3 {id : Nat} {l : List Oper} {Q : Exit → Env → Heap → Prop} (k : Nat) (oe : Oper) (hoe : l[k]? = some oe) (hok : preOk l.toArray (k + 1) = true) (V : Nat → AVal)
  (hv : ∀ (i : Nat) (o : Oper), i < k → l[i]? = some o → ∀ KK : AVal → Heap → Prop, KK (V i) h → wpOperV C l.toArray o (Av.T V l t i) h KK)
  (he : wpOperV C l.toArray oe (Av.T V l t k) h fun v h' => (∀ (i : Nat) (o : Oper), i < k → l[i]? = some o → ((Region.before l.toArray).getD k 0).testBit i = false → ∀ KK : AVal → Heap → Prop, KK (V i) h' → wpOperV C l.toArray o (Av.T V l t i) h' KK) ∧
   Rest C l.toArray Q (l.length - (k + 1)) (listK l.length (k + 1)) (put (Av.T V l t k) oe.dst v) h') : WP C (.region id l.toArray true) Q t h := by
 have D := preOk_spec hok
 have hkl := (List.getElem?_eq_some_iff.1 hoe).1
 have main : ∀ md n, WPix C l.toArray Q (Region.linearise md l.toArray n) t h := fun md n => by
  unfold Region.linearise
  refine pre_sound3 D md (preOk_less hok md) (by simp; omega) (V := V) (t0 := t) (oe := oe) (by simpa using hoe) (fun i o hi ho => hv i o hi (by simpa using ho)) ?_ _ _ _ _ (by simp) ?_ (fun j oj hj hl => ?_) (fun j hj hl => ?_) (Ag.start _ _ _ _ fun j hj => ?_)
  ·refine wpOperV_mono he fun v h' ⟨h1, h2⟩ => ⟨fun i o hi ho hc => h1 i o hi (by simpa using ho) hc, fun n => by have := h2 md n; simpa using this⟩
  ·unfold left
   have : (List.range l.toArray.size).filter (fun i => !(Array.replicate l.toArray.size false).getD i true) = List.range l.toArray.size := by
    rw [List.filter_eq_self]
    intro i hi
    have := List.mem_range.1 hi
    have h8 : i < (Array.replicate l.toArray.size false).size := by simpa using this
    simp at this ⊢
    simp [this]
   rw [this, List.length_range]
  ·have h8 := (Array.getElem?_eq_some_iff.1 hj).1
   simp at h8 hl
   simp [h8] at hl
  ·simp at hj hl
   simp [hj] at hl
  ·have : j < l.length := by omega
   simp [this]
 show ∀ tp, WPix C l.toArray Q (Region.schedule (C.P.follows .mixedOrders) l.toArray tp) t h
 intro tp
 unfold Region.schedule
 split
 ·exact main _ _
 ·exact main _ _
end
end Go.Av
namespace Go.Av
open Go.RowKit
inductive Tr where
 | lf
 | nd (l : Tr) (v : AVal) (r : Tr)
namespace Tr
def get : Tr → Nat → AVal
 | .lf, _ => undefA
 | .nd _ v _, 0 => v
 | .nd l _ r, i + 1 => match i % 2 with
  | 0 => l.get (i / 2)
  | _ => r.get (i / 2)
def set : Tr → Nat → AVal → Tr
 | .lf, _, _ => .lf
 | .nd l _ r, 0, x => .nd l x r
 | .nd l v r, i + 1, x => match i % 2 with
  | 0 => .nd (l.set (i / 2) x) v r
  | _ => .nd l v (r.set (i / 2) x)
def mk : Nat → Tr
 | 0 => .lf
 | d + 1 => .nd (mk d) undefA (mk d)
def Full : Nat → Tr → Prop
 | 0, _ => True
 | k + 1, .nd l _ r => Full k l ∧ Full k r
 | _ + 1, .lf => False
theorem full_mk : ∀ k, Full k (mk k)
 | 0 => trivial
 | k + 1 => ⟨full_mk k, full_mk k⟩
theorem full_set : ∀ (k : Nat) (t : Tr) (i : Nat) (x : AVal), Full k t → Full k (t.set i x)
 | 0, _, _, _, _ => trivial
 | k + 1, .nd l v r, 0, x, h => h
 | k + 1, .nd l v r, i + 1, x, h => by
  simp only [set]
  split
  ·exact ⟨full_set k l _ x h.1, h.2⟩
  ·exact ⟨h.1, full_set k r _ x h.2⟩
theorem get_mk : ∀ (k i : Nat), (mk k).get i = undefA
 | 0, i => rfl
 | k + 1, 0 => rfl
 | k + 1, i + 1 => by
  simp only [mk, get]
  split <;> exact get_mk k _
theorem get_set : ∀ (k : Nat) (t : Tr) (i j : Nat) (x : AVal), Full k t → i + 1 < 2 ^ k → (t.set i x).get j = if j = i then x else t.get j
 | 0, t, i, j, x, _, h => by simp at h
 | k + 1, .nd l v r, 0, 0, x, _, _ => rfl
 | k + 1, .nd l v r, 0, j + 1, x, _, _ => rfl
 | k + 1, .nd l v r, i + 1, 0, x, _, _ => by simp only [set]; split <;> rfl
 | k + 1, .nd l v r, i + 1, j + 1, x, hf, h => by
  have hp : 2 ^ (k + 1) = 2 * 2 ^ k := by rw [Nat.pow_succ, Nat.mul_comm]
  rw [hp] at h
  have hk : i / 2 + 1 < 2 ^ k := by omega
  simp only [set]
  split
  ·rename_i hi
   simp only [get]
   split
   ·rename_i hj
    rw [get_set k l (i / 2) (j / 2) x hf.1 hk]
    by_cases e : j = i
    ·subst e; simp
    ·rw [if_neg (by omega), if_neg (by omega)]
   ·rename_i hj
    rw [if_neg (by intro e; have : j = i := (by omega); subst this; exact hj hi)]
  ·rename_i hi
   simp only [get]
   split
   ·rename_i hj
    rw [if_neg (by intro e; have : j = i := (by omega); subst this; exact hi hj)]
   ·rename_i hj
    have hi' : i % 2 = 1 := (Nat.mod_two_eq_zero_or_one i).resolve_left hi
    have hj' : j % 2 = 1 := (Nat.mod_two_eq_zero_or_one j).resolve_left hj
    rw [get_set k r (i / 2) (j / 2) x hf.2 hk]
    by_cases e : j = i
    ·subst e; simp
    ·rw [if_neg (by omega), if_neg (by omega)]
def beq : Tr → Tr → Bool
 | .lf, .lf => true
 | .nd l v r, .nd l' v' r' => beqA v v' && (l.beq l' && r.beq r')
 | _, _ => false
theorem beq_ok : ∀ (a b : Tr), beq a b = true → a = b
 | .lf, .lf, _ => rfl
 | .lf, .nd _ _ _, h => by simp [beq] at h
 | .nd _ _ _, .lf, h => by simp [beq] at h
 | .nd l v r, .nd l' v' r', h => by
  simp only [beq, Bool.and_eq_true] at h
  rw [beqA_ok _ _ h.1, beq_ok l l' h.2.1, beq_ok r r' h.2.2]
end Tr
def envL (ts : Tr) : Env := ts.get
def putL (ts : Tr) (d : Option Nat) (v : AVal) : Tr := match d with | some d => ts.set d v | none => ts
def okDst (n : Nat) (o : Oper) : Bool := match o.dst with | some d => decide (d < n) | none => true
def kOf (n : Nat) : Nat := Nat.log2 (n + 1) + 1
def argsT : Tr → Nat → List AVal → Tr
 | t, _, [] => t
 | t, i, x :: l => argsT (t.set i x) (i + 1) l
theorem putL_full {k0 : Nat} (ts : Tr) (d : Option Nat) (v : AVal) (h : Tr.Full k0 ts) : Tr.Full k0 (putL ts d v) := by
 cases d
 ·exact h
 ·exact Tr.full_set _ _ _ _ h
theorem envL_put {k0 n : Nat} {ts : Tr} {d : Option Nat} {v : AVal} (hf : Tr.Full k0 ts) (hn : n + 1 < 2 ^ k0) (hd : ∀ i, d = some i → i < n) : envL (putL ts d v) = put (envL ts) d v := by
 cases d with
 | none => rfl
 | some d =>
  have hlt := hd d rfl
  funext i
  simp only [putL, put, envL, upd]
  exact Tr.get_set k0 ts d i v hf (by omega)
theorem argsT_full {k0 : Nat} : ∀ (l : List AVal) (t : Tr) (i : Nat), Tr.Full k0 t → Tr.Full k0 (argsT t i l)
 | [], _, _, h => h
 | x :: l, t, i, h => argsT_full l _ _ (Tr.full_set _ _ _ _ h)
theorem argsT_get {k0 : Nat} : ∀ (l : List AVal) (t : Tr) (i j : Nat), Tr.Full k0 t → i + l.length + 1 < 2 ^ k0 → (argsT t i l).get j = if i ≤ j ∧ j < i + l.length then l.getD (j - i) undefA else t.get j
 | [], t, i, j, _, _ => by rw [if_neg (by simp)]; rfl
 | x :: l, t, i, j, h, hn => by
  simp only [List.length_cons] at hn ⊢
  rw [argsT, argsT_get l _ _ _ (Tr.full_set _ _ _ _ h) (by omega), Tr.get_set k0 t i j x h (by omega)]
  by_cases h1 : j = i
  ·subst h1
   rw [if_neg (by omega), if_pos rfl, if_pos (by omega)]; simp
  ·by_cases h2 : i + 1 ≤ j ∧ j < i + 1 + l.length
   ·rw [if_pos h2, if_pos (by omega)]
    have : j - i = (j - (i + 1)) + 1 := by omega
    rw [this]; simp
   ·rw [if_neg h2, if_neg h1, if_neg (by omega)]
section
variable (C : Ctx)
def callP (call : CallX) (g : FuncId) (args : List AVal) (h : Heap) : Option AVal := match call g args h with
 | some (r, h1) => if begH h h1 = true then frzX h1 h.length 20 r else none
 | none => none
def heldX (call : CallX) (o : Op) (t : Env) (h : Heap) : Option AVal := match pureX C o t h with
 | some v => some v
 | none => match o with
  | .buildSlice T len parts => match rowsX C T len (parts.toList.map (·.1)) (parts.toList.map fun q => aev C.G t q.2) h with
   | some (.ez, _) => some .ez
   | some (.hs _ _ _ _ _, _) => match (elmT C.P T).bind (szOf C.P) with | some n => some (.sl n (parts.toList.map fun q => aev C.G t q.2)) | none => none
   | _ => none
  | .call c => match c.callee with
   | .value f => match aev C.G t f with
    | .fn (.func g) first captured => callP call g (first ++ c.args.toList.map (aev C.G t) ++ captured) h
    | _ => none
   | _ => none
  | _ => none
def isHeldB : Op → Bool
 | .buildSlice _ _ _ => true
 | .move _ | .assign _ | .pick _ _ _ | .load _ _ | .nilCheck _ | .binOp _ _ _ _ _ | .unOp _ _ _ | .convert _ _ _ | .makeInterface _ _ | .makeFunc _ _ _ | .slice _ _ _ _ _
 | .fieldAddr _ _ _ | .field _ _ _ | .indexAddr _ _ _ | .index _ _ _ | .extract _ _ | .build _ _ => true
 | .call c => match c.callee with | .builtin .len => true | .builtin .max => true | .builtin .min => true | .builtin .unsafeSliceData => true | .value _ => true | _ => false
 | _ => false
def drawK (l : List Oper) : List Nat := match (List.range (l.length + 1)).reverse.filter (fun k => (l.take k).all (fun o => isHeldB o.op) && (preOk l.toArray k && decide (k ≤ l.length))) with
 | [] => []
 | m :: rest => (m :: rest).filter fun k => decide (m ≤ k + 2)
theorem drawK_mem {l : List Oper} {k : Nat} (h : k ∈ drawK l) : ((l.take k).all (fun o => isHeldB o.op) && (preOk l.toArray k && decide (k ≤ l.length))) = true := by
 unfold drawK at h
 split at h
 ·cases h
 ·rename_i m rest hq
  have h1 := (List.mem_filter.1 h).1
  rw [← hq] at h1
  exact (List.mem_filter.1 h1).2
def drawE (l : List Oper) : Option (Nat × Oper) := match drawK l with
 | _ :: _ => let k := (l.takeWhile fun o => isHeldB o.op).length
  match l[k]? with
  | some oe => if preOk l.toArray (k + 1) = true then some (k, oe) else none
  | none => none
 | [] => none
def operX (call : CallX) (ops : Array Oper) (o : Oper) (ts : Tr) (h : Heap) : Option (Tr × Heap) :=
 match o.guard with
 | none => match opX C call o.op (envL ts) h with | some (v, h') => some (putL ts o.dst v, h') | none => none
 | some (j, want) => match guardA ops (envL ts) j with
  | some b => if b = some want then (match opX C call o.op (envL ts) h with | some (v, h') => some (putL ts o.dst v, h') | none => none) else some (putL ts o.dst undefA, h)
  | none => none
def operPX (call : CallX) (ops : Array Oper) (o : Oper) (ts : Tr) (h : Heap) : Option AVal :=
 match o.guard with
 | none => heldX C call o.op (envL ts) h
 | some (j, want) => match guardA ops (envL ts) j with
  | some b => if b = some want then heldX C call o.op (envL ts) h else some undefA
  | none => none
def lX (call : CallX) (ops : Array Oper) : List Oper → Tr → Heap → Option (Tr × Heap)
 | [], ts, h => some (ts, h)
 | o :: rest, ts, h => match operX C call ops o ts h with | some (ts', h') => lX call ops rest ts' h' | none => none
def sameTH (x y : Tr × Heap) : Bool := Tr.beq x.1 y.1 && (decide (x.2.length = y.2.length) && begH x.2 y.2)
def dedup : List (Tr × Heap) → List (Tr × Heap)
 | [] => []
 | x :: l => if l.any (sameTH x) = true then dedup l else x :: dedup l
def bindO {α β : Type} (f : α → Option (List β)) : List α → Option (List β)
 | [] => some []
 | x :: l => match f x with
  | some ys => match bindO f l with | some zs => some (ys ++ zs) | none => none
  | none => none
def sufX (call : CallX) (ops : Array Oper) : Nat → Array Bool → Tr → Heap → Option (List (Tr × Heap))
 | 0, _, ts, h => some [(ts, h)]
 | f + 1, L, ts, h => if (Region.ready .text ops L).isEmpty = false ∧ (Region.ready .gc ops L).isEmpty = false then
   match bindO (fun i => match ops[i]? with
    | some o => match operX C call ops o ts h with | some (ts', h') => sufX call ops f (L.setIfInBounds i true) ts' h' | none => none
    | none => none) (Region.ready .any ops L) with
   | some rs => some rs
   | none => none
  else none
def pX (call : CallX) (ops : Array Oper) : List Oper → Tr → Heap → Option Tr
 | [], ts, _ => some ts
 | o :: rest, ts, h => match operPX C call ops o ts h with | some v => pX call ops rest (putL ts o.dst v) h | none => none
def pXt (call : CallX) (ops : Array Oper) : List Oper → Tr → Heap → Option (List (Tr × AVal) × Tr)
 | [], ts, _ => some ([], ts)
 | o :: rest, ts, h => match operPX C call ops o ts h with
  | some v => match pXt call ops rest (putL ts o.dst v) h with
   | some (l, ts') => some ((ts, v) :: l, ts')
   | none => none
  | none => none
def sameX (call : CallX) (ops : Array Oper) (cb : Nat → Bool) (h' : Heap) : Nat → List Oper → List (Tr × AVal) → Bool
 | _, [], [] => true
 | i, o :: rest, (ts, v) :: l => (cb i || (match operPX C call ops o ts h' with | some v' => beqA v' v | none => false)) && sameX call ops cb h' (i + 1) rest l
 | _, _, _ => false
def drawX3 (call : CallX) (l : List Oper) (ts : Tr) (h : Heap) : Option (List (Tr × Heap)) := match drawE l with
 | some (k, oe) => match pXt C call ⟨l⟩ (l.take k) ts h with
  | some (vs, ts1) => match operX C call ⟨l⟩ oe ts1 h with
   | some (ts2, h') => if sameX C call ⟨l⟩ (fun i => ((Region.before l.toArray).getD k 0).testBit i) h' 0 (l.take k) vs = true then
     sufX C call ⟨l⟩ (l.length - (k + 1)) (listK l.length (k + 1)) ts2 h' else none
   | none => none
  | none => none
 | none => none
abbrev Outs := List (Exit × Tr × Heap)
def iterX (body : Tr → Heap → Option Outs) : Nat → Tr → Heap → Option Outs
 | 0, _, _ => none
 | n + 1, ts, h => match body ts h with
  | some rs => bindO (fun r => match r with
   | (.normal, ts', h') => iterX body n ts' h'
   | r => some [r]) rs
  | none => none
def codeX (call : CallX) (lf : Nat) : Code → Tr → Heap → Option Outs
 | .skip, ts, h => some [(.normal, ts, h)]
 | .label _, ts, h => some [(.normal, ts, h)]
 | .exit id, ts, h => some [(.exit id, ts, h)]
 | .ret, ts, h => some [(.ret, ts, h)]
 | .region _ ⟨l⟩ false, ts, h => match lX C call ⟨l⟩ l ts h with | some (ts', h') => some [(.normal, ts', h')] | none => none
 | .region _ ⟨l⟩ true, ts, h => match drawX3 C call l ts h with
  | some rs => some ((dedup rs).map fun q => (.normal, q.1, q.2))
  | none => match (drawK l).findSome? (fun k => match pX C call ⟨l⟩ (l.take k) ts h with
   | some ts1 => sufX C call ⟨l⟩ (l.length - k) (listK l.length k) ts1 h
   | none => none) with
   | some rs => some ((dedup rs).map fun q => (.normal, q.1, q.2))
   | none => none
 | .seq a b, ts, h => match codeX call lf a ts h with
  | some rs => bindO (fun r => match r with
   | (.normal, ts', h') => codeX call lf b ts' h'
   | r => some [r]) rs
  | none => none
 | .cond c a b, ts, h => match aev C.G (envL ts) c with
  | .bool true => codeX call lf a ts h
  | .bool false => codeX call lf b ts h
  | _ => none
 | .block id c, ts, h => match codeX call lf c ts h with
  | some rs => some (rs.map fun r => match r with
   | (.exit id', ts', h') => if id' = id then (.normal, ts', h') else (.exit id', ts', h')
   | r => r)
  | none => none
 | .scope c, ts, h => match codeX call lf c ts h with
  | some rs => bindO (fun r => match r with
   | (.goto _, _, _) => none
   | r => some [r]) rs
  | none => none
 | .loop c, ts, h => iterX (fun ts h => codeX call lf c ts h) lf ts h
 | _, _, _ => none
def endX (fn : Func) (r : Exit × Tr × Heap) : Option (AVal × Heap) := match r with
 | (.normal, ts, h') => match resA C (envL ts) h' fn.results.toList with | some r => some (r, h') | none => none
 | (.ret, ts, h') => match resA C (envL ts) h' fn.results.toList with | some r => some (r, h') | none => none
 | _ => none
def mergeH : Heap → Heap → Option Heap
 | [], [] => some []
 | a :: l, b :: m => match mergeH l m with
  | some q => some ((if beqB a b = true then a else .dead) :: q)
  | none => none
 | _, _ => none
def mergeAH (x y : AVal × Heap) : Option (AVal × Heap) := if beqA x.1 y.1 = true then (match mergeH x.2 y.2 with | some q => some (x.1, q) | none => none) else none
def allX (fn : Func) : Outs → Option (AVal × Heap)
 | [] => none
 | [r] => endX C fn r
 | r :: rest => match endX C fn r, allX fn rest with
  | some x, some y => mergeAH x y
  | _, _ => none
def callX (orc : FuncId → List AVal → Option AVal) (lf : Nat) : Nat → CallX
 | 0, _, _, _ => none
 | n + 1, f, args, h => match orc f args with
  | some r => some (r, h)
  | none => match C.P.funcs[f]? with
   | none => none
   | some fn => match fn.body with
    | none => none
    | some c => if (fn.name == "runtime.NumGoroutine") = false ∧ okCode fn.ntmps c = true ∧ fn.results.toList.all (okRes fn.ntmps) = true ∧ args.length ≤ fn.ntmps ∧ fn.ntmps + 1 < 2 ^ kOf fn.ntmps then
      match codeX C (callX orc lf n) lf c (argsT (Tr.mk (kOf fn.ntmps)) 0 args) h with
      | some rs => allX C fn rs
      | none => none
     else none
variable {C} {h h' : Heap} {call : CallX} {k0 : Nat}
def CallOk (C : Ctx) (call : CallX) : Prop := ∀ f args h r h', call f args h = some (r, h') → Sat C f args h fun r2 h2 => r2 = r ∧ h2 = h'
theorem operX_ok (hcall : CallOk C call) {ops : Array Oper} {o : Oper} {n : Nat} (hn : n + 1 < 2 ^ k0) {ts ts' : Tr} (hF : Tr.Full k0 ts) (ho : okDst n o = true) (g : operX C call ops o ts h = some (ts', h')) {K : Env → Heap → Prop} (hk : K (envL ts') h') :
  wpOper C ops o (envL ts) h K ∧ Tr.Full k0 ts' := by
 have hd : ∀ i, o.dst = some i → i < n := fun i e => by simpa [okDst, e] using ho
 unfold operX at g; unfold wpOper
 split at g
 ·rename_i hg; rw [hg]; simp only []
  split at g
  ·rename_i e; cases g
   exact ⟨opX_ok hcall e (by rw [← envL_put hF hn hd]; exact hk), putL_full _ _ _ hF⟩
  ·cases g
 ·rename_i hg; rw [hg]; simp only []
  split at g
  ·rename_i hq; rw [hq]; simp only []
   split at g
   ·rename_i hb
    split at g
    ·rename_i e; cases g
     exact ⟨⟨fun _ => opX_ok hcall e (by rw [← envL_put hF hn hd]; exact hk), fun hn => absurd hb hn⟩, putL_full _ _ _ hF⟩
    ·cases g
   ·rename_i hb; cases g
    exact ⟨⟨fun hn => absurd hn hb, fun _ => by rw [← envL_put hF hn hd]; exact hk⟩, putL_full _ _ _ hF⟩
  ·cases g
theorem lX_ok (hcall : CallOk C call) {n : Nat} (hn : n + 1 < 2 ^ k0) {ops : Array Oper} {Q : Exit → Env → Heap → Prop} : ∀ (l : List Oper) {ts ts' : Tr} {h h' : Heap}, Tr.Full k0 ts → (∀ o ∈ l, okDst n o = true) → lX C call ops l ts h = some (ts', h') → Q .normal (envL ts') h' →
  WPl C ops Q l (envL ts) h ∧ Tr.Full k0 ts'
 | [], ts, ts', h, h', hF, _, g, hq => by
  simp only [lX, Option.some.injEq, Prod.mk.injEq] at g
  obtain ⟨rfl, rfl⟩ := g
  exact ⟨hq, hF⟩
 | o :: rest, ts, ts', h, h', hF, ho, g, hq => by
  unfold lX at g
  split at g
  ·rename_i ts1 h1 e
   have hF1 := (operX_ok hcall hn hF (ho o (by simp)) e (K := fun _ _ => True) trivial).2
   have ih := lX_ok hcall hn (ops := ops) (Q := Q) rest hF1 (fun o hm => ho o (by simp [hm])) g hq
   unfold WPl
   exact ⟨(operX_ok hcall hn hF (ho o (by simp)) e ih.1).1, ih.2⟩
  ·cases g
theorem sameTH_ok {x y : Tr × Heap} (h : sameTH x y = true) : x = y := by
 simp only [sameTH, Bool.and_eq_true, decide_eq_true_eq] at h
 obtain ⟨h1, h2, h3⟩ := h
 have e := begH_ok h3
 rw [h2, List.take_length] at e
 exact Prod.ext (Tr.beq_ok _ _ h1) e.symm
theorem dedup_mem : ∀ {l : List (Tr × Heap)}, ∀ x ∈ l, x ∈ dedup l
 | [], x, h => by cases h
 | a :: l, x, h => by
  simp only [dedup]
  rcases List.mem_cons.1 h with rfl | h
  ·split
   ·rename_i hs
    obtain ⟨y, hy, e⟩ := List.any_eq_true.1 hs
    rw [sameTH_ok e]; exact dedup_mem y hy
   ·simp
  ·have := dedup_mem (l := l) x h
   split
   ·exact this
   ·simp [this]
theorem dedup_sub : ∀ {l : List (Tr × Heap)}, ∀ x ∈ dedup l, x ∈ l
 | [], x, h => by cases h
 | a :: l, x, h => by
  simp only [dedup] at h
  split at h
  ·exact List.mem_cons_of_mem _ (dedup_sub x h)
  ·rcases List.mem_cons.1 h with rfl | h
   ·simp
   ·exact List.mem_cons_of_mem _ (dedup_sub x h)
theorem bindO_ok {α β : Type} {f : α → Option (List β)} : ∀ {l : List α} {m : List β}, bindO f l = some m → (∀ x ∈ l, ∃ ys, f x = some ys ∧ ∀ y ∈ ys, y ∈ m) ∧ ∀ y ∈ m, ∃ x ∈ l, ∃ ys, f x = some ys ∧ y ∈ ys
 | [], m, h => by simp only [bindO, Option.some.injEq] at h; subst h; exact ⟨fun x hx => (by cases hx), fun y hy => (by cases hy)⟩
 | a :: l, m, h => by
  simp only [bindO] at h
  split at h
  ·rename_i ys hy
   split at h
   ·rename_i zs hz; cases h
    obtain ⟨h1, h2⟩ := bindO_ok hz
    refine ⟨fun x hx => ?_, fun y hm => ?_⟩
    ·rcases List.mem_cons.1 hx with rfl | hx
     ·exact ⟨ys, hy, fun y h => List.mem_append_left _ h⟩
     ·obtain ⟨q, k1, k2⟩ := h1 x hx
      exact ⟨q, k1, fun y h => List.mem_append_right _ (k2 y h)⟩
    ·rcases List.mem_append.1 hm with hm | hm
     ·exact ⟨a, by simp, ys, hy, hm⟩
     ·obtain ⟨x, k1, q, k2, k3⟩ := h2 y hm
      exact ⟨x, by simp [k1], q, k2, k3⟩
   ·cases h
  ·cases h
theorem sufX_ok (hcall : CallOk C call) {n : Nat} (hn : n + 1 < 2 ^ k0) {ops : Array Oper} {Q : Exit → Env → Heap → Prop} (ho : ∀ o ∈ ops.toList, okDst n o = true) : ∀ (f : Nat) {L : Array Bool} {ts : Tr} {h : Heap} {rs : List (Tr × Heap)}, Tr.Full k0 ts → sufX C call ops f L ts h = some rs →
  (∀ r ∈ rs, Q .normal (envL r.1) r.2) → Rest C ops Q f L (envL ts) h ∧ (∀ r ∈ rs, Tr.Full k0 r.1) := by
 intro f
 induction f with
 | zero =>
  intro L ts h rs hF g hq
  simp only [sufX, Option.some.injEq] at g
  subst g
  exact ⟨Rest.nil (hq (ts, h) (by simp)), fun r hr => by simp at hr; rw [hr]; exact hF⟩
 | succ f ih =>
  intro L ts h rs hF g hq
  simp only [sufX] at g
  split at g
  ·rename_i hr
   split at g
   ·rename_i rs1 hm; cases g
    obtain ⟨b1, b2⟩ := bindO_ok hm
    have hmem : ∀ (i : Nat) (o : Oper), ops[i]? = some o → o ∈ ops.toList := fun i o e => by simpa using Array.mem_of_getElem? e
    have at_ : ∀ i, ∀ ys, (match ops[i]? with
      | some o => match operX C call ops o ts h with | some (ts', h') => sufX C call ops f (L.setIfInBounds i true) ts' h' | none => none
      | none => none) = some ys → ∃ o ts1 h1, ops[i]? = some o ∧ operX C call ops o ts h = some (ts1, h1) ∧ sufX C call ops f (L.setIfInBounds i true) ts1 h1 = some ys := fun i ys e => by
     split at e
     ·rename_i o hoi
      split at e
      ·rename_i ts1 h1 e1; exact ⟨o, ts1, h1, hoi, e1, e⟩
      ·cases e
     ·cases e
    have hany : Region.ready .any ops L ≠ [] := fun e => by
     have h1 := hr.1
     cases hx : Region.ready .text ops L with
     | nil => rw [hx] at h1; simp at h1
     | cons i l =>
      have : i ∈ Region.ready .any ops L := ready_any (md := .text) (by rw [hx]; simp)
      rw [e] at this; cases this
    refine ⟨Rest.step (fun e => by rw [e] at hr; simp at hr) (fun e => by rw [e] at hr; simp at hr) hany fun i hi o hoi => ?_, fun r hr => ?_⟩
    ·obtain ⟨ys, hys, hsub⟩ := b1 i hi
     obtain ⟨o', ts1, h1, e1, e2, e3⟩ := at_ i ys hys
     rw [hoi] at e1; cases e1
     have hF1 := (operX_ok hcall hn hF (ho o (hmem i o hoi)) e2 (K := fun _ _ => True) trivial).2
     exact (operX_ok hcall hn hF (ho o (hmem i o hoi)) e2 (ih hF1 e3 (fun r hr => hq r (hsub r hr))).1).1
    ·obtain ⟨i, hi, ys, hys, hry⟩ := b2 r hr
     obtain ⟨o', ts1, h1, e1, e2, e3⟩ := at_ i ys hys
     have hF1 := (operX_ok hcall hn hF (ho o' (hmem i o' e1)) e2 (K := fun _ _ => True) trivial).2
     obtain ⟨ys', hys', hsub⟩ := b1 i hi
     rw [hys] at hys'; cases hys'
     exact (ih hF1 e3 (fun r hr => hq r (hsub r hr))).2 r hry
   ·cases g
  ·cases g
theorem callP_ok (hcall : CallOk C call) {g : FuncId} {args : List AVal} {v : AVal} (e : callP call g args h = some v) : Sat C g args h fun r2 h2 => r2 = v ∧ h2 = h := by
 unfold callP at e
 split at e
 ·rename_i hc
  split at e
  ·rename_i hb
   exact (hcall _ _ _ _ _ hc).letgo (begH_ok hb) (frzX_ok _ _ _ _ _ e)
  ·cases e
 ·cases e
theorem heldX_ok (hcall : CallOk C call) {o : Op} {t : Env} {v : AVal} (e : heldX C call o t h = some v) {K : AVal → Heap → Prop} (hk : K v h) : wpOp C o t h K := by
 unfold heldX at e
 split at e
 ·rename_i hp; cases e; exact pureX_ok hp hk
 ·split at e
  ·rename_i T len parts _
   unfold wpOp; simp only []
   unfold rowsX at e
   cases he : elmT C.P T with
   | none => rw [he] at e; cases e
   | some el =>
    rw [he] at e
    simp only [] at e
    refine need_of rfl ?_
    cases hn : szOf C.P el with
    | none => rw [hn] at e; cases e
    | some n =>
     rw [hn] at e
     simp only [] at e
     refine need_of rfl ?_
     by_cases h0 : len = 0
     ·rw [if_pos h0] at e ⊢
      by_cases hp : (parts.toList.map (·.1)).length = 0
      ·rw [if_pos hp] at e; simp only [Option.some.injEq] at e; subst e; exact ⟨by simpa using hp, hk⟩
      ·rw [if_neg hp] at e; cases e
     ·rw [if_neg h0] at e ⊢
      split at e
      ·rename_i hh
       split at hh
       ·cases hh
       ·cases hh
      ·rename_i hh
       split at hh
       ·rename_i hs
        obtain ⟨s1, s2, s3, s4, s5, s6⟩ := hs
        simp only [Option.bind_some, hn, Option.some.injEq] at e
        subst e
        refine ⟨by simpa using s1, by omega, s2, s3, s4, s5, fun x hx => ?_, .inr hk⟩
        simpa using List.all_eq_true.1 s6 x hx
       ·cases hh
      ·cases e
  ·rename_i c _
   split at e
   ·rename_i hc
    split at e
    ·rename_i hf
     unfold wpOp; simp only []
     unfold wpCall; rw [hc]; simp only []; rw [hf]; simp only []
     exact (callP_ok hcall e).mono fun r2 h2 ⟨e1, e2⟩ => by rw [e1, e2]; exact hk
    ·cases e
   ·cases e
  ·cases e
theorem pX_ok (hcall : CallOk C call) {n : Nat} (hn : n + 1 < 2 ^ k0) {ops : Array Oper} {K : Env → Prop} : ∀ (l : List Oper) {ts ts' : Tr} {h : Heap}, Tr.Full k0 ts → (∀ o ∈ l, okDst n o = true) → pX C call ops l ts h = some ts' → K (envL ts') →
  WPp C ops l (envL ts) h K ∧ Tr.Full k0 ts'
 | [], ts, ts', h, hF, _, g, hq => by
  simp only [pX, Option.some.injEq] at g
  subst g
  exact ⟨hq, hF⟩
 | o :: rest, ts, ts', h, hF, ho, g, hq => by
  have hd : ∀ i, o.dst = some i → i < n := fun i e => by have := ho o (by simp); simpa [okDst, e] using this
  unfold pX at g
  split at g
  ·rename_i v e
   have ih := pX_ok hcall hn (ops := ops) (K := K) rest (ts := putL ts o.dst v) (putL_full _ _ _ hF) (fun o hm => ho o (by simp [hm])) g hq
   rw [envL_put hF hn hd] at ih
   refine ⟨⟨v, fun KK hkk => ?_, ih.1⟩, ih.2⟩
   unfold operPX at e; unfold wpOperV
   split at e
   ·rename_i hg; rw [hg]; simp only []
    exact heldX_ok hcall e hkk
   ·rename_i hg; rw [hg]; simp only []
    split at e
    ·rename_i hq; rw [hq]; simp only []
     split at e
     ·rename_i hb; exact ⟨fun _ => heldX_ok hcall e hkk, fun hn => absurd hb hn⟩
     ·rename_i hb; cases e; exact ⟨fun hn => absurd hn hb, fun _ => hkk⟩
    ·cases e
  ·cases g
theorem pXt_ok (hcall : CallOk C call) {n : Nat} (hn : n + 1 < 2 ^ k0) {ops : Array Oper} {cb : Nat → Bool} : ∀ (l : List Oper) {ts ts' : Tr} {h : Heap} {vs : List (Tr × AVal)}, Tr.Full k0 ts → (∀ o ∈ l, okDst n o = true) → pXt C call ops l ts h = some (vs, ts') →
  ∃ V : Nat → AVal, (∀ (i : Nat) (o : Oper), l[i]? = some o → ∀ KK : AVal → Heap → Prop, KK (V i) h → wpOperV C ops o (Av.T V l (envL ts) i) h KK) ∧ Av.T V l (envL ts) l.length = envL ts' ∧ Tr.Full k0 ts' ∧
   ∀ (s : Nat) (h' : Heap), sameX C call ops cb h' s l vs = true → ∀ (i : Nat) (o : Oper), l[i]? = some o → cb (s + i) = false → ∀ KK : AVal → Heap → Prop, KK (V i) h' → wpOperV C ops o (Av.T V l (envL ts) i) h' KK
 | [], ts, ts', h, vs, hF, _, g => by
  simp only [pXt, Option.some.injEq, Prod.mk.injEq] at g
  obtain ⟨rfl, rfl⟩ := g
  exact ⟨fun _ => undefA, fun i o hi => by simp at hi, rfl, hF, fun s h' _ i o hi => by simp at hi⟩
 | o :: rest, ts, ts', h, vs, hF, ho, g => by
  have hd : ∀ i, o.dst = some i → i < n := fun i e => by have := ho o (by simp); simpa [okDst, e] using this
  have one : ∀ (h : Heap) (v : AVal), operPX C call ops o ts h = some v → ∀ KK : AVal → Heap → Prop, KK v h → wpOperV C ops o (envL ts) h KK := fun h v e KK hkk => by
   unfold operPX at e; unfold wpOperV
   split at e
   ·rename_i hg; rw [hg]; simp only []
    exact heldX_ok hcall e hkk
   ·rename_i hg; rw [hg]; simp only []
    split at e
    ·rename_i hq; rw [hq]; simp only []
     split at e
     ·rename_i hb; exact ⟨fun _ => heldX_ok hcall e hkk, fun hn => absurd hb hn⟩
     ·rename_i hb; cases e; exact ⟨fun hn => absurd hn hb, fun _ => hkk⟩
    ·cases e
  simp only [pXt] at g
  split at g
  ·rename_i v e
   split at g
   ·rename_i l1 ts1 e1; cases g
    obtain ⟨V, h1, h2, h3, h4⟩ := pXt_ok hcall hn (ops := ops) (cb := cb) rest (ts := putL ts o.dst v) (putL_full _ _ _ hF) (fun o hm => ho o (by simp [hm])) e1
    rw [envL_put hF hn hd] at h1 h2 h4
    refine ⟨fun i => match i with | 0 => v | i + 1 => V i, fun i o' hi => ?_, ?_, h3, fun s h' hs i o' hi hc => ?_⟩
    ·cases i with
     | zero => simp at hi; subst hi; exact one h v e
     | succ i => exact h1 i o' (by simpa using hi)
    ·exact h2
    ·simp only [sameX, Bool.and_eq_true, Bool.or_eq_true] at hs
     cases i with
     | zero =>
      simp at hi; subst hi
      rcases hs.1 with h5 | h5
      ·rw [Nat.add_zero] at hc; rw [hc] at h5; cases h5
      ·split at h5
       ·rename_i v' e'
        rw [beqA_ok _ _ h5] at e'
        exact one h' v e'
       ·cases h5
     | succ i => exact h4 (s + 1) h' hs.2 i o' (by simpa using hi) (by rw [show s + 1 + i = s + (i + 1) by omega]; exact hc)
   ·cases g
  ·cases g
theorem okDst_of {n : Nat} {o : Oper} (h : okOper n o = true) : okDst n o = true := by
 unfold okOper at h
 simp only [Bool.and_eq_true] at h
 exact h.2
theorem codeX_ok (hcall : CallOk C call) (lf : Nat) {n : Nat} (hn : n + 1 < 2 ^ k0) : ∀ (c : Code) {ts : Tr} {h : Heap} {rs : Outs} {Q : Exit → Env → Heap → Prop}, Tr.Full k0 ts → okCode n c = true → codeX C call lf c ts h = some rs → (∀ r ∈ rs, Q r.1 (envL r.2.1) r.2.2) →
  WP C c Q (envL ts) h ∧ ∀ r ∈ rs, Tr.Full k0 r.2.1 := by
 intro c
 induction c with
 | skip => intro ts h rs Q hF _ g hq; simp only [codeX, Option.some.injEq] at g; subst g; exact ⟨hq (_, ts, h) (by simp), fun r hr => by simp at hr; rw [hr]; exact hF⟩
 | label l => intro ts h rs Q hF _ g hq; simp only [codeX, Option.some.injEq] at g; subst g; exact ⟨hq (_, ts, h) (by simp), fun r hr => by simp at hr; rw [hr]; exact hF⟩
 | exit id => intro ts h rs Q hF _ g hq; simp only [codeX, Option.some.injEq] at g; subst g; exact ⟨hq (_, ts, h) (by simp), fun r hr => by simp at hr; rw [hr]; exact hF⟩
 | ret => intro ts h rs Q hF _ g hq; simp only [codeX, Option.some.injEq] at g; subst g; exact ⟨hq (_, ts, h) (by simp), fun r hr => by simp at hr; rw [hr]; exact hF⟩
 | region id ops draw =>
  obtain ⟨l⟩ := ops
  intro ts h rs Q hF hok g hq
  have hall : ∀ o ∈ l, okDst n o = true := fun o ho => by
   simp only [okCode, List.all_eq_true] at hok
   exact okDst_of (hok o ho)
  cases draw with
  | false =>
   simp only [codeX] at g
   split at g
   ·rename_i ts' h' e1; cases g
    have := lX_ok hcall hn l hF hall e1 (Q := Q) (hq (_, ts', h') (by simp))
    exact ⟨this.1, fun r hr => by simp at hr; rw [hr]; exact this.2⟩
   ·cases g
  | true =>
   simp only [codeX] at g
   split at g
   ·rename_i rs1 hd; cases g
    unfold drawX3 at hd
    split at hd
    ·rename_i k oe hde
     have hdr : l[k]? = some oe ∧ preOk l.toArray (k + 1) = true := by
      unfold drawE at hde
      split at hde
      ·simp only [] at hde
       split at hde
       ·rename_i hoe
        split at hde
        ·rename_i hp; cases hde; exact ⟨hoe, hp⟩
        ·cases hde
       ·cases hde
      ·cases hde
     have hkl := (List.getElem?_eq_some_iff.1 hdr.1).1
     split at hd
     ·rename_i vs ts1 e1
      split at hd
      ·rename_i ts2 h2 e2
       split at hd
       ·rename_i hsame
        obtain ⟨V, v1, v2, v3, v4⟩ := pXt_ok hcall hn (cb := fun i => ((Region.before l.toArray).getD k 0).testBit i) (l.take k) hF (fun o ho => hall o (List.mem_of_mem_take ho)) e1
        have hlen : (l.take k).length = k := by simp; omega
        have hTT : ∀ i, i ≤ k → Av.T V (l.take k) (envL ts) i = Av.T V l (envL ts) i := fun i hi => T_take V V k (fun _ _ => rfl) _ _ _ _ hi (by rw [List.take_take]; congr 1; omega) (by rw [hlen]; exact hi) (by omega)
        have hget : ∀ (i : Nat) (o : Oper), i < k → l[i]? = some o → (l.take k)[i]? = some o := fun i o hi ho => by rw [List.getElem?_take, if_pos hi]; exact ho
        have hoe := hall oe (List.mem_of_getElem? hdr.1)
        have hF2 := (operX_ok hcall hn v3 hoe e2 (K := fun _ _ => True) trivial).2
        have hsx := sufX_ok hcall hn (ops := ⟨l⟩) (fun o ho => hall o ho) (l.length - (k + 1)) hF2 hd (Q := Q) (fun r hr => hq (.normal, r.1, r.2) (List.mem_map.2 ⟨r, dedup_mem r hr, rfl⟩))
        rw [hlen] at v2
        rw [hTT k (Nat.le_refl _)] at v2
        refine ⟨WP_draw3 k oe hdr.1 hdr.2 V (fun i o hi ho => ?_) ?_, fun r hr => ?_⟩
        ·rw [← hTT i (by omega)]
         exact v1 i o (hget i o hi ho)
        ·rw [v2]
         have hd' : ∀ i, oe.dst = some i → i < n := fun i e => by simpa [okDst, e] using hoe
         unfold operX at e2; unfold wpOperV
         have post : ∀ v, ts2 = putL ts1 oe.dst v → (∀ (i : Nat) (o : Oper), i < k → l[i]? = some o → ((Region.before l.toArray).getD k 0).testBit i = false → ∀ KK : AVal → Heap → Prop, KK (V i) h2 → wpOperV C l.toArray o (Av.T V l (envL ts) i) h2 KK) ∧
           Rest C l.toArray Q (l.length - (k + 1)) (listK l.length (k + 1)) (put (envL ts1) oe.dst v) h2 := fun v ev => by
          refine ⟨fun i o hi ho hc => ?_, ?_⟩
          ·rw [← hTT i (by omega)]
           exact v4 0 h2 hsame i o (hget i o hi ho) (by simpa using hc)
          ·rw [← envL_put v3 hn hd', ← ev]
           exact hsx.1
         split at e2
         ·rename_i hg; rw [hg]; simp only []
          split at e2
          ·rename_i e3; cases e2
           exact opX_ok hcall e3 (post _ rfl)
          ·cases e2
         ·rename_i hg; rw [hg]; simp only []
          split at e2
          ·rename_i hqq; rw [hqq]; simp only []
           split at e2
           ·rename_i hb
            split at e2
            ·rename_i e3; cases e2
             exact ⟨fun _ => opX_ok hcall e3 (post _ rfl), fun hn => absurd hb hn⟩
            ·cases e2
           ·rename_i hb; cases e2
            exact ⟨fun hn => absurd hn hb, fun _ => post _ rfl⟩
          ·cases e2
        ·obtain ⟨q, hq1, rfl⟩ := List.mem_map.1 hr
         exact hsx.2 q (dedup_sub q hq1)
       ·cases hd
      ·cases hd
     ·cases hd
    ·cases hd
   ·split at g
    ·rename_i rs1 hd; cases g
     obtain ⟨k, hk, e⟩ := List.exists_of_findSome?_eq_some hd
     have hk := drawK_mem hk
     simp only [Bool.and_eq_true] at hk
     split at e
     ·rename_i ts1 e1
      have hF1 := (pX_ok hcall hn (K := fun _ => True) (ops := ⟨l⟩) (C := C) (l.take k) hF (fun o ho => hall o (List.mem_of_mem_take ho)) e1 trivial).2
      have h2 := sufX_ok hcall hn (ops := ⟨l⟩) (fun o ho => hall o ho) (l.length - k) hF1 e (Q := Q) (fun r hr => hq (.normal, r.1, r.2) (List.mem_map.2 ⟨r, dedup_mem r hr, rfl⟩))
      have h1 := pX_ok hcall hn (K := fun t' => Rest C ⟨l⟩ Q (l.length - k) (listK l.length k) t' h) (ops := ⟨l⟩) (C := C) (l.take k) hF (fun o ho => hall o (List.mem_of_mem_take ho)) e1 h2.1
      refine ⟨WP_draw2 k (by simpa using hk.2) h1.1, fun r hr => ?_⟩
      obtain ⟨q, hq1, rfl⟩ := List.mem_map.1 hr
      exact h2.2 q (dedup_sub q hq1)
     ·cases e
    ·cases g
 | seq a b iha ihb =>
  intro ts h rs Q hF hok g hq
  simp only [okCode, Bool.and_eq_true] at hok
  simp only [codeX] at g
  split at g
  ·rename_i rs1 e1
   obtain ⟨b1, b2⟩ := bindO_ok g
   have hlen := (iha (Q := fun _ _ _ => True) hF hok.1 e1 (fun _ _ => trivial)).2
   refine ⟨(iha (Q := thenQ (fun t h => Wkn C (wr a) t h fun t h => WP C b Q t h) Q) hF hok.1 e1 (fun r hr => ?_)).1, fun r hr => ?_⟩
   ·obtain ⟨ys, hys, hsub⟩ := b1 r hr
    obtain ⟨e, ts1, h1⟩ := r
    cases e with
    | normal => exact Wkn.refl (ihb (hlen _ hr) hok.2 hys (fun r hr => hq r (hsub r hr))).1
    | _ => simp only [Option.some.injEq] at hys; subst hys; exact hq _ (hsub _ (by simp))
   ·obtain ⟨r1, hr1, ys, hys, hry⟩ := b2 r hr
    obtain ⟨e, ts1, h1⟩ := r1
    cases e with
    | normal => exact (ihb (Q := fun _ _ _ => True) (hlen _ hr1) hok.2 hys (fun _ _ => trivial)).2 r hry
    | _ => simp only [Option.some.injEq] at hys; subst hys; simp at hry; subst hry; exact hlen _ hr1
  ·cases g
 | cond c a b iha ihb =>
  intro ts h rs Q hF hok g hq
  simp only [okCode, Bool.and_eq_true] at hok
  simp only [codeX] at g
  unfold WP
  split at g
  ·rename_i hc; rw [hc]; simp only []
   have := iha (Q := Q) hF (by simp [hok]) g hq
   exact ⟨⟨fun _ => this.1, fun e => Bool.noConfusion e⟩, this.2⟩
  ·rename_i hc; rw [hc]; simp only []
   have := ihb (Q := Q) hF (by simp [hok]) g hq
   exact ⟨⟨fun e => Bool.noConfusion e, fun _ => this.1⟩, this.2⟩
  ·cases g
 | block id c ih =>
  intro ts h rs Q hF hok g hq
  simp only [okCode] at hok
  simp only [codeX] at g
  split at g
  ·rename_i rs1 e1; cases g
   have hlen := (ih (Q := fun _ _ _ => True) hF hok e1 (fun _ _ => trivial)).2
   refine ⟨(ih (Q := blockQ id Q) hF hok e1 (fun r hr => ?_)).1, fun r hr => ?_⟩
   ·have := hq _ (List.mem_map.2 ⟨r, hr, rfl⟩)
    obtain ⟨e, ts1, h1⟩ := r
    cases e with
    | exit id' =>
     simp only [blockQ] at this ⊢
     split at this
     ·rename_i e; rw [if_pos e]; exact this
     ·rename_i e; rw [if_neg e]; exact this
    | _ => exact this
   ·obtain ⟨r1, hr1, rfl⟩ := List.mem_map.1 hr
    have := hlen r1 hr1
    obtain ⟨e, ts1, h1⟩ := r1
    cases e with
    | exit id' => simp only []; split <;> exact this
    | _ => exact this
  ·cases g
 | scope c ih =>
  intro ts h rs Q hF hok g hq
  simp only [okCode] at hok
  simp only [codeX] at g
  split at g
  ·rename_i rs1 e1
   obtain ⟨b1, b2⟩ := bindO_ok g
   have hlen := (ih (Q := fun _ _ _ => True) hF hok e1 (fun _ _ => trivial)).2
   refine ⟨(ih (Q := noG Q) hF hok e1 (fun r hr => ?_)).1, fun r hr => ?_⟩
   ·obtain ⟨ys, hys, hsub⟩ := b1 r hr
    obtain ⟨e, ts1, h1⟩ := r
    cases e with
    | goto l => cases hys
    | _ => simp only [Option.some.injEq] at hys; subst hys; exact hq _ (hsub _ (by simp))
   ·obtain ⟨r1, hr1, ys, hys, hry⟩ := b2 r hr
    obtain ⟨e, ts1, h1⟩ := r1
    cases e with
    | goto l => cases hys
    | _ => simp only [Option.some.injEq] at hys; subst hys; simp at hry; subst hry; exact hlen _ hr1
  ·cases g
 | loop c ih =>
  intro ts h rs Q hF hok g hq
  simp only [okCode] at hok
  simp only [codeX] at g
  have lens : ∀ (m : Nat) (s : Tr) (k : Heap) (rs : Outs), Tr.Full k0 s → iterX (fun ts h => codeX C call lf c ts h) m s k = some rs → ∀ r ∈ rs, Tr.Full k0 r.2.1 := by
   intro m
   induction m with
   | zero => intro s k rs _ g; simp [iterX] at g
   | succ m ihn =>
    intro s k rs hs g r hr
    simp only [iterX] at g
    split at g
    ·rename_i rs1 e1
     obtain ⟨b1, b2⟩ := bindO_ok g
     have hl := (ih (Q := fun _ _ _ => True) hs hok e1 (fun _ _ => trivial)).2
     obtain ⟨r1, hr1, ys, hys, hry⟩ := b2 r hr
     have h1 := hl r1 hr1
     obtain ⟨e, ts1, k1⟩ := r1
     cases e with
     | normal => exact ihn _ _ _ h1 hys r hry
     | _ => simp only [Option.some.injEq] at hys; subst hys; simp at hry; subst hry; exact h1
    ·cases g
  refine ⟨⟨fun n t1 h1 => ∃ (s : Tr) (rs1 : Outs), t1 = envL s ∧ Tr.Full k0 s ∧ iterX (fun ts h => codeX C call lf c ts h) n s h1 = some rs1 ∧ ∀ r ∈ rs1, r ∈ rs, lf, Wkn.refl ⟨ts, rs, rfl, hF, g, fun _ h => h⟩, fun n' t1 h1 hI => ?_⟩, lens _ _ _ _ hF g⟩
  obtain ⟨s, rs1, rfl, hs, gi, hsub⟩ := hI
  cases n' with
  | zero => simp [iterX] at gi
  | succ n =>
   simp only [iterX] at gi
   split at gi
   ·rename_i rs2 e1
    obtain ⟨b1, b2⟩ := bindO_ok gi
    have hl := (ih (Q := fun _ _ _ => True) hs hok e1 (fun _ _ => trivial)).2
    refine (ih hs hok e1 (fun r hr => ?_)).1
    obtain ⟨ys, hys, hs2⟩ := b1 r hr
    have h2 := hl r hr
    obtain ⟨e, ts1, k1⟩ := r
    cases e with
    | normal => exact ⟨n, by omega, Wkn.refl ⟨ts1, ys, rfl, h2, hys, fun r h => hsub r (hs2 r h)⟩⟩
    | _ => simp only [Option.some.injEq] at hys; subst hys; exact hq _ (hsub _ (hs2 _ (by simp)))
   ·cases gi
 | _ => intro ts h rs Q _ _ g; simp [codeX] at g
def Kill (a b : Heap) : Prop := a.length = b.length ∧ ∀ (p : Nat) (k : Blk), b[p]? = some k → k = .dead ∨ a[p]? = some k
theorem Kill.refl (a : Heap) : Kill a a := ⟨rfl, fun _ _ h => .inr h⟩
theorem Kill.trans {a b c : Heap} (h : Kill a b) (k : Kill b c) : Kill a c := ⟨h.1.trans k.1, fun p x hx => (k.2 p x hx).elim .inl (h.2 p x)⟩
theorem mergeH_ok : ∀ {a b q : Heap}, mergeH a b = some q → Kill a q ∧ Kill b q
 | [], [], q, h => by simp only [mergeH, Option.some.injEq] at h; subst h; exact ⟨Kill.refl _, Kill.refl _⟩
 | [], _ :: _, q, h => by simp [mergeH] at h
 | _ :: _, [], q, h => by simp [mergeH] at h
 | a :: l, b :: m, q, h => by
  simp only [mergeH] at h
  split at h
  ·rename_i q1 hq; cases h
   obtain ⟨h1, h2⟩ := mergeH_ok hq
   refine ⟨⟨by simp [h1.1], fun p k hk => ?_⟩, ⟨by simp [h2.1], fun p k hk => ?_⟩⟩
   ·cases p with
    | zero =>
     simp at hk
     split at hk
     ·subst hk; exact .inr rfl
     ·exact .inl hk.symm
    | succ p => exact (h1.2 p k (by simpa using hk)).imp id (by simp)
   ·cases p with
    | zero =>
     simp at hk
     split at hk
     ·rename_i e; subst hk; exact .inr (by rw [beqB_ok e]; rfl)
     ·exact .inl hk.symm
    | succ p => exact (h2.2 p k (by simpa using hk)).imp id (by simp)
  ·cases h
theorem allX_ok {fn : Func} : ∀ {rs : Outs} {x : AVal × Heap}, allX C fn rs = some x → ∀ r ∈ rs, ∃ h1, endX C fn r = some (x.1, h1) ∧ Kill h1 x.2
 | [], x, g => by cases g
 | [r], x, g => by intro r' hr; simp at hr; subst hr; exact ⟨x.2, g, Kill.refl _⟩
 | r :: r2 :: rest, x, g => by
  simp only [allX] at g
  split at g
  ·rename_i x1 y1 h1 h2
   unfold mergeAH at g
   split at g
   ·rename_i hb
    split at g
    ·rename_i q hq; cases g
     obtain ⟨k1, k2⟩ := mergeH_ok hq
     intro r' hr
     rcases List.mem_cons.1 hr with rfl | hr
     ·exact ⟨_, h1, k1⟩
     ·obtain ⟨h3, e, k3⟩ := allX_ok h2 r' hr
      exact ⟨h3, by rw [beqA_ok _ _ hb]; exact e, k3.trans k2⟩
    ·cases g
   ·cases g
  ·cases g
theorem Sat.kill {f : FuncId} {args : List AVal} {r : AVal} {h1 : Heap} (s : Sat C f args h fun r2 h2 => r2 = r ∧ Kill h2 h1) : Sat C f args h fun r2 h2 => r2 = r ∧ h2 = h1 := by
 intro B S μ w vs fit rl
 refine (s B S μ w vs fit rl).mono fun u w' hp => ?_
 obtain ⟨r2, h', S', μ', ⟨rfl, hk⟩, st, fit', hrep⟩ := hp
 refine ⟨r2, h1, S', μ', ⟨rfl, rfl⟩, st, ⟨fit'.glob, fit'.len.trans hk.1, fit'.sep, fit'.own, fit'.base, fit'.lie, fun p m k hm hp => ?_⟩, hrep⟩
 rcases hk.2 p k hp with rfl | h2
 ·trivial
 ·exact fit'.blk p m k hm h2
theorem env0_pad {k0 : Nat} (args : List AVal) (hl : args.length + 1 < 2 ^ k0) : envL (argsT (Tr.mk k0) 0 args) = env0 args := by
 funext i
 simp only [envL, env0]
 rw [argsT_get _ _ _ _ (Tr.full_mk _) (by omega), Tr.get_mk]
 by_cases h : i < args.length
 ·rw [if_pos (by omega)]; simp
 ·rw [if_neg (by omega)]; simp [List.getD, List.getElem?_eq_none (show args.length ≤ i by omega)]
theorem Sat.of_body0 {f : FuncId} {fn : Func} {c : Code} {args : List AVal} {R : AVal → Heap → Prop} (hf : C.P.funcs[f]? = some fn) (hb : fn.body = some c) (hname : (fn.name == "runtime.NumGoroutine") = false)
  (hok : okCode fn.ntmps c = true) (hres : fn.results.toList.all (okRes fn.ntmps) = true) (hlen : args.length ≤ fn.ntmps)
  (hw : WP C c (fun e t' h' => match e with
   | .normal => need (resA C t' h' fn.results.toList) fun r => R r h'
   | .ret => need (resA C t' h' fn.results.toList) fun r => R r h'
   | _ => False) (env0 args) h) : Sat C f args h R := by
 intro B S μ w vs fit rl
 have hcall : (callFunc f vs.toArray).run C.P w = .ok (.enter f vs.toArray) w := by
  have hne : fn.name ≠ "runtime.NumGoroutine" := by simpa using hname
  simp [callFunc, hf, hne, hb]
 rw [hcall]
 show Calls C.P f vs.toArray w _
 refine calls_of_wp hf hb ?_
 have hlv : vs.length ≤ fn.ntmps := by rw [rl.1]; exact hlen
 have renv : REnv fn.ntmps w S μ (env0 args) { tmps := vs.toArray ++ Array.replicate (fn.ntmps - vs.toArray.size) undef, defers := [] } := by
  refine ⟨by simp; omega, rfl, fun i hi => ?_⟩
  unfold env0
  by_cases hlt : i < args.length
  ·have hx := List.getElem?_eq_getElem hlt
   have := rl.2 i _ hx
   have hv : i < vs.length := by rw [rl.1]; exact hlt
   have e1 : args.getD i undefA = args[i] := by simp [List.getD, hx]
   have e2 : (vs.toArray ++ Array.replicate (fn.ntmps - vs.toArray.size) undef).getD i undef = vs.getD i undef := by
    simp [Array.getD_eq_getD_getElem?, Array.getElem?_append, hv, List.getD]
   rw [e1]
   simp only [e2]
   exact this
  ·have e1 : args.getD i undefA = undefA := by simp [List.getD, List.getElem?_eq_none (show args.length ≤ i by omega)]
   have hv : ¬ i < vs.length := by rw [rl.1]; exact hlt
   have e2 : (vs.toArray ++ Array.replicate (fn.ntmps - vs.toArray.size) undef).getD i undef = undef := by
    simp [Array.getD_eq_getD_getElem?, Array.getElem?_append, hv, Array.getElem?_replicate]
    split <;> rfl
   rw [e1]
   simp only [e2]
   exact undefA_rep _ _ _
 have hres' := List.all_eq_true.1 hres
 refine wp_mono (WP_sound (B := B) (n := fn.ntmps) c hok (Step.refl B S μ w) fit renv hw) fun e a' w' hp => ?_
 obtain ⟨t', h', S', μ', hq, st, fit', renv'⟩ := hp
 have fin : need (resA C t' h' fn.results.toList) (fun r => R r h') → a'.defers = [] ∧ ∃ v, (results fn a'.tmps).run C.P w' = .ok v w' ∧
   ∃ u, Ending.returned v = Ending.returned u ∧ OpPost C B S μ w R u w' := by
  intro hq
  obtain ⟨r, hr0, hR⟩ := need_some hq
  obtain ⟨v, hv, hrep⟩ := run_resA fit' renv' hres' hr0
  exact ⟨renv'.2.1, v, hv, v, rfl, r, _, _, _, hR, st, fit', hrep⟩
 cases e with
 | normal => exact fin hq
 | ret => exact fin hq
 | _ => exact hq.elim
def OrcOk (C : Ctx) (orc : FuncId → List AVal → Option AVal) : Prop := ∀ f args r, orc f args = some r → ∀ h, Sat C f args h fun r2 h2 => r2 = r ∧ h2 = h
theorem callX_ok {orc : FuncId → List AVal → Option AVal} (horc : OrcOk C orc) (lf : Nat) : ∀ n, CallOk C (callX C orc lf n) := by
 intro n
 induction n with
 | zero => intro f args h r h' g; simp [callX] at g
 | succ n ih =>
  intro f args h r h' g
  simp only [callX] at g
  split at g
  ·rename_i e; cases g; exact horc _ _ _ e h
  ·split at g
   ·cases g
   ·rename_i fn hfn
    split at g
    ·cases g
    ·rename_i c hc
     split at g
     ·rename_i hs
      obtain ⟨s1, s2, s3, s4, s5⟩ := hs
      split at g
      ·rename_i rs e1
       have hend := allX_ok g
       refine (Sat.of_body0 hfn hc s1 s2 s3 s4 (R := fun r2 h2 => r2 = r ∧ Kill h2 h') ?_).kill
       have := (codeX_ok ih lf s5 c (argsT_full _ _ _ (Tr.full_mk _)) s2 e1 (Q := fun e t' h9 => match e with
        | .normal => need (resA C t' h9 fn.results.toList) fun r2 => r2 = r ∧ Kill h9 h'
        | .ret => need (resA C t' h9 fn.results.toList) fun r2 => r2 = r ∧ Kill h9 h'
        | _ => False) (fun q hq => ?_)).1
       ·rwa [env0_pad _ (by omega)] at this
       ·obtain ⟨h1, e, hkill⟩ := hend q hq
        obtain ⟨ex, ts, h9⟩ := q
        unfold endX at e
        split at e
        ·rename_i hqq; cases hqq
         split at e
         ·rename_i hr; cases e; exact need_of hr ⟨rfl, hkill⟩
         ·cases e
        ·rename_i hqq; cases hqq
         split at e
         ·rename_i hr; cases e; exact need_of hr ⟨rfl, hkill⟩
         ·cases e
        ·cases e
      ·cases g
     ·cases g
end
end Go.Av
namespace Go.Av
open Go.RowKit
section
variable {C : Ctx}
def GClo (C : Ctx) : Prop := ∀ g cs, C.G g = some cs → Clo 0 (.ad cs)
theorem Sat.frame (hG : GClo C) {f : FuncId} {args : List AVal} {R : AVal → Heap → Prop} (ha : ∀ x ∈ args, Clo 0 x) (hR : ∀ r h', R r h' → Clo 0 r ∧ h' = [])
  (s : Sat C f args [] R) (h : Heap) : Sat C f args h fun r h' => R r [] ∧ h' = h := by
 intro B S μ w vs fit rl
 have st0 : ∀ (x : AVal) (v : Value), Clo 0 x → Rep w S μ x v → Rep w S [] x v := fun x v hc hr => by
  have := hc.rep (S' := S) hr fun a ha => ha
  simpa using this
 have fit0 : Fits C w.heap.size S [] [] w := by
  refine ⟨fun g cs hg => st0 _ _ (hG g cs hg) (fit.glob g cs hg), rfl, ?_, ?_, Nat.le_refl _, fit.lie, ?_⟩
  ·intro p q m m' b h1; simp at h1
  ·intro p m b h1; simp at h1
  ·intro p m k h1; simp at h1
 have rl0 : RepL w S [] args vs := ⟨rl.1, fun i x hx => st0 _ _ (ha x (List.mem_of_getElem? hx)) (rl.2 i x hx)⟩
 refine (s _ S [] w vs fit0 rl0).mono fun v w' hp => ?_
 obtain ⟨r, h', S', μ', hr, st, fit', hrep⟩ := hp
 obtain ⟨hclo, rfl⟩ := hR r h' hr
 obtain rfl : μ' = [] := List.length_eq_zero_iff.1 (by rw [fit'.len]; rfl)
 have own : ∀ (p : Nat) (m : MB) (b : Nat), μ[p]? = some m → m.blk = some b → ∀ a, S' a → a.block ≠ b := fun p m b h1 e1 a ha => by
  obtain ⟨k1, k2, k3⟩ := fit.own p m b h1 e1
  rcases st.new a ha with h2 | h2
  ·exact k3 a h2
  ·omega
 have st2 : Step B S μ w S' μ w' := ⟨st.sub, st.keep, st.below.mono fit.base, MapLe.refl _, fun a ha => (st.new a ha).imp id fun e => Nat.le_trans fit.base e⟩
 refine ⟨r, h, S', μ, ⟨hr, rfl⟩, st2, ?_, ?_⟩
 ·refine ⟨fun g cs hg => (fit.glob g cs hg).mono st2, fit.len, fit.sep, fun p m b h1 e1 => ?_, Nat.le_trans fit.base st.below.size, fit'.lie, fun p m k h1 h2 => ?_⟩
  ·obtain ⟨k1, k2, k3⟩ := fit.own p m b h1 e1
   exact ⟨k1, Nat.lt_of_lt_of_le k2 st.below.size, own p m b h1 e1⟩
  ·exact (fit.blk p m k h1 h2).mono st2 fun b hb => st.below.block b (fit.own p m b h1 hb).2.1
 ·have grow : ∀ (x : AVal) (v : Value), Rep w' S' [] x v → Rep w' S' μ x v := fun x v hr => by
   refine hr.mono (B := 0) (S' := S') (w' := w') ⟨fun _ ha => ha, fun _ _ => rfl, Below.refl _ _, fun p m hm => by simp at hm, fun _ ha => .inl ha⟩
  exact grow _ _ hrep
def runX (C : Ctx) (orc : FuncId → List AVal → Option AVal) (lf n : Nat) (f : FuncId) (args : List AVal) : Option AVal :=
 (callX C orc lf n f args []).map (·.1)
def plainB : AVal → Bool
 | .int _ _ => true
 | .bool _ => true
 | .str _ => true
 | _ => false
theorem plainB_clo {n : Nat} {x : AVal} (h : plainB x = true) : Clo n x := by
 cases x <;> first | exact .int _ _ | exact .bool _ | exact .str _ | cases h
theorem Sat.forget {f : FuncId} {args : List AVal} {r : AVal} {h1 : Heap} (hr : plainB r = true) (s : Sat C f args [] fun r2 h2 => r2 = r ∧ h2 = h1) : Sat C f args [] fun r2 h2 => r2 = r ∧ h2 = [] := by
 intro B S μ w vs fit rl
 obtain rfl : μ = [] := List.length_eq_zero_iff.1 (by rw [fit.len]; rfl)
 refine (s B S [] w vs fit rl).mono fun v w' hp => ?_
 obtain ⟨r2, h', S', μ', ⟨rfl, rfl⟩, st, fit', hrep⟩ := hp
 obtain ⟨fc, sc⟩ := Fits.cut fit st fit' (n := 0) (Nat.le_refl _) (fun p k hp => absurd hp (by omega))
 simp only [List.take_zero] at fc sc
 have hz := (plainB_clo (n := 0) hr).rep (S' := Let S' μ' w' 0) hrep fun a ha => .inl ha
 simp only [List.take_zero] at hz
 exact ⟨r2, [], _, [], ⟨rfl, rfl⟩, sc, fc, hz⟩
theorem Sat.closed (hG : GClo C) {orc : FuncId → List AVal → Option AVal} (horc : OrcOk C orc) (lf n : Nat) {f : FuncId} {args : List AVal} {r : AVal} (ha : args.all plainB = true) (hr : plainB r = true)
  (hrun : runX C orc lf n f args = some r) (h : Heap) : Sat C f args h fun r2 h2 => r2 = r ∧ h2 = h := by
 unfold runX at hrun
 obtain ⟨⟨r1, h1⟩, e, rfl⟩ := Option.map_eq_some_iff.1 hrun
 have s := (callX_ok horc lf n f args [] r1 h1 e).forget hr
 refine (s.frame hG (fun x hx => plainB_clo (List.all_eq_true.1 ha x hx)) (fun r h' ⟨e1, e2⟩ => ⟨by rw [e1]; exact plainB_clo hr, e2⟩) h).mono fun r2 h2 ⟨⟨e1, _⟩, e2⟩ => ⟨e1, e2⟩
def isT : Option AVal → Bool
 | some (.bool b) => b
 | _ => false
theorem isT_ok {x : Option AVal} (h : isT x = true) : x = some (.bool true) := by
 unfold isT at h
 split at h
 ·rw [h]
 ·cases h
theorem Sat.lives (hG : GClo C) {orc : FuncId → List AVal → Option AVal} (horc : OrcOk C orc) (lf n : Nat) {f : FuncId} {args : List AVal} (ha : args.all plainB = true)
  (hrun : isT (runX C orc lf n f args) = true) (h : Heap) : Sat C f args h fun r2 h2 => r2 = .bool true ∧ h2 = h := Sat.closed hG horc lf n ha rfl (isT_ok hrun) h
def isV (v : AVal) : Option (AVal × Heap) → Bool
 | some (r, h1) => match frzX h1 0 20 r with
  | some y => beqA y v
  | none => false
 | none => false
theorem Sat.closedV (hG : GClo C) {orc : FuncId → List AVal → Option AVal} (horc : OrcOk C orc) (lf n : Nat) {f : FuncId} {args : List AVal} {v : AVal} (ha : args.all plainB = true) (hv : cloA 0 v = true)
  (hrun : isV v (callX C orc lf n f args []) = true) (h : Heap) : Sat C f args h fun r2 h2 => r2 = v ∧ h2 = h := by
 unfold isV at hrun
 split at hrun
 ·rename_i r h1 e
  split at hrun
  ·rename_i y hy
   have ey := beqA_ok _ _ hrun
   subst ey
   have s := (callX_ok horc lf n f args [] r h1 e).letgo (v := y) (by simp) (frzX_ok _ _ _ _ _ hy)
   refine (s.frame hG (fun x hx => plainB_clo (List.all_eq_true.1 ha x hx)) (fun r h' ⟨e1, e2⟩ => ⟨by rw [e1]; exact cloA_ok 0 _ hv, e2⟩) h).mono fun r2 h2 ⟨⟨e1, _⟩, e2⟩ => ⟨e1, e2⟩
  ·cases hrun
 ·cases hrun
end
end Go.Av
namespace Go.Av
open Go.RowKit Go.ChangeShapes Go.WideShapes
section
variable {H : Type} {enc : TypeId × Value → H} {P : Program}
theorem trodAll_carry {w w' : World} {base : Nat} {sp : Nat → Bool} {held : Bool} : ∀ {ts : List TypeId} {vs : List Value} {ds : List (DataW H)} {ps : List MemPlace}, DataW.TrodAll enc P w base sp held ts vs ds ps → (∀ p ∈ ps, w.sameAt w' p) → DataW.TrodAll enc P w' base sp held ts vs ds ps
 | [], [], [], _, h, _ => h
 | _ :: _, _ :: _, _ :: _, _, ⟨p, q, ⟨n, h1⟩, h2, e⟩, hs => ⟨p, q, ⟨n, DataW.trod_carry n _ _ _ h1 (fun x hx => hs x (by rw [e]; exact List.mem_append_left _ hx))⟩, trodAll_carry h2 (fun x hx => hs x (by rw [e]; exact List.mem_append_right _ hx)), e⟩
theorem post_of_below {f : Func} {s : ChangeSpec} {apart fresh handsOn again : Bool} {W W' : World} {args : Array Value} {v : Value} {ds gs : List (DataW H)} {before : List MemPlace}
  (K : Kids P (· < P.types.size)) (full : ∀ t e, t < P.types.size → P.underlying t = some (.slice e) → 0 < P.cellsOf e) (hts : ∀ t ∈ f.params.toList, t < P.types.size)
  (hv : s.vars = []) (hfn : s.fn H (ds ++ gs) = { results := [.lit (.bool true)], args := ds }) {tb : TypeId} (hres : f.resultTypes = #[tb]) (hb : P.underlying tb = some .bool)
  (hW : DataW.Whole enc P f.params.toList s.vars apart W args.toList ds gs before) (hbel : Below W.heap.size W W') (hvv : v = .bool true) :
  s.post enc P f apart fresh handsOn again W args v W' := by
 subst hvv
 have hlt := hW.lt
 obtain ⟨p, q, hA, hV, hbe, hz, hn⟩ := hW
 have hV0 := hV
 rw [hv] at hV0
 obtain ⟨rfl, rfl⟩ := trodVars_none hV0
 simp only [List.append_nil] at hbe
 subst hbe
 have hA' := trodAll_carry hA fun x hx => hbel.same (hlt x hx)
 have hold : ∀ x ∈ before, (fun b => decide (b < W.heap.size)) x.block = true := fun x hx => by simpa using hlt x hx
 have hr : ∀ (b : Nat) (sp : Nat → Bool) (hd : Bool), DataW.TrodAll enc P W' b sp hd f.resultTypes.toList ((Value.bool true).resultList f.resultTypes.size) [.lit (.bool true)] [] := fun b sp hd => by
  rw [hres]; exact trodAll_mk1 (shut_bool hb true)
 refine ⟨ds, [], before, [], before, [], ⟨before, [], hA, hV, by simp, hz, hn⟩, by rw [hfn]; exact hr _ _ _, by rw [hfn]; exact hA'.respare K full hts hold, by rw [hfn, hv]; rfl, hbel.frame _, fun _ => ⟨ok_one hres rfl (okWide_bool_mk hb _), [.lit (.bool true)] ++ ds, [], before, ⟨before, [], ?_, by rw [hv]; rfl, by simp, ?_, fun ha => hn ha⟩, fun x hx _ => hx⟩⟩
 ·have := trodAll_append hA' (hr 0 (fun _ => true) true)
  simpa using this
 ·intro b off hp
  have h1 := hz b off hp
  have h2 := hlt _ hp
  rw [hbel.frozen (p := ⟨b, off, none⟩) h2]
  exact h1
def lies0 (W : World) : Addr → Prop := fun a => (W.cell? a).isSome = true
theorem lies0_lt {W : World} {a : Addr} (h : lies0 W a) : a.block < W.heap.size := by
 unfold lies0 World.cell? at h
 refine Nat.lt_of_not_le fun hle => ?_
 rw [Array.getElem?_eq_none hle] at h
 cases h
theorem fits0 {C : Ctx} {W : World} (hg : ∀ g cs, C.G g = some cs → Rep W (lies0 W) [] (.ad cs) (.pointer (some ⟨g, 0, none⟩))) : Fits C W.heap.size (lies0 W) [] [] W :=
 ⟨hg, rfl, fun p q m m' b h => by simp at h, fun p m b h => by simp at h, Nat.le_refl _, fun a ha => lies0_lt ha, fun p m k h => by simp at h⟩
theorem calls_of_sat {C : Ctx} {f : FuncId} {fn : Func} {c : Code} (hf : C.P.funcs[f]? = some fn) (hb : fn.body = some c) (hname : (fn.name == "runtime.NumGoroutine") = false) {W : World} {args : Array Value} {xs : List AVal}
  (fit : Fits C W.heap.size (lies0 W) [] [] W) (rl : RepL W (lies0 W) [] xs args.toList) (sat : Sat C f xs [] fun r h' => r = .bool true ∧ h' = []) :
  Calls C.P f args W fun e W' => e = .returned (.bool true) ∧ Below W.heap.size W W' := by
 have h := sat _ _ [] W args.toList fit rl
 have hcall : (callFunc f args.toList.toArray).run C.P W = .ok (.enter f args.toList.toArray) W := by
  have hne : fn.name ≠ "runtime.NumGoroutine" := by simpa using hname
  simp [callFunc, hf, hne, hb]
 rw [hcall] at h
 have h : Calls C.P f args.toList.toArray W fun e w'' => ∃ v, e = .returned v ∧ OpPost C W.heap.size (lies0 W) [] W (fun r h' => r = .bool true ∧ h' = []) v w'' := h
 rw [Array.toArray_toList] at h
 refine h.mono fun e W' ⟨v, he, r, h', S', μ', ⟨hr, _⟩, st, _, hrep⟩ => ?_
 subst hr
 rw [hrep.bool_inv] at he
 exact ⟨he, st.below⟩
theorem contract_of_sat {C : Ctx} {f : FuncId} {fn : Func} {c : Code} (hf : C.P.funcs[f]? = some fn) (hb : fn.body = some c) (hname : (fn.name == "runtime.NumGoroutine") = false) {s : ChangeSpec} {apart fresh handsOn again : Bool} {W : World} {args : Array Value} {xs : List AVal} {ds gs : List (DataW H)} {before : List MemPlace}
  (K : Kids C.P (· < C.P.types.size)) (full : ∀ t e, t < C.P.types.size → C.P.underlying t = some (.slice e) → 0 < C.P.cellsOf e) (hts : ∀ t ∈ fn.params.toList, t < C.P.types.size)
  (hv : s.vars = []) (hfn : s.fn H (ds ++ gs) = { results := [.lit (.bool true)], args := ds }) {tb : TypeId} (hres : fn.resultTypes = #[tb]) (hbt : C.P.underlying tb = some .bool)
  (hW : DataW.Whole enc C.P fn.params.toList s.vars apart W args.toList ds gs before)
  (hg : ∀ g cs, C.G g = some cs → Rep W (lies0 W) [] (.ad cs) (.pointer (some ⟨g, 0, none⟩))) (rl : RepL W (lies0 W) [] xs args.toList) (sat : Sat C f xs [] fun r h' => r = .bool true ∧ h' = []) :
  Calls C.P f args W fun e W' => ∃ v, e = .returned v ∧ s.post enc C.P fn apart fresh handsOn again W args v W' :=
 (calls_of_sat hf hb hname (fits0 hg) rl sat).mono fun e W' ⟨he, hbel⟩ => ⟨_, he, post_of_below K full hts hv hfn hres hbt hW hbel rfl⟩
variable {W : World}
end
end Go.Av
namespace Go.Av
attribute [go_sem] Nat.le_refl Bool.false_or Bool.true_or Bool.false_and wrap64_in Int.natCast_nonneg Int.ofNat_lt Int.ofNat_le Bool.not_true Bool.not_false
attribute [go_sem ↓] astr_add guardA_list List.getElem?_cons_succ List.getElem?_cons_zero
def condK (c : AVal) (a b : Prop) : Prop := match c with | .bool q => (q = true → a) ∧ (q = false → b) | _ => False
structure Went (a : Prop) : Prop where
 go : a
@[congr] theorem Went_congr (a : Prop) : Went a = Went a := rfl
@[congr] theorem condK_congr {c c' : AVal} {a b : Prop} (e : c = c') : condK c a b = condK c' a b := by rw [e]
@[go_sem] theorem condK_t (a b : Prop) : condK (.bool true) a b = Went a := propext ⟨fun h => ⟨h.1 rfl⟩, fun h => ⟨fun _ => h.go, fun e => Bool.noConfusion e⟩⟩
@[go_sem] theorem condK_f (a b : Prop) : condK (.bool false) a b = Went b := propext ⟨fun h => ⟨h.2 rfl⟩, fun h => ⟨fun e => Bool.noConfusion e, fun _ => h.go⟩⟩
theorem WP_condK {C : Ctx} {t : Env} {h : Heap} {c : Operand} {x y : Code} {Q : Exit → Env → Heap → Prop} (g : condK (aev C.G t c) (WP C x Q t h) (WP C y Q t h)) : WP C (.cond c x y) Q t h := by
 unfold condK at g
 split at g
 ·rename_i q hq
  exact WP_cond hq g.1 g.2
 ·exact g.elim
end Go.Av
namespace Go.Av
theorem hcE {p P : Prop} (e : p = P := by first | (simp only [Bool.false_or, Bool.or_false, Bool.true_or, Bool.or_true, Bool.false_and, Bool.and_false, Bool.and_true, Bool.true_and, Bool.or_eq_true, Bool.or_eq_false_iff, Bool.and_eq_true, Bool.and_eq_false_iff, Nat.not_lt, Nat.not_le, decide_eq_true_eq, decide_eq_false_iff_not, Bool.not_eq_true', Bool.not_eq_false', beq_iff_eq, bne_iff_ne, ne_eq, beq_eq_false_iff_ne, bne_eq_false_iff_eq, Bool.not_eq_true, Bool.not_eq_false, Int.not_lt, Int.not_le, gt_iff_lt, ge_iff_le, Int.ofNat_lt, Int.ofNat_le, Int.natCast_inj, Int.natCast_inj, Bool.not_not, decide_not, Decidable.not_not]; rfl) | rfl) : p = P := e
theorem hpE {α : Type} {a b : α} (e : a = b := by first | rfl | (simp; done) | (simp; rfl)) : a = b := e
theorem F2 {A0 A1 : Prop} (a0 : A0) (a1 : A1) : A0 ∧ A1 := ⟨a0, a1⟩
theorem F3 {A0 A1 A2 : Prop} (a0 : A0) (a1 : A1) (a2 : A2) : A0 ∧ A1 ∧ A2 := ⟨a0, a1, a2⟩
theorem F4 {A0 A1 A2 A3 : Prop} (a0 : A0) (a1 : A1) (a2 : A2) (a3 : A3) : A0 ∧ A1 ∧ A2 ∧ A3 := ⟨a0, a1, a2, a3⟩
theorem F5 {A0 A1 A2 A3 A4 : Prop} (a0 : A0) (a1 : A1) (a2 : A2) (a3 : A3) (a4 : A4) : A0 ∧ A1 ∧ A2 ∧ A3 ∧ A4 := ⟨a0, a1, a2, a3, a4⟩
theorem F6 {A0 A1 A2 A3 A4 A5 : Prop} (a0 : A0) (a1 : A1) (a2 : A2) (a3 : A3) (a4 : A4) (a5 : A5) : A0 ∧ A1 ∧ A2 ∧ A3 ∧ A4 ∧ A5 := ⟨a0, a1, a2, a3, a4, a5⟩
theorem F7 {A0 A1 A2 A3 A4 A5 A6 : Prop} (a0 : A0) (a1 : A1) (a2 : A2) (a3 : A3) (a4 : A4) (a5 : A5) (a6 : A6) : A0 ∧ A1 ∧ A2 ∧ A3 ∧ A4 ∧ A5 ∧ A6 := ⟨a0, a1, a2, a3, a4, a5, a6⟩
theorem F8 {A0 A1 A2 A3 A4 A5 A6 A7 : Prop} (a0 : A0) (a1 : A1) (a2 : A2) (a3 : A3) (a4 : A4) (a5 : A5) (a6 : A6) (a7 : A7) : A0 ∧ A1 ∧ A2 ∧ A3 ∧ A4 ∧ A5 ∧ A6 ∧ A7 := ⟨a0, a1, a2, a3, a4, a5, a6, a7⟩
theorem F9 {A0 A1 A2 A3 A4 A5 A6 A7 A8 : Prop} (a0 : A0) (a1 : A1) (a2 : A2) (a3 : A3) (a4 : A4) (a5 : A5) (a6 : A6) (a7 : A7) (a8 : A8) : A0 ∧ A1 ∧ A2 ∧ A3 ∧ A4 ∧ A5 ∧ A6 ∧ A7 ∧ A8 := ⟨a0, a1, a2, a3, a4, a5, a6, a7, a8⟩
theorem F10 {A0 A1 A2 A3 A4 A5 A6 A7 A8 A9 : Prop} (a0 : A0) (a1 : A1) (a2 : A2) (a3 : A3) (a4 : A4) (a5 : A5) (a6 : A6) (a7 : A7) (a8 : A8) (a9 : A9) : A0 ∧ A1 ∧ A2 ∧ A3 ∧ A4 ∧ A5 ∧ A6 ∧ A7 ∧ A8 ∧ A9 := ⟨a0, a1, a2, a3, a4, a5, a6, a7, a8, a9⟩
variable {C : Ctx} {Q : Exit → Env → Heap → Prop} {t : Env} {h : Heap}
theorem w1 {a b : Code} (hh : ∀ K : Env → Heap → Prop, (∀ t h, Wkn C (wr a) t h (fun t h => WP C b Q t h) → K t h) → WP C a (thenQ K Q) t h) : WP C (.seq a b) Q t h := WP_seq hh
theorem w2 {id : Nat} {c : Code} (hh : WP C c (blockQ id Q) t h) : WP C (.block id c) Q t h := WP_block hh
theorem w3 {c : Code} (hh : WP C c (noG Q) t h) : WP C (.scope c) Q t h := WP_scope hh
theorem w4 {id : Nat} {l : List Oper} (hh : WPl C l.toArray Q l t h) : WP C (.region id l.toArray false) Q t h := WP_region hh
theorem w5 (hh : Q .normal t h) : WP C .skip Q t h := WP_skip hh
theorem w6 {id : Nat} (hh : Q (.exit id) t h) : WP C (.exit id) Q t h := WP_exit hh
theorem w7 (hh : Q .ret t h) : WP C .ret Q t h := WP_ret hh
theorem w8 {c : Operand} {x y : Code} (g : condK (aev C.G t c) (WP C x Q t h) (WP C y Q t h)) : WP C (.cond c x y) Q t h := WP_condK g
theorem w9 {a : Prop} (g : a) : Went a := ⟨g⟩
theorem w0 {ms : List Nat} {R : Env → Heap → Prop} (g : R t h) : Wkn C ms t h R := Wkn.refl g
def pureB : Callee → Bool
 | .value _ => true
 | .builtin .len => true
 | .builtin .max => true
 | .builtin .min => true
 | .builtin .unsafeSliceData => true
 | _ => false
def pureO : Op → Bool
 | .move _ | .assign _ | .pick _ _ _ | .load _ _ | .nilCheck _ | .binOp _ _ _ _ _ | .unOp _ _ _ | .convert _ _ _ | .slice _ _ _ _ _ | .fieldAddr _ _ _ | .field _ _ _ | .indexAddr _ _ _ | .index _ _ _ | .extract _ _ | .build _ _ | .buildSlice _ _ _ => true
 | .call c => pureB c.callee
 | _ => false
def pureN : List Oper → Nat
 | [] => 0
 | o :: r => match pureO o.op with | true => pureN r + 1 | false => 0
def dk (l : List Oper) (k : Nat) : Bool := Nat.beq (pureN l) k && (drawOk l.toArray k && decide (k ≤ l.length))
theorem wD {id k : Nat} {l : List Oper} (g : WPp C l.toArray (l.take k) t h fun t' => WPl C l.toArray Q (l.drop k) t' h) (hk : dk l k = true := by first | (show dk _ 2 = true; decide +kernel) | (show dk _ 3 = true; decide +kernel) | (show dk _ 4 = true; decide +kernel) | (show dk _ 5 = true; decide +kernel) | (show dk _ 6 = true; decide +kernel) | (show dk _ 7 = true; decide +kernel) | (show dk _ 8 = true; decide +kernel) | (show dk _ 9 = true; decide +kernel) | (show dk _ 10 = true; decide +kernel) | (show dk _ 11 = true; decide +kernel) | (show dk _ 12 = true; decide +kernel) | (show dk _ 13 = true; decide +kernel) | (show dk _ 14 = true; decide +kernel) | (show dk _ 15 = true; decide +kernel) | (show dk _ 1 = true; decide +kernel) | (show dk _ 16 = true; decide +kernel) | (show dk _ 17 = true; decide +kernel) | (show dk _ 18 = true; decide +kernel) | (show dk _ 19 = true; decide +kernel) | (show dk _ 20 = true; decide +kernel) | (show dk _ 21 = true; decide +kernel) | (show dk _ 22 = true; decide +kernel) | (show dk _ 23 = true; decide +kernel) | (show dk _ 24 = true; decide +kernel) | (show dk _ 25 = true; decide +kernel) | (show dk _ 26 = true; decide +kernel) | (show dk _ 27 = true; decide +kernel) | (show dk _ 28 = true; decide +kernel) | (show dk _ 29 = true; decide +kernel) | (show dk _ 30 = true; decide +kernel) | (show dk _ 31 = true; decide +kernel) | (show dk _ 32 = true; decide +kernel) | (show dk _ 33 = true; decide +kernel) | (show dk _ 34 = true; decide +kernel) | (show dk _ 35 = true; decide +kernel) | (show dk _ 36 = true; decide +kernel) | (show dk _ 37 = true; decide +kernel) | (show dk _ 38 = true; decide +kernel) | (show dk _ 39 = true; decide +kernel) | (show dk _ 40 = true; decide +kernel) | (show dk _ 41 = true; decide +kernel) | (show dk _ 42 = true; decide +kernel) | (show dk _ 43 = true; decide +kernel) | (show dk _ 44 = true; decide +kernel) | (show dk _ 45 = true; decide +kernel) | (show dk _ 46 = true; decide +kernel) | (show dk _ 47 = true; decide +kernel) | (show dk _ 48 = true; decide +kernel) | (show dk _ 49 = true; decide +kernel) | (show dk _ 50 = true; decide +kernel) | (show dk _ 51 = true; decide +kernel) | (show dk _ 52 = true; decide +kernel) | (show dk _ 53 = true; decide +kernel) | (show dk _ 54 = true; decide +kernel) | (show dk _ 55 = true; decide +kernel) | (show dk _ 56 = true; decide +kernel) | (show dk _ 57 = true; decide +kernel) | (show dk _ 58 = true; decide +kernel) | (show dk _ 59 = true; decide +kernel) | (show dk _ 60 = true; decide +kernel) | (show dk _ 61 = true; decide +kernel) | (show dk _ 62 = true; decide +kernel) | (show dk _ 63 = true; decide +kernel) | (show dk _ 64 = true; decide +kernel) | (show dk _ 65 = true; decide +kernel) | (show dk _ 66 = true; decide +kernel) | (show dk _ 67 = true; decide +kernel) | (show dk _ 68 = true; decide +kernel) | (show dk _ 69 = true; decide +kernel) | (show dk _ 70 = true; decide +kernel) | (show dk _ 71 = true; decide +kernel) | (show dk _ 72 = true; decide +kernel)) : WP C (.region id l.toArray true) Q t h := by
 unfold dk at hk
 rw [Bool.and_eq_true] at hk
 exact WP_draw k hk.2 g
variable {F X Y P N : Prop} {c : Operand} {a b : Code} {q : Bool} {ops : Array Oper} {rest : List Oper} {dst : Option Nat} {op : Op} {ty : TypeId} {pos : String} {aft : Array Edge} {j d : Nat} {want : Bool} {K : Env → Prop} {T T' len e n by' p ver : Nat} {idx : List Nat} {xs rows ys : List AVal} {y : AVal} {k : AVal → Heap → Prop} {kv : AVal → Prop}
theorem sq (f : F) (g : Y) (e : F → X = Y := by intro f; simp (disch := first | omega | (simp only [go_sem, ↓reduceIte, seval]; first | done | omega) | fail) only [go_sem, ↓reduceIte, seval, f]; rfl) : X := (e f).mpr g
theorem zq (f : F) (e : F → X := by intro f; simp (disch := first | omega | (simp only [go_sem, ↓reduceIte, seval]; first | done | omega) | fail) only [go_sem, ↓reduceIte, seval, f]; all_goals fail) : X := e f
theorem cq (f : F) (h1 : P → WP C a Q t h) (h2 : N → WP C b Q t h) (e : F → aev C.G t c = .bool q := by intro f; simp (disch := first | omega | (simp only [go_sem, ↓reduceIte, seval]; first | done | omega) | fail) only [go_sem, ↓reduceIte, seval, f]; rfl) (hP : (q = true) = P := by exact hcE) (hN : (q = false) = N := by exact hcE) : WP C (.cond c a b) Q t h := WP_cond (e f) (fun x => h1 (hP.mp x)) (fun x => h2 (hN.mp x))
theorem gq (f : F) (h1 : P → WPl C ops Q (⟨dst, op, ty, pos, aft, some (j, want)⟩ :: rest) (upd t d (.bool true)) h) (h2 : N → WPl C ops Q (⟨dst, op, ty, pos, aft, some (j, want)⟩ :: rest) (upd t d (.bool false)) h) (hd : (ops[j]?).bind (·.dst) = some d := by rfl) (e : F → t d = .bool q := by intro f; simp (disch := first | omega | (simp only [go_sem, ↓reduceIte, seval]; first | done | omega) | fail) only [go_sem, ↓reduceIte, seval, f]; rfl) (hP : (q = true) = P := by exact hcE) (hN : (q = false) = N := by exact hcE) : WPl C ops Q (⟨dst, op, ty, pos, aft, some (j, want)⟩ :: rest) t h := WPl_gsplit hd (e f) (fun x => h1 (hP.mp x)) (fun x => h2 (hN.mp x))
theorem rq (f : F) (hk : k (.sl n xs) h) (he : elmT C.P T = some e := by simp only [go_sem]; rfl) (hn : szOf C.P e = some n := by simp only [go_sem]; rfl) (hz : (zroT C.P e).map (fun z => (z.cells.length, z.cells.all AVal.sto)) = some (n, true) := by simp only [go_sem]; try rfl) (hl : xs.length = len := by simp) (h0 : 0 < len := by omega) (h1 : 0 < n := by omega) (hb : len * n ≤ 16777216 := by omega) (hi : idx = List.range len := by rfl) (hx : F → xs.all (fun x => decide (x.cells.length = n) && x.lies) = true := by intro f; simp (disch := first | omega | (simp only [go_sem, ↓reduceIte, seval]; first | done | omega) | fail) only [go_sem, ↓reduceIte, seval, f]; all_goals (simp; all_goals fail)) : rowsK C T len idx xs h k := rowsK_sl he hn hz hl h0 h1 hb hi (hx f) hk
theorem xq (f : F) (hk : k (.hs h.length 0 0 len true) (h ++ [.row e n 0 xs])) (he : elmT C.P T = some e := by simp only [go_sem]; rfl) (hn : szOf C.P e = some n := by simp only [go_sem]; rfl) (hz : (zroT C.P e).map (fun z => (z.cells.length, z.cells.all AVal.sto)) = some (n, true) := by simp only [go_sem]; try rfl) (hl : xs.length = len := by simp) (h0 : 0 < len := by omega) (h1 : 0 < n := by omega) (hb : len * n ≤ 16777216 := by omega) (hi : idx = List.range len := by rfl) (hx : F → xs.all (fun x => decide (x.cells.length = n) && x.lies) = true := by intro f; simp (disch := first | omega | (simp only [go_sem, ↓reduceIte, seval]; first | done | omega) | fail) only [go_sem, ↓reduceIte, seval, f]; all_goals (simp; all_goals fail)) : rowsK C T len idx xs h k := rowsK_hs he hn hz hl h0 h1 hb hi (hx f) hk
theorem vq (f : F) (hk : kv (.sl n xs)) (he : elmT C.P T = some e := by simp only [go_sem]; rfl) (hn : szOf C.P e = some n := by simp only [go_sem]; rfl) (hz : (zroT C.P e).map (fun z => (z.cells.length, z.cells.all AVal.sto)) = some (n, true) := by simp only [go_sem]; try rfl) (hl : xs.length = len := by simp) (h0 : 0 < len := by omega) (h1 : 0 < n := by omega) (hb : len * n ≤ 16777216 := by omega) (hi : idx = List.range len := by rfl) (hx : F → xs.all (fun x => decide (x.cells.length = n) && x.lies) = true := by intro f; simp (disch := first | omega | (simp only [go_sem, ↓reduceIte, seval]; first | done | omega) | fail) only [go_sem, ↓reduceIte, seval, f]; all_goals (simp; all_goals fail)) : rowsV C T len idx xs kv := rowsV_sl he hn hz hl h0 h1 hb hi (hx f) hk
theorem aq (f : F) (hk : k (.hs p (ver + 1) 0 (len + ys.length) true) (h.set p (.row e n (ver + 1) (rows ++ ys)))) (hT : T' = T ∨ strT C.P T' = true := by first | exact .inl rfl | (right; simp only [go_sem])) (he : elmT C.P T = some e := by simp only [go_sem]; rfl) (hn : szOf C.P e = some n := by simp only [go_sem]; rfl) (hb : byT C.P e = some by' := by simp only [go_sem]; rfl) (hz : (zroT C.P e).map (fun z => z.cells.length) = some n := by simp only [go_sem]; try rfl) (h0 : 0 < n := by omega) (hy : elemsOf h n y = some ys := by simp only [elemsOf, ↓reduceIte]; rfl) (hrow : F → getRow h p ver = some (e, n, rows) := by intro f; simp (disch := first | omega | (simp only [go_sem, ↓reduceIte, seval]; first | done | omega) | fail) only [go_sem, ↓reduceIte, seval, f]; rfl) (hl : len = rows.length := by simp) (hr : len + ys.length ≤ maxLen ∧ (len + ys.length) * by' ≤ 140737488355328 := by refine ⟨?_, ?_⟩ <;> simp only [maxLen, List.length_map, List.length_cons, List.length_nil, List.length_append] <;> omega) : appK C T T' (.hs p ver 0 len true) y h k := appK_row hT he hn hb hz h0 hy (hrow f) hl hr hk
theorem ee {x : Exit} {h0 : Heap} {rs : List ResultVar} {R : AVal → Heap → Prop} (hQ : ∀ t h, need (resA C t h rs) (Fin h0 h R) → Q .ret t h ∧ Q .normal t h) (f : F) (g : Y) (e : F → need (resA C t h rs) (Fin h0 h R) = Y := by intro f; simp (disch := first | omega | (simp only [go_sem, ↓reduceIte, seval]; first | done | omega) | fail) only [go_sem, ↓reduceIte, seval, f]; rfl) (hx : x = .ret ∨ x = .normal := by first | exact .inl rfl | exact .inr rfl) : Q x t h := by
 have := hQ t h ((e f).mpr g)
 rcases hx with rfl | rfl
 ·exact this.1
 ·exact this.2
theorem ye {x : Exit} {h0 : Heap} {rs : List ResultVar} {R : AVal → Heap → Prop} (hQ : ∀ t h, need (resA C t h rs) (Fin h0 h R) → Q .ret t h ∧ Q .normal t h) (f : F) (g : Y) (e : F → need (resA C t h rs) (Fin h0 h R) = Y := by intro f; simp (disch := first | omega | (simp only [go_sem, ↓reduceIte, seval]; first | done | omega) | fail) only [go_sem, ↓reduceIte, seval, f, resA, resL, resA1]; rfl) (hx : x = .ret ∨ x = .normal := by first | exact .inl rfl | exact .inr rfl) : Q x t h := by
 have := hQ t h ((e f).mpr g)
 rcases hx with rfl | rfl
 ·exact this.1
 ·exact this.2
theorem sqo (f : F) (g : Y) (e : F → X = Y := by intro f; simp (disch := first | omega | (simp only [go_sem, ↓reduceIte, Nat.reduceEqDiff]; done) | fail) only [go_sem, ↓reduceIte, Int.reduceToNat, Int.reduceLE, Int.reduceLT, Int.reduceSub, Int.reduceAdd, Nat.reduceEqDiff, Nat.reduceAdd, Nat.reduceLeDiff, Nat.reduceLT, Nat.reduceMul, Nat.reduceSub, f]; rfl) : X := (e f).mpr g
theorem zqo (f : F) (e : F → X := by intro f; simp (disch := first | omega | (simp only [go_sem, ↓reduceIte, Nat.reduceEqDiff]; done) | fail) only [go_sem, ↓reduceIte, Int.reduceToNat, Int.reduceLE, Int.reduceLT, Int.reduceSub, Int.reduceAdd, Nat.reduceEqDiff, Nat.reduceAdd, Nat.reduceLeDiff, Nat.reduceLT, Nat.reduceMul, Nat.reduceSub, f]; all_goals fail) : X := e f
theorem cqo (f : F) (h1 : P → WP C a Q t h) (h2 : N → WP C b Q t h) (e : F → aev C.G t c = .bool q := by intro f; simp (disch := first | omega | (simp only [go_sem, ↓reduceIte, Nat.reduceEqDiff]; done) | fail) only [go_sem, ↓reduceIte, Int.reduceToNat, Int.reduceLE, Int.reduceLT, Int.reduceSub, Int.reduceAdd, Nat.reduceEqDiff, Nat.reduceAdd, Nat.reduceLeDiff, Nat.reduceLT, Nat.reduceMul, Nat.reduceSub, f]; rfl) (hP : (q = true) = P := by exact hcE) (hN : (q = false) = N := by exact hcE) : WP C (.cond c a b) Q t h := WP_cond (e f) (fun x => h1 (hP.mp x)) (fun x => h2 (hN.mp x))
theorem gqo (f : F) (h1 : P → WPl C ops Q (⟨dst, op, ty, pos, aft, some (j, want)⟩ :: rest) (upd t d (.bool true)) h) (h2 : N → WPl C ops Q (⟨dst, op, ty, pos, aft, some (j, want)⟩ :: rest) (upd t d (.bool false)) h) (hd : (ops[j]?).bind (·.dst) = some d := by rfl) (e : F → t d = .bool q := by intro f; simp (disch := first | omega | (simp only [go_sem, ↓reduceIte, Nat.reduceEqDiff]; done) | fail) only [go_sem, ↓reduceIte, Int.reduceToNat, Int.reduceLE, Int.reduceLT, Int.reduceSub, Int.reduceAdd, Nat.reduceEqDiff, Nat.reduceAdd, Nat.reduceLeDiff, Nat.reduceLT, Nat.reduceMul, Nat.reduceSub, f]; rfl) (hP : (q = true) = P := by exact hcE) (hN : (q = false) = N := by exact hcE) : WPl C ops Q (⟨dst, op, ty, pos, aft, some (j, want)⟩ :: rest) t h := WPl_gsplit hd (e f) (fun x => h1 (hP.mp x)) (fun x => h2 (hN.mp x))
theorem pqo (f : F) (h1 : P → WPp C ops (⟨dst, op, ty, pos, aft, some (j, want)⟩ :: rest) (upd t d (.bool true)) h K) (h2 : N → WPp C ops (⟨dst, op, ty, pos, aft, some (j, want)⟩ :: rest) (upd t d (.bool false)) h K) (hd : (ops[j]?).bind (·.dst) = some d := by rfl) (e : F → t d = .bool q := by intro f; simp (disch := first | omega | (simp only [go_sem, ↓reduceIte, Nat.reduceEqDiff]; done) | fail) only [go_sem, ↓reduceIte, Int.reduceToNat, Int.reduceLE, Int.reduceLT, Int.reduceSub, Int.reduceAdd, Nat.reduceEqDiff, Nat.reduceAdd, Nat.reduceLeDiff, Nat.reduceLT, Nat.reduceMul, Nat.reduceSub, f]; rfl) (hP : (q = true) = P := by exact hcE) (hN : (q = false) = N := by exact hcE) : WPp C ops (⟨dst, op, ty, pos, aft, some (j, want)⟩ :: rest) t h K := WPp_gsplit hd (e f) (fun x => h1 (hP.mp x)) (fun x => h2 (hN.mp x))
theorem rqo (f : F) (hk : k (.sl n xs) h) (he : elmT C.P T = some e := by simp only [go_sem]; rfl) (hn : szOf C.P e = some n := by simp only [go_sem]; rfl) (hz : (zroT C.P e).map (fun z => (z.cells.length, z.cells.all AVal.sto)) = some (n, true) := by simp only [go_sem]; try rfl) (hl : xs.length = len := by simp) (h0 : 0 < len := by omega) (h1 : 0 < n := by omega) (hb : len * n ≤ 16777216 := by omega) (hi : idx = List.range len := by rfl) (hx : F → xs.all (fun x => decide (x.cells.length = n) && x.lies) = true := by intro f; simp (disch := first | omega | (simp only [go_sem, ↓reduceIte, Nat.reduceEqDiff]; done) | fail) only [go_sem, ↓reduceIte, Int.reduceToNat, Int.reduceLE, Int.reduceLT, Int.reduceSub, Int.reduceAdd, Nat.reduceEqDiff, Nat.reduceAdd, Nat.reduceLeDiff, Nat.reduceLT, Nat.reduceMul, Nat.reduceSub, f]; all_goals (simp; all_goals fail)) : rowsK C T len idx xs h k := rowsK_sl he hn hz hl h0 h1 hb hi (hx f) hk
theorem xqo (f : F) (hk : k (.hs h.length 0 0 len true) (h ++ [.row e n 0 xs])) (he : elmT C.P T = some e := by simp only [go_sem]; rfl) (hn : szOf C.P e = some n := by simp only [go_sem]; rfl) (hz : (zroT C.P e).map (fun z => (z.cells.length, z.cells.all AVal.sto)) = some (n, true) := by simp only [go_sem]; try rfl) (hl : xs.length = len := by simp) (h0 : 0 < len := by omega) (h1 : 0 < n := by omega) (hb : len * n ≤ 16777216 := by omega) (hi : idx = List.range len := by rfl) (hx : F → xs.all (fun x => decide (x.cells.length = n) && x.lies) = true := by intro f; simp (disch := first | omega | (simp only [go_sem, ↓reduceIte, Nat.reduceEqDiff]; done) | fail) only [go_sem, ↓reduceIte, Int.reduceToNat, Int.reduceLE, Int.reduceLT, Int.reduceSub, Int.reduceAdd, Nat.reduceEqDiff, Nat.reduceAdd, Nat.reduceLeDiff, Nat.reduceLT, Nat.reduceMul, Nat.reduceSub, f]; all_goals (simp; all_goals fail)) : rowsK C T len idx xs h k := rowsK_hs he hn hz hl h0 h1 hb hi (hx f) hk
theorem aqo (f : F) (hk : k (.hs p (ver + 1) 0 (len + ys.length) true) (h.set p (.row e n (ver + 1) (rows ++ ys)))) (hT : T' = T ∨ strT C.P T' = true := by first | exact .inl rfl | (right; simp only [go_sem])) (he : elmT C.P T = some e := by simp only [go_sem]; rfl) (hn : szOf C.P e = some n := by simp only [go_sem]; rfl) (hb : byT C.P e = some by' := by simp only [go_sem]; rfl) (hz : (zroT C.P e).map (fun z => z.cells.length) = some n := by simp only [go_sem]; try rfl) (h0 : 0 < n := by omega) (hy : elemsOf h n y = some ys := by simp only [elemsOf, ↓reduceIte]; rfl) (hrow : F → getRow h p ver = some (e, n, rows) := by intro f; simp (disch := first | omega | (simp only [go_sem, ↓reduceIte, Nat.reduceEqDiff]; done) | fail) only [go_sem, ↓reduceIte, Int.reduceToNat, Int.reduceLE, Int.reduceLT, Int.reduceSub, Int.reduceAdd, Nat.reduceEqDiff, Nat.reduceAdd, Nat.reduceLeDiff, Nat.reduceLT, Nat.reduceMul, Nat.reduceSub, f]; rfl) (hl : len = rows.length := by simp) (hr : len + ys.length ≤ maxLen ∧ (len + ys.length) * by' ≤ 140737488355328 := by refine ⟨?_, ?_⟩ <;> simp only [maxLen, List.length_map, List.length_cons, List.length_nil, List.length_append] <;> omega) : appK C T T' (.hs p ver 0 len true) y h k := appK_row hT he hn hb hz h0 hy (hrow f) hl hr hk
theorem eeo {x : Exit} {h0 : Heap} {rs : List ResultVar} {R : AVal → Heap → Prop} (hQ : ∀ t h, need (resA C t h rs) (Fin h0 h R) → Q .ret t h ∧ Q .normal t h) (f : F) (g : Y) (e : F → need (resA C t h rs) (Fin h0 h R) = Y := by intro f; simp (disch := first | omega | (simp only [go_sem, ↓reduceIte, Nat.reduceEqDiff]; done) | fail) only [go_sem, ↓reduceIte, Int.reduceToNat, Int.reduceLE, Int.reduceLT, Int.reduceSub, Int.reduceAdd, Nat.reduceEqDiff, Nat.reduceAdd, Nat.reduceLeDiff, Nat.reduceLT, Nat.reduceMul, Nat.reduceSub, f]; rfl) (hx : x = .ret ∨ x = .normal := by first | exact .inl rfl | exact .inr rfl) : Q x t h := by
 have := hQ t h ((e f).mpr g)
 rcases hx with rfl | rfl
 ·exact this.1
 ·exact this.2
theorem yeo {x : Exit} {h0 : Heap} {rs : List ResultVar} {R : AVal → Heap → Prop} (hQ : ∀ t h, need (resA C t h rs) (Fin h0 h R) → Q .ret t h ∧ Q .normal t h) (f : F) (g : Y) (e : F → need (resA C t h rs) (Fin h0 h R) = Y := by intro f; simp (disch := first | omega | (simp only [go_sem, ↓reduceIte, Nat.reduceEqDiff]; done) | fail) only [go_sem, ↓reduceIte, Int.reduceToNat, Int.reduceLE, Int.reduceLT, Int.reduceSub, Int.reduceAdd, Nat.reduceEqDiff, Nat.reduceAdd, Nat.reduceLeDiff, Nat.reduceLT, Nat.reduceMul, Nat.reduceSub, f, resA, resL, resA1]; rfl) (hx : x = .ret ∨ x = .normal := by first | exact .inl rfl | exact .inr rfl) : Q x t h := by
 have := hQ t h ((e f).mpr g)
 rcases hx with rfl | rfl
 ·exact this.1
 ·exact this.2
theorem fR {h0 h1 j : Heap} {R : AVal → Heap → Prop} {r : AVal} {A : Prop} (hc : Clo h0.length r) (g : A) (hh : h1 = h0 ++ j := by first | exact (List.append_nil _).symm | rfl | (simp only [List.append_assoc, List.cons_append, List.nil_append]; rfl)) (e : A → R r h0 := by intro g; exact ⟨g, rfl⟩) : Fin h0 h1 R r := Fin.plainE hh hc (e g)
theorem sb (rs : List ResultVar) {f : FuncId} {fn : Func} {c : Code} {args : List AVal} {R : AVal → Heap → Prop} (hf : C.P.funcs[f]? = some fn) (hw : ∀ Q : Exit → Env → Heap → Prop, (∀ t' h', need (resA C t' h' rs) (Fin h h' R) → Q .ret t' h' ∧ Q .normal t' h') → WP C c Q (env0 args) h) (hb : fn.body = some c := by exact rfl) (hrs : fn.results.toList = rs := by exact rfl) (hname : (fn.name == "runtime.NumGoroutine") = false := by kernel_rfl)
  (hok : okCode fn.ntmps c = true := by kernel_rfl) (hres : fn.results.toList.all (okRes fn.ntmps) = true := by kernel_rfl) (hlen : decide (args.length ≤ fn.ntmps) = true := by exact rfl) : Sat C f args h R := Sat.body rs hf hb hrs hname hok hres hlen hw
theorem lm {c : Code} {ms : List Nat} (I : Nat → Env → Heap → Prop) (n : Nat) (h0 : Wkn C ms t h (I n))
  (round : ∀ (n' : Nat) (s : Env) (h' : Heap), I n' (mix ms s t) h' → ∀ K : Env → Heap → Prop, (∀ m t2 h2, Wkn C ms t2 h2 (I m) → m < n' → K t2 h2) → WP C c (thenQ K Q) (mix ms s t) h') (hms : wr c = ms := by simp only [go_sem, List.nil_append, List.cons_append]; rfl) : WP C (.loop c) Q t h := WP_loopm hms I n h0 round
end Go.Av
namespace Go.Av
variable {C : Ctx} {Q : Exit → Env → Heap → Prop} {t : Env} {h : Heap} {a b : Code}
def Kt (C : Ctx) (a b : Code) (Q : Exit → Env → Heap → Prop) : Env → Heap → Prop := fun t h => Wkn C (wr a) t h fun t h => WP C b Q t h
@[congr] theorem Kt_congr (C : Ctx) (a b : Code) (Q : Exit → Env → Heap → Prop) : Kt C a b Q = Kt C a b Q := rfl
structure Bx (Y : Prop) : Prop where
 go : Y
theorem wG (g : WP C b Q t h) : Kt C a b Q t h := Wkn.refl g
theorem wS (hh : WP C a (thenQ (Kt C a b Q) Q) t h) : WP C (.seq a b) Q t h := hh
variable {F X Y : Prop} {fn : FuncId} {args : List AVal} {x : AVal} {h1 : Heap} {KK : AVal → Heap → Prop}
theorem wk (f : F) (g : Y) (e : F → Bx Y → X := by intro f g; (repeat (first | refine wS ?_ | refine w2 ?_ | refine w3 ?_ | ((first | refine w4 ?_ | refine w5 ?_ | refine w6 ?_ | refine w7 ?_ | refine wD ?_); try simp (disch := first | omega | (simp only [go_sem, ↓reduceIte, seval]; first | done | omega) | fail) only [go_sem, ↓reduceIte, seval, f]) | (refine w8 ?_; simp (disch := first | omega | (simp only [go_sem, ↓reduceIte, seval]; first | done | omega) | fail) only [go_sem, ↓reduceIte, seval, f]; refine w9 ?_) | refine wG ?_ | (refine rq f ?_; try simp (disch := first | omega | (simp only [go_sem, ↓reduceIte, seval]; first | done | omega) | fail) only [go_sem, ↓reduceIte, seval, f]) | (refine vq f ?_; try simp (disch := first | omega | (simp only [go_sem, ↓reduceIte, seval]; first | done | omega) | fail) only [go_sem, ↓reduceIte, seval, f]))); exact g.go) : X := e f ⟨g⟩
theorem kq (f : F) (c : Sat C fn args h (fun r h' => r = x ∧ h' = h1)) (g : Y) (e : F → Bx Y → KK x h1 := by intro f g; (try simp (disch := first | omega | (simp only [go_sem, ↓reduceIte, seval]; first | done | omega) | fail) only [go_sem, ↓reduceIte, seval, f]); (repeat (first | refine wS ?_ | refine w2 ?_ | refine w3 ?_ | ((first | refine w4 ?_ | refine w5 ?_ | refine w6 ?_ | refine w7 ?_ | refine wD ?_); try simp (disch := first | omega | (simp only [go_sem, ↓reduceIte, seval]; first | done | omega) | fail) only [go_sem, ↓reduceIte, seval, f]) | (refine w8 ?_; simp (disch := first | omega | (simp only [go_sem, ↓reduceIte, seval]; first | done | omega) | fail) only [go_sem, ↓reduceIte, seval, f]; refine w9 ?_) | refine wG ?_ | (refine rq f ?_; try simp (disch := first | omega | (simp only [go_sem, ↓reduceIte, seval]; first | done | omega) | fail) only [go_sem, ↓reduceIte, seval, f]) | (refine vq f ?_; try simp (disch := first | omega | (simp only [go_sem, ↓reduceIte, seval]; first | done | omega) | fail) only [go_sem, ↓reduceIte, seval, f]))); exact g.go) : Sat C fn args h KK := c.mono (by rintro r h' ⟨rfl, rfl⟩; exact e f ⟨g⟩)
theorem wn (f : F) (g : Y) (e : F → Bx Y → X := by intro f g; (repeat (first | refine wS ?_ | refine w2 ?_ | refine w3 ?_ | ((first | refine w4 ?_ | refine w5 ?_ | refine w6 ?_ | refine w7 ?_); try simp (disch := first | omega | (simp only [go_sem, ↓reduceIte, seval]; first | done | omega) | fail) only [go_sem, ↓reduceIte, seval, f]) | (refine w8 ?_; simp (disch := first | omega | (simp only [go_sem, ↓reduceIte, seval]; first | done | omega) | fail) only [go_sem, ↓reduceIte, seval, f]; refine w9 ?_) | refine wG ?_ | (refine rq f ?_; try simp (disch := first | omega | (simp only [go_sem, ↓reduceIte, seval]; first | done | omega) | fail) only [go_sem, ↓reduceIte, seval, f]) | (refine vq f ?_; try simp (disch := first | omega | (simp only [go_sem, ↓reduceIte, seval]; first | done | omega) | fail) only [go_sem, ↓reduceIte, seval, f]))); exact g.go) : X := e f ⟨g⟩
theorem wko (f : F) (g : Y) (e : F → Bx Y → X := by intro f g; (repeat (first | refine wS ?_ | refine w2 ?_ | refine w3 ?_ | ((first | refine w4 ?_ | refine w5 ?_ | refine w6 ?_ | refine w7 ?_ | refine wD ?_); try simp (disch := first | omega | (simp only [go_sem, ↓reduceIte, Nat.reduceEqDiff]; done) | fail) only [go_sem, ↓reduceIte, Int.reduceToNat, Int.reduceLE, Int.reduceLT, Int.reduceSub, Int.reduceAdd, Nat.reduceEqDiff, Nat.reduceAdd, Nat.reduceLeDiff, Nat.reduceLT, Nat.reduceMul, Nat.reduceSub, f]) | (refine w8 ?_; simp (disch := first | omega | (simp only [go_sem, ↓reduceIte, Nat.reduceEqDiff]; done) | fail) only [go_sem, ↓reduceIte, Int.reduceToNat, Int.reduceLE, Int.reduceLT, Int.reduceSub, Int.reduceAdd, Nat.reduceEqDiff, Nat.reduceAdd, Nat.reduceLeDiff, Nat.reduceLT, Nat.reduceMul, Nat.reduceSub, f]; refine w9 ?_) | refine wG ?_ | (refine rqo f ?_; try simp (disch := first | omega | (simp only [go_sem, ↓reduceIte, Nat.reduceEqDiff]; done) | fail) only [go_sem, ↓reduceIte, Int.reduceToNat, Int.reduceLE, Int.reduceLT, Int.reduceSub, Int.reduceAdd, Nat.reduceEqDiff, Nat.reduceAdd, Nat.reduceLeDiff, Nat.reduceLT, Nat.reduceMul, Nat.reduceSub, f]) | (refine vqo f ?_; try simp (disch := first | omega | (simp only [go_sem, ↓reduceIte, Nat.reduceEqDiff]; done) | fail) only [go_sem, ↓reduceIte, Int.reduceToNat, Int.reduceLE, Int.reduceLT, Int.reduceSub, Int.reduceAdd, Nat.reduceEqDiff, Nat.reduceAdd, Nat.reduceLeDiff, Nat.reduceLT, Nat.reduceMul, Nat.reduceSub, f]))); exact g.go) : X := e f ⟨g⟩
theorem kqo (f : F) (c : Sat C fn args h (fun r h' => r = x ∧ h' = h1)) (g : Y) (e : F → Bx Y → KK x h1 := by intro f g; (try simp (disch := first | omega | (simp only [go_sem, ↓reduceIte, Nat.reduceEqDiff]; done) | fail) only [go_sem, ↓reduceIte, Int.reduceToNat, Int.reduceLE, Int.reduceLT, Int.reduceSub, Int.reduceAdd, Nat.reduceEqDiff, Nat.reduceAdd, Nat.reduceLeDiff, Nat.reduceLT, Nat.reduceMul, Nat.reduceSub, f]); (repeat (first | refine wS ?_ | refine w2 ?_ | refine w3 ?_ | ((first | refine w4 ?_ | refine w5 ?_ | refine w6 ?_ | refine w7 ?_ | refine wD ?_); try simp (disch := first | omega | (simp only [go_sem, ↓reduceIte, Nat.reduceEqDiff]; done) | fail) only [go_sem, ↓reduceIte, Int.reduceToNat, Int.reduceLE, Int.reduceLT, Int.reduceSub, Int.reduceAdd, Nat.reduceEqDiff, Nat.reduceAdd, Nat.reduceLeDiff, Nat.reduceLT, Nat.reduceMul, Nat.reduceSub, f]) | (refine w8 ?_; simp (disch := first | omega | (simp only [go_sem, ↓reduceIte, Nat.reduceEqDiff]; done) | fail) only [go_sem, ↓reduceIte, Int.reduceToNat, Int.reduceLE, Int.reduceLT, Int.reduceSub, Int.reduceAdd, Nat.reduceEqDiff, Nat.reduceAdd, Nat.reduceLeDiff, Nat.reduceLT, Nat.reduceMul, Nat.reduceSub, f]; refine w9 ?_) | refine wG ?_ | (refine rqo f ?_; try simp (disch := first | omega | (simp only [go_sem, ↓reduceIte, Nat.reduceEqDiff]; done) | fail) only [go_sem, ↓reduceIte, Int.reduceToNat, Int.reduceLE, Int.reduceLT, Int.reduceSub, Int.reduceAdd, Nat.reduceEqDiff, Nat.reduceAdd, Nat.reduceLeDiff, Nat.reduceLT, Nat.reduceMul, Nat.reduceSub, f]) | (refine vqo f ?_; try simp (disch := first | omega | (simp only [go_sem, ↓reduceIte, Nat.reduceEqDiff]; done) | fail) only [go_sem, ↓reduceIte, Int.reduceToNat, Int.reduceLE, Int.reduceLT, Int.reduceSub, Int.reduceAdd, Nat.reduceEqDiff, Nat.reduceAdd, Nat.reduceLeDiff, Nat.reduceLT, Nat.reduceMul, Nat.reduceSub, f]))); exact g.go) : Sat C fn args h KK := c.mono (by rintro r h' ⟨rfl, rfl⟩; exact e f ⟨g⟩)
theorem wxo (f : F) (g : Y) (e : F → Bx Y → X := by intro f g; (repeat (first | refine wS ?_ | refine w2 ?_ | refine w3 ?_ | ((first | refine w4 ?_ | refine w5 ?_ | refine w6 ?_ | refine w7 ?_ | refine wD ?_); try simp (disch := first | omega | (simp only [go_sem, ↓reduceIte, Nat.reduceEqDiff]; done) | fail) only [go_sem, ↓reduceIte, Int.reduceToNat, Int.reduceLE, Int.reduceLT, Int.reduceSub, Int.reduceAdd, Nat.reduceEqDiff, Nat.reduceAdd, Nat.reduceLeDiff, Nat.reduceLT, Nat.reduceMul, Nat.reduceSub, f]) | (refine w8 ?_; simp (disch := first | omega | (simp only [go_sem, ↓reduceIte, Nat.reduceEqDiff]; done) | fail) only [go_sem, ↓reduceIte, Int.reduceToNat, Int.reduceLE, Int.reduceLT, Int.reduceSub, Int.reduceAdd, Nat.reduceEqDiff, Nat.reduceAdd, Nat.reduceLeDiff, Nat.reduceLT, Nat.reduceMul, Nat.reduceSub, f]; refine w9 ?_) | refine wG ?_ | (refine xqo f ?_; try simp (disch := first | omega | (simp only [go_sem, ↓reduceIte, Nat.reduceEqDiff]; done) | fail) only [go_sem, ↓reduceIte, Int.reduceToNat, Int.reduceLE, Int.reduceLT, Int.reduceSub, Int.reduceAdd, Nat.reduceEqDiff, Nat.reduceAdd, Nat.reduceLeDiff, Nat.reduceLT, Nat.reduceMul, Nat.reduceSub, f]))); exact g.go) : X := e f ⟨g⟩
theorem kxo (f : F) (c : Sat C fn args h (fun r h' => r = x ∧ h' = h1)) (g : Y) (e : F → Bx Y → KK x h1 := by intro f g; (try simp (disch := first | omega | (simp only [go_sem, ↓reduceIte, Nat.reduceEqDiff]; done) | fail) only [go_sem, ↓reduceIte, Int.reduceToNat, Int.reduceLE, Int.reduceLT, Int.reduceSub, Int.reduceAdd, Nat.reduceEqDiff, Nat.reduceAdd, Nat.reduceLeDiff, Nat.reduceLT, Nat.reduceMul, Nat.reduceSub, f]); (repeat (first | refine wS ?_ | refine w2 ?_ | refine w3 ?_ | ((first | refine w4 ?_ | refine w5 ?_ | refine w6 ?_ | refine w7 ?_ | refine wD ?_); try simp (disch := first | omega | (simp only [go_sem, ↓reduceIte, Nat.reduceEqDiff]; done) | fail) only [go_sem, ↓reduceIte, Int.reduceToNat, Int.reduceLE, Int.reduceLT, Int.reduceSub, Int.reduceAdd, Nat.reduceEqDiff, Nat.reduceAdd, Nat.reduceLeDiff, Nat.reduceLT, Nat.reduceMul, Nat.reduceSub, f]) | (refine w8 ?_; simp (disch := first | omega | (simp only [go_sem, ↓reduceIte, Nat.reduceEqDiff]; done) | fail) only [go_sem, ↓reduceIte, Int.reduceToNat, Int.reduceLE, Int.reduceLT, Int.reduceSub, Int.reduceAdd, Nat.reduceEqDiff, Nat.reduceAdd, Nat.reduceLeDiff, Nat.reduceLT, Nat.reduceMul, Nat.reduceSub, f]; refine w9 ?_) | refine wG ?_ | (refine xqo f ?_; try simp (disch := first | omega | (simp only [go_sem, ↓reduceIte, Nat.reduceEqDiff]; done) | fail) only [go_sem, ↓reduceIte, Int.reduceToNat, Int.reduceLE, Int.reduceLT, Int.reduceSub, Int.reduceAdd, Nat.reduceEqDiff, Nat.reduceAdd, Nat.reduceLeDiff, Nat.reduceLT, Nat.reduceMul, Nat.reduceSub, f]))); exact g.go) : Sat C fn args h KK := c.mono (by rintro r h' ⟨rfl, rfl⟩; exact e f ⟨g⟩)
end Go.Av
namespace Go.Av.Ty
open Go Go.Av Go.Proofs
@[go_sem] theorem szOf_3 : szOf Tryz.prog 3 = some 1 := by kernel_rfl
@[go_sem] theorem aggT_3 : aggT Tryz.prog 3 = some false := by kernel_rfl
@[go_sem] theorem und_3 : Program.underlying Tryz.prog 3 = some (.int .i64) := by kernel_rfl
@[go_sem] theorem szOf_4 : szOf Tryz.prog 4 = some 1 := by kernel_rfl
@[go_sem] theorem aggT_4 : aggT Tryz.prog 4 = some false := by kernel_rfl
@[go_sem] theorem zroT_4 : zroT Tryz.prog 4 = some (.bool false) := by kernel_rfl
@[go_sem] theorem szOf_5 : szOf Tryz.prog 5 = some 1 := by kernel_rfl
@[go_sem] theorem byT_5 : byT Tryz.prog 5 = some 1 := by kernel_rfl
@[go_sem] theorem zroT_5 : zroT Tryz.prog 5 = some (.int .u8 0) := by kernel_rfl
@[go_sem] theorem und_5 : Program.underlying Tryz.prog 5 = some (.int .u8) := by kernel_rfl
@[go_sem] theorem szOf_9 : szOf Tryz.prog 9 = some 1 := by kernel_rfl
@[go_sem] theorem aggT_9 : aggT Tryz.prog 9 = some false := by kernel_rfl
@[go_sem] theorem strT_9 : strT Tryz.prog 9 = true := by kernel_rfl
@[go_sem] theorem zroT_9 : zroT Tryz.prog 9 = some (.str []) := by kernel_rfl
@[go_sem] theorem und_9 : Program.underlying Tryz.prog 9 = some .string := by kernel_rfl
@[go_sem] theorem szOf_21 : szOf Tryz.prog 21 = some 1 := by kernel_rfl
@[go_sem] theorem aggT_21 : aggT Tryz.prog 21 = some false := by kernel_rfl
@[go_sem] theorem byT_21 : byT Tryz.prog 21 = some 4 := by kernel_rfl
@[go_sem] theorem zroT_21 : zroT Tryz.prog 21 = some (.int .i32 0) := by kernel_rfl
@[go_sem] theorem und_21 : Program.underlying Tryz.prog 21 = some (.int .i32) := by kernel_rfl
@[go_sem] theorem szOf_23 : szOf Tryz.prog 23 = some 1 := by kernel_rfl
@[go_sem] theorem aggT_23 : aggT Tryz.prog 23 = some false := by kernel_rfl
@[go_sem] theorem elmT_23 : elmT Tryz.prog 23 = some 67 := by kernel_rfl
@[go_sem] theorem szOf_24 : szOf Tryz.prog 24 = some 1 := by kernel_rfl
@[go_sem] theorem aggT_24 : aggT Tryz.prog 24 = some false := by kernel_rfl
@[go_sem] theorem elmT_24 : elmT Tryz.prog 24 = some 26 := by kernel_rfl
@[go_sem] theorem szOf_26 : szOf Tryz.prog 26 = some 4 := by kernel_rfl
@[go_sem] theorem aggT_26 : aggT Tryz.prog 26 = some true := by kernel_rfl
@[go_sem] theorem byT_26 : byT Tryz.prog 26 = some 80 := by kernel_rfl
@[go_sem] theorem nFld_26 : nFld Tryz.prog 26 = some 4 := by kernel_rfl
@[go_sem] theorem fOff_26_0 : fOff Tryz.prog 26 0 = some (0, 9, 1) := by kernel_rfl
@[go_sem] theorem fOff_26_1 : fOff Tryz.prog 26 1 = some (1, 23, 1) := by kernel_rfl
@[go_sem] theorem fOff_26_2 : fOff Tryz.prog 26 2 = some (2, 9, 1) := by kernel_rfl
@[go_sem] theorem fOff_26_3 : fOff Tryz.prog 26 3 = some (3, 24, 1) := by kernel_rfl
@[go_sem] theorem zroT_26 : zroT Tryz.prog 26 = some (.agg [.str [], .nil (.slice none 0 0), .str [], .nil (.slice none 0 0)]) := by kernel_rfl
@[go_sem] theorem elmT_42 : elmT Tryz.prog 42 = some 83 := by kernel_rfl
@[go_sem] theorem szOf_47 : szOf Tryz.prog 47 = some 1 := by kernel_rfl
@[go_sem] theorem aggT_47 : aggT Tryz.prog 47 = some false := by kernel_rfl
@[go_sem] theorem elmT_47 : elmT Tryz.prog 47 = some 58 := by kernel_rfl
@[go_sem] theorem szOf_58 : szOf Tryz.prog 58 = some 3 := by kernel_rfl
@[go_sem] theorem aggT_58 : aggT Tryz.prog 58 = some true := by kernel_rfl
@[go_sem] theorem byT_58 : byT Tryz.prog 58 = some 56 := by kernel_rfl
@[go_sem] theorem nFld_58 : nFld Tryz.prog 58 = some 3 := by kernel_rfl
@[go_sem] theorem fOff_58_0 : fOff Tryz.prog 58 0 = some (0, 9, 1) := by kernel_rfl
@[go_sem] theorem fOff_58_1 : fOff Tryz.prog 58 1 = some (1, 9, 1) := by kernel_rfl
@[go_sem] theorem fOff_58_2 : fOff Tryz.prog 58 2 = some (2, 47, 1) := by kernel_rfl
@[go_sem] theorem zroT_58 : zroT Tryz.prog 58 = some (.agg [.str [], .str [], .nil (.slice none 0 0)]) := by kernel_rfl
@[go_sem] theorem szOf_67 : szOf Tryz.prog 67 = some 2 := by kernel_rfl
@[go_sem] theorem aggT_67 : aggT Tryz.prog 67 = some true := by kernel_rfl
@[go_sem] theorem byT_67 : byT Tryz.prog 67 = some 32 := by kernel_rfl
@[go_sem] theorem nFld_67 : nFld Tryz.prog 67 = some 2 := by kernel_rfl
@[go_sem] theorem fOff_67_0 : fOff Tryz.prog 67 0 = some (0, 9, 1) := by kernel_rfl
@[go_sem] theorem fOff_67_1 : fOff Tryz.prog 67 1 = some (1, 9, 1) := by kernel_rfl
@[go_sem] theorem zroT_67 : zroT Tryz.prog 67 = some (.agg [.str [], .str []]) := by kernel_rfl
@[go_sem] theorem szOf_70 : szOf Tryz.prog 70 = some 1 := by kernel_rfl
@[go_sem] theorem aggT_70 : aggT Tryz.prog 70 = some false := by kernel_rfl
@[go_sem] theorem szOf_71 : szOf Tryz.prog 71 = some 1 := by kernel_rfl
@[go_sem] theorem aggT_71 : aggT Tryz.prog 71 = some false := by kernel_rfl
@[go_sem] theorem elmT_71 : elmT Tryz.prog 71 = some 5 := by kernel_rfl
@[go_sem] theorem fOff_73_0 : fOff Tryz.prog 73 0 = some (0, 70, 1) := by kernel_rfl
@[go_sem] theorem fOff_73_1 : fOff Tryz.prog 73 1 = some (1, 71, 1) := by kernel_rfl
@[go_sem] theorem zroT_73 : zroT Tryz.prog 73 = some (.agg [.nil (.pointer none), .nil (.slice none 0 0)]) := by kernel_rfl
@[go_sem] theorem szOf_83 : szOf Tryz.prog 83 = some 4 := by kernel_rfl
@[go_sem] theorem aggT_83 : aggT Tryz.prog 83 = some true := by kernel_rfl
@[go_sem] theorem byT_83 : byT Tryz.prog 83 = some 64 := by kernel_rfl
@[go_sem] theorem nFld_83 : nFld Tryz.prog 83 = some 4 := by kernel_rfl
@[go_sem] theorem fOff_83_0 : fOff Tryz.prog 83 0 = some (0, 3, 1) := by kernel_rfl
@[go_sem] theorem fOff_83_1 : fOff Tryz.prog 83 1 = some (1, 9, 1) := by kernel_rfl
@[go_sem] theorem fOff_83_2 : fOff Tryz.prog 83 2 = some (2, 23, 1) := by kernel_rfl
@[go_sem] theorem fOff_83_3 : fOff Tryz.prog 83 3 = some (3, 9, 1) := by kernel_rfl
@[go_sem] theorem zroT_83 : zroT Tryz.prog 83 = some (.agg [.int .i64 0, .str [], .nil (.slice none 0 0), .str []]) := by kernel_rfl
@[go_sem] theorem nFld_101 : nFld Tryz.prog 101 = some 2 := by kernel_rfl
@[go_sem] theorem fOff_101_0 : fOff Tryz.prog 101 0 = some (0, 9, 1) := by kernel_rfl
@[go_sem] theorem fOff_101_1 : fOff Tryz.prog 101 1 = some (1, 4, 1) := by kernel_rfl
@[go_sem] theorem zroT_101 : zroT Tryz.prog 101 = some (.agg [.str [], .bool false]) := by kernel_rfl
@[go_sem] theorem nFld_106 : nFld Tryz.prog 106 = some 2 := by kernel_rfl
@[go_sem] theorem fOff_106_0 : fOff Tryz.prog 106 0 = some (0, 24, 1) := by kernel_rfl
@[go_sem] theorem fOff_106_1 : fOff Tryz.prog 106 1 = some (1, 24, 1) := by kernel_rfl
@[go_sem] theorem zroT_106 : zroT Tryz.prog 106 = some (.agg [.nil (.slice none 0 0), .nil (.slice none 0 0)]) := by kernel_rfl
@[go_sem] theorem elmT_130 : elmT Tryz.prog 130 = some 9 := by kernel_rfl
@[go_sem] theorem elmT_142 : elmT Tryz.prog 142 = some 21 := by kernel_rfl
@[go_sem] theorem szOf_157 : szOf Tryz.prog 157 = some 256 := by kernel_rfl
@[go_sem] theorem arrT_157 : arrT Tryz.prog 157 = some (256, 4) := by kernel_rfl
@[go_sem] theorem zroT_157 : zroT Tryz.prog 157 = some (.agg [.bool false, .bool false, .bool false, .bool false, .bool false, .bool false, .bool false, .bool false, .bool false, .bool false, .bool false, .bool false, .bool false, .bool false, .bool false, .bool false, .bool false, .bool false, .bool false, .bool false, .bool false, .bool false, .bool false, .bool false, .bool false, .bool false, .bool false, .bool false, .bool false, .bool false, .bool false, .bool false, .bool false, .bool false, .bool false, .bool false, .bool false, .bool false, .bool false, .bool false, .bool false, .bool false, .bool false, .bool false, .bool false, .bool false, .bool false, .bool false, .bool false, .bool false, .bool false, .bool false, .bool false, .bool false, .bool false, .bool false, .bool false, .bool false, .bool false, .bool false, .bool false, .bool false, .bool false, .bool false, .bool false, .bool false, .bool false, .bool false, .bool false, .bool false, .bool false, .bool false, .bool false, .bool false, .bool false, .bool false, .bool false, .bool false, .bool false, .bool false, .bool false, .bool false, .bool false, .bool false, .bool false, .bool false, .bool false, .bool false, .bool false, .bool false, .bool false, .bool false, .bool false, .bool false, .bool false, .bool false, .bool false, .bool false, .bool false, .bool false, .bool false, .bool false, .bool false, .bool false, .bool false, .bool false, .bool false, .bool false, .bool false, .bool false, .bool false, .bool false, .bool false, .bool false, .bool false, .bool false, .bool false, .bool false, .bool false, .bool false, .bool false, .bool false, .bool false, .bool false, .bool false, .bool false, .bool false, .bool false, .bool false, .bool false, .bool false, .bool false, .bool false, .bool false, .bool false, .bool false, .bool false, .bool false, .bool false, .bool false, .bool false, .bool false, .bool false, .bool false, .bool false, .bool false, .bool false, .bool false, .bool false, .bool false, .bool false, .bool false, .bool false, .bool false, .bool false, .bool false, .bool false, .bool false, .bool false, .bool false, .bool false, .bool false, .bool false, .bool false, .bool false, .bool false, .bool false, .bool false, .bool false, .bool false, .bool false, .bool false, .bool false, .bool false, .bool false, .bool false, .bool false, .bool false, .bool false, .bool false, .bool false, .bool false, .bool false, .bool false, .bool false, .bool false, .bool false, .bool false, .bool false, .bool false, .bool false, .bool false, .bool false, .bool false, .bool false, .bool false, .bool false, .bool false, .bool false, .bool false, .bool false, .bool false, .bool false, .bool false, .bool false, .bool false, .bool false, .bool false, .bool false, .bool false, .bool false, .bool false, .bool false, .bool false, .bool false, .bool false, .bool false, .bool false, .bool false, .bool false, .bool false, .bool false, .bool false, .bool false, .bool false, .bool false, .bool false, .bool false, .bool false, .bool false, .bool false, .bool false, .bool false, .bool false, .bool false, .bool false, .bool false, .bool false, .bool false, .bool false, .bool false, .bool false, .bool false, .bool false, .bool false, .bool false, .bool false, .bool false, .bool false, .bool false, .bool false, .bool false, .bool false, .bool false, .bool false, .bool false]) := by kernel_rfl
@[go_sem] theorem und_165 : Program.underlying Tryz.prog 165 = some (.int .u32) := by kernel_rfl
end Go.Av.Ty
namespace Go.Av
open Go Go.Proofs Go.RowKit
noncomputable def CT (G : Nat → Option (List AVal)) : Ctx := ⟨Tryz.prog, G⟩
@[go_sem] theorem CT_P (G : Nat → Option (List AVal)) : (CT G).P = Tryz.prog := (rfl)
@[go_sem] theorem CT_G (G : Nat → Option (List AVal)) : (CT G).G = G := (rfl)
abbrev Bs := List UInt8
abbrev At := Bs × Bs
def At.av (a : At) : AVal := .agg [.str a.1, .str a.2]
abbrev Tok := Int × Bs × List At × Bs
def Tok.av (t : Tok) : AVal := .agg [.int .i64 t.1, .str t.2.1, .sl 2 (t.2.2.1.map At.av), .str t.2.2.2]
inductive Elem where
 | mk (name : Bs) (attrs : List At) (text : Bs) (kids : List Elem)
 deriving Inhabited
namespace Elem
def name : Elem → Bs | .mk n _ _ _ => n
def attrs : Elem → List At | .mk _ a _ _ => a
def text : Elem → Bs | .mk _ _ t _ => t
def kids : Elem → List Elem | .mk _ _ _ k => k
end Elem
mutual
def Elem.av : Elem → AVal
 | .mk n a t k => .agg [.str n, .sl 2 (a.map At.av), .str t, .sl 4 (avs k)]
def avs : List Elem → List AVal
 | [] => []
 | e :: l => e.av :: avs l
end
theorem avs_eq (l : List Elem) : avs l = l.map Elem.av := by
 induction l with
 | nil => rfl
 | cons e l ih => rw [avs, ih]; rfl
theorem Elem.av_eq (e : Elem) : e.av = .agg [.str e.name, .sl 2 (e.attrs.map At.av), .str e.text, .sl 4 (e.kids.map Elem.av)] := by
 cases e with
 | mk n a t k => simp only [Elem.av, avs_eq, Elem.name, Elem.attrs, Elem.text, Elem.kids]
def At.sz (a : At) : Nat := 1 + a.1.length + a.2.length
def szs {α : Type} (f : α → Nat) : List α → Nat
 | [] => 0
 | a :: l => f a + szs f l
mutual
def Elem.sz : Elem → Nat
 | .mk n a t k => 1 + n.length + szs At.sz a + t.length + kidsz k
def kidsz : List Elem → Nat
 | [] => 0
 | e :: l => e.sz + kidsz l
end
theorem kidsz_eq (l : List Elem) : kidsz l = szs Elem.sz l := by
 induction l with
 | nil => rfl
 | cons e l ih => rw [kidsz, ih]; rfl
theorem Elem.sz_eq (e : Elem) : e.sz = 1 + e.name.length + szs At.sz e.attrs + e.text.length + szs Elem.sz e.kids := by
 cases e with
 | mk n a t k => simp only [Elem.sz, kidsz_eq, Elem.name, Elem.attrs, Elem.text, Elem.kids]
theorem szs_mem {α : Type} (f : α → Nat) {l : List α} {a : α} (h : a ∈ l) : f a ≤ szs f l := by
 induction l with
 | nil => cases h
 | cons b l ih =>
  rw [szs]
  rcases List.mem_cons.1 h with rfl | h
  ·omega
  ·have := ih h; omega
theorem szs_len {α : Type} (f : α → Nat) (hf : ∀ a, 1 ≤ f a) (l : List α) : l.length ≤ szs f l := by
 induction l with
 | nil => exact Nat.zero_le _
 | cons b l ih => rw [szs, List.length_cons]; have := hf b; omega
theorem At.sz_pos (a : At) : 1 ≤ a.sz := by unfold At.sz; omega
theorem Elem.sz_pos (e : Elem) : 1 ≤ e.sz := by rw [Elem.sz_eq]; omega
theorem Elem.kid_sz {e k : Elem} (h : k ∈ e.kids) : k.sz + 1 ≤ e.sz := by
 have := szs_mem Elem.sz h; rw [Elem.sz_eq e]; omega
theorem Elem.kids_len (e : Elem) : e.kids.length ≤ e.sz := by
 have := szs_len Elem.sz Elem.sz_pos e.kids; rw [Elem.sz_eq e]; omega
theorem Elem.attrs_len (e : Elem) : e.attrs.length ≤ e.sz := by
 have := szs_len At.sz At.sz_pos e.attrs; rw [Elem.sz_eq e]; omega
theorem Elem.name_len (e : Elem) : e.name.length ≤ e.sz := by rw [Elem.sz_eq e]; omega
def Tok.sz (t : Tok) : Nat := 1 + t.2.1.length + szs At.sz t.2.2.1 + t.2.2.2.length
theorem Tok.sz_pos (t : Tok) : 1 ≤ t.sz := by unfold Tok.sz; omega
@[go_sem] theorem Tok.av_cells (t : Tok) : AVal.cells (Tok.av t) = [.int .i64 t.1, .str t.2.1, .sl 2 (t.2.2.1.map At.av), .str t.2.2.2] := (rfl)
@[go_sem] theorem Tok.av_fold (t : Tok) : AVal.agg [.int .i64 t.1, .str t.2.1, .sl 2 (t.2.2.1.map At.av), .str t.2.2.2] = Tok.av t := (rfl)
@[go_sem] theorem Tok.av_lies (t : Tok) : AVal.lies (Tok.av t) = true := (rfl)
@[go_sem] theorem Tok.av_box (e : TypeId) (t : Tok) (h : Heap) (k : Heap → Prop) : boxK e (Tok.av t) h k = k (h ++ [.row e 4 0 [Tok.av t]]) := by simp [Tok.av, boxK_agg]
@[go_sem] theorem At.av_cells (a : At) : AVal.cells (At.av a) = [.str a.1, .str a.2] := (rfl)
@[go_sem] theorem Elem.av_cells (e : Elem) : AVal.cells (Elem.av e) = [.str e.name, .sl 2 (e.attrs.map At.av), .str e.text, .sl 4 (e.kids.map Elem.av)] := by rw [Elem.av_eq]; rfl
@[go_sem] theorem At.av_fold (a : At) : AVal.agg [.str a.1, .str a.2] = At.av a := (rfl)
@[go_sem] theorem Elem.av_fold (e : Elem) : AVal.agg [.str e.name, .sl 2 (e.attrs.map At.av), .str e.text, .sl 4 (e.kids.map Elem.av)] = Elem.av e := (Elem.av_eq e).symm
@[go_sem] theorem At.av_box (e : TypeId) (a : At) (h : Heap) (k : Heap → Prop) : boxK e (At.av a) h k = k (h ++ [.row e 2 0 [At.av a]]) := by simp [At.av, boxK_agg]
@[go_sem] theorem Elem.av_box (t : TypeId) (e : Elem) (h : Heap) (k : Heap → Prop) : boxK t (Elem.av e) h k = k (h ++ [.row t 4 0 [Elem.av e]]) := by simp [Elem.av_eq, boxK_agg]
@[go_sem] theorem At.av_lies (a : At) : AVal.lies (At.av a) = true := (rfl)
@[go_sem] theorem Elem.av_lies (e : Elem) : AVal.lies (Elem.av e) = true := by rw [Elem.av_eq]; rfl
theorem At.clo (n : Nat) (a : At) : Clo n a.av := by
 refine .agg _ fun c hc => ?_
 simp at hc; rcases hc with rfl | rfl <;> exact .str _
theorem Tok.clo (n : Nat) (t : Tok) : Clo n t.av := by
 refine .agg _ fun c hc => ?_
 simp only [List.mem_cons, List.mem_nil_iff, or_false] at hc
 rcases hc with rfl | rfl | rfl | rfl
 ·exact .int _ _
 ·exact .str _
 ·exact .sl _ _ fun e he => by obtain ⟨a, _, rfl⟩ := List.mem_map.1 he; exact At.clo n a
 ·exact .str _
theorem Toks.clo (n m : Nat) (l : List Tok) : Clo n (.sl m (l.map Tok.av)) := .sl _ _ fun e he => by
 obtain ⟨a, _, rfl⟩ := List.mem_map.1 he; exact Tok.clo n a
theorem Ats.clo (n m : Nat) (l : List At) : Clo n (.sl m (l.map At.av)) := .sl _ _ fun e he => by
 obtain ⟨a, _, rfl⟩ := List.mem_map.1 he; exact At.clo n a
mutual
theorem Elem.clo (n : Nat) : ∀ e : Elem, Clo n e.av
 | .mk nm a t k => by
  rw [Elem.av]
  refine .agg _ fun c hc => ?_
  simp only [List.mem_cons, List.mem_nil_iff, or_false] at hc
  rcases hc with rfl | rfl | rfl | rfl
  ·exact .str _
  ·exact Ats.clo n 2 a
  ·exact .str _
  ·exact .sl _ _ (kids_clo n k)
theorem kids_clo (n : Nat) : ∀ (l : List Elem), ∀ e ∈ avs l, Clo n e
 | [] => by intro e he; cases he
 | x :: l => by
  intro e he
  rw [avs] at he
  rcases List.mem_cons.1 he with rfl | he
  ·exact Elem.clo n x
  ·exact kids_clo n l e he
end
@[go_sem] theorem cast_add_one (n : Nat) : (n : Int) + 1 = ((n + 1 : Nat) : Int) := (rfl)
theorem getElem?_of_lt {α : Type} {l : List α} {k : Nat} (h : k < l.length) : ∃ a, l[k]? = some a ∧ a ∈ l := ⟨l[k], List.getElem?_eq_getElem h, List.getElem_mem h⟩
theorem drop_cons_of {α : Type} {l : List α} {k : Nat} {a : α} (h : l[k]? = some a) : l.drop k = a :: l.drop (k + 1) := by
 obtain ⟨hlt, rfl⟩ := List.getElem?_eq_some_iff.1 h
 exact List.drop_eq_getElem_cons hlt
theorem drop_nil_of {α : Type} {l : List α} {k : Nat} (h : l.length ≤ k) : l.drop k = [] := List.drop_eq_nil_of_le h
end Go.Av
namespace Go.Av
open Go Go.Proofs Go.RowKit Go.ChangeShapes Go.WideShapes
set_option maxRecDepth 100000
section
variable {H : Type} {enc : TypeId × Value → H} {W : World}
theorem kids_prog : Kids Tryz.prog (· < Tryz.prog.types.size) := kids_rows (by kernel_rfl) (by kernel_rfl)
theorem full_prog : ∀ t e, t < Tryz.prog.types.size → Tryz.prog.underlying t = some (.slice e) → 0 < Tryz.prog.cellsOf e := slices_full_of Tryz.prog (by kernel_rfl)
theorem str_of_trod {t : TypeId} (ht : Tryz.prog.underlying t = some .string) {r : Reach} {b0 : Nat} {v : Value} {d : DataW H} {ps : List MemPlace} (hval : Value.okWide Tryz.prog W r b0 t v) (h : DataW.Trod enc Tryz.prog W 0 (fun _ => true) true t v d ps) :
  ∃ s : Bs, Rep W (lies0 W) [] (.str s) v ∧ s.length + 1 ≤ Go.Proofs.YtjgligkejfjbpaaGreatDoor.Rows.uptoBulk d := by
 obtain ⟨s, rfl, rfl, _, _⟩ := Go.ChangeMaps.open_string ht hval h
 exact ⟨s.data.toList, by simpa using Rep.str (w := W) (S := lies0 W) (μ := []) s.data.toList, by simp [Go.Proofs.YtjgligkejfjbpaaGreatDoor.Rows.uptoBulk]⟩
end
end Go.Av
namespace Go.Av
open Go Go.Proofs Go.RowKit
set_option maxRecDepth 100000
variable (G : Nat → Option (List AVal))
theorem NoEscape_sat (x : AVal) (h : Heap) : Sat (CT G) 116 [x] h (fun r h' => r = x ∧ h' = h) := by
 refine Sat.of_extern (fn := Tryz.f116) (ex := Extern.AbiNoEscape.same) Tryz.func116 (by kernel_rfl) (by kernel_rfl) (by kernel_rfl) (by kernel_rfl) fun B S μ w vs f r => ?_
 obtain ⟨hl, hr⟩ := r
 match vs, hl, hr with
 | [v], _, hr =>
  refine ⟨v, w, Lib.run_noEscape w v, x, h, S, μ, ⟨rfl, rfl⟩, Step.refl _ _ _ _, f, ?_⟩
  simpa using hr 0 x rfl
end Go.Av
