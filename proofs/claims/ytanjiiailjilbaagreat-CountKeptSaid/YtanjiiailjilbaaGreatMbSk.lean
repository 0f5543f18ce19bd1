/- The program's state, told. -/
import Derived.Test.YtanjiiailjilbaaGreatMbDr3
import Derived.WalkKit
import Derived.ProofKit
import Derived.OpenShut
import Derived.Deep.DeepHandedRow
import Derived.Shelf.SlIterI.Nil
import Derived.Shelf.SlIter.Nil
import Derived.Shelf.SortM.Plain
import Derived.Shelf.SortM.SortNone
import Derived.Ground.GgzProg
import Derived.Ground.SlgmProg
import Derived.Ground.Names2Prog
import Derived.Shelf.Spec.SlicesInsert
import Derived.Shelf.Spec.SlicesInsertGrow
import Derived.Shelf.Spec.SearchS
import Derived.Test.YtanjiiailjilbaaGreatProg
set_option linter.unusedSimpArgs false
set_option linter.unusedVariables false
set_option linter.unusedSectionVars false
set_option linter.unnecessarySimpa false
namespace Go.Av
open Go.RowKit
inductive ET where
 | fin
 | one (i : Nat) (m : List Bool) (s : ET)
 | two (i : Nat) (m : List Bool) (s : ET) (j : Nat) (m' : List Bool) (u : ET)
def maskL : List Bool → List Oper → List Oper
 | true :: m, o :: l => o :: maskL m l
 | false :: m, _ :: l => nopO :: maskL m l
 | _, _ => []
@[go_sem] theorem maskL_t (m : List Bool) (o : Oper) (l : List Oper) : maskL (true :: m) (o :: l) = o :: maskL m l := (rfl)
@[go_sem] theorem maskL_f (m : List Bool) (o : Oper) (l : List Oper) : maskL (false :: m) (o :: l) = nopO :: maskL m l := (rfl)
@[go_sem] theorem maskL_n (l : List Oper) : maskL [] l = [] := by cases l <;> rfl
theorem maskL_get : ∀ (m : List Bool) (l : List Oper) (i : Nat), (maskL m l)[i]? = match m[i]?, l[i]? with | some true, some o => some o | some false, some _ => some nopO | _, _ => none
 | [], l, i => by rw [maskL_n]; simp
 | b :: m, [], i => by cases b <;> simp [maskL]
 | true :: m, o :: l, 0 => by simp [maskL]
 | false :: m, o :: l, 0 => by simp [maskL]
 | true :: m, o :: l, i + 1 => by simp only [maskL, List.getElem?_cons_succ]; exact maskL_get m l i
 | false :: m, o :: l, i + 1 => by simp only [maskL, List.getElem?_cons_succ]; exact maskL_get m l i
theorem maskL_len : ∀ (m : List Bool) (l : List Oper), m.length ≤ l.length → (maskL m l).length = m.length
 | [], l, _ => by rw [maskL_n]; rfl
 | b :: m, [], h => by simp at h
 | true :: m, o :: l, h => by simp only [maskL, List.length_cons]; rw [maskL_len m l (by simpa using h)]
 | false :: m, o :: l, h => by simp only [maskL, List.length_cons]; rw [maskL_len m l (by simpa using h)]
def wrM : List Bool → List Oper → List Nat
 | true :: m, o :: l => match o.dst with | some d => d :: wrM m l | none => wrM m l
 | false :: m, _ :: l => wrM m l
 | _, _ => []
@[go_sem] theorem wrM_t (m : List Bool) (o : Oper) (l : List Oper) : wrM (true :: m) (o :: l) = match o.dst with | some d => d :: wrM m l | none => wrM m l := (rfl)
@[go_sem] theorem wrM_f (m : List Bool) (o : Oper) (l : List Oper) : wrM (false :: m) (o :: l) = wrM m l := (rfl)
@[go_sem] theorem wrM_n (l : List Oper) : wrM [] l = [] := by cases l <;> rfl
theorem wrM_eq : ∀ (m : List Bool) (l : List Oper), wrM m l = wrOps (maskL m l)
 | [], l => by rw [wrM_n, maskL_n]; rfl
 | b :: m, [] => by cases b <;> rfl
 | true :: m, o :: l => by
  show (match o.dst with | some d => d :: wrM m l | none => wrM m l) = (match o.dst with | some d => d :: wrOps (maskL m l) | none => wrOps (maskL m l))
  rw [wrM_eq m l]
 | false :: m, o :: l => by simp only [wrM, maskL, wrOps, nopO]; rw [wrM_eq m l]
def freeO (o : Oper) : Bool := match o.op with
 | .move _ | .assign _ | .pick _ _ _ | .extract _ _ | .field _ _ _ | .build _ _ | .unOp _ _ _ => true
 | _ => false
def okI (ops : Array Oper) (b : Array Nat) (k : Nat) (es : List Nat) (i : Nat) (m : List Bool) (X : List Nat) : Bool :=
 es.contains i && !X.contains i && (es.all fun x => !(b.getD i 0).testBit x || X.contains x) &&
 ((List.range k).all fun p => es.contains p || m.getD p false || (decide (p < i) && (b.getD i 0).testBit p) || (es.any fun x => X.contains x && decide (p < x) && (b.getD x 0).testBit p) || (ops[p]?.any freeO)) &&
 ((List.range m.length).all fun p => !m.getD p false || (decide (p < k) && !es.contains p)) && decide (m.length ≤ k)
def okO (b : Array Nat) (es X is : List Nat) : Bool :=
 es.all fun x => X.contains x || is.contains x || es.any fun y => !X.contains y && decide (y < x) && (b.getD x 0).testBit y
def okE (ops : Array Oper) (b : Array Nat) (k : Nat) (es : List Nat) : ET → List Nat → Bool
 | .fin, X => es.all X.contains
 | .one i m s, X => okI ops b k es i m X && okO b es X [i] && okE ops b k es s (i :: X)
 | .two i m s j m' u, X => okI ops b k es i m X && okI ops b k es j m' X && okO b es X [i, j] && okE ops b k es s (i :: X) && okE ops b k es u (j :: X)
def chkE (l : List Oper) (k : Nat) (es : List Nat) (m0 : List Bool) (tr : ET) : Bool :=
 let ops := l.toArray
 let b := Region.before ops
 preOkG false ops k && decide (k ≤ l.length) &&
 ((List.range k).all fun i => (List.range k).all fun j => match ops[i]?, ops[j]? with
  | some oi, some oj => match oj.dst with
   | some d => !(oi.looksAt ops).contains d || (decide (j < i) && (b.getD i 0).testBit j && (es.contains i || !es.contains j))
   | none => true
  | _, _ => true) &&
 ((List.range k).all fun i => es.contains i || (ops[i]?.any fun o => o.dst.isSome)) &&
 (es.all fun e => decide (e < k)) && m0 == (List.range k).map (fun i => !es.contains i) && okE ops b k es tr []
section
variable {C : Ctx} {t : Env} {h : Heap}
def stepE (C : Ctx) (l : List Oper) (t0 : Env) (i : Nat) (m : List Bool) (P : Env → Heap → Prop) (tc : Env) (h : Heap) : Prop :=
 need (l[i]?) fun o => wpOperV C l.toArray o tc h fun v h' => (WPp C l.toArray (maskL m l) t0 h' fun t'' => agrL (wrM m l) t'' t0) ∧ P (put tc o.dst v) h'
def WPe (C : Ctx) (Q : Exit → Env → Heap → Prop) (l : List Oper) (k : Nat) (t0 : Env) : ET → Env → Heap → Prop
 | .fin, tc, h => WPl C l.toArray Q (l.drop k) tc h
 | .one i m s, tc, h => stepE C l t0 i m (WPe C Q l k t0 s) tc h
 | .two i m s j m' u, tc, h => stepE C l t0 i m (WPe C Q l k t0 s) tc h ∧ stepE C l t0 j m' (WPe C Q l k t0 u) tc h
theorem free_swap {ops : Array Oper} {o : Oper} {s : Env} (hf : freeO o = true) {v : AVal} (g : ∀ KK : AVal → Heap → Prop, KK v h → wpOperV C ops o s h KK) (h' : Heap) : ∀ KK : AVal → Heap → Prop, KK v h' → wpOperV C ops o s h' KK := by
 intro KK hk
 have g := g (fun v' _ => KK v' h') hk
 have key : ∀ K : AVal → Heap → Prop, wpOp C o.op s h (fun v' _ => K v' h') = wpOp C o.op s h' K := by
  intro K
  unfold freeO at hf
  cases ho : o.op <;> rw [ho] at hf <;> first | (cases hf; done) | rfl
 unfold wpOperV at g ⊢
 cases hg : o.guard with
 | none => rw [hg] at g; simp only at g ⊢; rw [← key]; exact g
 | some q =>
  obtain ⟨j, w⟩ := q
  rw [hg] at g
  simp only at g ⊢
  cases hq : guardA ops s j with
  | none => rw [hq] at g; exact g
  | some b => rw [hq] at g; simp only at g ⊢; rw [← key]; exact g
theorem T_char {V : Nat → AVal} (l : List Oper) (t : Env) (hu : ∀ (i j : Nat) (oi oj : Oper) (d : Nat), l[i]? = some oi → l[j]? = some oj → oi.dst = some d → oj.dst = some d → i = j) :
  ∀ i, i ≤ l.length → (∀ (j : Nat) (o : Oper) (d : Nat), j < i → l[j]? = some o → o.dst = some d → Av.T V l t i d = V j) ∧ (∀ d, (∀ (j : Nat) (o : Oper), j < i → l[j]? = some o → o.dst ≠ some d) → Av.T V l t i d = t d)
 | 0, _ => ⟨fun j o d hj => by omega, fun d _ => by rw [T_zero]⟩
 | i + 1, hi => by
  obtain ⟨h1, h2⟩ := T_char l t hu i (by omega)
  have ho : l[i]? = some (l[i]'(by omega)) := List.getElem?_eq_getElem _
  rw [T_succ V l t i _ ho]
  generalize l[i] = o at ho
  refine ⟨fun j oj d hj hoj hd => ?_, fun d hn => ?_⟩
  ·by_cases hji : j = i
   ·subst hji
    rw [ho] at hoj; cases hoj
    simp [put, hd, upd]
   ·have hne : o.dst ≠ some d := fun e => hji (hu j i oj o d hoj ho hd e)
    have : put (Av.T V l t i) o.dst (V i) d = Av.T V l t i d := by
     cases hdo : o.dst with
     | none => rfl
     | some x => simp only [put, upd]; rw [if_neg]; intro e; subst e; exact hne hdo
    rw [this]; exact h1 j oj d (by omega) hoj hd
  ·have hne : o.dst ≠ some d := hn i o (by omega) ho
   have : put (Av.T V l t i) o.dst (V i) d = Av.T V l t i d := by
    cases hdo : o.dst with
    | none => rfl
    | some x => simp only [put, upd]; rw [if_neg]; intro e; subst e; exact hne hdo
   rw [this]; exact h2 d fun j oj hj hoj => hn j oj (by omega) hoj
theorem Ag.upd' {ops : Array Oper} {k : Nat} {V : Nat → AVal} {t s : Env} {p : Nat → Bool} (g : Ag ops k V t p s) {i : Nat} (hp : p i = false) (v : AVal) : Ag ops k (fun j => if j = i then v else V j) t p s :=
 ⟨fun j o x hj ho hpj hd => by
  have : j ≠ i := fun e => by subst e; rw [hp] at hpj; cases hpj
  simp only [if_neg this]; exact g.1 j o x hj ho hpj hd, g.2⟩
theorem Ag.congr' {ops : Array Oper} {k : Nat} {V : Nat → AVal} {t s : Env} {p p' : Nat → Bool} (g : Ag ops k V t p s) (hp : ∀ j, j < k → p' j = p j) : Ag ops k V t p' s :=
 ⟨fun j o x hj ho hpj hd => g.1 j o x hj ho (by rw [← hp j hj]; exact hpj) hd, fun x hn => g.2 x fun j o hj ho hpj => hn j o hj ho (by rw [hp j hj]; exact hpj)⟩
theorem pre_sound8 {l : List Oper} {Q : Exit → Env → Heap → Prop} {k : Nat} {es : List Nat} {t0 t : Env} (D : PreOk l.toArray k fun i j => ((Region.before l.toArray).getD j 0).testBit i) (hkn : k ≤ l.length)
  (c4 : ∀ (i j : Nat) (oi oj : Oper) (d : Nat), i < k → j < k → l[i]? = some oi → l[j]? = some oj → oj.dst = some d → d ∈ oi.looksAt l.toArray → j < i ∧ ((Region.before l.toArray).getD i 0).testBit j = true ∧ (es.contains i = true ∨ es.contains j = false))
  (c7 : ∀ (i : Nat) (o : Oper), i < k → es.contains i = false → l[i]? = some o → o.dst.isSome = true) (hes : ∀ e, es.contains e = true → e < k)
  (hA : detGo .any l.toArray (l.length - k) (listK l.length k) = some (List.range' k (l.length - k))) :
  ∀ (fuel n : Nat) (L : Array Bool) (s : Env) (tr : ET) (V : Nat → AVal) (tc : Env) (h : Heap) (X : List Nat), L.size = l.length → left l.toArray L = fuel → Closed l.toArray L → (∀ j, j < l.length → L.getD j false = true → j < k) →
   (∀ j, es.contains j = true → (L.getD j false = X.contains j)) → okE l.toArray (Region.before l.toArray) k es tr X = true →
   Ag l.toArray k V t (fun j => L.getD j false) s → Ag l.toArray k V t (fun j => !es.contains j) t0 → Ag l.toArray k V t (fun j => !es.contains j || X.contains j) tc →
   (∀ (i : Nat) (o : Oper), i < k → es.contains i = false → L.getD i false = false → l[i]? = some o → ∀ KK : AVal → Heap → Prop, KK (V i) h → wpOperV C l.toArray o t0 h KK) → WPe C Q l k t0 tr tc h →
   WPix C l.toArray Q (Region.linearise.go .any l.toArray fuel n L []) s h := by
 have hsee : ∀ {V : Nat → AVal} {s s' : Env} {p p' : Nat → Bool} {i : Nat} {o : Oper}, Ag l.toArray k V t p s → Ag l.toArray k V t p' s' → i < k → l[i]? = some o →
   (∀ j, j < i → ((Region.before l.toArray).getD i 0).testBit j = true → (es.contains i = true ∨ es.contains j = false) → p j = true ∧ p' j = true) → ∀ d ∈ o.looksAt l.toArray, s d = s' d := by
  intro V s s' p p' i o g g' hi ho hp d hd
  by_cases hx : ∃ (j : Nat) (oj : Oper), j < k ∧ l[j]? = some oj ∧ oj.dst = some d
  ·obtain ⟨j, oj, h1, h2, h3⟩ := hx
   obtain ⟨h4, h5, h6⟩ := c4 i j o oj d hi h1 ho h2 h3 hd
   obtain ⟨h7, h8⟩ := hp j h4 h5 h6
   rw [g.1 j oj d h1 (by simpa using h2) h7 h3, g'.1 j oj d h1 (by simpa using h2) h8 h3]
  ·have hn : ∀ (j : Nat) (oj : Oper), j < k → l.toArray[j]? = some oj → oj.dst ≠ some d := fun j oj h1 h2 h3 => hx ⟨j, oj, h1, by simpa using h2, h3⟩
   rw [g.2 d fun j oj h1 h2 _ => hn j oj h1 h2, g'.2 d fun j oj h1 h2 _ => hn j oj h1 h2]
 intro fuel
 induction fuel with
 | zero =>
  intro n L s tr V tc h X hs hl cl hlt hX hok ag ag0 agc hv hw
  -- everything is listed
  have hall := left_zero (by simpa using hs) hl
  cases tr with
  | fin =>
   have hk : k = l.length := by
    apply Classical.byContradiction
    intro hne
    have := hlt k (by omega) (hall k (by simp; omega))
    omega
   subst hk
   simp only [Region.linearise.go, List.reverse_nil, WPix]
   simp only [WPe, List.drop_length, WPl] at hw
   have e : s = tc := by
    refine Ag.eq (p := fun _ => true) (ag.congr' fun j hj => ?_) (agc.congr' fun j hj => ?_)
    ·exact (hall j (by simpa using hj)).symm
    ·cases hc : es.contains j with
     | false => rfl
     | true => rw [← hX j hc, hall j (by simpa using hj)]; rfl
   rw [e]; exact hw
  | one i m u =>
   simp only [okE, okI, Bool.and_eq_true, Bool.not_eq_true'] at hok
   have h1 := hok.1.1.1.1.1.1.1
   have h2 := hok.1.1.1.1.1.1.2
   have := hall i (by have := hes i h1; simp; omega)
   rw [hX i h1, h2] at this; cases this
  | two i m u j m' u' =>
   simp only [okE, okI, Bool.and_eq_true, Bool.not_eq_true'] at hok
   have h1 := hok.1.1.1.1.1.1.1.1.1
   have h2 := hok.1.1.1.1.1.1.1.1.2
   have := hall i (by have := hes i h1; simp; omega)
   rw [hX i h1, h2] at this; cases this
 | succ fuel ih =>
  intro n L s tr V tc h X hs hl cl hlt hX hok ag ag0 agc hv hw
  have bef : ∀ (i : Nat) (o : Oper), i < k → l[i]? = some o → (∀ e ∈ o.after, Region.binds .any e = true → L.getD e.on false = true) → ∀ j, j < i → ((Region.before l.toArray).getD i 0).testBit j = true → L.getD j false = true :=
   fun i o hi ho hrd j hj hc => D.bef cl i o (by simpa using ho) hi j hj hc hrd
  by_cases hfin : tr = .fin
  ·subst hfin
   simp only [okE, List.all_eq_true] at hok
   have hXe : ∀ j, es.contains j = true → L.getD j false = true := fun j hj => by rw [hX j hj]; exact hok j (by simpa using hj)
   have hTT := D.ag_T V t (by simpa using hkn) k (Nat.le_refl _)
   refine pre_sound2 D .any D.less (by simpa using hkn) (V := V) (t0 := t) (fun j => es.contains j = false ∧ L.getD j false = false) (fun i o ho hoi KK hkk => ?_) ?_ _ _ _ _ (by simpa using hs) hl cl (by simpa using hlt) (fun j hj hlj => ?_) ag
   ·have hik : i < k := by
     refine Nat.lt_of_not_le fun hle => ?_
     rw [List.getElem?_take, if_neg (by omega)] at ho; cases ho
    have hoi' : l[i]? = some o := by rw [List.getElem?_take, if_pos hik] at ho; simpa using ho
    have := hv i o hik hoi.1 hoi.2 hoi' KK hkk
    rw [← wpOperV_congr (hsee ag0 (D.ag_T V t (by simpa using hkn) i (by omega)) hik hoi' fun j hj hb he => ?_)]
    ·exact this
    ·rcases he with he | he
     ·rw [hoi.1] at he; cases he
     ·exact ⟨by simp only [he]; rfl, by simpa using hj⟩
   ·have := detGo_ok (ops := l.toArray) (Q := Q) (md := .any) _ _ _ (l.drop k) tc h hA (by rw [drop_idx (by omega), List.take_of_length_le (by simp)]) hw
    have e : Av.T V (l.toArray.toList.take k) t k = tc := by
     refine Ag.eq (p := fun _ => true) (hTT.congr' fun j hj => ?_) (agc.congr' fun j hj => ?_)
     ·simpa using hj
     ·cases hc : es.contains j with
      | false => rfl
      | true => have := hok j (by simpa using hc); simp only [this]; rfl
    rw [e]
    simpa using this
   ·refine ⟨?_, hlj⟩
    cases hc : es.contains j with
    | false => rfl
    | true => rw [hXe j hc] at hlj; cases hlj
  ·
   obtain ⟨e0, he0, hX0⟩ : ∃ e0, es.contains e0 = true ∧ X.contains e0 = false := by
    cases tr with
    | fin => exact absurd rfl hfin
    | one i m u =>
     simp only [okE, okI, Bool.and_eq_true, Bool.not_eq_true'] at hok
     exact ⟨i, hok.1.1.1.1.1.1.1, hok.1.1.1.1.1.1.2⟩
    | two i m u j m' u' =>
     simp only [okE, okI, Bool.and_eq_true, Bool.not_eq_true'] at hok
     exact ⟨i, hok.1.1.1.1.1.1.1.1.1, hok.1.1.1.1.1.1.1.1.2⟩
   have hek := hes e0 he0
   have heun : L.getD e0 false = false := by rw [hX e0 he0]; exact hX0
   have hne : Region.ready .any l.toArray L ≠ [] := by
    have hmin : ∃ i, i < k ∧ L.getD i false = false ∧ ∀ j, j < i → L.getD j false = true := by
     obtain ⟨i, hi, hl⟩ : ∃ i, i < k ∧ L.getD i false = false := ⟨e0, hek, heun⟩
     induction i using Nat.strongRecOn with
     | ind i ih =>
      by_cases hall : ∀ j, j < i → L.getD j false = true
      ·exact ⟨i, hi, hl, hall⟩
      ·have : ∃ j, j < i ∧ L.getD j false = false := Classical.byContradiction fun hno => hall fun j hj => by
        cases hlj : L.getD j false with
        | true => rfl
        | false => exact absurd ⟨j, hj, hlj⟩ hno
       obtain ⟨j, hj, hlj⟩ := this
       exact ih j hj (by omega) hlj
    obtain ⟨i, hi, hl, hall⟩ := hmin
    have hin : i < l.toArray.size := by simp; omega
    have h3 : i < L.size := by omega
    intro e
    have : i ∈ Region.ready .any l.toArray L := mem_ready.2 ⟨by simp [h3] at hl ⊢; exact hl, l.toArray[i], Array.getElem?_eq_getElem hin, fun e he hb => hall _ (D.less i _ (Array.getElem?_eq_getElem hin) hi e he hb)⟩
    rw [e] at this; cases this
   obtain ⟨i, hi, hmem⟩ := getElem?_mod hne n
   obtain ⟨hun, o, ho, hrd⟩ := mem_ready.1 hmem
   have hin := (Array.getElem?_eq_some_iff.1 ho).1
   have hin' : i < l.length := by simpa using hin
   have h3 : i < L.size := by omega
   have ho' : l[i]? = some o := by simpa using ho
   have hun' : L.getD i false = false := by simp [h3] at hun ⊢; exact hun
   have hik : i < k := by
    refine Nat.lt_of_not_le fun hle => ?_
    obtain ⟨e1, he1, hb, h1⟩ := D.sfx e0 i o ho hek hle
    have h2 := hrd e1 he1 hb
    have hkl : L.getD e0 false = true := by
     rcases h1 with rfl | ⟨h4, h5, h6⟩
     ·exact h2
     ·have hoe : l.toArray[e1.on]? = some (l.toArray[e1.on]'(by simp; omega)) := Array.getElem?_eq_getElem (by simp; omega)
      exact D.bef cl e1.on _ hoe h4 e0 h5 h6 fun e' he' hb' => cl e1.on _ hoe h2 e' he' hb'
    rw [heun] at hkl; cases hkl
   rw [go_succ .any l.toArray fuel n L hi]
   simp only [WPix, ho]
   rw [wpOper_V]
   have hb := bef i o hik ho' hrd
   have agn : ∀ {V : Nat → AVal}, Ag l.toArray k V t (fun j => L.getD j false) s → Ag l.toArray k V t (fun j => (L.setIfInBounds i true).getD j false) (put s o.dst (V i)) := fun ag => by
    refine D.ag_put ag ho hik fun j hj => ?_
    by_cases hji : i = j
    ·subst hji; simp [h3]
    ·rw [getD_set_ne false hji]
     have : (j == i) = false := by simp; exact fun e => hji e.symm
     rw [this, Bool.or_false]
   have hlt' : ∀ j, j < l.length → (L.setIfInBounds i true).getD j false = true → j < k := fun j hj hlj => by
    by_cases hji : i = j
    ·subst hji; exact hik
    ·rw [getD_set_ne false hji] at hlj; exact hlt j hj hlj
   have hls : left l.toArray (L.setIfInBounds i true) = fuel := by have := left_set (by simpa using hs) hin hun'; omega
   cases hic : es.contains i with
   | false =>
    have h9 := hv i o hik hic hun' ho'
    rw [← wpOperV_congr (hsee ag0 ag hik ho' fun j hj hbt he => ?_)]
    ·refine h9 _ ?_
     refine ih _ _ _ tr V tc h X (by simpa using hs) hls (cl.set ho hrd) hlt' (fun j hj => ?_) hok (agn ag) ag0 agc (fun j oj hj hjc hjl hoj => ?_) hw
     ·have : i ≠ j := fun e => by subst e; rw [hic] at hj; cases hj
      rw [getD_set_ne false this]; exact hX j hj
     ·have : i ≠ j := fun e => by subst e; simp [h3] at hjl
      rw [getD_set_ne false this] at hjl
      exact hv j oj hj hjc hjl hoj
    ·rcases he with he | he
     ·rw [hic] at he; cases he
     ·exact ⟨by simp only [he]; rfl, hb j hj hbt⟩
   | true =>
    have hiX : X.contains i = false := by rw [← hX i hic]; exact hun'
    have eff : ∀ (m : List Bool) (u : ET), okI l.toArray (Region.before l.toArray) k es i m X = true → okE l.toArray (Region.before l.toArray) k es u (i :: X) = true → stepE C l t0 i m (WPe C Q l k t0 u) tc h →
      wpOperV C l.toArray o s h fun v h' => WPix C l.toArray Q (Region.linearise.go .any l.toArray fuel (n / (Region.ready .any l.toArray L).length) (L.setIfInBounds i true) []) (put s o.dst v) h' := by
     intro m u hoI hoE hst
     simp only [stepE, ho', need_eq] at hst
     rw [← wpOperV_congr (hsee agc ag hik ho' fun j hj hbt _ => ?_)]
     ·refine wpOperV_mono hst fun v h' ⟨hre, hnx⟩ => ?_
      have agV := ag.upd' (i := i) (by simpa using hun') v
      have ag0V := ag0.upd' (i := i) (by simp only [hic]; rfl) v
      have agcV := agc.upd' (i := i) (by simp only [hic, hiX]; rfl) v
      have e1 := agn agV
      simp only [if_true] at e1
      refine ih _ _ _ u (fun j => if j = i then v else V j) (put tc o.dst v) h' (i :: X) (by simpa using hs) hls (cl.set ho hrd) hlt' (fun j hj => ?_) hoE e1 ag0V ?_ (fun p op hp hpc hpl hop => ?_) hnx
      ·by_cases hji : i = j
       ·subst hji; simp [h3]
       ·rw [getD_set_ne false hji, hX j hj]
        rw [List.contains_cons]
        have : (j == i) = false := by simp; exact fun e => hji e.symm
        rw [this, Bool.false_or]
      ·have := D.ag_put (V := fun j => if j = i then v else V j) (p' := fun j => !es.contains j || (i :: X).contains j) agcV ho hik fun j hj => by
        rw [List.contains_cons, Bool.or_comm (j == i), Bool.or_assoc]
       simpa using this
      ·have hpi : i ≠ p := fun e => by subst e; rw [hic] at hpc; cases hpc
       rw [getD_set_ne false hpi] at hpl
       simp only [if_neg (fun e => hpi e.symm : ¬ p = i)]
       simp only [okI, Bool.and_eq_true, List.all_eq_true, List.mem_range, Bool.or_eq_true, Bool.not_eq_true', decide_eq_true_eq] at hoI
       obtain ⟨⟨⟨⟨⟨_, _⟩, _⟩, hms⟩, hml⟩, hmk⟩ := hoI
       rcases hms p hp with (((h4 | h4) | h4) | h4) | h4
       ·rw [hpc] at h4; cases h4
       ·
        obtain ⟨V2, hv2, hK2⟩ := WPp_vals _ _ hre
        rw [wrM_eq] at hK2
        have hmlen : m.length ≤ l.length := by omega
        have hget : ∀ q oq, (maskL m l)[q]? = some oq → oq = nopO ∨ (m.getD q false = true ∧ l[q]? = some oq) := fun q oq hq => by
         rw [maskL_get] at hq
         split at hq
         ·rename_i h5 h6; cases hq; exact .inr ⟨by simp [List.getD, h5], h6⟩
         ·cases hq; exact .inl rfl
         ·cases hq
        have hgm : ∀ q oq, m.getD q false = true → l[q]? = some oq → (maskL m l)[q]? = some oq := fun q oq h5 h6 => by
         rw [maskL_get]
         have : m[q]? = some true := by
          cases hm : m[q]? with
          | none => simp [List.getD, hm] at h5
          | some b => simp [List.getD, hm] at h5; subst h5; rfl
         rw [this, h6]
        have hmP : ∀ q, m.getD q false = true → q < k ∧ es.contains q = false := fun q h5 => by
         have hq : q < m.length := by
          apply Classical.byContradiction
          intro hn
          rw [List.getD, List.getElem?_eq_none (by omega)] at h5; cases h5
         rcases hml q hq with h6 | h6
         ·rw [h5] at h6; cases h6
         ·exact h6
        have hu : ∀ (a b : Nat) (oa ob : Oper) (d : Nat), (maskL m l)[a]? = some oa → (maskL m l)[b]? = some ob → oa.dst = some d → ob.dst = some d → a = b := fun a b oa ob d h5 h6 h7 h8 => by
         rcases hget a oa h5 with rfl | ⟨ha, hoa⟩
         ·cases h7
         rcases hget b ob h6 with rfl | ⟨hb', hob⟩
         ·cases h8
         rcases Nat.lt_trichotomy a b with h9 | h9 | h9
         ·exact absurd h8 ((D.pre a b oa ob (by simpa using hoa) (by simpa using hob) h9 (hmP b hb').1).2 d h7)
         ·exact h9
         ·exact absurd h7 ((D.pre b a ob oa (by simpa using hob) (by simpa using hoa) h9 (hmP a ha).1).2 d h8)
        have hT := fun q (hq : q ≤ (maskL m l).length) => T_char (V := V2) (maskL m l) t0 hu q hq
        have hV2 : ∀ q oq d, (maskL m l)[q]? = some oq → oq.dst = some d → V2 q = t0 d := fun q oq d h5 h6 => by
         have h7 := agrL_mem hK2 d (dst_mem h5 h6)
         rw [(hT _ (Nat.le_refl _)).1 q oq d (List.getElem?_eq_some_iff.1 h5).1 h5 h6] at h7
         exact h7
        have hTt : ∀ q, q ≤ (maskL m l).length → Av.T V2 (maskL m l) t0 q = t0 := fun q hq => by
         funext d
         by_cases hx : ∃ (a : Nat) (oa : Oper), a < q ∧ (maskL m l)[a]? = some oa ∧ oa.dst = some d
         ·obtain ⟨a, oa, h5, h6, h7⟩ := hx
          rw [(hT q hq).1 a oa d h5 h6 h7, hV2 a oa d h6 h7]
         ·exact (hT q hq).2 d fun a oa h5 h6 h7 => hx ⟨a, oa, h5, h6, h7⟩
        have hg := hgm p op h4 hop
        have := hv2 p op hg
        rw [hTt p (Nat.le_of_lt (List.getElem?_eq_some_iff.1 hg).1)] at this
        obtain ⟨d, hd⟩ := Option.isSome_iff_exists.1 (c7 p op hp hpc hop)
        have h5 : V2 p = V p := by
         rw [hV2 p op d hg hd]
         exact ag0.1 p op d hp (by simpa using hop) (by simp only [hpc]; rfl) hd
        rw [h5] at this
        exact this
       ·
        rw [hb p h4.1 h4.2] at hpl; cases hpl
       ·
        obtain ⟨x, hxe, hx⟩ := List.any_eq_true.1 h4
        simp only [Bool.and_eq_true, decide_eq_true_eq] at hx
        have hxe' : es.contains x = true := by simpa using hxe
        have hxk := hes x hxe'
        have hxl : L.getD x false = true := by rw [hX x hxe']; exact hx.1.1
        have hox : l.toArray[x]? = some (l.toArray[x]'(by simp; omega)) := Array.getElem?_eq_getElem (by simp; omega)
        have := D.bef cl x _ hox hxk p hx.1.2 hx.2 (fun e he hbd => cl x _ hox hxl e he hbd)
        rw [this] at hpl; cases hpl
       ·rw [List.getElem?_toArray, hop] at h4
        exact free_swap (by simpa using h4) (hv p op hp hpc hpl hop) h'
     ·have hLj := hb j hj hbt
      refine ⟨?_, hLj⟩
      cases hc : es.contains j with
      | false => rfl
      | true => rw [← hX j hc, hLj]; rfl
    have other : ∀ is : List Nat, okO (Region.before l.toArray) es X is = true → is.contains i = true := fun is ho => by
     simp only [okO, List.all_eq_true, Bool.or_eq_true] at ho
     rcases ho i (by simpa using hic) with (h4 | h4) | h4
     ·rw [hiX] at h4; cases h4
     ·exact h4
     ·obtain ⟨y, hy, h5⟩ := List.any_eq_true.1 h4
      simp only [Bool.and_eq_true, Bool.not_eq_true', decide_eq_true_eq] at h5
      have := hb y h5.1.2 h5.2
      rw [hX y (by simpa using hy), h5.1.1] at this; cases this
    cases tr with
    | fin => exact absurd rfl hfin
    | one i' m u =>
     simp only [okE, Bool.and_eq_true] at hok
     have : i = i' := by simpa using other [i'] hok.1.2
     subst this
     exact eff m u hok.1.1 hok.2 hw
    | two i' m u j' m' u' =>
     simp only [okE, Bool.and_eq_true] at hok
     have : i = i' ∨ i = j' := by simpa using other [i', j'] hok.1.1.2
     rcases this with rfl | rfl
     ·exact eff m u hok.1.1.1.1 hok.1.2 hw.1
     ·exact eff m' u' hok.1.1.1.2 hok.2 hw.2
theorem WP_draw8 {id : Nat} {l : List Oper} {Q : Exit → Env → Heap → Prop} (k : Nat) (es : List Nat) (m0 : List Bool) (tr : ET) (hok : chkE l k es m0 tr = true) (hm : C.P.follows .mixedOrders = true)
  (hA : detGo .any l.toArray (l.length - k) (listK l.length k) = some (List.range' k (l.length - k)))
  (hh : WPp C l.toArray (maskL m0 l) t h fun t0 => WPe C Q l k t0 tr t0 h) : WP C (.region id l.toArray true) Q t h := by
 unfold chkE at hok
 simp only [Bool.and_eq_true, decide_eq_true_eq, beq_iff_eq] at hok
 obtain ⟨⟨⟨⟨⟨⟨hpre, hkn⟩, hc4⟩, hc7⟩, hes⟩, hm0⟩, hE⟩ := hok
 have D := preOkG_spec hpre
 simp only [List.all_eq_true, List.mem_range] at hc4 hc7
 have c4 : ∀ (i j : Nat) (oi oj : Oper) (d : Nat), i < k → j < k → l[i]? = some oi → l[j]? = some oj → oj.dst = some d → d ∈ oi.looksAt l.toArray → j < i ∧ ((Region.before l.toArray).getD i 0).testBit j = true ∧ (es.contains i = true ∨ es.contains j = false) := by
  intro i j oi oj d hi hj hoi hoj hd hl
  have := hc4 i hi j hj
  rw [List.getElem?_toArray, List.getElem?_toArray, hoi, hoj] at this
  simp only [hd, Bool.or_eq_true, Bool.and_eq_true, Bool.not_eq_true', decide_eq_true_eq] at this
  rcases this with h1 | h1
  ·have : (oi.looksAt l.toArray).contains d = true := by simpa using hl
   rw [h1] at this; cases this
  ·exact ⟨h1.1.1, h1.1.2, h1.2⟩
 have c7 : ∀ (i : Nat) (o : Oper), i < k → es.contains i = false → l[i]? = some o → o.dst.isSome = true := by
  intro i o hi he ho
  have := hc7 i hi
  rw [List.getElem?_toArray, ho, he] at this
  simpa using this
 have hes' : ∀ e, es.contains e = true → e < k := fun e he => by
  have := List.all_eq_true.1 hes e (by simpa using he)
  simpa using this
 obtain ⟨V, hv, hK⟩ := WPp_vals _ _ hh
 have hm0l : m0.length = k := by rw [hm0]; simp
 have hml := maskL_len m0 l (by omega)
 have hm0g : ∀ q, q < k → m0[q]? = some (!es.contains q) := fun q hq => by rw [hm0]; simp [hq]
 have hget : ∀ q oq, (maskL m0 l)[q]? = some oq → oq = nopO ∨ (q < k ∧ es.contains q = false ∧ l[q]? = some oq) := fun q oq hq => by
  have hqk : q < k := by have := (List.getElem?_eq_some_iff.1 hq).1; omega
  rw [maskL_get, hm0g q hqk] at hq
  cases hc : es.contains q with
  | true => rw [hc] at hq; cases hl : l[q]? with
   | none => rw [hl] at hq; cases hq
   | some o => rw [hl] at hq; cases hq; exact .inl rfl
  | false => rw [hc] at hq; cases hl : l[q]? with
   | none => rw [hl] at hq; cases hq
   | some o => rw [hl] at hq; cases hq; exact .inr ⟨hqk, rfl, rfl⟩
 have hgm : ∀ q oq, q < k → es.contains q = false → l[q]? = some oq → (maskL m0 l)[q]? = some oq := fun q oq hq hc h6 => by
  rw [maskL_get, hm0g q hq, hc, h6]; rfl
 have hu : ∀ (a b : Nat) (oa ob : Oper) (d : Nat), (maskL m0 l)[a]? = some oa → (maskL m0 l)[b]? = some ob → oa.dst = some d → ob.dst = some d → a = b := fun a b oa ob d h5 h6 h7 h8 => by
  rcases hget a oa h5 with rfl | ⟨ha, _, hoa⟩
  ·cases h7
  rcases hget b ob h6 with rfl | ⟨hb', _, hob⟩
  ·cases h8
  rcases Nat.lt_trichotomy a b with h9 | h9 | h9
  ·exact absurd h8 ((D.pre a b oa ob (by simpa using hoa) (by simpa using hob) h9 hb').2 d h7)
  ·exact h9
  ·exact absurd h7 ((D.pre b a ob oa (by simpa using hob) (by simpa using hoa) h9 ha).2 d h8)
 have hT := fun q (hq : q ≤ (maskL m0 l).length) => T_char (V := V) (maskL m0 l) t hu q hq
 generalize ht0 : Av.T V (maskL m0 l) t (maskL m0 l).length = t0 at hK
 have ag0 : Ag l.toArray k V t (fun j => !es.contains j) t0 := by
  rw [← ht0]
  refine ⟨fun j o x hj ho hp hd => ?_, fun x hn => ?_⟩
  ·have hc : es.contains j = false := by simpa using hp
   exact (hT _ (Nat.le_refl _)).1 j o x (by omega) (hgm j o hj hc (by simpa using ho)) hd
  ·refine (hT _ (Nat.le_refl _)).2 x fun j o hj ho hd => ?_
   rcases hget j o ho with rfl | ⟨h1, h2, h3⟩
   ·cases hd
   ·exact hn j o h1 (by simpa using h3) (by simp only [h2]; rfl) hd
 have main : ∀ n, WPix C l.toArray Q (Region.linearise .any l.toArray n) t h := fun n => by
  unfold Region.linearise
  refine pre_sound8 D hkn c4 c7 hes' hA _ n _ t tr V t0 h [] (by simp) ?_ (fun j oj hj hl => ?_) (fun j hj hl => ?_) (fun j hj => ?_) hE (Ag.start _ _ _ _ fun j hj => ?_) ag0 (ag0.congr' fun j hj => by simp) (fun i o hi hc _ ho KK hkk => ?_) hK
  ·unfold left
   have : (List.range l.toArray.size).filter (fun i => !(Array.replicate l.toArray.size false).getD i true) = List.range l.toArray.size := by
    rw [List.filter_eq_self]
    intro i hi
    have := List.mem_range.1 hi
    simp at this ⊢
    simp [this]
   rw [this, List.length_range]
  ·have h8 := (Array.getElem?_eq_some_iff.1 hj).1
   simp at h8 hl
   simp [h8] at hl
  ·simp at hl
   simp [hj] at hl
  ·have := hes' j hj
   have : j < l.length := by omega
   simp [this]
  ·have : j < l.length := by omega
   simp [this]
  ·have hg := hgm i o hi hc ho
   have := hv i o hg KK hkk
   have hil : i ≤ (maskL m0 l).length := by omega
   rw [wpOperV_congr (t2 := t0) fun d hd => ?_] at this
   ·exact this
   ·by_cases hx : ∃ (j : Nat) (oj : Oper), j < k ∧ l[j]? = some oj ∧ oj.dst = some d
    ·obtain ⟨j, oj, h1, h2, h3⟩ := hx
     obtain ⟨h4, _, h5⟩ := c4 i j o oj d hi h1 ho h2 h3 hd
     have hcj : es.contains j = false := by
      rcases h5 with h5 | h5
      ·rw [hc] at h5; cases h5
      ·exact h5
     rw [(hT i hil).1 j oj d h4 (hgm j oj h1 hcj h2) h3, ag0.1 j oj d h1 (by simpa using h2) (by simp only [hcj]; rfl) h3]
    ·rw [(hT i hil).2 d fun j oj h1 h2 h3 => ?_, ag0.2 d fun j oj h1 h2 _ h3 => hx ⟨j, oj, h1, by simpa using h2, h3⟩]
     rcases hget j oj h2 with rfl | ⟨h5, _, h6⟩
     ·cases h3
     ·exact hx ⟨j, oj, h5, h6, h3⟩
 show ∀ tp, WPix C l.toArray Q (Region.schedule (C.P.follows .mixedOrders) l.toArray tp) t h
 intro tp
 unfold Region.schedule
 rw [hm]
 simp only [Bool.true_or, if_true]
 exact main _
variable {l : List Oper} {Q : Exit → Env → Heap → Prop} {k : Nat} {t0 tc : Env} {ops : Array Oper} {dst : Option Tmp} {ty : TypeId} {pos : String} {aft : Array Edge} {K : AVal → Heap → Prop}
@[congr] theorem stepE_congr (i : Nat) (m : List Bool) (P : Env → Heap → Prop) {h h' : Heap} (e : h = h') : stepE C l t0 i m P tc h = stepE C l t0 i m P tc h' := by rw [e]
@[congr] theorem WPe_congr (tr : ET) {h h' : Heap} (e : h = h') : WPe C Q l k t0 tr tc h = WPe C Q l k t0 tr tc h' := by rw [e]
@[go_sem] theorem stepE_eq (i : Nat) (m : List Bool) (P : Env → Heap → Prop) : stepE C l t0 i m P tc h = need (l[i]?) fun o => wpOperV C l.toArray o tc h fun v h' => (WPp C l.toArray (maskL m l) t0 h' fun t'' => agrL (wrM m l) t'' t0) ∧ P (put tc o.dst v) h' := (rfl)
attribute [go_sem] List.drop_succ_cons List.drop_zero
variable {t : Env} {e : TypeId} {T : TypeId}
@[go_sem] theorem wpV_alloc : wpOperV C ops ⟨dst, .alloc e, ty, pos, aft, none⟩ t h K =
  need (zroT C.P e) fun z => 0 < z.cells.length ∧ z.cells.all AVal.sto = true ∧ z.lies = true ∧ K (.hp h.length 0 0 0) (h ++ [.row e z.cells.length 0 [z]]) := (rfl)
@[go_sem] theorem wpV_store (x y : Operand) : wpOperV C ops ⟨dst, .store T x y, ty, pos, aft, none⟩ t h K = storeK C T (aev C.G t x) (aev C.G t y) h (fun h' => K undefA h') := (rfl)
@[go_sem] theorem WPp_nop (rest : List Oper) (K : Env → Prop) : WPp C ops (nopO :: rest) t h K = WPp C ops rest t h K := WPp_move (dst := none) (.const (.bool false))
@[congr] theorem WPp_congrL {l l' : List Oper} {t t' : Env} {h h' : Heap} {K : Env → Prop} (e1 : l = l') (e2 : t = t') (e3 : h = h') : WPp C ops l t h K = WPp C ops l' t' h' K := by rw [e1, e2, e3]
@[go_sem] theorem WPp_field (T : TypeId) (x : Operand) (f : Nat) (rest : List Oper) (K : Env → Prop) : WPp C ops (⟨dst, .field T x f, ty, pos, aft, none⟩ :: rest) t h K =
  need (fOff C.P T f) fun q => need (match aev C.G t x with | .agg cs => pickT C.P q.2.1 (cs.drop q.1) | _ => none) fun v => WPp C ops rest (put t dst v) h K :=
 WPp_det (E := fun k => need (fOff C.P T f) fun q => need (match aev C.G t x with | .agg cs => pickT C.P q.2.1 (cs.drop q.1) | _ => none) k) (Det.need _ fun q => Det.need' _) fun KK => by
  simp only [wpOp]; congr; funext ⟨o, a, b⟩; simp only []; generalize aev C.G t x = v; cases v <;> rfl
@[go_sem] theorem wpV_call (f : Operand) (args : Array Operand) (Ts : Array TypeId) : wpOperV C ops ⟨dst, .call ⟨.value f, args, Ts⟩, ty, pos, aft, none⟩ t h K = callK C (aev C.G t f) (args.toList.map (aev C.G t)) h K := by
 show wpCall C ⟨.value f, args, Ts⟩ t h K = _
 simp only [wpCall, callK]; generalize aev C.G t f = v; cases v <;> first | rfl | (rename_i f _ _; cases f <;> rfl)
@[go_sem] theorem wpV_build (parts : Array (Nat × Operand)) : wpOperV C ops ⟨dst, .build T parts, ty, pos, aft, none⟩ t h K = need (buildA C T (parts.toList.map fun q => (q.1, aev C.G t q.2))) fun v => K v h := by
 show wpOp C (.build T parts) t h K = _
 have := WPl_build (C := C) (ops := #[]) (Q := fun _ t h => K (t 0) h) (rest := []) (t := t) (h := h) (dst := some 0) (ty := 0) (pos := "") (aft := #[]) T parts
 simpa [WPl, wpOper, put, upd] using this
theorem WPe_finI (g : WPl C l.toArray Q (l.drop k) tc h) : WPe C Q l k t0 .fin tc h := g
theorem WPe_oneI {i : Nat} {m : List Bool} {s : ET} (g : stepE C l t0 i m (WPe C Q l k t0 s) tc h) : WPe C Q l k t0 (.one i m s) tc h := g
theorem WPe_twoI {i j : Nat} {m m' : List Bool} {s u : ET} (g : stepE C l t0 i m (WPe C Q l k t0 s) tc h) (g' : stepE C l t0 j m' (WPe C Q l k t0 u) tc h) : WPe C Q l k t0 (.two i m s j m' u) tc h := ⟨g, g'⟩
end
end Go.Av
namespace Go.Av
open Go Go.Proofs Go.RowKit
structure Ev where
 kind : Int
 a : Int
 b : Int
 n : Int
 s : Bs
 t : Bs
 u : Bs
def Ev.av (e : Ev) : AVal := .agg [.int .i64 e.kind, .int .i64 e.a, .int .i64 e.b, .int .i64 e.n, .str e.s, .str e.t, .str e.u]
structure Fo where
 id : Int
 inn : Int
 name : Bs
structure Fe where
 id : Int
 inn : Int
 url : Bs
 title : Bs
structure It where
 id : Int
 feed : Int
 date : Int
 guid : Bs
 title : Bs
 link : Bs
 read : Bool
 star : Bool
 tags : List Bs
structure Se where
 id : Int
 name : Bs
 query : Bs
def Fo.av (f : Fo) : AVal := .agg [.int .i64 f.id, .int .i64 f.inn, .str f.name]
def Fe.av (f : Fe) : AVal := .agg [.int .i64 f.id, .int .i64 f.inn, .str f.url, .str f.title]
def It.av (t : It) : AVal := .agg [.int .i64 t.id, .int .i64 t.feed, .int .i64 t.date, .str t.guid, .str t.title, .str t.link, .bool t.read, .bool t.star, .sl 1 (t.tags.map .str)]
def Se.av (q : Se) : AVal := .agg [.int .i64 q.id, .str q.name, .str q.query]
def Fo.z : Fo := ⟨0, 0, []⟩
def Fe.z : Fe := ⟨0, 0, [], []⟩
def It.z : It := ⟨0, 0, 0, [], [], [], false, false, []⟩
def Se.z : Se := ⟨0, [], []⟩
@[go_sem] theorem Ev.av_eq (e : Ev) : e.av = .agg [.int .i64 e.kind, .int .i64 e.a, .int .i64 e.b, .int .i64 e.n, .str e.s, .str e.t, .str e.u] := (rfl)
@[go_sem] theorem Fo.av_eq (f : Fo) : f.av = .agg [.int .i64 f.id, .int .i64 f.inn, .str f.name] := (rfl)
@[go_sem] theorem Fe.av_eq (f : Fe) : f.av = .agg [.int .i64 f.id, .int .i64 f.inn, .str f.url, .str f.title] := (rfl)
@[go_sem] theorem It.av_eq (t : It) : t.av = .agg [.int .i64 t.id, .int .i64 t.feed, .int .i64 t.date, .str t.guid, .str t.title, .str t.link, .bool t.read, .bool t.star, .sl 1 (t.tags.map .str)] := (rfl)
@[go_sem] theorem Se.av_eq (q : Se) : q.av = .agg [.int .i64 q.id, .str q.name, .str q.query] := (rfl)
@[go_sem] theorem v1_fo (o : Option Fo) : v1 (.agg [.int .i64 0, .int .i64 0, .str []]) Fo.av o = (o.getD Fo.z).av := v1_d (d := Fo.z) rfl o
@[go_sem] theorem v1_fe (o : Option Fe) : v1 (.agg [.int .i64 0, .int .i64 0, .str [], .str []]) Fe.av o = (o.getD Fe.z).av := v1_d (d := Fe.z) rfl o
@[go_sem] theorem v1_it (o : Option It) : v1 (.agg [.int .i64 0, .int .i64 0, .int .i64 0, .str [], .str [], .str [], .bool false, .bool false, .sl 1 []]) It.av o = (o.getD It.z).av := v1_d (d := It.z) rfl o
@[go_sem] theorem v1_se (o : Option Se) : v1 (.agg [.int .i64 0, .str [], .str []]) Se.av o = (o.getD Se.z).av := v1_d (d := Se.z) rfl o
@[go_sem] theorem mp_fo (c : Nat) (l : ML Int Fo) (x i n : Int) (s : Bs) : putM (encM iA Fo.av l) c (.int .i64 x) (.agg [.int .i64 i, .int .i64 n, .str s]) (ixM l x) = .mp (encM iA Fo.av (upM l c x ⟨i, n, s⟩)) (ckM l c x) := mp_i c l x ⟨i, n, s⟩ rfl
@[go_sem] theorem mp_fe (c : Nat) (l : ML Int Fe) (x i n : Int) (s t : Bs) : putM (encM iA Fe.av l) c (.int .i64 x) (.agg [.int .i64 i, .int .i64 n, .str s, .str t]) (ixM l x) = .mp (encM iA Fe.av (upM l c x ⟨i, n, s, t⟩)) (ckM l c x) := mp_i c l x ⟨i, n, s, t⟩ rfl
@[go_sem] theorem mp_it (c : Nat) (l : ML Int It) (x i f d : Int) (g t u : Bs) (r s : Bool) (ts : List Bs) : putM (encM iA It.av l) c (.int .i64 x) (.agg [.int .i64 i, .int .i64 f, .int .i64 d, .str g, .str t, .str u, .bool r, .bool s, .sl 1 (ts.map .str)]) (ixM l x) = .mp (encM iA It.av (upM l c x ⟨i, f, d, g, t, u, r, s, ts⟩)) (ckM l c x) := mp_i c l x ⟨i, f, d, g, t, u, r, s, ts⟩ rfl
@[go_sem] theorem mp_it0 (c : Nat) (l : ML Int It) (x i f d : Int) (g t u : Bs) (r s : Bool) : putM (encM iA It.av l) c (.int .i64 x) (.agg [.int .i64 i, .int .i64 f, .int .i64 d, .str g, .str t, .str u, .bool r, .bool s, .sl 1 []]) (ixM l x) = .mp (encM iA It.av (upM l c x ⟨i, f, d, g, t, u, r, s, []⟩)) (ckM l c x) := mp_i c l x ⟨i, f, d, g, t, u, r, s, []⟩ rfl
@[go_sem] theorem mp_se (c : Nat) (l : ML Int Se) (x i : Int) (s t : Bs) : putM (encM iA Se.av l) c (.int .i64 x) (.agg [.int .i64 i, .str s, .str t]) (ixM l x) = .mp (encM iA Se.av (upM l c x ⟨i, s, t⟩)) (ckM l c x) := mp_i c l x ⟨i, s, t⟩ rfl
@[go_sem] theorem iA_eq (n : Int) : iA n = .int .i64 n := (rfl)
structure PS where
 clock : Int
 fo : ML Int Fo
 fe : ML Int Fe
 it : ML Int It
 se : ML Int Se
 nm : ML (Int × Bs) Int
 pl : ML Bs Int
 gu : ML (Int × Bs) Int
 he : ML Int Int
 c1 : Nat
 c2 : Nat
 c3 : Nat
 c4 : Nat
 c5 : Nat
 c6 : Nat
 c7 : Nat
 c8 : Nat
 t1 : Int
 t2 : Int
 t3 : Int
 t4 : Int
def PS.row (n : Nat) (s : PS) : AVal := .agg [.int .i64 s.clock, .hm n, .hm (n + 1), .hm (n + 2), .hm (n + 3), .hm (n + 4), .hm (n + 5), .hm (n + 6), .hm (n + 7), .int .i64 s.t1, .int .i64 s.t2, .int .i64 s.t3, .int .i64 s.t4]
def PS.bl (n : Nat) (s : PS) : List Blk :=
 [.mp (encM iA Fo.av s.fo) s.c1, .mp (encM iA Fe.av s.fe) s.c2, .mp (encM iA It.av s.it) s.c3, .mp (encM iA Se.av s.se) s.c4,
 .mp (encM nA iA s.nm) s.c5, .mp (encM AVal.str iA s.pl) s.c6, .mp (encM nA iA s.gu) s.c7, .mp (encM iA iA s.he) s.c8, .row 118 13 0 [s.row n]]
def PS.z : PS := ⟨0, [], [], [], [], [], [], [], [], 0, 0, 0, 0, 0, 0, 0, 0, 0, 0, 0, 0⟩
def so (H : Heap) (n : Nat) (s : PS) : Heap := ov H n (s.bl n)
section
variable {H : Heap} {n : Nat} {s : PS}
@[go_sem] theorem so_row (hn : n + 9 ≤ H.length) : getRow (so H n s) (n + 8) 0 = some (118, 13, [.agg [.int .i64 s.clock, .hm n, .hm (n + 1), .hm (n + 2), .hm (n + 3), .hm (n + 4), .hm (n + 5), .hm (n + 6), .hm (n + 7), .int .i64 s.t1, .int .i64 s.t2, .int .i64 s.t3, .int .i64 s.t4]]) := by
 unfold so; rw [ovR_in 0 hn (by decide +revert : 8 < 9)]; rfl
@[go_sem] theorem so_m1 (hn : n + 9 ≤ H.length) : mapAt (so H n s) n = some (encM iA Fo.av s.fo, s.c1) := by unfold so; rw [ovM_in0 hn (by simp [PS.bl])]; rfl
@[go_sem] theorem so_m2 (hn : n + 9 ≤ H.length) : mapAt (so H n s) (n + 1) = some (encM iA Fe.av s.fe, s.c2) := by unfold so; rw [ovM_in hn (by simp [PS.bl])]; rfl
@[go_sem] theorem so_m3 (hn : n + 9 ≤ H.length) : mapAt (so H n s) (n + 2) = some (encM iA It.av s.it, s.c3) := by unfold so; rw [ovM_in hn (by simp [PS.bl])]; rfl
@[go_sem] theorem so_m4 (hn : n + 9 ≤ H.length) : mapAt (so H n s) (n + 3) = some (encM iA Se.av s.se, s.c4) := by unfold so; rw [ovM_in hn (by simp [PS.bl])]; rfl
@[go_sem] theorem so_m5 (hn : n + 9 ≤ H.length) : mapAt (so H n s) (n + 4) = some (encM nA iA s.nm, s.c5) := by unfold so; rw [ovM_in hn (by simp [PS.bl])]; rfl
@[go_sem] theorem so_m6 (hn : n + 9 ≤ H.length) : mapAt (so H n s) (n + 5) = some (encM AVal.str iA s.pl, s.c6) := by unfold so; rw [ovM_in hn (by simp [PS.bl])]; rfl
@[go_sem] theorem so_m7 (hn : n + 9 ≤ H.length) : mapAt (so H n s) (n + 6) = some (encM nA iA s.gu, s.c7) := by unfold so; rw [ovM_in hn (by simp [PS.bl])]; rfl
@[go_sem] theorem so_m8 (hn : n + 9 ≤ H.length) : mapAt (so H n s) (n + 7) = some (encM iA iA s.he, s.c8) := by unfold so; rw [ovM_in hn (by simp [PS.bl])]; rfl
@[go_sem] theorem so_s1 (hn : n + 9 ≤ H.length) (l : ML Int Fo) (c : Nat) : (so H n s).set n (.mp (encM iA Fo.av l) c) = so H n { s with fo := l, c1 := c } := by unfold so; rw [ov_set0 _ hn (by simp [PS.bl])]; rfl
@[go_sem] theorem so_s2 (hn : n + 9 ≤ H.length) (l : ML Int Fe) (c : Nat) : (so H n s).set (n + 1) (.mp (encM iA Fe.av l) c) = so H n { s with fe := l, c2 := c } := by unfold so; rw [ov_set _ hn (by simp [PS.bl])]; rfl
@[go_sem] theorem so_s3 (hn : n + 9 ≤ H.length) (l : ML Int It) (c : Nat) : (so H n s).set (n + 2) (.mp (encM iA It.av l) c) = so H n { s with it := l, c3 := c } := by unfold so; rw [ov_set _ hn (by simp [PS.bl])]; rfl
@[go_sem] theorem so_s4 (hn : n + 9 ≤ H.length) (l : ML Int Se) (c : Nat) : (so H n s).set (n + 3) (.mp (encM iA Se.av l) c) = so H n { s with se := l, c4 := c } := by unfold so; rw [ov_set _ hn (by simp [PS.bl])]; rfl
@[go_sem] theorem so_s5 (hn : n + 9 ≤ H.length) (l : ML (Int × Bs) Int) (c : Nat) : (so H n s).set (n + 4) (.mp (encM nA iA l) c) = so H n { s with nm := l, c5 := c } := by unfold so; rw [ov_set _ hn (by simp [PS.bl])]; rfl
@[go_sem] theorem so_s6 (hn : n + 9 ≤ H.length) (l : ML Bs Int) (c : Nat) : (so H n s).set (n + 5) (.mp (encM AVal.str iA l) c) = so H n { s with pl := l, c6 := c } := by unfold so; rw [ov_set _ hn (by simp [PS.bl])]; rfl
@[go_sem] theorem so_s7 (hn : n + 9 ≤ H.length) (l : ML (Int × Bs) Int) (c : Nat) : (so H n s).set (n + 6) (.mp (encM nA iA l) c) = so H n { s with gu := l, c7 := c } := by unfold so; rw [ov_set _ hn (by simp [PS.bl])]; rfl
@[go_sem] theorem so_s8 (hn : n + 9 ≤ H.length) (l : ML Int Int) (c : Nat) : (so H n s).set (n + 7) (.mp (encM iA iA l) c) = so H n { s with he := l, c8 := c } := by unfold so; rw [ov_set _ hn (by simp [PS.bl])]; rfl
@[go_sem] theorem so_s9 (hn : n + 9 ≤ H.length) (k t1 t2 t3 t4 : Int) : (so H n s).set (n + 8) (.row 118 13 0 [.agg [.int .i64 k, .hm n, .hm (n + 1), .hm (n + 2), .hm (n + 3), .hm (n + 4), .hm (n + 5), .hm (n + 6), .hm (n + 7), .int .i64 t1, .int .i64 t2, .int .i64 t3, .int .i64 t4]]) = so H n { s with clock := k, t1 := t1, t2 := t2, t3 := t3, t4 := t4 } := by unfold so; rw [ov_set _ hn (by simp [PS.bl])]; rfl
@[go_sem] theorem so_app (hn : n + 9 ≤ H.length) (j : Heap) : so H n s ++ j = so (H ++ j) n s := ov_app hn
@[go_sem] theorem so_len (hn : n + 9 ≤ H.length) : (so H n s).length = H.length := ov_len hn
@[go_sem] theorem so_get (hn : n + 9 ≤ H.length) {p : Nat} (hp : n + 9 ≤ p) : (so H n s)[p]? = H[p]? := ov_out hn (.inr hp)
@[go_sem] theorem so_row' (hn : n + 9 ≤ H.length) {p : Nat} (v : Nat) (hp : n + 9 ≤ p) : getRow (so H n s) p v = getRow H p v := ovR_out v hn (.inr hp)
@[go_sem] theorem so_set' (hn : n + 9 ≤ H.length) {p : Nat} (b : Blk) (hp : n + 9 ≤ p) : (so H n s).set p b = so (H.set p b) n s := ov_setout b hn (.inr hp)
@[go_sem] theorem so_eql (hn : n + 9 ≤ H.length) : abin Tryz.prog (so H n s) .eql 27 (.hp (n + 8) 0 0 0) (.nil (.pointer none)) = some (.bool false) := by
 have hk : nilKind Tryz.prog 27 (.pointer none) = true := by kernel_rfl
 simp [abin, hk, aeqNil, so_row hn]
end
@[go_sem] theorem boxK_hm (e : TypeId) (p : Nat) (h : Heap) (k : Heap → Prop) : boxK e (.hm p) h k = k (h ++ [.row e 1 0 [.hm p]]) := by simp [boxK, AVal.cells, AVal.lies, AVal.sto]
attribute [go_sem] List.length_append List.length_cons List.length_nil
theorem clo_strs (N : Nat) (l : List Bs) : Clo N (.sl 1 (l.map .str)) := Clo.sl _ _ fun x hx => by obtain ⟨y, _, rfl⟩ := List.mem_map.1 hx; exact .str _
theorem It.clo (N : Nat) (t : It) : Clo N t.av := .agg _ fun x hx => by
 simp only [List.mem_cons, List.not_mem_nil, or_false] at hx
 rcases hx with rfl | rfl | rfl | rfl | rfl | rfl | rfl | rfl | rfl <;> first | exact .int _ _ | exact .str _ | exact .bool _ | exact clo_strs _ _
theorem encM_clo {κ α : Type} {ek : κ → AVal} {ev : α → AVal} {N c : Nat} (hk : ∀ x, Clo N (ek x)) (hv : ∀ x, Clo N (ev x)) (l : ML κ α) : CloB N (.mp (encM ek ev l) c) := fun e he => by
 obtain ⟨d, _, rfl⟩ := List.mem_map.1 he
 exact ⟨hk _, hv _⟩
theorem clo_flat {N : Nat} {cs : List AVal} (h : ∀ c ∈ cs, (∃ k n, c = .int k n) ∨ (∃ s, c = .str s) ∨ (∃ p, p < N ∧ c = .hm p)) : Clo N (.agg cs) := .agg _ fun x hx => by
 rcases h x hx with ⟨k, n, rfl⟩ | ⟨s, rfl⟩ | ⟨p, hp, rfl⟩
 ·exact .int _ _
 ·exact .str _
 ·exact .hm _ hp
theorem PS.clo {N n : Nat} (hn : n + 9 ≤ N) (s : PS) : ∀ b ∈ s.bl n, CloB N b := fun b hb => by
 have hi : ∀ x : Int, Clo N (iA x) := fun x => .int _ _
 have hna : ∀ x : Int × Bs, Clo N (nA x) := fun x => clo_flat fun c hc => by simp at hc; rcases hc with rfl | rfl <;> simp
 simp only [PS.bl, List.mem_cons, List.not_mem_nil, or_false] at hb
 rcases hb with rfl | rfl | rfl | rfl | rfl | rfl | rfl | rfl | rfl
 ·exact encM_clo hi (fun x => clo_flat fun c hc => by simp at hc; rcases hc with rfl | rfl | rfl <;> simp) _
 ·exact encM_clo hi (fun x => clo_flat fun c hc => by simp at hc; rcases hc with rfl | rfl | rfl | rfl <;> simp) _
 ·exact encM_clo hi (fun x => It.clo N x) _
 ·exact encM_clo hi (fun x => clo_flat fun c hc => by simp at hc; rcases hc with rfl | rfl | rfl <;> simp) _
 ·exact encM_clo hna hi _
 ·exact encM_clo (fun x => .str _) hi _
 ·exact encM_clo hna hi _
 ·exact encM_clo hi hi _
 ·exact CloB.row fun r hr => by
   simp at hr; subst hr
   exact clo_flat fun c hc => by
    simp only [PS.row, List.mem_cons, List.not_mem_nil, or_false] at hc
    rcases hc with rfl | rfl | rfl | rfl | rfl | rfl | rfl | rfl | rfl | rfl | rfl | rfl | rfl <;> simp <;> omega
theorem so_fin {H j : Heap} {n : Nat} {s s' : PS} {R : AVal → Heap → Prop} {r : AVal} (hn : n + 9 ≤ H.length) (hc : Clo H.length r) (hR : R r (so H n s')) : Fin (so H n s) (so (H ++ j) n s') R r := fin_ov hn rfl (PS.clo hn s') hc hR
theorem so_fin0 {H : Heap} {n : Nat} {s s' : PS} {R : AVal → Heap → Prop} {r : AVal} (hn : n + 9 ≤ H.length) (hc : Clo H.length r) (hR : R r (so H n s')) : Fin (so H n s) (so H n s') R r := fin_ov0 hn rfl (PS.clo hn s') hc hR
end Go.Av
namespace Go.Av
open Go Go.Proofs Go.RowKit Go.ChangeShapes Go.WideShapes
set_option maxRecDepth 100000
section
variable {H : Type} {enc : TypeId × Value → H} {W : World}
theorem kids_prog : Kids Tryz.prog (· < Tryz.prog.types.size) := kids_rows (by kernel_rfl) (by kernel_rfl)
theorem full_prog : ∀ t e, t < Tryz.prog.types.size → Tryz.prog.underlying t = some (.slice e) → 0 < Tryz.prog.cellsOf e := slices_full_of Tryz.prog (by kernel_rfl)
def fieldsOk (P : Program) (t : TypeId) (fs : List TypeId) : Bool := match P.underlying t with
 | some (.struct gs) => decide (gs.toList.map (·.type) = fs) && decide (P.cellsOf t = fs.length) && (gs.toList.zipIdx.all fun (f, i) => f.offset == i && P.cellsOf f.type == 1)
 | _ => false
theorem fieldsOk_spec {P : Program} {t : TypeId} {fs : List TypeId} (h : fieldsOk P t fs = true) : ∃ gs : Array Field, P.underlying t = some (.struct gs) ∧ gs.size = fs.length ∧ P.cellsOf t = gs.size ∧
  (∀ (j : Nat) (f : Field), gs[j]? = some f → f.offset = j ∧ P.cellsOf f.type = 1) ∧ ∀ (j : Nat) (T : TypeId), fs[j]? = some T → ∃ f, gs[j]? = some f ∧ f.type = T := by
 unfold fieldsOk at h
 split at h
 ·rename_i gs hg
  simp only [Bool.and_eq_true, decide_eq_true_eq, List.all_eq_true] at h
  obtain ⟨⟨h1, h2⟩, h3⟩ := h
  have hl : gs.size = fs.length := by rw [← h1]; simp
  refine ⟨gs, hg, hl, by omega, fun j f hj => ?_, fun j T hT => ?_⟩
  ·have hm : (f, j) ∈ gs.toList.zipIdx := List.mem_zipIdx_iff_getElem?.2 (by simpa using hj)
   have := h3 _ hm
   simpa using this
  ·rw [← h1, List.getElem?_map] at hT
   obtain ⟨f, hf, rfl⟩ := Option.map_eq_some_iff.1 hT
   exact ⟨f, by simpa using hf, rfl⟩
 ·cases h
theorem rd_struct {P : Program} {n : Nat} {t : TypeId} {fs : List TypeId} (hf : fieldsOk P t fs = true) {cs : List Value} {x : DataW H × List MemPlace} (h : DataW.trod enc P W 0 (fun _ => true) true n t cs = some x) :
  ∃ (ds : List (DataW H)) (n' : Nat), n = n' + 1 ∧ x.1 = .agg ds ∧ cs.length = fs.length ∧ ds.length = fs.length ∧ ∀ (j : Nat) (T : TypeId), fs[j]? = some T → ∃ y, ds[j]? = some y.1 ∧ DataW.trod enc P W 0 (fun _ => true) true n' T [cs.getD j undef] = some y := by
 obtain ⟨gs, h1, h2, h3, h4, h5⟩ := fieldsOk_spec hf
 obtain ⟨xs, n', k1, k2, k3, k4, k5⟩ := rd_fields h1 h3 h4 h
 refine ⟨_, n', k1, k2, by omega, by simp; omega, fun j T hT => ?_⟩
 obtain ⟨f, hf1, rfl⟩ := h5 j T hT
 obtain ⟨y, hy, hy2⟩ := k5 j f hf1
 exact ⟨y, by simp [hy], hy2⟩
theorem rd_cell {P : Program} {n : Nat} {T : TypeId} {α : Type} {mk : α → AVal} {sz : α → Nat} (hr : Rd H enc P W n T (fun a => [mk a]) sz) {v : Value} {y : DataW H × List MemPlace} (h : DataW.trod enc P W 0 (fun _ => true) true n T [v] = some y) :
  ∃ a : α, (mk a).sto = true ∧ Rep W (lies0 W) [] (mk a) v ∧ sz a ≤ Go.Proofs.YtanjiiailjilbaaGreat.Rows.uptoBulk y.1 := by
 obtain ⟨a, _, h2, h3⟩ := hr _ _ h
 have := h2 0 (mk a) rfl
 exact ⟨a, this.1, by simpa using this.2, h3⟩
theorem rd_ev (n : Nat) : Rd H enc Tryz.prog W n 45 (fun e : Ev => e.av.cells) (fun _ => 0) := fun cs x h => by
 obtain ⟨ds, n', rfl, hx, hcl, hdl, hf⟩ := rd_struct (fs := [3, 3, 3, 3, 9, 9, 9]) (by kernel_rfl) h
 obtain ⟨y0, d0, t0⟩ := hf 0 _ rfl
 obtain ⟨y1, d1, t1⟩ := hf 1 _ rfl
 obtain ⟨y2, d2, t2⟩ := hf 2 _ rfl
 obtain ⟨y3, d3, t3⟩ := hf 3 _ rfl
 obtain ⟨y4, d4, t4⟩ := hf 4 _ rfl
 obtain ⟨y5, d5, t5⟩ := hf 5 _ rfl
 obtain ⟨y6, d6, t6⟩ := hf 6 _ rfl
 obtain ⟨a0, s0, r0, _⟩ := rd_cell (mk := fun i : { i : Int // (Lit.int .i64 i).wf = true } => .int .i64 i.1) (rd_int (by kernel_rfl)) t0
 obtain ⟨a1, s1, r1, _⟩ := rd_cell (mk := fun i : { i : Int // (Lit.int .i64 i).wf = true } => .int .i64 i.1) (rd_int (by kernel_rfl)) t1
 obtain ⟨a2, s2, r2, _⟩ := rd_cell (mk := fun i : { i : Int // (Lit.int .i64 i).wf = true } => .int .i64 i.1) (rd_int (by kernel_rfl)) t2
 obtain ⟨a3, s3, r3, _⟩ := rd_cell (mk := fun i : { i : Int // (Lit.int .i64 i).wf = true } => .int .i64 i.1) (rd_int (by kernel_rfl)) t3
 obtain ⟨a4, s4, r4, _⟩ := rd_cell (mk := fun s : Bs => .str s) (rd_str (by kernel_rfl)) t4
 obtain ⟨a5, s5, r5, _⟩ := rd_cell (mk := fun s : Bs => .str s) (rd_str (by kernel_rfl)) t5
 obtain ⟨a6, s6, r6, _⟩ := rd_cell (mk := fun s : Bs => .str s) (rd_str (by kernel_rfl)) t6
 refine ⟨⟨a0.1, a1.1, a2.1, a3.1, a4, a5, a6⟩, by rw [hcl]; rfl, fun j c hj => ?_, Nat.zero_le _⟩
 match j with
 | 0 => simp [Ev.av, AVal.cells] at hj; subst hj; exact ⟨s0, r0⟩
 | 1 => simp [Ev.av, AVal.cells] at hj; subst hj; exact ⟨s1, r1⟩
 | 2 => simp [Ev.av, AVal.cells] at hj; subst hj; exact ⟨s2, r2⟩
 | 3 => simp [Ev.av, AVal.cells] at hj; subst hj; exact ⟨s3, r3⟩
 | 4 => simp [Ev.av, AVal.cells] at hj; subst hj; exact ⟨s4, r4⟩
 | 5 => simp [Ev.av, AVal.cells] at hj; subst hj; exact ⟨s5, r5⟩
 | 6 => simp [Ev.av, AVal.cells] at hj; subst hj; exact ⟨s6, r6⟩
 | j + 7 => simp [Ev.av, AVal.cells] at hj
theorem evs_of_trod {v : Value} {d : DataW H} {ps : List MemPlace} {r : Reach} {b0 : Nat} (hval : Value.okWide Tryz.prog W r b0 22 v) (h : DataW.Trod enc Tryz.prog W 0 (fun _ => true) true 22 v d ps) : ∃ es : List Ev, Rep W (lies0 W) [] (.sl 7 (es.map Ev.av)) v := by
 obtain ⟨n, hn⟩ := h
 obtain ⟨l, h1, h2, _⟩ := rd_slice (m := 7) (e := 45) Ev.av (by kernel_rfl) (by kernel_rfl) (by decide) (fun _ => rfl) (fun _ => rfl) (fun k _ => rd_ev k) _ _ hn
 refine ⟨l, ?_⟩
 have h4 := (h2 0 _ rfl).2
 have hcs : v.cells.toList = [v] := by
  have hu : Tryz.prog.underlying 22 = some (.slice 45) := by kernel_rfl
  cases v with
  | agg a => simp [Value.okWide, hu, Cell.okWide, Cell.ok] at hval
  | _ => rfl
 rw [hcs] at h4
 simpa using h4
end
theorem own_prog : ownKnob Tryz.prog.godebug = none := by kernel_rfl
end Go.Av
namespace Go.Av
open Go Go.Proofs Go.RowKit
attribute [local irreducible] WP WPl WPix Sat
set_option maxRecDepth 100000
set_option maxHeartbeats 1000000
variable (G : Nat → Option (List AVal))
def PS.within (s : PS) (id : Int) : Bool := decide (id = 0) || (lkM s.fo id).isSome
theorem PSwithin_sat (s : PS) (id : Int) {H : Heap} {n : Nat} (hn : n + 9 ≤ H.length) : Sat (CT G) 93 [.hp (n + 8) 0 0 0, .int .i64 id] (so H n s) (fun r h' => r = .bool (s.within id) ∧ h' = so H n s) := by
 refine sb [.tmp 4] (fn := Tryz.f93) Tryz.func93 ?_
 intro Q hQ
 refine wk trivial ?_
 (first | refine gq trivial (fun g => ?_) (fun g => ?_) | refine pq trivial (fun g => ?_) (fun g => ?_)) <;> (try exact g.elim) <;> (try refine sq trivial ?_) <;> (refine wk trivial ?_)
 ·refine ee hQ trivial ?_
  exact so_fin hn (.bool _) ⟨by simp [PS.within, g], rfl⟩
 ·refine ee hQ trivial ?_
  exact so_fin hn (.bool _) ⟨by simp [PS.within, g], rfl⟩
def PS.hold (s : PS) (id k : Int) : PS := if id = 0 then s else { s with he := upM s.he s.c8 id ((lkM s.he id).getD 0 + k), c8 := ckM s.he s.c8 id }
theorem PShold_sat (s : PS) (id k : Int) (hk : -1000000 ≤ (lkM s.he id).getD 0 ∧ (lkM s.he id).getD 0 ≤ 1000000) (hk' : -1 ≤ k ∧ k ≤ 1) {H : Heap} {n : Nat} (hn : n + 9 ≤ H.length) : Sat (CT G) 52 [.hp (n + 8) 0 0 0, .int .i64 id, .int .i64 k] (so H n s) (fun r h' => r = .tup [] ∧ h' = so H n (s.hold id k)) := by
 refine sb [] (fn := Tryz.f52) Tryz.func52 ?_
 intro Q hQ
 refine wk trivial ?_
 refine cq trivial (fun c => ?_) (fun c => ?_) <;> (try exact c.elim) <;> (refine wk trivial ?_)
 ·refine ee hQ trivial ?_
  exact so_fin0 hn (.tup _ (by simp)) ⟨rfl, by rw [PS.hold, if_neg (by omega)]⟩
 ·refine ee hQ trivial ?_
  exact so_fin0 hn (.tup _ (by simp)) ⟨rfl, by rw [PS.hold, if_pos (by omega)]⟩
def PS.raise (s : PS) (k : Nat) (id : Int) : PS := match k with
 | 0 => { s with t1 := if id > s.t1 then id else s.t1 }
 | 1 => { s with t2 := if id > s.t2 then id else s.t2 }
 | 2 => { s with t3 := if id > s.t3 then id else s.t3 }
 | _ => { s with t4 := if id > s.t4 then id else s.t4 }
theorem PSraise_sat (s : PS) (k : Nat) (id : Int) (hk : k < 4) {H : Heap} {n : Nat} (hn : n + 9 ≤ H.length) : Sat (CT G) 99 [.hp (n + 8) 0 0 0, .int .i64 (k : Int), .int .i64 id] (so H n s) (fun r h' => r = .tup [] ∧ h' = so H n (s.raise k id)) := by
 match k, hk with
 | 0, _ =>
  refine sb [] (fn := Tryz.f99) Tryz.func99 ?_
  intro Q hQ
  refine wk trivial ?_
  refine ee hQ trivial ?_
  exact so_fin0 hn (.tup _ (by simp)) ⟨rfl, by simp only [PS.raise, decide_eq_true_eq]⟩
 | 1, _ =>
  refine sb [] (fn := Tryz.f99) Tryz.func99 ?_
  intro Q hQ
  refine wk trivial ?_
  refine ee hQ trivial ?_
  exact so_fin0 hn (.tup _ (by simp)) ⟨rfl, by simp only [PS.raise, decide_eq_true_eq]⟩
 | 2, _ =>
  refine sb [] (fn := Tryz.f99) Tryz.func99 ?_
  intro Q hQ
  refine wk trivial ?_
  refine ee hQ trivial ?_
  exact so_fin0 hn (.tup _ (by simp)) ⟨rfl, by simp only [PS.raise, decide_eq_true_eq]⟩
 | 3, _ =>
  refine sb [] (fn := Tryz.f99) Tryz.func99 ?_
  intro Q hQ
  refine wk trivial ?_
  refine ee hQ trivial ?_
  exact so_fin0 hn (.tup _ (by simp)) ⟨rfl, by simp only [PS.raise, decide_eq_true_eq]⟩
def deepO (l : ML Int Fo) : Nat → Int → Option Nat
 | 0, id => if (lkM l id).isSome then none else some 0
 | k + 1, id => match lkM l id with
  | none => some 0
  | some f => (deepO l k f.inn).map (· + 1)
theorem PSDeep_sat (s : PS) (id : Int) (k d : Nat) (hd : deepO s.fo k id = some d) (hk : d ≤ 1000) {H : Heap} {n : Nat} (hn : n + 9 ≤ H.length) : Sat (CT G) 94 [.hp (n + 8) 0 0 0, .int .i64 id] (so H n s) (fun r h' => r = .int .i64 d ∧ h' = so H n s) := by
 have step : ∀ (k m : Nat) (id : Int), deepO s.fo k id = some (d - m) → m ≤ d → ((lkM s.fo id).isSome = true ∧ m + 1 ≤ d ∧ ∃ k, deepO s.fo k ((lkM s.fo id).getD Fo.z).inn = some (d - (m + 1))) ∨ ((lkM s.fo id).isSome = false ∧ m = d) := by
  intro k m id h hm
  cases k with
  | zero =>
   rw [deepO] at h
   cases hl : lkM s.fo id with
   | none => rw [hl] at h; simp at h; exact .inr ⟨rfl, by omega⟩
   | some f => rw [hl] at h; simp at h
  | succ k =>
   rw [deepO] at h
   cases hl : lkM s.fo id with
   | none => rw [hl] at h; simp at h; exact .inr ⟨rfl, by omega⟩
   | some f =>
    rw [hl] at h
    simp only [Option.map_eq_some_iff] at h
    obtain ⟨j, hj, hd⟩ := h
    exact .inl ⟨rfl, by omega, k, by rw [Option.getD_some, hj]; congr 1; omega⟩
 refine sb [.tmp 4] (fn := Tryz.f94) Tryz.func94 ?_
 intro Q hQ
 refine wk trivial ?_
 refine lm (fun nL tL hL => ∃ (m : Nat) (f : Fo) (b : Bool), d - m = nL ∧ so (H ++ [.row 53 3 0 [.agg [.int .i64 f.id, .int .i64 f.inn, .str f.name]]]) n s = hL ∧ tL 0 = .hp (n + 8) 0 0 0 ∧ tL 5 = .int .i64 m ∧ tL 6 = .hp H.length 0 0 0 ∧ tL 7 = .bool b ∧ ((b = true ∧ m + 1 ≤ d ∧ ∃ k, deepO s.fo k f.inn = some (d - (m + 1))) ∨ (b = false ∧ m = d))) ((fun (m : Nat) (f : Fo) (b : Bool) => (d - m : Nat)) (0) ((lkM s.fo id).getD Fo.z) ((lkM s.fo id).isSome)) ?_ ?_
 ·refine Wkn.refl ⟨0, (lkM s.fo id).getD Fo.z, (lkM s.fo id).isSome, rfl, hpE, ?_, ?_, ?_, ?_, step k 0 id hd (by omega)⟩
  all_goals first | exact zq trivial | rfl | omega | trivial | skip
 rintro _ s2 h' ⟨m, f, b, rfl, rfl, e0, e5, e6, e7, hi⟩ K2 hK2
 simp only [mix_cons, mix_nil, Nat.reduceEqDiff, ↓reduceIte] at e0 e5 e6 e7
 have F := F4 e0 e5 e6 e7
 refine wk F ?_
 refine cq F (fun c => ?_) (fun c => ?_) <;> (try exact c.elim) <;> (refine wk F ?_)
 ·rcases hi with ⟨_, h1, k1, h2⟩ | ⟨h1, _⟩
  ·refine WP_draw6 8 (.two 8 (.two 9 (.one 10 (.one 11 .nil)) 10 (.one 9 (.one 11 .nil))) 9 (.one 8 (.one 10 (.one 11 .nil)))) (by decide +kernel) (by kernel_rfl) (by decide +kernel) ?_
   simp only [List.take_succ_cons, List.take_zero]
   try refine sq F ?_
   repeat' (first | refine WPt_nil ?_ | (refine WPt_one rfl ?_; refine sq F ?_) | (refine WPt_two rfl rfl ?_ ?_ <;> refine sq F ?_))
   all_goals (
    refine hK2 _ _ _ (Wkn.refl ⟨m + 1, (lkM s.fo f.inn).getD Fo.z, (lkM s.fo f.inn).isSome, rfl, hpE, ?_, ?_, ?_, ?_, step k1 (m + 1) f.inn h2 h1⟩) (by omega)
    all_goals first | exact zq F | rfl | omega | trivial | skip)
  ·rw [c] at h1; cases h1
 ·rcases hi with ⟨h1, _⟩ | ⟨_, h1⟩
  ·rw [c] at h1; cases h1
  ·subst h1
   refine ee hQ F ?_
   exact so_fin hn (.int _ _) ⟨rfl, rfl⟩
end Go.Av
namespace Go.Proofs
open Go.Shelf
def Tryz.keys85_ren : Go.Shelf.Ren := ⟨fun | 7 => 85 | 10 => 138 | n => n, fun | 23 => 89 | 26 => 3 | 3 => 94 | 28 => 157 | 0 => 0 | 27 => 156 | 33 => 168 | 4 => 4 | n => n, fun | n => n⟩
theorem Tryz.keys85 : Go.Proofs.SlLaysZI.n7 Tryz.prog Tryz.keys85_ren := {
 mixed := by kernel_rfl
 f7 := ⟨Tryz.f85.name, by decide, Tryz.func85.trans (congrArg some (by kernel_rfl))⟩
 f10 := ⟨Tryz.f138.name, by decide, Tryz.func138.trans (congrArg some (by kernel_rfl))⟩
 t0 := Tryz.underlying0
 a0 := Tryz.isAgg0
 z0 := Tryz.sizeOf0
 v0 := Tryz.zeroValue0
 t4 := Tryz.underlying4
 a4 := Tryz.isAgg4
 z4 := Tryz.sizeOf4
 v4 := Tryz.zeroValue4
 t23 := Tryz.underlying89
 a23 := Tryz.isAgg89
 z23 := Tryz.sizeOf89
 v23 := Tryz.zeroValue89
 t26 := Tryz.underlying3
 a26 := Tryz.isAgg3
 z26 := Tryz.sizeOf3
 v26 := Tryz.zeroValue3
 t27 := Tryz.underlying156
 a27 := Tryz.isAgg156
 z27 := Tryz.sizeOf156
 v27 := Tryz.zeroValue156
 t28 := Tryz.underlying157
 a28 := Tryz.isAgg157
 z28 := Tryz.sizeOf157
 v28 := Tryz.zeroValue157
 t33 := Tryz.underlying168
 a33 := Tryz.isAgg168
 z33 := Tryz.sizeOf168
 v33 := Tryz.zeroValue168 }
def Tryz.keys100_ren : Go.Shelf.Ren := ⟨fun | 7 => 100 | 10 => 151 | n => n, fun | 23 => 110 | 26 => 3 | 3 => 53 | 28 => 157 | 0 => 0 | 27 => 156 | 33 => 168 | 4 => 4 | n => n, fun | n => n⟩
theorem Tryz.keys100 : Go.Proofs.SlLaysZI.n7 Tryz.prog Tryz.keys100_ren := {
 mixed := by kernel_rfl
 f7 := ⟨Tryz.f100.name, by decide, Tryz.func100.trans (congrArg some (by kernel_rfl))⟩
 f10 := ⟨Tryz.f151.name, by decide, Tryz.func151.trans (congrArg some (by kernel_rfl))⟩
 t0 := Tryz.underlying0
 a0 := Tryz.isAgg0
 z0 := Tryz.sizeOf0
 v0 := Tryz.zeroValue0
 t4 := Tryz.underlying4
 a4 := Tryz.isAgg4
 z4 := Tryz.sizeOf4
 v4 := Tryz.zeroValue4
 t23 := Tryz.underlying110
 a23 := Tryz.isAgg110
 z23 := Tryz.sizeOf110
 v23 := Tryz.zeroValue110
 t26 := Tryz.underlying3
 a26 := Tryz.isAgg3
 z26 := Tryz.sizeOf3
 v26 := Tryz.zeroValue3
 t27 := Tryz.underlying156
 a27 := Tryz.isAgg156
 z27 := Tryz.sizeOf156
 v27 := Tryz.zeroValue156
 t28 := Tryz.underlying157
 a28 := Tryz.isAgg157
 z28 := Tryz.sizeOf157
 v28 := Tryz.zeroValue157
 t33 := Tryz.underlying168
 a33 := Tryz.isAgg168
 z33 := Tryz.sizeOf168
 v33 := Tryz.zeroValue168 }
def Tryz.keys101_ren : Go.Shelf.Ren := ⟨fun | 7 => 101 | 10 => 152 | n => n, fun | 23 => 111 | 26 => 3 | 3 => 51 | 28 => 157 | 0 => 0 | 27 => 156 | 33 => 168 | 4 => 4 | n => n, fun | n => n⟩
theorem Tryz.keys101 : Go.Proofs.SlLaysZI.n7 Tryz.prog Tryz.keys101_ren := {
 mixed := by kernel_rfl
 f7 := ⟨Tryz.f101.name, by decide, Tryz.func101.trans (congrArg some (by kernel_rfl))⟩
 f10 := ⟨Tryz.f152.name, by decide, Tryz.func152.trans (congrArg some (by kernel_rfl))⟩
 t0 := Tryz.underlying0
 a0 := Tryz.isAgg0
 z0 := Tryz.sizeOf0
 v0 := Tryz.zeroValue0
 t4 := Tryz.underlying4
 a4 := Tryz.isAgg4
 z4 := Tryz.sizeOf4
 v4 := Tryz.zeroValue4
 t23 := Tryz.underlying111
 a23 := Tryz.isAgg111
 z23 := Tryz.sizeOf111
 v23 := Tryz.zeroValue111
 t26 := Tryz.underlying3
 a26 := Tryz.isAgg3
 z26 := Tryz.sizeOf3
 v26 := Tryz.zeroValue3
 t27 := Tryz.underlying156
 a27 := Tryz.isAgg156
 z27 := Tryz.sizeOf156
 v27 := Tryz.zeroValue156
 t28 := Tryz.underlying157
 a28 := Tryz.isAgg157
 z28 := Tryz.sizeOf157
 v28 := Tryz.zeroValue157
 t33 := Tryz.underlying168
 a33 := Tryz.isAgg168
 z33 := Tryz.sizeOf168
 v33 := Tryz.zeroValue168 }
def Tryz.keys102_ren : Go.Shelf.Ren := ⟨fun | 7 => 102 | 10 => 153 | n => n, fun | 23 => 91 | 26 => 3 | 3 => 82 | 28 => 157 | 0 => 0 | 27 => 156 | 33 => 168 | 4 => 4 | n => n, fun | n => n⟩
theorem Tryz.keys102 : Go.Proofs.SlLaysZI.n7 Tryz.prog Tryz.keys102_ren := {
 mixed := by kernel_rfl
 f7 := ⟨Tryz.f102.name, by decide, Tryz.func102.trans (congrArg some (by kernel_rfl))⟩
 f10 := ⟨Tryz.f153.name, by decide, Tryz.func153.trans (congrArg some (by kernel_rfl))⟩
 t0 := Tryz.underlying0
 a0 := Tryz.isAgg0
 z0 := Tryz.sizeOf0
 v0 := Tryz.zeroValue0
 t4 := Tryz.underlying4
 a4 := Tryz.isAgg4
 z4 := Tryz.sizeOf4
 v4 := Tryz.zeroValue4
 t23 := Tryz.underlying91
 a23 := Tryz.isAgg91
 z23 := Tryz.sizeOf91
 v23 := Tryz.zeroValue91
 t26 := Tryz.underlying3
 a26 := Tryz.isAgg3
 z26 := Tryz.sizeOf3
 v26 := Tryz.zeroValue3
 t27 := Tryz.underlying156
 a27 := Tryz.isAgg156
 z27 := Tryz.sizeOf156
 v27 := Tryz.zeroValue156
 t28 := Tryz.underlying157
 a28 := Tryz.isAgg157
 z28 := Tryz.sizeOf157
 v28 := Tryz.zeroValue157
 t33 := Tryz.underlying168
 a33 := Tryz.isAgg168
 z33 := Tryz.sizeOf168
 v33 := Tryz.zeroValue168 }
def Tryz.keys103_ren : Go.Shelf.Ren := ⟨fun | 7 => 103 | 10 => 154 | n => n, fun | 23 => 112 | 26 => 3 | 3 => 129 | 28 => 157 | 0 => 0 | 27 => 156 | 33 => 168 | 4 => 4 | n => n, fun | n => n⟩
theorem Tryz.keys103 : Go.Proofs.SlLaysZI.n7 Tryz.prog Tryz.keys103_ren := {
 mixed := by kernel_rfl
 f7 := ⟨Tryz.f103.name, by decide, Tryz.func103.trans (congrArg some (by kernel_rfl))⟩
 f10 := ⟨Tryz.f154.name, by decide, Tryz.func154.trans (congrArg some (by kernel_rfl))⟩
 t0 := Tryz.underlying0
 a0 := Tryz.isAgg0
 z0 := Tryz.sizeOf0
 v0 := Tryz.zeroValue0
 t4 := Tryz.underlying4
 a4 := Tryz.isAgg4
 z4 := Tryz.sizeOf4
 v4 := Tryz.zeroValue4
 t23 := Tryz.underlying112
 a23 := Tryz.isAgg112
 z23 := Tryz.sizeOf112
 v23 := Tryz.zeroValue112
 t26 := Tryz.underlying3
 a26 := Tryz.isAgg3
 z26 := Tryz.sizeOf3
 v26 := Tryz.zeroValue3
 t27 := Tryz.underlying156
 a27 := Tryz.isAgg156
 z27 := Tryz.sizeOf156
 v27 := Tryz.zeroValue156
 t28 := Tryz.underlying157
 a28 := Tryz.isAgg157
 z28 := Tryz.sizeOf157
 v28 := Tryz.zeroValue157
 t33 := Tryz.underlying168
 a33 := Tryz.isAgg168
 z33 := Tryz.sizeOf168
 v33 := Tryz.zeroValue168 }
def Tryz.sorted84_ren : Go.Shelf.Ren := ⟨fun | 6 => 84 | 8 => 136 | 9 => 137 | 11 => 179 | 13 => 141 | 12 => 180 | 23 => 190 | 24 => 191 | 14 => 221 | 15 => 222 | 16 => 223 | 17 => 224 | 18 => 225 | 19 => 226 | 20 => 227 | 21 => 228 | 22 => 229 | 25 => 258 | 26 => 231 | 27 => 232 | 28 => 259 | 29 => 260 | 30 => 261 | 31 => 276 | n => n, fun | 26 => 3 | 28 => 157 | 24 => 59 | 0 => 0 | 3 => 3 | 37 => 205 | 48 => 232 | 50 => 234 | 4 => 4 | 40 => 226 | 39 => 225 | 45 => 171 | 5 => 5 | 9 => 9 | 51 => 252 | 55 => 256 | 57 => 273 | 58 => 40 | 33 => 168 | n => n, fun | n => n⟩
theorem Tryz.sorted84 : Go.Proofs.SlLaysZI.n6 Tryz.prog Tryz.sorted84_ren := {
 mixed := by kernel_rfl
 f6 := ⟨Tryz.f84.name, by decide, Tryz.func84.trans (congrArg some (by kernel_rfl))⟩
 f8 := ⟨Tryz.f136.name, by decide, Tryz.func136.trans (congrArg some (by kernel_rfl))⟩
 f11 := ⟨Tryz.f179.name, by decide, Tryz.func179.trans (congrArg some (by kernel_rfl))⟩
 t0 := Tryz.underlying0
 a0 := Tryz.isAgg0
 z0 := Tryz.sizeOf0
 v0 := Tryz.zeroValue0
 t24 := Tryz.underlying59
 a24 := Tryz.isAgg59
 z24 := Tryz.sizeOf59
 v24 := Tryz.zeroValue59
 t26 := Tryz.underlying3
 a26 := Tryz.isAgg3
 z26 := Tryz.sizeOf3
 v26 := Tryz.zeroValue3
 t28 := Tryz.underlying157
 a28 := Tryz.isAgg157
 z28 := Tryz.sizeOf157
 v28 := Tryz.zeroValue157
 i26 := by kernel_rfl }
def Tryz.sort137_ren : Go.Shelf.Ren := ⟨fun | 5 => 137 | 8 => 141 | 7 => 180 | 19 => 190 | 20 => 191 | 10 => 221 | 11 => 222 | 12 => 223 | 13 => 224 | 14 => 225 | 15 => 226 | 16 => 227 | 17 => 228 | 18 => 229 | 30 => 258 | 31 => 231 | 32 => 232 | 33 => 259 | 34 => 260 | 35 => 261 | 40 => 276 | n => n, fun | 23 => 59 | 25 => 3 | 3 => 3 | 32 => 205 | 22 => 59 | 0 => 0 | 44 => 232 | 46 => 234 | 4 => 4 | 36 => 226 | 35 => 225 | 41 => 171 | 5 => 5 | 9 => 9 | 53 => 252 | 57 => 256 | 63 => 273 | 64 => 40 | n => n, fun | n => n⟩
theorem Tryz.sort137 : Go.Proofs.SlLaysM.n5 Tryz.prog Tryz.sort137_ren := {
 mixed := by kernel_rfl
 f5 := ⟨Tryz.f137.name, by decide, Tryz.func137.trans (congrArg some (by kernel_rfl))⟩
 f7 := ⟨Tryz.f180.name, by decide, Tryz.func180.trans (congrArg some (by kernel_rfl))⟩
 f8 := Tryz.func141.trans (congrArg some (by kernel_rfl))
 f10 := ⟨Tryz.f221.name, by decide, Tryz.func221.trans (congrArg some (by kernel_rfl))⟩
 f11 := ⟨Tryz.f222.name, by decide, Tryz.func222.trans (congrArg some (by kernel_rfl))⟩
 f12 := ⟨Tryz.f223.name, by decide, Tryz.func223.trans (congrArg some (by kernel_rfl))⟩
 f13 := ⟨Tryz.f224.name, by decide, Tryz.func224.trans (congrArg some (by kernel_rfl))⟩
 f14 := ⟨Tryz.f225.name, by decide, Tryz.func225.trans (congrArg some (by kernel_rfl))⟩
 f15 := ⟨Tryz.f226.name, by decide, Tryz.func226.trans (congrArg some (by kernel_rfl))⟩
 f16 := ⟨Tryz.f227.name, by decide, Tryz.func227.trans (congrArg some (by kernel_rfl))⟩
 f17 := ⟨Tryz.f228.name, by decide, Tryz.func228.trans (congrArg some (by kernel_rfl))⟩
 f18 := ⟨Tryz.f229.name, by decide, Tryz.func229.trans (congrArg some (by kernel_rfl))⟩
 f19 := Tryz.func190.trans (congrArg some (by kernel_rfl))
 f20 := Tryz.func191.trans (congrArg some (by kernel_rfl))
 f30 := ⟨Tryz.f258.name, by decide, Tryz.func258.trans (congrArg some (by kernel_rfl))⟩
 f31 := Tryz.func231.trans (congrArg some (by kernel_rfl))
 f32 := Tryz.func232.trans (congrArg some (by kernel_rfl))
 f33 := ⟨Tryz.f259.name, by decide, Tryz.func259.trans (congrArg some (by kernel_rfl))⟩
 f34 := ⟨Tryz.f260.name, by decide, Tryz.func260.trans (congrArg some (by kernel_rfl))⟩
 f35 := ⟨Tryz.f261.name, by decide, Tryz.func261.trans (congrArg some (by kernel_rfl))⟩
 f40 := ⟨Tryz.f276.name, by decide, Tryz.func276.trans (congrArg some (by kernel_rfl))⟩
 t0 := Tryz.underlying0
 a0 := Tryz.isAgg0
 z0 := Tryz.sizeOf0
 v0 := Tryz.zeroValue0
 t3 := Tryz.underlying3
 a3 := Tryz.isAgg3
 z3 := Tryz.sizeOf3
 v3 := Tryz.zeroValue3
 t4 := Tryz.underlying4
 a4 := Tryz.isAgg4
 z4 := Tryz.sizeOf4
 v4 := Tryz.zeroValue4
 t5 := Tryz.underlying5
 a5 := Tryz.isAgg5
 z5 := Tryz.sizeOf5
 v5 := Tryz.zeroValue5
 t9 := Tryz.underlying9
 a9 := Tryz.isAgg9
 z9 := Tryz.sizeOf9
 v9 := Tryz.zeroValue9
 t22 := Tryz.underlying59
 a22 := Tryz.isAgg59
 z22 := Tryz.sizeOf59
 v22 := Tryz.zeroValue59
 t23 := Tryz.underlying59
 a23 := Tryz.isAgg59
 z23 := Tryz.sizeOf59
 v23 := Tryz.zeroValue59
 t25 := Tryz.underlying3
 a25 := Tryz.isAgg3
 z25 := Tryz.sizeOf3
 v25 := Tryz.zeroValue3
 t32 := Tryz.underlying205
 a32 := Tryz.isAgg205
 z32 := Tryz.sizeOf205
 v32 := Tryz.zeroValue205
 t35 := Tryz.underlying225
 a35 := Tryz.isAgg225
 z35 := Tryz.sizeOf225
 v35 := Tryz.zeroValue225
 t36 := Tryz.underlying226
 a36 := Tryz.isAgg226
 z36 := Tryz.sizeOf226
 v36 := Tryz.zeroValue226
 t41 := Tryz.underlying171
 a41 := Tryz.isAgg171
 z41 := Tryz.sizeOf171
 v41 := Tryz.zeroValue171
 t44 := Tryz.underlying232
 a44 := Tryz.isAgg232
 z44 := Tryz.sizeOf232
 v44 := Tryz.zeroValue232
 t46 := Tryz.underlying234
 a46 := Tryz.isAgg234
 z46 := Tryz.sizeOf234
 v46 := Tryz.zeroValue234
 t53 := Tryz.underlying252
 a53 := Tryz.isAgg252
 z53 := Tryz.sizeOf252
 v53 := Tryz.zeroValue252
 t57 := Tryz.underlying256
 a57 := Tryz.isAgg256
 z57 := Tryz.sizeOf256
 v57 := Tryz.zeroValue256
 t63 := Tryz.underlying273
 a63 := Tryz.isAgg273
 z63 := Tryz.sizeOf273
 v63 := Tryz.zeroValue273
 t64 := Tryz.underlying40
 a64 := Tryz.isAgg40
 z64 := Tryz.sizeOf40
 v64 := Tryz.zeroValue40 }
open Go.RowKit Go.Maps Go.Sort in
theorem Tryz.sorts84 (m : Nat) : AnyZI.SortsIn Tryz.prog Tryz.sorted84_ren Fence.wide m :=
 ⟨fun blk off cap ss W hH hblk hsz => callsIn_wide.2 (AnyM.slices_Sort_int Tryz.sort137 blk off cap ss W hH hblk hsz),
 fun p cap W => callsIn_wide.2 (AnyM.slices_Sort_int_none Tryz.sort137 p cap W)⟩
open Go.RowKit Go.Maps Go.Sort in
theorem Tryz.sortedKeys85 {H : Type} (Bm b nn : Nat) (D0 : DataW H) (R : Value → Option (DataW H × List MemPlace)) (w : World) (hBm : Bm < w.heap.size) (hm : w.cell? ⟨Bm, 0, none⟩ = some (.map (some b))) (hown : w.ownsMap Tryz.prog 3 R b nn D0) (hmax : Maps.size D0 ≤ maxLen) (hbytes : Maps.size D0 * 8 ≤ 140737488355328) :
  Calls Tryz.prog 84 #[.func (.func 138) #[] #[.pointer (some ⟨Bm, 0, none⟩)]] w fun e w' => ∃ (v : Value) (ss : List Int), e = .returned v ∧ ss.Perm (intKeys D0) ∧
   w'.ownsRow w.heap.size 3 1 v ss.length ((ss.mergeSort (fun x y => decide (x ≤ y))).map encZ) ∧ (v = .slice none 0 0 ↔ ss = []) ∧ Below w.heap.size w w' := by
 refine (callsIn_wide (n := 5)).1 ?_
 have hseq : SeqGives Fence.wide 2 Tryz.prog 138 #[.pointer (some ⟨Bm, 0, none⟩)] encZ (fun ss => ss.Perm (intKeys D0)) (Maps.size D0) w :=
  AnyZI.keys_gives (ρ := Tryz.keys85_ren) { Tryz.keys85 with } Fence.wide _ trivial rfl (by omega) Bm b nn D0 w hBm hm hown
 exact AnyZI.sorted_in Tryz.sorted84 Fence.wide 5 trivial trivial trivial trivial rfl (by omega) (Tryz.sorts84 _) (enters_of Tryz.func137 (by kernel_rfl) rfl) 138 #[.pointer (some ⟨Bm, 0, none⟩)] trivial (enters_of Tryz.func138 (by kernel_rfl) rfl) _ _ hmax hbytes _ hseq
open Go.RowKit Go.Maps Go.Sort in
theorem Tryz.sortedKeys100 {H : Type} (Bm b nn : Nat) (D0 : DataW H) (R : Value → Option (DataW H × List MemPlace)) (w : World) (hBm : Bm < w.heap.size) (hm : w.cell? ⟨Bm, 0, none⟩ = some (.map (some b))) (hown : w.ownsMap Tryz.prog 3 R b nn D0) (hmax : Maps.size D0 ≤ maxLen) (hbytes : Maps.size D0 * 8 ≤ 140737488355328) :
  Calls Tryz.prog 84 #[.func (.func 151) #[] #[.pointer (some ⟨Bm, 0, none⟩)]] w fun e w' => ∃ (v : Value) (ss : List Int), e = .returned v ∧ ss.Perm (intKeys D0) ∧
   w'.ownsRow w.heap.size 3 1 v ss.length ((ss.mergeSort (fun x y => decide (x ≤ y))).map encZ) ∧ (v = .slice none 0 0 ↔ ss = []) ∧ Below w.heap.size w w' := by
 refine (callsIn_wide (n := 5)).1 ?_
 have hseq : SeqGives Fence.wide 2 Tryz.prog 151 #[.pointer (some ⟨Bm, 0, none⟩)] encZ (fun ss => ss.Perm (intKeys D0)) (Maps.size D0) w :=
  AnyZI.keys_gives (ρ := Tryz.keys100_ren) { Tryz.keys100 with } Fence.wide _ trivial rfl (by omega) Bm b nn D0 w hBm hm hown
 exact AnyZI.sorted_in Tryz.sorted84 Fence.wide 5 trivial trivial trivial trivial rfl (by omega) (Tryz.sorts84 _) (enters_of Tryz.func137 (by kernel_rfl) rfl) 151 #[.pointer (some ⟨Bm, 0, none⟩)] trivial (enters_of Tryz.func151 (by kernel_rfl) rfl) _ _ hmax hbytes _ hseq
open Go.RowKit Go.Maps Go.Sort in
theorem Tryz.sortedKeys101 {H : Type} (Bm b nn : Nat) (D0 : DataW H) (R : Value → Option (DataW H × List MemPlace)) (w : World) (hBm : Bm < w.heap.size) (hm : w.cell? ⟨Bm, 0, none⟩ = some (.map (some b))) (hown : w.ownsMap Tryz.prog 3 R b nn D0) (hmax : Maps.size D0 ≤ maxLen) (hbytes : Maps.size D0 * 8 ≤ 140737488355328) :
  Calls Tryz.prog 84 #[.func (.func 152) #[] #[.pointer (some ⟨Bm, 0, none⟩)]] w fun e w' => ∃ (v : Value) (ss : List Int), e = .returned v ∧ ss.Perm (intKeys D0) ∧
   w'.ownsRow w.heap.size 3 1 v ss.length ((ss.mergeSort (fun x y => decide (x ≤ y))).map encZ) ∧ (v = .slice none 0 0 ↔ ss = []) ∧ Below w.heap.size w w' := by
 refine (callsIn_wide (n := 5)).1 ?_
 have hseq : SeqGives Fence.wide 2 Tryz.prog 152 #[.pointer (some ⟨Bm, 0, none⟩)] encZ (fun ss => ss.Perm (intKeys D0)) (Maps.size D0) w :=
  AnyZI.keys_gives (ρ := Tryz.keys101_ren) { Tryz.keys101 with } Fence.wide _ trivial rfl (by omega) Bm b nn D0 w hBm hm hown
 exact AnyZI.sorted_in Tryz.sorted84 Fence.wide 5 trivial trivial trivial trivial rfl (by omega) (Tryz.sorts84 _) (enters_of Tryz.func137 (by kernel_rfl) rfl) 152 #[.pointer (some ⟨Bm, 0, none⟩)] trivial (enters_of Tryz.func152 (by kernel_rfl) rfl) _ _ hmax hbytes _ hseq
open Go.RowKit Go.Maps Go.Sort in
theorem Tryz.sortedKeys102 {H : Type} (Bm b nn : Nat) (D0 : DataW H) (R : Value → Option (DataW H × List MemPlace)) (w : World) (hBm : Bm < w.heap.size) (hm : w.cell? ⟨Bm, 0, none⟩ = some (.map (some b))) (hown : w.ownsMap Tryz.prog 3 R b nn D0) (hmax : Maps.size D0 ≤ maxLen) (hbytes : Maps.size D0 * 8 ≤ 140737488355328) :
  Calls Tryz.prog 84 #[.func (.func 153) #[] #[.pointer (some ⟨Bm, 0, none⟩)]] w fun e w' => ∃ (v : Value) (ss : List Int), e = .returned v ∧ ss.Perm (intKeys D0) ∧
   w'.ownsRow w.heap.size 3 1 v ss.length ((ss.mergeSort (fun x y => decide (x ≤ y))).map encZ) ∧ (v = .slice none 0 0 ↔ ss = []) ∧ Below w.heap.size w w' := by
 refine (callsIn_wide (n := 5)).1 ?_
 have hseq : SeqGives Fence.wide 2 Tryz.prog 153 #[.pointer (some ⟨Bm, 0, none⟩)] encZ (fun ss => ss.Perm (intKeys D0)) (Maps.size D0) w :=
  AnyZI.keys_gives (ρ := Tryz.keys102_ren) { Tryz.keys102 with } Fence.wide _ trivial rfl (by omega) Bm b nn D0 w hBm hm hown
 exact AnyZI.sorted_in Tryz.sorted84 Fence.wide 5 trivial trivial trivial trivial rfl (by omega) (Tryz.sorts84 _) (enters_of Tryz.func137 (by kernel_rfl) rfl) 153 #[.pointer (some ⟨Bm, 0, none⟩)] trivial (enters_of Tryz.func153 (by kernel_rfl) rfl) _ _ hmax hbytes _ hseq
open Go.RowKit Go.Maps Go.Sort in
theorem Tryz.sortedKeys103 {H : Type} (Bm b nn : Nat) (D0 : DataW H) (R : Value → Option (DataW H × List MemPlace)) (w : World) (hBm : Bm < w.heap.size) (hm : w.cell? ⟨Bm, 0, none⟩ = some (.map (some b))) (hown : w.ownsMap Tryz.prog 3 R b nn D0) (hmax : Maps.size D0 ≤ maxLen) (hbytes : Maps.size D0 * 8 ≤ 140737488355328) :
  Calls Tryz.prog 84 #[.func (.func 154) #[] #[.pointer (some ⟨Bm, 0, none⟩)]] w fun e w' => ∃ (v : Value) (ss : List Int), e = .returned v ∧ ss.Perm (intKeys D0) ∧
   w'.ownsRow w.heap.size 3 1 v ss.length ((ss.mergeSort (fun x y => decide (x ≤ y))).map encZ) ∧ (v = .slice none 0 0 ↔ ss = []) ∧ Below w.heap.size w w' := by
 refine (callsIn_wide (n := 5)).1 ?_
 have hseq : SeqGives Fence.wide 2 Tryz.prog 154 #[.pointer (some ⟨Bm, 0, none⟩)] encZ (fun ss => ss.Perm (intKeys D0)) (Maps.size D0) w :=
  AnyZI.keys_gives (ρ := Tryz.keys103_ren) { Tryz.keys103 with } Fence.wide _ trivial rfl (by omega) Bm b nn D0 w hBm hm hown
 exact AnyZI.sorted_in Tryz.sorted84 Fence.wide 5 trivial trivial trivial trivial rfl (by omega) (Tryz.sorts84 _) (enters_of Tryz.func137 (by kernel_rfl) rfl) 154 #[.pointer (some ⟨Bm, 0, none⟩)] trivial (enters_of Tryz.func154 (by kernel_rfl) rfl) _ _ hmax hbytes _ hseq
def Tryz.keys46_ren : Go.Shelf.Ren := ⟨fun | 7 => 46 | 10 => 88 | n => n, fun | 23 => 90 | 26 => 9 | 3 => 94 | 28 => 104 | 0 => 0 | 27 => 103 | 33 => 160 | 4 => 4 | n => n, fun | n => n⟩
theorem Tryz.keys46 : Go.Proofs.SlLaysZ.n7 Tryz.prog Tryz.keys46_ren := {
 mixed := by kernel_rfl
 f7 := ⟨Tryz.f46.name, by decide, Tryz.func46.trans (congrArg some (by kernel_rfl))⟩
 f10 := ⟨Tryz.f88.name, by decide, Tryz.func88.trans (congrArg some (by kernel_rfl))⟩
 t0 := Tryz.underlying0
 a0 := Tryz.isAgg0
 z0 := Tryz.sizeOf0
 v0 := Tryz.zeroValue0
 t4 := Tryz.underlying4
 a4 := Tryz.isAgg4
 z4 := Tryz.sizeOf4
 v4 := Tryz.zeroValue4
 t23 := Tryz.underlying90
 a23 := Tryz.isAgg90
 z23 := Tryz.sizeOf90
 v23 := Tryz.zeroValue90
 t26 := Tryz.underlying9
 a26 := Tryz.isAgg9
 z26 := Tryz.sizeOf9
 v26 := Tryz.zeroValue9
 t27 := Tryz.underlying103
 a27 := Tryz.isAgg103
 z27 := Tryz.sizeOf103
 v27 := Tryz.zeroValue103
 t28 := Tryz.underlying104
 a28 := Tryz.isAgg104
 z28 := Tryz.sizeOf104
 v28 := Tryz.zeroValue104
 t33 := Tryz.underlying160
 a33 := Tryz.isAgg160
 z33 := Tryz.sizeOf160
 v33 := Tryz.zeroValue160 }
def Tryz.sorted45_ren : Go.Shelf.Ren := ⟨fun | 6 => 45 | 8 => 86 | 9 => 87 | 11 => 139 | 13 => 141 | 12 => 140 | 23 => 190 | 24 => 191 | 14 => 181 | 15 => 182 | 16 => 183 | 17 => 184 | 18 => 185 | 19 => 186 | 20 => 187 | 21 => 188 | 22 => 189 | 25 => 230 | 26 => 231 | 27 => 232 | 28 => 233 | 29 => 234 | 30 => 235 | 31 => 262 | n => n, fun | 26 => 9 | 28 => 104 | 24 => 80 | 0 => 0 | 3 => 3 | 37 => 205 | 48 => 232 | 50 => 234 | 4 => 4 | 40 => 226 | 39 => 225 | 45 => 171 | 5 => 5 | 9 => 9 | 51 => 252 | 55 => 256 | 57 => 273 | 58 => 40 | 33 => 160 | n => n, fun | n => n⟩
theorem Tryz.sorted45 : Go.Proofs.SlLaysZ.n6 Tryz.prog Tryz.sorted45_ren := {
 mixed := by kernel_rfl
 f6 := ⟨Tryz.f45.name, by decide, Tryz.func45.trans (congrArg some (by kernel_rfl))⟩
 f8 := ⟨Tryz.f86.name, by decide, Tryz.func86.trans (congrArg some (by kernel_rfl))⟩
 f11 := ⟨Tryz.f139.name, by decide, Tryz.func139.trans (congrArg some (by kernel_rfl))⟩
 t0 := Tryz.underlying0
 a0 := Tryz.isAgg0
 z0 := Tryz.sizeOf0
 v0 := Tryz.zeroValue0
 t24 := Tryz.underlying80
 a24 := Tryz.isAgg80
 z24 := Tryz.sizeOf80
 v24 := Tryz.zeroValue80
 t26 := Tryz.underlying9
 a26 := Tryz.isAgg9
 z26 := Tryz.sizeOf9
 v26 := Tryz.zeroValue9
 t28 := Tryz.underlying104
 a28 := Tryz.isAgg104
 z28 := Tryz.sizeOf104
 v28 := Tryz.zeroValue104
 i26 := by kernel_rfl }
def Tryz.sort87_ren : Go.Shelf.Ren := ⟨fun | 6 => 87 | 8 => 141 | 9 => 140 | 19 => 190 | 20 => 191 | 21 => 181 | 22 => 182 | 23 => 183 | 24 => 184 | 25 => 185 | 26 => 186 | 27 => 187 | 28 => 188 | 29 => 189 | 36 => 230 | 31 => 231 | 32 => 232 | 37 => 233 | 38 => 234 | 39 => 235 | 41 => 262 | n => n, fun | 27 => 80 | 29 => 9 | 3 => 3 | 32 => 205 | 26 => 80 | 0 => 0 | 44 => 232 | 46 => 234 | 4 => 4 | 36 => 226 | 35 => 225 | 41 => 171 | 5 => 5 | 9 => 9 | 53 => 252 | 57 => 256 | 63 => 273 | 64 => 40 | n => n, fun | n => n⟩
theorem Tryz.sort87 : Go.Proofs.SlLaysM.n6 Tryz.prog Tryz.sort87_ren := {
 mixed := by kernel_rfl
 f6 := ⟨Tryz.f87.name, by decide, Tryz.func87.trans (congrArg some (by kernel_rfl))⟩
 f8 := Tryz.func141.trans (congrArg some (by kernel_rfl))
 f9 := ⟨Tryz.f140.name, by decide, Tryz.func140.trans (congrArg some (by kernel_rfl))⟩
 f19 := Tryz.func190.trans (congrArg some (by kernel_rfl))
 f20 := Tryz.func191.trans (congrArg some (by kernel_rfl))
 f21 := ⟨Tryz.f181.name, by decide, Tryz.func181.trans (congrArg some (by kernel_rfl))⟩
 f22 := ⟨Tryz.f182.name, by decide, Tryz.func182.trans (congrArg some (by kernel_rfl))⟩
 f23 := ⟨Tryz.f183.name, by decide, Tryz.func183.trans (congrArg some (by kernel_rfl))⟩
 f24 := ⟨Tryz.f184.name, by decide, Tryz.func184.trans (congrArg some (by kernel_rfl))⟩
 f25 := ⟨Tryz.f185.name, by decide, Tryz.func185.trans (congrArg some (by kernel_rfl))⟩
 f26 := ⟨Tryz.f186.name, by decide, Tryz.func186.trans (congrArg some (by kernel_rfl))⟩
 f27 := ⟨Tryz.f187.name, by decide, Tryz.func187.trans (congrArg some (by kernel_rfl))⟩
 f28 := ⟨Tryz.f188.name, by decide, Tryz.func188.trans (congrArg some (by kernel_rfl))⟩
 f29 := ⟨Tryz.f189.name, by decide, Tryz.func189.trans (congrArg some (by kernel_rfl))⟩
 f31 := Tryz.func231.trans (congrArg some (by kernel_rfl))
 f32 := Tryz.func232.trans (congrArg some (by kernel_rfl))
 f36 := ⟨Tryz.f230.name, by decide, Tryz.func230.trans (congrArg some (by kernel_rfl))⟩
 f37 := ⟨Tryz.f233.name, by decide, Tryz.func233.trans (congrArg some (by kernel_rfl))⟩
 f38 := ⟨Tryz.f234.name, by decide, Tryz.func234.trans (congrArg some (by kernel_rfl))⟩
 f39 := ⟨Tryz.f235.name, by decide, Tryz.func235.trans (congrArg some (by kernel_rfl))⟩
 f41 := ⟨Tryz.f262.name, by decide, Tryz.func262.trans (congrArg some (by kernel_rfl))⟩
 t0 := Tryz.underlying0
 a0 := Tryz.isAgg0
 z0 := Tryz.sizeOf0
 v0 := Tryz.zeroValue0
 t3 := Tryz.underlying3
 a3 := Tryz.isAgg3
 z3 := Tryz.sizeOf3
 v3 := Tryz.zeroValue3
 t4 := Tryz.underlying4
 a4 := Tryz.isAgg4
 z4 := Tryz.sizeOf4
 v4 := Tryz.zeroValue4
 t5 := Tryz.underlying5
 a5 := Tryz.isAgg5
 z5 := Tryz.sizeOf5
 v5 := Tryz.zeroValue5
 t9 := Tryz.underlying9
 a9 := Tryz.isAgg9
 z9 := Tryz.sizeOf9
 v9 := Tryz.zeroValue9
 t26 := Tryz.underlying80
 a26 := Tryz.isAgg80
 z26 := Tryz.sizeOf80
 v26 := Tryz.zeroValue80
 t27 := Tryz.underlying80
 a27 := Tryz.isAgg80
 z27 := Tryz.sizeOf80
 v27 := Tryz.zeroValue80
 t29 := Tryz.underlying9
 a29 := Tryz.isAgg9
 z29 := Tryz.sizeOf9
 v29 := Tryz.zeroValue9
 t32 := Tryz.underlying205
 a32 := Tryz.isAgg205
 z32 := Tryz.sizeOf205
 v32 := Tryz.zeroValue205
 t35 := Tryz.underlying225
 a35 := Tryz.isAgg225
 z35 := Tryz.sizeOf225
 v35 := Tryz.zeroValue225
 t36 := Tryz.underlying226
 a36 := Tryz.isAgg226
 z36 := Tryz.sizeOf226
 v36 := Tryz.zeroValue226
 t41 := Tryz.underlying171
 a41 := Tryz.isAgg171
 z41 := Tryz.sizeOf171
 v41 := Tryz.zeroValue171
 t44 := Tryz.underlying232
 a44 := Tryz.isAgg232
 z44 := Tryz.sizeOf232
 v44 := Tryz.zeroValue232
 t46 := Tryz.underlying234
 a46 := Tryz.isAgg234
 z46 := Tryz.sizeOf234
 v46 := Tryz.zeroValue234
 t53 := Tryz.underlying252
 a53 := Tryz.isAgg252
 z53 := Tryz.sizeOf252
 v53 := Tryz.zeroValue252
 t57 := Tryz.underlying256
 a57 := Tryz.isAgg256
 z57 := Tryz.sizeOf256
 v57 := Tryz.zeroValue256
 t63 := Tryz.underlying273
 a63 := Tryz.isAgg273
 z63 := Tryz.sizeOf273
 v63 := Tryz.zeroValue273
 t64 := Tryz.underlying40
 a64 := Tryz.isAgg40
 z64 := Tryz.sizeOf40
 v64 := Tryz.zeroValue40 }
open Go.RowKit Go.Maps Go.Sort in
theorem Tryz.sorts45 (m : Nat) : AnyZ.SortsIn Tryz.prog Tryz.sorted45_ren Fence.wide m :=
 ⟨fun blk off cap ss W hH hblk hsz => callsIn_wide.2 (AnyM.slices_Sort_string Tryz.sort87 blk off cap ss W hH hblk hsz),
 fun p cap W => callsIn_wide.2 (AnyM.slices_Sort_string_none Tryz.sort87 p cap W)⟩
open Go.RowKit Go.Maps Go.Sort in
theorem Tryz.sortedKeys46 {H : Type} (Bm b nn : Nat) (D0 : DataW H) (R : Value → Option (DataW H × List MemPlace)) (w : World) (hBm : Bm < w.heap.size) (hm : w.cell? ⟨Bm, 0, none⟩ = some (.map (some b))) (hown : w.ownsMap Tryz.prog 9 R b nn D0) (hmax : Maps.size D0 ≤ maxLen) (hbytes : Maps.size D0 * 16 ≤ 140737488355328) :
  Calls Tryz.prog 45 #[.func (.func 88) #[] #[.pointer (some ⟨Bm, 0, none⟩)]] w fun e w' => ∃ (v : Value) (ss : List (List UInt8)), e = .returned v ∧ ss.Perm (strKeys D0) ∧
   w'.ownsRow w.heap.size 9 1 v ss.length ((ss.mergeSort (fun x y => decide (x ≤ y))).map encStr) ∧ (v = .slice none 0 0 ↔ ss = []) ∧ Below w.heap.size w w' := by
 refine (callsIn_wide (n := 5)).1 ?_
 have hseq : SeqGives Fence.wide 2 Tryz.prog 88 #[.pointer (some ⟨Bm, 0, none⟩)] encStr (fun ss => ss.Perm (strKeys D0)) (Maps.size D0) w :=
  AnyZ.keys_gives (ρ := Tryz.keys46_ren) { Tryz.keys46 with } Fence.wide _ trivial rfl (by omega) Bm b nn D0 w hBm hm hown
 exact AnyZ.sorted_in Tryz.sorted45 Fence.wide 5 trivial trivial trivial trivial rfl (by omega) (Tryz.sorts45 _) (enters_of Tryz.func87 (by kernel_rfl) rfl) 88 #[.pointer (some ⟨Bm, 0, none⟩)] trivial (enters_of Tryz.func88 (by kernel_rfl) rfl) _ _ hmax hbytes _ hseq
def Tryz.lays2_22_ren : Go.Shelf.Ren := ⟨fun | 22 => 97 | 29 => 149 | 30 => 150 | 36 => 201 | 17 => 237 | n => n, fun | 24 => 80 | 9 => 9 | 3 => 3 | 4 => 4 | 0 => 0 | n => n, fun | n => n⟩
theorem Tryz.lays2_22 : Go.Proofs.Lays2.n22 Tryz.prog Tryz.lays2_22_ren := {
 mixed := by kernel_rfl
 f17 := Tryz.func237.trans (congrArg some (by kernel_rfl))
 f22 := Tryz.func97.trans (congrArg some (by kernel_rfl))
 f29 := Tryz.func149.trans (congrArg some (by kernel_rfl))
 f30 := Tryz.func150.trans (congrArg some (by kernel_rfl))
 f36 := Tryz.func201.trans (congrArg some (by kernel_rfl))
 t0 := Tryz.underlying0
 a0 := Tryz.isAgg0
 z0 := Tryz.sizeOf0
 v0 := Tryz.zeroValue0
 t3 := Tryz.underlying3
 a3 := Tryz.isAgg3
 z3 := Tryz.sizeOf3
 v3 := Tryz.zeroValue3
 t4 := Tryz.underlying4
 a4 := Tryz.isAgg4
 z4 := Tryz.sizeOf4
 v4 := Tryz.zeroValue4
 t9 := Tryz.underlying9
 a9 := Tryz.isAgg9
 z9 := Tryz.sizeOf9
 v9 := Tryz.zeroValue9
 t24 := Tryz.underlying80
 a24 := Tryz.isAgg80
 z24 := Tryz.sizeOf80
 v24 := Tryz.zeroValue80
 i9 := by kernel_rfl }
def Tryz.lays2_26_ren : Go.Shelf.Ren := ⟨fun | 26 => 148 | 33 => 187 | 34 => 200 | 38 => 235 | n => n, fun | 24 => 80 | 9 => 9 | 3 => 3 | 4 => 4 | 40 => 205 | 0 => 0 | n => n, fun | n => n⟩
theorem Tryz.lays2_26 : Go.Proofs.Lays2.n26 Tryz.prog Tryz.lays2_26_ren := {
 mixed := by kernel_rfl
 f26 := Tryz.func148.trans (congrArg some (by kernel_rfl))
 f33 := Tryz.func187.trans (congrArg some (by kernel_rfl))
 f34 := Tryz.func200.trans (congrArg some (by kernel_rfl))
 f38 := Tryz.func235.trans (congrArg some (by kernel_rfl))
 t0 := Tryz.underlying0
 a0 := Tryz.isAgg0
 z0 := Tryz.sizeOf0
 v0 := Tryz.zeroValue0
 t3 := Tryz.underlying3
 a3 := Tryz.isAgg3
 z3 := Tryz.sizeOf3
 v3 := Tryz.zeroValue3
 t4 := Tryz.underlying4
 a4 := Tryz.isAgg4
 z4 := Tryz.sizeOf4
 v4 := Tryz.zeroValue4
 t9 := Tryz.underlying9
 a9 := Tryz.isAgg9
 z9 := Tryz.sizeOf9
 v9 := Tryz.zeroValue9
 t24 := Tryz.underlying80
 a24 := Tryz.isAgg80
 z24 := Tryz.sizeOf80
 v24 := Tryz.zeroValue80
 t40 := Tryz.underlying205
 a40 := Tryz.isAgg205
 z40 := Tryz.sizeOf205
 v40 := Tryz.zeroValue205 }
end Go.Proofs
namespace Go.Av
open Go Go.Proofs Go.RowKit
set_option maxRecDepth 100000
section
variable {C : Ctx} {B : Nat} {S : Addr → Prop} {μ : Map} {h : Heap} {w w' : World} {α : Type}
theorem fits_row {av : α → AVal} {enc : α → Value} (hc : ∀ a, (av a).cells = [av a]) (hs : ∀ a, (av a).sto = true) (hr : ∀ (w : World) (S : Addr → Prop) (μ : Map) (a : α), Rep w S μ (av a) (enc a))
  (f : Fits C B S μ h w) {e : TypeId} {v : Value} {ls : List α} (ho : w'.ownsRow w.heap.size e 1 v ls.length (ls.map enc)) (hb : Below w.heap.size w w') :
  ∃ S', Fits C B S' μ h w' ∧ Step B S μ w S' μ w' ∧ Rep w' S' μ (.sl 1 (ls.map av)) v := by
 obtain ⟨f', st⟩ := f.grown hb
 obtain ⟨_, ho⟩ := ho
 rcases ho with ⟨rfl, h0⟩ | ⟨g, cap, cur, rfl, hg, hheap, hn, hm, hsz, htk⟩
 ·have : ls = [] := List.length_eq_zero_iff.1 h0
  subst this
  exact ⟨S, f', st, .sl0 1 none 0⟩
 ·by_cases hl : ls = []
  ·subst hl; exact ⟨S, f', st, .sl0 1 _ cap⟩
  have hgl : g < w'.heap.size := (Array.getElem?_eq_some_iff.1 hheap).1
  let S' : Addr → Prop := fun a => S a ∨ a.block = g
  have st2 : Step B S μ w' S' μ w' := ⟨fun a ha => .inl ha, fun _ _ => rfl, Below.refl _ _, MapLe.refl _, fun a ha => ha.elim .inl fun e => .inr (by rw [e]; exact Nat.le_trans f.base hg)⟩
  have f2 : Fits C B S' μ h w' := ⟨fun g' cs hg' => (f'.glob g' cs hg').mono st2, f'.len, f'.sep, fun p m b h1 e1 => by
    obtain ⟨a1, a2, a3⟩ := f'.own p m b h1 e1
    have := (f.own p m b h1 e1).2.1
    exact ⟨a1, a2, fun a ha => ha.elim (a3 a) fun e => by omega⟩, f'.base, fun a ha => ha.elim (f'.lie a) fun e => by rw [e]; exact hgl,
   fun p m k h1 h2 => (f'.blk p m k h1 h2).mono st2 fun _ _ => rfl⟩
  have hget : ∀ i, cur[0 + (i * 1 + 0)]? = cur[i]? := fun i => by congr 1; omega
  refine ⟨S', f2, st.trans st2, ?_⟩
  have hlen : (ls.map av).length = ls.length := List.length_map ..
  rw [← hlen]
  refine .sl 1 (ls.map av) g 0 cap (fun i _ => cur[i]?.getD undef) (by simpa using hl) (by omega) hm (fun i x hx => ?_) (fun i x j c hx hj => ?_) (fun i x j c hx hj => ?_)
  ·obtain ⟨a, _, rfl⟩ := List.mem_map.1 (List.mem_of_getElem? hx); rw [hc]; rfl
  ·obtain ⟨a, _, rfl⟩ := List.mem_map.1 (List.mem_of_getElem? hx)
   rw [hc] at hj
   match j with
   | 0 =>
    simp at hj; subst hj
    have hi : i < ls.length := by have := (List.getElem?_eq_some_iff.1 hx).1; omega
    have hi2 : i < cur.size := by omega
    refine ⟨.inr rfl, ?_, hs a⟩
    simp only [World.cell?, hheap]
    simp [hi2]
   | j + 1 => simp at hj
  ·rw [List.getElem?_map] at hx
   obtain ⟨a, ha, rfl⟩ := Option.map_eq_some_iff.1 hx
   rw [hc] at hj
   match j with
   | 0 =>
    simp at hj; subst hj
    have hi : i < ls.length := (List.getElem?_eq_some_iff.1 ha).1
    have : cur[i]? = some (enc a) := by
     have h1 : (cur.toList.take (ls.length * 1))[i]? = some (enc a) := by rw [htk, List.getElem?_map, ha]; rfl
     rw [List.getElem?_take_of_lt (by omega)] at h1
     simpa using h1
    rw [this]
    exact hr _ _ _ a
   | j + 1 => simp at hj
theorem run_enter {P : Program} {f : FuncId} {fn : Func} (hf : P.funcs[f]? = some fn) (hb : fn.body.isNone = false) (hname : (fn.name == "runtime.NumGoroutine") = false) (us : Array Value) (w : World) : (callFunc f us).run P w = .ok (.enter f us) w := by
 have hne : fn.name ≠ "runtime.NumGoroutine" := by simpa using hname
 obtain ⟨c, hbc⟩ : ∃ c, fn.body = some c := by cases hq : fn.body with | none => simp [hq] at hb | some c => exact ⟨c, rfl⟩
 simp [callFunc, hf, hne, hbc]
end
def noR : Value → Option (DataW Unit × List MemPlace) := fun _ => some (.nil, [])
def kI (n : Int) : Lit := .int .i64 n
def kS (s : Bs) : Lit := .string s
theorem insert_perm (x : Lit × DataW Unit) (l : List (Lit × DataW Unit)) : (DataW.insert x l).Perm (x :: l) := by
 induction l with
 | nil => exact List.Perm.refl _
 | cons y r ih =>
  rw [DataW.insert]
  split
  ·exact List.Perm.refl _
  ·exact (ih.cons y).trans (List.Perm.swap x y r)
theorem foldr_perm (l : List (Lit × DataW Unit)) : (l.foldr DataW.insert []).Perm l := by
 induction l with
 | nil => exact List.Perm.refl _
 | cons x l ih => exact (insert_perm x _).trans (ih.cons x)
def datK (ks : List Lit) : DataW Unit := .map ((ks.map fun k => (k, (DataW.nil : DataW Unit))).foldr DataW.insert [])
theorem datK_size (ks : List Lit) : Maps.size (datK ks) = ks.length := by
 unfold datK
 rw [Maps.size_eq, (foldr_perm _).length_eq, List.length_map]
theorem owns_of {P : Program} {kt : TypeId} {w : World} {b c : Nat} {cur : Array MapEntry} {ks : List Lit} (hheap : w.heap[b]? = some (.map cur c)) (hl : ks.length = cur.size) (hm : cur.size ≤ maxLen)
  (hk : ∀ (i : Nat) (x : MapEntry), cur[i]? = some x → ∃ k, ks[i]? = some k ∧ keyOf P kt x.key = some k) (hb : ∀ x ∈ cur.toList, x.born < c) (hn : (cur.toList.map (·.born)).Nodup) (hd : (cur.toList.map (·.key)).Nodup) :
  w.ownsMap P kt noR b cur.size (datK ks) := by
 refine ⟨cur, c, hheap, ⟨hm, ⟨hb, hn, hd⟩, fun x hx => ?_⟩, Nat.le_refl _, ?_⟩
 ·obtain ⟨i, hi⟩ := List.getElem?_of_mem hx
  obtain ⟨k, _, h2⟩ := hk i x (by simpa using hi)
  exact ⟨(k, .nil), by simp [WideElems.rd, h2, noR]⟩
 ·unfold datK
  congr 2
  apply List.ext_getElem?
  intro i
  rw [List.getElem?_map, List.getElem?_map]
  by_cases hi : i < cur.size
  ·have hc : cur[i]? = some cur[i] := Array.getElem?_eq_getElem hi
   obtain ⟨k, h1, h2⟩ := hk i _ hc
   have h3 : cur.toList[i]? = some cur[i] := by simp [hi]
   rw [h1, h3]
   simp [WideElems.rg, WideElems.rd, h2, noR]
  ·rw [List.getElem?_eq_none (l := cur.toList) (by simp; omega), List.getElem?_eq_none (l := ks) (by omega)]; rfl
variable (G : Nat → Option (List AVal))
theorem SortedI_sat {α : Type} (ev : α → AVal) (I : FuncId)
  (hI : ∀ (Bm b nn : Nat) (D0 : DataW Unit) (R : Value → Option (DataW Unit × List MemPlace)) (w : World), Bm < w.heap.size → w.cell? ⟨Bm, 0, none⟩ = some (.map (some b)) → w.ownsMap Tryz.prog 3 R b nn D0 → Maps.size D0 ≤ maxLen → Maps.size D0 * 8 ≤ 140737488355328 →
   Calls Tryz.prog 84 #[.func (.func I) #[] #[.pointer (some ⟨Bm, 0, none⟩)]] w fun e w' => ∃ (v : Value) (ss : List Int), e = .returned v ∧ ss.Perm (intKeys D0) ∧ w'.ownsRow w.heap.size 3 1 v ss.length ((ss.mergeSort (fun x y => decide (x ≤ y))).map encZ) ∧ (v = .slice none 0 0 ↔ ss = []) ∧ Below w.heap.size w w')
  (l : ML Int α) (c : Nat) (hw : WFM l c) (hb : ∀ e ∈ l, -9223372036854775808 ≤ e.1 ∧ e.1 ≤ 9223372036854775807) (hl : l.length ≤ 100000) {h : Heap} {q p T : Nat} (hq : getRow h q 0 = some (T, 1, [.hm p])) (hp : mapAt h p = some (encM iA ev l, c)) :
  Sat (CT G) 84 [.fn (.func I) [] [.hp q 0 0 0]] h (fun r h' => r = .sl 1 (((l.map (·.1)).mergeSort (fun x y => decide (x ≤ y))).map iA) ∧ h' = h) := by
 intro B S μ w us fit rl
 obtain ⟨hul, hur⟩ := rl
 match us, hul, hur with
 | [v0], _, hur =>
  have r0 : Rep w S μ (.fn (.func I) [] [.hp q 0 0 0]) v0 := hur 0 _ rfl
  obtain ⟨cv, rfl, rc⟩ : ∃ cv, v0 = .func (.func I) #[] #[cv] ∧ Rep w S μ (.hp q 0 0 0) cv := by
   cases r0 with
   | fn _ _ _ xv cv h1 h2 h3 h4 =>
    match xv, cv, h1, h2, h4 with
    | [], [cv], _, _, h4 => exact ⟨cv, rfl, h4 0 _ rfl⟩
  obtain ⟨m, hm, rf⟩ := fit.row hq
  obtain ⟨b0, hb0, rfl⟩ := rc.hp_now hm rf.hver
  have hz : 0 * m.size + 0 = 0 := by simp
  rw [hz]
  obtain ⟨cur, hheap, hcell⟩ : ∃ cur, w.heap[b0]? = some (.cells cur T (0, 0)) ∧ ∃ x, cur[0]? = some x ∧ Rep w S μ (.hm p) x := by
   rcases rf.lies with ⟨_, h2⟩ | ⟨b, cur, h1, h2, _, _, _, h6⟩
   ·cases h2
   ·rw [hb0] at h1; cases h1
    obtain ⟨x, hx, rx⟩ := h6 0 (.hm p) 0 (.hm p) rfl rfl
    exact ⟨cur, h2, x, by simpa using hx, rx⟩
  obtain ⟨x, hx0, rx⟩ := hcell
  obtain ⟨m2, b2, cur2, hm2, hv2, hb2, rfl, hheap2, E⟩ := mapAt_fits fit rx hp
  have hcell0 : w.cell? ⟨b0, 0, none⟩ = some (.map (some b2)) := by simp [World.cell?, hheap, hx0]
  have hlen : cur2.size = l.length := by have := E.len; simpa [encM] using this
  have hget : ∀ (i : Nat) (y : MapEntry), cur2[i]? = some y → ∃ e, l[i]? = some e ∧ y.key = encZ e.1 ∧ y.born = e.2.2 := by
   intro i y hy
   have hi : i < l.length := by have := (Array.getElem?_eq_some_iff.1 hy).1; omega
   obtain ⟨y', hy', r1, _, r3⟩ := E.get i (iA l[i].1, ev l[i].2.1, l[i].2.2) (by rw [encM, List.getElem?_map, List.getElem?_eq_getElem hi]; rfl)
   rw [Array.getElem?_toList, hy] at hy'; cases hy'
   refine ⟨l[i], List.getElem?_eq_getElem hi, ?_, r3⟩
   exact r1.int_inv
  have hbk : cur2.toList.map (·.born) = l.map (·.2.2) := by
   apply List.ext_getElem?
   intro i
   rw [List.getElem?_map, List.getElem?_map, Array.getElem?_toList]
   cases hy : cur2[i]? with
   | none => rw [List.getElem?_eq_none (l := l) (by rw [Array.getElem?_eq_none_iff] at hy; omega)]; rfl
   | some y => obtain ⟨e, h1, _, h3⟩ := hget i y hy; rw [h1]; simp [h3]
  have hkk : cur2.toList.map (·.key) = l.map (fun e => encZ e.1) := by
   apply List.ext_getElem?
   intro i
   rw [List.getElem?_map, List.getElem?_map, Array.getElem?_toList]
   cases hy : cur2[i]? with
   | none => rw [List.getElem?_eq_none (l := l) (by rw [Array.getElem?_eq_none_iff] at hy; omega)]; rfl
   | some y => obtain ⟨e, h1, h2, _⟩ := hget i y hy; rw [h1]; simp [h2]
  have hown : w.ownsMap Tryz.prog 3 noR b2 cur2.size (datK (l.map fun e => kI e.1)) := by
   refine owns_of hheap2 (by simp [hlen]) (by simp [maxLen]; omega) (fun i y hy => ?_) (fun y hy => ?_) (by rw [hbk]; exact hw.borns) ?_
   ·obtain ⟨e, h1, h2, _⟩ := hget i y hy
    refine ⟨kI e.1, by rw [List.getElem?_map, h1]; rfl, ?_⟩
    have hu : Tryz.prog.underlying 3 = some (.int .i64) := by kernel_rfl
    have := hb e (List.mem_of_getElem? h1)
    have hwf : (Lit.int .i64 e.1).wf = true := by
     simp only [Lit.wf, Bool.and_eq_true, decide_eq_true_eq]
     exact this
    rw [h2]
    simp [keyOf, hu, mapKey, encZ, kI, hwf]
   ·obtain ⟨i, hi⟩ := List.getElem?_of_mem hy
    obtain ⟨e, h1, _, h3⟩ := hget i y (by simpa using hi)
    rw [h3]; exact hw.lt e (List.mem_of_getElem? h1)
   ·rw [hkk]
    have := hw.keys
    rw [show (l.map fun e => encZ e.1) = (l.map (·.1)).map encZ by simp]
    exact List.Pairwise.map encZ (fun a b hab he => hab (by first | exact encZ_inj he | (simpa [encStr] using he))) this
  have hsz : Maps.size (datK (l.map fun e => kI e.1)) = l.length := by rw [datK_size]; simp
  change OpOk Tryz.prog _ ((callFunc 84 #[Value.func (Fn.func I) #[] #[Value.pointer (some ⟨b0, 0, none⟩)]]).run Tryz.prog w)
  rw [run_enter (f := 84) Tryz.func84 rfl rfl]
  refine (hI b0 b2 _ _ _ w (Array.getElem?_eq_some_iff.1 hheap).1 hcell0 hown (by rw [hsz]; simp [maxLen]; omega) (by rw [hsz]; omega)).mono fun e w' ⟨v, ss, he, hperm, hrow, _, hbel⟩ => ?_
  refine ⟨v, he, ?_⟩
  have hk : (intKeys (datK (l.map fun e => kI e.1))).Perm (l.map (·.1)) := by
   unfold datK
   refine ((foldr_perm _).map _).trans ?_
   rw [List.map_map, List.map_map]
   exact List.Perm.of_eq (List.map_congr_left fun e _ => rfl)
  have hs : ss.mergeSort (fun x y => decide (x ≤ y)) = (l.map (·.1)).mergeSort (fun x y => decide (x ≤ y)) := mergeSort_of_perm_i (hperm.trans hk)
  rw [hs] at hrow
  have hl2 : ss.length = ((l.map (·.1)).mergeSort (fun x y => decide (x ≤ y))).length := by
   rw [← hs, (List.mergeSort_perm _ _).length_eq]
  rw [hl2] at hrow
  obtain ⟨S', f', st', r'⟩ := fits_row (av := iA) (enc := encZ) (fun _ => rfl) (fun _ => rfl) (fun _ _ _ _ => by first | exact .int _ _ | exact .str _) fit hrow hbel
  exact ⟨_, h, S', μ, ⟨rfl, rfl⟩, st', f', r'⟩
end Go.Av
namespace Go.Av
open Go Go.RowKit
attribute [local irreducible] WP WPl WPix Sat
set_option maxRecDepth 100000
set_option maxHeartbeats 1000000
structure FrzR (h : Heap) (n : Nat) (r s : AVal) : Prop where
 all : Frz h n r s
 len : r.cells.length = s.cells.length
 sto : ∀ d ∈ s.cells, d.sto = true
 cell : ∀ (j : Nat) (c d : AVal), r.cells[j]? = some c → s.cells[j]? = some d → Frz h n c d
theorem Frz.rows {h : Heap} {n q v e m : Nat} {rows es : List AVal} {len : Nat} {room : Bool} (hq : n ≤ q) (hg : getRow h q v = some (e, m, rows)) (hlen : len = rows.length) (hl : es.length = rows.length)
  (hp : ∀ (i : Nat) (r s : AVal), rows[i]? = some r → es[i]? = some s → FrzR h n r s) : Frz h n (.hs q v 0 len room) (.sl m es) := by
 subst hlen
 have := Frz.hs (h := h) (n := n) q v 0 rows.length room e m rows es hq hg (by omega) hl (fun i r s hr hs => (hp i r s hr hs).all)
  (fun i r s hr hs => ⟨(hp i r s hr hs).len, fun j c d _ hd => (hp i r s hr hs).sto d (List.mem_of_getElem? hd)⟩) (fun i r s j c d hr hs hc hd => (hp i r s hr hs).cell j c d hc hd)
 rw [List.drop_zero, ← hl, List.take_length] at this
 rw [← hl]; exact this
theorem FrzR.clo {h : Heap} {n : Nat} {r : AVal} (hc : Clo n r) (hs : ∀ d ∈ r.cells, d.sto = true) : FrzR h n r r :=
 ⟨.clo _ hc, rfl, hs, fun j c d h1 h2 => by rw [h1] at h2; cases h2; exact .clo _ (hc.cells c (List.mem_of_getElem? h1))⟩
inductive FrzL (h : Heap) (n : Nat) : List AVal → List AVal → Prop
 | nil : FrzL h n [] []
 | cons {c d : AVal} {cs ds : List AVal} : Frz h n c d → FrzL h n cs ds → FrzL h n (c :: cs) (d :: ds)
theorem FrzL.len {h : Heap} {n : Nat} {cs ds : List AVal} (z : FrzL h n cs ds) : cs.length = ds.length := by induction z with | nil => rfl | cons _ _ ih => simp [ih]
theorem FrzL.at_ {h : Heap} {n : Nat} {cs ds : List AVal} (z : FrzL h n cs ds) : ∀ (i : Nat) (c d : AVal), cs[i]? = some c → ds[i]? = some d → Frz h n c d := by
 induction z with
 | nil => intro i c d h1; simp at h1
 | cons z _ ih =>
  intro i c d h1 h2
  match i with
  | 0 => simp at h1 h2; subst h1; subst h2; exact z
  | i + 1 => exact ih i c d (by simpa using h1) (by simpa using h2)
theorem FrzL.agg {h : Heap} {n : Nat} {cs ds : List AVal} (z : FrzL h n cs ds) (hs : ds.all AVal.sto = true) : Frz h n (.agg cs) (.agg ds) := .agg _ _ z.len (List.all_eq_true.1 hs) z.at_
theorem Frz.data {h : Heap} {n q v e m : Nat} {rows : List AVal} {len : Nat} {room : Bool} (hq : n ≤ q) (hg : getRow h q v = some (e, m, rows)) (hlen : len = rows.length) (hc : ∀ r ∈ rows, Clo n r) (hs : ∀ r ∈ rows, ∀ c ∈ r.cells, c.sto = true) : Frz h n (.hs q v 0 len room) (.sl m rows) :=
 Frz.rows hq hg hlen rfl fun i r s hr hs' => by rw [hr] at hs'; cases hs'; exact FrzR.clo (hc r (List.mem_of_getElem? hr)) (hs r (List.mem_of_getElem? hr))
end Go.Av
namespace Go.Av
open Go Go.Proofs Go.RowKit
attribute [local irreducible] WP WPl WPix Sat
set_option maxRecDepth 100000
set_option maxHeartbeats 2000000
variable (G : Nat → Option (List AVal))
def sortI (l : List Int) : List Int := l.mergeSort (fun x y => decide (x ≤ y))
def valsM {α : Type} (z : α) (l : ML Int α) : List α := (sortI (l.map (·.1))).map fun k => (lkM l k).getD z
theorem sortI_len (l : List Int) : (sortI l).length = l.length := (List.mergeSort_perm _ _).length_eq
theorem Fo.cells_sto (e : Fo) : ∀ c ∈ e.av.cells, c.sto = true := by
 intro c hc; simp only [Fo.av, AVal.cells, List.mem_cons, List.mem_nil_iff, or_false] at hc; rcases hc with rfl | rfl | rfl <;> rfl
theorem Fe.cells_sto (e : Fe) : ∀ c ∈ e.av.cells, c.sto = true := by
 intro c hc; simp only [Fe.av, AVal.cells, List.mem_cons, List.mem_nil_iff, or_false] at hc; rcases hc with rfl | rfl | rfl | rfl <;> rfl
theorem Se.cells_sto (e : Se) : ∀ c ∈ e.av.cells, c.sto = true := by
 intro c hc; simp only [Se.av, AVal.cells, List.mem_cons, List.mem_nil_iff, or_false] at hc; rcases hc with rfl | rfl | rfl <;> rfl
theorem It.cells_sto (e : It) : ∀ c ∈ e.av.cells, c.sto = true := by
 intro c hc; simp only [It.av, AVal.cells, List.mem_cons, List.mem_nil_iff, or_false] at hc; rcases hc with rfl | rfl | rfl | rfl | rfl | rfl | rfl | rfl | rfl <;> rfl
theorem Fo.clo (N : Nat) (f : Fo) : Clo N f.av := clo_flat fun c hc => by simp [Fo.av] at hc; rcases hc with rfl | rfl | rfl <;> simp
theorem Fe.clo (N : Nat) (f : Fe) : Clo N f.av := clo_flat fun c hc => by simp [Fe.av] at hc; rcases hc with rfl | rfl | rfl | rfl <;> simp
theorem Se.clo (N : Nat) (f : Se) : Clo N f.av := clo_flat fun c hc => by simp [Se.av] at hc; rcases hc with rfl | rfl | rfl <;> simp
theorem KeysFo_sat (p : Nat) (h : Heap) : Sat (CT G) 100 [.hm p] h (fun r h' => r = .fn (.func 151) [] [.hp h.length 0 0 0] ∧ h' = h ++ [.row 110 1 0 [.hm p]]) := by
 refine sb [.tmp 2] (fn := Tryz.f100) Tryz.func100 ?_
 intro Q hQ
 refine wk trivial ?_
 refine ee hQ trivial ?_
 exact Fin.whole (by simp) (.fn _ _ _ (fun _ h => by cases h) (fun x hx => by simp at hx; subst hx; exact .hp _ _ _ _ (by simp))) ⟨rfl, rfl⟩
theorem PSsortedFo_sat (s : PS) (hw : WFM s.fo s.c1) (hb : ∀ e ∈ s.fo, -9223372036854775808 ≤ e.1 ∧ e.1 ≤ 9223372036854775807) (hl : s.fo.length ≤ 100000) {H : Heap} {n : Nat} (hn : n + 9 ≤ H.length) : Sat (CT G) 56 [.hm (n)] (so H n s) (fun r h' => r = .sl 3 ((valsM Fo.z s.fo).map Fo.av) ∧ h' = so H n s) := by
 have hsl := sortI_len (s.fo.map (·.1))
 rw [List.length_map] at hsl
 refine sb [.tmp 2] (fn := Tryz.f56) Tryz.func56 ?_
 intro Q hQ
 refine wk trivial ?_
 refine kq trivial (KeysFo_sat G _ _) ?_
 refine kq trivial (SortedI_sat G Fo.av _ Tryz.sortedKeys100 s.fo s.c1 hw hb hl (by rw [so_row' (by simp; omega) 0 (by omega), gs_new0 _ rfl]; rfl) (so_m1 (by simp; omega))) ?_
 unfold valsM at hQ
 have hks : (List.map (fun x => x.1) s.fo).mergeSort (fun x y => decide (x ≤ y)) = sortI (s.fo.map (·.1)) := rfl
 rw [hks]
 generalize sortI (s.fo.map (·.1)) = ks at *
 have hkm : (ks.map iA).length = ks.length := List.length_map ..
 have F := hkm
 refine lm (fun nL tL hL => ∃ (k v : Nat) (acc : List Fo), ks.length - k = nL ∧ so (H ++ [.row 110 1 0 [.hm (n)], .row 53 3 v (acc.map Fo.av)]) n s = hL ∧ tL 0 = .hm (n) ∧ tL 3 = .hs (H.length + 1) v 0 acc.length true ∧ tL 8 = .sl 1 (ks.map iA) ∧ tL 9 = .int .i64 (ks.length : Int) ∧ tL 10 = .int .i64 k ∧ k ≤ ks.length ∧ acc.length = k ∧ acc ++ (ks.drop k).map (fun k => (lkM s.fo k).getD Fo.z) = ks.map (fun k => (lkM s.fo k).getD Fo.z)) ((fun (k v : Nat) (acc : List Fo) => (ks.length - k : Nat)) (0) (0) ([])) ?_ ?_
 ·refine ⟨_, _, Weak.virt 3 53 3 (by simp) (by omega) (by exact zq F), ⟨0, 0, [], rfl, by rw [so_app (by simp; omega)]; simp, ?_, ?_, ?_, ?_, ?_, by omega, rfl, by simp⟩⟩
  all_goals first | exact zq F | rfl | omega | trivial | skip
 rintro _ s2 h' ⟨k, v, acc, rfl, rfl, e0, e3, e8, e9, e10, hk, hac, hp⟩ K2 hK2
 simp only [mix_cons, mix_nil, Nat.reduceEqDiff, ↓reduceIte] at e0 e3 e8 e9 e10
 have F := F6 F e0 e3 e8 e9 e10
 refine wk F ?_
 refine cq F (fun c1 => ?_) (fun c1 => ?_) <;> (try exact c1.elim) <;> (refine wk F ?_)
 ·have c2 : k < ks.length := by omega
  obtain ⟨y, hy, hym⟩ := getElem?_of_lt c2
  rw [drop_cons_of hy, List.map_cons] at hp
  have F := F3 F hy @heapF
  try refine sq F ?_
  refine wk F ?_
  refine aq F ?_
  try refine sq F ?_
  refine wk F ?_
  refine hK2 _ _ _ (Wkn.refl ⟨k + 1, v + 1, acc ++ [(lkM s.fo y).getD Fo.z], rfl, by simp [Fo.av], ?_, ?_, ?_, ?_, ?_, by omega, by simp; omega, by rw [← hp]; simp⟩) (by omega)
  all_goals first | exact zq F | rfl | omega | trivial | skip
 ·rw [drop_nil_of c1, List.map_nil, List.append_nil] at hp
  refine ee hQ F ?_
  rw [← hp]
  have hbl : n + (s.bl n).length ≤ H.length := hn
  have hg : getRow (so (H ++ [.row 110 1 0 [.hm (n)], .row 53 3 v (acc.map Fo.av)]) n s) (H.length + 1) v = some (53, 3, acc.map Fo.av) := by
   rw [so_row' (by simp; omega) v (by omega), gs_new _ rfl]; simp [getRow]
  exact fin_ovF hbl rfl (PS.clo hn s) (Frz.data (by omega) hg (by simp) (fun r hr => by obtain ⟨a, _, rfl⟩ := List.mem_map.1 hr; exact Fo.clo _ a) (fun r hr => by obtain ⟨a, _, rfl⟩ := List.mem_map.1 hr; exact a.cells_sto)) ⟨rfl, rfl⟩
theorem KeysFe_sat (p : Nat) (h : Heap) : Sat (CT G) 101 [.hm p] h (fun r h' => r = .fn (.func 152) [] [.hp h.length 0 0 0] ∧ h' = h ++ [.row 111 1 0 [.hm p]]) := by
 refine sb [.tmp 2] (fn := Tryz.f101) Tryz.func101 ?_
 intro Q hQ
 refine wk trivial ?_
 refine ee hQ trivial ?_
 exact Fin.whole (by simp) (.fn _ _ _ (fun _ h => by cases h) (fun x hx => by simp at hx; subst hx; exact .hp _ _ _ _ (by simp))) ⟨rfl, rfl⟩
theorem PSsortedFe_sat (s : PS) (hw : WFM s.fe s.c2) (hb : ∀ e ∈ s.fe, -9223372036854775808 ≤ e.1 ∧ e.1 ≤ 9223372036854775807) (hl : s.fe.length ≤ 100000) {H : Heap} {n : Nat} (hn : n + 9 ≤ H.length) : Sat (CT G) 57 [.hm (n + 1)] (so H n s) (fun r h' => r = .sl 4 ((valsM Fe.z s.fe).map Fe.av) ∧ h' = so H n s) := by
 have hsl := sortI_len (s.fe.map (·.1))
 rw [List.length_map] at hsl
 refine sb [.tmp 2] (fn := Tryz.f57) Tryz.func57 ?_
 intro Q hQ
 refine wk trivial ?_
 refine kq trivial (KeysFe_sat G _ _) ?_
 refine kq trivial (SortedI_sat G Fe.av _ Tryz.sortedKeys101 s.fe s.c2 hw hb hl (by rw [so_row' (by simp; omega) 0 (by omega), gs_new0 _ rfl]; rfl) (so_m2 (by simp; omega))) ?_
 unfold valsM at hQ
 have hks : (List.map (fun x => x.1) s.fe).mergeSort (fun x y => decide (x ≤ y)) = sortI (s.fe.map (·.1)) := rfl
 rw [hks]
 generalize sortI (s.fe.map (·.1)) = ks at *
 have hkm : (ks.map iA).length = ks.length := List.length_map ..
 have F := hkm
 refine lm (fun nL tL hL => ∃ (k v : Nat) (acc : List Fe), ks.length - k = nL ∧ so (H ++ [.row 111 1 0 [.hm (n + 1)], .row 51 4 v (acc.map Fe.av)]) n s = hL ∧ tL 0 = .hm (n + 1) ∧ tL 3 = .hs (H.length + 1) v 0 acc.length true ∧ tL 8 = .sl 1 (ks.map iA) ∧ tL 9 = .int .i64 (ks.length : Int) ∧ tL 10 = .int .i64 k ∧ k ≤ ks.length ∧ acc.length = k ∧ acc ++ (ks.drop k).map (fun k => (lkM s.fe k).getD Fe.z) = ks.map (fun k => (lkM s.fe k).getD Fe.z)) ((fun (k v : Nat) (acc : List Fe) => (ks.length - k : Nat)) (0) (0) ([])) ?_ ?_
 ·refine ⟨_, _, Weak.virt 3 51 4 (by simp) (by omega) (by exact zq F), ⟨0, 0, [], rfl, by rw [so_app (by simp; omega)]; simp, ?_, ?_, ?_, ?_, ?_, by omega, rfl, by simp⟩⟩
  all_goals first | exact zq F | rfl | omega | trivial | skip
 rintro _ s2 h' ⟨k, v, acc, rfl, rfl, e0, e3, e8, e9, e10, hk, hac, hp⟩ K2 hK2
 simp only [mix_cons, mix_nil, Nat.reduceEqDiff, ↓reduceIte] at e0 e3 e8 e9 e10
 have F := F6 F e0 e3 e8 e9 e10
 refine wk F ?_
 refine cq F (fun c1 => ?_) (fun c1 => ?_) <;> (try exact c1.elim) <;> (refine wk F ?_)
 ·have c2 : k < ks.length := by omega
  obtain ⟨y, hy, hym⟩ := getElem?_of_lt c2
  rw [drop_cons_of hy, List.map_cons] at hp
  have F := F3 F hy @heapF
  try refine sq F ?_
  refine wk F ?_
  refine aq F ?_
  try refine sq F ?_
  refine wk F ?_
  refine hK2 _ _ _ (Wkn.refl ⟨k + 1, v + 1, acc ++ [(lkM s.fe y).getD Fe.z], rfl, by simp [Fe.av], ?_, ?_, ?_, ?_, ?_, by omega, by simp; omega, by rw [← hp]; simp⟩) (by omega)
  all_goals first | exact zq F | rfl | omega | trivial | skip
 ·rw [drop_nil_of c1, List.map_nil, List.append_nil] at hp
  refine ee hQ F ?_
  rw [← hp]
  have hbl : n + (s.bl n).length ≤ H.length := hn
  have hg : getRow (so (H ++ [.row 111 1 0 [.hm (n + 1)], .row 51 4 v (acc.map Fe.av)]) n s) (H.length + 1) v = some (51, 4, acc.map Fe.av) := by
   rw [so_row' (by simp; omega) v (by omega), gs_new _ rfl]; simp [getRow]
  exact fin_ovF hbl rfl (PS.clo hn s) (Frz.data (by omega) hg (by simp) (fun r hr => by obtain ⟨a, _, rfl⟩ := List.mem_map.1 hr; exact Fe.clo _ a) (fun r hr => by obtain ⟨a, _, rfl⟩ := List.mem_map.1 hr; exact a.cells_sto)) ⟨rfl, rfl⟩
theorem KeysIt_sat (p : Nat) (h : Heap) : Sat (CT G) 102 [.hm p] h (fun r h' => r = .fn (.func 153) [] [.hp h.length 0 0 0] ∧ h' = h ++ [.row 91 1 0 [.hm p]]) := by
 refine sb [.tmp 2] (fn := Tryz.f102) Tryz.func102 ?_
 intro Q hQ
 refine wk trivial ?_
 refine ee hQ trivial ?_
 exact Fin.whole (by simp) (.fn _ _ _ (fun _ h => by cases h) (fun x hx => by simp at hx; subst hx; exact .hp _ _ _ _ (by simp))) ⟨rfl, rfl⟩
theorem KeysSe_sat (p : Nat) (h : Heap) : Sat (CT G) 103 [.hm p] h (fun r h' => r = .fn (.func 154) [] [.hp h.length 0 0 0] ∧ h' = h ++ [.row 112 1 0 [.hm p]]) := by
 refine sb [.tmp 2] (fn := Tryz.f103) Tryz.func103 ?_
 intro Q hQ
 refine wk trivial ?_
 refine ee hQ trivial ?_
 exact Fin.whole (by simp) (.fn _ _ _ (fun _ h => by cases h) (fun x hx => by simp at hx; subst hx; exact .hp _ _ _ _ (by simp))) ⟨rfl, rfl⟩
theorem PSsortedSe_sat (s : PS) (hw : WFM s.se s.c4) (hb : ∀ e ∈ s.se, -9223372036854775808 ≤ e.1 ∧ e.1 ≤ 9223372036854775807) (hl : s.se.length ≤ 100000) {H : Heap} {n : Nat} (hn : n + 9 ≤ H.length) : Sat (CT G) 59 [.hm (n + 3)] (so H n s) (fun r h' => r = .sl 3 ((valsM Se.z s.se).map Se.av) ∧ h' = so H n s) := by
 have hsl := sortI_len (s.se.map (·.1))
 rw [List.length_map] at hsl
 refine sb [.tmp 2] (fn := Tryz.f59) Tryz.func59 ?_
 intro Q hQ
 refine wk trivial ?_
 refine kq trivial (KeysSe_sat G _ _) ?_
 refine kq trivial (SortedI_sat G Se.av _ Tryz.sortedKeys103 s.se s.c4 hw hb hl (by rw [so_row' (by simp; omega) 0 (by omega), gs_new0 _ rfl]; rfl) (so_m4 (by simp; omega))) ?_
 unfold valsM at hQ
 have hks : (List.map (fun x => x.1) s.se).mergeSort (fun x y => decide (x ≤ y)) = sortI (s.se.map (·.1)) := rfl
 rw [hks]
 generalize sortI (s.se.map (·.1)) = ks at *
 have hkm : (ks.map iA).length = ks.length := List.length_map ..
 have F := hkm
 refine lm (fun nL tL hL => ∃ (k v : Nat) (acc : List Se), ks.length - k = nL ∧ so (H ++ [.row 112 1 0 [.hm (n + 3)], .row 129 3 v (acc.map Se.av)]) n s = hL ∧ tL 0 = .hm (n + 3) ∧ tL 3 = .hs (H.length + 1) v 0 acc.length true ∧ tL 8 = .sl 1 (ks.map iA) ∧ tL 9 = .int .i64 (ks.length : Int) ∧ tL 10 = .int .i64 k ∧ k ≤ ks.length ∧ acc.length = k ∧ acc ++ (ks.drop k).map (fun k => (lkM s.se k).getD Se.z) = ks.map (fun k => (lkM s.se k).getD Se.z)) ((fun (k v : Nat) (acc : List Se) => (ks.length - k : Nat)) (0) (0) ([])) ?_ ?_
 ·refine ⟨_, _, Weak.virt 3 129 3 (by simp) (by omega) (by exact zq F), ⟨0, 0, [], rfl, by rw [so_app (by simp; omega)]; simp, ?_, ?_, ?_, ?_, ?_, by omega, rfl, by simp⟩⟩
  all_goals first | exact zq F | rfl | omega | trivial | skip
 rintro _ s2 h' ⟨k, v, acc, rfl, rfl, e0, e3, e8, e9, e10, hk, hac, hp⟩ K2 hK2
 simp only [mix_cons, mix_nil, Nat.reduceEqDiff, ↓reduceIte] at e0 e3 e8 e9 e10
 have F := F6 F e0 e3 e8 e9 e10
 refine wk F ?_
 refine cq F (fun c1 => ?_) (fun c1 => ?_) <;> (try exact c1.elim) <;> (refine wk F ?_)
 ·have c2 : k < ks.length := by omega
  obtain ⟨y, hy, hym⟩ := getElem?_of_lt c2
  rw [drop_cons_of hy, List.map_cons] at hp
  have F := F3 F hy @heapF
  try refine sq F ?_
  refine wk F ?_
  refine aq F ?_
  try refine sq F ?_
  refine wk F ?_
  refine hK2 _ _ _ (Wkn.refl ⟨k + 1, v + 1, acc ++ [(lkM s.se y).getD Se.z], rfl, by simp [Se.av], ?_, ?_, ?_, ?_, ?_, by omega, by simp; omega, by rw [← hp]; simp⟩) (by omega)
  all_goals first | exact zq F | rfl | omega | trivial | skip
 ·rw [drop_nil_of c1, List.map_nil, List.append_nil] at hp
  refine ee hQ F ?_
  rw [← hp]
  have hbl : n + (s.bl n).length ≤ H.length := hn
  have hg : getRow (so (H ++ [.row 112 1 0 [.hm (n + 3)], .row 129 3 v (acc.map Se.av)]) n s) (H.length + 1) v = some (129, 3, acc.map Se.av) := by
   rw [so_row' (by simp; omega) v (by omega), gs_new _ rfl]; simp [getRow]
  exact fin_ovF hbl rfl (PS.clo hn s) (Frz.data (by omega) hg (by simp) (fun r hr => by obtain ⟨a, _, rfl⟩ := List.mem_map.1 hr; exact Se.clo _ a) (fun r hr => by obtain ⟨a, _, rfl⟩ := List.mem_map.1 hr; exact a.cells_sto)) ⟨rfl, rfl⟩
theorem PSsortedItR_sat (s : PS) (hw : WFM s.it s.c3) (hb : ∀ e ∈ s.it, -9223372036854775808 ≤ e.1 ∧ e.1 ≤ 9223372036854775807) (hl : s.it.length ≤ 100000) {H : Heap} {n : Nat} (hn : n + 9 ≤ H.length) : Sat (CT G) 58 [.hm (n + 2)] (so H n s) (fun r h' => ∃ v, r = .hs (H.length + 1) v 0 (valsM It.z s.it).length true ∧ h' = so (H ++ [.row 91 1 0 [.hm (n + 2)], .row 82 9 v ((valsM It.z s.it).map It.av)]) n s) := by
 have hsl := sortI_len (s.it.map (·.1))
 rw [List.length_map] at hsl
 refine sb [.tmp 2] (fn := Tryz.f58) Tryz.func58 ?_
 intro Q hQ
 refine wk trivial ?_
 refine kq trivial (KeysIt_sat G _ _) ?_
 refine kq trivial (SortedI_sat G It.av _ Tryz.sortedKeys102 s.it s.c3 hw hb hl (by rw [so_row' (by simp; omega) 0 (by omega), gs_new0 _ rfl]; rfl) (so_m3 (by simp; omega))) ?_
 unfold valsM at hQ
 have hks : (List.map (fun x => x.1) s.it).mergeSort (fun x y => decide (x ≤ y)) = sortI (s.it.map (·.1)) := rfl
 rw [hks]
 generalize sortI (s.it.map (·.1)) = ks at *
 have hkm : (ks.map iA).length = ks.length := List.length_map ..
 have F := hkm
 refine lm (fun nL tL hL => ∃ (k v : Nat) (acc : List It), ks.length - k = nL ∧ so (H ++ [.row 91 1 0 [.hm (n + 2)], .row 82 9 v (acc.map It.av)]) n s = hL ∧ tL 0 = .hm (n + 2) ∧ tL 3 = .hs (H.length + 1) v 0 acc.length true ∧ tL 8 = .sl 1 (ks.map iA) ∧ tL 9 = .int .i64 (ks.length : Int) ∧ tL 10 = .int .i64 k ∧ k ≤ ks.length ∧ acc.length = k ∧ acc ++ (ks.drop k).map (fun k => (lkM s.it k).getD It.z) = ks.map (fun k => (lkM s.it k).getD It.z)) ((fun (k v : Nat) (acc : List It) => (ks.length - k : Nat)) (0) (0) ([])) ?_ ?_
 ·refine ⟨_, _, Weak.virt 3 82 9 (by simp) (by omega) (by exact zq F), ⟨0, 0, [], rfl, by rw [so_app (by simp; omega)]; simp, ?_, ?_, ?_, ?_, ?_, by omega, rfl, by simp⟩⟩
  all_goals first | exact zq F | rfl | omega | trivial | skip
 rintro _ s2 h' ⟨k, v, acc, rfl, rfl, e0, e3, e8, e9, e10, hk, hac, hp⟩ K2 hK2
 simp only [mix_cons, mix_nil, Nat.reduceEqDiff, ↓reduceIte] at e0 e3 e8 e9 e10
 have F := F6 F e0 e3 e8 e9 e10
 refine wk F ?_
 refine cq F (fun c1 => ?_) (fun c1 => ?_) <;> (try exact c1.elim) <;> (refine wk F ?_)
 ·have c2 : k < ks.length := by omega
  obtain ⟨y, hy, hym⟩ := getElem?_of_lt c2
  rw [drop_cons_of hy, List.map_cons] at hp
  have F := F3 F hy @heapF
  try refine sq F ?_
  refine wk F ?_
  refine aq F ?_
  try refine sq F ?_
  refine wk F ?_
  refine hK2 _ _ _ (Wkn.refl ⟨k + 1, v + 1, acc ++ [(lkM s.it y).getD It.z], rfl, by simp [It.av], ?_, ?_, ?_, ?_, ?_, by omega, by simp; omega, by rw [← hp]; simp⟩) (by omega)
  all_goals first | exact zq F | rfl | omega | trivial | skip
 ·rw [drop_nil_of c1, List.map_nil, List.append_nil] at hp
  refine ee hQ F ?_
  rw [← hp]
  have hal : acc.length = ks.length := by omega
  exact Fin.whole (by rw [so_len hn, so_len (by simp; omega)]; simp) (.hs _ _ _ _ _ (by rw [so_len (by simp; omega)]; simp)) ⟨v, by simp [hal], rfl⟩
end Go.Av
namespace Go.Av
open Go Go.Proofs Go.RowKit
attribute [local irreducible] WP WPl WPix Sat
set_option maxRecDepth 100000
set_option maxHeartbeats 2000000
variable (G : Nat → Option (List AVal))
theorem fin_frzS {h0 : Heap} {R : AVal → Heap → Prop} {r0 r : AVal} (hz : Frz h0 h0.length r0 r) (hR : R r h0) : Fin h0 h0 R r0 := by
 have := Fin.frz (h0 := h0) (j := []) (R := R) (r0 := r0) (r := r) (by rwa [List.append_nil]) hR
 rwa [List.append_nil] at this
theorem CloneS_sat (l : List Bs) (hl : l.length ≤ 1048576) (h : Heap) : Sat (CT G) 96 [.sl 1 (l.map .str)] h (fun r h' => r = .sl 1 (l.map .str) ∧ h' = h) := by
 rcases l with _ | ⟨a, l⟩
 ·refine sb [.tmp 2] (fn := Tryz.f96) Tryz.func96 ?_
  intro Q hQ
  refine wk trivial ?_
  refine binK_empty _ (by exact zq trivial) (.inl rfl) fun b => ?_
  cases b
  ·try refine sq trivial ?_
   refine wk trivial ?_
   refine appK_ez (.inl rfl) (by simp (disch := first | omega | (simp only [go_sem, ↓reduceIte, seval]; first | done | omega) | fail) only [go_sem, ↓reduceIte, seval]; rfl) (by simp (disch := first | omega | (simp only [go_sem, ↓reduceIte, seval]; first | done | omega) | fail) only [go_sem, ↓reduceIte, seval]; rfl) (by simp (disch := first | omega | (simp only [go_sem, ↓reduceIte, seval]; first | done | omega) | fail) only [go_sem, ↓reduceIte, seval]; rfl) (by simp (disch := first | omega | (simp only [go_sem, ↓reduceIte, seval]; first | done | omega) | fail) only [go_sem, ↓reduceIte, seval]; try rfl) (by omega) (by simp only [elemsOf, ↓reduceIte]; try rfl) (by simp) (fun _ => ?_) (fun h => absurd rfl h)
   try refine sq trivial ?_
   refine wk trivial ?_
   refine ee hQ trivial ?_
   exact fin_frzS (.ezs _) ⟨rfl, rfl⟩
  ·try refine sq trivial ?_
   refine wk trivial ?_
   refine ee hQ trivial ?_
   exact fin_frzS (.nils _) ⟨rfl, rfl⟩
 ·have hr : (List.map AVal.str (a :: l)) ≠ [] := by simp
  refine sb [.tmp 2] (fn := Tryz.f96) Tryz.func96 ?_
  intro Q hQ
  refine wk trivial ?_
  refine appK_ez (.inl rfl) (by simp (disch := first | omega | (simp only [go_sem, ↓reduceIte, seval]; first | done | omega) | fail) only [go_sem, ↓reduceIte, seval]; rfl) (by simp (disch := first | omega | (simp only [go_sem, ↓reduceIte, seval]; first | done | omega) | fail) only [go_sem, ↓reduceIte, seval]; rfl) (by simp (disch := first | omega | (simp only [go_sem, ↓reduceIte, seval]; first | done | omega) | fail) only [go_sem, ↓reduceIte, seval]; rfl) (by simp (disch := first | omega | (simp only [go_sem, ↓reduceIte, seval]; first | done | omega) | fail) only [go_sem, ↓reduceIte, seval]; try rfl) (by omega) (by simp only [elemsOf, ↓reduceIte]; try rfl) ?_ (fun h => by simp at h) (fun _ => ?_)
  ·simp [maxLen] at hl ⊢; omega
  try refine sq trivial ?_
  refine wk trivial ?_
  refine ee hQ trivial ?_
  have hg : getRow (h ++ [.row 9 1 0 ((a :: l).map .str)]) h.length 0 = some (9, 1, (a :: l).map .str) := by rw [gs_new0 _ rfl]; simp [getRow]
  have := Frz.data (n := h.length) (len := (a :: l).length) (room := true) (Nat.le_refl _) hg (by simp) (fun r hr => by obtain ⟨a, _, rfl⟩ := List.mem_map.1 hr; exact .str _) (fun r hr c hc => by obtain ⟨a, _, rfl⟩ := List.mem_map.1 hr; simp [AVal.cells] at hc; subst hc; rfl)
  simp only [List.length_cons, List.map_cons] at this
  exact Fin.frz (by simpa using this) ⟨rfl, rfl⟩
theorem PStold_sat (t : It) (ht : t.tags.length ≤ 1048576) (h : Heap) : Sat (CT G) 60 [t.av] h (fun r h' => r = t.av ∧ h' = h) := by
 refine sb [.cell 2 82] (fn := Tryz.f60) Tryz.func60 ?_
 intro Q hQ
 refine wk trivial ?_
 refine kq trivial (CloneS_sat G t.tags ht _) ?_
 refine ye hQ trivial ?_
 exact Fin.plain (It.clo _ t) ⟨rfl, rfl⟩
theorem PSItem_sat (s : PS) (id : Int) (ht : ((lkM s.it id).getD It.z).tags.length ≤ 1048576) {H : Heap} {n : Nat} (hn : n + 9 ≤ H.length) : Sat (CT G) 38 [.hp (n + 8) 0 0 0, .int .i64 id] (so H n s) (fun r h' => r = .tup [((lkM s.it id).getD It.z).av, .bool (lkM s.it id).isSome] ∧ h' = so H n s) := by
 refine sb [.cell 4 82, .tmp 5] (fn := Tryz.f38) Tryz.func38 ?_
 intro Q hQ
 refine wk trivial ?_
 refine kq trivial (PStold_sat G ((lkM s.it id).getD It.z) ht _) ?_
 refine ye hQ trivial ?_
 exact so_fin hn (.tup _ (fun x hx => by simp only [List.mem_cons, List.not_mem_nil, or_false] at hx; rcases hx with rfl | rfl; exact It.clo _ _; exact .bool _)) ⟨rfl, rfl⟩
end Go.Av
namespace Go.Av
open Go Go.Proofs Go.RowKit
attribute [local irreducible] WP WPl WPix Sat
set_option maxRecDepth 100000
set_option maxHeartbeats 4000000
variable (G : Nat → Option (List AVal))
structure St where
 clock : Int
 fo : List Fo
 fe : List Fe
 it : List It
 se : List Se
 t1 : Int
 t2 : Int
 t3 : Int
 t4 : Int
def St.av (x : St) : AVal := .agg [.int .i64 x.clock, .sl 3 (x.fo.map Fo.av), .sl 4 (x.fe.map Fe.av), .sl 9 (x.it.map It.av), .sl 3 (x.se.map Se.av), .int .i64 x.t1, .int .i64 x.t2, .int .i64 x.t3, .int .i64 x.t4]
@[go_sem] theorem St.av_eq (x : St) : x.av = .agg [.int .i64 x.clock, .sl 3 (x.fo.map Fo.av), .sl 4 (x.fe.map Fe.av), .sl 9 (x.it.map It.av), .sl 3 (x.se.map Se.av), .int .i64 x.t1, .int .i64 x.t2, .int .i64 x.t3, .int .i64 x.t4] := (rfl)
def PS.tell (s : PS) : St := ⟨s.clock, valsM Fo.z s.fo, valsM Fe.z s.fe, valsM It.z s.it, valsM Se.z s.se, s.t1, s.t2, s.t3, s.t4⟩
def inI (k : Int) : Prop := -9223372036854775808 ≤ k ∧ k ≤ 9223372036854775807
structure PS.Ok (s : PS) : Prop where
 w1 : WFM s.fo s.c1
 w2 : WFM s.fe s.c2
 w3 : WFM s.it s.c3
 w4 : WFM s.se s.c4
 b1 : ∀ e ∈ s.fo, inI e.1
 b2 : ∀ e ∈ s.fe, inI e.1
 b3 : ∀ e ∈ s.it, inI e.1
 b4 : ∀ e ∈ s.se, inI e.1
 l1 : s.fo.length ≤ 100000
 l2 : s.fe.length ≤ 100000
 l3 : s.it.length ≤ 100000
 l4 : s.se.length ≤ 100000
 tg : ∀ t ∈ valsM It.z s.it, t.tags.length ≤ 1048576
theorem frz_fin {N : Nat} {h : Heap} {α : Type} {av : α → AVal} {m : Nat} (hc : ∀ a, Clo N (av a)) (l : List α) : Frz h N (.sl m (l.map av)) (.sl m (l.map av)) :=
 .clo _ (Clo.sl _ _ fun x hx => by obtain ⟨a, _, rfl⟩ := List.mem_map.1 hx; exact hc a)
theorem tell_fin (s : PS) {H j : Heap} {n p v : Nat} (hn : n + 9 ≤ H.length) (hg : getRow (H ++ j) (H.length + p) v = some (82, 9, (valsM It.z s.it).map It.av)) :
  Fin (so H n s) (so (H ++ j) n s) (fun r h' => r = s.tell.av ∧ h' = so H n s) (.agg [.int .i64 s.clock, .sl 3 ((valsM Fo.z s.fo).map Fo.av), .sl 4 ((valsM Fe.z s.fe).map Fe.av), .hs (H.length + p) v 0 (valsM It.z s.it).length true, .sl 3 ((valsM Se.z s.se).map Se.av), .int .i64 s.t1, .int .i64 s.t2, .int .i64 s.t3, .int .i64 s.t4]) := by
 have hl : H.length + p < (H ++ j).length := gr_lt hg
 have hg' : getRow (so (H ++ j) n s) (H.length + p) v = some (82, 9, (valsM It.z s.it).map It.av) := by rw [so_row' (by simp; omega) v (by omega)]; exact hg
 refine fin_ovF hn rfl (PS.clo hn s) (FrzL.agg (.cons (.clo _ (.int _ _)) (.cons (frz_fin (Fo.clo _) _) (.cons (frz_fin (Fe.clo _) _) (.cons (Frz.data (by omega) hg' (by simp) (fun r hr => by obtain ⟨a, _, rfl⟩ := List.mem_map.1 hr; exact It.clo _ a) (fun r hr => by obtain ⟨a, _, rfl⟩ := List.mem_map.1 hr; exact a.cells_sto)) (.cons (frz_fin (Se.clo _) _) (.cons (.clo _ (.int _ _)) (.cons (.clo _ (.int _ _)) (.cons (.clo _ (.int _ _)) (.cons (.clo _ (.int _ _)) .nil))))))))) rfl) ⟨rfl, rfl⟩
theorem PSTell_sat (s : PS) (hs : s.Ok) {H : Heap} {n : Nat} (hn : n + 9 ≤ H.length) : Sat (CT G) 22 [.hp (n + 8) 0 0 0] (so H n s) (fun r h' => r = s.tell.av ∧ h' = so H n s) := by
 have hvl : (valsM It.z s.it).length ≤ 100000 := by unfold valsM; rw [List.length_map, sortI_len, List.length_map]; exact hs.l3
 refine sb [.cell 2 34] (fn := Tryz.f22) Tryz.func22 ?_
 intro Q hQ
 refine wk trivial ?_
 refine WP_draw8 46 [8, 13, 18, 23, 44, 45] [true, true, true, true, true, true, true, true, false, true, true, true, true, false, true, true, true, true, false, true, true, true, true, false, true, true, true, true, true, true, true, true, true, true, true, true, true, true, true, true, true, true, true, true, false, false] (.two 8 [false, true, true, true, false, false, false, false, false, false, true, true, true, false, false, true, true, true, false, false, true, true, true, false, false, true, true, true, true, false, true, true, true, true, false, true, true, true, true, false, true, true, true, true] (.two 13 [false, true, true, true, false, false, false, false, false, false, false, false, false, false, false, true, true, true, false, false, true, true, true, false, false, true, true, true, true, false, true, true, true, true, false, true, true, true, true, false, true, true, true, true] (.two 18 [false, true, true, true, false, false, false, false, false, false, false, false, false, false, false, false, false, false, false, false, true, true, true, false, false, true, true, true, true, false, true, true, true, true, false, true, true, true, true, false, true, true, true, true] (.two 23 [false, true, true, true, false, false, false, false, false, false, false, false, false, false, false, false, false, false, false, false, false, false, false, false, false, true, true, true, true, false, true, true, true, true, false, true, true, true, true, false, true, true, true, true] (.two 44 [] (.one 45 [] .fin) 45 [false, true, true, true, false, false, false, false, false, false, false, false, false, false, false, false, false, false, false, false, false, false, false, false, false, true, true, true, true, false, true, true, true, true, false, true, true, true, true, false, true, true, true, true] (.one 44 [] .fin)) 45 [false, true, true, true, false, false, false, false, false, false, false, false, false, false, false, false, false, false, false, false, true, true, true, false, false, true, true, true, true, false, true, true, true, true, false, true, true, true, true, false, true, true, true, true] (.one 23 [false, true, true, true, false, false, false, false, false, false, false, false, false, false, false, false, false, false, false, false, false, false, false, false, false, true, true, true, true, false, true, true, true, true, false, true, true, true, true, false, true, true, true, true] (.one 44 [] .fin))) 45 [false, true, true, true, false, false, false, false, false, false, false, false, false, false, false, true, true, true, false, false, true, true, true, false, false, true, true, true, true, false, true, true, true, true, false, true, true, true, true, false, true, true, true, true] (.one 18 [false, true, true, true, false, false, false, false, false, false, false, false, false, false, false, false, false, false, false, false, true, true, true, false, false, true, true, true, true, false, true, true, true, true, false, true, true, true, true, false, true, true, true, true] (.one 23 [false, true, true, true, false, false, false, false, false, false, false, false, false, false, false, false, false, false, false, false, false, false, false, false, false, true, true, true, true, false, true, true, true, true, false, true, true, true, true, false, true, true, true, true] (.one 44 [] .fin)))) 45 [false, true, true, true, false, false, false, false, false, false, true, true, true, false, false, true, true, true, false, false, true, true, true, false, false, true, true, true, true, false, true, true, true, true, false, true, true, true, true, false, true, true, true, true] (.one 13 [false, true, true, true, false, false, false, false, false, false, false, false, false, false, false, true, true, true, false, false, true, true, true, false, false, true, true, true, true, false, true, true, true, true, false, true, true, true, true, false, true, true, true, true] (.one 18 [false, true, true, true, false, false, false, false, false, false, false, false, false, false, false, false, false, false, false, false, true, true, true, false, false, true, true, true, true, false, true, true, true, true, false, true, true, true, true, false, true, true, true, true] (.one 23 [false, true, true, true, false, false, false, false, false, false, false, false, false, false, false, false, false, false, false, false, false, false, false, false, false, true, true, true, true, false, true, true, true, true, false, true, true, true, true, false, true, true, true, true] (.one 44 [] .fin))))) 45 [false, true, true, true, false, true, true, true, false, false, true, true, true, false, false, true, true, true, false, false, true, true, true, false, false, true, true, true, true, false, true, true, true, true, false, true, true, true, true, false, true, true, true, true] (.one 8 [false, true, true, true, false, false, false, false, false, false, true, true, true, false, false, true, true, true, false, false, true, true, true, false, false, true, true, true, true, false, true, true, true, true, false, true, true, true, true, false, true, true, true, true] (.one 13 [false, true, true, true, false, false, false, false, false, false, false, false, false, false, false, true, true, true, false, false, true, true, true, false, false, true, true, true, true, false, true, true, true, true, false, true, true, true, true, false, true, true, true, true] (.one 18 [false, true, true, true, false, false, false, false, false, false, false, false, false, false, false, false, false, false, false, false, true, true, true, false, false, true, true, true, true, false, true, true, true, true, false, true, true, true, true, false, true, true, true, true] (.one 23 [false, true, true, true, false, false, false, false, false, false, false, false, false, false, false, false, false, false, false, false, false, false, false, false, false, true, true, true, true, false, true, true, true, true, false, true, true, true, true, false, true, true, true, true] (.one 44 [] .fin)))))) (by decide +kernel) (by kernel_rfl) (by decide +kernel) ?_
 simp only [maskL_t, maskL_f, maskL_n]
 try refine sq trivial ?_
 repeat' (first | (refine WPe_finI ?_; try refine sq trivial ?_) | (refine WPe_oneI ?_; try refine sq trivial ?_) | (refine WPe_twoI ?_ ?_ <;> try refine sq trivial ?_))
 all_goals try refine wk trivial ?_
 repeat' (first
  | (refine (PSsortedFo_sat G s hs.w1 hs.b1 hs.l1 (by first | omega | (simp; omega))).mono ?_; rintro r h' ⟨rfl, rfl⟩; try refine sq trivial ?_)
  | (refine (PSsortedFe_sat G s hs.w2 hs.b2 hs.l2 (by first | omega | (simp; omega))).mono ?_; rintro r h' ⟨rfl, rfl⟩; try refine sq trivial ?_)
  | (refine (PSsortedSe_sat G s hs.w4 hs.b4 hs.l4 (by first | omega | (simp; omega))).mono ?_; rintro r h' ⟨rfl, rfl⟩; try refine sq trivial ?_)
  | (refine (PSsortedItR_sat G s hs.w3 hs.b3 hs.l3 (by first | omega | (simp; omega))).mono ?_; rintro r h' ⟨v, rfl, rfl⟩; try refine sq trivial ?_)
  | (refine WPe_finI ?_; try refine sq trivial ?_) | (refine WPe_oneI ?_; try refine sq trivial ?_) | (refine WPe_twoI ?_ ?_ <;> try refine sq trivial ?_))
 all_goals try refine wk trivial ?_
 all_goals first
  | (
   refine lm (fun nL tL hL => ∃ (k : Nat) (hh : Heap), (valsM It.z s.it).length - k = nL ∧ so hh n s = hL ∧ tL 2 = .hp H.length 0 0 0 ∧ tL 3 = .hp (H.length + 3) 0 0 0 ∧ tL 55 = .hs (H.length + 2) v 0 (valsM It.z s.it).length true ∧ tL 56 = .int .i64 ((valsM It.z s.it).length : Int) ∧ tL 57 = .int .i64 k ∧ k ≤ (valsM It.z s.it).length ∧ (FrN H.length H hh ∧ H.length + 3 < hh.length) ∧ getRow hh H.length 0 = some (34, 9, [.agg [.int .i64 0, .nil (.slice none 0 0), .nil (.slice none 0 0), .nil (.slice none 0 0), .nil (.slice none 0 0), .int .i64 0, .int .i64 0, .int .i64 0, .int .i64 0]]) ∧ getRow hh (H.length + 3) 0 = some (34, 9, [.agg [.int .i64 s.clock, .sl 3 ((valsM Fo.z s.fo).map Fo.av), .sl 4 ((valsM Fe.z s.fe).map Fe.av), .hs (H.length + 2) v 0 (valsM It.z s.it).length true, .sl 3 ((valsM Se.z s.se).map Se.av), .int .i64 s.t1, .int .i64 s.t2, .int .i64 s.t3, .int .i64 s.t4]]) ∧ getRow hh (H.length + 2) v = some (82, 9, (valsM It.z s.it).map It.av)) ((fun (k : Nat) (hh : Heap) => ((valsM It.z s.it).length - k : Nat)) (0) (H ++ [.row 34 9 0 [.agg [.int .i64 0, .nil (.slice none 0 0), .nil (.slice none 0 0), .nil (.slice none 0 0), .nil (.slice none 0 0), .int .i64 0, .int .i64 0, .int .i64 0, .int .i64 0]], .row 91 1 0 [.hm (n + 2)], .row 82 9 v ((valsM It.z s.it).map It.av), .row 34 9 0 [.agg [.int .i64 s.clock, .sl 3 ((valsM Fo.z s.fo).map Fo.av), .sl 4 ((valsM Fe.z s.fe).map Fe.av), .hs (H.length + 2) v 0 (valsM It.z s.it).length true, .sl 3 ((valsM Se.z s.se).map Se.av), .int .i64 s.t1, .int .i64 s.t2, .int .i64 s.t3, .int .i64 s.t4]]])) ?_ ?_
   ·refine Wkn.refl ⟨0, H ++ [.row 34 9 0 [.agg [.int .i64 0, .nil (.slice none 0 0), .nil (.slice none 0 0), .nil (.slice none 0 0), .nil (.slice none 0 0), .int .i64 0, .int .i64 0, .int .i64 0, .int .i64 0]], .row 91 1 0 [.hm (n + 2)], .row 82 9 v ((valsM It.z s.it).map It.av), .row 34 9 0 [.agg [.int .i64 s.clock, .sl 3 ((valsM Fo.z s.fo).map Fo.av), .sl 4 ((valsM Fe.z s.fe).map Fe.av), .hs (H.length + 2) v 0 (valsM It.z s.it).length true, .sl 3 ((valsM Se.z s.se).map Se.av), .int .i64 s.t1, .int .i64 s.t2, .int .i64 s.t3, .int .i64 s.t4]]], rfl, hpE, ?_, ?_, ?_, ?_, ?_, by omega, ⟨FrN.app _ (by omega) (FrN.refl _ _), by simp⟩, by rw [gs_new0 _ rfl]; rfl, by rw [gs_new _ rfl]; rfl, by rw [gs_new _ rfl]; simp [getRow]⟩
    all_goals first | exact zq trivial | rfl | omega | trivial | skip
   rintro _ s2 h' ⟨k, hh, rfl, rfl, e2, e3, e55, e56, e57, hk, hfr, hg2, hgx, hgi⟩ K2 hK2
   simp only [mix_cons, mix_nil, Nat.reduceEqDiff, ↓reduceIte] at e2 e3 e55 e56 e57
   have F := F5 e2 e3 e55 e56 e57
   refine wk F ?_
   obtain ⟨hfr, hfl⟩ := hfr
   have hn1 : n + 9 ≤ hh.length := by omega
   refine cq F (fun c1 => ?_) (fun c1 => ?_) <;> (try exact c1.elim) <;> (refine wk F ?_)
   ·have c2 : k < (valsM It.z s.it).length := by omega
    obtain ⟨y, hy, hym⟩ := getElem?_of_lt c2
    have hyt := hs.tg y hym
    have hset : ((valsM It.z s.it).map It.av).set k (.agg [.int .i64 y.id, .int .i64 y.feed, .int .i64 y.date, .str y.guid, .str y.title, .str y.link, .bool y.read, .bool y.star, .sl 1 (y.tags.map .str)]) = (valsM It.z s.it).map It.av := by
     apply List.ext_getElem?
     intro q
     rw [List.getElem?_set]
     split
     ·rename_i hq; subst hq; rw [List.getElem?_map, hy]; simp [c2, It.av]
     ·rfl
    have F := F7 F c2 hy @hset hgi hgx @heapF
    try refine sq F ?_
    refine wk F ?_
    refine callS_of (PStold_sat G y hyt _) ?_
    try refine sq F ?_
    refine wk F ?_
    refine hK2 _ _ _ (Wkn.refl ⟨k + 1, hh.set (H.length + 2) (.row 82 9 v ((valsM It.z s.it).map It.av)) ++ [.row 82 9 0 [y.av]], rfl, hpE, ?_, ?_, ?_, ?_, ?_, by omega, ⟨FrN.app _ (by simp; omega) (FrN.set _ (by omega) hfr), by simp; omega⟩, by rw [gs_old _ (by simp; omega), gs_ne _ _ (by omega)]; exact hg2, by rw [gs_old _ (by simp; omega), gs_ne _ _ (by omega)]; exact hgx, by rw [gs_old _ (by simp; omega), gs_eq _ _ _ _ _ (by omega), if_pos rfl]⟩) (by omega)
    all_goals first | exact zq F | rfl | omega | trivial | skip
   ·have F := F5 F hg2 hgx hgi @heapF
    try refine sq F ?_
    refine wk F ?_
    refine ye hQ F ?_
    obtain ⟨j, hj⟩ := hfr.behind (by omega)
    subst hj
    have hgi2 : ∀ b, getRow (H ++ j.set 0 b) (H.length + 2) v = some (82, 9, (valsM It.z s.it).map It.av) := fun b => by rw [← st_new0 b rfl, gs_ne _ _ (by omega)]; exact hgi
    rw [st_new0 _ rfl]
    exact tell_fin s hn (by simpa using hgi2 _))
  | (
   refine lm (fun nL tL hL => ∃ (k : Nat) (hh : Heap), (valsM It.z s.it).length - k = nL ∧ so hh n s = hL ∧ tL 2 = .hp H.length 0 0 0 ∧ tL 3 = .hp (H.length + 1) 0 0 0 ∧ tL 55 = .hs (H.length + 3) v 0 (valsM It.z s.it).length true ∧ tL 56 = .int .i64 ((valsM It.z s.it).length : Int) ∧ tL 57 = .int .i64 k ∧ k ≤ (valsM It.z s.it).length ∧ (FrN H.length H hh ∧ H.length + 3 < hh.length) ∧ getRow hh H.length 0 = some (34, 9, [.agg [.int .i64 0, .nil (.slice none 0 0), .nil (.slice none 0 0), .nil (.slice none 0 0), .nil (.slice none 0 0), .int .i64 0, .int .i64 0, .int .i64 0, .int .i64 0]]) ∧ getRow hh (H.length + 1) 0 = some (34, 9, [.agg [.int .i64 s.clock, .sl 3 ((valsM Fo.z s.fo).map Fo.av), .sl 4 ((valsM Fe.z s.fe).map Fe.av), .hs (H.length + 3) v 0 (valsM It.z s.it).length true, .sl 3 ((valsM Se.z s.se).map Se.av), .int .i64 s.t1, .int .i64 s.t2, .int .i64 s.t3, .int .i64 s.t4]]) ∧ getRow hh (H.length + 3) v = some (82, 9, (valsM It.z s.it).map It.av)) ((fun (k : Nat) (hh : Heap) => ((valsM It.z s.it).length - k : Nat)) (0) (H ++ [.row 34 9 0 [.agg [.int .i64 0, .nil (.slice none 0 0), .nil (.slice none 0 0), .nil (.slice none 0 0), .nil (.slice none 0 0), .int .i64 0, .int .i64 0, .int .i64 0, .int .i64 0]], .row 34 9 0 [.agg [.int .i64 s.clock, .sl 3 ((valsM Fo.z s.fo).map Fo.av), .sl 4 ((valsM Fe.z s.fe).map Fe.av), .hs (H.length + 3) v 0 (valsM It.z s.it).length true, .sl 3 ((valsM Se.z s.se).map Se.av), .int .i64 s.t1, .int .i64 s.t2, .int .i64 s.t3, .int .i64 s.t4]], .row 91 1 0 [.hm (n + 2)], .row 82 9 v ((valsM It.z s.it).map It.av)])) ?_ ?_
   ·refine Wkn.refl ⟨0, H ++ [.row 34 9 0 [.agg [.int .i64 0, .nil (.slice none 0 0), .nil (.slice none 0 0), .nil (.slice none 0 0), .nil (.slice none 0 0), .int .i64 0, .int .i64 0, .int .i64 0, .int .i64 0]], .row 34 9 0 [.agg [.int .i64 s.clock, .sl 3 ((valsM Fo.z s.fo).map Fo.av), .sl 4 ((valsM Fe.z s.fe).map Fe.av), .hs (H.length + 3) v 0 (valsM It.z s.it).length true, .sl 3 ((valsM Se.z s.se).map Se.av), .int .i64 s.t1, .int .i64 s.t2, .int .i64 s.t3, .int .i64 s.t4]], .row 91 1 0 [.hm (n + 2)], .row 82 9 v ((valsM It.z s.it).map It.av)], rfl, hpE, ?_, ?_, ?_, ?_, ?_, by omega, ⟨FrN.app _ (by omega) (FrN.refl _ _), by simp⟩, by rw [gs_new0 _ rfl]; rfl, by rw [gs_new _ rfl]; rfl, by rw [gs_new _ rfl]; simp [getRow]⟩
    all_goals first | exact zq trivial | rfl | omega | trivial | skip
   rintro _ s2 h' ⟨k, hh, rfl, rfl, e2, e3, e55, e56, e57, hk, hfr, hg2, hgx, hgi⟩ K2 hK2
   simp only [mix_cons, mix_nil, Nat.reduceEqDiff, ↓reduceIte] at e2 e3 e55 e56 e57
   have F := F5 e2 e3 e55 e56 e57
   refine wk F ?_
   obtain ⟨hfr, hfl⟩ := hfr
   have hn1 : n + 9 ≤ hh.length := by omega
   refine cq F (fun c1 => ?_) (fun c1 => ?_) <;> (try exact c1.elim) <;> (refine wk F ?_)
   ·have c2 : k < (valsM It.z s.it).length := by omega
    obtain ⟨y, hy, hym⟩ := getElem?_of_lt c2
    have hyt := hs.tg y hym
    have hset : ((valsM It.z s.it).map It.av).set k (.agg [.int .i64 y.id, .int .i64 y.feed, .int .i64 y.date, .str y.guid, .str y.title, .str y.link, .bool y.read, .bool y.star, .sl 1 (y.tags.map .str)]) = (valsM It.z s.it).map It.av := by
     apply List.ext_getElem?
     intro q
     rw [List.getElem?_set]
     split
     ·rename_i hq; subst hq; rw [List.getElem?_map, hy]; simp [c2, It.av]
     ·rfl
    have F := F7 F c2 hy @hset hgi hgx @heapF
    try refine sq F ?_
    refine wk F ?_
    refine callS_of (PStold_sat G y hyt _) ?_
    try refine sq F ?_
    refine wk F ?_
    refine hK2 _ _ _ (Wkn.refl ⟨k + 1, hh.set (H.length + 3) (.row 82 9 v ((valsM It.z s.it).map It.av)) ++ [.row 82 9 0 [y.av]], rfl, hpE, ?_, ?_, ?_, ?_, ?_, by omega, ⟨FrN.app _ (by simp; omega) (FrN.set _ (by omega) hfr), by simp; omega⟩, by rw [gs_old _ (by simp; omega), gs_ne _ _ (by omega)]; exact hg2, by rw [gs_old _ (by simp; omega), gs_ne _ _ (by omega)]; exact hgx, by rw [gs_old _ (by simp; omega), gs_eq _ _ _ _ _ (by omega), if_pos rfl]⟩) (by omega)
    all_goals first | exact zq F | rfl | omega | trivial | skip
   ·have F := F5 F hg2 hgx hgi @heapF
    try refine sq F ?_
    refine wk F ?_
    refine ye hQ F ?_
    obtain ⟨j, hj⟩ := hfr.behind (by omega)
    subst hj
    have hgi2 : ∀ b, getRow (H ++ j.set 0 b) (H.length + 3) v = some (82, 9, (valsM It.z s.it).map It.av) := fun b => by rw [← st_new0 b rfl, gs_ne _ _ (by omega)]; exact hgi
    rw [st_new0 _ rfl]
    exact tell_fin s hn (by simpa using hgi2 _))
end Go.Av
