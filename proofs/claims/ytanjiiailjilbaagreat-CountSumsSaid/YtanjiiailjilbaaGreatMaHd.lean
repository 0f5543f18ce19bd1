/- The program's package entity: digit, number, right; utf.Right at a rune's text. -/
import Derived.Test.YtanjiiailjilbaaGreatMaDr3
import Derived.WalkKit
import Derived.ProofKit
import Derived.OpenShut
import Derived.Deep.DeepHandedRow
import Derived.Shelf.SlIterI.Nil
import Derived.Shelf.SlIter.Nil
import Derived.Shelf.SortM.Plain
import Derived.Shelf.SortM.SortNone
import Derived.Ground.GgzProg
import Derived.Ground.SlgmProg
import Derived.Ground.Names2Prog
import Derived.Shelf.Spec.SlicesInsert
import Derived.Shelf.Spec.SlicesInsertGrow
import Derived.Shelf.Spec.SearchS
import Derived.Test.YtanjiiailjilbaaGreatProg
import Derived.Shelf.Strings.Builder1
import Derived.Shelf.Small.Bits
import Derived.Shelf.Small.Wraps
import Derived.Shelf.Strings.BuilderF
import Derived.Shelf.Strings.BuilderK
import Derived.Shelf.Utf8.AppendRunePlain
import Derived.Shelf.Strconv.Itoa0
import Derived.Shelf.Strings.Prefix
import Derived.Shelf.Strings.FieldsFuncAny
import Derived.Shelf.Slices.Clone
import Derived.Shelf.Slices.SearchI
import Derived.Shelf.Slices.Delete
import Derived.Shelf.Slices.Empties
import Derived.Lib.Builder
import Derived.Lib.TrimUEq
set_option linter.unusedSimpArgs false
set_option linter.unusedVariables false
set_option linter.unusedSectionVars false
namespace Go.Av
open Go.RowKit
inductive ET where
 | fin
 | one (i : Nat) (m : List Bool) (s : ET)
 | two (i : Nat) (m : List Bool) (s : ET) (j : Nat) (m' : List Bool) (u : ET)
def maskL : List Bool → List Oper → List Oper
 | true :: m, o :: l => o :: maskL m l
 | false :: m, _ :: l => nopO :: maskL m l
 | _, _ => []
@[go_sem] theorem maskL_t (m : List Bool) (o : Oper) (l : List Oper) : maskL (true :: m) (o :: l) = o :: maskL m l := (rfl)
@[go_sem] theorem maskL_f (m : List Bool) (o : Oper) (l : List Oper) : maskL (false :: m) (o :: l) = nopO :: maskL m l := (rfl)
@[go_sem] theorem maskL_n (l : List Oper) : maskL [] l = [] := by cases l <;> rfl
theorem maskL_get : ∀ (m : List Bool) (l : List Oper) (i : Nat), (maskL m l)[i]? = match m[i]?, l[i]? with | some true, some o => some o | some false, some _ => some nopO | _, _ => none
 | [], l, i => by rw [maskL_n]; simp
 | b :: m, [], i => by cases b <;> simp [maskL]
 | true :: m, o :: l, 0 => by simp [maskL]
 | false :: m, o :: l, 0 => by simp [maskL]
 | true :: m, o :: l, i + 1 => by simp only [maskL, List.getElem?_cons_succ]; exact maskL_get m l i
 | false :: m, o :: l, i + 1 => by simp only [maskL, List.getElem?_cons_succ]; exact maskL_get m l i
theorem maskL_len : ∀ (m : List Bool) (l : List Oper), m.length ≤ l.length → (maskL m l).length = m.length
 | [], l, _ => by rw [maskL_n]; rfl
 | b :: m, [], h => by simp at h
 | true :: m, o :: l, h => by simp only [maskL, List.length_cons]; rw [maskL_len m l (by simpa using h)]
 | false :: m, o :: l, h => by simp only [maskL, List.length_cons]; rw [maskL_len m l (by simpa using h)]
def wrM : List Bool → List Oper → List Nat
 | true :: m, o :: l => match o.dst with | some d => d :: wrM m l | none => wrM m l
 | false :: m, _ :: l => wrM m l
 | _, _ => []
@[go_sem] theorem wrM_t (m : List Bool) (o : Oper) (l : List Oper) : wrM (true :: m) (o :: l) = match o.dst with | some d => d :: wrM m l | none => wrM m l := (rfl)
@[go_sem] theorem wrM_f (m : List Bool) (o : Oper) (l : List Oper) : wrM (false :: m) (o :: l) = wrM m l := (rfl)
@[go_sem] theorem wrM_n (l : List Oper) : wrM [] l = [] := by cases l <;> rfl
theorem wrM_eq : ∀ (m : List Bool) (l : List Oper), wrM m l = wrOps (maskL m l)
 | [], l => by rw [wrM_n, maskL_n]; rfl
 | b :: m, [] => by cases b <;> rfl
 | true :: m, o :: l => by
  show (match o.dst with | some d => d :: wrM m l | none => wrM m l) = (match o.dst with | some d => d :: wrOps (maskL m l) | none => wrOps (maskL m l))
  rw [wrM_eq m l]
 | false :: m, o :: l => by simp only [wrM, maskL, wrOps, nopO]; rw [wrM_eq m l]
def freeO (o : Oper) : Bool := match o.op with
 | .move _ | .assign _ | .pick _ _ _ | .extract _ _ | .field _ _ _ | .build _ _ | .unOp _ _ _ => true
 | _ => false
def okI (ops : Array Oper) (b : Array Nat) (k : Nat) (es : List Nat) (i : Nat) (m : List Bool) (X : List Nat) : Bool :=
 es.contains i && !X.contains i && (es.all fun x => !(b.getD i 0).testBit x || X.contains x) &&
 ((List.range k).all fun p => es.contains p || m.getD p false || (decide (p < i) && (b.getD i 0).testBit p) || (es.any fun x => X.contains x && decide (p < x) && (b.getD x 0).testBit p) || (ops[p]?.any freeO)) &&
 ((List.range m.length).all fun p => !m.getD p false || (decide (p < k) && !es.contains p)) && decide (m.length ≤ k)
def okO (b : Array Nat) (es X is : List Nat) : Bool :=
 es.all fun x => X.contains x || is.contains x || es.any fun y => !X.contains y && decide (y < x) && (b.getD x 0).testBit y
def okE (ops : Array Oper) (b : Array Nat) (k : Nat) (es : List Nat) : ET → List Nat → Bool
 | .fin, X => es.all X.contains
 | .one i m s, X => okI ops b k es i m X && okO b es X [i] && okE ops b k es s (i :: X)
 | .two i m s j m' u, X => okI ops b k es i m X && okI ops b k es j m' X && okO b es X [i, j] && okE ops b k es s (i :: X) && okE ops b k es u (j :: X)
def chkE (l : List Oper) (k : Nat) (es : List Nat) (m0 : List Bool) (tr : ET) : Bool :=
 let ops := l.toArray
 let b := Region.before ops
 preOkG false ops k && decide (k ≤ l.length) &&
 ((List.range k).all fun i => (List.range k).all fun j => match ops[i]?, ops[j]? with
  | some oi, some oj => match oj.dst with
   | some d => !(oi.looksAt ops).contains d || (decide (j < i) && (b.getD i 0).testBit j && (es.contains i || !es.contains j))
   | none => true
  | _, _ => true) &&
 ((List.range k).all fun i => es.contains i || (ops[i]?.any fun o => o.dst.isSome)) &&
 (es.all fun e => decide (e < k)) && m0 == (List.range k).map (fun i => !es.contains i) && okE ops b k es tr []
section
variable {C : Ctx} {t : Env} {h : Heap}
def stepE (C : Ctx) (l : List Oper) (t0 : Env) (i : Nat) (m : List Bool) (P : Env → Heap → Prop) (tc : Env) (h : Heap) : Prop :=
 need (l[i]?) fun o => wpOperV C l.toArray o tc h fun v h' => (WPp C l.toArray (maskL m l) t0 h' fun t'' => agrL (wrM m l) t'' t0) ∧ P (put tc o.dst v) h'
def WPe (C : Ctx) (Q : Exit → Env → Heap → Prop) (l : List Oper) (k : Nat) (t0 : Env) : ET → Env → Heap → Prop
 | .fin, tc, h => WPl C l.toArray Q (l.drop k) tc h
 | .one i m s, tc, h => stepE C l t0 i m (WPe C Q l k t0 s) tc h
 | .two i m s j m' u, tc, h => stepE C l t0 i m (WPe C Q l k t0 s) tc h ∧ stepE C l t0 j m' (WPe C Q l k t0 u) tc h
theorem free_swap {ops : Array Oper} {o : Oper} {s : Env} (hf : freeO o = true) {v : AVal} (g : ∀ KK : AVal → Heap → Prop, KK v h → wpOperV C ops o s h KK) (h' : Heap) : ∀ KK : AVal → Heap → Prop, KK v h' → wpOperV C ops o s h' KK := by
 intro KK hk
 have g := g (fun v' _ => KK v' h') hk
 have key : ∀ K : AVal → Heap → Prop, wpOp C o.op s h (fun v' _ => K v' h') = wpOp C o.op s h' K := by
  intro K
  unfold freeO at hf
  cases ho : o.op <;> rw [ho] at hf <;> first | (cases hf; done) | rfl
 unfold wpOperV at g ⊢
 cases hg : o.guard with
 | none => rw [hg] at g; simp only at g ⊢; rw [← key]; exact g
 | some q =>
  obtain ⟨j, w⟩ := q
  rw [hg] at g
  simp only at g ⊢
  cases hq : guardA ops s j with
  | none => rw [hq] at g; exact g
  | some b => rw [hq] at g; simp only at g ⊢; rw [← key]; exact g
theorem T_char {V : Nat → AVal} (l : List Oper) (t : Env) (hu : ∀ (i j : Nat) (oi oj : Oper) (d : Nat), l[i]? = some oi → l[j]? = some oj → oi.dst = some d → oj.dst = some d → i = j) :
  ∀ i, i ≤ l.length → (∀ (j : Nat) (o : Oper) (d : Nat), j < i → l[j]? = some o → o.dst = some d → Av.T V l t i d = V j) ∧ (∀ d, (∀ (j : Nat) (o : Oper), j < i → l[j]? = some o → o.dst ≠ some d) → Av.T V l t i d = t d)
 | 0, _ => ⟨fun j o d hj => by omega, fun d _ => by rw [T_zero]⟩
 | i + 1, hi => by
  obtain ⟨h1, h2⟩ := T_char l t hu i (by omega)
  have ho : l[i]? = some (l[i]'(by omega)) := List.getElem?_eq_getElem _
  rw [T_succ V l t i _ ho]
  generalize l[i] = o at ho
  refine ⟨fun j oj d hj hoj hd => ?_, fun d hn => ?_⟩
  ·by_cases hji : j = i
   ·subst hji
    rw [ho] at hoj; cases hoj
    simp [put, hd, upd]
   ·have hne : o.dst ≠ some d := fun e => hji (hu j i oj o d hoj ho hd e)
    have : put (Av.T V l t i) o.dst (V i) d = Av.T V l t i d := by
     cases hdo : o.dst with
     | none => rfl
     | some x => simp only [put, upd]; rw [if_neg]; intro e; subst e; exact hne hdo
    rw [this]; exact h1 j oj d (by omega) hoj hd
  ·have hne : o.dst ≠ some d := hn i o (by omega) ho
   have : put (Av.T V l t i) o.dst (V i) d = Av.T V l t i d := by
    cases hdo : o.dst with
    | none => rfl
    | some x => simp only [put, upd]; rw [if_neg]; intro e; subst e; exact hne hdo
   rw [this]; exact h2 d fun j oj hj hoj => hn j oj (by omega) hoj
theorem Ag.upd' {ops : Array Oper} {k : Nat} {V : Nat → AVal} {t s : Env} {p : Nat → Bool} (g : Ag ops k V t p s) {i : Nat} (hp : p i = false) (v : AVal) : Ag ops k (fun j => if j = i then v else V j) t p s :=
 ⟨fun j o x hj ho hpj hd => by
  have : j ≠ i := fun e => by subst e; rw [hp] at hpj; cases hpj
  simp only [if_neg this]; exact g.1 j o x hj ho hpj hd, g.2⟩
theorem Ag.congr' {ops : Array Oper} {k : Nat} {V : Nat → AVal} {t s : Env} {p p' : Nat → Bool} (g : Ag ops k V t p s) (hp : ∀ j, j < k → p' j = p j) : Ag ops k V t p' s :=
 ⟨fun j o x hj ho hpj hd => g.1 j o x hj ho (by rw [← hp j hj]; exact hpj) hd, fun x hn => g.2 x fun j o hj ho hpj => hn j o hj ho (by rw [hp j hj]; exact hpj)⟩
theorem pre_sound8 {l : List Oper} {Q : Exit → Env → Heap → Prop} {k : Nat} {es : List Nat} {t0 t : Env} (D : PreOk l.toArray k fun i j => ((Region.before l.toArray).getD j 0).testBit i) (hkn : k ≤ l.length)
  (c4 : ∀ (i j : Nat) (oi oj : Oper) (d : Nat), i < k → j < k → l[i]? = some oi → l[j]? = some oj → oj.dst = some d → d ∈ oi.looksAt l.toArray → j < i ∧ ((Region.before l.toArray).getD i 0).testBit j = true ∧ (es.contains i = true ∨ es.contains j = false))
  (c7 : ∀ (i : Nat) (o : Oper), i < k → es.contains i = false → l[i]? = some o → o.dst.isSome = true) (hes : ∀ e, es.contains e = true → e < k)
  (hA : detGo .any l.toArray (l.length - k) (listK l.length k) = some (List.range' k (l.length - k))) :
  ∀ (fuel n : Nat) (L : Array Bool) (s : Env) (tr : ET) (V : Nat → AVal) (tc : Env) (h : Heap) (X : List Nat), L.size = l.length → left l.toArray L = fuel → Closed l.toArray L → (∀ j, j < l.length → L.getD j false = true → j < k) →
   (∀ j, es.contains j = true → (L.getD j false = X.contains j)) → okE l.toArray (Region.before l.toArray) k es tr X = true →
   Ag l.toArray k V t (fun j => L.getD j false) s → Ag l.toArray k V t (fun j => !es.contains j) t0 → Ag l.toArray k V t (fun j => !es.contains j || X.contains j) tc →
   (∀ (i : Nat) (o : Oper), i < k → es.contains i = false → L.getD i false = false → l[i]? = some o → ∀ KK : AVal → Heap → Prop, KK (V i) h → wpOperV C l.toArray o t0 h KK) → WPe C Q l k t0 tr tc h →
   WPix C l.toArray Q (Region.linearise.go .any l.toArray fuel n L []) s h := by
 have hsee : ∀ {V : Nat → AVal} {s s' : Env} {p p' : Nat → Bool} {i : Nat} {o : Oper}, Ag l.toArray k V t p s → Ag l.toArray k V t p' s' → i < k → l[i]? = some o →
   (∀ j, j < i → ((Region.before l.toArray).getD i 0).testBit j = true → (es.contains i = true ∨ es.contains j = false) → p j = true ∧ p' j = true) → ∀ d ∈ o.looksAt l.toArray, s d = s' d := by
  intro V s s' p p' i o g g' hi ho hp d hd
  by_cases hx : ∃ (j : Nat) (oj : Oper), j < k ∧ l[j]? = some oj ∧ oj.dst = some d
  ·obtain ⟨j, oj, h1, h2, h3⟩ := hx
   obtain ⟨h4, h5, h6⟩ := c4 i j o oj d hi h1 ho h2 h3 hd
   obtain ⟨h7, h8⟩ := hp j h4 h5 h6
   rw [g.1 j oj d h1 (by simpa using h2) h7 h3, g'.1 j oj d h1 (by simpa using h2) h8 h3]
  ·have hn : ∀ (j : Nat) (oj : Oper), j < k → l.toArray[j]? = some oj → oj.dst ≠ some d := fun j oj h1 h2 h3 => hx ⟨j, oj, h1, by simpa using h2, h3⟩
   rw [g.2 d fun j oj h1 h2 _ => hn j oj h1 h2, g'.2 d fun j oj h1 h2 _ => hn j oj h1 h2]
 intro fuel
 induction fuel with
 | zero =>
  intro n L s tr V tc h X hs hl cl hlt hX hok ag ag0 agc hv hw
  -- everything is listed
  have hall := left_zero (by simpa using hs) hl
  cases tr with
  | fin =>
   have hk : k = l.length := by
    apply Classical.byContradiction
    intro hne
    have := hlt k (by omega) (hall k (by simp; omega))
    omega
   subst hk
   simp only [Region.linearise.go, List.reverse_nil, WPix]
   simp only [WPe, List.drop_length, WPl] at hw
   have e : s = tc := by
    refine Ag.eq (p := fun _ => true) (ag.congr' fun j hj => ?_) (agc.congr' fun j hj => ?_)
    ·exact (hall j (by simpa using hj)).symm
    ·cases hc : es.contains j with
     | false => rfl
     | true => rw [← hX j hc, hall j (by simpa using hj)]; rfl
   rw [e]; exact hw
  | one i m u =>
   simp only [okE, okI, Bool.and_eq_true, Bool.not_eq_true'] at hok
   have h1 := hok.1.1.1.1.1.1.1
   have h2 := hok.1.1.1.1.1.1.2
   have := hall i (by have := hes i h1; simp; omega)
   rw [hX i h1, h2] at this; cases this
  | two i m u j m' u' =>
   simp only [okE, okI, Bool.and_eq_true, Bool.not_eq_true'] at hok
   have h1 := hok.1.1.1.1.1.1.1.1.1
   have h2 := hok.1.1.1.1.1.1.1.1.2
   have := hall i (by have := hes i h1; simp; omega)
   rw [hX i h1, h2] at this; cases this
 | succ fuel ih =>
  intro n L s tr V tc h X hs hl cl hlt hX hok ag ag0 agc hv hw
  have bef : ∀ (i : Nat) (o : Oper), i < k → l[i]? = some o → (∀ e ∈ o.after, Region.binds .any e = true → L.getD e.on false = true) → ∀ j, j < i → ((Region.before l.toArray).getD i 0).testBit j = true → L.getD j false = true :=
   fun i o hi ho hrd j hj hc => D.bef cl i o (by simpa using ho) hi j hj hc hrd
  by_cases hfin : tr = .fin
  ·subst hfin
   simp only [okE, List.all_eq_true] at hok
   have hXe : ∀ j, es.contains j = true → L.getD j false = true := fun j hj => by rw [hX j hj]; exact hok j (by simpa using hj)
   have hTT := D.ag_T V t (by simpa using hkn) k (Nat.le_refl _)
   refine pre_sound2 D .any D.less (by simpa using hkn) (V := V) (t0 := t) (fun j => es.contains j = false ∧ L.getD j false = false) (fun i o ho hoi KK hkk => ?_) ?_ _ _ _ _ (by simpa using hs) hl cl (by simpa using hlt) (fun j hj hlj => ?_) ag
   ·have hik : i < k := by
     refine Nat.lt_of_not_le fun hle => ?_
     rw [List.getElem?_take, if_neg (by omega)] at ho; cases ho
    have hoi' : l[i]? = some o := by rw [List.getElem?_take, if_pos hik] at ho; simpa using ho
    have := hv i o hik hoi.1 hoi.2 hoi' KK hkk
    rw [← wpOperV_congr (hsee ag0 (D.ag_T V t (by simpa using hkn) i (by omega)) hik hoi' fun j hj hb he => ?_)]
    ·exact this
    ·rcases he with he | he
     ·rw [hoi.1] at he; cases he
     ·exact ⟨by simp only [he]; rfl, by simpa using hj⟩
   ·have := detGo_ok (ops := l.toArray) (Q := Q) (md := .any) _ _ _ (l.drop k) tc h hA (by rw [drop_idx (by omega), List.take_of_length_le (by simp)]) hw
    have e : Av.T V (l.toArray.toList.take k) t k = tc := by
     refine Ag.eq (p := fun _ => true) (hTT.congr' fun j hj => ?_) (agc.congr' fun j hj => ?_)
     ·simpa using hj
     ·cases hc : es.contains j with
      | false => rfl
      | true => have := hok j (by simpa using hc); simp only [this]; rfl
    rw [e]
    simpa using this
   ·refine ⟨?_, hlj⟩
    cases hc : es.contains j with
    | false => rfl
    | true => rw [hXe j hc] at hlj; cases hlj
  ·
   obtain ⟨e0, he0, hX0⟩ : ∃ e0, es.contains e0 = true ∧ X.contains e0 = false := by
    cases tr with
    | fin => exact absurd rfl hfin
    | one i m u =>
     simp only [okE, okI, Bool.and_eq_true, Bool.not_eq_true'] at hok
     exact ⟨i, hok.1.1.1.1.1.1.1, hok.1.1.1.1.1.1.2⟩
    | two i m u j m' u' =>
     simp only [okE, okI, Bool.and_eq_true, Bool.not_eq_true'] at hok
     exact ⟨i, hok.1.1.1.1.1.1.1.1.1, hok.1.1.1.1.1.1.1.1.2⟩
   have hek := hes e0 he0
   have heun : L.getD e0 false = false := by rw [hX e0 he0]; exact hX0
   have hne : Region.ready .any l.toArray L ≠ [] := by
    have hmin : ∃ i, i < k ∧ L.getD i false = false ∧ ∀ j, j < i → L.getD j false = true := by
     obtain ⟨i, hi, hl⟩ : ∃ i, i < k ∧ L.getD i false = false := ⟨e0, hek, heun⟩
     induction i using Nat.strongRecOn with
     | ind i ih =>
      by_cases hall : ∀ j, j < i → L.getD j false = true
      ·exact ⟨i, hi, hl, hall⟩
      ·have : ∃ j, j < i ∧ L.getD j false = false := Classical.byContradiction fun hno => hall fun j hj => by
        cases hlj : L.getD j false with
        | true => rfl
        | false => exact absurd ⟨j, hj, hlj⟩ hno
       obtain ⟨j, hj, hlj⟩ := this
       exact ih j hj (by omega) hlj
    obtain ⟨i, hi, hl, hall⟩ := hmin
    have hin : i < l.toArray.size := by simp; omega
    have h3 : i < L.size := by omega
    intro e
    have : i ∈ Region.ready .any l.toArray L := mem_ready.2 ⟨by simp [h3] at hl ⊢; exact hl, l.toArray[i], Array.getElem?_eq_getElem hin, fun e he hb => hall _ (D.less i _ (Array.getElem?_eq_getElem hin) hi e he hb)⟩
    rw [e] at this; cases this
   obtain ⟨i, hi, hmem⟩ := getElem?_mod hne n
   obtain ⟨hun, o, ho, hrd⟩ := mem_ready.1 hmem
   have hin := (Array.getElem?_eq_some_iff.1 ho).1
   have hin' : i < l.length := by simpa using hin
   have h3 : i < L.size := by omega
   have ho' : l[i]? = some o := by simpa using ho
   have hun' : L.getD i false = false := by simp [h3] at hun ⊢; exact hun
   have hik : i < k := by
    refine Nat.lt_of_not_le fun hle => ?_
    obtain ⟨e1, he1, hb, h1⟩ := D.sfx e0 i o ho hek hle
    have h2 := hrd e1 he1 hb
    have hkl : L.getD e0 false = true := by
     rcases h1 with rfl | ⟨h4, h5, h6⟩
     ·exact h2
     ·have hoe : l.toArray[e1.on]? = some (l.toArray[e1.on]'(by simp; omega)) := Array.getElem?_eq_getElem (by simp; omega)
      exact D.bef cl e1.on _ hoe h4 e0 h5 h6 fun e' he' hb' => cl e1.on _ hoe h2 e' he' hb'
    rw [heun] at hkl; cases hkl
   rw [go_succ .any l.toArray fuel n L hi]
   simp only [WPix, ho]
   rw [wpOper_V]
   have hb := bef i o hik ho' hrd
   have agn : ∀ {V : Nat → AVal}, Ag l.toArray k V t (fun j => L.getD j false) s → Ag l.toArray k V t (fun j => (L.setIfInBounds i true).getD j false) (put s o.dst (V i)) := fun ag => by
    refine D.ag_put ag ho hik fun j hj => ?_
    by_cases hji : i = j
    ·subst hji; simp [h3]
    ·rw [getD_set_ne false hji]
     have : (j == i) = false := by simp; exact fun e => hji e.symm
     rw [this, Bool.or_false]
   have hlt' : ∀ j, j < l.length → (L.setIfInBounds i true).getD j false = true → j < k := fun j hj hlj => by
    by_cases hji : i = j
    ·subst hji; exact hik
    ·rw [getD_set_ne false hji] at hlj; exact hlt j hj hlj
   have hls : left l.toArray (L.setIfInBounds i true) = fuel := by have := left_set (by simpa using hs) hin hun'; omega
   cases hic : es.contains i with
   | false =>
    have h9 := hv i o hik hic hun' ho'
    rw [← wpOperV_congr (hsee ag0 ag hik ho' fun j hj hbt he => ?_)]
    ·refine h9 _ ?_
     refine ih _ _ _ tr V tc h X (by simpa using hs) hls (cl.set ho hrd) hlt' (fun j hj => ?_) hok (agn ag) ag0 agc (fun j oj hj hjc hjl hoj => ?_) hw
     ·have : i ≠ j := fun e => by subst e; rw [hic] at hj; cases hj
      rw [getD_set_ne false this]; exact hX j hj
     ·have : i ≠ j := fun e => by subst e; simp [h3] at hjl
      rw [getD_set_ne false this] at hjl
      exact hv j oj hj hjc hjl hoj
    ·rcases he with he | he
     ·rw [hic] at he; cases he
     ·exact ⟨by simp only [he]; rfl, hb j hj hbt⟩
   | true =>
    have hiX : X.contains i = false := by rw [← hX i hic]; exact hun'
    have eff : ∀ (m : List Bool) (u : ET), okI l.toArray (Region.before l.toArray) k es i m X = true → okE l.toArray (Region.before l.toArray) k es u (i :: X) = true → stepE C l t0 i m (WPe C Q l k t0 u) tc h →
      wpOperV C l.toArray o s h fun v h' => WPix C l.toArray Q (Region.linearise.go .any l.toArray fuel (n / (Region.ready .any l.toArray L).length) (L.setIfInBounds i true) []) (put s o.dst v) h' := by
     intro m u hoI hoE hst
     simp only [stepE, ho', need_eq] at hst
     rw [← wpOperV_congr (hsee agc ag hik ho' fun j hj hbt _ => ?_)]
     ·refine wpOperV_mono hst fun v h' ⟨hre, hnx⟩ => ?_
      have agV := ag.upd' (i := i) (by simpa using hun') v
      have ag0V := ag0.upd' (i := i) (by simp only [hic]; rfl) v
      have agcV := agc.upd' (i := i) (by simp only [hic, hiX]; rfl) v
      have e1 := agn agV
      simp only [if_true] at e1
      refine ih _ _ _ u (fun j => if j = i then v else V j) (put tc o.dst v) h' (i :: X) (by simpa using hs) hls (cl.set ho hrd) hlt' (fun j hj => ?_) hoE e1 ag0V ?_ (fun p op hp hpc hpl hop => ?_) hnx
      ·by_cases hji : i = j
       ·subst hji; simp [h3]
       ·rw [getD_set_ne false hji, hX j hj]
        rw [List.contains_cons]
        have : (j == i) = false := by simp; exact fun e => hji e.symm
        rw [this, Bool.false_or]
      ·have := D.ag_put (V := fun j => if j = i then v else V j) (p' := fun j => !es.contains j || (i :: X).contains j) agcV ho hik fun j hj => by
        rw [List.contains_cons, Bool.or_comm (j == i), Bool.or_assoc]
       simpa using this
      ·have hpi : i ≠ p := fun e => by subst e; rw [hic] at hpc; cases hpc
       rw [getD_set_ne false hpi] at hpl
       simp only [if_neg (fun e => hpi e.symm : ¬ p = i)]
       simp only [okI, Bool.and_eq_true, List.all_eq_true, List.mem_range, Bool.or_eq_true, Bool.not_eq_true', decide_eq_true_eq] at hoI
       obtain ⟨⟨⟨⟨⟨_, _⟩, _⟩, hms⟩, hml⟩, hmk⟩ := hoI
       rcases hms p hp with (((h4 | h4) | h4) | h4) | h4
       ·rw [hpc] at h4; cases h4
       ·
        obtain ⟨V2, hv2, hK2⟩ := WPp_vals _ _ hre
        rw [wrM_eq] at hK2
        have hmlen : m.length ≤ l.length := by omega
        have hget : ∀ q oq, (maskL m l)[q]? = some oq → oq = nopO ∨ (m.getD q false = true ∧ l[q]? = some oq) := fun q oq hq => by
         rw [maskL_get] at hq
         split at hq
         ·rename_i h5 h6; cases hq; exact .inr ⟨by simp [List.getD, h5], h6⟩
         ·cases hq; exact .inl rfl
         ·cases hq
        have hgm : ∀ q oq, m.getD q false = true → l[q]? = some oq → (maskL m l)[q]? = some oq := fun q oq h5 h6 => by
         rw [maskL_get]
         have : m[q]? = some true := by
          cases hm : m[q]? with
          | none => simp [List.getD, hm] at h5
          | some b => simp [List.getD, hm] at h5; subst h5; rfl
         rw [this, h6]
        have hmP : ∀ q, m.getD q false = true → q < k ∧ es.contains q = false := fun q h5 => by
         have hq : q < m.length := by
          apply Classical.byContradiction
          intro hn
          rw [List.getD, List.getElem?_eq_none (by omega)] at h5; cases h5
         rcases hml q hq with h6 | h6
         ·rw [h5] at h6; cases h6
         ·exact h6
        have hu : ∀ (a b : Nat) (oa ob : Oper) (d : Nat), (maskL m l)[a]? = some oa → (maskL m l)[b]? = some ob → oa.dst = some d → ob.dst = some d → a = b := fun a b oa ob d h5 h6 h7 h8 => by
         rcases hget a oa h5 with rfl | ⟨ha, hoa⟩
         ·cases h7
         rcases hget b ob h6 with rfl | ⟨hb', hob⟩
         ·cases h8
         rcases Nat.lt_trichotomy a b with h9 | h9 | h9
         ·exact absurd h8 ((D.pre a b oa ob (by simpa using hoa) (by simpa using hob) h9 (hmP b hb').1).2 d h7)
         ·exact h9
         ·exact absurd h7 ((D.pre b a ob oa (by simpa using hob) (by simpa using hoa) h9 (hmP a ha).1).2 d h8)
        have hT := fun q (hq : q ≤ (maskL m l).length) => T_char (V := V2) (maskL m l) t0 hu q hq
        have hV2 : ∀ q oq d, (maskL m l)[q]? = some oq → oq.dst = some d → V2 q = t0 d := fun q oq d h5 h6 => by
         have h7 := agrL_mem hK2 d (dst_mem h5 h6)
         rw [(hT _ (Nat.le_refl _)).1 q oq d (List.getElem?_eq_some_iff.1 h5).1 h5 h6] at h7
         exact h7
        have hTt : ∀ q, q ≤ (maskL m l).length → Av.T V2 (maskL m l) t0 q = t0 := fun q hq => by
         funext d
         by_cases hx : ∃ (a : Nat) (oa : Oper), a < q ∧ (maskL m l)[a]? = some oa ∧ oa.dst = some d
         ·obtain ⟨a, oa, h5, h6, h7⟩ := hx
          rw [(hT q hq).1 a oa d h5 h6 h7, hV2 a oa d h6 h7]
         ·exact (hT q hq).2 d fun a oa h5 h6 h7 => hx ⟨a, oa, h5, h6, h7⟩
        have hg := hgm p op h4 hop
        have := hv2 p op hg
        rw [hTt p (Nat.le_of_lt (List.getElem?_eq_some_iff.1 hg).1)] at this
        obtain ⟨d, hd⟩ := Option.isSome_iff_exists.1 (c7 p op hp hpc hop)
        have h5 : V2 p = V p := by
         rw [hV2 p op d hg hd]
         exact ag0.1 p op d hp (by simpa using hop) (by simp only [hpc]; rfl) hd
        rw [h5] at this
        exact this
       ·
        rw [hb p h4.1 h4.2] at hpl; cases hpl
       ·
        obtain ⟨x, hxe, hx⟩ := List.any_eq_true.1 h4
        simp only [Bool.and_eq_true, decide_eq_true_eq] at hx
        have hxe' : es.contains x = true := by simpa using hxe
        have hxk := hes x hxe'
        have hxl : L.getD x false = true := by rw [hX x hxe']; exact hx.1.1
        have hox : l.toArray[x]? = some (l.toArray[x]'(by simp; omega)) := Array.getElem?_eq_getElem (by simp; omega)
        have := D.bef cl x _ hox hxk p hx.1.2 hx.2 (fun e he hbd => cl x _ hox hxl e he hbd)
        rw [this] at hpl; cases hpl
       ·rw [List.getElem?_toArray, hop] at h4
        exact free_swap (by simpa using h4) (hv p op hp hpc hpl hop) h'
     ·have hLj := hb j hj hbt
      refine ⟨?_, hLj⟩
      cases hc : es.contains j with
      | false => rfl
      | true => rw [← hX j hc, hLj]; rfl
    have other : ∀ is : List Nat, okO (Region.before l.toArray) es X is = true → is.contains i = true := fun is ho => by
     simp only [okO, List.all_eq_true, Bool.or_eq_true] at ho
     rcases ho i (by simpa using hic) with (h4 | h4) | h4
     ·rw [hiX] at h4; cases h4
     ·exact h4
     ·obtain ⟨y, hy, h5⟩ := List.any_eq_true.1 h4
      simp only [Bool.and_eq_true, Bool.not_eq_true', decide_eq_true_eq] at h5
      have := hb y h5.1.2 h5.2
      rw [hX y (by simpa using hy), h5.1.1] at this; cases this
    cases tr with
    | fin => exact absurd rfl hfin
    | one i' m u =>
     simp only [okE, Bool.and_eq_true] at hok
     have : i = i' := by simpa using other [i'] hok.1.2
     subst this
     exact eff m u hok.1.1 hok.2 hw
    | two i' m u j' m' u' =>
     simp only [okE, Bool.and_eq_true] at hok
     have : i = i' ∨ i = j' := by simpa using other [i', j'] hok.1.1.2
     rcases this with rfl | rfl
     ·exact eff m u hok.1.1.1.1 hok.1.2 hw.1
     ·exact eff m' u' hok.1.1.1.2 hok.2 hw.2
theorem WP_draw8 {id : Nat} {l : List Oper} {Q : Exit → Env → Heap → Prop} (k : Nat) (es : List Nat) (m0 : List Bool) (tr : ET) (hok : chkE l k es m0 tr = true) (hm : C.P.follows .mixedOrders = true)
  (hA : detGo .any l.toArray (l.length - k) (listK l.length k) = some (List.range' k (l.length - k)))
  (hh : WPp C l.toArray (maskL m0 l) t h fun t0 => WPe C Q l k t0 tr t0 h) : WP C (.region id l.toArray true) Q t h := by
 unfold chkE at hok
 simp only [Bool.and_eq_true, decide_eq_true_eq, beq_iff_eq] at hok
 obtain ⟨⟨⟨⟨⟨⟨hpre, hkn⟩, hc4⟩, hc7⟩, hes⟩, hm0⟩, hE⟩ := hok
 have D := preOkG_spec hpre
 simp only [List.all_eq_true, List.mem_range] at hc4 hc7
 have c4 : ∀ (i j : Nat) (oi oj : Oper) (d : Nat), i < k → j < k → l[i]? = some oi → l[j]? = some oj → oj.dst = some d → d ∈ oi.looksAt l.toArray → j < i ∧ ((Region.before l.toArray).getD i 0).testBit j = true ∧ (es.contains i = true ∨ es.contains j = false) := by
  intro i j oi oj d hi hj hoi hoj hd hl
  have := hc4 i hi j hj
  rw [List.getElem?_toArray, List.getElem?_toArray, hoi, hoj] at this
  simp only [hd, Bool.or_eq_true, Bool.and_eq_true, Bool.not_eq_true', decide_eq_true_eq] at this
  rcases this with h1 | h1
  ·have : (oi.looksAt l.toArray).contains d = true := by simpa using hl
   rw [h1] at this; cases this
  ·exact ⟨h1.1.1, h1.1.2, h1.2⟩
 have c7 : ∀ (i : Nat) (o : Oper), i < k → es.contains i = false → l[i]? = some o → o.dst.isSome = true := by
  intro i o hi he ho
  have := hc7 i hi
  rw [List.getElem?_toArray, ho, he] at this
  simpa using this
 have hes' : ∀ e, es.contains e = true → e < k := fun e he => by
  have := List.all_eq_true.1 hes e (by simpa using he)
  simpa using this
 obtain ⟨V, hv, hK⟩ := WPp_vals _ _ hh
 have hm0l : m0.length = k := by rw [hm0]; simp
 have hml := maskL_len m0 l (by omega)
 have hm0g : ∀ q, q < k → m0[q]? = some (!es.contains q) := fun q hq => by rw [hm0]; simp [hq]
 have hget : ∀ q oq, (maskL m0 l)[q]? = some oq → oq = nopO ∨ (q < k ∧ es.contains q = false ∧ l[q]? = some oq) := fun q oq hq => by
  have hqk : q < k := by have := (List.getElem?_eq_some_iff.1 hq).1; omega
  rw [maskL_get, hm0g q hqk] at hq
  cases hc : es.contains q with
  | true => rw [hc] at hq; cases hl : l[q]? with
   | none => rw [hl] at hq; cases hq
   | some o => rw [hl] at hq; cases hq; exact .inl rfl
  | false => rw [hc] at hq; cases hl : l[q]? with
   | none => rw [hl] at hq; cases hq
   | some o => rw [hl] at hq; cases hq; exact .inr ⟨hqk, rfl, rfl⟩
 have hgm : ∀ q oq, q < k → es.contains q = false → l[q]? = some oq → (maskL m0 l)[q]? = some oq := fun q oq hq hc h6 => by
  rw [maskL_get, hm0g q hq, hc, h6]; rfl
 have hu : ∀ (a b : Nat) (oa ob : Oper) (d : Nat), (maskL m0 l)[a]? = some oa → (maskL m0 l)[b]? = some ob → oa.dst = some d → ob.dst = some d → a = b := fun a b oa ob d h5 h6 h7 h8 => by
  rcases hget a oa h5 with rfl | ⟨ha, _, hoa⟩
  ·cases h7
  rcases hget b ob h6 with rfl | ⟨hb', _, hob⟩
  ·cases h8
  rcases Nat.lt_trichotomy a b with h9 | h9 | h9
  ·exact absurd h8 ((D.pre a b oa ob (by simpa using hoa) (by simpa using hob) h9 hb').2 d h7)
  ·exact h9
  ·exact absurd h7 ((D.pre b a ob oa (by simpa using hob) (by simpa using hoa) h9 ha).2 d h8)
 have hT := fun q (hq : q ≤ (maskL m0 l).length) => T_char (V := V) (maskL m0 l) t hu q hq
 generalize ht0 : Av.T V (maskL m0 l) t (maskL m0 l).length = t0 at hK
 have ag0 : Ag l.toArray k V t (fun j => !es.contains j) t0 := by
  rw [← ht0]
  refine ⟨fun j o x hj ho hp hd => ?_, fun x hn => ?_⟩
  ·have hc : es.contains j = false := by simpa using hp
   exact (hT _ (Nat.le_refl _)).1 j o x (by omega) (hgm j o hj hc (by simpa using ho)) hd
  ·refine (hT _ (Nat.le_refl _)).2 x fun j o hj ho hd => ?_
   rcases hget j o ho with rfl | ⟨h1, h2, h3⟩
   ·cases hd
   ·exact hn j o h1 (by simpa using h3) (by simp only [h2]; rfl) hd
 have main : ∀ n, WPix C l.toArray Q (Region.linearise .any l.toArray n) t h := fun n => by
  unfold Region.linearise
  refine pre_sound8 D hkn c4 c7 hes' hA _ n _ t tr V t0 h [] (by simp) ?_ (fun j oj hj hl => ?_) (fun j hj hl => ?_) (fun j hj => ?_) hE (Ag.start _ _ _ _ fun j hj => ?_) ag0 (ag0.congr' fun j hj => by simp) (fun i o hi hc _ ho KK hkk => ?_) hK
  ·unfold left
   have : (List.range l.toArray.size).filter (fun i => !(Array.replicate l.toArray.size false).getD i true) = List.range l.toArray.size := by
    rw [List.filter_eq_self]
    intro i hi
    have := List.mem_range.1 hi
    simp at this ⊢
    simp [this]
   rw [this, List.length_range]
  ·have h8 := (Array.getElem?_eq_some_iff.1 hj).1
   simp at h8 hl
   simp [h8] at hl
  ·simp at hl
   simp [hj] at hl
  ·have := hes' j hj
   have : j < l.length := by omega
   simp [this]
  ·have : j < l.length := by omega
   simp [this]
  ·have hg := hgm i o hi hc ho
   have := hv i o hg KK hkk
   have hil : i ≤ (maskL m0 l).length := by omega
   rw [wpOperV_congr (t2 := t0) fun d hd => ?_] at this
   ·exact this
   ·by_cases hx : ∃ (j : Nat) (oj : Oper), j < k ∧ l[j]? = some oj ∧ oj.dst = some d
    ·obtain ⟨j, oj, h1, h2, h3⟩ := hx
     obtain ⟨h4, _, h5⟩ := c4 i j o oj d hi h1 ho h2 h3 hd
     have hcj : es.contains j = false := by
      rcases h5 with h5 | h5
      ·rw [hc] at h5; cases h5
      ·exact h5
     rw [(hT i hil).1 j oj d h4 (hgm j oj h1 hcj h2) h3, ag0.1 j oj d h1 (by simpa using h2) (by simp only [hcj]; rfl) h3]
    ·rw [(hT i hil).2 d fun j oj h1 h2 h3 => ?_, ag0.2 d fun j oj h1 h2 _ h3 => hx ⟨j, oj, h1, by simpa using h2, h3⟩]
     rcases hget j oj h2 with rfl | ⟨h5, _, h6⟩
     ·cases h3
     ·exact hx ⟨j, oj, h5, h6, h3⟩
 show ∀ tp, WPix C l.toArray Q (Region.schedule (C.P.follows .mixedOrders) l.toArray tp) t h
 intro tp
 unfold Region.schedule
 rw [hm]
 simp only [Bool.true_or, if_true]
 exact main _
variable {l : List Oper} {Q : Exit → Env → Heap → Prop} {k : Nat} {t0 tc : Env} {ops : Array Oper} {dst : Option Tmp} {ty : TypeId} {pos : String} {aft : Array Edge} {K : AVal → Heap → Prop}
@[congr] theorem stepE_congr (i : Nat) (m : List Bool) (P : Env → Heap → Prop) {h h' : Heap} (e : h = h') : stepE C l t0 i m P tc h = stepE C l t0 i m P tc h' := by rw [e]
@[congr] theorem WPe_congr (tr : ET) {h h' : Heap} (e : h = h') : WPe C Q l k t0 tr tc h = WPe C Q l k t0 tr tc h' := by rw [e]
@[go_sem] theorem stepE_eq (i : Nat) (m : List Bool) (P : Env → Heap → Prop) : stepE C l t0 i m P tc h = need (l[i]?) fun o => wpOperV C l.toArray o tc h fun v h' => (WPp C l.toArray (maskL m l) t0 h' fun t'' => agrL (wrM m l) t'' t0) ∧ P (put tc o.dst v) h' := (rfl)
attribute [go_sem] List.drop_succ_cons List.drop_zero
variable {t : Env} {e : TypeId} {T : TypeId}
@[go_sem] theorem wpV_alloc : wpOperV C ops ⟨dst, .alloc e, ty, pos, aft, none⟩ t h K =
  need (zroT C.P e) fun z => 0 < z.cells.length ∧ z.cells.all AVal.sto = true ∧ z.lies = true ∧ K (.hp h.length 0 0 0) (h ++ [.row e z.cells.length 0 [z]]) := (rfl)
@[go_sem] theorem wpV_store (x y : Operand) : wpOperV C ops ⟨dst, .store T x y, ty, pos, aft, none⟩ t h K = storeK C T (aev C.G t x) (aev C.G t y) h (fun h' => K undefA h') := (rfl)
@[go_sem] theorem WPp_nop (rest : List Oper) (K : Env → Prop) : WPp C ops (nopO :: rest) t h K = WPp C ops rest t h K := WPp_move (dst := none) (.const (.bool false))
@[congr] theorem WPp_congrL {l l' : List Oper} {t t' : Env} {h h' : Heap} {K : Env → Prop} (e1 : l = l') (e2 : t = t') (e3 : h = h') : WPp C ops l t h K = WPp C ops l' t' h' K := by rw [e1, e2, e3]
@[go_sem] theorem WPp_field (T : TypeId) (x : Operand) (f : Nat) (rest : List Oper) (K : Env → Prop) : WPp C ops (⟨dst, .field T x f, ty, pos, aft, none⟩ :: rest) t h K =
  need (fOff C.P T f) fun q => need (match aev C.G t x with | .agg cs => pickT C.P q.2.1 (cs.drop q.1) | _ => none) fun v => WPp C ops rest (put t dst v) h K :=
 WPp_det (E := fun k => need (fOff C.P T f) fun q => need (match aev C.G t x with | .agg cs => pickT C.P q.2.1 (cs.drop q.1) | _ => none) k) (Det.need _ fun q => Det.need' _) fun KK => by
  simp only [wpOp]; congr; funext ⟨o, a, b⟩; simp only []; generalize aev C.G t x = v; cases v <;> rfl
@[go_sem] theorem wpV_call (f : Operand) (args : Array Operand) (Ts : Array TypeId) : wpOperV C ops ⟨dst, .call ⟨.value f, args, Ts⟩, ty, pos, aft, none⟩ t h K = callK C (aev C.G t f) (args.toList.map (aev C.G t)) h K := by
 show wpCall C ⟨.value f, args, Ts⟩ t h K = _
 simp only [wpCall, callK]; generalize aev C.G t f = v; cases v <;> first | rfl | (rename_i f _ _; cases f <;> rfl)
@[go_sem] theorem wpV_build (parts : Array (Nat × Operand)) : wpOperV C ops ⟨dst, .build T parts, ty, pos, aft, none⟩ t h K = need (buildA C T (parts.toList.map fun q => (q.1, aev C.G t q.2))) fun v => K v h := by
 show wpOp C (.build T parts) t h K = _
 have := WPl_build (C := C) (ops := #[]) (Q := fun _ t h => K (t 0) h) (rest := []) (t := t) (h := h) (dst := some 0) (ty := 0) (pos := "") (aft := #[]) T parts
 simpa [WPl, wpOper, put, upd] using this
theorem WPe_finI (g : WPl C l.toArray Q (l.drop k) tc h) : WPe C Q l k t0 .fin tc h := g
theorem WPe_oneI {i : Nat} {m : List Bool} {s : ET} (g : stepE C l t0 i m (WPe C Q l k t0 s) tc h) : WPe C Q l k t0 (.one i m s) tc h := g
theorem WPe_twoI {i j : Nat} {m m' : List Bool} {s u : ET} (g : stepE C l t0 i m (WPe C Q l k t0 s) tc h) (g' : stepE C l t0 j m' (WPe C Q l k t0 u) tc h) : WPe C Q l k t0 (.two i m s j m' u) tc h := ⟨g, g'⟩
end
end Go.Av
namespace Go.Av
open Go Go.Proofs Go.RowKit
structure Ev where
 kind : Int
 a : Int
 b : Int
 n : Int
 s : Bs
 t : Bs
 u : Bs
def Ev.av (e : Ev) : AVal := .agg [.int .i64 e.kind, .int .i64 e.a, .int .i64 e.b, .int .i64 e.n, .str e.s, .str e.t, .str e.u]
structure Fo where
 id : Int
 inn : Int
 name : Bs
structure Fe where
 id : Int
 inn : Int
 url : Bs
 title : Bs
structure It where
 id : Int
 feed : Int
 date : Int
 guid : Bs
 title : Bs
 link : Bs
 read : Bool
 star : Bool
 tags : List Bs
structure Se where
 id : Int
 name : Bs
 query : Bs
def Fo.av (f : Fo) : AVal := .agg [.int .i64 f.id, .int .i64 f.inn, .str f.name]
def Fe.av (f : Fe) : AVal := .agg [.int .i64 f.id, .int .i64 f.inn, .str f.url, .str f.title]
def It.av (t : It) : AVal := .agg [.int .i64 t.id, .int .i64 t.feed, .int .i64 t.date, .str t.guid, .str t.title, .str t.link, .bool t.read, .bool t.star, .sl 1 (t.tags.map .str)]
def Se.av (q : Se) : AVal := .agg [.int .i64 q.id, .str q.name, .str q.query]
def Fo.z : Fo := ⟨0, 0, []⟩
def Fe.z : Fe := ⟨0, 0, [], []⟩
def It.z : It := ⟨0, 0, 0, [], [], [], false, false, []⟩
def Se.z : Se := ⟨0, [], []⟩
@[go_sem] theorem Ev.av_eq (e : Ev) : e.av = .agg [.int .i64 e.kind, .int .i64 e.a, .int .i64 e.b, .int .i64 e.n, .str e.s, .str e.t, .str e.u] := (rfl)
@[go_sem] theorem Fo.av_eq (f : Fo) : f.av = .agg [.int .i64 f.id, .int .i64 f.inn, .str f.name] := (rfl)
@[go_sem] theorem Fe.av_eq (f : Fe) : f.av = .agg [.int .i64 f.id, .int .i64 f.inn, .str f.url, .str f.title] := (rfl)
@[go_sem] theorem It.av_eq (t : It) : t.av = .agg [.int .i64 t.id, .int .i64 t.feed, .int .i64 t.date, .str t.guid, .str t.title, .str t.link, .bool t.read, .bool t.star, .sl 1 (t.tags.map .str)] := (rfl)
@[go_sem] theorem Se.av_eq (q : Se) : q.av = .agg [.int .i64 q.id, .str q.name, .str q.query] := (rfl)
@[go_sem] theorem v1_fo (o : Option Fo) : v1 (.agg [.int .i64 0, .int .i64 0, .str []]) Fo.av o = (o.getD Fo.z).av := v1_d (d := Fo.z) rfl o
@[go_sem] theorem v1_fe (o : Option Fe) : v1 (.agg [.int .i64 0, .int .i64 0, .str [], .str []]) Fe.av o = (o.getD Fe.z).av := v1_d (d := Fe.z) rfl o
@[go_sem] theorem v1_it (o : Option It) : v1 (.agg [.int .i64 0, .int .i64 0, .int .i64 0, .str [], .str [], .str [], .bool false, .bool false, .sl 1 []]) It.av o = (o.getD It.z).av := v1_d (d := It.z) rfl o
@[go_sem] theorem v1_se (o : Option Se) : v1 (.agg [.int .i64 0, .str [], .str []]) Se.av o = (o.getD Se.z).av := v1_d (d := Se.z) rfl o
@[go_sem] theorem mp_fo (c : Nat) (l : ML Int Fo) (x i n : Int) (s : Bs) : putM (encM iA Fo.av l) c (.int .i64 x) (.agg [.int .i64 i, .int .i64 n, .str s]) (ixM l x) = .mp (encM iA Fo.av (upM l c x ⟨i, n, s⟩)) (ckM l c x) := mp_i c l x ⟨i, n, s⟩ rfl
@[go_sem] theorem mp_fe (c : Nat) (l : ML Int Fe) (x i n : Int) (s t : Bs) : putM (encM iA Fe.av l) c (.int .i64 x) (.agg [.int .i64 i, .int .i64 n, .str s, .str t]) (ixM l x) = .mp (encM iA Fe.av (upM l c x ⟨i, n, s, t⟩)) (ckM l c x) := mp_i c l x ⟨i, n, s, t⟩ rfl
@[go_sem] theorem mp_it (c : Nat) (l : ML Int It) (x i f d : Int) (g t u : Bs) (r s : Bool) (ts : List Bs) : putM (encM iA It.av l) c (.int .i64 x) (.agg [.int .i64 i, .int .i64 f, .int .i64 d, .str g, .str t, .str u, .bool r, .bool s, .sl 1 (ts.map .str)]) (ixM l x) = .mp (encM iA It.av (upM l c x ⟨i, f, d, g, t, u, r, s, ts⟩)) (ckM l c x) := mp_i c l x ⟨i, f, d, g, t, u, r, s, ts⟩ rfl
@[go_sem] theorem mp_it0 (c : Nat) (l : ML Int It) (x i f d : Int) (g t u : Bs) (r s : Bool) : putM (encM iA It.av l) c (.int .i64 x) (.agg [.int .i64 i, .int .i64 f, .int .i64 d, .str g, .str t, .str u, .bool r, .bool s, .sl 1 []]) (ixM l x) = .mp (encM iA It.av (upM l c x ⟨i, f, d, g, t, u, r, s, []⟩)) (ckM l c x) := mp_i c l x ⟨i, f, d, g, t, u, r, s, []⟩ rfl
@[go_sem] theorem mp_se (c : Nat) (l : ML Int Se) (x i : Int) (s t : Bs) : putM (encM iA Se.av l) c (.int .i64 x) (.agg [.int .i64 i, .str s, .str t]) (ixM l x) = .mp (encM iA Se.av (upM l c x ⟨i, s, t⟩)) (ckM l c x) := mp_i c l x ⟨i, s, t⟩ rfl
@[go_sem] theorem iA_eq (n : Int) : iA n = .int .i64 n := (rfl)
structure PS where
 clock : Int
 fo : ML Int Fo
 fe : ML Int Fe
 it : ML Int It
 se : ML Int Se
 nm : ML (Int × Bs) Int
 pl : ML Bs Int
 gu : ML (Int × Bs) Int
 he : ML Int Int
 c1 : Nat
 c2 : Nat
 c3 : Nat
 c4 : Nat
 c5 : Nat
 c6 : Nat
 c7 : Nat
 c8 : Nat
 t1 : Int
 t2 : Int
 t3 : Int
 t4 : Int
def PS.row (n : Nat) (s : PS) : AVal := .agg [.int .i64 s.clock, .hm n, .hm (n + 1), .hm (n + 2), .hm (n + 3), .hm (n + 4), .hm (n + 5), .hm (n + 6), .hm (n + 7), .int .i64 s.t1, .int .i64 s.t2, .int .i64 s.t3, .int .i64 s.t4]
def PS.bl (n : Nat) (s : PS) : List Blk :=
 [.mp (encM iA Fo.av s.fo) s.c1, .mp (encM iA Fe.av s.fe) s.c2, .mp (encM iA It.av s.it) s.c3, .mp (encM iA Se.av s.se) s.c4,
 .mp (encM nA iA s.nm) s.c5, .mp (encM AVal.str iA s.pl) s.c6, .mp (encM nA iA s.gu) s.c7, .mp (encM iA iA s.he) s.c8, .row 118 13 0 [s.row n]]
def PS.z : PS := ⟨0, [], [], [], [], [], [], [], [], 0, 0, 0, 0, 0, 0, 0, 0, 0, 0, 0, 0⟩
def so (H : Heap) (n : Nat) (s : PS) : Heap := ov H n (s.bl n)
section
variable {H : Heap} {n : Nat} {s : PS}
@[go_sem] theorem so_row (hn : n + 9 ≤ H.length) : getRow (so H n s) (n + 8) 0 = some (118, 13, [.agg [.int .i64 s.clock, .hm n, .hm (n + 1), .hm (n + 2), .hm (n + 3), .hm (n + 4), .hm (n + 5), .hm (n + 6), .hm (n + 7), .int .i64 s.t1, .int .i64 s.t2, .int .i64 s.t3, .int .i64 s.t4]]) := by
 unfold so; rw [ovR_in 0 hn (by decide +revert : 8 < 9)]; rfl
@[go_sem] theorem so_m1 (hn : n + 9 ≤ H.length) : mapAt (so H n s) n = some (encM iA Fo.av s.fo, s.c1) := by unfold so; rw [ovM_in0 hn (by simp [PS.bl])]; rfl
@[go_sem] theorem so_m2 (hn : n + 9 ≤ H.length) : mapAt (so H n s) (n + 1) = some (encM iA Fe.av s.fe, s.c2) := by unfold so; rw [ovM_in hn (by simp [PS.bl])]; rfl
@[go_sem] theorem so_m3 (hn : n + 9 ≤ H.length) : mapAt (so H n s) (n + 2) = some (encM iA It.av s.it, s.c3) := by unfold so; rw [ovM_in hn (by simp [PS.bl])]; rfl
@[go_sem] theorem so_m4 (hn : n + 9 ≤ H.length) : mapAt (so H n s) (n + 3) = some (encM iA Se.av s.se, s.c4) := by unfold so; rw [ovM_in hn (by simp [PS.bl])]; rfl
@[go_sem] theorem so_m5 (hn : n + 9 ≤ H.length) : mapAt (so H n s) (n + 4) = some (encM nA iA s.nm, s.c5) := by unfold so; rw [ovM_in hn (by simp [PS.bl])]; rfl
@[go_sem] theorem so_m6 (hn : n + 9 ≤ H.length) : mapAt (so H n s) (n + 5) = some (encM AVal.str iA s.pl, s.c6) := by unfold so; rw [ovM_in hn (by simp [PS.bl])]; rfl
@[go_sem] theorem so_m7 (hn : n + 9 ≤ H.length) : mapAt (so H n s) (n + 6) = some (encM nA iA s.gu, s.c7) := by unfold so; rw [ovM_in hn (by simp [PS.bl])]; rfl
@[go_sem] theorem so_m8 (hn : n + 9 ≤ H.length) : mapAt (so H n s) (n + 7) = some (encM iA iA s.he, s.c8) := by unfold so; rw [ovM_in hn (by simp [PS.bl])]; rfl
@[go_sem] theorem so_s1 (hn : n + 9 ≤ H.length) (l : ML Int Fo) (c : Nat) : (so H n s).set n (.mp (encM iA Fo.av l) c) = so H n { s with fo := l, c1 := c } := by unfold so; rw [ov_set0 _ hn (by simp [PS.bl])]; rfl
@[go_sem] theorem so_s2 (hn : n + 9 ≤ H.length) (l : ML Int Fe) (c : Nat) : (so H n s).set (n + 1) (.mp (encM iA Fe.av l) c) = so H n { s with fe := l, c2 := c } := by unfold so; rw [ov_set _ hn (by simp [PS.bl])]; rfl
@[go_sem] theorem so_s3 (hn : n + 9 ≤ H.length) (l : ML Int It) (c : Nat) : (so H n s).set (n + 2) (.mp (encM iA It.av l) c) = so H n { s with it := l, c3 := c } := by unfold so; rw [ov_set _ hn (by simp [PS.bl])]; rfl
@[go_sem] theorem so_s4 (hn : n + 9 ≤ H.length) (l : ML Int Se) (c : Nat) : (so H n s).set (n + 3) (.mp (encM iA Se.av l) c) = so H n { s with se := l, c4 := c } := by unfold so; rw [ov_set _ hn (by simp [PS.bl])]; rfl
@[go_sem] theorem so_s5 (hn : n + 9 ≤ H.length) (l : ML (Int × Bs) Int) (c : Nat) : (so H n s).set (n + 4) (.mp (encM nA iA l) c) = so H n { s with nm := l, c5 := c } := by unfold so; rw [ov_set _ hn (by simp [PS.bl])]; rfl
@[go_sem] theorem so_s6 (hn : n + 9 ≤ H.length) (l : ML Bs Int) (c : Nat) : (so H n s).set (n + 5) (.mp (encM AVal.str iA l) c) = so H n { s with pl := l, c6 := c } := by unfold so; rw [ov_set _ hn (by simp [PS.bl])]; rfl
@[go_sem] theorem so_s7 (hn : n + 9 ≤ H.length) (l : ML (Int × Bs) Int) (c : Nat) : (so H n s).set (n + 6) (.mp (encM nA iA l) c) = so H n { s with gu := l, c7 := c } := by unfold so; rw [ov_set _ hn (by simp [PS.bl])]; rfl
@[go_sem] theorem so_s8 (hn : n + 9 ≤ H.length) (l : ML Int Int) (c : Nat) : (so H n s).set (n + 7) (.mp (encM iA iA l) c) = so H n { s with he := l, c8 := c } := by unfold so; rw [ov_set _ hn (by simp [PS.bl])]; rfl
@[go_sem] theorem so_s9 (hn : n + 9 ≤ H.length) (k t1 t2 t3 t4 : Int) : (so H n s).set (n + 8) (.row 118 13 0 [.agg [.int .i64 k, .hm n, .hm (n + 1), .hm (n + 2), .hm (n + 3), .hm (n + 4), .hm (n + 5), .hm (n + 6), .hm (n + 7), .int .i64 t1, .int .i64 t2, .int .i64 t3, .int .i64 t4]]) = so H n { s with clock := k, t1 := t1, t2 := t2, t3 := t3, t4 := t4 } := by unfold so; rw [ov_set _ hn (by simp [PS.bl])]; rfl
@[go_sem] theorem so_app (hn : n + 9 ≤ H.length) (j : Heap) : so H n s ++ j = so (H ++ j) n s := ov_app hn
@[go_sem] theorem so_len (hn : n + 9 ≤ H.length) : (so H n s).length = H.length := ov_len hn
@[go_sem] theorem so_get (hn : n + 9 ≤ H.length) {p : Nat} (hp : n + 9 ≤ p) : (so H n s)[p]? = H[p]? := ov_out hn (.inr hp)
@[go_sem] theorem so_row' (hn : n + 9 ≤ H.length) {p : Nat} (v : Nat) (hp : n + 9 ≤ p) : getRow (so H n s) p v = getRow H p v := ovR_out v hn (.inr hp)
@[go_sem] theorem so_set' (hn : n + 9 ≤ H.length) {p : Nat} (b : Blk) (hp : n + 9 ≤ p) : (so H n s).set p b = so (H.set p b) n s := ov_setout b hn (.inr hp)
@[go_sem] theorem so_eql (hn : n + 9 ≤ H.length) : abin Tryz.prog (so H n s) .eql 27 (.hp (n + 8) 0 0 0) (.nil (.pointer none)) = some (.bool false) := by
 have hk : nilKind Tryz.prog 27 (.pointer none) = true := by kernel_rfl
 simp [abin, hk, aeqNil, so_row hn]
end
@[go_sem] theorem boxK_hm (e : TypeId) (p : Nat) (h : Heap) (k : Heap → Prop) : boxK e (.hm p) h k = k (h ++ [.row e 1 0 [.hm p]]) := by simp [boxK, AVal.cells, AVal.lies, AVal.sto]
attribute [go_sem] List.length_append List.length_cons List.length_nil
theorem clo_strs (N : Nat) (l : List Bs) : Clo N (.sl 1 (l.map .str)) := Clo.sl _ _ fun x hx => by obtain ⟨y, _, rfl⟩ := List.mem_map.1 hx; exact .str _
theorem It.clo (N : Nat) (t : It) : Clo N t.av := .agg _ fun x hx => by
 simp only [List.mem_cons, List.not_mem_nil, or_false] at hx
 rcases hx with rfl | rfl | rfl | rfl | rfl | rfl | rfl | rfl | rfl <;> first | exact .int _ _ | exact .str _ | exact .bool _ | exact clo_strs _ _
theorem encM_clo {κ α : Type} {ek : κ → AVal} {ev : α → AVal} {N c : Nat} (hk : ∀ x, Clo N (ek x)) (hv : ∀ x, Clo N (ev x)) (l : ML κ α) : CloB N (.mp (encM ek ev l) c) := fun e he => by
 obtain ⟨d, _, rfl⟩ := List.mem_map.1 he
 exact ⟨hk _, hv _⟩
theorem clo_flat {N : Nat} {cs : List AVal} (h : ∀ c ∈ cs, (∃ k n, c = .int k n) ∨ (∃ s, c = .str s) ∨ (∃ p, p < N ∧ c = .hm p)) : Clo N (.agg cs) := .agg _ fun x hx => by
 rcases h x hx with ⟨k, n, rfl⟩ | ⟨s, rfl⟩ | ⟨p, hp, rfl⟩
 ·exact .int _ _
 ·exact .str _
 ·exact .hm _ hp
theorem PS.clo {N n : Nat} (hn : n + 9 ≤ N) (s : PS) : ∀ b ∈ s.bl n, CloB N b := fun b hb => by
 have hi : ∀ x : Int, Clo N (iA x) := fun x => .int _ _
 have hna : ∀ x : Int × Bs, Clo N (nA x) := fun x => clo_flat fun c hc => by simp at hc; rcases hc with rfl | rfl <;> simp
 simp only [PS.bl, List.mem_cons, List.not_mem_nil, or_false] at hb
 rcases hb with rfl | rfl | rfl | rfl | rfl | rfl | rfl | rfl | rfl
 ·exact encM_clo hi (fun x => clo_flat fun c hc => by simp at hc; rcases hc with rfl | rfl | rfl <;> simp) _
 ·exact encM_clo hi (fun x => clo_flat fun c hc => by simp at hc; rcases hc with rfl | rfl | rfl | rfl <;> simp) _
 ·exact encM_clo hi (fun x => It.clo N x) _
 ·exact encM_clo hi (fun x => clo_flat fun c hc => by simp at hc; rcases hc with rfl | rfl | rfl <;> simp) _
 ·exact encM_clo hna hi _
 ·exact encM_clo (fun x => .str _) hi _
 ·exact encM_clo hna hi _
 ·exact encM_clo hi hi _
 ·exact CloB.row fun r hr => by
   simp at hr; subst hr
   exact clo_flat fun c hc => by
    simp only [PS.row, List.mem_cons, List.not_mem_nil, or_false] at hc
    rcases hc with rfl | rfl | rfl | rfl | rfl | rfl | rfl | rfl | rfl | rfl | rfl | rfl | rfl <;> simp <;> omega
theorem so_fin {H j : Heap} {n : Nat} {s s' : PS} {R : AVal → Heap → Prop} {r : AVal} (hn : n + 9 ≤ H.length) (hc : Clo H.length r) (hR : R r (so H n s')) : Fin (so H n s) (so (H ++ j) n s') R r := fin_ov hn rfl (PS.clo hn s') hc hR
theorem so_fin0 {H : Heap} {n : Nat} {s s' : PS} {R : AVal → Heap → Prop} {r : AVal} (hn : n + 9 ≤ H.length) (hc : Clo H.length r) (hR : R r (so H n s')) : Fin (so H n s) (so H n s') R r := fin_ov0 hn rfl (PS.clo hn s') hc hR
end Go.Av
namespace Go.Av
open Go Go.Proofs Go.RowKit Go.ChangeShapes Go.WideShapes
set_option maxRecDepth 100000
section
variable {H : Type} {enc : TypeId × Value → H} {W : World}
theorem kids_prog : Kids Tryz.prog (· < Tryz.prog.types.size) := kids_rows (by kernel_rfl) (by kernel_rfl)
theorem full_prog : ∀ t e, t < Tryz.prog.types.size → Tryz.prog.underlying t = some (.slice e) → 0 < Tryz.prog.cellsOf e := slices_full_of Tryz.prog (by kernel_rfl)
def fieldsOk (P : Program) (t : TypeId) (fs : List TypeId) : Bool := match P.underlying t with
 | some (.struct gs) => decide (gs.toList.map (·.type) = fs) && decide (P.cellsOf t = fs.length) && (gs.toList.zipIdx.all fun (f, i) => f.offset == i && P.cellsOf f.type == 1)
 | _ => false
theorem fieldsOk_spec {P : Program} {t : TypeId} {fs : List TypeId} (h : fieldsOk P t fs = true) : ∃ gs : Array Field, P.underlying t = some (.struct gs) ∧ gs.size = fs.length ∧ P.cellsOf t = gs.size ∧
  (∀ (j : Nat) (f : Field), gs[j]? = some f → f.offset = j ∧ P.cellsOf f.type = 1) ∧ ∀ (j : Nat) (T : TypeId), fs[j]? = some T → ∃ f, gs[j]? = some f ∧ f.type = T := by
 unfold fieldsOk at h
 split at h
 ·rename_i gs hg
  simp only [Bool.and_eq_true, decide_eq_true_eq, List.all_eq_true] at h
  obtain ⟨⟨h1, h2⟩, h3⟩ := h
  have hl : gs.size = fs.length := by rw [← h1]; simp
  refine ⟨gs, hg, hl, by omega, fun j f hj => ?_, fun j T hT => ?_⟩
  ·have hm : (f, j) ∈ gs.toList.zipIdx := List.mem_zipIdx_iff_getElem?.2 (by simpa using hj)
   have := h3 _ hm
   simpa using this
  ·rw [← h1, List.getElem?_map] at hT
   obtain ⟨f, hf, rfl⟩ := Option.map_eq_some_iff.1 hT
   exact ⟨f, by simpa using hf, rfl⟩
 ·cases h
theorem rd_struct {P : Program} {n : Nat} {t : TypeId} {fs : List TypeId} (hf : fieldsOk P t fs = true) {cs : List Value} {x : DataW H × List MemPlace} (h : DataW.trod enc P W 0 (fun _ => true) true n t cs = some x) :
  ∃ (ds : List (DataW H)) (n' : Nat), n = n' + 1 ∧ x.1 = .agg ds ∧ cs.length = fs.length ∧ ds.length = fs.length ∧ ∀ (j : Nat) (T : TypeId), fs[j]? = some T → ∃ y, ds[j]? = some y.1 ∧ DataW.trod enc P W 0 (fun _ => true) true n' T [cs.getD j undef] = some y := by
 obtain ⟨gs, h1, h2, h3, h4, h5⟩ := fieldsOk_spec hf
 obtain ⟨xs, n', k1, k2, k3, k4, k5⟩ := rd_fields h1 h3 h4 h
 refine ⟨_, n', k1, k2, by omega, by simp; omega, fun j T hT => ?_⟩
 obtain ⟨f, hf1, rfl⟩ := h5 j T hT
 obtain ⟨y, hy, hy2⟩ := k5 j f hf1
 exact ⟨y, by simp [hy], hy2⟩
theorem rd_cell {P : Program} {n : Nat} {T : TypeId} {α : Type} {mk : α → AVal} {sz : α → Nat} (hr : Rd H enc P W n T (fun a => [mk a]) sz) {v : Value} {y : DataW H × List MemPlace} (h : DataW.trod enc P W 0 (fun _ => true) true n T [v] = some y) :
  ∃ a : α, (mk a).sto = true ∧ Rep W (lies0 W) [] (mk a) v ∧ sz a ≤ Go.Proofs.YtanjiiailjilbaaGreat.Rows.uptoBulk y.1 := by
 obtain ⟨a, _, h2, h3⟩ := hr _ _ h
 have := h2 0 (mk a) rfl
 exact ⟨a, this.1, by simpa using this.2, h3⟩
theorem rd_ev (n : Nat) : Rd H enc Tryz.prog W n 45 (fun e : Ev => e.av.cells) (fun _ => 0) := fun cs x h => by
 obtain ⟨ds, n', rfl, hx, hcl, hdl, hf⟩ := rd_struct (fs := [3, 3, 3, 3, 9, 9, 9]) (by kernel_rfl) h
 obtain ⟨y0, d0, t0⟩ := hf 0 _ rfl
 obtain ⟨y1, d1, t1⟩ := hf 1 _ rfl
 obtain ⟨y2, d2, t2⟩ := hf 2 _ rfl
 obtain ⟨y3, d3, t3⟩ := hf 3 _ rfl
 obtain ⟨y4, d4, t4⟩ := hf 4 _ rfl
 obtain ⟨y5, d5, t5⟩ := hf 5 _ rfl
 obtain ⟨y6, d6, t6⟩ := hf 6 _ rfl
 obtain ⟨a0, s0, r0, _⟩ := rd_cell (mk := fun i : { i : Int // (Lit.int .i64 i).wf = true } => .int .i64 i.1) (rd_int (by kernel_rfl)) t0
 obtain ⟨a1, s1, r1, _⟩ := rd_cell (mk := fun i : { i : Int // (Lit.int .i64 i).wf = true } => .int .i64 i.1) (rd_int (by kernel_rfl)) t1
 obtain ⟨a2, s2, r2, _⟩ := rd_cell (mk := fun i : { i : Int // (Lit.int .i64 i).wf = true } => .int .i64 i.1) (rd_int (by kernel_rfl)) t2
 obtain ⟨a3, s3, r3, _⟩ := rd_cell (mk := fun i : { i : Int // (Lit.int .i64 i).wf = true } => .int .i64 i.1) (rd_int (by kernel_rfl)) t3
 obtain ⟨a4, s4, r4, _⟩ := rd_cell (mk := fun s : Bs => .str s) (rd_str (by kernel_rfl)) t4
 obtain ⟨a5, s5, r5, _⟩ := rd_cell (mk := fun s : Bs => .str s) (rd_str (by kernel_rfl)) t5
 obtain ⟨a6, s6, r6, _⟩ := rd_cell (mk := fun s : Bs => .str s) (rd_str (by kernel_rfl)) t6
 refine ⟨⟨a0.1, a1.1, a2.1, a3.1, a4, a5, a6⟩, by rw [hcl]; rfl, fun j c hj => ?_, Nat.zero_le _⟩
 match j with
 | 0 => simp [Ev.av, AVal.cells] at hj; subst hj; exact ⟨s0, r0⟩
 | 1 => simp [Ev.av, AVal.cells] at hj; subst hj; exact ⟨s1, r1⟩
 | 2 => simp [Ev.av, AVal.cells] at hj; subst hj; exact ⟨s2, r2⟩
 | 3 => simp [Ev.av, AVal.cells] at hj; subst hj; exact ⟨s3, r3⟩
 | 4 => simp [Ev.av, AVal.cells] at hj; subst hj; exact ⟨s4, r4⟩
 | 5 => simp [Ev.av, AVal.cells] at hj; subst hj; exact ⟨s5, r5⟩
 | 6 => simp [Ev.av, AVal.cells] at hj; subst hj; exact ⟨s6, r6⟩
 | j + 7 => simp [Ev.av, AVal.cells] at hj
theorem evs_of_trod {v : Value} {d : DataW H} {ps : List MemPlace} {r : Reach} {b0 : Nat} (hval : Value.okWide Tryz.prog W r b0 22 v) (h : DataW.Trod enc Tryz.prog W 0 (fun _ => true) true 22 v d ps) : ∃ es : List Ev, Rep W (lies0 W) [] (.sl 7 (es.map Ev.av)) v := by
 obtain ⟨n, hn⟩ := h
 obtain ⟨l, h1, h2, _⟩ := rd_slice (m := 7) (e := 45) Ev.av (by kernel_rfl) (by kernel_rfl) (by decide) (fun _ => rfl) (fun _ => rfl) (fun k _ => rd_ev k) _ _ hn
 refine ⟨l, ?_⟩
 have h4 := (h2 0 _ rfl).2
 have hcs : v.cells.toList = [v] := by
  have hu : Tryz.prog.underlying 22 = some (.slice 45) := by kernel_rfl
  cases v with
  | agg a => simp [Value.okWide, hu, Cell.okWide, Cell.ok] at hval
  | _ => rfl
 rw [hcs] at h4
 simpa using h4
end
theorem own_prog : ownKnob Tryz.prog.godebug = none := by kernel_rfl
end Go.Av
namespace Go.Proofs
open Go.Shelf
def Tryz.keys85_ren : Go.Shelf.Ren := ⟨fun | 7 => 85 | 10 => 138 | n => n, fun | 23 => 89 | 26 => 3 | 3 => 94 | 28 => 157 | 0 => 0 | 27 => 156 | 33 => 168 | 4 => 4 | n => n, fun | n => n⟩
theorem Tryz.keys85 : Go.Proofs.SlLaysZI.n7 Tryz.prog Tryz.keys85_ren := {
 mixed := by kernel_rfl
 f7 := ⟨Tryz.f85.name, by decide, Tryz.func85.trans (congrArg some (by kernel_rfl))⟩
 f10 := ⟨Tryz.f138.name, by decide, Tryz.func138.trans (congrArg some (by kernel_rfl))⟩
 t0 := Tryz.underlying0
 a0 := Tryz.isAgg0
 z0 := Tryz.sizeOf0
 v0 := Tryz.zeroValue0
 t4 := Tryz.underlying4
 a4 := Tryz.isAgg4
 z4 := Tryz.sizeOf4
 v4 := Tryz.zeroValue4
 t23 := Tryz.underlying89
 a23 := Tryz.isAgg89
 z23 := Tryz.sizeOf89
 v23 := Tryz.zeroValue89
 t26 := Tryz.underlying3
 a26 := Tryz.isAgg3
 z26 := Tryz.sizeOf3
 v26 := Tryz.zeroValue3
 t27 := Tryz.underlying156
 a27 := Tryz.isAgg156
 z27 := Tryz.sizeOf156
 v27 := Tryz.zeroValue156
 t28 := Tryz.underlying157
 a28 := Tryz.isAgg157
 z28 := Tryz.sizeOf157
 v28 := Tryz.zeroValue157
 t33 := Tryz.underlying168
 a33 := Tryz.isAgg168
 z33 := Tryz.sizeOf168
 v33 := Tryz.zeroValue168 }
def Tryz.keys100_ren : Go.Shelf.Ren := ⟨fun | 7 => 100 | 10 => 151 | n => n, fun | 23 => 110 | 26 => 3 | 3 => 53 | 28 => 157 | 0 => 0 | 27 => 156 | 33 => 168 | 4 => 4 | n => n, fun | n => n⟩
theorem Tryz.keys100 : Go.Proofs.SlLaysZI.n7 Tryz.prog Tryz.keys100_ren := {
 mixed := by kernel_rfl
 f7 := ⟨Tryz.f100.name, by decide, Tryz.func100.trans (congrArg some (by kernel_rfl))⟩
 f10 := ⟨Tryz.f151.name, by decide, Tryz.func151.trans (congrArg some (by kernel_rfl))⟩
 t0 := Tryz.underlying0
 a0 := Tryz.isAgg0
 z0 := Tryz.sizeOf0
 v0 := Tryz.zeroValue0
 t4 := Tryz.underlying4
 a4 := Tryz.isAgg4
 z4 := Tryz.sizeOf4
 v4 := Tryz.zeroValue4
 t23 := Tryz.underlying110
 a23 := Tryz.isAgg110
 z23 := Tryz.sizeOf110
 v23 := Tryz.zeroValue110
 t26 := Tryz.underlying3
 a26 := Tryz.isAgg3
 z26 := Tryz.sizeOf3
 v26 := Tryz.zeroValue3
 t27 := Tryz.underlying156
 a27 := Tryz.isAgg156
 z27 := Tryz.sizeOf156
 v27 := Tryz.zeroValue156
 t28 := Tryz.underlying157
 a28 := Tryz.isAgg157
 z28 := Tryz.sizeOf157
 v28 := Tryz.zeroValue157
 t33 := Tryz.underlying168
 a33 := Tryz.isAgg168
 z33 := Tryz.sizeOf168
 v33 := Tryz.zeroValue168 }
def Tryz.keys101_ren : Go.Shelf.Ren := ⟨fun | 7 => 101 | 10 => 152 | n => n, fun | 23 => 111 | 26 => 3 | 3 => 51 | 28 => 157 | 0 => 0 | 27 => 156 | 33 => 168 | 4 => 4 | n => n, fun | n => n⟩
theorem Tryz.keys101 : Go.Proofs.SlLaysZI.n7 Tryz.prog Tryz.keys101_ren := {
 mixed := by kernel_rfl
 f7 := ⟨Tryz.f101.name, by decide, Tryz.func101.trans (congrArg some (by kernel_rfl))⟩
 f10 := ⟨Tryz.f152.name, by decide, Tryz.func152.trans (congrArg some (by kernel_rfl))⟩
 t0 := Tryz.underlying0
 a0 := Tryz.isAgg0
 z0 := Tryz.sizeOf0
 v0 := Tryz.zeroValue0
 t4 := Tryz.underlying4
 a4 := Tryz.isAgg4
 z4 := Tryz.sizeOf4
 v4 := Tryz.zeroValue4
 t23 := Tryz.underlying111
 a23 := Tryz.isAgg111
 z23 := Tryz.sizeOf111
 v23 := Tryz.zeroValue111
 t26 := Tryz.underlying3
 a26 := Tryz.isAgg3
 z26 := Tryz.sizeOf3
 v26 := Tryz.zeroValue3
 t27 := Tryz.underlying156
 a27 := Tryz.isAgg156
 z27 := Tryz.sizeOf156
 v27 := Tryz.zeroValue156
 t28 := Tryz.underlying157
 a28 := Tryz.isAgg157
 z28 := Tryz.sizeOf157
 v28 := Tryz.zeroValue157
 t33 := Tryz.underlying168
 a33 := Tryz.isAgg168
 z33 := Tryz.sizeOf168
 v33 := Tryz.zeroValue168 }
def Tryz.keys102_ren : Go.Shelf.Ren := ⟨fun | 7 => 102 | 10 => 153 | n => n, fun | 23 => 91 | 26 => 3 | 3 => 82 | 28 => 157 | 0 => 0 | 27 => 156 | 33 => 168 | 4 => 4 | n => n, fun | n => n⟩
theorem Tryz.keys102 : Go.Proofs.SlLaysZI.n7 Tryz.prog Tryz.keys102_ren := {
 mixed := by kernel_rfl
 f7 := ⟨Tryz.f102.name, by decide, Tryz.func102.trans (congrArg some (by kernel_rfl))⟩
 f10 := ⟨Tryz.f153.name, by decide, Tryz.func153.trans (congrArg some (by kernel_rfl))⟩
 t0 := Tryz.underlying0
 a0 := Tryz.isAgg0
 z0 := Tryz.sizeOf0
 v0 := Tryz.zeroValue0
 t4 := Tryz.underlying4
 a4 := Tryz.isAgg4
 z4 := Tryz.sizeOf4
 v4 := Tryz.zeroValue4
 t23 := Tryz.underlying91
 a23 := Tryz.isAgg91
 z23 := Tryz.sizeOf91
 v23 := Tryz.zeroValue91
 t26 := Tryz.underlying3
 a26 := Tryz.isAgg3
 z26 := Tryz.sizeOf3
 v26 := Tryz.zeroValue3
 t27 := Tryz.underlying156
 a27 := Tryz.isAgg156
 z27 := Tryz.sizeOf156
 v27 := Tryz.zeroValue156
 t28 := Tryz.underlying157
 a28 := Tryz.isAgg157
 z28 := Tryz.sizeOf157
 v28 := Tryz.zeroValue157
 t33 := Tryz.underlying168
 a33 := Tryz.isAgg168
 z33 := Tryz.sizeOf168
 v33 := Tryz.zeroValue168 }
def Tryz.keys103_ren : Go.Shelf.Ren := ⟨fun | 7 => 103 | 10 => 154 | n => n, fun | 23 => 112 | 26 => 3 | 3 => 129 | 28 => 157 | 0 => 0 | 27 => 156 | 33 => 168 | 4 => 4 | n => n, fun | n => n⟩
theorem Tryz.keys103 : Go.Proofs.SlLaysZI.n7 Tryz.prog Tryz.keys103_ren := {
 mixed := by kernel_rfl
 f7 := ⟨Tryz.f103.name, by decide, Tryz.func103.trans (congrArg some (by kernel_rfl))⟩
 f10 := ⟨Tryz.f154.name, by decide, Tryz.func154.trans (congrArg some (by kernel_rfl))⟩
 t0 := Tryz.underlying0
 a0 := Tryz.isAgg0
 z0 := Tryz.sizeOf0
 v0 := Tryz.zeroValue0
 t4 := Tryz.underlying4
 a4 := Tryz.isAgg4
 z4 := Tryz.sizeOf4
 v4 := Tryz.zeroValue4
 t23 := Tryz.underlying112
 a23 := Tryz.isAgg112
 z23 := Tryz.sizeOf112
 v23 := Tryz.zeroValue112
 t26 := Tryz.underlying3
 a26 := Tryz.isAgg3
 z26 := Tryz.sizeOf3
 v26 := Tryz.zeroValue3
 t27 := Tryz.underlying156
 a27 := Tryz.isAgg156
 z27 := Tryz.sizeOf156
 v27 := Tryz.zeroValue156
 t28 := Tryz.underlying157
 a28 := Tryz.isAgg157
 z28 := Tryz.sizeOf157
 v28 := Tryz.zeroValue157
 t33 := Tryz.underlying168
 a33 := Tryz.isAgg168
 z33 := Tryz.sizeOf168
 v33 := Tryz.zeroValue168 }
def Tryz.sorted84_ren : Go.Shelf.Ren := ⟨fun | 6 => 84 | 8 => 136 | 9 => 137 | 11 => 179 | 13 => 141 | 12 => 180 | 23 => 190 | 24 => 191 | 14 => 221 | 15 => 222 | 16 => 223 | 17 => 224 | 18 => 225 | 19 => 226 | 20 => 227 | 21 => 228 | 22 => 229 | 25 => 258 | 26 => 231 | 27 => 232 | 28 => 259 | 29 => 260 | 30 => 261 | 31 => 276 | n => n, fun | 26 => 3 | 28 => 157 | 24 => 59 | 0 => 0 | 3 => 3 | 37 => 205 | 48 => 232 | 50 => 234 | 4 => 4 | 40 => 226 | 39 => 225 | 45 => 171 | 5 => 5 | 9 => 9 | 51 => 252 | 55 => 256 | 57 => 273 | 58 => 40 | 33 => 168 | n => n, fun | n => n⟩
theorem Tryz.sorted84 : Go.Proofs.SlLaysZI.n6 Tryz.prog Tryz.sorted84_ren := {
 mixed := by kernel_rfl
 f6 := ⟨Tryz.f84.name, by decide, Tryz.func84.trans (congrArg some (by kernel_rfl))⟩
 f8 := ⟨Tryz.f136.name, by decide, Tryz.func136.trans (congrArg some (by kernel_rfl))⟩
 f11 := ⟨Tryz.f179.name, by decide, Tryz.func179.trans (congrArg some (by kernel_rfl))⟩
 t0 := Tryz.underlying0
 a0 := Tryz.isAgg0
 z0 := Tryz.sizeOf0
 v0 := Tryz.zeroValue0
 t24 := Tryz.underlying59
 a24 := Tryz.isAgg59
 z24 := Tryz.sizeOf59
 v24 := Tryz.zeroValue59
 t26 := Tryz.underlying3
 a26 := Tryz.isAgg3
 z26 := Tryz.sizeOf3
 v26 := Tryz.zeroValue3
 t28 := Tryz.underlying157
 a28 := Tryz.isAgg157
 z28 := Tryz.sizeOf157
 v28 := Tryz.zeroValue157
 i26 := by kernel_rfl }
def Tryz.sort137_ren : Go.Shelf.Ren := ⟨fun | 5 => 137 | 8 => 141 | 7 => 180 | 19 => 190 | 20 => 191 | 10 => 221 | 11 => 222 | 12 => 223 | 13 => 224 | 14 => 225 | 15 => 226 | 16 => 227 | 17 => 228 | 18 => 229 | 30 => 258 | 31 => 231 | 32 => 232 | 33 => 259 | 34 => 260 | 35 => 261 | 40 => 276 | n => n, fun | 23 => 59 | 25 => 3 | 3 => 3 | 32 => 205 | 22 => 59 | 0 => 0 | 44 => 232 | 46 => 234 | 4 => 4 | 36 => 226 | 35 => 225 | 41 => 171 | 5 => 5 | 9 => 9 | 53 => 252 | 57 => 256 | 63 => 273 | 64 => 40 | n => n, fun | n => n⟩
theorem Tryz.sort137 : Go.Proofs.SlLaysM.n5 Tryz.prog Tryz.sort137_ren := {
 mixed := by kernel_rfl
 f5 := ⟨Tryz.f137.name, by decide, Tryz.func137.trans (congrArg some (by kernel_rfl))⟩
 f7 := ⟨Tryz.f180.name, by decide, Tryz.func180.trans (congrArg some (by kernel_rfl))⟩
 f8 := Tryz.func141.trans (congrArg some (by kernel_rfl))
 f10 := ⟨Tryz.f221.name, by decide, Tryz.func221.trans (congrArg some (by kernel_rfl))⟩
 f11 := ⟨Tryz.f222.name, by decide, Tryz.func222.trans (congrArg some (by kernel_rfl))⟩
 f12 := ⟨Tryz.f223.name, by decide, Tryz.func223.trans (congrArg some (by kernel_rfl))⟩
 f13 := ⟨Tryz.f224.name, by decide, Tryz.func224.trans (congrArg some (by kernel_rfl))⟩
 f14 := ⟨Tryz.f225.name, by decide, Tryz.func225.trans (congrArg some (by kernel_rfl))⟩
 f15 := ⟨Tryz.f226.name, by decide, Tryz.func226.trans (congrArg some (by kernel_rfl))⟩
 f16 := ⟨Tryz.f227.name, by decide, Tryz.func227.trans (congrArg some (by kernel_rfl))⟩
 f17 := ⟨Tryz.f228.name, by decide, Tryz.func228.trans (congrArg some (by kernel_rfl))⟩
 f18 := ⟨Tryz.f229.name, by decide, Tryz.func229.trans (congrArg some (by kernel_rfl))⟩
 f19 := Tryz.func190.trans (congrArg some (by kernel_rfl))
 f20 := Tryz.func191.trans (congrArg some (by kernel_rfl))
 f30 := ⟨Tryz.f258.name, by decide, Tryz.func258.trans (congrArg some (by kernel_rfl))⟩
 f31 := Tryz.func231.trans (congrArg some (by kernel_rfl))
 f32 := Tryz.func232.trans (congrArg some (by kernel_rfl))
 f33 := ⟨Tryz.f259.name, by decide, Tryz.func259.trans (congrArg some (by kernel_rfl))⟩
 f34 := ⟨Tryz.f260.name, by decide, Tryz.func260.trans (congrArg some (by kernel_rfl))⟩
 f35 := ⟨Tryz.f261.name, by decide, Tryz.func261.trans (congrArg some (by kernel_rfl))⟩
 f40 := ⟨Tryz.f276.name, by decide, Tryz.func276.trans (congrArg some (by kernel_rfl))⟩
 t0 := Tryz.underlying0
 a0 := Tryz.isAgg0
 z0 := Tryz.sizeOf0
 v0 := Tryz.zeroValue0
 t3 := Tryz.underlying3
 a3 := Tryz.isAgg3
 z3 := Tryz.sizeOf3
 v3 := Tryz.zeroValue3
 t4 := Tryz.underlying4
 a4 := Tryz.isAgg4
 z4 := Tryz.sizeOf4
 v4 := Tryz.zeroValue4
 t5 := Tryz.underlying5
 a5 := Tryz.isAgg5
 z5 := Tryz.sizeOf5
 v5 := Tryz.zeroValue5
 t9 := Tryz.underlying9
 a9 := Tryz.isAgg9
 z9 := Tryz.sizeOf9
 v9 := Tryz.zeroValue9
 t22 := Tryz.underlying59
 a22 := Tryz.isAgg59
 z22 := Tryz.sizeOf59
 v22 := Tryz.zeroValue59
 t23 := Tryz.underlying59
 a23 := Tryz.isAgg59
 z23 := Tryz.sizeOf59
 v23 := Tryz.zeroValue59
 t25 := Tryz.underlying3
 a25 := Tryz.isAgg3
 z25 := Tryz.sizeOf3
 v25 := Tryz.zeroValue3
 t32 := Tryz.underlying205
 a32 := Tryz.isAgg205
 z32 := Tryz.sizeOf205
 v32 := Tryz.zeroValue205
 t35 := Tryz.underlying225
 a35 := Tryz.isAgg225
 z35 := Tryz.sizeOf225
 v35 := Tryz.zeroValue225
 t36 := Tryz.underlying226
 a36 := Tryz.isAgg226
 z36 := Tryz.sizeOf226
 v36 := Tryz.zeroValue226
 t41 := Tryz.underlying171
 a41 := Tryz.isAgg171
 z41 := Tryz.sizeOf171
 v41 := Tryz.zeroValue171
 t44 := Tryz.underlying232
 a44 := Tryz.isAgg232
 z44 := Tryz.sizeOf232
 v44 := Tryz.zeroValue232
 t46 := Tryz.underlying234
 a46 := Tryz.isAgg234
 z46 := Tryz.sizeOf234
 v46 := Tryz.zeroValue234
 t53 := Tryz.underlying252
 a53 := Tryz.isAgg252
 z53 := Tryz.sizeOf252
 v53 := Tryz.zeroValue252
 t57 := Tryz.underlying256
 a57 := Tryz.isAgg256
 z57 := Tryz.sizeOf256
 v57 := Tryz.zeroValue256
 t63 := Tryz.underlying273
 a63 := Tryz.isAgg273
 z63 := Tryz.sizeOf273
 v63 := Tryz.zeroValue273
 t64 := Tryz.underlying40
 a64 := Tryz.isAgg40
 z64 := Tryz.sizeOf40
 v64 := Tryz.zeroValue40 }
open Go.RowKit Go.Maps Go.Sort in
theorem Tryz.sorts84 (m : Nat) : AnyZI.SortsIn Tryz.prog Tryz.sorted84_ren Fence.wide m :=
 ⟨fun blk off cap ss W hH hblk hsz => callsIn_wide.2 (AnyM.slices_Sort_int Tryz.sort137 blk off cap ss W hH hblk hsz),
 fun p cap W => callsIn_wide.2 (AnyM.slices_Sort_int_none Tryz.sort137 p cap W)⟩
open Go.RowKit Go.Maps Go.Sort in
theorem Tryz.sortedKeys85 {H : Type} (Bm b nn : Nat) (D0 : DataW H) (R : Value → Option (DataW H × List MemPlace)) (w : World) (hBm : Bm < w.heap.size) (hm : w.cell? ⟨Bm, 0, none⟩ = some (.map (some b))) (hown : w.ownsMap Tryz.prog 3 R b nn D0) (hmax : Maps.size D0 ≤ maxLen) (hbytes : Maps.size D0 * 8 ≤ 140737488355328) :
  Calls Tryz.prog 84 #[.func (.func 138) #[] #[.pointer (some ⟨Bm, 0, none⟩)]] w fun e w' => ∃ (v : Value) (ss : List Int), e = .returned v ∧ ss.Perm (intKeys D0) ∧
   w'.ownsRow w.heap.size 3 1 v ss.length ((ss.mergeSort (fun x y => decide (x ≤ y))).map encZ) ∧ (v = .slice none 0 0 ↔ ss = []) ∧ Below w.heap.size w w' := by
 refine (callsIn_wide (n := 5)).1 ?_
 have hseq : SeqGives Fence.wide 2 Tryz.prog 138 #[.pointer (some ⟨Bm, 0, none⟩)] encZ (fun ss => ss.Perm (intKeys D0)) (Maps.size D0) w :=
  AnyZI.keys_gives (ρ := Tryz.keys85_ren) { Tryz.keys85 with } Fence.wide _ trivial rfl (by omega) Bm b nn D0 w hBm hm hown
 exact AnyZI.sorted_in Tryz.sorted84 Fence.wide 5 trivial trivial trivial trivial rfl (by omega) (Tryz.sorts84 _) (enters_of Tryz.func137 (by kernel_rfl) rfl) 138 #[.pointer (some ⟨Bm, 0, none⟩)] trivial (enters_of Tryz.func138 (by kernel_rfl) rfl) _ _ hmax hbytes _ hseq
open Go.RowKit Go.Maps Go.Sort in
theorem Tryz.sortedKeys100 {H : Type} (Bm b nn : Nat) (D0 : DataW H) (R : Value → Option (DataW H × List MemPlace)) (w : World) (hBm : Bm < w.heap.size) (hm : w.cell? ⟨Bm, 0, none⟩ = some (.map (some b))) (hown : w.ownsMap Tryz.prog 3 R b nn D0) (hmax : Maps.size D0 ≤ maxLen) (hbytes : Maps.size D0 * 8 ≤ 140737488355328) :
  Calls Tryz.prog 84 #[.func (.func 151) #[] #[.pointer (some ⟨Bm, 0, none⟩)]] w fun e w' => ∃ (v : Value) (ss : List Int), e = .returned v ∧ ss.Perm (intKeys D0) ∧
   w'.ownsRow w.heap.size 3 1 v ss.length ((ss.mergeSort (fun x y => decide (x ≤ y))).map encZ) ∧ (v = .slice none 0 0 ↔ ss = []) ∧ Below w.heap.size w w' := by
 refine (callsIn_wide (n := 5)).1 ?_
 have hseq : SeqGives Fence.wide 2 Tryz.prog 151 #[.pointer (some ⟨Bm, 0, none⟩)] encZ (fun ss => ss.Perm (intKeys D0)) (Maps.size D0) w :=
  AnyZI.keys_gives (ρ := Tryz.keys100_ren) { Tryz.keys100 with } Fence.wide _ trivial rfl (by omega) Bm b nn D0 w hBm hm hown
 exact AnyZI.sorted_in Tryz.sorted84 Fence.wide 5 trivial trivial trivial trivial rfl (by omega) (Tryz.sorts84 _) (enters_of Tryz.func137 (by kernel_rfl) rfl) 151 #[.pointer (some ⟨Bm, 0, none⟩)] trivial (enters_of Tryz.func151 (by kernel_rfl) rfl) _ _ hmax hbytes _ hseq
open Go.RowKit Go.Maps Go.Sort in
theorem Tryz.sortedKeys101 {H : Type} (Bm b nn : Nat) (D0 : DataW H) (R : Value → Option (DataW H × List MemPlace)) (w : World) (hBm : Bm < w.heap.size) (hm : w.cell? ⟨Bm, 0, none⟩ = some (.map (some b))) (hown : w.ownsMap Tryz.prog 3 R b nn D0) (hmax : Maps.size D0 ≤ maxLen) (hbytes : Maps.size D0 * 8 ≤ 140737488355328) :
  Calls Tryz.prog 84 #[.func (.func 152) #[] #[.pointer (some ⟨Bm, 0, none⟩)]] w fun e w' => ∃ (v : Value) (ss : List Int), e = .returned v ∧ ss.Perm (intKeys D0) ∧
   w'.ownsRow w.heap.size 3 1 v ss.length ((ss.mergeSort (fun x y => decide (x ≤ y))).map encZ) ∧ (v = .slice none 0 0 ↔ ss = []) ∧ Below w.heap.size w w' := by
 refine (callsIn_wide (n := 5)).1 ?_
 have hseq : SeqGives Fence.wide 2 Tryz.prog 152 #[.pointer (some ⟨Bm, 0, none⟩)] encZ (fun ss => ss.Perm (intKeys D0)) (Maps.size D0) w :=
  AnyZI.keys_gives (ρ := Tryz.keys101_ren) { Tryz.keys101 with } Fence.wide _ trivial rfl (by omega) Bm b nn D0 w hBm hm hown
 exact AnyZI.sorted_in Tryz.sorted84 Fence.wide 5 trivial trivial trivial trivial rfl (by omega) (Tryz.sorts84 _) (enters_of Tryz.func137 (by kernel_rfl) rfl) 152 #[.pointer (some ⟨Bm, 0, none⟩)] trivial (enters_of Tryz.func152 (by kernel_rfl) rfl) _ _ hmax hbytes _ hseq
open Go.RowKit Go.Maps Go.Sort in
theorem Tryz.sortedKeys102 {H : Type} (Bm b nn : Nat) (D0 : DataW H) (R : Value → Option (DataW H × List MemPlace)) (w : World) (hBm : Bm < w.heap.size) (hm : w.cell? ⟨Bm, 0, none⟩ = some (.map (some b))) (hown : w.ownsMap Tryz.prog 3 R b nn D0) (hmax : Maps.size D0 ≤ maxLen) (hbytes : Maps.size D0 * 8 ≤ 140737488355328) :
  Calls Tryz.prog 84 #[.func (.func 153) #[] #[.pointer (some ⟨Bm, 0, none⟩)]] w fun e w' => ∃ (v : Value) (ss : List Int), e = .returned v ∧ ss.Perm (intKeys D0) ∧
   w'.ownsRow w.heap.size 3 1 v ss.length ((ss.mergeSort (fun x y => decide (x ≤ y))).map encZ) ∧ (v = .slice none 0 0 ↔ ss = []) ∧ Below w.heap.size w w' := by
 refine (callsIn_wide (n := 5)).1 ?_
 have hseq : SeqGives Fence.wide 2 Tryz.prog 153 #[.pointer (some ⟨Bm, 0, none⟩)] encZ (fun ss => ss.Perm (intKeys D0)) (Maps.size D0) w :=
  AnyZI.keys_gives (ρ := Tryz.keys102_ren) { Tryz.keys102 with } Fence.wide _ trivial rfl (by omega) Bm b nn D0 w hBm hm hown
 exact AnyZI.sorted_in Tryz.sorted84 Fence.wide 5 trivial trivial trivial trivial rfl (by omega) (Tryz.sorts84 _) (enters_of Tryz.func137 (by kernel_rfl) rfl) 153 #[.pointer (some ⟨Bm, 0, none⟩)] trivial (enters_of Tryz.func153 (by kernel_rfl) rfl) _ _ hmax hbytes _ hseq
open Go.RowKit Go.Maps Go.Sort in
theorem Tryz.sortedKeys103 {H : Type} (Bm b nn : Nat) (D0 : DataW H) (R : Value → Option (DataW H × List MemPlace)) (w : World) (hBm : Bm < w.heap.size) (hm : w.cell? ⟨Bm, 0, none⟩ = some (.map (some b))) (hown : w.ownsMap Tryz.prog 3 R b nn D0) (hmax : Maps.size D0 ≤ maxLen) (hbytes : Maps.size D0 * 8 ≤ 140737488355328) :
  Calls Tryz.prog 84 #[.func (.func 154) #[] #[.pointer (some ⟨Bm, 0, none⟩)]] w fun e w' => ∃ (v : Value) (ss : List Int), e = .returned v ∧ ss.Perm (intKeys D0) ∧
   w'.ownsRow w.heap.size 3 1 v ss.length ((ss.mergeSort (fun x y => decide (x ≤ y))).map encZ) ∧ (v = .slice none 0 0 ↔ ss = []) ∧ Below w.heap.size w w' := by
 refine (callsIn_wide (n := 5)).1 ?_
 have hseq : SeqGives Fence.wide 2 Tryz.prog 154 #[.pointer (some ⟨Bm, 0, none⟩)] encZ (fun ss => ss.Perm (intKeys D0)) (Maps.size D0) w :=
  AnyZI.keys_gives (ρ := Tryz.keys103_ren) { Tryz.keys103 with } Fence.wide _ trivial rfl (by omega) Bm b nn D0 w hBm hm hown
 exact AnyZI.sorted_in Tryz.sorted84 Fence.wide 5 trivial trivial trivial trivial rfl (by omega) (Tryz.sorts84 _) (enters_of Tryz.func137 (by kernel_rfl) rfl) 154 #[.pointer (some ⟨Bm, 0, none⟩)] trivial (enters_of Tryz.func154 (by kernel_rfl) rfl) _ _ hmax hbytes _ hseq
def Tryz.keys46_ren : Go.Shelf.Ren := ⟨fun | 7 => 46 | 10 => 88 | n => n, fun | 23 => 90 | 26 => 9 | 3 => 94 | 28 => 104 | 0 => 0 | 27 => 103 | 33 => 160 | 4 => 4 | n => n, fun | n => n⟩
theorem Tryz.keys46 : Go.Proofs.SlLaysZ.n7 Tryz.prog Tryz.keys46_ren := {
 mixed := by kernel_rfl
 f7 := ⟨Tryz.f46.name, by decide, Tryz.func46.trans (congrArg some (by kernel_rfl))⟩
 f10 := ⟨Tryz.f88.name, by decide, Tryz.func88.trans (congrArg some (by kernel_rfl))⟩
 t0 := Tryz.underlying0
 a0 := Tryz.isAgg0
 z0 := Tryz.sizeOf0
 v0 := Tryz.zeroValue0
 t4 := Tryz.underlying4
 a4 := Tryz.isAgg4
 z4 := Tryz.sizeOf4
 v4 := Tryz.zeroValue4
 t23 := Tryz.underlying90
 a23 := Tryz.isAgg90
 z23 := Tryz.sizeOf90
 v23 := Tryz.zeroValue90
 t26 := Tryz.underlying9
 a26 := Tryz.isAgg9
 z26 := Tryz.sizeOf9
 v26 := Tryz.zeroValue9
 t27 := Tryz.underlying103
 a27 := Tryz.isAgg103
 z27 := Tryz.sizeOf103
 v27 := Tryz.zeroValue103
 t28 := Tryz.underlying104
 a28 := Tryz.isAgg104
 z28 := Tryz.sizeOf104
 v28 := Tryz.zeroValue104
 t33 := Tryz.underlying160
 a33 := Tryz.isAgg160
 z33 := Tryz.sizeOf160
 v33 := Tryz.zeroValue160 }
def Tryz.sorted45_ren : Go.Shelf.Ren := ⟨fun | 6 => 45 | 8 => 86 | 9 => 87 | 11 => 139 | 13 => 141 | 12 => 140 | 23 => 190 | 24 => 191 | 14 => 181 | 15 => 182 | 16 => 183 | 17 => 184 | 18 => 185 | 19 => 186 | 20 => 187 | 21 => 188 | 22 => 189 | 25 => 230 | 26 => 231 | 27 => 232 | 28 => 233 | 29 => 234 | 30 => 235 | 31 => 262 | n => n, fun | 26 => 9 | 28 => 104 | 24 => 80 | 0 => 0 | 3 => 3 | 37 => 205 | 48 => 232 | 50 => 234 | 4 => 4 | 40 => 226 | 39 => 225 | 45 => 171 | 5 => 5 | 9 => 9 | 51 => 252 | 55 => 256 | 57 => 273 | 58 => 40 | 33 => 160 | n => n, fun | n => n⟩
theorem Tryz.sorted45 : Go.Proofs.SlLaysZ.n6 Tryz.prog Tryz.sorted45_ren := {
 mixed := by kernel_rfl
 f6 := ⟨Tryz.f45.name, by decide, Tryz.func45.trans (congrArg some (by kernel_rfl))⟩
 f8 := ⟨Tryz.f86.name, by decide, Tryz.func86.trans (congrArg some (by kernel_rfl))⟩
 f11 := ⟨Tryz.f139.name, by decide, Tryz.func139.trans (congrArg some (by kernel_rfl))⟩
 t0 := Tryz.underlying0
 a0 := Tryz.isAgg0
 z0 := Tryz.sizeOf0
 v0 := Tryz.zeroValue0
 t24 := Tryz.underlying80
 a24 := Tryz.isAgg80
 z24 := Tryz.sizeOf80
 v24 := Tryz.zeroValue80
 t26 := Tryz.underlying9
 a26 := Tryz.isAgg9
 z26 := Tryz.sizeOf9
 v26 := Tryz.zeroValue9
 t28 := Tryz.underlying104
 a28 := Tryz.isAgg104
 z28 := Tryz.sizeOf104
 v28 := Tryz.zeroValue104
 i26 := by kernel_rfl }
def Tryz.sort87_ren : Go.Shelf.Ren := ⟨fun | 6 => 87 | 8 => 141 | 9 => 140 | 19 => 190 | 20 => 191 | 21 => 181 | 22 => 182 | 23 => 183 | 24 => 184 | 25 => 185 | 26 => 186 | 27 => 187 | 28 => 188 | 29 => 189 | 36 => 230 | 31 => 231 | 32 => 232 | 37 => 233 | 38 => 234 | 39 => 235 | 41 => 262 | n => n, fun | 27 => 80 | 29 => 9 | 3 => 3 | 32 => 205 | 26 => 80 | 0 => 0 | 44 => 232 | 46 => 234 | 4 => 4 | 36 => 226 | 35 => 225 | 41 => 171 | 5 => 5 | 9 => 9 | 53 => 252 | 57 => 256 | 63 => 273 | 64 => 40 | n => n, fun | n => n⟩
theorem Tryz.sort87 : Go.Proofs.SlLaysM.n6 Tryz.prog Tryz.sort87_ren := {
 mixed := by kernel_rfl
 f6 := ⟨Tryz.f87.name, by decide, Tryz.func87.trans (congrArg some (by kernel_rfl))⟩
 f8 := Tryz.func141.trans (congrArg some (by kernel_rfl))
 f9 := ⟨Tryz.f140.name, by decide, Tryz.func140.trans (congrArg some (by kernel_rfl))⟩
 f19 := Tryz.func190.trans (congrArg some (by kernel_rfl))
 f20 := Tryz.func191.trans (congrArg some (by kernel_rfl))
 f21 := ⟨Tryz.f181.name, by decide, Tryz.func181.trans (congrArg some (by kernel_rfl))⟩
 f22 := ⟨Tryz.f182.name, by decide, Tryz.func182.trans (congrArg some (by kernel_rfl))⟩
 f23 := ⟨Tryz.f183.name, by decide, Tryz.func183.trans (congrArg some (by kernel_rfl))⟩
 f24 := ⟨Tryz.f184.name, by decide, Tryz.func184.trans (congrArg some (by kernel_rfl))⟩
 f25 := ⟨Tryz.f185.name, by decide, Tryz.func185.trans (congrArg some (by kernel_rfl))⟩
 f26 := ⟨Tryz.f186.name, by decide, Tryz.func186.trans (congrArg some (by kernel_rfl))⟩
 f27 := ⟨Tryz.f187.name, by decide, Tryz.func187.trans (congrArg some (by kernel_rfl))⟩
 f28 := ⟨Tryz.f188.name, by decide, Tryz.func188.trans (congrArg some (by kernel_rfl))⟩
 f29 := ⟨Tryz.f189.name, by decide, Tryz.func189.trans (congrArg some (by kernel_rfl))⟩
 f31 := Tryz.func231.trans (congrArg some (by kernel_rfl))
 f32 := Tryz.func232.trans (congrArg some (by kernel_rfl))
 f36 := ⟨Tryz.f230.name, by decide, Tryz.func230.trans (congrArg some (by kernel_rfl))⟩
 f37 := ⟨Tryz.f233.name, by decide, Tryz.func233.trans (congrArg some (by kernel_rfl))⟩
 f38 := ⟨Tryz.f234.name, by decide, Tryz.func234.trans (congrArg some (by kernel_rfl))⟩
 f39 := ⟨Tryz.f235.name, by decide, Tryz.func235.trans (congrArg some (by kernel_rfl))⟩
 f41 := ⟨Tryz.f262.name, by decide, Tryz.func262.trans (congrArg some (by kernel_rfl))⟩
 t0 := Tryz.underlying0
 a0 := Tryz.isAgg0
 z0 := Tryz.sizeOf0
 v0 := Tryz.zeroValue0
 t3 := Tryz.underlying3
 a3 := Tryz.isAgg3
 z3 := Tryz.sizeOf3
 v3 := Tryz.zeroValue3
 t4 := Tryz.underlying4
 a4 := Tryz.isAgg4
 z4 := Tryz.sizeOf4
 v4 := Tryz.zeroValue4
 t5 := Tryz.underlying5
 a5 := Tryz.isAgg5
 z5 := Tryz.sizeOf5
 v5 := Tryz.zeroValue5
 t9 := Tryz.underlying9
 a9 := Tryz.isAgg9
 z9 := Tryz.sizeOf9
 v9 := Tryz.zeroValue9
 t26 := Tryz.underlying80
 a26 := Tryz.isAgg80
 z26 := Tryz.sizeOf80
 v26 := Tryz.zeroValue80
 t27 := Tryz.underlying80
 a27 := Tryz.isAgg80
 z27 := Tryz.sizeOf80
 v27 := Tryz.zeroValue80
 t29 := Tryz.underlying9
 a29 := Tryz.isAgg9
 z29 := Tryz.sizeOf9
 v29 := Tryz.zeroValue9
 t32 := Tryz.underlying205
 a32 := Tryz.isAgg205
 z32 := Tryz.sizeOf205
 v32 := Tryz.zeroValue205
 t35 := Tryz.underlying225
 a35 := Tryz.isAgg225
 z35 := Tryz.sizeOf225
 v35 := Tryz.zeroValue225
 t36 := Tryz.underlying226
 a36 := Tryz.isAgg226
 z36 := Tryz.sizeOf226
 v36 := Tryz.zeroValue226
 t41 := Tryz.underlying171
 a41 := Tryz.isAgg171
 z41 := Tryz.sizeOf171
 v41 := Tryz.zeroValue171
 t44 := Tryz.underlying232
 a44 := Tryz.isAgg232
 z44 := Tryz.sizeOf232
 v44 := Tryz.zeroValue232
 t46 := Tryz.underlying234
 a46 := Tryz.isAgg234
 z46 := Tryz.sizeOf234
 v46 := Tryz.zeroValue234
 t53 := Tryz.underlying252
 a53 := Tryz.isAgg252
 z53 := Tryz.sizeOf252
 v53 := Tryz.zeroValue252
 t57 := Tryz.underlying256
 a57 := Tryz.isAgg256
 z57 := Tryz.sizeOf256
 v57 := Tryz.zeroValue256
 t63 := Tryz.underlying273
 a63 := Tryz.isAgg273
 z63 := Tryz.sizeOf273
 v63 := Tryz.zeroValue273
 t64 := Tryz.underlying40
 a64 := Tryz.isAgg40
 z64 := Tryz.sizeOf40
 v64 := Tryz.zeroValue40 }
open Go.RowKit Go.Maps Go.Sort in
theorem Tryz.sorts45 (m : Nat) : AnyZ.SortsIn Tryz.prog Tryz.sorted45_ren Fence.wide m :=
 ⟨fun blk off cap ss W hH hblk hsz => callsIn_wide.2 (AnyM.slices_Sort_string Tryz.sort87 blk off cap ss W hH hblk hsz),
 fun p cap W => callsIn_wide.2 (AnyM.slices_Sort_string_none Tryz.sort87 p cap W)⟩
open Go.RowKit Go.Maps Go.Sort in
theorem Tryz.sortedKeys46 {H : Type} (Bm b nn : Nat) (D0 : DataW H) (R : Value → Option (DataW H × List MemPlace)) (w : World) (hBm : Bm < w.heap.size) (hm : w.cell? ⟨Bm, 0, none⟩ = some (.map (some b))) (hown : w.ownsMap Tryz.prog 9 R b nn D0) (hmax : Maps.size D0 ≤ maxLen) (hbytes : Maps.size D0 * 16 ≤ 140737488355328) :
  Calls Tryz.prog 45 #[.func (.func 88) #[] #[.pointer (some ⟨Bm, 0, none⟩)]] w fun e w' => ∃ (v : Value) (ss : List (List UInt8)), e = .returned v ∧ ss.Perm (strKeys D0) ∧
   w'.ownsRow w.heap.size 9 1 v ss.length ((ss.mergeSort (fun x y => decide (x ≤ y))).map encStr) ∧ (v = .slice none 0 0 ↔ ss = []) ∧ Below w.heap.size w w' := by
 refine (callsIn_wide (n := 5)).1 ?_
 have hseq : SeqGives Fence.wide 2 Tryz.prog 88 #[.pointer (some ⟨Bm, 0, none⟩)] encStr (fun ss => ss.Perm (strKeys D0)) (Maps.size D0) w :=
  AnyZ.keys_gives (ρ := Tryz.keys46_ren) { Tryz.keys46 with } Fence.wide _ trivial rfl (by omega) Bm b nn D0 w hBm hm hown
 exact AnyZ.sorted_in Tryz.sorted45 Fence.wide 5 trivial trivial trivial trivial rfl (by omega) (Tryz.sorts45 _) (enters_of Tryz.func87 (by kernel_rfl) rfl) 88 #[.pointer (some ⟨Bm, 0, none⟩)] trivial (enters_of Tryz.func88 (by kernel_rfl) rfl) _ _ hmax hbytes _ hseq
def Tryz.lays2_22_ren : Go.Shelf.Ren := ⟨fun | 22 => 97 | 29 => 149 | 30 => 150 | 36 => 201 | 17 => 237 | n => n, fun | 24 => 80 | 9 => 9 | 3 => 3 | 4 => 4 | 0 => 0 | n => n, fun | n => n⟩
theorem Tryz.lays2_22 : Go.Proofs.Lays2.n22 Tryz.prog Tryz.lays2_22_ren := {
 mixed := by kernel_rfl
 f17 := Tryz.func237.trans (congrArg some (by kernel_rfl))
 f22 := Tryz.func97.trans (congrArg some (by kernel_rfl))
 f29 := Tryz.func149.trans (congrArg some (by kernel_rfl))
 f30 := Tryz.func150.trans (congrArg some (by kernel_rfl))
 f36 := Tryz.func201.trans (congrArg some (by kernel_rfl))
 t0 := Tryz.underlying0
 a0 := Tryz.isAgg0
 z0 := Tryz.sizeOf0
 v0 := Tryz.zeroValue0
 t3 := Tryz.underlying3
 a3 := Tryz.isAgg3
 z3 := Tryz.sizeOf3
 v3 := Tryz.zeroValue3
 t4 := Tryz.underlying4
 a4 := Tryz.isAgg4
 z4 := Tryz.sizeOf4
 v4 := Tryz.zeroValue4
 t9 := Tryz.underlying9
 a9 := Tryz.isAgg9
 z9 := Tryz.sizeOf9
 v9 := Tryz.zeroValue9
 t24 := Tryz.underlying80
 a24 := Tryz.isAgg80
 z24 := Tryz.sizeOf80
 v24 := Tryz.zeroValue80
 i9 := by kernel_rfl }
def Tryz.lays2_26_ren : Go.Shelf.Ren := ⟨fun | 26 => 148 | 33 => 187 | 34 => 200 | 38 => 235 | n => n, fun | 24 => 80 | 9 => 9 | 3 => 3 | 4 => 4 | 40 => 205 | 0 => 0 | n => n, fun | n => n⟩
theorem Tryz.lays2_26 : Go.Proofs.Lays2.n26 Tryz.prog Tryz.lays2_26_ren := {
 mixed := by kernel_rfl
 f26 := Tryz.func148.trans (congrArg some (by kernel_rfl))
 f33 := Tryz.func187.trans (congrArg some (by kernel_rfl))
 f34 := Tryz.func200.trans (congrArg some (by kernel_rfl))
 f38 := Tryz.func235.trans (congrArg some (by kernel_rfl))
 t0 := Tryz.underlying0
 a0 := Tryz.isAgg0
 z0 := Tryz.sizeOf0
 v0 := Tryz.zeroValue0
 t3 := Tryz.underlying3
 a3 := Tryz.isAgg3
 z3 := Tryz.sizeOf3
 v3 := Tryz.zeroValue3
 t4 := Tryz.underlying4
 a4 := Tryz.isAgg4
 z4 := Tryz.sizeOf4
 v4 := Tryz.zeroValue4
 t9 := Tryz.underlying9
 a9 := Tryz.isAgg9
 z9 := Tryz.sizeOf9
 v9 := Tryz.zeroValue9
 t24 := Tryz.underlying80
 a24 := Tryz.isAgg80
 z24 := Tryz.sizeOf80
 v24 := Tryz.zeroValue80
 t40 := Tryz.underlying205
 a40 := Tryz.isAgg205
 z40 := Tryz.sizeOf205
 v40 := Tryz.zeroValue205 }
end Go.Proofs
namespace Go.Av
open Go Go.Proofs Go.RowKit
set_option maxRecDepth 100000
section
variable {C : Ctx} {B : Nat} {S : Addr → Prop} {μ : Map} {h : Heap} {w w' : World} {α : Type}
theorem fits_row {av : α → AVal} {enc : α → Value} (hc : ∀ a, (av a).cells = [av a]) (hs : ∀ a, (av a).sto = true) (hr : ∀ (w : World) (S : Addr → Prop) (μ : Map) (a : α), Rep w S μ (av a) (enc a))
  (f : Fits C B S μ h w) {e : TypeId} {v : Value} {ls : List α} (ho : w'.ownsRow w.heap.size e 1 v ls.length (ls.map enc)) (hb : Below w.heap.size w w') :
  ∃ S', Fits C B S' μ h w' ∧ Step B S μ w S' μ w' ∧ Rep w' S' μ (.sl 1 (ls.map av)) v := by
 obtain ⟨f', st⟩ := f.grown hb
 obtain ⟨_, ho⟩ := ho
 rcases ho with ⟨rfl, h0⟩ | ⟨g, cap, cur, rfl, hg, hheap, hn, hm, hsz, htk⟩
 ·have : ls = [] := List.length_eq_zero_iff.1 h0
  subst this
  exact ⟨S, f', st, .sl0 1 none 0⟩
 ·by_cases hl : ls = []
  ·subst hl; exact ⟨S, f', st, .sl0 1 _ cap⟩
  have hgl : g < w'.heap.size := (Array.getElem?_eq_some_iff.1 hheap).1
  let S' : Addr → Prop := fun a => S a ∨ a.block = g
  have st2 : Step B S μ w' S' μ w' := ⟨fun a ha => .inl ha, fun _ _ => rfl, Below.refl _ _, MapLe.refl _, fun a ha => ha.elim .inl fun e => .inr (by rw [e]; exact Nat.le_trans f.base hg)⟩
  have f2 : Fits C B S' μ h w' := ⟨fun g' cs hg' => (f'.glob g' cs hg').mono st2, f'.len, f'.sep, fun p m b h1 e1 => by
    obtain ⟨a1, a2, a3⟩ := f'.own p m b h1 e1
    have := (f.own p m b h1 e1).2.1
    exact ⟨a1, a2, fun a ha => ha.elim (a3 a) fun e => by omega⟩, f'.base, fun a ha => ha.elim (f'.lie a) fun e => by rw [e]; exact hgl,
   fun p m k h1 h2 => (f'.blk p m k h1 h2).mono st2 fun _ _ => rfl⟩
  have hget : ∀ i, cur[0 + (i * 1 + 0)]? = cur[i]? := fun i => by congr 1; omega
  refine ⟨S', f2, st.trans st2, ?_⟩
  have hlen : (ls.map av).length = ls.length := List.length_map ..
  rw [← hlen]
  refine .sl 1 (ls.map av) g 0 cap (fun i _ => cur[i]?.getD undef) (by simpa using hl) (by omega) hm (fun i x hx => ?_) (fun i x j c hx hj => ?_) (fun i x j c hx hj => ?_)
  ·obtain ⟨a, _, rfl⟩ := List.mem_map.1 (List.mem_of_getElem? hx); rw [hc]; rfl
  ·obtain ⟨a, _, rfl⟩ := List.mem_map.1 (List.mem_of_getElem? hx)
   rw [hc] at hj
   match j with
   | 0 =>
    simp at hj; subst hj
    have hi : i < ls.length := by have := (List.getElem?_eq_some_iff.1 hx).1; omega
    have hi2 : i < cur.size := by omega
    refine ⟨.inr rfl, ?_, hs a⟩
    simp only [World.cell?, hheap]
    simp [hi2]
   | j + 1 => simp at hj
  ·rw [List.getElem?_map] at hx
   obtain ⟨a, ha, rfl⟩ := Option.map_eq_some_iff.1 hx
   rw [hc] at hj
   match j with
   | 0 =>
    simp at hj; subst hj
    have hi : i < ls.length := (List.getElem?_eq_some_iff.1 ha).1
    have : cur[i]? = some (enc a) := by
     have h1 : (cur.toList.take (ls.length * 1))[i]? = some (enc a) := by rw [htk, List.getElem?_map, ha]; rfl
     rw [List.getElem?_take_of_lt (by omega)] at h1
     simpa using h1
    rw [this]
    exact hr _ _ _ a
   | j + 1 => simp at hj
theorem run_enter {P : Program} {f : FuncId} {fn : Func} (hf : P.funcs[f]? = some fn) (hb : fn.body.isNone = false) (hname : (fn.name == "runtime.NumGoroutine") = false) (us : Array Value) (w : World) : (callFunc f us).run P w = .ok (.enter f us) w := by
 have hne : fn.name ≠ "runtime.NumGoroutine" := by simpa using hname
 obtain ⟨c, hbc⟩ : ∃ c, fn.body = some c := by cases hq : fn.body with | none => simp [hq] at hb | some c => exact ⟨c, rfl⟩
 simp [callFunc, hf, hne, hbc]
end
def noR : Value → Option (DataW Unit × List MemPlace) := fun _ => some (.nil, [])
def kI (n : Int) : Lit := .int .i64 n
def kS (s : Bs) : Lit := .string s
theorem insert_perm (x : Lit × DataW Unit) (l : List (Lit × DataW Unit)) : (DataW.insert x l).Perm (x :: l) := by
 induction l with
 | nil => exact List.Perm.refl _
 | cons y r ih =>
  rw [DataW.insert]
  split
  ·exact List.Perm.refl _
  ·exact (ih.cons y).trans (List.Perm.swap x y r)
theorem foldr_perm (l : List (Lit × DataW Unit)) : (l.foldr DataW.insert []).Perm l := by
 induction l with
 | nil => exact List.Perm.refl _
 | cons x l ih => exact (insert_perm x _).trans (ih.cons x)
def datK (ks : List Lit) : DataW Unit := .map ((ks.map fun k => (k, (DataW.nil : DataW Unit))).foldr DataW.insert [])
theorem datK_size (ks : List Lit) : Maps.size (datK ks) = ks.length := by
 unfold datK
 rw [Maps.size_eq, (foldr_perm _).length_eq, List.length_map]
theorem owns_of {P : Program} {kt : TypeId} {w : World} {b c : Nat} {cur : Array MapEntry} {ks : List Lit} (hheap : w.heap[b]? = some (.map cur c)) (hl : ks.length = cur.size) (hm : cur.size ≤ maxLen)
  (hk : ∀ (i : Nat) (x : MapEntry), cur[i]? = some x → ∃ k, ks[i]? = some k ∧ keyOf P kt x.key = some k) (hb : ∀ x ∈ cur.toList, x.born < c) (hn : (cur.toList.map (·.born)).Nodup) (hd : (cur.toList.map (·.key)).Nodup) :
  w.ownsMap P kt noR b cur.size (datK ks) := by
 refine ⟨cur, c, hheap, ⟨hm, ⟨hb, hn, hd⟩, fun x hx => ?_⟩, Nat.le_refl _, ?_⟩
 ·obtain ⟨i, hi⟩ := List.getElem?_of_mem hx
  obtain ⟨k, _, h2⟩ := hk i x (by simpa using hi)
  exact ⟨(k, .nil), by simp [WideElems.rd, h2, noR]⟩
 ·unfold datK
  congr 2
  apply List.ext_getElem?
  intro i
  rw [List.getElem?_map, List.getElem?_map]
  by_cases hi : i < cur.size
  ·have hc : cur[i]? = some cur[i] := Array.getElem?_eq_getElem hi
   obtain ⟨k, h1, h2⟩ := hk i _ hc
   have h3 : cur.toList[i]? = some cur[i] := by simp [hi]
   rw [h1, h3]
   simp [WideElems.rg, WideElems.rd, h2, noR]
  ·rw [List.getElem?_eq_none (l := cur.toList) (by simp; omega), List.getElem?_eq_none (l := ks) (by omega)]; rfl
variable (G : Nat → Option (List AVal))
theorem SortedI_sat {α : Type} (ev : α → AVal) (I : FuncId)
  (hI : ∀ (Bm b nn : Nat) (D0 : DataW Unit) (R : Value → Option (DataW Unit × List MemPlace)) (w : World), Bm < w.heap.size → w.cell? ⟨Bm, 0, none⟩ = some (.map (some b)) → w.ownsMap Tryz.prog 3 R b nn D0 → Maps.size D0 ≤ maxLen → Maps.size D0 * 8 ≤ 140737488355328 →
   Calls Tryz.prog 84 #[.func (.func I) #[] #[.pointer (some ⟨Bm, 0, none⟩)]] w fun e w' => ∃ (v : Value) (ss : List Int), e = .returned v ∧ ss.Perm (intKeys D0) ∧ w'.ownsRow w.heap.size 3 1 v ss.length ((ss.mergeSort (fun x y => decide (x ≤ y))).map encZ) ∧ (v = .slice none 0 0 ↔ ss = []) ∧ Below w.heap.size w w')
  (l : ML Int α) (c : Nat) (hw : WFM l c) (hb : ∀ e ∈ l, -9223372036854775808 ≤ e.1 ∧ e.1 ≤ 9223372036854775807) (hl : l.length ≤ 100000) {h : Heap} {q p T : Nat} (hq : getRow h q 0 = some (T, 1, [.hm p])) (hp : mapAt h p = some (encM iA ev l, c)) :
  Sat (CT G) 84 [.fn (.func I) [] [.hp q 0 0 0]] h (fun r h' => r = .sl 1 (((l.map (·.1)).mergeSort (fun x y => decide (x ≤ y))).map iA) ∧ h' = h) := by
 intro B S μ w us fit rl
 obtain ⟨hul, hur⟩ := rl
 match us, hul, hur with
 | [v0], _, hur =>
  have r0 : Rep w S μ (.fn (.func I) [] [.hp q 0 0 0]) v0 := hur 0 _ rfl
  obtain ⟨cv, rfl, rc⟩ : ∃ cv, v0 = .func (.func I) #[] #[cv] ∧ Rep w S μ (.hp q 0 0 0) cv := by
   cases r0 with
   | fn _ _ _ xv cv h1 h2 h3 h4 =>
    match xv, cv, h1, h2, h4 with
    | [], [cv], _, _, h4 => exact ⟨cv, rfl, h4 0 _ rfl⟩
  obtain ⟨m, hm, rf⟩ := fit.row hq
  obtain ⟨b0, hb0, rfl⟩ := rc.hp_now hm rf.hver
  have hz : 0 * m.size + 0 = 0 := by simp
  rw [hz]
  obtain ⟨cur, hheap, hcell⟩ : ∃ cur, w.heap[b0]? = some (.cells cur T (0, 0)) ∧ ∃ x, cur[0]? = some x ∧ Rep w S μ (.hm p) x := by
   rcases rf.lies with ⟨_, h2⟩ | ⟨b, cur, h1, h2, _, _, _, h6⟩
   ·cases h2
   ·rw [hb0] at h1; cases h1
    obtain ⟨x, hx, rx⟩ := h6 0 (.hm p) 0 (.hm p) rfl rfl
    exact ⟨cur, h2, x, by simpa using hx, rx⟩
  obtain ⟨x, hx0, rx⟩ := hcell
  obtain ⟨m2, b2, cur2, hm2, hv2, hb2, rfl, hheap2, E⟩ := mapAt_fits fit rx hp
  have hcell0 : w.cell? ⟨b0, 0, none⟩ = some (.map (some b2)) := by simp [World.cell?, hheap, hx0]
  have hlen : cur2.size = l.length := by have := E.len; simpa [encM] using this
  have hget : ∀ (i : Nat) (y : MapEntry), cur2[i]? = some y → ∃ e, l[i]? = some e ∧ y.key = encZ e.1 ∧ y.born = e.2.2 := by
   intro i y hy
   have hi : i < l.length := by have := (Array.getElem?_eq_some_iff.1 hy).1; omega
   obtain ⟨y', hy', r1, _, r3⟩ := E.get i (iA l[i].1, ev l[i].2.1, l[i].2.2) (by rw [encM, List.getElem?_map, List.getElem?_eq_getElem hi]; rfl)
   rw [Array.getElem?_toList, hy] at hy'; cases hy'
   refine ⟨l[i], List.getElem?_eq_getElem hi, ?_, r3⟩
   exact r1.int_inv
  have hbk : cur2.toList.map (·.born) = l.map (·.2.2) := by
   apply List.ext_getElem?
   intro i
   rw [List.getElem?_map, List.getElem?_map, Array.getElem?_toList]
   cases hy : cur2[i]? with
   | none => rw [List.getElem?_eq_none (l := l) (by rw [Array.getElem?_eq_none_iff] at hy; omega)]; rfl
   | some y => obtain ⟨e, h1, _, h3⟩ := hget i y hy; rw [h1]; simp [h3]
  have hkk : cur2.toList.map (·.key) = l.map (fun e => encZ e.1) := by
   apply List.ext_getElem?
   intro i
   rw [List.getElem?_map, List.getElem?_map, Array.getElem?_toList]
   cases hy : cur2[i]? with
   | none => rw [List.getElem?_eq_none (l := l) (by rw [Array.getElem?_eq_none_iff] at hy; omega)]; rfl
   | some y => obtain ⟨e, h1, h2, _⟩ := hget i y hy; rw [h1]; simp [h2]
  have hown : w.ownsMap Tryz.prog 3 noR b2 cur2.size (datK (l.map fun e => kI e.1)) := by
   refine owns_of hheap2 (by simp [hlen]) (by simp [maxLen]; omega) (fun i y hy => ?_) (fun y hy => ?_) (by rw [hbk]; exact hw.borns) ?_
   ·obtain ⟨e, h1, h2, _⟩ := hget i y hy
    refine ⟨kI e.1, by rw [List.getElem?_map, h1]; rfl, ?_⟩
    have hu : Tryz.prog.underlying 3 = some (.int .i64) := by kernel_rfl
    have := hb e (List.mem_of_getElem? h1)
    have hwf : (Lit.int .i64 e.1).wf = true := by
     simp only [Lit.wf, Bool.and_eq_true, decide_eq_true_eq]
     exact this
    rw [h2]
    simp [keyOf, hu, mapKey, encZ, kI, hwf]
   ·obtain ⟨i, hi⟩ := List.getElem?_of_mem hy
    obtain ⟨e, h1, _, h3⟩ := hget i y (by simpa using hi)
    rw [h3]; exact hw.lt e (List.mem_of_getElem? h1)
   ·rw [hkk]
    have := hw.keys
    rw [show (l.map fun e => encZ e.1) = (l.map (·.1)).map encZ by simp]
    exact List.Pairwise.map encZ (fun a b hab he => hab (by first | exact encZ_inj he | (simpa [encStr] using he))) this
  have hsz : Maps.size (datK (l.map fun e => kI e.1)) = l.length := by rw [datK_size]; simp
  change OpOk Tryz.prog _ ((callFunc 84 #[Value.func (Fn.func I) #[] #[Value.pointer (some ⟨b0, 0, none⟩)]]).run Tryz.prog w)
  rw [run_enter (f := 84) Tryz.func84 rfl rfl]
  refine (hI b0 b2 _ _ _ w (Array.getElem?_eq_some_iff.1 hheap).1 hcell0 hown (by rw [hsz]; simp [maxLen]; omega) (by rw [hsz]; omega)).mono fun e w' ⟨v, ss, he, hperm, hrow, _, hbel⟩ => ?_
  refine ⟨v, he, ?_⟩
  have hk : (intKeys (datK (l.map fun e => kI e.1))).Perm (l.map (·.1)) := by
   unfold datK
   refine ((foldr_perm _).map _).trans ?_
   rw [List.map_map, List.map_map]
   exact List.Perm.of_eq (List.map_congr_left fun e _ => rfl)
  have hs : ss.mergeSort (fun x y => decide (x ≤ y)) = (l.map (·.1)).mergeSort (fun x y => decide (x ≤ y)) := mergeSort_of_perm_i (hperm.trans hk)
  rw [hs] at hrow
  have hl2 : ss.length = ((l.map (·.1)).mergeSort (fun x y => decide (x ≤ y))).length := by
   rw [← hs, (List.mergeSort_perm _ _).length_eq]
  rw [hl2] at hrow
  obtain ⟨S', f', st', r'⟩ := fits_row (av := iA) (enc := encZ) (fun _ => rfl) (fun _ => rfl) (fun _ _ _ _ => by first | exact .int _ _ | exact .str _) fit hrow hbel
  exact ⟨_, h, S', μ, ⟨rfl, rfl⟩, st', f', r'⟩
end Go.Av
namespace Go.Proofs
open Go.Shelf
def Tryz.lays99_ren : Go.Shelf.Ren := ⟨fun | 99 => 173 | 206 => 219 | n => n, fun | 9 => 9 | 4 => 4 | 3 => 3 | n => n, fun | n => n⟩
theorem Tryz.lays99 : Go.Proofs.Lays.n99 Tryz.prog Tryz.lays99_ren := {
 mixed := by kernel_rfl
 f99 := Tryz.func173.trans (congrArg some (by kernel_rfl))
 f206 := Tryz.func219.trans (congrArg some (by kernel_rfl))
 t3 := Tryz.underlying3
 a3 := Tryz.isAgg3
 z3 := Tryz.sizeOf3
 v3 := Tryz.zeroValue3
 t4 := Tryz.underlying4
 a4 := Tryz.isAgg4
 z4 := Tryz.sizeOf4
 v4 := Tryz.zeroValue4
 t9 := Tryz.underlying9
 a9 := Tryz.isAgg9
 z9 := Tryz.sizeOf9
 v9 := Tryz.zeroValue9 }
open Go.RowKit Go.Lib in
theorem Tryz.strings_HasPrefix (s p : ByteArray) (w : World) :
  Calls Tryz.prog 173 #[.string s, .string p] w fun e w' => e = .returned (.bool (Lib.hasPrefix s.data.toList p.data.toList)) ∧ w' = w := Any.strings_HasPrefix Tryz.lays99 s p w
def Tryz.lays229_ren : Go.Shelf.Ren := ⟨fun | 229 => 251 | n => n, fun | 9 => 9 | 40 => 264 | 31 => 80 | 152 => 283 | 3 => 3 | 0 => 0 | 4 => 4 | 21 => 21 | 154 => 285 | n => n, fun | n => n⟩
theorem Tryz.lays229 : Go.Proofs.Lays.n229 Tryz.prog Tryz.lays229_ren := {
 mixed := by kernel_rfl
 f229 := Tryz.func251.trans (congrArg some (by kernel_rfl))
 t0 := Tryz.underlying0
 a0 := Tryz.isAgg0
 z0 := Tryz.sizeOf0
 v0 := Tryz.zeroValue0
 t3 := Tryz.underlying3
 a3 := Tryz.isAgg3
 z3 := Tryz.sizeOf3
 v3 := Tryz.zeroValue3
 t4 := Tryz.underlying4
 a4 := Tryz.isAgg4
 z4 := Tryz.sizeOf4
 v4 := Tryz.zeroValue4
 t9 := Tryz.underlying9
 a9 := Tryz.isAgg9
 z9 := Tryz.sizeOf9
 v9 := Tryz.zeroValue9
 t21 := Tryz.underlying21
 a21 := Tryz.isAgg21
 z21 := Tryz.sizeOf21
 v21 := Tryz.zeroValue21
 t31 := Tryz.underlying80
 a31 := Tryz.isAgg80
 z31 := Tryz.sizeOf80
 v31 := Tryz.zeroValue80
 t40 := Tryz.underlying264
 a40 := Tryz.isAgg264
 z40 := Tryz.sizeOf264
 v40 := Tryz.zeroValue264
 t152 := Tryz.underlying283
 a152 := Tryz.isAgg283
 z152 := Tryz.sizeOf283
 v152 := Tryz.zeroValue283
 t154 := Tryz.underlying285
 a154 := Tryz.isAgg285
 z154 := Tryz.sizeOf285
 v154 := Tryz.zeroValue285 }
open Go.RowKit Go.Lib in
theorem Tryz.strings_FieldsFunc (g : Nat) (lb : Array Value) (eg : ∀ args w, (callFunc g args).run Tryz.prog w = .ok (.enter g args) w) (p : Nat → Bool) (s : ByteArray) (w : World) (hs : s.size ≤ 4294967296) (hp : PredAt Tryz.prog g lb encR p w) :
  Calls Tryz.prog 251 #[.string s, .func (.func g) #[] lb] w fun e w' => ∃ A, e = .returned (.slice (some ⟨A, 0, none⟩) (Lib.goFieldsP p s).length (Lib.goFieldsP p s).length) ∧ w.heap.size ≤ A ∧
   w'.ownsRow w.heap.size 9 1 (.slice (some ⟨A, 0, none⟩) (Lib.goFieldsP p s).length (Lib.goFieldsP p s).length) (Lib.goFieldsP p s).length ((Lib.goFieldsP p s).map Value.string) ∧ Below w.heap.size w w' := Any.strings_FieldsFunc Tryz.lays229 g lb eg p s w hs hp (by kernel_rfl) (by kernel_rfl)
def Tryz.laysNm224_ren : Go.Shelf.Ren := ⟨fun | 24 => 98 | n => n, fun | 24 => 80 | 9 => 9 | 3 => 3 | 4 => 4 | 0 => 0 | n => n, fun | n => n⟩
theorem Tryz.laysNm224 : Go.Proofs.Lays2.n24 Tryz.prog Tryz.laysNm224_ren := {
 mixed := by kernel_rfl
 f24 := Tryz.func98.trans (congrArg some (by kernel_rfl))
 t0 := Tryz.underlying0
 a0 := Tryz.isAgg0
 z0 := Tryz.sizeOf0
 v0 := Tryz.zeroValue0
 t3 := Tryz.underlying3
 a3 := Tryz.isAgg3
 z3 := Tryz.sizeOf3
 v3 := Tryz.zeroValue3
 t4 := Tryz.underlying4
 a4 := Tryz.isAgg4
 z4 := Tryz.sizeOf4
 v4 := Tryz.zeroValue4
 t9 := Tryz.underlying9
 a9 := Tryz.isAgg9
 z9 := Tryz.sizeOf9
 v9 := Tryz.zeroValue9
 t24 := Tryz.underlying80
 a24 := Tryz.isAgg80
 z24 := Tryz.sizeOf80
 v24 := Tryz.zeroValue80
 i9 := by kernel_rfl }
open Go.RowKit Go.Lib Go.Sort in
theorem Tryz.slices_Delete_string (blk off cap i j : Nat) (zs : List (List UInt8)) (w : World) (hH : Holds encStr w blk off zs.toArray) (hcap : zs.length ≤ cap) (hm : cap ≤ 9223372036854775807) (hij : i ≤ j) (hj : j ≤ zs.length) :
  Calls Tryz.prog 98 #[.slice (some ⟨blk, off, none⟩) zs.length cap, .int .i64 i, .int .i64 j] w fun e w' => e = .returned (.slice (some ⟨blk, off, none⟩) (zs.length - (j - i)) cap) ∧ ∃ q, w' = putRow encStr (Sort.ahead w q) blk off (zs.take i ++ zs.drop j ++ List.replicate (j - i) []).toArray := Any.slices_Delete_string Tryz.laysNm224 blk off cap i j zs w hH hcap hm hij hj
end Go.Proofs
namespace Go.Av
open Go Go.Proofs Go.RowKit Go.Shelf Go.Lib
set_option maxRecDepth 100000
def letF (r : Nat) : Bool :=
 if r < 192 then (decide (97 ≤ r) && decide (r ≤ 122)) || (decide (48 ≤ r) && decide (r ≤ 57))
 else !(decide (r = 215) || decide (r = 247) || decide (r = 65533)) && !((decide (8192 ≤ r) && decide (r ≤ 8303)) || (decide (12288 ≤ r) && decide (r ≤ 12351)))
set_option maxHeartbeats 4000000 in
theorem letter_gives (W : World) (r : Nat) : Calls Tryz.prog 254 #[encR r] W fun e w' => e = .returned (.bool (letF r)) ∧ ∃ q, w' = W.drewN q := by
 by_cases h0 : r < 192
 ·by_cases h1 : 97 ≤ r <;> by_cases h2 : r ≤ 122 <;> by_cases h3 : 48 ≤ r <;> by_cases h4 : r ≤ 57
  all_goals first | (exfalso; omega) | skip
  all_goals
   have z0 : (r : Int) < 192 ↔ r < 192 := by omega
   have z1 : (97 : Int) ≤ (r : Int) ↔ 97 ≤ r := by omega
   have z2 : (r : Int) ≤ 122 ↔ r ≤ 122 := by omega
   have z3 : (48 : Int) ≤ (r : Int) ↔ 48 ≤ r := by omega
   have z4 : (r : Int) ≤ 57 ↔ r ≤ 57 := by omega
   go_enter Tryz.func254, Tryz.ntmps254
   go_wp2
   all_goals first | (exfalso; omega) | (go_ret; exact ⟨by simp [letF, h0, h1, h2, h3, h4], 0, rfl⟩)
 ·by_cases h1 : r = 215
  ·subst h1
   go_enter Tryz.func254, Tryz.ntmps254
   go_wp2
   all_goals first | (exfalso; omega) | (go_ret; exact ⟨by simp [letF], 0, rfl⟩)
  by_cases h2 : r = 247
  ·subst h2
   go_enter Tryz.func254, Tryz.ntmps254
   go_wp2
   all_goals first | (exfalso; omega) | (go_ret; exact ⟨by simp [letF], 0, rfl⟩)
  by_cases h3 : r = 65533
  ·subst h3
   go_enter Tryz.func254, Tryz.ntmps254
   go_wp2
   all_goals first | (exfalso; omega) | (go_ret; exact ⟨by simp [letF], 0, rfl⟩)
  by_cases h4 : 8192 ≤ r <;> by_cases h5 : r ≤ 8303 <;> by_cases h6 : 12288 ≤ r <;> by_cases h7 : r ≤ 12351
  all_goals first | (exfalso; omega) | skip
  all_goals
   have z0 : (r : Int) < 192 ↔ r < 192 := by omega
   have z1 : (r : Int) = 215 ↔ r = 215 := by omega
   have z2 : (r : Int) = 247 ↔ r = 247 := by omega
   have z3 : (r : Int) = 65533 ↔ r = 65533 := by omega
   have z4 : (8192 : Int) ≤ (r : Int) ↔ 8192 ≤ r := by omega
   have z5 : (r : Int) ≤ 8303 ↔ r ≤ 8303 := by omega
   have z6 : (12288 : Int) ≤ (r : Int) ↔ 12288 ≤ r := by omega
   have z7 : (r : Int) ≤ 12351 ↔ r ≤ 12351 := by omega
   go_enter Tryz.func254, Tryz.ntmps254
   go_wp2
   all_goals first | (exfalso; omega) | (exfalso; simp only [beq_iff_eq] at *; omega) | (go_ret; exact ⟨by simp [letF, h0, h1, h2, h3, h4, h5, h6, h7], 0, rfl⟩)
set_option maxHeartbeats 4000000 in
theorem sep_gives (w : World) : PredAt Tryz.prog 253 #[] encR (fun r => !letF r) w := fun W r _ => by
 unfold FnGives
 have hL := letter_gives
 go_enter Tryz.func253, Tryz.ntmps253
 go_wp2_with (go_at_call 254; refine (hL _ _).mono ?_; rintro e w' ⟨rfl, q, rfl⟩)
 go_ret
 exact ⟨rfl, _, rfl⟩
end Go.Av
namespace Go.Av
open Go Go.Proofs Go.RowKit
set_option maxRecDepth 100000
variable (G : Nat → Option (List AVal))
theorem NoEscape_sat (x : AVal) (h : Heap) : Sat (CT G) 288 [x] h (fun r h' => r = x ∧ h' = h) := by
 refine Sat.of_extern (fn := Tryz.f288) (ex := Extern.AbiNoEscape.same) Tryz.func288 (by kernel_rfl) (by kernel_rfl) (by kernel_rfl) (by kernel_rfl) fun B S μ w vs f r => ?_
 obtain ⟨hl, hr⟩ := r
 match vs, hl, hr with
 | [v], _, hr =>
  refine ⟨v, w, Lib.run_noEscape w v, x, h, S, μ, ⟨rfl, rfl⟩, Step.refl _ _ _ _, f, ?_⟩
  simpa using hr 0 x rfl
end Go.Av
namespace Go.Av
open Go Go.Proofs Go.RowKit
set_option maxRecDepth 100000
variable (G : Nat → Option (List AVal))
theorem below_same {w w' : World} (e : w' = w) : Below w.heap.size w w' := by rw [e]; exact Below.refl _ _
end Go.Av
namespace Go.Av
open Go Go.Proofs Go.RowKit
set_option maxRecDepth 100000
variable (G : Nat → Option (List AVal))
variable {G}
variable (G)
theorem HasPrefix_sat (s p : Bs) (h : Heap) :
  Sat (CT G) 173 [.str s, .str p] h (fun r h' => r = .bool (Lib.hasPrefix s p) ∧ h' = h) := by
 refine Sat.of_calls (fn := Tryz.f173) Tryz.func173 (by kernel_rfl) (by kernel_rfl) rfl rfl fun B S μ w f => ?_
 refine (Tryz.strings_HasPrefix ⟨s.toArray⟩ ⟨p.toArray⟩ w).mono fun e w' ⟨h1, h2⟩ => ⟨h1, below_same h2⟩
end Go.Av
namespace Go.Av
open Go Go.Proofs Go.RowKit
attribute [local irreducible] WP WPl WPix Sat
set_option maxRecDepth 100000
set_option maxHeartbeats 1000000
variable (G : Nat → Option (List AVal))
def bytA (b : UInt8) : AVal := .int .u8 b.toNat
def bldR (a : AVal) (q v : Nat) (s : Bs) : Blk := .row 288 2 0 [.agg [a, .hs q v 0 s.length true]]
def bufR (v : Nat) (s : Bs) : Blk := .row 5 1 v (s.map bytA)
def bldA (a : AVal) (p : Nat) : Prop := a = .nil (.pointer none) ∨ a = .hp p 0 0 0
theorem bytesA_map (s : Bs) : bytesA (s.map bytA) = some s := by
 induction s with
 | nil => rfl
 | cons b s ih =>
  have hb : (UInt8.ofNat (b.toNat : Int).toNat) = b := by simp
  simp only [List.map_cons, bytA, bytesA, hb, if_true]
  show (bytesA (s.map bytA)).map _ = _
  rw [ih]; rfl
@[go_sem] theorem getRow_bld (a : AVal) (q v : Nat) (s : Bs) (l : Heap) : getRow (bldR a q v s :: l) 0 0 = some (288, 2, [.agg [a, .hs q v 0 s.length true]]) := rfl
theorem getRow_buf (v : Nat) (s : Bs) (l : Heap) : getRow (bufR v s :: l) 0 v = some (5, 1, s.map bytA) := by simp [getRow, bufR]
theorem ptrConv_to : ptrConv Tryz.prog 286 300 288 2 = true := by kernel_rfl
theorem ptrConv_from : ptrConv Tryz.prog 300 286 288 2 = true := by kernel_rfl
theorem ptrT_b : ptrT Tryz.prog 286 = true := by kernel_rfl
attribute [go_sem] ptrConv_to ptrConv_from
theorem bld_clo (n p q v : Nat) (s : Bs) (hp : p < n) (hq : q < n) : CloB n (bldR (.hp p 0 0 0) q v s) := by
 intro r hr
 simp only [List.mem_singleton] at hr
 subst hr
 refine .agg _ fun c hc => ?_
 simp only [List.mem_cons, List.mem_nil_iff, or_false] at hc
 rcases hc with rfl | rfl
 ·exact .hp _ _ _ _ hp
 ·exact .hs _ _ _ _ _ hq
theorem buf_clo (n v : Nat) (s : Bs) : CloB n (bufR v s) := by
 intro r hr
 obtain ⟨b, _, rfl⟩ := List.mem_map.1 hr
 exact .int _ _
theorem abin_ptr (h : Heap) (p : Nat) (hr : (getRow h p 0).isSome = true) : abin Tryz.prog h .neq 286 (.hp p 0 0 0) (.hp p 0 0 0) = some (.bool false) := by
 simp [abin, hr, ptrT_b]
theorem abin_ptrn (h : Heap) (p : Nat) (x : TypeId × Nat × List AVal) (hr : getRow h p 0 = some x) : abin Tryz.prog h .eql 286 (.hp p 0 0 0) (.nil (.pointer none)) = some (.bool false) := by
 have hk : nilKind Tryz.prog 286 (.pointer none) = true := by kernel_rfl
 simp [abin, hk, aeqNil, hr]
theorem abin_nn (h : Heap) : abin Tryz.prog h .eql 286 (.nil (.pointer none)) (.nil (.pointer none)) = some (.bool true) := by
 have hk : nilKind Tryz.prog 286 (.pointer none) = true := by kernel_rfl
 simp [abin, hk, aeqNil]
theorem keep2 {h j : Heap} {x y x' y' : Blk} {n : Nat} (hx : CloB n x') (hy : CloB n y') : ∀ (p : Nat) (k : Blk), (h ++ x' :: y' :: j)[p]? = some k → (h ++ x :: y :: j)[p]? = some k ∨ CloB n k := by
 intro p k hk
 rcases Nat.lt_or_ge p h.length with h1 | h1
 ·rw [List.getElem?_append_left h1] at hk ⊢; exact .inl hk
 ·rw [List.getElem?_append_right h1] at hk ⊢
  match p - h.length, hk with
  | 0, hk => simp at hk; subst hk; exact .inr hx
  | 1, hk => simp at hk; subst hk; exact .inr hy
  | i + 2, hk => exact .inl (by simpa using hk)
def bldH (h j : Heap) (a : AVal) (v : Nat) (s : Bs) : Heap := h ++ bldR a (h.length + 1) v s :: bufR v s :: j
theorem bldH_len (h j : Heap) (a : AVal) (v : Nat) (s : Bs) : (bldH h j a v s).length = h.length + (2 + j.length) := by simp [bldH]; omega
theorem bldH_keep (h j : Heap) (a : AVal) (v v' : Nat) (s s' : Bs) : ∀ (p : Nat) (k : Blk), (bldH h j (.hp h.length 0 0 0) v' s')[p]? = some k → (bldH h j a v s)[p]? = some k ∨ CloB (bldH h j a v s).length k := by
 rw [bldH_len]
 exact keep2 (bld_clo _ _ _ _ _ (by omega) (by omega)) (buf_clo _ _ _)
theorem copyCheck_sat (a : AVal) (h j : Heap) (v : Nat) (s : Bs) (ha : bldA a h.length) :
  Sat (CT G) 284 [.hp h.length 0 0 0] (bldH h j a v s) (fun r h' => r = .tup [] ∧ h' = bldH h j (.hp h.length 0 0 0) v s) := by
 have hK := bldH_keep h j a v v s s
 have hl := (bldH_len h j (.hp h.length 0 0 0) v s).trans (bldH_len h j a v s).symm
 have hfin : ∀ t', Fin (bldH h j a v s) (bldH h j (.hp h.length 0 0 0) v s) (fun r h' => r = .tup [] ∧ h' = bldH h j (.hp h.length 0 0 0) v s) t' ∨ True := fun _ => .inr trivial
 have end_ : Fin (bldH h j a v s) (bldH h j (.hp h.length 0 0 0) v s) (fun r h' => r = .tup [] ∧ h' = bldH h j (.hp h.length 0 0 0) v s) (.tup []) := Fin.keep0 hl hK (.tup _ (by simp)) ⟨rfl, rfl⟩
 clear hfin hK hl
 unfold bldH at *
 refine sb [] (fn := Tryz.f284) Tryz.func284 ?_
 intro Q hQ
 (repeat (first | refine w1 (fun K hK => ?_) | refine w2 ?_ | refine w3 ?_ | ((first | refine w4 ?_ | refine wD ?_ | refine w5 ?_ | refine w6 ?_ | refine w7 ?_); try refine sqo trivial ?_) | (refine w8 ?_; refine sqo trivial ?_; refine w9 ?_) | ((first | refine hK _ _ (w0 ?_) | (clear hK K; refine hK _ _ (w0 ?_)) | (clear hK K; clear hK K; refine hK _ _ (w0 ?_))); clear hK K)))
 rcases ha with rfl | rfl
 ·rw [binK_nnil, abin_nn]
  simp (disch := first | omega | (simp only [go_sem, ↓reduceIte, Nat.reduceEqDiff]; done) | fail) only [go_sem, ↓reduceIte, Int.reduceToNat, Int.reduceLE, Int.reduceLT, Int.reduceSub, Int.reduceAdd, Nat.reduceEqDiff, Nat.reduceAdd, Nat.reduceLeDiff, Nat.reduceLT, Nat.reduceMul, Nat.reduceSub]
  (repeat (first | refine w1 (fun K hK => ?_) | refine w2 ?_ | refine w3 ?_ | ((first | refine w4 ?_ | refine wD ?_ | refine w5 ?_ | refine w6 ?_ | refine w7 ?_); try refine sqo trivial ?_) | (refine w8 ?_; refine sqo trivial ?_; refine w9 ?_) | ((first | refine hK _ _ (w0 ?_) | (clear hK K; refine hK _ _ (w0 ?_)) | (clear hK K; clear hK K; refine hK _ _ (w0 ?_))); clear hK K)))
  refine ⟨by simp, ?_⟩
  refine (NoEscape_sat G _ _).mono ?_
  rintro r h' ⟨rfl, rfl⟩
  simp (disch := first | omega | (simp only [go_sem, ↓reduceIte, Nat.reduceEqDiff]; done) | fail) only [go_sem, ↓reduceIte, Int.reduceToNat, Int.reduceLE, Int.reduceLT, Int.reduceSub, Int.reduceAdd, Nat.reduceEqDiff, Nat.reduceAdd, Nat.reduceLeDiff, Nat.reduceLT, Nat.reduceMul, Nat.reduceSub, List.cons_ne_nil]
  refine (hQ _ _ ?_).2
  simp (disch := first | omega | (simp only [go_sem, ↓reduceIte, Nat.reduceEqDiff]; done) | fail) only [go_sem, ↓reduceIte, Int.reduceToNat, Int.reduceLE, Int.reduceLT, Int.reduceSub, Int.reduceAdd, Nat.reduceEqDiff, Nat.reduceAdd, Nat.reduceLeDiff, Nat.reduceLT, Nat.reduceMul, Nat.reduceSub]
  exact end_
 ·rw [binK_nhp, abin_ptrn _ _ _ (by simp (disch := first | omega | (simp only [go_sem, ↓reduceIte, Nat.reduceEqDiff]; done) | fail) only [go_sem, ↓reduceIte, Int.reduceToNat, Int.reduceLE, Int.reduceLT, Int.reduceSub, Int.reduceAdd, Nat.reduceEqDiff, Nat.reduceAdd, Nat.reduceLeDiff, Nat.reduceLT, Nat.reduceMul, Nat.reduceSub]; rfl)]
  simp (disch := first | omega | (simp only [go_sem, ↓reduceIte, Nat.reduceEqDiff]; done) | fail) only [go_sem, ↓reduceIte, Int.reduceToNat, Int.reduceLE, Int.reduceLT, Int.reduceSub, Int.reduceAdd, Nat.reduceEqDiff, Nat.reduceAdd, Nat.reduceLeDiff, Nat.reduceLT, Nat.reduceMul, Nat.reduceSub]
  (repeat (first | refine w1 (fun K hK => ?_) | refine w2 ?_ | refine w3 ?_ | ((first | refine w4 ?_ | refine wD ?_ | refine w5 ?_ | refine w6 ?_ | refine w7 ?_); try refine sqo trivial ?_) | (refine w8 ?_; refine sqo trivial ?_; refine w9 ?_) | ((first | refine hK _ _ (w0 ?_) | (clear hK K; refine hK _ _ (w0 ?_)) | (clear hK K; clear hK K; refine hK _ _ (w0 ?_))); clear hK K)))
  rw [abin_ptr _ _ (by exact zqo trivial)]
  simp (disch := first | omega | (simp only [go_sem, ↓reduceIte, Nat.reduceEqDiff]; done) | fail) only [go_sem, ↓reduceIte, Int.reduceToNat, Int.reduceLE, Int.reduceLT, Int.reduceSub, Int.reduceAdd, Nat.reduceEqDiff, Nat.reduceAdd, Nat.reduceLeDiff, Nat.reduceLT, Nat.reduceMul, Nat.reduceSub]
  (repeat (first | refine w1 (fun K hK => ?_) | refine w2 ?_ | refine w3 ?_ | ((first | refine w4 ?_ | refine wD ?_ | refine w5 ?_ | refine w6 ?_ | refine w7 ?_); try refine sqo trivial ?_) | (refine w8 ?_; refine sqo trivial ?_; refine w9 ?_) | ((first | refine hK _ _ (w0 ?_) | (clear hK K; refine hK _ _ (w0 ?_)) | (clear hK K; clear hK K; refine hK _ _ (w0 ?_))); clear hK K)))
  refine (hQ _ _ ?_).2
  simp (disch := first | omega | (simp only [go_sem, ↓reduceIte, Nat.reduceEqDiff]; done) | fail) only [go_sem, ↓reduceIte, Int.reduceToNat, Int.reduceLE, Int.reduceLT, Int.reduceSub, Int.reduceAdd, Nat.reduceEqDiff, Nat.reduceAdd, Nat.reduceLeDiff, Nat.reduceLT, Nat.reduceMul, Nat.reduceSub]
  exact end_
theorem bytes_sz : byT Tryz.prog 5 = some 1 := by kernel_rfl
theorem elems_sl1 (h : Heap) (es : List AVal) : elemsOf h 1 (.sl 1 es) = some es := by simp [elemsOf]
theorem zro_u8 : (zroT Tryz.prog 5).map (fun z => z.cells.length) = some 1 := by simp only [go_sem]
theorem WriteByte_sat (a : AVal) (h j : Heap) (v : Nat) (s : Bs) (b : UInt8) (ha : bldA a h.length) (hs : s.length + 1 ≤ 1073741824) :
  Sat (CT G) 280 [.hp h.length 0 0 0, .int .u8 b.toNat] (bldH h j a v s) (fun r h' => r = .nil .nilIface ∧ h' = bldH h j (.hp h.length 0 0 0) (v + 1) (s ++ [b])) := by
 have end_ : Fin (bldH h j a v s) (bldH h j (.hp h.length 0 0 0) (v + 1) (s ++ [b])) (fun r h' => r = .nil .nilIface ∧ h' = bldH h j (.hp h.length 0 0 0) (v + 1) (s ++ [b])) (.nil .nilIface) :=
  Fin.keep0 ((bldH_len ..).trans (bldH_len ..).symm) (bldH_keep _ _ _ _ _ _ _) (.nil _) ⟨rfl, rfl⟩
 refine sb [.tmp 4] (fn := Tryz.f280) Tryz.func280 ?_
 intro Q hQ
 refine wko trivial ?_
 refine (copyCheck_sat G a h j v s ha).mono ?_
 rintro r h' ⟨rfl, rfl⟩
 unfold bldH at *
 try refine sqo trivial ?_
 refine wko trivial ?_
 refine appK_row (.inl rfl) (by exact zqo trivial) (by exact zqo trivial) bytes_sz zro_u8 (by omega) (elems_sl1 _ _) (by simp (disch := first | omega | (simp only [go_sem, ↓reduceIte, Nat.reduceEqDiff]; done) | fail) only [go_sem, ↓reduceIte, Int.reduceToNat, Int.reduceLE, Int.reduceLT, Int.reduceSub, Int.reduceAdd, Nat.reduceEqDiff, Nat.reduceAdd, Nat.reduceLeDiff, Nat.reduceLT, Nat.reduceMul, Nat.reduceSub, getRow_buf]; rfl) (by simp) ?_ ?_
 ·simp [maxLen]; omega
 simp (disch := first | omega | (simp only [go_sem, ↓reduceIte, Nat.reduceEqDiff]; done) | fail) only [go_sem, ↓reduceIte, Int.reduceToNat, Int.reduceLE, Int.reduceLT, Int.reduceSub, Int.reduceAdd, Nat.reduceEqDiff, Nat.reduceAdd, Nat.reduceLeDiff, Nat.reduceLT, Nat.reduceMul, Nat.reduceSub]
 refine wko trivial ?_
 refine eeo hQ trivial ?_
 simp only [bldR, bufR, List.length_append, List.map_append, List.length_cons, List.length_nil, List.map_cons, List.map_nil, bytA, Nat.zero_add] at end_ ⊢
 exact end_
theorem Len_sat (a : AVal) (h j : Heap) (v : Nat) (s : Bs) : Sat (CT G) 278 [.hp h.length 0 0 0] (bldH h j a v s) (fun r h' => r = .int .i64 s.length ∧ h' = bldH h j a v s) := by
 have end_ : Fin (bldH h j a v s) (bldH h j a v s) (fun r h' => r = .int .i64 s.length ∧ h' = bldH h j a v s) (.int .i64 s.length) := Fin.same (.int _ _) ⟨rfl, rfl⟩
 unfold bldH at *
 have F := @getRow_buf
 refine sb [.tmp 2] (fn := Tryz.f278) Tryz.func278 ?_
 intro Q hQ
 refine wko F ?_
 refine wko F ?_
 refine eeo hQ F ?_
 exact end_
theorem bptr_b : bptr Tryz.prog 299 5 = true := by kernel_rfl
theorem String_sat (a : AVal) (h j : Heap) (v : Nat) (s : Bs) : Sat (CT G) 274 [.hp h.length 0 0 0] (bldH h j a v s) (fun r h' => r = .str s ∧ ∃ b, h' = h ++ bldR a (h.length + 1) v s :: b :: j) := by
 unfold bldH
 have F := @getRow_buf
 refine sb [.tmp 2] (fn := Tryz.f274) Tryz.func274 ?_
 intro Q hQ
 refine wko F ?_
 have fin : ∀ b, Fin (h ++ bldR a (h.length + 1) v s :: bufR v s :: j) (h ++ bldR a (h.length + 1) v s :: b :: j) (fun r h' => r = .str s ∧ ∃ b, h' = h ++ bldR a (h.length + 1) v s :: b :: j) (.str s) ∨ ¬ (b = bufR v s ∨ b = .dead) := fun b => by
  by_cases hb : b = bufR v s ∨ b = .dead
  ·refine .inl (Fin.keep0 (by simp) (fun p k hk => ?_) (.str _) ⟨rfl, b, rfl⟩)
   rcases Nat.lt_or_ge p h.length with h1 | h1
   ·rw [List.getElem?_append_left h1] at hk ⊢; exact .inl hk
   ·rw [List.getElem?_append_right h1] at hk ⊢
    match p - h.length, hk with
    | 0, hk => exact .inl (by simpa using hk)
    | 1, hk =>
     simp at hk; subst hk
     rcases hb with rfl | rfl
     ·exact .inl (by simp)
     ·exact .inr trivial
    | i + 2, hk => exact .inl (by simpa using hk)
  ·exact .inr hb
 rcases Nat.eq_zero_or_pos s.length with h0 | h0
 ·have hs : s = [] := List.length_eq_zero_iff.1 h0
  subst hs
  simp (disch := first | omega | (simp only [go_sem, ↓reduceIte, Nat.reduceEqDiff]; done) | fail) only [go_sem, ↓reduceIte, Int.reduceToNat, Int.reduceLE, Int.reduceLT, Int.reduceSub, Int.reduceAdd, Nat.reduceEqDiff, Nat.reduceAdd, Nat.reduceLeDiff, Nat.reduceLT, Nat.reduceMul, Nat.reduceSub, F, List.length_nil, Nat.lt_irrefl, Int.natCast_zero]
  refine wko F ?_
  refine eeo hQ F ?_
  rcases fin (bufR v []) with f | f
  ·exact f
  ·exact absurd (.inl rfl) f
 ·simp (disch := first | omega | (simp only [go_sem, ↓reduceIte, Nat.reduceEqDiff]; done) | fail) only [go_sem, ↓reduceIte, Int.reduceToNat, Int.reduceLE, Int.reduceLT, Int.reduceSub, Int.reduceAdd, Nat.reduceEqDiff, Nat.reduceAdd, Nat.reduceLeDiff, Nat.reduceLT, Nat.reduceMul, Nat.reduceSub, F, h0]
  refine ustrK_hp h0 (by simp (disch := first | omega | (simp only [go_sem, ↓reduceIte, Nat.reduceEqDiff]; done) | fail) only [go_sem, ↓reduceIte, Int.reduceToNat, Int.reduceLE, Int.reduceLT, Int.reduceSub, Int.reduceAdd, Nat.reduceEqDiff, Nat.reduceAdd, Nat.reduceLeDiff, Nat.reduceLT, Nat.reduceMul, Nat.reduceSub, F]; rfl) bptr_b (by simp) (by rw [List.take_of_length_le (by simp)]; exact bytesA_map s) ?_
  try refine sqo F ?_
  refine wko F ?_
  refine eeo hQ F ?_
  rcases fin .dead with f | f
  ·exact f
  ·exact absurd (.inr rfl) f
end Go.Av
namespace Go.Av
open Go Go.Proofs Go.RowKit
attribute [local irreducible] WP WPl WPix Sat
set_option maxRecDepth 100000
set_option maxHeartbeats 1000000
variable (G : Nat → Option (List AVal))
def enc (r : Int) : Bs := (Utf8.encode r).data.toList
def Rune (r : Int) : Prop := 0 ≤ r ∧ (r < 55296 ∨ 57343 < r ∧ r ≤ 1114111)
theorem Rune.valid {r : Int} (h : Rune r) : Utf8.valid r = true := by
 unfold Utf8.valid; obtain ⟨h0, h1⟩ := h; simp; omega
theorem bytA_ofNat (n : Nat) (h : n < 256) : bytA (UInt8.ofNat n) = .int .u8 n := by
 simp [bytA]; omega
theorem enc1 {r : Int} (h0 : 0 ≤ r) (h1 : r < 128) : (enc r).map bytA = [.int .u8 r] := by
 have hv := Rune.valid (r := r) ⟨h0, by omega⟩
 unfold enc Utf8.encode
 simp only [hv, if_true]
 rw [if_pos (by omega)]
 simp only [List.map_cons, List.map_nil]
 rw [bytA_ofNat _ (by omega)]
 simp only [List.cons.injEq, AVal.int.injEq, and_true, true_and]
 omega
theorem enc2 {r : Int} (h0 : 128 ≤ r) (h1 : r < 2048) : (enc r).map bytA = [.int .u8 (192 + r / 64), .int .u8 (128 + r % 64)] := by
 have hv := Rune.valid (r := r) ⟨by omega, by omega⟩
 unfold enc Utf8.encode
 simp only [hv, if_true]
 rw [if_neg (by omega), if_pos (by omega)]
 simp only [List.map_cons, List.map_nil]
 rw [bytA_ofNat _ (by omega), bytA_ofNat _ (by omega)]
 simp only [List.cons.injEq, AVal.int.injEq, and_true, true_and]
 omega
theorem enc3 {r : Int} (h : Rune r) (h0 : 2048 ≤ r) (h1 : r < 65536) : (enc r).map bytA = [.int .u8 (224 + r / 4096), .int .u8 (128 + r / 64 % 64), .int .u8 (128 + r % 64)] := by
 have hv := h.valid
 unfold enc Utf8.encode
 simp only [hv, if_true]
 rw [if_neg (by omega), if_neg (by omega), if_pos (by omega)]
 simp only [List.map_cons, List.map_nil]
 rw [bytA_ofNat _ (by omega), bytA_ofNat _ (by omega), bytA_ofNat _ (by omega)]
 simp only [List.cons.injEq, AVal.int.injEq, and_true, true_and]
 omega
theorem enc4 {r : Int} (h0 : 65536 ≤ r) (h1 : r ≤ 1114111) : (enc r).map bytA = [.int .u8 (240 + r / 262144), .int .u8 (128 + r / 4096 % 64), .int .u8 (128 + r / 64 % 64), .int .u8 (128 + r % 64)] := by
 have hv := Rune.valid (r := r) ⟨by omega, by omega⟩
 unfold enc Utf8.encode
 simp only [hv, if_true]
 rw [if_neg (by omega), if_neg (by omega), if_neg (by omega)]
 simp only [List.map_cons, List.map_nil]
 rw [bytA_ofNat _ (by omega), bytA_ofNat _ (by omega), bytA_ofNat _ (by omega), bytA_ofNat _ (by omega)]
 simp only [List.cons.injEq, AVal.int.injEq, and_true, true_and]
 omega
theorem enc_len (r : Int) : 1 ≤ (enc r).length ∧ (enc r).length ≤ 4 := by
 unfold enc Utf8.encode
 simp only []
 generalize (if Utf8.valid r = true then r.toNat else Utf8.runeError) = c
 by_cases h1 : c < 128
 ·rw [if_pos h1]; exact ⟨by simp, by simp⟩
 ·rw [if_neg h1]
  by_cases h2 : c < 2048
  ·rw [if_pos h2]; exact ⟨by simp, by simp⟩
  ·rw [if_neg h2]
   by_cases h3 : c < 65536
   ·rw [if_pos h3]; exact ⟨by simp, by simp⟩
   ·rw [if_neg h3]; exact ⟨by simp, by simp⟩
theorem shr_i32 (P : Program) (h : Heap) (T : TypeId) (a b : Int) (k : IntKind) (hb : 0 ≤ b) (hb2 : b < 32) : abin P h .shr T (.int .i32 a) (.int k b) = some (.int .i32 (a / 2 ^ b.toNat)) := by
 simp only [abin]
 rw [if_neg (by omega)]
 have : min b.toNat (IntKind.bits .i32) = b.toNat := by simp [IntKind.bits]; omega
 rw [this, Int.fdiv_eq_ediv_of_nonneg _ (by exact Int.le_of_lt (Int.pow_pos (by omega)))]
theorem wrap_u8 (x : Int) : IntKind.wrap .u8 x = x % 256 := IntKind.wrap_u8 x
theorem wrap_u32 (x : Int) (h0 : 0 ≤ x) (h1 : x < 4294967296) : IntKind.wrap .u32 x = x := by rw [IntKind.wrap_u32]; omega
theorem bits_or (n m : Nat) (h : n + m < 256) (hh : ∀ x : _root_.Fin 256, x.val ≤ m → (BitVec.ofInt 8 n ||| BitVec.ofInt 8 (x.val : Int)).toNat = n + x.val) (x : Int) (h0 : 0 ≤ x) (h1 : x ≤ m) : aint .or .u8 n x = some (.int .u8 (n + x)) := by
 have e : (BitVec.ofInt 8 n ||| BitVec.ofInt 8 ((x.toNat : Nat) : Int)).toNat = n + x.toNat := hh ⟨x.toNat, by omega⟩ (by simp; omega)
 rw [show x = ((x.toNat : Nat) : Int) from by omega]
 show some (AVal.int .u8 (IntKind.wrap .u8 (BitVec.ofInt 8 n ||| BitVec.ofInt 8 ((x.toNat : Nat) : Int)).toNat)) = _
 rw [e, wrap_u8]
 congr 2; omega
theorem or192 (x : Int) (h0 : 0 ≤ x) (h1 : x ≤ 31) : aint .or .u8 192 x = some (.int .u8 (192 + x)) := bits_or 192 31 (by omega) (by decide +kernel) x h0 h1
theorem or224 (x : Int) (h0 : 0 ≤ x) (h1 : x ≤ 15) : aint .or .u8 224 x = some (.int .u8 (224 + x)) := bits_or 224 15 (by omega) (by decide +kernel) x h0 h1
theorem or240 (x : Int) (h0 : 0 ≤ x) (h1 : x ≤ 7) : aint .or .u8 240 x = some (.int .u8 (240 + x)) := bits_or 240 7 (by omega) (by decide +kernel) x h0 h1
theorem or128 (x : Int) (h0 : 0 ≤ x) (h1 : x ≤ 63) : aint .or .u8 128 x = some (.int .u8 (128 + x)) := bits_or 128 63 (by omega) (by decide +kernel) x h0 h1
theorem and63 (x : Int) (h0 : 0 ≤ x) (h1 : x < 256) : aint .and .u8 x 63 = some (.int .u8 (x % 64)) := by
 have hh : ∀ x : _root_.Fin 256, (BitVec.ofInt 8 (x.val : Int) &&& BitVec.ofInt 8 63).toNat = x.val % 64 := by decide +kernel
 have e : (BitVec.ofInt 8 ((x.toNat : Nat) : Int) &&& BitVec.ofInt 8 63).toNat = x.toNat % 64 := hh ⟨x.toNat, by omega⟩
 rw [show x = ((x.toNat : Nat) : Int) from by omega]
 show some (AVal.int .u8 (IntKind.wrap .u8 (BitVec.ofInt 8 ((x.toNat : Nat) : Int) &&& BitVec.ofInt 8 63).toNat)) = _
 rw [e, wrap_u8]
 congr 2; omega
theorem abin_or192 (P : Program) (h : Heap) (T : TypeId) (x : Int) (h0 : 0 ≤ x) (h1 : x ≤ 31) : abin P h .or T (.int .u8 192) (.int .u8 x) = some (.int .u8 (192 + x)) := by simpa only [abin, if_true] using or192 x h0 h1
theorem abin_or224 (P : Program) (h : Heap) (T : TypeId) (x : Int) (h0 : 0 ≤ x) (h1 : x ≤ 15) : abin P h .or T (.int .u8 224) (.int .u8 x) = some (.int .u8 (224 + x)) := by simpa only [abin, if_true] using or224 x h0 h1
theorem abin_or240 (P : Program) (h : Heap) (T : TypeId) (x : Int) (h0 : 0 ≤ x) (h1 : x ≤ 7) : abin P h .or T (.int .u8 240) (.int .u8 x) = some (.int .u8 (240 + x)) := by simpa only [abin, if_true] using or240 x h0 h1
theorem abin_or128 (P : Program) (h : Heap) (T : TypeId) (x : Int) (h0 : 0 ≤ x) (h1 : x ≤ 63) : abin P h .or T (.int .u8 128) (.int .u8 x) = some (.int .u8 (128 + x)) := by simpa only [abin, if_true] using or128 x h0 h1
theorem abin_and63 (P : Program) (h : Heap) (T : TypeId) (x : Int) (h0 : 0 ≤ x) (h1 : x < 256) : abin P h .and T (.int .u8 x) (.int .u8 63) = some (.int .u8 (x % 64)) := by simpa only [abin, if_true] using and63 x h0 h1
theorem shr6 (P : Program) (h : Heap) (T : TypeId) (a : Int) : abin P h .shr T (.int .i32 a) (.int .u64 6) = some (.int .i32 (a / 64)) := by rw [shr_i32 _ _ _ _ _ _ (by omega) (by omega)]; rfl
theorem shr12 (P : Program) (h : Heap) (T : TypeId) (a : Int) : abin P h .shr T (.int .i32 a) (.int .u64 12) = some (.int .i32 (a / 4096)) := by rw [shr_i32 _ _ _ _ _ _ (by omega) (by omega)]; rfl
theorem shr18 (P : Program) (h : Heap) (T : TypeId) (a : Int) : abin P h .shr T (.int .i32 a) (.int .u64 18) = some (.int .i32 (a / 262144)) := by rw [shr_i32 _ _ _ _ _ _ (by omega) (by omega)]; rfl
theorem aconv_ru8 (k : IntKind) (n : Int) : aconv Tryz.prog 21 5 (.int k n) = some (.int .u8 (n % 256)) := by simp only [aconv, go_sem, wrap_u8]
theorem aconv_ru32 (k : IntKind) (n : Int) (h0 : 0 ≤ n) (h1 : n < 4294967296) : aconv Tryz.prog 21 232 (.int k n) = some (.int .u32 n) := by simp only [aconv, go_sem, wrap_u32 n h0 h1]
theorem appendRuneNonASCII_sat (r : Int) (hr : Rune r) (h1 : 128 ≤ r) (h j : Heap) (X : Blk) (v : Nat) (s : Bs) (hs : s.length ≤ 1073741824) :
  Sat (CT G) 289 [.hs (h.length + 1) v 0 s.length true, .int .i32 r] (h ++ X :: bufR v s :: j)
   (fun x h' => x = .hs (h.length + 1) (v + 1) 0 (s.length + (enc r).length) true ∧ h' = h ++ X :: bufR (v + 1) (s ++ enc r) :: j) := by
 have end_ : ∀ l, l = enc r → Fin (h ++ X :: bufR v s :: j) (h ++ X :: bufR (v + 1) (s ++ l) :: j) (fun x h' => x = .hs (h.length + 1) (v + 1) 0 (s.length + (enc r).length) true ∧ h' = h ++ X :: bufR (v + 1) (s ++ enc r) :: j) (.hs (h.length + 1) (v + 1) 0 (s.length + l.length) true) := fun l hl => by
  subst hl
  refine Fin.keep0 (by simp) (fun p k hk => ?_) (.hs _ _ _ _ _ (by simp)) ⟨rfl, rfl⟩
  rcases Nat.lt_or_ge p h.length with h1 | h1
  ·rw [List.getElem?_append_left h1] at hk ⊢; exact .inl hk
  ·rw [List.getElem?_append_right h1] at hk ⊢
   match p - h.length, hk with
   | 0, hk => exact .inl hk
   | 1, hk => simp at hk; subst hk; exact .inr (buf_clo _ _ _)
   | i + 2, hk => exact .inl hk
 have F := F2 (F9 @aconv_ru8 @aconv_ru32 @shr6 @shr12 @shr18 @abin_or192 @abin_or224 @abin_or240 @abin_or128) (F3 @abin_and63 @wrap_u8 @wrap_u32)
 obtain ⟨hr0, hr1⟩ := hr
 refine sb [.tmp 4] (fn := Tryz.f289) Tryz.func289 ?_
 intro Q hQ
 refine wko F ?_
 refine cqo F (fun hc => ?_) (fun hc => ?_) <;> (try exact hc.elim) <;> (refine wko F ?_)
 ·refine appK_row (.inl rfl) (by exact zqo F) (by exact zqo F) bytes_sz zro_u8 (by omega) (elems_sl1 _ _) (by simp (disch := first | omega | (simp only [go_sem, ↓reduceIte, Nat.reduceEqDiff]; done) | fail) only [go_sem, ↓reduceIte, Int.reduceToNat, Int.reduceLE, Int.reduceLT, Int.reduceSub, Int.reduceAdd, Nat.reduceEqDiff, Nat.reduceAdd, Nat.reduceLeDiff, Nat.reduceLT, Nat.reduceMul, Nat.reduceSub, F, getRow_buf]; rfl) (by simp) ?_ ?_
  ·simp [maxLen]; omega
  simp (disch := first | omega | (simp only [go_sem, ↓reduceIte, Nat.reduceEqDiff]; done) | fail) only [go_sem, ↓reduceIte, Int.reduceToNat, Int.reduceLE, Int.reduceLT, Int.reduceSub, Int.reduceAdd, Nat.reduceEqDiff, Nat.reduceAdd, Nat.reduceLeDiff, Nat.reduceLT, Nat.reduceMul, Nat.reduceSub, F]
  refine wko F ?_
  refine eeo hQ F ?_
  have e := enc2 h1 (by omega)
  have le : (enc r).length = 2 := by simpa using congrArg List.length e
  have := end_ _ rfl
  simp only [bufR, List.map_append, e, le] at this
  have m0 : r / 64 % 256 = r / 64 := by omega
  have m1 : r % 256 % 64 = r % 64 := by omega
  simp only [bufR, List.map_append, e, le, m0, m1, List.length_cons, List.length_nil, Nat.zero_add, Nat.reduceAdd]
  exact this
 ·refine cqo F (fun hc => ?_) (fun hc => ?_) <;> (try exact hc.elim) <;> (refine wko F ?_)
  ·refine cqo F (fun hc => ?_) (fun hc => ?_) <;> (try exact hc.elim) <;> (refine wko F ?_)
   ·refine appK_row (.inl rfl) (by exact zqo F) (by exact zqo F) bytes_sz zro_u8 (by omega) (elems_sl1 _ _) (by simp (disch := first | omega | (simp only [go_sem, ↓reduceIte, Nat.reduceEqDiff]; done) | fail) only [go_sem, ↓reduceIte, Int.reduceToNat, Int.reduceLE, Int.reduceLT, Int.reduceSub, Int.reduceAdd, Nat.reduceEqDiff, Nat.reduceAdd, Nat.reduceLeDiff, Nat.reduceLT, Nat.reduceMul, Nat.reduceSub, F, getRow_buf]; rfl) (by simp) ?_ ?_
    ·simp [maxLen]; omega
    simp (disch := first | omega | (simp only [go_sem, ↓reduceIte, Nat.reduceEqDiff]; done) | fail) only [go_sem, ↓reduceIte, Int.reduceToNat, Int.reduceLE, Int.reduceLT, Int.reduceSub, Int.reduceAdd, Nat.reduceEqDiff, Nat.reduceAdd, Nat.reduceLeDiff, Nat.reduceLT, Nat.reduceMul, Nat.reduceSub, F]
    refine wko F ?_
    refine eeo hQ F ?_
    have e := enc3 ⟨hr0, hr1⟩ (by omega) (by omega)
    have le : (enc r).length = 3 := by simpa using congrArg List.length e
    have := end_ _ rfl
    simp only [bufR, List.map_append, e, le] at this
    have m0 : r / 4096 % 256 = r / 4096 := by omega
    have m1 : r / 64 % 256 % 64 = r / 64 % 64 := by omega
    have m2 : r % 256 % 64 = r % 64 := by omega
    simp only [bufR, List.map_append, e, le, m0, m1, m2, List.length_cons, List.length_nil, Nat.zero_add, Nat.reduceAdd]
    exact this
   ·exfalso; omega
  ·(first | refine gqo F (fun hg => ?_) (fun hg => ?_) | refine pqo F (fun hg => ?_) (fun hg => ?_)) <;> (try exact hg.elim) <;> (try refine sqo F ?_) <;> (refine wko F ?_)
   ·refine cqo F (fun hc => ?_) (fun hc => ?_) <;> (try exact hc.elim) <;> (refine wko F ?_)
    ·refine appK_row (.inl rfl) (by exact zqo F) (by exact zqo F) bytes_sz zro_u8 (by omega) (elems_sl1 _ _) (by simp (disch := first | omega | (simp only [go_sem, ↓reduceIte, Nat.reduceEqDiff]; done) | fail) only [go_sem, ↓reduceIte, Int.reduceToNat, Int.reduceLE, Int.reduceLT, Int.reduceSub, Int.reduceAdd, Nat.reduceEqDiff, Nat.reduceAdd, Nat.reduceLeDiff, Nat.reduceLT, Nat.reduceMul, Nat.reduceSub, F, getRow_buf]; rfl) (by simp) ?_ ?_
     ·simp [maxLen]; omega
     simp (disch := first | omega | (simp only [go_sem, ↓reduceIte, Nat.reduceEqDiff]; done) | fail) only [go_sem, ↓reduceIte, Int.reduceToNat, Int.reduceLE, Int.reduceLT, Int.reduceSub, Int.reduceAdd, Nat.reduceEqDiff, Nat.reduceAdd, Nat.reduceLeDiff, Nat.reduceLT, Nat.reduceMul, Nat.reduceSub, F]
     refine wko F ?_
     refine eeo hQ F ?_
     have e := enc3 ⟨hr0, hr1⟩ (by omega) (by omega)
     have le : (enc r).length = 3 := by simpa using congrArg List.length e
     have := end_ _ rfl
     simp only [bufR, List.map_append, e, le] at this
     have m0 : r / 4096 % 256 = r / 4096 := by omega
     have m1 : r / 64 % 256 % 64 = r / 64 % 64 := by omega
     have m2 : r % 256 % 64 = r % 64 := by omega
     simp only [bufR, List.map_append, e, le, m0, m1, m2, List.length_cons, List.length_nil, Nat.zero_add, Nat.reduceAdd]
     exact this
    ·(first | refine gqo F (fun hg => ?_) (fun hg => ?_) | refine pqo F (fun hg => ?_) (fun hg => ?_)) <;> (try exact hg.elim) <;> (try refine sqo F ?_) <;> (refine wko F ?_)
     ·refine cqo F (fun hc => ?_) (fun hc => ?_) <;> (try exact hc.elim) <;> (refine wko F ?_)
      ·refine appK_row (.inl rfl) (by exact zqo F) (by exact zqo F) bytes_sz zro_u8 (by omega) (elems_sl1 _ _) (by simp (disch := first | omega | (simp only [go_sem, ↓reduceIte, Nat.reduceEqDiff]; done) | fail) only [go_sem, ↓reduceIte, Int.reduceToNat, Int.reduceLE, Int.reduceLT, Int.reduceSub, Int.reduceAdd, Nat.reduceEqDiff, Nat.reduceAdd, Nat.reduceLeDiff, Nat.reduceLT, Nat.reduceMul, Nat.reduceSub, F, getRow_buf]; rfl) (by simp) ?_ ?_
       ·simp [maxLen]; omega
       simp (disch := first | omega | (simp only [go_sem, ↓reduceIte, Nat.reduceEqDiff]; done) | fail) only [go_sem, ↓reduceIte, Int.reduceToNat, Int.reduceLE, Int.reduceLT, Int.reduceSub, Int.reduceAdd, Nat.reduceEqDiff, Nat.reduceAdd, Nat.reduceLeDiff, Nat.reduceLT, Nat.reduceMul, Nat.reduceSub, F]
       refine wko F ?_
       refine eeo hQ F ?_
       have e := enc4 (r := r) (by omega) (by omega)
       have le : (enc r).length = 4 := by simpa using congrArg List.length e
       have := end_ _ rfl
       simp only [bufR, List.map_append, e, le] at this
       have m0 : r / 262144 % 256 = r / 262144 := by omega
       have m1 : r / 4096 % 256 % 64 = r / 4096 % 64 := by omega
       have m2 : r / 64 % 256 % 64 = r / 64 % 64 := by omega
       have m3 : r % 256 % 64 = r % 64 := by omega
       simp only [bufR, List.map_append, e, le, m0, m1, m2, m3, List.length_cons, List.length_nil, Nat.zero_add, Nat.reduceAdd]
       exact this
      ·exfalso; omega
     ·exfalso; omega
   ·exfalso; omega
theorem AppendRune_sat (r : Int) (hr : Rune r) (h j : Heap) (X : Blk) (v : Nat) (s : Bs) (hs : s.length ≤ 1073741824) :
  Sat (CT G) 285 [.hs (h.length + 1) v 0 s.length true, .int .i32 r] (h ++ X :: bufR v s :: j)
   (fun x h' => x = .hs (h.length + 1) (v + 1) 0 (s.length + (enc r).length) true ∧ h' = h ++ X :: bufR (v + 1) (s ++ enc r) :: j) := by
 have end_ : ∀ l, l = enc r → Fin (h ++ X :: bufR v s :: j) (h ++ X :: bufR (v + 1) (s ++ l) :: j) (fun x h' => x = .hs (h.length + 1) (v + 1) 0 (s.length + (enc r).length) true ∧ h' = h ++ X :: bufR (v + 1) (s ++ enc r) :: j) (.hs (h.length + 1) (v + 1) 0 (s.length + l.length) true) := fun l hl => by
  subst hl
  refine Fin.keep0 (by simp) (fun p k hk => ?_) (.hs _ _ _ _ _ (by simp)) ⟨rfl, rfl⟩
  rcases Nat.lt_or_ge p h.length with h1 | h1
  ·rw [List.getElem?_append_left h1] at hk ⊢; exact .inl hk
  ·rw [List.getElem?_append_right h1] at hk ⊢
   match p - h.length, hk with
   | 0, hk => exact .inl hk
   | 1, hk => simp at hk; subst hk; exact .inr (buf_clo _ _ _)
   | i + 2, hk => exact .inl hk
 have hr' := hr
 obtain ⟨hr0, hr1⟩ := hr
 have F := F2 @aconv_ru8 @aconv_ru32
 refine sb [.tmp 4] (fn := Tryz.f285) Tryz.func285 ?_
 intro Q hQ
 refine wko F ?_
 refine cqo F (fun hc => ?_) (fun hc => ?_) <;> (try exact hc.elim) <;> (refine wko F ?_)
 ·refine appK_row (.inl rfl) (by exact zqo F) (by exact zqo F) bytes_sz zro_u8 (by omega) (elems_sl1 _ _) (by simp (disch := first | omega | (simp only [go_sem, ↓reduceIte, Nat.reduceEqDiff]; done) | fail) only [go_sem, ↓reduceIte, Int.reduceToNat, Int.reduceLE, Int.reduceLT, Int.reduceSub, Int.reduceAdd, Nat.reduceEqDiff, Nat.reduceAdd, Nat.reduceLeDiff, Nat.reduceLT, Nat.reduceMul, Nat.reduceSub, F, getRow_buf]; rfl) (by simp) ?_ ?_
  ·simp [maxLen]; omega
  simp (disch := first | omega | (simp only [go_sem, ↓reduceIte, Nat.reduceEqDiff]; done) | fail) only [go_sem, ↓reduceIte, Int.reduceToNat, Int.reduceLE, Int.reduceLT, Int.reduceSub, Int.reduceAdd, Nat.reduceEqDiff, Nat.reduceAdd, Nat.reduceLeDiff, Nat.reduceLT, Nat.reduceMul, Nat.reduceSub, F]
  refine wko F ?_
  refine eeo hQ F ?_
  have e := enc1 (r := r) (by omega) (by omega)
  have le : (enc r).length = 1 := by simpa using congrArg List.length e
  have := end_ _ rfl
  simp only [bufR, List.map_append, e, le] at this
  have m0 : r % 256 = r := by omega
  simp only [bufR, List.map_append, e, le, m0, List.length_cons, List.length_nil, Nat.zero_add, Nat.reduceAdd]
  exact this
 ·refine kqo F (appendRuneNonASCII_sat G r hr' (by omega) h j X v s hs) ?_
  refine eeo hQ F ?_
  exact end_ _ rfl
theorem WriteRune_sat (a : AVal) (r : Int) (hr : Rune r) (h j : Heap) (v : Nat) (s : Bs) (ha : bldA a h.length) (hs : s.length ≤ 1073741824) :
  Sat (CT G) 272 [.hp h.length 0 0 0, .int .i32 r] (bldH h j a v s) (fun x h' => x = .tup [.int .i64 (enc r).length, .nil .nilIface] ∧ h' = bldH h j (.hp h.length 0 0 0) (v + 1) (s ++ enc r)) := by
 have end_ : Fin (bldH h j a v s) (bldH h j (.hp h.length 0 0 0) (v + 1) (s ++ enc r)) (fun x h' => x = .tup [.int .i64 (enc r).length, .nil .nilIface] ∧ h' = bldH h j (.hp h.length 0 0 0) (v + 1) (s ++ enc r)) (.tup [.int .i64 (enc r).length, .nil .nilIface]) :=
  Fin.keep0 ((bldH_len ..).trans (bldH_len ..).symm) (bldH_keep _ _ _ _ _ _ _) (.tup _ (by intro c hc; simp at hc; rcases hc with rfl | rfl; exact .int _ _; exact .nil _)) ⟨rfl, rfl⟩
 have F := @getRow_buf
 refine sb [.tmp 4, .tmp 5] (fn := Tryz.f272) Tryz.func272 ?_
 intro Q hQ
 refine wko F ?_
 refine (copyCheck_sat G a h j v s ha).mono ?_
 rintro x h' ⟨rfl, rfl⟩
 unfold bldH at *
 try refine sqo F ?_
 refine wko F ?_
 refine kqo F (AppendRune_sat G r hr h j _ v s hs) ?_
 refine (hQ _ _ ?_).1
 simp (disch := first | omega | (simp only [go_sem, ↓reduceIte, Nat.reduceEqDiff]; done) | fail) only [go_sem, ↓reduceIte, Int.reduceToNat, Int.reduceLE, Int.reduceLT, Int.reduceSub, Int.reduceAdd, Nat.reduceEqDiff, Nat.reduceAdd, Nat.reduceLeDiff, Nat.reduceLT, Nat.reduceMul, Nat.reduceSub, F]
 have hl := enc_len r
 simp only [bldR, bufR, List.length_append, List.map_append] at end_ ⊢
 rw [show IntKind.wrap .i64 (((s.length + (enc r).length : Nat) : Int) - (s.length : Nat)) = ((enc r).length : Nat) from by rw [wrap64_in (by omega) (by omega)]; omega]
 exact end_
end Go.Av
namespace Go.Av
open Go Go.Proofs Go.RowKit
set_option maxRecDepth 100000
def dec (s : Bs) (k : Nat) : Nat × Nat := Utf8.decode ⟨s.toArray⟩ k
theorem dec_N (s : Bs) (k : Nat) : dec s k = Lib.decodeN (s.length - k) (s.getD k 0).toNat (s.getD (k + 1) 0).toNat (s.getD (k + 2) 0).toNat (s.getD (k + 3) 0).toNat := by
 unfold dec; rw [Lib.decode_N]
theorem toNat_ofNat (n : Nat) (h : n < 256) : (UInt8.ofNat n).toNat = n := by simp; omega
def fix (r : Int) : Nat := if Utf8.valid r = true then r.toNat else Utf8.runeError
theorem enc_fix (r : Int) : enc r = let c := fix r
  if c < 0x80 then [UInt8.ofNat c]
  else if c < 0x800 then [UInt8.ofNat (0xC0 + c / 64), UInt8.ofNat (0x80 + c % 64)]
  else if c < 0x10000 then [UInt8.ofNat (0xE0 + c / 4096), UInt8.ofNat (0x80 + c / 64 % 64), UInt8.ofNat (0x80 + c % 64)]
  else [UInt8.ofNat (0xF0 + c / 262144), UInt8.ofNat (0x80 + c / 4096 % 64), UInt8.ofNat (0x80 + c / 64 % 64), UInt8.ofNat (0x80 + c % 64)] := by
 unfold enc Utf8.encode fix
 simp only []
 split
 ·split
  ·rfl
  ·split
   ·rfl
   ·split <;> rfl
 ·rfl
theorem dec_pos (s : Bs) (k : Nat) (h : k < s.length) : 1 ≤ (dec s k).2 ∧ k + (dec s k).2 ≤ s.length := by
 rw [dec_N]
 refine ⟨Lib.decodeN_ge1 _ _ _ _ _, ?_⟩
 unfold Lib.decodeN
 repeat (first | split | (simp only []; omega))
theorem dec_ascii (s : Bs) (k : Nat) (b : UInt8) (h : s[k]? = some b) (ha : b.toNat < 128) : dec s k = (b.toNat, 1) := by
 rw [dec_N, List.getD_eq_getElem?_getD, h]
 exact Lib.decodeN_ascii _ _ _ _ _ ha
theorem dec_high (s : Bs) (k : Nat) (b : UInt8) (h : s[k]? = some b) (ha : 128 ≤ b.toNat) :
  128 ≤ (dec s k).1 ∧ ((dec s k).1 < 55296 ∨ 57343 < (dec s k).1 ∧ (dec s k).1 ≤ 1114111) ∧ ∀ i, i < (dec s k).2 → ∀ c, s[k + i]? = some c → 128 ≤ c.toNat := by
 have hb : s.getD k 0 = b := by rw [List.getD_eq_getElem?_getD, h]; rfl
 have at_ : ∀ i c, s[k + i]? = some c → s.getD (k + i) 0 = c := fun i c hc => by rw [List.getD_eq_getElem?_getD, hc]; rfl
 have l0 : ∀ i, (s.getD i 0).toNat < 256 := fun i => (s.getD i 0).toNat_lt
 have e1 := l0 (k + 1); have e2 := l0 (k + 2); have e3 := l0 (k + 3); have e0 := b.toNat_lt
 rw [dec_N, hb]
 generalize h1 : (s.getD (k + 1) 0).toNat = b1 at *
 generalize h2 : (s.getD (k + 2) 0).toNat = b2 at *
 generalize h3 : (s.getD (k + 3) 0).toNat = b3 at *
 have key : ∀ i c, s[k + i]? = some c → (i = 0 → c.toNat = b.toNat) ∧ (i = 1 → c.toNat = b1) ∧ (i = 2 → c.toNat = b2) ∧ (i = 3 → c.toNat = b3) := fun i c hc => by
  have := at_ i c hc
  refine ⟨fun e => ?_, fun e => ?_, fun e => ?_, fun e => ?_⟩ <;> subst e
  ·rw [← this]; simp only [Nat.add_zero]; rw [hb]
  ·rw [← h1, this]
  ·rw [← h2, this]
  ·rw [← h3, this]
 generalize s.length - k = n
 have fin : ∀ x m : Nat, (128 ≤ x ∧ (x < 55296 ∨ 57343 < x ∧ x ≤ 1114111)) → (∀ i, i < m → (i = 0 ∧ 128 ≤ b.toNat) ∨ (i = 1 ∧ 128 ≤ b1) ∨ (i = 2 ∧ 128 ≤ b2) ∨ (i = 3 ∧ 128 ≤ b3)) →
   128 ≤ (x, m).1 ∧ ((x, m).1 < 55296 ∨ 57343 < (x, m).1 ∧ (x, m).1 ≤ 1114111) ∧ ∀ i, i < (x, m).2 → ∀ c, s[k + i]? = some c → 128 ≤ c.toNat := fun x m hx hm =>
  ⟨hx.1, hx.2, fun i hi c hc => by
   obtain ⟨k0, k1, k2, k3⟩ := key i c hc
   rcases hm i hi with ⟨e, h⟩ | ⟨e, h⟩ | ⟨e, h⟩ | ⟨e, h⟩
   ·rw [k0 e]; exact h
   ·rw [k1 e]; exact h
   ·rw [k2 e]; exact h
   ·rw [k3 e]; exact h⟩
 unfold Lib.decodeN
 rw [if_neg (by omega)]
 split
 ·split
  ·exact fin _ _ (by omega) (fun i hi => by omega)
  ·exact fin _ _ (by omega) (fun i hi => by omega)
 ·split
  ·split
   ·exact fin _ _ (by omega) (fun i hi => by omega)
   ·exact fin _ _ (by omega) (fun i hi => by omega)
  ·split
   ·split
    ·exact fin _ _ (by omega) (fun i hi => by omega)
    ·exact fin _ _ (by omega) (fun i hi => by omega)
   ·exact fin _ _ (by omega) (fun i hi => by omega)
end Go.Av
namespace Go.Av
open Go Go.Proofs Go.RowKit
attribute [local irreducible] WP WPl WPix Sat
set_option maxRecDepth 100000
set_option maxHeartbeats 1000000
variable (G : Nat → Option (List AVal))
theorem wrap32_in {x : Int} (h0 : -2147483648 ≤ x) (h1 : x ≤ 2147483647) : IntKind.i32.wrap x = x := by
 simp only [IntKind.wrap, IntKind.bits, IntKind.signed]; simp; omega
theorem getIter (h j : Heap) (s : Bs) (q : Nat) : (h ++ Blk.iter s q :: j)[h.length]? = some (.iter s q) := by simp
end Go.Av
