/- Outlines of a text, or what is wrong with it: both sides. -/
import Derived.Test.YtjgligkejfjbpaaGreatDoorVRf
import Derived.Test.YtjgligkejfjbpaaGreatDoorVUa
set_option linter.unusedSimpArgs false
set_option linter.unusedVariables false
namespace Go.Av
open Go Go.Proofs Go.RowKit
attribute [local irreducible] WP WPl WPix Sat
set_option maxRecDepth 100000
set_option maxHeartbeats 1000000
variable {G : Nat → Option (List AVal)}
end Go.Av
namespace Go.Av
open Go Go.Proofs Go.RowKit
attribute [local irreducible] WP WPl WPix Sat
set_option maxRecDepth 100000
set_option maxHeartbeats 1000000
variable {G : Nat → Option (List AVal)}
end Go.Av
namespace Go.Av
open Go Go.Proofs Go.RowKit
attribute [local irreducible] WP WPl WPix Sat
set_option maxRecDepth 100000
set_option maxHeartbeats 1000000
variable {G : Nat → Option (List AVal)}
end Go.Av
namespace Go.Av
open Go Go.Proofs Go.RowKit
attribute [local irreducible] WP WPl WPix Sat
set_option maxRecDepth 100000
set_option maxHeartbeats 1000000
variable {G : Nat → Option (List AVal)}
end Go.Av
namespace Go.Av
open Go Go.Proofs Go.RowKit
attribute [local irreducible] WP WPl WPix Sat
set_option maxRecDepth 100000
set_option maxHeartbeats 1000000
variable {G : Nat → Option (List AVal)}
def blankT (t : Tok) : Bool := t.2.2.2.all blankB && (t.1 == 3)
end Go.Av
namespace Go.Av
open Go Go.Proofs Go.RowKit
set_option maxRecDepth 100000
set_option maxHeartbeats 1000000
def elL : Nat → Nat → Bs → List At → Bs → List Elem → List Tok → Option (Elem × List Tok)
 | 0, _, _, _, _, _, _ => none
 | _ + 1, _, _, _, _, _, [] => none
 | f + 1, d, n, a, x, k, t :: ts =>
  if t.1 = 3 then elL f d n a (x ++ t.2.2.2) k ts
  else if t.1 = 1 then (if d = 0 then none else (elL f (d - 1) t.2.1 t.2.2.1 [] [] ts).bind fun q => elL f d n a x (k ++ [q.1]) q.2)
  else if t.1 = 2 then (if t.2.1 = n then some (⟨n, a, x, k⟩, ts) else none)
  else none
def elF (d : Nat) : List Tok → Option (Elem × List Tok)
 | [] => none
 | t :: ts => if t.1 = 1 then (if d = 0 then none else elL (ts.length + 1) (d - 1) t.2.1 t.2.2.1 [] [] ts) else none
theorem elL_one (f d : Nat) (n : Bs) (a : List At) (x : Bs) (k : List Elem) (t : Tok) (ts : List Tok) : elL (f + 1) d n a x k (t :: ts) =
  if t.1 = 3 then elL f d n a (x ++ t.2.2.2) k ts
  else if t.1 = 1 then (if d = 0 then none else (elL f (d - 1) t.2.1 t.2.2.1 [] [] ts).bind fun q => elL f d n a x (k ++ [q.1]) q.2)
  else if t.1 = 2 then (if t.2.1 = n then some (⟨n, a, x, k⟩, ts) else none) else none := rfl
theorem elL_nil (f d : Nat) (n : Bs) (a : List At) (x : Bs) (k : List Elem) : elL f d n a x k [] = none := by cases f <;> rfl
theorem elF_cons (d : Nat) (t : Tok) (ts : List Tok) : elF d (t :: ts) = if t.1 = 1 then (if d = 0 then none else elL (ts.length + 1) (d - 1) t.2.1 t.2.2.1 [] [] ts) else none := rfl
theorem elL_suf : ∀ (f d : Nat) (n : Bs) (a : List At) (x : Bs) (k : List Elem) (ts : List Tok) (q : Elem × List Tok), elL f d n a x k ts = some q → q.2 <:+ ts ∧ q.2.length < ts.length := by
 intro f
 induction f with
 | zero => intro d n a x k ts q h; cases h
 | succ f ih =>
  intro d n a x k ts q h
  cases ts with
  | nil => rw [elL_nil] at h; cases h
  | cons t ts =>
   rw [elL_one] at h
   have key : q.2 <:+ ts := by
    split at h
    ·exact (ih _ _ _ _ _ _ _ h).1
    ·split at h
     ·split at h
      ·cases h
      ·obtain ⟨p, hp, h⟩ := Option.bind_eq_some_iff.1 h
       exact (ih _ _ _ _ _ _ _ h).1.trans (ih _ _ _ _ _ _ _ hp).1
     ·split at h
      ·split at h
       ·cases h; exact List.suffix_refl _
       ·cases h
      ·cases h
   exact ⟨key.trans (List.suffix_cons t ts), by have := key.length_le; simp; omega⟩
theorem elL_fuel : ∀ (f g d : Nat) (n : Bs) (a : List At) (x : Bs) (k : List Elem) (ts : List Tok), ts.length < f → ts.length < g → elL f d n a x k ts = elL g d n a x k ts := by
 intro f
 induction f with
 | zero => intro g d n a x k ts h; omega
 | succ f ih =>
  intro g d n a x k ts h1 h2
  obtain ⟨g, rfl⟩ : ∃ g', g = g' + 1 := ⟨g - 1, by omega⟩
  cases ts with
  | nil => rw [elL_nil, elL_nil]
  | cons t ts =>
   simp only [List.length_cons] at h1 h2
   rw [elL_one, elL_one, ih g d n a (x ++ t.2.2.2) k ts (by omega) (by omega), ih g (d - 1) t.2.1 t.2.2.1 [] [] ts (by omega) (by omega)]
   cases hq : elL g (d - 1) t.2.1 t.2.2.1 [] [] ts with
   | none => rfl
   | some q =>
    have := (elL_suf _ _ _ _ _ _ _ _ hq).2
    simp only [Option.bind_some]
    rw [ih g d n a x (k ++ [q.1]) q.2 (by omega) (by omega)]
end Go.Av
namespace Go.Av
open Go Go.Proofs Go.RowKit
attribute [local irreducible] WP WPl WPix Sat
set_option maxRecDepth 100000
set_option maxHeartbeats 1000000
variable {G : Nat → Option (List AVal)}
end Go.Av
namespace Go.Av
open Go Go.Proofs Go.RowKit
attribute [local irreducible] WP WPl WPix Sat
set_option maxRecDepth 100000
set_option maxHeartbeats 1000000
variable {G : Nat → Option (List AVal)}
def bldF (ts : List Tok) : Option Elem := (elF 32 (ts.dropWhile blankT)).bind fun q => if q.2.dropWhile blankT = [] then some q.1 else none
end Go.Av
namespace Go.Av
open Go Go.Proofs Go.RowKit
set_option maxRecDepth 100000
set_option maxHeartbeats 1000000
def foldB : List Elem → List Elem → List Tok → Option (List Elem × List Elem)
 | os, ds, [] => some (os, ds)
 | os, ds, t :: ts => (stepB os ds t).bind fun q => foldB q.1 q.2 ts
def finB : Option (List Elem × List Elem) → Option Elem
 | some ([], [e]) => some e
 | _ => none
def clsB (st : List Elem) (e : Elem) : List Elem × List Elem :=
 match st.getLast? with
 | none => ([], [e])
 | some p => (st.dropLast ++ [⟨p.name, p.attrs, p.text, p.kids ++ [e]⟩], [])
theorem foldB_nil (os ds : List Elem) : foldB os ds [] = some (os, ds) := rfl
theorem foldB_cons (os ds : List Elem) (t : Tok) (ts : List Tok) : foldB os ds (t :: ts) = (stepB os ds t).bind fun q => foldB q.1 q.2 ts := rfl
theorem foldB_app : ∀ (a b : List Tok) (os ds : List Elem), foldB os ds (a ++ b) = (foldB os ds a).bind fun q => foldB q.1 q.2 b
 | [], b, os, ds => rfl
 | t :: a, b, os, ds => by
  rw [List.cons_append, foldB_cons, foldB_cons]
  cases stepB os ds t with
  | none => rfl
  | some q => simp only [Option.bind_some]; exact foldB_app a b q.1 q.2
theorem clsB_snoc (st : List Elem) (p e : Elem) : clsB (st ++ [p]) e = (st ++ [⟨p.name, p.attrs, p.text, p.kids ++ [e]⟩], []) := by
 unfold clsB; simp
theorem foldB_in : ∀ (f d : Nat) (st : List Elem) (n : Bs) (a : List At) (x : Bs) (k : List Elem) (ts : List Tok), ts.length < f → st.length + d = 31 →
  finB (foldB (st ++ [⟨n, a, x, k⟩]) [] ts) = (elL f d n a x k ts).bind fun q => finB (foldB (clsB st q.1).1 (clsB st q.1).2 q.2) := by
 intro f
 induction f with
 | zero => intro d st n a x k ts h; omega
 | succ f ih =>
  intro d st n a x k ts hf hd
  cases ts with
  | nil =>
   rw [elL_nil, foldB_nil]
   cases st <;> rfl
  | cons t ts =>
   simp only [List.length_cons] at hf
   rw [elL_one, foldB_cons]
   have hlast : (st ++ [(⟨n, a, x, k⟩ : Elem)]).getLast? = some ⟨n, a, x, k⟩ := by simp
   have hdrop : (st ++ [(⟨n, a, x, k⟩ : Elem)]).dropLast = st := by simp
   by_cases h3 : t.1 = 3
   ·have e : stepB (st ++ [⟨n, a, x, k⟩]) [] t = some (st ++ [⟨n, a, x ++ t.2.2.2, k⟩], []) := by
     unfold stepB
     rw [if_neg (by omega), if_neg (by omega), if_pos h3, hlast, hdrop]; rfl
    rw [e, if_pos h3, Option.bind_some]
    exact ih d st n a (x ++ t.2.2.2) k ts (by omega) hd
   ·rw [if_neg h3]
    by_cases h1 : t.1 = 1
    ·rw [if_pos h1]
     by_cases h0 : d = 0
     ·have e : stepB (st ++ [⟨n, a, x, k⟩]) [] t = none := by
       unfold stepB
       rw [if_pos h1, if_neg]
       simp; omega
      rw [e, if_pos h0]; rfl
     ·have e : stepB (st ++ [⟨n, a, x, k⟩]) [] t = some ((st ++ [⟨n, a, x, k⟩]) ++ [⟨t.2.1, t.2.2.1, [], []⟩], []) := by
       unfold stepB
       rw [if_pos h1, if_pos]
       simp; omega
      rw [e, if_neg h0, Option.bind_some]
      simp only []
      rw [ih (d - 1) (st ++ [Elem.mk n a x k]) t.2.1 t.2.2.1 [] [] ts (by omega) (by simp; omega)]
      cases hq : elL f (d - 1) t.2.1 t.2.2.1 [] [] ts with
      | none => rfl
      | some q =>
       have := (elL_suf _ _ _ _ _ _ _ _ hq).2
       simp only [Option.bind_some, clsB_snoc]
       exact ih d st n a x (k ++ [q.1]) q.2 (by omega) hd
    ·rw [if_neg h1]
     by_cases h2 : t.1 = 2
     ·rw [if_pos h2]
      by_cases hn : t.2.1 = n
      ·have e : stepB (st ++ [⟨n, a, x, k⟩]) [] t = some (clsB st ⟨n, a, x, k⟩) := by
        unfold stepB
        rw [if_neg h1, if_pos h2, hlast, hdrop]
        show (if n = t.2.1 then _ else _) = _
        rw [if_pos hn.symm]
        unfold clsB
        cases st.getLast? <;> rfl
       rw [e, if_pos hn]; rfl
      ·have e : stepB (st ++ [⟨n, a, x, k⟩]) [] t = none := by
        unfold stepB
        rw [if_neg h1, if_pos h2, hlast]
        show (if n = t.2.1 then _ else _) = _
        rw [if_neg (Ne.symm hn)]
       rw [e, if_neg hn]; rfl
     ·have e : stepB (st ++ [⟨n, a, x, k⟩]) [] t = none := by
       unfold stepB
       rw [if_neg h1, if_neg h2, if_neg h3]
      rw [e, if_neg h2]; rfl
theorem stepB_out (ds : List Elem) (t : Tok) (h : ds ≠ []) : stepB [] ds t = if blankT t then some ([], ds) else none := by
 unfold stepB blankT
 by_cases h1 : t.1 = 1
 ·rw [if_pos h1, if_neg (fun hc => h hc.2), if_neg (by simp [h1])]
 ·rw [if_neg h1]
  by_cases h2 : t.1 = 2
  ·rw [if_pos h2, if_neg (by simp [h2])]; rfl
  ·rw [if_neg h2]
   by_cases h3 : t.1 = 3
   ·rw [if_pos h3]
    simp [h3]
   ·rw [if_neg h3, if_neg (by simp [h3])]
theorem foldB_end (e : Elem) : ∀ ts : List Tok, finB (foldB [] [e] ts) = if ts.dropWhile blankT = [] then some e else none
 | [] => rfl
 | t :: ts => by
  rw [foldB_cons, stepB_out _ _ (by simp), List.dropWhile_cons]
  cases hb : blankT t with
  | true => simp only [↓reduceIte, Option.bind_some]; exact foldB_end e ts
  | false => rfl
theorem foldB_eq : ∀ ts : List Tok, finB (foldB [] [] ts) = bldF ts
 | [] => rfl
 | t :: ts => by
  unfold bldF
  rw [foldB_cons, List.dropWhile_cons]
  cases hb : blankT t with
  | true =>
   have e : stepB [] [] t = some ([], []) := by
    unfold blankT at hb
    simp only [Bool.and_eq_true, beq_iff_eq] at hb
    unfold stepB
    rw [if_neg (by omega), if_neg (by omega), if_pos hb.2]
    show (if _ then _ else _) = _
    rw [if_pos hb.1]
   rw [e]
   simp only [↓reduceIte, Option.bind_some]
   exact foldB_eq ts
  | false =>
   simp only [Bool.false_eq_true, ↓reduceIte]
   rw [elF_cons]
   by_cases h1 : t.1 = 1
   ·have e : stepB [] [] t = some ([⟨t.2.1, t.2.2.1, [], []⟩], []) := by
     unfold stepB
     rw [if_pos h1, if_pos (by simp)]; rfl
    rw [e, if_pos h1, if_neg (by omega), Option.bind_some]
    have := foldB_in (ts.length + 1) 31 [] t.2.1 t.2.2.1 [] [] ts (by omega) rfl
    rw [List.nil_append] at this
    rw [this]
    show Option.bind (elL (ts.length + 1) 31 _ _ _ _ ts) _ = Option.bind (elL (ts.length + 1) 31 _ _ _ _ ts) _
    congr 1
    funext q
    exact foldB_end q.1 q.2
   ·rw [if_neg h1]
    have e : stepB [] [] t = none := by
     unfold blankT at hb
     unfold stepB
     rw [if_neg h1]
     by_cases h2 : t.1 = 2
     ·rw [if_pos h2]; rfl
     ·rw [if_neg h2]
      by_cases h3 : t.1 = 3
      ·rw [if_pos h3]
       show (if _ then _ else _) = _
       rw [if_neg (by simpa [h3] using hb)]
      ·rw [if_neg h3]
    rw [e]; rfl
theorem szs_last {l : List Elem} {e : Elem} (h : l.getLast? = some e) : szs Elem.sz l = szs Elem.sz l.dropLast + e.sz := by
 rcases List.eq_nil_or_concat l with rfl | ⟨m, o, rfl⟩
 ·cases h
 ·rw [List.concat_eq_append] at *
  simp at h; subst h
  simp [szs_add, szs]
theorem tok_sz_eq (t : Tok) : Tok.sz t = 1 + t.2.1.length + szs At.sz t.2.2.1 + t.2.2.2.length := rfl
theorem elem_sz_mk (n : Bs) (a : List At) (x : Bs) (k : List Elem) : (Elem.mk n a x k).sz = 1 + n.length + szs At.sz a + x.length + szs Elem.sz k := Elem.sz_eq _
theorem stepB_sz {os ds : List Elem} {t : Tok} {q : List Elem × List Elem} (h : stepB os ds t = some q) :
  szs Elem.sz q.1 + szs Elem.sz q.2 ≤ szs Elem.sz os + szs Elem.sz ds + Tok.sz t ∧ (os.length ≤ 32 → q.1.length ≤ 32) := by
 have ht := tok_sz_eq t
 unfold stepB at h
 split at h
 ·split at h
  ·rename_i h1 h2
   cases h
   refine ⟨?_, fun _ => by simp; omega⟩
   simp only [szs_add, szs, elem_sz_mk, List.length_nil]; omega
  ·cases h
 ·split at h
  ·split at h
   ·cases h
   ·rename_i e he
    have h1 := szs_last he
    split at h
    ·split at h
     ·rename_i hn
      cases h
      refine ⟨?_, fun _ => by simp⟩
      simp only [szs_add, szs]; omega
     ·rename_i p hp
      cases h
      have h2 := szs_last hp
      have h3 := Elem.sz_eq p
      refine ⟨?_, fun hl => by simp [List.length_dropLast]; omega⟩
      simp only [szs_add, szs, elem_sz_mk]; omega
    ·cases h
  ·split at h
   ·split at h
    ·split at h
     ·cases h; refine ⟨?_, fun _ => by simp⟩
      simp only [szs]; omega
     ·cases h
    ·rename_i e he
     cases h
     have h1 := szs_last he
     have h3 := Elem.sz_eq e
     have hne : os ≠ [] := by rintro rfl; cases he
     have hl0 : 0 < os.length := List.length_pos_iff.2 hne
     refine ⟨?_, fun hl => by simp [List.length_dropLast]; omega⟩
     simp only [szs_add, szs, elem_sz_mk, List.length_append]; omega
   ·cases h
theorem foldB_sz : ∀ (ts : List Tok) (os ds : List Elem) (q : List Elem × List Elem), foldB os ds ts = some q →
  szs Elem.sz q.1 + szs Elem.sz q.2 ≤ szs Elem.sz os + szs Elem.sz ds + szs Tok.sz ts ∧ (os.length ≤ 32 → q.1.length ≤ 32)
 | [], os, ds, q, h => by cases h; exact ⟨by simp [szs], id⟩
 | t :: ts, os, ds, q, h => by
  rw [foldB_cons] at h
  obtain ⟨p, hp, h⟩ := Option.bind_eq_some_iff.1 h
  have h1 := stepB_sz hp
  have h2 := foldB_sz ts p.1 p.2 q h
  rw [szs]
  exact ⟨by omega, fun hl => h2.2 (h1.2 hl)⟩
theorem bldF_sz {ts : List Tok} {e : Elem} (h : bldF ts = some e) : e.sz ≤ szs Tok.sz ts := by
 rw [← foldB_eq] at h
 cases hq : foldB [] [] ts with
 | none => rw [hq] at h; cases h
 | some q =>
  rw [hq] at h
  have := (foldB_sz ts [] [] q hq).1
  obtain ⟨a, b⟩ := q
  match a, b, h with
  | [], [x], h => cases h; simpa [szs] using this
theorem deepL_up : ∀ (l : List Elem) (d n : Nat), n ≤ 32 → (∀ k ∈ l, deep k (d + 1) ≤ 32) → deepL l d n ≤ 32
 | [], d, n, hn, _ => by rw [deepL]; exact hn
 | k :: l, d, n, hn, h => by
  rw [deepL]
  refine deepL_up l d _ ?_ fun x hx => h x (by simp [hx])
  split
  ·exact h k (by simp)
  ·exact hn
theorem elL_deep : ∀ (f d : Nat) (n : Bs) (a : List At) (x : Bs) (k : List Elem) (ts : List Tok) (q : Elem × List Tok), d ≤ 31 → (∀ c ∈ k, deep c (33 - d) ≤ 32) → elL f d n a x k ts = some q → deep q.1 (32 - d) ≤ 32 := by
 intro f
 induction f with
 | zero => intro d n a x k ts q _ _ h; cases h
 | succ f ih =>
  intro d n a x k ts q hd hk h
  cases ts with
  | nil => rw [elL_nil] at h; cases h
  | cons t ts =>
   rw [elL_one] at h
   split at h
   ·exact ih _ _ _ _ _ _ _ hd hk h
   ·split at h
    ·split at h
     ·cases h
     ·rename_i hd0
      obtain ⟨p, hp, h⟩ := Option.bind_eq_some_iff.1 h
      have h1 := ih _ _ _ _ _ _ _ (by omega) (by simp) hp
      refine ih _ _ _ _ _ _ _ hd ?_ h
      intro c hc
      rcases List.mem_append.1 hc with hc | hc
      ·exact hk c hc
      ·simp at hc; subst hc
       rw [show 33 - d = 32 - (d - 1) by omega]; exact h1
    ·split at h
     ·split at h
      ·cases h
       rw [deep_eq, if_neg (by omega)]
       refine deepL_up _ _ _ (by omega) ?_
       intro c hc
       rw [show 32 - d + 1 = 33 - d by omega]; exact hk c hc
      ·cases h
     ·cases h
theorem bldF_deep {ts : List Tok} {e : Elem} (h : bldF ts = some e) : deep e 1 ≤ 32 := by
 unfold bldF at h
 obtain ⟨q, hq, h⟩ := Option.bind_eq_some_iff.1 h
 split at h
 ·cases h
  generalize ts.dropWhile blankT = u at hq
  cases u with
  | nil => cases hq
  | cons t u =>
   rw [elF_cons] at hq
   split at hq
   ·rw [if_neg (by omega)] at hq
    exact elL_deep _ 31 _ _ _ _ _ _ (by omega) (by simp) hq
   ·cases hq
 ·cases h
end Go.Av
namespace Go.Av
open Go Go.Proofs Go.RowKit
set_option maxRecDepth 100000
set_option maxHeartbeats 1000000
def shortF (s : Bs) (n : Nat) : Bs := cleanF (cutF (cleanF s) n)
def attrS (e : Elem) (n : Bs) (m : Nat) : Bs := shortF (attrF e.attrs n).1 m
def orF (a b c : Bs) : Bs := if a ≠ [] then a else if b ≠ [] then b else c
def bText : Bs := [116, 101, 120, 116]
def bTitle : Bs := [116, 105, 116, 108, 101]
def bUrl : Bs := [120, 109, 108, 85, 114, 108]
def bOutline : Bs := [111, 117, 116, 108, 105, 110, 101]
def bBody : Bs := [98, 111, 100, 121]
def bOpml : Bs := [111, 112, 109, 108]
def titF (k : Elem) : Bs := orF (attrS k bText 256) (attrS k bTitle 256) (shortF (attrS k bUrl 512) 256)
def oneO (g : Elem → List Outl) (k : Elem) : Option Outl :=
 if titF k = [] then none else some ⟨titF k, attrS k bUrl 512, if attrS k bUrl 512 = [] then g k else []⟩
def ofF : Nat → Elem → List Outl
 | 0, _ => []
 | f + 1, e => (kidsF e bOutline).filterMap (oneO (ofF f))
theorem cutF_len (s : Bs) (n : Nat) : (cutF s n).length ≤ n ∧ (cutF s n).length ≤ s.length := by
 have := cutA_le s s.length 0 n (by omega)
 unfold cutA at this
 simp only [List.drop_zero] at this
 unfold cutF
 rw [List.length_take]; omega
theorem shortF_len (s : Bs) (n : Nat) : (shortF s n).length ≤ 8 * n := by
 have h1 := cleanF_len (cutF (cleanF s) n)
 have h2 := (cutF_len (cleanF s) n).1
 unfold shortF; omega
theorem orF_len (a b c : Bs) (n : Nat) (ha : a.length ≤ n) (hb : b.length ≤ n) (hc : c.length ≤ n) : (orF a b c).length ≤ n := by
 unfold orF; split
 ·exact ha
 ·split
  ·exact hb
  ·exact hc
theorem titF_len (k : Elem) : (titF k).length ≤ 2048 := orF_len _ _ _ _ (shortF_len _ _) (shortF_len _ _) (shortF_len _ _)
theorem url_len (k : Elem) : (attrS k bUrl 512).length ≤ 4096 := shortF_len _ _
theorem filter_sz (p : Elem → Bool) (l : List Elem) : szs Elem.sz (l.filter p) ≤ szs Elem.sz l := by
 induction l with
 | nil => exact Nat.le_refl _
 | cons x l ih => rw [List.filter_cons]; split <;> simp only [szs] <;> omega
theorem kidsF_szs (e : Elem) (n : Bs) : szs Elem.sz (kidsF e n) + 1 ≤ e.sz := by
 have h1 := filter_sz (fun k => decide (short k.name = n)) e.kids
 have h2 := e.sz_eq
 unfold kidsF; omega
def textO (s : Bs) (m : Nat) : Bool := decide (s.length ≤ m) && rightS s && decide (cleanF s = s)
def oneOk (o : Outl) : Bool := decide (o.title ≠ []) && textO o.title 256 && textO o.url 512 && (decide (o.url = []) || decide (o.kids = []))
def cntGo (g : List Outl → Nat) : List Outl → Nat → Nat
 | [], n => n
 | o :: t, n => if oneOk o then (if 512 < n + g o.kids then n + g o.kids else cntGo g t (n + g o.kids)) else 513
def cntN : Nat → List Outl → Nat
 | 0, l => if l = [] then 0 else 513
 | f + 1, l => if 512 < l.length then 513 else cntGo (cntN f) l l.length
def mayGo (g : List Outl → Nat → Nat × Bool) : List Outl → Nat → Nat × Bool
 | [], n => (n, true)
 | o :: t, n => if n + 1 ≤ 512 ∧ oneOk o = true then (if (g o.kids (n + 1)).2 then mayGo g t (g o.kids (n + 1)).1 else ((g o.kids (n + 1)).1, false)) else (n + 1, false)
def mayN : Nat → List Outl → Nat → Nat × Bool
 | 0, l, n => if l = [] then (n, true) else (n, false)
 | f + 1, l, n => mayGo (mayN f) l n
theorem mayGo_ge (g : List Outl → Nat → Nat × Bool) (hg : ∀ l n, n ≤ 512 → (g l n).2 = true → n ≤ (g l n).1 ∧ (g l n).1 ≤ 512) : ∀ (t : List Outl) (m : Nat), m ≤ 512 → (mayGo g t m).2 = true → m + t.length ≤ (mayGo g t m).1 ∧ (mayGo g t m).1 ≤ 512
 | [], m, hm, _ => ⟨by simp [mayGo], hm⟩
 | o :: t, m, hm, h => by
  rw [mayGo] at h ⊢
  by_cases h1 : m + 1 ≤ 512 ∧ oneOk o = true
  ·rw [if_pos h1] at h ⊢
   by_cases h2 : (g o.kids (m + 1)).2 = true
   ·rw [if_pos h2] at h ⊢
    have a := hg o.kids (m + 1) h1.1 h2
    have b := mayGo_ge g hg t _ a.2 h
    simp only [List.length_cons]; omega
   ·rw [if_neg h2] at h; cases h
  ·rw [if_neg h1] at h; cases h
theorem mayN_ge : ∀ (f : Nat) (l : List Outl) (n : Nat), n ≤ 512 → (mayN f l n).2 = true → n ≤ (mayN f l n).1 ∧ (mayN f l n).1 ≤ 512 := by
 intro f
 induction f with
 | zero =>
  intro l n hn h
  rw [mayN] at h ⊢
  by_cases hl : l = []
  ·rw [if_pos hl]; exact ⟨Nat.le_refl _, hn⟩
  ·rw [if_neg hl] at h; cases h
 | succ f ih =>
  intro l n hn h
  rw [mayN] at h ⊢
  have := mayGo_ge (mayN f) ih l n hn h
  omega
theorem cntGo_ge (g : List Outl → Nat) : ∀ (t : List Outl) (a : Nat), a ≤ 512 → a ≤ cntGo g t a
 | [], a, _ => Nat.le_refl _
 | o :: t, a, ha => by
  rw [cntGo]
  split
  ·split
   ·omega
   ·have := cntGo_ge g t (a + g o.kids) (by omega); omega
  ·omega
theorem may_cnt : ∀ (f : Nat) (l : List Outl) (n : Nat), n ≤ 512 → ((mayN f l n).2 = true ↔ n + cntN f l ≤ 512) ∧ ((mayN f l n).2 = true → (mayN f l n).1 = n + cntN f l) := by
 intro f
 induction f with
 | zero =>
  intro l n hn
  rw [mayN, cntN]
  by_cases hl : l = []
  ·rw [if_pos hl, if_pos hl]; simp; omega
  ·rw [if_neg hl, if_neg hl]; simp
 | succ f ih =>
  intro l n hn
  have key : ∀ (t : List Outl) (a m : Nat), a ≤ 512 → m ≤ 512 → m + t.length = n + a → ((mayGo (mayN f) t m).2 = true ↔ n + cntGo (cntN f) t a ≤ 512) ∧ ((mayGo (mayN f) t m).2 = true → (mayGo (mayN f) t m).1 = n + cntGo (cntN f) t a) := by
   intro t
   induction t with
   | nil =>
    intro a m ha hm he
    simp only [List.length_nil, Nat.add_zero] at he
    rw [mayGo, cntGo]; simp; omega
   | cons o t iht =>
    intro a m ha hm he
    simp only [List.length_cons] at he
    have hge := cntGo_ge (cntN f) (o :: t) a ha
    by_cases h1 : m + 1 ≤ 512
    ·by_cases h2 : oneOk o = true
     ·have hi := ih o.kids (m + 1) h1
      rw [mayGo, if_pos ⟨h1, h2⟩, cntGo, if_pos h2]
      by_cases hq : (mayN f o.kids (m + 1)).2 = true
      ·rw [if_pos hq]
       have e1 := hi.2 hq
       have e2 := mayN_ge f o.kids (m + 1) h1 hq
       by_cases h3 : 512 < a + cntN f o.kids
       ·rw [if_pos h3]
        have no : ¬ (mayGo (mayN f) t (mayN f o.kids (m + 1)).1).2 = true := fun hh => by
         have := mayGo_ge (mayN f) (mayN_ge f) t _ e2.2 hh
         omega
        exact ⟨⟨fun hh => absurd hh no, fun hh => by omega⟩, fun hh => absurd hh no⟩
       ·rw [if_neg h3]
        exact iht _ _ (by omega) e2.2 (by omega)
      ·rw [if_neg hq]
       have e1 : ¬ (m + 1 + cntN f o.kids ≤ 512) := fun hh => hq (hi.1.2 hh)
       refine ⟨⟨fun hh => (by cases hh), fun hh => ?_⟩, fun hh => (by cases hh)⟩
       exfalso
       split at hh
       ·omega
       ·rename_i h3
        have := cntGo_ge (cntN f) t (a + cntN f o.kids) (by omega)
        omega
     ·rw [mayGo, if_neg (fun hh => h2 hh.2), cntGo, if_neg h2]
      exact ⟨⟨fun hh => (by cases hh), fun hh => (by omega)⟩, fun hh => (by cases hh)⟩
    ·rw [mayGo, if_neg (fun hh => h1 hh.1)]
     exact ⟨⟨fun hh => (by cases hh), fun hh => (by omega)⟩, fun hh => (by cases hh)⟩
  rw [mayN, cntN]
  by_cases hl : 512 < l.length
  ·rw [if_pos hl]
   have no : ¬ (mayGo (mayN f) l n).2 = true := fun hh => by
    have := mayGo_ge (mayN f) (mayN_ge f) l n hn hh; omega
   exact ⟨⟨fun hh => absurd hh no, fun hh => by omega⟩, fun hh => absurd hh no⟩
  ·rw [if_neg hl]
   exact key l l.length n (by omega) hn (by omega)
end Go.Av
namespace Go.Av
open Go Go.Proofs Go.RowKit
set_option maxRecDepth 100000
def nVer : Bs := [118, 101, 114, 115, 105, 111, 110]
def q1 : Bs := [60, 111, 117, 116, 108, 105, 110, 101, 32, 116, 101, 120, 116, 61, 34]
def q2 : Bs := [34, 32, 120, 109, 108, 85, 114, 108, 61, 34]
def q3 : Bs := [34, 62]
def q4 : Bs := [60, 47, 111, 117, 116, 108, 105, 110, 101, 62]
def q5 : Bs := [60, 111, 112, 109, 108, 32, 118, 101, 114, 115, 105, 111, 110, 61, 34, 50, 46, 48, 34, 62]
def q6 : Bs := [60, 98, 111, 100, 121, 62]
def q7 : Bs := [60, 47, 98, 111, 100, 121, 62]
def q8 : Bs := [60, 47, 111, 112, 109, 108, 62]
def opB (o : Outl) : Bs := q1 ++ escF o.title ++ (if o.url = [] then [] else q2 ++ escF o.url) ++ q3
def opT (o : Outl) : Tok := (1, bOutline, (bText, o.title) :: (if o.url = [] then [] else [(bUrl, o.url)]), [])
def clT : Tok := (2, bOutline, [], [])
def pcs : Nat → List Outl → List (Bs × Tok)
 | 0, _ => []
 | f + 1, l => l.flatMap fun o => (opB o, opT o) :: pcs f o.kids ++ [(q4, clT)]
def Pc (p : Bs × Tok) : Prop := p.1 ≠ [] ∧ p.2.1 ≠ 3 ∧ ∀ r, partF (p.1 ++ r) = ([p.2], r, false)
theorem part_close (n r : Bs) (hn : nameW (n ++ 62 :: r) = n) (hr : nameR (n ++ 62 :: r) = 62 :: r) (hb : badN n = false) : partF (60 :: 47 :: n ++ 62 :: r) = ([(2, n, [], [])], r, false) := by
 have e1 : Lib.hasPrefix (60 :: 47 :: n ++ 62 :: r) p1 = false := rfl
 have e2 : Lib.hasPrefix (60 :: 47 :: n ++ 62 :: r) p2 = false := rfl
 have e3 : Lib.hasPrefix (60 :: 47 :: n ++ 62 :: r) p3 = false := rfl
 have e4 : Lib.hasPrefix (60 :: 47 :: n ++ 62 :: r) p4 = false := rfl
 have e5 : Lib.hasPrefix (60 :: 47 :: n ++ 62 :: r) p5 = true := rfl
 have e6 : Lib.trimPrefix (60 :: 47 :: n ++ 62 :: r) p5 = n ++ 62 :: r := by unfold Lib.trimPrefix; rw [if_pos e5]; rfl
 unfold partF
 rw [e1, e2, e3, e4, e5, e6]
 simp only [Bool.false_eq_true, if_false, if_true]
 have e7 : (62 :: r : Bs).dropWhile blankB = 62 :: r := rfl
 have e8 : Lib.hasPrefix (62 :: r) [62] = true := rfl
 have e9 : Lib.trimPrefix (62 :: r) [62] = r := by unfold Lib.trimPrefix; rw [if_pos e8]; rfl
 unfold closeF
 simp only [hn, hr, hb, e7, e8, e9]
 rfl
theorem openL_end (f : Nat) (n : Bs) (at_ : List At) (r : Bs) : openL (f + 1) n at_ (62 :: r) false = ([(1, n, at_, [])], r, false) := by
 have e7 : (62 :: r : Bs).dropWhile blankB = 62 :: r := rfl
 have e8 : Lib.hasPrefix (62 :: r) [62] = true := rfl
 have e9 : Lib.trimPrefix (62 :: r) [62] = r := by unfold Lib.trimPrefix; rw [if_pos e8]; rfl
 rw [openL, e7, e8, e9]; rfl
theorem openL_attr (f : Nat) (n m v : Bs) (at_ : List At) (r : Bs) (h1 : (m ++ 61 :: 34 :: escF v ++ 34 :: r).dropWhile blankB = m ++ 61 :: 34 :: escF v ++ 34 :: r) (h2 : Lib.hasPrefix (m ++ 61 :: 34 :: escF v ++ 34 :: r) [62] = false) (h3 : Lib.hasPrefix (m ++ 61 :: 34 :: escF v ++ 34 :: r) [47, 62] = false)
  (hn : nameW (m ++ 61 :: 34 :: escF v ++ 34 :: r) = m) (hr : nameR (m ++ 61 :: 34 :: escF v ++ 34 :: r) = 61 :: 34 :: escF v ++ 34 :: r) (hb : badN m = false) (h4 : (at_.any fun a => a.1 == m) = false) (h5 : decide (32 ≤ at_.length) = false) :
  openL (f + 1) n at_ (32 :: (m ++ 61 :: 34 :: escF v ++ 34 :: r)) false = openL f n (at_ ++ [(m, v)]) r false := by
 have e7 : (32 :: (m ++ 61 :: 34 :: escF v ++ 34 :: r) : Bs).dropWhile blankB = m ++ 61 :: 34 :: escF v ++ 34 :: r := h1
 rw [openL, e7, h2, h3, attrX_esc m v r hn hr hb, h4, h5]
 rfl
theorem part_open (n r : Bs) (c : UInt8) (h1 : (c == 33) = false) (h2 : (c == 63) = false) (h3 : (c == 47) = false) : partF (60 :: c :: n ++ r) = openF (c :: n ++ r) := by
 have b1 : ((33 : UInt8) == c) = false := by rw [← h1]; exact Bool.beq_comm
 have b2 : ((63 : UInt8) == c) = false := by rw [← h2]; exact Bool.beq_comm
 have b3 : ((47 : UInt8) == c) = false := by rw [← h3]; exact Bool.beq_comm
 have e1 : Lib.hasPrefix (60 :: c :: n ++ r) p1 = false := by simp [Lib.hasPrefix, p1, List.isPrefixOf, b1]
 have e2 : Lib.hasPrefix (60 :: c :: n ++ r) p2 = false := by simp [Lib.hasPrefix, p2, List.isPrefixOf, b2]
 have e3 : Lib.hasPrefix (60 :: c :: n ++ r) p3 = false := by simp [Lib.hasPrefix, p3, List.isPrefixOf, b1]
 have e4 : Lib.hasPrefix (60 :: c :: n ++ r) p4 = false := by simp [Lib.hasPrefix, p4, List.isPrefixOf, b1]
 have e5 : Lib.hasPrefix (60 :: c :: n ++ r) p5 = false := by simp [Lib.hasPrefix, p5, List.isPrefixOf, b3]
 have e6 : Lib.hasPrefix (60 :: c :: n ++ r) p6 = true := rfl
 have e7 : Lib.trimPrefix (60 :: c :: n ++ r) p6 = c :: n ++ r := by unfold Lib.trimPrefix; rw [if_pos e6]; rfl
 unfold partF
 rw [e1, e2, e3, e4, e5, e6, e7]
 simp only [Bool.false_eq_true, if_false, if_true]
theorem open_outl (o : Outl) (r : Bs) : partF (opB o ++ r) = ([opT o], r, false) := by
 have key : ∀ u : Bs, openF (bOutline ++ 32 :: (bText ++ 61 :: 34 :: escF o.title ++ 34 :: u)) = openL (bOutline ++ 32 :: (bText ++ 61 :: 34 :: escF o.title ++ 34 :: u)).length.succ.succ bOutline [(bText, o.title)] u false := fun u => by
  unfold openF
  have a1 : nameW (bOutline ++ 32 :: (bText ++ 61 :: 34 :: escF o.title ++ 34 :: u)) = bOutline := rfl
  have a2 : nameR (bOutline ++ 32 :: (bText ++ 61 :: 34 :: escF o.title ++ 34 :: u)) = 32 :: (bText ++ 61 :: 34 :: escF o.title ++ 34 :: u) := rfl
  have a3 : badN bOutline = false := rfl
  rw [a1, a2, a3]
  exact openL_attr _ bOutline bText o.title [] u rfl rfl rfl rfl rfl rfl rfl rfl
 have e0 : ∀ v : Bs, partF (q1 ++ v) = openF (bOutline ++ 32 :: (bText ++ 61 :: 34 :: v)) := fun v => part_open [117, 116, 108, 105, 110, 101, 32, 116, 101, 120, 116, 61, 34] v 111 rfl rfl rfl
 unfold opB opT
 by_cases hu : o.url = []
 ·rw [if_pos hu, if_pos hu, List.append_nil, List.append_assoc, List.append_assoc, e0]
  have e1 : (escF o.title ++ (q3 ++ r)) = escF o.title ++ 34 :: (62 :: r) := rfl
  rw [e1]
  have := key (62 :: r)
  simp only [List.cons_append, List.append_assoc] at this ⊢
  rw [this]
  exact openL_end _ _ _ _
 ·rw [if_neg hu, if_neg hu]
  have e1 : q1 ++ escF o.title ++ (q2 ++ escF o.url) ++ q3 ++ r = q1 ++ (escF o.title ++ 34 :: (32 :: (bUrl ++ 61 :: 34 :: escF o.url ++ 34 :: (62 :: r)))) := by simp [q2, q3, bUrl]
  rw [e1, e0]
  have := key (32 :: (bUrl ++ 61 :: 34 :: escF o.url ++ 34 :: (62 :: r)))
  simp only [List.cons_append, List.append_assoc] at this ⊢
  rw [this]
  have h2 := openL_attr (bOutline ++ 32 :: (bText ++ 61 :: 34 :: escF o.title ++ 34 :: (32 :: (bUrl ++ 61 :: 34 :: escF o.url ++ 34 :: (62 :: r))))).length.succ bOutline bUrl o.url [(bText, o.title)] (62 :: r) rfl rfl rfl rfl rfl rfl rfl rfl
  simp only [List.cons_append, List.append_assoc] at h2
  rw [h2]
  exact openL_end _ _ _ _
theorem pc_open (o : Outl) : Pc (opB o, opT o) := ⟨by simp [opB, q1], by simp [opT], fun r => open_outl o r⟩
theorem pc_close : Pc (q4, clT) := ⟨by simp [q4], by simp [clT], fun r => part_close bOutline r rfl rfl rfl⟩
theorem pcs_pc : ∀ (f : Nat) (l : List Outl), ∀ p ∈ pcs f l, Pc p := by
 intro f
 induction f with
 | zero => intro l p hp; simp [pcs] at hp
 | succ f ih =>
  intro l p hp
  rw [pcs] at hp
  obtain ⟨o, _, hp⟩ := List.mem_flatMap.1 hp
  simp only [List.mem_append, List.mem_cons, List.mem_nil_iff, or_false] at hp
  rcases hp with (rfl | hp) | rfl
  ·exact pc_open o
  ·exact ih _ p hp
  ·exact pc_close
theorem pc_opml : Pc (q5, (1, bOpml, [(nVer, [50, 46, 48])], [])) := ⟨by simp [q5], by simp, fun r => by
 have e0 : partF (q5 ++ r) = openF (bOpml ++ 32 :: (nVer ++ 61 :: 34 :: escF [50, 46, 48] ++ 34 :: (62 :: r))) := part_open [112, 109, 108, 32, 118, 101, 114, 115, 105, 111, 110, 61, 34, 50, 46, 48, 34, 62] r 111 rfl rfl rfl
 rw [e0]
 unfold openF
 have a1 : nameW (bOpml ++ 32 :: (nVer ++ 61 :: 34 :: escF [50, 46, 48] ++ 34 :: (62 :: r))) = bOpml := rfl
 have a2 : nameR (bOpml ++ 32 :: (nVer ++ 61 :: 34 :: escF [50, 46, 48] ++ 34 :: (62 :: r))) = 32 :: (nVer ++ 61 :: 34 :: escF [50, 46, 48] ++ 34 :: (62 :: r)) := rfl
 have a3 : badN bOpml = false := rfl
 rw [a1, a2, a3, openL_attr _ bOpml nVer [50, 46, 48] [] (62 :: r) rfl rfl rfl rfl rfl rfl rfl rfl]
 exact openL_end _ _ _ _⟩
theorem pc_body : Pc (q6, (1, bBody, [], [])) := ⟨by simp [q6], by simp, fun r => by
 have e0 : partF (q6 ++ r) = openF (bBody ++ 62 :: r) := part_open [111, 100, 121, 62] r 98 rfl rfl rfl
 rw [e0]
 unfold openF
 have a1 : nameW (bBody ++ 62 :: r) = bBody := rfl
 have a2 : nameR (bBody ++ 62 :: r) = 62 :: r := rfl
 have a3 : badN bBody = false := rfl
 rw [a1, a2, a3]
 exact openL_end _ _ _ _⟩
theorem pc_ebody : Pc (q7, (2, bBody, [], [])) := ⟨by simp [q7], by simp, fun r => part_close bBody r rfl rfl rfl⟩
theorem pc_eopml : Pc (q8, (2, bOpml, [], [])) := ⟨by simp [q8], by simp, fun r => part_close bOpml r rfl rfl rfl⟩
theorem tksF_pcs : ∀ (ps : List (Bs × Tok)) (f : Nat) (l : List Tok), (∀ p ∈ ps, Pc p) → ps.length < f → l.length + ps.length ≤ 8192 → tksF f (ps.flatMap (·.1)) l = (l ++ ps.map (·.2), 0)
 | [], f, l, _, hf, _ => by
  obtain ⟨f, rfl⟩ : ∃ k, f = k + 1 := ⟨f - 1, by omega⟩
  rw [List.flatMap_nil, tksF, if_pos rfl]; simp
 | p :: ps, f, l, hp, hf, hl => by
  simp only [List.length_cons] at hf hl
  obtain ⟨f, rfl⟩ : ∃ k, f = k + 1 := ⟨f - 1, by omega⟩
  obtain ⟨h1, h2, h3⟩ := hp p (List.mem_cons_self ..)
  have hne : p.1 ++ ps.flatMap (·.1) ≠ [] := by simp [h1]
  have ha : [p.2].foldl addT l = l ++ [p.2] := by show addT l p.2 = _; unfold addT; rw [if_neg h2]
  rw [List.flatMap_cons, tksF, if_neg hne, h3]
  simp only [Bool.false_eq_true, if_false, ha]
  rw [if_neg (by simp; omega), tksF_pcs ps f _ (fun q hq => hp q (List.mem_cons_of_mem _ hq)) (by omega) (by simp; omega)]
  simp
def docP (f : Nat) (l : List Outl) : List (Bs × Tok) := (q5, (1, bOpml, [(nVer, [50, 46, 48])], [])) :: (q6, (1, bBody, [], [])) :: pcs f l ++ [(q7, (2, bBody, [], [])), (q8, (2, bOpml, [], []))]
def docF (f : Nat) (l : List Outl) : Bs := (docP f l).flatMap (·.1)
theorem docP_pc (f : Nat) (l : List Outl) : ∀ p ∈ docP f l, Pc p := by
 intro p hp
 simp only [docP, List.mem_append, List.mem_cons, List.mem_nil_iff, or_false] at hp
 rcases hp with (rfl | rfl | hp) | rfl | rfl
 ·exact pc_opml
 ·exact pc_body
 ·exact pcs_pc f l p hp
 ·exact pc_ebody
 ·exact pc_eopml
theorem pcs_flat : ∀ ps : List (Bs × Tok), (∀ p ∈ ps, Pc p) → ps.length ≤ (ps.flatMap (·.1)).length
 | [], _ => by simp
 | p :: ps, h => by
  have h1 := pcs_flat ps fun q hq => h q (List.mem_cons_of_mem _ hq)
  have h2 := List.length_pos_iff.2 (h p (List.mem_cons_self ..)).1
  rw [List.flatMap_cons, List.length_append, List.length_cons]; omega
theorem toksF_doc (f : Nat) (l : List Outl) (h1 : (docF f l).length ≤ 65536) (h2 : (docP f l).length ≤ 8192) : toksF (docF f l) = ((docP f l).map (·.2), 0) := by
 unfold toksF
 rw [if_neg (by omega)]
 have := tksF_pcs (docP f l) ((docF f l).length + 1) [] (docP_pc f l) (by have := pcs_flat _ (docP_pc f l); unfold docF; omega) (by simpa using h2)
 simpa [docF] using this
end Go.Av
namespace Go.Av
open Go Go.Proofs Go.RowKit
attribute [local irreducible] WP WPl WPix Sat
set_option maxRecDepth 100000
set_option maxHeartbeats 1000000
variable {G : Nat → Option (List AVal)}
def prsC (s : Bs) : Int := if (toksF s).2 = 0 then (if (bldF (toksF s).1).isSome then 0 else 90) else (toksF s).2
def PrsR (h : Heap) (s : Bs) (r : AVal) (h' : Heap) : Prop :=
 ∃ e : Elem, r = .tup [e.av, .int .i64 (prsC s)] ∧ (∀ x, prsC s = 0 → bldF (toksF s).1 = some x → e = x) ∧ (prsC s ≠ 0 → e = ⟨[], [], [], []⟩) ∧ h' = h
theorem PrsR.bad {h : Heap} {s : Bs} (j : Heap) (c : Int) (e : prsC s = c) (hc : c ≠ 0) : Fin h (h ++ j) (PrsR h s) (.tup [.agg [.str [], .nil (.slice none 0 0), .str [], .nil (.slice none 0 0)], .int .i64 c]) := by
 have z : Frz (h ++ j) h.length (.agg [.str [], .nil (.slice none 0 0), .str [], .nil (.slice none 0 0)]) (Elem.av ⟨[], [], [], []⟩) := by
  rw [Elem.av_eq]
  exact FrzL.agg (.cons (.clo _ (.str _)) (.cons (.nils 2) (.cons (.clo _ (.str _)) (.cons (.nils 4) .nil)))) rfl
 exact Fin.frz (FrzL.tup (.cons z (.cons (.clo _ (.int _ _)) .nil))) ⟨_, by rw [e], (fun x hx => by rw [e] at hx; exact absurd hx hc), fun _ => rfl, rfl⟩
theorem toksF_sz (s : Bs) : szs Tok.sz (toksF s).1 ≤ 10 * s.length := by
 unfold toksF
 split
 ·simp [szs]
 ·have := tksF_sz (s.length + 1) s []; simpa [szs] using this
theorem toksF_szB (s : Bs) : szs Tok.sz (toksF s).1 ≤ 655360 := by
 have h := toksF_sz s
 by_cases hs : 65536 < s.length
 ·unfold toksF; rw [if_pos hs]; simp [szs]
 ·omega
end Go.Av
namespace Go.Av
open Go Go.Proofs Go.RowKit
attribute [local irreducible] WP WPl WPix Sat
set_option maxRecDepth 100000
set_option maxHeartbeats 1000000
variable (G : Nat → Option (List AVal))
def bA (s : Bs) (i : Nat) : Nat := (s.getD i 0).toNat
theorem bA_lt (s : Bs) (i : Nat) : bA s i < 256 := UInt8.toNat_lt _
theorem bA_eq {s : Bs} {i : Nat} {c : UInt8} (h : s[i]? = some c) : bA s i = c.toNat := by unfold bA; rw [List.getD_eq_getElem?_getD, h]; rfl
def Cls (b : Nat) (n : Nat) (r l : Int) : Prop :=
 (192 ≤ b ∧ b < 224 ∧ n = 2 ∧ r = b - 192 ∧ l = 128) ∨ (224 ≤ b ∧ b < 240 ∧ n = 3 ∧ r = b - 224 ∧ l = 2048) ∨ (240 ≤ b ∧ b < 248 ∧ n = 4 ∧ r = b - 240 ∧ l = 65536)
def accI (s : Bs) (r : Int) : Nat → Int
 | 0 => r
 | i + 1 => accI s r i * 64 + (bA s (i + 1) - 128)
theorem dec_b (s : Bs) : dec s 0 = Lib.decodeN s.length (bA s 0) (bA s 1) (bA s 2) (bA s 3) := by rw [dec_N]; rfl
theorem first_none (s : Bs) (h : (128 ≤ bA s 0 ∧ bA s 0 < 192) ∨ 248 ≤ bA s 0) : dec s 0 = (65533, 1) := by
 rw [dec_b]
 have := bA_lt s 0
 unfold Lib.decodeN
 rw [if_neg (by omega), if_neg (by omega), if_neg (by omega), if_neg (by omega)]
theorem first_short (s : Bs) {n : Nat} {r l : Int} (hc : Cls (bA s 0) n r l) (h : s.length < n) : dec s 0 = (65533, 1) := by
 rw [dec_b]
 unfold Cls at hc
 unfold Lib.decodeN
 rw [if_neg (by omega), if_neg (by omega), if_neg (by omega), if_neg (by omega)]
theorem first_tail (s : Bs) {n : Nat} {r l : Int} (hc : Cls (bA s 0) n r l) (i : Nat) (h1 : 1 ≤ i) (h2 : i < n) (h : ¬ (128 ≤ bA s i ∧ bA s i < 192)) : dec s 0 = (65533, 1) := by
 rw [dec_b]
 unfold Cls at hc
 have := bA_lt s i
 unfold Lib.decodeN
 have hi : i = 1 ∨ i = 2 ∨ i = 3 := by omega
 rcases hi with rfl | rfl | rfl <;> rw [if_neg (by omega), if_neg (by omega), if_neg (by omega), if_neg (by omega)]
theorem first_all (s : Bs) {n : Nat} {r l : Int} (hc : Cls (bA s 0) n r l) (hn : n ≤ s.length) (ht : ∀ i, 1 ≤ i → i < n → 128 ≤ bA s i ∧ bA s i < 192) :
  ((accI s r (n - 1) < l ∨ 1114111 < accI s r (n - 1) ∨ (55296 ≤ accI s r (n - 1) ∧ accI s r (n - 1) ≤ 57343)) → dec s 0 = (65533, 1)) ∧
  (¬ (accI s r (n - 1) < l ∨ 1114111 < accI s r (n - 1) ∨ (55296 ≤ accI s r (n - 1) ∧ accI s r (n - 1) ≤ 57343)) → ((dec s 0).1 : Int) = accI s r (n - 1) ∧ (dec s 0).2 = n) := by
 rw [dec_b]
 unfold Cls at hc
 rcases hc with ⟨h1, h2, rfl, rfl, rfl⟩ | ⟨h1, h2, rfl, rfl, rfl⟩ | ⟨h1, h2, rfl, rfl, rfl⟩
 ·have t1 := ht 1 (by omega) (by omega)
  simp only [accI, Nat.reduceSub, Nat.reduceAdd]
  unfold Lib.decodeN
  rw [if_neg (by omega), if_pos (by omega)]
  constructor
  ·intro h; rw [if_neg (by omega)]
  ·intro h; rw [if_pos (by omega)]; dsimp only; refine ⟨?_, rfl⟩; omega
 ·have t1 := ht 1 (by omega) (by omega)
  have t2 := ht 2 (by omega) (by omega)
  simp only [accI, Nat.reduceSub, Nat.reduceAdd]
  unfold Lib.decodeN
  rw [if_neg (by omega), if_neg (by omega), if_pos (by omega)]
  constructor
  ·intro h; rw [if_neg (by omega)]
  ·intro h; rw [if_pos (by omega)]; dsimp only; refine ⟨?_, rfl⟩; omega
 ·have t1 := ht 1 (by omega) (by omega)
  have t2 := ht 2 (by omega) (by omega)
  have t3 := ht 3 (by omega) (by omega)
  simp only [accI, Nat.reduceSub, Nat.reduceAdd]
  unfold Lib.decodeN
  rw [if_neg (by omega), if_neg (by omega), if_neg (by omega), if_pos (by omega)]
  constructor
  ·intro h; rw [if_neg (by omega)]
  ·intro h; rw [if_pos (by omega)]; dsimp only; refine ⟨?_, rfl⟩; omega
theorem rtail_sat (b : UInt8) (h : Heap) : Sat (CT G) 170 [.int .u8 b.toNat] h (fun r h' => r = .bool (decide (128 ≤ b.toNat ∧ b.toNat < 192)) ∧ h' = h) := by
 refine sb [.tmp 2] (fn := Tryz.f170) Tryz.func170 ?_
 intro Q hQ
 refine wk trivial ?_
 (first | refine gq trivial (fun g1 => ?_) (fun g1 => ?_) | refine pq trivial (fun g1 => ?_) (fun g1 => ?_)) <;> (try exact g1.elim) <;> (try refine sq trivial ?_) <;> (refine wk trivial ?_)
 ·refine ee hQ trivial ?_
  refine fR (.bool _) ?_
  congr 1
  rw [Bool.eq_iff_iff]; simp; omega
 ·refine ee hQ trivial ?_
  refine fR (.bool _) ?_
  rw [decide_eq_false (by omega)]
theorem aconv_8r (k : IntKind) (n : Int) (h0 : 0 ≤ n) (h1 : n < 256) : aconv Tryz.prog 5 21 (.int k n) = some (.int .i32 n) := by simp only [aconv, go_sem, wrap32_in (x := n) (by omega) (by omega)]
theorem First_sat (s : Bs) (hne : s ≠ []) (hs : s.length ≤ 1073741824) (h : Heap) : Sat (CT G) 146 [.str s] h (fun r h' => r = .tup [.int .i32 (dec s 0).1, .int .i64 (dec s 0).2] ∧ h' = h) := by
 have hpos : 0 < s.length := List.length_pos_iff.2 hne
 obtain ⟨b, hb, _⟩ := getElem?_of_lt hpos
 have hbA := bA_eq hb
 have hb256 := b.toNat_lt
 have fin : ∀ c w : Int, ((dec s 0).1 : Int) = c → ((dec s 0).2 : Int) = w → Fin h h (fun r h' => r = .tup [.int .i32 (dec s 0).1, .int .i64 (dec s 0).2] ∧ h' = h) (.tup [.int .i32 c, .int .i64 w]) := fun c w e1 e2 => by
  rw [e1, e2]
  exact Fin.same (.tup _ (by intro c hc; simp at hc; rcases hc with rfl | rfl <;> exact .int _ _)) ⟨rfl, rfl⟩
 have bad : dec s 0 = (65533, 1) → Fin h h (fun r h' => r = .tup [.int .i32 (dec s 0).1, .int .i64 (dec s 0).2] ∧ h' = h) (.tup [.int .i32 65533, .int .i64 1]) := fun e => fin _ _ (by rw [e]; rfl) (by rw [e]; rfl)
 have F := F4 @aconv_8r @wrapu8_in @wrap32_in hb
 refine sb [.tmp 2, .tmp 3] (fn := Tryz.f146) Tryz.func146 ?_
 intro Q hQ
 (repeat (first | refine w1 (fun K hK => ?_) | refine w2 ?_ | refine w3 ?_ | ((first | refine w4 ?_ | refine wD ?_ | refine w5 ?_ | refine w6 ?_ | refine w7 ?_); try refine sq F ?_) | (refine w8 ?_; refine sq F ?_; refine w9 ?_) | ((first | refine hK _ _ (w0 ?_) | (clear hK K; refine hK _ _ (w0 ?_)) | (clear hK K; clear hK K; refine hK _ _ (w0 ?_))); clear hK K)))
 refine cq F (fun c1 => ?_) (fun c1 => ?_) <;> (try exact c1.elim) <;> ((repeat (first | refine w1 (fun K hK => ?_) | refine w2 ?_ | refine w3 ?_ | ((first | refine w4 ?_ | refine wD ?_ | refine w5 ?_ | refine w6 ?_ | refine w7 ?_); try refine sq F ?_) | (refine w8 ?_; refine sq F ?_; refine w9 ?_) | ((first | refine hK _ _ (w0 ?_) | (clear hK K; refine hK _ _ (w0 ?_)) | (clear hK K; clear hK K; refine hK _ _ (w0 ?_))); clear hK K))))
 ·refine ee hQ F ?_
  have e := dec_ascii s 0 b hb (by omega)
  exact fin _ _ (by rw [e]) (by rw [e]; rfl)
 rename_i K0 hK0
 have tail : ∀ (t' : Env) (n : Nat) (r l : Int), Cls (bA s 0) n r l → t' 0 = .str s → t' 5 = .int .i64 n → t' 6 = .int .i32 r → t' 7 = .int .i32 l → K0 t' h := by
  intro t' n r l hc e0 e5 e6 e7
  refine hK0 _ _ (Wkn.refl ?_)
  clear hK0 K0 hK K
  have F := F5 F e0 e5 e6 e7
  (repeat (first | refine w1 (fun K hK => ?_) | refine w2 ?_ | refine w3 ?_ | ((first | refine w4 ?_ | refine wD ?_ | refine w5 ?_ | refine w6 ?_ | refine w7 ?_); try refine sq F ?_) | (refine w8 ?_; refine sq F ?_; refine w9 ?_) | ((first | refine hK _ _ (w0 ?_) | (clear hK K; refine hK _ _ (w0 ?_)) | (clear hK K; clear hK K; refine hK _ _ (w0 ?_))); clear hK K)))
  refine cq F (fun c2 => ?_) (fun c2 => ?_) <;> (try exact c2.elim) <;> ((repeat (first | refine w1 (fun K hK => ?_) | refine w2 ?_ | refine w3 ?_ | ((first | refine w4 ?_ | refine wD ?_ | refine w5 ?_ | refine w6 ?_ | refine w7 ?_); try refine sq F ?_) | (refine w8 ?_; refine sq F ?_; refine w9 ?_) | ((first | refine hK _ _ (w0 ?_) | (clear hK K; refine hK _ _ (w0 ?_)) | (clear hK K; clear hK K; refine hK _ _ (w0 ?_))); clear hK K))))
  ·refine ee hQ F ?_
   exact bad (first_short s hc (by omega))
  have hc' := hc
  unfold Cls at hc'
  refine lm (fun nL tL hL => ∃ (i : Nat) (q : Int), n - i = nL ∧ h = hL ∧ tL 6 = .int .i32 q ∧ tL 8 = .int .i64 i ∧ (1 ≤ i ∧ i ≤ n) ∧ q = accI s r (i - 1) ∧ (0 ≤ q ∧ (i = 1 → q < 32) ∧ (i = 2 → q < 2048) ∧ (i = 3 → q < 131072) ∧ (i = 4 → q < 8388608)) ∧ (∀ j, 1 ≤ j → j < i → 128 ≤ bA s j ∧ bA s j < 192)) ((fun (i : Nat) (q : Int) => (n - i : Nat)) (1) (r)) ?_ ?_
  ·refine Wkn.refl ⟨1, r, rfl, hpE, ?_, ?_, ⟨by omega, by omega⟩, rfl, ⟨by omega, by omega, by omega, by omega, by omega⟩, fun j h1 h2 => by omega⟩
   all_goals first | exact zq F | rfl | omega | trivial | skip
  rintro _ s1 h' ⟨i, q, rfl, rfl, e6, e8, hi, hq, hb, ht⟩ K1 hK1
  simp only [mix_cons, mix_nil, Nat.reduceEqDiff, ↓reduceIte] at e6 e8
  have F := F3 F e6 e8
  (repeat (first | refine w1 (fun K hK => ?_) | refine w2 ?_ | refine w3 ?_ | ((first | refine w4 ?_ | refine wD ?_ | refine w5 ?_ | refine w6 ?_ | refine w7 ?_); try refine sq F ?_) | (refine w8 ?_; refine sq F ?_; refine w9 ?_) | ((first | refine hK _ _ (w0 ?_) | (clear hK K; refine hK _ _ (w0 ?_)) | (clear hK K; clear hK K; refine hK _ _ (w0 ?_))); clear hK K)))
  refine cq F (fun c3 => ?_) (fun c3 => ?_) <;> (try exact c3.elim) <;> ((repeat (first | refine w1 (fun K hK => ?_) | refine w2 ?_ | refine w3 ?_ | ((first | refine w4 ?_ | refine wD ?_ | refine w5 ?_ | refine w6 ?_ | refine w7 ?_); try refine sq F ?_) | (refine w8 ?_; refine sq F ?_; refine w9 ?_) | ((first | refine hK _ _ (w0 ?_) | (clear hK K; refine hK _ _ (w0 ?_)) | (clear hK K; clear hK K; refine hK _ _ (w0 ?_))); clear hK K))))
  ·obtain ⟨y, hy, _⟩ := getElem?_of_lt (show i < s.length by omega)
   have hyA := bA_eq hy
   have hy256 := y.toNat_lt
   have F := F2 F hy
   try refine sq F ?_
   (repeat (first | refine w1 (fun K hK => ?_) | refine w2 ?_ | refine w3 ?_ | ((first | refine w4 ?_ | refine wD ?_ | refine w5 ?_ | refine w6 ?_ | refine w7 ?_); try refine sq F ?_) | (refine w8 ?_; refine sq F ?_; refine w9 ?_) | ((first | refine hK _ _ (w0 ?_) | (clear hK K; refine hK _ _ (w0 ?_)) | (clear hK K; clear hK K; refine hK _ _ (w0 ?_))); clear hK K)))
   refine (rtail_sat G y _).mono ?_
   rintro r h' ⟨rfl, rfl⟩
   try refine sq F ?_
   (repeat (first | refine w1 (fun K hK => ?_) | refine w2 ?_ | refine w3 ?_ | ((first | refine w4 ?_ | refine wD ?_ | refine w5 ?_ | refine w6 ?_ | refine w7 ?_); try refine sq F ?_) | (refine w8 ?_; refine sq F ?_; refine w9 ?_) | ((first | refine hK _ _ (w0 ?_) | (clear hK K; refine hK _ _ (w0 ?_)) | (clear hK K; clear hK K; refine hK _ _ (w0 ?_))); clear hK K)))
   refine cq F (fun c4 => ?_) (fun c4 => ?_) <;> (try exact c4.elim) <;> ((repeat (first | refine w1 (fun K hK => ?_) | refine w2 ?_ | refine w3 ?_ | ((first | refine w4 ?_ | refine wD ?_ | refine w5 ?_ | refine w6 ?_ | refine w7 ?_); try refine sq F ?_) | (refine w8 ?_; refine sq F ?_; refine w9 ?_) | ((first | refine hK _ _ (w0 ?_) | (clear hK K; refine hK _ _ (w0 ?_)) | (clear hK K; clear hK K; refine hK _ _ (w0 ?_))); clear hK K))))
   ·refine ee hQ F ?_
    exact bad (first_tail s hc i hi.1 c3 (by rw [hyA]; omega))
   ·have hacc : accI s r i = accI s r (i - 1) * 64 + (bA s i - 128) := by
     obtain ⟨k, rfl⟩ : ∃ k, i = k + 1 := ⟨i - 1, by omega⟩
     rfl
    have hi4 : i = 1 ∨ i = 2 ∨ i = 3 := by omega
    have ht' : ∀ j, 1 ≤ j → j < i + 1 → 128 ≤ bA s j ∧ bA s j < 192 := fun j h1 h2 => by
     rcases Nat.lt_or_ge j i with h3 | h3
     ·exact ht j h1 h3
     ·obtain rfl : j = i := by omega
      rw [hyA]; omega
    have hq' : q * 64 + ((y.toNat : Int) - 128) = accI s r (i + 1 - 1) := by rw [Nat.add_sub_cancel, hacc, ← hq, hyA]
    try refine sq F ?_
    (repeat (first | refine w1 (fun K hK => ?_) | refine w2 ?_ | refine w3 ?_ | ((first | refine w4 ?_ | refine wD ?_ | refine w5 ?_ | refine w6 ?_ | refine w7 ?_); try refine sq F ?_) | (refine w8 ?_; refine sq F ?_; refine w9 ?_) | ((first | refine hK _ _ (w0 ?_) | (clear hK K; refine hK _ _ (w0 ?_)) | (clear hK K; clear hK K; refine hK _ _ (w0 ?_))); clear hK K)))
    refine hK1 _ _ _ (Wkn.refl ⟨i + 1, q * 64 + (y.toNat - 128), rfl, hpE, ?_, ?_, ⟨by omega, by omega⟩, hq', by omega, ht'⟩) (by omega)
    all_goals first | exact zq F | rfl | omega | trivial | skip
  ·have hin : i = n := by omega
   subst hin
   obtain ⟨f1, f2⟩ := first_all s hc (by omega) ht
   rw [← hq] at f1 f2
   try refine sq F ?_
   (repeat (first | refine w1 (fun K hK => ?_) | refine w2 ?_ | refine w3 ?_ | ((first | refine w4 ?_ | refine wD ?_ | refine w5 ?_ | refine w6 ?_ | refine w7 ?_); try refine sq F ?_) | (refine w8 ?_; refine sq F ?_; refine w9 ?_) | ((first | refine hK _ _ (w0 ?_) | (clear hK K; refine hK _ _ (w0 ?_)) | (clear hK K; clear hK K; refine hK _ _ (w0 ?_))); clear hK K)))
   (first | refine gq F (fun g1 => ?_) (fun g1 => ?_) | refine pq F (fun g1 => ?_) (fun g1 => ?_)) <;> (try exact g1.elim) <;> (try refine sq F ?_) <;> ((repeat (first | refine w1 (fun K hK => ?_) | refine w2 ?_ | refine w3 ?_ | ((first | refine w4 ?_ | refine wD ?_ | refine w5 ?_ | refine w6 ?_ | refine w7 ?_); try refine sq F ?_) | (refine w8 ?_; refine sq F ?_; refine w9 ?_) | ((first | refine hK _ _ (w0 ?_) | (clear hK K; refine hK _ _ (w0 ?_)) | (clear hK K; clear hK K; refine hK _ _ (w0 ?_))); clear hK K))))
   ·refine ee hQ F ?_
    exact bad (f1 (by omega))
   ·(first | refine gq F (fun g2 => ?_) (fun g2 => ?_) | refine pq F (fun g2 => ?_) (fun g2 => ?_)) <;> (try exact g2.elim) <;> (try refine sq F ?_) <;> ((repeat (first | refine w1 (fun K hK => ?_) | refine w2 ?_ | refine w3 ?_ | ((first | refine w4 ?_ | refine wD ?_ | refine w5 ?_ | refine w6 ?_ | refine w7 ?_); try refine sq F ?_) | (refine w8 ?_; refine sq F ?_; refine w9 ?_) | ((first | refine hK _ _ (w0 ?_) | (clear hK K; refine hK _ _ (w0 ?_)) | (clear hK K; clear hK K; refine hK _ _ (w0 ?_))); clear hK K))))
    ·refine ee hQ F ?_
     exact bad (f1 (by omega))
    ·(first | refine gq F (fun g3 => ?_) (fun g3 => ?_) | refine pq F (fun g3 => ?_) (fun g3 => ?_)) <;> (try exact g3.elim) <;> (try refine sq F ?_) <;> ((repeat (first | refine w1 (fun K hK => ?_) | refine w2 ?_ | refine w3 ?_ | ((first | refine w4 ?_ | refine wD ?_ | refine w5 ?_ | refine w6 ?_ | refine w7 ?_); try refine sq F ?_) | (refine w8 ?_; refine sq F ?_; refine w9 ?_) | ((first | refine hK _ _ (w0 ?_) | (clear hK K; refine hK _ _ (w0 ?_)) | (clear hK K; clear hK K; refine hK _ _ (w0 ?_))); clear hK K))))
     ·refine cq F (fun g4 => ?_) (fun g4 => ?_) <;> (try exact g4.elim) <;> ((repeat (first | refine w1 (fun K hK => ?_) | refine w2 ?_ | refine w3 ?_ | ((first | refine w4 ?_ | refine wD ?_ | refine w5 ?_ | refine w6 ?_ | refine w7 ?_); try refine sq F ?_) | (refine w8 ?_; refine sq F ?_; refine w9 ?_) | ((first | refine hK _ _ (w0 ?_) | (clear hK K; refine hK _ _ (w0 ?_)) | (clear hK K; clear hK K; refine hK _ _ (w0 ?_))); clear hK K))))
      ·refine ee hQ F ?_
       exact bad (f1 (by omega))
      ·refine ee hQ F ?_
       exact fin _ _ (f2 (by omega)).1 (by rw [(f2 (by omega)).2])
     ·refine ee hQ F ?_
      exact fin _ _ (f2 (by omega)).1 (by rw [(f2 (by omega)).2])
 (first | refine gq F (fun g1 => ?_) (fun g1 => ?_) | refine pq F (fun g1 => ?_) (fun g1 => ?_)) <;> (try exact g1.elim) <;> (try refine sq F ?_) <;> ((repeat (first | refine w1 (fun K hK => ?_) | refine w2 ?_ | refine w3 ?_ | ((first | refine w4 ?_ | refine wD ?_ | refine w5 ?_ | refine w6 ?_ | refine w7 ?_); try refine sq F ?_) | (refine w8 ?_; refine sq F ?_; refine w9 ?_) | ((first | refine hK _ _ (w0 ?_) | (clear hK K; refine hK _ _ (w0 ?_)) | (clear hK K; clear hK K; refine hK _ _ (w0 ?_))); clear hK K))))
 ·refine cq F (fun g2 => ?_) (fun g2 => ?_) <;> (try exact g2.elim) <;> ((repeat (first | refine w1 (fun K hK => ?_) | refine w2 ?_ | refine w3 ?_ | ((first | refine w4 ?_ | refine wD ?_ | refine w5 ?_ | refine w6 ?_ | refine w7 ?_); try refine sq F ?_) | (refine w8 ?_; refine sq F ?_; refine w9 ?_) | ((first | refine hK _ _ (w0 ?_) | (clear hK K; refine hK _ _ (w0 ?_)) | (clear hK K; clear hK K; refine hK _ _ (w0 ?_))); clear hK K))))
  ·refine tail _ 2 (b.toNat - 192) 128 ?_ ?_ ?_ ?_ ?_
   ·unfold Cls; omega
   ·exact zq F
   ·exact zq F
   ·exact zq F
   ·exact zq F
  ·(first | refine gq F (fun g3 => ?_) (fun g3 => ?_) | refine pq F (fun g3 => ?_) (fun g3 => ?_)) <;> (try exact g3.elim) <;> (try refine sq F ?_) <;> ((repeat (first | refine w1 (fun K hK => ?_) | refine w2 ?_ | refine w3 ?_ | ((first | refine w4 ?_ | refine wD ?_ | refine w5 ?_ | refine w6 ?_ | refine w7 ?_); try refine sq F ?_) | (refine w8 ?_; refine sq F ?_; refine w9 ?_) | ((first | refine hK _ _ (w0 ?_) | (clear hK K; refine hK _ _ (w0 ?_)) | (clear hK K; clear hK K; refine hK _ _ (w0 ?_))); clear hK K))))
   ·refine cq F (fun g4 => ?_) (fun g4 => ?_) <;> (try exact g4.elim) <;> ((repeat (first | refine w1 (fun K hK => ?_) | refine w2 ?_ | refine w3 ?_ | ((first | refine w4 ?_ | refine wD ?_ | refine w5 ?_ | refine w6 ?_ | refine w7 ?_); try refine sq F ?_) | (refine w8 ?_; refine sq F ?_; refine w9 ?_) | ((first | refine hK _ _ (w0 ?_) | (clear hK K; refine hK _ _ (w0 ?_)) | (clear hK K; clear hK K; refine hK _ _ (w0 ?_))); clear hK K))))
    ·refine tail _ 3 (b.toNat - 224) 2048 ?_ ?_ ?_ ?_ ?_
     ·unfold Cls; omega
     ·exact zq F
     ·exact zq F
     ·exact zq F
     ·exact zq F
    ·(first | refine gq F (fun g5 => ?_) (fun g5 => ?_) | refine pq F (fun g5 => ?_) (fun g5 => ?_)) <;> (try exact g5.elim) <;> (try refine sq F ?_) <;> ((repeat (first | refine w1 (fun K hK => ?_) | refine w2 ?_ | refine w3 ?_ | ((first | refine w4 ?_ | refine wD ?_ | refine w5 ?_ | refine w6 ?_ | refine w7 ?_); try refine sq F ?_) | (refine w8 ?_; refine sq F ?_; refine w9 ?_) | ((first | refine hK _ _ (w0 ?_) | (clear hK K; refine hK _ _ (w0 ?_)) | (clear hK K; clear hK K; refine hK _ _ (w0 ?_))); clear hK K))))
     ·refine cq F (fun g6 => ?_) (fun g6 => ?_) <;> (try exact g6.elim) <;> ((repeat (first | refine w1 (fun K hK => ?_) | refine w2 ?_ | refine w3 ?_ | ((first | refine w4 ?_ | refine wD ?_ | refine w5 ?_ | refine w6 ?_ | refine w7 ?_); try refine sq F ?_) | (refine w8 ?_; refine sq F ?_; refine w9 ?_) | ((first | refine hK _ _ (w0 ?_) | (clear hK K; refine hK _ _ (w0 ?_)) | (clear hK K; clear hK K; refine hK _ _ (w0 ?_))); clear hK K))))
      ·refine tail _ 4 (b.toNat - 240) 65536 ?_ ?_ ?_ ?_ ?_
       ·unfold Cls; omega
       ·exact zq F
       ·exact zq F
       ·exact zq F
       ·exact zq F
      ·refine ee hQ F ?_
       exact bad (first_none s (by omega))
     ·exfalso; omega
   ·exfalso; omega
 ·(first | refine gq F (fun g3 => ?_) (fun g3 => ?_) | refine pq F (fun g3 => ?_) (fun g3 => ?_)) <;> (try exact g3.elim) <;> (try refine sq F ?_) <;> ((repeat (first | refine w1 (fun K hK => ?_) | refine w2 ?_ | refine w3 ?_ | ((first | refine w4 ?_ | refine wD ?_ | refine w5 ?_ | refine w6 ?_ | refine w7 ?_); try refine sq F ?_) | (refine w8 ?_; refine sq F ?_; refine w9 ?_) | ((first | refine hK _ _ (w0 ?_) | (clear hK K; refine hK _ _ (w0 ?_)) | (clear hK K; clear hK K; refine hK _ _ (w0 ?_))); clear hK K))))
  ·exfalso; omega
  ·(first | refine gq F (fun g5 => ?_) (fun g5 => ?_) | refine pq F (fun g5 => ?_) (fun g5 => ?_)) <;> (try exact g5.elim) <;> (try refine sq F ?_) <;> ((repeat (first | refine w1 (fun K hK => ?_) | refine w2 ?_ | refine w3 ?_ | ((first | refine w4 ?_ | refine wD ?_ | refine w5 ?_ | refine w6 ?_ | refine w7 ?_); try refine sq F ?_) | (refine w8 ?_; refine sq F ?_; refine w9 ?_) | ((first | refine hK _ _ (w0 ?_) | (clear hK K; refine hK _ _ (w0 ?_)) | (clear hK K; clear hK K; refine hK _ _ (w0 ?_))); clear hK K))))
   ·exfalso; omega
   ·refine ee hQ F ?_
    exact bad (first_none s (by omega))
end Go.Av
namespace Go.Av
open Go Go.Proofs Go.RowKit
attribute [local irreducible] WP WPl WPix Sat
set_option maxRecDepth 100000
set_option maxHeartbeats 1000000
variable (G : Nat → Option (List AVal))
theorem runA_sto : ∀ (l : List Int), ∀ r ∈ l.map runA, ∀ c ∈ r.cells, c.sto = true := fun l r hr c hc => by
 obtain ⟨a, _, rfl⟩ := List.mem_map.1 hr
 simp [runA, AVal.cells] at hc; subst hc; rfl
theorem runA_clo : ∀ (n : Nat) (l : List Int), ∀ r ∈ l.map runA, Clo n r := fun n l r hr => by
 obtain ⟨a, _, rfl⟩ := List.mem_map.1 hr; exact .int _ _
theorem Frz.runes {h : Heap} {n q v e : Nat} {l : List Int} {len : Nat} {room : Bool} (hq : n ≤ q) (hg : getRow h q v = some (e, 1, l.map runA)) (hlen : len = l.length) : Frz h n (.hs q v 0 len room) (.sl 1 (l.map runA)) :=
 Frz.data hq hg (by simpa using hlen) (fun r hr => runA_clo _ l r hr) (fun r hr => runA_sto l r hr)
theorem Runes_sat (s : Bs) (hs : s.length ≤ 1048576) (h : Heap) : Sat (CT G) 144 [.str s] h (fun r h' => r = .sl 1 ((runesF s).map runA) ∧ h' = h) := by
 refine sb [.tmp 2] (fn := Tryz.f144) Tryz.func144 ?_
 intro Q hQ
 refine wk trivial ?_
 refine lm (fun nL tL hL => ∃ (k v : Nat) (acc : List Int), s.length - k = nL ∧ h ++ [.row 21 1 v (acc.map runA)] = hL ∧ tL 0 = .str (s.drop k) ∧ tL 3 = .hs h.length v 0 acc.length true ∧ k ≤ s.length ∧ acc.length ≤ k ∧ acc ++ runesF (s.drop k) = runesF s) ((fun (k v : Nat) (acc : List Int) => (s.length - k : Nat)) (0) (0) ([])) ?_ ?_
 ·refine ⟨_, _, Weak.virt 3 21 1 (by simp) (by omega) (by exact zq trivial), ⟨0, 0, [], rfl, hpE, ?_, ?_, ?_, ?_, ?_⟩⟩
  all_goals first | exact zq trivial | rfl | omega | trivial | skip
 rintro _ s2 h' ⟨k, v, acc, rfl, rfl, e0, e3, hk, hl, hp⟩ K2 hK2
 simp only [mix_cons, mix_nil, Nat.reduceEqDiff, ↓reduceIte] at e0 e3
 have F := F2 e0 e3
 refine wk F ?_
 refine cq F (fun c1 => ?_) (fun c1 => ?_) <;> (try exact c1.elim) <;> (refine wk F ?_)
 ·simp only [List.length_drop] at c1
  have hlt : k < s.length := by omega
  have hp2 := dec_pos s k hlt
  rw [runesF_at s k hlt] at hp
  have hne : s.drop k ≠ [] := by intro e; have := congrArg List.length e; simp at this; omega
  refine (First_sat G (s.drop k) hne (by simp; omega) _).mono ?_
  rintro r h' ⟨rfl, rfl⟩
  rw [← dec_drop]
  generalize dec s k = d at *
  obtain ⟨c, m⟩ := d
  simp only [] at hp hp2 ⊢
  have hsl : m ≤ (s.drop k).length := by simp; omega
  have hdd : (s.drop k).drop m = s.drop (k + m) := List.drop_drop ..
  have F := F3 F hsl hdd
  try refine sq F ?_
  refine wk F ?_
  refine aq F ?_
  try refine sq F ?_
  refine wk F ?_
  refine hK2 _ _ _ (Wkn.refl ⟨k + m, v + 1, acc ++ [(c : Int)], rfl, hpE, ?_, ?_, by omega, by simp; omega, by rw [← hp]; simp⟩) (by omega)
  all_goals first | exact zq F | rfl | omega | trivial | skip
 ·simp only [List.length_drop] at c1
  rw [runesF_end s k (by omega), List.append_nil] at hp
  refine wk F ?_
  refine ee hQ F ?_
  rw [← hp]
  exact Fin.frz (Frz.runes (Nat.le_refl _) (by simp [getRow]; rfl) rfl) ⟨rfl, rfl⟩
theorem rBlank_sat (c : Int) (h : Heap) : Sat (CT G) 145 [.int .i32 c] h (fun r h' => r = .bool (blankR c) ∧ h' = h) := by
 have yes : (c = 9 ∨ c = 10 ∨ c = 13 ∨ c = 32 ∨ c = 160 ∨ c = 8232 ∨ c = 8233 ∨ c = 12288) → blankR c = true := fun h => decide_eq_true h
 have no : ¬ (c = 9 ∨ c = 10 ∨ c = 13 ∨ c = 32 ∨ c = 160 ∨ c = 8232 ∨ c = 8233 ∨ c = 12288) → blankR c = false := fun h => decide_eq_false h
 refine sb [.tmp 2] (fn := Tryz.f145) Tryz.func145 ?_
 intro Q hQ
 refine wk trivial ?_
 (first | refine gq trivial (fun g0 => ?_) (fun g0 => ?_) | refine pq trivial (fun g0 => ?_) (fun g0 => ?_)) <;> (try exact g0.elim) <;> (try refine sq trivial ?_) <;> (refine wk trivial ?_)
 ·refine ee hQ trivial ?_
  refine fR (.bool _) ?_
  rw [yes (by omega)]
 ·(first | refine gq trivial (fun g1 => ?_) (fun g1 => ?_) | refine pq trivial (fun g1 => ?_) (fun g1 => ?_)) <;> (try exact g1.elim) <;> (try refine sq trivial ?_) <;> (refine wk trivial ?_)
  ·refine ee hQ trivial ?_
   refine fR (.bool _) ?_
   rw [yes (by omega)]
  ·(first | refine gq trivial (fun g2 => ?_) (fun g2 => ?_) | refine pq trivial (fun g2 => ?_) (fun g2 => ?_)) <;> (try exact g2.elim) <;> (try refine sq trivial ?_) <;> (refine wk trivial ?_)
   ·refine ee hQ trivial ?_
    refine fR (.bool _) ?_
    rw [yes (by omega)]
   ·(first | refine gq trivial (fun g3 => ?_) (fun g3 => ?_) | refine pq trivial (fun g3 => ?_) (fun g3 => ?_)) <;> (try exact g3.elim) <;> (try refine sq trivial ?_) <;> (refine wk trivial ?_)
    ·refine ee hQ trivial ?_
     refine fR (.bool _) ?_
     rw [yes (by omega)]
    ·(first | refine gq trivial (fun g4 => ?_) (fun g4 => ?_) | refine pq trivial (fun g4 => ?_) (fun g4 => ?_)) <;> (try exact g4.elim) <;> (try refine sq trivial ?_) <;> (refine wk trivial ?_)
     ·refine ee hQ trivial ?_
      refine fR (.bool _) ?_
      rw [yes (by omega)]
     ·(first | refine gq trivial (fun g5 => ?_) (fun g5 => ?_) | refine pq trivial (fun g5 => ?_) (fun g5 => ?_)) <;> (try exact g5.elim) <;> (try refine sq trivial ?_) <;> (refine wk trivial ?_)
      ·refine ee hQ trivial ?_
       refine fR (.bool _) ?_
       rw [yes (by omega)]
      ·(first | refine gq trivial (fun g6 => ?_) (fun g6 => ?_) | refine pq trivial (fun g6 => ?_) (fun g6 => ?_)) <;> (try exact g6.elim) <;> (try refine sq trivial ?_) <;> (refine wk trivial ?_)
       ·refine ee hQ trivial ?_
        refine fR (.bool _) ?_
        rw [yes (by omega)]
       ·refine ee hQ trivial ?_
        refine fR (.bool _) ?_
        congr 1
        rw [Bool.eq_iff_iff]
        by_cases h8 : c = 12288
        ·rw [yes (by omega)]; simp [h8]
        ·rw [no (by omega)]; simp [h8]
theorem rRight_sat (s : Bs) (hs : s.length ≤ 1048576) (h : Heap) : Sat (CT G) 123 [.str s] h (fun r h' => r = .bool (rightS s) ∧ h' = h) := by
 refine sb [.tmp 2] (fn := Tryz.f123) Tryz.func123 ?_
 intro Q hQ
 refine wk trivial ?_
 refine lm (fun nL tL hL => ∃ (k : Nat), s.length - k = nL ∧ h = hL ∧ tL 0 = .str (s.drop k) ∧ k ≤ s.length ∧ rightS (s.drop k) = rightS s) ((fun (k : Nat) => (s.length - k : Nat)) (0)) ?_ ?_
 ·refine Wkn.refl ⟨0, rfl, hpE, ?_, by omega, rfl⟩
  all_goals first | exact zq trivial | rfl | omega | trivial | skip
 rintro _ s2 h' ⟨k, rfl, rfl, e0, hk, hc⟩ K2 hK2
 simp only [mix_cons, mix_nil, Nat.reduceEqDiff, ↓reduceIte] at e0
 have F := e0
 refine wk F ?_
 refine cq F (fun c1 => ?_) (fun c1 => ?_) <;> (try exact c1.elim) <;> (refine wk F ?_)
 ·simp only [List.length_drop] at c1
  have hlt : k < s.length := by omega
  have hp2 := dec_pos s k hlt
  have hca := rightS_at s k hlt
  have hne : s.drop k ≠ [] := by intro e; have := congrArg List.length e; simp at this; omega
  rw [hc] at hca
  refine (First_sat G (s.drop k) hne (by simp; omega) _).mono ?_
  rintro r h' ⟨rfl, rfl⟩
  rw [← dec_drop]
  generalize dec s k = d at *
  obtain ⟨c, m⟩ := d
  simp only [] at hp2 hca ⊢
  have hsl : m ≤ (s.drop k).length := by simp; omega
  have hdd : (s.drop k).drop m = s.drop (k + m) := List.drop_drop ..
  have F := F3 F hsl hdd
  try refine sq F ?_
  refine wk F ?_
  (first | refine gq F (fun g1 => ?_) (fun g1 => ?_) | refine pq F (fun g1 => ?_) (fun g1 => ?_)) <;> (try exact g1.elim) <;> (try refine sq F ?_) <;> (refine wk F ?_)
  ·refine cq F (fun g2 => ?_) (fun g2 => ?_) <;> (try exact g2.elim) <;> (refine wk F ?_)
   ·refine ee hQ F ?_
    refine fR (.bool _) ?_
    rw [hca, if_pos (by omega)]
   ·refine hK2 _ _ _ (Wkn.refl ⟨k + m, rfl, hpE, ?_, by omega, by rw [hca, if_neg (by omega)]⟩) (by omega)
    all_goals first | exact zq F | rfl | omega | trivial | skip
  ·refine hK2 _ _ _ (Wkn.refl ⟨k + m, rfl, hpE, ?_, by omega, by rw [hca, if_neg (by omega)]⟩) (by omega)
   all_goals first | exact zq F | rfl | omega | trivial | skip
 ·simp only [List.length_drop] at c1
  rw [List.drop_of_length_le (by omega)] at hc
  refine wk F ?_
  refine ee hQ F ?_
  refine fR (.bool _) ?_
  rw [← hc]; rfl
end Go.Av
namespace Go.Av
open Go Go.Proofs Go.RowKit
attribute [local irreducible] WP WPl WPix Sat
set_option maxRecDepth 100000
set_option maxHeartbeats 1000000
variable (G : Nat → Option (List AVal))
theorem rClean_sat (s : Bs) (hs : s.length ≤ 100000) (h : Heap) : Sat (CT G) 119 [.str s] h (fun r h' => r = .str (cleanF s) ∧ h' = h) := by
 have hll := runesF_len s.length s (Nat.le_refl _)
 have hrl := runesF_rune s.length s (Nat.le_refl _)
 have hcl := clnR_rune (runesF s) [] false hrl (by simp)
 have hdef : clnR (runesF s) [] false = cleanR s := rfl
 have hcf : encs (cleanR s) = cleanF s := rfl
 refine sb [.tmp 2] (fn := Tryz.f119) Tryz.func119 ?_
 intro Q hQ
 (repeat (first | refine w1 (fun K hK => ?_) | refine w2 ?_ | refine w3 ?_ | ((first | refine w4 ?_ | refine wD ?_ | refine w5 ?_ | refine w6 ?_ | refine w7 ?_); try refine sq trivial ?_) | (refine w8 ?_; refine sq trivial ?_; refine w9 ?_) | (refine rq trivial ?_; try refine sq trivial ?_) | (refine vq trivial ?_; try refine sq trivial ?_) | ((first | refine hK _ _ (w0 ?_) | (clear hK K; refine hK _ _ (w0 ?_)) | (clear hK K; clear hK K; refine hK _ _ (w0 ?_))); clear hK K)))
 refine (Runes_sat G s (by omega) _).mono ?_
 rintro r h' ⟨rfl, hk_⟩
 replace hk_ := hk_.symm
 subst hk_
 try refine sq trivial ?_
 (repeat (first | refine w1 (fun K hK => ?_) | refine w2 ?_ | refine w3 ?_ | ((first | refine w4 ?_ | refine wD ?_ | refine w5 ?_ | refine w6 ?_ | refine w7 ?_); try refine sq trivial ?_) | (refine w8 ?_; refine sq trivial ?_; refine w9 ?_) | (refine rq trivial ?_; try refine sq trivial ?_) | (refine vq trivial ?_; try refine sq trivial ?_) | ((first | refine hK _ _ (w0 ?_) | (clear hK K; refine hK _ _ (w0 ?_)) | (clear hK K; clear hK K; refine hK _ _ (w0 ?_))); clear hK K)))
 generalize runesF s = l at *
 have hlm : (l.map runA).length = l.length := List.length_map ..
 have F := hlm
 refine lm (fun nL tL hL => ∃ (k v : Nat) (acc : List Int) (w : Bool), l.length - k = nL ∧ h ++ [.row 21 1 v (acc.map runA)] = hL ∧ tL 4 = .hs h.length v 0 acc.length true ∧ tL 5 = .bool w ∧ tL 6 = .int .i64 k ∧ k ≤ l.length ∧ clnR (l.drop k) acc w = cleanR s ∧ acc.length ≤ 2 * k) ((fun (k v : Nat) (acc : List Int) (w : Bool) => (l.length - k : Nat)) (0) (0) ([]) (false)) ?_ ?_
 ·refine ⟨_, _, Weak.virt 4 21 1 (by simp) (by omega) (by exact zq F), ⟨0, 0, [], false, rfl, hpE, ?_, ?_, ?_, by omega, hdef, by simp⟩⟩
  all_goals first | exact zq F | rfl | omega | trivial | skip
 rintro _ s2 h' ⟨k, v, acc, w, rfl, rfl, e4, e5, e6, hk, hv, hl⟩ K2 hK2
 simp only [mix_cons, mix_nil, Nat.reduceEqDiff, ↓reduceIte] at e4 e5 e6
 have F := F4 F e4 e5 e6
 (repeat (first | refine w1 (fun K hK => ?_) | refine w2 ?_ | refine w3 ?_ | ((first | refine w4 ?_ | refine wD ?_ | refine w5 ?_ | refine w6 ?_ | refine w7 ?_); try refine sq F ?_) | (refine w8 ?_; refine sq F ?_; refine w9 ?_) | (refine rq F ?_; try refine sq F ?_) | (refine vq F ?_; try refine sq F ?_) | ((first | refine hK _ _ (w0 ?_) | (clear hK K; refine hK _ _ (w0 ?_)) | (clear hK K; clear hK K; refine hK _ _ (w0 ?_))); clear hK K)))
 refine cq F (fun c1 => ?_) (fun c1 => ?_) <;> (try exact c1.elim)
 ·obtain ⟨y, hy, hym⟩ := getElem?_of_lt c1
  have hyl : (l.map runA)[k]? = some (.int .i32 y) := by rw [List.getElem?_map, hy]; rfl
  rw [drop_cons_of hy, clnR] at hv
  have F := F2 F hyl
  (repeat (first | refine w1 (fun K hK => ?_) | refine w2 ?_ | refine w3 ?_ | ((first | refine w4 ?_ | refine wD ?_ | refine w5 ?_ | refine w6 ?_ | refine w7 ?_); try refine sq F ?_) | (refine w8 ?_; refine sq F ?_; refine w9 ?_) | (refine rq F ?_; try refine sq F ?_) | (refine vq F ?_; try refine sq F ?_) | ((first | refine hK _ _ (w0 ?_) | (clear hK K; refine hK _ _ (w0 ?_)) | (clear hK K; clear hK K; refine hK _ _ (w0 ?_))); clear hK K)))
  refine (rBlank_sat G y _).mono ?_
  rintro r h' ⟨rfl, rfl⟩
  try refine sq F ?_
  (repeat (first | refine w1 (fun K hK => ?_) | refine w2 ?_ | refine w3 ?_ | ((first | refine w4 ?_ | refine wD ?_ | refine w5 ?_ | refine w6 ?_ | refine w7 ?_); try refine sq F ?_) | (refine w8 ?_; refine sq F ?_; refine w9 ?_) | (refine rq F ?_; try refine sq F ?_) | (refine vq F ?_; try refine sq F ?_) | ((first | refine hK _ _ (w0 ?_) | (clear hK K; refine hK _ _ (w0 ?_)) | (clear hK K; clear hK K; refine hK _ _ (w0 ?_))); clear hK K)))
  have ho : decide ((acc.length : Int) > 0) = decide (0 < acc.length) := by
   rw [Bool.eq_iff_iff]; simp only [decide_eq_true_eq]; omega
  refine cq F (fun c2 => ?_) (fun c2 => ?_) <;> (try exact c2.elim) <;> ((repeat (first | refine w1 (fun K hK => ?_) | refine w2 ?_ | refine w3 ?_ | ((first | refine w4 ?_ | refine wD ?_ | refine w5 ?_ | refine w6 ?_ | refine w7 ?_); try refine sq F ?_) | (refine w8 ?_; refine sq F ?_; refine w9 ?_) | (refine rq F ?_; try refine sq F ?_) | (refine vq F ?_; try refine sq F ?_) | ((first | refine hK _ _ (w0 ?_) | (clear hK K; refine hK _ _ (w0 ?_)) | (clear hK K; clear hK K; refine hK _ _ (w0 ?_))); clear hK K))))
  ·rw [if_pos c2] at hv
   have F := F2 F ho
   try refine sq F ?_
   refine hK2 _ _ _ (Wkn.refl ⟨k + 1, v, acc, decide (0 < acc.length), rfl, hpE, ?_, ?_, ?_, by omega, hv, by omega⟩) (by omega)
   all_goals first | exact zq F | rfl | omega | trivial | skip
  ·rw [if_neg (by simp [c2])] at hv
   have yes : (y < 32 ∨ (127 ≤ y ∧ y ≤ 159)) → ctlR y = true := fun h => decide_eq_true h
   have no : ¬ (y < 32 ∨ (127 ≤ y ∧ y ≤ 159)) → ctlR y = false := fun h => decide_eq_false h
   (first | refine gq F (fun g1 => ?_) (fun g1 => ?_) | refine pq F (fun g1 => ?_) (fun g1 => ?_)) <;> (try exact g1.elim) <;> (try refine sq F ?_) <;> ((repeat (first | refine w1 (fun K hK => ?_) | refine w2 ?_ | refine w3 ?_ | ((first | refine w4 ?_ | refine wD ?_ | refine w5 ?_ | refine w6 ?_ | refine w7 ?_); try refine sq F ?_) | (refine w8 ?_; refine sq F ?_; refine w9 ?_) | (refine rq F ?_; try refine sq F ?_) | (refine vq F ?_; try refine sq F ?_) | ((first | refine hK _ _ (w0 ?_) | (clear hK K; refine hK _ _ (w0 ?_)) | (clear hK K; clear hK K; refine hK _ _ (w0 ?_))); clear hK K))))
   ·rw [if_pos (yes (by omega))] at hv
    refine hK2 _ _ _ (Wkn.refl ⟨k + 1, v, acc, w, rfl, hpE, ?_, ?_, ?_, by omega, hv, by omega⟩) (by omega)
    all_goals first | exact zq F | rfl | omega | trivial | skip
   ·(first | refine gq F (fun g2 => ?_) (fun g2 => ?_) | refine pq F (fun g2 => ?_) (fun g2 => ?_)) <;> (try exact g2.elim) <;> (try refine sq F ?_) <;> ((repeat (first | refine w1 (fun K hK => ?_) | refine w2 ?_ | refine w3 ?_ | ((first | refine w4 ?_ | refine wD ?_ | refine w5 ?_ | refine w6 ?_ | refine w7 ?_); try refine sq F ?_) | (refine w8 ?_; refine sq F ?_; refine w9 ?_) | (refine rq F ?_; try refine sq F ?_) | (refine vq F ?_; try refine sq F ?_) | ((first | refine hK _ _ (w0 ?_) | (clear hK K; refine hK _ _ (w0 ?_)) | (clear hK K; clear hK K; refine hK _ _ (w0 ?_))); clear hK K))))
    ·refine cq F (fun g3 => ?_) (fun g3 => ?_) <;> (try exact g3.elim) <;> ((repeat (first | refine w1 (fun K hK => ?_) | refine w2 ?_ | refine w3 ?_ | ((first | refine w4 ?_ | refine wD ?_ | refine w5 ?_ | refine w6 ?_ | refine w7 ?_); try refine sq F ?_) | (refine w8 ?_; refine sq F ?_; refine w9 ?_) | (refine rq F ?_; try refine sq F ?_) | (refine vq F ?_; try refine sq F ?_) | ((first | refine hK _ _ (w0 ?_) | (clear hK K; refine hK _ _ (w0 ?_)) | (clear hK K; clear hK K; refine hK _ _ (w0 ?_))); clear hK K))))
     ·rw [if_pos (yes (by omega))] at hv
      refine hK2 _ _ _ (Wkn.refl ⟨k + 1, v, acc, w, rfl, hpE, ?_, ?_, ?_, by omega, hv, by omega⟩) (by omega)
      all_goals first | exact zq F | rfl | omega | trivial | skip
     ·rw [if_neg (by rw [no (by omega)]; simp)] at hv
      refine cq F (fun c3 => ?_) (fun c3 => ?_) <;> (try exact c3.elim) <;> ((repeat (first | refine w1 (fun K hK => ?_) | refine w2 ?_ | refine w3 ?_ | ((first | refine w4 ?_ | refine wD ?_ | refine w5 ?_ | refine w6 ?_ | refine w7 ?_); try refine sq F ?_) | (refine w8 ?_; refine sq F ?_; refine w9 ?_) | (refine rq F ?_; try refine sq F ?_) | (refine vq F ?_; try refine sq F ?_) | ((first | refine hK _ _ (w0 ?_) | (clear hK K; refine hK _ _ (w0 ?_)) | (clear hK K; clear hK K; refine hK _ _ (w0 ?_))); clear hK K))))
      ·rw [if_pos c3] at hv
       refine aq F ?_
       try refine sq F ?_
       (repeat (first | refine w1 (fun K hK => ?_) | refine w2 ?_ | refine w3 ?_ | ((first | refine w4 ?_ | refine wD ?_ | refine w5 ?_ | refine w6 ?_ | refine w7 ?_); try refine sq F ?_) | (refine w8 ?_; refine sq F ?_; refine w9 ?_) | (refine rq F ?_; try refine sq F ?_) | (refine vq F ?_; try refine sq F ?_) | ((first | refine hK _ _ (w0 ?_) | (clear hK K; refine hK _ _ (w0 ?_)) | (clear hK K; clear hK K; refine hK _ _ (w0 ?_))); clear hK K)))
       refine aq F ?_
       try refine sq F ?_
       (repeat (first | refine w1 (fun K hK => ?_) | refine w2 ?_ | refine w3 ?_ | ((first | refine w4 ?_ | refine wD ?_ | refine w5 ?_ | refine w6 ?_ | refine w7 ?_); try refine sq F ?_) | (refine w8 ?_; refine sq F ?_; refine w9 ?_) | (refine rq F ?_; try refine sq F ?_) | (refine vq F ?_; try refine sq F ?_) | ((first | refine hK _ _ (w0 ?_) | (clear hK K; refine hK _ _ (w0 ?_)) | (clear hK K; clear hK K; refine hK _ _ (w0 ?_))); clear hK K)))
       refine hK2 _ _ _ (Wkn.refl ⟨k + 1, v + 1 + 1, acc ++ [32, y], false, rfl, by simp [runA], ?_, ?_, ?_, by omega, hv, by simp; omega⟩) (by omega)
       all_goals first | exact zq F | rfl | omega | trivial | skip
      ·rw [if_neg (by simp [c3])] at hv
       refine aq F ?_
       try refine sq F ?_
       (repeat (first | refine w1 (fun K hK => ?_) | refine w2 ?_ | refine w3 ?_ | ((first | refine w4 ?_ | refine wD ?_ | refine w5 ?_ | refine w6 ?_ | refine w7 ?_); try refine sq F ?_) | (refine w8 ?_; refine sq F ?_; refine w9 ?_) | (refine rq F ?_; try refine sq F ?_) | (refine vq F ?_; try refine sq F ?_) | ((first | refine hK _ _ (w0 ?_) | (clear hK K; refine hK _ _ (w0 ?_)) | (clear hK K; clear hK K; refine hK _ _ (w0 ?_))); clear hK K)))
       refine hK2 _ _ _ (Wkn.refl ⟨k + 1, v + 1, acc ++ [y], w, rfl, by simp [runA], ?_, ?_, ?_, by omega, by rw [c3]; exact hv, by simp; omega⟩) (by omega)
       all_goals first | exact zq F | rfl | omega | trivial | skip
    ·rw [if_neg (by rw [no (by omega)]; simp)] at hv
     refine cq F (fun c3 => ?_) (fun c3 => ?_) <;> (try exact c3.elim) <;> ((repeat (first | refine w1 (fun K hK => ?_) | refine w2 ?_ | refine w3 ?_ | ((first | refine w4 ?_ | refine wD ?_ | refine w5 ?_ | refine w6 ?_ | refine w7 ?_); try refine sq F ?_) | (refine w8 ?_; refine sq F ?_; refine w9 ?_) | (refine rq F ?_; try refine sq F ?_) | (refine vq F ?_; try refine sq F ?_) | ((first | refine hK _ _ (w0 ?_) | (clear hK K; refine hK _ _ (w0 ?_)) | (clear hK K; clear hK K; refine hK _ _ (w0 ?_))); clear hK K))))
     ·rw [if_pos c3] at hv
      refine aq F ?_
      try refine sq F ?_
      (repeat (first | refine w1 (fun K hK => ?_) | refine w2 ?_ | refine w3 ?_ | ((first | refine w4 ?_ | refine wD ?_ | refine w5 ?_ | refine w6 ?_ | refine w7 ?_); try refine sq F ?_) | (refine w8 ?_; refine sq F ?_; refine w9 ?_) | (refine rq F ?_; try refine sq F ?_) | (refine vq F ?_; try refine sq F ?_) | ((first | refine hK _ _ (w0 ?_) | (clear hK K; refine hK _ _ (w0 ?_)) | (clear hK K; clear hK K; refine hK _ _ (w0 ?_))); clear hK K)))
      refine aq F ?_
      try refine sq F ?_
      (repeat (first | refine w1 (fun K hK => ?_) | refine w2 ?_ | refine w3 ?_ | ((first | refine w4 ?_ | refine wD ?_ | refine w5 ?_ | refine w6 ?_ | refine w7 ?_); try refine sq F ?_) | (refine w8 ?_; refine sq F ?_; refine w9 ?_) | (refine rq F ?_; try refine sq F ?_) | (refine vq F ?_; try refine sq F ?_) | ((first | refine hK _ _ (w0 ?_) | (clear hK K; refine hK _ _ (w0 ?_)) | (clear hK K; clear hK K; refine hK _ _ (w0 ?_))); clear hK K)))
      refine hK2 _ _ _ (Wkn.refl ⟨k + 1, v + 1 + 1, acc ++ [32, y], false, rfl, by simp [runA], ?_, ?_, ?_, by omega, hv, by simp; omega⟩) (by omega)
      all_goals first | exact zq F | rfl | omega | trivial | skip
     ·rw [if_neg (by simp [c3])] at hv
      refine aq F ?_
      try refine sq F ?_
      (repeat (first | refine w1 (fun K hK => ?_) | refine w2 ?_ | refine w3 ?_ | ((first | refine w4 ?_ | refine wD ?_ | refine w5 ?_ | refine w6 ?_ | refine w7 ?_); try refine sq F ?_) | (refine w8 ?_; refine sq F ?_; refine w9 ?_) | (refine rq F ?_; try refine sq F ?_) | (refine vq F ?_; try refine sq F ?_) | ((first | refine hK _ _ (w0 ?_) | (clear hK K; refine hK _ _ (w0 ?_)) | (clear hK K; clear hK K; refine hK _ _ (w0 ?_))); clear hK K)))
      refine hK2 _ _ _ (Wkn.refl ⟨k + 1, v + 1, acc ++ [y], w, rfl, by simp [runA], ?_, ?_, ?_, by omega, by rw [c3]; exact hv, by simp; omega⟩) (by omega)
      all_goals first | exact zq F | rfl | omega | trivial | skip
 ·rw [drop_nil_of c1, clnR] at hv
  (repeat (first | refine w1 (fun K hK => ?_) | refine w2 ?_ | refine w3 ?_ | ((first | refine w4 ?_ | refine wD ?_ | refine w5 ?_ | refine w6 ?_ | refine w7 ?_); try refine sq F ?_) | (refine w8 ?_; refine sq F ?_; refine w9 ?_) | (refine rq F ?_; try refine sq F ?_) | (refine vq F ?_; try refine sq F ?_)))
  have hg : getRow (h ++ [.row 21 1 v (acc.map runA)]) h.length v = some (21, 1, acc.map runA) := by simp [getRow]
  have ht : ∀ (ms : List Nat) (t : Env), 4 ∈ ms → t 4 = .hs h.length v 0 acc.length true → ∀ i, upd t 4 (.sl 1 (acc.map runA)) i = t i ∨ (i ∈ ms ∧ Fz (h ++ [.row 21 1 v (acc.map runA)]) h.length v (t i) (upd t 4 (.sl 1 (acc.map runA)) i)) := fun ms t hm ht i => by
   by_cases hi : i = 4
   ·subst hi
    right
    refine ⟨hm, ?_⟩
    rw [ht]
    simp only [upd, ↓reduceIte]
    exact Fz.all _ _ _ hg rfl (by simp)
   ·left; simp only [upd]; rw [if_neg hi]
  clear hK K
  refine hK _ _ ⟨_, _, Weak.fz h.length v hg (ht _ _ (by decide +kernel) (by exact zq F)), ?_⟩
  clear hK K
  have hset : (h ++ [Blk.row 21 1 v (acc.map runA)]).set h.length Blk.dead = h ++ [Blk.dead] := by simp
  rw [hset]
  (repeat (first | refine w1 (fun K hK => ?_) | refine w2 ?_ | refine w3 ?_ | ((first | refine w4 ?_ | refine wD ?_ | refine w5 ?_ | refine w6 ?_ | refine w7 ?_); try refine sq F ?_) | (refine w8 ?_; refine sq F ?_; refine w9 ?_) | (refine rq F ?_; try refine sq F ?_) | (refine vq F ?_; try refine sq F ?_) | ((first | refine hK _ _ (w0 ?_) | (clear hK K; refine hK _ _ (w0 ?_)) | (clear hK K; clear hK K; refine hK _ _ (w0 ?_))); clear hK K)))
  refine (Put_sat G acc (fun r hr => hcl r (by rw [hdef, ← hv]; exact hr)) (by omega) _).mono ?_
  rintro r h' ⟨rfl, rfl⟩
  try refine sq F ?_
  (repeat (first | refine w1 (fun K hK => ?_) | refine w2 ?_ | refine w3 ?_ | ((first | refine w4 ?_ | refine wD ?_ | refine w5 ?_ | refine w6 ?_ | refine w7 ?_); try refine sq F ?_) | (refine w8 ?_; refine sq F ?_; refine w9 ?_) | (refine rq F ?_; try refine sq F ?_) | (refine vq F ?_; try refine sq F ?_) | ((first | refine hK _ _ (w0 ?_) | (clear hK K; refine hK _ _ (w0 ?_)) | (clear hK K; clear hK K; refine hK _ _ (w0 ?_))); clear hK K)))
  refine ee hQ F ?_
  refine fR (.str _) ?_
  rw [hv]; exact congrArg AVal.str hcf
end Go.Av
namespace Go.Av
open Go Go.Proofs Go.RowKit
attribute [local irreducible] WP WPl WPix Sat
set_option maxRecDepth 100000
set_option maxHeartbeats 1000000
variable (G : Nat → Option (List AVal))
theorem PshortO_sat (s : Bs) (n : Nat) (hs : s.length ≤ 700000) (hn : n ≤ 1000) (h : Heap) : Sat (CT G) 91 [.str s, .int .i64 n] h (fun r h' => r = .str (shortF s n) ∧ h' = h) := by
 have h1 := cleanF_len s
 have h2 := (cutF_len (cleanF s) n).1
 refine sb [.tmp 4] (fn := Tryz.f91) Tryz.func91 ?_
 intro Q hQ
 refine wk trivial ?_
 refine kq trivial (PClean_sat G s (by omega) _) ?_
 refine kq trivial (PCut_sat G (cleanF s) n (by omega) (by omega) _) ?_
 refine kq trivial (PClean_sat G (cutF (cleanF s) n) (by omega) _) ?_
 refine ee hQ trivial ?_
 refine fR (.str _) ?_
 rfl
theorem attrF_len (n : Bs) : ∀ l : List At, (attrF l n).1.length ≤ szs At.sz l
 | [] => by simp [attrF]
 | a :: l => by
  have := attrF_len n l
  have h2 : At.sz a = 1 + a.1.length + a.2.length := rfl
  rw [attrF, szs]
  split
  ·simp only []; omega
  ·omega
theorem PattrO_sat (e : Elem) (n : Bs) (m : Nat) (hs : e.sz ≤ 700000) (hm : m ≤ 1000) (h : Heap) : Sat (CT G) 89 [e.av, .str n, .int .i64 m] h (fun r h' => r = .str (attrS e n m) ∧ h' = h) := by
 have h1 := attrF_len n e.attrs
 have h2 := e.sz_eq
 refine sb [.tmp 6] (fn := Tryz.f89) Tryz.func89 ?_
 intro Q hQ
 refine wk trivial ?_
 refine kq trivial (PAttr_sat G e n (by omega) _) ?_
 refine kq trivial (PshortO_sat G (attrF e.attrs n).1 m (by omega) hm _) ?_
 refine ee hQ trivial ?_
 refine fR (.str _) ?_
 rfl
theorem PtextO_sat (s : Bs) (m : Nat) (hs : s.length ≤ 100000) (h : Heap) : Sat (CT G) 121 [.str s, .int .i64 m] h (fun r h' => r = .bool (textO s m) ∧ h' = h) := by
 refine sb [.tmp 4] (fn := Tryz.f121) Tryz.func121 ?_
 intro Q hQ
 refine wk trivial ?_
 (first | refine gq trivial (fun g1 => ?_) (fun g1 => ?_) | refine pq trivial (fun g1 => ?_) (fun g1 => ?_)) <;> (try exact g1.elim) <;> (try refine sq trivial ?_) <;> (refine wk trivial ?_)
 ·refine kq trivial (PRight_sat G s (by omega) _) ?_
  (first | refine gq trivial (fun g2 => ?_) (fun g2 => ?_) | refine pq trivial (fun g2 => ?_) (fun g2 => ?_)) <;> (try exact g2.elim) <;> (try refine sq trivial ?_) <;> (refine wk trivial ?_)
  ·refine kq trivial (PClean_sat G s (by omega) _) ?_
   refine ee hQ trivial ?_
   refine fR (.bool _) ?_
   unfold textO
   rw [decide_eq_true (show s.length ≤ m by omega), g2, Bool.true_and, Bool.true_and]
   congr 1
   rw [Bool.eq_iff_iff]; simp
  ·refine ee hQ trivial ?_
   refine fR (.bool _) ?_
   unfold textO
   rw [g2]; simp
 ·refine ee hQ trivial ?_
  refine fR (.bool _) ?_
  unfold textO
  rw [decide_eq_false (show ¬ s.length ≤ m by omega)]; simp
theorem rtextO_sat (s : Bs) (m : Nat) (hs : s.length ≤ 100000) (h : Heap) : Sat (CT G) 96 [.str s, .int .i64 m] h (fun r h' => r = .bool (textO s m) ∧ h' = h) := by
 refine sb [.tmp 4] (fn := Tryz.f96) Tryz.func96 ?_
 intro Q hQ
 refine wk trivial ?_
 (first | refine gq trivial (fun g1 => ?_) (fun g1 => ?_) | refine pq trivial (fun g1 => ?_) (fun g1 => ?_)) <;> (try exact g1.elim) <;> (try refine sq trivial ?_) <;> (refine wk trivial ?_)
 ·refine kq trivial (rRight_sat G s (by omega) _) ?_
  (first | refine gq trivial (fun g2 => ?_) (fun g2 => ?_) | refine pq trivial (fun g2 => ?_) (fun g2 => ?_)) <;> (try exact g2.elim) <;> (try refine sq trivial ?_) <;> (refine wk trivial ?_)
  ·refine kq trivial (rClean_sat G s (by omega) _) ?_
   refine ee hQ trivial ?_
   refine fR (.bool _) ?_
   unfold textO
   rw [decide_eq_true (show s.length ≤ m by omega), g2, Bool.true_and, Bool.true_and]
   congr 1
   rw [Bool.eq_iff_iff]; simp
  ·refine ee hQ trivial ?_
   refine fR (.bool _) ?_
   unfold textO
   rw [g2]; simp
 ·refine ee hQ trivial ?_
  refine fR (.bool _) ?_
  unfold textO
  rw [decide_eq_false (show ¬ s.length ≤ m by omega)]; simp
theorem PoneO_sat (o : Outl) (ht : o.title.length ≤ 100000) (hu : o.url.length ≤ 100000) (h : Heap) : Sat (CT G) 94 [o.av] h (fun r h' => r = .bool (oneOk o) ∧ h' = h) := by
 have hkl : o.kids.length = 0 ↔ o.kids = [] := List.length_eq_zero_iff
 refine sb [.tmp 2] (fn := Tryz.f94) Tryz.func94 ?_
 intro Q hQ
 refine wk trivial ?_
 (first | refine gq trivial (fun g1 => ?_) (fun g1 => ?_) | refine pq trivial (fun g1 => ?_) (fun g1 => ?_)) <;> (try exact g1.elim) <;> (try refine sq trivial ?_) <;> (refine wk trivial ?_)
 ·refine kq trivial (PtextO_sat G o.title 256 (by omega) _) ?_
  (first | refine gq trivial (fun g2 => ?_) (fun g2 => ?_) | refine pq trivial (fun g2 => ?_) (fun g2 => ?_)) <;> (try exact g2.elim) <;> (try refine sq trivial ?_) <;> (refine wk trivial ?_)
  ·refine kq trivial (PtextO_sat G o.url 512 (by omega) _) ?_
   (first | refine gq trivial (fun g3 => ?_) (fun g3 => ?_) | refine pq trivial (fun g3 => ?_) (fun g3 => ?_)) <;> (try exact g3.elim) <;> (try refine sq trivial ?_) <;> (refine wk trivial ?_)
   ·(first | refine gq trivial (fun g4 => ?_) (fun g4 => ?_) | refine pq trivial (fun g4 => ?_) (fun g4 => ?_)) <;> (try exact g4.elim) <;> (try refine sq trivial ?_) <;> (refine wk trivial ?_)
    ·refine ee hQ trivial ?_
     refine fR (.bool _) ?_
     unfold oneOk
     rw [g2, g3]; simp [g1, g4]
    ·refine ee hQ trivial ?_
     refine fR (.bool _) ?_
     unfold oneOk
     rw [g2, g3]; simp [g1, g4]
     rw [Bool.eq_iff_iff]; simp
   ·refine ee hQ trivial ?_
    refine fR (.bool _) ?_
    unfold oneOk
    rw [g3]; simp
  ·refine ee hQ trivial ?_
   refine fR (.bool _) ?_
   unfold oneOk
   rw [g2]; simp
 ·refine ee hQ trivial ?_
  refine fR (.bool _) ?_
  unfold oneOk
  simp [g1]
theorem Or_sat (a b c : Bs) (h : Heap) : Sat (CT G) 90 [.sl 1 [.str a, .str b, .str c]] h (fun r h' => r = .str (orF a b c) ∧ h' = h) := by
 refine sb [.tmp 2] (fn := Tryz.f90) Tryz.func90 ?_
 intro Q hQ
 refine wk trivial ?_
 refine lm (fun nL tL hL => ∃ (k : Nat), 3 - k = nL ∧ h = hL ∧ tL 8 = .int .i64 k ∧ k ≤ 3 ∧ (1 ≤ k → a = []) ∧ (2 ≤ k → b = []) ∧ (3 ≤ k → c = [])) ((fun (k : Nat) => (3 - k : Nat)) (0)) ?_ ?_
 ·refine Wkn.refl ⟨0, rfl, hpE, ?_, by omega, fun h => by omega, fun h => by omega, fun h => by omega⟩
  all_goals first | exact zq trivial | rfl | omega | trivial | skip
 rintro _ s2 h' ⟨k, rfl, rfl, e8, hk, h0, h1, h2⟩ K2 hK2
 simp only [mix_cons, mix_nil, Nat.reduceEqDiff, ↓reduceIte] at e8
 have F := e8
 refine wk F ?_
 refine cq F (fun c1 => ?_) (fun c1 => ?_) <;> (try exact c1.elim) <;> (refine wk F ?_)
 ·obtain ⟨y, hy, hyv⟩ : ∃ y : Bs, ([.str a, .str b, .str c] : List AVal)[k]? = some (.str y) ∧ ((k = 0 ∧ y = a) ∨ (k = 1 ∧ y = b) ∨ (k = 2 ∧ y = c)) := by
   match k, c1 with
   | 0, _ => exact ⟨a, rfl, .inl ⟨rfl, rfl⟩⟩
   | 1, _ => exact ⟨b, rfl, .inr (.inl ⟨rfl, rfl⟩)⟩
   | 2, _ => exact ⟨c, rfl, .inr (.inr ⟨rfl, rfl⟩)⟩
   | k + 3, c1 => exfalso; omega
  have F := F2 F hy
  try refine sq F ?_
  refine wk F ?_
  refine cq F (fun c2 => ?_) (fun c2 => ?_) <;> (try exact c2.elim) <;> (refine wk F ?_)
  ·refine ee hQ F ?_
   refine fR (.str _) ?_
   unfold orF
   rcases hyv with ⟨rfl, rfl⟩ | ⟨rfl, rfl⟩ | ⟨rfl, rfl⟩
   ·rw [if_pos c2]
   ·rw [if_neg (by simp [h0 (by omega)]), if_pos c2]
   ·rw [if_neg (by simp [h0 (by omega)]), if_neg (by simp [h1 (by omega)])]
  ·have c3 : y = [] := by simpa using c2
   have n0 : 1 ≤ k + 1 → a = [] := fun hh => by
    rcases hyv with ⟨rfl, rfl⟩ | ⟨rfl, rfl⟩ | ⟨rfl, rfl⟩
    ·exact c3
    ·exact h0 (by omega)
    ·exact h0 (by omega)
   have n1 : 2 ≤ k + 1 → b = [] := fun hh => by
    rcases hyv with ⟨rfl, rfl⟩ | ⟨rfl, rfl⟩ | ⟨rfl, rfl⟩
    ·omega
    ·exact c3
    ·exact h1 (by omega)
   have n2 : 3 ≤ k + 1 → c = [] := fun hh => by
    rcases hyv with ⟨rfl, rfl⟩ | ⟨rfl, rfl⟩ | ⟨rfl, rfl⟩
    ·omega
    ·omega
    ·exact c3
   refine hK2 _ _ _ (Wkn.refl ⟨k + 1, rfl, hpE, ?_, by omega, n0, n1, n2⟩) (by omega)
   all_goals first | exact zq F | rfl | omega | trivial | skip
 ·have h3 := h2 (by omega)
  subst h3
  refine wk F ?_
  refine ee hQ F ?_
  refine fR (.str _) ?_
  unfold orF
  rw [h0 (by omega), h1 (by omega)]; rfl
end Go.Av
namespace Go.Av
open Go Go.Proofs Go.RowKit
attribute [local irreducible] WP WPl WPix Sat
set_option maxRecDepth 100000
set_option maxHeartbeats 1000000
variable (G : Nat → Option (List AVal))
theorem FrN.split {h H : Heap} (g : FrN h.length h H) (hl : h.length ≤ H.length) : ∃ j, H = h ++ j := by
 refine ⟨H.drop h.length, List.ext_getElem? fun i => ?_⟩
 by_cases hi : i < h.length
 ·rw [List.getElem?_append_left hi]; exact g i hi
 ·rw [List.getElem?_append_right (by omega), List.getElem?_drop]; congr 1; omega
def PBldR (h : Heap) (l : List Tok) (r : AVal) (h' : Heap) : Prop :=
 ∃ e : Elem, r = .tup [e.av, .int .i64 (if (bldF l).isSome then 0 else 90)] ∧ (∀ x, bldF l = some x → e = x) ∧ (bldF l = none → e = ⟨[], [], [], []⟩) ∧ h' = h
theorem PBldR.bad {h H : Heap} {l : List Tok} (g : FrN h.length h H) (hl : h.length ≤ H.length) (e : bldF l = none) : Fin h H (PBldR h l) (.tup [.agg [.str [], .nil (.slice none 0 0), .str [], .nil (.slice none 0 0)], .int .i64 90]) := by
 obtain ⟨j, rfl⟩ := g.split hl
 have z : Frz (h ++ j) h.length (.agg [.str [], .nil (.slice none 0 0), .str [], .nil (.slice none 0 0)]) (Elem.av ⟨[], [], [], []⟩) := by
  rw [Elem.av_eq]
  exact FrzL.agg (.cons (.clo _ (.str _)) (.cons (.nils 2) (.cons (.clo _ (.str _)) (.cons (.nils 4) .nil)))) rfl
 exact Fin.frz (FrzL.tup (.cons z (.cons (.clo _ (.int _ _)) .nil))) ⟨_, by rw [e]; rfl, (fun x hx => by rw [e] at hx; cases hx), fun _ => rfl, rfl⟩
theorem szs_kids (l : List OE) : ∀ o ∈ l, o.k.length ≤ szs Elem.sz (l.map OE.el) ∧ o.t.length ≤ szs Elem.sz (l.map OE.el) := by
 intro o ho
 have h1 := szs_mem Elem.sz (List.mem_map_of_mem (f := OE.el) ho)
 have h2 := elem_sz_mk o.n o.a o.t o.k
 have h3 := szs_len Elem.sz Elem.sz_pos o.k
 have h4 : (OE.el o).sz = (Elem.mk o.n o.a o.t o.k).sz := rfl
 omega
theorem foldB_snoc {l : List Tok} {k : Nat} {t : Tok} {q : List Elem × List Elem} (hy : l[k]? = some t) (hq : foldB [] [] (l.take k) = some q) : foldB [] [] (l.take (k + 1)) = stepB q.1 q.2 t := by
 have e : l.take (k + 1) = l.take k ++ [t] := by rw [List.take_add_one, hy]; rfl
 rw [e, foldB_app, hq, Option.bind_some]
 show (stepB q.1 q.2 t).bind _ = _
 cases stepB q.1 q.2 t <;> rfl
theorem foldB_stop {l : List Tok} {k : Nat} (h : foldB [] [] (l.take k) = none) : bldF l = none := by
 rw [← foldB_eq]
 have : l = l.take k ++ l.drop k := (List.take_append_drop k l).symm
 rw [this, foldB_app, h]; rfl
theorem PBuild_sat (hG : GOk G) (hC : GClo (CT G)) (l : List Tok) (hs : szs Tok.sz l ≤ 1048576) (h : Heap) : Sat (CT G) 45 [.sl 4 (l.map Tok.av)] h (PBldR h l) := by
 have hll := szs_len Tok.sz Tok.sz_pos l
 refine sb [.cell 2 26, .tmp 3] (fn := Tryz.f45) Tryz.func45 ?_
 intro Q hQ
 refine wk trivial ?_
 have g0 : getRow (h ++ [.row 26 4 0 [.agg [.str [], .nil (.slice none 0 0), .str [], .nil (.slice none 0 0)]], .row 106 2 0 [.agg [.nil (.slice none 0 0), .nil (.slice none 0 0)]]]) (h.length + 1) 0 = some (106, 2, [.agg [.nil (.slice none 0 0), .nil (.slice none 0 0)]]) := by
  rw [gs_new _ rfl]; rfl
 obtain ⟨H1, hw, hfr, po, pd, hb⟩ := BH.start (C := CT G) (n0 := h.length + 1) g0 (Nat.le_refl _)
 have keep : ∀ hh : Heap, FrN (h.length + 1) (h ++ [.row 26 4 0 [.agg [.str [], .nil (.slice none 0 0), .str [], .nil (.slice none 0 0)]]]) hh → getRow hh h.length 0 = some (26, 4, [.agg [.str [], .nil (.slice none 0 0), .str [], .nil (.slice none 0 0)]]) := fun hh g => by
  unfold getRow
  rw [g h.length (by omega)]
  simp
 have hf0 : FrN (h.length + 1) (h ++ [.row 26 4 0 [.agg [.str [], .nil (.slice none 0 0), .str [], .nil (.slice none 0 0)]]]) H1 ∧ h.length + 1 < H1.length := by
  refine ⟨fun p hp => ?_, by have := hfr.2; simp at this; omega⟩
  rw [hfr.1 p hp]
  rw [show ∀ A B : Blk, h ++ [A, B] = (h ++ [A]) ++ [B] from fun A B => by simp, List.getElem?_append_left (by simp; omega)]
 have base : ∀ H : Heap, FrN (h.length + 1) (h ++ [.row 26 4 0 [.agg [.str [], .nil (.slice none 0 0), .str [], .nil (.slice none 0 0)]]]) H → FrN h.length h H := fun H g p hp => by
  rw [g p (by omega), List.getElem?_append_left hp]
 refine lm (fun nL tL hL => ∃ (k : Nat) (hh : Heap) (os : List OE) (ds : List Elem), l.length - k = nL ∧ hh = hL ∧ tL 11 = .int .i64 k ∧ k ≤ l.length ∧ foldB [] [] (l.take k) = some (os.map OE.el, ds) ∧ (FrN (h.length + 1) (h ++ [.row 26 4 0 [.agg [.str [], .nil (.slice none 0 0), .str [], .nil (.slice none 0 0)]]]) hh ∧ h.length + 1 < hh.length) ∧ (∃ po vo room pd vd, BH hh (h.length + 1) (h.length + 1) po vo room os pd vd ds)) ((fun (k : Nat) (hh : Heap) (os : List OE) (ds : List Elem) => (l.length - k : Nat)) (0) (H1) ([]) ([])) ?_ ?_
 ·refine ⟨_, _, (hw _ _), ⟨0, H1, [], [], rfl, hpE, ?_, by omega, rfl, hf0, ⟨po, 0, true, pd, 0, hb⟩⟩⟩
  all_goals first | exact zq trivial | rfl | omega | trivial | skip
 rintro _ s2 h' ⟨k, hh, os, ds, rfl, rfl, e11, hk, hq, hf, hb⟩ K2 hK2
 simp only [mix_cons, mix_nil, Nat.reduceEqDiff, ↓reduceIte] at e11
 have F := e11
 refine wk F ?_
 obtain ⟨po, vo, room, pd, vd, hb⟩ := hb
 obtain ⟨hf, hfl⟩ := hf
 have hcell := keep hh hf
 have hsz := foldB_sz _ _ _ _ hq
 have hkd := szs_kids os
 have hln := hsz.2 (by simp)
 have htk : szs Tok.sz (l.take k) ≤ szs Tok.sz l := by
  conv => rhs; rw [← List.take_append_drop k l, szs_add]
  omega
 have hdl := szs_len Elem.sz Elem.sz_pos ds
 simp only [szs, List.length_map] at hsz hln
 refine cq F (fun c2 => ?_) (fun c2 => ?_) <;> (try exact c2.elim) <;> (refine wk F ?_)
 ·obtain ⟨y, hy, hym⟩ := getElem?_of_lt c2
  have hys := szs_mem Tok.sz hym
  have F := F2 F hy
  try refine sq F ?_
  refine wk F ?_
  refine (badd_sat G hG hC y (by omega) (hb.app _) (by omega) (by omega) (fun o ho => by have := (hkd o ho).1; omega) (fun o ho => by have := (hkd o ho).2; omega)).mono ?_
  intro r h' gp
  have hs := foldB_snoc hy hq
  simp only [] at hs
  rw [← hs] at gp
  obtain ⟨⟨gf, gl⟩, gp⟩ := gp
  have hf2 : FrN (h.length + 1) (h ++ [.row 26 4 0 [.agg [.str [], .nil (.slice none 0 0), .str [], .nil (.slice none 0 0)]]]) h' := hf.trans (fun p hp => by rw [gf p hp, List.getElem?_append_left (by omega)])
  rw [List.length_append] at gl
  have hcell2 := keep h' hf2
  cases hc : foldB [] [] (l.take (k + 1)) with
  | none =>
   rw [hc] at gp
   subst gp
   have F := F2 F @hcell2
   try refine sq F ?_
   refine wk F ?_
   refine ye hQ (F3 F @gs_eq (gr_lt hcell2)) ?_
   exact PBldR.bad ((base _ hf2).trans (fun p hp => List.getElem?_set_ne (by omega))) (by simp; omega) (foldB_stop hc)
  | some q =>
   rw [hc] at gp
   obtain ⟨rfl, po2, vo2, room2, os2, pd2, vd2, hb2, ho2⟩ := gp
   obtain ⟨q1, q2⟩ := q
   simp only [] at hb2 ho2
   subst ho2
   try refine sq F ?_
   refine wk F ?_
   refine hK2 _ _ _ (Wkn.refl ⟨k + 1, h', os2, q2, rfl, hpE, ?_, by omega, hc, ⟨hf2, by omega⟩, ⟨po2, vo2, room2, pd2, vd2, hb2⟩⟩) (by omega)
   all_goals first | exact zq F | rfl | omega | trivial | skip
 ·rw [List.take_of_length_le (by omega)] at hq
  have hB := foldB_eq l
  rw [hq] at hB
  have hbb := hb.b
  have hbd := hb.d
  have hbo := hb.o
  have F := F6 F hbb hbd hbo @hcell (@Option.isSome_some (TypeId × Nat × List AVal))
  try refine sq F ?_
  have hfin : ∀ x : Elem, ds = [x] → bldF l = some x → Fin h (hh.set h.length (.row 26 4 0 [x.av])) (PBldR h l) (.tup [x.av, .int .i64 0]) := fun x e1 e2 => by
   obtain ⟨j, hj⟩ := FrN.split (H := hh.set h.length (.row 26 4 0 [x.av])) ((base _ hf).trans (fun p hp => List.getElem?_set_ne (by omega))) (by simp; omega)
   rw [hj]
   exact Fin.plain (.tup _ (by intro c hc; simp at hc; rcases hc with rfl | rfl; exact Elem.clo _ _; exact .int _ _)) ⟨x, by rw [e2]; rfl, (fun y hy => by rw [e2] at hy; exact Option.some.inj hy), (fun hn => by rw [e2] at hn; cases hn), rfl⟩
  have hbad : bldF l = none → Fin h (hh.set h.length (.row 26 4 0 [.agg [.str [], .nil (.slice none 0 0), .str [], .nil (.slice none 0 0)]])) (PBldR h l) (.tup [.agg [.str [], .nil (.slice none 0 0), .str [], .nil (.slice none 0 0)], .int .i64 90]) := fun e => PBldR.bad ((base _ hf).trans (fun p hp => List.getElem?_set_ne (by omega))) (by simp; omega) e
  (first | refine gq F (fun g1 => ?_) (fun g1 => ?_) | refine pq F (fun g1 => ?_) (fun g1 => ?_)) <;> (try exact g1.elim) <;> (try refine sq F ?_) <;> (refine wk F ?_)
  ·refine ye hQ (F3 F @gs_eq (gr_lt hcell)) ?_
   refine hbad ?_
   rw [← hB]
   match os, ds, g1 with
   | [], [], _ => rfl
   | [], [x], g1 => exact absurd rfl g1
   | [], x :: y :: z, _ => rfl
   | o :: z, _, _ => rfl
  ·obtain ⟨x, rfl⟩ : ∃ x, ds = [x] := List.length_eq_one_iff.1 (by omega)
   have hdx : ([x].map Elem.av)[0]? = some x.av := rfl
   have F := F2 F hdx
   try refine sq F ?_
   refine cq F (fun g2 => ?_) (fun g2 => ?_) <;> (try exact g2.elim) <;> (refine wk F ?_)
   ·refine ye hQ (F3 F @gs_eq (gr_lt hcell)) ?_
    refine hbad ?_
    rw [← hB]
    match os, g2 with
    | [], g2 => simp at g2
    | o :: z, _ => rfl
   ·refine ye hQ (F3 F @gs_eq (gr_lt hcell)) ?_
    have ho : os = [] := List.length_eq_zero_iff.1 (by omega)
    subst ho
    exact hfin x rfl hB.symm
end Go.Av
namespace Go.Av
open Go Go.Proofs Go.RowKit
attribute [local irreducible] WP WPl WPix Sat
set_option maxRecDepth 100000
set_option maxHeartbeats 1000000
variable (G : Nat → Option (List AVal))
theorem Frz.outls {h : Heap} {n q v e : Nat} {l : List Outl} {len : Nat} {room : Bool} (hq : n ≤ q) (hg : getRow h q v = some (e, 3, l.map Outl.av)) (hlen : len = l.length) : Frz h n (.hs q v 0 len room) (.sl 3 (l.map Outl.av)) :=
 Frz.data hq hg (by simpa using hlen) (fun r hr => by obtain ⟨a, _, rfl⟩ := List.mem_map.1 hr; exact Outl.clo _ a) (fun r hr => by obtain ⟨a, _, rfl⟩ := List.mem_map.1 hr; exact a.av_sto)
theorem wk_outl (t u : Bs) : WkR (.agg [.str t, .str u, .nil (.slice none 0 0)]) (.agg [.str t, .str u, .sl 3 []]) := by
 refine ⟨rfl, fun j c d hc hd => ?_⟩
 match j with
 | 0 => simp [AVal.cells] at hc hd; subst hc; subst hd; exact ⟨Wk.refl _, id⟩
 | 1 => simp [AVal.cells] at hc hd; subst hc; subst hd; exact ⟨Wk.refl _, id⟩
 | 2 => simp [AVal.cells] at hc hd; subst hc; subst hd; exact ⟨Wk.nils 3, fun _ => rfl⟩
 | j + 3 => simp [AVal.cells] at hc
theorem deep_kid {e k : Elem} {d : Nat} (hd : deep e d ≤ 32) (hk : k ∈ e.kids) : d < 40 ∧ deep k (d + 1) ≤ 32 := by
 rw [deep_eq] at hd
 by_cases h40 : 40 ≤ d
 ·rw [if_pos h40] at hd; omega
 ·rw [if_neg h40] at hd
  have := (deepL_ge e.kids d d).2 k hk
  omega
theorem kidsF_in {e k : Elem} {n : Bs} (h : k ∈ kidsF e n) : k ∈ e.kids := by unfold kidsF at h; exact (List.mem_filter.1 h).1
theorem Pof_sat : ∀ (f d : Nat), f + d = 41 → ∀ (e : Elem) (_ : deep e d ≤ 32) (_ : e.sz ≤ 700000) (h : Heap), Sat (CT G) 67 [e.av] h (fun r h' => r = .sl 3 ((ofF f e).map Outl.av) ∧ h' = h) := by
 intro f
 induction f with
 | zero =>
  intro d hf e hd hs h
  rw [deep_eq, if_pos (by omega)] at hd; omega
 | succ f ih =>
  intro d hf e hd hs h
  have hks := kidsF_szs e bOutline
  have hkin : ∀ k ∈ kidsF e bOutline, k ∈ e.kids := fun k hk => kidsF_in hk
  have hof : ofF (f + 1) e = (kidsF e bOutline).filterMap (oneO (ofF f)) := rfl
  refine sb [.tmp 2] (fn := Tryz.f67) Tryz.func67 ?_
  intro Q hQ
  (repeat (first | refine w1 (fun K hK => ?_) | refine w2 ?_ | refine w3 ?_ | ((first | refine w4 ?_ | refine wD ?_ | refine w5 ?_ | refine w6 ?_ | refine w7 ?_); try refine sq trivial ?_) | (refine w8 ?_; refine sq trivial ?_; refine w9 ?_) | (refine rq trivial ?_; try refine sq trivial ?_) | (refine vq trivial ?_; try refine sq trivial ?_) | ((first | refine hK _ _ (w0 ?_) | (clear hK K; refine hK _ _ (w0 ?_)) | (clear hK K; clear hK K; refine hK _ _ (w0 ?_))); clear hK K)))
  refine (PKids_sat G e bOutline (by omega) _).mono ?_
  rintro r h' ⟨rfl, hk_⟩
  replace hk_ := hk_.symm
  subst hk_
  try refine sq trivial ?_
  (repeat (first | refine w1 (fun K hK => ?_) | refine w2 ?_ | refine w3 ?_ | ((first | refine w4 ?_ | refine wD ?_ | refine w5 ?_ | refine w6 ?_ | refine w7 ?_); try refine sq trivial ?_) | (refine w8 ?_; refine sq trivial ?_; refine w9 ?_) | (refine rq trivial ?_; try refine sq trivial ?_) | (refine vq trivial ?_; try refine sq trivial ?_) | ((first | refine hK _ _ (w0 ?_) | (clear hK K; refine hK _ _ (w0 ?_)) | (clear hK K; clear hK K; refine hK _ _ (w0 ?_))); clear hK K)))
  have hkl := szs_len Elem.sz Elem.sz_pos (kidsF e bOutline)
  rw [hof] at hQ
  clear hof
  generalize kidsF e bOutline = l at *
  have hlm : (l.map Elem.av).length = l.length := List.length_map ..
  have F := hlm
  refine lm (fun nL tL hL => ∃ (k v : Nat) (acc : List Outl) (hh : Heap), l.length - k = nL ∧ hh = hL ∧ tL 3 = .hs (h.length + 1) v 0 acc.length true ∧ tL 10 = .int .i64 k ∧ k ≤ l.length ∧ acc.length ≤ k ∧ acc ++ (l.drop k).filterMap (oneO (ofF f)) = l.filterMap (oneO (ofF f)) ∧ (FrN h.length h hh ∧ h.length + 1 < hh.length) ∧ getRow hh (h.length + 1) v = some (58, 3, acc.map Outl.av)) ((fun (k v : Nat) (acc : List Outl) (hh : Heap) => (l.length - k : Nat)) (0) (0) ([]) (h ++ [.row 26 4 0 [e.av], .row 58 3 0 []])) ?_ ?_
  ·refine ⟨_, _, Weak.virt 3 58 3 (by simp) (by omega) (by exact zq F), ⟨0, 0, [], h ++ [.row 26 4 0 [e.av], .row 58 3 0 []], rfl, hpE, ?_, ?_, by omega, by simp, rfl, ⟨FrN.app _ (by omega) (FrN.refl _ _), by simp⟩, by rw [gs_new _ rfl]; rfl⟩⟩
   all_goals first | exact zq F | rfl | omega | trivial | skip
  rintro _ s2 h' ⟨k, v, acc, hh, rfl, rfl, e3, e10, hk, hl, hp, hf, hg⟩ K2 hK2
  simp only [mix_cons, mix_nil, Nat.reduceEqDiff, ↓reduceIte] at e3 e10
  have F := F3 F e3 e10
  (repeat (first | refine w1 (fun K hK => ?_) | refine w2 ?_ | refine w3 ?_ | ((first | refine w4 ?_ | refine wD ?_ | refine w5 ?_ | refine w6 ?_ | refine w7 ?_); try refine sq F ?_) | (refine w8 ?_; refine sq F ?_; refine w9 ?_) | (refine rq F ?_; try refine sq F ?_) | (refine vq F ?_; try refine sq F ?_) | ((first | refine hK _ _ (w0 ?_) | (clear hK K; refine hK _ _ (w0 ?_)) | (clear hK K; clear hK K; refine hK _ _ (w0 ?_))); clear hK K)))
  obtain ⟨hfr, hfl⟩ := hf
  refine cq F (fun c1 => ?_) (fun c1 => ?_) <;> (try exact c1.elim) <;> ((repeat (first | refine w1 (fun K hK => ?_) | refine w2 ?_ | refine w3 ?_ | ((first | refine w4 ?_ | refine wD ?_ | refine w5 ?_ | refine w6 ?_ | refine w7 ?_); try refine sq F ?_) | (refine w8 ?_; refine sq F ?_; refine w9 ?_) | (refine rq F ?_; try refine sq F ?_) | (refine vq F ?_; try refine sq F ?_) | ((first | refine hK _ _ (w0 ?_) | (clear hK K; refine hK _ _ (w0 ?_)) | (clear hK K; clear hK K; refine hK _ _ (w0 ?_))); clear hK K))))
  ·obtain ⟨y, hy, hym⟩ := getElem?_of_lt c1
   have hyv : (l.map Elem.av)[k]? = some y.av := by rw [List.getElem?_map, hy]; rfl
   have hys := Elem.kid_sz (hkin y hym)
   have hyd := deep_kid hd (hkin y hym)
   have hul := url_len y
   rw [drop_cons_of hy, List.filterMap_cons] at hp
   have hg1 : ∀ j : Heap, getRow (hh ++ j) (h.length + 1) v = some (58, 3, acc.map Outl.av) := fun j => by rw [gs_old _ (by omega)]; exact hg
   have hs1 : ∀ (j : Heap) (b : Blk), (hh ++ j).set (h.length + 1) b = hh.set (h.length + 1) b ++ j := fun j b => st_old b (by omega)
   have F := F4 F hy hg1 hs1
   try refine sq F ?_
   (repeat (first | refine w1 (fun K hK => ?_) | refine w2 ?_ | refine w3 ?_ | ((first | refine w4 ?_ | refine wD ?_ | refine w5 ?_ | refine w6 ?_ | refine w7 ?_); try refine sq F ?_) | (refine w8 ?_; refine sq F ?_; refine w9 ?_) | (refine rq F ?_; try refine sq F ?_) | (refine vq F ?_; try refine sq F ?_) | ((first | refine hK _ _ (w0 ?_) | (clear hK K; refine hK _ _ (w0 ?_)) | (clear hK K; clear hK K; refine hK _ _ (w0 ?_))); clear hK K)))
   refine (PattrO_sat G y bUrl 512 (by omega) (by omega) _).mono ?_
   rintro r h' ⟨rfl, rfl⟩
   try refine sq F ?_
   (repeat (first | refine w1 (fun K hK => ?_) | refine w2 ?_ | refine w3 ?_ | ((first | refine w4 ?_ | refine wD ?_ | refine w5 ?_ | refine w6 ?_ | refine w7 ?_); try refine sq F ?_) | (refine w8 ?_; refine sq F ?_; refine w9 ?_) | (refine rq F ?_; try refine sq F ?_) | (refine vq F ?_; try refine sq F ?_)))
   refine hK _ _ ⟨_, _, Weak.rows (p := hh.length + 1) (v := 0) (e := 58) (m := 3) (rows := [.agg [.str [], .str (attrS y bUrl 512), .nil (.slice none 0 0)]]) [.agg [.str [], .str (attrS y bUrl 512), .sl 3 []]] (by rw [gs_new _ rfl]; rfl) rfl (fun i r s h1 h2 => ?_), ?_⟩
   ·match i with
    | 0 => simp at h1 h2; subst h1; subst h2; exact wk_outl _ _
    | i + 1 => simp at h1
   clear hK K
   rw [st_new _ rfl]
   simp only [List.set_cons_succ, List.set_cons_zero]
   (repeat (first | refine w1 (fun K hK => ?_) | refine w2 ?_ | refine w3 ?_ | ((first | refine w4 ?_ | refine wD ?_ | refine w5 ?_ | refine w6 ?_ | refine w7 ?_); try refine sq F ?_) | (refine w8 ?_; refine sq F ?_; refine w9 ?_) | (refine rq F ?_; try refine sq F ?_) | (refine vq F ?_; try refine sq F ?_) | ((first | refine hK _ _ (w0 ?_) | (clear hK K; refine hK _ _ (w0 ?_)) | (clear hK K; clear hK K; refine hK _ _ (w0 ?_))); clear hK K)))
   refine ⟨_, PattrO_sat G y bText 256 (by omega) (by omega) _, ?_⟩
   try refine sq F ?_
   (repeat (first | refine w1 (fun K hK => ?_) | refine w2 ?_ | refine w3 ?_ | ((first | refine w4 ?_ | refine wD ?_ | refine w5 ?_ | refine w6 ?_ | refine w7 ?_); try refine sq F ?_) | (refine w8 ?_; refine sq F ?_; refine w9 ?_) | (refine rq F ?_; try refine sq F ?_) | (refine vq F ?_; try refine sq F ?_) | ((first | refine hK _ _ (w0 ?_) | (clear hK K; refine hK _ _ (w0 ?_)) | (clear hK K; clear hK K; refine hK _ _ (w0 ?_))); clear hK K)))
   refine ⟨_, PattrO_sat G y bTitle 256 (by omega) (by omega) _, ?_⟩
   try refine sq F ?_
   (repeat (first | refine w1 (fun K hK => ?_) | refine w2 ?_ | refine w3 ?_ | ((first | refine w4 ?_ | refine wD ?_ | refine w5 ?_ | refine w6 ?_ | refine w7 ?_); try refine sq F ?_) | (refine w8 ?_; refine sq F ?_; refine w9 ?_) | (refine rq F ?_; try refine sq F ?_) | (refine vq F ?_; try refine sq F ?_) | ((first | refine hK _ _ (w0 ?_) | (clear hK K; refine hK _ _ (w0 ?_)) | (clear hK K; clear hK K; refine hK _ _ (w0 ?_))); clear hK K)))
   refine ⟨_, PshortO_sat G (attrS y bUrl 512) 256 (by omega) (by omega) _, ?_⟩
   try refine sq F ?_
   (repeat (first | refine w1 (fun K hK => ?_) | refine w2 ?_ | refine w3 ?_ | ((first | refine w4 ?_ | refine wD ?_ | refine w5 ?_ | refine w6 ?_ | refine w7 ?_); try refine sq F ?_) | (refine w8 ?_; refine sq F ?_; refine w9 ?_) | (refine rq F ?_; try refine sq F ?_) | (refine vq F ?_; try refine sq F ?_) | ((first | refine hK _ _ (w0 ?_) | (clear hK K; refine hK _ _ (w0 ?_)) | (clear hK K; clear hK K; refine hK _ _ (w0 ?_))); clear hK K)))
   refine ⟨_, Or_sat G (attrS y bText 256) (attrS y bTitle 256) (shortF (attrS y bUrl 512) 256) _, ?_⟩
   try refine sq F ?_
   (repeat (first | refine w1 (fun K hK => ?_) | refine w2 ?_ | refine w3 ?_ | ((first | refine w4 ?_ | refine wD ?_ | refine w5 ?_ | refine w6 ?_ | refine w7 ?_); try refine sq F ?_) | (refine w8 ?_; refine sq F ?_; refine w9 ?_) | (refine rq F ?_; try refine sq F ?_) | (refine vq F ?_; try refine sq F ?_) | ((first | refine hK _ _ (w0 ?_) | (clear hK K; refine hK _ _ (w0 ?_)) | (clear hK K; clear hK K; refine hK _ _ (w0 ?_))); clear hK K)))
   have htit : orF (attrS y bText 256) (attrS y bTitle 256) (shortF (attrS y bUrl 512) 256) = titF y := rfl
   rw [htit]
   have put : ∀ (o : Outl) (B : Blk), FrN h.length h (hh.set (h.length + 1) (.row 58 3 (v + 1) ((acc ++ [o]).map Outl.av)) ++ [.row 26 4 0 [y.av], B]) ∧ h.length + 1 < (hh.set (h.length + 1) (.row 58 3 (v + 1) ((acc ++ [o]).map Outl.av)) ++ [.row 26 4 0 [y.av], B]).length := fun o B =>
    ⟨FrN.app _ (by simp; omega) (FrN.set _ (by omega) hfr), by simp; omega⟩
   have put2 : ∀ (o : Outl) (B : Blk), getRow (hh.set (h.length + 1) (.row 58 3 (v + 1) ((acc ++ [o]).map Outl.av)) ++ [.row 26 4 0 [y.av], B]) (h.length + 1) (v + 1) = some (58, 3, (acc ++ [o]).map Outl.av) := fun o B => by
    rw [gs_old _ (by simp; omega), gs_eq _ _ _ _ _ (by omega)]; simp
   refine cq F (fun c2 => ?_) (fun c2 => ?_) <;> (try exact c2.elim) <;> ((repeat (first | refine w1 (fun K hK => ?_) | refine w2 ?_ | refine w3 ?_ | ((first | refine w4 ?_ | refine wD ?_ | refine w5 ?_ | refine w6 ?_ | refine w7 ?_); try refine sq F ?_) | (refine w8 ?_; refine sq F ?_; refine w9 ?_) | (refine rq F ?_; try refine sq F ?_) | (refine vq F ?_; try refine sq F ?_) | ((first | refine hK _ _ (w0 ?_) | (clear hK K; refine hK _ _ (w0 ?_)) | (clear hK K; clear hK K; refine hK _ _ (w0 ?_))); clear hK K))))
   ·have ho : oneO (ofF f) y = none := by unfold oneO; rw [if_pos c2]
    rw [ho] at hp
    refine hK2 _ _ _ (Wkn.refl ⟨k + 1, v, acc, hh ++ [.row 26 4 0 [y.av], .row 58 3 0 [.agg [.str (titF y), .str (attrS y bUrl 512), .sl 3 []]]], rfl, hpE, ?_, ?_, by omega, by omega, hp, ⟨FrN.app _ (by omega) hfr, by simp; omega⟩, hg1 _⟩) (by omega)
    all_goals first | exact zq F | rfl | omega | trivial | skip
   ·refine cq F (fun c3 => ?_) (fun c3 => ?_) <;> (try exact c3.elim) <;> ((repeat (first | refine w1 (fun K hK => ?_) | refine w2 ?_ | refine w3 ?_ | ((first | refine w4 ?_ | refine wD ?_ | refine w5 ?_ | refine w6 ?_ | refine w7 ?_); try refine sq F ?_) | (refine w8 ?_; refine sq F ?_; refine w9 ?_) | (refine rq F ?_; try refine sq F ?_) | (refine vq F ?_; try refine sq F ?_) | ((first | refine hK _ _ (w0 ?_) | (clear hK K; refine hK _ _ (w0 ?_)) | (clear hK K; clear hK K; refine hK _ _ (w0 ?_))); clear hK K))))
    ·have ho : oneO (ofF f) y = some ⟨titF y, attrS y bUrl 512, ofF f y⟩ := by unfold oneO; rw [if_neg c2, if_pos c3]
     rw [ho] at hp
     refine (ih (d + 1) (by omega) y hyd.2 (by omega) _).mono ?_
     rintro r h' ⟨rfl, rfl⟩
     try refine sq F ?_
     (repeat (first | refine w1 (fun K hK => ?_) | refine w2 ?_ | refine w3 ?_ | ((first | refine w4 ?_ | refine wD ?_ | refine w5 ?_ | refine w6 ?_ | refine w7 ?_); try refine sq F ?_) | (refine w8 ?_; refine sq F ?_; refine w9 ?_) | (refine rq F ?_; try refine sq F ?_) | (refine vq F ?_; try refine sq F ?_) | ((first | refine hK _ _ (w0 ?_) | (clear hK K; refine hK _ _ (w0 ?_)) | (clear hK K; clear hK K; refine hK _ _ (w0 ?_))); clear hK K)))
     refine aq F ?_
     try refine sq F ?_
     (repeat (first | refine w1 (fun K hK => ?_) | refine w2 ?_ | refine w3 ?_ | ((first | refine w4 ?_ | refine wD ?_ | refine w5 ?_ | refine w6 ?_ | refine w7 ?_); try refine sq F ?_) | (refine w8 ?_; refine sq F ?_; refine w9 ?_) | (refine rq F ?_; try refine sq F ?_) | (refine vq F ?_; try refine sq F ?_) | ((first | refine hK _ _ (w0 ?_) | (clear hK K; refine hK _ _ (w0 ?_)) | (clear hK K; clear hK K; refine hK _ _ (w0 ?_))); clear hK K)))
     refine hK2 _ _ _ (Wkn.refl ⟨k + 1, v + 1, acc ++ [⟨titF y, attrS y bUrl 512, ofF f y⟩], hh.set (h.length + 1) (.row 58 3 (v + 1) ((acc ++ [Outl.mk (titF y) (attrS y bUrl 512) (ofF f y)]).map Outl.av)) ++ [.row 26 4 0 [y.av], .row 58 3 0 [.agg [.str (titF y), .str (attrS y bUrl 512), .sl 3 ((ofF f y).map Outl.av)]]], rfl, by simp [Outl.av_eq, Outl.title, Outl.url, Outl.kids], ?_, ?_, by omega, by simp; omega, by rw [← hp]; simp, put _ _, put2 _ _⟩) (by omega)
     all_goals first | exact zq F | rfl | omega | trivial | skip
    ·have ho : oneO (ofF f) y = some ⟨titF y, attrS y bUrl 512, []⟩ := by unfold oneO; rw [if_neg c2, if_neg c3]
     rw [ho] at hp
     refine aq F ?_
     try refine sq F ?_
     (repeat (first | refine w1 (fun K hK => ?_) | refine w2 ?_ | refine w3 ?_ | ((first | refine w4 ?_ | refine wD ?_ | refine w5 ?_ | refine w6 ?_ | refine w7 ?_); try refine sq F ?_) | (refine w8 ?_; refine sq F ?_; refine w9 ?_) | (refine rq F ?_; try refine sq F ?_) | (refine vq F ?_; try refine sq F ?_) | ((first | refine hK _ _ (w0 ?_) | (clear hK K; refine hK _ _ (w0 ?_)) | (clear hK K; clear hK K; refine hK _ _ (w0 ?_))); clear hK K)))
     refine hK2 _ _ _ (Wkn.refl ⟨k + 1, v + 1, acc ++ [⟨titF y, attrS y bUrl 512, []⟩], hh.set (h.length + 1) (.row 58 3 (v + 1) ((acc ++ [Outl.mk (titF y) (attrS y bUrl 512) []]).map Outl.av)) ++ [.row 26 4 0 [y.av], .row 58 3 0 [.agg [.str (titF y), .str (attrS y bUrl 512), .sl 3 []]]], rfl, by simp [Outl.av_eq, Outl.title, Outl.url, Outl.kids], ?_, ?_, by omega, by simp; omega, by rw [← hp]; simp, put _ _, put2 _ _⟩) (by omega)
     all_goals first | exact zq F | rfl | omega | trivial | skip
  ·rw [drop_nil_of c1, List.filterMap_nil, List.append_nil] at hp
   (repeat (first | refine w1 (fun K hK => ?_) | refine w2 ?_ | refine w3 ?_ | ((first | refine w4 ?_ | refine wD ?_ | refine w5 ?_ | refine w6 ?_ | refine w7 ?_); try refine sq F ?_) | (refine w8 ?_; refine sq F ?_; refine w9 ?_) | (refine rq F ?_; try refine sq F ?_) | (refine vq F ?_; try refine sq F ?_) | ((first | refine hK _ _ (w0 ?_) | (clear hK K; refine hK _ _ (w0 ?_)) | (clear hK K; clear hK K; refine hK _ _ (w0 ?_))); clear hK K)))
   refine ee hQ F ?_
   rw [← hp]
   obtain ⟨j, hj⟩ := hfr.split (by omega)
   have hg2 : getRow (h ++ j) (h.length + 1) v = some (58, 3, acc.map Outl.av) := by rw [← hj]; exact hg
   rw [hj]
   exact Fin.frz (Frz.outls (by omega) hg2 rfl) ⟨rfl, rfl⟩
end Go.Av
namespace Go.Av
open Go Go.Proofs Go.RowKit
attribute [local irreducible] WP WPl WPix Sat
set_option maxRecDepth 100000
set_option maxHeartbeats 1000000
variable (G : Nat → Option (List AVal))
end Go.Av
namespace Go.Av
open Go Go.Proofs Go.RowKit
attribute [local irreducible] WP WPl WPix Sat
set_option maxRecDepth 100000
set_option maxHeartbeats 1000000
variable (G : Nat → Option (List AVal))
theorem cntGo_le (g : List Outl → Nat) (b : Nat) (hb : 1 ≤ b) (hg : ∀ l, g l ≤ b) : ∀ (t : List Outl) (a : Nat), a ≤ 512 → cntGo g t a ≤ 512 + b
 | [], a, h => by rw [cntGo]; omega
 | o :: t, a, h => by
  rw [cntGo]
  split
  ·split
   ·have := hg o.kids; omega
   ·exact cntGo_le g b hb hg t _ (by omega)
  ·omega
theorem cntN_le : ∀ (f : Nat) (l : List Outl), cntN f l ≤ 513 + 512 * f := by
 intro f
 induction f with
 | zero => intro l; rw [cntN]; split <;> omega
 | succ f ih =>
  intro l
  rw [cntN]
  split
  ·omega
  ·have := cntGo_le (cntN f) (513 + 512 * f) (by omega) ih l l.length (by omega); omega
def OkN : Nat → List Outl → Prop
 | 0, l => l.length ≤ 1000000
 | f + 1, l => l.length ≤ 1000000 ∧ ∀ o ∈ l, o.title.length ≤ 100000 ∧ o.url.length ≤ 100000 ∧ OkN f o.kids
theorem ofF_len (f : Nat) (e : Elem) : (ofF f e).length ≤ e.sz := by
 cases f with
 | zero => exact Nat.zero_le _
 | succ f =>
  have h1 := List.length_filterMap_le (oneO (ofF f)) (kidsF e bOutline)
  have h2 := szs_len Elem.sz Elem.sz_pos (kidsF e bOutline)
  have h3 := kidsF_szs e bOutline
  show ((kidsF e bOutline).filterMap (oneO (ofF f))).length ≤ _
  omega
theorem OkN.nil : ∀ f : Nat, OkN f [] := fun f => by cases f with | zero => exact Nat.zero_le _ | succ f => exact ⟨Nat.zero_le _, fun o ho => by cases ho⟩
theorem ofF_ok : ∀ (g f : Nat) (e : Elem), e.sz ≤ 1000000 → OkN g (ofF f e) := by
 intro g
 induction g with
 | zero => intro f e he; have := ofF_len f e; show _ ≤ _; omega
 | succ g ih =>
  intro f e he
  have hl := ofF_len f e
  refine ⟨by omega, fun o ho => ?_⟩
  cases f with
  | zero => cases ho
  | succ f =>
   obtain ⟨k, hk, hko⟩ := List.mem_filterMap.1 ho
   have h1 := Elem.kid_sz (kidsF_in hk)
   have h2 := titF_len k
   have h3 := url_len k
   unfold oneO at hko
   by_cases h0 : titF k = []
   ·rw [if_pos h0] at hko; cases hko
   ·rw [if_neg h0] at hko
    cases hko
    refine ⟨by show (titF k).length ≤ _; omega, by show (attrS k bUrl 512).length ≤ _; omega, ?_⟩
    show OkN g (if attrS k bUrl 512 = [] then ofF f k else [])
    by_cases h4 : attrS k bUrl 512 = []
    ·rw [if_pos h4]; exact ih f k (by omega)
    ·rw [if_neg h4]; exact OkN.nil g
theorem cntN_nil (f : Nat) : cntN f [] = 0 := by cases f <;> rfl
theorem Pcount_nil (f d : Nat) (h : Heap) : Sat (CT G) 70 [.sl 3 (([] : List Outl).map Outl.av), .int .i64 d] h (fun r h' => r = .int .i64 (cntN f []) ∧ h' = h) := by
 rw [cntN_nil]
 refine sb [.tmp 4] (fn := Tryz.f70) Tryz.func70 ?_
 intro Q hQ
 refine wk trivial ?_
 refine lm (fun nL tL hL => ∃ (k : Nat), 0 = nL ∧ h = hL ∧ tL 5 = .int .i64 0 ∧ tL 22 = .int .i64 k ∧ k = 0) ((fun (k : Nat) => (0 : Nat)) (0)) ?_ ?_
 ·refine Wkn.refl ⟨0, rfl, hpE, ?_, ?_, rfl⟩
  all_goals first | exact zq trivial | rfl | omega | trivial | skip
 rintro _ s2 h' ⟨k, rfl, rfl, e5, e22, hk⟩ K2 hK2
 simp only [mix_cons, mix_nil, Nat.reduceEqDiff, ↓reduceIte] at e5 e22
 have F := F2 e5 e22
 subst hk
 refine wk F ?_
 refine ee hQ F ?_
 refine fR (.int _ _) ?_
 rfl
theorem Pcount_sat : ∀ (f d : Nat), f + d = 9 → ∀ (l : List Outl) (_ : OkN f l) (h : Heap), Sat (CT G) 70 [.sl 3 (l.map Outl.av), .int .i64 d] h (fun r h' => r = .int .i64 (cntN f l) ∧ h' = h) := by
 intro f
 induction f with
 | zero =>
  intro d hf l hs h
  by_cases hl0 : l = []
  ·subst hl0; exact Pcount_nil G 0 d h
  have hlp := List.length_pos_iff.2 hl0
  have hlm : (l.map Outl.av).length = l.length := List.length_map ..
  have f1 : decide ((l.length : Int) > 0) = true := by rw [decide_eq_true_iff]; omega
  have f2 : decide ((d : Int) > 8) = true := by rw [decide_eq_true_iff]; omega
  have F := F3 hlm f1 f2
  refine sb [.tmp 4] (fn := Tryz.f70) Tryz.func70 ?_
  intro Q hQ
  refine wk F ?_
  refine ee hQ F ?_
  refine fR (.int _ _) ?_
  rw [cntN, if_neg hl0]; rfl
 | succ f ih =>
  intro d hf l hs h
  by_cases hl0 : l = []
  ·subst hl0; exact Pcount_nil G (f + 1) d h
  have hlp := List.length_pos_iff.2 hl0
  have hlm : (l.map Outl.av).length = l.length := List.length_map ..
  have hll := hs.1
  have f1 : decide ((l.length : Int) > 0) = true := by rw [decide_eq_true_iff]; omega
  have f2 : decide ((d : Int) > 8) = false := by rw [decide_eq_false_iff_not]; omega
  by_cases hl : 512 < l.length
  ·have f3 : decide ((l.length : Int) > 512) = true := by rw [decide_eq_true_iff]; omega
   have F := F4 hlm f1 f2 f3
   refine sb [.tmp 4] (fn := Tryz.f70) Tryz.func70 ?_
   intro Q hQ
   refine wk F ?_
   refine ee hQ F ?_
   refine fR (.int _ _) ?_
   rw [cntN, if_pos hl]; rfl
  have f3 : decide ((l.length : Int) > 512) = false := by rw [decide_eq_false_iff_not]; omega
  rw [cntN, if_neg hl]
  have F := F4 hlm f1 f2 f3
  refine sb [.tmp 4] (fn := Tryz.f70) Tryz.func70 ?_
  intro Q hQ
  refine wk F ?_
  refine lm (fun nL tL hL => ∃ (k a : Nat) (jj : Heap), l.length - k = nL ∧ h ++ jj = hL ∧ tL 5 = .int .i64 a ∧ tL 22 = .int .i64 k ∧ k ≤ l.length ∧ a ≤ 512 ∧ cntGo (cntN f) (l.drop k) a = cntGo (cntN f) l l.length) ((fun (k a : Nat) (jj : Heap) => (l.length - k : Nat)) (0) (l.length) ([])) ?_ ?_
  ·refine Wkn.refl ⟨0, l.length, [], rfl, hpE, ?_, ?_, by omega, by omega, rfl⟩
   all_goals first | exact zq F | rfl | omega | trivial | skip
  rintro _ s2 h' ⟨k, a, jj, rfl, rfl, e5, e22, hk, ha, hp⟩ K2 hK2
  simp only [mix_cons, mix_nil, Nat.reduceEqDiff, ↓reduceIte] at e5 e22
  have F := F3 F e5 e22
  refine wk F ?_
  refine cq F (fun c1 => ?_) (fun c1 => ?_) <;> (try exact c1.elim) <;> (refine wk F ?_)
  ·obtain ⟨y, hy, hym⟩ := getElem?_of_lt c1
   have hyo := hs.2 y hym
   have hcl := cntN_le f y.kids
   rw [drop_cons_of hy, cntGo] at hp
   have F := F2 F hy
   try refine sq F ?_
   refine wk F ?_
   refine kq F (PoneO_sat G y hyo.1 hyo.2.1 _) ?_
   refine cq F (fun c2 => ?_) (fun c2 => ?_) <;> (try exact c2.elim) <;> (refine wk F ?_)
   ·rw [if_neg (by simp [c2])] at hp
    refine ee hQ F ?_
    refine fR (.int _ _) ?_
    rw [← hp]; rfl
   ·rw [if_pos c2] at hp
    refine kq F (ih (d + 1) (by omega) y.kids hyo.2.2 _) ?_
    refine cq F (fun c3 => ?_) (fun c3 => ?_) <;> (try exact c3.elim) <;> (refine wk F ?_)
    ·rw [if_pos (by omega)] at hp
     refine ee hQ F ?_
     refine fR (.int _ _) ?_
     rw [← hp]; rfl
    ·rw [if_neg (by omega)] at hp
     refine hK2 _ _ _ (Wkn.refl ⟨k + 1, a + cntN f y.kids, jj ++ [.row 58 3 0 [y.av]], rfl, by simp, ?_, ?_, by omega, by omega, hp⟩) (by omega)
     all_goals first | exact zq F | rfl | omega | trivial | skip
  ·rw [drop_nil_of c1, cntGo] at hp
   refine wk F ?_
   refine ee hQ F ?_
   refine fR (.int _ _) ?_
   rw [hp]
end Go.Av
namespace Go.Av
open Go Go.Proofs Go.RowKit
attribute [local irreducible] WP WPl WPix Sat
set_option maxRecDepth 100000
set_option maxHeartbeats 1000000
variable (G : Nat → Option (List AVal))
theorem rmay_sat : ∀ (f d : Nat), f + d = 9 → ∀ (l : List Outl) (_ : OkN f l) (n : Nat) (_ : n ≤ 512) (h : Heap), Sat (CT G) 73 [.sl 3 (l.map Outl.av), .int .i64 d, .int .i64 n] h (fun r h' => r = .tup [.int .i64 (mayN f l n).1, .bool (mayN f l n).2] ∧ h' = h) := by
 intro f
 induction f with
 | zero =>
  intro d hf l hs n hn h
  have fin : ∀ (a : Int) (b : Bool), ((mayN 0 l n).1 : Int) = a → (mayN 0 l n).2 = b → Fin h h (fun r h' => r = .tup [.int .i64 (mayN 0 l n).1, .bool (mayN 0 l n).2] ∧ h' = h) (.tup [.int .i64 a, .bool b]) := fun a b e1 e2 => by
   rw [e1, e2]
   exact Fin.same (.tup _ (by intro c hc; simp at hc; rcases hc with rfl | rfl; exact .int _ _; exact .bool _)) ⟨rfl, rfl⟩
  by_cases hl0 : l = []
  ·subst hl0
   refine sb [.tmp 6, .tmp 7] (fn := Tryz.f73) Tryz.func73 ?_
   intro Q hQ
   refine wk trivial ?_
   refine lm (fun nL tL hL => ∃ (k : Nat), 0 = nL ∧ h = hL ∧ tL 2 = .int .i64 n ∧ tL 8 = .int .i64 k ∧ k = 0) ((fun (k : Nat) => (0 : Nat)) (0)) ?_ ?_
   ·refine Wkn.refl ⟨0, rfl, hpE, ?_, ?_, rfl⟩
    all_goals first | exact zq trivial | rfl | omega | trivial | skip
   rintro _ s2 h' ⟨k, rfl, rfl, e2, e8, hk⟩ K2 hK2
   simp only [mix_cons, mix_nil, Nat.reduceEqDiff, ↓reduceIte] at e2 e8
   have F := F2 e2 e8
   subst hk
   refine wk F ?_
   refine ee hQ F ?_
   exact fin _ _ rfl rfl
  have hlp := List.length_pos_iff.2 hl0
  have hlm : (l.map Outl.av).length = l.length := List.length_map ..
  have f1 : decide ((l.length : Int) > 0) = true := by rw [decide_eq_true_iff]; omega
  have f2 : decide ((d : Int) > 8) = true := by rw [decide_eq_true_iff]; omega
  have F := F3 hlm f1 f2
  refine sb [.tmp 6, .tmp 7] (fn := Tryz.f73) Tryz.func73 ?_
  intro Q hQ
  refine wk F ?_
  refine ee hQ F ?_
  exact fin _ _ (by rw [mayN, if_neg hl0]) (by rw [mayN, if_neg hl0])
 | succ f ih =>
  intro d hf l hs n hn h
  have fin : ∀ (j : Heap) (a : Int) (b : Bool), ((mayN (f + 1) l n).1 : Int) = a → (mayN (f + 1) l n).2 = b → Fin h (h ++ j) (fun r h' => r = .tup [.int .i64 (mayN (f + 1) l n).1, .bool (mayN (f + 1) l n).2] ∧ h' = h) (.tup [.int .i64 a, .bool b]) := fun j a b e1 e2 => by
   rw [e1, e2]
   exact Fin.plain (.tup _ (by intro c hc; simp at hc; rcases hc with rfl | rfl; exact .int _ _; exact .bool _)) ⟨rfl, rfl⟩
  have fin0 : ∀ (a : Int) (b : Bool), ((mayN (f + 1) l n).1 : Int) = a → (mayN (f + 1) l n).2 = b → Fin h h (fun r h' => r = .tup [.int .i64 (mayN (f + 1) l n).1, .bool (mayN (f + 1) l n).2] ∧ h' = h) (.tup [.int .i64 a, .bool b]) := fun a b e1 e2 => by
   have := fin [] a b e1 e2; simpa using this
  have hlm : (l.map Outl.av).length = l.length := List.length_map ..
  have hll := hs.1
  have hst : mayN (f + 1) l n = mayGo (mayN f) l n := rfl
  have f2 : decide ((d : Int) > 8) = false := by rw [decide_eq_false_iff_not]; omega
  have start : ∀ b : Bool, decide ((l.length : Int) > 0) = b → Sat (CT G) 73 [.sl 3 (l.map Outl.av), .int .i64 d, .int .i64 n] h (fun r h' => r = .tup [.int .i64 (mayN (f + 1) l n).1, .bool (mayN (f + 1) l n).2] ∧ h' = h) := by
   intro b f1
   cases b
   all_goals (
    have F := F3 hlm f1 f2
    refine sb [.tmp 6, .tmp 7] (fn := Tryz.f73) Tryz.func73 ?_
    intro Q hQ
    refine wk F ?_
    refine lm (fun nL tL hL => ∃ (k m : Nat), l.length - k = nL ∧ h = hL ∧ tL 2 = .int .i64 m ∧ tL 8 = .int .i64 k ∧ k ≤ l.length ∧ m ≤ 512 ∧ mayGo (mayN f) (l.drop k) m = mayN (f + 1) l n) ((fun (k m : Nat) => (l.length - k : Nat)) (0) (n)) ?_ ?_
    ·refine Wkn.refl ⟨0, n, rfl, hpE, ?_, ?_, by omega, hn, rfl⟩
     all_goals first | exact zq F | rfl | omega | trivial | skip
    rintro _ s2 h' ⟨k, m, rfl, rfl, e2, e8, hk, hm, hp⟩ K2 hK2
    simp only [mix_cons, mix_nil, Nat.reduceEqDiff, ↓reduceIte] at e2 e8
    have F := F3 F e2 e8
    refine wk F ?_
    refine cq F (fun c1 => ?_) (fun c1 => ?_) <;> (try exact c1.elim) <;> (refine wk F ?_)
    ·obtain ⟨y, hy, hym⟩ := getElem?_of_lt c1
     have hyo := hs.2 y hym
     rw [drop_cons_of hy, mayGo] at hp
     have bad : ¬ (m + 1 ≤ 512 ∧ oneOk y = true) → Fin h h (fun r h' => r = .tup [.int .i64 (mayN (f + 1) l n).1, .bool (mayN (f + 1) l n).2] ∧ h' = h) (.tup [.int .i64 ((m : Int) + 1), .bool false]) := fun hn => by
      rw [if_neg hn] at hp
      exact fin0 _ _ (by rw [← hp]; rfl) (by rw [← hp])
     have F := F2 F hy
     try refine sq F ?_
     refine wk F ?_
     (first | refine gq F (fun g1 => ?_) (fun g1 => ?_) | refine pq F (fun g1 => ?_) (fun g1 => ?_)) <;> (try exact g1.elim) <;> (try refine sq F ?_) <;> (refine wk F ?_)
     ·refine ee hQ F ?_
      exact bad (fun hh => by omega)
     ·(first | refine gq F (fun g2 => ?_) (fun g2 => ?_) | refine pq F (fun g2 => ?_) (fun g2 => ?_)) <;> (try exact g2.elim) <;> (try refine sq F ?_) <;> (refine wk F ?_)
      ·refine ee hQ F ?_
       exact bad (fun hh => by have := hh.2; unfold oneOk at this; simp [g2] at this)
      ·refine kq F (rtextO_sat G y.title 256 hyo.1 _) ?_
       (first | refine gq F (fun g3 => ?_) (fun g3 => ?_) | refine pq F (fun g3 => ?_) (fun g3 => ?_)) <;> (try exact g3.elim) <;> (try refine sq F ?_) <;> (refine wk F ?_)
       ·refine ee hQ F ?_
        exact bad (fun hh => by have := hh.2; unfold oneOk at this; simp [g3] at this)
       ·refine kq F (rtextO_sat G y.url 512 hyo.2.1 _) ?_
        (first | refine gq F (fun g4 => ?_) (fun g4 => ?_) | refine pq F (fun g4 => ?_) (fun g4 => ?_)) <;> (try exact g4.elim) <;> (try refine sq F ?_) <;> (refine wk F ?_)
        ·refine ee hQ F ?_
         exact bad (fun hh => by have := hh.2; unfold oneOk at this; simp [g4] at this)
        ·(first | refine gq F (fun g5 => ?_) (fun g5 => ?_) | refine pq F (fun g5 => ?_) (fun g5 => ?_)) <;> (try exact g5.elim) <;> (try refine sq F ?_) <;> (refine wk F ?_)
         ·refine cq F (fun g6 => ?_) (fun g6 => ?_) <;> (try exact g6.elim) <;> (refine wk F ?_)
          ·refine ee hQ F ?_
           exact bad (fun hh => by have := hh.2; unfold oneOk at this; simp [g5] at this; rw [this.2] at g6; simp at g6)
          ·have hk0 : y.kids = [] := List.length_eq_zero_iff.1 (by omega)
           have hok : m + 1 ≤ 512 ∧ oneOk y = true := ⟨by omega, by unfold oneOk; simp [g2, g3, g4, hk0]⟩
           rw [if_pos hok] at hp
           refine (ih (d + 1) (by omega) y.kids hyo.2.2 (m + 1) hok.1 _).mono ?_
           rintro r h' ⟨rfl, rfl⟩
           try refine sq F ?_
           refine wk F ?_
           refine cq F (fun c5 => ?_) (fun c5 => ?_) <;> (try exact c5.elim) <;> (refine wk F ?_)
           ·rw [if_neg (by simp [c5])] at hp
            refine ee hQ F ?_
            exact fin0 _ _ (by rw [← hp]) (by rw [← hp])
           ·rw [if_pos c5] at hp
            refine hK2 _ _ _ (Wkn.refl ⟨k + 1, (mayN f y.kids (m + 1)).1, rfl, hpE, ?_, ?_, by omega, (mayN_ge f y.kids (m + 1) hok.1 c5).2, hp⟩) (by omega)
            all_goals first | exact zq F | rfl | omega | trivial | skip
         ·have hu0 : y.url = [] := by simpa using g5
          have hok : m + 1 ≤ 512 ∧ oneOk y = true := ⟨by omega, by unfold oneOk; simp [g2, g3, hu0] at g4 ⊢; exact g4⟩
          rw [if_pos hok] at hp
          refine (ih (d + 1) (by omega) y.kids hyo.2.2 (m + 1) hok.1 _).mono ?_
          rintro r h' ⟨rfl, rfl⟩
          try refine sq F ?_
          refine wk F ?_
          refine cq F (fun c5 => ?_) (fun c5 => ?_) <;> (try exact c5.elim) <;> (refine wk F ?_)
          ·rw [if_neg (by simp [c5])] at hp
           refine ee hQ F ?_
           exact fin0 _ _ (by rw [← hp]) (by rw [← hp])
          ·rw [if_pos c5] at hp
           refine hK2 _ _ _ (Wkn.refl ⟨k + 1, (mayN f y.kids (m + 1)).1, rfl, hpE, ?_, ?_, by omega, (mayN_ge f y.kids (m + 1) hok.1 c5).2, hp⟩) (by omega)
           all_goals first | exact zq F | rfl | omega | trivial | skip
    ·rw [drop_nil_of c1, mayGo] at hp
     refine wk F ?_
     refine ee hQ F ?_
     exact fin0 _ _ (by rw [← hp]) (by rw [← hp]))
  exact start _ rfl
end Go.Av
namespace Go.Av
open Go Go.Proofs Go.RowKit
attribute [local irreducible] WP WPl WPix Sat
set_option maxRecDepth 100000
set_option maxHeartbeats 1000000
variable (G : Nat → Option (List AVal))
theorem PParse_sat (hG : GOk G) (hC : GClo (CT G)) (s : Bs) (hs : s.length ≤ 4194304) (h : Heap) : Sat (CT G) 10 [.str s] h (PrsR h s) := by
 have hsz : szs Tok.sz (toksF s).1 ≤ 1048576 := by have := toksF_szB s; omega
 refine sb [.cell 2 26, .tmp 3] (fn := Tryz.f10) Tryz.func10 ?_
 intro Q hQ
 refine wk trivial ?_
 refine (Tokens8_sat G hG s (by omega) _).mono ?_
 rintro r h' ⟨a, rfl, rfl⟩
 try refine sq trivial ?_
 refine wk trivial ?_
 by_cases c0 : (toksF s).2 = 0
 ·have b0 : ((toksF s).2 != 0) = false := by simpa using c0
  have F := b0
  try refine sq F ?_
  refine wk F ?_
  refine (PBuild_sat G hG hC (toksF s).1 hsz _).mono ?_
  rintro r h' ⟨e, rfl, he, hz, rfl⟩
  try refine sq F ?_
  refine wk F ?_
  refine ye hQ F ?_
  have hp : prsC s = if (bldF (toksF s).1).isSome then 0 else 90 := by unfold prsC; rw [if_pos c0]
  exact Fin.plain (.tup _ (by intro c hc; simp at hc; rcases hc with rfl | rfl; exact Elem.clo _ _; exact .int _ _)) ⟨e, by rw [hp], (fun y _ hy => he y hy), (fun hne => hz (by cases hb : bldF (toksF s).1 with | none => rfl | some x => rw [hp, hb] at hne; exact absurd rfl hne)), rfl⟩
 ·have b0 : ((toksF s).2 != 0) = true := by simpa using c0
  have F := b0
  try refine sq F ?_
  refine wk F ?_
  refine ye hQ F ?_
  exact PrsR.bad _ _ (by unfold prsC; rw [if_neg c0]) c0
end Go.Av
namespace Go.Av
open Go Go.Proofs Go.RowKit
attribute [local irreducible] WP WPl WPix Sat
set_option maxRecDepth 100000
set_option maxHeartbeats 1000000
variable (G : Nat → Option (List AVal))
def okO (l : List Outl) : Bool := decide (cntN 8 l ≤ 512)
theorem PCheckO_sat (l : List Outl) (hl : OkN 8 l) (h : Heap) : Sat (CT G) 36 [.sl 3 (l.map Outl.av)] h (fun r h' => r = .int .i64 (if okO l then 0 else 130) ∧ h' = h) := by
 have hc := cntN_le 8 l
 refine sb [.tmp 2] (fn := Tryz.f36) Tryz.func36 ?_
 intro Q hQ
 refine wk trivial ?_
 refine kq trivial (Pcount_sat G 8 1 (by omega) l hl _) ?_
 refine cq trivial (fun c1 => ?_) (fun c1 => ?_) <;> (try exact c1.elim) <;> (refine wk trivial ?_)
 ·refine ee hQ trivial ?_
  refine fR (.int _ _) ?_
  rw [if_neg (by unfold okO; simp; omega)]
 ·refine ee hQ trivial ?_
  refine fR (.int _ _) ?_
  rw [if_pos (by unfold okO; simp; omega)]
theorem rCheckO_sat (l : List Outl) (hl : OkN 8 l) (h : Heap) : Sat (CT G) 39 [.sl 3 (l.map Outl.av)] h (fun r h' => r = .bool (okO l) ∧ h' = h) := by
 have hm := (may_cnt 8 l 0 (by omega)).1
 refine sb [.tmp 2] (fn := Tryz.f39) Tryz.func39 ?_
 intro Q hQ
 refine wk trivial ?_
 refine (rmay_sat G 8 1 (by omega) l hl 0 (by omega) _).mono ?_
 rintro r h' ⟨rfl, rfl⟩
 try refine sq trivial ?_
 refine wk trivial ?_
 refine ee hQ trivial ?_
 refine fR (.bool _) ?_
 unfold okO
 congr 1
 rw [Bool.eq_iff_iff, hm]; simp
theorem deep_less : ∀ (n d : Nat), d + n = 40 → ∀ e : Elem, deep e (d + 1) ≤ 32 → deep e d ≤ 32 := by
 intro n
 induction n with
 | zero => intro d hd e he; rw [deep_eq, if_pos (by omega)] at he; omega
 | succ n ih =>
  intro d hd e he
  have h40 : ¬ 40 ≤ d + 1 := fun h => by rw [deep_eq, if_pos h] at he; omega
  rw [deep_eq, if_neg h40] at he
  have h2 := deepL_ge e.kids (d + 1) (d + 1)
  rw [deep_eq, if_neg (by omega)]
  exact deepL_up _ _ _ (by omega) fun k hk => ih (d + 1) (by omega) k (by have := h2.2 k hk; omega)
theorem cnt_sz_go (g : List Outl → Nat) (hg : ∀ l, g l ≤ 512 → szs Outl.sz l ≤ 769 * g l) : ∀ (t : List Outl) (a : Nat), t.length ≤ a → cntGo g t a ≤ 512 → szs Outl.sz t + 769 * (a - t.length) ≤ 769 * cntGo g t a
 | [], a, _, _ => by simp [szs, cntGo]
 | o :: t, a, ha, h => by
  rw [cntGo] at h ⊢
  simp only [List.length_cons] at ha ⊢
  by_cases hk : oneOk o = true
  ·rw [if_pos hk] at h ⊢
   by_cases h5 : 512 < a + g o.kids
   ·rw [if_pos h5] at h; omega
   ·rw [if_neg h5] at h ⊢
    have h1 := cnt_sz_go g hg t (a + g o.kids) (by omega) h
    have h2 := hg o.kids (by omega)
    have h3 := o.sz_eq
    unfold oneOk textO at hk
    simp only [Bool.and_eq_true, decide_eq_true_eq] at hk
    have h4 := hk.1.1.2.1.1
    have h6 := hk.1.2.1.1
    rw [szs]; omega
  ·rw [if_neg hk] at h; omega
theorem cnt_sz : ∀ (f : Nat) (l : List Outl), cntN f l ≤ 512 → szs Outl.sz l ≤ 769 * cntN f l := by
 intro f
 induction f with
 | zero =>
  intro l h
  rw [cntN] at h ⊢
  by_cases hl : l = []
  ·subst hl; simp [szs]
  ·rw [if_neg hl] at h; omega
 | succ f ih =>
  intro l h
  rw [cntN] at h ⊢
  by_cases hl : 512 < l.length
  ·rw [if_pos hl] at h; omega
  ·rw [if_neg hl] at h ⊢
   have := cnt_sz_go (cntN f) ih l l.length (Nat.le_refl _) h
   omega
def rdO (e : Elem) : List Outl := ofF 40 (kidF e bBody).1
def goodO (e : Elem) : Bool := (kidF e bBody).2 && decide (short e.name = bOpml) && okO (rdO e)
def rdF (s : Bs) : List Outl × Int :=
 if prsC s = 0 then
  match bldF (toksF s).1 with
  | none => ([], 0)
  | some e => if goodO e then (rdO e, 0) else ([], 130)
 else ([], prsC s)
def RdO (h : Heap) (s : Bs) (r : AVal) (h' : Heap) : Prop := r = .tup [.sl 3 ((rdF s).1.map Outl.av), .int .i64 (rdF s).2] ∧ h' = h
theorem prs0 {s : Bs} (h : prsC s = 0) : ∃ y, bldF (toksF s).1 = some y := by
 unfold prsC at h
 by_cases c0 : (toksF s).2 = 0
 ·rw [if_pos c0] at h
  cases hb : bldF (toksF s).1 with
  | none => rw [hb] at h; exact absurd h (by decide)
  | some y => exact ⟨y, rfl⟩
 ·rw [if_neg c0] at h; exact absurd h c0
theorem RdO.bad {h : Heap} {s : Bs} (j : Heap) (c : Int) (e : rdF s = ([], c)) : Fin h (h ++ j) (RdO h s) (.tup [.nil (.slice none 0 0), .int .i64 c]) := by
 refine Fin.frz (FrzL.tup (.cons (.nils 3) (.cons (.clo _ (.int _ _)) .nil))) ⟨?_, rfl⟩
 rw [e]; rfl
theorem rdF_bad {s : Bs} (h : prsC s ≠ 0) : rdF s = ([], prsC s) := by unfold rdF; rw [if_neg h]
theorem rdF_some {s : Bs} {e : Elem} (h : prsC s = 0) (he : bldF (toksF s).1 = some e) : rdF s = if goodO e then (rdO e, 0) else ([], 130) := by
 unfold rdF; rw [if_pos h, he]
theorem kidF_sz (e : Elem) (n : Bs) : (kidF e n).1.sz ≤ e.sz ∧ (deep e 1 ≤ 32 → deep (kidF e n).1 1 ≤ 32) := by
 have hp := e.sz_pos
 by_cases h : (kidF e n).2 = true
 ·have h1 := kidF_mem e n h
  have h2 := Elem.kid_sz h1
  exact ⟨by omega, fun hd => deep_less 39 1 rfl _ (deep_kid hd h1).2⟩
 ·have : (kidF e n).1 = ⟨[], [], [], []⟩ := by
   unfold kidF at h ⊢
   cases hq : kidsF e n with
   | nil => rfl
   | cons k l => rw [hq] at h; exact absurd rfl h
  rw [this]
  exact ⟨by show 1 ≤ _; exact hp, fun _ => by decide⟩
theorem PReadO_sat (hG : GOk G) (hC : GClo (CT G)) (s : Bs) (hs : s.length ≤ 4194304) (h : Heap) : Sat (CT G) 33 [.str s] h (RdO h s) := by
 have hsz := toksF_szB s
 refine sb [.tmp 2, .tmp 3] (fn := Tryz.f33) Tryz.func33 ?_
 intro Q hQ
 refine wk trivial ?_
 refine (PParse_sat G hG hC s (by omega) _).mono ?_
 rintro r h' ⟨e, rfl, he, hez, rfl⟩
 try refine sq trivial ?_
 refine wk trivial ?_
 by_cases c0 : prsC s = 0
 ·obtain ⟨y, hb⟩ := prs0 c0
  have hey := he y c0 hb
  subst hey
  have hes := bldF_sz hb
  have hed := bldF_deep hb
  have hnl := e.name_len
  obtain ⟨hk1, hk2⟩ := kidF_sz e bBody
  have hr := rdF_some c0 hb
  have b0 : (prsC s != 0) = false := by simpa using c0
  have F := b0
  try refine sq F ?_
  refine wk F ?_
  refine kq F (PKid_sat G e bBody (by omega) _) ?_
  (first | refine gq F (fun g1 => ?_) (fun g1 => ?_) | refine pq F (fun g1 => ?_) (fun g1 => ?_)) <;> (try exact g1.elim) <;> (try refine sq F ?_) <;> (refine wk F ?_)
  ·refine ye hQ F ?_
   exact RdO.bad _ _ (by rw [hr, if_neg (by unfold goodO; simp [g1])])
  ·refine kq F (PShort_sat G e.name (by omega) _) ?_
   refine cq F (fun g2 => ?_) (fun g2 => ?_) <;> (try exact g2.elim) <;> (refine wk F ?_)
   ·refine ye hQ F ?_
    exact RdO.bad _ _ (by rw [hr, if_neg (by unfold goodO; intro hh; simp only [Bool.and_eq_true, decide_eq_true_eq] at hh; exact g2 hh.1.2)])
   ·refine kq F (Pof_sat G 40 1 rfl (kidF e bBody).1 (hk2 hed) (by omega) _) ?_
    refine kq F (PCheckO_sat G (rdO e) (ofF_ok 8 40 _ (by omega)) _) ?_
    cases hok : okO (rdO e) with
    | true =>
     have q : rdF s = (rdO e, 0) := by rw [hr, if_pos (by unfold goodO; rw [g1, hok, g2]; simp [bOpml])]
     have n0 : ((0 : Int) != 0) = false := rfl
     have F := F2 F n0
     try refine sq F ?_
     refine wk F ?_
     refine ye hQ F ?_
     refine Fin.plain (.tup _ (by intro c hc; simp at hc; rcases hc with rfl | rfl; exact Outls.clo _ _ _; exact .int _ _)) ⟨?_, rfl⟩
     rw [q]; rfl
    | false =>
     have n1 : ((130 : Int) != 0) = true := rfl
     have F := F2 F n1
     try refine sq F ?_
     refine wk F ?_
     refine ye hQ F ?_
     exact RdO.bad _ _ (by rw [hr, if_neg (by unfold goodO; rw [hok]; simp)])
 ·have b0 : (prsC s != 0) = true := by simpa using c0
  have F := b0
  try refine sq F ?_
  refine wk F ?_
  refine ye hQ F ?_
  exact RdO.bad _ _ (rdF_bad c0)
end Go.Av
