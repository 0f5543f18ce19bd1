/- The program's outlines of an element. -/
import Derived.Test.YtjgligkejfjbpaaGreatDoorUnRl
import Derived.Test.YtjgligkejfjbpaaGreatDoorUnUb
import Derived.Test.YtjgligkejfjbpaaGreatDoorUnTf
set_option linter.unusedSimpArgs false
set_option linter.unusedVariables false
namespace Go.Av
open Go Go.Proofs Go.RowKit
attribute [local irreducible] WP WPl WPix Sat
set_option maxRecDepth 100000
set_option maxHeartbeats 1000000
variable {G : Nat → Option (List AVal)}
def ElR (h : Heap) (d : Nat) (ts : List Tok) (r : AVal) (h' : Heap) : Prop :=
 ∃ (e : Elem) (n : Int), r = .tup [e.av, .int .i64 n, .bool (elF d ts).isSome] ∧ (∀ q, elF d ts = some q → e = q.1 ∧ n = (ts.length - q.2.length : Nat)) ∧ (0 ≤ n ∧ n ≤ ts.length) ∧ h' = h
theorem ElR.bad {h : Heap} {d : Nat} {ts : List Tok} (j : Heap) (e : elF d ts = none) : Fin h (h ++ j) (ElR h d ts) (.tup [.agg [.str [], .nil (.slice none 0 0), .str [], .nil (.slice none 0 0)], .int .i64 0, .bool false]) := by
 have z : Frz (h ++ j) h.length (.agg [.str [], .nil (.slice none 0 0), .str [], .nil (.slice none 0 0)]) (Elem.av ⟨[], [], [], []⟩) := by
  rw [Elem.av_eq]
  exact FrzL.agg (.cons (.clo _ (.str _)) (.cons (.nils 2) (.cons (.clo _ (.str _)) (.cons (.nils 4) .nil)))) rfl
 exact Fin.frz (FrzL.tup (.cons z (.cons (.clo _ (.int _ _)) (.cons (.clo _ (.bool _)) .nil)))) ⟨_, 0, by rw [e]; rfl, (fun q hq => by rw [e] at hq; cases hq), ⟨by omega, by omega⟩, rfl⟩
theorem wpOperV_alloc {C : Ctx} {ops : Array Oper} {e : TypeId} {ty : TypeId} {pos : String} {aft : Array Edge} {dst : Option Tmp} {t : Env} {h : Heap} {K : AVal → Heap → Prop} :
  wpOperV C ops ⟨dst, .alloc e, ty, pos, aft, none⟩ t h K = need (zroT C.P e) fun z => 0 < z.cells.length ∧ z.cells.all AVal.sto = true ∧ z.lies = true ∧ K (.hp h.length 0 0 0) (h ++ [.row e z.cells.length 0 [z]]) := rfl
theorem aslice_slF {P : Program} {h : Heap} {T e n i : Nat} {es : List AVal} {k : IntKind} (he : elmT P T = some e) (hn : szOf P e = some n) (hi : i ≤ es.length) : aslice P h T (.sl n es) (some (.int k (i : Int))) none none = some (.sl n (es.drop i)) := by
 simp only [aslice, he, hn, optInt, Option.isNone_none, if_true]
 rw [if_pos ⟨by omega, by omega, by omega⟩]
 simp
theorem szs_drop {α : Type} (f : α → Nat) (hf : ∀ a, 1 ≤ f a) : ∀ (l : List α) (m : Nat), m ≤ l.length → szs f (l.drop m) + m ≤ szs f l
 | _, 0, _ => by simp
 | [], m + 1, h => by simp at h
 | a :: l, m + 1, h => by
  have := szs_drop f hf l m (by simpa using h)
  have := hf a
  simp only [List.drop_succ_cons, szs]; omega
theorem relem_sat : ∀ (d : Nat) (ts : List Tok) (dep : Int), szs Tok.sz ts ≤ 1048576 → 0 ≤ dep → dep + d = 33 → ∀ h : Heap, Sat (CT G) 83 [.sl 4 (ts.map Tok.av), .int .i64 dep] h (ElR h d ts) := by
 intro d
 induction d with
 | zero =>
  intro ts dep hsz h0 hd h
  have he : elF 0 ts = none := by cases ts with | nil => rfl | cons t ts => rw [elF_cons]; simp
  have hlen := szs_len Tok.sz Tok.sz_pos ts
  have b3 : decide (dep > 32) = true := by simp; omega
  by_cases hnil : ts = []
  ·subst hnil
   have F := b3
   refine sb [.cell 4 26, .tmp 5, .tmp 6] (fn := Tryz.f83) Tryz.func83 ?_
   intro Q hQ
   refine wk F ?_
   try refine sq F ?_
   refine wk F ?_
   refine ye hQ F ?_
   exact ElR.bad _ he
  ·have hpos : 0 < ts.length := List.length_pos_iff.2 hnil
   obtain ⟨t, hc0, hcm⟩ := getElem?_of_lt hpos
   have b1 : ((ts.length : Int) == 0) = false := by simp; omega
   cases b2 : (t.1 != 1) with
   | true =>
    have F := F4 hc0 b1 b2 b3
    refine sb [.cell 4 26, .tmp 5, .tmp 6] (fn := Tryz.f83) Tryz.func83 ?_
    intro Q hQ
    refine wk F ?_
    try refine sq F ?_
    refine wk F ?_
    refine ye hQ F ?_
    exact ElR.bad _ he
   | false =>
    have F := F4 hc0 b1 b2 b3
    refine sb [.cell 4 26, .tmp 5, .tmp 6] (fn := Tryz.f83) Tryz.func83 ?_
    intro Q hQ
    refine wk F ?_
    try refine sq F ?_
    refine wk F ?_
    refine ye hQ F ?_
    exact ElR.bad _ he
 | succ d ih =>
  intro ts dep hsz h0 hd h
  have hlen := szs_len Tok.sz Tok.sz_pos ts
  by_cases hnil : ts = []
  ·subst hnil
   have he : elF (d + 1) [] = none := rfl
   refine sb [.cell 4 26, .tmp 5, .tmp 6] (fn := Tryz.f83) Tryz.func83 ?_
   intro Q hQ
   refine wk trivial ?_
   try refine sq trivial ?_
   refine wk trivial ?_
   refine ye hQ trivial ?_
   exact ElR.bad _ he
  have hpos : 0 < ts.length := List.length_pos_iff.2 hnil
  obtain ⟨t, hc0, hcm⟩ := getElem?_of_lt hpos
  obtain ⟨tr, htr⟩ : ∃ tr, ts = t :: tr := by
   cases ts with
   | nil => cases hc0
   | cons a r => simp at hc0; subst hc0; exact ⟨r, rfl⟩
  have b1 : ((ts.length : Int) == 0) = false := by simp; omega
  by_cases hk : t.1 = 1
  ·have b2 : (t.1 != 1) = false := by simpa using hk
   have b3 : decide (dep > 32) = false := by simp; omega
   have hel : elF (d + 1) ts = elL (tr.length + 1) d t.2.1 t.2.2.1 [] [] tr := by rw [htr, elF_cons, if_pos hk, if_neg (by omega)]; rfl
   have F := F4 hc0 b1 b2 b3
   skip
   refine sb [.cell 4 26, .tmp 5, .tmp 6] (fn := Tryz.f83) Tryz.func83 ?_
   intro Q hQ
   refine wn F ?_
   try refine sq F ?_
   refine wn F ?_
   refine WP_draw5 9 9 _ (by rfl) (by decide +kernel) (by kernel_rfl) (by decide +kernel) (by decide +kernel) (by decide +kernel) ?_
   simp only [List.take_succ_cons, List.take_zero]
   refine sq F ?_
   refine wn F ?_
   skip
   rw [wpOperV_alloc]
   simp (disch := first | omega | (simp only [go_sem, ↓reduceIte, seval]; first | done | omega) | fail) only [go_sem, ↓reduceIte, seval, F]
   try refine sq F ?_
   refine wk F ?_
   refine lm (fun nL tL hL => ∃ (i v : Nat) (x : Bs) (k : List Elem) (jj : Heap), ts.length - i = nL ∧ h ++ .row 26 4 0 [.agg [.str [], .nil (.slice none 0 0), .str [], .nil (.slice none 0 0)]] :: .row 26 4 0 [.agg [.str t.2.1, .sl 2 (t.2.2.1.map At.av), .str x, .hs (h.length + 2) v 0 k.length true]] :: .row 26 4 v (k.map Elem.av) :: jj = hL ∧ tL 4 = .hp h.length 0 0 0 ∧ tL 7 = .hp (h.length + 1) 0 0 0 ∧ tL 8 = .int .i64 i ∧ i ≤ ts.length ∧ elL (ts.length - i + 1) d t.2.1 t.2.2.1 x k (ts.drop i) = elF (d + 1) ts ∧ x.length + k.length + szs Tok.sz (ts.drop i) ≤ szs Tok.sz ts) ((fun (i v : Nat) (x : Bs) (k : List Elem) (jj : Heap) => (ts.length - i : Nat)) (1) (0) ([]) ([]) ([])) ?_ ?_
   ·refine ⟨_, _, Weak.virtCell (p := h.length + 1) (v := 0) 26 4 (by omega) (by simp (disch := first | omega | (simp only [go_sem, ↓reduceIte, seval]; first | done | omega) | fail) only [go_sem, ↓reduceIte, seval, F]; rfl) 3 rfl, ⟨1, 0, [], [], [], rfl, (by simp), ?_, ?_, ?_, by omega, by rw [hel, htr]; simp, by rw [htr]; simp [szs]⟩⟩
    all_goals first | exact zq F | rfl | omega | trivial | skip
   rintro _ s2 h' ⟨i, v, x, k, jj, rfl, rfl, e4, e7, e8, hi, hp, hz⟩ K2 hK2
   simp only [mix_cons, mix_nil, Nat.reduceEqDiff, ↓reduceIte] at e4 e7 e8
   have F := F4 F e4 e7 e8
   refine wk F ?_
   refine cq F (fun c1 => ?_) (fun c1 => ?_) <;> (try exact c1.elim) <;> (refine wk F ?_)
   ·obtain ⟨y, hy, hym⟩ := getElem?_of_lt c1
    have hdr := drop_cons_of hy
    rw [hdr, elL_cons _ _ _ _ _ _ _ _ (by rw [List.length_drop]; omega)] at hp
    have ef : ts.length - (i + 1) + 1 = ts.length - i := by omega
    have hzk := hz
    rw [hdr] at hz
    simp only [szs] at hz
    have hys : Tok.sz y = 1 + y.2.1.length + szs At.sz y.2.2.1 + y.2.2.2.length := rfl
    have F := F2 F hy
    by_cases k3 : y.1 = 3
    ·have q3 : (y.1 == 3) = true := by simpa using k3
     rw [if_pos k3] at hp
     have F := F2 F q3
     try refine sq F ?_
     refine wk F ?_
     refine hK2 _ _ _ (Wkn.refl ⟨i + 1, v, x ++ y.2.2.2, k, jj, rfl, by simp, ?_, ?_, ?_, by omega, by rw [ef]; exact hp, by simp; omega⟩) (by omega)
     all_goals first | exact zq F | rfl | omega | trivial | skip
    ·have q3 : (y.1 == 3) = false := by simpa using k3
     rw [if_neg k3] at hp
     by_cases k1 : y.1 = 1
     ·have q1 : (y.1 == 1) = true := by simpa using k1
      rw [if_pos k1] at hp
      have hsl : ∀ j, aslice Tryz.prog j 42 (.sl 4 (ts.map Tok.av)) (some (.int .i64 (i : Int))) none none = some (.sl 4 ((ts.drop i).map Tok.av)) := fun j => by
       rw [List.map_drop]; exact aslice_slF (by simp only [go_sem]; rfl) (by simp only [go_sem]) (by simp; omega)
      rw [← hdr] at hp
      have F := F4 F q3 q1 hsl
      try refine sq F ?_
      refine wk F ?_
      refine (ih (ts.drop i) (dep + 1) (by omega) (by omega) (by omega) _).mono ?_
      rintro r h' ⟨e, n, rfl, hg, _, rfl⟩
      simp (disch := first | omega | (simp only [go_sem, ↓reduceIte, seval]; first | done | omega) | fail) only [go_sem, ↓reduceIte, seval, F]
      refine wk F ?_
      cases hq : elF d (ts.drop i) with
      | none =>
       rw [hq] at hp
       have hno : (none : Option (Elem × List Tok)).isSome = false := rfl
       have F := F2 F hno
       try refine sq F ?_
       refine wk F ?_
       refine ye hQ F ?_
       exact ElR.bad _ hp.symm
      | some q =>
       obtain ⟨rfl, rfl⟩ := hg q hq
       rw [hq] at hp
       have hsf := elF_suf hq
       have hm : ∃ m, m = (ts.drop i).length - q.2.length := ⟨_, rfl⟩
       obtain ⟨m, hm⟩ := hm
       rw [← hm] at hsf ⊢
       have hdl : (ts.drop i).length = ts.length - i := List.length_drop
       have hm1 : 1 ≤ m := by omega
       have hsd := szs_drop Tok.sz Tok.sz_pos (ts.drop i) m (by omega)
       have hq2 : q.2 = ts.drop (i + m) := by rw [hsf.2, List.drop_drop]
       rw [List.drop_drop] at hsd
       simp only [Option.bind_some] at hp
       rw [hq2, elL_fuel _ (ts.length - (i + m) + 1) _ _ _ _ _ _ (by rw [List.length_drop]; omega) (by rw [List.length_drop]; omega)] at hp
       try refine sq F ?_
       refine wk F ?_
       refine aq F ?_
       try refine sq F ?_
       refine wk F ?_
       have him : (i : Int) + (m : Int) = ((i + m : Nat) : Int) := by omega
       rw [him]
       refine hK2 _ _ _ (Wkn.refl ⟨i + m, v + 1, x, k ++ [q.1], jj ++ [.row 26 4 0 [q.1.av]], rfl, by simp, ?_, ?_, ?_, by omega, hp, by simp; omega⟩) (by omega)
       all_goals first | exact zq F | rfl | omega | trivial | skip
     ·have q1 : (y.1 == 1) = false := by simpa using k1
      rw [if_neg k1] at hp
      by_cases k2 : y.1 = 2
      ·have q2 : (y.1 == 2) = true := by simpa using k2
       rw [if_pos k2] at hp
       have F := F4 F q3 q1 q2
       try refine sq F ?_
       refine wk F ?_
       refine WP_draw7 11 _ (by rfl) rfl (by decide +kernel) (mix_y G) ?_
       simp only [List.set_cons_succ, List.set_cons_zero, nopO]
       refine sq F ?_
       refine wk F ?_
       rw [wpOperV_store]
       simp (disch := first | omega | (simp only [go_sem, ↓reduceIte, seval]; first | done | omega) | fail) only [go_sem, ↓reduceIte, seval, F]
       refine wk F ?_
       refine ye hQ F ?_
       have z : ∀ hh : Heap, getRow hh (h.length + 2) v = some (26, 4, k.map Elem.av) → Frz hh h.length (.agg [.str t.2.1, .sl 2 (t.2.2.1.map At.av), .str x, .hs (h.length + 2) v 0 k.length true]) (Elem.av ⟨t.2.1, t.2.2.1, x, k⟩) := fun hh hg => by
        rw [Elem.av_eq]
        exact FrzL.agg (.cons (.clo _ (.str _)) (.cons (.clo _ (Ats.clo _ 2 _)) (.cons (.clo _ (.str _)) (.cons (Frz.data (by omega) hg (by simp [Elem.kids]) (fun r hr => by obtain ⟨a, _, rfl⟩ := List.mem_map.1 hr; exact Elem.clo _ a) (fun r hr => by obtain ⟨a, _, rfl⟩ := List.mem_map.1 hr; exact a.av_sto)) .nil)))) rfl
       refine Fin.frz (FrzL.tup (.cons (z _ ?_) (.cons (.clo _ (.int _ _)) (.cons (.clo _ (.bool _)) .nil)))) ⟨⟨t.2.1, t.2.2.1, x, k⟩, (i + 1 : Nat), ?_, ?_, ⟨by omega, by omega⟩, rfl⟩
       ·exact zq F
       ·rw [← hp]
        by_cases hnm : y.2.1 = t.2.1
        ·rw [if_pos hnm]; simp [hnm]
        ·rw [if_neg hnm]; simp [hnm]
       ·intro q hq
        rw [← hp] at hq
        by_cases hnm : y.2.1 = t.2.1
        ·rw [if_pos hnm] at hq; cases hq
         exact ⟨rfl, by rw [List.length_drop]; omega⟩
        ·rw [if_neg hnm] at hq; cases hq
      ·have q2 : (y.1 == 2) = false := by simpa using k2
       rw [if_neg k2] at hp
       have F := F4 F q3 q1 q2
       try refine sq F ?_
       refine wk F ?_
       refine ye hQ F ?_
       exact ElR.bad _ hp.symm
   ·have : ts.drop i = [] := drop_nil_of c1
    rw [this, elL_nil] at hp
    refine wk F ?_
    refine ye hQ F ?_
    exact ElR.bad _ hp.symm
  ·have b2 : (t.1 != 1) = true := by simpa using hk
   have he : elF (d + 1) ts = none := by rw [htr, elF_cons, if_neg hk]
   have F := F3 hc0 b1 b2
   refine sb [.cell 4 26, .tmp 5, .tmp 6] (fn := Tryz.f83) Tryz.func83 ?_
   intro Q hQ
   refine wk F ?_
   try refine sq F ?_
   refine wk F ?_
   refine ye hQ F ?_
   exact ElR.bad _ he
end Go.Av
namespace Go.Av
open Go Go.Proofs Go.RowKit
attribute [local irreducible] WP WPl WPix Sat
set_option maxRecDepth 100000
set_option maxHeartbeats 1000000
variable {G : Nat → Option (List AVal)}
def bldF (ts : List Tok) : Option Elem := (elF 32 (ts.dropWhile blankT)).bind fun q => if q.2.dropWhile blankT = [] then some q.1 else none
def BldR (h : Heap) (ts : List Tok) (r : AVal) (h' : Heap) : Prop :=
 ∃ e : Elem, r = .tup [e.av, .bool (bldF ts).isSome] ∧ (∀ x, bldF ts = some x → e = x) ∧ h' = h
theorem BldR.bad {h : Heap} {ts : List Tok} (j : Heap) (e : bldF ts = none) : Fin h (h ++ j) (BldR h ts) (.tup [.agg [.str [], .nil (.slice none 0 0), .str [], .nil (.slice none 0 0)], .bool false]) := by
 have z : Frz (h ++ j) h.length (.agg [.str [], .nil (.slice none 0 0), .str [], .nil (.slice none 0 0)]) (Elem.av ⟨[], [], [], []⟩) := by
  rw [Elem.av_eq]
  exact FrzL.agg (.cons (.clo _ (.str _)) (.cons (.nils 2) (.cons (.clo _ (.str _)) (.cons (.nils 4) .nil)))) rfl
 exact Fin.frz (FrzL.tup (.cons z (.cons (.clo _ (.bool _)) .nil))) ⟨_, by rw [e]; rfl, (fun q hq => by rw [e] at hq; cases hq), rfl⟩
theorem rBuild_sat (ts : List Tok) (hsz : szs Tok.sz ts ≤ 1048576) (h : Heap) : Sat (CT G) 47 [.sl 4 (ts.map Tok.av)] h (BldR h ts) := by
 have hlen := szs_len Tok.sz Tok.sz_pos ts
 refine sb [.cell 2 26, .tmp 3] (fn := Tryz.f47) Tryz.func47 ?_
 intro Q hQ
 refine wk trivial ?_
 refine lm (fun nL tL hL => ∃ (i : Nat), ts.length - i = nL ∧ h ++ [.row 26 4 0 [.agg [.str [], .nil (.slice none 0 0), .str [], .nil (.slice none 0 0)]]] = hL ∧ tL 2 = .hp h.length 0 0 0 ∧ tL 4 = .int .i64 i ∧ i ≤ ts.length ∧ (ts.drop i).dropWhile blankT = ts.dropWhile blankT) ((fun (i : Nat) => (ts.length - i : Nat)) (0)) ?_ ?_
 ·refine Wkn.refl ⟨0, rfl, hpE, ?_, ?_, by omega, by simp⟩
  all_goals first | exact zq trivial | rfl | omega | trivial | skip
 rintro _ s2 h' ⟨i, rfl, rfl, e2, e4, hi, hq⟩ K2 hK2
 simp only [mix_cons, mix_nil, Nat.reduceEqDiff, ↓reduceIte] at e2 e4
 have F := F2 e2 e4
 refine wk F ?_
 by_cases c1 : i < ts.length
 ·obtain ⟨y, hy, hym⟩ := getElem?_of_lt c1
  have b1 : decide (i < ts.length) = true := by simpa using c1
  have hdr := drop_cons_of hy
  have hyl := szs_txt hym
  have F := F3 F hy b1
  try refine sq F ?_
  refine wk F ?_
  cases hb : blankT y with
  | true =>
   rw [hdr, List.dropWhile_cons, if_pos hb] at hq
   refine (rblankT_sat y (by omega) _).mono ?_
   rintro r h' ⟨rfl, rfl⟩
   rw [hb]
   try refine sq F ?_
   refine wk F ?_
   refine hK2 _ _ _ (Wkn.refl ⟨i + 1, rfl, hpE, ?_, ?_, by omega, hq⟩) (by omega)
   all_goals first | exact zq F | rfl | omega | trivial | skip
  | false =>
   have hq' : ts.dropWhile blankT = ts.drop i := by rw [← hq, hdr, List.dropWhile_cons, if_neg (by simp [hb])]
   refine (rblankT_sat y (by omega) _).mono ?_
   rintro r h' ⟨rfl, rfl⟩
   rw [hb]
   try refine sq F ?_
   refine wk F ?_
   have hsl : ∀ j, aslice Tryz.prog j 42 (.sl 4 (ts.map Tok.av)) (some (.int .i64 (i : Int))) none none = some (.sl 4 ((ts.drop i).map Tok.av)) := fun j => by
    rw [List.map_drop]; exact aslice_slF (by simp only [go_sem]; rfl) (by simp only [go_sem]) (by simp; omega)
   have hsd := szs_drop Tok.sz Tok.sz_pos ts i hi
   have F := F2 F hsl
   try refine sq F ?_
   refine wk F ?_
   refine (relem_sat 32 (ts.drop i) 1 (by omega) (by omega) (by omega) _).mono ?_
   rintro r h' ⟨e, n, rfl, hg, hn, rfl⟩
   try refine sq F ?_
   refine wk F ?_
   have hlen2 : (ts.drop i).length = ts.length - i := List.length_drop
   obtain ⟨n, rfl⟩ : ∃ m : Nat, n = m := ⟨n.toNat, by omega⟩
   have hin : i + n ≤ ts.length := by omega
   have him : (i : Int) + (n : Int) = ((i + n : Nat) : Int) := by omega
   rw [him]
   refine lm (fun nL tL hL => ∃ (j : Nat), ts.length - j = nL ∧ h ++ [.row 26 4 0 [.agg [.str [], .nil (.slice none 0 0), .str [], .nil (.slice none 0 0)]], .row 26 4 0 [e.av]] = hL ∧ tL 4 = .int .i64 j ∧ j ≤ ts.length ∧ (ts.drop j).dropWhile blankT = (ts.drop (i + n)).dropWhile blankT) ((fun (j : Nat) => (ts.length - j : Nat)) ((i + n))) ?_ ?_
   ·refine Wkn.refl ⟨(i + n), rfl, hpE, ?_, by omega, rfl⟩
    all_goals first | exact zq F | rfl | omega | trivial | skip
   rintro _ s3 h' ⟨j, rfl, rfl, e4, hj, hq2⟩ K3 hK3
   simp only [mix_cons, mix_nil, Nat.reduceEqDiff, ↓reduceIte] at e4
   have F := F2 F e4
   refine wk F ?_
   have hbl : ∀ q, elF 32 (ts.drop i) = some q → q.2 = ts.drop (i + n) ∧ e = q.1 := fun q hqq => by
    obtain ⟨g1, g2⟩ := hg q hqq
    have g3 := elF_suf hqq
    refine ⟨?_, g1⟩
    have e9 : i + ((ts.drop i).length - q.2.length) = i + n := by omega
    rw [g3.2, List.drop_drop, e9]
   by_cases d1 : j < ts.length
   ·obtain ⟨y2, hy2, hym2⟩ := getElem?_of_lt d1
    have b2 : decide (j < ts.length) = true := by simpa using d1
    have hdr2 := drop_cons_of hy2
    have hyl2 := szs_txt hym2
    have F := F3 F hy2 b2
    try refine sq F ?_
    refine wk F ?_
    cases hb2 : blankT y2 with
    | true =>
     rw [hdr2, List.dropWhile_cons, if_pos hb2] at hq2
     refine (rblankT_sat y2 (by omega) _).mono ?_
     rintro r h' ⟨rfl, rfl⟩
     rw [hb2]
     try refine sq F ?_
     refine wk F ?_
     refine hK3 _ _ _ (Wkn.refl ⟨j + 1, rfl, hpE, ?_, by omega, hq2⟩) (by omega)
     all_goals first | exact zq F | rfl | omega | trivial | skip
    | false =>
     have hno : bldF ts = none := by
      unfold bldF
      rw [hq']
      cases hqe : elF 32 (ts.drop i) with
      | none => rfl
      | some q =>
       rw [Option.bind_some, (hbl q hqe).1, ← hq2, hdr2, List.dropWhile_cons, if_neg (by simp [hb2])]
     refine (rblankT_sat y2 (by omega) _).mono ?_
     rintro r h' ⟨rfl, rfl⟩
     rw [hb2]
     try refine sq F ?_
     refine wk F ?_
     have no1 : (none : Option (Elem × List Tok)).isSome = false := rfl
     cases hqe : elF 32 (ts.drop i) with
     | none =>
      have F := F2 F no1
      try refine sq F ?_
      refine wk F ?_
      refine ye hQ F ?_
      exact BldR.bad _ hno
     | some q =>
      try refine sq F ?_
      refine wk F ?_
      refine ye hQ F ?_
      exact BldR.bad _ hno
   ·have b2 : decide (j < ts.length) = false := by simpa using d1
    have F := F2 F b2
    try refine sq F ?_
    refine wk F ?_
    have no1 : (none : Option (Elem × List Tok)).isSome = false := rfl
    cases hqe : elF 32 (ts.drop i) with
    | none =>
     have hno : bldF ts = none := by unfold bldF; rw [hq', hqe]; rfl
     have F := F2 F no1
     try refine sq F ?_
     refine wk F ?_
     refine ye hQ F ?_
     exact BldR.bad _ hno
    | some q =>
     have hyes : bldF ts = some q.1 := by
      unfold bldF
      rw [hq', hqe, Option.bind_some, (hbl q hqe).1, ← hq2, List.drop_eq_nil_of_le (by omega)]; rfl
     obtain rfl := (hbl q hqe).2
     try refine sq F ?_
     refine wk F ?_
     refine ye hQ F ?_
     exact Fin.plain (.tup _ (by intro c hc; simp at hc; rcases hc with rfl | rfl; exact Elem.clo _ _; exact .bool _)) ⟨q.1, by rw [hyes]; rfl, (fun x hx => by rw [hyes] at hx; cases hx; rfl), rfl⟩
 ·have b1 : decide (i < ts.length) = false := by simpa using c1
  have F := F2 F b1
  try refine sq F ?_
  refine wk F ?_
  have hq' : ts.dropWhile blankT = ts.drop i := by rw [← hq, List.drop_eq_nil_of_le (by omega)]; rfl
  have hsl : ∀ j, aslice Tryz.prog j 42 (.sl 4 (ts.map Tok.av)) (some (.int .i64 (i : Int))) none none = some (.sl 4 ((ts.drop i).map Tok.av)) := fun j => by
   rw [List.map_drop]; exact aslice_slF (by simp only [go_sem]; rfl) (by simp only [go_sem]) (by simp; omega)
  have hsd := szs_drop Tok.sz Tok.sz_pos ts i hi
  have F := F2 F hsl
  try refine sq F ?_
  refine wk F ?_
  refine (relem_sat 32 (ts.drop i) 1 (by omega) (by omega) (by omega) _).mono ?_
  rintro r h' ⟨e, n, rfl, hg, hn, rfl⟩
  try refine sq F ?_
  refine wk F ?_
  have hlen2 : (ts.drop i).length = ts.length - i := List.length_drop
  obtain ⟨n, rfl⟩ : ∃ m : Nat, n = m := ⟨n.toNat, by omega⟩
  have hin : i + n ≤ ts.length := by omega
  have him : (i : Int) + (n : Int) = ((i + n : Nat) : Int) := by omega
  rw [him]
  refine lm (fun nL tL hL => ∃ (j : Nat), ts.length - j = nL ∧ h ++ [.row 26 4 0 [.agg [.str [], .nil (.slice none 0 0), .str [], .nil (.slice none 0 0)]], .row 26 4 0 [e.av]] = hL ∧ tL 4 = .int .i64 j ∧ j ≤ ts.length ∧ (ts.drop j).dropWhile blankT = (ts.drop (i + n)).dropWhile blankT) ((fun (j : Nat) => (ts.length - j : Nat)) ((i + n))) ?_ ?_
  ·refine Wkn.refl ⟨(i + n), rfl, hpE, ?_, by omega, rfl⟩
   all_goals first | exact zq F | rfl | omega | trivial | skip
  rintro _ s3 h' ⟨j, rfl, rfl, e4, hj, hq2⟩ K3 hK3
  simp only [mix_cons, mix_nil, Nat.reduceEqDiff, ↓reduceIte] at e4
  have F := F2 F e4
  refine wk F ?_
  have hbl : ∀ q, elF 32 (ts.drop i) = some q → q.2 = ts.drop (i + n) ∧ e = q.1 := fun q hqq => by
   obtain ⟨g1, g2⟩ := hg q hqq
   have g3 := elF_suf hqq
   refine ⟨?_, g1⟩
   have e9 : i + ((ts.drop i).length - q.2.length) = i + n := by omega
   rw [g3.2, List.drop_drop, e9]
  by_cases d1 : j < ts.length
  ·obtain ⟨y2, hy2, hym2⟩ := getElem?_of_lt d1
   have b2 : decide (j < ts.length) = true := by simpa using d1
   have hdr2 := drop_cons_of hy2
   have hyl2 := szs_txt hym2
   have F := F3 F hy2 b2
   try refine sq F ?_
   refine wk F ?_
   cases hb2 : blankT y2 with
   | true =>
    rw [hdr2, List.dropWhile_cons, if_pos hb2] at hq2
    refine (rblankT_sat y2 (by omega) _).mono ?_
    rintro r h' ⟨rfl, rfl⟩
    rw [hb2]
    try refine sq F ?_
    refine wk F ?_
    refine hK3 _ _ _ (Wkn.refl ⟨j + 1, rfl, hpE, ?_, by omega, hq2⟩) (by omega)
    all_goals first | exact zq F | rfl | omega | trivial | skip
   | false =>
    have hno : bldF ts = none := by
     unfold bldF
     rw [hq']
     cases hqe : elF 32 (ts.drop i) with
     | none => rfl
     | some q =>
      rw [Option.bind_some, (hbl q hqe).1, ← hq2, hdr2, List.dropWhile_cons, if_neg (by simp [hb2])]
    refine (rblankT_sat y2 (by omega) _).mono ?_
    rintro r h' ⟨rfl, rfl⟩
    rw [hb2]
    try refine sq F ?_
    refine wk F ?_
    have no1 : (none : Option (Elem × List Tok)).isSome = false := rfl
    cases hqe : elF 32 (ts.drop i) with
    | none =>
     have F := F2 F no1
     try refine sq F ?_
     refine wk F ?_
     refine ye hQ F ?_
     exact BldR.bad _ hno
    | some q =>
     try refine sq F ?_
     refine wk F ?_
     refine ye hQ F ?_
     exact BldR.bad _ hno
  ·have b2 : decide (j < ts.length) = false := by simpa using d1
   have F := F2 F b2
   try refine sq F ?_
   refine wk F ?_
   have no1 : (none : Option (Elem × List Tok)).isSome = false := rfl
   cases hqe : elF 32 (ts.drop i) with
   | none =>
    have hno : bldF ts = none := by unfold bldF; rw [hq', hqe]; rfl
    have F := F2 F no1
    try refine sq F ?_
    refine wk F ?_
    refine ye hQ F ?_
    exact BldR.bad _ hno
   | some q =>
    have hyes : bldF ts = some q.1 := by
     unfold bldF
     rw [hq', hqe, Option.bind_some, (hbl q hqe).1, ← hq2, List.drop_eq_nil_of_le (by omega)]; rfl
    obtain rfl := (hbl q hqe).2
    try refine sq F ?_
    refine wk F ?_
    refine ye hQ F ?_
    exact Fin.plain (.tup _ (by intro c hc; simp at hc; rcases hc with rfl | rfl; exact Elem.clo _ _; exact .bool _)) ⟨q.1, by rw [hyes]; rfl, (fun x hx => by rw [hyes] at hx; cases hx; rfl), rfl⟩
end Go.Av
namespace Go.Av
open Go Go.Proofs Go.RowKit
attribute [local irreducible] WP WPl WPix Sat
set_option maxRecDepth 100000
set_option maxHeartbeats 1000000
variable {G : Nat → Option (List AVal)}
def prsC (s : Bs) : Int := if (toksF s).2 = 0 then (if (bldF (toksF s).1).isSome then 0 else 90) else (toksF s).2
def PrsR (h : Heap) (s : Bs) (r : AVal) (h' : Heap) : Prop :=
 ∃ e : Elem, r = .tup [e.av, .int .i64 (prsC s)] ∧ (∀ x, prsC s = 0 → bldF (toksF s).1 = some x → e = x) ∧ (prsC s ≠ 0 → e = ⟨[], [], [], []⟩) ∧ h' = h
theorem PrsR.bad {h : Heap} {s : Bs} (j : Heap) (c : Int) (e : prsC s = c) (hc : c ≠ 0) : Fin h (h ++ j) (PrsR h s) (.tup [.agg [.str [], .nil (.slice none 0 0), .str [], .nil (.slice none 0 0)], .int .i64 c]) := by
 have z : Frz (h ++ j) h.length (.agg [.str [], .nil (.slice none 0 0), .str [], .nil (.slice none 0 0)]) (Elem.av ⟨[], [], [], []⟩) := by
  rw [Elem.av_eq]
  exact FrzL.agg (.cons (.clo _ (.str _)) (.cons (.nils 2) (.cons (.clo _ (.str _)) (.cons (.nils 4) .nil)))) rfl
 exact Fin.frz (FrzL.tup (.cons z (.cons (.clo _ (.int _ _)) .nil))) ⟨_, by rw [e], (fun x hx => by rw [e] at hx; exact absurd hx hc), fun _ => rfl, rfl⟩
theorem toksF_sz (s : Bs) : szs Tok.sz (toksF s).1 ≤ 10 * s.length := by
 unfold toksF
 split
 ·simp [szs]
 ·have := tksF_sz (s.length + 1) s []; simpa [szs] using this
theorem toksF_szB (s : Bs) : szs Tok.sz (toksF s).1 ≤ 655360 := by
 have h := toksF_sz s
 by_cases hs : 65536 < s.length
 ·unfold toksF; rw [if_pos hs]; simp [szs]
 ·omega
theorem rParse_sat (hG : GOk G) (hC : GClo (CT G)) (s : Bs) (hs : s.length ≤ 100000) (h : Heap) : Sat (CT G) 11 [.str s] h (PrsR h s) := by
 have hsz : szs Tok.sz (toksF s).1 ≤ 1048576 := by have := toksF_sz s; omega
 refine sb [.cell 2 26, .tmp 3] (fn := Tryz.f11) Tryz.func11 ?_
 intro Q hQ
 refine wk trivial ?_
 refine (rTokens_sat hG hC s (by omega) _).mono ?_
 rintro r h' ⟨a, rfl, rfl⟩
 try refine sq trivial ?_
 refine wk trivial ?_
 by_cases c0 : (toksF s).2 = 0
 ·have b0 : ((toksF s).2 != 0) = false := by simpa using c0
  have F := b0
  try refine sq F ?_
  refine wk F ?_
  refine (rBuild_sat (toksF s).1 hsz _).mono ?_
  rintro r h' ⟨e, rfl, he, rfl⟩
  try refine sq F ?_
  refine wk F ?_
  cases hb : bldF (toksF s).1 with
  | none =>
   have no1 : (none : Option Elem).isSome = false := rfl
   have F := F2 F no1
   try refine sq F ?_
   refine wk F ?_
   refine ye hQ F ?_
   exact PrsR.bad _ 90 (by unfold prsC; rw [if_pos c0, hb]; rfl) (by omega)
  | some x =>
   have hp : prsC s = 0 := by unfold prsC; rw [if_pos c0, hb]; rfl
   try refine sq F ?_
   refine wk F ?_
   refine ye hQ F ?_
   exact Fin.plain (.tup _ (by intro c hc; simp at hc; rcases hc with rfl | rfl; exact Elem.clo _ _; exact .int _ _)) ⟨e, by rw [hp], (fun y _ hy => he y hy), (fun hne => absurd hp hne), rfl⟩
 ·have b0 : ((toksF s).2 != 0) = true := by simpa using c0
  have F := b0
  try refine sq F ?_
  refine wk F ?_
  refine ye hQ F ?_
  exact PrsR.bad _ _ (by unfold prsC; rw [if_neg c0]) c0
end Go.Av
namespace Go.Av
open Go Go.Proofs Go.RowKit
attribute [local irreducible] WP WPl WPix Sat
set_option maxRecDepth 100000
set_option maxHeartbeats 1000000
variable (G : Nat → Option (List AVal))
def bA (s : Bs) (i : Nat) : Nat := (s.getD i 0).toNat
theorem bA_lt (s : Bs) (i : Nat) : bA s i < 256 := UInt8.toNat_lt _
theorem bA_eq {s : Bs} {i : Nat} {c : UInt8} (h : s[i]? = some c) : bA s i = c.toNat := by unfold bA; rw [List.getD_eq_getElem?_getD, h]; rfl
def Cls (b : Nat) (n : Nat) (r l : Int) : Prop :=
 (192 ≤ b ∧ b < 224 ∧ n = 2 ∧ r = b - 192 ∧ l = 128) ∨ (224 ≤ b ∧ b < 240 ∧ n = 3 ∧ r = b - 224 ∧ l = 2048) ∨ (240 ≤ b ∧ b < 248 ∧ n = 4 ∧ r = b - 240 ∧ l = 65536)
def accI (s : Bs) (r : Int) : Nat → Int
 | 0 => r
 | i + 1 => accI s r i * 64 + (bA s (i + 1) - 128)
theorem dec_b (s : Bs) : dec s 0 = Lib.decodeN s.length (bA s 0) (bA s 1) (bA s 2) (bA s 3) := by rw [dec_N]; rfl
theorem first_none (s : Bs) (h : (128 ≤ bA s 0 ∧ bA s 0 < 192) ∨ 248 ≤ bA s 0) : dec s 0 = (65533, 1) := by
 rw [dec_b]
 have := bA_lt s 0
 unfold Lib.decodeN
 rw [if_neg (by omega), if_neg (by omega), if_neg (by omega), if_neg (by omega)]
theorem first_short (s : Bs) {n : Nat} {r l : Int} (hc : Cls (bA s 0) n r l) (h : s.length < n) : dec s 0 = (65533, 1) := by
 rw [dec_b]
 unfold Cls at hc
 unfold Lib.decodeN
 rw [if_neg (by omega), if_neg (by omega), if_neg (by omega), if_neg (by omega)]
theorem first_tail (s : Bs) {n : Nat} {r l : Int} (hc : Cls (bA s 0) n r l) (i : Nat) (h1 : 1 ≤ i) (h2 : i < n) (h : ¬ (128 ≤ bA s i ∧ bA s i < 192)) : dec s 0 = (65533, 1) := by
 rw [dec_b]
 unfold Cls at hc
 have := bA_lt s i
 unfold Lib.decodeN
 have hi : i = 1 ∨ i = 2 ∨ i = 3 := by omega
 rcases hi with rfl | rfl | rfl <;> rw [if_neg (by omega), if_neg (by omega), if_neg (by omega), if_neg (by omega)]
theorem first_all (s : Bs) {n : Nat} {r l : Int} (hc : Cls (bA s 0) n r l) (hn : n ≤ s.length) (ht : ∀ i, 1 ≤ i → i < n → 128 ≤ bA s i ∧ bA s i < 192) :
  ((accI s r (n - 1) < l ∨ 1114111 < accI s r (n - 1) ∨ (55296 ≤ accI s r (n - 1) ∧ accI s r (n - 1) ≤ 57343)) → dec s 0 = (65533, 1)) ∧
  (¬ (accI s r (n - 1) < l ∨ 1114111 < accI s r (n - 1) ∨ (55296 ≤ accI s r (n - 1) ∧ accI s r (n - 1) ≤ 57343)) → ((dec s 0).1 : Int) = accI s r (n - 1) ∧ (dec s 0).2 = n) := by
 rw [dec_b]
 unfold Cls at hc
 rcases hc with ⟨h1, h2, rfl, rfl, rfl⟩ | ⟨h1, h2, rfl, rfl, rfl⟩ | ⟨h1, h2, rfl, rfl, rfl⟩
 ·have t1 := ht 1 (by omega) (by omega)
  simp only [accI, Nat.reduceSub, Nat.reduceAdd]
  unfold Lib.decodeN
  rw [if_neg (by omega), if_pos (by omega)]
  constructor
  ·intro h; rw [if_neg (by omega)]
  ·intro h; rw [if_pos (by omega)]; dsimp only; refine ⟨?_, rfl⟩; omega
 ·have t1 := ht 1 (by omega) (by omega)
  have t2 := ht 2 (by omega) (by omega)
  simp only [accI, Nat.reduceSub, Nat.reduceAdd]
  unfold Lib.decodeN
  rw [if_neg (by omega), if_neg (by omega), if_pos (by omega)]
  constructor
  ·intro h; rw [if_neg (by omega)]
  ·intro h; rw [if_pos (by omega)]; dsimp only; refine ⟨?_, rfl⟩; omega
 ·have t1 := ht 1 (by omega) (by omega)
  have t2 := ht 2 (by omega) (by omega)
  have t3 := ht 3 (by omega) (by omega)
  simp only [accI, Nat.reduceSub, Nat.reduceAdd]
  unfold Lib.decodeN
  rw [if_neg (by omega), if_neg (by omega), if_neg (by omega), if_pos (by omega)]
  constructor
  ·intro h; rw [if_neg (by omega)]
  ·intro h; rw [if_pos (by omega)]; dsimp only; refine ⟨?_, rfl⟩; omega
theorem rtail_sat (b : UInt8) (h : Heap) : Sat (CT G) 170 [.int .u8 b.toNat] h (fun r h' => r = .bool (decide (128 ≤ b.toNat ∧ b.toNat < 192)) ∧ h' = h) := by
 refine sb [.tmp 2] (fn := Tryz.f170) Tryz.func170 ?_
 intro Q hQ
 refine wk trivial ?_
 (first | refine gq trivial (fun g1 => ?_) (fun g1 => ?_) | refine pq trivial (fun g1 => ?_) (fun g1 => ?_)) <;> (try exact g1.elim) <;> (try refine sq trivial ?_) <;> (refine wk trivial ?_)
 ·refine ee hQ trivial ?_
  refine fR (.bool _) ?_
  congr 1
  rw [Bool.eq_iff_iff]; simp; omega
 ·refine ee hQ trivial ?_
  refine fR (.bool _) ?_
  rw [decide_eq_false (by omega)]
theorem aconv_8r (k : IntKind) (n : Int) (h0 : 0 ≤ n) (h1 : n < 256) : aconv Tryz.prog 5 21 (.int k n) = some (.int .i32 n) := by simp only [aconv, go_sem, wrap32_in (x := n) (by omega) (by omega)]
theorem First_sat (s : Bs) (hne : s ≠ []) (hs : s.length ≤ 1073741824) (h : Heap) : Sat (CT G) 146 [.str s] h (fun r h' => r = .tup [.int .i32 (dec s 0).1, .int .i64 (dec s 0).2] ∧ h' = h) := by
 have hpos : 0 < s.length := List.length_pos_iff.2 hne
 obtain ⟨b, hb, _⟩ := getElem?_of_lt hpos
 have hbA := bA_eq hb
 have hb256 := b.toNat_lt
 have fin : ∀ c w : Int, ((dec s 0).1 : Int) = c → ((dec s 0).2 : Int) = w → Fin h h (fun r h' => r = .tup [.int .i32 (dec s 0).1, .int .i64 (dec s 0).2] ∧ h' = h) (.tup [.int .i32 c, .int .i64 w]) := fun c w e1 e2 => by
  rw [e1, e2]
  exact Fin.same (.tup _ (by intro c hc; simp at hc; rcases hc with rfl | rfl <;> exact .int _ _)) ⟨rfl, rfl⟩
 have bad : dec s 0 = (65533, 1) → Fin h h (fun r h' => r = .tup [.int .i32 (dec s 0).1, .int .i64 (dec s 0).2] ∧ h' = h) (.tup [.int .i32 65533, .int .i64 1]) := fun e => fin _ _ (by rw [e]; rfl) (by rw [e]; rfl)
 have F := F4 @aconv_8r @wrapu8_in @wrap32_in hb
 refine sb [.tmp 2, .tmp 3] (fn := Tryz.f146) Tryz.func146 ?_
 intro Q hQ
 (repeat (first | refine w1 (fun K hK => ?_) | refine w2 ?_ | refine w3 ?_ | ((first | refine w4 ?_ | refine wD ?_ | refine w5 ?_ | refine w6 ?_ | refine w7 ?_); try refine sq F ?_) | (refine w8 ?_; refine sq F ?_; refine w9 ?_) | ((first | refine hK _ _ (w0 ?_) | (clear hK K; refine hK _ _ (w0 ?_)) | (clear hK K; clear hK K; refine hK _ _ (w0 ?_))); clear hK K)))
 refine cq F (fun c1 => ?_) (fun c1 => ?_) <;> (try exact c1.elim) <;> ((repeat (first | refine w1 (fun K hK => ?_) | refine w2 ?_ | refine w3 ?_ | ((first | refine w4 ?_ | refine wD ?_ | refine w5 ?_ | refine w6 ?_ | refine w7 ?_); try refine sq F ?_) | (refine w8 ?_; refine sq F ?_; refine w9 ?_) | ((first | refine hK _ _ (w0 ?_) | (clear hK K; refine hK _ _ (w0 ?_)) | (clear hK K; clear hK K; refine hK _ _ (w0 ?_))); clear hK K))))
 ·refine ee hQ F ?_
  have e := dec_ascii s 0 b hb (by omega)
  exact fin _ _ (by rw [e]) (by rw [e]; rfl)
 rename_i K0 hK0
 have tail : ∀ (t' : Env) (n : Nat) (r l : Int), Cls (bA s 0) n r l → t' 0 = .str s → t' 5 = .int .i64 n → t' 6 = .int .i32 r → t' 7 = .int .i32 l → K0 t' h := by
  intro t' n r l hc e0 e5 e6 e7
  refine hK0 _ _ (Wkn.refl ?_)
  clear hK0 K0 hK K
  have F := F5 F e0 e5 e6 e7
  (repeat (first | refine w1 (fun K hK => ?_) | refine w2 ?_ | refine w3 ?_ | ((first | refine w4 ?_ | refine wD ?_ | refine w5 ?_ | refine w6 ?_ | refine w7 ?_); try refine sq F ?_) | (refine w8 ?_; refine sq F ?_; refine w9 ?_) | ((first | refine hK _ _ (w0 ?_) | (clear hK K; refine hK _ _ (w0 ?_)) | (clear hK K; clear hK K; refine hK _ _ (w0 ?_))); clear hK K)))
  refine cq F (fun c2 => ?_) (fun c2 => ?_) <;> (try exact c2.elim) <;> ((repeat (first | refine w1 (fun K hK => ?_) | refine w2 ?_ | refine w3 ?_ | ((first | refine w4 ?_ | refine wD ?_ | refine w5 ?_ | refine w6 ?_ | refine w7 ?_); try refine sq F ?_) | (refine w8 ?_; refine sq F ?_; refine w9 ?_) | ((first | refine hK _ _ (w0 ?_) | (clear hK K; refine hK _ _ (w0 ?_)) | (clear hK K; clear hK K; refine hK _ _ (w0 ?_))); clear hK K))))
  ·refine ee hQ F ?_
   exact bad (first_short s hc (by omega))
  have hc' := hc
  unfold Cls at hc'
  refine lm (fun nL tL hL => ∃ (i : Nat) (q : Int), n - i = nL ∧ h = hL ∧ tL 6 = .int .i32 q ∧ tL 8 = .int .i64 i ∧ (1 ≤ i ∧ i ≤ n) ∧ q = accI s r (i - 1) ∧ (0 ≤ q ∧ (i = 1 → q < 32) ∧ (i = 2 → q < 2048) ∧ (i = 3 → q < 131072) ∧ (i = 4 → q < 8388608)) ∧ (∀ j, 1 ≤ j → j < i → 128 ≤ bA s j ∧ bA s j < 192)) ((fun (i : Nat) (q : Int) => (n - i : Nat)) (1) (r)) ?_ ?_
  ·refine Wkn.refl ⟨1, r, rfl, hpE, ?_, ?_, ⟨by omega, by omega⟩, rfl, ⟨by omega, by omega, by omega, by omega, by omega⟩, fun j h1 h2 => by omega⟩
   all_goals first | exact zq F | rfl | omega | trivial | skip
  rintro _ s1 h' ⟨i, q, rfl, rfl, e6, e8, hi, hq, hb, ht⟩ K1 hK1
  simp only [mix_cons, mix_nil, Nat.reduceEqDiff, ↓reduceIte] at e6 e8
  have F := F3 F e6 e8
  (repeat (first | refine w1 (fun K hK => ?_) | refine w2 ?_ | refine w3 ?_ | ((first | refine w4 ?_ | refine wD ?_ | refine w5 ?_ | refine w6 ?_ | refine w7 ?_); try refine sq F ?_) | (refine w8 ?_; refine sq F ?_; refine w9 ?_) | ((first | refine hK _ _ (w0 ?_) | (clear hK K; refine hK _ _ (w0 ?_)) | (clear hK K; clear hK K; refine hK _ _ (w0 ?_))); clear hK K)))
  refine cq F (fun c3 => ?_) (fun c3 => ?_) <;> (try exact c3.elim) <;> ((repeat (first | refine w1 (fun K hK => ?_) | refine w2 ?_ | refine w3 ?_ | ((first | refine w4 ?_ | refine wD ?_ | refine w5 ?_ | refine w6 ?_ | refine w7 ?_); try refine sq F ?_) | (refine w8 ?_; refine sq F ?_; refine w9 ?_) | ((first | refine hK _ _ (w0 ?_) | (clear hK K; refine hK _ _ (w0 ?_)) | (clear hK K; clear hK K; refine hK _ _ (w0 ?_))); clear hK K))))
  ·obtain ⟨y, hy, _⟩ := getElem?_of_lt (show i < s.length by omega)
   have hyA := bA_eq hy
   have hy256 := y.toNat_lt
   have F := F2 F hy
   try refine sq F ?_
   (repeat (first | refine w1 (fun K hK => ?_) | refine w2 ?_ | refine w3 ?_ | ((first | refine w4 ?_ | refine wD ?_ | refine w5 ?_ | refine w6 ?_ | refine w7 ?_); try refine sq F ?_) | (refine w8 ?_; refine sq F ?_; refine w9 ?_) | ((first | refine hK _ _ (w0 ?_) | (clear hK K; refine hK _ _ (w0 ?_)) | (clear hK K; clear hK K; refine hK _ _ (w0 ?_))); clear hK K)))
   refine (rtail_sat G y _).mono ?_
   rintro r h' ⟨rfl, rfl⟩
   try refine sq F ?_
   (repeat (first | refine w1 (fun K hK => ?_) | refine w2 ?_ | refine w3 ?_ | ((first | refine w4 ?_ | refine wD ?_ | refine w5 ?_ | refine w6 ?_ | refine w7 ?_); try refine sq F ?_) | (refine w8 ?_; refine sq F ?_; refine w9 ?_) | ((first | refine hK _ _ (w0 ?_) | (clear hK K; refine hK _ _ (w0 ?_)) | (clear hK K; clear hK K; refine hK _ _ (w0 ?_))); clear hK K)))
   refine cq F (fun c4 => ?_) (fun c4 => ?_) <;> (try exact c4.elim) <;> ((repeat (first | refine w1 (fun K hK => ?_) | refine w2 ?_ | refine w3 ?_ | ((first | refine w4 ?_ | refine wD ?_ | refine w5 ?_ | refine w6 ?_ | refine w7 ?_); try refine sq F ?_) | (refine w8 ?_; refine sq F ?_; refine w9 ?_) | ((first | refine hK _ _ (w0 ?_) | (clear hK K; refine hK _ _ (w0 ?_)) | (clear hK K; clear hK K; refine hK _ _ (w0 ?_))); clear hK K))))
   ·refine ee hQ F ?_
    exact bad (first_tail s hc i hi.1 c3 (by rw [hyA]; omega))
   ·have hacc : accI s r i = accI s r (i - 1) * 64 + (bA s i - 128) := by
     obtain ⟨k, rfl⟩ : ∃ k, i = k + 1 := ⟨i - 1, by omega⟩
     rfl
    have hi4 : i = 1 ∨ i = 2 ∨ i = 3 := by omega
    have ht' : ∀ j, 1 ≤ j → j < i + 1 → 128 ≤ bA s j ∧ bA s j < 192 := fun j h1 h2 => by
     rcases Nat.lt_or_ge j i with h3 | h3
     ·exact ht j h1 h3
     ·obtain rfl : j = i := by omega
      rw [hyA]; omega
    have hq' : q * 64 + ((y.toNat : Int) - 128) = accI s r (i + 1 - 1) := by rw [Nat.add_sub_cancel, hacc, ← hq, hyA]
    try refine sq F ?_
    (repeat (first | refine w1 (fun K hK => ?_) | refine w2 ?_ | refine w3 ?_ | ((first | refine w4 ?_ | refine wD ?_ | refine w5 ?_ | refine w6 ?_ | refine w7 ?_); try refine sq F ?_) | (refine w8 ?_; refine sq F ?_; refine w9 ?_) | ((first | refine hK _ _ (w0 ?_) | (clear hK K; refine hK _ _ (w0 ?_)) | (clear hK K; clear hK K; refine hK _ _ (w0 ?_))); clear hK K)))
    refine hK1 _ _ _ (Wkn.refl ⟨i + 1, q * 64 + (y.toNat - 128), rfl, hpE, ?_, ?_, ⟨by omega, by omega⟩, hq', by omega, ht'⟩) (by omega)
    all_goals first | exact zq F | rfl | omega | trivial | skip
  ·have hin : i = n := by omega
   subst hin
   obtain ⟨f1, f2⟩ := first_all s hc (by omega) ht
   rw [← hq] at f1 f2
   try refine sq F ?_
   (repeat (first | refine w1 (fun K hK => ?_) | refine w2 ?_ | refine w3 ?_ | ((first | refine w4 ?_ | refine wD ?_ | refine w5 ?_ | refine w6 ?_ | refine w7 ?_); try refine sq F ?_) | (refine w8 ?_; refine sq F ?_; refine w9 ?_) | ((first | refine hK _ _ (w0 ?_) | (clear hK K; refine hK _ _ (w0 ?_)) | (clear hK K; clear hK K; refine hK _ _ (w0 ?_))); clear hK K)))
   (first | refine gq F (fun g1 => ?_) (fun g1 => ?_) | refine pq F (fun g1 => ?_) (fun g1 => ?_)) <;> (try exact g1.elim) <;> (try refine sq F ?_) <;> ((repeat (first | refine w1 (fun K hK => ?_) | refine w2 ?_ | refine w3 ?_ | ((first | refine w4 ?_ | refine wD ?_ | refine w5 ?_ | refine w6 ?_ | refine w7 ?_); try refine sq F ?_) | (refine w8 ?_; refine sq F ?_; refine w9 ?_) | ((first | refine hK _ _ (w0 ?_) | (clear hK K; refine hK _ _ (w0 ?_)) | (clear hK K; clear hK K; refine hK _ _ (w0 ?_))); clear hK K))))
   ·refine ee hQ F ?_
    exact bad (f1 (by omega))
   ·(first | refine gq F (fun g2 => ?_) (fun g2 => ?_) | refine pq F (fun g2 => ?_) (fun g2 => ?_)) <;> (try exact g2.elim) <;> (try refine sq F ?_) <;> ((repeat (first | refine w1 (fun K hK => ?_) | refine w2 ?_ | refine w3 ?_ | ((first | refine w4 ?_ | refine wD ?_ | refine w5 ?_ | refine w6 ?_ | refine w7 ?_); try refine sq F ?_) | (refine w8 ?_; refine sq F ?_; refine w9 ?_) | ((first | refine hK _ _ (w0 ?_) | (clear hK K; refine hK _ _ (w0 ?_)) | (clear hK K; clear hK K; refine hK _ _ (w0 ?_))); clear hK K))))
    ·refine ee hQ F ?_
     exact bad (f1 (by omega))
    ·(first | refine gq F (fun g3 => ?_) (fun g3 => ?_) | refine pq F (fun g3 => ?_) (fun g3 => ?_)) <;> (try exact g3.elim) <;> (try refine sq F ?_) <;> ((repeat (first | refine w1 (fun K hK => ?_) | refine w2 ?_ | refine w3 ?_ | ((first | refine w4 ?_ | refine wD ?_ | refine w5 ?_ | refine w6 ?_ | refine w7 ?_); try refine sq F ?_) | (refine w8 ?_; refine sq F ?_; refine w9 ?_) | ((first | refine hK _ _ (w0 ?_) | (clear hK K; refine hK _ _ (w0 ?_)) | (clear hK K; clear hK K; refine hK _ _ (w0 ?_))); clear hK K))))
     ·refine cq F (fun g4 => ?_) (fun g4 => ?_) <;> (try exact g4.elim) <;> ((repeat (first | refine w1 (fun K hK => ?_) | refine w2 ?_ | refine w3 ?_ | ((first | refine w4 ?_ | refine wD ?_ | refine w5 ?_ | refine w6 ?_ | refine w7 ?_); try refine sq F ?_) | (refine w8 ?_; refine sq F ?_; refine w9 ?_) | ((first | refine hK _ _ (w0 ?_) | (clear hK K; refine hK _ _ (w0 ?_)) | (clear hK K; clear hK K; refine hK _ _ (w0 ?_))); clear hK K))))
      ·refine ee hQ F ?_
       exact bad (f1 (by omega))
      ·refine ee hQ F ?_
       exact fin _ _ (f2 (by omega)).1 (by rw [(f2 (by omega)).2])
     ·refine ee hQ F ?_
      exact fin _ _ (f2 (by omega)).1 (by rw [(f2 (by omega)).2])
 (first | refine gq F (fun g1 => ?_) (fun g1 => ?_) | refine pq F (fun g1 => ?_) (fun g1 => ?_)) <;> (try exact g1.elim) <;> (try refine sq F ?_) <;> ((repeat (first | refine w1 (fun K hK => ?_) | refine w2 ?_ | refine w3 ?_ | ((first | refine w4 ?_ | refine wD ?_ | refine w5 ?_ | refine w6 ?_ | refine w7 ?_); try refine sq F ?_) | (refine w8 ?_; refine sq F ?_; refine w9 ?_) | ((first | refine hK _ _ (w0 ?_) | (clear hK K; refine hK _ _ (w0 ?_)) | (clear hK K; clear hK K; refine hK _ _ (w0 ?_))); clear hK K))))
 ·refine cq F (fun g2 => ?_) (fun g2 => ?_) <;> (try exact g2.elim) <;> ((repeat (first | refine w1 (fun K hK => ?_) | refine w2 ?_ | refine w3 ?_ | ((first | refine w4 ?_ | refine wD ?_ | refine w5 ?_ | refine w6 ?_ | refine w7 ?_); try refine sq F ?_) | (refine w8 ?_; refine sq F ?_; refine w9 ?_) | ((first | refine hK _ _ (w0 ?_) | (clear hK K; refine hK _ _ (w0 ?_)) | (clear hK K; clear hK K; refine hK _ _ (w0 ?_))); clear hK K))))
  ·refine tail _ 2 (b.toNat - 192) 128 ?_ ?_ ?_ ?_ ?_
   ·unfold Cls; omega
   ·exact zq F
   ·exact zq F
   ·exact zq F
   ·exact zq F
  ·(first | refine gq F (fun g3 => ?_) (fun g3 => ?_) | refine pq F (fun g3 => ?_) (fun g3 => ?_)) <;> (try exact g3.elim) <;> (try refine sq F ?_) <;> ((repeat (first | refine w1 (fun K hK => ?_) | refine w2 ?_ | refine w3 ?_ | ((first | refine w4 ?_ | refine wD ?_ | refine w5 ?_ | refine w6 ?_ | refine w7 ?_); try refine sq F ?_) | (refine w8 ?_; refine sq F ?_; refine w9 ?_) | ((first | refine hK _ _ (w0 ?_) | (clear hK K; refine hK _ _ (w0 ?_)) | (clear hK K; clear hK K; refine hK _ _ (w0 ?_))); clear hK K))))
   ·refine cq F (fun g4 => ?_) (fun g4 => ?_) <;> (try exact g4.elim) <;> ((repeat (first | refine w1 (fun K hK => ?_) | refine w2 ?_ | refine w3 ?_ | ((first | refine w4 ?_ | refine wD ?_ | refine w5 ?_ | refine w6 ?_ | refine w7 ?_); try refine sq F ?_) | (refine w8 ?_; refine sq F ?_; refine w9 ?_) | ((first | refine hK _ _ (w0 ?_) | (clear hK K; refine hK _ _ (w0 ?_)) | (clear hK K; clear hK K; refine hK _ _ (w0 ?_))); clear hK K))))
    ·refine tail _ 3 (b.toNat - 224) 2048 ?_ ?_ ?_ ?_ ?_
     ·unfold Cls; omega
     ·exact zq F
     ·exact zq F
     ·exact zq F
     ·exact zq F
    ·(first | refine gq F (fun g5 => ?_) (fun g5 => ?_) | refine pq F (fun g5 => ?_) (fun g5 => ?_)) <;> (try exact g5.elim) <;> (try refine sq F ?_) <;> ((repeat (first | refine w1 (fun K hK => ?_) | refine w2 ?_ | refine w3 ?_ | ((first | refine w4 ?_ | refine wD ?_ | refine w5 ?_ | refine w6 ?_ | refine w7 ?_); try refine sq F ?_) | (refine w8 ?_; refine sq F ?_; refine w9 ?_) | ((first | refine hK _ _ (w0 ?_) | (clear hK K; refine hK _ _ (w0 ?_)) | (clear hK K; clear hK K; refine hK _ _ (w0 ?_))); clear hK K))))
     ·refine cq F (fun g6 => ?_) (fun g6 => ?_) <;> (try exact g6.elim) <;> ((repeat (first | refine w1 (fun K hK => ?_) | refine w2 ?_ | refine w3 ?_ | ((first | refine w4 ?_ | refine wD ?_ | refine w5 ?_ | refine w6 ?_ | refine w7 ?_); try refine sq F ?_) | (refine w8 ?_; refine sq F ?_; refine w9 ?_) | ((first | refine hK _ _ (w0 ?_) | (clear hK K; refine hK _ _ (w0 ?_)) | (clear hK K; clear hK K; refine hK _ _ (w0 ?_))); clear hK K))))
      ·refine tail _ 4 (b.toNat - 240) 65536 ?_ ?_ ?_ ?_ ?_
       ·unfold Cls; omega
       ·exact zq F
       ·exact zq F
       ·exact zq F
       ·exact zq F
      ·refine ee hQ F ?_
       exact bad (first_none s (by omega))
     ·exfalso; omega
   ·exfalso; omega
 ·(first | refine gq F (fun g3 => ?_) (fun g3 => ?_) | refine pq F (fun g3 => ?_) (fun g3 => ?_)) <;> (try exact g3.elim) <;> (try refine sq F ?_) <;> ((repeat (first | refine w1 (fun K hK => ?_) | refine w2 ?_ | refine w3 ?_ | ((first | refine w4 ?_ | refine wD ?_ | refine w5 ?_ | refine w6 ?_ | refine w7 ?_); try refine sq F ?_) | (refine w8 ?_; refine sq F ?_; refine w9 ?_) | ((first | refine hK _ _ (w0 ?_) | (clear hK K; refine hK _ _ (w0 ?_)) | (clear hK K; clear hK K; refine hK _ _ (w0 ?_))); clear hK K))))
  ·exfalso; omega
  ·(first | refine gq F (fun g5 => ?_) (fun g5 => ?_) | refine pq F (fun g5 => ?_) (fun g5 => ?_)) <;> (try exact g5.elim) <;> (try refine sq F ?_) <;> ((repeat (first | refine w1 (fun K hK => ?_) | refine w2 ?_ | refine w3 ?_ | ((first | refine w4 ?_ | refine wD ?_ | refine w5 ?_ | refine w6 ?_ | refine w7 ?_); try refine sq F ?_) | (refine w8 ?_; refine sq F ?_; refine w9 ?_) | ((first | refine hK _ _ (w0 ?_) | (clear hK K; refine hK _ _ (w0 ?_)) | (clear hK K; clear hK K; refine hK _ _ (w0 ?_))); clear hK K))))
   ·exfalso; omega
   ·refine ee hQ F ?_
    exact bad (first_none s (by omega))
end Go.Av
namespace Go.Av
open Go Go.Proofs Go.RowKit
attribute [local irreducible] WP WPl WPix Sat
set_option maxRecDepth 100000
set_option maxHeartbeats 1000000
variable (G : Nat → Option (List AVal))
theorem runA_sto : ∀ (l : List Int), ∀ r ∈ l.map runA, ∀ c ∈ r.cells, c.sto = true := fun l r hr c hc => by
 obtain ⟨a, _, rfl⟩ := List.mem_map.1 hr
 simp [runA, AVal.cells] at hc; subst hc; rfl
theorem runA_clo : ∀ (n : Nat) (l : List Int), ∀ r ∈ l.map runA, Clo n r := fun n l r hr => by
 obtain ⟨a, _, rfl⟩ := List.mem_map.1 hr; exact .int _ _
theorem Frz.runes {h : Heap} {n q v e : Nat} {l : List Int} {len : Nat} {room : Bool} (hq : n ≤ q) (hg : getRow h q v = some (e, 1, l.map runA)) (hlen : len = l.length) : Frz h n (.hs q v 0 len room) (.sl 1 (l.map runA)) :=
 Frz.data hq hg (by simpa using hlen) (fun r hr => runA_clo _ l r hr) (fun r hr => runA_sto l r hr)
theorem Runes_sat (s : Bs) (hs : s.length ≤ 1048576) (h : Heap) : Sat (CT G) 144 [.str s] h (fun r h' => r = .sl 1 ((runesF s).map runA) ∧ h' = h) := by
 refine sb [.tmp 2] (fn := Tryz.f144) Tryz.func144 ?_
 intro Q hQ
 refine wk trivial ?_
 refine lm (fun nL tL hL => ∃ (k v : Nat) (acc : List Int), s.length - k = nL ∧ h ++ [.row 21 1 v (acc.map runA)] = hL ∧ tL 0 = .str (s.drop k) ∧ tL 3 = .hs h.length v 0 acc.length true ∧ k ≤ s.length ∧ acc.length ≤ k ∧ acc ++ runesF (s.drop k) = runesF s) ((fun (k v : Nat) (acc : List Int) => (s.length - k : Nat)) (0) (0) ([])) ?_ ?_
 ·refine ⟨_, _, Weak.virt 3 21 1 (by simp) (by omega) (by exact zq trivial), ⟨0, 0, [], rfl, hpE, ?_, ?_, ?_, ?_, ?_⟩⟩
  all_goals first | exact zq trivial | rfl | omega | trivial | skip
 rintro _ s2 h' ⟨k, v, acc, rfl, rfl, e0, e3, hk, hl, hp⟩ K2 hK2
 simp only [mix_cons, mix_nil, Nat.reduceEqDiff, ↓reduceIte] at e0 e3
 have F := F2 e0 e3
 refine wk F ?_
 refine cq F (fun c1 => ?_) (fun c1 => ?_) <;> (try exact c1.elim) <;> (refine wk F ?_)
 ·simp only [List.length_drop] at c1
  have hlt : k < s.length := by omega
  have hp2 := dec_pos s k hlt
  rw [runesF_at s k hlt] at hp
  have hne : s.drop k ≠ [] := by intro e; have := congrArg List.length e; simp at this; omega
  refine (First_sat G (s.drop k) hne (by simp; omega) _).mono ?_
  rintro r h' ⟨rfl, rfl⟩
  rw [← dec_drop]
  generalize dec s k = d at *
  obtain ⟨c, m⟩ := d
  simp only [] at hp hp2 ⊢
  have hsl : m ≤ (s.drop k).length := by simp; omega
  have hdd : (s.drop k).drop m = s.drop (k + m) := List.drop_drop ..
  have F := F3 F hsl hdd
  try refine sq F ?_
  refine wk F ?_
  refine aq F ?_
  try refine sq F ?_
  refine wk F ?_
  refine hK2 _ _ _ (Wkn.refl ⟨k + m, v + 1, acc ++ [(c : Int)], rfl, hpE, ?_, ?_, by omega, by simp; omega, by rw [← hp]; simp⟩) (by omega)
  all_goals first | exact zq F | rfl | omega | trivial | skip
 ·simp only [List.length_drop] at c1
  rw [runesF_end s k (by omega), List.append_nil] at hp
  refine wk F ?_
  refine ee hQ F ?_
  rw [← hp]
  exact Fin.frz (Frz.runes (Nat.le_refl _) (by simp [getRow]; rfl) rfl) ⟨rfl, rfl⟩
theorem rBlank_sat (c : Int) (h : Heap) : Sat (CT G) 145 [.int .i32 c] h (fun r h' => r = .bool (blankR c) ∧ h' = h) := by
 have yes : (c = 9 ∨ c = 10 ∨ c = 13 ∨ c = 32 ∨ c = 160 ∨ c = 8232 ∨ c = 8233 ∨ c = 12288) → blankR c = true := fun h => decide_eq_true h
 have no : ¬ (c = 9 ∨ c = 10 ∨ c = 13 ∨ c = 32 ∨ c = 160 ∨ c = 8232 ∨ c = 8233 ∨ c = 12288) → blankR c = false := fun h => decide_eq_false h
 refine sb [.tmp 2] (fn := Tryz.f145) Tryz.func145 ?_
 intro Q hQ
 refine wk trivial ?_
 (first | refine gq trivial (fun g0 => ?_) (fun g0 => ?_) | refine pq trivial (fun g0 => ?_) (fun g0 => ?_)) <;> (try exact g0.elim) <;> (try refine sq trivial ?_) <;> (refine wk trivial ?_)
 ·refine ee hQ trivial ?_
  refine fR (.bool _) ?_
  rw [yes (by omega)]
 ·(first | refine gq trivial (fun g1 => ?_) (fun g1 => ?_) | refine pq trivial (fun g1 => ?_) (fun g1 => ?_)) <;> (try exact g1.elim) <;> (try refine sq trivial ?_) <;> (refine wk trivial ?_)
  ·refine ee hQ trivial ?_
   refine fR (.bool _) ?_
   rw [yes (by omega)]
  ·(first | refine gq trivial (fun g2 => ?_) (fun g2 => ?_) | refine pq trivial (fun g2 => ?_) (fun g2 => ?_)) <;> (try exact g2.elim) <;> (try refine sq trivial ?_) <;> (refine wk trivial ?_)
   ·refine ee hQ trivial ?_
    refine fR (.bool _) ?_
    rw [yes (by omega)]
   ·(first | refine gq trivial (fun g3 => ?_) (fun g3 => ?_) | refine pq trivial (fun g3 => ?_) (fun g3 => ?_)) <;> (try exact g3.elim) <;> (try refine sq trivial ?_) <;> (refine wk trivial ?_)
    ·refine ee hQ trivial ?_
     refine fR (.bool _) ?_
     rw [yes (by omega)]
    ·(first | refine gq trivial (fun g4 => ?_) (fun g4 => ?_) | refine pq trivial (fun g4 => ?_) (fun g4 => ?_)) <;> (try exact g4.elim) <;> (try refine sq trivial ?_) <;> (refine wk trivial ?_)
     ·refine ee hQ trivial ?_
      refine fR (.bool _) ?_
      rw [yes (by omega)]
     ·(first | refine gq trivial (fun g5 => ?_) (fun g5 => ?_) | refine pq trivial (fun g5 => ?_) (fun g5 => ?_)) <;> (try exact g5.elim) <;> (try refine sq trivial ?_) <;> (refine wk trivial ?_)
      ·refine ee hQ trivial ?_
       refine fR (.bool _) ?_
       rw [yes (by omega)]
      ·(first | refine gq trivial (fun g6 => ?_) (fun g6 => ?_) | refine pq trivial (fun g6 => ?_) (fun g6 => ?_)) <;> (try exact g6.elim) <;> (try refine sq trivial ?_) <;> (refine wk trivial ?_)
       ·refine ee hQ trivial ?_
        refine fR (.bool _) ?_
        rw [yes (by omega)]
       ·refine ee hQ trivial ?_
        refine fR (.bool _) ?_
        congr 1
        rw [Bool.eq_iff_iff]
        by_cases h8 : c = 12288
        ·rw [yes (by omega)]; simp [h8]
        ·rw [no (by omega)]; simp [h8]
theorem rCut_sat (s : Bs) (n : Nat) (hs : s.length ≤ 1048576) (hn : n ≤ 1048576) (h : Heap) : Sat (CT G) 120 [.str s, .int .i64 n] h (fun r h' => r = .str (cutF s n) ∧ h' = h) := by
 refine sb [.tmp 4] (fn := Tryz.f120) Tryz.func120 ?_
 intro Q hQ
 (repeat (first | refine w1 (fun K hK => ?_) | refine w2 ?_ | refine w3 ?_ | ((first | refine w4 ?_ | refine wD ?_ | refine w5 ?_ | refine w6 ?_ | refine w7 ?_); try refine sq trivial ?_) | (refine w8 ?_; refine sq trivial ?_; refine w9 ?_) | ((first | refine hK _ _ (w0 ?_) | (clear hK K; refine hK _ _ (w0 ?_)) | (clear hK K; clear hK K; refine hK _ _ (w0 ?_))); clear hK K)))
 have tail : ∀ (t' : Env) (k : Nat), t' 0 = .str s → t' 5 = .int .i64 k → k ≤ s.length → k = cutN s.length s n → K t' h := by
  intro t' k e0 e5 hk hx
  refine hK _ _ (Wkn.refl ?_)
  clear hK K
  have F := F2 e0 e5
  (repeat (first | refine w1 (fun K hK => ?_) | refine w2 ?_ | refine w3 ?_ | ((first | refine w4 ?_ | refine wD ?_ | refine w5 ?_ | refine w6 ?_ | refine w7 ?_); try refine sq F ?_) | (refine w8 ?_; refine sq F ?_; refine w9 ?_) | ((first | refine hK _ _ (w0 ?_) | (clear hK K; refine hK _ _ (w0 ?_)) | (clear hK K; clear hK K; refine hK _ _ (w0 ?_))); clear hK K)))
  refine ee hQ F ?_
  refine fR (.str _) ?_
  unfold cutF; rw [← hx]
 refine lm (fun nL tL hL => ∃ (k : Nat), s.length - k = nL ∧ h = hL ∧ tL 5 = .int .i64 k ∧ (k ≤ s.length ∧ k ≤ n) ∧ k + cutA s k (n - k) = cutN s.length s n) ((fun (k : Nat) => (s.length - k : Nat)) (0)) ?_ ?_
 ·refine Wkn.refl ⟨0, rfl, hpE, ?_, ⟨by omega, by omega⟩, by unfold cutA; simp⟩
  all_goals first | exact zq trivial | rfl | omega | trivial | skip
 rintro _ s2 h' ⟨k, rfl, rfl, e5, hk, hc⟩ K2 hK2
 simp only [mix_cons, mix_nil, Nat.reduceEqDiff, ↓reduceIte] at e5
 have F := e5
 (repeat (first | refine w1 (fun K hK => ?_) | refine w2 ?_ | refine w3 ?_ | ((first | refine w4 ?_ | refine wD ?_ | refine w5 ?_ | refine w6 ?_ | refine w7 ?_); try refine sq F ?_) | (refine w8 ?_; refine sq F ?_; refine w9 ?_) | ((first | refine hK _ _ (w0 ?_) | (clear hK K; refine hK _ _ (w0 ?_)) | (clear hK K; clear hK K; refine hK _ _ (w0 ?_))); clear hK K)))
 refine cq F (fun c1 => ?_) (fun c1 => ?_) <;> (try exact c1.elim) <;> ((repeat (first | refine w1 (fun K hK => ?_) | refine w2 ?_ | refine w3 ?_ | ((first | refine w4 ?_ | refine wD ?_ | refine w5 ?_ | refine w6 ?_ | refine w7 ?_); try refine sq F ?_) | (refine w8 ?_; refine sq F ?_; refine w9 ?_) | ((first | refine hK _ _ (w0 ?_) | (clear hK K; refine hK _ _ (w0 ?_)) | (clear hK K; clear hK K; refine hK _ _ (w0 ?_))); clear hK K))))
 ·have hp2 := dec_pos s k c1
  have hca := cutA_at s k (n - k) c1
  have hne : s.drop k ≠ [] := by intro e; have := congrArg List.length e; simp at this; omega
  refine (First_sat G (s.drop k) hne (by simp; omega) _).mono ?_
  rintro r h' ⟨rfl, rfl⟩
  rw [← dec_drop]
  generalize dec s k = d at *
  obtain ⟨c, m⟩ := d
  simp only [] at hp2 hca ⊢
  rw [hca] at hc
  try refine sq F ?_
  (repeat (first | refine w1 (fun K hK => ?_) | refine w2 ?_ | refine w3 ?_ | ((first | refine w4 ?_ | refine wD ?_ | refine w5 ?_ | refine w6 ?_ | refine w7 ?_); try refine sq F ?_) | (refine w8 ?_; refine sq F ?_; refine w9 ?_) | ((first | refine hK _ _ (w0 ?_) | (clear hK K; refine hK _ _ (w0 ?_)) | (clear hK K; clear hK K; refine hK _ _ (w0 ?_))); clear hK K)))
  refine cq F (fun c2 => ?_) (fun c2 => ?_) <;> (try exact c2.elim) <;> ((repeat (first | refine w1 (fun K hK => ?_) | refine w2 ?_ | refine w3 ?_ | ((first | refine w4 ?_ | refine wD ?_ | refine w5 ?_ | refine w6 ?_ | refine w7 ?_); try refine sq F ?_) | (refine w8 ?_; refine sq F ?_; refine w9 ?_) | ((first | refine hK _ _ (w0 ?_) | (clear hK K; refine hK _ _ (w0 ?_)) | (clear hK K; clear hK K; refine hK _ _ (w0 ?_))); clear hK K))))
  ·rw [if_pos (by omega)] at hc
   refine tail _ k ?_ ?_ hk.1 (by omega)
   ·exact zq F
   ·exact zq F
  ·rw [if_neg (by omega)] at hc
   refine hK2 _ _ _ (Wkn.refl ⟨k + m, rfl, hpE, ?_, ⟨by omega, by omega⟩, by rw [← hc, show n - (k + m) = n - k - m by omega]; omega⟩) (by omega)
   all_goals first | exact zq F | rfl | omega | trivial | skip
 ·rw [cutA_end s k (n - k) (by omega)] at hc
  refine tail _ k ?_ ?_ hk.1 (by omega)
  ·exact zq F
  ·exact zq F
theorem rRight_sat (s : Bs) (hs : s.length ≤ 1048576) (h : Heap) : Sat (CT G) 123 [.str s] h (fun r h' => r = .bool (rightS s) ∧ h' = h) := by
 refine sb [.tmp 2] (fn := Tryz.f123) Tryz.func123 ?_
 intro Q hQ
 refine wk trivial ?_
 refine lm (fun nL tL hL => ∃ (k : Nat), s.length - k = nL ∧ h = hL ∧ tL 0 = .str (s.drop k) ∧ k ≤ s.length ∧ rightS (s.drop k) = rightS s) ((fun (k : Nat) => (s.length - k : Nat)) (0)) ?_ ?_
 ·refine Wkn.refl ⟨0, rfl, hpE, ?_, by omega, rfl⟩
  all_goals first | exact zq trivial | rfl | omega | trivial | skip
 rintro _ s2 h' ⟨k, rfl, rfl, e0, hk, hc⟩ K2 hK2
 simp only [mix_cons, mix_nil, Nat.reduceEqDiff, ↓reduceIte] at e0
 have F := e0
 refine wk F ?_
 refine cq F (fun c1 => ?_) (fun c1 => ?_) <;> (try exact c1.elim) <;> (refine wk F ?_)
 ·simp only [List.length_drop] at c1
  have hlt : k < s.length := by omega
  have hp2 := dec_pos s k hlt
  have hca := rightS_at s k hlt
  have hne : s.drop k ≠ [] := by intro e; have := congrArg List.length e; simp at this; omega
  rw [hc] at hca
  refine (First_sat G (s.drop k) hne (by simp; omega) _).mono ?_
  rintro r h' ⟨rfl, rfl⟩
  rw [← dec_drop]
  generalize dec s k = d at *
  obtain ⟨c, m⟩ := d
  simp only [] at hp2 hca ⊢
  have hsl : m ≤ (s.drop k).length := by simp; omega
  have hdd : (s.drop k).drop m = s.drop (k + m) := List.drop_drop ..
  have F := F3 F hsl hdd
  try refine sq F ?_
  refine wk F ?_
  (first | refine gq F (fun g1 => ?_) (fun g1 => ?_) | refine pq F (fun g1 => ?_) (fun g1 => ?_)) <;> (try exact g1.elim) <;> (try refine sq F ?_) <;> (refine wk F ?_)
  ·refine cq F (fun g2 => ?_) (fun g2 => ?_) <;> (try exact g2.elim) <;> (refine wk F ?_)
   ·refine ee hQ F ?_
    refine fR (.bool _) ?_
    rw [hca, if_pos (by omega)]
   ·refine hK2 _ _ _ (Wkn.refl ⟨k + m, rfl, hpE, ?_, by omega, by rw [hca, if_neg (by omega)]⟩) (by omega)
    all_goals first | exact zq F | rfl | omega | trivial | skip
  ·refine hK2 _ _ _ (Wkn.refl ⟨k + m, rfl, hpE, ?_, by omega, by rw [hca, if_neg (by omega)]⟩) (by omega)
   all_goals first | exact zq F | rfl | omega | trivial | skip
 ·simp only [List.length_drop] at c1
  rw [List.drop_of_length_le (by omega)] at hc
  refine wk F ?_
  refine ee hQ F ?_
  refine fR (.bool _) ?_
  rw [← hc]; rfl
end Go.Av
namespace Go.Av
open Go Go.Proofs Go.RowKit
attribute [local irreducible] WP WPl WPix Sat
set_option maxRecDepth 100000
set_option maxHeartbeats 1000000
variable (G : Nat → Option (List AVal))
theorem rClean_sat (s : Bs) (hs : s.length ≤ 100000) (h : Heap) : Sat (CT G) 119 [.str s] h (fun r h' => r = .str (cleanF s) ∧ h' = h) := by
 have hll := runesF_len s.length s (Nat.le_refl _)
 have hrl := runesF_rune s.length s (Nat.le_refl _)
 have hcl := clnR_rune (runesF s) [] false hrl (by simp)
 have hdef : clnR (runesF s) [] false = cleanR s := rfl
 have hcf : encs (cleanR s) = cleanF s := rfl
 refine sb [.tmp 2] (fn := Tryz.f119) Tryz.func119 ?_
 intro Q hQ
 (repeat (first | refine w1 (fun K hK => ?_) | refine w2 ?_ | refine w3 ?_ | ((first | refine w4 ?_ | refine wD ?_ | refine w5 ?_ | refine w6 ?_ | refine w7 ?_); try refine sq trivial ?_) | (refine w8 ?_; refine sq trivial ?_; refine w9 ?_) | (refine rq trivial ?_; try refine sq trivial ?_) | (refine vq trivial ?_; try refine sq trivial ?_) | ((first | refine hK _ _ (w0 ?_) | (clear hK K; refine hK _ _ (w0 ?_)) | (clear hK K; clear hK K; refine hK _ _ (w0 ?_))); clear hK K)))
 refine (Runes_sat G s (by omega) _).mono ?_
 rintro r h' ⟨rfl, hk_⟩
 replace hk_ := hk_.symm
 subst hk_
 try refine sq trivial ?_
 (repeat (first | refine w1 (fun K hK => ?_) | refine w2 ?_ | refine w3 ?_ | ((first | refine w4 ?_ | refine wD ?_ | refine w5 ?_ | refine w6 ?_ | refine w7 ?_); try refine sq trivial ?_) | (refine w8 ?_; refine sq trivial ?_; refine w9 ?_) | (refine rq trivial ?_; try refine sq trivial ?_) | (refine vq trivial ?_; try refine sq trivial ?_) | ((first | refine hK _ _ (w0 ?_) | (clear hK K; refine hK _ _ (w0 ?_)) | (clear hK K; clear hK K; refine hK _ _ (w0 ?_))); clear hK K)))
 generalize runesF s = l at *
 have hlm : (l.map runA).length = l.length := List.length_map ..
 have F := hlm
 refine lm (fun nL tL hL => ∃ (k v : Nat) (acc : List Int) (w : Bool), l.length - k = nL ∧ h ++ [.row 21 1 v (acc.map runA)] = hL ∧ tL 4 = .hs h.length v 0 acc.length true ∧ tL 5 = .bool w ∧ tL 6 = .int .i64 k ∧ k ≤ l.length ∧ clnR (l.drop k) acc w = cleanR s ∧ acc.length ≤ 2 * k) ((fun (k v : Nat) (acc : List Int) (w : Bool) => (l.length - k : Nat)) (0) (0) ([]) (false)) ?_ ?_
 ·refine ⟨_, _, Weak.virt 4 21 1 (by simp) (by omega) (by exact zq F), ⟨0, 0, [], false, rfl, hpE, ?_, ?_, ?_, by omega, hdef, by simp⟩⟩
  all_goals first | exact zq F | rfl | omega | trivial | skip
 rintro _ s2 h' ⟨k, v, acc, w, rfl, rfl, e4, e5, e6, hk, hv, hl⟩ K2 hK2
 simp only [mix_cons, mix_nil, Nat.reduceEqDiff, ↓reduceIte] at e4 e5 e6
 have F := F4 F e4 e5 e6
 (repeat (first | refine w1 (fun K hK => ?_) | refine w2 ?_ | refine w3 ?_ | ((first | refine w4 ?_ | refine wD ?_ | refine w5 ?_ | refine w6 ?_ | refine w7 ?_); try refine sq F ?_) | (refine w8 ?_; refine sq F ?_; refine w9 ?_) | (refine rq F ?_; try refine sq F ?_) | (refine vq F ?_; try refine sq F ?_) | ((first | refine hK _ _ (w0 ?_) | (clear hK K; refine hK _ _ (w0 ?_)) | (clear hK K; clear hK K; refine hK _ _ (w0 ?_))); clear hK K)))
 refine cq F (fun c1 => ?_) (fun c1 => ?_) <;> (try exact c1.elim)
 ·obtain ⟨y, hy, hym⟩ := getElem?_of_lt c1
  have hyl : (l.map runA)[k]? = some (.int .i32 y) := by rw [List.getElem?_map, hy]; rfl
  rw [drop_cons_of hy, clnR] at hv
  have F := F2 F hyl
  (repeat (first | refine w1 (fun K hK => ?_) | refine w2 ?_ | refine w3 ?_ | ((first | refine w4 ?_ | refine wD ?_ | refine w5 ?_ | refine w6 ?_ | refine w7 ?_); try refine sq F ?_) | (refine w8 ?_; refine sq F ?_; refine w9 ?_) | (refine rq F ?_; try refine sq F ?_) | (refine vq F ?_; try refine sq F ?_) | ((first | refine hK _ _ (w0 ?_) | (clear hK K; refine hK _ _ (w0 ?_)) | (clear hK K; clear hK K; refine hK _ _ (w0 ?_))); clear hK K)))
  refine (rBlank_sat G y _).mono ?_
  rintro r h' ⟨rfl, rfl⟩
  try refine sq F ?_
  (repeat (first | refine w1 (fun K hK => ?_) | refine w2 ?_ | refine w3 ?_ | ((first | refine w4 ?_ | refine wD ?_ | refine w5 ?_ | refine w6 ?_ | refine w7 ?_); try refine sq F ?_) | (refine w8 ?_; refine sq F ?_; refine w9 ?_) | (refine rq F ?_; try refine sq F ?_) | (refine vq F ?_; try refine sq F ?_) | ((first | refine hK _ _ (w0 ?_) | (clear hK K; refine hK _ _ (w0 ?_)) | (clear hK K; clear hK K; refine hK _ _ (w0 ?_))); clear hK K)))
  have ho : decide ((acc.length : Int) > 0) = decide (0 < acc.length) := by
   rw [Bool.eq_iff_iff]; simp only [decide_eq_true_eq]; omega
  refine cq F (fun c2 => ?_) (fun c2 => ?_) <;> (try exact c2.elim) <;> ((repeat (first | refine w1 (fun K hK => ?_) | refine w2 ?_ | refine w3 ?_ | ((first | refine w4 ?_ | refine wD ?_ | refine w5 ?_ | refine w6 ?_ | refine w7 ?_); try refine sq F ?_) | (refine w8 ?_; refine sq F ?_; refine w9 ?_) | (refine rq F ?_; try refine sq F ?_) | (refine vq F ?_; try refine sq F ?_) | ((first | refine hK _ _ (w0 ?_) | (clear hK K; refine hK _ _ (w0 ?_)) | (clear hK K; clear hK K; refine hK _ _ (w0 ?_))); clear hK K))))
  ·rw [if_pos c2] at hv
   have F := F2 F ho
   try refine sq F ?_
   refine hK2 _ _ _ (Wkn.refl ⟨k + 1, v, acc, decide (0 < acc.length), rfl, hpE, ?_, ?_, ?_, by omega, hv, by omega⟩) (by omega)
   all_goals first | exact zq F | rfl | omega | trivial | skip
  ·rw [if_neg (by simp [c2])] at hv
   have yes : (y < 32 ∨ (127 ≤ y ∧ y ≤ 159)) → ctlR y = true := fun h => decide_eq_true h
   have no : ¬ (y < 32 ∨ (127 ≤ y ∧ y ≤ 159)) → ctlR y = false := fun h => decide_eq_false h
   (first | refine gq F (fun g1 => ?_) (fun g1 => ?_) | refine pq F (fun g1 => ?_) (fun g1 => ?_)) <;> (try exact g1.elim) <;> (try refine sq F ?_) <;> ((repeat (first | refine w1 (fun K hK => ?_) | refine w2 ?_ | refine w3 ?_ | ((first | refine w4 ?_ | refine wD ?_ | refine w5 ?_ | refine w6 ?_ | refine w7 ?_); try refine sq F ?_) | (refine w8 ?_; refine sq F ?_; refine w9 ?_) | (refine rq F ?_; try refine sq F ?_) | (refine vq F ?_; try refine sq F ?_) | ((first | refine hK _ _ (w0 ?_) | (clear hK K; refine hK _ _ (w0 ?_)) | (clear hK K; clear hK K; refine hK _ _ (w0 ?_))); clear hK K))))
   ·rw [if_pos (yes (by omega))] at hv
    refine hK2 _ _ _ (Wkn.refl ⟨k + 1, v, acc, w, rfl, hpE, ?_, ?_, ?_, by omega, hv, by omega⟩) (by omega)
    all_goals first | exact zq F | rfl | omega | trivial | skip
   ·(first | refine gq F (fun g2 => ?_) (fun g2 => ?_) | refine pq F (fun g2 => ?_) (fun g2 => ?_)) <;> (try exact g2.elim) <;> (try refine sq F ?_) <;> ((repeat (first | refine w1 (fun K hK => ?_) | refine w2 ?_ | refine w3 ?_ | ((first | refine w4 ?_ | refine wD ?_ | refine w5 ?_ | refine w6 ?_ | refine w7 ?_); try refine sq F ?_) | (refine w8 ?_; refine sq F ?_; refine w9 ?_) | (refine rq F ?_; try refine sq F ?_) | (refine vq F ?_; try refine sq F ?_) | ((first | refine hK _ _ (w0 ?_) | (clear hK K; refine hK _ _ (w0 ?_)) | (clear hK K; clear hK K; refine hK _ _ (w0 ?_))); clear hK K))))
    ·refine cq F (fun g3 => ?_) (fun g3 => ?_) <;> (try exact g3.elim) <;> ((repeat (first | refine w1 (fun K hK => ?_) | refine w2 ?_ | refine w3 ?_ | ((first | refine w4 ?_ | refine wD ?_ | refine w5 ?_ | refine w6 ?_ | refine w7 ?_); try refine sq F ?_) | (refine w8 ?_; refine sq F ?_; refine w9 ?_) | (refine rq F ?_; try refine sq F ?_) | (refine vq F ?_; try refine sq F ?_) | ((first | refine hK _ _ (w0 ?_) | (clear hK K; refine hK _ _ (w0 ?_)) | (clear hK K; clear hK K; refine hK _ _ (w0 ?_))); clear hK K))))
     ·rw [if_pos (yes (by omega))] at hv
      refine hK2 _ _ _ (Wkn.refl ⟨k + 1, v, acc, w, rfl, hpE, ?_, ?_, ?_, by omega, hv, by omega⟩) (by omega)
      all_goals first | exact zq F | rfl | omega | trivial | skip
     ·rw [if_neg (by rw [no (by omega)]; simp)] at hv
      refine cq F (fun c3 => ?_) (fun c3 => ?_) <;> (try exact c3.elim) <;> ((repeat (first | refine w1 (fun K hK => ?_) | refine w2 ?_ | refine w3 ?_ | ((first | refine w4 ?_ | refine wD ?_ | refine w5 ?_ | refine w6 ?_ | refine w7 ?_); try refine sq F ?_) | (refine w8 ?_; refine sq F ?_; refine w9 ?_) | (refine rq F ?_; try refine sq F ?_) | (refine vq F ?_; try refine sq F ?_) | ((first | refine hK _ _ (w0 ?_) | (clear hK K; refine hK _ _ (w0 ?_)) | (clear hK K; clear hK K; refine hK _ _ (w0 ?_))); clear hK K))))
      ·rw [if_pos c3] at hv
       refine aq F ?_
       try refine sq F ?_
       (repeat (first | refine w1 (fun K hK => ?_) | refine w2 ?_ | refine w3 ?_ | ((first | refine w4 ?_ | refine wD ?_ | refine w5 ?_ | refine w6 ?_ | refine w7 ?_); try refine sq F ?_) | (refine w8 ?_; refine sq F ?_; refine w9 ?_) | (refine rq F ?_; try refine sq F ?_) | (refine vq F ?_; try refine sq F ?_) | ((first | refine hK _ _ (w0 ?_) | (clear hK K; refine hK _ _ (w0 ?_)) | (clear hK K; clear hK K; refine hK _ _ (w0 ?_))); clear hK K)))
       refine aq F ?_
       try refine sq F ?_
       (repeat (first | refine w1 (fun K hK => ?_) | refine w2 ?_ | refine w3 ?_ | ((first | refine w4 ?_ | refine wD ?_ | refine w5 ?_ | refine w6 ?_ | refine w7 ?_); try refine sq F ?_) | (refine w8 ?_; refine sq F ?_; refine w9 ?_) | (refine rq F ?_; try refine sq F ?_) | (refine vq F ?_; try refine sq F ?_) | ((first | refine hK _ _ (w0 ?_) | (clear hK K; refine hK _ _ (w0 ?_)) | (clear hK K; clear hK K; refine hK _ _ (w0 ?_))); clear hK K)))
       refine hK2 _ _ _ (Wkn.refl ⟨k + 1, v + 1 + 1, acc ++ [32, y], false, rfl, by simp [runA], ?_, ?_, ?_, by omega, hv, by simp; omega⟩) (by omega)
       all_goals first | exact zq F | rfl | omega | trivial | skip
      ·rw [if_neg (by simp [c3])] at hv
       refine aq F ?_
       try refine sq F ?_
       (repeat (first | refine w1 (fun K hK => ?_) | refine w2 ?_ | refine w3 ?_ | ((first | refine w4 ?_ | refine wD ?_ | refine w5 ?_ | refine w6 ?_ | refine w7 ?_); try refine sq F ?_) | (refine w8 ?_; refine sq F ?_; refine w9 ?_) | (refine rq F ?_; try refine sq F ?_) | (refine vq F ?_; try refine sq F ?_) | ((first | refine hK _ _ (w0 ?_) | (clear hK K; refine hK _ _ (w0 ?_)) | (clear hK K; clear hK K; refine hK _ _ (w0 ?_))); clear hK K)))
       refine hK2 _ _ _ (Wkn.refl ⟨k + 1, v + 1, acc ++ [y], w, rfl, by simp [runA], ?_, ?_, ?_, by omega, by rw [c3]; exact hv, by simp; omega⟩) (by omega)
       all_goals first | exact zq F | rfl | omega | trivial | skip
    ·rw [if_neg (by rw [no (by omega)]; simp)] at hv
     refine cq F (fun c3 => ?_) (fun c3 => ?_) <;> (try exact c3.elim) <;> ((repeat (first | refine w1 (fun K hK => ?_) | refine w2 ?_ | refine w3 ?_ | ((first | refine w4 ?_ | refine wD ?_ | refine w5 ?_ | refine w6 ?_ | refine w7 ?_); try refine sq F ?_) | (refine w8 ?_; refine sq F ?_; refine w9 ?_) | (refine rq F ?_; try refine sq F ?_) | (refine vq F ?_; try refine sq F ?_) | ((first | refine hK _ _ (w0 ?_) | (clear hK K; refine hK _ _ (w0 ?_)) | (clear hK K; clear hK K; refine hK _ _ (w0 ?_))); clear hK K))))
     ·rw [if_pos c3] at hv
      refine aq F ?_
      try refine sq F ?_
      (repeat (first | refine w1 (fun K hK => ?_) | refine w2 ?_ | refine w3 ?_ | ((first | refine w4 ?_ | refine wD ?_ | refine w5 ?_ | refine w6 ?_ | refine w7 ?_); try refine sq F ?_) | (refine w8 ?_; refine sq F ?_; refine w9 ?_) | (refine rq F ?_; try refine sq F ?_) | (refine vq F ?_; try refine sq F ?_) | ((first | refine hK _ _ (w0 ?_) | (clear hK K; refine hK _ _ (w0 ?_)) | (clear hK K; clear hK K; refine hK _ _ (w0 ?_))); clear hK K)))
      refine aq F ?_
      try refine sq F ?_
      (repeat (first | refine w1 (fun K hK => ?_) | refine w2 ?_ | refine w3 ?_ | ((first | refine w4 ?_ | refine wD ?_ | refine w5 ?_ | refine w6 ?_ | refine w7 ?_); try refine sq F ?_) | (refine w8 ?_; refine sq F ?_; refine w9 ?_) | (refine rq F ?_; try refine sq F ?_) | (refine vq F ?_; try refine sq F ?_) | ((first | refine hK _ _ (w0 ?_) | (clear hK K; refine hK _ _ (w0 ?_)) | (clear hK K; clear hK K; refine hK _ _ (w0 ?_))); clear hK K)))
      refine hK2 _ _ _ (Wkn.refl ⟨k + 1, v + 1 + 1, acc ++ [32, y], false, rfl, by simp [runA], ?_, ?_, ?_, by omega, hv, by simp; omega⟩) (by omega)
      all_goals first | exact zq F | rfl | omega | trivial | skip
     ·rw [if_neg (by simp [c3])] at hv
      refine aq F ?_
      try refine sq F ?_
      (repeat (first | refine w1 (fun K hK => ?_) | refine w2 ?_ | refine w3 ?_ | ((first | refine w4 ?_ | refine wD ?_ | refine w5 ?_ | refine w6 ?_ | refine w7 ?_); try refine sq F ?_) | (refine w8 ?_; refine sq F ?_; refine w9 ?_) | (refine rq F ?_; try refine sq F ?_) | (refine vq F ?_; try refine sq F ?_) | ((first | refine hK _ _ (w0 ?_) | (clear hK K; refine hK _ _ (w0 ?_)) | (clear hK K; clear hK K; refine hK _ _ (w0 ?_))); clear hK K)))
      refine hK2 _ _ _ (Wkn.refl ⟨k + 1, v + 1, acc ++ [y], w, rfl, by simp [runA], ?_, ?_, ?_, by omega, by rw [c3]; exact hv, by simp; omega⟩) (by omega)
      all_goals first | exact zq F | rfl | omega | trivial | skip
 ·rw [drop_nil_of c1, clnR] at hv
  (repeat (first | refine w1 (fun K hK => ?_) | refine w2 ?_ | refine w3 ?_ | ((first | refine w4 ?_ | refine wD ?_ | refine w5 ?_ | refine w6 ?_ | refine w7 ?_); try refine sq F ?_) | (refine w8 ?_; refine sq F ?_; refine w9 ?_) | (refine rq F ?_; try refine sq F ?_) | (refine vq F ?_; try refine sq F ?_)))
  have hg : getRow (h ++ [.row 21 1 v (acc.map runA)]) h.length v = some (21, 1, acc.map runA) := by simp [getRow]
  have ht : ∀ (ms : List Nat) (t : Env), 4 ∈ ms → t 4 = .hs h.length v 0 acc.length true → ∀ i, upd t 4 (.sl 1 (acc.map runA)) i = t i ∨ (i ∈ ms ∧ Fz (h ++ [.row 21 1 v (acc.map runA)]) h.length v (t i) (upd t 4 (.sl 1 (acc.map runA)) i)) := fun ms t hm ht i => by
   by_cases hi : i = 4
   ·subst hi
    right
    refine ⟨hm, ?_⟩
    rw [ht]
    simp only [upd, ↓reduceIte]
    exact Fz.all _ _ _ hg rfl (by simp)
   ·left; simp only [upd]; rw [if_neg hi]
  clear hK K
  refine hK _ _ ⟨_, _, Weak.fz h.length v hg (ht _ _ (by decide +kernel) (by exact zq F)), ?_⟩
  clear hK K
  have hset : (h ++ [Blk.row 21 1 v (acc.map runA)]).set h.length Blk.dead = h ++ [Blk.dead] := by simp
  rw [hset]
  (repeat (first | refine w1 (fun K hK => ?_) | refine w2 ?_ | refine w3 ?_ | ((first | refine w4 ?_ | refine wD ?_ | refine w5 ?_ | refine w6 ?_ | refine w7 ?_); try refine sq F ?_) | (refine w8 ?_; refine sq F ?_; refine w9 ?_) | (refine rq F ?_; try refine sq F ?_) | (refine vq F ?_; try refine sq F ?_) | ((first | refine hK _ _ (w0 ?_) | (clear hK K; refine hK _ _ (w0 ?_)) | (clear hK K; clear hK K; refine hK _ _ (w0 ?_))); clear hK K)))
  refine (Put_sat G acc (fun r hr => hcl r (by rw [hdef, ← hv]; exact hr)) (by omega) _).mono ?_
  rintro r h' ⟨rfl, rfl⟩
  try refine sq F ?_
  (repeat (first | refine w1 (fun K hK => ?_) | refine w2 ?_ | refine w3 ?_ | ((first | refine w4 ?_ | refine wD ?_ | refine w5 ?_ | refine w6 ?_ | refine w7 ?_); try refine sq F ?_) | (refine w8 ?_; refine sq F ?_; refine w9 ?_) | (refine rq F ?_; try refine sq F ?_) | (refine vq F ?_; try refine sq F ?_) | ((first | refine hK _ _ (w0 ?_) | (clear hK K; refine hK _ _ (w0 ?_)) | (clear hK K; clear hK K; refine hK _ _ (w0 ?_))); clear hK K)))
  refine ee hQ F ?_
  refine fR (.str _) ?_
  rw [hv]; exact congrArg AVal.str hcf
end Go.Av
namespace Go.Av
open Go Go.Proofs Go.RowKit
set_option maxRecDepth 100000
set_option maxHeartbeats 1000000
def foldB : List Elem → List Elem → List Tok → Option (List Elem × List Elem)
 | os, ds, [] => some (os, ds)
 | os, ds, t :: ts => (stepB os ds t).bind fun q => foldB q.1 q.2 ts
def finB : Option (List Elem × List Elem) → Option Elem
 | some ([], [e]) => some e
 | _ => none
def clsB (st : List Elem) (e : Elem) : List Elem × List Elem :=
 match st.getLast? with
 | none => ([], [e])
 | some p => (st.dropLast ++ [⟨p.name, p.attrs, p.text, p.kids ++ [e]⟩], [])
theorem foldB_nil (os ds : List Elem) : foldB os ds [] = some (os, ds) := rfl
theorem foldB_cons (os ds : List Elem) (t : Tok) (ts : List Tok) : foldB os ds (t :: ts) = (stepB os ds t).bind fun q => foldB q.1 q.2 ts := rfl
theorem foldB_app : ∀ (a b : List Tok) (os ds : List Elem), foldB os ds (a ++ b) = (foldB os ds a).bind fun q => foldB q.1 q.2 b
 | [], b, os, ds => rfl
 | t :: a, b, os, ds => by
  rw [List.cons_append, foldB_cons, foldB_cons]
  cases stepB os ds t with
  | none => rfl
  | some q => simp only [Option.bind_some]; exact foldB_app a b q.1 q.2
theorem clsB_snoc (st : List Elem) (p e : Elem) : clsB (st ++ [p]) e = (st ++ [⟨p.name, p.attrs, p.text, p.kids ++ [e]⟩], []) := by
 unfold clsB; simp
theorem foldB_in : ∀ (f d : Nat) (st : List Elem) (n : Bs) (a : List At) (x : Bs) (k : List Elem) (ts : List Tok), ts.length < f → st.length + d = 31 →
  finB (foldB (st ++ [⟨n, a, x, k⟩]) [] ts) = (elL f d n a x k ts).bind fun q => finB (foldB (clsB st q.1).1 (clsB st q.1).2 q.2) := by
 intro f
 induction f with
 | zero => intro d st n a x k ts h; omega
 | succ f ih =>
  intro d st n a x k ts hf hd
  cases ts with
  | nil =>
   rw [elL_nil, foldB_nil]
   cases st <;> rfl
  | cons t ts =>
   simp only [List.length_cons] at hf
   rw [elL_one, foldB_cons]
   have hlast : (st ++ [(⟨n, a, x, k⟩ : Elem)]).getLast? = some ⟨n, a, x, k⟩ := by simp
   have hdrop : (st ++ [(⟨n, a, x, k⟩ : Elem)]).dropLast = st := by simp
   by_cases h3 : t.1 = 3
   ·have e : stepB (st ++ [⟨n, a, x, k⟩]) [] t = some (st ++ [⟨n, a, x ++ t.2.2.2, k⟩], []) := by
     unfold stepB
     rw [if_neg (by omega), if_neg (by omega), if_pos h3, hlast, hdrop]; rfl
    rw [e, if_pos h3, Option.bind_some]
    exact ih d st n a (x ++ t.2.2.2) k ts (by omega) hd
   ·rw [if_neg h3]
    by_cases h1 : t.1 = 1
    ·rw [if_pos h1]
     by_cases h0 : d = 0
     ·have e : stepB (st ++ [⟨n, a, x, k⟩]) [] t = none := by
       unfold stepB
       rw [if_pos h1, if_neg]
       simp; omega
      rw [e, if_pos h0]; rfl
     ·have e : stepB (st ++ [⟨n, a, x, k⟩]) [] t = some ((st ++ [⟨n, a, x, k⟩]) ++ [⟨t.2.1, t.2.2.1, [], []⟩], []) := by
       unfold stepB
       rw [if_pos h1, if_pos]
       simp; omega
      rw [e, if_neg h0, Option.bind_some]
      simp only []
      rw [ih (d - 1) (st ++ [Elem.mk n a x k]) t.2.1 t.2.2.1 [] [] ts (by omega) (by simp; omega)]
      cases hq : elL f (d - 1) t.2.1 t.2.2.1 [] [] ts with
      | none => rfl
      | some q =>
       have := (elL_suf _ _ _ _ _ _ _ _ hq).2
       simp only [Option.bind_some, clsB_snoc]
       exact ih d st n a x (k ++ [q.1]) q.2 (by omega) hd
    ·rw [if_neg h1]
     by_cases h2 : t.1 = 2
     ·rw [if_pos h2]
      by_cases hn : t.2.1 = n
      ·have e : stepB (st ++ [⟨n, a, x, k⟩]) [] t = some (clsB st ⟨n, a, x, k⟩) := by
        unfold stepB
        rw [if_neg h1, if_pos h2, hlast, hdrop]
        show (if n = t.2.1 then _ else _) = _
        rw [if_pos hn.symm]
        unfold clsB
        cases st.getLast? <;> rfl
       rw [e, if_pos hn]; rfl
      ·have e : stepB (st ++ [⟨n, a, x, k⟩]) [] t = none := by
        unfold stepB
        rw [if_neg h1, if_pos h2, hlast]
        show (if n = t.2.1 then _ else _) = _
        rw [if_neg (Ne.symm hn)]
       rw [e, if_neg hn]; rfl
     ·have e : stepB (st ++ [⟨n, a, x, k⟩]) [] t = none := by
       unfold stepB
       rw [if_neg h1, if_neg h2, if_neg h3]
      rw [e, if_neg h2]; rfl
theorem stepB_out (ds : List Elem) (t : Tok) (h : ds ≠ []) : stepB [] ds t = if blankT t then some ([], ds) else none := by
 unfold stepB blankT
 by_cases h1 : t.1 = 1
 ·rw [if_pos h1, if_neg (fun hc => h hc.2), if_neg (by simp [h1])]
 ·rw [if_neg h1]
  by_cases h2 : t.1 = 2
  ·rw [if_pos h2, if_neg (by simp [h2])]; rfl
  ·rw [if_neg h2]
   by_cases h3 : t.1 = 3
   ·rw [if_pos h3]
    simp [h3]
   ·rw [if_neg h3, if_neg (by simp [h3])]
theorem foldB_end (e : Elem) : ∀ ts : List Tok, finB (foldB [] [e] ts) = if ts.dropWhile blankT = [] then some e else none
 | [] => rfl
 | t :: ts => by
  rw [foldB_cons, stepB_out _ _ (by simp), List.dropWhile_cons]
  cases hb : blankT t with
  | true => simp only [↓reduceIte, Option.bind_some]; exact foldB_end e ts
  | false => rfl
theorem foldB_eq : ∀ ts : List Tok, finB (foldB [] [] ts) = bldF ts
 | [] => rfl
 | t :: ts => by
  unfold bldF
  rw [foldB_cons, List.dropWhile_cons]
  cases hb : blankT t with
  | true =>
   have e : stepB [] [] t = some ([], []) := by
    unfold blankT at hb
    simp only [Bool.and_eq_true, beq_iff_eq] at hb
    unfold stepB
    rw [if_neg (by omega), if_neg (by omega), if_pos hb.2]
    show (if _ then _ else _) = _
    rw [if_pos hb.1]
   rw [e]
   simp only [↓reduceIte, Option.bind_some]
   exact foldB_eq ts
  | false =>
   simp only [Bool.false_eq_true, ↓reduceIte]
   rw [elF_cons]
   by_cases h1 : t.1 = 1
   ·have e : stepB [] [] t = some ([⟨t.2.1, t.2.2.1, [], []⟩], []) := by
     unfold stepB
     rw [if_pos h1, if_pos (by simp)]; rfl
    rw [e, if_pos h1, if_neg (by omega), Option.bind_some]
    have := foldB_in (ts.length + 1) 31 [] t.2.1 t.2.2.1 [] [] ts (by omega) rfl
    rw [List.nil_append] at this
    rw [this]
    show Option.bind (elL (ts.length + 1) 31 _ _ _ _ ts) _ = Option.bind (elL (ts.length + 1) 31 _ _ _ _ ts) _
    congr 1
    funext q
    exact foldB_end q.1 q.2
   ·rw [if_neg h1]
    have e : stepB [] [] t = none := by
     unfold blankT at hb
     unfold stepB
     rw [if_neg h1]
     by_cases h2 : t.1 = 2
     ·rw [if_pos h2]; rfl
     ·rw [if_neg h2]
      by_cases h3 : t.1 = 3
      ·rw [if_pos h3]
       show (if _ then _ else _) = _
       rw [if_neg (by simpa [h3] using hb)]
      ·rw [if_neg h3]
    rw [e]; rfl
theorem szs_last {l : List Elem} {e : Elem} (h : l.getLast? = some e) : szs Elem.sz l = szs Elem.sz l.dropLast + e.sz := by
 rcases List.eq_nil_or_concat l with rfl | ⟨m, o, rfl⟩
 ·cases h
 ·rw [List.concat_eq_append] at *
  simp at h; subst h
  simp [szs_add, szs]
theorem tok_sz_eq (t : Tok) : Tok.sz t = 1 + t.2.1.length + szs At.sz t.2.2.1 + t.2.2.2.length := rfl
theorem elem_sz_mk (n : Bs) (a : List At) (x : Bs) (k : List Elem) : (Elem.mk n a x k).sz = 1 + n.length + szs At.sz a + x.length + szs Elem.sz k := Elem.sz_eq _
theorem stepB_sz {os ds : List Elem} {t : Tok} {q : List Elem × List Elem} (h : stepB os ds t = some q) :
  szs Elem.sz q.1 + szs Elem.sz q.2 ≤ szs Elem.sz os + szs Elem.sz ds + Tok.sz t ∧ (os.length ≤ 32 → q.1.length ≤ 32) := by
 have ht := tok_sz_eq t
 unfold stepB at h
 split at h
 ·split at h
  ·rename_i h1 h2
   cases h
   refine ⟨?_, fun _ => by simp; omega⟩
   simp only [szs_add, szs, elem_sz_mk, List.length_nil]; omega
  ·cases h
 ·split at h
  ·split at h
   ·cases h
   ·rename_i e he
    have h1 := szs_last he
    split at h
    ·split at h
     ·rename_i hn
      cases h
      refine ⟨?_, fun _ => by simp⟩
      simp only [szs_add, szs]; omega
     ·rename_i p hp
      cases h
      have h2 := szs_last hp
      have h3 := Elem.sz_eq p
      refine ⟨?_, fun hl => by simp [List.length_dropLast]; omega⟩
      simp only [szs_add, szs, elem_sz_mk]; omega
    ·cases h
  ·split at h
   ·split at h
    ·split at h
     ·cases h; refine ⟨?_, fun _ => by simp⟩
      simp only [szs]; omega
     ·cases h
    ·rename_i e he
     cases h
     have h1 := szs_last he
     have h3 := Elem.sz_eq e
     have hne : os ≠ [] := by rintro rfl; cases he
     have hl0 : 0 < os.length := List.length_pos_iff.2 hne
     refine ⟨?_, fun hl => by simp [List.length_dropLast]; omega⟩
     simp only [szs_add, szs, elem_sz_mk, List.length_append]; omega
   ·cases h
theorem foldB_sz : ∀ (ts : List Tok) (os ds : List Elem) (q : List Elem × List Elem), foldB os ds ts = some q →
  szs Elem.sz q.1 + szs Elem.sz q.2 ≤ szs Elem.sz os + szs Elem.sz ds + szs Tok.sz ts ∧ (os.length ≤ 32 → q.1.length ≤ 32)
 | [], os, ds, q, h => by cases h; exact ⟨by simp [szs], id⟩
 | t :: ts, os, ds, q, h => by
  rw [foldB_cons] at h
  obtain ⟨p, hp, h⟩ := Option.bind_eq_some_iff.1 h
  have h1 := stepB_sz hp
  have h2 := foldB_sz ts p.1 p.2 q h
  rw [szs]
  exact ⟨by omega, fun hl => h2.2 (h1.2 hl)⟩
theorem bldF_sz {ts : List Tok} {e : Elem} (h : bldF ts = some e) : e.sz ≤ szs Tok.sz ts := by
 rw [← foldB_eq] at h
 cases hq : foldB [] [] ts with
 | none => rw [hq] at h; cases h
 | some q =>
  rw [hq] at h
  have := (foldB_sz ts [] [] q hq).1
  obtain ⟨a, b⟩ := q
  match a, b, h with
  | [], [x], h => cases h; simpa [szs] using this
theorem deepL_up : ∀ (l : List Elem) (d n : Nat), n ≤ 32 → (∀ k ∈ l, deep k (d + 1) ≤ 32) → deepL l d n ≤ 32
 | [], d, n, hn, _ => by rw [deepL]; exact hn
 | k :: l, d, n, hn, h => by
  rw [deepL]
  refine deepL_up l d _ ?_ fun x hx => h x (by simp [hx])
  split
  ·exact h k (by simp)
  ·exact hn
theorem elL_deep : ∀ (f d : Nat) (n : Bs) (a : List At) (x : Bs) (k : List Elem) (ts : List Tok) (q : Elem × List Tok), d ≤ 31 → (∀ c ∈ k, deep c (33 - d) ≤ 32) → elL f d n a x k ts = some q → deep q.1 (32 - d) ≤ 32 := by
 intro f
 induction f with
 | zero => intro d n a x k ts q _ _ h; cases h
 | succ f ih =>
  intro d n a x k ts q hd hk h
  cases ts with
  | nil => rw [elL_nil] at h; cases h
  | cons t ts =>
   rw [elL_one] at h
   split at h
   ·exact ih _ _ _ _ _ _ _ hd hk h
   ·split at h
    ·split at h
     ·cases h
     ·rename_i hd0
      obtain ⟨p, hp, h⟩ := Option.bind_eq_some_iff.1 h
      have h1 := ih _ _ _ _ _ _ _ (by omega) (by simp) hp
      refine ih _ _ _ _ _ _ _ hd ?_ h
      intro c hc
      rcases List.mem_append.1 hc with hc | hc
      ·exact hk c hc
      ·simp at hc; subst hc
       rw [show 33 - d = 32 - (d - 1) by omega]; exact h1
    ·split at h
     ·split at h
      ·cases h
       rw [deep_eq, if_neg (by omega)]
       refine deepL_up _ _ _ (by omega) ?_
       intro c hc
       rw [show 32 - d + 1 = 33 - d by omega]; exact hk c hc
      ·cases h
     ·cases h
theorem bldF_deep {ts : List Tok} {e : Elem} (h : bldF ts = some e) : deep e 1 ≤ 32 := by
 unfold bldF at h
 obtain ⟨q, hq, h⟩ := Option.bind_eq_some_iff.1 h
 split at h
 ·cases h
  generalize ts.dropWhile blankT = u at hq
  cases u with
  | nil => cases hq
  | cons t u =>
   rw [elF_cons] at hq
   split at hq
   ·rw [if_neg (by omega)] at hq
    exact elL_deep _ 31 _ _ _ _ _ _ (by omega) (by simp) hq
   ·cases hq
 ·cases h
end Go.Av
namespace Go.Av
open Go Go.Proofs Go.RowKit
set_option maxRecDepth 100000
set_option maxHeartbeats 1000000
def shortF (s : Bs) (n : Nat) : Bs := cleanF (cutF (cleanF s) n)
def attrS (e : Elem) (n : Bs) (m : Nat) : Bs := shortF (attrF e.attrs n).1 m
def orF (a b c : Bs) : Bs := if a ≠ [] then a else if b ≠ [] then b else c
def bText : Bs := [116, 101, 120, 116]
def bTitle : Bs := [116, 105, 116, 108, 101]
def bUrl : Bs := [120, 109, 108, 85, 114, 108]
def bOutline : Bs := [111, 117, 116, 108, 105, 110, 101]
def bBody : Bs := [98, 111, 100, 121]
def bOpml : Bs := [111, 112, 109, 108]
def titF (k : Elem) : Bs := orF (attrS k bText 256) (attrS k bTitle 256) (shortF (attrS k bUrl 512) 256)
def oneO (g : Elem → List Outl) (k : Elem) : Option Outl :=
 if titF k = [] then none else some ⟨titF k, attrS k bUrl 512, if attrS k bUrl 512 = [] then g k else []⟩
def ofF : Nat → Elem → List Outl
 | 0, _ => []
 | f + 1, e => (kidsF e bOutline).filterMap (oneO (ofF f))
theorem cutF_len (s : Bs) (n : Nat) : (cutF s n).length ≤ n ∧ (cutF s n).length ≤ s.length := by
 have := cutA_le s s.length 0 n (by omega)
 unfold cutA at this
 simp only [List.drop_zero] at this
 unfold cutF
 rw [List.length_take]; omega
theorem shortF_len (s : Bs) (n : Nat) : (shortF s n).length ≤ 8 * n := by
 have h1 := cleanF_len (cutF (cleanF s) n)
 have h2 := (cutF_len (cleanF s) n).1
 unfold shortF; omega
theorem orF_len (a b c : Bs) (n : Nat) (ha : a.length ≤ n) (hb : b.length ≤ n) (hc : c.length ≤ n) : (orF a b c).length ≤ n := by
 unfold orF; split
 ·exact ha
 ·split
  ·exact hb
  ·exact hc
theorem titF_len (k : Elem) : (titF k).length ≤ 2048 := orF_len _ _ _ _ (shortF_len _ _) (shortF_len _ _) (shortF_len _ _)
theorem url_len (k : Elem) : (attrS k bUrl 512).length ≤ 4096 := shortF_len _ _
theorem filter_sz (p : Elem → Bool) (l : List Elem) : szs Elem.sz (l.filter p) ≤ szs Elem.sz l := by
 induction l with
 | nil => exact Nat.le_refl _
 | cons x l ih => rw [List.filter_cons]; split <;> simp only [szs] <;> omega
theorem kidsF_szs (e : Elem) (n : Bs) : szs Elem.sz (kidsF e n) + 1 ≤ e.sz := by
 have h1 := filter_sz (fun k => decide (short k.name = n)) e.kids
 have h2 := e.sz_eq
 unfold kidsF; omega
def textO (s : Bs) (m : Nat) : Bool := decide (s.length ≤ m) && rightS s && decide (cleanF s = s)
def oneOk (o : Outl) : Bool := decide (o.title ≠ []) && textO o.title 256 && textO o.url 512 && (decide (o.url = []) || decide (o.kids = []))
def cntGo (g : List Outl → Nat) : List Outl → Nat → Nat
 | [], n => n
 | o :: t, n => if oneOk o then (if 512 < n + g o.kids then n + g o.kids else cntGo g t (n + g o.kids)) else 513
def cntN : Nat → List Outl → Nat
 | 0, l => if l = [] then 0 else 513
 | f + 1, l => if 512 < l.length then 513 else cntGo (cntN f) l l.length
def mayGo (g : List Outl → Nat → Nat × Bool) : List Outl → Nat → Nat × Bool
 | [], n => (n, true)
 | o :: t, n => if n + 1 ≤ 512 ∧ oneOk o = true then (if (g o.kids (n + 1)).2 then mayGo g t (g o.kids (n + 1)).1 else ((g o.kids (n + 1)).1, false)) else (n + 1, false)
def mayN : Nat → List Outl → Nat → Nat × Bool
 | 0, l, n => if l = [] then (n, true) else (n, false)
 | f + 1, l, n => mayGo (mayN f) l n
theorem mayGo_ge (g : List Outl → Nat → Nat × Bool) (hg : ∀ l n, n ≤ 512 → (g l n).2 = true → n ≤ (g l n).1 ∧ (g l n).1 ≤ 512) : ∀ (t : List Outl) (m : Nat), m ≤ 512 → (mayGo g t m).2 = true → m + t.length ≤ (mayGo g t m).1 ∧ (mayGo g t m).1 ≤ 512
 | [], m, hm, _ => ⟨by simp [mayGo], hm⟩
 | o :: t, m, hm, h => by
  rw [mayGo] at h ⊢
  by_cases h1 : m + 1 ≤ 512 ∧ oneOk o = true
  ·rw [if_pos h1] at h ⊢
   by_cases h2 : (g o.kids (m + 1)).2 = true
   ·rw [if_pos h2] at h ⊢
    have a := hg o.kids (m + 1) h1.1 h2
    have b := mayGo_ge g hg t _ a.2 h
    simp only [List.length_cons]; omega
   ·rw [if_neg h2] at h; cases h
  ·rw [if_neg h1] at h; cases h
theorem mayN_ge : ∀ (f : Nat) (l : List Outl) (n : Nat), n ≤ 512 → (mayN f l n).2 = true → n ≤ (mayN f l n).1 ∧ (mayN f l n).1 ≤ 512 := by
 intro f
 induction f with
 | zero =>
  intro l n hn h
  rw [mayN] at h ⊢
  by_cases hl : l = []
  ·rw [if_pos hl]; exact ⟨Nat.le_refl _, hn⟩
  ·rw [if_neg hl] at h; cases h
 | succ f ih =>
  intro l n hn h
  rw [mayN] at h ⊢
  have := mayGo_ge (mayN f) ih l n hn h
  omega
theorem cntGo_ge (g : List Outl → Nat) : ∀ (t : List Outl) (a : Nat), a ≤ 512 → a ≤ cntGo g t a
 | [], a, _ => Nat.le_refl _
 | o :: t, a, ha => by
  rw [cntGo]
  split
  ·split
   ·omega
   ·have := cntGo_ge g t (a + g o.kids) (by omega); omega
  ·omega
theorem may_cnt : ∀ (f : Nat) (l : List Outl) (n : Nat), n ≤ 512 → ((mayN f l n).2 = true ↔ n + cntN f l ≤ 512) ∧ ((mayN f l n).2 = true → (mayN f l n).1 = n + cntN f l) := by
 intro f
 induction f with
 | zero =>
  intro l n hn
  rw [mayN, cntN]
  by_cases hl : l = []
  ·rw [if_pos hl, if_pos hl]; simp; omega
  ·rw [if_neg hl, if_neg hl]; simp
 | succ f ih =>
  intro l n hn
  have key : ∀ (t : List Outl) (a m : Nat), a ≤ 512 → m ≤ 512 → m + t.length = n + a → ((mayGo (mayN f) t m).2 = true ↔ n + cntGo (cntN f) t a ≤ 512) ∧ ((mayGo (mayN f) t m).2 = true → (mayGo (mayN f) t m).1 = n + cntGo (cntN f) t a) := by
   intro t
   induction t with
   | nil =>
    intro a m ha hm he
    simp only [List.length_nil, Nat.add_zero] at he
    rw [mayGo, cntGo]; simp; omega
   | cons o t iht =>
    intro a m ha hm he
    simp only [List.length_cons] at he
    have hge := cntGo_ge (cntN f) (o :: t) a ha
    by_cases h1 : m + 1 ≤ 512
    ·by_cases h2 : oneOk o = true
     ·have hi := ih o.kids (m + 1) h1
      rw [mayGo, if_pos ⟨h1, h2⟩, cntGo, if_pos h2]
      by_cases hq : (mayN f o.kids (m + 1)).2 = true
      ·rw [if_pos hq]
       have e1 := hi.2 hq
       have e2 := mayN_ge f o.kids (m + 1) h1 hq
       by_cases h3 : 512 < a + cntN f o.kids
       ·rw [if_pos h3]
        have no : ¬ (mayGo (mayN f) t (mayN f o.kids (m + 1)).1).2 = true := fun hh => by
         have := mayGo_ge (mayN f) (mayN_ge f) t _ e2.2 hh
         omega
        exact ⟨⟨fun hh => absurd hh no, fun hh => by omega⟩, fun hh => absurd hh no⟩
       ·rw [if_neg h3]
        exact iht _ _ (by omega) e2.2 (by omega)
      ·rw [if_neg hq]
       have e1 : ¬ (m + 1 + cntN f o.kids ≤ 512) := fun hh => hq (hi.1.2 hh)
       refine ⟨⟨fun hh => (by cases hh), fun hh => ?_⟩, fun hh => (by cases hh)⟩
       exfalso
       split at hh
       ·omega
       ·rename_i h3
        have := cntGo_ge (cntN f) t (a + cntN f o.kids) (by omega)
        omega
     ·rw [mayGo, if_neg (fun hh => h2 hh.2), cntGo, if_neg h2]
      exact ⟨⟨fun hh => (by cases hh), fun hh => (by omega)⟩, fun hh => (by cases hh)⟩
    ·rw [mayGo, if_neg (fun hh => h1 hh.1)]
     exact ⟨⟨fun hh => (by cases hh), fun hh => (by omega)⟩, fun hh => (by cases hh)⟩
  rw [mayN, cntN]
  by_cases hl : 512 < l.length
  ·rw [if_pos hl]
   have no : ¬ (mayGo (mayN f) l n).2 = true := fun hh => by
    have := mayGo_ge (mayN f) (mayN_ge f) l n hn hh; omega
   exact ⟨⟨fun hh => absurd hh no, fun hh => by omega⟩, fun hh => absurd hh no⟩
  ·rw [if_neg hl]
   exact key l l.length n (by omega) hn (by omega)
end Go.Av
namespace Go.Av
open Go Go.Proofs Go.RowKit
attribute [local irreducible] WP WPl WPix Sat
set_option maxRecDepth 100000
set_option maxHeartbeats 1000000
variable (G : Nat → Option (List AVal))
theorem PshortO_sat (s : Bs) (n : Nat) (hs : s.length ≤ 700000) (hn : n ≤ 1000) (h : Heap) : Sat (CT G) 91 [.str s, .int .i64 n] h (fun r h' => r = .str (shortF s n) ∧ h' = h) := by
 have h1 := cleanF_len s
 have h2 := (cutF_len (cleanF s) n).1
 refine sb [.tmp 4] (fn := Tryz.f91) Tryz.func91 ?_
 intro Q hQ
 refine wk trivial ?_
 refine kq trivial (PClean_sat G s (by omega) _) ?_
 refine kq trivial (PCut_sat G (cleanF s) n (by omega) (by omega) _) ?_
 refine kq trivial (PClean_sat G (cutF (cleanF s) n) (by omega) _) ?_
 refine ee hQ trivial ?_
 refine fR (.str _) ?_
 rfl
theorem rShort10_sat (s : Bs) (n : Nat) (hs : s.length ≤ 100000) (hn : n ≤ 1000) (h : Heap) : Sat (CT G) 93 [.str s, .int .i64 n] h (fun r h' => r = .str (shortF s n) ∧ h' = h) := by
 have h1 := cleanF_len s
 have h2 := (cutF_len (cleanF s) n).1
 refine sb [.tmp 4] (fn := Tryz.f93) Tryz.func93 ?_
 intro Q hQ
 refine wk trivial ?_
 refine kq trivial (rClean_sat G s (by omega) _) ?_
 refine kq trivial (rCut_sat G (cleanF s) n (by omega) (by omega) _) ?_
 refine kq trivial (rClean_sat G (cutF (cleanF s) n) (by omega) _) ?_
 refine ee hQ trivial ?_
 refine fR (.str _) ?_
 rfl
theorem attrF_len (n : Bs) : ∀ l : List At, (attrF l n).1.length ≤ szs At.sz l
 | [] => by simp [attrF]
 | a :: l => by
  have := attrF_len n l
  have h2 : At.sz a = 1 + a.1.length + a.2.length := rfl
  rw [attrF, szs]
  split
  ·simp only []; omega
  ·omega
theorem PattrO_sat (e : Elem) (n : Bs) (m : Nat) (hs : e.sz ≤ 700000) (hm : m ≤ 1000) (h : Heap) : Sat (CT G) 89 [e.av, .str n, .int .i64 m] h (fun r h' => r = .str (attrS e n m) ∧ h' = h) := by
 have h1 := attrF_len n e.attrs
 have h2 := e.sz_eq
 refine sb [.tmp 6] (fn := Tryz.f89) Tryz.func89 ?_
 intro Q hQ
 refine wk trivial ?_
 refine kq trivial (PAttr_sat G e n (by omega) _) ?_
 refine kq trivial (PshortO_sat G (attrF e.attrs n).1 m (by omega) hm _) ?_
 refine ee hQ trivial ?_
 refine fR (.str _) ?_
 rfl
theorem rattrO_sat (e : Elem) (n : Bs) (m : Nat) (hs : e.sz ≤ 100000) (hm : m ≤ 1000) (h : Heap) : Sat (CT G) 92 [e.av, .str n, .int .i64 m] h (fun r h' => r = .str (attrS e n m) ∧ h' = h) := by
 have h1 := attrF_len n e.attrs
 have h2 := e.sz_eq
 refine sb [.tmp 6] (fn := Tryz.f92) Tryz.func92 ?_
 intro Q hQ
 refine wk trivial ?_
 refine kq trivial (Attr_sat G e n (by omega) _) ?_
 refine kq trivial (rShort10_sat G (attrF e.attrs n).1 m (by omega) hm _) ?_
 refine ee hQ trivial ?_
 refine fR (.str _) ?_
 rfl
theorem PtextO_sat (s : Bs) (m : Nat) (hs : s.length ≤ 100000) (h : Heap) : Sat (CT G) 121 [.str s, .int .i64 m] h (fun r h' => r = .bool (textO s m) ∧ h' = h) := by
 refine sb [.tmp 4] (fn := Tryz.f121) Tryz.func121 ?_
 intro Q hQ
 refine wk trivial ?_
 (first | refine gq trivial (fun g1 => ?_) (fun g1 => ?_) | refine pq trivial (fun g1 => ?_) (fun g1 => ?_)) <;> (try exact g1.elim) <;> (try refine sq trivial ?_) <;> (refine wk trivial ?_)
 ·refine kq trivial (PRight_sat G s (by omega) _) ?_
  (first | refine gq trivial (fun g2 => ?_) (fun g2 => ?_) | refine pq trivial (fun g2 => ?_) (fun g2 => ?_)) <;> (try exact g2.elim) <;> (try refine sq trivial ?_) <;> (refine wk trivial ?_)
  ·refine kq trivial (PClean_sat G s (by omega) _) ?_
   refine ee hQ trivial ?_
   refine fR (.bool _) ?_
   unfold textO
   rw [decide_eq_true (show s.length ≤ m by omega), g2, Bool.true_and, Bool.true_and]
   congr 1
   rw [Bool.eq_iff_iff]; simp
  ·refine ee hQ trivial ?_
   refine fR (.bool _) ?_
   unfold textO
   rw [g2]; simp
 ·refine ee hQ trivial ?_
  refine fR (.bool _) ?_
  unfold textO
  rw [decide_eq_false (show ¬ s.length ≤ m by omega)]; simp
theorem rtextO_sat (s : Bs) (m : Nat) (hs : s.length ≤ 100000) (h : Heap) : Sat (CT G) 96 [.str s, .int .i64 m] h (fun r h' => r = .bool (textO s m) ∧ h' = h) := by
 refine sb [.tmp 4] (fn := Tryz.f96) Tryz.func96 ?_
 intro Q hQ
 refine wk trivial ?_
 (first | refine gq trivial (fun g1 => ?_) (fun g1 => ?_) | refine pq trivial (fun g1 => ?_) (fun g1 => ?_)) <;> (try exact g1.elim) <;> (try refine sq trivial ?_) <;> (refine wk trivial ?_)
 ·refine kq trivial (rRight_sat G s (by omega) _) ?_
  (first | refine gq trivial (fun g2 => ?_) (fun g2 => ?_) | refine pq trivial (fun g2 => ?_) (fun g2 => ?_)) <;> (try exact g2.elim) <;> (try refine sq trivial ?_) <;> (refine wk trivial ?_)
  ·refine kq trivial (rClean_sat G s (by omega) _) ?_
   refine ee hQ trivial ?_
   refine fR (.bool _) ?_
   unfold textO
   rw [decide_eq_true (show s.length ≤ m by omega), g2, Bool.true_and, Bool.true_and]
   congr 1
   rw [Bool.eq_iff_iff]; simp
  ·refine ee hQ trivial ?_
   refine fR (.bool _) ?_
   unfold textO
   rw [g2]; simp
 ·refine ee hQ trivial ?_
  refine fR (.bool _) ?_
  unfold textO
  rw [decide_eq_false (show ¬ s.length ≤ m by omega)]; simp
theorem PoneO_sat (o : Outl) (ht : o.title.length ≤ 100000) (hu : o.url.length ≤ 100000) (h : Heap) : Sat (CT G) 94 [o.av] h (fun r h' => r = .bool (oneOk o) ∧ h' = h) := by
 have hkl : o.kids.length = 0 ↔ o.kids = [] := List.length_eq_zero_iff
 refine sb [.tmp 2] (fn := Tryz.f94) Tryz.func94 ?_
 intro Q hQ
 refine wk trivial ?_
 (first | refine gq trivial (fun g1 => ?_) (fun g1 => ?_) | refine pq trivial (fun g1 => ?_) (fun g1 => ?_)) <;> (try exact g1.elim) <;> (try refine sq trivial ?_) <;> (refine wk trivial ?_)
 ·refine kq trivial (PtextO_sat G o.title 256 (by omega) _) ?_
  (first | refine gq trivial (fun g2 => ?_) (fun g2 => ?_) | refine pq trivial (fun g2 => ?_) (fun g2 => ?_)) <;> (try exact g2.elim) <;> (try refine sq trivial ?_) <;> (refine wk trivial ?_)
  ·refine kq trivial (PtextO_sat G o.url 512 (by omega) _) ?_
   (first | refine gq trivial (fun g3 => ?_) (fun g3 => ?_) | refine pq trivial (fun g3 => ?_) (fun g3 => ?_)) <;> (try exact g3.elim) <;> (try refine sq trivial ?_) <;> (refine wk trivial ?_)
   ·(first | refine gq trivial (fun g4 => ?_) (fun g4 => ?_) | refine pq trivial (fun g4 => ?_) (fun g4 => ?_)) <;> (try exact g4.elim) <;> (try refine sq trivial ?_) <;> (refine wk trivial ?_)
    ·refine ee hQ trivial ?_
     refine fR (.bool _) ?_
     unfold oneOk
     rw [g2, g3]; simp [g1, g4]
    ·refine ee hQ trivial ?_
     refine fR (.bool _) ?_
     unfold oneOk
     rw [g2, g3]; simp [g1, g4]
     rw [Bool.eq_iff_iff]; simp
   ·refine ee hQ trivial ?_
    refine fR (.bool _) ?_
    unfold oneOk
    rw [g3]; simp
  ·refine ee hQ trivial ?_
   refine fR (.bool _) ?_
   unfold oneOk
   rw [g2]; simp
 ·refine ee hQ trivial ?_
  refine fR (.bool _) ?_
  unfold oneOk
  simp [g1]
theorem Or_sat (a b c : Bs) (h : Heap) : Sat (CT G) 90 [.sl 1 [.str a, .str b, .str c]] h (fun r h' => r = .str (orF a b c) ∧ h' = h) := by
 refine sb [.tmp 2] (fn := Tryz.f90) Tryz.func90 ?_
 intro Q hQ
 refine wk trivial ?_
 refine lm (fun nL tL hL => ∃ (k : Nat), 3 - k = nL ∧ h = hL ∧ tL 8 = .int .i64 k ∧ k ≤ 3 ∧ (1 ≤ k → a = []) ∧ (2 ≤ k → b = []) ∧ (3 ≤ k → c = [])) ((fun (k : Nat) => (3 - k : Nat)) (0)) ?_ ?_
 ·refine Wkn.refl ⟨0, rfl, hpE, ?_, by omega, fun h => by omega, fun h => by omega, fun h => by omega⟩
  all_goals first | exact zq trivial | rfl | omega | trivial | skip
 rintro _ s2 h' ⟨k, rfl, rfl, e8, hk, h0, h1, h2⟩ K2 hK2
 simp only [mix_cons, mix_nil, Nat.reduceEqDiff, ↓reduceIte] at e8
 have F := e8
 refine wk F ?_
 refine cq F (fun c1 => ?_) (fun c1 => ?_) <;> (try exact c1.elim) <;> (refine wk F ?_)
 ·obtain ⟨y, hy, hyv⟩ : ∃ y : Bs, ([.str a, .str b, .str c] : List AVal)[k]? = some (.str y) ∧ ((k = 0 ∧ y = a) ∨ (k = 1 ∧ y = b) ∨ (k = 2 ∧ y = c)) := by
   match k, c1 with
   | 0, _ => exact ⟨a, rfl, .inl ⟨rfl, rfl⟩⟩
   | 1, _ => exact ⟨b, rfl, .inr (.inl ⟨rfl, rfl⟩)⟩
   | 2, _ => exact ⟨c, rfl, .inr (.inr ⟨rfl, rfl⟩)⟩
   | k + 3, c1 => exfalso; omega
  have F := F2 F hy
  try refine sq F ?_
  refine wk F ?_
  refine cq F (fun c2 => ?_) (fun c2 => ?_) <;> (try exact c2.elim) <;> (refine wk F ?_)
  ·refine ee hQ F ?_
   refine fR (.str _) ?_
   unfold orF
   rcases hyv with ⟨rfl, rfl⟩ | ⟨rfl, rfl⟩ | ⟨rfl, rfl⟩
   ·rw [if_pos c2]
   ·rw [if_neg (by simp [h0 (by omega)]), if_pos c2]
   ·rw [if_neg (by simp [h0 (by omega)]), if_neg (by simp [h1 (by omega)])]
  ·have c3 : y = [] := by simpa using c2
   have n0 : 1 ≤ k + 1 → a = [] := fun hh => by
    rcases hyv with ⟨rfl, rfl⟩ | ⟨rfl, rfl⟩ | ⟨rfl, rfl⟩
    ·exact c3
    ·exact h0 (by omega)
    ·exact h0 (by omega)
   have n1 : 2 ≤ k + 1 → b = [] := fun hh => by
    rcases hyv with ⟨rfl, rfl⟩ | ⟨rfl, rfl⟩ | ⟨rfl, rfl⟩
    ·omega
    ·exact c3
    ·exact h1 (by omega)
   have n2 : 3 ≤ k + 1 → c = [] := fun hh => by
    rcases hyv with ⟨rfl, rfl⟩ | ⟨rfl, rfl⟩ | ⟨rfl, rfl⟩
    ·omega
    ·omega
    ·exact c3
   refine hK2 _ _ _ (Wkn.refl ⟨k + 1, rfl, hpE, ?_, by omega, n0, n1, n2⟩) (by omega)
   all_goals first | exact zq F | rfl | omega | trivial | skip
 ·have h3 := h2 (by omega)
  subst h3
  refine wk F ?_
  refine ee hQ F ?_
  refine fR (.str _) ?_
  unfold orF
  rw [h0 (by omega), h1 (by omega)]; rfl
end Go.Av
namespace Go.Av
open Go Go.Proofs Go.RowKit
attribute [local irreducible] WP WPl WPix Sat
set_option maxRecDepth 100000
set_option maxHeartbeats 1000000
variable (G : Nat → Option (List AVal))
theorem FrN.split {h H : Heap} (g : FrN h.length h H) (hl : h.length ≤ H.length) : ∃ j, H = h ++ j := by
 refine ⟨H.drop h.length, List.ext_getElem? fun i => ?_⟩
 by_cases hi : i < h.length
 ·rw [List.getElem?_append_left hi]; exact g i hi
 ·rw [List.getElem?_append_right (by omega), List.getElem?_drop]; congr 1; omega
def PBldR (h : Heap) (l : List Tok) (r : AVal) (h' : Heap) : Prop :=
 ∃ e : Elem, r = .tup [e.av, .int .i64 (if (bldF l).isSome then 0 else 90)] ∧ (∀ x, bldF l = some x → e = x) ∧ (bldF l = none → e = ⟨[], [], [], []⟩) ∧ h' = h
theorem PBldR.bad {h H : Heap} {l : List Tok} (g : FrN h.length h H) (hl : h.length ≤ H.length) (e : bldF l = none) : Fin h H (PBldR h l) (.tup [.agg [.str [], .nil (.slice none 0 0), .str [], .nil (.slice none 0 0)], .int .i64 90]) := by
 obtain ⟨j, rfl⟩ := g.split hl
 have z : Frz (h ++ j) h.length (.agg [.str [], .nil (.slice none 0 0), .str [], .nil (.slice none 0 0)]) (Elem.av ⟨[], [], [], []⟩) := by
  rw [Elem.av_eq]
  exact FrzL.agg (.cons (.clo _ (.str _)) (.cons (.nils 2) (.cons (.clo _ (.str _)) (.cons (.nils 4) .nil)))) rfl
 exact Fin.frz (FrzL.tup (.cons z (.cons (.clo _ (.int _ _)) .nil))) ⟨_, by rw [e]; rfl, (fun x hx => by rw [e] at hx; cases hx), fun _ => rfl, rfl⟩
theorem szs_kids (l : List OE) : ∀ o ∈ l, o.k.length ≤ szs Elem.sz (l.map OE.el) ∧ o.t.length ≤ szs Elem.sz (l.map OE.el) := by
 intro o ho
 have h1 := szs_mem Elem.sz (List.mem_map_of_mem (f := OE.el) ho)
 have h2 := elem_sz_mk o.n o.a o.t o.k
 have h3 := szs_len Elem.sz Elem.sz_pos o.k
 have h4 : (OE.el o).sz = (Elem.mk o.n o.a o.t o.k).sz := rfl
 omega
theorem foldB_snoc {l : List Tok} {k : Nat} {t : Tok} {q : List Elem × List Elem} (hy : l[k]? = some t) (hq : foldB [] [] (l.take k) = some q) : foldB [] [] (l.take (k + 1)) = stepB q.1 q.2 t := by
 have e : l.take (k + 1) = l.take k ++ [t] := by rw [List.take_add_one, hy]; rfl
 rw [e, foldB_app, hq, Option.bind_some]
 show (stepB q.1 q.2 t).bind _ = _
 cases stepB q.1 q.2 t <;> rfl
theorem foldB_stop {l : List Tok} {k : Nat} (h : foldB [] [] (l.take k) = none) : bldF l = none := by
 rw [← foldB_eq]
 have : l = l.take k ++ l.drop k := (List.take_append_drop k l).symm
 rw [this, foldB_app, h]; rfl
theorem PBuild_sat (hG : GOk G) (hC : GClo (CT G)) (l : List Tok) (hs : szs Tok.sz l ≤ 1048576) (h : Heap) : Sat (CT G) 45 [.sl 4 (l.map Tok.av)] h (PBldR h l) := by
 have hll := szs_len Tok.sz Tok.sz_pos l
 refine sb [.cell 2 26, .tmp 3] (fn := Tryz.f45) Tryz.func45 ?_
 intro Q hQ
 refine wk trivial ?_
 have g0 : getRow (h ++ [.row 26 4 0 [.agg [.str [], .nil (.slice none 0 0), .str [], .nil (.slice none 0 0)]], .row 106 2 0 [.agg [.nil (.slice none 0 0), .nil (.slice none 0 0)]]]) (h.length + 1) 0 = some (106, 2, [.agg [.nil (.slice none 0 0), .nil (.slice none 0 0)]]) := by
  rw [gs_new _ rfl]; rfl
 obtain ⟨H1, hw, hfr, po, pd, hb⟩ := BH.start (C := CT G) (n0 := h.length + 1) g0 (Nat.le_refl _)
 have keep : ∀ hh : Heap, FrN (h.length + 1) (h ++ [.row 26 4 0 [.agg [.str [], .nil (.slice none 0 0), .str [], .nil (.slice none 0 0)]]]) hh → getRow hh h.length 0 = some (26, 4, [.agg [.str [], .nil (.slice none 0 0), .str [], .nil (.slice none 0 0)]]) := fun hh g => by
  unfold getRow
  rw [g h.length (by omega)]
  simp
 have hf0 : FrN (h.length + 1) (h ++ [.row 26 4 0 [.agg [.str [], .nil (.slice none 0 0), .str [], .nil (.slice none 0 0)]]]) H1 ∧ h.length + 1 < H1.length := by
  refine ⟨fun p hp => ?_, by have := hfr.2; simp at this; omega⟩
  rw [hfr.1 p hp]
  rw [show ∀ A B : Blk, h ++ [A, B] = (h ++ [A]) ++ [B] from fun A B => by simp, List.getElem?_append_left (by simp; omega)]
 have base : ∀ H : Heap, FrN (h.length + 1) (h ++ [.row 26 4 0 [.agg [.str [], .nil (.slice none 0 0), .str [], .nil (.slice none 0 0)]]]) H → FrN h.length h H := fun H g p hp => by
  rw [g p (by omega), List.getElem?_append_left hp]
 refine lm (fun nL tL hL => ∃ (k : Nat) (hh : Heap) (os : List OE) (ds : List Elem), l.length - k = nL ∧ hh = hL ∧ tL 11 = .int .i64 k ∧ k ≤ l.length ∧ foldB [] [] (l.take k) = some (os.map OE.el, ds) ∧ (FrN (h.length + 1) (h ++ [.row 26 4 0 [.agg [.str [], .nil (.slice none 0 0), .str [], .nil (.slice none 0 0)]]]) hh ∧ h.length + 1 < hh.length) ∧ (∃ po vo room pd vd, BH hh (h.length + 1) (h.length + 1) po vo room os pd vd ds)) ((fun (k : Nat) (hh : Heap) (os : List OE) (ds : List Elem) => (l.length - k : Nat)) (0) (H1) ([]) ([])) ?_ ?_
 ·refine ⟨_, _, (hw _ _), ⟨0, H1, [], [], rfl, hpE, ?_, by omega, rfl, hf0, ⟨po, 0, true, pd, 0, hb⟩⟩⟩
  all_goals first | exact zq trivial | rfl | omega | trivial | skip
 rintro _ s2 h' ⟨k, hh, os, ds, rfl, rfl, e11, hk, hq, hf, hb⟩ K2 hK2
 simp only [mix_cons, mix_nil, Nat.reduceEqDiff, ↓reduceIte] at e11
 have F := e11
 refine wk F ?_
 obtain ⟨po, vo, room, pd, vd, hb⟩ := hb
 obtain ⟨hf, hfl⟩ := hf
 have hcell := keep hh hf
 have hsz := foldB_sz _ _ _ _ hq
 have hkd := szs_kids os
 have hln := hsz.2 (by simp)
 have htk : szs Tok.sz (l.take k) ≤ szs Tok.sz l := by
  conv => rhs; rw [← List.take_append_drop k l, szs_add]
  omega
 have hdl := szs_len Elem.sz Elem.sz_pos ds
 simp only [szs, List.length_map] at hsz hln
 refine cq F (fun c2 => ?_) (fun c2 => ?_) <;> (try exact c2.elim) <;> (refine wk F ?_)
 ·obtain ⟨y, hy, hym⟩ := getElem?_of_lt c2
  have hys := szs_mem Tok.sz hym
  have F := F2 F hy
  try refine sq F ?_
  refine wk F ?_
  refine (badd_sat G hG hC y (by omega) (hb.app _) (by omega) (by omega) (fun o ho => by have := (hkd o ho).1; omega) (fun o ho => by have := (hkd o ho).2; omega)).mono ?_
  intro r h' gp
  have hs := foldB_snoc hy hq
  simp only [] at hs
  rw [← hs] at gp
  obtain ⟨⟨gf, gl⟩, gp⟩ := gp
  have hf2 : FrN (h.length + 1) (h ++ [.row 26 4 0 [.agg [.str [], .nil (.slice none 0 0), .str [], .nil (.slice none 0 0)]]]) h' := hf.trans (fun p hp => by rw [gf p hp, List.getElem?_append_left (by omega)])
  rw [List.length_append] at gl
  have hcell2 := keep h' hf2
  cases hc : foldB [] [] (l.take (k + 1)) with
  | none =>
   rw [hc] at gp
   subst gp
   have F := F2 F @hcell2
   try refine sq F ?_
   refine wk F ?_
   refine ye hQ (F3 F @gs_eq (gr_lt hcell2)) ?_
   exact PBldR.bad ((base _ hf2).trans (fun p hp => List.getElem?_set_ne (by omega))) (by simp; omega) (foldB_stop hc)
  | some q =>
   rw [hc] at gp
   obtain ⟨rfl, po2, vo2, room2, os2, pd2, vd2, hb2, ho2⟩ := gp
   obtain ⟨q1, q2⟩ := q
   simp only [] at hb2 ho2
   subst ho2
   try refine sq F ?_
   refine wk F ?_
   refine hK2 _ _ _ (Wkn.refl ⟨k + 1, h', os2, q2, rfl, hpE, ?_, by omega, hc, ⟨hf2, by omega⟩, ⟨po2, vo2, room2, pd2, vd2, hb2⟩⟩) (by omega)
   all_goals first | exact zq F | rfl | omega | trivial | skip
 ·rw [List.take_of_length_le (by omega)] at hq
  have hB := foldB_eq l
  rw [hq] at hB
  have hbb := hb.b
  have hbd := hb.d
  have hbo := hb.o
  have F := F6 F hbb hbd hbo @hcell (@Option.isSome_some (TypeId × Nat × List AVal))
  try refine sq F ?_
  have hfin : ∀ x : Elem, ds = [x] → bldF l = some x → Fin h (hh.set h.length (.row 26 4 0 [x.av])) (PBldR h l) (.tup [x.av, .int .i64 0]) := fun x e1 e2 => by
   obtain ⟨j, hj⟩ := FrN.split (H := hh.set h.length (.row 26 4 0 [x.av])) ((base _ hf).trans (fun p hp => List.getElem?_set_ne (by omega))) (by simp; omega)
   rw [hj]
   exact Fin.plain (.tup _ (by intro c hc; simp at hc; rcases hc with rfl | rfl; exact Elem.clo _ _; exact .int _ _)) ⟨x, by rw [e2]; rfl, (fun y hy => by rw [e2] at hy; exact Option.some.inj hy), (fun hn => by rw [e2] at hn; cases hn), rfl⟩
  have hbad : bldF l = none → Fin h (hh.set h.length (.row 26 4 0 [.agg [.str [], .nil (.slice none 0 0), .str [], .nil (.slice none 0 0)]])) (PBldR h l) (.tup [.agg [.str [], .nil (.slice none 0 0), .str [], .nil (.slice none 0 0)], .int .i64 90]) := fun e => PBldR.bad ((base _ hf).trans (fun p hp => List.getElem?_set_ne (by omega))) (by simp; omega) e
  (first | refine gq F (fun g1 => ?_) (fun g1 => ?_) | refine pq F (fun g1 => ?_) (fun g1 => ?_)) <;> (try exact g1.elim) <;> (try refine sq F ?_) <;> (refine wk F ?_)
  ·refine ye hQ (F3 F @gs_eq (gr_lt hcell)) ?_
   refine hbad ?_
   rw [← hB]
   match os, ds, g1 with
   | [], [], _ => rfl
   | [], [x], g1 => exact absurd rfl g1
   | [], x :: y :: z, _ => rfl
   | o :: z, _, _ => rfl
  ·obtain ⟨x, rfl⟩ : ∃ x, ds = [x] := List.length_eq_one_iff.1 (by omega)
   have hdx : ([x].map Elem.av)[0]? = some x.av := rfl
   have F := F2 F hdx
   try refine sq F ?_
   refine cq F (fun g2 => ?_) (fun g2 => ?_) <;> (try exact g2.elim) <;> (refine wk F ?_)
   ·refine ye hQ (F3 F @gs_eq (gr_lt hcell)) ?_
    refine hbad ?_
    rw [← hB]
    match os, g2 with
    | [], g2 => simp at g2
    | o :: z, _ => rfl
   ·refine ye hQ (F3 F @gs_eq (gr_lt hcell)) ?_
    have ho : os = [] := List.length_eq_zero_iff.1 (by omega)
    subst ho
    exact hfin x rfl hB.symm
end Go.Av
namespace Go.Av
open Go Go.Proofs Go.RowKit
attribute [local irreducible] WP WPl WPix Sat
set_option maxRecDepth 100000
set_option maxHeartbeats 1000000
variable (G : Nat → Option (List AVal))
theorem Frz.outls {h : Heap} {n q v e : Nat} {l : List Outl} {len : Nat} {room : Bool} (hq : n ≤ q) (hg : getRow h q v = some (e, 3, l.map Outl.av)) (hlen : len = l.length) : Frz h n (.hs q v 0 len room) (.sl 3 (l.map Outl.av)) :=
 Frz.data hq hg (by simpa using hlen) (fun r hr => by obtain ⟨a, _, rfl⟩ := List.mem_map.1 hr; exact Outl.clo _ a) (fun r hr => by obtain ⟨a, _, rfl⟩ := List.mem_map.1 hr; exact a.av_sto)
theorem wk_outl (t u : Bs) : WkR (.agg [.str t, .str u, .nil (.slice none 0 0)]) (.agg [.str t, .str u, .sl 3 []]) := by
 refine ⟨rfl, fun j c d hc hd => ?_⟩
 match j with
 | 0 => simp [AVal.cells] at hc hd; subst hc; subst hd; exact ⟨Wk.refl _, id⟩
 | 1 => simp [AVal.cells] at hc hd; subst hc; subst hd; exact ⟨Wk.refl _, id⟩
 | 2 => simp [AVal.cells] at hc hd; subst hc; subst hd; exact ⟨Wk.nils 3, fun _ => rfl⟩
 | j + 3 => simp [AVal.cells] at hc
theorem deep_kid {e k : Elem} {d : Nat} (hd : deep e d ≤ 32) (hk : k ∈ e.kids) : d < 40 ∧ deep k (d + 1) ≤ 32 := by
 rw [deep_eq] at hd
 by_cases h40 : 40 ≤ d
 ·rw [if_pos h40] at hd; omega
 ·rw [if_neg h40] at hd
  have := (deepL_ge e.kids d d).2 k hk
  omega
theorem kidsF_in {e k : Elem} {n : Bs} (h : k ∈ kidsF e n) : k ∈ e.kids := by unfold kidsF at h; exact (List.mem_filter.1 h).1
theorem Pof_sat : ∀ (f d : Nat), f + d = 41 → ∀ (e : Elem) (_ : deep e d ≤ 32) (_ : e.sz ≤ 700000) (h : Heap), Sat (CT G) 67 [e.av] h (fun r h' => r = .sl 3 ((ofF f e).map Outl.av) ∧ h' = h) := by
 intro f
 induction f with
 | zero =>
  intro d hf e hd hs h
  rw [deep_eq, if_pos (by omega)] at hd; omega
 | succ f ih =>
  intro d hf e hd hs h
  have hks := kidsF_szs e bOutline
  have hkin : ∀ k ∈ kidsF e bOutline, k ∈ e.kids := fun k hk => kidsF_in hk
  have hof : ofF (f + 1) e = (kidsF e bOutline).filterMap (oneO (ofF f)) := rfl
  refine sb [.tmp 2] (fn := Tryz.f67) Tryz.func67 ?_
  intro Q hQ
  (repeat (first | refine w1 (fun K hK => ?_) | refine w2 ?_ | refine w3 ?_ | ((first | refine w4 ?_ | refine wD ?_ | refine w5 ?_ | refine w6 ?_ | refine w7 ?_); try refine sq trivial ?_) | (refine w8 ?_; refine sq trivial ?_; refine w9 ?_) | (refine rq trivial ?_; try refine sq trivial ?_) | (refine vq trivial ?_; try refine sq trivial ?_) | ((first | refine hK _ _ (w0 ?_) | (clear hK K; refine hK _ _ (w0 ?_)) | (clear hK K; clear hK K; refine hK _ _ (w0 ?_))); clear hK K)))
  refine (PKids_sat G e bOutline (by omega) _).mono ?_
  rintro r h' ⟨rfl, hk_⟩
  replace hk_ := hk_.symm
  subst hk_
  try refine sq trivial ?_
  (repeat (first | refine w1 (fun K hK => ?_) | refine w2 ?_ | refine w3 ?_ | ((first | refine w4 ?_ | refine wD ?_ | refine w5 ?_ | refine w6 ?_ | refine w7 ?_); try refine sq trivial ?_) | (refine w8 ?_; refine sq trivial ?_; refine w9 ?_) | (refine rq trivial ?_; try refine sq trivial ?_) | (refine vq trivial ?_; try refine sq trivial ?_) | ((first | refine hK _ _ (w0 ?_) | (clear hK K; refine hK _ _ (w0 ?_)) | (clear hK K; clear hK K; refine hK _ _ (w0 ?_))); clear hK K)))
  have hkl := szs_len Elem.sz Elem.sz_pos (kidsF e bOutline)
  rw [hof] at hQ
  clear hof
  generalize kidsF e bOutline = l at *
  have hlm : (l.map Elem.av).length = l.length := List.length_map ..
  have F := hlm
  refine lm (fun nL tL hL => ∃ (k v : Nat) (acc : List Outl) (hh : Heap), l.length - k = nL ∧ hh = hL ∧ tL 3 = .hs (h.length + 1) v 0 acc.length true ∧ tL 10 = .int .i64 k ∧ k ≤ l.length ∧ acc.length ≤ k ∧ acc ++ (l.drop k).filterMap (oneO (ofF f)) = l.filterMap (oneO (ofF f)) ∧ (FrN h.length h hh ∧ h.length + 1 < hh.length) ∧ getRow hh (h.length + 1) v = some (58, 3, acc.map Outl.av)) ((fun (k v : Nat) (acc : List Outl) (hh : Heap) => (l.length - k : Nat)) (0) (0) ([]) (h ++ [.row 26 4 0 [e.av], .row 58 3 0 []])) ?_ ?_
  ·refine ⟨_, _, Weak.virt 3 58 3 (by simp) (by omega) (by exact zq F), ⟨0, 0, [], h ++ [.row 26 4 0 [e.av], .row 58 3 0 []], rfl, hpE, ?_, ?_, by omega, by simp, rfl, ⟨FrN.app _ (by omega) (FrN.refl _ _), by simp⟩, by rw [gs_new _ rfl]; rfl⟩⟩
   all_goals first | exact zq F | rfl | omega | trivial | skip
  rintro _ s2 h' ⟨k, v, acc, hh, rfl, rfl, e3, e10, hk, hl, hp, hf, hg⟩ K2 hK2
  simp only [mix_cons, mix_nil, Nat.reduceEqDiff, ↓reduceIte] at e3 e10
  have F := F3 F e3 e10
  (repeat (first | refine w1 (fun K hK => ?_) | refine w2 ?_ | refine w3 ?_ | ((first | refine w4 ?_ | refine wD ?_ | refine w5 ?_ | refine w6 ?_ | refine w7 ?_); try refine sq F ?_) | (refine w8 ?_; refine sq F ?_; refine w9 ?_) | (refine rq F ?_; try refine sq F ?_) | (refine vq F ?_; try refine sq F ?_) | ((first | refine hK _ _ (w0 ?_) | (clear hK K; refine hK _ _ (w0 ?_)) | (clear hK K; clear hK K; refine hK _ _ (w0 ?_))); clear hK K)))
  obtain ⟨hfr, hfl⟩ := hf
  refine cq F (fun c1 => ?_) (fun c1 => ?_) <;> (try exact c1.elim) <;> ((repeat (first | refine w1 (fun K hK => ?_) | refine w2 ?_ | refine w3 ?_ | ((first | refine w4 ?_ | refine wD ?_ | refine w5 ?_ | refine w6 ?_ | refine w7 ?_); try refine sq F ?_) | (refine w8 ?_; refine sq F ?_; refine w9 ?_) | (refine rq F ?_; try refine sq F ?_) | (refine vq F ?_; try refine sq F ?_) | ((first | refine hK _ _ (w0 ?_) | (clear hK K; refine hK _ _ (w0 ?_)) | (clear hK K; clear hK K; refine hK _ _ (w0 ?_))); clear hK K))))
  ·obtain ⟨y, hy, hym⟩ := getElem?_of_lt c1
   have hyv : (l.map Elem.av)[k]? = some y.av := by rw [List.getElem?_map, hy]; rfl
   have hys := Elem.kid_sz (hkin y hym)
   have hyd := deep_kid hd (hkin y hym)
   have hul := url_len y
   rw [drop_cons_of hy, List.filterMap_cons] at hp
   have hg1 : ∀ j : Heap, getRow (hh ++ j) (h.length + 1) v = some (58, 3, acc.map Outl.av) := fun j => by rw [gs_old _ (by omega)]; exact hg
   have hs1 : ∀ (j : Heap) (b : Blk), (hh ++ j).set (h.length + 1) b = hh.set (h.length + 1) b ++ j := fun j b => st_old b (by omega)
   have F := F4 F hy hg1 hs1
   try refine sq F ?_
   (repeat (first | refine w1 (fun K hK => ?_) | refine w2 ?_ | refine w3 ?_ | ((first | refine w4 ?_ | refine wD ?_ | refine w5 ?_ | refine w6 ?_ | refine w7 ?_); try refine sq F ?_) | (refine w8 ?_; refine sq F ?_; refine w9 ?_) | (refine rq F ?_; try refine sq F ?_) | (refine vq F ?_; try refine sq F ?_) | ((first | refine hK _ _ (w0 ?_) | (clear hK K; refine hK _ _ (w0 ?_)) | (clear hK K; clear hK K; refine hK _ _ (w0 ?_))); clear hK K)))
   refine (PattrO_sat G y bUrl 512 (by omega) (by omega) _).mono ?_
   rintro r h' ⟨rfl, rfl⟩
   try refine sq F ?_
   (repeat (first | refine w1 (fun K hK => ?_) | refine w2 ?_ | refine w3 ?_ | ((first | refine w4 ?_ | refine wD ?_ | refine w5 ?_ | refine w6 ?_ | refine w7 ?_); try refine sq F ?_) | (refine w8 ?_; refine sq F ?_; refine w9 ?_) | (refine rq F ?_; try refine sq F ?_) | (refine vq F ?_; try refine sq F ?_)))
   refine hK _ _ ⟨_, _, Weak.rows (p := hh.length + 1) (v := 0) (e := 58) (m := 3) (rows := [.agg [.str [], .str (attrS y bUrl 512), .nil (.slice none 0 0)]]) [.agg [.str [], .str (attrS y bUrl 512), .sl 3 []]] (by rw [gs_new _ rfl]; rfl) rfl (fun i r s h1 h2 => ?_), ?_⟩
   ·match i with
    | 0 => simp at h1 h2; subst h1; subst h2; exact wk_outl _ _
    | i + 1 => simp at h1
   clear hK K
   rw [st_new _ rfl]
   simp only [List.set_cons_succ, List.set_cons_zero]
   (repeat (first | refine w1 (fun K hK => ?_) | refine w2 ?_ | refine w3 ?_ | ((first | refine w4 ?_ | refine wD ?_ | refine w5 ?_ | refine w6 ?_ | refine w7 ?_); try refine sq F ?_) | (refine w8 ?_; refine sq F ?_; refine w9 ?_) | (refine rq F ?_; try refine sq F ?_) | (refine vq F ?_; try refine sq F ?_) | ((first | refine hK _ _ (w0 ?_) | (clear hK K; refine hK _ _ (w0 ?_)) | (clear hK K; clear hK K; refine hK _ _ (w0 ?_))); clear hK K)))
   refine ⟨_, PattrO_sat G y bText 256 (by omega) (by omega) _, ?_⟩
   try refine sq F ?_
   (repeat (first | refine w1 (fun K hK => ?_) | refine w2 ?_ | refine w3 ?_ | ((first | refine w4 ?_ | refine wD ?_ | refine w5 ?_ | refine w6 ?_ | refine w7 ?_); try refine sq F ?_) | (refine w8 ?_; refine sq F ?_; refine w9 ?_) | (refine rq F ?_; try refine sq F ?_) | (refine vq F ?_; try refine sq F ?_) | ((first | refine hK _ _ (w0 ?_) | (clear hK K; refine hK _ _ (w0 ?_)) | (clear hK K; clear hK K; refine hK _ _ (w0 ?_))); clear hK K)))
   refine ⟨_, PattrO_sat G y bTitle 256 (by omega) (by omega) _, ?_⟩
   try refine sq F ?_
   (repeat (first | refine w1 (fun K hK => ?_) | refine w2 ?_ | refine w3 ?_ | ((first | refine w4 ?_ | refine wD ?_ | refine w5 ?_ | refine w6 ?_ | refine w7 ?_); try refine sq F ?_) | (refine w8 ?_; refine sq F ?_; refine w9 ?_) | (refine rq F ?_; try refine sq F ?_) | (refine vq F ?_; try refine sq F ?_) | ((first | refine hK _ _ (w0 ?_) | (clear hK K; refine hK _ _ (w0 ?_)) | (clear hK K; clear hK K; refine hK _ _ (w0 ?_))); clear hK K)))
   refine ⟨_, PshortO_sat G (attrS y bUrl 512) 256 (by omega) (by omega) _, ?_⟩
   try refine sq F ?_
   (repeat (first | refine w1 (fun K hK => ?_) | refine w2 ?_ | refine w3 ?_ | ((first | refine w4 ?_ | refine wD ?_ | refine w5 ?_ | refine w6 ?_ | refine w7 ?_); try refine sq F ?_) | (refine w8 ?_; refine sq F ?_; refine w9 ?_) | (refine rq F ?_; try refine sq F ?_) | (refine vq F ?_; try refine sq F ?_) | ((first | refine hK _ _ (w0 ?_) | (clear hK K; refine hK _ _ (w0 ?_)) | (clear hK K; clear hK K; refine hK _ _ (w0 ?_))); clear hK K)))
   refine ⟨_, Or_sat G (attrS y bText 256) (attrS y bTitle 256) (shortF (attrS y bUrl 512) 256) _, ?_⟩
   try refine sq F ?_
   (repeat (first | refine w1 (fun K hK => ?_) | refine w2 ?_ | refine w3 ?_ | ((first | refine w4 ?_ | refine wD ?_ | refine w5 ?_ | refine w6 ?_ | refine w7 ?_); try refine sq F ?_) | (refine w8 ?_; refine sq F ?_; refine w9 ?_) | (refine rq F ?_; try refine sq F ?_) | (refine vq F ?_; try refine sq F ?_) | ((first | refine hK _ _ (w0 ?_) | (clear hK K; refine hK _ _ (w0 ?_)) | (clear hK K; clear hK K; refine hK _ _ (w0 ?_))); clear hK K)))
   have htit : orF (attrS y bText 256) (attrS y bTitle 256) (shortF (attrS y bUrl 512) 256) = titF y := rfl
   rw [htit]
   have put : ∀ (o : Outl) (B : Blk), FrN h.length h (hh.set (h.length + 1) (.row 58 3 (v + 1) ((acc ++ [o]).map Outl.av)) ++ [.row 26 4 0 [y.av], B]) ∧ h.length + 1 < (hh.set (h.length + 1) (.row 58 3 (v + 1) ((acc ++ [o]).map Outl.av)) ++ [.row 26 4 0 [y.av], B]).length := fun o B =>
    ⟨FrN.app _ (by simp; omega) (FrN.set _ (by omega) hfr), by simp; omega⟩
   have put2 : ∀ (o : Outl) (B : Blk), getRow (hh.set (h.length + 1) (.row 58 3 (v + 1) ((acc ++ [o]).map Outl.av)) ++ [.row 26 4 0 [y.av], B]) (h.length + 1) (v + 1) = some (58, 3, (acc ++ [o]).map Outl.av) := fun o B => by
    rw [gs_old _ (by simp; omega), gs_eq _ _ _ _ _ (by omega)]; simp
   refine cq F (fun c2 => ?_) (fun c2 => ?_) <;> (try exact c2.elim) <;> ((repeat (first | refine w1 (fun K hK => ?_) | refine w2 ?_ | refine w3 ?_ | ((first | refine w4 ?_ | refine wD ?_ | refine w5 ?_ | refine w6 ?_ | refine w7 ?_); try refine sq F ?_) | (refine w8 ?_; refine sq F ?_; refine w9 ?_) | (refine rq F ?_; try refine sq F ?_) | (refine vq F ?_; try refine sq F ?_) | ((first | refine hK _ _ (w0 ?_) | (clear hK K; refine hK _ _ (w0 ?_)) | (clear hK K; clear hK K; refine hK _ _ (w0 ?_))); clear hK K))))
   ·have ho : oneO (ofF f) y = none := by unfold oneO; rw [if_pos c2]
    rw [ho] at hp
    refine hK2 _ _ _ (Wkn.refl ⟨k + 1, v, acc, hh ++ [.row 26 4 0 [y.av], .row 58 3 0 [.agg [.str (titF y), .str (attrS y bUrl 512), .sl 3 []]]], rfl, hpE, ?_, ?_, by omega, by omega, hp, ⟨FrN.app _ (by omega) hfr, by simp; omega⟩, hg1 _⟩) (by omega)
    all_goals first | exact zq F | rfl | omega | trivial | skip
   ·refine cq F (fun c3 => ?_) (fun c3 => ?_) <;> (try exact c3.elim) <;> ((repeat (first | refine w1 (fun K hK => ?_) | refine w2 ?_ | refine w3 ?_ | ((first | refine w4 ?_ | refine wD ?_ | refine w5 ?_ | refine w6 ?_ | refine w7 ?_); try refine sq F ?_) | (refine w8 ?_; refine sq F ?_; refine w9 ?_) | (refine rq F ?_; try refine sq F ?_) | (refine vq F ?_; try refine sq F ?_) | ((first | refine hK _ _ (w0 ?_) | (clear hK K; refine hK _ _ (w0 ?_)) | (clear hK K; clear hK K; refine hK _ _ (w0 ?_))); clear hK K))))
    ·have ho : oneO (ofF f) y = some ⟨titF y, attrS y bUrl 512, ofF f y⟩ := by unfold oneO; rw [if_neg c2, if_pos c3]
     rw [ho] at hp
     refine (ih (d + 1) (by omega) y hyd.2 (by omega) _).mono ?_
     rintro r h' ⟨rfl, rfl⟩
     try refine sq F ?_
     (repeat (first | refine w1 (fun K hK => ?_) | refine w2 ?_ | refine w3 ?_ | ((first | refine w4 ?_ | refine wD ?_ | refine w5 ?_ | refine w6 ?_ | refine w7 ?_); try refine sq F ?_) | (refine w8 ?_; refine sq F ?_; refine w9 ?_) | (refine rq F ?_; try refine sq F ?_) | (refine vq F ?_; try refine sq F ?_) | ((first | refine hK _ _ (w0 ?_) | (clear hK K; refine hK _ _ (w0 ?_)) | (clear hK K; clear hK K; refine hK _ _ (w0 ?_))); clear hK K)))
     refine aq F ?_
     try refine sq F ?_
     (repeat (first | refine w1 (fun K hK => ?_) | refine w2 ?_ | refine w3 ?_ | ((first | refine w4 ?_ | refine wD ?_ | refine w5 ?_ | refine w6 ?_ | refine w7 ?_); try refine sq F ?_) | (refine w8 ?_; refine sq F ?_; refine w9 ?_) | (refine rq F ?_; try refine sq F ?_) | (refine vq F ?_; try refine sq F ?_) | ((first | refine hK _ _ (w0 ?_) | (clear hK K; refine hK _ _ (w0 ?_)) | (clear hK K; clear hK K; refine hK _ _ (w0 ?_))); clear hK K)))
     refine hK2 _ _ _ (Wkn.refl ⟨k + 1, v + 1, acc ++ [⟨titF y, attrS y bUrl 512, ofF f y⟩], hh.set (h.length + 1) (.row 58 3 (v + 1) ((acc ++ [Outl.mk (titF y) (attrS y bUrl 512) (ofF f y)]).map Outl.av)) ++ [.row 26 4 0 [y.av], .row 58 3 0 [.agg [.str (titF y), .str (attrS y bUrl 512), .sl 3 ((ofF f y).map Outl.av)]]], rfl, by simp [Outl.av_eq, Outl.title, Outl.url, Outl.kids], ?_, ?_, by omega, by simp; omega, by rw [← hp]; simp, put _ _, put2 _ _⟩) (by omega)
     all_goals first | exact zq F | rfl | omega | trivial | skip
    ·have ho : oneO (ofF f) y = some ⟨titF y, attrS y bUrl 512, []⟩ := by unfold oneO; rw [if_neg c2, if_neg c3]
     rw [ho] at hp
     refine aq F ?_
     try refine sq F ?_
     (repeat (first | refine w1 (fun K hK => ?_) | refine w2 ?_ | refine w3 ?_ | ((first | refine w4 ?_ | refine wD ?_ | refine w5 ?_ | refine w6 ?_ | refine w7 ?_); try refine sq F ?_) | (refine w8 ?_; refine sq F ?_; refine w9 ?_) | (refine rq F ?_; try refine sq F ?_) | (refine vq F ?_; try refine sq F ?_) | ((first | refine hK _ _ (w0 ?_) | (clear hK K; refine hK _ _ (w0 ?_)) | (clear hK K; clear hK K; refine hK _ _ (w0 ?_))); clear hK K)))
     refine hK2 _ _ _ (Wkn.refl ⟨k + 1, v + 1, acc ++ [⟨titF y, attrS y bUrl 512, []⟩], hh.set (h.length + 1) (.row 58 3 (v + 1) ((acc ++ [Outl.mk (titF y) (attrS y bUrl 512) []]).map Outl.av)) ++ [.row 26 4 0 [y.av], .row 58 3 0 [.agg [.str (titF y), .str (attrS y bUrl 512), .sl 3 []]]], rfl, by simp [Outl.av_eq, Outl.title, Outl.url, Outl.kids], ?_, ?_, by omega, by simp; omega, by rw [← hp]; simp, put _ _, put2 _ _⟩) (by omega)
     all_goals first | exact zq F | rfl | omega | trivial | skip
  ·rw [drop_nil_of c1, List.filterMap_nil, List.append_nil] at hp
   (repeat (first | refine w1 (fun K hK => ?_) | refine w2 ?_ | refine w3 ?_ | ((first | refine w4 ?_ | refine wD ?_ | refine w5 ?_ | refine w6 ?_ | refine w7 ?_); try refine sq F ?_) | (refine w8 ?_; refine sq F ?_; refine w9 ?_) | (refine rq F ?_; try refine sq F ?_) | (refine vq F ?_; try refine sq F ?_) | ((first | refine hK _ _ (w0 ?_) | (clear hK K; refine hK _ _ (w0 ?_)) | (clear hK K; clear hK K; refine hK _ _ (w0 ?_))); clear hK K)))
   refine ee hQ F ?_
   rw [← hp]
   obtain ⟨j, hj⟩ := hfr.split (by omega)
   have hg2 : getRow (h ++ j) (h.length + 1) v = some (58, 3, acc.map Outl.av) := by rw [← hj]; exact hg
   rw [hj]
   exact Fin.frz (Frz.outls (by omega) hg2 rfl) ⟨rfl, rfl⟩
end Go.Av
