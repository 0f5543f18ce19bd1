/- The document's answers for documents: up to a mark. -/
import Derived.Test.YtjgligkejfjbpaaGreatDoorTnTf
import Derived.Test.YtjgligkejfjbpaaGreatDoorTnHp
set_option linter.unusedSimpArgs false
set_option linter.unusedVariables false
namespace Go.Av
open Go Go.Proofs Go.RowKit
attribute [local irreducible] WP WPl WPix Sat
set_option maxRecDepth 100000
set_option maxHeartbeats 1000000
variable (G : Nat → Option (List AVal))
variable {H : Heap} {n0 pb po vo pd vd : Nat} {room : Bool} {os : List OE} {ds : List Elem}
theorem close2_sat (l : List OE) (p o : OE) (hl : l.length ≤ 1000) (hpk : p.k.length ≤ 1048576) (g : BH H n0 pb po vo room (l ++ [p, o]) pd vd ds) :
  Sat (CT G) 107 [.hp pb 0 0 0, .str o.n] H (BPost n0 pb H ((l ++ [p, o]).map OE.el) ds (some ((l ++ [(⟨p.n, p.a, p.t, p.k ++ [o.el], p.q, p.v + 1⟩ : OE)]).map OE.el, ds))) := by
 have i0 : (l ++ [p, o])[l.length]? = some p := by simp
 have i1 : (l ++ [p, o])[l.length + 1]? = some o := by simp
 have il : ∀ (i : Nat) (x : OE), l[i]? = some x → (l ++ [p, o])[i]? = some x := fun i x h => by rw [List.getElem?_append_left (List.getElem?_eq_some_iff.1 h).1]; exact h
 have hb := g.b
 have ho := g.o
 have hd := g.d
 have hk := g.k _ o i1
 have ko := g.ko _ o i1
 have hp := g.k _ p i0
 have kp := g.ko _ p i0
 have kop := g.kk _ _ o p i1 i0 (by omega)
 have hlo := gr_lt ho
 have hlb := gr_lt hb
 have hld := gr_lt hd
 have hlk := gr_lt hk
 have hlp := gr_lt hp
 have hbo := g.bo
 have hbd := g.bd
 have hbk := g.bk _ o i1
 have hbp := g.bk _ p i0
 have hod := g.od
 have hn := g.n
 have hlen : (l ++ [p, o]).length = l.length + 2 := by simp
 rw [hlen] at hb
 refine Sat.postw (R := fun r H' => (FrN n0 H H' ∧ H.length ≤ H'.length) ∧ r = .bool true ∧ getRow H' pb 0 = some (106, 2, [.agg [.hs po vo 0 (l.length + 1) false, .hs pd vd 0 ds.length true]]) ∧
   getRow H' po vo = some (26, 4, l.map OE.av ++ [.agg [.str p.n, .sl 2 (p.a.map At.av), .str p.t, .hs p.q (p.v + 1) 0 (p.k.length + 1) true], o.av]) ∧
   getRow H' p.q (p.v + 1) = some (26, 4, p.k.map Elem.av ++ [o.av]) ∧
   (∀ q v x, getRow H q v = some x → q ≠ pb → q ≠ po → q ≠ p.q → getRow H' q v = some x)) ?_ (fun r h' ⟨a1, a2, a3, a4, a5, a6⟩ => by
    obtain ⟨K', w, f1, f2⟩ := close_weak1 (C := CT G) (ds := ds) (n0 := n0) a3 a4 (a6 _ _ _ hd hbd.symm hod.symm kp.2.1.symm) (a6 _ _ _ hk hbk.symm ko.1 kop) a5
     (fun i x hi => by
      have j := il i x hi
      have hlt := (List.getElem?_eq_some_iff.1 hi).1
      have k1 := g.ko i x j
      have k2 := g.kk i l.length x p j i0 (by omega)
      exact ⟨a6 _ _ _ (g.k i x j) (g.bk i x j).symm k1.1 k2, k1.1, k1.2.1, k1.2.2, k2, g.kk i (l.length + 1) x o j i1 (by omega)⟩)
     (fun i j x x' hi hj hij => g.kk i j x x' (il i x hi) (il j x' hj) hij) hod ko kp kop hn
    exact ⟨K', w [], ⟨a1.1.trans f1.1, Nat.le_trans a1.2 f1.2⟩, a2, po, vo, false, _, pd, vd, f2, rfl⟩)
 have e1 : ((l.length + 2 : Nat) : Int) - 1 = ((l.length + 1 : Nat) : Int) := by omega
 have e2 : ((l.length + 1 : Nat) : Int) - 1 = (l.length : Int) := by omega
 have e3 : (((l.length + 1 : Nat) : Int) == 0) = false := by simp; omega
 have hbt : (o.n == o.n) = true := by simp
 have e4 : ∀ x y : AVal, (l.map OE.av ++ [x, y])[l.length]? = some x := fun x y => by simp
 have e5 : ∀ x y : AVal, (l.map OE.av ++ [x, y])[l.length + 1]? = some y := fun x y => by simp
 have e6 : ∀ x y z : AVal, (l.map OE.av ++ [x, y]).set l.length z = l.map OE.av ++ [z, y] := fun x y z => by simp
 have e7 : l.length + 1 < l.length + 2 := by omega
 have e8 : l.length < l.length + 1 := by omega
 have e9 : p.k.length < p.k.length + 1 := by omega
 have hg1 : ∀ x : AVal, (p.k.map Elem.av ++ [x])[p.k.length]? = some x := fun x => by simp
 have hs1 : ∀ x y : AVal, (p.k.map Elem.av ++ [x]).set p.k.length y = p.k.map Elem.av ++ [y] := fun x y => by simp
 have hsl : ∀ j, aslice Tryz.prog (H ++ j) 24 (.hs po vo 0 (l.length + 2) room) none (some (.int .i64 ((l.length + 1 : Nat) : Int))) (some (.int .i64 ((l.length + 1 : Nat) : Int))) = some (.hs po vo 0 (l.length + 1) false) := fun j =>
  aslice_hs3 (r := l.length + 1) (by simp only [go_sem]; rfl) (getRow_old ho) (by simp only [go_sem]) (by omega)
 have ho' : getRow H po vo = some (26, 4, l.map OE.av ++ [p.av, o.av]) := by rw [ho]; simp
 clear ho
 skip
 refine Sat.body [.tmp 4] (fn := Tryz.f107) Tryz.func107 rfl rfl (by kernel_rfl) (by kernel_rfl) (by kernel_rfl) rfl ?_
 intro Q hQ
 (repeat (first | refine w1 (fun K hK => ?_) | refine w2 ?_ | refine w3 ?_ | ((first | refine w4 ?_ | refine WP_draw 18 (by decide +kernel) ?_ | refine WP_draw 17 (by decide +kernel) ?_ | refine WP_draw 7 (by decide +kernel) ?_ | refine w5 ?_ | refine w6 ?_ | refine w7 ?_); try simp (disch := first | omega | (simp only [go_sem, ↓reduceIte, seval]; first | done | omega) | fail) only [go_sem, ↓reduceIte, seval, hb, ho', hd, hp, gs_ne, gs_eq, gs_old, gs_new, gs_new0, st_old, st_new, st_new0, List.set_set, bne_self_eq_false, hbt, e1, e2, e3, e4, e5, e6, e7, e8, e9, hg1, hs1, hsl]) | (refine w8 ?_; simp (disch := first | omega | (simp only [go_sem, ↓reduceIte, seval]; first | done | omega) | fail) only [go_sem, ↓reduceIte, seval, hb, ho', hd, hp, gs_ne, gs_eq, gs_old, gs_new, gs_new0, st_old, st_new, st_new0, List.set_set, bne_self_eq_false, hbt, e1, e2, e3, e4, e5, e6, e7, e8, e9, hg1, hs1, hsl]; refine w9 ?_) | (refine rowsK_sl (by simp only [go_sem]; rfl) (by simp only [go_sem]; rfl) (by simp only [go_sem]; try rfl) (by simp) (by omega) (by omega) (by omega) rfl (by simp (disch := first | omega | (simp only [go_sem, ↓reduceIte, seval]; first | done | omega) | fail) only [go_sem, ↓reduceIte, seval, hb, ho', hd, hp, gs_ne, gs_eq, gs_old, gs_new, gs_new0, st_old, st_new, st_new0, List.set_set, bne_self_eq_false, hbt, e1, e2, e3, e4, e5, e6, e7, e8, e9, hg1, hs1, hsl]; try simp) ?_; try simp (disch := first | omega | (simp only [go_sem, ↓reduceIte, seval]; first | done | omega) | fail) only [go_sem, ↓reduceIte, seval, hb, ho', hd, hp, gs_ne, gs_eq, gs_old, gs_new, gs_new0, st_old, st_new, st_new0, List.set_set, bne_self_eq_false, hbt, e1, e2, e3, e4, e5, e6, e7, e8, e9, hg1, hs1, hsl]) | (refine rowsV_sl (by simp only [go_sem]; rfl) (by simp only [go_sem]; rfl) (by simp only [go_sem]; try rfl) (by simp) (by omega) (by omega) (by omega) rfl (by simp (disch := first | omega | (simp only [go_sem, ↓reduceIte, seval]; first | done | omega) | fail) only [go_sem, ↓reduceIte, seval, hb, ho', hd, hp, gs_ne, gs_eq, gs_old, gs_new, gs_new0, st_old, st_new, st_new0, List.set_set, bne_self_eq_false, hbt, e1, e2, e3, e4, e5, e6, e7, e8, e9, hg1, hs1, hsl]; try simp) ?_; try simp (disch := first | omega | (simp only [go_sem, ↓reduceIte, seval]; first | done | omega) | fail) only [go_sem, ↓reduceIte, seval, hb, ho', hd, hp, gs_ne, gs_eq, gs_old, gs_new, gs_new0, st_old, st_new, st_new0, List.set_set, bne_self_eq_false, hbt, e1, e2, e3, e4, e5, e6, e7, e8, e9, hg1, hs1, hsl]) | ((first | refine hK _ _ (w0 ?_) | (clear hK K; refine hK _ _ (w0 ?_)) | (clear hK K; clear hK K; refine hK _ _ (w0 ?_))); clear hK K)))
 (first | refine WPl_gsplit rfl (by simp (disch := first | omega | (simp only [go_sem, ↓reduceIte, seval]; first | done | omega) | fail) only [go_sem, ↓reduceIte, seval, hb, ho', hd, hp, gs_ne, gs_eq, gs_old, gs_new, gs_new0, st_old, st_new, st_new0, List.set_set, bne_self_eq_false, hbt, e1, e2, e3, e4, e5, e6, e7, e8, e9, hg1, hs1, hsl]; rfl) (fun g1 => ?_) (fun g1 => ?_) | refine WPp_gsplit rfl (by simp (disch := first | omega | (simp only [go_sem, ↓reduceIte, seval]; first | done | omega) | fail) only [go_sem, ↓reduceIte, seval, hb, ho', hd, hp, gs_ne, gs_eq, gs_old, gs_new, gs_new0, st_old, st_new, st_new0, List.set_set, bne_self_eq_false, hbt, e1, e2, e3, e4, e5, e6, e7, e8, e9, hg1, hs1, hsl]; rfl) (fun g1 => ?_) (fun g1 => ?_)) <;> (try simp only [Bool.false_or, Bool.or_false, Bool.true_or, Bool.or_true, Bool.false_and, Bool.and_false, Bool.and_true, Bool.true_and, Bool.or_eq_true, Bool.or_eq_false_iff, Bool.and_eq_true, Bool.and_eq_false_iff, Nat.not_lt, Nat.not_le, decide_eq_true_eq, decide_eq_false_iff_not, Bool.not_eq_true', Bool.not_eq_false', beq_iff_eq, bne_iff_ne, ne_eq, beq_eq_false_iff_ne, bne_eq_false_iff_eq, Bool.not_eq_true, Bool.not_eq_false, Int.not_lt, Int.not_le, gt_iff_lt, ge_iff_le, Int.ofNat_lt, Int.ofNat_le, Int.natCast_inj, Int.natCast_inj, Bool.not_not, decide_not, Decidable.not_not] at g1) <;> (try simp (disch := first | omega | (simp only [go_sem, ↓reduceIte, seval]; first | done | omega) | fail) only [go_sem, ↓reduceIte, seval, hb, ho', hd, hp, gs_ne, gs_eq, gs_old, gs_new, gs_new0, st_old, st_new, st_new0, List.set_set, bne_self_eq_false, hbt, e1, e2, e3, e4, e5, e6, e7, e8, e9, hg1, hs1, hsl]) <;>
  (repeat (first | refine w1 (fun K hK => ?_) | refine w2 ?_ | refine w3 ?_ | ((first | refine w4 ?_ | refine WP_draw 18 (by decide +kernel) ?_ | refine WP_draw 17 (by decide +kernel) ?_ | refine WP_draw 7 (by decide +kernel) ?_ | refine w5 ?_ | refine w6 ?_ | refine w7 ?_); try simp (disch := first | omega | (simp only [go_sem, ↓reduceIte, seval]; first | done | omega) | fail) only [go_sem, ↓reduceIte, seval, hb, ho', hd, hp, gs_ne, gs_eq, gs_old, gs_new, gs_new0, st_old, st_new, st_new0, List.set_set, bne_self_eq_false, hbt, e1, e2, e3, e4, e5, e6, e7, e8, e9, hg1, hs1, hsl]) | (refine w8 ?_; simp (disch := first | omega | (simp only [go_sem, ↓reduceIte, seval]; first | done | omega) | fail) only [go_sem, ↓reduceIte, seval, hb, ho', hd, hp, gs_ne, gs_eq, gs_old, gs_new, gs_new0, st_old, st_new, st_new0, List.set_set, bne_self_eq_false, hbt, e1, e2, e3, e4, e5, e6, e7, e8, e9, hg1, hs1, hsl]; refine w9 ?_) | (refine rowsK_sl (by simp only [go_sem]; rfl) (by simp only [go_sem]; rfl) (by simp only [go_sem]; try rfl) (by simp) (by omega) (by omega) (by omega) rfl (by simp (disch := first | omega | (simp only [go_sem, ↓reduceIte, seval]; first | done | omega) | fail) only [go_sem, ↓reduceIte, seval, hb, ho', hd, hp, gs_ne, gs_eq, gs_old, gs_new, gs_new0, st_old, st_new, st_new0, List.set_set, bne_self_eq_false, hbt, e1, e2, e3, e4, e5, e6, e7, e8, e9, hg1, hs1, hsl]; try simp) ?_; try simp (disch := first | omega | (simp only [go_sem, ↓reduceIte, seval]; first | done | omega) | fail) only [go_sem, ↓reduceIte, seval, hb, ho', hd, hp, gs_ne, gs_eq, gs_old, gs_new, gs_new0, st_old, st_new, st_new0, List.set_set, bne_self_eq_false, hbt, e1, e2, e3, e4, e5, e6, e7, e8, e9, hg1, hs1, hsl]) | (refine rowsV_sl (by simp only [go_sem]; rfl) (by simp only [go_sem]; rfl) (by simp only [go_sem]; try rfl) (by simp) (by omega) (by omega) (by omega) rfl (by simp (disch := first | omega | (simp only [go_sem, ↓reduceIte, seval]; first | done | omega) | fail) only [go_sem, ↓reduceIte, seval, hb, ho', hd, hp, gs_ne, gs_eq, gs_old, gs_new, gs_new0, st_old, st_new, st_new0, List.set_set, bne_self_eq_false, hbt, e1, e2, e3, e4, e5, e6, e7, e8, e9, hg1, hs1, hsl]; try simp) ?_; try simp (disch := first | omega | (simp only [go_sem, ↓reduceIte, seval]; first | done | omega) | fail) only [go_sem, ↓reduceIte, seval, hb, ho', hd, hp, gs_ne, gs_eq, gs_old, gs_new, gs_new0, st_old, st_new, st_new0, List.set_set, bne_self_eq_false, hbt, e1, e2, e3, e4, e5, e6, e7, e8, e9, hg1, hs1, hsl]) | ((first | refine hK _ _ (w0 ?_) | (clear hK K; refine hK _ _ (w0 ?_)) | (clear hK K; clear hK K; refine hK _ _ (w0 ?_))); clear hK K)))
 ·exfalso; omega
 ·refine WP_draw6 0 (.one 0 (.two 1 (.one 2 (.one 3 .nil)) 2 (.one 1 (.one 3 .nil)))) (by decide +kernel) (by kernel_rfl) (by decide +kernel) ?_
  simp only [List.take_succ_cons, List.take_zero]
  try simp (disch := first | omega | (simp only [go_sem, ↓reduceIte, seval]; first | done | omega) | fail) only [go_sem, ↓reduceIte, seval, hb, ho', hd, hp, gs_ne, gs_eq, gs_old, gs_new, gs_new0, st_old, st_new, st_new0, List.set_set, bne_self_eq_false, hbt, e1, e2, e3, e4, e5, e6, e7, e8, e9, hg1, hs1, hsl]
  repeat' (first | refine WPt_nil ?_ | (refine WPt_one rfl ?_; simp (disch := first | omega | (simp only [go_sem, ↓reduceIte, seval]; first | done | omega) | fail) only [go_sem, ↓reduceIte, seval, hb, ho', hd, hp, gs_ne, gs_eq, gs_old, gs_new, gs_new0, st_old, st_new, st_new0, List.set_set, bne_self_eq_false, hbt, e1, e2, e3, e4, e5, e6, e7, e8, e9, hg1, hs1, hsl]) | (refine WPt_two rfl rfl ?_ ?_ <;> simp (disch := first | omega | (simp only [go_sem, ↓reduceIte, seval]; first | done | omega) | fail) only [go_sem, ↓reduceIte, seval, hb, ho', hd, hp, gs_ne, gs_eq, gs_old, gs_new, gs_new0, st_old, st_new, st_new0, List.set_set, bne_self_eq_false, hbt, e1, e2, e3, e4, e5, e6, e7, e8, e9, hg1, hs1, hsl]))
  repeat' (first | refine WPt_nil ?_ | (refine WPt_one rfl ?_; simp (disch := first | omega | (simp only [go_sem, ↓reduceIte, seval]; first | done | omega) | fail) only [go_sem, ↓reduceIte, seval, hb, ho', hd, hp, gs_ne, gs_eq, gs_old, gs_new, gs_new0, st_old, st_new, st_new0, List.set_set, bne_self_eq_false, hbt, e1, e2, e3, e4, e5, e6, e7, e8, e9, hg1, hs1, hsl]) | (refine WPt_two rfl rfl ?_ ?_ <;> simp (disch := first | omega | (simp only [go_sem, ↓reduceIte, seval]; first | done | omega) | fail) only [go_sem, ↓reduceIte, seval, hb, ho', hd, hp, gs_ne, gs_eq, gs_old, gs_new, gs_new0, st_old, st_new, st_new0, List.set_set, bne_self_eq_false, hbt, e1, e2, e3, e4, e5, e6, e7, e8, e9, hg1, hs1, hsl]))
  ·show K _ _
   refine hK _ _ (Wkn.refl ?_)
   clear hK K
   skip
   (repeat (first | refine w1 (fun K hK => ?_) | refine w2 ?_ | refine w3 ?_ | ((first | refine w4 ?_ | refine w5 ?_ | refine w6 ?_ | refine w7 ?_); try simp (disch := first | omega | (simp only [go_sem, ↓reduceIte, seval]; first | done | omega) | fail) only [go_sem, ↓reduceIte, seval, hb, ho', hd, hp, gs_ne, gs_eq, gs_old, gs_new, gs_new0, st_old, st_new, st_new0, List.set_set, bne_self_eq_false, hbt, e1, e2, e3, e4, e5, e6, e7, e8, e9, hg1, hs1, hsl]) | (refine w8 ?_; simp (disch := first | omega | (simp only [go_sem, ↓reduceIte, seval]; first | done | omega) | fail) only [go_sem, ↓reduceIte, seval, hb, ho', hd, hp, gs_ne, gs_eq, gs_old, gs_new, gs_new0, st_old, st_new, st_new0, List.set_set, bne_self_eq_false, hbt, e1, e2, e3, e4, e5, e6, e7, e8, e9, hg1, hs1, hsl]; refine w9 ?_) | (refine rowsK_sl (by simp only [go_sem]; rfl) (by simp only [go_sem]; rfl) (by simp only [go_sem]; try rfl) (by simp) (by omega) (by omega) (by omega) rfl (by simp (disch := first | omega | (simp only [go_sem, ↓reduceIte, seval]; first | done | omega) | fail) only [go_sem, ↓reduceIte, seval, hb, ho', hd, hp, gs_ne, gs_eq, gs_old, gs_new, gs_new0, st_old, st_new, st_new0, List.set_set, bne_self_eq_false, hbt, e1, e2, e3, e4, e5, e6, e7, e8, e9, hg1, hs1, hsl]; try simp) ?_; try simp (disch := first | omega | (simp only [go_sem, ↓reduceIte, seval]; first | done | omega) | fail) only [go_sem, ↓reduceIte, seval, hb, ho', hd, hp, gs_ne, gs_eq, gs_old, gs_new, gs_new0, st_old, st_new, st_new0, List.set_set, bne_self_eq_false, hbt, e1, e2, e3, e4, e5, e6, e7, e8, e9, hg1, hs1, hsl]) | (refine rowsV_sl (by simp only [go_sem]; rfl) (by simp only [go_sem]; rfl) (by simp only [go_sem]; try rfl) (by simp) (by omega) (by omega) (by omega) rfl (by simp (disch := first | omega | (simp only [go_sem, ↓reduceIte, seval]; first | done | omega) | fail) only [go_sem, ↓reduceIte, seval, hb, ho', hd, hp, gs_ne, gs_eq, gs_old, gs_new, gs_new0, st_old, st_new, st_new0, List.set_set, bne_self_eq_false, hbt, e1, e2, e3, e4, e5, e6, e7, e8, e9, hg1, hs1, hsl]; try simp) ?_; try simp (disch := first | omega | (simp only [go_sem, ↓reduceIte, seval]; first | done | omega) | fail) only [go_sem, ↓reduceIte, seval, hb, ho', hd, hp, gs_ne, gs_eq, gs_old, gs_new, gs_new0, st_old, st_new, st_new0, List.set_set, bne_self_eq_false, hbt, e1, e2, e3, e4, e5, e6, e7, e8, e9, hg1, hs1, hsl]) | ((first | refine hK _ _ (w0 ?_) | (clear hK K; refine hK _ _ (w0 ?_)) | (clear hK K; clear hK K; refine hK _ _ (w0 ?_))); clear hK K)))
   refine WP_draw5 17 6 _ (by rfl) (by decide +kernel) (by kernel_rfl) (by decide +kernel) (by decide +kernel) (by decide +kernel) ?_
   simp only [List.take_succ_cons, List.take_zero]
   simp (disch := first | omega | (simp only [go_sem, ↓reduceIte, seval]; first | done | omega) | fail) only [go_sem, ↓reduceIte, seval, hb, ho', hd, hp, gs_ne, gs_eq, gs_old, gs_new, gs_new0, st_old, st_new, st_new0, List.set_set, bne_self_eq_false, hbt, e1, e2, e3, e4, e5, e6, e7, e8, e9, hg1, hs1, hsl]
   (repeat (first | refine w1 (fun K hK => ?_) | refine w2 ?_ | refine w3 ?_ | ((first | refine w4 ?_ | refine w5 ?_ | refine w6 ?_ | refine w7 ?_); try simp (disch := first | omega | (simp only [go_sem, ↓reduceIte, seval]; first | done | omega) | fail) only [go_sem, ↓reduceIte, seval, hb, ho', hd, hp, gs_ne, gs_eq, gs_old, gs_new, gs_new0, st_old, st_new, st_new0, List.set_set, bne_self_eq_false, hbt, e1, e2, e3, e4, e5, e6, e7, e8, e9, hg1, hs1, hsl]) | (refine w8 ?_; simp (disch := first | omega | (simp only [go_sem, ↓reduceIte, seval]; first | done | omega) | fail) only [go_sem, ↓reduceIte, seval, hb, ho', hd, hp, gs_ne, gs_eq, gs_old, gs_new, gs_new0, st_old, st_new, st_new0, List.set_set, bne_self_eq_false, hbt, e1, e2, e3, e4, e5, e6, e7, e8, e9, hg1, hs1, hsl]; refine w9 ?_) | (refine rowsK_sl (by simp only [go_sem]; rfl) (by simp only [go_sem]; rfl) (by simp only [go_sem]; try rfl) (by simp) (by omega) (by omega) (by omega) rfl (by simp (disch := first | omega | (simp only [go_sem, ↓reduceIte, seval]; first | done | omega) | fail) only [go_sem, ↓reduceIte, seval, hb, ho', hd, hp, gs_ne, gs_eq, gs_old, gs_new, gs_new0, st_old, st_new, st_new0, List.set_set, bne_self_eq_false, hbt, e1, e2, e3, e4, e5, e6, e7, e8, e9, hg1, hs1, hsl]; try simp) ?_; try simp (disch := first | omega | (simp only [go_sem, ↓reduceIte, seval]; first | done | omega) | fail) only [go_sem, ↓reduceIte, seval, hb, ho', hd, hp, gs_ne, gs_eq, gs_old, gs_new, gs_new0, st_old, st_new, st_new0, List.set_set, bne_self_eq_false, hbt, e1, e2, e3, e4, e5, e6, e7, e8, e9, hg1, hs1, hsl]) | (refine rowsV_sl (by simp only [go_sem]; rfl) (by simp only [go_sem]; rfl) (by simp only [go_sem]; try rfl) (by simp) (by omega) (by omega) (by omega) rfl (by simp (disch := first | omega | (simp only [go_sem, ↓reduceIte, seval]; first | done | omega) | fail) only [go_sem, ↓reduceIte, seval, hb, ho', hd, hp, gs_ne, gs_eq, gs_old, gs_new, gs_new0, st_old, st_new, st_new0, List.set_set, bne_self_eq_false, hbt, e1, e2, e3, e4, e5, e6, e7, e8, e9, hg1, hs1, hsl]; try simp) ?_; try simp (disch := first | omega | (simp only [go_sem, ↓reduceIte, seval]; first | done | omega) | fail) only [go_sem, ↓reduceIte, seval, hb, ho', hd, hp, gs_ne, gs_eq, gs_old, gs_new, gs_new0, st_old, st_new, st_new0, List.set_set, bne_self_eq_false, hbt, e1, e2, e3, e4, e5, e6, e7, e8, e9, hg1, hs1, hsl]) | ((first | refine hK _ _ (w0 ?_) | (clear hK K; refine hK _ _ (w0 ?_)) | (clear hK K; clear hK K; refine hK _ _ (w0 ?_))); clear hK K)))
   skip
   rw [wpOperV_app]
   try simp (disch := first | omega | (simp only [go_sem, ↓reduceIte, seval]; first | done | omega) | fail) only [go_sem, ↓reduceIte, seval, hb, ho', hd, hp, gs_ne, gs_eq, gs_old, gs_new, gs_new0, st_old, st_new, st_new0, List.set_set, bne_self_eq_false, hbt, e1, e2, e3, e4, e5, e6, e7, e8, e9, hg1, hs1, hsl]
   refine appK_row (by first | exact .inl rfl | (right; simp only [go_sem])) (by simp only [go_sem]; rfl) (by simp only [go_sem]; rfl) (by simp only [go_sem]; rfl) (by simp only [go_sem]; try rfl) (by omega) (by simp only [elemsOf, ↓reduceIte]; rfl) (by simp (disch := first | omega | (simp only [go_sem, ↓reduceIte, seval]; first | done | omega) | fail) only [go_sem, ↓reduceIte, seval, hb, ho', hd, hp, gs_ne, gs_eq, gs_old, gs_new, gs_new0, st_old, st_new, st_new0, List.set_set, bne_self_eq_false, hbt, e1, e2, e3, e4, e5, e6, e7, e8, e9, hg1, hs1, hsl]; rfl) (by simp) ?_ ?_
   ·refine ⟨?_, ?_⟩ <;> simp only [maxLen, List.length_map, List.length_cons, List.length_nil, List.length_append] <;> omega
   try simp (disch := first | omega | (simp only [go_sem, ↓reduceIte, seval]; first | done | omega) | fail) only [go_sem, ↓reduceIte, seval, hb, ho', hd, hp, gs_ne, gs_eq, gs_old, gs_new, gs_new0, st_old, st_new, st_new0, List.set_set, bne_self_eq_false, hbt, e1, e2, e3, e4, e5, e6, e7, e8, e9, hg1, hs1, hsl]
   (repeat (first | refine w1 (fun K hK => ?_) | refine w2 ?_ | refine w3 ?_ | ((first | refine w4 ?_ | refine WP_draw 18 (by decide +kernel) ?_ | refine WP_draw 17 (by decide +kernel) ?_ | refine WP_draw 7 (by decide +kernel) ?_ | refine w5 ?_ | refine w6 ?_ | refine w7 ?_); try simp (disch := first | omega | (simp only [go_sem, ↓reduceIte, seval]; first | done | omega) | fail) only [go_sem, ↓reduceIte, seval, hb, ho', hd, hp, gs_ne, gs_eq, gs_old, gs_new, gs_new0, st_old, st_new, st_new0, List.set_set, bne_self_eq_false, hbt, e1, e2, e3, e4, e5, e6, e7, e8, e9, hg1, hs1, hsl]) | (refine w8 ?_; simp (disch := first | omega | (simp only [go_sem, ↓reduceIte, seval]; first | done | omega) | fail) only [go_sem, ↓reduceIte, seval, hb, ho', hd, hp, gs_ne, gs_eq, gs_old, gs_new, gs_new0, st_old, st_new, st_new0, List.set_set, bne_self_eq_false, hbt, e1, e2, e3, e4, e5, e6, e7, e8, e9, hg1, hs1, hsl]; refine w9 ?_) | (refine rowsK_sl (by simp only [go_sem]; rfl) (by simp only [go_sem]; rfl) (by simp only [go_sem]; try rfl) (by simp) (by omega) (by omega) (by omega) rfl (by simp (disch := first | omega | (simp only [go_sem, ↓reduceIte, seval]; first | done | omega) | fail) only [go_sem, ↓reduceIte, seval, hb, ho', hd, hp, gs_ne, gs_eq, gs_old, gs_new, gs_new0, st_old, st_new, st_new0, List.set_set, bne_self_eq_false, hbt, e1, e2, e3, e4, e5, e6, e7, e8, e9, hg1, hs1, hsl]; try simp) ?_; try simp (disch := first | omega | (simp only [go_sem, ↓reduceIte, seval]; first | done | omega) | fail) only [go_sem, ↓reduceIte, seval, hb, ho', hd, hp, gs_ne, gs_eq, gs_old, gs_new, gs_new0, st_old, st_new, st_new0, List.set_set, bne_self_eq_false, hbt, e1, e2, e3, e4, e5, e6, e7, e8, e9, hg1, hs1, hsl]) | (refine rowsV_sl (by simp only [go_sem]; rfl) (by simp only [go_sem]; rfl) (by simp only [go_sem]; try rfl) (by simp) (by omega) (by omega) (by omega) rfl (by simp (disch := first | omega | (simp only [go_sem, ↓reduceIte, seval]; first | done | omega) | fail) only [go_sem, ↓reduceIte, seval, hb, ho', hd, hp, gs_ne, gs_eq, gs_old, gs_new, gs_new0, st_old, st_new, st_new0, List.set_set, bne_self_eq_false, hbt, e1, e2, e3, e4, e5, e6, e7, e8, e9, hg1, hs1, hsl]; try simp) ?_; try simp (disch := first | omega | (simp only [go_sem, ↓reduceIte, seval]; first | done | omega) | fail) only [go_sem, ↓reduceIte, seval, hb, ho', hd, hp, gs_ne, gs_eq, gs_old, gs_new, gs_new0, st_old, st_new, st_new0, List.set_set, bne_self_eq_false, hbt, e1, e2, e3, e4, e5, e6, e7, e8, e9, hg1, hs1, hsl])))
   refine hK _ _ (Wkn.refl ?_)
   clear hK K
   (repeat (first | refine w1 (fun K hK => ?_) | refine w2 ?_ | refine w3 ?_ | ((first | refine w4 ?_ | refine WP_draw 18 (by decide +kernel) ?_ | refine WP_draw 17 (by decide +kernel) ?_ | refine WP_draw 7 (by decide +kernel) ?_ | refine w5 ?_ | refine w6 ?_ | refine w7 ?_); try simp (disch := first | omega | (simp only [go_sem, ↓reduceIte, seval]; first | done | omega) | fail) only [go_sem, ↓reduceIte, seval, hb, ho', hd, hp, gs_ne, gs_eq, gs_old, gs_new, gs_new0, st_old, st_new, st_new0, List.set_set, bne_self_eq_false, hbt, e1, e2, e3, e4, e5, e6, e7, e8, e9, hg1, hs1, hsl]) | (refine w8 ?_; simp (disch := first | omega | (simp only [go_sem, ↓reduceIte, seval]; first | done | omega) | fail) only [go_sem, ↓reduceIte, seval, hb, ho', hd, hp, gs_ne, gs_eq, gs_old, gs_new, gs_new0, st_old, st_new, st_new0, List.set_set, bne_self_eq_false, hbt, e1, e2, e3, e4, e5, e6, e7, e8, e9, hg1, hs1, hsl]; refine w9 ?_) | (refine rowsK_sl (by simp only [go_sem]; rfl) (by simp only [go_sem]; rfl) (by simp only [go_sem]; try rfl) (by simp) (by omega) (by omega) (by omega) rfl (by simp (disch := first | omega | (simp only [go_sem, ↓reduceIte, seval]; first | done | omega) | fail) only [go_sem, ↓reduceIte, seval, hb, ho', hd, hp, gs_ne, gs_eq, gs_old, gs_new, gs_new0, st_old, st_new, st_new0, List.set_set, bne_self_eq_false, hbt, e1, e2, e3, e4, e5, e6, e7, e8, e9, hg1, hs1, hsl]; try simp) ?_; try simp (disch := first | omega | (simp only [go_sem, ↓reduceIte, seval]; first | done | omega) | fail) only [go_sem, ↓reduceIte, seval, hb, ho', hd, hp, gs_ne, gs_eq, gs_old, gs_new, gs_new0, st_old, st_new, st_new0, List.set_set, bne_self_eq_false, hbt, e1, e2, e3, e4, e5, e6, e7, e8, e9, hg1, hs1, hsl]) | (refine rowsV_sl (by simp only [go_sem]; rfl) (by simp only [go_sem]; rfl) (by simp only [go_sem]; try rfl) (by simp) (by omega) (by omega) (by omega) rfl (by simp (disch := first | omega | (simp only [go_sem, ↓reduceIte, seval]; first | done | omega) | fail) only [go_sem, ↓reduceIte, seval, hb, ho', hd, hp, gs_ne, gs_eq, gs_old, gs_new, gs_new0, st_old, st_new, st_new0, List.set_set, bne_self_eq_false, hbt, e1, e2, e3, e4, e5, e6, e7, e8, e9, hg1, hs1, hsl]; try simp) ?_; try simp (disch := first | omega | (simp only [go_sem, ↓reduceIte, seval]; first | done | omega) | fail) only [go_sem, ↓reduceIte, seval, hb, ho', hd, hp, gs_ne, gs_eq, gs_old, gs_new, gs_new0, st_old, st_new, st_new0, List.set_set, bne_self_eq_false, hbt, e1, e2, e3, e4, e5, e6, e7, e8, e9, hg1, hs1, hsl]) | ((first | refine hK _ _ (w0 ?_) | (clear hK K; refine hK _ _ (w0 ?_)) | (clear hK K; clear hK K; refine hK _ _ (w0 ?_))); clear hK K)))
   first | refine (hQ _ _ ?_).1 | refine (hQ _ _ ?_).2
   simp (disch := first | omega | (simp only [go_sem, ↓reduceIte, seval]; first | done | omega) | fail) only [go_sem, ↓reduceIte, seval, hb, ho', hd, hp, gs_ne, gs_eq, gs_old, gs_new, gs_new0, st_old, st_new, st_new0, List.set_set, bne_self_eq_false, hbt, e1, e2, e3, e4, e5, e6, e7, e8, e9, hg1, hs1, hsl]
   refine Fin.whole (by simp) (.bool _) ⟨⟨?_, by simp⟩, rfl, ?_, ?_, ?_, ?_⟩
   ·repeat (first | exact FrN.refl _ _ | refine FrN.set _ (by omega) ?_ | refine FrN.app _ (by simp; omega) ?_)
   ·simp (disch := first | omega | (simp only [go_sem, ↓reduceIte, seval]; first | done | omega) | fail) only [go_sem, ↓reduceIte, seval, hb, ho', hd, hp, gs_ne, gs_eq, gs_old, gs_new, gs_new0, st_old, st_new, st_new0, List.set_set, bne_self_eq_false, hbt, e1, e2, e3, e4, e5, e6, e7, e8, e9, hg1, hs1, hsl]
   ·simp (disch := first | omega | (simp only [go_sem, ↓reduceIte, seval]; first | done | omega) | fail) only [go_sem, ↓reduceIte, seval, hb, ho', hd, hp, gs_ne, gs_eq, gs_old, gs_new, gs_new0, st_old, st_new, st_new0, List.set_set, bne_self_eq_false, hbt, e1, e2, e3, e4, e5, e6, e7, e8, e9, hg1, hs1, hsl]
   ·simp (disch := first | omega | (simp only [go_sem, ↓reduceIte, seval]; first | done | omega) | fail) only [go_sem, ↓reduceIte, seval, hb, ho', hd, hp, gs_ne, gs_eq, gs_old, gs_new, gs_new0, st_old, st_new, st_new0, List.set_set, bne_self_eq_false, hbt, e1, e2, e3, e4, e5, e6, e7, e8, e9, hg1, hs1, hsl]
   ·intro q v x h1 h2 h3 h4
    have h5 := gr_lt h1
    have h2' : pb ≠ q := fun e => h2 e.symm
    have h3' : po ≠ q := fun e => h3 e.symm
    have h4' : p.q ≠ q := fun e => h4 e.symm
    simp (disch := first | omega | (simp only [go_sem, ↓reduceIte, seval]; first | done | omega) | fail) only [go_sem, ↓reduceIte, seval, hb, ho', hd, hp, gs_ne, gs_eq, gs_old, gs_new, gs_new0, st_old, st_new, st_new0, List.set_set, bne_self_eq_false, hbt, e1, e2, e3, e4, e5, e6, e7, e8, e9, hg1, hs1, hsl, h1]
  ·show K _ _
   refine hK _ _ (Wkn.refl ?_)
   clear hK K
   (repeat (first | refine w1 (fun K hK => ?_) | refine w2 ?_ | refine w3 ?_ | ((first | refine w4 ?_ | refine WP_draw 18 (by decide +kernel) ?_ | refine WP_draw 17 (by decide +kernel) ?_ | refine WP_draw 7 (by decide +kernel) ?_ | refine w5 ?_ | refine w6 ?_ | refine w7 ?_); try simp (disch := first | omega | (simp only [go_sem, ↓reduceIte, seval]; first | done | omega) | fail) only [go_sem, ↓reduceIte, seval, hb, ho', hd, hp, gs_ne, gs_eq, gs_old, gs_new, gs_new0, st_old, st_new, st_new0, List.set_set, bne_self_eq_false, hbt, e1, e2, e3, e4, e5, e6, e7, e8, e9, hg1, hs1, hsl]) | (refine w8 ?_; simp (disch := first | omega | (simp only [go_sem, ↓reduceIte, seval]; first | done | omega) | fail) only [go_sem, ↓reduceIte, seval, hb, ho', hd, hp, gs_ne, gs_eq, gs_old, gs_new, gs_new0, st_old, st_new, st_new0, List.set_set, bne_self_eq_false, hbt, e1, e2, e3, e4, e5, e6, e7, e8, e9, hg1, hs1, hsl]; refine w9 ?_) | (refine rowsK_sl (by simp only [go_sem]; rfl) (by simp only [go_sem]; rfl) (by simp only [go_sem]; try rfl) (by simp) (by omega) (by omega) (by omega) rfl (by simp (disch := first | omega | (simp only [go_sem, ↓reduceIte, seval]; first | done | omega) | fail) only [go_sem, ↓reduceIte, seval, hb, ho', hd, hp, gs_ne, gs_eq, gs_old, gs_new, gs_new0, st_old, st_new, st_new0, List.set_set, bne_self_eq_false, hbt, e1, e2, e3, e4, e5, e6, e7, e8, e9, hg1, hs1, hsl]; try simp) ?_; try simp (disch := first | omega | (simp only [go_sem, ↓reduceIte, seval]; first | done | omega) | fail) only [go_sem, ↓reduceIte, seval, hb, ho', hd, hp, gs_ne, gs_eq, gs_old, gs_new, gs_new0, st_old, st_new, st_new0, List.set_set, bne_self_eq_false, hbt, e1, e2, e3, e4, e5, e6, e7, e8, e9, hg1, hs1, hsl]) | (refine rowsV_sl (by simp only [go_sem]; rfl) (by simp only [go_sem]; rfl) (by simp only [go_sem]; try rfl) (by simp) (by omega) (by omega) (by omega) rfl (by simp (disch := first | omega | (simp only [go_sem, ↓reduceIte, seval]; first | done | omega) | fail) only [go_sem, ↓reduceIte, seval, hb, ho', hd, hp, gs_ne, gs_eq, gs_old, gs_new, gs_new0, st_old, st_new, st_new0, List.set_set, bne_self_eq_false, hbt, e1, e2, e3, e4, e5, e6, e7, e8, e9, hg1, hs1, hsl]; try simp) ?_; try simp (disch := first | omega | (simp only [go_sem, ↓reduceIte, seval]; first | done | omega) | fail) only [go_sem, ↓reduceIte, seval, hb, ho', hd, hp, gs_ne, gs_eq, gs_old, gs_new, gs_new0, st_old, st_new, st_new0, List.set_set, bne_self_eq_false, hbt, e1, e2, e3, e4, e5, e6, e7, e8, e9, hg1, hs1, hsl]) | ((first | refine hK _ _ (w0 ?_) | (clear hK K; refine hK _ _ (w0 ?_)) | (clear hK K; clear hK K; refine hK _ _ (w0 ?_))); clear hK K)))
   refine appK_row (by first | exact .inl rfl | (right; simp only [go_sem])) (by simp only [go_sem]; rfl) (by simp only [go_sem]; rfl) (by simp only [go_sem]; rfl) (by simp only [go_sem]; try rfl) (by omega) (by simp only [elemsOf, ↓reduceIte]; rfl) (by simp (disch := first | omega | (simp only [go_sem, ↓reduceIte, seval]; first | done | omega) | fail) only [go_sem, ↓reduceIte, seval, hb, ho', hd, hp, gs_ne, gs_eq, gs_old, gs_new, gs_new0, st_old, st_new, st_new0, List.set_set, bne_self_eq_false, hbt, e1, e2, e3, e4, e5, e6, e7, e8, e9, hg1, hs1, hsl]; rfl) (by simp) ?_ ?_
   ·refine ⟨?_, ?_⟩ <;> simp only [maxLen, List.length_map, List.length_cons, List.length_nil, List.length_append] <;> omega
   try simp (disch := first | omega | (simp only [go_sem, ↓reduceIte, seval]; first | done | omega) | fail) only [go_sem, ↓reduceIte, seval, hb, ho', hd, hp, gs_ne, gs_eq, gs_old, gs_new, gs_new0, st_old, st_new, st_new0, List.set_set, bne_self_eq_false, hbt, e1, e2, e3, e4, e5, e6, e7, e8, e9, hg1, hs1, hsl]
   (repeat (first | refine w1 (fun K hK => ?_) | refine w2 ?_ | refine w3 ?_ | ((first | refine w4 ?_ | refine WP_draw 18 (by decide +kernel) ?_ | refine WP_draw 17 (by decide +kernel) ?_ | refine WP_draw 7 (by decide +kernel) ?_ | refine w5 ?_ | refine w6 ?_ | refine w7 ?_); try simp (disch := first | omega | (simp only [go_sem, ↓reduceIte, seval]; first | done | omega) | fail) only [go_sem, ↓reduceIte, seval, hb, ho', hd, hp, gs_ne, gs_eq, gs_old, gs_new, gs_new0, st_old, st_new, st_new0, List.set_set, bne_self_eq_false, hbt, e1, e2, e3, e4, e5, e6, e7, e8, e9, hg1, hs1, hsl]) | (refine w8 ?_; simp (disch := first | omega | (simp only [go_sem, ↓reduceIte, seval]; first | done | omega) | fail) only [go_sem, ↓reduceIte, seval, hb, ho', hd, hp, gs_ne, gs_eq, gs_old, gs_new, gs_new0, st_old, st_new, st_new0, List.set_set, bne_self_eq_false, hbt, e1, e2, e3, e4, e5, e6, e7, e8, e9, hg1, hs1, hsl]; refine w9 ?_) | (refine rowsK_sl (by simp only [go_sem]; rfl) (by simp only [go_sem]; rfl) (by simp only [go_sem]; try rfl) (by simp) (by omega) (by omega) (by omega) rfl (by simp (disch := first | omega | (simp only [go_sem, ↓reduceIte, seval]; first | done | omega) | fail) only [go_sem, ↓reduceIte, seval, hb, ho', hd, hp, gs_ne, gs_eq, gs_old, gs_new, gs_new0, st_old, st_new, st_new0, List.set_set, bne_self_eq_false, hbt, e1, e2, e3, e4, e5, e6, e7, e8, e9, hg1, hs1, hsl]; try simp) ?_; try simp (disch := first | omega | (simp only [go_sem, ↓reduceIte, seval]; first | done | omega) | fail) only [go_sem, ↓reduceIte, seval, hb, ho', hd, hp, gs_ne, gs_eq, gs_old, gs_new, gs_new0, st_old, st_new, st_new0, List.set_set, bne_self_eq_false, hbt, e1, e2, e3, e4, e5, e6, e7, e8, e9, hg1, hs1, hsl]) | (refine rowsV_sl (by simp only [go_sem]; rfl) (by simp only [go_sem]; rfl) (by simp only [go_sem]; try rfl) (by simp) (by omega) (by omega) (by omega) rfl (by simp (disch := first | omega | (simp only [go_sem, ↓reduceIte, seval]; first | done | omega) | fail) only [go_sem, ↓reduceIte, seval, hb, ho', hd, hp, gs_ne, gs_eq, gs_old, gs_new, gs_new0, st_old, st_new, st_new0, List.set_set, bne_self_eq_false, hbt, e1, e2, e3, e4, e5, e6, e7, e8, e9, hg1, hs1, hsl]; try simp) ?_; try simp (disch := first | omega | (simp only [go_sem, ↓reduceIte, seval]; first | done | omega) | fail) only [go_sem, ↓reduceIte, seval, hb, ho', hd, hp, gs_ne, gs_eq, gs_old, gs_new, gs_new0, st_old, st_new, st_new0, List.set_set, bne_self_eq_false, hbt, e1, e2, e3, e4, e5, e6, e7, e8, e9, hg1, hs1, hsl]) | ((first | refine hK _ _ (w0 ?_) | (clear hK K; refine hK _ _ (w0 ?_)) | (clear hK K; clear hK K; refine hK _ _ (w0 ?_))); clear hK K)))
   first | refine (hQ _ _ ?_).1 | refine (hQ _ _ ?_).2
   simp (disch := first | omega | (simp only [go_sem, ↓reduceIte, seval]; first | done | omega) | fail) only [go_sem, ↓reduceIte, seval, hb, ho', hd, hp, gs_ne, gs_eq, gs_old, gs_new, gs_new0, st_old, st_new, st_new0, List.set_set, bne_self_eq_false, hbt, e1, e2, e3, e4, e5, e6, e7, e8, e9, hg1, hs1, hsl]
   refine Fin.whole (by simp) (.bool _) ⟨⟨?_, by simp⟩, rfl, ?_, ?_, ?_, ?_⟩
   ·repeat (first | exact FrN.refl _ _ | refine FrN.set _ (by omega) ?_ | refine FrN.app _ (by simp; omega) ?_)
   ·simp (disch := first | omega | (simp only [go_sem, ↓reduceIte, seval]; first | done | omega) | fail) only [go_sem, ↓reduceIte, seval, hb, ho', hd, hp, gs_ne, gs_eq, gs_old, gs_new, gs_new0, st_old, st_new, st_new0, List.set_set, bne_self_eq_false, hbt, e1, e2, e3, e4, e5, e6, e7, e8, e9, hg1, hs1, hsl]
   ·simp (disch := first | omega | (simp only [go_sem, ↓reduceIte, seval]; first | done | omega) | fail) only [go_sem, ↓reduceIte, seval, hb, ho', hd, hp, gs_ne, gs_eq, gs_old, gs_new, gs_new0, st_old, st_new, st_new0, List.set_set, bne_self_eq_false, hbt, e1, e2, e3, e4, e5, e6, e7, e8, e9, hg1, hs1, hsl]
   ·simp (disch := first | omega | (simp only [go_sem, ↓reduceIte, seval]; first | done | omega) | fail) only [go_sem, ↓reduceIte, seval, hb, ho', hd, hp, gs_ne, gs_eq, gs_old, gs_new, gs_new0, st_old, st_new, st_new0, List.set_set, bne_self_eq_false, hbt, e1, e2, e3, e4, e5, e6, e7, e8, e9, hg1, hs1, hsl]
   ·intro q v x h1 h2 h3 h4
    have h5 := gr_lt h1
    have h2' : pb ≠ q := fun e => h2 e.symm
    have h3' : po ≠ q := fun e => h3 e.symm
    have h4' : p.q ≠ q := fun e => h4 e.symm
    simp (disch := first | omega | (simp only [go_sem, ↓reduceIte, seval]; first | done | omega) | fail) only [go_sem, ↓reduceIte, seval, hb, ho', hd, hp, gs_ne, gs_eq, gs_old, gs_new, gs_new0, st_old, st_new, st_new0, List.set_set, bne_self_eq_false, hbt, e1, e2, e3, e4, e5, e6, e7, e8, e9, hg1, hs1, hsl, h1]
end Go.Av
namespace Go.Av
open Go Go.Proofs Go.RowKit
attribute [local irreducible] WP WPl WPix Sat
set_option maxRecDepth 100000
set_option maxHeartbeats 1000000
variable (G : Nat → Option (List AVal)) {H : Heap} {n0 pb po vo pd vd : Nat} {room : Bool} {os : List OE} {ds : List Elem}
theorem BH.app (l : Heap) (g : BH H n0 pb po vo room os pd vd ds) : BH (H ++ l) n0 pb po vo room os pd vd ds :=
 ⟨by rw [gs_old _ (gr_lt g.b)]; exact g.b, by rw [gs_old _ (gr_lt g.o)]; exact g.o, by rw [gs_old _ (gr_lt g.d)]; exact g.d,
  fun i o h => by rw [gs_old _ (gr_lt (g.k i o h))]; exact g.k i o h, g.od, g.ko, g.kk, g.n⟩
theorem bclose_sat (nm : Bs) (a : List At) (x : Bs) (g : BH H n0 pb po vo room os pd vd ds) (hos : os.length ≤ 1000) (hds : ds.length ≤ 1048576) (hk : ∀ o ∈ os, o.k.length ≤ 1048576) :
  Sat (CT G) 107 [.hp pb 0 0 0, .str nm] H (BPost n0 pb H (os.map OE.el) ds (stepB (os.map OE.el) ds (2, nm, a, x))) := by
 have no : (os = [] ∨ ∃ l o, os = l ++ [o] ∧ o.n ≠ nm) → Sat (CT G) 107 [.hp pb 0 0 0, .str nm] H (BPost n0 pb H (os.map OE.el) ds (stepB (os.map OE.el) ds (2, nm, a, x))) := fun hno => by
  have e : stepB (os.map OE.el) ds (2, nm, a, x) = none := stepB_cls0 _ _ _ (by
   rcases hno with rfl | ⟨l, o, rfl, h⟩
   ·exact .inl rfl
   ·exact .inr ⟨l.map OE.el, o.el, by simp, h⟩) _ _
  rw [e]
  refine (close0_sat G nm g hos hno).mono ?_
  rintro r h' ⟨rfl, rfl⟩
  exact ⟨⟨FrN.refl _ _, Nat.le_refl _⟩, rfl⟩
 rcases List.eq_nil_or_concat os with rfl | ⟨l, o, rfl⟩
 ·exact no (.inl rfl)
 ·rw [List.concat_eq_append] at *
  by_cases hn : o.n = nm
  ·subst hn
   rcases List.eq_nil_or_concat l with rfl | ⟨l, p, rfl⟩
   ·have := close1_sat G o g hds
    have e : stepB (([] ++ [o]).map OE.el) ds (2, o.n, a, x) = some ([], ds ++ [o.el]) := stepB_cls1 ds o.el a x
    rw [e]; exact this
   ·rw [List.concat_eq_append] at *
    have e1 : l ++ [p] ++ [o] = l ++ [p, o] := by simp
    rw [e1] at g hk hos ⊢
    have := close2_sat G l p o (by simp at hos; omega) (hk p (by simp)) g
    have e : stepB ((l ++ [p, o]).map OE.el) ds (2, o.n, a, x) = some ((l ++ [(⟨p.n, p.a, p.t, p.k ++ [o.el], p.q, p.v + 1⟩ : OE)]).map OE.el, ds) := by
     have := stepB_cls2 (l.map OE.el) ds p.el o.el a x
     simpa [OE.el, Elem.name, Elem.attrs, Elem.text, Elem.kids] using this
    rw [e]; exact this
  ·exact no (.inr ⟨l, o, rfl, hn⟩)
end Go.Av
namespace Go.Av
open Go Go.Proofs Go.RowKit
attribute [local irreducible] WP WPl WPix Sat
set_option maxRecDepth 100000
set_option maxHeartbeats 1000000
variable (G : Nat → Option (List AVal)) {H : Heap} {n0 pb po vo pd vd : Nat} {room : Bool} {os : List OE} {ds : List Elem}
theorem BPost.app {l : Heap} {a b : List Elem} {x : Option (List Elem × List Elem)} {r : AVal} {H' : Heap} (hn : n0 ≤ H.length) (g : BPost n0 pb (H ++ l) a b x r H') : BPost n0 pb H a b x r H' := by
 obtain ⟨⟨g1, g2⟩, g3⟩ := g
 exact ⟨⟨(FrN.app _ (by omega) (FrN.refl _ _)).trans g1, by rw [List.length_append] at g2; omega⟩, g3⟩
theorem BPost.bool {a b : List Elem} {x : Option (List Elem × List Elem)} {r : AVal} {H' : Heap} (g : BPost n0 pb H a b x r H') : ∃ q, r = .bool q := by
 obtain ⟨_, g⟩ := g
 cases x with
 | none => exact ⟨_, g⟩
 | some y => exact ⟨_, g.1⟩
theorem BH.start {C : Ctx} (hb : getRow H pb 0 = some (106, 2, [.agg [.nil (.slice none 0 0), .nil (.slice none 0 0)]])) (hn : n0 ≤ pb) :
  ∃ H', (∀ (ms : List Nat) (t : Env), Weak C ms t H t H') ∧ (FrN n0 H H' ∧ H.length ≤ H'.length) ∧ ∃ po pd, BH H' n0 pb po 0 true [] pd 0 [] := by
 have hlt := gr_lt hb
 have g1 : getRow (H.set pb (.row 106 2 0 [.agg [.hs H.length 0 0 0 true, .nil (.slice none 0 0)]]) ++ [.row 26 4 0 []]) pb 0 = some (106, 2, [.agg [.hs H.length 0 0 0 true, .nil (.slice none 0 0)]]) := by
  rw [gs_old _ (by simpa using hlt), gs_eq _ _ _ _ _ hlt]; simp
 refine ⟨_, fun ms t => (Weak.virtCell 26 4 (by omega) hb 0 rfl).trans (Weak.virtCell 26 4 (by omega) g1 1 rfl), ⟨fun p hp => ?_, by simp; omega⟩, H.length, H.length + 1, ?_⟩
 ·rw [List.getElem?_append_left (by simp; omega), List.getElem?_set_ne (by omega), List.getElem?_append_left (by simp; omega), List.getElem?_set_ne (by omega)]
 ·refine ⟨?_, ?_, ?_, fun i o hi => (by simp at hi), by omega, fun i o hi => (by simp at hi), fun i j o o' hi => (by simp at hi), ⟨hn, by omega, by omega⟩⟩
  ·rw [gs_old _ (by simp; omega), gs_eq _ _ _ _ _ (by simp; omega)]; simp
  ·rw [gs_old _ (by simp), gs_ne _ _ (by omega), gs_new0 _ (by simp)]; rfl
  ·rw [gs_new0 _ (by simp)]; rfl
theorem badd_sat (hG : GOk G) (hC : GClo (CT G)) (t : Tok) (ht : Tok.sz t ≤ 1048576) (g : BH H n0 pb po vo room os pd vd ds) (hos : os.length ≤ 1000) (hds : ds.length ≤ 1048576) (hk : ∀ o ∈ os, o.k.length ≤ 1048576) (htx : ∀ o ∈ os, o.t.length ≤ 10000000) :
  Sat (CT G) 80 [.hp pb 0 0 0, t.av] H (BPost n0 pb H (os.map OE.el) ds (stepB (os.map OE.el) ds t)) := by
 obtain ⟨k, nm, at_, tx⟩ := t
 have hsz : Tok.sz (k, nm, at_, tx) = 1 + nm.length + szs At.sz at_ + tx.length := rfl
 have hal := szs_len At.sz At.sz_pos at_
 have hlb := gr_lt g.b
 have hn := g.n
 by_cases h1 : k = 1
 ·subst h1
  refine (add1_sat G nm at_ tx (by omega) g hos hds).postw ?_
  rintro r h' ⟨hfr, rfl, po', vo', br⟩
  obtain ⟨h'', hw, hfr2, bh⟩ := br.weak (C := CT G)
  refine ⟨h'', hw [], ⟨hfr.1.trans hfr2.1, by omega⟩, ?_⟩
  unfold stepB
  rw [if_pos rfl]
  by_cases hc : (os.map OE.el).length + 1 ≤ 32 ∧ ds = []
  ·rw [if_pos hc]
   have e1 : os.length ≤ 31 := by have := hc.1; simp at this; omega
   refine ⟨by rw [decide_eq_true e1, hc.2]; rfl, po', vo', true, _, pd, vd, bh, by simp [OE.el]⟩
  ·rw [if_neg hc]
   show AVal.bool _ = AVal.bool false
   congr 1
   rw [Bool.and_eq_false_iff]
   by_cases e1 : os.length ≤ 31
   ·right
    rw [decide_eq_false_iff_not]
    intro e2
    exact hc ⟨by simp; omega, List.length_eq_zero_iff.1 e2⟩
   ·left; simpa using e1
 have fin : ∀ (l : Heap) (x : Option (List Elem × List Elem)) (r : AVal) (H' : Heap), BPost n0 pb (H ++ l) (os.map OE.el) ds x r H' → x = stepB (os.map OE.el) ds (k, nm, at_, tx) → Fin H H' (BPost n0 pb H (os.map OE.el) ds (stepB (os.map OE.el) ds (k, nm, at_, tx))) r := by
  intro l x r H' gp hx
  obtain ⟨q, rfl⟩ := gp.bool
  have hl := gp.1.2
  rw [List.length_append] at hl
  rw [← hx]
  exact Fin.whole (by omega) (.bool _) (BPost.app (by omega) gp)
 refine Sat.body [.tmp 4] (fn := Tryz.f80) Tryz.func80 rfl rfl (by kernel_rfl) (by kernel_rfl) (by kernel_rfl) rfl ?_
 intro Q hQ
 (repeat (first | refine w1 (fun K hK => ?_) | refine w2 ?_ | refine w3 ?_ | ((first | refine w4 ?_ | refine WP_draw 12 (by decide +kernel) ?_ | refine w5 ?_ | refine w6 ?_ | refine w7 ?_); try refine sq0 ?_) | (refine w8 ?_; refine sq0 ?_; refine w9 ?_) | (refine rq0 ?_; try refine sq0 ?_) | (refine vq0 ?_; try refine sq0 ?_) | ((first | refine hK _ _ (w0 ?_) | (clear hK K; refine hK _ _ (w0 ?_)) | (clear hK K; clear hK K; refine hK _ _ (w0 ?_))); clear hK K)))
 refine cq0 (fun c1 => ?_) (fun c1 => ?_) <;> (try exact c1.elim) <;>
  (repeat (first | refine w1 (fun K hK => ?_) | refine w2 ?_ | refine w3 ?_ | ((first | refine w4 ?_ | refine WP_draw 12 (by decide +kernel) ?_ | refine w5 ?_ | refine w6 ?_ | refine w7 ?_); try refine sq0 ?_) | (refine w8 ?_; refine sq0 ?_; refine w9 ?_) | (refine rq0 ?_; try refine sq0 ?_) | (refine vq0 ?_; try refine sq0 ?_) | ((first | refine hK _ _ (w0 ?_) | (clear hK K; refine hK _ _ (w0 ?_)) | (clear hK K; clear hK K; refine hK _ _ (w0 ?_))); clear hK K)))
 ·exact absurd c1 h1
 refine cq0 (fun c2 => ?_) (fun c2 => ?_) <;> (try exact c2.elim) <;>
  (repeat (first | refine w1 (fun K hK => ?_) | refine w2 ?_ | refine w3 ?_ | ((first | refine w4 ?_ | refine WP_draw 12 (by decide +kernel) ?_ | refine w5 ?_ | refine w6 ?_ | refine w7 ?_); try refine sq0 ?_) | (refine w8 ?_; refine sq0 ?_; refine w9 ?_) | (refine rq0 ?_; try refine sq0 ?_) | (refine vq0 ?_; try refine sq0 ?_) | ((first | refine hK _ _ (w0 ?_) | (clear hK K; refine hK _ _ (w0 ?_)) | (clear hK K; clear hK K; refine hK _ _ (w0 ?_))); clear hK K)))
 ·subst c2
  refine (bclose_sat G nm at_ tx (g.app _) hos hds hk).mono ?_
  intro r h' gp
  obtain ⟨q, hq⟩ := gp.bool
  subst hq
  try refine sq0 ?_
  (repeat (first | refine w1 (fun K hK => ?_) | refine w2 ?_ | refine w3 ?_ | ((first | refine w4 ?_ | refine WP_draw 12 (by decide +kernel) ?_ | refine w5 ?_ | refine w6 ?_ | refine w7 ?_); try refine sq0 ?_) | (refine w8 ?_; refine sq0 ?_; refine w9 ?_) | (refine rq0 ?_; try refine sq0 ?_) | (refine vq0 ?_; try refine sq0 ?_) | ((first | refine hK _ _ (w0 ?_) | (clear hK K; refine hK _ _ (w0 ?_)) | (clear hK K; clear hK K; refine hK _ _ (w0 ?_))); clear hK K)))
  first | refine (hQ _ _ ?_).1 | refine (hQ _ _ ?_).2
  refine sq0 ?_
  exact fin _ _ _ _ gp rfl
 refine cq0 (fun c3 => ?_) (fun c3 => ?_) <;> (try exact c3.elim) <;>
  (repeat (first | refine w1 (fun K hK => ?_) | refine w2 ?_ | refine w3 ?_ | ((first | refine w4 ?_ | refine WP_draw 12 (by decide +kernel) ?_ | refine w5 ?_ | refine w6 ?_ | refine w7 ?_); try refine sq0 ?_) | (refine w8 ?_; refine sq0 ?_; refine w9 ?_) | (refine rq0 ?_; try refine sq0 ?_) | (refine vq0 ?_; try refine sq0 ?_) | ((first | refine hK _ _ (w0 ?_) | (clear hK K; refine hK _ _ (w0 ?_)) | (clear hK K; clear hK K; refine hK _ _ (w0 ?_))); clear hK K)))
 ·subst c3
  refine (btext_sat G hG hC tx (by omega) (g.app _) hos (fun o ho => by have := htx o ho; omega)).mono ?_
  intro r h' gp
  obtain ⟨q, hq⟩ := gp.bool
  subst hq
  try refine sq0 ?_
  (repeat (first | refine w1 (fun K hK => ?_) | refine w2 ?_ | refine w3 ?_ | ((first | refine w4 ?_ | refine WP_draw 12 (by decide +kernel) ?_ | refine w5 ?_ | refine w6 ?_ | refine w7 ?_); try refine sq0 ?_) | (refine w8 ?_; refine sq0 ?_; refine w9 ?_) | (refine rq0 ?_; try refine sq0 ?_) | (refine vq0 ?_; try refine sq0 ?_) | ((first | refine hK _ _ (w0 ?_) | (clear hK K; refine hK _ _ (w0 ?_)) | (clear hK K; clear hK K; refine hK _ _ (w0 ?_))); clear hK K)))
  first | refine (hQ _ _ ?_).1 | refine (hQ _ _ ?_).2
  refine sq0 ?_
  exact fin _ _ _ _ gp (by rw [stepB_txt _ _ _ _ _ _ rfl, stepB_txt _ _ _ _ _ _ rfl])
 ·first | refine (hQ _ _ ?_).1 | refine (hQ _ _ ?_).2
  refine sq0 ?_
  have e : stepB (os.map OE.el) ds (k, nm, at_, tx) = none := by
   unfold stepB
   rw [if_neg h1, if_neg c2, if_neg c3]
  rw [e]
  exact Fin.whole (by simp) (.bool _) ⟨⟨FrN.app _ (by omega) (FrN.refl _ _), by simp⟩, rfl⟩
end Go.Av
namespace Go.Av
open Go Go.Proofs Go.RowKit
attribute [local irreducible] WP WPl WPix Sat
set_option maxRecDepth 100000
set_option maxHeartbeats 1000000
variable (G : Nat → Option (List AVal))
theorem wrapu8_in {x : Int} (h0 : 0 ≤ x) (h1 : x < 256) : IntKind.u8.wrap x = x := by
 simp only [IntKind.wrap, IntKind.bits, IntKind.signed]; simp; omega
theorem aconv_r8 (k : IntKind) (n : Int) (h0 : 0 ≤ n) (h1 : n < 256) : aconv Tryz.prog 21 5 (.int k n) = some (.int .u8 n) := by simp only [aconv, go_sem, wrapu8_in h0 h1]
theorem aconv_8i (k : IntKind) (n : Int) (h0 : 0 ≤ n) (h1 : n < 256) : aconv Tryz.prog 5 3 (.int k n) = some (.int .i64 n) := by simp only [aconv, go_sem, wrap64_in (x := n) (by omega) (by omega)]
theorem tdiv_in {a b : Int} (h0 : 0 ≤ a) : a.tdiv b = a / b := Int.tdiv_eq_ediv_of_nonneg h0
theorem tmod_in {a b : Int} (h0 : 0 ≤ a) : a.tmod b = a % b := Int.tmod_eq_emod_of_nonneg h0
theorem Bytes.clo (n m : Nat) (l : Bs) : Clo n (.sl m (l.map bytA)) := .sl _ _ fun e he => by obtain ⟨a, _, rfl⟩ := List.mem_map.1 he; exact .int _ _
theorem one_sat (r : Int) (hr : Rune r) (h : Heap) : Sat (CT G) 169 [.int .i32 r] h (fun x h' => x = .sl 1 ((enc r).map bytA) ∧ h' = h) := by
 obtain ⟨h0, h1⟩ := id hr
 have n64 : ((64 : Int) = 0) = False := by decide
 skip
 refine Sat.body [.tmp 2] (fn := Tryz.f169) Tryz.func169 rfl rfl (by kernel_rfl) (by kernel_rfl) (by kernel_rfl) rfl ?_
 intro Q hQ
 (repeat (first | refine w1 (fun K hK => ?_) | refine w2 ?_ | refine w3 ?_ | ((first | refine w4 ?_ | refine w5 ?_ | refine w6 ?_ | refine w7 ?_); try refine sq4 @aconv_r8 @wrap32_in @tdiv_in @tmod_in ?_) | (refine w8 ?_; refine sq4 @aconv_r8 @wrap32_in @tdiv_in @tmod_in ?_; refine w9 ?_) | (refine rq4 @aconv_r8 @wrap32_in @tdiv_in @tmod_in ?_; try refine sq4 @aconv_r8 @wrap32_in @tdiv_in @tmod_in ?_) | (refine vq4 @aconv_r8 @wrap32_in @tdiv_in @tmod_in ?_; try refine sq4 @aconv_r8 @wrap32_in @tdiv_in @tmod_in ?_) | ((first | refine hK _ _ (w0 ?_) | (clear hK K; refine hK _ _ (w0 ?_)) | (clear hK K; clear hK K; refine hK _ _ (w0 ?_))); clear hK K)))
 (first | refine gq4 @aconv_r8 @wrap32_in @tdiv_in @tmod_in (fun g1 => ?_) (fun g1 => ?_) | refine pq4 @aconv_r8 @wrap32_in @tdiv_in @tmod_in (fun g1 => ?_) (fun g1 => ?_)) <;> (try exact g1.elim) <;> (try refine sq4 @aconv_r8 @wrap32_in @tdiv_in @tmod_in ?_) <;>
  (repeat (first | refine w1 (fun K hK => ?_) | refine w2 ?_ | refine w3 ?_ | ((first | refine w4 ?_ | refine w5 ?_ | refine w6 ?_ | refine w7 ?_); try refine sq4 @aconv_r8 @wrap32_in @tdiv_in @tmod_in ?_) | (refine w8 ?_; refine sq4 @aconv_r8 @wrap32_in @tdiv_in @tmod_in ?_; refine w9 ?_) | (refine rq4 @aconv_r8 @wrap32_in @tdiv_in @tmod_in ?_; try refine sq4 @aconv_r8 @wrap32_in @tdiv_in @tmod_in ?_) | (refine vq4 @aconv_r8 @wrap32_in @tdiv_in @tmod_in ?_; try refine sq4 @aconv_r8 @wrap32_in @tdiv_in @tmod_in ?_) | ((first | refine hK _ _ (w0 ?_) | (clear hK K; refine hK _ _ (w0 ?_)) | (clear hK K; clear hK K; refine hK _ _ (w0 ?_))); clear hK K)))
 ·exfalso; omega
 ·have big : ∀ (t' : Env), t' 0 = .int .i32 r → t' 16 = .bool false → K t' h := by
   intro t' e0 e16
   refine hK _ _ (Wkn.refl ?_)
   clear hK K
   skip
   (repeat (first | refine w1 (fun K hK => ?_) | refine w2 ?_ | refine w3 ?_ | ((first | refine w4 ?_ | refine w5 ?_ | refine w6 ?_ | refine w7 ?_); try refine sq6 @aconv_r8 @wrap32_in @tdiv_in @tmod_in e0 e16 ?_) | (refine w8 ?_; refine sq6 @aconv_r8 @wrap32_in @tdiv_in @tmod_in e0 e16 ?_; refine w9 ?_) | (refine rq6 @aconv_r8 @wrap32_in @tdiv_in @tmod_in e0 e16 ?_; try refine sq6 @aconv_r8 @wrap32_in @tdiv_in @tmod_in e0 e16 ?_) | (refine vq6 @aconv_r8 @wrap32_in @tdiv_in @tmod_in e0 e16 ?_; try refine sq6 @aconv_r8 @wrap32_in @tdiv_in @tmod_in e0 e16 ?_) | ((first | refine hK _ _ (w0 ?_) | (clear hK K; refine hK _ _ (w0 ?_)) | (clear hK K; clear hK K; refine hK _ _ (w0 ?_))); clear hK K)))
   have fin : ∀ l : List AVal, (enc r).map bytA = l → Fin h h (fun x h' => x = .sl 1 ((enc r).map bytA) ∧ h' = h) (.sl 1 l) := fun l e => by
    rw [← e]; exact Fin.frzS (.clo _ (Bytes.clo _ _ _)) ⟨rfl, rfl⟩
   refine cq6 @aconv_r8 @wrap32_in @tdiv_in @tmod_in e0 e16 (fun c1 => ?_) (fun c1 => ?_) <;> (try exact c1.elim) <;>
    (repeat (first | refine w1 (fun K hK => ?_) | refine w2 ?_ | refine w3 ?_ | ((first | refine w4 ?_ | refine w5 ?_ | refine w6 ?_ | refine w7 ?_); try refine sq6 @aconv_r8 @wrap32_in @tdiv_in @tmod_in e0 e16 ?_) | (refine w8 ?_; refine sq6 @aconv_r8 @wrap32_in @tdiv_in @tmod_in e0 e16 ?_; refine w9 ?_) | (refine rq6 @aconv_r8 @wrap32_in @tdiv_in @tmod_in e0 e16 ?_; try refine sq6 @aconv_r8 @wrap32_in @tdiv_in @tmod_in e0 e16 ?_) | (refine vq6 @aconv_r8 @wrap32_in @tdiv_in @tmod_in e0 e16 ?_; try refine sq6 @aconv_r8 @wrap32_in @tdiv_in @tmod_in e0 e16 ?_) | ((first | refine hK _ _ (w0 ?_) | (clear hK K; refine hK _ _ (w0 ?_)) | (clear hK K; clear hK K; refine hK _ _ (w0 ?_))); clear hK K)))
   ·first | refine (hQ _ _ ?_).1 | refine (hQ _ _ ?_).2
    refine sq6 @aconv_r8 @wrap32_in @tdiv_in @tmod_in e0 e16 ?_
    exact fin _ (enc1 h0 c1)
   ·refine cq6 @aconv_r8 @wrap32_in @tdiv_in @tmod_in e0 e16 (fun c2 => ?_) (fun c2 => ?_) <;> (try exact c2.elim) <;>
     (repeat (first | refine w1 (fun K hK => ?_) | refine w2 ?_ | refine w3 ?_ | ((first | refine w4 ?_ | refine w5 ?_ | refine w6 ?_ | refine w7 ?_); try refine sq6 @aconv_r8 @wrap32_in @tdiv_in @tmod_in e0 e16 ?_) | (refine w8 ?_; refine sq6 @aconv_r8 @wrap32_in @tdiv_in @tmod_in e0 e16 ?_; refine w9 ?_) | (refine rq6 @aconv_r8 @wrap32_in @tdiv_in @tmod_in e0 e16 ?_; try refine sq6 @aconv_r8 @wrap32_in @tdiv_in @tmod_in e0 e16 ?_) | (refine vq6 @aconv_r8 @wrap32_in @tdiv_in @tmod_in e0 e16 ?_; try refine sq6 @aconv_r8 @wrap32_in @tdiv_in @tmod_in e0 e16 ?_) | ((first | refine hK _ _ (w0 ?_) | (clear hK K; refine hK _ _ (w0 ?_)) | (clear hK K; clear hK K; refine hK _ _ (w0 ?_))); clear hK K)))
    ·first | refine (hQ _ _ ?_).1 | refine (hQ _ _ ?_).2
     refine sq6 @aconv_r8 @wrap32_in @tdiv_in @tmod_in e0 e16 ?_
     exact fin _ (by rw [enc2 c1 c2])
    ·refine cq6 @aconv_r8 @wrap32_in @tdiv_in @tmod_in e0 e16 (fun c3 => ?_) (fun c3 => ?_) <;> (try exact c3.elim) <;>
      (repeat (first | refine w1 (fun K hK => ?_) | refine w2 ?_ | refine w3 ?_ | ((first | refine w4 ?_ | refine w5 ?_ | refine w6 ?_ | refine w7 ?_); try refine sq6 @aconv_r8 @wrap32_in @tdiv_in @tmod_in e0 e16 ?_) | (refine w8 ?_; refine sq6 @aconv_r8 @wrap32_in @tdiv_in @tmod_in e0 e16 ?_; refine w9 ?_) | (refine rq6 @aconv_r8 @wrap32_in @tdiv_in @tmod_in e0 e16 ?_; try refine sq6 @aconv_r8 @wrap32_in @tdiv_in @tmod_in e0 e16 ?_) | (refine vq6 @aconv_r8 @wrap32_in @tdiv_in @tmod_in e0 e16 ?_; try refine sq6 @aconv_r8 @wrap32_in @tdiv_in @tmod_in e0 e16 ?_) | ((first | refine hK _ _ (w0 ?_) | (clear hK K; refine hK _ _ (w0 ?_)) | (clear hK K; clear hK K; refine hK _ _ (w0 ?_))); clear hK K)))
     ·first | refine (hQ _ _ ?_).1 | refine (hQ _ _ ?_).2
      refine sq6 @aconv_r8 @wrap32_in @tdiv_in @tmod_in e0 e16 ?_
      exact fin _ (by rw [enc3 hr c2 c3])
     ·first | refine (hQ _ _ ?_).1 | refine (hQ _ _ ?_).2
      refine sq6 @aconv_r8 @wrap32_in @tdiv_in @tmod_in e0 e16 ?_
      exact fin _ (by rw [enc4 c3 (by omega)])
  (first | refine gq4 @aconv_r8 @wrap32_in @tdiv_in @tmod_in (fun g2 => ?_) (fun g2 => ?_) | refine pq4 @aconv_r8 @wrap32_in @tdiv_in @tmod_in (fun g2 => ?_) (fun g2 => ?_)) <;> (try exact g2.elim) <;> (try refine sq4 @aconv_r8 @wrap32_in @tdiv_in @tmod_in ?_) <;>
   (repeat (first | refine w1 (fun K hK => ?_) | refine w2 ?_ | refine w3 ?_ | ((first | refine w4 ?_ | refine w5 ?_ | refine w6 ?_ | refine w7 ?_); try refine sq4 @aconv_r8 @wrap32_in @tdiv_in @tmod_in ?_) | (refine w8 ?_; refine sq4 @aconv_r8 @wrap32_in @tdiv_in @tmod_in ?_; refine w9 ?_) | (refine rq4 @aconv_r8 @wrap32_in @tdiv_in @tmod_in ?_; try refine sq4 @aconv_r8 @wrap32_in @tdiv_in @tmod_in ?_) | (refine vq4 @aconv_r8 @wrap32_in @tdiv_in @tmod_in ?_; try refine sq4 @aconv_r8 @wrap32_in @tdiv_in @tmod_in ?_) | ((first | refine hK _ _ (w0 ?_) | (clear hK K; refine hK _ _ (w0 ?_)) | (clear hK K; clear hK K; refine hK _ _ (w0 ?_))); clear hK K)))
  ·exfalso; omega
  ·(first | refine gq4 @aconv_r8 @wrap32_in @tdiv_in @tmod_in (fun g3 => ?_) (fun g3 => ?_) | refine pq4 @aconv_r8 @wrap32_in @tdiv_in @tmod_in (fun g3 => ?_) (fun g3 => ?_)) <;> (try exact g3.elim) <;> (try refine sq4 @aconv_r8 @wrap32_in @tdiv_in @tmod_in ?_) <;>
    (repeat (first | refine w1 (fun K hK => ?_) | refine w2 ?_ | refine w3 ?_ | ((first | refine w4 ?_ | refine w5 ?_ | refine w6 ?_ | refine w7 ?_); try refine sq4 @aconv_r8 @wrap32_in @tdiv_in @tmod_in ?_) | (refine w8 ?_; refine sq4 @aconv_r8 @wrap32_in @tdiv_in @tmod_in ?_; refine w9 ?_) | (refine rq4 @aconv_r8 @wrap32_in @tdiv_in @tmod_in ?_; try refine sq4 @aconv_r8 @wrap32_in @tdiv_in @tmod_in ?_) | (refine vq4 @aconv_r8 @wrap32_in @tdiv_in @tmod_in ?_; try refine sq4 @aconv_r8 @wrap32_in @tdiv_in @tmod_in ?_) | ((first | refine hK _ _ (w0 ?_) | (clear hK K; refine hK _ _ (w0 ?_)) | (clear hK K; clear hK K; refine hK _ _ (w0 ?_))); clear hK K)))
   ·have e : decide (r ≤ 57343) = false := by rw [decide_eq_false_iff_not]; omega
    refine big _ ?_ ?_
    ·exact zq4 @aconv_r8 @wrap32_in @tdiv_in @tmod_in
    ·exact zq5 @aconv_r8 @wrap32_in @tdiv_in @tmod_in e
   ·refine big _ ?_ ?_
    ·exact zq4 @aconv_r8 @wrap32_in @tdiv_in @tmod_in
    ·exact zq4 @aconv_r8 @wrap32_in @tdiv_in @tmod_in
theorem bytesStr_u8 : bytesStr Tryz.prog 71 9 = true := by kernel_rfl
def runA (r : Int) : AVal := .int .i32 r
@[go_sem] theorem runA_cells (r : Int) : (runA r).cells = [.int .i32 r] := (rfl)
theorem Put_sat (l : List Int) (hr : ∀ r ∈ l, Rune r) (hl : l.length ≤ 1048576) (h : Heap) : Sat (CT G) 136 [.sl 1 (l.map runA)] h (fun x h' => x = .str (l.flatMap enc) ∧ h' = h) := by
 have hll : (l.map runA).length = l.length := List.length_map ..
 skip
 refine Sat.body [.tmp 2] (fn := Tryz.f136) Tryz.func136 rfl rfl (by kernel_rfl) (by kernel_rfl) (by kernel_rfl) rfl ?_
 intro Q hQ
 (repeat (first | refine w1 (fun K hK => ?_) | refine w2 ?_ | refine w3 ?_ | ((first | refine w4 ?_ | refine w5 ?_ | refine w6 ?_ | refine w7 ?_); try refine sq1 hll ?_) | (refine w8 ?_; refine sq1 hll ?_; refine w9 ?_) | ((first | refine hK _ _ (w0 ?_) | (clear hK K; refine hK _ _ (w0 ?_)) | (clear hK K; clear hK K; refine hK _ _ (w0 ?_))); clear hK K)))
 refine WP_loopm (by simp only [go_sem, List.nil_append, List.cons_append]; rfl) (fun nL tL hL => ∃ (k v : Nat) (acc : Bs), l.length - k = nL ∧ h ++ [.row 5 1 v (acc.map bytA)] = hL ∧ tL 3 = .hs h.length v 0 acc.length true ∧ tL 4 = .int .i64 k ∧ k ≤ l.length ∧ acc ++ (l.drop k).flatMap enc = l.flatMap enc ∧ acc.length ≤ 4 * k) ((fun (k v : Nat) (acc : Bs) => (l.length - k : Nat)) (0) (0) ([])) ?_ ?_
 ·refine ⟨_, _, Weak.virt 3 5 1 (by simp) (by omega) (by simp (disch := first | omega | (simp only [go_sem, ↓reduceIte, seval]; first | done | omega) | fail) only [go_sem, ↓reduceIte, seval, hll]), ⟨0, 0, [], rfl, (by first | rfl | (simp; done) | (simp; rfl)), ?_, ?_, ?_, ?_, ?_⟩⟩
  all_goals first | exact zq1 hll | rfl | omega | trivial | skip
 rintro _ s2 h' ⟨k, v, acc, rfl, rfl, e3, e4, hk, hp, hz⟩ K2 hK2
 simp only [mix_cons, mix_nil, Nat.reduceEqDiff, ↓reduceIte] at e3 e4
 (repeat (first | refine w1 (fun K hK => ?_) | refine w2 ?_ | refine w3 ?_ | ((first | refine w4 ?_ | refine w5 ?_ | refine w6 ?_ | refine w7 ?_); try refine sq3 hll e3 e4 ?_) | (refine w8 ?_; refine sq3 hll e3 e4 ?_; refine w9 ?_) | ((first | refine hK _ _ (w0 ?_) | (clear hK K; refine hK _ _ (w0 ?_)) | (clear hK K; clear hK K; refine hK _ _ (w0 ?_))); clear hK K)))
 refine cq3 hll e3 e4 (fun hc => ?_) (fun hc => ?_) <;> (try exact hc.elim)
 ·obtain ⟨y, hy, hym⟩ := getElem?_of_lt hc
  rw [drop_cons_of hy, List.flatMap_cons] at hp
  have he := enc_len y
  have hel : ((enc y).map bytA).length = (enc y).length := List.length_map ..
  skip
  (repeat (first | refine w1 (fun K hK => ?_) | refine w2 ?_ | refine w3 ?_ | ((first | refine w4 ?_ | refine w5 ?_ | refine w6 ?_ | refine w7 ?_); try refine sq4 hll e3 e4 hy ?_) | (refine w8 ?_; refine sq4 hll e3 e4 hy ?_; refine w9 ?_) | ((first | refine hK _ _ (w0 ?_) | (clear hK K; refine hK _ _ (w0 ?_)) | (clear hK K; clear hK K; refine hK _ _ (w0 ?_))); clear hK K)))
  refine (one_sat G y (hr y hym) _).mono ?_
  rintro r h' ⟨rfl, rfl⟩
  try refine sq4 hll e3 e4 hy ?_
  (repeat (first | refine w1 (fun K hK => ?_) | refine w2 ?_ | refine w3 ?_ | ((first | refine w4 ?_ | refine w5 ?_ | refine w6 ?_ | refine w7 ?_); try refine sq4 hll e3 e4 hy ?_) | (refine w8 ?_; refine sq4 hll e3 e4 hy ?_; refine w9 ?_) | ((first | refine hK _ _ (w0 ?_) | (clear hK K; refine hK _ _ (w0 ?_)) | (clear hK K; clear hK K; refine hK _ _ (w0 ?_))); clear hK K)))
  refine aq4 hll e3 e4 hy ?_
  try refine sq4 hll e3 e4 hy ?_
  (repeat (first | refine w1 (fun K hK => ?_) | refine w2 ?_ | refine w3 ?_ | ((first | refine w4 ?_ | refine w5 ?_ | refine w6 ?_ | refine w7 ?_); try refine sq4 hll e3 e4 hy ?_) | (refine w8 ?_; refine sq4 hll e3 e4 hy ?_; refine w9 ?_) | ((first | refine hK _ _ (w0 ?_) | (clear hK K; refine hK _ _ (w0 ?_)) | (clear hK K; clear hK K; refine hK _ _ (w0 ?_))); clear hK K)))
  refine hK2 _ _ _ (Wkn.refl ⟨k + 1, v + 1, acc ++ enc y, rfl, (by first | rfl | (simp; done) | (simp; rfl)), ?_, ?_, by omega, by rw [← hp]; simp, by simp; omega⟩) (by omega)
  all_goals first | exact zq4 hll e3 e4 hy | rfl | omega | trivial | skip
 ·rw [drop_nil_of hc, List.flatMap_nil, List.append_nil] at hp
  have hb := bytesA_map acc
  have hel : elemsOf (h ++ [.row 5 1 v (acc.map bytA)]) 1 (.hs h.length v 0 acc.length true) = some (acc.map bytA) := by
   simp [elemsOf, getRow, List.take_of_length_le]
  skip
  (repeat (first | refine w1 (fun K hK => ?_) | refine w2 ?_ | refine w3 ?_ | ((first | refine w4 ?_ | refine w5 ?_ | refine w6 ?_ | refine w7 ?_); try refine sq6 hll e3 e4 hb hel @bytesStr_u8 ?_) | (refine w8 ?_; refine sq6 hll e3 e4 hb hel @bytesStr_u8 ?_; refine w9 ?_) | ((first | refine hK _ _ (w0 ?_) | (clear hK K; refine hK _ _ (w0 ?_)) | (clear hK K; clear hK K; refine hK _ _ (w0 ?_))); clear hK K)))
  first | refine (hQ _ _ ?_).1 | refine (hQ _ _ ?_).2
  refine sq6 hll e3 e4 hb hel @bytesStr_u8 ?_
  rw [← hp]
  exact Fin.plainE (j := _) rfl (.str _) ⟨rfl, rfl⟩
theorem rdigit_sat (c : UInt8) (base : Int) (hb : 0 ≤ base) (hb1 : base ≤ 16) (h : Heap) :
  Sat (CT G) 180 [.int .u8 c.toNat, .int .i64 base] h (fun r h' => r = .int .i64 (digF c.toNat base) ∧ h' = h) := by
 have hc := c.toNat_lt
 skip
 refine Sat.body [.tmp 4] (fn := Tryz.f180) Tryz.func180 rfl rfl (by kernel_rfl) (by kernel_rfl) (by kernel_rfl) rfl ?_
 intro Q hQ
 (repeat (first | refine w1 (fun K hK => ?_) | refine w2 ?_ | refine w3 ?_ | ((first | refine w4 ?_ | refine w5 ?_ | refine w6 ?_ | refine w7 ?_); try refine sq2 @aconv_8i @wrapu8_in ?_) | (refine w8 ?_; refine sq2 @aconv_8i @wrapu8_in ?_; refine w9 ?_) | ((first | refine hK _ _ (w0 ?_) | (clear hK K; refine hK _ _ (w0 ?_)) | (clear hK K; clear hK K; refine hK _ _ (w0 ?_))); clear hK K)))
 rename_i K0 hK0
 have tail : ∀ (n : Int) (t' : Env), t' 5 = .int .i64 n → t' 1 = .int .i64 base → n = (if 48 ≤ (c.toNat : Int) ∧ (c.toNat : Int) ≤ 57 then (c.toNat : Int) - 48 else if 97 ≤ (c.toNat : Int) ∧ (c.toNat : Int) ≤ 102 then (c.toNat : Int) - 87 else if 65 ≤ (c.toNat : Int) ∧ (c.toNat : Int) ≤ 70 then (c.toNat : Int) - 55 else -1) → K0 t' h := by
  intro n t' e5 e1 hn
  have hd : digF c.toNat base = if base ≤ n then -1 else n := by subst hn; rfl
  refine hK0 _ _ (Wkn.refl ?_)
  clear hK0 K0 hK K
  skip
  (repeat (first | refine w1 (fun K hK => ?_) | refine w2 ?_ | refine w3 ?_ | ((first | refine w4 ?_ | refine w5 ?_ | refine w6 ?_ | refine w7 ?_); try refine sq4 @aconv_8i @wrapu8_in e5 e1 ?_) | (refine w8 ?_; refine sq4 @aconv_8i @wrapu8_in e5 e1 ?_; refine w9 ?_) | ((first | refine hK _ _ (w0 ?_) | (clear hK K; refine hK _ _ (w0 ?_)) | (clear hK K; clear hK K; refine hK _ _ (w0 ?_))); clear hK K)))
  refine cq4 @aconv_8i @wrapu8_in e5 e1 (fun hc => ?_) (fun hc => ?_) <;> (try exact hc.elim) <;>
   (repeat (first | refine w1 (fun K hK => ?_) | refine w2 ?_ | refine w3 ?_ | ((first | refine w4 ?_ | refine w5 ?_ | refine w6 ?_ | refine w7 ?_); try refine sq4 @aconv_8i @wrapu8_in e5 e1 ?_) | (refine w8 ?_; refine sq4 @aconv_8i @wrapu8_in e5 e1 ?_; refine w9 ?_) | ((first | refine hK _ _ (w0 ?_) | (clear hK K; refine hK _ _ (w0 ?_)) | (clear hK K; clear hK K; refine hK _ _ (w0 ?_))); clear hK K)))
  ·first | refine (hQ _ _ ?_).1 | refine (hQ _ _ ?_).2
   refine sq4 @aconv_8i @wrapu8_in e5 e1 ?_
   rw [hd, if_pos hc]
   exact Fin.frzS (.clo _ (.int _ _)) ⟨rfl, rfl⟩
  ·first | refine (hQ _ _ ?_).1 | refine (hQ _ _ ?_).2
   refine sq4 @aconv_8i @wrapu8_in e5 e1 ?_
   rw [hd, if_neg (by omega)]
   exact Fin.frzS (.clo _ (.int _ _)) ⟨rfl, rfl⟩
 (first | refine gq2 @aconv_8i @wrapu8_in (fun g1 => ?_) (fun g1 => ?_) | refine pq2 @aconv_8i @wrapu8_in (fun g1 => ?_) (fun g1 => ?_)) <;> (try exact g1.elim) <;> (try refine sq2 @aconv_8i @wrapu8_in ?_) <;>
  (repeat (first | refine w1 (fun K hK => ?_) | refine w2 ?_ | refine w3 ?_ | ((first | refine w4 ?_ | refine w5 ?_ | refine w6 ?_ | refine w7 ?_); try refine sq2 @aconv_8i @wrapu8_in ?_) | (refine w8 ?_; refine sq2 @aconv_8i @wrapu8_in ?_; refine w9 ?_) | ((first | refine hK _ _ (w0 ?_) | (clear hK K; refine hK _ _ (w0 ?_)) | (clear hK K; clear hK K; refine hK _ _ (w0 ?_))); clear hK K)))
 ·refine cq2 @aconv_8i @wrapu8_in (fun hc => ?_) (fun hc => ?_) <;> (try exact hc.elim) <;>
   (repeat (first | refine w1 (fun K hK => ?_) | refine w2 ?_ | refine w3 ?_ | ((first | refine w4 ?_ | refine w5 ?_ | refine w6 ?_ | refine w7 ?_); try refine sq2 @aconv_8i @wrapu8_in ?_) | (refine w8 ?_; refine sq2 @aconv_8i @wrapu8_in ?_; refine w9 ?_) | ((first | refine hK _ _ (w0 ?_) | (clear hK K; refine hK _ _ (w0 ?_)) | (clear hK K; clear hK K; refine hK _ _ (w0 ?_))); clear hK K)))
  ·refine tail ((c.toNat : Int) - 48) _ ?_ ?_ ?_
   ·exact zq2 @aconv_8i @wrapu8_in
   ·exact zq2 @aconv_8i @wrapu8_in
   ·rw [if_pos (by omega)]
  ·(first | refine gq2 @aconv_8i @wrapu8_in (fun g2 => ?_) (fun g2 => ?_) | refine pq2 @aconv_8i @wrapu8_in (fun g2 => ?_) (fun g2 => ?_)) <;> (try exact g2.elim) <;> (try refine sq2 @aconv_8i @wrapu8_in ?_) <;>
    (repeat (first | refine w1 (fun K hK => ?_) | refine w2 ?_ | refine w3 ?_ | ((first | refine w4 ?_ | refine w5 ?_ | refine w6 ?_ | refine w7 ?_); try refine sq2 @aconv_8i @wrapu8_in ?_) | (refine w8 ?_; refine sq2 @aconv_8i @wrapu8_in ?_; refine w9 ?_) | ((first | refine hK _ _ (w0 ?_) | (clear hK K; refine hK _ _ (w0 ?_)) | (clear hK K; clear hK K; refine hK _ _ (w0 ?_))); clear hK K)))
   ·refine cq2 @aconv_8i @wrapu8_in (fun hc => ?_) (fun hc => ?_) <;> (try exact hc.elim) <;>
     (repeat (first | refine w1 (fun K hK => ?_) | refine w2 ?_ | refine w3 ?_ | ((first | refine w4 ?_ | refine w5 ?_ | refine w6 ?_ | refine w7 ?_); try refine sq2 @aconv_8i @wrapu8_in ?_) | (refine w8 ?_; refine sq2 @aconv_8i @wrapu8_in ?_; refine w9 ?_) | ((first | refine hK _ _ (w0 ?_) | (clear hK K; refine hK _ _ (w0 ?_)) | (clear hK K; clear hK K; refine hK _ _ (w0 ?_))); clear hK K)))
    ·refine tail ((c.toNat : Int) - 87) _ ?_ ?_ ?_
     ·simp (disch := first | omega | (simp only [go_sem, ↓reduceIte, seval]; first | done | omega) | fail) only [go_sem, ↓reduceIte, seval, ↓aconv_8i, wrapu8_in]
      congr 1; omega
     ·exact zq2 @aconv_8i @wrapu8_in
     ·rw [if_neg (by omega), if_pos (by omega)]
    ·(first | refine gq2 @aconv_8i @wrapu8_in (fun hg => ?_) (fun hg => ?_) | refine pq2 @aconv_8i @wrapu8_in (fun hg => ?_) (fun hg => ?_)) <;> (try exact hg.elim) <;> (try refine sq2 @aconv_8i @wrapu8_in ?_) <;>
      (repeat (first | refine w1 (fun K hK => ?_) | refine w2 ?_ | refine w3 ?_ | ((first | refine w4 ?_ | refine w5 ?_ | refine w6 ?_ | refine w7 ?_); try refine sq2 @aconv_8i @wrapu8_in ?_) | (refine w8 ?_; refine sq2 @aconv_8i @wrapu8_in ?_; refine w9 ?_) | ((first | refine hK _ _ (w0 ?_) | (clear hK K; refine hK _ _ (w0 ?_)) | (clear hK K; clear hK K; refine hK _ _ (w0 ?_))); clear hK K)))
     ·refine cq2 @aconv_8i @wrapu8_in (fun hc => ?_) (fun hc => ?_) <;> (try exact hc.elim) <;>
       (repeat (first | refine w1 (fun K hK => ?_) | refine w2 ?_ | refine w3 ?_ | ((first | refine w4 ?_ | refine w5 ?_ | refine w6 ?_ | refine w7 ?_); try refine sq2 @aconv_8i @wrapu8_in ?_) | (refine w8 ?_; refine sq2 @aconv_8i @wrapu8_in ?_; refine w9 ?_) | ((first | refine hK _ _ (w0 ?_) | (clear hK K; refine hK _ _ (w0 ?_)) | (clear hK K; clear hK K; refine hK _ _ (w0 ?_))); clear hK K)))
      ·exfalso; omega
      ·refine tail (-1) _ ?_ ?_ ?_
       ·exact zq2 @aconv_8i @wrapu8_in
       ·exact zq2 @aconv_8i @wrapu8_in
       ·rw [if_neg (by omega), if_neg (by omega), if_neg (by omega)]
     ·exfalso; omega
   ·(first | refine gq2 @aconv_8i @wrapu8_in (fun hg => ?_) (fun hg => ?_) | refine pq2 @aconv_8i @wrapu8_in (fun hg => ?_) (fun hg => ?_)) <;> (try exact hg.elim) <;> (try refine sq2 @aconv_8i @wrapu8_in ?_) <;>
     (repeat (first | refine w1 (fun K hK => ?_) | refine w2 ?_ | refine w3 ?_ | ((first | refine w4 ?_ | refine w5 ?_ | refine w6 ?_ | refine w7 ?_); try refine sq2 @aconv_8i @wrapu8_in ?_) | (refine w8 ?_; refine sq2 @aconv_8i @wrapu8_in ?_; refine w9 ?_) | ((first | refine hK _ _ (w0 ?_) | (clear hK K; refine hK _ _ (w0 ?_)) | (clear hK K; clear hK K; refine hK _ _ (w0 ?_))); clear hK K)))
    ·refine cq2 @aconv_8i @wrapu8_in (fun hc => ?_) (fun hc => ?_) <;> (try exact hc.elim) <;>
      (repeat (first | refine w1 (fun K hK => ?_) | refine w2 ?_ | refine w3 ?_ | ((first | refine w4 ?_ | refine w5 ?_ | refine w6 ?_ | refine w7 ?_); try refine sq2 @aconv_8i @wrapu8_in ?_) | (refine w8 ?_; refine sq2 @aconv_8i @wrapu8_in ?_; refine w9 ?_) | ((first | refine hK _ _ (w0 ?_) | (clear hK K; refine hK _ _ (w0 ?_)) | (clear hK K; clear hK K; refine hK _ _ (w0 ?_))); clear hK K)))
     ·refine tail ((c.toNat : Int) - 55) _ ?_ ?_ ?_
      ·simp (disch := first | omega | (simp only [go_sem, ↓reduceIte, seval]; first | done | omega) | fail) only [go_sem, ↓reduceIte, seval, ↓aconv_8i, wrapu8_in]
       congr 1; omega
      ·exact zq2 @aconv_8i @wrapu8_in
      ·rw [if_neg (by omega), if_neg (by omega), if_pos (by omega)]
     ·refine tail (-1) _ ?_ ?_ ?_
      ·exact zq2 @aconv_8i @wrapu8_in
      ·exact zq2 @aconv_8i @wrapu8_in
      ·rw [if_neg (by omega), if_neg (by omega), if_neg (by omega)]
    ·refine tail (-1) _ ?_ ?_ ?_
     ·exact zq2 @aconv_8i @wrapu8_in
     ·exact zq2 @aconv_8i @wrapu8_in
     ·rw [if_neg (by omega), if_neg (by omega), if_neg (by omega)]
 ·(first | refine gq2 @aconv_8i @wrapu8_in (fun hg => ?_) (fun hg => ?_) | refine pq2 @aconv_8i @wrapu8_in (fun hg => ?_) (fun hg => ?_)) <;> (try exact hg.elim) <;> (try refine sq2 @aconv_8i @wrapu8_in ?_) <;>
   (repeat (first | refine w1 (fun K hK => ?_) | refine w2 ?_ | refine w3 ?_ | ((first | refine w4 ?_ | refine w5 ?_ | refine w6 ?_ | refine w7 ?_); try refine sq2 @aconv_8i @wrapu8_in ?_) | (refine w8 ?_; refine sq2 @aconv_8i @wrapu8_in ?_; refine w9 ?_) | ((first | refine hK _ _ (w0 ?_) | (clear hK K; refine hK _ _ (w0 ?_)) | (clear hK K; clear hK K; refine hK _ _ (w0 ?_))); clear hK K)))
  ·exfalso; omega
  ·(first | refine gq2 @aconv_8i @wrapu8_in (fun hg => ?_) (fun hg => ?_) | refine pq2 @aconv_8i @wrapu8_in (fun hg => ?_) (fun hg => ?_)) <;> (try exact hg.elim) <;> (try refine sq2 @aconv_8i @wrapu8_in ?_) <;>
    (repeat (first | refine w1 (fun K hK => ?_) | refine w2 ?_ | refine w3 ?_ | ((first | refine w4 ?_ | refine w5 ?_ | refine w6 ?_ | refine w7 ?_); try refine sq2 @aconv_8i @wrapu8_in ?_) | (refine w8 ?_; refine sq2 @aconv_8i @wrapu8_in ?_; refine w9 ?_) | ((first | refine hK _ _ (w0 ?_) | (clear hK K; refine hK _ _ (w0 ?_)) | (clear hK K; clear hK K; refine hK _ _ (w0 ?_))); clear hK K)))
   ·exfalso; omega
   ·refine tail (-1) _ ?_ ?_ ?_
    ·exact zq2 @aconv_8i @wrapu8_in
    ·exact zq2 @aconv_8i @wrapu8_in
    ·rw [if_neg (by omega), if_neg (by omega), if_neg (by omega)]
theorem rnumber_sat (s : Bs) (base : Int) (most : Nat) (hb0 : 1 ≤ base) (hb1 : base ≤ 16) (hm : most ≤ 7) (hs : s.length ≤ 1073741824) (h : Heap) :
  Sat (CT G) 168 [.str s, .int .i64 base, .int .i64 most] h (fun r h' => r = .int .i64 (numF s base most) ∧ h' = h) := by
 refine Sat.body [.tmp 6] (fn := Tryz.f168) Tryz.func168 rfl rfl (by kernel_rfl) (by kernel_rfl) (by kernel_rfl) rfl ?_
 intro Q hQ
 (repeat (first | refine w1 (fun K hK => ?_) | refine w2 ?_ | refine w3 ?_ | ((first | refine w4 ?_ | refine w5 ?_ | refine w6 ?_ | refine w7 ?_); try refine sq0 ?_) | (refine w8 ?_; refine sq0 ?_; refine w9 ?_) | ((first | refine hK _ _ (w0 ?_) | (clear hK K; refine hK _ _ (w0 ?_)) | (clear hK K; clear hK K; refine hK _ _ (w0 ?_))); clear hK K)))
 (first | refine gq0 (fun hg => ?_) (fun hg => ?_) | refine pq0 (fun hg => ?_) (fun hg => ?_)) <;> (try exact hg.elim) <;> (try refine sq0 ?_) <;>
  (repeat (first | refine w1 (fun K hK => ?_) | refine w2 ?_ | refine w3 ?_ | ((first | refine w4 ?_ | refine w5 ?_ | refine w6 ?_ | refine w7 ?_); try refine sq0 ?_) | (refine w8 ?_; refine sq0 ?_; refine w9 ?_) | ((first | refine hK _ _ (w0 ?_) | (clear hK K; refine hK _ _ (w0 ?_)) | (clear hK K; clear hK K; refine hK _ _ (w0 ?_))); clear hK K)))
 ·first | refine (hQ _ _ ?_).1 | refine (hQ _ _ ?_).2
  refine sq0 ?_
  have e : numF s base most = -1 := by unfold numF; rw [if_pos (.inl (List.length_eq_zero_iff.1 (by omega)))]
  rw [e]
  exact Fin.frzS (.clo _ (.int _ _)) ⟨rfl, rfl⟩
 ·refine cq0 (fun hc => ?_) (fun hc => ?_) <;> (try exact hc.elim) <;>
   (repeat (first | refine w1 (fun K hK => ?_) | refine w2 ?_ | refine w3 ?_ | ((first | refine w4 ?_ | refine w5 ?_ | refine w6 ?_ | refine w7 ?_); try refine sq0 ?_) | (refine w8 ?_; refine sq0 ?_; refine w9 ?_) | ((first | refine hK _ _ (w0 ?_) | (clear hK K; refine hK _ _ (w0 ?_)) | (clear hK K; clear hK K; refine hK _ _ (w0 ?_))); clear hK K)))
  ·first | refine (hQ _ _ ?_).1 | refine (hQ _ _ ?_).2
   refine sq0 ?_
   have e : numF s base most = -1 := by unfold numF; rw [if_pos (.inr (by omega))]
   rw [e]
   exact Fin.frzS (.clo _ (.int _ _)) ⟨rfl, rfl⟩
  ·have hn : numF s base most = numGo base s 0 := by
    unfold numF
    rw [if_neg]
    rintro (h1 | h1)
    ·subst h1; simp at hg
    ·omega
   rw [hn] at hQ
   have h16 : ∀ k, k ≤ s.length → (16 : Int) ^ k ≤ 268435456 := fun k hk => by
    have : (16 : Nat) ^ k ≤ 16 ^ 7 := Nat.pow_le_pow_right (by omega) (by omega)
    have : ((16 ^ k : Nat) : Int) ≤ ((16 ^ 7 : Nat) : Int) := by omega
    simpa using this
   refine WP_loopm (by simp only [go_sem, List.nil_append, List.cons_append]; rfl) (fun nL tL hL => ∃ (k : Nat) (n : Int), s.length - k = nL ∧ h = hL ∧ tL 7 = .int .i64 n ∧ tL 8 = .int .i64 k ∧ k ≤ s.length ∧ numGo base s 0 = numGo base (s.drop k) n ∧ 0 ≤ n ∧ n < 16 ^ k) ((fun (k : Nat) (n : Int) => (s.length - k : Nat)) (0) (0)) ?_ ?_
   ·refine Wkn.refl ⟨0, 0, rfl, (by first | rfl | (simp; done) | (simp; rfl)), ?_, ?_, by omega, by simp, by omega, by simp⟩
    all_goals first | exact zq0 | rfl | omega | trivial | skip
   rintro _ s2 h' ⟨k, n, rfl, rfl, e7, e8, hk, hv, h0, h1⟩ K2 hK2
   simp only [mix_cons, mix_nil, Nat.reduceEqDiff, ↓reduceIte] at e7 e8
   (repeat (first | refine w1 (fun K hK => ?_) | refine w2 ?_ | refine w3 ?_ | ((first | refine w4 ?_ | refine w5 ?_ | refine w6 ?_ | refine w7 ?_); try refine sq2 e7 e8 ?_) | (refine w8 ?_; refine sq2 e7 e8 ?_; refine w9 ?_) | ((first | refine hK _ _ (w0 ?_) | (clear hK K; refine hK _ _ (w0 ?_)) | (clear hK K; clear hK K; refine hK _ _ (w0 ?_))); clear hK K)))
   refine cq2 e7 e8 (fun hc => ?_) (fun hc => ?_) <;> (try exact hc.elim)
   ·have hy := List.getElem?_eq_getElem hc
    have hdrop := List.drop_eq_getElem_cons hc
    have hbn0 : 0 ≤ base * n := Int.mul_nonneg (by omega) h0
    have hbn1 : base * n ≤ 16 * n := Int.mul_le_mul_of_nonneg_right hb1 h0
    have hk16 := h16 (k + 1) hc
    have hk17 : (16 : Int) ^ (k + 1) = 16 ^ k * 16 := Int.pow_succ _ _
    rw [hdrop, numGo] at hv
    have hlt' := digF_lt s[k].toNat base (by omega)
    skip
    (repeat (first | refine w1 (fun K hK => ?_) | refine w2 ?_ | refine w3 ?_ | ((first | refine w4 ?_ | refine w5 ?_ | refine w6 ?_ | refine w7 ?_); try refine sq3 e7 e8 hy ?_) | (refine w8 ?_; refine sq3 e7 e8 hy ?_; refine w9 ?_) | ((first | refine hK _ _ (w0 ?_) | (clear hK K; refine hK _ _ (w0 ?_)) | (clear hK K; clear hK K; refine hK _ _ (w0 ?_))); clear hK K)))
    refine (rdigit_sat G s[k] base (by omega) hb1 _).mono ?_
    rintro r h' ⟨rfl, rfl⟩
    try refine sq3 e7 e8 hy ?_
    (repeat (first | refine w1 (fun K hK => ?_) | refine w2 ?_ | refine w3 ?_ | ((first | refine w4 ?_ | refine w5 ?_ | refine w6 ?_ | refine w7 ?_); try refine sq3 e7 e8 hy ?_) | (refine w8 ?_; refine sq3 e7 e8 hy ?_; refine w9 ?_) | ((first | refine hK _ _ (w0 ?_) | (clear hK K; refine hK _ _ (w0 ?_)) | (clear hK K; clear hK K; refine hK _ _ (w0 ?_))); clear hK K)))
    refine cq3 e7 e8 hy (fun hc => ?_) (fun hc => ?_) <;> (try exact hc.elim)
    ·(repeat (first | refine w1 (fun K hK => ?_) | refine w2 ?_ | refine w3 ?_ | ((first | refine w4 ?_ | refine w5 ?_ | refine w6 ?_ | refine w7 ?_); try refine sq3 e7 e8 hy ?_) | (refine w8 ?_; refine sq3 e7 e8 hy ?_; refine w9 ?_) | ((first | refine hK _ _ (w0 ?_) | (clear hK K; refine hK _ _ (w0 ?_)) | (clear hK K; clear hK K; refine hK _ _ (w0 ?_))); clear hK K)))
     first | refine (hQ _ _ ?_).1 | refine (hQ _ _ ?_).2
     refine sq3 e7 e8 hy ?_
     rw [hv, if_pos hc]
     exact Fin.frzS (.clo _ (.int _ _)) ⟨rfl, rfl⟩
    ·rw [if_neg (by omega)] at hv
     (repeat (first | refine w1 (fun K hK => ?_) | refine w2 ?_ | refine w3 ?_ | ((first | refine w4 ?_ | refine w5 ?_ | refine w6 ?_ | refine w7 ?_); try refine sq3 e7 e8 hy ?_) | (refine w8 ?_; refine sq3 e7 e8 hy ?_; refine w9 ?_) | ((first | refine hK _ _ (w0 ?_) | (clear hK K; refine hK _ _ (w0 ?_)) | (clear hK K; clear hK K; refine hK _ _ (w0 ?_))); clear hK K)))
     refine hK2 _ _ _ (Wkn.refl ⟨k + 1, base * n + digF s[k].toNat base, rfl, (by first | rfl | (simp; done) | (simp; rfl)), ?_, ?_, by omega, hv, by omega, by omega⟩) (by omega)
     all_goals first | exact zq3 e7 e8 hy | rfl | omega | trivial | skip
   ·rw [drop_nil_of hc, numGo] at hv
    (repeat (first | refine w1 (fun K hK => ?_) | refine w2 ?_ | refine w3 ?_ | ((first | refine w4 ?_ | refine w5 ?_ | refine w6 ?_ | refine w7 ?_); try refine sq2 e7 e8 ?_) | (refine w8 ?_; refine sq2 e7 e8 ?_; refine w9 ?_) | ((first | refine hK _ _ (w0 ?_) | (clear hK K; refine hK _ _ (w0 ?_)) | (clear hK K; clear hK K; refine hK _ _ (w0 ?_))); clear hK K)))
    first | refine (hQ _ _ ?_).1 | refine (hQ _ _ ?_).2
    refine sq2 e7 e8 ?_
    rw [hv]
    exact Fin.frzS (.clo _ (.int _ _)) ⟨rfl, rfl⟩
end Go.Av
namespace Go.Av
open Go Go.Proofs Go.RowKit
attribute [local irreducible] WP WPl WPix Sat
set_option maxRecDepth 100000
set_option maxHeartbeats 1000000
variable (G : Nat → Option (List AVal))
def isB (b : Bool) : Option AVal → Bool
 | some (.bool q) => q == b
 | _ => false
theorem isB_ok {b : Bool} {x : Option AVal} (h : isB b x = true) : x = some (.bool b) := by
 unfold isB at h
 split at h
 ·simp at h; rw [h]
 ·cases h
theorem begin_run : ((List.range 256).all fun c => isB (beginF (c : Nat)) (runX (CT G) orcL 10 10 137 [.int .u8 (c : Nat)])) = true := by kernel_rfl
theorem more_run : ((List.range 256).all fun c => isB (moreF (c : Nat)) (runX (CT G) orcL 10 10 138 [.int .u8 (c : Nat)])) = true := by kernel_rfl
theorem blank_run : ((List.range 256).all fun c => isB (blankP (c : Nat)) (runX (CT G) orcL 10 10 139 [.int .u8 (c : Nat)])) = true := by kernel_rfl
variable {G}
theorem rbegin_sat (hG : GOk G) (hC : GClo (CT G)) (c : UInt8) (h : Heap) : Sat (CT G) 137 [.int .u8 c.toNat] h (fun r h' => r = .bool (beginF c.toNat) ∧ h' = h) :=
 Sat.closed hC (orcL_ok hG) 10 10 rfl rfl (isB_ok (List.all_eq_true.1 (begin_run G) c.toNat (List.mem_range.2 c.toNat_lt))) h
theorem rmore_sat (hG : GOk G) (hC : GClo (CT G)) (c : UInt8) (h : Heap) : Sat (CT G) 138 [.int .u8 c.toNat] h (fun r h' => r = .bool (moreB c) ∧ h' = h) :=
 Sat.closed hC (orcL_ok hG) 10 10 rfl rfl (isB_ok (List.all_eq_true.1 (more_run G) c.toNat (List.mem_range.2 c.toNat_lt))) h
theorem rblank_sat (hG : GOk G) (hC : GClo (CT G)) (c : UInt8) (h : Heap) : Sat (CT G) 139 [.int .u8 c.toNat] h (fun r h' => r = .bool (blankB c) ∧ h' = h) :=
 Sat.closed hC (orcL_ok hG) 10 10 rfl rfl (isB_ok (List.all_eq_true.1 (blank_run G) c.toNat (List.mem_range.2 c.toNat_lt))) h
end Go.Av
namespace Go.Av
open Go Go.Proofs Go.RowKit
attribute [local irreducible] WP WPl WPix Sat
set_option maxRecDepth 100000
set_option maxHeartbeats 1000000
variable {G : Nat → Option (List AVal)}
theorem rhas_sat (s w : Bs) (h : Heap) : Sat (CT G) 111 [.str s, .str w] h (fun r h' => r = .bool (Lib.hasPrefix s w) ∧ h' = h) := by
 have hp := Lib.hasPrefix_of_take s w
 have fin : ∀ b : Bool, b = Lib.hasPrefix s w → Fin h h (fun r h' => r = .bool (Lib.hasPrefix s w) ∧ h' = h) (.bool b) := fun b e => by rw [e]; exact Fin.frzS (.clo _ (.bool _)) ⟨rfl, rfl⟩
 refine Sat.body [.tmp 4] (fn := Tryz.f111) Tryz.func111 rfl rfl (by kernel_rfl) (by kernel_rfl) (by kernel_rfl) rfl ?_
 intro Q hQ
 (repeat (first | refine w1 (fun K hK => ?_) | refine w2 ?_ | refine w3 ?_ | ((first | refine w4 ?_ | refine w5 ?_ | refine w6 ?_ | refine w7 ?_); try refine sq0 ?_) | (refine w8 ?_; refine sq0 ?_; refine w9 ?_) | ((first | refine hK _ _ (w0 ?_) | (clear hK K; refine hK _ _ (w0 ?_)) | (clear hK K; clear hK K; refine hK _ _ (w0 ?_))); clear hK K)))
 (first | refine gq0 (fun hg => ?_) (fun hg => ?_) | refine pq0 (fun hg => ?_) (fun hg => ?_)) <;> (try exact hg.elim) <;> (try refine sq0 ?_) <;>
  (repeat (first | refine w1 (fun K hK => ?_) | refine w2 ?_ | refine w3 ?_ | ((first | refine w4 ?_ | refine w5 ?_ | refine w6 ?_ | refine w7 ?_); try refine sq0 ?_) | (refine w8 ?_; refine sq0 ?_; refine w9 ?_) | ((first | refine hK _ _ (w0 ?_) | (clear hK K; refine hK _ _ (w0 ?_)) | (clear hK K; clear hK K; refine hK _ _ (w0 ?_))); clear hK K)))
 ·first | refine (hQ _ _ ?_).1 | refine (hQ _ _ ?_).2
  refine sq0 ?_
  refine fin _ ?_
  rw [← hp, decide_eq_true (by omega), Bool.true_and]
 ·first | refine (hQ _ _ ?_).1 | refine (hQ _ _ ?_).2
  refine sq0 ?_
  refine fin _ ?_
  rw [← hp, decide_eq_false (by omega), Bool.false_and]
theorem rblanks_sat (hG : GOk G) (hC : GClo (CT G)) (s : Bs) (hs : s.length ≤ 1073741824) (h : Heap) : Sat (CT G) 114 [.str s] h (fun r h' => r = .str (s.dropWhile blankB) ∧ h' = h) := by
 have fin : ∀ k, s.dropWhile blankB = s.drop k → Fin h h (fun r h' => r = .str (s.dropWhile blankB) ∧ h' = h) (.str (s.drop k)) := fun b e => by rw [e]; exact Fin.frzS (.clo _ (.str _)) ⟨rfl, rfl⟩
 refine Sat.body [.tmp 2] (fn := Tryz.f114) Tryz.func114 rfl rfl (by kernel_rfl) (by kernel_rfl) (by kernel_rfl) rfl ?_
 intro Q hQ
 (repeat (first | refine w1 (fun K hK => ?_) | refine w2 ?_ | refine w3 ?_ | ((first | refine w4 ?_ | refine w5 ?_ | refine w6 ?_ | refine w7 ?_); try refine sq0 ?_) | (refine w8 ?_; refine sq0 ?_; refine w9 ?_) | ((first | refine hK _ _ (w0 ?_) | (clear hK K; refine hK _ _ (w0 ?_)) | (clear hK K; clear hK K; refine hK _ _ (w0 ?_))); clear hK K)))
 refine WP_loopm (by simp only [go_sem, List.nil_append, List.cons_append]; rfl) (fun nL tL hL => ∃ (k : Nat), s.length - k = nL ∧ h = hL ∧ tL 3 = .int .i64 k ∧ k ≤ s.length ∧ (∀ i, i < k → ∀ c, s[i]? = some c → blankB c = true)) ((fun (k : Nat) => (s.length - k : Nat)) (0)) ?_ ?_
 ·refine Wkn.refl ⟨0, rfl, (by first | rfl | (simp; done) | (simp; rfl)), ?_, by omega, fun i hi => by omega⟩
  all_goals first | exact zq0 | rfl | omega | trivial | skip
 rintro _ s2 h' ⟨k, rfl, rfl, e3, hk, hq⟩ K2 hK2
 simp only [mix_cons, mix_nil, Nat.reduceEqDiff, ↓reduceIte] at e3
 (repeat (first | refine w1 (fun K hK => ?_) | refine w2 ?_ | refine w3 ?_ | ((first | refine w4 ?_ | refine w5 ?_ | refine w6 ?_ | refine w7 ?_); try refine sq1 e3 ?_) | (refine w8 ?_; refine sq1 e3 ?_; refine w9 ?_) | ((first | refine hK _ _ (w0 ?_) | (clear hK K; refine hK _ _ (w0 ?_)) | (clear hK K; clear hK K; refine hK _ _ (w0 ?_))); clear hK K)))
 (first | refine gq1 e3 (fun g1 => ?_) (fun g1 => ?_) | refine pq1 e3 (fun g1 => ?_) (fun g1 => ?_)) <;> (try exact g1.elim) <;> (try refine sq1 e3 ?_) <;>
  (repeat (first | refine w1 (fun K hK => ?_) | refine w2 ?_ | refine w3 ?_ | ((first | refine w4 ?_ | refine w5 ?_ | refine w6 ?_ | refine w7 ?_); try refine sq1 e3 ?_) | (refine w8 ?_; refine sq1 e3 ?_; refine w9 ?_) | ((first | refine hK _ _ (w0 ?_) | (clear hK K; refine hK _ _ (w0 ?_)) | (clear hK K; clear hK K; refine hK _ _ (w0 ?_))); clear hK K)))
 ·obtain ⟨y, hy, hym⟩ := getElem?_of_lt g1
  skip
  try refine sq2 e3 hy ?_
  (repeat (first | refine w1 (fun K hK => ?_) | refine w2 ?_ | refine w3 ?_ | ((first | refine w4 ?_ | refine w5 ?_ | refine w6 ?_ | refine w7 ?_); try refine sq2 e3 hy ?_) | (refine w8 ?_; refine sq2 e3 hy ?_; refine w9 ?_) | ((first | refine hK _ _ (w0 ?_) | (clear hK K; refine hK _ _ (w0 ?_)) | (clear hK K; clear hK K; refine hK _ _ (w0 ?_))); clear hK K)))
  refine (rblank_sat hG hC y _).mono ?_
  rintro r h' ⟨rfl, rfl⟩
  try refine sq2 e3 hy ?_
  (repeat (first | refine w1 (fun K hK => ?_) | refine w2 ?_ | refine w3 ?_ | ((first | refine w4 ?_ | refine w5 ?_ | refine w6 ?_ | refine w7 ?_); try refine sq2 e3 hy ?_) | (refine w8 ?_; refine sq2 e3 hy ?_; refine w9 ?_) | ((first | refine hK _ _ (w0 ?_) | (clear hK K; refine hK _ _ (w0 ?_)) | (clear hK K; clear hK K; refine hK _ _ (w0 ?_))); clear hK K)))
  refine cq2 e3 hy (fun hb => ?_) (fun hb => ?_) <;> (try exact hb.elim) <;>
   (repeat (first | refine w1 (fun K hK => ?_) | refine w2 ?_ | refine w3 ?_ | ((first | refine w4 ?_ | refine w5 ?_ | refine w6 ?_ | refine w7 ?_); try refine sq2 e3 hy ?_) | (refine w8 ?_; refine sq2 e3 hy ?_; refine w9 ?_) | ((first | refine hK _ _ (w0 ?_) | (clear hK K; refine hK _ _ (w0 ?_)) | (clear hK K; clear hK K; refine hK _ _ (w0 ?_))); clear hK K)))
  ·have hq1 : ∀ i, i < k + 1 → ∀ c, s[i]? = some c → blankB c = true := fun i hi c hc => by
    rcases Nat.lt_or_ge i k with h1 | h1
    ·exact hq i h1 c hc
    ·obtain rfl : i = k := by omega
     rw [hy] at hc; cases hc; exact hb
   refine hK2 _ _ _ (Wkn.refl ⟨k + 1, rfl, (by first | rfl | (simp; done) | (simp; rfl)), ?_, by omega, hq1⟩) (by omega)
   all_goals first | exact zq2 e3 hy | rfl | omega | trivial | skip
  ·first | refine (hQ _ _ ?_).1 | refine (hQ _ _ ?_).2
   refine sq2 e3 hy ?_
   exact fin k (tw_at blankB s k hq hk (.inr ⟨_, hy, hb⟩)).2
 ·obtain rfl : k = s.length := by omega
  first | refine (hQ _ _ ?_).1 | refine (hQ _ _ ?_).2
  refine sq1 e3 ?_
  exact fin _ (tw_at blankB s _ hq hk (.inl rfl)).2
theorem rfind_sat (s w : Bs) (hs : s.length ≤ 1073741824) (hw : w.length ≤ 1073741824) (h : Heap) : Sat (CT G) 109 [.str s, .str w] h (fun r h' => r = .int .i64 (Lib.index s w) ∧ h' = h) := by
 have fin : ∀ k : Int, k = Lib.index s w → Fin h h (fun r h' => r = .int .i64 (Lib.index s w) ∧ h' = h) (.int .i64 k) := fun b e => by rw [e]; exact Fin.frzS (.clo _ (.int _ _)) ⟨rfl, rfl⟩
 refine Sat.body [.tmp 4] (fn := Tryz.f109) Tryz.func109 rfl rfl (by kernel_rfl) (by kernel_rfl) (by kernel_rfl) rfl ?_
 intro Q hQ
 (repeat (first | refine w1 (fun K hK => ?_) | refine w2 ?_ | refine w3 ?_ | ((first | refine w4 ?_ | refine w5 ?_ | refine w6 ?_ | refine w7 ?_); try refine sq0 ?_) | (refine w8 ?_; refine sq0 ?_; refine w9 ?_) | ((first | refine hK _ _ (w0 ?_) | (clear hK K; refine hK _ _ (w0 ?_)) | (clear hK K; clear hK K; refine hK _ _ (w0 ?_))); clear hK K)))
 refine WP_loopm (by simp only [go_sem, List.nil_append, List.cons_append]; rfl) (fun nL tL hL => ∃ (k : Nat), s.length + 1 - k = nL ∧ h = hL ∧ tL 5 = .int .i64 k ∧ k ≤ s.length + 1 ∧ (∀ i, i < k → Lib.occAt s w i = false)) ((fun (k : Nat) => (s.length + 1 - k : Nat)) (0)) ?_ ?_
 ·refine Wkn.refl ⟨0, rfl, (by first | rfl | (simp; done) | (simp; rfl)), ?_, by omega, fun i hi => by omega⟩
  all_goals first | exact zq0 | rfl | omega | trivial | skip
 rintro _ s2 h' ⟨k, rfl, rfl, e5, hk, hq⟩ K2 hK2
 simp only [mix_cons, mix_nil, Nat.reduceEqDiff, ↓reduceIte] at e5
 (repeat (first | refine w1 (fun K hK => ?_) | refine w2 ?_ | refine w3 ?_ | ((first | refine w4 ?_ | refine w5 ?_ | refine w6 ?_ | refine w7 ?_); try refine sq1 e5 ?_) | (refine w8 ?_; refine sq1 e5 ?_; refine w9 ?_) | ((first | refine hK _ _ (w0 ?_) | (clear hK K; refine hK _ _ (w0 ?_)) | (clear hK K; clear hK K; refine hK _ _ (w0 ?_))); clear hK K)))
 refine cq1 e5 (fun hc => ?_) (fun hc => ?_) <;> (try exact hc.elim) <;>
  (repeat (first | refine w1 (fun K hK => ?_) | refine w2 ?_ | refine w3 ?_ | ((first | refine w4 ?_ | refine w5 ?_ | refine w6 ?_ | refine w7 ?_); try refine sq1 e5 ?_) | (refine w8 ?_; refine sq1 e5 ?_; refine w9 ?_) | ((first | refine hK _ _ (w0 ?_) | (clear hK K; refine hK _ _ (w0 ?_)) | (clear hK K; clear hK K; refine hK _ _ (w0 ?_))); clear hK K)))
 ·have ho := Lib.occAt_iff_take s w k (by omega)
  have e : (s.take ((k : Int) + (w.length : Int)).toNat).drop k = (s.drop k).take w.length := by rw [List.drop_take]; congr 1; omega
  skip
  try refine sq2 e5 e ?_
  (repeat (first | refine w1 (fun K hK => ?_) | refine w2 ?_ | refine w3 ?_ | ((first | refine w4 ?_ | refine w5 ?_ | refine w6 ?_ | refine w7 ?_); try refine sq2 e5 e ?_) | (refine w8 ?_; refine sq2 e5 e ?_; refine w9 ?_) | ((first | refine hK _ _ (w0 ?_) | (clear hK K; refine hK _ _ (w0 ?_)) | (clear hK K; clear hK K; refine hK _ _ (w0 ?_))); clear hK K)))
  refine cq2 e5 e (fun hb => ?_) (fun hb => ?_) <;> (try exact hb.elim) <;>
   (repeat (first | refine w1 (fun K hK => ?_) | refine w2 ?_ | refine w3 ?_ | ((first | refine w4 ?_ | refine w5 ?_ | refine w6 ?_ | refine w7 ?_); try refine sq2 e5 e ?_) | (refine w8 ?_; refine sq2 e5 e ?_; refine w9 ?_) | ((first | refine hK _ _ (w0 ?_) | (clear hK K; refine hK _ _ (w0 ?_)) | (clear hK K; clear hK K; refine hK _ _ (w0 ?_))); clear hK K)))
  ·first | refine (hQ _ _ ?_).1 | refine (hQ _ _ ?_).2
   refine sq2 e5 e ?_
   refine fin _ ?_
   have ho2 : Lib.occAt s w k = true := by rw [ho]; simpa using hb
   rcases Lib.index_spec s w with ⟨_, h1⟩ | ⟨i, h1, h2, h3, h4⟩
   ·rw [h1 k (by omega)] at ho2; cases ho2
   ·rw [h1]
    rcases Nat.lt_trichotomy i k with h5 | h5 | h5
    ·rw [hq i h5] at h3; cases h3
    ·rw [h5]
    ·have := h4 k h5; rw [ho2] at this; cases this
  ·have ho2 : Lib.occAt s w k = false := by rw [ho]; simpa using hb
   have hq1 : ∀ i, i < k + 1 → Lib.occAt s w i = false := fun i hi => by
    rcases Nat.lt_or_ge i k with h1 | h1
    ·exact hq i h1
    ·obtain rfl : i = k := by omega
     exact ho2
   refine hK2 _ _ _ (Wkn.refl ⟨k + 1, rfl, (by first | rfl | (simp; done) | (simp; rfl)), ?_, by omega, hq1⟩) (by omega)
   all_goals first | exact zq2 e5 e | rfl | omega | trivial | skip
 ·first | refine (hQ _ _ ?_).1 | refine (hQ _ _ ?_).2
  refine sq1 e5 ?_
  refine fin _ ?_
  rcases Lib.index_spec s w with ⟨h1, _⟩ | ⟨i, h1, h2, h3, h4⟩
  ·exact h1.symm
  ·have := Lib.index_room s w (by omega)
   rw [hq i (by omega)] at h3; cases h3
def nmR (s : Bs) : Bs × Bs := if badN (nameW s) = true then ([], s) else (nameW s, nameR s)
theorem begin_more (c : UInt8) (h : beginF c.toNat = true) : moreB c = true := by
 unfold beginF at h; unfold moreB moreF; simp at *; omega
theorem rname_sat (hG : GOk G) (hC : GClo (CT G)) (s : Bs) (hs : s.length ≤ 1073741824) (h : Heap) : Sat (CT G) 113 [.str s] h (fun r h' => r = .tup [.str (nmR s).1, .str (nmR s).2] ∧ h' = h) := by
 have fin : ∀ (h1 : Heap) (a b : Bs), (a, b) = nmR s → Fin h1 h1 (fun r h' => r = .tup [.str (nmR s).1, .str (nmR s).2] ∧ h' = h1) (.tup [.str a, .str b]) := fun h1 a b e => by
  rw [← e]; exact Fin.frzS (.clo _ (.tup _ (by intro c hc; simp at hc; rcases hc with rfl | rfl <;> exact .str _))) ⟨rfl, rfl⟩
 cases s with
 | nil =>
  refine Sat.body [.tmp 2, .tmp 3] (fn := Tryz.f113) Tryz.func113 rfl rfl (by kernel_rfl) (by kernel_rfl) (by kernel_rfl) rfl ?_
  intro Q hQ
  (repeat (first | refine w1 (fun K hK => ?_) | refine w2 ?_ | refine w3 ?_ | ((first | refine w4 ?_ | refine WP_draw 8 (by decide +kernel) ?_ | refine w5 ?_ | refine w6 ?_ | refine w7 ?_); try refine sq0 ?_) | (refine w8 ?_; refine sq0 ?_; refine w9 ?_) | ((first | refine hK _ _ (w0 ?_) | (clear hK K; refine hK _ _ (w0 ?_)) | (clear hK K; clear hK K; refine hK _ _ (w0 ?_))); clear hK K)))
  first | refine (hQ _ _ ?_).1 | refine (hQ _ _ ?_).2
  simp (disch := first | omega | (simp only [go_sem, ↓reduceIte, seval]; first | done | omega) | fail) only [go_sem, ↓reduceIte, seval, resA, resL, resA1]
  exact fin _ _ _ rfl
 | cons c t =>
  have h0 : (c :: t)[0]? = some c := rfl
  skip
  refine Sat.body [.tmp 2, .tmp 3] (fn := Tryz.f113) Tryz.func113 rfl rfl (by kernel_rfl) (by kernel_rfl) (by kernel_rfl) rfl ?_
  intro Q hQ
  (repeat (first | refine w1 (fun K hK => ?_) | refine w2 ?_ | refine w3 ?_ | ((first | refine w4 ?_ | refine WP_draw 8 (by decide +kernel) ?_ | refine w5 ?_ | refine w6 ?_ | refine w7 ?_); try refine sq1 h0 ?_) | (refine w8 ?_; refine sq1 h0 ?_; refine w9 ?_) | ((first | refine hK _ _ (w0 ?_) | (clear hK K; refine hK _ _ (w0 ?_)) | (clear hK K; clear hK K; refine hK _ _ (w0 ?_))); clear hK K)))
  (first | refine gq1 h0 (fun g1 => ?_) (fun g1 => ?_) | refine pq1 h0 (fun g1 => ?_) (fun g1 => ?_)) <;> (try exact g1.elim) <;> (try refine sq1 h0 ?_) <;>
   (repeat (first | refine w1 (fun K hK => ?_) | refine w2 ?_ | refine w3 ?_ | ((first | refine w4 ?_ | refine WP_draw 8 (by decide +kernel) ?_ | refine w5 ?_ | refine w6 ?_ | refine w7 ?_); try refine sq1 h0 ?_) | (refine w8 ?_; refine sq1 h0 ?_; refine w9 ?_) | ((first | refine hK _ _ (w0 ?_) | (clear hK K; refine hK _ _ (w0 ?_)) | (clear hK K; clear hK K; refine hK _ _ (w0 ?_))); clear hK K)))
  ·exfalso; omega
  ·refine (rbegin_sat hG hC c _).mono ?_
   rintro r h' ⟨rfl, rfl⟩
   try refine sq1 h0 ?_
   (repeat (first | refine w1 (fun K hK => ?_) | refine w2 ?_ | refine w3 ?_ | ((first | refine w4 ?_ | refine WP_draw 8 (by decide +kernel) ?_ | refine w5 ?_ | refine w6 ?_ | refine w7 ?_); try refine sq1 h0 ?_) | (refine w8 ?_; refine sq1 h0 ?_; refine w9 ?_) | ((first | refine hK _ _ (w0 ?_) | (clear hK K; refine hK _ _ (w0 ?_)) | (clear hK K; clear hK K; refine hK _ _ (w0 ?_))); clear hK K)))
   refine cq1 h0 (fun hb => ?_) (fun hb => ?_) <;> (try exact hb.elim) <;>
    (repeat (first | refine w1 (fun K hK => ?_) | refine w2 ?_ | refine w3 ?_ | ((first | refine w4 ?_ | refine WP_draw 8 (by decide +kernel) ?_ | refine w5 ?_ | refine w6 ?_ | refine w7 ?_); try refine sq1 h0 ?_) | (refine w8 ?_; refine sq1 h0 ?_; refine w9 ?_) | ((first | refine hK _ _ (w0 ?_) | (clear hK K; refine hK _ _ (w0 ?_)) | (clear hK K; clear hK K; refine hK _ _ (w0 ?_))); clear hK K)))
   ·first | refine (hQ _ _ ?_).1 | refine (hQ _ _ ?_).2
    simp (disch := first | omega | (simp only [go_sem, ↓reduceIte, seval]; first | done | omega) | fail) only [go_sem, ↓reduceIte, seval, h0, resA, resL, resA1]
    refine fin _ _ _ ?_
    have e : badN (nameW (c :: t)) = true := by
     unfold nameW
     rw [List.takeWhile_cons]
     split
     ·simp [badN, hb]
     ·rfl
    unfold nmR; rw [if_pos e]
   ·have hm := begin_more c hb
    have hq0 : ∀ i, i < 1 → ∀ d, (c :: t)[i]? = some d → moreB d = true := fun i hi d hd => by
     obtain rfl : i = 0 := by omega
     simp at hd; subst hd; exact hm
    refine WP_loopm (by simp only [go_sem, List.nil_append, List.cons_append]; rfl) (fun nL tL hL => ∃ (k : Nat), (c :: t).length - k = nL ∧ h' = hL ∧ tL 4 = .int .i64 k ∧ ((1 ≤ k ∧ k ≤ (c :: t).length)) ∧ (∀ i, i < k → ∀ d, (c :: t)[i]? = some d → moreB d = true)) ((fun (k : Nat) => ((c :: t).length - k : Nat)) (1)) ?_ ?_
    ·refine Wkn.refl ⟨1, rfl, (by first | rfl | (simp; done) | (simp; rfl)), ?_, ⟨by omega, by simp⟩, hq0⟩
     all_goals first | exact zq1 h0 | rfl | omega | trivial | skip
    rintro _ s2 h' ⟨k, rfl, rfl, e4, hk, hq⟩ K2 hK2
    simp only [mix_cons, mix_nil, Nat.reduceEqDiff, ↓reduceIte] at e4
    have tail : ∀ t' : Env, t' 4 = .int .i64 k → t' 0 = .str (c :: t) → nameW (c :: t) = (c :: t).take k → nameR (c :: t) = (c :: t).drop k → K t' h' := by
     intro t' e4 e0 hw hr
     have hwl : (nameW (c :: t)).length = k := by rw [hw, List.length_take]; omega
     have hbd : badN (nameW (c :: t)) = decide (64 < k) := by
      rw [← hwl, hw]
      obtain ⟨j, rfl⟩ : ∃ j, k = j + 1 := ⟨k - 1, by omega⟩
      rw [List.take_succ_cons]
      simp [badN, hb]
     refine hK _ _ (Wkn.refl ?_)
     clear hK K
     have hkl := hk.2
     skip
     (repeat (first | refine w1 (fun K hK => ?_) | refine w2 ?_ | refine w3 ?_ | ((first | refine w4 ?_ | refine WP_draw 8 (by decide +kernel) ?_ | refine w5 ?_ | refine w6 ?_ | refine w7 ?_); try refine sq4 h0 e4 e4 e0 ?_) | (refine w8 ?_; refine sq4 h0 e4 e4 e0 ?_; refine w9 ?_) | ((first | refine hK _ _ (w0 ?_) | (clear hK K; refine hK _ _ (w0 ?_)) | (clear hK K; clear hK K; refine hK _ _ (w0 ?_))); clear hK K)))
     refine cq4 h0 e4 e4 e0 (fun c3 => ?_) (fun c3 => ?_) <;> (try exact c3.elim) <;>
      (repeat (first | refine w1 (fun K hK => ?_) | refine w2 ?_ | refine w3 ?_ | ((first | refine w4 ?_ | refine WP_draw 8 (by decide +kernel) ?_ | refine w5 ?_ | refine w6 ?_ | refine w7 ?_); try refine sq4 h0 e4 e4 e0 ?_) | (refine w8 ?_; refine sq4 h0 e4 e4 e0 ?_; refine w9 ?_) | ((first | refine hK _ _ (w0 ?_) | (clear hK K; refine hK _ _ (w0 ?_)) | (clear hK K; clear hK K; refine hK _ _ (w0 ?_))); clear hK K)))
     ·first | refine (hQ _ _ ?_).1 | refine (hQ _ _ ?_).2
      simp (disch := first | omega | (simp only [go_sem, ↓reduceIte, seval]; first | done | omega) | fail) only [go_sem, ↓reduceIte, seval, h0, e4, e4, e0, resA, resL, resA1]
      refine fin _ _ _ ?_
      unfold nmR; rw [hbd, decide_eq_true (by omega), if_pos rfl]
     ·trace_state
      first | refine (hQ _ _ ?_).1 | refine (hQ _ _ ?_).2
      simp (disch := first | omega | (simp only [go_sem, ↓reduceIte, seval]; first | done | omega) | fail) only [go_sem, ↓reduceIte, seval, h0, e4, e4, e0, resA, resL, resA1]
      refine fin _ _ _ ?_
      unfold nmR; rw [hbd, decide_eq_false (by omega), if_neg (by simp), hw, hr]
    have hlt : (c :: t).length = t.length + 1 := rfl
    (repeat (first | refine w1 (fun K hK => ?_) | refine w2 ?_ | refine w3 ?_ | ((first | refine w4 ?_ | refine WP_draw 8 (by decide +kernel) ?_ | refine w5 ?_ | refine w6 ?_ | refine w7 ?_); try refine sq2 h0 e4 ?_) | (refine w8 ?_; refine sq2 h0 e4 ?_; refine w9 ?_) | ((first | refine hK _ _ (w0 ?_) | (clear hK K; refine hK _ _ (w0 ?_)) | (clear hK K; clear hK K; refine hK _ _ (w0 ?_))); clear hK K)))
    (first | refine gq2 h0 e4 (fun g2 => ?_) (fun g2 => ?_) | refine pq2 h0 e4 (fun g2 => ?_) (fun g2 => ?_)) <;> (try exact g2.elim) <;> (try refine sq2 h0 e4 ?_) <;>
     (repeat (first | refine w1 (fun K hK => ?_) | refine w2 ?_ | refine w3 ?_ | ((first | refine w4 ?_ | refine WP_draw 8 (by decide +kernel) ?_ | refine w5 ?_ | refine w6 ?_ | refine w7 ?_); try refine sq2 h0 e4 ?_) | (refine w8 ?_; refine sq2 h0 e4 ?_; refine w9 ?_) | ((first | refine hK _ _ (w0 ?_) | (clear hK K; refine hK _ _ (w0 ?_)) | (clear hK K; clear hK K; refine hK _ _ (w0 ?_))); clear hK K)))
    ·obtain ⟨y, hy, hym⟩ := getElem?_of_lt (l := c :: t) g2
     skip
     try refine sq3 h0 e4 hy ?_
     (repeat (first | refine w1 (fun K hK => ?_) | refine w2 ?_ | refine w3 ?_ | ((first | refine w4 ?_ | refine WP_draw 8 (by decide +kernel) ?_ | refine w5 ?_ | refine w6 ?_ | refine w7 ?_); try refine sq3 h0 e4 hy ?_) | (refine w8 ?_; refine sq3 h0 e4 hy ?_; refine w9 ?_) | ((first | refine hK _ _ (w0 ?_) | (clear hK K; refine hK _ _ (w0 ?_)) | (clear hK K; clear hK K; refine hK _ _ (w0 ?_))); clear hK K)))
     refine (rmore_sat hG hC y _).mono ?_
     rintro r h' ⟨rfl, rfl⟩
     try refine sq3 h0 e4 hy ?_
     (repeat (first | refine w1 (fun K hK => ?_) | refine w2 ?_ | refine w3 ?_ | ((first | refine w4 ?_ | refine WP_draw 8 (by decide +kernel) ?_ | refine w5 ?_ | refine w6 ?_ | refine w7 ?_); try refine sq3 h0 e4 hy ?_) | (refine w8 ?_; refine sq3 h0 e4 hy ?_; refine w9 ?_) | ((first | refine hK _ _ (w0 ?_) | (clear hK K; refine hK _ _ (w0 ?_)) | (clear hK K; clear hK K; refine hK _ _ (w0 ?_))); clear hK K)))
     refine cq3 h0 e4 hy (fun hb2 => ?_) (fun hb2 => ?_) <;> (try exact hb2.elim) <;>
      (repeat (first | refine w1 (fun K hK => ?_) | refine w2 ?_ | refine w3 ?_ | ((first | refine w4 ?_ | refine WP_draw 8 (by decide +kernel) ?_ | refine w5 ?_ | refine w6 ?_ | refine w7 ?_); try refine sq3 h0 e4 hy ?_) | (refine w8 ?_; refine sq3 h0 e4 hy ?_; refine w9 ?_) | ((first | refine hK _ _ (w0 ?_) | (clear hK K; refine hK _ _ (w0 ?_)) | (clear hK K; clear hK K; refine hK _ _ (w0 ?_))); clear hK K)))
     ·have hq1 : ∀ i, i < k + 1 → ∀ d, (c :: t)[i]? = some d → moreB d = true := fun i hi d hd => by
       rcases Nat.lt_or_ge i k with h1 | h1
       ·exact hq i h1 d hd
       ·obtain rfl : i = k := by omega
        rw [hy] at hd; cases hd; exact hb2
      refine hK2 _ _ _ (Wkn.refl ⟨k + 1, rfl, (by first | rfl | (simp; done) | (simp; rfl)), ?_, ⟨by omega, by omega⟩, hq1⟩) (by omega)
      all_goals first | exact zq3 h0 e4 hy | rfl | omega | trivial | skip
     ·obtain ⟨k1, k2⟩ := tw_at moreB (c :: t) k hq hk.2 (.inr ⟨_, hy, hb2⟩)
      refine tail _ ?_ ?_ k1 k2
      ·exact zq3 h0 e4 hy
      ·exact zq3 h0 e4 hy
    ·obtain rfl : k = (c :: t).length := by omega
     obtain ⟨k1, k2⟩ := tw_at moreB (c :: t) _ hq hk.2 (.inl rfl)
     refine tail _ ?_ ?_ k1 k2
     ·exact zq2 h0 e4
     ·exact zq2 h0 e4
end Go.Av
namespace Go.Av
open Go Go.Proofs Go.RowKit
attribute [local irreducible] WP WPl WPix Sat
set_option maxRecDepth 100000
set_option maxHeartbeats 1000000
variable {G : Nat → Option (List AVal)}
attribute [go_sem] decide_true decide_false
theorem sign_end (n : Int) (h0 : 0 ≤ n) : (if rightF n = true then (n, true) else (65533, true)) = (if (n < 32 ∧ n ≠ 9 ∧ n ≠ 10 ∧ n ≠ 13) ∨ 1114111 < n ∨ (55296 ≤ n ∧ n ≤ 57343) then ((65533 : Int), true) else (n, true)) := by
 have hb : ∀ b : Bool, rightF n = b ↔ (decide (n = 9 ∨ n = 10 ∨ n = 13 ∨ 32 ≤ n ∧ ¬ enc n = [239, 191, 189]) = b) := fun b => by
  unfold rightF; simp [Bool.decide_or, Bool.decide_and, Bool.or_assoc]
 by_cases hv : Rune n
 ·have hinj : enc n = [239, 191, 189] → n = 65533 := fun e => by
   have e2 : enc n = enc 65533 := by rw [e]; exact (enc_bad (r := 65533) (by decide)).symm
   have d1 : Utf8.decode ⟨(enc n).toArray⟩ 0 = (fix n, (enc n).length) := dec_enc n
   have d2 : Utf8.decode ⟨(enc 65533).toArray⟩ 0 = (fix 65533, (enc 65533).length) := dec_enc 65533
   rw [e2, d2] at d1
   have := (Prod.mk.inj d1).1
   unfold fix at this
   rw [if_pos hv.valid, if_pos (by decide)] at this
   omega
  obtain ⟨_, hv2⟩ := hv
  by_cases hr : rightF n = true
  ·rw [if_pos hr]
   rw [hb, decide_eq_true_iff] at hr
   rw [if_neg (by omega)]
  ·rw [if_neg hr]
   rw [hb, decide_eq_true_iff] at hr
   by_cases he : enc n = [239, 191, 189]
   ·have := hinj he
    subst this
    split <;> rfl
   ·have k1 : n ≠ 9 := fun e => hr (.inl e)
    have k2 : n ≠ 10 := fun e => hr (.inr (.inl e))
    have k3 : n ≠ 13 := fun e => hr (.inr (.inr (.inl e)))
    have k4 : ¬ 32 ≤ n := fun e => hr (.inr (.inr (.inr ⟨e, he⟩)))
    rw [if_pos (by omega)]
 ·have he : enc n = [239, 191, 189] := enc_bad (by unfold fix Utf8.valid Utf8.runeError Rune at *; rw [if_neg (by simp; omega)])
  have hr : ¬ rightF n = true := by
   rw [hb, decide_eq_true_iff]
   unfold Rune at hv
   rintro (e | e | e | ⟨_, e⟩)
   ·omega
   ·omega
   ·omega
   ·exact e he
  unfold Rune at hv
  rw [if_neg hr, if_pos (by omega)]
theorem rSign_sat (name : Bs) (hs : name.length ≤ 1048576) (h : Heap) : Sat (CT G) 135 [.str name] h (fun x h' => x = .tup [.int .i32 (signF name).1, .bool (signF name).2] ∧ h' = h) := by
 have fin : ∀ (a : Int) (b : Bool), signF name = (a, b) → Fin h h (fun x h' => x = .tup [.int .i32 (signF name).1, .bool (signF name).2] ∧ h' = h) (.tup [.int .i32 a, .bool b]) := fun a b e => by
  rw [e]; exact Fin.frzS (.clo _ (clo_ib _ _ _ _)) ⟨rfl, rfl⟩
 skip
 refine Sat.body [.tmp 2, .tmp 3] (fn := Tryz.f135) Tryz.func135 rfl rfl (by kernel_rfl) (by kernel_rfl) (by kernel_rfl) rfl ?_
 intro Q hQ
 (repeat (first | refine w1 (fun K hK => ?_) | refine w2 ?_ | refine w3 ?_ | ((first | refine w4 ?_ | refine w5 ?_ | refine w6 ?_ | refine w7 ?_); try refine sq1 @aconv_ir ?_) | (refine w8 ?_; refine sq1 @aconv_ir ?_; refine w9 ?_) | ((first | refine hK _ _ (w0 ?_) | (clear hK K; refine hK _ _ (w0 ?_)) | (clear hK K; clear hK K; refine hK _ _ (w0 ?_))); clear hK K)))
 refine cq1 @aconv_ir (fun c1 => ?_) (fun c1 => ?_) <;> (try exact c1.elim) <;>
  (repeat (first | refine w1 (fun K hK => ?_) | refine w2 ?_ | refine w3 ?_ | ((first | refine w4 ?_ | refine w5 ?_ | refine w6 ?_ | refine w7 ?_); try refine sq1 @aconv_ir ?_) | (refine w8 ?_; refine sq1 @aconv_ir ?_; refine w9 ?_) | ((first | refine hK _ _ (w0 ?_) | (clear hK K; refine hK _ _ (w0 ?_)) | (clear hK K; clear hK K; refine hK _ _ (w0 ?_))); clear hK K)))
 ·first | refine (hQ _ _ ?_).1 | refine (hQ _ _ ?_).2
  simp (disch := first | omega | (simp only [go_sem, ↓reduceIte, seval]; first | done | omega) | fail) only [go_sem, ↓reduceIte, seval, ↓aconv_ir, resA, resL, resA1]
  exact fin _ _ (by simp [signF, c1])
 refine cq1 @aconv_ir (fun c2 => ?_) (fun c2 => ?_) <;> (try exact c2.elim) <;>
  (repeat (first | refine w1 (fun K hK => ?_) | refine w2 ?_ | refine w3 ?_ | ((first | refine w4 ?_ | refine w5 ?_ | refine w6 ?_ | refine w7 ?_); try refine sq1 @aconv_ir ?_) | (refine w8 ?_; refine sq1 @aconv_ir ?_; refine w9 ?_) | ((first | refine hK _ _ (w0 ?_) | (clear hK K; refine hK _ _ (w0 ?_)) | (clear hK K; clear hK K; refine hK _ _ (w0 ?_))); clear hK K)))
 ·first | refine (hQ _ _ ?_).1 | refine (hQ _ _ ?_).2
  simp (disch := first | omega | (simp only [go_sem, ↓reduceIte, seval]; first | done | omega) | fail) only [go_sem, ↓reduceIte, seval, ↓aconv_ir, resA, resL, resA1]
  exact fin _ _ (by simp [signF, c2])
 refine cq1 @aconv_ir (fun c3 => ?_) (fun c3 => ?_) <;> (try exact c3.elim) <;>
  (repeat (first | refine w1 (fun K hK => ?_) | refine w2 ?_ | refine w3 ?_ | ((first | refine w4 ?_ | refine w5 ?_ | refine w6 ?_ | refine w7 ?_); try refine sq1 @aconv_ir ?_) | (refine w8 ?_; refine sq1 @aconv_ir ?_; refine w9 ?_) | ((first | refine hK _ _ (w0 ?_) | (clear hK K; refine hK _ _ (w0 ?_)) | (clear hK K; clear hK K; refine hK _ _ (w0 ?_))); clear hK K)))
 ·first | refine (hQ _ _ ?_).1 | refine (hQ _ _ ?_).2
  simp (disch := first | omega | (simp only [go_sem, ↓reduceIte, seval]; first | done | omega) | fail) only [go_sem, ↓reduceIte, seval, ↓aconv_ir, resA, resL, resA1]
  exact fin _ _ (by simp [signF, c3])
 refine cq1 @aconv_ir (fun c4 => ?_) (fun c4 => ?_) <;> (try exact c4.elim) <;>
  (repeat (first | refine w1 (fun K hK => ?_) | refine w2 ?_ | refine w3 ?_ | ((first | refine w4 ?_ | refine w5 ?_ | refine w6 ?_ | refine w7 ?_); try refine sq1 @aconv_ir ?_) | (refine w8 ?_; refine sq1 @aconv_ir ?_; refine w9 ?_) | ((first | refine hK _ _ (w0 ?_) | (clear hK K; refine hK _ _ (w0 ?_)) | (clear hK K; clear hK K; refine hK _ _ (w0 ?_))); clear hK K)))
 ·first | refine (hQ _ _ ?_).1 | refine (hQ _ _ ?_).2
  simp (disch := first | omega | (simp only [go_sem, ↓reduceIte, seval]; first | done | omega) | fail) only [go_sem, ↓reduceIte, seval, ↓aconv_ir, resA, resL, resA1]
  exact fin _ _ (by simp [signF, c4])
 refine cq1 @aconv_ir (fun c5 => ?_) (fun c5 => ?_) <;> (try exact c5.elim) <;>
  (repeat (first | refine w1 (fun K hK => ?_) | refine w2 ?_ | refine w3 ?_ | ((first | refine w4 ?_ | refine w5 ?_ | refine w6 ?_ | refine w7 ?_); try refine sq1 @aconv_ir ?_) | (refine w8 ?_; refine sq1 @aconv_ir ?_; refine w9 ?_) | ((first | refine hK _ _ (w0 ?_) | (clear hK K; refine hK _ _ (w0 ?_)) | (clear hK K; clear hK K; refine hK _ _ (w0 ?_))); clear hK K)))
 ·first | refine (hQ _ _ ?_).1 | refine (hQ _ _ ?_).2
  simp (disch := first | omega | (simp only [go_sem, ↓reduceIte, seval]; first | done | omega) | fail) only [go_sem, ↓reduceIte, seval, ↓aconv_ir, resA, resL, resA1]
  exact fin _ _ (by simp [signF, c5])
 have hS : signF name = if (if Lib.hasPrefix name [35, 120] = true then numF (name.drop 2) 16 6 else if Lib.hasPrefix name [35] = true then numF (name.drop 1) 10 7 else -1) < 0 then (0, false) else
   if rightF (if Lib.hasPrefix name [35, 120] = true then numF (name.drop 2) 16 6 else if Lib.hasPrefix name [35] = true then numF (name.drop 1) 10 7 else -1) = true then ((if Lib.hasPrefix name [35, 120] = true then numF (name.drop 2) 16 6 else if Lib.hasPrefix name [35] = true then numF (name.drop 1) 10 7 else -1), true) else (65533, true) := by
  unfold signF; rw [if_neg c1, if_neg c2, if_neg c3, if_neg c4, if_neg c5]
 rename_i K0 hK0
 have tail : ∀ (t' : Env) (n : Int), t' 4 = .int .i64 n → -1 ≤ n → n ≤ 268435455 → n = (if Lib.hasPrefix name [35, 120] = true then numF (name.drop 2) 16 6 else if Lib.hasPrefix name [35] = true then numF (name.drop 1) 10 7 else -1) → K0 t' h := by
  intro t' n e4 hb1 hb2 hn
  rw [← hn] at hS
  refine hK0 _ _ (Wkn.refl ?_)
  clear hK0 K0 hK K
  skip
  by_cases hneg : n < 0
  ·(repeat (first | refine w1 (fun K hK => ?_) | refine w2 ?_ | refine w3 ?_ | ((first | refine w4 ?_ | refine w5 ?_ | refine w6 ?_ | refine w7 ?_); try refine sq2 @aconv_ir e4 ?_) | (refine w8 ?_; refine sq2 @aconv_ir e4 ?_; refine w9 ?_) | ((first | refine hK _ _ (w0 ?_) | (clear hK K; refine hK _ _ (w0 ?_)) | (clear hK K; clear hK K; refine hK _ _ (w0 ?_))); clear hK K)))
   refine cq2 @aconv_ir e4 (fun hc => ?_) (fun hc => ?_) <;> (try exact hc.elim) <;>
    (repeat (first | refine w1 (fun K hK => ?_) | refine w2 ?_ | refine w3 ?_ | ((first | refine w4 ?_ | refine w5 ?_ | refine w6 ?_ | refine w7 ?_); try refine sq2 @aconv_ir e4 ?_) | (refine w8 ?_; refine sq2 @aconv_ir e4 ?_; refine w9 ?_) | ((first | refine hK _ _ (w0 ?_) | (clear hK K; refine hK _ _ (w0 ?_)) | (clear hK K; clear hK K; refine hK _ _ (w0 ?_))); clear hK K)))
   ·first | refine (hQ _ _ ?_).1 | refine (hQ _ _ ?_).2
    simp (disch := first | omega | (simp only [go_sem, ↓reduceIte, seval]; first | done | omega) | fail) only [go_sem, ↓reduceIte, seval, ↓aconv_ir, e4, resA, resL, resA1]
    exact fin _ _ (by rw [hS, if_pos hc])
   ·exfalso; omega
  ·rw [if_neg hneg, sign_end n (by omega)] at hS
   have hng : (decide (n < 0)) = false := by simpa using hneg
   have bad : ((n < 32 ∧ n ≠ 9 ∧ n ≠ 10 ∧ n ≠ 13) ∨ 1114111 < n ∨ (55296 ≤ n ∧ n ≤ 57343)) → signF name = (65533, true) := fun e => by rw [hS, if_pos e]
   have good : ¬ ((n < 32 ∧ n ≠ 9 ∧ n ≠ 10 ∧ n ≠ 13) ∨ 1114111 < n ∨ (55296 ≤ n ∧ n ≤ 57343)) → signF name = (n, true) := fun e => by rw [hS, if_neg e]
   by_cases hsm : n < 32
   ·have hsm' : (decide (n < 32)) = true := by simpa using hsm
    by_cases h9 : n = 9 ∨ n = 10 ∨ n = 13
    ·rcases h9 with rfl | rfl | rfl
     all_goals (
      (repeat (first | refine w1 (fun K hK => ?_) | refine w2 ?_ | refine w3 ?_ | ((first | refine w4 ?_ | refine w5 ?_ | refine w6 ?_ | refine w7 ?_); try refine sq2 @aconv_ir e4 ?_) | (refine w8 ?_; refine sq2 @aconv_ir e4 ?_; refine w9 ?_) | ((first | refine hK _ _ (w0 ?_) | (clear hK K; refine hK _ _ (w0 ?_)) | (clear hK K; clear hK K; refine hK _ _ (w0 ?_))); clear hK K)))
      first | refine (hQ _ _ ?_).1 | refine (hQ _ _ ?_).2
      simp (disch := first | omega | (simp only [go_sem, ↓reduceIte, seval]; first | done | omega) | fail) only [go_sem, ↓reduceIte, seval, ↓aconv_ir, e4, resA, resL, resA1]
      exact fin _ _ (good (by omega)))
    ·have b9 : (n != 9) = true := by simp; omega
     have b10 : (n != 10) = true := by simp; omega
     have b13 : (n != 13) = true := by simp; omega
     skip
     (repeat (first | refine w1 (fun K hK => ?_) | refine w2 ?_ | refine w3 ?_ | ((first | refine w4 ?_ | refine w5 ?_ | refine w6 ?_ | refine w7 ?_); try refine sq7 @aconv_ir e4 hng hsm' b9 b10 b13 ?_) | (refine w8 ?_; refine sq7 @aconv_ir e4 hng hsm' b9 b10 b13 ?_; refine w9 ?_) | ((first | refine hK _ _ (w0 ?_) | (clear hK K; refine hK _ _ (w0 ?_)) | (clear hK K; clear hK K; refine hK _ _ (w0 ?_))); clear hK K)))
     first | refine (hQ _ _ ?_).1 | refine (hQ _ _ ?_).2
     simp (disch := first | omega | (simp only [go_sem, ↓reduceIte, seval]; first | done | omega) | fail) only [go_sem, ↓reduceIte, seval, ↓aconv_ir, e4, hng, hsm', b9, b10, b13, resA, resL, resA1]
     exact fin _ _ (bad (by omega))
   ·have hsm' : (decide (n < 32)) = false := by simpa using hsm
    skip
    (repeat (first | refine w1 (fun K hK => ?_) | refine w2 ?_ | refine w3 ?_ | ((first | refine w4 ?_ | refine w5 ?_ | refine w6 ?_ | refine w7 ?_); try refine sq4 @aconv_ir e4 hng hsm' ?_) | (refine w8 ?_; refine sq4 @aconv_ir e4 hng hsm' ?_; refine w9 ?_) | ((first | refine hK _ _ (w0 ?_) | (clear hK K; refine hK _ _ (w0 ?_)) | (clear hK K; clear hK K; refine hK _ _ (w0 ?_))); clear hK K)))
    refine cq4 @aconv_ir e4 hng hsm' (fun k1 => ?_) (fun k1 => ?_) <;> (try exact k1.elim) <;>
     (repeat (first | refine w1 (fun K hK => ?_) | refine w2 ?_ | refine w3 ?_ | ((first | refine w4 ?_ | refine w5 ?_ | refine w6 ?_ | refine w7 ?_); try refine sq4 @aconv_ir e4 hng hsm' ?_) | (refine w8 ?_; refine sq4 @aconv_ir e4 hng hsm' ?_; refine w9 ?_) | ((first | refine hK _ _ (w0 ?_) | (clear hK K; refine hK _ _ (w0 ?_)) | (clear hK K; clear hK K; refine hK _ _ (w0 ?_))); clear hK K)))
    ·refine cq4 @aconv_ir e4 hng hsm' (fun k1b => ?_) (fun k1b => ?_) <;> (try exact k1b.elim) <;>
      (repeat (first | refine w1 (fun K hK => ?_) | refine w2 ?_ | refine w3 ?_ | ((first | refine w4 ?_ | refine w5 ?_ | refine w6 ?_ | refine w7 ?_); try refine sq4 @aconv_ir e4 hng hsm' ?_) | (refine w8 ?_; refine sq4 @aconv_ir e4 hng hsm' ?_; refine w9 ?_) | ((first | refine hK _ _ (w0 ?_) | (clear hK K; refine hK _ _ (w0 ?_)) | (clear hK K; clear hK K; refine hK _ _ (w0 ?_))); clear hK K)))
     ·first | refine (hQ _ _ ?_).1 | refine (hQ _ _ ?_).2
      simp (disch := first | omega | (simp only [go_sem, ↓reduceIte, seval]; first | done | omega) | fail) only [go_sem, ↓reduceIte, seval, ↓aconv_ir, e4, hng, hsm', resA, resL, resA1]
      exact fin _ _ (bad (by omega))
     ·exfalso; omega
    ·(first | refine gq4 @aconv_ir e4 hng hsm' (fun k2 => ?_) (fun k2 => ?_) | refine pq4 @aconv_ir e4 hng hsm' (fun k2 => ?_) (fun k2 => ?_)) <;> (try exact k2.elim) <;> (try refine sq4 @aconv_ir e4 hng hsm' ?_) <;>
      (repeat (first | refine w1 (fun K hK => ?_) | refine w2 ?_ | refine w3 ?_ | ((first | refine w4 ?_ | refine w5 ?_ | refine w6 ?_ | refine w7 ?_); try refine sq4 @aconv_ir e4 hng hsm' ?_) | (refine w8 ?_; refine sq4 @aconv_ir e4 hng hsm' ?_; refine w9 ?_) | ((first | refine hK _ _ (w0 ?_) | (clear hK K; refine hK _ _ (w0 ?_)) | (clear hK K; clear hK K; refine hK _ _ (w0 ?_))); clear hK K)))
     ·refine cq4 @aconv_ir e4 hng hsm' (fun k3 => ?_) (fun k3 => ?_) <;> (try exact k3.elim) <;>
       (repeat (first | refine w1 (fun K hK => ?_) | refine w2 ?_ | refine w3 ?_ | ((first | refine w4 ?_ | refine w5 ?_ | refine w6 ?_ | refine w7 ?_); try refine sq4 @aconv_ir e4 hng hsm' ?_) | (refine w8 ?_; refine sq4 @aconv_ir e4 hng hsm' ?_; refine w9 ?_) | ((first | refine hK _ _ (w0 ?_) | (clear hK K; refine hK _ _ (w0 ?_)) | (clear hK K; clear hK K; refine hK _ _ (w0 ?_))); clear hK K)))
      ·first | refine (hQ _ _ ?_).1 | refine (hQ _ _ ?_).2
       simp (disch := first | omega | (simp only [go_sem, ↓reduceIte, seval]; first | done | omega) | fail) only [go_sem, ↓reduceIte, seval, ↓aconv_ir, e4, hng, hsm', resA, resL, resA1]
       exact fin _ _ (bad (by omega))
      ·first | refine (hQ _ _ ?_).1 | refine (hQ _ _ ?_).2
       simp (disch := first | omega | (simp only [go_sem, ↓reduceIte, seval]; first | done | omega) | fail) only [go_sem, ↓reduceIte, seval, ↓aconv_ir, e4, hng, hsm', resA, resL, resA1]
       exact fin _ _ (good (by omega))
     ·first | refine (hQ _ _ ?_).1 | refine (hQ _ _ ?_).2
      simp (disch := first | omega | (simp only [go_sem, ↓reduceIte, seval]; first | done | omega) | fail) only [go_sem, ↓reduceIte, seval, ↓aconv_ir, e4, hng, hsm', resA, resL, resA1]
      exact fin _ _ (good (by omega))
 have hpt := Lib.hasPrefix_of_take name [35, 120]
 have hp1 : Lib.hasPrefix name [35] = (name.head? == some 35) := by
  cases name with
  | nil => rfl
  | cons c t => simp [Lib.hasPrefix, List.isPrefixOf, Bool.beq_comm, eq_comm]
 have nle := fun (s : Bs) => numF_le s 16 6 (by omega) (by omega) (by omega)
 have nle10 := fun (s : Bs) => numF_le s 10 7 (by omega) (by omega) (by omega)
 have hx : ∀ (a b : UInt8) (t : Bs), Lib.hasPrefix (a :: b :: t) [35, 120] = (a == 35 && b == 120) := fun a b t => by simp [Lib.hasPrefix, List.isPrefixOf, Bool.beq_comm, eq_comm]
 rcases name with _ | ⟨a, _ | ⟨b, _ | ⟨c, t⟩⟩⟩
 ·try refine sq1 @aconv_ir ?_
  (repeat (first | refine w1 (fun K hK => ?_) | refine w2 ?_ | refine w3 ?_ | ((first | refine w4 ?_ | refine w5 ?_ | refine w6 ?_ | refine w7 ?_); try refine sq1 @aconv_ir ?_) | (refine w8 ?_; refine sq1 @aconv_ir ?_; refine w9 ?_) | ((first | refine hK _ _ (w0 ?_) | (clear hK K; refine hK _ _ (w0 ?_)) | (clear hK K; clear hK K; refine hK _ _ (w0 ?_))); clear hK K)))
  refine tail _ (-1) ?_ (by omega) (by omega) rfl
  simp (disch := first | omega | (simp only [go_sem, ↓reduceIte, seval]; first | done | omega) | fail) only [go_sem, ↓reduceIte, seval, ↓aconv_ir]
 ·have g0 : ([a] : Bs)[0]? = some a := rfl
  try refine sq1 @aconv_ir ?_
  (repeat (first | refine w1 (fun K hK => ?_) | refine w2 ?_ | refine w3 ?_ | ((first | refine w4 ?_ | refine w5 ?_ | refine w6 ?_ | refine w7 ?_); try refine sq1 @aconv_ir ?_) | (refine w8 ?_; refine sq1 @aconv_ir ?_; refine w9 ?_) | ((first | refine hK _ _ (w0 ?_) | (clear hK K; refine hK _ _ (w0 ?_)) | (clear hK K; clear hK K; refine hK _ _ (w0 ?_))); clear hK K)))
  refine tail _ (-1) ?_ (by omega) (by omega) ?_
  ·exact zq1 @aconv_ir
  ·have h1 : Lib.hasPrefix [a] [35, 120] = false := by simp [Lib.hasPrefix, List.isPrefixOf]
   rw [h1, if_neg (by simp)]
   split <;> rfl
 ·have g0 : (a :: [b])[0]? = some a := rfl
  have h2 : ((a :: [b]).drop 1) = [b] := rfl
  have h3 : (a :: [b]).drop 2 = [] := rfl
  have h4 : Lib.hasPrefix (a :: [b]) [35] = (a == 35) := by simp [Lib.hasPrefix, List.isPrefixOf, Bool.beq_comm, eq_comm]
  rw [hx a b []] at tail
  rw [h2, h3, h4] at tail
  skip
  try refine sq3 @aconv_ir g0 h2 ?_
  (repeat (first | refine w1 (fun K hK => ?_) | refine w2 ?_ | refine w3 ?_ | ((first | refine w4 ?_ | refine w5 ?_ | refine w6 ?_ | refine w7 ?_); try refine sq3 @aconv_ir g0 h2 ?_) | (refine w8 ?_; refine sq3 @aconv_ir g0 h2 ?_; refine w9 ?_) | ((first | refine hK _ _ (w0 ?_) | (clear hK K; refine hK _ _ (w0 ?_)) | (clear hK K; clear hK K; refine hK _ _ (w0 ?_))); clear hK K)))
  refine cq3 @aconv_ir g0 h2 (fun k1 => ?_) (fun k1 => ?_) <;> (try exact k1.elim) <;>
   (repeat (first | refine w1 (fun K hK => ?_) | refine w2 ?_ | refine w3 ?_ | ((first | refine w4 ?_ | refine w5 ?_ | refine w6 ?_ | refine w7 ?_); try refine sq3 @aconv_ir g0 h2 ?_) | (refine w8 ?_; refine sq3 @aconv_ir g0 h2 ?_; refine w9 ?_) | ((first | refine hK _ _ (w0 ?_) | (clear hK K; refine hK _ _ (w0 ?_)) | (clear hK K; clear hK K; refine hK _ _ (w0 ?_))); clear hK K)))
  ·have ha : a = 35 := UInt8.toNat_inj.1 (by have : (a.toNat : Int) = ((35 : UInt8).toNat : Int) := k1; omega)
   subst ha
   refine (rnumber_sat G [b] 10 7 (by omega) (by omega) (by omega) (by simp) _).mono ?_
   rintro r h' ⟨rfl, rfl⟩
   try refine sq3 @aconv_ir g0 h2 ?_
   (repeat (first | refine w1 (fun K hK => ?_) | refine w2 ?_ | refine w3 ?_ | ((first | refine w4 ?_ | refine w5 ?_ | refine w6 ?_ | refine w7 ?_); try refine sq3 @aconv_ir g0 h2 ?_) | (refine w8 ?_; refine sq3 @aconv_ir g0 h2 ?_; refine w9 ?_) | ((first | refine hK _ _ (w0 ?_) | (clear hK K; refine hK _ _ (w0 ?_)) | (clear hK K; clear hK K; refine hK _ _ (w0 ?_))); clear hK K)))
   refine tail _ (numF [b] 10 7) ?_ (nle10 _).1 (nle10 _).2 ?_
   ·exact zq3 @aconv_ir g0 h2
   ·by_cases hb : b = 120
    ·subst hb; rfl
    ·rw [if_neg (by simpa using hb), if_pos (by rfl)]
  ·have ha : a ≠ 35 := fun e => k1 (by rw [e]; rfl)
   refine tail _ (-1) ?_ (by omega) (by omega) ?_
   ·exact zq3 @aconv_ir g0 h2
   ·rw [if_neg (by simp [ha]), if_neg (by simp [ha])]
 ·have g0 : (a :: b :: c :: t)[0]? = some a := rfl
  have h2 : ((a :: b :: c :: t).drop 1) = b :: c :: t := rfl
  have h3 : (a :: b :: c :: t).drop 2 = c :: t := rfl
  have h5 : (a :: b :: c :: t).take 2 = [a, b] := rfl
  have h4 : Lib.hasPrefix (a :: b :: c :: t) [35] = (a == 35) := by simp [Lib.hasPrefix, List.isPrefixOf, Bool.beq_comm, eq_comm]
  have hl : (a :: b :: c :: t).length = t.length + 3 := rfl
  rw [hx a b (c :: t)] at tail
  rw [h2, h3, h4] at tail
  have d1 : (2 : Int) < ((t.length + 1 + 1 + 1 : Nat) : Int) := by omega
  have d2 : (1 : Int) < ((t.length + 1 + 1 + 1 : Nat) : Int) := by omega
  have d3 : (2 : Int) ≤ ((t.length + 1 + 1 + 1 : Nat) : Int) := by omega
  have d4 : (1 : Int) ≤ ((t.length + 1 + 1 + 1 : Nat) : Int) := by omega
  have hs1 : (c :: t).length ≤ 1073741824 := by simp at hl hs ⊢; omega
  have hs2 : (b :: c :: t).length ≤ 1073741824 := by simp at hl hs ⊢; omega
  skip
  (first | refine gq9 @aconv_ir g0 h2 h3 h5 d1 d2 d3 d4 (fun k0 => ?_) (fun k0 => ?_) | refine pq9 @aconv_ir g0 h2 h3 h5 d1 d2 d3 d4 (fun k0 => ?_) (fun k0 => ?_)) <;> (try exact k0.elim) <;> (try refine sq9 @aconv_ir g0 h2 h3 h5 d1 d2 d3 d4 ?_) <;>
   (repeat (first | refine w1 (fun K hK => ?_) | refine w2 ?_ | refine w3 ?_ | ((first | refine w4 ?_ | refine w5 ?_ | refine w6 ?_ | refine w7 ?_); try refine sq9 @aconv_ir g0 h2 h3 h5 d1 d2 d3 d4 ?_) | (refine w8 ?_; refine sq9 @aconv_ir g0 h2 h3 h5 d1 d2 d3 d4 ?_; refine w9 ?_) | ((first | refine hK _ _ (w0 ?_) | (clear hK K; refine hK _ _ (w0 ?_)) | (clear hK K; clear hK K; refine hK _ _ (w0 ?_))); clear hK K)))
  ·refine cq9 @aconv_ir g0 h2 h3 h5 d1 d2 d3 d4 (fun k1 => ?_) (fun k1 => ?_) <;> (try exact k1.elim) <;>
    (repeat (first | refine w1 (fun K hK => ?_) | refine w2 ?_ | refine w3 ?_ | ((first | refine w4 ?_ | refine w5 ?_ | refine w6 ?_ | refine w7 ?_); try refine sq9 @aconv_ir g0 h2 h3 h5 d1 d2 d3 d4 ?_) | (refine w8 ?_; refine sq9 @aconv_ir g0 h2 h3 h5 d1 d2 d3 d4 ?_; refine w9 ?_) | ((first | refine hK _ _ (w0 ?_) | (clear hK K; refine hK _ _ (w0 ?_)) | (clear hK K; clear hK K; refine hK _ _ (w0 ?_))); clear hK K)))
   ·simp only [List.cons.injEq, and_true] at k1
    obtain ⟨rfl, rfl⟩ := k1
    refine (rnumber_sat G (c :: t) 16 6 (by omega) (by omega) (by omega) hs1 _).mono ?_
    rintro r h' ⟨rfl, rfl⟩
    try refine sq9 @aconv_ir g0 h2 h3 h5 d1 d2 d3 d4 ?_
    (repeat (first | refine w1 (fun K hK => ?_) | refine w2 ?_ | refine w3 ?_ | ((first | refine w4 ?_ | refine w5 ?_ | refine w6 ?_ | refine w7 ?_); try refine sq9 @aconv_ir g0 h2 h3 h5 d1 d2 d3 d4 ?_) | (refine w8 ?_; refine sq9 @aconv_ir g0 h2 h3 h5 d1 d2 d3 d4 ?_; refine w9 ?_) | ((first | refine hK _ _ (w0 ?_) | (clear hK K; refine hK _ _ (w0 ?_)) | (clear hK K; clear hK K; refine hK _ _ (w0 ?_))); clear hK K)))
    refine tail _ (numF (c :: t) 16 6) ?_ (nle _).1 (nle _).2 ?_
    ·exact zq9 @aconv_ir g0 h2 h3 h5 d1 d2 d3 d4
    ·rw [if_pos (by rfl)]
   ·have hne : (a == 35 && b == 120) = false := by
     cases hq : (a == 35 && b == 120) with
     | false => rfl
     | true =>
      simp at hq
      exact absurd (by rw [hq.1, hq.2]) k1
    rw [hne, if_neg (by simp)] at tail
    refine cq9 @aconv_ir g0 h2 h3 h5 d1 d2 d3 d4 (fun k2 => ?_) (fun k2 => ?_) <;> (try exact k2.elim) <;>
     (repeat (first | refine w1 (fun K hK => ?_) | refine w2 ?_ | refine w3 ?_ | ((first | refine w4 ?_ | refine w5 ?_ | refine w6 ?_ | refine w7 ?_); try refine sq9 @aconv_ir g0 h2 h3 h5 d1 d2 d3 d4 ?_) | (refine w8 ?_; refine sq9 @aconv_ir g0 h2 h3 h5 d1 d2 d3 d4 ?_; refine w9 ?_) | ((first | refine hK _ _ (w0 ?_) | (clear hK K; refine hK _ _ (w0 ?_)) | (clear hK K; clear hK K; refine hK _ _ (w0 ?_))); clear hK K)))
    ·have ha : a = 35 := UInt8.toNat_inj.1 (by have : (a.toNat : Int) = ((35 : UInt8).toNat : Int) := k2; omega)
     subst ha
     refine (rnumber_sat G (b :: c :: t) 10 7 (by omega) (by omega) (by omega) hs2 _).mono ?_
     rintro r h' ⟨rfl, rfl⟩
     try refine sq9 @aconv_ir g0 h2 h3 h5 d1 d2 d3 d4 ?_
     (repeat (first | refine w1 (fun K hK => ?_) | refine w2 ?_ | refine w3 ?_ | ((first | refine w4 ?_ | refine w5 ?_ | refine w6 ?_ | refine w7 ?_); try refine sq9 @aconv_ir g0 h2 h3 h5 d1 d2 d3 d4 ?_) | (refine w8 ?_; refine sq9 @aconv_ir g0 h2 h3 h5 d1 d2 d3 d4 ?_; refine w9 ?_) | ((first | refine hK _ _ (w0 ?_) | (clear hK K; refine hK _ _ (w0 ?_)) | (clear hK K; clear hK K; refine hK _ _ (w0 ?_))); clear hK K)))
     refine tail _ (numF (b :: c :: t) 10 7) ?_ (nle10 _).1 (nle10 _).2 ?_
     ·exact zq9 @aconv_ir g0 h2 h3 h5 d1 d2 d3 d4
     ·rw [if_pos (by rfl)]
    ·have ha : a ≠ 35 := fun e => k2 (by rw [e]; rfl)
     refine tail _ (-1) ?_ (by omega) (by omega) ?_
     ·exact zq9 @aconv_ir g0 h2 h3 h5 d1 d2 d3 d4
     ·rw [if_neg (by simp [ha])]
  ·exfalso; simp at k0
end Go.Av
namespace Go.Av
open Go Go.Proofs Go.RowKit
set_option maxRecDepth 100000
def rdE (s : Bs) : Bs := readP (s.length + 1) s
theorem cut_cons (c : UInt8) (t : Bs) (p : UInt8) : Lib.cut (c :: t) [p] = if c = p then ([], t, true) else if (Lib.cut t [p]).2.2 = true then (c :: (Lib.cut t [p]).1, (Lib.cut t [p]).2.1, true) else (c :: t, [], false) := by
 have hp : ([p] : Bs).isPrefixOf (c :: t) = (p == c) := by simp [List.isPrefixOf]
 by_cases h : c = p
 ·subst h
  rw [if_pos rfl]
  unfold Lib.cut Lib.index
  simp
 ·have hpc : (p == c) = false := by simpa using fun e => h e.symm
  rw [if_neg h]
  have hi : Lib.index (c :: t) [p] = if Lib.index t [p] == -1 then -1 else Lib.index t [p] + 1 := by
   rw [Lib.index, hp, hpc]; simp
  have hge := Lib.index_ge t [p]
  unfold Lib.cut
  rw [hi]
  by_cases h1 : Lib.index t [p] = -1
  ·rw [h1]; simp
  ·have h2 : (Lib.index t [p] == -1) = false := by simpa using h1
   have h3 : 0 ≤ Lib.index t [p] := by omega
   rw [h2]
   simp only [Bool.false_eq_true, if_false, if_pos h3]
   rw [if_pos (by omega)]
   simp only [if_true]
   obtain ⟨n, hn⟩ : ∃ n : Nat, Lib.index t [p] = n := ⟨_, (Int.toNat_of_nonneg h3).symm⟩
   rw [hn]
   have e1 : ((n : Int) + 1).toNat = n + 1 := by omega
   have e2 : (n : Int).toNat = n := by omega
   rw [e1, e2]
   simp
theorem readP_fuel : ∀ (n f g : Nat) (s : Bs), s.length ≤ n → s.length < f → s.length < g → readP f s = readP g s := by
 intro n
 induction n with
 | zero =>
  intro f g s h hf hg
  obtain rfl : s = [] := List.length_eq_zero_iff.1 (by omega)
  obtain ⟨f, rfl⟩ : ∃ k, f = k + 1 := ⟨f - 1, by omega⟩
  obtain ⟨g, rfl⟩ : ∃ k, g = k + 1 := ⟨g - 1, by omega⟩
  rw [readP, readP]
  rfl
 | succ n ih =>
  intro f g s h hf hg
  obtain ⟨f, rfl⟩ : ∃ k, f = k + 1 := ⟨f - 1, by omega⟩
  obtain ⟨g, rfl⟩ : ∃ k, g = k + 1 := ⟨g - 1, by omega⟩
  rw [readP, readP]
  by_cases h1 : (Lib.cut s [38]).2.2 = true
  ·have h2 := cut_len s [38] h1
   simp only [List.length_cons, List.length_nil] at h2
   rw [if_pos h1, if_pos h1, ih f g (Lib.cut s [38]).2.1 (by omega) (by omega) (by omega)]
   by_cases h3 : (Lib.cut (Lib.cut s [38]).2.1 [59]).2.2 = true
   ·have h4 := cut_len _ [59] h3
    simp only [List.length_cons, List.length_nil] at h4
    rw [ih f g (Lib.cut (Lib.cut s [38]).2.1 [59]).2.1 (by omega) (by omega) (by omega)]
   ·have h5 : ∀ b c : Bool, ((Lib.cut (Lib.cut s [38]).2.1 [59]).2.2 && b && c) = false := fun b c => by simp [h3]
    rw [h5]; simp
  ·rw [if_neg h1, if_neg h1]
theorem readP_succ (f : Nat) (s : Bs) : readP (f + 1) s =
  if (Lib.cut s [38]).2.2 = true then
   if ((Lib.cut (Lib.cut s [38]).2.1 [59]).2.2 && decide ((Lib.cut (Lib.cut s [38]).2.1 [59]).1.length ≤ 10) && (signF (Lib.cut (Lib.cut s [38]).2.1 [59]).1).2) = true
   then (Lib.cut s [38]).1 ++ (enc (signF (Lib.cut (Lib.cut s [38]).2.1 [59]).1).1 ++ readP f (Lib.cut (Lib.cut s [38]).2.1 [59]).2.1)
   else (Lib.cut s [38]).1 ++ (38 :: readP f (Lib.cut s [38]).2.1)
  else (Lib.cut s [38]).1 := rfl
theorem rdE_nil : rdE [] = [] := rfl
theorem rdE_eq (f : Nat) (s : Bs) (h : s.length < f) : readP f s = rdE s := readP_fuel s.length f _ s (Nat.le_refl _) h (by omega)
theorem rdE_cons (c : UInt8) (t : Bs) (h : c ≠ 38) : rdE (c :: t) = c :: rdE t := by
 have e1 : rdE t = readP (t.length + 2) t := (rdE_eq _ _ (by omega)).symm
 rw [e1]
 show readP (t.length + 2) (c :: t) = _
 rw [readP_succ (t.length + 1) (c :: t), readP_succ (t.length + 1) t, cut_cons, if_neg h]
 by_cases h1 : (Lib.cut t [38]).2.2 = true
 ·rw [if_pos h1, if_pos rfl, if_pos h1]
  simp only []
  split <;> simp
 ·rw [if_neg h1, if_neg (by simp), if_neg h1]
  rw [cut_no t [38] (by simpa using h1)]
theorem rdE_amp (t : Bs) : rdE (38 :: t) = if ((Lib.cut t [59]).2.2 && decide ((Lib.cut t [59]).1.length ≤ 10) && (signF (Lib.cut t [59]).1).2) = true then enc (signF (Lib.cut t [59]).1).1 ++ rdE (Lib.cut t [59]).2.1 else 38 :: rdE t := by
 show readP (t.length + 2) (38 :: t) = _
 rw [readP_succ (t.length + 1), cut_cons, if_pos rfl, if_pos rfl]
 simp only []
 by_cases h : ((Lib.cut t [59]).2.2 && decide ((Lib.cut t [59]).1.length ≤ 10) && (signF (Lib.cut t [59]).1).2) = true
 ·rw [if_pos h, if_pos h]
  simp only [Bool.and_eq_true] at h
  have := cut_len t [59] h.1.1
  rw [rdE_eq _ _ (by simp at this; omega)]; rfl
 ·rw [if_neg h, if_neg h, rdE_eq _ _ (by omega)]; rfl
theorem numF_len (s : Bs) (base : Int) (most : Nat) (h : 0 ≤ numF s base most) : s.length ≤ most := by
 unfold numF at h
 split at h
 ·omega
 ·omega
theorem sign_len (n : Bs) (h : (signF n).2 = true) : n.length ≤ 9 := by
 unfold signF at h
 by_cases c1 : n = [97, 109, 112]
 ·subst c1; decide
 rw [if_neg c1] at h
 by_cases c2 : n = [108, 116]
 ·subst c2; decide
 rw [if_neg c2] at h
 by_cases c3 : n = [103, 116]
 ·subst c3; decide
 rw [if_neg c3] at h
 by_cases c4 : n = [113, 117, 111, 116]
 ·subst c4; decide
 rw [if_neg c4] at h
 by_cases c5 : n = [97, 112, 111, 115]
 ·subst c5; decide
 rw [if_neg c5] at h
 have key : ∀ m : Int, (if m < 0 then ((0 : Int), false) else if rightF m = true then (m, true) else (65533, true)).2 = true → 0 ≤ m := fun m hm => by
  by_cases h0 : m < 0
  ·rw [if_pos h0] at hm; cases hm
  ·omega
 have h0 := key _ h
 by_cases hx : Lib.hasPrefix n [35, 120] = true
 ·rw [if_pos hx] at h0
  have := numF_len _ _ _ h0; simp at this; omega
 ·rw [if_neg hx] at h0
  by_cases hy : Lib.hasPrefix n [35] = true
  ·rw [if_pos hy] at h0
   have := numF_len _ _ _ h0; simp at this; omega
  ·rw [if_neg hy] at h0; omega
theorem cut_at (t : Bs) (p : UInt8) (m : Nat) (h1 : ∀ i, i < m → ∀ c, t[i]? = some c → c ≠ p) (h2 : t[m]? = some p) : Lib.cut t [p] = (t.take m, t.drop (m + 1), true) := by
 induction t generalizing m with
 | nil => simp at h2
 | cons c t ih =>
  rw [cut_cons]
  cases m with
  | zero =>
   simp at h2; subst h2; rw [if_pos rfl]; rfl
  | succ m =>
   have hc : c ≠ p := h1 0 (by omega) c rfl
   rw [if_neg hc, ih m (fun i hi d hd => h1 (i + 1) (by omega) d (by simpa using hd)) (by simpa using h2), if_pos rfl]
   rfl
theorem cut_from (t : Bs) (p : UInt8) (m : Nat) (h1 : ∀ i, i < m → ∀ c, t[i]? = some c → c ≠ p) (h2 : (Lib.cut t [p]).2.2 = true) : m ≤ (Lib.cut t [p]).1.length := by
 obtain ⟨h3, h4⟩ := cut_yes t [p] h2
 refine Nat.le_of_not_lt fun hlt => ?_
 have key : ∀ (a b : Bs), t = a ++ [p] ++ b → t[a.length]? = some p := fun a b e => by rw [e]; simp
 have := key _ _ h3
 exact h1 _ hlt p this rfl
end Go.Av
namespace Go.Av
open Go Go.Proofs Go.RowKit
attribute [local irreducible] WP WPl WPix Sat
set_option maxRecDepth 100000
set_option maxHeartbeats 1000000
variable {G : Nat → Option (List AVal)}
theorem rRead_sat (s : Bs) (hs : s.length ≤ 1048576) (h : Heap) : Sat (CT G) 110 [.str s] h (fun x h' => x = .str (rdE s) ∧ h' = h) := by
 refine Sat.body [.tmp 2] (fn := Tryz.f110) Tryz.func110 rfl rfl (by kernel_rfl) (by kernel_rfl) (by kernel_rfl) rfl ?_
 intro Q hQ
 (repeat (first | refine w1 (fun K hK => ?_) | refine w2 ?_ | refine w3 ?_ | ((first | refine w4 ?_ | refine w5 ?_ | refine w6 ?_ | refine w7 ?_); try refine sq0 ?_) | (refine w8 ?_; refine sq0 ?_; refine w9 ?_) | (refine rq0 ?_; try refine sq0 ?_) | (refine vq0 ?_; try refine sq0 ?_) | ((first | refine hK _ _ (w0 ?_) | (clear hK K; refine hK _ _ (w0 ?_)) | (clear hK K; clear hK K; refine hK _ _ (w0 ?_))); clear hK K)))
 refine WP_loopm (by simp only [go_sem, List.nil_append, List.cons_append]; rfl) (fun nL tL hL => ∃ (i v : Nat) (acc : Bs), s.length - i = nL ∧ h ++ [.row 5 1 v (acc.map bytA)] = hL ∧ tL 3 = .hs h.length v 0 acc.length true ∧ tL 4 = .int .i64 i ∧ i ≤ s.length ∧ acc ++ rdE (s.drop i) = rdE s ∧ acc.length ≤ 4 * i) ((fun (i v : Nat) (acc : Bs) => (s.length - i : Nat)) (0) (0) ([])) ?_ ?_
 ·refine ⟨_, _, Weak.virt 3 5 1 (by simp) (by omega) (by simp (disch := first | omega | (simp only [go_sem, ↓reduceIte, seval]; first | done | omega) | fail) only [go_sem, ↓reduceIte, seval]), ⟨0, 0, [], rfl, (by first | rfl | (simp; done) | (simp; rfl)), ?_, ?_, ?_, ?_, ?_⟩⟩
  all_goals first | exact zq0 | rfl | omega | trivial | skip
 rintro _ s2 h' ⟨i, v, acc, rfl, rfl, e3, e4, hi, hp, hz⟩ K2 hK2
 simp only [mix_cons, mix_nil, Nat.reduceEqDiff, ↓reduceIte] at e3 e4
 (repeat (first | refine w1 (fun K hK => ?_) | refine w2 ?_ | refine w3 ?_ | ((first | refine w4 ?_ | refine w5 ?_ | refine w6 ?_ | refine w7 ?_); try refine sq2 e3 e4 ?_) | (refine w8 ?_; refine sq2 e3 e4 ?_; refine w9 ?_) | (refine rq2 e3 e4 ?_; try refine sq2 e3 e4 ?_) | (refine vq2 e3 e4 ?_; try refine sq2 e3 e4 ?_) | ((first | refine hK _ _ (w0 ?_) | (clear hK K; refine hK _ _ (w0 ?_)) | (clear hK K; clear hK K; refine hK _ _ (w0 ?_))); clear hK K)))
 refine cq2 e3 e4 (fun hc => ?_) (fun hc => ?_) <;> (try exact hc.elim)
 ·obtain ⟨y, hy, hym⟩ := getElem?_of_lt hc
  have hd := drop_cons_of hy
  rw [hd] at hp
  skip
  (repeat (first | refine w1 (fun K hK => ?_) | refine w2 ?_ | refine w3 ?_ | ((first | refine w4 ?_ | refine w5 ?_ | refine w6 ?_ | refine w7 ?_); try refine sq3 e3 e4 hy ?_) | (refine w8 ?_; refine sq3 e3 e4 hy ?_; refine w9 ?_) | (refine rq3 e3 e4 hy ?_; try refine sq3 e3 e4 hy ?_) | (refine vq3 e3 e4 hy ?_; try refine sq3 e3 e4 hy ?_) | ((first | refine hK _ _ (w0 ?_) | (clear hK K; refine hK _ _ (w0 ?_)) | (clear hK K; clear hK K; refine hK _ _ (w0 ?_))); clear hK K)))
  refine WP_loopm (by simp only [go_sem, List.nil_append, List.cons_append]; rfl) (fun nL tL hL => ∃ (m : Nat), 12 - m = nL ∧ h ++ [.row 5 1 v (acc.map bytA)] = hL ∧ tL 5 = .int .i64 (i + 1 + m : Nat) ∧ m ≤ 11 ∧ i + 1 + m ≤ s.length ∧ (∀ j, j < m → ∀ c, (s.drop (i + 1))[j]? = some c → c ≠ 59) ∧ (y ≠ 38 → m = 0)) ((fun (m : Nat) => (12 - m : Nat)) (0)) ?_ ?_
  ·refine Wkn.refl ⟨0, rfl, (by first | rfl | (simp; done) | (simp; rfl)), ?_, by omega, by omega, fun j hj => by omega, fun _ => rfl⟩
   all_goals first | exact zq3 e3 e4 hy | rfl | omega | trivial | skip
  rintro _ s3 h' ⟨m, rfl, rfl, e5, hm, hk, h59, h0⟩ K3 hK3
  simp only [mix_cons, mix_nil, Nat.reduceEqDiff, ↓reduceIte] at e5
  by_cases hy8 : y = 38
  ·have b8 : ((y.toNat : Int) == 38) = true := by rw [hy8]; rfl
   have hamp := rdE_amp (s.drop (i + 1))
   rw [hy8] at hp
   skip
   (repeat (first | refine w1 (fun K hK => ?_) | refine w2 ?_ | refine w3 ?_ | ((first | refine w4 ?_ | refine w5 ?_ | refine w6 ?_ | refine w7 ?_); try refine sq5 e3 e4 hy e5 b8 ?_) | (refine w8 ?_; refine sq5 e3 e4 hy e5 b8 ?_; refine w9 ?_) | (refine rq5 e3 e4 hy e5 b8 ?_; try refine sq5 e3 e4 hy e5 b8 ?_) | (refine vq5 e3 e4 hy e5 b8 ?_; try refine sq5 e3 e4 hy e5 b8 ?_) | ((first | refine hK _ _ (w0 ?_) | (clear hK K; refine hK _ _ (w0 ?_)) | (clear hK K; clear hK K; refine hK _ _ (w0 ?_))); clear hK K)))
   (first | refine gq5 e3 e4 hy e5 b8 (fun g1 => ?_) (fun g1 => ?_) | refine pq5 e3 e4 hy e5 b8 (fun g1 => ?_) (fun g1 => ?_)) <;> (try exact g1.elim) <;> (try refine sq5 e3 e4 hy e5 b8 ?_) <;>
    (repeat (first | refine w1 (fun K hK => ?_) | refine w2 ?_ | refine w3 ?_ | ((first | refine w4 ?_ | refine w5 ?_ | refine w6 ?_ | refine w7 ?_); try refine sq5 e3 e4 hy e5 b8 ?_) | (refine w8 ?_; refine sq5 e3 e4 hy e5 b8 ?_; refine w9 ?_) | (refine rq5 e3 e4 hy e5 b8 ?_; try refine sq5 e3 e4 hy e5 b8 ?_) | (refine vq5 e3 e4 hy e5 b8 ?_; try refine sq5 e3 e4 hy e5 b8 ?_) | ((first | refine hK _ _ (w0 ?_) | (clear hK K; refine hK _ _ (w0 ?_)) | (clear hK K; clear hK K; refine hK _ _ (w0 ?_))); clear hK K)))
   ·obtain ⟨z, hz9, hzm⟩ := getElem?_of_lt g1
    have hzd : (s.drop (i + 1))[m]? = some z := by rw [List.getElem?_drop, show i + 1 + m = i + (1 + m) by omega]; exact hz9
    skip
    by_cases hz59 : z = 59
    ·have z8 : ((z.toNat : Int) == 59) = true := by rw [hz59]; rfl
     have z9 : ((z.toNat : Int) != 59) = false := by rw [hz59]; rfl
     have hcut := cut_at _ _ m h59 (by rw [hzd, hz59])
     have hsl : ((s.take (i + (1 + m))).drop (i + 1)) = (s.drop (i + 1)).take m := by
      rw [List.drop_take]; congr 1; omega
     rw [hcut] at hamp
     simp only [Bool.true_and] at hamp
     skip
     try refine sq8 e3 e4 hy e5 b8 hz9 z8 z9 ?_
     (repeat (first | refine w1 (fun K hK => ?_) | refine w2 ?_ | refine w3 ?_ | ((first | refine w4 ?_ | refine w5 ?_ | refine w6 ?_ | refine w7 ?_); try refine sq8 e3 e4 hy e5 b8 hz9 z8 z9 ?_) | (refine w8 ?_; refine sq8 e3 e4 hy e5 b8 hz9 z8 z9 ?_; refine w9 ?_) | (refine rq8 e3 e4 hy e5 b8 hz9 z8 z9 ?_; try refine sq8 e3 e4 hy e5 b8 hz9 z8 z9 ?_) | (refine vq8 e3 e4 hy e5 b8 hz9 z8 z9 ?_; try refine sq8 e3 e4 hy e5 b8 hz9 z8 z9 ?_) | ((first | refine hK _ _ (w0 ?_) | (clear hK K; refine hK _ _ (w0 ?_)) | (clear hK K; clear hK K; refine hK _ _ (w0 ?_))); clear hK K)))
     (first | refine gq8 e3 e4 hy e5 b8 hz9 z8 z9 (fun g2 => ?_) (fun g2 => ?_) | refine pq8 e3 e4 hy e5 b8 hz9 z8 z9 (fun g2 => ?_) (fun g2 => ?_)) <;> (try exact g2.elim) <;> (try refine sq8 e3 e4 hy e5 b8 hz9 z8 z9 ?_) <;>
      (repeat (first | refine w1 (fun K hK => ?_) | refine w2 ?_ | refine w3 ?_ | ((first | refine w4 ?_ | refine w5 ?_ | refine w6 ?_ | refine w7 ?_); try refine sq8 e3 e4 hy e5 b8 hz9 z8 z9 ?_) | (refine w8 ?_; refine sq8 e3 e4 hy e5 b8 hz9 z8 z9 ?_; refine w9 ?_) | (refine rq8 e3 e4 hy e5 b8 hz9 z8 z9 ?_; try refine sq8 e3 e4 hy e5 b8 hz9 z8 z9 ?_) | (refine vq8 e3 e4 hy e5 b8 hz9 z8 z9 ?_; try refine sq8 e3 e4 hy e5 b8 hz9 z8 z9 ?_) | ((first | refine hK _ _ (w0 ?_) | (clear hK K; refine hK _ _ (w0 ?_)) | (clear hK K; clear hK K; refine hK _ _ (w0 ?_))); clear hK K)))
     ·rw [hsl]
      have hml : ((s.drop (i + 1)).take m).length = m := by rw [List.length_take, List.length_drop]; omega
      refine (rSign_sat ((s.drop (i + 1)).take m) (by omega) _).mono ?_
      rintro r h' ⟨rfl, rfl⟩
      try refine sq8 e3 e4 hy e5 b8 hz9 z8 z9 ?_
      (repeat (first | refine w1 (fun K hK => ?_) | refine w2 ?_ | refine w3 ?_ | ((first | refine w4 ?_ | refine w5 ?_ | refine w6 ?_ | refine w7 ?_); try refine sq8 e3 e4 hy e5 b8 hz9 z8 z9 ?_) | (refine w8 ?_; refine sq8 e3 e4 hy e5 b8 hz9 z8 z9 ?_; refine w9 ?_) | (refine rq8 e3 e4 hy e5 b8 hz9 z8 z9 ?_; try refine sq8 e3 e4 hy e5 b8 hz9 z8 z9 ?_) | (refine vq8 e3 e4 hy e5 b8 hz9 z8 z9 ?_; try refine sq8 e3 e4 hy e5 b8 hz9 z8 z9 ?_) | ((first | refine hK _ _ (w0 ?_) | (clear hK K; refine hK _ _ (w0 ?_)) | (clear hK K; clear hK K; refine hK _ _ (w0 ?_))); clear hK K)))
      refine cq8 e3 e4 hy e5 b8 hz9 z8 z9 (fun g3 => ?_) (fun g3 => ?_) <;> (try exact g3.elim) <;>
       (repeat (first | refine w1 (fun K hK => ?_) | refine w2 ?_ | refine w3 ?_ | ((first | refine w4 ?_ | refine w5 ?_ | refine w6 ?_ | refine w7 ?_); try refine sq8 e3 e4 hy e5 b8 hz9 z8 z9 ?_) | (refine w8 ?_; refine sq8 e3 e4 hy e5 b8 hz9 z8 z9 ?_; refine w9 ?_) | (refine rq8 e3 e4 hy e5 b8 hz9 z8 z9 ?_; try refine sq8 e3 e4 hy e5 b8 hz9 z8 z9 ?_) | (refine vq8 e3 e4 hy e5 b8 hz9 z8 z9 ?_; try refine sq8 e3 e4 hy e5 b8 hz9 z8 z9 ?_) | ((first | refine hK _ _ (w0 ?_) | (clear hK K; refine hK _ _ (w0 ?_)) | (clear hK K; clear hK K; refine hK _ _ (w0 ?_))); clear hK K)))
      ·have hsl9 := sign_len _ g3
       have hro := sign_rune _ g3
       rw [hml] at hsl9
       have hyes : rdE (38 :: s.drop (i + 1)) = enc (signF ((s.drop (i + 1)).take m)).1 ++ rdE ((s.drop (i + 1)).drop (m + 1)) := by
        rw [hamp, if_pos (by rw [hml]; simp [g3]; omega)]
       rw [hyes, List.drop_drop] at hp
       generalize (signF ((s.drop (i + 1)).take m)).1 = r at hp hro ⊢
       have hput := Put_sat G [r] (by intro q hq; simp at hq; subst hq; exact hro) (by simp) (h ++ [.row 5 1 v (acc.map bytA)])
       have hen := enc_len r
       have hfm : [r].flatMap enc = enc r := by simp
       rw [hfm] at hput
       change Sat _ _ [.sl 1 [.int .i32 r]] _ _ at hput
       refine (hput).mono ?_
       rintro r h' ⟨rfl, rfl⟩
       try refine sq8 e3 e4 hy e5 b8 hz9 z8 z9 ?_
       (repeat (first | refine w1 (fun K hK => ?_) | refine w2 ?_ | refine w3 ?_ | ((first | refine w4 ?_ | refine w5 ?_ | refine w6 ?_ | refine w7 ?_); try refine sq8 e3 e4 hy e5 b8 hz9 z8 z9 ?_) | (refine w8 ?_; refine sq8 e3 e4 hy e5 b8 hz9 z8 z9 ?_; refine w9 ?_) | (refine rq8 e3 e4 hy e5 b8 hz9 z8 z9 ?_; try refine sq8 e3 e4 hy e5 b8 hz9 z8 z9 ?_) | (refine vq8 e3 e4 hy e5 b8 hz9 z8 z9 ?_; try refine sq8 e3 e4 hy e5 b8 hz9 z8 z9 ?_) | ((first | refine hK _ _ (w0 ?_) | (clear hK K; refine hK _ _ (w0 ?_)) | (clear hK K; clear hK K; refine hK _ _ (w0 ?_))); clear hK K)))
       refine aq8 e3 e4 hy e5 b8 hz9 z8 z9 ?_
       try refine sq8 e3 e4 hy e5 b8 hz9 z8 z9 ?_
       (repeat (first | refine w1 (fun K hK => ?_) | refine w2 ?_ | refine w3 ?_ | ((first | refine w4 ?_ | refine w5 ?_ | refine w6 ?_ | refine w7 ?_); try refine sq8 e3 e4 hy e5 b8 hz9 z8 z9 ?_) | (refine w8 ?_; refine sq8 e3 e4 hy e5 b8 hz9 z8 z9 ?_; refine w9 ?_) | (refine rq8 e3 e4 hy e5 b8 hz9 z8 z9 ?_; try refine sq8 e3 e4 hy e5 b8 hz9 z8 z9 ?_) | (refine vq8 e3 e4 hy e5 b8 hz9 z8 z9 ?_; try refine sq8 e3 e4 hy e5 b8 hz9 z8 z9 ?_) | ((first | refine hK _ _ (w0 ?_) | (clear hK K; refine hK _ _ (w0 ?_)) | (clear hK K; clear hK K; refine hK _ _ (w0 ?_))); clear hK K)))
       refine hK2 _ _ _ (Wkn.refl ⟨i + (1 + m) + 1, v + 1, acc ++ enc r, rfl, by simp [bytA], ?_, ?_, by omega, by rw [← hp, show i + (1 + m) + 1 = i + 1 + (m + 1) by omega]; simp, by simp; omega⟩) (by omega)
       all_goals first | exact zq8 e3 e4 hy e5 b8 hz9 z8 z9 | rfl | omega | trivial | skip
      ·have hno : rdE (38 :: s.drop (i + 1)) = 38 :: rdE (s.drop (i + 1)) := by
        rw [hamp, if_neg (by simp [g3])]
       rw [hno] at hp
       refine aq8 e3 e4 hy e5 b8 hz9 z8 z9 ?_
       try refine sq8 e3 e4 hy e5 b8 hz9 z8 z9 ?_
       (repeat (first | refine w1 (fun K hK => ?_) | refine w2 ?_ | refine w3 ?_ | ((first | refine w4 ?_ | refine w5 ?_ | refine w6 ?_ | refine w7 ?_); try refine sq8 e3 e4 hy e5 b8 hz9 z8 z9 ?_) | (refine w8 ?_; refine sq8 e3 e4 hy e5 b8 hz9 z8 z9 ?_; refine w9 ?_) | (refine rq8 e3 e4 hy e5 b8 hz9 z8 z9 ?_; try refine sq8 e3 e4 hy e5 b8 hz9 z8 z9 ?_) | (refine vq8 e3 e4 hy e5 b8 hz9 z8 z9 ?_; try refine sq8 e3 e4 hy e5 b8 hz9 z8 z9 ?_) | ((first | refine hK _ _ (w0 ?_) | (clear hK K; refine hK _ _ (w0 ?_)) | (clear hK K; clear hK K; refine hK _ _ (w0 ?_))); clear hK K)))
       refine hK2 _ _ _ (Wkn.refl ⟨i + 1, v + 1, acc ++ [y], rfl, (by first | rfl | (simp; done) | (simp; rfl)), ?_, ?_, by omega, by rw [← hp, hy8]; simp, by simp; omega⟩) (by omega)
       all_goals first | exact zq8 e3 e4 hy e5 b8 hz9 z8 z9 | rfl | omega | trivial | skip
     ·exfalso; omega
    ·have z8 : ((z.toNat : Int) == 59) = false := by
      have : ¬ (z.toNat : Int) = 59 := fun e => hz59 (UInt8.toNat_inj.1 (by have : (z.toNat : Int) = ((59 : UInt8).toNat : Int) := e; omega))
      simpa using this
     have z9 : ((z.toNat : Int) != 59) = true := by rw [bne, z8]; rfl
     have h59' : ∀ j, j < m + 1 → ∀ c, (s.drop (i + 1))[j]? = some c → c ≠ 59 := fun j hj c hcj => by
      rcases Nat.lt_or_ge j m with h1 | h1
      ·exact h59 j h1 c hcj
      ·obtain rfl : j = m := by omega
       rw [hzd] at hcj; cases hcj; exact hz59
     skip
     try refine sq8 e3 e4 hy e5 b8 hz9 z8 z9 ?_
     (repeat (first | refine w1 (fun K hK => ?_) | refine w2 ?_ | refine w3 ?_ | ((first | refine w4 ?_ | refine w5 ?_ | refine w6 ?_ | refine w7 ?_); try refine sq8 e3 e4 hy e5 b8 hz9 z8 z9 ?_) | (refine w8 ?_; refine sq8 e3 e4 hy e5 b8 hz9 z8 z9 ?_; refine w9 ?_) | (refine rq8 e3 e4 hy e5 b8 hz9 z8 z9 ?_; try refine sq8 e3 e4 hy e5 b8 hz9 z8 z9 ?_) | (refine vq8 e3 e4 hy e5 b8 hz9 z8 z9 ?_; try refine sq8 e3 e4 hy e5 b8 hz9 z8 z9 ?_) | ((first | refine hK _ _ (w0 ?_) | (clear hK K; refine hK _ _ (w0 ?_)) | (clear hK K; clear hK K; refine hK _ _ (w0 ?_))); clear hK K)))
     refine cq8 e3 e4 hy e5 b8 hz9 z8 z9 (fun g3 => ?_) (fun g3 => ?_) <;> (try exact g3.elim) <;>
      (repeat (first | refine w1 (fun K hK => ?_) | refine w2 ?_ | refine w3 ?_ | ((first | refine w4 ?_ | refine w5 ?_ | refine w6 ?_ | refine w7 ?_); try refine sq8 e3 e4 hy e5 b8 hz9 z8 z9 ?_) | (refine w8 ?_; refine sq8 e3 e4 hy e5 b8 hz9 z8 z9 ?_; refine w9 ?_) | (refine rq8 e3 e4 hy e5 b8 hz9 z8 z9 ?_; try refine sq8 e3 e4 hy e5 b8 hz9 z8 z9 ?_) | (refine vq8 e3 e4 hy e5 b8 hz9 z8 z9 ?_; try refine sq8 e3 e4 hy e5 b8 hz9 z8 z9 ?_) | ((first | refine hK _ _ (w0 ?_) | (clear hK K; refine hK _ _ (w0 ?_)) | (clear hK K; clear hK K; refine hK _ _ (w0 ?_))); clear hK K)))
     ·refine hK3 _ _ _ (Wkn.refl ⟨m + 1, rfl, (by first | rfl | (simp; done) | (simp; rfl)), ?_, by omega, by omega, h59', fun hh => absurd hy8 hh⟩) (by omega)
      all_goals first | exact zq8 e3 e4 hy e5 b8 hz9 z8 z9 | rfl | omega | trivial | skip
     ·have hno : rdE (38 :: s.drop (i + 1)) = 38 :: rdE (s.drop (i + 1)) := by
       rw [hamp, if_neg]
       intro hcc
       simp only [Bool.and_eq_true, decide_eq_true_eq] at hcc
       have k1 := cut_from _ _ (m + 1) h59' hcc.1.1
       omega
      rw [hno] at hp
      (first | refine gq8 e3 e4 hy e5 b8 hz9 z8 z9 (fun g2 => ?_) (fun g2 => ?_) | refine pq8 e3 e4 hy e5 b8 hz9 z8 z9 (fun g2 => ?_) (fun g2 => ?_)) <;> (try exact g2.elim) <;> (try refine sq8 e3 e4 hy e5 b8 hz9 z8 z9 ?_) <;>
       (repeat (first | refine w1 (fun K hK => ?_) | refine w2 ?_ | refine w3 ?_ | ((first | refine w4 ?_ | refine w5 ?_ | refine w6 ?_ | refine w7 ?_); try refine sq8 e3 e4 hy e5 b8 hz9 z8 z9 ?_) | (refine w8 ?_; refine sq8 e3 e4 hy e5 b8 hz9 z8 z9 ?_; refine w9 ?_) | (refine rq8 e3 e4 hy e5 b8 hz9 z8 z9 ?_; try refine sq8 e3 e4 hy e5 b8 hz9 z8 z9 ?_) | (refine vq8 e3 e4 hy e5 b8 hz9 z8 z9 ?_; try refine sq8 e3 e4 hy e5 b8 hz9 z8 z9 ?_) | ((first | refine hK _ _ (w0 ?_) | (clear hK K; refine hK _ _ (w0 ?_)) | (clear hK K; clear hK K; refine hK _ _ (w0 ?_))); clear hK K)))
      ·refine aq8 e3 e4 hy e5 b8 hz9 z8 z9 ?_
       try refine sq8 e3 e4 hy e5 b8 hz9 z8 z9 ?_
       (repeat (first | refine w1 (fun K hK => ?_) | refine w2 ?_ | refine w3 ?_ | ((first | refine w4 ?_ | refine w5 ?_ | refine w6 ?_ | refine w7 ?_); try refine sq8 e3 e4 hy e5 b8 hz9 z8 z9 ?_) | (refine w8 ?_; refine sq8 e3 e4 hy e5 b8 hz9 z8 z9 ?_; refine w9 ?_) | (refine rq8 e3 e4 hy e5 b8 hz9 z8 z9 ?_; try refine sq8 e3 e4 hy e5 b8 hz9 z8 z9 ?_) | (refine vq8 e3 e4 hy e5 b8 hz9 z8 z9 ?_; try refine sq8 e3 e4 hy e5 b8 hz9 z8 z9 ?_) | ((first | refine hK _ _ (w0 ?_) | (clear hK K; refine hK _ _ (w0 ?_)) | (clear hK K; clear hK K; refine hK _ _ (w0 ?_))); clear hK K)))
       refine hK2 _ _ _ (Wkn.refl ⟨i + 1, v + 1, acc ++ [y], rfl, (by first | rfl | (simp; done) | (simp; rfl)), ?_, ?_, by omega, by rw [← hp, hy8]; simp, by simp; omega⟩) (by omega)
       all_goals first | exact zq8 e3 e4 hy e5 b8 hz9 z8 z9 | rfl | omega | trivial | skip
      ·exfalso; omega
   ·have hno : rdE (38 :: s.drop (i + 1)) = 38 :: rdE (s.drop (i + 1)) := by
     rw [hamp, if_neg]
     intro hcc
     simp only [Bool.and_eq_true] at hcc
     have k1 := cut_from _ _ m h59 hcc.1.1
     have k2 := cut_len _ _ hcc.1.1
     rw [List.length_drop] at k2
     simp only [List.length_cons, List.length_nil] at k2
     omega
    rw [hno] at hp
    have g1' : (decide (i + (1 + m) < s.length)) = false := by simpa using g1
    skip
    (first | refine gq6 e3 e4 hy e5 b8 g1' (fun g2 => ?_) (fun g2 => ?_) | refine pq6 e3 e4 hy e5 b8 g1' (fun g2 => ?_) (fun g2 => ?_)) <;> (try exact g2.elim) <;> (try refine sq6 e3 e4 hy e5 b8 g1' ?_) <;>
     (repeat (first | refine w1 (fun K hK => ?_) | refine w2 ?_ | refine w3 ?_ | ((first | refine w4 ?_ | refine w5 ?_ | refine w6 ?_ | refine w7 ?_); try refine sq6 e3 e4 hy e5 b8 g1' ?_) | (refine w8 ?_; refine sq6 e3 e4 hy e5 b8 g1' ?_; refine w9 ?_) | (refine rq6 e3 e4 hy e5 b8 g1' ?_; try refine sq6 e3 e4 hy e5 b8 g1' ?_) | (refine vq6 e3 e4 hy e5 b8 g1' ?_; try refine sq6 e3 e4 hy e5 b8 g1' ?_) | ((first | refine hK _ _ (w0 ?_) | (clear hK K; refine hK _ _ (w0 ?_)) | (clear hK K; clear hK K; refine hK _ _ (w0 ?_))); clear hK K)))
    ·exact absurd g2 (by simp)
    refine aq6 e3 e4 hy e5 b8 g1' ?_
    try refine sq6 e3 e4 hy e5 b8 g1' ?_
    (repeat (first | refine w1 (fun K hK => ?_) | refine w2 ?_ | refine w3 ?_ | ((first | refine w4 ?_ | refine w5 ?_ | refine w6 ?_ | refine w7 ?_); try refine sq6 e3 e4 hy e5 b8 g1' ?_) | (refine w8 ?_; refine sq6 e3 e4 hy e5 b8 g1' ?_; refine w9 ?_) | (refine rq6 e3 e4 hy e5 b8 g1' ?_; try refine sq6 e3 e4 hy e5 b8 g1' ?_) | (refine vq6 e3 e4 hy e5 b8 g1' ?_; try refine sq6 e3 e4 hy e5 b8 g1' ?_) | ((first | refine hK _ _ (w0 ?_) | (clear hK K; refine hK _ _ (w0 ?_)) | (clear hK K; clear hK K; refine hK _ _ (w0 ?_))); clear hK K)))
    refine hK2 _ _ _ (Wkn.refl ⟨i + 1, v + 1, acc ++ [y], rfl, (by first | rfl | (simp; done) | (simp; rfl)), ?_, ?_, by omega, by rw [← hp, hy8]; simp, by simp; omega⟩) (by omega)
    all_goals first | exact zq6 e3 e4 hy e5 b8 g1' | rfl | omega | trivial | skip
  ·have b8 : ((y.toNat : Int) == 38) = false := by
    have : ¬ (y.toNat : Int) = 38 := fun e => hy8 (UInt8.toNat_inj.1 (by have : (y.toNat : Int) = ((38 : UInt8).toNat : Int) := e; omega))
    simpa using this
   have hpl := rdE_cons y (s.drop (i + 1)) hy8
   rw [hpl] at hp
   skip
   (repeat (first | refine w1 (fun K hK => ?_) | refine w2 ?_ | refine w3 ?_ | ((first | refine w4 ?_ | refine w5 ?_ | refine w6 ?_ | refine w7 ?_); try refine sq5 e3 e4 hy e5 b8 ?_) | (refine w8 ?_; refine sq5 e3 e4 hy e5 b8 ?_; refine w9 ?_) | (refine rq5 e3 e4 hy e5 b8 ?_; try refine sq5 e3 e4 hy e5 b8 ?_) | (refine vq5 e3 e4 hy e5 b8 ?_; try refine sq5 e3 e4 hy e5 b8 ?_) | ((first | refine hK _ _ (w0 ?_) | (clear hK K; refine hK _ _ (w0 ?_)) | (clear hK K; clear hK K; refine hK _ _ (w0 ?_))); clear hK K)))
   refine aq5 e3 e4 hy e5 b8 ?_
   try refine sq5 e3 e4 hy e5 b8 ?_
   (repeat (first | refine w1 (fun K hK => ?_) | refine w2 ?_ | refine w3 ?_ | ((first | refine w4 ?_ | refine w5 ?_ | refine w6 ?_ | refine w7 ?_); try refine sq5 e3 e4 hy e5 b8 ?_) | (refine w8 ?_; refine sq5 e3 e4 hy e5 b8 ?_; refine w9 ?_) | (refine rq5 e3 e4 hy e5 b8 ?_; try refine sq5 e3 e4 hy e5 b8 ?_) | (refine vq5 e3 e4 hy e5 b8 ?_; try refine sq5 e3 e4 hy e5 b8 ?_) | ((first | refine hK _ _ (w0 ?_) | (clear hK K; refine hK _ _ (w0 ?_)) | (clear hK K; clear hK K; refine hK _ _ (w0 ?_))); clear hK K)))
   refine hK2 _ _ _ (Wkn.refl ⟨i + 1, v + 1, acc ++ [y], rfl, (by first | rfl | (simp; done) | (simp; rfl)), ?_, ?_, by omega, by rw [← hp]; simp, by simp; omega⟩) (by omega)
   all_goals first | exact zq5 e3 e4 hy e5 b8 | rfl | omega | trivial | skip
 ·rw [drop_nil_of hc, rdE_nil, List.append_nil] at hp
  have hb := bytesA_map acc
  have hel : elemsOf (h ++ [.row 5 1 v (acc.map bytA)]) 1 (.hs h.length v 0 acc.length true) = some (acc.map bytA) := by
   simp [elemsOf, getRow, List.take_of_length_le]
  skip
  (repeat (first | refine w1 (fun K hK => ?_) | refine w2 ?_ | refine w3 ?_ | ((first | refine w4 ?_ | refine w5 ?_ | refine w6 ?_ | refine w7 ?_); try refine sq5 e3 e4 hb hel @bytesStr_u8 ?_) | (refine w8 ?_; refine sq5 e3 e4 hb hel @bytesStr_u8 ?_; refine w9 ?_) | (refine rq5 e3 e4 hb hel @bytesStr_u8 ?_; try refine sq5 e3 e4 hb hel @bytesStr_u8 ?_) | (refine vq5 e3 e4 hb hel @bytesStr_u8 ?_; try refine sq5 e3 e4 hb hel @bytesStr_u8 ?_) | ((first | refine hK _ _ (w0 ?_) | (clear hK K; refine hK _ _ (w0 ?_)) | (clear hK K; clear hK K; refine hK _ _ (w0 ?_))); clear hK K)))
  first | refine (hQ _ _ ?_).1 | refine (hQ _ _ ?_).2
  refine sq5 e3 e4 hb hel @bytesStr_u8 ?_
  rw [← hp]
  exact Fin.plainE (j := _) rfl (.str _) ⟨rfl, rfl⟩
end Go.Av
namespace Go.Av
open Go.RowKit
section
variable {C : Ctx} {t : Env} {h : Heap}
theorem pre_sound4 {ops : Array Oper} {Q : Exit → Env → Heap → Prop} {k : Nat} {c : Nat → Nat → Bool} (D : PreOk ops k c) (md : Region.Mode) (hless : ∀ (j : Nat) (oj : Oper), ops[j]? = some oj → j < k → ∀ e ∈ oj.after, Region.binds md e = true → e.on < j) (hkn : k ≤ ops.size) {V : Nat → AVal} {t0 : Env} {h : Heap} {e : Nat} {oe : Oper} (hoe : ops[e]? = some oe) (hek : e < k) (hd : oe.dst = none)
  (hv : ∀ (i : Nat) (o : Oper), i < k → i ≠ e → ops[i]? = some o → ∀ KK : AVal → Heap → Prop, KK (V i) h → wpOperV C ops o (Av.T V (ops.toList.take k) t0 i) h KK)
  (he : wpOperV C ops oe (Av.T V (ops.toList.take k) t0 e) h fun _ h' => (∀ (i : Nat) (o : Oper), i < k → i ≠ e → ops[i]? = some o → ∀ KK : AVal → Heap → Prop, KK (V i) h' → wpOperV C ops o (Av.T V (ops.toList.take k) t0 i) h' KK) ∧
   RestM C ops Q md (ops.size - k) (listK ops.size k) (Av.T V (ops.toList.take k) t0 k) h') :
  ∀ (fuel n : Nat) (L : Array Bool) (s : Env), L.size = ops.size → left ops L = fuel → Closed ops L → (∀ j, j < ops.size → L.getD j false = true → j < k) → L.getD e false = false → Ag ops k V t0 (fun j => L.getD j false) s →
   WPix C ops Q (Region.linearise.go md ops fuel n L []) s h := by
 intro fuel
 induction fuel with
 | zero =>
  intro n L s hs hl cl hlt heun ag
  have := left_zero hs hl e (by omega)
  rw [heun] at this; cases this
 | succ fuel ih =>
  intro n L s hs hl cl hlt heun ag
  have hne : Region.ready md ops L ≠ [] := by
   have hmin : ∃ i, i < k ∧ L.getD i false = false ∧ ∀ j, j < i → L.getD j false = true := by
    obtain ⟨i, hi, hl⟩ : ∃ i, i < k ∧ L.getD i false = false := ⟨e, hek, heun⟩
    induction i using Nat.strongRecOn with
    | ind i ih =>
     by_cases hall : ∀ j, j < i → L.getD j false = true
     ·exact ⟨i, hi, hl, hall⟩
     ·have : ∃ j, j < i ∧ L.getD j false = false := Classical.byContradiction fun hno => hall fun j hj => by
       cases hlj : L.getD j false with
       | true => rfl
       | false => exact absurd ⟨j, hj, hlj⟩ hno
      obtain ⟨j, hj, hlj⟩ := this
      exact ih j hj (by omega) hlj
   obtain ⟨i, hi, hl, hall⟩ := hmin
   have hin : i < ops.size := by omega
   have h3 : i < L.size := by omega
   intro e
   have : i ∈ Region.ready md ops L := mem_ready.2 ⟨by simp [h3] at hl ⊢; exact hl, ops[i], Array.getElem?_eq_getElem hin, fun e he hb => hall _ (hless i _ (Array.getElem?_eq_getElem hin) hi e he hb)⟩
   rw [e] at this; cases this
  obtain ⟨i, hi, hmem⟩ := getElem?_mod hne n
  obtain ⟨hun, o, ho, hrd⟩ := mem_ready.1 hmem
  have hin := (Array.getElem?_eq_some_iff.1 ho).1
  have h3 : i < L.size := by omega
  have hun' : L.getD i false = false := by simp [h3] at hun ⊢; exact hun
  have hrd' : ∀ e ∈ o.after, Region.binds .any e = true → L.getD e.on false = true := fun e he hb => hrd e he (binds_any hb)
  have hik : i < k := by
   refine Nat.lt_of_not_le fun hle => ?_
   obtain ⟨e1, he1, hb, h1⟩ := D.sfx e i o ho hek hle
   have h2 := hrd' e1 he1 hb
   have hkl : L.getD e false = true := by
    rcases h1 with rfl | ⟨h4, h5, h6⟩
    ·exact h2
    ·have hoe : ops[e1.on]? = some ops[e1.on] := Array.getElem?_eq_getElem (by omega)
     exact D.bef cl e1.on _ hoe h4 e h5 h6 fun e' he' hb' => cl e1.on _ hoe h2 e' he' hb'
   rw [heun] at hkl; cases hkl
  rw [go_succ md ops fuel n L hi]
  simp only [WPix, ho]
  rw [wpOper_V]
  have hsees := D.sees cl ag ho hik hkn hun' hrd'
  rw [← wpOperV_congr (t := Av.T V (ops.toList.take k) t0 i) hsees]
  have agn : ∀ v, (v = V i ∨ o.dst = none) → Ag ops k V t0 (fun j => (L.setIfInBounds i true).getD j false) (put s o.dst v) := fun v hv1 => by
   have e1 : put s o.dst v = put s o.dst (V i) := by
    rcases hv1 with rfl | h1
    ·rfl
    ·rw [h1]; rfl
   rw [e1]
   refine D.ag_put ag ho hik fun j hj => ?_
   by_cases hji : i = j
   ·subst hji; simp [h3]
   ·rw [getD_set_ne false hji]
    have : (j == i) = false := by simp; exact fun e => hji e.symm
    rw [this, Bool.or_false]
  have hlt' : ∀ j, j < ops.size → (L.setIfInBounds i true).getD j false = true → j < k := fun j hj hlj => by
   by_cases hji : i = j
   ·subst hji; exact hik
   ·rw [getD_set_ne false hji] at hlj; exact hlt j hj hlj
  by_cases hk : i = e
  ·subst hk
   rw [hoe] at ho; cases ho
   refine wpOperV_mono he fun v h' ⟨hv2, hrest⟩ => ?_
   refine pre_sound2 D md hless hkn (V := V) (t0 := t0) (h := h') (fun j => j ≠ i) (fun j o hj hok KK hkk => ?_) hrest _ _ _ _ (by simpa using hs) (by have := left_set hs hin hun'; omega) (cl.set hoe hrd') hlt' (fun j hj hlj => ?_) (agn v (.inr hd))
   ·have hjk : j < k := by
     refine Nat.lt_of_not_le fun hle => ?_
     rw [List.getElem?_take, if_neg (by omega)] at hj; cases hj
    have hoj : ops[j]? = some o := by
     rw [List.getElem?_take, if_pos hjk] at hj
     simpa using hj
    exact hv2 j o hjk hok hoj KK hkk
   ·rintro rfl
    simp [h3] at hlj
  ·refine hv i o hik hk ho _ ?_
   refine ih _ _ _ (by simpa using hs) (by have := left_set hs hin hun'; omega) (cl.set ho hrd') hlt' ?_ (agn _ (.inl rfl))
   rw [getD_set_ne false hk]; exact heun
theorem T_set (V : Nat → AVal) (x : Oper) (hx : x.dst = none) : ∀ (l : List Oper) (t : Env) (e i : Nat), (∀ o, l[e]? = some o → o.dst = none) → Av.T V (l.set e x) t i = Av.T V l t i
 | [], t, e, i, _ => rfl
 | o :: l, t, 0, 0, _ => rfl
 | o :: l, t, 0, i + 1, h0 => by
  have := h0 o rfl
  simp only [List.set_cons_zero, Av.T, hx, this]
 | o :: l, t, e + 1, 0, _ => rfl
 | o :: l, t, e + 1, i + 1, h0 => by
  simp only [List.set_cons_succ, Av.T]
  exact T_set _ x hx l _ e i fun o h => h0 o (by simpa using h)
def nopO : Oper := { dst := none, op := .move (.const (.bool false)), type := 0, pos := "", after := #[], guard := none }
def wholeOk (l : List Oper) (e : Nat) : Bool :=
 preOkG false l.toArray l.length && (List.range l.length).all fun i => (i == e || (l[i]?.any fun o => o.dst.isSome)) &&
  (decide (i ≤ e) || (l[i]?.any fun o => l[e]?.any fun oe => o.dst.any fun d => !(oe.looksAt l.toArray).contains d))
theorem WP_draw7 {id : Nat} {l : List Oper} {Q : Exit → Env → Heap → Prop} (e : Nat) (oe : Oper) (hoe : l[e]? = some oe) (hd : oe.dst = none) (hok : wholeOk l e = true) (hm : C.P.follows .mixedOrders = true)
  (hh : WPp C l.toArray (l.set e nopO) t h fun t' => wpOperV C l.toArray oe t' h fun _ h' =>
   (WPp C l.toArray (l.set e nopO) t h' fun t'' => agrL (wrOps (l.set e nopO)) t'' t') ∧ Q .normal t' h') : WP C (.region id l.toArray true) Q t h := by
 unfold wholeOk at hok
 simp only [Bool.and_eq_true] at hok
 obtain ⟨hok, hall⟩ := hok
 have D := preOkG_spec hok
 have hall : ∀ i, i < l.length → (i = e ∨ ∃ o d, l[i]? = some o ∧ o.dst = some d) ∧ (e < i → ∀ o, l[i]? = some o → ∀ d, o.dst = some d → d ∉ oe.looksAt l.toArray) := fun i hi => by
  have := List.all_eq_true.1 hall i (List.mem_range.2 hi)
  simp only [Bool.and_eq_true, Bool.or_eq_true, beq_iff_eq, decide_eq_true_eq] at this
  refine ⟨?_, fun hei o ho d hdd hmem => by
   rcases this.2 with h1 | h1
   ·omega
   ·rw [ho, hoe] at h1
    simp [hdd, hmem] at h1⟩
  rcases this.1 with h1 | h1
  ·exact .inl h1
  ·have : l[i]? = some (l[i]'hi) := List.getElem?_eq_getElem _
   rw [this] at h1
   obtain ⟨d, h2⟩ := Option.isSome_iff_exists.1 (show (l[i]'hi).dst.isSome = true from h1)
   exact .inr ⟨_, d, this, h2⟩
 have hel := (List.getElem?_eq_some_iff.1 hoe).1
 have hset : ∀ i, i ≠ e → (l.set e nopO)[i]? = l[i]? := fun i hi => by rw [List.getElem?_set_ne (fun h => hi h.symm)]
 have hTs : ∀ (V : Nat → AVal) (i : Nat), Av.T V (l.set e nopO) t i = Av.T V l t i := fun V i => T_set V nopO rfl l t e i fun o ho => by rw [hoe] at ho; cases ho; exact hd
 obtain ⟨V, hv, hK⟩ := WPp_vals _ _ hh
 rw [List.length_set, hTs] at hK
 have htk : l.toArray.toList.take l.length = l := by simp
 have see : ∀ d ∈ oe.looksAt l.toArray, Av.T V l t l.length d = Av.T V l t e d := fun d hdd => by
  have : ∀ i, e ≤ i → i ≤ l.length → Av.T V l t i d = Av.T V l t e d := fun i => by
   induction i with
   | zero =>
    intro h1 _
    have h9 : e = 0 := by omega
    rw [h9]
   | succ i ih =>
    intro h1 h2
    by_cases hie : e = i + 1
    ·rw [hie]
    ·have ho : l[i]? = some (l[i]'(by omega)) := List.getElem?_eq_getElem _
     rw [T_succ _ _ _ _ _ ho]
     by_cases h3 : e = i
     ·subst h3
      rw [hoe] at ho
      rw [← Option.some.inj ho, hd]
      exact ih (Nat.le_refl _) (by omega)
     ·have h4 := (hall i (by omega)).2 (by omega) _ ho
      cases hdi : (l[i]'(by omega)).dst with
      | none => exact ih (by omega) (by omega)
      | some d1 =>
       have hne : d ≠ d1 := by
        rintro rfl
        exact h4 _ hdi hdd
       have : put (Av.T V l t i) (some d1) (V i) d = Av.T V l t i d := by simp [put, upd, hne]
       rw [this]
       exact ih (by omega) (by omega)
  exact this _ (by omega) (Nat.le_refl _)
 rw [wpOperV_congr see] at hK
 have main : ∀ n, WPix C l.toArray Q (Region.linearise .any l.toArray n) t h := fun n => by
  unfold Region.linearise
  refine pre_sound4 D .any D.less (by simp) (V := V) (t0 := t) (e := e) (oe := oe) (by simpa using hoe) hel hd (fun i o hi hie ho => ?_) ?_ _ _ _ _ (by simp) ?_ (fun j oj hj hl => ?_) (fun j hj hl => ?_) (by simp [hel]) (Ag.start _ _ _ _ fun j hj => ?_)
  ·have := hv i o (by rw [hset i hie]; simpa using ho)
   rw [hTs] at this
   rw [htk]; exact this
  ·rw [htk]
   refine wpOperV_mono hK fun v h' ⟨h1, h2⟩ => ⟨fun i o hi hie ho => ?_, ?_⟩
   ·obtain ⟨V2, hv2, hK2⟩ := WPp_vals _ _ h1
    rw [List.length_set, hTs] at hK2
    have hVV : ∀ j, j < l.length → j ≠ e → V2 j = V j := fun j hj hje => by
     rcases (hall j hj).1 with h3 | ⟨o, d, hoj, hdd⟩
     ·exact absurd h3 hje
     ·have e1 := agrL_mem hK2 d (dst_mem (by rw [hset j hje]; exact hoj) hdd)
      have a1 := (D.ag_T V2 t (by simp) l.length (Nat.le_refl _)).1 j o d hj (by simpa using hoj) (by simpa using hj) hdd
      have a2 := (D.ag_T V t (by simp) l.length (Nat.le_refl _)).1 j o d hj (by simpa using hoj) (by simpa using hj) hdd
      rw [htk] at a1 a2
      rw [← a1, ← a2, e1]
    have hTT : ∀ i, i ≤ l.length → Av.T V2 l t i = Av.T V l t i := fun i => by
     induction i with
     | zero => intro _; rw [T_zero, T_zero]
     | succ i ih =>
      intro h3
      have ho : l[i]? = some (l[i]'(by omega)) := List.getElem?_eq_getElem _
      rw [T_succ _ _ _ _ _ ho, T_succ _ _ _ _ _ ho, ih (by omega)]
      by_cases hie : i = e
      ·subst hie
       rw [hoe] at ho
       rw [← Option.some.inj ho, hd]; rfl
      ·rw [hVV i (by omega) hie]
    have := hv2 i o (by rw [hset i hie]; simpa using ho)
    rw [hTs, hTT i (by omega), hVV i hi hie] at this
    exact this
   ·have e1 : l.toArray.size - l.length = 0 := by simp
    rw [e1]
    exact Rest.nil h2 .any
  ·unfold left
   have : (List.range l.toArray.size).filter (fun i => !(Array.replicate l.toArray.size false).getD i true) = List.range l.toArray.size := by
    rw [List.filter_eq_self]
    intro i hi
    have := List.mem_range.1 hi
    simp at this ⊢
    simp [this]
   rw [this, List.length_range]
  ·have h8 := (Array.getElem?_eq_some_iff.1 hj).1
   simp at h8 hl
   simp [h8] at hl
  ·simp at hj hl
   simp [hj] at hl
  ·have : j < l.length := by omega
   simp [this]
 show ∀ tp, WPix C l.toArray Q (Region.schedule (C.P.follows .mixedOrders) l.toArray tp) t h
 intro tp
 unfold Region.schedule
 rw [hm]
 simp only [Bool.true_or, if_true]
 exact main _
end
end Go.Av
namespace Go.Av
open Go Go.Proofs Go.RowKit
attribute [local irreducible] WP WPl WPix Sat
set_option maxRecDepth 100000
set_option maxHeartbeats 1000000
variable {G : Nat → Option (List AVal)}
theorem mix_y (G : Nat → Option (List AVal)) : (CT G).P.follows .mixedOrders = true := by kernel_rfl
theorem wpOperV_store {C : Ctx} {ops : Array Oper} {T : TypeId} {x y : Operand} {ty : TypeId} {pos : String} {aft : Array Edge} {dst : Option Tmp} {t : Env} {h : Heap} {K : AVal → Heap → Prop} :
  wpOperV C ops ⟨dst, .store T x y, ty, pos, aft, none⟩ t h K = storeK C T (aev C.G t x) (aev C.G t y) h (fun h' => K undefA h') := rfl
theorem uptoF_ix (w s : Bs) (b : Bool) : (Lib.index s w < 0 ∧ uptoF w s b = ([], s, true)) ∨ ∃ m : Nat, Lib.index s w = m ∧ m + w.length ≤ s.length ∧ uptoF w s b = (s.take m, s.drop (m + w.length), b) := by
 unfold uptoF Lib.cut
 by_cases h0 : 0 ≤ Lib.index s w
 ·right
  have hr := Lib.index_room s w h0
  rcases Lib.index_spec s w with ⟨e, _⟩ | ⟨i, e, hi, ho, _⟩
  ·omega
  ·refine ⟨i, e, by omega, ?_⟩
   rw [if_pos h0, e]; rfl
 ·left
  rw [if_neg h0]; exact ⟨by omega, rfl⟩
theorem contains_ix (s w : Bs) : Lib.contains s w = decide (0 ≤ Lib.index s w) := rfl
theorem valueF_q (c : UInt8) (t : Bs) (hc : c = 34 ∨ c = 39) : valueF (c :: t) false = (rdE (uptoF [c] t false).1, (uptoF [c] t false).2.1, (uptoF [c] t false).2.2 || Lib.contains (uptoF [c] t false).1 [60]) := by
 have h34 : Lib.hasPrefix (c :: t) [34] = (c == 34) := by simp [Lib.hasPrefix, List.isPrefixOf, Bool.beq_comm, eq_comm]
 have h39 : Lib.hasPrefix (c :: t) [39] = (c == 39) := by simp [Lib.hasPrefix, List.isPrefixOf, Bool.beq_comm, eq_comm]
 rcases hc with rfl | rfl
 ·unfold valueF
  simp only [h34]
  simp [Lib.trimPrefix, Lib.hasPrefix, List.isPrefixOf, rdE]
 ·unfold valueF
  simp only [h34]
  simp [Lib.trimPrefix, Lib.hasPrefix, List.isPrefixOf, rdE]
theorem valueF_no (s : Bs) (h1 : Lib.hasPrefix s [34] = false) (h2 : Lib.hasPrefix s [39] = false) : (valueF s false).2.2 = true := by
 unfold valueF
 simp only [h1, Bool.false_eq_true, if_false, h2, Bool.not_false, Bool.or_true, uptoF_bad, Bool.true_or]
theorem attrX_bad (s : Bs) (h : badN (nameW s) = true) : (attrX s false).2.2 = true := by
 cases hq : (attrX s false).2.2 with
 | true => rfl
 | false => rw [attrX_good s hq] at h; cases h
theorem attrX_eq (s : Bs) (h : badN (nameW s) = false) : attrX s false = if Lib.hasPrefix ((nameR s).dropWhile blankB) [61] = false then ((nameW s, []), (Lib.trimPrefix ((nameR s).dropWhile blankB) [61]).dropWhile blankB, true)
  else ((nameW s, (valueF ((Lib.trimPrefix ((nameR s).dropWhile blankB) [61]).dropWhile blankB) false).1), (valueF ((Lib.trimPrefix ((nameR s).dropWhile blankB) [61]).dropWhile blankB) false).2) := by
 unfold attrX
 simp only [h]
 cases hq : Lib.hasPrefix ((nameR s).dropWhile blankB) [61] <;> simp
theorem badN_nil (n : Bs) (h : badN n = false) : n ≠ [] := by rintro rfl; cases h
theorem rattr_sat (hG : GOk G) (hC : GClo (CT G)) (s : Bs) (hs : s.length ≤ 1048576) (h : Heap) : Sat (CT G) 140 [.str s] h
  (fun r h' => ∃ (a : At) (rest : Bs), r = .tup [a.av, .str rest, .bool (!(attrX s false).2.2)] ∧ ((attrX s false).2.2 = false → a = (attrX s false).1 ∧ rest = (attrX s false).2.1) ∧ h' = h) := by
 have bad : ∀ j : Heap, (attrX s false).2.2 = true → Fin h (h ++ j) (fun r h' => ∃ (a : At) (rest : Bs), r = .tup [a.av, .str rest, .bool (!(attrX s false).2.2)] ∧ ((attrX s false).2.2 = false → a = (attrX s false).1 ∧ rest = (attrX s false).2.1) ∧ h' = h)
   (.tup [.agg [.str [], .str []], .str [], .bool false]) := fun j e => by
  refine Fin.plain (.tup _ (by intro c hc; simp at hc; rcases hc with rfl | rfl | rfl; exact At.clo _ ([], []); exact .str _; exact .bool _)) ⟨([], []), [], by rw [e]; rfl, (fun e2 => by rw [e] at e2; cases e2), rfl⟩
 have h1 : (nameR s).length ≤ s.length := drop_len _ _
 have h2 := drop_len blankB (nameR s)
 have hn := rname_sat hG hC s (by omega)
 cases hb : badN (nameW s) with
 | true =>
  have e : nmR s = ([], s) := by unfold nmR; rw [if_pos hb]
  have h3 := drop_len blankB s
  have he : (([] : Bs) == []) = true := rfl
  rw [e] at hn
  skip
  refine Sat.body [.cell 2 67, .tmp 3, .tmp 4] (fn := Tryz.f140) Tryz.func140 rfl rfl (by kernel_rfl) (by kernel_rfl) (by kernel_rfl) rfl ?_
  intro Q hQ
  (repeat (first | refine w1 (fun K hK => ?_) | refine w2 ?_ | refine w3 ?_ | ((first | refine w4 ?_ | refine WP_draw 11 (by decide +kernel) ?_ | refine WP_draw 6 (by decide +kernel) ?_ | refine w5 ?_ | refine w6 ?_ | refine w7 ?_); try refine sq1 he ?_) | (refine w8 ?_; refine sq1 he ?_; refine w9 ?_) | ((first | refine hK _ _ (w0 ?_) | (clear hK K; refine hK _ _ (w0 ?_)) | (clear hK K; clear hK K; refine hK _ _ (w0 ?_))); clear hK K)))
  refine (hn _).mono ?_
  rintro r h' ⟨rfl, rfl⟩
  try refine sq1 he ?_
  (repeat (first | refine w1 (fun K hK => ?_) | refine w2 ?_ | refine w3 ?_ | ((first | refine w4 ?_ | refine WP_draw 11 (by decide +kernel) ?_ | refine WP_draw 6 (by decide +kernel) ?_ | refine w5 ?_ | refine w6 ?_ | refine w7 ?_); try refine sq1 he ?_) | (refine w8 ?_; refine sq1 he ?_; refine w9 ?_) | ((first | refine hK _ _ (w0 ?_) | (clear hK K; refine hK _ _ (w0 ?_)) | (clear hK K; clear hK K; refine hK _ _ (w0 ?_))); clear hK K)))
  refine (rblanks_sat hG hC s (by omega) _).mono ?_
  rintro r h' ⟨rfl, rfl⟩
  try refine sq1 he ?_
  (repeat (first | refine w1 (fun K hK => ?_) | refine w2 ?_ | refine w3 ?_ | ((first | refine w4 ?_ | refine WP_draw 11 (by decide +kernel) ?_ | refine WP_draw 6 (by decide +kernel) ?_ | refine w5 ?_ | refine w6 ?_ | refine w7 ?_); try refine sq1 he ?_) | (refine w8 ?_; refine sq1 he ?_; refine w9 ?_) | ((first | refine hK _ _ (w0 ?_) | (clear hK K; refine hK _ _ (w0 ?_)) | (clear hK K; clear hK K; refine hK _ _ (w0 ?_))); clear hK K)))
  first | refine (hQ _ _ ?_).1 | refine (hQ _ _ ?_).2
  simp (disch := first | omega | (simp only [go_sem, ↓reduceIte, seval]; first | done | omega) | fail) only [go_sem, ↓reduceIte, seval, he, resA, resL, resA1]
  exact bad _ (attrX_bad s hb)
 | false =>
  have e : nmR s = (nameW s, nameR s) := by unfold nmR; rw [if_neg (by simp [hb])]
  have hne : (nameW s == []) = false := by simpa using badN_nil _ hb
  have hx := attrX_eq s hb
  have h3 := trim_len ((nameR s).dropWhile blankB) [61]
  have h4 := drop_len blankB (Lib.trimPrefix ((nameR s).dropWhile blankB) [61])
  rw [e] at hn
  skip
  refine Sat.body [.cell 2 67, .tmp 3, .tmp 4] (fn := Tryz.f140) Tryz.func140 rfl rfl (by kernel_rfl) (by kernel_rfl) (by kernel_rfl) rfl ?_
  intro Q hQ
  (repeat (first | refine w1 (fun K hK => ?_) | refine w2 ?_ | refine w3 ?_ | ((first | refine w4 ?_ | refine WP_draw 11 (by decide +kernel) ?_ | refine WP_draw 6 (by decide +kernel) ?_ | refine w5 ?_ | refine w6 ?_ | refine w7 ?_); try refine sq1 hne ?_) | (refine w8 ?_; refine sq1 hne ?_; refine w9 ?_) | ((first | refine hK _ _ (w0 ?_) | (clear hK K; refine hK _ _ (w0 ?_)) | (clear hK K; clear hK K; refine hK _ _ (w0 ?_))); clear hK K)))
  refine (hn _).mono ?_
  rintro r h' ⟨rfl, rfl⟩
  try refine sq1 hne ?_
  (repeat (first | refine w1 (fun K hK => ?_) | refine w2 ?_ | refine w3 ?_ | ((first | refine w4 ?_ | refine WP_draw 11 (by decide +kernel) ?_ | refine WP_draw 6 (by decide +kernel) ?_ | refine w5 ?_ | refine w6 ?_ | refine w7 ?_); try refine sq1 hne ?_) | (refine w8 ?_; refine sq1 hne ?_; refine w9 ?_) | ((first | refine hK _ _ (w0 ?_) | (clear hK K; refine hK _ _ (w0 ?_)) | (clear hK K; clear hK K; refine hK _ _ (w0 ?_))); clear hK K)))
  refine (rblanks_sat hG hC (nameR s) (by omega) _).mono ?_
  rintro r h' ⟨rfl, rfl⟩
  try refine sq1 hne ?_
  (repeat (first | refine w1 (fun K hK => ?_) | refine w2 ?_ | refine w3 ?_ | ((first | refine w4 ?_ | refine WP_draw 11 (by decide +kernel) ?_ | refine WP_draw 6 (by decide +kernel) ?_ | refine w5 ?_ | refine w6 ?_ | refine w7 ?_); try refine sq1 hne ?_) | (refine w8 ?_; refine sq1 hne ?_; refine w9 ?_) | ((first | refine hK _ _ (w0 ?_) | (clear hK K; refine hK _ _ (w0 ?_)) | (clear hK K; clear hK K; refine hK _ _ (w0 ?_))); clear hK K)))
  refine (rhas_sat ((nameR s).dropWhile blankB) [61] _).mono ?_
  rintro r h' ⟨rfl, rfl⟩
  try refine sq1 hne ?_
  (repeat (first | refine w1 (fun K hK => ?_) | refine w2 ?_ | refine w3 ?_ | ((first | refine w4 ?_ | refine WP_draw 11 (by decide +kernel) ?_ | refine WP_draw 6 (by decide +kernel) ?_ | refine w5 ?_ | refine w6 ?_ | refine w7 ?_); try refine sq1 hne ?_) | (refine w8 ?_; refine sq1 hne ?_; refine w9 ?_) | ((first | refine hK _ _ (w0 ?_) | (clear hK K; refine hK _ _ (w0 ?_)) | (clear hK K; clear hK K; refine hK _ _ (w0 ?_))); clear hK K)))
  generalize (nameR s).dropWhile blankB = s2 at hx h2 h3 h4 ⊢
  refine cq1 hne (fun c1 => ?_) (fun c1 => ?_) <;> (try exact c1.elim) <;>
   (repeat (first | refine w1 (fun K hK => ?_) | refine w2 ?_ | refine w3 ?_ | ((first | refine w4 ?_ | refine WP_draw 11 (by decide +kernel) ?_ | refine WP_draw 6 (by decide +kernel) ?_ | refine w5 ?_ | refine w6 ?_ | refine w7 ?_); try refine sq1 hne ?_) | (refine w8 ?_; refine sq1 hne ?_; refine w9 ?_) | ((first | refine hK _ _ (w0 ?_) | (clear hK K; refine hK _ _ (w0 ?_)) | (clear hK K; clear hK K; refine hK _ _ (w0 ?_))); clear hK K)))
  ·rw [if_pos c1] at hx
   first | refine (hQ _ _ ?_).1 | refine (hQ _ _ ?_).2
   simp (disch := first | omega | (simp only [go_sem, ↓reduceIte, seval]; first | done | omega) | fail) only [go_sem, ↓reduceIte, seval, hne, resA, resL, resA1]
   exact bad _ (by rw [hx])
  ·rw [if_neg (by simp [c1])] at hx
   have h5 : s2.drop 1 = Lib.trimPrefix s2 [61] := by unfold Lib.trimPrefix; rw [if_pos c1]; rfl
   have h6 : (1 : Int) ≤ s2.length := by have := has_len s2 [61] c1; simp at this; omega
   skip
   try refine sq2 hne h6 ?_
   (repeat (first | refine w1 (fun K hK => ?_) | refine w2 ?_ | refine w3 ?_ | ((first | refine w4 ?_ | refine WP_draw 11 (by decide +kernel) ?_ | refine WP_draw 6 (by decide +kernel) ?_ | refine w5 ?_ | refine w6 ?_ | refine w7 ?_); try refine sq2 hne h6 ?_) | (refine w8 ?_; refine sq2 hne h6 ?_; refine w9 ?_) | ((first | refine hK _ _ (w0 ?_) | (clear hK K; refine hK _ _ (w0 ?_)) | (clear hK K; clear hK K; refine hK _ _ (w0 ?_))); clear hK K)))
   rw [h5]
   refine (rblanks_sat hG hC (Lib.trimPrefix s2 [61]) (by omega) _).mono ?_
   rintro r h' ⟨rfl, rfl⟩
   try refine sq2 hne h6 ?_
   (repeat (first | refine w1 (fun K hK => ?_) | refine w2 ?_ | refine w3 ?_ | ((first | refine w4 ?_ | refine WP_draw 11 (by decide +kernel) ?_ | refine WP_draw 6 (by decide +kernel) ?_ | refine w5 ?_ | refine w6 ?_ | refine w7 ?_); try refine sq2 hne h6 ?_) | (refine w8 ?_; refine sq2 hne h6 ?_; refine w9 ?_) | ((first | refine hK _ _ (w0 ?_) | (clear hK K; refine hK _ _ (w0 ?_)) | (clear hK K; clear hK K; refine hK _ _ (w0 ?_))); clear hK K)))
   generalize (Lib.trimPrefix s2 [61]).dropWhile blankB = s4 at hx h4 ⊢
   cases s4 with
   | nil =>
    try refine sq2 hne h6 ?_
    (repeat (first | refine w1 (fun K hK => ?_) | refine w2 ?_ | refine w3 ?_ | ((first | refine w4 ?_ | refine WP_draw 11 (by decide +kernel) ?_ | refine WP_draw 6 (by decide +kernel) ?_ | refine w5 ?_ | refine w6 ?_ | refine w7 ?_); try refine sq2 hne h6 ?_) | (refine w8 ?_; refine sq2 hne h6 ?_; refine w9 ?_) | ((first | refine hK _ _ (w0 ?_) | (clear hK K; refine hK _ _ (w0 ?_)) | (clear hK K; clear hK K; refine hK _ _ (w0 ?_))); clear hK K)))
    first | refine (hQ _ _ ?_).1 | refine (hQ _ _ ?_).2
    simp (disch := first | omega | (simp only [go_sem, ↓reduceIte, seval]; first | done | omega) | fail) only [go_sem, ↓reduceIte, seval, hne, h6, resA, resL, resA1]
    exact bad _ (by rw [hx]; exact valueF_no [] rfl rfl)
   | cons c t =>
    have hl : (((t.length + 1 : Nat) : Int) == 0) = false := by simp; omega
    have h00 : (c :: t)[0]? = some c := rfl
    have ht : t.length ≤ 1048576 := by simp at h4; omega
    skip
    by_cases q4 : c = 34
    ·subst q4
     have n4 : ((UInt8.toNat 34 : Int) != 34) = false := rfl
     have hq := valueF_q 34 t (.inl rfl)
     skip
     try refine sq5 hne h6 hl h00 n4 ?_
     (repeat (first | refine w1 (fun K hK => ?_) | refine w2 ?_ | refine w3 ?_ | ((first | refine w4 ?_ | refine WP_draw 11 (by decide +kernel) ?_ | refine WP_draw 6 (by decide +kernel) ?_ | refine w5 ?_ | refine w6 ?_ | refine w7 ?_); try refine sq5 hne h6 hl h00 n4 ?_) | (refine w8 ?_; refine sq5 hne h6 hl h00 n4 ?_; refine w9 ?_) | ((first | refine hK _ _ (w0 ?_) | (clear hK K; refine hK _ _ (w0 ?_)) | (clear hK K; clear hK K; refine hK _ _ (w0 ?_))); clear hK K)))
     refine ⟨_, rfind_sat t [34] (by omega) (by simp) _, ?_⟩
     try refine sq5 hne h6 hl h00 n4 ?_
     (repeat (first | refine w1 (fun K hK => ?_) | refine w2 ?_ | refine w3 ?_ | ((first | refine w4 ?_ | refine WP_draw 11 (by decide +kernel) ?_ | refine WP_draw 6 (by decide +kernel) ?_ | refine w5 ?_ | refine w6 ?_ | refine w7 ?_); try refine sq5 hne h6 hl h00 n4 ?_) | (refine w8 ?_; refine sq5 hne h6 hl h00 n4 ?_; refine w9 ?_) | ((first | refine hK _ _ (w0 ?_) | (clear hK K; refine hK _ _ (w0 ?_)) | (clear hK K; clear hK K; refine hK _ _ (w0 ?_))); clear hK K)))
     rcases uptoF_ix [34] t false with ⟨g1, g2⟩ | ⟨m, g1, g2, g3⟩
     ·have b1 : decide (Lib.index t [34] < 0) = true := by simpa using g1
      skip
      try refine sq6 hne h6 hl h00 n4 b1 ?_
      (repeat (first | refine w1 (fun K hK => ?_) | refine w2 ?_ | refine w3 ?_ | ((first | refine w4 ?_ | refine WP_draw 11 (by decide +kernel) ?_ | refine WP_draw 6 (by decide +kernel) ?_ | refine w5 ?_ | refine w6 ?_ | refine w7 ?_); try refine sq6 hne h6 hl h00 n4 b1 ?_) | (refine w8 ?_; refine sq6 hne h6 hl h00 n4 b1 ?_; refine w9 ?_) | ((first | refine hK _ _ (w0 ?_) | (clear hK K; refine hK _ _ (w0 ?_)) | (clear hK K; clear hK K; refine hK _ _ (w0 ?_))); clear hK K)))
      first | refine (hQ _ _ ?_).1 | refine (hQ _ _ ?_).2
      simp (disch := first | omega | (simp only [go_sem, ↓reduceIte, seval]; first | done | omega) | fail) only [go_sem, ↓reduceIte, seval, hne, h6, hl, h00, n4, b1, resA, resL, resA1]
      exact bad _ (by rw [hx, hq, g2]; rfl)
     ·rw [g1]
      have b1 : decide ((m : Int) < 0) = false := by simp
      simp only [List.length_cons, List.length_nil] at g2
      skip
      try refine sq6 hne h6 hl h00 n4 b1 ?_
      (repeat (first | refine w1 (fun K hK => ?_) | refine w2 ?_ | refine w3 ?_ | ((first | refine w4 ?_ | refine WP_draw 11 (by decide +kernel) ?_ | refine WP_draw 6 (by decide +kernel) ?_ | refine w5 ?_ | refine w6 ?_ | refine w7 ?_); try refine sq6 hne h6 hl h00 n4 b1 ?_) | (refine w8 ?_; refine sq6 hne h6 hl h00 n4 b1 ?_; refine w9 ?_) | ((first | refine hK _ _ (w0 ?_) | (clear hK K; refine hK _ _ (w0 ?_)) | (clear hK K; clear hK K; refine hK _ _ (w0 ?_))); clear hK K)))
      have e1 : (1 + (m : Int)).toNat = m + 1 := by omega
      have e2 : List.drop 1 (List.take (m + 1) (34 :: t)) = t.take m := rfl
      have e3 : (2 + (m : Int)).toNat = m + 1 + 1 := by omega
      have e4 : List.drop (m + 1 + 1) (34 :: t) = t.drop (m + 1) := rfl
      have hl5 : (t.take m).length = m := by rw [List.length_take]; omega
      rw [g3] at hq
      rw [e1, e2]
      refine (rfind_sat (t.take m) [60] (by omega) (by simp) _).mono ?_
      rintro r h' ⟨rfl, rfl⟩
      try refine sq6 hne h6 hl h00 n4 b1 ?_
      (repeat (first | refine w1 (fun K hK => ?_) | refine w2 ?_ | refine w3 ?_ | ((first | refine w4 ?_ | refine WP_draw 11 (by decide +kernel) ?_ | refine WP_draw 6 (by decide +kernel) ?_ | refine w5 ?_ | refine w6 ?_ | refine w7 ?_); try refine sq6 hne h6 hl h00 n4 b1 ?_) | (refine w8 ?_; refine sq6 hne h6 hl h00 n4 b1 ?_; refine w9 ?_) | ((first | refine hK _ _ (w0 ?_) | (clear hK K; refine hK _ _ (w0 ?_)) | (clear hK K; clear hK K; refine hK _ _ (w0 ?_))); clear hK K)))
      cases hct : Lib.contains (t.take m) [60] with
      | true =>
       have b2 : decide (0 ≤ Lib.index (t.take m) [60]) = true := hct
       skip
       (repeat (first | refine w1 (fun K hK => ?_) | refine w2 ?_ | refine w3 ?_ | ((first | refine w4 ?_ | refine WP_draw 11 (by decide +kernel) ?_ | refine WP_draw 6 (by decide +kernel) ?_ | refine w5 ?_ | refine w6 ?_ | refine w7 ?_); try refine sq7 hne h6 hl h00 n4 b1 b2 ?_) | (refine w8 ?_; refine sq7 hne h6 hl h00 n4 b1 b2 ?_; refine w9 ?_) | ((first | refine hK _ _ (w0 ?_) | (clear hK K; refine hK _ _ (w0 ?_)) | (clear hK K; clear hK K; refine hK _ _ (w0 ?_))); clear hK K)))
       first | refine (hQ _ _ ?_).1 | refine (hQ _ _ ?_).2
       simp (disch := first | omega | (simp only [go_sem, ↓reduceIte, seval]; first | done | omega) | fail) only [go_sem, ↓reduceIte, seval, hne, h6, hl, h00, n4, b1, b2, resA, resL, resA1]
       exact bad _ (by rw [hx, hq]; simp [hct])
      | false =>
       have b2 : decide (0 ≤ Lib.index (t.take m) [60]) = false := hct
       skip
       (repeat (first | refine w1 (fun K hK => ?_) | refine w2 ?_ | refine w3 ?_ | ((first | refine w4 ?_ | refine WP_draw 11 (by decide +kernel) ?_ | refine WP_draw 6 (by decide +kernel) ?_ | refine w5 ?_ | refine w6 ?_ | refine w7 ?_); try refine sq11 hne h6 hl h00 n4 b1 b2 e1 e2 e3 e4 ?_) | (refine w8 ?_; refine sq11 hne h6 hl h00 n4 b1 b2 e1 e2 e3 e4 ?_; refine w9 ?_) | ((first | refine hK _ _ (w0 ?_) | (clear hK K; refine hK _ _ (w0 ?_)) | (clear hK K; clear hK K; refine hK _ _ (w0 ?_))); clear hK K)))
       refine WP_draw5 11 11 _ (by rfl) (by decide +kernel) (by kernel_rfl) (by decide +kernel) (by decide +kernel) (by decide +kernel) ?_
       simp only [List.take_succ_cons, List.take_zero]
       refine sq11 hne h6 hl h00 n4 b1 b2 e1 e2 e3 e4 ?_
       (repeat (first | refine w1 (fun K hK => ?_) | refine w2 ?_ | refine w3 ?_ | ((first | refine w4 ?_ | refine WP_draw 11 (by decide +kernel) ?_ | refine WP_draw 6 (by decide +kernel) ?_ | refine w5 ?_ | refine w6 ?_ | refine w7 ?_); try refine sq11 hne h6 hl h00 n4 b1 b2 e1 e2 e3 e4 ?_) | (refine w8 ?_; refine sq11 hne h6 hl h00 n4 b1 b2 e1 e2 e3 e4 ?_; refine w9 ?_) | ((first | refine hK _ _ (w0 ?_) | (clear hK K; refine hK _ _ (w0 ?_)) | (clear hK K; clear hK K; refine hK _ _ (w0 ?_))); clear hK K)))
       refine ⟨_, rRead_sat (t.take m) (by omega) _, ?_⟩
       try refine sq11 hne h6 hl h00 n4 b1 b2 e1 e2 e3 e4 ?_
       (repeat (first | refine w1 (fun K hK => ?_) | refine w2 ?_ | refine w3 ?_ | ((first | refine w4 ?_ | refine WP_draw 11 (by decide +kernel) ?_ | refine WP_draw 6 (by decide +kernel) ?_ | refine w5 ?_ | refine w6 ?_ | refine w7 ?_); try refine sq11 hne h6 hl h00 n4 b1 b2 e1 e2 e3 e4 ?_) | (refine w8 ?_; refine sq11 hne h6 hl h00 n4 b1 b2 e1 e2 e3 e4 ?_; refine w9 ?_) | ((first | refine hK _ _ (w0 ?_) | (clear hK K; refine hK _ _ (w0 ?_)) | (clear hK K; clear hK K; refine hK _ _ (w0 ?_))); clear hK K)))
       rw [wpOperV_store]
       simp (disch := first | omega | (simp only [go_sem, ↓reduceIte, seval]; first | done | omega) | fail) only [go_sem, ↓reduceIte, seval, hne, h6, hl, h00, n4, b1, b2, e1, e2, e3, e4]
       refine ⟨⟨_, rRead_sat (t.take m) (by omega) _, ?_⟩, ?_⟩
       ·exact zq11 hne h6 hl h00 n4 b1 b2 e1 e2 e3 e4
       (repeat (first | refine w1 (fun K hK => ?_) | refine w2 ?_ | refine w3 ?_ | ((first | refine w4 ?_ | refine WP_draw 11 (by decide +kernel) ?_ | refine WP_draw 6 (by decide +kernel) ?_ | refine w5 ?_ | refine w6 ?_ | refine w7 ?_); try refine sq11 hne h6 hl h00 n4 b1 b2 e1 e2 e3 e4 ?_) | (refine w8 ?_; refine sq11 hne h6 hl h00 n4 b1 b2 e1 e2 e3 e4 ?_; refine w9 ?_) | ((first | refine hK _ _ (w0 ?_) | (clear hK K; refine hK _ _ (w0 ?_)) | (clear hK K; clear hK K; refine hK _ _ (w0 ?_))); clear hK K)))
       first | refine (hQ _ _ ?_).1 | refine (hQ _ _ ?_).2
       simp (disch := first | omega | (simp only [go_sem, ↓reduceIte, seval]; first | done | omega) | fail) only [go_sem, ↓reduceIte, seval, hne, h6, hl, h00, n4, b1, b2, e1, e2, e3, e4, resA, resL, resA1]
       refine Fin.plain (.tup _ (by intro c hc; simp at hc; rcases hc with rfl | rfl | rfl; exact At.clo _ (_, _); exact .str _; exact .bool _)) ⟨(nameW s, rdE (t.take m)), t.drop (m + 1), by rw [hx, hq]; simp [hct, At.av], (fun _ => by rw [hx, hq]; exact ⟨rfl, rfl⟩), rfl⟩
    ·by_cases q9 : c = 39
     ·subst q9
      have n4 : ((UInt8.toNat 39 : Int) != 34) = true := rfl
      have n9 : ((UInt8.toNat 39 : Int) != 39) = false := rfl
      have hq := valueF_q 39 t (.inr rfl)
      skip
      try refine sq6 hne h6 hl h00 n4 n9 ?_
      (repeat (first | refine w1 (fun K hK => ?_) | refine w2 ?_ | refine w3 ?_ | ((first | refine w4 ?_ | refine WP_draw 11 (by decide +kernel) ?_ | refine WP_draw 6 (by decide +kernel) ?_ | refine w5 ?_ | refine w6 ?_ | refine w7 ?_); try refine sq6 hne h6 hl h00 n4 n9 ?_) | (refine w8 ?_; refine sq6 hne h6 hl h00 n4 n9 ?_; refine w9 ?_) | ((first | refine hK _ _ (w0 ?_) | (clear hK K; refine hK _ _ (w0 ?_)) | (clear hK K; clear hK K; refine hK _ _ (w0 ?_))); clear hK K)))
      refine ⟨_, rfind_sat t [39] (by omega) (by simp) _, ?_⟩
      try refine sq6 hne h6 hl h00 n4 n9 ?_
      (repeat (first | refine w1 (fun K hK => ?_) | refine w2 ?_ | refine w3 ?_ | ((first | refine w4 ?_ | refine WP_draw 11 (by decide +kernel) ?_ | refine WP_draw 6 (by decide +kernel) ?_ | refine w5 ?_ | refine w6 ?_ | refine w7 ?_); try refine sq6 hne h6 hl h00 n4 n9 ?_) | (refine w8 ?_; refine sq6 hne h6 hl h00 n4 n9 ?_; refine w9 ?_) | ((first | refine hK _ _ (w0 ?_) | (clear hK K; refine hK _ _ (w0 ?_)) | (clear hK K; clear hK K; refine hK _ _ (w0 ?_))); clear hK K)))
      rcases uptoF_ix [39] t false with ⟨g1, g2⟩ | ⟨m, g1, g2, g3⟩
      ·have b1 : decide (Lib.index t [39] < 0) = true := by simpa using g1
       skip
       try refine sq7 hne h6 hl h00 n4 n9 b1 ?_
       (repeat (first | refine w1 (fun K hK => ?_) | refine w2 ?_ | refine w3 ?_ | ((first | refine w4 ?_ | refine WP_draw 11 (by decide +kernel) ?_ | refine WP_draw 6 (by decide +kernel) ?_ | refine w5 ?_ | refine w6 ?_ | refine w7 ?_); try refine sq7 hne h6 hl h00 n4 n9 b1 ?_) | (refine w8 ?_; refine sq7 hne h6 hl h00 n4 n9 b1 ?_; refine w9 ?_) | ((first | refine hK _ _ (w0 ?_) | (clear hK K; refine hK _ _ (w0 ?_)) | (clear hK K; clear hK K; refine hK _ _ (w0 ?_))); clear hK K)))
       first | refine (hQ _ _ ?_).1 | refine (hQ _ _ ?_).2
       simp (disch := first | omega | (simp only [go_sem, ↓reduceIte, seval]; first | done | omega) | fail) only [go_sem, ↓reduceIte, seval, hne, h6, hl, h00, n4, n9, b1, resA, resL, resA1]
       exact bad _ (by rw [hx, hq, g2]; rfl)
      ·rw [g1]
       have b1 : decide ((m : Int) < 0) = false := by simp
       simp only [List.length_cons, List.length_nil] at g2
       skip
       try refine sq7 hne h6 hl h00 n4 n9 b1 ?_
       (repeat (first | refine w1 (fun K hK => ?_) | refine w2 ?_ | refine w3 ?_ | ((first | refine w4 ?_ | refine WP_draw 11 (by decide +kernel) ?_ | refine WP_draw 6 (by decide +kernel) ?_ | refine w5 ?_ | refine w6 ?_ | refine w7 ?_); try refine sq7 hne h6 hl h00 n4 n9 b1 ?_) | (refine w8 ?_; refine sq7 hne h6 hl h00 n4 n9 b1 ?_; refine w9 ?_) | ((first | refine hK _ _ (w0 ?_) | (clear hK K; refine hK _ _ (w0 ?_)) | (clear hK K; clear hK K; refine hK _ _ (w0 ?_))); clear hK K)))
       have e1 : (1 + (m : Int)).toNat = m + 1 := by omega
       have e2 : List.drop 1 (List.take (m + 1) (39 :: t)) = t.take m := rfl
       have e3 : (2 + (m : Int)).toNat = m + 1 + 1 := by omega
       have e4 : List.drop (m + 1 + 1) (39 :: t) = t.drop (m + 1) := rfl
       have hl5 : (t.take m).length = m := by rw [List.length_take]; omega
       rw [g3] at hq
       rw [e1, e2]
       refine (rfind_sat (t.take m) [60] (by omega) (by simp) _).mono ?_
       rintro r h' ⟨rfl, rfl⟩
       try refine sq7 hne h6 hl h00 n4 n9 b1 ?_
       (repeat (first | refine w1 (fun K hK => ?_) | refine w2 ?_ | refine w3 ?_ | ((first | refine w4 ?_ | refine WP_draw 11 (by decide +kernel) ?_ | refine WP_draw 6 (by decide +kernel) ?_ | refine w5 ?_ | refine w6 ?_ | refine w7 ?_); try refine sq7 hne h6 hl h00 n4 n9 b1 ?_) | (refine w8 ?_; refine sq7 hne h6 hl h00 n4 n9 b1 ?_; refine w9 ?_) | ((first | refine hK _ _ (w0 ?_) | (clear hK K; refine hK _ _ (w0 ?_)) | (clear hK K; clear hK K; refine hK _ _ (w0 ?_))); clear hK K)))
       cases hct : Lib.contains (t.take m) [60] with
       | true =>
        have b2 : decide (0 ≤ Lib.index (t.take m) [60]) = true := hct
        skip
        (repeat (first | refine w1 (fun K hK => ?_) | refine w2 ?_ | refine w3 ?_ | ((first | refine w4 ?_ | refine WP_draw 11 (by decide +kernel) ?_ | refine WP_draw 6 (by decide +kernel) ?_ | refine w5 ?_ | refine w6 ?_ | refine w7 ?_); try refine sq8 hne h6 hl h00 n4 n9 b1 b2 ?_) | (refine w8 ?_; refine sq8 hne h6 hl h00 n4 n9 b1 b2 ?_; refine w9 ?_) | ((first | refine hK _ _ (w0 ?_) | (clear hK K; refine hK _ _ (w0 ?_)) | (clear hK K; clear hK K; refine hK _ _ (w0 ?_))); clear hK K)))
        first | refine (hQ _ _ ?_).1 | refine (hQ _ _ ?_).2
        simp (disch := first | omega | (simp only [go_sem, ↓reduceIte, seval]; first | done | omega) | fail) only [go_sem, ↓reduceIte, seval, hne, h6, hl, h00, n4, n9, b1, b2, resA, resL, resA1]
        exact bad _ (by rw [hx, hq]; simp [hct])
       | false =>
        have b2 : decide (0 ≤ Lib.index (t.take m) [60]) = false := hct
        skip
        (repeat (first | refine w1 (fun K hK => ?_) | refine w2 ?_ | refine w3 ?_ | ((first | refine w4 ?_ | refine WP_draw 11 (by decide +kernel) ?_ | refine WP_draw 6 (by decide +kernel) ?_ | refine w5 ?_ | refine w6 ?_ | refine w7 ?_); try refine sq12 hne h6 hl h00 n4 n9 b1 b2 e1 e2 e3 e4 ?_) | (refine w8 ?_; refine sq12 hne h6 hl h00 n4 n9 b1 b2 e1 e2 e3 e4 ?_; refine w9 ?_) | ((first | refine hK _ _ (w0 ?_) | (clear hK K; refine hK _ _ (w0 ?_)) | (clear hK K; clear hK K; refine hK _ _ (w0 ?_))); clear hK K)))
        refine WP_draw5 11 11 _ (by rfl) (by decide +kernel) (by kernel_rfl) (by decide +kernel) (by decide +kernel) (by decide +kernel) ?_
        simp only [List.take_succ_cons, List.take_zero]
        refine sq12 hne h6 hl h00 n4 n9 b1 b2 e1 e2 e3 e4 ?_
        (repeat (first | refine w1 (fun K hK => ?_) | refine w2 ?_ | refine w3 ?_ | ((first | refine w4 ?_ | refine WP_draw 11 (by decide +kernel) ?_ | refine WP_draw 6 (by decide +kernel) ?_ | refine w5 ?_ | refine w6 ?_ | refine w7 ?_); try refine sq12 hne h6 hl h00 n4 n9 b1 b2 e1 e2 e3 e4 ?_) | (refine w8 ?_; refine sq12 hne h6 hl h00 n4 n9 b1 b2 e1 e2 e3 e4 ?_; refine w9 ?_) | ((first | refine hK _ _ (w0 ?_) | (clear hK K; refine hK _ _ (w0 ?_)) | (clear hK K; clear hK K; refine hK _ _ (w0 ?_))); clear hK K)))
        refine ⟨_, rRead_sat (t.take m) (by omega) _, ?_⟩
        try refine sq12 hne h6 hl h00 n4 n9 b1 b2 e1 e2 e3 e4 ?_
        (repeat (first | refine w1 (fun K hK => ?_) | refine w2 ?_ | refine w3 ?_ | ((first | refine w4 ?_ | refine WP_draw 11 (by decide +kernel) ?_ | refine WP_draw 6 (by decide +kernel) ?_ | refine w5 ?_ | refine w6 ?_ | refine w7 ?_); try refine sq12 hne h6 hl h00 n4 n9 b1 b2 e1 e2 e3 e4 ?_) | (refine w8 ?_; refine sq12 hne h6 hl h00 n4 n9 b1 b2 e1 e2 e3 e4 ?_; refine w9 ?_) | ((first | refine hK _ _ (w0 ?_) | (clear hK K; refine hK _ _ (w0 ?_)) | (clear hK K; clear hK K; refine hK _ _ (w0 ?_))); clear hK K)))
        rw [wpOperV_store]
        simp (disch := first | omega | (simp only [go_sem, ↓reduceIte, seval]; first | done | omega) | fail) only [go_sem, ↓reduceIte, seval, hne, h6, hl, h00, n4, n9, b1, b2, e1, e2, e3, e4]
        refine ⟨⟨_, rRead_sat (t.take m) (by omega) _, ?_⟩, ?_⟩
        ·exact zq12 hne h6 hl h00 n4 n9 b1 b2 e1 e2 e3 e4
        (repeat (first | refine w1 (fun K hK => ?_) | refine w2 ?_ | refine w3 ?_ | ((first | refine w4 ?_ | refine WP_draw 11 (by decide +kernel) ?_ | refine WP_draw 6 (by decide +kernel) ?_ | refine w5 ?_ | refine w6 ?_ | refine w7 ?_); try refine sq12 hne h6 hl h00 n4 n9 b1 b2 e1 e2 e3 e4 ?_) | (refine w8 ?_; refine sq12 hne h6 hl h00 n4 n9 b1 b2 e1 e2 e3 e4 ?_; refine w9 ?_) | ((first | refine hK _ _ (w0 ?_) | (clear hK K; refine hK _ _ (w0 ?_)) | (clear hK K; clear hK K; refine hK _ _ (w0 ?_))); clear hK K)))
        first | refine (hQ _ _ ?_).1 | refine (hQ _ _ ?_).2
        simp (disch := first | omega | (simp only [go_sem, ↓reduceIte, seval]; first | done | omega) | fail) only [go_sem, ↓reduceIte, seval, hne, h6, hl, h00, n4, n9, b1, b2, e1, e2, e3, e4, resA, resL, resA1]
        refine Fin.plain (.tup _ (by intro c hc; simp at hc; rcases hc with rfl | rfl | rfl; exact At.clo _ (_, _); exact .str _; exact .bool _)) ⟨(nameW s, rdE (t.take m)), t.drop (m + 1), by rw [hx, hq]; simp [hct, At.av], (fun _ => by rw [hx, hq]; exact ⟨rfl, rfl⟩), rfl⟩
     ·have n4 : ((c.toNat : Int) != 34) = true := by have : ¬ (c.toNat : Int) = 34 := fun e => q4 (UInt8.toNat_inj.1 (by have : (c.toNat : Int) = ((34 : UInt8).toNat : Int) := e; omega)); simpa using this
      have n9 : ((c.toNat : Int) != 39) = true := by have : ¬ (c.toNat : Int) = 39 := fun e => q9 (UInt8.toNat_inj.1 (by have : (c.toNat : Int) = ((39 : UInt8).toNat : Int) := e; omega)); simpa using this
      skip
      try refine sq6 hne h6 hl h00 n4 n9 ?_
      (repeat (first | refine w1 (fun K hK => ?_) | refine w2 ?_ | refine w3 ?_ | ((first | refine w4 ?_ | refine WP_draw 11 (by decide +kernel) ?_ | refine WP_draw 6 (by decide +kernel) ?_ | refine w5 ?_ | refine w6 ?_ | refine w7 ?_); try refine sq6 hne h6 hl h00 n4 n9 ?_) | (refine w8 ?_; refine sq6 hne h6 hl h00 n4 n9 ?_; refine w9 ?_) | ((first | refine hK _ _ (w0 ?_) | (clear hK K; refine hK _ _ (w0 ?_)) | (clear hK K; clear hK K; refine hK _ _ (w0 ?_))); clear hK K)))
      first | refine (hQ _ _ ?_).1 | refine (hQ _ _ ?_).2
      simp (disch := first | omega | (simp only [go_sem, ↓reduceIte, seval]; first | done | omega) | fail) only [go_sem, ↓reduceIte, seval, hne, h6, hl, h00, n4, n9, resA, resL, resA1]
      exact bad _ (by rw [hx]; exact valueF_no (c :: t) (by simpa [Lib.hasPrefix, List.isPrefixOf] using fun e => q4 e.symm) (by simpa [Lib.hasPrefix, List.isPrefixOf] using fun e => q9 e.symm))
end Go.Av
namespace Go.Av
open Go Go.Proofs Go.RowKit
attribute [local irreducible] WP WPl WPix Sat
set_option maxRecDepth 100000
set_option maxHeartbeats 1000000
variable {G : Nat → Option (List AVal)}
theorem rupto_sat (s a z : Bs) (hs : s.length ≤ 1048576) (ha : a.length ≤ s.length) (hz : z.length ≤ 100) (h : Heap) : Sat (CT G) 112 [.str s, .str a, .str z] h
  (fun r h' => ∃ rest : Bs, r = .tup [.str (uptoF z (s.drop a.length) false).1, .str rest, .bool (!(uptoF z (s.drop a.length) false).2.2)] ∧ ((uptoF z (s.drop a.length) false).2.2 = false → rest = (uptoF z (s.drop a.length) false).2.1) ∧ h' = h) := by
 have fin : ∀ (x rest : Bs) (b : Bool), x = (uptoF z (s.drop a.length) false).1 → b = (!(uptoF z (s.drop a.length) false).2.2) → ((uptoF z (s.drop a.length) false).2.2 = false → rest = (uptoF z (s.drop a.length) false).2.1) → Fin h h (fun r h' => ∃ rest : Bs, r = .tup [.str (uptoF z (s.drop a.length) false).1, .str rest, .bool (!(uptoF z (s.drop a.length) false).2.2)] ∧ ((uptoF z (s.drop a.length) false).2.2 = false → rest = (uptoF z (s.drop a.length) false).2.1) ∧ h' = h) (.tup [.str x, .str rest, .bool b]) := fun x rest b e1 e2 e3 => by
  refine Fin.frzS (.clo _ (.tup _ (by intro c hc; simp at hc; rcases hc with rfl | rfl | rfl; exact .str _; exact .str _; exact .bool _))) ⟨rest, by rw [← e1, ← e2], e3, rfl⟩
 have hl : (s.drop a.length).length = s.length - a.length := List.length_drop
 refine Sat.body [.tmp 6, .tmp 7, .tmp 8] (fn := Tryz.f112) Tryz.func112 rfl rfl (by kernel_rfl) (by kernel_rfl) (by kernel_rfl) rfl ?_
 intro Q hQ
 (repeat (first | refine w1 (fun K hK => ?_) | refine w2 ?_ | refine w3 ?_ | ((first | refine w4 ?_ | refine WP_draw 20 (by decide +kernel) ?_ | refine w5 ?_ | refine w6 ?_ | refine w7 ?_); try refine sq0 ?_) | (refine w8 ?_; refine sq0 ?_; refine w9 ?_) | ((first | refine hK _ _ (w0 ?_) | (clear hK K; refine hK _ _ (w0 ?_)) | (clear hK K; clear hK K; refine hK _ _ (w0 ?_))); clear hK K)))
 refine (rfind_sat (s.drop a.length) z (by omega) (by omega) _).mono ?_
 rintro r h' ⟨rfl, rfl⟩
 try refine sq0 ?_
 (repeat (first | refine w1 (fun K hK => ?_) | refine w2 ?_ | refine w3 ?_ | ((first | refine w4 ?_ | refine WP_draw 20 (by decide +kernel) ?_ | refine w5 ?_ | refine w6 ?_ | refine w7 ?_); try refine sq0 ?_) | (refine w8 ?_; refine sq0 ?_; refine w9 ?_) | ((first | refine hK _ _ (w0 ?_) | (clear hK K; refine hK _ _ (w0 ?_)) | (clear hK K; clear hK K; refine hK _ _ (w0 ?_))); clear hK K)))
 rcases uptoF_ix z (s.drop a.length) false with ⟨g1, g2⟩ | ⟨m, g1, g2, g3⟩
 ·have b1 : decide (Lib.index (s.drop a.length) z < 0) = true := by simpa using g1
  skip
  try refine sq1 b1 ?_
  (repeat (first | refine w1 (fun K hK => ?_) | refine w2 ?_ | refine w3 ?_ | ((first | refine w4 ?_ | refine WP_draw 20 (by decide +kernel) ?_ | refine w5 ?_ | refine w6 ?_ | refine w7 ?_); try refine sq1 b1 ?_) | (refine w8 ?_; refine sq1 b1 ?_; refine w9 ?_) | ((first | refine hK _ _ (w0 ?_) | (clear hK K; refine hK _ _ (w0 ?_)) | (clear hK K; clear hK K; refine hK _ _ (w0 ?_))); clear hK K)))
  first | refine (hQ _ _ ?_).1 | refine (hQ _ _ ?_).2
  simp (disch := first | omega | (simp only [go_sem, ↓reduceIte, seval]; first | done | omega) | fail) only [go_sem, ↓reduceIte, seval, b1, resA, resL, resA1]
  exact fin _ _ _ (by rw [g2]) (by rw [g2]; rfl) (fun e => by rw [g2] at e; cases e)
 ·rw [g1]
  have b1 : decide ((m : Int) < 0) = false := by simp
  have e1 : ((a.length : Int) + (m : Int)).toNat = a.length + m := by omega
  have e2 : ((a.length : Int) + (m : Int) + (z.length : Int)).toNat = a.length + m + z.length := by omega
  have e3 : List.drop a.length (List.take (a.length + m) s) = (s.drop a.length).take m := by rw [List.drop_take]; congr 1; omega
  have e4 : List.drop (a.length + (m + z.length)) s = (s.drop a.length).drop (m + z.length) := by rw [List.drop_drop]
  skip
  try refine sq5 b1 e1 e2 e3 e4 ?_
  (repeat (first | refine w1 (fun K hK => ?_) | refine w2 ?_ | refine w3 ?_ | ((first | refine w4 ?_ | refine WP_draw 20 (by decide +kernel) ?_ | refine w5 ?_ | refine w6 ?_ | refine w7 ?_); try refine sq5 b1 e1 e2 e3 e4 ?_) | (refine w8 ?_; refine sq5 b1 e1 e2 e3 e4 ?_; refine w9 ?_) | ((first | refine hK _ _ (w0 ?_) | (clear hK K; refine hK _ _ (w0 ?_)) | (clear hK K; clear hK K; refine hK _ _ (w0 ?_))); clear hK K)))
  first | refine (hQ _ _ ?_).1 | refine (hQ _ _ ?_).2
  simp (disch := first | omega | (simp only [go_sem, ↓reduceIte, seval]; first | done | omega) | fail) only [go_sem, ↓reduceIte, seval, b1, e1, e2, e3, e4, resA, resL, resA1]
  exact fin _ _ _ (by rw [g3]) (by rw [g3]; rfl) (fun _ => by rw [g3])
end Go.Av
