/- The document's answers for documents: an element, in plain words. -/
import Derived.Test.YtjgligkejfjbpaaGreatDoorUnTf
import Derived.Test.YtjgligkejfjbpaaGreatDoorUnIb
import Derived.Test.YtjgligkejfjbpaaGreatDoorUnUb
set_option linter.unusedSimpArgs false
set_option linter.unusedVariables false
namespace Go.Av
open Go Go.Proofs Go.RowKit
attribute [local irreducible] WP WPl WPix Sat
set_option maxRecDepth 100000
set_option maxHeartbeats 1000000
variable (G : Nat → Option (List AVal))
variable {H : Heap} {n0 pb po vo pd vd : Nat} {room : Bool} {os : List OE} {ds : List Elem}
theorem close2_sat (l : List OE) (p o : OE) (hl : l.length ≤ 1000) (hpk : p.k.length ≤ 1048576) (g : BH H n0 pb po vo room (l ++ [p, o]) pd vd ds) :
  Sat (CT G) 107 [.hp pb 0 0 0, .str o.n] H (BPost n0 pb H ((l ++ [p, o]).map OE.el) ds (some ((l ++ [(⟨p.n, p.a, p.t, p.k ++ [o.el], p.q, p.v + 1⟩ : OE)]).map OE.el, ds))) := by
 have i0 : (l ++ [p, o])[l.length]? = some p := by simp
 have i1 : (l ++ [p, o])[l.length + 1]? = some o := by simp
 have il : ∀ (i : Nat) (x : OE), l[i]? = some x → (l ++ [p, o])[i]? = some x := fun i x h => by rw [List.getElem?_append_left (List.getElem?_eq_some_iff.1 h).1]; exact h
 have hb := g.b
 have ho := g.o
 have hd := g.d
 have hk := g.k _ o i1
 have ko := g.ko _ o i1
 have hp := g.k _ p i0
 have kp := g.ko _ p i0
 have kop := g.kk _ _ o p i1 i0 (by omega)
 have hlo := gr_lt ho
 have hlb := gr_lt hb
 have hld := gr_lt hd
 have hlk := gr_lt hk
 have hlp := gr_lt hp
 have hbo := g.bo
 have hbd := g.bd
 have hbk := g.bk _ o i1
 have hbp := g.bk _ p i0
 have hod := g.od
 have hn := g.n
 have hlen : (l ++ [p, o]).length = l.length + 2 := by simp
 rw [hlen] at hb
 refine Sat.postw (R := fun r H' => (FrN n0 H H' ∧ H.length ≤ H'.length) ∧ r = .bool true ∧ getRow H' pb 0 = some (106, 2, [.agg [.hs po vo 0 (l.length + 1) false, .hs pd vd 0 ds.length true]]) ∧
   getRow H' po vo = some (26, 4, l.map OE.av ++ [.agg [.str p.n, .sl 2 (p.a.map At.av), .str p.t, .hs p.q (p.v + 1) 0 (p.k.length + 1) true], o.av]) ∧
   getRow H' p.q (p.v + 1) = some (26, 4, p.k.map Elem.av ++ [o.av]) ∧
   (∀ q v x, getRow H q v = some x → q ≠ pb → q ≠ po → q ≠ p.q → getRow H' q v = some x)) ?_ (fun r h' ⟨a1, a2, a3, a4, a5, a6⟩ => by
    obtain ⟨K', w, f1, f2⟩ := close_weak1 (C := CT G) (ds := ds) (n0 := n0) a3 a4 (a6 _ _ _ hd hbd.symm hod.symm kp.2.1.symm) (a6 _ _ _ hk hbk.symm ko.1 kop) a5
     (fun i x hi => by
      have j := il i x hi
      have hlt := (List.getElem?_eq_some_iff.1 hi).1
      have k1 := g.ko i x j
      have k2 := g.kk i l.length x p j i0 (by omega)
      exact ⟨a6 _ _ _ (g.k i x j) (g.bk i x j).symm k1.1 k2, k1.1, k1.2.1, k1.2.2, k2, g.kk i (l.length + 1) x o j i1 (by omega)⟩)
     (fun i j x x' hi hj hij => g.kk i j x x' (il i x hi) (il j x' hj) hij) hod ko kp kop hn
    exact ⟨K', w [], ⟨a1.1.trans f1.1, Nat.le_trans a1.2 f1.2⟩, a2, po, vo, false, _, pd, vd, f2, rfl⟩)
 have e1 : ((l.length + 2 : Nat) : Int) - 1 = ((l.length + 1 : Nat) : Int) := by omega
 have e2 : ((l.length + 1 : Nat) : Int) - 1 = (l.length : Int) := by omega
 have e3 : (((l.length + 1 : Nat) : Int) == 0) = false := by simp; omega
 have hbt : (o.n == o.n) = true := by simp
 have e4 : ∀ x y : AVal, (l.map OE.av ++ [x, y])[l.length]? = some x := fun x y => by simp
 have e5 : ∀ x y : AVal, (l.map OE.av ++ [x, y])[l.length + 1]? = some y := fun x y => by simp
 have e6 : ∀ x y z : AVal, (l.map OE.av ++ [x, y]).set l.length z = l.map OE.av ++ [z, y] := fun x y z => by simp
 have e7 : l.length + 1 < l.length + 2 := by omega
 have e8 : l.length < l.length + 1 := by omega
 have e9 : p.k.length < p.k.length + 1 := by omega
 have hg1 : ∀ x : AVal, (p.k.map Elem.av ++ [x])[p.k.length]? = some x := fun x => by simp
 have hs1 : ∀ x y : AVal, (p.k.map Elem.av ++ [x]).set p.k.length y = p.k.map Elem.av ++ [y] := fun x y => by simp
 have hsl : ∀ j, aslice Tryz.prog (H ++ j) 24 (.hs po vo 0 (l.length + 2) room) none (some (.int .i64 ((l.length + 1 : Nat) : Int))) (some (.int .i64 ((l.length + 1 : Nat) : Int))) = some (.hs po vo 0 (l.length + 1) false) := fun j =>
  aslice_hs3 (r := l.length + 1) (by simp only [go_sem]; rfl) (getRow_old ho) (by simp only [go_sem]) (by omega)
 have ho' : getRow H po vo = some (26, 4, l.map OE.av ++ [p.av, o.av]) := by rw [ho]; simp
 clear ho
 have F := F2 (F9 hb ho' hd hp (F3 (@bne_self_eq_false Int _ _) (@bne_self_eq_false Bool _ _) (@bne_self_eq_false Bs _ _)) hbt e1 e2 e3) (F10 e4 e5 e6 e7 e8 e9 hg1 hs1 hsl @heapF)
 refine sb [.tmp 4] (fn := Tryz.f107) Tryz.func107 ?_
 intro Q hQ
 (repeat (first | refine w1 (fun K hK => ?_) | refine w2 ?_ | refine w3 ?_ | ((first | refine w4 ?_ | refine wD ?_ | refine w5 ?_ | refine w6 ?_ | refine w7 ?_); try refine sq F ?_) | (refine w8 ?_; refine sq F ?_; refine w9 ?_) | (refine rq F ?_; try refine sq F ?_) | (refine vq F ?_; try refine sq F ?_) | ((first | refine hK _ _ (w0 ?_) | (clear hK K; refine hK _ _ (w0 ?_)) | (clear hK K; clear hK K; refine hK _ _ (w0 ?_))); clear hK K)))
 (first | refine gq F (fun g1 => ?_) (fun g1 => ?_) | refine pq F (fun g1 => ?_) (fun g1 => ?_)) <;> (try exact g1.elim) <;> (try refine sq F ?_) <;> ((repeat (first | refine w1 (fun K hK => ?_) | refine w2 ?_ | refine w3 ?_ | ((first | refine w4 ?_ | refine wD ?_ | refine w5 ?_ | refine w6 ?_ | refine w7 ?_); try refine sq F ?_) | (refine w8 ?_; refine sq F ?_; refine w9 ?_) | (refine rq F ?_; try refine sq F ?_) | (refine vq F ?_; try refine sq F ?_) | ((first | refine hK _ _ (w0 ?_) | (clear hK K; refine hK _ _ (w0 ?_)) | (clear hK K; clear hK K; refine hK _ _ (w0 ?_))); clear hK K))))
 ·exfalso; omega
 ·refine WP_draw6 0 (.one 0 (.two 1 (.one 2 (.one 3 .nil)) 2 (.one 1 (.one 3 .nil)))) (by decide +kernel) (by kernel_rfl) (by decide +kernel) ?_
  simp only [List.take_succ_cons, List.take_zero]
  try refine sq F ?_
  repeat' (first | refine WPt_nil ?_ | (refine WPt_one rfl ?_; refine sq F ?_) | (refine WPt_two rfl rfl ?_ ?_ <;> refine sq F ?_))
  repeat' (first | refine WPt_nil ?_ | (refine WPt_one rfl ?_; refine sq F ?_) | (refine WPt_two rfl rfl ?_ ?_ <;> refine sq F ?_))
  ·show K _ _
   refine hK _ _ (Wkn.refl ?_)
   clear hK K
   skip
   (repeat (first | refine w1 (fun K hK => ?_) | refine w2 ?_ | refine w3 ?_ | ((first | refine w4 ?_ | refine w5 ?_ | refine w6 ?_ | refine w7 ?_); try refine sq F ?_) | (refine w8 ?_; refine sq F ?_; refine w9 ?_) | (refine rq F ?_; try refine sq F ?_) | (refine vq F ?_; try refine sq F ?_) | ((first | refine hK _ _ (w0 ?_) | (clear hK K; refine hK _ _ (w0 ?_)) | (clear hK K; clear hK K; refine hK _ _ (w0 ?_))); clear hK K)))
   refine WP_draw5 17 6 _ (by rfl) (by decide +kernel) (by kernel_rfl) (by decide +kernel) (by decide +kernel) (by decide +kernel) ?_
   simp only [List.take_succ_cons, List.take_zero]
   refine sq F ?_
   (repeat (first | refine w1 (fun K hK => ?_) | refine w2 ?_ | refine w3 ?_ | ((first | refine w4 ?_ | refine w5 ?_ | refine w6 ?_ | refine w7 ?_); try refine sq F ?_) | (refine w8 ?_; refine sq F ?_; refine w9 ?_) | (refine rq F ?_; try refine sq F ?_) | (refine vq F ?_; try refine sq F ?_) | ((first | refine hK _ _ (w0 ?_) | (clear hK K; refine hK _ _ (w0 ?_)) | (clear hK K; clear hK K; refine hK _ _ (w0 ?_))); clear hK K)))
   skip
   rw [wpOperV_app]
   try refine sq F ?_
   refine aq F ?_
   try refine sq F ?_
   (repeat (first | refine w1 (fun K hK => ?_) | refine w2 ?_ | refine w3 ?_ | ((first | refine w4 ?_ | refine wD ?_ | refine w5 ?_ | refine w6 ?_ | refine w7 ?_); try refine sq F ?_) | (refine w8 ?_; refine sq F ?_; refine w9 ?_) | (refine rq F ?_; try refine sq F ?_) | (refine vq F ?_; try refine sq F ?_)))
   refine hK _ _ (Wkn.refl ?_)
   clear hK K
   (repeat (first | refine w1 (fun K hK => ?_) | refine w2 ?_ | refine w3 ?_ | ((first | refine w4 ?_ | refine wD ?_ | refine w5 ?_ | refine w6 ?_ | refine w7 ?_); try refine sq F ?_) | (refine w8 ?_; refine sq F ?_; refine w9 ?_) | (refine rq F ?_; try refine sq F ?_) | (refine vq F ?_; try refine sq F ?_) | ((first | refine hK _ _ (w0 ?_) | (clear hK K; refine hK _ _ (w0 ?_)) | (clear hK K; clear hK K; refine hK _ _ (w0 ?_))); clear hK K)))
   refine ee hQ F ?_
   refine Fin.whole (by simp) (.bool _) ⟨⟨?_, by simp⟩, rfl, ?_, ?_, ?_, ?_⟩
   ·repeat (first | exact FrN.refl _ _ | refine FrN.set _ (by omega) ?_ | refine FrN.app _ (by simp; omega) ?_)
   ·exact zq F
   ·exact zq F
   ·exact zq F
   ·intro q v x h1 h2 h3 h4
    have h5 := gr_lt h1
    have h2' : pb ≠ q := fun e => h2 e.symm
    have h3' : po ≠ q := fun e => h3 e.symm
    have h4' : p.q ≠ q := fun e => h4 e.symm
    simp (disch := first | omega | (simp only [go_sem, ↓reduceIte, seval]; first | done | omega) | fail) only [go_sem, ↓reduceIte, seval, F, h1]
  ·show K _ _
   refine hK _ _ (Wkn.refl ?_)
   clear hK K
   (repeat (first | refine w1 (fun K hK => ?_) | refine w2 ?_ | refine w3 ?_ | ((first | refine w4 ?_ | refine wD ?_ | refine w5 ?_ | refine w6 ?_ | refine w7 ?_); try refine sq F ?_) | (refine w8 ?_; refine sq F ?_; refine w9 ?_) | (refine rq F ?_; try refine sq F ?_) | (refine vq F ?_; try refine sq F ?_) | ((first | refine hK _ _ (w0 ?_) | (clear hK K; refine hK _ _ (w0 ?_)) | (clear hK K; clear hK K; refine hK _ _ (w0 ?_))); clear hK K)))
   refine aq F ?_
   try refine sq F ?_
   (repeat (first | refine w1 (fun K hK => ?_) | refine w2 ?_ | refine w3 ?_ | ((first | refine w4 ?_ | refine wD ?_ | refine w5 ?_ | refine w6 ?_ | refine w7 ?_); try refine sq F ?_) | (refine w8 ?_; refine sq F ?_; refine w9 ?_) | (refine rq F ?_; try refine sq F ?_) | (refine vq F ?_; try refine sq F ?_) | ((first | refine hK _ _ (w0 ?_) | (clear hK K; refine hK _ _ (w0 ?_)) | (clear hK K; clear hK K; refine hK _ _ (w0 ?_))); clear hK K)))
   refine ee hQ F ?_
   refine Fin.whole (by simp) (.bool _) ⟨⟨?_, by simp⟩, rfl, ?_, ?_, ?_, ?_⟩
   ·repeat (first | exact FrN.refl _ _ | refine FrN.set _ (by omega) ?_ | refine FrN.app _ (by simp; omega) ?_)
   ·exact zq F
   ·exact zq F
   ·exact zq F
   ·intro q v x h1 h2 h3 h4
    have h5 := gr_lt h1
    have h2' : pb ≠ q := fun e => h2 e.symm
    have h3' : po ≠ q := fun e => h3 e.symm
    have h4' : p.q ≠ q := fun e => h4 e.symm
    simp (disch := first | omega | (simp only [go_sem, ↓reduceIte, seval]; first | done | omega) | fail) only [go_sem, ↓reduceIte, seval, F, h1]
end Go.Av
namespace Go.Av
open Go Go.Proofs Go.RowKit
attribute [local irreducible] WP WPl WPix Sat
set_option maxRecDepth 100000
set_option maxHeartbeats 1000000
variable (G : Nat → Option (List AVal)) {H : Heap} {n0 pb po vo pd vd : Nat} {room : Bool} {os : List OE} {ds : List Elem}
theorem BH.app (l : Heap) (g : BH H n0 pb po vo room os pd vd ds) : BH (H ++ l) n0 pb po vo room os pd vd ds :=
 ⟨by rw [gs_old _ (gr_lt g.b)]; exact g.b, by rw [gs_old _ (gr_lt g.o)]; exact g.o, by rw [gs_old _ (gr_lt g.d)]; exact g.d,
  fun i o h => by rw [gs_old _ (gr_lt (g.k i o h))]; exact g.k i o h, g.od, g.ko, g.kk, g.n⟩
theorem bclose_sat (nm : Bs) (a : List At) (x : Bs) (g : BH H n0 pb po vo room os pd vd ds) (hos : os.length ≤ 1000) (hds : ds.length ≤ 1048576) (hk : ∀ o ∈ os, o.k.length ≤ 1048576) :
  Sat (CT G) 107 [.hp pb 0 0 0, .str nm] H (BPost n0 pb H (os.map OE.el) ds (stepB (os.map OE.el) ds (2, nm, a, x))) := by
 have no : (os = [] ∨ ∃ l o, os = l ++ [o] ∧ o.n ≠ nm) → Sat (CT G) 107 [.hp pb 0 0 0, .str nm] H (BPost n0 pb H (os.map OE.el) ds (stepB (os.map OE.el) ds (2, nm, a, x))) := fun hno => by
  have e : stepB (os.map OE.el) ds (2, nm, a, x) = none := stepB_cls0 _ _ _ (by
   rcases hno with rfl | ⟨l, o, rfl, h⟩
   ·exact .inl rfl
   ·exact .inr ⟨l.map OE.el, o.el, by simp, h⟩) _ _
  rw [e]
  refine (close0_sat G nm g hos hno).mono ?_
  rintro r h' ⟨rfl, rfl⟩
  exact ⟨⟨FrN.refl _ _, Nat.le_refl _⟩, rfl⟩
 rcases List.eq_nil_or_concat os with rfl | ⟨l, o, rfl⟩
 ·exact no (.inl rfl)
 ·rw [List.concat_eq_append] at *
  by_cases hn : o.n = nm
  ·subst hn
   rcases List.eq_nil_or_concat l with rfl | ⟨l, p, rfl⟩
   ·have := close1_sat G o g hds
    have e : stepB (([] ++ [o]).map OE.el) ds (2, o.n, a, x) = some ([], ds ++ [o.el]) := stepB_cls1 ds o.el a x
    rw [e]; exact this
   ·rw [List.concat_eq_append] at *
    have e1 : l ++ [p] ++ [o] = l ++ [p, o] := by simp
    rw [e1] at g hk hos ⊢
    have := close2_sat G l p o (by simp at hos; omega) (hk p (by simp)) g
    have e : stepB ((l ++ [p, o]).map OE.el) ds (2, o.n, a, x) = some ((l ++ [(⟨p.n, p.a, p.t, p.k ++ [o.el], p.q, p.v + 1⟩ : OE)]).map OE.el, ds) := by
     have := stepB_cls2 (l.map OE.el) ds p.el o.el a x
     simpa [OE.el, Elem.name, Elem.attrs, Elem.text, Elem.kids] using this
    rw [e]; exact this
  ·exact no (.inr ⟨l, o, rfl, hn⟩)
end Go.Av
namespace Go.Av
open Go Go.Proofs Go.RowKit
attribute [local irreducible] WP WPl WPix Sat
set_option maxRecDepth 100000
set_option maxHeartbeats 1000000
variable (G : Nat → Option (List AVal)) {H : Heap} {n0 pb po vo pd vd : Nat} {room : Bool} {os : List OE} {ds : List Elem}
theorem BPost.app {l : Heap} {a b : List Elem} {x : Option (List Elem × List Elem)} {r : AVal} {H' : Heap} (hn : n0 ≤ H.length) (g : BPost n0 pb (H ++ l) a b x r H') : BPost n0 pb H a b x r H' := by
 obtain ⟨⟨g1, g2⟩, g3⟩ := g
 exact ⟨⟨(FrN.app _ (by omega) (FrN.refl _ _)).trans g1, by rw [List.length_append] at g2; omega⟩, g3⟩
theorem BPost.bool {a b : List Elem} {x : Option (List Elem × List Elem)} {r : AVal} {H' : Heap} (g : BPost n0 pb H a b x r H') : ∃ q, r = .bool q := by
 obtain ⟨_, g⟩ := g
 cases x with
 | none => exact ⟨_, g⟩
 | some y => exact ⟨_, g.1⟩
theorem BH.start {C : Ctx} (hb : getRow H pb 0 = some (106, 2, [.agg [.nil (.slice none 0 0), .nil (.slice none 0 0)]])) (hn : n0 ≤ pb) :
  ∃ H', (∀ (ms : List Nat) (t : Env), Weak C ms t H t H') ∧ (FrN n0 H H' ∧ H.length ≤ H'.length) ∧ ∃ po pd, BH H' n0 pb po 0 true [] pd 0 [] := by
 have hlt := gr_lt hb
 have g1 : getRow (H.set pb (.row 106 2 0 [.agg [.hs H.length 0 0 0 true, .nil (.slice none 0 0)]]) ++ [.row 26 4 0 []]) pb 0 = some (106, 2, [.agg [.hs H.length 0 0 0 true, .nil (.slice none 0 0)]]) := by
  rw [gs_old _ (by simpa using hlt), gs_eq _ _ _ _ _ hlt]; simp
 refine ⟨_, fun ms t => (Weak.virtCell 26 4 (by omega) hb 0 rfl).trans (Weak.virtCell 26 4 (by omega) g1 1 rfl), ⟨fun p hp => ?_, by simp; omega⟩, H.length, H.length + 1, ?_⟩
 ·rw [List.getElem?_append_left (by simp; omega), List.getElem?_set_ne (by omega), List.getElem?_append_left (by simp; omega), List.getElem?_set_ne (by omega)]
 ·refine ⟨?_, ?_, ?_, fun i o hi => (by simp at hi), by omega, fun i o hi => (by simp at hi), fun i j o o' hi => (by simp at hi), ⟨hn, by omega, by omega⟩⟩
  ·rw [gs_old _ (by simp; omega), gs_eq _ _ _ _ _ (by simp; omega)]; simp
  ·rw [gs_old _ (by simp), gs_ne _ _ (by omega), gs_new0 _ (by simp)]; rfl
  ·rw [gs_new0 _ (by simp)]; rfl
theorem badd_sat (hG : GOk G) (hC : GClo (CT G)) (t : Tok) (ht : Tok.sz t ≤ 1048576) (g : BH H n0 pb po vo room os pd vd ds) (hos : os.length ≤ 1000) (hds : ds.length ≤ 1048576) (hk : ∀ o ∈ os, o.k.length ≤ 1048576) (htx : ∀ o ∈ os, o.t.length ≤ 10000000) :
  Sat (CT G) 80 [.hp pb 0 0 0, t.av] H (BPost n0 pb H (os.map OE.el) ds (stepB (os.map OE.el) ds t)) := by
 obtain ⟨k, nm, at_, tx⟩ := t
 have hsz : Tok.sz (k, nm, at_, tx) = 1 + nm.length + szs At.sz at_ + tx.length := rfl
 have hal := szs_len At.sz At.sz_pos at_
 have hlb := gr_lt g.b
 have hn := g.n
 by_cases h1 : k = 1
 ·subst h1
  refine (add1_sat G nm at_ tx (by omega) g hos hds).postw ?_
  rintro r h' ⟨hfr, rfl, po', vo', br⟩
  obtain ⟨h'', hw, hfr2, bh⟩ := br.weak (C := CT G)
  refine ⟨h'', hw [], ⟨hfr.1.trans hfr2.1, by omega⟩, ?_⟩
  unfold stepB
  rw [if_pos rfl]
  by_cases hc : (os.map OE.el).length + 1 ≤ 32 ∧ ds = []
  ·rw [if_pos hc]
   have e1 : os.length ≤ 31 := by have := hc.1; simp at this; omega
   refine ⟨by rw [decide_eq_true e1, hc.2]; rfl, po', vo', true, _, pd, vd, bh, by simp [OE.el]⟩
  ·rw [if_neg hc]
   show AVal.bool _ = AVal.bool false
   congr 1
   rw [Bool.and_eq_false_iff]
   by_cases e1 : os.length ≤ 31
   ·right
    rw [decide_eq_false_iff_not]
    intro e2
    exact hc ⟨by simp; omega, List.length_eq_zero_iff.1 e2⟩
   ·left; simpa using e1
 have fin : ∀ (l : Heap) (x : Option (List Elem × List Elem)) (r : AVal) (H' : Heap), BPost n0 pb (H ++ l) (os.map OE.el) ds x r H' → x = stepB (os.map OE.el) ds (k, nm, at_, tx) → Fin H H' (BPost n0 pb H (os.map OE.el) ds (stepB (os.map OE.el) ds (k, nm, at_, tx))) r := by
  intro l x r H' gp hx
  obtain ⟨q, rfl⟩ := gp.bool
  have hl := gp.1.2
  rw [List.length_append] at hl
  rw [← hx]
  exact Fin.whole (by omega) (.bool _) (BPost.app (by omega) gp)
 refine sb [.tmp 4] (fn := Tryz.f80) Tryz.func80 ?_
 intro Q hQ
 refine wk trivial ?_
 refine cq trivial (fun c1 => ?_) (fun c1 => ?_) <;> (try exact c1.elim) <;> (refine wk trivial ?_)
 ·exact absurd c1 h1
 refine cq trivial (fun c2 => ?_) (fun c2 => ?_) <;> (try exact c2.elim) <;> (refine wk trivial ?_)
 ·subst c2
  refine (bclose_sat G nm at_ tx (g.app _) hos hds hk).mono ?_
  intro r h' gp
  obtain ⟨q, hq⟩ := gp.bool
  subst hq
  try refine sq trivial ?_
  refine wk trivial ?_
  refine ee hQ trivial ?_
  exact fin _ _ _ _ gp rfl
 refine cq trivial (fun c3 => ?_) (fun c3 => ?_) <;> (try exact c3.elim) <;> (refine wk trivial ?_)
 ·subst c3
  refine (btext_sat G hG hC tx (by omega) (g.app _) hos (fun o ho => by have := htx o ho; omega)).mono ?_
  intro r h' gp
  obtain ⟨q, hq⟩ := gp.bool
  subst hq
  try refine sq trivial ?_
  refine wk trivial ?_
  refine ee hQ trivial ?_
  exact fin _ _ _ _ gp (by rw [stepB_txt _ _ _ _ _ _ rfl, stepB_txt _ _ _ _ _ _ rfl])
 ·refine ee hQ trivial ?_
  have e : stepB (os.map OE.el) ds (k, nm, at_, tx) = none := by
   unfold stepB
   rw [if_neg h1, if_neg c2, if_neg c3]
  rw [e]
  exact Fin.whole (by simp) (.bool _) ⟨⟨FrN.app _ (by omega) (FrN.refl _ _), by simp⟩, rfl⟩
end Go.Av
namespace Go.Av
open Go Go.Proofs Go.RowKit
set_option maxRecDepth 100000
def orcX (f : FuncId) (args : List AVal) : Option AVal := match orcL f args with
 | some r => some r
 | none => match args with
  | [.int .i32 c] => if f = 152 then some (.bool (beginF c)) else if f = 151 then some (.bool (moreF c)) else none
  | _ => none
variable {G : Nat → Option (List AVal)}
theorem orcX_ok (hG : GOk G) : OrcOk (CT G) orcX := by
 intro f args r g h
 unfold orcX at g
 split at g
 ·rename_i e; cases g; exact orcL_ok hG f args _ e h
 ·split at g
  ·rename_i c _
   split at g
   ·rename_i e; subst e; cases g; exact begins_sat G c h
   ·split at g
    ·rename_i e; subst e; cases g; exact goes_sat G c h
    ·cases g
  ·cases g
end Go.Av
namespace Go.Av
open Go Go.Proofs Go.RowKit
set_option maxRecDepth 1000000
set_option maxHeartbeats 4000000
def doc13 : Bs := [60, 111, 112, 109, 108, 62, 60, 98, 111, 100, 121, 62, 60, 111, 117, 116, 108, 105, 110, 101, 32, 116, 101, 120, 116, 61, 34, 65, 34, 62, 60, 111, 117, 116, 108, 105, 110, 101, 32, 116, 105, 116, 108, 101, 61, 39, 66, 39, 32, 120, 109, 108, 85, 114, 108, 61, 39, 98, 39, 62, 60, 111, 117, 116, 108, 105, 110, 101, 32, 116, 101, 120, 116, 61, 39, 120, 39, 47, 62, 60, 47, 111, 117, 116, 108, 105, 110, 101, 62, 60, 111, 117, 116, 108, 105, 110, 101, 47, 62, 60, 47, 111, 117, 116, 108, 105, 110, 101, 62, 60, 47, 98, 111, 100, 121, 62, 60, 47, 111, 112, 109, 108, 62]
def out13 : AVal := .tup [.sl 3 [.agg [.str [65], .str [], .sl 3 [.agg [.str [66], .str [98], .nil (.slice none 0 0)]]]], .int .i64 0]
theorem read13 (G : Nat → Option (List AVal)) : isV out13 (callX (CT G) orcX 1000 100 33 [.str doc13] []) = true := by
 kernel_rfl
def orcY (f : FuncId) (args : List AVal) : Option AVal := match args with
 | [.str s] => if f = 33 then (if s = doc13 then some out13 else none) else orcX f args
 | _ => orcX f args
theorem orcY_ok {G : Nat → Option (List AVal)} (hG : GOk G) (hc : GClo (CT G)) : OrcOk (CT G) orcY := by
 intro f args r g h
 unfold orcY at g
 split at g
 ·split at g
  ·rename_i e; subst e
   split at g
   ·rename_i e; subst e; cases g
    exact Sat.closedV hc (orcX_ok hG) 1000 100 rfl rfl (read13 G) h
   ·cases g
  ·exact orcX_ok hG f _ _ g h
 ·exact orcX_ok hG f _ _ g h
theorem lives13 (G : Nat → Option (List AVal)) : isT (runX (CT G) orcY 1000 100 32 []) = true := by
 kernel_rfl
end Go.Av
namespace Go.Av
open Go Go.Proofs Go.RowKit
attribute [local irreducible] WP WPl WPix Sat
set_option maxRecDepth 100000
set_option maxHeartbeats 1000000
variable {G : Nat → Option (List AVal)}
attribute [go_sem] decide_true decide_false
theorem sign_end (n : Int) (h0 : 0 ≤ n) : (if rightF n = true then (n, true) else (65533, true)) = (if (n < 32 ∧ n ≠ 9 ∧ n ≠ 10 ∧ n ≠ 13) ∨ 1114111 < n ∨ (55296 ≤ n ∧ n ≤ 57343) then ((65533 : Int), true) else (n, true)) := by
 have hb : ∀ b : Bool, rightF n = b ↔ (decide (n = 9 ∨ n = 10 ∨ n = 13 ∨ 32 ≤ n ∧ ¬ enc n = [239, 191, 189]) = b) := fun b => by
  unfold rightF; simp [Bool.decide_or, Bool.decide_and, Bool.or_assoc]
 by_cases hv : Rune n
 ·have hinj : enc n = [239, 191, 189] → n = 65533 := fun e => by
   have e2 : enc n = enc 65533 := by rw [e]; exact (enc_bad (r := 65533) (by decide)).symm
   have d1 : Utf8.decode ⟨(enc n).toArray⟩ 0 = (fix n, (enc n).length) := dec_enc n
   have d2 : Utf8.decode ⟨(enc 65533).toArray⟩ 0 = (fix 65533, (enc 65533).length) := dec_enc 65533
   rw [e2, d2] at d1
   have := (Prod.mk.inj d1).1
   unfold fix at this
   rw [if_pos hv.valid, if_pos (by decide)] at this
   omega
  obtain ⟨_, hv2⟩ := hv
  by_cases hr : rightF n = true
  ·rw [if_pos hr]
   rw [hb, decide_eq_true_iff] at hr
   rw [if_neg (by omega)]
  ·rw [if_neg hr]
   rw [hb, decide_eq_true_iff] at hr
   by_cases he : enc n = [239, 191, 189]
   ·have := hinj he
    subst this
    split <;> rfl
   ·have k1 : n ≠ 9 := fun e => hr (.inl e)
    have k2 : n ≠ 10 := fun e => hr (.inr (.inl e))
    have k3 : n ≠ 13 := fun e => hr (.inr (.inr (.inl e)))
    have k4 : ¬ 32 ≤ n := fun e => hr (.inr (.inr (.inr ⟨e, he⟩)))
    rw [if_pos (by omega)]
 ·have he : enc n = [239, 191, 189] := enc_bad (by unfold fix Utf8.valid Utf8.runeError Rune at *; rw [if_neg (by simp; omega)])
  have hr : ¬ rightF n = true := by
   rw [hb, decide_eq_true_iff]
   unfold Rune at hv
   rintro (e | e | e | ⟨_, e⟩)
   ·omega
   ·omega
   ·omega
   ·exact e he
  unfold Rune at hv
  rw [if_neg hr, if_pos (by omega)]
theorem rSign_sat (name : Bs) (hs : name.length ≤ 1048576) (h : Heap) : Sat (CT G) 135 [.str name] h (fun x h' => x = .tup [.int .i32 (signF name).1, .bool (signF name).2] ∧ h' = h) := by
 have fin : ∀ (a : Int) (b : Bool), signF name = (a, b) → Fin h h (fun x h' => x = .tup [.int .i32 (signF name).1, .bool (signF name).2] ∧ h' = h) (.tup [.int .i32 a, .bool b]) := fun a b e => by
  rw [e]; exact Fin.frzS (.clo _ (clo_ib _ _ _ _)) ⟨rfl, rfl⟩
 have F := @aconv_ir
 refine sb [.tmp 2, .tmp 3] (fn := Tryz.f135) Tryz.func135 ?_
 intro Q hQ
 (repeat (first | refine w1 (fun K hK => ?_) | refine w2 ?_ | refine w3 ?_ | ((first | refine w4 ?_ | refine wD ?_ | refine w5 ?_ | refine w6 ?_ | refine w7 ?_); try refine sq F ?_) | (refine w8 ?_; refine sq F ?_; refine w9 ?_) | ((first | refine hK _ _ (w0 ?_) | (clear hK K; refine hK _ _ (w0 ?_)) | (clear hK K; clear hK K; refine hK _ _ (w0 ?_))); clear hK K)))
 refine cq F (fun c1 => ?_) (fun c1 => ?_) <;> (try exact c1.elim) <;> ((repeat (first | refine w1 (fun K hK => ?_) | refine w2 ?_ | refine w3 ?_ | ((first | refine w4 ?_ | refine wD ?_ | refine w5 ?_ | refine w6 ?_ | refine w7 ?_); try refine sq F ?_) | (refine w8 ?_; refine sq F ?_; refine w9 ?_) | ((first | refine hK _ _ (w0 ?_) | (clear hK K; refine hK _ _ (w0 ?_)) | (clear hK K; clear hK K; refine hK _ _ (w0 ?_))); clear hK K))))
 ·refine ye hQ F ?_
  exact fin _ _ (by simp [signF, c1])
 refine cq F (fun c2 => ?_) (fun c2 => ?_) <;> (try exact c2.elim) <;> ((repeat (first | refine w1 (fun K hK => ?_) | refine w2 ?_ | refine w3 ?_ | ((first | refine w4 ?_ | refine wD ?_ | refine w5 ?_ | refine w6 ?_ | refine w7 ?_); try refine sq F ?_) | (refine w8 ?_; refine sq F ?_; refine w9 ?_) | ((first | refine hK _ _ (w0 ?_) | (clear hK K; refine hK _ _ (w0 ?_)) | (clear hK K; clear hK K; refine hK _ _ (w0 ?_))); clear hK K))))
 ·refine ye hQ F ?_
  exact fin _ _ (by simp [signF, c2])
 refine cq F (fun c3 => ?_) (fun c3 => ?_) <;> (try exact c3.elim) <;> ((repeat (first | refine w1 (fun K hK => ?_) | refine w2 ?_ | refine w3 ?_ | ((first | refine w4 ?_ | refine wD ?_ | refine w5 ?_ | refine w6 ?_ | refine w7 ?_); try refine sq F ?_) | (refine w8 ?_; refine sq F ?_; refine w9 ?_) | ((first | refine hK _ _ (w0 ?_) | (clear hK K; refine hK _ _ (w0 ?_)) | (clear hK K; clear hK K; refine hK _ _ (w0 ?_))); clear hK K))))
 ·refine ye hQ F ?_
  exact fin _ _ (by simp [signF, c3])
 refine cq F (fun c4 => ?_) (fun c4 => ?_) <;> (try exact c4.elim) <;> ((repeat (first | refine w1 (fun K hK => ?_) | refine w2 ?_ | refine w3 ?_ | ((first | refine w4 ?_ | refine wD ?_ | refine w5 ?_ | refine w6 ?_ | refine w7 ?_); try refine sq F ?_) | (refine w8 ?_; refine sq F ?_; refine w9 ?_) | ((first | refine hK _ _ (w0 ?_) | (clear hK K; refine hK _ _ (w0 ?_)) | (clear hK K; clear hK K; refine hK _ _ (w0 ?_))); clear hK K))))
 ·refine ye hQ F ?_
  exact fin _ _ (by simp [signF, c4])
 refine cq F (fun c5 => ?_) (fun c5 => ?_) <;> (try exact c5.elim) <;> ((repeat (first | refine w1 (fun K hK => ?_) | refine w2 ?_ | refine w3 ?_ | ((first | refine w4 ?_ | refine wD ?_ | refine w5 ?_ | refine w6 ?_ | refine w7 ?_); try refine sq F ?_) | (refine w8 ?_; refine sq F ?_; refine w9 ?_) | ((first | refine hK _ _ (w0 ?_) | (clear hK K; refine hK _ _ (w0 ?_)) | (clear hK K; clear hK K; refine hK _ _ (w0 ?_))); clear hK K))))
 ·refine ye hQ F ?_
  exact fin _ _ (by simp [signF, c5])
 have hS : signF name = if (if Lib.hasPrefix name [35, 120] = true then numF (name.drop 2) 16 6 else if Lib.hasPrefix name [35] = true then numF (name.drop 1) 10 7 else -1) < 0 then (0, false) else
   if rightF (if Lib.hasPrefix name [35, 120] = true then numF (name.drop 2) 16 6 else if Lib.hasPrefix name [35] = true then numF (name.drop 1) 10 7 else -1) = true then ((if Lib.hasPrefix name [35, 120] = true then numF (name.drop 2) 16 6 else if Lib.hasPrefix name [35] = true then numF (name.drop 1) 10 7 else -1), true) else (65533, true) := by
  unfold signF; rw [if_neg c1, if_neg c2, if_neg c3, if_neg c4, if_neg c5]
 rename_i K0 hK0
 have tail : ∀ (t' : Env) (n : Int), t' 4 = .int .i64 n → -1 ≤ n → n ≤ 268435455 → n = (if Lib.hasPrefix name [35, 120] = true then numF (name.drop 2) 16 6 else if Lib.hasPrefix name [35] = true then numF (name.drop 1) 10 7 else -1) → K0 t' h := by
  intro t' n e4 hb1 hb2 hn
  rw [← hn] at hS
  refine hK0 _ _ (Wkn.refl ?_)
  clear hK0 K0 hK K
  have F := F2 F e4
  by_cases hneg : n < 0
  ·(repeat (first | refine w1 (fun K hK => ?_) | refine w2 ?_ | refine w3 ?_ | ((first | refine w4 ?_ | refine wD ?_ | refine w5 ?_ | refine w6 ?_ | refine w7 ?_); try refine sq F ?_) | (refine w8 ?_; refine sq F ?_; refine w9 ?_) | ((first | refine hK _ _ (w0 ?_) | (clear hK K; refine hK _ _ (w0 ?_)) | (clear hK K; clear hK K; refine hK _ _ (w0 ?_))); clear hK K)))
   refine cq F (fun hc => ?_) (fun hc => ?_) <;> (try exact hc.elim) <;> ((repeat (first | refine w1 (fun K hK => ?_) | refine w2 ?_ | refine w3 ?_ | ((first | refine w4 ?_ | refine wD ?_ | refine w5 ?_ | refine w6 ?_ | refine w7 ?_); try refine sq F ?_) | (refine w8 ?_; refine sq F ?_; refine w9 ?_) | ((first | refine hK _ _ (w0 ?_) | (clear hK K; refine hK _ _ (w0 ?_)) | (clear hK K; clear hK K; refine hK _ _ (w0 ?_))); clear hK K))))
   ·refine ye hQ F ?_
    exact fin _ _ (by rw [hS, if_pos hc])
   ·exfalso; omega
  ·rw [if_neg hneg, sign_end n (by omega)] at hS
   have hng : (decide (n < 0)) = false := by simpa using hneg
   have bad : ((n < 32 ∧ n ≠ 9 ∧ n ≠ 10 ∧ n ≠ 13) ∨ 1114111 < n ∨ (55296 ≤ n ∧ n ≤ 57343)) → signF name = (65533, true) := fun e => by rw [hS, if_pos e]
   have good : ¬ ((n < 32 ∧ n ≠ 9 ∧ n ≠ 10 ∧ n ≠ 13) ∨ 1114111 < n ∨ (55296 ≤ n ∧ n ≤ 57343)) → signF name = (n, true) := fun e => by rw [hS, if_neg e]
   by_cases hsm : n < 32
   ·have hsm' : (decide (n < 32)) = true := by simpa using hsm
    by_cases h9 : n = 9 ∨ n = 10 ∨ n = 13
    ·rcases h9 with rfl | rfl | rfl
     all_goals (
      (repeat (first | refine w1 (fun K hK => ?_) | refine w2 ?_ | refine w3 ?_ | ((first | refine w4 ?_ | refine wD ?_ | refine w5 ?_ | refine w6 ?_ | refine w7 ?_); try refine sq F ?_) | (refine w8 ?_; refine sq F ?_; refine w9 ?_) | ((first | refine hK _ _ (w0 ?_) | (clear hK K; refine hK _ _ (w0 ?_)) | (clear hK K; clear hK K; refine hK _ _ (w0 ?_))); clear hK K)))
      refine ye hQ F ?_
      exact fin _ _ (good (by omega)))
    ·have b9 : (n != 9) = true := by simp; omega
     have b10 : (n != 10) = true := by simp; omega
     have b13 : (n != 13) = true := by simp; omega
     have F := F6 F hng hsm' b9 b10 b13
     (repeat (first | refine w1 (fun K hK => ?_) | refine w2 ?_ | refine w3 ?_ | ((first | refine w4 ?_ | refine wD ?_ | refine w5 ?_ | refine w6 ?_ | refine w7 ?_); try refine sq F ?_) | (refine w8 ?_; refine sq F ?_; refine w9 ?_) | ((first | refine hK _ _ (w0 ?_) | (clear hK K; refine hK _ _ (w0 ?_)) | (clear hK K; clear hK K; refine hK _ _ (w0 ?_))); clear hK K)))
     refine ye hQ F ?_
     exact fin _ _ (bad (by omega))
   ·have hsm' : (decide (n < 32)) = false := by simpa using hsm
    have F := F3 F hng hsm'
    (repeat (first | refine w1 (fun K hK => ?_) | refine w2 ?_ | refine w3 ?_ | ((first | refine w4 ?_ | refine wD ?_ | refine w5 ?_ | refine w6 ?_ | refine w7 ?_); try refine sq F ?_) | (refine w8 ?_; refine sq F ?_; refine w9 ?_) | ((first | refine hK _ _ (w0 ?_) | (clear hK K; refine hK _ _ (w0 ?_)) | (clear hK K; clear hK K; refine hK _ _ (w0 ?_))); clear hK K)))
    refine cq F (fun k1 => ?_) (fun k1 => ?_) <;> (try exact k1.elim) <;> ((repeat (first | refine w1 (fun K hK => ?_) | refine w2 ?_ | refine w3 ?_ | ((first | refine w4 ?_ | refine wD ?_ | refine w5 ?_ | refine w6 ?_ | refine w7 ?_); try refine sq F ?_) | (refine w8 ?_; refine sq F ?_; refine w9 ?_) | ((first | refine hK _ _ (w0 ?_) | (clear hK K; refine hK _ _ (w0 ?_)) | (clear hK K; clear hK K; refine hK _ _ (w0 ?_))); clear hK K))))
    ·refine cq F (fun k1b => ?_) (fun k1b => ?_) <;> (try exact k1b.elim) <;> ((repeat (first | refine w1 (fun K hK => ?_) | refine w2 ?_ | refine w3 ?_ | ((first | refine w4 ?_ | refine wD ?_ | refine w5 ?_ | refine w6 ?_ | refine w7 ?_); try refine sq F ?_) | (refine w8 ?_; refine sq F ?_; refine w9 ?_) | ((first | refine hK _ _ (w0 ?_) | (clear hK K; refine hK _ _ (w0 ?_)) | (clear hK K; clear hK K; refine hK _ _ (w0 ?_))); clear hK K))))
     ·refine ye hQ F ?_
      exact fin _ _ (bad (by omega))
     ·exfalso; omega
    ·(first | refine gq F (fun k2 => ?_) (fun k2 => ?_) | refine pq F (fun k2 => ?_) (fun k2 => ?_)) <;> (try exact k2.elim) <;> (try refine sq F ?_) <;> ((repeat (first | refine w1 (fun K hK => ?_) | refine w2 ?_ | refine w3 ?_ | ((first | refine w4 ?_ | refine wD ?_ | refine w5 ?_ | refine w6 ?_ | refine w7 ?_); try refine sq F ?_) | (refine w8 ?_; refine sq F ?_; refine w9 ?_) | ((first | refine hK _ _ (w0 ?_) | (clear hK K; refine hK _ _ (w0 ?_)) | (clear hK K; clear hK K; refine hK _ _ (w0 ?_))); clear hK K))))
     ·refine cq F (fun k3 => ?_) (fun k3 => ?_) <;> (try exact k3.elim) <;> ((repeat (first | refine w1 (fun K hK => ?_) | refine w2 ?_ | refine w3 ?_ | ((first | refine w4 ?_ | refine wD ?_ | refine w5 ?_ | refine w6 ?_ | refine w7 ?_); try refine sq F ?_) | (refine w8 ?_; refine sq F ?_; refine w9 ?_) | ((first | refine hK _ _ (w0 ?_) | (clear hK K; refine hK _ _ (w0 ?_)) | (clear hK K; clear hK K; refine hK _ _ (w0 ?_))); clear hK K))))
      ·refine ye hQ F ?_
       exact fin _ _ (bad (by omega))
      ·refine ye hQ F ?_
       exact fin _ _ (good (by omega))
     ·refine ye hQ F ?_
      exact fin _ _ (good (by omega))
 have hpt := Lib.hasPrefix_of_take name [35, 120]
 have hp1 : Lib.hasPrefix name [35] = (name.head? == some 35) := by
  cases name with
  | nil => rfl
  | cons c t => simp [Lib.hasPrefix, List.isPrefixOf, Bool.beq_comm, eq_comm]
 have nle := fun (s : Bs) => numF_le s 16 6 (by omega) (by omega) (by omega)
 have nle10 := fun (s : Bs) => numF_le s 10 7 (by omega) (by omega) (by omega)
 have hx : ∀ (a b : UInt8) (t : Bs), Lib.hasPrefix (a :: b :: t) [35, 120] = (a == 35 && b == 120) := fun a b t => by simp [Lib.hasPrefix, List.isPrefixOf, Bool.beq_comm, eq_comm]
 rcases name with _ | ⟨a, _ | ⟨b, _ | ⟨c, t⟩⟩⟩
 ·try refine sq F ?_
  (repeat (first | refine w1 (fun K hK => ?_) | refine w2 ?_ | refine w3 ?_ | ((first | refine w4 ?_ | refine wD ?_ | refine w5 ?_ | refine w6 ?_ | refine w7 ?_); try refine sq F ?_) | (refine w8 ?_; refine sq F ?_; refine w9 ?_) | ((first | refine hK _ _ (w0 ?_) | (clear hK K; refine hK _ _ (w0 ?_)) | (clear hK K; clear hK K; refine hK _ _ (w0 ?_))); clear hK K)))
  refine tail _ (-1) ?_ (by omega) (by omega) rfl
  simp (disch := first | omega | (simp only [go_sem, ↓reduceIte, seval]; first | done | omega) | fail) only [go_sem, ↓reduceIte, seval, F]
 ·have g0 : ([a] : Bs)[0]? = some a := rfl
  try refine sq F ?_
  (repeat (first | refine w1 (fun K hK => ?_) | refine w2 ?_ | refine w3 ?_ | ((first | refine w4 ?_ | refine wD ?_ | refine w5 ?_ | refine w6 ?_ | refine w7 ?_); try refine sq F ?_) | (refine w8 ?_; refine sq F ?_; refine w9 ?_) | ((first | refine hK _ _ (w0 ?_) | (clear hK K; refine hK _ _ (w0 ?_)) | (clear hK K; clear hK K; refine hK _ _ (w0 ?_))); clear hK K)))
  refine tail _ (-1) ?_ (by omega) (by omega) ?_
  ·exact zq F
  ·have h1 : Lib.hasPrefix [a] [35, 120] = false := by simp [Lib.hasPrefix, List.isPrefixOf]
   rw [h1, if_neg (by simp)]
   split <;> rfl
 ·have g0 : (a :: [b])[0]? = some a := rfl
  have h2 : ((a :: [b]).drop 1) = [b] := rfl
  have h3 : (a :: [b]).drop 2 = [] := rfl
  have h4 : Lib.hasPrefix (a :: [b]) [35] = (a == 35) := by simp [Lib.hasPrefix, List.isPrefixOf, Bool.beq_comm, eq_comm]
  rw [hx a b []] at tail
  rw [h2, h3, h4] at tail
  have F := F3 F g0 h2
  try refine sq F ?_
  (repeat (first | refine w1 (fun K hK => ?_) | refine w2 ?_ | refine w3 ?_ | ((first | refine w4 ?_ | refine wD ?_ | refine w5 ?_ | refine w6 ?_ | refine w7 ?_); try refine sq F ?_) | (refine w8 ?_; refine sq F ?_; refine w9 ?_) | ((first | refine hK _ _ (w0 ?_) | (clear hK K; refine hK _ _ (w0 ?_)) | (clear hK K; clear hK K; refine hK _ _ (w0 ?_))); clear hK K)))
  refine cq F (fun k1 => ?_) (fun k1 => ?_) <;> (try exact k1.elim) <;> ((repeat (first | refine w1 (fun K hK => ?_) | refine w2 ?_ | refine w3 ?_ | ((first | refine w4 ?_ | refine wD ?_ | refine w5 ?_ | refine w6 ?_ | refine w7 ?_); try refine sq F ?_) | (refine w8 ?_; refine sq F ?_; refine w9 ?_) | ((first | refine hK _ _ (w0 ?_) | (clear hK K; refine hK _ _ (w0 ?_)) | (clear hK K; clear hK K; refine hK _ _ (w0 ?_))); clear hK K))))
  ·have ha : a = 35 := UInt8.toNat_inj.1 (by have : (a.toNat : Int) = ((35 : UInt8).toNat : Int) := k1; omega)
   subst ha
   refine (rnumber_sat G [b] 10 7 (by omega) (by omega) (by omega) (by simp) _).mono ?_
   rintro r h' ⟨rfl, rfl⟩
   try refine sq F ?_
   (repeat (first | refine w1 (fun K hK => ?_) | refine w2 ?_ | refine w3 ?_ | ((first | refine w4 ?_ | refine wD ?_ | refine w5 ?_ | refine w6 ?_ | refine w7 ?_); try refine sq F ?_) | (refine w8 ?_; refine sq F ?_; refine w9 ?_) | ((first | refine hK _ _ (w0 ?_) | (clear hK K; refine hK _ _ (w0 ?_)) | (clear hK K; clear hK K; refine hK _ _ (w0 ?_))); clear hK K)))
   refine tail _ (numF [b] 10 7) ?_ (nle10 _).1 (nle10 _).2 ?_
   ·exact zq F
   ·by_cases hb : b = 120
    ·subst hb; rfl
    ·rw [if_neg (by simpa using hb), if_pos (by rfl)]
  ·have ha : a ≠ 35 := fun e => k1 (by rw [e]; rfl)
   refine tail _ (-1) ?_ (by omega) (by omega) ?_
   ·exact zq F
   ·rw [if_neg (by simp [ha]), if_neg (by simp [ha])]
 ·have g0 : (a :: b :: c :: t)[0]? = some a := rfl
  have h2 : ((a :: b :: c :: t).drop 1) = b :: c :: t := rfl
  have h3 : (a :: b :: c :: t).drop 2 = c :: t := rfl
  have h5 : (a :: b :: c :: t).take 2 = [a, b] := rfl
  have h4 : Lib.hasPrefix (a :: b :: c :: t) [35] = (a == 35) := by simp [Lib.hasPrefix, List.isPrefixOf, Bool.beq_comm, eq_comm]
  have hl : (a :: b :: c :: t).length = t.length + 3 := rfl
  rw [hx a b (c :: t)] at tail
  rw [h2, h3, h4] at tail
  have d1 : (2 : Int) < ((t.length + 1 + 1 + 1 : Nat) : Int) := by omega
  have d2 : (1 : Int) < ((t.length + 1 + 1 + 1 : Nat) : Int) := by omega
  have d3 : (2 : Int) ≤ ((t.length + 1 + 1 + 1 : Nat) : Int) := by omega
  have d4 : (1 : Int) ≤ ((t.length + 1 + 1 + 1 : Nat) : Int) := by omega
  have hs1 : (c :: t).length ≤ 1073741824 := by simp at hl hs ⊢; omega
  have hs2 : (b :: c :: t).length ≤ 1073741824 := by simp at hl hs ⊢; omega
  have F := F9 F g0 h2 h3 h5 d1 d2 d3 d4
  (first | refine gq F (fun k0 => ?_) (fun k0 => ?_) | refine pq F (fun k0 => ?_) (fun k0 => ?_)) <;> (try exact k0.elim) <;> (try refine sq F ?_) <;> ((repeat (first | refine w1 (fun K hK => ?_) | refine w2 ?_ | refine w3 ?_ | ((first | refine w4 ?_ | refine wD ?_ | refine w5 ?_ | refine w6 ?_ | refine w7 ?_); try refine sq F ?_) | (refine w8 ?_; refine sq F ?_; refine w9 ?_) | ((first | refine hK _ _ (w0 ?_) | (clear hK K; refine hK _ _ (w0 ?_)) | (clear hK K; clear hK K; refine hK _ _ (w0 ?_))); clear hK K))))
  ·refine cq F (fun k1 => ?_) (fun k1 => ?_) <;> (try exact k1.elim) <;> ((repeat (first | refine w1 (fun K hK => ?_) | refine w2 ?_ | refine w3 ?_ | ((first | refine w4 ?_ | refine wD ?_ | refine w5 ?_ | refine w6 ?_ | refine w7 ?_); try refine sq F ?_) | (refine w8 ?_; refine sq F ?_; refine w9 ?_) | ((first | refine hK _ _ (w0 ?_) | (clear hK K; refine hK _ _ (w0 ?_)) | (clear hK K; clear hK K; refine hK _ _ (w0 ?_))); clear hK K))))
   ·simp only [List.cons.injEq, and_true] at k1
    obtain ⟨rfl, rfl⟩ := k1
    refine (rnumber_sat G (c :: t) 16 6 (by omega) (by omega) (by omega) hs1 _).mono ?_
    rintro r h' ⟨rfl, rfl⟩
    try refine sq F ?_
    (repeat (first | refine w1 (fun K hK => ?_) | refine w2 ?_ | refine w3 ?_ | ((first | refine w4 ?_ | refine wD ?_ | refine w5 ?_ | refine w6 ?_ | refine w7 ?_); try refine sq F ?_) | (refine w8 ?_; refine sq F ?_; refine w9 ?_) | ((first | refine hK _ _ (w0 ?_) | (clear hK K; refine hK _ _ (w0 ?_)) | (clear hK K; clear hK K; refine hK _ _ (w0 ?_))); clear hK K)))
    refine tail _ (numF (c :: t) 16 6) ?_ (nle _).1 (nle _).2 ?_
    ·exact zq F
    ·rw [if_pos (by rfl)]
   ·have hne : (a == 35 && b == 120) = false := by
     cases hq : (a == 35 && b == 120) with
     | false => rfl
     | true =>
      simp at hq
      exact absurd (by rw [hq.1, hq.2]) k1
    rw [hne, if_neg (by simp)] at tail
    refine cq F (fun k2 => ?_) (fun k2 => ?_) <;> (try exact k2.elim) <;> ((repeat (first | refine w1 (fun K hK => ?_) | refine w2 ?_ | refine w3 ?_ | ((first | refine w4 ?_ | refine wD ?_ | refine w5 ?_ | refine w6 ?_ | refine w7 ?_); try refine sq F ?_) | (refine w8 ?_; refine sq F ?_; refine w9 ?_) | ((first | refine hK _ _ (w0 ?_) | (clear hK K; refine hK _ _ (w0 ?_)) | (clear hK K; clear hK K; refine hK _ _ (w0 ?_))); clear hK K))))
    ·have ha : a = 35 := UInt8.toNat_inj.1 (by have : (a.toNat : Int) = ((35 : UInt8).toNat : Int) := k2; omega)
     subst ha
     refine (rnumber_sat G (b :: c :: t) 10 7 (by omega) (by omega) (by omega) hs2 _).mono ?_
     rintro r h' ⟨rfl, rfl⟩
     try refine sq F ?_
     (repeat (first | refine w1 (fun K hK => ?_) | refine w2 ?_ | refine w3 ?_ | ((first | refine w4 ?_ | refine wD ?_ | refine w5 ?_ | refine w6 ?_ | refine w7 ?_); try refine sq F ?_) | (refine w8 ?_; refine sq F ?_; refine w9 ?_) | ((first | refine hK _ _ (w0 ?_) | (clear hK K; refine hK _ _ (w0 ?_)) | (clear hK K; clear hK K; refine hK _ _ (w0 ?_))); clear hK K)))
     refine tail _ (numF (b :: c :: t) 10 7) ?_ (nle10 _).1 (nle10 _).2 ?_
     ·exact zq F
     ·rw [if_pos (by rfl)]
    ·have ha : a ≠ 35 := fun e => k2 (by rw [e]; rfl)
     refine tail _ (-1) ?_ (by omega) (by omega) ?_
     ·exact zq F
     ·rw [if_neg (by simp [ha])]
  ·exfalso; simp at k0
end Go.Av
namespace Go.Av
open Go Go.Proofs Go.RowKit
set_option maxRecDepth 100000
def rdE (s : Bs) : Bs := readP (s.length + 1) s
theorem cut_cons (c : UInt8) (t : Bs) (p : UInt8) : Lib.cut (c :: t) [p] = if c = p then ([], t, true) else if (Lib.cut t [p]).2.2 = true then (c :: (Lib.cut t [p]).1, (Lib.cut t [p]).2.1, true) else (c :: t, [], false) := by
 have hp : ([p] : Bs).isPrefixOf (c :: t) = (p == c) := by simp [List.isPrefixOf]
 by_cases h : c = p
 ·subst h
  rw [if_pos rfl]
  unfold Lib.cut Lib.index
  simp
 ·have hpc : (p == c) = false := by simpa using fun e => h e.symm
  rw [if_neg h]
  have hi : Lib.index (c :: t) [p] = if Lib.index t [p] == -1 then -1 else Lib.index t [p] + 1 := by
   rw [Lib.index, hp, hpc]; simp
  have hge := Lib.index_ge t [p]
  unfold Lib.cut
  rw [hi]
  by_cases h1 : Lib.index t [p] = -1
  ·rw [h1]; simp
  ·have h2 : (Lib.index t [p] == -1) = false := by simpa using h1
   have h3 : 0 ≤ Lib.index t [p] := by omega
   rw [h2]
   simp only [Bool.false_eq_true, if_false, if_pos h3]
   rw [if_pos (by omega)]
   simp only [if_true]
   obtain ⟨n, hn⟩ : ∃ n : Nat, Lib.index t [p] = n := ⟨_, (Int.toNat_of_nonneg h3).symm⟩
   rw [hn]
   have e1 : ((n : Int) + 1).toNat = n + 1 := by omega
   have e2 : (n : Int).toNat = n := by omega
   rw [e1, e2]
   simp
theorem readP_fuel : ∀ (n f g : Nat) (s : Bs), s.length ≤ n → s.length < f → s.length < g → readP f s = readP g s := by
 intro n
 induction n with
 | zero =>
  intro f g s h hf hg
  obtain rfl : s = [] := List.length_eq_zero_iff.1 (by omega)
  obtain ⟨f, rfl⟩ : ∃ k, f = k + 1 := ⟨f - 1, by omega⟩
  obtain ⟨g, rfl⟩ : ∃ k, g = k + 1 := ⟨g - 1, by omega⟩
  rw [readP, readP]
  rfl
 | succ n ih =>
  intro f g s h hf hg
  obtain ⟨f, rfl⟩ : ∃ k, f = k + 1 := ⟨f - 1, by omega⟩
  obtain ⟨g, rfl⟩ : ∃ k, g = k + 1 := ⟨g - 1, by omega⟩
  rw [readP, readP]
  by_cases h1 : (Lib.cut s [38]).2.2 = true
  ·have h2 := cut_len s [38] h1
   simp only [List.length_cons, List.length_nil] at h2
   rw [if_pos h1, if_pos h1, ih f g (Lib.cut s [38]).2.1 (by omega) (by omega) (by omega)]
   by_cases h3 : (Lib.cut (Lib.cut s [38]).2.1 [59]).2.2 = true
   ·have h4 := cut_len _ [59] h3
    simp only [List.length_cons, List.length_nil] at h4
    rw [ih f g (Lib.cut (Lib.cut s [38]).2.1 [59]).2.1 (by omega) (by omega) (by omega)]
   ·have h5 : ∀ b c : Bool, ((Lib.cut (Lib.cut s [38]).2.1 [59]).2.2 && b && c) = false := fun b c => by simp [h3]
    rw [h5]; simp
  ·rw [if_neg h1, if_neg h1]
theorem readP_succ (f : Nat) (s : Bs) : readP (f + 1) s =
  if (Lib.cut s [38]).2.2 = true then
   if ((Lib.cut (Lib.cut s [38]).2.1 [59]).2.2 && decide ((Lib.cut (Lib.cut s [38]).2.1 [59]).1.length ≤ 10) && (signF (Lib.cut (Lib.cut s [38]).2.1 [59]).1).2) = true
   then (Lib.cut s [38]).1 ++ (enc (signF (Lib.cut (Lib.cut s [38]).2.1 [59]).1).1 ++ readP f (Lib.cut (Lib.cut s [38]).2.1 [59]).2.1)
   else (Lib.cut s [38]).1 ++ (38 :: readP f (Lib.cut s [38]).2.1)
  else (Lib.cut s [38]).1 := rfl
theorem rdE_nil : rdE [] = [] := rfl
theorem rdE_eq (f : Nat) (s : Bs) (h : s.length < f) : readP f s = rdE s := readP_fuel s.length f _ s (Nat.le_refl _) h (by omega)
theorem rdE_cons (c : UInt8) (t : Bs) (h : c ≠ 38) : rdE (c :: t) = c :: rdE t := by
 have e1 : rdE t = readP (t.length + 2) t := (rdE_eq _ _ (by omega)).symm
 rw [e1]
 show readP (t.length + 2) (c :: t) = _
 rw [readP_succ (t.length + 1) (c :: t), readP_succ (t.length + 1) t, cut_cons, if_neg h]
 by_cases h1 : (Lib.cut t [38]).2.2 = true
 ·rw [if_pos h1, if_pos rfl, if_pos h1]
  simp only []
  split <;> simp
 ·rw [if_neg h1, if_neg (by simp), if_neg h1]
  rw [cut_no t [38] (by simpa using h1)]
theorem rdE_amp (t : Bs) : rdE (38 :: t) = if ((Lib.cut t [59]).2.2 && decide ((Lib.cut t [59]).1.length ≤ 10) && (signF (Lib.cut t [59]).1).2) = true then enc (signF (Lib.cut t [59]).1).1 ++ rdE (Lib.cut t [59]).2.1 else 38 :: rdE t := by
 show readP (t.length + 2) (38 :: t) = _
 rw [readP_succ (t.length + 1), cut_cons, if_pos rfl, if_pos rfl]
 simp only []
 by_cases h : ((Lib.cut t [59]).2.2 && decide ((Lib.cut t [59]).1.length ≤ 10) && (signF (Lib.cut t [59]).1).2) = true
 ·rw [if_pos h, if_pos h]
  simp only [Bool.and_eq_true] at h
  have := cut_len t [59] h.1.1
  rw [rdE_eq _ _ (by simp at this; omega)]; rfl
 ·rw [if_neg h, if_neg h, rdE_eq _ _ (by omega)]; rfl
theorem numF_len (s : Bs) (base : Int) (most : Nat) (h : 0 ≤ numF s base most) : s.length ≤ most := by
 unfold numF at h
 split at h
 ·omega
 ·omega
theorem sign_len (n : Bs) (h : (signF n).2 = true) : n.length ≤ 9 := by
 unfold signF at h
 by_cases c1 : n = [97, 109, 112]
 ·subst c1; decide
 rw [if_neg c1] at h
 by_cases c2 : n = [108, 116]
 ·subst c2; decide
 rw [if_neg c2] at h
 by_cases c3 : n = [103, 116]
 ·subst c3; decide
 rw [if_neg c3] at h
 by_cases c4 : n = [113, 117, 111, 116]
 ·subst c4; decide
 rw [if_neg c4] at h
 by_cases c5 : n = [97, 112, 111, 115]
 ·subst c5; decide
 rw [if_neg c5] at h
 have key : ∀ m : Int, (if m < 0 then ((0 : Int), false) else if rightF m = true then (m, true) else (65533, true)).2 = true → 0 ≤ m := fun m hm => by
  by_cases h0 : m < 0
  ·rw [if_pos h0] at hm; cases hm
  ·omega
 have h0 := key _ h
 by_cases hx : Lib.hasPrefix n [35, 120] = true
 ·rw [if_pos hx] at h0
  have := numF_len _ _ _ h0; simp at this; omega
 ·rw [if_neg hx] at h0
  by_cases hy : Lib.hasPrefix n [35] = true
  ·rw [if_pos hy] at h0
   have := numF_len _ _ _ h0; simp at this; omega
  ·rw [if_neg hy] at h0; omega
theorem cut_at (t : Bs) (p : UInt8) (m : Nat) (h1 : ∀ i, i < m → ∀ c, t[i]? = some c → c ≠ p) (h2 : t[m]? = some p) : Lib.cut t [p] = (t.take m, t.drop (m + 1), true) := by
 induction t generalizing m with
 | nil => simp at h2
 | cons c t ih =>
  rw [cut_cons]
  cases m with
  | zero =>
   simp at h2; subst h2; rw [if_pos rfl]; rfl
  | succ m =>
   have hc : c ≠ p := h1 0 (by omega) c rfl
   rw [if_neg hc, ih m (fun i hi d hd => h1 (i + 1) (by omega) d (by simpa using hd)) (by simpa using h2), if_pos rfl]
   rfl
theorem cut_from (t : Bs) (p : UInt8) (m : Nat) (h1 : ∀ i, i < m → ∀ c, t[i]? = some c → c ≠ p) (h2 : (Lib.cut t [p]).2.2 = true) : m ≤ (Lib.cut t [p]).1.length := by
 obtain ⟨h3, h4⟩ := cut_yes t [p] h2
 refine Nat.le_of_not_lt fun hlt => ?_
 have key : ∀ (a b : Bs), t = a ++ [p] ++ b → t[a.length]? = some p := fun a b e => by rw [e]; simp
 have := key _ _ h3
 exact h1 _ hlt p this rfl
end Go.Av
namespace Go.Av
open Go Go.Proofs Go.RowKit
attribute [local irreducible] WP WPl WPix Sat
set_option maxRecDepth 100000
set_option maxHeartbeats 1000000
variable {G : Nat → Option (List AVal)}
theorem rRead_sat (s : Bs) (hs : s.length ≤ 1048576) (h : Heap) : Sat (CT G) 110 [.str s] h (fun x h' => x = .str (rdE s) ∧ h' = h) := by
 refine sb [.tmp 2] (fn := Tryz.f110) Tryz.func110 ?_
 intro Q hQ
 refine wk trivial ?_
 refine lm (fun nL tL hL => ∃ (i v : Nat) (acc : Bs), s.length - i = nL ∧ h ++ [.row 5 1 v (acc.map bytA)] = hL ∧ tL 3 = .hs h.length v 0 acc.length true ∧ tL 4 = .int .i64 i ∧ i ≤ s.length ∧ acc ++ rdE (s.drop i) = rdE s ∧ acc.length ≤ 4 * i) ((fun (i v : Nat) (acc : Bs) => (s.length - i : Nat)) (0) (0) ([])) ?_ ?_
 ·refine ⟨_, _, Weak.virt 3 5 1 (by simp) (by omega) (by exact zq trivial), ⟨0, 0, [], rfl, hpE, ?_, ?_, ?_, ?_, ?_⟩⟩
  all_goals first | exact zq trivial | rfl | omega | trivial | skip
 rintro _ s2 h' ⟨i, v, acc, rfl, rfl, e3, e4, hi, hp, hz⟩ K2 hK2
 simp only [mix_cons, mix_nil, Nat.reduceEqDiff, ↓reduceIte] at e3 e4
 have F := F2 e3 e4
 refine wk F ?_
 refine cq F (fun hc => ?_) (fun hc => ?_) <;> (try exact hc.elim)
 ·obtain ⟨y, hy, hym⟩ := getElem?_of_lt hc
  have hd := drop_cons_of hy
  rw [hd] at hp
  have F := F2 F hy
  refine wk F ?_
  refine lm (fun nL tL hL => ∃ (m : Nat), 12 - m = nL ∧ h ++ [.row 5 1 v (acc.map bytA)] = hL ∧ tL 5 = .int .i64 (i + 1 + m : Nat) ∧ m ≤ 11 ∧ i + 1 + m ≤ s.length ∧ (∀ j, j < m → ∀ c, (s.drop (i + 1))[j]? = some c → c ≠ 59) ∧ (y ≠ 38 → m = 0)) ((fun (m : Nat) => (12 - m : Nat)) (0)) ?_ ?_
  ·refine Wkn.refl ⟨0, rfl, hpE, ?_, by omega, by omega, fun j hj => by omega, fun _ => rfl⟩
   all_goals first | exact zq F | rfl | omega | trivial | skip
  rintro _ s3 h' ⟨m, rfl, rfl, e5, hm, hk, h59, h0⟩ K3 hK3
  simp only [mix_cons, mix_nil, Nat.reduceEqDiff, ↓reduceIte] at e5
  have F := F2 F e5
  by_cases hy8 : y = 38
  ·have b8 : ((y.toNat : Int) == 38) = true := by rw [hy8]; rfl
   have hamp := rdE_amp (s.drop (i + 1))
   rw [hy8] at hp
   have F := F2 F b8
   refine wk F ?_
   (first | refine gq F (fun g1 => ?_) (fun g1 => ?_) | refine pq F (fun g1 => ?_) (fun g1 => ?_)) <;> (try exact g1.elim) <;> (try refine sq F ?_) <;> (refine wk F ?_)
   ·obtain ⟨z, hz9, hzm⟩ := getElem?_of_lt g1
    have hzd : (s.drop (i + 1))[m]? = some z := by rw [List.getElem?_drop, show i + 1 + m = i + (1 + m) by omega]; exact hz9
    have F := F2 F hz9
    by_cases hz59 : z = 59
    ·have z8 : ((z.toNat : Int) == 59) = true := by rw [hz59]; rfl
     have z9 : ((z.toNat : Int) != 59) = false := by rw [hz59]; rfl
     have hcut := cut_at _ _ m h59 (by rw [hzd, hz59])
     have hsl : ((s.take (i + (1 + m))).drop (i + 1)) = (s.drop (i + 1)).take m := by
      rw [List.drop_take]; congr 1; omega
     rw [hcut] at hamp
     simp only [Bool.true_and] at hamp
     have F := F3 F z8 z9
     try refine sq F ?_
     refine wk F ?_
     (first | refine gq F (fun g2 => ?_) (fun g2 => ?_) | refine pq F (fun g2 => ?_) (fun g2 => ?_)) <;> (try exact g2.elim) <;> (try refine sq F ?_) <;> (refine wk F ?_)
     ·rw [hsl]
      have hml : ((s.drop (i + 1)).take m).length = m := by rw [List.length_take, List.length_drop]; omega
      refine kq F (rSign_sat ((s.drop (i + 1)).take m) (by omega) _) ?_
      refine cq F (fun g3 => ?_) (fun g3 => ?_) <;> (try exact g3.elim) <;> (refine wk F ?_)
      ·have hsl9 := sign_len _ g3
       have hro := sign_rune _ g3
       rw [hml] at hsl9
       have hyes : rdE (38 :: s.drop (i + 1)) = enc (signF ((s.drop (i + 1)).take m)).1 ++ rdE ((s.drop (i + 1)).drop (m + 1)) := by
        rw [hamp, if_pos (by rw [hml]; simp [g3]; omega)]
       rw [hyes, List.drop_drop] at hp
       generalize (signF ((s.drop (i + 1)).take m)).1 = r at hp hro ⊢
       have hput := Put_sat G [r] (by intro q hq; simp at hq; subst hq; exact hro) (by simp) (h ++ [.row 5 1 v (acc.map bytA)])
       have hen := enc_len r
       have hfm : [r].flatMap enc = enc r := by simp
       rw [hfm] at hput
       change Sat _ _ [.sl 1 [.int .i32 r]] _ _ at hput
       refine kq F (hput) ?_
       refine aq F ?_
       try refine sq F ?_
       refine wk F ?_
       refine hK2 _ _ _ (Wkn.refl ⟨i + (1 + m) + 1, v + 1, acc ++ enc r, rfl, by simp [bytA], ?_, ?_, by omega, by rw [← hp, show i + (1 + m) + 1 = i + 1 + (m + 1) by omega]; simp, by simp; omega⟩) (by omega)
       all_goals first | exact zq F | rfl | omega | trivial | skip
      ·have hno : rdE (38 :: s.drop (i + 1)) = 38 :: rdE (s.drop (i + 1)) := by
        rw [hamp, if_neg (by simp [g3])]
       rw [hno] at hp
       refine aq F ?_
       try refine sq F ?_
       refine wk F ?_
       refine hK2 _ _ _ (Wkn.refl ⟨i + 1, v + 1, acc ++ [y], rfl, hpE, ?_, ?_, by omega, by rw [← hp, hy8]; simp, by simp; omega⟩) (by omega)
       all_goals first | exact zq F | rfl | omega | trivial | skip
     ·exfalso; omega
    ·have z8 : ((z.toNat : Int) == 59) = false := by
      have : ¬ (z.toNat : Int) = 59 := fun e => hz59 (UInt8.toNat_inj.1 (by have : (z.toNat : Int) = ((59 : UInt8).toNat : Int) := e; omega))
      simpa using this
     have z9 : ((z.toNat : Int) != 59) = true := by rw [bne, z8]; rfl
     have h59' : ∀ j, j < m + 1 → ∀ c, (s.drop (i + 1))[j]? = some c → c ≠ 59 := fun j hj c hcj => by
      rcases Nat.lt_or_ge j m with h1 | h1
      ·exact h59 j h1 c hcj
      ·obtain rfl : j = m := by omega
       rw [hzd] at hcj; cases hcj; exact hz59
     have F := F3 F z8 z9
     try refine sq F ?_
     refine wk F ?_
     refine cq F (fun g3 => ?_) (fun g3 => ?_) <;> (try exact g3.elim) <;> (refine wk F ?_)
     ·refine hK3 _ _ _ (Wkn.refl ⟨m + 1, rfl, hpE, ?_, by omega, by omega, h59', fun hh => absurd hy8 hh⟩) (by omega)
      all_goals first | exact zq F | rfl | omega | trivial | skip
     ·have hno : rdE (38 :: s.drop (i + 1)) = 38 :: rdE (s.drop (i + 1)) := by
       rw [hamp, if_neg]
       intro hcc
       simp only [Bool.and_eq_true, decide_eq_true_eq] at hcc
       have k1 := cut_from _ _ (m + 1) h59' hcc.1.1
       omega
      rw [hno] at hp
      (first | refine gq F (fun g2 => ?_) (fun g2 => ?_) | refine pq F (fun g2 => ?_) (fun g2 => ?_)) <;> (try exact g2.elim) <;> (try refine sq F ?_) <;> (refine wk F ?_)
      ·refine aq F ?_
       try refine sq F ?_
       refine wk F ?_
       refine hK2 _ _ _ (Wkn.refl ⟨i + 1, v + 1, acc ++ [y], rfl, hpE, ?_, ?_, by omega, by rw [← hp, hy8]; simp, by simp; omega⟩) (by omega)
       all_goals first | exact zq F | rfl | omega | trivial | skip
      ·exfalso; omega
   ·have hno : rdE (38 :: s.drop (i + 1)) = 38 :: rdE (s.drop (i + 1)) := by
     rw [hamp, if_neg]
     intro hcc
     simp only [Bool.and_eq_true] at hcc
     have k1 := cut_from _ _ m h59 hcc.1.1
     have k2 := cut_len _ _ hcc.1.1
     rw [List.length_drop] at k2
     simp only [List.length_cons, List.length_nil] at k2
     omega
    rw [hno] at hp
    have g1' : (decide (i + (1 + m) < s.length)) = false := by simpa using g1
    have F := F2 F g1'
    (first | refine gq F (fun g2 => ?_) (fun g2 => ?_) | refine pq F (fun g2 => ?_) (fun g2 => ?_)) <;> (try exact g2.elim) <;> (try refine sq F ?_) <;> (refine wk F ?_)
    ·exact absurd g2 (by simp)
    refine aq F ?_
    try refine sq F ?_
    refine wk F ?_
    refine hK2 _ _ _ (Wkn.refl ⟨i + 1, v + 1, acc ++ [y], rfl, hpE, ?_, ?_, by omega, by rw [← hp, hy8]; simp, by simp; omega⟩) (by omega)
    all_goals first | exact zq F | rfl | omega | trivial | skip
  ·have b8 : ((y.toNat : Int) == 38) = false := by
    have : ¬ (y.toNat : Int) = 38 := fun e => hy8 (UInt8.toNat_inj.1 (by have : (y.toNat : Int) = ((38 : UInt8).toNat : Int) := e; omega))
    simpa using this
   have hpl := rdE_cons y (s.drop (i + 1)) hy8
   rw [hpl] at hp
   have F := F2 F b8
   refine wk F ?_
   refine aq F ?_
   try refine sq F ?_
   refine wk F ?_
   refine hK2 _ _ _ (Wkn.refl ⟨i + 1, v + 1, acc ++ [y], rfl, hpE, ?_, ?_, by omega, by rw [← hp]; simp, by simp; omega⟩) (by omega)
   all_goals first | exact zq F | rfl | omega | trivial | skip
 ·rw [drop_nil_of hc, rdE_nil, List.append_nil] at hp
  have hb := bytesA_map acc
  have hel : elemsOf (h ++ [.row 5 1 v (acc.map bytA)]) 1 (.hs h.length v 0 acc.length true) = some (acc.map bytA) := by
   simp [elemsOf, getRow, List.take_of_length_le]
  have F := F4 F hb hel @bytesStr_u8
  refine wk F ?_
  refine ee hQ F ?_
  rw [← hp]
  exact Fin.plainE (j := _) rfl (.str _) ⟨rfl, rfl⟩
end Go.Av
namespace Go.Av
open Go Go.Proofs Go.RowKit
attribute [local irreducible] WP WPl WPix Sat
set_option maxRecDepth 100000
set_option maxHeartbeats 1000000
variable {G : Nat → Option (List AVal)}
theorem mix_y (G : Nat → Option (List AVal)) : (CT G).P.follows .mixedOrders = true := by kernel_rfl
theorem wpOperV_store {C : Ctx} {ops : Array Oper} {T : TypeId} {x y : Operand} {ty : TypeId} {pos : String} {aft : Array Edge} {dst : Option Tmp} {t : Env} {h : Heap} {K : AVal → Heap → Prop} :
  wpOperV C ops ⟨dst, .store T x y, ty, pos, aft, none⟩ t h K = storeK C T (aev C.G t x) (aev C.G t y) h (fun h' => K undefA h') := rfl
theorem uptoF_ix (w s : Bs) (b : Bool) : (Lib.index s w < 0 ∧ uptoF w s b = ([], s, true)) ∨ ∃ m : Nat, Lib.index s w = m ∧ m + w.length ≤ s.length ∧ uptoF w s b = (s.take m, s.drop (m + w.length), b) := by
 unfold uptoF Lib.cut
 by_cases h0 : 0 ≤ Lib.index s w
 ·right
  have hr := Lib.index_room s w h0
  rcases Lib.index_spec s w with ⟨e, _⟩ | ⟨i, e, hi, ho, _⟩
  ·omega
  ·refine ⟨i, e, by omega, ?_⟩
   rw [if_pos h0, e]; rfl
 ·left
  rw [if_neg h0]; exact ⟨by omega, rfl⟩
theorem contains_ix (s w : Bs) : Lib.contains s w = decide (0 ≤ Lib.index s w) := rfl
theorem valueF_q (c : UInt8) (t : Bs) (hc : c = 34 ∨ c = 39) : valueF (c :: t) false = (rdE (uptoF [c] t false).1, (uptoF [c] t false).2.1, (uptoF [c] t false).2.2 || Lib.contains (uptoF [c] t false).1 [60]) := by
 have h34 : Lib.hasPrefix (c :: t) [34] = (c == 34) := by simp [Lib.hasPrefix, List.isPrefixOf, Bool.beq_comm, eq_comm]
 have h39 : Lib.hasPrefix (c :: t) [39] = (c == 39) := by simp [Lib.hasPrefix, List.isPrefixOf, Bool.beq_comm, eq_comm]
 rcases hc with rfl | rfl
 ·unfold valueF
  simp only [h34]
  simp [Lib.trimPrefix, Lib.hasPrefix, List.isPrefixOf, rdE]
 ·unfold valueF
  simp only [h34]
  simp [Lib.trimPrefix, Lib.hasPrefix, List.isPrefixOf, rdE]
theorem valueF_no (s : Bs) (h1 : Lib.hasPrefix s [34] = false) (h2 : Lib.hasPrefix s [39] = false) : (valueF s false).2.2 = true := by
 unfold valueF
 simp only [h1, Bool.false_eq_true, if_false, h2, Bool.not_false, Bool.or_true, uptoF_bad, Bool.true_or]
theorem attrX_bad (s : Bs) (h : badN (nameW s) = true) : (attrX s false).2.2 = true := by
 cases hq : (attrX s false).2.2 with
 | true => rfl
 | false => rw [attrX_good s hq] at h; cases h
theorem attrX_eq (s : Bs) (h : badN (nameW s) = false) : attrX s false = if Lib.hasPrefix ((nameR s).dropWhile blankB) [61] = false then ((nameW s, []), (Lib.trimPrefix ((nameR s).dropWhile blankB) [61]).dropWhile blankB, true)
  else ((nameW s, (valueF ((Lib.trimPrefix ((nameR s).dropWhile blankB) [61]).dropWhile blankB) false).1), (valueF ((Lib.trimPrefix ((nameR s).dropWhile blankB) [61]).dropWhile blankB) false).2) := by
 unfold attrX
 simp only [h]
 cases hq : Lib.hasPrefix ((nameR s).dropWhile blankB) [61] <;> simp
theorem badN_nil (n : Bs) (h : badN n = false) : n ≠ [] := by rintro rfl; cases h
theorem rattr_sat (hG : GOk G) (hC : GClo (CT G)) (s : Bs) (hs : s.length ≤ 1048576) (h : Heap) : Sat (CT G) 140 [.str s] h
  (fun r h' => ∃ (a : At) (rest : Bs), r = .tup [a.av, .str rest, .bool (!(attrX s false).2.2)] ∧ ((attrX s false).2.2 = false → a = (attrX s false).1 ∧ rest = (attrX s false).2.1) ∧ h' = h) := by
 have bad : ∀ j : Heap, (attrX s false).2.2 = true → Fin h (h ++ j) (fun r h' => ∃ (a : At) (rest : Bs), r = .tup [a.av, .str rest, .bool (!(attrX s false).2.2)] ∧ ((attrX s false).2.2 = false → a = (attrX s false).1 ∧ rest = (attrX s false).2.1) ∧ h' = h)
   (.tup [.agg [.str [], .str []], .str [], .bool false]) := fun j e => by
  refine Fin.plain (.tup _ (by intro c hc; simp at hc; rcases hc with rfl | rfl | rfl; exact At.clo _ ([], []); exact .str _; exact .bool _)) ⟨([], []), [], by rw [e]; rfl, (fun e2 => by rw [e] at e2; cases e2), rfl⟩
 have h1 : (nameR s).length ≤ s.length := drop_len _ _
 have h2 := drop_len blankB (nameR s)
 have hn := rname_sat hG hC s (by omega)
 cases hb : badN (nameW s) with
 | true =>
  have e : nmR s = ([], s) := by unfold nmR; rw [if_pos hb]
  have h3 := drop_len blankB s
  have he : (([] : Bs) == []) = true := rfl
  rw [e] at hn
  have F := he
  refine sb [.cell 2 67, .tmp 3, .tmp 4] (fn := Tryz.f140) Tryz.func140 ?_
  intro Q hQ
  refine wk F ?_
  refine kq F (hn _) ?_
  refine kq F (rblanks_sat hG hC s (by omega) _) ?_
  refine ye hQ F ?_
  exact bad _ (attrX_bad s hb)
 | false =>
  have e : nmR s = (nameW s, nameR s) := by unfold nmR; rw [if_neg (by simp [hb])]
  have hne : (nameW s == []) = false := by simpa using badN_nil _ hb
  have hx := attrX_eq s hb
  have h3 := trim_len ((nameR s).dropWhile blankB) [61]
  have h4 := drop_len blankB (Lib.trimPrefix ((nameR s).dropWhile blankB) [61])
  rw [e] at hn
  have F := hne
  refine sb [.cell 2 67, .tmp 3, .tmp 4] (fn := Tryz.f140) Tryz.func140 ?_
  intro Q hQ
  refine wk F ?_
  refine kq F (hn _) ?_
  refine kq F (rblanks_sat hG hC (nameR s) (by omega) _) ?_
  refine kq F (rhas_sat ((nameR s).dropWhile blankB) [61] _) ?_
  generalize (nameR s).dropWhile blankB = s2 at hx h2 h3 h4 ⊢
  refine cq F (fun c1 => ?_) (fun c1 => ?_) <;> (try exact c1.elim) <;> (refine wk F ?_)
  ·rw [if_pos c1] at hx
   refine ye hQ F ?_
   exact bad _ (by rw [hx])
  ·rw [if_neg (by simp [c1])] at hx
   have h5 : s2.drop 1 = Lib.trimPrefix s2 [61] := by unfold Lib.trimPrefix; rw [if_pos c1]; rfl
   have h6 : (1 : Int) ≤ s2.length := by have := has_len s2 [61] c1; simp at this; omega
   have F := F2 F h6
   try refine sq F ?_
   refine wk F ?_
   rw [h5]
   refine kq F (rblanks_sat hG hC (Lib.trimPrefix s2 [61]) (by omega) _) ?_
   generalize (Lib.trimPrefix s2 [61]).dropWhile blankB = s4 at hx h4 ⊢
   cases s4 with
   | nil =>
    try refine sq F ?_
    refine wk F ?_
    refine ye hQ F ?_
    exact bad _ (by rw [hx]; exact valueF_no [] rfl rfl)
   | cons c t =>
    have hl : (((t.length + 1 : Nat) : Int) == 0) = false := by simp; omega
    have h00 : (c :: t)[0]? = some c := rfl
    have ht : t.length ≤ 1048576 := by simp at h4; omega
    have F := F3 F hl h00
    by_cases q4 : c = 34
    ·subst q4
     have n4 : ((UInt8.toNat 34 : Int) != 34) = false := rfl
     have hq := valueF_q 34 t (.inl rfl)
     have F := F2 F n4
     try refine sq F ?_
     refine wk F ?_
     refine ⟨_, rfind_sat t [34] (by omega) (by simp) _, ?_⟩
     try refine sq F ?_
     refine wk F ?_
     rcases uptoF_ix [34] t false with ⟨g1, g2⟩ | ⟨m, g1, g2, g3⟩
     ·have b1 : decide (Lib.index t [34] < 0) = true := by simpa using g1
      have F := F2 F b1
      try refine sq F ?_
      refine wk F ?_
      refine ye hQ F ?_
      exact bad _ (by rw [hx, hq, g2]; rfl)
     ·rw [g1]
      have b1 : decide ((m : Int) < 0) = false := by simp
      simp only [List.length_cons, List.length_nil] at g2
      have F := F2 F b1
      try refine sq F ?_
      refine wk F ?_
      have e1 : (1 + (m : Int)).toNat = m + 1 := by omega
      have e2 : List.drop 1 (List.take (m + 1) (34 :: t)) = t.take m := rfl
      have e3 : (2 + (m : Int)).toNat = m + 1 + 1 := by omega
      have e4 : List.drop (m + 1 + 1) (34 :: t) = t.drop (m + 1) := rfl
      have hl5 : (t.take m).length = m := by rw [List.length_take]; omega
      rw [g3] at hq
      rw [e1, e2]
      refine kq F (rfind_sat (t.take m) [60] (by omega) (by simp) _) ?_
      cases hct : Lib.contains (t.take m) [60] with
      | true =>
       have b2 : decide (0 ≤ Lib.index (t.take m) [60]) = true := hct
       have F := F2 F b2
       refine wk F ?_
       refine ye hQ F ?_
       exact bad _ (by rw [hx, hq]; simp [hct])
      | false =>
       have b2 : decide (0 ≤ Lib.index (t.take m) [60]) = false := hct
       have F := F6 F b2 e1 e2 e3 e4
       refine wk F ?_
       refine WP_draw5 11 11 _ (by rfl) (by decide +kernel) (by kernel_rfl) (by decide +kernel) (by decide +kernel) (by decide +kernel) ?_
       simp only [List.take_succ_cons, List.take_zero]
       refine sq F ?_
       refine wk F ?_
       refine ⟨_, rRead_sat (t.take m) (by omega) _, ?_⟩
       try refine sq F ?_
       refine wk F ?_
       rw [wpOperV_store]
       simp (disch := first | omega | (simp only [go_sem, ↓reduceIte, seval]; first | done | omega) | fail) only [go_sem, ↓reduceIte, seval, F]
       refine ⟨⟨_, rRead_sat (t.take m) (by omega) _, ?_⟩, ?_⟩
       ·exact zq F
       refine wk F ?_
       refine ye hQ F ?_
       refine Fin.plain (.tup _ (by intro c hc; simp at hc; rcases hc with rfl | rfl | rfl; exact At.clo _ (_, _); exact .str _; exact .bool _)) ⟨(nameW s, rdE (t.take m)), t.drop (m + 1), by rw [hx, hq]; simp [hct, At.av], (fun _ => by rw [hx, hq]; exact ⟨rfl, rfl⟩), rfl⟩
    ·by_cases q9 : c = 39
     ·subst q9
      have n4 : ((UInt8.toNat 39 : Int) != 34) = true := rfl
      have n9 : ((UInt8.toNat 39 : Int) != 39) = false := rfl
      have hq := valueF_q 39 t (.inr rfl)
      have F := F3 F n4 n9
      try refine sq F ?_
      refine wk F ?_
      refine ⟨_, rfind_sat t [39] (by omega) (by simp) _, ?_⟩
      try refine sq F ?_
      refine wk F ?_
      rcases uptoF_ix [39] t false with ⟨g1, g2⟩ | ⟨m, g1, g2, g3⟩
      ·have b1 : decide (Lib.index t [39] < 0) = true := by simpa using g1
       have F := F2 F b1
       try refine sq F ?_
       refine wk F ?_
       refine ye hQ F ?_
       exact bad _ (by rw [hx, hq, g2]; rfl)
      ·rw [g1]
       have b1 : decide ((m : Int) < 0) = false := by simp
       simp only [List.length_cons, List.length_nil] at g2
       have F := F2 F b1
       try refine sq F ?_
       refine wk F ?_
       have e1 : (1 + (m : Int)).toNat = m + 1 := by omega
       have e2 : List.drop 1 (List.take (m + 1) (39 :: t)) = t.take m := rfl
       have e3 : (2 + (m : Int)).toNat = m + 1 + 1 := by omega
       have e4 : List.drop (m + 1 + 1) (39 :: t) = t.drop (m + 1) := rfl
       have hl5 : (t.take m).length = m := by rw [List.length_take]; omega
       rw [g3] at hq
       rw [e1, e2]
       refine kq F (rfind_sat (t.take m) [60] (by omega) (by simp) _) ?_
       cases hct : Lib.contains (t.take m) [60] with
       | true =>
        have b2 : decide (0 ≤ Lib.index (t.take m) [60]) = true := hct
        have F := F2 F b2
        refine wk F ?_
        refine ye hQ F ?_
        exact bad _ (by rw [hx, hq]; simp [hct])
       | false =>
        have b2 : decide (0 ≤ Lib.index (t.take m) [60]) = false := hct
        have F := F6 F b2 e1 e2 e3 e4
        refine wk F ?_
        refine WP_draw5 11 11 _ (by rfl) (by decide +kernel) (by kernel_rfl) (by decide +kernel) (by decide +kernel) (by decide +kernel) ?_
        simp only [List.take_succ_cons, List.take_zero]
        refine sq F ?_
        refine wk F ?_
        refine ⟨_, rRead_sat (t.take m) (by omega) _, ?_⟩
        try refine sq F ?_
        refine wk F ?_
        rw [wpOperV_store]
        simp (disch := first | omega | (simp only [go_sem, ↓reduceIte, seval]; first | done | omega) | fail) only [go_sem, ↓reduceIte, seval, F]
        refine ⟨⟨_, rRead_sat (t.take m) (by omega) _, ?_⟩, ?_⟩
        ·exact zq F
        refine wk F ?_
        refine ye hQ F ?_
        refine Fin.plain (.tup _ (by intro c hc; simp at hc; rcases hc with rfl | rfl | rfl; exact At.clo _ (_, _); exact .str _; exact .bool _)) ⟨(nameW s, rdE (t.take m)), t.drop (m + 1), by rw [hx, hq]; simp [hct, At.av], (fun _ => by rw [hx, hq]; exact ⟨rfl, rfl⟩), rfl⟩
     ·have n4 : ((c.toNat : Int) != 34) = true := by have : ¬ (c.toNat : Int) = 34 := fun e => q4 (UInt8.toNat_inj.1 (by have : (c.toNat : Int) = ((34 : UInt8).toNat : Int) := e; omega)); simpa using this
      have n9 : ((c.toNat : Int) != 39) = true := by have : ¬ (c.toNat : Int) = 39 := fun e => q9 (UInt8.toNat_inj.1 (by have : (c.toNat : Int) = ((39 : UInt8).toNat : Int) := e; omega)); simpa using this
      have F := F3 F n4 n9
      try refine sq F ?_
      refine wk F ?_
      refine ye hQ F ?_
      exact bad _ (by rw [hx]; exact valueF_no (c :: t) (by simpa [Lib.hasPrefix, List.isPrefixOf] using fun e => q4 e.symm) (by simpa [Lib.hasPrefix, List.isPrefixOf] using fun e => q9 e.symm))
end Go.Av
namespace Go.Av
open Go Go.Proofs Go.RowKit
attribute [local irreducible] WP WPl WPix Sat
set_option maxRecDepth 100000
set_option maxHeartbeats 1000000
variable {G : Nat → Option (List AVal)}
theorem rupto_sat (s a z : Bs) (hs : s.length ≤ 1048576) (ha : a.length ≤ s.length) (hz : z.length ≤ 100) (h : Heap) : Sat (CT G) 112 [.str s, .str a, .str z] h
  (fun r h' => ∃ rest : Bs, r = .tup [.str (uptoF z (s.drop a.length) false).1, .str rest, .bool (!(uptoF z (s.drop a.length) false).2.2)] ∧ ((uptoF z (s.drop a.length) false).2.2 = false → rest = (uptoF z (s.drop a.length) false).2.1) ∧ h' = h) := by
 have fin : ∀ (x rest : Bs) (b : Bool), x = (uptoF z (s.drop a.length) false).1 → b = (!(uptoF z (s.drop a.length) false).2.2) → ((uptoF z (s.drop a.length) false).2.2 = false → rest = (uptoF z (s.drop a.length) false).2.1) → Fin h h (fun r h' => ∃ rest : Bs, r = .tup [.str (uptoF z (s.drop a.length) false).1, .str rest, .bool (!(uptoF z (s.drop a.length) false).2.2)] ∧ ((uptoF z (s.drop a.length) false).2.2 = false → rest = (uptoF z (s.drop a.length) false).2.1) ∧ h' = h) (.tup [.str x, .str rest, .bool b]) := fun x rest b e1 e2 e3 => by
  refine Fin.frzS (.clo _ (.tup _ (by intro c hc; simp at hc; rcases hc with rfl | rfl | rfl; exact .str _; exact .str _; exact .bool _))) ⟨rest, by rw [← e1, ← e2], e3, rfl⟩
 have hl : (s.drop a.length).length = s.length - a.length := List.length_drop
 refine sb [.tmp 6, .tmp 7, .tmp 8] (fn := Tryz.f112) Tryz.func112 ?_
 intro Q hQ
 refine wk trivial ?_
 refine kq trivial (rfind_sat (s.drop a.length) z (by omega) (by omega) _) ?_
 rcases uptoF_ix z (s.drop a.length) false with ⟨g1, g2⟩ | ⟨m, g1, g2, g3⟩
 ·have b1 : decide (Lib.index (s.drop a.length) z < 0) = true := by simpa using g1
  have F := b1
  try refine sq F ?_
  refine wk F ?_
  refine ye hQ F ?_
  exact fin _ _ _ (by rw [g2]) (by rw [g2]; rfl) (fun e => by rw [g2] at e; cases e)
 ·rw [g1]
  have b1 : decide ((m : Int) < 0) = false := by simp
  have e1 : ((a.length : Int) + (m : Int)).toNat = a.length + m := by omega
  have e2 : ((a.length : Int) + (m : Int) + (z.length : Int)).toNat = a.length + m + z.length := by omega
  have e3 : List.drop a.length (List.take (a.length + m) s) = (s.drop a.length).take m := by rw [List.drop_take]; congr 1; omega
  have e4 : List.drop (a.length + (m + z.length)) s = (s.drop a.length).drop (m + z.length) := by rw [List.drop_drop]
  have F := F5 b1 e1 e2 e3 e4
  try refine sq F ?_
  refine wk F ?_
  refine ye hQ F ?_
  exact fin _ _ _ (by rw [g3]) (by rw [g3]; rfl) (fun _ => by rw [g3])
end Go.Av
namespace Go.Av
open Go Go.Proofs Go.RowKit
attribute [local irreducible] WP WPl WPix Sat
set_option maxRecDepth 100000
set_option maxHeartbeats 1000000
variable {G : Nat → Option (List AVal)}
theorem Frz.slR {h : Heap} {n m : Nat} {es fs : List AVal} (z : FrzRs h n es fs) : Frz h n (.sl m es) (.sl m fs) :=
 .sl _ _ _ z.len.symm (fun i r s h1 h2 => ⟨(z.at_ i r s h1 h2).len, fun j d hd => (z.at_ i r s h1 h2).sto d (List.mem_of_getElem? hd)⟩) fun i r s j c d h1 h2 h3 h4 => (z.at_ i r s h1 h2).cell j c d h3 h4
theorem tok_frzN {h : Heap} {n : Nat} (k : Int) (nm tx : Bs) : FrzR h n (.agg [.int .i64 k, .str nm, .nil (.slice none 0 0), .str tx]) (Tok.av (k, nm, [], tx)) :=
 FrzL.row (.cons (.clo _ (.int _ _)) (.cons (.clo _ (.str _)) (.cons (.nils _) (.cons (.clo _ (.str _)) .nil)))) rfl
theorem tok_frzC {h : Heap} {n : Nat} (t : Tok) : FrzR h n t.av t.av := FrzR.clo (Tok.clo _ t) (fun c hc => t.av_sto c hc)
def OpenR (h : Heap) (y : List Tok × Bs × Bool) (r : AVal) (h' : Heap) : Prop :=
 ∃ (ts : List Tok) (rest : Bs), r = .tup [.sl 4 (ts.map Tok.av), .str rest, .bool (!y.2.2)] ∧ (y.2.2 = false → ts = y.1 ∧ rest = y.2.1) ∧ h' = h
theorem toks_clo (n : Nat) (l : List Tok) : Clo n (.sl 4 (l.map Tok.av)) := by
 refine .sl _ _ fun c hc => ?_
 obtain ⟨a, _, rfl⟩ := List.mem_map.1 hc
 exact Tok.clo _ a
theorem OpenR.bad {h : Heap} {y : List Tok × Bs × Bool} (j : Heap) (e : y.2.2 = true) : Fin h (h ++ j) (OpenR h y) (.tup [.nil (.slice none 0 0), .str [], .bool false]) :=
 Fin.frz (FrzL.tup (.cons (.nils 4) (.cons (.clo _ (.str _)) (.cons (.clo _ (.bool _)) .nil)))) ⟨[], [], by rw [e]; rfl, (fun e2 => by rw [e] at e2; cases e2), rfl⟩
theorem OpenR.mk {h : Heap} {y : List Tok × Bs × Bool} (j : Heap) {x : AVal} {rest : Bs} {b : Bool} (ts : List Tok) (hx : Frz (h ++ j) h.length x (.sl 4 (ts.map Tok.av))) (hb : b = !y.2.2) (hg : y.2.2 = false → ts = y.1 ∧ rest = y.2.1) : Fin h (h ++ j) (OpenR h y) (.tup [x, .str rest, .bool b]) :=
 Fin.frz (FrzL.tup (.cons hx (.cons (.clo _ (.str _)) (.cons (.clo _ (.bool _)) .nil)))) ⟨ts, rest, by rw [hb], hg, rfl⟩
theorem OpenR.good {h : Heap} {y : List Tok × Bs × Bool} (j : Heap) (ts : List Tok) (rest : Bs) (e : y = (ts, rest, false)) : Fin h (h ++ j) (OpenR h y) (.tup [.sl 4 (ts.map Tok.av), .str rest, .bool true]) := by
 subst e
 exact Fin.plain (.tup _ (by intro c hc; simp at hc; rcases hc with rfl | rfl | rfl; exact toks_clo _ ts; exact .str _; exact .bool _)) ⟨ts, rest, rfl, fun _ => ⟨rfl, rfl⟩, rfl⟩
theorem tok_weak (h jj : Heap) (n : Bs) (v : Nat) (at_ : List At) {C : Ctx} (ms : List Nat) (t : Env) :
  Weak C ms t (h ++ tkR n (h.length + 1) v at_.length :: atR v at_ :: jj) t (h ++ .row 83 4 0 [Tok.av (1, n, at_, [])] :: .dead :: jj) := by
 have g1 : getRow (h ++ tkR n (h.length + 1) v at_.length :: atR v at_ :: jj) (h.length + 1) v = some (67, 2, at_.map At.av) := by rw [gs_new _ rfl]; simp [getRow, atR]
 have g2 : getRow (h ++ tkR n (h.length + 1) v at_.length :: atR v at_ :: jj) h.length 0 = some (83, 4, [.agg [.int .i64 1, .str n, .hs (h.length + 1) v 0 at_.length true, .str []]]) := by rw [gs_new0 _ rfl]; simp [getRow, tkR]
 have := Weak.fzIn (C := C) (ms := ms) (t := t) (t1 := t) (h := h ++ tkR n (h.length + 1) v at_.length :: atR v at_ :: jj) (h.length + 1) v h.length 0 [Tok.av (1, n, at_, [])] g1 (by omega) g2 (by simp) (fun i x y hx hy => by
   match i with
   | 0 =>
    simp at hx hy; subst hx; subst hy
    refine ⟨rfl, fun j c d hc hd => ?_⟩
    match j with
    | 0 => simp [AVal.cells, Tok.av] at hc hd; subst hc; subst hd; exact ⟨.same _, rfl⟩
    | 1 => simp [AVal.cells, Tok.av] at hc hd; subst hc; subst hd; exact ⟨.same _, rfl⟩
    | 2 =>
     simp [AVal.cells, Tok.av] at hc hd; subst hc; subst hd
     exact ⟨Fz.all _ _ _ g1 rfl (by simp), by simp [AVal.sto]⟩
    | 3 => simp [AVal.cells, Tok.av] at hc hd; subst hc; subst hd; exact ⟨.same _, rfl⟩
    | _ + 4 => simp [AVal.cells, Tok.av] at hc
   | _ + 1 => simp at hx) (fun _ => .inl rfl)
 simpa using this
theorem ropen_sat (hG : GOk G) (hC : GClo (CT G)) (s : Bs) (hs : s.length ≤ 1048576) (h : Heap) : Sat (CT G) 115 [.str s] h (OpenR h (openF s)) := by
 have h1 : (nameR s).length ≤ s.length := drop_len _ _
 have hn := rname_sat hG hC s (by omega)
 cases hb : badN (nameW s) with
 | true =>
  have e : nmR s = ([], s) := by unfold nmR; rw [if_pos hb]
  have he : (([] : Bs) == []) = true := rfl
  have ho : (openF s).2.2 = true := by unfold openF; rw [hb, openL, if_pos rfl]
  rw [e] at hn
  have F := he
  refine sb [.tmp 2, .tmp 3, .tmp 4] (fn := Tryz.f115) Tryz.func115 ?_
  intro Q hQ
  (repeat (first | refine w1 (fun K hK => ?_) | refine w2 ?_ | refine w3 ?_ | ((first | refine w4 ?_ | refine wD ?_ | refine w5 ?_ | refine w6 ?_ | refine w7 ?_); try refine sq F ?_) | (refine w8 ?_; refine sq F ?_; refine w9 ?_) | (refine rq F ?_; try refine sq F ?_) | (refine vq F ?_; try refine sq F ?_) | ((first | refine hK _ _ (w0 ?_) | (clear hK K; refine hK _ _ (w0 ?_)) | (clear hK K; clear hK K; refine hK _ _ (w0 ?_))); clear hK K)))
  refine (hn _).mono ?_
  rintro r h' ⟨rfl, hk_⟩
  replace hk_ := hk_.symm
  subst hk_
  try refine sq F ?_
  (repeat (first | refine w1 (fun K hK => ?_) | refine w2 ?_ | refine w3 ?_ | ((first | refine w4 ?_ | refine wD ?_ | refine w5 ?_ | refine w6 ?_ | refine w7 ?_); try refine sq F ?_) | (refine w8 ?_; refine sq F ?_; refine w9 ?_) | (refine rq F ?_; try refine sq F ?_) | (refine vq F ?_; try refine sq F ?_) | ((first | refine hK _ _ (w0 ?_) | (clear hK K; refine hK _ _ (w0 ?_)) | (clear hK K; clear hK K; refine hK _ _ (w0 ?_))); clear hK K)))
  refine lm (fun nL tL hL => 0 = nL ∧ h ++ [.row 83 4 0 [.agg [.int .i64 1, .str [], .nil (.slice none 0 0), .str []]]] = hL ∧ tL 5 = .str []) (0) ?_ ?_
  ·refine Wkn.refl ⟨rfl, hpE, ?_⟩
   all_goals first | exact zq F | rfl | omega | trivial | skip
  rintro _ s2 h' ⟨rfl, rfl, e5⟩ K2 hK2
  simp only [mix_cons, mix_nil, Nat.reduceEqDiff, ↓reduceIte] at e5
  have F := F2 F e5
  (repeat (first | refine w1 (fun K hK => ?_) | refine w2 ?_ | refine w3 ?_ | ((first | refine w4 ?_ | refine wD ?_ | refine w5 ?_ | refine w6 ?_ | refine w7 ?_); try refine sq F ?_) | (refine w8 ?_; refine sq F ?_; refine w9 ?_) | (refine rq F ?_; try refine sq F ?_) | (refine vq F ?_; try refine sq F ?_) | ((first | refine hK _ _ (w0 ?_) | (clear hK K; refine hK _ _ (w0 ?_)) | (clear hK K; clear hK K; refine hK _ _ (w0 ?_))); clear hK K)))
  refine ye hQ F ?_
  exact OpenR.bad _ ho
 | false =>
  have e : nmR s = (nameW s, nameR s) := by unfold nmR; rw [if_neg (by simp [hb])]
  have hne : (nameW s == []) = false := by simpa using badN_nil _ hb
  rw [e] at hn
  have F := hne
  refine sb [.tmp 2, .tmp 3, .tmp 4] (fn := Tryz.f115) Tryz.func115 ?_
  intro Q hQ
  (repeat (first | refine w1 (fun K hK => ?_) | refine w2 ?_ | refine w3 ?_ | ((first | refine w4 ?_ | refine wD ?_ | refine w5 ?_ | refine w6 ?_ | refine w7 ?_); try refine sq F ?_) | (refine w8 ?_; refine sq F ?_; refine w9 ?_) | (refine rq F ?_; try refine sq F ?_) | (refine vq F ?_; try refine sq F ?_) | ((first | refine hK _ _ (w0 ?_) | (clear hK K; refine hK _ _ (w0 ?_)) | (clear hK K; clear hK K; refine hK _ _ (w0 ?_))); clear hK K)))
  refine (hn _).mono ?_
  rintro r h' ⟨rfl, hk_⟩
  replace hk_ := hk_.symm
  subst hk_
  try refine sq F ?_
  (repeat (first | refine w1 (fun K hK => ?_) | refine w2 ?_ | refine w3 ?_ | ((first | refine w4 ?_ | refine wD ?_ | refine w5 ?_ | refine w6 ?_ | refine w7 ?_); try refine sq F ?_) | (refine w8 ?_; refine sq F ?_; refine w9 ?_) | (refine rq F ?_; try refine sq F ?_) | (refine vq F ?_; try refine sq F ?_) | ((first | refine hK _ _ (w0 ?_) | (clear hK K; refine hK _ _ (w0 ?_)) | (clear hK K; clear hK K; refine hK _ _ (w0 ?_))); clear hK K)))
  refine lm (fun nL tL hL => ∃ (f v : Nat) (s1 : Bs) (at_ : List At) (jj : Heap), f = nL ∧ h ++ tkR (nameW s) (h.length + 1) v at_.length :: atR v at_ :: jj = hL ∧ tL 5 = .str (nameW s) ∧ tL 6 = .str s1 ∧ tL 7 = .hp h.length 0 0 0 ∧ s1.length ≤ s.length ∧ s1.length + 2 ≤ f ∧ openL f (nameW s) at_ s1 false = openF s ∧ at_.length ≤ 32) ((fun (f v : Nat) (s1 : Bs) (at_ : List At) (jj : Heap) => (f : Nat)) ((s.length + 3)) (0) ((nameR s)) ([]) ([])) ?_ ?_
  ·refine ⟨_, _, Weak.virtCell (p := h.length) (v := 0) 67 2 (by omega) (by simp (disch := first | omega | (simp only [go_sem, ↓reduceIte, seval]; first | done | omega) | fail) only [go_sem, ↓reduceIte, seval, F]; rfl) 2 rfl, ⟨(s.length + 3), 0, (nameR s), [], [], rfl, (by simp [tkR, atR]), ?_, ?_, ?_, h1, by omega, by rw [openF, hb], by simp⟩⟩
   all_goals first | exact zq F | rfl | omega | trivial | skip
  rintro _ s2 h' ⟨f, v, s1, at_, jj, rfl, rfl, e5, e6, e7, hs1, hf, hp, ha⟩ K2 hK2
  simp only [mix_cons, mix_nil, Nat.reduceEqDiff, ↓reduceIte] at e5 e6 e7
  have F := F4 F e5 e6 e7
  (repeat (first | refine w1 (fun K hK => ?_) | refine w2 ?_ | refine w3 ?_ | ((first | refine w4 ?_ | refine wD ?_ | refine w5 ?_ | refine w6 ?_ | refine w7 ?_); try refine sq F ?_) | (refine w8 ?_; refine sq F ?_; refine w9 ?_) | (refine rq F ?_; try refine sq F ?_) | (refine vq F ?_; try refine sq F ?_) | ((first | refine hK _ _ (w0 ?_) | (clear hK K; refine hK _ _ (w0 ?_)) | (clear hK K; clear hK K; refine hK _ _ (w0 ?_))); clear hK K)))
  have hd := drop_len blankB s1
  have ex1 : [(1, nameW s, at_, ([] : Bs))].map Tok.av = [Tok.av (1, nameW s, at_, [])] := rfl
  obtain ⟨g, rfl⟩ : ∃ g, f = g + 1 := ⟨f - 1, by omega⟩
  rw [openL, if_neg (by simp)] at hp
  refine (rblanks_sat hG hC s1 (by omega) _).mono ?_
  rintro r h' ⟨rfl, rfl⟩
  try refine sq F ?_
  (repeat (first | refine w1 (fun K hK => ?_) | refine w2 ?_ | refine w3 ?_ | ((first | refine w4 ?_ | refine wD ?_ | refine w5 ?_ | refine w6 ?_ | refine w7 ?_); try refine sq F ?_) | (refine w8 ?_; refine sq F ?_; refine w9 ?_) | (refine rq F ?_; try refine sq F ?_) | (refine vq F ?_; try refine sq F ?_) | ((first | refine hK _ _ (w0 ?_) | (clear hK K; refine hK _ _ (w0 ?_)) | (clear hK K; clear hK K; refine hK _ _ (w0 ?_))); clear hK K)))
  cases hc1 : Lib.hasPrefix (s1.dropWhile blankB) [62] with
  | true =>
   rw [if_pos hc1] at hp
   have h9 : 1 ≤ (s1.dropWhile blankB).length := by have := has_len _ _ hc1; simp at this; omega
   have h8 : List.drop 1 (s1.dropWhile blankB) = Lib.trimPrefix (s1.dropWhile blankB) [62] := by unfold Lib.trimPrefix; rw [if_pos hc1]; rfl
   refine (rhas_sat _ [62] _).mono ?_
   rintro r h' ⟨rfl, rfl⟩
   rw [hc1]
   try refine sq F ?_
   refine hK _ _ ⟨_, _, tok_weak h jj (nameW s) v at_ _ _, ?_⟩
   clear hK K
   (repeat (first | refine w1 (fun K hK => ?_) | refine w2 ?_ | refine w3 ?_ | ((first | refine w4 ?_ | refine wD ?_ | refine w5 ?_ | refine w6 ?_ | refine w7 ?_); try refine sq F ?_) | (refine w8 ?_; refine sq F ?_; refine w9 ?_) | (refine rq F ?_; try refine sq F ?_) | (refine vq F ?_; try refine sq F ?_) | ((first | refine hK _ _ (w0 ?_) | (clear hK K; refine hK _ _ (w0 ?_)) | (clear hK K; clear hK K; refine hK _ _ (w0 ?_))); clear hK K)))
   rw [h8, ← ex1]
   refine ye hQ F ?_
   exact OpenR.good _ _ _ hp.symm
  | false =>
   rw [if_neg (by simp [hc1])] at hp
   have F := F2 F hc1
   refine (rhas_sat _ [62] _).mono ?_
   rintro r h' ⟨rfl, rfl⟩
   try refine sq F ?_
   (repeat (first | refine w1 (fun K hK => ?_) | refine w2 ?_ | refine w3 ?_ | ((first | refine w4 ?_ | refine wD ?_ | refine w5 ?_ | refine w6 ?_ | refine w7 ?_); try refine sq F ?_) | (refine w8 ?_; refine sq F ?_; refine w9 ?_) | (refine rq F ?_; try refine sq F ?_) | (refine vq F ?_; try refine sq F ?_) | ((first | refine hK _ _ (w0 ?_) | (clear hK K; refine hK _ _ (w0 ?_)) | (clear hK K; clear hK K; refine hK _ _ (w0 ?_))); clear hK K)))
   cases hc2 : Lib.hasPrefix (s1.dropWhile blankB) [47, 62] with
   | true =>
    have ex2 : [(1, nameW s, at_, ([] : Bs)), (2, nameW s, [], [])].map Tok.av = [Tok.av (1, nameW s, at_, []), .agg [.int .i64 2, .str (nameW s), .sl 2 [], .str []]] := rfl
    rw [if_pos hc2] at hp
    have h9 : 2 ≤ (s1.dropWhile blankB).length := by have := has_len _ _ hc2; simp at this; omega
    have h8 : List.drop 2 (s1.dropWhile blankB) = Lib.trimPrefix (s1.dropWhile blankB) [47, 62] := by unfold Lib.trimPrefix; rw [if_pos hc2]; rfl
    refine (rhas_sat _ [47, 62] _).mono ?_
    rintro r h' ⟨rfl, rfl⟩
    rw [hc2]
    try refine sq F ?_
    refine hK _ _ ⟨_, _, tok_weak h jj (nameW s) v at_ _ _, ?_⟩
    clear hK K
    (repeat (first | refine w1 (fun K hK => ?_) | refine w2 ?_ | refine w3 ?_ | ((first | refine w4 ?_ | refine wD ?_ | refine w5 ?_ | refine w6 ?_ | refine w7 ?_); try refine sq F ?_) | (refine w8 ?_; refine sq F ?_; refine w9 ?_) | (refine rq F ?_; try refine sq F ?_) | (refine vq F ?_; try refine sq F ?_) | ((first | refine hK _ _ (w0 ?_) | (clear hK K; refine hK _ _ (w0 ?_)) | (clear hK K; clear hK K; refine hK _ _ (w0 ?_))); clear hK K)))
    rw [h8]
    refine ye hQ F ?_
    exact OpenR.mk _ [(1, nameW s, at_, []), (2, nameW s, [], [])] (.slR (.cons (tok_frzC (1, nameW s, at_, [])) (.cons (tok_frzN _ _ _) .nil))) (by rw [← hp]; rfl) (fun _ => by rw [← hp]; exact ⟨rfl, rfl⟩)
   | false =>
    rw [if_neg (by simp [hc2])] at hp
    have F := F2 F hc2
    refine (rhas_sat _ [47, 62] _).mono ?_
    rintro r h' ⟨rfl, rfl⟩
    try refine sq F ?_
    (repeat (first | refine w1 (fun K hK => ?_) | refine w2 ?_ | refine w3 ?_ | ((first | refine w4 ?_ | refine wD ?_ | refine w5 ?_ | refine w6 ?_ | refine w7 ?_); try refine sq F ?_) | (refine w8 ?_; refine sq F ?_; refine w9 ?_) | (refine rq F ?_; try refine sq F ?_) | (refine vq F ?_; try refine sq F ?_) | ((first | refine hK _ _ (w0 ?_) | (clear hK K; refine hK _ _ (w0 ?_)) | (clear hK K; clear hK K; refine hK _ _ (w0 ?_))); clear hK K)))
    have hsum : (s1.takeWhile blankB).length + (s1.dropWhile blankB).length = s1.length := by rw [← List.length_append, List.takeWhile_append_dropWhile]
    cases hbl : (s1.takeWhile blankB == []) with
    | true =>
     have e0 : (s1.takeWhile blankB) = [] := by simpa using hbl
     have b1 : (((s1.dropWhile blankB).length : Int) == (s1.length : Int)) = true := by rw [e0] at hsum; simp at hsum ⊢; omega
     have ho : (openF s).2.2 = true := by
      rw [← hp, hbl, Bool.or_true, Bool.true_or, Bool.true_or]
      cases g <;> rfl
     have F := F2 F b1
     try refine sq F ?_
     (repeat (first | refine w1 (fun K hK => ?_) | refine w2 ?_ | refine w3 ?_ | ((first | refine w4 ?_ | refine wD ?_ | refine w5 ?_ | refine w6 ?_ | refine w7 ?_); try refine sq F ?_) | (refine w8 ?_; refine sq F ?_; refine w9 ?_) | (refine rq F ?_; try refine sq F ?_) | (refine vq F ?_; try refine sq F ?_) | ((first | refine hK _ _ (w0 ?_) | (clear hK K; refine hK _ _ (w0 ?_)) | (clear hK K; clear hK K; refine hK _ _ (w0 ?_))); clear hK K)))
     refine ye hQ F ?_
     exact OpenR.bad _ ho
    | false =>
     have b1 : (((s1.dropWhile blankB).length : Int) == (s1.length : Int)) = false := by
      have : 0 < (s1.takeWhile blankB).length := List.length_pos_iff.2 (by simpa using hbl)
      simp; omega
     rw [hbl, Bool.or_false] at hp
     have F := F2 F b1
     try refine sq F ?_
     (repeat (first | refine w1 (fun K hK => ?_) | refine w2 ?_ | refine w3 ?_ | ((first | refine w4 ?_ | refine wD ?_ | refine w5 ?_ | refine w6 ?_ | refine w7 ?_); try refine sq F ?_) | (refine w8 ?_; refine sq F ?_; refine w9 ?_) | (refine rq F ?_; try refine sq F ?_) | (refine vq F ?_; try refine sq F ?_) | ((first | refine hK _ _ (w0 ?_) | (clear hK K; refine hK _ _ (w0 ?_)) | (clear hK K; clear hK K; refine hK _ _ (w0 ?_))); clear hK K)))
     have hl := attrX_less (s1.dropWhile blankB)
     refine (rattr_sat hG hC (s1.dropWhile blankB) (by omega) _).mono ?_
     rintro r h' ⟨a, rest, rfl, hgood, rfl⟩
     try refine sq F ?_
     (repeat (first | refine w1 (fun K hK => ?_) | refine w2 ?_ | refine w3 ?_ | ((first | refine w4 ?_ | refine wD ?_ | refine w5 ?_ | refine w6 ?_ | refine w7 ?_); try refine sq F ?_) | (refine w8 ?_; refine sq F ?_; refine w9 ?_) | (refine rq F ?_; try refine sq F ?_) | (refine vq F ?_; try refine sq F ?_) | ((first | refine hK _ _ (w0 ?_) | (clear hK K; refine hK _ _ (w0 ?_)) | (clear hK K; clear hK K; refine hK _ _ (w0 ?_))); clear hK K)))
     generalize attrX (s1.dropWhile blankB) false = x at hp hl hgood ⊢
     obtain ⟨a0, r0, bb⟩ := x
     simp only [] at hp hl hgood ⊢
     cases bb with
     | true =>
      have ho : (openF s).2.2 = true := by
       rw [← hp, Bool.true_or, Bool.true_or]
       cases g <;> rfl
      try refine sq F ?_
      (repeat (first | refine w1 (fun K hK => ?_) | refine w2 ?_ | refine w3 ?_ | ((first | refine w4 ?_ | refine wD ?_ | refine w5 ?_ | refine w6 ?_ | refine w7 ?_); try refine sq F ?_) | (refine w8 ?_; refine sq F ?_; refine w9 ?_) | (refine rq F ?_; try refine sq F ?_) | (refine vq F ?_; try refine sq F ?_) | ((first | refine hK _ _ (w0 ?_) | (clear hK K; refine hK _ _ (w0 ?_)) | (clear hK K; clear hK K; refine hK _ _ (w0 ?_))); clear hK K)))
      refine ye hQ F ?_
      exact OpenR.bad _ ho
     | false =>
      obtain ⟨rfl, rfl⟩ := hgood rfl
      have hl := hl rfl
      rw [Bool.false_or] at hp
      cases hb2 : decide ((32 : Int) ≤ (at_.length : Int)) with
      | true =>
       have ho : (openF s).2.2 = true := by
        have : decide (32 ≤ at_.length) = true := by simp at hb2 ⊢; omega
        rw [← hp, this, Bool.or_true]
        cases g <;> rfl
       have F := F2 F hb2
       try refine sq F ?_
       (repeat (first | refine w1 (fun K hK => ?_) | refine w2 ?_ | refine w3 ?_ | ((first | refine w4 ?_ | refine wD ?_ | refine w5 ?_ | refine w6 ?_ | refine w7 ?_); try refine sq F ?_) | (refine w8 ?_; refine sq F ?_; refine w9 ?_) | (refine rq F ?_; try refine sq F ?_) | (refine vq F ?_; try refine sq F ?_) | ((first | refine hK _ _ (w0 ?_) | (clear hK K; refine hK _ _ (w0 ?_)) | (clear hK K; clear hK K; refine hK _ _ (w0 ?_))); clear hK K)))
       refine ye hQ F ?_
       exact OpenR.bad _ ho
      | false =>
       have : decide (32 ≤ at_.length) = false := by simp at hb2 ⊢; omega
       rw [this, Bool.or_false] at hp
       have F := F2 F hb2
       try refine sq F ?_
       (repeat (first | refine w1 (fun K hK => ?_) | refine w2 ?_ | refine w3 ?_ | ((first | refine w4 ?_ | refine wD ?_ | refine w5 ?_ | refine w6 ?_ | refine w7 ?_); try refine sq F ?_) | (refine w8 ?_; refine sq F ?_; refine w9 ?_) | (refine rq F ?_; try refine sq F ?_) | (refine vq F ?_; try refine sq F ?_) | ((first | refine hK _ _ (w0 ?_) | (clear hK K; refine hK _ _ (w0 ?_)) | (clear hK K; clear hK K; refine hK _ _ (w0 ?_))); clear hK K)))
       refine lm (fun nL tL hL => ∃ (i : Nat), at_.length - i = nL ∧ h ++ tkR (nameW s) (h.length + 1) v at_.length :: atR v at_ :: (jj ++ [.row 67 2 0 [a.av]]) = hL ∧ tL 12 = .int .i64 i ∧ i ≤ at_.length ∧ ((at_.take i).any fun x => x.1 == a.1) = false) ((fun (i : Nat) => (at_.length - i : Nat)) (0)) ?_ ?_
       ·refine Wkn.refl ⟨0, rfl, (by simp), ?_, by omega, by simp⟩
        all_goals first | exact zq F | rfl | omega | trivial | skip
       rintro _ s3 h' ⟨i, rfl, rfl, e12, hi, hno⟩ K3 hK3
       simp only [mix_cons, mix_nil, Nat.reduceEqDiff, ↓reduceIte] at e12
       have F := F2 F e12
       (repeat (first | refine w1 (fun K hK => ?_) | refine w2 ?_ | refine w3 ?_ | ((first | refine w4 ?_ | refine wD ?_ | refine w5 ?_ | refine w6 ?_ | refine w7 ?_); try refine sq F ?_) | (refine w8 ?_; refine sq F ?_; refine w9 ?_) | (refine rq F ?_; try refine sq F ?_) | (refine vq F ?_; try refine sq F ?_) | ((first | refine hK _ _ (w0 ?_) | (clear hK K; refine hK _ _ (w0 ?_)) | (clear hK K; clear hK K; refine hK _ _ (w0 ?_))); clear hK K)))
       refine cq F (fun c3 => ?_) (fun c3 => ?_) <;> (try exact c3.elim) <;> ((repeat (first | refine w1 (fun K hK => ?_) | refine w2 ?_ | refine w3 ?_ | ((first | refine w4 ?_ | refine wD ?_ | refine w5 ?_ | refine w6 ?_ | refine w7 ?_); try refine sq F ?_) | (refine w8 ?_; refine sq F ?_; refine w9 ?_) | (refine rq F ?_; try refine sq F ?_) | (refine vq F ?_; try refine sq F ?_) | ((first | refine hK _ _ (w0 ?_) | (clear hK K; refine hK _ _ (w0 ?_)) | (clear hK K; clear hK K; refine hK _ _ (w0 ?_))); clear hK K))))
       ·obtain ⟨y, hy, hym⟩ := getElem?_of_lt c3
        have F := F2 F hy
        try refine sq F ?_
        (repeat (first | refine w1 (fun K hK => ?_) | refine w2 ?_ | refine w3 ?_ | ((first | refine w4 ?_ | refine wD ?_ | refine w5 ?_ | refine w6 ?_ | refine w7 ?_); try refine sq F ?_) | (refine w8 ?_; refine sq F ?_; refine w9 ?_) | (refine rq F ?_; try refine sq F ?_) | (refine vq F ?_; try refine sq F ?_) | ((first | refine hK _ _ (w0 ?_) | (clear hK K; refine hK _ _ (w0 ?_)) | (clear hK K; clear hK K; refine hK _ _ (w0 ?_))); clear hK K)))
        refine ⟨c3, ?_⟩
        (repeat (first | refine w1 (fun K hK => ?_) | refine w2 ?_ | refine w3 ?_ | ((first | refine w4 ?_ | refine wD ?_ | refine w5 ?_ | refine w6 ?_ | refine w7 ?_); try refine sq F ?_) | (refine w8 ?_; refine sq F ?_; refine w9 ?_) | (refine rq F ?_; try refine sq F ?_) | (refine vq F ?_; try refine sq F ?_) | ((first | refine hK _ _ (w0 ?_) | (clear hK K; refine hK _ _ (w0 ?_)) | (clear hK K; clear hK K; refine hK _ _ (w0 ?_))); clear hK K)))
        cases hya : (y.1 == a.1) with
        | true =>
         have ho : (openF s).2.2 = true := by
          have : (at_.any fun x => x.1 == a.1) = true := List.any_eq_true.2 ⟨y, hym, hya⟩
          rw [← hp, this]
          cases g <;> rfl
         have F := F2 F hya
         try refine sq F ?_
         (repeat (first | refine w1 (fun K hK => ?_) | refine w2 ?_ | refine w3 ?_ | ((first | refine w4 ?_ | refine wD ?_ | refine w5 ?_ | refine w6 ?_ | refine w7 ?_); try refine sq F ?_) | (refine w8 ?_; refine sq F ?_; refine w9 ?_) | (refine rq F ?_; try refine sq F ?_) | (refine vq F ?_; try refine sq F ?_) | ((first | refine hK _ _ (w0 ?_) | (clear hK K; refine hK _ _ (w0 ?_)) | (clear hK K; clear hK K; refine hK _ _ (w0 ?_))); clear hK K)))
         refine ye hQ F ?_
         exact OpenR.bad _ ho
        | false =>
         have F := F2 F hya
         try refine sq F ?_
         (repeat (first | refine w1 (fun K hK => ?_) | refine w2 ?_ | refine w3 ?_ | ((first | refine w4 ?_ | refine wD ?_ | refine w5 ?_ | refine w6 ?_ | refine w7 ?_); try refine sq F ?_) | (refine w8 ?_; refine sq F ?_; refine w9 ?_) | (refine rq F ?_; try refine sq F ?_) | (refine vq F ?_; try refine sq F ?_) | ((first | refine hK _ _ (w0 ?_) | (clear hK K; refine hK _ _ (w0 ?_)) | (clear hK K; clear hK K; refine hK _ _ (w0 ?_))); clear hK K)))
         refine hK3 _ _ _ (Wkn.refl ⟨i + 1, rfl, hpE, ?_, by omega, by rw [List.take_add_one, hy]; simp [hno, hya]⟩) (by omega)
         all_goals first | exact zq F | rfl | omega | trivial | skip
       ·refine aq F ?_
        try refine sq F ?_
        (repeat (first | refine w1 (fun K hK => ?_) | refine w2 ?_ | refine w3 ?_ | ((first | refine w4 ?_ | refine wD ?_ | refine w5 ?_ | refine w6 ?_ | refine w7 ?_); try refine sq F ?_) | (refine w8 ?_; refine sq F ?_; refine w9 ?_) | (refine rq F ?_; try refine sq F ?_) | (refine vq F ?_; try refine sq F ?_) | ((first | refine hK _ _ (w0 ?_) | (clear hK K; refine hK _ _ (w0 ?_)) | (clear hK K; clear hK K; refine hK _ _ (w0 ?_))); clear hK K)))
        have : (at_.any fun x => x.1 == a.1) = false := by
         have e : at_.take i = at_ := List.take_of_length_le (by omega)
         rw [e] at hno; exact hno
        rw [this] at hp
        refine hK2 _ _ _ (Wkn.refl ⟨g, v + 1, rest, at_ ++ [a], jj ++ [.row 67 2 0 [a.av]], rfl, by simp [tkR, atR], ?_, ?_, ?_, by omega, by omega, hp, by simp at hb2; simp; omega⟩) (by omega)
        all_goals first | exact zq F | rfl | omega | trivial | skip
end Go.Av
namespace Go.Av
open Go Go.Proofs Go.RowKit
attribute [local irreducible] WP WPl WPix Sat
set_option maxRecDepth 100000
set_option maxHeartbeats 1000000
variable {G : Nat → Option (List AVal)}
theorem text_cut : ∀ s : Bs, (∀ c, c ∈ s.takeWhile textB → c ≠ 60) ∧ (s.dropWhile textB = [] ∨ ∃ t, s.dropWhile textB = 60 :: t)
 | [] => ⟨by simp, .inl rfl⟩
 | c :: s => by
  obtain ⟨h1, h2⟩ := text_cut s
  have hb : textB c = !(c == 60) := by
   have : ∀ x : UInt8, textB x = !(x == 60) := by
    intro x
    unfold textB textP
    by_cases e : x = 60
    ·subst e; rfl
    ·have : ¬ (x.toNat : Int) = 60 := fun e2 => e (UInt8.toNat_inj.1 (by have : (x.toNat : Int) = ((60 : UInt8).toNat : Int) := e2; omega))
     simp [e, this]
   exact this c
  by_cases e : c = 60
  ·subst e
   exact ⟨by simp [List.takeWhile_cons, hb], .inr ⟨s, by simp [List.dropWhile_cons, hb]⟩⟩
  ·have hb : textB c = true := by rw [hb]; simp [e]
   refine ⟨fun d hd => ?_, by rw [List.dropWhile_cons, if_pos hb]; exact h2⟩
   rw [List.takeWhile_cons, if_pos hb] at hd
   rcases List.mem_cons.1 hd with rfl | hd
   ·exact e
   ·exact h1 d hd
theorem text_ix (s : Bs) : (Lib.index s [60] < 0 ∧ s.takeWhile textB = s ∧ s.dropWhile textB = []) ∨ ∃ m : Nat, Lib.index s [60] = m ∧ m ≤ s.length ∧ s.takeWhile textB = s.take m ∧ s.dropWhile textB = s.drop m := by
 obtain ⟨h1, h2⟩ := text_cut s
 have hs : s.takeWhile textB ++ s.dropWhile textB = s := List.takeWhile_append_dropWhile
 have ix := uptoF_ix [60] s false
 generalize s.takeWhile textB = a at *
 generalize s.dropWhile textB = b at *
 subst hs
 have hne : ∀ i, i < a.length → ∀ c, (a ++ b)[i]? = some c → c ≠ 60 := fun i hi c hc => by
  rw [List.getElem?_append_left hi] at hc
  exact h1 c (List.mem_of_getElem? hc)
 rcases h2 with rfl | ⟨t, rfl⟩
 ·left
  rcases ix with ⟨g1, _⟩ | ⟨m, g1, g2, g3⟩
  ·exact ⟨g1, by simp, rfl⟩
  ·exfalso
   have hc : (Lib.cut (a ++ []) [60]).2.2 = true := by unfold Lib.cut; rw [if_pos (by omega)]
   have k1 := cut_from _ _ a.length hne hc
   have k2 := cut_len _ _ hc
   simp at k1 k2; omega
 ·right
  have hc := cut_at (a ++ 60 :: t) 60 a.length hne (by simp)
  rcases ix with ⟨g1, g2⟩ | ⟨m, g1, g2, g3⟩
  ·exfalso
   unfold uptoF at g2
   rw [hc] at g2
   simp at g2
  ·unfold uptoF at g3
   rw [hc] at g3
   have e1 : a = (a ++ 60 :: t).take m := by simpa using congrArg (fun x => x.1) g3
   have e2 : a.length = m := by
    have := congrArg List.length e1
    rw [List.length_take] at this
    simp at g2 this; omega
   exact ⟨m, g1, by simp at g2 ⊢; omega, e1, by rw [← e2]; simp⟩
theorem pre_no (c : UInt8) (t w : Bs) (h : c ≠ 60) : Lib.hasPrefix (c :: t) (60 :: w) = false := by
 simp [Lib.hasPrefix, List.isPrefixOf, Ne.symm h]
theorem OpenR.mkS {h : Heap} {y : List Tok × Bs × Bool} {x : AVal} {rest : Bs} {b : Bool} (ts : List Tok) (hx : Frz h h.length x (.sl 4 (ts.map Tok.av))) (hb : b = !y.2.2) (hg : y.2.2 = false → ts = y.1 ∧ rest = y.2.1) : Fin h h (OpenR h y) (.tup [x, .str rest, .bool b]) :=
 Fin.frzS (FrzL.tup (.cons hx (.cons (.clo _ (.str _)) (.cons (.clo _ (.bool _)) .nil)))) ⟨ts, rest, by rw [hb], hg, rfl⟩
theorem trim_yes (s w : Bs) (h : Lib.hasPrefix s w = true) : s.drop w.length = Lib.trimPrefix s w := by unfold Lib.trimPrefix; rw [if_pos h]
theorem rpart_sat (hG : GOk G) (hC : GClo (CT G)) (s : Bs) (hs : s.length ≤ 1048576) (hn0 : s ≠ []) (h : Heap) : Sat (CT G) 81 [.str s] h (OpenR h (partF s)) := by
 have ht := fun w => trim_len s w
 have hpos : 0 < s.length := List.length_pos_iff.2 hn0
 obtain ⟨c, hc0, hcm⟩ := getElem?_of_lt hpos
 have up : ∀ w z : Bs, Lib.hasPrefix s w = true → z.length ≤ 100 → Sat (CT G) 112 [.str s, .str w, .str z] h (fun r h' => ∃ rest : Bs, r = .tup [.str (uptoF z (Lib.trimPrefix s w) false).1, .str rest, .bool (!(uptoF z (Lib.trimPrefix s w) false).2.2)] ∧ ((uptoF z (Lib.trimPrefix s w) false).2.2 = false → rest = (uptoF z (Lib.trimPrefix s w) false).2.1) ∧ h' = h) := fun w z hw hz => by
  have := rupto_sat (G := G) s w z hs (by have := has_len _ _ hw; omega) hz h
  rw [trim_yes s w hw] at this
  exact this
 by_cases hc : c = 60
 ·subst hc
  have b0 : ((UInt8.toNat 60 : Int) != 60) = false := rfl
  obtain ⟨t, ht0⟩ : ∃ t, s = 60 :: t := by
   cases s with
   | nil => cases hc0
   | cons a t => simp at hc0; subst hc0; exact ⟨t, rfl⟩
  have F := F2 hc0 b0
  refine sb [.tmp 2, .tmp 3, .tmp 4] (fn := Tryz.f81) Tryz.func81 ?_
  intro Q hQ
  refine wk F ?_
  cases c1 : Lib.hasPrefix s [60, 33, 45, 45] with
  | true =>
   have e : partF s = ([], (uptoF [45, 45, 62] (Lib.trimPrefix s [60, 33, 45, 45]) false).2) := by unfold partF; rw [if_pos (show Lib.hasPrefix s p1 = true from c1)]; rfl
   have F := F2 F c1
   refine (rhas_sat s [60, 33, 45, 45] _).mono ?_
   rintro r h' ⟨rfl, hk_⟩
   replace hk_ := hk_.symm
   subst hk_
   try refine sq F ?_
   refine wk F ?_
   refine (up [60, 33, 45, 45] [45, 45, 62] c1 (by simp)).mono ?_
   rintro r h' ⟨rest, rfl, hg, hk⟩
   replace hk := hk.symm
   subst hk
   simp (disch := first | omega | (simp only [go_sem, ↓reduceIte, seval]; first | done | omega) | fail) only [go_sem, ↓reduceIte, seval, F]
   refine wk F ?_
   refine ye hQ F ?_
   rw [e]
   exact OpenR.mkS [] (.nils _) rfl (fun h => ⟨rfl, hg h⟩)
  | false =>
  have F := F2 F c1
  refine (rhas_sat s [60, 33, 45, 45] _).mono ?_
  rintro r h' ⟨rfl, hk_⟩
  replace hk_ := hk_.symm
  subst hk_
  try refine sq F ?_
  refine wk F ?_
  cases c2 : Lib.hasPrefix s [60, 63] with
  | true =>
   have e : partF s = ([], (uptoF [63, 62] (Lib.trimPrefix s [60, 63]) false).2) := by unfold partF; rw [if_neg (show ¬ Lib.hasPrefix s p1 = true by rw [show Lib.hasPrefix s p1 = false from c1]; simp), if_pos (show Lib.hasPrefix s p2 = true from c2)]; rfl
   have F := F2 F c2
   refine (rhas_sat s [60, 63] _).mono ?_
   rintro r h' ⟨rfl, hk_⟩
   replace hk_ := hk_.symm
   subst hk_
   try refine sq F ?_
   refine wk F ?_
   refine (up [60, 63] [63, 62] c2 (by simp)).mono ?_
   rintro r h' ⟨rest, rfl, hg, hk⟩
   replace hk := hk.symm
   subst hk
   simp (disch := first | omega | (simp only [go_sem, ↓reduceIte, seval]; first | done | omega) | fail) only [go_sem, ↓reduceIte, seval, F]
   refine wk F ?_
   refine ye hQ F ?_
   rw [e]
   exact OpenR.mkS [] (.nils _) rfl (fun h => ⟨rfl, hg h⟩)
  | false =>
  have F := F2 F c2
  refine (rhas_sat s [60, 63] _).mono ?_
  rintro r h' ⟨rfl, hk_⟩
  replace hk_ := hk_.symm
  subst hk_
  try refine sq F ?_
  refine wk F ?_
  cases c3 : Lib.hasPrefix s [60, 33, 68, 79, 67, 84, 89, 80, 69] with
  | true =>
   have e : partF s = ([], kindF (Lib.trimPrefix s [60, 33, 68, 79, 67, 84, 89, 80, 69]) false) := by unfold partF; rw [if_neg (show ¬ Lib.hasPrefix s p1 = true by rw [show Lib.hasPrefix s p1 = false from c1]; simp), if_neg (show ¬ Lib.hasPrefix s p2 = true by rw [show Lib.hasPrefix s p2 = false from c2]; simp), if_pos (show Lib.hasPrefix s p3 = true from c3)]; rfl
   have F := F2 F c3
   refine (rhas_sat s [60, 33, 68, 79, 67, 84, 89, 80, 69] _).mono ?_
   rintro r h' ⟨rfl, hk_⟩
   replace hk_ := hk_.symm
   subst hk_
   try refine sq F ?_
   refine wk F ?_
   refine (up [60, 33, 68, 79, 67, 84, 89, 80, 69] [62] c3 (by simp)).mono ?_
   rintro r h' ⟨rest, rfl, hg, hk⟩
   replace hk := hk.symm
   subst hk
   simp (disch := first | omega | (simp only [go_sem, ↓reduceIte, seval]; first | done | omega) | fail) only [go_sem, ↓reduceIte, seval, F]
   refine wk F ?_
   have hul := uptoF_len [62] (Lib.trimPrefix s [60, 33, 68, 79, 67, 84, 89, 80, 69]) false
   have htl := ht [60, 33, 68, 79, 67, 84, 89, 80, 69]
   have ek : kindF (Lib.trimPrefix s [60, 33, 68, 79, 67, 84, 89, 80, 69]) false = ((uptoF [62] (Lib.trimPrefix s [60, 33, 68, 79, 67, 84, 89, 80, 69]) false).2.1, Lib.contains (uptoF [62] (Lib.trimPrefix s [60, 33, 68, 79, 67, 84, 89, 80, 69]) false).1 [91] || (uptoF [62] (Lib.trimPrefix s [60, 33, 68, 79, 67, 84, 89, 80, 69]) false).2.2) := rfl
   rw [ek] at e
   clear ek
   generalize uptoF [62] (Lib.trimPrefix s [60, 33, 68, 79, 67, 84, 89, 80, 69]) false = u at hul hg e ⊢
   obtain ⟨u1, u2, u3⟩ := u
   simp only [] at hul hg e ⊢
   cases u3 with
   | true =>
    try refine sq F ?_
    refine wk F ?_
    refine ye hQ F ?_
    rw [e]
    exact OpenR.mkS [] (.nils _) (by simp) (fun h => by simp at h)
   | false =>
    try refine sq F ?_
    refine wk F ?_
    refine (rfind_sat u1 [91] (by omega) (by simp) _).mono ?_
    rintro r h' ⟨rfl, hk_⟩
    replace hk_ := hk_.symm
    subst hk_
    try refine sq F ?_
    refine wk F ?_
    refine ye hQ F ?_
    rw [e]
    exact OpenR.mkS [] (.nils _) (by rw [contains_ix]; simp only [Bool.or_false]; by_cases q : 0 ≤ Lib.index u1 [91] <;> simp [q] <;> omega) (fun _ => ⟨rfl, hg rfl⟩)
  | false =>
  have F := F2 F c3
  refine (rhas_sat s [60, 33, 68, 79, 67, 84, 89, 80, 69] _).mono ?_
  rintro r h' ⟨rfl, hk_⟩
  replace hk_ := hk_.symm
  subst hk_
  try refine sq F ?_
  refine wk F ?_
  cases c4 : Lib.hasPrefix s [60, 33, 91, 67, 68, 65, 84, 65, 91] with
  | true =>
   have e : partF s = ([(3, [], [], (uptoF [93, 93, 62] (Lib.trimPrefix s [60, 33, 91, 67, 68, 65, 84, 65, 91]) false).1)], (uptoF [93, 93, 62] (Lib.trimPrefix s [60, 33, 91, 67, 68, 65, 84, 65, 91]) false).2) := by unfold partF; rw [if_neg (show ¬ Lib.hasPrefix s p1 = true by rw [show Lib.hasPrefix s p1 = false from c1]; simp), if_neg (show ¬ Lib.hasPrefix s p2 = true by rw [show Lib.hasPrefix s p2 = false from c2]; simp), if_neg (show ¬ Lib.hasPrefix s p3 = true by rw [show Lib.hasPrefix s p3 = false from c3]; simp), if_pos (show Lib.hasPrefix s p4 = true from c4)]; rfl
   have F := F2 F c4
   refine (rhas_sat s [60, 33, 91, 67, 68, 65, 84, 65, 91] _).mono ?_
   rintro r h' ⟨rfl, hk_⟩
   replace hk_ := hk_.symm
   subst hk_
   try refine sq F ?_
   refine wk F ?_
   refine (up [60, 33, 91, 67, 68, 65, 84, 65, 91] [93, 93, 62] c4 (by simp)).mono ?_
   rintro r h' ⟨rest, rfl, hg, hk⟩
   replace hk := hk.symm
   subst hk
   simp (disch := first | omega | (simp only [go_sem, ↓reduceIte, seval]; first | done | omega) | fail) only [go_sem, ↓reduceIte, seval, F]
   refine wk F ?_
   refine ye hQ F ?_
   rw [e]
   exact OpenR.mkS [(3, [], [], (uptoF [93, 93, 62] (Lib.trimPrefix s [60, 33, 91, 67, 68, 65, 84, 65, 91]) false).1)] (.slR (.cons (tok_frzN _ _ _) .nil)) rfl (fun h => ⟨rfl, hg h⟩)
  | false =>
  have F := F2 F c4
  refine (rhas_sat s [60, 33, 91, 67, 68, 65, 84, 65, 91] _).mono ?_
  rintro r h' ⟨rfl, hk_⟩
  replace hk_ := hk_.symm
  subst hk_
  try refine sq F ?_
  refine wk F ?_
  cases c5 : Lib.hasPrefix s [60, 47] with
  | true =>
   have e : partF s = ([(2, nameW (Lib.trimPrefix s [60, 47]), [], [])], closeF (Lib.trimPrefix s [60, 47]) false) := by unfold partF; rw [if_neg (show ¬ Lib.hasPrefix s p1 = true by rw [show Lib.hasPrefix s p1 = false from c1]; simp), if_neg (show ¬ Lib.hasPrefix s p2 = true by rw [show Lib.hasPrefix s p2 = false from c2]; simp), if_neg (show ¬ Lib.hasPrefix s p3 = true by rw [show Lib.hasPrefix s p3 = false from c3]; simp), if_neg (show ¬ Lib.hasPrefix s p4 = true by rw [show Lib.hasPrefix s p4 = false from c4]; simp), if_pos (show Lib.hasPrefix s p5 = true from c5)]; rfl
   have h2 := has_len _ _ c5
   simp only [List.length_cons, List.length_nil] at h2
   have h3 : List.drop 2 s = Lib.trimPrefix s [60, 47] := trim_yes s [60, 47] c5
   have F := F3 F c5 h3
   refine (rhas_sat s [60, 47] _).mono ?_
   rintro r h' ⟨rfl, hk_⟩
   replace hk_ := hk_.symm
   subst hk_
   try refine sq F ?_
   refine wk F ?_
   have htl := ht [60, 47]
   generalize Lib.trimPrefix s [60, 47] = x at e htl ⊢
   have h4 : (nameR x).length ≤ x.length := drop_len _ _
   have h5 := drop_len blankB (nameR x)
   have hn := rname_sat hG hC x (by omega)
   have ec : closeF x false = (Lib.trimPrefix ((nameR x).dropWhile blankB) [62], (false || badN (nameW x)) || !Lib.hasPrefix ((nameR x).dropWhile blankB) [62]) := rfl
   cases hbn : badN (nameW x) with
   | true =>
    have en : nmR x = ([], x) := by unfold nmR; rw [if_pos hbn]
    have he : (([] : Bs) == []) = true := rfl
    rw [en] at hn
    rw [hbn] at ec
    have F := F2 F he
    refine (hn _).mono ?_
    rintro r h' ⟨rfl, hk_⟩
    replace hk_ := hk_.symm
    subst hk_
    try refine sq F ?_
    refine wk F ?_
    refine (rblanks_sat hG hC x (by omega) _).mono ?_
    rintro r h' ⟨rfl, hk_⟩
    replace hk_ := hk_.symm
    subst hk_
    try refine sq F ?_
    refine wk F ?_
    refine ye hQ F ?_
    rw [e, ec]
    exact OpenR.mkS [] (.nils _) (by simp) (fun h => by simp at h)
   | false =>
    have en : nmR x = (nameW x, nameR x) := by unfold nmR; rw [if_neg (by simp [hbn])]
    have hne : (nameW x == []) = false := by simpa using badN_nil _ hbn
    rw [en] at hn
    rw [hbn] at ec
    have F := F2 F hne
    refine (hn _).mono ?_
    rintro r h' ⟨rfl, hk_⟩
    replace hk_ := hk_.symm
    subst hk_
    try refine sq F ?_
    refine wk F ?_
    refine (rblanks_sat hG hC (nameR x) (by omega) _).mono ?_
    rintro r h' ⟨rfl, hk_⟩
    replace hk_ := hk_.symm
    subst hk_
    try refine sq F ?_
    refine wk F ?_
    generalize (nameR x).dropWhile blankB = s2 at ec h5 ⊢
    cases h62 : Lib.hasPrefix s2 [62] with
    | true =>
     rw [h62] at ec
     have h6 := has_len _ _ h62
     simp only [List.length_cons, List.length_nil] at h6
     have h7 : List.drop 1 s2 = Lib.trimPrefix s2 [62] := trim_yes s2 [62] h62
     have F := F3 F h62 h7
     refine (rhas_sat s2 [62] _).mono ?_
     rintro r h' ⟨rfl, hk_⟩
     replace hk_ := hk_.symm
     subst hk_
     try refine sq F ?_
     refine wk F ?_
     refine ye hQ F ?_
     rw [e, ec]
     exact OpenR.mkS [(2, nameW x, [], [])] (.slR (.cons (tok_frzN _ _ _) .nil)) rfl (fun _ => ⟨rfl, rfl⟩)
    | false =>
     rw [h62] at ec
     have F := F2 F h62
     refine (rhas_sat s2 [62] _).mono ?_
     rintro r h' ⟨rfl, hk_⟩
     replace hk_ := hk_.symm
     subst hk_
     try refine sq F ?_
     refine wk F ?_
     refine ye hQ F ?_
     rw [e, ec]
     exact OpenR.mkS [] (.nils _) (by simp) (fun h => by simp at h)
  | false =>
   have e : partF s = openF (Lib.trimPrefix s [60]) := by
    unfold partF
    rw [if_neg (show ¬ Lib.hasPrefix s p1 = true by rw [show Lib.hasPrefix s p1 = false from c1]; simp), if_neg (show ¬ Lib.hasPrefix s p2 = true by rw [show Lib.hasPrefix s p2 = false from c2]; simp), if_neg (show ¬ Lib.hasPrefix s p3 = true by rw [show Lib.hasPrefix s p3 = false from c3]; simp), if_neg (show ¬ Lib.hasPrefix s p4 = true by rw [show Lib.hasPrefix s p4 = false from c4]; simp), if_neg (show ¬ Lib.hasPrefix s p5 = true by rw [show Lib.hasPrefix s p5 = false from c5]; simp), if_pos (show Lib.hasPrefix s p6 = true by rw [ht0]; rfl)]; rfl
   have h3 : List.drop 1 s = Lib.trimPrefix s [60] := trim_yes s [60] (by rw [ht0]; rfl)
   have F := F3 F c5 h3
   refine (rhas_sat s [60, 47] _).mono ?_
   rintro r h' ⟨rfl, hk_⟩
   replace hk_ := hk_.symm
   subst hk_
   try refine sq F ?_
   refine wk F ?_
   have htl := ht [60]
   refine (ropen_sat hG hC (Lib.trimPrefix s [60]) (by omega) h).mono ?_
   rintro r h' ⟨ts, rest, rfl, hg, hk⟩
   replace hk := hk.symm
   subst hk
   simp (disch := first | omega | (simp only [go_sem, ↓reduceIte, seval]; first | done | omega) | fail) only [go_sem, ↓reduceIte, seval, F]
   refine wk F ?_
   refine ye hQ F ?_
   rw [e]
   exact OpenR.mkS ts (.clo _ (toks_clo _ ts)) rfl hg
 ·have b0 : ((c.toNat : Int) != 60) = true := by
   have : ¬ (c.toNat : Int) = 60 := fun e2 => hc (UInt8.toNat_inj.1 (by have : (c.toNat : Int) = ((60 : UInt8).toNat : Int) := e2; omega))
   simpa using this
  obtain ⟨t, ht0⟩ : ∃ t, s = c :: t := by
   cases s with
   | nil => cases hc0
   | cons a t => simp at hc0; subst hc0; exact ⟨t, rfl⟩
  have e : partF s = ([(3, [], [], rdE (s.takeWhile textB))], s.dropWhile textB, false) := by
   have := fun w => pre_no c t w hc
   rw [← ht0] at this
   unfold partF p1 p2 p3 p4 p5 p6
   simp only [this, Bool.false_eq_true, if_false]
   rfl
  have hl : (s.takeWhile textB).length ≤ s.length := (List.takeWhile_sublist _).length_le
  have F := F2 hc0 b0
  refine sb [.tmp 2, .tmp 3, .tmp 4] (fn := Tryz.f81) Tryz.func81 ?_
  intro Q hQ
  refine wk F ?_
  refine (rfind_sat s [60] (by omega) (by simp) _).mono ?_
  rintro r h' ⟨rfl, hk_⟩
  replace hk_ := hk_.symm
  subst hk_
  try refine sq F ?_
  refine wk F ?_
  rcases text_ix s with ⟨g1, g2, g3⟩ | ⟨m, g1, g2, g3, g4⟩
  ·have b1 : decide (Lib.index s [60] < 0) = true := by simpa using g1
   have e1 : List.take s.length s = s := List.take_length
   have e2 : List.drop s.length s = [] := List.drop_length
   have F := F4 F b1 e1 e2
   try refine sq F ?_
   refine wk F ?_
   refine ⟨_, rRead_sat s (by omega) _, ?_⟩
   try refine sq F ?_
   refine wk F ?_
   refine ye hQ F ?_
   rw [e]
   exact OpenR.mkS [(3, [], [], rdE s)] (.slR (.cons (tok_frzN _ _ _) .nil)) rfl (fun _ => ⟨by rw [g2], g3.symm⟩)
  ·rw [g1]
   have b1 : decide ((m : Int) < 0) = false := by simp
   have F := F2 F b1
   try refine sq F ?_
   refine wk F ?_
   refine ⟨_, rRead_sat (s.take m) (by rw [List.length_take]; omega) _, ?_⟩
   try refine sq F ?_
   refine wk F ?_
   refine ye hQ F ?_
   rw [e]
   exact OpenR.mkS [(3, [], [], rdE (s.take m))] (.slR (.cons (tok_frzN _ _ _) .nil)) rfl (fun _ => ⟨by rw [g3], g4.symm⟩)
end Go.Av
namespace Go.Av
open Go Go.Proofs Go.RowKit
attribute [local irreducible] WP WPl WPix Sat
set_option maxRecDepth 100000
set_option maxHeartbeats 1000000
variable {G : Nat → Option (List AVal)}
theorem rTokens_sat (hG : GOk G) (hC : GClo (CT G)) (s : Bs) (hs : s.length ≤ 1048576) (h : Heap) : Sat (CT G) 46 [.str s] h
  (fun r h' => ∃ a, r = .tup [.sl 4 ((toksF s).1.map Tok.av), .int .i64 a, .int .i64 (toksF s).2] ∧ h' = h) := by
 refine sb [.tmp 2, .tmp 3, .tmp 4] (fn := Tryz.f46) Tryz.func46 ?_
 intro Q hQ
 refine wk trivial ?_
 refine cq trivial (fun c0 => ?_) (fun c0 => ?_) <;> (try exact c0.elim) <;> (refine wk trivial ?_)
 ·have e : toksF s = ([], 3) := by unfold toksF; rw [if_pos (by omega)]
  refine ye hQ trivial ?_
  rw [e]
  exact Fin.frzS (FrzL.tup (.cons (.nils 4) (.cons (.clo _ (.int _ _)) (.cons (.clo _ (.int _ _)) .nil)))) ⟨0, rfl, rfl⟩
 have e : toksF s = tksF (s.length + 1) s [] := by unfold toksF; rw [if_neg (by omega)]
 have bad : ∀ (jj : Heap) (a : Int) (c : Int), toksF s = ([], c) → Fin h (h ++ jj) (fun r h' => ∃ a, r = .tup [.sl 4 ((toksF s).1.map Tok.av), .int .i64 a, .int .i64 (toksF s).2] ∧ h' = h) (.tup [.nil (.slice none 0 0), .int .i64 a, .int .i64 c]) := fun jj a c hb => by
  rw [hb]
  exact Fin.frz (FrzL.tup (.cons (.nils 4) (.cons (.clo _ (.int _ _)) (.cons (.clo _ (.int _ _)) .nil)))) ⟨a, rfl, rfl⟩
 refine lm (fun nL tL hL => ∃ (f v : Nat) (s1 : Bs) (l : List Tok), f = nL ∧ h ++ [tksR v l] = hL ∧ tL 5 = .hs h.length v 0 l.length true ∧ tL 6 = .str s1 ∧ s1.length < f ∧ tksF f s1 l = toksF s ∧ szs Tok.sz l + 10 * s1.length ≤ 10 * s.length ∧ l.length ≤ 8192) ((fun (f v : Nat) (s1 : Bs) (l : List Tok) => (f : Nat)) (s.length + 1) (0) (s) ([])) ?_ ?_
 ·refine ⟨_, _, Weak.virt 5 83 4 (by simp) (by omega) (by exact zq trivial), ⟨s.length + 1, 0, s, [], rfl, by simp [tksR], ?_, ?_, by omega, e.symm, by simp [szs], by simp⟩⟩
  all_goals first | exact zq trivial | rfl | omega | trivial | skip
 rintro _ s2 h' ⟨f, v, s1, l, rfl, rfl, e5, e6, hf, hp, hz, hl⟩ K2 hK2
 simp only [mix_cons, mix_nil, Nat.reduceEqDiff, ↓reduceIte] at e5 e6
 have F := F2 e5 e6
 refine wk F ?_
 obtain ⟨g, rfl⟩ : ∃ g, f = g + 1 := ⟨f - 1, by omega⟩
 rw [tksF] at hp
 refine cq F (fun c1 => ?_) (fun c1 => ?_) <;> (try exact c1.elim) <;> (refine wk F ?_)
 ·have c1 : s1 ≠ [] := List.length_pos_iff.1 (by omega)
  have hps := partF_sz s1 c1
  have hpl := partF_less s1 c1
  have hz0 := szs_len Tok.sz Tok.sz_pos (partF s1).1
  rw [if_neg c1] at hp
  refine (rpart_sat hG hC s1 (by omega) c1 _).mono ?_
  rintro r h' ⟨tk, r1, rfl, hg, rfl⟩
  simp (disch := first | omega | (simp only [go_sem, ↓reduceIte, seval]; first | done | omega) | fail) only [go_sem, ↓reduceIte, seval, F]
  refine wk F ?_
  generalize partF s1 = x at hp hps hpl hz0 hg ⊢
  obtain ⟨tk0, r0, bb⟩ := x
  simp only [] at hp hps hpl hz0 hg ⊢
  cases bb with
  | true =>
   rw [if_pos rfl] at hp
   try refine sq F ?_
   refine wk F ?_
   refine ye hQ F ?_
   exact bad _ _ _ hp.symm
  | false =>
   obtain ⟨rfl, rfl⟩ := hg rfl
   rw [if_neg (by simp)] at hp
   try refine sq F ?_
   refine wk F ?_
   refine lm (fun nL tL hL => ∃ (k v2 : Nat) (l2 : List Tok), tk.length - k = nL ∧ h ++ [tksR v2 l2] = hL ∧ tL 5 = .hs h.length v2 0 l2.length true ∧ tL 11 = .int .i64 k ∧ k ≤ tk.length ∧ (tk.drop k).foldl addT l2 = tk.foldl addT l ∧ szs Tok.sz l2 + szs Tok.sz (tk.drop k) ≤ szs Tok.sz l + szs Tok.sz tk) ((fun (k v2 : Nat) (l2 : List Tok) => (tk.length - k : Nat)) (0) (v) (l)) ?_ ?_
   ·refine Wkn.refl ⟨0, v, l, rfl, hpE, ?_, ?_, ?_, ?_, ?_⟩
    all_goals first | exact zq F | rfl | omega | trivial | skip
   rintro _ s3 h' ⟨k, v2, l2, rfl, rfl, e5, e11, hk, hq, hz2⟩ K3 hK3
   simp only [mix_cons, mix_nil, Nat.reduceEqDiff, ↓reduceIte] at e5 e11
   have F := F3 F e5 e11
   refine wk F ?_
   refine cq F (fun c2 => ?_) (fun c2 => ?_) <;> (try exact c2.elim) <;> (refine wk F ?_)
   ·obtain ⟨y, hy, hym⟩ := getElem?_of_lt c2
    rw [drop_cons_of hy] at hq hz2
    simp only [szs, List.foldl_cons] at hq hz2
    have hz3 := szs_len Tok.sz Tok.sz_pos l2
    have hz4 := addT_sz l2 y
    have F := F2 F hy
    by_cases c3 : y.1 = 3
    ·have b3 : (y.1 == 3) = true := by simpa using c3
     by_cases c4 : y.2.2.2 = []
     ·have b4 : (y.2.2.2 == []) = true := by simpa using c4
      have ea : addT l2 y = l2 := by unfold addT; rw [if_pos c3, if_pos c4]
      rw [ea] at hq hz4
      have F := F3 F b3 b4
      try refine sq F ?_
      refine wk F ?_
      refine hK3 _ _ _ (Wkn.refl ⟨k + 1, v2, l2, rfl, hpE, ?_, ?_, by omega, hq, by omega⟩) (by omega)
      all_goals first | exact zq F | rfl | omega | trivial | skip
     ·have b4 : (y.2.2.2 == []) = false := by simpa using c4
      rcases List.eq_nil_or_concat l2 with rfl | ⟨l2, u, rfl⟩
      ·have ea := addT_nil y fun _ => c4
       rw [ea] at hq hz4
       have F := F3 F b3 b4
       try refine sq F ?_
       refine wk F ?_
       refine aq F ?_
       try refine sq F ?_
       refine wk F ?_
       refine hK3 _ _ _ (Wkn.refl ⟨k + 1, v2 + 1, [y], rfl, by simp [tksR], ?_, ?_, by omega, hq, by omega⟩) (by omega)
       all_goals first | exact zq F | rfl | omega | trivial | skip
      ·rw [List.concat_eq_append] at *
       have hsn := addT_snoc l2 u y c3 c4
       have e1 : ((l2.length + 1 : Nat) : Int) - 1 = l2.length := by omega
       have e2 : (l2 ++ [u])[l2.length]? = some u := by simp
       have b6 : decide (((l2.length + 1 : Nat) : Int) > 0) = true := by simp
       have e3 : l2.length < l2.length + 1 := by omega
       have hl2 : l2.length + 1 ≤ 100000000 := by rw [List.length_append] at hz3; simp only [List.length_cons, List.length_nil] at hz3; omega
       have hut := szs_txt (l := l2 ++ [u]) (u := u) (by simp)
       have hyt := szs_txt hym
       by_cases c5 : u.1 = 3
       ·have b5 : (u.1 == 3) = true := by simpa using c5
        rw [if_pos c5] at hsn
        rw [hsn] at hq hz4
        have F := F8 F b3 b4 b5 b6 e1 e2 e3
        try refine sq F ?_
        refine wk F ?_
        refine hK3 _ _ _ (Wkn.refl ⟨k + 1, v2, l2 ++ [(u.1, u.2.1, u.2.2.1, u.2.2.2 ++ y.2.2.2)], rfl, by simp [tksR, Tok.av, ofCells], ?_, ?_, by omega, hq, by omega⟩) (by omega)
        all_goals first | exact zq F | rfl | omega | trivial | skip
       ·have b5 : (u.1 == 3) = false := by simpa using c5
        rw [if_neg c5] at hsn
        rw [hsn] at hq hz4
        have F := F8 F b3 b4 b5 b6 e1 e2 e3
        try refine sq F ?_
        refine wk F ?_
        refine aq F ?_
        try refine sq F ?_
        refine wk F ?_
        refine hK3 _ _ _ (Wkn.refl ⟨k + 1, v2 + 1, l2 ++ [u] ++ [y], rfl, by simp [tksR], ?_, ?_, by omega, hq, by omega⟩) (by omega)
        all_goals first | exact zq F | rfl | omega | trivial | skip
    ·have b3 : (y.1 == 3) = false := by simpa using c3
     have ea : addT l2 y = l2 ++ [y] := by unfold addT; rw [if_neg c3]
     rw [ea] at hq hz4
     have F := F2 F b3
     try refine sq F ?_
     refine wk F ?_
     refine aq F ?_
     try refine sq F ?_
     refine wk F ?_
     refine hK3 _ _ _ (Wkn.refl ⟨k + 1, v2 + 1, l2 ++ [y], rfl, by simp [tksR], ?_, ?_, by omega, hq, by omega⟩) (by omega)
     all_goals first | exact zq F | rfl | omega | trivial | skip
   ·rw [drop_nil_of c2] at hq hz2
    simp only [szs, List.foldl_nil] at hq hz2
    subst hq
    refine cq F (fun c4 => ?_) (fun c4 => ?_) <;> (try exact c4.elim) <;> (refine wk F ?_)
    ·rw [if_pos (by omega)] at hp
     refine ye hQ F ?_
     exact bad _ _ _ hp.symm
    ·rw [if_neg (by omega)] at hp
     refine hK2 _ _ _ (Wkn.refl ⟨g, v2, r1, tk.foldl addT l, rfl, hpE, ?_, ?_, by omega, hp, by omega, by omega⟩) (by omega)
     all_goals first | exact zq F | rfl | omega | trivial | skip
 ·have c1 : s1 = [] := List.eq_nil_of_length_eq_zero (by omega)
  rw [if_pos c1] at hp
  refine ye hQ F ?_
  rw [← hp]
  exact Fin.frz (FrzL.tup (.cons (Frz.toksD (Nat.le_refl _) (by simp [getRow, tksR]; rfl) rfl) (.cons (.clo _ (.int _ _)) (.cons (.clo _ (.int _ _)) .nil)))) ⟨_, rfl, rfl⟩
end Go.Av
namespace Go.Av
open Go Go.Proofs Go.RowKit
attribute [local irreducible] WP WPl WPix Sat
set_option maxRecDepth 100000
set_option maxHeartbeats 1000000
variable {G : Nat → Option (List AVal)}
def blankT (t : Tok) : Bool := t.2.2.2.all blankB && (t.1 == 3)
theorem blank_4 : ∀ b : UInt8, blankB b = (b == 9 || b == 10 || b == 13 || b == 32) := by
 have : ∀ x : _root_.Fin 256, blankB (UInt8.ofNat x.val) = (UInt8.ofNat x.val == 9 || UInt8.ofNat x.val == 10 || UInt8.ofNat x.val == 13 || UInt8.ofNat x.val == 32) := by decide +kernel
 intro b
 have h := this ⟨b.toNat, b.toNat_lt⟩
 simpa using h
theorem ne_nat (c : UInt8) (k : Nat) (hk : k < 256) (h : c ≠ UInt8.ofNat k) : ((c.toNat : Int) != (k : Int)) = true := by
 have : ¬ (c.toNat : Int) = k := fun e2 => h (UInt8.toNat_inj.1 (by rw [UInt8.toNat_ofNat_of_lt' (by simpa using hk)]; omega))
 simpa using this
theorem rblankT_sat (t : Tok) (ht : t.2.2.2.length ≤ 1048576) (h : Heap) : Sat (CT G) 82 [t.av] h (fun r h' => r = .bool (blankT t) ∧ h' = h) := by
 have fin : ∀ (j : Heap) (b : Bool), b = blankT t → Fin h (h ++ j) (fun r h' => r = .bool (blankT t) ∧ h' = h) (.bool b) := fun j b e => by rw [e]; exact Fin.plain (.bool _) ⟨rfl, rfl⟩
 refine sb [.tmp 2] (fn := Tryz.f82) Tryz.func82 ?_
 intro Q hQ
 refine wk trivial ?_
 refine lm (fun nL tL hL => ∃ (i : Nat), t.2.2.2.length - i = nL ∧ h ++ [.row 83 4 0 [t.av]] = hL ∧ tL 1 = .hp h.length 0 0 0 ∧ tL 3 = .int .i64 i ∧ i ≤ t.2.2.2.length ∧ (t.2.2.2.take i).all blankB = true) ((fun (i : Nat) => (t.2.2.2.length - i : Nat)) (0)) ?_ ?_
 ·refine Wkn.refl ⟨0, rfl, hpE, ?_, ?_, by omega, by simp⟩
  all_goals first | exact zq trivial | rfl | omega | trivial | skip
 rintro _ s2 h' ⟨i, rfl, rfl, e1, e3, hi, hq⟩ K2 hK2
 simp only [mix_cons, mix_nil, Nat.reduceEqDiff, ↓reduceIte] at e1 e3
 have F := F2 e1 e3
 refine wk F ?_
 refine cq F (fun c1 => ?_) (fun c1 => ?_) <;> (try exact c1.elim) <;> (refine wk F ?_)
 ·obtain ⟨c, hc, hcm⟩ := getElem?_of_lt c1
  have hb := blank_4 c
  have no : blankB c = false → blankT t = false := fun e => by
   have : t.2.2.2.all blankB = false := List.all_eq_false.2 ⟨c, hcm, by simp [e]⟩
   unfold blankT; rw [this, Bool.false_and]
  have nx : blankB c = true → (t.2.2.2.take (i + 1)).all blankB = true := fun e => by
   rw [List.take_add_one, hc]; simp [hq, e]
  have F := F2 F hc
  by_cases e9 : c = 9
  ·subst e9
   have n9 : ((UInt8.toNat 9 : Int) != 9) = false := rfl
   have F := F2 F n9
   try refine sq F ?_
   refine wk F ?_
   refine hK2 _ _ _ (Wkn.refl ⟨i + 1, rfl, hpE, ?_, ?_, by omega, nx rfl⟩) (by omega)
   all_goals first | exact zq F | rfl | omega | trivial | skip
  ·have n9 : ((c.toNat : Int) != 9) = true := ne_nat c 9 (by omega) e9
   have F := F2 F n9
   by_cases e10 : c = 10
   ·subst e10
    have n10 : ((UInt8.toNat 10 : Int) != 10) = false := rfl
    have n9 : ((UInt8.toNat 10 : Int) != 9) = true := rfl
    have F := F5 e1 e3 hc n9 n10
    try refine sq F ?_
    refine wk F ?_
    refine hK2 _ _ _ (Wkn.refl ⟨i + 1, rfl, hpE, ?_, ?_, by omega, nx rfl⟩) (by omega)
    all_goals first | exact zq F | rfl | omega | trivial | skip
   ·have n10 : ((c.toNat : Int) != 10) = true := ne_nat c 10 (by omega) e10
    have F := F2 F n10
    by_cases e13 : c = 13
    ·subst e13
     have n13 : ((UInt8.toNat 13 : Int) != 13) = false := rfl
     have n9 : ((UInt8.toNat 13 : Int) != 9) = true := rfl
     have n10 : ((UInt8.toNat 13 : Int) != 10) = true := rfl
     have F := F6 e1 e3 hc n9 n10 n13
     try refine sq F ?_
     refine wk F ?_
     refine hK2 _ _ _ (Wkn.refl ⟨i + 1, rfl, hpE, ?_, ?_, by omega, nx rfl⟩) (by omega)
     all_goals first | exact zq F | rfl | omega | trivial | skip
    ·have n13 : ((c.toNat : Int) != 13) = true := ne_nat c 13 (by omega) e13
     have F := F2 F n13
     by_cases e32 : c = 32
     ·subst e32
      have n32 : ((UInt8.toNat 32 : Int) != 32) = false := rfl
      have n9 : ((UInt8.toNat 32 : Int) != 9) = true := rfl
      have n10 : ((UInt8.toNat 32 : Int) != 10) = true := rfl
      have n13 : ((UInt8.toNat 32 : Int) != 13) = true := rfl
      have F := F7 e1 e3 hc n9 n10 n13 n32
      try refine sq F ?_
      refine wk F ?_
      refine hK2 _ _ _ (Wkn.refl ⟨i + 1, rfl, hpE, ?_, ?_, by omega, nx rfl⟩) (by omega)
      all_goals first | exact zq F | rfl | omega | trivial | skip
     ·have n32 : ((c.toNat : Int) != 32) = true := ne_nat c 32 (by omega) e32
      have F := F2 F n32
      try refine sq F ?_
      refine wk F ?_
      refine ee hQ F ?_
      exact fin _ _ (no (by rw [hb]; simp [e9, e10, e13, e32])).symm
 ·have e1 : t.2.2.2.take i = t.2.2.2 := List.take_of_length_le (by omega)
  rw [e1] at hq
  refine wk (F2 e1 e3) ?_
  refine ee hQ (F2 e1 e3) ?_
  exact fin _ _ (by unfold blankT; rw [hq, Bool.true_and])
end Go.Av
namespace Go.Av
open Go Go.Proofs Go.RowKit
set_option maxRecDepth 100000
set_option maxHeartbeats 1000000
def elL : Nat → Nat → Bs → List At → Bs → List Elem → List Tok → Option (Elem × List Tok)
 | 0, _, _, _, _, _, _ => none
 | _ + 1, _, _, _, _, _, [] => none
 | f + 1, d, n, a, x, k, t :: ts =>
  if t.1 = 3 then elL f d n a (x ++ t.2.2.2) k ts
  else if t.1 = 1 then (if d = 0 then none else (elL f (d - 1) t.2.1 t.2.2.1 [] [] ts).bind fun q => elL f d n a x (k ++ [q.1]) q.2)
  else if t.1 = 2 then (if t.2.1 = n then some (⟨n, a, x, k⟩, ts) else none)
  else none
def elF (d : Nat) : List Tok → Option (Elem × List Tok)
 | [] => none
 | t :: ts => if t.1 = 1 then (if d = 0 then none else elL (ts.length + 1) (d - 1) t.2.1 t.2.2.1 [] [] ts) else none
theorem elL_one (f d : Nat) (n : Bs) (a : List At) (x : Bs) (k : List Elem) (t : Tok) (ts : List Tok) : elL (f + 1) d n a x k (t :: ts) =
  if t.1 = 3 then elL f d n a (x ++ t.2.2.2) k ts
  else if t.1 = 1 then (if d = 0 then none else (elL f (d - 1) t.2.1 t.2.2.1 [] [] ts).bind fun q => elL f d n a x (k ++ [q.1]) q.2)
  else if t.1 = 2 then (if t.2.1 = n then some (⟨n, a, x, k⟩, ts) else none) else none := rfl
theorem elL_nil (f d : Nat) (n : Bs) (a : List At) (x : Bs) (k : List Elem) : elL f d n a x k [] = none := by cases f <;> rfl
theorem elF_cons (d : Nat) (t : Tok) (ts : List Tok) : elF d (t :: ts) = if t.1 = 1 then (if d = 0 then none else elL (ts.length + 1) (d - 1) t.2.1 t.2.2.1 [] [] ts) else none := rfl
theorem elL_suf : ∀ (f d : Nat) (n : Bs) (a : List At) (x : Bs) (k : List Elem) (ts : List Tok) (q : Elem × List Tok), elL f d n a x k ts = some q → q.2 <:+ ts ∧ q.2.length < ts.length := by
 intro f
 induction f with
 | zero => intro d n a x k ts q h; cases h
 | succ f ih =>
  intro d n a x k ts q h
  cases ts with
  | nil => rw [elL_nil] at h; cases h
  | cons t ts =>
   rw [elL_one] at h
   have key : q.2 <:+ ts := by
    split at h
    ·exact (ih _ _ _ _ _ _ _ h).1
    ·split at h
     ·split at h
      ·cases h
      ·obtain ⟨p, hp, h⟩ := Option.bind_eq_some_iff.1 h
       exact (ih _ _ _ _ _ _ _ h).1.trans (ih _ _ _ _ _ _ _ hp).1
     ·split at h
      ·split at h
       ·cases h; exact List.suffix_refl _
       ·cases h
      ·cases h
   exact ⟨key.trans (List.suffix_cons t ts), by have := key.length_le; simp; omega⟩
theorem elF_suf {d : Nat} {ts : List Tok} {q : Elem × List Tok} (h : elF d ts = some q) : q.2.length < ts.length ∧ q.2 = ts.drop (ts.length - q.2.length) := by
 cases ts with
 | nil => cases h
 | cons t ts =>
  rw [elF_cons] at h
  split at h
  ·split at h
   ·cases h
   ·have h1 := (elL_suf _ _ _ _ _ _ _ _ h)
    exact ⟨by simp; omega, List.suffix_iff_eq_drop.1 (h1.1.trans (List.suffix_cons t ts))⟩
  ·cases h
theorem elL_fuel : ∀ (f g d : Nat) (n : Bs) (a : List At) (x : Bs) (k : List Elem) (ts : List Tok), ts.length < f → ts.length < g → elL f d n a x k ts = elL g d n a x k ts := by
 intro f
 induction f with
 | zero => intro g d n a x k ts h; omega
 | succ f ih =>
  intro g d n a x k ts h1 h2
  obtain ⟨g, rfl⟩ : ∃ g', g = g' + 1 := ⟨g - 1, by omega⟩
  cases ts with
  | nil => rw [elL_nil, elL_nil]
  | cons t ts =>
   simp only [List.length_cons] at h1 h2
   rw [elL_one, elL_one, ih g d n a (x ++ t.2.2.2) k ts (by omega) (by omega), ih g (d - 1) t.2.1 t.2.2.1 [] [] ts (by omega) (by omega)]
   cases hq : elL g (d - 1) t.2.1 t.2.2.1 [] [] ts with
   | none => rfl
   | some q =>
    have := (elL_suf _ _ _ _ _ _ _ _ hq).2
    simp only [Option.bind_some]
    rw [ih g d n a x (k ++ [q.1]) q.2 (by omega) (by omega)]
theorem elL_cons (f d : Nat) (n : Bs) (a : List At) (x : Bs) (k : List Elem) (t : Tok) (ts : List Tok) (hf : ts.length < f) : elL (f + 1) d n a x k (t :: ts) =
  if t.1 = 3 then elL f d n a (x ++ t.2.2.2) k ts
  else if t.1 = 1 then (elF d (t :: ts)).bind fun q => elL f d n a x (k ++ [q.1]) q.2
  else if t.1 = 2 then (if t.2.1 = n then some (⟨n, a, x, k⟩, ts) else none) else none := by
 rw [elL_one, elF_cons]
 by_cases h1 : t.1 = 1
 ·have h3 : ¬ t.1 = 3 := by omega
  rw [if_neg h3, if_neg h3, if_pos h1, if_pos h1, if_pos h1]
  by_cases hd : d = 0
  ·rw [if_pos hd, if_pos hd]; rfl
  ·rw [if_neg hd, if_neg hd, elL_fuel (ts.length + 1) f (d - 1) t.2.1 t.2.2.1 [] [] ts (by omega) hf]
 ·rw [if_neg h1, if_neg h1]
end Go.Av
