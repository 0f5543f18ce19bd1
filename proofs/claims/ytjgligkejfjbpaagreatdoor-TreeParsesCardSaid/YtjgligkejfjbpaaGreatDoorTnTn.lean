/- The element of any text, or what is wrong with it, is the document's: the card, for every text. -/
import Derived.Test.YtjgligkejfjbpaaGreatDoorTnRg
import Derived.Test.YtjgligkejfjbpaaGreatDoorTnTf
import Derived.Test.YtjgligkejfjbpaaGreatDoorTnHp
import Derived.Test.YtjgligkejfjbpaaGreatDoorTnIc
set_option linter.unusedSimpArgs false
set_option linter.unusedVariables false
namespace Go.Av
open Go Go.Proofs Go.RowKit
attribute [local irreducible] WP WPl WPix Sat
set_option maxRecDepth 100000
set_option maxHeartbeats 1000000
variable {G : Nat → Option (List AVal)}
theorem Frz.slR {h : Heap} {n m : Nat} {es fs : List AVal} (z : FrzRs h n es fs) : Frz h n (.sl m es) (.sl m fs) :=
 .sl _ _ _ z.len.symm (fun i r s h1 h2 => ⟨(z.at_ i r s h1 h2).len, fun j d hd => (z.at_ i r s h1 h2).sto d (List.mem_of_getElem? hd)⟩) fun i r s j c d h1 h2 h3 h4 => (z.at_ i r s h1 h2).cell j c d h3 h4
theorem tok_frzN {h : Heap} {n : Nat} (k : Int) (nm tx : Bs) : FrzR h n (.agg [.int .i64 k, .str nm, .nil (.slice none 0 0), .str tx]) (Tok.av (k, nm, [], tx)) :=
 FrzL.row (.cons (.clo _ (.int _ _)) (.cons (.clo _ (.str _)) (.cons (.nils _) (.cons (.clo _ (.str _)) .nil)))) rfl
theorem tok_frzC {h : Heap} {n : Nat} (t : Tok) : FrzR h n t.av t.av := FrzR.clo (Tok.clo _ t) (fun c hc => t.av_sto c hc)
def OpenR (h : Heap) (y : List Tok × Bs × Bool) (r : AVal) (h' : Heap) : Prop :=
 ∃ (ts : List Tok) (rest : Bs), r = .tup [.sl 4 (ts.map Tok.av), .str rest, .bool (!y.2.2)] ∧ (y.2.2 = false → ts = y.1 ∧ rest = y.2.1) ∧ h' = h
theorem toks_clo (n : Nat) (l : List Tok) : Clo n (.sl 4 (l.map Tok.av)) := by
 refine .sl _ _ fun c hc => ?_
 obtain ⟨a, _, rfl⟩ := List.mem_map.1 hc
 exact Tok.clo _ a
theorem OpenR.bad {h : Heap} {y : List Tok × Bs × Bool} (j : Heap) (e : y.2.2 = true) : Fin h (h ++ j) (OpenR h y) (.tup [.nil (.slice none 0 0), .str [], .bool false]) :=
 Fin.frz (FrzL.tup (.cons (.nils 4) (.cons (.clo _ (.str _)) (.cons (.clo _ (.bool _)) .nil)))) ⟨[], [], by rw [e]; rfl, (fun e2 => by rw [e] at e2; cases e2), rfl⟩
theorem OpenR.mk {h : Heap} {y : List Tok × Bs × Bool} (j : Heap) {x : AVal} {rest : Bs} {b : Bool} (ts : List Tok) (hx : Frz (h ++ j) h.length x (.sl 4 (ts.map Tok.av))) (hb : b = !y.2.2) (hg : y.2.2 = false → ts = y.1 ∧ rest = y.2.1) : Fin h (h ++ j) (OpenR h y) (.tup [x, .str rest, .bool b]) :=
 Fin.frz (FrzL.tup (.cons hx (.cons (.clo _ (.str _)) (.cons (.clo _ (.bool _)) .nil)))) ⟨ts, rest, by rw [hb], hg, rfl⟩
theorem OpenR.good {h : Heap} {y : List Tok × Bs × Bool} (j : Heap) (ts : List Tok) (rest : Bs) (e : y = (ts, rest, false)) : Fin h (h ++ j) (OpenR h y) (.tup [.sl 4 (ts.map Tok.av), .str rest, .bool true]) := by
 subst e
 exact Fin.plain (.tup _ (by intro c hc; simp at hc; rcases hc with rfl | rfl | rfl; exact toks_clo _ ts; exact .str _; exact .bool _)) ⟨ts, rest, rfl, fun _ => ⟨rfl, rfl⟩, rfl⟩
theorem tok_weak (h jj : Heap) (n : Bs) (v : Nat) (at_ : List At) {C : Ctx} (ms : List Nat) (t : Env) :
  Weak C ms t (h ++ tkR n (h.length + 1) v at_.length :: atR v at_ :: jj) t (h ++ .row 83 4 0 [Tok.av (1, n, at_, [])] :: .dead :: jj) := by
 have g1 : getRow (h ++ tkR n (h.length + 1) v at_.length :: atR v at_ :: jj) (h.length + 1) v = some (67, 2, at_.map At.av) := by rw [gs_new _ rfl]; simp [getRow, atR]
 have g2 : getRow (h ++ tkR n (h.length + 1) v at_.length :: atR v at_ :: jj) h.length 0 = some (83, 4, [.agg [.int .i64 1, .str n, .hs (h.length + 1) v 0 at_.length true, .str []]]) := by rw [gs_new0 _ rfl]; simp [getRow, tkR]
 have := Weak.fzIn (C := C) (ms := ms) (t := t) (t1 := t) (h := h ++ tkR n (h.length + 1) v at_.length :: atR v at_ :: jj) (h.length + 1) v h.length 0 [Tok.av (1, n, at_, [])] g1 (by omega) g2 (by simp) (fun i x y hx hy => by
   match i with
   | 0 =>
    simp at hx hy; subst hx; subst hy
    refine ⟨rfl, fun j c d hc hd => ?_⟩
    match j with
    | 0 => simp [AVal.cells, Tok.av] at hc hd; subst hc; subst hd; exact ⟨.same _, rfl⟩
    | 1 => simp [AVal.cells, Tok.av] at hc hd; subst hc; subst hd; exact ⟨.same _, rfl⟩
    | 2 =>
     simp [AVal.cells, Tok.av] at hc hd; subst hc; subst hd
     exact ⟨Fz.all _ _ _ g1 rfl (by simp), by simp [AVal.sto]⟩
    | 3 => simp [AVal.cells, Tok.av] at hc hd; subst hc; subst hd; exact ⟨.same _, rfl⟩
    | _ + 4 => simp [AVal.cells, Tok.av] at hc
   | _ + 1 => simp at hx) (fun _ => .inl rfl)
 simpa using this
theorem ropen_sat (hG : GOk G) (hC : GClo (CT G)) (s : Bs) (hs : s.length ≤ 1048576) (h : Heap) : Sat (CT G) 115 [.str s] h (OpenR h (openF s)) := by
 have h1 : (nameR s).length ≤ s.length := drop_len _ _
 have hn := rname_sat hG hC s (by omega)
 cases hb : badN (nameW s) with
 | true =>
  have e : nmR s = ([], s) := by unfold nmR; rw [if_pos hb]
  have he : (([] : Bs) == []) = true := rfl
  have ho : (openF s).2.2 = true := by unfold openF; rw [hb, openL, if_pos rfl]
  rw [e] at hn
  skip
  refine Sat.body [.tmp 2, .tmp 3, .tmp 4] (fn := Tryz.f115) Tryz.func115 rfl rfl (by kernel_rfl) (by kernel_rfl) (by kernel_rfl) rfl ?_
  intro Q hQ
  (repeat (first | refine w1 (fun K hK => ?_) | refine w2 ?_ | refine w3 ?_ | ((first | refine w4 ?_ | refine WP_draw 9 (by decide +kernel) ?_ | refine WP_draw 7 (by decide +kernel) ?_ | refine w5 ?_ | refine w6 ?_ | refine w7 ?_); try refine sq1 he ?_) | (refine w8 ?_; refine sq1 he ?_; refine w9 ?_) | (refine rq1 he ?_; try refine sq1 he ?_) | (refine vq1 he ?_; try refine sq1 he ?_) | ((first | refine hK _ _ (w0 ?_) | (clear hK K; refine hK _ _ (w0 ?_)) | (clear hK K; clear hK K; refine hK _ _ (w0 ?_))); clear hK K)))
  refine (hn _).mono ?_
  rintro r h' ⟨rfl, hk_⟩
  replace hk_ := hk_.symm
  subst hk_
  try refine sq1 he ?_
  (repeat (first | refine w1 (fun K hK => ?_) | refine w2 ?_ | refine w3 ?_ | ((first | refine w4 ?_ | refine WP_draw 9 (by decide +kernel) ?_ | refine WP_draw 7 (by decide +kernel) ?_ | refine w5 ?_ | refine w6 ?_ | refine w7 ?_); try refine sq1 he ?_) | (refine w8 ?_; refine sq1 he ?_; refine w9 ?_) | (refine rq1 he ?_; try refine sq1 he ?_) | (refine vq1 he ?_; try refine sq1 he ?_) | ((first | refine hK _ _ (w0 ?_) | (clear hK K; refine hK _ _ (w0 ?_)) | (clear hK K; clear hK K; refine hK _ _ (w0 ?_))); clear hK K)))
  refine WP_loopm (by simp only [go_sem, List.nil_append, List.cons_append]; rfl) (fun nL tL hL => 0 = nL ∧ h ++ [.row 83 4 0 [.agg [.int .i64 1, .str [], .nil (.slice none 0 0), .str []]]] = hL ∧ tL 5 = .str []) (0) ?_ ?_
  ·refine Wkn.refl ⟨rfl, (by first | rfl | (simp; done) | (simp; rfl)), ?_⟩
   all_goals first | exact zq1 he | rfl | omega | trivial | skip
  rintro _ s2 h' ⟨rfl, rfl, e5⟩ K2 hK2
  simp only [mix_cons, mix_nil, Nat.reduceEqDiff, ↓reduceIte] at e5
  (repeat (first | refine w1 (fun K hK => ?_) | refine w2 ?_ | refine w3 ?_ | ((first | refine w4 ?_ | refine WP_draw 9 (by decide +kernel) ?_ | refine WP_draw 7 (by decide +kernel) ?_ | refine w5 ?_ | refine w6 ?_ | refine w7 ?_); try refine sq2 he e5 ?_) | (refine w8 ?_; refine sq2 he e5 ?_; refine w9 ?_) | (refine rq2 he e5 ?_; try refine sq2 he e5 ?_) | (refine vq2 he e5 ?_; try refine sq2 he e5 ?_) | ((first | refine hK _ _ (w0 ?_) | (clear hK K; refine hK _ _ (w0 ?_)) | (clear hK K; clear hK K; refine hK _ _ (w0 ?_))); clear hK K)))
  first | refine (hQ _ _ ?_).1 | refine (hQ _ _ ?_).2
  simp (disch := first | omega | (simp only [go_sem, ↓reduceIte, seval]; first | done | omega) | fail) only [go_sem, ↓reduceIte, seval, he, e5, resA, resL, resA1]
  exact OpenR.bad _ ho
 | false =>
  have e : nmR s = (nameW s, nameR s) := by unfold nmR; rw [if_neg (by simp [hb])]
  have hne : (nameW s == []) = false := by simpa using badN_nil _ hb
  rw [e] at hn
  skip
  refine Sat.body [.tmp 2, .tmp 3, .tmp 4] (fn := Tryz.f115) Tryz.func115 rfl rfl (by kernel_rfl) (by kernel_rfl) (by kernel_rfl) rfl ?_
  intro Q hQ
  (repeat (first | refine w1 (fun K hK => ?_) | refine w2 ?_ | refine w3 ?_ | ((first | refine w4 ?_ | refine WP_draw 9 (by decide +kernel) ?_ | refine WP_draw 7 (by decide +kernel) ?_ | refine w5 ?_ | refine w6 ?_ | refine w7 ?_); try refine sq1 hne ?_) | (refine w8 ?_; refine sq1 hne ?_; refine w9 ?_) | (refine rq1 hne ?_; try refine sq1 hne ?_) | (refine vq1 hne ?_; try refine sq1 hne ?_) | ((first | refine hK _ _ (w0 ?_) | (clear hK K; refine hK _ _ (w0 ?_)) | (clear hK K; clear hK K; refine hK _ _ (w0 ?_))); clear hK K)))
  refine (hn _).mono ?_
  rintro r h' ⟨rfl, hk_⟩
  replace hk_ := hk_.symm
  subst hk_
  try refine sq1 hne ?_
  (repeat (first | refine w1 (fun K hK => ?_) | refine w2 ?_ | refine w3 ?_ | ((first | refine w4 ?_ | refine WP_draw 9 (by decide +kernel) ?_ | refine WP_draw 7 (by decide +kernel) ?_ | refine w5 ?_ | refine w6 ?_ | refine w7 ?_); try refine sq1 hne ?_) | (refine w8 ?_; refine sq1 hne ?_; refine w9 ?_) | (refine rq1 hne ?_; try refine sq1 hne ?_) | (refine vq1 hne ?_; try refine sq1 hne ?_) | ((first | refine hK _ _ (w0 ?_) | (clear hK K; refine hK _ _ (w0 ?_)) | (clear hK K; clear hK K; refine hK _ _ (w0 ?_))); clear hK K)))
  refine WP_loopm (by simp only [go_sem, List.nil_append, List.cons_append]; rfl) (fun nL tL hL => ∃ (f v : Nat) (s1 : Bs) (at_ : List At) (jj : Heap), f = nL ∧ h ++ tkR (nameW s) (h.length + 1) v at_.length :: atR v at_ :: jj = hL ∧ tL 5 = .str (nameW s) ∧ tL 6 = .str s1 ∧ tL 7 = .hp h.length 0 0 0 ∧ s1.length ≤ s.length ∧ s1.length + 2 ≤ f ∧ openL f (nameW s) at_ s1 false = openF s ∧ at_.length ≤ 32) ((fun (f v : Nat) (s1 : Bs) (at_ : List At) (jj : Heap) => (f : Nat)) ((s.length + 3)) (0) ((nameR s)) ([]) ([])) ?_ ?_
  ·refine ⟨_, _, Weak.virtCell (p := h.length) (v := 0) 67 2 (by omega) (by simp (disch := first | omega | (simp only [go_sem, ↓reduceIte, seval]; first | done | omega) | fail) only [go_sem, ↓reduceIte, seval, hne]; rfl) 2 rfl, ⟨(s.length + 3), 0, (nameR s), [], [], rfl, (by simp [tkR, atR]), ?_, ?_, ?_, h1, by omega, by rw [openF, hb], by simp⟩⟩
   all_goals first | exact zq1 hne | rfl | omega | trivial | skip
  rintro _ s2 h' ⟨f, v, s1, at_, jj, rfl, rfl, e5, e6, e7, hs1, hf, hp, ha⟩ K2 hK2
  simp only [mix_cons, mix_nil, Nat.reduceEqDiff, ↓reduceIte] at e5 e6 e7
  (repeat (first | refine w1 (fun K hK => ?_) | refine w2 ?_ | refine w3 ?_ | ((first | refine w4 ?_ | refine WP_draw 9 (by decide +kernel) ?_ | refine WP_draw 7 (by decide +kernel) ?_ | refine w5 ?_ | refine w6 ?_ | refine w7 ?_); try refine sq4 hne e5 e6 e7 ?_) | (refine w8 ?_; refine sq4 hne e5 e6 e7 ?_; refine w9 ?_) | (refine rq4 hne e5 e6 e7 ?_; try refine sq4 hne e5 e6 e7 ?_) | (refine vq4 hne e5 e6 e7 ?_; try refine sq4 hne e5 e6 e7 ?_) | ((first | refine hK _ _ (w0 ?_) | (clear hK K; refine hK _ _ (w0 ?_)) | (clear hK K; clear hK K; refine hK _ _ (w0 ?_))); clear hK K)))
  have hd := drop_len blankB s1
  have ex1 : [(1, nameW s, at_, ([] : Bs))].map Tok.av = [Tok.av (1, nameW s, at_, [])] := rfl
  obtain ⟨g, rfl⟩ : ∃ g, f = g + 1 := ⟨f - 1, by omega⟩
  rw [openL, if_neg (by simp)] at hp
  refine (rblanks_sat hG hC s1 (by omega) _).mono ?_
  rintro r h' ⟨rfl, rfl⟩
  try refine sq4 hne e5 e6 e7 ?_
  (repeat (first | refine w1 (fun K hK => ?_) | refine w2 ?_ | refine w3 ?_ | ((first | refine w4 ?_ | refine WP_draw 9 (by decide +kernel) ?_ | refine WP_draw 7 (by decide +kernel) ?_ | refine w5 ?_ | refine w6 ?_ | refine w7 ?_); try refine sq4 hne e5 e6 e7 ?_) | (refine w8 ?_; refine sq4 hne e5 e6 e7 ?_; refine w9 ?_) | (refine rq4 hne e5 e6 e7 ?_; try refine sq4 hne e5 e6 e7 ?_) | (refine vq4 hne e5 e6 e7 ?_; try refine sq4 hne e5 e6 e7 ?_) | ((first | refine hK _ _ (w0 ?_) | (clear hK K; refine hK _ _ (w0 ?_)) | (clear hK K; clear hK K; refine hK _ _ (w0 ?_))); clear hK K)))
  cases hc1 : Lib.hasPrefix (s1.dropWhile blankB) [62] with
  | true =>
   rw [if_pos hc1] at hp
   have h9 : 1 ≤ (s1.dropWhile blankB).length := by have := has_len _ _ hc1; simp at this; omega
   have h8 : List.drop 1 (s1.dropWhile blankB) = Lib.trimPrefix (s1.dropWhile blankB) [62] := by unfold Lib.trimPrefix; rw [if_pos hc1]; rfl
   refine (rhas_sat _ [62] _).mono ?_
   rintro r h' ⟨rfl, rfl⟩
   rw [hc1]
   try simp (disch := first | omega | (simp only [go_sem, ↓reduceIte, seval]; first | done | omega) | fail) only [go_sem, ↓reduceIte, seval, hne, e5, e6, e7]
   refine hK _ _ ⟨_, _, tok_weak h jj (nameW s) v at_ _ _, ?_⟩
   clear hK K
   (repeat (first | refine w1 (fun K hK => ?_) | refine w2 ?_ | refine w3 ?_ | ((first | refine w4 ?_ | refine WP_draw 9 (by decide +kernel) ?_ | refine WP_draw 7 (by decide +kernel) ?_ | refine w5 ?_ | refine w6 ?_ | refine w7 ?_); try refine sq4 hne e5 e6 e7 ?_) | (refine w8 ?_; refine sq4 hne e5 e6 e7 ?_; refine w9 ?_) | (refine rq4 hne e5 e6 e7 ?_; try refine sq4 hne e5 e6 e7 ?_) | (refine vq4 hne e5 e6 e7 ?_; try refine sq4 hne e5 e6 e7 ?_) | ((first | refine hK _ _ (w0 ?_) | (clear hK K; refine hK _ _ (w0 ?_)) | (clear hK K; clear hK K; refine hK _ _ (w0 ?_))); clear hK K)))
   rw [h8, ← ex1]
   first | refine (hQ _ _ ?_).1 | refine (hQ _ _ ?_).2
   simp (disch := first | omega | (simp only [go_sem, ↓reduceIte, seval]; first | done | omega) | fail) only [go_sem, ↓reduceIte, seval, hne, e5, e6, e7, resA, resL, resA1]
   exact OpenR.good _ _ _ hp.symm
  | false =>
   rw [if_neg (by simp [hc1])] at hp
   skip
   refine (rhas_sat _ [62] _).mono ?_
   rintro r h' ⟨rfl, rfl⟩
   try refine sq5 hne e5 e6 e7 hc1 ?_
   (repeat (first | refine w1 (fun K hK => ?_) | refine w2 ?_ | refine w3 ?_ | ((first | refine w4 ?_ | refine WP_draw 9 (by decide +kernel) ?_ | refine WP_draw 7 (by decide +kernel) ?_ | refine w5 ?_ | refine w6 ?_ | refine w7 ?_); try refine sq5 hne e5 e6 e7 hc1 ?_) | (refine w8 ?_; refine sq5 hne e5 e6 e7 hc1 ?_; refine w9 ?_) | (refine rq5 hne e5 e6 e7 hc1 ?_; try refine sq5 hne e5 e6 e7 hc1 ?_) | (refine vq5 hne e5 e6 e7 hc1 ?_; try refine sq5 hne e5 e6 e7 hc1 ?_) | ((first | refine hK _ _ (w0 ?_) | (clear hK K; refine hK _ _ (w0 ?_)) | (clear hK K; clear hK K; refine hK _ _ (w0 ?_))); clear hK K)))
   cases hc2 : Lib.hasPrefix (s1.dropWhile blankB) [47, 62] with
   | true =>
    have ex2 : [(1, nameW s, at_, ([] : Bs)), (2, nameW s, [], [])].map Tok.av = [Tok.av (1, nameW s, at_, []), .agg [.int .i64 2, .str (nameW s), .sl 2 [], .str []]] := rfl
    rw [if_pos hc2] at hp
    have h9 : 2 ≤ (s1.dropWhile blankB).length := by have := has_len _ _ hc2; simp at this; omega
    have h8 : List.drop 2 (s1.dropWhile blankB) = Lib.trimPrefix (s1.dropWhile blankB) [47, 62] := by unfold Lib.trimPrefix; rw [if_pos hc2]; rfl
    refine (rhas_sat _ [47, 62] _).mono ?_
    rintro r h' ⟨rfl, rfl⟩
    rw [hc2]
    try simp (disch := first | omega | (simp only [go_sem, ↓reduceIte, seval]; first | done | omega) | fail) only [go_sem, ↓reduceIte, seval, hne, e5, e6, e7, hc1]
    refine hK _ _ ⟨_, _, tok_weak h jj (nameW s) v at_ _ _, ?_⟩
    clear hK K
    (repeat (first | refine w1 (fun K hK => ?_) | refine w2 ?_ | refine w3 ?_ | ((first | refine w4 ?_ | refine WP_draw 9 (by decide +kernel) ?_ | refine WP_draw 7 (by decide +kernel) ?_ | refine w5 ?_ | refine w6 ?_ | refine w7 ?_); try refine sq5 hne e5 e6 e7 hc1 ?_) | (refine w8 ?_; refine sq5 hne e5 e6 e7 hc1 ?_; refine w9 ?_) | (refine rq5 hne e5 e6 e7 hc1 ?_; try refine sq5 hne e5 e6 e7 hc1 ?_) | (refine vq5 hne e5 e6 e7 hc1 ?_; try refine sq5 hne e5 e6 e7 hc1 ?_) | ((first | refine hK _ _ (w0 ?_) | (clear hK K; refine hK _ _ (w0 ?_)) | (clear hK K; clear hK K; refine hK _ _ (w0 ?_))); clear hK K)))
    rw [h8]
    first | refine (hQ _ _ ?_).1 | refine (hQ _ _ ?_).2
    simp (disch := first | omega | (simp only [go_sem, ↓reduceIte, seval]; first | done | omega) | fail) only [go_sem, ↓reduceIte, seval, hne, e5, e6, e7, hc1, resA, resL, resA1]
    exact OpenR.mk _ [(1, nameW s, at_, []), (2, nameW s, [], [])] (.slR (.cons (tok_frzC (1, nameW s, at_, [])) (.cons (tok_frzN _ _ _) .nil))) (by rw [← hp]; rfl) (fun _ => by rw [← hp]; exact ⟨rfl, rfl⟩)
   | false =>
    rw [if_neg (by simp [hc2])] at hp
    skip
    refine (rhas_sat _ [47, 62] _).mono ?_
    rintro r h' ⟨rfl, rfl⟩
    try refine sq6 hne e5 e6 e7 hc1 hc2 ?_
    (repeat (first | refine w1 (fun K hK => ?_) | refine w2 ?_ | refine w3 ?_ | ((first | refine w4 ?_ | refine WP_draw 9 (by decide +kernel) ?_ | refine WP_draw 7 (by decide +kernel) ?_ | refine w5 ?_ | refine w6 ?_ | refine w7 ?_); try refine sq6 hne e5 e6 e7 hc1 hc2 ?_) | (refine w8 ?_; refine sq6 hne e5 e6 e7 hc1 hc2 ?_; refine w9 ?_) | (refine rq6 hne e5 e6 e7 hc1 hc2 ?_; try refine sq6 hne e5 e6 e7 hc1 hc2 ?_) | (refine vq6 hne e5 e6 e7 hc1 hc2 ?_; try refine sq6 hne e5 e6 e7 hc1 hc2 ?_) | ((first | refine hK _ _ (w0 ?_) | (clear hK K; refine hK _ _ (w0 ?_)) | (clear hK K; clear hK K; refine hK _ _ (w0 ?_))); clear hK K)))
    have hsum : (s1.takeWhile blankB).length + (s1.dropWhile blankB).length = s1.length := by rw [← List.length_append, List.takeWhile_append_dropWhile]
    cases hbl : (s1.takeWhile blankB == []) with
    | true =>
     have e0 : (s1.takeWhile blankB) = [] := by simpa using hbl
     have b1 : (((s1.dropWhile blankB).length : Int) == (s1.length : Int)) = true := by rw [e0] at hsum; simp at hsum ⊢; omega
     have ho : (openF s).2.2 = true := by
      rw [← hp, hbl, Bool.or_true, Bool.true_or, Bool.true_or]
      cases g <;> rfl
     skip
     try refine sq7 hne e5 e6 e7 hc1 hc2 b1 ?_
     (repeat (first | refine w1 (fun K hK => ?_) | refine w2 ?_ | refine w3 ?_ | ((first | refine w4 ?_ | refine WP_draw 9 (by decide +kernel) ?_ | refine WP_draw 7 (by decide +kernel) ?_ | refine w5 ?_ | refine w6 ?_ | refine w7 ?_); try refine sq7 hne e5 e6 e7 hc1 hc2 b1 ?_) | (refine w8 ?_; refine sq7 hne e5 e6 e7 hc1 hc2 b1 ?_; refine w9 ?_) | (refine rq7 hne e5 e6 e7 hc1 hc2 b1 ?_; try refine sq7 hne e5 e6 e7 hc1 hc2 b1 ?_) | (refine vq7 hne e5 e6 e7 hc1 hc2 b1 ?_; try refine sq7 hne e5 e6 e7 hc1 hc2 b1 ?_) | ((first | refine hK _ _ (w0 ?_) | (clear hK K; refine hK _ _ (w0 ?_)) | (clear hK K; clear hK K; refine hK _ _ (w0 ?_))); clear hK K)))
     first | refine (hQ _ _ ?_).1 | refine (hQ _ _ ?_).2
     simp (disch := first | omega | (simp only [go_sem, ↓reduceIte, seval]; first | done | omega) | fail) only [go_sem, ↓reduceIte, seval, hne, e5, e6, e7, hc1, hc2, b1, resA, resL, resA1]
     exact OpenR.bad _ ho
    | false =>
     have b1 : (((s1.dropWhile blankB).length : Int) == (s1.length : Int)) = false := by
      have : 0 < (s1.takeWhile blankB).length := List.length_pos_iff.2 (by simpa using hbl)
      simp; omega
     rw [hbl, Bool.or_false] at hp
     skip
     try refine sq7 hne e5 e6 e7 hc1 hc2 b1 ?_
     (repeat (first | refine w1 (fun K hK => ?_) | refine w2 ?_ | refine w3 ?_ | ((first | refine w4 ?_ | refine WP_draw 9 (by decide +kernel) ?_ | refine WP_draw 7 (by decide +kernel) ?_ | refine w5 ?_ | refine w6 ?_ | refine w7 ?_); try refine sq7 hne e5 e6 e7 hc1 hc2 b1 ?_) | (refine w8 ?_; refine sq7 hne e5 e6 e7 hc1 hc2 b1 ?_; refine w9 ?_) | (refine rq7 hne e5 e6 e7 hc1 hc2 b1 ?_; try refine sq7 hne e5 e6 e7 hc1 hc2 b1 ?_) | (refine vq7 hne e5 e6 e7 hc1 hc2 b1 ?_; try refine sq7 hne e5 e6 e7 hc1 hc2 b1 ?_) | ((first | refine hK _ _ (w0 ?_) | (clear hK K; refine hK _ _ (w0 ?_)) | (clear hK K; clear hK K; refine hK _ _ (w0 ?_))); clear hK K)))
     have hl := attrX_less (s1.dropWhile blankB)
     refine (rattr_sat hG hC (s1.dropWhile blankB) (by omega) _).mono ?_
     rintro r h' ⟨a, rest, rfl, hgood, rfl⟩
     try simp (disch := first | omega | (simp only [go_sem, ↓reduceIte, seval]; first | done | omega) | fail) only [go_sem, ↓reduceIte, seval, hne, e5, e6, e7, hc1, hc2, b1]
     (repeat (first | refine w1 (fun K hK => ?_) | refine w2 ?_ | refine w3 ?_ | ((first | refine w4 ?_ | refine WP_draw 9 (by decide +kernel) ?_ | refine WP_draw 7 (by decide +kernel) ?_ | refine w5 ?_ | refine w6 ?_ | refine w7 ?_); try refine sq7 hne e5 e6 e7 hc1 hc2 b1 ?_) | (refine w8 ?_; refine sq7 hne e5 e6 e7 hc1 hc2 b1 ?_; refine w9 ?_) | (refine rq7 hne e5 e6 e7 hc1 hc2 b1 ?_; try refine sq7 hne e5 e6 e7 hc1 hc2 b1 ?_) | (refine vq7 hne e5 e6 e7 hc1 hc2 b1 ?_; try refine sq7 hne e5 e6 e7 hc1 hc2 b1 ?_) | ((first | refine hK _ _ (w0 ?_) | (clear hK K; refine hK _ _ (w0 ?_)) | (clear hK K; clear hK K; refine hK _ _ (w0 ?_))); clear hK K)))
     generalize attrX (s1.dropWhile blankB) false = x at hp hl hgood ⊢
     obtain ⟨a0, r0, bb⟩ := x
     simp only [] at hp hl hgood ⊢
     cases bb with
     | true =>
      have ho : (openF s).2.2 = true := by
       rw [← hp, Bool.true_or, Bool.true_or]
       cases g <;> rfl
      try refine sq7 hne e5 e6 e7 hc1 hc2 b1 ?_
      (repeat (first | refine w1 (fun K hK => ?_) | refine w2 ?_ | refine w3 ?_ | ((first | refine w4 ?_ | refine WP_draw 9 (by decide +kernel) ?_ | refine WP_draw 7 (by decide +kernel) ?_ | refine w5 ?_ | refine w6 ?_ | refine w7 ?_); try refine sq7 hne e5 e6 e7 hc1 hc2 b1 ?_) | (refine w8 ?_; refine sq7 hne e5 e6 e7 hc1 hc2 b1 ?_; refine w9 ?_) | (refine rq7 hne e5 e6 e7 hc1 hc2 b1 ?_; try refine sq7 hne e5 e6 e7 hc1 hc2 b1 ?_) | (refine vq7 hne e5 e6 e7 hc1 hc2 b1 ?_; try refine sq7 hne e5 e6 e7 hc1 hc2 b1 ?_) | ((first | refine hK _ _ (w0 ?_) | (clear hK K; refine hK _ _ (w0 ?_)) | (clear hK K; clear hK K; refine hK _ _ (w0 ?_))); clear hK K)))
      first | refine (hQ _ _ ?_).1 | refine (hQ _ _ ?_).2
      simp (disch := first | omega | (simp only [go_sem, ↓reduceIte, seval]; first | done | omega) | fail) only [go_sem, ↓reduceIte, seval, hne, e5, e6, e7, hc1, hc2, b1, resA, resL, resA1]
      exact OpenR.bad _ ho
     | false =>
      obtain ⟨rfl, rfl⟩ := hgood rfl
      have hl := hl rfl
      rw [Bool.false_or] at hp
      cases hb2 : decide ((32 : Int) ≤ (at_.length : Int)) with
      | true =>
       have ho : (openF s).2.2 = true := by
        have : decide (32 ≤ at_.length) = true := by simp at hb2 ⊢; omega
        rw [← hp, this, Bool.or_true]
        cases g <;> rfl
       skip
       try refine sq8 hne e5 e6 e7 hc1 hc2 b1 hb2 ?_
       (repeat (first | refine w1 (fun K hK => ?_) | refine w2 ?_ | refine w3 ?_ | ((first | refine w4 ?_ | refine WP_draw 9 (by decide +kernel) ?_ | refine WP_draw 7 (by decide +kernel) ?_ | refine w5 ?_ | refine w6 ?_ | refine w7 ?_); try refine sq8 hne e5 e6 e7 hc1 hc2 b1 hb2 ?_) | (refine w8 ?_; refine sq8 hne e5 e6 e7 hc1 hc2 b1 hb2 ?_; refine w9 ?_) | (refine rq8 hne e5 e6 e7 hc1 hc2 b1 hb2 ?_; try refine sq8 hne e5 e6 e7 hc1 hc2 b1 hb2 ?_) | (refine vq8 hne e5 e6 e7 hc1 hc2 b1 hb2 ?_; try refine sq8 hne e5 e6 e7 hc1 hc2 b1 hb2 ?_) | ((first | refine hK _ _ (w0 ?_) | (clear hK K; refine hK _ _ (w0 ?_)) | (clear hK K; clear hK K; refine hK _ _ (w0 ?_))); clear hK K)))
       first | refine (hQ _ _ ?_).1 | refine (hQ _ _ ?_).2
       simp (disch := first | omega | (simp only [go_sem, ↓reduceIte, seval]; first | done | omega) | fail) only [go_sem, ↓reduceIte, seval, hne, e5, e6, e7, hc1, hc2, b1, hb2, resA, resL, resA1]
       exact OpenR.bad _ ho
      | false =>
       have : decide (32 ≤ at_.length) = false := by simp at hb2 ⊢; omega
       rw [this, Bool.or_false] at hp
       skip
       try refine sq8 hne e5 e6 e7 hc1 hc2 b1 hb2 ?_
       (repeat (first | refine w1 (fun K hK => ?_) | refine w2 ?_ | refine w3 ?_ | ((first | refine w4 ?_ | refine WP_draw 9 (by decide +kernel) ?_ | refine WP_draw 7 (by decide +kernel) ?_ | refine w5 ?_ | refine w6 ?_ | refine w7 ?_); try refine sq8 hne e5 e6 e7 hc1 hc2 b1 hb2 ?_) | (refine w8 ?_; refine sq8 hne e5 e6 e7 hc1 hc2 b1 hb2 ?_; refine w9 ?_) | (refine rq8 hne e5 e6 e7 hc1 hc2 b1 hb2 ?_; try refine sq8 hne e5 e6 e7 hc1 hc2 b1 hb2 ?_) | (refine vq8 hne e5 e6 e7 hc1 hc2 b1 hb2 ?_; try refine sq8 hne e5 e6 e7 hc1 hc2 b1 hb2 ?_) | ((first | refine hK _ _ (w0 ?_) | (clear hK K; refine hK _ _ (w0 ?_)) | (clear hK K; clear hK K; refine hK _ _ (w0 ?_))); clear hK K)))
       refine WP_loopm (by simp only [go_sem, List.nil_append, List.cons_append]; rfl) (fun nL tL hL => ∃ (i : Nat), at_.length - i = nL ∧ h ++ tkR (nameW s) (h.length + 1) v at_.length :: atR v at_ :: (jj ++ [.row 67 2 0 [a.av]]) = hL ∧ tL 12 = .int .i64 i ∧ i ≤ at_.length ∧ ((at_.take i).any fun x => x.1 == a.1) = false) ((fun (i : Nat) => (at_.length - i : Nat)) (0)) ?_ ?_
       ·refine Wkn.refl ⟨0, rfl, (by simp), ?_, by omega, by simp⟩
        all_goals first | exact zq8 hne e5 e6 e7 hc1 hc2 b1 hb2 | rfl | omega | trivial | skip
       rintro _ s3 h' ⟨i, rfl, rfl, e12, hi, hno⟩ K3 hK3
       simp only [mix_cons, mix_nil, Nat.reduceEqDiff, ↓reduceIte] at e12
       (repeat (first | refine w1 (fun K hK => ?_) | refine w2 ?_ | refine w3 ?_ | ((first | refine w4 ?_ | refine WP_draw 9 (by decide +kernel) ?_ | refine WP_draw 7 (by decide +kernel) ?_ | refine w5 ?_ | refine w6 ?_ | refine w7 ?_); try refine sq9 hne e5 e6 e7 hc1 hc2 b1 hb2 e12 ?_) | (refine w8 ?_; refine sq9 hne e5 e6 e7 hc1 hc2 b1 hb2 e12 ?_; refine w9 ?_) | (refine rq9 hne e5 e6 e7 hc1 hc2 b1 hb2 e12 ?_; try refine sq9 hne e5 e6 e7 hc1 hc2 b1 hb2 e12 ?_) | (refine vq9 hne e5 e6 e7 hc1 hc2 b1 hb2 e12 ?_; try refine sq9 hne e5 e6 e7 hc1 hc2 b1 hb2 e12 ?_) | ((first | refine hK _ _ (w0 ?_) | (clear hK K; refine hK _ _ (w0 ?_)) | (clear hK K; clear hK K; refine hK _ _ (w0 ?_))); clear hK K)))
       refine cq9 hne e5 e6 e7 hc1 hc2 b1 hb2 e12 (fun c3 => ?_) (fun c3 => ?_) <;> (try exact c3.elim) <;>
        (repeat (first | refine w1 (fun K hK => ?_) | refine w2 ?_ | refine w3 ?_ | ((first | refine w4 ?_ | refine WP_draw 9 (by decide +kernel) ?_ | refine WP_draw 7 (by decide +kernel) ?_ | refine w5 ?_ | refine w6 ?_ | refine w7 ?_); try refine sq9 hne e5 e6 e7 hc1 hc2 b1 hb2 e12 ?_) | (refine w8 ?_; refine sq9 hne e5 e6 e7 hc1 hc2 b1 hb2 e12 ?_; refine w9 ?_) | (refine rq9 hne e5 e6 e7 hc1 hc2 b1 hb2 e12 ?_; try refine sq9 hne e5 e6 e7 hc1 hc2 b1 hb2 e12 ?_) | (refine vq9 hne e5 e6 e7 hc1 hc2 b1 hb2 e12 ?_; try refine sq9 hne e5 e6 e7 hc1 hc2 b1 hb2 e12 ?_) | ((first | refine hK _ _ (w0 ?_) | (clear hK K; refine hK _ _ (w0 ?_)) | (clear hK K; clear hK K; refine hK _ _ (w0 ?_))); clear hK K)))
       ·obtain ⟨y, hy, hym⟩ := getElem?_of_lt c3
        skip
        try refine sq10 hne e5 e6 e7 hc1 hc2 b1 hb2 e12 hy ?_
        (repeat (first | refine w1 (fun K hK => ?_) | refine w2 ?_ | refine w3 ?_ | ((first | refine w4 ?_ | refine WP_draw 9 (by decide +kernel) ?_ | refine WP_draw 7 (by decide +kernel) ?_ | refine w5 ?_ | refine w6 ?_ | refine w7 ?_); try refine sq10 hne e5 e6 e7 hc1 hc2 b1 hb2 e12 hy ?_) | (refine w8 ?_; refine sq10 hne e5 e6 e7 hc1 hc2 b1 hb2 e12 hy ?_; refine w9 ?_) | (refine rq10 hne e5 e6 e7 hc1 hc2 b1 hb2 e12 hy ?_; try refine sq10 hne e5 e6 e7 hc1 hc2 b1 hb2 e12 hy ?_) | (refine vq10 hne e5 e6 e7 hc1 hc2 b1 hb2 e12 hy ?_; try refine sq10 hne e5 e6 e7 hc1 hc2 b1 hb2 e12 hy ?_) | ((first | refine hK _ _ (w0 ?_) | (clear hK K; refine hK _ _ (w0 ?_)) | (clear hK K; clear hK K; refine hK _ _ (w0 ?_))); clear hK K)))
        refine ⟨c3, ?_⟩
        (repeat (first | refine w1 (fun K hK => ?_) | refine w2 ?_ | refine w3 ?_ | ((first | refine w4 ?_ | refine WP_draw 9 (by decide +kernel) ?_ | refine WP_draw 7 (by decide +kernel) ?_ | refine w5 ?_ | refine w6 ?_ | refine w7 ?_); try refine sq10 hne e5 e6 e7 hc1 hc2 b1 hb2 e12 hy ?_) | (refine w8 ?_; refine sq10 hne e5 e6 e7 hc1 hc2 b1 hb2 e12 hy ?_; refine w9 ?_) | (refine rq10 hne e5 e6 e7 hc1 hc2 b1 hb2 e12 hy ?_; try refine sq10 hne e5 e6 e7 hc1 hc2 b1 hb2 e12 hy ?_) | (refine vq10 hne e5 e6 e7 hc1 hc2 b1 hb2 e12 hy ?_; try refine sq10 hne e5 e6 e7 hc1 hc2 b1 hb2 e12 hy ?_) | ((first | refine hK _ _ (w0 ?_) | (clear hK K; refine hK _ _ (w0 ?_)) | (clear hK K; clear hK K; refine hK _ _ (w0 ?_))); clear hK K)))
        cases hya : (y.1 == a.1) with
        | true =>
         have ho : (openF s).2.2 = true := by
          have : (at_.any fun x => x.1 == a.1) = true := List.any_eq_true.2 ⟨y, hym, hya⟩
          rw [← hp, this]
          cases g <;> rfl
         skip
         try refine sq11 hne e5 e6 e7 hc1 hc2 b1 hb2 e12 hy hya ?_
         (repeat (first | refine w1 (fun K hK => ?_) | refine w2 ?_ | refine w3 ?_ | ((first | refine w4 ?_ | refine WP_draw 9 (by decide +kernel) ?_ | refine WP_draw 7 (by decide +kernel) ?_ | refine w5 ?_ | refine w6 ?_ | refine w7 ?_); try refine sq11 hne e5 e6 e7 hc1 hc2 b1 hb2 e12 hy hya ?_) | (refine w8 ?_; refine sq11 hne e5 e6 e7 hc1 hc2 b1 hb2 e12 hy hya ?_; refine w9 ?_) | (refine rq11 hne e5 e6 e7 hc1 hc2 b1 hb2 e12 hy hya ?_; try refine sq11 hne e5 e6 e7 hc1 hc2 b1 hb2 e12 hy hya ?_) | (refine vq11 hne e5 e6 e7 hc1 hc2 b1 hb2 e12 hy hya ?_; try refine sq11 hne e5 e6 e7 hc1 hc2 b1 hb2 e12 hy hya ?_) | ((first | refine hK _ _ (w0 ?_) | (clear hK K; refine hK _ _ (w0 ?_)) | (clear hK K; clear hK K; refine hK _ _ (w0 ?_))); clear hK K)))
         first | refine (hQ _ _ ?_).1 | refine (hQ _ _ ?_).2
         simp (disch := first | omega | (simp only [go_sem, ↓reduceIte, seval]; first | done | omega) | fail) only [go_sem, ↓reduceIte, seval, hne, e5, e6, e7, hc1, hc2, b1, hb2, e12, hy, hya, resA, resL, resA1]
         exact OpenR.bad _ ho
        | false =>
         skip
         try refine sq11 hne e5 e6 e7 hc1 hc2 b1 hb2 e12 hy hya ?_
         (repeat (first | refine w1 (fun K hK => ?_) | refine w2 ?_ | refine w3 ?_ | ((first | refine w4 ?_ | refine WP_draw 9 (by decide +kernel) ?_ | refine WP_draw 7 (by decide +kernel) ?_ | refine w5 ?_ | refine w6 ?_ | refine w7 ?_); try refine sq11 hne e5 e6 e7 hc1 hc2 b1 hb2 e12 hy hya ?_) | (refine w8 ?_; refine sq11 hne e5 e6 e7 hc1 hc2 b1 hb2 e12 hy hya ?_; refine w9 ?_) | (refine rq11 hne e5 e6 e7 hc1 hc2 b1 hb2 e12 hy hya ?_; try refine sq11 hne e5 e6 e7 hc1 hc2 b1 hb2 e12 hy hya ?_) | (refine vq11 hne e5 e6 e7 hc1 hc2 b1 hb2 e12 hy hya ?_; try refine sq11 hne e5 e6 e7 hc1 hc2 b1 hb2 e12 hy hya ?_) | ((first | refine hK _ _ (w0 ?_) | (clear hK K; refine hK _ _ (w0 ?_)) | (clear hK K; clear hK K; refine hK _ _ (w0 ?_))); clear hK K)))
         refine hK3 _ _ _ (Wkn.refl ⟨i + 1, rfl, (by first | rfl | (simp; done) | (simp; rfl)), ?_, by omega, by rw [List.take_add_one, hy]; simp [hno, hya]⟩) (by omega)
         all_goals first | exact zq11 hne e5 e6 e7 hc1 hc2 b1 hb2 e12 hy hya | rfl | omega | trivial | skip
       ·refine aq9 hne e5 e6 e7 hc1 hc2 b1 hb2 e12 ?_
        try refine sq9 hne e5 e6 e7 hc1 hc2 b1 hb2 e12 ?_
        (repeat (first | refine w1 (fun K hK => ?_) | refine w2 ?_ | refine w3 ?_ | ((first | refine w4 ?_ | refine WP_draw 9 (by decide +kernel) ?_ | refine WP_draw 7 (by decide +kernel) ?_ | refine w5 ?_ | refine w6 ?_ | refine w7 ?_); try refine sq9 hne e5 e6 e7 hc1 hc2 b1 hb2 e12 ?_) | (refine w8 ?_; refine sq9 hne e5 e6 e7 hc1 hc2 b1 hb2 e12 ?_; refine w9 ?_) | (refine rq9 hne e5 e6 e7 hc1 hc2 b1 hb2 e12 ?_; try refine sq9 hne e5 e6 e7 hc1 hc2 b1 hb2 e12 ?_) | (refine vq9 hne e5 e6 e7 hc1 hc2 b1 hb2 e12 ?_; try refine sq9 hne e5 e6 e7 hc1 hc2 b1 hb2 e12 ?_) | ((first | refine hK _ _ (w0 ?_) | (clear hK K; refine hK _ _ (w0 ?_)) | (clear hK K; clear hK K; refine hK _ _ (w0 ?_))); clear hK K)))
        have : (at_.any fun x => x.1 == a.1) = false := by
         have e : at_.take i = at_ := List.take_of_length_le (by omega)
         rw [e] at hno; exact hno
        rw [this] at hp
        refine hK2 _ _ _ (Wkn.refl ⟨g, v + 1, rest, at_ ++ [a], jj ++ [.row 67 2 0 [a.av]], rfl, by simp [tkR, atR], ?_, ?_, ?_, by omega, by omega, hp, by simp at hb2; simp; omega⟩) (by omega)
        all_goals first | exact zq9 hne e5 e6 e7 hc1 hc2 b1 hb2 e12 | rfl | omega | trivial | skip
end Go.Av
namespace Go.Av
open Go Go.Proofs Go.RowKit
attribute [local irreducible] WP WPl WPix Sat
set_option maxRecDepth 100000
set_option maxHeartbeats 1000000
variable {G : Nat → Option (List AVal)}
theorem text_cut : ∀ s : Bs, (∀ c, c ∈ s.takeWhile textB → c ≠ 60) ∧ (s.dropWhile textB = [] ∨ ∃ t, s.dropWhile textB = 60 :: t)
 | [] => ⟨by simp, .inl rfl⟩
 | c :: s => by
  obtain ⟨h1, h2⟩ := text_cut s
  have hb : textB c = !(c == 60) := by
   have : ∀ x : UInt8, textB x = !(x == 60) := by
    intro x
    unfold textB textP
    by_cases e : x = 60
    ·subst e; rfl
    ·have : ¬ (x.toNat : Int) = 60 := fun e2 => e (UInt8.toNat_inj.1 (by have : (x.toNat : Int) = ((60 : UInt8).toNat : Int) := e2; omega))
     simp [e, this]
   exact this c
  by_cases e : c = 60
  ·subst e
   exact ⟨by simp [List.takeWhile_cons, hb], .inr ⟨s, by simp [List.dropWhile_cons, hb]⟩⟩
  ·have hb : textB c = true := by rw [hb]; simp [e]
   refine ⟨fun d hd => ?_, by rw [List.dropWhile_cons, if_pos hb]; exact h2⟩
   rw [List.takeWhile_cons, if_pos hb] at hd
   rcases List.mem_cons.1 hd with rfl | hd
   ·exact e
   ·exact h1 d hd
theorem text_ix (s : Bs) : (Lib.index s [60] < 0 ∧ s.takeWhile textB = s ∧ s.dropWhile textB = []) ∨ ∃ m : Nat, Lib.index s [60] = m ∧ m ≤ s.length ∧ s.takeWhile textB = s.take m ∧ s.dropWhile textB = s.drop m := by
 obtain ⟨h1, h2⟩ := text_cut s
 have hs : s.takeWhile textB ++ s.dropWhile textB = s := List.takeWhile_append_dropWhile
 have ix := uptoF_ix [60] s false
 generalize s.takeWhile textB = a at *
 generalize s.dropWhile textB = b at *
 subst hs
 have hne : ∀ i, i < a.length → ∀ c, (a ++ b)[i]? = some c → c ≠ 60 := fun i hi c hc => by
  rw [List.getElem?_append_left hi] at hc
  exact h1 c (List.mem_of_getElem? hc)
 rcases h2 with rfl | ⟨t, rfl⟩
 ·left
  rcases ix with ⟨g1, _⟩ | ⟨m, g1, g2, g3⟩
  ·exact ⟨g1, by simp, rfl⟩
  ·exfalso
   have hc : (Lib.cut (a ++ []) [60]).2.2 = true := by unfold Lib.cut; rw [if_pos (by omega)]
   have k1 := cut_from _ _ a.length hne hc
   have k2 := cut_len _ _ hc
   simp at k1 k2; omega
 ·right
  have hc := cut_at (a ++ 60 :: t) 60 a.length hne (by simp)
  rcases ix with ⟨g1, g2⟩ | ⟨m, g1, g2, g3⟩
  ·exfalso
   unfold uptoF at g2
   rw [hc] at g2
   simp at g2
  ·unfold uptoF at g3
   rw [hc] at g3
   have e1 : a = (a ++ 60 :: t).take m := by simpa using congrArg (fun x => x.1) g3
   have e2 : a.length = m := by
    have := congrArg List.length e1
    rw [List.length_take] at this
    simp at g2 this; omega
   exact ⟨m, g1, by simp at g2 ⊢; omega, e1, by rw [← e2]; simp⟩
theorem pre_no (c : UInt8) (t w : Bs) (h : c ≠ 60) : Lib.hasPrefix (c :: t) (60 :: w) = false := by
 simp [Lib.hasPrefix, List.isPrefixOf, Ne.symm h]
theorem OpenR.mkS {h : Heap} {y : List Tok × Bs × Bool} {x : AVal} {rest : Bs} {b : Bool} (ts : List Tok) (hx : Frz h h.length x (.sl 4 (ts.map Tok.av))) (hb : b = !y.2.2) (hg : y.2.2 = false → ts = y.1 ∧ rest = y.2.1) : Fin h h (OpenR h y) (.tup [x, .str rest, .bool b]) :=
 Fin.frzS (FrzL.tup (.cons hx (.cons (.clo _ (.str _)) (.cons (.clo _ (.bool _)) .nil)))) ⟨ts, rest, by rw [hb], hg, rfl⟩
theorem trim_yes (s w : Bs) (h : Lib.hasPrefix s w = true) : s.drop w.length = Lib.trimPrefix s w := by unfold Lib.trimPrefix; rw [if_pos h]
theorem rpart_sat (hG : GOk G) (hC : GClo (CT G)) (s : Bs) (hs : s.length ≤ 1048576) (hn0 : s ≠ []) (h : Heap) : Sat (CT G) 81 [.str s] h (OpenR h (partF s)) := by
 have ht := fun w => trim_len s w
 have hpos : 0 < s.length := List.length_pos_iff.2 hn0
 obtain ⟨c, hc0, hcm⟩ := getElem?_of_lt hpos
 have up : ∀ w z : Bs, Lib.hasPrefix s w = true → z.length ≤ 100 → Sat (CT G) 112 [.str s, .str w, .str z] h (fun r h' => ∃ rest : Bs, r = .tup [.str (uptoF z (Lib.trimPrefix s w) false).1, .str rest, .bool (!(uptoF z (Lib.trimPrefix s w) false).2.2)] ∧ ((uptoF z (Lib.trimPrefix s w) false).2.2 = false → rest = (uptoF z (Lib.trimPrefix s w) false).2.1) ∧ h' = h) := fun w z hw hz => by
  have := rupto_sat (G := G) s w z hs (by have := has_len _ _ hw; omega) hz h
  rw [trim_yes s w hw] at this
  exact this
 by_cases hc : c = 60
 ·subst hc
  have b0 : ((UInt8.toNat 60 : Int) != 60) = false := rfl
  obtain ⟨t, ht0⟩ : ∃ t, s = 60 :: t := by
   cases s with
   | nil => cases hc0
   | cons a t => simp at hc0; subst hc0; exact ⟨t, rfl⟩
  skip
  refine Sat.body [.tmp 2, .tmp 3, .tmp 4] (fn := Tryz.f81) Tryz.func81 rfl rfl (by kernel_rfl) (by kernel_rfl) (by kernel_rfl) rfl ?_
  intro Q hQ
  (repeat (first | refine w1 (fun K hK => ?_) | refine w2 ?_ | refine w3 ?_ | ((first | refine w4 ?_ | refine WP_draw 12 (by decide +kernel) ?_ | refine WP_draw 8 (by decide +kernel) ?_ | refine w5 ?_ | refine w6 ?_ | refine w7 ?_); try refine sq2 hc0 b0 ?_) | (refine w8 ?_; refine sq2 hc0 b0 ?_; refine w9 ?_) | (refine rq2 hc0 b0 ?_; try refine sq2 hc0 b0 ?_) | (refine vq2 hc0 b0 ?_; try refine sq2 hc0 b0 ?_) | ((first | refine hK _ _ (w0 ?_) | (clear hK K; refine hK _ _ (w0 ?_)) | (clear hK K; clear hK K; refine hK _ _ (w0 ?_))); clear hK K)))
  cases c1 : Lib.hasPrefix s [60, 33, 45, 45] with
  | true =>
   have e : partF s = ([], (uptoF [45, 45, 62] (Lib.trimPrefix s [60, 33, 45, 45]) false).2) := by unfold partF; rw [if_pos (show Lib.hasPrefix s p1 = true from c1)]; rfl
   skip
   refine (rhas_sat s [60, 33, 45, 45] _).mono ?_
   rintro r h' ⟨rfl, hk_⟩
   replace hk_ := hk_.symm
   subst hk_
   try refine sq3 hc0 b0 c1 ?_
   (repeat (first | refine w1 (fun K hK => ?_) | refine w2 ?_ | refine w3 ?_ | ((first | refine w4 ?_ | refine WP_draw 12 (by decide +kernel) ?_ | refine WP_draw 8 (by decide +kernel) ?_ | refine w5 ?_ | refine w6 ?_ | refine w7 ?_); try refine sq3 hc0 b0 c1 ?_) | (refine w8 ?_; refine sq3 hc0 b0 c1 ?_; refine w9 ?_) | (refine rq3 hc0 b0 c1 ?_; try refine sq3 hc0 b0 c1 ?_) | (refine vq3 hc0 b0 c1 ?_; try refine sq3 hc0 b0 c1 ?_) | ((first | refine hK _ _ (w0 ?_) | (clear hK K; refine hK _ _ (w0 ?_)) | (clear hK K; clear hK K; refine hK _ _ (w0 ?_))); clear hK K)))
   refine (up [60, 33, 45, 45] [45, 45, 62] c1 (by simp)).mono ?_
   rintro r h' ⟨rest, rfl, hg, hk⟩
   replace hk := hk.symm
   subst hk
   simp (disch := first | omega | (simp only [go_sem, ↓reduceIte, seval]; first | done | omega) | fail) only [go_sem, ↓reduceIte, seval, hc0, b0, c1]
   (repeat (first | refine w1 (fun K hK => ?_) | refine w2 ?_ | refine w3 ?_ | ((first | refine w4 ?_ | refine WP_draw 12 (by decide +kernel) ?_ | refine WP_draw 8 (by decide +kernel) ?_ | refine w5 ?_ | refine w6 ?_ | refine w7 ?_); try refine sq3 hc0 b0 c1 ?_) | (refine w8 ?_; refine sq3 hc0 b0 c1 ?_; refine w9 ?_) | (refine rq3 hc0 b0 c1 ?_; try refine sq3 hc0 b0 c1 ?_) | (refine vq3 hc0 b0 c1 ?_; try refine sq3 hc0 b0 c1 ?_) | ((first | refine hK _ _ (w0 ?_) | (clear hK K; refine hK _ _ (w0 ?_)) | (clear hK K; clear hK K; refine hK _ _ (w0 ?_))); clear hK K)))
   first | refine (hQ _ _ ?_).1 | refine (hQ _ _ ?_).2
   simp (disch := first | omega | (simp only [go_sem, ↓reduceIte, seval]; first | done | omega) | fail) only [go_sem, ↓reduceIte, seval, hc0, b0, c1, resA, resL, resA1]
   rw [e]
   exact OpenR.mkS [] (.nils _) rfl (fun h => ⟨rfl, hg h⟩)
  | false =>
  skip
  refine (rhas_sat s [60, 33, 45, 45] _).mono ?_
  rintro r h' ⟨rfl, hk_⟩
  replace hk_ := hk_.symm
  subst hk_
  try refine sq3 hc0 b0 c1 ?_
  (repeat (first | refine w1 (fun K hK => ?_) | refine w2 ?_ | refine w3 ?_ | ((first | refine w4 ?_ | refine WP_draw 12 (by decide +kernel) ?_ | refine WP_draw 8 (by decide +kernel) ?_ | refine w5 ?_ | refine w6 ?_ | refine w7 ?_); try refine sq3 hc0 b0 c1 ?_) | (refine w8 ?_; refine sq3 hc0 b0 c1 ?_; refine w9 ?_) | (refine rq3 hc0 b0 c1 ?_; try refine sq3 hc0 b0 c1 ?_) | (refine vq3 hc0 b0 c1 ?_; try refine sq3 hc0 b0 c1 ?_) | ((first | refine hK _ _ (w0 ?_) | (clear hK K; refine hK _ _ (w0 ?_)) | (clear hK K; clear hK K; refine hK _ _ (w0 ?_))); clear hK K)))
  cases c2 : Lib.hasPrefix s [60, 63] with
  | true =>
   have e : partF s = ([], (uptoF [63, 62] (Lib.trimPrefix s [60, 63]) false).2) := by unfold partF; rw [if_neg (show ¬ Lib.hasPrefix s p1 = true by rw [show Lib.hasPrefix s p1 = false from c1]; simp), if_pos (show Lib.hasPrefix s p2 = true from c2)]; rfl
   skip
   refine (rhas_sat s [60, 63] _).mono ?_
   rintro r h' ⟨rfl, hk_⟩
   replace hk_ := hk_.symm
   subst hk_
   try refine sq4 hc0 b0 c1 c2 ?_
   (repeat (first | refine w1 (fun K hK => ?_) | refine w2 ?_ | refine w3 ?_ | ((first | refine w4 ?_ | refine WP_draw 12 (by decide +kernel) ?_ | refine WP_draw 8 (by decide +kernel) ?_ | refine w5 ?_ | refine w6 ?_ | refine w7 ?_); try refine sq4 hc0 b0 c1 c2 ?_) | (refine w8 ?_; refine sq4 hc0 b0 c1 c2 ?_; refine w9 ?_) | (refine rq4 hc0 b0 c1 c2 ?_; try refine sq4 hc0 b0 c1 c2 ?_) | (refine vq4 hc0 b0 c1 c2 ?_; try refine sq4 hc0 b0 c1 c2 ?_) | ((first | refine hK _ _ (w0 ?_) | (clear hK K; refine hK _ _ (w0 ?_)) | (clear hK K; clear hK K; refine hK _ _ (w0 ?_))); clear hK K)))
   refine (up [60, 63] [63, 62] c2 (by simp)).mono ?_
   rintro r h' ⟨rest, rfl, hg, hk⟩
   replace hk := hk.symm
   subst hk
   simp (disch := first | omega | (simp only [go_sem, ↓reduceIte, seval]; first | done | omega) | fail) only [go_sem, ↓reduceIte, seval, hc0, b0, c1, c2]
   (repeat (first | refine w1 (fun K hK => ?_) | refine w2 ?_ | refine w3 ?_ | ((first | refine w4 ?_ | refine WP_draw 12 (by decide +kernel) ?_ | refine WP_draw 8 (by decide +kernel) ?_ | refine w5 ?_ | refine w6 ?_ | refine w7 ?_); try refine sq4 hc0 b0 c1 c2 ?_) | (refine w8 ?_; refine sq4 hc0 b0 c1 c2 ?_; refine w9 ?_) | (refine rq4 hc0 b0 c1 c2 ?_; try refine sq4 hc0 b0 c1 c2 ?_) | (refine vq4 hc0 b0 c1 c2 ?_; try refine sq4 hc0 b0 c1 c2 ?_) | ((first | refine hK _ _ (w0 ?_) | (clear hK K; refine hK _ _ (w0 ?_)) | (clear hK K; clear hK K; refine hK _ _ (w0 ?_))); clear hK K)))
   first | refine (hQ _ _ ?_).1 | refine (hQ _ _ ?_).2
   simp (disch := first | omega | (simp only [go_sem, ↓reduceIte, seval]; first | done | omega) | fail) only [go_sem, ↓reduceIte, seval, hc0, b0, c1, c2, resA, resL, resA1]
   rw [e]
   exact OpenR.mkS [] (.nils _) rfl (fun h => ⟨rfl, hg h⟩)
  | false =>
  skip
  refine (rhas_sat s [60, 63] _).mono ?_
  rintro r h' ⟨rfl, hk_⟩
  replace hk_ := hk_.symm
  subst hk_
  try refine sq4 hc0 b0 c1 c2 ?_
  (repeat (first | refine w1 (fun K hK => ?_) | refine w2 ?_ | refine w3 ?_ | ((first | refine w4 ?_ | refine WP_draw 12 (by decide +kernel) ?_ | refine WP_draw 8 (by decide +kernel) ?_ | refine w5 ?_ | refine w6 ?_ | refine w7 ?_); try refine sq4 hc0 b0 c1 c2 ?_) | (refine w8 ?_; refine sq4 hc0 b0 c1 c2 ?_; refine w9 ?_) | (refine rq4 hc0 b0 c1 c2 ?_; try refine sq4 hc0 b0 c1 c2 ?_) | (refine vq4 hc0 b0 c1 c2 ?_; try refine sq4 hc0 b0 c1 c2 ?_) | ((first | refine hK _ _ (w0 ?_) | (clear hK K; refine hK _ _ (w0 ?_)) | (clear hK K; clear hK K; refine hK _ _ (w0 ?_))); clear hK K)))
  cases c3 : Lib.hasPrefix s [60, 33, 68, 79, 67, 84, 89, 80, 69] with
  | true =>
   have e : partF s = ([], kindF (Lib.trimPrefix s [60, 33, 68, 79, 67, 84, 89, 80, 69]) false) := by unfold partF; rw [if_neg (show ¬ Lib.hasPrefix s p1 = true by rw [show Lib.hasPrefix s p1 = false from c1]; simp), if_neg (show ¬ Lib.hasPrefix s p2 = true by rw [show Lib.hasPrefix s p2 = false from c2]; simp), if_pos (show Lib.hasPrefix s p3 = true from c3)]; rfl
   skip
   refine (rhas_sat s [60, 33, 68, 79, 67, 84, 89, 80, 69] _).mono ?_
   rintro r h' ⟨rfl, hk_⟩
   replace hk_ := hk_.symm
   subst hk_
   try refine sq5 hc0 b0 c1 c2 c3 ?_
   (repeat (first | refine w1 (fun K hK => ?_) | refine w2 ?_ | refine w3 ?_ | ((first | refine w4 ?_ | refine WP_draw 12 (by decide +kernel) ?_ | refine WP_draw 8 (by decide +kernel) ?_ | refine w5 ?_ | refine w6 ?_ | refine w7 ?_); try refine sq5 hc0 b0 c1 c2 c3 ?_) | (refine w8 ?_; refine sq5 hc0 b0 c1 c2 c3 ?_; refine w9 ?_) | (refine rq5 hc0 b0 c1 c2 c3 ?_; try refine sq5 hc0 b0 c1 c2 c3 ?_) | (refine vq5 hc0 b0 c1 c2 c3 ?_; try refine sq5 hc0 b0 c1 c2 c3 ?_) | ((first | refine hK _ _ (w0 ?_) | (clear hK K; refine hK _ _ (w0 ?_)) | (clear hK K; clear hK K; refine hK _ _ (w0 ?_))); clear hK K)))
   refine (up [60, 33, 68, 79, 67, 84, 89, 80, 69] [62] c3 (by simp)).mono ?_
   rintro r h' ⟨rest, rfl, hg, hk⟩
   replace hk := hk.symm
   subst hk
   simp (disch := first | omega | (simp only [go_sem, ↓reduceIte, seval]; first | done | omega) | fail) only [go_sem, ↓reduceIte, seval, hc0, b0, c1, c2, c3]
   (repeat (first | refine w1 (fun K hK => ?_) | refine w2 ?_ | refine w3 ?_ | ((first | refine w4 ?_ | refine WP_draw 12 (by decide +kernel) ?_ | refine WP_draw 8 (by decide +kernel) ?_ | refine w5 ?_ | refine w6 ?_ | refine w7 ?_); try refine sq5 hc0 b0 c1 c2 c3 ?_) | (refine w8 ?_; refine sq5 hc0 b0 c1 c2 c3 ?_; refine w9 ?_) | (refine rq5 hc0 b0 c1 c2 c3 ?_; try refine sq5 hc0 b0 c1 c2 c3 ?_) | (refine vq5 hc0 b0 c1 c2 c3 ?_; try refine sq5 hc0 b0 c1 c2 c3 ?_) | ((first | refine hK _ _ (w0 ?_) | (clear hK K; refine hK _ _ (w0 ?_)) | (clear hK K; clear hK K; refine hK _ _ (w0 ?_))); clear hK K)))
   have hul := uptoF_len [62] (Lib.trimPrefix s [60, 33, 68, 79, 67, 84, 89, 80, 69]) false
   have htl := ht [60, 33, 68, 79, 67, 84, 89, 80, 69]
   have ek : kindF (Lib.trimPrefix s [60, 33, 68, 79, 67, 84, 89, 80, 69]) false = ((uptoF [62] (Lib.trimPrefix s [60, 33, 68, 79, 67, 84, 89, 80, 69]) false).2.1, Lib.contains (uptoF [62] (Lib.trimPrefix s [60, 33, 68, 79, 67, 84, 89, 80, 69]) false).1 [91] || (uptoF [62] (Lib.trimPrefix s [60, 33, 68, 79, 67, 84, 89, 80, 69]) false).2.2) := rfl
   rw [ek] at e
   clear ek
   generalize uptoF [62] (Lib.trimPrefix s [60, 33, 68, 79, 67, 84, 89, 80, 69]) false = u at hul hg e ⊢
   obtain ⟨u1, u2, u3⟩ := u
   simp only [] at hul hg e ⊢
   cases u3 with
   | true =>
    try refine sq5 hc0 b0 c1 c2 c3 ?_
    (repeat (first | refine w1 (fun K hK => ?_) | refine w2 ?_ | refine w3 ?_ | ((first | refine w4 ?_ | refine WP_draw 12 (by decide +kernel) ?_ | refine WP_draw 8 (by decide +kernel) ?_ | refine w5 ?_ | refine w6 ?_ | refine w7 ?_); try refine sq5 hc0 b0 c1 c2 c3 ?_) | (refine w8 ?_; refine sq5 hc0 b0 c1 c2 c3 ?_; refine w9 ?_) | (refine rq5 hc0 b0 c1 c2 c3 ?_; try refine sq5 hc0 b0 c1 c2 c3 ?_) | (refine vq5 hc0 b0 c1 c2 c3 ?_; try refine sq5 hc0 b0 c1 c2 c3 ?_) | ((first | refine hK _ _ (w0 ?_) | (clear hK K; refine hK _ _ (w0 ?_)) | (clear hK K; clear hK K; refine hK _ _ (w0 ?_))); clear hK K)))
    first | refine (hQ _ _ ?_).1 | refine (hQ _ _ ?_).2
    simp (disch := first | omega | (simp only [go_sem, ↓reduceIte, seval]; first | done | omega) | fail) only [go_sem, ↓reduceIte, seval, hc0, b0, c1, c2, c3, resA, resL, resA1]
    rw [e]
    exact OpenR.mkS [] (.nils _) (by simp) (fun h => by simp at h)
   | false =>
    try refine sq5 hc0 b0 c1 c2 c3 ?_
    (repeat (first | refine w1 (fun K hK => ?_) | refine w2 ?_ | refine w3 ?_ | ((first | refine w4 ?_ | refine WP_draw 12 (by decide +kernel) ?_ | refine WP_draw 8 (by decide +kernel) ?_ | refine w5 ?_ | refine w6 ?_ | refine w7 ?_); try refine sq5 hc0 b0 c1 c2 c3 ?_) | (refine w8 ?_; refine sq5 hc0 b0 c1 c2 c3 ?_; refine w9 ?_) | (refine rq5 hc0 b0 c1 c2 c3 ?_; try refine sq5 hc0 b0 c1 c2 c3 ?_) | (refine vq5 hc0 b0 c1 c2 c3 ?_; try refine sq5 hc0 b0 c1 c2 c3 ?_) | ((first | refine hK _ _ (w0 ?_) | (clear hK K; refine hK _ _ (w0 ?_)) | (clear hK K; clear hK K; refine hK _ _ (w0 ?_))); clear hK K)))
    refine (rfind_sat u1 [91] (by omega) (by simp) _).mono ?_
    rintro r h' ⟨rfl, hk_⟩
    replace hk_ := hk_.symm
    subst hk_
    try refine sq5 hc0 b0 c1 c2 c3 ?_
    (repeat (first | refine w1 (fun K hK => ?_) | refine w2 ?_ | refine w3 ?_ | ((first | refine w4 ?_ | refine WP_draw 12 (by decide +kernel) ?_ | refine WP_draw 8 (by decide +kernel) ?_ | refine w5 ?_ | refine w6 ?_ | refine w7 ?_); try refine sq5 hc0 b0 c1 c2 c3 ?_) | (refine w8 ?_; refine sq5 hc0 b0 c1 c2 c3 ?_; refine w9 ?_) | (refine rq5 hc0 b0 c1 c2 c3 ?_; try refine sq5 hc0 b0 c1 c2 c3 ?_) | (refine vq5 hc0 b0 c1 c2 c3 ?_; try refine sq5 hc0 b0 c1 c2 c3 ?_) | ((first | refine hK _ _ (w0 ?_) | (clear hK K; refine hK _ _ (w0 ?_)) | (clear hK K; clear hK K; refine hK _ _ (w0 ?_))); clear hK K)))
    first | refine (hQ _ _ ?_).1 | refine (hQ _ _ ?_).2
    simp (disch := first | omega | (simp only [go_sem, ↓reduceIte, seval]; first | done | omega) | fail) only [go_sem, ↓reduceIte, seval, hc0, b0, c1, c2, c3, resA, resL, resA1]
    rw [e]
    exact OpenR.mkS [] (.nils _) (by rw [contains_ix]; simp only [Bool.or_false]; by_cases q : 0 ≤ Lib.index u1 [91] <;> simp [q] <;> omega) (fun _ => ⟨rfl, hg rfl⟩)
  | false =>
  skip
  refine (rhas_sat s [60, 33, 68, 79, 67, 84, 89, 80, 69] _).mono ?_
  rintro r h' ⟨rfl, hk_⟩
  replace hk_ := hk_.symm
  subst hk_
  try refine sq5 hc0 b0 c1 c2 c3 ?_
  (repeat (first | refine w1 (fun K hK => ?_) | refine w2 ?_ | refine w3 ?_ | ((first | refine w4 ?_ | refine WP_draw 12 (by decide +kernel) ?_ | refine WP_draw 8 (by decide +kernel) ?_ | refine w5 ?_ | refine w6 ?_ | refine w7 ?_); try refine sq5 hc0 b0 c1 c2 c3 ?_) | (refine w8 ?_; refine sq5 hc0 b0 c1 c2 c3 ?_; refine w9 ?_) | (refine rq5 hc0 b0 c1 c2 c3 ?_; try refine sq5 hc0 b0 c1 c2 c3 ?_) | (refine vq5 hc0 b0 c1 c2 c3 ?_; try refine sq5 hc0 b0 c1 c2 c3 ?_) | ((first | refine hK _ _ (w0 ?_) | (clear hK K; refine hK _ _ (w0 ?_)) | (clear hK K; clear hK K; refine hK _ _ (w0 ?_))); clear hK K)))
  cases c4 : Lib.hasPrefix s [60, 33, 91, 67, 68, 65, 84, 65, 91] with
  | true =>
   have e : partF s = ([(3, [], [], (uptoF [93, 93, 62] (Lib.trimPrefix s [60, 33, 91, 67, 68, 65, 84, 65, 91]) false).1)], (uptoF [93, 93, 62] (Lib.trimPrefix s [60, 33, 91, 67, 68, 65, 84, 65, 91]) false).2) := by unfold partF; rw [if_neg (show ¬ Lib.hasPrefix s p1 = true by rw [show Lib.hasPrefix s p1 = false from c1]; simp), if_neg (show ¬ Lib.hasPrefix s p2 = true by rw [show Lib.hasPrefix s p2 = false from c2]; simp), if_neg (show ¬ Lib.hasPrefix s p3 = true by rw [show Lib.hasPrefix s p3 = false from c3]; simp), if_pos (show Lib.hasPrefix s p4 = true from c4)]; rfl
   skip
   refine (rhas_sat s [60, 33, 91, 67, 68, 65, 84, 65, 91] _).mono ?_
   rintro r h' ⟨rfl, hk_⟩
   replace hk_ := hk_.symm
   subst hk_
   try refine sq6 hc0 b0 c1 c2 c3 c4 ?_
   (repeat (first | refine w1 (fun K hK => ?_) | refine w2 ?_ | refine w3 ?_ | ((first | refine w4 ?_ | refine WP_draw 12 (by decide +kernel) ?_ | refine WP_draw 8 (by decide +kernel) ?_ | refine w5 ?_ | refine w6 ?_ | refine w7 ?_); try refine sq6 hc0 b0 c1 c2 c3 c4 ?_) | (refine w8 ?_; refine sq6 hc0 b0 c1 c2 c3 c4 ?_; refine w9 ?_) | (refine rq6 hc0 b0 c1 c2 c3 c4 ?_; try refine sq6 hc0 b0 c1 c2 c3 c4 ?_) | (refine vq6 hc0 b0 c1 c2 c3 c4 ?_; try refine sq6 hc0 b0 c1 c2 c3 c4 ?_) | ((first | refine hK _ _ (w0 ?_) | (clear hK K; refine hK _ _ (w0 ?_)) | (clear hK K; clear hK K; refine hK _ _ (w0 ?_))); clear hK K)))
   refine (up [60, 33, 91, 67, 68, 65, 84, 65, 91] [93, 93, 62] c4 (by simp)).mono ?_
   rintro r h' ⟨rest, rfl, hg, hk⟩
   replace hk := hk.symm
   subst hk
   simp (disch := first | omega | (simp only [go_sem, ↓reduceIte, seval]; first | done | omega) | fail) only [go_sem, ↓reduceIte, seval, hc0, b0, c1, c2, c3, c4]
   (repeat (first | refine w1 (fun K hK => ?_) | refine w2 ?_ | refine w3 ?_ | ((first | refine w4 ?_ | refine WP_draw 12 (by decide +kernel) ?_ | refine WP_draw 8 (by decide +kernel) ?_ | refine w5 ?_ | refine w6 ?_ | refine w7 ?_); try refine sq6 hc0 b0 c1 c2 c3 c4 ?_) | (refine w8 ?_; refine sq6 hc0 b0 c1 c2 c3 c4 ?_; refine w9 ?_) | (refine rq6 hc0 b0 c1 c2 c3 c4 ?_; try refine sq6 hc0 b0 c1 c2 c3 c4 ?_) | (refine vq6 hc0 b0 c1 c2 c3 c4 ?_; try refine sq6 hc0 b0 c1 c2 c3 c4 ?_) | ((first | refine hK _ _ (w0 ?_) | (clear hK K; refine hK _ _ (w0 ?_)) | (clear hK K; clear hK K; refine hK _ _ (w0 ?_))); clear hK K)))
   first | refine (hQ _ _ ?_).1 | refine (hQ _ _ ?_).2
   simp (disch := first | omega | (simp only [go_sem, ↓reduceIte, seval]; first | done | omega) | fail) only [go_sem, ↓reduceIte, seval, hc0, b0, c1, c2, c3, c4, resA, resL, resA1]
   rw [e]
   exact OpenR.mkS [(3, [], [], (uptoF [93, 93, 62] (Lib.trimPrefix s [60, 33, 91, 67, 68, 65, 84, 65, 91]) false).1)] (.slR (.cons (tok_frzN _ _ _) .nil)) rfl (fun h => ⟨rfl, hg h⟩)
  | false =>
  skip
  refine (rhas_sat s [60, 33, 91, 67, 68, 65, 84, 65, 91] _).mono ?_
  rintro r h' ⟨rfl, hk_⟩
  replace hk_ := hk_.symm
  subst hk_
  try refine sq6 hc0 b0 c1 c2 c3 c4 ?_
  (repeat (first | refine w1 (fun K hK => ?_) | refine w2 ?_ | refine w3 ?_ | ((first | refine w4 ?_ | refine WP_draw 12 (by decide +kernel) ?_ | refine WP_draw 8 (by decide +kernel) ?_ | refine w5 ?_ | refine w6 ?_ | refine w7 ?_); try refine sq6 hc0 b0 c1 c2 c3 c4 ?_) | (refine w8 ?_; refine sq6 hc0 b0 c1 c2 c3 c4 ?_; refine w9 ?_) | (refine rq6 hc0 b0 c1 c2 c3 c4 ?_; try refine sq6 hc0 b0 c1 c2 c3 c4 ?_) | (refine vq6 hc0 b0 c1 c2 c3 c4 ?_; try refine sq6 hc0 b0 c1 c2 c3 c4 ?_) | ((first | refine hK _ _ (w0 ?_) | (clear hK K; refine hK _ _ (w0 ?_)) | (clear hK K; clear hK K; refine hK _ _ (w0 ?_))); clear hK K)))
  cases c5 : Lib.hasPrefix s [60, 47] with
  | true =>
   have e : partF s = ([(2, nameW (Lib.trimPrefix s [60, 47]), [], [])], closeF (Lib.trimPrefix s [60, 47]) false) := by unfold partF; rw [if_neg (show ¬ Lib.hasPrefix s p1 = true by rw [show Lib.hasPrefix s p1 = false from c1]; simp), if_neg (show ¬ Lib.hasPrefix s p2 = true by rw [show Lib.hasPrefix s p2 = false from c2]; simp), if_neg (show ¬ Lib.hasPrefix s p3 = true by rw [show Lib.hasPrefix s p3 = false from c3]; simp), if_neg (show ¬ Lib.hasPrefix s p4 = true by rw [show Lib.hasPrefix s p4 = false from c4]; simp), if_pos (show Lib.hasPrefix s p5 = true from c5)]; rfl
   have h2 := has_len _ _ c5
   simp only [List.length_cons, List.length_nil] at h2
   have h3 : List.drop 2 s = Lib.trimPrefix s [60, 47] := trim_yes s [60, 47] c5
   skip
   refine (rhas_sat s [60, 47] _).mono ?_
   rintro r h' ⟨rfl, hk_⟩
   replace hk_ := hk_.symm
   subst hk_
   try refine sq8 hc0 b0 c1 c2 c3 c4 c5 h3 ?_
   (repeat (first | refine w1 (fun K hK => ?_) | refine w2 ?_ | refine w3 ?_ | ((first | refine w4 ?_ | refine WP_draw 12 (by decide +kernel) ?_ | refine WP_draw 8 (by decide +kernel) ?_ | refine w5 ?_ | refine w6 ?_ | refine w7 ?_); try refine sq8 hc0 b0 c1 c2 c3 c4 c5 h3 ?_) | (refine w8 ?_; refine sq8 hc0 b0 c1 c2 c3 c4 c5 h3 ?_; refine w9 ?_) | (refine rq8 hc0 b0 c1 c2 c3 c4 c5 h3 ?_; try refine sq8 hc0 b0 c1 c2 c3 c4 c5 h3 ?_) | (refine vq8 hc0 b0 c1 c2 c3 c4 c5 h3 ?_; try refine sq8 hc0 b0 c1 c2 c3 c4 c5 h3 ?_) | ((first | refine hK _ _ (w0 ?_) | (clear hK K; refine hK _ _ (w0 ?_)) | (clear hK K; clear hK K; refine hK _ _ (w0 ?_))); clear hK K)))
   have htl := ht [60, 47]
   generalize Lib.trimPrefix s [60, 47] = x at e htl ⊢
   have h4 : (nameR x).length ≤ x.length := drop_len _ _
   have h5 := drop_len blankB (nameR x)
   have hn := rname_sat hG hC x (by omega)
   have ec : closeF x false = (Lib.trimPrefix ((nameR x).dropWhile blankB) [62], (false || badN (nameW x)) || !Lib.hasPrefix ((nameR x).dropWhile blankB) [62]) := rfl
   cases hbn : badN (nameW x) with
   | true =>
    have en : nmR x = ([], x) := by unfold nmR; rw [if_pos hbn]
    have he : (([] : Bs) == []) = true := rfl
    rw [en] at hn
    rw [hbn] at ec
    skip
    refine (hn _).mono ?_
    rintro r h' ⟨rfl, hk_⟩
    replace hk_ := hk_.symm
    subst hk_
    try refine sq9 hc0 b0 c1 c2 c3 c4 c5 h3 he ?_
    (repeat (first | refine w1 (fun K hK => ?_) | refine w2 ?_ | refine w3 ?_ | ((first | refine w4 ?_ | refine WP_draw 12 (by decide +kernel) ?_ | refine WP_draw 8 (by decide +kernel) ?_ | refine w5 ?_ | refine w6 ?_ | refine w7 ?_); try refine sq9 hc0 b0 c1 c2 c3 c4 c5 h3 he ?_) | (refine w8 ?_; refine sq9 hc0 b0 c1 c2 c3 c4 c5 h3 he ?_; refine w9 ?_) | (refine rq9 hc0 b0 c1 c2 c3 c4 c5 h3 he ?_; try refine sq9 hc0 b0 c1 c2 c3 c4 c5 h3 he ?_) | (refine vq9 hc0 b0 c1 c2 c3 c4 c5 h3 he ?_; try refine sq9 hc0 b0 c1 c2 c3 c4 c5 h3 he ?_) | ((first | refine hK _ _ (w0 ?_) | (clear hK K; refine hK _ _ (w0 ?_)) | (clear hK K; clear hK K; refine hK _ _ (w0 ?_))); clear hK K)))
    refine (rblanks_sat hG hC x (by omega) _).mono ?_
    rintro r h' ⟨rfl, hk_⟩
    replace hk_ := hk_.symm
    subst hk_
    try refine sq9 hc0 b0 c1 c2 c3 c4 c5 h3 he ?_
    (repeat (first | refine w1 (fun K hK => ?_) | refine w2 ?_ | refine w3 ?_ | ((first | refine w4 ?_ | refine WP_draw 12 (by decide +kernel) ?_ | refine WP_draw 8 (by decide +kernel) ?_ | refine w5 ?_ | refine w6 ?_ | refine w7 ?_); try refine sq9 hc0 b0 c1 c2 c3 c4 c5 h3 he ?_) | (refine w8 ?_; refine sq9 hc0 b0 c1 c2 c3 c4 c5 h3 he ?_; refine w9 ?_) | (refine rq9 hc0 b0 c1 c2 c3 c4 c5 h3 he ?_; try refine sq9 hc0 b0 c1 c2 c3 c4 c5 h3 he ?_) | (refine vq9 hc0 b0 c1 c2 c3 c4 c5 h3 he ?_; try refine sq9 hc0 b0 c1 c2 c3 c4 c5 h3 he ?_) | ((first | refine hK _ _ (w0 ?_) | (clear hK K; refine hK _ _ (w0 ?_)) | (clear hK K; clear hK K; refine hK _ _ (w0 ?_))); clear hK K)))
    first | refine (hQ _ _ ?_).1 | refine (hQ _ _ ?_).2
    simp (disch := first | omega | (simp only [go_sem, ↓reduceIte, seval]; first | done | omega) | fail) only [go_sem, ↓reduceIte, seval, hc0, b0, c1, c2, c3, c4, c5, h3, he, resA, resL, resA1]
    rw [e, ec]
    exact OpenR.mkS [] (.nils _) (by simp) (fun h => by simp at h)
   | false =>
    have en : nmR x = (nameW x, nameR x) := by unfold nmR; rw [if_neg (by simp [hbn])]
    have hne : (nameW x == []) = false := by simpa using badN_nil _ hbn
    rw [en] at hn
    rw [hbn] at ec
    skip
    refine (hn _).mono ?_
    rintro r h' ⟨rfl, hk_⟩
    replace hk_ := hk_.symm
    subst hk_
    try refine sq9 hc0 b0 c1 c2 c3 c4 c5 h3 hne ?_
    (repeat (first | refine w1 (fun K hK => ?_) | refine w2 ?_ | refine w3 ?_ | ((first | refine w4 ?_ | refine WP_draw 12 (by decide +kernel) ?_ | refine WP_draw 8 (by decide +kernel) ?_ | refine w5 ?_ | refine w6 ?_ | refine w7 ?_); try refine sq9 hc0 b0 c1 c2 c3 c4 c5 h3 hne ?_) | (refine w8 ?_; refine sq9 hc0 b0 c1 c2 c3 c4 c5 h3 hne ?_; refine w9 ?_) | (refine rq9 hc0 b0 c1 c2 c3 c4 c5 h3 hne ?_; try refine sq9 hc0 b0 c1 c2 c3 c4 c5 h3 hne ?_) | (refine vq9 hc0 b0 c1 c2 c3 c4 c5 h3 hne ?_; try refine sq9 hc0 b0 c1 c2 c3 c4 c5 h3 hne ?_) | ((first | refine hK _ _ (w0 ?_) | (clear hK K; refine hK _ _ (w0 ?_)) | (clear hK K; clear hK K; refine hK _ _ (w0 ?_))); clear hK K)))
    refine (rblanks_sat hG hC (nameR x) (by omega) _).mono ?_
    rintro r h' ⟨rfl, hk_⟩
    replace hk_ := hk_.symm
    subst hk_
    try refine sq9 hc0 b0 c1 c2 c3 c4 c5 h3 hne ?_
    (repeat (first | refine w1 (fun K hK => ?_) | refine w2 ?_ | refine w3 ?_ | ((first | refine w4 ?_ | refine WP_draw 12 (by decide +kernel) ?_ | refine WP_draw 8 (by decide +kernel) ?_ | refine w5 ?_ | refine w6 ?_ | refine w7 ?_); try refine sq9 hc0 b0 c1 c2 c3 c4 c5 h3 hne ?_) | (refine w8 ?_; refine sq9 hc0 b0 c1 c2 c3 c4 c5 h3 hne ?_; refine w9 ?_) | (refine rq9 hc0 b0 c1 c2 c3 c4 c5 h3 hne ?_; try refine sq9 hc0 b0 c1 c2 c3 c4 c5 h3 hne ?_) | (refine vq9 hc0 b0 c1 c2 c3 c4 c5 h3 hne ?_; try refine sq9 hc0 b0 c1 c2 c3 c4 c5 h3 hne ?_) | ((first | refine hK _ _ (w0 ?_) | (clear hK K; refine hK _ _ (w0 ?_)) | (clear hK K; clear hK K; refine hK _ _ (w0 ?_))); clear hK K)))
    generalize (nameR x).dropWhile blankB = s2 at ec h5 ⊢
    cases h62 : Lib.hasPrefix s2 [62] with
    | true =>
     rw [h62] at ec
     have h6 := has_len _ _ h62
     simp only [List.length_cons, List.length_nil] at h6
     have h7 : List.drop 1 s2 = Lib.trimPrefix s2 [62] := trim_yes s2 [62] h62
     skip
     refine (rhas_sat s2 [62] _).mono ?_
     rintro r h' ⟨rfl, hk_⟩
     replace hk_ := hk_.symm
     subst hk_
     try refine sq11 hc0 b0 c1 c2 c3 c4 c5 h3 hne h62 h7 ?_
     (repeat (first | refine w1 (fun K hK => ?_) | refine w2 ?_ | refine w3 ?_ | ((first | refine w4 ?_ | refine WP_draw 12 (by decide +kernel) ?_ | refine WP_draw 8 (by decide +kernel) ?_ | refine w5 ?_ | refine w6 ?_ | refine w7 ?_); try refine sq11 hc0 b0 c1 c2 c3 c4 c5 h3 hne h62 h7 ?_) | (refine w8 ?_; refine sq11 hc0 b0 c1 c2 c3 c4 c5 h3 hne h62 h7 ?_; refine w9 ?_) | (refine rq11 hc0 b0 c1 c2 c3 c4 c5 h3 hne h62 h7 ?_; try refine sq11 hc0 b0 c1 c2 c3 c4 c5 h3 hne h62 h7 ?_) | (refine vq11 hc0 b0 c1 c2 c3 c4 c5 h3 hne h62 h7 ?_; try refine sq11 hc0 b0 c1 c2 c3 c4 c5 h3 hne h62 h7 ?_) | ((first | refine hK _ _ (w0 ?_) | (clear hK K; refine hK _ _ (w0 ?_)) | (clear hK K; clear hK K; refine hK _ _ (w0 ?_))); clear hK K)))
     first | refine (hQ _ _ ?_).1 | refine (hQ _ _ ?_).2
     simp (disch := first | omega | (simp only [go_sem, ↓reduceIte, seval]; first | done | omega) | fail) only [go_sem, ↓reduceIte, seval, hc0, b0, c1, c2, c3, c4, c5, h3, hne, h62, h7, resA, resL, resA1]
     rw [e, ec]
     exact OpenR.mkS [(2, nameW x, [], [])] (.slR (.cons (tok_frzN _ _ _) .nil)) rfl (fun _ => ⟨rfl, rfl⟩)
    | false =>
     rw [h62] at ec
     skip
     refine (rhas_sat s2 [62] _).mono ?_
     rintro r h' ⟨rfl, hk_⟩
     replace hk_ := hk_.symm
     subst hk_
     try refine sq10 hc0 b0 c1 c2 c3 c4 c5 h3 hne h62 ?_
     (repeat (first | refine w1 (fun K hK => ?_) | refine w2 ?_ | refine w3 ?_ | ((first | refine w4 ?_ | refine WP_draw 12 (by decide +kernel) ?_ | refine WP_draw 8 (by decide +kernel) ?_ | refine w5 ?_ | refine w6 ?_ | refine w7 ?_); try refine sq10 hc0 b0 c1 c2 c3 c4 c5 h3 hne h62 ?_) | (refine w8 ?_; refine sq10 hc0 b0 c1 c2 c3 c4 c5 h3 hne h62 ?_; refine w9 ?_) | (refine rq10 hc0 b0 c1 c2 c3 c4 c5 h3 hne h62 ?_; try refine sq10 hc0 b0 c1 c2 c3 c4 c5 h3 hne h62 ?_) | (refine vq10 hc0 b0 c1 c2 c3 c4 c5 h3 hne h62 ?_; try refine sq10 hc0 b0 c1 c2 c3 c4 c5 h3 hne h62 ?_) | ((first | refine hK _ _ (w0 ?_) | (clear hK K; refine hK _ _ (w0 ?_)) | (clear hK K; clear hK K; refine hK _ _ (w0 ?_))); clear hK K)))
     first | refine (hQ _ _ ?_).1 | refine (hQ _ _ ?_).2
     simp (disch := first | omega | (simp only [go_sem, ↓reduceIte, seval]; first | done | omega) | fail) only [go_sem, ↓reduceIte, seval, hc0, b0, c1, c2, c3, c4, c5, h3, hne, h62, resA, resL, resA1]
     rw [e, ec]
     exact OpenR.mkS [] (.nils _) (by simp) (fun h => by simp at h)
  | false =>
   have e : partF s = openF (Lib.trimPrefix s [60]) := by
    unfold partF
    rw [if_neg (show ¬ Lib.hasPrefix s p1 = true by rw [show Lib.hasPrefix s p1 = false from c1]; simp), if_neg (show ¬ Lib.hasPrefix s p2 = true by rw [show Lib.hasPrefix s p2 = false from c2]; simp), if_neg (show ¬ Lib.hasPrefix s p3 = true by rw [show Lib.hasPrefix s p3 = false from c3]; simp), if_neg (show ¬ Lib.hasPrefix s p4 = true by rw [show Lib.hasPrefix s p4 = false from c4]; simp), if_neg (show ¬ Lib.hasPrefix s p5 = true by rw [show Lib.hasPrefix s p5 = false from c5]; simp), if_pos (show Lib.hasPrefix s p6 = true by rw [ht0]; rfl)]; rfl
   have h3 : List.drop 1 s = Lib.trimPrefix s [60] := trim_yes s [60] (by rw [ht0]; rfl)
   skip
   refine (rhas_sat s [60, 47] _).mono ?_
   rintro r h' ⟨rfl, hk_⟩
   replace hk_ := hk_.symm
   subst hk_
   try refine sq8 hc0 b0 c1 c2 c3 c4 c5 h3 ?_
   (repeat (first | refine w1 (fun K hK => ?_) | refine w2 ?_ | refine w3 ?_ | ((first | refine w4 ?_ | refine WP_draw 12 (by decide +kernel) ?_ | refine WP_draw 8 (by decide +kernel) ?_ | refine w5 ?_ | refine w6 ?_ | refine w7 ?_); try refine sq8 hc0 b0 c1 c2 c3 c4 c5 h3 ?_) | (refine w8 ?_; refine sq8 hc0 b0 c1 c2 c3 c4 c5 h3 ?_; refine w9 ?_) | (refine rq8 hc0 b0 c1 c2 c3 c4 c5 h3 ?_; try refine sq8 hc0 b0 c1 c2 c3 c4 c5 h3 ?_) | (refine vq8 hc0 b0 c1 c2 c3 c4 c5 h3 ?_; try refine sq8 hc0 b0 c1 c2 c3 c4 c5 h3 ?_) | ((first | refine hK _ _ (w0 ?_) | (clear hK K; refine hK _ _ (w0 ?_)) | (clear hK K; clear hK K; refine hK _ _ (w0 ?_))); clear hK K)))
   have htl := ht [60]
   refine (ropen_sat hG hC (Lib.trimPrefix s [60]) (by omega) h).mono ?_
   rintro r h' ⟨ts, rest, rfl, hg, hk⟩
   replace hk := hk.symm
   subst hk
   simp (disch := first | omega | (simp only [go_sem, ↓reduceIte, seval]; first | done | omega) | fail) only [go_sem, ↓reduceIte, seval, hc0, b0, c1, c2, c3, c4, c5, h3]
   (repeat (first | refine w1 (fun K hK => ?_) | refine w2 ?_ | refine w3 ?_ | ((first | refine w4 ?_ | refine WP_draw 12 (by decide +kernel) ?_ | refine WP_draw 8 (by decide +kernel) ?_ | refine w5 ?_ | refine w6 ?_ | refine w7 ?_); try refine sq8 hc0 b0 c1 c2 c3 c4 c5 h3 ?_) | (refine w8 ?_; refine sq8 hc0 b0 c1 c2 c3 c4 c5 h3 ?_; refine w9 ?_) | (refine rq8 hc0 b0 c1 c2 c3 c4 c5 h3 ?_; try refine sq8 hc0 b0 c1 c2 c3 c4 c5 h3 ?_) | (refine vq8 hc0 b0 c1 c2 c3 c4 c5 h3 ?_; try refine sq8 hc0 b0 c1 c2 c3 c4 c5 h3 ?_) | ((first | refine hK _ _ (w0 ?_) | (clear hK K; refine hK _ _ (w0 ?_)) | (clear hK K; clear hK K; refine hK _ _ (w0 ?_))); clear hK K)))
   first | refine (hQ _ _ ?_).1 | refine (hQ _ _ ?_).2
   simp (disch := first | omega | (simp only [go_sem, ↓reduceIte, seval]; first | done | omega) | fail) only [go_sem, ↓reduceIte, seval, hc0, b0, c1, c2, c3, c4, c5, h3, resA, resL, resA1]
   rw [e]
   exact OpenR.mkS ts (.clo _ (toks_clo _ ts)) rfl hg
 ·have b0 : ((c.toNat : Int) != 60) = true := by
   have : ¬ (c.toNat : Int) = 60 := fun e2 => hc (UInt8.toNat_inj.1 (by have : (c.toNat : Int) = ((60 : UInt8).toNat : Int) := e2; omega))
   simpa using this
  obtain ⟨t, ht0⟩ : ∃ t, s = c :: t := by
   cases s with
   | nil => cases hc0
   | cons a t => simp at hc0; subst hc0; exact ⟨t, rfl⟩
  have e : partF s = ([(3, [], [], rdE (s.takeWhile textB))], s.dropWhile textB, false) := by
   have := fun w => pre_no c t w hc
   rw [← ht0] at this
   unfold partF p1 p2 p3 p4 p5 p6
   simp only [this, Bool.false_eq_true, if_false]
   rfl
  have hl : (s.takeWhile textB).length ≤ s.length := (List.takeWhile_sublist _).length_le
  skip
  refine Sat.body [.tmp 2, .tmp 3, .tmp 4] (fn := Tryz.f81) Tryz.func81 rfl rfl (by kernel_rfl) (by kernel_rfl) (by kernel_rfl) rfl ?_
  intro Q hQ
  (repeat (first | refine w1 (fun K hK => ?_) | refine w2 ?_ | refine w3 ?_ | ((first | refine w4 ?_ | refine WP_draw 12 (by decide +kernel) ?_ | refine WP_draw 8 (by decide +kernel) ?_ | refine w5 ?_ | refine w6 ?_ | refine w7 ?_); try refine sq2 hc0 b0 ?_) | (refine w8 ?_; refine sq2 hc0 b0 ?_; refine w9 ?_) | (refine rq2 hc0 b0 ?_; try refine sq2 hc0 b0 ?_) | (refine vq2 hc0 b0 ?_; try refine sq2 hc0 b0 ?_) | ((first | refine hK _ _ (w0 ?_) | (clear hK K; refine hK _ _ (w0 ?_)) | (clear hK K; clear hK K; refine hK _ _ (w0 ?_))); clear hK K)))
  refine (rfind_sat s [60] (by omega) (by simp) _).mono ?_
  rintro r h' ⟨rfl, hk_⟩
  replace hk_ := hk_.symm
  subst hk_
  try refine sq2 hc0 b0 ?_
  (repeat (first | refine w1 (fun K hK => ?_) | refine w2 ?_ | refine w3 ?_ | ((first | refine w4 ?_ | refine WP_draw 12 (by decide +kernel) ?_ | refine WP_draw 8 (by decide +kernel) ?_ | refine w5 ?_ | refine w6 ?_ | refine w7 ?_); try refine sq2 hc0 b0 ?_) | (refine w8 ?_; refine sq2 hc0 b0 ?_; refine w9 ?_) | (refine rq2 hc0 b0 ?_; try refine sq2 hc0 b0 ?_) | (refine vq2 hc0 b0 ?_; try refine sq2 hc0 b0 ?_) | ((first | refine hK _ _ (w0 ?_) | (clear hK K; refine hK _ _ (w0 ?_)) | (clear hK K; clear hK K; refine hK _ _ (w0 ?_))); clear hK K)))
  rcases text_ix s with ⟨g1, g2, g3⟩ | ⟨m, g1, g2, g3, g4⟩
  ·have b1 : decide (Lib.index s [60] < 0) = true := by simpa using g1
   have e1 : List.take s.length s = s := List.take_length
   have e2 : List.drop s.length s = [] := List.drop_length
   skip
   try refine sq5 hc0 b0 b1 e1 e2 ?_
   (repeat (first | refine w1 (fun K hK => ?_) | refine w2 ?_ | refine w3 ?_ | ((first | refine w4 ?_ | refine WP_draw 12 (by decide +kernel) ?_ | refine WP_draw 8 (by decide +kernel) ?_ | refine w5 ?_ | refine w6 ?_ | refine w7 ?_); try refine sq5 hc0 b0 b1 e1 e2 ?_) | (refine w8 ?_; refine sq5 hc0 b0 b1 e1 e2 ?_; refine w9 ?_) | (refine rq5 hc0 b0 b1 e1 e2 ?_; try refine sq5 hc0 b0 b1 e1 e2 ?_) | (refine vq5 hc0 b0 b1 e1 e2 ?_; try refine sq5 hc0 b0 b1 e1 e2 ?_) | ((first | refine hK _ _ (w0 ?_) | (clear hK K; refine hK _ _ (w0 ?_)) | (clear hK K; clear hK K; refine hK _ _ (w0 ?_))); clear hK K)))
   refine ⟨_, rRead_sat s (by omega) _, ?_⟩
   try refine sq5 hc0 b0 b1 e1 e2 ?_
   (repeat (first | refine w1 (fun K hK => ?_) | refine w2 ?_ | refine w3 ?_ | ((first | refine w4 ?_ | refine WP_draw 12 (by decide +kernel) ?_ | refine WP_draw 8 (by decide +kernel) ?_ | refine w5 ?_ | refine w6 ?_ | refine w7 ?_); try refine sq5 hc0 b0 b1 e1 e2 ?_) | (refine w8 ?_; refine sq5 hc0 b0 b1 e1 e2 ?_; refine w9 ?_) | (refine rq5 hc0 b0 b1 e1 e2 ?_; try refine sq5 hc0 b0 b1 e1 e2 ?_) | (refine vq5 hc0 b0 b1 e1 e2 ?_; try refine sq5 hc0 b0 b1 e1 e2 ?_) | ((first | refine hK _ _ (w0 ?_) | (clear hK K; refine hK _ _ (w0 ?_)) | (clear hK K; clear hK K; refine hK _ _ (w0 ?_))); clear hK K)))
   first | refine (hQ _ _ ?_).1 | refine (hQ _ _ ?_).2
   simp (disch := first | omega | (simp only [go_sem, ↓reduceIte, seval]; first | done | omega) | fail) only [go_sem, ↓reduceIte, seval, hc0, b0, b1, e1, e2, resA, resL, resA1]
   rw [e]
   exact OpenR.mkS [(3, [], [], rdE s)] (.slR (.cons (tok_frzN _ _ _) .nil)) rfl (fun _ => ⟨by rw [g2], g3.symm⟩)
  ·rw [g1]
   have b1 : decide ((m : Int) < 0) = false := by simp
   skip
   try refine sq3 hc0 b0 b1 ?_
   (repeat (first | refine w1 (fun K hK => ?_) | refine w2 ?_ | refine w3 ?_ | ((first | refine w4 ?_ | refine WP_draw 12 (by decide +kernel) ?_ | refine WP_draw 8 (by decide +kernel) ?_ | refine w5 ?_ | refine w6 ?_ | refine w7 ?_); try refine sq3 hc0 b0 b1 ?_) | (refine w8 ?_; refine sq3 hc0 b0 b1 ?_; refine w9 ?_) | (refine rq3 hc0 b0 b1 ?_; try refine sq3 hc0 b0 b1 ?_) | (refine vq3 hc0 b0 b1 ?_; try refine sq3 hc0 b0 b1 ?_) | ((first | refine hK _ _ (w0 ?_) | (clear hK K; refine hK _ _ (w0 ?_)) | (clear hK K; clear hK K; refine hK _ _ (w0 ?_))); clear hK K)))
   refine ⟨_, rRead_sat (s.take m) (by rw [List.length_take]; omega) _, ?_⟩
   try refine sq3 hc0 b0 b1 ?_
   (repeat (first | refine w1 (fun K hK => ?_) | refine w2 ?_ | refine w3 ?_ | ((first | refine w4 ?_ | refine WP_draw 12 (by decide +kernel) ?_ | refine WP_draw 8 (by decide +kernel) ?_ | refine w5 ?_ | refine w6 ?_ | refine w7 ?_); try refine sq3 hc0 b0 b1 ?_) | (refine w8 ?_; refine sq3 hc0 b0 b1 ?_; refine w9 ?_) | (refine rq3 hc0 b0 b1 ?_; try refine sq3 hc0 b0 b1 ?_) | (refine vq3 hc0 b0 b1 ?_; try refine sq3 hc0 b0 b1 ?_) | ((first | refine hK _ _ (w0 ?_) | (clear hK K; refine hK _ _ (w0 ?_)) | (clear hK K; clear hK K; refine hK _ _ (w0 ?_))); clear hK K)))
   first | refine (hQ _ _ ?_).1 | refine (hQ _ _ ?_).2
   simp (disch := first | omega | (simp only [go_sem, ↓reduceIte, seval]; first | done | omega) | fail) only [go_sem, ↓reduceIte, seval, hc0, b0, b1, resA, resL, resA1]
   rw [e]
   exact OpenR.mkS [(3, [], [], rdE (s.take m))] (.slR (.cons (tok_frzN _ _ _) .nil)) rfl (fun _ => ⟨by rw [g3], g4.symm⟩)
end Go.Av
namespace Go.Av
open Go Go.Proofs Go.RowKit
attribute [local irreducible] WP WPl WPix Sat
set_option maxRecDepth 100000
set_option maxHeartbeats 1000000
variable {G : Nat → Option (List AVal)}
theorem rTokens_sat (hG : GOk G) (hC : GClo (CT G)) (s : Bs) (hs : s.length ≤ 1048576) (h : Heap) : Sat (CT G) 46 [.str s] h
  (fun r h' => ∃ a, r = .tup [.sl 4 ((toksF s).1.map Tok.av), .int .i64 a, .int .i64 (toksF s).2] ∧ h' = h) := by
 refine Sat.body [.tmp 2, .tmp 3, .tmp 4] (fn := Tryz.f46) Tryz.func46 rfl rfl (by kernel_rfl) (by kernel_rfl) (by kernel_rfl) rfl ?_
 intro Q hQ
 (repeat (first | refine w1 (fun K hK => ?_) | refine w2 ?_ | refine w3 ?_ | ((first | refine w4 ?_ | refine WP_draw 17 (by decide +kernel) ?_ | refine w5 ?_ | refine w6 ?_ | refine w7 ?_); try refine sq0 ?_) | (refine w8 ?_; refine sq0 ?_; refine w9 ?_) | (refine rq0 ?_; try refine sq0 ?_) | (refine vq0 ?_; try refine sq0 ?_) | ((first | refine hK _ _ (w0 ?_) | (clear hK K; refine hK _ _ (w0 ?_)) | (clear hK K; clear hK K; refine hK _ _ (w0 ?_))); clear hK K)))
 refine cq0 (fun c0 => ?_) (fun c0 => ?_) <;> (try exact c0.elim) <;>
  (repeat (first | refine w1 (fun K hK => ?_) | refine w2 ?_ | refine w3 ?_ | ((first | refine w4 ?_ | refine WP_draw 17 (by decide +kernel) ?_ | refine w5 ?_ | refine w6 ?_ | refine w7 ?_); try refine sq0 ?_) | (refine w8 ?_; refine sq0 ?_; refine w9 ?_) | (refine rq0 ?_; try refine sq0 ?_) | (refine vq0 ?_; try refine sq0 ?_) | ((first | refine hK _ _ (w0 ?_) | (clear hK K; refine hK _ _ (w0 ?_)) | (clear hK K; clear hK K; refine hK _ _ (w0 ?_))); clear hK K)))
 ·have e : toksF s = ([], 3) := by unfold toksF; rw [if_pos (by omega)]
  first | refine (hQ _ _ ?_).1 | refine (hQ _ _ ?_).2
  simp (disch := first | omega | (simp only [go_sem, ↓reduceIte, seval]; first | done | omega) | fail) only [go_sem, ↓reduceIte, seval, resA, resL, resA1]
  rw [e]
  exact Fin.frzS (FrzL.tup (.cons (.nils 4) (.cons (.clo _ (.int _ _)) (.cons (.clo _ (.int _ _)) .nil)))) ⟨0, rfl, rfl⟩
 have e : toksF s = tksF (s.length + 1) s [] := by unfold toksF; rw [if_neg (by omega)]
 have bad : ∀ (jj : Heap) (a : Int) (c : Int), toksF s = ([], c) → Fin h (h ++ jj) (fun r h' => ∃ a, r = .tup [.sl 4 ((toksF s).1.map Tok.av), .int .i64 a, .int .i64 (toksF s).2] ∧ h' = h) (.tup [.nil (.slice none 0 0), .int .i64 a, .int .i64 c]) := fun jj a c hb => by
  rw [hb]
  exact Fin.frz (FrzL.tup (.cons (.nils 4) (.cons (.clo _ (.int _ _)) (.cons (.clo _ (.int _ _)) .nil)))) ⟨a, rfl, rfl⟩
 refine WP_loopm (by simp only [go_sem, List.nil_append, List.cons_append]; rfl) (fun nL tL hL => ∃ (f v : Nat) (s1 : Bs) (l : List Tok), f = nL ∧ h ++ [tksR v l] = hL ∧ tL 5 = .hs h.length v 0 l.length true ∧ tL 6 = .str s1 ∧ s1.length < f ∧ tksF f s1 l = toksF s ∧ szs Tok.sz l + 10 * s1.length ≤ 10 * s.length ∧ l.length ≤ 8192) ((fun (f v : Nat) (s1 : Bs) (l : List Tok) => (f : Nat)) (s.length + 1) (0) (s) ([])) ?_ ?_
 ·refine ⟨_, _, Weak.virt 5 83 4 (by simp) (by omega) (by simp (disch := first | omega | (simp only [go_sem, ↓reduceIte, seval]; first | done | omega) | fail) only [go_sem, ↓reduceIte, seval]), ⟨s.length + 1, 0, s, [], rfl, by simp [tksR], ?_, ?_, by omega, e.symm, by simp [szs], by simp⟩⟩
  all_goals first | exact zq0 | rfl | omega | trivial | skip
 rintro _ s2 h' ⟨f, v, s1, l, rfl, rfl, e5, e6, hf, hp, hz, hl⟩ K2 hK2
 simp only [mix_cons, mix_nil, Nat.reduceEqDiff, ↓reduceIte] at e5 e6
 (repeat (first | refine w1 (fun K hK => ?_) | refine w2 ?_ | refine w3 ?_ | ((first | refine w4 ?_ | refine WP_draw 17 (by decide +kernel) ?_ | refine w5 ?_ | refine w6 ?_ | refine w7 ?_); try refine sq2 e5 e6 ?_) | (refine w8 ?_; refine sq2 e5 e6 ?_; refine w9 ?_) | (refine rq2 e5 e6 ?_; try refine sq2 e5 e6 ?_) | (refine vq2 e5 e6 ?_; try refine sq2 e5 e6 ?_) | ((first | refine hK _ _ (w0 ?_) | (clear hK K; refine hK _ _ (w0 ?_)) | (clear hK K; clear hK K; refine hK _ _ (w0 ?_))); clear hK K)))
 obtain ⟨g, rfl⟩ : ∃ g, f = g + 1 := ⟨f - 1, by omega⟩
 rw [tksF] at hp
 refine cq2 e5 e6 (fun c1 => ?_) (fun c1 => ?_) <;> (try exact c1.elim) <;>
  (repeat (first | refine w1 (fun K hK => ?_) | refine w2 ?_ | refine w3 ?_ | ((first | refine w4 ?_ | refine WP_draw 17 (by decide +kernel) ?_ | refine w5 ?_ | refine w6 ?_ | refine w7 ?_); try refine sq2 e5 e6 ?_) | (refine w8 ?_; refine sq2 e5 e6 ?_; refine w9 ?_) | (refine rq2 e5 e6 ?_; try refine sq2 e5 e6 ?_) | (refine vq2 e5 e6 ?_; try refine sq2 e5 e6 ?_) | ((first | refine hK _ _ (w0 ?_) | (clear hK K; refine hK _ _ (w0 ?_)) | (clear hK K; clear hK K; refine hK _ _ (w0 ?_))); clear hK K)))
 ·have c1 : s1 ≠ [] := List.length_pos_iff.1 (by omega)
  have hps := partF_sz s1 c1
  have hpl := partF_less s1 c1
  have hz0 := szs_len Tok.sz Tok.sz_pos (partF s1).1
  rw [if_neg c1] at hp
  refine (rpart_sat hG hC s1 (by omega) c1 _).mono ?_
  rintro r h' ⟨tk, r1, rfl, hg, rfl⟩
  simp (disch := first | omega | (simp only [go_sem, ↓reduceIte, seval]; first | done | omega) | fail) only [go_sem, ↓reduceIte, seval, e5, e6]
  (repeat (first | refine w1 (fun K hK => ?_) | refine w2 ?_ | refine w3 ?_ | ((first | refine w4 ?_ | refine WP_draw 17 (by decide +kernel) ?_ | refine w5 ?_ | refine w6 ?_ | refine w7 ?_); try refine sq2 e5 e6 ?_) | (refine w8 ?_; refine sq2 e5 e6 ?_; refine w9 ?_) | (refine rq2 e5 e6 ?_; try refine sq2 e5 e6 ?_) | (refine vq2 e5 e6 ?_; try refine sq2 e5 e6 ?_) | ((first | refine hK _ _ (w0 ?_) | (clear hK K; refine hK _ _ (w0 ?_)) | (clear hK K; clear hK K; refine hK _ _ (w0 ?_))); clear hK K)))
  generalize partF s1 = x at hp hps hpl hz0 hg ⊢
  obtain ⟨tk0, r0, bb⟩ := x
  simp only [] at hp hps hpl hz0 hg ⊢
  cases bb with
  | true =>
   rw [if_pos rfl] at hp
   try refine sq2 e5 e6 ?_
   (repeat (first | refine w1 (fun K hK => ?_) | refine w2 ?_ | refine w3 ?_ | ((first | refine w4 ?_ | refine WP_draw 17 (by decide +kernel) ?_ | refine w5 ?_ | refine w6 ?_ | refine w7 ?_); try refine sq2 e5 e6 ?_) | (refine w8 ?_; refine sq2 e5 e6 ?_; refine w9 ?_) | (refine rq2 e5 e6 ?_; try refine sq2 e5 e6 ?_) | (refine vq2 e5 e6 ?_; try refine sq2 e5 e6 ?_) | ((first | refine hK _ _ (w0 ?_) | (clear hK K; refine hK _ _ (w0 ?_)) | (clear hK K; clear hK K; refine hK _ _ (w0 ?_))); clear hK K)))
   first | refine (hQ _ _ ?_).1 | refine (hQ _ _ ?_).2
   simp (disch := first | omega | (simp only [go_sem, ↓reduceIte, seval]; first | done | omega) | fail) only [go_sem, ↓reduceIte, seval, e5, e6, resA, resL, resA1]
   exact bad _ _ _ hp.symm
  | false =>
   obtain ⟨rfl, rfl⟩ := hg rfl
   rw [if_neg (by simp)] at hp
   try refine sq2 e5 e6 ?_
   (repeat (first | refine w1 (fun K hK => ?_) | refine w2 ?_ | refine w3 ?_ | ((first | refine w4 ?_ | refine WP_draw 17 (by decide +kernel) ?_ | refine w5 ?_ | refine w6 ?_ | refine w7 ?_); try refine sq2 e5 e6 ?_) | (refine w8 ?_; refine sq2 e5 e6 ?_; refine w9 ?_) | (refine rq2 e5 e6 ?_; try refine sq2 e5 e6 ?_) | (refine vq2 e5 e6 ?_; try refine sq2 e5 e6 ?_) | ((first | refine hK _ _ (w0 ?_) | (clear hK K; refine hK _ _ (w0 ?_)) | (clear hK K; clear hK K; refine hK _ _ (w0 ?_))); clear hK K)))
   refine WP_loopm (by simp only [go_sem, List.nil_append, List.cons_append]; rfl) (fun nL tL hL => ∃ (k v2 : Nat) (l2 : List Tok), tk.length - k = nL ∧ h ++ [tksR v2 l2] = hL ∧ tL 5 = .hs h.length v2 0 l2.length true ∧ tL 11 = .int .i64 k ∧ k ≤ tk.length ∧ (tk.drop k).foldl addT l2 = tk.foldl addT l ∧ szs Tok.sz l2 + szs Tok.sz (tk.drop k) ≤ szs Tok.sz l + szs Tok.sz tk) ((fun (k v2 : Nat) (l2 : List Tok) => (tk.length - k : Nat)) (0) (v) (l)) ?_ ?_
   ·refine Wkn.refl ⟨0, v, l, rfl, (by first | rfl | (simp; done) | (simp; rfl)), ?_, ?_, ?_, ?_, ?_⟩
    all_goals first | exact zq2 e5 e6 | rfl | omega | trivial | skip
   rintro _ s3 h' ⟨k, v2, l2, rfl, rfl, e5, e11, hk, hq, hz2⟩ K3 hK3
   simp only [mix_cons, mix_nil, Nat.reduceEqDiff, ↓reduceIte] at e5 e11
   (repeat (first | refine w1 (fun K hK => ?_) | refine w2 ?_ | refine w3 ?_ | ((first | refine w4 ?_ | refine WP_draw 17 (by decide +kernel) ?_ | refine w5 ?_ | refine w6 ?_ | refine w7 ?_); try refine sq4 e5 e6 e5 e11 ?_) | (refine w8 ?_; refine sq4 e5 e6 e5 e11 ?_; refine w9 ?_) | (refine rq4 e5 e6 e5 e11 ?_; try refine sq4 e5 e6 e5 e11 ?_) | (refine vq4 e5 e6 e5 e11 ?_; try refine sq4 e5 e6 e5 e11 ?_) | ((first | refine hK _ _ (w0 ?_) | (clear hK K; refine hK _ _ (w0 ?_)) | (clear hK K; clear hK K; refine hK _ _ (w0 ?_))); clear hK K)))
   refine cq4 e5 e6 e5 e11 (fun c2 => ?_) (fun c2 => ?_) <;> (try exact c2.elim) <;>
    (repeat (first | refine w1 (fun K hK => ?_) | refine w2 ?_ | refine w3 ?_ | ((first | refine w4 ?_ | refine WP_draw 17 (by decide +kernel) ?_ | refine w5 ?_ | refine w6 ?_ | refine w7 ?_); try refine sq4 e5 e6 e5 e11 ?_) | (refine w8 ?_; refine sq4 e5 e6 e5 e11 ?_; refine w9 ?_) | (refine rq4 e5 e6 e5 e11 ?_; try refine sq4 e5 e6 e5 e11 ?_) | (refine vq4 e5 e6 e5 e11 ?_; try refine sq4 e5 e6 e5 e11 ?_) | ((first | refine hK _ _ (w0 ?_) | (clear hK K; refine hK _ _ (w0 ?_)) | (clear hK K; clear hK K; refine hK _ _ (w0 ?_))); clear hK K)))
   ·obtain ⟨y, hy, hym⟩ := getElem?_of_lt c2
    rw [drop_cons_of hy] at hq hz2
    simp only [szs, List.foldl_cons] at hq hz2
    have hz3 := szs_len Tok.sz Tok.sz_pos l2
    have hz4 := addT_sz l2 y
    skip
    by_cases c3 : y.1 = 3
    ·have b3 : (y.1 == 3) = true := by simpa using c3
     by_cases c4 : y.2.2.2 = []
     ·have b4 : (y.2.2.2 == []) = true := by simpa using c4
      have ea : addT l2 y = l2 := by unfold addT; rw [if_pos c3, if_pos c4]
      rw [ea] at hq hz4
      skip
      try refine sq7 e5 e6 e5 e11 hy b3 b4 ?_
      (repeat (first | refine w1 (fun K hK => ?_) | refine w2 ?_ | refine w3 ?_ | ((first | refine w4 ?_ | refine WP_draw 17 (by decide +kernel) ?_ | refine w5 ?_ | refine w6 ?_ | refine w7 ?_); try refine sq7 e5 e6 e5 e11 hy b3 b4 ?_) | (refine w8 ?_; refine sq7 e5 e6 e5 e11 hy b3 b4 ?_; refine w9 ?_) | (refine rq7 e5 e6 e5 e11 hy b3 b4 ?_; try refine sq7 e5 e6 e5 e11 hy b3 b4 ?_) | (refine vq7 e5 e6 e5 e11 hy b3 b4 ?_; try refine sq7 e5 e6 e5 e11 hy b3 b4 ?_) | ((first | refine hK _ _ (w0 ?_) | (clear hK K; refine hK _ _ (w0 ?_)) | (clear hK K; clear hK K; refine hK _ _ (w0 ?_))); clear hK K)))
      refine hK3 _ _ _ (Wkn.refl ⟨k + 1, v2, l2, rfl, (by first | rfl | (simp; done) | (simp; rfl)), ?_, ?_, by omega, hq, by omega⟩) (by omega)
      all_goals first | exact zq7 e5 e6 e5 e11 hy b3 b4 | rfl | omega | trivial | skip
     ·have b4 : (y.2.2.2 == []) = false := by simpa using c4
      rcases List.eq_nil_or_concat l2 with rfl | ⟨l2, u, rfl⟩
      ·have ea := addT_nil y fun _ => c4
       rw [ea] at hq hz4
       skip
       try refine sq7 e5 e6 e5 e11 hy b3 b4 ?_
       (repeat (first | refine w1 (fun K hK => ?_) | refine w2 ?_ | refine w3 ?_ | ((first | refine w4 ?_ | refine WP_draw 17 (by decide +kernel) ?_ | refine w5 ?_ | refine w6 ?_ | refine w7 ?_); try refine sq7 e5 e6 e5 e11 hy b3 b4 ?_) | (refine w8 ?_; refine sq7 e5 e6 e5 e11 hy b3 b4 ?_; refine w9 ?_) | (refine rq7 e5 e6 e5 e11 hy b3 b4 ?_; try refine sq7 e5 e6 e5 e11 hy b3 b4 ?_) | (refine vq7 e5 e6 e5 e11 hy b3 b4 ?_; try refine sq7 e5 e6 e5 e11 hy b3 b4 ?_) | ((first | refine hK _ _ (w0 ?_) | (clear hK K; refine hK _ _ (w0 ?_)) | (clear hK K; clear hK K; refine hK _ _ (w0 ?_))); clear hK K)))
       refine aq7 e5 e6 e5 e11 hy b3 b4 ?_
       try refine sq7 e5 e6 e5 e11 hy b3 b4 ?_
       (repeat (first | refine w1 (fun K hK => ?_) | refine w2 ?_ | refine w3 ?_ | ((first | refine w4 ?_ | refine WP_draw 17 (by decide +kernel) ?_ | refine w5 ?_ | refine w6 ?_ | refine w7 ?_); try refine sq7 e5 e6 e5 e11 hy b3 b4 ?_) | (refine w8 ?_; refine sq7 e5 e6 e5 e11 hy b3 b4 ?_; refine w9 ?_) | (refine rq7 e5 e6 e5 e11 hy b3 b4 ?_; try refine sq7 e5 e6 e5 e11 hy b3 b4 ?_) | (refine vq7 e5 e6 e5 e11 hy b3 b4 ?_; try refine sq7 e5 e6 e5 e11 hy b3 b4 ?_) | ((first | refine hK _ _ (w0 ?_) | (clear hK K; refine hK _ _ (w0 ?_)) | (clear hK K; clear hK K; refine hK _ _ (w0 ?_))); clear hK K)))
       refine hK3 _ _ _ (Wkn.refl ⟨k + 1, v2 + 1, [y], rfl, by simp [tksR], ?_, ?_, by omega, hq, by omega⟩) (by omega)
       all_goals first | exact zq7 e5 e6 e5 e11 hy b3 b4 | rfl | omega | trivial | skip
      ·rw [List.concat_eq_append] at *
       have hsn := addT_snoc l2 u y c3 c4
       have e1 : ((l2.length + 1 : Nat) : Int) - 1 = l2.length := by omega
       have e2 : (l2 ++ [u])[l2.length]? = some u := by simp
       have b6 : decide (((l2.length + 1 : Nat) : Int) > 0) = true := by simp
       have e3 : l2.length < l2.length + 1 := by omega
       have hl2 : l2.length + 1 ≤ 100000000 := by rw [List.length_append] at hz3; simp only [List.length_cons, List.length_nil] at hz3; omega
       have hut := szs_txt (l := l2 ++ [u]) (u := u) (by simp)
       have hyt := szs_txt hym
       by_cases c5 : u.1 = 3
       ·have b5 : (u.1 == 3) = true := by simpa using c5
        rw [if_pos c5] at hsn
        rw [hsn] at hq hz4
        skip
        try refine sq12 e5 e6 e5 e11 hy b3 b4 b5 b6 e1 e2 e3 ?_
        (repeat (first | refine w1 (fun K hK => ?_) | refine w2 ?_ | refine w3 ?_ | ((first | refine w4 ?_ | refine WP_draw 17 (by decide +kernel) ?_ | refine w5 ?_ | refine w6 ?_ | refine w7 ?_); try refine sq12 e5 e6 e5 e11 hy b3 b4 b5 b6 e1 e2 e3 ?_) | (refine w8 ?_; refine sq12 e5 e6 e5 e11 hy b3 b4 b5 b6 e1 e2 e3 ?_; refine w9 ?_) | (refine rq12 e5 e6 e5 e11 hy b3 b4 b5 b6 e1 e2 e3 ?_; try refine sq12 e5 e6 e5 e11 hy b3 b4 b5 b6 e1 e2 e3 ?_) | (refine vq12 e5 e6 e5 e11 hy b3 b4 b5 b6 e1 e2 e3 ?_; try refine sq12 e5 e6 e5 e11 hy b3 b4 b5 b6 e1 e2 e3 ?_) | ((first | refine hK _ _ (w0 ?_) | (clear hK K; refine hK _ _ (w0 ?_)) | (clear hK K; clear hK K; refine hK _ _ (w0 ?_))); clear hK K)))
        refine hK3 _ _ _ (Wkn.refl ⟨k + 1, v2, l2 ++ [(u.1, u.2.1, u.2.2.1, u.2.2.2 ++ y.2.2.2)], rfl, by simp [tksR, Tok.av, ofCells], ?_, ?_, by omega, hq, by omega⟩) (by omega)
        all_goals first | exact zq12 e5 e6 e5 e11 hy b3 b4 b5 b6 e1 e2 e3 | rfl | omega | trivial | skip
       ·have b5 : (u.1 == 3) = false := by simpa using c5
        rw [if_neg c5] at hsn
        rw [hsn] at hq hz4
        skip
        try refine sq12 e5 e6 e5 e11 hy b3 b4 b5 b6 e1 e2 e3 ?_
        (repeat (first | refine w1 (fun K hK => ?_) | refine w2 ?_ | refine w3 ?_ | ((first | refine w4 ?_ | refine WP_draw 17 (by decide +kernel) ?_ | refine w5 ?_ | refine w6 ?_ | refine w7 ?_); try refine sq12 e5 e6 e5 e11 hy b3 b4 b5 b6 e1 e2 e3 ?_) | (refine w8 ?_; refine sq12 e5 e6 e5 e11 hy b3 b4 b5 b6 e1 e2 e3 ?_; refine w9 ?_) | (refine rq12 e5 e6 e5 e11 hy b3 b4 b5 b6 e1 e2 e3 ?_; try refine sq12 e5 e6 e5 e11 hy b3 b4 b5 b6 e1 e2 e3 ?_) | (refine vq12 e5 e6 e5 e11 hy b3 b4 b5 b6 e1 e2 e3 ?_; try refine sq12 e5 e6 e5 e11 hy b3 b4 b5 b6 e1 e2 e3 ?_) | ((first | refine hK _ _ (w0 ?_) | (clear hK K; refine hK _ _ (w0 ?_)) | (clear hK K; clear hK K; refine hK _ _ (w0 ?_))); clear hK K)))
        refine aq12 e5 e6 e5 e11 hy b3 b4 b5 b6 e1 e2 e3 ?_
        try refine sq12 e5 e6 e5 e11 hy b3 b4 b5 b6 e1 e2 e3 ?_
        (repeat (first | refine w1 (fun K hK => ?_) | refine w2 ?_ | refine w3 ?_ | ((first | refine w4 ?_ | refine WP_draw 17 (by decide +kernel) ?_ | refine w5 ?_ | refine w6 ?_ | refine w7 ?_); try refine sq12 e5 e6 e5 e11 hy b3 b4 b5 b6 e1 e2 e3 ?_) | (refine w8 ?_; refine sq12 e5 e6 e5 e11 hy b3 b4 b5 b6 e1 e2 e3 ?_; refine w9 ?_) | (refine rq12 e5 e6 e5 e11 hy b3 b4 b5 b6 e1 e2 e3 ?_; try refine sq12 e5 e6 e5 e11 hy b3 b4 b5 b6 e1 e2 e3 ?_) | (refine vq12 e5 e6 e5 e11 hy b3 b4 b5 b6 e1 e2 e3 ?_; try refine sq12 e5 e6 e5 e11 hy b3 b4 b5 b6 e1 e2 e3 ?_) | ((first | refine hK _ _ (w0 ?_) | (clear hK K; refine hK _ _ (w0 ?_)) | (clear hK K; clear hK K; refine hK _ _ (w0 ?_))); clear hK K)))
        refine hK3 _ _ _ (Wkn.refl ⟨k + 1, v2 + 1, l2 ++ [u] ++ [y], rfl, by simp [tksR], ?_, ?_, by omega, hq, by omega⟩) (by omega)
        all_goals first | exact zq12 e5 e6 e5 e11 hy b3 b4 b5 b6 e1 e2 e3 | rfl | omega | trivial | skip
    ·have b3 : (y.1 == 3) = false := by simpa using c3
     have ea : addT l2 y = l2 ++ [y] := by unfold addT; rw [if_neg c3]
     rw [ea] at hq hz4
     skip
     try refine sq6 e5 e6 e5 e11 hy b3 ?_
     (repeat (first | refine w1 (fun K hK => ?_) | refine w2 ?_ | refine w3 ?_ | ((first | refine w4 ?_ | refine WP_draw 17 (by decide +kernel) ?_ | refine w5 ?_ | refine w6 ?_ | refine w7 ?_); try refine sq6 e5 e6 e5 e11 hy b3 ?_) | (refine w8 ?_; refine sq6 e5 e6 e5 e11 hy b3 ?_; refine w9 ?_) | (refine rq6 e5 e6 e5 e11 hy b3 ?_; try refine sq6 e5 e6 e5 e11 hy b3 ?_) | (refine vq6 e5 e6 e5 e11 hy b3 ?_; try refine sq6 e5 e6 e5 e11 hy b3 ?_) | ((first | refine hK _ _ (w0 ?_) | (clear hK K; refine hK _ _ (w0 ?_)) | (clear hK K; clear hK K; refine hK _ _ (w0 ?_))); clear hK K)))
     refine aq6 e5 e6 e5 e11 hy b3 ?_
     try refine sq6 e5 e6 e5 e11 hy b3 ?_
     (repeat (first | refine w1 (fun K hK => ?_) | refine w2 ?_ | refine w3 ?_ | ((first | refine w4 ?_ | refine WP_draw 17 (by decide +kernel) ?_ | refine w5 ?_ | refine w6 ?_ | refine w7 ?_); try refine sq6 e5 e6 e5 e11 hy b3 ?_) | (refine w8 ?_; refine sq6 e5 e6 e5 e11 hy b3 ?_; refine w9 ?_) | (refine rq6 e5 e6 e5 e11 hy b3 ?_; try refine sq6 e5 e6 e5 e11 hy b3 ?_) | (refine vq6 e5 e6 e5 e11 hy b3 ?_; try refine sq6 e5 e6 e5 e11 hy b3 ?_) | ((first | refine hK _ _ (w0 ?_) | (clear hK K; refine hK _ _ (w0 ?_)) | (clear hK K; clear hK K; refine hK _ _ (w0 ?_))); clear hK K)))
     refine hK3 _ _ _ (Wkn.refl ⟨k + 1, v2 + 1, l2 ++ [y], rfl, by simp [tksR], ?_, ?_, by omega, hq, by omega⟩) (by omega)
     all_goals first | exact zq6 e5 e6 e5 e11 hy b3 | rfl | omega | trivial | skip
   ·rw [drop_nil_of c2] at hq hz2
    simp only [szs, List.foldl_nil] at hq hz2
    subst hq
    refine cq4 e5 e6 e5 e11 (fun c4 => ?_) (fun c4 => ?_) <;> (try exact c4.elim) <;>
     (repeat (first | refine w1 (fun K hK => ?_) | refine w2 ?_ | refine w3 ?_ | ((first | refine w4 ?_ | refine WP_draw 17 (by decide +kernel) ?_ | refine w5 ?_ | refine w6 ?_ | refine w7 ?_); try refine sq4 e5 e6 e5 e11 ?_) | (refine w8 ?_; refine sq4 e5 e6 e5 e11 ?_; refine w9 ?_) | (refine rq4 e5 e6 e5 e11 ?_; try refine sq4 e5 e6 e5 e11 ?_) | (refine vq4 e5 e6 e5 e11 ?_; try refine sq4 e5 e6 e5 e11 ?_) | ((first | refine hK _ _ (w0 ?_) | (clear hK K; refine hK _ _ (w0 ?_)) | (clear hK K; clear hK K; refine hK _ _ (w0 ?_))); clear hK K)))
    ·rw [if_pos (by omega)] at hp
     first | refine (hQ _ _ ?_).1 | refine (hQ _ _ ?_).2
     simp (disch := first | omega | (simp only [go_sem, ↓reduceIte, seval]; first | done | omega) | fail) only [go_sem, ↓reduceIte, seval, e5, e6, e5, e11, resA, resL, resA1]
     exact bad _ _ _ hp.symm
    ·rw [if_neg (by omega)] at hp
     refine hK2 _ _ _ (Wkn.refl ⟨g, v2, r1, tk.foldl addT l, rfl, (by first | rfl | (simp; done) | (simp; rfl)), ?_, ?_, by omega, hp, by omega, by omega⟩) (by omega)
     all_goals first | exact zq4 e5 e6 e5 e11 | rfl | omega | trivial | skip
 ·have c1 : s1 = [] := List.eq_nil_of_length_eq_zero (by omega)
  rw [if_pos c1] at hp
  first | refine (hQ _ _ ?_).1 | refine (hQ _ _ ?_).2
  simp (disch := first | omega | (simp only [go_sem, ↓reduceIte, seval]; first | done | omega) | fail) only [go_sem, ↓reduceIte, seval, e5, e6, resA, resL, resA1]
  rw [← hp]
  exact Fin.frz (FrzL.tup (.cons (Frz.toksD (Nat.le_refl _) (by simp [getRow, tksR]; rfl) rfl) (.cons (.clo _ (.int _ _)) (.cons (.clo _ (.int _ _)) .nil)))) ⟨_, rfl, rfl⟩
end Go.Av
namespace Go.Av
open Go Go.Proofs Go.RowKit
attribute [local irreducible] WP WPl WPix Sat
set_option maxRecDepth 100000
set_option maxHeartbeats 1000000
variable {G : Nat → Option (List AVal)}
def blankT (t : Tok) : Bool := t.2.2.2.all blankB && (t.1 == 3)
theorem blank_4 : ∀ b : UInt8, blankB b = (b == 9 || b == 10 || b == 13 || b == 32) := by
 have : ∀ x : _root_.Fin 256, blankB (UInt8.ofNat x.val) = (UInt8.ofNat x.val == 9 || UInt8.ofNat x.val == 10 || UInt8.ofNat x.val == 13 || UInt8.ofNat x.val == 32) := by decide +kernel
 intro b
 have h := this ⟨b.toNat, b.toNat_lt⟩
 simpa using h
theorem ne_nat (c : UInt8) (k : Nat) (hk : k < 256) (h : c ≠ UInt8.ofNat k) : ((c.toNat : Int) != (k : Int)) = true := by
 have : ¬ (c.toNat : Int) = k := fun e2 => h (UInt8.toNat_inj.1 (by rw [UInt8.toNat_ofNat_of_lt' (by simpa using hk)]; omega))
 simpa using this
theorem rblankT_sat (t : Tok) (ht : t.2.2.2.length ≤ 1048576) (h : Heap) : Sat (CT G) 82 [t.av] h (fun r h' => r = .bool (blankT t) ∧ h' = h) := by
 have fin : ∀ (j : Heap) (b : Bool), b = blankT t → Fin h (h ++ j) (fun r h' => r = .bool (blankT t) ∧ h' = h) (.bool b) := fun j b e => by rw [e]; exact Fin.plain (.bool _) ⟨rfl, rfl⟩
 refine Sat.body [.tmp 2] (fn := Tryz.f82) Tryz.func82 rfl rfl (by kernel_rfl) (by kernel_rfl) (by kernel_rfl) rfl ?_
 intro Q hQ
 (repeat (first | refine w1 (fun K hK => ?_) | refine w2 ?_ | refine w3 ?_ | ((first | refine w4 ?_ | refine w5 ?_ | refine w6 ?_ | refine w7 ?_); try refine sq0 ?_) | (refine w8 ?_; refine sq0 ?_; refine w9 ?_) | ((first | refine hK _ _ (w0 ?_) | (clear hK K; refine hK _ _ (w0 ?_)) | (clear hK K; clear hK K; refine hK _ _ (w0 ?_))); clear hK K)))
 refine WP_loopm (by simp only [go_sem, List.nil_append, List.cons_append]; rfl) (fun nL tL hL => ∃ (i : Nat), t.2.2.2.length - i = nL ∧ h ++ [.row 83 4 0 [t.av]] = hL ∧ tL 1 = .hp h.length 0 0 0 ∧ tL 3 = .int .i64 i ∧ i ≤ t.2.2.2.length ∧ (t.2.2.2.take i).all blankB = true) ((fun (i : Nat) => (t.2.2.2.length - i : Nat)) (0)) ?_ ?_
 ·refine Wkn.refl ⟨0, rfl, (by first | rfl | (simp; done) | (simp; rfl)), ?_, ?_, by omega, by simp⟩
  all_goals first | exact zq0 | rfl | omega | trivial | skip
 rintro _ s2 h' ⟨i, rfl, rfl, e1, e3, hi, hq⟩ K2 hK2
 simp only [mix_cons, mix_nil, Nat.reduceEqDiff, ↓reduceIte] at e1 e3
 (repeat (first | refine w1 (fun K hK => ?_) | refine w2 ?_ | refine w3 ?_ | ((first | refine w4 ?_ | refine w5 ?_ | refine w6 ?_ | refine w7 ?_); try refine sq2 e1 e3 ?_) | (refine w8 ?_; refine sq2 e1 e3 ?_; refine w9 ?_) | ((first | refine hK _ _ (w0 ?_) | (clear hK K; refine hK _ _ (w0 ?_)) | (clear hK K; clear hK K; refine hK _ _ (w0 ?_))); clear hK K)))
 refine cq2 e1 e3 (fun c1 => ?_) (fun c1 => ?_) <;> (try exact c1.elim) <;>
  (repeat (first | refine w1 (fun K hK => ?_) | refine w2 ?_ | refine w3 ?_ | ((first | refine w4 ?_ | refine w5 ?_ | refine w6 ?_ | refine w7 ?_); try refine sq2 e1 e3 ?_) | (refine w8 ?_; refine sq2 e1 e3 ?_; refine w9 ?_) | ((first | refine hK _ _ (w0 ?_) | (clear hK K; refine hK _ _ (w0 ?_)) | (clear hK K; clear hK K; refine hK _ _ (w0 ?_))); clear hK K)))
 ·obtain ⟨c, hc, hcm⟩ := getElem?_of_lt c1
  have hb := blank_4 c
  have no : blankB c = false → blankT t = false := fun e => by
   have : t.2.2.2.all blankB = false := List.all_eq_false.2 ⟨c, hcm, by simp [e]⟩
   unfold blankT; rw [this, Bool.false_and]
  have nx : blankB c = true → (t.2.2.2.take (i + 1)).all blankB = true := fun e => by
   rw [List.take_add_one, hc]; simp [hq, e]
  skip
  by_cases e9 : c = 9
  ·subst e9
   have n9 : ((UInt8.toNat 9 : Int) != 9) = false := rfl
   skip
   try refine sq4 e1 e3 hc n9 ?_
   (repeat (first | refine w1 (fun K hK => ?_) | refine w2 ?_ | refine w3 ?_ | ((first | refine w4 ?_ | refine w5 ?_ | refine w6 ?_ | refine w7 ?_); try refine sq4 e1 e3 hc n9 ?_) | (refine w8 ?_; refine sq4 e1 e3 hc n9 ?_; refine w9 ?_) | ((first | refine hK _ _ (w0 ?_) | (clear hK K; refine hK _ _ (w0 ?_)) | (clear hK K; clear hK K; refine hK _ _ (w0 ?_))); clear hK K)))
   refine hK2 _ _ _ (Wkn.refl ⟨i + 1, rfl, (by first | rfl | (simp; done) | (simp; rfl)), ?_, ?_, by omega, nx rfl⟩) (by omega)
   all_goals first | exact zq4 e1 e3 hc n9 | rfl | omega | trivial | skip
  ·have n9 : ((c.toNat : Int) != 9) = true := ne_nat c 9 (by omega) e9
   skip
   by_cases e10 : c = 10
   ·subst e10
    have n10 : ((UInt8.toNat 10 : Int) != 10) = false := rfl
    have n9 : ((UInt8.toNat 10 : Int) != 9) = true := rfl
    skip
    try refine sq5 e1 e3 hc n9 n10 ?_
    (repeat (first | refine w1 (fun K hK => ?_) | refine w2 ?_ | refine w3 ?_ | ((first | refine w4 ?_ | refine w5 ?_ | refine w6 ?_ | refine w7 ?_); try refine sq5 e1 e3 hc n9 n10 ?_) | (refine w8 ?_; refine sq5 e1 e3 hc n9 n10 ?_; refine w9 ?_) | ((first | refine hK _ _ (w0 ?_) | (clear hK K; refine hK _ _ (w0 ?_)) | (clear hK K; clear hK K; refine hK _ _ (w0 ?_))); clear hK K)))
    refine hK2 _ _ _ (Wkn.refl ⟨i + 1, rfl, (by first | rfl | (simp; done) | (simp; rfl)), ?_, ?_, by omega, nx rfl⟩) (by omega)
    all_goals first | exact zq5 e1 e3 hc n9 n10 | rfl | omega | trivial | skip
   ·have n10 : ((c.toNat : Int) != 10) = true := ne_nat c 10 (by omega) e10
    skip
    by_cases e13 : c = 13
    ·subst e13
     have n13 : ((UInt8.toNat 13 : Int) != 13) = false := rfl
     have n9 : ((UInt8.toNat 13 : Int) != 9) = true := rfl
     have n10 : ((UInt8.toNat 13 : Int) != 10) = true := rfl
     skip
     try refine sq6 e1 e3 hc n9 n10 n13 ?_
     (repeat (first | refine w1 (fun K hK => ?_) | refine w2 ?_ | refine w3 ?_ | ((first | refine w4 ?_ | refine w5 ?_ | refine w6 ?_ | refine w7 ?_); try refine sq6 e1 e3 hc n9 n10 n13 ?_) | (refine w8 ?_; refine sq6 e1 e3 hc n9 n10 n13 ?_; refine w9 ?_) | ((first | refine hK _ _ (w0 ?_) | (clear hK K; refine hK _ _ (w0 ?_)) | (clear hK K; clear hK K; refine hK _ _ (w0 ?_))); clear hK K)))
     refine hK2 _ _ _ (Wkn.refl ⟨i + 1, rfl, (by first | rfl | (simp; done) | (simp; rfl)), ?_, ?_, by omega, nx rfl⟩) (by omega)
     all_goals first | exact zq6 e1 e3 hc n9 n10 n13 | rfl | omega | trivial | skip
    ·have n13 : ((c.toNat : Int) != 13) = true := ne_nat c 13 (by omega) e13
     skip
     by_cases e32 : c = 32
     ·subst e32
      have n32 : ((UInt8.toNat 32 : Int) != 32) = false := rfl
      have n9 : ((UInt8.toNat 32 : Int) != 9) = true := rfl
      have n10 : ((UInt8.toNat 32 : Int) != 10) = true := rfl
      have n13 : ((UInt8.toNat 32 : Int) != 13) = true := rfl
      skip
      try refine sq7 e1 e3 hc n9 n10 n13 n32 ?_
      (repeat (first | refine w1 (fun K hK => ?_) | refine w2 ?_ | refine w3 ?_ | ((first | refine w4 ?_ | refine w5 ?_ | refine w6 ?_ | refine w7 ?_); try refine sq7 e1 e3 hc n9 n10 n13 n32 ?_) | (refine w8 ?_; refine sq7 e1 e3 hc n9 n10 n13 n32 ?_; refine w9 ?_) | ((first | refine hK _ _ (w0 ?_) | (clear hK K; refine hK _ _ (w0 ?_)) | (clear hK K; clear hK K; refine hK _ _ (w0 ?_))); clear hK K)))
      refine hK2 _ _ _ (Wkn.refl ⟨i + 1, rfl, (by first | rfl | (simp; done) | (simp; rfl)), ?_, ?_, by omega, nx rfl⟩) (by omega)
      all_goals first | exact zq7 e1 e3 hc n9 n10 n13 n32 | rfl | omega | trivial | skip
     ·have n32 : ((c.toNat : Int) != 32) = true := ne_nat c 32 (by omega) e32
      skip
      try refine sq7 e1 e3 hc n9 n10 n13 n32 ?_
      (repeat (first | refine w1 (fun K hK => ?_) | refine w2 ?_ | refine w3 ?_ | ((first | refine w4 ?_ | refine w5 ?_ | refine w6 ?_ | refine w7 ?_); try refine sq7 e1 e3 hc n9 n10 n13 n32 ?_) | (refine w8 ?_; refine sq7 e1 e3 hc n9 n10 n13 n32 ?_; refine w9 ?_) | ((first | refine hK _ _ (w0 ?_) | (clear hK K; refine hK _ _ (w0 ?_)) | (clear hK K; clear hK K; refine hK _ _ (w0 ?_))); clear hK K)))
      first | refine (hQ _ _ ?_).1 | refine (hQ _ _ ?_).2
      refine sq7 e1 e3 hc n9 n10 n13 n32 ?_
      exact fin _ _ (no (by rw [hb]; simp [e9, e10, e13, e32])).symm
 ·have e1 : t.2.2.2.take i = t.2.2.2 := List.take_of_length_le (by omega)
  rw [e1] at hq
  (repeat (first | refine w1 (fun K hK => ?_) | refine w2 ?_ | refine w3 ?_ | ((first | refine w4 ?_ | refine w5 ?_ | refine w6 ?_ | refine w7 ?_); try refine sq2 e1 e3 ?_) | (refine w8 ?_; refine sq2 e1 e3 ?_; refine w9 ?_) | ((first | refine hK _ _ (w0 ?_) | (clear hK K; refine hK _ _ (w0 ?_)) | (clear hK K; clear hK K; refine hK _ _ (w0 ?_))); clear hK K)))
  first | refine (hQ _ _ ?_).1 | refine (hQ _ _ ?_).2
  refine sq2 e1 e3 ?_
  exact fin _ _ (by unfold blankT; rw [hq, Bool.true_and])
end Go.Av
namespace Go.Av
open Go Go.Proofs Go.RowKit
set_option maxRecDepth 100000
set_option maxHeartbeats 1000000
def elL : Nat → Nat → Bs → List At → Bs → List Elem → List Tok → Option (Elem × List Tok)
 | 0, _, _, _, _, _, _ => none
 | _ + 1, _, _, _, _, _, [] => none
 | f + 1, d, n, a, x, k, t :: ts =>
  if t.1 = 3 then elL f d n a (x ++ t.2.2.2) k ts
  else if t.1 = 1 then (if d = 0 then none else (elL f (d - 1) t.2.1 t.2.2.1 [] [] ts).bind fun q => elL f d n a x (k ++ [q.1]) q.2)
  else if t.1 = 2 then (if t.2.1 = n then some (⟨n, a, x, k⟩, ts) else none)
  else none
def elF (d : Nat) : List Tok → Option (Elem × List Tok)
 | [] => none
 | t :: ts => if t.1 = 1 then (if d = 0 then none else elL (ts.length + 1) (d - 1) t.2.1 t.2.2.1 [] [] ts) else none
theorem elL_one (f d : Nat) (n : Bs) (a : List At) (x : Bs) (k : List Elem) (t : Tok) (ts : List Tok) : elL (f + 1) d n a x k (t :: ts) =
  if t.1 = 3 then elL f d n a (x ++ t.2.2.2) k ts
  else if t.1 = 1 then (if d = 0 then none else (elL f (d - 1) t.2.1 t.2.2.1 [] [] ts).bind fun q => elL f d n a x (k ++ [q.1]) q.2)
  else if t.1 = 2 then (if t.2.1 = n then some (⟨n, a, x, k⟩, ts) else none) else none := rfl
theorem elL_nil (f d : Nat) (n : Bs) (a : List At) (x : Bs) (k : List Elem) : elL f d n a x k [] = none := by cases f <;> rfl
theorem elF_cons (d : Nat) (t : Tok) (ts : List Tok) : elF d (t :: ts) = if t.1 = 1 then (if d = 0 then none else elL (ts.length + 1) (d - 1) t.2.1 t.2.2.1 [] [] ts) else none := rfl
theorem elL_suf : ∀ (f d : Nat) (n : Bs) (a : List At) (x : Bs) (k : List Elem) (ts : List Tok) (q : Elem × List Tok), elL f d n a x k ts = some q → q.2 <:+ ts ∧ q.2.length < ts.length := by
 intro f
 induction f with
 | zero => intro d n a x k ts q h; cases h
 | succ f ih =>
  intro d n a x k ts q h
  cases ts with
  | nil => rw [elL_nil] at h; cases h
  | cons t ts =>
   rw [elL_one] at h
   have key : q.2 <:+ ts := by
    split at h
    ·exact (ih _ _ _ _ _ _ _ h).1
    ·split at h
     ·split at h
      ·cases h
      ·obtain ⟨p, hp, h⟩ := Option.bind_eq_some_iff.1 h
       exact (ih _ _ _ _ _ _ _ h).1.trans (ih _ _ _ _ _ _ _ hp).1
     ·split at h
      ·split at h
       ·cases h; exact List.suffix_refl _
       ·cases h
      ·cases h
   exact ⟨key.trans (List.suffix_cons t ts), by have := key.length_le; simp; omega⟩
theorem elF_suf {d : Nat} {ts : List Tok} {q : Elem × List Tok} (h : elF d ts = some q) : q.2.length < ts.length ∧ q.2 = ts.drop (ts.length - q.2.length) := by
 cases ts with
 | nil => cases h
 | cons t ts =>
  rw [elF_cons] at h
  split at h
  ·split at h
   ·cases h
   ·have h1 := (elL_suf _ _ _ _ _ _ _ _ h)
    exact ⟨by simp; omega, List.suffix_iff_eq_drop.1 (h1.1.trans (List.suffix_cons t ts))⟩
  ·cases h
theorem elL_fuel : ∀ (f g d : Nat) (n : Bs) (a : List At) (x : Bs) (k : List Elem) (ts : List Tok), ts.length < f → ts.length < g → elL f d n a x k ts = elL g d n a x k ts := by
 intro f
 induction f with
 | zero => intro g d n a x k ts h; omega
 | succ f ih =>
  intro g d n a x k ts h1 h2
  obtain ⟨g, rfl⟩ : ∃ g', g = g' + 1 := ⟨g - 1, by omega⟩
  cases ts with
  | nil => rw [elL_nil, elL_nil]
  | cons t ts =>
   simp only [List.length_cons] at h1 h2
   rw [elL_one, elL_one, ih g d n a (x ++ t.2.2.2) k ts (by omega) (by omega), ih g (d - 1) t.2.1 t.2.2.1 [] [] ts (by omega) (by omega)]
   cases hq : elL g (d - 1) t.2.1 t.2.2.1 [] [] ts with
   | none => rfl
   | some q =>
    have := (elL_suf _ _ _ _ _ _ _ _ hq).2
    simp only [Option.bind_some]
    rw [ih g d n a x (k ++ [q.1]) q.2 (by omega) (by omega)]
theorem elL_cons (f d : Nat) (n : Bs) (a : List At) (x : Bs) (k : List Elem) (t : Tok) (ts : List Tok) (hf : ts.length < f) : elL (f + 1) d n a x k (t :: ts) =
  if t.1 = 3 then elL f d n a (x ++ t.2.2.2) k ts
  else if t.1 = 1 then (elF d (t :: ts)).bind fun q => elL f d n a x (k ++ [q.1]) q.2
  else if t.1 = 2 then (if t.2.1 = n then some (⟨n, a, x, k⟩, ts) else none) else none := by
 rw [elL_one, elF_cons]
 by_cases h1 : t.1 = 1
 ·have h3 : ¬ t.1 = 3 := by omega
  rw [if_neg h3, if_neg h3, if_pos h1, if_pos h1, if_pos h1]
  by_cases hd : d = 0
  ·rw [if_pos hd, if_pos hd]; rfl
  ·rw [if_neg hd, if_neg hd, elL_fuel (ts.length + 1) f (d - 1) t.2.1 t.2.2.1 [] [] ts (by omega) hf]
 ·rw [if_neg h1, if_neg h1]
end Go.Av
namespace Go.Av
open Go Go.Proofs Go.RowKit
attribute [local irreducible] WP WPl WPix Sat
set_option maxRecDepth 100000
set_option maxHeartbeats 1000000
variable {G : Nat → Option (List AVal)}
def ElR (h : Heap) (d : Nat) (ts : List Tok) (r : AVal) (h' : Heap) : Prop :=
 ∃ (e : Elem) (n : Int), r = .tup [e.av, .int .i64 n, .bool (elF d ts).isSome] ∧ (∀ q, elF d ts = some q → e = q.1 ∧ n = (ts.length - q.2.length : Nat)) ∧ (0 ≤ n ∧ n ≤ ts.length) ∧ h' = h
theorem ElR.bad {h : Heap} {d : Nat} {ts : List Tok} (j : Heap) (e : elF d ts = none) : Fin h (h ++ j) (ElR h d ts) (.tup [.agg [.str [], .nil (.slice none 0 0), .str [], .nil (.slice none 0 0)], .int .i64 0, .bool false]) := by
 have z : Frz (h ++ j) h.length (.agg [.str [], .nil (.slice none 0 0), .str [], .nil (.slice none 0 0)]) (Elem.av ⟨[], [], [], []⟩) := by
  rw [Elem.av_eq]
  exact FrzL.agg (.cons (.clo _ (.str _)) (.cons (.nils 2) (.cons (.clo _ (.str _)) (.cons (.nils 4) .nil)))) rfl
 exact Fin.frz (FrzL.tup (.cons z (.cons (.clo _ (.int _ _)) (.cons (.clo _ (.bool _)) .nil)))) ⟨_, 0, by rw [e]; rfl, (fun q hq => by rw [e] at hq; cases hq), ⟨by omega, by omega⟩, rfl⟩
theorem wpOperV_alloc {C : Ctx} {ops : Array Oper} {e : TypeId} {ty : TypeId} {pos : String} {aft : Array Edge} {dst : Option Tmp} {t : Env} {h : Heap} {K : AVal → Heap → Prop} :
  wpOperV C ops ⟨dst, .alloc e, ty, pos, aft, none⟩ t h K = need (zroT C.P e) fun z => 0 < z.cells.length ∧ z.cells.all AVal.sto = true ∧ z.lies = true ∧ K (.hp h.length 0 0 0) (h ++ [.row e z.cells.length 0 [z]]) := rfl
theorem aslice_slF {P : Program} {h : Heap} {T e n i : Nat} {es : List AVal} {k : IntKind} (he : elmT P T = some e) (hn : szOf P e = some n) (hi : i ≤ es.length) : aslice P h T (.sl n es) (some (.int k (i : Int))) none none = some (.sl n (es.drop i)) := by
 simp only [aslice, he, hn, optInt, Option.isNone_none, if_true]
 rw [if_pos ⟨by omega, by omega, by omega⟩]
 simp
theorem szs_drop {α : Type} (f : α → Nat) (hf : ∀ a, 1 ≤ f a) : ∀ (l : List α) (m : Nat), m ≤ l.length → szs f (l.drop m) + m ≤ szs f l
 | _, 0, _ => by simp
 | [], m + 1, h => by simp at h
 | a :: l, m + 1, h => by
  have := szs_drop f hf l m (by simpa using h)
  have := hf a
  simp only [List.drop_succ_cons, szs]; omega
theorem relem_sat : ∀ (d : Nat) (ts : List Tok) (dep : Int), szs Tok.sz ts ≤ 1048576 → 0 ≤ dep → dep + d = 33 → ∀ h : Heap, Sat (CT G) 83 [.sl 4 (ts.map Tok.av), .int .i64 dep] h (ElR h d ts) := by
 intro d
 induction d with
 | zero =>
  intro ts dep hsz h0 hd h
  have he : elF 0 ts = none := by cases ts with | nil => rfl | cons t ts => rw [elF_cons]; simp
  have hlen := szs_len Tok.sz Tok.sz_pos ts
  have b3 : decide (dep > 32) = true := by simp; omega
  by_cases hnil : ts = []
  ·subst hnil
   skip
   refine Sat.body [.cell 4 26, .tmp 5, .tmp 6] (fn := Tryz.f83) Tryz.func83 rfl rfl (by kernel_rfl) (by kernel_rfl) (by kernel_rfl) rfl ?_
   intro Q hQ
   (repeat (first | refine w1 (fun K hK => ?_) | refine w2 ?_ | refine w3 ?_ | ((first | refine w4 ?_ | refine WP_draw 11 (by decide +kernel) ?_ | refine WP_draw 9 (by decide +kernel) ?_ | refine w5 ?_ | refine w6 ?_ | refine w7 ?_); try refine sq1 b3 ?_) | (refine w8 ?_; refine sq1 b3 ?_; refine w9 ?_) | (refine rq1 b3 ?_; try refine sq1 b3 ?_) | (refine vq1 b3 ?_; try refine sq1 b3 ?_) | ((first | refine hK _ _ (w0 ?_) | (clear hK K; refine hK _ _ (w0 ?_)) | (clear hK K; clear hK K; refine hK _ _ (w0 ?_))); clear hK K)))
   try refine sq1 b3 ?_
   (repeat (first | refine w1 (fun K hK => ?_) | refine w2 ?_ | refine w3 ?_ | ((first | refine w4 ?_ | refine WP_draw 11 (by decide +kernel) ?_ | refine WP_draw 9 (by decide +kernel) ?_ | refine w5 ?_ | refine w6 ?_ | refine w7 ?_); try refine sq1 b3 ?_) | (refine w8 ?_; refine sq1 b3 ?_; refine w9 ?_) | (refine rq1 b3 ?_; try refine sq1 b3 ?_) | (refine vq1 b3 ?_; try refine sq1 b3 ?_) | ((first | refine hK _ _ (w0 ?_) | (clear hK K; refine hK _ _ (w0 ?_)) | (clear hK K; clear hK K; refine hK _ _ (w0 ?_))); clear hK K)))
   first | refine (hQ _ _ ?_).1 | refine (hQ _ _ ?_).2
   simp (disch := first | omega | (simp only [go_sem, ↓reduceIte, seval]; first | done | omega) | fail) only [go_sem, ↓reduceIte, seval, b3, resA, resL, resA1]
   exact ElR.bad _ he
  ·have hpos : 0 < ts.length := List.length_pos_iff.2 hnil
   obtain ⟨t, hc0, hcm⟩ := getElem?_of_lt hpos
   have b1 : ((ts.length : Int) == 0) = false := by simp; omega
   cases b2 : (t.1 != 1) with
   | true =>
    skip
    refine Sat.body [.cell 4 26, .tmp 5, .tmp 6] (fn := Tryz.f83) Tryz.func83 rfl rfl (by kernel_rfl) (by kernel_rfl) (by kernel_rfl) rfl ?_
    intro Q hQ
    (repeat (first | refine w1 (fun K hK => ?_) | refine w2 ?_ | refine w3 ?_ | ((first | refine w4 ?_ | refine WP_draw 11 (by decide +kernel) ?_ | refine WP_draw 9 (by decide +kernel) ?_ | refine w5 ?_ | refine w6 ?_ | refine w7 ?_); try refine sq4 hc0 b1 b2 b3 ?_) | (refine w8 ?_; refine sq4 hc0 b1 b2 b3 ?_; refine w9 ?_) | (refine rq4 hc0 b1 b2 b3 ?_; try refine sq4 hc0 b1 b2 b3 ?_) | (refine vq4 hc0 b1 b2 b3 ?_; try refine sq4 hc0 b1 b2 b3 ?_) | ((first | refine hK _ _ (w0 ?_) | (clear hK K; refine hK _ _ (w0 ?_)) | (clear hK K; clear hK K; refine hK _ _ (w0 ?_))); clear hK K)))
    try refine sq4 hc0 b1 b2 b3 ?_
    (repeat (first | refine w1 (fun K hK => ?_) | refine w2 ?_ | refine w3 ?_ | ((first | refine w4 ?_ | refine WP_draw 11 (by decide +kernel) ?_ | refine WP_draw 9 (by decide +kernel) ?_ | refine w5 ?_ | refine w6 ?_ | refine w7 ?_); try refine sq4 hc0 b1 b2 b3 ?_) | (refine w8 ?_; refine sq4 hc0 b1 b2 b3 ?_; refine w9 ?_) | (refine rq4 hc0 b1 b2 b3 ?_; try refine sq4 hc0 b1 b2 b3 ?_) | (refine vq4 hc0 b1 b2 b3 ?_; try refine sq4 hc0 b1 b2 b3 ?_) | ((first | refine hK _ _ (w0 ?_) | (clear hK K; refine hK _ _ (w0 ?_)) | (clear hK K; clear hK K; refine hK _ _ (w0 ?_))); clear hK K)))
    first | refine (hQ _ _ ?_).1 | refine (hQ _ _ ?_).2
    simp (disch := first | omega | (simp only [go_sem, ↓reduceIte, seval]; first | done | omega) | fail) only [go_sem, ↓reduceIte, seval, hc0, b1, b2, b3, resA, resL, resA1]
    exact ElR.bad _ he
   | false =>
    skip
    refine Sat.body [.cell 4 26, .tmp 5, .tmp 6] (fn := Tryz.f83) Tryz.func83 rfl rfl (by kernel_rfl) (by kernel_rfl) (by kernel_rfl) rfl ?_
    intro Q hQ
    (repeat (first | refine w1 (fun K hK => ?_) | refine w2 ?_ | refine w3 ?_ | ((first | refine w4 ?_ | refine WP_draw 11 (by decide +kernel) ?_ | refine WP_draw 9 (by decide +kernel) ?_ | refine w5 ?_ | refine w6 ?_ | refine w7 ?_); try refine sq4 hc0 b1 b2 b3 ?_) | (refine w8 ?_; refine sq4 hc0 b1 b2 b3 ?_; refine w9 ?_) | (refine rq4 hc0 b1 b2 b3 ?_; try refine sq4 hc0 b1 b2 b3 ?_) | (refine vq4 hc0 b1 b2 b3 ?_; try refine sq4 hc0 b1 b2 b3 ?_) | ((first | refine hK _ _ (w0 ?_) | (clear hK K; refine hK _ _ (w0 ?_)) | (clear hK K; clear hK K; refine hK _ _ (w0 ?_))); clear hK K)))
    try refine sq4 hc0 b1 b2 b3 ?_
    (repeat (first | refine w1 (fun K hK => ?_) | refine w2 ?_ | refine w3 ?_ | ((first | refine w4 ?_ | refine WP_draw 11 (by decide +kernel) ?_ | refine WP_draw 9 (by decide +kernel) ?_ | refine w5 ?_ | refine w6 ?_ | refine w7 ?_); try refine sq4 hc0 b1 b2 b3 ?_) | (refine w8 ?_; refine sq4 hc0 b1 b2 b3 ?_; refine w9 ?_) | (refine rq4 hc0 b1 b2 b3 ?_; try refine sq4 hc0 b1 b2 b3 ?_) | (refine vq4 hc0 b1 b2 b3 ?_; try refine sq4 hc0 b1 b2 b3 ?_) | ((first | refine hK _ _ (w0 ?_) | (clear hK K; refine hK _ _ (w0 ?_)) | (clear hK K; clear hK K; refine hK _ _ (w0 ?_))); clear hK K)))
    first | refine (hQ _ _ ?_).1 | refine (hQ _ _ ?_).2
    simp (disch := first | omega | (simp only [go_sem, ↓reduceIte, seval]; first | done | omega) | fail) only [go_sem, ↓reduceIte, seval, hc0, b1, b2, b3, resA, resL, resA1]
    exact ElR.bad _ he
 | succ d ih =>
  intro ts dep hsz h0 hd h
  have hlen := szs_len Tok.sz Tok.sz_pos ts
  by_cases hnil : ts = []
  ·subst hnil
   have he : elF (d + 1) [] = none := rfl
   refine Sat.body [.cell 4 26, .tmp 5, .tmp 6] (fn := Tryz.f83) Tryz.func83 rfl rfl (by kernel_rfl) (by kernel_rfl) (by kernel_rfl) rfl ?_
   intro Q hQ
   (repeat (first | refine w1 (fun K hK => ?_) | refine w2 ?_ | refine w3 ?_ | ((first | refine w4 ?_ | refine WP_draw 11 (by decide +kernel) ?_ | refine WP_draw 9 (by decide +kernel) ?_ | refine w5 ?_ | refine w6 ?_ | refine w7 ?_); try refine sq0 ?_) | (refine w8 ?_; refine sq0 ?_; refine w9 ?_) | (refine rq0 ?_; try refine sq0 ?_) | (refine vq0 ?_; try refine sq0 ?_) | ((first | refine hK _ _ (w0 ?_) | (clear hK K; refine hK _ _ (w0 ?_)) | (clear hK K; clear hK K; refine hK _ _ (w0 ?_))); clear hK K)))
   try refine sq0 ?_
   (repeat (first | refine w1 (fun K hK => ?_) | refine w2 ?_ | refine w3 ?_ | ((first | refine w4 ?_ | refine WP_draw 11 (by decide +kernel) ?_ | refine WP_draw 9 (by decide +kernel) ?_ | refine w5 ?_ | refine w6 ?_ | refine w7 ?_); try refine sq0 ?_) | (refine w8 ?_; refine sq0 ?_; refine w9 ?_) | (refine rq0 ?_; try refine sq0 ?_) | (refine vq0 ?_; try refine sq0 ?_) | ((first | refine hK _ _ (w0 ?_) | (clear hK K; refine hK _ _ (w0 ?_)) | (clear hK K; clear hK K; refine hK _ _ (w0 ?_))); clear hK K)))
   first | refine (hQ _ _ ?_).1 | refine (hQ _ _ ?_).2
   simp (disch := first | omega | (simp only [go_sem, ↓reduceIte, seval]; first | done | omega) | fail) only [go_sem, ↓reduceIte, seval, resA, resL, resA1]
   exact ElR.bad _ he
  have hpos : 0 < ts.length := List.length_pos_iff.2 hnil
  obtain ⟨t, hc0, hcm⟩ := getElem?_of_lt hpos
  obtain ⟨tr, htr⟩ : ∃ tr, ts = t :: tr := by
   cases ts with
   | nil => cases hc0
   | cons a r => simp at hc0; subst hc0; exact ⟨r, rfl⟩
  have b1 : ((ts.length : Int) == 0) = false := by simp; omega
  by_cases hk : t.1 = 1
  ·have b2 : (t.1 != 1) = false := by simpa using hk
   have b3 : decide (dep > 32) = false := by simp; omega
   have hel : elF (d + 1) ts = elL (tr.length + 1) d t.2.1 t.2.2.1 [] [] tr := by rw [htr, elF_cons, if_pos hk, if_neg (by omega)]; rfl
   skip
   skip
   refine Sat.body [.cell 4 26, .tmp 5, .tmp 6] (fn := Tryz.f83) Tryz.func83 rfl rfl (by kernel_rfl) (by kernel_rfl) (by kernel_rfl) rfl ?_
   intro Q hQ
   (repeat (first | refine w1 (fun K hK => ?_) | refine w2 ?_ | refine w3 ?_ | ((first | refine w4 ?_ | refine w5 ?_ | refine w6 ?_ | refine w7 ?_); try refine sq4 hc0 b1 b2 b3 ?_) | (refine w8 ?_; refine sq4 hc0 b1 b2 b3 ?_; refine w9 ?_) | (refine rq4 hc0 b1 b2 b3 ?_; try refine sq4 hc0 b1 b2 b3 ?_) | (refine vq4 hc0 b1 b2 b3 ?_; try refine sq4 hc0 b1 b2 b3 ?_) | ((first | refine hK _ _ (w0 ?_) | (clear hK K; refine hK _ _ (w0 ?_)) | (clear hK K; clear hK K; refine hK _ _ (w0 ?_))); clear hK K)))
   try refine sq4 hc0 b1 b2 b3 ?_
   (repeat (first | refine w1 (fun K hK => ?_) | refine w2 ?_ | refine w3 ?_ | ((first | refine w4 ?_ | refine w5 ?_ | refine w6 ?_ | refine w7 ?_); try refine sq4 hc0 b1 b2 b3 ?_) | (refine w8 ?_; refine sq4 hc0 b1 b2 b3 ?_; refine w9 ?_) | (refine rq4 hc0 b1 b2 b3 ?_; try refine sq4 hc0 b1 b2 b3 ?_) | (refine vq4 hc0 b1 b2 b3 ?_; try refine sq4 hc0 b1 b2 b3 ?_) | ((first | refine hK _ _ (w0 ?_) | (clear hK K; refine hK _ _ (w0 ?_)) | (clear hK K; clear hK K; refine hK _ _ (w0 ?_))); clear hK K)))
   refine WP_draw5 9 9 _ (by rfl) (by decide +kernel) (by kernel_rfl) (by decide +kernel) (by decide +kernel) (by decide +kernel) ?_
   simp only [List.take_succ_cons, List.take_zero]
   refine sq4 hc0 b1 b2 b3 ?_
   (repeat (first | refine w1 (fun K hK => ?_) | refine w2 ?_ | refine w3 ?_ | ((first | refine w4 ?_ | refine w5 ?_ | refine w6 ?_ | refine w7 ?_); try refine sq4 hc0 b1 b2 b3 ?_) | (refine w8 ?_; refine sq4 hc0 b1 b2 b3 ?_; refine w9 ?_) | (refine rq4 hc0 b1 b2 b3 ?_; try refine sq4 hc0 b1 b2 b3 ?_) | (refine vq4 hc0 b1 b2 b3 ?_; try refine sq4 hc0 b1 b2 b3 ?_) | ((first | refine hK _ _ (w0 ?_) | (clear hK K; refine hK _ _ (w0 ?_)) | (clear hK K; clear hK K; refine hK _ _ (w0 ?_))); clear hK K)))
   skip
   rw [wpOperV_alloc]
   simp (disch := first | omega | (simp only [go_sem, ↓reduceIte, seval]; first | done | omega) | fail) only [go_sem, ↓reduceIte, seval, hc0, b1, b2, b3]
   try refine sq4 hc0 b1 b2 b3 ?_
   (repeat (first | refine w1 (fun K hK => ?_) | refine w2 ?_ | refine w3 ?_ | ((first | refine w4 ?_ | refine WP_draw 11 (by decide +kernel) ?_ | refine WP_draw 9 (by decide +kernel) ?_ | refine w5 ?_ | refine w6 ?_ | refine w7 ?_); try refine sq4 hc0 b1 b2 b3 ?_) | (refine w8 ?_; refine sq4 hc0 b1 b2 b3 ?_; refine w9 ?_) | (refine rq4 hc0 b1 b2 b3 ?_; try refine sq4 hc0 b1 b2 b3 ?_) | (refine vq4 hc0 b1 b2 b3 ?_; try refine sq4 hc0 b1 b2 b3 ?_) | ((first | refine hK _ _ (w0 ?_) | (clear hK K; refine hK _ _ (w0 ?_)) | (clear hK K; clear hK K; refine hK _ _ (w0 ?_))); clear hK K)))
   refine WP_loopm (by simp only [go_sem, List.nil_append, List.cons_append]; rfl) (fun nL tL hL => ∃ (i v : Nat) (x : Bs) (k : List Elem) (jj : Heap), ts.length - i = nL ∧ h ++ .row 26 4 0 [.agg [.str [], .nil (.slice none 0 0), .str [], .nil (.slice none 0 0)]] :: .row 26 4 0 [.agg [.str t.2.1, .sl 2 (t.2.2.1.map At.av), .str x, .hs (h.length + 2) v 0 k.length true]] :: .row 26 4 v (k.map Elem.av) :: jj = hL ∧ tL 4 = .hp h.length 0 0 0 ∧ tL 7 = .hp (h.length + 1) 0 0 0 ∧ tL 8 = .int .i64 i ∧ i ≤ ts.length ∧ elL (ts.length - i + 1) d t.2.1 t.2.2.1 x k (ts.drop i) = elF (d + 1) ts ∧ x.length + k.length + szs Tok.sz (ts.drop i) ≤ szs Tok.sz ts) ((fun (i v : Nat) (x : Bs) (k : List Elem) (jj : Heap) => (ts.length - i : Nat)) (1) (0) ([]) ([]) ([])) ?_ ?_
   ·refine ⟨_, _, Weak.virtCell (p := h.length + 1) (v := 0) 26 4 (by omega) (by simp (disch := first | omega | (simp only [go_sem, ↓reduceIte, seval]; first | done | omega) | fail) only [go_sem, ↓reduceIte, seval, hc0, b1, b2, b3]; rfl) 3 rfl, ⟨1, 0, [], [], [], rfl, (by simp), ?_, ?_, ?_, by omega, by rw [hel, htr]; simp, by rw [htr]; simp [szs]⟩⟩
    all_goals first | exact zq4 hc0 b1 b2 b3 | rfl | omega | trivial | skip
   rintro _ s2 h' ⟨i, v, x, k, jj, rfl, rfl, e4, e7, e8, hi, hp, hz⟩ K2 hK2
   simp only [mix_cons, mix_nil, Nat.reduceEqDiff, ↓reduceIte] at e4 e7 e8
   (repeat (first | refine w1 (fun K hK => ?_) | refine w2 ?_ | refine w3 ?_ | ((first | refine w4 ?_ | refine WP_draw 11 (by decide +kernel) ?_ | refine WP_draw 9 (by decide +kernel) ?_ | refine w5 ?_ | refine w6 ?_ | refine w7 ?_); try refine sq7 hc0 b1 b2 b3 e4 e7 e8 ?_) | (refine w8 ?_; refine sq7 hc0 b1 b2 b3 e4 e7 e8 ?_; refine w9 ?_) | (refine rq7 hc0 b1 b2 b3 e4 e7 e8 ?_; try refine sq7 hc0 b1 b2 b3 e4 e7 e8 ?_) | (refine vq7 hc0 b1 b2 b3 e4 e7 e8 ?_; try refine sq7 hc0 b1 b2 b3 e4 e7 e8 ?_) | ((first | refine hK _ _ (w0 ?_) | (clear hK K; refine hK _ _ (w0 ?_)) | (clear hK K; clear hK K; refine hK _ _ (w0 ?_))); clear hK K)))
   refine cq7 hc0 b1 b2 b3 e4 e7 e8 (fun c1 => ?_) (fun c1 => ?_) <;> (try exact c1.elim) <;>
    (repeat (first | refine w1 (fun K hK => ?_) | refine w2 ?_ | refine w3 ?_ | ((first | refine w4 ?_ | refine WP_draw 11 (by decide +kernel) ?_ | refine WP_draw 9 (by decide +kernel) ?_ | refine w5 ?_ | refine w6 ?_ | refine w7 ?_); try refine sq7 hc0 b1 b2 b3 e4 e7 e8 ?_) | (refine w8 ?_; refine sq7 hc0 b1 b2 b3 e4 e7 e8 ?_; refine w9 ?_) | (refine rq7 hc0 b1 b2 b3 e4 e7 e8 ?_; try refine sq7 hc0 b1 b2 b3 e4 e7 e8 ?_) | (refine vq7 hc0 b1 b2 b3 e4 e7 e8 ?_; try refine sq7 hc0 b1 b2 b3 e4 e7 e8 ?_) | ((first | refine hK _ _ (w0 ?_) | (clear hK K; refine hK _ _ (w0 ?_)) | (clear hK K; clear hK K; refine hK _ _ (w0 ?_))); clear hK K)))
   ·obtain ⟨y, hy, hym⟩ := getElem?_of_lt c1
    have hdr := drop_cons_of hy
    rw [hdr, elL_cons _ _ _ _ _ _ _ _ (by rw [List.length_drop]; omega)] at hp
    have ef : ts.length - (i + 1) + 1 = ts.length - i := by omega
    have hzk := hz
    rw [hdr] at hz
    simp only [szs] at hz
    have hys : Tok.sz y = 1 + y.2.1.length + szs At.sz y.2.2.1 + y.2.2.2.length := rfl
    skip
    by_cases k3 : y.1 = 3
    ·have q3 : (y.1 == 3) = true := by simpa using k3
     rw [if_pos k3] at hp
     skip
     try refine sq9 hc0 b1 b2 b3 e4 e7 e8 hy q3 ?_
     (repeat (first | refine w1 (fun K hK => ?_) | refine w2 ?_ | refine w3 ?_ | ((first | refine w4 ?_ | refine WP_draw 11 (by decide +kernel) ?_ | refine WP_draw 9 (by decide +kernel) ?_ | refine w5 ?_ | refine w6 ?_ | refine w7 ?_); try refine sq9 hc0 b1 b2 b3 e4 e7 e8 hy q3 ?_) | (refine w8 ?_; refine sq9 hc0 b1 b2 b3 e4 e7 e8 hy q3 ?_; refine w9 ?_) | (refine rq9 hc0 b1 b2 b3 e4 e7 e8 hy q3 ?_; try refine sq9 hc0 b1 b2 b3 e4 e7 e8 hy q3 ?_) | (refine vq9 hc0 b1 b2 b3 e4 e7 e8 hy q3 ?_; try refine sq9 hc0 b1 b2 b3 e4 e7 e8 hy q3 ?_) | ((first | refine hK _ _ (w0 ?_) | (clear hK K; refine hK _ _ (w0 ?_)) | (clear hK K; clear hK K; refine hK _ _ (w0 ?_))); clear hK K)))
     refine hK2 _ _ _ (Wkn.refl ⟨i + 1, v, x ++ y.2.2.2, k, jj, rfl, by simp, ?_, ?_, ?_, by omega, by rw [ef]; exact hp, by simp; omega⟩) (by omega)
     all_goals first | exact zq9 hc0 b1 b2 b3 e4 e7 e8 hy q3 | rfl | omega | trivial | skip
    ·have q3 : (y.1 == 3) = false := by simpa using k3
     rw [if_neg k3] at hp
     by_cases k1 : y.1 = 1
     ·have q1 : (y.1 == 1) = true := by simpa using k1
      rw [if_pos k1] at hp
      have hsl : ∀ j, aslice Tryz.prog j 42 (.sl 4 (ts.map Tok.av)) (some (.int .i64 (i : Int))) none none = some (.sl 4 ((ts.drop i).map Tok.av)) := fun j => by
       rw [List.map_drop]; exact aslice_slF (by simp only [go_sem]; rfl) (by simp only [go_sem]) (by simp; omega)
      rw [← hdr] at hp
      skip
      try refine sq11 hc0 b1 b2 b3 e4 e7 e8 hy q3 q1 hsl ?_
      (repeat (first | refine w1 (fun K hK => ?_) | refine w2 ?_ | refine w3 ?_ | ((first | refine w4 ?_ | refine WP_draw 11 (by decide +kernel) ?_ | refine WP_draw 9 (by decide +kernel) ?_ | refine w5 ?_ | refine w6 ?_ | refine w7 ?_); try refine sq11 hc0 b1 b2 b3 e4 e7 e8 hy q3 q1 hsl ?_) | (refine w8 ?_; refine sq11 hc0 b1 b2 b3 e4 e7 e8 hy q3 q1 hsl ?_; refine w9 ?_) | (refine rq11 hc0 b1 b2 b3 e4 e7 e8 hy q3 q1 hsl ?_; try refine sq11 hc0 b1 b2 b3 e4 e7 e8 hy q3 q1 hsl ?_) | (refine vq11 hc0 b1 b2 b3 e4 e7 e8 hy q3 q1 hsl ?_; try refine sq11 hc0 b1 b2 b3 e4 e7 e8 hy q3 q1 hsl ?_) | ((first | refine hK _ _ (w0 ?_) | (clear hK K; refine hK _ _ (w0 ?_)) | (clear hK K; clear hK K; refine hK _ _ (w0 ?_))); clear hK K)))
      refine (ih (ts.drop i) (dep + 1) (by omega) (by omega) (by omega) _).mono ?_
      rintro r h' ⟨e, n, rfl, hg, _, rfl⟩
      simp (disch := first | omega | (simp only [go_sem, ↓reduceIte, seval]; first | done | omega) | fail) only [go_sem, ↓reduceIte, seval, hc0, b1, b2, b3, e4, e7, e8, hy, q3, q1, hsl]
      (repeat (first | refine w1 (fun K hK => ?_) | refine w2 ?_ | refine w3 ?_ | ((first | refine w4 ?_ | refine WP_draw 11 (by decide +kernel) ?_ | refine WP_draw 9 (by decide +kernel) ?_ | refine w5 ?_ | refine w6 ?_ | refine w7 ?_); try refine sq11 hc0 b1 b2 b3 e4 e7 e8 hy q3 q1 hsl ?_) | (refine w8 ?_; refine sq11 hc0 b1 b2 b3 e4 e7 e8 hy q3 q1 hsl ?_; refine w9 ?_) | (refine rq11 hc0 b1 b2 b3 e4 e7 e8 hy q3 q1 hsl ?_; try refine sq11 hc0 b1 b2 b3 e4 e7 e8 hy q3 q1 hsl ?_) | (refine vq11 hc0 b1 b2 b3 e4 e7 e8 hy q3 q1 hsl ?_; try refine sq11 hc0 b1 b2 b3 e4 e7 e8 hy q3 q1 hsl ?_) | ((first | refine hK _ _ (w0 ?_) | (clear hK K; refine hK _ _ (w0 ?_)) | (clear hK K; clear hK K; refine hK _ _ (w0 ?_))); clear hK K)))
      cases hq : elF d (ts.drop i) with
      | none =>
       rw [hq] at hp
       have hno : (none : Option (Elem × List Tok)).isSome = false := rfl
       skip
       try refine sq12 hc0 b1 b2 b3 e4 e7 e8 hy q3 q1 hsl hno ?_
       (repeat (first | refine w1 (fun K hK => ?_) | refine w2 ?_ | refine w3 ?_ | ((first | refine w4 ?_ | refine WP_draw 11 (by decide +kernel) ?_ | refine WP_draw 9 (by decide +kernel) ?_ | refine w5 ?_ | refine w6 ?_ | refine w7 ?_); try refine sq12 hc0 b1 b2 b3 e4 e7 e8 hy q3 q1 hsl hno ?_) | (refine w8 ?_; refine sq12 hc0 b1 b2 b3 e4 e7 e8 hy q3 q1 hsl hno ?_; refine w9 ?_) | (refine rq12 hc0 b1 b2 b3 e4 e7 e8 hy q3 q1 hsl hno ?_; try refine sq12 hc0 b1 b2 b3 e4 e7 e8 hy q3 q1 hsl hno ?_) | (refine vq12 hc0 b1 b2 b3 e4 e7 e8 hy q3 q1 hsl hno ?_; try refine sq12 hc0 b1 b2 b3 e4 e7 e8 hy q3 q1 hsl hno ?_) | ((first | refine hK _ _ (w0 ?_) | (clear hK K; refine hK _ _ (w0 ?_)) | (clear hK K; clear hK K; refine hK _ _ (w0 ?_))); clear hK K)))
       first | refine (hQ _ _ ?_).1 | refine (hQ _ _ ?_).2
       simp (disch := first | omega | (simp only [go_sem, ↓reduceIte, seval]; first | done | omega) | fail) only [go_sem, ↓reduceIte, seval, hc0, b1, b2, b3, e4, e7, e8, hy, q3, q1, hsl, hno, resA, resL, resA1]
       exact ElR.bad _ hp.symm
      | some q =>
       obtain ⟨rfl, rfl⟩ := hg q hq
       rw [hq] at hp
       have hsf := elF_suf hq
       have hm : ∃ m, m = (ts.drop i).length - q.2.length := ⟨_, rfl⟩
       obtain ⟨m, hm⟩ := hm
       rw [← hm] at hsf ⊢
       have hdl : (ts.drop i).length = ts.length - i := List.length_drop
       have hm1 : 1 ≤ m := by omega
       have hsd := szs_drop Tok.sz Tok.sz_pos (ts.drop i) m (by omega)
       have hq2 : q.2 = ts.drop (i + m) := by rw [hsf.2, List.drop_drop]
       rw [List.drop_drop] at hsd
       simp only [Option.bind_some] at hp
       rw [hq2, elL_fuel _ (ts.length - (i + m) + 1) _ _ _ _ _ _ (by rw [List.length_drop]; omega) (by rw [List.length_drop]; omega)] at hp
       try refine sq11 hc0 b1 b2 b3 e4 e7 e8 hy q3 q1 hsl ?_
       (repeat (first | refine w1 (fun K hK => ?_) | refine w2 ?_ | refine w3 ?_ | ((first | refine w4 ?_ | refine WP_draw 11 (by decide +kernel) ?_ | refine WP_draw 9 (by decide +kernel) ?_ | refine w5 ?_ | refine w6 ?_ | refine w7 ?_); try refine sq11 hc0 b1 b2 b3 e4 e7 e8 hy q3 q1 hsl ?_) | (refine w8 ?_; refine sq11 hc0 b1 b2 b3 e4 e7 e8 hy q3 q1 hsl ?_; refine w9 ?_) | (refine rq11 hc0 b1 b2 b3 e4 e7 e8 hy q3 q1 hsl ?_; try refine sq11 hc0 b1 b2 b3 e4 e7 e8 hy q3 q1 hsl ?_) | (refine vq11 hc0 b1 b2 b3 e4 e7 e8 hy q3 q1 hsl ?_; try refine sq11 hc0 b1 b2 b3 e4 e7 e8 hy q3 q1 hsl ?_) | ((first | refine hK _ _ (w0 ?_) | (clear hK K; refine hK _ _ (w0 ?_)) | (clear hK K; clear hK K; refine hK _ _ (w0 ?_))); clear hK K)))
       refine aq11 hc0 b1 b2 b3 e4 e7 e8 hy q3 q1 hsl ?_
       try refine sq11 hc0 b1 b2 b3 e4 e7 e8 hy q3 q1 hsl ?_
       (repeat (first | refine w1 (fun K hK => ?_) | refine w2 ?_ | refine w3 ?_ | ((first | refine w4 ?_ | refine WP_draw 11 (by decide +kernel) ?_ | refine WP_draw 9 (by decide +kernel) ?_ | refine w5 ?_ | refine w6 ?_ | refine w7 ?_); try refine sq11 hc0 b1 b2 b3 e4 e7 e8 hy q3 q1 hsl ?_) | (refine w8 ?_; refine sq11 hc0 b1 b2 b3 e4 e7 e8 hy q3 q1 hsl ?_; refine w9 ?_) | (refine rq11 hc0 b1 b2 b3 e4 e7 e8 hy q3 q1 hsl ?_; try refine sq11 hc0 b1 b2 b3 e4 e7 e8 hy q3 q1 hsl ?_) | (refine vq11 hc0 b1 b2 b3 e4 e7 e8 hy q3 q1 hsl ?_; try refine sq11 hc0 b1 b2 b3 e4 e7 e8 hy q3 q1 hsl ?_) | ((first | refine hK _ _ (w0 ?_) | (clear hK K; refine hK _ _ (w0 ?_)) | (clear hK K; clear hK K; refine hK _ _ (w0 ?_))); clear hK K)))
       have him : (i : Int) + (m : Int) = ((i + m : Nat) : Int) := by omega
       rw [him]
       refine hK2 _ _ _ (Wkn.refl ⟨i + m, v + 1, x, k ++ [q.1], jj ++ [.row 26 4 0 [q.1.av]], rfl, by simp, ?_, ?_, ?_, by omega, hp, by simp; omega⟩) (by omega)
       all_goals first | exact zq11 hc0 b1 b2 b3 e4 e7 e8 hy q3 q1 hsl | rfl | omega | trivial | skip
     ·have q1 : (y.1 == 1) = false := by simpa using k1
      rw [if_neg k1] at hp
      by_cases k2 : y.1 = 2
      ·have q2 : (y.1 == 2) = true := by simpa using k2
       rw [if_pos k2] at hp
       skip
       try refine sq11 hc0 b1 b2 b3 e4 e7 e8 hy q3 q1 q2 ?_
       (repeat (first | refine w1 (fun K hK => ?_) | refine w2 ?_ | refine w3 ?_ | ((first | refine w4 ?_ | refine WP_draw 11 (by decide +kernel) ?_ | refine WP_draw 9 (by decide +kernel) ?_ | refine w5 ?_ | refine w6 ?_ | refine w7 ?_); try refine sq11 hc0 b1 b2 b3 e4 e7 e8 hy q3 q1 q2 ?_) | (refine w8 ?_; refine sq11 hc0 b1 b2 b3 e4 e7 e8 hy q3 q1 q2 ?_; refine w9 ?_) | (refine rq11 hc0 b1 b2 b3 e4 e7 e8 hy q3 q1 q2 ?_; try refine sq11 hc0 b1 b2 b3 e4 e7 e8 hy q3 q1 q2 ?_) | (refine vq11 hc0 b1 b2 b3 e4 e7 e8 hy q3 q1 q2 ?_; try refine sq11 hc0 b1 b2 b3 e4 e7 e8 hy q3 q1 q2 ?_) | ((first | refine hK _ _ (w0 ?_) | (clear hK K; refine hK _ _ (w0 ?_)) | (clear hK K; clear hK K; refine hK _ _ (w0 ?_))); clear hK K)))
       refine WP_draw7 11 _ (by rfl) rfl (by decide +kernel) (mix_y G) ?_
       simp only [List.set_cons_succ, List.set_cons_zero, nopO]
       refine sq11 hc0 b1 b2 b3 e4 e7 e8 hy q3 q1 q2 ?_
       (repeat (first | refine w1 (fun K hK => ?_) | refine w2 ?_ | refine w3 ?_ | ((first | refine w4 ?_ | refine WP_draw 11 (by decide +kernel) ?_ | refine WP_draw 9 (by decide +kernel) ?_ | refine w5 ?_ | refine w6 ?_ | refine w7 ?_); try refine sq11 hc0 b1 b2 b3 e4 e7 e8 hy q3 q1 q2 ?_) | (refine w8 ?_; refine sq11 hc0 b1 b2 b3 e4 e7 e8 hy q3 q1 q2 ?_; refine w9 ?_) | (refine rq11 hc0 b1 b2 b3 e4 e7 e8 hy q3 q1 q2 ?_; try refine sq11 hc0 b1 b2 b3 e4 e7 e8 hy q3 q1 q2 ?_) | (refine vq11 hc0 b1 b2 b3 e4 e7 e8 hy q3 q1 q2 ?_; try refine sq11 hc0 b1 b2 b3 e4 e7 e8 hy q3 q1 q2 ?_) | ((first | refine hK _ _ (w0 ?_) | (clear hK K; refine hK _ _ (w0 ?_)) | (clear hK K; clear hK K; refine hK _ _ (w0 ?_))); clear hK K)))
       rw [wpOperV_store]
       simp (disch := first | omega | (simp only [go_sem, ↓reduceIte, seval]; first | done | omega) | fail) only [go_sem, ↓reduceIte, seval, hc0, b1, b2, b3, e4, e7, e8, hy, q3, q1, q2]
       (repeat (first | refine w1 (fun K hK => ?_) | refine w2 ?_ | refine w3 ?_ | ((first | refine w4 ?_ | refine WP_draw 11 (by decide +kernel) ?_ | refine WP_draw 9 (by decide +kernel) ?_ | refine w5 ?_ | refine w6 ?_ | refine w7 ?_); try refine sq11 hc0 b1 b2 b3 e4 e7 e8 hy q3 q1 q2 ?_) | (refine w8 ?_; refine sq11 hc0 b1 b2 b3 e4 e7 e8 hy q3 q1 q2 ?_; refine w9 ?_) | (refine rq11 hc0 b1 b2 b3 e4 e7 e8 hy q3 q1 q2 ?_; try refine sq11 hc0 b1 b2 b3 e4 e7 e8 hy q3 q1 q2 ?_) | (refine vq11 hc0 b1 b2 b3 e4 e7 e8 hy q3 q1 q2 ?_; try refine sq11 hc0 b1 b2 b3 e4 e7 e8 hy q3 q1 q2 ?_) | ((first | refine hK _ _ (w0 ?_) | (clear hK K; refine hK _ _ (w0 ?_)) | (clear hK K; clear hK K; refine hK _ _ (w0 ?_))); clear hK K)))
       first | refine (hQ _ _ ?_).1 | refine (hQ _ _ ?_).2
       simp (disch := first | omega | (simp only [go_sem, ↓reduceIte, seval]; first | done | omega) | fail) only [go_sem, ↓reduceIte, seval, hc0, b1, b2, b3, e4, e7, e8, hy, q3, q1, q2, resA, resL, resA1]
       have z : ∀ hh : Heap, getRow hh (h.length + 2) v = some (26, 4, k.map Elem.av) → Frz hh h.length (.agg [.str t.2.1, .sl 2 (t.2.2.1.map At.av), .str x, .hs (h.length + 2) v 0 k.length true]) (Elem.av ⟨t.2.1, t.2.2.1, x, k⟩) := fun hh hg => by
        rw [Elem.av_eq]
        exact FrzL.agg (.cons (.clo _ (.str _)) (.cons (.clo _ (Ats.clo _ 2 _)) (.cons (.clo _ (.str _)) (.cons (Frz.data (by omega) hg (by simp [Elem.kids]) (fun r hr => by obtain ⟨a, _, rfl⟩ := List.mem_map.1 hr; exact Elem.clo _ a) (fun r hr => by obtain ⟨a, _, rfl⟩ := List.mem_map.1 hr; exact a.av_sto)) .nil)))) rfl
       refine Fin.frz (FrzL.tup (.cons (z _ ?_) (.cons (.clo _ (.int _ _)) (.cons (.clo _ (.bool _)) .nil)))) ⟨⟨t.2.1, t.2.2.1, x, k⟩, (i + 1 : Nat), ?_, ?_, ⟨by omega, by omega⟩, rfl⟩
       ·exact zq11 hc0 b1 b2 b3 e4 e7 e8 hy q3 q1 q2
       ·rw [← hp]
        by_cases hnm : y.2.1 = t.2.1
        ·rw [if_pos hnm]; simp [hnm]
        ·rw [if_neg hnm]; simp [hnm]
       ·intro q hq
        rw [← hp] at hq
        by_cases hnm : y.2.1 = t.2.1
        ·rw [if_pos hnm] at hq; cases hq
         exact ⟨rfl, by rw [List.length_drop]; omega⟩
        ·rw [if_neg hnm] at hq; cases hq
      ·have q2 : (y.1 == 2) = false := by simpa using k2
       rw [if_neg k2] at hp
       skip
       try refine sq11 hc0 b1 b2 b3 e4 e7 e8 hy q3 q1 q2 ?_
       (repeat (first | refine w1 (fun K hK => ?_) | refine w2 ?_ | refine w3 ?_ | ((first | refine w4 ?_ | refine WP_draw 11 (by decide +kernel) ?_ | refine WP_draw 9 (by decide +kernel) ?_ | refine w5 ?_ | refine w6 ?_ | refine w7 ?_); try refine sq11 hc0 b1 b2 b3 e4 e7 e8 hy q3 q1 q2 ?_) | (refine w8 ?_; refine sq11 hc0 b1 b2 b3 e4 e7 e8 hy q3 q1 q2 ?_; refine w9 ?_) | (refine rq11 hc0 b1 b2 b3 e4 e7 e8 hy q3 q1 q2 ?_; try refine sq11 hc0 b1 b2 b3 e4 e7 e8 hy q3 q1 q2 ?_) | (refine vq11 hc0 b1 b2 b3 e4 e7 e8 hy q3 q1 q2 ?_; try refine sq11 hc0 b1 b2 b3 e4 e7 e8 hy q3 q1 q2 ?_) | ((first | refine hK _ _ (w0 ?_) | (clear hK K; refine hK _ _ (w0 ?_)) | (clear hK K; clear hK K; refine hK _ _ (w0 ?_))); clear hK K)))
       first | refine (hQ _ _ ?_).1 | refine (hQ _ _ ?_).2
       simp (disch := first | omega | (simp only [go_sem, ↓reduceIte, seval]; first | done | omega) | fail) only [go_sem, ↓reduceIte, seval, hc0, b1, b2, b3, e4, e7, e8, hy, q3, q1, q2, resA, resL, resA1]
       exact ElR.bad _ hp.symm
   ·have : ts.drop i = [] := drop_nil_of c1
    rw [this, elL_nil] at hp
    (repeat (first | refine w1 (fun K hK => ?_) | refine w2 ?_ | refine w3 ?_ | ((first | refine w4 ?_ | refine WP_draw 11 (by decide +kernel) ?_ | refine WP_draw 9 (by decide +kernel) ?_ | refine w5 ?_ | refine w6 ?_ | refine w7 ?_); try refine sq7 hc0 b1 b2 b3 e4 e7 e8 ?_) | (refine w8 ?_; refine sq7 hc0 b1 b2 b3 e4 e7 e8 ?_; refine w9 ?_) | (refine rq7 hc0 b1 b2 b3 e4 e7 e8 ?_; try refine sq7 hc0 b1 b2 b3 e4 e7 e8 ?_) | (refine vq7 hc0 b1 b2 b3 e4 e7 e8 ?_; try refine sq7 hc0 b1 b2 b3 e4 e7 e8 ?_) | ((first | refine hK _ _ (w0 ?_) | (clear hK K; refine hK _ _ (w0 ?_)) | (clear hK K; clear hK K; refine hK _ _ (w0 ?_))); clear hK K)))
    first | refine (hQ _ _ ?_).1 | refine (hQ _ _ ?_).2
    simp (disch := first | omega | (simp only [go_sem, ↓reduceIte, seval]; first | done | omega) | fail) only [go_sem, ↓reduceIte, seval, hc0, b1, b2, b3, e4, e7, e8, resA, resL, resA1]
    exact ElR.bad _ hp.symm
  ·have b2 : (t.1 != 1) = true := by simpa using hk
   have he : elF (d + 1) ts = none := by rw [htr, elF_cons, if_neg hk]
   skip
   refine Sat.body [.cell 4 26, .tmp 5, .tmp 6] (fn := Tryz.f83) Tryz.func83 rfl rfl (by kernel_rfl) (by kernel_rfl) (by kernel_rfl) rfl ?_
   intro Q hQ
   (repeat (first | refine w1 (fun K hK => ?_) | refine w2 ?_ | refine w3 ?_ | ((first | refine w4 ?_ | refine WP_draw 11 (by decide +kernel) ?_ | refine WP_draw 9 (by decide +kernel) ?_ | refine w5 ?_ | refine w6 ?_ | refine w7 ?_); try refine sq3 hc0 b1 b2 ?_) | (refine w8 ?_; refine sq3 hc0 b1 b2 ?_; refine w9 ?_) | (refine rq3 hc0 b1 b2 ?_; try refine sq3 hc0 b1 b2 ?_) | (refine vq3 hc0 b1 b2 ?_; try refine sq3 hc0 b1 b2 ?_) | ((first | refine hK _ _ (w0 ?_) | (clear hK K; refine hK _ _ (w0 ?_)) | (clear hK K; clear hK K; refine hK _ _ (w0 ?_))); clear hK K)))
   try refine sq3 hc0 b1 b2 ?_
   (repeat (first | refine w1 (fun K hK => ?_) | refine w2 ?_ | refine w3 ?_ | ((first | refine w4 ?_ | refine WP_draw 11 (by decide +kernel) ?_ | refine WP_draw 9 (by decide +kernel) ?_ | refine w5 ?_ | refine w6 ?_ | refine w7 ?_); try refine sq3 hc0 b1 b2 ?_) | (refine w8 ?_; refine sq3 hc0 b1 b2 ?_; refine w9 ?_) | (refine rq3 hc0 b1 b2 ?_; try refine sq3 hc0 b1 b2 ?_) | (refine vq3 hc0 b1 b2 ?_; try refine sq3 hc0 b1 b2 ?_) | ((first | refine hK _ _ (w0 ?_) | (clear hK K; refine hK _ _ (w0 ?_)) | (clear hK K; clear hK K; refine hK _ _ (w0 ?_))); clear hK K)))
   first | refine (hQ _ _ ?_).1 | refine (hQ _ _ ?_).2
   simp (disch := first | omega | (simp only [go_sem, ↓reduceIte, seval]; first | done | omega) | fail) only [go_sem, ↓reduceIte, seval, hc0, b1, b2, resA, resL, resA1]
   exact ElR.bad _ he
end Go.Av
namespace Go.Av
open Go Go.Proofs Go.RowKit
attribute [local irreducible] WP WPl WPix Sat
set_option maxRecDepth 100000
set_option maxHeartbeats 1000000
variable {G : Nat → Option (List AVal)}
def bldF (ts : List Tok) : Option Elem := (elF 32 (ts.dropWhile blankT)).bind fun q => if q.2.dropWhile blankT = [] then some q.1 else none
def BldR (h : Heap) (ts : List Tok) (r : AVal) (h' : Heap) : Prop :=
 ∃ e : Elem, r = .tup [e.av, .bool (bldF ts).isSome] ∧ (∀ x, bldF ts = some x → e = x) ∧ h' = h
theorem BldR.bad {h : Heap} {ts : List Tok} (j : Heap) (e : bldF ts = none) : Fin h (h ++ j) (BldR h ts) (.tup [.agg [.str [], .nil (.slice none 0 0), .str [], .nil (.slice none 0 0)], .bool false]) := by
 have z : Frz (h ++ j) h.length (.agg [.str [], .nil (.slice none 0 0), .str [], .nil (.slice none 0 0)]) (Elem.av ⟨[], [], [], []⟩) := by
  rw [Elem.av_eq]
  exact FrzL.agg (.cons (.clo _ (.str _)) (.cons (.nils 2) (.cons (.clo _ (.str _)) (.cons (.nils 4) .nil)))) rfl
 exact Fin.frz (FrzL.tup (.cons z (.cons (.clo _ (.bool _)) .nil))) ⟨_, by rw [e]; rfl, (fun q hq => by rw [e] at hq; cases hq), rfl⟩
theorem rBuild_sat (ts : List Tok) (hsz : szs Tok.sz ts ≤ 1048576) (h : Heap) : Sat (CT G) 47 [.sl 4 (ts.map Tok.av)] h (BldR h ts) := by
 have hlen := szs_len Tok.sz Tok.sz_pos ts
 refine Sat.body [.cell 2 26, .tmp 3] (fn := Tryz.f47) Tryz.func47 rfl rfl (by kernel_rfl) (by kernel_rfl) (by kernel_rfl) rfl ?_
 intro Q hQ
 (repeat (first | refine w1 (fun K hK => ?_) | refine w2 ?_ | refine w3 ?_ | ((first | refine w4 ?_ | refine w5 ?_ | refine w6 ?_ | refine w7 ?_); try refine sq0 ?_) | (refine w8 ?_; refine sq0 ?_; refine w9 ?_) | ((first | refine hK _ _ (w0 ?_) | (clear hK K; refine hK _ _ (w0 ?_)) | (clear hK K; clear hK K; refine hK _ _ (w0 ?_))); clear hK K)))
 refine WP_loopm (by simp only [go_sem, List.nil_append, List.cons_append]; rfl) (fun nL tL hL => ∃ (i : Nat), ts.length - i = nL ∧ h ++ [.row 26 4 0 [.agg [.str [], .nil (.slice none 0 0), .str [], .nil (.slice none 0 0)]]] = hL ∧ tL 2 = .hp h.length 0 0 0 ∧ tL 4 = .int .i64 i ∧ i ≤ ts.length ∧ (ts.drop i).dropWhile blankT = ts.dropWhile blankT) ((fun (i : Nat) => (ts.length - i : Nat)) (0)) ?_ ?_
 ·refine Wkn.refl ⟨0, rfl, (by first | rfl | (simp; done) | (simp; rfl)), ?_, ?_, by omega, by simp⟩
  all_goals first | exact zq0 | rfl | omega | trivial | skip
 rintro _ s2 h' ⟨i, rfl, rfl, e2, e4, hi, hq⟩ K2 hK2
 simp only [mix_cons, mix_nil, Nat.reduceEqDiff, ↓reduceIte] at e2 e4
 (repeat (first | refine w1 (fun K hK => ?_) | refine w2 ?_ | refine w3 ?_ | ((first | refine w4 ?_ | refine w5 ?_ | refine w6 ?_ | refine w7 ?_); try refine sq2 e2 e4 ?_) | (refine w8 ?_; refine sq2 e2 e4 ?_; refine w9 ?_) | ((first | refine hK _ _ (w0 ?_) | (clear hK K; refine hK _ _ (w0 ?_)) | (clear hK K; clear hK K; refine hK _ _ (w0 ?_))); clear hK K)))
 by_cases c1 : i < ts.length
 ·obtain ⟨y, hy, hym⟩ := getElem?_of_lt c1
  have b1 : decide (i < ts.length) = true := by simpa using c1
  have hdr := drop_cons_of hy
  have hyl := szs_txt hym
  skip
  try refine sq4 e2 e4 hy b1 ?_
  (repeat (first | refine w1 (fun K hK => ?_) | refine w2 ?_ | refine w3 ?_ | ((first | refine w4 ?_ | refine w5 ?_ | refine w6 ?_ | refine w7 ?_); try refine sq4 e2 e4 hy b1 ?_) | (refine w8 ?_; refine sq4 e2 e4 hy b1 ?_; refine w9 ?_) | ((first | refine hK _ _ (w0 ?_) | (clear hK K; refine hK _ _ (w0 ?_)) | (clear hK K; clear hK K; refine hK _ _ (w0 ?_))); clear hK K)))
  cases hb : blankT y with
  | true =>
   rw [hdr, List.dropWhile_cons, if_pos hb] at hq
   refine (rblankT_sat y (by omega) _).mono ?_
   rintro r h' ⟨rfl, rfl⟩
   rw [hb]
   try simp (disch := first | omega | (simp only [go_sem, ↓reduceIte, seval]; first | done | omega) | fail) only [go_sem, ↓reduceIte, seval, e2, e4, hy, b1]
   (repeat (first | refine w1 (fun K hK => ?_) | refine w2 ?_ | refine w3 ?_ | ((first | refine w4 ?_ | refine w5 ?_ | refine w6 ?_ | refine w7 ?_); try refine sq4 e2 e4 hy b1 ?_) | (refine w8 ?_; refine sq4 e2 e4 hy b1 ?_; refine w9 ?_) | ((first | refine hK _ _ (w0 ?_) | (clear hK K; refine hK _ _ (w0 ?_)) | (clear hK K; clear hK K; refine hK _ _ (w0 ?_))); clear hK K)))
   refine hK2 _ _ _ (Wkn.refl ⟨i + 1, rfl, (by first | rfl | (simp; done) | (simp; rfl)), ?_, ?_, by omega, hq⟩) (by omega)
   all_goals first | exact zq4 e2 e4 hy b1 | rfl | omega | trivial | skip
  | false =>
   have hq' : ts.dropWhile blankT = ts.drop i := by rw [← hq, hdr, List.dropWhile_cons, if_neg (by simp [hb])]
   refine (rblankT_sat y (by omega) _).mono ?_
   rintro r h' ⟨rfl, rfl⟩
   rw [hb]
   try simp (disch := first | omega | (simp only [go_sem, ↓reduceIte, seval]; first | done | omega) | fail) only [go_sem, ↓reduceIte, seval, e2, e4, hy, b1]
   (repeat (first | refine w1 (fun K hK => ?_) | refine w2 ?_ | refine w3 ?_ | ((first | refine w4 ?_ | refine w5 ?_ | refine w6 ?_ | refine w7 ?_); try refine sq4 e2 e4 hy b1 ?_) | (refine w8 ?_; refine sq4 e2 e4 hy b1 ?_; refine w9 ?_) | ((first | refine hK _ _ (w0 ?_) | (clear hK K; refine hK _ _ (w0 ?_)) | (clear hK K; clear hK K; refine hK _ _ (w0 ?_))); clear hK K)))
   have hsl : ∀ j, aslice Tryz.prog j 42 (.sl 4 (ts.map Tok.av)) (some (.int .i64 (i : Int))) none none = some (.sl 4 ((ts.drop i).map Tok.av)) := fun j => by
    rw [List.map_drop]; exact aslice_slF (by simp only [go_sem]; rfl) (by simp only [go_sem]) (by simp; omega)
   have hsd := szs_drop Tok.sz Tok.sz_pos ts i hi
   skip
   try refine sq5 e2 e4 hy b1 hsl ?_
   (repeat (first | refine w1 (fun K hK => ?_) | refine w2 ?_ | refine w3 ?_ | ((first | refine w4 ?_ | refine w5 ?_ | refine w6 ?_ | refine w7 ?_); try refine sq5 e2 e4 hy b1 hsl ?_) | (refine w8 ?_; refine sq5 e2 e4 hy b1 hsl ?_; refine w9 ?_) | ((first | refine hK _ _ (w0 ?_) | (clear hK K; refine hK _ _ (w0 ?_)) | (clear hK K; clear hK K; refine hK _ _ (w0 ?_))); clear hK K)))
   refine (relem_sat 32 (ts.drop i) 1 (by omega) (by omega) (by omega) _).mono ?_
   rintro r h' ⟨e, n, rfl, hg, hn, rfl⟩
   try simp (disch := first | omega | (simp only [go_sem, ↓reduceIte, seval]; first | done | omega) | fail) only [go_sem, ↓reduceIte, seval, e2, e4, hy, b1, hsl]
   (repeat (first | refine w1 (fun K hK => ?_) | refine w2 ?_ | refine w3 ?_ | ((first | refine w4 ?_ | refine w5 ?_ | refine w6 ?_ | refine w7 ?_); try refine sq5 e2 e4 hy b1 hsl ?_) | (refine w8 ?_; refine sq5 e2 e4 hy b1 hsl ?_; refine w9 ?_) | ((first | refine hK _ _ (w0 ?_) | (clear hK K; refine hK _ _ (w0 ?_)) | (clear hK K; clear hK K; refine hK _ _ (w0 ?_))); clear hK K)))
   have hlen2 : (ts.drop i).length = ts.length - i := List.length_drop
   obtain ⟨n, rfl⟩ : ∃ m : Nat, n = m := ⟨n.toNat, by omega⟩
   have hin : i + n ≤ ts.length := by omega
   have him : (i : Int) + (n : Int) = ((i + n : Nat) : Int) := by omega
   rw [him]
   refine WP_loopm (by simp only [go_sem, List.nil_append, List.cons_append]; rfl) (fun nL tL hL => ∃ (j : Nat), ts.length - j = nL ∧ h ++ [.row 26 4 0 [.agg [.str [], .nil (.slice none 0 0), .str [], .nil (.slice none 0 0)]], .row 26 4 0 [e.av]] = hL ∧ tL 4 = .int .i64 j ∧ j ≤ ts.length ∧ (ts.drop j).dropWhile blankT = (ts.drop (i + n)).dropWhile blankT) ((fun (j : Nat) => (ts.length - j : Nat)) ((i + n))) ?_ ?_
   ·refine Wkn.refl ⟨(i + n), rfl, (by first | rfl | (simp; done) | (simp; rfl)), ?_, by omega, rfl⟩
    all_goals first | exact zq5 e2 e4 hy b1 hsl | rfl | omega | trivial | skip
   rintro _ s3 h' ⟨j, rfl, rfl, e4, hj, hq2⟩ K3 hK3
   simp only [mix_cons, mix_nil, Nat.reduceEqDiff, ↓reduceIte] at e4
   (repeat (first | refine w1 (fun K hK => ?_) | refine w2 ?_ | refine w3 ?_ | ((first | refine w4 ?_ | refine w5 ?_ | refine w6 ?_ | refine w7 ?_); try refine sq6 e2 e4 hy b1 hsl e4 ?_) | (refine w8 ?_; refine sq6 e2 e4 hy b1 hsl e4 ?_; refine w9 ?_) | ((first | refine hK _ _ (w0 ?_) | (clear hK K; refine hK _ _ (w0 ?_)) | (clear hK K; clear hK K; refine hK _ _ (w0 ?_))); clear hK K)))
   have hbl : ∀ q, elF 32 (ts.drop i) = some q → q.2 = ts.drop (i + n) ∧ e = q.1 := fun q hqq => by
    obtain ⟨g1, g2⟩ := hg q hqq
    have g3 := elF_suf hqq
    refine ⟨?_, g1⟩
    have e9 : i + ((ts.drop i).length - q.2.length) = i + n := by omega
    rw [g3.2, List.drop_drop, e9]
   by_cases d1 : j < ts.length
   ·obtain ⟨y2, hy2, hym2⟩ := getElem?_of_lt d1
    have b2 : decide (j < ts.length) = true := by simpa using d1
    have hdr2 := drop_cons_of hy2
    have hyl2 := szs_txt hym2
    skip
    try refine sq8 e2 e4 hy b1 hsl e4 hy2 b2 ?_
    (repeat (first | refine w1 (fun K hK => ?_) | refine w2 ?_ | refine w3 ?_ | ((first | refine w4 ?_ | refine w5 ?_ | refine w6 ?_ | refine w7 ?_); try refine sq8 e2 e4 hy b1 hsl e4 hy2 b2 ?_) | (refine w8 ?_; refine sq8 e2 e4 hy b1 hsl e4 hy2 b2 ?_; refine w9 ?_) | ((first | refine hK _ _ (w0 ?_) | (clear hK K; refine hK _ _ (w0 ?_)) | (clear hK K; clear hK K; refine hK _ _ (w0 ?_))); clear hK K)))
    cases hb2 : blankT y2 with
    | true =>
     rw [hdr2, List.dropWhile_cons, if_pos hb2] at hq2
     refine (rblankT_sat y2 (by omega) _).mono ?_
     rintro r h' ⟨rfl, rfl⟩
     rw [hb2]
     try simp (disch := first | omega | (simp only [go_sem, ↓reduceIte, seval]; first | done | omega) | fail) only [go_sem, ↓reduceIte, seval, e2, e4, hy, b1, hsl, e4, hy2, b2]
     (repeat (first | refine w1 (fun K hK => ?_) | refine w2 ?_ | refine w3 ?_ | ((first | refine w4 ?_ | refine w5 ?_ | refine w6 ?_ | refine w7 ?_); try refine sq8 e2 e4 hy b1 hsl e4 hy2 b2 ?_) | (refine w8 ?_; refine sq8 e2 e4 hy b1 hsl e4 hy2 b2 ?_; refine w9 ?_) | ((first | refine hK _ _ (w0 ?_) | (clear hK K; refine hK _ _ (w0 ?_)) | (clear hK K; clear hK K; refine hK _ _ (w0 ?_))); clear hK K)))
     refine hK3 _ _ _ (Wkn.refl ⟨j + 1, rfl, (by first | rfl | (simp; done) | (simp; rfl)), ?_, by omega, hq2⟩) (by omega)
     all_goals first | exact zq8 e2 e4 hy b1 hsl e4 hy2 b2 | rfl | omega | trivial | skip
    | false =>
     have hno : bldF ts = none := by
      unfold bldF
      rw [hq']
      cases hqe : elF 32 (ts.drop i) with
      | none => rfl
      | some q =>
       rw [Option.bind_some, (hbl q hqe).1, ← hq2, hdr2, List.dropWhile_cons, if_neg (by simp [hb2])]
     refine (rblankT_sat y2 (by omega) _).mono ?_
     rintro r h' ⟨rfl, rfl⟩
     rw [hb2]
     try simp (disch := first | omega | (simp only [go_sem, ↓reduceIte, seval]; first | done | omega) | fail) only [go_sem, ↓reduceIte, seval, e2, e4, hy, b1, hsl, e4, hy2, b2]
     (repeat (first | refine w1 (fun K hK => ?_) | refine w2 ?_ | refine w3 ?_ | ((first | refine w4 ?_ | refine w5 ?_ | refine w6 ?_ | refine w7 ?_); try refine sq8 e2 e4 hy b1 hsl e4 hy2 b2 ?_) | (refine w8 ?_; refine sq8 e2 e4 hy b1 hsl e4 hy2 b2 ?_; refine w9 ?_) | ((first | refine hK _ _ (w0 ?_) | (clear hK K; refine hK _ _ (w0 ?_)) | (clear hK K; clear hK K; refine hK _ _ (w0 ?_))); clear hK K)))
     have no1 : (none : Option (Elem × List Tok)).isSome = false := rfl
     cases hqe : elF 32 (ts.drop i) with
     | none =>
      skip
      try refine sq9 e2 e4 hy b1 hsl e4 hy2 b2 no1 ?_
      (repeat (first | refine w1 (fun K hK => ?_) | refine w2 ?_ | refine w3 ?_ | ((first | refine w4 ?_ | refine w5 ?_ | refine w6 ?_ | refine w7 ?_); try refine sq9 e2 e4 hy b1 hsl e4 hy2 b2 no1 ?_) | (refine w8 ?_; refine sq9 e2 e4 hy b1 hsl e4 hy2 b2 no1 ?_; refine w9 ?_) | ((first | refine hK _ _ (w0 ?_) | (clear hK K; refine hK _ _ (w0 ?_)) | (clear hK K; clear hK K; refine hK _ _ (w0 ?_))); clear hK K)))
      first | refine (hQ _ _ ?_).1 | refine (hQ _ _ ?_).2
      simp (disch := first | omega | (simp only [go_sem, ↓reduceIte, seval]; first | done | omega) | fail) only [go_sem, ↓reduceIte, seval, e2, e4, hy, b1, hsl, e4, hy2, b2, no1, resA, resL, resA1]
      exact BldR.bad _ hno
     | some q =>
      try refine sq8 e2 e4 hy b1 hsl e4 hy2 b2 ?_
      (repeat (first | refine w1 (fun K hK => ?_) | refine w2 ?_ | refine w3 ?_ | ((first | refine w4 ?_ | refine w5 ?_ | refine w6 ?_ | refine w7 ?_); try refine sq8 e2 e4 hy b1 hsl e4 hy2 b2 ?_) | (refine w8 ?_; refine sq8 e2 e4 hy b1 hsl e4 hy2 b2 ?_; refine w9 ?_) | ((first | refine hK _ _ (w0 ?_) | (clear hK K; refine hK _ _ (w0 ?_)) | (clear hK K; clear hK K; refine hK _ _ (w0 ?_))); clear hK K)))
      first | refine (hQ _ _ ?_).1 | refine (hQ _ _ ?_).2
      simp (disch := first | omega | (simp only [go_sem, ↓reduceIte, seval]; first | done | omega) | fail) only [go_sem, ↓reduceIte, seval, e2, e4, hy, b1, hsl, e4, hy2, b2, resA, resL, resA1]
      exact BldR.bad _ hno
   ·have b2 : decide (j < ts.length) = false := by simpa using d1
    skip
    try refine sq7 e2 e4 hy b1 hsl e4 b2 ?_
    (repeat (first | refine w1 (fun K hK => ?_) | refine w2 ?_ | refine w3 ?_ | ((first | refine w4 ?_ | refine w5 ?_ | refine w6 ?_ | refine w7 ?_); try refine sq7 e2 e4 hy b1 hsl e4 b2 ?_) | (refine w8 ?_; refine sq7 e2 e4 hy b1 hsl e4 b2 ?_; refine w9 ?_) | ((first | refine hK _ _ (w0 ?_) | (clear hK K; refine hK _ _ (w0 ?_)) | (clear hK K; clear hK K; refine hK _ _ (w0 ?_))); clear hK K)))
    have no1 : (none : Option (Elem × List Tok)).isSome = false := rfl
    cases hqe : elF 32 (ts.drop i) with
    | none =>
     have hno : bldF ts = none := by unfold bldF; rw [hq', hqe]; rfl
     skip
     try refine sq8 e2 e4 hy b1 hsl e4 b2 no1 ?_
     (repeat (first | refine w1 (fun K hK => ?_) | refine w2 ?_ | refine w3 ?_ | ((first | refine w4 ?_ | refine w5 ?_ | refine w6 ?_ | refine w7 ?_); try refine sq8 e2 e4 hy b1 hsl e4 b2 no1 ?_) | (refine w8 ?_; refine sq8 e2 e4 hy b1 hsl e4 b2 no1 ?_; refine w9 ?_) | ((first | refine hK _ _ (w0 ?_) | (clear hK K; refine hK _ _ (w0 ?_)) | (clear hK K; clear hK K; refine hK _ _ (w0 ?_))); clear hK K)))
     first | refine (hQ _ _ ?_).1 | refine (hQ _ _ ?_).2
     simp (disch := first | omega | (simp only [go_sem, ↓reduceIte, seval]; first | done | omega) | fail) only [go_sem, ↓reduceIte, seval, e2, e4, hy, b1, hsl, e4, b2, no1, resA, resL, resA1]
     exact BldR.bad _ hno
    | some q =>
     have hyes : bldF ts = some q.1 := by
      unfold bldF
      rw [hq', hqe, Option.bind_some, (hbl q hqe).1, ← hq2, List.drop_eq_nil_of_le (by omega)]; rfl
     obtain rfl := (hbl q hqe).2
     try refine sq7 e2 e4 hy b1 hsl e4 b2 ?_
     (repeat (first | refine w1 (fun K hK => ?_) | refine w2 ?_ | refine w3 ?_ | ((first | refine w4 ?_ | refine w5 ?_ | refine w6 ?_ | refine w7 ?_); try refine sq7 e2 e4 hy b1 hsl e4 b2 ?_) | (refine w8 ?_; refine sq7 e2 e4 hy b1 hsl e4 b2 ?_; refine w9 ?_) | ((first | refine hK _ _ (w0 ?_) | (clear hK K; refine hK _ _ (w0 ?_)) | (clear hK K; clear hK K; refine hK _ _ (w0 ?_))); clear hK K)))
     first | refine (hQ _ _ ?_).1 | refine (hQ _ _ ?_).2
     simp (disch := first | omega | (simp only [go_sem, ↓reduceIte, seval]; first | done | omega) | fail) only [go_sem, ↓reduceIte, seval, e2, e4, hy, b1, hsl, e4, b2, resA, resL, resA1]
     exact Fin.plain (.tup _ (by intro c hc; simp at hc; rcases hc with rfl | rfl; exact Elem.clo _ _; exact .bool _)) ⟨q.1, by rw [hyes]; rfl, (fun x hx => by rw [hyes] at hx; cases hx; rfl), rfl⟩
 ·have b1 : decide (i < ts.length) = false := by simpa using c1
  skip
  try refine sq3 e2 e4 b1 ?_
  (repeat (first | refine w1 (fun K hK => ?_) | refine w2 ?_ | refine w3 ?_ | ((first | refine w4 ?_ | refine w5 ?_ | refine w6 ?_ | refine w7 ?_); try refine sq3 e2 e4 b1 ?_) | (refine w8 ?_; refine sq3 e2 e4 b1 ?_; refine w9 ?_) | ((first | refine hK _ _ (w0 ?_) | (clear hK K; refine hK _ _ (w0 ?_)) | (clear hK K; clear hK K; refine hK _ _ (w0 ?_))); clear hK K)))
  have hq' : ts.dropWhile blankT = ts.drop i := by rw [← hq, List.drop_eq_nil_of_le (by omega)]; rfl
  have hsl : ∀ j, aslice Tryz.prog j 42 (.sl 4 (ts.map Tok.av)) (some (.int .i64 (i : Int))) none none = some (.sl 4 ((ts.drop i).map Tok.av)) := fun j => by
   rw [List.map_drop]; exact aslice_slF (by simp only [go_sem]; rfl) (by simp only [go_sem]) (by simp; omega)
  have hsd := szs_drop Tok.sz Tok.sz_pos ts i hi
  skip
  try refine sq4 e2 e4 b1 hsl ?_
  (repeat (first | refine w1 (fun K hK => ?_) | refine w2 ?_ | refine w3 ?_ | ((first | refine w4 ?_ | refine w5 ?_ | refine w6 ?_ | refine w7 ?_); try refine sq4 e2 e4 b1 hsl ?_) | (refine w8 ?_; refine sq4 e2 e4 b1 hsl ?_; refine w9 ?_) | ((first | refine hK _ _ (w0 ?_) | (clear hK K; refine hK _ _ (w0 ?_)) | (clear hK K; clear hK K; refine hK _ _ (w0 ?_))); clear hK K)))
  refine (relem_sat 32 (ts.drop i) 1 (by omega) (by omega) (by omega) _).mono ?_
  rintro r h' ⟨e, n, rfl, hg, hn, rfl⟩
  try simp (disch := first | omega | (simp only [go_sem, ↓reduceIte, seval]; first | done | omega) | fail) only [go_sem, ↓reduceIte, seval, e2, e4, b1, hsl]
  (repeat (first | refine w1 (fun K hK => ?_) | refine w2 ?_ | refine w3 ?_ | ((first | refine w4 ?_ | refine w5 ?_ | refine w6 ?_ | refine w7 ?_); try refine sq4 e2 e4 b1 hsl ?_) | (refine w8 ?_; refine sq4 e2 e4 b1 hsl ?_; refine w9 ?_) | ((first | refine hK _ _ (w0 ?_) | (clear hK K; refine hK _ _ (w0 ?_)) | (clear hK K; clear hK K; refine hK _ _ (w0 ?_))); clear hK K)))
  have hlen2 : (ts.drop i).length = ts.length - i := List.length_drop
  obtain ⟨n, rfl⟩ : ∃ m : Nat, n = m := ⟨n.toNat, by omega⟩
  have hin : i + n ≤ ts.length := by omega
  have him : (i : Int) + (n : Int) = ((i + n : Nat) : Int) := by omega
  rw [him]
  refine WP_loopm (by simp only [go_sem, List.nil_append, List.cons_append]; rfl) (fun nL tL hL => ∃ (j : Nat), ts.length - j = nL ∧ h ++ [.row 26 4 0 [.agg [.str [], .nil (.slice none 0 0), .str [], .nil (.slice none 0 0)]], .row 26 4 0 [e.av]] = hL ∧ tL 4 = .int .i64 j ∧ j ≤ ts.length ∧ (ts.drop j).dropWhile blankT = (ts.drop (i + n)).dropWhile blankT) ((fun (j : Nat) => (ts.length - j : Nat)) ((i + n))) ?_ ?_
  ·refine Wkn.refl ⟨(i + n), rfl, (by first | rfl | (simp; done) | (simp; rfl)), ?_, by omega, rfl⟩
   all_goals first | exact zq4 e2 e4 b1 hsl | rfl | omega | trivial | skip
  rintro _ s3 h' ⟨j, rfl, rfl, e4, hj, hq2⟩ K3 hK3
  simp only [mix_cons, mix_nil, Nat.reduceEqDiff, ↓reduceIte] at e4
  (repeat (first | refine w1 (fun K hK => ?_) | refine w2 ?_ | refine w3 ?_ | ((first | refine w4 ?_ | refine w5 ?_ | refine w6 ?_ | refine w7 ?_); try refine sq5 e2 e4 b1 hsl e4 ?_) | (refine w8 ?_; refine sq5 e2 e4 b1 hsl e4 ?_; refine w9 ?_) | ((first | refine hK _ _ (w0 ?_) | (clear hK K; refine hK _ _ (w0 ?_)) | (clear hK K; clear hK K; refine hK _ _ (w0 ?_))); clear hK K)))
  have hbl : ∀ q, elF 32 (ts.drop i) = some q → q.2 = ts.drop (i + n) ∧ e = q.1 := fun q hqq => by
   obtain ⟨g1, g2⟩ := hg q hqq
   have g3 := elF_suf hqq
   refine ⟨?_, g1⟩
   have e9 : i + ((ts.drop i).length - q.2.length) = i + n := by omega
   rw [g3.2, List.drop_drop, e9]
  by_cases d1 : j < ts.length
  ·obtain ⟨y2, hy2, hym2⟩ := getElem?_of_lt d1
   have b2 : decide (j < ts.length) = true := by simpa using d1
   have hdr2 := drop_cons_of hy2
   have hyl2 := szs_txt hym2
   skip
   try refine sq7 e2 e4 b1 hsl e4 hy2 b2 ?_
   (repeat (first | refine w1 (fun K hK => ?_) | refine w2 ?_ | refine w3 ?_ | ((first | refine w4 ?_ | refine w5 ?_ | refine w6 ?_ | refine w7 ?_); try refine sq7 e2 e4 b1 hsl e4 hy2 b2 ?_) | (refine w8 ?_; refine sq7 e2 e4 b1 hsl e4 hy2 b2 ?_; refine w9 ?_) | ((first | refine hK _ _ (w0 ?_) | (clear hK K; refine hK _ _ (w0 ?_)) | (clear hK K; clear hK K; refine hK _ _ (w0 ?_))); clear hK K)))
   cases hb2 : blankT y2 with
   | true =>
    rw [hdr2, List.dropWhile_cons, if_pos hb2] at hq2
    refine (rblankT_sat y2 (by omega) _).mono ?_
    rintro r h' ⟨rfl, rfl⟩
    rw [hb2]
    try simp (disch := first | omega | (simp only [go_sem, ↓reduceIte, seval]; first | done | omega) | fail) only [go_sem, ↓reduceIte, seval, e2, e4, b1, hsl, e4, hy2, b2]
    (repeat (first | refine w1 (fun K hK => ?_) | refine w2 ?_ | refine w3 ?_ | ((first | refine w4 ?_ | refine w5 ?_ | refine w6 ?_ | refine w7 ?_); try refine sq7 e2 e4 b1 hsl e4 hy2 b2 ?_) | (refine w8 ?_; refine sq7 e2 e4 b1 hsl e4 hy2 b2 ?_; refine w9 ?_) | ((first | refine hK _ _ (w0 ?_) | (clear hK K; refine hK _ _ (w0 ?_)) | (clear hK K; clear hK K; refine hK _ _ (w0 ?_))); clear hK K)))
    refine hK3 _ _ _ (Wkn.refl ⟨j + 1, rfl, (by first | rfl | (simp; done) | (simp; rfl)), ?_, by omega, hq2⟩) (by omega)
    all_goals first | exact zq7 e2 e4 b1 hsl e4 hy2 b2 | rfl | omega | trivial | skip
   | false =>
    have hno : bldF ts = none := by
     unfold bldF
     rw [hq']
     cases hqe : elF 32 (ts.drop i) with
     | none => rfl
     | some q =>
      rw [Option.bind_some, (hbl q hqe).1, ← hq2, hdr2, List.dropWhile_cons, if_neg (by simp [hb2])]
    refine (rblankT_sat y2 (by omega) _).mono ?_
    rintro r h' ⟨rfl, rfl⟩
    rw [hb2]
    try simp (disch := first | omega | (simp only [go_sem, ↓reduceIte, seval]; first | done | omega) | fail) only [go_sem, ↓reduceIte, seval, e2, e4, b1, hsl, e4, hy2, b2]
    (repeat (first | refine w1 (fun K hK => ?_) | refine w2 ?_ | refine w3 ?_ | ((first | refine w4 ?_ | refine w5 ?_ | refine w6 ?_ | refine w7 ?_); try refine sq7 e2 e4 b1 hsl e4 hy2 b2 ?_) | (refine w8 ?_; refine sq7 e2 e4 b1 hsl e4 hy2 b2 ?_; refine w9 ?_) | ((first | refine hK _ _ (w0 ?_) | (clear hK K; refine hK _ _ (w0 ?_)) | (clear hK K; clear hK K; refine hK _ _ (w0 ?_))); clear hK K)))
    have no1 : (none : Option (Elem × List Tok)).isSome = false := rfl
    cases hqe : elF 32 (ts.drop i) with
    | none =>
     skip
     try refine sq8 e2 e4 b1 hsl e4 hy2 b2 no1 ?_
     (repeat (first | refine w1 (fun K hK => ?_) | refine w2 ?_ | refine w3 ?_ | ((first | refine w4 ?_ | refine w5 ?_ | refine w6 ?_ | refine w7 ?_); try refine sq8 e2 e4 b1 hsl e4 hy2 b2 no1 ?_) | (refine w8 ?_; refine sq8 e2 e4 b1 hsl e4 hy2 b2 no1 ?_; refine w9 ?_) | ((first | refine hK _ _ (w0 ?_) | (clear hK K; refine hK _ _ (w0 ?_)) | (clear hK K; clear hK K; refine hK _ _ (w0 ?_))); clear hK K)))
     first | refine (hQ _ _ ?_).1 | refine (hQ _ _ ?_).2
     simp (disch := first | omega | (simp only [go_sem, ↓reduceIte, seval]; first | done | omega) | fail) only [go_sem, ↓reduceIte, seval, e2, e4, b1, hsl, e4, hy2, b2, no1, resA, resL, resA1]
     exact BldR.bad _ hno
    | some q =>
     try refine sq7 e2 e4 b1 hsl e4 hy2 b2 ?_
     (repeat (first | refine w1 (fun K hK => ?_) | refine w2 ?_ | refine w3 ?_ | ((first | refine w4 ?_ | refine w5 ?_ | refine w6 ?_ | refine w7 ?_); try refine sq7 e2 e4 b1 hsl e4 hy2 b2 ?_) | (refine w8 ?_; refine sq7 e2 e4 b1 hsl e4 hy2 b2 ?_; refine w9 ?_) | ((first | refine hK _ _ (w0 ?_) | (clear hK K; refine hK _ _ (w0 ?_)) | (clear hK K; clear hK K; refine hK _ _ (w0 ?_))); clear hK K)))
     first | refine (hQ _ _ ?_).1 | refine (hQ _ _ ?_).2
     simp (disch := first | omega | (simp only [go_sem, ↓reduceIte, seval]; first | done | omega) | fail) only [go_sem, ↓reduceIte, seval, e2, e4, b1, hsl, e4, hy2, b2, resA, resL, resA1]
     exact BldR.bad _ hno
  ·have b2 : decide (j < ts.length) = false := by simpa using d1
   skip
   try refine sq6 e2 e4 b1 hsl e4 b2 ?_
   (repeat (first | refine w1 (fun K hK => ?_) | refine w2 ?_ | refine w3 ?_ | ((first | refine w4 ?_ | refine w5 ?_ | refine w6 ?_ | refine w7 ?_); try refine sq6 e2 e4 b1 hsl e4 b2 ?_) | (refine w8 ?_; refine sq6 e2 e4 b1 hsl e4 b2 ?_; refine w9 ?_) | ((first | refine hK _ _ (w0 ?_) | (clear hK K; refine hK _ _ (w0 ?_)) | (clear hK K; clear hK K; refine hK _ _ (w0 ?_))); clear hK K)))
   have no1 : (none : Option (Elem × List Tok)).isSome = false := rfl
   cases hqe : elF 32 (ts.drop i) with
   | none =>
    have hno : bldF ts = none := by unfold bldF; rw [hq', hqe]; rfl
    skip
    try refine sq7 e2 e4 b1 hsl e4 b2 no1 ?_
    (repeat (first | refine w1 (fun K hK => ?_) | refine w2 ?_ | refine w3 ?_ | ((first | refine w4 ?_ | refine w5 ?_ | refine w6 ?_ | refine w7 ?_); try refine sq7 e2 e4 b1 hsl e4 b2 no1 ?_) | (refine w8 ?_; refine sq7 e2 e4 b1 hsl e4 b2 no1 ?_; refine w9 ?_) | ((first | refine hK _ _ (w0 ?_) | (clear hK K; refine hK _ _ (w0 ?_)) | (clear hK K; clear hK K; refine hK _ _ (w0 ?_))); clear hK K)))
    first | refine (hQ _ _ ?_).1 | refine (hQ _ _ ?_).2
    simp (disch := first | omega | (simp only [go_sem, ↓reduceIte, seval]; first | done | omega) | fail) only [go_sem, ↓reduceIte, seval, e2, e4, b1, hsl, e4, b2, no1, resA, resL, resA1]
    exact BldR.bad _ hno
   | some q =>
    have hyes : bldF ts = some q.1 := by
     unfold bldF
     rw [hq', hqe, Option.bind_some, (hbl q hqe).1, ← hq2, List.drop_eq_nil_of_le (by omega)]; rfl
    obtain rfl := (hbl q hqe).2
    try refine sq6 e2 e4 b1 hsl e4 b2 ?_
    (repeat (first | refine w1 (fun K hK => ?_) | refine w2 ?_ | refine w3 ?_ | ((first | refine w4 ?_ | refine w5 ?_ | refine w6 ?_ | refine w7 ?_); try refine sq6 e2 e4 b1 hsl e4 b2 ?_) | (refine w8 ?_; refine sq6 e2 e4 b1 hsl e4 b2 ?_; refine w9 ?_) | ((first | refine hK _ _ (w0 ?_) | (clear hK K; refine hK _ _ (w0 ?_)) | (clear hK K; clear hK K; refine hK _ _ (w0 ?_))); clear hK K)))
    first | refine (hQ _ _ ?_).1 | refine (hQ _ _ ?_).2
    simp (disch := first | omega | (simp only [go_sem, ↓reduceIte, seval]; first | done | omega) | fail) only [go_sem, ↓reduceIte, seval, e2, e4, b1, hsl, e4, b2, resA, resL, resA1]
    exact Fin.plain (.tup _ (by intro c hc; simp at hc; rcases hc with rfl | rfl; exact Elem.clo _ _; exact .bool _)) ⟨q.1, by rw [hyes]; rfl, (fun x hx => by rw [hyes] at hx; cases hx; rfl), rfl⟩
end Go.Av
namespace Go.Av
open Go Go.Proofs Go.RowKit
attribute [local irreducible] WP WPl WPix Sat
set_option maxRecDepth 100000
set_option maxHeartbeats 1000000
variable (G : Nat → Option (List AVal))
end Go.Av
namespace Go.Av
open Go Go.Proofs Go.RowKit
attribute [local irreducible] WP WPl WPix Sat
set_option maxRecDepth 100000
set_option maxHeartbeats 1000000
variable (G : Nat → Option (List AVal))
end Go.Av
namespace Go.Av
open Go Go.Proofs Go.RowKit
attribute [local irreducible] WP WPl WPix Sat
set_option maxRecDepth 100000
set_option maxHeartbeats 1000000
variable (G : Nat → Option (List AVal))
end Go.Av
namespace Go.Av
open Go Go.Proofs Go.RowKit
attribute [local irreducible] WP WPl WPix Sat
set_option maxRecDepth 100000
set_option maxHeartbeats 1000000
variable (G : Nat → Option (List AVal))
section
variable {σ : Type} (A B : Elem → σ → σ)
end
section
end
end Go.Av
namespace Go.Av
open Go Go.Proofs Go.RowKit
attribute [local irreducible] WP WPl WPix Sat
set_option maxRecDepth 100000
set_option maxHeartbeats 1000000
variable (G : Nat → Option (List AVal))
section
end
end Go.Av
namespace Go.Av
open Go Go.Proofs Go.RowKit
attribute [local irreducible] WP WPl WPix Sat
set_option maxRecDepth 100000
set_option maxHeartbeats 1000000
variable (G : Nat → Option (List AVal))
end Go.Av
namespace Go.Av
open Go Go.Proofs Go.RowKit
attribute [local irreducible] WP WPl WPix Sat
set_option maxRecDepth 100000
set_option maxHeartbeats 1000000
variable (G : Nat → Option (List AVal))
theorem deepL_ge : ∀ (l : List Elem) (d n : Nat), n ≤ deepL l d n ∧ ∀ k ∈ l, deep k (d + 1) ≤ deepL l d n
 | [], d, n => by rw [deepL]; exact ⟨Nat.le_refl _, fun k hk => by cases hk⟩
 | e :: l, d, n => by
  rw [deepL]
  by_cases hc : n < deep e (d + 1)
  ·rw [if_pos hc]
   obtain ⟨h1, h2⟩ := deepL_ge l d (deep e (d + 1))
   refine ⟨by omega, fun k hk => ?_⟩
   rcases List.mem_cons.1 hk with rfl | hk
   ·omega
   ·exact h2 k hk
  ·rw [if_neg hc]
   obtain ⟨h1, h2⟩ := deepL_ge l d n
   refine ⟨by omega, fun k hk => ?_⟩
   rcases List.mem_cons.1 hk with rfl | hk
   ·omega
   ·exact h2 k hk
theorem sameF_refl : ∀ (f d : Nat), 33 ≤ f + d → ∀ e : Elem, deep e d ≤ 32 → sameF f e e = true := by
 intro f
 induction f with
 | zero =>
  intro d hd e he
  rw [deep_eq] at he
  by_cases h40 : 40 ≤ d
  ·rw [if_pos h40] at he; omega
  ·rw [if_neg h40] at he
   have := (deepL_ge e.kids d d).1
   omega
 | succ f ih =>
  intro d hd e he
  have h40 : ¬ 40 ≤ d := fun h40 => by rw [deep_eq, if_pos h40] at he; omega
  rw [deep_eq, if_neg h40] at he
  have := (deepL_ge e.kids d d).2
  have hz : ∀ (l : List Elem), (∀ k ∈ l, sameF f k k = true) → ((l.zip l).all fun p => sameF f p.1 p.2) = true := by
   intro l
   induction l with
   | nil => intro _; rfl
   | cons x l ih2 => intro h; simp only [List.zip_cons_cons, List.all_cons, h x (by simp), ih2 fun k hk => h k (by simp [hk]), Bool.and_self]
  simp only [sameF, decide_true, Bool.true_and]
  exact hz _ fun k hk => ih (d + 1) (by omega) k (by have := this k hk; omega)
end Go.Av
namespace Go.Av
open Go Go.Proofs Go.RowKit
set_option maxRecDepth 100000
set_option maxHeartbeats 1000000
def foldB : List Elem → List Elem → List Tok → Option (List Elem × List Elem)
 | os, ds, [] => some (os, ds)
 | os, ds, t :: ts => (stepB os ds t).bind fun q => foldB q.1 q.2 ts
def finB : Option (List Elem × List Elem) → Option Elem
 | some ([], [e]) => some e
 | _ => none
def clsB (st : List Elem) (e : Elem) : List Elem × List Elem :=
 match st.getLast? with
 | none => ([], [e])
 | some p => (st.dropLast ++ [⟨p.name, p.attrs, p.text, p.kids ++ [e]⟩], [])
theorem foldB_nil (os ds : List Elem) : foldB os ds [] = some (os, ds) := rfl
theorem foldB_cons (os ds : List Elem) (t : Tok) (ts : List Tok) : foldB os ds (t :: ts) = (stepB os ds t).bind fun q => foldB q.1 q.2 ts := rfl
theorem foldB_app : ∀ (a b : List Tok) (os ds : List Elem), foldB os ds (a ++ b) = (foldB os ds a).bind fun q => foldB q.1 q.2 b
 | [], b, os, ds => rfl
 | t :: a, b, os, ds => by
  rw [List.cons_append, foldB_cons, foldB_cons]
  cases stepB os ds t with
  | none => rfl
  | some q => simp only [Option.bind_some]; exact foldB_app a b q.1 q.2
theorem clsB_snoc (st : List Elem) (p e : Elem) : clsB (st ++ [p]) e = (st ++ [⟨p.name, p.attrs, p.text, p.kids ++ [e]⟩], []) := by
 unfold clsB; simp
theorem foldB_in : ∀ (f d : Nat) (st : List Elem) (n : Bs) (a : List At) (x : Bs) (k : List Elem) (ts : List Tok), ts.length < f → st.length + d = 31 →
  finB (foldB (st ++ [⟨n, a, x, k⟩]) [] ts) = (elL f d n a x k ts).bind fun q => finB (foldB (clsB st q.1).1 (clsB st q.1).2 q.2) := by
 intro f
 induction f with
 | zero => intro d st n a x k ts h; omega
 | succ f ih =>
  intro d st n a x k ts hf hd
  cases ts with
  | nil =>
   rw [elL_nil, foldB_nil]
   cases st <;> rfl
  | cons t ts =>
   simp only [List.length_cons] at hf
   rw [elL_one, foldB_cons]
   have hlast : (st ++ [(⟨n, a, x, k⟩ : Elem)]).getLast? = some ⟨n, a, x, k⟩ := by simp
   have hdrop : (st ++ [(⟨n, a, x, k⟩ : Elem)]).dropLast = st := by simp
   by_cases h3 : t.1 = 3
   ·have e : stepB (st ++ [⟨n, a, x, k⟩]) [] t = some (st ++ [⟨n, a, x ++ t.2.2.2, k⟩], []) := by
     unfold stepB
     rw [if_neg (by omega), if_neg (by omega), if_pos h3, hlast, hdrop]; rfl
    rw [e, if_pos h3, Option.bind_some]
    exact ih d st n a (x ++ t.2.2.2) k ts (by omega) hd
   ·rw [if_neg h3]
    by_cases h1 : t.1 = 1
    ·rw [if_pos h1]
     by_cases h0 : d = 0
     ·have e : stepB (st ++ [⟨n, a, x, k⟩]) [] t = none := by
       unfold stepB
       rw [if_pos h1, if_neg]
       simp; omega
      rw [e, if_pos h0]; rfl
     ·have e : stepB (st ++ [⟨n, a, x, k⟩]) [] t = some ((st ++ [⟨n, a, x, k⟩]) ++ [⟨t.2.1, t.2.2.1, [], []⟩], []) := by
       unfold stepB
       rw [if_pos h1, if_pos]
       simp; omega
      rw [e, if_neg h0, Option.bind_some]
      simp only []
      rw [ih (d - 1) (st ++ [Elem.mk n a x k]) t.2.1 t.2.2.1 [] [] ts (by omega) (by simp; omega)]
      cases hq : elL f (d - 1) t.2.1 t.2.2.1 [] [] ts with
      | none => rfl
      | some q =>
       have := (elL_suf _ _ _ _ _ _ _ _ hq).2
       simp only [Option.bind_some, clsB_snoc]
       exact ih d st n a x (k ++ [q.1]) q.2 (by omega) hd
    ·rw [if_neg h1]
     by_cases h2 : t.1 = 2
     ·rw [if_pos h2]
      by_cases hn : t.2.1 = n
      ·have e : stepB (st ++ [⟨n, a, x, k⟩]) [] t = some (clsB st ⟨n, a, x, k⟩) := by
        unfold stepB
        rw [if_neg h1, if_pos h2, hlast, hdrop]
        show (if n = t.2.1 then _ else _) = _
        rw [if_pos hn.symm]
        unfold clsB
        cases st.getLast? <;> rfl
       rw [e, if_pos hn]; rfl
      ·have e : stepB (st ++ [⟨n, a, x, k⟩]) [] t = none := by
        unfold stepB
        rw [if_neg h1, if_pos h2, hlast]
        show (if n = t.2.1 then _ else _) = _
        rw [if_neg (Ne.symm hn)]
       rw [e, if_neg hn]; rfl
     ·have e : stepB (st ++ [⟨n, a, x, k⟩]) [] t = none := by
       unfold stepB
       rw [if_neg h1, if_neg h2, if_neg h3]
      rw [e, if_neg h2]; rfl
theorem stepB_out (ds : List Elem) (t : Tok) (h : ds ≠ []) : stepB [] ds t = if blankT t then some ([], ds) else none := by
 unfold stepB blankT
 by_cases h1 : t.1 = 1
 ·rw [if_pos h1, if_neg (fun hc => h hc.2), if_neg (by simp [h1])]
 ·rw [if_neg h1]
  by_cases h2 : t.1 = 2
  ·rw [if_pos h2, if_neg (by simp [h2])]; rfl
  ·rw [if_neg h2]
   by_cases h3 : t.1 = 3
   ·rw [if_pos h3]
    simp [h3]
   ·rw [if_neg h3, if_neg (by simp [h3])]
theorem foldB_end (e : Elem) : ∀ ts : List Tok, finB (foldB [] [e] ts) = if ts.dropWhile blankT = [] then some e else none
 | [] => rfl
 | t :: ts => by
  rw [foldB_cons, stepB_out _ _ (by simp), List.dropWhile_cons]
  cases hb : blankT t with
  | true => simp only [↓reduceIte, Option.bind_some]; exact foldB_end e ts
  | false => rfl
theorem foldB_eq : ∀ ts : List Tok, finB (foldB [] [] ts) = bldF ts
 | [] => rfl
 | t :: ts => by
  unfold bldF
  rw [foldB_cons, List.dropWhile_cons]
  cases hb : blankT t with
  | true =>
   have e : stepB [] [] t = some ([], []) := by
    unfold blankT at hb
    simp only [Bool.and_eq_true, beq_iff_eq] at hb
    unfold stepB
    rw [if_neg (by omega), if_neg (by omega), if_pos hb.2]
    show (if _ then _ else _) = _
    rw [if_pos hb.1]
   rw [e]
   simp only [↓reduceIte, Option.bind_some]
   exact foldB_eq ts
  | false =>
   simp only [Bool.false_eq_true, ↓reduceIte]
   rw [elF_cons]
   by_cases h1 : t.1 = 1
   ·have e : stepB [] [] t = some ([⟨t.2.1, t.2.2.1, [], []⟩], []) := by
     unfold stepB
     rw [if_pos h1, if_pos (by simp)]; rfl
    rw [e, if_pos h1, if_neg (by omega), Option.bind_some]
    have := foldB_in (ts.length + 1) 31 [] t.2.1 t.2.2.1 [] [] ts (by omega) rfl
    rw [List.nil_append] at this
    rw [this]
    show Option.bind (elL (ts.length + 1) 31 _ _ _ _ ts) _ = Option.bind (elL (ts.length + 1) 31 _ _ _ _ ts) _
    congr 1
    funext q
    exact foldB_end q.1 q.2
   ·rw [if_neg h1]
    have e : stepB [] [] t = none := by
     unfold blankT at hb
     unfold stepB
     rw [if_neg h1]
     by_cases h2 : t.1 = 2
     ·rw [if_pos h2]; rfl
     ·rw [if_neg h2]
      by_cases h3 : t.1 = 3
      ·rw [if_pos h3]
       show (if _ then _ else _) = _
       rw [if_neg (by simpa [h3] using hb)]
      ·rw [if_neg h3]
    rw [e]; rfl
theorem szs_last {l : List Elem} {e : Elem} (h : l.getLast? = some e) : szs Elem.sz l = szs Elem.sz l.dropLast + e.sz := by
 rcases List.eq_nil_or_concat l with rfl | ⟨m, o, rfl⟩
 ·cases h
 ·rw [List.concat_eq_append] at *
  simp at h; subst h
  simp [szs_add, szs]
theorem tok_sz_eq (t : Tok) : Tok.sz t = 1 + t.2.1.length + szs At.sz t.2.2.1 + t.2.2.2.length := rfl
theorem elem_sz_mk (n : Bs) (a : List At) (x : Bs) (k : List Elem) : (Elem.mk n a x k).sz = 1 + n.length + szs At.sz a + x.length + szs Elem.sz k := Elem.sz_eq _
theorem stepB_sz {os ds : List Elem} {t : Tok} {q : List Elem × List Elem} (h : stepB os ds t = some q) :
  szs Elem.sz q.1 + szs Elem.sz q.2 ≤ szs Elem.sz os + szs Elem.sz ds + Tok.sz t ∧ (os.length ≤ 32 → q.1.length ≤ 32) := by
 have ht := tok_sz_eq t
 unfold stepB at h
 split at h
 ·split at h
  ·rename_i h1 h2
   cases h
   refine ⟨?_, fun _ => by simp; omega⟩
   simp only [szs_add, szs, elem_sz_mk, List.length_nil]; omega
  ·cases h
 ·split at h
  ·split at h
   ·cases h
   ·rename_i e he
    have h1 := szs_last he
    split at h
    ·split at h
     ·rename_i hn
      cases h
      refine ⟨?_, fun _ => by simp⟩
      simp only [szs_add, szs]; omega
     ·rename_i p hp
      cases h
      have h2 := szs_last hp
      have h3 := Elem.sz_eq p
      refine ⟨?_, fun hl => by simp [List.length_dropLast]; omega⟩
      simp only [szs_add, szs, elem_sz_mk]; omega
    ·cases h
  ·split at h
   ·split at h
    ·split at h
     ·cases h; refine ⟨?_, fun _ => by simp⟩
      simp only [szs]; omega
     ·cases h
    ·rename_i e he
     cases h
     have h1 := szs_last he
     have h3 := Elem.sz_eq e
     have hne : os ≠ [] := by rintro rfl; cases he
     have hl0 : 0 < os.length := List.length_pos_iff.2 hne
     refine ⟨?_, fun hl => by simp [List.length_dropLast]; omega⟩
     simp only [szs_add, szs, elem_sz_mk, List.length_append]; omega
   ·cases h
theorem foldB_sz : ∀ (ts : List Tok) (os ds : List Elem) (q : List Elem × List Elem), foldB os ds ts = some q →
  szs Elem.sz q.1 + szs Elem.sz q.2 ≤ szs Elem.sz os + szs Elem.sz ds + szs Tok.sz ts ∧ (os.length ≤ 32 → q.1.length ≤ 32)
 | [], os, ds, q, h => by cases h; exact ⟨by simp [szs], id⟩
 | t :: ts, os, ds, q, h => by
  rw [foldB_cons] at h
  obtain ⟨p, hp, h⟩ := Option.bind_eq_some_iff.1 h
  have h1 := stepB_sz hp
  have h2 := foldB_sz ts p.1 p.2 q h
  rw [szs]
  exact ⟨by omega, fun hl => h2.2 (h1.2 hl)⟩
theorem bldF_sz {ts : List Tok} {e : Elem} (h : bldF ts = some e) : e.sz ≤ szs Tok.sz ts := by
 rw [← foldB_eq] at h
 cases hq : foldB [] [] ts with
 | none => rw [hq] at h; cases h
 | some q =>
  rw [hq] at h
  have := (foldB_sz ts [] [] q hq).1
  obtain ⟨a, b⟩ := q
  match a, b, h with
  | [], [x], h => cases h; simpa [szs] using this
theorem deepL_up : ∀ (l : List Elem) (d n : Nat), n ≤ 32 → (∀ k ∈ l, deep k (d + 1) ≤ 32) → deepL l d n ≤ 32
 | [], d, n, hn, _ => by rw [deepL]; exact hn
 | k :: l, d, n, hn, h => by
  rw [deepL]
  refine deepL_up l d _ ?_ fun x hx => h x (by simp [hx])
  split
  ·exact h k (by simp)
  ·exact hn
theorem elL_deep : ∀ (f d : Nat) (n : Bs) (a : List At) (x : Bs) (k : List Elem) (ts : List Tok) (q : Elem × List Tok), d ≤ 31 → (∀ c ∈ k, deep c (33 - d) ≤ 32) → elL f d n a x k ts = some q → deep q.1 (32 - d) ≤ 32 := by
 intro f
 induction f with
 | zero => intro d n a x k ts q _ _ h; cases h
 | succ f ih =>
  intro d n a x k ts q hd hk h
  cases ts with
  | nil => rw [elL_nil] at h; cases h
  | cons t ts =>
   rw [elL_one] at h
   split at h
   ·exact ih _ _ _ _ _ _ _ hd hk h
   ·split at h
    ·split at h
     ·cases h
     ·rename_i hd0
      obtain ⟨p, hp, h⟩ := Option.bind_eq_some_iff.1 h
      have h1 := ih _ _ _ _ _ _ _ (by omega) (by simp) hp
      refine ih _ _ _ _ _ _ _ hd ?_ h
      intro c hc
      rcases List.mem_append.1 hc with hc | hc
      ·exact hk c hc
      ·simp at hc; subst hc
       rw [show 33 - d = 32 - (d - 1) by omega]; exact h1
    ·split at h
     ·split at h
      ·cases h
       rw [deep_eq, if_neg (by omega)]
       refine deepL_up _ _ _ (by omega) ?_
       intro c hc
       rw [show 32 - d + 1 = 33 - d by omega]; exact hk c hc
      ·cases h
     ·cases h
theorem bldF_deep {ts : List Tok} {e : Elem} (h : bldF ts = some e) : deep e 1 ≤ 32 := by
 unfold bldF at h
 obtain ⟨q, hq, h⟩ := Option.bind_eq_some_iff.1 h
 split at h
 ·cases h
  generalize ts.dropWhile blankT = u at hq
  cases u with
  | nil => cases hq
  | cons t u =>
   rw [elF_cons] at hq
   split at hq
   ·rw [if_neg (by omega)] at hq
    exact elL_deep _ 31 _ _ _ _ _ _ (by omega) (by simp) hq
   ·cases hq
 ·cases h
end Go.Av
namespace Go.Av
open Go Go.Proofs Go.RowKit
attribute [local irreducible] WP WPl WPix Sat
set_option maxRecDepth 100000
set_option maxHeartbeats 1000000
variable (G : Nat → Option (List AVal))
theorem FrN.split {h H : Heap} (g : FrN h.length h H) (hl : h.length ≤ H.length) : ∃ j, H = h ++ j := by
 refine ⟨H.drop h.length, List.ext_getElem? fun i => ?_⟩
 by_cases hi : i < h.length
 ·rw [List.getElem?_append_left hi]; exact g i hi
 ·rw [List.getElem?_append_right (by omega), List.getElem?_drop]; congr 1; omega
def PBldR (h : Heap) (l : List Tok) (r : AVal) (h' : Heap) : Prop :=
 ∃ e : Elem, r = .tup [e.av, .int .i64 (if (bldF l).isSome then 0 else 90)] ∧ (∀ x, bldF l = some x → e = x) ∧ (bldF l = none → e = ⟨[], [], [], []⟩) ∧ h' = h
theorem PBldR.bad {h H : Heap} {l : List Tok} (g : FrN h.length h H) (hl : h.length ≤ H.length) (e : bldF l = none) : Fin h H (PBldR h l) (.tup [.agg [.str [], .nil (.slice none 0 0), .str [], .nil (.slice none 0 0)], .int .i64 90]) := by
 obtain ⟨j, rfl⟩ := g.split hl
 have z : Frz (h ++ j) h.length (.agg [.str [], .nil (.slice none 0 0), .str [], .nil (.slice none 0 0)]) (Elem.av ⟨[], [], [], []⟩) := by
  rw [Elem.av_eq]
  exact FrzL.agg (.cons (.clo _ (.str _)) (.cons (.nils 2) (.cons (.clo _ (.str _)) (.cons (.nils 4) .nil)))) rfl
 exact Fin.frz (FrzL.tup (.cons z (.cons (.clo _ (.int _ _)) .nil))) ⟨_, by rw [e]; rfl, (fun x hx => by rw [e] at hx; cases hx), fun _ => rfl, rfl⟩
theorem szs_kids (l : List OE) : ∀ o ∈ l, o.k.length ≤ szs Elem.sz (l.map OE.el) ∧ o.t.length ≤ szs Elem.sz (l.map OE.el) := by
 intro o ho
 have h1 := szs_mem Elem.sz (List.mem_map_of_mem (f := OE.el) ho)
 have h2 := elem_sz_mk o.n o.a o.t o.k
 have h3 := szs_len Elem.sz Elem.sz_pos o.k
 have h4 : (OE.el o).sz = (Elem.mk o.n o.a o.t o.k).sz := rfl
 omega
theorem foldB_snoc {l : List Tok} {k : Nat} {t : Tok} {q : List Elem × List Elem} (hy : l[k]? = some t) (hq : foldB [] [] (l.take k) = some q) : foldB [] [] (l.take (k + 1)) = stepB q.1 q.2 t := by
 have e : l.take (k + 1) = l.take k ++ [t] := by rw [List.take_add_one, hy]; rfl
 rw [e, foldB_app, hq, Option.bind_some]
 show (stepB q.1 q.2 t).bind _ = _
 cases stepB q.1 q.2 t <;> rfl
theorem foldB_stop {l : List Tok} {k : Nat} (h : foldB [] [] (l.take k) = none) : bldF l = none := by
 rw [← foldB_eq]
 have : l = l.take k ++ l.drop k := (List.take_append_drop k l).symm
 rw [this, foldB_app, h]; rfl
theorem PBuild_sat (hG : GOk G) (hC : GClo (CT G)) (l : List Tok) (hs : szs Tok.sz l ≤ 1048576) (h : Heap) : Sat (CT G) 45 [.sl 4 (l.map Tok.av)] h (PBldR h l) := by
 have hll := szs_len Tok.sz Tok.sz_pos l
 refine Sat.body [.cell 2 26, .tmp 3] (fn := Tryz.f45) Tryz.func45 rfl rfl (by kernel_rfl) (by kernel_rfl) (by kernel_rfl) rfl ?_
 intro Q hQ
 (repeat (first | refine w1 (fun K hK => ?_) | refine w2 ?_ | refine w3 ?_ | ((first | refine w4 ?_ | refine w5 ?_ | refine w6 ?_ | refine w7 ?_); try refine sq0 ?_) | (refine w8 ?_; refine sq0 ?_; refine w9 ?_) | ((first | refine hK _ _ (w0 ?_) | (clear hK K; refine hK _ _ (w0 ?_)) | (clear hK K; clear hK K; refine hK _ _ (w0 ?_))); clear hK K)))
 have g0 : getRow (h ++ [.row 26 4 0 [.agg [.str [], .nil (.slice none 0 0), .str [], .nil (.slice none 0 0)]], .row 106 2 0 [.agg [.nil (.slice none 0 0), .nil (.slice none 0 0)]]]) (h.length + 1) 0 = some (106, 2, [.agg [.nil (.slice none 0 0), .nil (.slice none 0 0)]]) := by
  rw [gs_new _ rfl]; rfl
 obtain ⟨H1, hw, hfr, po, pd, hb⟩ := BH.start (C := CT G) (n0 := h.length + 1) g0 (Nat.le_refl _)
 have keep : ∀ hh : Heap, FrN (h.length + 1) (h ++ [.row 26 4 0 [.agg [.str [], .nil (.slice none 0 0), .str [], .nil (.slice none 0 0)]]]) hh → getRow hh h.length 0 = some (26, 4, [.agg [.str [], .nil (.slice none 0 0), .str [], .nil (.slice none 0 0)]]) := fun hh g => by
  unfold getRow
  rw [g h.length (by omega)]
  simp
 have hf0 : FrN (h.length + 1) (h ++ [.row 26 4 0 [.agg [.str [], .nil (.slice none 0 0), .str [], .nil (.slice none 0 0)]]]) H1 ∧ h.length + 1 < H1.length := by
  refine ⟨fun p hp => ?_, by have := hfr.2; simp at this; omega⟩
  rw [hfr.1 p hp]
  rw [show ∀ A B : Blk, h ++ [A, B] = (h ++ [A]) ++ [B] from fun A B => by simp, List.getElem?_append_left (by simp; omega)]
 have base : ∀ H : Heap, FrN (h.length + 1) (h ++ [.row 26 4 0 [.agg [.str [], .nil (.slice none 0 0), .str [], .nil (.slice none 0 0)]]]) H → FrN h.length h H := fun H g p hp => by
  rw [g p (by omega), List.getElem?_append_left hp]
 refine WP_loopm (by simp only [go_sem, List.nil_append, List.cons_append]; rfl) (fun nL tL hL => ∃ (k : Nat) (hh : Heap) (os : List OE) (ds : List Elem), l.length - k = nL ∧ hh = hL ∧ tL 11 = .int .i64 k ∧ k ≤ l.length ∧ foldB [] [] (l.take k) = some (os.map OE.el, ds) ∧ (FrN (h.length + 1) (h ++ [.row 26 4 0 [.agg [.str [], .nil (.slice none 0 0), .str [], .nil (.slice none 0 0)]]]) hh ∧ h.length + 1 < hh.length) ∧ (∃ po vo room pd vd, BH hh (h.length + 1) (h.length + 1) po vo room os pd vd ds)) ((fun (k : Nat) (hh : Heap) (os : List OE) (ds : List Elem) => (l.length - k : Nat)) (0) (H1) ([]) ([])) ?_ ?_
 ·refine ⟨_, _, (hw _ _), ⟨0, H1, [], [], rfl, (by first | rfl | (simp; done) | (simp; rfl)), ?_, by omega, rfl, hf0, ⟨po, 0, true, pd, 0, hb⟩⟩⟩
  all_goals first | exact zq0 | rfl | omega | trivial | skip
 rintro _ s2 h' ⟨k, hh, os, ds, rfl, rfl, e11, hk, hq, hf, hb⟩ K2 hK2
 simp only [mix_cons, mix_nil, Nat.reduceEqDiff, ↓reduceIte] at e11
 (repeat (first | refine w1 (fun K hK => ?_) | refine w2 ?_ | refine w3 ?_ | ((first | refine w4 ?_ | refine w5 ?_ | refine w6 ?_ | refine w7 ?_); try refine sq1 e11 ?_) | (refine w8 ?_; refine sq1 e11 ?_; refine w9 ?_) | ((first | refine hK _ _ (w0 ?_) | (clear hK K; refine hK _ _ (w0 ?_)) | (clear hK K; clear hK K; refine hK _ _ (w0 ?_))); clear hK K)))
 obtain ⟨po, vo, room, pd, vd, hb⟩ := hb
 obtain ⟨hf, hfl⟩ := hf
 have hcell := keep hh hf
 have hsz := foldB_sz _ _ _ _ hq
 have hkd := szs_kids os
 have hln := hsz.2 (by simp)
 have htk : szs Tok.sz (l.take k) ≤ szs Tok.sz l := by
  conv => rhs; rw [← List.take_append_drop k l, szs_add]
  omega
 have hdl := szs_len Elem.sz Elem.sz_pos ds
 simp only [szs, List.length_map] at hsz hln
 refine cq1 e11 (fun c2 => ?_) (fun c2 => ?_) <;> (try exact c2.elim) <;>
  (repeat (first | refine w1 (fun K hK => ?_) | refine w2 ?_ | refine w3 ?_ | ((first | refine w4 ?_ | refine w5 ?_ | refine w6 ?_ | refine w7 ?_); try refine sq1 e11 ?_) | (refine w8 ?_; refine sq1 e11 ?_; refine w9 ?_) | ((first | refine hK _ _ (w0 ?_) | (clear hK K; refine hK _ _ (w0 ?_)) | (clear hK K; clear hK K; refine hK _ _ (w0 ?_))); clear hK K)))
 ·obtain ⟨y, hy, hym⟩ := getElem?_of_lt c2
  have hys := szs_mem Tok.sz hym
  skip
  try refine sq2 e11 hy ?_
  (repeat (first | refine w1 (fun K hK => ?_) | refine w2 ?_ | refine w3 ?_ | ((first | refine w4 ?_ | refine w5 ?_ | refine w6 ?_ | refine w7 ?_); try refine sq2 e11 hy ?_) | (refine w8 ?_; refine sq2 e11 hy ?_; refine w9 ?_) | ((first | refine hK _ _ (w0 ?_) | (clear hK K; refine hK _ _ (w0 ?_)) | (clear hK K; clear hK K; refine hK _ _ (w0 ?_))); clear hK K)))
  refine (badd_sat G hG hC y (by omega) (hb.app _) (by omega) (by omega) (fun o ho => by have := (hkd o ho).1; omega) (fun o ho => by have := (hkd o ho).2; omega)).mono ?_
  intro r h' gp
  have hs := foldB_snoc hy hq
  simp only [] at hs
  rw [← hs] at gp
  obtain ⟨⟨gf, gl⟩, gp⟩ := gp
  have hf2 : FrN (h.length + 1) (h ++ [.row 26 4 0 [.agg [.str [], .nil (.slice none 0 0), .str [], .nil (.slice none 0 0)]]]) h' := hf.trans (fun p hp => by rw [gf p hp, List.getElem?_append_left (by omega)])
  rw [List.length_append] at gl
  have hcell2 := keep h' hf2
  cases hc : foldB [] [] (l.take (k + 1)) with
  | none =>
   rw [hc] at gp
   subst gp
   skip
   try refine sq3 e11 hy hcell2 ?_
   (repeat (first | refine w1 (fun K hK => ?_) | refine w2 ?_ | refine w3 ?_ | ((first | refine w4 ?_ | refine w5 ?_ | refine w6 ?_ | refine w7 ?_); try refine sq3 e11 hy hcell2 ?_) | (refine w8 ?_; refine sq3 e11 hy hcell2 ?_; refine w9 ?_) | ((first | refine hK _ _ (w0 ?_) | (clear hK K; refine hK _ _ (w0 ?_)) | (clear hK K; clear hK K; refine hK _ _ (w0 ?_))); clear hK K)))
   first | refine (hQ _ _ ?_).1 | refine (hQ _ _ ?_).2
   simp (disch := first | omega | (simp only [go_sem, ↓reduceIte, seval]; first | done | omega) | fail) only [go_sem, ↓reduceIte, seval, e11, hy, hcell2, resA, resL, resA1, gs_eq, gr_lt hcell2]
   exact PBldR.bad ((base _ hf2).trans (fun p hp => List.getElem?_set_ne (by omega))) (by simp; omega) (foldB_stop hc)
  | some q =>
   rw [hc] at gp
   obtain ⟨rfl, po2, vo2, room2, os2, pd2, vd2, hb2, ho2⟩ := gp
   obtain ⟨q1, q2⟩ := q
   simp only [] at hb2 ho2
   subst ho2
   try refine sq2 e11 hy ?_
   (repeat (first | refine w1 (fun K hK => ?_) | refine w2 ?_ | refine w3 ?_ | ((first | refine w4 ?_ | refine w5 ?_ | refine w6 ?_ | refine w7 ?_); try refine sq2 e11 hy ?_) | (refine w8 ?_; refine sq2 e11 hy ?_; refine w9 ?_) | ((first | refine hK _ _ (w0 ?_) | (clear hK K; refine hK _ _ (w0 ?_)) | (clear hK K; clear hK K; refine hK _ _ (w0 ?_))); clear hK K)))
   refine hK2 _ _ _ (Wkn.refl ⟨k + 1, h', os2, q2, rfl, (by first | rfl | (simp; done) | (simp; rfl)), ?_, by omega, hc, ⟨hf2, by omega⟩, ⟨po2, vo2, room2, pd2, vd2, hb2⟩⟩) (by omega)
   all_goals first | exact zq2 e11 hy | rfl | omega | trivial | skip
 ·rw [List.take_of_length_le (by omega)] at hq
  have hB := foldB_eq l
  rw [hq] at hB
  have hbb := hb.b
  have hbd := hb.d
  have hbo := hb.o
  skip
  try refine sq6 e11 hbb hbd hbo hcell (@Option.isSome_some (TypeId × Nat × List AVal)) ?_
  have hfin : ∀ x : Elem, ds = [x] → bldF l = some x → Fin h (hh.set h.length (.row 26 4 0 [x.av])) (PBldR h l) (.tup [x.av, .int .i64 0]) := fun x e1 e2 => by
   obtain ⟨j, hj⟩ := FrN.split (H := hh.set h.length (.row 26 4 0 [x.av])) ((base _ hf).trans (fun p hp => List.getElem?_set_ne (by omega))) (by simp; omega)
   rw [hj]
   exact Fin.plain (.tup _ (by intro c hc; simp at hc; rcases hc with rfl | rfl; exact Elem.clo _ _; exact .int _ _)) ⟨x, by rw [e2]; rfl, (fun y hy => by rw [e2] at hy; exact Option.some.inj hy), (fun hn => by rw [e2] at hn; cases hn), rfl⟩
  have hbad : bldF l = none → Fin h (hh.set h.length (.row 26 4 0 [.agg [.str [], .nil (.slice none 0 0), .str [], .nil (.slice none 0 0)]])) (PBldR h l) (.tup [.agg [.str [], .nil (.slice none 0 0), .str [], .nil (.slice none 0 0)], .int .i64 90]) := fun e => PBldR.bad ((base _ hf).trans (fun p hp => List.getElem?_set_ne (by omega))) (by simp; omega) e
  (first | refine gq6 e11 hbb hbd hbo hcell (@Option.isSome_some (TypeId × Nat × List AVal)) (fun g1 => ?_) (fun g1 => ?_) | refine pq6 e11 hbb hbd hbo hcell (@Option.isSome_some (TypeId × Nat × List AVal)) (fun g1 => ?_) (fun g1 => ?_)) <;> (try exact g1.elim) <;> (try refine sq6 e11 hbb hbd hbo hcell (@Option.isSome_some (TypeId × Nat × List AVal)) ?_) <;>
   (repeat (first | refine w1 (fun K hK => ?_) | refine w2 ?_ | refine w3 ?_ | ((first | refine w4 ?_ | refine w5 ?_ | refine w6 ?_ | refine w7 ?_); try refine sq6 e11 hbb hbd hbo hcell (@Option.isSome_some (TypeId × Nat × List AVal)) ?_) | (refine w8 ?_; refine sq6 e11 hbb hbd hbo hcell (@Option.isSome_some (TypeId × Nat × List AVal)) ?_; refine w9 ?_) | ((first | refine hK _ _ (w0 ?_) | (clear hK K; refine hK _ _ (w0 ?_)) | (clear hK K; clear hK K; refine hK _ _ (w0 ?_))); clear hK K)))
  ·first | refine (hQ _ _ ?_).1 | refine (hQ _ _ ?_).2
   simp (disch := first | omega | (simp only [go_sem, ↓reduceIte, seval]; first | done | omega) | fail) only [go_sem, ↓reduceIte, seval, e11, hbb, hbd, hbo, hcell, Option.isSome_some, resA, resL, resA1, gs_eq, gr_lt hcell]
   refine hbad ?_
   rw [← hB]
   match os, ds, g1 with
   | [], [], _ => rfl
   | [], [x], g1 => exact absurd rfl g1
   | [], x :: y :: z, _ => rfl
   | o :: z, _, _ => rfl
  ·obtain ⟨x, rfl⟩ : ∃ x, ds = [x] := List.length_eq_one_iff.1 (by omega)
   have hdx : ([x].map Elem.av)[0]? = some x.av := rfl
   skip
   try refine sq7 e11 hbb hbd hbo hcell (@Option.isSome_some (TypeId × Nat × List AVal)) hdx ?_
   refine cq7 e11 hbb hbd hbo hcell (@Option.isSome_some (TypeId × Nat × List AVal)) hdx (fun g2 => ?_) (fun g2 => ?_) <;> (try exact g2.elim) <;>
    (repeat (first | refine w1 (fun K hK => ?_) | refine w2 ?_ | refine w3 ?_ | ((first | refine w4 ?_ | refine w5 ?_ | refine w6 ?_ | refine w7 ?_); try refine sq7 e11 hbb hbd hbo hcell (@Option.isSome_some (TypeId × Nat × List AVal)) hdx ?_) | (refine w8 ?_; refine sq7 e11 hbb hbd hbo hcell (@Option.isSome_some (TypeId × Nat × List AVal)) hdx ?_; refine w9 ?_) | ((first | refine hK _ _ (w0 ?_) | (clear hK K; refine hK _ _ (w0 ?_)) | (clear hK K; clear hK K; refine hK _ _ (w0 ?_))); clear hK K)))
   ·first | refine (hQ _ _ ?_).1 | refine (hQ _ _ ?_).2
    simp (disch := first | omega | (simp only [go_sem, ↓reduceIte, seval]; first | done | omega) | fail) only [go_sem, ↓reduceIte, seval, e11, hbb, hbd, hbo, hcell, Option.isSome_some, hdx, resA, resL, resA1, gs_eq, gr_lt hcell]
    refine hbad ?_
    rw [← hB]
    match os, g2 with
    | [], g2 => simp at g2
    | o :: z, _ => rfl
   ·first | refine (hQ _ _ ?_).1 | refine (hQ _ _ ?_).2
    simp (disch := first | omega | (simp only [go_sem, ↓reduceIte, seval]; first | done | omega) | fail) only [go_sem, ↓reduceIte, seval, e11, hbb, hbd, hbo, hcell, Option.isSome_some, hdx, resA, resL, resA1, gs_eq, gr_lt hcell]
    have ho : os = [] := List.length_eq_zero_iff.1 (by omega)
    subst ho
    exact hfin x rfl hB.symm
end Go.Av
namespace Go.Av
open Go Go.Proofs Go.RowKit
attribute [local irreducible] WP WPl WPix Sat
set_option maxRecDepth 100000
set_option maxHeartbeats 1000000
variable {G : Nat → Option (List AVal)}
def prsC (s : Bs) : Int := if (toksF s).2 = 0 then (if (bldF (toksF s).1).isSome then 0 else 90) else (toksF s).2
def PrsR (h : Heap) (s : Bs) (r : AVal) (h' : Heap) : Prop :=
 ∃ e : Elem, r = .tup [e.av, .int .i64 (prsC s)] ∧ (∀ x, prsC s = 0 → bldF (toksF s).1 = some x → e = x) ∧ (prsC s ≠ 0 → e = ⟨[], [], [], []⟩) ∧ h' = h
theorem PrsR.bad {h : Heap} {s : Bs} (j : Heap) (c : Int) (e : prsC s = c) (hc : c ≠ 0) : Fin h (h ++ j) (PrsR h s) (.tup [.agg [.str [], .nil (.slice none 0 0), .str [], .nil (.slice none 0 0)], .int .i64 c]) := by
 have z : Frz (h ++ j) h.length (.agg [.str [], .nil (.slice none 0 0), .str [], .nil (.slice none 0 0)]) (Elem.av ⟨[], [], [], []⟩) := by
  rw [Elem.av_eq]
  exact FrzL.agg (.cons (.clo _ (.str _)) (.cons (.nils 2) (.cons (.clo _ (.str _)) (.cons (.nils 4) .nil)))) rfl
 exact Fin.frz (FrzL.tup (.cons z (.cons (.clo _ (.int _ _)) .nil))) ⟨_, by rw [e], (fun x hx => by rw [e] at hx; exact absurd hx hc), fun _ => rfl, rfl⟩
theorem toksF_sz (s : Bs) : szs Tok.sz (toksF s).1 ≤ 10 * s.length := by
 unfold toksF
 split
 ·simp [szs]
 ·have := tksF_sz (s.length + 1) s []; simpa [szs] using this
theorem rParse_sat (hG : GOk G) (hC : GClo (CT G)) (s : Bs) (hs : s.length ≤ 100000) (h : Heap) : Sat (CT G) 11 [.str s] h (PrsR h s) := by
 have hsz : szs Tok.sz (toksF s).1 ≤ 1048576 := by have := toksF_sz s; omega
 refine Sat.body [.cell 2 26, .tmp 3] (fn := Tryz.f11) Tryz.func11 rfl rfl (by kernel_rfl) (by kernel_rfl) (by kernel_rfl) rfl ?_
 intro Q hQ
 (repeat (first | refine w1 (fun K hK => ?_) | refine w2 ?_ | refine w3 ?_ | ((first | refine w4 ?_ | refine w5 ?_ | refine w6 ?_ | refine w7 ?_); try refine sq0 ?_) | (refine w8 ?_; refine sq0 ?_; refine w9 ?_) | ((first | refine hK _ _ (w0 ?_) | (clear hK K; refine hK _ _ (w0 ?_)) | (clear hK K; clear hK K; refine hK _ _ (w0 ?_))); clear hK K)))
 refine (rTokens_sat hG hC s (by omega) _).mono ?_
 rintro r h' ⟨a, rfl, rfl⟩
 try simp (disch := first | omega | (simp only [go_sem, ↓reduceIte, seval]; first | done | omega) | fail) only [go_sem, ↓reduceIte, seval]
 (repeat (first | refine w1 (fun K hK => ?_) | refine w2 ?_ | refine w3 ?_ | ((first | refine w4 ?_ | refine w5 ?_ | refine w6 ?_ | refine w7 ?_); try refine sq0 ?_) | (refine w8 ?_; refine sq0 ?_; refine w9 ?_) | ((first | refine hK _ _ (w0 ?_) | (clear hK K; refine hK _ _ (w0 ?_)) | (clear hK K; clear hK K; refine hK _ _ (w0 ?_))); clear hK K)))
 by_cases c0 : (toksF s).2 = 0
 ·have b0 : ((toksF s).2 != 0) = false := by simpa using c0
  skip
  try refine sq1 b0 ?_
  (repeat (first | refine w1 (fun K hK => ?_) | refine w2 ?_ | refine w3 ?_ | ((first | refine w4 ?_ | refine w5 ?_ | refine w6 ?_ | refine w7 ?_); try refine sq1 b0 ?_) | (refine w8 ?_; refine sq1 b0 ?_; refine w9 ?_) | ((first | refine hK _ _ (w0 ?_) | (clear hK K; refine hK _ _ (w0 ?_)) | (clear hK K; clear hK K; refine hK _ _ (w0 ?_))); clear hK K)))
  refine (rBuild_sat (toksF s).1 hsz _).mono ?_
  rintro r h' ⟨e, rfl, he, rfl⟩
  try simp (disch := first | omega | (simp only [go_sem, ↓reduceIte, seval]; first | done | omega) | fail) only [go_sem, ↓reduceIte, seval, b0]
  (repeat (first | refine w1 (fun K hK => ?_) | refine w2 ?_ | refine w3 ?_ | ((first | refine w4 ?_ | refine w5 ?_ | refine w6 ?_ | refine w7 ?_); try refine sq1 b0 ?_) | (refine w8 ?_; refine sq1 b0 ?_; refine w9 ?_) | ((first | refine hK _ _ (w0 ?_) | (clear hK K; refine hK _ _ (w0 ?_)) | (clear hK K; clear hK K; refine hK _ _ (w0 ?_))); clear hK K)))
  cases hb : bldF (toksF s).1 with
  | none =>
   have no1 : (none : Option Elem).isSome = false := rfl
   skip
   try refine sq2 b0 no1 ?_
   (repeat (first | refine w1 (fun K hK => ?_) | refine w2 ?_ | refine w3 ?_ | ((first | refine w4 ?_ | refine w5 ?_ | refine w6 ?_ | refine w7 ?_); try refine sq2 b0 no1 ?_) | (refine w8 ?_; refine sq2 b0 no1 ?_; refine w9 ?_) | ((first | refine hK _ _ (w0 ?_) | (clear hK K; refine hK _ _ (w0 ?_)) | (clear hK K; clear hK K; refine hK _ _ (w0 ?_))); clear hK K)))
   first | refine (hQ _ _ ?_).1 | refine (hQ _ _ ?_).2
   simp (disch := first | omega | (simp only [go_sem, ↓reduceIte, seval]; first | done | omega) | fail) only [go_sem, ↓reduceIte, seval, b0, no1, resA, resL, resA1]
   exact PrsR.bad _ 90 (by unfold prsC; rw [if_pos c0, hb]; rfl) (by omega)
  | some x =>
   have hp : prsC s = 0 := by unfold prsC; rw [if_pos c0, hb]; rfl
   try refine sq1 b0 ?_
   (repeat (first | refine w1 (fun K hK => ?_) | refine w2 ?_ | refine w3 ?_ | ((first | refine w4 ?_ | refine w5 ?_ | refine w6 ?_ | refine w7 ?_); try refine sq1 b0 ?_) | (refine w8 ?_; refine sq1 b0 ?_; refine w9 ?_) | ((first | refine hK _ _ (w0 ?_) | (clear hK K; refine hK _ _ (w0 ?_)) | (clear hK K; clear hK K; refine hK _ _ (w0 ?_))); clear hK K)))
   first | refine (hQ _ _ ?_).1 | refine (hQ _ _ ?_).2
   simp (disch := first | omega | (simp only [go_sem, ↓reduceIte, seval]; first | done | omega) | fail) only [go_sem, ↓reduceIte, seval, b0, resA, resL, resA1]
   exact Fin.plain (.tup _ (by intro c hc; simp at hc; rcases hc with rfl | rfl; exact Elem.clo _ _; exact .int _ _)) ⟨e, by rw [hp], (fun y _ hy => he y hy), (fun hne => absurd hp hne), rfl⟩
 ·have b0 : ((toksF s).2 != 0) = true := by simpa using c0
  skip
  try refine sq1 b0 ?_
  (repeat (first | refine w1 (fun K hK => ?_) | refine w2 ?_ | refine w3 ?_ | ((first | refine w4 ?_ | refine w5 ?_ | refine w6 ?_ | refine w7 ?_); try refine sq1 b0 ?_) | (refine w8 ?_; refine sq1 b0 ?_; refine w9 ?_) | ((first | refine hK _ _ (w0 ?_) | (clear hK K; refine hK _ _ (w0 ?_)) | (clear hK K; clear hK K; refine hK _ _ (w0 ?_))); clear hK K)))
  first | refine (hQ _ _ ?_).1 | refine (hQ _ _ ?_).2
  simp (disch := first | omega | (simp only [go_sem, ↓reduceIte, seval]; first | done | omega) | fail) only [go_sem, ↓reduceIte, seval, b0, resA, resL, resA1]
  exact PrsR.bad _ _ (by unfold prsC; rw [if_neg c0]) c0
end Go.Av
namespace Go.Av
open Go Go.Proofs Go.RowKit
attribute [local irreducible] WP WPl WPix Sat
set_option maxRecDepth 100000
set_option maxHeartbeats 1000000
variable (G : Nat → Option (List AVal))
theorem PParse_sat (hG : GOk G) (hC : GClo (CT G)) (s : Bs) (hs : s.length ≤ 100000) (h : Heap) : Sat (CT G) 10 [.str s] h (PrsR h s) := by
 have hsz : szs Tok.sz (toksF s).1 ≤ 1048576 := by have := toksF_sz s; omega
 refine Sat.body [.cell 2 26, .tmp 3] (fn := Tryz.f10) Tryz.func10 rfl rfl (by kernel_rfl) (by kernel_rfl) (by kernel_rfl) rfl ?_
 intro Q hQ
 (repeat (first | refine w1 (fun K hK => ?_) | refine w2 ?_ | refine w3 ?_ | ((first | refine w4 ?_ | refine w5 ?_ | refine w6 ?_ | refine w7 ?_); try refine sq0 ?_) | (refine w8 ?_; refine sq0 ?_; refine w9 ?_) | ((first | refine hK _ _ (w0 ?_) | (clear hK K; refine hK _ _ (w0 ?_)) | (clear hK K; clear hK K; refine hK _ _ (w0 ?_))); clear hK K)))
 refine (Tokens8_sat G hG s (by omega) _).mono ?_
 rintro r h' ⟨a, rfl, rfl⟩
 try simp (disch := first | omega | (simp only [go_sem, ↓reduceIte, seval]; first | done | omega) | fail) only [go_sem, ↓reduceIte, seval]
 (repeat (first | refine w1 (fun K hK => ?_) | refine w2 ?_ | refine w3 ?_ | ((first | refine w4 ?_ | refine w5 ?_ | refine w6 ?_ | refine w7 ?_); try refine sq0 ?_) | (refine w8 ?_; refine sq0 ?_; refine w9 ?_) | ((first | refine hK _ _ (w0 ?_) | (clear hK K; refine hK _ _ (w0 ?_)) | (clear hK K; clear hK K; refine hK _ _ (w0 ?_))); clear hK K)))
 by_cases c0 : (toksF s).2 = 0
 ·have b0 : ((toksF s).2 != 0) = false := by simpa using c0
  skip
  try refine sq1 b0 ?_
  (repeat (first | refine w1 (fun K hK => ?_) | refine w2 ?_ | refine w3 ?_ | ((first | refine w4 ?_ | refine w5 ?_ | refine w6 ?_ | refine w7 ?_); try refine sq1 b0 ?_) | (refine w8 ?_; refine sq1 b0 ?_; refine w9 ?_) | ((first | refine hK _ _ (w0 ?_) | (clear hK K; refine hK _ _ (w0 ?_)) | (clear hK K; clear hK K; refine hK _ _ (w0 ?_))); clear hK K)))
  refine (PBuild_sat G hG hC (toksF s).1 hsz _).mono ?_
  rintro r h' ⟨e, rfl, he, hz, rfl⟩
  try simp (disch := first | omega | (simp only [go_sem, ↓reduceIte, seval]; first | done | omega) | fail) only [go_sem, ↓reduceIte, seval, b0]
  (repeat (first | refine w1 (fun K hK => ?_) | refine w2 ?_ | refine w3 ?_ | ((first | refine w4 ?_ | refine w5 ?_ | refine w6 ?_ | refine w7 ?_); try refine sq1 b0 ?_) | (refine w8 ?_; refine sq1 b0 ?_; refine w9 ?_) | ((first | refine hK _ _ (w0 ?_) | (clear hK K; refine hK _ _ (w0 ?_)) | (clear hK K; clear hK K; refine hK _ _ (w0 ?_))); clear hK K)))
  first | refine (hQ _ _ ?_).1 | refine (hQ _ _ ?_).2
  simp (disch := first | omega | (simp only [go_sem, ↓reduceIte, seval]; first | done | omega) | fail) only [go_sem, ↓reduceIte, seval, b0, resA, resL, resA1]
  have hp : prsC s = if (bldF (toksF s).1).isSome then 0 else 90 := by unfold prsC; rw [if_pos c0]
  exact Fin.plain (.tup _ (by intro c hc; simp at hc; rcases hc with rfl | rfl; exact Elem.clo _ _; exact .int _ _)) ⟨e, by rw [hp], (fun y _ hy => he y hy), (fun hne => hz (by cases hb : bldF (toksF s).1 with | none => rfl | some x => rw [hp, hb] at hne; exact absurd rfl hne)), rfl⟩
 ·have b0 : ((toksF s).2 != 0) = true := by simpa using c0
  skip
  try refine sq1 b0 ?_
  (repeat (first | refine w1 (fun K hK => ?_) | refine w2 ?_ | refine w3 ?_ | ((first | refine w4 ?_ | refine w5 ?_ | refine w6 ?_ | refine w7 ?_); try refine sq1 b0 ?_) | (refine w8 ?_; refine sq1 b0 ?_; refine w9 ?_) | ((first | refine hK _ _ (w0 ?_) | (clear hK K; refine hK _ _ (w0 ?_)) | (clear hK K; clear hK K; refine hK _ _ (w0 ?_))); clear hK K)))
  first | refine (hQ _ _ ?_).1 | refine (hQ _ _ ?_).2
  simp (disch := first | omega | (simp only [go_sem, ↓reduceIte, seval]; first | done | omega) | fail) only [go_sem, ↓reduceIte, seval, b0, resA, resL, resA1]
  exact PrsR.bad _ _ (by unfold prsC; rw [if_neg c0]) c0
theorem TreeParses_sat (hG : GOk G) (hC : GClo (CT G)) (hlives : ∀ h, Sat (CT G) 9 [] h (fun r h' => r = .bool true ∧ h' = h)) (s : Bs) (h : Heap) :
  Sat (CT G) 3 [.str s] h (fun r h' => r = .bool true ∧ h' = h) := by
 skip
 refine Sat.body [.tmp 2] (fn := Tryz.f3) Tryz.func3 rfl rfl (by kernel_rfl) (by kernel_rfl) (by kernel_rfl) rfl ?_
 intro Q hQ
 (repeat (first | refine w1 (fun K hK => ?_) | refine w2 ?_ | refine w3 ?_ | ((first | refine w4 ?_ | refine w5 ?_ | refine w6 ?_ | refine w7 ?_); try refine sq9 (@beq_self_eq_true Int _ _) (@beq_self_eq_true Bool _ _) (@beq_self_eq_true Bs _ _) (@bne_self_eq_false Int _ _) (@bne_self_eq_false Bool _ _) (@bne_self_eq_false Bs _ _) @Bool.not_true @Bool.not_false @decide_true ?_) | (refine w8 ?_; refine sq9 (@beq_self_eq_true Int _ _) (@beq_self_eq_true Bool _ _) (@beq_self_eq_true Bs _ _) (@bne_self_eq_false Int _ _) (@bne_self_eq_false Bool _ _) (@bne_self_eq_false Bs _ _) @Bool.not_true @Bool.not_false @decide_true ?_; refine w9 ?_) | ((first | refine hK _ _ (w0 ?_) | (clear hK K; refine hK _ _ (w0 ?_)) | (clear hK K; clear hK K; refine hK _ _ (w0 ?_))); clear hK K)))
 refine cq9 (@beq_self_eq_true Int _ _) (@beq_self_eq_true Bool _ _) (@beq_self_eq_true Bs _ _) (@bne_self_eq_false Int _ _) (@bne_self_eq_false Bool _ _) (@bne_self_eq_false Bs _ _) @Bool.not_true @Bool.not_false @decide_true (fun hl => ?_) (fun hl => ?_) <;> (try exact hl.elim) <;>
  (repeat (first | refine w1 (fun K hK => ?_) | refine w2 ?_ | refine w3 ?_ | ((first | refine w4 ?_ | refine w5 ?_ | refine w6 ?_ | refine w7 ?_); try refine sq9 (@beq_self_eq_true Int _ _) (@beq_self_eq_true Bool _ _) (@beq_self_eq_true Bs _ _) (@bne_self_eq_false Int _ _) (@bne_self_eq_false Bool _ _) (@bne_self_eq_false Bs _ _) @Bool.not_true @Bool.not_false @decide_true ?_) | (refine w8 ?_; refine sq9 (@beq_self_eq_true Int _ _) (@beq_self_eq_true Bool _ _) (@beq_self_eq_true Bs _ _) (@bne_self_eq_false Int _ _) (@bne_self_eq_false Bool _ _) (@bne_self_eq_false Bs _ _) @Bool.not_true @Bool.not_false @decide_true ?_; refine w9 ?_) | ((first | refine hK _ _ (w0 ?_) | (clear hK K; refine hK _ _ (w0 ?_)) | (clear hK K; clear hK K; refine hK _ _ (w0 ?_))); clear hK K)))
 ·refine (hlives _).mono ?_
  rintro r h' ⟨rfl, rfl⟩
  try refine sq9 (@beq_self_eq_true Int _ _) (@beq_self_eq_true Bool _ _) (@beq_self_eq_true Bs _ _) (@bne_self_eq_false Int _ _) (@bne_self_eq_false Bool _ _) (@bne_self_eq_false Bs _ _) @Bool.not_true @Bool.not_false @decide_true ?_
  (repeat (first | refine w1 (fun K hK => ?_) | refine w2 ?_ | refine w3 ?_ | ((first | refine w4 ?_ | refine w5 ?_ | refine w6 ?_ | refine w7 ?_); try refine sq9 (@beq_self_eq_true Int _ _) (@beq_self_eq_true Bool _ _) (@beq_self_eq_true Bs _ _) (@bne_self_eq_false Int _ _) (@bne_self_eq_false Bool _ _) (@bne_self_eq_false Bs _ _) @Bool.not_true @Bool.not_false @decide_true ?_) | (refine w8 ?_; refine sq9 (@beq_self_eq_true Int _ _) (@beq_self_eq_true Bool _ _) (@beq_self_eq_true Bs _ _) (@bne_self_eq_false Int _ _) (@bne_self_eq_false Bool _ _) (@bne_self_eq_false Bs _ _) @Bool.not_true @Bool.not_false @decide_true ?_; refine w9 ?_) | ((first | refine hK _ _ (w0 ?_) | (clear hK K; refine hK _ _ (w0 ?_)) | (clear hK K; clear hK K; refine hK _ _ (w0 ?_))); clear hK K)))
  first | refine (hQ _ _ ?_).1 | refine (hQ _ _ ?_).2
  refine sq9 (@beq_self_eq_true Int _ _) (@beq_self_eq_true Bool _ _) (@beq_self_eq_true Bs _ _) (@bne_self_eq_false Int _ _) (@bne_self_eq_false Bool _ _) (@bne_self_eq_false Bs _ _) @Bool.not_true @Bool.not_false @decide_true ?_
  first | refine Fin.same (.bool _) ⟨?_, rfl⟩ | refine Fin.plain (.bool _) ⟨?_, rfl⟩ | refine Fin.plainE (by simp only [List.append_assoc, List.cons_append, List.nil_append]; rfl) (.bool _) ⟨?_, rfl⟩
  rfl
 have hsz : szs Tok.sz (toksF s).1 ≤ 1048576 := by have := toksF_sz s; omega
 refine (PParse_sat G hG hC s (by omega) _).mono ?_
 rintro r h' ⟨e, rfl, he, hez, rfl⟩
 try simp (disch := first | omega | (simp only [go_sem, ↓reduceIte, seval]; first | done | omega) | fail) only [go_sem, ↓reduceIte, seval, beq_self_eq_true, bne_self_eq_false, Bool.not_true, Bool.not_false, decide_true]
 (repeat (first | refine w1 (fun K hK => ?_) | refine w2 ?_ | refine w3 ?_ | ((first | refine w4 ?_ | refine w5 ?_ | refine w6 ?_ | refine w7 ?_); try refine sq9 (@beq_self_eq_true Int _ _) (@beq_self_eq_true Bool _ _) (@beq_self_eq_true Bs _ _) (@bne_self_eq_false Int _ _) (@bne_self_eq_false Bool _ _) (@bne_self_eq_false Bs _ _) @Bool.not_true @Bool.not_false @decide_true ?_) | (refine w8 ?_; refine sq9 (@beq_self_eq_true Int _ _) (@beq_self_eq_true Bool _ _) (@beq_self_eq_true Bs _ _) (@bne_self_eq_false Int _ _) (@bne_self_eq_false Bool _ _) (@bne_self_eq_false Bs _ _) @Bool.not_true @Bool.not_false @decide_true ?_; refine w9 ?_) | ((first | refine hK _ _ (w0 ?_) | (clear hK K; refine hK _ _ (w0 ?_)) | (clear hK K; clear hK K; refine hK _ _ (w0 ?_))); clear hK K)))
 refine (rParse_sat hG hC s (by omega) _).mono ?_
 rintro r h' ⟨x, rfl, hx, hxz, rfl⟩
 try simp (disch := first | omega | (simp only [go_sem, ↓reduceIte, seval]; first | done | omega) | fail) only [go_sem, ↓reduceIte, seval, beq_self_eq_true, bne_self_eq_false, Bool.not_true, Bool.not_false, decide_true]
 (repeat (first | refine w1 (fun K hK => ?_) | refine w2 ?_ | refine w3 ?_ | ((first | refine w4 ?_ | refine w5 ?_ | refine w6 ?_ | refine w7 ?_); try refine sq9 (@beq_self_eq_true Int _ _) (@beq_self_eq_true Bool _ _) (@beq_self_eq_true Bs _ _) (@bne_self_eq_false Int _ _) (@bne_self_eq_false Bool _ _) (@bne_self_eq_false Bs _ _) @Bool.not_true @Bool.not_false @decide_true ?_) | (refine w8 ?_; refine sq9 (@beq_self_eq_true Int _ _) (@beq_self_eq_true Bool _ _) (@beq_self_eq_true Bs _ _) (@bne_self_eq_false Int _ _) (@bne_self_eq_false Bool _ _) (@bne_self_eq_false Bs _ _) @Bool.not_true @Bool.not_false @decide_true ?_; refine w9 ?_) | ((first | refine hK _ _ (w0 ?_) | (clear hK K; refine hK _ _ (w0 ?_)) | (clear hK K; clear hK K; refine hK _ _ (w0 ?_))); clear hK K)))
 have key : e = x ∧ e.sz ≤ 1048576 ∧ deep e 1 ≤ 32 := by
  by_cases hp : prsC s = 0
  ·have c0 : (toksF s).2 = 0 := Classical.byContradiction fun hc => by
    unfold prsC at hp
    rw [if_neg hc] at hp
    exact hc hp
   cases hb : bldF (toksF s).1 with
   | none => unfold prsC at hp; rw [if_pos c0, hb] at hp; exact absurd hp (by decide)
   | some y =>
    have h1 := he y hp hb
    have h2 := hx y hp hb
    have h3 := bldF_sz hb
    have h4 := bldF_deep hb
    subst h1; subst h2
    exact ⟨rfl, by omega, h4⟩
  ·rw [hez hp, hxz hp]
   exact ⟨rfl, by decide, by decide⟩
 obtain ⟨rfl, hes, hed⟩ := key
 have hsame := sameF_refl 32 1 (by omega) e hed
 skip
 refine (hlives _).mono ?_
 rintro r h' ⟨rfl, rfl⟩
 try refine sq10 (@beq_self_eq_true Int _ _) (@beq_self_eq_true Bool _ _) (@beq_self_eq_true Bs _ _) (@bne_self_eq_false Int _ _) (@bne_self_eq_false Bool _ _) (@bne_self_eq_false Bs _ _) @Bool.not_true @Bool.not_false @decide_true hsame ?_
 (repeat (first | refine w1 (fun K hK => ?_) | refine w2 ?_ | refine w3 ?_ | ((first | refine w4 ?_ | refine w5 ?_ | refine w6 ?_ | refine w7 ?_); try refine sq10 (@beq_self_eq_true Int _ _) (@beq_self_eq_true Bool _ _) (@beq_self_eq_true Bs _ _) (@bne_self_eq_false Int _ _) (@bne_self_eq_false Bool _ _) (@bne_self_eq_false Bs _ _) @Bool.not_true @Bool.not_false @decide_true hsame ?_) | (refine w8 ?_; refine sq10 (@beq_self_eq_true Int _ _) (@beq_self_eq_true Bool _ _) (@beq_self_eq_true Bs _ _) (@bne_self_eq_false Int _ _) (@bne_self_eq_false Bool _ _) (@bne_self_eq_false Bs _ _) @Bool.not_true @Bool.not_false @decide_true hsame ?_; refine w9 ?_) | ((first | refine hK _ _ (w0 ?_) | (clear hK K; refine hK _ _ (w0 ?_)) | (clear hK K; clear hK K; refine hK _ _ (w0 ?_))); clear hK K)))
 refine (Same_sat G e e hes hes _).mono ?_
 rintro r h' ⟨rfl, rfl⟩
 try refine sq10 (@beq_self_eq_true Int _ _) (@beq_self_eq_true Bool _ _) (@beq_self_eq_true Bs _ _) (@bne_self_eq_false Int _ _) (@bne_self_eq_false Bool _ _) (@bne_self_eq_false Bs _ _) @Bool.not_true @Bool.not_false @decide_true hsame ?_
 (repeat (first | refine w1 (fun K hK => ?_) | refine w2 ?_ | refine w3 ?_ | ((first | refine w4 ?_ | refine w5 ?_ | refine w6 ?_ | refine w7 ?_); try refine sq10 (@beq_self_eq_true Int _ _) (@beq_self_eq_true Bool _ _) (@beq_self_eq_true Bs _ _) (@bne_self_eq_false Int _ _) (@bne_self_eq_false Bool _ _) (@bne_self_eq_false Bs _ _) @Bool.not_true @Bool.not_false @decide_true hsame ?_) | (refine w8 ?_; refine sq10 (@beq_self_eq_true Int _ _) (@beq_self_eq_true Bool _ _) (@beq_self_eq_true Bs _ _) (@bne_self_eq_false Int _ _) (@bne_self_eq_false Bool _ _) (@bne_self_eq_false Bs _ _) @Bool.not_true @Bool.not_false @decide_true hsame ?_; refine w9 ?_) | ((first | refine hK _ _ (w0 ?_) | (clear hK K; refine hK _ _ (w0 ?_)) | (clear hK K; clear hK K; refine hK _ _ (w0 ?_))); clear hK K)))
 first | refine (hQ _ _ ?_).1 | refine (hQ _ _ ?_).2
 refine sq10 (@beq_self_eq_true Int _ _) (@beq_self_eq_true Bool _ _) (@beq_self_eq_true Bs _ _) (@bne_self_eq_false Int _ _) (@bne_self_eq_false Bool _ _) (@bne_self_eq_false Bs _ _) @Bool.not_true @Bool.not_false @decide_true hsame ?_
 first | refine Fin.same (.bool _) ⟨?_, rfl⟩ | refine Fin.plain (.bool _) ⟨?_, rfl⟩ | refine Fin.plainE (by simp only [List.append_assoc, List.cons_append, List.nil_append]; rfl) (.bool _) ⟨?_, rfl⟩
 rfl
end Go.Av
namespace Go.Av
open Go Go.Proofs Go.RowKit
set_option maxRecDepth 1000000
set_option maxHeartbeats 4000000
theorem lives09 (G : Nat → Option (List AVal)) : isT (runX (CT G) orcL 1000 100 9 []) = true := by
 kernel_rfl
end Go.Av
namespace Go.Proofs.YtjgligkejfjbpaaGreatDoor.treeParses
open Go Go.Av Go.RowKit Go.ChangeShapes Go.WideShapes Go.ChangeAt
set_option maxRecDepth 100000
theorem lives {m : Int} (h : Heap) : Sat (CT (gM m)) 9 [] h (fun r h' => r = .bool true ∧ h' = h) :=
 Sat.lives (gM_clo m) (orcL_ok (gM_ok m)) 1000 100 rfl (lives09 _) h
theorem contract (H : Type) (enc : TypeId × Value → H) (W : World) (base : Nat) (args : Array Value) (ds gs : List (DataW H)) (before : List MemPlace)
  (hval : ∀ (j : Nat) t v, Tryz.f3.params[j]? = some t → args[j]? = some v → Value.okWide Tryz.prog W .any base t v)
  (hW : DataW.Whole enc Tryz.prog Tryz.f3.params.toList Rows.treeParsesSpec.vars false W args.toList ds gs before) (hsh : W.ShapedOpen Tryz.prog) :
  Calls Tryz.prog 3 args W fun e W' => ∃ v, e = .returned v ∧ Rows.treeParsesSpec.post enc Tryz.prog Tryz.f3 false true false false W args v W' := by
 have hW' := hW
 obtain ⟨p, q, hA0, hV, rfl, hfz, hnd⟩ := hW
 have hA : DataW.TrodAll enc Tryz.prog W 0 (fun _ => true) true Tryz.f3.params.toList args.toList ds p := hA0
 rw [Tryz.params3] at hA hval
 obtain ⟨v0, vs0, d0, ds0, p0, q0, hargs, rfl, rfl, h0, r0⟩ := trodAll_cons hA
 obtain ⟨rfl, rfl, rfl⟩ := trodAll_nil r0
 obtain ⟨rfl, rfl⟩ := trodVars_none hV
 obtain rfl : args = #[v0] := by cases args; simp_all
 obtain ⟨n, rn, bn⟩ := str_of_trod Tryz.underlying9 (hval 0 9 v0 rfl rfl) h0
 obtain ⟨m, hm⟩ := maxLen_shape hsh
 refine contract_of_sat (C := CT (gM m)) Tryz.func3 rfl rfl kids_prog full_prog (fun t ht => ?_) rfl rfl rfl Tryz.underlying4 hW' (gM_rep hm) (xs := [.str n]) ⟨rfl, fun i x hi => ?_⟩ (TreeParses_sat (gM m) (gM_ok m) (gM_clo m) (fun h => lives h) n [])
 ·rw [Tryz.params3] at ht
  change t ∈ [_] at ht
  refine params_row t ?_
  simp only [List.mem_cons, List.mem_nil_iff, or_false] at ht ⊢
  subst ht; simp
 ·match i with
  | 0 => simp at hi; subst hi; exact rn
  | i + 1 => simp at hi
def wit : Array Value := #[.string .empty]
theorem laid_met (os : Os) : laidMet Tryz.prog Rows.treeParsesRow.laid ((laidWorld os wit).forCall (fun _ _ => 0) ⟨#[], wit, []⟩).memory :=
 laidMet_of_run' 8 (by kernel_rfl) (by kernel_rfl)
theorem reads (os : Os) {H : Type} (enc : TypeId × Value → H) : ∃ places, DataW.whole enc Tryz.prog ((laidWorld os wit).forCall (fun _ _ => 0) ⟨#[], wit, []⟩).memory Tryz.f3.params.toList Rows.treeParsesSpec.vars false wit.toList 8 =
  some ([.lit (.string [])], [], places) :=
 ⟨[], by kernel_rfl⟩
theorem lifted (os : Os) (started : os.Started) (H : Type) (enc : TypeId × Value → H) (F : Stop.Interp) :
  ReturnsInHanded {} Tryz.checked os 3 .any ((OpenSpec.ofChange Rows.treeParsesSpec).preRow enc Tryz.prog Tryz.f3 Rows.treeParsesRow.domain false Rows.treeParsesRow.laid) (((OpenSpec.ofChange Rows.treeParsesSpec).at F).post enc Tryz.prog Tryz.f3 false true false false) := by
 obtain ⟨places, hx⟩ := reads os enc
 refine returnsInHanded_of_row (C := Tryz.checked) (s := OpenSpec.ofChange Rows.treeParsesSpec) own_prog started (by kernel_rfl) Tryz.func3
  (witness_row_at (enc := enc) (C := Tryz.checked) false (laidWorld os wit) wit rfl (by kernel_rfl) (by kernel_rfl) (by kernel_rfl)
   (OpenSpec.preRow_of_cond 8 hx (by kernel_rfl) (fun k hk => by cases hk <;> kernel_rfl) (by kernel_rfl) (laid_met os))) ?_
 intro W base args ds gs before hval hW _ _ _ _ hsh _
 exact contract H enc W base args ds gs before hval hW hsh
theorem said : Rows.TreeParsesSaid :=
 OpenClaim.holds_of_cond 3 Tryz.f3 rfl rfl rfl rfl rfl rfl rfl ⟨rfl, rfl, rfl, rfl, rfl⟩ rfl rfl rfl rfl rfl (by kernel_rfl) Tryz.func3 (by kernel_rfl)
  (of_decide_eq_true (by kernel_rfl)) (by unfold Func.isWrapper; first | (rw [if_pos (by decide +kernel)]; kernel_rfl) | (rw [if_neg (by decide +kernel)]; exact ⟨rfl, rfl⟩))
  (fun os started H enc _ F => by rw [OpenClaim.pre_eq_preRow]; exact lifted os started H enc F)
theorem plain (f : FuncId) (fn : Func) (hf : Tryz.pinned.checked.prog.funcNamed "newsstand/newsstandlaw09.TreeParses" = some f) (hfn : Tryz.pinned.checked.prog.funcs[f]? = some fn) :
  false = Tryz.pinned.checked.prog.looks [] ∧ ∀ (j : Nat) t, fn.params[j]? = some t → Tryz.pinned.checked.prog.wantsStandIn t = false := by
 obtain rfl : f = 3 := Option.some.inj ((show Tryz.prog.funcNamed "newsstand/newsstandlaw09.TreeParses" = some 3 by kernel_rfl).symm.trans hf) |>.symm
 obtain rfl : fn = Tryz.f3 := (Option.some.inj (Tryz.func3.symm.trans hfn)).symm
 refine ⟨by kernel_rfl, fun j t ht => ?_⟩
 rw [Tryz.params3] at ht
 have hm := Array.mem_of_getElem? ht
 simp only [List.mem_toArray, List.mem_cons, List.mem_nil_iff, or_false] at hm
 subst hm
 exact (show Tryz.prog.wantsStandIn 9 = false by kernel_rfl)
theorem card : Rows.TreeParsesCardSaid :=
 Claim7.holds_tied_plain_at .later [] _ _ _ _ said (fun _ h => by cases h) (by kernel_rfl) (fun _ h => by cases h) treeParses_row_tie rfl ⟨rfl, rfl⟩ (by kernel_rfl) rfl plain (by kernel_rfl)
end Go.Proofs.YtjgligkejfjbpaaGreatDoor.treeParses
