/- The program's tree.builder: a tag that closes. -/
import Derived.Test.YtjgligkejfjbpaaGreatDoorUnUb
import Derived.Test.YtjgligkejfjbpaaGreatDoorUnIb
import Derived.Test.YtjgligkejfjbpaaGreatDoorUnNe
set_option linter.unusedSimpArgs false
set_option linter.unusedVariables false
namespace Go.Av
open Go Go.Proofs Go.RowKit
attribute [local irreducible] WP WPl WPix Sat
set_option maxRecDepth 100000
set_option maxHeartbeats 1000000
variable (G : Nat → Option (List AVal))
theorem wrapu8_in {x : Int} (h0 : 0 ≤ x) (h1 : x < 256) : IntKind.u8.wrap x = x := by
 simp only [IntKind.wrap, IntKind.bits, IntKind.signed]; simp; omega
theorem aconv_r8 (k : IntKind) (n : Int) (h0 : 0 ≤ n) (h1 : n < 256) : aconv Tryz.prog 21 5 (.int k n) = some (.int .u8 n) := by simp only [aconv, go_sem, wrapu8_in h0 h1]
theorem aconv_8i (k : IntKind) (n : Int) (h0 : 0 ≤ n) (h1 : n < 256) : aconv Tryz.prog 5 3 (.int k n) = some (.int .i64 n) := by simp only [aconv, go_sem, wrap64_in (x := n) (by omega) (by omega)]
theorem tdiv_in {a b : Int} (h0 : 0 ≤ a) : a.tdiv b = a / b := Int.tdiv_eq_ediv_of_nonneg h0
theorem tmod_in {a b : Int} (h0 : 0 ≤ a) : a.tmod b = a % b := Int.tmod_eq_emod_of_nonneg h0
theorem Bytes.clo (n m : Nat) (l : Bs) : Clo n (.sl m (l.map bytA)) := .sl _ _ fun e he => by obtain ⟨a, _, rfl⟩ := List.mem_map.1 he; exact .int _ _
theorem one_sat (r : Int) (hr : Rune r) (h : Heap) : Sat (CT G) 169 [.int .i32 r] h (fun x h' => x = .sl 1 ((enc r).map bytA) ∧ h' = h) := by
 obtain ⟨h0, h1⟩ := id hr
 have n64 : ((64 : Int) = 0) = False := by decide
 have F := F4 @aconv_r8 @wrap32_in @tdiv_in @tmod_in
 refine sb [.tmp 2] (fn := Tryz.f169) Tryz.func169 ?_
 intro Q hQ
 (repeat (first | refine w1 (fun K hK => ?_) | refine w2 ?_ | refine w3 ?_ | ((first | refine w4 ?_ | refine wD ?_ | refine w5 ?_ | refine w6 ?_ | refine w7 ?_); try refine sq F ?_) | (refine w8 ?_; refine sq F ?_; refine w9 ?_) | (refine rq F ?_; try refine sq F ?_) | (refine vq F ?_; try refine sq F ?_) | ((first | refine hK _ _ (w0 ?_) | (clear hK K; refine hK _ _ (w0 ?_)) | (clear hK K; clear hK K; refine hK _ _ (w0 ?_))); clear hK K)))
 (first | refine gq F (fun g1 => ?_) (fun g1 => ?_) | refine pq F (fun g1 => ?_) (fun g1 => ?_)) <;> (try exact g1.elim) <;> (try refine sq F ?_) <;> ((repeat (first | refine w1 (fun K hK => ?_) | refine w2 ?_ | refine w3 ?_ | ((first | refine w4 ?_ | refine wD ?_ | refine w5 ?_ | refine w6 ?_ | refine w7 ?_); try refine sq F ?_) | (refine w8 ?_; refine sq F ?_; refine w9 ?_) | (refine rq F ?_; try refine sq F ?_) | (refine vq F ?_; try refine sq F ?_) | ((first | refine hK _ _ (w0 ?_) | (clear hK K; refine hK _ _ (w0 ?_)) | (clear hK K; clear hK K; refine hK _ _ (w0 ?_))); clear hK K))))
 ·exfalso; omega
 ·have big : ∀ (t' : Env), t' 0 = .int .i32 r → t' 16 = .bool false → K t' h := by
   intro t' e0 e16
   refine hK _ _ (Wkn.refl ?_)
   clear hK K
   have F := F3 F e0 e16
   (repeat (first | refine w1 (fun K hK => ?_) | refine w2 ?_ | refine w3 ?_ | ((first | refine w4 ?_ | refine wD ?_ | refine w5 ?_ | refine w6 ?_ | refine w7 ?_); try refine sq F ?_) | (refine w8 ?_; refine sq F ?_; refine w9 ?_) | (refine rq F ?_; try refine sq F ?_) | (refine vq F ?_; try refine sq F ?_) | ((first | refine hK _ _ (w0 ?_) | (clear hK K; refine hK _ _ (w0 ?_)) | (clear hK K; clear hK K; refine hK _ _ (w0 ?_))); clear hK K)))
   have fin : ∀ l : List AVal, (enc r).map bytA = l → Fin h h (fun x h' => x = .sl 1 ((enc r).map bytA) ∧ h' = h) (.sl 1 l) := fun l e => by
    rw [← e]; exact Fin.frzS (.clo _ (Bytes.clo _ _ _)) ⟨rfl, rfl⟩
   refine cq F (fun c1 => ?_) (fun c1 => ?_) <;> (try exact c1.elim) <;> ((repeat (first | refine w1 (fun K hK => ?_) | refine w2 ?_ | refine w3 ?_ | ((first | refine w4 ?_ | refine wD ?_ | refine w5 ?_ | refine w6 ?_ | refine w7 ?_); try refine sq F ?_) | (refine w8 ?_; refine sq F ?_; refine w9 ?_) | (refine rq F ?_; try refine sq F ?_) | (refine vq F ?_; try refine sq F ?_) | ((first | refine hK _ _ (w0 ?_) | (clear hK K; refine hK _ _ (w0 ?_)) | (clear hK K; clear hK K; refine hK _ _ (w0 ?_))); clear hK K))))
   ·refine ee hQ F ?_
    exact fin _ (enc1 h0 c1)
   ·refine cq F (fun c2 => ?_) (fun c2 => ?_) <;> (try exact c2.elim) <;> ((repeat (first | refine w1 (fun K hK => ?_) | refine w2 ?_ | refine w3 ?_ | ((first | refine w4 ?_ | refine wD ?_ | refine w5 ?_ | refine w6 ?_ | refine w7 ?_); try refine sq F ?_) | (refine w8 ?_; refine sq F ?_; refine w9 ?_) | (refine rq F ?_; try refine sq F ?_) | (refine vq F ?_; try refine sq F ?_) | ((first | refine hK _ _ (w0 ?_) | (clear hK K; refine hK _ _ (w0 ?_)) | (clear hK K; clear hK K; refine hK _ _ (w0 ?_))); clear hK K))))
    ·refine ee hQ F ?_
     exact fin _ (by rw [enc2 c1 c2])
    ·refine cq F (fun c3 => ?_) (fun c3 => ?_) <;> (try exact c3.elim) <;> ((repeat (first | refine w1 (fun K hK => ?_) | refine w2 ?_ | refine w3 ?_ | ((first | refine w4 ?_ | refine wD ?_ | refine w5 ?_ | refine w6 ?_ | refine w7 ?_); try refine sq F ?_) | (refine w8 ?_; refine sq F ?_; refine w9 ?_) | (refine rq F ?_; try refine sq F ?_) | (refine vq F ?_; try refine sq F ?_) | ((first | refine hK _ _ (w0 ?_) | (clear hK K; refine hK _ _ (w0 ?_)) | (clear hK K; clear hK K; refine hK _ _ (w0 ?_))); clear hK K))))
     ·refine ee hQ F ?_
      exact fin _ (by rw [enc3 hr c2 c3])
     ·refine ee hQ F ?_
      exact fin _ (by rw [enc4 c3 (by omega)])
  (first | refine gq F (fun g2 => ?_) (fun g2 => ?_) | refine pq F (fun g2 => ?_) (fun g2 => ?_)) <;> (try exact g2.elim) <;> (try refine sq F ?_) <;> ((repeat (first | refine w1 (fun K hK => ?_) | refine w2 ?_ | refine w3 ?_ | ((first | refine w4 ?_ | refine wD ?_ | refine w5 ?_ | refine w6 ?_ | refine w7 ?_); try refine sq F ?_) | (refine w8 ?_; refine sq F ?_; refine w9 ?_) | (refine rq F ?_; try refine sq F ?_) | (refine vq F ?_; try refine sq F ?_) | ((first | refine hK _ _ (w0 ?_) | (clear hK K; refine hK _ _ (w0 ?_)) | (clear hK K; clear hK K; refine hK _ _ (w0 ?_))); clear hK K))))
  ·exfalso; omega
  ·(first | refine gq F (fun g3 => ?_) (fun g3 => ?_) | refine pq F (fun g3 => ?_) (fun g3 => ?_)) <;> (try exact g3.elim) <;> (try refine sq F ?_) <;> ((repeat (first | refine w1 (fun K hK => ?_) | refine w2 ?_ | refine w3 ?_ | ((first | refine w4 ?_ | refine wD ?_ | refine w5 ?_ | refine w6 ?_ | refine w7 ?_); try refine sq F ?_) | (refine w8 ?_; refine sq F ?_; refine w9 ?_) | (refine rq F ?_; try refine sq F ?_) | (refine vq F ?_; try refine sq F ?_) | ((first | refine hK _ _ (w0 ?_) | (clear hK K; refine hK _ _ (w0 ?_)) | (clear hK K; clear hK K; refine hK _ _ (w0 ?_))); clear hK K))))
   ·have e : decide (r ≤ 57343) = false := by rw [decide_eq_false_iff_not]; omega
    refine big _ ?_ ?_
    ·exact zq F
    ·exact zq (F2 F e)
   ·refine big _ ?_ ?_
    ·exact zq F
    ·exact zq F
theorem bytesStr_u8 : bytesStr Tryz.prog 71 9 = true := by kernel_rfl
def runA (r : Int) : AVal := .int .i32 r
@[go_sem] theorem runA_cells (r : Int) : (runA r).cells = [.int .i32 r] := (rfl)
theorem Put_sat (l : List Int) (hr : ∀ r ∈ l, Rune r) (hl : l.length ≤ 1048576) (h : Heap) : Sat (CT G) 136 [.sl 1 (l.map runA)] h (fun x h' => x = .str (l.flatMap enc) ∧ h' = h) := by
 have hll : (l.map runA).length = l.length := List.length_map ..
 have F := hll
 refine sb [.tmp 2] (fn := Tryz.f136) Tryz.func136 ?_
 intro Q hQ
 refine wk F ?_
 refine lm (fun nL tL hL => ∃ (k v : Nat) (acc : Bs), l.length - k = nL ∧ h ++ [.row 5 1 v (acc.map bytA)] = hL ∧ tL 3 = .hs h.length v 0 acc.length true ∧ tL 4 = .int .i64 k ∧ k ≤ l.length ∧ acc ++ (l.drop k).flatMap enc = l.flatMap enc ∧ acc.length ≤ 4 * k) ((fun (k v : Nat) (acc : Bs) => (l.length - k : Nat)) (0) (0) ([])) ?_ ?_
 ·refine ⟨_, _, Weak.virt 3 5 1 (by simp) (by omega) (by exact zq F), ⟨0, 0, [], rfl, hpE, ?_, ?_, ?_, ?_, ?_⟩⟩
  all_goals first | exact zq F | rfl | omega | trivial | skip
 rintro _ s2 h' ⟨k, v, acc, rfl, rfl, e3, e4, hk, hp, hz⟩ K2 hK2
 simp only [mix_cons, mix_nil, Nat.reduceEqDiff, ↓reduceIte] at e3 e4
 have F := F3 F e3 e4
 refine wk F ?_
 refine cq F (fun hc => ?_) (fun hc => ?_) <;> (try exact hc.elim)
 ·obtain ⟨y, hy, hym⟩ := getElem?_of_lt hc
  rw [drop_cons_of hy, List.flatMap_cons] at hp
  have he := enc_len y
  have hel : ((enc y).map bytA).length = (enc y).length := List.length_map ..
  have F := F2 F hy
  refine wk F ?_
  refine kq F (one_sat G y (hr y hym) _) ?_
  refine aq F ?_
  try refine sq F ?_
  refine wk F ?_
  refine hK2 _ _ _ (Wkn.refl ⟨k + 1, v + 1, acc ++ enc y, rfl, hpE, ?_, ?_, by omega, by rw [← hp]; simp, by simp; omega⟩) (by omega)
  all_goals first | exact zq F | rfl | omega | trivial | skip
 ·rw [drop_nil_of hc, List.flatMap_nil, List.append_nil] at hp
  have hb := bytesA_map acc
  have hel : elemsOf (h ++ [.row 5 1 v (acc.map bytA)]) 1 (.hs h.length v 0 acc.length true) = some (acc.map bytA) := by
   simp [elemsOf, getRow, List.take_of_length_le]
  have F := F4 F hb hel @bytesStr_u8
  refine wk F ?_
  refine ee hQ F ?_
  rw [← hp]
  exact Fin.plainE (j := _) rfl (.str _) ⟨rfl, rfl⟩
theorem rdigit_sat (c : UInt8) (base : Int) (hb : 0 ≤ base) (hb1 : base ≤ 16) (h : Heap) :
  Sat (CT G) 180 [.int .u8 c.toNat, .int .i64 base] h (fun r h' => r = .int .i64 (digF c.toNat base) ∧ h' = h) := by
 have hc := c.toNat_lt
 have F := F2 @aconv_8i @wrapu8_in
 refine sb [.tmp 4] (fn := Tryz.f180) Tryz.func180 ?_
 intro Q hQ
 (repeat (first | refine w1 (fun K hK => ?_) | refine w2 ?_ | refine w3 ?_ | ((first | refine w4 ?_ | refine wD ?_ | refine w5 ?_ | refine w6 ?_ | refine w7 ?_); try refine sq F ?_) | (refine w8 ?_; refine sq F ?_; refine w9 ?_) | ((first | refine hK _ _ (w0 ?_) | (clear hK K; refine hK _ _ (w0 ?_)) | (clear hK K; clear hK K; refine hK _ _ (w0 ?_))); clear hK K)))
 rename_i K0 hK0
 have tail : ∀ (n : Int) (t' : Env), t' 5 = .int .i64 n → t' 1 = .int .i64 base → n = (if 48 ≤ (c.toNat : Int) ∧ (c.toNat : Int) ≤ 57 then (c.toNat : Int) - 48 else if 97 ≤ (c.toNat : Int) ∧ (c.toNat : Int) ≤ 102 then (c.toNat : Int) - 87 else if 65 ≤ (c.toNat : Int) ∧ (c.toNat : Int) ≤ 70 then (c.toNat : Int) - 55 else -1) → K0 t' h := by
  intro n t' e5 e1 hn
  have hd : digF c.toNat base = if base ≤ n then -1 else n := by subst hn; rfl
  refine hK0 _ _ (Wkn.refl ?_)
  clear hK0 K0 hK K
  have F := F3 F e5 e1
  (repeat (first | refine w1 (fun K hK => ?_) | refine w2 ?_ | refine w3 ?_ | ((first | refine w4 ?_ | refine wD ?_ | refine w5 ?_ | refine w6 ?_ | refine w7 ?_); try refine sq F ?_) | (refine w8 ?_; refine sq F ?_; refine w9 ?_) | ((first | refine hK _ _ (w0 ?_) | (clear hK K; refine hK _ _ (w0 ?_)) | (clear hK K; clear hK K; refine hK _ _ (w0 ?_))); clear hK K)))
  refine cq F (fun hc => ?_) (fun hc => ?_) <;> (try exact hc.elim) <;> ((repeat (first | refine w1 (fun K hK => ?_) | refine w2 ?_ | refine w3 ?_ | ((first | refine w4 ?_ | refine wD ?_ | refine w5 ?_ | refine w6 ?_ | refine w7 ?_); try refine sq F ?_) | (refine w8 ?_; refine sq F ?_; refine w9 ?_) | ((first | refine hK _ _ (w0 ?_) | (clear hK K; refine hK _ _ (w0 ?_)) | (clear hK K; clear hK K; refine hK _ _ (w0 ?_))); clear hK K))))
  ·refine ee hQ F ?_
   rw [hd, if_pos hc]
   exact Fin.frzS (.clo _ (.int _ _)) ⟨rfl, rfl⟩
  ·refine ee hQ F ?_
   rw [hd, if_neg (by omega)]
   exact Fin.frzS (.clo _ (.int _ _)) ⟨rfl, rfl⟩
 (first | refine gq F (fun g1 => ?_) (fun g1 => ?_) | refine pq F (fun g1 => ?_) (fun g1 => ?_)) <;> (try exact g1.elim) <;> (try refine sq F ?_) <;> ((repeat (first | refine w1 (fun K hK => ?_) | refine w2 ?_ | refine w3 ?_ | ((first | refine w4 ?_ | refine wD ?_ | refine w5 ?_ | refine w6 ?_ | refine w7 ?_); try refine sq F ?_) | (refine w8 ?_; refine sq F ?_; refine w9 ?_) | ((first | refine hK _ _ (w0 ?_) | (clear hK K; refine hK _ _ (w0 ?_)) | (clear hK K; clear hK K; refine hK _ _ (w0 ?_))); clear hK K))))
 ·refine cq F (fun hc => ?_) (fun hc => ?_) <;> (try exact hc.elim) <;> ((repeat (first | refine w1 (fun K hK => ?_) | refine w2 ?_ | refine w3 ?_ | ((first | refine w4 ?_ | refine wD ?_ | refine w5 ?_ | refine w6 ?_ | refine w7 ?_); try refine sq F ?_) | (refine w8 ?_; refine sq F ?_; refine w9 ?_) | ((first | refine hK _ _ (w0 ?_) | (clear hK K; refine hK _ _ (w0 ?_)) | (clear hK K; clear hK K; refine hK _ _ (w0 ?_))); clear hK K))))
  ·refine tail ((c.toNat : Int) - 48) _ ?_ ?_ ?_
   ·exact zq F
   ·exact zq F
   ·rw [if_pos (by omega)]
  ·(first | refine gq F (fun g2 => ?_) (fun g2 => ?_) | refine pq F (fun g2 => ?_) (fun g2 => ?_)) <;> (try exact g2.elim) <;> (try refine sq F ?_) <;> ((repeat (first | refine w1 (fun K hK => ?_) | refine w2 ?_ | refine w3 ?_ | ((first | refine w4 ?_ | refine wD ?_ | refine w5 ?_ | refine w6 ?_ | refine w7 ?_); try refine sq F ?_) | (refine w8 ?_; refine sq F ?_; refine w9 ?_) | ((first | refine hK _ _ (w0 ?_) | (clear hK K; refine hK _ _ (w0 ?_)) | (clear hK K; clear hK K; refine hK _ _ (w0 ?_))); clear hK K))))
   ·refine cq F (fun hc => ?_) (fun hc => ?_) <;> (try exact hc.elim) <;> ((repeat (first | refine w1 (fun K hK => ?_) | refine w2 ?_ | refine w3 ?_ | ((first | refine w4 ?_ | refine wD ?_ | refine w5 ?_ | refine w6 ?_ | refine w7 ?_); try refine sq F ?_) | (refine w8 ?_; refine sq F ?_; refine w9 ?_) | ((first | refine hK _ _ (w0 ?_) | (clear hK K; refine hK _ _ (w0 ?_)) | (clear hK K; clear hK K; refine hK _ _ (w0 ?_))); clear hK K))))
    ·refine tail ((c.toNat : Int) - 87) _ ?_ ?_ ?_
     ·simp (disch := first | omega | (simp only [go_sem, ↓reduceIte, seval]; first | done | omega) | fail) only [go_sem, ↓reduceIte, seval, F]
      congr 1; omega
     ·exact zq F
     ·rw [if_neg (by omega), if_pos (by omega)]
    ·(first | refine gq F (fun hg => ?_) (fun hg => ?_) | refine pq F (fun hg => ?_) (fun hg => ?_)) <;> (try exact hg.elim) <;> (try refine sq F ?_) <;> ((repeat (first | refine w1 (fun K hK => ?_) | refine w2 ?_ | refine w3 ?_ | ((first | refine w4 ?_ | refine wD ?_ | refine w5 ?_ | refine w6 ?_ | refine w7 ?_); try refine sq F ?_) | (refine w8 ?_; refine sq F ?_; refine w9 ?_) | ((first | refine hK _ _ (w0 ?_) | (clear hK K; refine hK _ _ (w0 ?_)) | (clear hK K; clear hK K; refine hK _ _ (w0 ?_))); clear hK K))))
     ·refine cq F (fun hc => ?_) (fun hc => ?_) <;> (try exact hc.elim) <;> ((repeat (first | refine w1 (fun K hK => ?_) | refine w2 ?_ | refine w3 ?_ | ((first | refine w4 ?_ | refine wD ?_ | refine w5 ?_ | refine w6 ?_ | refine w7 ?_); try refine sq F ?_) | (refine w8 ?_; refine sq F ?_; refine w9 ?_) | ((first | refine hK _ _ (w0 ?_) | (clear hK K; refine hK _ _ (w0 ?_)) | (clear hK K; clear hK K; refine hK _ _ (w0 ?_))); clear hK K))))
      ·exfalso; omega
      ·refine tail (-1) _ ?_ ?_ ?_
       ·exact zq F
       ·exact zq F
       ·rw [if_neg (by omega), if_neg (by omega), if_neg (by omega)]
     ·exfalso; omega
   ·(first | refine gq F (fun hg => ?_) (fun hg => ?_) | refine pq F (fun hg => ?_) (fun hg => ?_)) <;> (try exact hg.elim) <;> (try refine sq F ?_) <;> ((repeat (first | refine w1 (fun K hK => ?_) | refine w2 ?_ | refine w3 ?_ | ((first | refine w4 ?_ | refine wD ?_ | refine w5 ?_ | refine w6 ?_ | refine w7 ?_); try refine sq F ?_) | (refine w8 ?_; refine sq F ?_; refine w9 ?_) | ((first | refine hK _ _ (w0 ?_) | (clear hK K; refine hK _ _ (w0 ?_)) | (clear hK K; clear hK K; refine hK _ _ (w0 ?_))); clear hK K))))
    ·refine cq F (fun hc => ?_) (fun hc => ?_) <;> (try exact hc.elim) <;> ((repeat (first | refine w1 (fun K hK => ?_) | refine w2 ?_ | refine w3 ?_ | ((first | refine w4 ?_ | refine wD ?_ | refine w5 ?_ | refine w6 ?_ | refine w7 ?_); try refine sq F ?_) | (refine w8 ?_; refine sq F ?_; refine w9 ?_) | ((first | refine hK _ _ (w0 ?_) | (clear hK K; refine hK _ _ (w0 ?_)) | (clear hK K; clear hK K; refine hK _ _ (w0 ?_))); clear hK K))))
     ·refine tail ((c.toNat : Int) - 55) _ ?_ ?_ ?_
      ·simp (disch := first | omega | (simp only [go_sem, ↓reduceIte, seval]; first | done | omega) | fail) only [go_sem, ↓reduceIte, seval, F]
       congr 1; omega
      ·exact zq F
      ·rw [if_neg (by omega), if_neg (by omega), if_pos (by omega)]
     ·refine tail (-1) _ ?_ ?_ ?_
      ·exact zq F
      ·exact zq F
      ·rw [if_neg (by omega), if_neg (by omega), if_neg (by omega)]
    ·refine tail (-1) _ ?_ ?_ ?_
     ·exact zq F
     ·exact zq F
     ·rw [if_neg (by omega), if_neg (by omega), if_neg (by omega)]
 ·(first | refine gq F (fun hg => ?_) (fun hg => ?_) | refine pq F (fun hg => ?_) (fun hg => ?_)) <;> (try exact hg.elim) <;> (try refine sq F ?_) <;> ((repeat (first | refine w1 (fun K hK => ?_) | refine w2 ?_ | refine w3 ?_ | ((first | refine w4 ?_ | refine wD ?_ | refine w5 ?_ | refine w6 ?_ | refine w7 ?_); try refine sq F ?_) | (refine w8 ?_; refine sq F ?_; refine w9 ?_) | ((first | refine hK _ _ (w0 ?_) | (clear hK K; refine hK _ _ (w0 ?_)) | (clear hK K; clear hK K; refine hK _ _ (w0 ?_))); clear hK K))))
  ·exfalso; omega
  ·(first | refine gq F (fun hg => ?_) (fun hg => ?_) | refine pq F (fun hg => ?_) (fun hg => ?_)) <;> (try exact hg.elim) <;> (try refine sq F ?_) <;> ((repeat (first | refine w1 (fun K hK => ?_) | refine w2 ?_ | refine w3 ?_ | ((first | refine w4 ?_ | refine wD ?_ | refine w5 ?_ | refine w6 ?_ | refine w7 ?_); try refine sq F ?_) | (refine w8 ?_; refine sq F ?_; refine w9 ?_) | ((first | refine hK _ _ (w0 ?_) | (clear hK K; refine hK _ _ (w0 ?_)) | (clear hK K; clear hK K; refine hK _ _ (w0 ?_))); clear hK K))))
   ·exfalso; omega
   ·refine tail (-1) _ ?_ ?_ ?_
    ·exact zq F
    ·exact zq F
    ·rw [if_neg (by omega), if_neg (by omega), if_neg (by omega)]
theorem rnumber_sat (s : Bs) (base : Int) (most : Nat) (hb0 : 1 ≤ base) (hb1 : base ≤ 16) (hm : most ≤ 7) (hs : s.length ≤ 1073741824) (h : Heap) :
  Sat (CT G) 168 [.str s, .int .i64 base, .int .i64 most] h (fun r h' => r = .int .i64 (numF s base most) ∧ h' = h) := by
 refine sb [.tmp 6] (fn := Tryz.f168) Tryz.func168 ?_
 intro Q hQ
 refine wk trivial ?_
 (first | refine gq trivial (fun hg => ?_) (fun hg => ?_) | refine pq trivial (fun hg => ?_) (fun hg => ?_)) <;> (try exact hg.elim) <;> (try refine sq trivial ?_) <;> (refine wk trivial ?_)
 ·refine ee hQ trivial ?_
  have e : numF s base most = -1 := by unfold numF; rw [if_pos (.inl (List.length_eq_zero_iff.1 (by omega)))]
  rw [e]
  exact Fin.frzS (.clo _ (.int _ _)) ⟨rfl, rfl⟩
 ·refine cq trivial (fun hc => ?_) (fun hc => ?_) <;> (try exact hc.elim) <;> (refine wk trivial ?_)
  ·refine ee hQ trivial ?_
   have e : numF s base most = -1 := by unfold numF; rw [if_pos (.inr (by omega))]
   rw [e]
   exact Fin.frzS (.clo _ (.int _ _)) ⟨rfl, rfl⟩
  ·have hn : numF s base most = numGo base s 0 := by
    unfold numF
    rw [if_neg]
    rintro (h1 | h1)
    ·subst h1; simp at hg
    ·omega
   rw [hn] at hQ
   have h16 : ∀ k, k ≤ s.length → (16 : Int) ^ k ≤ 268435456 := fun k hk => by
    have : (16 : Nat) ^ k ≤ 16 ^ 7 := Nat.pow_le_pow_right (by omega) (by omega)
    have : ((16 ^ k : Nat) : Int) ≤ ((16 ^ 7 : Nat) : Int) := by omega
    simpa using this
   refine lm (fun nL tL hL => ∃ (k : Nat) (n : Int), s.length - k = nL ∧ h = hL ∧ tL 7 = .int .i64 n ∧ tL 8 = .int .i64 k ∧ k ≤ s.length ∧ numGo base s 0 = numGo base (s.drop k) n ∧ 0 ≤ n ∧ n < 16 ^ k) ((fun (k : Nat) (n : Int) => (s.length - k : Nat)) (0) (0)) ?_ ?_
   ·refine Wkn.refl ⟨0, 0, rfl, hpE, ?_, ?_, by omega, by simp, by omega, by simp⟩
    all_goals first | exact zq trivial | rfl | omega | trivial | skip
   rintro _ s2 h' ⟨k, n, rfl, rfl, e7, e8, hk, hv, h0, h1⟩ K2 hK2
   simp only [mix_cons, mix_nil, Nat.reduceEqDiff, ↓reduceIte] at e7 e8
   have F := F2 e7 e8
   refine wk F ?_
   refine cq F (fun hc => ?_) (fun hc => ?_) <;> (try exact hc.elim)
   ·have hy := List.getElem?_eq_getElem hc
    have hdrop := List.drop_eq_getElem_cons hc
    have hbn0 : 0 ≤ base * n := Int.mul_nonneg (by omega) h0
    have hbn1 : base * n ≤ 16 * n := Int.mul_le_mul_of_nonneg_right hb1 h0
    have hk16 := h16 (k + 1) hc
    have hk17 : (16 : Int) ^ (k + 1) = 16 ^ k * 16 := Int.pow_succ _ _
    rw [hdrop, numGo] at hv
    have hlt' := digF_lt s[k].toNat base (by omega)
    have F := F2 F hy
    refine wk F ?_
    refine kq F (rdigit_sat G s[k] base (by omega) hb1 _) ?_
    refine cq F (fun hc => ?_) (fun hc => ?_) <;> (try exact hc.elim)
    ·refine wk F ?_
     refine ee hQ F ?_
     rw [hv, if_pos hc]
     exact Fin.frzS (.clo _ (.int _ _)) ⟨rfl, rfl⟩
    ·rw [if_neg (by omega)] at hv
     refine wk F ?_
     refine hK2 _ _ _ (Wkn.refl ⟨k + 1, base * n + digF s[k].toNat base, rfl, hpE, ?_, ?_, by omega, hv, by omega, by omega⟩) (by omega)
     all_goals first | exact zq F | rfl | omega | trivial | skip
   ·rw [drop_nil_of hc, numGo] at hv
    refine wk F ?_
    refine ee hQ F ?_
    rw [hv]
    exact Fin.frzS (.clo _ (.int _ _)) ⟨rfl, rfl⟩
end Go.Av
namespace Go.Av
open Go Go.Proofs Go.RowKit
attribute [local irreducible] WP WPl WPix Sat
set_option maxRecDepth 100000
set_option maxHeartbeats 1000000
variable (G : Nat → Option (List AVal))
def isB (b : Bool) : Option AVal → Bool
 | some (.bool q) => q == b
 | _ => false
theorem isB_ok {b : Bool} {x : Option AVal} (h : isB b x = true) : x = some (.bool b) := by
 unfold isB at h
 split at h
 ·simp at h; rw [h]
 ·cases h
theorem begin_run : ((List.range 256).all fun c => isB (beginF (c : Nat)) (runX (CT G) orcL 10 10 137 [.int .u8 (c : Nat)])) = true := by kernel_rfl
theorem more_run : ((List.range 256).all fun c => isB (moreF (c : Nat)) (runX (CT G) orcL 10 10 138 [.int .u8 (c : Nat)])) = true := by kernel_rfl
theorem blank_run : ((List.range 256).all fun c => isB (blankP (c : Nat)) (runX (CT G) orcL 10 10 139 [.int .u8 (c : Nat)])) = true := by kernel_rfl
variable {G}
theorem rbegin_sat (hG : GOk G) (hC : GClo (CT G)) (c : UInt8) (h : Heap) : Sat (CT G) 137 [.int .u8 c.toNat] h (fun r h' => r = .bool (beginF c.toNat) ∧ h' = h) :=
 Sat.closed hC (orcL_ok hG) 10 10 rfl rfl (isB_ok (List.all_eq_true.1 (begin_run G) c.toNat (List.mem_range.2 c.toNat_lt))) h
theorem rmore_sat (hG : GOk G) (hC : GClo (CT G)) (c : UInt8) (h : Heap) : Sat (CT G) 138 [.int .u8 c.toNat] h (fun r h' => r = .bool (moreB c) ∧ h' = h) :=
 Sat.closed hC (orcL_ok hG) 10 10 rfl rfl (isB_ok (List.all_eq_true.1 (more_run G) c.toNat (List.mem_range.2 c.toNat_lt))) h
theorem rblank_sat (hG : GOk G) (hC : GClo (CT G)) (c : UInt8) (h : Heap) : Sat (CT G) 139 [.int .u8 c.toNat] h (fun r h' => r = .bool (blankB c) ∧ h' = h) :=
 Sat.closed hC (orcL_ok hG) 10 10 rfl rfl (isB_ok (List.all_eq_true.1 (blank_run G) c.toNat (List.mem_range.2 c.toNat_lt))) h
end Go.Av
namespace Go.Av
open Go Go.Proofs Go.RowKit
attribute [local irreducible] WP WPl WPix Sat
set_option maxRecDepth 100000
set_option maxHeartbeats 1000000
variable {G : Nat → Option (List AVal)}
theorem rhas_sat (s w : Bs) (h : Heap) : Sat (CT G) 111 [.str s, .str w] h (fun r h' => r = .bool (Lib.hasPrefix s w) ∧ h' = h) := by
 have hp := Lib.hasPrefix_of_take s w
 have fin : ∀ b : Bool, b = Lib.hasPrefix s w → Fin h h (fun r h' => r = .bool (Lib.hasPrefix s w) ∧ h' = h) (.bool b) := fun b e => by rw [e]; exact Fin.frzS (.clo _ (.bool _)) ⟨rfl, rfl⟩
 refine sb [.tmp 4] (fn := Tryz.f111) Tryz.func111 ?_
 intro Q hQ
 refine wk trivial ?_
 (first | refine gq trivial (fun hg => ?_) (fun hg => ?_) | refine pq trivial (fun hg => ?_) (fun hg => ?_)) <;> (try exact hg.elim) <;> (try refine sq trivial ?_) <;> (refine wk trivial ?_)
 ·refine ee hQ trivial ?_
  refine fin _ ?_
  rw [← hp, decide_eq_true (by omega), Bool.true_and]
 ·refine ee hQ trivial ?_
  refine fin _ ?_
  rw [← hp, decide_eq_false (by omega), Bool.false_and]
theorem rblanks_sat (hG : GOk G) (hC : GClo (CT G)) (s : Bs) (hs : s.length ≤ 1073741824) (h : Heap) : Sat (CT G) 114 [.str s] h (fun r h' => r = .str (s.dropWhile blankB) ∧ h' = h) := by
 have fin : ∀ k, s.dropWhile blankB = s.drop k → Fin h h (fun r h' => r = .str (s.dropWhile blankB) ∧ h' = h) (.str (s.drop k)) := fun b e => by rw [e]; exact Fin.frzS (.clo _ (.str _)) ⟨rfl, rfl⟩
 refine sb [.tmp 2] (fn := Tryz.f114) Tryz.func114 ?_
 intro Q hQ
 refine wk trivial ?_
 refine lm (fun nL tL hL => ∃ (k : Nat), s.length - k = nL ∧ h = hL ∧ tL 3 = .int .i64 k ∧ k ≤ s.length ∧ (∀ i, i < k → ∀ c, s[i]? = some c → blankB c = true)) ((fun (k : Nat) => (s.length - k : Nat)) (0)) ?_ ?_
 ·refine Wkn.refl ⟨0, rfl, hpE, ?_, by omega, fun i hi => by omega⟩
  all_goals first | exact zq trivial | rfl | omega | trivial | skip
 rintro _ s2 h' ⟨k, rfl, rfl, e3, hk, hq⟩ K2 hK2
 simp only [mix_cons, mix_nil, Nat.reduceEqDiff, ↓reduceIte] at e3
 have F := e3
 refine wk F ?_
 (first | refine gq F (fun g1 => ?_) (fun g1 => ?_) | refine pq F (fun g1 => ?_) (fun g1 => ?_)) <;> (try exact g1.elim) <;> (try refine sq F ?_) <;> (refine wk F ?_)
 ·obtain ⟨y, hy, hym⟩ := getElem?_of_lt g1
  have F := F2 F hy
  try refine sq F ?_
  refine wk F ?_
  refine kq F (rblank_sat hG hC y _) ?_
  refine cq F (fun hb => ?_) (fun hb => ?_) <;> (try exact hb.elim) <;> (refine wk F ?_)
  ·have hq1 : ∀ i, i < k + 1 → ∀ c, s[i]? = some c → blankB c = true := fun i hi c hc => by
    rcases Nat.lt_or_ge i k with h1 | h1
    ·exact hq i h1 c hc
    ·obtain rfl : i = k := by omega
     rw [hy] at hc; cases hc; exact hb
   refine hK2 _ _ _ (Wkn.refl ⟨k + 1, rfl, hpE, ?_, by omega, hq1⟩) (by omega)
   all_goals first | exact zq F | rfl | omega | trivial | skip
  ·refine ee hQ F ?_
   exact fin k (tw_at blankB s k hq hk (.inr ⟨_, hy, hb⟩)).2
 ·obtain rfl : k = s.length := by omega
  refine ee hQ F ?_
  exact fin _ (tw_at blankB s _ hq hk (.inl rfl)).2
theorem rfind_sat (s w : Bs) (hs : s.length ≤ 1073741824) (hw : w.length ≤ 1073741824) (h : Heap) : Sat (CT G) 109 [.str s, .str w] h (fun r h' => r = .int .i64 (Lib.index s w) ∧ h' = h) := by
 have fin : ∀ k : Int, k = Lib.index s w → Fin h h (fun r h' => r = .int .i64 (Lib.index s w) ∧ h' = h) (.int .i64 k) := fun b e => by rw [e]; exact Fin.frzS (.clo _ (.int _ _)) ⟨rfl, rfl⟩
 refine sb [.tmp 4] (fn := Tryz.f109) Tryz.func109 ?_
 intro Q hQ
 refine wk trivial ?_
 refine lm (fun nL tL hL => ∃ (k : Nat), s.length + 1 - k = nL ∧ h = hL ∧ tL 5 = .int .i64 k ∧ k ≤ s.length + 1 ∧ (∀ i, i < k → Lib.occAt s w i = false)) ((fun (k : Nat) => (s.length + 1 - k : Nat)) (0)) ?_ ?_
 ·refine Wkn.refl ⟨0, rfl, hpE, ?_, by omega, fun i hi => by omega⟩
  all_goals first | exact zq trivial | rfl | omega | trivial | skip
 rintro _ s2 h' ⟨k, rfl, rfl, e5, hk, hq⟩ K2 hK2
 simp only [mix_cons, mix_nil, Nat.reduceEqDiff, ↓reduceIte] at e5
 have F := e5
 refine wk F ?_
 refine cq F (fun hc => ?_) (fun hc => ?_) <;> (try exact hc.elim) <;> (refine wk F ?_)
 ·have ho := Lib.occAt_iff_take s w k (by omega)
  have e : (s.take ((k : Int) + (w.length : Int)).toNat).drop k = (s.drop k).take w.length := by rw [List.drop_take]; congr 1; omega
  have F := F2 F e
  try refine sq F ?_
  refine wk F ?_
  refine cq F (fun hb => ?_) (fun hb => ?_) <;> (try exact hb.elim) <;> (refine wk F ?_)
  ·refine ee hQ F ?_
   refine fin _ ?_
   have ho2 : Lib.occAt s w k = true := by rw [ho]; simpa using hb
   rcases Lib.index_spec s w with ⟨_, h1⟩ | ⟨i, h1, h2, h3, h4⟩
   ·rw [h1 k (by omega)] at ho2; cases ho2
   ·rw [h1]
    rcases Nat.lt_trichotomy i k with h5 | h5 | h5
    ·rw [hq i h5] at h3; cases h3
    ·rw [h5]
    ·have := h4 k h5; rw [ho2] at this; cases this
  ·have ho2 : Lib.occAt s w k = false := by rw [ho]; simpa using hb
   have hq1 : ∀ i, i < k + 1 → Lib.occAt s w i = false := fun i hi => by
    rcases Nat.lt_or_ge i k with h1 | h1
    ·exact hq i h1
    ·obtain rfl : i = k := by omega
     exact ho2
   refine hK2 _ _ _ (Wkn.refl ⟨k + 1, rfl, hpE, ?_, by omega, hq1⟩) (by omega)
   all_goals first | exact zq F | rfl | omega | trivial | skip
 ·refine ee hQ F ?_
  refine fin _ ?_
  rcases Lib.index_spec s w with ⟨h1, _⟩ | ⟨i, h1, h2, h3, h4⟩
  ·exact h1.symm
  ·have := Lib.index_room s w (by omega)
   rw [hq i (by omega)] at h3; cases h3
def nmR (s : Bs) : Bs × Bs := if badN (nameW s) = true then ([], s) else (nameW s, nameR s)
theorem begin_more (c : UInt8) (h : beginF c.toNat = true) : moreB c = true := by
 unfold beginF at h; unfold moreB moreF; simp at *; omega
theorem rname_sat (hG : GOk G) (hC : GClo (CT G)) (s : Bs) (hs : s.length ≤ 1073741824) (h : Heap) : Sat (CT G) 113 [.str s] h (fun r h' => r = .tup [.str (nmR s).1, .str (nmR s).2] ∧ h' = h) := by
 have fin : ∀ (h1 : Heap) (a b : Bs), (a, b) = nmR s → Fin h1 h1 (fun r h' => r = .tup [.str (nmR s).1, .str (nmR s).2] ∧ h' = h1) (.tup [.str a, .str b]) := fun h1 a b e => by
  rw [← e]; exact Fin.frzS (.clo _ (.tup _ (by intro c hc; simp at hc; rcases hc with rfl | rfl <;> exact .str _))) ⟨rfl, rfl⟩
 cases s with
 | nil =>
  refine sb [.tmp 2, .tmp 3] (fn := Tryz.f113) Tryz.func113 ?_
  intro Q hQ
  (repeat (first | refine w1 (fun K hK => ?_) | refine w2 ?_ | refine w3 ?_ | ((first | refine w4 ?_ | refine wD ?_ | refine w5 ?_ | refine w6 ?_ | refine w7 ?_); try refine sq trivial ?_) | (refine w8 ?_; refine sq trivial ?_; refine w9 ?_) | ((first | refine hK _ _ (w0 ?_) | (clear hK K; refine hK _ _ (w0 ?_)) | (clear hK K; clear hK K; refine hK _ _ (w0 ?_))); clear hK K)))
  refine ye hQ trivial ?_
  exact fin _ _ _ rfl
 | cons c t =>
  have h0 : (c :: t)[0]? = some c := rfl
  have F := h0
  refine sb [.tmp 2, .tmp 3] (fn := Tryz.f113) Tryz.func113 ?_
  intro Q hQ
  (repeat (first | refine w1 (fun K hK => ?_) | refine w2 ?_ | refine w3 ?_ | ((first | refine w4 ?_ | refine wD ?_ | refine w5 ?_ | refine w6 ?_ | refine w7 ?_); try refine sq F ?_) | (refine w8 ?_; refine sq F ?_; refine w9 ?_) | ((first | refine hK _ _ (w0 ?_) | (clear hK K; refine hK _ _ (w0 ?_)) | (clear hK K; clear hK K; refine hK _ _ (w0 ?_))); clear hK K)))
  (first | refine gq F (fun g1 => ?_) (fun g1 => ?_) | refine pq F (fun g1 => ?_) (fun g1 => ?_)) <;> (try exact g1.elim) <;> (try refine sq F ?_) <;> ((repeat (first | refine w1 (fun K hK => ?_) | refine w2 ?_ | refine w3 ?_ | ((first | refine w4 ?_ | refine wD ?_ | refine w5 ?_ | refine w6 ?_ | refine w7 ?_); try refine sq F ?_) | (refine w8 ?_; refine sq F ?_; refine w9 ?_) | ((first | refine hK _ _ (w0 ?_) | (clear hK K; refine hK _ _ (w0 ?_)) | (clear hK K; clear hK K; refine hK _ _ (w0 ?_))); clear hK K))))
  ·exfalso; omega
  ·refine (rbegin_sat hG hC c _).mono ?_
   rintro r h' ⟨rfl, rfl⟩
   try refine sq F ?_
   (repeat (first | refine w1 (fun K hK => ?_) | refine w2 ?_ | refine w3 ?_ | ((first | refine w4 ?_ | refine wD ?_ | refine w5 ?_ | refine w6 ?_ | refine w7 ?_); try refine sq F ?_) | (refine w8 ?_; refine sq F ?_; refine w9 ?_) | ((first | refine hK _ _ (w0 ?_) | (clear hK K; refine hK _ _ (w0 ?_)) | (clear hK K; clear hK K; refine hK _ _ (w0 ?_))); clear hK K)))
   refine cq F (fun hb => ?_) (fun hb => ?_) <;> (try exact hb.elim) <;> ((repeat (first | refine w1 (fun K hK => ?_) | refine w2 ?_ | refine w3 ?_ | ((first | refine w4 ?_ | refine wD ?_ | refine w5 ?_ | refine w6 ?_ | refine w7 ?_); try refine sq F ?_) | (refine w8 ?_; refine sq F ?_; refine w9 ?_) | ((first | refine hK _ _ (w0 ?_) | (clear hK K; refine hK _ _ (w0 ?_)) | (clear hK K; clear hK K; refine hK _ _ (w0 ?_))); clear hK K))))
   ·refine ye hQ F ?_
    refine fin _ _ _ ?_
    have e : badN (nameW (c :: t)) = true := by
     unfold nameW
     rw [List.takeWhile_cons]
     split
     ·simp [badN, hb]
     ·rfl
    unfold nmR; rw [if_pos e]
   ·have hm := begin_more c hb
    have hq0 : ∀ i, i < 1 → ∀ d, (c :: t)[i]? = some d → moreB d = true := fun i hi d hd => by
     obtain rfl : i = 0 := by omega
     simp at hd; subst hd; exact hm
    refine lm (fun nL tL hL => ∃ (k : Nat), (c :: t).length - k = nL ∧ h' = hL ∧ tL 4 = .int .i64 k ∧ ((1 ≤ k ∧ k ≤ (c :: t).length)) ∧ (∀ i, i < k → ∀ d, (c :: t)[i]? = some d → moreB d = true)) ((fun (k : Nat) => ((c :: t).length - k : Nat)) (1)) ?_ ?_
    ·refine Wkn.refl ⟨1, rfl, hpE, ?_, ⟨by omega, by simp⟩, hq0⟩
     all_goals first | exact zq F | rfl | omega | trivial | skip
    rintro _ s2 h' ⟨k, rfl, rfl, e4, hk, hq⟩ K2 hK2
    simp only [mix_cons, mix_nil, Nat.reduceEqDiff, ↓reduceIte] at e4
    have F := F2 F e4
    have tail : ∀ t' : Env, t' 4 = .int .i64 k → t' 0 = .str (c :: t) → nameW (c :: t) = (c :: t).take k → nameR (c :: t) = (c :: t).drop k → K t' h' := by
     intro t' e4 e0 hw hr
     have hwl : (nameW (c :: t)).length = k := by rw [hw, List.length_take]; omega
     have hbd : badN (nameW (c :: t)) = decide (64 < k) := by
      rw [← hwl, hw]
      obtain ⟨j, rfl⟩ : ∃ j, k = j + 1 := ⟨k - 1, by omega⟩
      rw [List.take_succ_cons]
      simp [badN, hb]
     refine hK _ _ (Wkn.refl ?_)
     clear hK K
     have hkl := hk.2
     have F := F3 F e4 e0
     (repeat (first | refine w1 (fun K hK => ?_) | refine w2 ?_ | refine w3 ?_ | ((first | refine w4 ?_ | refine wD ?_ | refine w5 ?_ | refine w6 ?_ | refine w7 ?_); try refine sq F ?_) | (refine w8 ?_; refine sq F ?_; refine w9 ?_) | ((first | refine hK _ _ (w0 ?_) | (clear hK K; refine hK _ _ (w0 ?_)) | (clear hK K; clear hK K; refine hK _ _ (w0 ?_))); clear hK K)))
     refine cq F (fun c3 => ?_) (fun c3 => ?_) <;> (try exact c3.elim) <;> ((repeat (first | refine w1 (fun K hK => ?_) | refine w2 ?_ | refine w3 ?_ | ((first | refine w4 ?_ | refine wD ?_ | refine w5 ?_ | refine w6 ?_ | refine w7 ?_); try refine sq F ?_) | (refine w8 ?_; refine sq F ?_; refine w9 ?_) | ((first | refine hK _ _ (w0 ?_) | (clear hK K; refine hK _ _ (w0 ?_)) | (clear hK K; clear hK K; refine hK _ _ (w0 ?_))); clear hK K))))
     ·refine ye hQ F ?_
      refine fin _ _ _ ?_
      unfold nmR; rw [hbd, decide_eq_true (by omega), if_pos rfl]
     ·trace_state
      refine ye hQ F ?_
      refine fin _ _ _ ?_
      unfold nmR; rw [hbd, decide_eq_false (by omega), if_neg (by simp), hw, hr]
    have hlt : (c :: t).length = t.length + 1 := rfl
    (repeat (first | refine w1 (fun K hK => ?_) | refine w2 ?_ | refine w3 ?_ | ((first | refine w4 ?_ | refine wD ?_ | refine w5 ?_ | refine w6 ?_ | refine w7 ?_); try refine sq F ?_) | (refine w8 ?_; refine sq F ?_; refine w9 ?_) | ((first | refine hK _ _ (w0 ?_) | (clear hK K; refine hK _ _ (w0 ?_)) | (clear hK K; clear hK K; refine hK _ _ (w0 ?_))); clear hK K)))
    (first | refine gq F (fun g2 => ?_) (fun g2 => ?_) | refine pq F (fun g2 => ?_) (fun g2 => ?_)) <;> (try exact g2.elim) <;> (try refine sq F ?_) <;> ((repeat (first | refine w1 (fun K hK => ?_) | refine w2 ?_ | refine w3 ?_ | ((first | refine w4 ?_ | refine wD ?_ | refine w5 ?_ | refine w6 ?_ | refine w7 ?_); try refine sq F ?_) | (refine w8 ?_; refine sq F ?_; refine w9 ?_) | ((first | refine hK _ _ (w0 ?_) | (clear hK K; refine hK _ _ (w0 ?_)) | (clear hK K; clear hK K; refine hK _ _ (w0 ?_))); clear hK K))))
    ·obtain ⟨y, hy, hym⟩ := getElem?_of_lt (l := c :: t) g2
     have F := F2 F hy
     try refine sq F ?_
     (repeat (first | refine w1 (fun K hK => ?_) | refine w2 ?_ | refine w3 ?_ | ((first | refine w4 ?_ | refine wD ?_ | refine w5 ?_ | refine w6 ?_ | refine w7 ?_); try refine sq F ?_) | (refine w8 ?_; refine sq F ?_; refine w9 ?_) | ((first | refine hK _ _ (w0 ?_) | (clear hK K; refine hK _ _ (w0 ?_)) | (clear hK K; clear hK K; refine hK _ _ (w0 ?_))); clear hK K)))
     refine (rmore_sat hG hC y _).mono ?_
     rintro r h' ⟨rfl, rfl⟩
     try refine sq F ?_
     (repeat (first | refine w1 (fun K hK => ?_) | refine w2 ?_ | refine w3 ?_ | ((first | refine w4 ?_ | refine wD ?_ | refine w5 ?_ | refine w6 ?_ | refine w7 ?_); try refine sq F ?_) | (refine w8 ?_; refine sq F ?_; refine w9 ?_) | ((first | refine hK _ _ (w0 ?_) | (clear hK K; refine hK _ _ (w0 ?_)) | (clear hK K; clear hK K; refine hK _ _ (w0 ?_))); clear hK K)))
     refine cq F (fun hb2 => ?_) (fun hb2 => ?_) <;> (try exact hb2.elim) <;> ((repeat (first | refine w1 (fun K hK => ?_) | refine w2 ?_ | refine w3 ?_ | ((first | refine w4 ?_ | refine wD ?_ | refine w5 ?_ | refine w6 ?_ | refine w7 ?_); try refine sq F ?_) | (refine w8 ?_; refine sq F ?_; refine w9 ?_) | ((first | refine hK _ _ (w0 ?_) | (clear hK K; refine hK _ _ (w0 ?_)) | (clear hK K; clear hK K; refine hK _ _ (w0 ?_))); clear hK K))))
     ·have hq1 : ∀ i, i < k + 1 → ∀ d, (c :: t)[i]? = some d → moreB d = true := fun i hi d hd => by
       rcases Nat.lt_or_ge i k with h1 | h1
       ·exact hq i h1 d hd
       ·obtain rfl : i = k := by omega
        rw [hy] at hd; cases hd; exact hb2
      refine hK2 _ _ _ (Wkn.refl ⟨k + 1, rfl, hpE, ?_, ⟨by omega, by omega⟩, hq1⟩) (by omega)
      all_goals first | exact zq F | rfl | omega | trivial | skip
     ·obtain ⟨k1, k2⟩ := tw_at moreB (c :: t) k hq hk.2 (.inr ⟨_, hy, hb2⟩)
      refine tail _ ?_ ?_ k1 k2
      ·exact zq F
      ·exact zq F
    ·obtain rfl : k = (c :: t).length := by omega
     obtain ⟨k1, k2⟩ := tw_at moreB (c :: t) _ hq hk.2 (.inl rfl)
     refine tail _ ?_ ?_ k1 k2
     ·exact zq F
     ·exact zq F
end Go.Av
namespace Go.Av
open Go.RowKit
section
variable {C : Ctx} {t : Env} {h : Heap}
def detGo (md : Region.Mode) (ops : Array Oper) : Nat → Array Bool → Option (List Nat)
 | 0, _ => some []
 | f + 1, L => match Region.ready md ops L with
  | [i] => (detGo md ops f (L.setIfInBounds i true)).map (i :: ·)
  | _ => none
theorem detGo_ok {ops : Array Oper} {Q : Exit → Env → Heap → Prop} {md : Region.Mode} : ∀ (f : Nat) (L : Array Bool) (idx : List Nat) (sub : List Oper) (t : Env) (h : Heap), detGo md ops f L = some idx → idx.map (fun i => ops[i]?) = sub.map some →
  WPl C ops Q sub t h → RestM C ops Q md f L t h := by
 intro f
 induction f with
 | zero =>
  intro L idx sub t h hd hs g n
  simp only [detGo, Option.some.injEq] at hd
  subst hd
  have : sub = [] := by simpa using hs.symm
  subst this
  simp only [Region.linearise.go, List.reverse_nil, WPix]
  exact g
 | succ f ih =>
  intro L idx sub t h hd hs g n
  simp only [detGo] at hd
  split at hd
  ·rename_i i hr
   obtain ⟨idx', hd', rfl⟩ := Option.map_eq_some_iff.1 hd
   cases sub with
   | nil => simp at hs
   | cons o sub =>
    simp only [List.map_cons, List.cons.injEq] at hs
    have hi : (Region.ready md ops L)[n % (Region.ready md ops L).length]? = some i := by
     rw [hr, List.length_singleton, Nat.mod_one]; rfl
    rw [go_succ md ops f n L hi]
    simp only [WPix, hs.1]
    simp only [WPl] at g
    exact wpOper_mono g fun t' h' g' => ih _ idx' sub t' h' hd' hs.2 g' _
  ·cases hd
theorem drop_idx {l : List Oper} {k n : Nat} (h : k + n ≤ l.length) : (List.range' k n).map (fun i => l.toArray[i]?) = ((l.drop k).take n).map some := by
 refine List.ext_getElem? fun i => ?_
 simp only [List.getElem?_map]
 by_cases hi : i < n
 ·rw [List.getElem?_take_of_lt hi, List.getElem?_drop, List.getElem?_range' (by omega)]
  simp only [Option.map_some, List.getElem?_toArray]
  have : k + i < l.length := by omega
  simp [List.getElem?_eq_getElem this]
 ·rw [List.getElem?_eq_none (by simp; omega), List.getElem?_eq_none (by simp; omega)]; rfl
inductive OT where
 | nil
 | one (i : Nat) (s : OT)
 | two (i : Nat) (s : OT) (j : Nat) (u : OT)
def OT.ok (ops : Array Oper) : Nat → Array Bool → OT → Bool
 | 0, _, .nil => true
 | f + 1, L, .one i s => Region.ready .any ops L == [i] && OT.ok ops f (L.setIfInBounds i true) s
 | f + 1, L, .two i s j u => Region.ready .any ops L == [i, j] && (OT.ok ops f (L.setIfInBounds i true) s && OT.ok ops f (L.setIfInBounds j true) u)
 | _, _, _ => false
def WPt (C : Ctx) (ops : Array Oper) (Q : Exit → Env → Heap → Prop) : OT → Env → Heap → Prop
 | .nil, t, h => Q .normal t h
 | .one i s, t, h => WPl C ops (fun _ t' h' => WPt C ops Q s t' h') (ops[i]?).toList t h
 | .two i s j u, t, h => WPl C ops (fun _ t' h' => WPt C ops Q s t' h') (ops[i]?).toList t h ∧ WPl C ops (fun _ t' h' => WPt C ops Q u t' h') (ops[j]?).toList t h
theorem OT.sound {ops : Array Oper} {Q : Exit → Env → Heap → Prop} : ∀ (f : Nat) (L : Array Bool) (tr : OT) (t : Env) (h : Heap), OT.ok ops f L tr = true → WPt C ops Q tr t h → RestM C ops Q .any f L t h := by
 intro f
 induction f with
 | zero =>
  intro L tr t h ho g n
  cases tr with
  | nil => simp only [Region.linearise.go, List.reverse_nil, WPix]; exact g
  | _ => simp [OT.ok] at ho
 | succ f ih =>
  intro L tr t h ho g n
  have step : ∀ (i : Nat) (s : OT), (Region.ready .any ops L)[n % (Region.ready .any ops L).length]? = some i → OT.ok ops f (L.setIfInBounds i true) s = true → WPl C ops (fun _ t' h' => WPt C ops Q s t' h') (ops[i]?).toList t h →
    WPix C ops Q (Region.linearise.go .any ops (f + 1) n L []) t h := fun i s hi hs hg => by
   rw [go_succ .any ops f n L hi]
   simp only [WPix]
   have hmem := List.mem_of_getElem? hi
   obtain ⟨_, o, ho, _⟩ := mem_ready.1 hmem
   simp only [ho, Option.toList] at hg ⊢
   simp only [WPl] at hg
   exact wpOper_mono hg fun t' h' g' => ih _ s t' h' hs g' _
  cases tr with
  | nil => simp [OT.ok] at ho
  | one i s =>
   simp only [OT.ok, Bool.and_eq_true, beq_iff_eq] at ho
   exact step i s (by rw [ho.1, List.length_singleton, Nat.mod_one]; rfl) ho.2 g
  | two i s j u =>
   simp only [OT.ok, Bool.and_eq_true, beq_iff_eq] at ho
   have hn : n % 2 = 0 ∨ n % 2 = 1 := by omega
   rcases hn with hn | hn
   ·exact step i s (by rw [ho.1]; show [i, j][n % 2]? = _; rw [hn]; rfl) ho.2.1 g.1
   ·exact step j u (by rw [ho.1]; show [i, j][n % 2]? = _; rw [hn]; rfl) ho.2.2 g.2
theorem WP_draw6 {id : Nat} {l : List Oper} {Q : Exit → Env → Heap → Prop} (k : Nat) (tr : OT) (hok : (preOk l.toArray k && decide (k ≤ l.length)) = true) (hm : C.P.follows .mixedOrders = true)
  (hT : OT.ok l.toArray (l.length - k) (listK l.length k) tr = true)
  (hh : WPp C l.toArray (l.take k) t h fun t' => WPt C l.toArray Q tr t' h) : WP C (.region id l.toArray true) Q t h := by
 simp only [Bool.and_eq_true, decide_eq_true_eq] at hok
 have D := preOk_spec hok.1
 obtain ⟨V, hv, hK⟩ := WPp_vals _ _ hh
 have hlen : (l.take k).length = k := by simp; omega
 rw [hlen] at hK
 have rT := OT.sound (ops := l.toArray) (Q := Q) _ _ tr _ h hT hK
 have main : ∀ n, WPix C l.toArray Q (Region.linearise .any l.toArray n) t h := fun n => by
  unfold Region.linearise
  refine pre_sound2 D .any D.less (by simp; omega) (V := V) (t0 := t) (fun _ => True) (fun i o hi _ => hv i o hi) (by simpa using rT) _ _ _ _ (by simp) ?_ (fun j oj hj hl => ?_) (fun j hj hl => ?_) (fun _ _ _ => trivial) (Ag.start _ _ _ _ fun j hj => ?_)
  ·unfold left
   have : (List.range l.toArray.size).filter (fun i => !(Array.replicate l.toArray.size false).getD i true) = List.range l.toArray.size := by
    rw [List.filter_eq_self]
    intro i hi
    have := List.mem_range.1 hi
    simp at this ⊢
    simp [this]
   rw [this, List.length_range]
  ·have h8 := (Array.getElem?_eq_some_iff.1 hj).1
   simp at h8 hl
   simp [h8] at hl
  ·simp at hj hl
   simp [hj] at hl
  ·have : j < l.length := by omega
   simp [this]
 show ∀ tp, WPix C l.toArray Q (Region.schedule (C.P.follows .mixedOrders) l.toArray tp) t h
 intro tp
 unfold Region.schedule
 rw [hm]
 simp only [Bool.true_or, if_true]
 exact main _
def agrL : List Nat → Env → Env → Prop
 | [], _, _ => True
 | d :: ds, s, t => s d = t d ∧ agrL ds s t
theorem agrL_mem : ∀ {ds : List Nat} {s t : Env}, agrL ds s t → ∀ d ∈ ds, s d = t d
 | [], _, _, _, d, h => by cases h
 | e :: ds, s, t, g, d, h => by
  rcases List.mem_cons.1 h with rfl | h
  ·exact g.1
  ·exact agrL_mem g.2 d h
theorem dst_mem {d : Nat} : ∀ {l : List Oper} {i : Nat} {o : Oper}, l[i]? = some o → o.dst = some d → d ∈ wrOps l
 | [], i, o, h, _ => by simp at h
 | a :: l, 0, o, h, hd => by simp at h; subst h; unfold wrOps; rw [hd]; simp
 | a :: l, i + 1, o, h, hd => by
  have := dst_mem (l := l) (i := i) (o := o) (by simpa using h) hd
  unfold wrOps; split <;> simp [this]
theorem WP_draw5 {id : Nat} {l : List Oper} {Q : Exit → Env → Heap → Prop} (k u : Nat) (oe : Oper) (hoe : l[k]? = some oe) (hok : (preOk l.toArray (k + 1) && decide (u ≤ k)) = true) (hm : C.P.follows .mixedOrders = true)
  (hu : ((List.range k).all fun i => decide (i < u) || ((Region.before l.toArray).getD k 0).testBit i) = true) (hdst : ((l.take u).all fun o => o.dst.isSome) = true)
  (hA : detGo .any l.toArray (l.length - (k + 1)) (listK l.length (k + 1)) = some (List.range' (k + 1) (l.length - (k + 1))))
  (hh : WPp C l.toArray (l.take k) t h fun t' => wpOperV C l.toArray oe t' h fun v h' =>
   (WPp C l.toArray (l.take u) t h' fun t'' => agrL (wrOps (l.take u)) t'' t') ∧ WPl C l.toArray Q (l.drop (k + 1)) (put t' oe.dst v) h') : WP C (.region id l.toArray true) Q t h := by
 simp only [Bool.and_eq_true, decide_eq_true_eq] at hok
 have D := preOk_spec hok.1
 have hkl := (List.getElem?_eq_some_iff.1 hoe).1
 obtain ⟨V, hv, hK⟩ := WPp_vals _ _ hh
 have hlen : (l.take k).length = k := by simp; omega
 rw [hlen] at hK
 have hTT : ∀ i, i ≤ k → Av.T V (l.take k) t i = Av.T V l t i := fun i hi => T_take V V k (fun _ _ => rfl) _ _ _ _ hi (by rw [List.take_take]; congr 1; omega) (by rw [hlen]; exact hi) (by omega)
 rw [hTT k (Nat.le_refl _)] at hK
 have main : ∀ n, WPix C l.toArray Q (Region.linearise .any l.toArray n) t h := fun n => by
  unfold Region.linearise
  refine pre_sound3 D .any D.less (by simp; omega) (V := V) (t0 := t) (oe := oe) (by simpa using hoe) (fun i o hi ho => ?_) ?_ _ _ _ _ (by simp) ?_ (fun j oj hj hl => ?_) (fun j hj hl => ?_) (Ag.start _ _ _ _ fun j hj => ?_)
  ·have := hv i o (by rw [List.getElem?_take, if_pos hi]; simpa using ho)
   rw [hTT i (by omega)] at this
   exact this
  ·refine wpOperV_mono hK fun v h' ⟨h1, h2⟩ => ⟨fun i o hi ho hc => ?_, ?_⟩
   ·have hiu : i < u := by
     have := List.all_eq_true.1 hu i (List.mem_range.2 hi)
     rw [hc] at this
     simpa using this
    obtain ⟨V2, hv2, hK2⟩ := WPp_vals _ _ h1
    have hlu : (l.take u).length = u := by simp; omega
    rw [hlu] at hK2
    have hVV : ∀ j, j < u → V2 j = V j := fun j hj => by
     have hoj : l[j]? = some (l[j]'(by omega)) := List.getElem?_eq_getElem _
     have hoj' : (l.take u)[j]? = some (l[j]'(by omega)) := by rw [List.getElem?_take, if_pos hj]; exact hoj
     obtain ⟨d, hdd⟩ := Option.isSome_iff_exists.1 (List.all_eq_true.1 hdst _ (List.mem_of_getElem? hoj'))
     have e := agrL_mem hK2 d (dst_mem hoj' hdd)
     have a1 := D.ag_T V2 t (by simp; omega) u (by omega)
     have a2 := D.ag_T V t (by simp; omega) k (by omega)
     have hoa : l.toArray[j]? = some (l[j]'(by omega)) := by simp
     have b1 := a1.1 j _ d (by omega) hoa (by simpa using hj) hdd
     have b2 := a2.1 j _ d (by omega) hoa (by simp; omega) hdd
     have c1 : Av.T V2 (l.toArray.toList.take (k + 1)) t u = Av.T V2 (l.take u) t u := T_take V2 V2 u (fun _ _ => rfl) _ _ _ _ (Nat.le_refl _) (by simp [List.take_take]; try omega) (by simp; omega) (by omega)
     have c2 : Av.T V (l.toArray.toList.take (k + 1)) t k = Av.T V l t k := T_take V V k (fun _ _ => rfl) _ _ _ _ (Nat.le_refl _) (by simp [List.take_take]) (by simp; omega) (by omega)
     rw [c1] at b1
     rw [c2] at b2
     rw [← b1, ← b2, e]
    have := hv2 i o (by rw [List.getElem?_take, if_pos hiu]; simpa using ho)
    rw [hVV i hiu] at this
    have c3 : Av.T V2 (l.take u) t i = Av.T V l t i := T_take V V2 u hVV _ _ _ _ (by omega) (by rw [List.take_take]; congr 1; omega) (by omega) (by omega)
    rw [c3] at this
    exact this
   ·have := detGo_ok (ops := l.toArray) (Q := Q) _ _ _ (l.drop (k + 1)) _ h' hA (by rw [drop_idx (by omega), List.take_of_length_le (by simp)]) h2
    simpa using this
  ·unfold left
   have : (List.range l.toArray.size).filter (fun i => !(Array.replicate l.toArray.size false).getD i true) = List.range l.toArray.size := by
    rw [List.filter_eq_self]
    intro i hi
    have := List.mem_range.1 hi
    simp at this ⊢
    simp [this]
   rw [this, List.length_range]
  ·have h8 := (Array.getElem?_eq_some_iff.1 hj).1
   simp at h8 hl
   simp [h8] at hl
  ·simp at hj hl
   simp [hj] at hl
  ·have : j < l.length := by omega
   simp [this]
 show ∀ tp, WPix C l.toArray Q (Region.schedule (C.P.follows .mixedOrders) l.toArray tp) t h
 intro tp
 unfold Region.schedule
 rw [hm]
 simp only [Bool.true_or, if_true]
 exact main _
attribute [go_sem] agrL
theorem WPt_nil {ops : Array Oper} {Q : Exit → Env → Heap → Prop} (g : Q .normal t h) : WPt C ops Q .nil t h := g
theorem WPt_one {ops : Array Oper} {Q : Exit → Env → Heap → Prop} {i : Nat} {s : OT} {o : Oper} (ho : ops[i]? = some o) (g : WPl C ops (fun _ t' h' => WPt C ops Q s t' h') [o] t h) : WPt C ops Q (.one i s) t h := by
 simp only [WPt, ho]; exact g
theorem WPt_two {ops : Array Oper} {Q : Exit → Env → Heap → Prop} {i j : Nat} {s u : OT} {o p : Oper} (ho : ops[i]? = some o) (hp : ops[j]? = some p) (g : WPl C ops (fun _ t' h' => WPt C ops Q s t' h') [o] t h)
  (g' : WPl C ops (fun _ t' h' => WPt C ops Q u t' h') [p] t h) : WPt C ops Q (.two i s j u) t h := by
 simp only [WPt, ho, hp]; exact ⟨g, g'⟩
end
end Go.Av
namespace Go.Av
open Go.RowKit
section
variable {C : Ctx} {t : Env} {h : Heap}
theorem pre_sound4 {ops : Array Oper} {Q : Exit → Env → Heap → Prop} {k : Nat} {c : Nat → Nat → Bool} (D : PreOk ops k c) (md : Region.Mode) (hless : ∀ (j : Nat) (oj : Oper), ops[j]? = some oj → j < k → ∀ e ∈ oj.after, Region.binds md e = true → e.on < j) (hkn : k ≤ ops.size) {V : Nat → AVal} {t0 : Env} {h : Heap} {e : Nat} {oe : Oper} (hoe : ops[e]? = some oe) (hek : e < k) (hd : oe.dst = none)
  (hv : ∀ (i : Nat) (o : Oper), i < k → i ≠ e → ops[i]? = some o → ∀ KK : AVal → Heap → Prop, KK (V i) h → wpOperV C ops o (Av.T V (ops.toList.take k) t0 i) h KK)
  (he : wpOperV C ops oe (Av.T V (ops.toList.take k) t0 e) h fun _ h' => (∀ (i : Nat) (o : Oper), i < k → i ≠ e → ops[i]? = some o → ∀ KK : AVal → Heap → Prop, KK (V i) h' → wpOperV C ops o (Av.T V (ops.toList.take k) t0 i) h' KK) ∧
   RestM C ops Q md (ops.size - k) (listK ops.size k) (Av.T V (ops.toList.take k) t0 k) h') :
  ∀ (fuel n : Nat) (L : Array Bool) (s : Env), L.size = ops.size → left ops L = fuel → Closed ops L → (∀ j, j < ops.size → L.getD j false = true → j < k) → L.getD e false = false → Ag ops k V t0 (fun j => L.getD j false) s →
   WPix C ops Q (Region.linearise.go md ops fuel n L []) s h := by
 intro fuel
 induction fuel with
 | zero =>
  intro n L s hs hl cl hlt heun ag
  have := left_zero hs hl e (by omega)
  rw [heun] at this; cases this
 | succ fuel ih =>
  intro n L s hs hl cl hlt heun ag
  have hne : Region.ready md ops L ≠ [] := by
   have hmin : ∃ i, i < k ∧ L.getD i false = false ∧ ∀ j, j < i → L.getD j false = true := by
    obtain ⟨i, hi, hl⟩ : ∃ i, i < k ∧ L.getD i false = false := ⟨e, hek, heun⟩
    induction i using Nat.strongRecOn with
    | ind i ih =>
     by_cases hall : ∀ j, j < i → L.getD j false = true
     ·exact ⟨i, hi, hl, hall⟩
     ·have : ∃ j, j < i ∧ L.getD j false = false := Classical.byContradiction fun hno => hall fun j hj => by
       cases hlj : L.getD j false with
       | true => rfl
       | false => exact absurd ⟨j, hj, hlj⟩ hno
      obtain ⟨j, hj, hlj⟩ := this
      exact ih j hj (by omega) hlj
   obtain ⟨i, hi, hl, hall⟩ := hmin
   have hin : i < ops.size := by omega
   have h3 : i < L.size := by omega
   intro e
   have : i ∈ Region.ready md ops L := mem_ready.2 ⟨by simp [h3] at hl ⊢; exact hl, ops[i], Array.getElem?_eq_getElem hin, fun e he hb => hall _ (hless i _ (Array.getElem?_eq_getElem hin) hi e he hb)⟩
   rw [e] at this; cases this
  obtain ⟨i, hi, hmem⟩ := getElem?_mod hne n
  obtain ⟨hun, o, ho, hrd⟩ := mem_ready.1 hmem
  have hin := (Array.getElem?_eq_some_iff.1 ho).1
  have h3 : i < L.size := by omega
  have hun' : L.getD i false = false := by simp [h3] at hun ⊢; exact hun
  have hrd' : ∀ e ∈ o.after, Region.binds .any e = true → L.getD e.on false = true := fun e he hb => hrd e he (binds_any hb)
  have hik : i < k := by
   refine Nat.lt_of_not_le fun hle => ?_
   obtain ⟨e1, he1, hb, h1⟩ := D.sfx e i o ho hek hle
   have h2 := hrd' e1 he1 hb
   have hkl : L.getD e false = true := by
    rcases h1 with rfl | ⟨h4, h5, h6⟩
    ·exact h2
    ·have hoe : ops[e1.on]? = some ops[e1.on] := Array.getElem?_eq_getElem (by omega)
     exact D.bef cl e1.on _ hoe h4 e h5 h6 fun e' he' hb' => cl e1.on _ hoe h2 e' he' hb'
   rw [heun] at hkl; cases hkl
  rw [go_succ md ops fuel n L hi]
  simp only [WPix, ho]
  rw [wpOper_V]
  have hsees := D.sees cl ag ho hik hkn hun' hrd'
  rw [← wpOperV_congr (t := Av.T V (ops.toList.take k) t0 i) hsees]
  have agn : ∀ v, (v = V i ∨ o.dst = none) → Ag ops k V t0 (fun j => (L.setIfInBounds i true).getD j false) (put s o.dst v) := fun v hv1 => by
   have e1 : put s o.dst v = put s o.dst (V i) := by
    rcases hv1 with rfl | h1
    ·rfl
    ·rw [h1]; rfl
   rw [e1]
   refine D.ag_put ag ho hik fun j hj => ?_
   by_cases hji : i = j
   ·subst hji; simp [h3]
   ·rw [getD_set_ne false hji]
    have : (j == i) = false := by simp; exact fun e => hji e.symm
    rw [this, Bool.or_false]
  have hlt' : ∀ j, j < ops.size → (L.setIfInBounds i true).getD j false = true → j < k := fun j hj hlj => by
   by_cases hji : i = j
   ·subst hji; exact hik
   ·rw [getD_set_ne false hji] at hlj; exact hlt j hj hlj
  by_cases hk : i = e
  ·subst hk
   rw [hoe] at ho; cases ho
   refine wpOperV_mono he fun v h' ⟨hv2, hrest⟩ => ?_
   refine pre_sound2 D md hless hkn (V := V) (t0 := t0) (h := h') (fun j => j ≠ i) (fun j o hj hok KK hkk => ?_) hrest _ _ _ _ (by simpa using hs) (by have := left_set hs hin hun'; omega) (cl.set hoe hrd') hlt' (fun j hj hlj => ?_) (agn v (.inr hd))
   ·have hjk : j < k := by
     refine Nat.lt_of_not_le fun hle => ?_
     rw [List.getElem?_take, if_neg (by omega)] at hj; cases hj
    have hoj : ops[j]? = some o := by
     rw [List.getElem?_take, if_pos hjk] at hj
     simpa using hj
    exact hv2 j o hjk hok hoj KK hkk
   ·rintro rfl
    simp [h3] at hlj
  ·refine hv i o hik hk ho _ ?_
   refine ih _ _ _ (by simpa using hs) (by have := left_set hs hin hun'; omega) (cl.set ho hrd') hlt' ?_ (agn _ (.inl rfl))
   rw [getD_set_ne false hk]; exact heun
theorem T_set (V : Nat → AVal) (x : Oper) (hx : x.dst = none) : ∀ (l : List Oper) (t : Env) (e i : Nat), (∀ o, l[e]? = some o → o.dst = none) → Av.T V (l.set e x) t i = Av.T V l t i
 | [], t, e, i, _ => rfl
 | o :: l, t, 0, 0, _ => rfl
 | o :: l, t, 0, i + 1, h0 => by
  have := h0 o rfl
  simp only [List.set_cons_zero, Av.T, hx, this]
 | o :: l, t, e + 1, 0, _ => rfl
 | o :: l, t, e + 1, i + 1, h0 => by
  simp only [List.set_cons_succ, Av.T]
  exact T_set _ x hx l _ e i fun o h => h0 o (by simpa using h)
def nopO : Oper := { dst := none, op := .move (.const (.bool false)), type := 0, pos := "", after := #[], guard := none }
def wholeOk (l : List Oper) (e : Nat) : Bool :=
 preOkG false l.toArray l.length && (List.range l.length).all fun i => (i == e || (l[i]?.any fun o => o.dst.isSome)) &&
  (decide (i ≤ e) || (l[i]?.any fun o => l[e]?.any fun oe => o.dst.any fun d => !(oe.looksAt l.toArray).contains d))
theorem WP_draw7 {id : Nat} {l : List Oper} {Q : Exit → Env → Heap → Prop} (e : Nat) (oe : Oper) (hoe : l[e]? = some oe) (hd : oe.dst = none) (hok : wholeOk l e = true) (hm : C.P.follows .mixedOrders = true)
  (hh : WPp C l.toArray (l.set e nopO) t h fun t' => wpOperV C l.toArray oe t' h fun _ h' =>
   (WPp C l.toArray (l.set e nopO) t h' fun t'' => agrL (wrOps (l.set e nopO)) t'' t') ∧ Q .normal t' h') : WP C (.region id l.toArray true) Q t h := by
 unfold wholeOk at hok
 simp only [Bool.and_eq_true] at hok
 obtain ⟨hok, hall⟩ := hok
 have D := preOkG_spec hok
 have hall : ∀ i, i < l.length → (i = e ∨ ∃ o d, l[i]? = some o ∧ o.dst = some d) ∧ (e < i → ∀ o, l[i]? = some o → ∀ d, o.dst = some d → d ∉ oe.looksAt l.toArray) := fun i hi => by
  have := List.all_eq_true.1 hall i (List.mem_range.2 hi)
  simp only [Bool.and_eq_true, Bool.or_eq_true, beq_iff_eq, decide_eq_true_eq] at this
  refine ⟨?_, fun hei o ho d hdd hmem => by
   rcases this.2 with h1 | h1
   ·omega
   ·rw [ho, hoe] at h1
    simp [hdd, hmem] at h1⟩
  rcases this.1 with h1 | h1
  ·exact .inl h1
  ·have : l[i]? = some (l[i]'hi) := List.getElem?_eq_getElem _
   rw [this] at h1
   obtain ⟨d, h2⟩ := Option.isSome_iff_exists.1 (show (l[i]'hi).dst.isSome = true from h1)
   exact .inr ⟨_, d, this, h2⟩
 have hel := (List.getElem?_eq_some_iff.1 hoe).1
 have hset : ∀ i, i ≠ e → (l.set e nopO)[i]? = l[i]? := fun i hi => by rw [List.getElem?_set_ne (fun h => hi h.symm)]
 have hTs : ∀ (V : Nat → AVal) (i : Nat), Av.T V (l.set e nopO) t i = Av.T V l t i := fun V i => T_set V nopO rfl l t e i fun o ho => by rw [hoe] at ho; cases ho; exact hd
 obtain ⟨V, hv, hK⟩ := WPp_vals _ _ hh
 rw [List.length_set, hTs] at hK
 have htk : l.toArray.toList.take l.length = l := by simp
 have see : ∀ d ∈ oe.looksAt l.toArray, Av.T V l t l.length d = Av.T V l t e d := fun d hdd => by
  have : ∀ i, e ≤ i → i ≤ l.length → Av.T V l t i d = Av.T V l t e d := fun i => by
   induction i with
   | zero =>
    intro h1 _
    have h9 : e = 0 := by omega
    rw [h9]
   | succ i ih =>
    intro h1 h2
    by_cases hie : e = i + 1
    ·rw [hie]
    ·have ho : l[i]? = some (l[i]'(by omega)) := List.getElem?_eq_getElem _
     rw [T_succ _ _ _ _ _ ho]
     by_cases h3 : e = i
     ·subst h3
      rw [hoe] at ho
      rw [← Option.some.inj ho, hd]
      exact ih (Nat.le_refl _) (by omega)
     ·have h4 := (hall i (by omega)).2 (by omega) _ ho
      cases hdi : (l[i]'(by omega)).dst with
      | none => exact ih (by omega) (by omega)
      | some d1 =>
       have hne : d ≠ d1 := by
        rintro rfl
        exact h4 _ hdi hdd
       have : put (Av.T V l t i) (some d1) (V i) d = Av.T V l t i d := by simp [put, upd, hne]
       rw [this]
       exact ih (by omega) (by omega)
  exact this _ (by omega) (Nat.le_refl _)
 rw [wpOperV_congr see] at hK
 have main : ∀ n, WPix C l.toArray Q (Region.linearise .any l.toArray n) t h := fun n => by
  unfold Region.linearise
  refine pre_sound4 D .any D.less (by simp) (V := V) (t0 := t) (e := e) (oe := oe) (by simpa using hoe) hel hd (fun i o hi hie ho => ?_) ?_ _ _ _ _ (by simp) ?_ (fun j oj hj hl => ?_) (fun j hj hl => ?_) (by simp [hel]) (Ag.start _ _ _ _ fun j hj => ?_)
  ·have := hv i o (by rw [hset i hie]; simpa using ho)
   rw [hTs] at this
   rw [htk]; exact this
  ·rw [htk]
   refine wpOperV_mono hK fun v h' ⟨h1, h2⟩ => ⟨fun i o hi hie ho => ?_, ?_⟩
   ·obtain ⟨V2, hv2, hK2⟩ := WPp_vals _ _ h1
    rw [List.length_set, hTs] at hK2
    have hVV : ∀ j, j < l.length → j ≠ e → V2 j = V j := fun j hj hje => by
     rcases (hall j hj).1 with h3 | ⟨o, d, hoj, hdd⟩
     ·exact absurd h3 hje
     ·have e1 := agrL_mem hK2 d (dst_mem (by rw [hset j hje]; exact hoj) hdd)
      have a1 := (D.ag_T V2 t (by simp) l.length (Nat.le_refl _)).1 j o d hj (by simpa using hoj) (by simpa using hj) hdd
      have a2 := (D.ag_T V t (by simp) l.length (Nat.le_refl _)).1 j o d hj (by simpa using hoj) (by simpa using hj) hdd
      rw [htk] at a1 a2
      rw [← a1, ← a2, e1]
    have hTT : ∀ i, i ≤ l.length → Av.T V2 l t i = Av.T V l t i := fun i => by
     induction i with
     | zero => intro _; rw [T_zero, T_zero]
     | succ i ih =>
      intro h3
      have ho : l[i]? = some (l[i]'(by omega)) := List.getElem?_eq_getElem _
      rw [T_succ _ _ _ _ _ ho, T_succ _ _ _ _ _ ho, ih (by omega)]
      by_cases hie : i = e
      ·subst hie
       rw [hoe] at ho
       rw [← Option.some.inj ho, hd]; rfl
      ·rw [hVV i (by omega) hie]
    have := hv2 i o (by rw [hset i hie]; simpa using ho)
    rw [hTs, hTT i (by omega), hVV i hi hie] at this
    exact this
   ·have e1 : l.toArray.size - l.length = 0 := by simp
    rw [e1]
    exact Rest.nil h2 .any
  ·unfold left
   have : (List.range l.toArray.size).filter (fun i => !(Array.replicate l.toArray.size false).getD i true) = List.range l.toArray.size := by
    rw [List.filter_eq_self]
    intro i hi
    have := List.mem_range.1 hi
    simp at this ⊢
    simp [this]
   rw [this, List.length_range]
  ·have h8 := (Array.getElem?_eq_some_iff.1 hj).1
   simp at h8 hl
   simp [h8] at hl
  ·simp at hj hl
   simp [hj] at hl
  ·have : j < l.length := by omega
   simp [this]
 show ∀ tp, WPix C l.toArray Q (Region.schedule (C.P.follows .mixedOrders) l.toArray tp) t h
 intro tp
 unfold Region.schedule
 rw [hm]
 simp only [Bool.true_or, if_true]
 exact main _
end
end Go.Av
namespace Go.Av
open Go Go.RowKit
theorem gs_ne {H : Heap} {p q : Nat} (b : Blk) (v : Nat) (hne : p ≠ q) : getRow (H.set p b) q v = getRow H q v := by
 unfold getRow; rw [List.getElem?_set_ne hne]
theorem gs_eq {H : Heap} {p : Nat} (e n u v : Nat) (rows : List AVal) (hp : p < H.length) : getRow (H.set p (.row e n u rows)) p v = if v = u then some (e, n, rows) else none := by
 unfold getRow; rw [List.getElem?_set_self hp]
theorem gs_old {A l : Heap} {p : Nat} (v : Nat) (hp : p < A.length) : getRow (A ++ l) p v = getRow A p v := by
 unfold getRow; rw [List.getElem?_append_left hp]
theorem gs_new {A l : Heap} {n k : Nat} (v : Nat) (hn : A.length = n) : getRow (A ++ l) (n + k) v = getRow l k v := by subst hn; exact getRow_app A l k v
theorem gs_new0 {A l : Heap} {n : Nat} (v : Nat) (hn : A.length = n) : getRow (A ++ l) n v = getRow l 0 v := by subst hn; exact getRow_app0 A l v
theorem st_old {A l : Heap} {p : Nat} (b : Blk) (hp : p < A.length) : (A ++ l).set p b = A.set p b ++ l := List.set_append_left p b hp
theorem st_new {A l : Heap} {n k : Nat} (b : Blk) (hn : A.length = n) : (A ++ l).set (n + k) b = A ++ l.set k b := by subst hn; exact set_app A l k b
theorem st_new0 {A l : Heap} {n : Nat} (b : Blk) (hn : A.length = n) : (A ++ l).set n b = A ++ l.set 0 b := by subst hn; exact set_app0 A l b
theorem heapF : (∀ {H : Heap} {p q : Nat} (b : Blk) (v : Nat) (_ : p ≠ q), getRow (H.set p b) q v = getRow H q v) ∧
  (∀ {H : Heap} {p : Nat} (e n u v : Nat) (rows : List AVal) (_ : p < H.length), getRow (H.set p (.row e n u rows)) p v = if v = u then some (e, n, rows) else none) ∧
  (∀ {A l : Heap} {p : Nat} (v : Nat) (_ : p < A.length), getRow (A ++ l) p v = getRow A p v) ∧
  (∀ {A l : Heap} {n k : Nat} (v : Nat) (_ : A.length = n), getRow (A ++ l) (n + k) v = getRow l k v) ∧
  (∀ {A l : Heap} {n : Nat} (v : Nat) (_ : A.length = n), getRow (A ++ l) n v = getRow l 0 v) ∧
  (∀ {A l : Heap} {p : Nat} (b : Blk) (_ : p < A.length), (A ++ l).set p b = A.set p b ++ l) ∧
  (∀ {A l : Heap} {n k : Nat} (b : Blk) (_ : A.length = n), (A ++ l).set (n + k) b = A ++ l.set k b) ∧
  (∀ {A l : Heap} {n : Nat} (b : Blk) (_ : A.length = n), (A ++ l).set n b = A ++ l.set 0 b) ∧
  (∀ (H : Heap) (i : Nat) (b : Blk), (H.set i b).length = H.length) ∧ (∀ (H : Heap) (i : Nat) (a b : Blk), (H.set i a).set i b = H.set i b) :=
 ⟨gs_ne, gs_eq, gs_old, gs_new, gs_new0, st_old, st_new, st_new0, fun _ _ _ => List.length_set .., fun _ _ _ _ => List.set_set ..⟩
theorem gr_lt {H : Heap} {p v : Nat} {x : TypeId × Nat × List AVal} (h : getRow H p v = some x) : p < H.length := by
 obtain ⟨e, n, r⟩ := x
 exact (List.getElem?_eq_some_iff.1 (getRow_some h)).1
attribute [go_sem] List.length_set
def FrN (n0 : Nat) (H H' : Heap) : Prop := ∀ p, p < n0 → H'[p]? = H[p]?
theorem FrN.refl (n0 : Nat) (H : Heap) : FrN n0 H H := fun _ _ => rfl
theorem FrN.set {n0 : Nat} {H H' : Heap} {q : Nat} (b : Blk) (hq : n0 ≤ q) (g : FrN n0 H H') : FrN n0 H (H'.set q b) := fun p hp => by rw [List.getElem?_set_ne (by omega)]; exact g p hp
theorem FrN.app {n0 : Nat} {H H' : Heap} (l : Heap) (hn : n0 ≤ H'.length) (g : FrN n0 H H') : FrN n0 H (H' ++ l) := fun p hp => by rw [List.getElem?_append_left (by omega)]; exact g p hp
theorem FrN.trans {n0 : Nat} {H H' H'' : Heap} (g : FrN n0 H H') (k : FrN n0 H' H'') : FrN n0 H H'' := fun p hp => (k p hp).trans (g p hp)
theorem Fin.whole {h0 h1 : Heap} {R : AVal → Heap → Prop} {r : AVal} (hl : h0.length ≤ h1.length) (hc : Clo h1.length r) (hR : R r h1) : Fin h0 h1 R r :=
 ⟨h1.length, r, hl, .clo _ hc, .inl (Nat.le_refl _), by rw [List.take_length]; exact hR⟩
section
variable {C : Ctx}
theorem Sat.postw {f : FuncId} {args : List AVal} {h : Heap} {R R' : AVal → Heap → Prop} (s : Sat C f args h R) (k : ∀ r h', R r h' → ∃ h'', (∀ t, Weak C [] t h' t h'') ∧ R' r h'') : Sat C f args h R' := by
 unfold Sat at *
 intro B S μ w vs f0 rl
 refine (s B S μ w vs f0 rl).mono fun v w' ⟨r, h', S', μ', hR, st, f1, hr⟩ => ?_
 obtain ⟨h'', hw, hR'⟩ := k r h' hR
 obtain ⟨S2, μ2, st2, f2, _⟩ := (hw fun _ => undefA).2 B 0 S' μ' w' { tmps := #[], defers := [] } f1 ⟨rfl, rfl, fun i hi => by omega⟩
 exact ⟨r, h'', S2, μ2, hR', st.trans st2, f2, hr.mono st2⟩
theorem wpOperV_app {ops : Array Oper} {x y : Operand} {T T' : TypeId} {ty : TypeId} {pos : String} {aft : Array Edge} {dst : Option Tmp} {t : Env} {h : Heap} {K : AVal → Heap → Prop} :
  wpOperV C ops ⟨dst, .call ⟨.builtin .append, #[x, y], #[T, T']⟩, ty, pos, aft, none⟩ t h K = appK C T T' (aev C.G t x) (aev C.G t y) h K := rfl
theorem appK_cut {T T' e n by' p ver len : Nat} {y : AVal} {rows ys : List AVal} {h : Heap} {k : AVal → Heap → Prop} (hT : T' = T ∨ strT C.P T' = true) (he : elmT C.P T = some e) (hn : szOf C.P e = some n) (hb : byT C.P e = some by')
  (hz : (zroT C.P e).map (fun z => z.cells.length) = some n) (h0 : 0 < n) (hy : elemsOf h n y = some ys) (hrow : getRow h p ver = some (e, n, rows)) (hl : len ≤ rows.length) (hys : 0 < ys.length)
  (hr : len + ys.length ≤ maxLen ∧ (len + ys.length) * by' ≤ 140737488355328)
  (hk : k (.hs h.length 0 0 (len + ys.length) true) (h ++ [.row e n 0 (rows.take len ++ ys)])) : appK C T T' (.hs p ver 0 len false) y h k := by
 refine ⟨hT, ?_⟩
 simp only [wpAppend, he, hn, hb, hy, hrow, need_eq]
 exact ⟨h0, hz, trivial, trivial, trivial, hr, by rw [if_neg (by simp)]; exact ⟨hys, hl, hk⟩⟩
theorem aslice_hs3 {P : Program} {h : Heap} {T e p v off len n m r : Nat} {room : Bool} {rows : List AVal} {k k' : IntKind} (he : elmT P T = some e) (hg : getRow h p v = some (m, n, rows)) (hn : szOf P e = some n) (hr : r ≤ len) :
  aslice P h T (.hs p v off len room) none (some (.int k (r : Int))) (some (.int k' (r : Int))) = some (.hs p v off r false) := by
 simp only [aslice, he, hg, hn, if_true, optInt]
 rw [if_pos ⟨Int.le_refl _, by omega, by omega, .inl trivial⟩]
 simp
end
end Go.Av
namespace Go.Av
open Go Go.Proofs Go.RowKit
inductive Outl where
 | mk (title url : Bs) (kids : List Outl)
 deriving Inhabited
namespace Outl
def title : Outl → Bs | .mk t _ _ => t
def url : Outl → Bs | .mk _ u _ => u
def kids : Outl → List Outl | .mk _ _ k => k
end Outl
mutual
def Outl.av : Outl → AVal
 | .mk t u k => .agg [.str t, .str u, .sl 3 (ovs k)]
def ovs : List Outl → List AVal
 | [] => []
 | e :: l => e.av :: ovs l
end
theorem ovs_eq (l : List Outl) : ovs l = l.map Outl.av := by
 induction l with
 | nil => rfl
 | cons e l ih => rw [ovs, ih]; rfl
theorem Outl.av_eq (e : Outl) : e.av = .agg [.str e.title, .str e.url, .sl 3 (e.kids.map Outl.av)] := by
 cases e with
 | mk t u k => simp only [Outl.av, ovs_eq, Outl.title, Outl.url, Outl.kids]
mutual
def Outl.sz : Outl → Nat
 | .mk t u k => 1 + t.length + u.length + okidsz k
def okidsz : List Outl → Nat
 | [] => 0
 | e :: l => e.sz + okidsz l
end
theorem okidsz_eq (l : List Outl) : okidsz l = szs Outl.sz l := by
 induction l with
 | nil => rfl
 | cons e l ih => rw [okidsz, ih]; rfl
theorem Outl.sz_eq (e : Outl) : e.sz = 1 + e.title.length + e.url.length + szs Outl.sz e.kids := by
 cases e with
 | mk t u k => simp only [Outl.sz, okidsz_eq, Outl.title, Outl.url, Outl.kids]
theorem Outl.sz_pos (e : Outl) : 1 ≤ e.sz := by rw [Outl.sz_eq]; omega
theorem Outl.kids_sz (e : Outl) : szs Outl.sz e.kids + 1 ≤ e.sz := by rw [Outl.sz_eq e]; omega
theorem outl_len (l : List Outl) : l.length ≤ szs Outl.sz l := szs_len Outl.sz Outl.sz_pos l
@[go_sem] theorem Outl.av_cells (e : Outl) : AVal.cells (Outl.av e) = [.str e.title, .str e.url, .sl 3 (e.kids.map Outl.av)] := by rw [Outl.av_eq]; rfl
@[go_sem] theorem Outl.av_fold (e : Outl) : AVal.agg [.str e.title, .str e.url, .sl 3 (e.kids.map Outl.av)] = Outl.av e := (Outl.av_eq e).symm
@[go_sem] theorem Outl.av_box (t : TypeId) (e : Outl) (h : Heap) (k : Heap → Prop) : boxK t (Outl.av e) h k = k (h ++ [.row t 3 0 [Outl.av e]]) := by simp [Outl.av_eq, boxK_agg]
@[go_sem] theorem Outl.av_lies (e : Outl) : AVal.lies (Outl.av e) = true := by rw [Outl.av_eq]; rfl
theorem Outl.av_sto (e : Outl) : ∀ c ∈ e.av.cells, c.sto = true := by
 rw [Outl.av_cells]; intro c hc; simp only [List.mem_cons, List.mem_nil_iff, or_false] at hc; rcases hc with rfl | rfl | rfl <;> rfl
mutual
theorem Outl.clo (n : Nat) : ∀ e : Outl, Clo n e.av
 | .mk t u k => by
  rw [Outl.av]
  refine .agg _ fun c hc => ?_
  simp only [List.mem_cons, List.mem_nil_iff, or_false] at hc
  rcases hc with rfl | rfl | rfl
  ·exact .str _
  ·exact .str _
  ·exact .sl _ _ (okids_clo n k)
theorem okids_clo (n : Nat) : ∀ (l : List Outl), ∀ e ∈ ovs l, Clo n e
 | [] => by intro e he; cases he
 | x :: l => by
  intro e he
  rw [ovs] at he
  rcases List.mem_cons.1 he with rfl | he
  ·exact Outl.clo n x
  ·exact okids_clo n l e he
end
theorem Outls.clo (n m : Nat) (l : List Outl) : Clo n (.sl m (l.map Outl.av)) := .sl _ _ fun e he => by
 obtain ⟨a, _, rfl⟩ := List.mem_map.1 he; exact Outl.clo n a
def sameOL : Nat → List Outl → List Outl → Bool
 | 0, a, b => decide (a.length = b.length) && decide (a.length = 0)
 | f + 1, a, b => decide (a.length = b.length) && (a.zip b).all fun p => decide (p.1.title = p.2.title) && (decide (p.1.url = p.2.url) && sameOL f p.1.kids p.2.kids)
end Go.Av
namespace Go.Av
open Go Go.Proofs Go.RowKit
attribute [local irreducible] WP WPl WPix Sat
set_option maxRecDepth 100000
set_option maxHeartbeats 1000000
variable (G : Nat → Option (List AVal))
theorem rsame_sat : ∀ (f d : Nat), f + d = 9 → ∀ (a b : List Outl) (_ : szs Outl.sz a ≤ 1048576) (_ : szs Outl.sz b ≤ 1048576) (h : Heap), Sat (CT G) 69 [.sl 3 (a.map Outl.av), .sl 3 (b.map Outl.av), .int .i64 d] h (fun r h' => r = .bool (sameOL f a b) ∧ h' = h) := by
 intro f
 induction f with
 | zero =>
  intro d hd a b ha hb h
  have hal := outl_len a
  have hbl := outl_len b
  obtain rfl : d = 9 := by omega
  refine sb [.tmp 6] (fn := Tryz.f69) Tryz.func69 ?_
  intro Q hQ
  refine wko trivial ?_
  (first | refine gqo trivial (fun g1 => ?_) (fun g1 => ?_) | refine pqo trivial (fun g1 => ?_) (fun g1 => ?_)) <;> (try exact g1.elim) <;> (try refine sqo trivial ?_) <;> (refine wko trivial ?_)
  ·refine eeo hQ trivial ?_
   refine fR (.bool _) ?_
   have : a.length ≠ b.length := by omega
   simp [sameOL, this]
  have g1' : a.length = b.length := by omega
  (first | refine gqo trivial (fun g2 => ?_) (fun g2 => ?_) | refine pqo trivial (fun g2 => ?_) (fun g2 => ?_)) <;> (try exact g2.elim) <;> (try refine sqo trivial ?_) <;> (refine wko trivial ?_)
  ·refine cqo trivial (fun hc => ?_) (fun hc => ?_) <;> (try exact hc.elim) <;> (refine wko trivial ?_)
   ·refine eeo hQ trivial ?_
    refine fR (.bool _) ?_
    have : a.length ≠ 0 := by omega
    simp [sameOL, this]
   ·exfalso; omega
  have g2' : a.length = 0 := by omega
  refine lm (fun nL tL hL => 0 = nL ∧ h = hL ∧ tL 7 = .int .i64 0) (0) ?_ ?_
  ·refine Wkn.refl ⟨rfl, hpE, ?_⟩
   all_goals first | exact zqo trivial | rfl | omega | trivial | skip
  rintro _ s2 h' ⟨rfl, rfl, e7⟩ K2 hK2
  simp only [mix_cons, mix_nil, Nat.reduceEqDiff, ↓reduceIte] at e7
  have F := e7
  refine wko F ?_
  refine cqo F (fun hc => ?_) (fun hc => ?_) <;> (try exact hc.elim)
  ·exfalso; omega
  ·refine wko F ?_
   refine eeo hQ F ?_
   refine fR (.bool _) ?_
   simp [sameOL, ← g1', g2']
 | succ f ih =>
  intro d hd a b ha hb h
  have hal := outl_len a
  have hbl := outl_len b
  refine sb [.tmp 6] (fn := Tryz.f69) Tryz.func69 ?_
  intro Q hQ
  refine wko trivial ?_
  have out : ∀ (t' : Env), t' 6 = .bool false → sameOL (f + 1) a b = false → Q .ret t' h := by
   intro t' e6 hs
   refine (hQ _ _ ?_).1
   simp (disch := first | omega | (simp only [go_sem, ↓reduceIte, Nat.reduceEqDiff]; done) | fail) only [go_sem, ↓reduceIte, Int.reduceToNat, Int.reduceLE, Int.reduceLT, Int.reduceSub, Int.reduceAdd, Nat.reduceEqDiff, Nat.reduceAdd, Nat.reduceLeDiff, Nat.reduceLT, Nat.reduceMul, Nat.reduceSub, e6]
   exact Fin.same (.bool _) ⟨by rw [hs], rfl⟩
  (first | refine gqo trivial (fun g1 => ?_) (fun g1 => ?_) | refine pqo trivial (fun g1 => ?_) (fun g1 => ?_)) <;> (try exact g1.elim) <;> (try refine sqo trivial ?_) <;> (refine wko trivial ?_)
  ·have : a.length ≠ b.length := by omega
   exact out _ (by exact zqo trivial) (by simp [sameOL, this])
  have hl : a.length = b.length := by omega
  have hsame : sameOL (f + 1) a b = (a.zip b).all fun p => decide (p.1.title = p.2.title) && (decide (p.1.url = p.2.url) && sameOL f p.1.kids p.2.kids) := by simp [sameOL, hl]
  (first | refine gqo trivial (fun g2 => ?_) (fun g2 => ?_) | refine pqo trivial (fun g2 => ?_) (fun g2 => ?_)) <;> (try exact g2.elim) <;> (try refine sqo trivial ?_) <;> (refine wko trivial ?_)
  ·refine cqo trivial (fun hc => ?_) (fun hc => ?_) <;> (try exact hc.elim) <;> (refine wko trivial ?_)
   ·exfalso; omega
   ·refine lm (fun nL tL hL => ∃ (k : Nat), a.length - k = nL ∧ h = hL ∧ tL 7 = .int .i64 k ∧ k ≤ a.length ∧ sameOL (f + 1) a b = ((a.zip b).drop k).all fun p => decide (p.1.title = p.2.title) && (decide (p.1.url = p.2.url) && sameOL f p.1.kids p.2.kids)) ((fun (k : Nat) => (a.length - k : Nat)) (0)) ?_ ?_
    ·refine Wkn.refl ⟨0, rfl, hpE, ?_, Nat.zero_le _, hsame⟩
     all_goals first | exact zqo trivial | rfl | omega | trivial | skip
    rintro _ s2 h' ⟨k, rfl, rfl, e7, hk, hp⟩ K2 hK2
    simp only [mix_cons, mix_nil, Nat.reduceEqDiff, ↓reduceIte] at e7
    have F := e7
    refine wko F ?_
    refine cqo F (fun hc => ?_) (fun hc => ?_) <;> (try exact hc.elim)
    ·obtain ⟨x, hx, hxm⟩ := getElem?_of_lt hc
     obtain ⟨y, hy, hym⟩ := getElem?_of_lt (show k < b.length by omega)
     have hxs := szs_mem Outl.sz hxm
     have hys := szs_mem Outl.sz hym
     have hxk := x.kids_sz
     have hyk := y.kids_sz
     rw [drop_cons_of (zip_at hx hy), List.all_cons] at hp
     have F := F3 F hx hy
     refine wko F ?_
     (first | refine gqo F (fun g3 => ?_) (fun g3 => ?_) | refine pqo F (fun g3 => ?_) (fun g3 => ?_)) <;> (try exact g3.elim) <;> (try refine sqo F ?_) <;> (refine wko F ?_)
     ·exact out _ (by exact zqo F) (by rw [hp]; simp [g3])
     (first | refine gqo F (fun g4 => ?_) (fun g4 => ?_) | refine pqo F (fun g4 => ?_) (fun g4 => ?_)) <;> (try exact g4.elim) <;> (try refine sqo F ?_) <;> (refine wko F ?_)
     ·exact out _ (by exact zqo F) (by rw [hp]; simp [g4])
     refine ⟨_, ih (d + 1) (by omega) x.kids y.kids (by omega) (by omega) _, ?_⟩
     try refine sqo F ?_
     refine wko F ?_
     refine cqo F (fun hc => ?_) (fun hc => ?_) <;> (try exact hc.elim) <;> (refine wko F ?_)
     ·exact out _ (by exact zqo F) (by rw [hp]; simp [hc])
     ·refine hK2 _ _ _ (Wkn.refl ⟨k + 1, rfl, hpE, ?_, by omega, by rw [hp]; simp [g3, g4, hc]⟩) (by omega)
      all_goals first | exact zqo F | rfl | omega | trivial | skip
    ·refine wko F ?_
     refine eeo hQ F ?_
     refine fR (.bool _) ?_
     rw [hp, drop_nil_of (by simp; omega)]; rfl
  ·refine lm (fun nL tL hL => ∃ (k : Nat), a.length - k = nL ∧ h = hL ∧ tL 7 = .int .i64 k ∧ k ≤ a.length ∧ sameOL (f + 1) a b = ((a.zip b).drop k).all fun p => decide (p.1.title = p.2.title) && (decide (p.1.url = p.2.url) && sameOL f p.1.kids p.2.kids)) ((fun (k : Nat) => (a.length - k : Nat)) (0)) ?_ ?_
   ·refine Wkn.refl ⟨0, rfl, hpE, ?_, Nat.zero_le _, hsame⟩
    all_goals first | exact zqo trivial | rfl | omega | trivial | skip
   rintro _ s2 h' ⟨k, rfl, rfl, e7, hk, hp⟩ K2 hK2
   simp only [mix_cons, mix_nil, Nat.reduceEqDiff, ↓reduceIte] at e7
   have F := e7
   refine wko F ?_
   refine cqo F (fun hc => ?_) (fun hc => ?_) <;> (try exact hc.elim)
   ·exfalso; omega
   ·refine wko F ?_
    refine eeo hQ F ?_
    refine fR (.bool _) ?_
    rw [hp, drop_nil_of (by simp; omega)]; rfl
theorem rSame_sat (a b : List Outl) (ha : szs Outl.sz a ≤ 1048576) (hb : szs Outl.sz b ≤ 1048576) (h : Heap) : Sat (CT G) 35 [.sl 3 (a.map Outl.av), .sl 3 (b.map Outl.av)] h (fun r h' => r = .bool (sameOL 8 a b) ∧ h' = h) := by
 refine sb [.tmp 4] (fn := Tryz.f35) Tryz.func35 ?_
 intro Q hQ
 refine wko trivial ?_
 refine kqo trivial (rsame_sat G 8 1 (by omega) a b ha hb _) ?_
 refine eeo hQ trivial ?_
 refine fR (.bool _) ?_
 rfl
end Go.Av
namespace Go.Av
open Go Go.Proofs Go.RowKit
attribute [local irreducible] WP WPl WPix Sat
set_option maxRecDepth 100000
set_option maxHeartbeats 1000000
variable (G : Nat → Option (List AVal))
structure OE where
 n : Bs
 a : List At
 t : Bs
 k : List Elem
 q : Nat
 v : Nat
def OE.av (o : OE) : AVal := .agg [.str o.n, .sl 2 (o.a.map At.av), .str o.t, .hs o.q o.v 0 o.k.length true]
def OE.el (o : OE) : Elem := ⟨o.n, o.a, o.t, o.k⟩
@[go_sem] theorem OE.av_cells (o : OE) : AVal.cells (OE.av o) = [.str o.n, .sl 2 (o.a.map At.av), .str o.t, .hs o.q o.v 0 o.k.length true] := (rfl)
@[go_sem] theorem OE.av_fold (o : OE) : AVal.agg [.str o.n, .sl 2 (o.a.map At.av), .str o.t, .hs o.q o.v 0 o.k.length true] = OE.av o := (rfl)
@[go_sem] theorem OE.av_lies (o : OE) : AVal.lies (OE.av o) = true := (rfl)
@[go_sem] theorem OE.of (o : OE) (cs : List AVal) : ofCells (OE.av o) cs = .agg cs := (rfl)
structure BH (H : Heap) (n0 pb po vo : Nat) (room : Bool) (os : List OE) (pd vd : Nat) (ds : List Elem) : Prop where
 b : getRow H pb 0 = some (106, 2, [.agg [.hs po vo 0 os.length room, .hs pd vd 0 ds.length true]])
 o : getRow H po vo = some (26, 4, os.map OE.av)
 d : getRow H pd vd = some (26, 4, ds.map Elem.av)
 k : ∀ (i : Nat) (o : OE), os[i]? = some o → getRow H o.q o.v = some (26, 4, o.k.map Elem.av)
 od : po ≠ pd
 ko : ∀ (i : Nat) (o : OE), os[i]? = some o → o.q ≠ po ∧ o.q ≠ pd ∧ n0 ≤ o.q
 kk : ∀ (i j : Nat) (o o' : OE), os[i]? = some o → os[j]? = some o' → i ≠ j → o.q ≠ o'.q
 n : n0 ≤ pb ∧ n0 ≤ po ∧ n0 ≤ pd
theorem row_ne {H : Heap} {p q v u e e' n n' : Nat} {rs rs' : List AVal} (h1 : getRow H p v = some (e, n, rs)) (h2 : getRow H q u = some (e', n', rs')) (hn : n ≠ n') : p ≠ q := by
 rintro rfl
 have a := getRow_some h1; have b := getRow_some h2
 rw [a] at b; simp at b; exact hn b.2.1
variable {H : Heap} {n0 pb po vo pd vd : Nat} {room : Bool} {os : List OE} {ds : List Elem}
theorem BH.bo (g : BH H n0 pb po vo room os pd vd ds) : pb ≠ po := row_ne g.b g.o (by decide)
theorem BH.bd (g : BH H n0 pb po vo room os pd vd ds) : pb ≠ pd := row_ne g.b g.d (by decide)
theorem BH.bk (g : BH H n0 pb po vo room os pd vd ds) (i : Nat) (o : OE) (h : os[i]? = some o) : pb ≠ o.q := row_ne g.b (g.k i o h) (by decide)
def stepB (os ds : List Elem) (t : Tok) : Option (List Elem × List Elem) :=
 if t.1 = 1 then (if os.length + 1 ≤ 32 ∧ ds = [] then some (os ++ [⟨t.2.1, t.2.2.1, [], []⟩], ds) else none)
 else if t.1 = 2 then
  match os.getLast? with
  | none => none
  | some e => if e.name = t.2.1 then
    match os.dropLast.getLast? with
    | none => some ([], ds ++ [e])
    | some p => some (os.dropLast.dropLast ++ [⟨p.name, p.attrs, p.text, p.kids ++ [e]⟩], ds)
   else none
 else if t.1 = 3 then
  match os.getLast? with
  | none => if t.2.2.2.all blankB = true then some ([], ds) else none
  | some e => some (os.dropLast ++ [⟨e.name, e.attrs, e.text ++ t.2.2.2, e.kids⟩], ds)
 else none
def BPost (n0 pb : Nat) (H : Heap) (os ds : List Elem) (x : Option (List Elem × List Elem)) (r : AVal) (H' : Heap) : Prop :=
 (FrN n0 H H' ∧ H.length ≤ H'.length) ∧ match x with
 | none => r = .bool false
 | some y => r = .bool true ∧ ∃ po vo room os' pd vd, BH H' n0 pb po vo room os' pd vd y.2 ∧ os'.map OE.el = y.1
end Go.Av
namespace Go.Av
open Go Go.Proofs Go.RowKit
attribute [local irreducible] WP WPl WPix Sat
set_option maxRecDepth 100000
set_option maxHeartbeats 1000000
variable (G : Nat → Option (List AVal))
theorem PShort_sat (s : Bs) (hs : s.length ≤ 1048576) (h : Heap) : Sat (CT G) 19 [.str s] h (fun r h' => r = .str (short s) ∧ h' = h) := by
 obtain ⟨h1, h2, h3⟩ := short_lib s
 have hl := LastIndexByte_sat G s 58 (by omega)
 generalize Lib.lastIndexByte ⟨s.toArray⟩ 58 = n at h1 h2 h3 hl
 refine sb [.tmp 2] (fn := Tryz.f19) Tryz.func19 ?_
 intro Q hQ
 refine wko trivial ?_
 refine kqo trivial (hl _) ?_
 refine eeo hQ trivial ?_
 refine fR (.str _) ?_
 rw [h1]
theorem PKids_sat (e : Elem) (n : Bs) (hs : e.sz ≤ 1048576) (h : Heap) : Sat (CT G) 30 [e.av, .str n] h (fun r h' => r = .sl 4 ((kidsF e n).map Elem.av) ∧ h' = h) := by
 have hkl := e.kids_len
 refine sb [.tmp 4] (fn := Tryz.f30) Tryz.func30 ?_
 intro Q hQ
 refine wko trivial ?_
 refine lm (fun nL tL hL => ∃ (k v : Nat) (acc : List Elem) (j : Heap), e.kids.length - k = nL ∧ h ++ .row 26 4 0 [e.av] :: .row 26 4 v (acc.map Elem.av) :: j = hL ∧ tL 5 = .hs (h.length + 1) v 0 acc.length true ∧ tL 11 = .int .i64 k ∧ k ≤ e.kids.length ∧ acc.length ≤ k ∧ acc ++ (e.kids.drop k).filter (fun k => decide (short k.name = n)) = kidsF e n) ((fun (k v : Nat) (acc : List Elem) (j : Heap) => (e.kids.length - k : Nat)) (0) (0) ([]) ([])) ?_ ?_
 ·refine ⟨_, _, Weak.virt 5 26 4 (by simp) (by omega) (by exact zqo trivial), ⟨0, 0, [], [], rfl, hpE, ?_, ?_, ?_, ?_, ?_⟩⟩
  all_goals first | exact zqo trivial | rfl | omega | trivial | skip
 rintro _ s2 h' ⟨k, v, acc, j, rfl, rfl, e5, e11, hk, hl, hp⟩ K2 hK2
 simp only [mix_cons, mix_nil, Nat.reduceEqDiff, ↓reduceIte] at e5 e11
 have F := F2 e5 e11
 refine wko F ?_
 refine cqo F (fun hc => ?_) (fun hc => ?_) <;> (try exact hc.elim)
 ·obtain ⟨y, hy, hym⟩ := getElem?_of_lt hc
  have := Elem.kid_sz hym
  have := y.name_len
  rw [drop_cons_of hy, List.filter_cons] at hp
  have F := F2 F hy
  refine wko F ?_
  refine kqo F (PShort_sat G y.name (by omega) _) ?_
  refine cqo F (fun hc => ?_) (fun hc => ?_) <;> (try exact hc.elim) <;> (refine wko F ?_)
  ·refine aqo F ?_
   try refine sqo F ?_
   refine wko F ?_
   refine hK2 _ _ _ (Wkn.refl ⟨k + 1, v + 1, acc ++ [y], _, rfl, hpE, ?_, ?_, by omega, by simp; omega, by rw [if_pos (by simp [hc])] at hp; rw [← hp]; simp⟩) (by omega)
   all_goals first | exact zqo F | rfl | omega | trivial | skip
  ·refine hK2 _ _ _ (Wkn.refl ⟨k + 1, v, acc, _, rfl, hpE, ?_, ?_, by omega, by omega, by rw [if_neg (by simp [hc])] at hp; exact hp⟩) (by omega)
   all_goals first | exact zqo F | rfl | omega | trivial | skip
 ·refine wko F ?_
  refine eeo hQ F ?_
  rw [drop_nil_of hc, List.filter_nil, List.append_nil] at hp
  subst hp
  exact Fin.frz (frz_elems (pre := h ++ [.row 26 4 0 [e.av]]) (post := j) _ (by simp; rfl) (by simp) (by omega)) ⟨rfl, rfl⟩
theorem PKid_sat (e : Elem) (n : Bs) (hs : e.sz ≤ 1048576) (h : Heap) : Sat (CT G) 14 [e.av, .str n] h (fun r h' => r = .tup [(kidF e n).1.av, .bool (kidF e n).2] ∧ h' = h) := by
 refine sb [.cell 4 26, .tmp 5] (fn := Tryz.f14) Tryz.func14 ?_
 intro Q hQ
 refine wko trivial ?_
 refine kqo trivial (PKids_sat G e n hs _) ?_
 refine cqo trivial (fun hc => ?_) (fun hc => ?_) <;> (try exact hc.elim) <;> (refine wko trivial ?_)
 ·refine yeo hQ trivial ?_
  have hk : kidsF e n = [] := List.length_eq_zero_iff.1 (by omega)
  simp only [kidF, hk]
  refine Fin.frz ?_ ⟨rfl, rfl⟩
  refine .tup _ _ rfl fun i c d hc hd => ?_
  match i with
  | 0 => simp at hc hd; subst hc; subst hd; exact frz_elem0 _ _
  | 1 => simp at hc hd; subst hc; subst hd; exact .clo _ (.bool _)
  | i + 2 => simp at hc
 ·obtain ⟨y, l, hk⟩ : ∃ y l, kidsF e n = y :: l := by
   cases hq : kidsF e n with
   | nil => rw [hq] at hc; simp at hc
   | cons y l => exact ⟨y, l, rfl⟩
  rw [hk]
  have h0 : (y :: l)[0]? = some y := rfl
  have F := h0
  refine wko F ?_
  simp only [h0]
  try refine sqo F ?_
  refine wko F ?_
  refine yeo hQ F ?_
  simp only [kidF, hk]
  exact Fin.plain (.tup _ (by intro c hc; simp at hc; rcases hc with rfl | rfl; exact Elem.clo _ _; exact .bool _)) ⟨rfl, rfl⟩
def idxF {α : Type} (p : α → Bool) : List α → Nat → Int
 | [], _ => -1
 | a :: l, k => if p a then (k : Int) else idxF p l (k + 1)
theorem idxF_bd {α : Type} (p : α → Bool) : ∀ (l : List α) (k : Nat), -1 ≤ idxF p l k ∧ idxF p l k < l.length + k
 | [], k => by simp [idxF]; omega
 | a :: l, k => by
  have := idxF_bd p l (k + 1)
  rw [idxF]; split <;> (simp; omega)
theorem IndexFunc_sat (p : At → Bool) (g : FuncId) (cap : List AVal) (l : List At) (hs : l.length ≤ 1048576) (h : Heap) (hg : ∀ (a : At) (j : Heap), Sat (CT G) g (a.av :: cap) (h ++ j) (fun r h' => r = .bool (p a) ∧ h' = h ++ j)) :
  Sat (CT G) 50 [.sl 2 (l.map At.av), .fn (.func g) [] cap] h (fun r h' => r = .int .i64 (idxF p l 0) ∧ h' = h) := by
 refine sb [.tmp 4] (fn := Tryz.f50) Tryz.func50 ?_
 intro Q hQ
 refine wko trivial ?_
 refine lm (fun nL tL hL => ∃ (k : Nat), l.length - k = nL ∧ h = hL ∧ tL 8 = .int .i64 k ∧ k ≤ l.length ∧ idxF p l 0 = idxF p (l.drop k) k) ((fun (k : Nat) => (l.length - k : Nat)) (0)) ?_ ?_
 ·refine Wkn.refl ⟨0, rfl, hpE, ?_, ?_, ?_⟩
  all_goals first | exact zqo trivial | rfl | omega | trivial | skip
 rintro _ s2 h' ⟨k, rfl, rfl, e8, hk, hp⟩ K2 hK2
 simp only [mix_cons, mix_nil, Nat.reduceEqDiff, ↓reduceIte] at e8
 have F := e8
 refine wko F ?_
 refine cqo F (fun hc => ?_) (fun hc => ?_) <;> (try exact hc.elim)
 ·obtain ⟨y, hy, hym⟩ := getElem?_of_lt hc
  rw [drop_cons_of hy, idxF] at hp
  have F := F2 F hy
  refine wko F ?_
  have := hg y []
  rw [List.append_nil] at this
  refine kqo F (this) ?_
  refine cqo F (fun hc => ?_) (fun hc => ?_) <;> (try exact hc.elim) <;> (refine wko F ?_)
  ·refine eeo hQ F ?_
   refine fR (.int _ _) ?_
   rw [hp, if_pos hc]
  ·refine hK2 _ _ _ (Wkn.refl ⟨k + 1, rfl, hpE, ?_, by omega, by rw [hp, if_neg (by simp [hc])]⟩) (by omega)
   all_goals first | exact zqo F | rfl | omega | trivial | skip
 ·refine wko F ?_
  refine eeo hQ F ?_
  refine fR (.int _ _) ?_
  rw [hp, drop_nil_of hc]; rfl
end Go.Av
namespace Go.Av
open Go Go.Proofs Go.RowKit
attribute [local irreducible] WP WPl WPix Sat
set_option maxRecDepth 100000
set_option maxHeartbeats 1000000
variable (G : Nat → Option (List AVal))
theorem Attr1_sat (a : At) (n : Bs) (h j : Heap) (X : Blk) : Sat (CT G) 51 [a.av, .hp (h.length + 1) 0 0 0] (h ++ X :: .row 9 1 0 [.str n] :: j) (fun r h' => r = .bool (decide (a.1 = n)) ∧ h' = h ++ X :: .row 9 1 0 [.str n] :: j) := by
 refine sb [.tmp 3] (fn := Tryz.f51) Tryz.func51 ?_
 intro Q hQ
 refine wko trivial ?_
 refine eeo hQ trivial ?_
 refine fR (.bool _) ?_
 congr 1; rw [Bool.eq_iff_iff]; simp
theorem idxF_ge {α : Type} (p : α → Bool) : ∀ (l : List α) (k : Nat), idxF p l k = -1 ∨ (k : Int) ≤ idxF p l k
 | [], k => .inl rfl
 | a :: l, k => by
  have := idxF_ge p l (k + 1)
  rw [idxF]; split
  ·exact .inr (Int.le_refl _)
  ·omega
theorem attrF_idx (n : Bs) : ∀ (l : List At) (k : Nat), (idxF (fun a => decide (a.1 = n)) l k < 0 → attrF l n = ([], false)) ∧ (∀ i : Nat, idxF (fun a => decide (a.1 = n)) l k = ((k + i : Nat) : Int) → ∃ a, l[i]? = some a ∧ attrF l n = (a.2, true))
 | [], k => by refine ⟨fun _ => rfl, fun i hi => ?_⟩; simp only [idxF] at hi; omega
 | a :: l, k => by
  obtain ⟨h1, h2⟩ := attrF_idx n l (k + 1)
  have hg := idxF_ge (fun a : At => decide (a.1 = n)) l (k + 1)
  by_cases hc : a.1 = n
  ·simp only [idxF, hc, decide_true, if_true, attrF]
   refine ⟨fun h => by omega, fun i hi => ?_⟩
   have : i = 0 := (by omega); subst this; exact ⟨a, rfl, rfl⟩
  ·simp only [idxF, hc, decide_false, Bool.false_eq_true, if_false, attrF]
   refine ⟨h1, fun i hi => ?_⟩
   cases i with
   | zero => omega
   | succ i =>
    obtain ⟨b, hb, hr⟩ := h2 i (by rw [hi]; congr 1; omega)
    exact ⟨b, by simpa using hb, hr⟩
theorem PAttr_sat (e : Elem) (n : Bs) (hs : e.sz ≤ 1048576) (h : Heap) : Sat (CT G) 16 [e.av, .str n] h (fun r h' => r = .tup [.str (attrF e.attrs n).1, .bool (attrF e.attrs n).2] ∧ h' = h) := by
 have hal := e.attrs_len
 have hb := idxF_bd (fun a : At => decide (a.1 = n)) e.attrs 0
 obtain ⟨f1, f2⟩ := attrF_idx n e.attrs 0
 have hi := IndexFunc_sat G (fun a => decide (a.1 = n)) 51 [.hp (h.length + 1) 0 0 0] e.attrs (by omega) (h ++ [.row 26 4 0 [e.av], .row 9 1 0 [.str n]]) (fun a j => by simpa using Attr1_sat G a n h j _)
 generalize idxF (fun a : At => decide (a.1 = n)) e.attrs 0 = x at hb f1 f2 hi
 refine sb [.tmp 4, .tmp 5] (fn := Tryz.f16) Tryz.func16 ?_
 intro Q hQ
 refine wko trivial ?_
 refine kqo trivial (hi) ?_
 refine cqo trivial (fun hc => ?_) (fun hc => ?_) <;> (try exact hc.elim)
 ·refine wko trivial ?_
  refine eeo hQ trivial ?_
  refine fR (.tup _ (by simp [Clo.str, Clo.bool])) ?_
  rw [f1 hc]
 ·obtain ⟨i, rfl⟩ : ∃ i : Nat, x = (i : Int) := ⟨x.toNat, by omega⟩
  obtain ⟨a, ha, hr⟩ := f2 i (by simp)
  have F := ha
  refine wko F ?_
  refine eeo hQ F ?_
  refine fR (.tup _ (by simp [Clo.str, Clo.bool])) ?_
  rw [hr]
end Go.Av
namespace Go.Av
open Go Go.Proofs Go.RowKit
attribute [local irreducible] WP WPl WPix Sat
set_option maxRecDepth 100000
set_option maxHeartbeats 1000000
variable (G : Nat → Option (List AVal))
end Go.Av
namespace Go.Av
open Go Go.Proofs Go.RowKit
attribute [local irreducible] WP WPl WPix Sat
set_option maxRecDepth 100000
set_option maxHeartbeats 1000000
variable (G : Nat → Option (List AVal))
section
variable {σ : Type} (A B : Elem → σ → σ)
end
section
end
end Go.Av
namespace Go.Av
open Go Go.Proofs Go.RowKit
attribute [local irreducible] WP WPl WPix Sat
set_option maxRecDepth 100000
set_option maxHeartbeats 1000000
variable (G : Nat → Option (List AVal))
section
end
end Go.Av
namespace Go.Av
open Go Go.Proofs Go.RowKit
attribute [local irreducible] WP WPl WPix Sat
set_option maxRecDepth 100000
set_option maxHeartbeats 1000000
variable (G : Nat → Option (List AVal))
end Go.Av
namespace Go.Av
open Go Go.Proofs Go.RowKit
attribute [local irreducible] WP WPl WPix Sat
set_option maxRecDepth 100000
set_option maxHeartbeats 1000000
variable (G : Nat → Option (List AVal))
theorem deepL_ge : ∀ (l : List Elem) (d n : Nat), n ≤ deepL l d n ∧ ∀ k ∈ l, deep k (d + 1) ≤ deepL l d n
 | [], d, n => by rw [deepL]; exact ⟨Nat.le_refl _, fun k hk => by cases hk⟩
 | e :: l, d, n => by
  rw [deepL]
  by_cases hc : n < deep e (d + 1)
  ·rw [if_pos hc]
   obtain ⟨h1, h2⟩ := deepL_ge l d (deep e (d + 1))
   refine ⟨by omega, fun k hk => ?_⟩
   rcases List.mem_cons.1 hk with rfl | hk
   ·omega
   ·exact h2 k hk
  ·rw [if_neg hc]
   obtain ⟨h1, h2⟩ := deepL_ge l d n
   refine ⟨by omega, fun k hk => ?_⟩
   rcases List.mem_cons.1 hk with rfl | hk
   ·omega
   ·exact h2 k hk
theorem kidF_mem (e : Elem) (n : Bs) (h : (kidF e n).2 = true) : (kidF e n).1 ∈ e.kids := by
 unfold kidF at *
 cases hq : kidsF e n with
 | nil => rw [hq] at h; cases h
 | cons k l =>
  have : k ∈ kidsF e n := by rw [hq]; simp
  unfold kidsF at this
  exact (List.mem_filter.1 this).1
end Go.Av
namespace Go.Av
open Go Go.Proofs Go.RowKit
attribute [local irreducible] WP WPl WPix Sat
set_option maxRecDepth 100000
set_option maxHeartbeats 1000000
variable (G : Nat → Option (List AVal))
def setL : List AVal := (List.range 256).map fun i : Nat => .bool (blankP (i : Int))
theorem setL_len : setL.length = 256 := by simp [setL]
theorem setL_at (c : UInt8) : (setL.drop (c.toNat * 1)).head? = some (.bool (blankB c)) := by
 rw [Nat.mul_one]
 have h := c.toNat_lt
 have e : setL.drop c.toNat = .bool (blankB c) :: setL.drop (c.toNat + 1) := by
  refine drop_cons_of ?_
  unfold setL
  rw [List.getElem?_map, List.getElem?_range (by omega)]
  rfl
 rw [e]; rfl
theorem make_run : isV (.tup [.agg setL, .bool true]) (callX (CT G) orcL 1000 100 163 [.str blk4] []) = true := by
 kernel_rfl
theorem make_sat (hG : GOk G) (hC : GClo (CT G)) (h : Heap) : Sat (CT G) 163 [.str blk4] h (fun r h' => r = .tup [.agg setL, .bool true] ∧ h' = h) :=
 Sat.closedV hC (orcL_ok hG) 1000 100 rfl (by kernel_rfl) (make_run G) h
def setR : Blk := .row 157 256 0 [.agg setL]
@[go_sem] theorem getRow_setR (l : Heap) : getRow (setR :: l) 0 0 = some (157, 256, [.agg setL]) := rfl
theorem contains_sat (c : UInt8) (h : Heap) : Sat (CT G) 177 [.hp h.length 0 0 0, .int .u8 c.toNat] (h ++ [setR]) (fun r h' => r = .bool (blankB c) ∧ h' = h ++ [setR]) := by
 have hlt := c.toNat_lt
 have hs := setL_at c
 have F := hs
 refine sb [.tmp 4] (fn := Tryz.f177) Tryz.func177 ?_
 intro Q hQ
 refine wk F ?_
 refine ⟨by omega, ?_⟩
 try refine sq F ?_
 refine wk F ?_
 refine ee hQ F ?_
 exact Fin.frzS (.clo _ (.bool _)) ⟨rfl, rfl⟩
def ltrim (s : Bs) : Bs := s.dropWhile blankB
def rtrim (s : Bs) : Bs := (s.reverse.dropWhile blankB).reverse
theorem rtrim_snoc (s : Bs) (c : UInt8) : rtrim (s ++ [c]) = if blankB c = true then rtrim s else s ++ [c] := by
 unfold rtrim
 rw [List.reverse_append, List.reverse_singleton, List.singleton_append, List.dropWhile_cons]
 split
 ·rfl
 ·simp
theorem trimLeft_sat (s : Bs) (hs : s.length ≤ 1073741824) (h : Heap) : Sat (CT G) 164 [.str s, .hp h.length 0 0 0] (h ++ [setR]) (fun r h' => r = .str (ltrim s) ∧ h' = h ++ [setR]) := by
 refine sb [.tmp 4] (fn := Tryz.f164) Tryz.func164 ?_
 intro Q hQ
 refine wk trivial ?_
 refine lm (fun nL tL hL => ∃ (s1 : Bs), s1.length = nL ∧ h ++ [setR] = hL ∧ tL 0 = .str s1 ∧ s1.length ≤ s.length ∧ ltrim s1 = ltrim s) ((fun (s1 : Bs) => (s1.length : Nat)) (s)) ?_ ?_
 ·refine Wkn.refl ⟨s, rfl, hpE, ?_, ?_, ?_⟩
  all_goals first | exact zq trivial | rfl | omega | trivial | skip
 rintro _ s2 h' ⟨s1, rfl, rfl, e0, hl, hp⟩ K2 hK2
 simp only [mix_cons, mix_nil, Nat.reduceEqDiff, ↓reduceIte] at e0
 have F := e0
 refine wk F ?_
 cases s1 with
 | nil =>
  refine cq F (fun hc => ?_) (fun hc => ?_) <;> (try exact hc.elim) <;> (refine wk F ?_)
  refine ee hQ F ?_
  rw [← hp]
  exact Fin.frzS (.clo _ (.str _)) ⟨rfl, rfl⟩
 | cons c t =>
  have h0 : (c :: t)[0]? = some c := rfl
  have h1 : (c :: t).drop 1 = t := rfl
  have h2 : (c :: t).length = t.length + 1 := rfl
  simp only [List.length_cons] at hl
  unfold ltrim at hp
  rw [List.dropWhile_cons] at hp
  have F := F3 F h0 h1
  refine cq F (fun hc => ?_) (fun hc => ?_) <;> (try exact hc.elim) <;> (refine wk F ?_)
  ·try refine sq F ?_
   refine kq F (contains_sat G c h) ?_
   refine cq F (fun hb => ?_) (fun hb => ?_) <;> (try exact hb.elim) <;> (refine wk F ?_)
   ·rw [if_neg (by simp [hb])] at hp
    refine ee hQ F ?_
    unfold ltrim
    rw [← hp]
    exact Fin.frzS (.clo _ (.str _)) ⟨rfl, rfl⟩
   ·rw [if_pos hb] at hp
    have h3 : (1 : Int) ≤ ((c :: t).length : Int) := by simp only [List.length_cons]; omega
    have F := F2 F h3
    try refine sq F ?_
    refine wk F ?_
    refine hK2 _ _ _ (Wkn.refl ⟨t, rfl, hpE, ?_, by omega, hp⟩) (by omega)
    all_goals first | exact zq F | rfl | omega | trivial | skip
  ·exfalso; omega
theorem trimRight_sat (s : Bs) (hs : s.length ≤ 1073741824) (h : Heap) : Sat (CT G) 165 [.str s, .hp h.length 0 0 0] (h ++ [setR]) (fun r h' => r = .str (rtrim s) ∧ h' = h ++ [setR]) := by
 refine sb [.tmp 4] (fn := Tryz.f165) Tryz.func165 ?_
 intro Q hQ
 refine wk trivial ?_
 refine lm (fun nL tL hL => ∃ (s1 : Bs), s1.length = nL ∧ h ++ [setR] = hL ∧ tL 0 = .str s1 ∧ s1.length ≤ s.length ∧ rtrim s1 = rtrim s) ((fun (s1 : Bs) => (s1.length : Nat)) (s)) ?_ ?_
 ·refine Wkn.refl ⟨s, rfl, hpE, ?_, ?_, ?_⟩
  all_goals first | exact zq trivial | rfl | omega | trivial | skip
 rintro _ s2 h' ⟨s1, rfl, rfl, e0, hl, hp⟩ K2 hK2
 simp only [mix_cons, mix_nil, Nat.reduceEqDiff, ↓reduceIte] at e0
 have F := e0
 refine wk F ?_
 rcases List.eq_nil_or_concat s1 with rfl | ⟨t, c, rfl⟩
 ·refine cq F (fun hc => ?_) (fun hc => ?_) <;> (try exact hc.elim) <;> (refine wk F ?_)
  refine ee hQ F ?_
  rw [← hp]
  exact Fin.frzS (.clo _ (.str _)) ⟨rfl, rfl⟩
 ·rw [List.concat_eq_append] at *
  have h2 : (t ++ [c]).length = t.length + 1 := by simp
  have h0 : (t ++ [c])[t.length]? = some c := by simp
  have h1 : (t ++ [c]).take t.length = t := by simp
  have h4 : ((t.length + 1 : Nat) : Int) - 1 = t.length := by omega
  rw [rtrim_snoc] at hp
  rw [h2] at hl
  have F := F4 F h0 h1 h4
  refine cq F (fun hc => ?_) (fun hc => ?_) <;> (try exact hc.elim) <;> (refine wk F ?_)
  ·try refine sq F ?_
   refine kq F (contains_sat G c h) ?_
   refine cq F (fun hb => ?_) (fun hb => ?_) <;> (try exact hb.elim) <;> (refine wk F ?_)
   ·rw [if_neg (by simp [hb])] at hp
    refine ee hQ F ?_
    rw [← hp]
    exact Fin.frzS (.clo _ (.str _)) ⟨rfl, rfl⟩
   ·rw [if_pos hb] at hp
    try refine sq F ?_
    refine wk F ?_
    refine hK2 _ _ _ (Wkn.refl ⟨t, rfl, hpE, ?_, by omega, hp⟩) (by omega)
    all_goals first | exact zq F | rfl | omega | trivial | skip
  ·exfalso; omega
theorem ltrim_nil : ∀ s : Bs, ltrim s = [] ↔ s.all blankB = true
 | [] => by simp [ltrim]
 | c :: t => by
  have := ltrim_nil t
  unfold ltrim at *
  rw [List.dropWhile_cons]
  by_cases hb : blankB c = true
  ·rw [if_pos hb]; simp [this, hb]
  ·rw [if_neg hb]; simp [hb]
theorem rtrim_all (s : Bs) : (rtrim s).all blankB = s.all blankB := by
 have hs : s = rtrim s ++ (s.reverse.takeWhile blankB).reverse := by
  unfold rtrim
  rw [← List.reverse_append, List.takeWhile_append_dropWhile, List.reverse_reverse]
 conv => rhs; rw [hs]
 rw [List.all_append]
 have : (s.reverse.takeWhile blankB).reverse.all blankB = true := by
  rw [List.all_reverse]
  exact List.all_takeWhile
 rw [this, Bool.and_true]
theorem trims_nil (s : Bs) : ltrim (rtrim s) = [] ↔ s.all blankB = true := by rw [ltrim_nil, rtrim_all]
theorem Trim_sat (hG : GOk G) (hC : GClo (CT G)) (s : Bs) (hs : s.length ≤ 1073741824) (h : Heap) : Sat (CT G) 134 [.str s, .str blk4] h (fun r h' => ∃ x, r = .str x ∧ (x = [] ↔ s.all blankB = true) ∧ h' = h) := by
 have b1 : (blk4 == ([] : Bs)) = false := rfl
 have b2 : (blk4.length : Int) = 4 := rfl
 have hr : (rtrim s).length ≤ s.length := by
  unfold rtrim
  have := drop_len blankB s.reverse
  simp at this ⊢; exact this
 have hs0 : ∀ (j : Heap), h ++ [.row 157 256 0 [.agg setL]] ++ j = h ++ [setR] ++ j := fun j => rfl
 have F := F3 b1 b2 @setL_len
 refine sb [.tmp 4] (fn := Tryz.f134) Tryz.func134 ?_
 intro Q hQ
 refine wk F ?_
 (first | refine gq F (fun g1 => ?_) (fun g1 => ?_) | refine pq F (fun g1 => ?_) (fun g1 => ?_)) <;> (try exact g1.elim) <;> (try refine sq F ?_) <;> (refine wk F ?_)
 ·refine ee hQ F ?_
  exact Fin.frzS (.clo _ (.str _)) ⟨s, rfl, by rw [show s = [] from by simpa using g1]; simp, rfl⟩
 ·refine kq F (make_sat G hG hC _) ?_
  refine kq F (trimRight_sat G s hs _) ?_
  refine kq F (trimLeft_sat G (rtrim s) (by omega) _) ?_
  refine ee hQ F ?_
  exact Fin.plainE (j := [setR]) rfl (.str _) ⟨_, rfl, trims_nil s, rfl⟩
end Go.Av
namespace Go.Av
open Go Go.Proofs Go.RowKit
attribute [local irreducible] WP WPl WPix Sat
set_option maxRecDepth 100000
set_option maxHeartbeats 1000000
variable (G : Nat → Option (List AVal))
variable {H : Heap} {n0 pb po vo pd vd : Nat} {room : Bool} {os : List OE} {ds : List Elem}
theorem stepB_txt (os ds : List Elem) (k : Int) (n : Bs) (a : List At) (x : Bs) (hk : k = 3) : stepB os ds (k, n, a, x) = match os.getLast? with
  | none => if x.all blankB = true then some ([], ds) else none
  | some e => some (os.dropLast ++ [⟨e.name, e.attrs, e.text ++ x, e.kids⟩], ds) := by
 subst hk; rfl
theorem BH.text {l : List OE} {o : OE} (g : BH H n0 pb po vo room (l ++ [o]) pd vd ds) (x : Bs) :
  BH (H.set po (.row 26 4 vo ((l ++ [{ o with t := x }]).map OE.av))) n0 pb po vo room (l ++ [{ o with t := x }]) pd vd ds := by
 have hb := g.b
 have at_ : ∀ (i : Nat) (p : OE), (l ++ [{ o with t := x }])[i]? = some p → ∃ p', (l ++ [o])[i]? = some p' ∧ p.q = p'.q ∧ p.v = p'.v ∧ p.k = p'.k := by
  intro i p hi
  rcases getElem?_snoc hi with h1 | ⟨h1, rfl⟩
  ·exact ⟨p, by rw [List.getElem?_append_left (List.getElem?_eq_some_iff.1 h1).1]; exact h1, rfl, rfl, rfl⟩
  ·exact ⟨o, by rw [h1]; simp, rfl, rfl, rfl⟩
 refine ⟨?_, ?_, ?_, fun i p hi => ?_, g.od, fun i p hi => ?_, fun i j p p' hi hj hij => ?_, g.n⟩
 ·rw [gs_ne _ _ g.bo.symm, hb]; simp
 ·rw [gs_eq _ _ _ _ _ (gr_lt g.o)]; simp
 ·rw [gs_ne _ _ g.od]; exact g.d
 ·obtain ⟨p', h1, h2, h3, h4⟩ := at_ i p hi
  have := g.ko i p' h1
  rw [h2, h3, h4, gs_ne _ _ this.1.symm]; exact g.k i p' h1
 ·obtain ⟨p', h1, h2, h3, h4⟩ := at_ i p hi
  rw [h2]; exact g.ko i p' h1
 ·obtain ⟨p1, h1, h2, _⟩ := at_ i p hi
  obtain ⟨p2, h3, h4, _⟩ := at_ j p' hj
  rw [h2, h4]; exact g.kk i j p1 p2 h1 h3 hij
theorem btext_sat (hG : GOk G) (hC : GClo (CT G)) (x : Bs) (hx : x.length ≤ 1073741824) (g : BH H n0 pb po vo room os pd vd ds) (hos : os.length ≤ 1000) (ht : ∀ o ∈ os, o.t.length + x.length ≤ 140737488355328) :
  Sat (CT G) 108 [.hp pb 0 0 0, .str x] H (BPost n0 pb H (os.map OE.el) ds (stepB (os.map OE.el) ds (3, [], [], x))) := by
 have hb := g.b
 have ho := g.o
 have hlo := gr_lt ho
 have hn := g.n
 rw [stepB_txt _ _ _ _ _ _ rfl]
 have F := F2 hb ho
 refine sb [.tmp 4] (fn := Tryz.f108) Tryz.func108 ?_
 intro Q hQ
 refine wk F ?_
 rcases List.eq_nil_or_concat os with rfl | ⟨l, o, rfl⟩
 ·refine cq F (fun hc => ?_) (fun hc => ?_) <;> (try exact hc.elim) <;> (refine wk F ?_)
  ·refine (Trim_sat G hG hC x hx _).mono ?_
   rintro r h' ⟨y, rfl, hy, rfl⟩
   try refine sq F ?_
   refine wk F ?_
   refine ee hQ F ?_
   have e : ∀ b : Bool, b = x.all blankB → BPost n0 pb h' ([].map OE.el) ds (if x.all blankB = true then some ([], ds) else none) (.bool b) h' := fun b hb => by
    refine ⟨⟨fun _ _ => rfl, Nat.le_refl _⟩, ?_⟩
    cases hq : x.all blankB with
    | true => rw [if_pos rfl]; exact ⟨by rw [hb, hq], po, vo, room, [], pd, vd, g, rfl⟩
    | false => rw [if_neg (by simp)]; show _ = _; rw [hb, hq]
   refine Fin.same (.bool _) (e _ ?_)
   cases hq : x.all blankB with
   | true => rw [hy.2 hq]; rfl
   | false =>
    have : y ≠ [] := fun e => by rw [hy.1 e] at hq; cases hq
    simpa using this
  ·exact absurd trivial hc
 ·rw [List.concat_eq_append] at *
  have e1 : ((l.length + 1 : Nat) : Int) - 1 = l.length := by omega
  have e2 : (l ++ [o])[l.length]? = some o := by simp
  have e3 : l.length < l.length + 1 := by omega
  have e4 := ht o (by simp)
  have hbt := g.text (o.t ++ x)
  have e5 : (l.map OE.av ++ [o.av]).set l.length (.agg [.str o.n, .sl 2 (o.a.map At.av), .str (o.t ++ x), .hs o.q o.v 0 o.k.length true]) = (l ++ [{ o with t := o.t ++ x }]).map OE.av := by
   simp [OE.av]
  have F := F4 F e1 e2 e3
  refine cq F (fun hc => ?_) (fun hc => ?_) <;> (try exact hc.elim) <;> (refine wk F ?_)
  ·exfalso; omega
  ·try refine sq F ?_
   refine wk F ?_
   refine ee hQ F ?_
   have key := Fin.whole (h0 := H) (R := BPost n0 pb H ((l ++ [o]).map OE.el) ds (some (((l ++ [o]).map OE.el).dropLast ++ [⟨o.n, o.a, o.t ++ x, o.k⟩], ds))) (h1 := H.set po (.row 26 4 vo ((l ++ [{ o with t := o.t ++ x }]).map OE.av))) (r := .bool true) (by simp) (.bool _)
    ⟨⟨fun p hp => List.getElem?_set_ne (by omega), by simp⟩, rfl, po, vo, room, _, pd, vd, hbt, by simp [OE.el]⟩
   simp only [List.map_append, List.map_cons, List.map_nil, List.getLast?_append, List.getLast?_singleton, Option.some_or] at key ⊢
   rw [e5, List.map_append, List.map_cons, List.map_nil]
   exact key
end Go.Av
namespace Go.Av
open Go Go.Proofs Go.RowKit
attribute [local irreducible] WP WPl WPix Sat
set_option maxRecDepth 100000
set_option maxHeartbeats 1000000
variable (G : Nat → Option (List AVal))
theorem frz_atsA {h0 h1 pre post : Heap} {e v q : Nat} (l : List At) (hh : h1 = pre ++ .row e 2 v (l.map At.av) :: post) (hq : q = pre.length) (hp : h0.length ≤ q) : Frz h1 h0.length (.hs q v 0 l.length true) (.sl 2 (l.map At.av)) := by
 have := frz_rows (h0 := h0) hh hq hp (fun r hr => by obtain ⟨a, _, rfl⟩ := List.mem_map.1 hr; exact At.clo _ a) (fun r hr => by obtain ⟨a, _, rfl⟩ := List.mem_map.1 hr; exact At.cells_sto a)
 simpa using this
theorem CloneA_sat (l : List At) (hl : l.length ≤ 1048576) (h : Heap) : Sat (CT G) 64 [.sl 2 (l.map At.av)] h (fun r h' => r = .sl 2 (l.map At.av) ∧ h' = h) := by
 rcases l with _ | ⟨a, l⟩
 ·refine sb [.tmp 2] (fn := Tryz.f64) Tryz.func64 ?_
  intro Q hQ
  refine wk trivial ?_
  refine binK_empty _ (by exact zq trivial) (.inl rfl) fun b => ?_
  cases b
  ·try refine sq trivial ?_
   refine wk trivial ?_
   refine appK_ez (.inl rfl) (by simp (disch := first | omega | (simp only [go_sem, ↓reduceIte, seval]; first | done | omega) | fail) only [go_sem, ↓reduceIte, seval]; rfl) (by simp (disch := first | omega | (simp only [go_sem, ↓reduceIte, seval]; first | done | omega) | fail) only [go_sem, ↓reduceIte, seval]; rfl) (by simp (disch := first | omega | (simp only [go_sem, ↓reduceIte, seval]; first | done | omega) | fail) only [go_sem, ↓reduceIte, seval]; rfl) (by simp (disch := first | omega | (simp only [go_sem, ↓reduceIte, seval]; first | done | omega) | fail) only [go_sem, ↓reduceIte, seval]; try rfl) (by omega) (by simp only [elemsOf, ↓reduceIte]; try rfl) (by simp) (fun _ => ?_) (fun h => absurd rfl h)
   try refine sq trivial ?_
   refine wk trivial ?_
   refine ee hQ trivial ?_
   exact Fin.frzS (.ezs _) ⟨rfl, rfl⟩
  ·try refine sq trivial ?_
   refine wk trivial ?_
   refine ee hQ trivial ?_
   exact Fin.frzS (.nils _) ⟨rfl, rfl⟩
 ·have hr : (List.map At.av (a :: l)) ≠ [] := by simp
  refine sb [.tmp 2] (fn := Tryz.f64) Tryz.func64 ?_
  intro Q hQ
  refine wk trivial ?_
  refine appK_ez (.inl rfl) (by simp (disch := first | omega | (simp only [go_sem, ↓reduceIte, seval]; first | done | omega) | fail) only [go_sem, ↓reduceIte, seval]; rfl) (by simp (disch := first | omega | (simp only [go_sem, ↓reduceIte, seval]; first | done | omega) | fail) only [go_sem, ↓reduceIte, seval]; rfl) (by simp (disch := first | omega | (simp only [go_sem, ↓reduceIte, seval]; first | done | omega) | fail) only [go_sem, ↓reduceIte, seval]; rfl) (by simp (disch := first | omega | (simp only [go_sem, ↓reduceIte, seval]; first | done | omega) | fail) only [go_sem, ↓reduceIte, seval]; try rfl) (by omega) (by simp only [elemsOf, ↓reduceIte]; try rfl) ?_ (fun h => by simp at h) (fun _ => ?_)
  ·simp [maxLen] at hl ⊢; omega
  try refine sq trivial ?_
  refine wk trivial ?_
  refine ee hQ trivial ?_
  have := frz_atsA (h0 := h) (h1 := h ++ [.row 67 2 0 ((a :: l).map At.av)]) (e := 67) (v := 0) (a :: l) rfl rfl (Nat.le_refl _)
  simp only [List.length_cons, List.map_cons] at this
  exact Fin.frz (by simpa using this) ⟨rfl, rfl⟩
end Go.Av
namespace Go.Av
open Go Go.Proofs Go.RowKit
attribute [local irreducible] WP WPl WPix Sat
set_option maxRecDepth 100000
set_option maxHeartbeats 1000000
variable (G : Nat → Option (List AVal))
variable {H : Heap} {n0 pb po vo pd vd : Nat} {room : Bool} {os : List OE} {ds : List Elem}
structure BR (H : Heap) (n0 pb po vo : Nat) (os : List OE) (n : Bs) (a : List At) (pd vd : Nat) (ds : List Elem) : Prop where
 b : getRow H pb 0 = some (106, 2, [.agg [.hs po vo 0 (os.length + 1) true, .hs pd vd 0 ds.length true]])
 o : getRow H po vo = some (26, 4, os.map OE.av ++ [.agg [.str n, .sl 2 (a.map At.av), .str [], .nil (.slice none 0 0)]])
 d : getRow H pd vd = some (26, 4, ds.map Elem.av)
 k : ∀ (i : Nat) (o : OE), os[i]? = some o → getRow H o.q o.v = some (26, 4, o.k.map Elem.av)
 od : po ≠ pd
 ko : ∀ (i : Nat) (o : OE), os[i]? = some o → o.q ≠ po ∧ o.q ≠ pd ∧ n0 ≤ o.q
 kk : ∀ (i j : Nat) (o o' : OE), os[i]? = some o → os[j]? = some o' → i ≠ j → o.q ≠ o'.q
 n : n0 ≤ pb ∧ n0 ≤ po ∧ n0 ≤ pd
theorem BR.weak {C : Ctx} {n : Bs} {a : List At} (g : BR H n0 pb po vo os n a pd vd ds) :
  ∃ H', (∀ (ms : List Nat) (t : Env), Weak C ms t H t H') ∧ (FrN n0 H H' ∧ H.length ≤ H'.length) ∧ BH H' n0 pb po vo true (os ++ [⟨n, a, [], [], H.length, 0⟩]) pd vd ds := by
 have hlo := gr_lt g.o
 have hpo : pb ≠ po := row_ne g.b g.o (by decide)
 have hlb := gr_lt g.b
 have hld := gr_lt g.d
 refine ⟨_, fun ms t => Weak.virtRows (p := po) (v := vo) (rows' := os.map OE.av ++ [OE.av ⟨n, a, [], [], H.length, 0⟩]) 26 4 (by omega) g.o (by simp) fun i r' hi => ?_, ⟨fun p hp => ?_, by simp⟩, ?_⟩
 ·rcases getElem?_snoc hi with h1 | ⟨h1, rfl⟩
  ·have hlt := (List.getElem?_eq_some_iff.1 h1).1
   exact ⟨r', by rw [List.getElem?_append_left hlt]; exact h1, rfl, fun q c hc => .inl hc⟩
  ·refine ⟨.agg [.str n, .sl 2 (a.map At.av), .str [], .nil (.slice none 0 0)], by rw [h1]; simp, rfl, fun q c hc => ?_⟩
   match q with
   | 0 => exact .inl hc
   | 1 => exact .inl hc
   | 2 => exact .inl hc
   | 3 => simp [OE.av, AVal.cells] at hc; exact .inr ⟨hc.symm, rfl⟩
   | q + 4 => simp [OE.av, AVal.cells] at hc
 ·have := g.n
  rw [List.getElem?_append_left (by simp; omega), List.getElem?_set_ne (by omega)]
 ·have gold : ∀ {q v : Nat} {x : TypeId × Nat × List AVal}, getRow H q v = some x → po ≠ q → getRow (H.set po (.row 26 4 vo (os.map OE.av ++ [OE.av ⟨n, a, [], [], H.length, 0⟩])) ++ [.row 26 4 0 []]) q v = some x := fun {q v x} h1 h2 => by
   rw [gs_old _ (by simpa using gr_lt h1), gs_ne _ _ h2]; exact h1
  have at_ : ∀ (i : Nat) (p : OE), (os ++ [(⟨n, a, [], [], H.length, 0⟩ : OE)])[i]? = some p → (os[i]? = some p) ∨ (i = os.length ∧ p = ⟨n, a, [], [], H.length, 0⟩) := fun i p hi => getElem?_snoc hi |>.imp id fun ⟨h1, h2⟩ => ⟨h1, h2⟩
  refine ⟨?_, ?_, gold g.d g.od, fun i p hi => ?_, g.od, fun i p hi => ?_, fun i j p p' hi hj hij => ?_, g.n⟩
  ·rw [gold g.b hpo.symm]; simp
  ·rw [gs_old _ (by simpa using hlo), gs_eq _ _ _ _ _ hlo]; simp
  ·rcases at_ i p hi with h1 | ⟨_, rfl⟩
   ·exact gold (g.k i p h1) (g.ko i p h1).1.symm
   ·show getRow _ H.length 0 = _
    rw [gs_new0 _ (by simp)]; rfl
  ·rcases at_ i p hi with h1 | ⟨_, rfl⟩
   ·exact g.ko i p h1
   ·have := g.n; exact ⟨by show H.length ≠ _; omega, by show H.length ≠ _; omega, by show _ ≤ H.length; omega⟩
  ·rcases at_ i p hi with h1 | ⟨h1, rfl⟩ <;> rcases at_ j p' hj with h2 | ⟨h2, rfl⟩
   ·exact g.kk i j p p' h1 h2 hij
   ·have := gr_lt (g.k i p h1); show p.q ≠ H.length; omega
   ·have := gr_lt (g.k j p' h2); show H.length ≠ p'.q; omega
   ·omega
theorem add1_sat (nm : Bs) (at_ : List At) (tx : Bs) (hat : at_.length ≤ 1048576) (g : BH H n0 pb po vo room os pd vd ds) (hos : os.length ≤ 1000) (hds : ds.length ≤ 1048576) :
  Sat (CT G) 80 [.hp pb 0 0 0, Tok.av (1, nm, at_, tx)] H (fun r H' => (FrN n0 H H' ∧ H.length ≤ H'.length) ∧ r = .bool (decide (os.length ≤ 31) && decide (ds.length = 0)) ∧ ∃ po' vo', BR H' n0 pb po' vo' os nm at_ pd vd ds) := by
 have hb := g.b
 have ho := g.o
 have hd := g.d
 have hlo := gr_lt ho
 have hlb := gr_lt hb
 have hld := gr_lt hd
 have hbo := g.bo
 have hbd := g.bd
 have hod := g.od
 have hn := g.n
 have F := F4 hb ho hd @heapF
 refine sb [.tmp 4] (fn := Tryz.f80) Tryz.func80 ?_
 intro Q hQ
 (repeat (first | refine w1 (fun K hK => ?_) | refine w2 ?_ | refine w3 ?_ | ((first | refine w4 ?_ | refine wD ?_ | refine w5 ?_ | refine w6 ?_ | refine w7 ?_); try refine sq F ?_) | (refine w8 ?_; refine sq F ?_; refine w9 ?_) | (refine rq F ?_; try refine sq F ?_) | (refine vq F ?_; try refine sq F ?_) | ((first | refine hK _ _ (w0 ?_) | (clear hK K; refine hK _ _ (w0 ?_)) | (clear hK K; clear hK K; refine hK _ _ (w0 ?_))); clear hK K)))
 have tail : ∀ (t' : Env) (h' : Heap) (po' vo' : Nat), t' 0 = .hp pb 0 0 0 → FrN n0 H h' → H.length ≤ h'.length →
   getRow h' pb 0 = some (106, 2, [.agg [.hs po' vo' 0 (os.length + 1) true, .hs pd vd 0 ds.length true]]) →
   getRow h' po' vo' = some (26, 4, os.map OE.av ++ [.agg [.str nm, .sl 2 (at_.map At.av), .str [], .nil (.slice none 0 0)]]) → (po' = po ∨ H.length ≤ po') →
   (∀ q v x, getRow H q v = some x → q ≠ pb → q ≠ po → getRow h' q v = some x) → K t' h' := by
  intro t' h' po' vo' e0 hfr hlen hb' ho' hpo' hrest
  have hlt := gr_lt ho'
  have hbr : BR h' n0 pb po' vo' os nm at_ pd vd ds := by
   have hne : ∀ q, q < H.length → q ≠ po → q ≠ po' := fun q h1 h2 => by omega
   exact ⟨hb', ho', hrest _ _ _ hd hbd.symm hod.symm, fun i o hi => hrest _ _ _ (g.k i o hi) (g.bk i o hi).symm (g.ko i o hi).1, fun e => by omega,
    fun i o hi => ⟨hne _ (gr_lt (g.k i o hi)) (g.ko i o hi).1, (g.ko i o hi).2.1, (g.ko i o hi).2.2⟩, g.kk, ⟨hn.1, by omega, hn.2.2⟩⟩
  refine hK _ _ (Wkn.refl ?_)
  clear hK K
  have hd' := hbr.d
  have F := F5 F e0 hb' ho' hd'
  (repeat (first | refine w1 (fun K hK => ?_) | refine w2 ?_ | refine w3 ?_ | ((first | refine w4 ?_ | refine wD ?_ | refine w5 ?_ | refine w6 ?_ | refine w7 ?_); try refine sq F ?_) | (refine w8 ?_; refine sq F ?_; refine w9 ?_) | (refine rq F ?_; try refine sq F ?_) | (refine vq F ?_; try refine sq F ?_) | ((first | refine hK _ _ (w0 ?_) | (clear hK K; refine hK _ _ (w0 ?_)) | (clear hK K; clear hK K; refine hK _ _ (w0 ?_))); clear hK K)))
  have fin : ∀ b : Bool, b = (decide (os.length ≤ 31) && decide (ds.length = 0)) → Fin H h' (fun r H' => (FrN n0 H H' ∧ H.length ≤ H'.length) ∧ r = .bool (decide (os.length ≤ 31) && decide (ds.length = 0)) ∧ ∃ po' vo', BR H' n0 pb po' vo' os nm at_ pd vd ds) (.bool b) := fun b hb => by
   exact Fin.whole hlen (.bool _) ⟨⟨hfr, hlen⟩, by rw [hb], po', vo', hbr⟩
  (first | refine gq F (fun hg => ?_) (fun hg => ?_) | refine pq F (fun hg => ?_) (fun hg => ?_)) <;> (try exact hg.elim) <;> (try refine sq F ?_) <;> ((repeat (first | refine w1 (fun K hK => ?_) | refine w2 ?_ | refine w3 ?_ | ((first | refine w4 ?_ | refine wD ?_ | refine w5 ?_ | refine w6 ?_ | refine w7 ?_); try refine sq F ?_) | (refine w8 ?_; refine sq F ?_; refine w9 ?_) | (refine rq F ?_; try refine sq F ?_) | (refine vq F ?_; try refine sq F ?_) | ((first | refine hK _ _ (w0 ?_) | (clear hK K; refine hK _ _ (w0 ?_)) | (clear hK K; clear hK K; refine hK _ _ (w0 ?_))); clear hK K))))
  ·refine ee hQ F ?_
   refine fin _ ?_
   have e : decide (os.length ≤ 31) = true := by rw [decide_eq_true_iff]; omega
   rw [e, Bool.true_and, Bool.eq_iff_iff]; simp
  ·refine ee hQ F ?_
   refine fin _ ?_
   have e : decide (os.length ≤ 31) = false := by rw [decide_eq_false_iff_not]; omega
   rw [e, Bool.false_and]
 have hlt1 : os.length < os.length + 1 := by omega
 have hg1 : ∀ x : AVal, (os.map OE.av ++ [x])[os.length]? = some x := fun x => by simp
 have hs1 : ∀ x y : AVal, (os.map OE.av ++ [x]).set os.length y = os.map OE.av ++ [y] := fun x y => by simp
 cases room with
 | true =>
  have F := F4 F hlt1 hg1 hs1
  refine WP_draw6 12 (.one 12 (.two 13 (.two 14 (.one 15 (.one 16 (.one 17 .nil))) 15 (.two 14 (.one 16 (.one 17 .nil)) 16 (.two 14 (.one 17 .nil) 17 (.one 14 .nil)))) 15 (.two 13 (.two 14 (.one 16 (.one 17 .nil)) 16 (.two 14 (.one 17 .nil) 17 (.one 14 .nil))) 16 (.two 13 (.two 14 (.one 17 .nil) 17 (.one 14 .nil)) 17 (.one 13 (.one 14 .nil)))))) (by decide +kernel) (by kernel_rfl) (by decide +kernel) ?_
  simp only [List.take_succ_cons, List.take_zero]
  try refine sq F ?_
  repeat' (first | refine WPt_nil ?_ | (refine WPt_one rfl ?_; refine sq F ?_) | (refine WPt_two rfl rfl ?_ ?_ <;> refine sq F ?_))
  refine ⟨_, CloneA_sat G at_ hat _, ?_⟩
  try refine sq F ?_
  refine vq F ?_; try refine sq F ?_
  repeat' (first | refine WPt_nil ?_ | (refine WPt_one rfl ?_; refine sq F ?_) | (refine WPt_two rfl rfl ?_ ?_ <;> refine sq F ?_))
  refine aq F ?_
  try refine sq F ?_
  (repeat (first | refine w1 (fun K hK => ?_) | refine w2 ?_ | refine w3 ?_ | ((first | refine w4 ?_ | refine wD ?_ | refine w5 ?_ | refine w6 ?_ | refine w7 ?_); try refine sq F ?_) | (refine w8 ?_; refine sq F ?_; refine w9 ?_) | (refine rq F ?_; try refine sq F ?_) | (refine vq F ?_; try refine sq F ?_)))
  repeat' (first | refine WPt_nil ?_ | (refine WPt_one rfl ?_; refine sq F ?_) | (refine WPt_two rfl rfl ?_ ?_ <;> refine sq F ?_))
  all_goals (
   show K _ _
   refine tail _ _ po (vo + 1) ?_ ?_ ?_ ?_ ?_ (.inl rfl) ?_
   ·exact zq F
   ·repeat (first | exact FrN.refl _ _ | refine FrN.set _ (by omega) ?_ | refine FrN.app _ (by simp; omega) ?_)
   ·simp
   ·exact zq F
   ·exact zq F
   ·intro q v x h1 h2 h3
    have h4 := gr_lt h1
    have h2' := h2.symm
    have h3' := h3.symm
    simp (disch := first | omega | (simp only [go_sem, ↓reduceIte, seval]; first | done | omega) | fail) only [go_sem, ↓reduceIte, seval, F, h1])
 | false =>
  have F := F4 F hlt1 hg1 hs1
  refine WP_draw6 12 (.one 12 (.two 13 (.two 14 (.one 15 (.one 16 (.one 17 .nil))) 15 (.two 14 (.one 16 (.one 17 .nil)) 16 (.two 14 (.one 17 .nil) 17 (.one 14 .nil)))) 15 (.two 13 (.two 14 (.one 16 (.one 17 .nil)) 16 (.two 14 (.one 17 .nil) 17 (.one 14 .nil))) 16 (.two 13 (.two 14 (.one 17 .nil) 17 (.one 14 .nil)) 17 (.one 13 (.one 14 .nil)))))) (by decide +kernel) (by kernel_rfl) (by decide +kernel) ?_
  simp only [List.take_succ_cons, List.take_zero]
  try refine sq F ?_
  repeat' (first | refine WPt_nil ?_ | (refine WPt_one rfl ?_; refine sq F ?_) | (refine WPt_two rfl rfl ?_ ?_ <;> refine sq F ?_))
  refine ⟨_, CloneA_sat G at_ hat _, ?_⟩
  try refine sq F ?_
  refine vq F ?_; try refine sq F ?_
  repeat' (first | refine WPt_nil ?_ | (refine WPt_one rfl ?_; refine sq F ?_) | (refine WPt_two rfl rfl ?_ ?_ <;> refine sq F ?_))
  refine appK_cut (.inl rfl) (by simp only [go_sem]; rfl) (by simp only [go_sem]; rfl) (by simp only [go_sem]; rfl) (by simp only [go_sem]; try rfl) (by omega) (by simp only [elemsOf, ↓reduceIte]; rfl) (by simp (disch := first | omega | (simp only [go_sem, ↓reduceIte, seval]; first | done | omega) | fail) only [go_sem, ↓reduceIte, seval, F]; rfl) (by simp) (by simp) ?_ ?_
  ·refine ⟨?_, ?_⟩ <;> simp only [maxLen, List.length_map, List.length_cons, List.length_nil] <;> omega
  rw [List.take_of_length_le (by simp)]
  try refine sq F ?_
  repeat' (first | refine WPt_nil ?_ | (refine WPt_one rfl ?_; refine sq F ?_) | (refine WPt_two rfl rfl ?_ ?_ <;> refine sq F ?_))
  all_goals (
   show K _ _
   refine tail _ _ (H.length + 1) 0 ?_ ?_ ?_ ?_ ?_ (.inr (by omega)) ?_
   ·exact zq F
   ·repeat (first | exact FrN.refl _ _ | refine FrN.set _ (by omega) ?_ | refine FrN.app _ (by simp; omega) ?_)
   ·simp
   ·exact zq F
   ·exact zq F
   ·intro q v x h1 h2 h3
    have h4 := gr_lt h1
    have h2' := h2.symm
    have h3' := h3.symm
    simp (disch := first | omega | (simp only [go_sem, ↓reduceIte, seval]; first | done | omega) | fail) only [go_sem, ↓reduceIte, seval, F, h1])
end Go.Av
namespace Go.Av
open Go Go.Proofs Go.RowKit
attribute [local irreducible] WP WPl WPix Sat
set_option maxRecDepth 100000
set_option maxHeartbeats 1000000
variable {H : Heap} {n0 pb po vo pd vd : Nat} {ds : List Elem}
theorem OE.fz {K : Heap} {e : TypeId} (o : OE) (hk : getRow K o.q o.v = some (e, 4, o.k.map Elem.av)) : o.av.cells.length = o.el.av.cells.length ∧ ∀ (j : Nat) (c d : AVal), o.av.cells[j]? = some c → o.el.av.cells[j]? = some d → Fz K o.q o.v c d ∧ d.sto = true := by
 rw [Elem.av_cells]
 refine ⟨rfl, fun j c d hc hd => ?_⟩
 match j with
 | 0 => simp [OE.av, AVal.cells, OE.el, Elem.name] at hc hd; subst hc; subst hd; exact ⟨.same _, rfl⟩
 | 1 => simp [OE.av, AVal.cells, OE.el, Elem.attrs] at hc hd; subst hc; subst hd; exact ⟨.same _, rfl⟩
 | 2 => simp [OE.av, AVal.cells, OE.el, Elem.text] at hc hd; subst hc; subst hd; exact ⟨.same _, rfl⟩
 | 3 => simp [OE.av, AVal.cells, OE.el, Elem.kids] at hc hd; subst hc; subst hd; exact ⟨Fz.all _ _ _ hk rfl (by simp), rfl⟩
 | j + 4 => simp [OE.av, AVal.cells] at hc
theorem rows_fz {K : Heap} {e : TypeId} (o : OE) (hk : getRow K o.q o.v = some (e, 4, o.k.map Elem.av)) (ks : List Elem) : ∀ (i : Nat) (x y : AVal), (ks.map Elem.av ++ [o.av])[i]? = some x → ((ks ++ [o.el]).map Elem.av)[i]? = some y →
  x.cells.length = y.cells.length ∧ ∀ (j : Nat) (c d : AVal), x.cells[j]? = some c → y.cells[j]? = some d → Fz K o.q o.v c d ∧ d.sto = true := by
 intro i x y hx hy
 rw [List.map_append] at hy
 rcases getElem?_snoc hx with h1 | ⟨h1, rfl⟩
 ·rw [List.getElem?_append_left (List.getElem?_eq_some_iff.1 h1).1, h1] at hy
  cases hy
  obtain ⟨a, _, rfl⟩ := List.mem_map.1 (List.mem_of_getElem? h1)
  exact ⟨rfl, fun j c d hc hd => by rw [hc] at hd; cases hd; exact ⟨.same _, a.av_sto _ (List.mem_of_getElem? hc)⟩⟩
 ·subst h1
  simp at hy; subst hy
  exact o.fz hk
theorem close_weak0 {C : Ctx} {K : Heap} {o : OE} (hb : getRow K pb 0 = some (106, 2, [.agg [.hs po vo 0 0 false, .hs pd vd 0 (ds.length + 1) true]]))
  (ho : getRow K po vo = some (26, 4, [o.av])) (hd : getRow K pd vd = some (26, 4, ds.map Elem.av ++ [o.av]))
  (hk : getRow K o.q o.v = some (26, 4, o.k.map Elem.av)) (od : po ≠ pd) (ko : o.q ≠ po ∧ o.q ≠ pd ∧ n0 ≤ o.q) (hn : n0 ≤ pb ∧ n0 ≤ po ∧ n0 ≤ pd) :
  ∃ K', (∀ (ms : List Nat) (t : Env), Weak C ms t K t K') ∧ (FrN n0 K K' ∧ K.length ≤ K'.length) ∧ BH K' n0 pb po vo false [] pd vd (ds ++ [o.el]) := by
 have hlo := gr_lt ho; have hlb := gr_lt hb; have hld := gr_lt hd; have hlk := gr_lt hk
 have hbo : pb ≠ po := row_ne hb ho (by decide)
 have hbd : pb ≠ pd := row_ne hb hd (by decide)
 have hbk : pb ≠ o.q := row_ne hb hk (by decide)
 have w1 := fun (ms : List Nat) (t : Env) => Weak.fzIn (C := C) (ms := ms) (t := t) (t1 := t) o.q o.v pd vd ((ds ++ [o.el]).map Elem.av) hk ko.2.1 hd (by simp) (rows_fz o hk ds) (fun _ => .inl rfl)
 have g2 : getRow ((K.set o.q .dead).set pd (.row 26 4 vd ((ds ++ [o.el]).map Elem.av))) po vo = some (26, 4, [o.av]) := by
  rw [gs_ne _ _ od.symm, gs_ne _ _ ko.1]; exact ho
 have w2 := fun (ms : List Nat) (t : Env) => Weak.rowTake (C := C) (ms := ms) (t := t) po vo 0 g2
 refine ⟨_, fun ms t => (w1 ms t).trans (w2 ms t), ⟨FrN.set _ hn.2.1 (FrN.set _ hn.2.2 (FrN.set _ ko.2.2 (FrN.refl _ _))), by simp⟩, ⟨?_, ?_, ?_, fun i p hi => by simp at hi, od, fun i p hi => by simp at hi, fun i j p p' hi => by simp at hi, hn⟩⟩
 ·rw [gs_ne _ _ hbo.symm, gs_ne _ _ hbd.symm, gs_ne _ _ hbk.symm, hb]; simp
 ·rw [gs_eq _ _ _ _ _ (by simpa using hlo)]; simp
 ·rw [gs_ne _ _ od, gs_eq _ _ _ _ _ (by simpa using hld)]; simp
theorem close_weak1 {C : Ctx} {K : Heap} {l : List OE} {p o : OE} (hb : getRow K pb 0 = some (106, 2, [.agg [.hs po vo 0 (l.length + 1) false, .hs pd vd 0 ds.length true]]))
  (ho : getRow K po vo = some (26, 4, l.map OE.av ++ [.agg [.str p.n, .sl 2 (p.a.map At.av), .str p.t, .hs p.q (p.v + 1) 0 (p.k.length + 1) true], o.av]))
  (hd : getRow K pd vd = some (26, 4, ds.map Elem.av))
  (hk : getRow K o.q o.v = some (26, 4, o.k.map Elem.av)) (hp : getRow K p.q (p.v + 1) = some (26, 4, p.k.map Elem.av ++ [o.av]))
  (hl : ∀ (i : Nat) (x : OE), l[i]? = some x → getRow K x.q x.v = some (26, 4, x.k.map Elem.av) ∧ x.q ≠ po ∧ x.q ≠ pd ∧ n0 ≤ x.q ∧ x.q ≠ p.q ∧ x.q ≠ o.q)
  (kk : ∀ (i j : Nat) (x x' : OE), l[i]? = some x → l[j]? = some x' → i ≠ j → x.q ≠ x'.q)
  (od : po ≠ pd) (ko : o.q ≠ po ∧ o.q ≠ pd ∧ n0 ≤ o.q) (kp : p.q ≠ po ∧ p.q ≠ pd ∧ n0 ≤ p.q) (kop : o.q ≠ p.q) (hn : n0 ≤ pb ∧ n0 ≤ po ∧ n0 ≤ pd) :
  ∃ K', (∀ (ms : List Nat) (t : Env), Weak C ms t K t K') ∧ (FrN n0 K K' ∧ K.length ≤ K'.length) ∧ BH K' n0 pb po vo false (l ++ [⟨p.n, p.a, p.t, p.k ++ [o.el], p.q, p.v + 1⟩]) pd vd ds := by
 have hlo := gr_lt ho; have hlb := gr_lt hb; have hld := gr_lt hd; have hlk := gr_lt hk; have hlp := gr_lt hp
 have hbo : pb ≠ po := row_ne hb ho (by decide)
 have hbd : pb ≠ pd := row_ne hb hd (by decide)
 have hbk : pb ≠ o.q := row_ne hb hk (by decide)
 have hbp : pb ≠ p.q := row_ne hb hp (by decide)
 have w1 := fun (ms : List Nat) (t : Env) => Weak.fzIn (C := C) (ms := ms) (t := t) (t1 := t) o.q o.v p.q (p.v + 1) ((p.k ++ [o.el]).map Elem.av) hk kop hp (by simp) (rows_fz o hk p.k) (fun _ => .inl rfl)
 have g2 := (show getRow ((K.set o.q .dead).set p.q (.row 26 4 (p.v + 1) ((p.k ++ [o.el]).map Elem.av))) po vo = getRow K po vo by
  rw [gs_ne _ _ kp.1, gs_ne _ _ ko.1]).trans ho
 have w2 := fun (ms : List Nat) (t : Env) => Weak.rowTake (C := C) (ms := ms) (t := t) po vo (l.length + 1) g2
 have at_ : ∀ (i : Nat) (x : OE), (l ++ [(⟨p.n, p.a, p.t, p.k ++ [o.el], p.q, p.v + 1⟩ : OE)])[i]? = some x → (l[i]? = some x) ∨ (i = l.length ∧ x = ⟨p.n, p.a, p.t, p.k ++ [o.el], p.q, p.v + 1⟩) := fun i x hi => getElem?_snoc hi
 refine ⟨_, fun ms t => (w1 ms t).trans (w2 ms t), ⟨FrN.set _ hn.2.1 (FrN.set _ kp.2.2 (FrN.set _ ko.2.2 (FrN.refl _ _))), by simp⟩, ⟨?_, ?_, ?_, fun i x hi => ?_, od, fun i x hi => ?_, fun i j x x' hi hj hij => ?_, hn⟩⟩
 ·rw [gs_ne _ _ hbo.symm, gs_ne _ _ hbp.symm, gs_ne _ _ hbk.symm, hb]; simp
 ·rw [gs_eq _ _ _ _ _ (by simpa using hlo), if_pos rfl]
  have e : (l.map OE.av ++ [AVal.agg [.str p.n, .sl 2 (p.a.map At.av), .str p.t, .hs p.q (p.v + 1) 0 (p.k.length + 1) true], o.av]).take (l.length + 1) = (l ++ [(⟨p.n, p.a, p.t, p.k ++ [o.el], p.q, p.v + 1⟩ : OE)]).map OE.av := by
   rw [List.take_append, List.take_of_length_le (by simp)]
   simp [OE.av]
  rw [e]
 ·rw [gs_ne _ _ od, gs_ne _ _ kp.2.1, gs_ne _ _ ko.2.1]; exact hd
 ·rcases at_ i x hi with h1 | ⟨_, rfl⟩
  ·obtain ⟨k1, k2, k3, k4, k5, k6⟩ := hl i x h1
   rw [gs_ne _ _ k2.symm, gs_ne _ _ k5.symm, gs_ne _ _ k6.symm]; exact k1
  ·show getRow _ p.q (p.v + 1) = _
   rw [gs_ne _ _ kp.1.symm, gs_eq _ _ _ _ _ (by simpa using hlp)]; simp
 ·rcases at_ i x hi with h1 | ⟨_, rfl⟩
  ·obtain ⟨k1, k2, k3, k4, k5, k6⟩ := hl i x h1; exact ⟨k2, k3, k4⟩
  ·exact kp
 ·rcases at_ i x hi with h1 | ⟨h1, rfl⟩ <;> rcases at_ j x' hj with h2 | ⟨h2, rfl⟩
  ·exact kk i j x x' h1 h2 hij
  ·exact (hl i x h1).2.2.2.2.1
  ·exact (hl j x' h2).2.2.2.2.1.symm
  ·omega
end Go.Av
namespace Go.Av
open Go Go.Proofs Go.RowKit
attribute [local irreducible] WP WPl WPix Sat
set_option maxRecDepth 100000
set_option maxHeartbeats 1000000
variable (G : Nat → Option (List AVal))
variable {H : Heap} {n0 pb po vo pd vd : Nat} {room : Bool} {os : List OE} {ds : List Elem}
theorem stepB_cls0 (os ds : List Elem) (n : Bs) (h : os = [] ∨ ∃ l e, os = l ++ [e] ∧ e.name ≠ n) (a : List At) (x : Bs) : stepB os ds (2, n, a, x) = none := by
 rcases h with rfl | ⟨l, e, rfl, he⟩
 ·rfl
 ·simp [stepB, he]
theorem stepB_cls1 (ds : List Elem) (e : Elem) (a : List At) (x : Bs) : stepB [e] ds (2, e.name, a, x) = some ([], ds ++ [e]) := by simp [stepB]
theorem stepB_cls2 (l ds : List Elem) (p e : Elem) (a : List At) (x : Bs) : stepB (l ++ [p] ++ [e]) ds (2, e.name, a, x) = some (l ++ [⟨p.name, p.attrs, p.text, p.kids ++ [e]⟩], ds) := by
 simp [stepB]
theorem close0_sat (nm : Bs) (g : BH H n0 pb po vo room os pd vd ds) (hos : os.length ≤ 1000) (h : os = [] ∨ ∃ l o, os = l ++ [o] ∧ o.n ≠ nm) :
  Sat (CT G) 107 [.hp pb 0 0 0, .str nm] H (fun r H' => r = .bool false ∧ H' = H) := by
 have hb := g.b
 have ho := g.o
 have F := F2 hb ho
 refine sb [.tmp 4] (fn := Tryz.f107) Tryz.func107 ?_
 intro Q hQ
 refine wk F ?_
 rcases h with rfl | ⟨l, o, rfl, hne⟩
 ·(first | refine gq F (fun g1 => ?_) (fun g1 => ?_) | refine pq F (fun g1 => ?_) (fun g1 => ?_)) <;> (try exact g1.elim) <;> (try refine sq F ?_) <;> (refine wk F ?_)
  ·refine ee hQ F ?_
   exact Fin.same (.bool _) ⟨rfl, rfl⟩
  ·exact absurd trivial g1
 ·have e1 : ((l.length + 1 : Nat) : Int) - 1 = l.length := by omega
  have e2 : (l ++ [o])[l.length]? = some o := by simp
  have e3 : l.length < l.length + 1 := by omega
  have e4 : (o.n == nm) = false := by simpa using hne
  have F := F5 F e1 e2 e3 e4
  (first | refine gq F (fun g1 => ?_) (fun g1 => ?_) | refine pq F (fun g1 => ?_) (fun g1 => ?_)) <;> (try exact g1.elim) <;> (try refine sq F ?_) <;> (refine wk F ?_)
  ·exfalso; omega
  ·try refine sq F ?_
   refine wk F ?_
   refine ee hQ F ?_
   exact Fin.same (.bool _) ⟨rfl, rfl⟩
theorem close1_sat (o : OE) (g : BH H n0 pb po vo room [o] pd vd ds) (hds : ds.length ≤ 1048576) :
  Sat (CT G) 107 [.hp pb 0 0 0, .str o.n] H (BPost n0 pb H [o.el] ds (some ([], ds ++ [o.el]))) := by
 have hb := g.b
 have ho := g.o
 have hd := g.d
 have hk := g.k 0 o rfl
 have ko := g.ko 0 o rfl
 have hlo := gr_lt ho
 have hlb := gr_lt hb
 have hld := gr_lt hd
 have hlk := gr_lt hk
 have hbo := g.bo
 have hbd := g.bd
 have hbk := g.bk 0 o rfl
 have hod := g.od
 have hn := g.n
 refine Sat.postw (R := fun r H' => (FrN n0 H H' ∧ H.length ≤ H'.length) ∧ r = .bool true ∧ getRow H' pb 0 = some (106, 2, [.agg [.hs po vo 0 0 false, .hs pd (vd + 1) 0 (ds.length + 1) true]]) ∧
   getRow H' po vo = some (26, 4, [o.av]) ∧ getRow H' pd (vd + 1) = some (26, 4, ds.map Elem.av ++ [o.av]) ∧
   getRow H' o.q o.v = some (26, 4, o.k.map Elem.av)) ?_ (fun r h' ⟨a1, a2, a3, a4, a5, a6⟩ => by
    obtain ⟨K', w, f1, f2⟩ := close_weak0 (C := CT G) a3 a4 a5 a6 hod ko hn
    exact ⟨K', w [], ⟨a1.1.trans f1.1, Nat.le_trans a1.2 f1.2⟩, a2, po, vo, false, [], pd, vd + 1, f2, rfl⟩)
 have e1 : ((0 + 1 : Nat) : Int) - 1 = 0 := by omega
 have hbt : (o.n == o.n) = true := by simp
 have hsl : ∀ l, aslice Tryz.prog (H ++ l) 24 (.hs po vo 0 1 room) none (some (.int .i64 0)) (some (.int .i64 0)) = some (.hs po vo 0 0 false) := fun l =>
  aslice_hs3 (r := 0) (by simp only [go_sem]; rfl) (getRow_old ho) (by simp only [go_sem]) (by omega)
 have F := F8 hb ho hd (F3 (@bne_self_eq_false Int _ _) (@bne_self_eq_false Bool _ _) (@bne_self_eq_false Bs _ _)) hbt e1 hsl @heapF
 refine sb [.tmp 4] (fn := Tryz.f107) Tryz.func107 ?_
 intro Q hQ
 (repeat (first | refine w1 (fun K hK => ?_) | refine w2 ?_ | refine w3 ?_ | ((first | refine w4 ?_ | refine wD ?_ | refine w5 ?_ | refine w6 ?_ | refine w7 ?_); try refine sq F ?_) | (refine w8 ?_; refine sq F ?_; refine w9 ?_) | (refine rq F ?_; try refine sq F ?_) | (refine vq F ?_; try refine sq F ?_) | ((first | refine hK _ _ (w0 ?_) | (clear hK K; refine hK _ _ (w0 ?_)) | (clear hK K; clear hK K; refine hK _ _ (w0 ?_))); clear hK K)))
 (first | refine gq F (fun g1 => ?_) (fun g1 => ?_) | refine pq F (fun g1 => ?_) (fun g1 => ?_)) <;> (try exact g1.elim) <;> (try refine sq F ?_) <;> ((repeat (first | refine w1 (fun K hK => ?_) | refine w2 ?_ | refine w3 ?_ | ((first | refine w4 ?_ | refine wD ?_ | refine w5 ?_ | refine w6 ?_ | refine w7 ?_); try refine sq F ?_) | (refine w8 ?_; refine sq F ?_; refine w9 ?_) | (refine rq F ?_; try refine sq F ?_) | (refine vq F ?_; try refine sq F ?_) | ((first | refine hK _ _ (w0 ?_) | (clear hK K; refine hK _ _ (w0 ?_)) | (clear hK K; clear hK K; refine hK _ _ (w0 ?_))); clear hK K))))
 have tail : ∀ (t' : Env) (h' : Heap), FrN n0 H h' → H.length ≤ h'.length → getRow h' pb 0 = some (106, 2, [.agg [.hs po vo 0 0 false, .hs pd (vd + 1) 0 (ds.length + 1) true]]) →
   getRow h' po vo = some (26, 4, [o.av]) → getRow h' pd (vd + 1) = some (26, 4, ds.map Elem.av ++ [o.av]) →
   getRow h' o.q o.v = some (26, 4, o.k.map Elem.av) → K t' h' := by
  intro t' h' a1 a2 a4 a5 a6 a7
  refine hK _ _ (Wkn.refl ?_)
  clear hK K
  (repeat (first | refine w1 (fun K hK => ?_) | refine w2 ?_ | refine w3 ?_ | ((first | refine w4 ?_ | refine wD ?_ | refine w5 ?_ | refine w6 ?_ | refine w7 ?_); try refine sq F ?_) | (refine w8 ?_; refine sq F ?_; refine w9 ?_) | (refine rq F ?_; try refine sq F ?_) | (refine vq F ?_; try refine sq F ?_) | ((first | refine hK _ _ (w0 ?_) | (clear hK K; refine hK _ _ (w0 ?_)) | (clear hK K; clear hK K; refine hK _ _ (w0 ?_))); clear hK K)))
  refine ee hQ F ?_
  exact Fin.whole a2 (.bool _) ⟨⟨a1, a2⟩, rfl, a4, a5, a6, a7⟩
 have hlt1 : ds.length < ds.length + 1 := by omega
 have hg1 : ∀ x : AVal, (ds.map Elem.av ++ [x])[ds.length]? = some x := fun x => by simp
 have hs1 : ∀ x y : AVal, (ds.map Elem.av ++ [x]).set ds.length y = ds.map Elem.av ++ [y] := fun x y => by simp
 have F := F4 F hlt1 hg1 hs1
 refine WP_draw6 7 (.one 7 (.two 8 (.two 9 (.one 10 (.one 11 (.one 12 .nil))) 10 (.two 9 (.one 11 (.one 12 .nil)) 11 (.two 9 (.one 12 .nil) 12 (.one 9 .nil)))) 10 (.two 8 (.two 9 (.one 11 (.one 12 .nil)) 11 (.two 9 (.one 12 .nil) 12 (.one 9 .nil))) 11 (.two 8 (.two 9 (.one 12 .nil) 12 (.one 9 .nil)) 12 (.one 8 (.one 9 .nil)))))) (by decide +kernel) (by kernel_rfl) (by decide +kernel) ?_
 simp only [List.take_succ_cons, List.take_zero]
 try refine sq F ?_
 repeat' (first | refine WPt_nil ?_ | (refine WPt_one rfl ?_; refine sq F ?_) | (refine WPt_two rfl rfl ?_ ?_ <;> refine sq F ?_))
 refine vq F ?_; try refine sq F ?_
 repeat' (first | refine WPt_nil ?_ | (refine WPt_one rfl ?_; refine sq F ?_) | (refine WPt_two rfl rfl ?_ ?_ <;> refine sq F ?_))
 refine aq F ?_
 try refine sq F ?_
 (repeat (first | refine w1 (fun K hK => ?_) | refine w2 ?_ | refine w3 ?_ | ((first | refine w4 ?_ | refine wD ?_ | refine w5 ?_ | refine w6 ?_ | refine w7 ?_); try refine sq F ?_) | (refine w8 ?_; refine sq F ?_; refine w9 ?_) | (refine rq F ?_; try refine sq F ?_) | (refine vq F ?_; try refine sq F ?_)))
 repeat' (first | refine WPt_nil ?_ | (refine WPt_one rfl ?_; refine sq F ?_) | (refine WPt_two rfl rfl ?_ ?_ <;> refine sq F ?_))
 all_goals (
  show K _ _
  refine tail _ _ ?_ ?_ ?_ ?_ ?_ ?_
  ·repeat (first | exact FrN.refl _ _ | refine FrN.set _ (by omega) ?_ | refine FrN.app _ (by simp; omega) ?_)
  ·simp
  ·exact zq F
  ·exact zq F
  ·exact zq F
  ·simp (disch := first | omega | (simp only [go_sem, ↓reduceIte, seval]; first | done | omega) | fail) only [go_sem, ↓reduceIte, seval, F]
   exact hk)
end Go.Av
