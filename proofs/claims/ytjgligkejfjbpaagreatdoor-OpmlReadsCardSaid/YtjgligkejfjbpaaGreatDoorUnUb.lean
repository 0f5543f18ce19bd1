/- The program's package utf. -/
import Derived.Test.YtjgligkejfjbpaaGreatDoorUnIb
import Derived.Test.YtjgligkejfjbpaaGreatDoorUnEx2b
set_option linter.unusedSimpArgs false
set_option linter.unusedVariables false
namespace Go.Av
open Go Go.Proofs Go.RowKit
attribute [local irreducible] WP WPl WPix Sat
set_option maxRecDepth 100000
set_option maxHeartbeats 1000000
variable (G : Nat → Option (List AVal))
theorem ValidRune_sat (r : Int) (hr : Rune r) (h : Heap) : Sat (CT G) 186 [.int .i32 r] h (fun x h' => x = .bool true ∧ h' = h) := by
 obtain ⟨h0, h1⟩ := hr
 refine sb [.tmp 2] (fn := Tryz.f186) Tryz.func186 ?_
 intro Q hQ
 refine wko trivial ?_
 (first | refine gqo trivial (fun g1 => ?_) (fun g1 => ?_) | refine pqo trivial (fun g1 => ?_) (fun g1 => ?_)) <;> (try exact g1.elim) <;> (try refine sqo trivial ?_) <;> (refine wko trivial ?_)
 ·refine cqo trivial (fun c1 => ?_) (fun c1 => ?_) <;> (try exact c1.elim) <;> (refine wko trivial ?_)
  ·refine eeo hQ trivial ?_
   refine fR (.bool _) ?_
   rfl
  ·(first | refine gqo trivial (fun g2 => ?_) (fun g2 => ?_) | refine pqo trivial (fun g2 => ?_) (fun g2 => ?_)) <;> (try exact g2.elim) <;> (try refine sqo trivial ?_) <;> (refine wko trivial ?_)
   ·refine cqo trivial (fun c2 => ?_) (fun c2 => ?_) <;> (try exact c2.elim) <;> (refine wko trivial ?_)
    ·refine eeo hQ trivial ?_
     refine fR (.bool _) ?_
     rfl
    ·exfalso; omega
   ·exfalso; omega
 ·exfalso; omega
theorem enc_cases (r : Int) (hr : Rune r) (h1 : 128 ≤ r) : ∃ b : UInt8, 128 ≤ b.toNat ∧ ((∃ a, enc r = [a, b]) ∨ (∃ a c, enc r = [a, c, b]) ∨ (∃ a c d, enc r = [a, c, d, b])) := by
 have hf : fix r = r.toNat := by unfold fix; rw [if_pos hr.valid]
 rw [enc_fix, hf]
 simp only []
 have hlt : ∀ n, (128 ≤ n ∧ n < 256) → 128 ≤ (UInt8.ofNat n).toNat := fun n h => by rw [toNat_ofNat n h.2]; exact h.1
 rw [if_neg (by omega)]
 by_cases h2 : r.toNat < 2048
 ·rw [if_pos h2]; exact ⟨_, hlt (128 + r.toNat % 64) (by omega), .inl ⟨_, rfl⟩⟩
 ·rw [if_neg h2]
  by_cases h3 : r.toNat < 65536
  ·rw [if_pos h3]; exact ⟨_, hlt (128 + r.toNat % 64) (by omega), .inr (.inl ⟨_, _, rfl⟩)⟩
  ·rw [if_neg h3]; exact ⟨_, hlt (128 + r.toNat % 64) (by omega), .inr (.inr ⟨_, _, _, rfl⟩)⟩
theorem indexByte_none (b : UInt8) (hb : 128 ≤ b.toNat) : ∀ l : Bs, (∀ c ∈ l, c.toNat < 128) → Lib.indexByte l b = -1
 | [], _ => rfl
 | c :: l, h => by
  have h1 := h c (by simp)
  have hne : ¬ c = b := fun e => by subst e; omega
  have ih := indexByte_none b hb l fun x hx => h x (by simp [hx])
  rw [Lib.indexByte, if_neg (by simpa using hne), ih]
  rfl
def blk4 : Bs := [32, 9, 13, 10]
theorem IndexRune_high (r : Int) (hr : Rune r) (h1 : 128 ≤ r) (h : Heap) : Sat (CT G) 174 [.str blk4, .int .i32 r] h (fun x h' => x = .int .i64 (-1) ∧ h' = h) := by
 refine sb [.tmp 4] (fn := Tryz.f174) Tryz.func174 ?_
 intro Q hQ
 refine wko trivial ?_
 have hr' := hr
 obtain ⟨h2, h3⟩ := hr
 (first | refine gqo trivial (fun g1 => ?_) (fun g1 => ?_) | refine pqo trivial (fun g1 => ?_) (fun g1 => ?_)) <;> (try exact g1.elim) <;> (try refine sqo trivial ?_) <;> (refine wko trivial ?_)
 ·refine cqo trivial (fun c1 => ?_) (fun c1 => ?_) <;> (try exact c1.elim) <;> (refine wko trivial ?_)
  ·exfalso; omega
  ·refine cqo trivial (fun c2 => ?_) (fun c2 => ?_) <;> (try exact c2.elim) <;> (refine wko trivial ?_)
   ·refine lm (fun nL tL hL => ∃ (k : Nat), 4 - k = nL ∧ h ++ [.iter blk4 k] = hL ∧ k ≤ 4) ((fun (k : Nat) => (4 - k : Nat)) (0)) ?_ ?_
    ·refine Wkn.refl ⟨0, rfl, hpE, by omega⟩
     all_goals first | exact zqo trivial | rfl | omega | trivial | skip
    rintro _ s2 h' ⟨k, rfl, rfl, hk⟩ K2 hK2
    refine wko trivial ?_
    refine nextK_at (getIter _ _ _ _) (fun hlt => ?_) (fun hge => ?_)
    ·have hd : Utf8.decode ⟨blk4.toArray⟩ k = (blk4[k].toNat, 1) := dec_ascii blk4 k _ (List.getElem?_eq_getElem hlt) (by
      have : ∀ b ∈ blk4, b.toNat < 128 := by decide
      exact this _ (List.getElem_mem hlt))
     have hb : blk4[k].toNat < 128 := by
      have : ∀ b ∈ blk4, b.toNat < 128 := by decide
      exact this _ (List.getElem_mem hlt)
     have hl4 : blk4.length = 4 := rfl
     rw [hd]
     try refine sqo trivial ?_
     refine wko trivial ?_
     refine cqo trivial (fun c3 => ?_) (fun c3 => ?_) <;> (try exact c3.elim) <;> (refine wko trivial ?_)
     ·exfalso; omega
     ·refine hK2 _ _ _ (Wkn.refl ⟨k + 1, rfl, hpE, by omega⟩) (by omega)
      all_goals first | exact zqo trivial | rfl | omega | trivial | skip
    ·try refine sqo trivial ?_
     refine wko trivial ?_
     refine eeo hQ trivial ?_
     refine fR (.int _ _) ?_
     rfl
   ·obtain ⟨b, hb, he⟩ := enc_cases r hr' h1
    rcases he with ⟨a, he⟩ | ⟨a, c, he⟩ | ⟨a, c, d, he⟩
    ·have F := F5 @aconv_rstr he @Bool.not_true @Int.cast_ofNat_Int @Int.toNat_one
     refine kqo F (ValidRune_sat G r hr' _) ?_
     refine lm (fun nL tL hL => 0 = nL ∧ h = hL ∧ tL 9 = .int .i64 1) (0) ?_ ?_
     ·refine Wkn.refl ⟨rfl, hpE, ?_⟩
      all_goals first | exact zqo F | rfl | omega | trivial | skip
     rintro _ s3 h' ⟨rfl, rfl, e9⟩ K3 hK3
     simp only [mix_cons, mix_nil, Nat.reduceEqDiff, ↓reduceIte] at e9
     have F := F2 F e9
     have hl4 : blk4.length = 4 := rfl
     have hb1 : blk4[1]? = some 9 := rfl
     have hab : ([a, b] : Bs)[1]? = some b := rfl
     have hib : Lib.indexByte (blk4.drop 2) b = -1 := indexByte_none b hb _ (by decide)
     have h9 : (9 : UInt8).toNat = 9 := rfl
     have F := F4 F hb1 hab hib
     refine wko F ?_
     refine cqo F (fun c4 => ?_) (fun c4 => ?_) <;> (try exact c4.elim) <;> (refine wko F ?_)
     ·refine cqo F (fun c5 => ?_) (fun c5 => ?_) <;> (try exact c5.elim) <;> (refine wko F ?_)
      ·refine ⟨_, IndexByteString_sat G (blk4.drop 2) b _, ?_⟩
       try refine sqo F ?_
       refine wko F ?_
       refine cqo F (fun c6 => ?_) (fun c6 => ?_) <;> (try exact c6.elim) <;> (refine wko F ?_)
       ·refine eeo hQ F ?_
        refine fR (.int _ _) ?_
        rfl
       ·exact absurd c6 (by decide)
      ·exfalso; omega
     ·exfalso; omega
    ·have F := F5 @aconv_rstr he @Bool.not_true @Int.cast_ofNat_Int @Int.toNat_one
     refine kqo F (ValidRune_sat G r hr' _) ?_
     refine lm (fun nL tL hL => 0 = nL ∧ h = hL ∧ tL 9 = .int .i64 2) (0) ?_ ?_
     ·refine Wkn.refl ⟨rfl, hpE, ?_⟩
      all_goals first | exact zqo F | rfl | omega | trivial | skip
     rintro _ s3 h' ⟨rfl, rfl, e9⟩ K3 hK3
     simp only [mix_cons, mix_nil, Nat.reduceEqDiff, ↓reduceIte] at e9
     have F := F2 F e9
     have hl4 : blk4.length = 4 := rfl
     have hb1 : blk4[2]? = some 13 := rfl
     have hab : ([a, c, b] : Bs)[2]? = some b := rfl
     have hib : Lib.indexByte (blk4.drop 3) b = -1 := indexByte_none b hb _ (by decide)
     have h9 : (13 : UInt8).toNat = 13 := rfl
     have F := F4 F hb1 hab hib
     refine wko F ?_
     refine cqo F (fun c4 => ?_) (fun c4 => ?_) <;> (try exact c4.elim) <;> (refine wko F ?_)
     ·refine cqo F (fun c5 => ?_) (fun c5 => ?_) <;> (try exact c5.elim) <;> (refine wko F ?_)
      ·refine ⟨_, IndexByteString_sat G (blk4.drop 3) b _, ?_⟩
       try refine sqo F ?_
       refine wko F ?_
       refine cqo F (fun c6 => ?_) (fun c6 => ?_) <;> (try exact c6.elim) <;> (refine wko F ?_)
       ·refine eeo hQ F ?_
        refine fR (.int _ _) ?_
        rfl
       ·exact absurd c6 (by decide)
      ·exfalso; omega
     ·exfalso; omega
    ·have F := F5 @aconv_rstr he @Bool.not_true @Int.cast_ofNat_Int @Int.toNat_one
     refine kqo F (ValidRune_sat G r hr' _) ?_
     refine lm (fun nL tL hL => 0 = nL ∧ h = hL ∧ tL 9 = .int .i64 3) (0) ?_ ?_
     ·refine Wkn.refl ⟨rfl, hpE, ?_⟩
      all_goals first | exact zqo F | rfl | omega | trivial | skip
     rintro _ s3 h' ⟨rfl, rfl, e9⟩ K3 hK3
     simp only [mix_cons, mix_nil, Nat.reduceEqDiff, ↓reduceIte] at e9
     have F := F2 F e9
     have hl4 : blk4.length = 4 := rfl
     have hb1 : blk4[3]? = some 10 := rfl
     have hab : ([a, c, d, b] : Bs)[3]? = some b := rfl
     have hib : Lib.indexByte (blk4.drop 4) b = -1 := indexByte_none b hb _ (by decide)
     have h9 : (10 : UInt8).toNat = 10 := rfl
     have F := F4 F hb1 hab hib
     refine wko F ?_
     refine cqo F (fun c4 => ?_) (fun c4 => ?_) <;> (try exact c4.elim) <;> (refine wko F ?_)
     ·refine cqo F (fun c5 => ?_) (fun c5 => ?_) <;> (try exact c5.elim) <;> (refine wko F ?_)
      ·refine ⟨_, IndexByteString_sat G (blk4.drop 4) b _, ?_⟩
       try refine sqo F ?_
       refine wko F ?_
       refine cqo F (fun c6 => ?_) (fun c6 => ?_) <;> (try exact c6.elim) <;> (refine wko F ?_)
       ·refine eeo hQ F ?_
        refine fR (.int _ _) ?_
        rfl
       ·exact absurd c6 (by decide)
      ·exfalso; omega
     ·exfalso; omega
 ·exfalso; omega
theorem ContainsRune_high (r : Int) (hr : Rune r) (h1 : 128 ≤ r) (h : Heap) : Sat (CT G) 154 [.str blk4, .int .i32 r] h (fun x h' => x = .bool false ∧ h' = h) := by
 refine sb [.tmp 4] (fn := Tryz.f154) Tryz.func154 ?_
 intro Q hQ
 refine wko trivial ?_
 refine kqo trivial (IndexRune_high G r hr h1 _) ?_
 refine eeo hQ trivial ?_
 refine fR (.bool _) ?_
 rfl
end Go.Av
namespace Go.Av
open Go Go.Proofs Go.RowKit
attribute [local irreducible] WP WPl WPix Sat
set_option maxRecDepth 100000
set_option maxHeartbeats 1000000
variable (G : Nat → Option (List AVal))
def blankP (c : Int) : Bool := decide (c = 32 ∨ c = 9 ∨ c = 13 ∨ c = 10)
def blankB (b : UInt8) : Bool := blankP b.toNat
def moreB (b : UInt8) : Bool := moreF b.toNat
theorem blankP_ascii : ∀ x : _root_.Fin 128, decide (0 ≤ Lib.indexByte blk4 x.val.toUInt8) = blankP x.val := by decide +kernel
theorem blank1_sat (c : Int) (hc : Rune c) (h : Heap) : Sat (CT G) 153 [.int .i32 c] h (fun r h' => r = .bool (blankP c) ∧ h' = h) := by
 have hR := hc
 obtain ⟨h0, h1⟩ := hc
 by_cases hlt : c < 128
 ·have e : decide (0 ≤ Lib.indexByte blk4 c.toNat.toUInt8) = blankP c := by
   have := blankP_ascii ⟨c.toNat, by omega⟩
   rw [show (c.toNat : Int) = c by omega] at this
   exact this
  have hs := ContainsRune_ascii G blk4 c h0 hlt h
  rw [e] at hs
  refine sb [.tmp 2] (fn := Tryz.f153) Tryz.func153 ?_
  intro Q hQ
  refine wko trivial ?_
  refine kqo trivial (hs) ?_
  refine eeo hQ trivial ?_
  refine fR (.bool _) ?_
  rfl
 ·have hs := ContainsRune_high G c hR (by omega) h
  have e : blankP c = false := by unfold blankP; simp; omega
  refine sb [.tmp 2] (fn := Tryz.f153) Tryz.func153 ?_
  intro Q hQ
  refine wko trivial ?_
  refine kqo trivial (hs) ?_
  refine eeo hQ trivial ?_
  refine fR (.bool _) ?_
  rw [e]
theorem blank_by : ByByte blankP blankB false := ⟨fun _ _ => rfl, fun c hc _ => by unfold blankP; simp; omega, fun b hb => by unfold blankB blankP; simp; omega⟩
theorem more_by : ByByte moreF moreB false := ⟨fun _ _ => rfl, fun c hc _ => by unfold moreF; simp; omega, fun b hb => by unfold moreB moreF; simp; omega⟩
theorem blank_sat (s : Bs) (b : Bool) (hs : s.length ≤ 1073741824) (h j : Heap) : Sat (CT G) 128 [.hp h.length 0 0 0] (rdH h j s b)
  (fun r h' => r = .bool (!(s.takeWhile blankB == [])) ∧ h' = rdH h j (s.dropWhile blankB) b) := by
 have end_ := rd_fin h j [] (s.dropWhile blankB) s b b (x := .bool (!(s.takeWhile blankB == []))) (List.append_nil _).symm (fun _ => .bool _)
 refine sb [.tmp 2] (fn := Tryz.f128) Tryz.func128 ?_
 intro Q hQ
 refine wko trivial ?_
 refine kqo trivial (run_sat G blankP blankB false blank_by 153 s b hs h j (fun c k hc => blank1_sat G c hc k)) ?_
 refine eeo hQ trivial ?_
 exact end_
theorem aconv_br (k : IntKind) (b : UInt8) : aconv Tryz.prog 5 21 (.int k b.toNat) = some (.int .i32 b.toNat) := by
 have hw : IntKind.wrap .i32 (b.toNat : Int) = b.toNat := by have := b.toNat_lt; rw [IntKind.wrap_i32]; omega
 simp only [aconv, go_sem, hw]
def badN (n : Bs) : Bool := match n with
 | [] => true
 | c :: _ => !(beginF c.toNat) || decide (64 < n.length)
def nameW (s : Bs) : Bs := s.takeWhile moreB
def nameR (s : Bs) : Bs := s.dropWhile moreB
theorem name_sat (s : Bs) (b : Bool) (hs : s.length ≤ 1073741824) (h j : Heap) : Sat (CT G) 127 [.hp h.length 0 0 0] (rdH h j s b)
  (fun r h' => r = .str (nameW s) ∧ h' = rdH h j (nameR s) (b || badN (nameW s))) := by
 have hl : (nameW s).length ≤ s.length := (List.takeWhile_sublist _).length_le
 have end_ := fun b1 => rd_fin h j [] (nameR s) s b1 b (x := .str (nameW s)) (List.append_nil _).symm (fun _ => .str _)
 have hr := run_sat G moreF moreB false more_by 151 s b hs h j (fun c k _ => goes_sat G c k)
 change Sat _ _ _ _ (fun r h' => r = .str (nameW s) ∧ h' = rdH h j (nameR s) b) at hr
 cases hn : nameW s with
 | nil =>
  rw [hn] at hr end_
  have hnn : (([] : Bs) == []) = true := rfl
  have F := hnn
  refine sb [.tmp 2] (fn := Tryz.f127) Tryz.func127 ?_
  intro Q hQ
  refine wko F ?_
  refine kqo F (hr) ?_
  refine eeo hQ F ?_
  simp only [badN, Bool.or_true]
  exact end_ _
 | cons c t =>
  rw [hn] at hr end_ hl
  have hg : (c :: t)[0]? = some c := rfl
  have hw : IntKind.wrap .i32 c.toNat = c.toNat := by have := c.toNat_lt; rw [IntKind.wrap_i32]; omega
  have hnn : ((c :: t) == ([] : Bs)) = false := rfl
  have hbd : badN (c :: t) = (!(beginF c.toNat) || decide (64 < (c :: t).length)) := rfl
  have F := F3 hg @aconv_br hnn
  refine sb [.tmp 2] (fn := Tryz.f127) Tryz.func127 ?_
  intro Q hQ
  refine wko F ?_
  refine kqo F (hr) ?_
  refine kqo F (begins_sat G c.toNat _) ?_
  (first | refine gqo F (fun hb => ?_) (fun hb => ?_) | refine pqo F (fun hb => ?_) (fun hb => ?_)) <;> (try exact hb.elim) <;> (try refine sqo F ?_) <;> (refine wko F ?_)
  ·refine eeo hQ F ?_
   have e : badN (c :: t) = true := by rw [hbd]; simp [hb]
   rw [e, Bool.or_true] at *
   exact end_ _
  ·refine cqo F (fun hc => ?_) (fun hc => ?_) <;> (try exact hc.elim) <;> (refine wko F ?_)
   ·refine eeo hQ F ?_
    have e : badN (c :: t) = true := by
     rw [hbd]
     have : 64 < (c :: t).length := by simp only [List.length_cons]; omega
     rw [decide_eq_true this, Bool.or_true]
    rw [e, Bool.or_true] at *
    exact end_ _
   ·refine eeo hQ F ?_
    have e : badN (c :: t) = false := by
     rw [hbd]
     have : ¬ 64 < (c :: t).length := by simp only [List.length_cons]; omega
     rw [hb, decide_eq_false this]; rfl
    rw [e, Bool.or_false] at *
    exact end_ _
def valueF (s : Bs) (b : Bool) : Bs × Bs × Bool :=
 let q : Bs := if Lib.hasPrefix s [34] = true then [34] else [39]
 let s1 := Lib.trimPrefix s q
 let u := uptoF q s1 (b || !Lib.hasPrefix s q)
 (readP (u.1.length + 1) u.1, u.2.1, u.2.2 || Lib.contains u.1 [60])
theorem uptoF_len (w s : Bs) (b : Bool) : (uptoF w s b).1.length ≤ s.length ∧ (uptoF w s b).2.1.length ≤ s.length := by
 unfold uptoF
 split
 ·rename_i h
  have := cut_len s w h
  exact ⟨by simp only []; omega, by simp only []; omega⟩
 ·exact ⟨by simp, by simp⟩
theorem trim_len (s w : Bs) : (Lib.trimPrefix s w).length ≤ s.length := by
 unfold Lib.trimPrefix; split
 ·simp
 ·exact Nat.le_refl _
theorem value_sat (hG : GOk G) (s : Bs) (b : Bool) (hs : s.length ≤ 1048576) (h j : Heap) : Sat (CT G) 155 [.hp h.length 0 0 0] (rdH h j s b)
  (fun r h' => r = .str (valueF s b).1 ∧ h' = rdH h j (valueF s b).2.1 (valueF s b).2.2) := by
 cases hp : Lib.hasPrefix s [34] with
 | true =>
  have hl := trim_len s [34]
  have hu := uptoF_len [34] (Lib.trimPrefix s [34]) b
  have hv : valueF s b = (readP ((uptoF [34] (Lib.trimPrefix s [34]) b).1.length + 1) (uptoF [34] (Lib.trimPrefix s [34]) b).1, (uptoF [34] (Lib.trimPrefix s [34]) b).2.1, (uptoF [34] (Lib.trimPrefix s [34]) b).2.2 || Lib.contains (uptoF [34] (Lib.trimPrefix s [34]) b).1 [60]) := by
   simp [valueF, hp]
  have hus := upto_sat G hG [34] (Lib.trimPrefix s [34]) b (by omega) h j
  rw [hv]
  generalize uptoF [34] (Lib.trimPrefix s [34]) b = u at hu hus ⊢
  have end_ := fun b1 => rd_fin h j [] u.2.1 s b1 b (x := .str (readP (u.1.length + 1) u.1)) (List.append_nil _).symm (fun _ => .str _)
  have ht := take_sat G [34] s b h j
  rw [hp] at ht
  have F := @Bool.not_true
  refine sb [.tmp 2] (fn := Tryz.f155) Tryz.func155 ?_
  intro Q hQ
  refine wko F ?_
  refine kqo F (ht) ?_
  refine kqo F (hus) ?_
  (first | refine gqo F (fun g => ?_) (fun g => ?_) | refine pqo F (fun g => ?_) (fun g => ?_)) <;> (try exact g.elim) <;> (try refine sqo F ?_) <;> (refine wko F ?_)
  ·refine kqo F (Read_sat hG u.1 (by omega) _) ?_
   refine eeo hQ F ?_
   rw [g, Bool.true_or] at *
   exact end_ _
  ·refine kqo F (Contains_sat G hG u.1 [60] (by omega) _) ?_
   refine kqo F (Read_sat hG u.1 (by omega) _) ?_
   refine eeo hQ F ?_
   rw [g, Bool.false_or] at *
   exact end_ _
 | false =>
  have hl := trim_len s [39]
  have hu := uptoF_len [39] (Lib.trimPrefix s [39]) (b || !Lib.hasPrefix s [39])
  have hv : valueF s b = (readP ((uptoF [39] (Lib.trimPrefix s [39]) (b || !Lib.hasPrefix s [39])).1.length + 1) (uptoF [39] (Lib.trimPrefix s [39]) (b || !Lib.hasPrefix s [39])).1, (uptoF [39] (Lib.trimPrefix s [39]) (b || !Lib.hasPrefix s [39])).2.1, (uptoF [39] (Lib.trimPrefix s [39]) (b || !Lib.hasPrefix s [39])).2.2 || Lib.contains (uptoF [39] (Lib.trimPrefix s [39]) (b || !Lib.hasPrefix s [39])).1 [60]) := by
   simp [valueF, hp]
  have hus := upto_sat G hG [39] (Lib.trimPrefix s [39]) (b || !Lib.hasPrefix s [39]) (by omega) h j
  rw [hv]
  generalize uptoF [39] (Lib.trimPrefix s [39]) (b || !Lib.hasPrefix s [39]) = u at hu hus ⊢
  have end_ := fun b1 => rd_fin h j [] u.2.1 s b1 b (x := .str (readP (u.1.length + 1) u.1)) (List.append_nil _).symm (fun _ => .str _)
  have htp : Lib.trimPrefix s [34] = s := by unfold Lib.trimPrefix; rw [if_neg (by simp [hp])]
  have ht := take_sat G [34] s b h j
  rw [hp, htp] at ht
  have F := @Bool.not_false
  refine sb [.tmp 2] (fn := Tryz.f155) Tryz.func155 ?_
  intro Q hQ
  refine wko F ?_
  refine kqo F (ht) ?_
  refine kqo F (must_sat G [39] s b h j) ?_
  refine kqo F (hus) ?_
  (first | refine gqo F (fun g => ?_) (fun g => ?_) | refine pqo F (fun g => ?_) (fun g => ?_)) <;> (try exact g.elim) <;> (try refine sqo F ?_) <;> (refine wko F ?_)
  ·refine kqo F (Read_sat hG u.1 (by omega) _) ?_
   refine eeo hQ F ?_
   rw [g, Bool.true_or] at *
   exact end_ _
  ·refine kqo F (Contains_sat G hG u.1 [60] (by omega) _) ?_
   refine kqo F (Read_sat hG u.1 (by omega) _) ?_
   refine eeo hQ F ?_
   rw [g, Bool.false_or] at *
   exact end_ _
end Go.Av
namespace Go.Av
open Go Go.Proofs Go.RowKit
attribute [local irreducible] WP WPl WPix Sat
set_option maxRecDepth 100000
set_option maxHeartbeats 1000000
variable (G : Nat → Option (List AVal))
attribute [go_sem] rdH_len
@[go_sem] theorem getRow_rdHk (h j l : Heap) (s : Bs) (b : Bool) (k v : Nat) : getRow (rdH h j s b ++ l) (h.length + (1 + (j.length + k))) v = getRow l k v := by
 rw [show h.length + (1 + (j.length + k)) = (rdH h j s b).length + k by rw [rdH_len]; omega]; exact getRow_app _ l k v
@[go_sem] theorem getRow_rdHz (h j l : Heap) (s : Bs) (b : Bool) (v : Nat) : getRow (rdH h j s b ++ l) (h.length + (1 + j.length)) v = getRow l 0 v := getRow_rdHk h j l s b 0 v
@[go_sem] theorem set_rdHk (h j l : Heap) (s : Bs) (b : Bool) (k : Nat) (x : Blk) : (rdH h j s b ++ l).set (h.length + (1 + (j.length + k))) x = rdH h j s b ++ l.set k x := by
 rw [show h.length + (1 + (j.length + k)) = (rdH h j s b).length + k by rw [rdH_len]; omega]; exact set_app _ l k x
@[go_sem] theorem set_rdHz (h j l : Heap) (s : Bs) (b : Bool) (x : Blk) : (rdH h j s b ++ l).set (h.length + (1 + j.length)) x = rdH h j s b ++ l.set 0 x := set_rdHk h j l s b 0 x
theorem rdH_app (h j l : Heap) (s : Bs) (b : Bool) : rdH h j s b ++ l = rdH h (j ++ l) s b := by simp [rdH]
theorem sat_app {f : FuncId} {args : List AVal} {h j l : Heap} {s : Bs} {b : Bool} {x : AVal} {s1 : Bs} {b1 : Bool} (g : ∀ j, Sat (CT G) f args (rdH h j s b) (fun r h' => r = x ∧ h' = rdH h j s1 b1)) :
  Sat (CT G) f args (rdH h j s b ++ l) (fun r h' => r = x ∧ h' = rdH h j s1 b1 ++ l) := by
 rw [rdH_app]
 refine (g (j ++ l)).mono fun r h' ⟨e1, e2⟩ => ⟨e1, by rw [e2, rdH_app]⟩
def attrX (s : Bs) (b : Bool) : At × Bs × Bool :=
 let n := nameW s
 let b1 := b || badN n
 let s2 := (nameR s).dropWhile blankB
 let b3 := b1 || !Lib.hasPrefix s2 [61]
 let s4 := (Lib.trimPrefix s2 [61]).dropWhile blankB
 if b3 = true then ((n, []), s4, b3) else ((n, (valueF s4 b3).1), (valueF s4 b3).2.1, (valueF s4 b3).2.2)
theorem drop_len (p : UInt8 → Bool) (s : Bs) : (s.dropWhile p).length ≤ s.length := (List.dropWhile_sublist p).length_le
theorem attr_sat (hG : GOk G) (s : Bs) (b : Bool) (hs : s.length ≤ 1048576) (h j : Heap) : Sat (CT G) 130 [.hp h.length 0 0 0] (rdH h j s b)
  (fun r h' => r = (attrX s b).1.av ∧ h' = rdH h j (attrX s b).2.1 (attrX s b).2.2) := by
 have h1 : (nameR s).length ≤ s.length := drop_len _ _
 have h2 := drop_len blankB (nameR s)
 have h3 := trim_len ((nameR s).dropWhile blankB) [61]
 have h4 := drop_len blankB (Lib.trimPrefix ((nameR s).dropWhile blankB) [61])
 have c1 : ∀ l, Sat (CT G) 127 [.hp h.length 0 0 0] (rdH h j s b ++ l) _ := fun l => sat_app G (l := l) fun j => name_sat G s b (by omega) h j
 have c2 : ∀ l b1, Sat (CT G) 128 [.hp h.length 0 0 0] (rdH h j (nameR s) b1 ++ l) _ := fun l b1 => sat_app G (l := l) fun j => blank_sat G (nameR s) b1 (by omega) h j
 have c3 : ∀ l b1, Sat (CT G) 129 [.hp h.length 0 0 0, .str [61]] (rdH h j ((nameR s).dropWhile blankB) b1 ++ l) _ := fun l b1 => sat_app G (l := l) fun j => must_sat G [61] ((nameR s).dropWhile blankB) b1 h j
 have c4 : ∀ l b1, Sat (CT G) 128 [.hp h.length 0 0 0] (rdH h j (Lib.trimPrefix ((nameR s).dropWhile blankB) [61]) b1 ++ l) _ := fun l b1 => sat_app G (l := l) fun j => blank_sat G _ b1 (by omega) h j
 have c5 : ∀ l b1, Sat (CT G) 155 [.hp h.length 0 0 0] (rdH h j ((Lib.trimPrefix ((nameR s).dropWhile blankB) [61]).dropWhile blankB) b1 ++ l) _ := fun l b1 => sat_app G (l := l) fun j => value_sat G hG _ b1 (by omega) h j
 refine sb [.cell 2 67] (fn := Tryz.f130) Tryz.func130 ?_
 intro Q hQ
 refine wko trivial ?_
 refine kqo trivial (c1 _) ?_
 refine kqo trivial (c2 _ _) ?_
 refine kqo trivial (c3 _ _) ?_
 refine kqo trivial (c4 _ _) ?_
 refine cqo trivial (fun hc => ?_) (fun hc => ?_) <;> (try exact hc.elim) <;> (refine wko trivial ?_)
 ·refine kqo trivial (c5 _ _) ?_
  refine yeo hQ trivial ?_
  have e : attrX s b = ((nameW s, (valueF _ _).1), (valueF _ _).2.1, (valueF _ _).2.2) := if_neg (by simp [hc])
  rw [e]
  exact rd_fin h j _ _ s _ b rfl (fun n => .agg _ (by intro c hc; simp at hc; rcases hc with rfl | rfl <;> exact .str _))
 ·refine yeo hQ trivial ?_
  have e : attrX s b = ((nameW s, []), _, _) := if_pos (by simpa using hc)
  rw [e]
  exact rd_fin h j _ _ s _ b rfl (fun n => .agg _ (by intro c hc; simp at hc; rcases hc with rfl | rfl <;> exact .str _))
end Go.Av
namespace Go.Av
open Go Go.Proofs Go.RowKit
attribute [local irreducible] WP WPl WPix Sat
set_option maxRecDepth 100000
set_option maxHeartbeats 1000000
variable (G : Nat → Option (List AVal))
theorem named1_sat (a : At) (w : Bs) (h : Heap) : Sat (CT G) 157 [a.av, .hp h.length 0 0 0] (h ++ [.row 9 1 0 [.str w]])
  (fun r h' => r = .bool (a.1 == w) ∧ h' = h ++ [.row 9 1 0 [.str w]]) := by
 obtain ⟨n, v⟩ := a
 show Sat _ _ [.agg [.str n, .str v], _] _ _
 refine sb [.tmp 3] (fn := Tryz.f157) Tryz.func157 ?_
 intro Q hQ
 refine wko trivial ?_
 refine wko trivial ?_
 refine eeo hQ trivial ?_
 exact Fin.plainE (j := _) (List.append_assoc h [_] [_]).symm (.bool _) ⟨rfl, rfl⟩
def idxG (p : At → Bool) (l : List At) : Int := match l.findIdx? p with
 | some i => i
 | none => -1
theorem idxG_any (p : At → Bool) (l : List At) : decide (0 ≤ idxG p l) = l.any p := by
 unfold idxG
 cases h : l.findIdx? p with
 | some i =>
  rw [List.findIdx?_eq_some_iff_getElem] at h
  obtain ⟨hi, h1, _⟩ := h
  have : l.any p = true := List.any_eq_true.2 ⟨l[i], List.getElem_mem hi, h1⟩
  rw [this]; simp
 | none =>
  rw [List.findIdx?_eq_none_iff] at h
  have : l.any p = false := by rw [List.any_eq_false]; intro a ha; simp [h a ha]
  rw [this]; rfl
end Go.Av
namespace Go.Av
open Go Go.Proofs Go.RowKit
attribute [local irreducible] WP WPl WPix Sat
set_option maxRecDepth 100000
set_option maxHeartbeats 1000000
variable (G : Nat → Option (List AVal))
theorem text_sat (s : Bs) (h : Heap) : Sat (CT G) 101 [.str s] h (fun r h' => r = .sl 4 ([(3, [], [], s)].map Tok.av) ∧ h' = h) := by
 skip
 refine sb [.tmp 2] (fn := Tryz.f101) Tryz.func101 ?_
 intro Q hQ
 refine wxo trivial ?_
 refine wxo trivial ?_
 refine eeo hQ trivial ?_
 have fz := frz_toks1 (h0 := h) (h1 := h ++ [.row 83 4 0 [.agg [.int .i64 3, .str [], .nil (.slice none 0 0), .str s]]]) (pre := h) (post := []) [] 3 [] s rfl rfl (Nat.le_refl _)
 exact Fin.frz fz ⟨rfl, rfl⟩
theorem rd_finF (h j jj : Heap) (s s0 : Bs) (b b0 : Bool) {h2 : Heap} {x y : AVal} (hh : h2 = rdH h j s b ++ jj) (hx : Frz h2 (rdH h j s0 b0).length x y) : Fin (rdH h j s0 b0) h2 (fun r h' => r = y ∧ h' = rdH h j s b) x := by
 subst hh
 exact Fin.keepF (by simp only [rdH_len]) (fun p k hk => rd_keep _ _ _ _ _ _ _ p k hk) hx ⟨rfl, rfl⟩
def kindF (s : Bs) (b : Bool) : Bs × Bool :=
 let u := uptoF [62] s b
 (u.2.1, Lib.contains u.1 [91] || u.2.2)
theorem kind_sat (hG : GOk G) (s : Bs) (b : Bool) (hs : s.length ≤ 1048576) (h j : Heap) : Sat (CT G) 100 [.hp h.length 0 0 0] (rdH h j s b)
  (fun r h' => r = .sl 4 [] ∧ h' = rdH h j (kindF s b).1 (kindF s b).2) := by
 have hu := uptoF_len [62] s b
 have hus := upto_sat G hG [62] s b (by omega) h j
 have hv : kindF s b = ((uptoF [62] s b).2.1, Lib.contains (uptoF [62] s b).1 [91] || (uptoF [62] s b).2.2) := rfl
 rw [hv]
 generalize uptoF [62] s b = u at hu hus ⊢
 refine sb [.tmp 2] (fn := Tryz.f100) Tryz.func100 ?_
 intro Q hQ
 refine wxo trivial ?_
 refine kxo trivial (hus) ?_
 refine kxo trivial (Contains_sat G hG u.1 [91] (by omega) _) ?_
 have end_ := fun b1 => rd_finF h j [] u.2.1 s b1 b (x := .nil (.slice none 0 0)) (y := .sl 4 []) (List.append_nil _).symm (Frz.nils 4)
 (first | refine gqo trivial (fun g => ?_) (fun g => ?_) | refine pqo trivial (fun g => ?_) (fun g => ?_)) <;> (try exact g.elim) <;> (try refine sqo trivial ?_) <;> (refine wxo trivial ?_)
 ·refine eeo hQ trivial ?_
  rw [g, Bool.true_or] at *
  exact end_ _
 ·refine eeo hQ trivial ?_
  rw [g, Bool.false_or] at *
  exact end_ _
def closeF (s : Bs) (b : Bool) : Bs × Bool :=
 let s2 := (nameR s).dropWhile blankB
 (Lib.trimPrefix s2 [62], (b || badN (nameW s)) || !Lib.hasPrefix s2 [62])
theorem close_sat (s : Bs) (b : Bool) (hs : s.length ≤ 1048576) (h j : Heap) : Sat (CT G) 102 [.hp h.length 0 0 0] (rdH h j s b)
  (fun r h' => r = .sl 4 ([(2, nameW s, [], [])].map Tok.av) ∧ h' = rdH h j (closeF s b).1 (closeF s b).2) := by
 have h1 : (nameR s).length ≤ s.length := drop_len _ _
 have c1 : ∀ l, Sat (CT G) 127 [.hp h.length 0 0 0] (rdH h j s b ++ l) _ := fun l => sat_app G (l := l) fun j => name_sat G s b (by omega) h j
 have c2 : ∀ l b1, Sat (CT G) 128 [.hp h.length 0 0 0] (rdH h j (nameR s) b1 ++ l) _ := fun l b1 => sat_app G (l := l) fun j => blank_sat G (nameR s) b1 (by omega) h j
 have c3 : ∀ l b1, Sat (CT G) 129 [.hp h.length 0 0 0, .str [62]] (rdH h j ((nameR s).dropWhile blankB) b1 ++ l) _ := fun l b1 => sat_app G (l := l) fun j => must_sat G [62] ((nameR s).dropWhile blankB) b1 h j
 refine sb [.tmp 2] (fn := Tryz.f102) Tryz.func102 ?_
 intro Q hQ
 refine wxo trivial ?_
 refine kxo trivial (name_sat G s b (by omega) h j) ?_
 refine kxo trivial (c2 _ _) ?_
 refine kxo trivial (c3 _ _) ?_
 refine eeo hQ trivial ?_
 refine rd_finF h j _ _ s _ b rfl ?_
 exact frz_toks1 (pre := rdH h j _ _ ++ [_]) (post := []) [] 2 (nameW s) [] (List.append_assoc _ [_] [_]).symm (by simp [rdH_len]; try omega) (by simp [rdH_len]; try omega)
end Go.Av
namespace Go.Av
open Go.RowKit
section
variable {C : Ctx} {B n : Nat} {S : Addr → Prop} {μ : Map} {h : Heap} {w : World} {t : Env} {a : Act}
def LetP (S : Addr → Prop) (μ : Map) (w : World) (p : Nat) : Addr → Prop := fun a => S a ∨ ∃ m, μ[p]? = some m ∧ m.blk = some a.block ∧ (w.cell? a).isSome = true
theorem Rep.letgo (f : Fits C B S μ h w) {p v e m : Nat} {rows : List AVal} (hg : getRow h p v = some (e, m, rows)) {μ' : Map} (st : Step B S μ w (LetP S μ w p) μ' w)
  {off len : Nat} {room : Bool} {val : Value} (hlen : off + len ≤ rows.length) (r : Rep w S μ (.hs p v off len room) val) : Rep w (LetP S μ w p) μ' (.sl m ((rows.drop off).take len)) val := by
 obtain ⟨mb, hm, hf⟩ := f.row hg
 have hms := hf.hsize
 rcases r.hs_now hm hf.hver with ⟨hb, rfl, rfl, rfl⟩ | ⟨b, hb, hcap, rfl⟩
 ·simpa using Rep.sl0 (w := w) (S := LetP S μ w p) (μ := μ') m none 0
 ·by_cases hl0 : len = 0
  ·subst hl0
   simpa using Rep.sl0 (w := w) (S := LetP S μ w p) (μ := μ') m _ _
  ·obtain ⟨cur, hheap, hcs, hle, hmax, fl⟩ := hf.flat hb
   have hes : ((rows.drop off).take len).length = len := by simp; omega
   have hget : ∀ (i : Nat) (s : AVal), ((rows.drop off).take len)[i]? = some s → rows[off + i]? = some s := by
    intro i s hi
    have hlt := (List.getElem?_eq_some_iff.1 hi).1
    rw [hes] at hlt
    rw [List.getElem?_take_of_lt hlt, List.getElem?_drop] at hi
    exact hi
   have e1 : ∀ i j, (off + i) * m + j = off * m + (i * m + j) := fun i j => by rw [Nat.add_mul]; omega
   have key := Rep.sl (w := w) (S := LetP S μ w p) (μ := μ') m ((rows.drop off).take len) b (off * mb.size) (if room then mb.cap - off else len)
    (fun i j => cur.getD (off * m + (i * m + j)) undef) (by intro e; rw [e] at hes; simp at hes; omega) (by rw [hes]; split <;> omega) (by split <;> omega)
    (fun i s hi => hf.lens _ _ (hget i s hi))
    (fun i s j d hi hj => by
     have h1 := hget i s hi
     obtain ⟨u, hu, _⟩ := fl.rep _ _ _ _ h1 hj
     have hu := takeGet hu
     rw [e1] at hu
     have hu2 : cur[off * m + (i * m + j)]? = some u := by simpa using hu
     have hcell : w.cell? ⟨b, off * m + (i * m + j), none⟩ = some u := by simp [World.cell?, hheap, hu2]
     rw [hms]
     refine ⟨.inr ⟨mb, hm, hb, by rw [hcell]; rfl⟩, ?_, hf.sto _ _ _ _ h1 hj⟩
     rw [hcell]; simp [Array.getD_eq_getD_getElem?, hu2])
    (fun i s j d hi hj => by
     have h1 := hget i s hi
     obtain ⟨u, hu, hrep⟩ := fl.rep _ _ _ _ h1 hj
     have hu := takeGet hu
     rw [e1] at hu
     have hu2 : cur[off * m + (i * m + j)]? = some u := by simpa using hu
     have := hrep.mono st
     simpa [Array.getD_eq_getD_getElem?, hu2] using this)
   rw [hes] at key
   exact key
theorem Fits.letgo (f : Fits C B S μ h w) {p v e m : Nat} {rows : List AVal} (hg : getRow h p v = some (e, m, rows)) :
  ∃ μ', Step B S μ w (LetP S μ w p) μ' w ∧ Fits C B (LetP S μ w p) μ' (h.set p .dead) w := by
 obtain ⟨mb, hm, hf⟩ := f.row hg
 have hlt := (List.getElem?_eq_some_iff.1 hm).1
 have st : Step B S μ w (LetP S μ w p) (μ.set p ⟨none, mb.ver + 1, mb.size, mb.cap⟩) w := ⟨fun a ha => .inl ha, fun _ _ => rfl, Below.refl _ _, mapLe_set hm (by simp) (fun e => by simp at e), fun a ha => by
  rcases ha with ha | ⟨m', hm', hb, _⟩
  ·exact .inl ha
  ·exact .inr (f.own p m' _ hm' hb).1⟩
 have at_ : ∀ q k, (μ.set p ⟨none, mb.ver + 1, mb.size, mb.cap⟩)[q]? = some k → (q = p ∧ k.blk = none) ∨ (q ≠ p ∧ μ[q]? = some k) := by
  intro q k hq
  by_cases e : p = q
  ·subst e; rw [List.getElem?_set_self hlt] at hq; cases hq; exact .inl ⟨rfl, rfl⟩
  ·rw [List.getElem?_set_ne e] at hq; exact .inr ⟨fun e' => e e'.symm, hq⟩
 refine ⟨_, st, ⟨fun g cs hg => (f.glob g cs hg).mono st, by simp [f.len], ?_, ?_, f.base, ?_, ?_⟩⟩
 ·intro p1 q1 m1 m2 b h1 h2 e1 e2
  rcases at_ p1 m1 h1 with ⟨_, k1⟩ | ⟨_, k1⟩
  ·rw [k1] at e1; cases e1
  ·rcases at_ q1 m2 h2 with ⟨_, k2⟩ | ⟨_, k2⟩
   ·rw [k2] at e2; cases e2
   ·exact f.sep p1 q1 m1 m2 b k1 k2 e1 e2
 ·intro p1 m1 b h1 e1
  rcases at_ p1 m1 h1 with ⟨_, k1⟩ | ⟨r1, k1⟩
  ·rw [k1] at e1; cases e1
  ·obtain ⟨a1, a2, a3⟩ := f.own p1 m1 b k1 e1
   refine ⟨a1, a2, fun a ha => ?_⟩
   rcases ha with ha | ⟨m', hm', hb, _⟩
   ·exact a3 a ha
   ·intro e
    exact r1 (f.sep p1 p m1 m' b k1 hm' e1 (by rw [hb, e]))
 ·intro a ha
  rcases ha with ha | ⟨m', hm', hb, _⟩
  ·exact f.lie a ha
  ·exact (f.own p m' _ hm' hb).2.1
 ·intro p1 m1 k1 h1 h2
  rcases at_ p1 m1 h1 with ⟨rfl, _⟩ | ⟨r1, h1⟩
  ·rw [List.getElem?_set_self (by rw [← f.len]; exact hlt)] at h2; cases h2; trivial
  ·rw [List.getElem?_set_ne (fun e => r1 e.symm)] at h2
   exact (f.blk p1 m1 k1 h1 h2).mono st fun b _ => rfl
inductive Fz (h : Heap) (p v : Nat) : AVal → AVal → Prop
 | same (x : AVal) : Fz h p v x x
 | hs (off len : Nat) (room : Bool) (e m : Nat) (rows es : List AVal) : getRow h p v = some (e, m, rows) → off + len ≤ rows.length → es = (rows.drop off).take len → Fz h p v (.hs p v off len room) (.sl m es)
 | agg (cs ds : List AVal) : cs.length = ds.length → (∀ d ∈ ds, d.sto = true) → (∀ (i : Nat) (c d : AVal), cs[i]? = some c → ds[i]? = some d → Fz h p v c d) → Fz h p v (.agg cs) (.agg ds)
 | tup (cs ds : List AVal) : cs.length = ds.length → (∀ (i : Nat) (c d : AVal), cs[i]? = some c → ds[i]? = some d → Fz h p v c d) → Fz h p v (.tup cs) (.tup ds)
 | wk (x y z : AVal) : Fz h p v x y → Wk y z → Fz h p v x z
theorem Fz.all (h : Heap) (p v : Nat) {off len e m : Nat} {room : Bool} {rows : List AVal} (hg : getRow h p v = some (e, m, rows)) (h0 : off = 0) (hl : len = rows.length) : Fz h p v (.hs p v off len room) (.sl m rows) :=
 .hs off len room e m rows rows hg (by omega) (by subst h0; subst hl; simp)
theorem Fz.rep (f : Fits C B S μ h w) {p v : Nat} {μ' : Map} (st : Step B S μ w (LetP S μ w p) μ' w) {x y : AVal} {u : Value} (z : Fz h p v x y) (r : Rep w S μ x u) : Rep w (LetP S μ w p) μ' y u := by
 induction z generalizing u with
 | same x => exact r.mono st
 | hs off len room e m rows es hg hl he => subst he; exact r.letgo f hg st hl
 | agg cs ds hl hst _ ih =>
  obtain ⟨vs, rfl, hvl, _, hr⟩ := r.agg_inv
  refine .agg ds vs (by omega) (fun i d hd => hst d (List.mem_of_getElem? hd)) (fun i d hd => ?_)
  have hlt := (List.getElem?_eq_some_iff.1 hd).1
  have hc := List.getElem?_eq_getElem (show i < cs.length by omega)
  exact ih i _ d hc hd (hr i _ hc)
 | tup cs ds hl _ ih =>
  obtain ⟨vs, rfl, hvl, hr⟩ := r.tup_inv
  refine .tup ds vs (by omega) (fun i d hd => ?_)
  have hlt := (List.getElem?_eq_some_iff.1 hd).1
  have hc := List.getElem?_eq_getElem (show i < cs.length by omega)
  exact ih i _ d hc hd (hr i _ hc)
 | wk x y z _ hw ih => exact hw _ _ _ _ (ih r)
theorem Weak.fz {ms : List Nat} {t1 : Env} (p v : Nat) {e m : Nat} {rows : List AVal} (hg : getRow h p v = some (e, m, rows)) (ht : ∀ i, t1 i = t i ∨ (i ∈ ms ∧ Fz h p v (t i) (t1 i))) : Weak C ms t h t1 (h.set p .dead) := by
 refine ⟨fun i hi => (ht i).elim id fun ⟨h1, _⟩ => absurd h1 hi, fun B k S μ w a f r => ?_⟩
 obtain ⟨μ', st, f1⟩ := f.letgo hg
 refine ⟨_, μ', st, f1, r.1, r.2.1, fun i hi => ?_⟩
 rcases ht i with h1 | ⟨_, h1⟩
 ·rw [h1]; exact (r.2.2 i hi).mono st
 ·exact h1.rep f st (r.2.2 i hi)
theorem Weak.fzIn {ms : List Nat} {t1 : Env} (p v q v' : Nat) {e m e' m' : Nat} {rows xs : List AVal} (ys : List AVal) (hg : getRow h p v = some (e, m, rows)) (hne : p ≠ q) (hq : getRow h q v' = some (e', m', xs))
  (hl : ys.length ≤ xs.length) (hc : ∀ (i : Nat) (x y : AVal), xs[i]? = some x → ys[i]? = some y → x.cells.length = y.cells.length ∧
   ∀ (j : Nat) (c d : AVal), x.cells[j]? = some c → y.cells[j]? = some d → Fz h p v c d ∧ d.sto = true)
  (ht : ∀ i, t1 i = t i ∨ (i ∈ ms ∧ Fz h p v (t i) (t1 i))) : Weak C ms t h t1 ((h.set p .dead).set q (.row e' m' v' ys)) := by
 refine ⟨fun i hi => (ht i).elim id fun ⟨h1, _⟩ => absurd h1 hi, fun B k S μ w a f r => ?_⟩
 obtain ⟨μ', st, f1⟩ := f.letgo hg
 obtain ⟨mq, hmq, rq⟩ := f.row hq
 have hq1 : getRow (h.set p .dead) q v' = some (e', m', xs) := by
  have := getRow_some hq
  unfold getRow
  rw [List.getElem?_set_ne hne, this]; simp
 obtain ⟨mb, hm, rf⟩ := f1.row hq1
 have hset : List.set μ' q mb = μ' := by
  obtain ⟨hlt, he⟩ := List.getElem?_eq_some_iff.1 hm
  rw [← he, List.set_getElem_self]
 have at_ : ∀ (i : Nat) (y : AVal), ys[i]? = some y → ∃ x, xs[i]? = some x := by
  intro i y hi
  have hlt := (List.getElem?_eq_some_iff.1 hi).1
  exact ⟨_, List.getElem?_eq_getElem (by omega)⟩
 have cat : ∀ (i : Nat) (y : AVal) (j : Nat) (d : AVal), ys[i]? = some y → y.cells[j]? = some d → ∃ x c, xs[i]? = some x ∧ x.cells[j]? = some c ∧ Fz h p v c d ∧ d.sto = true := by
  intro i y j d hi hj
  obtain ⟨x, hx⟩ := at_ i y hi
  obtain ⟨h1, h2⟩ := hc i x y hx hi
  have hlt := (List.getElem?_eq_some_iff.1 hj).1
  have hxj := List.getElem?_eq_getElem (show j < x.cells.length by omega)
  exact ⟨x, _, hx, hxj, h2 j _ d hxj hj⟩
 -- where the other row lies is as it was
 have hmm : mb = mq := by
  obtain ⟨m2, h2, h3, h4⟩ := st.map q mq hmq
  rw [hm] at h2; cases h2
  exact h4 (by rw [rf.hver, rq.hver])
 subst hmm
 have key : BlkFits w (LetP S μ w p) (List.set μ' q mb) mb (.row e' m' v' ys) := by
  rw [hset]
  refine ⟨rf.hver, rf.hsize, rf.pos, fun i y hi => ?_, fun i y j d hi hj => ?_, ?_⟩
  ·obtain ⟨x, hx⟩ := at_ i y hi
   rw [← (hc i x y hx hi).1]; exact rf.lens i x hx
  ·obtain ⟨x, c, _, _, _, h4⟩ := cat i y j d hi hj
   exact h4
  ·rcases rq.lies with ⟨h1, h2⟩ | ⟨b, cur, h1, h2, h3, h4, h5, h6⟩
   ·subst h2
    exact .inl ⟨h1, List.length_eq_zero_iff.1 (by simpa using hl)⟩
   ·refine .inr ⟨b, cur, h1, h2, h3, by omega, h5, fun i y j d hi hj => ?_⟩
    obtain ⟨x, c, hx, hxj, hz, _⟩ := cat i y j d hi hj
    obtain ⟨u, hu, hr⟩ := h6 i x j c hx hxj
    exact ⟨u, hu, hz.rep f st hr⟩
 obtain ⟨f2, st2⟩ := f1.update (m' := mb) (k' := .row e' m' v' ys) hm (Only.refl w _) (Nat.le_refl _) (fun _ => rfl) (.inl rfl) key
 refine ⟨_, _, st.trans st2, f2, r.1, r.2.1, fun i hi => ?_⟩
 rcases ht i with h1 | ⟨_, h1⟩
 ·rw [h1]; exact (r.2.2 i hi).mono (st.trans st2)
 ·exact (h1.rep f st (r.2.2 i hi)).mono st2
theorem Weak.rowTake {ms : List Nat} (p v k : Nat) {e m : Nat} {rows : List AVal} (hg : getRow h p v = some (e, m, rows)) : Weak C ms t h t (h.set p (.row e m v (rows.take k))) := by
 refine ⟨fun _ _ => rfl, fun B n S μ w a f r => ?_⟩
 obtain ⟨mb, hm, rf⟩ := f.row hg
 have hset : List.set μ p mb = μ := by
  obtain ⟨hlt, he⟩ := List.getElem?_eq_some_iff.1 hm
  rw [← he, List.set_getElem_self]
 have at_ : ∀ (i : Nat) (y : AVal), (rows.take k)[i]? = some y → rows[i]? = some y := fun i y hi => takeGet hi
 have key : BlkFits w S (List.set μ p mb) mb (.row e m v (rows.take k)) := by
  rw [hset]
  refine ⟨rf.hver, rf.hsize, rf.pos, fun i y hi => rf.lens i y (at_ i y hi), fun i y j d hi hj => rf.sto i y j d (at_ i y hi) hj, ?_⟩
  rcases rf.lies with ⟨h1, h2⟩ | ⟨b, cur, h1, h2, h3, h4, h5, h6⟩
  ·subst h2
   exact .inl ⟨h1, by simp⟩
  ·exact .inr ⟨b, cur, h1, h2, h3, ⟨h4.1, by simp; omega⟩, h5, fun i y j d hi hj => h6 i y j d (at_ i y hi) hj⟩
 obtain ⟨f2, st2⟩ := f.update (m' := mb) (k' := .row e m v (rows.take k)) hm (Only.refl w _) (Nat.le_refl _) (fun _ => rfl) (.inl rfl) key
 exact ⟨S, _, st2, f2, r.mono st2⟩
end
end Go.Av
namespace Go.Av
open Go Go.Proofs Go.RowKit
attribute [local irreducible] WP WPl WPix Sat
set_option maxRecDepth 100000
set_option maxHeartbeats 1000000
structure FrzR (h : Heap) (n : Nat) (r s : AVal) : Prop where
 all : Frz h n r s
 len : r.cells.length = s.cells.length
 sto : ∀ d ∈ s.cells, d.sto = true
 cell : ∀ (j : Nat) (c d : AVal), r.cells[j]? = some c → s.cells[j]? = some d → Frz h n c d
theorem Frz.rows {h : Heap} {n q v e m : Nat} {rows es : List AVal} {len : Nat} {room : Bool} (hq : n ≤ q) (hg : getRow h q v = some (e, m, rows)) (hlen : len = rows.length) (hl : es.length = rows.length)
  (hp : ∀ (i : Nat) (r s : AVal), rows[i]? = some r → es[i]? = some s → FrzR h n r s) : Frz h n (.hs q v 0 len room) (.sl m es) := by
 subst hlen
 have := Frz.hs (h := h) (n := n) q v 0 rows.length room e m rows es hq hg (by omega) hl (fun i r s hr hs => (hp i r s hr hs).all)
  (fun i r s hr hs => ⟨(hp i r s hr hs).len, fun j c d _ hd => (hp i r s hr hs).sto d (List.mem_of_getElem? hd)⟩) (fun i r s j c d hr hs hc hd => (hp i r s hr hs).cell j c d hc hd)
 rw [List.drop_zero, ← hl, List.take_length] at this
 rw [← hl]; exact this
theorem FrzR.clo {h : Heap} {n : Nat} {r : AVal} (hc : Clo n r) (hs : ∀ d ∈ r.cells, d.sto = true) : FrzR h n r r :=
 ⟨.clo _ hc, rfl, hs, fun j c d h1 h2 => by rw [h1] at h2; cases h2; exact .clo _ (hc.cells c (List.mem_of_getElem? h1))⟩
theorem FrzR.agg {h : Heap} {n : Nat} {cs ds : List AVal} (hl : cs.length = ds.length) (hs : ∀ d ∈ ds, d.sto = true) (hc : ∀ (i : Nat) (c d : AVal), cs[i]? = some c → ds[i]? = some d → Frz h n c d) : FrzR h n (.agg cs) (.agg ds) :=
 ⟨.agg _ _ hl hs hc, hl, hs, hc⟩
inductive FrzL (h : Heap) (n : Nat) : List AVal → List AVal → Prop
 | nil : FrzL h n [] []
 | cons {c d : AVal} {cs ds : List AVal} : Frz h n c d → FrzL h n cs ds → FrzL h n (c :: cs) (d :: ds)
theorem FrzL.len {h : Heap} {n : Nat} {cs ds : List AVal} (z : FrzL h n cs ds) : cs.length = ds.length := by induction z with | nil => rfl | cons _ _ ih => simp [ih]
theorem FrzL.at_ {h : Heap} {n : Nat} {cs ds : List AVal} (z : FrzL h n cs ds) : ∀ (i : Nat) (c d : AVal), cs[i]? = some c → ds[i]? = some d → Frz h n c d := by
 induction z with
 | nil => intro i c d h1; simp at h1
 | cons z _ ih =>
  intro i c d h1 h2
  match i with
  | 0 => simp at h1 h2; subst h1; subst h2; exact z
  | i + 1 => exact ih i c d (by simpa using h1) (by simpa using h2)
theorem FrzL.agg {h : Heap} {n : Nat} {cs ds : List AVal} (z : FrzL h n cs ds) (hs : ds.all AVal.sto = true) : Frz h n (.agg cs) (.agg ds) := .agg _ _ z.len (List.all_eq_true.1 hs) z.at_
theorem FrzL.tup {h : Heap} {n : Nat} {cs ds : List AVal} (z : FrzL h n cs ds) : Frz h n (.tup cs) (.tup ds) := .tup _ _ z.len z.at_
theorem FrzL.row {h : Heap} {n : Nat} {cs ds : List AVal} (z : FrzL h n cs ds) (hs : ds.all AVal.sto = true) : FrzR h n (.agg cs) (.agg ds) := .agg z.len (List.all_eq_true.1 hs) z.at_
inductive FrzRs (h : Heap) (n : Nat) : List AVal → List AVal → Prop
 | nil : FrzRs h n [] []
 | cons {c d : AVal} {cs ds : List AVal} : FrzR h n c d → FrzRs h n cs ds → FrzRs h n (c :: cs) (d :: ds)
theorem FrzRs.len {h : Heap} {n : Nat} {cs ds : List AVal} (z : FrzRs h n cs ds) : cs.length = ds.length := by induction z with | nil => rfl | cons _ _ ih => simp [ih]
theorem FrzRs.at_ {h : Heap} {n : Nat} {cs ds : List AVal} (z : FrzRs h n cs ds) : ∀ (i : Nat) (c d : AVal), cs[i]? = some c → ds[i]? = some d → FrzR h n c d := by
 induction z with
 | nil => intro i c d h1; simp at h1
 | cons z _ ih =>
  intro i c d h1 h2
  match i with
  | 0 => simp at h1 h2; subst h1; subst h2; exact z
  | i + 1 => exact ih i c d (by simpa using h1) (by simpa using h2)
theorem FrzRs.hs {h : Heap} {n q v e m : Nat} {rows es : List AVal} {len : Nat} {room : Bool} (hg : getRow h q v = some (e, m, rows)) (hlen : len = rows.length) (hq : n ≤ q) (z : FrzRs h n rows es) : Frz h n (.hs q v 0 len room) (.sl m es) :=
 Frz.rows hq hg hlen z.len.symm z.at_
theorem Frz.data {h : Heap} {n q v e m : Nat} {rows : List AVal} {len : Nat} {room : Bool} (hq : n ≤ q) (hg : getRow h q v = some (e, m, rows)) (hlen : len = rows.length) (hc : ∀ r ∈ rows, Clo n r) (hs : ∀ r ∈ rows, ∀ c ∈ r.cells, c.sto = true) : Frz h n (.hs q v 0 len room) (.sl m rows) :=
 Frz.rows hq hg hlen rfl fun i r s hr hs' => by rw [hr] at hs'; cases hs'; exact FrzR.clo (hc r (List.mem_of_getElem? hr)) (hs r (List.mem_of_getElem? hr))
theorem At.cells_sto (e : At) : ∀ c ∈ e.av.cells, c.sto = true := by
 rw [At.av_cells]; intro c hc; simp only [List.mem_cons, List.mem_nil_iff, or_false] at hc; rcases hc with rfl | rfl <;> rfl
theorem Frz.ats {h : Heap} {n q v e : Nat} {l : List At} {len : Nat} {room : Bool} (hq : n ≤ q) (hg : getRow h q v = some (e, 2, l.map At.av)) (hlen : len = l.length) : Frz h n (.hs q v 0 len room) (.sl 2 (l.map At.av)) :=
 Frz.data hq hg (by simpa using hlen) (fun r hr => by obtain ⟨a, _, rfl⟩ := List.mem_map.1 hr; exact At.clo _ a) (fun r hr => by obtain ⟨a, _, rfl⟩ := List.mem_map.1 hr; exact At.cells_sto a)
variable (G : Nat → Option (List AVal))
theorem IndexFuncH_sat (p : At → Bool) (g : FuncId) (cap : List AVal) (h : Heap) (hg : ∀ a : At, Sat (CT G) g ([] ++ [a.av] ++ cap) h (fun r h' => r = .bool (p a) ∧ h' = h)) (l : List At) (q v : Nat) (hrow : getRow h q v = some (67, 2, l.map At.av)) (hl : l.length ≤ 1073741824) :
  Sat (CT G) 50 [.hs q v 0 l.length true, .fn (.func g) [] cap] h
   (fun r h' => r = .int .i64 (idxG p l) ∧ h' = h) := by
 have F := @hrow
 refine sb [.tmp 4] (fn := Tryz.f50) Tryz.func50 ?_
 intro Q hQ
 refine wko F ?_
 refine lm (fun nL tL hL => ∃ (k : Nat), l.length - k = nL ∧ h = hL ∧ tL 8 = .int .i64 k ∧ k ≤ l.length ∧ ∀ a ∈ l.take k, p a = false) ((fun (k : Nat) => (l.length - k : Nat)) (0)) ?_ ?_
 ·refine Wkn.refl ⟨0, rfl, hpE, ?_, Nat.zero_le _, by simp⟩
  all_goals first | exact zqo F | rfl | omega | trivial | skip
 rintro _ s2 h' ⟨k, rfl, rfl, e8, hk, hp⟩ K2 hK2
 simp only [mix_cons, mix_nil, Nat.reduceEqDiff, ↓reduceIte] at e8
 have F := F2 F e8
 refine wko F ?_
 refine cqo F (fun hc => ?_) (fun hc => ?_) <;> (try exact hc.elim)
 ·obtain ⟨y, hy, hym⟩ := getElem?_of_lt hc
  have F := F2 F hy
  refine wko F ?_
  refine ⟨hc, ?_⟩
  refine kqo F (hg y) ?_
  refine cqo F (fun hq => ?_) (fun hq => ?_) <;> (try exact hq.elim) <;> (refine wko F ?_)
  ·refine eeo hQ F ?_
   have e : idxG p l = k := by
    unfold idxG
    have : l.findIdx? p = some k := by
     rw [List.findIdx?_eq_some_iff_getElem]
     refine ⟨hc, ?_, ?_⟩
     ·rw [List.getElem?_eq_getElem hc] at hy; cases hy; exact hq
     ·intro i hi
      rw [hp _ (by rw [List.mem_take_iff_getElem]; exact ⟨i, by omega, rfl⟩)]; simp
    rw [this]
   rw [e]
   exact Fin.plainE (j := []) (List.append_nil _).symm (.int _ _) ⟨rfl, rfl⟩
  ·have hp1 : ∀ a ∈ l.take (k + 1), p a = false := by
    rw [List.take_add_one, hy]
    intro a ha
    simp at ha
    rcases ha with ha | rfl
    ·exact hp a ha
    ·exact hq
   refine hK2 _ _ _ (Wkn.refl ⟨k + 1, rfl, hpE, ?_, by omega, hp1⟩) (by omega)
   all_goals first | exact zqo F | rfl | omega | trivial | skip
 ·refine wko F ?_
  refine eeo hQ F ?_
  have e : idxG p l = -1 := by
   unfold idxG
   have : l.findIdx? p = none := by
    rw [List.findIdx?_eq_none_iff]
    intro a ha
    exact hp a (by rwa [List.take_of_length_le hc])
   rw [this]
  rw [e]
  exact Fin.plainE (j := []) (List.append_nil _).symm (.int _ _) ⟨rfl, rfl⟩
theorem ContainsFuncH_sat (p : At → Bool) (g : FuncId) (cap : List AVal) (h : Heap) (hg : ∀ a : At, Sat (CT G) g ([] ++ [a.av] ++ cap) h (fun r h' => r = .bool (p a) ∧ h' = h)) (l : List At) (q v : Nat) (hrow : getRow h q v = some (67, 2, l.map At.av)) (hl : l.length ≤ 1073741824) :
  Sat (CT G) 156 [.hs q v 0 l.length true, .fn (.func g) [] cap] h
   (fun r h' => r = .bool (l.any p) ∧ h' = h) := by
 refine sb [.tmp 4] (fn := Tryz.f156) Tryz.func156 ?_
 intro Q hQ
 refine wko trivial ?_
 refine kqo trivial (IndexFuncH_sat G p g cap h hg l q v hrow hl) ?_
 refine eeo hQ trivial ?_
 rw [idxG_any] at *
 exact Fin.plainE (j := []) (List.append_nil _).symm (.bool _) ⟨rfl, rfl⟩
theorem namedH_sat (l : List At) (w : Bs) (h : Heap) (q v : Nat) (hrow : getRow h q v = some (67, 2, l.map At.av)) (hl : l.length ≤ 1073741824) : Sat (CT G) 131 [.hs q v 0 l.length true, .str w] h
  (fun r h' => r = .bool (l.any fun a => a.1 == w) ∧ h' = h) := by
 refine sb [.tmp 4] (fn := Tryz.f131) Tryz.func131 ?_
 intro Q hQ
 refine wko trivial ?_
 refine kqo trivial (ContainsFuncH_sat G (fun a => a.1 == w) 157 [.hp h.length 0 0 0] _ (fun a => named1_sat G a w h) l q v (getRow_old hrow) hl) ?_
 refine eeo hQ trivial ?_
 exact Fin.plainE (j := _) rfl (.bool _) ⟨rfl, rfl⟩
end Go.Av
namespace Go.Av
open Go Go.Proofs Go.RowKit
attribute [local irreducible] WP WPl WPix Sat
set_option maxRecDepth 100000
set_option maxHeartbeats 1000000
variable (G : Nat → Option (List AVal))
def textP (c : Int) : Bool := !(decide (c = 60))
def textB (b : UInt8) : Bool := textP b.toNat
theorem text_by : ByByte textP textB true := ⟨fun _ _ => rfl, fun c hc _ => by unfold textP; simp; omega, fun b hb => by unfold textB textP; simp; omega⟩
theorem part1_sat (c : Int) (h : Heap) : Sat (CT G) 106 [.int .i32 c] h (fun r h' => r = .bool (textP c) ∧ h' = h) := by
 refine sb [.tmp 2] (fn := Tryz.f106) Tryz.func106 ?_
 intro Q hQ
 refine wko trivial ?_
 refine eeo hQ trivial ?_
 exact Fin.plainE (j := []) (List.append_nil _).symm (.bool _) ⟨by unfold textP; rfl, rfl⟩
end Go.Av
namespace Go.Av
open Go Go.Proofs Go.RowKit
attribute [local irreducible] WP WPl WPix Sat
set_option maxRecDepth 100000
set_option maxHeartbeats 1000000
variable (G : Nat → Option (List AVal))
def openL : Nat → Bs → List At → Bs → Bool → List Tok × Bs × Bool
 | 0, _, _, s, _ => ([], s, true)
 | f + 1, n, at_, s, b =>
  if b = true then ([], s, true) else
  if Lib.hasPrefix (s.dropWhile blankB) [62] = true then ([(1, n, at_, [])], Lib.trimPrefix (s.dropWhile blankB) [62], false) else
  if Lib.hasPrefix (s.dropWhile blankB) [47, 62] = true then ([(1, n, at_, []), (2, n, [], [])], Lib.trimPrefix (s.dropWhile blankB) [47, 62], false) else
  openL f n (at_ ++ [(attrX (s.dropWhile blankB) false).1]) (attrX (s.dropWhile blankB) false).2.1
   ((((attrX (s.dropWhile blankB) false).2.2 || s.takeWhile blankB == []) || at_.any fun a => a.1 == (attrX (s.dropWhile blankB) false).1.1) || decide (32 ≤ at_.length))
theorem uptoF_less (w s : Bs) (b : Bool) : (uptoF w s b).2.1.length ≤ s.length := (uptoF_len w s b).2
theorem value_len (s : Bs) (b : Bool) : (valueF s b).2.1.length ≤ s.length := by
 have h1 := trim_len s (if Lib.hasPrefix s [34] = true then [34] else [39])
 have h2 := uptoF_less (if Lib.hasPrefix s [34] = true then [34] else [39]) (Lib.trimPrefix s (if Lib.hasPrefix s [34] = true then [34] else [39])) (b || !Lib.hasPrefix s (if Lib.hasPrefix s [34] = true then [34] else [39]))
 show (uptoF _ _ _).2.1.length ≤ _
 omega
theorem bad_name_empty (s : Bs) (h : badN (nameW s) = false) : (nameR s).length < s.length := by
 have h1 : (nameW s).length + (nameR s).length = s.length := by
  have := congrArg List.length (List.takeWhile_append_dropWhile (p := moreB) (l := s))
  rw [List.length_append] at this; exact this
 cases hn : nameW s with
 | nil => rw [hn] at h; cases h
 | cons c t => rw [hn] at h1; simp at h1; omega
theorem attrX_len (s : Bs) (b : Bool) : (attrX s b).2.1.length ≤ (nameR s).length := by
 have h2 := drop_len blankB (nameR s)
 have h3 := trim_len ((nameR s).dropWhile blankB) [61]
 have h4 := drop_len blankB (Lib.trimPrefix ((nameR s).dropWhile blankB) [61])
 unfold attrX
 simp only []
 split
 ·simp only []; omega
 ·have := value_len ((Lib.trimPrefix ((nameR s).dropWhile blankB) [61]).dropWhile blankB) (b || badN (nameW s) || !Lib.hasPrefix ((nameR s).dropWhile blankB) [61])
  simp only []; omega
theorem uptoF_bad (w s : Bs) : (uptoF w s true).2.2 = true := by unfold uptoF; split <;> rfl
theorem attrX_good (s : Bs) (h : (attrX s false).2.2 = false) : badN (nameW s) = false := by
 cases hb : badN (nameW s) with
 | false => rfl
 | true =>
  exfalso
  unfold attrX at h
  simp only [hb, Bool.or_true, Bool.true_or, if_true] at h
  cases h
theorem attrX_less (s : Bs) (h : (attrX s false).2.2 = false) : (attrX s false).2.1.length < s.length := by
 have h1 := attrX_len s false
 have h2 := bad_name_empty s (attrX_good s h)
 omega
def openF (s : Bs) : List Tok × Bs × Bool := openL (s.length + 3) (nameW s) [] (nameR s) (badN (nameW s))
def tkR (n : Bs) (q v len : Nat) : Blk := .row 83 4 0 [.agg [.int .i64 1, .str n, .hs q v 0 len true, .str []]]
def atR (v : Nat) (l : List At) : Blk := .row 67 2 v (l.map At.av)
@[go_sem] theorem getRow_tkR (n : Bs) (q v len : Nat) (l : Heap) : getRow (tkR n q v len :: l) 0 0 = some (83, 4, [.agg [.int .i64 1, .str n, .hs q v 0 len true, .str []]]) := rfl
@[go_sem] theorem getRow_tkRs (n : Bs) (q v len : Nat) (l : Heap) (k u : Nat) : getRow (tkR n q v len :: l) (k + 1) u = getRow l k u := rfl
@[go_sem] theorem getRow_atR (v : Nat) (l : List At) (j : Heap) : getRow (atR v l :: j) 0 v = some (67, 2, l.map At.av) := by simp [getRow, atR]
@[go_sem] theorem getRow_atRs (v : Nat) (l : List At) (j : Heap) (k u : Nat) : getRow (atR v l :: j) (k + 1) u = getRow j k u := rfl
theorem tok_frz {H : Heap} {n q v e : Nat} (k : Int) (nm : Bs) (l : List At) (hg : getRow H q v = some (e, 2, l.map At.av)) (hq : n ≤ q) : FrzR H n (.agg [.int .i64 k, .str nm, .hs q v 0 l.length true, .str []]) (Tok.av (k, nm, l, [])) :=
 FrzL.row (.cons (.clo _ (.int _ _)) (.cons (.clo _ (.str _)) (.cons (Frz.ats hq hg rfl) (.cons (.clo _ (.str _)) .nil)))) rfl
theorem tok_frz0 {H : Heap} {n : Nat} (k : Int) (nm : Bs) : FrzR H n (.agg [.int .i64 k, .str nm, .nil (.slice none 0 0), .str []]) (Tok.av (k, nm, [], [])) :=
 FrzL.row (.cons (.clo _ (.int _ _)) (.cons (.clo _ (.str _)) (.cons (.nils _) (.cons (.clo _ (.str _)) .nil)))) rfl
theorem open_sat (hG : GOk G) (s : Bs) (hs : s.length ≤ 1048576) (h j : Heap) : Sat (CT G) 103 [.hp h.length 0 0 0] (rdH h j s false)
  (fun r h' => r = .sl 4 ((openF s).1.map Tok.av) ∧ h' = rdH h j (openF s).2.1 (openF s).2.2) := by
 have h1 : (nameR s).length ≤ s.length := drop_len _ _
 have c1 : ∀ s b l, s.length ≤ 1048576 → Sat (CT G) 128 [.hp h.length 0 0 0] (rdH h j s b ++ l) _ := fun s b l hs => sat_app G (l := l) fun j => blank_sat G s b (by omega) h j
 have c2 : ∀ w s b l, Sat (CT G) 98 [.hp h.length 0 0 0, .str w] (rdH h j s b ++ l) _ := fun w s b l => sat_app G (l := l) fun j => take_sat G w s b h j
 have c3 : ∀ s b l, s.length ≤ 1048576 → Sat (CT G) 130 [.hp h.length 0 0 0] (rdH h j s b ++ l) _ := fun s b l hs => sat_app G (l := l) fun j => attr_sat G hG s b hs h j
 have end_ := fun (jj : Heap) (x : AVal) => rd_finF h j jj (openF s).2.1 s (openF s).2.2 false (x := x) (y := .sl 4 ((openF s).1.map Tok.av)) rfl
 skip
 refine sb [.tmp 2] (fn := Tryz.f103) Tryz.func103 ?_
 intro Q hQ
 (repeat (first | refine w1 (fun K hK => ?_) | refine w2 ?_ | refine w3 ?_ | ((first | refine w4 ?_ | refine wD ?_ | refine w5 ?_ | refine w6 ?_ | refine w7 ?_); try refine sq trivial ?_) | (refine w8 ?_; refine sq trivial ?_; refine w9 ?_) | (refine xq trivial ?_; try refine sq trivial ?_) | ((first | refine hK _ _ (w0 ?_) | (clear hK K; refine hK _ _ (w0 ?_)) | (clear hK K; clear hK K; refine hK _ _ (w0 ?_))); clear hK K)))
 refine (name_sat G s false (by omega) h j).mono ?_
 rintro r h' ⟨rfl, rfl⟩
 try refine sq trivial ?_
 (repeat (first | refine w1 (fun K hK => ?_) | refine w2 ?_ | refine w3 ?_ | ((first | refine w4 ?_ | refine wD ?_ | refine w5 ?_ | refine w6 ?_ | refine w7 ?_); try refine sq trivial ?_) | (refine w8 ?_; refine sq trivial ?_; refine w9 ?_) | (refine xq trivial ?_; try refine sq trivial ?_) | ((first | refine hK _ _ (w0 ?_) | (clear hK K; refine hK _ _ (w0 ?_)) | (clear hK K; clear hK K; refine hK _ _ (w0 ?_))); clear hK K)))
 refine lm (fun nL tL hL => ∃ (f v : Nat) (s1 : Bs) (b : Bool) (at_ : List At) (jj : Heap), f = nL ∧ rdH h j s1 b ++ tkR (nameW s) (h.length + (1 + (j.length + 1))) v at_.length :: atR v at_ :: jj = hL ∧ tL 0 = .hp h.length 0 0 0 ∧ tL 3 = .hp (h.length + (1 + j.length)) 0 0 0 ∧ s1.length ≤ s.length ∧ (1 ≤ f ∧ (b = false → s1.length + 2 ≤ f)) ∧ openL f (nameW s) at_ s1 b = openF s ∧ ((b = false → at_.length ≤ 32))) ((fun (f v : Nat) (s1 : Bs) (b : Bool) (at_ : List At) (jj : Heap) => (f : Nat)) ((s.length + 3)) (0) ((nameR s)) (badN (nameW s)) ([]) ([])) ?_ ?_
 ·refine ⟨_, _, Weak.virtCell (p := h.length + (1 + j.length)) (v := 0) 67 2 (by omega) (by simp (disch := first | omega | (simp only [go_sem, ↓reduceIte, seval]; first | done | omega) | fail) only [go_sem, ↓reduceIte, seval]; rfl) 2 rfl, ⟨(s.length + 3), 0, (nameR s), badN (nameW s), [], [], rfl, (by rw [set_rdHz]; simp [rdH_len, tkR, atR, Nat.add_assoc]), ?_, ?_, h1, ⟨by omega, fun _ => by omega⟩, rfl, fun _ => by simp⟩⟩
  all_goals first | exact zq trivial | rfl | omega | trivial | skip
 rintro _ s2 h' ⟨f, v, s1, b, at_, jj, rfl, rfl, e0, e3, hs1, hf, hp, ha⟩ K2 hK2
 simp only [mix_cons, mix_nil, Nat.reduceEqDiff, ↓reduceIte] at e0 e3
 have F := F2 e0 e3
 (repeat (first | refine w1 (fun K hK => ?_) | refine w2 ?_ | refine w3 ?_ | ((first | refine w4 ?_ | refine wD ?_ | refine w5 ?_ | refine w6 ?_ | refine w7 ?_); try refine sq F ?_) | (refine w8 ?_; refine sq F ?_; refine w9 ?_) | (refine xq F ?_; try refine sq F ?_) | ((first | refine hK _ _ (w0 ?_) | (clear hK K; refine hK _ _ (w0 ?_)) | (clear hK K; clear hK K; refine hK _ _ (w0 ?_))); clear hK K)))
 refine cq F (fun hc => ?_) (fun hc => ?_) <;> (try exact hc.elim) <;> ((repeat (first | refine w1 (fun K hK => ?_) | refine w2 ?_ | refine w3 ?_ | ((first | refine w4 ?_ | refine wD ?_ | refine w5 ?_ | refine w6 ?_ | refine w7 ?_); try refine sq F ?_) | (refine w8 ?_; refine sq F ?_; refine w9 ?_) | (refine xq F ?_; try refine sq F ?_) | ((first | refine hK _ _ (w0 ?_) | (clear hK K; refine hK _ _ (w0 ?_)) | (clear hK K; clear hK K; refine hK _ _ (w0 ?_))); clear hK K))))
 ·subst hc
  obtain ⟨g, rfl⟩ : ∃ g, f = g + 1 := ⟨f - 1, by omega⟩
  have hd := drop_len blankB s1
  rw [openL, if_neg (by simp)] at hp
  have hf2 := hf.2 rfl
  have ha2 := ha rfl
  (repeat (first | refine w1 (fun K hK => ?_) | refine w2 ?_ | refine w3 ?_ | ((first | refine w4 ?_ | refine wD ?_ | refine w5 ?_ | refine w6 ?_ | refine w7 ?_); try refine sq F ?_) | (refine w8 ?_; refine sq F ?_; refine w9 ?_) | (refine xq F ?_; try refine sq F ?_) | ((first | refine hK _ _ (w0 ?_) | (clear hK K; refine hK _ _ (w0 ?_)) | (clear hK K; clear hK K; refine hK _ _ (w0 ?_))); clear hK K)))
  refine (c1 _ _ _ (by omega)).mono ?_
  rintro r h' ⟨rfl, rfl⟩
  try refine sq F ?_
  (repeat (first | refine w1 (fun K hK => ?_) | refine w2 ?_ | refine w3 ?_ | ((first | refine w4 ?_ | refine wD ?_ | refine w5 ?_ | refine w6 ?_ | refine w7 ?_); try refine sq F ?_) | (refine w8 ?_; refine sq F ?_; refine w9 ?_) | (refine xq F ?_; try refine sq F ?_) | ((first | refine hK _ _ (w0 ?_) | (clear hK K; refine hK _ _ (w0 ?_)) | (clear hK K; clear hK K; refine hK _ _ (w0 ?_))); clear hK K)))
  refine (c2 [62] _ _ _).mono ?_
  rintro r h' ⟨rfl, rfl⟩
  try refine sq F ?_
  (repeat (first | refine w1 (fun K hK => ?_) | refine w2 ?_ | refine w3 ?_ | ((first | refine w4 ?_ | refine wD ?_ | refine w5 ?_ | refine w6 ?_ | refine w7 ?_); try refine sq F ?_) | (refine w8 ?_; refine sq F ?_; refine w9 ?_) | (refine xq F ?_; try refine sq F ?_) | ((first | refine hK _ _ (w0 ?_) | (clear hK K; refine hK _ _ (w0 ?_)) | (clear hK K; clear hK K; refine hK _ _ (w0 ?_))); clear hK K)))
  refine cq F (fun hc1 => ?_) (fun hc1 => ?_) <;> (try exact hc1.elim) <;> ((repeat (first | refine w1 (fun K hK => ?_) | refine w2 ?_ | refine w3 ?_ | ((first | refine w4 ?_ | refine wD ?_ | refine w5 ?_ | refine w6 ?_ | refine w7 ?_); try refine sq F ?_) | (refine w8 ?_; refine sq F ?_; refine w9 ?_) | (refine xq F ?_; try refine sq F ?_) | ((first | refine hK _ _ (w0 ?_) | (clear hK K; refine hK _ _ (w0 ?_)) | (clear hK K; clear hK K; refine hK _ _ (w0 ?_))); clear hK K))))
  ·rw [if_pos hc1] at hp
   refine ee hQ F ?_
   rw [← hp]
   refine rd_finF h j _ _ s _ false rfl ?_
   exact FrzRs.hs (by simp (disch := first | omega | (simp only [go_sem, ↓reduceIte, seval]; first | done | omega) | fail) only [go_sem, ↓reduceIte, seval, F]; rfl) rfl (by simp (disch := first | omega | (simp only [go_sem, ↓reduceIte, seval]; first | done | omega) | fail) only [go_sem, ↓reduceIte, seval, F]; omega) (.cons (tok_frz 1 _ at_ (by simp (disch := first | omega | (simp only [go_sem, ↓reduceIte, seval]; first | done | omega) | fail) only [go_sem, ↓reduceIte, seval, F]; rfl) (by simp (disch := first | omega | (simp only [go_sem, ↓reduceIte, seval]; first | done | omega) | fail) only [go_sem, ↓reduceIte, seval, F]; omega)) .nil)
  ·rw [if_neg (by simp [hc1])] at hp
   have htp : Lib.trimPrefix (s1.dropWhile blankB) [62] = s1.dropWhile blankB := by unfold Lib.trimPrefix; rw [if_neg (by simp [hc1])]
   rw [htp]
   refine (c2 [47, 62] _ _ _).mono ?_
   rintro r h' ⟨rfl, rfl⟩
   try refine sq F ?_
   (repeat (first | refine w1 (fun K hK => ?_) | refine w2 ?_ | refine w3 ?_ | ((first | refine w4 ?_ | refine wD ?_ | refine w5 ?_ | refine w6 ?_ | refine w7 ?_); try refine sq F ?_) | (refine w8 ?_; refine sq F ?_; refine w9 ?_) | (refine xq F ?_; try refine sq F ?_) | ((first | refine hK _ _ (w0 ?_) | (clear hK K; refine hK _ _ (w0 ?_)) | (clear hK K; clear hK K; refine hK _ _ (w0 ?_))); clear hK K)))
   refine cq F (fun hc2 => ?_) (fun hc2 => ?_) <;> (try exact hc2.elim) <;> ((repeat (first | refine w1 (fun K hK => ?_) | refine w2 ?_ | refine w3 ?_ | ((first | refine w4 ?_ | refine wD ?_ | refine w5 ?_ | refine w6 ?_ | refine w7 ?_); try refine sq F ?_) | (refine w8 ?_; refine sq F ?_; refine w9 ?_) | (refine xq F ?_; try refine sq F ?_) | ((first | refine hK _ _ (w0 ?_) | (clear hK K; refine hK _ _ (w0 ?_)) | (clear hK K; clear hK K; refine hK _ _ (w0 ?_))); clear hK K))))
   ·rw [if_pos hc2] at hp
    refine ee hQ F ?_
    rw [← hp]
    refine rd_finF h j _ _ s _ false rfl ?_
    exact FrzRs.hs (by simp (disch := first | omega | (simp only [go_sem, ↓reduceIte, seval]; first | done | omega) | fail) only [go_sem, ↓reduceIte, seval, F]; rfl) rfl (by simp (disch := first | omega | (simp only [go_sem, ↓reduceIte, seval]; first | done | omega) | fail) only [go_sem, ↓reduceIte, seval, F]; omega) (.cons (tok_frz 1 _ at_ (by simp (disch := first | omega | (simp only [go_sem, ↓reduceIte, seval]; first | done | omega) | fail) only [go_sem, ↓reduceIte, seval, F]; rfl) (by simp (disch := first | omega | (simp only [go_sem, ↓reduceIte, seval]; first | done | omega) | fail) only [go_sem, ↓reduceIte, seval, F]; omega)) (.cons (tok_frz0 2 _) .nil))
   ·rw [if_neg (by simp [hc2])] at hp
    have htp2 : Lib.trimPrefix (s1.dropWhile blankB) [47, 62] = s1.dropWhile blankB := by unfold Lib.trimPrefix; rw [if_neg (by simp [hc2])]
    rw [htp2]
    refine (c3 _ _ _ (by omega)).mono ?_
    rintro r h' ⟨rfl, rfl⟩
    try refine sq F ?_
    (repeat (first | refine w1 (fun K hK => ?_) | refine w2 ?_ | refine w3 ?_ | ((first | refine w4 ?_ | refine wD ?_ | refine w5 ?_ | refine w6 ?_ | refine w7 ?_); try refine sq F ?_) | (refine w8 ?_; refine sq F ?_; refine w9 ?_) | (refine xq F ?_; try refine sq F ?_) | ((first | refine hK _ _ (w0 ?_) | (clear hK K; refine hK _ _ (w0 ?_)) | (clear hK K; clear hK K; refine hK _ _ (w0 ?_))); clear hK K)))
    have hl := attrX_less (s1.dropWhile blankB)
    have hl2 := attrX_len (s1.dropWhile blankB) false
    have hl3 := drop_len moreB (s1.dropWhile blankB)
    change (nameR (s1.dropWhile blankB)).length ≤ _ at hl3
    generalize attrX (s1.dropWhile blankB) false = x at hp hl hl2 ⊢
    obtain ⟨a, r, bb⟩ := x
    simp only [] at hp hl hl2 ⊢
    skip
    (first | refine gq F (fun g1 => ?_) (fun g1 => ?_) | refine pq F (fun g1 => ?_) (fun g1 => ?_)) <;> (try exact g1.elim) <;> (try refine sq F ?_) <;> ((repeat (first | refine w1 (fun K hK => ?_) | refine w2 ?_ | refine w3 ?_ | ((first | refine w4 ?_ | refine wD ?_ | refine w5 ?_ | refine w6 ?_ | refine w7 ?_); try refine sq F ?_) | (refine w8 ?_; refine sq F ?_; refine w9 ?_) | (refine rq F ?_; try refine sq F ?_) | (refine vq F ?_; try refine sq F ?_) | ((first | refine hK _ _ (w0 ?_) | (clear hK K; refine hK _ _ (w0 ?_)) | (clear hK K; clear hK K; refine hK _ _ (w0 ?_))); clear hK K))))
    ·refine aq F ?_
     try refine sq F ?_
     (repeat (first | refine w1 (fun K hK => ?_) | refine w2 ?_ | refine w3 ?_ | ((first | refine w4 ?_ | refine wD ?_ | refine w5 ?_ | refine w6 ?_ | refine w7 ?_); try refine sq F ?_) | (refine w8 ?_; refine sq F ?_; refine w9 ?_) | (refine rq F ?_; try refine sq F ?_) | (refine vq F ?_; try refine sq F ?_) | ((first | refine hK _ _ (w0 ?_) | (clear hK K; refine hK _ _ (w0 ?_)) | (clear hK K; clear hK K; refine hK _ _ (w0 ?_))); clear hK K)))
     rw [g1, Bool.true_or, Bool.true_or, Bool.true_or] at hp
     refine hK2 _ _ _ (Wkn.refl ⟨g, v + 1, r, true, at_ ++ [a], jj ++ [.row 67 2 0 [a.av]], rfl, by simp [tkR, atR], ?_, ?_, by omega, ⟨by omega, fun h => by cases h⟩, hp, fun h => by cases h⟩) (by omega)
     all_goals first | exact zq F | rfl | omega | trivial | skip
    ·rw [g1, Bool.false_or] at hp
     (first | refine gq F (fun g2 => ?_) (fun g2 => ?_) | refine pq F (fun g2 => ?_) (fun g2 => ?_)) <;> (try exact g2.elim) <;> (try refine sq F ?_) <;> ((repeat (first | refine w1 (fun K hK => ?_) | refine w2 ?_ | refine w3 ?_ | ((first | refine w4 ?_ | refine wD ?_ | refine w5 ?_ | refine w6 ?_ | refine w7 ?_); try refine sq F ?_) | (refine w8 ?_; refine sq F ?_; refine w9 ?_) | (refine rq F ?_; try refine sq F ?_) | (refine vq F ?_; try refine sq F ?_) | ((first | refine hK _ _ (w0 ?_) | (clear hK K; refine hK _ _ (w0 ?_)) | (clear hK K; clear hK K; refine hK _ _ (w0 ?_))); clear hK K))))
     ·refine aq F ?_
      try refine sq F ?_
      (repeat (first | refine w1 (fun K hK => ?_) | refine w2 ?_ | refine w3 ?_ | ((first | refine w4 ?_ | refine wD ?_ | refine w5 ?_ | refine w6 ?_ | refine w7 ?_); try refine sq F ?_) | (refine w8 ?_; refine sq F ?_; refine w9 ?_) | (refine rq F ?_; try refine sq F ?_) | (refine vq F ?_; try refine sq F ?_) | ((first | refine hK _ _ (w0 ?_) | (clear hK K; refine hK _ _ (w0 ?_)) | (clear hK K; clear hK K; refine hK _ _ (w0 ?_))); clear hK K)))
      have e : (s1.takeWhile blankB == []) = true := by rw [g2]; rfl
      rw [e, Bool.true_or, Bool.true_or] at hp
      refine hK2 _ _ _ (Wkn.refl ⟨g, v + 1, r, true, at_ ++ [a], jj ++ [.row 67 2 0 [a.av]], rfl, by simp [tkR, atR], ?_, ?_, by omega, ⟨by omega, fun h => by cases h⟩, hp, fun h => by cases h⟩) (by omega)
      all_goals first | exact zq F | rfl | omega | trivial | skip
     ·have e : (s1.takeWhile blankB == []) = false := by simpa using g2
      rw [e, Bool.false_or] at hp
      refine (namedH_sat G at_ a.1 _ (h.length + (1 + (j.length + 1))) v (by simp (disch := first | omega | (simp only [go_sem, ↓reduceIte, seval]; first | done | omega) | fail) only [go_sem, ↓reduceIte, seval, F]) (by omega)).mono ?_
      rintro r h' ⟨rfl, rfl⟩
      try refine sq F ?_
      (repeat (first | refine w1 (fun K hK => ?_) | refine w2 ?_ | refine w3 ?_ | ((first | refine w4 ?_ | refine wD ?_ | refine w5 ?_ | refine w6 ?_ | refine w7 ?_); try refine sq F ?_) | (refine w8 ?_; refine sq F ?_; refine w9 ?_) | (refine rq F ?_; try refine sq F ?_) | (refine vq F ?_; try refine sq F ?_) | ((first | refine hK _ _ (w0 ?_) | (clear hK K; refine hK _ _ (w0 ?_)) | (clear hK K; clear hK K; refine hK _ _ (w0 ?_))); clear hK K)))
      (first | refine gq F (fun g3 => ?_) (fun g3 => ?_) | refine pq F (fun g3 => ?_) (fun g3 => ?_)) <;> (try exact g3.elim) <;> (try refine sq F ?_) <;> ((repeat (first | refine w1 (fun K hK => ?_) | refine w2 ?_ | refine w3 ?_ | ((first | refine w4 ?_ | refine wD ?_ | refine w5 ?_ | refine w6 ?_ | refine w7 ?_); try refine sq F ?_) | (refine w8 ?_; refine sq F ?_; refine w9 ?_) | (refine rq F ?_; try refine sq F ?_) | (refine vq F ?_; try refine sq F ?_) | ((first | refine hK _ _ (w0 ?_) | (clear hK K; refine hK _ _ (w0 ?_)) | (clear hK K; clear hK K; refine hK _ _ (w0 ?_))); clear hK K))))
      ·refine aq F ?_
       try refine sq F ?_
       (repeat (first | refine w1 (fun K hK => ?_) | refine w2 ?_ | refine w3 ?_ | ((first | refine w4 ?_ | refine wD ?_ | refine w5 ?_ | refine w6 ?_ | refine w7 ?_); try refine sq F ?_) | (refine w8 ?_; refine sq F ?_; refine w9 ?_) | (refine rq F ?_; try refine sq F ?_) | (refine vq F ?_; try refine sq F ?_) | ((first | refine hK _ _ (w0 ?_) | (clear hK K; refine hK _ _ (w0 ?_)) | (clear hK K; clear hK K; refine hK _ _ (w0 ?_))); clear hK K)))
       rw [g3, Bool.true_or] at hp
       refine hK2 _ _ _ (Wkn.refl ⟨g, v + 1, r, true, at_ ++ [a], jj ++ [.row 67 2 0 [a.av]], rfl, by simp [tkR, atR], ?_, ?_, by omega, ⟨by omega, fun h => by cases h⟩, hp, fun h => by cases h⟩) (by omega)
       all_goals first | exact zq F | rfl | omega | trivial | skip
      ·refine aq F ?_
       try refine sq F ?_
       (repeat (first | refine w1 (fun K hK => ?_) | refine w2 ?_ | refine w3 ?_ | ((first | refine w4 ?_ | refine wD ?_ | refine w5 ?_ | refine w6 ?_ | refine w7 ?_); try refine sq F ?_) | (refine w8 ?_; refine sq F ?_; refine w9 ?_) | (refine rq F ?_; try refine sq F ?_) | (refine vq F ?_; try refine sq F ?_) | ((first | refine hK _ _ (w0 ?_) | (clear hK K; refine hK _ _ (w0 ?_)) | (clear hK K; clear hK K; refine hK _ _ (w0 ?_))); clear hK K)))
       rw [g3, Bool.false_or] at hp
       refine hK2 _ _ _ (Wkn.refl ⟨g, v + 1, r, decide (32 ≤ at_.length), at_ ++ [a], jj ++ [.row 67 2 0 [a.av]], rfl, by simp [tkR, atR, show ((32 : Int) ≤ at_.length) ↔ 32 ≤ at_.length from by omega], ?_, ?_, by omega, ⟨by omega, fun h => by have := hl g1; omega⟩, hp, fun h => by simp only [decide_eq_false_iff_not] at h; simp; omega⟩) (by omega)
       all_goals first | exact zq F | rfl | omega | trivial | skip
 ·refine ee hQ F ?_
  subst hc
  obtain ⟨g, rfl⟩ : ∃ g, f = g + 1 := ⟨f - 1, by omega⟩
  rw [openL, if_pos rfl] at hp
  rw [← hp]
  exact rd_finF h j _ _ s _ false rfl (.nils _)
end Go.Av
namespace Go.Av
open Go Go.Proofs Go.RowKit
attribute [local irreducible] WP WPl WPix Sat
set_option maxRecDepth 100000
set_option maxHeartbeats 1000000
variable (G : Nat → Option (List AVal))
def p1 : Bs := [60, 33, 45, 45]
def p2 : Bs := [60, 63]
def p3 : Bs := [60, 33, 68, 79, 67, 84, 89, 80, 69]
def p4 : Bs := [60, 33, 91, 67, 68, 65, 84, 65, 91]
def p5 : Bs := [60, 47]
def p6 : Bs := [60]
def partF (s : Bs) : List Tok × Bs × Bool :=
 if Lib.hasPrefix s p1 = true then ([], (uptoF [45, 45, 62] (Lib.trimPrefix s p1) false).2)
 else if Lib.hasPrefix s p2 = true then ([], (uptoF [63, 62] (Lib.trimPrefix s p2) false).2)
 else if Lib.hasPrefix s p3 = true then ([], kindF (Lib.trimPrefix s p3) false)
 else if Lib.hasPrefix s p4 = true then ([(3, [], [], (uptoF [93, 93, 62] (Lib.trimPrefix s p4) false).1)], (uptoF [93, 93, 62] (Lib.trimPrefix s p4) false).2)
 else if Lib.hasPrefix s p5 = true then ([(2, nameW (Lib.trimPrefix s p5), [], [])], closeF (Lib.trimPrefix s p5) false)
 else if Lib.hasPrefix s p6 = true then openF (Lib.trimPrefix s p6)
 else ([(3, [], [], readP ((s.takeWhile textB).length + 1) (s.takeWhile textB))], s.dropWhile textB, false)
theorem trim_no (s w : Bs) (h : Lib.hasPrefix s w = false) : Lib.trimPrefix s w = s := by unfold Lib.trimPrefix; rw [if_neg (by simp [h])]
theorem part_sat (hG : GOk G) (s : Bs) (hs : s.length ≤ 1048576) (h j : Heap) : Sat (CT G) 78 [.hp h.length 0 0 0] (rdH h j s false)
  (fun r h' => r = .sl 4 ((partF s).1.map Tok.av) ∧ h' = rdH h j (partF s).2.1 (partF s).2.2) := by
 have ht := fun w => trim_len s w
 have nils := fun s1 b => rd_finF h j [] s1 s b false (x := .nil (.slice none 0 0)) (y := .sl 4 []) (List.append_nil _).symm (.nils _)
 have toks := fun s1 b (l : List Tok) => rd_finF h j [] s1 s b false (x := .sl 4 (l.map Tok.av)) (y := .sl 4 (l.map Tok.av)) (List.append_nil _).symm (.clo _ (Toks.clo _ _ _))
 refine sb [.tmp 2] (fn := Tryz.f78) Tryz.func78 ?_
 intro Q hQ
 refine wk trivial ?_
 refine kq trivial (take_sat G p1 s false h j) ?_
 refine cq trivial (fun c1 => ?_) (fun c1 => ?_) <;> (try exact c1.elim) <;> (refine wk trivial ?_)
 ·refine kq trivial (upto_sat G hG [45, 45, 62] (Lib.trimPrefix s p1) false (by have := ht p1; omega) h j) ?_
  have e : partF s = ([], (uptoF [45, 45, 62] (Lib.trimPrefix s p1) false).2) := by unfold partF; rw [if_pos c1]
  refine ee hQ trivial ?_
  rw [e]
  exact nils _ _
 rw [trim_no _ _ c1]
 refine kq trivial (take_sat G p2 s false h j) ?_
 refine cq trivial (fun c2 => ?_) (fun c2 => ?_) <;> (try exact c2.elim) <;> (refine wk trivial ?_)
 ·refine kq trivial (upto_sat G hG [63, 62] (Lib.trimPrefix s p2) false (by have := ht p2; omega) h j) ?_
  have e : partF s = ([], (uptoF [63, 62] (Lib.trimPrefix s p2) false).2) := by unfold partF; rw [if_neg (by simp [c1]), if_pos c2]
  refine ee hQ trivial ?_
  rw [e]
  exact nils _ _
 rw [trim_no _ _ c2]
 refine kq trivial (take_sat G p3 s false h j) ?_
 refine cq trivial (fun c3 => ?_) (fun c3 => ?_) <;> (try exact c3.elim) <;> (refine wk trivial ?_)
 ·refine kq trivial (kind_sat G hG (Lib.trimPrefix s p3) false (by have := ht p3; omega) h j) ?_
  have e : partF s = ([], kindF (Lib.trimPrefix s p3) false) := by unfold partF; rw [if_neg (by simp [c1]), if_neg (by simp [c2]), if_pos c3]
  refine ee hQ trivial ?_
  rw [e]
  exact toks _ _ []
 rw [trim_no _ _ c3]
 refine kq trivial (take_sat G p4 s false h j) ?_
 refine cq trivial (fun c4 => ?_) (fun c4 => ?_) <;> (try exact c4.elim) <;> (refine wk trivial ?_)
 ·refine kq trivial (upto_sat G hG [93, 93, 62] (Lib.trimPrefix s p4) false (by have := ht p4; omega) h j) ?_
  refine kq trivial (text_sat G _ _) ?_
  have e : partF s = ([(3, [], [], (uptoF [93, 93, 62] (Lib.trimPrefix s p4) false).1)], (uptoF [93, 93, 62] (Lib.trimPrefix s p4) false).2) := by unfold partF; rw [if_neg (by simp [c1]), if_neg (by simp [c2]), if_neg (by simp [c3]), if_pos c4]
  refine ee hQ trivial ?_
  rw [e]
  exact toks _ _ [_]
 rw [trim_no _ _ c4]
 refine kq trivial (take_sat G p5 s false h j) ?_
 refine cq trivial (fun c5 => ?_) (fun c5 => ?_) <;> (try exact c5.elim) <;> (refine wk trivial ?_)
 ·refine kq trivial (close_sat G (Lib.trimPrefix s p5) false (by have := ht p5; omega) h j) ?_
  have e : partF s = ([(2, nameW (Lib.trimPrefix s p5), [], [])], closeF (Lib.trimPrefix s p5) false) := by unfold partF; rw [if_neg (by simp [c1]), if_neg (by simp [c2]), if_neg (by simp [c3]), if_neg (by simp [c4]), if_pos c5]
  refine ee hQ trivial ?_
  rw [e]
  exact toks _ _ [_]
 rw [trim_no _ _ c5]
 refine kq trivial (take_sat G p6 s false h j) ?_
 refine cq trivial (fun c6 => ?_) (fun c6 => ?_) <;> (try exact c6.elim) <;> (refine wk trivial ?_)
 ·refine kq trivial (open_sat G hG (Lib.trimPrefix s p6) (by have := ht p6; omega) h j) ?_
  have e : partF s = openF (Lib.trimPrefix s p6) := by unfold partF; rw [if_neg (by simp [c1]), if_neg (by simp [c2]), if_neg (by simp [c3]), if_neg (by simp [c4]), if_neg (by simp [c5]), if_pos c6]
  refine ee hQ trivial ?_
  rw [e]
  exact toks _ _ _
 rw [trim_no _ _ c6]
 have hw : (s.takeWhile textB).length ≤ s.length := (List.takeWhile_sublist _).length_le
 refine kq trivial (run_sat G textP textB true text_by 106 s false (by omega) h j (fun c k _ => part1_sat G c k)) ?_
 refine kq trivial (Read_sat hG (s.takeWhile textB) (by omega) _) ?_
 refine kq trivial (text_sat G _ _) ?_
 have e : partF s = ([(3, [], [], readP ((s.takeWhile textB).length + 1) (s.takeWhile textB))], s.dropWhile textB, false) := by unfold partF; rw [if_neg (by simp [c1]), if_neg (by simp [c2]), if_neg (by simp [c3]), if_neg (by simp [c4]), if_neg (by simp [c5]), if_neg (by simp [c6])]
 refine ee hQ trivial ?_
 rw [e]
 exact toks _ _ [_]
end Go.Av
namespace Go.Av
open Go Go.Proofs Go.RowKit
attribute [local irreducible] WP WPl WPix Sat
set_option maxRecDepth 100000
set_option maxHeartbeats 1000000
variable (G : Nat → Option (List AVal))
def addT (l : List Tok) (t : Tok) : List Tok :=
 if t.1 = 3 then
  if t.2.2.2 = [] then l else
  match l.getLast? with
  | some u => if u.1 = 3 then l.dropLast ++ [(u.1, u.2.1, u.2.2.1, u.2.2.2 ++ t.2.2.2)] else l ++ [t]
  | none => l ++ [t]
 else l ++ [t]
theorem addT_snoc (l : List Tok) (u t : Tok) (ht : t.1 = 3) (hn : t.2.2.2 ≠ []) : addT (l ++ [u]) t = if u.1 = 3 then l ++ [(u.1, u.2.1, u.2.2.1, u.2.2.2 ++ t.2.2.2)] else l ++ [u] ++ [t] := by
 unfold addT; rw [if_pos ht, if_neg hn]; simp
theorem addT_nil (t : Tok) (hn : t.1 = 3 → t.2.2.2 ≠ []) : addT [] t = [t] := by
 unfold addT; split
 ·rename_i h; rw [if_neg (hn h)]; rfl
 ·rfl
def tksR (v : Nat) (l : List Tok) : Blk := .row 83 4 v (l.map Tok.av)
theorem tksR_clo (n v : Nat) (l : List Tok) : CloB n (tksR v l) := by
 intro r hr
 obtain ⟨a, _, rfl⟩ := List.mem_map.1 hr
 exact Tok.clo _ _
theorem tks_fin (P j jj : Heap) (v v0 : Nat) (l l0 : List Tok) {h2 : Heap} {x : AVal} {R : AVal → Heap → Prop} (hh : h2 = P ++ tksR v l :: j ++ jj) (hx : Clo (P ++ tksR v0 l0 :: j).length x) (hR : R x (P ++ tksR v l :: j)) :
  Fin (P ++ tksR v0 l0 :: j) h2 R x := by
 refine Fin.keepE (h1 := P ++ tksR v l :: j) hh (by simp) (fun p k hk => ?_) hx hR
 rcases Nat.lt_or_ge p P.length with h1 | h1
 ·rw [List.getElem?_append_left h1] at hk ⊢; exact .inl hk
 ·rw [List.getElem?_append_right h1] at hk ⊢
  match p - P.length, hk with
  | 0, hk => simp at hk; subst hk; exact .inr (tksR_clo _ _ _)
  | i + 1, hk => exact .inl (by simpa using hk)
@[go_sem] theorem getRow_tks (v : Nat) (l : List Tok) (j : Heap) : getRow (tksR v l :: j) 0 v = some (83, 4, l.map Tok.av) := by simp [getRow, tksR]
@[go_sem] theorem getRow_tkss (v : Nat) (l : List Tok) (j : Heap) (k u : Nat) : getRow (tksR v l :: j) (k + 1) u = getRow j k u := rfl
theorem add_sat (P j : Heap) (v : Nat) (l : List Tok) (t : Tok) (hl : l.length ≤ 1048576) (ht : ∀ u ∈ l, u.2.2.2.length + t.2.2.2.length ≤ 140737488355328) :
  Sat (CT G) 79 [.hs P.length v 0 l.length true, t.av] (P ++ tksR v l :: j) (fun r h' => ∃ v', r = .hs P.length v' 0 (addT l t).length true ∧ h' = P ++ tksR v' (addT l t) :: j) := by
 have end_ := fun (jj : Heap) (v1 : Nat) (l1 : List Tok) (h2 : Heap) (hh : h2 = P ++ tksR v1 l1 :: j ++ jj) (hl1 : l1 = addT l t) => tks_fin P j jj v1 v l1 l (x := .hs P.length v1 0 l1.length true)
  (R := fun r h' => ∃ v', r = .hs P.length v' 0 (addT l t).length true ∧ h' = P ++ tksR v' (addT l t) :: j) hh (.hs _ _ _ _ _ (by simp)) ⟨v1, by rw [hl1], by rw [hl1]⟩
 refine sb [.tmp 4] (fn := Tryz.f79) Tryz.func79 ?_
 intro Q hQ
 (repeat (first | refine w1 (fun K hK => ?_) | refine w2 ?_ | refine w3 ?_ | ((first | refine w4 ?_ | refine wD ?_ | refine w5 ?_ | refine w6 ?_ | refine w7 ?_); try refine sq trivial ?_) | (refine w8 ?_; refine sq trivial ?_; refine w9 ?_) | (refine rq trivial ?_; try refine sq trivial ?_) | (refine vq trivial ?_; try refine sq trivial ?_) | ((first | refine hK _ _ (w0 ?_) | (clear hK K; refine hK _ _ (w0 ?_)) | (clear hK K; clear hK K; refine hK _ _ (w0 ?_))); clear hK K)))
 have tail : ∀ (t' : Env), t' 0 = .hs P.length v 0 l.length true → t' 3 = .hp (P.length + (j.length + 1)) 0 0 0 → addT l t = l ++ [t] → K t' (P ++ tksR v l :: (j ++ [.row 83 4 0 [t.av]])) := by
  intro t' e0 e3 he
  refine hK _ _ (Wkn.refl ?_)
  clear hK K
  have F := F2 e0 e3
  (repeat (first | refine w1 (fun K hK => ?_) | refine w2 ?_ | refine w3 ?_ | ((first | refine w4 ?_ | refine wD ?_ | refine w5 ?_ | refine w6 ?_ | refine w7 ?_); try refine sq F ?_) | (refine w8 ?_; refine sq F ?_; refine w9 ?_) | (refine rq F ?_; try refine sq F ?_) | (refine vq F ?_; try refine sq F ?_) | ((first | refine hK _ _ (w0 ?_) | (clear hK K; refine hK _ _ (w0 ?_)) | (clear hK K; clear hK K; refine hK _ _ (w0 ?_))); clear hK K)))
  refine aq F ?_
  try refine sq F ?_
  (repeat (first | refine w1 (fun K hK => ?_) | refine w2 ?_ | refine w3 ?_ | ((first | refine w4 ?_ | refine wD ?_ | refine w5 ?_ | refine w6 ?_ | refine w7 ?_); try refine sq F ?_) | (refine w8 ?_; refine sq F ?_; refine w9 ?_) | (refine rq F ?_; try refine sq F ?_) | (refine vq F ?_; try refine sq F ?_) | ((first | refine hK _ _ (w0 ?_) | (clear hK K; refine hK _ _ (w0 ?_)) | (clear hK K; clear hK K; refine hK _ _ (w0 ?_))); clear hK K)))
  refine ee hQ F ?_
  have := end_ [.row 83 4 0 [t.av]] (v + 1) (l ++ [t]) (P ++ .row 83 4 (v + 1) (l.map Tok.av ++ [t.av]) :: (j ++ [.row 83 4 0 [t.av]])) (by simp [tksR]) he.symm
  rw [List.length_append] at this
  exact this
 refine cq trivial (fun c1 => ?_) (fun c1 => ?_) <;> (try exact c1.elim) <;> ((repeat (first | refine w1 (fun K hK => ?_) | refine w2 ?_ | refine w3 ?_ | ((first | refine w4 ?_ | refine wD ?_ | refine w5 ?_ | refine w6 ?_ | refine w7 ?_); try refine sq trivial ?_) | (refine w8 ?_; refine sq trivial ?_; refine w9 ?_) | (refine rq trivial ?_; try refine sq trivial ?_) | (refine vq trivial ?_; try refine sq trivial ?_) | ((first | refine hK _ _ (w0 ?_) | (clear hK K; refine hK _ _ (w0 ?_)) | (clear hK K; clear hK K; refine hK _ _ (w0 ?_))); clear hK K))))
 ·refine tail _ ?_ ?_ (by unfold addT; rw [if_neg c1])
  ·exact zq trivial
  ·exact zq trivial
 ·refine cq trivial (fun c2 => ?_) (fun c2 => ?_) <;> (try exact c2.elim) <;> ((repeat (first | refine w1 (fun K hK => ?_) | refine w2 ?_ | refine w3 ?_ | ((first | refine w4 ?_ | refine wD ?_ | refine w5 ?_ | refine w6 ?_ | refine w7 ?_); try refine sq trivial ?_) | (refine w8 ?_; refine sq trivial ?_; refine w9 ?_) | (refine rq trivial ?_; try refine sq trivial ?_) | (refine vq trivial ?_; try refine sq trivial ?_) | ((first | refine hK _ _ (w0 ?_) | (clear hK K; refine hK _ _ (w0 ?_)) | (clear hK K; clear hK K; refine hK _ _ (w0 ?_))); clear hK K))))
  ·refine ee hQ trivial ?_
   exact end_ _ v l _ (by simp; rfl) (by unfold addT; rw [if_pos c1, if_pos c2])
  ·have c2' : t.2.2.2 ≠ [] := c2
   rcases List.eq_nil_or_concat l with rfl | ⟨l, u, rfl⟩
   ·(first | refine gq trivial (fun g => ?_) (fun g => ?_) | refine pq trivial (fun g => ?_) (fun g => ?_)) <;> (try exact g.elim) <;> (try refine sq trivial ?_) <;> ((repeat (first | refine w1 (fun K hK => ?_) | refine w2 ?_ | refine w3 ?_ | ((first | refine w4 ?_ | refine wD ?_ | refine w5 ?_ | refine w6 ?_ | refine w7 ?_); try refine sq trivial ?_) | (refine w8 ?_; refine sq trivial ?_; refine w9 ?_) | (refine rq trivial ?_; try refine sq trivial ?_) | (refine vq trivial ?_; try refine sq trivial ?_) | ((first | refine hK _ _ (w0 ?_) | (clear hK K; refine hK _ _ (w0 ?_)) | (clear hK K; clear hK K; refine hK _ _ (w0 ?_))); clear hK K))))
    ·refine tail _ ?_ ?_ (addT_nil t fun _ => c2')
     ·exact zq trivial
     ·exact zq trivial
   ·rw [List.concat_eq_append] at *
    have hl2 : l.length + 1 ≤ 1048576 := by simpa using hl
    have e1 : ((l.length + 1 : Nat) : Int) - 1 = l.length := by omega
    have e2 : (l ++ [u])[l.length]? = some u := by simp
    have F := F2 e1 e2
    (first | refine gq F (fun g => ?_) (fun g => ?_) | refine pq F (fun g => ?_) (fun g => ?_)) <;> (try exact g.elim) <;> (try refine sq F ?_) <;> ((repeat (first | refine w1 (fun K hK => ?_) | refine w2 ?_ | refine w3 ?_ | ((first | refine w4 ?_ | refine wD ?_ | refine w5 ?_ | refine w6 ?_ | refine w7 ?_); try refine sq F ?_) | (refine w8 ?_; refine sq F ?_; refine w9 ?_) | (refine rq F ?_; try refine sq F ?_) | (refine vq F ?_; try refine sq F ?_) | ((first | refine hK _ _ (w0 ?_) | (clear hK K; refine hK _ _ (w0 ?_)) | (clear hK K; clear hK K; refine hK _ _ (w0 ?_))); clear hK K))))
    ·have := ht u (by simp)
     have hsn := addT_snoc l u t c1 c2'
     have e3 : l.length < l.length + 1 := by omega
     refine ⟨e3, ?_⟩
     by_cases c3 : u.1 = 3
     ·refine hK _ _ (Wkn.refl ?_)
      clear tail hK K
      have e4 : (u.1 == 3) = true := by simpa using c3
      rw [if_pos c3] at hsn
      have F := F3 F e3 e4
      (repeat (first | refine w1 (fun K hK => ?_) | refine w2 ?_ | refine w3 ?_ | ((first | refine w4 ?_ | refine wD ?_ | refine w5 ?_ | refine w6 ?_ | refine w7 ?_); try refine sq F ?_) | (refine w8 ?_; refine sq F ?_; refine w9 ?_) | (refine rq F ?_; try refine sq F ?_) | (refine vq F ?_; try refine sq F ?_) | ((first | refine hK _ _ (w0 ?_) | (clear hK K; refine hK _ _ (w0 ?_)) | (clear hK K; clear hK K; refine hK _ _ (w0 ?_))); clear hK K)))
      refine ee hQ F ?_
      have := end_ [.row 83 4 0 [t.av]] v _ _ rfl hsn.symm
      simp [tksR, Tok.av, ofCells] at this ⊢
      exact this
     ·have e4 : (u.1 == 3) = false := by simpa using c3
      rw [if_neg c3] at hsn
      have F := F2 F e4
      refine hK _ _ (Wkn.refl ?_)
      clear hK
      (repeat (first | refine w1 (fun K hK => ?_) | refine w2 ?_ | refine w3 ?_ | ((first | refine w4 ?_ | refine wD ?_ | refine w5 ?_ | refine w6 ?_ | refine w7 ?_); try refine sq F ?_) | (refine w8 ?_; refine sq F ?_; refine w9 ?_) | (refine rq F ?_; try refine sq F ?_) | (refine vq F ?_; try refine sq F ?_) | ((first | refine hK _ _ (w0 ?_) | (clear hK K; refine hK _ _ (w0 ?_)) | (clear hK K; clear hK K; refine hK _ _ (w0 ?_))); clear hK K)))
      refine aq F ?_
      try refine sq F ?_
      (repeat (first | refine w1 (fun K hK => ?_) | refine w2 ?_ | refine w3 ?_ | ((first | refine w4 ?_ | refine wD ?_ | refine w5 ?_ | refine w6 ?_ | refine w7 ?_); try refine sq F ?_) | (refine w8 ?_; refine sq F ?_; refine w9 ?_) | (refine rq F ?_; try refine sq F ?_) | (refine vq F ?_; try refine sq F ?_) | ((first | refine hK _ _ (w0 ?_) | (clear hK K; refine hK _ _ (w0 ?_)) | (clear hK K; clear hK K; refine hK _ _ (w0 ?_))); clear hK K)))
      refine ee hQ F ?_
      have := end_ [.row 83 4 0 [t.av]] (v + 1) _ _ rfl hsn.symm
      simp [tksR] at this ⊢
      exact this
    ·exfalso; simp at g
end Go.Av
namespace Go.Av
open Go Go.Proofs Go.RowKit
set_option maxRecDepth 100000
theorem szs_add {α : Type} (f : α → Nat) (a b : List α) : szs f (a ++ b) = szs f a + szs f b := by
 induction a with
 | nil => simp [szs]
 | cons x l ih => simp only [List.cons_append, szs, ih]; omega
theorem uptoF_sum (w s : Bs) (b : Bool) : (uptoF w s b).1.length + (uptoF w s b).2.1.length ≤ s.length := by
 unfold uptoF
 split
 ·rename_i h; have := cut_len s w h; simp only []; omega
 ·simp
theorem name_sum (s : Bs) : (nameW s).length + (nameR s).length = s.length := by
 have := congrArg List.length (List.takeWhile_append_dropWhile (p := moreB) (l := s))
 rw [List.length_append] at this; exact this
theorem readP_len : ∀ (f : Nat) (s : Bs), (readP f s).length ≤ 5 * s.length := by
 intro f
 induction f with
 | zero => intro s; simp [readP]
 | succ f ih =>
  intro s
  rw [readP]
  split
  ·rename_i h
   have h1 := cut_len s [38] h
   simp only [List.length_cons, List.length_nil] at h1
   split
   ·rename_i h2
    simp only [Bool.and_eq_true] at h2
    have h3 := cut_len _ [59] h2.1.1
    simp only [List.length_cons, List.length_nil] at h3
    have h4 := enc_len (signF (Lib.cut (Lib.cut s [38]).2.1 [59]).1).1
    have h5 := ih (Lib.cut (Lib.cut s [38]).2.1 [59]).2.1
    simp only [List.length_append]; omega
   ·have h5 := ih (Lib.cut s [38]).2.1
    simp only [List.length_append, List.length_cons]; omega
  ·rename_i h
   rw [cut_no s [38] (by simpa using h)]
   simp only []; omega
theorem value_sz (s : Bs) (b : Bool) : (valueF s b).1.length + 5 * (valueF s b).2.1.length ≤ 5 * s.length := by
 have h1 := trim_len s (if Lib.hasPrefix s [34] = true then [34] else [39])
 have h2 := uptoF_sum (if Lib.hasPrefix s [34] = true then [34] else [39]) (Lib.trimPrefix s (if Lib.hasPrefix s [34] = true then [34] else [39])) (b || !Lib.hasPrefix s (if Lib.hasPrefix s [34] = true then [34] else [39]))
 show (readP _ _).length + 5 * (uptoF _ _ _).2.1.length ≤ _
 have h3 := readP_len ((uptoF (if Lib.hasPrefix s [34] = true then [34] else [39]) (Lib.trimPrefix s (if Lib.hasPrefix s [34] = true then [34] else [39])) (b || !Lib.hasPrefix s (if Lib.hasPrefix s [34] = true then [34] else [39]))).1.length + 1)
  (uptoF (if Lib.hasPrefix s [34] = true then [34] else [39]) (Lib.trimPrefix s (if Lib.hasPrefix s [34] = true then [34] else [39])) (b || !Lib.hasPrefix s (if Lib.hasPrefix s [34] = true then [34] else [39]))).1
 omega
theorem attrX_sz (s : Bs) (h : (attrX s false).2.2 = false) : At.sz (attrX s false).1 + 10 * (attrX s false).2.1.length ≤ 10 * s.length := by
 have h0 := bad_name_empty s (attrX_good s h)
 have h1 := name_sum s
 have h2 := drop_len blankB (nameR s)
 have h3 := trim_len ((nameR s).dropWhile blankB) [61]
 have h4 := drop_len blankB (Lib.trimPrefix ((nameR s).dropWhile blankB) [61])
 unfold attrX at h ⊢
 simp only [] at h ⊢
 split at h
 ·rename_i hb
  simp only [] at h
  rw [h] at hb; cases hb
 ·rename_i hb
  rw [if_neg hb]
  have := value_sz ((Lib.trimPrefix ((nameR s).dropWhile blankB) [61]).dropWhile blankB) (false || badN (nameW s) || !Lib.hasPrefix ((nameR s).dropWhile blankB) [61])
  simp only [At.sz]; omega
theorem has_len (s w : Bs) (h : Lib.hasPrefix s w = true) : (Lib.trimPrefix s w).length + w.length ≤ s.length := by
 have h1 : w.length ≤ s.length := (List.isPrefixOf_iff_prefix.1 h).length_le
 unfold Lib.trimPrefix; rw [if_pos h, List.length_drop]; omega
theorem openL_sz : ∀ (f : Nat) (n : Bs) (at_ : List At) (s : Bs) (b : Bool), szs Tok.sz (openL f n at_ s b).1 + 10 * (openL f n at_ s b).2.1.length ≤ 2 + 2 * n.length + szs At.sz at_ + 10 * s.length := by
 intro f
 induction f with
 | zero => intro n at_ s b; simp only [openL, szs]; omega
 | succ f ih =>
  intro n at_ s b
  have h1 := drop_len blankB s
  rw [openL]
  split
  ·simp only [szs]; omega
  ·split
   ·have := trim_len (s.dropWhile blankB) [62]
    simp only [szs, Tok.sz, List.length_nil]; omega
   ·split
    ·have := trim_len (s.dropWhile blankB) [47, 62]
     simp only [szs, Tok.sz, List.length_nil]; omega
    ·have h2 := attrX_sz (s.dropWhile blankB)
     cases hb : (attrX (s.dropWhile blankB) false).2.2 with
     | true =>
      rw [Bool.true_or, Bool.true_or, Bool.true_or]
      have h3 := attrX_len (s.dropWhile blankB) false
      have h4 := drop_len moreB (s.dropWhile blankB)
      change (nameR (s.dropWhile blankB)).length ≤ _ at h4
      have e : ∀ at_ s, openL f n at_ s true = ([], s, true) := fun at_ s => by cases f <;> simp [openL]
      rw [e]
      simp only [szs]; omega
     | false =>
      have h3 := ih n (at_ ++ [(attrX (s.dropWhile blankB) false).1]) (attrX (s.dropWhile blankB) false).2.1 (((false || s.takeWhile blankB == []) || at_.any fun a => a.1 == (attrX (s.dropWhile blankB) false).1.1) || decide (32 ≤ at_.length))
      have h4 := h2 hb
      rw [szs_add] at h3
      simp only [szs] at h3
      omega
theorem openL_rest (f : Nat) (n : Bs) (s : Bs) : openL f n [] s true = ([], s, true) := by cases f <;> simp [openL]
theorem openF_sz (s : Bs) : szs Tok.sz (openF s).1 + 10 * (openF s).2.1.length ≤ 2 + 10 * s.length := by
 unfold openF
 have h1 := name_sum s
 cases hb : badN (nameW s) with
 | true => rw [openL_rest]; simp only [szs]; omega
 | false =>
  have := openL_sz (s.length + 3) (nameW s) [] (nameR s) false
  simp only [szs] at this
  omega
theorem textB_none (s : Bs) (h : Lib.hasPrefix s [60] = false) (hs : s ≠ []) : 1 ≤ (s.takeWhile textB).length := by
 cases s with
 | nil => exact absurd rfl hs
 | cons c t =>
  have : textB c = true := by
   unfold textB textP
   simp only [Bool.not_eq_true', decide_eq_false_iff_not]
   intro e
   have : c = 60 := UInt8.toNat_inj.1 (by have := Int.ofNat.inj e; simpa using this)
   subst this
   simp [Lib.hasPrefix] at h
  simp [List.takeWhile, this]
theorem partF_sz (s : Bs) (hs : s ≠ []) : szs Tok.sz (partF s).1 + 10 * (partF s).2.1.length ≤ 10 * s.length := by
 unfold partF
 split
 ·have := trim_len s p1; have := uptoF_less [45, 45, 62] (Lib.trimPrefix s p1) false
  simp only [szs]; omega
 split
 ·have := trim_len s p2; have := uptoF_less [63, 62] (Lib.trimPrefix s p2) false
  simp only [szs]; omega
 split
 ·have := trim_len s p3; have := uptoF_less [62] (Lib.trimPrefix s p3) false
  simp only [szs, kindF]; omega
 split
 ·rename_i h; have := has_len s p4 h; have := uptoF_sum [93, 93, 62] (Lib.trimPrefix s p4) false
  simp only [szs, Tok.sz, p4, List.length_cons, List.length_nil] at *; omega
 split
 ·rename_i h; have := has_len s p5 h; have := name_sum (Lib.trimPrefix s p5); have := drop_len blankB (nameR (Lib.trimPrefix s p5)); have := trim_len ((nameR (Lib.trimPrefix s p5)).dropWhile blankB) [62]
  simp only [szs, Tok.sz, closeF, p5, List.length_cons, List.length_nil] at *; omega
 split
 ·rename_i h; have := has_len s p6 h; have := openF_sz (Lib.trimPrefix s p6)
  simp only [p6, List.length_cons, List.length_nil] at *; omega
 ·rename_i h
  have h1 := textB_none s (by simpa [p6] using h) hs
  have h2 := readP_len ((s.takeWhile textB).length + 1) (s.takeWhile textB)
  have h3 := congrArg List.length (List.takeWhile_append_dropWhile (p := textB) (l := s))
  rw [List.length_append] at h3
  simp only [szs, Tok.sz, List.length_nil]; omega
theorem addT_sz (l : List Tok) (t : Tok) : szs Tok.sz (addT l t) ≤ szs Tok.sz l + Tok.sz t := by
 by_cases h3 : t.1 = 3
 ·by_cases ht : t.2.2.2 = []
  ·unfold addT; rw [if_pos h3, if_pos ht]; omega
  ·rcases List.eq_nil_or_concat l with rfl | ⟨l, u, rfl⟩
   ·rw [addT_nil t fun _ => ht]; simp [szs]
   ·rw [List.concat_eq_append, addT_snoc l u t h3 ht]
    split
    ·simp only [szs_add, szs, Tok.sz, List.length_append]; omega
    ·simp only [szs_add, szs]; omega
 ·unfold addT; rw [if_neg h3, szs_add]; simp [szs]
theorem openL_less : ∀ (f : Nat) (n : Bs) (at_ : List At) (s : Bs) (b : Bool), (openL f n at_ s b).2.1.length ≤ s.length := by
 intro f
 induction f with
 | zero => intro n at_ s b; simp [openL]
 | succ f ih =>
  intro n at_ s b
  have h1 := drop_len blankB s
  rw [openL]
  split
  ·simp
  ·split
   ·have := trim_len (s.dropWhile blankB) [62]; simp only []; omega
   ·split
    ·have := trim_len (s.dropWhile blankB) [47, 62]; simp only []; omega
    ·refine Nat.le_trans (ih _ _ _ _) ?_
     have h3 := attrX_len (s.dropWhile blankB) false
     have h4 := drop_len moreB (s.dropWhile blankB)
     change (nameR (s.dropWhile blankB)).length ≤ _ at h4
     omega
theorem partF_less (s : Bs) (hs : s ≠ []) : (partF s).2.1.length < s.length := by
 unfold partF
 split
 ·rename_i h; have := has_len s p1 h; have := uptoF_less [45, 45, 62] (Lib.trimPrefix s p1) false
  simp only [p1, List.length_cons, List.length_nil] at *; omega
 split
 ·rename_i h; have := has_len s p2 h; have := uptoF_less [63, 62] (Lib.trimPrefix s p2) false
  simp only [p2, List.length_cons, List.length_nil] at *; omega
 split
 ·rename_i h; have := has_len s p3 h; have := uptoF_less [62] (Lib.trimPrefix s p3) false
  simp only [p3, kindF, List.length_cons, List.length_nil] at *; omega
 split
 ·rename_i h; have := has_len s p4 h; have := uptoF_less [93, 93, 62] (Lib.trimPrefix s p4) false
  simp only [p4, List.length_cons, List.length_nil] at *; omega
 split
 ·rename_i h; have := has_len s p5 h; have := name_sum (Lib.trimPrefix s p5); have := drop_len blankB (nameR (Lib.trimPrefix s p5)); have := trim_len ((nameR (Lib.trimPrefix s p5)).dropWhile blankB) [62]
  simp only [closeF, p5, List.length_cons, List.length_nil] at *; omega
 split
 ·rename_i h; have := has_len s p6 h; have := openL_less ((Lib.trimPrefix s p6).length + 3) (nameW (Lib.trimPrefix s p6)) [] (nameR (Lib.trimPrefix s p6)) (badN (nameW (Lib.trimPrefix s p6))); have hns := name_sum (Lib.trimPrefix s p6)
  unfold openF
  simp only [p6, List.length_cons, List.length_nil] at *
  omega
 ·rename_i h
  have h1 := textB_none s (by simpa [p6] using h) hs
  have h3 := congrArg List.length (List.takeWhile_append_dropWhile (p := textB) (l := s))
  rw [List.length_append] at h3
  simp only []; omega
def tksF : Nat → Bs → List Tok → List Tok × Int
 | 0, _, _ => ([], 80)
 | f + 1, s, l => if s = [] then (l, 0) else
  if (partF s).2.2 = true then ([], 80) else
  if 8192 < ((partF s).1.foldl addT l).length then ([], 3) else tksF f (partF s).2.1 ((partF s).1.foldl addT l)
theorem fold_sz : ∀ (l : List Tok) (a : List Tok), szs Tok.sz (l.foldl addT a) ≤ szs Tok.sz a + szs Tok.sz l := by
 intro l
 induction l with
 | nil => intro a; simp [szs]
 | cons t l ih => intro a; have := ih (addT a t); have := addT_sz a t; simp only [List.foldl_cons, szs]; omega
theorem tksF_sz : ∀ (f : Nat) (s : Bs) (l : List Tok), szs Tok.sz (tksF f s l).1 ≤ szs Tok.sz l + 10 * s.length := by
 intro f
 induction f with
 | zero => intro s l; simp [tksF, szs]
 | succ f ih =>
  intro s l
  rw [tksF]
  split
  ·simp only []; omega
  ·rename_i hs
   split
   ·simp [szs]
   ·split
    ·simp [szs]
    ·have h1 := ih (partF s).2.1 ((partF s).1.foldl addT l)
     have h2 := partF_sz s hs
     have h3 := fold_sz (partF s).1 l
     omega
def toksF (s : Bs) : List Tok × Int := if 65536 < s.length then ([], 3) else tksF (s.length + 1) s []
end Go.Av
namespace Go.Av
open Go Go.Proofs Go.RowKit
attribute [local irreducible] WP WPl WPix Sat
set_option maxRecDepth 100000
set_option maxHeartbeats 1000000
variable (G : Nat → Option (List AVal))
@[go_sem] theorem getRow_rdT (h j : Heap) (s : Bs) (b : Bool) (v : Nat) (l : List Tok) : getRow (rdH h (tksR v l :: j) s b) (h.length + 1) v = some (83, 4, l.map Tok.av) := by
 simp [rdH, getRow, tksR]
@[go_sem] theorem getRow_rdHc (h j l : Heap) (x : Blk) (s : Bs) (b : Bool) (v : Nat) : getRow (rdH h (x :: j) s b ++ l) (h.length + (1 + (j.length + 1))) v = getRow l 0 v := getRow_rdHz h (x :: j) l s b v
@[go_sem] theorem set_rdHc (h j l : Heap) (x y : Blk) (s : Bs) (b : Bool) : (rdH h (x :: j) s b ++ l).set (h.length + (1 + (j.length + 1))) y = rdH h (x :: j) s b ++ l.set 0 y := set_rdHz h (x :: j) l s b y
theorem addR_sat (h j jj : Heap) (s : Bs) (b : Bool) (v : Nat) (l : List Tok) (t : Tok) (hl : l.length ≤ 1048576) (ht : ∀ u ∈ l, u.2.2.2.length + t.2.2.2.length ≤ 140737488355328) :
  Sat (CT G) 79 [.hs (h.length + 1) v 0 l.length true, t.av] (rdH h (tksR v l :: j) s b ++ jj)
   (fun r h' => ∃ v', r = .hs (h.length + 1) v' 0 (addT l t).length true ∧ h' = rdH h (tksR v' (addT l t) :: (j ++ jj)) s b) := by
 have := add_sat G (h ++ [rdrR s b]) (j ++ jj) v l t hl ht
 have e : rdH h (tksR v l :: j) s b ++ jj = (h ++ [rdrR s b]) ++ tksR v l :: (j ++ jj) := by simp [rdH]
 rw [e]
 have e2 : (h ++ [rdrR s b]).length = h.length + 1 := by simp
 rw [e2] at this
 exact this.mono fun r h' ⟨v', h1, h2⟩ => ⟨v', h1, by rw [h2]; simp [rdH]⟩
theorem szs_txt {l : List Tok} {u : Tok} (h : u ∈ l) : u.2.2.2.length ≤ szs Tok.sz l := by
 have h1 := szs_mem Tok.sz h
 have h2 : Tok.sz u = 1 + u.2.1.length + szs At.sz u.2.2.1 + u.2.2.2.length := rfl
 omega
theorem Fin.frzS {h0 : Heap} {R : AVal → Heap → Prop} {r0 r : AVal} (hz : Frz h0 h0.length r0 r) (hR : R r h0) : Fin h0 h0 R r0 := by
 have := Fin.frz (h0 := h0) (j := []) (R := R) (r0 := r0) (r := r) (by simpa using hz) hR
 simpa using this
theorem Frz.toksD {h : Heap} {n q v e : Nat} {l : List Tok} {len : Nat} {room : Bool} (hq : n ≤ q) (hg : getRow h q v = some (e, 4, l.map Tok.av)) (hlen : len = l.length) : Frz h n (.hs q v 0 len room) (.sl 4 (l.map Tok.av)) :=
 Frz.data hq hg (by simpa using hlen) (fun r hr => by obtain ⟨a, _, rfl⟩ := List.mem_map.1 hr; exact Tok.clo _ a) (fun r hr => by obtain ⟨a, _, rfl⟩ := List.mem_map.1 hr; exact a.av_sto)
theorem Tokens8_sat (hG : GOk G) (s : Bs) (hs : s.length ≤ 4194304) (h : Heap) : Sat (CT G) 44 [.str s] h
  (fun r h' => ∃ a, r = .tup [.sl 4 ((toksF s).1.map Tok.av), .int .i64 a, .int .i64 (toksF s).2] ∧ h' = h) := by
 refine sb [.tmp 2, .tmp 3, .tmp 4] (fn := Tryz.f44) Tryz.func44 ?_
 intro Q hQ
 refine wk trivial ?_
 refine cq trivial (fun c0 => ?_) (fun c0 => ?_) <;> (try exact c0.elim) <;> (refine wk trivial ?_)
 ·have e : toksF s = ([], 3) := by unfold toksF; rw [if_pos (by omega)]
  refine ye hQ trivial ?_
  rw [e]
  exact Fin.frzS (FrzL.tup (.cons (.nils 4) (.cons (.clo _ (.int _ _)) (.cons (.clo _ (.int _ _)) .nil)))) ⟨0, rfl, rfl⟩
 have e : toksF s = tksF (s.length + 1) s [] := by unfold toksF; rw [if_neg (by omega)]
 have bad : ∀ (jj : Heap) (a : Int) (c : Int), toksF s = ([], c) → Fin h (h ++ jj) (fun r h' => ∃ a, r = .tup [.sl 4 ((toksF s).1.map Tok.av), .int .i64 a, .int .i64 (toksF s).2] ∧ h' = h) (.tup [.nil (.slice none 0 0), .int .i64 a, .int .i64 c]) := fun jj a c hb => by
  rw [hb]
  exact Fin.frz (FrzL.tup (.cons (.nils 4) (.cons (.clo _ (.int _ _)) (.cons (.clo _ (.int _ _)) .nil)))) ⟨a, rfl, rfl⟩
 refine lm (fun nL tL hL => ∃ (f v : Nat) (s1 : Bs) (l : List Tok) (jj : Heap), f = nL ∧ rdH h (tksR v l :: jj) s1 false = hL ∧ tL 5 = .hs (h.length + 1) v 0 l.length true ∧ tL 6 = .hp h.length 0 0 0 ∧ s1.length < f ∧ tksF f s1 l = toksF s ∧ szs Tok.sz l + 10 * s1.length ≤ 10 * s.length ∧ l.length ≤ 8192) ((fun (f v : Nat) (s1 : Bs) (l : List Tok) (jj : Heap) => (f : Nat)) (s.length + 1) (0) (s) ([]) ([])) ?_ ?_
 ·refine ⟨_, _, Weak.virt 5 83 4 (by simp) (by omega) (by exact zq trivial), ⟨s.length + 1, 0, s, [], [], rfl, by simp [rdH, rdrR, tksR], ?_, ?_, by omega, e.symm, by simp [szs], by simp⟩⟩
  all_goals first | exact zq trivial | rfl | omega | trivial | skip
 rintro _ s2 h' ⟨f, v, s1, l, jj, rfl, rfl, e5, e6, hf, hp, hz, hl⟩ K2 hK2
 simp only [mix_cons, mix_nil, Nat.reduceEqDiff, ↓reduceIte] at e5 e6
 have F := F2 e5 e6
 refine wk F ?_
 obtain ⟨g, rfl⟩ : ∃ g, f = g + 1 := ⟨f - 1, by omega⟩
 rw [tksF] at hp
 refine cq F (fun c1 => ?_) (fun c1 => ?_) <;> (try exact c1.elim) <;> (refine wk F ?_)
 ·have hps := partF_sz s1 c1
  have hpl := partF_less s1 c1
  have hz0 := szs_len Tok.sz Tok.sz_pos (partF s1).1
  rw [if_neg c1] at hp
  refine kq F (part_sat G hG s1 (by omega) h (tksR v l :: jj)) ?_
  generalize partF s1 = x at hp hps hpl hz0 ⊢
  obtain ⟨tk, r1, bb⟩ := x
  simp only [] at hp hps hpl hz0 ⊢
  refine lm (fun nL tL hL => ∃ (k v2 : Nat) (l2 : List Tok) (j2 : Heap), tk.length - k = nL ∧ rdH h (tksR v2 l2 :: j2) r1 bb = hL ∧ tL 5 = .hs (h.length + 1) v2 0 l2.length true ∧ tL 32 = .int .i64 k ∧ k ≤ tk.length ∧ (tk.drop k).foldl addT l2 = tk.foldl addT l ∧ szs Tok.sz l2 + szs Tok.sz (tk.drop k) ≤ szs Tok.sz l + szs Tok.sz tk) ((fun (k v2 : Nat) (l2 : List Tok) (j2 : Heap) => (tk.length - k : Nat)) (0) (v) (l) (jj)) ?_ ?_
  ·refine Wkn.refl ⟨0, v, l, jj, rfl, hpE, ?_, ?_, ?_, ?_, ?_⟩
   all_goals first | exact zq F | rfl | omega | trivial | skip
  rintro _ s3 h' ⟨k, v2, l2, j2, rfl, rfl, e5, e32, hk, hq, hz2⟩ K3 hK3
  simp only [mix_cons, mix_nil, Nat.reduceEqDiff, ↓reduceIte] at e5 e32
  have F := F3 F e5 e32
  refine wk F ?_
  refine cq F (fun c2 => ?_) (fun c2 => ?_) <;> (try exact c2.elim) <;> (refine wk F ?_)
  ·obtain ⟨y, hy, hym⟩ := getElem?_of_lt c2
   rw [drop_cons_of hy] at hq hz2
   simp only [szs, List.foldl_cons] at hq hz2
   have hz3 := szs_len Tok.sz Tok.sz_pos l2
   have hz4 := addT_sz l2 y
   have F := F2 F hy
   try refine sq F ?_
   refine wk F ?_
   refine (addR_sat G h j2 _ r1 bb v2 l2 y (by omega) (fun u hu => by have := szs_txt hu; have := szs_txt hym; omega)).mono ?_
   rintro r h' ⟨v3, rfl, rfl⟩
   try refine sq F ?_
   refine wk F ?_
   refine hK3 _ _ _ (Wkn.refl ⟨k + 1, v3, addT l2 y, j2 ++ [.row 83 4 0 [y.av]], rfl, by simp, ?_, ?_, by omega, hq, by omega⟩) (by omega)
   all_goals first | exact zq F | rfl | omega | trivial | skip
  ·rw [drop_nil_of c2] at hq hz2
   simp only [szs, List.foldl_nil] at hq hz2
   subst hq
   refine wk F ?_
   refine cq F (fun c3 => ?_) (fun c3 => ?_) <;> (try exact c3.elim) <;> (refine wk F ?_)
   ·rw [if_pos c3] at hp
    refine ye hQ F ?_
    unfold rdH
    exact bad _ _ _ hp.symm
   ·rw [if_neg (by simp [c3])] at hp
    refine cq F (fun c4 => ?_) (fun c4 => ?_) <;> (try exact c4.elim) <;> (refine wk F ?_)
    ·rw [if_pos (by omega)] at hp
     refine ye hQ F ?_
     unfold rdH
     exact bad _ _ _ hp.symm
    ·rw [if_neg (by omega)] at hp
     subst c3
     refine hK2 _ _ _ (Wkn.refl ⟨g, v2, r1, tk.foldl addT l, j2, rfl, hpE, ?_, ?_, by omega, hp, by omega, by omega⟩) (by omega)
     all_goals first | exact zq F | rfl | omega | trivial | skip
 ·rw [if_pos (by simpa using c1)] at hp
  refine ye hQ F ?_
  rw [← hp]
  unfold rdH
  exact Fin.frz (FrzL.tup (.cons (Frz.toksD (by omega) (by simp [getRow, tksR]; rfl) rfl) (.cons (.clo _ (.int _ _)) (.cons (.clo _ (.int _ _)) .nil)))) ⟨_, rfl, rfl⟩
end Go.Av
namespace Go.Av
open Go Go.Proofs Go.RowKit
set_option maxRecDepth 100000
set_option maxHeartbeats 1000000
theorem dec_drop (s : Bs) (k : Nat) : dec s k = dec (s.drop k) 0 := by
 rw [dec_N, dec_N]
 simp only [List.getD_eq_getElem?_getD, List.getElem?_drop, List.length_drop, Nat.add_zero, Nat.zero_add, Nat.sub_zero, Nat.add_assoc]
theorem dec_rune (s : Bs) (k : Nat) (h : k < s.length) : Rune (dec s k).1 := by
 have hb := List.getElem?_eq_getElem h
 by_cases ha : s[k].toNat < 128
 ·rw [dec_ascii s k _ hb ha]; exact ⟨by simp, by simp; omega⟩
 ·obtain ⟨h1, h2, _⟩ := dec_high s k _ hb (by omega)
  exact ⟨by omega, by omega⟩
def runesN : Nat → Bs → List Int
 | 0, _ => []
 | f + 1, s => if s = [] then [] else ((dec s 0).1 : Int) :: runesN f (s.drop (dec s 0).2)
def runesF (s : Bs) : List Int := runesN s.length s
theorem runesN_fuel : ∀ (f : Nat) (s : Bs), s.length ≤ f → runesN f s = runesN s.length s := by
 intro f
 induction f using Nat.strongRecOn with
 | ind f ih =>
  intro s hs
  cases s with
  | nil => cases f <;> rfl
  | cons b t =>
   obtain ⟨f, rfl⟩ : ∃ g, f = g + 1 := ⟨f - 1, by simp at hs; omega⟩
   have hd := dec_pos (b :: t) 0 (by simp)
   simp only [List.length_cons] at hs hd ⊢
   rw [runesN, runesN, if_neg (by simp), if_neg (by simp)]
   have hl : ((b :: t).drop (dec (b :: t) 0).2).length ≤ t.length := by simp only [List.length_drop, List.length_cons]; omega
   rw [ih f (by omega) _ (by omega)]
   by_cases hf : t.length = f
   ·subst hf; rw [ih t.length (by omega) _ hl]
   ·rw [ih t.length (by omega) _ hl]
theorem runesF_nil : runesF [] = [] := rfl
theorem runesF_step (s : Bs) (h : s ≠ []) : runesF s = ((dec s 0).1 : Int) :: runesF (s.drop (dec s 0).2) := by
 have hl : 0 < s.length := List.length_pos_iff.2 h
 have hd := dec_pos s 0 hl
 unfold runesF
 obtain ⟨n, hn⟩ : ∃ n, s.length = n + 1 := ⟨s.length - 1, by omega⟩
 rw [hn, runesN, if_neg h, runesN_fuel n _ (by simp only [List.length_drop]; omega)]
theorem runesF_at (s : Bs) (k : Nat) (h : k < s.length) : runesF (s.drop k) = ((dec s k).1 : Int) :: runesF (s.drop (k + (dec s k).2)) := by
 rw [runesF_step _ (by intro e; have := congrArg List.length e; simp at this; omega), ← dec_drop, List.drop_drop]
theorem runesF_end (s : Bs) (k : Nat) (h : s.length ≤ k) : runesF (s.drop k) = [] := by
 rw [List.drop_of_length_le h]; rfl
theorem runesF_len : ∀ (n : Nat) (s : Bs), s.length ≤ n → (runesF s).length ≤ s.length := by
 intro n
 induction n with
 | zero => intro s h; have : s = [] := List.length_eq_zero_iff.1 (by omega); subst this; simp [runesF_nil]
 | succ n ih =>
  intro s h
  by_cases h0 : s = []
  ·subst h0; simp [runesF_nil]
  ·have hd := dec_pos s 0 (List.length_pos_iff.2 h0)
   rw [runesF_step s h0]
   have := ih (s.drop (dec s 0).2) (by simp only [List.length_drop]; omega)
   simp only [List.length_drop] at this
   simp only [List.length_cons]; omega
theorem runesF_rune : ∀ (n : Nat) (s : Bs), s.length ≤ n → ∀ c ∈ runesF s, Rune c := by
 intro n
 induction n with
 | zero => intro s h c hc; have : s = [] := List.length_eq_zero_iff.1 (by omega); subst this; simp [runesF_nil] at hc
 | succ n ih =>
  intro s h c hc
  by_cases h0 : s = []
  ·subst h0; simp [runesF_nil] at hc
  ·have hl := List.length_pos_iff.2 h0
   have hd := dec_pos s 0 hl
   rw [runesF_step s h0] at hc
   rcases List.mem_cons.1 hc with rfl | hc
   ·exact dec_rune s 0 hl
   ·exact ih _ (by simp only [List.length_drop]; omega) c hc
def blankR (c : Int) : Bool := decide (c = 9 ∨ c = 10 ∨ c = 13 ∨ c = 32 ∨ c = 160 ∨ c = 8232 ∨ c = 8233 ∨ c = 12288)
def ctlR (c : Int) : Bool := decide (c < 32 ∨ (127 ≤ c ∧ c ≤ 159))
def clnR : List Int → List Int → Bool → List Int
 | [], o, _ => o
 | c :: t, o, w => if blankR c then clnR t o (decide (0 < o.length)) else if ctlR c then clnR t o w else clnR t (o ++ (if w then [32, c] else [c])) false
def cleanR (s : Bs) : List Int := clnR (runesF s) [] false
def encs (l : List Int) : Bs := l.flatMap enc
def cleanF (s : Bs) : Bs := encs (cleanR s)
theorem enc_pos (r : Int) : 1 ≤ (enc r).length := by
 rw [enc_fix]; simp only []; repeat (first | split | simp)
theorem encs_len (l : List Int) : (encs l).length ≤ 4 * l.length ∧ l.length ≤ (encs l).length := by
 induction l with
 | nil => simp [encs]
 | cons c t ih =>
  have h1 := enc_len c
  have h2 := enc_pos c
  simp only [encs, List.flatMap_cons, List.length_append, List.length_cons] at ih ⊢; omega
theorem clnR_len : ∀ (l o : List Int) (w : Bool), (clnR l o w).length ≤ o.length + 2 * l.length
 | [], o, w => by simp [clnR]
 | c :: t, o, w => by
  rw [clnR]
  by_cases hb : blankR c = true
  ·rw [if_pos hb]; have := clnR_len t o (decide (0 < o.length)); simp only [List.length_cons]; omega
  ·rw [if_neg hb]
   by_cases hk : ctlR c = true
   ·rw [if_pos hk]; have := clnR_len t o w; simp only [List.length_cons]; omega
   ·rw [if_neg hk]
    have := clnR_len t (o ++ (if w then [32, c] else [c])) false
    have hw : (if w then [32, c] else [c] : List Int).length ≤ 2 := by split <;> simp
    simp only [List.length_append, List.length_cons] at this ⊢
    omega
theorem clnR_rune : ∀ (l o : List Int) (w : Bool), (∀ c ∈ l, Rune c) → (∀ c ∈ o, Rune c) → ∀ c ∈ clnR l o w, Rune c
 | [], o, w, _, h => by simpa [clnR] using h
 | c :: t, o, w, hl, ho => by
  rw [clnR]
  have ht : ∀ x ∈ t, Rune x := fun x hx => hl x (by simp [hx])
  split
  ·exact clnR_rune t o _ ht ho
  ·split
   ·exact clnR_rune t o w ht ho
   ·refine clnR_rune t _ false ht ?_
    intro x hx
    rcases List.mem_append.1 hx with hx | hx
    ·exact ho x hx
    ·have h32 : Rune 32 := ⟨by decide, by decide⟩
     split at hx
     ·simp at hx; rcases hx with rfl | rfl
      ·exact h32
      ·exact hl _ (by simp)
     ·simp at hx; subst hx; exact hl _ (by simp)
theorem cleanR_len (s : Bs) : (cleanR s).length ≤ 2 * s.length := by
 have h1 := clnR_len (runesF s) [] false
 have h2 := runesF_len s.length s (Nat.le_refl _)
 simp only [List.length_nil] at h1
 unfold cleanR; omega
theorem cleanF_len (s : Bs) : (cleanF s).length ≤ 8 * s.length := by
 have h1 := cleanR_len s
 have h2 := encs_len (cleanR s)
 unfold cleanF; omega
def cutN : Nat → Bs → Nat → Nat
 | 0, _, _ => 0
 | f + 1, s, n => if s = [] then 0 else if n < (dec s 0).2 then 0 else (dec s 0).2 + cutN f (s.drop (dec s 0).2) (n - (dec s 0).2)
def cutF (s : Bs) (n : Nat) : Bs := s.take (cutN s.length s n)
def rightN : Nat → Bs → Bool
 | 0, _ => true
 | f + 1, s => if s = [] then true else if (dec s 0).1 = 65533 ∧ (dec s 0).2 = 1 then false else rightN f (s.drop (dec s 0).2)
def rightS (s : Bs) : Bool := rightN s.length s
theorem rightN_fuel : ∀ (f : Nat) (s : Bs), s.length ≤ f → rightN f s = rightN s.length s := by
 intro f
 induction f using Nat.strongRecOn with
 | ind f ih =>
  intro s hs
  cases s with
  | nil => cases f <;> rfl
  | cons b t =>
   obtain ⟨f, rfl⟩ : ∃ g, f = g + 1 := ⟨f - 1, by simp at hs; omega⟩
   have hd := dec_pos (b :: t) 0 (by simp)
   simp only [List.length_cons] at hs hd ⊢
   rw [rightN, rightN, if_neg (show ¬ (b :: t) = [] by simp), if_neg (show ¬ (b :: t) = [] by simp)]
   have hl : ((b :: t).drop (dec (b :: t) 0).2).length ≤ t.length := by simp only [List.length_drop, List.length_cons]; omega
   rw [ih f (by omega) _ (by omega), ih t.length (by omega) _ hl]
theorem rightS_step (s : Bs) (h : s ≠ []) : rightS s = if (dec s 0).1 = 65533 ∧ (dec s 0).2 = 1 then false else rightS (s.drop (dec s 0).2) := by
 have hl : 0 < s.length := List.length_pos_iff.2 h
 have hd := dec_pos s 0 hl
 unfold rightS
 obtain ⟨n, hn⟩ : ∃ n, s.length = n + 1 := ⟨s.length - 1, by omega⟩
 rw [hn, rightN, if_neg h, rightN_fuel n _ (by simp only [List.length_drop]; omega)]
theorem rightS_at (s : Bs) (k : Nat) (h : k < s.length) : rightS (s.drop k) = if (dec s k).1 = 65533 ∧ (dec s k).2 = 1 then false else rightS (s.drop (k + (dec s k).2)) := by
 rw [rightS_step _ (by intro e; have := congrArg List.length e; simp at this; omega), ← dec_drop, List.drop_drop]
theorem decodeN_bad (n b0 b1 b2 b3 : Nat) (h1 : b1 < 256) (h2 : b2 < 256) (h0 : b0 < 256) (h : (Lib.decodeN n b0 b1 b2 b3).1 = 65533) : (Lib.decodeN n b0 b1 b2 b3).2 = 1 ↔ ¬ (3 ≤ n ∧ b0 = 239 ∧ b1 = 191 ∧ b2 = 189) := by
 unfold Lib.decodeN at *
 by_cases c1 : b0 < 128
 ·rw [if_pos c1] at *; simp only [] at *; omega
 rw [if_neg c1] at *
 by_cases c2 : (b0 / 32 = 6 ∧ (1 < n ∧ b1 / 64 = 2))
 ·rw [if_pos c2] at *
  by_cases c3 : b0 % 32 * 64 + b1 % 64 ≥ 128
  ·rw [if_pos c3] at *; simp only [] at *; omega
  ·rw [if_neg c3] at *; exact ⟨fun _ hc => by omega, fun _ => rfl⟩
 rw [if_neg c2] at *
 by_cases c4 : b0 / 16 = 14 ∧ (1 < n ∧ b1 / 64 = 2) ∧ (2 < n ∧ b2 / 64 = 2)
 ·rw [if_pos c4] at *
  by_cases c5 : (b0 % 16 * 4096 + b1 % 64 * 64 + b2 % 64 ≥ 2048 ∧ (b0 % 16 * 4096 + b1 % 64 * 64 + b2 % 64 < 55296 ∨ (57344 ≤ b0 % 16 * 4096 + b1 % 64 * 64 + b2 % 64 ∧ b0 % 16 * 4096 + b1 % 64 * 64 + b2 % 64 ≤ 1114111)))
  ·rw [if_pos c5] at *; simp only [] at *; omega
  ·rw [if_neg c5] at *; exact ⟨fun _ hc => by omega, fun _ => rfl⟩
 rw [if_neg c4] at *
 by_cases c6 : b0 / 8 = 30 ∧ (1 < n ∧ b1 / 64 = 2) ∧ (2 < n ∧ b2 / 64 = 2) ∧ (3 < n ∧ b3 / 64 = 2)
 ·rw [if_pos c6] at *
  by_cases c7 : (b0 % 8 * 262144 + b1 % 64 * 4096 + b2 % 64 * 64 + b3 % 64 ≥ 65536 ∧ (b0 % 8 * 262144 + b1 % 64 * 4096 + b2 % 64 * 64 + b3 % 64 < 55296 ∨ (57344 ≤ b0 % 8 * 262144 + b1 % 64 * 4096 + b2 % 64 * 64 + b3 % 64 ∧ b0 % 8 * 262144 + b1 % 64 * 4096 + b2 % 64 * 64 + b3 % 64 ≤ 1114111)))
  ·rw [if_pos c7] at *; simp only [] at *; omega
  ·rw [if_neg c7] at *; exact ⟨fun _ hc => by omega, fun _ => rfl⟩
 ·rw [if_neg c6] at *; exact ⟨fun _ hc => by omega, fun _ => rfl⟩
theorem pre3 (u : Bs) : Lib.hasPrefix u [239, 191, 189] = true ↔ (3 ≤ u.length ∧ (u.getD 0 0).toNat = 239 ∧ (u.getD 1 0).toNat = 191 ∧ (u.getD 2 0).toNat = 189) := by
 have key : ∀ (x : UInt8) (n : Nat), n < 256 → (x.toNat = n ↔ x = UInt8.ofNat n) := fun x n h => by rw [← UInt8.toNat_inj, toNat_ofNat n h]
 match u with
 | [] => simp [Lib.hasPrefix]
 | [a] => simp [Lib.hasPrefix]
 | [a, b] => simp [Lib.hasPrefix]
 | a :: b :: c :: t =>
  simp only [List.getD_cons_zero, List.getD_cons_succ, List.length_cons]
  rw [key a 239 (by omega), key b 191 (by omega), key c 189 (by omega)]
  unfold Lib.hasPrefix
  simp only [List.isPrefixOf, Bool.and_eq_true, beq_iff_eq]
  constructor
  ·rintro ⟨rfl, rfl, rfl, _⟩; exact ⟨by omega, rfl, rfl, rfl⟩
  ·rintro ⟨_, rfl, rfl, rfl⟩; exact ⟨rfl, rfl, rfl, trivial⟩
theorem dec_bad3 (s : Bs) (k : Nat) (hd : (dec s k).1 = 65533) : (dec s k).2 = 1 ↔ Lib.hasPrefix (s.drop k) [239, 191, 189] = false := by
 rw [dec_drop] at *
 generalize s.drop k = u at *
 rw [← Bool.not_eq_true, pre3]
 rw [dec_N] at *
 exact decodeN_bad _ _ _ _ _ (UInt8.toNat_lt _) (UInt8.toNat_lt _) (UInt8.toNat_lt _) hd
end Go.Av
namespace Go.Av
open Go Go.Proofs Go.RowKit
attribute [local irreducible] WP WPl WPix Sat
set_option maxRecDepth 100000
set_option maxHeartbeats 1000000
variable (G : Nat → Option (List AVal))
theorem PBlank_sat (c : Int) (h : Heap) : Sat (CT G) 141 [.int .i32 c] h (fun r h' => r = .bool (blankR c) ∧ h' = h) := by
 have yes : (c = 9 ∨ c = 10 ∨ c = 13 ∨ c = 32 ∨ c = 160 ∨ c = 8232 ∨ c = 8233 ∨ c = 12288) → blankR c = true := fun h => decide_eq_true h
 have no : ¬ (c = 9 ∨ c = 10 ∨ c = 13 ∨ c = 32 ∨ c = 160 ∨ c = 8232 ∨ c = 8233 ∨ c = 12288) → blankR c = false := fun h => decide_eq_false h
 refine sb [.tmp 2] (fn := Tryz.f141) Tryz.func141 ?_
 intro Q hQ
 refine wk trivial ?_
 refine cq trivial (fun c0 => ?_) (fun c0 => ?_) <;> (try exact c0.elim) <;> (refine wk trivial ?_)
 ·refine cq trivial (fun d => ?_) (fun d => ?_) <;> (try exact d.elim) <;> (refine wk trivial ?_)
  ·refine ee hQ trivial ?_
   refine fR (.bool _) ?_
   rw [yes (by omega)]
  ·exfalso; omega
 refine cq trivial (fun c1 => ?_) (fun c1 => ?_) <;> (try exact c1.elim) <;> (refine wk trivial ?_)
 ·refine cq trivial (fun d => ?_) (fun d => ?_) <;> (try exact d.elim) <;> (refine wk trivial ?_)
  ·refine ee hQ trivial ?_
   refine fR (.bool _) ?_
   rw [yes (by omega)]
  ·exfalso; omega
 refine cq trivial (fun c2 => ?_) (fun c2 => ?_) <;> (try exact c2.elim) <;> (refine wk trivial ?_)
 ·refine cq trivial (fun d => ?_) (fun d => ?_) <;> (try exact d.elim) <;> (refine wk trivial ?_)
  ·refine ee hQ trivial ?_
   refine fR (.bool _) ?_
   rw [yes (by omega)]
  ·exfalso; omega
 refine cq trivial (fun c3 => ?_) (fun c3 => ?_) <;> (try exact c3.elim) <;> (refine wk trivial ?_)
 ·refine cq trivial (fun d => ?_) (fun d => ?_) <;> (try exact d.elim) <;> (refine wk trivial ?_)
  ·refine ee hQ trivial ?_
   refine fR (.bool _) ?_
   rw [yes (by omega)]
  ·exfalso; omega
 refine cq trivial (fun c4 => ?_) (fun c4 => ?_) <;> (try exact c4.elim) <;> (refine wk trivial ?_)
 ·refine cq trivial (fun d => ?_) (fun d => ?_) <;> (try exact d.elim) <;> (refine wk trivial ?_)
  ·refine ee hQ trivial ?_
   refine fR (.bool _) ?_
   rw [yes (by omega)]
  ·exfalso; omega
 refine cq trivial (fun c5 => ?_) (fun c5 => ?_) <;> (try exact c5.elim) <;> (refine wk trivial ?_)
 ·refine cq trivial (fun d => ?_) (fun d => ?_) <;> (try exact d.elim) <;> (refine wk trivial ?_)
  ·refine ee hQ trivial ?_
   refine fR (.bool _) ?_
   rw [yes (by omega)]
  ·exfalso; omega
 refine cq trivial (fun c6 => ?_) (fun c6 => ?_) <;> (try exact c6.elim) <;> (refine wk trivial ?_)
 ·refine cq trivial (fun d => ?_) (fun d => ?_) <;> (try exact d.elim) <;> (refine wk trivial ?_)
  ·refine ee hQ trivial ?_
   refine fR (.bool _) ?_
   rw [yes (by omega)]
  ·exfalso; omega
 refine cq trivial (fun d => ?_) (fun d => ?_) <;> (try exact d.elim) <;> (refine wk trivial ?_)
 ·refine ee hQ trivial ?_
  refine fR (.bool _) ?_
  rw [yes (by omega)]
 ·refine ee hQ trivial ?_
  refine fR (.bool _) ?_
  rw [no (by omega)]
theorem Pcontrol_sat (c : Int) (h : Heap) : Sat (CT G) 143 [.int .i32 c] h (fun r h' => r = .bool (ctlR c) ∧ h' = h) := by
 refine sb [.tmp 2] (fn := Tryz.f143) Tryz.func143 ?_
 intro Q hQ
 refine wk trivial ?_
 (first | refine gq trivial (fun g1 => ?_) (fun g1 => ?_) | refine pq trivial (fun g1 => ?_) (fun g1 => ?_)) <;> (try exact g1.elim) <;> (try refine sq trivial ?_) <;> (refine wk trivial ?_)
 ·refine ee hQ trivial ?_
  refine fR (.bool _) ?_
  rw [show ctlR c = true from decide_eq_true (.inl g1)]
 ·(first | refine gq trivial (fun g2 => ?_) (fun g2 => ?_) | refine pq trivial (fun g2 => ?_) (fun g2 => ?_)) <;> (try exact g2.elim) <;> (try refine sq trivial ?_) <;> (refine wk trivial ?_)
  ·refine ee hQ trivial ?_
   refine fR (.bool _) ?_
   unfold ctlR
   congr 1
   rw [Bool.eq_iff_iff]; simp; omega
  ·refine ee hQ trivial ?_
   refine fR (.bool _) ?_
   rw [show ctlR c = false from decide_eq_false (by omega)]
theorem getIter2 (h j : Heap) (a : AVal) (v : Nat) (o s : Bs) (q : Nat) : (bldH h (Blk.iter s q :: j) a v o)[h.length + 2]? = some (.iter s q) := by
 unfold bldH; rw [List.getElem?_append_right (by omega), show h.length + 2 - h.length = 2 by omega]; rfl
theorem setIter2 (h j : Heap) (a : AVal) (v : Nat) (o : Bs) (x y : Blk) : (bldH h (x :: j) a v o).set (h.length + 2) y = bldH h (y :: j) a v o := by
 unfold bldH; rw [List.set_append_right _ _ (by omega), show h.length + 2 - h.length = 2 by omega]; rfl
theorem PClean_sat (s : Bs) (hs : s.length ≤ 100000000) (h : Heap) : Sat (CT G) 117 [.str s] h (fun r h' => r = .str (cleanF s) ∧ h' = h) := by
 have F := @setIter2
 refine sb [.tmp 2] (fn := Tryz.f117) Tryz.func117 ?_
 intro Q hQ
 (repeat (first | refine w1 (fun K hK => ?_) | refine w2 ?_ | refine w3 ?_ | ((first | refine w4 ?_ | refine wD ?_ | refine w5 ?_ | refine w6 ?_ | refine w7 ?_); try refine sq F ?_) | (refine w8 ?_; refine sq F ?_; refine w9 ?_)))
 refine hK _ _ (Wkn.refl ?_)
 clear hK K
 (repeat (first | refine w1 (fun K hK => ?_) | refine w2 ?_ | refine w3 ?_ | ((first | refine w4 ?_ | refine wD ?_ | refine w5 ?_ | refine w6 ?_ | refine w7 ?_); try refine sq F ?_) | (refine w8 ?_; refine sq F ?_; refine w9 ?_)))
 refine hK _ _ ⟨_, _, Weak.virtCell (p := h.length) (v := 0) 5 1 (by omega) (by simp (disch := first | omega | (simp only [go_sem, ↓reduceIte, seval]; first | done | omega) | fail) only [go_sem, ↓reduceIte, seval, F]; rfl) 1 rfl, ?_⟩
 clear hK K
 (repeat (first | refine w1 (fun K hK => ?_) | refine w2 ?_ | refine w3 ?_ | ((first | refine w4 ?_ | refine wD ?_ | refine w5 ?_ | refine w6 ?_ | refine w7 ?_); try refine sq F ?_) | (refine w8 ?_; refine sq F ?_; refine w9 ?_) | ((first | refine hK _ _ (w0 ?_) | (clear hK K; refine hK _ _ (w0 ?_)) | (clear hK K; clear hK K; refine hK _ _ (w0 ?_))); clear hK K)))
 refine lm (fun nL tL hL => ∃ (a : AVal) (v k : Nat) (out : List Int) (w : Bool), s.length - k = nL ∧ bldH h [.iter s k] a v (encs out) = hL ∧ tL 4 = .bool w ∧ bldA a h.length ∧ k ≤ s.length ∧ clnR (runesF (s.drop k)) out w = cleanR s ∧ (encs out).length + 8 * (s.length - k) ≤ 8 * s.length) ((fun (a : AVal) (v k : Nat) (out : List Int) (w : Bool) => (s.length - k : Nat)) ((.nil (.pointer none))) (0) (0) ([]) (false)) ?_ ?_
 ·refine Wkn.refl ⟨(.nil (.pointer none)), 0, 0, [], false, rfl, by simp [bldH, bldR, bufR, encs], ?_, .inl rfl, by omega, rfl, by simp [encs]⟩
  all_goals first | exact zq F | rfl | omega | trivial | skip
 rintro _ s2 h' ⟨a, v, k, out, w, rfl, rfl, e4, ha, hk, hv, hl⟩ K2 hK2
 simp only [mix_cons, mix_nil, Nat.reduceEqDiff, ↓reduceIte] at e4
 have F := F2 F e4
 (repeat (first | refine w1 (fun K hK => ?_) | refine w2 ?_ | refine w3 ?_ | ((first | refine w4 ?_ | refine wD ?_ | refine w5 ?_ | refine w6 ?_ | refine w7 ?_); try refine sq F ?_) | (refine w8 ?_; refine sq F ?_; refine w9 ?_) | ((first | refine hK _ _ (w0 ?_) | (clear hK K; refine hK _ _ (w0 ?_)) | (clear hK K; clear hK K; refine hK _ _ (w0 ?_))); clear hK K)))
 refine nextK_at (getIter2 _ _ _ _ _ _ _) (fun hlt => ?_) (fun hge => ?_)
 ·have hR := dec_rune s k hlt
  have hp := dec_pos s k hlt
  rw [runesF_at s k hlt, clnR] at hv
  rw [show Utf8.decode ⟨s.toArray⟩ k = dec s k from rfl]
  generalize dec s k = d at *
  obtain ⟨c, m⟩ := d
  simp only [] at hR hp hv ⊢
  try refine sq F ?_
  (repeat (first | refine w1 (fun K hK => ?_) | refine w2 ?_ | refine w3 ?_ | ((first | refine w4 ?_ | refine wD ?_ | refine w5 ?_ | refine w6 ?_ | refine w7 ?_); try refine sq F ?_) | (refine w8 ?_; refine sq F ?_; refine w9 ?_) | ((first | refine hK _ _ (w0 ?_) | (clear hK K; refine hK _ _ (w0 ?_)) | (clear hK K; clear hK K; refine hK _ _ (w0 ?_))); clear hK K)))
  refine (PBlank_sat G c _).mono ?_
  rintro r h' ⟨rfl, rfl⟩
  try refine sq F ?_
  (repeat (first | refine w1 (fun K hK => ?_) | refine w2 ?_ | refine w3 ?_ | ((first | refine w4 ?_ | refine wD ?_ | refine w5 ?_ | refine w6 ?_ | refine w7 ?_); try refine sq F ?_) | (refine w8 ?_; refine sq F ?_; refine w9 ?_) | ((first | refine hK _ _ (w0 ?_) | (clear hK K; refine hK _ _ (w0 ?_)) | (clear hK K; clear hK K; refine hK _ _ (w0 ?_))); clear hK K)))
  refine cq F (fun c1 => ?_) (fun c1 => ?_) <;> (try exact c1.elim) <;> ((repeat (first | refine w1 (fun K hK => ?_) | refine w2 ?_ | refine w3 ?_ | ((first | refine w4 ?_ | refine wD ?_ | refine w5 ?_ | refine w6 ?_ | refine w7 ?_); try refine sq F ?_) | (refine w8 ?_; refine sq F ?_; refine w9 ?_) | ((first | refine hK _ _ (w0 ?_) | (clear hK K; refine hK _ _ (w0 ?_)) | (clear hK K; clear hK K; refine hK _ _ (w0 ?_))); clear hK K))))
  ·rw [if_pos c1] at hv
   refine (Len_sat G a h [.iter s (k + m)] v (encs out)).mono ?_
   rintro r h' ⟨rfl, rfl⟩
   try refine sq F ?_
   (repeat (first | refine w1 (fun K hK => ?_) | refine w2 ?_ | refine w3 ?_ | ((first | refine w4 ?_ | refine wD ?_ | refine w5 ?_ | refine w6 ?_ | refine w7 ?_); try refine sq F ?_) | (refine w8 ?_; refine sq F ?_; refine w9 ?_) | ((first | refine hK _ _ (w0 ?_) | (clear hK K; refine hK _ _ (w0 ?_)) | (clear hK K; clear hK K; refine hK _ _ (w0 ?_))); clear hK K)))
   have ho : decide (((encs out).length : Int) > 0) = decide (0 < out.length) := by
    have := encs_len out
    rw [Bool.eq_iff_iff]; simp only [decide_eq_true_eq]; omega
   have F := F2 F ho
   try refine sq F ?_
   refine hK2 _ _ _ (Wkn.refl ⟨a, v, k + m, out, decide (0 < out.length), rfl, hpE, ?_, ha, by omega, hv, by omega⟩) (by omega)
   all_goals first | exact zq F | rfl | omega | trivial | skip
  ·rw [if_neg (by simp [c1])] at hv
   refine (Pcontrol_sat G c _).mono ?_
   rintro r h' ⟨rfl, rfl⟩
   try refine sq F ?_
   (repeat (first | refine w1 (fun K hK => ?_) | refine w2 ?_ | refine w3 ?_ | ((first | refine w4 ?_ | refine wD ?_ | refine w5 ?_ | refine w6 ?_ | refine w7 ?_); try refine sq F ?_) | (refine w8 ?_; refine sq F ?_; refine w9 ?_) | ((first | refine hK _ _ (w0 ?_) | (clear hK K; refine hK _ _ (w0 ?_)) | (clear hK K; clear hK K; refine hK _ _ (w0 ?_))); clear hK K)))
   refine cq F (fun c2 => ?_) (fun c2 => ?_) <;> (try exact c2.elim) <;> ((repeat (first | refine w1 (fun K hK => ?_) | refine w2 ?_ | refine w3 ?_ | ((first | refine w4 ?_ | refine wD ?_ | refine w5 ?_ | refine w6 ?_ | refine w7 ?_); try refine sq F ?_) | (refine w8 ?_; refine sq F ?_; refine w9 ?_) | ((first | refine hK _ _ (w0 ?_) | (clear hK K; refine hK _ _ (w0 ?_)) | (clear hK K; clear hK K; refine hK _ _ (w0 ?_))); clear hK K))))
   ·rw [if_pos c2] at hv
    refine hK2 _ _ _ (Wkn.refl ⟨a, v, k + m, out, w, rfl, hpE, ?_, ha, by omega, hv, by omega⟩) (by omega)
    all_goals first | exact zq F | rfl | omega | trivial | skip
   ·rw [if_neg (by simp [c2])] at hv
    have he := enc_len c
    have e1 : encs (out ++ [32, (c : Int)]) = encs out ++ [32] ++ enc c := by
     simp only [encs, List.flatMap_append, List.flatMap_cons, List.flatMap_nil, List.append_nil, List.append_assoc]; rfl
    have e2 : encs (out ++ [(c : Int)]) = encs out ++ enc c := by
     simp only [encs, List.flatMap_append, List.flatMap_cons, List.flatMap_nil, List.append_nil]
    refine cq F (fun c3 => ?_) (fun c3 => ?_) <;> (try exact c3.elim) <;> ((repeat (first | refine w1 (fun K hK => ?_) | refine w2 ?_ | refine w3 ?_ | ((first | refine w4 ?_ | refine wD ?_ | refine w5 ?_ | refine w6 ?_ | refine w7 ?_); try refine sq F ?_) | (refine w8 ?_; refine sq F ?_; refine w9 ?_) | ((first | refine hK _ _ (w0 ?_) | (clear hK K; refine hK _ _ (w0 ?_)) | (clear hK K; clear hK K; refine hK _ _ (w0 ?_))); clear hK K))))
    ·rw [if_pos c3] at hv
     refine (WriteByte_sat G a h [.iter s (k + m)] v (encs out) 32 ha (by omega)).mono ?_
     rintro r h' ⟨rfl, rfl⟩
     try refine sq F ?_
     (repeat (first | refine w1 (fun K hK => ?_) | refine w2 ?_ | refine w3 ?_ | ((first | refine w4 ?_ | refine wD ?_ | refine w5 ?_ | refine w6 ?_ | refine w7 ?_); try refine sq F ?_) | (refine w8 ?_; refine sq F ?_; refine w9 ?_) | ((first | refine hK _ _ (w0 ?_) | (clear hK K; refine hK _ _ (w0 ?_)) | (clear hK K; clear hK K; refine hK _ _ (w0 ?_))); clear hK K)))
     refine (WriteRune_sat G (.hp h.length 0 0 0) c hR h [.iter s (k + m)] (v + 1) (encs out ++ [32]) (.inr rfl) (by simp only [List.length_append, List.length_cons, List.length_nil]; omega)).mono ?_
     rintro r h' ⟨rfl, rfl⟩
     try refine sq F ?_
     (repeat (first | refine w1 (fun K hK => ?_) | refine w2 ?_ | refine w3 ?_ | ((first | refine w4 ?_ | refine wD ?_ | refine w5 ?_ | refine w6 ?_ | refine w7 ?_); try refine sq F ?_) | (refine w8 ?_; refine sq F ?_; refine w9 ?_) | ((first | refine hK _ _ (w0 ?_) | (clear hK K; refine hK _ _ (w0 ?_)) | (clear hK K; clear hK K; refine hK _ _ (w0 ?_))); clear hK K)))
     refine hK2 _ _ _ (Wkn.refl ⟨(.hp h.length 0 0 0), v + 1 + 1, k + m, out ++ [32, (c : Int)], false, rfl, by rw [e1]; simp, ?_, .inr rfl, by omega, hv, by rw [e1]; simp only [List.length_append, List.length_cons, List.length_nil]; omega⟩) (by omega)
     all_goals first | exact zq F | rfl | omega | trivial | skip
    ·rw [if_neg (by simp [c3])] at hv
     refine (WriteRune_sat G a c hR h [.iter s (k + m)] v (encs out) ha (by omega)).mono ?_
     rintro r h' ⟨rfl, rfl⟩
     try refine sq F ?_
     (repeat (first | refine w1 (fun K hK => ?_) | refine w2 ?_ | refine w3 ?_ | ((first | refine w4 ?_ | refine wD ?_ | refine w5 ?_ | refine w6 ?_ | refine w7 ?_); try refine sq F ?_) | (refine w8 ?_; refine sq F ?_; refine w9 ?_) | ((first | refine hK _ _ (w0 ?_) | (clear hK K; refine hK _ _ (w0 ?_)) | (clear hK K; clear hK K; refine hK _ _ (w0 ?_))); clear hK K)))
     refine hK2 _ _ _ (Wkn.refl ⟨(.hp h.length 0 0 0), v + 1, k + m, out ++ [(c : Int)], false, rfl, by rw [e2], ?_, .inr rfl, by omega, hv, by rw [e2]; simp only [List.length_append]; omega⟩) (by omega)
     all_goals first | exact zq F | rfl | omega | trivial | skip
 ·rw [runesF_end s k (by omega)] at hv
  try refine sq F ?_
  (repeat (first | refine w1 (fun K hK => ?_) | refine w2 ?_ | refine w3 ?_ | ((first | refine w4 ?_ | refine wD ?_ | refine w5 ?_ | refine w6 ?_ | refine w7 ?_); try refine sq F ?_) | (refine w8 ?_; refine sq F ?_; refine w9 ?_) | ((first | refine hK _ _ (w0 ?_) | (clear hK K; refine hK _ _ (w0 ?_)) | (clear hK K; clear hK K; refine hK _ _ (w0 ?_))); clear hK K)))
  refine (String_sat G a h [.iter s k] v (encs out)).mono ?_
  rintro r h' ⟨rfl, b2, rfl⟩
  try refine sq F ?_
  (repeat (first | refine w1 (fun K hK => ?_) | refine w2 ?_ | refine w3 ?_ | ((first | refine w4 ?_ | refine wD ?_ | refine w5 ?_ | refine w6 ?_ | refine w7 ?_); try refine sq F ?_) | (refine w8 ?_; refine sq F ?_; refine w9 ?_) | ((first | refine hK _ _ (w0 ?_) | (clear hK K; refine hK _ _ (w0 ?_)) | (clear hK K; clear hK K; refine hK _ _ (w0 ?_))); clear hK K)))
  refine ee hQ F ?_
  exact Fin.plainE (j := [bldR a (h.length + 1) v (encs out), b2, .iter s k]) (by simp) (.str _) ⟨congrArg AVal.str (by unfold cleanF; rw [← hv]; rfl), rfl⟩
theorem cutN_fuel : ∀ (f : Nat) (s : Bs) (n : Nat), s.length ≤ f → cutN f s n = cutN s.length s n := by
 intro f
 induction f using Nat.strongRecOn with
 | ind f ih =>
  intro s n hs
  cases s with
  | nil => cases f <;> rfl
  | cons b t =>
   obtain ⟨f, rfl⟩ : ∃ g, f = g + 1 := ⟨f - 1, by simp at hs; omega⟩
   have hd := dec_pos (b :: t) 0 (by simp)
   simp only [List.length_cons] at hs hd ⊢
   have hl : ((b :: t).drop (dec (b :: t) 0).2).length ≤ t.length := by simp only [List.length_drop, List.length_cons]; omega
   rw [cutN, cutN, if_neg (show ¬ (b :: t) = [] by simp), if_neg (show ¬ (b :: t) = [] by simp), ih f (by omega) _ _ (by omega), ih t.length (by omega) _ _ hl]
def cutA (s : Bs) (k n : Nat) : Nat := cutN (s.drop k).length (s.drop k) n
theorem cutA_end (s : Bs) (k n : Nat) (h : s.length ≤ k) : cutA s k n = 0 := by unfold cutA; rw [List.drop_of_length_le h]; rfl
theorem cutA_at (s : Bs) (k n : Nat) (h : k < s.length) : cutA s k n = if n < (dec s k).2 then 0 else (dec s k).2 + cutA s (k + (dec s k).2) (n - (dec s k).2) := by
 have hd := dec_pos s k h
 have hl : (s.drop k).length = (s.length - k - 1) + 1 := by rw [List.length_drop]; omega
 unfold cutA
 rw [hl, cutN, if_neg (by intro e; rw [e] at hl; simp at hl), ← dec_drop, List.drop_drop, cutN_fuel (s.length - k - 1) _ _ (by simp only [List.length_drop]; omega)]
theorem cutA_le (s : Bs) : ∀ (f k n : Nat), s.length ≤ k + f → cutA s k n ≤ n ∧ cutA s k n ≤ s.length - k := by
 intro f
 induction f with
 | zero => intro k n h; rw [cutA_end s k n (by omega)]; omega
 | succ f ih =>
  intro k n h
  rcases Nat.lt_or_ge k s.length with h1 | h1
  ·have hd := dec_pos s k h1
   rw [cutA_at s k n h1]
   split
   ·omega
   ·have := ih (k + (dec s k).2) (n - (dec s k).2) (by omega)
    omega
  ·rw [cutA_end s k n h1]; omega
theorem cutA_all (s : Bs) : ∀ (f k n : Nat), s.length ≤ k + f → s.length - k ≤ n → cutA s k n = s.length - k := by
 intro f
 induction f with
 | zero => intro k n h _; rw [cutA_end s k n (by omega)]; omega
 | succ f ih =>
  intro k n h hn
  rcases Nat.lt_or_ge k s.length with h1 | h1
  ·have hd := dec_pos s k h1
   rw [cutA_at s k n h1, if_neg (by omega), ih _ _ (by omega) (by omega)]; omega
  ·rw [cutA_end s k n h1]; omega
theorem PCut_sat (s : Bs) (n : Nat) (hs : s.length ≤ 1073741824) (hn : n ≤ 1073741824) (h : Heap) : Sat (CT G) 118 [.str s, .int .i64 n] h (fun r h' => r = .str (cutF s n) ∧ h' = h) := by
 refine sb [.tmp 4] (fn := Tryz.f118) Tryz.func118 ?_
 intro Q hQ
 (repeat (first | refine w1 (fun K hK => ?_) | refine w2 ?_ | refine w3 ?_ | ((first | refine w4 ?_ | refine wD ?_ | refine w5 ?_ | refine w6 ?_ | refine w7 ?_); try refine sq trivial ?_) | (refine w8 ?_; refine sq trivial ?_; refine w9 ?_) | ((first | refine hK _ _ (w0 ?_) | (clear hK K; refine hK _ _ (w0 ?_)) | (clear hK K; clear hK K; refine hK _ _ (w0 ?_))); clear hK K)))
 have tail : ∀ (t' : Env) (e pos : Nat), t' 0 = .str s → t' 1 = .int .i64 n → t' 5 = .int .i64 e → e ≤ s.length → (n < s.length → e = cutN s.length s n) → K t' (h ++ [.iter s pos]) := by
  intro t' e pos e0 e1 e5 he hx
  refine hK _ _ (Wkn.refl ?_)
  clear hK K
  have F := F3 e0 e1 e5
  (repeat (first | refine w1 (fun K hK => ?_) | refine w2 ?_ | refine w3 ?_ | ((first | refine w4 ?_ | refine wD ?_ | refine w5 ?_ | refine w6 ?_ | refine w7 ?_); try refine sq F ?_) | (refine w8 ?_; refine sq F ?_; refine w9 ?_) | ((first | refine hK _ _ (w0 ?_) | (clear hK K; refine hK _ _ (w0 ?_)) | (clear hK K; clear hK K; refine hK _ _ (w0 ?_))); clear hK K)))
  refine cq F (fun c1 => ?_) (fun c1 => ?_) <;> (try exact c1.elim) <;> ((repeat (first | refine w1 (fun K hK => ?_) | refine w2 ?_ | refine w3 ?_ | ((first | refine w4 ?_ | refine wD ?_ | refine w5 ?_ | refine w6 ?_ | refine w7 ?_); try refine sq F ?_) | (refine w8 ?_; refine sq F ?_; refine w9 ?_) | ((first | refine hK _ _ (w0 ?_) | (clear hK K; refine hK _ _ (w0 ?_)) | (clear hK K; clear hK K; refine hK _ _ (w0 ?_))); clear hK K))))
  ·refine ee hQ F ?_
   refine fR (.str _) ?_
   have := cutA_all s s.length 0 n (by omega) (by omega)
   unfold cutA at this; simp only [List.drop_zero] at this
   unfold cutF; rw [this]; simp
  ·refine ee hQ F ?_
   refine fR (.str _) ?_
   unfold cutF; rw [hx (by omega)]
 refine lm (fun nL tL hL => ∃ (en k : Nat), s.length - k = nL ∧ h ++ [.iter s k] = hL ∧ tL 5 = .int .i64 en ∧ k ≤ s.length ∧ en ≤ k ∧ (k ≤ n → k + cutA s k (n - k) = cutN s.length s n) ∧ (n < k → en = cutN s.length s n)) ((fun (en k : Nat) => (s.length - k : Nat)) (0) (0)) ?_ ?_
 ·refine Wkn.refl ⟨0, 0, rfl, hpE, ?_, by omega, by omega, fun _ => by unfold cutA; simp, fun h => by omega⟩
  all_goals first | exact zq trivial | rfl | omega | trivial | skip
 rintro _ s2 h' ⟨en, k, rfl, rfl, e5, hk, he, hc, hc2⟩ K2 hK2
 simp only [mix_cons, mix_nil, Nat.reduceEqDiff, ↓reduceIte] at e5
 have F := e5
 (repeat (first | refine w1 (fun K hK => ?_) | refine w2 ?_ | refine w3 ?_ | ((first | refine w4 ?_ | refine wD ?_ | refine w5 ?_ | refine w6 ?_ | refine w7 ?_); try refine sq F ?_) | (refine w8 ?_; refine sq F ?_; refine w9 ?_) | ((first | refine hK _ _ (w0 ?_) | (clear hK K; refine hK _ _ (w0 ?_)) | (clear hK K; clear hK K; refine hK _ _ (w0 ?_))); clear hK K)))
 refine nextK_at (getIter _ _ _ _) (fun hlt => ?_) (fun hge => ?_)
 ·have hp := dec_pos s k hlt
  have hca := cutA_at s k (n - k) hlt
  rw [show Utf8.decode ⟨s.toArray⟩ k = dec s k from rfl]
  generalize dec s k = d at *
  obtain ⟨c, m⟩ := d
  simp only [] at hp hca ⊢
  try refine sq F ?_
  (repeat (first | refine w1 (fun K hK => ?_) | refine w2 ?_ | refine w3 ?_ | ((first | refine w4 ?_ | refine wD ?_ | refine w5 ?_ | refine w6 ?_ | refine w7 ?_); try refine sq F ?_) | (refine w8 ?_; refine sq F ?_; refine w9 ?_) | ((first | refine hK _ _ (w0 ?_) | (clear hK K; refine hK _ _ (w0 ?_)) | (clear hK K; clear hK K; refine hK _ _ (w0 ?_))); clear hK K)))
  refine cq F (fun c1 => ?_) (fun c1 => ?_) <;> (try exact c1.elim) <;> ((repeat (first | refine w1 (fun K hK => ?_) | refine w2 ?_ | refine w3 ?_ | ((first | refine w4 ?_ | refine wD ?_ | refine w5 ?_ | refine w6 ?_ | refine w7 ?_); try refine sq F ?_) | (refine w8 ?_; refine sq F ?_; refine w9 ?_) | ((first | refine hK _ _ (w0 ?_) | (clear hK K; refine hK _ _ (w0 ?_)) | (clear hK K; clear hK K; refine hK _ _ (w0 ?_))); clear hK K))))
  ·refine tail _ en (k + m) ?_ ?_ ?_ (by omega) (fun _ => hc2 (by omega))
   ·exact zq F
   ·exact zq F
   ·exact zq F
  ·have hc' := hc (by omega)
   rw [hca] at hc'
   refine hK2 _ _ _ (Wkn.refl ⟨k, k + m, rfl, hpE, ?_, by omega, by omega, fun hle => by rw [if_neg (by omega)] at hc'; rw [← hc', show n - (k + m) = n - k - m by omega]; omega, fun hgt => by rw [if_pos (by omega)] at hc'; omega⟩) (by omega)
   all_goals first | exact zq F | rfl | omega | trivial | skip
 ·try refine sq F ?_
  (repeat (first | refine w1 (fun K hK => ?_) | refine w2 ?_ | refine w3 ?_ | ((first | refine w4 ?_ | refine wD ?_ | refine w5 ?_ | refine w6 ?_ | refine w7 ?_); try refine sq F ?_) | (refine w8 ?_; refine sq F ?_; refine w9 ?_) | ((first | refine hK _ _ (w0 ?_) | (clear hK K; refine hK _ _ (w0 ?_)) | (clear hK K; clear hK K; refine hK _ _ (w0 ?_))); clear hK K)))
  refine tail _ en k ?_ ?_ ?_ (by omega) (fun _ => hc2 (by omega))
  ·exact zq F
  ·exact zq F
  ·exact zq F
theorem PRight_sat (s : Bs) (hs : s.length ≤ 1073741824) (h : Heap) : Sat (CT G) 147 [.str s] h (fun r h' => r = .bool (rightS s) ∧ h' = h) := by
 refine sb [.tmp 2] (fn := Tryz.f147) Tryz.func147 ?_
 intro Q hQ
 refine wk trivial ?_
 refine lm (fun nL tL hL => ∃ (k : Nat), s.length - k = nL ∧ h ++ [.iter s k] = hL ∧ k ≤ s.length ∧ rightS (s.drop k) = rightS s) ((fun (k : Nat) => (s.length - k : Nat)) (0)) ?_ ?_
 ·refine Wkn.refl ⟨0, rfl, hpE, by omega, rfl⟩
  all_goals first | exact zq trivial | rfl | omega | trivial | skip
 rintro _ s2 h' ⟨k, rfl, rfl, hk, hc⟩ K2 hK2
 refine wk trivial ?_
 refine nextK_at (getIter _ _ _ _) (fun hlt => ?_) (fun hge => ?_)
 ·have hp := dec_pos s k hlt
  have hca := rightS_at s k hlt
  have h3 := dec_bad3 s k
  rw [hc] at hca
  rw [show Utf8.decode ⟨s.toArray⟩ k = dec s k from rfl]
  generalize dec s k = d at *
  obtain ⟨c, m⟩ := d
  simp only [] at hp hca h3 ⊢
  try refine sq trivial ?_
  refine wk trivial ?_
  (first | refine gq trivial (fun g1 => ?_) (fun g1 => ?_) | refine pq trivial (fun g1 => ?_) (fun g1 => ?_)) <;> (try exact g1.elim) <;> (try refine sq trivial ?_) <;> (refine wk trivial ?_)
  ·have g0 : c = 65533 := by omega
   have h4 := h3 g0
   refine kq trivial (HasPrefix_sat G (s.drop k) [239, 191, 189] _) ?_
   refine cq trivial (fun g2 => ?_) (fun g2 => ?_) <;> (try exact g2.elim) <;> (refine wk trivial ?_)
   ·refine ee hQ trivial ?_
    refine fR (.bool _) ?_
    rw [hca, if_pos ⟨g0, h4.2 (by simpa using g2)⟩]
   ·refine hK2 _ _ _ (Wkn.refl ⟨k + m, rfl, hpE, by omega, by rw [hca, if_neg]; rintro ⟨_, h5⟩; have := h4.1 h5; rw [this] at g2; cases g2⟩) (by omega)
    all_goals first | exact zq trivial | rfl | omega | trivial | skip
  ·refine hK2 _ _ _ (Wkn.refl ⟨k + m, rfl, hpE, by omega, by rw [hca, if_neg]; rintro ⟨h5, _⟩; exact g1 (by omega)⟩) (by omega)
   all_goals first | exact zq trivial | rfl | omega | trivial | skip
 ·rw [List.drop_of_length_le (by omega)] at hc
  try refine sq trivial ?_
  refine wk trivial ?_
  refine ee hQ trivial ?_
  refine fR (.bool _) ?_
  rw [← hc]; rfl
end Go.Av
