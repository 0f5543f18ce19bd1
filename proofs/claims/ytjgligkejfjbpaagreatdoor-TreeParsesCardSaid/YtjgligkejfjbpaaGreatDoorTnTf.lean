/- The program's tree.builder: a tag that closes. -/
import Derived.Test.YtjgligkejfjbpaaGreatDoorTnIc
import Derived.Test.YtjgligkejfjbpaaGreatDoorTnHp
set_option linter.unusedSimpArgs false
set_option linter.unusedVariables false
namespace Go.Av
open Go Go.Proofs Go.RowKit
attribute [local irreducible] WP WPl WPix Sat
set_option maxRecDepth 100000
set_option maxHeartbeats 1000000
variable (G : Nat → Option (List AVal))
def blankP (c : Int) : Bool := decide (c = 32 ∨ c = 9 ∨ c = 13 ∨ c = 10)
def blankB (b : UInt8) : Bool := blankP b.toNat
def moreB (b : UInt8) : Bool := moreF b.toNat
theorem blankP_ascii : ∀ x : _root_.Fin 128, decide (0 ≤ Lib.indexByte blk4 x.val.toUInt8) = blankP x.val := by decide +kernel
theorem blank1_sat (c : Int) (hc : Rune c) (h : Heap) : Sat (CT G) 153 [.int .i32 c] h (fun r h' => r = .bool (blankP c) ∧ h' = h) := by
 have hR := hc
 obtain ⟨h0, h1⟩ := hc
 by_cases hlt : c < 128
 ·have e : decide (0 ≤ Lib.indexByte blk4 c.toNat.toUInt8) = blankP c := by
   have := blankP_ascii ⟨c.toNat, by omega⟩
   rw [show (c.toNat : Int) = c by omega] at this
   exact this
  have hs := ContainsRune_ascii G blk4 c h0 hlt h
  rw [e] at hs
  refine Sat.body [.tmp 2] (fn := Tryz.f153) Tryz.func153 rfl rfl (by kernel_rfl) (by kernel_rfl) (by kernel_rfl) rfl ?_
  intro Q hQ
  (repeat (first | refine w1 (fun K hK => ?_) | refine w2 ?_ | refine w3 ?_ | ((first | refine w4 ?_ | refine w5 ?_ | refine w6 ?_ | refine w7 ?_); try refine sqo0 ?_) | (refine w8 ?_; refine sqo0 ?_; refine w9 ?_) | ((first | refine hK _ _ (w0 ?_) | (clear hK K; refine hK _ _ (w0 ?_)) | (clear hK K; clear hK K; refine hK _ _ (w0 ?_))); clear hK K)))
  refine (hs).mono ?_
  rintro r h' ⟨rfl, rfl⟩
  try refine sqo0 ?_
  (repeat (first | refine w1 (fun K hK => ?_) | refine w2 ?_ | refine w3 ?_ | ((first | refine w4 ?_ | refine w5 ?_ | refine w6 ?_ | refine w7 ?_); try refine sqo0 ?_) | (refine w8 ?_; refine sqo0 ?_; refine w9 ?_) | ((first | refine hK _ _ (w0 ?_) | (clear hK K; refine hK _ _ (w0 ?_)) | (clear hK K; clear hK K; refine hK _ _ (w0 ?_))); clear hK K)))
  first | refine (hQ _ _ ?_).1 | refine (hQ _ _ ?_).2
  refine sqo0 ?_
  first | refine Fin.same (.bool _) ⟨?_, rfl⟩ | refine Fin.plain (.bool _) ⟨?_, rfl⟩ | refine Fin.plainE (by simp only [List.append_assoc, List.cons_append, List.nil_append]; rfl) (.bool _) ⟨?_, rfl⟩
  rfl
 ·have hs := ContainsRune_high G c hR (by omega) h
  have e : blankP c = false := by unfold blankP; simp; omega
  refine Sat.body [.tmp 2] (fn := Tryz.f153) Tryz.func153 rfl rfl (by kernel_rfl) (by kernel_rfl) (by kernel_rfl) rfl ?_
  intro Q hQ
  (repeat (first | refine w1 (fun K hK => ?_) | refine w2 ?_ | refine w3 ?_ | ((first | refine w4 ?_ | refine w5 ?_ | refine w6 ?_ | refine w7 ?_); try refine sqo0 ?_) | (refine w8 ?_; refine sqo0 ?_; refine w9 ?_) | ((first | refine hK _ _ (w0 ?_) | (clear hK K; refine hK _ _ (w0 ?_)) | (clear hK K; clear hK K; refine hK _ _ (w0 ?_))); clear hK K)))
  refine (hs).mono ?_
  rintro r h' ⟨rfl, rfl⟩
  try refine sqo0 ?_
  (repeat (first | refine w1 (fun K hK => ?_) | refine w2 ?_ | refine w3 ?_ | ((first | refine w4 ?_ | refine w5 ?_ | refine w6 ?_ | refine w7 ?_); try refine sqo0 ?_) | (refine w8 ?_; refine sqo0 ?_; refine w9 ?_) | ((first | refine hK _ _ (w0 ?_) | (clear hK K; refine hK _ _ (w0 ?_)) | (clear hK K; clear hK K; refine hK _ _ (w0 ?_))); clear hK K)))
  first | refine (hQ _ _ ?_).1 | refine (hQ _ _ ?_).2
  refine sqo0 ?_
  first | refine Fin.same (.bool _) ⟨?_, rfl⟩ | refine Fin.plain (.bool _) ⟨?_, rfl⟩ | refine Fin.plainE (by simp only [List.append_assoc, List.cons_append, List.nil_append]; rfl) (.bool _) ⟨?_, rfl⟩
  rw [e]
theorem blank_by : ByByte blankP blankB false := ⟨fun _ _ => rfl, fun c hc _ => by unfold blankP; simp; omega, fun b hb => by unfold blankB blankP; simp; omega⟩
theorem more_by : ByByte moreF moreB false := ⟨fun _ _ => rfl, fun c hc _ => by unfold moreF; simp; omega, fun b hb => by unfold moreB moreF; simp; omega⟩
theorem blank_sat (s : Bs) (b : Bool) (hs : s.length ≤ 1073741824) (h j : Heap) : Sat (CT G) 128 [.hp h.length 0 0 0] (rdH h j s b)
  (fun r h' => r = .bool (!(s.takeWhile blankB == [])) ∧ h' = rdH h j (s.dropWhile blankB) b) := by
 have end_ := rd_fin h j [] (s.dropWhile blankB) s b b (x := .bool (!(s.takeWhile blankB == []))) (List.append_nil _).symm (fun _ => .bool _)
 refine Sat.body [.tmp 2] (fn := Tryz.f128) Tryz.func128 rfl rfl (by kernel_rfl) (by kernel_rfl) (by kernel_rfl) rfl ?_
 intro Q hQ
 (repeat (first | refine w1 (fun K hK => ?_) | refine w2 ?_ | refine w3 ?_ | ((first | refine w4 ?_ | refine w5 ?_ | refine w6 ?_ | refine w7 ?_); try refine sqo0 ?_) | (refine w8 ?_; refine sqo0 ?_; refine w9 ?_) | ((first | refine hK _ _ (w0 ?_) | (clear hK K; refine hK _ _ (w0 ?_)) | (clear hK K; clear hK K; refine hK _ _ (w0 ?_))); clear hK K)))
 refine (run_sat G blankP blankB false blank_by 153 s b hs h j (fun c k hc => blank1_sat G c hc k)).mono ?_
 rintro r h' ⟨rfl, rfl⟩
 try refine sqo0 ?_
 (repeat (first | refine w1 (fun K hK => ?_) | refine w2 ?_ | refine w3 ?_ | ((first | refine w4 ?_ | refine w5 ?_ | refine w6 ?_ | refine w7 ?_); try refine sqo0 ?_) | (refine w8 ?_; refine sqo0 ?_; refine w9 ?_) | ((first | refine hK _ _ (w0 ?_) | (clear hK K; refine hK _ _ (w0 ?_)) | (clear hK K; clear hK K; refine hK _ _ (w0 ?_))); clear hK K)))
 first | refine (hQ _ _ ?_).1 | refine (hQ _ _ ?_).2
 refine sqo0 ?_
 exact end_
theorem aconv_br (k : IntKind) (b : UInt8) : aconv Tryz.prog 5 21 (.int k b.toNat) = some (.int .i32 b.toNat) := by
 have hw : IntKind.wrap .i32 (b.toNat : Int) = b.toNat := by have := b.toNat_lt; rw [IntKind.wrap_i32]; omega
 simp only [aconv, go_sem, hw]
def badN (n : Bs) : Bool := match n with
 | [] => true
 | c :: _ => !(beginF c.toNat) || decide (64 < n.length)
def nameW (s : Bs) : Bs := s.takeWhile moreB
def nameR (s : Bs) : Bs := s.dropWhile moreB
theorem name_sat (s : Bs) (b : Bool) (hs : s.length ≤ 1073741824) (h j : Heap) : Sat (CT G) 127 [.hp h.length 0 0 0] (rdH h j s b)
  (fun r h' => r = .str (nameW s) ∧ h' = rdH h j (nameR s) (b || badN (nameW s))) := by
 have hl : (nameW s).length ≤ s.length := (List.takeWhile_sublist _).length_le
 have end_ := fun b1 => rd_fin h j [] (nameR s) s b1 b (x := .str (nameW s)) (List.append_nil _).symm (fun _ => .str _)
 have hr := run_sat G moreF moreB false more_by 151 s b hs h j (fun c k _ => goes_sat G c k)
 change Sat _ _ _ _ (fun r h' => r = .str (nameW s) ∧ h' = rdH h j (nameR s) b) at hr
 cases hn : nameW s with
 | nil =>
  rw [hn] at hr end_
  have hnn : (([] : Bs) == []) = true := rfl
  skip
  refine Sat.body [.tmp 2] (fn := Tryz.f127) Tryz.func127 rfl rfl (by kernel_rfl) (by kernel_rfl) (by kernel_rfl) rfl ?_
  intro Q hQ
  (repeat (first | refine w1 (fun K hK => ?_) | refine w2 ?_ | refine w3 ?_ | ((first | refine w4 ?_ | refine w5 ?_ | refine w6 ?_ | refine w7 ?_); try refine sqo1 hnn ?_) | (refine w8 ?_; refine sqo1 hnn ?_; refine w9 ?_) | ((first | refine hK _ _ (w0 ?_) | (clear hK K; refine hK _ _ (w0 ?_)) | (clear hK K; clear hK K; refine hK _ _ (w0 ?_))); clear hK K)))
  refine (hr).mono ?_
  rintro r h' ⟨rfl, rfl⟩
  try refine sqo1 hnn ?_
  (repeat (first | refine w1 (fun K hK => ?_) | refine w2 ?_ | refine w3 ?_ | ((first | refine w4 ?_ | refine w5 ?_ | refine w6 ?_ | refine w7 ?_); try refine sqo1 hnn ?_) | (refine w8 ?_; refine sqo1 hnn ?_; refine w9 ?_) | ((first | refine hK _ _ (w0 ?_) | (clear hK K; refine hK _ _ (w0 ?_)) | (clear hK K; clear hK K; refine hK _ _ (w0 ?_))); clear hK K)))
  first | refine (hQ _ _ ?_).1 | refine (hQ _ _ ?_).2
  refine sqo1 hnn ?_
  simp only [badN, Bool.or_true]
  exact end_ _
 | cons c t =>
  rw [hn] at hr end_ hl
  have hg : (c :: t)[0]? = some c := rfl
  have hw : IntKind.wrap .i32 c.toNat = c.toNat := by have := c.toNat_lt; rw [IntKind.wrap_i32]; omega
  have hnn : ((c :: t) == ([] : Bs)) = false := rfl
  have hbd : badN (c :: t) = (!(beginF c.toNat) || decide (64 < (c :: t).length)) := rfl
  skip
  refine Sat.body [.tmp 2] (fn := Tryz.f127) Tryz.func127 rfl rfl (by kernel_rfl) (by kernel_rfl) (by kernel_rfl) rfl ?_
  intro Q hQ
  (repeat (first | refine w1 (fun K hK => ?_) | refine w2 ?_ | refine w3 ?_ | ((first | refine w4 ?_ | refine w5 ?_ | refine w6 ?_ | refine w7 ?_); try refine sqo3 hg @aconv_br hnn ?_) | (refine w8 ?_; refine sqo3 hg @aconv_br hnn ?_; refine w9 ?_) | ((first | refine hK _ _ (w0 ?_) | (clear hK K; refine hK _ _ (w0 ?_)) | (clear hK K; clear hK K; refine hK _ _ (w0 ?_))); clear hK K)))
  refine (hr).mono ?_
  rintro r h' ⟨rfl, rfl⟩
  try refine sqo3 hg @aconv_br hnn ?_
  (repeat (first | refine w1 (fun K hK => ?_) | refine w2 ?_ | refine w3 ?_ | ((first | refine w4 ?_ | refine w5 ?_ | refine w6 ?_ | refine w7 ?_); try refine sqo3 hg @aconv_br hnn ?_) | (refine w8 ?_; refine sqo3 hg @aconv_br hnn ?_; refine w9 ?_) | ((first | refine hK _ _ (w0 ?_) | (clear hK K; refine hK _ _ (w0 ?_)) | (clear hK K; clear hK K; refine hK _ _ (w0 ?_))); clear hK K)))
  refine (begins_sat G c.toNat _).mono ?_
  rintro r h' ⟨rfl, rfl⟩
  try refine sqo3 hg @aconv_br hnn ?_
  (repeat (first | refine w1 (fun K hK => ?_) | refine w2 ?_ | refine w3 ?_ | ((first | refine w4 ?_ | refine w5 ?_ | refine w6 ?_ | refine w7 ?_); try refine sqo3 hg @aconv_br hnn ?_) | (refine w8 ?_; refine sqo3 hg @aconv_br hnn ?_; refine w9 ?_) | ((first | refine hK _ _ (w0 ?_) | (clear hK K; refine hK _ _ (w0 ?_)) | (clear hK K; clear hK K; refine hK _ _ (w0 ?_))); clear hK K)))
  (first | refine gqo3 hg @aconv_br hnn (fun hb => ?_) (fun hb => ?_) | refine pqo3 hg @aconv_br hnn (fun hb => ?_) (fun hb => ?_)) <;> (try exact hb.elim) <;> (try refine sqo3 hg @aconv_br hnn ?_) <;>
   (repeat (first | refine w1 (fun K hK => ?_) | refine w2 ?_ | refine w3 ?_ | ((first | refine w4 ?_ | refine w5 ?_ | refine w6 ?_ | refine w7 ?_); try refine sqo3 hg @aconv_br hnn ?_) | (refine w8 ?_; refine sqo3 hg @aconv_br hnn ?_; refine w9 ?_) | ((first | refine hK _ _ (w0 ?_) | (clear hK K; refine hK _ _ (w0 ?_)) | (clear hK K; clear hK K; refine hK _ _ (w0 ?_))); clear hK K)))
  ·first | refine (hQ _ _ ?_).1 | refine (hQ _ _ ?_).2
   refine sqo3 hg @aconv_br hnn ?_
   have e : badN (c :: t) = true := by rw [hbd]; simp [hb]
   rw [e, Bool.or_true] at *
   exact end_ _
  ·refine cqo3 hg @aconv_br hnn (fun hc => ?_) (fun hc => ?_) <;> (try exact hc.elim) <;>
    (repeat (first | refine w1 (fun K hK => ?_) | refine w2 ?_ | refine w3 ?_ | ((first | refine w4 ?_ | refine w5 ?_ | refine w6 ?_ | refine w7 ?_); try refine sqo3 hg @aconv_br hnn ?_) | (refine w8 ?_; refine sqo3 hg @aconv_br hnn ?_; refine w9 ?_) | ((first | refine hK _ _ (w0 ?_) | (clear hK K; refine hK _ _ (w0 ?_)) | (clear hK K; clear hK K; refine hK _ _ (w0 ?_))); clear hK K)))
   ·first | refine (hQ _ _ ?_).1 | refine (hQ _ _ ?_).2
    refine sqo3 hg @aconv_br hnn ?_
    have e : badN (c :: t) = true := by
     rw [hbd]
     have : 64 < (c :: t).length := by simp only [List.length_cons]; omega
     rw [decide_eq_true this, Bool.or_true]
    rw [e, Bool.or_true] at *
    exact end_ _
   ·first | refine (hQ _ _ ?_).1 | refine (hQ _ _ ?_).2
    refine sqo3 hg @aconv_br hnn ?_
    have e : badN (c :: t) = false := by
     rw [hbd]
     have : ¬ 64 < (c :: t).length := by simp only [List.length_cons]; omega
     rw [hb, decide_eq_false this]; rfl
    rw [e, Bool.or_false] at *
    exact end_ _
def valueF (s : Bs) (b : Bool) : Bs × Bs × Bool :=
 let q : Bs := if Lib.hasPrefix s [34] = true then [34] else [39]
 let s1 := Lib.trimPrefix s q
 let u := uptoF q s1 (b || !Lib.hasPrefix s q)
 (readP (u.1.length + 1) u.1, u.2.1, u.2.2 || Lib.contains u.1 [60])
theorem uptoF_len (w s : Bs) (b : Bool) : (uptoF w s b).1.length ≤ s.length ∧ (uptoF w s b).2.1.length ≤ s.length := by
 unfold uptoF
 split
 ·rename_i h
  have := cut_len s w h
  exact ⟨by simp only []; omega, by simp only []; omega⟩
 ·exact ⟨by simp, by simp⟩
theorem trim_len (s w : Bs) : (Lib.trimPrefix s w).length ≤ s.length := by
 unfold Lib.trimPrefix; split
 ·simp
 ·exact Nat.le_refl _
theorem value_sat (hG : GOk G) (s : Bs) (b : Bool) (hs : s.length ≤ 1048576) (h j : Heap) : Sat (CT G) 155 [.hp h.length 0 0 0] (rdH h j s b)
  (fun r h' => r = .str (valueF s b).1 ∧ h' = rdH h j (valueF s b).2.1 (valueF s b).2.2) := by
 cases hp : Lib.hasPrefix s [34] with
 | true =>
  have hl := trim_len s [34]
  have hu := uptoF_len [34] (Lib.trimPrefix s [34]) b
  have hv : valueF s b = (readP ((uptoF [34] (Lib.trimPrefix s [34]) b).1.length + 1) (uptoF [34] (Lib.trimPrefix s [34]) b).1, (uptoF [34] (Lib.trimPrefix s [34]) b).2.1, (uptoF [34] (Lib.trimPrefix s [34]) b).2.2 || Lib.contains (uptoF [34] (Lib.trimPrefix s [34]) b).1 [60]) := by
   simp [valueF, hp]
  have hus := upto_sat G hG [34] (Lib.trimPrefix s [34]) b (by omega) h j
  rw [hv]
  generalize uptoF [34] (Lib.trimPrefix s [34]) b = u at hu hus ⊢
  have end_ := fun b1 => rd_fin h j [] u.2.1 s b1 b (x := .str (readP (u.1.length + 1) u.1)) (List.append_nil _).symm (fun _ => .str _)
  have ht := take_sat G [34] s b h j
  rw [hp] at ht
  skip
  refine Sat.body [.tmp 2] (fn := Tryz.f155) Tryz.func155 rfl rfl (by kernel_rfl) (by kernel_rfl) (by kernel_rfl) rfl ?_
  intro Q hQ
  (repeat (first | refine w1 (fun K hK => ?_) | refine w2 ?_ | refine w3 ?_ | ((first | refine w4 ?_ | refine w5 ?_ | refine w6 ?_ | refine w7 ?_); try refine sqo1 @Bool.not_true ?_) | (refine w8 ?_; refine sqo1 @Bool.not_true ?_; refine w9 ?_) | ((first | refine hK _ _ (w0 ?_) | (clear hK K; refine hK _ _ (w0 ?_)) | (clear hK K; clear hK K; refine hK _ _ (w0 ?_))); clear hK K)))
  refine (ht).mono ?_
  rintro r h' ⟨rfl, rfl⟩
  try refine sqo1 @Bool.not_true ?_
  (repeat (first | refine w1 (fun K hK => ?_) | refine w2 ?_ | refine w3 ?_ | ((first | refine w4 ?_ | refine w5 ?_ | refine w6 ?_ | refine w7 ?_); try refine sqo1 @Bool.not_true ?_) | (refine w8 ?_; refine sqo1 @Bool.not_true ?_; refine w9 ?_) | ((first | refine hK _ _ (w0 ?_) | (clear hK K; refine hK _ _ (w0 ?_)) | (clear hK K; clear hK K; refine hK _ _ (w0 ?_))); clear hK K)))
  refine (hus).mono ?_
  rintro r h' ⟨rfl, rfl⟩
  try refine sqo1 @Bool.not_true ?_
  (repeat (first | refine w1 (fun K hK => ?_) | refine w2 ?_ | refine w3 ?_ | ((first | refine w4 ?_ | refine w5 ?_ | refine w6 ?_ | refine w7 ?_); try refine sqo1 @Bool.not_true ?_) | (refine w8 ?_; refine sqo1 @Bool.not_true ?_; refine w9 ?_) | ((first | refine hK _ _ (w0 ?_) | (clear hK K; refine hK _ _ (w0 ?_)) | (clear hK K; clear hK K; refine hK _ _ (w0 ?_))); clear hK K)))
  (first | refine gqo1 @Bool.not_true (fun g => ?_) (fun g => ?_) | refine pqo1 @Bool.not_true (fun g => ?_) (fun g => ?_)) <;> (try exact g.elim) <;> (try refine sqo1 @Bool.not_true ?_) <;>
   (repeat (first | refine w1 (fun K hK => ?_) | refine w2 ?_ | refine w3 ?_ | ((first | refine w4 ?_ | refine w5 ?_ | refine w6 ?_ | refine w7 ?_); try refine sqo1 @Bool.not_true ?_) | (refine w8 ?_; refine sqo1 @Bool.not_true ?_; refine w9 ?_) | ((first | refine hK _ _ (w0 ?_) | (clear hK K; refine hK _ _ (w0 ?_)) | (clear hK K; clear hK K; refine hK _ _ (w0 ?_))); clear hK K)))
  ·refine (Read_sat hG u.1 (by omega) _).mono ?_
   rintro r h' ⟨rfl, rfl⟩
   try refine sqo1 @Bool.not_true ?_
   (repeat (first | refine w1 (fun K hK => ?_) | refine w2 ?_ | refine w3 ?_ | ((first | refine w4 ?_ | refine w5 ?_ | refine w6 ?_ | refine w7 ?_); try refine sqo1 @Bool.not_true ?_) | (refine w8 ?_; refine sqo1 @Bool.not_true ?_; refine w9 ?_) | ((first | refine hK _ _ (w0 ?_) | (clear hK K; refine hK _ _ (w0 ?_)) | (clear hK K; clear hK K; refine hK _ _ (w0 ?_))); clear hK K)))
   first | refine (hQ _ _ ?_).1 | refine (hQ _ _ ?_).2
   refine sqo1 @Bool.not_true ?_
   rw [g, Bool.true_or] at *
   exact end_ _
  ·refine (Contains_sat G hG u.1 [60] (by omega) _).mono ?_
   rintro r h' ⟨rfl, rfl⟩
   try refine sqo1 @Bool.not_true ?_
   (repeat (first | refine w1 (fun K hK => ?_) | refine w2 ?_ | refine w3 ?_ | ((first | refine w4 ?_ | refine w5 ?_ | refine w6 ?_ | refine w7 ?_); try refine sqo1 @Bool.not_true ?_) | (refine w8 ?_; refine sqo1 @Bool.not_true ?_; refine w9 ?_) | ((first | refine hK _ _ (w0 ?_) | (clear hK K; refine hK _ _ (w0 ?_)) | (clear hK K; clear hK K; refine hK _ _ (w0 ?_))); clear hK K)))
   refine (Read_sat hG u.1 (by omega) _).mono ?_
   rintro r h' ⟨rfl, rfl⟩
   try refine sqo1 @Bool.not_true ?_
   (repeat (first | refine w1 (fun K hK => ?_) | refine w2 ?_ | refine w3 ?_ | ((first | refine w4 ?_ | refine w5 ?_ | refine w6 ?_ | refine w7 ?_); try refine sqo1 @Bool.not_true ?_) | (refine w8 ?_; refine sqo1 @Bool.not_true ?_; refine w9 ?_) | ((first | refine hK _ _ (w0 ?_) | (clear hK K; refine hK _ _ (w0 ?_)) | (clear hK K; clear hK K; refine hK _ _ (w0 ?_))); clear hK K)))
   first | refine (hQ _ _ ?_).1 | refine (hQ _ _ ?_).2
   refine sqo1 @Bool.not_true ?_
   rw [g, Bool.false_or] at *
   exact end_ _
 | false =>
  have hl := trim_len s [39]
  have hu := uptoF_len [39] (Lib.trimPrefix s [39]) (b || !Lib.hasPrefix s [39])
  have hv : valueF s b = (readP ((uptoF [39] (Lib.trimPrefix s [39]) (b || !Lib.hasPrefix s [39])).1.length + 1) (uptoF [39] (Lib.trimPrefix s [39]) (b || !Lib.hasPrefix s [39])).1, (uptoF [39] (Lib.trimPrefix s [39]) (b || !Lib.hasPrefix s [39])).2.1, (uptoF [39] (Lib.trimPrefix s [39]) (b || !Lib.hasPrefix s [39])).2.2 || Lib.contains (uptoF [39] (Lib.trimPrefix s [39]) (b || !Lib.hasPrefix s [39])).1 [60]) := by
   simp [valueF, hp]
  have hus := upto_sat G hG [39] (Lib.trimPrefix s [39]) (b || !Lib.hasPrefix s [39]) (by omega) h j
  rw [hv]
  generalize uptoF [39] (Lib.trimPrefix s [39]) (b || !Lib.hasPrefix s [39]) = u at hu hus ⊢
  have end_ := fun b1 => rd_fin h j [] u.2.1 s b1 b (x := .str (readP (u.1.length + 1) u.1)) (List.append_nil _).symm (fun _ => .str _)
  have htp : Lib.trimPrefix s [34] = s := by unfold Lib.trimPrefix; rw [if_neg (by simp [hp])]
  have ht := take_sat G [34] s b h j
  rw [hp, htp] at ht
  skip
  refine Sat.body [.tmp 2] (fn := Tryz.f155) Tryz.func155 rfl rfl (by kernel_rfl) (by kernel_rfl) (by kernel_rfl) rfl ?_
  intro Q hQ
  (repeat (first | refine w1 (fun K hK => ?_) | refine w2 ?_ | refine w3 ?_ | ((first | refine w4 ?_ | refine w5 ?_ | refine w6 ?_ | refine w7 ?_); try refine sqo1 @Bool.not_false ?_) | (refine w8 ?_; refine sqo1 @Bool.not_false ?_; refine w9 ?_) | ((first | refine hK _ _ (w0 ?_) | (clear hK K; refine hK _ _ (w0 ?_)) | (clear hK K; clear hK K; refine hK _ _ (w0 ?_))); clear hK K)))
  refine (ht).mono ?_
  rintro r h' ⟨rfl, rfl⟩
  try refine sqo1 @Bool.not_false ?_
  (repeat (first | refine w1 (fun K hK => ?_) | refine w2 ?_ | refine w3 ?_ | ((first | refine w4 ?_ | refine w5 ?_ | refine w6 ?_ | refine w7 ?_); try refine sqo1 @Bool.not_false ?_) | (refine w8 ?_; refine sqo1 @Bool.not_false ?_; refine w9 ?_) | ((first | refine hK _ _ (w0 ?_) | (clear hK K; refine hK _ _ (w0 ?_)) | (clear hK K; clear hK K; refine hK _ _ (w0 ?_))); clear hK K)))
  refine (must_sat G [39] s b h j).mono ?_
  rintro r h' ⟨rfl, rfl⟩
  try refine sqo1 @Bool.not_false ?_
  (repeat (first | refine w1 (fun K hK => ?_) | refine w2 ?_ | refine w3 ?_ | ((first | refine w4 ?_ | refine w5 ?_ | refine w6 ?_ | refine w7 ?_); try refine sqo1 @Bool.not_false ?_) | (refine w8 ?_; refine sqo1 @Bool.not_false ?_; refine w9 ?_) | ((first | refine hK _ _ (w0 ?_) | (clear hK K; refine hK _ _ (w0 ?_)) | (clear hK K; clear hK K; refine hK _ _ (w0 ?_))); clear hK K)))
  refine (hus).mono ?_
  rintro r h' ⟨rfl, rfl⟩
  try refine sqo1 @Bool.not_false ?_
  (repeat (first | refine w1 (fun K hK => ?_) | refine w2 ?_ | refine w3 ?_ | ((first | refine w4 ?_ | refine w5 ?_ | refine w6 ?_ | refine w7 ?_); try refine sqo1 @Bool.not_false ?_) | (refine w8 ?_; refine sqo1 @Bool.not_false ?_; refine w9 ?_) | ((first | refine hK _ _ (w0 ?_) | (clear hK K; refine hK _ _ (w0 ?_)) | (clear hK K; clear hK K; refine hK _ _ (w0 ?_))); clear hK K)))
  (first | refine gqo1 @Bool.not_false (fun g => ?_) (fun g => ?_) | refine pqo1 @Bool.not_false (fun g => ?_) (fun g => ?_)) <;> (try exact g.elim) <;> (try refine sqo1 @Bool.not_false ?_) <;>
   (repeat (first | refine w1 (fun K hK => ?_) | refine w2 ?_ | refine w3 ?_ | ((first | refine w4 ?_ | refine w5 ?_ | refine w6 ?_ | refine w7 ?_); try refine sqo1 @Bool.not_false ?_) | (refine w8 ?_; refine sqo1 @Bool.not_false ?_; refine w9 ?_) | ((first | refine hK _ _ (w0 ?_) | (clear hK K; refine hK _ _ (w0 ?_)) | (clear hK K; clear hK K; refine hK _ _ (w0 ?_))); clear hK K)))
  ·refine (Read_sat hG u.1 (by omega) _).mono ?_
   rintro r h' ⟨rfl, rfl⟩
   try refine sqo1 @Bool.not_false ?_
   (repeat (first | refine w1 (fun K hK => ?_) | refine w2 ?_ | refine w3 ?_ | ((first | refine w4 ?_ | refine w5 ?_ | refine w6 ?_ | refine w7 ?_); try refine sqo1 @Bool.not_false ?_) | (refine w8 ?_; refine sqo1 @Bool.not_false ?_; refine w9 ?_) | ((first | refine hK _ _ (w0 ?_) | (clear hK K; refine hK _ _ (w0 ?_)) | (clear hK K; clear hK K; refine hK _ _ (w0 ?_))); clear hK K)))
   first | refine (hQ _ _ ?_).1 | refine (hQ _ _ ?_).2
   refine sqo1 @Bool.not_false ?_
   rw [g, Bool.true_or] at *
   exact end_ _
  ·refine (Contains_sat G hG u.1 [60] (by omega) _).mono ?_
   rintro r h' ⟨rfl, rfl⟩
   try refine sqo1 @Bool.not_false ?_
   (repeat (first | refine w1 (fun K hK => ?_) | refine w2 ?_ | refine w3 ?_ | ((first | refine w4 ?_ | refine w5 ?_ | refine w6 ?_ | refine w7 ?_); try refine sqo1 @Bool.not_false ?_) | (refine w8 ?_; refine sqo1 @Bool.not_false ?_; refine w9 ?_) | ((first | refine hK _ _ (w0 ?_) | (clear hK K; refine hK _ _ (w0 ?_)) | (clear hK K; clear hK K; refine hK _ _ (w0 ?_))); clear hK K)))
   refine (Read_sat hG u.1 (by omega) _).mono ?_
   rintro r h' ⟨rfl, rfl⟩
   try refine sqo1 @Bool.not_false ?_
   (repeat (first | refine w1 (fun K hK => ?_) | refine w2 ?_ | refine w3 ?_ | ((first | refine w4 ?_ | refine w5 ?_ | refine w6 ?_ | refine w7 ?_); try refine sqo1 @Bool.not_false ?_) | (refine w8 ?_; refine sqo1 @Bool.not_false ?_; refine w9 ?_) | ((first | refine hK _ _ (w0 ?_) | (clear hK K; refine hK _ _ (w0 ?_)) | (clear hK K; clear hK K; refine hK _ _ (w0 ?_))); clear hK K)))
   first | refine (hQ _ _ ?_).1 | refine (hQ _ _ ?_).2
   refine sqo1 @Bool.not_false ?_
   rw [g, Bool.false_or] at *
   exact end_ _
end Go.Av
namespace Go.Av
open Go Go.Proofs Go.RowKit
attribute [local irreducible] WP WPl WPix Sat
set_option maxRecDepth 100000
set_option maxHeartbeats 1000000
variable (G : Nat → Option (List AVal))
attribute [go_sem] rdH_len
@[go_sem] theorem getRow_rdHk (h j l : Heap) (s : Bs) (b : Bool) (k v : Nat) : getRow (rdH h j s b ++ l) (h.length + (1 + (j.length + k))) v = getRow l k v := by
 rw [show h.length + (1 + (j.length + k)) = (rdH h j s b).length + k by rw [rdH_len]; omega]; exact getRow_app _ l k v
@[go_sem] theorem getRow_rdHz (h j l : Heap) (s : Bs) (b : Bool) (v : Nat) : getRow (rdH h j s b ++ l) (h.length + (1 + j.length)) v = getRow l 0 v := getRow_rdHk h j l s b 0 v
@[go_sem] theorem set_rdHk (h j l : Heap) (s : Bs) (b : Bool) (k : Nat) (x : Blk) : (rdH h j s b ++ l).set (h.length + (1 + (j.length + k))) x = rdH h j s b ++ l.set k x := by
 rw [show h.length + (1 + (j.length + k)) = (rdH h j s b).length + k by rw [rdH_len]; omega]; exact set_app _ l k x
@[go_sem] theorem set_rdHz (h j l : Heap) (s : Bs) (b : Bool) (x : Blk) : (rdH h j s b ++ l).set (h.length + (1 + j.length)) x = rdH h j s b ++ l.set 0 x := set_rdHk h j l s b 0 x
theorem rdH_app (h j l : Heap) (s : Bs) (b : Bool) : rdH h j s b ++ l = rdH h (j ++ l) s b := by simp [rdH]
theorem sat_app {f : FuncId} {args : List AVal} {h j l : Heap} {s : Bs} {b : Bool} {x : AVal} {s1 : Bs} {b1 : Bool} (g : ∀ j, Sat (CT G) f args (rdH h j s b) (fun r h' => r = x ∧ h' = rdH h j s1 b1)) :
  Sat (CT G) f args (rdH h j s b ++ l) (fun r h' => r = x ∧ h' = rdH h j s1 b1 ++ l) := by
 rw [rdH_app]
 refine (g (j ++ l)).mono fun r h' ⟨e1, e2⟩ => ⟨e1, by rw [e2, rdH_app]⟩
def attrX (s : Bs) (b : Bool) : At × Bs × Bool :=
 let n := nameW s
 let b1 := b || badN n
 let s2 := (nameR s).dropWhile blankB
 let b3 := b1 || !Lib.hasPrefix s2 [61]
 let s4 := (Lib.trimPrefix s2 [61]).dropWhile blankB
 if b3 = true then ((n, []), s4, b3) else ((n, (valueF s4 b3).1), (valueF s4 b3).2.1, (valueF s4 b3).2.2)
theorem drop_len (p : UInt8 → Bool) (s : Bs) : (s.dropWhile p).length ≤ s.length := (List.dropWhile_sublist p).length_le
theorem attr_sat (hG : GOk G) (s : Bs) (b : Bool) (hs : s.length ≤ 1048576) (h j : Heap) : Sat (CT G) 130 [.hp h.length 0 0 0] (rdH h j s b)
  (fun r h' => r = (attrX s b).1.av ∧ h' = rdH h j (attrX s b).2.1 (attrX s b).2.2) := by
 have h1 : (nameR s).length ≤ s.length := drop_len _ _
 have h2 := drop_len blankB (nameR s)
 have h3 := trim_len ((nameR s).dropWhile blankB) [61]
 have h4 := drop_len blankB (Lib.trimPrefix ((nameR s).dropWhile blankB) [61])
 have c1 : ∀ l, Sat (CT G) 127 [.hp h.length 0 0 0] (rdH h j s b ++ l) _ := fun l => sat_app G (l := l) fun j => name_sat G s b (by omega) h j
 have c2 : ∀ l b1, Sat (CT G) 128 [.hp h.length 0 0 0] (rdH h j (nameR s) b1 ++ l) _ := fun l b1 => sat_app G (l := l) fun j => blank_sat G (nameR s) b1 (by omega) h j
 have c3 : ∀ l b1, Sat (CT G) 129 [.hp h.length 0 0 0, .str [61]] (rdH h j ((nameR s).dropWhile blankB) b1 ++ l) _ := fun l b1 => sat_app G (l := l) fun j => must_sat G [61] ((nameR s).dropWhile blankB) b1 h j
 have c4 : ∀ l b1, Sat (CT G) 128 [.hp h.length 0 0 0] (rdH h j (Lib.trimPrefix ((nameR s).dropWhile blankB) [61]) b1 ++ l) _ := fun l b1 => sat_app G (l := l) fun j => blank_sat G _ b1 (by omega) h j
 have c5 : ∀ l b1, Sat (CT G) 155 [.hp h.length 0 0 0] (rdH h j ((Lib.trimPrefix ((nameR s).dropWhile blankB) [61]).dropWhile blankB) b1 ++ l) _ := fun l b1 => sat_app G (l := l) fun j => value_sat G hG _ b1 (by omega) h j
 refine Sat.body [.cell 2 67] (fn := Tryz.f130) Tryz.func130 rfl rfl (by kernel_rfl) (by kernel_rfl) (by kernel_rfl) rfl ?_
 intro Q hQ
 (repeat (first | refine w1 (fun K hK => ?_) | refine w2 ?_ | refine w3 ?_ | ((first | refine w4 ?_ | refine w5 ?_ | refine w6 ?_ | refine w7 ?_); try refine sqo0 ?_) | (refine w8 ?_; refine sqo0 ?_; refine w9 ?_) | ((first | refine hK _ _ (w0 ?_) | (clear hK K; refine hK _ _ (w0 ?_)) | (clear hK K; clear hK K; refine hK _ _ (w0 ?_))); clear hK K)))
 refine (c1 _).mono ?_
 rintro r h' ⟨rfl, rfl⟩
 try refine sqo0 ?_
 (repeat (first | refine w1 (fun K hK => ?_) | refine w2 ?_ | refine w3 ?_ | ((first | refine w4 ?_ | refine w5 ?_ | refine w6 ?_ | refine w7 ?_); try refine sqo0 ?_) | (refine w8 ?_; refine sqo0 ?_; refine w9 ?_) | ((first | refine hK _ _ (w0 ?_) | (clear hK K; refine hK _ _ (w0 ?_)) | (clear hK K; clear hK K; refine hK _ _ (w0 ?_))); clear hK K)))
 refine (c2 _ _).mono ?_
 rintro r h' ⟨rfl, rfl⟩
 try refine sqo0 ?_
 (repeat (first | refine w1 (fun K hK => ?_) | refine w2 ?_ | refine w3 ?_ | ((first | refine w4 ?_ | refine w5 ?_ | refine w6 ?_ | refine w7 ?_); try refine sqo0 ?_) | (refine w8 ?_; refine sqo0 ?_; refine w9 ?_) | ((first | refine hK _ _ (w0 ?_) | (clear hK K; refine hK _ _ (w0 ?_)) | (clear hK K; clear hK K; refine hK _ _ (w0 ?_))); clear hK K)))
 refine (c3 _ _).mono ?_
 rintro r h' ⟨rfl, rfl⟩
 try refine sqo0 ?_
 (repeat (first | refine w1 (fun K hK => ?_) | refine w2 ?_ | refine w3 ?_ | ((first | refine w4 ?_ | refine w5 ?_ | refine w6 ?_ | refine w7 ?_); try refine sqo0 ?_) | (refine w8 ?_; refine sqo0 ?_; refine w9 ?_) | ((first | refine hK _ _ (w0 ?_) | (clear hK K; refine hK _ _ (w0 ?_)) | (clear hK K; clear hK K; refine hK _ _ (w0 ?_))); clear hK K)))
 refine (c4 _ _).mono ?_
 rintro r h' ⟨rfl, rfl⟩
 try refine sqo0 ?_
 (repeat (first | refine w1 (fun K hK => ?_) | refine w2 ?_ | refine w3 ?_ | ((first | refine w4 ?_ | refine w5 ?_ | refine w6 ?_ | refine w7 ?_); try refine sqo0 ?_) | (refine w8 ?_; refine sqo0 ?_; refine w9 ?_) | ((first | refine hK _ _ (w0 ?_) | (clear hK K; refine hK _ _ (w0 ?_)) | (clear hK K; clear hK K; refine hK _ _ (w0 ?_))); clear hK K)))
 refine cqo0 (fun hc => ?_) (fun hc => ?_) <;> (try exact hc.elim) <;>
  (repeat (first | refine w1 (fun K hK => ?_) | refine w2 ?_ | refine w3 ?_ | ((first | refine w4 ?_ | refine w5 ?_ | refine w6 ?_ | refine w7 ?_); try refine sqo0 ?_) | (refine w8 ?_; refine sqo0 ?_; refine w9 ?_) | ((first | refine hK _ _ (w0 ?_) | (clear hK K; refine hK _ _ (w0 ?_)) | (clear hK K; clear hK K; refine hK _ _ (w0 ?_))); clear hK K)))
 ·refine (c5 _ _).mono ?_
  rintro r h' ⟨rfl, rfl⟩
  try refine sqo0 ?_
  (repeat (first | refine w1 (fun K hK => ?_) | refine w2 ?_ | refine w3 ?_ | ((first | refine w4 ?_ | refine w5 ?_ | refine w6 ?_ | refine w7 ?_); try refine sqo0 ?_) | (refine w8 ?_; refine sqo0 ?_; refine w9 ?_) | ((first | refine hK _ _ (w0 ?_) | (clear hK K; refine hK _ _ (w0 ?_)) | (clear hK K; clear hK K; refine hK _ _ (w0 ?_))); clear hK K)))
  first | refine (hQ _ _ ?_).1 | refine (hQ _ _ ?_).2
  simp (disch := first | omega | (simp only [go_sem, ↓reduceIte, Nat.reduceEqDiff]; done) | fail) only [go_sem, ↓reduceIte, Int.reduceToNat, Int.reduceLE, Int.reduceLT, Int.reduceSub, Int.reduceAdd, Nat.reduceEqDiff, Nat.reduceAdd, Nat.reduceLeDiff, Nat.reduceLT, Nat.reduceMul, Nat.reduceSub, resA, resL, resA1]
  have e : attrX s b = ((nameW s, (valueF _ _).1), (valueF _ _).2.1, (valueF _ _).2.2) := if_neg (by simp [hc])
  rw [e]
  exact rd_fin h j _ _ s _ b rfl (fun n => .agg _ (by intro c hc; simp at hc; rcases hc with rfl | rfl <;> exact .str _))
 ·first | refine (hQ _ _ ?_).1 | refine (hQ _ _ ?_).2
  simp (disch := first | omega | (simp only [go_sem, ↓reduceIte, Nat.reduceEqDiff]; done) | fail) only [go_sem, ↓reduceIte, Int.reduceToNat, Int.reduceLE, Int.reduceLT, Int.reduceSub, Int.reduceAdd, Nat.reduceEqDiff, Nat.reduceAdd, Nat.reduceLeDiff, Nat.reduceLT, Nat.reduceMul, Nat.reduceSub, resA, resL, resA1]
  have e : attrX s b = ((nameW s, []), _, _) := if_pos (by simpa using hc)
  rw [e]
  exact rd_fin h j _ _ s _ b rfl (fun n => .agg _ (by intro c hc; simp at hc; rcases hc with rfl | rfl <;> exact .str _))
end Go.Av
namespace Go.Av
open Go Go.Proofs Go.RowKit
attribute [local irreducible] WP WPl WPix Sat
set_option maxRecDepth 100000
set_option maxHeartbeats 1000000
variable (G : Nat → Option (List AVal))
theorem named1_sat (a : At) (w : Bs) (h : Heap) : Sat (CT G) 157 [a.av, .hp h.length 0 0 0] (h ++ [.row 9 1 0 [.str w]])
  (fun r h' => r = .bool (a.1 == w) ∧ h' = h ++ [.row 9 1 0 [.str w]]) := by
 obtain ⟨n, v⟩ := a
 show Sat _ _ [.agg [.str n, .str v], _] _ _
 refine Sat.body [.tmp 3] (fn := Tryz.f157) Tryz.func157 rfl rfl (by kernel_rfl) (by kernel_rfl) (by kernel_rfl) rfl ?_
 intro Q hQ
 (repeat (first | refine w1 (fun K hK => ?_) | refine w2 ?_ | refine w3 ?_ | ((first | refine w4 ?_ | refine w5 ?_ | refine w6 ?_ | refine w7 ?_); try refine sqo0 ?_) | (refine w8 ?_; refine sqo0 ?_; refine w9 ?_) | ((first | refine hK _ _ (w0 ?_) | (clear hK K; refine hK _ _ (w0 ?_)) | (clear hK K; clear hK K; refine hK _ _ (w0 ?_))); clear hK K)))
 (repeat (first | refine w1 (fun K hK => ?_) | refine w2 ?_ | refine w3 ?_ | ((first | refine w4 ?_ | refine w5 ?_ | refine w6 ?_ | refine w7 ?_); try refine sqo0 ?_) | (refine w8 ?_; refine sqo0 ?_; refine w9 ?_) | ((first | refine hK _ _ (w0 ?_) | (clear hK K; refine hK _ _ (w0 ?_)) | (clear hK K; clear hK K; refine hK _ _ (w0 ?_))); clear hK K)))
 first | refine (hQ _ _ ?_).1 | refine (hQ _ _ ?_).2
 refine sqo0 ?_
 exact Fin.plainE (j := _) (List.append_assoc h [_] [_]).symm (.bool _) ⟨rfl, rfl⟩
def idxG (p : At → Bool) (l : List At) : Int := match l.findIdx? p with
 | some i => i
 | none => -1
theorem idxG_any (p : At → Bool) (l : List At) : decide (0 ≤ idxG p l) = l.any p := by
 unfold idxG
 cases h : l.findIdx? p with
 | some i =>
  rw [List.findIdx?_eq_some_iff_getElem] at h
  obtain ⟨hi, h1, _⟩ := h
  have : l.any p = true := List.any_eq_true.2 ⟨l[i], List.getElem_mem hi, h1⟩
  rw [this]; simp
 | none =>
  rw [List.findIdx?_eq_none_iff] at h
  have : l.any p = false := by rw [List.any_eq_false]; intro a ha; simp [h a ha]
  rw [this]; rfl
end Go.Av
namespace Go.Av
open Go Go.Proofs Go.RowKit
attribute [local irreducible] WP WPl WPix Sat
set_option maxRecDepth 100000
set_option maxHeartbeats 1000000
variable (G : Nat → Option (List AVal))
theorem text_sat (s : Bs) (h : Heap) : Sat (CT G) 101 [.str s] h (fun r h' => r = .sl 4 ([(3, [], [], s)].map Tok.av) ∧ h' = h) := by
 skip
 refine Sat.body [.tmp 2] (fn := Tryz.f101) Tryz.func101 rfl rfl (by kernel_rfl) (by kernel_rfl) (by kernel_rfl) rfl ?_
 intro Q hQ
 (repeat (first | refine w1 (fun K hK => ?_) | refine w2 ?_ | refine w3 ?_ | ((first | refine w4 ?_ | refine w5 ?_ | refine w6 ?_ | refine w7 ?_); try refine sqo0 ?_) | (refine w8 ?_; refine sqo0 ?_; refine w9 ?_) | (refine xqo0 ?_; try refine sqo0 ?_) | ((first | refine hK _ _ (w0 ?_) | (clear hK K; refine hK _ _ (w0 ?_)) | (clear hK K; clear hK K; refine hK _ _ (w0 ?_))); clear hK K)))
 (repeat (first | refine w1 (fun K hK => ?_) | refine w2 ?_ | refine w3 ?_ | ((first | refine w4 ?_ | refine w5 ?_ | refine w6 ?_ | refine w7 ?_); try refine sqo0 ?_) | (refine w8 ?_; refine sqo0 ?_; refine w9 ?_) | (refine xqo0 ?_; try refine sqo0 ?_) | ((first | refine hK _ _ (w0 ?_) | (clear hK K; refine hK _ _ (w0 ?_)) | (clear hK K; clear hK K; refine hK _ _ (w0 ?_))); clear hK K)))
 first | refine (hQ _ _ ?_).1 | refine (hQ _ _ ?_).2
 refine sqo0 ?_
 have fz := frz_toks1 (h0 := h) (h1 := h ++ [.row 83 4 0 [.agg [.int .i64 3, .str [], .nil (.slice none 0 0), .str s]]]) (pre := h) (post := []) [] 3 [] s rfl rfl (Nat.le_refl _)
 exact Fin.frz fz ⟨rfl, rfl⟩
theorem rd_finF (h j jj : Heap) (s s0 : Bs) (b b0 : Bool) {h2 : Heap} {x y : AVal} (hh : h2 = rdH h j s b ++ jj) (hx : Frz h2 (rdH h j s0 b0).length x y) : Fin (rdH h j s0 b0) h2 (fun r h' => r = y ∧ h' = rdH h j s b) x := by
 subst hh
 exact Fin.keepF (by simp only [rdH_len]) (fun p k hk => rd_keep _ _ _ _ _ _ _ p k hk) hx ⟨rfl, rfl⟩
def kindF (s : Bs) (b : Bool) : Bs × Bool :=
 let u := uptoF [62] s b
 (u.2.1, Lib.contains u.1 [91] || u.2.2)
theorem kind_sat (hG : GOk G) (s : Bs) (b : Bool) (hs : s.length ≤ 1048576) (h j : Heap) : Sat (CT G) 100 [.hp h.length 0 0 0] (rdH h j s b)
  (fun r h' => r = .sl 4 [] ∧ h' = rdH h j (kindF s b).1 (kindF s b).2) := by
 have hu := uptoF_len [62] s b
 have hus := upto_sat G hG [62] s b (by omega) h j
 have hv : kindF s b = ((uptoF [62] s b).2.1, Lib.contains (uptoF [62] s b).1 [91] || (uptoF [62] s b).2.2) := rfl
 rw [hv]
 generalize uptoF [62] s b = u at hu hus ⊢
 refine Sat.body [.tmp 2] (fn := Tryz.f100) Tryz.func100 rfl rfl (by kernel_rfl) (by kernel_rfl) (by kernel_rfl) rfl ?_
 intro Q hQ
 (repeat (first | refine w1 (fun K hK => ?_) | refine w2 ?_ | refine w3 ?_ | ((first | refine w4 ?_ | refine w5 ?_ | refine w6 ?_ | refine w7 ?_); try refine sqo0 ?_) | (refine w8 ?_; refine sqo0 ?_; refine w9 ?_) | ((first | refine hK _ _ (w0 ?_) | (clear hK K; refine hK _ _ (w0 ?_)) | (clear hK K; clear hK K; refine hK _ _ (w0 ?_))); clear hK K)))
 refine (hus).mono ?_
 rintro r h' ⟨rfl, rfl⟩
 try refine sqo0 ?_
 (repeat (first | refine w1 (fun K hK => ?_) | refine w2 ?_ | refine w3 ?_ | ((first | refine w4 ?_ | refine w5 ?_ | refine w6 ?_ | refine w7 ?_); try refine sqo0 ?_) | (refine w8 ?_; refine sqo0 ?_; refine w9 ?_) | ((first | refine hK _ _ (w0 ?_) | (clear hK K; refine hK _ _ (w0 ?_)) | (clear hK K; clear hK K; refine hK _ _ (w0 ?_))); clear hK K)))
 refine (Contains_sat G hG u.1 [91] (by omega) _).mono ?_
 rintro r h' ⟨rfl, rfl⟩
 try refine sqo0 ?_
 (repeat (first | refine w1 (fun K hK => ?_) | refine w2 ?_ | refine w3 ?_ | ((first | refine w4 ?_ | refine w5 ?_ | refine w6 ?_ | refine w7 ?_); try refine sqo0 ?_) | (refine w8 ?_; refine sqo0 ?_; refine w9 ?_) | ((first | refine hK _ _ (w0 ?_) | (clear hK K; refine hK _ _ (w0 ?_)) | (clear hK K; clear hK K; refine hK _ _ (w0 ?_))); clear hK K)))
 have end_ := fun b1 => rd_finF h j [] u.2.1 s b1 b (x := .nil (.slice none 0 0)) (y := .sl 4 []) (List.append_nil _).symm (Frz.nils 4)
 (first | refine gqo0 (fun g => ?_) (fun g => ?_) | refine pqo0 (fun g => ?_) (fun g => ?_)) <;> (try exact g.elim) <;> (try refine sqo0 ?_) <;>
  (repeat (first | refine w1 (fun K hK => ?_) | refine w2 ?_ | refine w3 ?_ | ((first | refine w4 ?_ | refine w5 ?_ | refine w6 ?_ | refine w7 ?_); try refine sqo0 ?_) | (refine w8 ?_; refine sqo0 ?_; refine w9 ?_) | ((first | refine hK _ _ (w0 ?_) | (clear hK K; refine hK _ _ (w0 ?_)) | (clear hK K; clear hK K; refine hK _ _ (w0 ?_))); clear hK K)))
 ·first | refine (hQ _ _ ?_).1 | refine (hQ _ _ ?_).2
  refine sqo0 ?_
  rw [g, Bool.true_or] at *
  exact end_ _
 ·first | refine (hQ _ _ ?_).1 | refine (hQ _ _ ?_).2
  refine sqo0 ?_
  rw [g, Bool.false_or] at *
  exact end_ _
def closeF (s : Bs) (b : Bool) : Bs × Bool :=
 let s2 := (nameR s).dropWhile blankB
 (Lib.trimPrefix s2 [62], (b || badN (nameW s)) || !Lib.hasPrefix s2 [62])
theorem close_sat (s : Bs) (b : Bool) (hs : s.length ≤ 1048576) (h j : Heap) : Sat (CT G) 102 [.hp h.length 0 0 0] (rdH h j s b)
  (fun r h' => r = .sl 4 ([(2, nameW s, [], [])].map Tok.av) ∧ h' = rdH h j (closeF s b).1 (closeF s b).2) := by
 have h1 : (nameR s).length ≤ s.length := drop_len _ _
 have c1 : ∀ l, Sat (CT G) 127 [.hp h.length 0 0 0] (rdH h j s b ++ l) _ := fun l => sat_app G (l := l) fun j => name_sat G s b (by omega) h j
 have c2 : ∀ l b1, Sat (CT G) 128 [.hp h.length 0 0 0] (rdH h j (nameR s) b1 ++ l) _ := fun l b1 => sat_app G (l := l) fun j => blank_sat G (nameR s) b1 (by omega) h j
 have c3 : ∀ l b1, Sat (CT G) 129 [.hp h.length 0 0 0, .str [62]] (rdH h j ((nameR s).dropWhile blankB) b1 ++ l) _ := fun l b1 => sat_app G (l := l) fun j => must_sat G [62] ((nameR s).dropWhile blankB) b1 h j
 refine Sat.body [.tmp 2] (fn := Tryz.f102) Tryz.func102 rfl rfl (by kernel_rfl) (by kernel_rfl) (by kernel_rfl) rfl ?_
 intro Q hQ
 (repeat (first | refine w1 (fun K hK => ?_) | refine w2 ?_ | refine w3 ?_ | ((first | refine w4 ?_ | refine w5 ?_ | refine w6 ?_ | refine w7 ?_); try refine sqo0 ?_) | (refine w8 ?_; refine sqo0 ?_; refine w9 ?_) | (refine xqo0 ?_; try refine sqo0 ?_) | ((first | refine hK _ _ (w0 ?_) | (clear hK K; refine hK _ _ (w0 ?_)) | (clear hK K; clear hK K; refine hK _ _ (w0 ?_))); clear hK K)))
 refine (name_sat G s b (by omega) h j).mono ?_
 rintro r h' ⟨rfl, rfl⟩
 try refine sqo0 ?_
 (repeat (first | refine w1 (fun K hK => ?_) | refine w2 ?_ | refine w3 ?_ | ((first | refine w4 ?_ | refine w5 ?_ | refine w6 ?_ | refine w7 ?_); try refine sqo0 ?_) | (refine w8 ?_; refine sqo0 ?_; refine w9 ?_) | (refine xqo0 ?_; try refine sqo0 ?_) | ((first | refine hK _ _ (w0 ?_) | (clear hK K; refine hK _ _ (w0 ?_)) | (clear hK K; clear hK K; refine hK _ _ (w0 ?_))); clear hK K)))
 refine (c2 _ _).mono ?_
 rintro r h' ⟨rfl, rfl⟩
 try refine sqo0 ?_
 (repeat (first | refine w1 (fun K hK => ?_) | refine w2 ?_ | refine w3 ?_ | ((first | refine w4 ?_ | refine w5 ?_ | refine w6 ?_ | refine w7 ?_); try refine sqo0 ?_) | (refine w8 ?_; refine sqo0 ?_; refine w9 ?_) | (refine xqo0 ?_; try refine sqo0 ?_) | ((first | refine hK _ _ (w0 ?_) | (clear hK K; refine hK _ _ (w0 ?_)) | (clear hK K; clear hK K; refine hK _ _ (w0 ?_))); clear hK K)))
 refine (c3 _ _).mono ?_
 rintro r h' ⟨rfl, rfl⟩
 try refine sqo0 ?_
 (repeat (first | refine w1 (fun K hK => ?_) | refine w2 ?_ | refine w3 ?_ | ((first | refine w4 ?_ | refine w5 ?_ | refine w6 ?_ | refine w7 ?_); try refine sqo0 ?_) | (refine w8 ?_; refine sqo0 ?_; refine w9 ?_) | (refine xqo0 ?_; try refine sqo0 ?_) | ((first | refine hK _ _ (w0 ?_) | (clear hK K; refine hK _ _ (w0 ?_)) | (clear hK K; clear hK K; refine hK _ _ (w0 ?_))); clear hK K)))
 first | refine (hQ _ _ ?_).1 | refine (hQ _ _ ?_).2
 refine sqo0 ?_
 refine rd_finF h j _ _ s _ b rfl ?_
 exact frz_toks1 (pre := rdH h j _ _ ++ [_]) (post := []) [] 2 (nameW s) [] (List.append_assoc _ [_] [_]).symm (by simp [rdH_len]; try omega) (by simp [rdH_len]; try omega)
end Go.Av
namespace Go.Av
open Go Go.Proofs Go.RowKit
attribute [local irreducible] WP WPl WPix Sat
set_option maxRecDepth 100000
set_option maxHeartbeats 1000000
structure FrzR (h : Heap) (n : Nat) (r s : AVal) : Prop where
 all : Frz h n r s
 len : r.cells.length = s.cells.length
 sto : ∀ d ∈ s.cells, d.sto = true
 cell : ∀ (j : Nat) (c d : AVal), r.cells[j]? = some c → s.cells[j]? = some d → Frz h n c d
theorem Frz.rows {h : Heap} {n q v e m : Nat} {rows es : List AVal} {len : Nat} {room : Bool} (hq : n ≤ q) (hg : getRow h q v = some (e, m, rows)) (hlen : len = rows.length) (hl : es.length = rows.length)
  (hp : ∀ (i : Nat) (r s : AVal), rows[i]? = some r → es[i]? = some s → FrzR h n r s) : Frz h n (.hs q v 0 len room) (.sl m es) := by
 subst hlen
 have := Frz.hs (h := h) (n := n) q v 0 rows.length room e m rows es hq hg (by omega) hl (fun i r s hr hs => (hp i r s hr hs).all)
  (fun i r s hr hs => ⟨(hp i r s hr hs).len, fun j c d _ hd => (hp i r s hr hs).sto d (List.mem_of_getElem? hd)⟩) (fun i r s j c d hr hs hc hd => (hp i r s hr hs).cell j c d hc hd)
 rw [List.drop_zero, ← hl, List.take_length] at this
 rw [← hl]; exact this
theorem FrzR.clo {h : Heap} {n : Nat} {r : AVal} (hc : Clo n r) (hs : ∀ d ∈ r.cells, d.sto = true) : FrzR h n r r :=
 ⟨.clo _ hc, rfl, hs, fun j c d h1 h2 => by rw [h1] at h2; cases h2; exact .clo _ (hc.cells c (List.mem_of_getElem? h1))⟩
theorem FrzR.agg {h : Heap} {n : Nat} {cs ds : List AVal} (hl : cs.length = ds.length) (hs : ∀ d ∈ ds, d.sto = true) (hc : ∀ (i : Nat) (c d : AVal), cs[i]? = some c → ds[i]? = some d → Frz h n c d) : FrzR h n (.agg cs) (.agg ds) :=
 ⟨.agg _ _ hl hs hc, hl, hs, hc⟩
inductive FrzL (h : Heap) (n : Nat) : List AVal → List AVal → Prop
 | nil : FrzL h n [] []
 | cons {c d : AVal} {cs ds : List AVal} : Frz h n c d → FrzL h n cs ds → FrzL h n (c :: cs) (d :: ds)
theorem FrzL.len {h : Heap} {n : Nat} {cs ds : List AVal} (z : FrzL h n cs ds) : cs.length = ds.length := by induction z with | nil => rfl | cons _ _ ih => simp [ih]
theorem FrzL.at_ {h : Heap} {n : Nat} {cs ds : List AVal} (z : FrzL h n cs ds) : ∀ (i : Nat) (c d : AVal), cs[i]? = some c → ds[i]? = some d → Frz h n c d := by
 induction z with
 | nil => intro i c d h1; simp at h1
 | cons z _ ih =>
  intro i c d h1 h2
  match i with
  | 0 => simp at h1 h2; subst h1; subst h2; exact z
  | i + 1 => exact ih i c d (by simpa using h1) (by simpa using h2)
theorem FrzL.agg {h : Heap} {n : Nat} {cs ds : List AVal} (z : FrzL h n cs ds) (hs : ds.all AVal.sto = true) : Frz h n (.agg cs) (.agg ds) := .agg _ _ z.len (List.all_eq_true.1 hs) z.at_
theorem FrzL.tup {h : Heap} {n : Nat} {cs ds : List AVal} (z : FrzL h n cs ds) : Frz h n (.tup cs) (.tup ds) := .tup _ _ z.len z.at_
theorem FrzL.row {h : Heap} {n : Nat} {cs ds : List AVal} (z : FrzL h n cs ds) (hs : ds.all AVal.sto = true) : FrzR h n (.agg cs) (.agg ds) := .agg z.len (List.all_eq_true.1 hs) z.at_
inductive FrzRs (h : Heap) (n : Nat) : List AVal → List AVal → Prop
 | nil : FrzRs h n [] []
 | cons {c d : AVal} {cs ds : List AVal} : FrzR h n c d → FrzRs h n cs ds → FrzRs h n (c :: cs) (d :: ds)
theorem FrzRs.len {h : Heap} {n : Nat} {cs ds : List AVal} (z : FrzRs h n cs ds) : cs.length = ds.length := by induction z with | nil => rfl | cons _ _ ih => simp [ih]
theorem FrzRs.at_ {h : Heap} {n : Nat} {cs ds : List AVal} (z : FrzRs h n cs ds) : ∀ (i : Nat) (c d : AVal), cs[i]? = some c → ds[i]? = some d → FrzR h n c d := by
 induction z with
 | nil => intro i c d h1; simp at h1
 | cons z _ ih =>
  intro i c d h1 h2
  match i with
  | 0 => simp at h1 h2; subst h1; subst h2; exact z
  | i + 1 => exact ih i c d (by simpa using h1) (by simpa using h2)
theorem FrzRs.hs {h : Heap} {n q v e m : Nat} {rows es : List AVal} {len : Nat} {room : Bool} (hg : getRow h q v = some (e, m, rows)) (hlen : len = rows.length) (hq : n ≤ q) (z : FrzRs h n rows es) : Frz h n (.hs q v 0 len room) (.sl m es) :=
 Frz.rows hq hg hlen z.len.symm z.at_
theorem Frz.data {h : Heap} {n q v e m : Nat} {rows : List AVal} {len : Nat} {room : Bool} (hq : n ≤ q) (hg : getRow h q v = some (e, m, rows)) (hlen : len = rows.length) (hc : ∀ r ∈ rows, Clo n r) (hs : ∀ r ∈ rows, ∀ c ∈ r.cells, c.sto = true) : Frz h n (.hs q v 0 len room) (.sl m rows) :=
 Frz.rows hq hg hlen rfl fun i r s hr hs' => by rw [hr] at hs'; cases hs'; exact FrzR.clo (hc r (List.mem_of_getElem? hr)) (hs r (List.mem_of_getElem? hr))
theorem At.cells_sto (e : At) : ∀ c ∈ e.av.cells, c.sto = true := by
 rw [At.av_cells]; intro c hc; simp only [List.mem_cons, List.mem_nil_iff, or_false] at hc; rcases hc with rfl | rfl <;> rfl
theorem Frz.ats {h : Heap} {n q v e : Nat} {l : List At} {len : Nat} {room : Bool} (hq : n ≤ q) (hg : getRow h q v = some (e, 2, l.map At.av)) (hlen : len = l.length) : Frz h n (.hs q v 0 len room) (.sl 2 (l.map At.av)) :=
 Frz.data hq hg (by simpa using hlen) (fun r hr => by obtain ⟨a, _, rfl⟩ := List.mem_map.1 hr; exact At.clo _ a) (fun r hr => by obtain ⟨a, _, rfl⟩ := List.mem_map.1 hr; exact At.cells_sto a)
variable (G : Nat → Option (List AVal))
theorem IndexFuncH_sat (p : At → Bool) (g : FuncId) (cap : List AVal) (h : Heap) (hg : ∀ a : At, Sat (CT G) g ([] ++ [a.av] ++ cap) h (fun r h' => r = .bool (p a) ∧ h' = h)) (l : List At) (q v : Nat) (hrow : getRow h q v = some (67, 2, l.map At.av)) (hl : l.length ≤ 1073741824) :
  Sat (CT G) 50 [.hs q v 0 l.length true, .fn (.func g) [] cap] h
   (fun r h' => r = .int .i64 (idxG p l) ∧ h' = h) := by
 skip
 refine Sat.body [.tmp 4] (fn := Tryz.f50) Tryz.func50 rfl rfl (by kernel_rfl) (by kernel_rfl) (by kernel_rfl) rfl ?_
 intro Q hQ
 (repeat (first | refine w1 (fun K hK => ?_) | refine w2 ?_ | refine w3 ?_ | ((first | refine w4 ?_ | refine w5 ?_ | refine w6 ?_ | refine w7 ?_); try refine sqo1 hrow ?_) | (refine w8 ?_; refine sqo1 hrow ?_; refine w9 ?_) | ((first | refine hK _ _ (w0 ?_) | (clear hK K; refine hK _ _ (w0 ?_)) | (clear hK K; clear hK K; refine hK _ _ (w0 ?_))); clear hK K)))
 refine WP_loopm (by simp only [go_sem, List.nil_append, List.cons_append]; rfl) (fun nL tL hL => ∃ (k : Nat), l.length - k = nL ∧ h = hL ∧ tL 8 = .int .i64 k ∧ k ≤ l.length ∧ ∀ a ∈ l.take k, p a = false) ((fun (k : Nat) => (l.length - k : Nat)) (0)) ?_ ?_
 ·refine Wkn.refl ⟨0, rfl, (by first | rfl | (simp; done) | (simp; rfl)), ?_, Nat.zero_le _, by simp⟩
  all_goals first | exact zqo1 hrow | rfl | omega | trivial | skip
 rintro _ s2 h' ⟨k, rfl, rfl, e8, hk, hp⟩ K2 hK2
 simp only [mix_cons, mix_nil, Nat.reduceEqDiff, ↓reduceIte] at e8
 (repeat (first | refine w1 (fun K hK => ?_) | refine w2 ?_ | refine w3 ?_ | ((first | refine w4 ?_ | refine w5 ?_ | refine w6 ?_ | refine w7 ?_); try refine sqo2 hrow e8 ?_) | (refine w8 ?_; refine sqo2 hrow e8 ?_; refine w9 ?_) | ((first | refine hK _ _ (w0 ?_) | (clear hK K; refine hK _ _ (w0 ?_)) | (clear hK K; clear hK K; refine hK _ _ (w0 ?_))); clear hK K)))
 refine cqo2 hrow e8 (fun hc => ?_) (fun hc => ?_) <;> (try exact hc.elim)
 ·obtain ⟨y, hy, hym⟩ := getElem?_of_lt hc
  skip
  (repeat (first | refine w1 (fun K hK => ?_) | refine w2 ?_ | refine w3 ?_ | ((first | refine w4 ?_ | refine w5 ?_ | refine w6 ?_ | refine w7 ?_); try refine sqo3 hrow e8 hy ?_) | (refine w8 ?_; refine sqo3 hrow e8 hy ?_; refine w9 ?_) | ((first | refine hK _ _ (w0 ?_) | (clear hK K; refine hK _ _ (w0 ?_)) | (clear hK K; clear hK K; refine hK _ _ (w0 ?_))); clear hK K)))
  refine ⟨hc, ?_⟩
  refine (hg y).mono ?_
  rintro r h' ⟨rfl, rfl⟩
  try refine sqo3 hrow e8 hy ?_
  (repeat (first | refine w1 (fun K hK => ?_) | refine w2 ?_ | refine w3 ?_ | ((first | refine w4 ?_ | refine w5 ?_ | refine w6 ?_ | refine w7 ?_); try refine sqo3 hrow e8 hy ?_) | (refine w8 ?_; refine sqo3 hrow e8 hy ?_; refine w9 ?_) | ((first | refine hK _ _ (w0 ?_) | (clear hK K; refine hK _ _ (w0 ?_)) | (clear hK K; clear hK K; refine hK _ _ (w0 ?_))); clear hK K)))
  refine cqo3 hrow e8 hy (fun hq => ?_) (fun hq => ?_) <;> (try exact hq.elim) <;>
   (repeat (first | refine w1 (fun K hK => ?_) | refine w2 ?_ | refine w3 ?_ | ((first | refine w4 ?_ | refine w5 ?_ | refine w6 ?_ | refine w7 ?_); try refine sqo3 hrow e8 hy ?_) | (refine w8 ?_; refine sqo3 hrow e8 hy ?_; refine w9 ?_) | ((first | refine hK _ _ (w0 ?_) | (clear hK K; refine hK _ _ (w0 ?_)) | (clear hK K; clear hK K; refine hK _ _ (w0 ?_))); clear hK K)))
  ·first | refine (hQ _ _ ?_).1 | refine (hQ _ _ ?_).2
   refine sqo3 hrow e8 hy ?_
   have e : idxG p l = k := by
    unfold idxG
    have : l.findIdx? p = some k := by
     rw [List.findIdx?_eq_some_iff_getElem]
     refine ⟨hc, ?_, ?_⟩
     ·rw [List.getElem?_eq_getElem hc] at hy; cases hy; exact hq
     ·intro i hi
      rw [hp _ (by rw [List.mem_take_iff_getElem]; exact ⟨i, by omega, rfl⟩)]; simp
    rw [this]
   rw [e]
   exact Fin.plainE (j := []) (List.append_nil _).symm (.int _ _) ⟨rfl, rfl⟩
  ·have hp1 : ∀ a ∈ l.take (k + 1), p a = false := by
    rw [List.take_add_one, hy]
    intro a ha
    simp at ha
    rcases ha with ha | rfl
    ·exact hp a ha
    ·exact hq
   refine hK2 _ _ _ (Wkn.refl ⟨k + 1, rfl, (by first | rfl | (simp; done) | (simp; rfl)), ?_, by omega, hp1⟩) (by omega)
   all_goals first | exact zqo3 hrow e8 hy | rfl | omega | trivial | skip
 ·(repeat (first | refine w1 (fun K hK => ?_) | refine w2 ?_ | refine w3 ?_ | ((first | refine w4 ?_ | refine w5 ?_ | refine w6 ?_ | refine w7 ?_); try refine sqo2 hrow e8 ?_) | (refine w8 ?_; refine sqo2 hrow e8 ?_; refine w9 ?_) | ((first | refine hK _ _ (w0 ?_) | (clear hK K; refine hK _ _ (w0 ?_)) | (clear hK K; clear hK K; refine hK _ _ (w0 ?_))); clear hK K)))
  first | refine (hQ _ _ ?_).1 | refine (hQ _ _ ?_).2
  refine sqo2 hrow e8 ?_
  have e : idxG p l = -1 := by
   unfold idxG
   have : l.findIdx? p = none := by
    rw [List.findIdx?_eq_none_iff]
    intro a ha
    exact hp a (by rwa [List.take_of_length_le hc])
   rw [this]
  rw [e]
  exact Fin.plainE (j := []) (List.append_nil _).symm (.int _ _) ⟨rfl, rfl⟩
theorem ContainsFuncH_sat (p : At → Bool) (g : FuncId) (cap : List AVal) (h : Heap) (hg : ∀ a : At, Sat (CT G) g ([] ++ [a.av] ++ cap) h (fun r h' => r = .bool (p a) ∧ h' = h)) (l : List At) (q v : Nat) (hrow : getRow h q v = some (67, 2, l.map At.av)) (hl : l.length ≤ 1073741824) :
  Sat (CT G) 156 [.hs q v 0 l.length true, .fn (.func g) [] cap] h
   (fun r h' => r = .bool (l.any p) ∧ h' = h) := by
 refine Sat.body [.tmp 4] (fn := Tryz.f156) Tryz.func156 rfl rfl (by kernel_rfl) (by kernel_rfl) (by kernel_rfl) rfl ?_
 intro Q hQ
 (repeat (first | refine w1 (fun K hK => ?_) | refine w2 ?_ | refine w3 ?_ | ((first | refine w4 ?_ | refine w5 ?_ | refine w6 ?_ | refine w7 ?_); try refine sqo0 ?_) | (refine w8 ?_; refine sqo0 ?_; refine w9 ?_) | ((first | refine hK _ _ (w0 ?_) | (clear hK K; refine hK _ _ (w0 ?_)) | (clear hK K; clear hK K; refine hK _ _ (w0 ?_))); clear hK K)))
 refine (IndexFuncH_sat G p g cap h hg l q v hrow hl).mono ?_
 rintro r h' ⟨rfl, rfl⟩
 try refine sqo0 ?_
 (repeat (first | refine w1 (fun K hK => ?_) | refine w2 ?_ | refine w3 ?_ | ((first | refine w4 ?_ | refine w5 ?_ | refine w6 ?_ | refine w7 ?_); try refine sqo0 ?_) | (refine w8 ?_; refine sqo0 ?_; refine w9 ?_) | ((first | refine hK _ _ (w0 ?_) | (clear hK K; refine hK _ _ (w0 ?_)) | (clear hK K; clear hK K; refine hK _ _ (w0 ?_))); clear hK K)))
 first | refine (hQ _ _ ?_).1 | refine (hQ _ _ ?_).2
 refine sqo0 ?_
 rw [idxG_any] at *
 exact Fin.plainE (j := []) (List.append_nil _).symm (.bool _) ⟨rfl, rfl⟩
theorem namedH_sat (l : List At) (w : Bs) (h : Heap) (q v : Nat) (hrow : getRow h q v = some (67, 2, l.map At.av)) (hl : l.length ≤ 1073741824) : Sat (CT G) 131 [.hs q v 0 l.length true, .str w] h
  (fun r h' => r = .bool (l.any fun a => a.1 == w) ∧ h' = h) := by
 refine Sat.body [.tmp 4] (fn := Tryz.f131) Tryz.func131 rfl rfl (by kernel_rfl) (by kernel_rfl) (by kernel_rfl) rfl ?_
 intro Q hQ
 (repeat (first | refine w1 (fun K hK => ?_) | refine w2 ?_ | refine w3 ?_ | ((first | refine w4 ?_ | refine w5 ?_ | refine w6 ?_ | refine w7 ?_); try refine sqo0 ?_) | (refine w8 ?_; refine sqo0 ?_; refine w9 ?_) | ((first | refine hK _ _ (w0 ?_) | (clear hK K; refine hK _ _ (w0 ?_)) | (clear hK K; clear hK K; refine hK _ _ (w0 ?_))); clear hK K)))
 refine (ContainsFuncH_sat G (fun a => a.1 == w) 157 [.hp h.length 0 0 0] _ (fun a => named1_sat G a w h) l q v (getRow_old hrow) hl).mono ?_
 rintro r h' ⟨rfl, rfl⟩
 try refine sqo0 ?_
 (repeat (first | refine w1 (fun K hK => ?_) | refine w2 ?_ | refine w3 ?_ | ((first | refine w4 ?_ | refine w5 ?_ | refine w6 ?_ | refine w7 ?_); try refine sqo0 ?_) | (refine w8 ?_; refine sqo0 ?_; refine w9 ?_) | ((first | refine hK _ _ (w0 ?_) | (clear hK K; refine hK _ _ (w0 ?_)) | (clear hK K; clear hK K; refine hK _ _ (w0 ?_))); clear hK K)))
 first | refine (hQ _ _ ?_).1 | refine (hQ _ _ ?_).2
 refine sqo0 ?_
 exact Fin.plainE (j := _) rfl (.bool _) ⟨rfl, rfl⟩
end Go.Av
namespace Go.Av
open Go Go.Proofs Go.RowKit
attribute [local irreducible] WP WPl WPix Sat
set_option maxRecDepth 100000
set_option maxHeartbeats 1000000
variable (G : Nat → Option (List AVal))
def textP (c : Int) : Bool := !(decide (c = 60))
def textB (b : UInt8) : Bool := textP b.toNat
theorem text_by : ByByte textP textB true := ⟨fun _ _ => rfl, fun c hc _ => by unfold textP; simp; omega, fun b hb => by unfold textB textP; simp; omega⟩
theorem part1_sat (c : Int) (h : Heap) : Sat (CT G) 106 [.int .i32 c] h (fun r h' => r = .bool (textP c) ∧ h' = h) := by
 refine Sat.body [.tmp 2] (fn := Tryz.f106) Tryz.func106 rfl rfl (by kernel_rfl) (by kernel_rfl) (by kernel_rfl) rfl ?_
 intro Q hQ
 (repeat (first | refine w1 (fun K hK => ?_) | refine w2 ?_ | refine w3 ?_ | ((first | refine w4 ?_ | refine w5 ?_ | refine w6 ?_ | refine w7 ?_); try refine sqo0 ?_) | (refine w8 ?_; refine sqo0 ?_; refine w9 ?_) | ((first | refine hK _ _ (w0 ?_) | (clear hK K; refine hK _ _ (w0 ?_)) | (clear hK K; clear hK K; refine hK _ _ (w0 ?_))); clear hK K)))
 first | refine (hQ _ _ ?_).1 | refine (hQ _ _ ?_).2
 refine sqo0 ?_
 exact Fin.plainE (j := []) (List.append_nil _).symm (.bool _) ⟨by unfold textP; rfl, rfl⟩
end Go.Av
namespace Go.Av
open Go Go.Proofs Go.RowKit
attribute [local irreducible] WP WPl WPix Sat
set_option maxRecDepth 100000
set_option maxHeartbeats 1000000
variable (G : Nat → Option (List AVal))
def openL : Nat → Bs → List At → Bs → Bool → List Tok × Bs × Bool
 | 0, _, _, s, _ => ([], s, true)
 | f + 1, n, at_, s, b =>
  if b = true then ([], s, true) else
  if Lib.hasPrefix (s.dropWhile blankB) [62] = true then ([(1, n, at_, [])], Lib.trimPrefix (s.dropWhile blankB) [62], false) else
  if Lib.hasPrefix (s.dropWhile blankB) [47, 62] = true then ([(1, n, at_, []), (2, n, [], [])], Lib.trimPrefix (s.dropWhile blankB) [47, 62], false) else
  openL f n (at_ ++ [(attrX (s.dropWhile blankB) false).1]) (attrX (s.dropWhile blankB) false).2.1
   ((((attrX (s.dropWhile blankB) false).2.2 || s.takeWhile blankB == []) || at_.any fun a => a.1 == (attrX (s.dropWhile blankB) false).1.1) || decide (32 ≤ at_.length))
theorem uptoF_less (w s : Bs) (b : Bool) : (uptoF w s b).2.1.length ≤ s.length := (uptoF_len w s b).2
theorem value_len (s : Bs) (b : Bool) : (valueF s b).2.1.length ≤ s.length := by
 have h1 := trim_len s (if Lib.hasPrefix s [34] = true then [34] else [39])
 have h2 := uptoF_less (if Lib.hasPrefix s [34] = true then [34] else [39]) (Lib.trimPrefix s (if Lib.hasPrefix s [34] = true then [34] else [39])) (b || !Lib.hasPrefix s (if Lib.hasPrefix s [34] = true then [34] else [39]))
 show (uptoF _ _ _).2.1.length ≤ _
 omega
theorem bad_name_empty (s : Bs) (h : badN (nameW s) = false) : (nameR s).length < s.length := by
 have h1 : (nameW s).length + (nameR s).length = s.length := by
  have := congrArg List.length (List.takeWhile_append_dropWhile (p := moreB) (l := s))
  rw [List.length_append] at this; exact this
 cases hn : nameW s with
 | nil => rw [hn] at h; cases h
 | cons c t => rw [hn] at h1; simp at h1; omega
theorem attrX_len (s : Bs) (b : Bool) : (attrX s b).2.1.length ≤ (nameR s).length := by
 have h2 := drop_len blankB (nameR s)
 have h3 := trim_len ((nameR s).dropWhile blankB) [61]
 have h4 := drop_len blankB (Lib.trimPrefix ((nameR s).dropWhile blankB) [61])
 unfold attrX
 simp only []
 split
 ·simp only []; omega
 ·have := value_len ((Lib.trimPrefix ((nameR s).dropWhile blankB) [61]).dropWhile blankB) (b || badN (nameW s) || !Lib.hasPrefix ((nameR s).dropWhile blankB) [61])
  simp only []; omega
theorem uptoF_bad (w s : Bs) : (uptoF w s true).2.2 = true := by unfold uptoF; split <;> rfl
theorem attrX_good (s : Bs) (h : (attrX s false).2.2 = false) : badN (nameW s) = false := by
 cases hb : badN (nameW s) with
 | false => rfl
 | true =>
  exfalso
  unfold attrX at h
  simp only [hb, Bool.or_true, Bool.true_or, if_true] at h
  cases h
theorem attrX_less (s : Bs) (h : (attrX s false).2.2 = false) : (attrX s false).2.1.length < s.length := by
 have h1 := attrX_len s false
 have h2 := bad_name_empty s (attrX_good s h)
 omega
def openF (s : Bs) : List Tok × Bs × Bool := openL (s.length + 3) (nameW s) [] (nameR s) (badN (nameW s))
def tkR (n : Bs) (q v len : Nat) : Blk := .row 83 4 0 [.agg [.int .i64 1, .str n, .hs q v 0 len true, .str []]]
def atR (v : Nat) (l : List At) : Blk := .row 67 2 v (l.map At.av)
@[go_sem] theorem getRow_tkR (n : Bs) (q v len : Nat) (l : Heap) : getRow (tkR n q v len :: l) 0 0 = some (83, 4, [.agg [.int .i64 1, .str n, .hs q v 0 len true, .str []]]) := rfl
@[go_sem] theorem getRow_tkRs (n : Bs) (q v len : Nat) (l : Heap) (k u : Nat) : getRow (tkR n q v len :: l) (k + 1) u = getRow l k u := rfl
@[go_sem] theorem getRow_atR (v : Nat) (l : List At) (j : Heap) : getRow (atR v l :: j) 0 v = some (67, 2, l.map At.av) := by simp [getRow, atR]
@[go_sem] theorem getRow_atRs (v : Nat) (l : List At) (j : Heap) (k u : Nat) : getRow (atR v l :: j) (k + 1) u = getRow j k u := rfl
theorem tok_frz {H : Heap} {n q v e : Nat} (k : Int) (nm : Bs) (l : List At) (hg : getRow H q v = some (e, 2, l.map At.av)) (hq : n ≤ q) : FrzR H n (.agg [.int .i64 k, .str nm, .hs q v 0 l.length true, .str []]) (Tok.av (k, nm, l, [])) :=
 FrzL.row (.cons (.clo _ (.int _ _)) (.cons (.clo _ (.str _)) (.cons (Frz.ats hq hg rfl) (.cons (.clo _ (.str _)) .nil)))) rfl
theorem tok_frz0 {H : Heap} {n : Nat} (k : Int) (nm : Bs) : FrzR H n (.agg [.int .i64 k, .str nm, .nil (.slice none 0 0), .str []]) (Tok.av (k, nm, [], [])) :=
 FrzL.row (.cons (.clo _ (.int _ _)) (.cons (.clo _ (.str _)) (.cons (.nils _) (.cons (.clo _ (.str _)) .nil)))) rfl
theorem open_sat (hG : GOk G) (s : Bs) (hs : s.length ≤ 1048576) (h j : Heap) : Sat (CT G) 103 [.hp h.length 0 0 0] (rdH h j s false)
  (fun r h' => r = .sl 4 ((openF s).1.map Tok.av) ∧ h' = rdH h j (openF s).2.1 (openF s).2.2) := by
 have h1 : (nameR s).length ≤ s.length := drop_len _ _
 have c1 : ∀ s b l, s.length ≤ 1048576 → Sat (CT G) 128 [.hp h.length 0 0 0] (rdH h j s b ++ l) _ := fun s b l hs => sat_app G (l := l) fun j => blank_sat G s b (by omega) h j
 have c2 : ∀ w s b l, Sat (CT G) 98 [.hp h.length 0 0 0, .str w] (rdH h j s b ++ l) _ := fun w s b l => sat_app G (l := l) fun j => take_sat G w s b h j
 have c3 : ∀ s b l, s.length ≤ 1048576 → Sat (CT G) 130 [.hp h.length 0 0 0] (rdH h j s b ++ l) _ := fun s b l hs => sat_app G (l := l) fun j => attr_sat G hG s b hs h j
 have end_ := fun (jj : Heap) (x : AVal) => rd_finF h j jj (openF s).2.1 s (openF s).2.2 false (x := x) (y := .sl 4 ((openF s).1.map Tok.av)) rfl
 skip
 refine Sat.body [.tmp 2] (fn := Tryz.f103) Tryz.func103 rfl rfl (by kernel_rfl) (by kernel_rfl) (by kernel_rfl) rfl ?_
 intro Q hQ
 (repeat (first | refine w1 (fun K hK => ?_) | refine w2 ?_ | refine w3 ?_ | ((first | refine w4 ?_ | refine w5 ?_ | refine w6 ?_ | refine w7 ?_); try refine sq0 ?_) | (refine w8 ?_; refine sq0 ?_; refine w9 ?_) | (refine xq0 ?_; try refine sq0 ?_) | ((first | refine hK _ _ (w0 ?_) | (clear hK K; refine hK _ _ (w0 ?_)) | (clear hK K; clear hK K; refine hK _ _ (w0 ?_))); clear hK K)))
 refine (name_sat G s false (by omega) h j).mono ?_
 rintro r h' ⟨rfl, rfl⟩
 try refine sq0 ?_
 (repeat (first | refine w1 (fun K hK => ?_) | refine w2 ?_ | refine w3 ?_ | ((first | refine w4 ?_ | refine w5 ?_ | refine w6 ?_ | refine w7 ?_); try refine sq0 ?_) | (refine w8 ?_; refine sq0 ?_; refine w9 ?_) | (refine xq0 ?_; try refine sq0 ?_) | ((first | refine hK _ _ (w0 ?_) | (clear hK K; refine hK _ _ (w0 ?_)) | (clear hK K; clear hK K; refine hK _ _ (w0 ?_))); clear hK K)))
 refine WP_loopm (by simp only [go_sem, List.nil_append, List.cons_append]; rfl) (fun nL tL hL => ∃ (f v : Nat) (s1 : Bs) (b : Bool) (at_ : List At) (jj : Heap), f = nL ∧ rdH h j s1 b ++ tkR (nameW s) (h.length + (1 + (j.length + 1))) v at_.length :: atR v at_ :: jj = hL ∧ tL 0 = .hp h.length 0 0 0 ∧ tL 3 = .hp (h.length + (1 + j.length)) 0 0 0 ∧ s1.length ≤ s.length ∧ (1 ≤ f ∧ (b = false → s1.length + 2 ≤ f)) ∧ openL f (nameW s) at_ s1 b = openF s ∧ ((b = false → at_.length ≤ 32))) ((fun (f v : Nat) (s1 : Bs) (b : Bool) (at_ : List At) (jj : Heap) => (f : Nat)) ((s.length + 3)) (0) ((nameR s)) (badN (nameW s)) ([]) ([])) ?_ ?_
 ·refine ⟨_, _, Weak.virtCell (p := h.length + (1 + j.length)) (v := 0) 67 2 (by omega) (by simp (disch := first | omega | (simp only [go_sem, ↓reduceIte, seval]; first | done | omega) | fail) only [go_sem, ↓reduceIte, seval]; rfl) 2 rfl, ⟨(s.length + 3), 0, (nameR s), badN (nameW s), [], [], rfl, (by rw [set_rdHz]; simp [rdH_len, tkR, atR, Nat.add_assoc]), ?_, ?_, h1, ⟨by omega, fun _ => by omega⟩, rfl, fun _ => by simp⟩⟩
  all_goals first | exact zq0 | rfl | omega | trivial | skip
 rintro _ s2 h' ⟨f, v, s1, b, at_, jj, rfl, rfl, e0, e3, hs1, hf, hp, ha⟩ K2 hK2
 simp only [mix_cons, mix_nil, Nat.reduceEqDiff, ↓reduceIte] at e0 e3
 (repeat (first | refine w1 (fun K hK => ?_) | refine w2 ?_ | refine w3 ?_ | ((first | refine w4 ?_ | refine w5 ?_ | refine w6 ?_ | refine w7 ?_); try refine sq2 e0 e3 ?_) | (refine w8 ?_; refine sq2 e0 e3 ?_; refine w9 ?_) | (refine xq2 e0 e3 ?_; try refine sq2 e0 e3 ?_) | ((first | refine hK _ _ (w0 ?_) | (clear hK K; refine hK _ _ (w0 ?_)) | (clear hK K; clear hK K; refine hK _ _ (w0 ?_))); clear hK K)))
 refine cq2 e0 e3 (fun hc => ?_) (fun hc => ?_) <;> (try exact hc.elim) <;>
  (repeat (first | refine w1 (fun K hK => ?_) | refine w2 ?_ | refine w3 ?_ | ((first | refine w4 ?_ | refine w5 ?_ | refine w6 ?_ | refine w7 ?_); try refine sq2 e0 e3 ?_) | (refine w8 ?_; refine sq2 e0 e3 ?_; refine w9 ?_) | (refine xq2 e0 e3 ?_; try refine sq2 e0 e3 ?_) | ((first | refine hK _ _ (w0 ?_) | (clear hK K; refine hK _ _ (w0 ?_)) | (clear hK K; clear hK K; refine hK _ _ (w0 ?_))); clear hK K)))
 ·subst hc
  obtain ⟨g, rfl⟩ : ∃ g, f = g + 1 := ⟨f - 1, by omega⟩
  have hd := drop_len blankB s1
  rw [openL, if_neg (by simp)] at hp
  have hf2 := hf.2 rfl
  have ha2 := ha rfl
  (repeat (first | refine w1 (fun K hK => ?_) | refine w2 ?_ | refine w3 ?_ | ((first | refine w4 ?_ | refine w5 ?_ | refine w6 ?_ | refine w7 ?_); try refine sq2 e0 e3 ?_) | (refine w8 ?_; refine sq2 e0 e3 ?_; refine w9 ?_) | (refine xq2 e0 e3 ?_; try refine sq2 e0 e3 ?_) | ((first | refine hK _ _ (w0 ?_) | (clear hK K; refine hK _ _ (w0 ?_)) | (clear hK K; clear hK K; refine hK _ _ (w0 ?_))); clear hK K)))
  refine (c1 _ _ _ (by omega)).mono ?_
  rintro r h' ⟨rfl, rfl⟩
  try refine sq2 e0 e3 ?_
  (repeat (first | refine w1 (fun K hK => ?_) | refine w2 ?_ | refine w3 ?_ | ((first | refine w4 ?_ | refine w5 ?_ | refine w6 ?_ | refine w7 ?_); try refine sq2 e0 e3 ?_) | (refine w8 ?_; refine sq2 e0 e3 ?_; refine w9 ?_) | (refine xq2 e0 e3 ?_; try refine sq2 e0 e3 ?_) | ((first | refine hK _ _ (w0 ?_) | (clear hK K; refine hK _ _ (w0 ?_)) | (clear hK K; clear hK K; refine hK _ _ (w0 ?_))); clear hK K)))
  refine (c2 [62] _ _ _).mono ?_
  rintro r h' ⟨rfl, rfl⟩
  try refine sq2 e0 e3 ?_
  (repeat (first | refine w1 (fun K hK => ?_) | refine w2 ?_ | refine w3 ?_ | ((first | refine w4 ?_ | refine w5 ?_ | refine w6 ?_ | refine w7 ?_); try refine sq2 e0 e3 ?_) | (refine w8 ?_; refine sq2 e0 e3 ?_; refine w9 ?_) | (refine xq2 e0 e3 ?_; try refine sq2 e0 e3 ?_) | ((first | refine hK _ _ (w0 ?_) | (clear hK K; refine hK _ _ (w0 ?_)) | (clear hK K; clear hK K; refine hK _ _ (w0 ?_))); clear hK K)))
  refine cq2 e0 e3 (fun hc1 => ?_) (fun hc1 => ?_) <;> (try exact hc1.elim) <;>
   (repeat (first | refine w1 (fun K hK => ?_) | refine w2 ?_ | refine w3 ?_ | ((first | refine w4 ?_ | refine w5 ?_ | refine w6 ?_ | refine w7 ?_); try refine sq2 e0 e3 ?_) | (refine w8 ?_; refine sq2 e0 e3 ?_; refine w9 ?_) | (refine xq2 e0 e3 ?_; try refine sq2 e0 e3 ?_) | ((first | refine hK _ _ (w0 ?_) | (clear hK K; refine hK _ _ (w0 ?_)) | (clear hK K; clear hK K; refine hK _ _ (w0 ?_))); clear hK K)))
  ·rw [if_pos hc1] at hp
   first | refine (hQ _ _ ?_).1 | refine (hQ _ _ ?_).2
   refine sq2 e0 e3 ?_
   rw [← hp]
   refine rd_finF h j _ _ s _ false rfl ?_
   exact FrzRs.hs (by simp (disch := first | omega | (simp only [go_sem, ↓reduceIte, seval]; first | done | omega) | fail) only [go_sem, ↓reduceIte, seval, e0, e3]; rfl) rfl (by simp (disch := first | omega | (simp only [go_sem, ↓reduceIte, seval]; first | done | omega) | fail) only [go_sem, ↓reduceIte, seval, e0, e3]; omega) (.cons (tok_frz 1 _ at_ (by simp (disch := first | omega | (simp only [go_sem, ↓reduceIte, seval]; first | done | omega) | fail) only [go_sem, ↓reduceIte, seval, e0, e3]; rfl) (by simp (disch := first | omega | (simp only [go_sem, ↓reduceIte, seval]; first | done | omega) | fail) only [go_sem, ↓reduceIte, seval, e0, e3]; omega)) .nil)
  ·rw [if_neg (by simp [hc1])] at hp
   have htp : Lib.trimPrefix (s1.dropWhile blankB) [62] = s1.dropWhile blankB := by unfold Lib.trimPrefix; rw [if_neg (by simp [hc1])]
   rw [htp]
   refine (c2 [47, 62] _ _ _).mono ?_
   rintro r h' ⟨rfl, rfl⟩
   try refine sq2 e0 e3 ?_
   (repeat (first | refine w1 (fun K hK => ?_) | refine w2 ?_ | refine w3 ?_ | ((first | refine w4 ?_ | refine w5 ?_ | refine w6 ?_ | refine w7 ?_); try refine sq2 e0 e3 ?_) | (refine w8 ?_; refine sq2 e0 e3 ?_; refine w9 ?_) | (refine xq2 e0 e3 ?_; try refine sq2 e0 e3 ?_) | ((first | refine hK _ _ (w0 ?_) | (clear hK K; refine hK _ _ (w0 ?_)) | (clear hK K; clear hK K; refine hK _ _ (w0 ?_))); clear hK K)))
   refine cq2 e0 e3 (fun hc2 => ?_) (fun hc2 => ?_) <;> (try exact hc2.elim) <;>
    (repeat (first | refine w1 (fun K hK => ?_) | refine w2 ?_ | refine w3 ?_ | ((first | refine w4 ?_ | refine w5 ?_ | refine w6 ?_ | refine w7 ?_); try refine sq2 e0 e3 ?_) | (refine w8 ?_; refine sq2 e0 e3 ?_; refine w9 ?_) | (refine xq2 e0 e3 ?_; try refine sq2 e0 e3 ?_) | ((first | refine hK _ _ (w0 ?_) | (clear hK K; refine hK _ _ (w0 ?_)) | (clear hK K; clear hK K; refine hK _ _ (w0 ?_))); clear hK K)))
   ·rw [if_pos hc2] at hp
    first | refine (hQ _ _ ?_).1 | refine (hQ _ _ ?_).2
    refine sq2 e0 e3 ?_
    rw [← hp]
    refine rd_finF h j _ _ s _ false rfl ?_
    exact FrzRs.hs (by simp (disch := first | omega | (simp only [go_sem, ↓reduceIte, seval]; first | done | omega) | fail) only [go_sem, ↓reduceIte, seval, e0, e3]; rfl) rfl (by simp (disch := first | omega | (simp only [go_sem, ↓reduceIte, seval]; first | done | omega) | fail) only [go_sem, ↓reduceIte, seval, e0, e3]; omega) (.cons (tok_frz 1 _ at_ (by simp (disch := first | omega | (simp only [go_sem, ↓reduceIte, seval]; first | done | omega) | fail) only [go_sem, ↓reduceIte, seval, e0, e3]; rfl) (by simp (disch := first | omega | (simp only [go_sem, ↓reduceIte, seval]; first | done | omega) | fail) only [go_sem, ↓reduceIte, seval, e0, e3]; omega)) (.cons (tok_frz0 2 _) .nil))
   ·rw [if_neg (by simp [hc2])] at hp
    have htp2 : Lib.trimPrefix (s1.dropWhile blankB) [47, 62] = s1.dropWhile blankB := by unfold Lib.trimPrefix; rw [if_neg (by simp [hc2])]
    rw [htp2]
    refine (c3 _ _ _ (by omega)).mono ?_
    rintro r h' ⟨rfl, rfl⟩
    try refine sq2 e0 e3 ?_
    (repeat (first | refine w1 (fun K hK => ?_) | refine w2 ?_ | refine w3 ?_ | ((first | refine w4 ?_ | refine w5 ?_ | refine w6 ?_ | refine w7 ?_); try refine sq2 e0 e3 ?_) | (refine w8 ?_; refine sq2 e0 e3 ?_; refine w9 ?_) | (refine xq2 e0 e3 ?_; try refine sq2 e0 e3 ?_) | ((first | refine hK _ _ (w0 ?_) | (clear hK K; refine hK _ _ (w0 ?_)) | (clear hK K; clear hK K; refine hK _ _ (w0 ?_))); clear hK K)))
    have hl := attrX_less (s1.dropWhile blankB)
    have hl2 := attrX_len (s1.dropWhile blankB) false
    have hl3 := drop_len moreB (s1.dropWhile blankB)
    change (nameR (s1.dropWhile blankB)).length ≤ _ at hl3
    generalize attrX (s1.dropWhile blankB) false = x at hp hl hl2 ⊢
    obtain ⟨a, r, bb⟩ := x
    simp only [] at hp hl hl2 ⊢
    skip
    (first | refine gq2 e0 e3 (fun g1 => ?_) (fun g1 => ?_) | refine pq2 e0 e3 (fun g1 => ?_) (fun g1 => ?_)) <;> (try exact g1.elim) <;> (try refine sq2 e0 e3 ?_) <;>
     (repeat (first | refine w1 (fun K hK => ?_) | refine w2 ?_ | refine w3 ?_ | ((first | refine w4 ?_ | refine w5 ?_ | refine w6 ?_ | refine w7 ?_); try refine sq2 e0 e3 ?_) | (refine w8 ?_; refine sq2 e0 e3 ?_; refine w9 ?_) | (refine rq2 e0 e3 ?_; try refine sq2 e0 e3 ?_) | (refine vq2 e0 e3 ?_; try refine sq2 e0 e3 ?_) | ((first | refine hK _ _ (w0 ?_) | (clear hK K; refine hK _ _ (w0 ?_)) | (clear hK K; clear hK K; refine hK _ _ (w0 ?_))); clear hK K)))
    ·refine aq2 e0 e3 ?_
     try refine sq2 e0 e3 ?_
     (repeat (first | refine w1 (fun K hK => ?_) | refine w2 ?_ | refine w3 ?_ | ((first | refine w4 ?_ | refine w5 ?_ | refine w6 ?_ | refine w7 ?_); try refine sq2 e0 e3 ?_) | (refine w8 ?_; refine sq2 e0 e3 ?_; refine w9 ?_) | (refine rq2 e0 e3 ?_; try refine sq2 e0 e3 ?_) | (refine vq2 e0 e3 ?_; try refine sq2 e0 e3 ?_) | ((first | refine hK _ _ (w0 ?_) | (clear hK K; refine hK _ _ (w0 ?_)) | (clear hK K; clear hK K; refine hK _ _ (w0 ?_))); clear hK K)))
     rw [g1, Bool.true_or, Bool.true_or, Bool.true_or] at hp
     refine hK2 _ _ _ (Wkn.refl ⟨g, v + 1, r, true, at_ ++ [a], jj ++ [.row 67 2 0 [a.av]], rfl, by simp [tkR, atR], ?_, ?_, by omega, ⟨by omega, fun h => by cases h⟩, hp, fun h => by cases h⟩) (by omega)
     all_goals first | exact zq2 e0 e3 | rfl | omega | trivial | skip
    ·rw [g1, Bool.false_or] at hp
     (first | refine gq2 e0 e3 (fun g2 => ?_) (fun g2 => ?_) | refine pq2 e0 e3 (fun g2 => ?_) (fun g2 => ?_)) <;> (try exact g2.elim) <;> (try refine sq2 e0 e3 ?_) <;>
      (repeat (first | refine w1 (fun K hK => ?_) | refine w2 ?_ | refine w3 ?_ | ((first | refine w4 ?_ | refine w5 ?_ | refine w6 ?_ | refine w7 ?_); try refine sq2 e0 e3 ?_) | (refine w8 ?_; refine sq2 e0 e3 ?_; refine w9 ?_) | (refine rq2 e0 e3 ?_; try refine sq2 e0 e3 ?_) | (refine vq2 e0 e3 ?_; try refine sq2 e0 e3 ?_) | ((first | refine hK _ _ (w0 ?_) | (clear hK K; refine hK _ _ (w0 ?_)) | (clear hK K; clear hK K; refine hK _ _ (w0 ?_))); clear hK K)))
     ·refine aq2 e0 e3 ?_
      try refine sq2 e0 e3 ?_
      (repeat (first | refine w1 (fun K hK => ?_) | refine w2 ?_ | refine w3 ?_ | ((first | refine w4 ?_ | refine w5 ?_ | refine w6 ?_ | refine w7 ?_); try refine sq2 e0 e3 ?_) | (refine w8 ?_; refine sq2 e0 e3 ?_; refine w9 ?_) | (refine rq2 e0 e3 ?_; try refine sq2 e0 e3 ?_) | (refine vq2 e0 e3 ?_; try refine sq2 e0 e3 ?_) | ((first | refine hK _ _ (w0 ?_) | (clear hK K; refine hK _ _ (w0 ?_)) | (clear hK K; clear hK K; refine hK _ _ (w0 ?_))); clear hK K)))
      have e : (s1.takeWhile blankB == []) = true := by rw [g2]; rfl
      rw [e, Bool.true_or, Bool.true_or] at hp
      refine hK2 _ _ _ (Wkn.refl ⟨g, v + 1, r, true, at_ ++ [a], jj ++ [.row 67 2 0 [a.av]], rfl, by simp [tkR, atR], ?_, ?_, by omega, ⟨by omega, fun h => by cases h⟩, hp, fun h => by cases h⟩) (by omega)
      all_goals first | exact zq2 e0 e3 | rfl | omega | trivial | skip
     ·have e : (s1.takeWhile blankB == []) = false := by simpa using g2
      rw [e, Bool.false_or] at hp
      refine (namedH_sat G at_ a.1 _ (h.length + (1 + (j.length + 1))) v (by simp (disch := first | omega | (simp only [go_sem, ↓reduceIte, seval]; first | done | omega) | fail) only [go_sem, ↓reduceIte, seval, e0, e3]) (by omega)).mono ?_
      rintro r h' ⟨rfl, rfl⟩
      try refine sq2 e0 e3 ?_
      (repeat (first | refine w1 (fun K hK => ?_) | refine w2 ?_ | refine w3 ?_ | ((first | refine w4 ?_ | refine w5 ?_ | refine w6 ?_ | refine w7 ?_); try refine sq2 e0 e3 ?_) | (refine w8 ?_; refine sq2 e0 e3 ?_; refine w9 ?_) | (refine rq2 e0 e3 ?_; try refine sq2 e0 e3 ?_) | (refine vq2 e0 e3 ?_; try refine sq2 e0 e3 ?_) | ((first | refine hK _ _ (w0 ?_) | (clear hK K; refine hK _ _ (w0 ?_)) | (clear hK K; clear hK K; refine hK _ _ (w0 ?_))); clear hK K)))
      (first | refine gq2 e0 e3 (fun g3 => ?_) (fun g3 => ?_) | refine pq2 e0 e3 (fun g3 => ?_) (fun g3 => ?_)) <;> (try exact g3.elim) <;> (try refine sq2 e0 e3 ?_) <;>
       (repeat (first | refine w1 (fun K hK => ?_) | refine w2 ?_ | refine w3 ?_ | ((first | refine w4 ?_ | refine w5 ?_ | refine w6 ?_ | refine w7 ?_); try refine sq2 e0 e3 ?_) | (refine w8 ?_; refine sq2 e0 e3 ?_; refine w9 ?_) | (refine rq2 e0 e3 ?_; try refine sq2 e0 e3 ?_) | (refine vq2 e0 e3 ?_; try refine sq2 e0 e3 ?_) | ((first | refine hK _ _ (w0 ?_) | (clear hK K; refine hK _ _ (w0 ?_)) | (clear hK K; clear hK K; refine hK _ _ (w0 ?_))); clear hK K)))
      ·refine aq2 e0 e3 ?_
       try refine sq2 e0 e3 ?_
       (repeat (first | refine w1 (fun K hK => ?_) | refine w2 ?_ | refine w3 ?_ | ((first | refine w4 ?_ | refine w5 ?_ | refine w6 ?_ | refine w7 ?_); try refine sq2 e0 e3 ?_) | (refine w8 ?_; refine sq2 e0 e3 ?_; refine w9 ?_) | (refine rq2 e0 e3 ?_; try refine sq2 e0 e3 ?_) | (refine vq2 e0 e3 ?_; try refine sq2 e0 e3 ?_) | ((first | refine hK _ _ (w0 ?_) | (clear hK K; refine hK _ _ (w0 ?_)) | (clear hK K; clear hK K; refine hK _ _ (w0 ?_))); clear hK K)))
       rw [g3, Bool.true_or] at hp
       refine hK2 _ _ _ (Wkn.refl ⟨g, v + 1, r, true, at_ ++ [a], jj ++ [.row 67 2 0 [a.av]], rfl, by simp [tkR, atR], ?_, ?_, by omega, ⟨by omega, fun h => by cases h⟩, hp, fun h => by cases h⟩) (by omega)
       all_goals first | exact zq2 e0 e3 | rfl | omega | trivial | skip
      ·refine aq2 e0 e3 ?_
       try refine sq2 e0 e3 ?_
       (repeat (first | refine w1 (fun K hK => ?_) | refine w2 ?_ | refine w3 ?_ | ((first | refine w4 ?_ | refine w5 ?_ | refine w6 ?_ | refine w7 ?_); try refine sq2 e0 e3 ?_) | (refine w8 ?_; refine sq2 e0 e3 ?_; refine w9 ?_) | (refine rq2 e0 e3 ?_; try refine sq2 e0 e3 ?_) | (refine vq2 e0 e3 ?_; try refine sq2 e0 e3 ?_) | ((first | refine hK _ _ (w0 ?_) | (clear hK K; refine hK _ _ (w0 ?_)) | (clear hK K; clear hK K; refine hK _ _ (w0 ?_))); clear hK K)))
       rw [g3, Bool.false_or] at hp
       refine hK2 _ _ _ (Wkn.refl ⟨g, v + 1, r, decide (32 ≤ at_.length), at_ ++ [a], jj ++ [.row 67 2 0 [a.av]], rfl, by simp [tkR, atR, show ((32 : Int) ≤ at_.length) ↔ 32 ≤ at_.length from by omega], ?_, ?_, by omega, ⟨by omega, fun h => by have := hl g1; omega⟩, hp, fun h => by simp only [decide_eq_false_iff_not] at h; simp; omega⟩) (by omega)
       all_goals first | exact zq2 e0 e3 | rfl | omega | trivial | skip
 ·first | refine (hQ _ _ ?_).1 | refine (hQ _ _ ?_).2
  refine sq2 e0 e3 ?_
  subst hc
  obtain ⟨g, rfl⟩ : ∃ g, f = g + 1 := ⟨f - 1, by omega⟩
  rw [openL, if_pos rfl] at hp
  rw [← hp]
  exact rd_finF h j _ _ s _ false rfl (.nils _)
end Go.Av
namespace Go.Av
open Go Go.Proofs Go.RowKit
attribute [local irreducible] WP WPl WPix Sat
set_option maxRecDepth 100000
set_option maxHeartbeats 1000000
variable (G : Nat → Option (List AVal))
def p1 : Bs := [60, 33, 45, 45]
def p2 : Bs := [60, 63]
def p3 : Bs := [60, 33, 68, 79, 67, 84, 89, 80, 69]
def p4 : Bs := [60, 33, 91, 67, 68, 65, 84, 65, 91]
def p5 : Bs := [60, 47]
def p6 : Bs := [60]
def partF (s : Bs) : List Tok × Bs × Bool :=
 if Lib.hasPrefix s p1 = true then ([], (uptoF [45, 45, 62] (Lib.trimPrefix s p1) false).2)
 else if Lib.hasPrefix s p2 = true then ([], (uptoF [63, 62] (Lib.trimPrefix s p2) false).2)
 else if Lib.hasPrefix s p3 = true then ([], kindF (Lib.trimPrefix s p3) false)
 else if Lib.hasPrefix s p4 = true then ([(3, [], [], (uptoF [93, 93, 62] (Lib.trimPrefix s p4) false).1)], (uptoF [93, 93, 62] (Lib.trimPrefix s p4) false).2)
 else if Lib.hasPrefix s p5 = true then ([(2, nameW (Lib.trimPrefix s p5), [], [])], closeF (Lib.trimPrefix s p5) false)
 else if Lib.hasPrefix s p6 = true then openF (Lib.trimPrefix s p6)
 else ([(3, [], [], readP ((s.takeWhile textB).length + 1) (s.takeWhile textB))], s.dropWhile textB, false)
theorem trim_no (s w : Bs) (h : Lib.hasPrefix s w = false) : Lib.trimPrefix s w = s := by unfold Lib.trimPrefix; rw [if_neg (by simp [h])]
theorem part_sat (hG : GOk G) (s : Bs) (hs : s.length ≤ 1048576) (h j : Heap) : Sat (CT G) 78 [.hp h.length 0 0 0] (rdH h j s false)
  (fun r h' => r = .sl 4 ((partF s).1.map Tok.av) ∧ h' = rdH h j (partF s).2.1 (partF s).2.2) := by
 have ht := fun w => trim_len s w
 have nils := fun s1 b => rd_finF h j [] s1 s b false (x := .nil (.slice none 0 0)) (y := .sl 4 []) (List.append_nil _).symm (.nils _)
 have toks := fun s1 b (l : List Tok) => rd_finF h j [] s1 s b false (x := .sl 4 (l.map Tok.av)) (y := .sl 4 (l.map Tok.av)) (List.append_nil _).symm (.clo _ (Toks.clo _ _ _))
 refine Sat.body [.tmp 2] (fn := Tryz.f78) Tryz.func78 rfl rfl (by kernel_rfl) (by kernel_rfl) (by kernel_rfl) rfl ?_
 intro Q hQ
 (repeat (first | refine w1 (fun K hK => ?_) | refine w2 ?_ | refine w3 ?_ | ((first | refine w4 ?_ | refine w5 ?_ | refine w6 ?_ | refine w7 ?_); try refine sq0 ?_) | (refine w8 ?_; refine sq0 ?_; refine w9 ?_) | ((first | refine hK _ _ (w0 ?_) | (clear hK K; refine hK _ _ (w0 ?_)) | (clear hK K; clear hK K; refine hK _ _ (w0 ?_))); clear hK K)))
 refine (take_sat G p1 s false h j).mono ?_
 rintro r h' ⟨rfl, rfl⟩
 try refine sq0 ?_
 (repeat (first | refine w1 (fun K hK => ?_) | refine w2 ?_ | refine w3 ?_ | ((first | refine w4 ?_ | refine w5 ?_ | refine w6 ?_ | refine w7 ?_); try refine sq0 ?_) | (refine w8 ?_; refine sq0 ?_; refine w9 ?_) | ((first | refine hK _ _ (w0 ?_) | (clear hK K; refine hK _ _ (w0 ?_)) | (clear hK K; clear hK K; refine hK _ _ (w0 ?_))); clear hK K)))
 refine cq0 (fun c1 => ?_) (fun c1 => ?_) <;> (try exact c1.elim) <;>
  (repeat (first | refine w1 (fun K hK => ?_) | refine w2 ?_ | refine w3 ?_ | ((first | refine w4 ?_ | refine w5 ?_ | refine w6 ?_ | refine w7 ?_); try refine sq0 ?_) | (refine w8 ?_; refine sq0 ?_; refine w9 ?_) | ((first | refine hK _ _ (w0 ?_) | (clear hK K; refine hK _ _ (w0 ?_)) | (clear hK K; clear hK K; refine hK _ _ (w0 ?_))); clear hK K)))
 ·refine (upto_sat G hG [45, 45, 62] (Lib.trimPrefix s p1) false (by have := ht p1; omega) h j).mono ?_
  rintro r h' ⟨rfl, rfl⟩
  try refine sq0 ?_
  (repeat (first | refine w1 (fun K hK => ?_) | refine w2 ?_ | refine w3 ?_ | ((first | refine w4 ?_ | refine w5 ?_ | refine w6 ?_ | refine w7 ?_); try refine sq0 ?_) | (refine w8 ?_; refine sq0 ?_; refine w9 ?_) | ((first | refine hK _ _ (w0 ?_) | (clear hK K; refine hK _ _ (w0 ?_)) | (clear hK K; clear hK K; refine hK _ _ (w0 ?_))); clear hK K)))
  have e : partF s = ([], (uptoF [45, 45, 62] (Lib.trimPrefix s p1) false).2) := by unfold partF; rw [if_pos c1]
  first | refine (hQ _ _ ?_).1 | refine (hQ _ _ ?_).2
  refine sq0 ?_
  rw [e]
  exact nils _ _
 rw [trim_no _ _ c1]
 refine (take_sat G p2 s false h j).mono ?_
 rintro r h' ⟨rfl, rfl⟩
 try refine sq0 ?_
 (repeat (first | refine w1 (fun K hK => ?_) | refine w2 ?_ | refine w3 ?_ | ((first | refine w4 ?_ | refine w5 ?_ | refine w6 ?_ | refine w7 ?_); try refine sq0 ?_) | (refine w8 ?_; refine sq0 ?_; refine w9 ?_) | ((first | refine hK _ _ (w0 ?_) | (clear hK K; refine hK _ _ (w0 ?_)) | (clear hK K; clear hK K; refine hK _ _ (w0 ?_))); clear hK K)))
 refine cq0 (fun c2 => ?_) (fun c2 => ?_) <;> (try exact c2.elim) <;>
  (repeat (first | refine w1 (fun K hK => ?_) | refine w2 ?_ | refine w3 ?_ | ((first | refine w4 ?_ | refine w5 ?_ | refine w6 ?_ | refine w7 ?_); try refine sq0 ?_) | (refine w8 ?_; refine sq0 ?_; refine w9 ?_) | ((first | refine hK _ _ (w0 ?_) | (clear hK K; refine hK _ _ (w0 ?_)) | (clear hK K; clear hK K; refine hK _ _ (w0 ?_))); clear hK K)))
 ·refine (upto_sat G hG [63, 62] (Lib.trimPrefix s p2) false (by have := ht p2; omega) h j).mono ?_
  rintro r h' ⟨rfl, rfl⟩
  try refine sq0 ?_
  (repeat (first | refine w1 (fun K hK => ?_) | refine w2 ?_ | refine w3 ?_ | ((first | refine w4 ?_ | refine w5 ?_ | refine w6 ?_ | refine w7 ?_); try refine sq0 ?_) | (refine w8 ?_; refine sq0 ?_; refine w9 ?_) | ((first | refine hK _ _ (w0 ?_) | (clear hK K; refine hK _ _ (w0 ?_)) | (clear hK K; clear hK K; refine hK _ _ (w0 ?_))); clear hK K)))
  have e : partF s = ([], (uptoF [63, 62] (Lib.trimPrefix s p2) false).2) := by unfold partF; rw [if_neg (by simp [c1]), if_pos c2]
  first | refine (hQ _ _ ?_).1 | refine (hQ _ _ ?_).2
  refine sq0 ?_
  rw [e]
  exact nils _ _
 rw [trim_no _ _ c2]
 refine (take_sat G p3 s false h j).mono ?_
 rintro r h' ⟨rfl, rfl⟩
 try refine sq0 ?_
 (repeat (first | refine w1 (fun K hK => ?_) | refine w2 ?_ | refine w3 ?_ | ((first | refine w4 ?_ | refine w5 ?_ | refine w6 ?_ | refine w7 ?_); try refine sq0 ?_) | (refine w8 ?_; refine sq0 ?_; refine w9 ?_) | ((first | refine hK _ _ (w0 ?_) | (clear hK K; refine hK _ _ (w0 ?_)) | (clear hK K; clear hK K; refine hK _ _ (w0 ?_))); clear hK K)))
 refine cq0 (fun c3 => ?_) (fun c3 => ?_) <;> (try exact c3.elim) <;>
  (repeat (first | refine w1 (fun K hK => ?_) | refine w2 ?_ | refine w3 ?_ | ((first | refine w4 ?_ | refine w5 ?_ | refine w6 ?_ | refine w7 ?_); try refine sq0 ?_) | (refine w8 ?_; refine sq0 ?_; refine w9 ?_) | ((first | refine hK _ _ (w0 ?_) | (clear hK K; refine hK _ _ (w0 ?_)) | (clear hK K; clear hK K; refine hK _ _ (w0 ?_))); clear hK K)))
 ·refine (kind_sat G hG (Lib.trimPrefix s p3) false (by have := ht p3; omega) h j).mono ?_
  rintro r h' ⟨rfl, rfl⟩
  try refine sq0 ?_
  (repeat (first | refine w1 (fun K hK => ?_) | refine w2 ?_ | refine w3 ?_ | ((first | refine w4 ?_ | refine w5 ?_ | refine w6 ?_ | refine w7 ?_); try refine sq0 ?_) | (refine w8 ?_; refine sq0 ?_; refine w9 ?_) | ((first | refine hK _ _ (w0 ?_) | (clear hK K; refine hK _ _ (w0 ?_)) | (clear hK K; clear hK K; refine hK _ _ (w0 ?_))); clear hK K)))
  have e : partF s = ([], kindF (Lib.trimPrefix s p3) false) := by unfold partF; rw [if_neg (by simp [c1]), if_neg (by simp [c2]), if_pos c3]
  first | refine (hQ _ _ ?_).1 | refine (hQ _ _ ?_).2
  refine sq0 ?_
  rw [e]
  exact toks _ _ []
 rw [trim_no _ _ c3]
 refine (take_sat G p4 s false h j).mono ?_
 rintro r h' ⟨rfl, rfl⟩
 try refine sq0 ?_
 (repeat (first | refine w1 (fun K hK => ?_) | refine w2 ?_ | refine w3 ?_ | ((first | refine w4 ?_ | refine w5 ?_ | refine w6 ?_ | refine w7 ?_); try refine sq0 ?_) | (refine w8 ?_; refine sq0 ?_; refine w9 ?_) | ((first | refine hK _ _ (w0 ?_) | (clear hK K; refine hK _ _ (w0 ?_)) | (clear hK K; clear hK K; refine hK _ _ (w0 ?_))); clear hK K)))
 refine cq0 (fun c4 => ?_) (fun c4 => ?_) <;> (try exact c4.elim) <;>
  (repeat (first | refine w1 (fun K hK => ?_) | refine w2 ?_ | refine w3 ?_ | ((first | refine w4 ?_ | refine w5 ?_ | refine w6 ?_ | refine w7 ?_); try refine sq0 ?_) | (refine w8 ?_; refine sq0 ?_; refine w9 ?_) | ((first | refine hK _ _ (w0 ?_) | (clear hK K; refine hK _ _ (w0 ?_)) | (clear hK K; clear hK K; refine hK _ _ (w0 ?_))); clear hK K)))
 ·refine (upto_sat G hG [93, 93, 62] (Lib.trimPrefix s p4) false (by have := ht p4; omega) h j).mono ?_
  rintro r h' ⟨rfl, rfl⟩
  try refine sq0 ?_
  (repeat (first | refine w1 (fun K hK => ?_) | refine w2 ?_ | refine w3 ?_ | ((first | refine w4 ?_ | refine w5 ?_ | refine w6 ?_ | refine w7 ?_); try refine sq0 ?_) | (refine w8 ?_; refine sq0 ?_; refine w9 ?_) | ((first | refine hK _ _ (w0 ?_) | (clear hK K; refine hK _ _ (w0 ?_)) | (clear hK K; clear hK K; refine hK _ _ (w0 ?_))); clear hK K)))
  refine (text_sat G _ _).mono ?_
  rintro r h' ⟨rfl, rfl⟩
  try refine sq0 ?_
  (repeat (first | refine w1 (fun K hK => ?_) | refine w2 ?_ | refine w3 ?_ | ((first | refine w4 ?_ | refine w5 ?_ | refine w6 ?_ | refine w7 ?_); try refine sq0 ?_) | (refine w8 ?_; refine sq0 ?_; refine w9 ?_) | ((first | refine hK _ _ (w0 ?_) | (clear hK K; refine hK _ _ (w0 ?_)) | (clear hK K; clear hK K; refine hK _ _ (w0 ?_))); clear hK K)))
  have e : partF s = ([(3, [], [], (uptoF [93, 93, 62] (Lib.trimPrefix s p4) false).1)], (uptoF [93, 93, 62] (Lib.trimPrefix s p4) false).2) := by unfold partF; rw [if_neg (by simp [c1]), if_neg (by simp [c2]), if_neg (by simp [c3]), if_pos c4]
  first | refine (hQ _ _ ?_).1 | refine (hQ _ _ ?_).2
  refine sq0 ?_
  rw [e]
  exact toks _ _ [_]
 rw [trim_no _ _ c4]
 refine (take_sat G p5 s false h j).mono ?_
 rintro r h' ⟨rfl, rfl⟩
 try refine sq0 ?_
 (repeat (first | refine w1 (fun K hK => ?_) | refine w2 ?_ | refine w3 ?_ | ((first | refine w4 ?_ | refine w5 ?_ | refine w6 ?_ | refine w7 ?_); try refine sq0 ?_) | (refine w8 ?_; refine sq0 ?_; refine w9 ?_) | ((first | refine hK _ _ (w0 ?_) | (clear hK K; refine hK _ _ (w0 ?_)) | (clear hK K; clear hK K; refine hK _ _ (w0 ?_))); clear hK K)))
 refine cq0 (fun c5 => ?_) (fun c5 => ?_) <;> (try exact c5.elim) <;>
  (repeat (first | refine w1 (fun K hK => ?_) | refine w2 ?_ | refine w3 ?_ | ((first | refine w4 ?_ | refine w5 ?_ | refine w6 ?_ | refine w7 ?_); try refine sq0 ?_) | (refine w8 ?_; refine sq0 ?_; refine w9 ?_) | ((first | refine hK _ _ (w0 ?_) | (clear hK K; refine hK _ _ (w0 ?_)) | (clear hK K; clear hK K; refine hK _ _ (w0 ?_))); clear hK K)))
 ·refine (close_sat G (Lib.trimPrefix s p5) false (by have := ht p5; omega) h j).mono ?_
  rintro r h' ⟨rfl, rfl⟩
  try refine sq0 ?_
  (repeat (first | refine w1 (fun K hK => ?_) | refine w2 ?_ | refine w3 ?_ | ((first | refine w4 ?_ | refine w5 ?_ | refine w6 ?_ | refine w7 ?_); try refine sq0 ?_) | (refine w8 ?_; refine sq0 ?_; refine w9 ?_) | ((first | refine hK _ _ (w0 ?_) | (clear hK K; refine hK _ _ (w0 ?_)) | (clear hK K; clear hK K; refine hK _ _ (w0 ?_))); clear hK K)))
  have e : partF s = ([(2, nameW (Lib.trimPrefix s p5), [], [])], closeF (Lib.trimPrefix s p5) false) := by unfold partF; rw [if_neg (by simp [c1]), if_neg (by simp [c2]), if_neg (by simp [c3]), if_neg (by simp [c4]), if_pos c5]
  first | refine (hQ _ _ ?_).1 | refine (hQ _ _ ?_).2
  refine sq0 ?_
  rw [e]
  exact toks _ _ [_]
 rw [trim_no _ _ c5]
 refine (take_sat G p6 s false h j).mono ?_
 rintro r h' ⟨rfl, rfl⟩
 try refine sq0 ?_
 (repeat (first | refine w1 (fun K hK => ?_) | refine w2 ?_ | refine w3 ?_ | ((first | refine w4 ?_ | refine w5 ?_ | refine w6 ?_ | refine w7 ?_); try refine sq0 ?_) | (refine w8 ?_; refine sq0 ?_; refine w9 ?_) | ((first | refine hK _ _ (w0 ?_) | (clear hK K; refine hK _ _ (w0 ?_)) | (clear hK K; clear hK K; refine hK _ _ (w0 ?_))); clear hK K)))
 refine cq0 (fun c6 => ?_) (fun c6 => ?_) <;> (try exact c6.elim) <;>
  (repeat (first | refine w1 (fun K hK => ?_) | refine w2 ?_ | refine w3 ?_ | ((first | refine w4 ?_ | refine w5 ?_ | refine w6 ?_ | refine w7 ?_); try refine sq0 ?_) | (refine w8 ?_; refine sq0 ?_; refine w9 ?_) | ((first | refine hK _ _ (w0 ?_) | (clear hK K; refine hK _ _ (w0 ?_)) | (clear hK K; clear hK K; refine hK _ _ (w0 ?_))); clear hK K)))
 ·refine (open_sat G hG (Lib.trimPrefix s p6) (by have := ht p6; omega) h j).mono ?_
  rintro r h' ⟨rfl, rfl⟩
  try refine sq0 ?_
  (repeat (first | refine w1 (fun K hK => ?_) | refine w2 ?_ | refine w3 ?_ | ((first | refine w4 ?_ | refine w5 ?_ | refine w6 ?_ | refine w7 ?_); try refine sq0 ?_) | (refine w8 ?_; refine sq0 ?_; refine w9 ?_) | ((first | refine hK _ _ (w0 ?_) | (clear hK K; refine hK _ _ (w0 ?_)) | (clear hK K; clear hK K; refine hK _ _ (w0 ?_))); clear hK K)))
  have e : partF s = openF (Lib.trimPrefix s p6) := by unfold partF; rw [if_neg (by simp [c1]), if_neg (by simp [c2]), if_neg (by simp [c3]), if_neg (by simp [c4]), if_neg (by simp [c5]), if_pos c6]
  first | refine (hQ _ _ ?_).1 | refine (hQ _ _ ?_).2
  refine sq0 ?_
  rw [e]
  exact toks _ _ _
 rw [trim_no _ _ c6]
 have hw : (s.takeWhile textB).length ≤ s.length := (List.takeWhile_sublist _).length_le
 refine (run_sat G textP textB true text_by 106 s false (by omega) h j (fun c k _ => part1_sat G c k)).mono ?_
 rintro r h' ⟨rfl, rfl⟩
 try refine sq0 ?_
 (repeat (first | refine w1 (fun K hK => ?_) | refine w2 ?_ | refine w3 ?_ | ((first | refine w4 ?_ | refine w5 ?_ | refine w6 ?_ | refine w7 ?_); try refine sq0 ?_) | (refine w8 ?_; refine sq0 ?_; refine w9 ?_) | ((first | refine hK _ _ (w0 ?_) | (clear hK K; refine hK _ _ (w0 ?_)) | (clear hK K; clear hK K; refine hK _ _ (w0 ?_))); clear hK K)))
 refine (Read_sat hG (s.takeWhile textB) (by omega) _).mono ?_
 rintro r h' ⟨rfl, rfl⟩
 try refine sq0 ?_
 (repeat (first | refine w1 (fun K hK => ?_) | refine w2 ?_ | refine w3 ?_ | ((first | refine w4 ?_ | refine w5 ?_ | refine w6 ?_ | refine w7 ?_); try refine sq0 ?_) | (refine w8 ?_; refine sq0 ?_; refine w9 ?_) | ((first | refine hK _ _ (w0 ?_) | (clear hK K; refine hK _ _ (w0 ?_)) | (clear hK K; clear hK K; refine hK _ _ (w0 ?_))); clear hK K)))
 refine (text_sat G _ _).mono ?_
 rintro r h' ⟨rfl, rfl⟩
 try refine sq0 ?_
 (repeat (first | refine w1 (fun K hK => ?_) | refine w2 ?_ | refine w3 ?_ | ((first | refine w4 ?_ | refine w5 ?_ | refine w6 ?_ | refine w7 ?_); try refine sq0 ?_) | (refine w8 ?_; refine sq0 ?_; refine w9 ?_) | ((first | refine hK _ _ (w0 ?_) | (clear hK K; refine hK _ _ (w0 ?_)) | (clear hK K; clear hK K; refine hK _ _ (w0 ?_))); clear hK K)))
 have e : partF s = ([(3, [], [], readP ((s.takeWhile textB).length + 1) (s.takeWhile textB))], s.dropWhile textB, false) := by unfold partF; rw [if_neg (by simp [c1]), if_neg (by simp [c2]), if_neg (by simp [c3]), if_neg (by simp [c4]), if_neg (by simp [c5]), if_neg (by simp [c6])]
 first | refine (hQ _ _ ?_).1 | refine (hQ _ _ ?_).2
 refine sq0 ?_
 rw [e]
 exact toks _ _ [_]
end Go.Av
namespace Go.Av
open Go Go.Proofs Go.RowKit
attribute [local irreducible] WP WPl WPix Sat
set_option maxRecDepth 100000
set_option maxHeartbeats 1000000
variable (G : Nat → Option (List AVal))
def addT (l : List Tok) (t : Tok) : List Tok :=
 if t.1 = 3 then
  if t.2.2.2 = [] then l else
  match l.getLast? with
  | some u => if u.1 = 3 then l.dropLast ++ [(u.1, u.2.1, u.2.2.1, u.2.2.2 ++ t.2.2.2)] else l ++ [t]
  | none => l ++ [t]
 else l ++ [t]
theorem addT_snoc (l : List Tok) (u t : Tok) (ht : t.1 = 3) (hn : t.2.2.2 ≠ []) : addT (l ++ [u]) t = if u.1 = 3 then l ++ [(u.1, u.2.1, u.2.2.1, u.2.2.2 ++ t.2.2.2)] else l ++ [u] ++ [t] := by
 unfold addT; rw [if_pos ht, if_neg hn]; simp
theorem addT_nil (t : Tok) (hn : t.1 = 3 → t.2.2.2 ≠ []) : addT [] t = [t] := by
 unfold addT; split
 ·rename_i h; rw [if_neg (hn h)]; rfl
 ·rfl
def tksR (v : Nat) (l : List Tok) : Blk := .row 83 4 v (l.map Tok.av)
theorem tksR_clo (n v : Nat) (l : List Tok) : CloB n (tksR v l) := by
 intro r hr
 obtain ⟨a, _, rfl⟩ := List.mem_map.1 hr
 exact Tok.clo _ _
theorem tks_fin (P j jj : Heap) (v v0 : Nat) (l l0 : List Tok) {h2 : Heap} {x : AVal} {R : AVal → Heap → Prop} (hh : h2 = P ++ tksR v l :: j ++ jj) (hx : Clo (P ++ tksR v0 l0 :: j).length x) (hR : R x (P ++ tksR v l :: j)) :
  Fin (P ++ tksR v0 l0 :: j) h2 R x := by
 refine Fin.keepE (h1 := P ++ tksR v l :: j) hh (by simp) (fun p k hk => ?_) hx hR
 rcases Nat.lt_or_ge p P.length with h1 | h1
 ·rw [List.getElem?_append_left h1] at hk ⊢; exact .inl hk
 ·rw [List.getElem?_append_right h1] at hk ⊢
  match p - P.length, hk with
  | 0, hk => simp at hk; subst hk; exact .inr (tksR_clo _ _ _)
  | i + 1, hk => exact .inl (by simpa using hk)
@[go_sem] theorem getRow_tks (v : Nat) (l : List Tok) (j : Heap) : getRow (tksR v l :: j) 0 v = some (83, 4, l.map Tok.av) := by simp [getRow, tksR]
@[go_sem] theorem getRow_tkss (v : Nat) (l : List Tok) (j : Heap) (k u : Nat) : getRow (tksR v l :: j) (k + 1) u = getRow j k u := rfl
theorem add_sat (P j : Heap) (v : Nat) (l : List Tok) (t : Tok) (hl : l.length ≤ 1048576) (ht : ∀ u ∈ l, u.2.2.2.length + t.2.2.2.length ≤ 140737488355328) :
  Sat (CT G) 79 [.hs P.length v 0 l.length true, t.av] (P ++ tksR v l :: j) (fun r h' => ∃ v', r = .hs P.length v' 0 (addT l t).length true ∧ h' = P ++ tksR v' (addT l t) :: j) := by
 have end_ := fun (jj : Heap) (v1 : Nat) (l1 : List Tok) (h2 : Heap) (hh : h2 = P ++ tksR v1 l1 :: j ++ jj) (hl1 : l1 = addT l t) => tks_fin P j jj v1 v l1 l (x := .hs P.length v1 0 l1.length true)
  (R := fun r h' => ∃ v', r = .hs P.length v' 0 (addT l t).length true ∧ h' = P ++ tksR v' (addT l t) :: j) hh (.hs _ _ _ _ _ (by simp)) ⟨v1, by rw [hl1], by rw [hl1]⟩
 refine Sat.body [.tmp 4] (fn := Tryz.f79) Tryz.func79 rfl rfl (by kernel_rfl) (by kernel_rfl) (by kernel_rfl) rfl ?_
 intro Q hQ
 (repeat (first | refine w1 (fun K hK => ?_) | refine w2 ?_ | refine w3 ?_ | ((first | refine w4 ?_ | refine WP_draw 10 (by decide +kernel) ?_ | refine w5 ?_ | refine w6 ?_ | refine w7 ?_); try refine sq0 ?_) | (refine w8 ?_; refine sq0 ?_; refine w9 ?_) | (refine rq0 ?_; try refine sq0 ?_) | (refine vq0 ?_; try refine sq0 ?_) | ((first | refine hK _ _ (w0 ?_) | (clear hK K; refine hK _ _ (w0 ?_)) | (clear hK K; clear hK K; refine hK _ _ (w0 ?_))); clear hK K)))
 have tail : ∀ (t' : Env), t' 0 = .hs P.length v 0 l.length true → t' 3 = .hp (P.length + (j.length + 1)) 0 0 0 → addT l t = l ++ [t] → K t' (P ++ tksR v l :: (j ++ [.row 83 4 0 [t.av]])) := by
  intro t' e0 e3 he
  refine hK _ _ (Wkn.refl ?_)
  clear hK K
  skip
  (repeat (first | refine w1 (fun K hK => ?_) | refine w2 ?_ | refine w3 ?_ | ((first | refine w4 ?_ | refine WP_draw 10 (by decide +kernel) ?_ | refine w5 ?_ | refine w6 ?_ | refine w7 ?_); try refine sq2 e0 e3 ?_) | (refine w8 ?_; refine sq2 e0 e3 ?_; refine w9 ?_) | (refine rq2 e0 e3 ?_; try refine sq2 e0 e3 ?_) | (refine vq2 e0 e3 ?_; try refine sq2 e0 e3 ?_) | ((first | refine hK _ _ (w0 ?_) | (clear hK K; refine hK _ _ (w0 ?_)) | (clear hK K; clear hK K; refine hK _ _ (w0 ?_))); clear hK K)))
  refine aq2 e0 e3 ?_
  try refine sq2 e0 e3 ?_
  (repeat (first | refine w1 (fun K hK => ?_) | refine w2 ?_ | refine w3 ?_ | ((first | refine w4 ?_ | refine WP_draw 10 (by decide +kernel) ?_ | refine w5 ?_ | refine w6 ?_ | refine w7 ?_); try refine sq2 e0 e3 ?_) | (refine w8 ?_; refine sq2 e0 e3 ?_; refine w9 ?_) | (refine rq2 e0 e3 ?_; try refine sq2 e0 e3 ?_) | (refine vq2 e0 e3 ?_; try refine sq2 e0 e3 ?_) | ((first | refine hK _ _ (w0 ?_) | (clear hK K; refine hK _ _ (w0 ?_)) | (clear hK K; clear hK K; refine hK _ _ (w0 ?_))); clear hK K)))
  first | refine (hQ _ _ ?_).1 | refine (hQ _ _ ?_).2
  refine sq2 e0 e3 ?_
  have := end_ [.row 83 4 0 [t.av]] (v + 1) (l ++ [t]) (P ++ .row 83 4 (v + 1) (l.map Tok.av ++ [t.av]) :: (j ++ [.row 83 4 0 [t.av]])) (by simp [tksR]) he.symm
  rw [List.length_append] at this
  exact this
 refine cq0 (fun c1 => ?_) (fun c1 => ?_) <;> (try exact c1.elim) <;>
  (repeat (first | refine w1 (fun K hK => ?_) | refine w2 ?_ | refine w3 ?_ | ((first | refine w4 ?_ | refine WP_draw 10 (by decide +kernel) ?_ | refine w5 ?_ | refine w6 ?_ | refine w7 ?_); try refine sq0 ?_) | (refine w8 ?_; refine sq0 ?_; refine w9 ?_) | (refine rq0 ?_; try refine sq0 ?_) | (refine vq0 ?_; try refine sq0 ?_) | ((first | refine hK _ _ (w0 ?_) | (clear hK K; refine hK _ _ (w0 ?_)) | (clear hK K; clear hK K; refine hK _ _ (w0 ?_))); clear hK K)))
 ·refine tail _ ?_ ?_ (by unfold addT; rw [if_neg c1])
  ·exact zq0
  ·exact zq0
 ·refine cq0 (fun c2 => ?_) (fun c2 => ?_) <;> (try exact c2.elim) <;>
   (repeat (first | refine w1 (fun K hK => ?_) | refine w2 ?_ | refine w3 ?_ | ((first | refine w4 ?_ | refine WP_draw 10 (by decide +kernel) ?_ | refine w5 ?_ | refine w6 ?_ | refine w7 ?_); try refine sq0 ?_) | (refine w8 ?_; refine sq0 ?_; refine w9 ?_) | (refine rq0 ?_; try refine sq0 ?_) | (refine vq0 ?_; try refine sq0 ?_) | ((first | refine hK _ _ (w0 ?_) | (clear hK K; refine hK _ _ (w0 ?_)) | (clear hK K; clear hK K; refine hK _ _ (w0 ?_))); clear hK K)))
  ·first | refine (hQ _ _ ?_).1 | refine (hQ _ _ ?_).2
   refine sq0 ?_
   exact end_ _ v l _ (by simp; rfl) (by unfold addT; rw [if_pos c1, if_pos c2])
  ·have c2' : t.2.2.2 ≠ [] := c2
   rcases List.eq_nil_or_concat l with rfl | ⟨l, u, rfl⟩
   ·(first | refine gq0 (fun g => ?_) (fun g => ?_) | refine pq0 (fun g => ?_) (fun g => ?_)) <;> (try exact g.elim) <;> (try refine sq0 ?_) <;>
     (repeat (first | refine w1 (fun K hK => ?_) | refine w2 ?_ | refine w3 ?_ | ((first | refine w4 ?_ | refine WP_draw 10 (by decide +kernel) ?_ | refine w5 ?_ | refine w6 ?_ | refine w7 ?_); try refine sq0 ?_) | (refine w8 ?_; refine sq0 ?_; refine w9 ?_) | (refine rq0 ?_; try refine sq0 ?_) | (refine vq0 ?_; try refine sq0 ?_) | ((first | refine hK _ _ (w0 ?_) | (clear hK K; refine hK _ _ (w0 ?_)) | (clear hK K; clear hK K; refine hK _ _ (w0 ?_))); clear hK K)))
    ·refine tail _ ?_ ?_ (addT_nil t fun _ => c2')
     ·exact zq0
     ·exact zq0
   ·rw [List.concat_eq_append] at *
    have hl2 : l.length + 1 ≤ 1048576 := by simpa using hl
    have e1 : ((l.length + 1 : Nat) : Int) - 1 = l.length := by omega
    have e2 : (l ++ [u])[l.length]? = some u := by simp
    skip
    (first | refine gq2 e1 e2 (fun g => ?_) (fun g => ?_) | refine pq2 e1 e2 (fun g => ?_) (fun g => ?_)) <;> (try exact g.elim) <;> (try refine sq2 e1 e2 ?_) <;>
     (repeat (first | refine w1 (fun K hK => ?_) | refine w2 ?_ | refine w3 ?_ | ((first | refine w4 ?_ | refine WP_draw 10 (by decide +kernel) ?_ | refine w5 ?_ | refine w6 ?_ | refine w7 ?_); try refine sq2 e1 e2 ?_) | (refine w8 ?_; refine sq2 e1 e2 ?_; refine w9 ?_) | (refine rq2 e1 e2 ?_; try refine sq2 e1 e2 ?_) | (refine vq2 e1 e2 ?_; try refine sq2 e1 e2 ?_) | ((first | refine hK _ _ (w0 ?_) | (clear hK K; refine hK _ _ (w0 ?_)) | (clear hK K; clear hK K; refine hK _ _ (w0 ?_))); clear hK K)))
    ·have := ht u (by simp)
     have hsn := addT_snoc l u t c1 c2'
     have e3 : l.length < l.length + 1 := by omega
     refine ⟨e3, ?_⟩
     by_cases c3 : u.1 = 3
     ·refine hK _ _ (Wkn.refl ?_)
      clear tail hK K
      have e4 : (u.1 == 3) = true := by simpa using c3
      rw [if_pos c3] at hsn
      skip
      (repeat (first | refine w1 (fun K hK => ?_) | refine w2 ?_ | refine w3 ?_ | ((first | refine w4 ?_ | refine WP_draw 10 (by decide +kernel) ?_ | refine w5 ?_ | refine w6 ?_ | refine w7 ?_); try refine sq4 e1 e2 e3 e4 ?_) | (refine w8 ?_; refine sq4 e1 e2 e3 e4 ?_; refine w9 ?_) | (refine rq4 e1 e2 e3 e4 ?_; try refine sq4 e1 e2 e3 e4 ?_) | (refine vq4 e1 e2 e3 e4 ?_; try refine sq4 e1 e2 e3 e4 ?_) | ((first | refine hK _ _ (w0 ?_) | (clear hK K; refine hK _ _ (w0 ?_)) | (clear hK K; clear hK K; refine hK _ _ (w0 ?_))); clear hK K)))
      first | refine (hQ _ _ ?_).1 | refine (hQ _ _ ?_).2
      refine sq4 e1 e2 e3 e4 ?_
      have := end_ [.row 83 4 0 [t.av]] v _ _ rfl hsn.symm
      simp [tksR, Tok.av, ofCells] at this ⊢
      exact this
     ·have e4 : (u.1 == 3) = false := by simpa using c3
      rw [if_neg c3] at hsn
      skip
      refine hK _ _ (Wkn.refl ?_)
      clear hK
      (repeat (first | refine w1 (fun K hK => ?_) | refine w2 ?_ | refine w3 ?_ | ((first | refine w4 ?_ | refine WP_draw 10 (by decide +kernel) ?_ | refine w5 ?_ | refine w6 ?_ | refine w7 ?_); try refine sq3 e1 e2 e4 ?_) | (refine w8 ?_; refine sq3 e1 e2 e4 ?_; refine w9 ?_) | (refine rq3 e1 e2 e4 ?_; try refine sq3 e1 e2 e4 ?_) | (refine vq3 e1 e2 e4 ?_; try refine sq3 e1 e2 e4 ?_) | ((first | refine hK _ _ (w0 ?_) | (clear hK K; refine hK _ _ (w0 ?_)) | (clear hK K; clear hK K; refine hK _ _ (w0 ?_))); clear hK K)))
      refine aq3 e1 e2 e4 ?_
      try refine sq3 e1 e2 e4 ?_
      (repeat (first | refine w1 (fun K hK => ?_) | refine w2 ?_ | refine w3 ?_ | ((first | refine w4 ?_ | refine WP_draw 10 (by decide +kernel) ?_ | refine w5 ?_ | refine w6 ?_ | refine w7 ?_); try refine sq3 e1 e2 e4 ?_) | (refine w8 ?_; refine sq3 e1 e2 e4 ?_; refine w9 ?_) | (refine rq3 e1 e2 e4 ?_; try refine sq3 e1 e2 e4 ?_) | (refine vq3 e1 e2 e4 ?_; try refine sq3 e1 e2 e4 ?_) | ((first | refine hK _ _ (w0 ?_) | (clear hK K; refine hK _ _ (w0 ?_)) | (clear hK K; clear hK K; refine hK _ _ (w0 ?_))); clear hK K)))
      first | refine (hQ _ _ ?_).1 | refine (hQ _ _ ?_).2
      refine sq3 e1 e2 e4 ?_
      have := end_ [.row 83 4 0 [t.av]] (v + 1) _ _ rfl hsn.symm
      simp [tksR] at this ⊢
      exact this
    ·exfalso; simp at g
end Go.Av
namespace Go.Av
open Go Go.Proofs Go.RowKit
set_option maxRecDepth 100000
theorem szs_add {α : Type} (f : α → Nat) (a b : List α) : szs f (a ++ b) = szs f a + szs f b := by
 induction a with
 | nil => simp [szs]
 | cons x l ih => simp only [List.cons_append, szs, ih]; omega
theorem uptoF_sum (w s : Bs) (b : Bool) : (uptoF w s b).1.length + (uptoF w s b).2.1.length ≤ s.length := by
 unfold uptoF
 split
 ·rename_i h; have := cut_len s w h; simp only []; omega
 ·simp
theorem name_sum (s : Bs) : (nameW s).length + (nameR s).length = s.length := by
 have := congrArg List.length (List.takeWhile_append_dropWhile (p := moreB) (l := s))
 rw [List.length_append] at this; exact this
theorem readP_len : ∀ (f : Nat) (s : Bs), (readP f s).length ≤ 5 * s.length := by
 intro f
 induction f with
 | zero => intro s; simp [readP]
 | succ f ih =>
  intro s
  rw [readP]
  split
  ·rename_i h
   have h1 := cut_len s [38] h
   simp only [List.length_cons, List.length_nil] at h1
   split
   ·rename_i h2
    simp only [Bool.and_eq_true] at h2
    have h3 := cut_len _ [59] h2.1.1
    simp only [List.length_cons, List.length_nil] at h3
    have h4 := enc_len (signF (Lib.cut (Lib.cut s [38]).2.1 [59]).1).1
    have h5 := ih (Lib.cut (Lib.cut s [38]).2.1 [59]).2.1
    simp only [List.length_append]; omega
   ·have h5 := ih (Lib.cut s [38]).2.1
    simp only [List.length_append, List.length_cons]; omega
  ·rename_i h
   rw [cut_no s [38] (by simpa using h)]
   simp only []; omega
theorem value_sz (s : Bs) (b : Bool) : (valueF s b).1.length + 5 * (valueF s b).2.1.length ≤ 5 * s.length := by
 have h1 := trim_len s (if Lib.hasPrefix s [34] = true then [34] else [39])
 have h2 := uptoF_sum (if Lib.hasPrefix s [34] = true then [34] else [39]) (Lib.trimPrefix s (if Lib.hasPrefix s [34] = true then [34] else [39])) (b || !Lib.hasPrefix s (if Lib.hasPrefix s [34] = true then [34] else [39]))
 show (readP _ _).length + 5 * (uptoF _ _ _).2.1.length ≤ _
 have h3 := readP_len ((uptoF (if Lib.hasPrefix s [34] = true then [34] else [39]) (Lib.trimPrefix s (if Lib.hasPrefix s [34] = true then [34] else [39])) (b || !Lib.hasPrefix s (if Lib.hasPrefix s [34] = true then [34] else [39]))).1.length + 1)
  (uptoF (if Lib.hasPrefix s [34] = true then [34] else [39]) (Lib.trimPrefix s (if Lib.hasPrefix s [34] = true then [34] else [39])) (b || !Lib.hasPrefix s (if Lib.hasPrefix s [34] = true then [34] else [39]))).1
 omega
theorem attrX_sz (s : Bs) (h : (attrX s false).2.2 = false) : At.sz (attrX s false).1 + 10 * (attrX s false).2.1.length ≤ 10 * s.length := by
 have h0 := bad_name_empty s (attrX_good s h)
 have h1 := name_sum s
 have h2 := drop_len blankB (nameR s)
 have h3 := trim_len ((nameR s).dropWhile blankB) [61]
 have h4 := drop_len blankB (Lib.trimPrefix ((nameR s).dropWhile blankB) [61])
 unfold attrX at h ⊢
 simp only [] at h ⊢
 split at h
 ·rename_i hb
  simp only [] at h
  rw [h] at hb; cases hb
 ·rename_i hb
  rw [if_neg hb]
  have := value_sz ((Lib.trimPrefix ((nameR s).dropWhile blankB) [61]).dropWhile blankB) (false || badN (nameW s) || !Lib.hasPrefix ((nameR s).dropWhile blankB) [61])
  simp only [At.sz]; omega
theorem has_len (s w : Bs) (h : Lib.hasPrefix s w = true) : (Lib.trimPrefix s w).length + w.length ≤ s.length := by
 have h1 : w.length ≤ s.length := (List.isPrefixOf_iff_prefix.1 h).length_le
 unfold Lib.trimPrefix; rw [if_pos h, List.length_drop]; omega
theorem openL_sz : ∀ (f : Nat) (n : Bs) (at_ : List At) (s : Bs) (b : Bool), szs Tok.sz (openL f n at_ s b).1 + 10 * (openL f n at_ s b).2.1.length ≤ 2 + 2 * n.length + szs At.sz at_ + 10 * s.length := by
 intro f
 induction f with
 | zero => intro n at_ s b; simp only [openL, szs]; omega
 | succ f ih =>
  intro n at_ s b
  have h1 := drop_len blankB s
  rw [openL]
  split
  ·simp only [szs]; omega
  ·split
   ·have := trim_len (s.dropWhile blankB) [62]
    simp only [szs, Tok.sz, List.length_nil]; omega
   ·split
    ·have := trim_len (s.dropWhile blankB) [47, 62]
     simp only [szs, Tok.sz, List.length_nil]; omega
    ·have h2 := attrX_sz (s.dropWhile blankB)
     cases hb : (attrX (s.dropWhile blankB) false).2.2 with
     | true =>
      rw [Bool.true_or, Bool.true_or, Bool.true_or]
      have h3 := attrX_len (s.dropWhile blankB) false
      have h4 := drop_len moreB (s.dropWhile blankB)
      change (nameR (s.dropWhile blankB)).length ≤ _ at h4
      have e : ∀ at_ s, openL f n at_ s true = ([], s, true) := fun at_ s => by cases f <;> simp [openL]
      rw [e]
      simp only [szs]; omega
     | false =>
      have h3 := ih n (at_ ++ [(attrX (s.dropWhile blankB) false).1]) (attrX (s.dropWhile blankB) false).2.1 (((false || s.takeWhile blankB == []) || at_.any fun a => a.1 == (attrX (s.dropWhile blankB) false).1.1) || decide (32 ≤ at_.length))
      have h4 := h2 hb
      rw [szs_add] at h3
      simp only [szs] at h3
      omega
theorem openL_rest (f : Nat) (n : Bs) (s : Bs) : openL f n [] s true = ([], s, true) := by cases f <;> simp [openL]
theorem openF_sz (s : Bs) : szs Tok.sz (openF s).1 + 10 * (openF s).2.1.length ≤ 2 + 10 * s.length := by
 unfold openF
 have h1 := name_sum s
 cases hb : badN (nameW s) with
 | true => rw [openL_rest]; simp only [szs]; omega
 | false =>
  have := openL_sz (s.length + 3) (nameW s) [] (nameR s) false
  simp only [szs] at this
  omega
theorem textB_none (s : Bs) (h : Lib.hasPrefix s [60] = false) (hs : s ≠ []) : 1 ≤ (s.takeWhile textB).length := by
 cases s with
 | nil => exact absurd rfl hs
 | cons c t =>
  have : textB c = true := by
   unfold textB textP
   simp only [Bool.not_eq_true', decide_eq_false_iff_not]
   intro e
   have : c = 60 := UInt8.toNat_inj.1 (by have := Int.ofNat.inj e; simpa using this)
   subst this
   simp [Lib.hasPrefix] at h
  simp [List.takeWhile, this]
theorem partF_sz (s : Bs) (hs : s ≠ []) : szs Tok.sz (partF s).1 + 10 * (partF s).2.1.length ≤ 10 * s.length := by
 unfold partF
 split
 ·have := trim_len s p1; have := uptoF_less [45, 45, 62] (Lib.trimPrefix s p1) false
  simp only [szs]; omega
 split
 ·have := trim_len s p2; have := uptoF_less [63, 62] (Lib.trimPrefix s p2) false
  simp only [szs]; omega
 split
 ·have := trim_len s p3; have := uptoF_less [62] (Lib.trimPrefix s p3) false
  simp only [szs, kindF]; omega
 split
 ·rename_i h; have := has_len s p4 h; have := uptoF_sum [93, 93, 62] (Lib.trimPrefix s p4) false
  simp only [szs, Tok.sz, p4, List.length_cons, List.length_nil] at *; omega
 split
 ·rename_i h; have := has_len s p5 h; have := name_sum (Lib.trimPrefix s p5); have := drop_len blankB (nameR (Lib.trimPrefix s p5)); have := trim_len ((nameR (Lib.trimPrefix s p5)).dropWhile blankB) [62]
  simp only [szs, Tok.sz, closeF, p5, List.length_cons, List.length_nil] at *; omega
 split
 ·rename_i h; have := has_len s p6 h; have := openF_sz (Lib.trimPrefix s p6)
  simp only [p6, List.length_cons, List.length_nil] at *; omega
 ·rename_i h
  have h1 := textB_none s (by simpa [p6] using h) hs
  have h2 := readP_len ((s.takeWhile textB).length + 1) (s.takeWhile textB)
  have h3 := congrArg List.length (List.takeWhile_append_dropWhile (p := textB) (l := s))
  rw [List.length_append] at h3
  simp only [szs, Tok.sz, List.length_nil]; omega
theorem addT_sz (l : List Tok) (t : Tok) : szs Tok.sz (addT l t) ≤ szs Tok.sz l + Tok.sz t := by
 by_cases h3 : t.1 = 3
 ·by_cases ht : t.2.2.2 = []
  ·unfold addT; rw [if_pos h3, if_pos ht]; omega
  ·rcases List.eq_nil_or_concat l with rfl | ⟨l, u, rfl⟩
   ·rw [addT_nil t fun _ => ht]; simp [szs]
   ·rw [List.concat_eq_append, addT_snoc l u t h3 ht]
    split
    ·simp only [szs_add, szs, Tok.sz, List.length_append]; omega
    ·simp only [szs_add, szs]; omega
 ·unfold addT; rw [if_neg h3, szs_add]; simp [szs]
theorem openL_less : ∀ (f : Nat) (n : Bs) (at_ : List At) (s : Bs) (b : Bool), (openL f n at_ s b).2.1.length ≤ s.length := by
 intro f
 induction f with
 | zero => intro n at_ s b; simp [openL]
 | succ f ih =>
  intro n at_ s b
  have h1 := drop_len blankB s
  rw [openL]
  split
  ·simp
  ·split
   ·have := trim_len (s.dropWhile blankB) [62]; simp only []; omega
   ·split
    ·have := trim_len (s.dropWhile blankB) [47, 62]; simp only []; omega
    ·refine Nat.le_trans (ih _ _ _ _) ?_
     have h3 := attrX_len (s.dropWhile blankB) false
     have h4 := drop_len moreB (s.dropWhile blankB)
     change (nameR (s.dropWhile blankB)).length ≤ _ at h4
     omega
theorem partF_less (s : Bs) (hs : s ≠ []) : (partF s).2.1.length < s.length := by
 unfold partF
 split
 ·rename_i h; have := has_len s p1 h; have := uptoF_less [45, 45, 62] (Lib.trimPrefix s p1) false
  simp only [p1, List.length_cons, List.length_nil] at *; omega
 split
 ·rename_i h; have := has_len s p2 h; have := uptoF_less [63, 62] (Lib.trimPrefix s p2) false
  simp only [p2, List.length_cons, List.length_nil] at *; omega
 split
 ·rename_i h; have := has_len s p3 h; have := uptoF_less [62] (Lib.trimPrefix s p3) false
  simp only [p3, kindF, List.length_cons, List.length_nil] at *; omega
 split
 ·rename_i h; have := has_len s p4 h; have := uptoF_less [93, 93, 62] (Lib.trimPrefix s p4) false
  simp only [p4, List.length_cons, List.length_nil] at *; omega
 split
 ·rename_i h; have := has_len s p5 h; have := name_sum (Lib.trimPrefix s p5); have := drop_len blankB (nameR (Lib.trimPrefix s p5)); have := trim_len ((nameR (Lib.trimPrefix s p5)).dropWhile blankB) [62]
  simp only [closeF, p5, List.length_cons, List.length_nil] at *; omega
 split
 ·rename_i h; have := has_len s p6 h; have := openL_less ((Lib.trimPrefix s p6).length + 3) (nameW (Lib.trimPrefix s p6)) [] (nameR (Lib.trimPrefix s p6)) (badN (nameW (Lib.trimPrefix s p6))); have hns := name_sum (Lib.trimPrefix s p6)
  unfold openF
  simp only [p6, List.length_cons, List.length_nil] at *
  omega
 ·rename_i h
  have h1 := textB_none s (by simpa [p6] using h) hs
  have h3 := congrArg List.length (List.takeWhile_append_dropWhile (p := textB) (l := s))
  rw [List.length_append] at h3
  simp only []; omega
def tksF : Nat → Bs → List Tok → List Tok × Int
 | 0, _, _ => ([], 80)
 | f + 1, s, l => if s = [] then (l, 0) else
  if (partF s).2.2 = true then ([], 80) else
  if 8192 < ((partF s).1.foldl addT l).length then ([], 3) else tksF f (partF s).2.1 ((partF s).1.foldl addT l)
theorem fold_sz : ∀ (l : List Tok) (a : List Tok), szs Tok.sz (l.foldl addT a) ≤ szs Tok.sz a + szs Tok.sz l := by
 intro l
 induction l with
 | nil => intro a; simp [szs]
 | cons t l ih => intro a; have := ih (addT a t); have := addT_sz a t; simp only [List.foldl_cons, szs]; omega
theorem tksF_sz : ∀ (f : Nat) (s : Bs) (l : List Tok), szs Tok.sz (tksF f s l).1 ≤ szs Tok.sz l + 10 * s.length := by
 intro f
 induction f with
 | zero => intro s l; simp [tksF, szs]
 | succ f ih =>
  intro s l
  rw [tksF]
  split
  ·simp only []; omega
  ·rename_i hs
   split
   ·simp [szs]
   ·split
    ·simp [szs]
    ·have h1 := ih (partF s).2.1 ((partF s).1.foldl addT l)
     have h2 := partF_sz s hs
     have h3 := fold_sz (partF s).1 l
     omega
def toksF (s : Bs) : List Tok × Int := if 65536 < s.length then ([], 3) else tksF (s.length + 1) s []
end Go.Av
namespace Go.Av
open Go Go.Proofs Go.RowKit
attribute [local irreducible] WP WPl WPix Sat
set_option maxRecDepth 100000
set_option maxHeartbeats 1000000
variable (G : Nat → Option (List AVal))
@[go_sem] theorem getRow_rdT (h j : Heap) (s : Bs) (b : Bool) (v : Nat) (l : List Tok) : getRow (rdH h (tksR v l :: j) s b) (h.length + 1) v = some (83, 4, l.map Tok.av) := by
 simp [rdH, getRow, tksR]
@[go_sem] theorem getRow_rdHc (h j l : Heap) (x : Blk) (s : Bs) (b : Bool) (v : Nat) : getRow (rdH h (x :: j) s b ++ l) (h.length + (1 + (j.length + 1))) v = getRow l 0 v := getRow_rdHz h (x :: j) l s b v
@[go_sem] theorem set_rdHc (h j l : Heap) (x y : Blk) (s : Bs) (b : Bool) : (rdH h (x :: j) s b ++ l).set (h.length + (1 + (j.length + 1))) y = rdH h (x :: j) s b ++ l.set 0 y := set_rdHz h (x :: j) l s b y
theorem addR_sat (h j jj : Heap) (s : Bs) (b : Bool) (v : Nat) (l : List Tok) (t : Tok) (hl : l.length ≤ 1048576) (ht : ∀ u ∈ l, u.2.2.2.length + t.2.2.2.length ≤ 140737488355328) :
  Sat (CT G) 79 [.hs (h.length + 1) v 0 l.length true, t.av] (rdH h (tksR v l :: j) s b ++ jj)
   (fun r h' => ∃ v', r = .hs (h.length + 1) v' 0 (addT l t).length true ∧ h' = rdH h (tksR v' (addT l t) :: (j ++ jj)) s b) := by
 have := add_sat G (h ++ [rdrR s b]) (j ++ jj) v l t hl ht
 have e : rdH h (tksR v l :: j) s b ++ jj = (h ++ [rdrR s b]) ++ tksR v l :: (j ++ jj) := by simp [rdH]
 rw [e]
 have e2 : (h ++ [rdrR s b]).length = h.length + 1 := by simp
 rw [e2] at this
 exact this.mono fun r h' ⟨v', h1, h2⟩ => ⟨v', h1, by rw [h2]; simp [rdH]⟩
theorem szs_txt {l : List Tok} {u : Tok} (h : u ∈ l) : u.2.2.2.length ≤ szs Tok.sz l := by
 have h1 := szs_mem Tok.sz h
 have h2 : Tok.sz u = 1 + u.2.1.length + szs At.sz u.2.2.1 + u.2.2.2.length := rfl
 omega
theorem Fin.frzS {h0 : Heap} {R : AVal → Heap → Prop} {r0 r : AVal} (hz : Frz h0 h0.length r0 r) (hR : R r h0) : Fin h0 h0 R r0 := by
 have := Fin.frz (h0 := h0) (j := []) (R := R) (r0 := r0) (r := r) (by simpa using hz) hR
 simpa using this
theorem Frz.toksD {h : Heap} {n q v e : Nat} {l : List Tok} {len : Nat} {room : Bool} (hq : n ≤ q) (hg : getRow h q v = some (e, 4, l.map Tok.av)) (hlen : len = l.length) : Frz h n (.hs q v 0 len room) (.sl 4 (l.map Tok.av)) :=
 Frz.data hq hg (by simpa using hlen) (fun r hr => by obtain ⟨a, _, rfl⟩ := List.mem_map.1 hr; exact Tok.clo _ a) (fun r hr => by obtain ⟨a, _, rfl⟩ := List.mem_map.1 hr; exact a.av_sto)
theorem Tokens8_sat (hG : GOk G) (s : Bs) (hs : s.length ≤ 1048576) (h : Heap) : Sat (CT G) 44 [.str s] h
  (fun r h' => ∃ a, r = .tup [.sl 4 ((toksF s).1.map Tok.av), .int .i64 a, .int .i64 (toksF s).2] ∧ h' = h) := by
 refine Sat.body [.tmp 2, .tmp 3, .tmp 4] (fn := Tryz.f44) Tryz.func44 rfl rfl (by kernel_rfl) (by kernel_rfl) (by kernel_rfl) rfl ?_
 intro Q hQ
 (repeat (first | refine w1 (fun K hK => ?_) | refine w2 ?_ | refine w3 ?_ | ((first | refine w4 ?_ | refine w5 ?_ | refine w6 ?_ | refine w7 ?_); try refine sq0 ?_) | (refine w8 ?_; refine sq0 ?_; refine w9 ?_) | ((first | refine hK _ _ (w0 ?_) | (clear hK K; refine hK _ _ (w0 ?_)) | (clear hK K; clear hK K; refine hK _ _ (w0 ?_))); clear hK K)))
 refine cq0 (fun c0 => ?_) (fun c0 => ?_) <;> (try exact c0.elim) <;>
  (repeat (first | refine w1 (fun K hK => ?_) | refine w2 ?_ | refine w3 ?_ | ((first | refine w4 ?_ | refine w5 ?_ | refine w6 ?_ | refine w7 ?_); try refine sq0 ?_) | (refine w8 ?_; refine sq0 ?_; refine w9 ?_) | ((first | refine hK _ _ (w0 ?_) | (clear hK K; refine hK _ _ (w0 ?_)) | (clear hK K; clear hK K; refine hK _ _ (w0 ?_))); clear hK K)))
 ·have e : toksF s = ([], 3) := by unfold toksF; rw [if_pos (by omega)]
  first | refine (hQ _ _ ?_).1 | refine (hQ _ _ ?_).2
  simp (disch := first | omega | (simp only [go_sem, ↓reduceIte, seval]; first | done | omega) | fail) only [go_sem, ↓reduceIte, seval, resA, resL, resA1]
  rw [e]
  exact Fin.frzS (FrzL.tup (.cons (.nils 4) (.cons (.clo _ (.int _ _)) (.cons (.clo _ (.int _ _)) .nil)))) ⟨0, rfl, rfl⟩
 have e : toksF s = tksF (s.length + 1) s [] := by unfold toksF; rw [if_neg (by omega)]
 have bad : ∀ (jj : Heap) (a : Int) (c : Int), toksF s = ([], c) → Fin h (h ++ jj) (fun r h' => ∃ a, r = .tup [.sl 4 ((toksF s).1.map Tok.av), .int .i64 a, .int .i64 (toksF s).2] ∧ h' = h) (.tup [.nil (.slice none 0 0), .int .i64 a, .int .i64 c]) := fun jj a c hb => by
  rw [hb]
  exact Fin.frz (FrzL.tup (.cons (.nils 4) (.cons (.clo _ (.int _ _)) (.cons (.clo _ (.int _ _)) .nil)))) ⟨a, rfl, rfl⟩
 refine WP_loopm (by simp only [go_sem, List.nil_append, List.cons_append]; rfl) (fun nL tL hL => ∃ (f v : Nat) (s1 : Bs) (l : List Tok) (jj : Heap), f = nL ∧ rdH h (tksR v l :: jj) s1 false = hL ∧ tL 5 = .hs (h.length + 1) v 0 l.length true ∧ tL 6 = .hp h.length 0 0 0 ∧ s1.length < f ∧ tksF f s1 l = toksF s ∧ szs Tok.sz l + 10 * s1.length ≤ 10 * s.length ∧ l.length ≤ 8192) ((fun (f v : Nat) (s1 : Bs) (l : List Tok) (jj : Heap) => (f : Nat)) (s.length + 1) (0) (s) ([]) ([])) ?_ ?_
 ·refine ⟨_, _, Weak.virt 5 83 4 (by simp) (by omega) (by simp (disch := first | omega | (simp only [go_sem, ↓reduceIte, seval]; first | done | omega) | fail) only [go_sem, ↓reduceIte, seval]), ⟨s.length + 1, 0, s, [], [], rfl, by simp [rdH, rdrR, tksR], ?_, ?_, by omega, e.symm, by simp [szs], by simp⟩⟩
  all_goals first | exact zq0 | rfl | omega | trivial | skip
 rintro _ s2 h' ⟨f, v, s1, l, jj, rfl, rfl, e5, e6, hf, hp, hz, hl⟩ K2 hK2
 simp only [mix_cons, mix_nil, Nat.reduceEqDiff, ↓reduceIte] at e5 e6
 (repeat (first | refine w1 (fun K hK => ?_) | refine w2 ?_ | refine w3 ?_ | ((first | refine w4 ?_ | refine w5 ?_ | refine w6 ?_ | refine w7 ?_); try refine sq2 e5 e6 ?_) | (refine w8 ?_; refine sq2 e5 e6 ?_; refine w9 ?_) | ((first | refine hK _ _ (w0 ?_) | (clear hK K; refine hK _ _ (w0 ?_)) | (clear hK K; clear hK K; refine hK _ _ (w0 ?_))); clear hK K)))
 obtain ⟨g, rfl⟩ : ∃ g, f = g + 1 := ⟨f - 1, by omega⟩
 rw [tksF] at hp
 refine cq2 e5 e6 (fun c1 => ?_) (fun c1 => ?_) <;> (try exact c1.elim) <;>
  (repeat (first | refine w1 (fun K hK => ?_) | refine w2 ?_ | refine w3 ?_ | ((first | refine w4 ?_ | refine w5 ?_ | refine w6 ?_ | refine w7 ?_); try refine sq2 e5 e6 ?_) | (refine w8 ?_; refine sq2 e5 e6 ?_; refine w9 ?_) | ((first | refine hK _ _ (w0 ?_) | (clear hK K; refine hK _ _ (w0 ?_)) | (clear hK K; clear hK K; refine hK _ _ (w0 ?_))); clear hK K)))
 ·have hps := partF_sz s1 c1
  have hpl := partF_less s1 c1
  have hz0 := szs_len Tok.sz Tok.sz_pos (partF s1).1
  rw [if_neg c1] at hp
  refine (part_sat G hG s1 (by omega) h (tksR v l :: jj)).mono ?_
  rintro r h' ⟨rfl, rfl⟩
  try refine sq2 e5 e6 ?_
  (repeat (first | refine w1 (fun K hK => ?_) | refine w2 ?_ | refine w3 ?_ | ((first | refine w4 ?_ | refine w5 ?_ | refine w6 ?_ | refine w7 ?_); try refine sq2 e5 e6 ?_) | (refine w8 ?_; refine sq2 e5 e6 ?_; refine w9 ?_) | ((first | refine hK _ _ (w0 ?_) | (clear hK K; refine hK _ _ (w0 ?_)) | (clear hK K; clear hK K; refine hK _ _ (w0 ?_))); clear hK K)))
  generalize partF s1 = x at hp hps hpl hz0 ⊢
  obtain ⟨tk, r1, bb⟩ := x
  simp only [] at hp hps hpl hz0 ⊢
  refine WP_loopm (by simp only [go_sem, List.nil_append, List.cons_append]; rfl) (fun nL tL hL => ∃ (k v2 : Nat) (l2 : List Tok) (j2 : Heap), tk.length - k = nL ∧ rdH h (tksR v2 l2 :: j2) r1 bb = hL ∧ tL 5 = .hs (h.length + 1) v2 0 l2.length true ∧ tL 32 = .int .i64 k ∧ k ≤ tk.length ∧ (tk.drop k).foldl addT l2 = tk.foldl addT l ∧ szs Tok.sz l2 + szs Tok.sz (tk.drop k) ≤ szs Tok.sz l + szs Tok.sz tk) ((fun (k v2 : Nat) (l2 : List Tok) (j2 : Heap) => (tk.length - k : Nat)) (0) (v) (l) (jj)) ?_ ?_
  ·refine Wkn.refl ⟨0, v, l, jj, rfl, (by first | rfl | (simp; done) | (simp; rfl)), ?_, ?_, ?_, ?_, ?_⟩
   all_goals first | exact zq2 e5 e6 | rfl | omega | trivial | skip
  rintro _ s3 h' ⟨k, v2, l2, j2, rfl, rfl, e5, e32, hk, hq, hz2⟩ K3 hK3
  simp only [mix_cons, mix_nil, Nat.reduceEqDiff, ↓reduceIte] at e5 e32
  (repeat (first | refine w1 (fun K hK => ?_) | refine w2 ?_ | refine w3 ?_ | ((first | refine w4 ?_ | refine w5 ?_ | refine w6 ?_ | refine w7 ?_); try refine sq4 e5 e6 e5 e32 ?_) | (refine w8 ?_; refine sq4 e5 e6 e5 e32 ?_; refine w9 ?_) | ((first | refine hK _ _ (w0 ?_) | (clear hK K; refine hK _ _ (w0 ?_)) | (clear hK K; clear hK K; refine hK _ _ (w0 ?_))); clear hK K)))
  refine cq4 e5 e6 e5 e32 (fun c2 => ?_) (fun c2 => ?_) <;> (try exact c2.elim) <;>
   (repeat (first | refine w1 (fun K hK => ?_) | refine w2 ?_ | refine w3 ?_ | ((first | refine w4 ?_ | refine w5 ?_ | refine w6 ?_ | refine w7 ?_); try refine sq4 e5 e6 e5 e32 ?_) | (refine w8 ?_; refine sq4 e5 e6 e5 e32 ?_; refine w9 ?_) | ((first | refine hK _ _ (w0 ?_) | (clear hK K; refine hK _ _ (w0 ?_)) | (clear hK K; clear hK K; refine hK _ _ (w0 ?_))); clear hK K)))
  ·obtain ⟨y, hy, hym⟩ := getElem?_of_lt c2
   rw [drop_cons_of hy] at hq hz2
   simp only [szs, List.foldl_cons] at hq hz2
   have hz3 := szs_len Tok.sz Tok.sz_pos l2
   have hz4 := addT_sz l2 y
   skip
   try refine sq5 e5 e6 e5 e32 hy ?_
   (repeat (first | refine w1 (fun K hK => ?_) | refine w2 ?_ | refine w3 ?_ | ((first | refine w4 ?_ | refine w5 ?_ | refine w6 ?_ | refine w7 ?_); try refine sq5 e5 e6 e5 e32 hy ?_) | (refine w8 ?_; refine sq5 e5 e6 e5 e32 hy ?_; refine w9 ?_) | ((first | refine hK _ _ (w0 ?_) | (clear hK K; refine hK _ _ (w0 ?_)) | (clear hK K; clear hK K; refine hK _ _ (w0 ?_))); clear hK K)))
   refine (addR_sat G h j2 _ r1 bb v2 l2 y (by omega) (fun u hu => by have := szs_txt hu; have := szs_txt hym; omega)).mono ?_
   rintro r h' ⟨v3, rfl, rfl⟩
   try refine sq5 e5 e6 e5 e32 hy ?_
   (repeat (first | refine w1 (fun K hK => ?_) | refine w2 ?_ | refine w3 ?_ | ((first | refine w4 ?_ | refine w5 ?_ | refine w6 ?_ | refine w7 ?_); try refine sq5 e5 e6 e5 e32 hy ?_) | (refine w8 ?_; refine sq5 e5 e6 e5 e32 hy ?_; refine w9 ?_) | ((first | refine hK _ _ (w0 ?_) | (clear hK K; refine hK _ _ (w0 ?_)) | (clear hK K; clear hK K; refine hK _ _ (w0 ?_))); clear hK K)))
   refine hK3 _ _ _ (Wkn.refl ⟨k + 1, v3, addT l2 y, j2 ++ [.row 83 4 0 [y.av]], rfl, by simp, ?_, ?_, by omega, hq, by omega⟩) (by omega)
   all_goals first | exact zq5 e5 e6 e5 e32 hy | rfl | omega | trivial | skip
  ·rw [drop_nil_of c2] at hq hz2
   simp only [szs, List.foldl_nil] at hq hz2
   subst hq
   (repeat (first | refine w1 (fun K hK => ?_) | refine w2 ?_ | refine w3 ?_ | ((first | refine w4 ?_ | refine w5 ?_ | refine w6 ?_ | refine w7 ?_); try refine sq4 e5 e6 e5 e32 ?_) | (refine w8 ?_; refine sq4 e5 e6 e5 e32 ?_; refine w9 ?_) | ((first | refine hK _ _ (w0 ?_) | (clear hK K; refine hK _ _ (w0 ?_)) | (clear hK K; clear hK K; refine hK _ _ (w0 ?_))); clear hK K)))
   refine cq4 e5 e6 e5 e32 (fun c3 => ?_) (fun c3 => ?_) <;> (try exact c3.elim) <;>
    (repeat (first | refine w1 (fun K hK => ?_) | refine w2 ?_ | refine w3 ?_ | ((first | refine w4 ?_ | refine w5 ?_ | refine w6 ?_ | refine w7 ?_); try refine sq4 e5 e6 e5 e32 ?_) | (refine w8 ?_; refine sq4 e5 e6 e5 e32 ?_; refine w9 ?_) | ((first | refine hK _ _ (w0 ?_) | (clear hK K; refine hK _ _ (w0 ?_)) | (clear hK K; clear hK K; refine hK _ _ (w0 ?_))); clear hK K)))
   ·rw [if_pos c3] at hp
    first | refine (hQ _ _ ?_).1 | refine (hQ _ _ ?_).2
    simp (disch := first | omega | (simp only [go_sem, ↓reduceIte, seval]; first | done | omega) | fail) only [go_sem, ↓reduceIte, seval, e5, e6, e5, e32, resA, resL, resA1]
    unfold rdH
    exact bad _ _ _ hp.symm
   ·rw [if_neg (by simp [c3])] at hp
    refine cq4 e5 e6 e5 e32 (fun c4 => ?_) (fun c4 => ?_) <;> (try exact c4.elim) <;>
     (repeat (first | refine w1 (fun K hK => ?_) | refine w2 ?_ | refine w3 ?_ | ((first | refine w4 ?_ | refine w5 ?_ | refine w6 ?_ | refine w7 ?_); try refine sq4 e5 e6 e5 e32 ?_) | (refine w8 ?_; refine sq4 e5 e6 e5 e32 ?_; refine w9 ?_) | ((first | refine hK _ _ (w0 ?_) | (clear hK K; refine hK _ _ (w0 ?_)) | (clear hK K; clear hK K; refine hK _ _ (w0 ?_))); clear hK K)))
    ·rw [if_pos (by omega)] at hp
     first | refine (hQ _ _ ?_).1 | refine (hQ _ _ ?_).2
     simp (disch := first | omega | (simp only [go_sem, ↓reduceIte, seval]; first | done | omega) | fail) only [go_sem, ↓reduceIte, seval, e5, e6, e5, e32, resA, resL, resA1]
     unfold rdH
     exact bad _ _ _ hp.symm
    ·rw [if_neg (by omega)] at hp
     subst c3
     refine hK2 _ _ _ (Wkn.refl ⟨g, v2, r1, tk.foldl addT l, j2, rfl, (by first | rfl | (simp; done) | (simp; rfl)), ?_, ?_, by omega, hp, by omega, by omega⟩) (by omega)
     all_goals first | exact zq4 e5 e6 e5 e32 | rfl | omega | trivial | skip
 ·rw [if_pos (by simpa using c1)] at hp
  first | refine (hQ _ _ ?_).1 | refine (hQ _ _ ?_).2
  simp (disch := first | omega | (simp only [go_sem, ↓reduceIte, seval]; first | done | omega) | fail) only [go_sem, ↓reduceIte, seval, e5, e6, resA, resL, resA1]
  rw [← hp]
  unfold rdH
  exact Fin.frz (FrzL.tup (.cons (Frz.toksD (by omega) (by simp [getRow, tksR]; rfl) rfl) (.cons (.clo _ (.int _ _)) (.cons (.clo _ (.int _ _)) .nil)))) ⟨_, rfl, rfl⟩
end Go.Av
namespace Go.Av
open Go Go.Proofs Go.RowKit
attribute [local irreducible] WP WPl WPix Sat
set_option maxRecDepth 100000
set_option maxHeartbeats 1000000
variable (G : Nat → Option (List AVal))
structure OE where
 n : Bs
 a : List At
 t : Bs
 k : List Elem
 q : Nat
 v : Nat
def OE.av (o : OE) : AVal := .agg [.str o.n, .sl 2 (o.a.map At.av), .str o.t, .hs o.q o.v 0 o.k.length true]
def OE.el (o : OE) : Elem := ⟨o.n, o.a, o.t, o.k⟩
@[go_sem] theorem OE.av_cells (o : OE) : AVal.cells (OE.av o) = [.str o.n, .sl 2 (o.a.map At.av), .str o.t, .hs o.q o.v 0 o.k.length true] := (rfl)
@[go_sem] theorem OE.av_fold (o : OE) : AVal.agg [.str o.n, .sl 2 (o.a.map At.av), .str o.t, .hs o.q o.v 0 o.k.length true] = OE.av o := (rfl)
@[go_sem] theorem OE.av_lies (o : OE) : AVal.lies (OE.av o) = true := (rfl)
@[go_sem] theorem OE.of (o : OE) (cs : List AVal) : ofCells (OE.av o) cs = .agg cs := (rfl)
structure BH (H : Heap) (n0 pb po vo : Nat) (room : Bool) (os : List OE) (pd vd : Nat) (ds : List Elem) : Prop where
 b : getRow H pb 0 = some (106, 2, [.agg [.hs po vo 0 os.length room, .hs pd vd 0 ds.length true]])
 o : getRow H po vo = some (26, 4, os.map OE.av)
 d : getRow H pd vd = some (26, 4, ds.map Elem.av)
 k : ∀ (i : Nat) (o : OE), os[i]? = some o → getRow H o.q o.v = some (26, 4, o.k.map Elem.av)
 od : po ≠ pd
 ko : ∀ (i : Nat) (o : OE), os[i]? = some o → o.q ≠ po ∧ o.q ≠ pd ∧ n0 ≤ o.q
 kk : ∀ (i j : Nat) (o o' : OE), os[i]? = some o → os[j]? = some o' → i ≠ j → o.q ≠ o'.q
 n : n0 ≤ pb ∧ n0 ≤ po ∧ n0 ≤ pd
theorem row_ne {H : Heap} {p q v u e e' n n' : Nat} {rs rs' : List AVal} (h1 : getRow H p v = some (e, n, rs)) (h2 : getRow H q u = some (e', n', rs')) (hn : n ≠ n') : p ≠ q := by
 rintro rfl
 have a := getRow_some h1; have b := getRow_some h2
 rw [a] at b; simp at b; exact hn b.2.1
variable {H : Heap} {n0 pb po vo pd vd : Nat} {room : Bool} {os : List OE} {ds : List Elem}
theorem BH.bo (g : BH H n0 pb po vo room os pd vd ds) : pb ≠ po := row_ne g.b g.o (by decide)
theorem BH.bd (g : BH H n0 pb po vo room os pd vd ds) : pb ≠ pd := row_ne g.b g.d (by decide)
theorem BH.bk (g : BH H n0 pb po vo room os pd vd ds) (i : Nat) (o : OE) (h : os[i]? = some o) : pb ≠ o.q := row_ne g.b (g.k i o h) (by decide)
def stepB (os ds : List Elem) (t : Tok) : Option (List Elem × List Elem) :=
 if t.1 = 1 then (if os.length + 1 ≤ 32 ∧ ds = [] then some (os ++ [⟨t.2.1, t.2.2.1, [], []⟩], ds) else none)
 else if t.1 = 2 then
  match os.getLast? with
  | none => none
  | some e => if e.name = t.2.1 then
    match os.dropLast.getLast? with
    | none => some ([], ds ++ [e])
    | some p => some (os.dropLast.dropLast ++ [⟨p.name, p.attrs, p.text, p.kids ++ [e]⟩], ds)
   else none
 else if t.1 = 3 then
  match os.getLast? with
  | none => if t.2.2.2.all blankB = true then some ([], ds) else none
  | some e => some (os.dropLast ++ [⟨e.name, e.attrs, e.text ++ t.2.2.2, e.kids⟩], ds)
 else none
def BPost (n0 pb : Nat) (H : Heap) (os ds : List Elem) (x : Option (List Elem × List Elem)) (r : AVal) (H' : Heap) : Prop :=
 (FrN n0 H H' ∧ H.length ≤ H'.length) ∧ match x with
 | none => r = .bool false
 | some y => r = .bool true ∧ ∃ po vo room os' pd vd, BH H' n0 pb po vo room os' pd vd y.2 ∧ os'.map OE.el = y.1
end Go.Av
namespace Go.Av
open Go Go.Proofs Go.RowKit
attribute [local irreducible] WP WPl WPix Sat
set_option maxRecDepth 100000
set_option maxHeartbeats 1000000
variable (G : Nat → Option (List AVal))
def setL : List AVal := (List.range 256).map fun i : Nat => .bool (blankP (i : Int))
theorem setL_len : setL.length = 256 := by simp [setL]
theorem setL_at (c : UInt8) : (setL.drop (c.toNat * 1)).head? = some (.bool (blankB c)) := by
 rw [Nat.mul_one]
 have h := c.toNat_lt
 have e : setL.drop c.toNat = .bool (blankB c) :: setL.drop (c.toNat + 1) := by
  refine drop_cons_of ?_
  unfold setL
  rw [List.getElem?_map, List.getElem?_range (by omega)]
  rfl
 rw [e]; rfl
theorem make_run : isV (.tup [.agg setL, .bool true]) (callX (CT G) orcL 1000 100 163 [.str blk4] []) = true := by
 kernel_rfl
theorem make_sat (hG : GOk G) (hC : GClo (CT G)) (h : Heap) : Sat (CT G) 163 [.str blk4] h (fun r h' => r = .tup [.agg setL, .bool true] ∧ h' = h) :=
 Sat.closedV hC (orcL_ok hG) 1000 100 rfl (by kernel_rfl) (make_run G) h
def setR : Blk := .row 157 256 0 [.agg setL]
@[go_sem] theorem getRow_setR (l : Heap) : getRow (setR :: l) 0 0 = some (157, 256, [.agg setL]) := rfl
theorem contains_sat (c : UInt8) (h : Heap) : Sat (CT G) 177 [.hp h.length 0 0 0, .int .u8 c.toNat] (h ++ [setR]) (fun r h' => r = .bool (blankB c) ∧ h' = h ++ [setR]) := by
 have hlt := c.toNat_lt
 have hs := setL_at c
 skip
 refine Sat.body [.tmp 4] (fn := Tryz.f177) Tryz.func177 rfl rfl (by kernel_rfl) (by kernel_rfl) (by kernel_rfl) rfl ?_
 intro Q hQ
 (repeat (first | refine w1 (fun K hK => ?_) | refine w2 ?_ | refine w3 ?_ | ((first | refine w4 ?_ | refine w5 ?_ | refine w6 ?_ | refine w7 ?_); try refine sq1 hs ?_) | (refine w8 ?_; refine sq1 hs ?_; refine w9 ?_) | ((first | refine hK _ _ (w0 ?_) | (clear hK K; refine hK _ _ (w0 ?_)) | (clear hK K; clear hK K; refine hK _ _ (w0 ?_))); clear hK K)))
 refine ⟨by omega, ?_⟩
 try refine sq1 hs ?_
 (repeat (first | refine w1 (fun K hK => ?_) | refine w2 ?_ | refine w3 ?_ | ((first | refine w4 ?_ | refine w5 ?_ | refine w6 ?_ | refine w7 ?_); try refine sq1 hs ?_) | (refine w8 ?_; refine sq1 hs ?_; refine w9 ?_) | ((first | refine hK _ _ (w0 ?_) | (clear hK K; refine hK _ _ (w0 ?_)) | (clear hK K; clear hK K; refine hK _ _ (w0 ?_))); clear hK K)))
 first | refine (hQ _ _ ?_).1 | refine (hQ _ _ ?_).2
 refine sq1 hs ?_
 exact Fin.frzS (.clo _ (.bool _)) ⟨rfl, rfl⟩
def ltrim (s : Bs) : Bs := s.dropWhile blankB
def rtrim (s : Bs) : Bs := (s.reverse.dropWhile blankB).reverse
theorem rtrim_snoc (s : Bs) (c : UInt8) : rtrim (s ++ [c]) = if blankB c = true then rtrim s else s ++ [c] := by
 unfold rtrim
 rw [List.reverse_append, List.reverse_singleton, List.singleton_append, List.dropWhile_cons]
 split
 ·rfl
 ·simp
theorem trimLeft_sat (s : Bs) (hs : s.length ≤ 1073741824) (h : Heap) : Sat (CT G) 164 [.str s, .hp h.length 0 0 0] (h ++ [setR]) (fun r h' => r = .str (ltrim s) ∧ h' = h ++ [setR]) := by
 refine Sat.body [.tmp 4] (fn := Tryz.f164) Tryz.func164 rfl rfl (by kernel_rfl) (by kernel_rfl) (by kernel_rfl) rfl ?_
 intro Q hQ
 (repeat (first | refine w1 (fun K hK => ?_) | refine w2 ?_ | refine w3 ?_ | ((first | refine w4 ?_ | refine w5 ?_ | refine w6 ?_ | refine w7 ?_); try refine sq0 ?_) | (refine w8 ?_; refine sq0 ?_; refine w9 ?_) | ((first | refine hK _ _ (w0 ?_) | (clear hK K; refine hK _ _ (w0 ?_)) | (clear hK K; clear hK K; refine hK _ _ (w0 ?_))); clear hK K)))
 refine WP_loopm (by simp only [go_sem, List.nil_append, List.cons_append]; rfl) (fun nL tL hL => ∃ (s1 : Bs), s1.length = nL ∧ h ++ [setR] = hL ∧ tL 0 = .str s1 ∧ s1.length ≤ s.length ∧ ltrim s1 = ltrim s) ((fun (s1 : Bs) => (s1.length : Nat)) (s)) ?_ ?_
 ·refine Wkn.refl ⟨s, rfl, (by first | rfl | (simp; done) | (simp; rfl)), ?_, ?_, ?_⟩
  all_goals first | exact zq0 | rfl | omega | trivial | skip
 rintro _ s2 h' ⟨s1, rfl, rfl, e0, hl, hp⟩ K2 hK2
 simp only [mix_cons, mix_nil, Nat.reduceEqDiff, ↓reduceIte] at e0
 (repeat (first | refine w1 (fun K hK => ?_) | refine w2 ?_ | refine w3 ?_ | ((first | refine w4 ?_ | refine w5 ?_ | refine w6 ?_ | refine w7 ?_); try refine sq1 e0 ?_) | (refine w8 ?_; refine sq1 e0 ?_; refine w9 ?_) | ((first | refine hK _ _ (w0 ?_) | (clear hK K; refine hK _ _ (w0 ?_)) | (clear hK K; clear hK K; refine hK _ _ (w0 ?_))); clear hK K)))
 cases s1 with
 | nil =>
  refine cq1 e0 (fun hc => ?_) (fun hc => ?_) <;> (try exact hc.elim) <;>
   (repeat (first | refine w1 (fun K hK => ?_) | refine w2 ?_ | refine w3 ?_ | ((first | refine w4 ?_ | refine w5 ?_ | refine w6 ?_ | refine w7 ?_); try refine sq1 e0 ?_) | (refine w8 ?_; refine sq1 e0 ?_; refine w9 ?_) | ((first | refine hK _ _ (w0 ?_) | (clear hK K; refine hK _ _ (w0 ?_)) | (clear hK K; clear hK K; refine hK _ _ (w0 ?_))); clear hK K)))
  first | refine (hQ _ _ ?_).1 | refine (hQ _ _ ?_).2
  refine sq1 e0 ?_
  rw [← hp]
  exact Fin.frzS (.clo _ (.str _)) ⟨rfl, rfl⟩
 | cons c t =>
  have h0 : (c :: t)[0]? = some c := rfl
  have h1 : (c :: t).drop 1 = t := rfl
  have h2 : (c :: t).length = t.length + 1 := rfl
  simp only [List.length_cons] at hl
  unfold ltrim at hp
  rw [List.dropWhile_cons] at hp
  skip
  refine cq3 e0 h0 h1 (fun hc => ?_) (fun hc => ?_) <;> (try exact hc.elim) <;>
   (repeat (first | refine w1 (fun K hK => ?_) | refine w2 ?_ | refine w3 ?_ | ((first | refine w4 ?_ | refine w5 ?_ | refine w6 ?_ | refine w7 ?_); try refine sq3 e0 h0 h1 ?_) | (refine w8 ?_; refine sq3 e0 h0 h1 ?_; refine w9 ?_) | ((first | refine hK _ _ (w0 ?_) | (clear hK K; refine hK _ _ (w0 ?_)) | (clear hK K; clear hK K; refine hK _ _ (w0 ?_))); clear hK K)))
  ·try refine sq3 e0 h0 h1 ?_
   refine (contains_sat G c h).mono ?_
   rintro r h' ⟨rfl, rfl⟩
   try refine sq3 e0 h0 h1 ?_
   (repeat (first | refine w1 (fun K hK => ?_) | refine w2 ?_ | refine w3 ?_ | ((first | refine w4 ?_ | refine w5 ?_ | refine w6 ?_ | refine w7 ?_); try refine sq3 e0 h0 h1 ?_) | (refine w8 ?_; refine sq3 e0 h0 h1 ?_; refine w9 ?_) | ((first | refine hK _ _ (w0 ?_) | (clear hK K; refine hK _ _ (w0 ?_)) | (clear hK K; clear hK K; refine hK _ _ (w0 ?_))); clear hK K)))
   refine cq3 e0 h0 h1 (fun hb => ?_) (fun hb => ?_) <;> (try exact hb.elim) <;>
    (repeat (first | refine w1 (fun K hK => ?_) | refine w2 ?_ | refine w3 ?_ | ((first | refine w4 ?_ | refine w5 ?_ | refine w6 ?_ | refine w7 ?_); try refine sq3 e0 h0 h1 ?_) | (refine w8 ?_; refine sq3 e0 h0 h1 ?_; refine w9 ?_) | ((first | refine hK _ _ (w0 ?_) | (clear hK K; refine hK _ _ (w0 ?_)) | (clear hK K; clear hK K; refine hK _ _ (w0 ?_))); clear hK K)))
   ·rw [if_neg (by simp [hb])] at hp
    first | refine (hQ _ _ ?_).1 | refine (hQ _ _ ?_).2
    refine sq3 e0 h0 h1 ?_
    unfold ltrim
    rw [← hp]
    exact Fin.frzS (.clo _ (.str _)) ⟨rfl, rfl⟩
   ·rw [if_pos hb] at hp
    have h3 : (1 : Int) ≤ ((c :: t).length : Int) := by simp only [List.length_cons]; omega
    skip
    try refine sq4 e0 h0 h1 h3 ?_
    (repeat (first | refine w1 (fun K hK => ?_) | refine w2 ?_ | refine w3 ?_ | ((first | refine w4 ?_ | refine w5 ?_ | refine w6 ?_ | refine w7 ?_); try refine sq4 e0 h0 h1 h3 ?_) | (refine w8 ?_; refine sq4 e0 h0 h1 h3 ?_; refine w9 ?_) | ((first | refine hK _ _ (w0 ?_) | (clear hK K; refine hK _ _ (w0 ?_)) | (clear hK K; clear hK K; refine hK _ _ (w0 ?_))); clear hK K)))
    refine hK2 _ _ _ (Wkn.refl ⟨t, rfl, (by first | rfl | (simp; done) | (simp; rfl)), ?_, by omega, hp⟩) (by omega)
    all_goals first | exact zq4 e0 h0 h1 h3 | rfl | omega | trivial | skip
  ·exfalso; omega
theorem trimRight_sat (s : Bs) (hs : s.length ≤ 1073741824) (h : Heap) : Sat (CT G) 165 [.str s, .hp h.length 0 0 0] (h ++ [setR]) (fun r h' => r = .str (rtrim s) ∧ h' = h ++ [setR]) := by
 refine Sat.body [.tmp 4] (fn := Tryz.f165) Tryz.func165 rfl rfl (by kernel_rfl) (by kernel_rfl) (by kernel_rfl) rfl ?_
 intro Q hQ
 (repeat (first | refine w1 (fun K hK => ?_) | refine w2 ?_ | refine w3 ?_ | ((first | refine w4 ?_ | refine w5 ?_ | refine w6 ?_ | refine w7 ?_); try refine sq0 ?_) | (refine w8 ?_; refine sq0 ?_; refine w9 ?_) | ((first | refine hK _ _ (w0 ?_) | (clear hK K; refine hK _ _ (w0 ?_)) | (clear hK K; clear hK K; refine hK _ _ (w0 ?_))); clear hK K)))
 refine WP_loopm (by simp only [go_sem, List.nil_append, List.cons_append]; rfl) (fun nL tL hL => ∃ (s1 : Bs), s1.length = nL ∧ h ++ [setR] = hL ∧ tL 0 = .str s1 ∧ s1.length ≤ s.length ∧ rtrim s1 = rtrim s) ((fun (s1 : Bs) => (s1.length : Nat)) (s)) ?_ ?_
 ·refine Wkn.refl ⟨s, rfl, (by first | rfl | (simp; done) | (simp; rfl)), ?_, ?_, ?_⟩
  all_goals first | exact zq0 | rfl | omega | trivial | skip
 rintro _ s2 h' ⟨s1, rfl, rfl, e0, hl, hp⟩ K2 hK2
 simp only [mix_cons, mix_nil, Nat.reduceEqDiff, ↓reduceIte] at e0
 (repeat (first | refine w1 (fun K hK => ?_) | refine w2 ?_ | refine w3 ?_ | ((first | refine w4 ?_ | refine w5 ?_ | refine w6 ?_ | refine w7 ?_); try refine sq1 e0 ?_) | (refine w8 ?_; refine sq1 e0 ?_; refine w9 ?_) | ((first | refine hK _ _ (w0 ?_) | (clear hK K; refine hK _ _ (w0 ?_)) | (clear hK K; clear hK K; refine hK _ _ (w0 ?_))); clear hK K)))
 rcases List.eq_nil_or_concat s1 with rfl | ⟨t, c, rfl⟩
 ·refine cq1 e0 (fun hc => ?_) (fun hc => ?_) <;> (try exact hc.elim) <;>
   (repeat (first | refine w1 (fun K hK => ?_) | refine w2 ?_ | refine w3 ?_ | ((first | refine w4 ?_ | refine w5 ?_ | refine w6 ?_ | refine w7 ?_); try refine sq1 e0 ?_) | (refine w8 ?_; refine sq1 e0 ?_; refine w9 ?_) | ((first | refine hK _ _ (w0 ?_) | (clear hK K; refine hK _ _ (w0 ?_)) | (clear hK K; clear hK K; refine hK _ _ (w0 ?_))); clear hK K)))
  first | refine (hQ _ _ ?_).1 | refine (hQ _ _ ?_).2
  refine sq1 e0 ?_
  rw [← hp]
  exact Fin.frzS (.clo _ (.str _)) ⟨rfl, rfl⟩
 ·rw [List.concat_eq_append] at *
  have h2 : (t ++ [c]).length = t.length + 1 := by simp
  have h0 : (t ++ [c])[t.length]? = some c := by simp
  have h1 : (t ++ [c]).take t.length = t := by simp
  have h4 : ((t.length + 1 : Nat) : Int) - 1 = t.length := by omega
  rw [rtrim_snoc] at hp
  rw [h2] at hl
  skip
  refine cq4 e0 h0 h1 h4 (fun hc => ?_) (fun hc => ?_) <;> (try exact hc.elim) <;>
   (repeat (first | refine w1 (fun K hK => ?_) | refine w2 ?_ | refine w3 ?_ | ((first | refine w4 ?_ | refine w5 ?_ | refine w6 ?_ | refine w7 ?_); try refine sq4 e0 h0 h1 h4 ?_) | (refine w8 ?_; refine sq4 e0 h0 h1 h4 ?_; refine w9 ?_) | ((first | refine hK _ _ (w0 ?_) | (clear hK K; refine hK _ _ (w0 ?_)) | (clear hK K; clear hK K; refine hK _ _ (w0 ?_))); clear hK K)))
  ·try refine sq4 e0 h0 h1 h4 ?_
   refine (contains_sat G c h).mono ?_
   rintro r h' ⟨rfl, rfl⟩
   try refine sq4 e0 h0 h1 h4 ?_
   (repeat (first | refine w1 (fun K hK => ?_) | refine w2 ?_ | refine w3 ?_ | ((first | refine w4 ?_ | refine w5 ?_ | refine w6 ?_ | refine w7 ?_); try refine sq4 e0 h0 h1 h4 ?_) | (refine w8 ?_; refine sq4 e0 h0 h1 h4 ?_; refine w9 ?_) | ((first | refine hK _ _ (w0 ?_) | (clear hK K; refine hK _ _ (w0 ?_)) | (clear hK K; clear hK K; refine hK _ _ (w0 ?_))); clear hK K)))
   refine cq4 e0 h0 h1 h4 (fun hb => ?_) (fun hb => ?_) <;> (try exact hb.elim) <;>
    (repeat (first | refine w1 (fun K hK => ?_) | refine w2 ?_ | refine w3 ?_ | ((first | refine w4 ?_ | refine w5 ?_ | refine w6 ?_ | refine w7 ?_); try refine sq4 e0 h0 h1 h4 ?_) | (refine w8 ?_; refine sq4 e0 h0 h1 h4 ?_; refine w9 ?_) | ((first | refine hK _ _ (w0 ?_) | (clear hK K; refine hK _ _ (w0 ?_)) | (clear hK K; clear hK K; refine hK _ _ (w0 ?_))); clear hK K)))
   ·rw [if_neg (by simp [hb])] at hp
    first | refine (hQ _ _ ?_).1 | refine (hQ _ _ ?_).2
    refine sq4 e0 h0 h1 h4 ?_
    rw [← hp]
    exact Fin.frzS (.clo _ (.str _)) ⟨rfl, rfl⟩
   ·rw [if_pos hb] at hp
    try refine sq4 e0 h0 h1 h4 ?_
    (repeat (first | refine w1 (fun K hK => ?_) | refine w2 ?_ | refine w3 ?_ | ((first | refine w4 ?_ | refine w5 ?_ | refine w6 ?_ | refine w7 ?_); try refine sq4 e0 h0 h1 h4 ?_) | (refine w8 ?_; refine sq4 e0 h0 h1 h4 ?_; refine w9 ?_) | ((first | refine hK _ _ (w0 ?_) | (clear hK K; refine hK _ _ (w0 ?_)) | (clear hK K; clear hK K; refine hK _ _ (w0 ?_))); clear hK K)))
    refine hK2 _ _ _ (Wkn.refl ⟨t, rfl, (by first | rfl | (simp; done) | (simp; rfl)), ?_, by omega, hp⟩) (by omega)
    all_goals first | exact zq4 e0 h0 h1 h4 | rfl | omega | trivial | skip
  ·exfalso; omega
theorem ltrim_nil : ∀ s : Bs, ltrim s = [] ↔ s.all blankB = true
 | [] => by simp [ltrim]
 | c :: t => by
  have := ltrim_nil t
  unfold ltrim at *
  rw [List.dropWhile_cons]
  by_cases hb : blankB c = true
  ·rw [if_pos hb]; simp [this, hb]
  ·rw [if_neg hb]; simp [hb]
theorem rtrim_all (s : Bs) : (rtrim s).all blankB = s.all blankB := by
 have hs : s = rtrim s ++ (s.reverse.takeWhile blankB).reverse := by
  unfold rtrim
  rw [← List.reverse_append, List.takeWhile_append_dropWhile, List.reverse_reverse]
 conv => rhs; rw [hs]
 rw [List.all_append]
 have : (s.reverse.takeWhile blankB).reverse.all blankB = true := by
  rw [List.all_reverse]
  exact List.all_takeWhile
 rw [this, Bool.and_true]
theorem trims_nil (s : Bs) : ltrim (rtrim s) = [] ↔ s.all blankB = true := by rw [ltrim_nil, rtrim_all]
theorem Trim_sat (hG : GOk G) (hC : GClo (CT G)) (s : Bs) (hs : s.length ≤ 1073741824) (h : Heap) : Sat (CT G) 134 [.str s, .str blk4] h (fun r h' => ∃ x, r = .str x ∧ (x = [] ↔ s.all blankB = true) ∧ h' = h) := by
 have b1 : (blk4 == ([] : Bs)) = false := rfl
 have b2 : (blk4.length : Int) = 4 := rfl
 have hr : (rtrim s).length ≤ s.length := by
  unfold rtrim
  have := drop_len blankB s.reverse
  simp at this ⊢; exact this
 have hs0 : ∀ (j : Heap), h ++ [.row 157 256 0 [.agg setL]] ++ j = h ++ [setR] ++ j := fun j => rfl
 skip
 refine Sat.body [.tmp 4] (fn := Tryz.f134) Tryz.func134 rfl rfl (by kernel_rfl) (by kernel_rfl) (by kernel_rfl) rfl ?_
 intro Q hQ
 (repeat (first | refine w1 (fun K hK => ?_) | refine w2 ?_ | refine w3 ?_ | ((first | refine w4 ?_ | refine WP_draw 8 (by decide +kernel) ?_ | refine w5 ?_ | refine w6 ?_ | refine w7 ?_); try refine sq3 b1 b2 @setL_len ?_) | (refine w8 ?_; refine sq3 b1 b2 @setL_len ?_; refine w9 ?_) | ((first | refine hK _ _ (w0 ?_) | (clear hK K; refine hK _ _ (w0 ?_)) | (clear hK K; clear hK K; refine hK _ _ (w0 ?_))); clear hK K)))
 (first | refine gq3 b1 b2 @setL_len (fun g1 => ?_) (fun g1 => ?_) | refine pq3 b1 b2 @setL_len (fun g1 => ?_) (fun g1 => ?_)) <;> (try exact g1.elim) <;> (try refine sq3 b1 b2 @setL_len ?_) <;>
  (repeat (first | refine w1 (fun K hK => ?_) | refine w2 ?_ | refine w3 ?_ | ((first | refine w4 ?_ | refine WP_draw 8 (by decide +kernel) ?_ | refine w5 ?_ | refine w6 ?_ | refine w7 ?_); try refine sq3 b1 b2 @setL_len ?_) | (refine w8 ?_; refine sq3 b1 b2 @setL_len ?_; refine w9 ?_) | ((first | refine hK _ _ (w0 ?_) | (clear hK K; refine hK _ _ (w0 ?_)) | (clear hK K; clear hK K; refine hK _ _ (w0 ?_))); clear hK K)))
 ·first | refine (hQ _ _ ?_).1 | refine (hQ _ _ ?_).2
  refine sq3 b1 b2 @setL_len ?_
  exact Fin.frzS (.clo _ (.str _)) ⟨s, rfl, by rw [show s = [] from by simpa using g1]; simp, rfl⟩
 ·refine (make_sat G hG hC _).mono ?_
  rintro r h' ⟨rfl, rfl⟩
  try refine sq3 b1 b2 @setL_len ?_
  (repeat (first | refine w1 (fun K hK => ?_) | refine w2 ?_ | refine w3 ?_ | ((first | refine w4 ?_ | refine WP_draw 8 (by decide +kernel) ?_ | refine w5 ?_ | refine w6 ?_ | refine w7 ?_); try refine sq3 b1 b2 @setL_len ?_) | (refine w8 ?_; refine sq3 b1 b2 @setL_len ?_; refine w9 ?_) | ((first | refine hK _ _ (w0 ?_) | (clear hK K; refine hK _ _ (w0 ?_)) | (clear hK K; clear hK K; refine hK _ _ (w0 ?_))); clear hK K)))
  refine (trimRight_sat G s hs _).mono ?_
  rintro r h' ⟨rfl, rfl⟩
  try refine sq3 b1 b2 @setL_len ?_
  (repeat (first | refine w1 (fun K hK => ?_) | refine w2 ?_ | refine w3 ?_ | ((first | refine w4 ?_ | refine WP_draw 8 (by decide +kernel) ?_ | refine w5 ?_ | refine w6 ?_ | refine w7 ?_); try refine sq3 b1 b2 @setL_len ?_) | (refine w8 ?_; refine sq3 b1 b2 @setL_len ?_; refine w9 ?_) | ((first | refine hK _ _ (w0 ?_) | (clear hK K; refine hK _ _ (w0 ?_)) | (clear hK K; clear hK K; refine hK _ _ (w0 ?_))); clear hK K)))
  refine (trimLeft_sat G (rtrim s) (by omega) _).mono ?_
  rintro r h' ⟨rfl, rfl⟩
  try refine sq3 b1 b2 @setL_len ?_
  (repeat (first | refine w1 (fun K hK => ?_) | refine w2 ?_ | refine w3 ?_ | ((first | refine w4 ?_ | refine WP_draw 8 (by decide +kernel) ?_ | refine w5 ?_ | refine w6 ?_ | refine w7 ?_); try refine sq3 b1 b2 @setL_len ?_) | (refine w8 ?_; refine sq3 b1 b2 @setL_len ?_; refine w9 ?_) | ((first | refine hK _ _ (w0 ?_) | (clear hK K; refine hK _ _ (w0 ?_)) | (clear hK K; clear hK K; refine hK _ _ (w0 ?_))); clear hK K)))
  first | refine (hQ _ _ ?_).1 | refine (hQ _ _ ?_).2
  refine sq3 b1 b2 @setL_len ?_
  exact Fin.plainE (j := [setR]) rfl (.str _) ⟨_, rfl, trims_nil s, rfl⟩
end Go.Av
namespace Go.Av
open Go Go.Proofs Go.RowKit
attribute [local irreducible] WP WPl WPix Sat
set_option maxRecDepth 100000
set_option maxHeartbeats 1000000
variable (G : Nat → Option (List AVal))
variable {H : Heap} {n0 pb po vo pd vd : Nat} {room : Bool} {os : List OE} {ds : List Elem}
theorem stepB_txt (os ds : List Elem) (k : Int) (n : Bs) (a : List At) (x : Bs) (hk : k = 3) : stepB os ds (k, n, a, x) = match os.getLast? with
  | none => if x.all blankB = true then some ([], ds) else none
  | some e => some (os.dropLast ++ [⟨e.name, e.attrs, e.text ++ x, e.kids⟩], ds) := by
 subst hk; rfl
theorem BH.text {l : List OE} {o : OE} (g : BH H n0 pb po vo room (l ++ [o]) pd vd ds) (x : Bs) :
  BH (H.set po (.row 26 4 vo ((l ++ [{ o with t := x }]).map OE.av))) n0 pb po vo room (l ++ [{ o with t := x }]) pd vd ds := by
 have hb := g.b
 have at_ : ∀ (i : Nat) (p : OE), (l ++ [{ o with t := x }])[i]? = some p → ∃ p', (l ++ [o])[i]? = some p' ∧ p.q = p'.q ∧ p.v = p'.v ∧ p.k = p'.k := by
  intro i p hi
  rcases getElem?_snoc hi with h1 | ⟨h1, rfl⟩
  ·exact ⟨p, by rw [List.getElem?_append_left (List.getElem?_eq_some_iff.1 h1).1]; exact h1, rfl, rfl, rfl⟩
  ·exact ⟨o, by rw [h1]; simp, rfl, rfl, rfl⟩
 refine ⟨?_, ?_, ?_, fun i p hi => ?_, g.od, fun i p hi => ?_, fun i j p p' hi hj hij => ?_, g.n⟩
 ·rw [gs_ne _ _ g.bo.symm, hb]; simp
 ·rw [gs_eq _ _ _ _ _ (gr_lt g.o)]; simp
 ·rw [gs_ne _ _ g.od]; exact g.d
 ·obtain ⟨p', h1, h2, h3, h4⟩ := at_ i p hi
  have := g.ko i p' h1
  rw [h2, h3, h4, gs_ne _ _ this.1.symm]; exact g.k i p' h1
 ·obtain ⟨p', h1, h2, h3, h4⟩ := at_ i p hi
  rw [h2]; exact g.ko i p' h1
 ·obtain ⟨p1, h1, h2, _⟩ := at_ i p hi
  obtain ⟨p2, h3, h4, _⟩ := at_ j p' hj
  rw [h2, h4]; exact g.kk i j p1 p2 h1 h3 hij
theorem btext_sat (hG : GOk G) (hC : GClo (CT G)) (x : Bs) (hx : x.length ≤ 1073741824) (g : BH H n0 pb po vo room os pd vd ds) (hos : os.length ≤ 1000) (ht : ∀ o ∈ os, o.t.length + x.length ≤ 140737488355328) :
  Sat (CT G) 108 [.hp pb 0 0 0, .str x] H (BPost n0 pb H (os.map OE.el) ds (stepB (os.map OE.el) ds (3, [], [], x))) := by
 have hb := g.b
 have ho := g.o
 have hlo := gr_lt ho
 have hn := g.n
 rw [stepB_txt _ _ _ _ _ _ rfl]
 skip
 refine Sat.body [.tmp 4] (fn := Tryz.f108) Tryz.func108 rfl rfl (by kernel_rfl) (by kernel_rfl) (by kernel_rfl) rfl ?_
 intro Q hQ
 (repeat (first | refine w1 (fun K hK => ?_) | refine w2 ?_ | refine w3 ?_ | ((first | refine w4 ?_ | refine w5 ?_ | refine w6 ?_ | refine w7 ?_); try refine sq2 hb ho ?_) | (refine w8 ?_; refine sq2 hb ho ?_; refine w9 ?_) | ((first | refine hK _ _ (w0 ?_) | (clear hK K; refine hK _ _ (w0 ?_)) | (clear hK K; clear hK K; refine hK _ _ (w0 ?_))); clear hK K)))
 rcases List.eq_nil_or_concat os with rfl | ⟨l, o, rfl⟩
 ·refine cq2 hb ho (fun hc => ?_) (fun hc => ?_) <;> (try exact hc.elim) <;>
   (repeat (first | refine w1 (fun K hK => ?_) | refine w2 ?_ | refine w3 ?_ | ((first | refine w4 ?_ | refine w5 ?_ | refine w6 ?_ | refine w7 ?_); try refine sq2 hb ho ?_) | (refine w8 ?_; refine sq2 hb ho ?_; refine w9 ?_) | ((first | refine hK _ _ (w0 ?_) | (clear hK K; refine hK _ _ (w0 ?_)) | (clear hK K; clear hK K; refine hK _ _ (w0 ?_))); clear hK K)))
  ·refine (Trim_sat G hG hC x hx _).mono ?_
   rintro r h' ⟨y, rfl, hy, rfl⟩
   try refine sq2 hb ho ?_
   (repeat (first | refine w1 (fun K hK => ?_) | refine w2 ?_ | refine w3 ?_ | ((first | refine w4 ?_ | refine w5 ?_ | refine w6 ?_ | refine w7 ?_); try refine sq2 hb ho ?_) | (refine w8 ?_; refine sq2 hb ho ?_; refine w9 ?_) | ((first | refine hK _ _ (w0 ?_) | (clear hK K; refine hK _ _ (w0 ?_)) | (clear hK K; clear hK K; refine hK _ _ (w0 ?_))); clear hK K)))
   first | refine (hQ _ _ ?_).1 | refine (hQ _ _ ?_).2
   refine sq2 hb ho ?_
   have e : ∀ b : Bool, b = x.all blankB → BPost n0 pb h' ([].map OE.el) ds (if x.all blankB = true then some ([], ds) else none) (.bool b) h' := fun b hb => by
    refine ⟨⟨fun _ _ => rfl, Nat.le_refl _⟩, ?_⟩
    cases hq : x.all blankB with
    | true => rw [if_pos rfl]; exact ⟨by rw [hb, hq], po, vo, room, [], pd, vd, g, rfl⟩
    | false => rw [if_neg (by simp)]; show _ = _; rw [hb, hq]
   refine Fin.same (.bool _) (e _ ?_)
   cases hq : x.all blankB with
   | true => rw [hy.2 hq]; rfl
   | false =>
    have : y ≠ [] := fun e => by rw [hy.1 e] at hq; cases hq
    simpa using this
  ·exact absurd trivial hc
 ·rw [List.concat_eq_append] at *
  have e1 : ((l.length + 1 : Nat) : Int) - 1 = l.length := by omega
  have e2 : (l ++ [o])[l.length]? = some o := by simp
  have e3 : l.length < l.length + 1 := by omega
  have e4 := ht o (by simp)
  have hbt := g.text (o.t ++ x)
  have e5 : (l.map OE.av ++ [o.av]).set l.length (.agg [.str o.n, .sl 2 (o.a.map At.av), .str (o.t ++ x), .hs o.q o.v 0 o.k.length true]) = (l ++ [{ o with t := o.t ++ x }]).map OE.av := by
   simp [OE.av]
  skip
  refine cq5 hb ho e1 e2 e3 (fun hc => ?_) (fun hc => ?_) <;> (try exact hc.elim) <;>
   (repeat (first | refine w1 (fun K hK => ?_) | refine w2 ?_ | refine w3 ?_ | ((first | refine w4 ?_ | refine w5 ?_ | refine w6 ?_ | refine w7 ?_); try refine sq5 hb ho e1 e2 e3 ?_) | (refine w8 ?_; refine sq5 hb ho e1 e2 e3 ?_; refine w9 ?_) | ((first | refine hK _ _ (w0 ?_) | (clear hK K; refine hK _ _ (w0 ?_)) | (clear hK K; clear hK K; refine hK _ _ (w0 ?_))); clear hK K)))
  ·exfalso; omega
  ·try refine sq5 hb ho e1 e2 e3 ?_
   (repeat (first | refine w1 (fun K hK => ?_) | refine w2 ?_ | refine w3 ?_ | ((first | refine w4 ?_ | refine w5 ?_ | refine w6 ?_ | refine w7 ?_); try refine sq5 hb ho e1 e2 e3 ?_) | (refine w8 ?_; refine sq5 hb ho e1 e2 e3 ?_; refine w9 ?_) | ((first | refine hK _ _ (w0 ?_) | (clear hK K; refine hK _ _ (w0 ?_)) | (clear hK K; clear hK K; refine hK _ _ (w0 ?_))); clear hK K)))
   first | refine (hQ _ _ ?_).1 | refine (hQ _ _ ?_).2
   refine sq5 hb ho e1 e2 e3 ?_
   have key := Fin.whole (h0 := H) (R := BPost n0 pb H ((l ++ [o]).map OE.el) ds (some (((l ++ [o]).map OE.el).dropLast ++ [⟨o.n, o.a, o.t ++ x, o.k⟩], ds))) (h1 := H.set po (.row 26 4 vo ((l ++ [{ o with t := o.t ++ x }]).map OE.av))) (r := .bool true) (by simp) (.bool _)
    ⟨⟨fun p hp => List.getElem?_set_ne (by omega), by simp⟩, rfl, po, vo, room, _, pd, vd, hbt, by simp [OE.el]⟩
   simp only [List.map_append, List.map_cons, List.map_nil, List.getLast?_append, List.getLast?_singleton, Option.some_or] at key ⊢
   rw [e5, List.map_append, List.map_cons, List.map_nil]
   exact key
end Go.Av
namespace Go.Av
open Go Go.Proofs Go.RowKit
attribute [local irreducible] WP WPl WPix Sat
set_option maxRecDepth 100000
set_option maxHeartbeats 1000000
variable (G : Nat → Option (List AVal))
theorem frz_atsA {h0 h1 pre post : Heap} {e v q : Nat} (l : List At) (hh : h1 = pre ++ .row e 2 v (l.map At.av) :: post) (hq : q = pre.length) (hp : h0.length ≤ q) : Frz h1 h0.length (.hs q v 0 l.length true) (.sl 2 (l.map At.av)) := by
 have := frz_rows (h0 := h0) hh hq hp (fun r hr => by obtain ⟨a, _, rfl⟩ := List.mem_map.1 hr; exact At.clo _ a) (fun r hr => by obtain ⟨a, _, rfl⟩ := List.mem_map.1 hr; exact At.cells_sto a)
 simpa using this
theorem CloneA_sat (l : List At) (hl : l.length ≤ 1048576) (h : Heap) : Sat (CT G) 64 [.sl 2 (l.map At.av)] h (fun r h' => r = .sl 2 (l.map At.av) ∧ h' = h) := by
 rcases l with _ | ⟨a, l⟩
 ·refine Sat.body [.tmp 2] (fn := Tryz.f64) Tryz.func64 rfl rfl (by kernel_rfl) (by kernel_rfl) (by kernel_rfl) rfl ?_
  intro Q hQ
  (repeat (first | refine w1 (fun K hK => ?_) | refine w2 ?_ | refine w3 ?_ | ((first | refine w4 ?_ | refine w5 ?_ | refine w6 ?_ | refine w7 ?_); try refine sq0 ?_) | (refine w8 ?_; refine sq0 ?_; refine w9 ?_) | (refine rq0 ?_; try refine sq0 ?_) | (refine vq0 ?_; try refine sq0 ?_) | ((first | refine hK _ _ (w0 ?_) | (clear hK K; refine hK _ _ (w0 ?_)) | (clear hK K; clear hK K; refine hK _ _ (w0 ?_))); clear hK K)))
  refine binK_empty _ (by simp (disch := first | omega | (simp only [go_sem, ↓reduceIte, seval]; first | done | omega) | fail) only [go_sem, ↓reduceIte, seval]) (.inl rfl) fun b => ?_
  cases b
  ·try refine sq0 ?_
   (repeat (first | refine w1 (fun K hK => ?_) | refine w2 ?_ | refine w3 ?_ | ((first | refine w4 ?_ | refine w5 ?_ | refine w6 ?_ | refine w7 ?_); try refine sq0 ?_) | (refine w8 ?_; refine sq0 ?_; refine w9 ?_) | (refine rq0 ?_; try refine sq0 ?_) | (refine vq0 ?_; try refine sq0 ?_) | ((first | refine hK _ _ (w0 ?_) | (clear hK K; refine hK _ _ (w0 ?_)) | (clear hK K; clear hK K; refine hK _ _ (w0 ?_))); clear hK K)))
   refine appK_ez (.inl rfl) (by simp (disch := first | omega | (simp only [go_sem, ↓reduceIte, seval]; first | done | omega) | fail) only [go_sem, ↓reduceIte, seval]; rfl) (by simp (disch := first | omega | (simp only [go_sem, ↓reduceIte, seval]; first | done | omega) | fail) only [go_sem, ↓reduceIte, seval]; rfl) (by simp (disch := first | omega | (simp only [go_sem, ↓reduceIte, seval]; first | done | omega) | fail) only [go_sem, ↓reduceIte, seval]; rfl) (by simp (disch := first | omega | (simp only [go_sem, ↓reduceIte, seval]; first | done | omega) | fail) only [go_sem, ↓reduceIte, seval]; try rfl) (by omega) (by simp only [elemsOf, ↓reduceIte]; try rfl) (by simp) (fun _ => ?_) (fun h => absurd rfl h)
   try refine sq0 ?_
   (repeat (first | refine w1 (fun K hK => ?_) | refine w2 ?_ | refine w3 ?_ | ((first | refine w4 ?_ | refine w5 ?_ | refine w6 ?_ | refine w7 ?_); try refine sq0 ?_) | (refine w8 ?_; refine sq0 ?_; refine w9 ?_) | (refine rq0 ?_; try refine sq0 ?_) | (refine vq0 ?_; try refine sq0 ?_) | ((first | refine hK _ _ (w0 ?_) | (clear hK K; refine hK _ _ (w0 ?_)) | (clear hK K; clear hK K; refine hK _ _ (w0 ?_))); clear hK K)))
   first | refine (hQ _ _ ?_).1 | refine (hQ _ _ ?_).2
   refine sq0 ?_
   exact Fin.frzS (.ezs _) ⟨rfl, rfl⟩
  ·try refine sq0 ?_
   (repeat (first | refine w1 (fun K hK => ?_) | refine w2 ?_ | refine w3 ?_ | ((first | refine w4 ?_ | refine w5 ?_ | refine w6 ?_ | refine w7 ?_); try refine sq0 ?_) | (refine w8 ?_; refine sq0 ?_; refine w9 ?_) | (refine rq0 ?_; try refine sq0 ?_) | (refine vq0 ?_; try refine sq0 ?_) | ((first | refine hK _ _ (w0 ?_) | (clear hK K; refine hK _ _ (w0 ?_)) | (clear hK K; clear hK K; refine hK _ _ (w0 ?_))); clear hK K)))
   first | refine (hQ _ _ ?_).1 | refine (hQ _ _ ?_).2
   refine sq0 ?_
   exact Fin.frzS (.nils _) ⟨rfl, rfl⟩
 ·have hr : (List.map At.av (a :: l)) ≠ [] := by simp
  refine Sat.body [.tmp 2] (fn := Tryz.f64) Tryz.func64 rfl rfl (by kernel_rfl) (by kernel_rfl) (by kernel_rfl) rfl ?_
  intro Q hQ
  (repeat (first | refine w1 (fun K hK => ?_) | refine w2 ?_ | refine w3 ?_ | ((first | refine w4 ?_ | refine w5 ?_ | refine w6 ?_ | refine w7 ?_); try refine sq0 ?_) | (refine w8 ?_; refine sq0 ?_; refine w9 ?_) | (refine rq0 ?_; try refine sq0 ?_) | (refine vq0 ?_; try refine sq0 ?_) | ((first | refine hK _ _ (w0 ?_) | (clear hK K; refine hK _ _ (w0 ?_)) | (clear hK K; clear hK K; refine hK _ _ (w0 ?_))); clear hK K)))
  refine appK_ez (.inl rfl) (by simp (disch := first | omega | (simp only [go_sem, ↓reduceIte, seval]; first | done | omega) | fail) only [go_sem, ↓reduceIte, seval]; rfl) (by simp (disch := first | omega | (simp only [go_sem, ↓reduceIte, seval]; first | done | omega) | fail) only [go_sem, ↓reduceIte, seval]; rfl) (by simp (disch := first | omega | (simp only [go_sem, ↓reduceIte, seval]; first | done | omega) | fail) only [go_sem, ↓reduceIte, seval]; rfl) (by simp (disch := first | omega | (simp only [go_sem, ↓reduceIte, seval]; first | done | omega) | fail) only [go_sem, ↓reduceIte, seval]; try rfl) (by omega) (by simp only [elemsOf, ↓reduceIte]; try rfl) ?_ (fun h => by simp at h) (fun _ => ?_)
  ·simp [maxLen] at hl ⊢; omega
  try refine sq0 ?_
  (repeat (first | refine w1 (fun K hK => ?_) | refine w2 ?_ | refine w3 ?_ | ((first | refine w4 ?_ | refine w5 ?_ | refine w6 ?_ | refine w7 ?_); try refine sq0 ?_) | (refine w8 ?_; refine sq0 ?_; refine w9 ?_) | (refine rq0 ?_; try refine sq0 ?_) | (refine vq0 ?_; try refine sq0 ?_) | ((first | refine hK _ _ (w0 ?_) | (clear hK K; refine hK _ _ (w0 ?_)) | (clear hK K; clear hK K; refine hK _ _ (w0 ?_))); clear hK K)))
  first | refine (hQ _ _ ?_).1 | refine (hQ _ _ ?_).2
  refine sq0 ?_
  have := frz_atsA (h0 := h) (h1 := h ++ [.row 67 2 0 ((a :: l).map At.av)]) (e := 67) (v := 0) (a :: l) rfl rfl (Nat.le_refl _)
  simp only [List.length_cons, List.map_cons] at this
  exact Fin.frz (by simpa using this) ⟨rfl, rfl⟩
end Go.Av
namespace Go.Av
open Go Go.Proofs Go.RowKit
attribute [local irreducible] WP WPl WPix Sat
set_option maxRecDepth 100000
set_option maxHeartbeats 1000000
variable (G : Nat → Option (List AVal))
variable {H : Heap} {n0 pb po vo pd vd : Nat} {room : Bool} {os : List OE} {ds : List Elem}
structure BR (H : Heap) (n0 pb po vo : Nat) (os : List OE) (n : Bs) (a : List At) (pd vd : Nat) (ds : List Elem) : Prop where
 b : getRow H pb 0 = some (106, 2, [.agg [.hs po vo 0 (os.length + 1) true, .hs pd vd 0 ds.length true]])
 o : getRow H po vo = some (26, 4, os.map OE.av ++ [.agg [.str n, .sl 2 (a.map At.av), .str [], .nil (.slice none 0 0)]])
 d : getRow H pd vd = some (26, 4, ds.map Elem.av)
 k : ∀ (i : Nat) (o : OE), os[i]? = some o → getRow H o.q o.v = some (26, 4, o.k.map Elem.av)
 od : po ≠ pd
 ko : ∀ (i : Nat) (o : OE), os[i]? = some o → o.q ≠ po ∧ o.q ≠ pd ∧ n0 ≤ o.q
 kk : ∀ (i j : Nat) (o o' : OE), os[i]? = some o → os[j]? = some o' → i ≠ j → o.q ≠ o'.q
 n : n0 ≤ pb ∧ n0 ≤ po ∧ n0 ≤ pd
theorem BR.weak {C : Ctx} {n : Bs} {a : List At} (g : BR H n0 pb po vo os n a pd vd ds) :
  ∃ H', (∀ (ms : List Nat) (t : Env), Weak C ms t H t H') ∧ (FrN n0 H H' ∧ H.length ≤ H'.length) ∧ BH H' n0 pb po vo true (os ++ [⟨n, a, [], [], H.length, 0⟩]) pd vd ds := by
 have hlo := gr_lt g.o
 have hpo : pb ≠ po := row_ne g.b g.o (by decide)
 have hlb := gr_lt g.b
 have hld := gr_lt g.d
 refine ⟨_, fun ms t => Weak.virtRows (p := po) (v := vo) (rows' := os.map OE.av ++ [OE.av ⟨n, a, [], [], H.length, 0⟩]) 26 4 (by omega) g.o (by simp) fun i r' hi => ?_, ⟨fun p hp => ?_, by simp⟩, ?_⟩
 ·rcases getElem?_snoc hi with h1 | ⟨h1, rfl⟩
  ·have hlt := (List.getElem?_eq_some_iff.1 h1).1
   exact ⟨r', by rw [List.getElem?_append_left hlt]; exact h1, rfl, fun q c hc => .inl hc⟩
  ·refine ⟨.agg [.str n, .sl 2 (a.map At.av), .str [], .nil (.slice none 0 0)], by rw [h1]; simp, rfl, fun q c hc => ?_⟩
   match q with
   | 0 => exact .inl hc
   | 1 => exact .inl hc
   | 2 => exact .inl hc
   | 3 => simp [OE.av, AVal.cells] at hc; exact .inr ⟨hc.symm, rfl⟩
   | q + 4 => simp [OE.av, AVal.cells] at hc
 ·have := g.n
  rw [List.getElem?_append_left (by simp; omega), List.getElem?_set_ne (by omega)]
 ·have gold : ∀ {q v : Nat} {x : TypeId × Nat × List AVal}, getRow H q v = some x → po ≠ q → getRow (H.set po (.row 26 4 vo (os.map OE.av ++ [OE.av ⟨n, a, [], [], H.length, 0⟩])) ++ [.row 26 4 0 []]) q v = some x := fun {q v x} h1 h2 => by
   rw [gs_old _ (by simpa using gr_lt h1), gs_ne _ _ h2]; exact h1
  have at_ : ∀ (i : Nat) (p : OE), (os ++ [(⟨n, a, [], [], H.length, 0⟩ : OE)])[i]? = some p → (os[i]? = some p) ∨ (i = os.length ∧ p = ⟨n, a, [], [], H.length, 0⟩) := fun i p hi => getElem?_snoc hi |>.imp id fun ⟨h1, h2⟩ => ⟨h1, h2⟩
  refine ⟨?_, ?_, gold g.d g.od, fun i p hi => ?_, g.od, fun i p hi => ?_, fun i j p p' hi hj hij => ?_, g.n⟩
  ·rw [gold g.b hpo.symm]; simp
  ·rw [gs_old _ (by simpa using hlo), gs_eq _ _ _ _ _ hlo]; simp
  ·rcases at_ i p hi with h1 | ⟨_, rfl⟩
   ·exact gold (g.k i p h1) (g.ko i p h1).1.symm
   ·show getRow _ H.length 0 = _
    rw [gs_new0 _ (by simp)]; rfl
  ·rcases at_ i p hi with h1 | ⟨_, rfl⟩
   ·exact g.ko i p h1
   ·have := g.n; exact ⟨by show H.length ≠ _; omega, by show H.length ≠ _; omega, by show _ ≤ H.length; omega⟩
  ·rcases at_ i p hi with h1 | ⟨h1, rfl⟩ <;> rcases at_ j p' hj with h2 | ⟨h2, rfl⟩
   ·exact g.kk i j p p' h1 h2 hij
   ·have := gr_lt (g.k i p h1); show p.q ≠ H.length; omega
   ·have := gr_lt (g.k j p' h2); show H.length ≠ p'.q; omega
   ·omega
theorem add1_sat (nm : Bs) (at_ : List At) (tx : Bs) (hat : at_.length ≤ 1048576) (g : BH H n0 pb po vo room os pd vd ds) (hos : os.length ≤ 1000) (hds : ds.length ≤ 1048576) :
  Sat (CT G) 80 [.hp pb 0 0 0, Tok.av (1, nm, at_, tx)] H (fun r H' => (FrN n0 H H' ∧ H.length ≤ H'.length) ∧ r = .bool (decide (os.length ≤ 31) && decide (ds.length = 0)) ∧ ∃ po' vo', BR H' n0 pb po' vo' os nm at_ pd vd ds) := by
 have hb := g.b
 have ho := g.o
 have hd := g.d
 have hlo := gr_lt ho
 have hlb := gr_lt hb
 have hld := gr_lt hd
 have hbo := g.bo
 have hbd := g.bd
 have hod := g.od
 have hn := g.n
 skip
 refine Sat.body [.tmp 4] (fn := Tryz.f80) Tryz.func80 rfl rfl (by kernel_rfl) (by kernel_rfl) (by kernel_rfl) rfl ?_
 intro Q hQ
 (repeat (first | refine w1 (fun K hK => ?_) | refine w2 ?_ | refine w3 ?_ | ((first | refine w4 ?_ | refine WP_draw 12 (by decide +kernel) ?_ | refine w5 ?_ | refine w6 ?_ | refine w7 ?_); try refine sq4 hb ho hd heapF ?_) | (refine w8 ?_; refine sq4 hb ho hd heapF ?_; refine w9 ?_) | (refine rq4 hb ho hd heapF ?_; try refine sq4 hb ho hd heapF ?_) | (refine vq4 hb ho hd heapF ?_; try refine sq4 hb ho hd heapF ?_) | ((first | refine hK _ _ (w0 ?_) | (clear hK K; refine hK _ _ (w0 ?_)) | (clear hK K; clear hK K; refine hK _ _ (w0 ?_))); clear hK K)))
 have tail : ∀ (t' : Env) (h' : Heap) (po' vo' : Nat), t' 0 = .hp pb 0 0 0 → FrN n0 H h' → H.length ≤ h'.length →
   getRow h' pb 0 = some (106, 2, [.agg [.hs po' vo' 0 (os.length + 1) true, .hs pd vd 0 ds.length true]]) →
   getRow h' po' vo' = some (26, 4, os.map OE.av ++ [.agg [.str nm, .sl 2 (at_.map At.av), .str [], .nil (.slice none 0 0)]]) → (po' = po ∨ H.length ≤ po') →
   (∀ q v x, getRow H q v = some x → q ≠ pb → q ≠ po → getRow h' q v = some x) → K t' h' := by
  intro t' h' po' vo' e0 hfr hlen hb' ho' hpo' hrest
  have hlt := gr_lt ho'
  have hbr : BR h' n0 pb po' vo' os nm at_ pd vd ds := by
   have hne : ∀ q, q < H.length → q ≠ po → q ≠ po' := fun q h1 h2 => by omega
   exact ⟨hb', ho', hrest _ _ _ hd hbd.symm hod.symm, fun i o hi => hrest _ _ _ (g.k i o hi) (g.bk i o hi).symm (g.ko i o hi).1, fun e => by omega,
    fun i o hi => ⟨hne _ (gr_lt (g.k i o hi)) (g.ko i o hi).1, (g.ko i o hi).2.1, (g.ko i o hi).2.2⟩, g.kk, ⟨hn.1, by omega, hn.2.2⟩⟩
  refine hK _ _ (Wkn.refl ?_)
  clear hK K
  have hd' := hbr.d
  skip
  (repeat (first | refine w1 (fun K hK => ?_) | refine w2 ?_ | refine w3 ?_ | ((first | refine w4 ?_ | refine WP_draw 12 (by decide +kernel) ?_ | refine w5 ?_ | refine w6 ?_ | refine w7 ?_); try refine sq8 hb ho hd e0 hb' ho' hd' heapF ?_) | (refine w8 ?_; refine sq8 hb ho hd e0 hb' ho' hd' heapF ?_; refine w9 ?_) | (refine rq8 hb ho hd e0 hb' ho' hd' heapF ?_; try refine sq8 hb ho hd e0 hb' ho' hd' heapF ?_) | (refine vq8 hb ho hd e0 hb' ho' hd' heapF ?_; try refine sq8 hb ho hd e0 hb' ho' hd' heapF ?_) | ((first | refine hK _ _ (w0 ?_) | (clear hK K; refine hK _ _ (w0 ?_)) | (clear hK K; clear hK K; refine hK _ _ (w0 ?_))); clear hK K)))
  have fin : ∀ b : Bool, b = (decide (os.length ≤ 31) && decide (ds.length = 0)) → Fin H h' (fun r H' => (FrN n0 H H' ∧ H.length ≤ H'.length) ∧ r = .bool (decide (os.length ≤ 31) && decide (ds.length = 0)) ∧ ∃ po' vo', BR H' n0 pb po' vo' os nm at_ pd vd ds) (.bool b) := fun b hb => by
   exact Fin.whole hlen (.bool _) ⟨⟨hfr, hlen⟩, by rw [hb], po', vo', hbr⟩
  (first | refine gq8 hb ho hd e0 hb' ho' hd' heapF (fun hg => ?_) (fun hg => ?_) | refine pq8 hb ho hd e0 hb' ho' hd' heapF (fun hg => ?_) (fun hg => ?_)) <;> (try exact hg.elim) <;> (try refine sq8 hb ho hd e0 hb' ho' hd' heapF ?_) <;>
   (repeat (first | refine w1 (fun K hK => ?_) | refine w2 ?_ | refine w3 ?_ | ((first | refine w4 ?_ | refine WP_draw 12 (by decide +kernel) ?_ | refine w5 ?_ | refine w6 ?_ | refine w7 ?_); try refine sq8 hb ho hd e0 hb' ho' hd' heapF ?_) | (refine w8 ?_; refine sq8 hb ho hd e0 hb' ho' hd' heapF ?_; refine w9 ?_) | (refine rq8 hb ho hd e0 hb' ho' hd' heapF ?_; try refine sq8 hb ho hd e0 hb' ho' hd' heapF ?_) | (refine vq8 hb ho hd e0 hb' ho' hd' heapF ?_; try refine sq8 hb ho hd e0 hb' ho' hd' heapF ?_) | ((first | refine hK _ _ (w0 ?_) | (clear hK K; refine hK _ _ (w0 ?_)) | (clear hK K; clear hK K; refine hK _ _ (w0 ?_))); clear hK K)))
  ·first | refine (hQ _ _ ?_).1 | refine (hQ _ _ ?_).2
   refine sq8 hb ho hd e0 hb' ho' hd' heapF ?_
   refine fin _ ?_
   have e : decide (os.length ≤ 31) = true := by rw [decide_eq_true_iff]; omega
   rw [e, Bool.true_and, Bool.eq_iff_iff]; simp
  ·first | refine (hQ _ _ ?_).1 | refine (hQ _ _ ?_).2
   refine sq8 hb ho hd e0 hb' ho' hd' heapF ?_
   refine fin _ ?_
   have e : decide (os.length ≤ 31) = false := by rw [decide_eq_false_iff_not]; omega
   rw [e, Bool.false_and]
 have hlt1 : os.length < os.length + 1 := by omega
 have hg1 : ∀ x : AVal, (os.map OE.av ++ [x])[os.length]? = some x := fun x => by simp
 have hs1 : ∀ x y : AVal, (os.map OE.av ++ [x]).set os.length y = os.map OE.av ++ [y] := fun x y => by simp
 cases room with
 | true =>
  skip
  refine WP_draw6 12 (.one 12 (.two 13 (.two 14 (.one 15 (.one 16 (.one 17 .nil))) 15 (.two 14 (.one 16 (.one 17 .nil)) 16 (.two 14 (.one 17 .nil) 17 (.one 14 .nil)))) 15 (.two 13 (.two 14 (.one 16 (.one 17 .nil)) 16 (.two 14 (.one 17 .nil) 17 (.one 14 .nil))) 16 (.two 13 (.two 14 (.one 17 .nil) 17 (.one 14 .nil)) 17 (.one 13 (.one 14 .nil)))))) (by decide +kernel) (by kernel_rfl) (by decide +kernel) ?_
  simp only [List.take_succ_cons, List.take_zero]
  try refine sq7 hb ho hd hlt1 hg1 hs1 heapF ?_
  repeat' (first | refine WPt_nil ?_ | (refine WPt_one rfl ?_; refine sq7 hb ho hd hlt1 hg1 hs1 heapF ?_) | (refine WPt_two rfl rfl ?_ ?_ <;> refine sq7 hb ho hd hlt1 hg1 hs1 heapF ?_))
  refine ⟨_, CloneA_sat G at_ hat _, ?_⟩
  try simp (disch := first | omega | (simp only [go_sem, ↓reduceIte, seval]; first | done | omega) | fail) only [go_sem, ↓reduceIte, seval, hb, ho, hd, gs_ne, gs_eq, gs_old, gs_new, gs_new0, st_old, st_new, st_new0, List.length_set, List.set_set, hlt1, hg1, hs1]
  refine vq7 hb ho hd hlt1 hg1 hs1 heapF ?_; try refine sq7 hb ho hd hlt1 hg1 hs1 heapF ?_
  repeat' (first | refine WPt_nil ?_ | (refine WPt_one rfl ?_; refine sq7 hb ho hd hlt1 hg1 hs1 heapF ?_) | (refine WPt_two rfl rfl ?_ ?_ <;> refine sq7 hb ho hd hlt1 hg1 hs1 heapF ?_))
  refine aq7 hb ho hd hlt1 hg1 hs1 heapF ?_
  try refine sq7 hb ho hd hlt1 hg1 hs1 heapF ?_
  (repeat (first | refine w1 (fun K hK => ?_) | refine w2 ?_ | refine w3 ?_ | ((first | refine w4 ?_ | refine WP_draw 12 (by decide +kernel) ?_ | refine w5 ?_ | refine w6 ?_ | refine w7 ?_); try refine sq7 hb ho hd hlt1 hg1 hs1 heapF ?_) | (refine w8 ?_; refine sq7 hb ho hd hlt1 hg1 hs1 heapF ?_; refine w9 ?_) | (refine rq7 hb ho hd hlt1 hg1 hs1 heapF ?_; try refine sq7 hb ho hd hlt1 hg1 hs1 heapF ?_) | (refine vq7 hb ho hd hlt1 hg1 hs1 heapF ?_; try refine sq7 hb ho hd hlt1 hg1 hs1 heapF ?_)))
  repeat' (first | refine WPt_nil ?_ | (refine WPt_one rfl ?_; refine sq7 hb ho hd hlt1 hg1 hs1 heapF ?_) | (refine WPt_two rfl rfl ?_ ?_ <;> refine sq7 hb ho hd hlt1 hg1 hs1 heapF ?_))
  all_goals (
   show K _ _
   refine tail _ _ po (vo + 1) ?_ ?_ ?_ ?_ ?_ (.inl rfl) ?_
   ·exact zq7 hb ho hd hlt1 hg1 hs1 heapF
   ·repeat (first | exact FrN.refl _ _ | refine FrN.set _ (by omega) ?_ | refine FrN.app _ (by simp; omega) ?_)
   ·simp
   ·exact zq7 hb ho hd hlt1 hg1 hs1 heapF
   ·exact zq7 hb ho hd hlt1 hg1 hs1 heapF
   ·intro q v x h1 h2 h3
    have h4 := gr_lt h1
    have h2' := h2.symm
    have h3' := h3.symm
    simp (disch := first | omega | (simp only [go_sem, ↓reduceIte, seval]; first | done | omega) | fail) only [go_sem, ↓reduceIte, seval, hb, ho, hd, gs_ne, gs_eq, gs_old, gs_new, gs_new0, st_old, st_new, st_new0, List.length_set, List.set_set, hlt1, hg1, hs1, h1])
 | false =>
  skip
  refine WP_draw6 12 (.one 12 (.two 13 (.two 14 (.one 15 (.one 16 (.one 17 .nil))) 15 (.two 14 (.one 16 (.one 17 .nil)) 16 (.two 14 (.one 17 .nil) 17 (.one 14 .nil)))) 15 (.two 13 (.two 14 (.one 16 (.one 17 .nil)) 16 (.two 14 (.one 17 .nil) 17 (.one 14 .nil))) 16 (.two 13 (.two 14 (.one 17 .nil) 17 (.one 14 .nil)) 17 (.one 13 (.one 14 .nil)))))) (by decide +kernel) (by kernel_rfl) (by decide +kernel) ?_
  simp only [List.take_succ_cons, List.take_zero]
  try refine sq7 hb ho hd hlt1 hg1 hs1 heapF ?_
  repeat' (first | refine WPt_nil ?_ | (refine WPt_one rfl ?_; refine sq7 hb ho hd hlt1 hg1 hs1 heapF ?_) | (refine WPt_two rfl rfl ?_ ?_ <;> refine sq7 hb ho hd hlt1 hg1 hs1 heapF ?_))
  refine ⟨_, CloneA_sat G at_ hat _, ?_⟩
  try simp (disch := first | omega | (simp only [go_sem, ↓reduceIte, seval]; first | done | omega) | fail) only [go_sem, ↓reduceIte, seval, hb, ho, hd, gs_ne, gs_eq, gs_old, gs_new, gs_new0, st_old, st_new, st_new0, List.length_set, List.set_set, hlt1, hg1, hs1]
  refine vq7 hb ho hd hlt1 hg1 hs1 heapF ?_; try refine sq7 hb ho hd hlt1 hg1 hs1 heapF ?_
  repeat' (first | refine WPt_nil ?_ | (refine WPt_one rfl ?_; refine sq7 hb ho hd hlt1 hg1 hs1 heapF ?_) | (refine WPt_two rfl rfl ?_ ?_ <;> refine sq7 hb ho hd hlt1 hg1 hs1 heapF ?_))
  refine appK_cut (.inl rfl) (by simp only [go_sem]; rfl) (by simp only [go_sem]; rfl) (by simp only [go_sem]; rfl) (by simp only [go_sem]; try rfl) (by omega) (by simp only [elemsOf, ↓reduceIte]; rfl) (by simp (disch := first | omega | (simp only [go_sem, ↓reduceIte, seval]; first | done | omega) | fail) only [go_sem, ↓reduceIte, seval, hb, ho, hd, gs_ne, gs_eq, gs_old, gs_new, gs_new0, st_old, st_new, st_new0, List.length_set, List.set_set, hlt1, hg1, hs1]; rfl) (by simp) (by simp) ?_ ?_
  ·refine ⟨?_, ?_⟩ <;> simp only [maxLen, List.length_map, List.length_cons, List.length_nil] <;> omega
  rw [List.take_of_length_le (by simp)]
  try simp (disch := first | omega | (simp only [go_sem, ↓reduceIte, seval]; first | done | omega) | fail) only [go_sem, ↓reduceIte, seval, hb, ho, hd, gs_ne, gs_eq, gs_old, gs_new, gs_new0, st_old, st_new, st_new0, List.length_set, List.set_set, hlt1, hg1, hs1]
  repeat' (first | refine WPt_nil ?_ | (refine WPt_one rfl ?_; refine sq7 hb ho hd hlt1 hg1 hs1 heapF ?_) | (refine WPt_two rfl rfl ?_ ?_ <;> refine sq7 hb ho hd hlt1 hg1 hs1 heapF ?_))
  all_goals (
   show K _ _
   refine tail _ _ (H.length + 1) 0 ?_ ?_ ?_ ?_ ?_ (.inr (by omega)) ?_
   ·exact zq7 hb ho hd hlt1 hg1 hs1 heapF
   ·repeat (first | exact FrN.refl _ _ | refine FrN.set _ (by omega) ?_ | refine FrN.app _ (by simp; omega) ?_)
   ·simp
   ·exact zq7 hb ho hd hlt1 hg1 hs1 heapF
   ·exact zq7 hb ho hd hlt1 hg1 hs1 heapF
   ·intro q v x h1 h2 h3
    have h4 := gr_lt h1
    have h2' := h2.symm
    have h3' := h3.symm
    simp (disch := first | omega | (simp only [go_sem, ↓reduceIte, seval]; first | done | omega) | fail) only [go_sem, ↓reduceIte, seval, hb, ho, hd, gs_ne, gs_eq, gs_old, gs_new, gs_new0, st_old, st_new, st_new0, List.length_set, List.set_set, hlt1, hg1, hs1, h1])
end Go.Av
namespace Go.Av
open Go Go.Proofs Go.RowKit
attribute [local irreducible] WP WPl WPix Sat
set_option maxRecDepth 100000
set_option maxHeartbeats 1000000
variable {H : Heap} {n0 pb po vo pd vd : Nat} {ds : List Elem}
theorem OE.fz {K : Heap} {e : TypeId} (o : OE) (hk : getRow K o.q o.v = some (e, 4, o.k.map Elem.av)) : o.av.cells.length = o.el.av.cells.length ∧ ∀ (j : Nat) (c d : AVal), o.av.cells[j]? = some c → o.el.av.cells[j]? = some d → Fz K o.q o.v c d ∧ d.sto = true := by
 rw [Elem.av_cells]
 refine ⟨rfl, fun j c d hc hd => ?_⟩
 match j with
 | 0 => simp [OE.av, AVal.cells, OE.el, Elem.name] at hc hd; subst hc; subst hd; exact ⟨.same _, rfl⟩
 | 1 => simp [OE.av, AVal.cells, OE.el, Elem.attrs] at hc hd; subst hc; subst hd; exact ⟨.same _, rfl⟩
 | 2 => simp [OE.av, AVal.cells, OE.el, Elem.text] at hc hd; subst hc; subst hd; exact ⟨.same _, rfl⟩
 | 3 => simp [OE.av, AVal.cells, OE.el, Elem.kids] at hc hd; subst hc; subst hd; exact ⟨Fz.all _ _ _ hk rfl (by simp), rfl⟩
 | j + 4 => simp [OE.av, AVal.cells] at hc
theorem rows_fz {K : Heap} {e : TypeId} (o : OE) (hk : getRow K o.q o.v = some (e, 4, o.k.map Elem.av)) (ks : List Elem) : ∀ (i : Nat) (x y : AVal), (ks.map Elem.av ++ [o.av])[i]? = some x → ((ks ++ [o.el]).map Elem.av)[i]? = some y →
  x.cells.length = y.cells.length ∧ ∀ (j : Nat) (c d : AVal), x.cells[j]? = some c → y.cells[j]? = some d → Fz K o.q o.v c d ∧ d.sto = true := by
 intro i x y hx hy
 rw [List.map_append] at hy
 rcases getElem?_snoc hx with h1 | ⟨h1, rfl⟩
 ·rw [List.getElem?_append_left (List.getElem?_eq_some_iff.1 h1).1, h1] at hy
  cases hy
  obtain ⟨a, _, rfl⟩ := List.mem_map.1 (List.mem_of_getElem? h1)
  exact ⟨rfl, fun j c d hc hd => by rw [hc] at hd; cases hd; exact ⟨.same _, a.av_sto _ (List.mem_of_getElem? hc)⟩⟩
 ·subst h1
  simp at hy; subst hy
  exact o.fz hk
theorem close_weak0 {C : Ctx} {K : Heap} {o : OE} (hb : getRow K pb 0 = some (106, 2, [.agg [.hs po vo 0 0 false, .hs pd vd 0 (ds.length + 1) true]]))
  (ho : getRow K po vo = some (26, 4, [o.av])) (hd : getRow K pd vd = some (26, 4, ds.map Elem.av ++ [o.av]))
  (hk : getRow K o.q o.v = some (26, 4, o.k.map Elem.av)) (od : po ≠ pd) (ko : o.q ≠ po ∧ o.q ≠ pd ∧ n0 ≤ o.q) (hn : n0 ≤ pb ∧ n0 ≤ po ∧ n0 ≤ pd) :
  ∃ K', (∀ (ms : List Nat) (t : Env), Weak C ms t K t K') ∧ (FrN n0 K K' ∧ K.length ≤ K'.length) ∧ BH K' n0 pb po vo false [] pd vd (ds ++ [o.el]) := by
 have hlo := gr_lt ho; have hlb := gr_lt hb; have hld := gr_lt hd; have hlk := gr_lt hk
 have hbo : pb ≠ po := row_ne hb ho (by decide)
 have hbd : pb ≠ pd := row_ne hb hd (by decide)
 have hbk : pb ≠ o.q := row_ne hb hk (by decide)
 have w1 := fun (ms : List Nat) (t : Env) => Weak.fzIn (C := C) (ms := ms) (t := t) (t1 := t) o.q o.v pd vd ((ds ++ [o.el]).map Elem.av) hk ko.2.1 hd (by simp) (rows_fz o hk ds) (fun _ => .inl rfl)
 have g2 : getRow ((K.set o.q .dead).set pd (.row 26 4 vd ((ds ++ [o.el]).map Elem.av))) po vo = some (26, 4, [o.av]) := by
  rw [gs_ne _ _ od.symm, gs_ne _ _ ko.1]; exact ho
 have w2 := fun (ms : List Nat) (t : Env) => Weak.rowTake (C := C) (ms := ms) (t := t) po vo 0 g2
 refine ⟨_, fun ms t => (w1 ms t).trans (w2 ms t), ⟨FrN.set _ hn.2.1 (FrN.set _ hn.2.2 (FrN.set _ ko.2.2 (FrN.refl _ _))), by simp⟩, ⟨?_, ?_, ?_, fun i p hi => by simp at hi, od, fun i p hi => by simp at hi, fun i j p p' hi => by simp at hi, hn⟩⟩
 ·rw [gs_ne _ _ hbo.symm, gs_ne _ _ hbd.symm, gs_ne _ _ hbk.symm, hb]; simp
 ·rw [gs_eq _ _ _ _ _ (by simpa using hlo)]; simp
 ·rw [gs_ne _ _ od, gs_eq _ _ _ _ _ (by simpa using hld)]; simp
theorem close_weak1 {C : Ctx} {K : Heap} {l : List OE} {p o : OE} (hb : getRow K pb 0 = some (106, 2, [.agg [.hs po vo 0 (l.length + 1) false, .hs pd vd 0 ds.length true]]))
  (ho : getRow K po vo = some (26, 4, l.map OE.av ++ [.agg [.str p.n, .sl 2 (p.a.map At.av), .str p.t, .hs p.q (p.v + 1) 0 (p.k.length + 1) true], o.av]))
  (hd : getRow K pd vd = some (26, 4, ds.map Elem.av))
  (hk : getRow K o.q o.v = some (26, 4, o.k.map Elem.av)) (hp : getRow K p.q (p.v + 1) = some (26, 4, p.k.map Elem.av ++ [o.av]))
  (hl : ∀ (i : Nat) (x : OE), l[i]? = some x → getRow K x.q x.v = some (26, 4, x.k.map Elem.av) ∧ x.q ≠ po ∧ x.q ≠ pd ∧ n0 ≤ x.q ∧ x.q ≠ p.q ∧ x.q ≠ o.q)
  (kk : ∀ (i j : Nat) (x x' : OE), l[i]? = some x → l[j]? = some x' → i ≠ j → x.q ≠ x'.q)
  (od : po ≠ pd) (ko : o.q ≠ po ∧ o.q ≠ pd ∧ n0 ≤ o.q) (kp : p.q ≠ po ∧ p.q ≠ pd ∧ n0 ≤ p.q) (kop : o.q ≠ p.q) (hn : n0 ≤ pb ∧ n0 ≤ po ∧ n0 ≤ pd) :
  ∃ K', (∀ (ms : List Nat) (t : Env), Weak C ms t K t K') ∧ (FrN n0 K K' ∧ K.length ≤ K'.length) ∧ BH K' n0 pb po vo false (l ++ [⟨p.n, p.a, p.t, p.k ++ [o.el], p.q, p.v + 1⟩]) pd vd ds := by
 have hlo := gr_lt ho; have hlb := gr_lt hb; have hld := gr_lt hd; have hlk := gr_lt hk; have hlp := gr_lt hp
 have hbo : pb ≠ po := row_ne hb ho (by decide)
 have hbd : pb ≠ pd := row_ne hb hd (by decide)
 have hbk : pb ≠ o.q := row_ne hb hk (by decide)
 have hbp : pb ≠ p.q := row_ne hb hp (by decide)
 have w1 := fun (ms : List Nat) (t : Env) => Weak.fzIn (C := C) (ms := ms) (t := t) (t1 := t) o.q o.v p.q (p.v + 1) ((p.k ++ [o.el]).map Elem.av) hk kop hp (by simp) (rows_fz o hk p.k) (fun _ => .inl rfl)
 have g2 := (show getRow ((K.set o.q .dead).set p.q (.row 26 4 (p.v + 1) ((p.k ++ [o.el]).map Elem.av))) po vo = getRow K po vo by
  rw [gs_ne _ _ kp.1, gs_ne _ _ ko.1]).trans ho
 have w2 := fun (ms : List Nat) (t : Env) => Weak.rowTake (C := C) (ms := ms) (t := t) po vo (l.length + 1) g2
 have at_ : ∀ (i : Nat) (x : OE), (l ++ [(⟨p.n, p.a, p.t, p.k ++ [o.el], p.q, p.v + 1⟩ : OE)])[i]? = some x → (l[i]? = some x) ∨ (i = l.length ∧ x = ⟨p.n, p.a, p.t, p.k ++ [o.el], p.q, p.v + 1⟩) := fun i x hi => getElem?_snoc hi
 refine ⟨_, fun ms t => (w1 ms t).trans (w2 ms t), ⟨FrN.set _ hn.2.1 (FrN.set _ kp.2.2 (FrN.set _ ko.2.2 (FrN.refl _ _))), by simp⟩, ⟨?_, ?_, ?_, fun i x hi => ?_, od, fun i x hi => ?_, fun i j x x' hi hj hij => ?_, hn⟩⟩
 ·rw [gs_ne _ _ hbo.symm, gs_ne _ _ hbp.symm, gs_ne _ _ hbk.symm, hb]; simp
 ·rw [gs_eq _ _ _ _ _ (by simpa using hlo), if_pos rfl]
  have e : (l.map OE.av ++ [AVal.agg [.str p.n, .sl 2 (p.a.map At.av), .str p.t, .hs p.q (p.v + 1) 0 (p.k.length + 1) true], o.av]).take (l.length + 1) = (l ++ [(⟨p.n, p.a, p.t, p.k ++ [o.el], p.q, p.v + 1⟩ : OE)]).map OE.av := by
   rw [List.take_append, List.take_of_length_le (by simp)]
   simp [OE.av]
  rw [e]
 ·rw [gs_ne _ _ od, gs_ne _ _ kp.2.1, gs_ne _ _ ko.2.1]; exact hd
 ·rcases at_ i x hi with h1 | ⟨_, rfl⟩
  ·obtain ⟨k1, k2, k3, k4, k5, k6⟩ := hl i x h1
   rw [gs_ne _ _ k2.symm, gs_ne _ _ k5.symm, gs_ne _ _ k6.symm]; exact k1
  ·show getRow _ p.q (p.v + 1) = _
   rw [gs_ne _ _ kp.1.symm, gs_eq _ _ _ _ _ (by simpa using hlp)]; simp
 ·rcases at_ i x hi with h1 | ⟨_, rfl⟩
  ·obtain ⟨k1, k2, k3, k4, k5, k6⟩ := hl i x h1; exact ⟨k2, k3, k4⟩
  ·exact kp
 ·rcases at_ i x hi with h1 | ⟨h1, rfl⟩ <;> rcases at_ j x' hj with h2 | ⟨h2, rfl⟩
  ·exact kk i j x x' h1 h2 hij
  ·exact (hl i x h1).2.2.2.2.1
  ·exact (hl j x' h2).2.2.2.2.1.symm
  ·omega
end Go.Av
namespace Go.Av
open Go Go.Proofs Go.RowKit
attribute [local irreducible] WP WPl WPix Sat
set_option maxRecDepth 100000
set_option maxHeartbeats 1000000
variable (G : Nat → Option (List AVal))
variable {H : Heap} {n0 pb po vo pd vd : Nat} {room : Bool} {os : List OE} {ds : List Elem}
theorem stepB_cls0 (os ds : List Elem) (n : Bs) (h : os = [] ∨ ∃ l e, os = l ++ [e] ∧ e.name ≠ n) (a : List At) (x : Bs) : stepB os ds (2, n, a, x) = none := by
 rcases h with rfl | ⟨l, e, rfl, he⟩
 ·rfl
 ·simp [stepB, he]
theorem stepB_cls1 (ds : List Elem) (e : Elem) (a : List At) (x : Bs) : stepB [e] ds (2, e.name, a, x) = some ([], ds ++ [e]) := by simp [stepB]
theorem stepB_cls2 (l ds : List Elem) (p e : Elem) (a : List At) (x : Bs) : stepB (l ++ [p] ++ [e]) ds (2, e.name, a, x) = some (l ++ [⟨p.name, p.attrs, p.text, p.kids ++ [e]⟩], ds) := by
 simp [stepB]
theorem close0_sat (nm : Bs) (g : BH H n0 pb po vo room os pd vd ds) (hos : os.length ≤ 1000) (h : os = [] ∨ ∃ l o, os = l ++ [o] ∧ o.n ≠ nm) :
  Sat (CT G) 107 [.hp pb 0 0 0, .str nm] H (fun r H' => r = .bool false ∧ H' = H) := by
 have hb := g.b
 have ho := g.o
 skip
 refine Sat.body [.tmp 4] (fn := Tryz.f107) Tryz.func107 rfl rfl (by kernel_rfl) (by kernel_rfl) (by kernel_rfl) rfl ?_
 intro Q hQ
 (repeat (first | refine w1 (fun K hK => ?_) | refine w2 ?_ | refine w3 ?_ | ((first | refine w4 ?_ | refine WP_draw 18 (by decide +kernel) ?_ | refine WP_draw 17 (by decide +kernel) ?_ | refine WP_draw 7 (by decide +kernel) ?_ | refine w5 ?_ | refine w6 ?_ | refine w7 ?_); try refine sq2 hb ho ?_) | (refine w8 ?_; refine sq2 hb ho ?_; refine w9 ?_) | (refine rq2 hb ho ?_; try refine sq2 hb ho ?_) | (refine vq2 hb ho ?_; try refine sq2 hb ho ?_) | ((first | refine hK _ _ (w0 ?_) | (clear hK K; refine hK _ _ (w0 ?_)) | (clear hK K; clear hK K; refine hK _ _ (w0 ?_))); clear hK K)))
 rcases h with rfl | ⟨l, o, rfl, hne⟩
 ·(first | refine gq2 hb ho (fun g1 => ?_) (fun g1 => ?_) | refine pq2 hb ho (fun g1 => ?_) (fun g1 => ?_)) <;> (try exact g1.elim) <;> (try refine sq2 hb ho ?_) <;>
   (repeat (first | refine w1 (fun K hK => ?_) | refine w2 ?_ | refine w3 ?_ | ((first | refine w4 ?_ | refine WP_draw 18 (by decide +kernel) ?_ | refine WP_draw 17 (by decide +kernel) ?_ | refine WP_draw 7 (by decide +kernel) ?_ | refine w5 ?_ | refine w6 ?_ | refine w7 ?_); try refine sq2 hb ho ?_) | (refine w8 ?_; refine sq2 hb ho ?_; refine w9 ?_) | (refine rq2 hb ho ?_; try refine sq2 hb ho ?_) | (refine vq2 hb ho ?_; try refine sq2 hb ho ?_) | ((first | refine hK _ _ (w0 ?_) | (clear hK K; refine hK _ _ (w0 ?_)) | (clear hK K; clear hK K; refine hK _ _ (w0 ?_))); clear hK K)))
  ·first | refine (hQ _ _ ?_).1 | refine (hQ _ _ ?_).2
   refine sq2 hb ho ?_
   exact Fin.same (.bool _) ⟨rfl, rfl⟩
  ·exact absurd trivial g1
 ·have e1 : ((l.length + 1 : Nat) : Int) - 1 = l.length := by omega
  have e2 : (l ++ [o])[l.length]? = some o := by simp
  have e3 : l.length < l.length + 1 := by omega
  have e4 : (o.n == nm) = false := by simpa using hne
  skip
  (first | refine gq6 hb ho e1 e2 e3 e4 (fun g1 => ?_) (fun g1 => ?_) | refine pq6 hb ho e1 e2 e3 e4 (fun g1 => ?_) (fun g1 => ?_)) <;> (try exact g1.elim) <;> (try refine sq6 hb ho e1 e2 e3 e4 ?_) <;>
   (repeat (first | refine w1 (fun K hK => ?_) | refine w2 ?_ | refine w3 ?_ | ((first | refine w4 ?_ | refine WP_draw 18 (by decide +kernel) ?_ | refine WP_draw 17 (by decide +kernel) ?_ | refine WP_draw 7 (by decide +kernel) ?_ | refine w5 ?_ | refine w6 ?_ | refine w7 ?_); try refine sq6 hb ho e1 e2 e3 e4 ?_) | (refine w8 ?_; refine sq6 hb ho e1 e2 e3 e4 ?_; refine w9 ?_) | (refine rq6 hb ho e1 e2 e3 e4 ?_; try refine sq6 hb ho e1 e2 e3 e4 ?_) | (refine vq6 hb ho e1 e2 e3 e4 ?_; try refine sq6 hb ho e1 e2 e3 e4 ?_) | ((first | refine hK _ _ (w0 ?_) | (clear hK K; refine hK _ _ (w0 ?_)) | (clear hK K; clear hK K; refine hK _ _ (w0 ?_))); clear hK K)))
  ·exfalso; omega
  ·try refine sq6 hb ho e1 e2 e3 e4 ?_
   (repeat (first | refine w1 (fun K hK => ?_) | refine w2 ?_ | refine w3 ?_ | ((first | refine w4 ?_ | refine WP_draw 18 (by decide +kernel) ?_ | refine WP_draw 17 (by decide +kernel) ?_ | refine WP_draw 7 (by decide +kernel) ?_ | refine w5 ?_ | refine w6 ?_ | refine w7 ?_); try refine sq6 hb ho e1 e2 e3 e4 ?_) | (refine w8 ?_; refine sq6 hb ho e1 e2 e3 e4 ?_; refine w9 ?_) | (refine rq6 hb ho e1 e2 e3 e4 ?_; try refine sq6 hb ho e1 e2 e3 e4 ?_) | (refine vq6 hb ho e1 e2 e3 e4 ?_; try refine sq6 hb ho e1 e2 e3 e4 ?_) | ((first | refine hK _ _ (w0 ?_) | (clear hK K; refine hK _ _ (w0 ?_)) | (clear hK K; clear hK K; refine hK _ _ (w0 ?_))); clear hK K)))
   first | refine (hQ _ _ ?_).1 | refine (hQ _ _ ?_).2
   refine sq6 hb ho e1 e2 e3 e4 ?_
   exact Fin.same (.bool _) ⟨rfl, rfl⟩
theorem close1_sat (o : OE) (g : BH H n0 pb po vo room [o] pd vd ds) (hds : ds.length ≤ 1048576) :
  Sat (CT G) 107 [.hp pb 0 0 0, .str o.n] H (BPost n0 pb H [o.el] ds (some ([], ds ++ [o.el]))) := by
 have hb := g.b
 have ho := g.o
 have hd := g.d
 have hk := g.k 0 o rfl
 have ko := g.ko 0 o rfl
 have hlo := gr_lt ho
 have hlb := gr_lt hb
 have hld := gr_lt hd
 have hlk := gr_lt hk
 have hbo := g.bo
 have hbd := g.bd
 have hbk := g.bk 0 o rfl
 have hod := g.od
 have hn := g.n
 refine Sat.postw (R := fun r H' => (FrN n0 H H' ∧ H.length ≤ H'.length) ∧ r = .bool true ∧ getRow H' pb 0 = some (106, 2, [.agg [.hs po vo 0 0 false, .hs pd (vd + 1) 0 (ds.length + 1) true]]) ∧
   getRow H' po vo = some (26, 4, [o.av]) ∧ getRow H' pd (vd + 1) = some (26, 4, ds.map Elem.av ++ [o.av]) ∧
   getRow H' o.q o.v = some (26, 4, o.k.map Elem.av)) ?_ (fun r h' ⟨a1, a2, a3, a4, a5, a6⟩ => by
    obtain ⟨K', w, f1, f2⟩ := close_weak0 (C := CT G) a3 a4 a5 a6 hod ko hn
    exact ⟨K', w [], ⟨a1.1.trans f1.1, Nat.le_trans a1.2 f1.2⟩, a2, po, vo, false, [], pd, vd + 1, f2, rfl⟩)
 have e1 : ((0 + 1 : Nat) : Int) - 1 = 0 := by omega
 have hbt : (o.n == o.n) = true := by simp
 have hsl : ∀ l, aslice Tryz.prog (H ++ l) 24 (.hs po vo 0 1 room) none (some (.int .i64 0)) (some (.int .i64 0)) = some (.hs po vo 0 0 false) := fun l =>
  aslice_hs3 (r := 0) (by simp only [go_sem]; rfl) (getRow_old ho) (by simp only [go_sem]) (by omega)
 skip
 refine Sat.body [.tmp 4] (fn := Tryz.f107) Tryz.func107 rfl rfl (by kernel_rfl) (by kernel_rfl) (by kernel_rfl) rfl ?_
 intro Q hQ
 (repeat (first | refine w1 (fun K hK => ?_) | refine w2 ?_ | refine w3 ?_ | ((first | refine w4 ?_ | refine WP_draw 18 (by decide +kernel) ?_ | refine WP_draw 17 (by decide +kernel) ?_ | refine WP_draw 7 (by decide +kernel) ?_ | refine w5 ?_ | refine w6 ?_ | refine w7 ?_); try refine sq10 hb ho hd (@bne_self_eq_false Int _ _) (@bne_self_eq_false Bool _ _) (@bne_self_eq_false Bs _ _) hbt e1 hsl heapF ?_) | (refine w8 ?_; refine sq10 hb ho hd (@bne_self_eq_false Int _ _) (@bne_self_eq_false Bool _ _) (@bne_self_eq_false Bs _ _) hbt e1 hsl heapF ?_; refine w9 ?_) | (refine rq10 hb ho hd (@bne_self_eq_false Int _ _) (@bne_self_eq_false Bool _ _) (@bne_self_eq_false Bs _ _) hbt e1 hsl heapF ?_; try refine sq10 hb ho hd (@bne_self_eq_false Int _ _) (@bne_self_eq_false Bool _ _) (@bne_self_eq_false Bs _ _) hbt e1 hsl heapF ?_) | (refine vq10 hb ho hd (@bne_self_eq_false Int _ _) (@bne_self_eq_false Bool _ _) (@bne_self_eq_false Bs _ _) hbt e1 hsl heapF ?_; try refine sq10 hb ho hd (@bne_self_eq_false Int _ _) (@bne_self_eq_false Bool _ _) (@bne_self_eq_false Bs _ _) hbt e1 hsl heapF ?_) | ((first | refine hK _ _ (w0 ?_) | (clear hK K; refine hK _ _ (w0 ?_)) | (clear hK K; clear hK K; refine hK _ _ (w0 ?_))); clear hK K)))
 (first | refine gq10 hb ho hd (@bne_self_eq_false Int _ _) (@bne_self_eq_false Bool _ _) (@bne_self_eq_false Bs _ _) hbt e1 hsl heapF (fun g1 => ?_) (fun g1 => ?_) | refine pq10 hb ho hd (@bne_self_eq_false Int _ _) (@bne_self_eq_false Bool _ _) (@bne_self_eq_false Bs _ _) hbt e1 hsl heapF (fun g1 => ?_) (fun g1 => ?_)) <;> (try exact g1.elim) <;> (try refine sq10 hb ho hd (@bne_self_eq_false Int _ _) (@bne_self_eq_false Bool _ _) (@bne_self_eq_false Bs _ _) hbt e1 hsl heapF ?_) <;>
  (repeat (first | refine w1 (fun K hK => ?_) | refine w2 ?_ | refine w3 ?_ | ((first | refine w4 ?_ | refine WP_draw 18 (by decide +kernel) ?_ | refine WP_draw 17 (by decide +kernel) ?_ | refine WP_draw 7 (by decide +kernel) ?_ | refine w5 ?_ | refine w6 ?_ | refine w7 ?_); try refine sq10 hb ho hd (@bne_self_eq_false Int _ _) (@bne_self_eq_false Bool _ _) (@bne_self_eq_false Bs _ _) hbt e1 hsl heapF ?_) | (refine w8 ?_; refine sq10 hb ho hd (@bne_self_eq_false Int _ _) (@bne_self_eq_false Bool _ _) (@bne_self_eq_false Bs _ _) hbt e1 hsl heapF ?_; refine w9 ?_) | (refine rq10 hb ho hd (@bne_self_eq_false Int _ _) (@bne_self_eq_false Bool _ _) (@bne_self_eq_false Bs _ _) hbt e1 hsl heapF ?_; try refine sq10 hb ho hd (@bne_self_eq_false Int _ _) (@bne_self_eq_false Bool _ _) (@bne_self_eq_false Bs _ _) hbt e1 hsl heapF ?_) | (refine vq10 hb ho hd (@bne_self_eq_false Int _ _) (@bne_self_eq_false Bool _ _) (@bne_self_eq_false Bs _ _) hbt e1 hsl heapF ?_; try refine sq10 hb ho hd (@bne_self_eq_false Int _ _) (@bne_self_eq_false Bool _ _) (@bne_self_eq_false Bs _ _) hbt e1 hsl heapF ?_) | ((first | refine hK _ _ (w0 ?_) | (clear hK K; refine hK _ _ (w0 ?_)) | (clear hK K; clear hK K; refine hK _ _ (w0 ?_))); clear hK K)))
 have tail : ∀ (t' : Env) (h' : Heap), FrN n0 H h' → H.length ≤ h'.length → getRow h' pb 0 = some (106, 2, [.agg [.hs po vo 0 0 false, .hs pd (vd + 1) 0 (ds.length + 1) true]]) →
   getRow h' po vo = some (26, 4, [o.av]) → getRow h' pd (vd + 1) = some (26, 4, ds.map Elem.av ++ [o.av]) →
   getRow h' o.q o.v = some (26, 4, o.k.map Elem.av) → K t' h' := by
  intro t' h' a1 a2 a4 a5 a6 a7
  refine hK _ _ (Wkn.refl ?_)
  clear hK K
  (repeat (first | refine w1 (fun K hK => ?_) | refine w2 ?_ | refine w3 ?_ | ((first | refine w4 ?_ | refine WP_draw 18 (by decide +kernel) ?_ | refine WP_draw 17 (by decide +kernel) ?_ | refine WP_draw 7 (by decide +kernel) ?_ | refine w5 ?_ | refine w6 ?_ | refine w7 ?_); try refine sq10 hb ho hd (@bne_self_eq_false Int _ _) (@bne_self_eq_false Bool _ _) (@bne_self_eq_false Bs _ _) hbt e1 hsl heapF ?_) | (refine w8 ?_; refine sq10 hb ho hd (@bne_self_eq_false Int _ _) (@bne_self_eq_false Bool _ _) (@bne_self_eq_false Bs _ _) hbt e1 hsl heapF ?_; refine w9 ?_) | (refine rq10 hb ho hd (@bne_self_eq_false Int _ _) (@bne_self_eq_false Bool _ _) (@bne_self_eq_false Bs _ _) hbt e1 hsl heapF ?_; try refine sq10 hb ho hd (@bne_self_eq_false Int _ _) (@bne_self_eq_false Bool _ _) (@bne_self_eq_false Bs _ _) hbt e1 hsl heapF ?_) | (refine vq10 hb ho hd (@bne_self_eq_false Int _ _) (@bne_self_eq_false Bool _ _) (@bne_self_eq_false Bs _ _) hbt e1 hsl heapF ?_; try refine sq10 hb ho hd (@bne_self_eq_false Int _ _) (@bne_self_eq_false Bool _ _) (@bne_self_eq_false Bs _ _) hbt e1 hsl heapF ?_) | ((first | refine hK _ _ (w0 ?_) | (clear hK K; refine hK _ _ (w0 ?_)) | (clear hK K; clear hK K; refine hK _ _ (w0 ?_))); clear hK K)))
  first | refine (hQ _ _ ?_).1 | refine (hQ _ _ ?_).2
  refine sq10 hb ho hd (@bne_self_eq_false Int _ _) (@bne_self_eq_false Bool _ _) (@bne_self_eq_false Bs _ _) hbt e1 hsl heapF ?_
  exact Fin.whole a2 (.bool _) ⟨⟨a1, a2⟩, rfl, a4, a5, a6, a7⟩
 have hlt1 : ds.length < ds.length + 1 := by omega
 have hg1 : ∀ x : AVal, (ds.map Elem.av ++ [x])[ds.length]? = some x := fun x => by simp
 have hs1 : ∀ x y : AVal, (ds.map Elem.av ++ [x]).set ds.length y = ds.map Elem.av ++ [y] := fun x y => by simp
 skip
 refine WP_draw6 7 (.one 7 (.two 8 (.two 9 (.one 10 (.one 11 (.one 12 .nil))) 10 (.two 9 (.one 11 (.one 12 .nil)) 11 (.two 9 (.one 12 .nil) 12 (.one 9 .nil)))) 10 (.two 8 (.two 9 (.one 11 (.one 12 .nil)) 11 (.two 9 (.one 12 .nil) 12 (.one 9 .nil))) 11 (.two 8 (.two 9 (.one 12 .nil) 12 (.one 9 .nil)) 12 (.one 8 (.one 9 .nil)))))) (by decide +kernel) (by kernel_rfl) (by decide +kernel) ?_
 simp only [List.take_succ_cons, List.take_zero]
 try refine sq13 hb ho hd (@bne_self_eq_false Int _ _) (@bne_self_eq_false Bool _ _) (@bne_self_eq_false Bs _ _) hbt e1 hsl hlt1 hg1 hs1 heapF ?_
 repeat' (first | refine WPt_nil ?_ | (refine WPt_one rfl ?_; refine sq13 hb ho hd (@bne_self_eq_false Int _ _) (@bne_self_eq_false Bool _ _) (@bne_self_eq_false Bs _ _) hbt e1 hsl hlt1 hg1 hs1 heapF ?_) | (refine WPt_two rfl rfl ?_ ?_ <;> refine sq13 hb ho hd (@bne_self_eq_false Int _ _) (@bne_self_eq_false Bool _ _) (@bne_self_eq_false Bs _ _) hbt e1 hsl hlt1 hg1 hs1 heapF ?_))
 refine vq13 hb ho hd (@bne_self_eq_false Int _ _) (@bne_self_eq_false Bool _ _) (@bne_self_eq_false Bs _ _) hbt e1 hsl hlt1 hg1 hs1 heapF ?_; try refine sq13 hb ho hd (@bne_self_eq_false Int _ _) (@bne_self_eq_false Bool _ _) (@bne_self_eq_false Bs _ _) hbt e1 hsl hlt1 hg1 hs1 heapF ?_
 repeat' (first | refine WPt_nil ?_ | (refine WPt_one rfl ?_; refine sq13 hb ho hd (@bne_self_eq_false Int _ _) (@bne_self_eq_false Bool _ _) (@bne_self_eq_false Bs _ _) hbt e1 hsl hlt1 hg1 hs1 heapF ?_) | (refine WPt_two rfl rfl ?_ ?_ <;> refine sq13 hb ho hd (@bne_self_eq_false Int _ _) (@bne_self_eq_false Bool _ _) (@bne_self_eq_false Bs _ _) hbt e1 hsl hlt1 hg1 hs1 heapF ?_))
 refine aq13 hb ho hd (@bne_self_eq_false Int _ _) (@bne_self_eq_false Bool _ _) (@bne_self_eq_false Bs _ _) hbt e1 hsl hlt1 hg1 hs1 heapF ?_
 try refine sq13 hb ho hd (@bne_self_eq_false Int _ _) (@bne_self_eq_false Bool _ _) (@bne_self_eq_false Bs _ _) hbt e1 hsl hlt1 hg1 hs1 heapF ?_
 (repeat (first | refine w1 (fun K hK => ?_) | refine w2 ?_ | refine w3 ?_ | ((first | refine w4 ?_ | refine WP_draw 18 (by decide +kernel) ?_ | refine WP_draw 17 (by decide +kernel) ?_ | refine WP_draw 7 (by decide +kernel) ?_ | refine w5 ?_ | refine w6 ?_ | refine w7 ?_); try refine sq13 hb ho hd (@bne_self_eq_false Int _ _) (@bne_self_eq_false Bool _ _) (@bne_self_eq_false Bs _ _) hbt e1 hsl hlt1 hg1 hs1 heapF ?_) | (refine w8 ?_; refine sq13 hb ho hd (@bne_self_eq_false Int _ _) (@bne_self_eq_false Bool _ _) (@bne_self_eq_false Bs _ _) hbt e1 hsl hlt1 hg1 hs1 heapF ?_; refine w9 ?_) | (refine rq13 hb ho hd (@bne_self_eq_false Int _ _) (@bne_self_eq_false Bool _ _) (@bne_self_eq_false Bs _ _) hbt e1 hsl hlt1 hg1 hs1 heapF ?_; try refine sq13 hb ho hd (@bne_self_eq_false Int _ _) (@bne_self_eq_false Bool _ _) (@bne_self_eq_false Bs _ _) hbt e1 hsl hlt1 hg1 hs1 heapF ?_) | (refine vq13 hb ho hd (@bne_self_eq_false Int _ _) (@bne_self_eq_false Bool _ _) (@bne_self_eq_false Bs _ _) hbt e1 hsl hlt1 hg1 hs1 heapF ?_; try refine sq13 hb ho hd (@bne_self_eq_false Int _ _) (@bne_self_eq_false Bool _ _) (@bne_self_eq_false Bs _ _) hbt e1 hsl hlt1 hg1 hs1 heapF ?_)))
 repeat' (first | refine WPt_nil ?_ | (refine WPt_one rfl ?_; refine sq13 hb ho hd (@bne_self_eq_false Int _ _) (@bne_self_eq_false Bool _ _) (@bne_self_eq_false Bs _ _) hbt e1 hsl hlt1 hg1 hs1 heapF ?_) | (refine WPt_two rfl rfl ?_ ?_ <;> refine sq13 hb ho hd (@bne_self_eq_false Int _ _) (@bne_self_eq_false Bool _ _) (@bne_self_eq_false Bs _ _) hbt e1 hsl hlt1 hg1 hs1 heapF ?_))
 all_goals (
  show K _ _
  refine tail _ _ ?_ ?_ ?_ ?_ ?_ ?_
  ·repeat (first | exact FrN.refl _ _ | refine FrN.set _ (by omega) ?_ | refine FrN.app _ (by simp; omega) ?_)
  ·simp
  ·exact zq13 hb ho hd (@bne_self_eq_false Int _ _) (@bne_self_eq_false Bool _ _) (@bne_self_eq_false Bs _ _) hbt e1 hsl hlt1 hg1 hs1 heapF
  ·exact zq13 hb ho hd (@bne_self_eq_false Int _ _) (@bne_self_eq_false Bool _ _) (@bne_self_eq_false Bs _ _) hbt e1 hsl hlt1 hg1 hs1 heapF
  ·exact zq13 hb ho hd (@bne_self_eq_false Int _ _) (@bne_self_eq_false Bool _ _) (@bne_self_eq_false Bs _ _) hbt e1 hsl hlt1 hg1 hs1 heapF
  ·simp (disch := first | omega | (simp only [go_sem, ↓reduceIte, seval]; first | done | omega) | fail) only [go_sem, ↓reduceIte, seval, hb, ho, hd, gs_ne, gs_eq, gs_old, gs_new, gs_new0, st_old, st_new, st_new0, List.set_set, bne_self_eq_false, hbt, e1, hsl, hlt1, hg1, hs1]
   exact hk)
end Go.Av
