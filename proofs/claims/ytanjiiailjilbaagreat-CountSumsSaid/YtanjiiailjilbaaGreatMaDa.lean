/- Moments: which are there (date.Of). -/
import Derived.Test.YtanjiiailjilbaaGreatMaHd
import Derived.Test.YtanjiiailjilbaaGreatMaDr3
set_option linter.unusedSimpArgs false
set_option linter.unusedVariables false
set_option linter.unusedSectionVars false
namespace Go.Av
open Go Go.Proofs Go.RowKit Go.Lib
set_option maxRecDepth 100000
section
variable {C : Ctx} {B : Nat} {S : Addr → Prop} {μ : Map} {h : Heap} {w w' : World}
theorem fits_own (f : Fits C B S μ h w) (hb : Below w.heap.size w w') {g cap : Nat} {cur : Array Value} {e : TypeId} {ls : List Bs} (hg : w.heap.size ≤ g) (hheap : w'.heap[g]? = some (.cells cur e (0, 0)))
  (hn : ls.length ≤ cap) (h0 : 0 < cap) (hm : cap ≤ maxLen) (hsz : cur.size = cap) (hget : ∀ (i : Nat) (a : Bs), ls[i]? = some a → cur[i]? = some (.string ⟨a.toArray⟩)) :
  Fits C B S (μ ++ [⟨some g, 0, 1, cap⟩]) (h ++ [.row e 1 0 (ls.map .str)]) w' ∧ Step B S μ w S (μ ++ [⟨some g, 0, 1, cap⟩]) w' := by
 obtain ⟨f', st⟩ := f.grown hb
 have hgl : g < w'.heap.size := (Array.getElem?_eq_some_iff.1 hheap).1
 have st2 : Step B S μ w' S (μ ++ [⟨some g, 0, 1, cap⟩]) w' := ⟨fun a ha => ha, fun _ _ => rfl, Below.refl _ _, mapLe_append _ _, fun a ha => .inl ha⟩
 refine ⟨⟨fun g' cs hg' => (f'.glob g' cs hg').mono st2, by simp [f'.len], ?_, ?_, f'.base, f'.lie, ?_⟩, st.trans st2⟩
 ·intro p q m1 m2 b h1 h2 e1 e2
  rcases getElem?_snoc h1 with k1 | ⟨k1, rfl⟩ <;> rcases getElem?_snoc h2 with k2 | ⟨k2, rfl⟩
  ·exact f'.sep p q m1 m2 b k1 k2 e1 e2
  ·have := (f.own p m1 b k1 e1).2.1; cases e2; omega
  ·have := (f.own q m2 b k2 e2).2.1; cases e1; omega
  ·rw [k1, k2]
 ·intro p m1 b h1 e1
  rcases getElem?_snoc h1 with k1 | ⟨k1, rfl⟩
  ·exact f'.own p m1 b k1 e1
  ·cases e1
   exact ⟨Nat.le_trans f.base hg, hgl, fun a ha => by have := f.lie a ha; omega⟩
 ·intro p m1 k1 h1 h2
  rcases getElem?_snoc h1 with a1 | ⟨a1, rfl⟩
  ·have hp : p < h.length := by have := (List.getElem?_eq_some_iff.1 a1).1; rw [f.len] at this; exact this
   rw [List.getElem?_append_left hp] at h2
   exact (f'.blk p m1 k1 a1 h2).mono st2 fun _ _ => rfl
  ·rw [a1, f.len, List.getElem?_append_right (Nat.le_refl _)] at h2
   simp at h2
   subst h2
   refine ⟨rfl, rfl, by omega, fun i r hr => ?_, fun i r j c hr hc => ?_, .inr ⟨g, cur, rfl, hheap, by simp [hsz], ⟨h0, by simpa using hn⟩, hm, fun i r j c hr hc => ?_⟩⟩
   ·obtain ⟨a, _, rfl⟩ := List.mem_map.1 (List.mem_of_getElem? hr); rfl
   ·obtain ⟨a, _, rfl⟩ := List.mem_map.1 (List.mem_of_getElem? hr)
    match j with
    | 0 => simp [AVal.cells] at hc; subst hc; rfl
    | j + 1 => simp [AVal.cells] at hc
   ·rw [List.getElem?_map] at hr
    obtain ⟨a, ha, rfl⟩ := Option.map_eq_some_iff.1 hr
    match j with
    | 0 =>
     simp [AVal.cells] at hc; subst hc
     exact ⟨_, by simpa using hget i a ha, .str _⟩
    | j + 1 => simp [AVal.cells] at hc
end
variable (G : Nat → Option (List AVal))
def fldsF (s : Bs) : List Bs := (goFieldsP (fun r => !letF r) ⟨s.toArray⟩).map fun b => b.data.toList
theorem Fields_sat (s : Bs) (hs : s.length ≤ 1000000) (h : Heap) : Sat (CT G) 251 [.str s, .fn (.func 253) [] []] h
  (fun r h' => (fldsF s = [] ∧ r = .sl 1 [] ∧ h' = h) ∨ (fldsF s ≠ [] ∧ r = .hs h.length 0 0 (fldsF s).length true ∧ h' = h ++ [.row 9 1 0 ((fldsF s).map .str)])) := by
 intro B S μ w us fit rl
 obtain ⟨hul, hur⟩ := rl
 match us, hul, hur with
 | [v0, v1], _, hur =>
  have r0 : Rep w S μ (.str s) v0 := hur 0 _ rfl
  have r1 : Rep w S μ (.fn (.func 253) [] []) v1 := hur 1 _ rfl
  obtain rfl := r0.str_inv
  obtain rfl : v1 = .func (.func 253) #[] #[] := by
   cases r1 with
   | fn _ _ _ xv cv h1 h2 h3 h4 =>
    match xv, cv, h1, h2 with
    | [], [], _, _ => rfl
  change OpOk Tryz.prog _ ((callFunc 251 #[Value.string ⟨s.toArray⟩, Value.func (Fn.func 253) #[] #[]]).run Tryz.prog w)
  rw [run_enter (f := 251) Tryz.func251 rfl rfl]
  refine (Tryz.strings_FieldsFunc 253 #[] (enters_of Tryz.func253 (by kernel_rfl) rfl) _ ⟨s.toArray⟩ w (by simp [ByteArray.size]; omega) (sep_gives w)).mono fun e w' ⟨A, he, hA, hrow, hbel⟩ => ?_
  refine ⟨_, he, ?_⟩
  have hlen : (fldsF s).length = (goFieldsP (fun r => !letF r) ⟨s.toArray⟩).length := by unfold fldsF; rw [List.length_map]
  have hmap : (goFieldsP (fun r => !letF r) ⟨s.toArray⟩).map Value.string = (fldsF s).map fun a => Value.string ⟨a.toArray⟩ := by
   unfold fldsF
   rw [List.map_map]
   exact List.map_congr_left fun b _ => by simp
  rw [hmap] at hrow
  rw [← hlen] at hrow he ⊢
  obtain ⟨_, ho⟩ := hrow
  rcases ho with ⟨h1, _⟩ | ⟨g, cap, cur, h1, hg, hheap, hn, hm, hsz, htk⟩
  ·cases h1
  ·cases h1
   by_cases hl : fldsF s = []
   ·obtain ⟨f', st⟩ := fit.grown hbel
    rw [hl]
    exact ⟨.sl 1 [], h, S, μ, .inl ⟨rfl, rfl, rfl⟩, st, f', .sl0 1 _ _⟩
   ·have hp := List.length_pos_iff.2 hl
    have hget : ∀ (i : Nat) (a : Bs), (fldsF s)[i]? = some a → cur[i]? = some (.string ⟨a.toArray⟩) := fun i a ha => by
     have hi : i < (fldsF s).length := (List.getElem?_eq_some_iff.1 ha).1
     have h2 : (cur.toList.take ((fldsF s).length * 1))[i]? = some (.string ⟨a.toArray⟩) := by rw [htk, List.getElem?_map, ha]; rfl
     rw [List.getElem?_take_of_lt (by omega)] at h2
     simpa using h2
    obtain ⟨f', st⟩ := fits_own fit hbel hg hheap hn (by omega) hm (by simpa using hsz) hget
    refine ⟨.hs h.length 0 0 (fldsF s).length true, _, S, _, .inr ⟨hl, rfl, rfl⟩, st, f', ?_⟩
    refine .hs _ _ _ _ _ ⟨some A, 0, 1, (fldsF s).length⟩ _ (by rw [← fit.len]; simp) (Nat.le_refl _) (fun cs h => by cases h) rfl (fun _ => .inr ⟨A, rfl, by simp, by simp⟩)
end Go.Av
namespace Go.Av
open Go Go.Proofs Go.RowKit
set_option maxRecDepth 100000
set_option maxHeartbeats 1000000
theorem dec_drop (s : Bs) (k : Nat) : dec s k = dec (s.drop k) 0 := by
 rw [dec_N, dec_N]
 simp only [List.getD_eq_getElem?_getD, List.getElem?_drop, List.length_drop, Nat.add_zero, Nat.zero_add, Nat.sub_zero, Nat.add_assoc]
theorem dec_rune (s : Bs) (k : Nat) (h : k < s.length) : Rune (dec s k).1 := by
 have hb := List.getElem?_eq_getElem h
 by_cases ha : s[k].toNat < 128
 ·rw [dec_ascii s k _ hb ha]; exact ⟨by simp, by simp; omega⟩
 ·obtain ⟨h1, h2, _⟩ := dec_high s k _ hb (by omega)
  exact ⟨by omega, by omega⟩
def runesN : Nat → Bs → List Int
 | 0, _ => []
 | f + 1, s => if s = [] then [] else ((dec s 0).1 : Int) :: runesN f (s.drop (dec s 0).2)
def runesF (s : Bs) : List Int := runesN s.length s
theorem runesN_fuel : ∀ (f : Nat) (s : Bs), s.length ≤ f → runesN f s = runesN s.length s := by
 intro f
 induction f using Nat.strongRecOn with
 | ind f ih =>
  intro s hs
  cases s with
  | nil => cases f <;> rfl
  | cons b t =>
   obtain ⟨f, rfl⟩ : ∃ g, f = g + 1 := ⟨f - 1, by simp at hs; omega⟩
   have hd := dec_pos (b :: t) 0 (by simp)
   simp only [List.length_cons] at hs hd ⊢
   rw [runesN, runesN, if_neg (by simp), if_neg (by simp)]
   have hl : ((b :: t).drop (dec (b :: t) 0).2).length ≤ t.length := by simp only [List.length_drop, List.length_cons]; omega
   rw [ih f (by omega) _ (by omega)]
   by_cases hf : t.length = f
   ·subst hf; rw [ih t.length (by omega) _ hl]
   ·rw [ih t.length (by omega) _ hl]
theorem runesF_nil : runesF [] = [] := rfl
theorem runesF_step (s : Bs) (h : s ≠ []) : runesF s = ((dec s 0).1 : Int) :: runesF (s.drop (dec s 0).2) := by
 have hl : 0 < s.length := List.length_pos_iff.2 h
 have hd := dec_pos s 0 hl
 unfold runesF
 obtain ⟨n, hn⟩ : ∃ n, s.length = n + 1 := ⟨s.length - 1, by omega⟩
 rw [hn, runesN, if_neg h, runesN_fuel n _ (by simp only [List.length_drop]; omega)]
theorem runesF_at (s : Bs) (k : Nat) (h : k < s.length) : runesF (s.drop k) = ((dec s k).1 : Int) :: runesF (s.drop (k + (dec s k).2)) := by
 rw [runesF_step _ (by intro e; have := congrArg List.length e; simp at this; omega), ← dec_drop, List.drop_drop]
theorem runesF_end (s : Bs) (k : Nat) (h : s.length ≤ k) : runesF (s.drop k) = [] := by
 rw [List.drop_of_length_le h]; rfl
theorem runesF_len : ∀ (n : Nat) (s : Bs), s.length ≤ n → (runesF s).length ≤ s.length := by
 intro n
 induction n with
 | zero => intro s h; have : s = [] := List.length_eq_zero_iff.1 (by omega); subst this; simp [runesF_nil]
 | succ n ih =>
  intro s h
  by_cases h0 : s = []
  ·subst h0; simp [runesF_nil]
  ·have hd := dec_pos s 0 (List.length_pos_iff.2 h0)
   rw [runesF_step s h0]
   have := ih (s.drop (dec s 0).2) (by simp only [List.length_drop]; omega)
   simp only [List.length_drop] at this
   simp only [List.length_cons]; omega
def blankR (c : Int) : Bool := decide (c = 9 ∨ c = 10 ∨ c = 13 ∨ c = 32 ∨ c = 160 ∨ c = 8232 ∨ c = 8233 ∨ c = 12288)
def ctlR (c : Int) : Bool := decide (c < 32 ∨ (127 ≤ c ∧ c ≤ 159))
def clnR : List Int → List Int → Bool → List Int
 | [], o, _ => o
 | c :: t, o, w => if blankR c then clnR t o (decide (0 < o.length)) else if ctlR c then clnR t o w else clnR t (o ++ (if w then [32, c] else [c])) false
def cleanR (s : Bs) : List Int := clnR (runesF s) [] false
def encs (l : List Int) : Bs := l.flatMap enc
def cleanF (s : Bs) : Bs := encs (cleanR s)
theorem enc_pos (r : Int) : 1 ≤ (enc r).length := by
 rw [enc_fix]; simp only []; repeat (first | split | simp)
theorem encs_len (l : List Int) : (encs l).length ≤ 4 * l.length ∧ l.length ≤ (encs l).length := by
 induction l with
 | nil => simp [encs]
 | cons c t ih =>
  have h1 := enc_len c
  have h2 := enc_pos c
  simp only [encs, List.flatMap_cons, List.length_append, List.length_cons] at ih ⊢; omega
def rightN : Nat → Bs → Bool
 | 0, _ => true
 | f + 1, s => if s = [] then true else if (dec s 0).1 = 65533 ∧ (dec s 0).2 = 1 then false else rightN f (s.drop (dec s 0).2)
def rightS (s : Bs) : Bool := rightN s.length s
theorem rightN_fuel : ∀ (f : Nat) (s : Bs), s.length ≤ f → rightN f s = rightN s.length s := by
 intro f
 induction f using Nat.strongRecOn with
 | ind f ih =>
  intro s hs
  cases s with
  | nil => cases f <;> rfl
  | cons b t =>
   obtain ⟨f, rfl⟩ : ∃ g, f = g + 1 := ⟨f - 1, by simp at hs; omega⟩
   have hd := dec_pos (b :: t) 0 (by simp)
   simp only [List.length_cons] at hs hd ⊢
   rw [rightN, rightN, if_neg (show ¬ (b :: t) = [] by simp), if_neg (show ¬ (b :: t) = [] by simp)]
   have hl : ((b :: t).drop (dec (b :: t) 0).2).length ≤ t.length := by simp only [List.length_drop, List.length_cons]; omega
   rw [ih f (by omega) _ (by omega), ih t.length (by omega) _ hl]
theorem rightS_step (s : Bs) (h : s ≠ []) : rightS s = if (dec s 0).1 = 65533 ∧ (dec s 0).2 = 1 then false else rightS (s.drop (dec s 0).2) := by
 have hl : 0 < s.length := List.length_pos_iff.2 h
 have hd := dec_pos s 0 hl
 unfold rightS
 obtain ⟨n, hn⟩ : ∃ n, s.length = n + 1 := ⟨s.length - 1, by omega⟩
 rw [hn, rightN, if_neg h, rightN_fuel n _ (by simp only [List.length_drop]; omega)]
theorem rightS_at (s : Bs) (k : Nat) (h : k < s.length) : rightS (s.drop k) = if (dec s k).1 = 65533 ∧ (dec s k).2 = 1 then false else rightS (s.drop (k + (dec s k).2)) := by
 rw [rightS_step _ (by intro e; have := congrArg List.length e; simp at this; omega), ← dec_drop, List.drop_drop]
theorem decodeN_bad (n b0 b1 b2 b3 : Nat) (h1 : b1 < 256) (h2 : b2 < 256) (h0 : b0 < 256) (h : (Lib.decodeN n b0 b1 b2 b3).1 = 65533) : (Lib.decodeN n b0 b1 b2 b3).2 = 1 ↔ ¬ (3 ≤ n ∧ b0 = 239 ∧ b1 = 191 ∧ b2 = 189) := by
 unfold Lib.decodeN at *
 by_cases c1 : b0 < 128
 ·rw [if_pos c1] at *; simp only [] at *; omega
 rw [if_neg c1] at *
 by_cases c2 : (b0 / 32 = 6 ∧ (1 < n ∧ b1 / 64 = 2))
 ·rw [if_pos c2] at *
  by_cases c3 : b0 % 32 * 64 + b1 % 64 ≥ 128
  ·rw [if_pos c3] at *; simp only [] at *; omega
  ·rw [if_neg c3] at *; exact ⟨fun _ hc => by omega, fun _ => rfl⟩
 rw [if_neg c2] at *
 by_cases c4 : b0 / 16 = 14 ∧ (1 < n ∧ b1 / 64 = 2) ∧ (2 < n ∧ b2 / 64 = 2)
 ·rw [if_pos c4] at *
  by_cases c5 : (b0 % 16 * 4096 + b1 % 64 * 64 + b2 % 64 ≥ 2048 ∧ (b0 % 16 * 4096 + b1 % 64 * 64 + b2 % 64 < 55296 ∨ (57344 ≤ b0 % 16 * 4096 + b1 % 64 * 64 + b2 % 64 ∧ b0 % 16 * 4096 + b1 % 64 * 64 + b2 % 64 ≤ 1114111)))
  ·rw [if_pos c5] at *; simp only [] at *; omega
  ·rw [if_neg c5] at *; exact ⟨fun _ hc => by omega, fun _ => rfl⟩
 rw [if_neg c4] at *
 by_cases c6 : b0 / 8 = 30 ∧ (1 < n ∧ b1 / 64 = 2) ∧ (2 < n ∧ b2 / 64 = 2) ∧ (3 < n ∧ b3 / 64 = 2)
 ·rw [if_pos c6] at *
  by_cases c7 : (b0 % 8 * 262144 + b1 % 64 * 4096 + b2 % 64 * 64 + b3 % 64 ≥ 65536 ∧ (b0 % 8 * 262144 + b1 % 64 * 4096 + b2 % 64 * 64 + b3 % 64 < 55296 ∨ (57344 ≤ b0 % 8 * 262144 + b1 % 64 * 4096 + b2 % 64 * 64 + b3 % 64 ∧ b0 % 8 * 262144 + b1 % 64 * 4096 + b2 % 64 * 64 + b3 % 64 ≤ 1114111)))
  ·rw [if_pos c7] at *; simp only [] at *; omega
  ·rw [if_neg c7] at *; exact ⟨fun _ hc => by omega, fun _ => rfl⟩
 ·rw [if_neg c6] at *; exact ⟨fun _ hc => by omega, fun _ => rfl⟩
theorem pre3 (u : Bs) : Lib.hasPrefix u [239, 191, 189] = true ↔ (3 ≤ u.length ∧ (u.getD 0 0).toNat = 239 ∧ (u.getD 1 0).toNat = 191 ∧ (u.getD 2 0).toNat = 189) := by
 have key : ∀ (x : UInt8) (n : Nat), n < 256 → (x.toNat = n ↔ x = UInt8.ofNat n) := fun x n h => by rw [← UInt8.toNat_inj, toNat_ofNat n h]
 match u with
 | [] => simp [Lib.hasPrefix]
 | [a] => simp [Lib.hasPrefix]
 | [a, b] => simp [Lib.hasPrefix]
 | a :: b :: c :: t =>
  simp only [List.getD_cons_zero, List.getD_cons_succ, List.length_cons]
  rw [key a 239 (by omega), key b 191 (by omega), key c 189 (by omega)]
  unfold Lib.hasPrefix
  simp only [List.isPrefixOf, Bool.and_eq_true, beq_iff_eq]
  constructor
  ·rintro ⟨rfl, rfl, rfl, _⟩; exact ⟨by omega, rfl, rfl, rfl⟩
  ·rintro ⟨_, rfl, rfl, rfl⟩; exact ⟨rfl, rfl, rfl, trivial⟩
theorem dec_bad3 (s : Bs) (k : Nat) (hd : (dec s k).1 = 65533) : (dec s k).2 = 1 ↔ Lib.hasPrefix (s.drop k) [239, 191, 189] = false := by
 rw [dec_drop] at *
 generalize s.drop k = u at *
 rw [← Bool.not_eq_true, pre3]
 rw [dec_N] at *
 exact decodeN_bad _ _ _ _ _ (UInt8.toNat_lt _) (UInt8.toNat_lt _) (UInt8.toNat_lt _) hd
end Go.Av
namespace Go.Av
open Go Go.Proofs Go.RowKit
attribute [local irreducible] WP WPl WPix Sat
set_option maxRecDepth 100000
set_option maxHeartbeats 1000000
variable (G : Nat → Option (List AVal))
theorem PBlank_sat (c : Int) (h : Heap) : Sat (CT G) 277 [.int .i32 c] h (fun r h' => r = .bool (blankR c) ∧ h' = h) := by
 have yes : (c = 9 ∨ c = 10 ∨ c = 13 ∨ c = 32 ∨ c = 160 ∨ c = 8232 ∨ c = 8233 ∨ c = 12288) → blankR c = true := fun h => decide_eq_true h
 have no : ¬ (c = 9 ∨ c = 10 ∨ c = 13 ∨ c = 32 ∨ c = 160 ∨ c = 8232 ∨ c = 8233 ∨ c = 12288) → blankR c = false := fun h => decide_eq_false h
 refine sb [.tmp 2] (fn := Tryz.f277) Tryz.func277 ?_
 intro Q hQ
 refine wk trivial ?_
 refine cq trivial (fun c0 => ?_) (fun c0 => ?_) <;> (try exact c0.elim) <;> (refine wk trivial ?_)
 ·refine cq trivial (fun d => ?_) (fun d => ?_) <;> (try exact d.elim) <;> (refine wk trivial ?_)
  ·refine ee hQ trivial ?_
   refine fR (.bool _) ?_
   rw [yes (by omega)]
  ·exfalso; omega
 refine cq trivial (fun c1 => ?_) (fun c1 => ?_) <;> (try exact c1.elim) <;> (refine wk trivial ?_)
 ·refine cq trivial (fun d => ?_) (fun d => ?_) <;> (try exact d.elim) <;> (refine wk trivial ?_)
  ·refine ee hQ trivial ?_
   refine fR (.bool _) ?_
   rw [yes (by omega)]
  ·exfalso; omega
 refine cq trivial (fun c2 => ?_) (fun c2 => ?_) <;> (try exact c2.elim) <;> (refine wk trivial ?_)
 ·refine cq trivial (fun d => ?_) (fun d => ?_) <;> (try exact d.elim) <;> (refine wk trivial ?_)
  ·refine ee hQ trivial ?_
   refine fR (.bool _) ?_
   rw [yes (by omega)]
  ·exfalso; omega
 refine cq trivial (fun c3 => ?_) (fun c3 => ?_) <;> (try exact c3.elim) <;> (refine wk trivial ?_)
 ·refine cq trivial (fun d => ?_) (fun d => ?_) <;> (try exact d.elim) <;> (refine wk trivial ?_)
  ·refine ee hQ trivial ?_
   refine fR (.bool _) ?_
   rw [yes (by omega)]
  ·exfalso; omega
 refine cq trivial (fun c4 => ?_) (fun c4 => ?_) <;> (try exact c4.elim) <;> (refine wk trivial ?_)
 ·refine cq trivial (fun d => ?_) (fun d => ?_) <;> (try exact d.elim) <;> (refine wk trivial ?_)
  ·refine ee hQ trivial ?_
   refine fR (.bool _) ?_
   rw [yes (by omega)]
  ·exfalso; omega
 refine cq trivial (fun c5 => ?_) (fun c5 => ?_) <;> (try exact c5.elim) <;> (refine wk trivial ?_)
 ·refine cq trivial (fun d => ?_) (fun d => ?_) <;> (try exact d.elim) <;> (refine wk trivial ?_)
  ·refine ee hQ trivial ?_
   refine fR (.bool _) ?_
   rw [yes (by omega)]
  ·exfalso; omega
 refine cq trivial (fun c6 => ?_) (fun c6 => ?_) <;> (try exact c6.elim) <;> (refine wk trivial ?_)
 ·refine cq trivial (fun d => ?_) (fun d => ?_) <;> (try exact d.elim) <;> (refine wk trivial ?_)
  ·refine ee hQ trivial ?_
   refine fR (.bool _) ?_
   rw [yes (by omega)]
  ·exfalso; omega
 refine cq trivial (fun d => ?_) (fun d => ?_) <;> (try exact d.elim) <;> (refine wk trivial ?_)
 ·refine ee hQ trivial ?_
  refine fR (.bool _) ?_
  rw [yes (by omega)]
 ·refine ee hQ trivial ?_
  refine fR (.bool _) ?_
  rw [no (by omega)]
theorem Pcontrol_sat (c : Int) (h : Heap) : Sat (CT G) 279 [.int .i32 c] h (fun r h' => r = .bool (ctlR c) ∧ h' = h) := by
 refine sb [.tmp 2] (fn := Tryz.f279) Tryz.func279 ?_
 intro Q hQ
 refine wk trivial ?_
 (first | refine gq trivial (fun g1 => ?_) (fun g1 => ?_) | refine pq trivial (fun g1 => ?_) (fun g1 => ?_)) <;> (try exact g1.elim) <;> (try refine sq trivial ?_) <;> (refine wk trivial ?_)
 ·refine ee hQ trivial ?_
  refine fR (.bool _) ?_
  rw [show ctlR c = true from decide_eq_true (.inl g1)]
 ·(first | refine gq trivial (fun g2 => ?_) (fun g2 => ?_) | refine pq trivial (fun g2 => ?_) (fun g2 => ?_)) <;> (try exact g2.elim) <;> (try refine sq trivial ?_) <;> (refine wk trivial ?_)
  ·refine ee hQ trivial ?_
   refine fR (.bool _) ?_
   unfold ctlR
   congr 1
   rw [Bool.eq_iff_iff]; simp; omega
  ·refine ee hQ trivial ?_
   refine fR (.bool _) ?_
   rw [show ctlR c = false from decide_eq_false (by omega)]
theorem getIter2 (h j : Heap) (a : AVal) (v : Nat) (o s : Bs) (q : Nat) : (bldH h (Blk.iter s q :: j) a v o)[h.length + 2]? = some (.iter s q) := by
 unfold bldH; rw [List.getElem?_append_right (by omega), show h.length + 2 - h.length = 2 by omega]; rfl
theorem setIter2 (h j : Heap) (a : AVal) (v : Nat) (o : Bs) (x y : Blk) : (bldH h (x :: j) a v o).set (h.length + 2) y = bldH h (y :: j) a v o := by
 unfold bldH; rw [List.set_append_right _ _ (by omega), show h.length + 2 - h.length = 2 by omega]; rfl
theorem PClean_sat (s : Bs) (hs : s.length ≤ 100000000) (h : Heap) : Sat (CT G) 264 [.str s] h (fun r h' => r = .str (cleanF s) ∧ h' = h) := by
 have F := @setIter2
 refine sb [.tmp 2] (fn := Tryz.f264) Tryz.func264 ?_
 intro Q hQ
 (repeat (first | refine w1 (fun K hK => ?_) | refine w2 ?_ | refine w3 ?_ | ((first | refine w4 ?_ | refine wD ?_ | refine w5 ?_ | refine w6 ?_ | refine w7 ?_); try refine sq F ?_) | (refine w8 ?_; refine sq F ?_; refine w9 ?_)))
 refine hK _ _ (Wkn.refl ?_)
 clear hK K
 (repeat (first | refine w1 (fun K hK => ?_) | refine w2 ?_ | refine w3 ?_ | ((first | refine w4 ?_ | refine wD ?_ | refine w5 ?_ | refine w6 ?_ | refine w7 ?_); try refine sq F ?_) | (refine w8 ?_; refine sq F ?_; refine w9 ?_)))
 refine hK _ _ ⟨_, _, Weak.virtCell (p := h.length) (v := 0) 5 1 (by omega) (by simp (disch := first | omega | (simp only [go_sem, ↓reduceIte, seval]; first | done | omega) | fail) only [go_sem, ↓reduceIte, seval, F]; rfl) 1 rfl, ?_⟩
 clear hK K
 (repeat (first | refine w1 (fun K hK => ?_) | refine w2 ?_ | refine w3 ?_ | ((first | refine w4 ?_ | refine wD ?_ | refine w5 ?_ | refine w6 ?_ | refine w7 ?_); try refine sq F ?_) | (refine w8 ?_; refine sq F ?_; refine w9 ?_) | ((first | refine hK _ _ (w0 ?_) | (clear hK K; refine hK _ _ (w0 ?_)) | (clear hK K; clear hK K; refine hK _ _ (w0 ?_))); clear hK K)))
 refine lm (fun nL tL hL => ∃ (a : AVal) (v k : Nat) (out : List Int) (w : Bool), s.length - k = nL ∧ bldH h [.iter s k] a v (encs out) = hL ∧ tL 4 = .bool w ∧ bldA a h.length ∧ k ≤ s.length ∧ clnR (runesF (s.drop k)) out w = cleanR s ∧ (encs out).length + 8 * (s.length - k) ≤ 8 * s.length) ((fun (a : AVal) (v k : Nat) (out : List Int) (w : Bool) => (s.length - k : Nat)) ((.nil (.pointer none))) (0) (0) ([]) (false)) ?_ ?_
 ·refine Wkn.refl ⟨(.nil (.pointer none)), 0, 0, [], false, rfl, by simp [bldH, bldR, bufR, encs], ?_, .inl rfl, by omega, rfl, by simp [encs]⟩
  all_goals first | exact zq F | rfl | omega | trivial | skip
 rintro _ s2 h' ⟨a, v, k, out, w, rfl, rfl, e4, ha, hk, hv, hl⟩ K2 hK2
 simp only [mix_cons, mix_nil, Nat.reduceEqDiff, ↓reduceIte] at e4
 have F := F2 F e4
 (repeat (first | refine w1 (fun K hK => ?_) | refine w2 ?_ | refine w3 ?_ | ((first | refine w4 ?_ | refine wD ?_ | refine w5 ?_ | refine w6 ?_ | refine w7 ?_); try refine sq F ?_) | (refine w8 ?_; refine sq F ?_; refine w9 ?_) | ((first | refine hK _ _ (w0 ?_) | (clear hK K; refine hK _ _ (w0 ?_)) | (clear hK K; clear hK K; refine hK _ _ (w0 ?_))); clear hK K)))
 refine nextK_at (getIter2 _ _ _ _ _ _ _) (fun hlt => ?_) (fun hge => ?_)
 ·have hR := dec_rune s k hlt
  have hp := dec_pos s k hlt
  rw [runesF_at s k hlt, clnR] at hv
  rw [show Utf8.decode ⟨s.toArray⟩ k = dec s k from rfl]
  generalize dec s k = d at *
  obtain ⟨c, m⟩ := d
  simp only [] at hR hp hv ⊢
  try refine sq F ?_
  (repeat (first | refine w1 (fun K hK => ?_) | refine w2 ?_ | refine w3 ?_ | ((first | refine w4 ?_ | refine wD ?_ | refine w5 ?_ | refine w6 ?_ | refine w7 ?_); try refine sq F ?_) | (refine w8 ?_; refine sq F ?_; refine w9 ?_) | ((first | refine hK _ _ (w0 ?_) | (clear hK K; refine hK _ _ (w0 ?_)) | (clear hK K; clear hK K; refine hK _ _ (w0 ?_))); clear hK K)))
  refine (PBlank_sat G c _).mono ?_
  rintro r h' ⟨rfl, rfl⟩
  try refine sq F ?_
  (repeat (first | refine w1 (fun K hK => ?_) | refine w2 ?_ | refine w3 ?_ | ((first | refine w4 ?_ | refine wD ?_ | refine w5 ?_ | refine w6 ?_ | refine w7 ?_); try refine sq F ?_) | (refine w8 ?_; refine sq F ?_; refine w9 ?_) | ((first | refine hK _ _ (w0 ?_) | (clear hK K; refine hK _ _ (w0 ?_)) | (clear hK K; clear hK K; refine hK _ _ (w0 ?_))); clear hK K)))
  refine cq F (fun c1 => ?_) (fun c1 => ?_) <;> (try exact c1.elim) <;> ((repeat (first | refine w1 (fun K hK => ?_) | refine w2 ?_ | refine w3 ?_ | ((first | refine w4 ?_ | refine wD ?_ | refine w5 ?_ | refine w6 ?_ | refine w7 ?_); try refine sq F ?_) | (refine w8 ?_; refine sq F ?_; refine w9 ?_) | ((first | refine hK _ _ (w0 ?_) | (clear hK K; refine hK _ _ (w0 ?_)) | (clear hK K; clear hK K; refine hK _ _ (w0 ?_))); clear hK K))))
  ·rw [if_pos c1] at hv
   refine (Len_sat G a h [.iter s (k + m)] v (encs out)).mono ?_
   rintro r h' ⟨rfl, rfl⟩
   try refine sq F ?_
   (repeat (first | refine w1 (fun K hK => ?_) | refine w2 ?_ | refine w3 ?_ | ((first | refine w4 ?_ | refine wD ?_ | refine w5 ?_ | refine w6 ?_ | refine w7 ?_); try refine sq F ?_) | (refine w8 ?_; refine sq F ?_; refine w9 ?_) | ((first | refine hK _ _ (w0 ?_) | (clear hK K; refine hK _ _ (w0 ?_)) | (clear hK K; clear hK K; refine hK _ _ (w0 ?_))); clear hK K)))
   have ho : decide (((encs out).length : Int) > 0) = decide (0 < out.length) := by
    have := encs_len out
    rw [Bool.eq_iff_iff]; simp only [decide_eq_true_eq]; omega
   have F := F2 F ho
   try refine sq F ?_
   refine hK2 _ _ _ (Wkn.refl ⟨a, v, k + m, out, decide (0 < out.length), rfl, hpE, ?_, ha, by omega, hv, by omega⟩) (by omega)
   all_goals first | exact zq F | rfl | omega | trivial | skip
  ·rw [if_neg (by simp [c1])] at hv
   refine (Pcontrol_sat G c _).mono ?_
   rintro r h' ⟨rfl, rfl⟩
   try refine sq F ?_
   (repeat (first | refine w1 (fun K hK => ?_) | refine w2 ?_ | refine w3 ?_ | ((first | refine w4 ?_ | refine wD ?_ | refine w5 ?_ | refine w6 ?_ | refine w7 ?_); try refine sq F ?_) | (refine w8 ?_; refine sq F ?_; refine w9 ?_) | ((first | refine hK _ _ (w0 ?_) | (clear hK K; refine hK _ _ (w0 ?_)) | (clear hK K; clear hK K; refine hK _ _ (w0 ?_))); clear hK K)))
   refine cq F (fun c2 => ?_) (fun c2 => ?_) <;> (try exact c2.elim) <;> ((repeat (first | refine w1 (fun K hK => ?_) | refine w2 ?_ | refine w3 ?_ | ((first | refine w4 ?_ | refine wD ?_ | refine w5 ?_ | refine w6 ?_ | refine w7 ?_); try refine sq F ?_) | (refine w8 ?_; refine sq F ?_; refine w9 ?_) | ((first | refine hK _ _ (w0 ?_) | (clear hK K; refine hK _ _ (w0 ?_)) | (clear hK K; clear hK K; refine hK _ _ (w0 ?_))); clear hK K))))
   ·rw [if_pos c2] at hv
    refine hK2 _ _ _ (Wkn.refl ⟨a, v, k + m, out, w, rfl, hpE, ?_, ha, by omega, hv, by omega⟩) (by omega)
    all_goals first | exact zq F | rfl | omega | trivial | skip
   ·rw [if_neg (by simp [c2])] at hv
    have he := enc_len c
    have e1 : encs (out ++ [32, (c : Int)]) = encs out ++ [32] ++ enc c := by
     simp only [encs, List.flatMap_append, List.flatMap_cons, List.flatMap_nil, List.append_nil, List.append_assoc]; rfl
    have e2 : encs (out ++ [(c : Int)]) = encs out ++ enc c := by
     simp only [encs, List.flatMap_append, List.flatMap_cons, List.flatMap_nil, List.append_nil]
    refine cq F (fun c3 => ?_) (fun c3 => ?_) <;> (try exact c3.elim) <;> ((repeat (first | refine w1 (fun K hK => ?_) | refine w2 ?_ | refine w3 ?_ | ((first | refine w4 ?_ | refine wD ?_ | refine w5 ?_ | refine w6 ?_ | refine w7 ?_); try refine sq F ?_) | (refine w8 ?_; refine sq F ?_; refine w9 ?_) | ((first | refine hK _ _ (w0 ?_) | (clear hK K; refine hK _ _ (w0 ?_)) | (clear hK K; clear hK K; refine hK _ _ (w0 ?_))); clear hK K))))
    ·rw [if_pos c3] at hv
     refine (WriteByte_sat G a h [.iter s (k + m)] v (encs out) 32 ha (by omega)).mono ?_
     rintro r h' ⟨rfl, rfl⟩
     try refine sq F ?_
     (repeat (first | refine w1 (fun K hK => ?_) | refine w2 ?_ | refine w3 ?_ | ((first | refine w4 ?_ | refine wD ?_ | refine w5 ?_ | refine w6 ?_ | refine w7 ?_); try refine sq F ?_) | (refine w8 ?_; refine sq F ?_; refine w9 ?_) | ((first | refine hK _ _ (w0 ?_) | (clear hK K; refine hK _ _ (w0 ?_)) | (clear hK K; clear hK K; refine hK _ _ (w0 ?_))); clear hK K)))
     refine (WriteRune_sat G (.hp h.length 0 0 0) c hR h [.iter s (k + m)] (v + 1) (encs out ++ [32]) (.inr rfl) (by simp only [List.length_append, List.length_cons, List.length_nil]; omega)).mono ?_
     rintro r h' ⟨rfl, rfl⟩
     try refine sq F ?_
     (repeat (first | refine w1 (fun K hK => ?_) | refine w2 ?_ | refine w3 ?_ | ((first | refine w4 ?_ | refine wD ?_ | refine w5 ?_ | refine w6 ?_ | refine w7 ?_); try refine sq F ?_) | (refine w8 ?_; refine sq F ?_; refine w9 ?_) | ((first | refine hK _ _ (w0 ?_) | (clear hK K; refine hK _ _ (w0 ?_)) | (clear hK K; clear hK K; refine hK _ _ (w0 ?_))); clear hK K)))
     refine hK2 _ _ _ (Wkn.refl ⟨(.hp h.length 0 0 0), v + 1 + 1, k + m, out ++ [32, (c : Int)], false, rfl, by rw [e1]; simp, ?_, .inr rfl, by omega, hv, by rw [e1]; simp only [List.length_append, List.length_cons, List.length_nil]; omega⟩) (by omega)
     all_goals first | exact zq F | rfl | omega | trivial | skip
    ·rw [if_neg (by simp [c3])] at hv
     refine (WriteRune_sat G a c hR h [.iter s (k + m)] v (encs out) ha (by omega)).mono ?_
     rintro r h' ⟨rfl, rfl⟩
     try refine sq F ?_
     (repeat (first | refine w1 (fun K hK => ?_) | refine w2 ?_ | refine w3 ?_ | ((first | refine w4 ?_ | refine wD ?_ | refine w5 ?_ | refine w6 ?_ | refine w7 ?_); try refine sq F ?_) | (refine w8 ?_; refine sq F ?_; refine w9 ?_) | ((first | refine hK _ _ (w0 ?_) | (clear hK K; refine hK _ _ (w0 ?_)) | (clear hK K; clear hK K; refine hK _ _ (w0 ?_))); clear hK K)))
     refine hK2 _ _ _ (Wkn.refl ⟨(.hp h.length 0 0 0), v + 1, k + m, out ++ [(c : Int)], false, rfl, by rw [e2], ?_, .inr rfl, by omega, hv, by rw [e2]; simp only [List.length_append]; omega⟩) (by omega)
     all_goals first | exact zq F | rfl | omega | trivial | skip
 ·rw [runesF_end s k (by omega)] at hv
  try refine sq F ?_
  (repeat (first | refine w1 (fun K hK => ?_) | refine w2 ?_ | refine w3 ?_ | ((first | refine w4 ?_ | refine wD ?_ | refine w5 ?_ | refine w6 ?_ | refine w7 ?_); try refine sq F ?_) | (refine w8 ?_; refine sq F ?_; refine w9 ?_) | ((first | refine hK _ _ (w0 ?_) | (clear hK K; refine hK _ _ (w0 ?_)) | (clear hK K; clear hK K; refine hK _ _ (w0 ?_))); clear hK K)))
  refine (String_sat G a h [.iter s k] v (encs out)).mono ?_
  rintro r h' ⟨rfl, b2, rfl⟩
  try refine sq F ?_
  (repeat (first | refine w1 (fun K hK => ?_) | refine w2 ?_ | refine w3 ?_ | ((first | refine w4 ?_ | refine wD ?_ | refine w5 ?_ | refine w6 ?_ | refine w7 ?_); try refine sq F ?_) | (refine w8 ?_; refine sq F ?_; refine w9 ?_) | ((first | refine hK _ _ (w0 ?_) | (clear hK K; refine hK _ _ (w0 ?_)) | (clear hK K; clear hK K; refine hK _ _ (w0 ?_))); clear hK K)))
  refine ee hQ F ?_
  exact Fin.plainE (j := [bldR a (h.length + 1) v (encs out), b2, .iter s k]) (by simp) (.str _) ⟨congrArg AVal.str (by unfold cleanF; rw [← hv]; rfl), rfl⟩
theorem PRight_sat (s : Bs) (hs : s.length ≤ 1073741824) (h : Heap) : Sat (CT G) 263 [.str s] h (fun r h' => r = .bool (rightS s) ∧ h' = h) := by
 refine sb [.tmp 2] (fn := Tryz.f263) Tryz.func263 ?_
 intro Q hQ
 refine wk trivial ?_
 refine lm (fun nL tL hL => ∃ (k : Nat), s.length - k = nL ∧ h ++ [.iter s k] = hL ∧ k ≤ s.length ∧ rightS (s.drop k) = rightS s) ((fun (k : Nat) => (s.length - k : Nat)) (0)) ?_ ?_
 ·refine Wkn.refl ⟨0, rfl, hpE, by omega, rfl⟩
  all_goals first | exact zq trivial | rfl | omega | trivial | skip
 rintro _ s2 h' ⟨k, rfl, rfl, hk, hc⟩ K2 hK2
 refine wk trivial ?_
 refine nextK_at (getIter _ _ _ _) (fun hlt => ?_) (fun hge => ?_)
 ·have hp := dec_pos s k hlt
  have hca := rightS_at s k hlt
  have h3 := dec_bad3 s k
  rw [hc] at hca
  rw [show Utf8.decode ⟨s.toArray⟩ k = dec s k from rfl]
  generalize dec s k = d at *
  obtain ⟨c, m⟩ := d
  simp only [] at hp hca h3 ⊢
  try refine sq trivial ?_
  refine wk trivial ?_
  (first | refine gq trivial (fun g1 => ?_) (fun g1 => ?_) | refine pq trivial (fun g1 => ?_) (fun g1 => ?_)) <;> (try exact g1.elim) <;> (try refine sq trivial ?_) <;> (refine wk trivial ?_)
  ·have g0 : c = 65533 := by omega
   have h4 := h3 g0
   refine kq trivial (HasPrefix_sat G (s.drop k) [239, 191, 189] _) ?_
   refine cq trivial (fun g2 => ?_) (fun g2 => ?_) <;> (try exact g2.elim) <;> (refine wk trivial ?_)
   ·refine ee hQ trivial ?_
    refine fR (.bool _) ?_
    rw [hca, if_pos ⟨g0, h4.2 (by simpa using g2)⟩]
   ·refine hK2 _ _ _ (Wkn.refl ⟨k + m, rfl, hpE, by omega, by rw [hca, if_neg]; rintro ⟨_, h5⟩; have := h4.1 h5; rw [this] at g2; cases g2⟩) (by omega)
    all_goals first | exact zq trivial | rfl | omega | trivial | skip
  ·refine hK2 _ _ _ (Wkn.refl ⟨k + m, rfl, hpE, by omega, by rw [hca, if_neg]; rintro ⟨h5, _⟩; exact g1 (by omega)⟩) (by omega)
   all_goals first | exact zq trivial | rfl | omega | trivial | skip
 ·rw [List.drop_of_length_le (by omega)] at hc
  try refine sq trivial ?_
  refine wk trivial ?_
  refine ee hQ trivial ?_
  refine fR (.bool _) ?_
  rw [← hc]; rfl
end Go.Av
namespace Go.Av
open Go Go.Proofs Go.RowKit
theorem mixT (G : Nat → Option (List AVal)) : (CT G).P.follows .mixedOrders = true := by kernel_rfl
theorem WP_drawW {C : Ctx} {t : Env} {h : Heap} {id : Nat} {l : List Oper} {Q : Exit → Env → Heap → Prop} (hok : preOkG false l.toArray l.length = true) (hm : C.P.follows .mixedOrders = true)
  (hh : WPp C l.toArray l t h fun t' => Q .normal t' h) : WP C (.region id l.toArray true) Q t h := by
 have D := preOkG_spec hok
 obtain ⟨V, hv, hK⟩ := WPp_vals _ _ hh
 have htk : l.toArray.toList.take l.length = l := by simp
 have main : ∀ n, WPix C l.toArray Q (Region.linearise .any l.toArray n) t h := fun n => by
  unfold Region.linearise
  refine pre_sound2 D .any D.less (by simp) (V := V) (t0 := t) (fun _ => True) (fun i o hi _ => by rw [htk] at hi ⊢; exact hv i o hi) (fun n => ?_) _ _ _ _ (by simp) ?_ (fun j oj hj hl => ?_) (fun j hj hl => ?_) (fun _ _ _ => trivial) (Ag.start _ _ _ _ fun j hj => ?_)
  ·rw [htk]
   have e1 : l.toArray.size - l.length = 0 := by simp
   rw [e1]
   exact Rest.nil hK .any n
  ·unfold left
   have : (List.range l.toArray.size).filter (fun i => !(Array.replicate l.toArray.size false).getD i true) = List.range l.toArray.size := by
    rw [List.filter_eq_self]
    intro i hi
    have := List.mem_range.1 hi
    simp at this ⊢
    simp [this]
   rw [this, List.length_range]
  ·have h8 := (Array.getElem?_eq_some_iff.1 hj).1
   simp at h8 hl
   simp [h8] at hl
  ·simp at hj hl
   simp [hj] at hl
  ·have : j < l.length := by omega
   simp [this]
 show ∀ tp, WPix C l.toArray Q (Region.schedule (C.P.follows .mixedOrders) l.toArray tp) t h
 intro tp
 unfold Region.schedule
 rw [hm]
 simp only [Bool.true_or, if_true]
 exact main _
end Go.Av
namespace Go.Av
open Go Go.Proofs Go.RowKit
attribute [local irreducible] WP WPl WPix Sat
set_option maxRecDepth 100000
set_option maxHeartbeats 2000000
variable (G : Nat → Option (List AVal))
def btw (c a b : Int) : Bool := decide (a ≤ c) && decide (c ≤ b)
theorem Pbetween_sat (c a b : Int) (h : Heap) : Sat (CT G) 286 [.int .i32 c, .int .i32 a, .int .i32 b] h (fun r h' => r = .bool (btw c a b) ∧ h' = h) := by
 by_cases k : a ≤ c
 ·have k2 : decide (c ≥ a) = true := by simpa using k
  have F := k2
  refine sb [.tmp 6] (fn := Tryz.f286) Tryz.func286 ?_
  intro Q hQ
  refine wk F ?_
  refine ee hQ F ?_
  exact Fin.same (.bool _) ⟨by simp [btw, k], rfl⟩
 ·have k2 : decide (c ≥ a) = false := by simpa using k
  have F := k2
  refine sb [.tmp 6] (fn := Tryz.f286) Tryz.func286 ?_
  intro Q hQ
  refine wk F ?_
  refine ee hQ F ?_
  exact Fin.same (.bool _) ⟨by simp [btw, k], rfl⟩
def foldR (c : Int) : Int :=
 if c = 215 ∨ c = 930 then c else if btw c 65 90 ∨ btw c 192 222 ∨ btw c 913 937 ∨ btw c 1040 1071 then c + 32 else if btw c 1024 1039 then c + 80 else c
theorem foldR_rune {c : Int} (h : Rune c) : Rune (foldR c) := by
 unfold foldR btw
 simp only [Bool.and_eq_true, decide_eq_true_eq]
 unfold Rune at *
 split
 ·exact h
 ·split
  ·omega
  ·split <;> omega
theorem Pfold_sat (c : Int) (hc : Rune c) (h : Heap) : Sat (CT G) 273 [.int .i32 c] h (fun r h' => r = .int .i32 (foldR c) ∧ h' = h) := by
 have c0 : 0 ≤ c ∧ c ≤ 1114111 := by unfold Rune at hc; omega
 obtain ⟨c1, c2⟩ := c0
 by_cases k1 : c = 215
 ·subst k1
  refine sb [.tmp 2] (fn := Tryz.f273) Tryz.func273 ?_
  intro Q hQ
  refine wk trivial ?_
  refine ee hQ trivial ?_
  exact Fin.same (.int _ _) ⟨rfl, rfl⟩
 by_cases k2 : c = 930
 ·subst k2
  refine sb [.tmp 2] (fn := Tryz.f273) Tryz.func273 ?_
  intro Q hQ
  refine wk trivial ?_
  refine ee hQ trivial ?_
  exact Fin.same (.int _ _) ⟨rfl, rfl⟩
 have w32 : IntKind.i32.wrap (c + 32) = c + 32 := wrap32_in (by omega) (by omega)
 have w80 : IntKind.i32.wrap (c + 80) = c + 80 := wrap32_in (by omega) (by omega)
 have n1 : (c == 215) = false := by simp [k1]
 have n2 : (c == 930) = false := by simp [k2]
 have b1 := Pbetween_sat G c 65 90
 have b2 := Pbetween_sat G c 192 222
 have b3 := Pbetween_sat G c 913 937
 have b4 := Pbetween_sat G c 1040 1071
 have b5 := Pbetween_sat G c 1024 1039
 cases h1 : btw c 65 90
 ·cases h2 : btw c 192 222
  ·cases h3 : btw c 913 937
   ·cases h4 : btw c 1040 1071
    ·cases h5 : btw c 1024 1039
     ·rw [h1] at b1; rw [h2] at b2; rw [h3] at b3; rw [h4] at b4; rw [h5] at b5
      have F := F2 n1 n2
      refine sb [.tmp 2] (fn := Tryz.f273) Tryz.func273 ?_
      intro Q hQ
      refine wk F ?_
      refine kq F (b1 _) ?_
      refine kq F (b2 _) ?_
      refine kq F (b3 _) ?_
      refine kq F (b4 _) ?_
      refine kq F (b5 _) ?_
      refine ee hQ F ?_
      exact Fin.same (.int _ _) ⟨by simp [foldR, k1, k2, h1, h2, h3, h4, h5, w32, w80], rfl⟩
     ·rw [h1] at b1; rw [h2] at b2; rw [h3] at b3; rw [h4] at b4; rw [h5] at b5
      have F := F2 n1 n2
      refine sb [.tmp 2] (fn := Tryz.f273) Tryz.func273 ?_
      intro Q hQ
      refine wk F ?_
      refine kq F (b1 _) ?_
      refine kq F (b2 _) ?_
      refine kq F (b3 _) ?_
      refine kq F (b4 _) ?_
      refine kq F (b5 _) ?_
      refine ee hQ F ?_
      exact Fin.same (.int _ _) ⟨by simp [foldR, k1, k2, h1, h2, h3, h4, h5, w32, w80], rfl⟩
    ·rw [h1] at b1; rw [h2] at b2; rw [h3] at b3; rw [h4] at b4
     have F := F2 n1 n2
     refine sb [.tmp 2] (fn := Tryz.f273) Tryz.func273 ?_
     intro Q hQ
     refine wk F ?_
     refine kq F (b1 _) ?_
     refine kq F (b2 _) ?_
     refine kq F (b3 _) ?_
     refine kq F (b4 _) ?_
     refine ee hQ F ?_
     exact Fin.same (.int _ _) ⟨by simp [foldR, k1, k2, h1, h2, h3, h4, w32], rfl⟩
   ·rw [h1] at b1; rw [h2] at b2; rw [h3] at b3
    have F := F2 n1 n2
    refine sb [.tmp 2] (fn := Tryz.f273) Tryz.func273 ?_
    intro Q hQ
    refine wk F ?_
    refine kq F (b1 _) ?_
    refine kq F (b2 _) ?_
    refine kq F (b3 _) ?_
    refine ee hQ F ?_
    exact Fin.same (.int _ _) ⟨by simp [foldR, k1, k2, h1, h2, h3, w32], rfl⟩
  ·rw [h1] at b1; rw [h2] at b2
   have F := F2 n1 n2
   refine sb [.tmp 2] (fn := Tryz.f273) Tryz.func273 ?_
   intro Q hQ
   refine wk F ?_
   refine kq F (b1 _) ?_
   refine kq F (b2 _) ?_
   refine ee hQ F ?_
   exact Fin.same (.int _ _) ⟨by simp [foldR, k1, k2, h1, h2, w32], rfl⟩
 ·rw [h1] at b1
  have F := F2 n1 n2
  refine sb [.tmp 2] (fn := Tryz.f273) Tryz.func273 ?_
  intro Q hQ
  refine wk F ?_
  refine kq F (b1 _) ?_
  refine ee hQ F ?_
  exact Fin.same (.int _ _) ⟨by simp [foldR, k1, k2, h1, w32], rfl⟩
def foldS (s : Bs) : Bs := encs ((runesF s).map foldR)
theorem PFold_sat (s : Bs) (hs : s.length ≤ 1000000) (h : Heap) : Sat (CT G) 252 [.str s] h (fun r h' => r = .str (foldS s) ∧ h' = h) := by
 have F := @setIter2
 refine sb [.tmp 2] (fn := Tryz.f252) Tryz.func252 ?_
 intro Q hQ
 (repeat (first | refine w1 (fun K hK => ?_) | refine w2 ?_ | refine w3 ?_ | ((first | refine w4 ?_ | refine wD ?_ | refine w5 ?_ | refine w6 ?_ | refine w7 ?_); try refine sq F ?_) | (refine w8 ?_; refine sq F ?_; refine w9 ?_)))
 refine hK _ _ (Wkn.refl ?_)
 clear hK K
 (repeat (first | refine w1 (fun K hK => ?_) | refine w2 ?_ | refine w3 ?_ | ((first | refine w4 ?_ | refine wD ?_ | refine w5 ?_ | refine w6 ?_ | refine w7 ?_); try refine sq F ?_) | (refine w8 ?_; refine sq F ?_; refine w9 ?_)))
 refine hK _ _ ⟨_, _, Weak.virtCell (p := h.length) (v := 0) 5 1 (by omega) (by simp (disch := first | omega | (simp only [go_sem, ↓reduceIte, seval]; first | done | omega) | fail) only [go_sem, ↓reduceIte, seval, F]; rfl) 1 rfl, ?_⟩
 clear hK K
 (repeat (first | refine w1 (fun K hK => ?_) | refine w2 ?_ | refine w3 ?_ | ((first | refine w4 ?_ | refine wD ?_ | refine w5 ?_ | refine w6 ?_ | refine w7 ?_); try refine sq F ?_) | (refine w8 ?_; refine sq F ?_; refine w9 ?_) | ((first | refine hK _ _ (w0 ?_) | (clear hK K; refine hK _ _ (w0 ?_)) | (clear hK K; clear hK K; refine hK _ _ (w0 ?_))); clear hK K)))
 refine lm (fun nL tL hL => ∃ (a : AVal) (v k : Nat) (out : List Int), s.length - k = nL ∧ bldH h [.iter s k] a v (encs out) = hL ∧ bldA a h.length ∧ k ≤ s.length ∧ out ++ (runesF (s.drop k)).map foldR = (runesF s).map foldR ∧ (encs out).length + 4 * (s.length - k) ≤ 4 * s.length) ((fun (a : AVal) (v k : Nat) (out : List Int) => (s.length - k : Nat)) ((.nil (.pointer none))) (0) (0) ([])) ?_ ?_
 ·refine Wkn.refl ⟨(.nil (.pointer none)), 0, 0, [], rfl, by simp [bldH, bldR, bufR, encs], .inl rfl, by omega, by simp, by simp [encs]⟩
  all_goals first | exact zq F | rfl | omega | trivial | skip
 rintro _ s2 h' ⟨a, v, k, out, rfl, rfl, ha, hk, hv, hl⟩ K2 hK2
 (repeat (first | refine w1 (fun K hK => ?_) | refine w2 ?_ | refine w3 ?_ | ((first | refine w4 ?_ | refine wD ?_ | refine w5 ?_ | refine w6 ?_ | refine w7 ?_); try refine sq F ?_) | (refine w8 ?_; refine sq F ?_; refine w9 ?_) | ((first | refine hK _ _ (w0 ?_) | (clear hK K; refine hK _ _ (w0 ?_)) | (clear hK K; clear hK K; refine hK _ _ (w0 ?_))); clear hK K)))
 refine nextK_at (getIter2 _ _ _ _ _ _ _) (fun hlt => ?_) (fun hge => ?_)
 ·have hR := dec_rune s k hlt
  have hp := dec_pos s k hlt
  rw [runesF_at s k hlt, List.map_cons] at hv
  rw [show Utf8.decode ⟨s.toArray⟩ k = dec s k from rfl]
  generalize dec s k = d at *
  obtain ⟨c, m⟩ := d
  simp only [] at hR hp hv ⊢
  have hR2 := foldR_rune hR
  have he := enc_len (foldR c)
  have e2 : encs (out ++ [foldR c]) = encs out ++ enc (foldR c) := by
   simp only [encs, List.flatMap_append, List.flatMap_cons, List.flatMap_nil, List.append_nil]
  try refine sq F ?_
  (repeat (first | refine w1 (fun K hK => ?_) | refine w2 ?_ | refine w3 ?_ | ((first | refine w4 ?_ | refine wD ?_ | refine w5 ?_ | refine w6 ?_ | refine w7 ?_); try refine sq F ?_) | (refine w8 ?_; refine sq F ?_; refine w9 ?_) | ((first | refine hK _ _ (w0 ?_) | (clear hK K; refine hK _ _ (w0 ?_)) | (clear hK K; clear hK K; refine hK _ _ (w0 ?_))); clear hK K)))
  refine (Pfold_sat G c hR _).mono ?_
  rintro r h' ⟨rfl, rfl⟩
  try refine sq F ?_
  (repeat (first | refine w1 (fun K hK => ?_) | refine w2 ?_ | refine w3 ?_ | ((first | refine w4 ?_ | refine wD ?_ | refine w5 ?_ | refine w6 ?_ | refine w7 ?_); try refine sq F ?_) | (refine w8 ?_; refine sq F ?_; refine w9 ?_) | ((first | refine hK _ _ (w0 ?_) | (clear hK K; refine hK _ _ (w0 ?_)) | (clear hK K; clear hK K; refine hK _ _ (w0 ?_))); clear hK K)))
  refine (WriteRune_sat G a (foldR c) hR2 h [.iter s (k + m)] v (encs out) ha (by omega)).mono ?_
  rintro r h' ⟨rfl, rfl⟩
  try refine sq F ?_
  (repeat (first | refine w1 (fun K hK => ?_) | refine w2 ?_ | refine w3 ?_ | ((first | refine w4 ?_ | refine wD ?_ | refine w5 ?_ | refine w6 ?_ | refine w7 ?_); try refine sq F ?_) | (refine w8 ?_; refine sq F ?_; refine w9 ?_) | ((first | refine hK _ _ (w0 ?_) | (clear hK K; refine hK _ _ (w0 ?_)) | (clear hK K; clear hK K; refine hK _ _ (w0 ?_))); clear hK K)))
  refine hK2 _ _ _ (Wkn.refl ⟨(.hp h.length 0 0 0), v + 1, k + m, out ++ [foldR c], rfl, by rw [e2], .inr rfl, by omega, by rw [← hv]; simp, by rw [e2]; simp only [List.length_append]; omega⟩) (by omega)
  all_goals first | exact zq F | rfl | omega | trivial | skip
 ·rw [runesF_end s k (by omega)] at hv
  try refine sq F ?_
  (repeat (first | refine w1 (fun K hK => ?_) | refine w2 ?_ | refine w3 ?_ | ((first | refine w4 ?_ | refine wD ?_ | refine w5 ?_ | refine w6 ?_ | refine w7 ?_); try refine sq F ?_) | (refine w8 ?_; refine sq F ?_; refine w9 ?_) | ((first | refine hK _ _ (w0 ?_) | (clear hK K; refine hK _ _ (w0 ?_)) | (clear hK K; clear hK K; refine hK _ _ (w0 ?_))); clear hK K)))
  refine (String_sat G a h [.iter s k] v (encs out)).mono ?_
  rintro r h' ⟨rfl, b2, rfl⟩
  try refine sq F ?_
  (repeat (first | refine w1 (fun K hK => ?_) | refine w2 ?_ | refine w3 ?_ | ((first | refine w4 ?_ | refine wD ?_ | refine w5 ?_ | refine w6 ?_ | refine w7 ?_); try refine sq F ?_) | (refine w8 ?_; refine sq F ?_; refine w9 ?_) | ((first | refine hK _ _ (w0 ?_) | (clear hK K; refine hK _ _ (w0 ?_)) | (clear hK K; clear hK K; refine hK _ _ (w0 ?_))); clear hK K)))
  refine ee hQ F ?_
  exact Fin.plainE (j := [bldR a (h.length + 1) v (encs out), b2, .iter s k]) (by simp) (.str _) ⟨congrArg AVal.str (by unfold foldS; rw [← hv]; simp), rfl⟩
theorem foldS_len (s : Bs) : (foldS s).length ≤ 4 * s.length := by
 unfold foldS
 have h1 := (encs_len ((runesF s).map foldR)).1
 have h2 := runesF_len s.length s (Nat.le_refl _)
 rw [List.length_map] at h1
 omega
end Go.Av
namespace Go.Av
open Go Go.Proofs Go.RowKit
attribute [local irreducible] WP WPl WPix Sat
set_option maxRecDepth 100000
set_option maxHeartbeats 1000000
variable (G : Nat → Option (List AVal))
def PS.within (s : PS) (id : Int) : Bool := decide (id = 0) || (lkM s.fo id).isSome
theorem PSwithin_sat (s : PS) (id : Int) {H : Heap} {n : Nat} (hn : n + 9 ≤ H.length) : Sat (CT G) 93 [.hp (n + 8) 0 0 0, .int .i64 id] (so H n s) (fun r h' => r = .bool (s.within id) ∧ h' = so H n s) := by
 refine sb [.tmp 4] (fn := Tryz.f93) Tryz.func93 ?_
 intro Q hQ
 refine wk trivial ?_
 (first | refine gq trivial (fun g => ?_) (fun g => ?_) | refine pq trivial (fun g => ?_) (fun g => ?_)) <;> (try exact g.elim) <;> (try refine sq trivial ?_) <;> (refine wk trivial ?_)
 ·refine ee hQ trivial ?_
  exact so_fin hn (.bool _) ⟨by simp [PS.within, g], rfl⟩
 ·refine ee hQ trivial ?_
  exact so_fin hn (.bool _) ⟨by simp [PS.within, g], rfl⟩
def PS.hold (s : PS) (id k : Int) : PS := if id = 0 then s else { s with he := upM s.he s.c8 id ((lkM s.he id).getD 0 + k), c8 := ckM s.he s.c8 id }
theorem PShold_sat (s : PS) (id k : Int) (hk : -1000000 ≤ (lkM s.he id).getD 0 ∧ (lkM s.he id).getD 0 ≤ 1000000) (hk' : -1 ≤ k ∧ k ≤ 1) {H : Heap} {n : Nat} (hn : n + 9 ≤ H.length) : Sat (CT G) 52 [.hp (n + 8) 0 0 0, .int .i64 id, .int .i64 k] (so H n s) (fun r h' => r = .tup [] ∧ h' = so H n (s.hold id k)) := by
 refine sb [] (fn := Tryz.f52) Tryz.func52 ?_
 intro Q hQ
 refine wk trivial ?_
 refine cq trivial (fun c => ?_) (fun c => ?_) <;> (try exact c.elim) <;> (refine wk trivial ?_)
 ·refine ee hQ trivial ?_
  exact so_fin0 hn (.tup _ (by simp)) ⟨rfl, by rw [PS.hold, if_neg (by omega)]⟩
 ·refine ee hQ trivial ?_
  exact so_fin0 hn (.tup _ (by simp)) ⟨rfl, by rw [PS.hold, if_pos (by omega)]⟩
def PS.raise (s : PS) (k : Nat) (id : Int) : PS := match k with
 | 0 => { s with t1 := if id > s.t1 then id else s.t1 }
 | 1 => { s with t2 := if id > s.t2 then id else s.t2 }
 | 2 => { s with t3 := if id > s.t3 then id else s.t3 }
 | _ => { s with t4 := if id > s.t4 then id else s.t4 }
theorem PSraise_sat (s : PS) (k : Nat) (id : Int) (hk : k < 4) {H : Heap} {n : Nat} (hn : n + 9 ≤ H.length) : Sat (CT G) 99 [.hp (n + 8) 0 0 0, .int .i64 (k : Int), .int .i64 id] (so H n s) (fun r h' => r = .tup [] ∧ h' = so H n (s.raise k id)) := by
 match k, hk with
 | 0, _ =>
  refine sb [] (fn := Tryz.f99) Tryz.func99 ?_
  intro Q hQ
  refine wk trivial ?_
  refine ee hQ trivial ?_
  exact so_fin0 hn (.tup _ (by simp)) ⟨rfl, by simp only [PS.raise, decide_eq_true_eq]⟩
 | 1, _ =>
  refine sb [] (fn := Tryz.f99) Tryz.func99 ?_
  intro Q hQ
  refine wk trivial ?_
  refine ee hQ trivial ?_
  exact so_fin0 hn (.tup _ (by simp)) ⟨rfl, by simp only [PS.raise, decide_eq_true_eq]⟩
 | 2, _ =>
  refine sb [] (fn := Tryz.f99) Tryz.func99 ?_
  intro Q hQ
  refine wk trivial ?_
  refine ee hQ trivial ?_
  exact so_fin0 hn (.tup _ (by simp)) ⟨rfl, by simp only [PS.raise, decide_eq_true_eq]⟩
 | 3, _ =>
  refine sb [] (fn := Tryz.f99) Tryz.func99 ?_
  intro Q hQ
  refine wk trivial ?_
  refine ee hQ trivial ?_
  exact so_fin0 hn (.tup _ (by simp)) ⟨rfl, by simp only [PS.raise, decide_eq_true_eq]⟩
def deepO (l : ML Int Fo) : Nat → Int → Option Nat
 | 0, id => if (lkM l id).isSome then none else some 0
 | k + 1, id => match lkM l id with
  | none => some 0
  | some f => (deepO l k f.inn).map (· + 1)
theorem PSDeep_sat (s : PS) (id : Int) (k d : Nat) (hd : deepO s.fo k id = some d) (hk : d ≤ 1000) {H : Heap} {n : Nat} (hn : n + 9 ≤ H.length) : Sat (CT G) 94 [.hp (n + 8) 0 0 0, .int .i64 id] (so H n s) (fun r h' => r = .int .i64 d ∧ h' = so H n s) := by
 have step : ∀ (k m : Nat) (id : Int), deepO s.fo k id = some (d - m) → m ≤ d → ((lkM s.fo id).isSome = true ∧ m + 1 ≤ d ∧ ∃ k, deepO s.fo k ((lkM s.fo id).getD Fo.z).inn = some (d - (m + 1))) ∨ ((lkM s.fo id).isSome = false ∧ m = d) := by
  intro k m id h hm
  cases k with
  | zero =>
   rw [deepO] at h
   cases hl : lkM s.fo id with
   | none => rw [hl] at h; simp at h; exact .inr ⟨rfl, by omega⟩
   | some f => rw [hl] at h; simp at h
  | succ k =>
   rw [deepO] at h
   cases hl : lkM s.fo id with
   | none => rw [hl] at h; simp at h; exact .inr ⟨rfl, by omega⟩
   | some f =>
    rw [hl] at h
    simp only [Option.map_eq_some_iff] at h
    obtain ⟨j, hj, hd⟩ := h
    exact .inl ⟨rfl, by omega, k, by rw [Option.getD_some, hj]; congr 1; omega⟩
 refine sb [.tmp 4] (fn := Tryz.f94) Tryz.func94 ?_
 intro Q hQ
 refine wk trivial ?_
 refine lm (fun nL tL hL => ∃ (m : Nat) (f : Fo) (b : Bool), d - m = nL ∧ so (H ++ [.row 53 3 0 [.agg [.int .i64 f.id, .int .i64 f.inn, .str f.name]]]) n s = hL ∧ tL 0 = .hp (n + 8) 0 0 0 ∧ tL 5 = .int .i64 m ∧ tL 6 = .hp H.length 0 0 0 ∧ tL 7 = .bool b ∧ ((b = true ∧ m + 1 ≤ d ∧ ∃ k, deepO s.fo k f.inn = some (d - (m + 1))) ∨ (b = false ∧ m = d))) ((fun (m : Nat) (f : Fo) (b : Bool) => (d - m : Nat)) (0) ((lkM s.fo id).getD Fo.z) ((lkM s.fo id).isSome)) ?_ ?_
 ·refine Wkn.refl ⟨0, (lkM s.fo id).getD Fo.z, (lkM s.fo id).isSome, rfl, hpE, ?_, ?_, ?_, ?_, step k 0 id hd (by omega)⟩
  all_goals first | exact zq trivial | rfl | omega | trivial | skip
 rintro _ s2 h' ⟨m, f, b, rfl, rfl, e0, e5, e6, e7, hi⟩ K2 hK2
 simp only [mix_cons, mix_nil, Nat.reduceEqDiff, ↓reduceIte] at e0 e5 e6 e7
 have F := F4 e0 e5 e6 e7
 refine wk F ?_
 refine cq F (fun c => ?_) (fun c => ?_) <;> (try exact c.elim) <;> (refine wk F ?_)
 ·rcases hi with ⟨_, h1, k1, h2⟩ | ⟨h1, _⟩
  ·refine WP_draw6 8 (.two 8 (.two 9 (.one 10 (.one 11 .nil)) 10 (.one 9 (.one 11 .nil))) 9 (.one 8 (.one 10 (.one 11 .nil)))) (by decide +kernel) (by kernel_rfl) (by decide +kernel) ?_
   simp only [List.take_succ_cons, List.take_zero]
   try refine sq F ?_
   repeat' (first | refine WPt_nil ?_ | (refine WPt_one rfl ?_; refine sq F ?_) | (refine WPt_two rfl rfl ?_ ?_ <;> refine sq F ?_))
   all_goals (
    refine hK2 _ _ _ (Wkn.refl ⟨m + 1, (lkM s.fo f.inn).getD Fo.z, (lkM s.fo f.inn).isSome, rfl, hpE, ?_, ?_, ?_, ?_, step k1 (m + 1) f.inn h2 h1⟩) (by omega)
    all_goals first | exact zq F | rfl | omega | trivial | skip)
  ·rw [c] at h1; cases h1
 ·rcases hi with ⟨h1, _⟩ | ⟨_, h1⟩
  ·rw [c] at h1; cases h1
  ·subst h1
   refine ee hQ F ?_
   exact so_fin hn (.int _ _) ⟨rfl, rfl⟩
end Go.Av
namespace Go.Av
open Go Go.RowKit
attribute [local irreducible] WP WPl WPix Sat
set_option maxRecDepth 100000
set_option maxHeartbeats 1000000
structure FrzR (h : Heap) (n : Nat) (r s : AVal) : Prop where
 all : Frz h n r s
 len : r.cells.length = s.cells.length
 sto : ∀ d ∈ s.cells, d.sto = true
 cell : ∀ (j : Nat) (c d : AVal), r.cells[j]? = some c → s.cells[j]? = some d → Frz h n c d
theorem Frz.rows {h : Heap} {n q v e m : Nat} {rows es : List AVal} {len : Nat} {room : Bool} (hq : n ≤ q) (hg : getRow h q v = some (e, m, rows)) (hlen : len = rows.length) (hl : es.length = rows.length)
  (hp : ∀ (i : Nat) (r s : AVal), rows[i]? = some r → es[i]? = some s → FrzR h n r s) : Frz h n (.hs q v 0 len room) (.sl m es) := by
 subst hlen
 have := Frz.hs (h := h) (n := n) q v 0 rows.length room e m rows es hq hg (by omega) hl (fun i r s hr hs => (hp i r s hr hs).all)
  (fun i r s hr hs => ⟨(hp i r s hr hs).len, fun j c d _ hd => (hp i r s hr hs).sto d (List.mem_of_getElem? hd)⟩) (fun i r s j c d hr hs hc hd => (hp i r s hr hs).cell j c d hc hd)
 rw [List.drop_zero, ← hl, List.take_length] at this
 rw [← hl]; exact this
theorem FrzR.clo {h : Heap} {n : Nat} {r : AVal} (hc : Clo n r) (hs : ∀ d ∈ r.cells, d.sto = true) : FrzR h n r r :=
 ⟨.clo _ hc, rfl, hs, fun j c d h1 h2 => by rw [h1] at h2; cases h2; exact .clo _ (hc.cells c (List.mem_of_getElem? h1))⟩
inductive FrzL (h : Heap) (n : Nat) : List AVal → List AVal → Prop
 | nil : FrzL h n [] []
 | cons {c d : AVal} {cs ds : List AVal} : Frz h n c d → FrzL h n cs ds → FrzL h n (c :: cs) (d :: ds)
theorem FrzL.len {h : Heap} {n : Nat} {cs ds : List AVal} (z : FrzL h n cs ds) : cs.length = ds.length := by induction z with | nil => rfl | cons _ _ ih => simp [ih]
theorem FrzL.at_ {h : Heap} {n : Nat} {cs ds : List AVal} (z : FrzL h n cs ds) : ∀ (i : Nat) (c d : AVal), cs[i]? = some c → ds[i]? = some d → Frz h n c d := by
 induction z with
 | nil => intro i c d h1; simp at h1
 | cons z _ ih =>
  intro i c d h1 h2
  match i with
  | 0 => simp at h1 h2; subst h1; subst h2; exact z
  | i + 1 => exact ih i c d (by simpa using h1) (by simpa using h2)
theorem FrzL.agg {h : Heap} {n : Nat} {cs ds : List AVal} (z : FrzL h n cs ds) (hs : ds.all AVal.sto = true) : Frz h n (.agg cs) (.agg ds) := .agg _ _ z.len (List.all_eq_true.1 hs) z.at_
theorem Frz.data {h : Heap} {n q v e m : Nat} {rows : List AVal} {len : Nat} {room : Bool} (hq : n ≤ q) (hg : getRow h q v = some (e, m, rows)) (hlen : len = rows.length) (hc : ∀ r ∈ rows, Clo n r) (hs : ∀ r ∈ rows, ∀ c ∈ r.cells, c.sto = true) : Frz h n (.hs q v 0 len room) (.sl m rows) :=
 Frz.rows hq hg hlen rfl fun i r s hr hs' => by rw [hr] at hs'; cases hs'; exact FrzR.clo (hc r (List.mem_of_getElem? hr)) (hs r (List.mem_of_getElem? hr))
end Go.Av
namespace Go.Av
open Go Go.Proofs Go.RowKit
attribute [local irreducible] WP WPl WPix Sat
set_option maxRecDepth 100000
set_option maxHeartbeats 2000000
variable (G : Nat → Option (List AVal))
def sortI (l : List Int) : List Int := l.mergeSort (fun x y => decide (x ≤ y))
def valsM {α : Type} (z : α) (l : ML Int α) : List α := (sortI (l.map (·.1))).map fun k => (lkM l k).getD z
theorem sortI_len (l : List Int) : (sortI l).length = l.length := (List.mergeSort_perm _ _).length_eq
theorem Fo.cells_sto (e : Fo) : ∀ c ∈ e.av.cells, c.sto = true := by
 intro c hc; simp only [Fo.av, AVal.cells, List.mem_cons, List.mem_nil_iff, or_false] at hc; rcases hc with rfl | rfl | rfl <;> rfl
theorem Fe.cells_sto (e : Fe) : ∀ c ∈ e.av.cells, c.sto = true := by
 intro c hc; simp only [Fe.av, AVal.cells, List.mem_cons, List.mem_nil_iff, or_false] at hc; rcases hc with rfl | rfl | rfl | rfl <;> rfl
theorem Se.cells_sto (e : Se) : ∀ c ∈ e.av.cells, c.sto = true := by
 intro c hc; simp only [Se.av, AVal.cells, List.mem_cons, List.mem_nil_iff, or_false] at hc; rcases hc with rfl | rfl | rfl <;> rfl
theorem It.cells_sto (e : It) : ∀ c ∈ e.av.cells, c.sto = true := by
 intro c hc; simp only [It.av, AVal.cells, List.mem_cons, List.mem_nil_iff, or_false] at hc; rcases hc with rfl | rfl | rfl | rfl | rfl | rfl | rfl | rfl | rfl <;> rfl
theorem Fo.clo (N : Nat) (f : Fo) : Clo N f.av := clo_flat fun c hc => by simp [Fo.av] at hc; rcases hc with rfl | rfl | rfl <;> simp
theorem Fe.clo (N : Nat) (f : Fe) : Clo N f.av := clo_flat fun c hc => by simp [Fe.av] at hc; rcases hc with rfl | rfl | rfl | rfl <;> simp
theorem Se.clo (N : Nat) (f : Se) : Clo N f.av := clo_flat fun c hc => by simp [Se.av] at hc; rcases hc with rfl | rfl | rfl <;> simp
theorem KeysFo_sat (p : Nat) (h : Heap) : Sat (CT G) 100 [.hm p] h (fun r h' => r = .fn (.func 151) [] [.hp h.length 0 0 0] ∧ h' = h ++ [.row 110 1 0 [.hm p]]) := by
 refine sb [.tmp 2] (fn := Tryz.f100) Tryz.func100 ?_
 intro Q hQ
 refine wk trivial ?_
 refine ee hQ trivial ?_
 exact Fin.whole (by simp) (.fn _ _ _ (fun _ h => by cases h) (fun x hx => by simp at hx; subst hx; exact .hp _ _ _ _ (by simp))) ⟨rfl, rfl⟩
theorem PSsortedFo_sat (s : PS) (hw : WFM s.fo s.c1) (hb : ∀ e ∈ s.fo, -9223372036854775808 ≤ e.1 ∧ e.1 ≤ 9223372036854775807) (hl : s.fo.length ≤ 100000) {H : Heap} {n : Nat} (hn : n + 9 ≤ H.length) : Sat (CT G) 56 [.hm (n)] (so H n s) (fun r h' => r = .sl 3 ((valsM Fo.z s.fo).map Fo.av) ∧ h' = so H n s) := by
 have hsl := sortI_len (s.fo.map (·.1))
 rw [List.length_map] at hsl
 refine sb [.tmp 2] (fn := Tryz.f56) Tryz.func56 ?_
 intro Q hQ
 refine wk trivial ?_
 refine kq trivial (KeysFo_sat G _ _) ?_
 refine kq trivial (SortedI_sat G Fo.av _ Tryz.sortedKeys100 s.fo s.c1 hw hb hl (by rw [so_row' (by simp; omega) 0 (by omega), gs_new0 _ rfl]; rfl) (so_m1 (by simp; omega))) ?_
 unfold valsM at hQ
 have hks : (List.map (fun x => x.1) s.fo).mergeSort (fun x y => decide (x ≤ y)) = sortI (s.fo.map (·.1)) := rfl
 rw [hks]
 generalize sortI (s.fo.map (·.1)) = ks at *
 have hkm : (ks.map iA).length = ks.length := List.length_map ..
 have F := hkm
 refine lm (fun nL tL hL => ∃ (k v : Nat) (acc : List Fo), ks.length - k = nL ∧ so (H ++ [.row 110 1 0 [.hm (n)], .row 53 3 v (acc.map Fo.av)]) n s = hL ∧ tL 0 = .hm (n) ∧ tL 3 = .hs (H.length + 1) v 0 acc.length true ∧ tL 8 = .sl 1 (ks.map iA) ∧ tL 9 = .int .i64 (ks.length : Int) ∧ tL 10 = .int .i64 k ∧ k ≤ ks.length ∧ acc.length = k ∧ acc ++ (ks.drop k).map (fun k => (lkM s.fo k).getD Fo.z) = ks.map (fun k => (lkM s.fo k).getD Fo.z)) ((fun (k v : Nat) (acc : List Fo) => (ks.length - k : Nat)) (0) (0) ([])) ?_ ?_
 ·refine ⟨_, _, Weak.virt 3 53 3 (by simp) (by omega) (by exact zq F), ⟨0, 0, [], rfl, by rw [so_app (by simp; omega)]; simp, ?_, ?_, ?_, ?_, ?_, by omega, rfl, by simp⟩⟩
  all_goals first | exact zq F | rfl | omega | trivial | skip
 rintro _ s2 h' ⟨k, v, acc, rfl, rfl, e0, e3, e8, e9, e10, hk, hac, hp⟩ K2 hK2
 simp only [mix_cons, mix_nil, Nat.reduceEqDiff, ↓reduceIte] at e0 e3 e8 e9 e10
 have F := F6 F e0 e3 e8 e9 e10
 refine wk F ?_
 refine cq F (fun c1 => ?_) (fun c1 => ?_) <;> (try exact c1.elim) <;> (refine wk F ?_)
 ·have c2 : k < ks.length := by omega
  obtain ⟨y, hy, hym⟩ := getElem?_of_lt c2
  rw [drop_cons_of hy, List.map_cons] at hp
  have F := F3 F hy @heapF
  try refine sq F ?_
  refine wk F ?_
  refine aq F ?_
  try refine sq F ?_
  refine wk F ?_
  refine hK2 _ _ _ (Wkn.refl ⟨k + 1, v + 1, acc ++ [(lkM s.fo y).getD Fo.z], rfl, by simp [Fo.av], ?_, ?_, ?_, ?_, ?_, by omega, by simp; omega, by rw [← hp]; simp⟩) (by omega)
  all_goals first | exact zq F | rfl | omega | trivial | skip
 ·rw [drop_nil_of c1, List.map_nil, List.append_nil] at hp
  refine ee hQ F ?_
  rw [← hp]
  have hbl : n + (s.bl n).length ≤ H.length := hn
  have hg : getRow (so (H ++ [.row 110 1 0 [.hm (n)], .row 53 3 v (acc.map Fo.av)]) n s) (H.length + 1) v = some (53, 3, acc.map Fo.av) := by
   rw [so_row' (by simp; omega) v (by omega), gs_new _ rfl]; simp [getRow]
  exact fin_ovF hbl rfl (PS.clo hn s) (Frz.data (by omega) hg (by simp) (fun r hr => by obtain ⟨a, _, rfl⟩ := List.mem_map.1 hr; exact Fo.clo _ a) (fun r hr => by obtain ⟨a, _, rfl⟩ := List.mem_map.1 hr; exact a.cells_sto)) ⟨rfl, rfl⟩
theorem KeysFe_sat (p : Nat) (h : Heap) : Sat (CT G) 101 [.hm p] h (fun r h' => r = .fn (.func 152) [] [.hp h.length 0 0 0] ∧ h' = h ++ [.row 111 1 0 [.hm p]]) := by
 refine sb [.tmp 2] (fn := Tryz.f101) Tryz.func101 ?_
 intro Q hQ
 refine wk trivial ?_
 refine ee hQ trivial ?_
 exact Fin.whole (by simp) (.fn _ _ _ (fun _ h => by cases h) (fun x hx => by simp at hx; subst hx; exact .hp _ _ _ _ (by simp))) ⟨rfl, rfl⟩
theorem PSsortedFe_sat (s : PS) (hw : WFM s.fe s.c2) (hb : ∀ e ∈ s.fe, -9223372036854775808 ≤ e.1 ∧ e.1 ≤ 9223372036854775807) (hl : s.fe.length ≤ 100000) {H : Heap} {n : Nat} (hn : n + 9 ≤ H.length) : Sat (CT G) 57 [.hm (n + 1)] (so H n s) (fun r h' => r = .sl 4 ((valsM Fe.z s.fe).map Fe.av) ∧ h' = so H n s) := by
 have hsl := sortI_len (s.fe.map (·.1))
 rw [List.length_map] at hsl
 refine sb [.tmp 2] (fn := Tryz.f57) Tryz.func57 ?_
 intro Q hQ
 refine wk trivial ?_
 refine kq trivial (KeysFe_sat G _ _) ?_
 refine kq trivial (SortedI_sat G Fe.av _ Tryz.sortedKeys101 s.fe s.c2 hw hb hl (by rw [so_row' (by simp; omega) 0 (by omega), gs_new0 _ rfl]; rfl) (so_m2 (by simp; omega))) ?_
 unfold valsM at hQ
 have hks : (List.map (fun x => x.1) s.fe).mergeSort (fun x y => decide (x ≤ y)) = sortI (s.fe.map (·.1)) := rfl
 rw [hks]
 generalize sortI (s.fe.map (·.1)) = ks at *
 have hkm : (ks.map iA).length = ks.length := List.length_map ..
 have F := hkm
 refine lm (fun nL tL hL => ∃ (k v : Nat) (acc : List Fe), ks.length - k = nL ∧ so (H ++ [.row 111 1 0 [.hm (n + 1)], .row 51 4 v (acc.map Fe.av)]) n s = hL ∧ tL 0 = .hm (n + 1) ∧ tL 3 = .hs (H.length + 1) v 0 acc.length true ∧ tL 8 = .sl 1 (ks.map iA) ∧ tL 9 = .int .i64 (ks.length : Int) ∧ tL 10 = .int .i64 k ∧ k ≤ ks.length ∧ acc.length = k ∧ acc ++ (ks.drop k).map (fun k => (lkM s.fe k).getD Fe.z) = ks.map (fun k => (lkM s.fe k).getD Fe.z)) ((fun (k v : Nat) (acc : List Fe) => (ks.length - k : Nat)) (0) (0) ([])) ?_ ?_
 ·refine ⟨_, _, Weak.virt 3 51 4 (by simp) (by omega) (by exact zq F), ⟨0, 0, [], rfl, by rw [so_app (by simp; omega)]; simp, ?_, ?_, ?_, ?_, ?_, by omega, rfl, by simp⟩⟩
  all_goals first | exact zq F | rfl | omega | trivial | skip
 rintro _ s2 h' ⟨k, v, acc, rfl, rfl, e0, e3, e8, e9, e10, hk, hac, hp⟩ K2 hK2
 simp only [mix_cons, mix_nil, Nat.reduceEqDiff, ↓reduceIte] at e0 e3 e8 e9 e10
 have F := F6 F e0 e3 e8 e9 e10
 refine wk F ?_
 refine cq F (fun c1 => ?_) (fun c1 => ?_) <;> (try exact c1.elim) <;> (refine wk F ?_)
 ·have c2 : k < ks.length := by omega
  obtain ⟨y, hy, hym⟩ := getElem?_of_lt c2
  rw [drop_cons_of hy, List.map_cons] at hp
  have F := F3 F hy @heapF
  try refine sq F ?_
  refine wk F ?_
  refine aq F ?_
  try refine sq F ?_
  refine wk F ?_
  refine hK2 _ _ _ (Wkn.refl ⟨k + 1, v + 1, acc ++ [(lkM s.fe y).getD Fe.z], rfl, by simp [Fe.av], ?_, ?_, ?_, ?_, ?_, by omega, by simp; omega, by rw [← hp]; simp⟩) (by omega)
  all_goals first | exact zq F | rfl | omega | trivial | skip
 ·rw [drop_nil_of c1, List.map_nil, List.append_nil] at hp
  refine ee hQ F ?_
  rw [← hp]
  have hbl : n + (s.bl n).length ≤ H.length := hn
  have hg : getRow (so (H ++ [.row 111 1 0 [.hm (n + 1)], .row 51 4 v (acc.map Fe.av)]) n s) (H.length + 1) v = some (51, 4, acc.map Fe.av) := by
   rw [so_row' (by simp; omega) v (by omega), gs_new _ rfl]; simp [getRow]
  exact fin_ovF hbl rfl (PS.clo hn s) (Frz.data (by omega) hg (by simp) (fun r hr => by obtain ⟨a, _, rfl⟩ := List.mem_map.1 hr; exact Fe.clo _ a) (fun r hr => by obtain ⟨a, _, rfl⟩ := List.mem_map.1 hr; exact a.cells_sto)) ⟨rfl, rfl⟩
theorem KeysIt_sat (p : Nat) (h : Heap) : Sat (CT G) 102 [.hm p] h (fun r h' => r = .fn (.func 153) [] [.hp h.length 0 0 0] ∧ h' = h ++ [.row 91 1 0 [.hm p]]) := by
 refine sb [.tmp 2] (fn := Tryz.f102) Tryz.func102 ?_
 intro Q hQ
 refine wk trivial ?_
 refine ee hQ trivial ?_
 exact Fin.whole (by simp) (.fn _ _ _ (fun _ h => by cases h) (fun x hx => by simp at hx; subst hx; exact .hp _ _ _ _ (by simp))) ⟨rfl, rfl⟩
theorem KeysSe_sat (p : Nat) (h : Heap) : Sat (CT G) 103 [.hm p] h (fun r h' => r = .fn (.func 154) [] [.hp h.length 0 0 0] ∧ h' = h ++ [.row 112 1 0 [.hm p]]) := by
 refine sb [.tmp 2] (fn := Tryz.f103) Tryz.func103 ?_
 intro Q hQ
 refine wk trivial ?_
 refine ee hQ trivial ?_
 exact Fin.whole (by simp) (.fn _ _ _ (fun _ h => by cases h) (fun x hx => by simp at hx; subst hx; exact .hp _ _ _ _ (by simp))) ⟨rfl, rfl⟩
theorem PSsortedSe_sat (s : PS) (hw : WFM s.se s.c4) (hb : ∀ e ∈ s.se, -9223372036854775808 ≤ e.1 ∧ e.1 ≤ 9223372036854775807) (hl : s.se.length ≤ 100000) {H : Heap} {n : Nat} (hn : n + 9 ≤ H.length) : Sat (CT G) 59 [.hm (n + 3)] (so H n s) (fun r h' => r = .sl 3 ((valsM Se.z s.se).map Se.av) ∧ h' = so H n s) := by
 have hsl := sortI_len (s.se.map (·.1))
 rw [List.length_map] at hsl
 refine sb [.tmp 2] (fn := Tryz.f59) Tryz.func59 ?_
 intro Q hQ
 refine wk trivial ?_
 refine kq trivial (KeysSe_sat G _ _) ?_
 refine kq trivial (SortedI_sat G Se.av _ Tryz.sortedKeys103 s.se s.c4 hw hb hl (by rw [so_row' (by simp; omega) 0 (by omega), gs_new0 _ rfl]; rfl) (so_m4 (by simp; omega))) ?_
 unfold valsM at hQ
 have hks : (List.map (fun x => x.1) s.se).mergeSort (fun x y => decide (x ≤ y)) = sortI (s.se.map (·.1)) := rfl
 rw [hks]
 generalize sortI (s.se.map (·.1)) = ks at *
 have hkm : (ks.map iA).length = ks.length := List.length_map ..
 have F := hkm
 refine lm (fun nL tL hL => ∃ (k v : Nat) (acc : List Se), ks.length - k = nL ∧ so (H ++ [.row 112 1 0 [.hm (n + 3)], .row 129 3 v (acc.map Se.av)]) n s = hL ∧ tL 0 = .hm (n + 3) ∧ tL 3 = .hs (H.length + 1) v 0 acc.length true ∧ tL 8 = .sl 1 (ks.map iA) ∧ tL 9 = .int .i64 (ks.length : Int) ∧ tL 10 = .int .i64 k ∧ k ≤ ks.length ∧ acc.length = k ∧ acc ++ (ks.drop k).map (fun k => (lkM s.se k).getD Se.z) = ks.map (fun k => (lkM s.se k).getD Se.z)) ((fun (k v : Nat) (acc : List Se) => (ks.length - k : Nat)) (0) (0) ([])) ?_ ?_
 ·refine ⟨_, _, Weak.virt 3 129 3 (by simp) (by omega) (by exact zq F), ⟨0, 0, [], rfl, by rw [so_app (by simp; omega)]; simp, ?_, ?_, ?_, ?_, ?_, by omega, rfl, by simp⟩⟩
  all_goals first | exact zq F | rfl | omega | trivial | skip
 rintro _ s2 h' ⟨k, v, acc, rfl, rfl, e0, e3, e8, e9, e10, hk, hac, hp⟩ K2 hK2
 simp only [mix_cons, mix_nil, Nat.reduceEqDiff, ↓reduceIte] at e0 e3 e8 e9 e10
 have F := F6 F e0 e3 e8 e9 e10
 refine wk F ?_
 refine cq F (fun c1 => ?_) (fun c1 => ?_) <;> (try exact c1.elim) <;> (refine wk F ?_)
 ·have c2 : k < ks.length := by omega
  obtain ⟨y, hy, hym⟩ := getElem?_of_lt c2
  rw [drop_cons_of hy, List.map_cons] at hp
  have F := F3 F hy @heapF
  try refine sq F ?_
  refine wk F ?_
  refine aq F ?_
  try refine sq F ?_
  refine wk F ?_
  refine hK2 _ _ _ (Wkn.refl ⟨k + 1, v + 1, acc ++ [(lkM s.se y).getD Se.z], rfl, by simp [Se.av], ?_, ?_, ?_, ?_, ?_, by omega, by simp; omega, by rw [← hp]; simp⟩) (by omega)
  all_goals first | exact zq F | rfl | omega | trivial | skip
 ·rw [drop_nil_of c1, List.map_nil, List.append_nil] at hp
  refine ee hQ F ?_
  rw [← hp]
  have hbl : n + (s.bl n).length ≤ H.length := hn
  have hg : getRow (so (H ++ [.row 112 1 0 [.hm (n + 3)], .row 129 3 v (acc.map Se.av)]) n s) (H.length + 1) v = some (129, 3, acc.map Se.av) := by
   rw [so_row' (by simp; omega) v (by omega), gs_new _ rfl]; simp [getRow]
  exact fin_ovF hbl rfl (PS.clo hn s) (Frz.data (by omega) hg (by simp) (fun r hr => by obtain ⟨a, _, rfl⟩ := List.mem_map.1 hr; exact Se.clo _ a) (fun r hr => by obtain ⟨a, _, rfl⟩ := List.mem_map.1 hr; exact a.cells_sto)) ⟨rfl, rfl⟩
theorem PSsortedItR_sat (s : PS) (hw : WFM s.it s.c3) (hb : ∀ e ∈ s.it, -9223372036854775808 ≤ e.1 ∧ e.1 ≤ 9223372036854775807) (hl : s.it.length ≤ 100000) {H : Heap} {n : Nat} (hn : n + 9 ≤ H.length) : Sat (CT G) 58 [.hm (n + 2)] (so H n s) (fun r h' => ∃ v, r = .hs (H.length + 1) v 0 (valsM It.z s.it).length true ∧ h' = so (H ++ [.row 91 1 0 [.hm (n + 2)], .row 82 9 v ((valsM It.z s.it).map It.av)]) n s) := by
 have hsl := sortI_len (s.it.map (·.1))
 rw [List.length_map] at hsl
 refine sb [.tmp 2] (fn := Tryz.f58) Tryz.func58 ?_
 intro Q hQ
 refine wk trivial ?_
 refine kq trivial (KeysIt_sat G _ _) ?_
 refine kq trivial (SortedI_sat G It.av _ Tryz.sortedKeys102 s.it s.c3 hw hb hl (by rw [so_row' (by simp; omega) 0 (by omega), gs_new0 _ rfl]; rfl) (so_m3 (by simp; omega))) ?_
 unfold valsM at hQ
 have hks : (List.map (fun x => x.1) s.it).mergeSort (fun x y => decide (x ≤ y)) = sortI (s.it.map (·.1)) := rfl
 rw [hks]
 generalize sortI (s.it.map (·.1)) = ks at *
 have hkm : (ks.map iA).length = ks.length := List.length_map ..
 have F := hkm
 refine lm (fun nL tL hL => ∃ (k v : Nat) (acc : List It), ks.length - k = nL ∧ so (H ++ [.row 91 1 0 [.hm (n + 2)], .row 82 9 v (acc.map It.av)]) n s = hL ∧ tL 0 = .hm (n + 2) ∧ tL 3 = .hs (H.length + 1) v 0 acc.length true ∧ tL 8 = .sl 1 (ks.map iA) ∧ tL 9 = .int .i64 (ks.length : Int) ∧ tL 10 = .int .i64 k ∧ k ≤ ks.length ∧ acc.length = k ∧ acc ++ (ks.drop k).map (fun k => (lkM s.it k).getD It.z) = ks.map (fun k => (lkM s.it k).getD It.z)) ((fun (k v : Nat) (acc : List It) => (ks.length - k : Nat)) (0) (0) ([])) ?_ ?_
 ·refine ⟨_, _, Weak.virt 3 82 9 (by simp) (by omega) (by exact zq F), ⟨0, 0, [], rfl, by rw [so_app (by simp; omega)]; simp, ?_, ?_, ?_, ?_, ?_, by omega, rfl, by simp⟩⟩
  all_goals first | exact zq F | rfl | omega | trivial | skip
 rintro _ s2 h' ⟨k, v, acc, rfl, rfl, e0, e3, e8, e9, e10, hk, hac, hp⟩ K2 hK2
 simp only [mix_cons, mix_nil, Nat.reduceEqDiff, ↓reduceIte] at e0 e3 e8 e9 e10
 have F := F6 F e0 e3 e8 e9 e10
 refine wk F ?_
 refine cq F (fun c1 => ?_) (fun c1 => ?_) <;> (try exact c1.elim) <;> (refine wk F ?_)
 ·have c2 : k < ks.length := by omega
  obtain ⟨y, hy, hym⟩ := getElem?_of_lt c2
  rw [drop_cons_of hy, List.map_cons] at hp
  have F := F3 F hy @heapF
  try refine sq F ?_
  refine wk F ?_
  refine aq F ?_
  try refine sq F ?_
  refine wk F ?_
  refine hK2 _ _ _ (Wkn.refl ⟨k + 1, v + 1, acc ++ [(lkM s.it y).getD It.z], rfl, by simp [It.av], ?_, ?_, ?_, ?_, ?_, by omega, by simp; omega, by rw [← hp]; simp⟩) (by omega)
  all_goals first | exact zq F | rfl | omega | trivial | skip
 ·rw [drop_nil_of c1, List.map_nil, List.append_nil] at hp
  refine ee hQ F ?_
  rw [← hp]
  have hal : acc.length = ks.length := by omega
  exact Fin.whole (by rw [so_len hn, so_len (by simp; omega)]; simp) (.hs _ _ _ _ _ (by rw [so_len (by simp; omega)]; simp)) ⟨v, by simp [hal], rfl⟩
end Go.Av
namespace Go.Av
open Go Go.Proofs Go.RowKit
attribute [local irreducible] WP WPl WPix Sat
set_option maxRecDepth 100000
set_option maxHeartbeats 2000000
variable (G : Nat → Option (List AVal))
theorem fin_frzS {h0 : Heap} {R : AVal → Heap → Prop} {r0 r : AVal} (hz : Frz h0 h0.length r0 r) (hR : R r h0) : Fin h0 h0 R r0 := by
 have := Fin.frz (h0 := h0) (j := []) (R := R) (r0 := r0) (r := r) (by rwa [List.append_nil]) hR
 rwa [List.append_nil] at this
theorem CloneS_sat (l : List Bs) (hl : l.length ≤ 1048576) (h : Heap) : Sat (CT G) 96 [.sl 1 (l.map .str)] h (fun r h' => r = .sl 1 (l.map .str) ∧ h' = h) := by
 rcases l with _ | ⟨a, l⟩
 ·refine sb [.tmp 2] (fn := Tryz.f96) Tryz.func96 ?_
  intro Q hQ
  refine wk trivial ?_
  refine binK_empty _ (by exact zq trivial) (.inl rfl) fun b => ?_
  cases b
  ·try refine sq trivial ?_
   refine wk trivial ?_
   refine appK_ez (.inl rfl) (by simp (disch := first | omega | (simp only [go_sem, ↓reduceIte, seval]; first | done | omega) | fail) only [go_sem, ↓reduceIte, seval]; rfl) (by simp (disch := first | omega | (simp only [go_sem, ↓reduceIte, seval]; first | done | omega) | fail) only [go_sem, ↓reduceIte, seval]; rfl) (by simp (disch := first | omega | (simp only [go_sem, ↓reduceIte, seval]; first | done | omega) | fail) only [go_sem, ↓reduceIte, seval]; rfl) (by simp (disch := first | omega | (simp only [go_sem, ↓reduceIte, seval]; first | done | omega) | fail) only [go_sem, ↓reduceIte, seval]; try rfl) (by omega) (by simp only [elemsOf, ↓reduceIte]; try rfl) (by simp) (fun _ => ?_) (fun h => absurd rfl h)
   try refine sq trivial ?_
   refine wk trivial ?_
   refine ee hQ trivial ?_
   exact fin_frzS (.ezs _) ⟨rfl, rfl⟩
  ·try refine sq trivial ?_
   refine wk trivial ?_
   refine ee hQ trivial ?_
   exact fin_frzS (.nils _) ⟨rfl, rfl⟩
 ·have hr : (List.map AVal.str (a :: l)) ≠ [] := by simp
  refine sb [.tmp 2] (fn := Tryz.f96) Tryz.func96 ?_
  intro Q hQ
  refine wk trivial ?_
  refine appK_ez (.inl rfl) (by simp (disch := first | omega | (simp only [go_sem, ↓reduceIte, seval]; first | done | omega) | fail) only [go_sem, ↓reduceIte, seval]; rfl) (by simp (disch := first | omega | (simp only [go_sem, ↓reduceIte, seval]; first | done | omega) | fail) only [go_sem, ↓reduceIte, seval]; rfl) (by simp (disch := first | omega | (simp only [go_sem, ↓reduceIte, seval]; first | done | omega) | fail) only [go_sem, ↓reduceIte, seval]; rfl) (by simp (disch := first | omega | (simp only [go_sem, ↓reduceIte, seval]; first | done | omega) | fail) only [go_sem, ↓reduceIte, seval]; try rfl) (by omega) (by simp only [elemsOf, ↓reduceIte]; try rfl) ?_ (fun h => by simp at h) (fun _ => ?_)
  ·simp [maxLen] at hl ⊢; omega
  try refine sq trivial ?_
  refine wk trivial ?_
  refine ee hQ trivial ?_
  have hg : getRow (h ++ [.row 9 1 0 ((a :: l).map .str)]) h.length 0 = some (9, 1, (a :: l).map .str) := by rw [gs_new0 _ rfl]; simp [getRow]
  have := Frz.data (n := h.length) (len := (a :: l).length) (room := true) (Nat.le_refl _) hg (by simp) (fun r hr => by obtain ⟨a, _, rfl⟩ := List.mem_map.1 hr; exact .str _) (fun r hr c hc => by obtain ⟨a, _, rfl⟩ := List.mem_map.1 hr; simp [AVal.cells] at hc; subst hc; rfl)
  simp only [List.length_cons, List.map_cons] at this
  exact Fin.frz (by simpa using this) ⟨rfl, rfl⟩
theorem PStold_sat (t : It) (ht : t.tags.length ≤ 1048576) (h : Heap) : Sat (CT G) 60 [t.av] h (fun r h' => r = t.av ∧ h' = h) := by
 refine sb [.cell 2 82] (fn := Tryz.f60) Tryz.func60 ?_
 intro Q hQ
 refine wk trivial ?_
 refine kq trivial (CloneS_sat G t.tags ht _) ?_
 refine ye hQ trivial ?_
 exact Fin.plain (It.clo _ t) ⟨rfl, rfl⟩
theorem PSItem_sat (s : PS) (id : Int) (ht : ((lkM s.it id).getD It.z).tags.length ≤ 1048576) {H : Heap} {n : Nat} (hn : n + 9 ≤ H.length) : Sat (CT G) 38 [.hp (n + 8) 0 0 0, .int .i64 id] (so H n s) (fun r h' => r = .tup [((lkM s.it id).getD It.z).av, .bool (lkM s.it id).isSome] ∧ h' = so H n s) := by
 refine sb [.cell 4 82, .tmp 5] (fn := Tryz.f38) Tryz.func38 ?_
 intro Q hQ
 refine wk trivial ?_
 refine kq trivial (PStold_sat G ((lkM s.it id).getD It.z) ht _) ?_
 refine ye hQ trivial ?_
 exact so_fin hn (.tup _ (fun x hx => by simp only [List.mem_cons, List.not_mem_nil, or_false] at hx; rcases hx with rfl | rfl; exact It.clo _ _; exact .bool _)) ⟨rfl, rfl⟩
end Go.Av
namespace Go.Av
open Go Go.Proofs Go.RowKit
attribute [local irreducible] WP WPl WPix Sat
set_option maxRecDepth 100000
set_option maxHeartbeats 2000000
variable (G : Nat → Option (List AVal))
def shN : Nat → Bs → Nat → Nat
 | 0, _, _ => 0
 | f + 1, s, n => if s = [] then 0 else if n = 32 then 0 else (dec s 0).2 + shN f (s.drop (dec s 0).2) (n + 1)
def shW (s : Bs) : Bs := s.take (shN s.length s 0)
theorem shN_fuel : ∀ (f : Nat) (s : Bs) (n : Nat), s.length ≤ f → shN f s n = shN s.length s n := by
 intro f
 induction f using Nat.strongRecOn with
 | ind f ih =>
  intro s n hs
  cases s with
  | nil => cases f <;> rfl
  | cons b t =>
   obtain ⟨f, rfl⟩ : ∃ g, f = g + 1 := ⟨f - 1, by simp at hs; omega⟩
   have hd := dec_pos (b :: t) 0 (by simp)
   simp only [List.length_cons] at hs hd ⊢
   have hl : ((b :: t).drop (dec (b :: t) 0).2).length ≤ t.length := by simp only [List.length_drop, List.length_cons]; omega
   rw [shN, shN, if_neg (show ¬ (b :: t) = [] by simp), if_neg (show ¬ (b :: t) = [] by simp), ih f (by omega) _ _ (by omega), ih t.length (by omega) _ _ hl]
def shA (s : Bs) (k n : Nat) : Nat := shN (s.drop k).length (s.drop k) n
theorem shA_end (s : Bs) (k n : Nat) (h : s.length ≤ k) : shA s k n = 0 := by unfold shA; rw [List.drop_of_length_le h]; rfl
theorem shA_at (s : Bs) (k n : Nat) (h : k < s.length) : shA s k n = if n = 32 then 0 else (dec s k).2 + shA s (k + (dec s k).2) (n + 1) := by
 have hd := dec_pos s k h
 have hl : (s.drop k).length = (s.length - k - 1) + 1 := by rw [List.length_drop]; omega
 unfold shA
 rw [hl, shN, if_neg (by intro e; rw [e] at hl; simp at hl), ← dec_drop, List.drop_drop, shN_fuel (s.length - k - 1) _ _ (by simp only [List.length_drop]; omega)]
theorem Pshort_sat (s : Bs) (hs : s.length ≤ 100000000) (h : Heap) : Sat (CT G) 255 [.str s] h (fun r h' => r = .str (shW s) ∧ h' = h) := by
 refine sb [.tmp 2] (fn := Tryz.f255) Tryz.func255 ?_
 intro Q hQ
 refine wk trivial ?_
 refine lm (fun nL tL hL => ∃ (k n : Nat), s.length - k = nL ∧ h ++ [.iter s k] = hL ∧ tL 3 = .int .i64 n ∧ k ≤ s.length ∧ n ≤ 32 ∧ k + shA s k n = shN s.length s 0) ((fun (k n : Nat) => (s.length - k : Nat)) (0) (0)) ?_ ?_
 ·refine Wkn.refl ⟨0, 0, rfl, hpE, ?_, by omega, by omega, by simp [shA]⟩
  all_goals first | exact zq trivial | rfl | omega | trivial | skip
 rintro _ s2 h' ⟨k, n, rfl, rfl, e3, hk, hn, hc⟩ K2 hK2
 simp only [mix_cons, mix_nil, Nat.reduceEqDiff, ↓reduceIte] at e3
 have F := e3
 refine wk F ?_
 refine nextK_at (getIter _ _ _ _) (fun hlt => ?_) (fun hge => ?_)
 ·have hp := dec_pos s k hlt
  have hca := shA_at s k n hlt
  rw [show Utf8.decode ⟨s.toArray⟩ k = dec s k from rfl]
  generalize dec s k = d at *
  obtain ⟨c, m⟩ := d
  simp only [] at hp hca ⊢
  try refine sq F ?_
  refine wk F ?_
  refine cq F (fun c1 => ?_) (fun c1 => ?_) <;> (try exact c1.elim) <;> (refine wk F ?_)
  ·have c2 : n = 32 := by omega
   rw [if_pos c2] at hca
   refine ee hQ F ?_
   refine fR (.str _) ?_
   unfold shW
   congr 2
   omega
  ·have c2 : ¬ n = 32 := by omega
   rw [if_neg c2] at hca
   refine hK2 _ _ _ (Wkn.refl ⟨k + m, n + 1, rfl, hpE, ?_, by omega, by omega, by omega⟩) (by omega)
   all_goals first | exact zq F | rfl | omega | trivial | skip
 ·rw [shA_end s k n (by omega)] at hc
  try refine sq F ?_
  refine wk F ?_
  refine ee hQ F ?_
  refine fR (.str _) ?_
  unfold shW
  rw [← hc, List.take_of_length_le (by omega)]
def wordsF (s : Bs) : List Bs := (fldsF (foldS s)).map shW
theorem flds_len (s : Bs) : ∀ w ∈ fldsF s, w.length ≤ s.length := fun w hw => by
 unfold fldsF Lib.goFieldsP at hw
 rw [List.map_map] at hw
 obtain ⟨x, _, rfl⟩ := List.mem_map.1 hw
 simp only [Function.comp, ByteArray.extract, ByteArray.copySlice, Array.toList_append, Array.toList_extract, List.length_append]
 simp [List.extract]
 omega
theorem spans_cnt (p : Nat → Bool) (s : ByteArray) : ∀ (f pos : Nat) (st : Option Nat) (acc : List (Nat × Nat)), (Lib.spansFromP p s f pos st acc).1.length ≤ acc.length + f
 | 0, _, _, acc => by simp [Lib.spansFromP]
 | f + 1, pos, st, acc => by
  unfold Lib.spansFromP
  split
  ·split
   ·cases st with
    | some a => have := spans_cnt p s f (pos + (Utf8.decode s pos).2) none (acc ++ [(a, pos)]); simp only [List.length_append, List.length_cons, List.length_nil] at this; simp only; omega
    | none => have := spans_cnt p s f (pos + (Utf8.decode s pos).2) none acc; simp only; omega
   ·cases st with
    | some a => have := spans_cnt p s f (pos + (Utf8.decode s pos).2) (some a) acc; simp only; omega
    | none => have := spans_cnt p s f (pos + (Utf8.decode s pos).2) (some pos) acc; simp only; omega
  ·simp only; omega
theorem flds_cnt (s : Bs) : (fldsF s).length ≤ s.length + 1 := by
 unfold fldsF Lib.goFieldsP Lib.spansOfP
 rw [List.length_map, List.length_map]
 have := spans_cnt (fun r => !letF r) ⟨s.toArray⟩ (ByteArray.size ⟨s.toArray⟩) 0 none []
 have hsz : ByteArray.size ⟨s.toArray⟩ = s.length := by simp [ByteArray.size]
 rw [hsz] at this ⊢
 unfold Lib.closeSpans
 simp only [List.length_nil] at this
 split
 ·simp only [List.length_append, List.length_cons, List.length_nil]; omega
 ·omega
theorem PWords_sat (s : Bs) (hs : s.length ≤ 100000) (h : Heap) : Sat (CT G) 217 [.str s] h (fun r h' => r = .sl 1 ((wordsF s).map .str) ∧ h' = h) := by
 have hfl := foldS_len s
 have hwl := flds_len (foldS s)
 have hn := flds_cnt (foldS s)
 refine sb [.tmp 2] (fn := Tryz.f217) Tryz.func217 ?_
 intro Q hQ
 refine wk trivial ?_
 refine kq trivial (PFold_sat G s (by omega) _) ?_
 refine (Fields_sat G (foldS s) (by omega) _).mono ?_
 unfold wordsF at hQ
 generalize fldsF (foldS s) = ws at *
 rintro r h' (⟨hw0, rfl, he⟩ | ⟨hw0, rfl, rfl⟩)
 ·subst hw0
  rw [he]
  try refine sq trivial ?_
  refine wk trivial ?_
  refine lm (fun nL tL hL => 0 = nL ∧ [] ++ h = hL ∧ tL 3 = .sl 1 [] ∧ tL 10 = .int .i64 0 ∧ tL 11 = .int .i64 0) (0) ?_ ?_
  ·refine Wkn.refl ⟨rfl, rfl, ?_, ?_, ?_⟩
   all_goals first | exact zq trivial | rfl | omega | trivial | skip
  rintro _ s2 h' ⟨rfl, rfl, e3, e10, e11⟩ K2 hK2
  simp only [mix_cons, mix_nil, Nat.reduceEqDiff, ↓reduceIte] at e3 e10 e11
  have F := F3 e3 e10 e11
  refine wk F ?_
  refine cq F (fun c1 => ?_) (fun c1 => ?_) <;> (try exact c1.elim) <;> (refine wk F ?_)
  refine ye hQ F ?_
  exact Fin.same (Clo.sl 1 [] fun x hx => by cases hx) ⟨rfl, rfl⟩
 ·try refine sq trivial ?_
  refine wk trivial ?_
  refine lm (fun nL tL hL => ∃ (k : Nat), ws.length - k = nL ∧ h ++ [.row 9 1 0 (((ws.take k).map shW ++ ws.drop k).map .str)] = hL ∧ tL 3 = .hs h.length 0 0 ws.length true ∧ tL 9 = .hs h.length 0 0 ws.length true ∧ tL 10 = .int .i64 (ws.length : Int) ∧ tL 11 = .int .i64 k ∧ k ≤ ws.length) ((fun (k : Nat) => (ws.length - k : Nat)) (0)) ?_ ?_
  ·refine Wkn.refl ⟨0, rfl, hpE, ?_, ?_, ?_, ?_, by omega⟩
   all_goals first | exact zq trivial | rfl | omega | trivial | skip
  rintro _ s2 h' ⟨k, rfl, rfl, e3, e9, e10, e11, hk⟩ K2 hK2
  simp only [mix_cons, mix_nil, Nat.reduceEqDiff, ↓reduceIte] at e3 e9 e10 e11
  have F := F4 e3 e9 e10 e11
  refine wk F ?_
  refine cq F (fun c1 => ?_) (fun c1 => ?_) <;> (try exact c1.elim) <;> (refine wk F ?_)
  ·have c2 : k < ws.length := by omega
   obtain ⟨y, hy, hym⟩ := getElem?_of_lt c2
   have hyl := hwl y hym
   have hget : ((ws.take k).map shW ++ ws.drop k)[k]? = some y := by
    rw [List.getElem?_append_right (by simp; omega), List.length_map, List.length_take, Nat.min_eq_left (by omega), Nat.sub_self, List.getElem?_drop]; simpa using hy
   have hset : (((ws.take k).map shW ++ ws.drop k).map AVal.str).set k (.str (shW y)) = ((ws.take (k + 1)).map shW ++ ws.drop (k + 1)).map .str := by
    have h1 : (AVal.str (shW y)) = AVal.str (shW y) := rfl
    rw [← List.map_set]
    congr 1
    rw [List.set_append_right _ _ (by simp; omega), List.length_map, List.length_take, Nat.min_eq_left (by omega), Nat.sub_self, drop_cons_of hy, List.set_cons_zero, List.take_add_one, hy]
    simp
   have hlen : (((ws.take k).map shW ++ ws.drop k).map AVal.str).length = ws.length := by simp; omega
   generalize hrw : (ws.take k).map shW ++ ws.drop k = rw at *
   have F := F6 F c2 @hget @hset @hlen @heapF
   try refine sq F ?_
   refine wk F ?_
   refine kq F (Pshort_sat G y (by omega) _) ?_
   refine hK2 _ _ _ (Wkn.refl ⟨k + 1, rfl, rfl, ?_, ?_, ?_, ?_, by omega⟩) (by omega)
   all_goals first | exact zq F | rfl | omega | trivial | skip
  ·have hk2 : k = ws.length := by omega
   subst hk2
   have hfin : (ws.take ws.length).map shW ++ ws.drop ws.length = ws.map shW := by rw [List.take_length, List.drop_length, List.append_nil]
   rw [hfin]
   have hg : getRow (h ++ [.row 9 1 0 ((ws.map shW).map .str)]) h.length 0 = some (9, 1, (ws.map shW).map .str) := by rw [gs_new0 _ rfl]; simp [getRow]
   have hz := Frz.data (n := h.length) (len := ws.length) (room := true) (Nat.le_refl _) hg (by simp) (fun r hr => by obtain ⟨a, _, rfl⟩ := List.mem_map.1 hr; exact .str _) (fun r hr c hc => by obtain ⟨a, _, rfl⟩ := List.mem_map.1 hr; simp [AVal.cells] at hc; subst hc; rfl)
   refine ye hQ F ?_
   exact Fin.frz hz ⟨rfl, rfl⟩
def isF (s : Bs) : Bool := decide (wordsF s = [s])
theorem PIs_sat (s : Bs) (hs : s.length ≤ 100000) (h : Heap) : Sat (CT G) 205 [.str s] h (fun r h' => r = .bool (isF s) ∧ h' = h) := by
 have hW := PWords_sat G s hs
 unfold isF
 generalize wordsF s = ws at *
 match ws with
 | [] =>
  refine sb [.tmp 2] (fn := Tryz.f205) Tryz.func205 ?_
  intro Q hQ
  refine wk trivial ?_
  refine kq trivial (hW _) ?_
  refine ee hQ trivial ?_
  exact Fin.same (.bool _) ⟨by simp, rfl⟩
 | [w] =>
  refine sb [.tmp 2] (fn := Tryz.f205) Tryz.func205 ?_
  intro Q hQ
  refine wk trivial ?_
  refine kq trivial (hW _) ?_
  refine ee hQ trivial ?_
  exact Fin.same (.bool _) ⟨by simp; rw [Bool.eq_iff_iff]; simp, rfl⟩
 | w :: v :: l =>
  refine sb [.tmp 2] (fn := Tryz.f205) Tryz.func205 ?_
  intro Q hQ
  refine wk trivial ?_
  refine kq trivial (hW _) ?_
  (first | refine gq trivial (fun g => ?_) (fun g => ?_) | refine pq trivial (fun g => ?_) (fun g => ?_)) <;> (try exact g.elim) <;> (try refine sq trivial ?_) <;> (refine wk trivial ?_)
  ·exfalso; first | omega | (simp at g; omega)
  ·refine ee hQ trivial ?_
   exact Fin.same (.bool _) ⟨by simp, rfl⟩
end Go.Av
namespace Go.Av
open Go Go.Proofs Go.RowKit
attribute [local irreducible] WP WPl WPix Sat
set_option maxRecDepth 100000
set_option maxHeartbeats 2000000
variable (G : Nat → Option (List AVal))
def PS.upFo (s : PS) (k : Int) (f : Fo) : PS := { s with fo := upM s.fo s.c1 k f, c1 := ckM s.fo s.c1 k }
def PS.upFe (s : PS) (k : Int) (f : Fe) : PS := { s with fe := upM s.fe s.c2 k f, c2 := ckM s.fe s.c2 k }
def PS.upIt (s : PS) (k : Int) (f : It) : PS := { s with it := upM s.it s.c3 k f, c3 := ckM s.it s.c3 k }
def PS.upSe (s : PS) (k : Int) (f : Se) : PS := { s with se := upM s.se s.c4 k f, c4 := ckM s.se s.c4 k }
def PS.upNm (s : PS) (k : Int × Bs) (f : Int) : PS := { s with nm := upM s.nm s.c5 k f, c5 := ckM s.nm s.c5 k }
def PS.upPl (s : PS) (k : Bs) (f : Int) : PS := { s with pl := upM s.pl s.c6 k f, c6 := ckM s.pl s.c6 k }
def PS.upGu (s : PS) (k : Int × Bs) (f : Int) : PS := { s with gu := upM s.gu s.c7 k f, c7 := ckM s.gu s.c7 k }
def PS.few (s : PS) : Prop := ∀ id, -100000 ≤ (lkM s.he id).getD 0 ∧ (lkM s.he id).getD 0 ≤ 100000
theorem PS.few1 {s : PS} (h : s.few) (id : Int) : -1000000 ≤ (lkM s.he id).getD 0 ∧ (lkM s.he id).getD 0 ≤ 1000000 := by have := h id; omega
def PS.make (s : PS) (e : Ev) : PS :=
 if e.kind = 1 then (((s.upFo e.a ⟨e.a, e.b, e.s⟩).upNm (e.b, e.s) e.a).hold e.b 1).raise 0 e.a
 else if e.kind = 3 then (((s.upFe e.a ⟨e.a, e.b, e.s, e.t⟩).upPl e.s e.a).hold e.b 1).raise 1 e.a
 else if e.kind = 7 then ((s.upIt e.a ⟨e.a, e.b, e.n, e.s, e.t, e.u, false, false, []⟩).upGu (e.b, e.s) e.a).raise 2 e.a
 else if e.kind = 11 then (s.upSe e.a ⟨e.a, e.s, e.t⟩).raise 3 e.a
 else s
theorem PSmake_sat (s : PS) (e : Ev) (hf : s.few) {H : Heap} {n : Nat} (hn : n + 9 ≤ H.length) : Sat (CT G) 55 [.hp (n + 8) 0 0 0, e.av] (so H n s) (fun r h' => r = .tup [] ∧ h' = so H n (s.make e)) := by
 refine sb [] (fn := Tryz.f55) Tryz.func55 ?_
 intro Q hQ
 refine wk trivial ?_
 by_cases k1 : e.kind = 1
 ·have F := k1
  try refine sq F ?_
  refine wk F ?_
  refine kq F (PShold_sat G _ e.b 1 (PS.few1 (s := ((s.upFo e.a ⟨e.a, e.b, e.s⟩).upNm (e.b, e.s) e.a)) hf e.b) (by omega) (by first | omega | (simp; omega))) ?_
  refine kq F (PSraise_sat G _ 0 e.a (by omega) (by first | omega | (simp; omega))) ?_
  refine ee hQ F ?_
  exact so_fin hn (.tup _ (by simp)) ⟨rfl, by rw [PS.make, if_pos k1]⟩
 by_cases k3 : e.kind = 3
 ·have F := k3
  try refine sq F ?_
  refine wk F ?_
  refine kq F (PShold_sat G _ e.b 1 (PS.few1 (s := ((s.upFe e.a ⟨e.a, e.b, e.s, e.t⟩).upPl e.s e.a)) hf e.b) (by omega) (by first | omega | (simp; omega))) ?_
  refine kq F (PSraise_sat G _ 1 e.a (by omega) (by first | omega | (simp; omega))) ?_
  refine ee hQ F ?_
  exact so_fin hn (.tup _ (by simp)) ⟨rfl, by rw [PS.make, if_neg k1, if_pos k3]⟩
 by_cases k7 : e.kind = 7
 ·have F := k7
  try refine sq F ?_
  refine wk F ?_
  refine kq F (PSraise_sat G _ 2 e.a (by omega) (by first | omega | (simp; omega))) ?_
  refine ee hQ F ?_
  exact so_fin hn (.tup _ (by simp)) ⟨rfl, by rw [PS.make, if_neg k1, if_neg k3, if_pos k7]; rfl⟩
 by_cases k11 : e.kind = 11
 ·have F := k11
  try refine sq F ?_
  refine wk F ?_
  refine kq F (PSraise_sat G _ 3 e.a (by omega) (by first | omega | (simp; omega))) ?_
  refine ee hQ F ?_
  exact so_fin hn (.tup _ (by simp)) ⟨rfl, by rw [PS.make, if_neg k1, if_neg k3, if_neg k7, if_pos k11]; rfl⟩
 have n1 : (e.kind == 1) = false := by simp [k1]
 have n3 : (e.kind == 3) = false := by simp [k3]
 have n7 : (e.kind == 7) = false := by simp [k7]
 have n11 : (e.kind == 11) = false := by simp [k11]
 have F := F4 n1 n3 n7 n11
 try refine sq F ?_
 refine wk F ?_
 refine ee hQ F ?_
 exact so_fin hn (.tup _ (by simp)) ⟨rfl, by rw [PS.make, if_neg k1, if_neg k3, if_neg k7, if_neg k11]⟩
end Go.Av
namespace Go.Av
open Go Go.Proofs Go.RowKit
attribute [local irreducible] WP WPl WPix Sat
set_option maxRecDepth 100000
set_option maxHeartbeats 2000000
section
variable {κ α : Type} [DecidableEq κ]
theorem dlM_filter {l : ML κ α} (hn : (l.map (·.1)).Nodup) (x : κ) : dlM l x = l.filter fun e => !decide (e.1 = x) := by
 induction l with
 | nil => rfl
 | cons e l ih =>
  rw [List.map_cons, List.nodup_cons] at hn
  rw [dlM]
  by_cases h : x = e.1
  ·subst h
   rw [if_pos rfl, List.filter_cons_of_neg (by simp), List.filter_eq_self.2]
   intro d hd
   have : d.1 ≠ e.1 := fun q => hn.1 (List.mem_map.2 ⟨d, hd, q⟩)
   simp [this]
  ·rw [if_neg h, List.filter_cons_of_pos (by simp; exact fun q => h q.symm), ih hn.2]
omit [DecidableEq κ] in
theorem WFM.filter {l : ML κ α} {c : Nat} (w : WFM l c) (p : κ × α × Nat → Bool) : WFM (l.filter p) c :=
 ⟨(List.filter_sublist.map _).nodup w.keys, (List.filter_sublist.map _).nodup w.borns, fun e he => w.lt e (List.mem_filter.1 he).1⟩
omit [DecidableEq κ] in
theorem WFM.born_inj {l : ML κ α} {c : Nat} (w : WFM l c) {d e : κ × α × Nat} (hd : d ∈ l) (he : e ∈ l) (h : d.2.2 = e.2.2) : d = e := by
 have hb := w.borns
 clear w
 induction l with
 | nil => cases hd
 | cons a l ih =>
  rw [List.map_cons, List.nodup_cons] at hb
  rcases List.mem_cons.1 hd with rfl | hd2
  ·rcases List.mem_cons.1 he with rfl | he2
   ·rfl
   ·exact (hb.1 (List.mem_map.2 ⟨e, he2, h.symm⟩)).elim
  ·rcases List.mem_cons.1 he with rfl | he2
   ·exact (hb.1 (List.mem_map.2 ⟨d, hd2, h⟩)).elim
   ·exact ih hd2 he2 hb.2
omit [DecidableEq κ] in
theorem WFM.key_inj {l : ML κ α} {c : Nat} (w : WFM l c) {d e : κ × α × Nat} (hd : d ∈ l) (he : e ∈ l) (h : d.1 = e.1) : d = e := by
 have hb := w.keys
 clear w
 induction l with
 | nil => cases hd
 | cons a l ih =>
  rw [List.map_cons, List.nodup_cons] at hb
  rcases List.mem_cons.1 hd with rfl | hd2
  ·rcases List.mem_cons.1 he with rfl | he2
   ·rfl
   ·exact (hb.1 (List.mem_map.2 ⟨e, he2, h.symm⟩)).elim
  ·rcases List.mem_cons.1 he with rfl | he2
   ·exact (hb.1 (List.mem_map.2 ⟨d, hd2, h⟩)).elim
   ·exact ih hd2 he2 hb.2
end
def itS (l : ML Int It) (fid : Int) (seen : List Nat) : ML Int It := l.filter fun e => !(decide (e.2.1.feed = fid) && decide (e.2.2 ∈ seen))
def guS (l : ML Int It) (g : ML (Int × Bs) Int) (fid : Int) (seen : List Nat) : ML (Int × Bs) Int := g.filter fun e => !(l.any fun d => decide (d.2.1.feed = fid) && decide (d.2.2 ∈ seen) && decide (e.1 = (d.2.1.feed, d.2.1.guid)))
theorem itS_go {l : ML Int It} {c : Nat} (w : WFM l c) {fid : Int} {seen : List Nat} {e : Int × It × Nat} (he : e ∈ l) (hf : e.2.1.feed = fid) : dlM (itS l fid seen) e.1 = itS l fid (seen ++ [e.2.2]) := by
 unfold itS
 rw [dlM_filter (w.filter _).keys]
 rw [List.filter_filter]
 refine List.filter_congr fun d hd => ?_
 by_cases h : d = e
 ·subst h; simp [hf]
 ·have h1 : d.1 ≠ e.1 := fun q => h (w.key_inj hd he q)
  have h2 : d.2.2 ≠ e.2.2 := fun q => h (w.born_inj hd he q)
  simp [h1, h2]
theorem guS_go {l : ML Int It} {c c' : Nat} {g : ML (Int × Bs) Int} (w : WFM l c) (wg : WFM g c') {fid : Int} {seen : List Nat} {e : Int × It × Nat} (he : e ∈ l) (hf : e.2.1.feed = fid) : dlM (guS l g fid seen) (e.2.1.feed, e.2.1.guid) = guS l g fid (seen ++ [e.2.2]) := by
 unfold guS
 rw [dlM_filter (wg.filter _).keys]
 rw [List.filter_filter]
 refine List.filter_congr fun d hd => ?_
 rw [Bool.eq_iff_iff]
 simp only [Bool.and_eq_true, Bool.not_eq_true', decide_eq_false_iff_not, List.any_eq_false, Bool.and_eq_true, decide_eq_true_eq, not_and, List.mem_append, List.mem_singleton]
 constructor
 ·rintro ⟨h1, h2⟩ x hx ⟨h3, h4⟩ h5
  rcases h4 with h4 | h4
  ·exact h2 x hx ⟨h3, h4⟩ h5
  ·rw [w.born_inj hx he h4] at h5; exact h1 h5
 ·intro h
  exact ⟨fun h1 => h e he ⟨hf, .inr rfl⟩ h1, fun x hx h3 h5 => h x hx ⟨h3.1, .inl h3.2⟩ h5⟩
theorem itS_stay {l : ML Int It} {c : Nat} (w : WFM l c) {fid : Int} {seen : List Nat} {e : Int × It × Nat} (he : e ∈ l) (hf : e.2.1.feed ≠ fid) : itS l fid (seen ++ [e.2.2]) = itS l fid seen := by
 unfold itS
 refine List.filter_congr fun d hd => ?_
 by_cases h : d = e
 ·subst h; simp [hf]
 ·have h2 : d.2.2 ≠ e.2.2 := fun q => h (w.born_inj hd he q)
  simp [h2]
theorem guS_stay {l : ML Int It} {c : Nat} {g : ML (Int × Bs) Int} (w : WFM l c) {fid : Int} {seen : List Nat} {e : Int × It × Nat} (he : e ∈ l) (hf : e.2.1.feed ≠ fid) : guS l g fid (seen ++ [e.2.2]) = guS l g fid seen := by
 unfold guS
 refine List.filter_congr fun d hd => ?_
 rw [Bool.eq_iff_iff]
 simp only [Bool.not_eq_true', List.any_eq_false, Bool.and_eq_true, decide_eq_true_eq, not_and, List.mem_append, List.mem_singleton]
 constructor
 ·intro h x hx h3 h5
  exact h x hx ⟨h3.1, .inl h3.2⟩ h5
 ·rintro h x hx ⟨h3, h4⟩ h5
  rcases h4 with h4 | h4
  ·exact h x hx ⟨h3, h4⟩ h5
  ·rw [w.born_inj hx he h4] at h3; exact hf h3
theorem itS_end {l : ML Int It} {fid : Int} {seen : List Nat} (h : ∀ e ∈ itS l fid seen, e.2.2 ∈ seen) : ∀ e ∈ l, e.2.1.feed = fid → e.2.2 ∈ seen := by
 intro e he hf
 apply Classical.byContradiction
 intro hs
 exact hs (h e (List.mem_filter.2 ⟨he, by simp [hs]⟩))
theorem itS_nil (l : ML Int It) (fid : Int) : itS l fid [] = l := by unfold itS; simp
theorem guS_nil (l : ML Int It) (g : ML (Int × Bs) Int) (fid : Int) : guS l g fid [] = g := by unfold guS; simp
def itF (l : ML Int It) (fid : Int) : ML Int It := l.filter fun e => !decide (e.2.1.feed = fid)
def guF (l : ML Int It) (g : ML (Int × Bs) Int) (fid : Int) : ML (Int × Bs) Int := g.filter fun e => !(l.any fun d => decide (d.2.1.feed = fid) && decide (e.1 = (d.2.1.feed, d.2.1.guid)))
theorem itS_all {l : ML Int It} {fid : Int} {seen : List Nat} (h : ∀ e ∈ l, e.2.1.feed = fid → e.2.2 ∈ seen) : itS l fid seen = itF l fid := by
 unfold itS itF
 refine List.filter_congr fun d hd => ?_
 by_cases hf : d.2.1.feed = fid
 ·simp [hf, h d hd hf]
 ·simp [hf]
theorem guS_all {l : ML Int It} {g : ML (Int × Bs) Int} {fid : Int} {seen : List Nat} (h : ∀ e ∈ l, e.2.1.feed = fid → e.2.2 ∈ seen) : guS l g fid seen = guF l g fid := by
 unfold guS guF
 refine List.filter_congr fun d hd => ?_
 rw [Bool.eq_iff_iff]
 simp only [Bool.not_eq_true', List.any_eq_false, Bool.and_eq_true, decide_eq_true_eq, not_and]
 constructor
 ·intro h1 x hx h3; exact h1 x hx ⟨h3, h x hx h3⟩
 ·intro h1 x hx h3; exact h1 x hx h3.1
variable (G : Nat → Option (List AVal))
def PS.dlFe (s : PS) (k : Int) : PS := { s with fe := dlM s.fe k }
def PS.dlPl (s : PS) (k : Bs) : PS := { s with pl := dlM s.pl k }
def PS.unfeed (s : PS) (f : Fe) : PS := ((({ s with it := itF s.it f.id, gu := guF s.it s.gu f.id } : PS).dlPl f.url).dlFe f.id).hold f.inn (-1)
theorem PSunfeed_sat (s : PS) (f : Fe) (hw : WFM s.it s.c3) (hg : WFM s.gu s.c7) (hf : s.few) {H : Heap} {n : Nat} (hn : n + 9 ≤ H.length) : Sat (CT G) 53 [.hp (n + 8) 0 0 0, f.av] (so H n s) (fun r h' => r = .tup [] ∧ h' = so H n (s.unfeed f)) := by
 refine sb [] (fn := Tryz.f53) Tryz.func53 ?_
 intro Q hQ
 refine wk trivial ?_
 refine lm (fun nL tL hL => ∃ (hh : Heap) (seen : List Nat), leftM (itS s.it f.id seen) seen = nL ∧ so hh n { s with it := itS s.it f.id seen, gu := guS s.it s.gu f.id seen } = hL ∧ tL 0 = .hp (n + 8) 0 0 0 ∧ tL 3 = .hp H.length 0 0 0 ∧ tL 10 = .hp (H.length + 1) 0 0 0 ∧ (FrN H.length H hh ∧ H.length + 1 < hh.length) ∧ getRow hh H.length 0 = some (51, 4, [.agg [.int .i64 f.id, .int .i64 f.inn, .str f.url, .str f.title]]) ∧ hh[H.length + 1]? = some (.mit (n + 2) s.c3 seen s.c3)) ((fun (hh : Heap) (seen : List Nat) => (leftM (itS s.it f.id seen) seen : Nat)) (H ++ [.row 51 4 0 [.agg [.int .i64 f.id, .int .i64 f.inn, .str f.url, .str f.title]], .mit (n + 2) s.c3 [] s.c3]) ([])) ?_ ?_
 ·refine Wkn.refl ⟨H ++ [.row 51 4 0 [.agg [.int .i64 f.id, .int .i64 f.inn, .str f.url, .str f.title]], .mit (n + 2) s.c3 [] s.c3], [], rfl, by rw [itS_nil, guS_nil], ?_, ?_, ?_, ⟨FrN.app _ (by omega) (FrN.refl _ _), by simp⟩, by rw [gs_new0 _ rfl]; rfl, by simp⟩
  all_goals first | exact zq trivial | rfl | omega | trivial | skip
 rintro _ s2 h' ⟨hh, seen, rfl, rfl, e0, e3, e10, hfr, hgr, hi⟩ K2 hK2
 simp only [mix_cons, mix_nil, Nat.reduceEqDiff, ↓reduceIte] at e0 e3 e10
 have F := F3 e0 e3 e10
 refine wk F ?_
 obtain ⟨hfr, hfl⟩ := hfr
 have hn1 : n + 9 ≤ hh.length := by omega
 refine nextM_at (q := n + 2) (c := s.c3) (seen := seen) (l := itS s.it f.id seen) (by rw [so_get hn1 (by omega)]; exact hi) (so_m3 hn1) (hw.filter _).lt (fun e he hs => ?_) (fun hall => ?_)
 ·have F := F3 F hgr @heapF
  try refine sq F ?_
  refine wk F ?_
  have hel := (List.mem_filter.1 he).1
  refine entry_at (q := n + 2) (l := itS s.it f.id seen) (by rw [so_get (by simpa using hn1) (by omega), List.getElem?_set_self hfl]) (so_m3 (by simpa using hn1)) (hw.filter _) he ?_
  try refine sq F ?_
  refine wk F ?_
  refine cq F (fun c1 => ?_) (fun c1 => ?_) <;> (try exact c1.elim) <;> (refine wk F ?_)
  ·have hlt : leftM (itS s.it f.id (seen ++ [e.2.2])) (seen ++ [e.2.2]) < leftM (itS s.it f.id seen) seen := by rw [← itS_go hw hel c1]; exact leftM_lt he hs (dlM_sub _ _)
   refine hK2 _ _ _ (Wkn.refl ⟨hh.set (H.length + 1) (.mit (n + 2) s.c3 (seen ++ [e.2.2]) s.c3) ++ [.row 82 9 0 [e.2.1.av]], seen ++ [e.2.2], rfl, by rw [← itS_go hw hel c1, ← guS_go hw hg hel c1]; rfl, ?_, ?_, ?_, ⟨FrN.app _ (by simp; omega) (FrN.set _ (by omega) hfr), by simp; omega⟩, by rw [gs_old _ (by simp; omega), gs_ne _ _ (by omega)]; exact hgr, by rw [List.getElem?_append_left (by simp; omega), List.getElem?_set_self hfl]⟩) (by omega)
   all_goals first | exact zq F | rfl | omega | trivial | skip
  ·have hlt : leftM (itS s.it f.id (seen ++ [e.2.2])) (seen ++ [e.2.2]) < leftM (itS s.it f.id seen) seen := by rw [itS_stay hw hel c1]; exact leftM_lt he hs (List.Sublist.refl _)
   refine hK2 _ _ _ (Wkn.refl ⟨hh.set (H.length + 1) (.mit (n + 2) s.c3 (seen ++ [e.2.2]) s.c3) ++ [.row 82 9 0 [e.2.1.av]], seen ++ [e.2.2], rfl, by rw [itS_stay hw hel c1, guS_stay hw hel c1]; rfl, ?_, ?_, ?_, ⟨FrN.app _ (by simp; omega) (FrN.set _ (by omega) hfr), by simp; omega⟩, by rw [gs_old _ (by simp; omega), gs_ne _ _ (by omega)]; exact hgr, by rw [List.getElem?_append_left (by simp; omega), List.getElem?_set_self hfl]⟩) (by omega)
   all_goals first | exact zq F | rfl | omega | trivial | skip
 ·have hx := itS_end hall
  rw [itS_all hx, guS_all hx]
  have F := F2 F hgr
  try refine sq F ?_
  refine wk F ?_
  refine kq F (PShold_sat G _ f.inn (-1) (PS.few1 (s := (({ s with it := itF s.it f.id, gu := guF s.it s.gu f.id } : PS).dlPl f.url).dlFe f.id) hf f.inn) (by omega) hn1) ?_
  obtain ⟨j, hj⟩ := hfr.behind (by omega)
  subst hj
  refine ee hQ F ?_
  exact so_fin hn (.tup _ (by simp)) ⟨rfl, rfl⟩
end Go.Av
namespace Go.Av
open Go Go.Proofs Go.RowKit
attribute [local irreducible] WP WPl WPix Sat
set_option maxRecDepth 100000
set_option maxHeartbeats 4000000
variable (G : Nat → Option (List AVal))
def PS.dlNm (s : PS) (k : Int × Bs) : PS := { s with nm := dlM s.nm k }
def PS.dlFo (s : PS) (k : Int) : PS := { s with fo := dlM s.fo k }
def PS.dlSe (s : PS) (k : Int) : PS := { s with se := dlM s.se k }
def PS.after (s : PS) (tg : List Bs) (e : Ev) : PS :=
 if e.kind = 2 then (((s.dlNm (((lkM s.fo e.a).getD Fo.z).inn, ((lkM s.fo e.a).getD Fo.z).name)).dlFo e.a).hold ((lkM s.fo e.a).getD Fo.z).inn (-1))
 else if e.kind = 4 then s.unfeed ((lkM s.fe e.a).getD Fe.z)
 else if e.kind = 5 then s.upFe e.a { (lkM s.fe e.a).getD Fe.z with title := e.t }
 else if e.kind = 6 then ((s.hold ((lkM s.fe e.a).getD Fe.z).inn (-1)).hold e.b 1).upFe e.a { (lkM s.fe e.a).getD Fe.z with inn := e.b }
 else if e.kind = 8 then s.upIt e.a { (lkM s.it e.a).getD It.z with read := e.n == 1 }
 else if e.kind = 9 then s.upIt e.a { (lkM s.it e.a).getD It.z with star := e.n == 1 }
 else if e.kind = 10 then s.upIt e.a { (lkM s.it e.a).getD It.z with tags := tg }
 else if e.kind = 12 then s.dlSe e.a
 else if e.kind = 13 then { s with clock := e.n }
 else s.make e
theorem PSApply_sat (s : PS) (e : Ev) (b : Bool) (tg : List Bs) (hw : WFM s.it s.c3) (hg : WFM s.gu s.c7) (hf : s.few) (hf2 : (s.hold ((lkM s.fe e.a).getD Fe.z).inn (-1)).few)
  (hF : ∀ (n : Nat) (H : Heap), n + 9 ≤ H.length → Sat (CT G) 51 [.hp (n + 8) 0 0 0, e.av] (so H n s) (fun r h' => r = .bool b ∧ h' = so H n s))
  (hT : ∀ (n : Nat) (H : Heap), n + 9 ≤ H.length → Sat (CT G) 54 [.hp (n + 8) 0 0 0, e.av] (so H n s) (fun r h' => r = .sl 1 (tg.map .str) ∧ h' = so H n s))
  {H : Heap} {n : Nat} (hn : n + 9 ≤ H.length) : Sat (CT G) 21 [.hp (n + 8) 0 0 0, e.av] (so H n s) (fun r h' => r = .bool b ∧ h' = so H n (if b then s.after tg e else s)) := by
 cases b with
 | false =>
  refine sb [.tmp 4] (fn := Tryz.f21) Tryz.func21 ?_
  intro Q hQ
  refine wk trivial ?_
  refine kq trivial (hF n _ (by first | omega | (simp; omega))) ?_
  refine ee hQ trivial ?_
  exact so_fin hn (.bool _) ⟨rfl, rfl⟩
 | true =>
  refine sb [.tmp 4] (fn := Tryz.f21) Tryz.func21 ?_
  intro Q hQ
  refine wk trivial ?_
  refine kq trivial (hF n _ (by first | omega | (simp; omega))) ?_
  refine WP_draw8 17 [14, 15, 16] [true, true, true, true, true, true, true, true, true, true, true, true, true, true, false, false, false] (.two 14 [false, true, true, true, true, true, true, false, true, true, true, true, true, true] (.one 15 [false, true, true, true, true, true, true, false, true, true, true, true, true, true] (.one 16 [false, false, false, false, false, false, false, false, true, true, true, true, true, true] .fin)) 15 [false, true, true, true, true, true, true, false, true, true, true, true, true, true] (.one 14 [false, true, true, true, true, true, true, false, true, true, true, true, true, true] (.one 16 [false, false, false, false, false, false, false, false, true, true, true, true, true, true] .fin))) (by decide +kernel) (by kernel_rfl) (by decide +kernel) ?_
  simp only [maskL_t, maskL_f, maskL_n]
  try refine sq trivial ?_
  repeat' (first | (refine WPe_finI ?_; try refine sq trivial ?_) | (refine WPe_oneI ?_; try refine sq trivial ?_) | (refine WPe_twoI ?_ ?_ <;> try refine sq trivial ?_))
  all_goals try refine wk trivial ?_
  all_goals (
   by_cases k2 : e.kind = 2
   ·have F := k2
    try refine sq F ?_
    refine wk F ?_
    refine WP_draw8 8 [7] [true, true, true, true, true, true, true, false] (.one 7 [false, true, true, true, true, true, true] .fin) (by decide +kernel) (by kernel_rfl) (by decide +kernel) ?_
    simp only [maskL_t, maskL_f, maskL_n]
    try refine sq F ?_
    repeat' (first | (refine WPe_finI ?_; try refine sq F ?_) | (refine WPe_oneI ?_; try refine sq F ?_) | (refine WPe_twoI ?_ ?_ <;> try refine sq F ?_))
    all_goals try refine wk F ?_
    refine kq F (PShold_sat G _ _ (-1) (PS.few1 (s := ((s.dlNm (((lkM s.fo e.a).getD Fo.z).inn, ((lkM s.fo e.a).getD Fo.z).name)).dlFo e.a)) hf _) (by omega) (by first | omega | (simp; omega))) ?_
    refine ee hQ F ?_
    exact so_fin hn (.bool _) ⟨rfl, by rw [PS.after, if_pos k2]; try rfl⟩
   by_cases k4 : e.kind = 4
   ·have F := k4
    try refine sq F ?_
    refine wk F ?_
    refine kq F (PSunfeed_sat G s ((lkM s.fe e.a).getD Fe.z) hw hg hf (by first | omega | (simp; omega))) ?_
    refine ee hQ F ?_
    exact so_fin hn (.bool _) ⟨rfl, by rw [PS.after, if_neg (by omega), if_pos k4]; try rfl⟩
   by_cases k5 : e.kind = 5
   ·have F := k5
    try refine sq F ?_
    refine wk F ?_
    refine ee hQ F ?_
    exact so_fin hn (.bool _) ⟨rfl, by rw [PS.after, if_neg (by omega), if_neg (by omega), if_pos k5]; try rfl⟩
   by_cases k6 : e.kind = 6
   ·have F := k6
    try refine sq F ?_
    refine wk F ?_
    refine kq F (PShold_sat G s _ (-1) (PS.few1 hf _) (by omega) (by first | omega | (simp; omega))) ?_
    refine kq F (PShold_sat G _ e.b 1 (PS.few1 hf2 _) (by omega) (by first | omega | (simp; omega))) ?_
    refine ee hQ F ?_
    exact so_fin hn (.bool _) ⟨rfl, by rw [PS.after, if_neg (by omega), if_neg (by omega), if_neg (by omega), if_pos k6]; try rfl⟩
   by_cases k8 : e.kind = 8
   ·have F := k8
    try refine sq F ?_
    refine wk F ?_
    refine ee hQ F ?_
    exact so_fin hn (.bool _) ⟨rfl, by rw [PS.after, if_neg (by omega), if_neg (by omega), if_neg (by omega), if_neg (by omega), if_pos k8]; try rfl⟩
   by_cases k9 : e.kind = 9
   ·have F := k9
    try refine sq F ?_
    refine wk F ?_
    refine ee hQ F ?_
    exact so_fin hn (.bool _) ⟨rfl, by rw [PS.after, if_neg (by omega), if_neg (by omega), if_neg (by omega), if_neg (by omega), if_neg (by omega), if_pos k9]; try rfl⟩
   by_cases k10 : e.kind = 10
   ·have F := k10
    try refine sq F ?_
    refine wk F ?_
    have hT2 := hT
    simp only [Ev.av_eq, k10] at hT2
    refine kq F (hT2 n _ (by first | omega | (simp; omega))) ?_
    refine ee hQ F ?_
    exact so_fin hn (.bool _) ⟨rfl, by rw [PS.after, if_neg (by omega), if_neg (by omega), if_neg (by omega), if_neg (by omega), if_neg (by omega), if_neg (by omega), if_pos k10]; try rfl⟩
   by_cases k12 : e.kind = 12
   ·have F := k12
    try refine sq F ?_
    refine wk F ?_
    refine ee hQ F ?_
    exact so_fin hn (.bool _) ⟨rfl, by rw [PS.after, if_neg (by omega), if_neg (by omega), if_neg (by omega), if_neg (by omega), if_neg (by omega), if_neg (by omega), if_neg (by omega), if_pos k12]; try rfl⟩
   by_cases k13 : e.kind = 13
   ·have F := k13
    try refine sq F ?_
    refine wk F ?_
    refine ee hQ F ?_
    exact so_fin hn (.bool _) ⟨rfl, by rw [PS.after, if_neg (by omega), if_neg (by omega), if_neg (by omega), if_neg (by omega), if_neg (by omega), if_neg (by omega), if_neg (by omega), if_neg (by omega), if_pos k13]; try rfl⟩
   have n2 : (e.kind == 2) = false := by simp [k2]
   have n4 : (e.kind == 4) = false := by simp [k4]
   have n5 : (e.kind == 5) = false := by simp [k5]
   have n6 : (e.kind == 6) = false := by simp [k6]
   have n8 : (e.kind == 8) = false := by simp [k8]
   have n9 : (e.kind == 9) = false := by simp [k9]
   have n10 : (e.kind == 10) = false := by simp [k10]
   have n12 : (e.kind == 12) = false := by simp [k12]
   have n13 : (e.kind == 13) = false := by simp [k13]
   have F := F9 n2 n4 n5 n6 n8 n9 n10 n12 n13
   try refine sq F ?_
   refine wk F ?_
   refine kq F (PSmake_sat G s e hf (by first | omega | (simp; omega))) ?_
   refine ee hQ F ?_
   exact so_fin hn (.bool _) ⟨rfl, by rw [PS.after, if_neg k2, if_neg k4, if_neg k5, if_neg k6, if_neg k8, if_neg k9, if_neg k10, if_neg k12, if_neg k13]⟩)
end Go.Av
namespace Go.Av
open Go Go.Proofs Go.RowKit
attribute [local irreducible] WP WPl WPix Sat
set_option maxRecDepth 100000
set_option maxHeartbeats 2000000
def idF (n : Int) : Bool := decide (1 ≤ n) && decide (n ≤ 1048576)
structure Leaf where
 label : Bs → Bool
 title : Bs → Bool
 link : Bs → Bool
 tag : Bs → Bool
 query : Bs → Bool
 moment : Int → Bool
def Leaf.place (L : Leaf) (t : Bs) : Bool := !(t == []) && L.link t
def Leaf.right (L : Leaf) (e : Ev) : Bool :=
 if e.kind = 1 then idF e.a && ((e.b == 0 || idF e.b) && L.label e.s)
 else if e.kind = 2 ∨ e.kind = 4 ∨ e.kind = 12 then idF e.a
 else if e.kind = 3 then idF e.a && ((e.b == 0 || idF e.b) && (L.place e.s && L.title e.t))
 else if e.kind = 5 then idF e.a && L.title e.t
 else if e.kind = 6 then idF e.a && (e.b == 0 || idF e.b)
 else if e.kind = 7 then idF e.a && (idF e.b && (L.moment e.n && (L.place e.s && (L.title e.t && L.link e.u))))
 else if e.kind = 8 ∨ e.kind = 9 then idF e.a && (e.n == 0 || e.n == 1)
 else if e.kind = 10 then idF e.a && ((e.n == 0 || e.n == 1) && L.tag e.s)
 else if e.kind = 11 then idF e.a && (L.label e.s && L.query e.t)
 else if e.kind = 13 then L.moment e.n
 else false
def usedE (e : Ev) : Ev :=
 if e.kind = 1 then ⟨e.kind, e.a, e.b, 0, e.s, [], []⟩
 else if e.kind = 3 then ⟨e.kind, e.a, e.b, 0, e.s, e.t, []⟩
 else if e.kind = 5 then ⟨e.kind, e.a, 0, 0, [], e.t, []⟩
 else if e.kind = 6 then ⟨e.kind, e.a, e.b, 0, [], [], []⟩
 else if e.kind = 7 then e
 else if e.kind = 8 ∨ e.kind = 9 then ⟨e.kind, e.a, 0, e.n, [], [], []⟩
 else if e.kind = 10 then ⟨e.kind, e.a, 0, e.n, e.s, [], []⟩
 else if e.kind = 11 then ⟨e.kind, e.a, 0, 0, e.s, e.t, []⟩
 else if e.kind = 13 then ⟨e.kind, 0, 0, e.n, [], [], []⟩
 else ⟨e.kind, e.a, 0, 0, [], [], []⟩
instance : DecidableEq Ev := fun x y => by
 cases x; cases y; simp only [Ev.mk.injEq]; exact inferInstance
def Leaf.ck (L : Leaf) (e : Ev) : Bool := L.right e && decide (usedE e = e)
@[go_sem] theorem abin_ev (h : Heap) (d e : Ev) : abin Tryz.prog h .neq 45 (.agg [.int .i64 d.kind, .int .i64 d.a, .int .i64 d.b, .int .i64 d.n, .str d.s, .str d.t, .str d.u]) (.agg [.int .i64 e.kind, .int .i64 e.a, .int .i64 e.b, .int .i64 e.n, .str e.s, .str e.t, .str e.u]) = some (.bool (!decide (d = e))) := by
 obtain ⟨a1, a2, a3, a4, a5, a6, a7⟩ := d
 obtain ⟨b1, b2, b3, b4, b5, b6, b7⟩ := e
 simp only [abin, go_sem, aeqL, aeq1, ↓reduceIte, Option.map_some, Option.some.injEq, AVal.bool.injEq, Ev.mk.injEq, Bool.not_inj_iff]
 rw [Bool.eq_iff_iff]
 simp
theorem Ev.clo (N : Nat) (e : Ev) : Clo N e.av := .agg _ fun x hx => by
 simp only [List.mem_cons, List.not_mem_nil, or_false] at hx
 rcases hx with rfl | rfl | rfl | rfl | rfl | rfl | rfl <;> first | exact .int _ _ | exact .str _
theorem clo7 (N : Nat) (a b c d : Int) (s t u : Bs) : Clo N (.agg [.int .i64 a, .int .i64 b, .int .i64 c, .int .i64 d, .str s, .str t, .str u]) := Ev.clo N ⟨a, b, c, d, s, t, u⟩
variable (G : Nat → Option (List AVal))
theorem PEid_sat (n : Int) (h : Heap) : Sat (CT G) 192 [.int .i64 n] h (fun r h' => r = .bool (idF n) ∧ h' = h) := by
 by_cases k : 1 ≤ n
 ·have k2 : decide (n ≥ 1) = true := by simpa using k
  have F := k2
  refine sb [.tmp 2] (fn := Tryz.f192) Tryz.func192 ?_
  intro Q hQ
  refine wk F ?_
  refine ee hQ F ?_
  exact Fin.same (.bool _) ⟨by simp [idF, k], rfl⟩
 ·have k2 : decide (n ≥ 1) = false := by simpa using k
  have F := k2
  refine sb [.tmp 2] (fn := Tryz.f192) Tryz.func192 ?_
  intro Q hQ
  refine wk F ?_
  refine ee hQ F ?_
  exact Fin.same (.bool _) ⟨by simp [idF, k], rfl⟩
theorem PEused_sat (e : Ev) (h : Heap) : Sat (CT G) 147 [e.av] h (fun r h' => r = (usedE e).av ∧ h' = h) := by
 by_cases k1 : e.kind = 1
 ·have F := k1
  skip
  refine sb [.cell 2 45] (fn := Tryz.f147) Tryz.func147 ?_
  intro Q hQ
  refine wn F ?_
  refine WP_draw8 6 [5] [true, true, true, true, true, false] (.one 5 [false, false, true, true] .fin) (by decide +kernel) (by kernel_rfl) (by decide +kernel) ?_
  simp only [maskL_t, maskL_f, maskL_n]
  try refine sq F ?_
  repeat' (first | (refine WPe_finI ?_; try refine sq F ?_) | (refine WPe_oneI ?_; try refine sq F ?_) | (refine WPe_twoI ?_ ?_ <;> try refine sq F ?_))
  all_goals try refine wn F ?_
  skip
  all_goals (
   refine ye hQ F ?_
   exact Fin.plain (clo7 ..) ⟨by simp [usedE, Ev.av, k1], rfl⟩)
 by_cases k3 : e.kind = 3
 ·have F := k3
  skip
  refine sb [.cell 2 45] (fn := Tryz.f147) Tryz.func147 ?_
  intro Q hQ
  refine wn F ?_
  refine WP_draw8 10 [7, 9] [true, true, true, true, true, true, true, false, true, false] (.one 7 [false, false, true, true, true, true, false, false, true] (.one 9 [false, false, false, false, true, true] .fin)) (by decide +kernel) (by kernel_rfl) (by decide +kernel) ?_
  simp only [maskL_t, maskL_f, maskL_n]
  try refine sq F ?_
  repeat' (first | (refine WPe_finI ?_; try refine sq F ?_) | (refine WPe_oneI ?_; try refine sq F ?_) | (refine WPe_twoI ?_ ?_ <;> try refine sq F ?_))
  all_goals try refine wn F ?_
  skip
  all_goals (
   refine ye hQ F ?_
   exact Fin.plain (clo7 ..) ⟨by simp [usedE, Ev.av, k3], rfl⟩)
 by_cases k5 : e.kind = 5
 ·have F := k5
  skip
  refine sb [.cell 2 45] (fn := Tryz.f147) Tryz.func147 ?_
  intro Q hQ
  refine wn F ?_
  skip
  all_goals (
   refine ye hQ F ?_
   exact Fin.plain (clo7 ..) ⟨by simp [usedE, Ev.av, k5], rfl⟩)
 by_cases k6 : e.kind = 6
 ·have F := k6
  skip
  refine sb [.cell 2 45] (fn := Tryz.f147) Tryz.func147 ?_
  intro Q hQ
  refine wn F ?_
  skip
  all_goals (
   refine ye hQ F ?_
   exact Fin.plain (clo7 ..) ⟨by simp [usedE, Ev.av, k6], rfl⟩)
 by_cases k7 : e.kind = 7
 ·have F := k7
  skip
  refine sb [.cell 2 45] (fn := Tryz.f147) Tryz.func147 ?_
  intro Q hQ
  refine wn F ?_
  skip
  all_goals (
   refine ye hQ F ?_
   exact Fin.plain (clo7 ..) ⟨by simp [usedE, Ev.av, k7], rfl⟩)
 by_cases k8 : e.kind = 8
 ·have F := k8
  skip
  refine sb [.cell 2 45] (fn := Tryz.f147) Tryz.func147 ?_
  intro Q hQ
  refine wn F ?_
  skip
  all_goals (
   refine ye hQ F ?_
   exact Fin.plain (clo7 ..) ⟨by simp [usedE, Ev.av, k8], rfl⟩)
 by_cases k9 : e.kind = 9
 ·have F := k9
  skip
  refine sb [.cell 2 45] (fn := Tryz.f147) Tryz.func147 ?_
  intro Q hQ
  refine wn F ?_
  skip
  all_goals (
   refine ye hQ F ?_
   exact Fin.plain (clo7 ..) ⟨by simp [usedE, Ev.av, k9], rfl⟩)
 by_cases k10 : e.kind = 10
 ·have F := k10
  skip
  refine sb [.cell 2 45] (fn := Tryz.f147) Tryz.func147 ?_
  intro Q hQ
  refine wn F ?_
  refine WP_draw8 6 [5] [true, true, true, true, true, false] (.one 5 [false, false, true, true] .fin) (by decide +kernel) (by kernel_rfl) (by decide +kernel) ?_
  simp only [maskL_t, maskL_f, maskL_n]
  try refine sq F ?_
  repeat' (first | (refine WPe_finI ?_; try refine sq F ?_) | (refine WPe_oneI ?_; try refine sq F ?_) | (refine WPe_twoI ?_ ?_ <;> try refine sq F ?_))
  all_goals try refine wn F ?_
  skip
  all_goals (
   refine ye hQ F ?_
   exact Fin.plain (clo7 ..) ⟨by simp [usedE, Ev.av, k10], rfl⟩)
 by_cases k11 : e.kind = 11
 ·have F := k11
  skip
  refine sb [.cell 2 45] (fn := Tryz.f147) Tryz.func147 ?_
  intro Q hQ
  refine wn F ?_
  refine WP_draw8 6 [5] [true, true, true, true, true, false] (.one 5 [false, false, true, true] .fin) (by decide +kernel) (by kernel_rfl) (by decide +kernel) ?_
  simp only [maskL_t, maskL_f, maskL_n]
  try refine sq F ?_
  repeat' (first | (refine WPe_finI ?_; try refine sq F ?_) | (refine WPe_oneI ?_; try refine sq F ?_) | (refine WPe_twoI ?_ ?_ <;> try refine sq F ?_))
  all_goals try refine wn F ?_
  skip
  all_goals (
   refine ye hQ F ?_
   exact Fin.plain (clo7 ..) ⟨by simp [usedE, Ev.av, k11], rfl⟩)
 by_cases k13 : e.kind = 13
 ·have F := k13
  skip
  refine sb [.cell 2 45] (fn := Tryz.f147) Tryz.func147 ?_
  intro Q hQ
  refine wn F ?_
  refine WP_draw8 4 [3] [true, true, true, false] (.one 3 [true, true] .fin) (by decide +kernel) (by kernel_rfl) (by decide +kernel) ?_
  simp only [maskL_t, maskL_f, maskL_n]
  try refine sq F ?_
  repeat' (first | (refine WPe_finI ?_; try refine sq F ?_) | (refine WPe_oneI ?_; try refine sq F ?_) | (refine WPe_twoI ?_ ?_ <;> try refine sq F ?_))
  all_goals try refine wn F ?_
  skip
  all_goals (
   refine ye hQ F ?_
   exact Fin.plain (clo7 ..) ⟨by simp [usedE, Ev.av, k13], rfl⟩)
 have n1 : (e.kind == 1) = false := by simp [k1]
 have n3 : (e.kind == 3) = false := by simp [k3]
 have n5 : (e.kind == 5) = false := by simp [k5]
 have n6 : (e.kind == 6) = false := by simp [k6]
 have n7 : (e.kind == 7) = false := by simp [k7]
 have n8 : (e.kind == 8) = false := by simp [k8]
 have n9 : (e.kind == 9) = false := by simp [k9]
 have n10 : (e.kind == 10) = false := by simp [k10]
 have n11 : (e.kind == 11) = false := by simp [k11]
 have n13 : (e.kind == 13) = false := by simp [k13]
 have F := F10 n1 n3 n5 n6 n7 n8 n9 n10 n11 n13
 refine sb [.cell 2 45] (fn := Tryz.f147) Tryz.func147 ?_
 intro Q hQ
 refine wk F ?_
 refine ye hQ F ?_
 exact Fin.plain (clo7 ..) ⟨by simp [usedE, Ev.av, k1, k3, k5, k6, k7, k8, k9, k10, k11, k13], rfl⟩
theorem PECheck_sat (L : Leaf) (e : Ev) (hR : ∀ h, Sat (CT G) 146 [e.av] h (fun r h' => r = .bool (L.right e) ∧ h' = h)) (h : Heap) : Sat (CT G) 92 [e.av] h (fun r h' => r = .int .i64 (if L.ck e then 0 else 140) ∧ h' = h) := by
 cases hr : L.right e with
 | false =>
  rw [hr] at hR
  skip
  refine sb [.tmp 2] (fn := Tryz.f92) Tryz.func92 ?_
  intro Q hQ
  refine wn trivial ?_
  refine WP_draw6 4 (.two 4 (.two 5 (.one 6 (.one 7 (.one 8 .nil))) 6 (.one 5 (.one 7 (.one 8 .nil)))) 6 (.one 4 (.one 5 (.one 7 (.one 8 .nil))))) (by decide +kernel) (by kernel_rfl) (by decide +kernel) ?_
  simp only [List.take_succ_cons, List.take_zero]
  try refine sq trivial ?_
  repeat' (first | refine WPt_nil ?_ | (refine WPt_one rfl ?_; refine sq trivial ?_) | (refine WPt_two rfl rfl ?_ ?_ <;> refine sq trivial ?_))
  skip
  refine callS_of (hR _) ?_
  try refine sq trivial ?_
  refine wk trivial ?_
  repeat' (first | refine WPt_nil ?_ | (refine WPt_one rfl ?_; refine sq trivial ?_) | (refine WPt_two rfl rfl ?_ ?_ <;> refine sq trivial ?_))
  all_goals (
   refine wk trivial ?_
   refine ee hQ trivial ?_
   exact Fin.plain (.int _ _) ⟨by simp [Leaf.ck, hr], rfl⟩)
 | true =>
  rw [hr] at hR
  skip
  refine sb [.tmp 2] (fn := Tryz.f92) Tryz.func92 ?_
  intro Q hQ
  refine wn trivial ?_
  refine WP_draw6 4 (.two 4 (.two 5 (.one 6 (.one 7 (.one 8 .nil))) 6 (.one 5 (.one 7 (.one 8 .nil)))) 6 (.one 4 (.one 5 (.one 7 (.one 8 .nil))))) (by decide +kernel) (by kernel_rfl) (by decide +kernel) ?_
  simp only [List.take_succ_cons, List.take_zero]
  try refine sq trivial ?_
  repeat' (first | refine WPt_nil ?_ | (refine WPt_one rfl ?_; refine sq trivial ?_) | (refine WPt_two rfl rfl ?_ ?_ <;> refine sq trivial ?_))
  skip
  refine callS_of (hR _) ?_
  try refine sq trivial ?_
  refine wk trivial ?_
  repeat' (first | refine WPt_nil ?_ | (refine WPt_one rfl ?_; refine sq trivial ?_) | (refine WPt_two rfl rfl ?_ ?_ <;> refine sq trivial ?_))
  all_goals (
   refine (PEused_sat G e _).mono ?_
   rintro r h' ⟨rfl, rfl⟩
   try refine sq trivial ?_
   repeat' (first | refine WPt_nil ?_ | (refine WPt_one rfl ?_; refine sq trivial ?_) | (refine WPt_two rfl rfl ?_ ?_ <;> refine sq trivial ?_)))
  all_goals (
   try repeat' (first | refine WPt_nil ?_ | (refine WPt_one rfl ?_; refine sq trivial ?_) | (refine WPt_two rfl rfl ?_ ?_ <;> refine sq trivial ?_))
   by_cases hu : usedE e = e
   ·have hd : decide (usedE e = e) = true := by simp [hu]
    have F := hd
    try refine sq F ?_
    refine wk F ?_
    refine ee hQ F ?_
    exact Fin.plain (.int _ _) ⟨by simp [Leaf.ck, hr, hu], rfl⟩
   ·have hd : decide (usedE e = e) = false := by simp [hu]
    have F := hd
    try refine sq F ?_
    refine wk F ?_
    refine ee hQ F ?_
    exact Fin.plain (.int _ _) ⟨by simp [Leaf.ck, hr, hu], rfl⟩)
end Go.Av
namespace Go.Av
open Go Go.Proofs Go.RowKit
attribute [local irreducible] WP WPl WPix Sat
set_option maxRecDepth 100000
set_option maxHeartbeats 4000000
variable (G : Nat → Option (List AVal))
theorem clo6 (N : Nat) (a b c d e f k : Int) : Clo N (.tup [.agg [.int .i64 a, .int .i64 b, .int .i64 c, .int .i64 d, .int .i64 e, .int .i64 f], .int .i64 k]) := .tup _ fun x hx => by
 simp only [List.mem_cons, List.not_mem_nil, or_false] at hx
 rcases hx with rfl | rfl
 ·exact clo_flat fun c hc => by simp at hc; rcases hc with rfl | rfl | rfl | rfl | rfl | rfl <;> simp
 ·exact .int _ _
def momF (n : Int) : Bool := decide (-62135596800 ≤ n) && decide (n ≤ 253402300799)
theorem Dwithin_sat (n a b : Int) (h : Heap) : Sat (CT G) 240 [.int .i64 n, .int .i64 a, .int .i64 b] h (fun r h' => r = .bool (decide (a ≤ n) && decide (n ≤ b)) ∧ h' = h) := by
 by_cases k : a ≤ n
 ·have k2 : decide (n ≥ a) = true := by simpa using k
  have F := k2
  refine sb [.tmp 6] (fn := Tryz.f240) Tryz.func240 ?_
  intro Q hQ
  refine wk F ?_
  refine ee hQ F ?_
  exact Fin.same (.bool _) ⟨by simp [k], rfl⟩
 ·have k2 : decide (n ≥ a) = false := by simpa using k
  have F := k2
  refine sb [.tmp 6] (fn := Tryz.f240) Tryz.func240 ?_
  intro Q hQ
  refine wk F ?_
  refine ee hQ F ?_
  exact Fin.same (.bool _) ⟨by simp [k], rfl⟩
theorem DOf_sat (n : Int) (h : Heap) : Sat (CT G) 204 [.int .i64 n] h (fun r h' => (∃ a b c d e f : Int, r = .tup [.agg [.int .i64 a, .int .i64 b, .int .i64 c, .int .i64 d, .int .i64 e, .int .i64 f], .int .i64 (if momF n then 0 else 40)]) ∧ h' = h) := by
 cases hm : momF n with
 | false =>
  unfold momF at hm
  have hW := Dwithin_sat G n (-62135596800) 253402300799
  rw [hm] at hW
  refine sb [.cell 2 236, .tmp 3] (fn := Tryz.f204) Tryz.func204 ?_
  intro Q hQ
  refine wk trivial ?_
  refine kq trivial (hW _) ?_
  refine ye hQ trivial ?_
  exact Fin.plain (clo6 ..) ⟨⟨_, _, _, _, _, _, rfl⟩, rfl⟩
 | true =>
  have hm2 := hm
  unfold momF at hm2
  have hW := Dwithin_sat G n (-62135596800) 253402300799
  rw [hm2] at hW
  simp only [Bool.and_eq_true, decide_eq_true_eq] at hm2
  obtain ⟨m1, m2⟩ := hm2
  refine sb [.cell 2 236, .tmp 3] (fn := Tryz.f204) Tryz.func204 ?_
  intro Q hQ
  refine wk trivial ?_
  refine kq trivial (hW _) ?_
  refine cq trivial (fun c1 => ?_) (fun c1 => ?_) <;> (try exact c1.elim) <;> (refine wk trivial ?_)
  ·refine ye hQ trivial ?_
   exact Fin.plain (clo6 ..) ⟨⟨_, _, _, _, _, _, rfl⟩, rfl⟩
  ·refine ye hQ trivial ?_
   exact Fin.plain (clo6 ..) ⟨⟨_, _, _, _, _, _, rfl⟩, rfl⟩
theorem Emoment_sat (n : Int) (h : Heap) : Sat (CT G) 196 [.int .i64 n] h (fun r h' => r = .bool (momF n) ∧ h' = h) := by
 refine sb [.tmp 2] (fn := Tryz.f196) Tryz.func196 ?_
 intro Q hQ
 refine wk trivial ?_
 refine (DOf_sat G n _).mono ?_
 rintro r h' ⟨⟨_, _, _, _, _, _, rfl⟩, rfl⟩
 cases hm : momF n
 ·have F := hm
  try refine sq F ?_
  refine wk F ?_
  refine ee hQ F ?_
  exact Fin.plain (.bool _) ⟨rfl, rfl⟩
 ·have F := hm
  try refine sq F ?_
  refine wk F ?_
  refine ee hQ F ?_
  exact Fin.plain (.bool _) ⟨rfl, rfl⟩
end Go.Av
