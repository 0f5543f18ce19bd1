/- Events: may one be? (the program's side: event.Check, over what the texts' checks reckon) -/
import Derived.Test.YtanjiiailjilbaaGreatMbSk
import Derived.Shelf.Strings.Builder1
import Derived.Shelf.Small.Bits
import Derived.Shelf.Small.Wraps
import Derived.Shelf.Strings.BuilderF
import Derived.Shelf.Strings.BuilderK
import Derived.Shelf.Utf8.AppendRunePlain
import Derived.Shelf.Strconv.Itoa0
import Derived.Shelf.Strings.Prefix
import Derived.Shelf.Strings.FieldsFuncAny
import Derived.Ground.Names2Prog
import Derived.Shelf.Slices.Clone
import Derived.Shelf.Slices.SearchI
import Derived.Shelf.Slices.Delete
import Derived.Shelf.Slices.Empties
import Derived.Ground.SlgmProg
import Derived.Shelf.SortM.Plain
import Derived.Shelf.SortM.SortNone
import Derived.Test.YtanjiiailjilbaaGreatProg
import Derived.Test.YtanjiiailjilbaaGreatMbDr3
import Derived.Lib.Builder
import Derived.Lib.TrimUEq
set_option linter.unusedSimpArgs false
set_option linter.unusedVariables false
set_option linter.unusedSectionVars false
set_option linter.unnecessarySimpa false
namespace Go.Av
open Go Go.Proofs Go.RowKit
attribute [local irreducible] WP WPl WPix Sat
set_option maxRecDepth 100000
set_option maxHeartbeats 2000000
section
variable {α : Type}
def ixO (key : α → Int) (id : Int) : List α → Option Nat
 | [] => none
 | a :: l => if key a = id then some 0 else (ixO key id l).map (· + 1)
def posF (key : α → Int) (l : List α) (id : Int) : Int := match ixO key id l with
 | some k => (k : Int)
 | none => -1
def fnd (key : α → Int) (l : List α) (id : Int) : Option α := l.find? fun a => decide (key a = id)
theorem ixO_some {key : α → Int} {id : Int} : ∀ {l : List α} {k : Nat} {a : α}, l[k]? = some a → key a = id → (∀ b ∈ l.take k, key b ≠ id) → ixO key id l = some k
 | [], k, a, h, _, _ => by simp at h
 | b :: l, 0, a, h, ha, _ => by simp at h; subst h; rw [ixO, if_pos ha]
 | b :: l, k + 1, a, h, ha, hf => by
  rw [ixO, if_neg (hf b (by simp)), ixO_some (by simpa using h) ha (fun c hc => hf c (by simp [hc]))]; rfl
theorem ixO_none {key : α → Int} {id : Int} : ∀ {l : List α}, (∀ b ∈ l, key b ≠ id) → ixO key id l = none
 | [], _ => rfl
 | b :: l, hf => by rw [ixO, if_neg (hf b (by simp)), ixO_none (fun c hc => hf c (by simp [hc]))]; rfl
theorem posF_some {key : α → Int} {id : Int} {l : List α} {k : Nat} {a : α} (h : l[k]? = some a) (ha : key a = id) (hf : ∀ b ∈ l.take k, key b ≠ id) : posF key l id = (k : Int) := by
 unfold posF; rw [ixO_some h ha hf]
theorem posF_none {key : α → Int} {id : Int} {l : List α} (hf : ∀ b ∈ l, key b ≠ id) : posF key l id = -1 := by
 unfold posF; rw [ixO_none hf]
theorem posF_at {key : α → Int} {id : Int} : ∀ {l : List α} {a : α}, fnd key l id = some a → ∃ k : Nat, l[k]? = some a ∧ posF key l id = (k : Int) ∧ key a = id
 | [], a, h => by simp [fnd] at h
 | b :: l, a, h => by
  unfold fnd at h
  rw [List.find?_cons] at h
  by_cases hb : key b = id
  ·rw [decide_eq_true hb] at h; simp at h; subst h
   exact ⟨0, rfl, by unfold posF; rw [ixO, if_pos hb], hb⟩
  ·rw [decide_eq_false hb] at h; simp at h
   obtain ⟨k, h1, h2, h3⟩ := posF_at (key := key) (l := l) h
   refine ⟨k + 1, by simpa using h1, ?_, h3⟩
   unfold posF at h2 ⊢
   rw [ixO, if_neg hb]
   cases hx : ixO key id l with
   | none => rw [hx] at h2; simp at h2
   | some j => rw [hx] at h2; simp at h2 ⊢; omega
end
variable (G : Nat → Option (List AVal))
theorem RFolder_sat (x : St) (id : Int) (hl : x.fo.length ≤ 100000) (h : Heap) : Sat (CT G) 127 [x.av, .int .i64 id] h (fun r h' => r = .int .i64 (posF (·.id) x.fo id) ∧ h' = h) := by
 have hel : (x.fo.map Fo.av).length = x.fo.length := List.length_map ..
 have F := hel
 refine sb [.tmp 4] (fn := Tryz.f127) Tryz.func127 ?_
 intro Q hQ
 refine wk F ?_
 refine lm (fun nL tL hL => ∃ (k : Nat), x.fo.length - k = nL ∧ h ++ [.row 34 9 0 [x.av]] = hL ∧ tL 1 = .int .i64 id ∧ tL 2 = .hp h.length 0 0 0 ∧ tL 5 = .int .i64 k ∧ k ≤ x.fo.length ∧ (∀ f ∈ x.fo.take k, f.id ≠ id)) ((fun (k : Nat) => (x.fo.length - k : Nat)) (0)) ?_ ?_
 ·refine Wkn.refl ⟨0, rfl, hpE, ?_, ?_, ?_, by omega, by simp⟩
  all_goals first | exact zq F | rfl | omega | trivial | skip
 rintro _ s2 h' ⟨k, rfl, rfl, e1, e2, e5, hk, hp⟩ K2 hK2
 simp only [mix_cons, mix_nil, Nat.reduceEqDiff, ↓reduceIte] at e1 e2 e5
 have F := F4 F e1 e2 e5
 refine wk F ?_
 refine cq F (fun c1 => ?_) (fun c1 => ?_) <;> (try exact c1.elim) <;> (refine wk F ?_)
 ·have c2 : k < x.fo.length := by omega
  obtain ⟨f, hf, hfm⟩ := getElem?_of_lt c2
  have F := F3 F c2 hf
  try refine sq F ?_
  refine wk F ?_
  refine cq F (fun c3 => ?_) (fun c3 => ?_) <;> (try exact c3.elim) <;> (refine wk F ?_)
  ·refine ee hQ F ?_
   exact Fin.plain (.int _ _) ⟨by rw [posF_some hf (by first | exact c3 | exact c3.symm) hp], rfl⟩
  ·have hp1 : ∀ g ∈ x.fo.take (k + 1), g.id ≠ id := by
    rw [List.take_add_one, hf]
    intro g hg
    simp at hg
    rcases hg with hg | rfl
    ·exact hp g hg
    ·exact c3
   refine hK2 _ _ _ (Wkn.refl ⟨k + 1, rfl, hpE, ?_, ?_, ?_, by omega, hp1⟩) (by omega)
   all_goals first | exact zq F | rfl | omega | trivial | skip
 ·rw [List.take_of_length_le (by omega)] at hp
  refine ee hQ F ?_
  exact Fin.plain (.int _ _) ⟨by rw [posF_none hp], rfl⟩
theorem RFeed_sat (x : St) (id : Int) (hl : x.fe.length ≤ 100000) (h : Heap) : Sat (CT G) 82 [x.av, .int .i64 id] h (fun r h' => r = .int .i64 (posF (·.id) x.fe id) ∧ h' = h) := by
 have hel : (x.fe.map Fe.av).length = x.fe.length := List.length_map ..
 have F := hel
 refine sb [.tmp 4] (fn := Tryz.f82) Tryz.func82 ?_
 intro Q hQ
 refine wk F ?_
 refine lm (fun nL tL hL => ∃ (k : Nat), x.fe.length - k = nL ∧ h ++ [.row 34 9 0 [x.av]] = hL ∧ tL 1 = .int .i64 id ∧ tL 2 = .hp h.length 0 0 0 ∧ tL 5 = .int .i64 k ∧ k ≤ x.fe.length ∧ (∀ f ∈ x.fe.take k, f.id ≠ id)) ((fun (k : Nat) => (x.fe.length - k : Nat)) (0)) ?_ ?_
 ·refine Wkn.refl ⟨0, rfl, hpE, ?_, ?_, ?_, by omega, by simp⟩
  all_goals first | exact zq F | rfl | omega | trivial | skip
 rintro _ s2 h' ⟨k, rfl, rfl, e1, e2, e5, hk, hp⟩ K2 hK2
 simp only [mix_cons, mix_nil, Nat.reduceEqDiff, ↓reduceIte] at e1 e2 e5
 have F := F4 F e1 e2 e5
 refine wk F ?_
 refine cq F (fun c1 => ?_) (fun c1 => ?_) <;> (try exact c1.elim) <;> (refine wk F ?_)
 ·have c2 : k < x.fe.length := by omega
  obtain ⟨f, hf, hfm⟩ := getElem?_of_lt c2
  have F := F3 F c2 hf
  try refine sq F ?_
  refine wk F ?_
  refine cq F (fun c3 => ?_) (fun c3 => ?_) <;> (try exact c3.elim) <;> (refine wk F ?_)
  ·refine ee hQ F ?_
   exact Fin.plain (.int _ _) ⟨by rw [posF_some hf (by first | exact c3 | exact c3.symm) hp], rfl⟩
  ·have hp1 : ∀ g ∈ x.fe.take (k + 1), g.id ≠ id := by
    rw [List.take_add_one, hf]
    intro g hg
    simp at hg
    rcases hg with hg | rfl
    ·exact hp g hg
    ·exact c3
   refine hK2 _ _ _ (Wkn.refl ⟨k + 1, rfl, hpE, ?_, ?_, ?_, by omega, hp1⟩) (by omega)
   all_goals first | exact zq F | rfl | omega | trivial | skip
 ·rw [List.take_of_length_le (by omega)] at hp
  refine ee hQ F ?_
  exact Fin.plain (.int _ _) ⟨by rw [posF_none hp], rfl⟩
end Go.Av
namespace Go.Proofs
open Go.Shelf
def Tryz.lays99_ren : Go.Shelf.Ren := ⟨fun | 99 => 173 | 206 => 219 | n => n, fun | 9 => 9 | 4 => 4 | 3 => 3 | n => n, fun | n => n⟩
theorem Tryz.lays99 : Go.Proofs.Lays.n99 Tryz.prog Tryz.lays99_ren := {
 mixed := by kernel_rfl
 f99 := Tryz.func173.trans (congrArg some (by kernel_rfl))
 f206 := Tryz.func219.trans (congrArg some (by kernel_rfl))
 t3 := Tryz.underlying3
 a3 := Tryz.isAgg3
 z3 := Tryz.sizeOf3
 v3 := Tryz.zeroValue3
 t4 := Tryz.underlying4
 a4 := Tryz.isAgg4
 z4 := Tryz.sizeOf4
 v4 := Tryz.zeroValue4
 t9 := Tryz.underlying9
 a9 := Tryz.isAgg9
 z9 := Tryz.sizeOf9
 v9 := Tryz.zeroValue9 }
open Go.RowKit Go.Lib in
theorem Tryz.strings_HasPrefix (s p : ByteArray) (w : World) :
  Calls Tryz.prog 173 #[.string s, .string p] w fun e w' => e = .returned (.bool (Lib.hasPrefix s.data.toList p.data.toList)) ∧ w' = w := Any.strings_HasPrefix Tryz.lays99 s p w
def Tryz.lays229_ren : Go.Shelf.Ren := ⟨fun | 229 => 251 | n => n, fun | 9 => 9 | 40 => 264 | 31 => 80 | 152 => 283 | 3 => 3 | 0 => 0 | 4 => 4 | 21 => 21 | 154 => 285 | n => n, fun | n => n⟩
theorem Tryz.lays229 : Go.Proofs.Lays.n229 Tryz.prog Tryz.lays229_ren := {
 mixed := by kernel_rfl
 f229 := Tryz.func251.trans (congrArg some (by kernel_rfl))
 t0 := Tryz.underlying0
 a0 := Tryz.isAgg0
 z0 := Tryz.sizeOf0
 v0 := Tryz.zeroValue0
 t3 := Tryz.underlying3
 a3 := Tryz.isAgg3
 z3 := Tryz.sizeOf3
 v3 := Tryz.zeroValue3
 t4 := Tryz.underlying4
 a4 := Tryz.isAgg4
 z4 := Tryz.sizeOf4
 v4 := Tryz.zeroValue4
 t9 := Tryz.underlying9
 a9 := Tryz.isAgg9
 z9 := Tryz.sizeOf9
 v9 := Tryz.zeroValue9
 t21 := Tryz.underlying21
 a21 := Tryz.isAgg21
 z21 := Tryz.sizeOf21
 v21 := Tryz.zeroValue21
 t31 := Tryz.underlying80
 a31 := Tryz.isAgg80
 z31 := Tryz.sizeOf80
 v31 := Tryz.zeroValue80
 t40 := Tryz.underlying264
 a40 := Tryz.isAgg264
 z40 := Tryz.sizeOf264
 v40 := Tryz.zeroValue264
 t152 := Tryz.underlying283
 a152 := Tryz.isAgg283
 z152 := Tryz.sizeOf283
 v152 := Tryz.zeroValue283
 t154 := Tryz.underlying285
 a154 := Tryz.isAgg285
 z154 := Tryz.sizeOf285
 v154 := Tryz.zeroValue285 }
open Go.RowKit Go.Lib in
theorem Tryz.strings_FieldsFunc (g : Nat) (lb : Array Value) (eg : ∀ args w, (callFunc g args).run Tryz.prog w = .ok (.enter g args) w) (p : Nat → Bool) (s : ByteArray) (w : World) (hs : s.size ≤ 4294967296) (hp : PredAt Tryz.prog g lb encR p w) :
  Calls Tryz.prog 251 #[.string s, .func (.func g) #[] lb] w fun e w' => ∃ A, e = .returned (.slice (some ⟨A, 0, none⟩) (Lib.goFieldsP p s).length (Lib.goFieldsP p s).length) ∧ w.heap.size ≤ A ∧
   w'.ownsRow w.heap.size 9 1 (.slice (some ⟨A, 0, none⟩) (Lib.goFieldsP p s).length (Lib.goFieldsP p s).length) (Lib.goFieldsP p s).length ((Lib.goFieldsP p s).map Value.string) ∧ Below w.heap.size w w' := Any.strings_FieldsFunc Tryz.lays229 g lb eg p s w hs hp (by kernel_rfl) (by kernel_rfl)
def Tryz.laysNm224_ren : Go.Shelf.Ren := ⟨fun | 24 => 98 | n => n, fun | 24 => 80 | 9 => 9 | 3 => 3 | 4 => 4 | 0 => 0 | n => n, fun | n => n⟩
theorem Tryz.laysNm224 : Go.Proofs.Lays2.n24 Tryz.prog Tryz.laysNm224_ren := {
 mixed := by kernel_rfl
 f24 := Tryz.func98.trans (congrArg some (by kernel_rfl))
 t0 := Tryz.underlying0
 a0 := Tryz.isAgg0
 z0 := Tryz.sizeOf0
 v0 := Tryz.zeroValue0
 t3 := Tryz.underlying3
 a3 := Tryz.isAgg3
 z3 := Tryz.sizeOf3
 v3 := Tryz.zeroValue3
 t4 := Tryz.underlying4
 a4 := Tryz.isAgg4
 z4 := Tryz.sizeOf4
 v4 := Tryz.zeroValue4
 t9 := Tryz.underlying9
 a9 := Tryz.isAgg9
 z9 := Tryz.sizeOf9
 v9 := Tryz.zeroValue9
 t24 := Tryz.underlying80
 a24 := Tryz.isAgg80
 z24 := Tryz.sizeOf80
 v24 := Tryz.zeroValue80
 i9 := by kernel_rfl }
open Go.RowKit Go.Lib Go.Sort in
theorem Tryz.slices_Delete_string (blk off cap i j : Nat) (zs : List (List UInt8)) (w : World) (hH : Holds encStr w blk off zs.toArray) (hcap : zs.length ≤ cap) (hm : cap ≤ 9223372036854775807) (hij : i ≤ j) (hj : j ≤ zs.length) :
  Calls Tryz.prog 98 #[.slice (some ⟨blk, off, none⟩) zs.length cap, .int .i64 i, .int .i64 j] w fun e w' => e = .returned (.slice (some ⟨blk, off, none⟩) (zs.length - (j - i)) cap) ∧ ∃ q, w' = putRow encStr (Sort.ahead w q) blk off (zs.take i ++ zs.drop j ++ List.replicate (j - i) []).toArray := Any.slices_Delete_string Tryz.laysNm224 blk off cap i j zs w hH hcap hm hij hj
end Go.Proofs
namespace Go.Av
open Go Go.Proofs Go.RowKit Go.Shelf Go.Lib
set_option maxRecDepth 100000
def letF (r : Nat) : Bool :=
 if r < 192 then (decide (97 ≤ r) && decide (r ≤ 122)) || (decide (48 ≤ r) && decide (r ≤ 57))
 else !(decide (r = 215) || decide (r = 247) || decide (r = 65533)) && !((decide (8192 ≤ r) && decide (r ≤ 8303)) || (decide (12288 ≤ r) && decide (r ≤ 12351)))
set_option maxHeartbeats 4000000 in
theorem letter_gives (W : World) (r : Nat) : Calls Tryz.prog 254 #[encR r] W fun e w' => e = .returned (.bool (letF r)) ∧ ∃ q, w' = W.drewN q := by
 by_cases h0 : r < 192
 ·by_cases h1 : 97 ≤ r <;> by_cases h2 : r ≤ 122 <;> by_cases h3 : 48 ≤ r <;> by_cases h4 : r ≤ 57
  all_goals first | (exfalso; omega) | skip
  all_goals
   have z0 : (r : Int) < 192 ↔ r < 192 := by omega
   have z1 : (97 : Int) ≤ (r : Int) ↔ 97 ≤ r := by omega
   have z2 : (r : Int) ≤ 122 ↔ r ≤ 122 := by omega
   have z3 : (48 : Int) ≤ (r : Int) ↔ 48 ≤ r := by omega
   have z4 : (r : Int) ≤ 57 ↔ r ≤ 57 := by omega
   go_enter Tryz.func254, Tryz.ntmps254
   go_wp2
   all_goals first | (exfalso; omega) | (go_ret; exact ⟨by simp [letF, h0, h1, h2, h3, h4], 0, rfl⟩)
 ·by_cases h1 : r = 215
  ·subst h1
   go_enter Tryz.func254, Tryz.ntmps254
   go_wp2
   all_goals first | (exfalso; omega) | (go_ret; exact ⟨by simp [letF], 0, rfl⟩)
  by_cases h2 : r = 247
  ·subst h2
   go_enter Tryz.func254, Tryz.ntmps254
   go_wp2
   all_goals first | (exfalso; omega) | (go_ret; exact ⟨by simp [letF], 0, rfl⟩)
  by_cases h3 : r = 65533
  ·subst h3
   go_enter Tryz.func254, Tryz.ntmps254
   go_wp2
   all_goals first | (exfalso; omega) | (go_ret; exact ⟨by simp [letF], 0, rfl⟩)
  by_cases h4 : 8192 ≤ r <;> by_cases h5 : r ≤ 8303 <;> by_cases h6 : 12288 ≤ r <;> by_cases h7 : r ≤ 12351
  all_goals first | (exfalso; omega) | skip
  all_goals
   have z0 : (r : Int) < 192 ↔ r < 192 := by omega
   have z1 : (r : Int) = 215 ↔ r = 215 := by omega
   have z2 : (r : Int) = 247 ↔ r = 247 := by omega
   have z3 : (r : Int) = 65533 ↔ r = 65533 := by omega
   have z4 : (8192 : Int) ≤ (r : Int) ↔ 8192 ≤ r := by omega
   have z5 : (r : Int) ≤ 8303 ↔ r ≤ 8303 := by omega
   have z6 : (12288 : Int) ≤ (r : Int) ↔ 12288 ≤ r := by omega
   have z7 : (r : Int) ≤ 12351 ↔ r ≤ 12351 := by omega
   go_enter Tryz.func254, Tryz.ntmps254
   go_wp2
   all_goals first | (exfalso; omega) | (exfalso; simp only [beq_iff_eq] at *; omega) | (go_ret; exact ⟨by simp [letF, h0, h1, h2, h3, h4, h5, h6, h7], 0, rfl⟩)
set_option maxHeartbeats 4000000 in
theorem sep_gives (w : World) : PredAt Tryz.prog 253 #[] encR (fun r => !letF r) w := fun W r _ => by
 unfold FnGives
 have hL := letter_gives
 go_enter Tryz.func253, Tryz.ntmps253
 go_wp2_with (go_at_call 254; refine (hL _ _).mono ?_; rintro e w' ⟨rfl, q, rfl⟩)
 go_ret
 exact ⟨rfl, _, rfl⟩
end Go.Av
namespace Go.Av
open Go Go.Proofs Go.RowKit
set_option maxRecDepth 100000
variable (G : Nat → Option (List AVal))
theorem NoEscape_sat (x : AVal) (h : Heap) : Sat (CT G) 288 [x] h (fun r h' => r = x ∧ h' = h) := by
 refine Sat.of_extern (fn := Tryz.f288) (ex := Extern.AbiNoEscape.same) Tryz.func288 (by kernel_rfl) (by kernel_rfl) (by kernel_rfl) (by kernel_rfl) fun B S μ w vs f r => ?_
 obtain ⟨hl, hr⟩ := r
 match vs, hl, hr with
 | [v], _, hr =>
  refine ⟨v, w, Lib.run_noEscape w v, x, h, S, μ, ⟨rfl, rfl⟩, Step.refl _ _ _ _, f, ?_⟩
  simpa using hr 0 x rfl
end Go.Av
namespace Go.Av
open Go Go.Proofs Go.RowKit
set_option maxRecDepth 100000
variable (G : Nat → Option (List AVal))
theorem below_same {w w' : World} (e : w' = w) : Below w.heap.size w w' := by rw [e]; exact Below.refl _ _
end Go.Av
namespace Go.Av
open Go Go.Proofs Go.RowKit
set_option maxRecDepth 100000
variable (G : Nat → Option (List AVal))
variable {G}
variable (G)
theorem HasPrefix_sat (s p : Bs) (h : Heap) :
  Sat (CT G) 173 [.str s, .str p] h (fun r h' => r = .bool (Lib.hasPrefix s p) ∧ h' = h) := by
 refine Sat.of_calls (fn := Tryz.f173) Tryz.func173 (by kernel_rfl) (by kernel_rfl) rfl rfl fun B S μ w f => ?_
 refine (Tryz.strings_HasPrefix ⟨s.toArray⟩ ⟨p.toArray⟩ w).mono fun e w' ⟨h1, h2⟩ => ⟨h1, below_same h2⟩
end Go.Av
namespace Go.Av
open Go Go.Proofs Go.RowKit
attribute [local irreducible] WP WPl WPix Sat
set_option maxRecDepth 100000
set_option maxHeartbeats 1000000
variable (G : Nat → Option (List AVal))
def bytA (b : UInt8) : AVal := .int .u8 b.toNat
def bldR (a : AVal) (q v : Nat) (s : Bs) : Blk := .row 288 2 0 [.agg [a, .hs q v 0 s.length true]]
def bufR (v : Nat) (s : Bs) : Blk := .row 5 1 v (s.map bytA)
def bldA (a : AVal) (p : Nat) : Prop := a = .nil (.pointer none) ∨ a = .hp p 0 0 0
theorem bytesA_map (s : Bs) : bytesA (s.map bytA) = some s := by
 induction s with
 | nil => rfl
 | cons b s ih =>
  have hb : (UInt8.ofNat (b.toNat : Int).toNat) = b := by simp
  simp only [List.map_cons, bytA, bytesA, hb, if_true]
  show (bytesA (s.map bytA)).map _ = _
  rw [ih]; rfl
@[go_sem] theorem getRow_bld (a : AVal) (q v : Nat) (s : Bs) (l : Heap) : getRow (bldR a q v s :: l) 0 0 = some (288, 2, [.agg [a, .hs q v 0 s.length true]]) := rfl
theorem getRow_buf (v : Nat) (s : Bs) (l : Heap) : getRow (bufR v s :: l) 0 v = some (5, 1, s.map bytA) := by simp [getRow, bufR]
theorem ptrConv_to : ptrConv Tryz.prog 286 300 288 2 = true := by kernel_rfl
theorem ptrConv_from : ptrConv Tryz.prog 300 286 288 2 = true := by kernel_rfl
theorem ptrT_b : ptrT Tryz.prog 286 = true := by kernel_rfl
attribute [go_sem] ptrConv_to ptrConv_from
theorem bld_clo (n p q v : Nat) (s : Bs) (hp : p < n) (hq : q < n) : CloB n (bldR (.hp p 0 0 0) q v s) := by
 intro r hr
 simp only [List.mem_singleton] at hr
 subst hr
 refine .agg _ fun c hc => ?_
 simp only [List.mem_cons, List.mem_nil_iff, or_false] at hc
 rcases hc with rfl | rfl
 ·exact .hp _ _ _ _ hp
 ·exact .hs _ _ _ _ _ hq
theorem buf_clo (n v : Nat) (s : Bs) : CloB n (bufR v s) := by
 intro r hr
 obtain ⟨b, _, rfl⟩ := List.mem_map.1 hr
 exact .int _ _
theorem abin_ptr (h : Heap) (p : Nat) (hr : (getRow h p 0).isSome = true) : abin Tryz.prog h .neq 286 (.hp p 0 0 0) (.hp p 0 0 0) = some (.bool false) := by
 simp [abin, hr, ptrT_b]
theorem abin_ptrn (h : Heap) (p : Nat) (x : TypeId × Nat × List AVal) (hr : getRow h p 0 = some x) : abin Tryz.prog h .eql 286 (.hp p 0 0 0) (.nil (.pointer none)) = some (.bool false) := by
 have hk : nilKind Tryz.prog 286 (.pointer none) = true := by kernel_rfl
 simp [abin, hk, aeqNil, hr]
theorem abin_nn (h : Heap) : abin Tryz.prog h .eql 286 (.nil (.pointer none)) (.nil (.pointer none)) = some (.bool true) := by
 have hk : nilKind Tryz.prog 286 (.pointer none) = true := by kernel_rfl
 simp [abin, hk, aeqNil]
theorem keep2 {h j : Heap} {x y x' y' : Blk} {n : Nat} (hx : CloB n x') (hy : CloB n y') : ∀ (p : Nat) (k : Blk), (h ++ x' :: y' :: j)[p]? = some k → (h ++ x :: y :: j)[p]? = some k ∨ CloB n k := by
 intro p k hk
 rcases Nat.lt_or_ge p h.length with h1 | h1
 ·rw [List.getElem?_append_left h1] at hk ⊢; exact .inl hk
 ·rw [List.getElem?_append_right h1] at hk ⊢
  match p - h.length, hk with
  | 0, hk => simp at hk; subst hk; exact .inr hx
  | 1, hk => simp at hk; subst hk; exact .inr hy
  | i + 2, hk => exact .inl (by simpa using hk)
def bldH (h j : Heap) (a : AVal) (v : Nat) (s : Bs) : Heap := h ++ bldR a (h.length + 1) v s :: bufR v s :: j
theorem bldH_len (h j : Heap) (a : AVal) (v : Nat) (s : Bs) : (bldH h j a v s).length = h.length + (2 + j.length) := by simp [bldH]; omega
theorem bldH_keep (h j : Heap) (a : AVal) (v v' : Nat) (s s' : Bs) : ∀ (p : Nat) (k : Blk), (bldH h j (.hp h.length 0 0 0) v' s')[p]? = some k → (bldH h j a v s)[p]? = some k ∨ CloB (bldH h j a v s).length k := by
 rw [bldH_len]
 exact keep2 (bld_clo _ _ _ _ _ (by omega) (by omega)) (buf_clo _ _ _)
theorem copyCheck_sat (a : AVal) (h j : Heap) (v : Nat) (s : Bs) (ha : bldA a h.length) :
  Sat (CT G) 284 [.hp h.length 0 0 0] (bldH h j a v s) (fun r h' => r = .tup [] ∧ h' = bldH h j (.hp h.length 0 0 0) v s) := by
 have hK := bldH_keep h j a v v s s
 have hl := (bldH_len h j (.hp h.length 0 0 0) v s).trans (bldH_len h j a v s).symm
 have hfin : ∀ t', Fin (bldH h j a v s) (bldH h j (.hp h.length 0 0 0) v s) (fun r h' => r = .tup [] ∧ h' = bldH h j (.hp h.length 0 0 0) v s) t' ∨ True := fun _ => .inr trivial
 have end_ : Fin (bldH h j a v s) (bldH h j (.hp h.length 0 0 0) v s) (fun r h' => r = .tup [] ∧ h' = bldH h j (.hp h.length 0 0 0) v s) (.tup []) := Fin.keep0 hl hK (.tup _ (by simp)) ⟨rfl, rfl⟩
 clear hfin hK hl
 unfold bldH at *
 refine sb [] (fn := Tryz.f284) Tryz.func284 ?_
 intro Q hQ
 (repeat (first | refine w1 (fun K hK => ?_) | refine w2 ?_ | refine w3 ?_ | ((first | refine w4 ?_ | refine wD ?_ | refine w5 ?_ | refine w6 ?_ | refine w7 ?_); try refine sqo trivial ?_) | (refine w8 ?_; refine sqo trivial ?_; refine w9 ?_) | ((first | refine hK _ _ (w0 ?_) | (clear hK K; refine hK _ _ (w0 ?_)) | (clear hK K; clear hK K; refine hK _ _ (w0 ?_))); clear hK K)))
 rcases ha with rfl | rfl
 ·rw [binK_nnil, abin_nn]
  simp (disch := first | omega | (simp only [go_sem, ↓reduceIte, Nat.reduceEqDiff]; done) | fail) only [go_sem, ↓reduceIte, Int.reduceToNat, Int.reduceLE, Int.reduceLT, Int.reduceSub, Int.reduceAdd, Nat.reduceEqDiff, Nat.reduceAdd, Nat.reduceLeDiff, Nat.reduceLT, Nat.reduceMul, Nat.reduceSub]
  (repeat (first | refine w1 (fun K hK => ?_) | refine w2 ?_ | refine w3 ?_ | ((first | refine w4 ?_ | refine wD ?_ | refine w5 ?_ | refine w6 ?_ | refine w7 ?_); try refine sqo trivial ?_) | (refine w8 ?_; refine sqo trivial ?_; refine w9 ?_) | ((first | refine hK _ _ (w0 ?_) | (clear hK K; refine hK _ _ (w0 ?_)) | (clear hK K; clear hK K; refine hK _ _ (w0 ?_))); clear hK K)))
  refine ⟨by simp, ?_⟩
  refine (NoEscape_sat G _ _).mono ?_
  rintro r h' ⟨rfl, rfl⟩
  simp (disch := first | omega | (simp only [go_sem, ↓reduceIte, Nat.reduceEqDiff]; done) | fail) only [go_sem, ↓reduceIte, Int.reduceToNat, Int.reduceLE, Int.reduceLT, Int.reduceSub, Int.reduceAdd, Nat.reduceEqDiff, Nat.reduceAdd, Nat.reduceLeDiff, Nat.reduceLT, Nat.reduceMul, Nat.reduceSub, List.cons_ne_nil]
  refine (hQ _ _ ?_).2
  simp (disch := first | omega | (simp only [go_sem, ↓reduceIte, Nat.reduceEqDiff]; done) | fail) only [go_sem, ↓reduceIte, Int.reduceToNat, Int.reduceLE, Int.reduceLT, Int.reduceSub, Int.reduceAdd, Nat.reduceEqDiff, Nat.reduceAdd, Nat.reduceLeDiff, Nat.reduceLT, Nat.reduceMul, Nat.reduceSub]
  exact end_
 ·rw [binK_nhp, abin_ptrn _ _ _ (by simp (disch := first | omega | (simp only [go_sem, ↓reduceIte, Nat.reduceEqDiff]; done) | fail) only [go_sem, ↓reduceIte, Int.reduceToNat, Int.reduceLE, Int.reduceLT, Int.reduceSub, Int.reduceAdd, Nat.reduceEqDiff, Nat.reduceAdd, Nat.reduceLeDiff, Nat.reduceLT, Nat.reduceMul, Nat.reduceSub]; rfl)]
  simp (disch := first | omega | (simp only [go_sem, ↓reduceIte, Nat.reduceEqDiff]; done) | fail) only [go_sem, ↓reduceIte, Int.reduceToNat, Int.reduceLE, Int.reduceLT, Int.reduceSub, Int.reduceAdd, Nat.reduceEqDiff, Nat.reduceAdd, Nat.reduceLeDiff, Nat.reduceLT, Nat.reduceMul, Nat.reduceSub]
  (repeat (first | refine w1 (fun K hK => ?_) | refine w2 ?_ | refine w3 ?_ | ((first | refine w4 ?_ | refine wD ?_ | refine w5 ?_ | refine w6 ?_ | refine w7 ?_); try refine sqo trivial ?_) | (refine w8 ?_; refine sqo trivial ?_; refine w9 ?_) | ((first | refine hK _ _ (w0 ?_) | (clear hK K; refine hK _ _ (w0 ?_)) | (clear hK K; clear hK K; refine hK _ _ (w0 ?_))); clear hK K)))
  rw [abin_ptr _ _ (by exact zqo trivial)]
  simp (disch := first | omega | (simp only [go_sem, ↓reduceIte, Nat.reduceEqDiff]; done) | fail) only [go_sem, ↓reduceIte, Int.reduceToNat, Int.reduceLE, Int.reduceLT, Int.reduceSub, Int.reduceAdd, Nat.reduceEqDiff, Nat.reduceAdd, Nat.reduceLeDiff, Nat.reduceLT, Nat.reduceMul, Nat.reduceSub]
  (repeat (first | refine w1 (fun K hK => ?_) | refine w2 ?_ | refine w3 ?_ | ((first | refine w4 ?_ | refine wD ?_ | refine w5 ?_ | refine w6 ?_ | refine w7 ?_); try refine sqo trivial ?_) | (refine w8 ?_; refine sqo trivial ?_; refine w9 ?_) | ((first | refine hK _ _ (w0 ?_) | (clear hK K; refine hK _ _ (w0 ?_)) | (clear hK K; clear hK K; refine hK _ _ (w0 ?_))); clear hK K)))
  refine (hQ _ _ ?_).2
  simp (disch := first | omega | (simp only [go_sem, ↓reduceIte, Nat.reduceEqDiff]; done) | fail) only [go_sem, ↓reduceIte, Int.reduceToNat, Int.reduceLE, Int.reduceLT, Int.reduceSub, Int.reduceAdd, Nat.reduceEqDiff, Nat.reduceAdd, Nat.reduceLeDiff, Nat.reduceLT, Nat.reduceMul, Nat.reduceSub]
  exact end_
theorem bytes_sz : byT Tryz.prog 5 = some 1 := by kernel_rfl
theorem elems_sl1 (h : Heap) (es : List AVal) : elemsOf h 1 (.sl 1 es) = some es := by simp [elemsOf]
theorem zro_u8 : (zroT Tryz.prog 5).map (fun z => z.cells.length) = some 1 := by simp only [go_sem]
theorem WriteByte_sat (a : AVal) (h j : Heap) (v : Nat) (s : Bs) (b : UInt8) (ha : bldA a h.length) (hs : s.length + 1 ≤ 1073741824) :
  Sat (CT G) 280 [.hp h.length 0 0 0, .int .u8 b.toNat] (bldH h j a v s) (fun r h' => r = .nil .nilIface ∧ h' = bldH h j (.hp h.length 0 0 0) (v + 1) (s ++ [b])) := by
 have end_ : Fin (bldH h j a v s) (bldH h j (.hp h.length 0 0 0) (v + 1) (s ++ [b])) (fun r h' => r = .nil .nilIface ∧ h' = bldH h j (.hp h.length 0 0 0) (v + 1) (s ++ [b])) (.nil .nilIface) :=
  Fin.keep0 ((bldH_len ..).trans (bldH_len ..).symm) (bldH_keep _ _ _ _ _ _ _) (.nil _) ⟨rfl, rfl⟩
 refine sb [.tmp 4] (fn := Tryz.f280) Tryz.func280 ?_
 intro Q hQ
 refine wko trivial ?_
 refine (copyCheck_sat G a h j v s ha).mono ?_
 rintro r h' ⟨rfl, rfl⟩
 unfold bldH at *
 try refine sqo trivial ?_
 refine wko trivial ?_
 refine appK_row (.inl rfl) (by exact zqo trivial) (by exact zqo trivial) bytes_sz zro_u8 (by omega) (elems_sl1 _ _) (by simp (disch := first | omega | (simp only [go_sem, ↓reduceIte, Nat.reduceEqDiff]; done) | fail) only [go_sem, ↓reduceIte, Int.reduceToNat, Int.reduceLE, Int.reduceLT, Int.reduceSub, Int.reduceAdd, Nat.reduceEqDiff, Nat.reduceAdd, Nat.reduceLeDiff, Nat.reduceLT, Nat.reduceMul, Nat.reduceSub, getRow_buf]; rfl) (by simp) ?_ ?_
 ·simp [maxLen]; omega
 simp (disch := first | omega | (simp only [go_sem, ↓reduceIte, Nat.reduceEqDiff]; done) | fail) only [go_sem, ↓reduceIte, Int.reduceToNat, Int.reduceLE, Int.reduceLT, Int.reduceSub, Int.reduceAdd, Nat.reduceEqDiff, Nat.reduceAdd, Nat.reduceLeDiff, Nat.reduceLT, Nat.reduceMul, Nat.reduceSub]
 refine wko trivial ?_
 refine eeo hQ trivial ?_
 simp only [bldR, bufR, List.length_append, List.map_append, List.length_cons, List.length_nil, List.map_cons, List.map_nil, bytA, Nat.zero_add] at end_ ⊢
 exact end_
theorem Len_sat (a : AVal) (h j : Heap) (v : Nat) (s : Bs) : Sat (CT G) 278 [.hp h.length 0 0 0] (bldH h j a v s) (fun r h' => r = .int .i64 s.length ∧ h' = bldH h j a v s) := by
 have end_ : Fin (bldH h j a v s) (bldH h j a v s) (fun r h' => r = .int .i64 s.length ∧ h' = bldH h j a v s) (.int .i64 s.length) := Fin.same (.int _ _) ⟨rfl, rfl⟩
 unfold bldH at *
 have F := @getRow_buf
 refine sb [.tmp 2] (fn := Tryz.f278) Tryz.func278 ?_
 intro Q hQ
 refine wko F ?_
 refine wko F ?_
 refine eeo hQ F ?_
 exact end_
theorem bptr_b : bptr Tryz.prog 299 5 = true := by kernel_rfl
theorem String_sat (a : AVal) (h j : Heap) (v : Nat) (s : Bs) : Sat (CT G) 274 [.hp h.length 0 0 0] (bldH h j a v s) (fun r h' => r = .str s ∧ ∃ b, h' = h ++ bldR a (h.length + 1) v s :: b :: j) := by
 unfold bldH
 have F := @getRow_buf
 refine sb [.tmp 2] (fn := Tryz.f274) Tryz.func274 ?_
 intro Q hQ
 refine wko F ?_
 have fin : ∀ b, Fin (h ++ bldR a (h.length + 1) v s :: bufR v s :: j) (h ++ bldR a (h.length + 1) v s :: b :: j) (fun r h' => r = .str s ∧ ∃ b, h' = h ++ bldR a (h.length + 1) v s :: b :: j) (.str s) ∨ ¬ (b = bufR v s ∨ b = .dead) := fun b => by
  by_cases hb : b = bufR v s ∨ b = .dead
  ·refine .inl (Fin.keep0 (by simp) (fun p k hk => ?_) (.str _) ⟨rfl, b, rfl⟩)
   rcases Nat.lt_or_ge p h.length with h1 | h1
   ·rw [List.getElem?_append_left h1] at hk ⊢; exact .inl hk
   ·rw [List.getElem?_append_right h1] at hk ⊢
    match p - h.length, hk with
    | 0, hk => exact .inl (by simpa using hk)
    | 1, hk =>
     simp at hk; subst hk
     rcases hb with rfl | rfl
     ·exact .inl (by simp)
     ·exact .inr trivial
    | i + 2, hk => exact .inl (by simpa using hk)
  ·exact .inr hb
 rcases Nat.eq_zero_or_pos s.length with h0 | h0
 ·have hs : s = [] := List.length_eq_zero_iff.1 h0
  subst hs
  simp (disch := first | omega | (simp only [go_sem, ↓reduceIte, Nat.reduceEqDiff]; done) | fail) only [go_sem, ↓reduceIte, Int.reduceToNat, Int.reduceLE, Int.reduceLT, Int.reduceSub, Int.reduceAdd, Nat.reduceEqDiff, Nat.reduceAdd, Nat.reduceLeDiff, Nat.reduceLT, Nat.reduceMul, Nat.reduceSub, F, List.length_nil, Nat.lt_irrefl, Int.natCast_zero]
  refine wko F ?_
  refine eeo hQ F ?_
  rcases fin (bufR v []) with f | f
  ·exact f
  ·exact absurd (.inl rfl) f
 ·simp (disch := first | omega | (simp only [go_sem, ↓reduceIte, Nat.reduceEqDiff]; done) | fail) only [go_sem, ↓reduceIte, Int.reduceToNat, Int.reduceLE, Int.reduceLT, Int.reduceSub, Int.reduceAdd, Nat.reduceEqDiff, Nat.reduceAdd, Nat.reduceLeDiff, Nat.reduceLT, Nat.reduceMul, Nat.reduceSub, F, h0]
  refine ustrK_hp h0 (by simp (disch := first | omega | (simp only [go_sem, ↓reduceIte, Nat.reduceEqDiff]; done) | fail) only [go_sem, ↓reduceIte, Int.reduceToNat, Int.reduceLE, Int.reduceLT, Int.reduceSub, Int.reduceAdd, Nat.reduceEqDiff, Nat.reduceAdd, Nat.reduceLeDiff, Nat.reduceLT, Nat.reduceMul, Nat.reduceSub, F]; rfl) bptr_b (by simp) (by rw [List.take_of_length_le (by simp)]; exact bytesA_map s) ?_
  try refine sqo F ?_
  refine wko F ?_
  refine eeo hQ F ?_
  rcases fin .dead with f | f
  ·exact f
  ·exact absurd (.inr rfl) f
end Go.Av
namespace Go.Av
open Go Go.Proofs Go.RowKit
attribute [local irreducible] WP WPl WPix Sat
set_option maxRecDepth 100000
set_option maxHeartbeats 1000000
variable (G : Nat → Option (List AVal))
def enc (r : Int) : Bs := (Utf8.encode r).data.toList
def Rune (r : Int) : Prop := 0 ≤ r ∧ (r < 55296 ∨ 57343 < r ∧ r ≤ 1114111)
theorem Rune.valid {r : Int} (h : Rune r) : Utf8.valid r = true := by
 unfold Utf8.valid; obtain ⟨h0, h1⟩ := h; simp; omega
theorem bytA_ofNat (n : Nat) (h : n < 256) : bytA (UInt8.ofNat n) = .int .u8 n := by
 simp [bytA]; omega
theorem enc1 {r : Int} (h0 : 0 ≤ r) (h1 : r < 128) : (enc r).map bytA = [.int .u8 r] := by
 have hv := Rune.valid (r := r) ⟨h0, by omega⟩
 unfold enc Utf8.encode
 simp only [hv, if_true]
 rw [if_pos (by omega)]
 simp only [List.map_cons, List.map_nil]
 rw [bytA_ofNat _ (by omega)]
 simp only [List.cons.injEq, AVal.int.injEq, and_true, true_and]
 omega
theorem enc2 {r : Int} (h0 : 128 ≤ r) (h1 : r < 2048) : (enc r).map bytA = [.int .u8 (192 + r / 64), .int .u8 (128 + r % 64)] := by
 have hv := Rune.valid (r := r) ⟨by omega, by omega⟩
 unfold enc Utf8.encode
 simp only [hv, if_true]
 rw [if_neg (by omega), if_pos (by omega)]
 simp only [List.map_cons, List.map_nil]
 rw [bytA_ofNat _ (by omega), bytA_ofNat _ (by omega)]
 simp only [List.cons.injEq, AVal.int.injEq, and_true, true_and]
 omega
theorem enc3 {r : Int} (h : Rune r) (h0 : 2048 ≤ r) (h1 : r < 65536) : (enc r).map bytA = [.int .u8 (224 + r / 4096), .int .u8 (128 + r / 64 % 64), .int .u8 (128 + r % 64)] := by
 have hv := h.valid
 unfold enc Utf8.encode
 simp only [hv, if_true]
 rw [if_neg (by omega), if_neg (by omega), if_pos (by omega)]
 simp only [List.map_cons, List.map_nil]
 rw [bytA_ofNat _ (by omega), bytA_ofNat _ (by omega), bytA_ofNat _ (by omega)]
 simp only [List.cons.injEq, AVal.int.injEq, and_true, true_and]
 omega
theorem enc4 {r : Int} (h0 : 65536 ≤ r) (h1 : r ≤ 1114111) : (enc r).map bytA = [.int .u8 (240 + r / 262144), .int .u8 (128 + r / 4096 % 64), .int .u8 (128 + r / 64 % 64), .int .u8 (128 + r % 64)] := by
 have hv := Rune.valid (r := r) ⟨by omega, by omega⟩
 unfold enc Utf8.encode
 simp only [hv, if_true]
 rw [if_neg (by omega), if_neg (by omega), if_neg (by omega)]
 simp only [List.map_cons, List.map_nil]
 rw [bytA_ofNat _ (by omega), bytA_ofNat _ (by omega), bytA_ofNat _ (by omega), bytA_ofNat _ (by omega)]
 simp only [List.cons.injEq, AVal.int.injEq, and_true, true_and]
 omega
theorem enc_len (r : Int) : 1 ≤ (enc r).length ∧ (enc r).length ≤ 4 := by
 unfold enc Utf8.encode
 simp only []
 generalize (if Utf8.valid r = true then r.toNat else Utf8.runeError) = c
 by_cases h1 : c < 128
 ·rw [if_pos h1]; exact ⟨by simp, by simp⟩
 ·rw [if_neg h1]
  by_cases h2 : c < 2048
  ·rw [if_pos h2]; exact ⟨by simp, by simp⟩
  ·rw [if_neg h2]
   by_cases h3 : c < 65536
   ·rw [if_pos h3]; exact ⟨by simp, by simp⟩
   ·rw [if_neg h3]; exact ⟨by simp, by simp⟩
theorem shr_i32 (P : Program) (h : Heap) (T : TypeId) (a b : Int) (k : IntKind) (hb : 0 ≤ b) (hb2 : b < 32) : abin P h .shr T (.int .i32 a) (.int k b) = some (.int .i32 (a / 2 ^ b.toNat)) := by
 simp only [abin]
 rw [if_neg (by omega)]
 have : min b.toNat (IntKind.bits .i32) = b.toNat := by simp [IntKind.bits]; omega
 rw [this, Int.fdiv_eq_ediv_of_nonneg _ (by exact Int.le_of_lt (Int.pow_pos (by omega)))]
theorem wrap_u8 (x : Int) : IntKind.wrap .u8 x = x % 256 := IntKind.wrap_u8 x
theorem wrap_u32 (x : Int) (h0 : 0 ≤ x) (h1 : x < 4294967296) : IntKind.wrap .u32 x = x := by rw [IntKind.wrap_u32]; omega
theorem bits_or (n m : Nat) (h : n + m < 256) (hh : ∀ x : _root_.Fin 256, x.val ≤ m → (BitVec.ofInt 8 n ||| BitVec.ofInt 8 (x.val : Int)).toNat = n + x.val) (x : Int) (h0 : 0 ≤ x) (h1 : x ≤ m) : aint .or .u8 n x = some (.int .u8 (n + x)) := by
 have e : (BitVec.ofInt 8 n ||| BitVec.ofInt 8 ((x.toNat : Nat) : Int)).toNat = n + x.toNat := hh ⟨x.toNat, by omega⟩ (by simp; omega)
 rw [show x = ((x.toNat : Nat) : Int) from by omega]
 show some (AVal.int .u8 (IntKind.wrap .u8 (BitVec.ofInt 8 n ||| BitVec.ofInt 8 ((x.toNat : Nat) : Int)).toNat)) = _
 rw [e, wrap_u8]
 congr 2; omega
theorem or192 (x : Int) (h0 : 0 ≤ x) (h1 : x ≤ 31) : aint .or .u8 192 x = some (.int .u8 (192 + x)) := bits_or 192 31 (by omega) (by decide +kernel) x h0 h1
theorem or224 (x : Int) (h0 : 0 ≤ x) (h1 : x ≤ 15) : aint .or .u8 224 x = some (.int .u8 (224 + x)) := bits_or 224 15 (by omega) (by decide +kernel) x h0 h1
theorem or240 (x : Int) (h0 : 0 ≤ x) (h1 : x ≤ 7) : aint .or .u8 240 x = some (.int .u8 (240 + x)) := bits_or 240 7 (by omega) (by decide +kernel) x h0 h1
theorem or128 (x : Int) (h0 : 0 ≤ x) (h1 : x ≤ 63) : aint .or .u8 128 x = some (.int .u8 (128 + x)) := bits_or 128 63 (by omega) (by decide +kernel) x h0 h1
theorem and63 (x : Int) (h0 : 0 ≤ x) (h1 : x < 256) : aint .and .u8 x 63 = some (.int .u8 (x % 64)) := by
 have hh : ∀ x : _root_.Fin 256, (BitVec.ofInt 8 (x.val : Int) &&& BitVec.ofInt 8 63).toNat = x.val % 64 := by decide +kernel
 have e : (BitVec.ofInt 8 ((x.toNat : Nat) : Int) &&& BitVec.ofInt 8 63).toNat = x.toNat % 64 := hh ⟨x.toNat, by omega⟩
 rw [show x = ((x.toNat : Nat) : Int) from by omega]
 show some (AVal.int .u8 (IntKind.wrap .u8 (BitVec.ofInt 8 ((x.toNat : Nat) : Int) &&& BitVec.ofInt 8 63).toNat)) = _
 rw [e, wrap_u8]
 congr 2; omega
theorem abin_or192 (P : Program) (h : Heap) (T : TypeId) (x : Int) (h0 : 0 ≤ x) (h1 : x ≤ 31) : abin P h .or T (.int .u8 192) (.int .u8 x) = some (.int .u8 (192 + x)) := by simpa only [abin, if_true] using or192 x h0 h1
theorem abin_or224 (P : Program) (h : Heap) (T : TypeId) (x : Int) (h0 : 0 ≤ x) (h1 : x ≤ 15) : abin P h .or T (.int .u8 224) (.int .u8 x) = some (.int .u8 (224 + x)) := by simpa only [abin, if_true] using or224 x h0 h1
theorem abin_or240 (P : Program) (h : Heap) (T : TypeId) (x : Int) (h0 : 0 ≤ x) (h1 : x ≤ 7) : abin P h .or T (.int .u8 240) (.int .u8 x) = some (.int .u8 (240 + x)) := by simpa only [abin, if_true] using or240 x h0 h1
theorem abin_or128 (P : Program) (h : Heap) (T : TypeId) (x : Int) (h0 : 0 ≤ x) (h1 : x ≤ 63) : abin P h .or T (.int .u8 128) (.int .u8 x) = some (.int .u8 (128 + x)) := by simpa only [abin, if_true] using or128 x h0 h1
theorem abin_and63 (P : Program) (h : Heap) (T : TypeId) (x : Int) (h0 : 0 ≤ x) (h1 : x < 256) : abin P h .and T (.int .u8 x) (.int .u8 63) = some (.int .u8 (x % 64)) := by simpa only [abin, if_true] using and63 x h0 h1
theorem shr6 (P : Program) (h : Heap) (T : TypeId) (a : Int) : abin P h .shr T (.int .i32 a) (.int .u64 6) = some (.int .i32 (a / 64)) := by rw [shr_i32 _ _ _ _ _ _ (by omega) (by omega)]; rfl
theorem shr12 (P : Program) (h : Heap) (T : TypeId) (a : Int) : abin P h .shr T (.int .i32 a) (.int .u64 12) = some (.int .i32 (a / 4096)) := by rw [shr_i32 _ _ _ _ _ _ (by omega) (by omega)]; rfl
theorem shr18 (P : Program) (h : Heap) (T : TypeId) (a : Int) : abin P h .shr T (.int .i32 a) (.int .u64 18) = some (.int .i32 (a / 262144)) := by rw [shr_i32 _ _ _ _ _ _ (by omega) (by omega)]; rfl
theorem aconv_ru8 (k : IntKind) (n : Int) : aconv Tryz.prog 21 5 (.int k n) = some (.int .u8 (n % 256)) := by simp only [aconv, go_sem, wrap_u8]
theorem aconv_ru32 (k : IntKind) (n : Int) (h0 : 0 ≤ n) (h1 : n < 4294967296) : aconv Tryz.prog 21 232 (.int k n) = some (.int .u32 n) := by simp only [aconv, go_sem, wrap_u32 n h0 h1]
theorem appendRuneNonASCII_sat (r : Int) (hr : Rune r) (h1 : 128 ≤ r) (h j : Heap) (X : Blk) (v : Nat) (s : Bs) (hs : s.length ≤ 1073741824) :
  Sat (CT G) 289 [.hs (h.length + 1) v 0 s.length true, .int .i32 r] (h ++ X :: bufR v s :: j)
   (fun x h' => x = .hs (h.length + 1) (v + 1) 0 (s.length + (enc r).length) true ∧ h' = h ++ X :: bufR (v + 1) (s ++ enc r) :: j) := by
 have end_ : ∀ l, l = enc r → Fin (h ++ X :: bufR v s :: j) (h ++ X :: bufR (v + 1) (s ++ l) :: j) (fun x h' => x = .hs (h.length + 1) (v + 1) 0 (s.length + (enc r).length) true ∧ h' = h ++ X :: bufR (v + 1) (s ++ enc r) :: j) (.hs (h.length + 1) (v + 1) 0 (s.length + l.length) true) := fun l hl => by
  subst hl
  refine Fin.keep0 (by simp) (fun p k hk => ?_) (.hs _ _ _ _ _ (by simp)) ⟨rfl, rfl⟩
  rcases Nat.lt_or_ge p h.length with h1 | h1
  ·rw [List.getElem?_append_left h1] at hk ⊢; exact .inl hk
  ·rw [List.getElem?_append_right h1] at hk ⊢
   match p - h.length, hk with
   | 0, hk => exact .inl hk
   | 1, hk => simp at hk; subst hk; exact .inr (buf_clo _ _ _)
   | i + 2, hk => exact .inl hk
 have F := F2 (F9 @aconv_ru8 @aconv_ru32 @shr6 @shr12 @shr18 @abin_or192 @abin_or224 @abin_or240 @abin_or128) (F3 @abin_and63 @wrap_u8 @wrap_u32)
 obtain ⟨hr0, hr1⟩ := hr
 refine sb [.tmp 4] (fn := Tryz.f289) Tryz.func289 ?_
 intro Q hQ
 refine wko F ?_
 refine cqo F (fun hc => ?_) (fun hc => ?_) <;> (try exact hc.elim) <;> (refine wko F ?_)
 ·refine appK_row (.inl rfl) (by exact zqo F) (by exact zqo F) bytes_sz zro_u8 (by omega) (elems_sl1 _ _) (by simp (disch := first | omega | (simp only [go_sem, ↓reduceIte, Nat.reduceEqDiff]; done) | fail) only [go_sem, ↓reduceIte, Int.reduceToNat, Int.reduceLE, Int.reduceLT, Int.reduceSub, Int.reduceAdd, Nat.reduceEqDiff, Nat.reduceAdd, Nat.reduceLeDiff, Nat.reduceLT, Nat.reduceMul, Nat.reduceSub, F, getRow_buf]; rfl) (by simp) ?_ ?_
  ·simp [maxLen]; omega
  simp (disch := first | omega | (simp only [go_sem, ↓reduceIte, Nat.reduceEqDiff]; done) | fail) only [go_sem, ↓reduceIte, Int.reduceToNat, Int.reduceLE, Int.reduceLT, Int.reduceSub, Int.reduceAdd, Nat.reduceEqDiff, Nat.reduceAdd, Nat.reduceLeDiff, Nat.reduceLT, Nat.reduceMul, Nat.reduceSub, F]
  refine wko F ?_
  refine eeo hQ F ?_
  have e := enc2 h1 (by omega)
  have le : (enc r).length = 2 := by simpa using congrArg List.length e
  have := end_ _ rfl
  simp only [bufR, List.map_append, e, le] at this
  have m0 : r / 64 % 256 = r / 64 := by omega
  have m1 : r % 256 % 64 = r % 64 := by omega
  simp only [bufR, List.map_append, e, le, m0, m1, List.length_cons, List.length_nil, Nat.zero_add, Nat.reduceAdd]
  exact this
 ·refine cqo F (fun hc => ?_) (fun hc => ?_) <;> (try exact hc.elim) <;> (refine wko F ?_)
  ·refine cqo F (fun hc => ?_) (fun hc => ?_) <;> (try exact hc.elim) <;> (refine wko F ?_)
   ·refine appK_row (.inl rfl) (by exact zqo F) (by exact zqo F) bytes_sz zro_u8 (by omega) (elems_sl1 _ _) (by simp (disch := first | omega | (simp only [go_sem, ↓reduceIte, Nat.reduceEqDiff]; done) | fail) only [go_sem, ↓reduceIte, Int.reduceToNat, Int.reduceLE, Int.reduceLT, Int.reduceSub, Int.reduceAdd, Nat.reduceEqDiff, Nat.reduceAdd, Nat.reduceLeDiff, Nat.reduceLT, Nat.reduceMul, Nat.reduceSub, F, getRow_buf]; rfl) (by simp) ?_ ?_
    ·simp [maxLen]; omega
    simp (disch := first | omega | (simp only [go_sem, ↓reduceIte, Nat.reduceEqDiff]; done) | fail) only [go_sem, ↓reduceIte, Int.reduceToNat, Int.reduceLE, Int.reduceLT, Int.reduceSub, Int.reduceAdd, Nat.reduceEqDiff, Nat.reduceAdd, Nat.reduceLeDiff, Nat.reduceLT, Nat.reduceMul, Nat.reduceSub, F]
    refine wko F ?_
    refine eeo hQ F ?_
    have e := enc3 ⟨hr0, hr1⟩ (by omega) (by omega)
    have le : (enc r).length = 3 := by simpa using congrArg List.length e
    have := end_ _ rfl
    simp only [bufR, List.map_append, e, le] at this
    have m0 : r / 4096 % 256 = r / 4096 := by omega
    have m1 : r / 64 % 256 % 64 = r / 64 % 64 := by omega
    have m2 : r % 256 % 64 = r % 64 := by omega
    simp only [bufR, List.map_append, e, le, m0, m1, m2, List.length_cons, List.length_nil, Nat.zero_add, Nat.reduceAdd]
    exact this
   ·exfalso; omega
  ·(first | refine gqo F (fun hg => ?_) (fun hg => ?_) | refine pqo F (fun hg => ?_) (fun hg => ?_)) <;> (try exact hg.elim) <;> (try refine sqo F ?_) <;> (refine wko F ?_)
   ·refine cqo F (fun hc => ?_) (fun hc => ?_) <;> (try exact hc.elim) <;> (refine wko F ?_)
    ·refine appK_row (.inl rfl) (by exact zqo F) (by exact zqo F) bytes_sz zro_u8 (by omega) (elems_sl1 _ _) (by simp (disch := first | omega | (simp only [go_sem, ↓reduceIte, Nat.reduceEqDiff]; done) | fail) only [go_sem, ↓reduceIte, Int.reduceToNat, Int.reduceLE, Int.reduceLT, Int.reduceSub, Int.reduceAdd, Nat.reduceEqDiff, Nat.reduceAdd, Nat.reduceLeDiff, Nat.reduceLT, Nat.reduceMul, Nat.reduceSub, F, getRow_buf]; rfl) (by simp) ?_ ?_
     ·simp [maxLen]; omega
     simp (disch := first | omega | (simp only [go_sem, ↓reduceIte, Nat.reduceEqDiff]; done) | fail) only [go_sem, ↓reduceIte, Int.reduceToNat, Int.reduceLE, Int.reduceLT, Int.reduceSub, Int.reduceAdd, Nat.reduceEqDiff, Nat.reduceAdd, Nat.reduceLeDiff, Nat.reduceLT, Nat.reduceMul, Nat.reduceSub, F]
     refine wko F ?_
     refine eeo hQ F ?_
     have e := enc3 ⟨hr0, hr1⟩ (by omega) (by omega)
     have le : (enc r).length = 3 := by simpa using congrArg List.length e
     have := end_ _ rfl
     simp only [bufR, List.map_append, e, le] at this
     have m0 : r / 4096 % 256 = r / 4096 := by omega
     have m1 : r / 64 % 256 % 64 = r / 64 % 64 := by omega
     have m2 : r % 256 % 64 = r % 64 := by omega
     simp only [bufR, List.map_append, e, le, m0, m1, m2, List.length_cons, List.length_nil, Nat.zero_add, Nat.reduceAdd]
     exact this
    ·(first | refine gqo F (fun hg => ?_) (fun hg => ?_) | refine pqo F (fun hg => ?_) (fun hg => ?_)) <;> (try exact hg.elim) <;> (try refine sqo F ?_) <;> (refine wko F ?_)
     ·refine cqo F (fun hc => ?_) (fun hc => ?_) <;> (try exact hc.elim) <;> (refine wko F ?_)
      ·refine appK_row (.inl rfl) (by exact zqo F) (by exact zqo F) bytes_sz zro_u8 (by omega) (elems_sl1 _ _) (by simp (disch := first | omega | (simp only [go_sem, ↓reduceIte, Nat.reduceEqDiff]; done) | fail) only [go_sem, ↓reduceIte, Int.reduceToNat, Int.reduceLE, Int.reduceLT, Int.reduceSub, Int.reduceAdd, Nat.reduceEqDiff, Nat.reduceAdd, Nat.reduceLeDiff, Nat.reduceLT, Nat.reduceMul, Nat.reduceSub, F, getRow_buf]; rfl) (by simp) ?_ ?_
       ·simp [maxLen]; omega
       simp (disch := first | omega | (simp only [go_sem, ↓reduceIte, Nat.reduceEqDiff]; done) | fail) only [go_sem, ↓reduceIte, Int.reduceToNat, Int.reduceLE, Int.reduceLT, Int.reduceSub, Int.reduceAdd, Nat.reduceEqDiff, Nat.reduceAdd, Nat.reduceLeDiff, Nat.reduceLT, Nat.reduceMul, Nat.reduceSub, F]
       refine wko F ?_
       refine eeo hQ F ?_
       have e := enc4 (r := r) (by omega) (by omega)
       have le : (enc r).length = 4 := by simpa using congrArg List.length e
       have := end_ _ rfl
       simp only [bufR, List.map_append, e, le] at this
       have m0 : r / 262144 % 256 = r / 262144 := by omega
       have m1 : r / 4096 % 256 % 64 = r / 4096 % 64 := by omega
       have m2 : r / 64 % 256 % 64 = r / 64 % 64 := by omega
       have m3 : r % 256 % 64 = r % 64 := by omega
       simp only [bufR, List.map_append, e, le, m0, m1, m2, m3, List.length_cons, List.length_nil, Nat.zero_add, Nat.reduceAdd]
       exact this
      ·exfalso; omega
     ·exfalso; omega
   ·exfalso; omega
theorem AppendRune_sat (r : Int) (hr : Rune r) (h j : Heap) (X : Blk) (v : Nat) (s : Bs) (hs : s.length ≤ 1073741824) :
  Sat (CT G) 285 [.hs (h.length + 1) v 0 s.length true, .int .i32 r] (h ++ X :: bufR v s :: j)
   (fun x h' => x = .hs (h.length + 1) (v + 1) 0 (s.length + (enc r).length) true ∧ h' = h ++ X :: bufR (v + 1) (s ++ enc r) :: j) := by
 have end_ : ∀ l, l = enc r → Fin (h ++ X :: bufR v s :: j) (h ++ X :: bufR (v + 1) (s ++ l) :: j) (fun x h' => x = .hs (h.length + 1) (v + 1) 0 (s.length + (enc r).length) true ∧ h' = h ++ X :: bufR (v + 1) (s ++ enc r) :: j) (.hs (h.length + 1) (v + 1) 0 (s.length + l.length) true) := fun l hl => by
  subst hl
  refine Fin.keep0 (by simp) (fun p k hk => ?_) (.hs _ _ _ _ _ (by simp)) ⟨rfl, rfl⟩
  rcases Nat.lt_or_ge p h.length with h1 | h1
  ·rw [List.getElem?_append_left h1] at hk ⊢; exact .inl hk
  ·rw [List.getElem?_append_right h1] at hk ⊢
   match p - h.length, hk with
   | 0, hk => exact .inl hk
   | 1, hk => simp at hk; subst hk; exact .inr (buf_clo _ _ _)
   | i + 2, hk => exact .inl hk
 have hr' := hr
 obtain ⟨hr0, hr1⟩ := hr
 have F := F2 @aconv_ru8 @aconv_ru32
 refine sb [.tmp 4] (fn := Tryz.f285) Tryz.func285 ?_
 intro Q hQ
 refine wko F ?_
 refine cqo F (fun hc => ?_) (fun hc => ?_) <;> (try exact hc.elim) <;> (refine wko F ?_)
 ·refine appK_row (.inl rfl) (by exact zqo F) (by exact zqo F) bytes_sz zro_u8 (by omega) (elems_sl1 _ _) (by simp (disch := first | omega | (simp only [go_sem, ↓reduceIte, Nat.reduceEqDiff]; done) | fail) only [go_sem, ↓reduceIte, Int.reduceToNat, Int.reduceLE, Int.reduceLT, Int.reduceSub, Int.reduceAdd, Nat.reduceEqDiff, Nat.reduceAdd, Nat.reduceLeDiff, Nat.reduceLT, Nat.reduceMul, Nat.reduceSub, F, getRow_buf]; rfl) (by simp) ?_ ?_
  ·simp [maxLen]; omega
  simp (disch := first | omega | (simp only [go_sem, ↓reduceIte, Nat.reduceEqDiff]; done) | fail) only [go_sem, ↓reduceIte, Int.reduceToNat, Int.reduceLE, Int.reduceLT, Int.reduceSub, Int.reduceAdd, Nat.reduceEqDiff, Nat.reduceAdd, Nat.reduceLeDiff, Nat.reduceLT, Nat.reduceMul, Nat.reduceSub, F]
  refine wko F ?_
  refine eeo hQ F ?_
  have e := enc1 (r := r) (by omega) (by omega)
  have le : (enc r).length = 1 := by simpa using congrArg List.length e
  have := end_ _ rfl
  simp only [bufR, List.map_append, e, le] at this
  have m0 : r % 256 = r := by omega
  simp only [bufR, List.map_append, e, le, m0, List.length_cons, List.length_nil, Nat.zero_add, Nat.reduceAdd]
  exact this
 ·refine kqo F (appendRuneNonASCII_sat G r hr' (by omega) h j X v s hs) ?_
  refine eeo hQ F ?_
  exact end_ _ rfl
theorem WriteRune_sat (a : AVal) (r : Int) (hr : Rune r) (h j : Heap) (v : Nat) (s : Bs) (ha : bldA a h.length) (hs : s.length ≤ 1073741824) :
  Sat (CT G) 272 [.hp h.length 0 0 0, .int .i32 r] (bldH h j a v s) (fun x h' => x = .tup [.int .i64 (enc r).length, .nil .nilIface] ∧ h' = bldH h j (.hp h.length 0 0 0) (v + 1) (s ++ enc r)) := by
 have end_ : Fin (bldH h j a v s) (bldH h j (.hp h.length 0 0 0) (v + 1) (s ++ enc r)) (fun x h' => x = .tup [.int .i64 (enc r).length, .nil .nilIface] ∧ h' = bldH h j (.hp h.length 0 0 0) (v + 1) (s ++ enc r)) (.tup [.int .i64 (enc r).length, .nil .nilIface]) :=
  Fin.keep0 ((bldH_len ..).trans (bldH_len ..).symm) (bldH_keep _ _ _ _ _ _ _) (.tup _ (by intro c hc; simp at hc; rcases hc with rfl | rfl; exact .int _ _; exact .nil _)) ⟨rfl, rfl⟩
 have F := @getRow_buf
 refine sb [.tmp 4, .tmp 5] (fn := Tryz.f272) Tryz.func272 ?_
 intro Q hQ
 refine wko F ?_
 refine (copyCheck_sat G a h j v s ha).mono ?_
 rintro x h' ⟨rfl, rfl⟩
 unfold bldH at *
 try refine sqo F ?_
 refine wko F ?_
 refine kqo F (AppendRune_sat G r hr h j _ v s hs) ?_
 refine (hQ _ _ ?_).1
 simp (disch := first | omega | (simp only [go_sem, ↓reduceIte, Nat.reduceEqDiff]; done) | fail) only [go_sem, ↓reduceIte, Int.reduceToNat, Int.reduceLE, Int.reduceLT, Int.reduceSub, Int.reduceAdd, Nat.reduceEqDiff, Nat.reduceAdd, Nat.reduceLeDiff, Nat.reduceLT, Nat.reduceMul, Nat.reduceSub, F]
 have hl := enc_len r
 simp only [bldR, bufR, List.length_append, List.map_append] at end_ ⊢
 rw [show IntKind.wrap .i64 (((s.length + (enc r).length : Nat) : Int) - (s.length : Nat)) = ((enc r).length : Nat) from by rw [wrap64_in (by omega) (by omega)]; omega]
 exact end_
end Go.Av
namespace Go.Av
open Go Go.Proofs Go.RowKit
set_option maxRecDepth 100000
def dec (s : Bs) (k : Nat) : Nat × Nat := Utf8.decode ⟨s.toArray⟩ k
theorem dec_N (s : Bs) (k : Nat) : dec s k = Lib.decodeN (s.length - k) (s.getD k 0).toNat (s.getD (k + 1) 0).toNat (s.getD (k + 2) 0).toNat (s.getD (k + 3) 0).toNat := by
 unfold dec; rw [Lib.decode_N]
theorem toNat_ofNat (n : Nat) (h : n < 256) : (UInt8.ofNat n).toNat = n := by simp; omega
def fix (r : Int) : Nat := if Utf8.valid r = true then r.toNat else Utf8.runeError
theorem enc_fix (r : Int) : enc r = let c := fix r
  if c < 0x80 then [UInt8.ofNat c]
  else if c < 0x800 then [UInt8.ofNat (0xC0 + c / 64), UInt8.ofNat (0x80 + c % 64)]
  else if c < 0x10000 then [UInt8.ofNat (0xE0 + c / 4096), UInt8.ofNat (0x80 + c / 64 % 64), UInt8.ofNat (0x80 + c % 64)]
  else [UInt8.ofNat (0xF0 + c / 262144), UInt8.ofNat (0x80 + c / 4096 % 64), UInt8.ofNat (0x80 + c / 64 % 64), UInt8.ofNat (0x80 + c % 64)] := by
 unfold enc Utf8.encode fix
 simp only []
 split
 ·split
  ·rfl
  ·split
   ·rfl
   ·split <;> rfl
 ·rfl
theorem dec_pos (s : Bs) (k : Nat) (h : k < s.length) : 1 ≤ (dec s k).2 ∧ k + (dec s k).2 ≤ s.length := by
 rw [dec_N]
 refine ⟨Lib.decodeN_ge1 _ _ _ _ _, ?_⟩
 unfold Lib.decodeN
 repeat (first | split | (simp only []; omega))
theorem dec_ascii (s : Bs) (k : Nat) (b : UInt8) (h : s[k]? = some b) (ha : b.toNat < 128) : dec s k = (b.toNat, 1) := by
 rw [dec_N, List.getD_eq_getElem?_getD, h]
 exact Lib.decodeN_ascii _ _ _ _ _ ha
theorem dec_high (s : Bs) (k : Nat) (b : UInt8) (h : s[k]? = some b) (ha : 128 ≤ b.toNat) :
  128 ≤ (dec s k).1 ∧ ((dec s k).1 < 55296 ∨ 57343 < (dec s k).1 ∧ (dec s k).1 ≤ 1114111) ∧ ∀ i, i < (dec s k).2 → ∀ c, s[k + i]? = some c → 128 ≤ c.toNat := by
 have hb : s.getD k 0 = b := by rw [List.getD_eq_getElem?_getD, h]; rfl
 have at_ : ∀ i c, s[k + i]? = some c → s.getD (k + i) 0 = c := fun i c hc => by rw [List.getD_eq_getElem?_getD, hc]; rfl
 have l0 : ∀ i, (s.getD i 0).toNat < 256 := fun i => (s.getD i 0).toNat_lt
 have e1 := l0 (k + 1); have e2 := l0 (k + 2); have e3 := l0 (k + 3); have e0 := b.toNat_lt
 rw [dec_N, hb]
 generalize h1 : (s.getD (k + 1) 0).toNat = b1 at *
 generalize h2 : (s.getD (k + 2) 0).toNat = b2 at *
 generalize h3 : (s.getD (k + 3) 0).toNat = b3 at *
 have key : ∀ i c, s[k + i]? = some c → (i = 0 → c.toNat = b.toNat) ∧ (i = 1 → c.toNat = b1) ∧ (i = 2 → c.toNat = b2) ∧ (i = 3 → c.toNat = b3) := fun i c hc => by
  have := at_ i c hc
  refine ⟨fun e => ?_, fun e => ?_, fun e => ?_, fun e => ?_⟩ <;> subst e
  ·rw [← this]; simp only [Nat.add_zero]; rw [hb]
  ·rw [← h1, this]
  ·rw [← h2, this]
  ·rw [← h3, this]
 generalize s.length - k = n
 have fin : ∀ x m : Nat, (128 ≤ x ∧ (x < 55296 ∨ 57343 < x ∧ x ≤ 1114111)) → (∀ i, i < m → (i = 0 ∧ 128 ≤ b.toNat) ∨ (i = 1 ∧ 128 ≤ b1) ∨ (i = 2 ∧ 128 ≤ b2) ∨ (i = 3 ∧ 128 ≤ b3)) →
   128 ≤ (x, m).1 ∧ ((x, m).1 < 55296 ∨ 57343 < (x, m).1 ∧ (x, m).1 ≤ 1114111) ∧ ∀ i, i < (x, m).2 → ∀ c, s[k + i]? = some c → 128 ≤ c.toNat := fun x m hx hm =>
  ⟨hx.1, hx.2, fun i hi c hc => by
   obtain ⟨k0, k1, k2, k3⟩ := key i c hc
   rcases hm i hi with ⟨e, h⟩ | ⟨e, h⟩ | ⟨e, h⟩ | ⟨e, h⟩
   ·rw [k0 e]; exact h
   ·rw [k1 e]; exact h
   ·rw [k2 e]; exact h
   ·rw [k3 e]; exact h⟩
 unfold Lib.decodeN
 rw [if_neg (by omega)]
 split
 ·split
  ·exact fin _ _ (by omega) (fun i hi => by omega)
  ·exact fin _ _ (by omega) (fun i hi => by omega)
 ·split
  ·split
   ·exact fin _ _ (by omega) (fun i hi => by omega)
   ·exact fin _ _ (by omega) (fun i hi => by omega)
  ·split
   ·split
    ·exact fin _ _ (by omega) (fun i hi => by omega)
    ·exact fin _ _ (by omega) (fun i hi => by omega)
   ·exact fin _ _ (by omega) (fun i hi => by omega)
end Go.Av
namespace Go.Av
open Go Go.Proofs Go.RowKit
attribute [local irreducible] WP WPl WPix Sat
set_option maxRecDepth 100000
set_option maxHeartbeats 1000000
variable (G : Nat → Option (List AVal))
theorem wrap32_in {x : Int} (h0 : -2147483648 ≤ x) (h1 : x ≤ 2147483647) : IntKind.i32.wrap x = x := by
 simp only [IntKind.wrap, IntKind.bits, IntKind.signed]; simp; omega
theorem getIter (h j : Heap) (s : Bs) (q : Nat) : (h ++ Blk.iter s q :: j)[h.length]? = some (.iter s q) := by simp
end Go.Av
namespace Go.Av
open Go Go.Proofs Go.RowKit Go.Lib
set_option maxRecDepth 100000
section
variable {C : Ctx} {B : Nat} {S : Addr → Prop} {μ : Map} {h : Heap} {w w' : World}
theorem fits_own (f : Fits C B S μ h w) (hb : Below w.heap.size w w') {g cap : Nat} {cur : Array Value} {e : TypeId} {ls : List Bs} (hg : w.heap.size ≤ g) (hheap : w'.heap[g]? = some (.cells cur e (0, 0)))
  (hn : ls.length ≤ cap) (h0 : 0 < cap) (hm : cap ≤ maxLen) (hsz : cur.size = cap) (hget : ∀ (i : Nat) (a : Bs), ls[i]? = some a → cur[i]? = some (.string ⟨a.toArray⟩)) :
  Fits C B S (μ ++ [⟨some g, 0, 1, cap⟩]) (h ++ [.row e 1 0 (ls.map .str)]) w' ∧ Step B S μ w S (μ ++ [⟨some g, 0, 1, cap⟩]) w' := by
 obtain ⟨f', st⟩ := f.grown hb
 have hgl : g < w'.heap.size := (Array.getElem?_eq_some_iff.1 hheap).1
 have st2 : Step B S μ w' S (μ ++ [⟨some g, 0, 1, cap⟩]) w' := ⟨fun a ha => ha, fun _ _ => rfl, Below.refl _ _, mapLe_append _ _, fun a ha => .inl ha⟩
 refine ⟨⟨fun g' cs hg' => (f'.glob g' cs hg').mono st2, by simp [f'.len], ?_, ?_, f'.base, f'.lie, ?_⟩, st.trans st2⟩
 ·intro p q m1 m2 b h1 h2 e1 e2
  rcases getElem?_snoc h1 with k1 | ⟨k1, rfl⟩ <;> rcases getElem?_snoc h2 with k2 | ⟨k2, rfl⟩
  ·exact f'.sep p q m1 m2 b k1 k2 e1 e2
  ·have := (f.own p m1 b k1 e1).2.1; cases e2; omega
  ·have := (f.own q m2 b k2 e2).2.1; cases e1; omega
  ·rw [k1, k2]
 ·intro p m1 b h1 e1
  rcases getElem?_snoc h1 with k1 | ⟨k1, rfl⟩
  ·exact f'.own p m1 b k1 e1
  ·cases e1
   exact ⟨Nat.le_trans f.base hg, hgl, fun a ha => by have := f.lie a ha; omega⟩
 ·intro p m1 k1 h1 h2
  rcases getElem?_snoc h1 with a1 | ⟨a1, rfl⟩
  ·have hp : p < h.length := by have := (List.getElem?_eq_some_iff.1 a1).1; rw [f.len] at this; exact this
   rw [List.getElem?_append_left hp] at h2
   exact (f'.blk p m1 k1 a1 h2).mono st2 fun _ _ => rfl
  ·rw [a1, f.len, List.getElem?_append_right (Nat.le_refl _)] at h2
   simp at h2
   subst h2
   refine ⟨rfl, rfl, by omega, fun i r hr => ?_, fun i r j c hr hc => ?_, .inr ⟨g, cur, rfl, hheap, by simp [hsz], ⟨h0, by simpa using hn⟩, hm, fun i r j c hr hc => ?_⟩⟩
   ·obtain ⟨a, _, rfl⟩ := List.mem_map.1 (List.mem_of_getElem? hr); rfl
   ·obtain ⟨a, _, rfl⟩ := List.mem_map.1 (List.mem_of_getElem? hr)
    match j with
    | 0 => simp [AVal.cells] at hc; subst hc; rfl
    | j + 1 => simp [AVal.cells] at hc
   ·rw [List.getElem?_map] at hr
    obtain ⟨a, ha, rfl⟩ := Option.map_eq_some_iff.1 hr
    match j with
    | 0 =>
     simp [AVal.cells] at hc; subst hc
     exact ⟨_, by simpa using hget i a ha, .str _⟩
    | j + 1 => simp [AVal.cells] at hc
end
variable (G : Nat → Option (List AVal))
def fldsF (s : Bs) : List Bs := (goFieldsP (fun r => !letF r) ⟨s.toArray⟩).map fun b => b.data.toList
theorem Fields_sat (s : Bs) (hs : s.length ≤ 1000000) (h : Heap) : Sat (CT G) 251 [.str s, .fn (.func 253) [] []] h
  (fun r h' => (fldsF s = [] ∧ r = .sl 1 [] ∧ h' = h) ∨ (fldsF s ≠ [] ∧ r = .hs h.length 0 0 (fldsF s).length true ∧ h' = h ++ [.row 9 1 0 ((fldsF s).map .str)])) := by
 intro B S μ w us fit rl
 obtain ⟨hul, hur⟩ := rl
 match us, hul, hur with
 | [v0, v1], _, hur =>
  have r0 : Rep w S μ (.str s) v0 := hur 0 _ rfl
  have r1 : Rep w S μ (.fn (.func 253) [] []) v1 := hur 1 _ rfl
  obtain rfl := r0.str_inv
  obtain rfl : v1 = .func (.func 253) #[] #[] := by
   cases r1 with
   | fn _ _ _ xv cv h1 h2 h3 h4 =>
    match xv, cv, h1, h2 with
    | [], [], _, _ => rfl
  change OpOk Tryz.prog _ ((callFunc 251 #[Value.string ⟨s.toArray⟩, Value.func (Fn.func 253) #[] #[]]).run Tryz.prog w)
  rw [run_enter (f := 251) Tryz.func251 rfl rfl]
  refine (Tryz.strings_FieldsFunc 253 #[] (enters_of Tryz.func253 (by kernel_rfl) rfl) _ ⟨s.toArray⟩ w (by simp [ByteArray.size]; omega) (sep_gives w)).mono fun e w' ⟨A, he, hA, hrow, hbel⟩ => ?_
  refine ⟨_, he, ?_⟩
  have hlen : (fldsF s).length = (goFieldsP (fun r => !letF r) ⟨s.toArray⟩).length := by unfold fldsF; rw [List.length_map]
  have hmap : (goFieldsP (fun r => !letF r) ⟨s.toArray⟩).map Value.string = (fldsF s).map fun a => Value.string ⟨a.toArray⟩ := by
   unfold fldsF
   rw [List.map_map]
   exact List.map_congr_left fun b _ => by simp
  rw [hmap] at hrow
  rw [← hlen] at hrow he ⊢
  obtain ⟨_, ho⟩ := hrow
  rcases ho with ⟨h1, _⟩ | ⟨g, cap, cur, h1, hg, hheap, hn, hm, hsz, htk⟩
  ·cases h1
  ·cases h1
   by_cases hl : fldsF s = []
   ·obtain ⟨f', st⟩ := fit.grown hbel
    rw [hl]
    exact ⟨.sl 1 [], h, S, μ, .inl ⟨rfl, rfl, rfl⟩, st, f', .sl0 1 _ _⟩
   ·have hp := List.length_pos_iff.2 hl
    have hget : ∀ (i : Nat) (a : Bs), (fldsF s)[i]? = some a → cur[i]? = some (.string ⟨a.toArray⟩) := fun i a ha => by
     have hi : i < (fldsF s).length := (List.getElem?_eq_some_iff.1 ha).1
     have h2 : (cur.toList.take ((fldsF s).length * 1))[i]? = some (.string ⟨a.toArray⟩) := by rw [htk, List.getElem?_map, ha]; rfl
     rw [List.getElem?_take_of_lt (by omega)] at h2
     simpa using h2
    obtain ⟨f', st⟩ := fits_own fit hbel hg hheap hn (by omega) hm (by simpa using hsz) hget
    refine ⟨.hs h.length 0 0 (fldsF s).length true, _, S, _, .inr ⟨hl, rfl, rfl⟩, st, f', ?_⟩
    refine .hs _ _ _ _ _ ⟨some A, 0, 1, (fldsF s).length⟩ _ (by rw [← fit.len]; simp) (Nat.le_refl _) (fun cs h => by cases h) rfl (fun _ => .inr ⟨A, rfl, by simp, by simp⟩)
end Go.Av
namespace Go.Av
open Go Go.Proofs Go.RowKit
set_option maxRecDepth 100000
set_option maxHeartbeats 1000000
theorem dec_drop (s : Bs) (k : Nat) : dec s k = dec (s.drop k) 0 := by
 rw [dec_N, dec_N]
 simp only [List.getD_eq_getElem?_getD, List.getElem?_drop, List.length_drop, Nat.add_zero, Nat.zero_add, Nat.sub_zero, Nat.add_assoc]
theorem dec_rune (s : Bs) (k : Nat) (h : k < s.length) : Rune (dec s k).1 := by
 have hb := List.getElem?_eq_getElem h
 by_cases ha : s[k].toNat < 128
 ·rw [dec_ascii s k _ hb ha]; exact ⟨by simp, by simp; omega⟩
 ·obtain ⟨h1, h2, _⟩ := dec_high s k _ hb (by omega)
  exact ⟨by omega, by omega⟩
def runesN : Nat → Bs → List Int
 | 0, _ => []
 | f + 1, s => if s = [] then [] else ((dec s 0).1 : Int) :: runesN f (s.drop (dec s 0).2)
def runesF (s : Bs) : List Int := runesN s.length s
theorem runesN_fuel : ∀ (f : Nat) (s : Bs), s.length ≤ f → runesN f s = runesN s.length s := by
 intro f
 induction f using Nat.strongRecOn with
 | ind f ih =>
  intro s hs
  cases s with
  | nil => cases f <;> rfl
  | cons b t =>
   obtain ⟨f, rfl⟩ : ∃ g, f = g + 1 := ⟨f - 1, by simp at hs; omega⟩
   have hd := dec_pos (b :: t) 0 (by simp)
   simp only [List.length_cons] at hs hd ⊢
   rw [runesN, runesN, if_neg (by simp), if_neg (by simp)]
   have hl : ((b :: t).drop (dec (b :: t) 0).2).length ≤ t.length := by simp only [List.length_drop, List.length_cons]; omega
   rw [ih f (by omega) _ (by omega)]
   by_cases hf : t.length = f
   ·subst hf; rw [ih t.length (by omega) _ hl]
   ·rw [ih t.length (by omega) _ hl]
theorem runesF_nil : runesF [] = [] := rfl
theorem runesF_step (s : Bs) (h : s ≠ []) : runesF s = ((dec s 0).1 : Int) :: runesF (s.drop (dec s 0).2) := by
 have hl : 0 < s.length := List.length_pos_iff.2 h
 have hd := dec_pos s 0 hl
 unfold runesF
 obtain ⟨n, hn⟩ : ∃ n, s.length = n + 1 := ⟨s.length - 1, by omega⟩
 rw [hn, runesN, if_neg h, runesN_fuel n _ (by simp only [List.length_drop]; omega)]
theorem runesF_at (s : Bs) (k : Nat) (h : k < s.length) : runesF (s.drop k) = ((dec s k).1 : Int) :: runesF (s.drop (k + (dec s k).2)) := by
 rw [runesF_step _ (by intro e; have := congrArg List.length e; simp at this; omega), ← dec_drop, List.drop_drop]
theorem runesF_end (s : Bs) (k : Nat) (h : s.length ≤ k) : runesF (s.drop k) = [] := by
 rw [List.drop_of_length_le h]; rfl
theorem runesF_len : ∀ (n : Nat) (s : Bs), s.length ≤ n → (runesF s).length ≤ s.length := by
 intro n
 induction n with
 | zero => intro s h; have : s = [] := List.length_eq_zero_iff.1 (by omega); subst this; simp [runesF_nil]
 | succ n ih =>
  intro s h
  by_cases h0 : s = []
  ·subst h0; simp [runesF_nil]
  ·have hd := dec_pos s 0 (List.length_pos_iff.2 h0)
   rw [runesF_step s h0]
   have := ih (s.drop (dec s 0).2) (by simp only [List.length_drop]; omega)
   simp only [List.length_drop] at this
   simp only [List.length_cons]; omega
def blankR (c : Int) : Bool := decide (c = 9 ∨ c = 10 ∨ c = 13 ∨ c = 32 ∨ c = 160 ∨ c = 8232 ∨ c = 8233 ∨ c = 12288)
def ctlR (c : Int) : Bool := decide (c < 32 ∨ (127 ≤ c ∧ c ≤ 159))
def clnR : List Int → List Int → Bool → List Int
 | [], o, _ => o
 | c :: t, o, w => if blankR c then clnR t o (decide (0 < o.length)) else if ctlR c then clnR t o w else clnR t (o ++ (if w then [32, c] else [c])) false
def cleanR (s : Bs) : List Int := clnR (runesF s) [] false
def encs (l : List Int) : Bs := l.flatMap enc
def cleanF (s : Bs) : Bs := encs (cleanR s)
theorem enc_pos (r : Int) : 1 ≤ (enc r).length := by
 rw [enc_fix]; simp only []; repeat (first | split | simp)
theorem encs_len (l : List Int) : (encs l).length ≤ 4 * l.length ∧ l.length ≤ (encs l).length := by
 induction l with
 | nil => simp [encs]
 | cons c t ih =>
  have h1 := enc_len c
  have h2 := enc_pos c
  simp only [encs, List.flatMap_cons, List.length_append, List.length_cons] at ih ⊢; omega
def rightN : Nat → Bs → Bool
 | 0, _ => true
 | f + 1, s => if s = [] then true else if (dec s 0).1 = 65533 ∧ (dec s 0).2 = 1 then false else rightN f (s.drop (dec s 0).2)
def rightS (s : Bs) : Bool := rightN s.length s
theorem rightN_fuel : ∀ (f : Nat) (s : Bs), s.length ≤ f → rightN f s = rightN s.length s := by
 intro f
 induction f using Nat.strongRecOn with
 | ind f ih =>
  intro s hs
  cases s with
  | nil => cases f <;> rfl
  | cons b t =>
   obtain ⟨f, rfl⟩ : ∃ g, f = g + 1 := ⟨f - 1, by simp at hs; omega⟩
   have hd := dec_pos (b :: t) 0 (by simp)
   simp only [List.length_cons] at hs hd ⊢
   rw [rightN, rightN, if_neg (show ¬ (b :: t) = [] by simp), if_neg (show ¬ (b :: t) = [] by simp)]
   have hl : ((b :: t).drop (dec (b :: t) 0).2).length ≤ t.length := by simp only [List.length_drop, List.length_cons]; omega
   rw [ih f (by omega) _ (by omega), ih t.length (by omega) _ hl]
theorem rightS_step (s : Bs) (h : s ≠ []) : rightS s = if (dec s 0).1 = 65533 ∧ (dec s 0).2 = 1 then false else rightS (s.drop (dec s 0).2) := by
 have hl : 0 < s.length := List.length_pos_iff.2 h
 have hd := dec_pos s 0 hl
 unfold rightS
 obtain ⟨n, hn⟩ : ∃ n, s.length = n + 1 := ⟨s.length - 1, by omega⟩
 rw [hn, rightN, if_neg h, rightN_fuel n _ (by simp only [List.length_drop]; omega)]
theorem rightS_at (s : Bs) (k : Nat) (h : k < s.length) : rightS (s.drop k) = if (dec s k).1 = 65533 ∧ (dec s k).2 = 1 then false else rightS (s.drop (k + (dec s k).2)) := by
 rw [rightS_step _ (by intro e; have := congrArg List.length e; simp at this; omega), ← dec_drop, List.drop_drop]
theorem decodeN_bad (n b0 b1 b2 b3 : Nat) (h1 : b1 < 256) (h2 : b2 < 256) (h0 : b0 < 256) (h : (Lib.decodeN n b0 b1 b2 b3).1 = 65533) : (Lib.decodeN n b0 b1 b2 b3).2 = 1 ↔ ¬ (3 ≤ n ∧ b0 = 239 ∧ b1 = 191 ∧ b2 = 189) := by
 unfold Lib.decodeN at *
 by_cases c1 : b0 < 128
 ·rw [if_pos c1] at *; simp only [] at *; omega
 rw [if_neg c1] at *
 by_cases c2 : (b0 / 32 = 6 ∧ (1 < n ∧ b1 / 64 = 2))
 ·rw [if_pos c2] at *
  by_cases c3 : b0 % 32 * 64 + b1 % 64 ≥ 128
  ·rw [if_pos c3] at *; simp only [] at *; omega
  ·rw [if_neg c3] at *; exact ⟨fun _ hc => by omega, fun _ => rfl⟩
 rw [if_neg c2] at *
 by_cases c4 : b0 / 16 = 14 ∧ (1 < n ∧ b1 / 64 = 2) ∧ (2 < n ∧ b2 / 64 = 2)
 ·rw [if_pos c4] at *
  by_cases c5 : (b0 % 16 * 4096 + b1 % 64 * 64 + b2 % 64 ≥ 2048 ∧ (b0 % 16 * 4096 + b1 % 64 * 64 + b2 % 64 < 55296 ∨ (57344 ≤ b0 % 16 * 4096 + b1 % 64 * 64 + b2 % 64 ∧ b0 % 16 * 4096 + b1 % 64 * 64 + b2 % 64 ≤ 1114111)))
  ·rw [if_pos c5] at *; simp only [] at *; omega
  ·rw [if_neg c5] at *; exact ⟨fun _ hc => by omega, fun _ => rfl⟩
 rw [if_neg c4] at *
 by_cases c6 : b0 / 8 = 30 ∧ (1 < n ∧ b1 / 64 = 2) ∧ (2 < n ∧ b2 / 64 = 2) ∧ (3 < n ∧ b3 / 64 = 2)
 ·rw [if_pos c6] at *
  by_cases c7 : (b0 % 8 * 262144 + b1 % 64 * 4096 + b2 % 64 * 64 + b3 % 64 ≥ 65536 ∧ (b0 % 8 * 262144 + b1 % 64 * 4096 + b2 % 64 * 64 + b3 % 64 < 55296 ∨ (57344 ≤ b0 % 8 * 262144 + b1 % 64 * 4096 + b2 % 64 * 64 + b3 % 64 ∧ b0 % 8 * 262144 + b1 % 64 * 4096 + b2 % 64 * 64 + b3 % 64 ≤ 1114111)))
  ·rw [if_pos c7] at *; simp only [] at *; omega
  ·rw [if_neg c7] at *; exact ⟨fun _ hc => by omega, fun _ => rfl⟩
 ·rw [if_neg c6] at *; exact ⟨fun _ hc => by omega, fun _ => rfl⟩
theorem pre3 (u : Bs) : Lib.hasPrefix u [239, 191, 189] = true ↔ (3 ≤ u.length ∧ (u.getD 0 0).toNat = 239 ∧ (u.getD 1 0).toNat = 191 ∧ (u.getD 2 0).toNat = 189) := by
 have key : ∀ (x : UInt8) (n : Nat), n < 256 → (x.toNat = n ↔ x = UInt8.ofNat n) := fun x n h => by rw [← UInt8.toNat_inj, toNat_ofNat n h]
 match u with
 | [] => simp [Lib.hasPrefix]
 | [a] => simp [Lib.hasPrefix]
 | [a, b] => simp [Lib.hasPrefix]
 | a :: b :: c :: t =>
  simp only [List.getD_cons_zero, List.getD_cons_succ, List.length_cons]
  rw [key a 239 (by omega), key b 191 (by omega), key c 189 (by omega)]
  unfold Lib.hasPrefix
  simp only [List.isPrefixOf, Bool.and_eq_true, beq_iff_eq]
  constructor
  ·rintro ⟨rfl, rfl, rfl, _⟩; exact ⟨by omega, rfl, rfl, rfl⟩
  ·rintro ⟨_, rfl, rfl, rfl⟩; exact ⟨rfl, rfl, rfl, trivial⟩
theorem dec_bad3 (s : Bs) (k : Nat) (hd : (dec s k).1 = 65533) : (dec s k).2 = 1 ↔ Lib.hasPrefix (s.drop k) [239, 191, 189] = false := by
 rw [dec_drop] at *
 generalize s.drop k = u at *
 rw [← Bool.not_eq_true, pre3]
 rw [dec_N] at *
 exact decodeN_bad _ _ _ _ _ (UInt8.toNat_lt _) (UInt8.toNat_lt _) (UInt8.toNat_lt _) hd
end Go.Av
namespace Go.Av
open Go Go.Proofs Go.RowKit
attribute [local irreducible] WP WPl WPix Sat
set_option maxRecDepth 100000
set_option maxHeartbeats 1000000
variable (G : Nat → Option (List AVal))
theorem PBlank_sat (c : Int) (h : Heap) : Sat (CT G) 277 [.int .i32 c] h (fun r h' => r = .bool (blankR c) ∧ h' = h) := by
 have yes : (c = 9 ∨ c = 10 ∨ c = 13 ∨ c = 32 ∨ c = 160 ∨ c = 8232 ∨ c = 8233 ∨ c = 12288) → blankR c = true := fun h => decide_eq_true h
 have no : ¬ (c = 9 ∨ c = 10 ∨ c = 13 ∨ c = 32 ∨ c = 160 ∨ c = 8232 ∨ c = 8233 ∨ c = 12288) → blankR c = false := fun h => decide_eq_false h
 refine sb [.tmp 2] (fn := Tryz.f277) Tryz.func277 ?_
 intro Q hQ
 refine wk trivial ?_
 refine cq trivial (fun c0 => ?_) (fun c0 => ?_) <;> (try exact c0.elim) <;> (refine wk trivial ?_)
 ·refine cq trivial (fun d => ?_) (fun d => ?_) <;> (try exact d.elim) <;> (refine wk trivial ?_)
  ·refine ee hQ trivial ?_
   refine fR (.bool _) ?_
   rw [yes (by omega)]
  ·exfalso; omega
 refine cq trivial (fun c1 => ?_) (fun c1 => ?_) <;> (try exact c1.elim) <;> (refine wk trivial ?_)
 ·refine cq trivial (fun d => ?_) (fun d => ?_) <;> (try exact d.elim) <;> (refine wk trivial ?_)
  ·refine ee hQ trivial ?_
   refine fR (.bool _) ?_
   rw [yes (by omega)]
  ·exfalso; omega
 refine cq trivial (fun c2 => ?_) (fun c2 => ?_) <;> (try exact c2.elim) <;> (refine wk trivial ?_)
 ·refine cq trivial (fun d => ?_) (fun d => ?_) <;> (try exact d.elim) <;> (refine wk trivial ?_)
  ·refine ee hQ trivial ?_
   refine fR (.bool _) ?_
   rw [yes (by omega)]
  ·exfalso; omega
 refine cq trivial (fun c3 => ?_) (fun c3 => ?_) <;> (try exact c3.elim) <;> (refine wk trivial ?_)
 ·refine cq trivial (fun d => ?_) (fun d => ?_) <;> (try exact d.elim) <;> (refine wk trivial ?_)
  ·refine ee hQ trivial ?_
   refine fR (.bool _) ?_
   rw [yes (by omega)]
  ·exfalso; omega
 refine cq trivial (fun c4 => ?_) (fun c4 => ?_) <;> (try exact c4.elim) <;> (refine wk trivial ?_)
 ·refine cq trivial (fun d => ?_) (fun d => ?_) <;> (try exact d.elim) <;> (refine wk trivial ?_)
  ·refine ee hQ trivial ?_
   refine fR (.bool _) ?_
   rw [yes (by omega)]
  ·exfalso; omega
 refine cq trivial (fun c5 => ?_) (fun c5 => ?_) <;> (try exact c5.elim) <;> (refine wk trivial ?_)
 ·refine cq trivial (fun d => ?_) (fun d => ?_) <;> (try exact d.elim) <;> (refine wk trivial ?_)
  ·refine ee hQ trivial ?_
   refine fR (.bool _) ?_
   rw [yes (by omega)]
  ·exfalso; omega
 refine cq trivial (fun c6 => ?_) (fun c6 => ?_) <;> (try exact c6.elim) <;> (refine wk trivial ?_)
 ·refine cq trivial (fun d => ?_) (fun d => ?_) <;> (try exact d.elim) <;> (refine wk trivial ?_)
  ·refine ee hQ trivial ?_
   refine fR (.bool _) ?_
   rw [yes (by omega)]
  ·exfalso; omega
 refine cq trivial (fun d => ?_) (fun d => ?_) <;> (try exact d.elim) <;> (refine wk trivial ?_)
 ·refine ee hQ trivial ?_
  refine fR (.bool _) ?_
  rw [yes (by omega)]
 ·refine ee hQ trivial ?_
  refine fR (.bool _) ?_
  rw [no (by omega)]
theorem Pcontrol_sat (c : Int) (h : Heap) : Sat (CT G) 279 [.int .i32 c] h (fun r h' => r = .bool (ctlR c) ∧ h' = h) := by
 refine sb [.tmp 2] (fn := Tryz.f279) Tryz.func279 ?_
 intro Q hQ
 refine wk trivial ?_
 (first | refine gq trivial (fun g1 => ?_) (fun g1 => ?_) | refine pq trivial (fun g1 => ?_) (fun g1 => ?_)) <;> (try exact g1.elim) <;> (try refine sq trivial ?_) <;> (refine wk trivial ?_)
 ·refine ee hQ trivial ?_
  refine fR (.bool _) ?_
  rw [show ctlR c = true from decide_eq_true (.inl g1)]
 ·(first | refine gq trivial (fun g2 => ?_) (fun g2 => ?_) | refine pq trivial (fun g2 => ?_) (fun g2 => ?_)) <;> (try exact g2.elim) <;> (try refine sq trivial ?_) <;> (refine wk trivial ?_)
  ·refine ee hQ trivial ?_
   refine fR (.bool _) ?_
   unfold ctlR
   congr 1
   rw [Bool.eq_iff_iff]; simp; omega
  ·refine ee hQ trivial ?_
   refine fR (.bool _) ?_
   rw [show ctlR c = false from decide_eq_false (by omega)]
theorem getIter2 (h j : Heap) (a : AVal) (v : Nat) (o s : Bs) (q : Nat) : (bldH h (Blk.iter s q :: j) a v o)[h.length + 2]? = some (.iter s q) := by
 unfold bldH; rw [List.getElem?_append_right (by omega), show h.length + 2 - h.length = 2 by omega]; rfl
theorem setIter2 (h j : Heap) (a : AVal) (v : Nat) (o : Bs) (x y : Blk) : (bldH h (x :: j) a v o).set (h.length + 2) y = bldH h (y :: j) a v o := by
 unfold bldH; rw [List.set_append_right _ _ (by omega), show h.length + 2 - h.length = 2 by omega]; rfl
theorem PClean_sat (s : Bs) (hs : s.length ≤ 100000000) (h : Heap) : Sat (CT G) 264 [.str s] h (fun r h' => r = .str (cleanF s) ∧ h' = h) := by
 have F := @setIter2
 refine sb [.tmp 2] (fn := Tryz.f264) Tryz.func264 ?_
 intro Q hQ
 (repeat (first | refine w1 (fun K hK => ?_) | refine w2 ?_ | refine w3 ?_ | ((first | refine w4 ?_ | refine wD ?_ | refine w5 ?_ | refine w6 ?_ | refine w7 ?_); try refine sq F ?_) | (refine w8 ?_; refine sq F ?_; refine w9 ?_)))
 refine hK _ _ (Wkn.refl ?_)
 clear hK K
 (repeat (first | refine w1 (fun K hK => ?_) | refine w2 ?_ | refine w3 ?_ | ((first | refine w4 ?_ | refine wD ?_ | refine w5 ?_ | refine w6 ?_ | refine w7 ?_); try refine sq F ?_) | (refine w8 ?_; refine sq F ?_; refine w9 ?_)))
 refine hK _ _ ⟨_, _, Weak.virtCell (p := h.length) (v := 0) 5 1 (by omega) (by simp (disch := first | omega | (simp only [go_sem, ↓reduceIte, seval]; first | done | omega) | fail) only [go_sem, ↓reduceIte, seval, F]; rfl) 1 rfl, ?_⟩
 clear hK K
 (repeat (first | refine w1 (fun K hK => ?_) | refine w2 ?_ | refine w3 ?_ | ((first | refine w4 ?_ | refine wD ?_ | refine w5 ?_ | refine w6 ?_ | refine w7 ?_); try refine sq F ?_) | (refine w8 ?_; refine sq F ?_; refine w9 ?_) | ((first | refine hK _ _ (w0 ?_) | (clear hK K; refine hK _ _ (w0 ?_)) | (clear hK K; clear hK K; refine hK _ _ (w0 ?_))); clear hK K)))
 refine lm (fun nL tL hL => ∃ (a : AVal) (v k : Nat) (out : List Int) (w : Bool), s.length - k = nL ∧ bldH h [.iter s k] a v (encs out) = hL ∧ tL 4 = .bool w ∧ bldA a h.length ∧ k ≤ s.length ∧ clnR (runesF (s.drop k)) out w = cleanR s ∧ (encs out).length + 8 * (s.length - k) ≤ 8 * s.length) ((fun (a : AVal) (v k : Nat) (out : List Int) (w : Bool) => (s.length - k : Nat)) ((.nil (.pointer none))) (0) (0) ([]) (false)) ?_ ?_
 ·refine Wkn.refl ⟨(.nil (.pointer none)), 0, 0, [], false, rfl, by simp [bldH, bldR, bufR, encs], ?_, .inl rfl, by omega, rfl, by simp [encs]⟩
  all_goals first | exact zq F | rfl | omega | trivial | skip
 rintro _ s2 h' ⟨a, v, k, out, w, rfl, rfl, e4, ha, hk, hv, hl⟩ K2 hK2
 simp only [mix_cons, mix_nil, Nat.reduceEqDiff, ↓reduceIte] at e4
 have F := F2 F e4
 (repeat (first | refine w1 (fun K hK => ?_) | refine w2 ?_ | refine w3 ?_ | ((first | refine w4 ?_ | refine wD ?_ | refine w5 ?_ | refine w6 ?_ | refine w7 ?_); try refine sq F ?_) | (refine w8 ?_; refine sq F ?_; refine w9 ?_) | ((first | refine hK _ _ (w0 ?_) | (clear hK K; refine hK _ _ (w0 ?_)) | (clear hK K; clear hK K; refine hK _ _ (w0 ?_))); clear hK K)))
 refine nextK_at (getIter2 _ _ _ _ _ _ _) (fun hlt => ?_) (fun hge => ?_)
 ·have hR := dec_rune s k hlt
  have hp := dec_pos s k hlt
  rw [runesF_at s k hlt, clnR] at hv
  rw [show Utf8.decode ⟨s.toArray⟩ k = dec s k from rfl]
  generalize dec s k = d at *
  obtain ⟨c, m⟩ := d
  simp only [] at hR hp hv ⊢
  try refine sq F ?_
  (repeat (first | refine w1 (fun K hK => ?_) | refine w2 ?_ | refine w3 ?_ | ((first | refine w4 ?_ | refine wD ?_ | refine w5 ?_ | refine w6 ?_ | refine w7 ?_); try refine sq F ?_) | (refine w8 ?_; refine sq F ?_; refine w9 ?_) | ((first | refine hK _ _ (w0 ?_) | (clear hK K; refine hK _ _ (w0 ?_)) | (clear hK K; clear hK K; refine hK _ _ (w0 ?_))); clear hK K)))
  refine (PBlank_sat G c _).mono ?_
  rintro r h' ⟨rfl, rfl⟩
  try refine sq F ?_
  (repeat (first | refine w1 (fun K hK => ?_) | refine w2 ?_ | refine w3 ?_ | ((first | refine w4 ?_ | refine wD ?_ | refine w5 ?_ | refine w6 ?_ | refine w7 ?_); try refine sq F ?_) | (refine w8 ?_; refine sq F ?_; refine w9 ?_) | ((first | refine hK _ _ (w0 ?_) | (clear hK K; refine hK _ _ (w0 ?_)) | (clear hK K; clear hK K; refine hK _ _ (w0 ?_))); clear hK K)))
  refine cq F (fun c1 => ?_) (fun c1 => ?_) <;> (try exact c1.elim) <;> ((repeat (first | refine w1 (fun K hK => ?_) | refine w2 ?_ | refine w3 ?_ | ((first | refine w4 ?_ | refine wD ?_ | refine w5 ?_ | refine w6 ?_ | refine w7 ?_); try refine sq F ?_) | (refine w8 ?_; refine sq F ?_; refine w9 ?_) | ((first | refine hK _ _ (w0 ?_) | (clear hK K; refine hK _ _ (w0 ?_)) | (clear hK K; clear hK K; refine hK _ _ (w0 ?_))); clear hK K))))
  ·rw [if_pos c1] at hv
   refine (Len_sat G a h [.iter s (k + m)] v (encs out)).mono ?_
   rintro r h' ⟨rfl, rfl⟩
   try refine sq F ?_
   (repeat (first | refine w1 (fun K hK => ?_) | refine w2 ?_ | refine w3 ?_ | ((first | refine w4 ?_ | refine wD ?_ | refine w5 ?_ | refine w6 ?_ | refine w7 ?_); try refine sq F ?_) | (refine w8 ?_; refine sq F ?_; refine w9 ?_) | ((first | refine hK _ _ (w0 ?_) | (clear hK K; refine hK _ _ (w0 ?_)) | (clear hK K; clear hK K; refine hK _ _ (w0 ?_))); clear hK K)))
   have ho : decide (((encs out).length : Int) > 0) = decide (0 < out.length) := by
    have := encs_len out
    rw [Bool.eq_iff_iff]; simp only [decide_eq_true_eq]; omega
   have F := F2 F ho
   try refine sq F ?_
   refine hK2 _ _ _ (Wkn.refl ⟨a, v, k + m, out, decide (0 < out.length), rfl, hpE, ?_, ha, by omega, hv, by omega⟩) (by omega)
   all_goals first | exact zq F | rfl | omega | trivial | skip
  ·rw [if_neg (by simp [c1])] at hv
   refine (Pcontrol_sat G c _).mono ?_
   rintro r h' ⟨rfl, rfl⟩
   try refine sq F ?_
   (repeat (first | refine w1 (fun K hK => ?_) | refine w2 ?_ | refine w3 ?_ | ((first | refine w4 ?_ | refine wD ?_ | refine w5 ?_ | refine w6 ?_ | refine w7 ?_); try refine sq F ?_) | (refine w8 ?_; refine sq F ?_; refine w9 ?_) | ((first | refine hK _ _ (w0 ?_) | (clear hK K; refine hK _ _ (w0 ?_)) | (clear hK K; clear hK K; refine hK _ _ (w0 ?_))); clear hK K)))
   refine cq F (fun c2 => ?_) (fun c2 => ?_) <;> (try exact c2.elim) <;> ((repeat (first | refine w1 (fun K hK => ?_) | refine w2 ?_ | refine w3 ?_ | ((first | refine w4 ?_ | refine wD ?_ | refine w5 ?_ | refine w6 ?_ | refine w7 ?_); try refine sq F ?_) | (refine w8 ?_; refine sq F ?_; refine w9 ?_) | ((first | refine hK _ _ (w0 ?_) | (clear hK K; refine hK _ _ (w0 ?_)) | (clear hK K; clear hK K; refine hK _ _ (w0 ?_))); clear hK K))))
   ·rw [if_pos c2] at hv
    refine hK2 _ _ _ (Wkn.refl ⟨a, v, k + m, out, w, rfl, hpE, ?_, ha, by omega, hv, by omega⟩) (by omega)
    all_goals first | exact zq F | rfl | omega | trivial | skip
   ·rw [if_neg (by simp [c2])] at hv
    have he := enc_len c
    have e1 : encs (out ++ [32, (c : Int)]) = encs out ++ [32] ++ enc c := by
     simp only [encs, List.flatMap_append, List.flatMap_cons, List.flatMap_nil, List.append_nil, List.append_assoc]; rfl
    have e2 : encs (out ++ [(c : Int)]) = encs out ++ enc c := by
     simp only [encs, List.flatMap_append, List.flatMap_cons, List.flatMap_nil, List.append_nil]
    refine cq F (fun c3 => ?_) (fun c3 => ?_) <;> (try exact c3.elim) <;> ((repeat (first | refine w1 (fun K hK => ?_) | refine w2 ?_ | refine w3 ?_ | ((first | refine w4 ?_ | refine wD ?_ | refine w5 ?_ | refine w6 ?_ | refine w7 ?_); try refine sq F ?_) | (refine w8 ?_; refine sq F ?_; refine w9 ?_) | ((first | refine hK _ _ (w0 ?_) | (clear hK K; refine hK _ _ (w0 ?_)) | (clear hK K; clear hK K; refine hK _ _ (w0 ?_))); clear hK K))))
    ·rw [if_pos c3] at hv
     refine (WriteByte_sat G a h [.iter s (k + m)] v (encs out) 32 ha (by omega)).mono ?_
     rintro r h' ⟨rfl, rfl⟩
     try refine sq F ?_
     (repeat (first | refine w1 (fun K hK => ?_) | refine w2 ?_ | refine w3 ?_ | ((first | refine w4 ?_ | refine wD ?_ | refine w5 ?_ | refine w6 ?_ | refine w7 ?_); try refine sq F ?_) | (refine w8 ?_; refine sq F ?_; refine w9 ?_) | ((first | refine hK _ _ (w0 ?_) | (clear hK K; refine hK _ _ (w0 ?_)) | (clear hK K; clear hK K; refine hK _ _ (w0 ?_))); clear hK K)))
     refine (WriteRune_sat G (.hp h.length 0 0 0) c hR h [.iter s (k + m)] (v + 1) (encs out ++ [32]) (.inr rfl) (by simp only [List.length_append, List.length_cons, List.length_nil]; omega)).mono ?_
     rintro r h' ⟨rfl, rfl⟩
     try refine sq F ?_
     (repeat (first | refine w1 (fun K hK => ?_) | refine w2 ?_ | refine w3 ?_ | ((first | refine w4 ?_ | refine wD ?_ | refine w5 ?_ | refine w6 ?_ | refine w7 ?_); try refine sq F ?_) | (refine w8 ?_; refine sq F ?_; refine w9 ?_) | ((first | refine hK _ _ (w0 ?_) | (clear hK K; refine hK _ _ (w0 ?_)) | (clear hK K; clear hK K; refine hK _ _ (w0 ?_))); clear hK K)))
     refine hK2 _ _ _ (Wkn.refl ⟨(.hp h.length 0 0 0), v + 1 + 1, k + m, out ++ [32, (c : Int)], false, rfl, by rw [e1]; simp, ?_, .inr rfl, by omega, hv, by rw [e1]; simp only [List.length_append, List.length_cons, List.length_nil]; omega⟩) (by omega)
     all_goals first | exact zq F | rfl | omega | trivial | skip
    ·rw [if_neg (by simp [c3])] at hv
     refine (WriteRune_sat G a c hR h [.iter s (k + m)] v (encs out) ha (by omega)).mono ?_
     rintro r h' ⟨rfl, rfl⟩
     try refine sq F ?_
     (repeat (first | refine w1 (fun K hK => ?_) | refine w2 ?_ | refine w3 ?_ | ((first | refine w4 ?_ | refine wD ?_ | refine w5 ?_ | refine w6 ?_ | refine w7 ?_); try refine sq F ?_) | (refine w8 ?_; refine sq F ?_; refine w9 ?_) | ((first | refine hK _ _ (w0 ?_) | (clear hK K; refine hK _ _ (w0 ?_)) | (clear hK K; clear hK K; refine hK _ _ (w0 ?_))); clear hK K)))
     refine hK2 _ _ _ (Wkn.refl ⟨(.hp h.length 0 0 0), v + 1, k + m, out ++ [(c : Int)], false, rfl, by rw [e2], ?_, .inr rfl, by omega, hv, by rw [e2]; simp only [List.length_append]; omega⟩) (by omega)
     all_goals first | exact zq F | rfl | omega | trivial | skip
 ·rw [runesF_end s k (by omega)] at hv
  try refine sq F ?_
  (repeat (first | refine w1 (fun K hK => ?_) | refine w2 ?_ | refine w3 ?_ | ((first | refine w4 ?_ | refine wD ?_ | refine w5 ?_ | refine w6 ?_ | refine w7 ?_); try refine sq F ?_) | (refine w8 ?_; refine sq F ?_; refine w9 ?_) | ((first | refine hK _ _ (w0 ?_) | (clear hK K; refine hK _ _ (w0 ?_)) | (clear hK K; clear hK K; refine hK _ _ (w0 ?_))); clear hK K)))
  refine (String_sat G a h [.iter s k] v (encs out)).mono ?_
  rintro r h' ⟨rfl, b2, rfl⟩
  try refine sq F ?_
  (repeat (first | refine w1 (fun K hK => ?_) | refine w2 ?_ | refine w3 ?_ | ((first | refine w4 ?_ | refine wD ?_ | refine w5 ?_ | refine w6 ?_ | refine w7 ?_); try refine sq F ?_) | (refine w8 ?_; refine sq F ?_; refine w9 ?_) | ((first | refine hK _ _ (w0 ?_) | (clear hK K; refine hK _ _ (w0 ?_)) | (clear hK K; clear hK K; refine hK _ _ (w0 ?_))); clear hK K)))
  refine ee hQ F ?_
  exact Fin.plainE (j := [bldR a (h.length + 1) v (encs out), b2, .iter s k]) (by simp) (.str _) ⟨congrArg AVal.str (by unfold cleanF; rw [← hv]; rfl), rfl⟩
theorem PRight_sat (s : Bs) (hs : s.length ≤ 1073741824) (h : Heap) : Sat (CT G) 263 [.str s] h (fun r h' => r = .bool (rightS s) ∧ h' = h) := by
 refine sb [.tmp 2] (fn := Tryz.f263) Tryz.func263 ?_
 intro Q hQ
 refine wk trivial ?_
 refine lm (fun nL tL hL => ∃ (k : Nat), s.length - k = nL ∧ h ++ [.iter s k] = hL ∧ k ≤ s.length ∧ rightS (s.drop k) = rightS s) ((fun (k : Nat) => (s.length - k : Nat)) (0)) ?_ ?_
 ·refine Wkn.refl ⟨0, rfl, hpE, by omega, rfl⟩
  all_goals first | exact zq trivial | rfl | omega | trivial | skip
 rintro _ s2 h' ⟨k, rfl, rfl, hk, hc⟩ K2 hK2
 refine wk trivial ?_
 refine nextK_at (getIter _ _ _ _) (fun hlt => ?_) (fun hge => ?_)
 ·have hp := dec_pos s k hlt
  have hca := rightS_at s k hlt
  have h3 := dec_bad3 s k
  rw [hc] at hca
  rw [show Utf8.decode ⟨s.toArray⟩ k = dec s k from rfl]
  generalize dec s k = d at *
  obtain ⟨c, m⟩ := d
  simp only [] at hp hca h3 ⊢
  try refine sq trivial ?_
  refine wk trivial ?_
  (first | refine gq trivial (fun g1 => ?_) (fun g1 => ?_) | refine pq trivial (fun g1 => ?_) (fun g1 => ?_)) <;> (try exact g1.elim) <;> (try refine sq trivial ?_) <;> (refine wk trivial ?_)
  ·have g0 : c = 65533 := by omega
   have h4 := h3 g0
   refine kq trivial (HasPrefix_sat G (s.drop k) [239, 191, 189] _) ?_
   refine cq trivial (fun g2 => ?_) (fun g2 => ?_) <;> (try exact g2.elim) <;> (refine wk trivial ?_)
   ·refine ee hQ trivial ?_
    refine fR (.bool _) ?_
    rw [hca, if_pos ⟨g0, h4.2 (by simpa using g2)⟩]
   ·refine hK2 _ _ _ (Wkn.refl ⟨k + m, rfl, hpE, by omega, by rw [hca, if_neg]; rintro ⟨_, h5⟩; have := h4.1 h5; rw [this] at g2; cases g2⟩) (by omega)
    all_goals first | exact zq trivial | rfl | omega | trivial | skip
  ·refine hK2 _ _ _ (Wkn.refl ⟨k + m, rfl, hpE, by omega, by rw [hca, if_neg]; rintro ⟨h5, _⟩; exact g1 (by omega)⟩) (by omega)
   all_goals first | exact zq trivial | rfl | omega | trivial | skip
 ·rw [List.drop_of_length_le (by omega)] at hc
  try refine sq trivial ?_
  refine wk trivial ?_
  refine ee hQ trivial ?_
  refine fR (.bool _) ?_
  rw [← hc]; rfl
end Go.Av
namespace Go.Av
open Go Go.Proofs Go.RowKit
theorem mixT (G : Nat → Option (List AVal)) : (CT G).P.follows .mixedOrders = true := by kernel_rfl
theorem WP_drawW {C : Ctx} {t : Env} {h : Heap} {id : Nat} {l : List Oper} {Q : Exit → Env → Heap → Prop} (hok : preOkG false l.toArray l.length = true) (hm : C.P.follows .mixedOrders = true)
  (hh : WPp C l.toArray l t h fun t' => Q .normal t' h) : WP C (.region id l.toArray true) Q t h := by
 have D := preOkG_spec hok
 obtain ⟨V, hv, hK⟩ := WPp_vals _ _ hh
 have htk : l.toArray.toList.take l.length = l := by simp
 have main : ∀ n, WPix C l.toArray Q (Region.linearise .any l.toArray n) t h := fun n => by
  unfold Region.linearise
  refine pre_sound2 D .any D.less (by simp) (V := V) (t0 := t) (fun _ => True) (fun i o hi _ => by rw [htk] at hi ⊢; exact hv i o hi) (fun n => ?_) _ _ _ _ (by simp) ?_ (fun j oj hj hl => ?_) (fun j hj hl => ?_) (fun _ _ _ => trivial) (Ag.start _ _ _ _ fun j hj => ?_)
  ·rw [htk]
   have e1 : l.toArray.size - l.length = 0 := by simp
   rw [e1]
   exact Rest.nil hK .any n
  ·unfold left
   have : (List.range l.toArray.size).filter (fun i => !(Array.replicate l.toArray.size false).getD i true) = List.range l.toArray.size := by
    rw [List.filter_eq_self]
    intro i hi
    have := List.mem_range.1 hi
    simp at this ⊢
    simp [this]
   rw [this, List.length_range]
  ·have h8 := (Array.getElem?_eq_some_iff.1 hj).1
   simp at h8 hl
   simp [h8] at hl
  ·simp at hj hl
   simp [hj] at hl
  ·have : j < l.length := by omega
   simp [this]
 show ∀ tp, WPix C l.toArray Q (Region.schedule (C.P.follows .mixedOrders) l.toArray tp) t h
 intro tp
 unfold Region.schedule
 rw [hm]
 simp only [Bool.true_or, if_true]
 exact main _
end Go.Av
namespace Go.Av
open Go Go.Proofs Go.RowKit
attribute [local irreducible] WP WPl WPix Sat
set_option maxRecDepth 100000
set_option maxHeartbeats 2000000
variable (G : Nat → Option (List AVal))
def btw (c a b : Int) : Bool := decide (a ≤ c) && decide (c ≤ b)
theorem Pbetween_sat (c a b : Int) (h : Heap) : Sat (CT G) 286 [.int .i32 c, .int .i32 a, .int .i32 b] h (fun r h' => r = .bool (btw c a b) ∧ h' = h) := by
 by_cases k : a ≤ c
 ·have k2 : decide (c ≥ a) = true := by simpa using k
  have F := k2
  refine sb [.tmp 6] (fn := Tryz.f286) Tryz.func286 ?_
  intro Q hQ
  refine wk F ?_
  refine ee hQ F ?_
  exact Fin.same (.bool _) ⟨by simp [btw, k], rfl⟩
 ·have k2 : decide (c ≥ a) = false := by simpa using k
  have F := k2
  refine sb [.tmp 6] (fn := Tryz.f286) Tryz.func286 ?_
  intro Q hQ
  refine wk F ?_
  refine ee hQ F ?_
  exact Fin.same (.bool _) ⟨by simp [btw, k], rfl⟩
def foldR (c : Int) : Int :=
 if c = 215 ∨ c = 930 then c else if btw c 65 90 ∨ btw c 192 222 ∨ btw c 913 937 ∨ btw c 1040 1071 then c + 32 else if btw c 1024 1039 then c + 80 else c
theorem foldR_rune {c : Int} (h : Rune c) : Rune (foldR c) := by
 unfold foldR btw
 simp only [Bool.and_eq_true, decide_eq_true_eq]
 unfold Rune at *
 split
 ·exact h
 ·split
  ·omega
  ·split <;> omega
theorem Pfold_sat (c : Int) (hc : Rune c) (h : Heap) : Sat (CT G) 273 [.int .i32 c] h (fun r h' => r = .int .i32 (foldR c) ∧ h' = h) := by
 have c0 : 0 ≤ c ∧ c ≤ 1114111 := by unfold Rune at hc; omega
 obtain ⟨c1, c2⟩ := c0
 by_cases k1 : c = 215
 ·subst k1
  refine sb [.tmp 2] (fn := Tryz.f273) Tryz.func273 ?_
  intro Q hQ
  refine wk trivial ?_
  refine ee hQ trivial ?_
  exact Fin.same (.int _ _) ⟨rfl, rfl⟩
 by_cases k2 : c = 930
 ·subst k2
  refine sb [.tmp 2] (fn := Tryz.f273) Tryz.func273 ?_
  intro Q hQ
  refine wk trivial ?_
  refine ee hQ trivial ?_
  exact Fin.same (.int _ _) ⟨rfl, rfl⟩
 have w32 : IntKind.i32.wrap (c + 32) = c + 32 := wrap32_in (by omega) (by omega)
 have w80 : IntKind.i32.wrap (c + 80) = c + 80 := wrap32_in (by omega) (by omega)
 have n1 : (c == 215) = false := by simp [k1]
 have n2 : (c == 930) = false := by simp [k2]
 have b1 := Pbetween_sat G c 65 90
 have b2 := Pbetween_sat G c 192 222
 have b3 := Pbetween_sat G c 913 937
 have b4 := Pbetween_sat G c 1040 1071
 have b5 := Pbetween_sat G c 1024 1039
 cases h1 : btw c 65 90
 ·cases h2 : btw c 192 222
  ·cases h3 : btw c 913 937
   ·cases h4 : btw c 1040 1071
    ·cases h5 : btw c 1024 1039
     ·rw [h1] at b1; rw [h2] at b2; rw [h3] at b3; rw [h4] at b4; rw [h5] at b5
      have F := F2 n1 n2
      refine sb [.tmp 2] (fn := Tryz.f273) Tryz.func273 ?_
      intro Q hQ
      refine wk F ?_
      refine kq F (b1 _) ?_
      refine kq F (b2 _) ?_
      refine kq F (b3 _) ?_
      refine kq F (b4 _) ?_
      refine kq F (b5 _) ?_
      refine ee hQ F ?_
      exact Fin.same (.int _ _) ⟨by simp [foldR, k1, k2, h1, h2, h3, h4, h5, w32, w80], rfl⟩
     ·rw [h1] at b1; rw [h2] at b2; rw [h3] at b3; rw [h4] at b4; rw [h5] at b5
      have F := F2 n1 n2
      refine sb [.tmp 2] (fn := Tryz.f273) Tryz.func273 ?_
      intro Q hQ
      refine wk F ?_
      refine kq F (b1 _) ?_
      refine kq F (b2 _) ?_
      refine kq F (b3 _) ?_
      refine kq F (b4 _) ?_
      refine kq F (b5 _) ?_
      refine ee hQ F ?_
      exact Fin.same (.int _ _) ⟨by simp [foldR, k1, k2, h1, h2, h3, h4, h5, w32, w80], rfl⟩
    ·rw [h1] at b1; rw [h2] at b2; rw [h3] at b3; rw [h4] at b4
     have F := F2 n1 n2
     refine sb [.tmp 2] (fn := Tryz.f273) Tryz.func273 ?_
     intro Q hQ
     refine wk F ?_
     refine kq F (b1 _) ?_
     refine kq F (b2 _) ?_
     refine kq F (b3 _) ?_
     refine kq F (b4 _) ?_
     refine ee hQ F ?_
     exact Fin.same (.int _ _) ⟨by simp [foldR, k1, k2, h1, h2, h3, h4, w32], rfl⟩
   ·rw [h1] at b1; rw [h2] at b2; rw [h3] at b3
    have F := F2 n1 n2
    refine sb [.tmp 2] (fn := Tryz.f273) Tryz.func273 ?_
    intro Q hQ
    refine wk F ?_
    refine kq F (b1 _) ?_
    refine kq F (b2 _) ?_
    refine kq F (b3 _) ?_
    refine ee hQ F ?_
    exact Fin.same (.int _ _) ⟨by simp [foldR, k1, k2, h1, h2, h3, w32], rfl⟩
  ·rw [h1] at b1; rw [h2] at b2
   have F := F2 n1 n2
   refine sb [.tmp 2] (fn := Tryz.f273) Tryz.func273 ?_
   intro Q hQ
   refine wk F ?_
   refine kq F (b1 _) ?_
   refine kq F (b2 _) ?_
   refine ee hQ F ?_
   exact Fin.same (.int _ _) ⟨by simp [foldR, k1, k2, h1, h2, w32], rfl⟩
 ·rw [h1] at b1
  have F := F2 n1 n2
  refine sb [.tmp 2] (fn := Tryz.f273) Tryz.func273 ?_
  intro Q hQ
  refine wk F ?_
  refine kq F (b1 _) ?_
  refine ee hQ F ?_
  exact Fin.same (.int _ _) ⟨by simp [foldR, k1, k2, h1, w32], rfl⟩
def foldS (s : Bs) : Bs := encs ((runesF s).map foldR)
theorem PFold_sat (s : Bs) (hs : s.length ≤ 1000000) (h : Heap) : Sat (CT G) 252 [.str s] h (fun r h' => r = .str (foldS s) ∧ h' = h) := by
 have F := @setIter2
 refine sb [.tmp 2] (fn := Tryz.f252) Tryz.func252 ?_
 intro Q hQ
 (repeat (first | refine w1 (fun K hK => ?_) | refine w2 ?_ | refine w3 ?_ | ((first | refine w4 ?_ | refine wD ?_ | refine w5 ?_ | refine w6 ?_ | refine w7 ?_); try refine sq F ?_) | (refine w8 ?_; refine sq F ?_; refine w9 ?_)))
 refine hK _ _ (Wkn.refl ?_)
 clear hK K
 (repeat (first | refine w1 (fun K hK => ?_) | refine w2 ?_ | refine w3 ?_ | ((first | refine w4 ?_ | refine wD ?_ | refine w5 ?_ | refine w6 ?_ | refine w7 ?_); try refine sq F ?_) | (refine w8 ?_; refine sq F ?_; refine w9 ?_)))
 refine hK _ _ ⟨_, _, Weak.virtCell (p := h.length) (v := 0) 5 1 (by omega) (by simp (disch := first | omega | (simp only [go_sem, ↓reduceIte, seval]; first | done | omega) | fail) only [go_sem, ↓reduceIte, seval, F]; rfl) 1 rfl, ?_⟩
 clear hK K
 (repeat (first | refine w1 (fun K hK => ?_) | refine w2 ?_ | refine w3 ?_ | ((first | refine w4 ?_ | refine wD ?_ | refine w5 ?_ | refine w6 ?_ | refine w7 ?_); try refine sq F ?_) | (refine w8 ?_; refine sq F ?_; refine w9 ?_) | ((first | refine hK _ _ (w0 ?_) | (clear hK K; refine hK _ _ (w0 ?_)) | (clear hK K; clear hK K; refine hK _ _ (w0 ?_))); clear hK K)))
 refine lm (fun nL tL hL => ∃ (a : AVal) (v k : Nat) (out : List Int), s.length - k = nL ∧ bldH h [.iter s k] a v (encs out) = hL ∧ bldA a h.length ∧ k ≤ s.length ∧ out ++ (runesF (s.drop k)).map foldR = (runesF s).map foldR ∧ (encs out).length + 4 * (s.length - k) ≤ 4 * s.length) ((fun (a : AVal) (v k : Nat) (out : List Int) => (s.length - k : Nat)) ((.nil (.pointer none))) (0) (0) ([])) ?_ ?_
 ·refine Wkn.refl ⟨(.nil (.pointer none)), 0, 0, [], rfl, by simp [bldH, bldR, bufR, encs], .inl rfl, by omega, by simp, by simp [encs]⟩
  all_goals first | exact zq F | rfl | omega | trivial | skip
 rintro _ s2 h' ⟨a, v, k, out, rfl, rfl, ha, hk, hv, hl⟩ K2 hK2
 (repeat (first | refine w1 (fun K hK => ?_) | refine w2 ?_ | refine w3 ?_ | ((first | refine w4 ?_ | refine wD ?_ | refine w5 ?_ | refine w6 ?_ | refine w7 ?_); try refine sq F ?_) | (refine w8 ?_; refine sq F ?_; refine w9 ?_) | ((first | refine hK _ _ (w0 ?_) | (clear hK K; refine hK _ _ (w0 ?_)) | (clear hK K; clear hK K; refine hK _ _ (w0 ?_))); clear hK K)))
 refine nextK_at (getIter2 _ _ _ _ _ _ _) (fun hlt => ?_) (fun hge => ?_)
 ·have hR := dec_rune s k hlt
  have hp := dec_pos s k hlt
  rw [runesF_at s k hlt, List.map_cons] at hv
  rw [show Utf8.decode ⟨s.toArray⟩ k = dec s k from rfl]
  generalize dec s k = d at *
  obtain ⟨c, m⟩ := d
  simp only [] at hR hp hv ⊢
  have hR2 := foldR_rune hR
  have he := enc_len (foldR c)
  have e2 : encs (out ++ [foldR c]) = encs out ++ enc (foldR c) := by
   simp only [encs, List.flatMap_append, List.flatMap_cons, List.flatMap_nil, List.append_nil]
  try refine sq F ?_
  (repeat (first | refine w1 (fun K hK => ?_) | refine w2 ?_ | refine w3 ?_ | ((first | refine w4 ?_ | refine wD ?_ | refine w5 ?_ | refine w6 ?_ | refine w7 ?_); try refine sq F ?_) | (refine w8 ?_; refine sq F ?_; refine w9 ?_) | ((first | refine hK _ _ (w0 ?_) | (clear hK K; refine hK _ _ (w0 ?_)) | (clear hK K; clear hK K; refine hK _ _ (w0 ?_))); clear hK K)))
  refine (Pfold_sat G c hR _).mono ?_
  rintro r h' ⟨rfl, rfl⟩
  try refine sq F ?_
  (repeat (first | refine w1 (fun K hK => ?_) | refine w2 ?_ | refine w3 ?_ | ((first | refine w4 ?_ | refine wD ?_ | refine w5 ?_ | refine w6 ?_ | refine w7 ?_); try refine sq F ?_) | (refine w8 ?_; refine sq F ?_; refine w9 ?_) | ((first | refine hK _ _ (w0 ?_) | (clear hK K; refine hK _ _ (w0 ?_)) | (clear hK K; clear hK K; refine hK _ _ (w0 ?_))); clear hK K)))
  refine (WriteRune_sat G a (foldR c) hR2 h [.iter s (k + m)] v (encs out) ha (by omega)).mono ?_
  rintro r h' ⟨rfl, rfl⟩
  try refine sq F ?_
  (repeat (first | refine w1 (fun K hK => ?_) | refine w2 ?_ | refine w3 ?_ | ((first | refine w4 ?_ | refine wD ?_ | refine w5 ?_ | refine w6 ?_ | refine w7 ?_); try refine sq F ?_) | (refine w8 ?_; refine sq F ?_; refine w9 ?_) | ((first | refine hK _ _ (w0 ?_) | (clear hK K; refine hK _ _ (w0 ?_)) | (clear hK K; clear hK K; refine hK _ _ (w0 ?_))); clear hK K)))
  refine hK2 _ _ _ (Wkn.refl ⟨(.hp h.length 0 0 0), v + 1, k + m, out ++ [foldR c], rfl, by rw [e2], .inr rfl, by omega, by rw [← hv]; simp, by rw [e2]; simp only [List.length_append]; omega⟩) (by omega)
  all_goals first | exact zq F | rfl | omega | trivial | skip
 ·rw [runesF_end s k (by omega)] at hv
  try refine sq F ?_
  (repeat (first | refine w1 (fun K hK => ?_) | refine w2 ?_ | refine w3 ?_ | ((first | refine w4 ?_ | refine wD ?_ | refine w5 ?_ | refine w6 ?_ | refine w7 ?_); try refine sq F ?_) | (refine w8 ?_; refine sq F ?_; refine w9 ?_) | ((first | refine hK _ _ (w0 ?_) | (clear hK K; refine hK _ _ (w0 ?_)) | (clear hK K; clear hK K; refine hK _ _ (w0 ?_))); clear hK K)))
  refine (String_sat G a h [.iter s k] v (encs out)).mono ?_
  rintro r h' ⟨rfl, b2, rfl⟩
  try refine sq F ?_
  (repeat (first | refine w1 (fun K hK => ?_) | refine w2 ?_ | refine w3 ?_ | ((first | refine w4 ?_ | refine wD ?_ | refine w5 ?_ | refine w6 ?_ | refine w7 ?_); try refine sq F ?_) | (refine w8 ?_; refine sq F ?_; refine w9 ?_) | ((first | refine hK _ _ (w0 ?_) | (clear hK K; refine hK _ _ (w0 ?_)) | (clear hK K; clear hK K; refine hK _ _ (w0 ?_))); clear hK K)))
  refine ee hQ F ?_
  exact Fin.plainE (j := [bldR a (h.length + 1) v (encs out), b2, .iter s k]) (by simp) (.str _) ⟨congrArg AVal.str (by unfold foldS; rw [← hv]; simp), rfl⟩
theorem foldS_len (s : Bs) : (foldS s).length ≤ 4 * s.length := by
 unfold foldS
 have h1 := (encs_len ((runesF s).map foldR)).1
 have h2 := runesF_len s.length s (Nat.le_refl _)
 rw [List.length_map] at h1
 omega
end Go.Av
namespace Go.Av
open Go Go.Proofs Go.RowKit
attribute [local irreducible] WP WPl WPix Sat
set_option maxRecDepth 100000
set_option maxHeartbeats 2000000
variable (G : Nat → Option (List AVal))
def shN : Nat → Bs → Nat → Nat
 | 0, _, _ => 0
 | f + 1, s, n => if s = [] then 0 else if n = 32 then 0 else (dec s 0).2 + shN f (s.drop (dec s 0).2) (n + 1)
def shW (s : Bs) : Bs := s.take (shN s.length s 0)
theorem shN_fuel : ∀ (f : Nat) (s : Bs) (n : Nat), s.length ≤ f → shN f s n = shN s.length s n := by
 intro f
 induction f using Nat.strongRecOn with
 | ind f ih =>
  intro s n hs
  cases s with
  | nil => cases f <;> rfl
  | cons b t =>
   obtain ⟨f, rfl⟩ : ∃ g, f = g + 1 := ⟨f - 1, by simp at hs; omega⟩
   have hd := dec_pos (b :: t) 0 (by simp)
   simp only [List.length_cons] at hs hd ⊢
   have hl : ((b :: t).drop (dec (b :: t) 0).2).length ≤ t.length := by simp only [List.length_drop, List.length_cons]; omega
   rw [shN, shN, if_neg (show ¬ (b :: t) = [] by simp), if_neg (show ¬ (b :: t) = [] by simp), ih f (by omega) _ _ (by omega), ih t.length (by omega) _ _ hl]
def shA (s : Bs) (k n : Nat) : Nat := shN (s.drop k).length (s.drop k) n
theorem shA_end (s : Bs) (k n : Nat) (h : s.length ≤ k) : shA s k n = 0 := by unfold shA; rw [List.drop_of_length_le h]; rfl
theorem shA_at (s : Bs) (k n : Nat) (h : k < s.length) : shA s k n = if n = 32 then 0 else (dec s k).2 + shA s (k + (dec s k).2) (n + 1) := by
 have hd := dec_pos s k h
 have hl : (s.drop k).length = (s.length - k - 1) + 1 := by rw [List.length_drop]; omega
 unfold shA
 rw [hl, shN, if_neg (by intro e; rw [e] at hl; simp at hl), ← dec_drop, List.drop_drop, shN_fuel (s.length - k - 1) _ _ (by simp only [List.length_drop]; omega)]
theorem Pshort_sat (s : Bs) (hs : s.length ≤ 100000000) (h : Heap) : Sat (CT G) 255 [.str s] h (fun r h' => r = .str (shW s) ∧ h' = h) := by
 refine sb [.tmp 2] (fn := Tryz.f255) Tryz.func255 ?_
 intro Q hQ
 refine wk trivial ?_
 refine lm (fun nL tL hL => ∃ (k n : Nat), s.length - k = nL ∧ h ++ [.iter s k] = hL ∧ tL 3 = .int .i64 n ∧ k ≤ s.length ∧ n ≤ 32 ∧ k + shA s k n = shN s.length s 0) ((fun (k n : Nat) => (s.length - k : Nat)) (0) (0)) ?_ ?_
 ·refine Wkn.refl ⟨0, 0, rfl, hpE, ?_, by omega, by omega, by simp [shA]⟩
  all_goals first | exact zq trivial | rfl | omega | trivial | skip
 rintro _ s2 h' ⟨k, n, rfl, rfl, e3, hk, hn, hc⟩ K2 hK2
 simp only [mix_cons, mix_nil, Nat.reduceEqDiff, ↓reduceIte] at e3
 have F := e3
 refine wk F ?_
 refine nextK_at (getIter _ _ _ _) (fun hlt => ?_) (fun hge => ?_)
 ·have hp := dec_pos s k hlt
  have hca := shA_at s k n hlt
  rw [show Utf8.decode ⟨s.toArray⟩ k = dec s k from rfl]
  generalize dec s k = d at *
  obtain ⟨c, m⟩ := d
  simp only [] at hp hca ⊢
  try refine sq F ?_
  refine wk F ?_
  refine cq F (fun c1 => ?_) (fun c1 => ?_) <;> (try exact c1.elim) <;> (refine wk F ?_)
  ·have c2 : n = 32 := by omega
   rw [if_pos c2] at hca
   refine ee hQ F ?_
   refine fR (.str _) ?_
   unfold shW
   congr 2
   omega
  ·have c2 : ¬ n = 32 := by omega
   rw [if_neg c2] at hca
   refine hK2 _ _ _ (Wkn.refl ⟨k + m, n + 1, rfl, hpE, ?_, by omega, by omega, by omega⟩) (by omega)
   all_goals first | exact zq F | rfl | omega | trivial | skip
 ·rw [shA_end s k n (by omega)] at hc
  try refine sq F ?_
  refine wk F ?_
  refine ee hQ F ?_
  refine fR (.str _) ?_
  unfold shW
  rw [← hc, List.take_of_length_le (by omega)]
def wordsF (s : Bs) : List Bs := (fldsF (foldS s)).map shW
theorem flds_len (s : Bs) : ∀ w ∈ fldsF s, w.length ≤ s.length := fun w hw => by
 unfold fldsF Lib.goFieldsP at hw
 rw [List.map_map] at hw
 obtain ⟨x, _, rfl⟩ := List.mem_map.1 hw
 simp only [Function.comp, ByteArray.extract, ByteArray.copySlice, Array.toList_append, Array.toList_extract, List.length_append]
 simp [List.extract]
 omega
theorem spans_cnt (p : Nat → Bool) (s : ByteArray) : ∀ (f pos : Nat) (st : Option Nat) (acc : List (Nat × Nat)), (Lib.spansFromP p s f pos st acc).1.length ≤ acc.length + f
 | 0, _, _, acc => by simp [Lib.spansFromP]
 | f + 1, pos, st, acc => by
  unfold Lib.spansFromP
  split
  ·split
   ·cases st with
    | some a => have := spans_cnt p s f (pos + (Utf8.decode s pos).2) none (acc ++ [(a, pos)]); simp only [List.length_append, List.length_cons, List.length_nil] at this; simp only; omega
    | none => have := spans_cnt p s f (pos + (Utf8.decode s pos).2) none acc; simp only; omega
   ·cases st with
    | some a => have := spans_cnt p s f (pos + (Utf8.decode s pos).2) (some a) acc; simp only; omega
    | none => have := spans_cnt p s f (pos + (Utf8.decode s pos).2) (some pos) acc; simp only; omega
  ·simp only; omega
theorem flds_cnt (s : Bs) : (fldsF s).length ≤ s.length + 1 := by
 unfold fldsF Lib.goFieldsP Lib.spansOfP
 rw [List.length_map, List.length_map]
 have := spans_cnt (fun r => !letF r) ⟨s.toArray⟩ (ByteArray.size ⟨s.toArray⟩) 0 none []
 have hsz : ByteArray.size ⟨s.toArray⟩ = s.length := by simp [ByteArray.size]
 rw [hsz] at this ⊢
 unfold Lib.closeSpans
 simp only [List.length_nil] at this
 split
 ·simp only [List.length_append, List.length_cons, List.length_nil]; omega
 ·omega
theorem PWords_sat (s : Bs) (hs : s.length ≤ 100000) (h : Heap) : Sat (CT G) 217 [.str s] h (fun r h' => r = .sl 1 ((wordsF s).map .str) ∧ h' = h) := by
 have hfl := foldS_len s
 have hwl := flds_len (foldS s)
 have hn := flds_cnt (foldS s)
 refine sb [.tmp 2] (fn := Tryz.f217) Tryz.func217 ?_
 intro Q hQ
 refine wk trivial ?_
 refine kq trivial (PFold_sat G s (by omega) _) ?_
 refine (Fields_sat G (foldS s) (by omega) _).mono ?_
 unfold wordsF at hQ
 generalize fldsF (foldS s) = ws at *
 rintro r h' (⟨hw0, rfl, he⟩ | ⟨hw0, rfl, rfl⟩)
 ·subst hw0
  rw [he]
  try refine sq trivial ?_
  refine wk trivial ?_
  refine lm (fun nL tL hL => 0 = nL ∧ [] ++ h = hL ∧ tL 3 = .sl 1 [] ∧ tL 10 = .int .i64 0 ∧ tL 11 = .int .i64 0) (0) ?_ ?_
  ·refine Wkn.refl ⟨rfl, rfl, ?_, ?_, ?_⟩
   all_goals first | exact zq trivial | rfl | omega | trivial | skip
  rintro _ s2 h' ⟨rfl, rfl, e3, e10, e11⟩ K2 hK2
  simp only [mix_cons, mix_nil, Nat.reduceEqDiff, ↓reduceIte] at e3 e10 e11
  have F := F3 e3 e10 e11
  refine wk F ?_
  refine cq F (fun c1 => ?_) (fun c1 => ?_) <;> (try exact c1.elim) <;> (refine wk F ?_)
  refine ye hQ F ?_
  exact Fin.same (Clo.sl 1 [] fun x hx => by cases hx) ⟨rfl, rfl⟩
 ·try refine sq trivial ?_
  refine wk trivial ?_
  refine lm (fun nL tL hL => ∃ (k : Nat), ws.length - k = nL ∧ h ++ [.row 9 1 0 (((ws.take k).map shW ++ ws.drop k).map .str)] = hL ∧ tL 3 = .hs h.length 0 0 ws.length true ∧ tL 9 = .hs h.length 0 0 ws.length true ∧ tL 10 = .int .i64 (ws.length : Int) ∧ tL 11 = .int .i64 k ∧ k ≤ ws.length) ((fun (k : Nat) => (ws.length - k : Nat)) (0)) ?_ ?_
  ·refine Wkn.refl ⟨0, rfl, hpE, ?_, ?_, ?_, ?_, by omega⟩
   all_goals first | exact zq trivial | rfl | omega | trivial | skip
  rintro _ s2 h' ⟨k, rfl, rfl, e3, e9, e10, e11, hk⟩ K2 hK2
  simp only [mix_cons, mix_nil, Nat.reduceEqDiff, ↓reduceIte] at e3 e9 e10 e11
  have F := F4 e3 e9 e10 e11
  refine wk F ?_
  refine cq F (fun c1 => ?_) (fun c1 => ?_) <;> (try exact c1.elim) <;> (refine wk F ?_)
  ·have c2 : k < ws.length := by omega
   obtain ⟨y, hy, hym⟩ := getElem?_of_lt c2
   have hyl := hwl y hym
   have hget : ((ws.take k).map shW ++ ws.drop k)[k]? = some y := by
    rw [List.getElem?_append_right (by simp; omega), List.length_map, List.length_take, Nat.min_eq_left (by omega), Nat.sub_self, List.getElem?_drop]; simpa using hy
   have hset : (((ws.take k).map shW ++ ws.drop k).map AVal.str).set k (.str (shW y)) = ((ws.take (k + 1)).map shW ++ ws.drop (k + 1)).map .str := by
    have h1 : (AVal.str (shW y)) = AVal.str (shW y) := rfl
    rw [← List.map_set]
    congr 1
    rw [List.set_append_right _ _ (by simp; omega), List.length_map, List.length_take, Nat.min_eq_left (by omega), Nat.sub_self, drop_cons_of hy, List.set_cons_zero, List.take_add_one, hy]
    simp
   have hlen : (((ws.take k).map shW ++ ws.drop k).map AVal.str).length = ws.length := by simp; omega
   generalize hrw : (ws.take k).map shW ++ ws.drop k = rw at *
   have F := F6 F c2 @hget @hset @hlen @heapF
   try refine sq F ?_
   refine wk F ?_
   refine kq F (Pshort_sat G y (by omega) _) ?_
   refine hK2 _ _ _ (Wkn.refl ⟨k + 1, rfl, rfl, ?_, ?_, ?_, ?_, by omega⟩) (by omega)
   all_goals first | exact zq F | rfl | omega | trivial | skip
  ·have hk2 : k = ws.length := by omega
   subst hk2
   have hfin : (ws.take ws.length).map shW ++ ws.drop ws.length = ws.map shW := by rw [List.take_length, List.drop_length, List.append_nil]
   rw [hfin]
   have hg : getRow (h ++ [.row 9 1 0 ((ws.map shW).map .str)]) h.length 0 = some (9, 1, (ws.map shW).map .str) := by rw [gs_new0 _ rfl]; simp [getRow]
   have hz := Frz.data (n := h.length) (len := ws.length) (room := true) (Nat.le_refl _) hg (by simp) (fun r hr => by obtain ⟨a, _, rfl⟩ := List.mem_map.1 hr; exact .str _) (fun r hr c hc => by obtain ⟨a, _, rfl⟩ := List.mem_map.1 hr; simp [AVal.cells] at hc; subst hc; rfl)
   refine ye hQ F ?_
   exact Fin.frz hz ⟨rfl, rfl⟩
def isF (s : Bs) : Bool := decide (wordsF s = [s])
theorem PIs_sat (s : Bs) (hs : s.length ≤ 100000) (h : Heap) : Sat (CT G) 205 [.str s] h (fun r h' => r = .bool (isF s) ∧ h' = h) := by
 have hW := PWords_sat G s hs
 unfold isF
 generalize wordsF s = ws at *
 match ws with
 | [] =>
  refine sb [.tmp 2] (fn := Tryz.f205) Tryz.func205 ?_
  intro Q hQ
  refine wk trivial ?_
  refine kq trivial (hW _) ?_
  refine ee hQ trivial ?_
  exact Fin.same (.bool _) ⟨by simp, rfl⟩
 | [w] =>
  refine sb [.tmp 2] (fn := Tryz.f205) Tryz.func205 ?_
  intro Q hQ
  refine wk trivial ?_
  refine kq trivial (hW _) ?_
  refine ee hQ trivial ?_
  exact Fin.same (.bool _) ⟨by simp; rw [Bool.eq_iff_iff]; simp, rfl⟩
 | w :: v :: l =>
  refine sb [.tmp 2] (fn := Tryz.f205) Tryz.func205 ?_
  intro Q hQ
  refine wk trivial ?_
  refine kq trivial (hW _) ?_
  (first | refine gq trivial (fun g => ?_) (fun g => ?_) | refine pq trivial (fun g => ?_) (fun g => ?_)) <;> (try exact g.elim) <;> (try refine sq trivial ?_) <;> (refine wk trivial ?_)
  ·exfalso; first | omega | (simp at g; omega)
  ·refine ee hQ trivial ?_
   exact Fin.same (.bool _) ⟨by simp, rfl⟩
end Go.Av
namespace Go.Av
open Go Go.Proofs Go.RowKit
attribute [local irreducible] WP WPl WPix Sat
set_option maxRecDepth 100000
set_option maxHeartbeats 2000000
variable (G : Nat → Option (List AVal))
def PS.upFo (s : PS) (k : Int) (f : Fo) : PS := { s with fo := upM s.fo s.c1 k f, c1 := ckM s.fo s.c1 k }
def PS.upFe (s : PS) (k : Int) (f : Fe) : PS := { s with fe := upM s.fe s.c2 k f, c2 := ckM s.fe s.c2 k }
def PS.upIt (s : PS) (k : Int) (f : It) : PS := { s with it := upM s.it s.c3 k f, c3 := ckM s.it s.c3 k }
def PS.upSe (s : PS) (k : Int) (f : Se) : PS := { s with se := upM s.se s.c4 k f, c4 := ckM s.se s.c4 k }
def PS.upNm (s : PS) (k : Int × Bs) (f : Int) : PS := { s with nm := upM s.nm s.c5 k f, c5 := ckM s.nm s.c5 k }
def PS.upPl (s : PS) (k : Bs) (f : Int) : PS := { s with pl := upM s.pl s.c6 k f, c6 := ckM s.pl s.c6 k }
def PS.upGu (s : PS) (k : Int × Bs) (f : Int) : PS := { s with gu := upM s.gu s.c7 k f, c7 := ckM s.gu s.c7 k }
def PS.few (s : PS) : Prop := ∀ id, -100000 ≤ (lkM s.he id).getD 0 ∧ (lkM s.he id).getD 0 ≤ 100000
theorem PS.few1 {s : PS} (h : s.few) (id : Int) : -1000000 ≤ (lkM s.he id).getD 0 ∧ (lkM s.he id).getD 0 ≤ 1000000 := by have := h id; omega
def PS.make (s : PS) (e : Ev) : PS :=
 if e.kind = 1 then (((s.upFo e.a ⟨e.a, e.b, e.s⟩).upNm (e.b, e.s) e.a).hold e.b 1).raise 0 e.a
 else if e.kind = 3 then (((s.upFe e.a ⟨e.a, e.b, e.s, e.t⟩).upPl e.s e.a).hold e.b 1).raise 1 e.a
 else if e.kind = 7 then ((s.upIt e.a ⟨e.a, e.b, e.n, e.s, e.t, e.u, false, false, []⟩).upGu (e.b, e.s) e.a).raise 2 e.a
 else if e.kind = 11 then (s.upSe e.a ⟨e.a, e.s, e.t⟩).raise 3 e.a
 else s
theorem PSmake_sat (s : PS) (e : Ev) (hf : s.few) {H : Heap} {n : Nat} (hn : n + 9 ≤ H.length) : Sat (CT G) 55 [.hp (n + 8) 0 0 0, e.av] (so H n s) (fun r h' => r = .tup [] ∧ h' = so H n (s.make e)) := by
 refine sb [] (fn := Tryz.f55) Tryz.func55 ?_
 intro Q hQ
 refine wk trivial ?_
 by_cases k1 : e.kind = 1
 ·have F := k1
  try refine sq F ?_
  refine wk F ?_
  refine kq F (PShold_sat G _ e.b 1 (PS.few1 (s := ((s.upFo e.a ⟨e.a, e.b, e.s⟩).upNm (e.b, e.s) e.a)) hf e.b) (by omega) (by first | omega | (simp; omega))) ?_
  refine kq F (PSraise_sat G _ 0 e.a (by omega) (by first | omega | (simp; omega))) ?_
  refine ee hQ F ?_
  exact so_fin hn (.tup _ (by simp)) ⟨rfl, by rw [PS.make, if_pos k1]⟩
 by_cases k3 : e.kind = 3
 ·have F := k3
  try refine sq F ?_
  refine wk F ?_
  refine kq F (PShold_sat G _ e.b 1 (PS.few1 (s := ((s.upFe e.a ⟨e.a, e.b, e.s, e.t⟩).upPl e.s e.a)) hf e.b) (by omega) (by first | omega | (simp; omega))) ?_
  refine kq F (PSraise_sat G _ 1 e.a (by omega) (by first | omega | (simp; omega))) ?_
  refine ee hQ F ?_
  exact so_fin hn (.tup _ (by simp)) ⟨rfl, by rw [PS.make, if_neg k1, if_pos k3]⟩
 by_cases k7 : e.kind = 7
 ·have F := k7
  try refine sq F ?_
  refine wk F ?_
  refine kq F (PSraise_sat G _ 2 e.a (by omega) (by first | omega | (simp; omega))) ?_
  refine ee hQ F ?_
  exact so_fin hn (.tup _ (by simp)) ⟨rfl, by rw [PS.make, if_neg k1, if_neg k3, if_pos k7]; rfl⟩
 by_cases k11 : e.kind = 11
 ·have F := k11
  try refine sq F ?_
  refine wk F ?_
  refine kq F (PSraise_sat G _ 3 e.a (by omega) (by first | omega | (simp; omega))) ?_
  refine ee hQ F ?_
  exact so_fin hn (.tup _ (by simp)) ⟨rfl, by rw [PS.make, if_neg k1, if_neg k3, if_neg k7, if_pos k11]; rfl⟩
 have n1 : (e.kind == 1) = false := by simp [k1]
 have n3 : (e.kind == 3) = false := by simp [k3]
 have n7 : (e.kind == 7) = false := by simp [k7]
 have n11 : (e.kind == 11) = false := by simp [k11]
 have F := F4 n1 n3 n7 n11
 try refine sq F ?_
 refine wk F ?_
 refine ee hQ F ?_
 exact so_fin hn (.tup _ (by simp)) ⟨rfl, by rw [PS.make, if_neg k1, if_neg k3, if_neg k7, if_neg k11]⟩
end Go.Av
namespace Go.Av
open Go Go.Proofs Go.RowKit
attribute [local irreducible] WP WPl WPix Sat
set_option maxRecDepth 100000
set_option maxHeartbeats 2000000
section
variable {κ α : Type} [DecidableEq κ]
theorem dlM_filter {l : ML κ α} (hn : (l.map (·.1)).Nodup) (x : κ) : dlM l x = l.filter fun e => !decide (e.1 = x) := by
 induction l with
 | nil => rfl
 | cons e l ih =>
  rw [List.map_cons, List.nodup_cons] at hn
  rw [dlM]
  by_cases h : x = e.1
  ·subst h
   rw [if_pos rfl, List.filter_cons_of_neg (by simp), List.filter_eq_self.2]
   intro d hd
   have : d.1 ≠ e.1 := fun q => hn.1 (List.mem_map.2 ⟨d, hd, q⟩)
   simp [this]
  ·rw [if_neg h, List.filter_cons_of_pos (by simp; exact fun q => h q.symm), ih hn.2]
omit [DecidableEq κ] in
theorem WFM.filter {l : ML κ α} {c : Nat} (w : WFM l c) (p : κ × α × Nat → Bool) : WFM (l.filter p) c :=
 ⟨(List.filter_sublist.map _).nodup w.keys, (List.filter_sublist.map _).nodup w.borns, fun e he => w.lt e (List.mem_filter.1 he).1⟩
omit [DecidableEq κ] in
theorem WFM.born_inj {l : ML κ α} {c : Nat} (w : WFM l c) {d e : κ × α × Nat} (hd : d ∈ l) (he : e ∈ l) (h : d.2.2 = e.2.2) : d = e := by
 have hb := w.borns
 clear w
 induction l with
 | nil => cases hd
 | cons a l ih =>
  rw [List.map_cons, List.nodup_cons] at hb
  rcases List.mem_cons.1 hd with rfl | hd2
  ·rcases List.mem_cons.1 he with rfl | he2
   ·rfl
   ·exact (hb.1 (List.mem_map.2 ⟨e, he2, h.symm⟩)).elim
  ·rcases List.mem_cons.1 he with rfl | he2
   ·exact (hb.1 (List.mem_map.2 ⟨d, hd2, h⟩)).elim
   ·exact ih hd2 he2 hb.2
omit [DecidableEq κ] in
theorem WFM.key_inj {l : ML κ α} {c : Nat} (w : WFM l c) {d e : κ × α × Nat} (hd : d ∈ l) (he : e ∈ l) (h : d.1 = e.1) : d = e := by
 have hb := w.keys
 clear w
 induction l with
 | nil => cases hd
 | cons a l ih =>
  rw [List.map_cons, List.nodup_cons] at hb
  rcases List.mem_cons.1 hd with rfl | hd2
  ·rcases List.mem_cons.1 he with rfl | he2
   ·rfl
   ·exact (hb.1 (List.mem_map.2 ⟨e, he2, h.symm⟩)).elim
  ·rcases List.mem_cons.1 he with rfl | he2
   ·exact (hb.1 (List.mem_map.2 ⟨d, hd2, h⟩)).elim
   ·exact ih hd2 he2 hb.2
end
def itS (l : ML Int It) (fid : Int) (seen : List Nat) : ML Int It := l.filter fun e => !(decide (e.2.1.feed = fid) && decide (e.2.2 ∈ seen))
def guS (l : ML Int It) (g : ML (Int × Bs) Int) (fid : Int) (seen : List Nat) : ML (Int × Bs) Int := g.filter fun e => !(l.any fun d => decide (d.2.1.feed = fid) && decide (d.2.2 ∈ seen) && decide (e.1 = (d.2.1.feed, d.2.1.guid)))
theorem itS_go {l : ML Int It} {c : Nat} (w : WFM l c) {fid : Int} {seen : List Nat} {e : Int × It × Nat} (he : e ∈ l) (hf : e.2.1.feed = fid) : dlM (itS l fid seen) e.1 = itS l fid (seen ++ [e.2.2]) := by
 unfold itS
 rw [dlM_filter (w.filter _).keys]
 rw [List.filter_filter]
 refine List.filter_congr fun d hd => ?_
 by_cases h : d = e
 ·subst h; simp [hf]
 ·have h1 : d.1 ≠ e.1 := fun q => h (w.key_inj hd he q)
  have h2 : d.2.2 ≠ e.2.2 := fun q => h (w.born_inj hd he q)
  simp [h1, h2]
theorem guS_go {l : ML Int It} {c c' : Nat} {g : ML (Int × Bs) Int} (w : WFM l c) (wg : WFM g c') {fid : Int} {seen : List Nat} {e : Int × It × Nat} (he : e ∈ l) (hf : e.2.1.feed = fid) : dlM (guS l g fid seen) (e.2.1.feed, e.2.1.guid) = guS l g fid (seen ++ [e.2.2]) := by
 unfold guS
 rw [dlM_filter (wg.filter _).keys]
 rw [List.filter_filter]
 refine List.filter_congr fun d hd => ?_
 rw [Bool.eq_iff_iff]
 simp only [Bool.and_eq_true, Bool.not_eq_true', decide_eq_false_iff_not, List.any_eq_false, Bool.and_eq_true, decide_eq_true_eq, not_and, List.mem_append, List.mem_singleton]
 constructor
 ·rintro ⟨h1, h2⟩ x hx ⟨h3, h4⟩ h5
  rcases h4 with h4 | h4
  ·exact h2 x hx ⟨h3, h4⟩ h5
  ·rw [w.born_inj hx he h4] at h5; exact h1 h5
 ·intro h
  exact ⟨fun h1 => h e he ⟨hf, .inr rfl⟩ h1, fun x hx h3 h5 => h x hx ⟨h3.1, .inl h3.2⟩ h5⟩
theorem itS_stay {l : ML Int It} {c : Nat} (w : WFM l c) {fid : Int} {seen : List Nat} {e : Int × It × Nat} (he : e ∈ l) (hf : e.2.1.feed ≠ fid) : itS l fid (seen ++ [e.2.2]) = itS l fid seen := by
 unfold itS
 refine List.filter_congr fun d hd => ?_
 by_cases h : d = e
 ·subst h; simp [hf]
 ·have h2 : d.2.2 ≠ e.2.2 := fun q => h (w.born_inj hd he q)
  simp [h2]
theorem guS_stay {l : ML Int It} {c : Nat} {g : ML (Int × Bs) Int} (w : WFM l c) {fid : Int} {seen : List Nat} {e : Int × It × Nat} (he : e ∈ l) (hf : e.2.1.feed ≠ fid) : guS l g fid (seen ++ [e.2.2]) = guS l g fid seen := by
 unfold guS
 refine List.filter_congr fun d hd => ?_
 rw [Bool.eq_iff_iff]
 simp only [Bool.not_eq_true', List.any_eq_false, Bool.and_eq_true, decide_eq_true_eq, not_and, List.mem_append, List.mem_singleton]
 constructor
 ·intro h x hx h3 h5
  exact h x hx ⟨h3.1, .inl h3.2⟩ h5
 ·rintro h x hx ⟨h3, h4⟩ h5
  rcases h4 with h4 | h4
  ·exact h x hx ⟨h3, h4⟩ h5
  ·rw [w.born_inj hx he h4] at h3; exact hf h3
theorem itS_end {l : ML Int It} {fid : Int} {seen : List Nat} (h : ∀ e ∈ itS l fid seen, e.2.2 ∈ seen) : ∀ e ∈ l, e.2.1.feed = fid → e.2.2 ∈ seen := by
 intro e he hf
 apply Classical.byContradiction
 intro hs
 exact hs (h e (List.mem_filter.2 ⟨he, by simp [hs]⟩))
theorem itS_nil (l : ML Int It) (fid : Int) : itS l fid [] = l := by unfold itS; simp
theorem guS_nil (l : ML Int It) (g : ML (Int × Bs) Int) (fid : Int) : guS l g fid [] = g := by unfold guS; simp
def itF (l : ML Int It) (fid : Int) : ML Int It := l.filter fun e => !decide (e.2.1.feed = fid)
def guF (l : ML Int It) (g : ML (Int × Bs) Int) (fid : Int) : ML (Int × Bs) Int := g.filter fun e => !(l.any fun d => decide (d.2.1.feed = fid) && decide (e.1 = (d.2.1.feed, d.2.1.guid)))
theorem itS_all {l : ML Int It} {fid : Int} {seen : List Nat} (h : ∀ e ∈ l, e.2.1.feed = fid → e.2.2 ∈ seen) : itS l fid seen = itF l fid := by
 unfold itS itF
 refine List.filter_congr fun d hd => ?_
 by_cases hf : d.2.1.feed = fid
 ·simp [hf, h d hd hf]
 ·simp [hf]
theorem guS_all {l : ML Int It} {g : ML (Int × Bs) Int} {fid : Int} {seen : List Nat} (h : ∀ e ∈ l, e.2.1.feed = fid → e.2.2 ∈ seen) : guS l g fid seen = guF l g fid := by
 unfold guS guF
 refine List.filter_congr fun d hd => ?_
 rw [Bool.eq_iff_iff]
 simp only [Bool.not_eq_true', List.any_eq_false, Bool.and_eq_true, decide_eq_true_eq, not_and]
 constructor
 ·intro h1 x hx h3; exact h1 x hx ⟨h3, h x hx h3⟩
 ·intro h1 x hx h3; exact h1 x hx h3.1
variable (G : Nat → Option (List AVal))
def PS.dlFe (s : PS) (k : Int) : PS := { s with fe := dlM s.fe k }
def PS.dlPl (s : PS) (k : Bs) : PS := { s with pl := dlM s.pl k }
def PS.unfeed (s : PS) (f : Fe) : PS := ((({ s with it := itF s.it f.id, gu := guF s.it s.gu f.id } : PS).dlPl f.url).dlFe f.id).hold f.inn (-1)
theorem PSunfeed_sat (s : PS) (f : Fe) (hw : WFM s.it s.c3) (hg : WFM s.gu s.c7) (hf : s.few) {H : Heap} {n : Nat} (hn : n + 9 ≤ H.length) : Sat (CT G) 53 [.hp (n + 8) 0 0 0, f.av] (so H n s) (fun r h' => r = .tup [] ∧ h' = so H n (s.unfeed f)) := by
 refine sb [] (fn := Tryz.f53) Tryz.func53 ?_
 intro Q hQ
 refine wk trivial ?_
 refine lm (fun nL tL hL => ∃ (hh : Heap) (seen : List Nat), leftM (itS s.it f.id seen) seen = nL ∧ so hh n { s with it := itS s.it f.id seen, gu := guS s.it s.gu f.id seen } = hL ∧ tL 0 = .hp (n + 8) 0 0 0 ∧ tL 3 = .hp H.length 0 0 0 ∧ tL 10 = .hp (H.length + 1) 0 0 0 ∧ (FrN H.length H hh ∧ H.length + 1 < hh.length) ∧ getRow hh H.length 0 = some (51, 4, [.agg [.int .i64 f.id, .int .i64 f.inn, .str f.url, .str f.title]]) ∧ hh[H.length + 1]? = some (.mit (n + 2) s.c3 seen s.c3)) ((fun (hh : Heap) (seen : List Nat) => (leftM (itS s.it f.id seen) seen : Nat)) (H ++ [.row 51 4 0 [.agg [.int .i64 f.id, .int .i64 f.inn, .str f.url, .str f.title]], .mit (n + 2) s.c3 [] s.c3]) ([])) ?_ ?_
 ·refine Wkn.refl ⟨H ++ [.row 51 4 0 [.agg [.int .i64 f.id, .int .i64 f.inn, .str f.url, .str f.title]], .mit (n + 2) s.c3 [] s.c3], [], rfl, by rw [itS_nil, guS_nil], ?_, ?_, ?_, ⟨FrN.app _ (by omega) (FrN.refl _ _), by simp⟩, by rw [gs_new0 _ rfl]; rfl, by simp⟩
  all_goals first | exact zq trivial | rfl | omega | trivial | skip
 rintro _ s2 h' ⟨hh, seen, rfl, rfl, e0, e3, e10, hfr, hgr, hi⟩ K2 hK2
 simp only [mix_cons, mix_nil, Nat.reduceEqDiff, ↓reduceIte] at e0 e3 e10
 have F := F3 e0 e3 e10
 refine wk F ?_
 obtain ⟨hfr, hfl⟩ := hfr
 have hn1 : n + 9 ≤ hh.length := by omega
 refine nextM_at (q := n + 2) (c := s.c3) (seen := seen) (l := itS s.it f.id seen) (by rw [so_get hn1 (by omega)]; exact hi) (so_m3 hn1) (hw.filter _).lt (fun e he hs => ?_) (fun hall => ?_)
 ·have F := F3 F hgr @heapF
  try refine sq F ?_
  refine wk F ?_
  have hel := (List.mem_filter.1 he).1
  refine entry_at (q := n + 2) (l := itS s.it f.id seen) (by rw [so_get (by simpa using hn1) (by omega), List.getElem?_set_self hfl]) (so_m3 (by simpa using hn1)) (hw.filter _) he ?_
  try refine sq F ?_
  refine wk F ?_
  refine cq F (fun c1 => ?_) (fun c1 => ?_) <;> (try exact c1.elim) <;> (refine wk F ?_)
  ·have hlt : leftM (itS s.it f.id (seen ++ [e.2.2])) (seen ++ [e.2.2]) < leftM (itS s.it f.id seen) seen := by rw [← itS_go hw hel c1]; exact leftM_lt he hs (dlM_sub _ _)
   refine hK2 _ _ _ (Wkn.refl ⟨hh.set (H.length + 1) (.mit (n + 2) s.c3 (seen ++ [e.2.2]) s.c3) ++ [.row 82 9 0 [e.2.1.av]], seen ++ [e.2.2], rfl, by rw [← itS_go hw hel c1, ← guS_go hw hg hel c1]; rfl, ?_, ?_, ?_, ⟨FrN.app _ (by simp; omega) (FrN.set _ (by omega) hfr), by simp; omega⟩, by rw [gs_old _ (by simp; omega), gs_ne _ _ (by omega)]; exact hgr, by rw [List.getElem?_append_left (by simp; omega), List.getElem?_set_self hfl]⟩) (by omega)
   all_goals first | exact zq F | rfl | omega | trivial | skip
  ·have hlt : leftM (itS s.it f.id (seen ++ [e.2.2])) (seen ++ [e.2.2]) < leftM (itS s.it f.id seen) seen := by rw [itS_stay hw hel c1]; exact leftM_lt he hs (List.Sublist.refl _)
   refine hK2 _ _ _ (Wkn.refl ⟨hh.set (H.length + 1) (.mit (n + 2) s.c3 (seen ++ [e.2.2]) s.c3) ++ [.row 82 9 0 [e.2.1.av]], seen ++ [e.2.2], rfl, by rw [itS_stay hw hel c1, guS_stay hw hel c1]; rfl, ?_, ?_, ?_, ⟨FrN.app _ (by simp; omega) (FrN.set _ (by omega) hfr), by simp; omega⟩, by rw [gs_old _ (by simp; omega), gs_ne _ _ (by omega)]; exact hgr, by rw [List.getElem?_append_left (by simp; omega), List.getElem?_set_self hfl]⟩) (by omega)
   all_goals first | exact zq F | rfl | omega | trivial | skip
 ·have hx := itS_end hall
  rw [itS_all hx, guS_all hx]
  have F := F2 F hgr
  try refine sq F ?_
  refine wk F ?_
  refine kq F (PShold_sat G _ f.inn (-1) (PS.few1 (s := (({ s with it := itF s.it f.id, gu := guF s.it s.gu f.id } : PS).dlPl f.url).dlFe f.id) hf f.inn) (by omega) hn1) ?_
  obtain ⟨j, hj⟩ := hfr.behind (by omega)
  subst hj
  refine ee hQ F ?_
  exact so_fin hn (.tup _ (by simp)) ⟨rfl, rfl⟩
end Go.Av
namespace Go.Av
open Go Go.Proofs Go.RowKit
attribute [local irreducible] WP WPl WPix Sat
set_option maxRecDepth 100000
set_option maxHeartbeats 4000000
variable (G : Nat → Option (List AVal))
def PS.dlNm (s : PS) (k : Int × Bs) : PS := { s with nm := dlM s.nm k }
def PS.dlFo (s : PS) (k : Int) : PS := { s with fo := dlM s.fo k }
def PS.dlSe (s : PS) (k : Int) : PS := { s with se := dlM s.se k }
def PS.after (s : PS) (tg : List Bs) (e : Ev) : PS :=
 if e.kind = 2 then (((s.dlNm (((lkM s.fo e.a).getD Fo.z).inn, ((lkM s.fo e.a).getD Fo.z).name)).dlFo e.a).hold ((lkM s.fo e.a).getD Fo.z).inn (-1))
 else if e.kind = 4 then s.unfeed ((lkM s.fe e.a).getD Fe.z)
 else if e.kind = 5 then s.upFe e.a { (lkM s.fe e.a).getD Fe.z with title := e.t }
 else if e.kind = 6 then ((s.hold ((lkM s.fe e.a).getD Fe.z).inn (-1)).hold e.b 1).upFe e.a { (lkM s.fe e.a).getD Fe.z with inn := e.b }
 else if e.kind = 8 then s.upIt e.a { (lkM s.it e.a).getD It.z with read := e.n == 1 }
 else if e.kind = 9 then s.upIt e.a { (lkM s.it e.a).getD It.z with star := e.n == 1 }
 else if e.kind = 10 then s.upIt e.a { (lkM s.it e.a).getD It.z with tags := tg }
 else if e.kind = 12 then s.dlSe e.a
 else if e.kind = 13 then { s with clock := e.n }
 else s.make e
theorem PSApply_sat (s : PS) (e : Ev) (b : Bool) (tg : List Bs) (hw : WFM s.it s.c3) (hg : WFM s.gu s.c7) (hf : s.few) (hf2 : (s.hold ((lkM s.fe e.a).getD Fe.z).inn (-1)).few)
  (hF : ∀ (n : Nat) (H : Heap), n + 9 ≤ H.length → Sat (CT G) 51 [.hp (n + 8) 0 0 0, e.av] (so H n s) (fun r h' => r = .bool b ∧ h' = so H n s))
  (hT : ∀ (n : Nat) (H : Heap), n + 9 ≤ H.length → Sat (CT G) 54 [.hp (n + 8) 0 0 0, e.av] (so H n s) (fun r h' => r = .sl 1 (tg.map .str) ∧ h' = so H n s))
  {H : Heap} {n : Nat} (hn : n + 9 ≤ H.length) : Sat (CT G) 21 [.hp (n + 8) 0 0 0, e.av] (so H n s) (fun r h' => r = .bool b ∧ h' = so H n (if b then s.after tg e else s)) := by
 cases b with
 | false =>
  refine sb [.tmp 4] (fn := Tryz.f21) Tryz.func21 ?_
  intro Q hQ
  refine wk trivial ?_
  refine kq trivial (hF n _ (by first | omega | (simp; omega))) ?_
  refine ee hQ trivial ?_
  exact so_fin hn (.bool _) ⟨rfl, rfl⟩
 | true =>
  refine sb [.tmp 4] (fn := Tryz.f21) Tryz.func21 ?_
  intro Q hQ
  refine wk trivial ?_
  refine kq trivial (hF n _ (by first | omega | (simp; omega))) ?_
  refine WP_draw8 17 [14, 15, 16] [true, true, true, true, true, true, true, true, true, true, true, true, true, true, false, false, false] (.two 14 [false, true, true, true, true, true, true, false, true, true, true, true, true, true] (.one 15 [false, true, true, true, true, true, true, false, true, true, true, true, true, true] (.one 16 [false, false, false, false, false, false, false, false, true, true, true, true, true, true] .fin)) 15 [false, true, true, true, true, true, true, false, true, true, true, true, true, true] (.one 14 [false, true, true, true, true, true, true, false, true, true, true, true, true, true] (.one 16 [false, false, false, false, false, false, false, false, true, true, true, true, true, true] .fin))) (by decide +kernel) (by kernel_rfl) (by decide +kernel) ?_
  simp only [maskL_t, maskL_f, maskL_n]
  try refine sq trivial ?_
  repeat' (first | (refine WPe_finI ?_; try refine sq trivial ?_) | (refine WPe_oneI ?_; try refine sq trivial ?_) | (refine WPe_twoI ?_ ?_ <;> try refine sq trivial ?_))
  all_goals try refine wk trivial ?_
  all_goals (
   by_cases k2 : e.kind = 2
   ·have F := k2
    try refine sq F ?_
    refine wk F ?_
    refine WP_draw8 8 [7] [true, true, true, true, true, true, true, false] (.one 7 [false, true, true, true, true, true, true] .fin) (by decide +kernel) (by kernel_rfl) (by decide +kernel) ?_
    simp only [maskL_t, maskL_f, maskL_n]
    try refine sq F ?_
    repeat' (first | (refine WPe_finI ?_; try refine sq F ?_) | (refine WPe_oneI ?_; try refine sq F ?_) | (refine WPe_twoI ?_ ?_ <;> try refine sq F ?_))
    all_goals try refine wk F ?_
    refine kq F (PShold_sat G _ _ (-1) (PS.few1 (s := ((s.dlNm (((lkM s.fo e.a).getD Fo.z).inn, ((lkM s.fo e.a).getD Fo.z).name)).dlFo e.a)) hf _) (by omega) (by first | omega | (simp; omega))) ?_
    refine ee hQ F ?_
    exact so_fin hn (.bool _) ⟨rfl, by rw [PS.after, if_pos k2]; try rfl⟩
   by_cases k4 : e.kind = 4
   ·have F := k4
    try refine sq F ?_
    refine wk F ?_
    refine kq F (PSunfeed_sat G s ((lkM s.fe e.a).getD Fe.z) hw hg hf (by first | omega | (simp; omega))) ?_
    refine ee hQ F ?_
    exact so_fin hn (.bool _) ⟨rfl, by rw [PS.after, if_neg (by omega), if_pos k4]; try rfl⟩
   by_cases k5 : e.kind = 5
   ·have F := k5
    try refine sq F ?_
    refine wk F ?_
    refine ee hQ F ?_
    exact so_fin hn (.bool _) ⟨rfl, by rw [PS.after, if_neg (by omega), if_neg (by omega), if_pos k5]; try rfl⟩
   by_cases k6 : e.kind = 6
   ·have F := k6
    try refine sq F ?_
    refine wk F ?_
    refine kq F (PShold_sat G s _ (-1) (PS.few1 hf _) (by omega) (by first | omega | (simp; omega))) ?_
    refine kq F (PShold_sat G _ e.b 1 (PS.few1 hf2 _) (by omega) (by first | omega | (simp; omega))) ?_
    refine ee hQ F ?_
    exact so_fin hn (.bool _) ⟨rfl, by rw [PS.after, if_neg (by omega), if_neg (by omega), if_neg (by omega), if_pos k6]; try rfl⟩
   by_cases k8 : e.kind = 8
   ·have F := k8
    try refine sq F ?_
    refine wk F ?_
    refine ee hQ F ?_
    exact so_fin hn (.bool _) ⟨rfl, by rw [PS.after, if_neg (by omega), if_neg (by omega), if_neg (by omega), if_neg (by omega), if_pos k8]; try rfl⟩
   by_cases k9 : e.kind = 9
   ·have F := k9
    try refine sq F ?_
    refine wk F ?_
    refine ee hQ F ?_
    exact so_fin hn (.bool _) ⟨rfl, by rw [PS.after, if_neg (by omega), if_neg (by omega), if_neg (by omega), if_neg (by omega), if_neg (by omega), if_pos k9]; try rfl⟩
   by_cases k10 : e.kind = 10
   ·have F := k10
    try refine sq F ?_
    refine wk F ?_
    have hT2 := hT
    simp only [Ev.av_eq, k10] at hT2
    refine kq F (hT2 n _ (by first | omega | (simp; omega))) ?_
    refine ee hQ F ?_
    exact so_fin hn (.bool _) ⟨rfl, by rw [PS.after, if_neg (by omega), if_neg (by omega), if_neg (by omega), if_neg (by omega), if_neg (by omega), if_neg (by omega), if_pos k10]; try rfl⟩
   by_cases k12 : e.kind = 12
   ·have F := k12
    try refine sq F ?_
    refine wk F ?_
    refine ee hQ F ?_
    exact so_fin hn (.bool _) ⟨rfl, by rw [PS.after, if_neg (by omega), if_neg (by omega), if_neg (by omega), if_neg (by omega), if_neg (by omega), if_neg (by omega), if_neg (by omega), if_pos k12]; try rfl⟩
   by_cases k13 : e.kind = 13
   ·have F := k13
    try refine sq F ?_
    refine wk F ?_
    refine ee hQ F ?_
    exact so_fin hn (.bool _) ⟨rfl, by rw [PS.after, if_neg (by omega), if_neg (by omega), if_neg (by omega), if_neg (by omega), if_neg (by omega), if_neg (by omega), if_neg (by omega), if_neg (by omega), if_pos k13]; try rfl⟩
   have n2 : (e.kind == 2) = false := by simp [k2]
   have n4 : (e.kind == 4) = false := by simp [k4]
   have n5 : (e.kind == 5) = false := by simp [k5]
   have n6 : (e.kind == 6) = false := by simp [k6]
   have n8 : (e.kind == 8) = false := by simp [k8]
   have n9 : (e.kind == 9) = false := by simp [k9]
   have n10 : (e.kind == 10) = false := by simp [k10]
   have n12 : (e.kind == 12) = false := by simp [k12]
   have n13 : (e.kind == 13) = false := by simp [k13]
   have F := F9 n2 n4 n5 n6 n8 n9 n10 n12 n13
   try refine sq F ?_
   refine wk F ?_
   refine kq F (PSmake_sat G s e hf (by first | omega | (simp; omega))) ?_
   refine ee hQ F ?_
   exact so_fin hn (.bool _) ⟨rfl, by rw [PS.after, if_neg k2, if_neg k4, if_neg k5, if_neg k6, if_neg k8, if_neg k9, if_neg k10, if_neg k12, if_neg k13]⟩)
end Go.Av
namespace Go.Av
open Go Go.Proofs Go.RowKit
attribute [local irreducible] WP WPl WPix Sat
set_option maxRecDepth 100000
set_option maxHeartbeats 2000000
def idF (n : Int) : Bool := decide (1 ≤ n) && decide (n ≤ 1048576)
structure Leaf where
 label : Bs → Bool
 title : Bs → Bool
 link : Bs → Bool
 tag : Bs → Bool
 query : Bs → Bool
 moment : Int → Bool
def Leaf.place (L : Leaf) (t : Bs) : Bool := !(t == []) && L.link t
def Leaf.right (L : Leaf) (e : Ev) : Bool :=
 if e.kind = 1 then idF e.a && ((e.b == 0 || idF e.b) && L.label e.s)
 else if e.kind = 2 ∨ e.kind = 4 ∨ e.kind = 12 then idF e.a
 else if e.kind = 3 then idF e.a && ((e.b == 0 || idF e.b) && (L.place e.s && L.title e.t))
 else if e.kind = 5 then idF e.a && L.title e.t
 else if e.kind = 6 then idF e.a && (e.b == 0 || idF e.b)
 else if e.kind = 7 then idF e.a && (idF e.b && (L.moment e.n && (L.place e.s && (L.title e.t && L.link e.u))))
 else if e.kind = 8 ∨ e.kind = 9 then idF e.a && (e.n == 0 || e.n == 1)
 else if e.kind = 10 then idF e.a && ((e.n == 0 || e.n == 1) && L.tag e.s)
 else if e.kind = 11 then idF e.a && (L.label e.s && L.query e.t)
 else if e.kind = 13 then L.moment e.n
 else false
def usedE (e : Ev) : Ev :=
 if e.kind = 1 then ⟨e.kind, e.a, e.b, 0, e.s, [], []⟩
 else if e.kind = 3 then ⟨e.kind, e.a, e.b, 0, e.s, e.t, []⟩
 else if e.kind = 5 then ⟨e.kind, e.a, 0, 0, [], e.t, []⟩
 else if e.kind = 6 then ⟨e.kind, e.a, e.b, 0, [], [], []⟩
 else if e.kind = 7 then e
 else if e.kind = 8 ∨ e.kind = 9 then ⟨e.kind, e.a, 0, e.n, [], [], []⟩
 else if e.kind = 10 then ⟨e.kind, e.a, 0, e.n, e.s, [], []⟩
 else if e.kind = 11 then ⟨e.kind, e.a, 0, 0, e.s, e.t, []⟩
 else if e.kind = 13 then ⟨e.kind, 0, 0, e.n, [], [], []⟩
 else ⟨e.kind, e.a, 0, 0, [], [], []⟩
instance : DecidableEq Ev := fun x y => by
 cases x; cases y; simp only [Ev.mk.injEq]; exact inferInstance
def Leaf.ck (L : Leaf) (e : Ev) : Bool := L.right e && decide (usedE e = e)
@[go_sem] theorem abin_ev (h : Heap) (d e : Ev) : abin Tryz.prog h .neq 45 (.agg [.int .i64 d.kind, .int .i64 d.a, .int .i64 d.b, .int .i64 d.n, .str d.s, .str d.t, .str d.u]) (.agg [.int .i64 e.kind, .int .i64 e.a, .int .i64 e.b, .int .i64 e.n, .str e.s, .str e.t, .str e.u]) = some (.bool (!decide (d = e))) := by
 obtain ⟨a1, a2, a3, a4, a5, a6, a7⟩ := d
 obtain ⟨b1, b2, b3, b4, b5, b6, b7⟩ := e
 simp only [abin, go_sem, aeqL, aeq1, ↓reduceIte, Option.map_some, Option.some.injEq, AVal.bool.injEq, Ev.mk.injEq, Bool.not_inj_iff]
 rw [Bool.eq_iff_iff]
 simp
theorem Ev.clo (N : Nat) (e : Ev) : Clo N e.av := .agg _ fun x hx => by
 simp only [List.mem_cons, List.not_mem_nil, or_false] at hx
 rcases hx with rfl | rfl | rfl | rfl | rfl | rfl | rfl <;> first | exact .int _ _ | exact .str _
theorem clo7 (N : Nat) (a b c d : Int) (s t u : Bs) : Clo N (.agg [.int .i64 a, .int .i64 b, .int .i64 c, .int .i64 d, .str s, .str t, .str u]) := Ev.clo N ⟨a, b, c, d, s, t, u⟩
variable (G : Nat → Option (List AVal))
theorem PEid_sat (n : Int) (h : Heap) : Sat (CT G) 192 [.int .i64 n] h (fun r h' => r = .bool (idF n) ∧ h' = h) := by
 by_cases k : 1 ≤ n
 ·have k2 : decide (n ≥ 1) = true := by simpa using k
  have F := k2
  refine sb [.tmp 2] (fn := Tryz.f192) Tryz.func192 ?_
  intro Q hQ
  refine wk F ?_
  refine ee hQ F ?_
  exact Fin.same (.bool _) ⟨by simp [idF, k], rfl⟩
 ·have k2 : decide (n ≥ 1) = false := by simpa using k
  have F := k2
  refine sb [.tmp 2] (fn := Tryz.f192) Tryz.func192 ?_
  intro Q hQ
  refine wk F ?_
  refine ee hQ F ?_
  exact Fin.same (.bool _) ⟨by simp [idF, k], rfl⟩
theorem PEused_sat (e : Ev) (h : Heap) : Sat (CT G) 147 [e.av] h (fun r h' => r = (usedE e).av ∧ h' = h) := by
 by_cases k1 : e.kind = 1
 ·have F := k1
  skip
  refine sb [.cell 2 45] (fn := Tryz.f147) Tryz.func147 ?_
  intro Q hQ
  refine wn F ?_
  refine WP_draw8 6 [5] [true, true, true, true, true, false] (.one 5 [false, false, true, true] .fin) (by decide +kernel) (by kernel_rfl) (by decide +kernel) ?_
  simp only [maskL_t, maskL_f, maskL_n]
  try refine sq F ?_
  repeat' (first | (refine WPe_finI ?_; try refine sq F ?_) | (refine WPe_oneI ?_; try refine sq F ?_) | (refine WPe_twoI ?_ ?_ <;> try refine sq F ?_))
  all_goals try refine wn F ?_
  skip
  all_goals (
   refine ye hQ F ?_
   exact Fin.plain (clo7 ..) ⟨by simp [usedE, Ev.av, k1], rfl⟩)
 by_cases k3 : e.kind = 3
 ·have F := k3
  skip
  refine sb [.cell 2 45] (fn := Tryz.f147) Tryz.func147 ?_
  intro Q hQ
  refine wn F ?_
  refine WP_draw8 10 [7, 9] [true, true, true, true, true, true, true, false, true, false] (.one 7 [false, false, true, true, true, true, false, false, true] (.one 9 [false, false, false, false, true, true] .fin)) (by decide +kernel) (by kernel_rfl) (by decide +kernel) ?_
  simp only [maskL_t, maskL_f, maskL_n]
  try refine sq F ?_
  repeat' (first | (refine WPe_finI ?_; try refine sq F ?_) | (refine WPe_oneI ?_; try refine sq F ?_) | (refine WPe_twoI ?_ ?_ <;> try refine sq F ?_))
  all_goals try refine wn F ?_
  skip
  all_goals (
   refine ye hQ F ?_
   exact Fin.plain (clo7 ..) ⟨by simp [usedE, Ev.av, k3], rfl⟩)
 by_cases k5 : e.kind = 5
 ·have F := k5
  skip
  refine sb [.cell 2 45] (fn := Tryz.f147) Tryz.func147 ?_
  intro Q hQ
  refine wn F ?_
  skip
  all_goals (
   refine ye hQ F ?_
   exact Fin.plain (clo7 ..) ⟨by simp [usedE, Ev.av, k5], rfl⟩)
 by_cases k6 : e.kind = 6
 ·have F := k6
  skip
  refine sb [.cell 2 45] (fn := Tryz.f147) Tryz.func147 ?_
  intro Q hQ
  refine wn F ?_
  skip
  all_goals (
   refine ye hQ F ?_
   exact Fin.plain (clo7 ..) ⟨by simp [usedE, Ev.av, k6], rfl⟩)
 by_cases k7 : e.kind = 7
 ·have F := k7
  skip
  refine sb [.cell 2 45] (fn := Tryz.f147) Tryz.func147 ?_
  intro Q hQ
  refine wn F ?_
  skip
  all_goals (
   refine ye hQ F ?_
   exact Fin.plain (clo7 ..) ⟨by simp [usedE, Ev.av, k7], rfl⟩)
 by_cases k8 : e.kind = 8
 ·have F := k8
  skip
  refine sb [.cell 2 45] (fn := Tryz.f147) Tryz.func147 ?_
  intro Q hQ
  refine wn F ?_
  skip
  all_goals (
   refine ye hQ F ?_
   exact Fin.plain (clo7 ..) ⟨by simp [usedE, Ev.av, k8], rfl⟩)
 by_cases k9 : e.kind = 9
 ·have F := k9
  skip
  refine sb [.cell 2 45] (fn := Tryz.f147) Tryz.func147 ?_
  intro Q hQ
  refine wn F ?_
  skip
  all_goals (
   refine ye hQ F ?_
   exact Fin.plain (clo7 ..) ⟨by simp [usedE, Ev.av, k9], rfl⟩)
 by_cases k10 : e.kind = 10
 ·have F := k10
  skip
  refine sb [.cell 2 45] (fn := Tryz.f147) Tryz.func147 ?_
  intro Q hQ
  refine wn F ?_
  refine WP_draw8 6 [5] [true, true, true, true, true, false] (.one 5 [false, false, true, true] .fin) (by decide +kernel) (by kernel_rfl) (by decide +kernel) ?_
  simp only [maskL_t, maskL_f, maskL_n]
  try refine sq F ?_
  repeat' (first | (refine WPe_finI ?_; try refine sq F ?_) | (refine WPe_oneI ?_; try refine sq F ?_) | (refine WPe_twoI ?_ ?_ <;> try refine sq F ?_))
  all_goals try refine wn F ?_
  skip
  all_goals (
   refine ye hQ F ?_
   exact Fin.plain (clo7 ..) ⟨by simp [usedE, Ev.av, k10], rfl⟩)
 by_cases k11 : e.kind = 11
 ·have F := k11
  skip
  refine sb [.cell 2 45] (fn := Tryz.f147) Tryz.func147 ?_
  intro Q hQ
  refine wn F ?_
  refine WP_draw8 6 [5] [true, true, true, true, true, false] (.one 5 [false, false, true, true] .fin) (by decide +kernel) (by kernel_rfl) (by decide +kernel) ?_
  simp only [maskL_t, maskL_f, maskL_n]
  try refine sq F ?_
  repeat' (first | (refine WPe_finI ?_; try refine sq F ?_) | (refine WPe_oneI ?_; try refine sq F ?_) | (refine WPe_twoI ?_ ?_ <;> try refine sq F ?_))
  all_goals try refine wn F ?_
  skip
  all_goals (
   refine ye hQ F ?_
   exact Fin.plain (clo7 ..) ⟨by simp [usedE, Ev.av, k11], rfl⟩)
 by_cases k13 : e.kind = 13
 ·have F := k13
  skip
  refine sb [.cell 2 45] (fn := Tryz.f147) Tryz.func147 ?_
  intro Q hQ
  refine wn F ?_
  refine WP_draw8 4 [3] [true, true, true, false] (.one 3 [true, true] .fin) (by decide +kernel) (by kernel_rfl) (by decide +kernel) ?_
  simp only [maskL_t, maskL_f, maskL_n]
  try refine sq F ?_
  repeat' (first | (refine WPe_finI ?_; try refine sq F ?_) | (refine WPe_oneI ?_; try refine sq F ?_) | (refine WPe_twoI ?_ ?_ <;> try refine sq F ?_))
  all_goals try refine wn F ?_
  skip
  all_goals (
   refine ye hQ F ?_
   exact Fin.plain (clo7 ..) ⟨by simp [usedE, Ev.av, k13], rfl⟩)
 have n1 : (e.kind == 1) = false := by simp [k1]
 have n3 : (e.kind == 3) = false := by simp [k3]
 have n5 : (e.kind == 5) = false := by simp [k5]
 have n6 : (e.kind == 6) = false := by simp [k6]
 have n7 : (e.kind == 7) = false := by simp [k7]
 have n8 : (e.kind == 8) = false := by simp [k8]
 have n9 : (e.kind == 9) = false := by simp [k9]
 have n10 : (e.kind == 10) = false := by simp [k10]
 have n11 : (e.kind == 11) = false := by simp [k11]
 have n13 : (e.kind == 13) = false := by simp [k13]
 have F := F10 n1 n3 n5 n6 n7 n8 n9 n10 n11 n13
 refine sb [.cell 2 45] (fn := Tryz.f147) Tryz.func147 ?_
 intro Q hQ
 refine wk F ?_
 refine ye hQ F ?_
 exact Fin.plain (clo7 ..) ⟨by simp [usedE, Ev.av, k1, k3, k5, k6, k7, k8, k9, k10, k11, k13], rfl⟩
theorem PECheck_sat (L : Leaf) (e : Ev) (hR : ∀ h, Sat (CT G) 146 [e.av] h (fun r h' => r = .bool (L.right e) ∧ h' = h)) (h : Heap) : Sat (CT G) 92 [e.av] h (fun r h' => r = .int .i64 (if L.ck e then 0 else 140) ∧ h' = h) := by
 cases hr : L.right e with
 | false =>
  rw [hr] at hR
  skip
  refine sb [.tmp 2] (fn := Tryz.f92) Tryz.func92 ?_
  intro Q hQ
  refine wn trivial ?_
  refine WP_draw6 4 (.two 4 (.two 5 (.one 6 (.one 7 (.one 8 .nil))) 6 (.one 5 (.one 7 (.one 8 .nil)))) 6 (.one 4 (.one 5 (.one 7 (.one 8 .nil))))) (by decide +kernel) (by kernel_rfl) (by decide +kernel) ?_
  simp only [List.take_succ_cons, List.take_zero]
  try refine sq trivial ?_
  repeat' (first | refine WPt_nil ?_ | (refine WPt_one rfl ?_; refine sq trivial ?_) | (refine WPt_two rfl rfl ?_ ?_ <;> refine sq trivial ?_))
  skip
  refine callS_of (hR _) ?_
  try refine sq trivial ?_
  refine wk trivial ?_
  repeat' (first | refine WPt_nil ?_ | (refine WPt_one rfl ?_; refine sq trivial ?_) | (refine WPt_two rfl rfl ?_ ?_ <;> refine sq trivial ?_))
  all_goals (
   refine wk trivial ?_
   refine ee hQ trivial ?_
   exact Fin.plain (.int _ _) ⟨by simp [Leaf.ck, hr], rfl⟩)
 | true =>
  rw [hr] at hR
  skip
  refine sb [.tmp 2] (fn := Tryz.f92) Tryz.func92 ?_
  intro Q hQ
  refine wn trivial ?_
  refine WP_draw6 4 (.two 4 (.two 5 (.one 6 (.one 7 (.one 8 .nil))) 6 (.one 5 (.one 7 (.one 8 .nil)))) 6 (.one 4 (.one 5 (.one 7 (.one 8 .nil))))) (by decide +kernel) (by kernel_rfl) (by decide +kernel) ?_
  simp only [List.take_succ_cons, List.take_zero]
  try refine sq trivial ?_
  repeat' (first | refine WPt_nil ?_ | (refine WPt_one rfl ?_; refine sq trivial ?_) | (refine WPt_two rfl rfl ?_ ?_ <;> refine sq trivial ?_))
  skip
  refine callS_of (hR _) ?_
  try refine sq trivial ?_
  refine wk trivial ?_
  repeat' (first | refine WPt_nil ?_ | (refine WPt_one rfl ?_; refine sq trivial ?_) | (refine WPt_two rfl rfl ?_ ?_ <;> refine sq trivial ?_))
  all_goals (
   refine (PEused_sat G e _).mono ?_
   rintro r h' ⟨rfl, rfl⟩
   try refine sq trivial ?_
   repeat' (first | refine WPt_nil ?_ | (refine WPt_one rfl ?_; refine sq trivial ?_) | (refine WPt_two rfl rfl ?_ ?_ <;> refine sq trivial ?_)))
  all_goals (
   try repeat' (first | refine WPt_nil ?_ | (refine WPt_one rfl ?_; refine sq trivial ?_) | (refine WPt_two rfl rfl ?_ ?_ <;> refine sq trivial ?_))
   by_cases hu : usedE e = e
   ·have hd : decide (usedE e = e) = true := by simp [hu]
    have F := hd
    try refine sq F ?_
    refine wk F ?_
    refine ee hQ F ?_
    exact Fin.plain (.int _ _) ⟨by simp [Leaf.ck, hr, hu], rfl⟩
   ·have hd : decide (usedE e = e) = false := by simp [hu]
    have F := hd
    try refine sq F ?_
    refine wk F ?_
    refine ee hQ F ?_
    exact Fin.plain (.int _ _) ⟨by simp [Leaf.ck, hr, hu], rfl⟩)
end Go.Av
