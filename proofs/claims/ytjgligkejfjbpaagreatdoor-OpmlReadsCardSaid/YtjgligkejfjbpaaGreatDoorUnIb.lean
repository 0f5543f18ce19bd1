/- The program's xml.reader: names, blanks. -/
import Derived.Shelf.Strings.Trim
import Derived.Shelf.Small.Utf8
import Derived.Shelf.Small.Strs
import Derived.Shelf.Small.Wraps
import Derived.Shelf.Strings.Search1
import Derived.Shelf.Strings.Search2
import Derived.Shelf.Strings.Search3
import Derived.Shelf.Strings.Cut
import Derived.Shelf.LaysM
import Derived.Shelf.Strings.Shaped
import Derived.Shelf.Strings.LastIndex
import Derived.Shelf.Strings.Prefix
import Derived.Shelf.Unicode.Decode
import Derived.Shelf.Strings.Runes
import Derived.Shelf.Strings.AsciiSet
import Derived.Shelf.Unicode.DecodeSlow
import Derived.Test.YtjgligkejfjbpaaGreatDoorProg
import Derived.Test.YtjgligkejfjbpaaGreatDoorUnNe
import Derived.Test.YtjgligkejfjbpaaGreatDoorCards
import Derived.Test.YtjgligkejfjbpaaGreatDoorTie
import Derived.WalkKit
import Derived.ProofKit
import Derived.OpenShut
import Derived.Deep.DeepHandedRow
import Derived.Lib.LaidTab
import Derived.Lib.TrimUEq
set_option linter.unusedSimpArgs false
set_option linter.unusedVariables false
namespace Go.Proofs
open Go.Shelf
def Tryz.lays137_ren : Go.Shelf.Ren := ⟨fun | 137 => 185 | 217 => 181 | 266 => 189 | n => n, fun | 9 => 9 | 5 => 5 | 3 => 3 | n => n, fun | n => n⟩
theorem Tryz.lays137 : Go.Proofs.Lays.n137 Tryz.prog Tryz.lays137_ren := {
 mixed := by kernel_rfl
 f137 := Tryz.func185.trans (congrArg some (by kernel_rfl))
 f217 := Tryz.func181.trans (congrArg some (by kernel_rfl))
 f266 := Tryz.func189.trans (congrArg some (by kernel_rfl))
 t3 := Tryz.underlying3
 a3 := Tryz.isAgg3
 z3 := Tryz.sizeOf3
 v3 := Tryz.zeroValue3
 t5 := Tryz.underlying5
 a5 := Tryz.isAgg5
 z5 := Tryz.sizeOf5
 v5 := Tryz.zeroValue5
 t9 := Tryz.underlying9
 a9 := Tryz.isAgg9
 z9 := Tryz.sizeOf9
 v9 := Tryz.zeroValue9 }
open Go.RowKit in
theorem Tryz.strings_IndexByte (s : ByteArray) (c : Int) (w : World) :
  Calls Tryz.prog 185 #[.string s, .int .u8 c] w fun e w' => e = .returned (.int .i64 (Lib.indexByte s.data.toList c.toNat.toUInt8)) ∧ w' = w := Any.strings_IndexByte Tryz.lays137 s c w
def Tryz.lays103_ren : Go.Shelf.Ren := ⟨fun | 103 => 124 | 210 => 148 | 206 => 172 | n => n, fun | 9 => 9 | 4 => 4 | 24 => 35 | 3 => 3 | n => n, fun | n => n⟩
theorem Tryz.lays103 : Go.Proofs.Lays.n103 Tryz.prog Tryz.lays103_ren := {
 mixed := by kernel_rfl
 f103 := Tryz.func124.trans (congrArg some (by kernel_rfl))
 f206 := Tryz.func172.trans (congrArg some (by kernel_rfl))
 f210 := Tryz.func148.trans (congrArg some (by kernel_rfl))
 t3 := Tryz.underlying3
 a3 := Tryz.isAgg3
 z3 := Tryz.sizeOf3
 v3 := Tryz.zeroValue3
 t4 := Tryz.underlying4
 a4 := Tryz.isAgg4
 z4 := Tryz.sizeOf4
 v4 := Tryz.zeroValue4
 t9 := Tryz.underlying9
 a9 := Tryz.isAgg9
 z9 := Tryz.sizeOf9
 v9 := Tryz.zeroValue9
 t24 := Tryz.underlying35
 a24 := Tryz.isAgg35
 z24 := Tryz.sizeOf35
 v24 := Tryz.zeroValue35 }
open Go.RowKit in
theorem Tryz.strings_CutPrefix (s p : ByteArray) (w : World) :
  Calls Tryz.prog 124 #[.string s, .string p] w fun e w' => e = .returned (.tuple #[.string ⟨(Lib.trimPrefix s.data.toList p.data.toList).toArray⟩, .bool (Lib.hasPrefix s.data.toList p.data.toList)]) ∧ w' = w := Any.strings_CutPrefix Tryz.lays103 s p w
def Tryz.lays144_ren : Go.Shelf.Ren := ⟨fun | 144 => 126 | 143 => 150 | 219 => 173 | 217 => 181 | 225 => 182 | 224 => 183 | 267 => 184 | 266 => 189 | 314 => 190 | n => n, fun | 9 => 9 | 4 => 4 | 3 => 3 | 5 => 5 | 46 => 168 | 146 => 169 | 51 => 165 | n => n, fun | 1 => 0 | n => n⟩
theorem Tryz.lays144 : Go.Proofs.Lays.n144 Tryz.prog Tryz.lays144_ren := {
 mixed := by kernel_rfl
 f143 := Tryz.func150.trans (congrArg some (by kernel_rfl))
 f144 := Tryz.func126.trans (congrArg some (by kernel_rfl))
 f217 := Tryz.func181.trans (congrArg some (by kernel_rfl))
 f219 := Tryz.func173.trans (congrArg some (by kernel_rfl))
 f224 := Tryz.func183.trans (congrArg some (by kernel_rfl))
 f225 := Tryz.func182.trans (congrArg some (by kernel_rfl))
 f266 := Tryz.func189.trans (congrArg some (by kernel_rfl))
 f267 := Tryz.func184.trans (congrArg some (by kernel_rfl))
 f314 := Tryz.func190.trans (congrArg some (by kernel_rfl))
 t3 := Tryz.underlying3
 a3 := Tryz.isAgg3
 z3 := Tryz.sizeOf3
 v3 := Tryz.zeroValue3
 t4 := Tryz.underlying4
 a4 := Tryz.isAgg4
 z4 := Tryz.sizeOf4
 v4 := Tryz.zeroValue4
 t5 := Tryz.underlying5
 a5 := Tryz.isAgg5
 z5 := Tryz.sizeOf5
 v5 := Tryz.zeroValue5
 t9 := Tryz.underlying9
 a9 := Tryz.isAgg9
 z9 := Tryz.sizeOf9
 v9 := Tryz.zeroValue9
 t46 := Tryz.underlying168
 a46 := Tryz.isAgg168
 z46 := Tryz.sizeOf168
 v46 := Tryz.zeroValue168
 t51 := Tryz.underlying165
 a51 := Tryz.isAgg165
 z51 := Tryz.sizeOf165
 v51 := Tryz.zeroValue165
 t146 := Tryz.underlying169
 a146 := Tryz.isAgg169
 z146 := Tryz.sizeOf169
 v146 := Tryz.zeroValue169
 g1 := by kernel_rfl }
open Go.RowKit Go.Lib in
theorem Tryz.strings_Contains (s sub : ByteArray) (m : Int) (w : World) (hs : s.size < 4294967281) (hm : w.cell? ⟨0, 0, none⟩ = some (.int .i64 m)) :
  Calls Tryz.prog 126 #[.string s, .string sub] w fun e w' => e = .returned (.bool (Lib.contains s.data.toList sub.data.toList)) ∧ w' = w := Any.strings_Contains Tryz.lays144 s sub m w hs hm
def Tryz.lays145_ren : Go.Shelf.Ren := ⟨fun | 145 => 125 | 220 => 149 | 219 => 173 | 217 => 181 | 225 => 182 | 224 => 183 | 267 => 184 | 266 => 189 | 314 => 190 | n => n, fun | 9 => 9 | 4 => 4 | 59 => 124 | 3 => 3 | 5 => 5 | 46 => 168 | 146 => 169 | 51 => 165 | n => n, fun | 1 => 0 | n => n⟩
theorem Tryz.lays145 : Go.Proofs.Lays.n145 Tryz.prog Tryz.lays145_ren := {
 mixed := by kernel_rfl
 f145 := Tryz.func125.trans (congrArg some (by kernel_rfl))
 f217 := Tryz.func181.trans (congrArg some (by kernel_rfl))
 f219 := Tryz.func173.trans (congrArg some (by kernel_rfl))
 f220 := Tryz.func149.trans (congrArg some (by kernel_rfl))
 f224 := Tryz.func183.trans (congrArg some (by kernel_rfl))
 f225 := Tryz.func182.trans (congrArg some (by kernel_rfl))
 f266 := Tryz.func189.trans (congrArg some (by kernel_rfl))
 f267 := Tryz.func184.trans (congrArg some (by kernel_rfl))
 f314 := Tryz.func190.trans (congrArg some (by kernel_rfl))
 t3 := Tryz.underlying3
 a3 := Tryz.isAgg3
 z3 := Tryz.sizeOf3
 v3 := Tryz.zeroValue3
 t4 := Tryz.underlying4
 a4 := Tryz.isAgg4
 z4 := Tryz.sizeOf4
 v4 := Tryz.zeroValue4
 t5 := Tryz.underlying5
 a5 := Tryz.isAgg5
 z5 := Tryz.sizeOf5
 v5 := Tryz.zeroValue5
 t9 := Tryz.underlying9
 a9 := Tryz.isAgg9
 z9 := Tryz.sizeOf9
 v9 := Tryz.zeroValue9
 t46 := Tryz.underlying168
 a46 := Tryz.isAgg168
 z46 := Tryz.sizeOf168
 v46 := Tryz.zeroValue168
 t51 := Tryz.underlying165
 a51 := Tryz.isAgg165
 z51 := Tryz.sizeOf165
 v51 := Tryz.zeroValue165
 t59 := Tryz.underlying124
 a59 := Tryz.isAgg124
 z59 := Tryz.sizeOf124
 v59 := Tryz.zeroValue124
 t146 := Tryz.underlying169
 a146 := Tryz.isAgg169
 z146 := Tryz.sizeOf169
 v146 := Tryz.zeroValue169
 g1 := by kernel_rfl }
open Go.RowKit Go.Lib in
theorem Tryz.strings_Cut (s sep : ByteArray) (m : Int) (w : World) (hs : s.size < 4294967281) (hm : w.cell? ⟨0, 0, none⟩ = some (.int .i64 m)) :
  Calls Tryz.prog 125 #[.string s, .string sep] w fun e w' => e = .returned (.tuple #[.string ⟨(Lib.cut s.data.toList sep.data.toList).1.toArray⟩, .string ⟨(Lib.cut s.data.toList sep.data.toList).2.1.toArray⟩, .bool (Lib.cut s.data.toList sep.data.toList).2.2]) ∧ ∃ n, w' = w.drewN n := Any.strings_Cut Tryz.lays145 s sep m w hs hm
def Tryz.lays149_ren : Go.Shelf.Ren := ⟨fun | 149 => 52 | 222 => 84 | n => n, fun | 9 => 9 | 5 => 5 | 3 => 3 | 4 => 4 | n => n, fun | n => n⟩
theorem Tryz.lays149 : Go.Proofs.Lays.n149 Tryz.prog Tryz.lays149_ren := {
 mixed := by kernel_rfl
 f149 := Tryz.func52.trans (congrArg some (by kernel_rfl))
 f222 := Tryz.func84.trans (congrArg some (by kernel_rfl))
 t3 := Tryz.underlying3
 a3 := Tryz.isAgg3
 z3 := Tryz.sizeOf3
 v3 := Tryz.zeroValue3
 t4 := Tryz.underlying4
 a4 := Tryz.isAgg4
 z4 := Tryz.sizeOf4
 v4 := Tryz.zeroValue4
 t5 := Tryz.underlying5
 a5 := Tryz.isAgg5
 z5 := Tryz.sizeOf5
 v5 := Tryz.zeroValue5
 t9 := Tryz.underlying9
 a9 := Tryz.isAgg9
 z9 := Tryz.sizeOf9
 v9 := Tryz.zeroValue9 }
open Go.RowKit Go.Lib in
theorem Tryz.strings_LastIndexByte (s : ByteArray) (c : Int) (hs : s.size < 4611686018427387904) (w : World) :
  Calls Tryz.prog 52 #[.string s, .int .u8 c] w fun e w' => e = .returned (.int .i64 (Lib.lastIndexByte s c)) ∧ w' = w := Any.strings_LastIndexByte Tryz.lays149 s c hs w
def Tryz.lays99_ren : Go.Shelf.Ren := ⟨fun | 99 => 171 | 206 => 172 | n => n, fun | 9 => 9 | 4 => 4 | 3 => 3 | n => n, fun | n => n⟩
theorem Tryz.lays99 : Go.Proofs.Lays.n99 Tryz.prog Tryz.lays99_ren := {
 mixed := by kernel_rfl
 f99 := Tryz.func171.trans (congrArg some (by kernel_rfl))
 f206 := Tryz.func172.trans (congrArg some (by kernel_rfl))
 t3 := Tryz.underlying3
 a3 := Tryz.isAgg3
 z3 := Tryz.sizeOf3
 v3 := Tryz.zeroValue3
 t4 := Tryz.underlying4
 a4 := Tryz.isAgg4
 z4 := Tryz.sizeOf4
 v4 := Tryz.zeroValue4
 t9 := Tryz.underlying9
 a9 := Tryz.isAgg9
 z9 := Tryz.sizeOf9
 v9 := Tryz.zeroValue9 }
open Go.RowKit Go.Lib in
theorem Tryz.strings_HasPrefix (s p : ByteArray) (w : World) :
  Calls Tryz.prog 171 #[.string s, .string p] w fun e w' => e = .returned (.bool (Lib.hasPrefix s.data.toList p.data.toList)) ∧ w' = w := Any.strings_HasPrefix Tryz.lays99 s p w
def Tryz.lays151_ren : Go.Shelf.Ren := ⟨fun | 151 => 154 | 152 => 174 | 137 => 185 | 119 => 186 | 224 => 183 | 225 => 182 | 217 => 181 | 266 => 189 | n => n, fun | 9 => 9 | 21 => 21 | 4 => 4 | 3 => 3 | 5 => 5 | 0 => 0 | 46 => 168 | n => n, fun | n => n⟩
theorem Tryz.lays151 : Go.Proofs.Lays.n151 Tryz.prog Tryz.lays151_ren := {
 mixed := by kernel_rfl
 f119 := Tryz.func186.trans (congrArg some (by kernel_rfl))
 f137 := Tryz.func185.trans (congrArg some (by kernel_rfl))
 f151 := Tryz.func154.trans (congrArg some (by kernel_rfl))
 f152 := Tryz.func174.trans (congrArg some (by kernel_rfl))
 f217 := Tryz.func181.trans (congrArg some (by kernel_rfl))
 f224 := Tryz.func183.trans (congrArg some (by kernel_rfl))
 f225 := Tryz.func182.trans (congrArg some (by kernel_rfl))
 f266 := Tryz.func189.trans (congrArg some (by kernel_rfl))
 t0 := Tryz.underlying0
 a0 := Tryz.isAgg0
 z0 := Tryz.sizeOf0
 v0 := Tryz.zeroValue0
 t3 := Tryz.underlying3
 a3 := Tryz.isAgg3
 z3 := Tryz.sizeOf3
 v3 := Tryz.zeroValue3
 t4 := Tryz.underlying4
 a4 := Tryz.isAgg4
 z4 := Tryz.sizeOf4
 v4 := Tryz.zeroValue4
 t5 := Tryz.underlying5
 a5 := Tryz.isAgg5
 z5 := Tryz.sizeOf5
 v5 := Tryz.zeroValue5
 t9 := Tryz.underlying9
 a9 := Tryz.isAgg9
 z9 := Tryz.sizeOf9
 v9 := Tryz.zeroValue9
 t21 := Tryz.underlying21
 a21 := Tryz.isAgg21
 z21 := Tryz.sizeOf21
 v21 := Tryz.zeroValue21
 t46 := Tryz.underlying168
 a46 := Tryz.isAgg168
 z46 := Tryz.sizeOf168
 v46 := Tryz.zeroValue168 }
open Go.RowKit Go.Lib in
theorem Tryz.strings_ContainsRune_ascii (s : ByteArray) (r : Int) (w : World) (h0 : 0 ≤ r) (h1 : r < 128) :
  Calls Tryz.prog 154 #[.string s, .int .i32 r] w fun e w' => e = .returned (.bool (decide (0 ≤ Lib.indexByte s.data.toList r.toNat.toUInt8))) ∧ w' = w := Any.strings_ContainsRune_ascii Tryz.lays151 s r w h0 h1
end Go.Proofs
namespace Go.Av
open Go Go.Proofs Go.RowKit
set_option maxRecDepth 100000
variable (G : Nat → Option (List AVal))
theorem below_same {w w' : World} (e : w' = w) : Below w.heap.size w w' := by rw [e]; exact Below.refl _ _
theorem below_drewN (w : World) (n : Nat) : Below w.heap.size w (w.drewN n) := by
 induction n with
 | zero => exact Below.refl _ _
 | succ n ih => exact ih.trans (Below.drew (Below.refl _ _))
theorem LastIndexByte_sat (s : Bs) (c : Int) (hs : s.length ≤ 1073741824) (h : Heap) : Sat (CT G) 52 [.str s, .int .u8 c] h (fun r h' => r = .int .i64 (Lib.lastIndexByte ⟨s.toArray⟩ c) ∧ h' = h) := by
 refine Sat.of_calls (fn := Tryz.f52) Tryz.func52 (by kernel_rfl) (by kernel_rfl) rfl rfl fun B S μ w f => ?_
 refine (Tryz.strings_LastIndexByte ⟨s.toArray⟩ c (by simp [ByteArray.size]; omega) w).mono fun e w' ⟨h1, h2⟩ => ⟨h1, below_same h2⟩
end Go.Av
namespace Go.Av
open Go Go.Proofs Go.RowKit
set_option maxRecDepth 100000
variable (G : Nat → Option (List AVal))
def GOk : Prop := ∃ m, G 0 = some [.int .i64 m]
theorem size_mk (s : Bs) : (⟨s.toArray⟩ : ByteArray).size = s.length := by simp [ByteArray.size]
variable {G}
theorem GOk.cell (hG : GOk G) {B : Nat} {S : Addr → Prop} {μ : Map} {h : Heap} {w : World} (f : Fits (CT G) B S μ h w) : ∃ m, w.cell? ⟨0, 0, none⟩ = some (.int .i64 m) := by
 obtain ⟨m, hm⟩ := hG
 have r := f.glob _ _ hm
 cases r with
 | ad cs b o vs hne hc hr =>
  have h1 := (hc 0 _ rfl).2.1
  have h2 := hr 0 _ rfl
  refine ⟨m, ?_⟩
  generalize vs 0 = u at h1 h2
  cases h2
  exact h1
variable (G)
theorem below_drews {w w' : World} (h : ∃ n, w' = w.drewN n) : Below w.heap.size w w' := by obtain ⟨n, rfl⟩ := h; exact below_drewN w n
theorem Cut_sat (hG : GOk G) (s p : Bs) (hs : s.length ≤ 1073741824) (h : Heap) :
  Sat (CT G) 125 [.str s, .str p] h (fun r h' => r = .tup [.str (Lib.cut s p).1, .str (Lib.cut s p).2.1, .bool (Lib.cut s p).2.2] ∧ h' = h) := by
 refine Sat.of_calls (fn := Tryz.f125) Tryz.func125 (by kernel_rfl) (by kernel_rfl) rfl rfl fun B S μ w f => ?_
 obtain ⟨m, hm⟩ := hG.cell f
 refine (Tryz.strings_Cut ⟨s.toArray⟩ ⟨p.toArray⟩ m w (by rw [size_mk]; omega) hm).mono fun e w' ⟨h1, h2⟩ => ⟨h1, below_drews h2⟩
theorem Contains_sat (hG : GOk G) (s p : Bs) (hs : s.length ≤ 1073741824) (h : Heap) :
  Sat (CT G) 126 [.str s, .str p] h (fun r h' => r = .bool (Lib.contains s p) ∧ h' = h) := by
 refine Sat.of_calls (fn := Tryz.f126) Tryz.func126 (by kernel_rfl) (by kernel_rfl) rfl rfl fun B S μ w f => ?_
 obtain ⟨m, hm⟩ := hG.cell f
 refine (Tryz.strings_Contains ⟨s.toArray⟩ ⟨p.toArray⟩ m w (by rw [size_mk]; omega) hm).mono fun e w' ⟨h1, h2⟩ => ⟨h1, below_same h2⟩
theorem CutPrefix_sat (s p : Bs) (h : Heap) :
  Sat (CT G) 124 [.str s, .str p] h (fun r h' => r = .tup [.str (Lib.trimPrefix s p), .bool (Lib.hasPrefix s p)] ∧ h' = h) := by
 refine Sat.of_calls (fn := Tryz.f124) Tryz.func124 (by kernel_rfl) (by kernel_rfl) rfl rfl fun B S μ w f => ?_
 refine (Tryz.strings_CutPrefix ⟨s.toArray⟩ ⟨p.toArray⟩ w).mono fun e w' ⟨h1, h2⟩ => ⟨h1, below_same h2⟩
theorem HasPrefix_sat (s p : Bs) (h : Heap) :
  Sat (CT G) 171 [.str s, .str p] h (fun r h' => r = .bool (Lib.hasPrefix s p) ∧ h' = h) := by
 refine Sat.of_calls (fn := Tryz.f171) Tryz.func171 (by kernel_rfl) (by kernel_rfl) rfl rfl fun B S μ w f => ?_
 refine (Tryz.strings_HasPrefix ⟨s.toArray⟩ ⟨p.toArray⟩ w).mono fun e w' ⟨h1, h2⟩ => ⟨h1, below_same h2⟩
theorem ContainsRune_ascii (s : Bs) (r : Int) (h0 : 0 ≤ r) (h1 : r < 128) (h : Heap) :
  Sat (CT G) 154 [.str s, .int .i32 r] h (fun x h' => x = .bool (decide (0 ≤ Lib.indexByte s r.toNat.toUInt8)) ∧ h' = h) := by
 refine Sat.of_calls (fn := Tryz.f154) Tryz.func154 (by kernel_rfl) (by kernel_rfl) rfl rfl fun B S μ w f => ?_
 refine (Tryz.strings_ContainsRune_ascii ⟨s.toArray⟩ r w h0 h1).mono fun e w' ⟨h1, h2⟩ => ⟨h1, below_same h2⟩
theorem IndexByteString_sat (s : Bs) (c : UInt8) (h : Heap) :
  Sat (CT G) 185 [.str s, .int .u8 c.toNat] h (fun x h' => x = .int .i64 (Lib.indexByte s c) ∧ h' = h) := by
 refine Sat.of_calls (fn := Tryz.f185) Tryz.func185 (by kernel_rfl) (by kernel_rfl) rfl rfl fun B S μ w f => ?_
 refine (Tryz.strings_IndexByte ⟨s.toArray⟩ c.toNat w).mono fun e w' ⟨h1, h2⟩ => ⟨by simpa using h1, below_same h2⟩
end Go.Av
namespace Go.Av
open Go Go.Proofs Go.RowKit
set_option maxRecDepth 100000
def bigS (s : Bs) : Bool := decide (s.length ≤ 1048576)
def orcL (f : FuncId) (args : List AVal) : Option AVal := match args with
 | [.str s, .str p] => if bigS s = true then
   (if f = 125 then some (.tup [.str (Lib.cut s p).1, .str (Lib.cut s p).2.1, .bool (Lib.cut s p).2.2])
   else if f = 126 then some (.bool (Lib.contains s p))
   else if f = 124 then some (.tup [.str (Lib.trimPrefix s p), .bool (Lib.hasPrefix s p)])
   else if f = 171 then some (.bool (Lib.hasPrefix s p)) else none) else none
 | [.str s, .int .u8 c] => if bigS s = true then (if f = 52 then some (.int .i64 (Lib.lastIndexByte ⟨s.toArray⟩ c)) else none) else none
 | [.str s, .int .i32 r] => if 0 ≤ r ∧ r < 128 then (if f = 154 then some (.bool (decide (0 ≤ Lib.indexByte s r.toNat.toUInt8))) else none) else none
 | [x] => if f = 116 then some x else none
 | _ => none
variable {G : Nat → Option (List AVal)}
theorem orcL_ok (hG : GOk G) : OrcOk (CT G) orcL := by
 intro f args r g h
 unfold orcL at g
 split at g
 ·rename_i s p
  split at g
  ·rename_i hb
   have hs : s.length ≤ 1048576 := by simpa [bigS] using hb
   split at g
   ·rename_i e; subst e; cases g; exact Cut_sat G hG s p (by omega) h
   ·split at g
    ·rename_i e; subst e; cases g; exact Contains_sat G hG s p (by omega) h
    ·split at g
     ·rename_i e; subst e; cases g; exact CutPrefix_sat G s p h
     ·split at g
      ·rename_i e; subst e; cases g; exact HasPrefix_sat G s p h
      ·cases g
  ·cases g
 ·rename_i s c
  split at g
  ·rename_i hb
   have hs : s.length ≤ 1048576 := by simpa [bigS] using hb
   split at g
   ·rename_i e; subst e; cases g; exact LastIndexByte_sat G s c (by omega) h
   ·cases g
  ·cases g
 ·rename_i s r
  split at g
  ·rename_i hb
   split at g
   ·rename_i e; subst e; cases g; exact ContainsRune_ascii G s r hb.1 hb.2 h
   ·cases g
  ·cases g
 ·rename_i x
  split at g
  ·rename_i e; subst e; cases g; exact NoEscape_sat G _ h
  ·cases g
 ·cases g
end Go.Av
namespace Go.Av
open Go Go.Proofs Go.RowKit Go.ChangeShapes Go.WideShapes
set_option maxRecDepth 100000
theorem own_prog : ownKnob Tryz.prog.godebug = none := by kernel_rfl
def flatD : DataW Unit → List Value
 | .lit (.int k n) => [.int k n]
 | .agg l => flatL l
 | _ => []
where flatL : List (DataW Unit) → List Value
 | [] => []
 | d :: l => flatD d ++ flatL l
noncomputable def laidCells (w : World) (g : Nat) (d : DataW Unit) : World :=
 { w with heap := w.heap.modify g fun
   | .cells _ t frozen => .cells (flatD d).toArray t frozen
   | o => o }
noncomputable def laidWorld (os : Os) (args : Array Value) : World :=
 laidCells (laidCells (World.holding Tryz.prog os ⟨#[], args, []⟩) 2 Go.Proofs.YtjgligkejfjbpaaGreatDoor.Rows.laid_unicode_utf8_acceptRanges) 1 Go.Proofs.YtjgligkejfjbpaaGreatDoor.Rows.laid_unicode_utf8_first
def gM (m : Int) : Nat → Option (List AVal) := fun g => if g = 0 then some [.int .i64 m] else none
theorem gM_ok (m : Int) : GOk (gM m) := ⟨m, by simp [gM]⟩
theorem gM_clo (m : Int) : GClo (CT (gM m)) := fun g cs h => by
 simp only [CT_G, gM] at h
 split at h
 ·cases h
  exact .ad _ fun c hc => by simp at hc; subst hc; exact .int _ _
 ·cases h
theorem gM_rep {W : World} {m : Int} (hm : W.cell? ⟨0, 0, none⟩ = some (.int .i64 m)) : ∀ g cs, (CT (gM m)).G g = some cs → Rep W (lies0 W) [] (.ad cs) (.pointer (some ⟨g, 0, none⟩)) := fun g cs h => by
 simp only [CT_G, gM] at h
 split at h
 ·rename_i e; subst e; cases h
  refine .ad _ _ 0 (fun _ => .int .i64 m) (by simp) (fun j c hj => ?_) (fun j c hj => ?_)
  ·match j with
   | 0 => simp at hj; subst hj; exact ⟨by unfold lies0; rw [hm]; rfl, hm, rfl⟩
   | j + 1 => simp at hj
  ·match j with
   | 0 => simp at hj; subst hj; exact .int _ _
   | j + 1 => simp at hj
 ·cases h
theorem maxLen_shape {W : World} (h : W.ShapedOpen Tryz.prog) : ∃ m, W.cell? ⟨0, 0, none⟩ = some (.int .i64 m) :=
 Go.Proofs.cell_of_shapedOpen_int (zero := #[.int .i64 0]) (t := 3) h (of_decide_eq_true (by kernel_rfl)) (by kernel_rfl) rfl (by kernel_rfl) (by kernel_rfl) Tryz.underlying3
theorem params_row : ∀ t ∈ [9, 26], t < Tryz.prog.types.size := by
 intro t ht
 have : Tryz.prog.types.size = Tryz.prog.types.size := rfl
 simp only [List.mem_cons, List.mem_nil_iff, or_false] at ht
 rcases ht with rfl | rfl
 ·exact of_decide_eq_true (by kernel_rfl)
 ·exact of_decide_eq_true (by kernel_rfl)
end Go.Av
namespace Go.Av
open Go Go.Proofs Go.RowKit
attribute [local irreducible] WP WPl WPix Sat
set_option maxRecDepth 100000
set_option maxHeartbeats 1000000
variable (G : Nat → Option (List AVal))
def bytA (b : UInt8) : AVal := .int .u8 b.toNat
def bldR (a : AVal) (q v : Nat) (s : Bs) : Blk := .row 73 2 0 [.agg [a, .hs q v 0 s.length true]]
def bufR (v : Nat) (s : Bs) : Blk := .row 5 1 v (s.map bytA)
def bldA (a : AVal) (p : Nat) : Prop := a = .nil (.pointer none) ∨ a = .hp p 0 0 0
theorem bytesA_map (s : Bs) : bytesA (s.map bytA) = some s := by
 induction s with
 | nil => rfl
 | cons b s ih =>
  have hb : (UInt8.ofNat (b.toNat : Int).toNat) = b := by simp
  simp only [List.map_cons, bytA, bytesA, hb, if_true]
  show (bytesA (s.map bytA)).map _ = _
  rw [ih]; rfl
@[go_sem] theorem getRow_bld (a : AVal) (q v : Nat) (s : Bs) (l : Heap) : getRow (bldR a q v s :: l) 0 0 = some (73, 2, [.agg [a, .hs q v 0 s.length true]]) := rfl
theorem getRow_buf (v : Nat) (s : Bs) (l : Heap) : getRow (bufR v s :: l) 0 v = some (5, 1, s.map bytA) := by simp [getRow, bufR]
theorem ptrConv_to : ptrConv Tryz.prog 70 128 73 2 = true := by kernel_rfl
theorem ptrConv_from : ptrConv Tryz.prog 128 70 73 2 = true := by kernel_rfl
theorem ptrT_b : ptrT Tryz.prog 70 = true := by kernel_rfl
attribute [go_sem] ptrConv_to ptrConv_from
theorem bld_clo (n p q v : Nat) (s : Bs) (hp : p < n) (hq : q < n) : CloB n (bldR (.hp p 0 0 0) q v s) := by
 intro r hr
 simp only [List.mem_singleton] at hr
 subst hr
 refine .agg _ fun c hc => ?_
 simp only [List.mem_cons, List.mem_nil_iff, or_false] at hc
 rcases hc with rfl | rfl
 ·exact .hp _ _ _ _ hp
 ·exact .hs _ _ _ _ _ hq
theorem buf_clo (n v : Nat) (s : Bs) : CloB n (bufR v s) := by
 intro r hr
 obtain ⟨b, _, rfl⟩ := List.mem_map.1 hr
 exact .int _ _
theorem abin_ptr (h : Heap) (p : Nat) (hr : (getRow h p 0).isSome = true) : abin Tryz.prog h .neq 70 (.hp p 0 0 0) (.hp p 0 0 0) = some (.bool false) := by
 simp [abin, hr, ptrT_b]
theorem abin_ptrn (h : Heap) (p : Nat) (x : TypeId × Nat × List AVal) (hr : getRow h p 0 = some x) : abin Tryz.prog h .eql 70 (.hp p 0 0 0) (.nil (.pointer none)) = some (.bool false) := by
 have hk : nilKind Tryz.prog 70 (.pointer none) = true := by kernel_rfl
 simp [abin, hk, aeqNil, hr]
theorem abin_nn (h : Heap) : abin Tryz.prog h .eql 70 (.nil (.pointer none)) (.nil (.pointer none)) = some (.bool true) := by
 have hk : nilKind Tryz.prog 70 (.pointer none) = true := by kernel_rfl
 simp [abin, hk, aeqNil]
theorem keep2 {h j : Heap} {x y x' y' : Blk} {n : Nat} (hx : CloB n x') (hy : CloB n y') : ∀ (p : Nat) (k : Blk), (h ++ x' :: y' :: j)[p]? = some k → (h ++ x :: y :: j)[p]? = some k ∨ CloB n k := by
 intro p k hk
 rcases Nat.lt_or_ge p h.length with h1 | h1
 ·rw [List.getElem?_append_left h1] at hk ⊢; exact .inl hk
 ·rw [List.getElem?_append_right h1] at hk ⊢
  match p - h.length, hk with
  | 0, hk => simp at hk; subst hk; exact .inr hx
  | 1, hk => simp at hk; subst hk; exact .inr hy
  | i + 2, hk => exact .inl (by simpa using hk)
def bldH (h j : Heap) (a : AVal) (v : Nat) (s : Bs) : Heap := h ++ bldR a (h.length + 1) v s :: bufR v s :: j
theorem bldH_len (h j : Heap) (a : AVal) (v : Nat) (s : Bs) : (bldH h j a v s).length = h.length + (2 + j.length) := by simp [bldH]; omega
theorem bldH_keep (h j : Heap) (a : AVal) (v v' : Nat) (s s' : Bs) : ∀ (p : Nat) (k : Blk), (bldH h j (.hp h.length 0 0 0) v' s')[p]? = some k → (bldH h j a v s)[p]? = some k ∨ CloB (bldH h j a v s).length k := by
 rw [bldH_len]
 exact keep2 (bld_clo _ _ _ _ _ (by omega) (by omega)) (buf_clo _ _ _)
theorem copyCheck_sat (a : AVal) (h j : Heap) (v : Nat) (s : Bs) (ha : bldA a h.length) :
  Sat (CT G) 85 [.hp h.length 0 0 0] (bldH h j a v s) (fun r h' => r = .tup [] ∧ h' = bldH h j (.hp h.length 0 0 0) v s) := by
 have hK := bldH_keep h j a v v s s
 have hl := (bldH_len h j (.hp h.length 0 0 0) v s).trans (bldH_len h j a v s).symm
 have hfin : ∀ t', Fin (bldH h j a v s) (bldH h j (.hp h.length 0 0 0) v s) (fun r h' => r = .tup [] ∧ h' = bldH h j (.hp h.length 0 0 0) v s) t' ∨ True := fun _ => .inr trivial
 have end_ : Fin (bldH h j a v s) (bldH h j (.hp h.length 0 0 0) v s) (fun r h' => r = .tup [] ∧ h' = bldH h j (.hp h.length 0 0 0) v s) (.tup []) := Fin.keep0 hl hK (.tup _ (by simp)) ⟨rfl, rfl⟩
 clear hfin hK hl
 unfold bldH at *
 refine sb [] (fn := Tryz.f85) Tryz.func85 ?_
 intro Q hQ
 (repeat (first | refine w1 (fun K hK => ?_) | refine w2 ?_ | refine w3 ?_ | ((first | refine w4 ?_ | refine wD ?_ | refine w5 ?_ | refine w6 ?_ | refine w7 ?_); try refine sqo trivial ?_) | (refine w8 ?_; refine sqo trivial ?_; refine w9 ?_) | ((first | refine hK _ _ (w0 ?_) | (clear hK K; refine hK _ _ (w0 ?_)) | (clear hK K; clear hK K; refine hK _ _ (w0 ?_))); clear hK K)))
 rcases ha with rfl | rfl
 ·rw [binK_nnil, abin_nn]
  simp (disch := first | omega | (simp only [go_sem, ↓reduceIte, Nat.reduceEqDiff]; done) | fail) only [go_sem, ↓reduceIte, Int.reduceToNat, Int.reduceLE, Int.reduceLT, Int.reduceSub, Int.reduceAdd, Nat.reduceEqDiff, Nat.reduceAdd, Nat.reduceLeDiff, Nat.reduceLT, Nat.reduceMul, Nat.reduceSub]
  (repeat (first | refine w1 (fun K hK => ?_) | refine w2 ?_ | refine w3 ?_ | ((first | refine w4 ?_ | refine wD ?_ | refine w5 ?_ | refine w6 ?_ | refine w7 ?_); try refine sqo trivial ?_) | (refine w8 ?_; refine sqo trivial ?_; refine w9 ?_) | ((first | refine hK _ _ (w0 ?_) | (clear hK K; refine hK _ _ (w0 ?_)) | (clear hK K; clear hK K; refine hK _ _ (w0 ?_))); clear hK K)))
  refine ⟨by simp, ?_⟩
  refine (NoEscape_sat G _ _).mono ?_
  rintro r h' ⟨rfl, rfl⟩
  simp (disch := first | omega | (simp only [go_sem, ↓reduceIte, Nat.reduceEqDiff]; done) | fail) only [go_sem, ↓reduceIte, Int.reduceToNat, Int.reduceLE, Int.reduceLT, Int.reduceSub, Int.reduceAdd, Nat.reduceEqDiff, Nat.reduceAdd, Nat.reduceLeDiff, Nat.reduceLT, Nat.reduceMul, Nat.reduceSub, List.cons_ne_nil]
  refine (hQ _ _ ?_).2
  simp (disch := first | omega | (simp only [go_sem, ↓reduceIte, Nat.reduceEqDiff]; done) | fail) only [go_sem, ↓reduceIte, Int.reduceToNat, Int.reduceLE, Int.reduceLT, Int.reduceSub, Int.reduceAdd, Nat.reduceEqDiff, Nat.reduceAdd, Nat.reduceLeDiff, Nat.reduceLT, Nat.reduceMul, Nat.reduceSub]
  exact end_
 ·rw [binK_nhp, abin_ptrn _ _ _ (by simp (disch := first | omega | (simp only [go_sem, ↓reduceIte, Nat.reduceEqDiff]; done) | fail) only [go_sem, ↓reduceIte, Int.reduceToNat, Int.reduceLE, Int.reduceLT, Int.reduceSub, Int.reduceAdd, Nat.reduceEqDiff, Nat.reduceAdd, Nat.reduceLeDiff, Nat.reduceLT, Nat.reduceMul, Nat.reduceSub]; rfl)]
  simp (disch := first | omega | (simp only [go_sem, ↓reduceIte, Nat.reduceEqDiff]; done) | fail) only [go_sem, ↓reduceIte, Int.reduceToNat, Int.reduceLE, Int.reduceLT, Int.reduceSub, Int.reduceAdd, Nat.reduceEqDiff, Nat.reduceAdd, Nat.reduceLeDiff, Nat.reduceLT, Nat.reduceMul, Nat.reduceSub]
  (repeat (first | refine w1 (fun K hK => ?_) | refine w2 ?_ | refine w3 ?_ | ((first | refine w4 ?_ | refine wD ?_ | refine w5 ?_ | refine w6 ?_ | refine w7 ?_); try refine sqo trivial ?_) | (refine w8 ?_; refine sqo trivial ?_; refine w9 ?_) | ((first | refine hK _ _ (w0 ?_) | (clear hK K; refine hK _ _ (w0 ?_)) | (clear hK K; clear hK K; refine hK _ _ (w0 ?_))); clear hK K)))
  rw [abin_ptr _ _ (by exact zqo trivial)]
  simp (disch := first | omega | (simp only [go_sem, ↓reduceIte, Nat.reduceEqDiff]; done) | fail) only [go_sem, ↓reduceIte, Int.reduceToNat, Int.reduceLE, Int.reduceLT, Int.reduceSub, Int.reduceAdd, Nat.reduceEqDiff, Nat.reduceAdd, Nat.reduceLeDiff, Nat.reduceLT, Nat.reduceMul, Nat.reduceSub]
  (repeat (first | refine w1 (fun K hK => ?_) | refine w2 ?_ | refine w3 ?_ | ((first | refine w4 ?_ | refine wD ?_ | refine w5 ?_ | refine w6 ?_ | refine w7 ?_); try refine sqo trivial ?_) | (refine w8 ?_; refine sqo trivial ?_; refine w9 ?_) | ((first | refine hK _ _ (w0 ?_) | (clear hK K; refine hK _ _ (w0 ?_)) | (clear hK K; clear hK K; refine hK _ _ (w0 ?_))); clear hK K)))
  refine (hQ _ _ ?_).2
  simp (disch := first | omega | (simp only [go_sem, ↓reduceIte, Nat.reduceEqDiff]; done) | fail) only [go_sem, ↓reduceIte, Int.reduceToNat, Int.reduceLE, Int.reduceLT, Int.reduceSub, Int.reduceAdd, Nat.reduceEqDiff, Nat.reduceAdd, Nat.reduceLeDiff, Nat.reduceLT, Nat.reduceMul, Nat.reduceSub]
  exact end_
theorem bytes_sz : byT Tryz.prog 5 = some 1 := by kernel_rfl
theorem elems_str (h : Heap) (x : Bs) : elemsOf h 1 (.str x) = some (x.map bytA) := rfl
theorem elems_sl1 (h : Heap) (es : List AVal) : elemsOf h 1 (.sl 1 es) = some es := by simp [elemsOf]
theorem zro_u8 : (zroT Tryz.prog 5).map (fun z => z.cells.length) = some 1 := by simp only [go_sem]
theorem WriteString_sat (a : AVal) (h j : Heap) (v : Nat) (s x : Bs) (ha : bldA a h.length) (hs : s.length + x.length ≤ 1073741824) :
  Sat (CT G) 55 [.hp h.length 0 0 0, .str x] (bldH h j a v s) (fun r h' => r = .tup [.int .i64 x.length, .nil .nilIface] ∧ h' = bldH h j (.hp h.length 0 0 0) (v + 1) (s ++ x)) := by
 have end_ : Fin (bldH h j a v s) (bldH h j (.hp h.length 0 0 0) (v + 1) (s ++ x)) (fun r h' => r = .tup [.int .i64 x.length, .nil .nilIface] ∧ h' = bldH h j (.hp h.length 0 0 0) (v + 1) (s ++ x)) (.tup [.int .i64 x.length, .nil .nilIface]) :=
  Fin.keep0 ((bldH_len ..).trans (bldH_len ..).symm) (bldH_keep _ _ _ _ _ _ _) (.tup _ (by intro c hc; simp at hc; rcases hc with rfl | rfl; exact .int _ _; exact .nil _)) ⟨rfl, rfl⟩
 refine sb [.tmp 4, .tmp 5] (fn := Tryz.f55) Tryz.func55 ?_
 intro Q hQ
 refine wko trivial ?_
 refine (copyCheck_sat G a h j v s ha).mono ?_
 rintro r h' ⟨rfl, rfl⟩
 unfold bldH at *
 try refine sqo trivial ?_
 refine wko trivial ?_
 refine appK_row (.inr (by exact zqo trivial)) (by exact zqo trivial) (by exact zqo trivial) bytes_sz zro_u8 (by omega) (elems_str _ x) (by simp (disch := first | omega | (simp only [go_sem, ↓reduceIte, Nat.reduceEqDiff]; done) | fail) only [go_sem, ↓reduceIte, Int.reduceToNat, Int.reduceLE, Int.reduceLT, Int.reduceSub, Int.reduceAdd, Nat.reduceEqDiff, Nat.reduceAdd, Nat.reduceLeDiff, Nat.reduceLT, Nat.reduceMul, Nat.reduceSub, getRow_buf]; rfl) (by simp) ?_ ?_
 ·simp [maxLen]; omega
 simp (disch := first | omega | (simp only [go_sem, ↓reduceIte, Nat.reduceEqDiff]; done) | fail) only [go_sem, ↓reduceIte, Int.reduceToNat, Int.reduceLE, Int.reduceLT, Int.reduceSub, Int.reduceAdd, Nat.reduceEqDiff, Nat.reduceAdd, Nat.reduceLeDiff, Nat.reduceLT, Nat.reduceMul, Nat.reduceSub]
 refine wko trivial ?_
 refine (hQ _ _ ?_).1
 simp (disch := first | omega | (simp only [go_sem, ↓reduceIte, Nat.reduceEqDiff]; done) | fail) only [go_sem, ↓reduceIte, Int.reduceToNat, Int.reduceLE, Int.reduceLT, Int.reduceSub, Int.reduceAdd, Nat.reduceEqDiff, Nat.reduceAdd, Nat.reduceLeDiff, Nat.reduceLT, Nat.reduceMul, Nat.reduceSub]
 simp only [bldR, bufR, List.length_append, List.map_append, List.length_map] at end_ ⊢
 exact end_
theorem WriteByte_sat (a : AVal) (h j : Heap) (v : Nat) (s : Bs) (b : UInt8) (ha : bldA a h.length) (hs : s.length + 1 ≤ 1073741824) :
  Sat (CT G) 122 [.hp h.length 0 0 0, .int .u8 b.toNat] (bldH h j a v s) (fun r h' => r = .nil .nilIface ∧ h' = bldH h j (.hp h.length 0 0 0) (v + 1) (s ++ [b])) := by
 have end_ : Fin (bldH h j a v s) (bldH h j (.hp h.length 0 0 0) (v + 1) (s ++ [b])) (fun r h' => r = .nil .nilIface ∧ h' = bldH h j (.hp h.length 0 0 0) (v + 1) (s ++ [b])) (.nil .nilIface) :=
  Fin.keep0 ((bldH_len ..).trans (bldH_len ..).symm) (bldH_keep _ _ _ _ _ _ _) (.nil _) ⟨rfl, rfl⟩
 refine sb [.tmp 4] (fn := Tryz.f122) Tryz.func122 ?_
 intro Q hQ
 refine wko trivial ?_
 refine (copyCheck_sat G a h j v s ha).mono ?_
 rintro r h' ⟨rfl, rfl⟩
 unfold bldH at *
 try refine sqo trivial ?_
 refine wko trivial ?_
 refine appK_row (.inl rfl) (by exact zqo trivial) (by exact zqo trivial) bytes_sz zro_u8 (by omega) (elems_sl1 _ _) (by simp (disch := first | omega | (simp only [go_sem, ↓reduceIte, Nat.reduceEqDiff]; done) | fail) only [go_sem, ↓reduceIte, Int.reduceToNat, Int.reduceLE, Int.reduceLT, Int.reduceSub, Int.reduceAdd, Nat.reduceEqDiff, Nat.reduceAdd, Nat.reduceLeDiff, Nat.reduceLT, Nat.reduceMul, Nat.reduceSub, getRow_buf]; rfl) (by simp) ?_ ?_
 ·simp [maxLen]; omega
 simp (disch := first | omega | (simp only [go_sem, ↓reduceIte, Nat.reduceEqDiff]; done) | fail) only [go_sem, ↓reduceIte, Int.reduceToNat, Int.reduceLE, Int.reduceLT, Int.reduceSub, Int.reduceAdd, Nat.reduceEqDiff, Nat.reduceAdd, Nat.reduceLeDiff, Nat.reduceLT, Nat.reduceMul, Nat.reduceSub]
 refine wko trivial ?_
 refine eeo hQ trivial ?_
 simp only [bldR, bufR, List.length_append, List.map_append, List.length_cons, List.length_nil, List.map_cons, List.map_nil, bytA, Nat.zero_add] at end_ ⊢
 exact end_
theorem Len_sat (a : AVal) (h j : Heap) (v : Nat) (s : Bs) : Sat (CT G) 142 [.hp h.length 0 0 0] (bldH h j a v s) (fun r h' => r = .int .i64 s.length ∧ h' = bldH h j a v s) := by
 have end_ : Fin (bldH h j a v s) (bldH h j a v s) (fun r h' => r = .int .i64 s.length ∧ h' = bldH h j a v s) (.int .i64 s.length) := Fin.same (.int _ _) ⟨rfl, rfl⟩
 unfold bldH at *
 have F := @getRow_buf
 refine sb [.tmp 2] (fn := Tryz.f142) Tryz.func142 ?_
 intro Q hQ
 refine wko F ?_
 refine wko F ?_
 refine eeo hQ F ?_
 exact end_
theorem bptr_b : bptr Tryz.prog 112 5 = true := by kernel_rfl
theorem String_sat (a : AVal) (h j : Heap) (v : Nat) (s : Bs) : Sat (CT G) 57 [.hp h.length 0 0 0] (bldH h j a v s) (fun r h' => r = .str s ∧ ∃ b, h' = h ++ bldR a (h.length + 1) v s :: b :: j) := by
 unfold bldH
 have F := @getRow_buf
 refine sb [.tmp 2] (fn := Tryz.f57) Tryz.func57 ?_
 intro Q hQ
 refine wko F ?_
 have fin : ∀ b, Fin (h ++ bldR a (h.length + 1) v s :: bufR v s :: j) (h ++ bldR a (h.length + 1) v s :: b :: j) (fun r h' => r = .str s ∧ ∃ b, h' = h ++ bldR a (h.length + 1) v s :: b :: j) (.str s) ∨ ¬ (b = bufR v s ∨ b = .dead) := fun b => by
  by_cases hb : b = bufR v s ∨ b = .dead
  ·refine .inl (Fin.keep0 (by simp) (fun p k hk => ?_) (.str _) ⟨rfl, b, rfl⟩)
   rcases Nat.lt_or_ge p h.length with h1 | h1
   ·rw [List.getElem?_append_left h1] at hk ⊢; exact .inl hk
   ·rw [List.getElem?_append_right h1] at hk ⊢
    match p - h.length, hk with
    | 0, hk => exact .inl (by simpa using hk)
    | 1, hk =>
     simp at hk; subst hk
     rcases hb with rfl | rfl
     ·exact .inl (by simp)
     ·exact .inr trivial
    | i + 2, hk => exact .inl (by simpa using hk)
  ·exact .inr hb
 rcases Nat.eq_zero_or_pos s.length with h0 | h0
 ·have hs : s = [] := List.length_eq_zero_iff.1 h0
  subst hs
  simp (disch := first | omega | (simp only [go_sem, ↓reduceIte, Nat.reduceEqDiff]; done) | fail) only [go_sem, ↓reduceIte, Int.reduceToNat, Int.reduceLE, Int.reduceLT, Int.reduceSub, Int.reduceAdd, Nat.reduceEqDiff, Nat.reduceAdd, Nat.reduceLeDiff, Nat.reduceLT, Nat.reduceMul, Nat.reduceSub, F, List.length_nil, Nat.lt_irrefl, Int.natCast_zero]
  refine wko F ?_
  refine eeo hQ F ?_
  rcases fin (bufR v []) with f | f
  ·exact f
  ·exact absurd (.inl rfl) f
 ·simp (disch := first | omega | (simp only [go_sem, ↓reduceIte, Nat.reduceEqDiff]; done) | fail) only [go_sem, ↓reduceIte, Int.reduceToNat, Int.reduceLE, Int.reduceLT, Int.reduceSub, Int.reduceAdd, Nat.reduceEqDiff, Nat.reduceAdd, Nat.reduceLeDiff, Nat.reduceLT, Nat.reduceMul, Nat.reduceSub, F, h0]
  refine ustrK_hp h0 (by simp (disch := first | omega | (simp only [go_sem, ↓reduceIte, Nat.reduceEqDiff]; done) | fail) only [go_sem, ↓reduceIte, Int.reduceToNat, Int.reduceLE, Int.reduceLT, Int.reduceSub, Int.reduceAdd, Nat.reduceEqDiff, Nat.reduceAdd, Nat.reduceLeDiff, Nat.reduceLT, Nat.reduceMul, Nat.reduceSub, F]; rfl) bptr_b (by simp) (by rw [List.take_of_length_le (by simp)]; exact bytesA_map s) ?_
  try refine sqo F ?_
  refine wko F ?_
  refine eeo hQ F ?_
  rcases fin .dead with f | f
  ·exact f
  ·exact absurd (.inr rfl) f
end Go.Av
namespace Go.Av
open Go Go.Proofs Go.RowKit
attribute [local irreducible] WP WPl WPix Sat
set_option maxRecDepth 100000
set_option maxHeartbeats 1000000
variable (G : Nat → Option (List AVal))
def shortAt (s : List UInt8) : Nat → List UInt8
 | 0 => s
 | k + 1 => if s[k]? = some 58 then s.drop (k + 1) else shortAt s k
def short (s : List UInt8) : List UInt8 := shortAt s s.length
theorem byte_eq {b : UInt8} {k : Nat} (hk : k < 256) : ((b.toNat : Int) = (k : Nat)) ↔ b = UInt8.ofNat k := by
 constructor
 ·intro h
  have : b.toNat = k := by omega
  rw [← this]; simp
 ·rintro rfl; simp [Nat.mod_eq_of_lt hk]
theorem Short_sat (s : List UInt8) (hs : s.length ≤ 1048576) (h : Heap) : Sat (CT G) 20 [.str s] h (fun r h' => r = .str (short s) ∧ h' = h) := by
 refine sb [.tmp 2] (fn := Tryz.f20) Tryz.func20 ?_
 intro Q hQ
 refine wko trivial ?_
 refine lm (fun nL tL hL => ∃ (k : Nat), k = nL ∧ h = hL ∧ tL 3 = .int .i64 ((k : Int) - 1) ∧ k ≤ s.length ∧ short s = shortAt s k) ((fun (k : Nat) => (k : Nat)) (s.length)) ?_ ?_
 ·refine Wkn.refl ⟨s.length, rfl, hpE, ?_, Nat.le_refl _, rfl⟩
  all_goals first | exact zqo trivial | rfl | omega | trivial | skip
 rintro _ s2 h' ⟨k, rfl, rfl, e3, hk, hi⟩ K2 hK2
 simp only [mix_cons, mix_nil, Nat.reduceEqDiff, ↓reduceIte] at e3
 have F := e3
 refine wko F ?_
 refine cqo F (fun hc => ?_) (fun hc => ?_) <;> (try exact hc.elim)
 ·obtain ⟨m, rfl⟩ : ∃ m, k = m + 1 := ⟨k - 1, by omega⟩
  have e3 : s2 3 = .int .i64 (m : Int) := by rw [e3]; congr; omega
  obtain ⟨b, hb, _⟩ := getElem?_of_lt (show m < s.length by omega)
  have F := F2 e3 hb
  refine wko F ?_
  refine cqo F (fun hc => ?_) (fun hc => ?_) <;> (try exact hc.elim) <;> (refine wko F ?_)
  ·refine eeo hQ F ?_
   refine fR (.str _) ?_
   rw [hi, shortAt, if_pos]
   ·rw [hb, (byte_eq (k := 58) (by omega)).1 hc]; rfl
  ·refine hK2 _ _ _ (Wkn.refl ⟨m, rfl, hpE, ?_, by omega, ?_⟩) (by omega)
   all_goals first | exact zqo F | rfl | omega | trivial | skip
   rw [hi, shortAt, if_neg]; rw [hb]; intro e; cases e; exact hc rfl
 ·refine wko F ?_
  refine eeo hQ F ?_
  refine fR (.str _) ?_
  have : k = 0 := (by omega); subst this
  rw [hi]; rfl
end Go.Av
namespace Go.Av
open Go Go.Proofs Go.RowKit
attribute [local irreducible] WP WPl WPix Sat
set_option maxRecDepth 100000
set_option maxHeartbeats 1000000
variable (G : Nat → Option (List AVal))
def attrF : List At → Bs → Bs × Bool
 | [], _ => ([], false)
 | a :: l, n => if a.1 = n then (a.2, true) else attrF l n
theorem Attr_sat (e : Elem) (n : Bs) (hs : e.sz ≤ 1048576) (h : Heap) : Sat (CT G) 17 [e.av, .str n] h (fun r h' => r = .tup [.str (attrF e.attrs n).1, .bool (attrF e.attrs n).2] ∧ h' = h) := by
 have hal := e.attrs_len
 refine sb [.tmp 4, .tmp 5] (fn := Tryz.f17) Tryz.func17 ?_
 intro Q hQ
 refine wko trivial ?_
 refine lm (fun nL tL hL => ∃ (k : Nat), e.attrs.length - k = nL ∧ h ++ [.row 26 4 0 [e.av]] = hL ∧ tL 6 = .int .i64 k ∧ k ≤ e.attrs.length ∧ attrF e.attrs n = attrF (e.attrs.drop k) n) ((fun (k : Nat) => (e.attrs.length - k : Nat)) (0)) ?_ ?_
 ·refine Wkn.refl ⟨0, rfl, hpE, ?_, ?_, ?_⟩
  all_goals first | exact zqo trivial | rfl | omega | trivial | skip
 rintro _ s2 h' ⟨k, rfl, rfl, e6, hk, hp⟩ K2 hK2
 simp only [mix_cons, mix_nil, Nat.reduceEqDiff, ↓reduceIte] at e6
 have F := e6
 refine wko F ?_
 refine cqo F (fun hc => ?_) (fun hc => ?_) <;> (try exact hc.elim)
 ·obtain ⟨x, hx, _⟩ := getElem?_of_lt hc
  rw [drop_cons_of hx, attrF] at hp
  have F := F2 F hx
  refine wko F ?_
  refine cqo F (fun hc => ?_) (fun hc => ?_) <;> (try exact hc.elim) <;> (refine wko F ?_)
  ·refine eeo hQ F ?_
   refine fR (.tup _ (by simp [Clo.str, Clo.bool])) ?_
   rw [hp, if_pos hc]
  ·refine hK2 _ _ _ (Wkn.refl ⟨k + 1, rfl, hpE, ?_, by omega, ?_⟩) (by omega)
   all_goals first | exact zqo F | rfl | omega | trivial | skip
   rw [hp, if_neg hc]
 ·refine wko F ?_
  refine eeo hQ F ?_
  refine fR (.tup _ (by simp [Clo.str, Clo.bool])) ?_
  rw [hp, drop_nil_of hc]; rfl
end Go.Av
namespace Go.Av
open Go Go.Proofs Go.RowKit
attribute [local irreducible] WP WPl WPix Sat
set_option maxRecDepth 100000
set_option maxHeartbeats 1000000
variable (G : Nat → Option (List AVal))
mutual
def deep : Elem → Nat → Nat
 | .mk _ _ _ k, d => if 40 ≤ d then 40 else deepL k d d
def deepL : List Elem → Nat → Nat → Nat
 | [], _, n => n
 | k :: l, d, n => deepL l d (if n < deep k (d + 1) then deep k (d + 1) else n)
end
theorem deep_eq (e : Elem) (d : Nat) : deep e d = if 40 ≤ d then 40 else deepL e.kids d d := by cases e; rw [deep]; rfl
theorem zip_at {α β : Type} {a : List α} {b : List β} {k : Nat} {x : α} {y : β} (ha : a[k]? = some x) (hb : b[k]? = some y) : (a.zip b)[k]? = some (x, y) := by
 rw [List.getElem?_zip_eq_some]; exact ⟨ha, hb⟩
end Go.Av
namespace Go.Av
open Go Go.Proofs Go.RowKit
attribute [local irreducible] WP WPl WPix Sat
set_option maxRecDepth 100000
set_option maxHeartbeats 1000000
variable (G : Nat → Option (List AVal))
theorem frz_rows {h0 h1 pre post : Heap} {e n v q : Nat} {rows : List AVal} (hh : h1 = pre ++ .row e n v rows :: post) (hq : q = pre.length) (hp : h0.length ≤ q) (hc : ∀ r ∈ rows, Clo h0.length r) (hs : ∀ r ∈ rows, ∀ c ∈ r.cells, c.sto = true) :
  Frz h1 h0.length (.hs q v 0 rows.length true) (.sl n rows) := by
 subst hh; subst hq
 have := Frz.hs (h := pre ++ .row e n v rows :: post) (n := h0.length) pre.length v 0 rows.length true e n rows rows hp (by simp [getRow]) (by simp) rfl
   (fun i r s hr hs' => by rw [hr] at hs'; cases hs'; exact .clo _ (hc r (List.mem_of_getElem? hr)))
   (fun i r s hr hs' => by rw [hr] at hs'; cases hs'; exact ⟨rfl, fun j c d hj hd => hs r (List.mem_of_getElem? hr) d (List.mem_of_getElem? hd)⟩)
   (fun i r s j c d hr hs' hj hd => by rw [hr] at hs'; cases hs'; rw [hj] at hd; cases hd; exact .clo _ ((hc r (List.mem_of_getElem? hr)).cells c (List.mem_of_getElem? hj)))
 simpa using this
theorem Elem.av_sto (e : Elem) : ∀ c ∈ e.av.cells, c.sto = true := by
 rw [Elem.av_cells]; intro c hc; simp only [List.mem_cons, List.mem_nil_iff, or_false] at hc; rcases hc with rfl | rfl | rfl | rfl <;> rfl
theorem Tok.av_sto (e : Tok) : ∀ c ∈ e.av.cells, c.sto = true := by
 rw [Tok.av_cells]; intro c hc; simp only [List.mem_cons, List.mem_nil_iff, or_false] at hc; rcases hc with rfl | rfl | rfl | rfl <;> rfl
theorem frz_elems {h0 h1 pre post : Heap} {e v q : Nat} (l : List Elem) (hh : h1 = pre ++ .row e 4 v (l.map Elem.av) :: post) (hq : q = pre.length) (hp : h0.length ≤ q) : Frz h1 h0.length (.hs q v 0 l.length true) (.sl 4 (l.map Elem.av)) := by
 have := frz_rows (h0 := h0) hh hq hp (fun r hr => by obtain ⟨a, _, rfl⟩ := List.mem_map.1 hr; exact Elem.clo _ a) (fun r hr => by obtain ⟨a, _, rfl⟩ := List.mem_map.1 hr; exact a.av_sto)
 simpa using this
def kidsF (e : Elem) (n : Bs) : List Elem := e.kids.filter fun k => decide (short k.name = n)
theorem Kids_sat (e : Elem) (n : Bs) (hs : e.sz ≤ 1048576) (h : Heap) : Sat (CT G) 31 [e.av, .str n] h (fun r h' => r = .sl 4 ((kidsF e n).map Elem.av) ∧ h' = h) := by
 have hkl := e.kids_len
 refine sb [.tmp 4] (fn := Tryz.f31) Tryz.func31 ?_
 intro Q hQ
 refine wko trivial ?_
 refine lm (fun nL tL hL => ∃ (k v : Nat) (acc : List Elem), e.kids.length - k = nL ∧ h ++ [.row 26 4 0 [e.av], .row 26 4 v (acc.map Elem.av)] = hL ∧ tL 5 = .hs (h.length + 1) v 0 acc.length true ∧ tL 6 = .int .i64 k ∧ k ≤ e.kids.length ∧ acc.length ≤ k ∧ acc ++ (e.kids.drop k).filter (fun k => decide (short k.name = n)) = kidsF e n) ((fun (k v : Nat) (acc : List Elem) => (e.kids.length - k : Nat)) (0) (0) ([])) ?_ ?_
 ·refine ⟨_, _, Weak.virt 5 26 4 (by simp) (by omega) (by exact zqo trivial), ⟨0, 0, [], rfl, hpE, ?_, ?_, ?_, ?_, ?_⟩⟩
  all_goals first | exact zqo trivial | rfl | omega | trivial | skip
 rintro _ s2 h' ⟨k, v, acc, rfl, rfl, e5, e6, hk, hl, hp⟩ K2 hK2
 simp only [mix_cons, mix_nil, Nat.reduceEqDiff, ↓reduceIte] at e5 e6
 have F := F2 e5 e6
 refine wko F ?_
 refine cqo F (fun hc => ?_) (fun hc => ?_) <;> (try exact hc.elim)
 ·obtain ⟨y, hy, hym⟩ := getElem?_of_lt hc
  have := Elem.kid_sz hym
  have := y.name_len
  rw [drop_cons_of hy, List.filter_cons] at hp
  have F := F2 F hy
  refine wko F ?_
  refine kqo F (Short_sat G y.name (by omega) _) ?_
  refine cqo F (fun hc => ?_) (fun hc => ?_) <;> (try exact hc.elim) <;> (refine wko F ?_)
  ·refine aqo F ?_
   try refine sqo F ?_
   refine wko F ?_
   refine hK2 _ _ _ (Wkn.refl ⟨k + 1, v + 1, acc ++ [y], rfl, hpE, ?_, ?_, by omega, by simp; omega, by rw [if_pos (by simp [hc])] at hp; rw [← hp]; simp⟩) (by omega)
   all_goals first | exact zqo F | rfl | omega | trivial | skip
  ·refine hK2 _ _ _ (Wkn.refl ⟨k + 1, v, acc, rfl, hpE, ?_, ?_, by omega, by omega, by rw [if_neg (by simp [hc])] at hp; exact hp⟩) (by omega)
   all_goals first | exact zqo F | rfl | omega | trivial | skip
 ·refine wko F ?_
  refine eeo hQ F ?_
  rw [drop_nil_of hc, List.filter_nil, List.append_nil] at hp
  subst hp
  exact Fin.frz (frz_elems (pre := h ++ [.row 26 4 0 [e.av]]) (post := []) _ (by simp; rfl) (by simp) (by omega)) ⟨rfl, rfl⟩
end Go.Av
namespace Go.Av
open Go Go.Proofs Go.RowKit
attribute [local irreducible] WP WPl WPix Sat
set_option maxRecDepth 100000
set_option maxHeartbeats 1000000
variable (G : Nat → Option (List AVal))
theorem frz_elem0 (h : Heap) (n : Nat) : Frz h n (.agg [.str [], .nil (.slice none 0 0), .str [], .nil (.slice none 0 0)]) (Elem.av ⟨[], [], [], []⟩) := by
 rw [Elem.av_eq]
 refine .agg _ _ rfl (by simp [AVal.sto]) fun i c d hc hd => ?_
 match i with
 | 0 => simp at hc hd; subst hc; subst hd; exact .clo _ (.str _)
 | 1 => simp [Elem.attrs] at hc hd; subst hc; subst hd; exact .nils _
 | 2 => simp at hc hd; subst hc; subst hd; exact .clo _ (.str _)
 | 3 => simp [Elem.kids] at hc hd; subst hc; subst hd; exact .nils _
 | i + 4 => simp at hc
def kidF (e : Elem) (n : Bs) : Elem × Bool := match kidsF e n with | [] => (⟨[], [], [], []⟩, false) | k :: _ => (k, true)
theorem Kid_sat (e : Elem) (n : Bs) (hs : e.sz ≤ 1048576) (h : Heap) : Sat (CT G) 15 [e.av, .str n] h (fun r h' => r = .tup [(kidF e n).1.av, .bool (kidF e n).2] ∧ h' = h) := by
 refine sb [.cell 4 26, .tmp 5] (fn := Tryz.f15) Tryz.func15 ?_
 intro Q hQ
 refine wko trivial ?_
 refine kqo trivial (Kids_sat G e n hs _) ?_
 refine cqo trivial (fun hc => ?_) (fun hc => ?_) <;> (try exact hc.elim) <;> (refine wko trivial ?_)
 ·refine yeo hQ trivial ?_
  have hk : kidsF e n = [] := List.length_eq_zero_iff.1 (by omega)
  simp only [kidF, hk]
  refine Fin.frz ?_ ⟨rfl, rfl⟩
  refine .tup _ _ rfl fun i c d hc hd => ?_
  match i with
  | 0 => simp at hc hd; subst hc; subst hd; exact frz_elem0 _ _
  | 1 => simp at hc hd; subst hc; subst hd; exact .clo _ (.bool _)
  | i + 2 => simp at hc
 ·obtain ⟨y, l, hk⟩ : ∃ y l, kidsF e n = y :: l := by
   cases hq : kidsF e n with
   | nil => rw [hq] at hc; simp at hc
   | cons y l => exact ⟨y, l, rfl⟩
  rw [hk]
  have h0 : (y :: l)[0]? = some y := rfl
  have F := h0
  refine wko F ?_
  simp only [h0]
  try refine sqo F ?_
  refine wko F ?_
  refine yeo hQ F ?_
  simp only [kidF, hk]
  exact Fin.plain (.tup _ (by intro c hc; simp at hc; rcases hc with rfl | rfl; exact Elem.clo _ _; exact .bool _)) ⟨rfl, rfl⟩
instance tokEq : DecidableEq Tok := fun a b => inferInstanceAs (Decidable ((a : Int × List UInt8 × List (List UInt8 × List UInt8) × List UInt8) = b))
end Go.Av
namespace Go.Av
open Go Go.Proofs Go.RowKit
attribute [local irreducible] WP WPl WPix Sat
set_option maxRecDepth 100000
set_option maxHeartbeats 1000000
variable (G : Nat → Option (List AVal))
theorem frz_tok0 (h : Heap) (m : Nat) (k : Int) (n t : Bs) : Frz h m (.agg [.int .i64 k, .str n, .nil (.slice none 0 0), .str t]) (Tok.av (k, n, [], t)) := by
 refine .agg _ _ rfl (by intro d hd; simp at hd; rcases hd with rfl | rfl | rfl | rfl <;> rfl) fun i c d hc hd => ?_
 match i with
 | 0 => simp at hc hd; subst hc; subst hd; exact .clo _ (.int _ _)
 | 1 => simp at hc hd; subst hc; subst hd; exact .clo _ (.str _)
 | 2 => simp at hc hd; subst hc; subst hd; exact .nils _
 | 3 => simp at hc hd; subst hc; subst hd; exact .clo _ (.str _)
 | i + 4 => simp at hc
theorem frz_toks1 {h0 h1 pre post : Heap} {e v q : Nat} (l : List Tok) (k : Int) (n t : Bs) (hh : h1 = pre ++ .row e 4 v (l.map Tok.av ++ [.agg [.int .i64 k, .str n, .nil (.slice none 0 0), .str t]]) :: post) (hq : q = pre.length) (hp : h0.length ≤ q) :
  Frz h1 h0.length (.hs q v 0 (l.length + 1) true) (.sl 4 ((l ++ [(k, n, [], t)]).map Tok.av)) := by
 subst hh; subst hq
 have at_ : ∀ (i : Nat) (r s : AVal), (l.map Tok.av ++ [AVal.agg [.int .i64 k, .str n, .nil (.slice none 0 0), .str t]])[i]? = some r → ((l ++ [(k, n, [], t)]).map Tok.av)[i]? = some s →
   (∃ a, r = Tok.av a ∧ s = r) ∨ (r = .agg [.int .i64 k, .str n, .nil (.slice none 0 0), .str t] ∧ s = Tok.av (k, n, [], t)) := by
  intro i r s hr hs
  rw [List.map_append] at hs
  rcases Nat.lt_trichotomy i (l.map Tok.av).length with h1 | h1 | h1
  ·rw [List.getElem?_append_left h1] at hr hs
   rw [hr] at hs; cases hs
   obtain ⟨a, _, rfl⟩ := List.mem_map.1 (List.mem_of_getElem? hr)
   exact .inl ⟨a, rfl, rfl⟩
  ·subst h1
   simp only [List.getElem?_append_right (Nat.le_refl _), Nat.sub_self, List.map_cons, List.map_nil, List.getElem?_cons_zero, Option.some.injEq] at hr hs
   exact .inr ⟨hr.symm, hs.symm⟩
  ·rw [List.getElem?_append_right (by omega), List.getElem?_eq_none (by simp at h1 ⊢; omega)] at hr; cases hr
 have := Frz.hs (h := pre ++ .row e 4 v (l.map Tok.av ++ [.agg [.int .i64 k, .str n, .nil (.slice none 0 0), .str t]]) :: post) (n := h0.length) pre.length v 0 (l.length + 1) true e 4 _ ((l ++ [(k, n, [], t)]).map Tok.av) hp (by simp [getRow]; rfl) (by simp) (by simp)
   (fun i r s hr hs => by rcases at_ i r s hr hs with ⟨a, rfl, rfl⟩ | ⟨rfl, rfl⟩; exact .clo _ (Tok.clo _ _); exact frz_tok0 _ _ _ _ _)
   (fun i r s hr hs => by
    rcases at_ i r s hr hs with ⟨a, rfl, rfl⟩ | ⟨rfl, rfl⟩
    ·exact ⟨rfl, fun j c d _ hd => Tok.av_sto _ d (List.mem_of_getElem? hd)⟩
    ·exact ⟨rfl, fun j c d _ hd => Tok.av_sto _ d (List.mem_of_getElem? hd)⟩)
   (fun i r s j c d hr hs hc hd => by
    rcases at_ i r s hr hs with ⟨a, rfl, rfl⟩ | ⟨rfl, rfl⟩
    ·rw [hc] at hd; cases hd; exact .clo _ ((Tok.clo _ _).cells c (List.mem_of_getElem? hc))
    ·match j with
     | 0 => simp [Tok.av, AVal.cells] at hc hd; subst hc; subst hd; exact .clo _ (.int _ _)
     | 1 => simp [Tok.av, AVal.cells] at hc hd; subst hc; subst hd; exact .clo _ (.str _)
     | 2 => simp [Tok.av, AVal.cells] at hc hd; subst hc; subst hd; exact .nils _
     | 3 => simp [Tok.av, AVal.cells] at hc hd; subst hc; subst hd; exact .clo _ (.str _)
     | j + 4 => simp [AVal.cells] at hc)
 rw [List.drop_zero, List.take_of_length_le (by simp)] at this
 exact this
end Go.Av
namespace Go.Av
open Go Go.Proofs Go.RowKit
set_option maxRecDepth 100000
variable (G : Nat → Option (List AVal))
theorem short_last (s : Bs) : ∀ k, k ≤ s.length → shortAt s k = s.drop (Lib.lastIdx ⟨s.toArray⟩ 58 k + 1).toNat ∧ -1 ≤ Lib.lastIdx ⟨s.toArray⟩ 58 k ∧ Lib.lastIdx ⟨s.toArray⟩ 58 k < k := by
 intro k
 induction k with
 | zero => intro _; simp [shortAt, Lib.lastIdx]
 | succ k ih =>
  intro hk
  obtain ⟨h1, h2, h3⟩ := ih (by omega)
  have hb := List.getElem?_eq_getElem (show k < s.length by omega)
  have e : (⟨s.toArray⟩ : ByteArray).data[k]! = s[k] := by simp [hb]
  rw [shortAt, hb]
  have e2 : Lib.lastIdx ⟨s.toArray⟩ 58 (k + 1) = if (s[k].toNat : Int) = 58 then (k : Int) else Lib.lastIdx ⟨s.toArray⟩ 58 k := by
   rw [Lib.lastIdx, e]
  rw [e2]
  by_cases hc : s[k] = 58
  ·rw [if_pos (by rw [hc]), if_pos (by rw [hc]; rfl)]
   refine ⟨congrArg s.drop (by omega), by omega, by omega⟩
  ·have : ¬ (s[k].toNat : Int) = 58 := fun h => hc ((byte_eq (k := 58) (by omega)).1 h)
   rw [if_neg (by simpa using hc), if_neg this]
   exact ⟨h1, h2, by omega⟩
theorem short_lib (s : Bs) : short s = s.drop (Lib.lastIndexByte ⟨s.toArray⟩ 58 + 1).toNat ∧ -1 ≤ Lib.lastIndexByte ⟨s.toArray⟩ 58 ∧ Lib.lastIndexByte ⟨s.toArray⟩ 58 < s.length := by
 have h : (⟨s.toArray⟩ : ByteArray).size = s.length := by simp [ByteArray.size]
 have := short_last s s.length (Nat.le_refl _)
 unfold Lib.lastIndexByte short
 rw [h]; exact this
end Go.Av
namespace Go.Av
open Go Go.Proofs Go.RowKit
attribute [local irreducible] WP WPl WPix Sat
set_option maxRecDepth 100000
set_option maxHeartbeats 1000000
variable (G : Nat → Option (List AVal))
def enc (r : Int) : Bs := (Utf8.encode r).data.toList
def Rune (r : Int) : Prop := 0 ≤ r ∧ (r < 55296 ∨ 57343 < r ∧ r ≤ 1114111)
theorem Rune.valid {r : Int} (h : Rune r) : Utf8.valid r = true := by
 unfold Utf8.valid; obtain ⟨h0, h1⟩ := h; simp; omega
theorem bytA_ofNat (n : Nat) (h : n < 256) : bytA (UInt8.ofNat n) = .int .u8 n := by
 simp [bytA]; omega
theorem enc1 {r : Int} (h0 : 0 ≤ r) (h1 : r < 128) : (enc r).map bytA = [.int .u8 r] := by
 have hv := Rune.valid (r := r) ⟨h0, by omega⟩
 unfold enc Utf8.encode
 simp only [hv, if_true]
 rw [if_pos (by omega)]
 simp only [List.map_cons, List.map_nil]
 rw [bytA_ofNat _ (by omega)]
 simp only [List.cons.injEq, AVal.int.injEq, and_true, true_and]
 omega
theorem enc2 {r : Int} (h0 : 128 ≤ r) (h1 : r < 2048) : (enc r).map bytA = [.int .u8 (192 + r / 64), .int .u8 (128 + r % 64)] := by
 have hv := Rune.valid (r := r) ⟨by omega, by omega⟩
 unfold enc Utf8.encode
 simp only [hv, if_true]
 rw [if_neg (by omega), if_pos (by omega)]
 simp only [List.map_cons, List.map_nil]
 rw [bytA_ofNat _ (by omega), bytA_ofNat _ (by omega)]
 simp only [List.cons.injEq, AVal.int.injEq, and_true, true_and]
 omega
theorem enc3 {r : Int} (h : Rune r) (h0 : 2048 ≤ r) (h1 : r < 65536) : (enc r).map bytA = [.int .u8 (224 + r / 4096), .int .u8 (128 + r / 64 % 64), .int .u8 (128 + r % 64)] := by
 have hv := h.valid
 unfold enc Utf8.encode
 simp only [hv, if_true]
 rw [if_neg (by omega), if_neg (by omega), if_pos (by omega)]
 simp only [List.map_cons, List.map_nil]
 rw [bytA_ofNat _ (by omega), bytA_ofNat _ (by omega), bytA_ofNat _ (by omega)]
 simp only [List.cons.injEq, AVal.int.injEq, and_true, true_and]
 omega
theorem enc4 {r : Int} (h0 : 65536 ≤ r) (h1 : r ≤ 1114111) : (enc r).map bytA = [.int .u8 (240 + r / 262144), .int .u8 (128 + r / 4096 % 64), .int .u8 (128 + r / 64 % 64), .int .u8 (128 + r % 64)] := by
 have hv := Rune.valid (r := r) ⟨by omega, by omega⟩
 unfold enc Utf8.encode
 simp only [hv, if_true]
 rw [if_neg (by omega), if_neg (by omega), if_neg (by omega)]
 simp only [List.map_cons, List.map_nil]
 rw [bytA_ofNat _ (by omega), bytA_ofNat _ (by omega), bytA_ofNat _ (by omega), bytA_ofNat _ (by omega)]
 simp only [List.cons.injEq, AVal.int.injEq, and_true, true_and]
 omega
theorem enc_len (r : Int) : 1 ≤ (enc r).length ∧ (enc r).length ≤ 4 := by
 unfold enc Utf8.encode
 simp only []
 generalize (if Utf8.valid r = true then r.toNat else Utf8.runeError) = c
 by_cases h1 : c < 128
 ·rw [if_pos h1]; exact ⟨by simp, by simp⟩
 ·rw [if_neg h1]
  by_cases h2 : c < 2048
  ·rw [if_pos h2]; exact ⟨by simp, by simp⟩
  ·rw [if_neg h2]
   by_cases h3 : c < 65536
   ·rw [if_pos h3]; exact ⟨by simp, by simp⟩
   ·rw [if_neg h3]; exact ⟨by simp, by simp⟩
theorem shr_i32 (P : Program) (h : Heap) (T : TypeId) (a b : Int) (k : IntKind) (hb : 0 ≤ b) (hb2 : b < 32) : abin P h .shr T (.int .i32 a) (.int k b) = some (.int .i32 (a / 2 ^ b.toNat)) := by
 simp only [abin]
 rw [if_neg (by omega)]
 have : min b.toNat (IntKind.bits .i32) = b.toNat := by simp [IntKind.bits]; omega
 rw [this, Int.fdiv_eq_ediv_of_nonneg _ (by exact Int.le_of_lt (Int.pow_pos (by omega)))]
theorem wrap_u8 (x : Int) : IntKind.wrap .u8 x = x % 256 := IntKind.wrap_u8 x
theorem wrap_u32 (x : Int) (h0 : 0 ≤ x) (h1 : x < 4294967296) : IntKind.wrap .u32 x = x := by rw [IntKind.wrap_u32]; omega
theorem bits_or (n m : Nat) (h : n + m < 256) (hh : ∀ x : _root_.Fin 256, x.val ≤ m → (BitVec.ofInt 8 n ||| BitVec.ofInt 8 (x.val : Int)).toNat = n + x.val) (x : Int) (h0 : 0 ≤ x) (h1 : x ≤ m) : aint .or .u8 n x = some (.int .u8 (n + x)) := by
 have e : (BitVec.ofInt 8 n ||| BitVec.ofInt 8 ((x.toNat : Nat) : Int)).toNat = n + x.toNat := hh ⟨x.toNat, by omega⟩ (by simp; omega)
 rw [show x = ((x.toNat : Nat) : Int) from by omega]
 show some (AVal.int .u8 (IntKind.wrap .u8 (BitVec.ofInt 8 n ||| BitVec.ofInt 8 ((x.toNat : Nat) : Int)).toNat)) = _
 rw [e, wrap_u8]
 congr 2; omega
theorem or192 (x : Int) (h0 : 0 ≤ x) (h1 : x ≤ 31) : aint .or .u8 192 x = some (.int .u8 (192 + x)) := bits_or 192 31 (by omega) (by decide +kernel) x h0 h1
theorem or224 (x : Int) (h0 : 0 ≤ x) (h1 : x ≤ 15) : aint .or .u8 224 x = some (.int .u8 (224 + x)) := bits_or 224 15 (by omega) (by decide +kernel) x h0 h1
theorem or240 (x : Int) (h0 : 0 ≤ x) (h1 : x ≤ 7) : aint .or .u8 240 x = some (.int .u8 (240 + x)) := bits_or 240 7 (by omega) (by decide +kernel) x h0 h1
theorem or128 (x : Int) (h0 : 0 ≤ x) (h1 : x ≤ 63) : aint .or .u8 128 x = some (.int .u8 (128 + x)) := bits_or 128 63 (by omega) (by decide +kernel) x h0 h1
theorem and63 (x : Int) (h0 : 0 ≤ x) (h1 : x < 256) : aint .and .u8 x 63 = some (.int .u8 (x % 64)) := by
 have hh : ∀ x : _root_.Fin 256, (BitVec.ofInt 8 (x.val : Int) &&& BitVec.ofInt 8 63).toNat = x.val % 64 := by decide +kernel
 have e : (BitVec.ofInt 8 ((x.toNat : Nat) : Int) &&& BitVec.ofInt 8 63).toNat = x.toNat % 64 := hh ⟨x.toNat, by omega⟩
 rw [show x = ((x.toNat : Nat) : Int) from by omega]
 show some (AVal.int .u8 (IntKind.wrap .u8 (BitVec.ofInt 8 ((x.toNat : Nat) : Int) &&& BitVec.ofInt 8 63).toNat)) = _
 rw [e, wrap_u8]
 congr 2; omega
theorem abin_or192 (P : Program) (h : Heap) (T : TypeId) (x : Int) (h0 : 0 ≤ x) (h1 : x ≤ 31) : abin P h .or T (.int .u8 192) (.int .u8 x) = some (.int .u8 (192 + x)) := by simpa only [abin, if_true] using or192 x h0 h1
theorem abin_or224 (P : Program) (h : Heap) (T : TypeId) (x : Int) (h0 : 0 ≤ x) (h1 : x ≤ 15) : abin P h .or T (.int .u8 224) (.int .u8 x) = some (.int .u8 (224 + x)) := by simpa only [abin, if_true] using or224 x h0 h1
theorem abin_or240 (P : Program) (h : Heap) (T : TypeId) (x : Int) (h0 : 0 ≤ x) (h1 : x ≤ 7) : abin P h .or T (.int .u8 240) (.int .u8 x) = some (.int .u8 (240 + x)) := by simpa only [abin, if_true] using or240 x h0 h1
theorem abin_or128 (P : Program) (h : Heap) (T : TypeId) (x : Int) (h0 : 0 ≤ x) (h1 : x ≤ 63) : abin P h .or T (.int .u8 128) (.int .u8 x) = some (.int .u8 (128 + x)) := by simpa only [abin, if_true] using or128 x h0 h1
theorem abin_and63 (P : Program) (h : Heap) (T : TypeId) (x : Int) (h0 : 0 ≤ x) (h1 : x < 256) : abin P h .and T (.int .u8 x) (.int .u8 63) = some (.int .u8 (x % 64)) := by simpa only [abin, if_true] using and63 x h0 h1
theorem shr6 (P : Program) (h : Heap) (T : TypeId) (a : Int) : abin P h .shr T (.int .i32 a) (.int .u64 6) = some (.int .i32 (a / 64)) := by rw [shr_i32 _ _ _ _ _ _ (by omega) (by omega)]; rfl
theorem shr12 (P : Program) (h : Heap) (T : TypeId) (a : Int) : abin P h .shr T (.int .i32 a) (.int .u64 12) = some (.int .i32 (a / 4096)) := by rw [shr_i32 _ _ _ _ _ _ (by omega) (by omega)]; rfl
theorem shr18 (P : Program) (h : Heap) (T : TypeId) (a : Int) : abin P h .shr T (.int .i32 a) (.int .u64 18) = some (.int .i32 (a / 262144)) := by rw [shr_i32 _ _ _ _ _ _ (by omega) (by omega)]; rfl
theorem aconv_ru8 (k : IntKind) (n : Int) : aconv Tryz.prog 21 5 (.int k n) = some (.int .u8 (n % 256)) := by simp only [aconv, go_sem, wrap_u8]
theorem aconv_ru32 (k : IntKind) (n : Int) (h0 : 0 ≤ n) (h1 : n < 4294967296) : aconv Tryz.prog 21 165 (.int k n) = some (.int .u32 n) := by simp only [aconv, go_sem, wrap_u32 n h0 h1]
theorem aconv_rstr (k : IntKind) (n : Int) : aconv Tryz.prog 21 9 (.int k n) = some (.str (enc n)) := by simp only [aconv, go_sem, enc]
theorem appendRuneNonASCII_sat (r : Int) (hr : Rune r) (h1 : 128 ≤ r) (h j : Heap) (X : Blk) (v : Nat) (s : Bs) (hs : s.length ≤ 1073741824) :
  Sat (CT G) 176 [.hs (h.length + 1) v 0 s.length true, .int .i32 r] (h ++ X :: bufR v s :: j)
   (fun x h' => x = .hs (h.length + 1) (v + 1) 0 (s.length + (enc r).length) true ∧ h' = h ++ X :: bufR (v + 1) (s ++ enc r) :: j) := by
 have end_ : ∀ l, l = enc r → Fin (h ++ X :: bufR v s :: j) (h ++ X :: bufR (v + 1) (s ++ l) :: j) (fun x h' => x = .hs (h.length + 1) (v + 1) 0 (s.length + (enc r).length) true ∧ h' = h ++ X :: bufR (v + 1) (s ++ enc r) :: j) (.hs (h.length + 1) (v + 1) 0 (s.length + l.length) true) := fun l hl => by
  subst hl
  refine Fin.keep0 (by simp) (fun p k hk => ?_) (.hs _ _ _ _ _ (by simp)) ⟨rfl, rfl⟩
  rcases Nat.lt_or_ge p h.length with h1 | h1
  ·rw [List.getElem?_append_left h1] at hk ⊢; exact .inl hk
  ·rw [List.getElem?_append_right h1] at hk ⊢
   match p - h.length, hk with
   | 0, hk => exact .inl hk
   | 1, hk => simp at hk; subst hk; exact .inr (buf_clo _ _ _)
   | i + 2, hk => exact .inl hk
 have F := F2 (F9 @aconv_ru8 @aconv_ru32 @shr6 @shr12 @shr18 @abin_or192 @abin_or224 @abin_or240 @abin_or128) (F3 @abin_and63 @wrap_u8 @wrap_u32)
 obtain ⟨hr0, hr1⟩ := hr
 refine sb [.tmp 4] (fn := Tryz.f176) Tryz.func176 ?_
 intro Q hQ
 refine wko F ?_
 refine cqo F (fun hc => ?_) (fun hc => ?_) <;> (try exact hc.elim) <;> (refine wko F ?_)
 ·refine appK_row (.inl rfl) (by exact zqo F) (by exact zqo F) bytes_sz zro_u8 (by omega) (elems_sl1 _ _) (by simp (disch := first | omega | (simp only [go_sem, ↓reduceIte, Nat.reduceEqDiff]; done) | fail) only [go_sem, ↓reduceIte, Int.reduceToNat, Int.reduceLE, Int.reduceLT, Int.reduceSub, Int.reduceAdd, Nat.reduceEqDiff, Nat.reduceAdd, Nat.reduceLeDiff, Nat.reduceLT, Nat.reduceMul, Nat.reduceSub, F, getRow_buf]; rfl) (by simp) ?_ ?_
  ·simp [maxLen]; omega
  simp (disch := first | omega | (simp only [go_sem, ↓reduceIte, Nat.reduceEqDiff]; done) | fail) only [go_sem, ↓reduceIte, Int.reduceToNat, Int.reduceLE, Int.reduceLT, Int.reduceSub, Int.reduceAdd, Nat.reduceEqDiff, Nat.reduceAdd, Nat.reduceLeDiff, Nat.reduceLT, Nat.reduceMul, Nat.reduceSub, F]
  refine wko F ?_
  refine eeo hQ F ?_
  have e := enc2 h1 (by omega)
  have le : (enc r).length = 2 := by simpa using congrArg List.length e
  have := end_ _ rfl
  simp only [bufR, List.map_append, e, le] at this
  have m0 : r / 64 % 256 = r / 64 := by omega
  have m1 : r % 256 % 64 = r % 64 := by omega
  simp only [bufR, List.map_append, e, le, m0, m1, List.length_cons, List.length_nil, Nat.zero_add, Nat.reduceAdd]
  exact this
 ·refine cqo F (fun hc => ?_) (fun hc => ?_) <;> (try exact hc.elim) <;> (refine wko F ?_)
  ·refine cqo F (fun hc => ?_) (fun hc => ?_) <;> (try exact hc.elim) <;> (refine wko F ?_)
   ·refine appK_row (.inl rfl) (by exact zqo F) (by exact zqo F) bytes_sz zro_u8 (by omega) (elems_sl1 _ _) (by simp (disch := first | omega | (simp only [go_sem, ↓reduceIte, Nat.reduceEqDiff]; done) | fail) only [go_sem, ↓reduceIte, Int.reduceToNat, Int.reduceLE, Int.reduceLT, Int.reduceSub, Int.reduceAdd, Nat.reduceEqDiff, Nat.reduceAdd, Nat.reduceLeDiff, Nat.reduceLT, Nat.reduceMul, Nat.reduceSub, F, getRow_buf]; rfl) (by simp) ?_ ?_
    ·simp [maxLen]; omega
    simp (disch := first | omega | (simp only [go_sem, ↓reduceIte, Nat.reduceEqDiff]; done) | fail) only [go_sem, ↓reduceIte, Int.reduceToNat, Int.reduceLE, Int.reduceLT, Int.reduceSub, Int.reduceAdd, Nat.reduceEqDiff, Nat.reduceAdd, Nat.reduceLeDiff, Nat.reduceLT, Nat.reduceMul, Nat.reduceSub, F]
    refine wko F ?_
    refine eeo hQ F ?_
    have e := enc3 ⟨hr0, hr1⟩ (by omega) (by omega)
    have le : (enc r).length = 3 := by simpa using congrArg List.length e
    have := end_ _ rfl
    simp only [bufR, List.map_append, e, le] at this
    have m0 : r / 4096 % 256 = r / 4096 := by omega
    have m1 : r / 64 % 256 % 64 = r / 64 % 64 := by omega
    have m2 : r % 256 % 64 = r % 64 := by omega
    simp only [bufR, List.map_append, e, le, m0, m1, m2, List.length_cons, List.length_nil, Nat.zero_add, Nat.reduceAdd]
    exact this
   ·exfalso; omega
  ·(first | refine gqo F (fun hg => ?_) (fun hg => ?_) | refine pqo F (fun hg => ?_) (fun hg => ?_)) <;> (try exact hg.elim) <;> (try refine sqo F ?_) <;> (refine wko F ?_)
   ·refine cqo F (fun hc => ?_) (fun hc => ?_) <;> (try exact hc.elim) <;> (refine wko F ?_)
    ·refine appK_row (.inl rfl) (by exact zqo F) (by exact zqo F) bytes_sz zro_u8 (by omega) (elems_sl1 _ _) (by simp (disch := first | omega | (simp only [go_sem, ↓reduceIte, Nat.reduceEqDiff]; done) | fail) only [go_sem, ↓reduceIte, Int.reduceToNat, Int.reduceLE, Int.reduceLT, Int.reduceSub, Int.reduceAdd, Nat.reduceEqDiff, Nat.reduceAdd, Nat.reduceLeDiff, Nat.reduceLT, Nat.reduceMul, Nat.reduceSub, F, getRow_buf]; rfl) (by simp) ?_ ?_
     ·simp [maxLen]; omega
     simp (disch := first | omega | (simp only [go_sem, ↓reduceIte, Nat.reduceEqDiff]; done) | fail) only [go_sem, ↓reduceIte, Int.reduceToNat, Int.reduceLE, Int.reduceLT, Int.reduceSub, Int.reduceAdd, Nat.reduceEqDiff, Nat.reduceAdd, Nat.reduceLeDiff, Nat.reduceLT, Nat.reduceMul, Nat.reduceSub, F]
     refine wko F ?_
     refine eeo hQ F ?_
     have e := enc3 ⟨hr0, hr1⟩ (by omega) (by omega)
     have le : (enc r).length = 3 := by simpa using congrArg List.length e
     have := end_ _ rfl
     simp only [bufR, List.map_append, e, le] at this
     have m0 : r / 4096 % 256 = r / 4096 := by omega
     have m1 : r / 64 % 256 % 64 = r / 64 % 64 := by omega
     have m2 : r % 256 % 64 = r % 64 := by omega
     simp only [bufR, List.map_append, e, le, m0, m1, m2, List.length_cons, List.length_nil, Nat.zero_add, Nat.reduceAdd]
     exact this
    ·(first | refine gqo F (fun hg => ?_) (fun hg => ?_) | refine pqo F (fun hg => ?_) (fun hg => ?_)) <;> (try exact hg.elim) <;> (try refine sqo F ?_) <;> (refine wko F ?_)
     ·refine cqo F (fun hc => ?_) (fun hc => ?_) <;> (try exact hc.elim) <;> (refine wko F ?_)
      ·refine appK_row (.inl rfl) (by exact zqo F) (by exact zqo F) bytes_sz zro_u8 (by omega) (elems_sl1 _ _) (by simp (disch := first | omega | (simp only [go_sem, ↓reduceIte, Nat.reduceEqDiff]; done) | fail) only [go_sem, ↓reduceIte, Int.reduceToNat, Int.reduceLE, Int.reduceLT, Int.reduceSub, Int.reduceAdd, Nat.reduceEqDiff, Nat.reduceAdd, Nat.reduceLeDiff, Nat.reduceLT, Nat.reduceMul, Nat.reduceSub, F, getRow_buf]; rfl) (by simp) ?_ ?_
       ·simp [maxLen]; omega
       simp (disch := first | omega | (simp only [go_sem, ↓reduceIte, Nat.reduceEqDiff]; done) | fail) only [go_sem, ↓reduceIte, Int.reduceToNat, Int.reduceLE, Int.reduceLT, Int.reduceSub, Int.reduceAdd, Nat.reduceEqDiff, Nat.reduceAdd, Nat.reduceLeDiff, Nat.reduceLT, Nat.reduceMul, Nat.reduceSub, F]
       refine wko F ?_
       refine eeo hQ F ?_
       have e := enc4 (r := r) (by omega) (by omega)
       have le : (enc r).length = 4 := by simpa using congrArg List.length e
       have := end_ _ rfl
       simp only [bufR, List.map_append, e, le] at this
       have m0 : r / 262144 % 256 = r / 262144 := by omega
       have m1 : r / 4096 % 256 % 64 = r / 4096 % 64 := by omega
       have m2 : r / 64 % 256 % 64 = r / 64 % 64 := by omega
       have m3 : r % 256 % 64 = r % 64 := by omega
       simp only [bufR, List.map_append, e, le, m0, m1, m2, m3, List.length_cons, List.length_nil, Nat.zero_add, Nat.reduceAdd]
       exact this
      ·exfalso; omega
     ·exfalso; omega
   ·exfalso; omega
theorem AppendRune_sat (r : Int) (hr : Rune r) (h j : Heap) (X : Blk) (v : Nat) (s : Bs) (hs : s.length ≤ 1073741824) :
  Sat (CT G) 160 [.hs (h.length + 1) v 0 s.length true, .int .i32 r] (h ++ X :: bufR v s :: j)
   (fun x h' => x = .hs (h.length + 1) (v + 1) 0 (s.length + (enc r).length) true ∧ h' = h ++ X :: bufR (v + 1) (s ++ enc r) :: j) := by
 have end_ : ∀ l, l = enc r → Fin (h ++ X :: bufR v s :: j) (h ++ X :: bufR (v + 1) (s ++ l) :: j) (fun x h' => x = .hs (h.length + 1) (v + 1) 0 (s.length + (enc r).length) true ∧ h' = h ++ X :: bufR (v + 1) (s ++ enc r) :: j) (.hs (h.length + 1) (v + 1) 0 (s.length + l.length) true) := fun l hl => by
  subst hl
  refine Fin.keep0 (by simp) (fun p k hk => ?_) (.hs _ _ _ _ _ (by simp)) ⟨rfl, rfl⟩
  rcases Nat.lt_or_ge p h.length with h1 | h1
  ·rw [List.getElem?_append_left h1] at hk ⊢; exact .inl hk
  ·rw [List.getElem?_append_right h1] at hk ⊢
   match p - h.length, hk with
   | 0, hk => exact .inl hk
   | 1, hk => simp at hk; subst hk; exact .inr (buf_clo _ _ _)
   | i + 2, hk => exact .inl hk
 have hr' := hr
 obtain ⟨hr0, hr1⟩ := hr
 have F := F2 @aconv_ru8 @aconv_ru32
 refine sb [.tmp 4] (fn := Tryz.f160) Tryz.func160 ?_
 intro Q hQ
 refine wko F ?_
 refine cqo F (fun hc => ?_) (fun hc => ?_) <;> (try exact hc.elim) <;> (refine wko F ?_)
 ·refine appK_row (.inl rfl) (by exact zqo F) (by exact zqo F) bytes_sz zro_u8 (by omega) (elems_sl1 _ _) (by simp (disch := first | omega | (simp only [go_sem, ↓reduceIte, Nat.reduceEqDiff]; done) | fail) only [go_sem, ↓reduceIte, Int.reduceToNat, Int.reduceLE, Int.reduceLT, Int.reduceSub, Int.reduceAdd, Nat.reduceEqDiff, Nat.reduceAdd, Nat.reduceLeDiff, Nat.reduceLT, Nat.reduceMul, Nat.reduceSub, F, getRow_buf]; rfl) (by simp) ?_ ?_
  ·simp [maxLen]; omega
  simp (disch := first | omega | (simp only [go_sem, ↓reduceIte, Nat.reduceEqDiff]; done) | fail) only [go_sem, ↓reduceIte, Int.reduceToNat, Int.reduceLE, Int.reduceLT, Int.reduceSub, Int.reduceAdd, Nat.reduceEqDiff, Nat.reduceAdd, Nat.reduceLeDiff, Nat.reduceLT, Nat.reduceMul, Nat.reduceSub, F]
  refine wko F ?_
  refine eeo hQ F ?_
  have e := enc1 (r := r) (by omega) (by omega)
  have le : (enc r).length = 1 := by simpa using congrArg List.length e
  have := end_ _ rfl
  simp only [bufR, List.map_append, e, le] at this
  have m0 : r % 256 = r := by omega
  simp only [bufR, List.map_append, e, le, m0, List.length_cons, List.length_nil, Nat.zero_add, Nat.reduceAdd]
  exact this
 ·refine kqo F (appendRuneNonASCII_sat G r hr' (by omega) h j X v s hs) ?_
  refine eeo hQ F ?_
  exact end_ _ rfl
theorem WriteRune_sat (a : AVal) (r : Int) (hr : Rune r) (h j : Heap) (v : Nat) (s : Bs) (ha : bldA a h.length) (hs : s.length ≤ 1073741824) :
  Sat (CT G) 133 [.hp h.length 0 0 0, .int .i32 r] (bldH h j a v s) (fun x h' => x = .tup [.int .i64 (enc r).length, .nil .nilIface] ∧ h' = bldH h j (.hp h.length 0 0 0) (v + 1) (s ++ enc r)) := by
 have end_ : Fin (bldH h j a v s) (bldH h j (.hp h.length 0 0 0) (v + 1) (s ++ enc r)) (fun x h' => x = .tup [.int .i64 (enc r).length, .nil .nilIface] ∧ h' = bldH h j (.hp h.length 0 0 0) (v + 1) (s ++ enc r)) (.tup [.int .i64 (enc r).length, .nil .nilIface]) :=
  Fin.keep0 ((bldH_len ..).trans (bldH_len ..).symm) (bldH_keep _ _ _ _ _ _ _) (.tup _ (by intro c hc; simp at hc; rcases hc with rfl | rfl; exact .int _ _; exact .nil _)) ⟨rfl, rfl⟩
 have F := @getRow_buf
 refine sb [.tmp 4, .tmp 5] (fn := Tryz.f133) Tryz.func133 ?_
 intro Q hQ
 refine wko F ?_
 refine (copyCheck_sat G a h j v s ha).mono ?_
 rintro x h' ⟨rfl, rfl⟩
 unfold bldH at *
 try refine sqo F ?_
 refine wko F ?_
 refine kqo F (AppendRune_sat G r hr h j _ v s hs) ?_
 refine (hQ _ _ ?_).1
 simp (disch := first | omega | (simp only [go_sem, ↓reduceIte, Nat.reduceEqDiff]; done) | fail) only [go_sem, ↓reduceIte, Int.reduceToNat, Int.reduceLE, Int.reduceLT, Int.reduceSub, Int.reduceAdd, Nat.reduceEqDiff, Nat.reduceAdd, Nat.reduceLeDiff, Nat.reduceLT, Nat.reduceMul, Nat.reduceSub, F]
 have hl := enc_len r
 simp only [bldR, bufR, List.length_append, List.map_append] at end_ ⊢
 rw [show IntKind.wrap .i64 (((s.length + (enc r).length : Nat) : Int) - (s.length : Nat)) = ((enc r).length : Nat) from by rw [wrap64_in (by omega) (by omega)]; omega]
 exact end_
end Go.Av
namespace Go.Av
open Go Go.Proofs Go.RowKit
set_option maxRecDepth 100000
def dec (s : Bs) (k : Nat) : Nat × Nat := Utf8.decode ⟨s.toArray⟩ k
theorem dec_N (s : Bs) (k : Nat) : dec s k = Lib.decodeN (s.length - k) (s.getD k 0).toNat (s.getD (k + 1) 0).toNat (s.getD (k + 2) 0).toNat (s.getD (k + 3) 0).toNat := by
 unfold dec; rw [Lib.decode_N]
theorem toNat_ofNat (n : Nat) (h : n < 256) : (UInt8.ofNat n).toNat = n := by simp; omega
def fix (r : Int) : Nat := if Utf8.valid r = true then r.toNat else Utf8.runeError
theorem fix_le (r : Int) : fix r ≤ 1114111 := by
 unfold fix Utf8.valid Utf8.runeError; split
 ·rename_i h; simp at h; omega
 ·omega
theorem fix_sur (r : Int) : fix r < 55296 ∨ 57344 ≤ fix r := by
 unfold fix Utf8.valid Utf8.runeError; split
 ·rename_i h; simp at h; omega
 ·omega
theorem enc_fix (r : Int) : enc r = let c := fix r
  if c < 0x80 then [UInt8.ofNat c]
  else if c < 0x800 then [UInt8.ofNat (0xC0 + c / 64), UInt8.ofNat (0x80 + c % 64)]
  else if c < 0x10000 then [UInt8.ofNat (0xE0 + c / 4096), UInt8.ofNat (0x80 + c / 64 % 64), UInt8.ofNat (0x80 + c % 64)]
  else [UInt8.ofNat (0xF0 + c / 262144), UInt8.ofNat (0x80 + c / 4096 % 64), UInt8.ofNat (0x80 + c / 64 % 64), UInt8.ofNat (0x80 + c % 64)] := by
 unfold enc Utf8.encode fix
 simp only []
 split
 ·split
  ·rfl
  ·split
   ·rfl
   ·split <;> rfl
 ·rfl
theorem dec_enc (r : Int) : dec (enc r) 0 = (fix r, (enc r).length) := by
 have hl := fix_le r
 have hs := fix_sur r
 rw [dec_N, enc_fix]
 generalize fix r = c at *
 simp only []
 by_cases h1 : c < 128
 ·rw [if_pos h1]
  simp only [List.getD_cons_zero, List.length_cons, List.length_nil]
  rw [toNat_ofNat _ (by omega)]
  simp [Lib.decodeN, h1]
 ·rw [if_neg h1]
  by_cases h2 : c < 2048
  ·rw [if_pos h2]
   simp only [List.getD_cons_zero, List.getD_cons_succ, List.length_cons, List.length_nil, Nat.zero_add]
   rw [toNat_ofNat _ (by omega), toNat_ofNat _ (by omega)]
   unfold Lib.decodeN
   rw [if_neg (by omega), if_pos (by omega), if_pos (by omega)]
   congr 1; omega
  ·rw [if_neg h2]
   by_cases h3 : c < 65536
   ·rw [if_pos h3]
    simp only [List.getD_cons_zero, List.getD_cons_succ, List.length_cons, List.length_nil, Nat.zero_add]
    rw [toNat_ofNat _ (by omega), toNat_ofNat _ (by omega), toNat_ofNat _ (by omega)]
    unfold Lib.decodeN
    rw [if_neg (by omega), if_neg (by omega), if_pos (by omega), if_pos (by omega)]
    congr 1; omega
   ·rw [if_neg h3]
    simp only [List.getD_cons_zero, List.getD_cons_succ, List.length_cons, List.length_nil, Nat.zero_add]
    rw [toNat_ofNat _ (by omega), toNat_ofNat _ (by omega), toNat_ofNat _ (by omega), toNat_ofNat _ (by omega)]
    unfold Lib.decodeN
    rw [if_neg (by omega), if_neg (by omega), if_neg (by omega), if_pos (by omega), if_pos (by omega)]
    congr 1; omega
theorem dec_pos (s : Bs) (k : Nat) (h : k < s.length) : 1 ≤ (dec s k).2 ∧ k + (dec s k).2 ≤ s.length := by
 rw [dec_N]
 refine ⟨Lib.decodeN_ge1 _ _ _ _ _, ?_⟩
 unfold Lib.decodeN
 repeat (first | split | (simp only []; omega))
theorem dec_ascii (s : Bs) (k : Nat) (b : UInt8) (h : s[k]? = some b) (ha : b.toNat < 128) : dec s k = (b.toNat, 1) := by
 rw [dec_N, List.getD_eq_getElem?_getD, h]
 exact Lib.decodeN_ascii _ _ _ _ _ ha
theorem dec_high (s : Bs) (k : Nat) (b : UInt8) (h : s[k]? = some b) (ha : 128 ≤ b.toNat) :
  128 ≤ (dec s k).1 ∧ ((dec s k).1 < 55296 ∨ 57343 < (dec s k).1 ∧ (dec s k).1 ≤ 1114111) ∧ ∀ i, i < (dec s k).2 → ∀ c, s[k + i]? = some c → 128 ≤ c.toNat := by
 have hb : s.getD k 0 = b := by rw [List.getD_eq_getElem?_getD, h]; rfl
 have at_ : ∀ i c, s[k + i]? = some c → s.getD (k + i) 0 = c := fun i c hc => by rw [List.getD_eq_getElem?_getD, hc]; rfl
 have l0 : ∀ i, (s.getD i 0).toNat < 256 := fun i => (s.getD i 0).toNat_lt
 have e1 := l0 (k + 1); have e2 := l0 (k + 2); have e3 := l0 (k + 3); have e0 := b.toNat_lt
 rw [dec_N, hb]
 generalize h1 : (s.getD (k + 1) 0).toNat = b1 at *
 generalize h2 : (s.getD (k + 2) 0).toNat = b2 at *
 generalize h3 : (s.getD (k + 3) 0).toNat = b3 at *
 have key : ∀ i c, s[k + i]? = some c → (i = 0 → c.toNat = b.toNat) ∧ (i = 1 → c.toNat = b1) ∧ (i = 2 → c.toNat = b2) ∧ (i = 3 → c.toNat = b3) := fun i c hc => by
  have := at_ i c hc
  refine ⟨fun e => ?_, fun e => ?_, fun e => ?_, fun e => ?_⟩ <;> subst e
  ·rw [← this]; simp only [Nat.add_zero]; rw [hb]
  ·rw [← h1, this]
  ·rw [← h2, this]
  ·rw [← h3, this]
 generalize s.length - k = n
 have fin : ∀ x m : Nat, (128 ≤ x ∧ (x < 55296 ∨ 57343 < x ∧ x ≤ 1114111)) → (∀ i, i < m → (i = 0 ∧ 128 ≤ b.toNat) ∨ (i = 1 ∧ 128 ≤ b1) ∨ (i = 2 ∧ 128 ≤ b2) ∨ (i = 3 ∧ 128 ≤ b3)) →
   128 ≤ (x, m).1 ∧ ((x, m).1 < 55296 ∨ 57343 < (x, m).1 ∧ (x, m).1 ≤ 1114111) ∧ ∀ i, i < (x, m).2 → ∀ c, s[k + i]? = some c → 128 ≤ c.toNat := fun x m hx hm =>
  ⟨hx.1, hx.2, fun i hi c hc => by
   obtain ⟨k0, k1, k2, k3⟩ := key i c hc
   rcases hm i hi with ⟨e, h⟩ | ⟨e, h⟩ | ⟨e, h⟩ | ⟨e, h⟩
   ·rw [k0 e]; exact h
   ·rw [k1 e]; exact h
   ·rw [k2 e]; exact h
   ·rw [k3 e]; exact h⟩
 unfold Lib.decodeN
 rw [if_neg (by omega)]
 split
 ·split
  ·exact fin _ _ (by omega) (fun i hi => by omega)
  ·exact fin _ _ (by omega) (fun i hi => by omega)
 ·split
  ·split
   ·exact fin _ _ (by omega) (fun i hi => by omega)
   ·exact fin _ _ (by omega) (fun i hi => by omega)
  ·split
   ·split
    ·exact fin _ _ (by omega) (fun i hi => by omega)
    ·exact fin _ _ (by omega) (fun i hi => by omega)
   ·exact fin _ _ (by omega) (fun i hi => by omega)
end Go.Av
namespace Go.Av
open Go Go.Proofs Go.RowKit
attribute [local irreducible] WP WPl WPix Sat
set_option maxRecDepth 100000
set_option maxHeartbeats 1000000
variable (G : Nat → Option (List AVal))
def digF (c base : Int) : Int :=
 let n := if 48 ≤ c ∧ c ≤ 57 then c - 48 else if 97 ≤ c ∧ c ≤ 102 then c - 87 else if 65 ≤ c ∧ c ≤ 70 then c - 55 else -1
 if base ≤ n then -1 else n
def numGo (base : Int) : Bs → Int → Int
 | [], n => n
 | b :: t, n => if digF b.toNat base < 0 then -1 else numGo base t (base * n + digF b.toNat base)
def numF (s : Bs) (base : Int) (most : Nat) : Int := if s = [] ∨ most < s.length then -1 else numGo base s 0
def rightF (n : Int) : Bool := decide (n = 9) || decide (n = 10) || decide (n = 13) || (decide (32 ≤ n) && !decide (enc n = [239, 191, 189]))
theorem digF_lt (c base : Int) (h : 0 ≤ base) : digF c base < base ∨ digF c base = -1 := by unfold digF; simp only []; split <;> omega
theorem digF_high (c base : Int) (h : 128 ≤ c) : digF c base = -1 := by
 unfold digF; simp only []
 rw [if_neg (c := 48 ≤ c ∧ c ≤ 57) (by omega), if_neg (c := 97 ≤ c ∧ c ≤ 102) (by omega), if_neg (c := 65 ≤ c ∧ c ≤ 70) (by omega)]
 split <;> rfl
theorem wrap32_in {x : Int} (h0 : -2147483648 ≤ x) (h1 : x ≤ 2147483647) : IntKind.i32.wrap x = x := by
 simp only [IntKind.wrap, IntKind.bits, IntKind.signed]; simp; omega
theorem aconv_ri (k : IntKind) (n : Int) (h0 : -9223372036854775808 ≤ n) (h1 : n ≤ 9223372036854775807) : aconv Tryz.prog 21 3 (.int k n) = some (.int .i64 n) := by simp only [aconv, go_sem, wrap64_in h0 h1]
theorem aconv_ir (k : IntKind) (n : Int) (h0 : -2147483648 ≤ n) (h1 : n ≤ 2147483647) : aconv Tryz.prog 3 21 (.int k n) = some (.int .i32 n) := by simp only [aconv, go_sem, wrap32_in h0 h1]
theorem digit_sat (c base : Int) (hc : 0 ≤ c) (hc1 : c ≤ 1114111) (hb : 0 ≤ base) (hb1 : base ≤ 16) (h : Heap) :
  Sat (CT G) 175 [.int .i32 c, .int .i64 base] h (fun r h' => r = .int .i64 (digF c base) ∧ h' = h) := by
 have F := F2 @aconv_ri @wrap32_in
 refine sb [.tmp 4] (fn := Tryz.f175) Tryz.func175 ?_
 intro Q hQ
 (repeat (first | refine w1 (fun K hK => ?_) | refine w2 ?_ | refine w3 ?_ | ((first | refine w4 ?_ | refine wD ?_ | refine w5 ?_ | refine w6 ?_ | refine w7 ?_); try refine sqo F ?_) | (refine w8 ?_; refine sqo F ?_; refine w9 ?_) | ((first | refine hK _ _ (w0 ?_) | (clear hK K; refine hK _ _ (w0 ?_)) | (clear hK K; clear hK K; refine hK _ _ (w0 ?_))); clear hK K)))
 rename_i K0 hK0
 have tail : ∀ (n : Int) (t' : Env), t' 5 = .int .i64 n → t' 1 = .int .i64 base → n = (if 48 ≤ c ∧ c ≤ 57 then c - 48 else if 97 ≤ c ∧ c ≤ 102 then c - 87 else if 65 ≤ c ∧ c ≤ 70 then c - 55 else -1) → K0 t' h := by
  intro n t' e5 e1 hn
  have hd : digF c base = if base ≤ n then -1 else n := by subst hn; rfl
  refine hK0 _ _ (Wkn.refl ?_)
  clear hK0 K0 hK K
  have F := F3 F e5 e1
  (repeat (first | refine w1 (fun K hK => ?_) | refine w2 ?_ | refine w3 ?_ | ((first | refine w4 ?_ | refine wD ?_ | refine w5 ?_ | refine w6 ?_ | refine w7 ?_); try refine sqo F ?_) | (refine w8 ?_; refine sqo F ?_; refine w9 ?_) | ((first | refine hK _ _ (w0 ?_) | (clear hK K; refine hK _ _ (w0 ?_)) | (clear hK K; clear hK K; refine hK _ _ (w0 ?_))); clear hK K)))
  refine cqo F (fun hc => ?_) (fun hc => ?_) <;> (try exact hc.elim) <;> ((repeat (first | refine w1 (fun K hK => ?_) | refine w2 ?_ | refine w3 ?_ | ((first | refine w4 ?_ | refine wD ?_ | refine w5 ?_ | refine w6 ?_ | refine w7 ?_); try refine sqo F ?_) | (refine w8 ?_; refine sqo F ?_; refine w9 ?_) | ((first | refine hK _ _ (w0 ?_) | (clear hK K; refine hK _ _ (w0 ?_)) | (clear hK K; clear hK K; refine hK _ _ (w0 ?_))); clear hK K))))
  ·refine eeo hQ F ?_
   refine fR (.int _ _) ?_
   rw [hd, if_pos hc]
  ·refine eeo hQ F ?_
   refine fR (.int _ _) ?_
   rw [hd, if_neg (by omega)]
 (first | refine gqo F (fun g1 => ?_) (fun g1 => ?_) | refine pqo F (fun g1 => ?_) (fun g1 => ?_)) <;> (try exact g1.elim) <;> (try refine sqo F ?_) <;> ((repeat (first | refine w1 (fun K hK => ?_) | refine w2 ?_ | refine w3 ?_ | ((first | refine w4 ?_ | refine wD ?_ | refine w5 ?_ | refine w6 ?_ | refine w7 ?_); try refine sqo F ?_) | (refine w8 ?_; refine sqo F ?_; refine w9 ?_) | ((first | refine hK _ _ (w0 ?_) | (clear hK K; refine hK _ _ (w0 ?_)) | (clear hK K; clear hK K; refine hK _ _ (w0 ?_))); clear hK K))))
 ·refine cqo F (fun hc => ?_) (fun hc => ?_) <;> (try exact hc.elim) <;> ((repeat (first | refine w1 (fun K hK => ?_) | refine w2 ?_ | refine w3 ?_ | ((first | refine w4 ?_ | refine wD ?_ | refine w5 ?_ | refine w6 ?_ | refine w7 ?_); try refine sqo F ?_) | (refine w8 ?_; refine sqo F ?_; refine w9 ?_) | ((first | refine hK _ _ (w0 ?_) | (clear hK K; refine hK _ _ (w0 ?_)) | (clear hK K; clear hK K; refine hK _ _ (w0 ?_))); clear hK K))))
  ·refine tail (c - 48) _ ?_ ?_ ?_
   ·exact zqo F
   ·exact zqo F
   ·rw [if_pos (by omega)]
  ·(first | refine gqo F (fun g2 => ?_) (fun g2 => ?_) | refine pqo F (fun g2 => ?_) (fun g2 => ?_)) <;> (try exact g2.elim) <;> (try refine sqo F ?_) <;> ((repeat (first | refine w1 (fun K hK => ?_) | refine w2 ?_ | refine w3 ?_ | ((first | refine w4 ?_ | refine wD ?_ | refine w5 ?_ | refine w6 ?_ | refine w7 ?_); try refine sqo F ?_) | (refine w8 ?_; refine sqo F ?_; refine w9 ?_) | ((first | refine hK _ _ (w0 ?_) | (clear hK K; refine hK _ _ (w0 ?_)) | (clear hK K; clear hK K; refine hK _ _ (w0 ?_))); clear hK K))))
   ·refine cqo F (fun hc => ?_) (fun hc => ?_) <;> (try exact hc.elim) <;> ((repeat (first | refine w1 (fun K hK => ?_) | refine w2 ?_ | refine w3 ?_ | ((first | refine w4 ?_ | refine wD ?_ | refine w5 ?_ | refine w6 ?_ | refine w7 ?_); try refine sqo F ?_) | (refine w8 ?_; refine sqo F ?_; refine w9 ?_) | ((first | refine hK _ _ (w0 ?_) | (clear hK K; refine hK _ _ (w0 ?_)) | (clear hK K; clear hK K; refine hK _ _ (w0 ?_))); clear hK K))))
    ·refine tail (c - 87) _ ?_ ?_ ?_
     ·simp (disch := first | omega | (simp only [go_sem, ↓reduceIte, Nat.reduceEqDiff]; done) | fail) only [go_sem, ↓reduceIte, Int.reduceToNat, Int.reduceLE, Int.reduceLT, Int.reduceSub, Int.reduceAdd, Nat.reduceEqDiff, Nat.reduceAdd, Nat.reduceLeDiff, Nat.reduceLT, Nat.reduceMul, Nat.reduceSub, F]
      congr 1; omega
     ·exact zqo F
     ·rw [if_neg (by omega), if_pos (by omega)]
    ·(first | refine gqo F (fun hg => ?_) (fun hg => ?_) | refine pqo F (fun hg => ?_) (fun hg => ?_)) <;> (try exact hg.elim) <;> (try refine sqo F ?_) <;> ((repeat (first | refine w1 (fun K hK => ?_) | refine w2 ?_ | refine w3 ?_ | ((first | refine w4 ?_ | refine wD ?_ | refine w5 ?_ | refine w6 ?_ | refine w7 ?_); try refine sqo F ?_) | (refine w8 ?_; refine sqo F ?_; refine w9 ?_) | ((first | refine hK _ _ (w0 ?_) | (clear hK K; refine hK _ _ (w0 ?_)) | (clear hK K; clear hK K; refine hK _ _ (w0 ?_))); clear hK K))))
     ·refine cqo F (fun hc => ?_) (fun hc => ?_) <;> (try exact hc.elim) <;> ((repeat (first | refine w1 (fun K hK => ?_) | refine w2 ?_ | refine w3 ?_ | ((first | refine w4 ?_ | refine wD ?_ | refine w5 ?_ | refine w6 ?_ | refine w7 ?_); try refine sqo F ?_) | (refine w8 ?_; refine sqo F ?_; refine w9 ?_) | ((first | refine hK _ _ (w0 ?_) | (clear hK K; refine hK _ _ (w0 ?_)) | (clear hK K; clear hK K; refine hK _ _ (w0 ?_))); clear hK K))))
      ·exfalso; omega
      ·refine tail (-1) _ ?_ ?_ ?_
       ·exact zqo F
       ·exact zqo F
       ·rw [if_neg (by omega), if_neg (by omega), if_neg (by omega)]
     ·exfalso; omega
   ·(first | refine gqo F (fun hg => ?_) (fun hg => ?_) | refine pqo F (fun hg => ?_) (fun hg => ?_)) <;> (try exact hg.elim) <;> (try refine sqo F ?_) <;> ((repeat (first | refine w1 (fun K hK => ?_) | refine w2 ?_ | refine w3 ?_ | ((first | refine w4 ?_ | refine wD ?_ | refine w5 ?_ | refine w6 ?_ | refine w7 ?_); try refine sqo F ?_) | (refine w8 ?_; refine sqo F ?_; refine w9 ?_) | ((first | refine hK _ _ (w0 ?_) | (clear hK K; refine hK _ _ (w0 ?_)) | (clear hK K; clear hK K; refine hK _ _ (w0 ?_))); clear hK K))))
    ·refine cqo F (fun hc => ?_) (fun hc => ?_) <;> (try exact hc.elim) <;> ((repeat (first | refine w1 (fun K hK => ?_) | refine w2 ?_ | refine w3 ?_ | ((first | refine w4 ?_ | refine wD ?_ | refine w5 ?_ | refine w6 ?_ | refine w7 ?_); try refine sqo F ?_) | (refine w8 ?_; refine sqo F ?_; refine w9 ?_) | ((first | refine hK _ _ (w0 ?_) | (clear hK K; refine hK _ _ (w0 ?_)) | (clear hK K; clear hK K; refine hK _ _ (w0 ?_))); clear hK K))))
     ·refine tail (c - 55) _ ?_ ?_ ?_
      ·simp (disch := first | omega | (simp only [go_sem, ↓reduceIte, Nat.reduceEqDiff]; done) | fail) only [go_sem, ↓reduceIte, Int.reduceToNat, Int.reduceLE, Int.reduceLT, Int.reduceSub, Int.reduceAdd, Nat.reduceEqDiff, Nat.reduceAdd, Nat.reduceLeDiff, Nat.reduceLT, Nat.reduceMul, Nat.reduceSub, F]
       congr 1; omega
      ·exact zqo F
      ·rw [if_neg (by omega), if_neg (by omega), if_pos (by omega)]
     ·refine tail (-1) _ ?_ ?_ ?_
      ·exact zqo F
      ·exact zqo F
      ·rw [if_neg (by omega), if_neg (by omega), if_neg (by omega)]
    ·refine tail (-1) _ ?_ ?_ ?_
     ·exact zqo F
     ·exact zqo F
     ·rw [if_neg (by omega), if_neg (by omega), if_neg (by omega)]
 ·(first | refine gqo F (fun hg => ?_) (fun hg => ?_) | refine pqo F (fun hg => ?_) (fun hg => ?_)) <;> (try exact hg.elim) <;> (try refine sqo F ?_) <;> ((repeat (first | refine w1 (fun K hK => ?_) | refine w2 ?_ | refine w3 ?_ | ((first | refine w4 ?_ | refine wD ?_ | refine w5 ?_ | refine w6 ?_ | refine w7 ?_); try refine sqo F ?_) | (refine w8 ?_; refine sqo F ?_; refine w9 ?_) | ((first | refine hK _ _ (w0 ?_) | (clear hK K; refine hK _ _ (w0 ?_)) | (clear hK K; clear hK K; refine hK _ _ (w0 ?_))); clear hK K))))
  ·exfalso; omega
  ·(first | refine gqo F (fun hg => ?_) (fun hg => ?_) | refine pqo F (fun hg => ?_) (fun hg => ?_)) <;> (try exact hg.elim) <;> (try refine sqo F ?_) <;> ((repeat (first | refine w1 (fun K hK => ?_) | refine w2 ?_ | refine w3 ?_ | ((first | refine w4 ?_ | refine wD ?_ | refine w5 ?_ | refine w6 ?_ | refine w7 ?_); try refine sqo F ?_) | (refine w8 ?_; refine sqo F ?_; refine w9 ?_) | ((first | refine hK _ _ (w0 ?_) | (clear hK K; refine hK _ _ (w0 ?_)) | (clear hK K; clear hK K; refine hK _ _ (w0 ?_))); clear hK K))))
   ·exfalso; omega
   ·refine tail (-1) _ ?_ ?_ ?_
    ·exact zqo F
    ·exact zqo F
    ·rw [if_neg (by omega), if_neg (by omega), if_neg (by omega)]
theorem getIter (h j : Heap) (s : Bs) (q : Nat) : (h ++ Blk.iter s q :: j)[h.length]? = some (.iter s q) := by simp
theorem number_sat (s : Bs) (base : Int) (most : Nat) (hb0 : 1 ≤ base) (hb1 : base ≤ 16) (hm : most ≤ 7) (hs : s.length ≤ 1073741824) (h : Heap) :
  Sat (CT G) 158 [.str s, .int .i64 base, .int .i64 most] h (fun r h' => r = .int .i64 (numF s base most) ∧ h' = h) := by
 refine sb [.tmp 6] (fn := Tryz.f158) Tryz.func158 ?_
 intro Q hQ
 refine wko trivial ?_
 (first | refine gqo trivial (fun hg => ?_) (fun hg => ?_) | refine pqo trivial (fun hg => ?_) (fun hg => ?_)) <;> (try exact hg.elim) <;> (try refine sqo trivial ?_) <;> (refine wko trivial ?_)
 ·refine eeo hQ trivial ?_
  refine fR (.int _ _) ?_
  unfold numF; rw [if_pos (.inl hg)]
 ·refine cqo trivial (fun hc => ?_) (fun hc => ?_) <;> (try exact hc.elim) <;> (refine wko trivial ?_)
  ·refine eeo hQ trivial ?_
   refine fR (.int _ _) ?_
   unfold numF; rw [if_pos (.inr hc)]
  ·have hn : numF s base most = numGo base s 0 := by unfold numF; rw [if_neg (by rintro (h1 | h1); exact hg h1; omega)]
   rw [hn] at hQ
   have h16 : (16 : Int) ^ s.length ≤ 268435456 := by
    have : (16 : Nat) ^ s.length ≤ 16 ^ 7 := Nat.pow_le_pow_right (by omega) (by omega)
    have : ((16 ^ s.length : Nat) : Int) ≤ ((16 ^ 7 : Nat) : Int) := by omega
    simpa using this
   refine lm (fun nL tL hL => ∃ (k : Nat) (n : Int), s.length - k = nL ∧ h ++ [.iter s k] = hL ∧ tL 7 = .int .i64 n ∧ k ≤ s.length ∧ numGo base s 0 = numGo base (s.drop k) n ∧ 0 ≤ n ∧ n < 16 ^ k) ((fun (k : Nat) (n : Int) => (s.length - k : Nat)) (0) (0)) ?_ ?_
   ·refine Wkn.refl ⟨0, 0, rfl, hpE, ?_, by omega, by simp, by omega, by simp⟩
    all_goals first | exact zqo trivial | rfl | omega | trivial | skip
   rintro _ s2 h' ⟨k, n, rfl, rfl, e7, hk, hv, h0, h1⟩ K2 hK2
   simp only [mix_cons, mix_nil, Nat.reduceEqDiff, ↓reduceIte] at e7
   have F := e7
   refine wko F ?_
   refine nextK_at (getIter _ _ _ _) (fun hlt => ?_) (fun hge => ?_)
   ·have hb := List.getElem?_eq_getElem hlt
    have hdrop := List.drop_eq_getElem_cons hlt
    have hbn0 : 0 ≤ base * n := Int.mul_nonneg (by omega) h0
    have hbn1 : base * n ≤ 16 * n := Int.mul_le_mul_of_nonneg_right hb1 h0
    have hk16 : (16 : Int) ^ (k + 1) ≤ 268435456 := by
     have : (16 : Nat) ^ (k + 1) ≤ 16 ^ 7 := Nat.pow_le_pow_right (by omega) (by omega)
     have : ((16 ^ (k + 1) : Nat) : Int) ≤ ((16 ^ 7 : Nat) : Int) := by omega
     simpa using this
    have hk17 : (16 : Int) ^ (k + 1) = 16 ^ k * 16 := Int.pow_succ _ _
    rw [hdrop, numGo] at hv
    by_cases ha : s[k].toNat < 128
    ·have hd : Utf8.decode ⟨s.toArray⟩ k = (s[k].toNat, 1) := dec_ascii s k _ hb ha
     have hlt' := digF_lt s[k].toNat base (by omega)
     rw [hd]
     try refine sqo F ?_
     refine wko F ?_
     refine kqo F (digit_sat G s[k].toNat base (by omega) (by omega) (by omega) hb1 _) ?_
     refine cqo F (fun hc => ?_) (fun hc => ?_) <;> (try exact hc.elim)
     ·refine wko F ?_
      refine eeo hQ F ?_
      refine fR (.int _ _) ?_
      rw [hv, if_pos hc]
     ·rw [if_neg (by omega)] at hv
      refine wko F ?_
      refine hK2 _ _ _ (Wkn.refl ⟨k + 1, base * n + digF s[k].toNat base, rfl, hpE, ?_, by omega, hv, by omega, by omega⟩) (by omega)
      all_goals first | exact zqo F | rfl | omega | trivial | skip
    ·have hd := dec_high s k _ hb (by omega)
     unfold dec at hd
     try refine sqo F ?_
     refine wko F ?_
     refine kqo F (digit_sat G (Utf8.decode ⟨s.toArray⟩ k).1 base (by omega) (by omega) (by omega) hb1 _) ?_
     refine cqo F (fun hc => ?_) (fun hc => ?_) <;> (try exact hc.elim)
     ·refine wko F ?_
      refine eeo hQ F ?_
      refine fR (.int _ _) ?_
      rw [hv, if_pos (by rw [digF_high _ _ (by omega)]; omega)]
     ·exfalso
      rw [digF_high _ _ (by omega)] at hc
      omega
   ·try refine sqo F ?_
    refine wko F ?_
    refine eeo hQ F ?_
    refine fR (.int _ _) ?_
    rw [hv, List.drop_eq_nil_of_le (by omega)]; rfl
theorem enc_bad {r : Int} (h : fix r = 65533) : enc r = [239, 191, 189] := by rw [enc_fix, h]; rfl
theorem utfRight_enc (r : Int) (h : Heap) : Sat (CT G) 147 [.str (enc r)] h (fun x h' => x = .bool true ∧ h' = h) := by
 have hl := enc_len r
 have hd : Utf8.decode ⟨(enc r).toArray⟩ 0 = (fix r, (enc r).length) := dec_enc r
 have hfl := fix_le r
 refine sb [.tmp 2] (fn := Tryz.f147) Tryz.func147 ?_
 intro Q hQ
 refine wko trivial ?_
 refine lm (fun nL tL hL => ∃ (k : Nat), (enc r).length - k = nL ∧ h ++ [.iter (enc r) k] = hL ∧ (k = 0 ∨ k = (enc r).length)) ((fun (k : Nat) => ((enc r).length - k : Nat)) (0)) ?_ ?_
 ·refine Wkn.refl ⟨0, rfl, hpE, .inl rfl⟩
  all_goals first | exact zqo trivial | rfl | omega | trivial | skip
 rintro _ s2 h' ⟨k, rfl, rfl, hk⟩ K2 hK2
 refine wko trivial ?_
 refine nextK_at (getIter _ _ _ _) (fun hlt => ?_) (fun hge => ?_)
 ·obtain rfl : k = 0 := by omega
  rw [hd]
  try refine sqo trivial ?_
  refine wko trivial ?_
  (first | refine gqo trivial (fun hg => ?_) (fun hg => ?_) | refine pqo trivial (fun hg => ?_) (fun hg => ?_)) <;> (try exact hg.elim) <;> (try refine sqo trivial ?_) <;> (refine wko trivial ?_)
  ·have hp : Lib.hasPrefix (enc r) [239, 191, 189] = true := by rw [enc_bad (by omega)]; rfl
   have F := F2 hp @Bool.not_true
   refine kqo F (HasPrefix_sat G (enc r) [239, 191, 189] _) ?_
   refine hK2 _ _ _ (Wkn.refl ⟨(enc r).length, rfl, hpE, .inr rfl⟩) (by omega)
   all_goals first | exact zqo F | rfl | omega | trivial | skip
  ·refine hK2 _ _ _ (Wkn.refl ⟨(enc r).length, rfl, hpE, .inr rfl⟩) (by omega)
   all_goals first | exact zqo trivial | rfl | omega | trivial | skip
 ·try refine sqo trivial ?_
  refine wko trivial ?_
  refine eeo hQ trivial ?_
  refine fR (.bool _) ?_
  rfl
theorem right_sat (n : Int) (h0 : 0 ≤ n) (h1 : n ≤ 2147483647) (h : Heap) : Sat (CT G) 159 [.int .i64 n] h (fun x h' => x = .bool (rightF n) ∧ h' = h) := by
 have ht : n = 9 ∨ n = 10 ∨ n = 13 ∨ (n ≠ 9 ∧ n ≠ 10 ∧ n ≠ 13) := by omega
 rcases ht with e | e | e | ⟨h9, h10, h13⟩
 ·have b9 : (n == 9) = true := by simpa using e
  have F := b9
  refine sb [.tmp 2] (fn := Tryz.f159) Tryz.func159 ?_
  intro Q hQ
  refine wko F ?_
  refine eeo hQ F ?_
  refine fR (.bool _) ?_
  simp [rightF, e]
 ·have b9 : (n == 9) = false := by simp; omega
  have b10 : (n == 10) = true := by simpa using e
  have F := F2 b9 b10
  refine sb [.tmp 2] (fn := Tryz.f159) Tryz.func159 ?_
  intro Q hQ
  refine wko F ?_
  refine eeo hQ F ?_
  refine fR (.bool _) ?_
  simp [rightF, e]
 ·have b9 : (n == 9) = false := by simp; omega
  have b10 : (n == 10) = false := by simp; omega
  have b13 : (n == 13) = true := by simpa using e
  have F := F3 b9 b10 b13
  refine sb [.tmp 2] (fn := Tryz.f159) Tryz.func159 ?_
  intro Q hQ
  refine wko F ?_
  refine eeo hQ F ?_
  refine fR (.bool _) ?_
  simp [rightF, e]
 ·have b9 : (n == 9) = false := by simpa using h9
  have b10 : (n == 10) = false := by simpa using h10
  have b13 : (n == 13) = false := by simpa using h13
  have F := F5 b9 b10 b13 @aconv_ir @aconv_rstr
  refine sb [.tmp 2] (fn := Tryz.f159) Tryz.func159 ?_
  intro Q hQ
  refine wko F ?_
  (first | refine gqo F (fun hg => ?_) (fun hg => ?_) | refine pqo F (fun hg => ?_) (fun hg => ?_)) <;> (try exact hg.elim) <;> (try refine sqo F ?_) <;> (refine wko F ?_)
  ·refine kqo F (utfRight_enc G n _) ?_
   refine eeo hQ F ?_
   refine fR (.bool _) ?_
   simp [rightF, h9, h10, h13, hg]
   rw [Bool.eq_iff_iff]; simp
  ·refine eeo hQ F ?_
   refine fR (.bool _) ?_
   simp [rightF, h9, h10, h13]; omega
def signF (name : Bs) : Int × Bool :=
 if name = [97, 109, 112] then (38, true) else if name = [108, 116] then (60, true) else if name = [103, 116] then (62, true)
 else if name = [113, 117, 111, 116] then (34, true) else if name = [97, 112, 111, 115] then (39, true)
 else
  let n := if Lib.hasPrefix name [35, 120] = true then numF (name.drop 2) 16 6 else if Lib.hasPrefix name [35] = true then numF (name.drop 1) 10 7 else -1
  if n < 0 then (0, false) else if rightF n = true then (n, true) else (65533, true)
theorem numGo_le (base : Int) (hb0 : 1 ≤ base) (hb : base ≤ 16) : ∀ (s : Bs) (n : Int), 0 ≤ n → -1 ≤ numGo base s n ∧ numGo base s n < (n + 1) * 16 ^ s.length := by
 intro s
 induction s with
 | nil => intro n hn; simp [numGo]; omega
 | cons b t ih =>
  intro n hn
  rw [numGo]
  have hp : (0 : Int) < 16 ^ t.length := Int.pow_pos (by omega)
  split
  ·refine ⟨by omega, ?_⟩
   have : 0 ≤ (n + 1) * 16 ^ (b :: t).length := Int.mul_nonneg (by omega) (Int.le_of_lt (Int.pow_pos (by omega)))
   omega
  ·rename_i hd
   have hlt := digF_lt b.toNat base (by omega)
   have hbn0 : 0 ≤ base * n := Int.mul_nonneg (by omega) hn
   have hbn1 : base * n ≤ 16 * n := Int.mul_le_mul_of_nonneg_right hb hn
   obtain ⟨h1, h2⟩ := ih (base * n + digF b.toNat base) (by omega)
   refine ⟨h1, Int.lt_of_lt_of_le h2 ?_⟩
   rw [List.length_cons, Int.pow_succ, Int.mul_comm (16 ^ t.length) 16, ← Int.mul_assoc]
   exact Int.mul_le_mul_of_nonneg_right (by omega) (Int.le_of_lt hp)
theorem numF_le (s : Bs) (base : Int) (most : Nat) (hb0 : 1 ≤ base) (hb1 : base ≤ 16) (hm : most ≤ 7) : -1 ≤ numF s base most ∧ numF s base most ≤ 268435455 := by
 unfold numF
 split
 ·omega
 ·rename_i h
  have := numGo_le base hb0 hb1 s 0 (by omega)
  have h16 : (16 : Int) ^ s.length ≤ 268435456 := by
   have : (16 : Nat) ^ s.length ≤ 16 ^ 7 := Nat.pow_le_pow_right (by omega) (by omega)
   have : ((16 ^ s.length : Nat) : Int) ≤ ((16 ^ 7 : Nat) : Int) := by omega
   simpa using this
  omega
theorem clo_ib (n : Nat) (k : IntKind) (a : Int) (b : Bool) : Clo n (.tup [.int k a, .bool b]) := .tup _ (by intro c hc; simp at hc; rcases hc with rfl | rfl; exact .int _ _; exact .bool _)
theorem Sign_sat (name : Bs) (hs : name.length ≤ 1048576) (h : Heap) : Sat (CT G) 132 [.str name] h (fun x h' => x = .tup [.int .i32 (signF name).1, .bool (signF name).2] ∧ h' = h) := by
 have F := @aconv_ir
 refine sb [.tmp 2, .tmp 3] (fn := Tryz.f132) Tryz.func132 ?_
 intro Q hQ
 (repeat (first | refine w1 (fun K hK => ?_) | refine w2 ?_ | refine w3 ?_ | ((first | refine w4 ?_ | refine wD ?_ | refine w5 ?_ | refine w6 ?_ | refine w7 ?_); try refine sqo F ?_) | (refine w8 ?_; refine sqo F ?_; refine w9 ?_) | ((first | refine hK _ _ (w0 ?_) | (clear hK K; refine hK _ _ (w0 ?_)) | (clear hK K; clear hK K; refine hK _ _ (w0 ?_))); clear hK K)))
 refine cqo F (fun c1 => ?_) (fun c1 => ?_) <;> (try exact c1.elim) <;> ((repeat (first | refine w1 (fun K hK => ?_) | refine w2 ?_ | refine w3 ?_ | ((first | refine w4 ?_ | refine wD ?_ | refine w5 ?_ | refine w6 ?_ | refine w7 ?_); try refine sqo F ?_) | (refine w8 ?_; refine sqo F ?_; refine w9 ?_) | ((first | refine hK _ _ (w0 ?_) | (clear hK K; refine hK _ _ (w0 ?_)) | (clear hK K; clear hK K; refine hK _ _ (w0 ?_))); clear hK K))))
 ·refine eeo hQ F ?_
  refine fR (clo_ib _ _ _ _) ?_
  simp [signF, c1]
 refine cqo F (fun c2 => ?_) (fun c2 => ?_) <;> (try exact c2.elim) <;> ((repeat (first | refine w1 (fun K hK => ?_) | refine w2 ?_ | refine w3 ?_ | ((first | refine w4 ?_ | refine wD ?_ | refine w5 ?_ | refine w6 ?_ | refine w7 ?_); try refine sqo F ?_) | (refine w8 ?_; refine sqo F ?_; refine w9 ?_) | ((first | refine hK _ _ (w0 ?_) | (clear hK K; refine hK _ _ (w0 ?_)) | (clear hK K; clear hK K; refine hK _ _ (w0 ?_))); clear hK K))))
 ·refine eeo hQ F ?_
  refine fR (clo_ib _ _ _ _) ?_
  simp [signF, c2]
 refine cqo F (fun c3 => ?_) (fun c3 => ?_) <;> (try exact c3.elim) <;> ((repeat (first | refine w1 (fun K hK => ?_) | refine w2 ?_ | refine w3 ?_ | ((first | refine w4 ?_ | refine wD ?_ | refine w5 ?_ | refine w6 ?_ | refine w7 ?_); try refine sqo F ?_) | (refine w8 ?_; refine sqo F ?_; refine w9 ?_) | ((first | refine hK _ _ (w0 ?_) | (clear hK K; refine hK _ _ (w0 ?_)) | (clear hK K; clear hK K; refine hK _ _ (w0 ?_))); clear hK K))))
 ·refine eeo hQ F ?_
  refine fR (clo_ib _ _ _ _) ?_
  simp [signF, c3]
 refine cqo F (fun c4 => ?_) (fun c4 => ?_) <;> (try exact c4.elim) <;> ((repeat (first | refine w1 (fun K hK => ?_) | refine w2 ?_ | refine w3 ?_ | ((first | refine w4 ?_ | refine wD ?_ | refine w5 ?_ | refine w6 ?_ | refine w7 ?_); try refine sqo F ?_) | (refine w8 ?_; refine sqo F ?_; refine w9 ?_) | ((first | refine hK _ _ (w0 ?_) | (clear hK K; refine hK _ _ (w0 ?_)) | (clear hK K; clear hK K; refine hK _ _ (w0 ?_))); clear hK K))))
 ·refine eeo hQ F ?_
  refine fR (clo_ib _ _ _ _) ?_
  simp [signF, c4]
 refine cqo F (fun c5 => ?_) (fun c5 => ?_) <;> (try exact c5.elim) <;> ((repeat (first | refine w1 (fun K hK => ?_) | refine w2 ?_ | refine w3 ?_ | ((first | refine w4 ?_ | refine wD ?_ | refine w5 ?_ | refine w6 ?_ | refine w7 ?_); try refine sqo F ?_) | (refine w8 ?_; refine sqo F ?_; refine w9 ?_) | ((first | refine hK _ _ (w0 ?_) | (clear hK K; refine hK _ _ (w0 ?_)) | (clear hK K; clear hK K; refine hK _ _ (w0 ?_))); clear hK K))))
 ·refine eeo hQ F ?_
  refine fR (clo_ib _ _ _ _) ?_
  simp [signF, c5]
 refine (CutPrefix_sat G name [35, 120] _).mono ?_
 rintro r h' ⟨rfl, rfl⟩
 try refine sqo F ?_
 (repeat (first | refine w1 (fun K hK => ?_) | refine w2 ?_ | refine w3 ?_ | ((first | refine w4 ?_ | refine wD ?_ | refine w5 ?_ | refine w6 ?_ | refine w7 ?_); try refine sqo F ?_) | (refine w8 ?_; refine sqo F ?_; refine w9 ?_) | ((first | refine hK _ _ (w0 ?_) | (clear hK K; refine hK _ _ (w0 ?_)) | (clear hK K; clear hK K; refine hK _ _ (w0 ?_))); clear hK K)))
 have tail : ∀ (t' : Env) (n : Int), t' 4 = .int .i64 n → n = (if Lib.hasPrefix name [35, 120] = true then numF (name.drop 2) 16 6 else if Lib.hasPrefix name [35] = true then numF (name.drop 1) 10 7 else -1) → K t' h' := by
  intro t' n e4 hn
  have hS : signF name = if n < 0 then (0, false) else if rightF n = true then (n, true) else (65533, true) := by
   unfold signF
   rw [if_neg c1, if_neg c2, if_neg c3, if_neg c4, if_neg c5, ← hn]
  have hb : -1 ≤ n ∧ n ≤ 268435455 := by
   rw [hn]
   split
   ·exact numF_le _ _ _ (by omega) (by omega) (by omega)
   ·split
    ·exact numF_le _ _ _ (by omega) (by omega) (by omega)
    ·omega
  refine hK _ _ (Wkn.refl ?_)
  clear hK K
  have F := F2 F e4
  (repeat (first | refine w1 (fun K hK => ?_) | refine w2 ?_ | refine w3 ?_ | ((first | refine w4 ?_ | refine wD ?_ | refine w5 ?_ | refine w6 ?_ | refine w7 ?_); try refine sqo F ?_) | (refine w8 ?_; refine sqo F ?_; refine w9 ?_) | ((first | refine hK _ _ (w0 ?_) | (clear hK K; refine hK _ _ (w0 ?_)) | (clear hK K; clear hK K; refine hK _ _ (w0 ?_))); clear hK K)))
  refine cqo F (fun hc => ?_) (fun hc => ?_) <;> (try exact hc.elim) <;> ((repeat (first | refine w1 (fun K hK => ?_) | refine w2 ?_ | refine w3 ?_ | ((first | refine w4 ?_ | refine wD ?_ | refine w5 ?_ | refine w6 ?_ | refine w7 ?_); try refine sqo F ?_) | (refine w8 ?_; refine sqo F ?_; refine w9 ?_) | ((first | refine hK _ _ (w0 ?_) | (clear hK K; refine hK _ _ (w0 ?_)) | (clear hK K; clear hK K; refine hK _ _ (w0 ?_))); clear hK K))))
  ·refine eeo hQ F ?_
   refine fR (clo_ib _ _ _ _) ?_
   rw [hS, if_pos hc]
  ·rw [if_neg (by omega)] at hS
   refine (right_sat G n (by omega) (by omega) _).mono ?_
   rintro r h' ⟨rfl, rfl⟩
   try refine sqo F ?_
   (repeat (first | refine w1 (fun K hK => ?_) | refine w2 ?_ | refine w3 ?_ | ((first | refine w4 ?_ | refine wD ?_ | refine w5 ?_ | refine w6 ?_ | refine w7 ?_); try refine sqo F ?_) | (refine w8 ?_; refine sqo F ?_; refine w9 ?_) | ((first | refine hK _ _ (w0 ?_) | (clear hK K; refine hK _ _ (w0 ?_)) | (clear hK K; clear hK K; refine hK _ _ (w0 ?_))); clear hK K)))
   refine cqo F (fun hr => ?_) (fun hr => ?_) <;> (try exact hr.elim) <;> ((repeat (first | refine w1 (fun K hK => ?_) | refine w2 ?_ | refine w3 ?_ | ((first | refine w4 ?_ | refine wD ?_ | refine w5 ?_ | refine w6 ?_ | refine w7 ?_); try refine sqo F ?_) | (refine w8 ?_; refine sqo F ?_; refine w9 ?_) | ((first | refine hK _ _ (w0 ?_) | (clear hK K; refine hK _ _ (w0 ?_)) | (clear hK K; clear hK K; refine hK _ _ (w0 ?_))); clear hK K))))
   ·refine eeo hQ F ?_
    refine fR (clo_ib _ _ _ _) ?_
    rw [hS, if_neg (by simpa using hr)]
   ·refine eeo hQ F ?_
    refine fR (clo_ib _ _ _ _) ?_
    rw [hS, if_pos (by simpa using hr)]
 have hd2 : (name.drop 2).length ≤ 1073741824 := by simp; omega
 have hd1 : (name.drop 1).length ≤ 1073741824 := by simp; omega
 refine cqo F (fun hx => ?_) (fun hx => ?_) <;> (try exact hx.elim) <;> ((repeat (first | refine w1 (fun K hK => ?_) | refine w2 ?_ | refine w3 ?_ | ((first | refine w4 ?_ | refine wD ?_ | refine w5 ?_ | refine w6 ?_ | refine w7 ?_); try refine sqo F ?_) | (refine w8 ?_; refine sqo F ?_; refine w9 ?_) | ((first | refine hK _ _ (w0 ?_) | (clear hK K; refine hK _ _ (w0 ?_)) | (clear hK K; clear hK K; refine hK _ _ (w0 ?_))); clear hK K))))
 ·have e : Lib.trimPrefix name [35, 120] = name.drop 2 := by unfold Lib.trimPrefix; rw [if_pos hx]; rfl
  rw [e]
  refine (number_sat G (name.drop 2) 16 6 (by omega) (by omega) (by omega) hd2 _).mono ?_
  rintro r h' ⟨rfl, rfl⟩
  try refine sqo F ?_
  (repeat (first | refine w1 (fun K hK => ?_) | refine w2 ?_ | refine w3 ?_ | ((first | refine w4 ?_ | refine wD ?_ | refine w5 ?_ | refine w6 ?_ | refine w7 ?_); try refine sqo F ?_) | (refine w8 ?_; refine sqo F ?_; refine w9 ?_) | ((first | refine hK _ _ (w0 ?_) | (clear hK K; refine hK _ _ (w0 ?_)) | (clear hK K; clear hK K; refine hK _ _ (w0 ?_))); clear hK K)))
  refine tail _ (numF (name.drop 2) 16 6) ?_ (by rw [if_pos hx])
  simp (disch := first | omega | (simp only [go_sem, ↓reduceIte, Nat.reduceEqDiff]; done) | fail) only [go_sem, ↓reduceIte, Int.reduceToNat, Int.reduceLE, Int.reduceLT, Int.reduceSub, Int.reduceAdd, Nat.reduceEqDiff, Nat.reduceAdd, Nat.reduceLeDiff, Nat.reduceLT, Nat.reduceMul, Nat.reduceSub, F]
 ·refine (CutPrefix_sat G name [35] _).mono ?_
  rintro r h' ⟨rfl, rfl⟩
  try refine sqo F ?_
  (repeat (first | refine w1 (fun K hK => ?_) | refine w2 ?_ | refine w3 ?_ | ((first | refine w4 ?_ | refine wD ?_ | refine w5 ?_ | refine w6 ?_ | refine w7 ?_); try refine sqo F ?_) | (refine w8 ?_; refine sqo F ?_; refine w9 ?_) | ((first | refine hK _ _ (w0 ?_) | (clear hK K; refine hK _ _ (w0 ?_)) | (clear hK K; clear hK K; refine hK _ _ (w0 ?_))); clear hK K)))
  refine cqo F (fun hy => ?_) (fun hy => ?_) <;> (try exact hy.elim) <;> ((repeat (first | refine w1 (fun K hK => ?_) | refine w2 ?_ | refine w3 ?_ | ((first | refine w4 ?_ | refine wD ?_ | refine w5 ?_ | refine w6 ?_ | refine w7 ?_); try refine sqo F ?_) | (refine w8 ?_; refine sqo F ?_; refine w9 ?_) | ((first | refine hK _ _ (w0 ?_) | (clear hK K; refine hK _ _ (w0 ?_)) | (clear hK K; clear hK K; refine hK _ _ (w0 ?_))); clear hK K))))
  ·have e : Lib.trimPrefix name [35] = name.drop 1 := by unfold Lib.trimPrefix; rw [if_pos hy]; rfl
   rw [e]
   refine (number_sat G (name.drop 1) 10 7 (by omega) (by omega) (by omega) hd1 _).mono ?_
   rintro r h' ⟨rfl, rfl⟩
   try refine sqo F ?_
   (repeat (first | refine w1 (fun K hK => ?_) | refine w2 ?_ | refine w3 ?_ | ((first | refine w4 ?_ | refine wD ?_ | refine w5 ?_ | refine w6 ?_ | refine w7 ?_); try refine sqo F ?_) | (refine w8 ?_; refine sqo F ?_; refine w9 ?_) | ((first | refine hK _ _ (w0 ?_) | (clear hK K; refine hK _ _ (w0 ?_)) | (clear hK K; clear hK K; refine hK _ _ (w0 ?_))); clear hK K)))
   refine tail _ (numF (name.drop 1) 10 7) ?_ (by rw [if_neg (by simpa using hx), if_pos hy])
   simp (disch := first | omega | (simp only [go_sem, ↓reduceIte, Nat.reduceEqDiff]; done) | fail) only [go_sem, ↓reduceIte, Int.reduceToNat, Int.reduceLE, Int.reduceLT, Int.reduceSub, Int.reduceAdd, Nat.reduceEqDiff, Nat.reduceAdd, Nat.reduceLeDiff, Nat.reduceLT, Nat.reduceMul, Nat.reduceSub, F]
  ·refine tail _ (-1) ?_ (by rw [if_neg (by simpa using hx), if_neg (by simpa using hy)])
   simp (disch := first | omega | (simp only [go_sem, ↓reduceIte, Nat.reduceEqDiff]; done) | fail) only [go_sem, ↓reduceIte, Int.reduceToNat, Int.reduceLE, Int.reduceLT, Int.reduceSub, Int.reduceAdd, Nat.reduceEqDiff, Nat.reduceAdd, Nat.reduceLeDiff, Nat.reduceLT, Nat.reduceMul, Nat.reduceSub, F]
end Go.Av
namespace Go.Av
open Go Go.Proofs Go.RowKit
attribute [local irreducible] WP WPl WPix Sat
set_option maxRecDepth 100000
set_option maxHeartbeats 1000000
variable (G : Nat → Option (List AVal))
theorem cut_yes (s p : Bs) (h : (Lib.cut s p).2.2 = true) : s = (Lib.cut s p).1 ++ p ++ (Lib.cut s p).2.1 ∧ (Lib.cut s p).1.length = (Lib.index s p).toNat := by
 unfold Lib.cut at *
 by_cases h0 : 0 ≤ Lib.index s p
 ·rw [if_pos h0]
  have hr := Lib.index_room s p h0
  rcases Lib.index_spec s p with ⟨e, _⟩ | ⟨i, e, hi, ho, _⟩
  ·omega
  ·rw [e]
   simp only [Int.toNat_natCast]
   have hp : (s.drop i).take p.length = p := by
    have := Lib.occAt_iff_take s p i (by omega)
    rw [ho] at this
    exact eq_of_beq this.symm
   refine ⟨?_, by simp; omega⟩
   conv => lhs; rw [← List.take_append_drop i s]
   rw [List.append_assoc]
   congr 1
   conv => lhs; rw [← List.take_append_drop p.length (s.drop i)]
   rw [hp, List.drop_drop]
 ·rw [if_neg h0] at h; cases h
theorem cut_no (s p : Bs) (h : (Lib.cut s p).2.2 = false) : Lib.cut s p = (s, [], false) := by
 unfold Lib.cut at *
 by_cases h0 : 0 ≤ Lib.index s p
 ·rw [if_pos h0] at h; cases h
 ·rw [if_neg h0]
theorem cut_len (s p : Bs) (h : (Lib.cut s p).2.2 = true) : (Lib.cut s p).1.length + p.length + (Lib.cut s p).2.1.length = s.length := by
 have := congrArg List.length (cut_yes s p h).1
 simp only [List.length_append] at this; omega
def readP : Nat → Bs → Bs
 | 0, _ => []
 | f + 1, s =>
  if (Lib.cut s [38]).2.2 = true then
   if ((Lib.cut (Lib.cut s [38]).2.1 [59]).2.2 && decide ((Lib.cut (Lib.cut s [38]).2.1 [59]).1.length ≤ 10) && (signF (Lib.cut (Lib.cut s [38]).2.1 [59]).1).2) = true
   then (Lib.cut s [38]).1 ++ (enc (signF (Lib.cut (Lib.cut s [38]).2.1 [59]).1).1 ++ readP f (Lib.cut (Lib.cut s [38]).2.1 [59]).2.1)
   else (Lib.cut s [38]).1 ++ (38 :: readP f (Lib.cut s [38]).2.1)
  else (Lib.cut s [38]).1
theorem rightF_rune (n : Int) (h : rightF n = true) : Rune n := by
 unfold rightF at h
 simp only [Bool.or_eq_true, decide_eq_true_eq, Bool.and_eq_true, Bool.not_eq_true', decide_eq_false_iff_not] at h
 rcases h with ((h | h) | h) | ⟨h0, h1⟩
 ·exact ⟨by omega, by omega⟩
 ·exact ⟨by omega, by omega⟩
 ·exact ⟨by omega, by omega⟩
 ·refine ⟨by omega, Classical.byContradiction fun hn => h1 (enc_bad ?_)⟩
  unfold fix Utf8.valid Utf8.runeError
  rw [if_neg]
  simp; omega
theorem sign_rune (n : Bs) (h : (signF n).2 = true) : Rune (signF n).1 := by
 have hc : ∀ k : Int, 0 ≤ k → k < 55296 → Rune k := fun k a b => ⟨a, .inl b⟩
 unfold signF at *
 by_cases c1 : n = [97, 109, 112]
 ·rw [if_pos c1]; exact hc _ (by decide) (by decide)
 rw [if_neg c1] at h ⊢
 by_cases c2 : n = [108, 116]
 ·rw [if_pos c2]; exact hc _ (by decide) (by decide)
 rw [if_neg c2] at h ⊢
 by_cases c3 : n = [103, 116]
 ·rw [if_pos c3]; exact hc _ (by decide) (by decide)
 rw [if_neg c3] at h ⊢
 by_cases c4 : n = [113, 117, 111, 116]
 ·rw [if_pos c4]; exact hc _ (by decide) (by decide)
 rw [if_neg c4] at h ⊢
 by_cases c5 : n = [97, 112, 111, 115]
 ·rw [if_pos c5]; exact hc _ (by decide) (by decide)
 rw [if_neg c5] at h ⊢
 have key : ∀ m : Int, (if m < 0 then ((0 : Int), false) else if rightF m = true then (m, true) else (65533, true)).2 = true → Rune (if m < 0 then ((0 : Int), false) else if rightF m = true then (m, true) else (65533, true)).1 := by
  intro m h
  by_cases hm : m < 0
  ·rw [if_pos hm] at h; cases h
  ·rw [if_neg hm]
   by_cases hr : rightF m = true
   ·rw [if_pos hr]; exact rightF_rune _ hr
   ·rw [if_neg hr]; exact ⟨by decide, .inr ⟨by decide, by decide⟩⟩
 exact key _ h
variable {G}
theorem Read_sat (hG : GOk G) (s0 : Bs) (hs : s0.length ≤ 1048576) (h : Heap) : Sat (CT G) 104 [.str s0] h (fun x h' => x = .str (readP (s0.length + 1) s0) ∧ h' = h) := by
 refine sb [.tmp 2] (fn := Tryz.f104) Tryz.func104 ?_
 intro Q hQ
 refine wko trivial ?_
 refine lm (fun nL tL hL => ∃ (a : AVal) (v f : Nat) (s out : Bs), f = nL ∧ bldH h [] a v out = hL ∧ tL 0 = .str s ∧ bldA a h.length ∧ s.length < f ∧ out ++ readP f s = readP (s0.length + 1) s0 ∧ out.length + 5 * s.length ≤ 5 * s0.length) ((fun (a : AVal) (v f : Nat) (s out : Bs) => (f : Nat)) ((.nil (.pointer none))) (0) ((s0.length + 1)) (s0) ([])) ?_ ?_
 ·refine ⟨_, _, Weak.virtCell (p := h.length) (v := 0) 5 1 (by omega) (by simp (disch := first | omega | (simp only [go_sem, ↓reduceIte, Nat.reduceEqDiff]; done) | fail) only [go_sem, ↓reduceIte, Int.reduceToNat, Int.reduceLE, Int.reduceLT, Int.reduceSub, Int.reduceAdd, Nat.reduceEqDiff, Nat.reduceAdd, Nat.reduceLeDiff, Nat.reduceLT, Nat.reduceMul, Nat.reduceSub]; rfl) 1 rfl, ⟨(.nil (.pointer none)), 0, (s0.length + 1), s0, [], rfl, hpE, ?_, .inl rfl, by omega, rfl, by simp⟩⟩
  all_goals first | exact zqo trivial | rfl | omega | trivial | skip
 rintro _ s2 h' ⟨a, v, f, s, out, rfl, rfl, e0, ha, hf, hv, hl⟩ K2 hK2
 simp only [mix_cons, mix_nil, Nat.reduceEqDiff, ↓reduceIte] at e0
 have F := e0
 refine wko F ?_
 refine kqo F (Cut_sat G hG s [38] (by omega) _) ?_
 have hcl : (Lib.cut s [38]).1.length ≤ s.length := by
  cases hq : (Lib.cut s [38]).2.2 with
  | true => have := cut_len s [38] hq; omega
  | false => rw [cut_no s [38] hq]; exact Nat.le_refl _
 refine kqo F (WriteString_sat G a h [] v out (Lib.cut s [38]).1 ha (by omega)) ?_
 refine cqo F (fun hc => ?_) (fun hc => ?_) <;> (try exact hc.elim) <;> (refine wko F ?_)
 ·obtain ⟨g, rfl⟩ : ∃ g, f = g + 1 := ⟨f - 1, by omega⟩
  rw [readP, if_neg (by simp [hc])] at hv
  refine (String_sat G (.hp h.length 0 0 0) h [] (v + 1) (out ++ (Lib.cut s [38]).1)).mono ?_
  rintro r h' ⟨rfl, b2, rfl⟩
  try refine sqo F ?_
  refine wko F ?_
  refine eeo hQ F ?_
  exact Fin.plainE (j := [bldR (.hp h.length 0 0 0) (h.length + 1) (v + 1) (out ++ (Lib.cut s [38]).1), b2]) (by simp) (.str _) ⟨congrArg AVal.str hv, rfl⟩
 ·have hc' : (Lib.cut s [38]).2.2 = true := by simpa using hc
  have hl2 := cut_len s [38] hc'
  have hl4 : (Lib.cut (Lib.cut s [38]).2.1 [59]).1.length ≤ (Lib.cut s [38]).2.1.length := by
   cases hq : (Lib.cut (Lib.cut s [38]).2.1 [59]).2.2 with
   | true => have := cut_len _ [59] hq; omega
   | false => rw [cut_no _ [59] hq]; exact Nat.le_refl _
  obtain ⟨g, rfl⟩ : ∃ g, f = g + 1 := ⟨f - 1, by omega⟩
  rw [readP, if_pos hc'] at hv
  simp only [List.length_cons, List.length_nil] at hl2
  refine kqo F (Cut_sat G hG (Lib.cut s [38]).2.1 [59] (by omega) _) ?_
  refine kqo F (Sign_sat G (Lib.cut (Lib.cut s [38]).2.1 [59]).1 (by omega) _) ?_
  (first | refine gqo F (fun g1 => ?_) (fun g1 => ?_) | refine pqo F (fun g1 => ?_) (fun g1 => ?_)) <;> (try exact g1.elim) <;> (try refine sqo F ?_) <;> (refine wko F ?_)
  ·(first | refine gqo F (fun g2 => ?_) (fun g2 => ?_) | refine pqo F (fun g2 => ?_) (fun g2 => ?_)) <;> (try exact g2.elim) <;> (try refine sqo F ?_) <;> (refine wko F ?_)
   ·refine cqo F (fun g3 => ?_) (fun g3 => ?_) <;> (try exact g3.elim) <;> (refine wko F ?_)
    ·rw [if_pos (by simp [g1, g3]; omega)] at hv
     have hl3 := cut_len _ [59] g1
     simp only [List.length_cons, List.length_nil] at hl3
     have he := enc_len (signF (Lib.cut (Lib.cut s [38]).2.1 [59]).1).1
     refine kqo F (WriteRune_sat G (.hp h.length 0 0 0) (signF (Lib.cut (Lib.cut s [38]).2.1 [59]).1).1 (sign_rune _ g3) h [] (v + 1) (out ++ (Lib.cut s [38]).1) (.inr rfl) (by simp only [List.length_append]; omega)) ?_
     refine hK2 _ _ _ (Wkn.refl ⟨(.hp h.length 0 0 0), v + 1 + 1, g, (Lib.cut (Lib.cut s [38]).2.1 [59]).2.1, out ++ (Lib.cut s [38]).1 ++ enc (signF (Lib.cut (Lib.cut s [38]).2.1 [59]).1).1, rfl, hpE, ?_, .inr rfl, by omega, by rw [← hv]; simp, by simp only [List.length_append]; omega⟩) (by omega)
     all_goals first | exact zqo F | rfl | omega | trivial | skip
    ·rw [if_neg (by simp [g3])] at hv
     refine kqo F (WriteByte_sat G (.hp h.length 0 0 0) h [] (v + 1) (out ++ (Lib.cut s [38]).1) 38 (.inr rfl) (by simp only [List.length_append]; omega)) ?_
     refine hK2 _ _ _ (Wkn.refl ⟨(.hp h.length 0 0 0), v + 1 + 1, g, (Lib.cut s [38]).2.1, out ++ (Lib.cut s [38]).1 ++ [38], rfl, hpE, ?_, .inr rfl, by omega, by rw [← hv]; simp, by simp only [List.length_append, List.length_cons, List.length_nil]; omega⟩) (by omega)
     all_goals first | exact zqo F | rfl | omega | trivial | skip
   ·rw [if_neg (by simp [show ¬ (Lib.cut (Lib.cut s [38]).2.1 [59]).1.length ≤ 10 by omega])] at hv
    refine kqo F (WriteByte_sat G (.hp h.length 0 0 0) h [] (v + 1) (out ++ (Lib.cut s [38]).1) 38 (.inr rfl) (by simp only [List.length_append]; omega)) ?_
    refine hK2 _ _ _ (Wkn.refl ⟨(.hp h.length 0 0 0), v + 1 + 1, g, (Lib.cut s [38]).2.1, out ++ (Lib.cut s [38]).1 ++ [38], rfl, hpE, ?_, .inr rfl, by omega, by rw [← hv]; simp, by simp only [List.length_append, List.length_cons, List.length_nil]; omega⟩) (by omega)
    all_goals first | exact zqo F | rfl | omega | trivial | skip
  ·rw [if_neg (by simp [g1])] at hv
   refine kqo F (WriteByte_sat G (.hp h.length 0 0 0) h [] (v + 1) (out ++ (Lib.cut s [38]).1) 38 (.inr rfl) (by simp only [List.length_append]; omega)) ?_
   refine hK2 _ _ _ (Wkn.refl ⟨(.hp h.length 0 0 0), v + 1 + 1, g, (Lib.cut s [38]).2.1, out ++ (Lib.cut s [38]).1 ++ [38], rfl, hpE, ?_, .inr rfl, by omega, by rw [← hv]; simp, by simp only [List.length_append, List.length_cons, List.length_nil]; omega⟩) (by omega)
   all_goals first | exact zqo F | rfl | omega | trivial | skip
end Go.Av
namespace Go.Av
open Go Go.Proofs Go.RowKit
attribute [local irreducible] WP WPl WPix Sat
set_option maxRecDepth 100000
set_option maxHeartbeats 1000000
variable (G : Nat → Option (List AVal))
def rdrR (s : Bs) (b : Bool) : Blk := .row 101 2 0 [.agg [.str s, .bool b]]
def rdH (h j : Heap) (s : Bs) (b : Bool) : Heap := h ++ rdrR s b :: j
theorem rdH_len (h j : Heap) (s : Bs) (b : Bool) : (rdH h j s b).length = h.length + (1 + j.length) := by simp [rdH]; omega
theorem rd_clo (n : Nat) (s : Bs) (b : Bool) : CloB n (rdrR s b) := by
 intro r hr
 simp only [List.mem_singleton] at hr; subst hr
 exact .agg _ (by intro c hc; simp at hc; rcases hc with rfl | rfl; exact .str _; exact .bool _)
theorem rd_keep (h j : Heap) (s s0 : Bs) (b b0 : Bool) (n : Nat) : ∀ (p : Nat) (k : Blk), (rdH h j s b)[p]? = some k → (rdH h j s0 b0)[p]? = some k ∨ CloB n k := by
 intro p k hk
 unfold rdH at *
 rcases Nat.lt_or_ge p h.length with h1 | h1
 ·rw [List.getElem?_append_left h1] at hk ⊢; exact .inl hk
 ·rw [List.getElem?_append_right h1] at hk ⊢
  match p - h.length, hk with
  | 0, hk => simp at hk; subst hk; exact .inr (rd_clo _ _ _)
  | i + 1, hk => exact .inl hk
theorem rd_fin (h j jj : Heap) (s s0 : Bs) (b b0 : Bool) {h2 : Heap} {x : AVal} (hh : h2 = rdH h j s b ++ jj) (hx : ∀ n, Clo n x) : Fin (rdH h j s0 b0) h2 (fun r h' => r = x ∧ h' = rdH h j s b) x :=
 Fin.keepE (h1 := rdH h j s b) hh (by simp only [rdH_len]) (fun p k hk => rd_keep _ _ _ _ _ _ _ p k hk) (hx _) ⟨rfl, rfl⟩
@[go_sem] theorem getRow_rd (s : Bs) (b : Bool) (l : Heap) : getRow (rdrR s b :: l) 0 0 = some (101, 2, [.agg [.str s, .bool b]]) := rfl
@[go_sem] theorem getRow_rdH (h j : Heap) (s : Bs) (b : Bool) : getRow (rdH h j s b) h.length 0 = some (101, 2, [.agg [.str s, .bool b]]) := by simp [rdH, getRow, rdrR]
@[go_sem] theorem getRow_rdHj (h j jj : Heap) (s : Bs) (b : Bool) : getRow (rdH h j s b ++ jj) h.length 0 = some (101, 2, [.agg [.str s, .bool b]]) := by simp [rdH, getRow, rdrR]
@[go_sem] theorem set_rdH (h j : Heap) (s s' : Bs) (b b' : Bool) : List.set (rdH h j s b) h.length (.row 101 2 0 [.agg [.str s', .bool b']]) = rdH h j s' b' := by simp [rdH, rdrR]
@[go_sem] theorem set_rdHj (h j jj : Heap) (s s' : Bs) (b b' : Bool) : List.set (rdH h j s b ++ jj) h.length (.row 101 2 0 [.agg [.str s', .bool b']]) = rdH h j s' b' ++ jj := by simp [rdH, rdrR]
theorem take_sat (w s : Bs) (b : Bool) (h j : Heap) : Sat (CT G) 98 [.hp h.length 0 0 0, .str w] (rdH h j s b)
  (fun r h' => r = .bool (Lib.hasPrefix s w) ∧ h' = rdH h j (Lib.trimPrefix s w) b) := by
 have end_ := rd_fin h j [] (Lib.trimPrefix s w) s b b (x := .bool (Lib.hasPrefix s w)) (List.append_nil _).symm (fun _ => .bool _)
 refine sb [.tmp 4] (fn := Tryz.f98) Tryz.func98 ?_
 intro Q hQ
 refine wko trivial ?_
 refine kqo trivial (CutPrefix_sat G s w _) ?_
 refine eeo hQ trivial ?_
 exact end_
theorem must_sat (w s : Bs) (b : Bool) (h j : Heap) : Sat (CT G) 129 [.hp h.length 0 0 0, .str w] (rdH h j s b)
  (fun r h' => r = .tup [] ∧ h' = rdH h j (Lib.trimPrefix s w) (b || !Lib.hasPrefix s w)) := by
 have end_ := fun b1 => rd_fin h j [] (Lib.trimPrefix s w) s b1 b (x := .tup []) (List.append_nil _).symm (fun _ => .tup _ (by simp))
 refine sb [] (fn := Tryz.f129) Tryz.func129 ?_
 intro Q hQ
 refine wko trivial ?_
 refine kqo trivial (take_sat G w s b h j) ?_
 refine cqo trivial (fun hc => ?_) (fun hc => ?_) <;> (try exact hc.elim) <;> (refine wko trivial ?_)
 ·refine eeo hQ trivial ?_
  simp only [hc, Bool.not_false, Bool.or_true]
  exact end_ _
 ·refine eeo hQ trivial ?_
  simp only [hc, Bool.not_true, Bool.or_false]
  exact end_ _
def uptoF (w s : Bs) (b : Bool) : Bs × Bs × Bool := if (Lib.cut s w).2.2 = true then ((Lib.cut s w).1, (Lib.cut s w).2.1, b) else ([], s, true)
theorem upto_sat (hG : GOk G) (w s : Bs) (b : Bool) (hs : s.length ≤ 1073741824) (h j : Heap) : Sat (CT G) 99 [.hp h.length 0 0 0, .str w] (rdH h j s b)
  (fun r h' => r = .str (uptoF w s b).1 ∧ h' = rdH h j (uptoF w s b).2.1 (uptoF w s b).2.2) := by
 refine sb [.tmp 4] (fn := Tryz.f99) Tryz.func99 ?_
 intro Q hQ
 refine wko trivial ?_
 refine kqo trivial (Cut_sat G hG s w hs _) ?_
 refine cqo trivial (fun hc => ?_) (fun hc => ?_) <;> (try exact hc.elim) <;> (refine wko trivial ?_)
 ·have e : uptoF w s b = ([], s, true) := by unfold uptoF; rw [if_neg (by simp [hc])]
  refine eeo hQ trivial ?_
  rw [e]
  exact rd_fin h j [] s s true b (x := .str []) (List.append_nil _).symm (fun _ => .str _)
 ·have e : uptoF w s b = ((Lib.cut s w).1, (Lib.cut s w).2.1, b) := by unfold uptoF; rw [if_pos (by simpa using hc)]
  refine eeo hQ trivial ?_
  rw [e]
  exact rd_fin h j [] (Lib.cut s w).2.1 s b b (x := .str (Lib.cut s w).1) (List.append_nil _).symm (fun _ => .str _)
structure ByByte (P : Int → Bool) (q : UInt8 → Bool) (hi : Bool) : Prop where
 low : ∀ b : UInt8, b.toNat < 128 → P b.toNat = q b
 high : ∀ c : Int, 128 ≤ c → Rune c → P c = hi
 bytes : ∀ b : UInt8, 128 ≤ b.toNat → q b = hi
theorem tw_at (q : UInt8 → Bool) : ∀ (s : Bs) (k : Nat), (∀ i, i < k → ∀ c, s[i]? = some c → q c = true) → k ≤ s.length → (k = s.length ∨ ∃ c, s[k]? = some c ∧ q c = false) →
  s.takeWhile q = s.take k ∧ s.dropWhile q = s.drop k := by
 intro s
 induction s with
 | nil => intro k _ hk _; simp at hk; subst hk; simp
 | cons a t ih =>
  intro k h hk he
  cases k with
  | zero =>
   rcases he with he | ⟨c, hc, hq⟩
   ·simp at he
   ·simp at hc; subst hc; simp [hq]
  | succ k =>
   have ha : q a = true := h 0 (by omega) a rfl
   have := ih k (fun i hi c hc => h (i + 1) (by omega) c (by simpa using hc)) (by simpa using hk) (by
    rcases he with he | ⟨c, hc, hq⟩
    ·exact .inl (by simpa using he)
    ·exact .inr ⟨c, by simpa using hc, hq⟩)
   simp [List.takeWhile, List.dropWhile, ha, this]
theorem run_sat (P : Int → Bool) (q : UInt8 → Bool) (hi : Bool) (hP : ByByte P q hi) (g : FuncId) (s : Bs) (b : Bool) (hs : s.length ≤ 1073741824) (h j : Heap)
  (hg : ∀ (c : Int) (k : Heap), Rune c → Sat (CT G) g [.int .i32 c] k (fun r h' => r = .bool (P c) ∧ h' = k)) :
  Sat (CT G) 105 [.hp h.length 0 0 0, .fn (.func g) [] []] (rdH h j s b)
   (fun r h' => r = .str (s.takeWhile q) ∧ h' = rdH h j (s.dropWhile q) b) := by
 refine sb [.tmp 4] (fn := Tryz.f105) Tryz.func105 ?_
 intro Q hQ
 (repeat (first | refine w1 (fun K hK => ?_) | refine w2 ?_ | refine w3 ?_ | ((first | refine w4 ?_ | refine wD ?_ | refine w5 ?_ | refine w6 ?_ | refine w7 ?_); try refine sqo trivial ?_) | (refine w8 ?_; refine sqo trivial ?_; refine w9 ?_) | ((first | refine hK _ _ (w0 ?_) | (clear hK K; refine hK _ _ (w0 ?_)) | (clear hK K; clear hK K; refine hK _ _ (w0 ?_))); clear hK K)))
 have tail : ∀ (t' : Env) (k pos : Nat), t' 0 = .hp h.length 0 0 0 → t' 5 = .int .i64 k → k ≤ s.length → s.takeWhile q = s.take k → s.dropWhile q = s.drop k → K t' (rdH h j s b ++ [.iter s pos]) := by
  intro t' k pos e0 e5 hk h1 h2
  refine hK _ _ (Wkn.refl ?_)
  clear hK K
  have F := F2 e0 e5
  (repeat (first | refine w1 (fun K hK => ?_) | refine w2 ?_ | refine w3 ?_ | ((first | refine w4 ?_ | refine wD ?_ | refine w5 ?_ | refine w6 ?_ | refine w7 ?_); try refine sqo F ?_) | (refine w8 ?_; refine sqo F ?_; refine w9 ?_) | ((first | refine hK _ _ (w0 ?_) | (clear hK K; refine hK _ _ (w0 ?_)) | (clear hK K; clear hK K; refine hK _ _ (w0 ?_))); clear hK K)))
  rw [h1, h2] at hQ
  refine eeo hQ F ?_
  exact rd_fin h j [.iter s pos] (s.drop k) s b b (x := .str (s.take k)) rfl (fun _ => .str _)
 refine lm (fun nL tL hL => ∃ (k : Nat), s.length - k = nL ∧ rdH h j s b ++ [.iter s k] = hL ∧ tL 5 = .int .i64 s.length ∧ k ≤ s.length ∧ ∀ i, i < k → ∀ c, s[i]? = some c → q c = true) ((fun (k : Nat) => (s.length - k : Nat)) (0)) ?_ ?_
 ·refine Wkn.refl ⟨0, rfl, hpE, ?_, by omega, fun i hi => by omega⟩
  all_goals first | exact zqo trivial | rfl | omega | trivial | skip
 rintro _ s2 h' ⟨k, rfl, rfl, e5, hk, hq⟩ K2 hK2
 simp only [mix_cons, mix_nil, Nat.reduceEqDiff, ↓reduceIte] at e5
 have F := e5
 (repeat (first | refine w1 (fun K hK => ?_) | refine w2 ?_ | refine w3 ?_ | ((first | refine w4 ?_ | refine wD ?_ | refine w5 ?_ | refine w6 ?_ | refine w7 ?_); try refine sqo F ?_) | (refine w8 ?_; refine sqo F ?_; refine w9 ?_) | ((first | refine hK _ _ (w0 ?_) | (clear hK K; refine hK _ _ (w0 ?_)) | (clear hK K; clear hK K; refine hK _ _ (w0 ?_))); clear hK K)))
 refine nextK_at (getIter _ _ _ _) (fun hlt => ?_) (fun hge => ?_)
 ·have hb := List.getElem?_eq_getElem hlt
  by_cases ha : s[k].toNat < 128
  ·have hd : Utf8.decode ⟨s.toArray⟩ k = (s[k].toNat, 1) := dec_ascii s k _ hb ha
   have hPq := hP.low s[k] ha
   rw [hd]
   try refine sqo F ?_
   (repeat (first | refine w1 (fun K hK => ?_) | refine w2 ?_ | refine w3 ?_ | ((first | refine w4 ?_ | refine wD ?_ | refine w5 ?_ | refine w6 ?_ | refine w7 ?_); try refine sqo F ?_) | (refine w8 ?_; refine sqo F ?_; refine w9 ?_) | ((first | refine hK _ _ (w0 ?_) | (clear hK K; refine hK _ _ (w0 ?_)) | (clear hK K; clear hK K; refine hK _ _ (w0 ?_))); clear hK K)))
   refine (hg s[k].toNat _ ⟨by omega, by omega⟩).mono ?_
   rintro r h' ⟨rfl, rfl⟩
   try refine sqo F ?_
   (repeat (first | refine w1 (fun K hK => ?_) | refine w2 ?_ | refine w3 ?_ | ((first | refine w4 ?_ | refine wD ?_ | refine w5 ?_ | refine w6 ?_ | refine w7 ?_); try refine sqo F ?_) | (refine w8 ?_; refine sqo F ?_; refine w9 ?_) | ((first | refine hK _ _ (w0 ?_) | (clear hK K; refine hK _ _ (w0 ?_)) | (clear hK K; clear hK K; refine hK _ _ (w0 ?_))); clear hK K)))
   refine cqo F (fun hc => ?_) (fun hc => ?_) <;> (try exact hc.elim) <;> ((repeat (first | refine w1 (fun K hK => ?_) | refine w2 ?_ | refine w3 ?_ | ((first | refine w4 ?_ | refine wD ?_ | refine w5 ?_ | refine w6 ?_ | refine w7 ?_); try refine sqo F ?_) | (refine w8 ?_; refine sqo F ?_; refine w9 ?_) | ((first | refine hK _ _ (w0 ?_) | (clear hK K; refine hK _ _ (w0 ?_)) | (clear hK K; clear hK K; refine hK _ _ (w0 ?_))); clear hK K))))
   ·have hqf : q s[k] = false := by rw [← hPq]; exact hc
    obtain ⟨h1, h2⟩ := tw_at q s k hq hk (.inr ⟨_, hb, hqf⟩)
    refine tail _ k _ ?_ ?_ hk h1 h2
    ·exact zqo F
    ·exact zqo F
   ·have hqt : q s[k] = true := by rw [← hPq]; exact hc
    have hq1 : ∀ i, i < k + 1 → ∀ c, s[i]? = some c → q c = true := fun i hi c hc2 => by
     rcases Nat.lt_or_ge i k with h1 | h1
     ·exact hq i h1 c hc2
     ·obtain rfl : i = k := by omega
      rw [hb] at hc2; cases hc2; exact hqt
    refine hK2 _ _ _ (Wkn.refl ⟨k + 1, rfl, hpE, ?_, by omega, hq1⟩) (by omega)
    all_goals first | exact zqo F | rfl | omega | trivial | skip
  ·obtain ⟨hd1, hd2, hd3⟩ := dec_high s k _ hb (by omega)
   obtain ⟨hd4, hd5⟩ := dec_pos s k hlt
   have hR : Rune (dec s k).1 := ⟨by omega, by omega⟩
   have hPq := hP.high (dec s k).1 (by omega) hR
   unfold dec at *
   try refine sqo F ?_
   (repeat (first | refine w1 (fun K hK => ?_) | refine w2 ?_ | refine w3 ?_ | ((first | refine w4 ?_ | refine wD ?_ | refine w5 ?_ | refine w6 ?_ | refine w7 ?_); try refine sqo F ?_) | (refine w8 ?_; refine sqo F ?_; refine w9 ?_) | ((first | refine hK _ _ (w0 ?_) | (clear hK K; refine hK _ _ (w0 ?_)) | (clear hK K; clear hK K; refine hK _ _ (w0 ?_))); clear hK K)))
   refine (hg (Utf8.decode ⟨s.toArray⟩ k).1 _ hR).mono ?_
   rintro r h' ⟨rfl, rfl⟩
   try refine sqo F ?_
   (repeat (first | refine w1 (fun K hK => ?_) | refine w2 ?_ | refine w3 ?_ | ((first | refine w4 ?_ | refine wD ?_ | refine w5 ?_ | refine w6 ?_ | refine w7 ?_); try refine sqo F ?_) | (refine w8 ?_; refine sqo F ?_; refine w9 ?_) | ((first | refine hK _ _ (w0 ?_) | (clear hK K; refine hK _ _ (w0 ?_)) | (clear hK K; clear hK K; refine hK _ _ (w0 ?_))); clear hK K)))
   refine cqo F (fun hc => ?_) (fun hc => ?_) <;> (try exact hc.elim) <;> ((repeat (first | refine w1 (fun K hK => ?_) | refine w2 ?_ | refine w3 ?_ | ((first | refine w4 ?_ | refine wD ?_ | refine w5 ?_ | refine w6 ?_ | refine w7 ?_); try refine sqo F ?_) | (refine w8 ?_; refine sqo F ?_; refine w9 ?_) | ((first | refine hK _ _ (w0 ?_) | (clear hK K; refine hK _ _ (w0 ?_)) | (clear hK K; clear hK K; refine hK _ _ (w0 ?_))); clear hK K))))
   ·have hqf : q s[k] = false := by rw [hP.bytes _ (by omega), ← hPq]; exact hc
    obtain ⟨h1, h2⟩ := tw_at q s k hq hk (.inr ⟨_, hb, hqf⟩)
    refine tail _ k _ ?_ ?_ hk h1 h2
    ·exact zqo F
    ·exact zqo F
   ·have hit : hi = true := by rw [← hPq]; exact hc
    have hq1 : ∀ i, i < k + (Utf8.decode ⟨s.toArray⟩ k).2 → ∀ c, s[i]? = some c → q c = true := fun i hi2 c hc2 => by
     rcases Nat.lt_or_ge i k with h1 | h1
     ·exact hq i h1 c hc2
     ·rw [hP.bytes c (hd3 (i - k) (by omega) c (by rw [show k + (i - k) = i by omega]; exact hc2)), hit]
    refine hK2 _ _ _ (Wkn.refl ⟨k + (Utf8.decode ⟨s.toArray⟩ k).2, rfl, hpE, ?_, by omega, hq1⟩) (by omega)
    all_goals first | exact zqo F | rfl | omega | trivial | skip
 ·obtain ⟨h1, h2⟩ := tw_at q s s.length (fun i hi => hq i (by omega)) (Nat.le_refl _) (.inl rfl)
  try refine sqo F ?_
  (repeat (first | refine w1 (fun K hK => ?_) | refine w2 ?_ | refine w3 ?_ | ((first | refine w4 ?_ | refine wD ?_ | refine w5 ?_ | refine w6 ?_ | refine w7 ?_); try refine sqo F ?_) | (refine w8 ?_; refine sqo F ?_; refine w9 ?_) | ((first | refine hK _ _ (w0 ?_) | (clear hK K; refine hK _ _ (w0 ?_)) | (clear hK K; clear hK K; refine hK _ _ (w0 ?_))); clear hK K)))
  refine tail _ s.length _ ?_ ?_ (Nat.le_refl _) h1 h2
  ·exact zqo F
  ·exact zqo F
end Go.Av
namespace Go.Av
open Go Go.Proofs Go.RowKit
attribute [local irreducible] WP WPl WPix Sat
set_option maxRecDepth 100000
set_option maxHeartbeats 1000000
variable (G : Nat → Option (List AVal))
def beginF (c : Int) : Bool := decide (65 ≤ c ∧ c ≤ 90 ∨ 97 ≤ c ∧ c ≤ 122 ∨ c = 95)
def moreF (c : Int) : Bool := decide (65 ≤ c ∧ c ≤ 90 ∨ 97 ≤ c ∧ c ≤ 122 ∨ c = 95 ∨ 48 ≤ c ∧ c ≤ 57 ∨ c = 58 ∨ c = 45 ∨ c = 46)
theorem begins_sat (c : Int) (h : Heap) : Sat (CT G) 152 [.int .i32 c] h (fun r h' => r = .bool (beginF c) ∧ h' = h) := by
 refine sb [.tmp 2] (fn := Tryz.f152) Tryz.func152 ?_
 intro Q hQ
 refine wko trivial ?_
 (first | refine gqo trivial (fun g1 => ?_) (fun g1 => ?_) | refine pqo trivial (fun g1 => ?_) (fun g1 => ?_)) <;> (try exact g1.elim) <;> (try refine sqo trivial ?_) <;> (refine wko trivial ?_)
 all_goals try ((first | refine gqo trivial (fun g2 => ?_) (fun g2 => ?_) | refine pqo trivial (fun g2 => ?_) (fun g2 => ?_)) <;> (try exact g2.elim) <;> (try refine sqo trivial ?_) <;> (refine wko trivial ?_))
 all_goals try ((first | refine gqo trivial (fun g3 => ?_) (fun g3 => ?_) | refine pqo trivial (fun g3 => ?_) (fun g3 => ?_)) <;> (try exact g3.elim) <;> (try refine sqo trivial ?_) <;> (refine wko trivial ?_))
 all_goals try ((first | refine gqo trivial (fun g4 => ?_) (fun g4 => ?_) | refine pqo trivial (fun g4 => ?_) (fun g4 => ?_)) <;> (try exact g4.elim) <;> (try refine sqo trivial ?_) <;> (refine wko trivial ?_))
 all_goals try ((first | refine gqo trivial (fun g5 => ?_) (fun g5 => ?_) | refine pqo trivial (fun g5 => ?_) (fun g5 => ?_)) <;> (try exact g5.elim) <;> (try refine sqo trivial ?_) <;> (refine wko trivial ?_))
 all_goals try (exfalso; omega)
 all_goals
  refine eeo hQ trivial ?_
  refine fR (.bool _) ?_
  unfold beginF
  congr 1
  rw [Bool.eq_iff_iff]
  simp only [decide_eq_true_eq, beq_iff_eq, true_iff, Bool.false_eq_true, false_iff]
  omega
theorem goes_sat (c : Int) (h : Heap) : Sat (CT G) 151 [.int .i32 c] h (fun r h' => r = .bool (moreF c) ∧ h' = h) := by
 refine sb [.tmp 2] (fn := Tryz.f151) Tryz.func151 ?_
 intro Q hQ
 refine wko trivial ?_
 refine kqo trivial (begins_sat G c _) ?_
 (first | refine gqo trivial (fun g1 => ?_) (fun g1 => ?_) | refine pqo trivial (fun g1 => ?_) (fun g1 => ?_)) <;> (try exact g1.elim) <;> (try refine sqo trivial ?_) <;> (refine wko trivial ?_)
 all_goals try ((first | refine gqo trivial (fun g2 => ?_) (fun g2 => ?_) | refine pqo trivial (fun g2 => ?_) (fun g2 => ?_)) <;> (try exact g2.elim) <;> (try refine sqo trivial ?_) <;> (refine wko trivial ?_))
 all_goals try ((first | refine gqo trivial (fun g3 => ?_) (fun g3 => ?_) | refine pqo trivial (fun g3 => ?_) (fun g3 => ?_)) <;> (try exact g3.elim) <;> (try refine sqo trivial ?_) <;> (refine wko trivial ?_))
 all_goals try ((first | refine gqo trivial (fun g4 => ?_) (fun g4 => ?_) | refine pqo trivial (fun g4 => ?_) (fun g4 => ?_)) <;> (try exact g4.elim) <;> (try refine sqo trivial ?_) <;> (refine wko trivial ?_))
 all_goals try ((first | refine gqo trivial (fun g5 => ?_) (fun g5 => ?_) | refine pqo trivial (fun g5 => ?_) (fun g5 => ?_)) <;> (try exact g5.elim) <;> (try refine sqo trivial ?_) <;> (refine wko trivial ?_))
 all_goals try ((first | refine gqo trivial (fun g6 => ?_) (fun g6 => ?_) | refine pqo trivial (fun g6 => ?_) (fun g6 => ?_)) <;> (try exact g6.elim) <;> (try refine sqo trivial ?_) <;> (refine wko trivial ?_))
 all_goals try ((first | refine gqo trivial (fun g7 => ?_) (fun g7 => ?_) | refine pqo trivial (fun g7 => ?_) (fun g7 => ?_)) <;> (try exact g7.elim) <;> (try refine sqo trivial ?_) <;> (refine wko trivial ?_))
 all_goals try simp only [beginF, decide_eq_true_eq, decide_eq_false_iff_not] at g1
 all_goals try (exfalso; omega)
 all_goals
  refine eeo hQ trivial ?_
  refine fR (.bool _) ?_
  unfold moreF
  try unfold beginF
  congr 1
  rw [Bool.eq_iff_iff]
  simp only [decide_eq_true_eq, beq_iff_eq, true_iff, Bool.false_eq_true, false_iff]
  omega
end Go.Av

