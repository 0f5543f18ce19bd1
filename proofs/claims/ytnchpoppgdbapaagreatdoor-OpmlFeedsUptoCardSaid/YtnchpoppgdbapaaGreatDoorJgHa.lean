/- What the library's functions over texts give: the kit's contracts, at the program: Cut, Contains, CutPrefix, HasPrefix, ContainsRune. -/
import Derived.Test.YtnchpoppgdbapaaGreatDoorJgLa
set_option linter.unusedSimpArgs false
set_option linter.unusedVariables false
namespace Go.Av
open Go Go.Proofs Go.RowKit
set_option maxRecDepth 100000

variable (G : Nat → Option (List AVal))

/-- What must be known of the library's variables. -/
def GOk : Prop := ∃ m, G 0 = some [.int .i64 m]

theorem size_mk (s : Bs) : (⟨s.toArray⟩ : ByteArray).size = s.length := by simp [ByteArray.size]

variable {G}
theorem GOk.cell (hG : GOk G) {B : Nat} {S : Addr → Prop} {μ : Map} {h : Heap} {w : World} (f : Fits (CT G) B S μ h w) : ∃ m, w.cell? ⟨0, 0, none⟩ = some (.int .i64 m) := by
  obtain ⟨m, hm⟩ := hG
  have r := f.glob _ _ hm
  cases r with
  | ad cs b o vs hne hc hr =>
    have h1 := (hc 0 _ rfl).2.1
    have h2 := hr 0 _ rfl
    refine ⟨m, ?_⟩
    generalize vs 0 = u at h1 h2
    cases h2
    exact h1
variable (G)

theorem below_drews {w w' : World} (h : ∃ n, w' = w.drewN n) : Below w.heap.size w w' := by obtain ⟨n, rfl⟩ := h; exact below_drewN w n

theorem Cut_sat (hG : GOk G) (s p : Bs) (hs : s.length ≤ 1073741824) (h : Heap) :
    Sat (CT G) 125 [.str s, .str p] h (fun r h' => r = .tup [.str (Lib.cut s p).1, .str (Lib.cut s p).2.1, .bool (Lib.cut s p).2.2] ∧ h' = h) := by
  refine Sat.of_calls (fn := Tryz.f125) Tryz.func125 (by kernel_rfl) (by kernel_rfl) rfl rfl fun B S μ w f => ?_
  obtain ⟨m, hm⟩ := hG.cell f
  refine (Tryz.strings_Cut ⟨s.toArray⟩ ⟨p.toArray⟩ m w (by rw [size_mk]; omega) hm).mono fun e w' ⟨h1, h2⟩ => ⟨h1, below_drews h2⟩

theorem Contains_sat (hG : GOk G) (s p : Bs) (hs : s.length ≤ 1073741824) (h : Heap) :
    Sat (CT G) 126 [.str s, .str p] h (fun r h' => r = .bool (Lib.contains s p) ∧ h' = h) := by
  refine Sat.of_calls (fn := Tryz.f126) Tryz.func126 (by kernel_rfl) (by kernel_rfl) rfl rfl fun B S μ w f => ?_
  obtain ⟨m, hm⟩ := hG.cell f
  refine (Tryz.strings_Contains ⟨s.toArray⟩ ⟨p.toArray⟩ m w (by rw [size_mk]; omega) hm).mono fun e w' ⟨h1, h2⟩ => ⟨h1, below_same h2⟩

theorem CutPrefix_sat (s p : Bs) (h : Heap) :
    Sat (CT G) 124 [.str s, .str p] h (fun r h' => r = .tup [.str (Lib.trimPrefix s p), .bool (Lib.hasPrefix s p)] ∧ h' = h) := by
  refine Sat.of_calls (fn := Tryz.f124) Tryz.func124 (by kernel_rfl) (by kernel_rfl) rfl rfl fun B S μ w f => ?_
  refine (Tryz.strings_CutPrefix ⟨s.toArray⟩ ⟨p.toArray⟩ w).mono fun e w' ⟨h1, h2⟩ => ⟨h1, below_same h2⟩

theorem HasPrefix_sat (s p : Bs) (h : Heap) :
    Sat (CT G) 171 [.str s, .str p] h (fun r h' => r = .bool (Lib.hasPrefix s p) ∧ h' = h) := by
  refine Sat.of_calls (fn := Tryz.f171) Tryz.func171 (by kernel_rfl) (by kernel_rfl) rfl rfl fun B S μ w f => ?_
  refine (Tryz.strings_HasPrefix ⟨s.toArray⟩ ⟨p.toArray⟩ w).mono fun e w' ⟨h1, h2⟩ => ⟨h1, below_same h2⟩

theorem ContainsRune_ascii (s : Bs) (r : Int) (h0 : 0 ≤ r) (h1 : r < 128) (h : Heap) :
    Sat (CT G) 154 [.str s, .int .i32 r] h (fun x h' => x = .bool (decide (0 ≤ Lib.indexByte s r.toNat.toUInt8)) ∧ h' = h) := by
  refine Sat.of_calls (fn := Tryz.f154) Tryz.func154 (by kernel_rfl) (by kernel_rfl) rfl rfl fun B S μ w f => ?_
  refine (Tryz.strings_ContainsRune_ascii ⟨s.toArray⟩ r w h0 h1).mono fun e w' ⟨h1, h2⟩ => ⟨h1, below_same h2⟩

theorem IndexByteString_sat (s : Bs) (c : UInt8) (h : Heap) :
    Sat (CT G) 185 [.str s, .int .u8 c.toNat] h (fun x h' => x = .int .i64 (Lib.indexByte s c) ∧ h' = h) := by
  refine Sat.of_calls (fn := Tryz.f185) Tryz.func185 (by kernel_rfl) (by kernel_rfl) rfl rfl fun B S μ w f => ?_
  refine (Tryz.strings_IndexByte ⟨s.toArray⟩ c.toNat w).mono fun e w' ⟨h1, h2⟩ => ⟨by simpa using h1, below_same h2⟩
end Go.Av
