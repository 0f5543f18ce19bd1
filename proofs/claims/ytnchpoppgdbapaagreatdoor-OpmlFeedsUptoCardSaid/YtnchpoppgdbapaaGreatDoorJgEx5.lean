/- Closed runs of the program: what is known of the library's functions that only reckon. -/
import Derived.Test.YtnchpoppgdbapaaGreatDoorJgHa
import Derived.Test.YtnchpoppgdbapaaGreatDoorJgEx4
set_option linter.unusedSimpArgs false
set_option linter.unusedVariables false
namespace Go.Av
open Go Go.Proofs Go.RowKit
set_option maxRecDepth 100000

def bigS (s : Bs) : Bool := decide (s.length ≤ 1048576)

/-- The library's functions over texts. -/
def orcL (f : FuncId) (args : List AVal) : Option AVal := match args with
  | [.str s, .str p] => if bigS s = true then
      (if f = 125 then some (.tup [.str (Lib.cut s p).1, .str (Lib.cut s p).2.1, .bool (Lib.cut s p).2.2])
      else if f = 126 then some (.bool (Lib.contains s p))
      else if f = 124 then some (.tup [.str (Lib.trimPrefix s p), .bool (Lib.hasPrefix s p)])
      else if f = 171 then some (.bool (Lib.hasPrefix s p)) else none) else none
  | [.str s, .int .u8 c] => if bigS s = true then (if f = 52 then some (.int .i64 (Lib.lastIndexByte ⟨s.toArray⟩ c)) else none) else none
  | [.str s, .int .i32 r] => if 0 ≤ r ∧ r < 128 then (if f = 154 then some (.bool (decide (0 ≤ Lib.indexByte s r.toNat.toUInt8))) else none) else none
  | [x] => if f = 116 then some x else none
  | _ => none

variable {G : Nat → Option (List AVal)}
theorem orcL_ok (hG : GOk G) : OrcOk (CT G) orcL := by
  intro f args r g h
  unfold orcL at g
  split at g
  · rename_i s p
    split at g
    · rename_i hb
      have hs : s.length ≤ 1048576 := by simpa [bigS] using hb
      split at g
      · rename_i e; subst e; cases g; exact Cut_sat G hG s p (by omega) h
      · split at g
        · rename_i e; subst e; cases g; exact Contains_sat G hG s p (by omega) h
        · split at g
          · rename_i e; subst e; cases g; exact CutPrefix_sat G s p h
          · split at g
            · rename_i e; subst e; cases g; exact HasPrefix_sat G s p h
            · cases g
    · cases g
  · rename_i s c
    split at g
    · rename_i hb
      have hs : s.length ≤ 1048576 := by simpa [bigS] using hb
      split at g
      · rename_i e; subst e; cases g; exact LastIndexByte_sat G s c (by omega) h
      · cases g
    · cases g
  · rename_i s r
    split at g
    · rename_i hb
      split at g
      · rename_i e; subst e; cases g; exact ContainsRune_ascii G s r hb.1 hb.2 h
      · cases g
    · cases g
  · rename_i x
    split at g
    · rename_i e; subst e; cases g; exact NoEscape_sat G _ h
    · cases g
  · cases g
end Go.Av
