/- lives() of the outlines: a closed run, in two parts: its document read, and the rest. -/
import Derived.Test.YtnchpoppgdbapaaGreatDoorJgEx7
set_option linter.unusedSimpArgs false
set_option linter.unusedVariables false
namespace Go.Av
open Go Go.Proofs Go.RowKit
set_option maxRecDepth 1000000
set_option maxHeartbeats 4000000
def doc13 : Bs := [60, 111, 112, 109, 108, 62, 60, 98, 111, 100, 121, 62, 60, 111, 117, 116, 108, 105, 110, 101, 32, 116, 101, 120, 116, 61, 34, 65, 34, 62, 60, 111, 117, 116, 108, 105, 110, 101, 32, 116, 105, 116, 108, 101, 61, 39, 66, 39, 32, 120, 109, 108, 85, 114, 108, 61, 39, 98, 39, 62, 60, 111, 117, 116, 108, 105, 110, 101, 32, 116, 101, 120, 116, 61, 39, 120, 39, 47, 62, 60, 47, 111, 117, 116, 108, 105, 110, 101, 62, 60, 111, 117, 116, 108, 105, 110, 101, 47, 62, 60, 47, 111, 117, 116, 108, 105, 110, 101, 62, 60, 47, 98, 111, 100, 121, 62, 60, 47, 111, 112, 109, 108, 62]
def out13 : AVal := .tup [.sl 3 [.agg [.str [65], .str [], .sl 3 [.agg [.str [66], .str [98], .nil (.slice none 0 0)]]]], .int .i64 0]
theorem read13 (G : Nat → Option (List AVal)) : isV out13 (callX (CT G) orcX 1000 100 33 [.str doc13] []) = true := by
  kernel_rfl
def orcY (f : FuncId) (args : List AVal) : Option AVal := match args with
  | [.str s] => if f = 33 then (if s = doc13 then some out13 else none) else orcX f args
  | _ => orcX f args
theorem orcY_ok {G : Nat → Option (List AVal)} (hG : GOk G) (hc : GClo (CT G)) : OrcOk (CT G) orcY := by
  intro f args r g h
  unfold orcY at g
  split at g
  · split at g
    · rename_i e; subst e
      split at g
      · rename_i e; subst e; cases g
        exact Sat.closedV hc (orcX_ok hG) 1000 100 rfl rfl (read13 G) h
      · cases g
    · exact orcX_ok hG f _ _ g h
  · exact orcX_ok hG f _ _ g h
theorem lives13 (G : Nat → Option (List AVal)) : isT (runX (CT G) orcY 1000 100 32 []) = true := by
  kernel_rfl
end Go.Av
