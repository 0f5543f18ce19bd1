/- Closed runs of the program: more functions of which it is known what they reckon. -/
import Derived.Test.YtnchpoppgdbapaaGreatDoorJgEx5
import Derived.Test.YtnchpoppgdbapaaGreatDoorJgIb0
set_option linter.unusedSimpArgs false
set_option linter.unusedVariables false
namespace Go.Av
open Go Go.Proofs Go.RowKit
set_option maxRecDepth 100000

def orcX (f : FuncId) (args : List AVal) : Option AVal := match orcL f args with
  | some r => some r
  | none => match args with
    | [.int .i32 c] => if f = 152 then some (.bool (beginF c)) else if f = 151 then some (.bool (moreF c)) else none
    | _ => none

variable {G : Nat → Option (List AVal)}
theorem orcX_ok (hG : GOk G) : OrcOk (CT G) orcX := by
  intro f args r g h
  unfold orcX at g
  split at g
  · rename_i e; cases g; exact orcL_ok hG f args _ e h
  · split at g
    · rename_i c _
      split at g
      · rename_i e; subst e; cases g; exact begins_sat G c h
      · split at g
        · rename_i e; subst e; cases g; exact goes_sat G c h
        · cases g
    · cases g
end Go.Av
