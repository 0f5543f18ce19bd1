/- The document's answer for the state: an item's tags, with one or without it. -/
import Derived.Test.YtmfhelaoeaifeaaGreatDoorMlQc
set_option linter.unusedSimpArgs false
set_option linter.unusedVariables false
set_option linter.unusedSectionVars false
set_option linter.unnecessarySimpa false
set_option maxRecDepth 100000
set_option maxHeartbeats 16000000
namespace Go.Av
open Go Go.Proofs Go.RowKit
attribute [local irreducible] WP WPl WPix Sat
variable (G:Nat→Option (List AVal))
section
end
theorem two(x:Bool):x=true∨x=false:=by cases x<;>simp
theorem Hw(x y:Bool):x=true∨(x=false∧y=true)∨(x=false∧y=false):=by cases x<;>cases y<;>simp
end Go.Av
namespace Go.Av
open Go Go.Proofs Go.RowKit
attribute [local irreducible] WP WPl WPix Sat
variable (G:Nat→Option (List AVal))
section
variable {α:Type}
end
def St.dpW(x:St):Nat→Int→Nat→Nat
 |0,id,n=>if id=0 then n else 8
 |k+1,id,n=>if id=0 then n else match fnd (·.id) x.fo id with
  |none=>8
  |some f=>x.dpW k f.inn (n+1)
def St.deep(x:St)(id:Int):Nat:=match fnd (·.id) x.fo id with
 |none=>0
 |some _=>x.dpW 7 id 0
end Go.Av
namespace Go.Av
open Go Go.Proofs Go.RowKit
attribute [local irreducible] WP WPl WPix Sat
variable (G:Nat→Option (List AVal))
end Go.Av
