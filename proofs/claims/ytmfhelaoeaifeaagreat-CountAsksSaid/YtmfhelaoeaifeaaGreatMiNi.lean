/- The document's answer: words of a text; tags. -/
import Derived.Test.YtmfhelaoeaifeaaGreatMiKb
import Derived.Test.YtmfhelaoeaifeaaGreatMiQc
set_option linter.unusedSimpArgs false
set_option linter.unusedVariables false
set_option linter.unusedSectionVars false
set_option linter.unnecessarySimpa false
set_option maxRecDepth 100000
set_option maxHeartbeats 16000000
namespace Go.Av
open Go Go.Proofs Go.RowKit
attribute [local irreducible] WP WPl WPix Sat
variable (G:Nat→Option (List AVal))
def St.fil(x:St)(kind id:Int)(g:Bs):Ct:=ctM kind id g (tl x.it (x.cnt ⟨kind,id,g,0,0⟩))
theorem rE(l:List Bs)(g:Bs):(insT l g).length≤l.length+1:=by
 induction l with
 |nil=>simp[insT]
 |cons a l ih=>
  rw[insT]
  split
  ·simp;omega
  ·split<;>simp
theorem pT(gs:List Bs):∀l:List Bs,(gs.foldl insT l).length≤l.length+gs.length:=by
 induction gs with
 |nil=>intro l;simp
 |cons g gs ih=>intro l;have:=ih (insT l g);have:=rE l g;simp;omega
end Go.Av
namespace Go.Av
open Go Go.Proofs Go.RowKit
attribute [local irreducible] WP WPl WPix Sat
set_option pp.deepTerms true
set_option pp.maxSteps 200000
variable (G:Nat→Option (List AVal))
end Go.Av
