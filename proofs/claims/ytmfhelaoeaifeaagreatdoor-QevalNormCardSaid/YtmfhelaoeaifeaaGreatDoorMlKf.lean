/- What counts tell is the document's answer of the state that is told (plain). -/
import Derived.Test.YtmfhelaoeaifeaaGreatDoorMlQc
set_option linter.unusedSimpArgs false
set_option linter.unusedVariables false
set_option linter.unusedSectionVars false
set_option linter.unnecessarySimpa false
set_option maxRecDepth 100000
set_option maxHeartbeats 16000000
namespace Go.Av
open Go Go.Proofs Go.RowKit
attribute [local irreducible] WP WPl WPix Sat
set_option pp.deepTerms true
set_option pp.maxSteps 200000
variable (G:Nat→Option (List AVal))
end Go.Av
namespace Go.Av
open Go Go.Proofs Go.RowKit
attribute [local irreducible] WP WPl WPix Sat
variable (G:Nat→Option (List AVal))
end Go.Av
namespace Go.Av
open Go Go.Proofs Go.RowKit
variable {s:PS}
theorem pK{α:Type}{z:α}{l:ML Int α}{c:Nat}(w:WFM l c):(valsM z l).Perm (l.map (·.2.1)):=by
 have h1:(l.map (·.2.1))=(l.map (·.1)).map fun k=>(lkM l k).getD z:=by
  rw[List.map_map]
  exact List.map_congr_left fun e he=>by simp only[Function.comp];rw[cD w.keys (b:=e.2.2) he];rfl
 rw[h1]
 exact(List.mergeSort_perm _ _).map _
theorem ma{t:It}(h:s.Inv)(ht:t∈s.its):∃k,lkM s.it k=some t:=by
 obtain⟨e,he,rfl⟩:=List.mem_map.1 ht
 exact⟨e.1,cD h.w3.keys (b:=e.2.2) he⟩
theorem iF(h:s.Inv):s.tell.it.Perm s.its:=pK h.w3
end Go.Av
