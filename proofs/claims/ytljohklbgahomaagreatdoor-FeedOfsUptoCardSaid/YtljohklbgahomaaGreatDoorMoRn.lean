/- The document's answers for documents: a document of tokens. -/
import Derived.Test.YtljohklbgahomaaGreatDoorMoRc
import Derived.Test.YtljohklbgahomaaGreatDoorMoDr5
set_option linter.unusedSimpArgs false
set_option linter.unusedVariables false
set_option linter.unusedSectionVars false
set_option linter.unnecessarySimpa false
set_option maxRecDepth 100000
set_option maxHeartbeats 16000000
namespace Go.Av
open Go Go.Proofs Go.RowKit
theorem jR(s:Bs)(base:Int)(most:Nat)(h:0≤numF s base most):s.length≤most:=by
 unfold numF at h
 split at h
 ·omega
 ·omega
theorem sign_len(n:Bs)(h:(signF n).2=true):n.length≤9:=by
 unfold signF at h
 by_cases c1:n=[97,109,112]
 ·subst c1;decide
 rw[if_neg c1]at h
 by_cases c2:n=[108,116]
 ·subst c2;decide
 rw[if_neg c2]at h
 by_cases c3:n=[103,116]
 ·subst c3;decide
 rw[if_neg c3]at h
 by_cases c4:n=[113,117,111,116]
 ·subst c4;decide
 rw[if_neg c4]at h
 by_cases c5:n=[97,112,111,115]
 ·subst c5;decide
 rw[if_neg c5]at h
 have key:∀m:Int,(if m<0 then((0:Int),false)else if rightF m=true then(m,true)else(65533,true)).2=true→0≤m:=fun m hm=>by
  by_cases h0:m<0
  ·rw[if_pos h0]at hm;cases hm
  ·omega
 have h0:=key _ h
 by_cases hx:Lib.hasPrefix n [35,120]=true
 ·rw[if_pos hx]at h0
  have:=jR _ _ _ h0;simp at this;omega
 ·rw[if_neg hx]at h0
  by_cases hy:Lib.hasPrefix n [35]=true
  ·rw[if_pos hy]at h0
   have:=jR _ _ _ h0;simp at this;omega
  ·rw[if_neg hy]at h0;omega
end Go.Av
namespace Go.Av
open Go Go.Proofs Go.RowKit
attribute [local irreducible] WP WPl WPix Sat
variable {G:Nat→Option (List AVal)}
end Go.Av
namespace Go.Av
open Go Go.Proofs Go.RowKit
attribute [local irreducible] WP WPl WPix Sat
variable {G:Nat→Option (List AVal)}
end Go.Av
namespace Go.Av
open Go Go.Proofs Go.RowKit
attribute [local irreducible] WP WPl WPix Sat
variable {G:Nat→Option (List AVal)}
end Go.Av
namespace Go.Av
open Go Go.Proofs Go.RowKit
attribute [local irreducible] WP WPl WPix Sat
variable {G:Nat→Option (List AVal)}
end Go.Av
namespace Go.Av
open Go Go.Proofs Go.RowKit
attribute [local irreducible] WP WPl WPix Sat
variable {G:Nat→Option (List AVal)}
end Go.Av
namespace Go.Av
open Go Go.Proofs Go.RowKit
attribute [local irreducible] WP WPl WPix Sat
variable {G:Nat→Option (List AVal)}
end Go.Av
namespace Go.Av
open Go Go.Proofs Go.RowKit
attribute [local irreducible] WP WPl WPix Sat
variable {G:Nat→Option (List AVal)}
end Go.Av
namespace Go.Av
open Go Go.Proofs Go.RowKit
end Go.Av
namespace Go.Av
open Go Go.Proofs Go.RowKit
attribute [local irreducible] WP WPl WPix Sat
variable {G:Nat→Option (List AVal)}
end Go.Av
namespace Go.Av
open Go Go.Proofs Go.RowKit
attribute [local irreducible] WP WPl WPix Sat
variable {G:Nat→Option (List AVal)}
end Go.Av
