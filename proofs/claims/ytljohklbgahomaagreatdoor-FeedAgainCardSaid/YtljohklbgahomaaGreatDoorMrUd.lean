/- Parts. -/
import Derived.Test.YtljohklbgahomaaGreatDoorMrRn
import Derived.Test.YtljohklbgahomaaGreatDoorMrJb
set_option linter.unusedSimpArgs false
set_option linter.unusedVariables false
set_option linter.unusedSectionVars false
set_option linter.unnecessarySimpa false
set_option maxRecDepth 100000
set_option maxHeartbeats 16000000
namespace Go.Av
open Go Go.Proofs Go.RowKit
attribute [local irreducible] WP WPl WPix Sat
variable {G:Nat→Option (List AVal)}
def prsC(s:Bs):Int:=if (toksF s).2=0 then(if (bldF (toksF s).1).isSome then 0 else 90)else(toksF s).2
def PrsR(h:Heap)(s:Bs)(r:AVal)(h':Heap):Prop:=
 ∃e:Elem,r=.tup [e.av,.int .i64 (prsC s)]∧(∀x,prsC s=0→bldF (toksF s).1=some x→e=x)∧(prsC s≠0→e=⟨[],[],[],[]⟩)∧h'=h
theorem PrsR.bad{h:Heap}{s:Bs}(j:Heap)(c:Int)(e:prsC s=c)(hc:c≠0):Fin h (h++j) (PrsR h s) (.tup [.agg [.str [],.nil (.slice none 0 0),.str [],.nil (.slice none 0 0)],.int .i64 c]):=by
 have z:Frz (h++j) h.length (.agg [.str [],.nil (.slice none 0 0),.str [],.nil (.slice none 0 0)]) (Elem.av ⟨[],[],[],[]⟩):=by
  rw[Elem.av_eq];exact FrzL.agg (.cons (.clo _ (.str _)) (.cons (.nils 2) (.cons (.clo _ (.str _)) (.cons (.nils 4) .nil)))) rfl
 exact T6 (FrzL.tup (.cons z (.cons (.clo _ (.int _ _)) .nil))) ⟨_,by rw[e],(fun x hx=>by rw[e]at hx;exact absurd hx hc),fun _=>rfl,rfl⟩
theorem ub(s:Bs):szs Tok.sz (toksF s).1≤10*s.length:=by
 unfold toksF;split
 ·simp[szs]
 ·have:=uR (s.length+1) s [];simpa [szs]using this
theorem kz(s:Bs):szs Tok.sz (toksF s).1≤655360:=by
 have h:=ub s;by_cases hs:65536<s.length
 ·unfold toksF;rw[E8 hs];simp[szs]
 ·omega
end Go.Av
namespace Go.Av
open Go Go.Proofs Go.RowKit
attribute [local irreducible] WP WPl WPix Sat
variable (G:Nat→Option (List AVal))
def bA(s:Bs)(i:Nat):Nat:=(s.getD i 0).toNat
end Go.Av
