/- Laws of counts: what must come of every program (lives). -/
import Derived.Test.YtanjiiailjilbaaGreatMdNl
set_option linter.unusedSimpArgs false
set_option linter.unusedVariables false
set_option linter.unusedSectionVars false
set_option linter.unnecessarySimpa false
set_option maxRecDepth 100000
set_option maxHeartbeats 4000000
namespace Go.Av
open Go Go.Proofs Go.RowKit
attribute [local irreducible] WP WPl WPix Sat
set_option pp.deepTerms true
set_option pp.maxSteps 200000
theorem kR{h:Heap}{p v len n m i:Nat}{b:Bool}{rows:List AVal}(hg:getRow h p v=some (m,n,rows))(hl:rows.length=len)(hi:i≤len):elemsOf h n (.hs p v i (len-i) b)=some (rows.drop i):=by
 simp only[elemsOf,hg,true_and]
 rw[if_pos (by omega),List.take_of_length_le (by rw[List.length_drop];omega)]
theorem fE{h:Heap}{p v len n m:Nat}{b:Bool}{rows:List AVal}(hg:getRow h p v=some (m,n,rows))(hl:rows.length=len):elemsOf h n (.hs p v 0 len b)=some rows:=by
 simp only[elemsOf,hg,true_and]
 rw[if_pos (by omega),List.drop_zero,List.take_of_length_le (by omega)]
theorem mP{P:Program}{h:Heap}{T e p v n m:Nat}{rows:List AVal}{k:IntKind}(he:elmT P T=some e)(hg:getRow h p v=some (m,n,rows))(hn:szOf P e=some n):
  aslice P h T (.hs p v 0 0 true) (some (.int k ((0:Nat):Int))) none none=some (.hs p v 0 0 true):=by
 simp[aslice,he,hg,hn,optInt]
variable (G:Nat→Option (List AVal))
end Go.Av
namespace Go.Av
open Go Go.Proofs Go.RowKit
attribute [local irreducible] WP WPl WPix Sat
variable (G:Nat→Option (List AVal))
end Go.Av
namespace Go.Av
open Go Go.Proofs Go.RowKit
def sumZ:List Int→Int
 | []=>0
 |a::l=>a+sumZ l
def S2{α:Type}(F:List α)(L:List It)(P:α→It→Bool):Int:=sumZ (F.map fun g=>(L.countP (P g):Int))
variable {s:PS}
def PS.inn(s:PS)(id:Int):Int:=((lkM s.fo id).map (·.inn)).getD 0
end Go.Av
namespace Go.Av
open Go Go.Proofs Go.RowKit
variable {s:PS}
end Go.Av
namespace Go.Av
open Go Go.Proofs Go.RowKit
attribute [local irreducible] WP WPl WPix Sat
variable (G:Nat→Option (List AVal))
def PS.step1(s:PS)(e:Ev):PS:=if s.fits true (s.dpt e.b) e then s.aft e else s
theorem iq{s:PS}{e:Ev}(h:L0.ck e=true):s.step L0 e=s.step1 e:=by unfold PS.step PS.step1 PS.ok;rw[h]
theorem j5{e:Ev}(h1:L0.right e=true)(h2:usedE e=e):L0.ck e=true:=by unfold Leaf.ck;rw[h1,h2];simp
section
variable {Y:Heap} {n m:Nat} {s:PS} {c:CS}
end
end Go.Av
