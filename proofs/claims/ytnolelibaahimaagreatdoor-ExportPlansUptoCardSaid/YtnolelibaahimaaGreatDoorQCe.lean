/- Parts. -/
import Derived.Test.YtnolelibaahimaaGreatDoorQUa1
set_option linter.unusedSimpArgs false
set_option linter.unusedVariables false
set_option linter.unusedSectionVars false
set_option linter.unnecessarySimpa false
set_option maxRecDepth 100000
set_option maxHeartbeats 16000000
namespace Go.Av
open Go Go.Proofs Go.RowKit
section
abbrev T2:=Int×Int
def tA(t:T2):AVal:=.agg [.int .i64 t.1,.int .i64 t.2]
def tadd(a b:T2):T2:=(a.1+b.1,a.2+b.2)
structure CS where
 al:T2
 st:T2
 fo:ML Int T2
 fe:ML Int T2
 tg:ML Bs T2
 it:ML Int It
 inn:ML Int Int
 ab:ML Int Int
 c1:Nat
 c2:Nat
 c3:Nat
 c4:Nat
 c5:Nat
 c6:Nat
def CS.row(m:Nat)(c:CS):AVal:=.agg [.int .i64 c.al.1,.int .i64 c.al.2,.int .i64 c.st.1,.int .i64 c.st.2,.hm m,.hm (m+1),.hm (m+2),.hm (m+3),.hm (m+4),.hm (m+5)]
def CS.bl(m:Nat)(c:CS):List Blk:=
 [.mp (encM iA tA c.fo) c.c1,.mp (encM iA tA c.fe) c.c2,.mp (encM AVal.str tA c.tg) c.c3,.mp (encM iA It.av c.it) c.c4,.mp (encM iA iA c.inn) c.c5,.mp (encM iA iA c.ab) c.c6,.row 0 10 0 [c.row m]]
def CS.z:CS:=⟨(0,0),(0,0),[],[],[],[],[],[],0,0,0,0,0,0⟩
def co(H:Heap)(m:Nat)(c:CS):Heap:=ov H m (c.bl m)
section
variable {H:Heap} {m:Nat} {c:CS}
end
def negT(t:T2):T2:=(-t.1, -t.2)
def oneT(t:It):T2:=(1,if t.read then 0 else 1)
def foF(t:T2):List Int→ML Int T2→Nat→ML Int T2×Nat
 | [],l,k=>(l,k)
 |id::ch,l,k=>foF t ch (upM l k id (tadd ((lkM l id).getD (0,0)) t)) (ckM l k id)
def CS.shift(c:CS)(ch:List Int)(feed:Int)(t:T2):CS:=
 {c with al:=tadd c.al t,fe:=upM c.fe c.c2 feed (tadd ((lkM c.fe feed).getD (0,0)) t),c2:=ckM c.fe c.c2 feed,fo:=(foF t ch c.fo c.c1).1,c1:=(foF t ch c.fo c.c1).2}
def tg1F(n:T2)(g:Bs)(l:ML Bs T2)(k:Nat):ML Bs T2×Nat:=
 if (tadd ((lkM l g).getD (0,0)) n).1=0 then(dlM l g,k)else(upM l k g (tadd ((lkM l g).getD (0,0)) n),ckM l k g)
def tgsF(n:T2):List Bs→ML Bs T2→Nat→ML Bs T2×Nat
 | [],l,k=>(l,k)
 |g::gs,l,k=>tgsF n gs (tg1F n g l k).1 (tg1F n g l k).2
def CS.tag(c:CS)(g:Bs)(n:T2):CS:= {c with tg:=(tg1F n g c.tg c.c3).1,c3:=(tg1F n g c.tg c.c3).2}
def CS.tags(c:CS)(gs:List Bs)(n:T2):CS:= {c with tg:=(tgsF n gs c.tg c.c3).1,c3:=(tgsF n gs c.tg c.c3).2}
def CS.star(c:CS)(b:Bool)(n:T2):CS:= {c with st:=if b then tadd c.st n else c.st}
def CS.count(c:CS)(ch:List Int)(t:It)(n:T2):CS:=((c.shift ch t.feed n).star t.star n).tags t.tags n
def chO(ab:ML Int Int):Nat→Int→Option (List Int)
 |0,id=>if id=0 then some []else none
 |k+1,id=>if id=0 then some []else(chO ab k ((lkM ab id).getD 0)).map (id:: ·)
def CS.chn(c:CS)(feed:Int):List Int:=(chO c.ab 7 ((lkM c.inn feed).getD 0)).getD []
end
section
attribute [local irreducible] WP WPl WPix Sat
section
variable {C:Ctx} {ops:Array Oper} {rest:List Oper} {t:Env} {h:Heap} {K:Env→Prop} {dst:Option Nat} {ty:TypeId} {pos:String} {aft:Array Edge}
end
variable (G:Nat→Option (List AVal))
end
section
attribute [local irreducible] WP WPl WPix Sat
variable (G:Nat→Option (List AVal))
end
end Go.Av
