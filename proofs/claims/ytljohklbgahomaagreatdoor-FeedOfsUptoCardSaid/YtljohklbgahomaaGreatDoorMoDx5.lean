/- Moments and links of a feed of the second kind (atom), as the document reads them. -/
import Derived.Test.YtljohklbgahomaaGreatDoorMoDx8
set_option linter.unusedSimpArgs false
set_option linter.unusedVariables false
set_option linter.unusedSectionVars false
set_option linter.unnecessarySimpa false
set_option maxRecDepth 100000
set_option maxHeartbeats 16000000
namespace Go.Av
open Go Go.Proofs Go.RowKit
attribute [local irreducible] WP WPl WPix Sat
variable (G:Nat→Option (List AVal))
def DateR(F:FuncId)(f:Bs→Option Int):Prop:=∀s:Bs,s.length≤1048576→∀h,Sat (CT G) F [.str s] h (fun r h'=>r=.tup [.int .i64 ((f s).getD 0),.bool (f s).isSome]∧h'=h)
theorem mz(e:Elem)(hs:e.sz≤1048576)(ht:∀n,(kidF e n).1.text.length≤100000)
  (hM:∀h,Sat (CT G) 89 [e.av,.sl 1 [.str bPub,.str bDate]] h (fun r h'=>r=.tup [.int .i64 ((momL anyF e [bPub,bDate]).getD 0),.bool (momL anyF e [bPub,bDate]).isSome]∧h'=h))(h:Heap):Sat (CT G) 57 [e.av] h (fun r h'=>r=oEn (entR e)∧h'=h):=by
 have fT:=bh G e bTitle 256 hs (ht _) (by omega)
 have fL:=bh G e bLink 512 hs (ht _) (by omega)
 have fG:=bh G e bGuid 512 hs (ht _) (by omega)
 have hE:entR e=mkE (orF (fieldF e bGuid 512) (fieldF e bLink 512) (fieldF e bTitle 256)) (fieldF e bTitle 256) (fieldF e bLink 512) (momL anyF e [bPub,bDate]):=rfl
 rw[hE]
 generalize fieldF e bTitle 256=t at*
 generalize fieldF e bLink 512=l at*
 generalize fieldF e bGuid 512=g at*
 generalize momL anyF e [bPub,bDate]=m at*
 clear hE
 have hz:ofVal (.agg #[.string ⟨#[]⟩,.string ⟨#[]⟩,.string ⟨#[]⟩,.int .i64 0,.bool false])=.agg [.str [],.str [],.str [],.int .i64 0,.bool false]:=rfl
 have alt:(((g==([]:Bs))=false∧True)∨((g==([]:Bs))=true∧(l==([]:Bs))=false)∨((g==([]:Bs))=true∧(l==([]:Bs))=true∧(t==([]:Bs))=false))∨((g==([]:Bs))=true∧(l==([]:Bs))=true∧(t==([]:Bs))=true):=by
  by_cases a:g=[]<;>by_cases b:l=[]<;>by_cases c:t=[]<;>simp[a,b,c]
 rcases alt with alt|alt
 rotate_left
 ·have eo:oEn (mkE (orF g l t) t l m)=.tup [En.z.av,.bool false]:=by
   have a:g=[]:=by simpa using alt.1
   have b:l=[]:=by simpa using alt.2.1
   have c:t=[]:=by simpa using alt.2.2
   subst a b c;rfl
  rw[eo]
  have nn:(([]:Bs)==([]:Bs))=true:=rfl
  have F:=F4 @alt nn hz @ai
  skip
  refine sb [.cell 2 48,.tmp 3] (fn:=Tryz.f57) Tryz.func57 ?_
  intro Q hQ
  refine wn F ?_
  refine az 7 7 _ (by rfl) (by decide+kernel) (by kernel_rfl) (by decide+kernel) (by decide+kernel) (by decide+kernel) ?_
  simp only[List.take_succ_cons,List.take_zero]
  refine sq F ?_
  refine wn F ?_
  refine aa (fG _) ?_
  try refine sq F ?_
  refine wn F ?_
  refine aa (fT _) ?_
  try refine sq F ?_
  refine wn F ?_
  refine aa (fL _) ?_
  try refine sq F ?_
  refine wn F ?_
  try refine⟨by decide+kernel,?_⟩
  try refine sq F ?_
  refine⟨?_,?_⟩
  ·refine aa (fG _) ?_
   try refine sq F ?_
   refine wn F ?_
   refine aa (fT _) ?_
   try refine sq F ?_
   refine wn F ?_
   refine aa (fL _) ?_
   try refine sq F ?_
   refine wn F ?_
   all_goals first|exact zq F|trivial| (refine sq F ?_;trivial)
  skip
  try refine sq F ?_
  refine wk F ?_
  refine ye hQ F ?_
  exact Fin.plain (bd _ En.z _) ⟨rfl,rfl⟩
 ·obtain⟨u,hu⟩:∃u,u=orF g l t:=⟨_,rfl⟩
  rw[← hu]
  have un:u≠ []∧(((g==([]:Bs))=false∧u=g)∨((g==([]:Bs))=true∧(l==([]:Bs))=false∧u=l)∨((g==([]:Bs))=true∧(l==([]:Bs))=true∧(t==([]:Bs))=false∧u=t)):=by
   rw[hu];unfold orF
   rcases alt with⟨a,_⟩| ⟨a,b⟩| ⟨a,b,c⟩
   ·have a':g≠ []:=by simpa using a
    simp[a']
   ·have a':g=[]:=by simpa using a
    have b':l≠ []:=by simpa using b
    simp[a',b']
   ·have a':g=[]:=by simpa using a
    have b':l=[]:=by simpa using b
    have c':t≠ []:=by simpa using c
    simp[a',b',c']
  obtain⟨hu0,un⟩:=un
  have eo:oEn (mkE u t l m)=.tup [(⟨u,t,l,m.getD 0,m.isSome⟩:En).av,.bool true]:=by unfold mkE;rw[if_neg hu0];rfl
  rw[eo]
  clear hu alt eo
  rcases un with⟨a,rfl⟩| ⟨a,b,rfl⟩| ⟨a,b,c,rfl⟩
  ·have F:=F3 a hz @ai
   skip
   refine sb [.cell 2 48,.tmp 3] (fn:=Tryz.f57) Tryz.func57 ?_
   intro Q hQ
   refine wn F ?_
   refine az 7 7 _ (by rfl) (by decide+kernel) (by kernel_rfl) (by decide+kernel) (by decide+kernel) (by decide+kernel) ?_
   simp only[List.take_succ_cons,List.take_zero]
   refine sq F ?_
   refine wn F ?_
   refine aa (fG _) ?_
   try refine sq F ?_
   refine wn F ?_
   refine aa (fT _) ?_
   try refine sq F ?_
   refine wn F ?_
   refine aa (fL _) ?_
   try refine sq F ?_
   refine wn F ?_
   try refine⟨by decide+kernel,?_⟩
   try refine sq F ?_
   refine⟨?_,?_⟩
   ·refine aa (fG _) ?_
    try refine sq F ?_
    refine wn F ?_
    refine aa (fT _) ?_
    try refine sq F ?_
    refine wn F ?_
    refine aa (fL _) ?_
    try refine sq F ?_
    refine wn F ?_
    all_goals first|exact zq F|trivial| (refine sq F ?_;trivial)
   skip
   try refine sq F ?_
   refine wk F ?_
   refine kq F (hM _) ?_
   refine ye hQ F ?_
   exact Fin.plain (bd _ (⟨_,_,_,m.getD 0,m.isSome⟩:En) _) ⟨rfl,rfl⟩
  ·have F:=F4 a b hz @ai
   skip
   refine sb [.cell 2 48,.tmp 3] (fn:=Tryz.f57) Tryz.func57 ?_
   intro Q hQ
   refine wn F ?_
   refine az 7 7 _ (by rfl) (by decide+kernel) (by kernel_rfl) (by decide+kernel) (by decide+kernel) (by decide+kernel) ?_
   simp only[List.take_succ_cons,List.take_zero]
   refine sq F ?_
   refine wn F ?_
   refine aa (fG _) ?_
   try refine sq F ?_
   refine wn F ?_
   refine aa (fT _) ?_
   try refine sq F ?_
   refine wn F ?_
   refine aa (fL _) ?_
   try refine sq F ?_
   refine wn F ?_
   try refine⟨by decide+kernel,?_⟩
   try refine sq F ?_
   refine⟨?_,?_⟩
   ·refine aa (fG _) ?_
    try refine sq F ?_
    refine wn F ?_
    refine aa (fT _) ?_
    try refine sq F ?_
    refine wn F ?_
    refine aa (fL _) ?_
    try refine sq F ?_
    refine wn F ?_
    all_goals first|exact zq F|trivial| (refine sq F ?_;trivial)
   skip
   try refine sq F ?_
   refine wk F ?_
   refine kq F (hM _) ?_
   refine ye hQ F ?_
   exact Fin.plain (bd _ (⟨_,_,_,m.getD 0,m.isSome⟩:En) _) ⟨rfl,rfl⟩
  ·have F:=F5 a b c hz @ai
   skip
   refine sb [.cell 2 48,.tmp 3] (fn:=Tryz.f57) Tryz.func57 ?_
   intro Q hQ
   refine wn F ?_
   refine az 7 7 _ (by rfl) (by decide+kernel) (by kernel_rfl) (by decide+kernel) (by decide+kernel) (by decide+kernel) ?_
   simp only[List.take_succ_cons,List.take_zero]
   refine sq F ?_
   refine wn F ?_
   refine aa (fG _) ?_
   try refine sq F ?_
   refine wn F ?_
   refine aa (fT _) ?_
   try refine sq F ?_
   refine wn F ?_
   refine aa (fL _) ?_
   try refine sq F ?_
   refine wn F ?_
   try refine⟨by decide+kernel,?_⟩
   try refine sq F ?_
   refine⟨?_,?_⟩
   ·refine aa (fG _) ?_
    try refine sq F ?_
    refine wn F ?_
    refine aa (fT _) ?_
    try refine sq F ?_
    refine wn F ?_
    refine aa (fL _) ?_
    try refine sq F ?_
    refine wn F ?_
    all_goals first|exact zq F|trivial| (refine sq F ?_;trivial)
   skip
   try refine sq F ?_
   refine wk F ?_
   refine kq F (hM _) ?_
   refine ye hQ F ?_
   exact Fin.plain (bd _ (⟨_,_,_,m.getD 0,m.isSome⟩:En) _) ⟨rfl,rfl⟩
end Go.Av
namespace Go.Av
open Go Go.Proofs Go.RowKit
attribute [local irreducible] WP WPl WPix Sat
variable (G:Nat→Option (List AVal))
theorem kI(hA:DateR G 132 anyF)(e:Elem)(l:List Bs)(hs:e.sz≤1048576)(hl:l.length≤1048576)(ht:∀n,(kidF e n).1.text.length≤100000)(h:Heap):Sat (CT G) 89 [e.av,.sl 1 (l.map .str)] h (fun r h'=>r=.tup [.int .i64 ((momL anyF e l).getD 0),.bool (momL anyF e l).isSome]∧h'=h):=by
 have ml:(l.map AVal.str).length=l.length:=List.length_map ..
 have F:=F2 ml @ai
 refine sb [.tmp 4,.tmp 5] (fn:=Tryz.f89) Tryz.func89 ?_
 intro Q hQ
 refine wk F ?_
 refine lm (fun nL tL hL=>∃(k:Nat) (j:Heap),l.length-k=nL∧h++ .row 35 4 0 [e.av]::j=hL∧tL 6=.int .i64 k∧k≤l.length∧momL anyF e (l.drop k)=momL anyF e l) ((fun(k:Nat) (j:Heap)=>(l.length-k:Nat)) (0) ([])) ?_ ?_
 ·refine Wkn.refl ⟨0,[],rfl,ay,?_,by omega,rfl⟩
  all_goals first|exact zq F|rfl|omega|trivial|skip
 rintro _ s2 h' ⟨k,j,rfl,rfl,e6,hk,hp⟩ K2 hK2
 simp only[ak,ao,Nat.reduceEqDiff, ↓reduceIte]at e6
 have F:=F2 F e6
 by_cases c1:k<l.length
 ·obtain⟨x,hx,_⟩:=af c1
  have d1:=decide_eq_true c1
  have hKd:=fC G e x hs
  have htx:=ht x
  rw[dr anyF e hx]at hp
  have hm:momE anyF e x=if (kidF e x).2 then anyF (cleanF (kidF e x).1.text)else none:=rfl
  rw[hm]at hp
  generalize kidF e x=kk at*
  obtain⟨⟨k1,k2,k3,k4⟩,is⟩:=kk
  have htx:k3.length≤100000:=htx
  have hC:=cV G k3 htx
  have hcl:=bH k3
  have hD:=hA (cleanF k3) (by omega)
  have hp:(match (if is then anyF (cleanF k3)else none)with|some v=>some v|none=>momL anyF e (l.drop (k+1)))=momL anyF e l:=hp
  generalize anyF (cleanF k3)=o at hp hD
  have alt:(∃v,is=true∧o=some v)∨(is=false∧True)∨(is=true∧o=none):=by
   cases is<;>cases o<;>simp
  rcases alt with⟨v,rfl,rfl⟩| ⟨rfl,_⟩| ⟨rfl,rfl⟩
  ·have hp:some v=momL anyF e l:=hp
   have hD:∀h,Sat (CT G) 132 [.str (cleanF k3)] h (fun r h'=>r=.tup [.int .i64 v,.bool true]∧h'=h):=hD
   have F:=F3 F hx d1
   skip
   try refine sq F ?_
   refine wn F ?_
   refine ba 11 [9,10] [true,true,true,true,true,true,true,true,true,false,false] (.one 9 [true,false,false,true,true,true] (.one 10 [] .fin)) (by decide+kernel) (by kernel_rfl) (by decide+kernel) ?_
   simp only[bn,bo,aT]
   try refine sq F ?_
   repeat' (first| (refine ar ?_;try refine sq F ?_)| (refine au ?_;try refine sq F ?_)| (refine aw ?_ ?_<;>try refine sq F ?_))
   all_goals try refine wn F ?_
   refine aa (hKd _) ?_
   try refine sq F ?_
   refine wn F ?_
   repeat' (first| (refine ar ?_;try refine sq F ?_)| (refine au ?_;try refine sq F ?_)| (refine aw ?_ ?_<;>try refine sq F ?_))
   all_goals try refine wn F ?_
   refine⟨aa (hKd _) ?_,?_⟩
   ·first|exact zq F|trivial| (refine sq F ?_;trivial)
   repeat' (first| (refine ar ?_;try refine sq F ?_)| (refine au ?_;try refine sq F ?_)| (refine aw ?_ ?_<;>try refine sq F ?_))
   all_goals try refine wn F ?_
   skip
   refine kq F (hC _) ?_
   refine kq F (hD _) ?_
   refine ee hQ F ?_
   exact Fin.plain (bg _ _ _) ⟨by rw[← hp];rfl,rfl⟩
  ·have hp:momL anyF e (l.drop (k+1))=momL anyF e l:=hp
   have F:=F3 F hx d1
   skip
   try refine sq F ?_
   refine wn F ?_
   refine ba 11 [9,10] [true,true,true,true,true,true,true,true,true,false,false] (.one 9 [true,false,false,true,true,true] (.one 10 [] .fin)) (by decide+kernel) (by kernel_rfl) (by decide+kernel) ?_
   simp only[bn,bo,aT]
   try refine sq F ?_
   repeat' (first| (refine ar ?_;try refine sq F ?_)| (refine au ?_;try refine sq F ?_)| (refine aw ?_ ?_<;>try refine sq F ?_))
   all_goals try refine wn F ?_
   refine aa (hKd _) ?_
   try refine sq F ?_
   refine wn F ?_
   repeat' (first| (refine ar ?_;try refine sq F ?_)| (refine au ?_;try refine sq F ?_)| (refine aw ?_ ?_<;>try refine sq F ?_))
   all_goals try refine wn F ?_
   refine⟨aa (hKd _) ?_,?_⟩
   ·first|exact zq F|trivial| (refine sq F ?_;trivial)
   repeat' (first| (refine ar ?_;try refine sq F ?_)| (refine au ?_;try refine sq F ?_)| (refine aw ?_ ?_<;>try refine sq F ?_))
   all_goals try refine wn F ?_
   skip
   refine kq F (hC _) ?_
   refine kq F (hD _) ?_
   refine hK2 _ _ _ (Wkn.refl ⟨k+1,j++[.row 35 4 0 [Elem.av ⟨k1,k2,k3,k4⟩]],rfl,by simp,?_,by omega,hp⟩) (by omega)
   all_goals first|exact zq F|rfl|omega|trivial|skip
  ·have hp:momL anyF e (l.drop (k+1))=momL anyF e l:=hp
   have hD:∀h,Sat (CT G) 132 [.str (cleanF k3)] h (fun r h'=>r=.tup [.int .i64 0,.bool false]∧h'=h):=hD
   have F:=F3 F hx d1
   skip
   try refine sq F ?_
   refine wn F ?_
   refine ba 11 [9,10] [true,true,true,true,true,true,true,true,true,false,false] (.one 9 [true,false,false,true,true,true] (.one 10 [] .fin)) (by decide+kernel) (by kernel_rfl) (by decide+kernel) ?_
   simp only[bn,bo,aT]
   try refine sq F ?_
   repeat' (first| (refine ar ?_;try refine sq F ?_)| (refine au ?_;try refine sq F ?_)| (refine aw ?_ ?_<;>try refine sq F ?_))
   all_goals try refine wn F ?_
   refine aa (hKd _) ?_
   try refine sq F ?_
   refine wn F ?_
   repeat' (first| (refine ar ?_;try refine sq F ?_)| (refine au ?_;try refine sq F ?_)| (refine aw ?_ ?_<;>try refine sq F ?_))
   all_goals try refine wn F ?_
   refine⟨aa (hKd _) ?_,?_⟩
   ·first|exact zq F|trivial| (refine sq F ?_;trivial)
   repeat' (first| (refine ar ?_;try refine sq F ?_)| (refine au ?_;try refine sq F ?_)| (refine aw ?_ ?_<;>try refine sq F ?_))
   all_goals try refine wn F ?_
   skip
   refine kq F (hC _) ?_
   refine kq F (hD _) ?_
   refine hK2 _ _ _ (Wkn.refl ⟨k+1,j++[.row 35 4 0 [Elem.av ⟨k1,k2,k3,k4⟩]],rfl,by simp,?_,by omega,hp⟩) (by omega)
   all_goals first|exact zq F|rfl|omega|trivial|skip
 ·have d1:=decide_eq_false c1
  have hp:momL anyF e l=none:=by
   rw[← hp,List.drop_of_length_le (by omega)];rfl
  have F:=F2 F d1
  try refine sq F ?_
  refine wk F ?_
  refine ee hQ F ?_
  exact Fin.plain (bg _ _ _) ⟨by rw[hp];rfl,rfl⟩
end Go.Av
namespace Go.Av
open Go Go.Proofs Go.RowKit
attribute [local irreducible] WP WPl WPix Sat
variable (G:Nat→Option (List AVal))
theorem nS(hA:DateR G 132 anyF)(e:Elem)(hs:e.sz≤1048576)(hu:∀n,(kidF (kidF e bChan).1 n).1.text.length≤100000)(hti:∀x∈kidsF (kidF e bChan).1 bItem,∀n,(kidF x n).1.text.length≤100000)(h:Heap):Sat (CT G) 29 [e.av] h (fun r h'=>r=oFd (rssF e)∧h'=h):=by
 have hKd:=fC G e bChan hs
 have hSh:=fa G e.name (by have:=Elem.sz_eq e;omega)
 have hc:(kidF e bChan).1.sz≤1048576:=by
  unfold kidF
  split
  ·show 1≤_;omega
  ·rename_i k l hk
   exact bD hs (by rw[hk];simp)
 have hR:rssF e=if (kidF e bChan).2&&decide (short e.name=bRss)then some ⟨fieldF (kidF e bChan).1 bTitle 256,fieldF (kidF e bChan).1 bLink 512,entsF entR (kidsF (kidF e bChan).1 bItem)⟩else none:=rfl
 rw[hR]
 clear hR
 generalize short e.name=sn at*
 generalize kidF e bChan=kk at*
 obtain⟨c,is⟩:=kk
 simp only[]at hc hu hti
 have fT:=bh G c bTitle 256 hc (hu _) (by omega)
 have fL:=bh G c bLink 512 hc (hu _) (by omega)
 have hKs:=dX G c bItem hc
 have hsz:∀k∈kidsF c bItem,k.sz≤1048576:=fun k hk=>bD hc hk
 have hln:=bZ c bItem hc
 generalize fieldF c bTitle 256=t at*
 generalize fieldF c bLink 512=l at*
 generalize kidsF c bItem=ks at*
 have mk:(ks.map Elem.av).length=ks.length:=List.length_map ..
 obtain⟨e1,e2,e3,e4⟩:=e
 cases is with
 |false=>
  have d:(false&&decide (sn=bRss))=false:=rfl
  simp only[d]
  cases hq:(sn==bRss)with
  |true=>
   have q:(sn==bRss)=true:=hq
   unfold bRss at q
   have F:=F2 q @ai
   refine sb [.cell 2 25,.tmp 3] (fn:=Tryz.f29) Tryz.func29 ?_
   intro Q hQ
   refine wk F ?_
   refine kq F (hKd _) ?_
   refine kq F (hSh _) ?_
   refine ye hQ F ?_
   exact Fin.frz (cu _ _) ⟨rfl,rfl⟩
  |false=>
   have q:(sn==bRss)=false:=hq
   unfold bRss at q
   have F:=F2 q @ai
   refine sb [.cell 2 25,.tmp 3] (fn:=Tryz.f29) Tryz.func29 ?_
   intro Q hQ
   refine wk F ?_
   refine kq F (hKd _) ?_
   refine kq F (hSh _) ?_
   refine ye hQ F ?_
   exact Fin.frz (cu _ _) ⟨rfl,rfl⟩
 |true=>
  by_cases hn:sn=bRss
  rotate_left
  ·have q:(sn==bRss)=false:=by simpa using hn
   unfold bRss at q
   have d:(true&&decide (sn=bRss))=false:=by simp[hn]
   simp only[d]
   have F:=F2 q @ai
   refine sb [.cell 2 25,.tmp 3] (fn:=Tryz.f29) Tryz.func29 ?_
   intro Q hQ
   refine wk F ?_
   refine kq F (hKd _) ?_
   refine kq F (hSh _) ?_
   refine ye hQ F ?_
   exact Fin.frz (cu _ _) ⟨rfl,rfl⟩
  have q:(sn==bRss)=true:=by simpa using hn
  unfold bRss at q
  have d:(true&&decide (sn=bRss))=true:=by simp[hn]
  simp only[d]
  clear d
  have hz:ofVal (.agg #[.string ⟨#[]⟩,.string ⟨#[]⟩,.slice none 0 0])=.agg [.str [],.str [],.nil (.slice none 0 0)]:=rfl
  have F:=F4 q hz mk @ai
  skip
  refine sb [.cell 2 25,.tmp 3] (fn:=Tryz.f29) Tryz.func29 ?_
  intro Q hQ
  refine wn F ?_
  refine kn F (hKd _) ?_
  refine kn F (hSh _) ?_
  refine az 5 5 _ (by rfl) (by decide+kernel) (by kernel_rfl) (by decide+kernel) (by decide+kernel) (by decide+kernel) ?_
  simp only[List.take_succ_cons,List.take_zero]
  refine sq F ?_
  refine wn F ?_
  refine aa (fT _) ?_
  try refine sq F ?_
  refine wn F ?_
  refine aa (fL _) ?_
  try refine sq F ?_
  refine wn F ?_
  refine⟨?_,?_⟩
  ·refine aa (fT _) ?_
   try refine sq F ?_
   refine wn F ?_
   refine aa (fL _) ?_
   try refine sq F ?_
   refine wn F ?_
   all_goals first|exact zq F|trivial| (refine sq F ?_;trivial)
  skip
  try refine sq F ?_
  refine wk F ?_
  refine kq F (hKs _) ?_
  refine lm (fun nL tL hL=>∃(k v:Nat) (es:List En) (j:Heap),ks.length-k=nL∧h++ .row 35 4 0 [Elem.av ⟨e1,e2,e3,e4⟩]:: .row 25 3 0 [.agg [.str [],.str [],.nil (.slice none 0 0)]]:: .row 35 4 0 [c.av]:: .row 25 3 0 [.agg [.str t,.str l,.hs (h.length+4) v 0 es.length true]]:: .row 48 5 v (es.map En.av)::j=hL∧tL 8=.int .i64 k∧k≤ks.length∧es=entsF entR (ks.take k)) ((fun(k v:Nat) (es:List En) (j:Heap)=>(ks.length-k:Nat)) (0) (0) ([]) ([])) ?_ ?_
  ·refine⟨_,_,Weak.virtCell (p:=h.length+3) (v:=0) 48 5 (by omega) (by simp(disch:=first|omega| (simp only[go_sem, ↓reduceIte,seval];first|done|omega)|fail) only[go_sem, ↓reduceIte,seval,F];rfl) 2 rfl,⟨0,0,[],[],rfl,(by simp),?_,by omega,rfl⟩⟩
   all_goals first|exact zq F|rfl|omega|trivial|skip
  rintro _ s2 h' ⟨k,v,es,j,rfl,rfl,e8,hk,ho⟩ K2 hK2
  simp only[ak,ao,Nat.reduceEqDiff, ↓reduceIte]at e8
  have F:=F2 F e8
  have hel:es.length≤256:=by rw[ho];unfold entsF;rw[List.length_take];omega
  have me:(es.map En.av).length=es.length:=List.length_map ..
  by_cases c1:k<ks.length
  ·obtain⟨x,hx,hxm⟩:=af c1
   have d1:=decide_eq_true c1
   have hE:=mz G x (hsz x hxm) (hti x hxm) (kI G hA x [bPub,bDate] (hsz x hxm) (by decide) (hti x hxm))
   have hst:=eh entR hx
   rw[← ho]at hst
   cases hv:entR x with
   |none=>
    rw[hv]at hE hst
    have hE:∀h,Sat (CT G) 57 [x.av] h (fun r h'=>r=.tup [En.z.av,.bool false]∧h'=h):=hE
    have F:=F4 F hx d1 me
    try refine sq F ?_
    refine wk F ?_
    have hst:entsF entR (ks.take (k+1))=es:=hst
    refine kq F (hE _) ?_
    refine hK2 _ _ _ (Wkn.refl ⟨k+1,v,es,j++[.row 48 5 0 [En.z.av]],rfl,by simp[En.av,En.z],?_,by omega,hst.symm⟩) (by omega)
    all_goals first|exact zq F|rfl|omega|trivial|skip
   |some y=>
    rw[hv]at hE hst
    have hE:∀h,Sat (CT G) 57 [x.av] h (fun r h'=>r=.tup [y.av,.bool true]∧h'=h):=hE
    have hst:entsF entR (ks.take (k+1))=if es.length<256 then es++[y]else es:=hst
    by_cases c2:es.length<256
    ·have d2:decide ((es.length:Int)<256)=true:=decide_eq_true (by omega)
     rw[if_pos c2]at hst
     have F:=F5 F hx d1 d2 me
     try refine sq F ?_
     refine wk F ?_
     refine kq F (hE _) ?_
     refine aq F ?_
     try refine sq F ?_
     refine wk F ?_
     refine hK2 _ _ _ (Wkn.refl ⟨k+1,v+1,es++[y],j++[.row 48 5 0 [y.av]],rfl,by simp[En.av],?_,by omega,hst.symm⟩) (by omega)
     all_goals first|exact zq F|rfl|omega|trivial|skip
    ·have d2:decide ((es.length:Int)<256)=false:=decide_eq_false (by omega)
     rw[if_neg c2]at hst
     have F:=F5 F hx d1 d2 me
     try refine sq F ?_
     refine wk F ?_
     refine kq F (hE _) ?_
     refine hK2 _ _ _ (Wkn.refl ⟨k+1,v,es,j++[.row 48 5 0 [y.av]],rfl,by simp[En.av],?_,by omega,hst.symm⟩) (by omega)
     all_goals first|exact zq F|rfl|omega|trivial|skip
  ·have d1:=decide_eq_false c1
   rw[List.take_of_length_le (by omega)]at ho
   have F:=F3 F d1 me
   try refine sq F ?_
   refine wk F ?_
   refine ye hQ F ?_
   rw[← ho]
   exact Fin.frz (jW t l es true (by omega) (by rw[fe _ rfl];show(if v=v then _ else _)=_;rw[if_pos rfl])) ⟨rfl,rfl⟩
end Go.Av
namespace Go.Av
open Go Go.Proofs Go.RowKit
attribute [local irreducible] WP WPl WPix Sat
variable (G:Nat→Option (List AVal))
theorem jX(hA:DateR G 133 webR)(e:Elem)(hs:e.sz≤1048576)(ht:∀n,(kidF e n).1.text.length≤100000)(h:Heap):Sat (CT G) 91 [e.av] h (fun r h'=>r=.tup [.int .i64 ((momL webR e updL).getD 0),.bool (momL webR e updL).isSome]∧h'=h):=by
 obtain⟨l,hl⟩:∃l,l=updL:=⟨_,rfl⟩
 have hll:l.length=3:=by rw[hl];rfl
 have hg:∀(k:Nat) (x:Bs),l[k]? =some x→([.str [117,112,100,97,116,101,100],.str [112,117,98,108,105,115,104,101,100],.str [105,115,115,117,101,100]]:List AVal)[k]? =some (.str x):=fun k x hx=>by
  have:(l.map AVal.str)[k]? =some (.str x):=by rw[List.getElem?_map,hx];rfl
  rw[hl]at this;exact this
 rw[← hl]
 have F:= @ai
 refine sb [.tmp 2,.tmp 3] (fn:=Tryz.f91) Tryz.func91 ?_
 intro Q hQ
 refine wk F ?_
 refine lm (fun nL tL hL=>∃(k:Nat) (j:Heap),l.length-k=nL∧h++ .row 35 4 0 [e.av]::j=hL∧tL 5=.int .i64 k∧k≤l.length∧momL webR e (l.drop k)=momL webR e l) ((fun(k:Nat) (j:Heap)=>(l.length-k:Nat)) (0) ([])) ?_ ?_
 ·refine Wkn.refl ⟨0,[],rfl,ay,?_,by omega,rfl⟩
  all_goals first|exact zq F|rfl|omega|trivial|skip
 rintro _ s2 h' ⟨k,j,rfl,rfl,e5,hk,hp⟩ K2 hK2
 simp only[ak,ao,Nat.reduceEqDiff, ↓reduceIte]at e5
 have F:=F2 F e5
 by_cases c1:k<l.length
 ·obtain⟨x,hx,_⟩:=af c1
  have d1:decide ((k:Int)<3)=true:=decide_eq_true (by omega)
  have hgx:=hg k x hx
  have hKd:=fC G e x hs
  have htx:=ht x
  rw[dr webR e hx]at hp
  have hm:momE webR e x=if (kidF e x).2 then webR (cleanF (kidF e x).1.text)else none:=rfl
  rw[hm]at hp
  generalize kidF e x=kk at*
  obtain⟨⟨k1,k2,k3,k4⟩,is⟩:=kk
  have htx:k3.length≤100000:=htx
  have hC:=cV G k3 htx
  have hcl:=bH k3
  have hD:=hA (cleanF k3) (by omega)
  have hp:(match (if is then webR (cleanF k3)else none)with|some v=>some v|none=>momL webR e (l.drop (k+1)))=momL webR e l:=hp
  generalize webR (cleanF k3)=o at hp hD
  have alt:(∃v,is=true∧o=some v)∨(is=false∧True)∨(is=true∧o=none):=by
   cases is<;>cases o<;>simp
  rcases alt with⟨v,rfl,rfl⟩| ⟨rfl,_⟩| ⟨rfl,rfl⟩
  ·have hp:some v=momL webR e l:=hp
   have hD:∀h,Sat (CT G) 133 [.str (cleanF k3)] h (fun r h'=>r=.tup [.int .i64 v,.bool true]∧h'=h):=hD
   have F:=F3 F hgx d1
   skip
   try refine sq F ?_
   refine wn F ?_
   refine ba 11 [9,10] [true,true,true,true,true,true,true,true,true,false,false] (.one 9 [true,false,false,true,true,true] (.one 10 [] .fin)) (by decide+kernel) (by kernel_rfl) (by decide+kernel) ?_
   simp only[bn,bo,aT]
   try refine sq F ?_
   repeat' (first| (refine ar ?_;try refine sq F ?_)| (refine au ?_;try refine sq F ?_)| (refine aw ?_ ?_<;>try refine sq F ?_))
   all_goals try refine wn F ?_
   refine aa (hKd _) ?_
   try refine sq F ?_
   refine wn F ?_
   repeat' (first| (refine ar ?_;try refine sq F ?_)| (refine au ?_;try refine sq F ?_)| (refine aw ?_ ?_<;>try refine sq F ?_))
   all_goals try refine wn F ?_
   refine⟨aa (hKd _) ?_,?_⟩
   ·first|exact zq F|trivial| (refine sq F ?_;trivial)
   repeat' (first| (refine ar ?_;try refine sq F ?_)| (refine au ?_;try refine sq F ?_)| (refine aw ?_ ?_<;>try refine sq F ?_))
   all_goals try refine wn F ?_
   skip
   refine kq F (hC _) ?_
   refine kq F (hD _) ?_
   refine ee hQ F ?_
   exact Fin.plain (bg _ _ _) ⟨by rw[← hp];rfl,rfl⟩
  ·have hp:momL webR e (l.drop (k+1))=momL webR e l:=hp
   have F:=F3 F hgx d1
   skip
   try refine sq F ?_
   refine wn F ?_
   refine ba 11 [9,10] [true,true,true,true,true,true,true,true,true,false,false] (.one 9 [true,false,false,true,true,true] (.one 10 [] .fin)) (by decide+kernel) (by kernel_rfl) (by decide+kernel) ?_
   simp only[bn,bo,aT]
   try refine sq F ?_
   repeat' (first| (refine ar ?_;try refine sq F ?_)| (refine au ?_;try refine sq F ?_)| (refine aw ?_ ?_<;>try refine sq F ?_))
   all_goals try refine wn F ?_
   refine aa (hKd _) ?_
   try refine sq F ?_
   refine wn F ?_
   repeat' (first| (refine ar ?_;try refine sq F ?_)| (refine au ?_;try refine sq F ?_)| (refine aw ?_ ?_<;>try refine sq F ?_))
   all_goals try refine wn F ?_
   refine⟨aa (hKd _) ?_,?_⟩
   ·first|exact zq F|trivial| (refine sq F ?_;trivial)
   repeat' (first| (refine ar ?_;try refine sq F ?_)| (refine au ?_;try refine sq F ?_)| (refine aw ?_ ?_<;>try refine sq F ?_))
   all_goals try refine wn F ?_
   skip
   refine kq F (hC _) ?_
   refine kq F (hD _) ?_
   refine hK2 _ _ _ (Wkn.refl ⟨k+1,j++[.row 35 4 0 [Elem.av ⟨k1,k2,k3,k4⟩]],rfl,by simp,?_,by omega,hp⟩) (by omega)
   all_goals first|exact zq F|rfl|omega|trivial|skip
  ·have hp:momL webR e (l.drop (k+1))=momL webR e l:=hp
   have hD:∀h,Sat (CT G) 133 [.str (cleanF k3)] h (fun r h'=>r=.tup [.int .i64 0,.bool false]∧h'=h):=hD
   have F:=F3 F hgx d1
   skip
   try refine sq F ?_
   refine wn F ?_
   refine ba 11 [9,10] [true,true,true,true,true,true,true,true,true,false,false] (.one 9 [true,false,false,true,true,true] (.one 10 [] .fin)) (by decide+kernel) (by kernel_rfl) (by decide+kernel) ?_
   simp only[bn,bo,aT]
   try refine sq F ?_
   repeat' (first| (refine ar ?_;try refine sq F ?_)| (refine au ?_;try refine sq F ?_)| (refine aw ?_ ?_<;>try refine sq F ?_))
   all_goals try refine wn F ?_
   refine aa (hKd _) ?_
   try refine sq F ?_
   refine wn F ?_
   repeat' (first| (refine ar ?_;try refine sq F ?_)| (refine au ?_;try refine sq F ?_)| (refine aw ?_ ?_<;>try refine sq F ?_))
   all_goals try refine wn F ?_
   refine⟨aa (hKd _) ?_,?_⟩
   ·first|exact zq F|trivial| (refine sq F ?_;trivial)
   repeat' (first| (refine ar ?_;try refine sq F ?_)| (refine au ?_;try refine sq F ?_)| (refine aw ?_ ?_<;>try refine sq F ?_))
   all_goals try refine wn F ?_
   skip
   refine kq F (hC _) ?_
   refine kq F (hD _) ?_
   refine hK2 _ _ _ (Wkn.refl ⟨k+1,j++[.row 35 4 0 [Elem.av ⟨k1,k2,k3,k4⟩]],rfl,by simp,?_,by omega,hp⟩) (by omega)
   all_goals first|exact zq F|rfl|omega|trivial|skip
 ·have d1:decide ((k:Int)<3)=false:=decide_eq_false (by omega)
  have hp:momL webR e l=none:=by
   rw[← hp,List.drop_of_length_le (by omega)];rfl
  have F:=F2 F d1
  try refine sq F ?_
  refine wk F ?_
  refine ee hQ F ?_
  exact Fin.plain (bg _ _ _) ⟨by rw[hp];rfl,rfl⟩
theorem iT(e:Elem)(hs:e.sz≤1048576)(ht:∀k∈kidsF e bLink,(attrF k.attrs bHref).1.length≤100000)(h:Heap):Sat (CT G) 58 [e.av] h (fun r h'=>r=.str (linkA e)∧h'=h):=by
 have hKs:=dX G e bLink hs
 have hsz:∀k∈kidsF e bLink,k.sz≤1048576:=fun k hk=>bD hs hk
 have hln:=bZ e bLink hs
 have hE:linkA e=match (kidsF e bLink).find? linkP with
  |some k=>shortF (attrF k.attrs bHref).1 512
  |none=>[]:=rfl
 rw[hE]
 clear hE
 generalize kidsF e bLink=ks at*
 have mk:(ks.map Elem.av).length=ks.length:=List.length_map ..
 have F:=F2 mk @ai
 refine sb [.tmp 2] (fn:=Tryz.f58) Tryz.func58 ?_
 intro Q hQ
 refine wk F ?_
 refine kq F (hKs _) ?_
 refine lm (fun nL tL hL=>∃(k:Nat),ks.length-k=nL∧h++[.row 35 4 0 [e.av]]=hL∧tL 4=.int .i64 k∧k≤ks.length∧(ks.drop k).find? linkP=ks.find? linkP) ((fun(k:Nat)=>(ks.length-k:Nat)) (0)) ?_ ?_
 ·refine Wkn.refl ⟨0,rfl,ay,?_,by omega,rfl⟩
  all_goals first|exact zq F|rfl|omega|trivial|skip
 rintro _ s2 h' ⟨k,rfl,rfl,e4,hk,hp⟩ K2 hK2
 simp only[ak,ao,Nat.reduceEqDiff, ↓reduceIte]at e4
 have F:=F2 F e4
 by_cases c1:k<ks.length
 ·obtain⟨x,hx,hxm⟩:=af c1
  have d1:=decide_eq_true c1
  have hR:=jG G x bRel (hsz x hxm)
  have hH:=jG G x bHref (hsz x hxm)
  have htx:=ht x hxm
  have hSh:=fp G (attrF x.attrs bHref).1 512 htx (by omega)
  rw[aD hx,List.find?_cons]at hp
  have hl:linkP x=((attrF x.attrs bHref).2&&(!(attrF x.attrs bRel).2||decide ((attrF x.attrs bRel).1=bAlt))):=rfl
  have hyes:linkP x=true→(match ks.find? linkP with|some k=>shortF (attrF k.attrs bHref).1 512|none=>[])=shortF (attrF x.attrs bHref).1 512:=fun hy=>by
   rw[hy]at hp
   rw[← hp]
  have hno:linkP x=false→(ks.drop (k+1)).find? linkP=ks.find? linkP:=fun hy=>by
   rw[hy]at hp
   exact hp
  rw[hl]at hyes hno
  clear hp hl
  generalize attrF x.attrs bRel=ra at*
  generalize attrF x.attrs bHref=ha at*
  obtain⟨r1,r2⟩:=ra
  obtain⟨a1,a2⟩:=ha
  have bA:bAlt=[97,108,116,101,114,110,97,116,101]:=rfl
  cases a2 with
  |false=>
   have hno:=hno rfl
   have F:=F3 F hx d1
   try refine sq F ?_
   refine wk F ?_
   refine kq F (hR _) ?_
   refine kq F (hH _) ?_
   refine hK2 _ _ _ (Wkn.refl ⟨k+1,rfl,ay,?_,by omega,hno⟩) (by omega)
   all_goals first|exact zq F|rfl|omega|trivial|skip
  |true=>
   cases r2 with
   |false=>
    have hyes:=hyes rfl
    have F:=F3 F hx d1
    try refine sq F ?_
    refine wk F ?_
    refine kq F (hR _) ?_
    refine kq F (hH _) ?_
    refine kq F (hSh _) ?_
    refine ee hQ F ?_
    exact Fin.plain (.str _) ⟨by rw[hyes],rfl⟩
   |true=>
    by_cases hr:r1=bAlt
    ·have q:(r1==bAlt)=true:=by simpa using hr
     have hyes:=hyes (by simp[hr])
     rw[bA]at q
     have F:=F4 F hx d1 q
     try refine sq F ?_
     refine wk F ?_
     refine kq F (hR _) ?_
     refine kq F (hH _) ?_
     refine kq F (hSh _) ?_
     refine ee hQ F ?_
     exact Fin.plain (.str _) ⟨by rw[hyes],rfl⟩
    ·have q:(r1==bAlt)=false:=by simpa using hr
     have hno:=hno (by simp[hr])
     rw[bA]at q
     have F:=F4 F hx d1 q
     try refine sq F ?_
     refine wk F ?_
     refine kq F (hR _) ?_
     refine kq F (hH _) ?_
     refine hK2 _ _ _ (Wkn.refl ⟨k+1,rfl,ay,?_,by omega,hno⟩) (by omega)
     all_goals first|exact zq F|rfl|omega|trivial|skip
 ·have d1:=decide_eq_false c1
  have hp:ks.find? linkP=none:=by
   rw[← hp,List.drop_of_length_le (by omega)];rfl
  have F:=F2 F d1
  try refine sq F ?_
  refine wk F ?_
  refine ee hQ F ?_
  exact Fin.plain (.str _) ⟨by rw[hp],rfl⟩
end Go.Av
