/- Links of a feed of the second kind (atom), as the program reads them. -/
import Derived.Test.YtljohklbgahomaaGreatDoorMoDx3
import Derived.Test.YtljohklbgahomaaGreatDoorMoDo
set_option linter.unusedSimpArgs false
set_option linter.unusedVariables false
set_option linter.unusedSectionVars false
set_option linter.unnecessarySimpa false
set_option maxRecDepth 100000
set_option maxHeartbeats 16000000
namespace Go.Av
open Go Go.Proofs Go.RowKit
attribute [local irreducible] WP WPl WPix Sat
variable (G:Nat→Option (List AVal))
theorem vW:DateC G 183 webR:=fun s hs h=>by
 have:=lj G s (by omega) h
 rw[na]at this
 exact this
def updL:List Bs:=[bUpd,bPubl,bIss]
theorem jU(hA:DateC G 183 webR)(e:Elem)(n:Bs)(hs:e.sz≤1048576)(h:Heap):Sat (CT G) 157 [e.av,.str n] h (fun r h'=>r=.tup [.int .i64 ((momE webR e n).getD 0),.bool (momE webR e n).isSome]∧h'=h):=by
 have hKd:=ea G e n hs
 have ht:=fY e n hs
 have hm:momE webR e n=if (kidF e n).2 then webR (cleanF (kidF e n).1.text)else none:=rfl
 rw[hm]
 generalize kidF e n=k at*
 obtain⟨⟨k1,k2,k3,k4⟩,is⟩:=k
 have ht:k3.length≤1048576:=ht
 have hc:=bH k3
 have h1:=cT G k3 (by omega)
 have h2:=hA (cleanF k3) (by omega)
 clear hm
 cases is with
 |false=>
  have F:= @ai
  refine sb [.tmp 4,.tmp 5] (fn:=Tryz.f157) Tryz.func157 ?_
  intro Q hQ
  refine wk F ?_
  refine kq F (hKd _) ?_
  refine ee hQ F ?_
  exact Fin.plain (bg _ _ _) ⟨rfl,rfl⟩
 |true=>
  cases ha:webR (cleanF k3)with
  |none=>
   rw[ha]at h2
   have h2:∀h,Sat (CT G) 183 [.str (cleanF k3)] h (fun r h'=>r=.tup [.int .i64 0,.int .i64 40]∧h'=h):=h2
   have F:= @ai
   refine sb [.tmp 4,.tmp 5] (fn:=Tryz.f157) Tryz.func157 ?_
   intro Q hQ
   refine wk F ?_
   refine kq F (hKd _) ?_
   refine kq F (h1 _) ?_
   refine kq F (h2 _) ?_
   refine ee hQ F ?_
   refine Fin.plain (bg _ _ _) ⟨?_,rfl⟩
   show _=AVal.tup [.int .i64 ((webR (cleanF k3)).getD 0),.bool (webR (cleanF k3)).isSome]
   rw[ha];rfl
  |some v=>
   rw[ha]at h2
   have h2:∀h,Sat (CT G) 183 [.str (cleanF k3)] h (fun r h'=>r=.tup [.int .i64 v,.int .i64 0]∧h'=h):=h2
   have F:= @ai
   refine sb [.tmp 4,.tmp 5] (fn:=Tryz.f157) Tryz.func157 ?_
   intro Q hQ
   refine wk F ?_
   refine kq F (hKd _) ?_
   refine kq F (h1 _) ?_
   refine kq F (h2 _) ?_
   refine ee hQ F ?_
   refine Fin.plain (bg _ _ _) ⟨?_,rfl⟩
   show _=AVal.tup [.int .i64 ((webR (cleanF k3)).getD 0),.bool (webR (cleanF k3)).isSome]
   rw[ha];rfl
theorem jV(hA:DateC G 183 webR)(e:Elem)(hs:e.sz≤1048576)(h:Heap):Sat (CT G) 130 [e.av] h (fun r h'=>r=.tup [.int .i64 ((momL webR e updL).getD 0),.bool (momL webR e updL).isSome]∧h'=h):=by
 obtain⟨l,hl⟩:∃l,l=updL:=⟨_,rfl⟩
 have hll:l.length=3:=by rw[hl];rfl
 have hg:∀(k:Nat) (x:Bs),l[k]? =some x→([.str [117,112,100,97,116,101,100],.str [112,117,98,108,105,115,104,101,100],.str [105,115,115,117,101,100]]:List AVal)[k]? =some (.str x):=fun k x hx=>by
  have:(l.map AVal.str)[k]? =some (.str x):=by rw[List.getElem?_map,hx];rfl
  rw[hl]at this;exact this
 rw[← hl]
 have F:= @ai
 refine sb [.tmp 2,.tmp 3] (fn:=Tryz.f130) Tryz.func130 ?_
 intro Q hQ
 refine wk F ?_
 refine lm (fun nL tL hL=>∃(k:Nat),l.length-k=nL∧h++[.row 35 4 0 [e.av]]=hL∧tL 10=.int .i64 k∧k≤l.length∧momL webR e (l.drop k)=momL webR e l) ((fun(k:Nat)=>(l.length-k:Nat)) (0)) ?_ ?_
 ·refine Wkn.refl ⟨0,rfl,ay,?_,by omega,rfl⟩
  all_goals first|exact zq F|rfl|omega|trivial|skip
 rintro _ s2 h' ⟨k,rfl,rfl,e10,hk,hp⟩ K2 hK2
 simp only[ak,ao,Nat.reduceEqDiff, ↓reduceIte]at e10
 have F:=F2 F e10
 by_cases c1:k<l.length
 ·obtain⟨x,hx,_⟩:=af c1
  have d1:decide ((k:Int)<3)=true:=decide_eq_true (by omega)
  have hgx:=hg k x hx
  have hM:=jU G hA e x hs
  rw[dr webR e hx]at hp
  cases hv:momE webR e x with
  |some v=>
   rw[hv]at hM hp
   have hM:∀h,Sat (CT G) 157 [e.av,.str x] h (fun r h'=>r=.tup [.int .i64 v,.bool true]∧h'=h):=hM
   have hp:some v=momL webR e l:=hp
   have F:=F3 F hgx d1
   try refine sq F ?_
   refine wk F ?_
   refine kq F (hM _) ?_
   refine ee hQ F ?_
   exact Fin.plain (bg _ _ _) ⟨by rw[← hp];rfl,rfl⟩
  |none=>
   rw[hv]at hM hp
   have hM:∀h,Sat (CT G) 157 [e.av,.str x] h (fun r h'=>r=.tup [.int .i64 0,.bool false]∧h'=h):=hM
   have hp:momL webR e (l.drop (k+1))=momL webR e l:=hp
   have F:=F3 F hgx d1
   try refine sq F ?_
   refine wk F ?_
   refine kq F (hM _) ?_
   refine hK2 _ _ _ (Wkn.refl ⟨k+1,rfl,ay,?_,by omega,hp⟩) (by omega)
   all_goals first|exact zq F|rfl|omega|trivial|skip
 ·have d1:decide ((k:Int)<3)=false:=decide_eq_false (by omega)
  have hp:momL webR e l=none:=by
   rw[← hp,List.drop_of_length_le (by omega)];rfl
  have F:=F2 F d1
  try refine sq F ?_
  refine wk F ?_
  refine ee hQ F ?_
  exact Fin.plain (bg _ _ _) ⟨by rw[hp];rfl,rfl⟩
end Go.Av
namespace Go.Av
open Go Go.Proofs Go.RowKit
attribute [local irreducible] WP WPl WPix Sat
variable (G:Nat→Option (List AVal))
def LinkC(F:FuncId):Prop:=∀e:Elem,e.sz≤1048576→∀h,Sat (CT G) F [e.av] h (fun r h'=>r=.str (linkA e)∧h'=h)
theorem kH(hL:LinkC G 51)(e:Elem)(hs:e.sz≤1048576)(h:Heap):Sat (CT G) 87 [e.av] h (fun r h'=>r=oEn (entA e)∧h'=h):=by
 have fT:=aX G e bTitle 256 hs (by omega)
 have fL:=hL e hs
 have fG:=aX G e bId 512 hs (by omega)
 have hM:=jV G (vW G) e hs
 have hE:entA e=mkE (orF (fieldF e bId 512) (linkA e) (fieldF e bTitle 256)) (fieldF e bTitle 256) (linkA e) (momL webR e updL):=rfl
 rw[hE]
 generalize fieldF e bTitle 256=t at*
 generalize linkA e=l at*
 generalize fieldF e bId 512=g at*
 generalize momL webR e updL=m at*
 have hO:=nN G g l t
 generalize orF g l t=u at*
 clear hE
 have hz:ofVal (.agg #[.string ⟨#[]⟩,.string ⟨#[]⟩,.string ⟨#[]⟩,.int .i64 0,.bool false])=.agg [.str [],.str [],.str [],.int .i64 0,.bool false]:=rfl
 by_cases hu:u=[]
 ·have q:(u==([]:Bs))=true:=by simp[hu]
  have eo:oEn (mkE u t l m)=.tup [En.z.av,.bool false]:=by unfold mkE;rw[if_pos hu];rfl
  rw[eo]
  have F:=F3 q hz @ai
  skip
  refine sb [.cell 2 48,.tmp 3] (fn:=Tryz.f87) Tryz.func87 ?_
  intro Q hQ
  refine wn F ?_
  refine az 5 5 _ (by rfl) (by decide+kernel) (by kernel_rfl) (by decide+kernel) (by decide+kernel) (by decide+kernel) ?_
  simp only[List.take_succ_cons,List.take_zero]
  refine sq F ?_
  refine wn F ?_
  refine aa (fT _) ?_
  try refine sq F ?_
  refine wn F ?_
  refine aa (fL _) ?_
  try refine sq F ?_
  refine wn F ?_
  refine⟨?_,?_⟩
  ·refine aa (fT _) ?_
   try refine sq F ?_
   refine wn F ?_
   refine aa (fL _) ?_
   try refine sq F ?_
   refine wn F ?_
   all_goals first|exact zq F|trivial| (refine sq F ?_;trivial)
  skip
  try refine sq F ?_
  refine wk F ?_
  refine aa (fG _) ?_
  try refine sq F ?_
  refine wk F ?_
  refine aa (hO _) ?_
  try refine sq F ?_
  refine wk F ?_
  refine ye hQ F ?_
  exact Fin.plain (bd _ En.z _) ⟨rfl,rfl⟩
 ·have q:(u==([]:Bs))=false:=by simpa using hu
  have eo:oEn (mkE u t l m)=.tup [(⟨u,t,l,m.getD 0,m.isSome⟩:En).av,.bool true]:=by unfold mkE;rw[if_neg hu];rfl
  rw[eo]
  have F:=F3 q hz @ai
  skip
  refine sb [.cell 2 48,.tmp 3] (fn:=Tryz.f87) Tryz.func87 ?_
  intro Q hQ
  refine wn F ?_
  refine az 5 5 _ (by rfl) (by decide+kernel) (by kernel_rfl) (by decide+kernel) (by decide+kernel) (by decide+kernel) ?_
  simp only[List.take_succ_cons,List.take_zero]
  refine sq F ?_
  refine wn F ?_
  refine aa (fT _) ?_
  try refine sq F ?_
  refine wn F ?_
  refine aa (fL _) ?_
  try refine sq F ?_
  refine wn F ?_
  refine⟨?_,?_⟩
  ·refine aa (fT _) ?_
   try refine sq F ?_
   refine wn F ?_
   refine aa (fL _) ?_
   try refine sq F ?_
   refine wn F ?_
   all_goals first|exact zq F|trivial| (refine sq F ?_;trivial)
  skip
  try refine sq F ?_
  refine wk F ?_
  refine aa (fG _) ?_
  try refine sq F ?_
  refine wk F ?_
  refine aa (hO _) ?_
  try refine sq F ?_
  refine wk F ?_
  refine kq F (hM _) ?_
  refine ye hQ F ?_
  exact Fin.plain (bd _ (⟨u,t,l,m.getD 0,m.isSome⟩:En) _) ⟨rfl,rfl⟩
theorem p7{Z:Heap}{n q v e:Nat}(l:List En)(hq:n≤q)(hg:getRow Z q v=some (e,5,l.map En.av)):Frz Z n (.hs q v 0 l.length true) (.sl 5 (l.map En.av)):=
 Frz.data hq hg (by simp) (fun r hr=>by obtain⟨x,_,rfl⟩:=List.mem_map.1 hr;exact x.clo _) (fun r hr=>by obtain⟨x,_,rfl⟩:=List.mem_map.1 hr;exact x.sto)
theorem j5(hL:LinkC G 51)(ks:List Elem)(hsz:∀k∈ks,k.sz≤1048576)(hln:ks.length≤1048576)(h:Heap):Sat (CT G) 52 [.sl 4 (ks.map Elem.av)] h (fun r h'=>r=.sl 5 ((entsF entA ks).map En.av)∧h'=h):=by
 have mk:(ks.map Elem.av).length=ks.length:=List.length_map ..
 have F:=F2 mk @ai
 refine sb [.tmp 2] (fn:=Tryz.f52) Tryz.func52 ?_
 intro Q hQ
 refine wk F ?_
 refine lm (fun nL tL hL=>∃(k v:Nat) (es:List En) (j:Heap),ks.length-k=nL∧h++ .row 48 5 v (es.map En.av)::j=hL∧tL 3=.hs h.length v 0 es.length true∧tL 10=.int .i64 k∧k≤ks.length∧es=entsF entA (ks.take k)) ((fun(k v:Nat) (es:List En) (j:Heap)=>(ks.length-k:Nat)) (0) (0) ([]) ([])) ?_ ?_
 ·refine⟨_,_,Weak.virt 3 48 5 (by simp) (by omega) (by exact zq F),⟨0,0,[],[],rfl,ay,?_,?_,by omega,rfl⟩⟩
  all_goals first|exact zq F|rfl|omega|trivial|skip
 rintro _ s2 h' ⟨k,v,es,j,rfl,rfl,e3,e10,hk,ho⟩ K2 hK2
 simp only[ak,ao,Nat.reduceEqDiff, ↓reduceIte]at e3 e10
 have F:=F3 F e3 e10
 have hel:es.length≤256:=by rw[ho];unfold entsF;rw[List.length_take];omega
 have me:(es.map En.av).length=es.length:=List.length_map ..
 by_cases c1:k<ks.length
 ·obtain⟨x,hx,hxm⟩:=af c1
  have d1:=decide_eq_true c1
  have hE:=kH G hL x (hsz x hxm)
  have hst:=eh entA hx
  rw[← ho]at hst
  cases hv:entA x with
  |none=>
   rw[hv]at hE hst
   have hE:∀h,Sat (CT G) 87 [x.av] h (fun r h'=>r=.tup [En.z.av,.bool false]∧h'=h):=hE
   have hst:entsF entA (ks.take (k+1))=es:=hst
   have F:=F4 F hx d1 me
   try refine sq F ?_
   refine wk F ?_
   refine kq F (hE _) ?_
   refine hK2 _ _ _ (Wkn.refl ⟨k+1,v,es,j++[.row 35 4 0 [x.av],.row 48 5 0 [En.z.av]],rfl,by simp[En.av,En.z],?_,?_,by omega,hst.symm⟩) (by omega)
   all_goals first|exact zq F|rfl|omega|trivial|skip
  |some y=>
   rw[hv]at hE hst
   have hE:∀h,Sat (CT G) 87 [x.av] h (fun r h'=>r=.tup [y.av,.bool true]∧h'=h):=hE
   have hst:entsF entA (ks.take (k+1))=if es.length<256 then es++[y]else es:=hst
   by_cases c2:es.length<256
   ·have d2:decide ((es.length:Int)<256)=true:=decide_eq_true (by omega)
    rw[if_pos c2]at hst
    have F:=F5 F hx d1 d2 me
    try refine sq F ?_
    refine wk F ?_
    refine kq F (hE _) ?_
    refine aq F ?_
    try refine sq F ?_
    refine wk F ?_
    refine hK2 _ _ _ (Wkn.refl ⟨k+1,v+1,es++[y],j++[.row 35 4 0 [x.av],.row 48 5 0 [y.av]],rfl,by simp[En.av],?_,?_,by omega,hst.symm⟩) (by omega)
    all_goals first|exact zq F|rfl|omega|trivial|skip
   ·have d2:decide ((es.length:Int)<256)=false:=decide_eq_false (by omega)
    rw[if_neg c2]at hst
    have F:=F5 F hx d1 d2 me
    try refine sq F ?_
    refine wk F ?_
    refine kq F (hE _) ?_
    refine hK2 _ _ _ (Wkn.refl ⟨k+1,v,es,j++[.row 35 4 0 [x.av],.row 48 5 0 [y.av]],rfl,by simp[En.av],?_,?_,by omega,hst.symm⟩) (by omega)
    all_goals first|exact zq F|rfl|omega|trivial|skip
 ·have d1:=decide_eq_false c1
  rw[List.take_of_length_le (by omega)]at ho
  have F:=F3 F d1 me
  try refine sq F ?_
  refine wk F ?_
  refine ee hQ F ?_
  rw[← ho]
  exact Fin.frz (p7 (e:=48) es (by omega) (by rw[bW _ rfl];show(if v=v then _ else _)=_;rw[if_pos rfl])) ⟨rfl,rfl⟩
theorem mu(hL:LinkC G 51)(e:Elem)(hs:e.sz≤1048576)(h:Heap):Sat (CT G) 28 [e.av] h (fun r h'=>r=oFd (atomF e)∧h'=h):=by
 have hSh:=dZ G e.name (by have:=Elem.sz_eq e;omega)
 have fT:=aX G e bTitle 256 hs (by omega)
 have fL:=hL e hs
 have hKs:=dp G e bEntry hs
 have hEs:=j5 G hL (kidsF e bEntry) (fun k hk=>bD hs hk) (bZ e bEntry hs)
 have hR:atomF e=if short e.name=bFeed then some ⟨fieldF e bTitle 256,linkA e,entsF entA (kidsF e bEntry)⟩else none:=rfl
 rw[hR]
 clear hR
 generalize fieldF e bTitle 256=t at*
 generalize linkA e=l at*
 generalize kidsF e bEntry=ks at*
 generalize entsF entA ks=es at*
 generalize short e.name=sn at*
 obtain⟨e1,e2,e3,e4⟩:=e
 by_cases hn:sn=bFeed
 rotate_left
 ·have q:(sn==bFeed)=false:=by simpa using hn
  unfold bFeed at q
  rw[if_neg hn]
  have F:=F2 q @ai
  refine sb [.cell 2 25,.tmp 3] (fn:=Tryz.f28) Tryz.func28 ?_
  intro Q hQ
  refine wk F ?_
  refine kq F (hSh _) ?_
  refine ye hQ F ?_
  exact Fin.frz (cu _ _) ⟨rfl,rfl⟩
 ·have q:(sn==bFeed)=true:=by simpa using hn
  unfold bFeed at q
  rw[if_pos hn]
  have F:=F2 q @ai
  refine sb [.cell 2 25,.tmp 3] (fn:=Tryz.f28) Tryz.func28 ?_
  intro Q hQ
  refine wk F ?_
  refine kq F (hSh _) ?_
  refine aa (fT _) ?_
  try refine sq F ?_
  refine wk F ?_
  refine aa (fL _) ?_
  try refine sq F ?_
  refine wk F ?_
  refine aa (hKs _) ?_
  try refine sq F ?_
  refine wk F ?_
  refine aa (hEs _) ?_
  try refine sq F ?_
  refine wk F ?_
  refine ye hQ F ?_
  exact Fin.plain (fF _ (⟨t,l,es⟩:Fd) _) ⟨rfl,rfl⟩
end Go.Av
namespace Go.Av
open Go Go.Proofs Go.RowKit
attribute [local irreducible] WP WPl WPix Sat
variable (G:Nat→Option (List AVal))
theorem iS(f:Elem→Option En)(l:List Elem):(entsF f l).length≤256:=by unfold entsF;rw[List.length_take];omega
theorem fZ{e:Elem}{d:Fd}(h:rssF e=some d):d.es.length≤256:=by
 unfold rssF at h
 split at h
 ·cases h;exact iS _ _
 ·cases h
theorem fq{e:Elem}{d:Fd}(h:atomF e=some d):d.es.length≤256:=by
 unfold atomF at h
 split at h
 ·cases h;exact iS _ _
 ·cases h
def ReadC(F:FuncId)(e:Elem)(f:Elem→Option Fd):Prop:=∀h,Sat (CT G) F [e.av] h (fun r h'=>r=oFd (f e)∧h'=h)
theorem nP(N:Nat)(x:Fd)(n:Int):Clo N (.tup [x.av,.int .i64 n]):=.tup _ (fun c hc=>by simp only[List.mem_cons,List.not_mem_nil,or_false]at hc;rcases hc with rfl|rfl<;>first|exact x.clo _|exact .int _ _)
theorem pY(Z:Heap)(n:Nat):Frz Z n (.tup [.agg [.str [],.str [],.nil (.slice none 0 0)],.int .i64 120]) (.tup [Fd.z.av,.int .i64 120]):=
 FrzL.tup (.cons (FrzL.agg (.cons (.clo _ (.str _)) (.cons (.clo _ (.str _)) (.cons (.nils 5) .nil))) rfl) (.cons (.clo _ (.int _ _)) .nil))
theorem nQ(e:Elem)(hR:ReadC G 27 e rssF)(hB:ReadC G 28 e atomF)(h:Heap):Sat (CT G) 13 [e.av] h (fun r h'=>r=.tup [((ofE e).getD Fd.z).av,.int .i64 (if (ofE e).isSome then 0 else 120)]∧h'=h):=by
 have hE:ofE e=(match rssF e with
  |some d=>some d
  |none=>atomF e).map fun d:Fd=>⟨d.title,d.link,onceF d.es⟩:=rfl
 unfold ReadC at hR hB
 have l1:= @fZ e
 have l2:= @fq e
 rw[hE]
 clear hE
 generalize rssF e=o1 at*
 generalize atomF e=o2 at*
 obtain⟨e1,e2,e3,e4⟩:=e
 cases o1 with
 |some d=>
  obtain⟨t,l,es⟩:=d
  have hO:=cI G es (by have:=l1 rfl;simp only[]at this;omega)
  have hR:∀h,Sat (CT G) 27 [(Elem.mk e1 e2 e3 e4).av] h (fun r h'=>r=.tup [.agg [.str t,.str l,.sl 5 (es.map En.av)],.bool true]∧h'=h):=hR
  have F:= @ai
  refine sb [.cell 2 25,.tmp 3] (fn:=Tryz.f13) Tryz.func13 ?_
  intro Q hQ
  refine wk F ?_
  refine kq F (hR _) ?_
  refine kq F (hO _) ?_
  refine ye hQ F ?_
  exact Fin.plain (nP _ (⟨t,l,onceF es⟩:Fd) _) ⟨rfl,rfl⟩
 |none=>
  have hR:∀h,Sat (CT G) 27 [(Elem.mk e1 e2 e3 e4).av] h (fun r h'=>r=.tup [.agg [.str [],.str [],.sl 5 []],.bool false]∧h'=h):=hR
  cases o2 with
  |some d=>
   obtain⟨t,l,es⟩:=d
   have hO:=cI G es (by have:=l2 rfl;simp only[]at this;omega)
   have hB:∀h,Sat (CT G) 28 [(Elem.mk e1 e2 e3 e4).av] h (fun r h'=>r=.tup [.agg [.str t,.str l,.sl 5 (es.map En.av)],.bool true]∧h'=h):=hB
   have F:= @ai
   refine sb [.cell 2 25,.tmp 3] (fn:=Tryz.f13) Tryz.func13 ?_
   intro Q hQ
   refine wk F ?_
   refine kq F (hR _) ?_
   refine kq F (hB _) ?_
   refine kq F (hO _) ?_
   refine ye hQ F ?_
   exact Fin.plain (nP _ (⟨t,l,onceF es⟩:Fd) _) ⟨rfl,rfl⟩
  |none=>
   have hB:∀h,Sat (CT G) 28 [(Elem.mk e1 e2 e3 e4).av] h (fun r h'=>r=.tup [.agg [.str [],.str [],.sl 5 []],.bool false]∧h'=h):=hB
   have F:= @ai
   refine sb [.cell 2 25,.tmp 3] (fn:=Tryz.f13) Tryz.func13 ?_
   intro Q hQ
   refine wk F ?_
   refine kq F (hR _) ?_
   refine kq F (hB _) ?_
   refine ye hQ F ?_
   exact Fin.frz (pY _ _) ⟨rfl,rfl⟩
theorem nR(e:Elem)(hR:ReadC G 29 e rssF)(hB:ReadC G 30 e atomF)(h:Heap):Sat (CT G) 14 [e.av] h (fun r h'=>r=oFd (ofE e)∧h'=h):=by
 have hE:ofE e=(match rssF e with
  |some d=>some d
  |none=>atomF e).map fun d:Fd=>⟨d.title,d.link,onceF d.es⟩:=rfl
 unfold ReadC at hR hB
 have l1:= @fZ e
 have l2:= @fq e
 rw[hE]
 clear hE
 generalize rssF e=o1 at*
 generalize atomF e=o2 at*
 obtain⟨e1,e2,e3,e4⟩:=e
 cases o1 with
 |some d=>
  obtain⟨t,l,es⟩:=d
  have hO:=du G es (by have:=l1 rfl;simp only[]at this;omega)
  have hR:∀h,Sat (CT G) 29 [(Elem.mk e1 e2 e3 e4).av] h (fun r h'=>r=.tup [.agg [.str t,.str l,.sl 5 (es.map En.av)],.bool true]∧h'=h):=hR
  have F:= @ai
  refine sb [.cell 2 25,.tmp 3] (fn:=Tryz.f14) Tryz.func14 ?_
  intro Q hQ
  refine wk F ?_
  refine kq F (hR _) ?_
  refine kq F (hO _) ?_
  refine ye hQ F ?_
  exact Fin.plain (fF _ (⟨t,l,onceF es⟩:Fd) _) ⟨rfl,rfl⟩
 |none=>
  have hR:∀h,Sat (CT G) 29 [(Elem.mk e1 e2 e3 e4).av] h (fun r h'=>r=.tup [.agg [.str [],.str [],.sl 5 []],.bool false]∧h'=h):=hR
  cases o2 with
  |some d=>
   obtain⟨t,l,es⟩:=d
   have hO:=du G es (by have:=l2 rfl;simp only[]at this;omega)
   have hB:∀h,Sat (CT G) 30 [(Elem.mk e1 e2 e3 e4).av] h (fun r h'=>r=.tup [.agg [.str t,.str l,.sl 5 (es.map En.av)],.bool true]∧h'=h):=hB
   have F:= @ai
   refine sb [.cell 2 25,.tmp 3] (fn:=Tryz.f14) Tryz.func14 ?_
   intro Q hQ
   refine wk F ?_
   refine kq F (hR _) ?_
   refine kq F (hB _) ?_
   refine kq F (hO _) ?_
   refine ye hQ F ?_
   exact Fin.plain (fF _ (⟨t,l,onceF es⟩:Fd) _) ⟨rfl,rfl⟩
  |none=>
   have hB:∀h,Sat (CT G) 30 [(Elem.mk e1 e2 e3 e4).av] h (fun r h'=>r=.tup [.agg [.str [],.str [],.sl 5 []],.bool false]∧h'=h):=hB
   have hO:∀h,Sat (CT G) 17 [.sl 5 []] h (fun r h'=>r=.sl 5 []∧h'=h):=du G [] (by simp)
   have F:= @ai
   refine sb [.cell 2 25,.tmp 3] (fn:=Tryz.f14) Tryz.func14 ?_
   intro Q hQ
   refine wk F ?_
   refine kq F (hR _) ?_
   refine kq F (hB _) ?_
   refine kq F (hO _) ?_
   refine ye hQ F ?_
   exact Fin.plain (fF _ Fd.z _) ⟨rfl,rfl⟩
theorem my(a b:Fd)(ha:a.es.length≤1048576)(hb:b.es.length≤1048576)(h:Heap):Sat (CT G) 10 [a.av,b.av] h (fun r h'=>r=.bool (decide (a.title=b.title∧a.link=b.link∧a.es=b.es))∧h'=h):=by
 obtain⟨t1,l1,e1⟩:=a
 obtain⟨t2,l2,e2⟩:=b
 have hS:=er G e1 e2 ha hb
 simp only[]
 have f1:(Fd.mk t1 l1 e1).av=.agg [.str t1,.str l1,.sl 5 (e1.map En.av)]:=rfl
 have f2:(Fd.mk t2 l2 e2).av=.agg [.str t2,.str l2,.sl 5 (e2.map En.av)]:=rfl
 rw[f1,f2]
 by_cases c1:t1=t2
 rotate_left
 ·have q:(t1==t2)=false:=by simpa using c1
  have n:decide (t1=t2∧l1=l2∧e1=e2)=false:=decide_eq_false fun k=>c1 k.1
  rw[n]
  have F:=F2 q @ai
  refine sb [.tmp 4] (fn:=Tryz.f10) Tryz.func10 ?_
  intro Q hQ
  refine wk F ?_
  refine ee hQ F ?_
  exact Fin.plain (.bool _) ⟨rfl,rfl⟩
 have q1:(t1==t2)=true:=by simpa using c1
 by_cases c2:l1=l2
 rotate_left
 ·have q:(l1==l2)=false:=by simpa using c2
  have n:decide (t1=t2∧l1=l2∧e1=e2)=false:=decide_eq_false fun k=>c2 k.2.1
  rw[n]
  have F:=F3 q1 q @ai
  refine sb [.tmp 4] (fn:=Tryz.f10) Tryz.func10 ?_
  intro Q hQ
  refine wk F ?_
  refine ee hQ F ?_
  exact Fin.plain (.bool _) ⟨rfl,rfl⟩
 have q2:(l1==l2)=true:=by simpa using c2
 have n:decide (t1=t2∧l1=l2∧e1=e2)=decide (e1=e2):=by simp[c1,c2]
 rw[n]
 have F:=F3 q1 q2 @ai
 refine sb [.tmp 4] (fn:=Tryz.f10) Tryz.func10 ?_
 intro Q hQ
 refine wk F ?_
 refine kq F (hS _) ?_
 refine ee hQ F ?_
 exact Fin.plain (.bool _) ⟨rfl,rfl⟩
end Go.Av
namespace Go.Av
open Go Go.Proofs Go.RowKit
attribute [local irreducible] WP WPl WPix Sat
variable (G:Nat→Option (List AVal))
theorem jY:∀(l:List At) (n:Bs),(attrF l n).2=true→(attrF l n).1.length+n.length+1≤szs At.sz l
 | [],n,h=>by rw[attrF]at h;cases h
 |a::l,n,h=>by
  rw[attrF]at h ⊢
  have hz:szs At.sz (a::l)=At.sz a+szs At.sz l:=by rw[szs]
  have ha:At.sz a=1+a.1.length+a.2.length:=rfl
  split at h
  ·rename_i e
   rw[if_pos e]
   have:a.1.length=n.length:=by rw[e]
   show a.2.length+n.length+1≤_
   omega
  ·rename_i e
   rw[if_neg e]
   have:=jY l n h
   omega
theorem Wk.slD{n:Nat}{xs ys:List AVal}(hl:xs.length=ys.length)(hw:∀(i:Nat) (r s:AVal),xs[i]? =some r→ys[i]? =some s→WkR r s):Wk (.sl n xs) (.sl n ys):=fun w S μ v rr=>by
 have at_:∀(i:Nat) (e:AVal),ys[i]? =some e→∃r,xs[i]? =some r∧WkR r e:=fun i e he=>by
  have hlt:=(List.getElem?_eq_some_iff.1 he).1
  have hx:=List.getElem?_eq_getElem (show i<xs.length by omega)
  exact⟨_,hx,hw i _ e hx he⟩
 cases rr with
 |sl0 n a cap=>
  obtain rfl:ys=[]:=List.length_eq_zero_iff.1 (by simpa using hl.symm)
  exact .sl0 _ _ _
 |sl n es b o cap vs hne hm hm' hn hc hr=>
  rw[hl]
  refine .sl _ ys b o cap vs (fun e=>?_) (by omega) hm' (fun i e he=>?_) (fun i e j c he hj=>?_) (fun i e j c he hj=>?_)
  ·subst e;exact hne (List.length_eq_zero_iff.1 hl)
  ·obtain⟨r,hx,hq⟩:=at_ i e he
   rw[← hq.1];exact hn i r hx
  ·obtain⟨r,hx,hq⟩:=at_ i e he
   have hlt:=(List.getElem?_eq_some_iff.1 hj).1
   have hd:=List.getElem?_eq_getElem (show j<r.cells.length by rw[hq.1];exact hlt)
   obtain⟨a1,a2,a3⟩:=hc i r j _ hx hd
   exact⟨a1,a2,(hq.2 j _ c hd hj).2 a3⟩
  ·obtain⟨r,hx,hq⟩:=at_ i e he
   have hlt:=(List.getElem?_eq_some_iff.1 hj).1
   have hd:=List.getElem?_eq_getElem (show j<r.cells.length by rw[hq.1];exact hlt)
   exact(hq.2 j _ c hd hj).1 _ _ _ _ (hr i r j _ hx hd)
abbrev nl0:AVal:=.nil (.slice none 0 0)
theorem kK(v:Bs)(hv:v.length+6≤1048576)(h:Heap):Sat (CT G) 48 [.agg [.str [],nl0,.str [],.sl 4 [.agg [.str [104,114,101,102],nl0,.str v,nl0]]],.str [104,114,101,102],.int .i64 512] h (fun r h'=>r=.str (shortF v 512)∧h'=h):=by
 have hsz:(Elem.mk [] [] [] [Elem.mk bHref [] v []]).sz≤1048576:=by
  rw[Elem.sz_eq]
  have:(Elem.mk bHref [] v []).sz=6+v.length-1:=by rw[Elem.sz_eq];simp[szs,Elem.name,Elem.attrs,Elem.text,Elem.kids,bHref]
  simp[szs,Elem.name,Elem.attrs,Elem.text,Elem.kids,this]
  omega
 have hF:=aX G (Elem.mk [] [] [] [Elem.mk bHref [] v []]) bHref 512 hsz (by omega) h
 have hk:fieldF (Elem.mk [] [] [] [Elem.mk bHref [] v []]) bHref 512=shortF v 512:=by
  have:kidF (Elem.mk [] [] [] [Elem.mk bHref [] v []]) bHref=(Elem.mk bHref [] v [],true):=rfl
  unfold fieldF;rw[this];rfl
 rw[hk]at hF
 have ha:(Elem.mk [] [] [] [Elem.mk bHref [] v []]).av=.agg [.str [],.sl 2 [],.str [],.sl 4 [.agg [.str bHref,.sl 2 [],.str v,.sl 4 []]]]:=rfl
 rw[ha]at hF
 refine Sat.wk (ys:=[.agg [.str [],.sl 2 [],.str [],.sl 4 [.agg [.str bHref,.sl 2 [],.str v,.sl 4 []]]],.str bHref,.int .i64 ((512:Nat):Int)]) rfl (fun i x y hx hy=>?_) hF
 match i with
 |0=>
  cases hx;cases hy
  refine Wk.agg rfl (by intro y hy;simp at hy;rcases hy with rfl|rfl|rfl|rfl<;>rfl) (fun i x y hx hy=>?_)
  match i with
  |0=>cases hx;cases hy;exact Wk.refl _
  |1=>cases hx;cases hy;exact Wk.nils 2
  |2=>cases hx;cases hy;exact Wk.refl _
  |3=>
   cases hx;cases hy
   refine Wk.slD rfl (fun i x y hx hy=>?_)
   match i with
   |0=>
    cases hx;cases hy
    refine⟨rfl,fun j c d hc hd=>?_⟩
    match j with
    |0=>cases hc;cases hd;exact⟨Wk.refl _,id⟩
    |1=>cases hc;cases hd;exact⟨Wk.nils 2,fun _=>rfl⟩
    |2=>cases hc;cases hd;exact⟨Wk.refl _,id⟩
    |3=>cases hc;cases hd;exact⟨Wk.nils 4,fun _=>rfl⟩
    |k+4=>cases hc
   |k+1=>cases hx
  |k+4=>cases hx
 |1=>cases hx;cases hy;exact Wk.refl _
 |2=>cases hx;cases hy;exact Wk.refl _
 |k+3=>cases hx
theorem nV(e:Elem)(hs:e.sz≤1048576)(h:Heap):Sat (CT G) 51 [e.av] h (fun r h'=>r=.str (linkA e)∧h'=h):=by
 have hKs:=dp G e bLink hs
 have hsz:∀k∈kidsF e bLink,k.sz≤1048576:=fun k hk=>bD hs hk
 have hln:=bZ e bLink hs
 have hE:linkA e=match (kidsF e bLink).find? linkP with
  |some k=>shortF (attrF k.attrs bHref).1 512
  |none=>[]:=rfl
 rw[hE]
 clear hE
 generalize kidsF e bLink=ks at*
 have mk:(ks.map Elem.av).length=ks.length:=List.length_map ..
 have F:=F2 mk @ai
 refine sb [.tmp 2] (fn:=Tryz.f51) Tryz.func51 ?_
 intro Q hQ
 refine wk F ?_
 refine kq F (hKs _) ?_
 refine lm (fun nL tL hL=>∃(k:Nat) (j:Heap),ks.length-k=nL∧h++ .row 35 4 0 [e.av]::j=hL∧tL 12=.int .i64 k∧k≤ks.length∧(ks.drop k).find? linkP=ks.find? linkP) ((fun(k:Nat) (j:Heap)=>(ks.length-k:Nat)) (0) ([])) ?_ ?_
 ·refine Wkn.refl ⟨0,[],rfl,ay,?_,by omega,rfl⟩
  all_goals first|exact zq F|rfl|omega|trivial|skip
 rintro _ s2 h' ⟨k,j,rfl,rfl,e12,hk,hp⟩ K2 hK2
 simp only[ak,ao,Nat.reduceEqDiff, ↓reduceIte]at e12
 have F:=F2 F e12
 by_cases c1:k<ks.length
 ·obtain⟨x,hx,hxm⟩:=af c1
  have d1:=decide_eq_true c1
  have hR:=iL G x bRel (hsz x hxm)
  have hH:=iL G x bHref (hsz x hxm)
  have hSh:=kK G (attrF x.attrs bHref).1
  have hv:=jY x.attrs bHref
  have hxs:=Elem.sz_eq x
  have hx1:=hsz x hxm
  rw[aD hx,List.find?_cons]at hp
  have hl:linkP x=((attrF x.attrs bHref).2&&(!(attrF x.attrs bRel).2||decide ((attrF x.attrs bRel).1=bAlt))):=rfl
  have hyes:linkP x=true→(match ks.find? linkP with|some k=>shortF (attrF k.attrs bHref).1 512|none=>[])=shortF (attrF x.attrs bHref).1 512:=fun hy=>by
   rw[hy]at hp
   rw[← hp]
  have hno:linkP x=false→(ks.drop (k+1)).find? linkP=ks.find? linkP:=fun hy=>by
   rw[hy]at hp
   exact hp
  rw[hl]at hyes hno
  clear hp hl
  generalize attrF x.attrs bRel=ra at*
  generalize attrF x.attrs bHref=ha at*
  obtain⟨r1,r2⟩:=ra
  obtain⟨a1,a2⟩:=ha
  have h4:bHref.length=4:=rfl
  have hvl:a2=true→a1.length+6≤1048576:=fun e=>by
   have:a1.length+bHref.length+1≤szs At.sz x.attrs:=hv e
   omega
  have bA:bAlt=[97,108,116,101,114,110,97,116,101]:=rfl
  cases a2 with
  |false=>
   have hno:=hno rfl
   have F:=F3 F hx d1
   try refine sq F ?_
   refine wk F ?_
   refine kq F (hR _) ?_
   refine kq F (hH _) ?_
   refine hK2 _ _ _ (Wkn.refl ⟨k+1,j++[.row 35 4 0 [x.av]],rfl,by simp,?_,by omega,hno⟩) (by omega)
   all_goals first|exact zq F|rfl|omega|trivial|skip
  |true=>
   cases r2 with
   |false=>
    have hyes:=hyes rfl
    have F:=F3 F hx d1
    try refine sq F ?_
    refine wk F ?_
    refine kq F (hR _) ?_
    refine kq F (hH _) ?_
    refine kq F (hSh (hvl rfl) _) ?_
    refine ee hQ F ?_
    exact Fin.plain (.str _) ⟨by rw[hyes],rfl⟩
   |true=>
    by_cases hr:r1=bAlt
    ·have q:(r1==bAlt)=true:=by simpa using hr
     have hyes:=hyes (by simp[hr])
     rw[bA]at q
     have F:=F4 F hx d1 q
     try refine sq F ?_
     refine wk F ?_
     refine kq F (hR _) ?_
     refine kq F (hH _) ?_
     refine kq F (hSh (hvl rfl) _) ?_
     refine ee hQ F ?_
     exact Fin.plain (.str _) ⟨by rw[hyes],rfl⟩
    ·have q:(r1==bAlt)=false:=by simpa using hr
     have hno:=hno (by simp[hr])
     rw[bA]at q
     have F:=F4 F hx d1 q
     try refine sq F ?_
     refine wk F ?_
     refine kq F (hR _) ?_
     refine kq F (hH _) ?_
     refine hK2 _ _ _ (Wkn.refl ⟨k+1,j++[.row 35 4 0 [x.av]],rfl,by simp,?_,by omega,hno⟩) (by omega)
     all_goals first|exact zq F|rfl|omega|trivial|skip
 ·have d1:=decide_eq_false c1
  have hp:ks.find? linkP=none:=by
   rw[← hp,List.drop_of_length_le (by omega)];rfl
  have F:=F2 F d1
  try refine sq F ?_
  refine wk F ?_
  refine ee hQ F ?_
  exact Fin.plain (.str _) ⟨by rw[hp],rfl⟩
end Go.Av
