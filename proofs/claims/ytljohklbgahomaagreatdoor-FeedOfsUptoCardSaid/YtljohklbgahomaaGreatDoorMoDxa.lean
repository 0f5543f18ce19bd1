/- The feed of any element is what the document's answer tells, and of any entries those of unlike Guids: the card, where what it reads is of bulk at most 1048576. -/
import Derived.Test.YtljohklbgahomaaGreatDoorMoDx5
set_option linter.unusedSimpArgs false
set_option linter.unusedVariables false
set_option linter.unusedSectionVars false
set_option linter.unnecessarySimpa false
set_option maxRecDepth 100000
set_option maxHeartbeats 16000000
namespace Go.Av
open Go Go.Proofs Go.RowKit
attribute [local irreducible] WP WPl WPix Sat
variable (G:Nat→Option (List AVal))
theorem kJ(e:Elem)(hs:e.sz≤1048576)(ht:∀n,(kidF e n).1.text.length≤100000)(hk:∀k∈kidsF e bLink,(attrF k.attrs bHref).1.length≤100000)(hA:DateR G 133 webR)(h:Heap):Sat (CT G) 59 [e.av] h (fun r h'=>r=oEn (entA e)∧h'=h):=by
 have fT:=bh G e bTitle 256 hs (ht _) (by omega)
 have fL:=iT G e hs hk
 have fG:=bh G e bId 512 hs (ht _) (by omega)
 have hM:=jX G hA e hs ht
 have hE:entA e=mkE (orF (fieldF e bId 512) (linkA e) (fieldF e bTitle 256)) (fieldF e bTitle 256) (linkA e) (momL webR e updL):=rfl
 rw[hE]
 generalize fieldF e bTitle 256=t at*
 generalize linkA e=l at*
 generalize fieldF e bId 512=g at*
 generalize momL webR e updL=m at*
 clear hE
 have hz:ofVal (.agg #[.string ⟨#[]⟩,.string ⟨#[]⟩,.string ⟨#[]⟩,.int .i64 0,.bool false])=.agg [.str [],.str [],.str [],.int .i64 0,.bool false]:=rfl
 have alt:(((g==([]:Bs))=false∧True)∨((g==([]:Bs))=true∧(l==([]:Bs))=false)∨((g==([]:Bs))=true∧(l==([]:Bs))=true∧(t==([]:Bs))=false))∨((g==([]:Bs))=true∧(l==([]:Bs))=true∧(t==([]:Bs))=true):=by
  by_cases a:g=[]<;>by_cases b:l=[]<;>by_cases c:t=[]<;>simp[a,b,c]
 rcases alt with alt|alt
 rotate_left
 ·have eo:oEn (mkE (orF g l t) t l m)=.tup [En.z.av,.bool false]:=by
   have a:g=[]:=by simpa using alt.1
   have b:l=[]:=by simpa using alt.2.1
   have c:t=[]:=by simpa using alt.2.2
   subst a b c;rfl
  rw[eo]
  have nn:(([]:Bs)==([]:Bs))=true:=rfl
  have F:=F4 @alt nn hz @ai
  skip
  refine sb [.cell 2 48,.tmp 3] (fn:=Tryz.f59) Tryz.func59 ?_
  intro Q hQ
  refine wn F ?_
  refine az 7 7 _ (by rfl) (by decide+kernel) (by kernel_rfl) (by decide+kernel) (by decide+kernel) (by decide+kernel) ?_
  simp only[List.take_succ_cons,List.take_zero]
  refine sq F ?_
  refine wn F ?_
  refine aa (fG _) ?_
  try refine sq F ?_
  refine wn F ?_
  refine aa (fT _) ?_
  try refine sq F ?_
  refine wn F ?_
  refine aa (fL _) ?_
  try refine sq F ?_
  refine wn F ?_
  refine⟨?_,?_⟩
  ·refine aa (fG _) ?_
   try refine sq F ?_
   refine wn F ?_
   refine aa (fT _) ?_
   try refine sq F ?_
   refine wn F ?_
   refine aa (fL _) ?_
   try refine sq F ?_
   refine wn F ?_
   all_goals first|exact zq F|trivial| (refine sq F ?_;trivial)
  skip
  try refine sq F ?_
  refine wk F ?_
  refine ye hQ F ?_
  exact Fin.plain (bd _ En.z _) ⟨rfl,rfl⟩
 ·obtain⟨u,hu⟩:∃u,u=orF g l t:=⟨_,rfl⟩
  rw[← hu]
  have un:u≠ []∧(((g==([]:Bs))=false∧u=g)∨((g==([]:Bs))=true∧(l==([]:Bs))=false∧u=l)∨((g==([]:Bs))=true∧(l==([]:Bs))=true∧(t==([]:Bs))=false∧u=t)):=by
   rw[hu];unfold orF
   rcases alt with⟨a,_⟩| ⟨a,b⟩| ⟨a,b,c⟩
   ·have a':g≠ []:=by simpa using a
    simp[a']
   ·have a':g=[]:=by simpa using a
    have b':l≠ []:=by simpa using b
    simp[a',b']
   ·have a':g=[]:=by simpa using a
    have b':l=[]:=by simpa using b
    have c':t≠ []:=by simpa using c
    simp[a',b',c']
  obtain⟨hu0,un⟩:=un
  have eo:oEn (mkE u t l m)=.tup [(⟨u,t,l,m.getD 0,m.isSome⟩:En).av,.bool true]:=by unfold mkE;rw[if_neg hu0];rfl
  rw[eo]
  clear hu alt eo
  rcases un with⟨a,rfl⟩| ⟨a,b,rfl⟩| ⟨a,b,c,rfl⟩
  ·have F:=F3 a hz @ai
   skip
   refine sb [.cell 2 48,.tmp 3] (fn:=Tryz.f59) Tryz.func59 ?_
   intro Q hQ
   refine wn F ?_
   refine az 7 7 _ (by rfl) (by decide+kernel) (by kernel_rfl) (by decide+kernel) (by decide+kernel) (by decide+kernel) ?_
   simp only[List.take_succ_cons,List.take_zero]
   refine sq F ?_
   refine wn F ?_
   refine aa (fG _) ?_
   try refine sq F ?_
   refine wn F ?_
   refine aa (fT _) ?_
   try refine sq F ?_
   refine wn F ?_
   refine aa (fL _) ?_
   try refine sq F ?_
   refine wn F ?_
   refine⟨?_,?_⟩
   ·refine aa (fG _) ?_
    try refine sq F ?_
    refine wn F ?_
    refine aa (fT _) ?_
    try refine sq F ?_
    refine wn F ?_
    refine aa (fL _) ?_
    try refine sq F ?_
    refine wn F ?_
    all_goals first|exact zq F|trivial| (refine sq F ?_;trivial)
   skip
   try refine sq F ?_
   refine wk F ?_
   refine kq F (hM _) ?_
   refine ye hQ F ?_
   exact Fin.plain (bd _ (⟨_,_,_,m.getD 0,m.isSome⟩:En) _) ⟨rfl,rfl⟩
  ·have F:=F4 a b hz @ai
   skip
   refine sb [.cell 2 48,.tmp 3] (fn:=Tryz.f59) Tryz.func59 ?_
   intro Q hQ
   refine wn F ?_
   refine az 7 7 _ (by rfl) (by decide+kernel) (by kernel_rfl) (by decide+kernel) (by decide+kernel) (by decide+kernel) ?_
   simp only[List.take_succ_cons,List.take_zero]
   refine sq F ?_
   refine wn F ?_
   refine aa (fG _) ?_
   try refine sq F ?_
   refine wn F ?_
   refine aa (fT _) ?_
   try refine sq F ?_
   refine wn F ?_
   refine aa (fL _) ?_
   try refine sq F ?_
   refine wn F ?_
   refine⟨?_,?_⟩
   ·refine aa (fG _) ?_
    try refine sq F ?_
    refine wn F ?_
    refine aa (fT _) ?_
    try refine sq F ?_
    refine wn F ?_
    refine aa (fL _) ?_
    try refine sq F ?_
    refine wn F ?_
    all_goals first|exact zq F|trivial| (refine sq F ?_;trivial)
   skip
   try refine sq F ?_
   refine wk F ?_
   refine kq F (hM _) ?_
   refine ye hQ F ?_
   exact Fin.plain (bd _ (⟨_,_,_,m.getD 0,m.isSome⟩:En) _) ⟨rfl,rfl⟩
  ·have F:=F5 a b c hz @ai
   skip
   refine sb [.cell 2 48,.tmp 3] (fn:=Tryz.f59) Tryz.func59 ?_
   intro Q hQ
   refine wn F ?_
   refine az 7 7 _ (by rfl) (by decide+kernel) (by kernel_rfl) (by decide+kernel) (by decide+kernel) (by decide+kernel) ?_
   simp only[List.take_succ_cons,List.take_zero]
   refine sq F ?_
   refine wn F ?_
   refine aa (fG _) ?_
   try refine sq F ?_
   refine wn F ?_
   refine aa (fT _) ?_
   try refine sq F ?_
   refine wn F ?_
   refine aa (fL _) ?_
   try refine sq F ?_
   refine wn F ?_
   refine⟨?_,?_⟩
   ·refine aa (fG _) ?_
    try refine sq F ?_
    refine wn F ?_
    refine aa (fT _) ?_
    try refine sq F ?_
    refine wn F ?_
    refine aa (fL _) ?_
    try refine sq F ?_
    refine wn F ?_
    all_goals first|exact zq F|trivial| (refine sq F ?_;trivial)
   skip
   try refine sq F ?_
   refine wk F ?_
   refine kq F (hM _) ?_
   refine ye hQ F ?_
   exact Fin.plain (bd _ (⟨_,_,_,m.getD 0,m.isSome⟩:En) _) ⟨rfl,rfl⟩
theorem mA(hA:DateR G 133 webR)(e:Elem)(hs:e.sz≤1048576)(hu:∀n,(kidF e n).1.text.length≤100000)(hk:∀k∈kidsF e bLink,(attrF k.attrs bHref).1.length≤100000)(hti:∀x∈kidsF e bEntry,∀n,(kidF x n).1.text.length≤100000)(htl:∀x∈kidsF e bEntry,∀k∈kidsF x bLink,(attrF k.attrs bHref).1.length≤100000)(h:Heap):Sat (CT G) 30 [e.av] h (fun r h'=>r=oFd (atomF e)∧h'=h):=by
 have hSh:=fa G e.name (by have:=Elem.sz_eq e;omega)
 have fT:=bh G e bTitle 256 hs (hu _) (by omega)
 have fL:=iT G e hs hk
 have hKs:=dX G e bEntry hs
 have hsz:∀k∈kidsF e bEntry,k.sz≤1048576:=fun k hk=>bD hs hk
 have hln:=bZ e bEntry hs
 have hR:atomF e=if short e.name=bFeed then some ⟨fieldF e bTitle 256,linkA e,entsF entA (kidsF e bEntry)⟩else none:=rfl
 rw[hR]
 clear hR hu hk
 generalize fieldF e bTitle 256=t at*
 generalize linkA e=l at*
 generalize kidsF e bEntry=ks at*
 generalize short e.name=sn at*
 have mk:(ks.map Elem.av).length=ks.length:=List.length_map ..
 obtain⟨e1,e2,e3,e4⟩:=e
 by_cases hn:sn=bFeed
 rotate_left
 ·have q:(sn==bFeed)=false:=by simpa using hn
  unfold bFeed at q
  rw[if_neg hn]
  have F:=F2 q @ai
  refine sb [.cell 2 25,.tmp 3] (fn:=Tryz.f30) Tryz.func30 ?_
  intro Q hQ
  refine wk F ?_
  refine kq F (hSh _) ?_
  refine ye hQ F ?_
  exact Fin.frz (cu _ _) ⟨rfl,rfl⟩
 ·have q:(sn==bFeed)=true:=by simpa using hn
  unfold bFeed at q
  rw[if_pos hn]
  have F:=F3 q mk @ai
  skip
  refine sb [.cell 2 25,.tmp 3] (fn:=Tryz.f30) Tryz.func30 ?_
  intro Q hQ
  refine wn F ?_
  refine kn F (hSh _) ?_
  refine az 5 5 _ (by rfl) (by decide+kernel) (by kernel_rfl) (by decide+kernel) (by decide+kernel) (by decide+kernel) ?_
  simp only[List.take_succ_cons,List.take_zero]
  refine sq F ?_
  refine wn F ?_
  refine aa (fT _) ?_
  try refine sq F ?_
  refine wn F ?_
  refine aa (fL _) ?_
  try refine sq F ?_
  refine wn F ?_
  refine⟨?_,?_⟩
  ·refine aa (fT _) ?_
   try refine sq F ?_
   refine wn F ?_
   refine aa (fL _) ?_
   try refine sq F ?_
   refine wn F ?_
   all_goals first|exact zq F|trivial| (refine sq F ?_;trivial)
  skip
  try refine sq F ?_
  refine wk F ?_
  refine kq F (hKs _) ?_
  refine lm (fun nL tL hL=>∃(k v:Nat) (es:List En) (j:Heap),ks.length-k=nL∧h++ .row 35 4 0 [Elem.av ⟨e1,e2,e3,e4⟩]:: .row 25 3 0 [.agg [.str [],.str [],.nil (.slice none 0 0)]]:: .row 25 3 0 [.agg [.str t,.str l,.hs (h.length+3) v 0 es.length true]]:: .row 48 5 v (es.map En.av)::j=hL∧tL 6=.int .i64 k∧k≤ks.length∧es=entsF entA (ks.take k)) ((fun(k v:Nat) (es:List En) (j:Heap)=>(ks.length-k:Nat)) (0) (0) ([]) ([])) ?_ ?_
  ·refine⟨_,_,Weak.virtCell (p:=h.length+2) (v:=0) 48 5 (by omega) (by simp(disch:=first|omega| (simp only[go_sem, ↓reduceIte,seval];first|done|omega)|fail) only[go_sem, ↓reduceIte,seval,F];rfl) 2 rfl,⟨0,0,[],[],rfl,(by simp),?_,by omega,rfl⟩⟩
   all_goals first|exact zq F|rfl|omega|trivial|skip
  rintro _ s2 h' ⟨k,v,es,j,rfl,rfl,e6,hk,ho⟩ K2 hK2
  simp only[ak,ao,Nat.reduceEqDiff, ↓reduceIte]at e6
  have F:=F2 F e6
  have hel:es.length≤256:=by rw[ho];unfold entsF;rw[List.length_take];omega
  have me:(es.map En.av).length=es.length:=List.length_map ..
  by_cases c1:k<ks.length
  ·obtain⟨x,hx,hxm⟩:=af c1
   have d1:=decide_eq_true c1
   have hE:=kJ G x (hsz x hxm) (hti x hxm) (htl x hxm) hA
   have hst:=eh entA hx
   rw[← ho]at hst
   cases hv:entA x with
   |none=>
    rw[hv]at hE hst
    have hE:∀h,Sat (CT G) 59 [x.av] h (fun r h'=>r=.tup [En.z.av,.bool false]∧h'=h):=hE
    have F:=F4 F hx d1 me
    try refine sq F ?_
    refine wk F ?_
    have hst:entsF entA (ks.take (k+1))=es:=hst
    refine kq F (hE _) ?_
    refine hK2 _ _ _ (Wkn.refl ⟨k+1,v,es,j++[.row 48 5 0 [En.z.av]],rfl,by simp[En.av,En.z],?_,by omega,hst.symm⟩) (by omega)
    all_goals first|exact zq F|rfl|omega|trivial|skip
   |some y=>
    rw[hv]at hE hst
    have hE:∀h,Sat (CT G) 59 [x.av] h (fun r h'=>r=.tup [y.av,.bool true]∧h'=h):=hE
    have hst:entsF entA (ks.take (k+1))=if es.length<256 then es++[y]else es:=hst
    by_cases c2:es.length<256
    ·have d2:decide ((es.length:Int)<256)=true:=decide_eq_true (by omega)
     rw[if_pos c2]at hst
     have F:=F5 F hx d1 d2 me
     try refine sq F ?_
     refine wk F ?_
     refine kq F (hE _) ?_
     refine aq F ?_
     try refine sq F ?_
     refine wk F ?_
     refine hK2 _ _ _ (Wkn.refl ⟨k+1,v+1,es++[y],j++[.row 48 5 0 [y.av]],rfl,by simp[En.av],?_,by omega,hst.symm⟩) (by omega)
     all_goals first|exact zq F|rfl|omega|trivial|skip
    ·have d2:decide ((es.length:Int)<256)=false:=decide_eq_false (by omega)
     rw[if_neg c2]at hst
     have F:=F5 F hx d1 d2 me
     try refine sq F ?_
     refine wk F ?_
     refine kq F (hE _) ?_
     refine hK2 _ _ _ (Wkn.refl ⟨k+1,v,es,j++[.row 48 5 0 [y.av]],rfl,by simp[En.av],?_,by omega,hst.symm⟩) (by omega)
     all_goals first|exact zq F|rfl|omega|trivial|skip
  ·have d1:=decide_eq_false c1
   rw[List.take_of_length_le (by omega)]at ho
   have F:=F3 F d1 me
   try refine sq F ?_
   refine wk F ?_
   refine ye hQ F ?_
   rw[← ho]
   exact Fin.frz (jW t l es true (by omega) (by rw[fe _ rfl];show(if v=v then _ else _)=_;rw[if_pos rfl])) ⟨rfl,rfl⟩
end Go.Av
namespace Go.Av
open Go Go.Proofs Go.RowKit
attribute [local irreducible] WP WPl WPix Sat
variable (G:Nat→Option (List AVal))
theorem tz:DateR G 133 webR:=fun s hs h=>iQ G s hs h
theorem tA:DateR G 132 anyF:=fun s hs h=>nU G s hs h
theorem pZ(e:Elem)(hs:e.sz≤1048576)(hc:Cn 3 e)(h:Heap):Sat (CT G) 14 [e.av] h (fun r h'=>r=oFd (ofE e)∧h'=h):=
 nR G e
  (fun h=>nS G (tA G) e hs (fun n=>(hc.kid bChan).text n) (fun x hx n=>((hc.kid bChan).kids hx).text n) h)
  (fun h=>mA G (tz G) e hs (fun n=>hc.text n) (fun k hk=>hc.href hk) (fun x hx n=>(hc.kids hx).text n) (fun x hx k hk=>(hc.kids hx).href hk) h) h
theorem q8(hA:DateC G 156 anyF)(hL:LinkC G 51)(e:Elem)(hs:e.sz≤1048576)(h:Heap):Sat (CT G) 13 [e.av] h (fun r h'=>r=.tup [((ofE e).getD Fd.z).av,.int .i64 (if (ofE e).isSome then 0 else 120)]∧h'=h):=
 nQ G e (fun h=>nO G hA e hs h) (fun h=>mu G hL e hs h) h
end Go.Av
namespace Go.Av
open Go Go.Proofs Go.RowKit
attribute [local irreducible] WP WPl WPix Sat
variable (G:Nat→Option (List AVal))
theorem nW(hG:GOk G):DateC G 156 anyF:=fun s hs h=>by
 have hW:=lj G s (by omega)
 have hM:=oZ G hG s hs
 rw[na]at hW
 rw[pE]at hM
 unfold anyF
 cases e:webR s with
 |some n=>
  rw[e]at hW
  have hW:∀h,Sat (CT G) 183 [.str s] h (fun r h'=>r=.tup [.int .i64 n,.int .i64 0]∧h'=h):=hW
  refine sb [.tmp 2,.tmp 3] (fn:=Tryz.f156) Tryz.func156 ?_
  intro Q hQ
  refine wk trivial ?_
  refine kq trivial (hW _) ?_
  refine ee hQ trivial ?_
  exact Fin.same (bv _ _ _) ⟨rfl,rfl⟩
 |none=>
  rw[e]at hW
  have hW:∀h,Sat (CT G) 183 [.str s] h (fun r h'=>r=.tup [.int .i64 0,.int .i64 40]∧h'=h):=hW
  refine sb [.tmp 2,.tmp 3] (fn:=Tryz.f156) Tryz.func156 ?_
  intro Q hQ
  refine wk trivial ?_
  refine kq trivial (hW _) ?_
  refine kq trivial (hM _) ?_
  refine ee hQ trivial ?_
  exact Fin.same (bv _ _ _) ⟨rfl,rfl⟩
theorem rc:LinkC G 51:=fun e hs h=>nV G e hs h
theorem jZ(hG:GOk G)(e:Elem)(hs:e.sz≤1048576)(h:Heap):Sat (CT G) 13 [e.av] h (fun r h'=>r=.tup [((ofE e).getD Fd.z).av,.int .i64 (if (ofE e).isSome then 0 else 120)]∧h'=h):=
 q8 G (nW G hG) (rc G) e hs h
end Go.Av
namespace Go.Av
open Go Go.Proofs Go.RowKit
attribute [local irreducible] WP WPl WPix Sat
def doc12:Bs:=[60,114,115,115,62,60,99,104,97,110,110,101,108,62,60,105,116,101,109,62,60,103,117,105,100,62,97,60,47,103,117,105,100,62,60,116,105,116,108,101,62,49,60,47,116,105,116,108,101,62,60,47,105,116,101,109,62,60,105,116,101,109,62,60,103,117,105,100,62,97,60,47,103,117,105,100,62,60,47,105,116,101,109,62,60,47,99,104,97,110,110,101,108,62,60,47,114,115,115,62]
def atom12:Bs:=[60,102,101,101,100,62,60,101,110,116,114,121,62,60,105,100,62,98,60,47,105,100,62,60,47,101,110,116,114,121,62,60,47,102,101,101,100,62]
def wri12:Bs:=[60,114,115,115,62,60,99,104,97,110,110,101,108,62,60,116,105,116,108,101]++([62,60,47,116,105,116,108,101,62,60,108,105,110,107,62,60,47,108,105,110]++([107,62,60,105,116,101,109,62,60,103,117,105,100,62,97,60,47,103,117,105]++([100,62,60,116,105,116,108,101,62,49,60,47,116,105,116,108,101,62,60,108]++([105,110,107,62,60,47,108,105,110,107,62,60,47,105,116,101,109,62,60,47]++([99,104,97,110,110,101,108,62,60,47,114,115,115,62])))))
def eA12:AVal:=.agg [.str [97],.str [49],.str [],.int .i64 0,.bool false]
def eB12:AVal:=.agg [.str [98],.str [],.str [],.int .i64 0,.bool false]
def eZ12:AVal:=.agg [.str [],.str [],.str [],.int .i64 0,.bool false]
def z12:AVal:=.agg [.str [],.str [],.nil (.slice none 0 0)]
def enX:AVal→Option En
 | .agg [.str g,.str t,.str l,.int .i64 n,.bool b]=>some ⟨g,t,l,n,b⟩
 |_=>none
theorem rd{x:AVal}{e:En}(h:enX x=some e):x=e.av:=by
 unfold enX at h
 split at h
 ·cases h;rfl
 ·cases h
def enL:List AVal→Option (List En)
 | []=>some []
 |x::l=>match enX x,enL l with
  |some a,some b=>some (a::b)
  |_,_=>none
theorem nX:∀{es:List AVal} {l:List En},enL es=some l→es=l.map En.av
 | [],l,h=>by cases h;rfl
 |x::es,l,h=>by
  unfold enL at h
  split at h
  ·rename_i a b ha hb
   cases h
   rw[List.map_cons, ← rd ha, ← nX hb]
  ·cases h
def orcO(f:FuncId)(args:List AVal):Option AVal:=match args with
 | [.sl 5 es]=>if f=16 then(match enL es with
  |some l=>if l.length≤1000 then some (.sl 5 ((onceF l).map En.av))else none
  |none=>none)else orcX f args
 |_=>orcX f args
theorem qa{G:Nat→Option (List AVal)}(hG:GOk G):OrcOk (CT G) orcO:=by
 intro f args r g h
 unfold orcO at g
 split at g
 ·rename_i es
  split at g
  ·rename_i e;subst e
   split at g
   ·rename_i l hl
    split at g
    ·rename_i hn
     cases g
     rw[nX hl]
     exact cI G l (by omega) h
    ·cases g
   ·cases g
  ·exact ib hG f _ _ g h
 ·exact ib hG f _ _ g h
theorem Sat.closedD{C:Ctx}(hG:GClo C){orc:FuncId→List AVal→Option AVal}(horc:OrcOk C orc)(lf n:Nat){f:FuncId}{args:List AVal}{v:AVal}(ha:args.all (cloA 0)=true)(hv:cloA 0 v=true)
  (hrun:isV v (callX C orc lf n f args [])=true)(h:Heap):Sat C f args h fun r2 h2=>r2=v∧h2=h:=by
 unfold isV at hrun
 split at hrun
 ·rename_i r h1 e
  split at hrun
  ·rename_i y hy
   have ey:=bR _ _ hrun
   subst ey
   have s:=(jx horc lf n f args [] r h1 e).letgo (v:=y) (by simp) (hJ _ _ _ _ _ hy)
   refine(s.frame hG (fun x hx=>bF 0 _ (List.all_eq_true.1 ha x hx)) (fun r h' ⟨e1,e2⟩=>⟨by rw[e1];exact bF 0 _ hv,e2⟩) h).mono fun r2 h2 ⟨⟨e1,_⟩,e2⟩=>⟨e1,e2⟩
  ·cases hrun
 ·cases hrun
theorem Wk.tupD{xs ys:List AVal}(hl:xs.length=ys.length)(hw:∀(i:Nat) (x y:AVal),xs[i]? =some x→ys[i]? =some y→Wk x y):Wk (.tup xs) (.tup ys):=fun w S μ v r=>by
 cases r with
 |tup _ vs hvl hr=>
  refine .tup ys vs (by omega) (fun i d hd=>?_)
  have hlt:=(List.getElem?_eq_some_iff.1 hd).1
  have hc:=List.getElem?_eq_getElem (show i<xs.length by omega)
  exact hw i _ d hc hd w S μ _ (hr i _ hc)
def wkL(f:AVal→AVal→Bool):List AVal→List AVal→Bool
 | [],[]=>true
 |x::xs,y::ys=>f x y&&wkL f xs ys
 |_,_=>false
def wkB:Nat→AVal→AVal→Bool
 |0,x,y=>beqA x y
 |f+1,x,y=>beqA x y||match x,y with
  | .nil (.slice none 0 0),.sl _ []=>true
  | .agg xs,.agg ys=>wkL (wkB f) xs ys&&ys.all AVal.sto
  | .tup xs,.tup ys=>wkL (wkB f) xs ys
  | .sl n xs,.sl m ys=>(n==m)&&wkL (fun r s=>wkL (wkB f) r.cells s.cells&&s.cells.all AVal.sto) xs ys
  |_,_=>false
theorem fr{f:AVal→AVal→Bool}{R:AVal→AVal→Prop}(hf:∀x y,f x y=true→R x y):∀{xs ys:List AVal},wkL f xs ys=true→xs.length=ys.length∧∀(i:Nat) (x y:AVal),xs[i]? =some x→ys[i]? =some y→R x y
 | [],[],_=>⟨rfl,fun i x y hx=>by simp at hx⟩
 |x::xs,y::ys,h=>by
  unfold wkL at h
  rw[Bool.and_eq_true]at h
  obtain⟨h1,h2⟩:=fr hf h.2
  refine⟨by simp[h1],fun i a b ha hb=>?_⟩
  cases i with
  |zero=>cases ha;cases hb;exact hf _ _ h.1
  |succ i=>exact h2 i a b ha hb
 | [],_::_,h=>by cases h
 |_::_,[],h=>by cases h
theorem rg:∀(f:Nat) (x y:AVal),wkB f x y=true→Wk x y:=by
 intro f
 induction f with
 |zero=>intro x y h;rw[bR _ _ h];exact Wk.refl _
 |succ f ih=>
  intro x y h
  unfold wkB at h
  rw[Bool.or_eq_true]at h
  rcases h with h|h
  ·rw[bR _ _ h];exact Wk.refl _
  ·split at h
   ·exact Wk.nils _
   ·rw[Bool.and_eq_true,List.all_eq_true]at h
    obtain⟨h1,h2⟩:=fr ih h.1
    exact Wk.agg h1 h.2 h2
   ·obtain⟨h1,h2⟩:=fr ih h
    exact Wk.tupD h1 h2
   ·rw[Bool.and_eq_true,beq_iff_eq]at h
    obtain⟨rfl,h⟩:=h
    obtain⟨h1,h2⟩:=fr (R:=fun r s=>WkR r s) (fun r s hh=>by
     rw[Bool.and_eq_true,List.all_eq_true]at hh
     obtain⟨k1,k2⟩:=fr ih hh.1
     exact⟨k1,fun j c d hc hd=>⟨k2 j c d hc hd,fun _=>hh.2 d (List.mem_of_getElem? hd)⟩⟩) h
    exact Wk.slD h1 h2
   ·cases h
def isW(v:AVal):Option (AVal×Heap)→Bool
 |some (r,h1)=>match frzX h1 0 20 r with
  |some y=>wkB 20 y v&&cloA 0 y
  |none=>false
 |none=>false
theorem Sat.wkD{C:Ctx}{f:FuncId}{args:List AVal}{h h0:Heap}{a b:AVal}(hw:Wk a b)(s:Sat C f args h (fun r h'=>r=a∧h'=h0)):Sat C f args h (fun r h'=>r=b∧h'=h0):=by
 unfold Sat at*
 intro B S μ w vs x y
 refine(s B S μ w vs x y).mono fun v w' hp=>?_
 obtain⟨r,h',S',μ',⟨rfl,hh⟩,st,f',rp⟩:=hp
 exact⟨b,h',S',μ',⟨rfl,hh⟩,st,f',hw _ _ _ _ rp⟩
theorem Sat.closedW{C:Ctx}(hG:GClo C){orc:FuncId→List AVal→Option AVal}(horc:OrcOk C orc)(lf n:Nat){f:FuncId}{args:List AVal}{v:AVal}(ha:args.all (cloA 0)=true)
  (hrun:isW v (callX C orc lf n f args [])=true)(h:Heap):Sat C f args h fun r2 h2=>r2=v∧h2=h:=by
 unfold isW at hrun
 split at hrun
 ·rename_i r h1 e
  split at hrun
  ·rename_i y hy
   rw[Bool.and_eq_true]at hrun
   refine Sat.wkD (rg _ _ _ hrun.1) ?_
   have s:=(jx horc lf n f args [] r h1 e).letgo (v:=y) (by simp) (hJ _ _ _ _ _ hy)
   refine(s.frame hG (fun x hx=>bF 0 _ (List.all_eq_true.1 ha x hx)) (fun r h' ⟨e1,e2⟩=>⟨by rw[e1];exact bF 0 _ hrun.2,e2⟩) h).mono fun r2 h2 ⟨⟨e1,_⟩,e2⟩=>⟨e1,e2⟩
  ·cases hrun
 ·cases hrun
section
variable (G:Nat→Option (List AVal))
def e12:Elem:=⟨[114,115,115],[],[],[⟨[99,104,97,110,110,101,108],[],[],[⟨[105,116,101,109],[],[],[⟨[103,117,105,100],[],[97],[]⟩,⟨[116,105,116,108,101],[],[49],[]⟩]⟩,⟨[105,116,101,109],[],[],[⟨[103,117,105,100],[],[97],[]⟩]⟩]⟩]⟩
theorem vX:ofE e12=some ⟨[],[],[⟨[97],[49],[],0,false⟩]⟩:=by kernel_rfl
theorem ri:isW (.tup [e12.av,.int .i64 0]) (callX (CT G) orcX 1000 100 22 [.str doc12] [])=true:=by kernel_rfl
theorem p8(hG:GOk G)(hc:GClo (CT G))(h:Heap):Sat (CT G) 8 [.str doc12] h (fun r h'=>r=.tup [.agg [.str [],.str [],.sl 5 [eA12]],.int .i64 0]∧h'=h):=by
 have hT:=Sat.closedW hc (ib hG) 1000 100 (f:=22) (args:=[.str doc12]) rfl (ri G)
 have hO:=jZ G hG e12 (of_decide_eq_true (by kernel_rfl))
 rw[vX]at hO
 have hO:∀h,Sat (CT G) 13 [e12.av] h (fun r h'=>r=.tup [.agg [.str [],.str [],.sl 5 [eA12]],.int .i64 0]∧h'=h):=hO
 rw[Elem.av_eq]at hT hO
 have F:= @ai
 refine sb [.cell 2 25,.tmp 3] (fn:=Tryz.f8) Tryz.func8 ?_
 intro Q hQ
 refine wk F ?_
 refine kq F (hT _) ?_
 refine kq F (hO _) ?_
 refine ye hQ F ?_
 exact Fin.plain (bF _ _ rfl) ⟨rfl,rfl⟩
theorem rj:isV (.tup [z12,.int .i64 120]) (callX (CT G) orcO 1000 100 8 [.str [60,104,116,109,108,47,62]] [])=true:=by kernel_rfl
theorem rk:isV (.tup [z12,.int .i64 90]) (callX (CT G) orcO 1000 100 8 [.str [60,104,116,109,108,62]] [])=true:=by kernel_rfl
theorem rt:isV (.tup [z12,.int .i64 80]) (callX (CT G) orcO 1000 100 8 [.str [60]] [])=true:=by kernel_rfl
theorem ru:isV (.tup [.agg [.str [],.str [],.sl 5 [eB12]],.int .i64 0]) (callX (CT G) orcO 1000 100 8 [.str atom12] [])=true:=by kernel_rfl
theorem rz:isV (.tup [.str wri12,.int .i64 0]) (callX (CT G) orcO 1000 100 19 [.agg [.str [],.str [],.sl 5 [eA12]]] [])=true:=by kernel_rfl
theorem rA:isV (.tup [z12,.int .i64 120]) (callX (CT G) orcO 1000 100 13 [.agg [.str [],.nil (.slice none 0 0),.str [],.nil (.slice none 0 0)]] [])=true:=by kernel_rfl
theorem rB:isV (.int .i64 120) (callX (CT G) orcO 1000 100 11 [.agg [.str [],.str [],.sl 5 [eZ12]]] [])=true:=by kernel_rfl
theorem kL(hG:GOk G)(hc:GClo (CT G))(h:Heap):Sat (CT G) 7 [] h (fun r h'=>r=.bool true∧h'=h):=by
 have cl:=fun {f:FuncId} {args:List AVal} {v:AVal} (ha:args.all (cloA 0)=true) (hv:cloA 0 v=true)=>Sat.closedD hc (qa hG) 1000 100 (f:=f) (v:=v) ha hv
 have h1:=p8 G hG hc
 have h2:=cl rfl rfl (rj G)
 have h3:=cl rfl rfl (rk G)
 have h4:=cl rfl rfl (rt G)
 have h5:=cl rfl rfl (ru G)
 have h6:=cl rfl rfl (rz G)
 have h7:=cl rfl rfl (rA G)
 have h8:=cl rfl rfl (rB G)
 have ap:∀a b:Bs,List.append a b=a++b:=fun _ _=>rfl
 have qe:∀a:Bs,(a==a)=true:=fun a=>by simp
 unfold eA12 at h1 h6
 unfold wri12 at h6
 unfold eB12 at h5
 unfold eZ12 at h8
 unfold z12 at h2 h3 h4 h7
 have hS:∀h,Sat (CT G) 15 [.sl 5 [eA12],.sl 5 [eA12]] h (fun r h'=>r=.bool true∧h'=h):=fun h=>by
  have:=er G [⟨[97],[49],[],0,false⟩] [⟨[97],[49],[],0,false⟩] (by decide) (by decide) h
  rw[decide_eq_true rfl]at this
  exact this
 have hO:∀h,Sat (CT G) 16 [.sl 5 [eZ12,eZ12]] h (fun r h'=>r=.sl 5 [eZ12]∧h'=h):=fun h=>cI G [⟨[],[],[],0,false⟩,⟨[],[],[],0,false⟩] (by decide) h
 unfold eA12 at hS
 unfold eZ12 at hO
 have F:=F5 qe ap (F3 (@List.cons_append Blk) (@List.cons_append AVal) (@List.cons_append UInt8)) (F3 (@List.nil_append Blk) (@List.nil_append AVal) (@List.nil_append UInt8)) @ai
 refine sb [.tmp 0] (fn:=Tryz.f7) Tryz.func7 ?_
 intro Q hQ
 refine wk F ?_
 refine kq F (h1 _) ?_
 refine kq F (h2 _) ?_
 refine kq F (h3 _) ?_
 refine kq F (h4 _) ?_
 refine kq F (h5 _) ?_
 refine kq F (h6 _) ?_
 refine kq F (h7 _) ?_
 refine kq F (hS _) ?_
 refine kq F (h8 _) ?_
 refine kq F (hO _) ?_
 refine ee hQ F ?_
 exact Fin.plain (.bool _) ⟨rfl,rfl⟩
end
end Go.Av
namespace Go.Av
open Go Go.Proofs Go.RowKit
attribute [local irreducible] WP WPl WPix Sat
variable (G:Nat→Option (List AVal))
theorem mC{l:List En}(hl:l.length≤300):(onceF l).length≤1048576:=by have:=dq l;omega
theorem kM(hG:GOk G)(hc:GClo (CT G))(e:Elem)(l:List En)(he:e.sz≤1048576)(h:Heap):Sat (CT G) 4 [e.av,.sl 5 (l.map En.av)] h (fun r h'=>r=.bool true∧h'=h):=by
 have hL:=kL G hG hc
 have hg:=nj G e he
 have ml:(l.map En.av).length=l.length:=List.length_map ..
 obtain⟨e1,e2,e3,e4⟩:=e
 have dt:∀i:Decidable True, @decide True i=true:=fun i=>by simp
 have df:∀i:Decidable False, @decide False i=false:=fun i=>by simp
 by_cases b1:countE ⟨e1,e2,e3,e4⟩ 1 6000≤0
 ·rw[decide_eq_true b1]at hg
  have F:=F4 ml dt df @ai
  refine sb [.tmp 4] (fn:=Tryz.f4) Tryz.func4 ?_
  intro Q hQ
  refine wk F ?_
  refine kq F (hg _) ?_
  refine kq F (hL _) ?_
  refine ee hQ F ?_
  exact Fin.plain (.bool _) ⟨rfl,rfl⟩
 rw[decide_eq_false b1]at hg
 by_cases b2:300<l.length
 ·have q2:decide ((l.length:Int)>300)=true:=decide_eq_true (by omega)
  have F:=F6 ml q2 dt df (F3 (@beq_self_eq_true Int _ _) (@beq_self_eq_true Bool _ _) (@beq_self_eq_true Bs _ _)) @ai
  refine sb [.tmp 4] (fn:=Tryz.f4) Tryz.func4 ?_
  intro Q hQ
  refine wk F ?_
  refine kq F (hg _) ?_
  refine kq F (hL _) ?_
  refine ee hQ F ?_
  exact Fin.plain (.bool _) ⟨rfl,rfl⟩
 have q2:decide ((l.length:Int)>300)=false:=decide_eq_false (by omega)
 have cn:=tv 3 _ 1 6000 (by decide) (by decide) (by omega:0<countE ⟨e1,e2,e3,e4⟩ 1 6000)
 have hP:=jZ G hG _ he
 have hR:=pZ G _ he cn
 have hO:=cI G l (by omega)
 have hOr:=du G l (by omega)
 have ol:=mC (l:=l) (by omega)
 have hE:∀h,Sat (CT G) 15 [.sl 5 ((onceF l).map En.av),.sl 5 ((onceF l).map En.av)] h (fun r h'=>r=.bool true∧h'=h):=fun h=>by
  have:=er G (onceF l) (onceF l) ol ol h
  rwa [decide_eq_true rfl]at this
 have hD:∀d:Fd,d.es.length≤1048576→∀h,Sat (CT G) 10 [d.av,d.av] h (fun r h'=>r=.bool true∧h'=h):=fun d hd h=>by
  have:=my G d d hd hd h
  rwa [decide_eq_true ⟨rfl,rfl,rfl⟩]at this
 have od:∀d:Fd,ofE ⟨e1,e2,e3,e4⟩=some d→d.es.length≤1048576:=fun d hd=>by
  unfold ofE at hd
  obtain⟨d0,h0,rfl⟩:=Option.map_eq_some_iff.1 hd
  have h1:d0.es.length≤256:=by
   split at h0
   ·rename_i d1 e1;cases h0;exact fZ e1
   ·exact fq h0
  have:=dq d0.es
  simp only[]
  omega
 cases ho:ofE ⟨e1,e2,e3,e4⟩with
 |some d=>
  have hd:=hD d (od d ho)
  rw[ho]at hP hR
  obtain⟨t,k,es⟩:=d
  have hP:∀h,Sat (CT G) 13 [(Elem.mk e1 e2 e3 e4).av] h (fun r h'=>r=.tup [.agg [.str t,.str k,.sl 5 (es.map En.av)],.int .i64 0]∧h'=h):=hP
  have hR:∀h,Sat (CT G) 14 [(Elem.mk e1 e2 e3 e4).av] h (fun r h'=>r=.tup [.agg [.str t,.str k,.sl 5 (es.map En.av)],.bool true]∧h'=h):=hR
  have hd:∀h,Sat (CT G) 10 [.agg [.str t,.str k,.sl 5 (es.map En.av)],.agg [.str t,.str k,.sl 5 (es.map En.av)]] h (fun r h'=>r=.bool true∧h'=h):=hd
  have F:=F6 ml q2 dt df (F3 (@beq_self_eq_true Int _ _) (@beq_self_eq_true Bool _ _) (@beq_self_eq_true Bs _ _)) @ai
  refine sb [.tmp 4] (fn:=Tryz.f4) Tryz.func4 ?_
  intro Q hQ
  refine wk F ?_
  refine kq F (hg _) ?_
  refine kq F (hP _) ?_
  refine kq F (hR _) ?_
  refine kq F (hL _) ?_
  refine kq F (hd _) ?_
  refine kq F (hO _) ?_
  refine kq F (hOr _) ?_
  refine kq F (hE _) ?_
  refine ee hQ F ?_
  exact Fin.plain (.bool _) ⟨rfl,rfl⟩
 |none=>
  have hd:=hD Fd.z (by decide)
  rw[ho]at hP hR
  have hP:∀h,Sat (CT G) 13 [(Elem.mk e1 e2 e3 e4).av] h (fun r h'=>r=.tup [.agg [.str [],.str [],.sl 5 []],.int .i64 120]∧h'=h):=hP
  have hR:∀h,Sat (CT G) 14 [(Elem.mk e1 e2 e3 e4).av] h (fun r h'=>r=.tup [.agg [.str [],.str [],.sl 5 []],.bool false]∧h'=h):=hR
  have hd:∀h,Sat (CT G) 10 [.agg [.str [],.str [],.sl 5 []],.agg [.str [],.str [],.sl 5 []]] h (fun r h'=>r=.bool true∧h'=h):=hd
  have F:=F6 ml q2 dt df (F3 (@beq_self_eq_true Int _ _) (@beq_self_eq_true Bool _ _) (@beq_self_eq_true Bs _ _)) @ai
  refine sb [.tmp 4] (fn:=Tryz.f4) Tryz.func4 ?_
  intro Q hQ
  refine wk F ?_
  refine kq F (hg _) ?_
  refine kq F (hP _) ?_
  refine kq F (hR _) ?_
  refine kq F (hL _) ?_
  refine kq F (hd _) ?_
  refine kq F (hO _) ?_
  refine kq F (hOr _) ?_
  refine kq F (hE _) ?_
  refine ee hQ F ?_
  exact Fin.plain (.bool _) ⟨rfl,rfl⟩
end Go.Av
