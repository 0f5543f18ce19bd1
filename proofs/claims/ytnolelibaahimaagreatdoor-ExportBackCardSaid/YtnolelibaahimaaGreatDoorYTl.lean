/- Parts. -/
import Derived.Test.YtnolelibaahimaaGreatDoorYTi
import Derived.Test.YtnolelibaahimaaGreatDoorYSb
set_option linter.unusedSimpArgs false
set_option linter.unusedVariables false
set_option linter.unusedSectionVars false
set_option linter.unnecessarySimpa false
set_option maxRecDepth 100000
set_option maxHeartbeats 16000000
namespace Go.Av
open Go Go.Proofs Go.RowKit
attribute [local irreducible] WP WPl WPix Sat
variable {G:Nat→Option (List AVal)}
attribute [go_sem] decide_true decide_false
end Go.Av
namespace Go.Av
open Go Go.Proofs Go.RowKit
def rdE(s:Bs):Bs:=readP (s.length+1) s
theorem ic(c:UInt8)(t:Bs)(p:UInt8):Lib.cut (c::t) [p]=if c=p then([],t,true)else if (Lib.cut t [p]).2.2=true then(c::(Lib.cut t [p]).1,(Lib.cut t [p]).2.1,true)else(c::t,[],false):=by
 have hp:([p]:Bs).isPrefixOf (c::t)=(p==c):=by simp[List.isPrefixOf]
 by_cases h:c=p
 ·subst h;rw[M7 rfl];unfold Lib.cut Lib.index;simp
 ·have hpc:(p==c)=false:=by simpa using fun e=>h e.symm
  rw[M1 h];have hi:Lib.index (c::t) [p]=if Lib.index t [p]== -1 then-1 else Lib.index t [p]+1:=by
   rw[Lib.index,hp,hpc];simp
  have hge:=Lib.index_ge t [p];unfold Lib.cut;rw[hi];by_cases h1:Lib.index t [p]= -1
  ·rw[h1];simp
  ·have h2:(Lib.index t [p]== -1)=false:=(by simpa using h1);have h3:0≤Lib.index t [p]:=(by omega);rw[h2];simp only[P0,if_false,M7 h3];rw[M7 (by omega)];simp only[if_true];obtain⟨n,hn⟩:∃n:Nat,Lib.index t [p]=n:=⟨_,(Int.toNat_of_nonneg h3).symm⟩;rw[hn];have e1:((n:Int)+1).toNat=n+1:=(by omega);have e2:(n:Int).toNat=n:=(by omega);rw[e1,e2];simp
theorem tT:∀(n f g:Nat) (s:Bs),s.length≤n→s.length<f→s.length<g→readP f s=readP g s:=by
 intro n;induction n with
 |zero=>
  intro f g s h hf hg;obtain rfl:s=[]:=Q1.1 (by omega);obtain⟨f,rfl⟩:∃k,f=k+1:=⟨f-1,by omega⟩;obtain⟨g,rfl⟩:∃k,g=k+1:=⟨g-1,by omega⟩;rw[readP,readP];rfl
 |succ n ih=>
  intro f g s h hf hg;obtain⟨f,rfl⟩:∃k,f=k+1:=⟨f-1,by omega⟩;obtain⟨g,rfl⟩:∃k,g=k+1:=⟨g-1,by omega⟩;rw[readP,readP];by_cases h1:(Lib.cut s [38]).2.2=true
  ·have h2:=c9 s [38] h1;simp only[M6,N4]at h2;rw[M7 h1,M7 h1,ih f g (Lib.cut s [38]).2.1 (by omega) (by omega) (by omega)];by_cases h3:(Lib.cut (Lib.cut s [38]).2.1 [59]).2.2=true
   ·have h4:=c9 _ [59] h3;simp only[M6,N4]at h4;rw[ih f g (Lib.cut (Lib.cut s [38]).2.1 [59]).2.1 (by omega) (by omega) (by omega)]
   ·have h5:∀b c:Bool,((Lib.cut (Lib.cut s [38]).2.1 [59]).2.2&&b&&c)=false:=fun b c=>by simp[h3]
    rw[h5];simp
  ·rw[M1 h1,M1 h1]
theorem ig(f:Nat)(s:Bs):readP (f+1) s=
  if (Lib.cut s [38]).2.2=true then
   if ((Lib.cut (Lib.cut s [38]).2.1 [59]).2.2&&decide ((Lib.cut (Lib.cut s [38]).2.1 [59]).1.length≤10)&&(signF (Lib.cut (Lib.cut s [38]).2.1 [59]).1).2)=true
   then(Lib.cut s [38]).1++(enc (signF (Lib.cut (Lib.cut s [38]).2.1 [59]).1).1++readP f (Lib.cut (Lib.cut s [38]).2.1 [59]).2.1)
   else(Lib.cut s [38]).1++(38::readP f (Lib.cut s [38]).2.1)
  else(Lib.cut s [38]).1:=rfl
theorem zZ:rdE []=[]:=rfl
theorem pn(f:Nat)(s:Bs)(h:s.length<f):readP f s=rdE s:=tT s.length f _ s (N3 _) h (by omega)
theorem yl(c:UInt8)(t:Bs)(h:c≠38):rdE (c::t)=c::rdE t:=by
 have e1:rdE t=readP (t.length+2) t:=(pn _ _ (by omega)).symm;rw[e1];show readP (t.length+2) (c::t)=_;rw[ig (t.length+1) (c::t),ig (t.length+1) t,ic,M1 h];by_cases h1:(Lib.cut t [38]).2.2=true
 ·rw[M7 h1,M7 rfl,M7 h1];simp only[];split<;>simp
 ·rw[M1 h1,M1 (by simp),M1 h1];rw[l6 t [38] (by simpa using h1)]
theorem Aa(t:Bs):rdE (38::t)=if ((Lib.cut t [59]).2.2&&decide ((Lib.cut t [59]).1.length≤10)&&(signF (Lib.cut t [59]).1).2)=true then enc (signF (Lib.cut t [59]).1).1++rdE (Lib.cut t [59]).2.1 else 38::rdE t:=by
 show readP (t.length+2) (38::t)=_;rw[ig (t.length+1),ic,M7 rfl,M7 rfl];simp only[];by_cases h:((Lib.cut t [59]).2.2&&decide ((Lib.cut t [59]).1.length≤10)&&(signF (Lib.cut t [59]).1).2)=true
 ·rw[M7 h,M7 h];simp only[M2]at h;have:=c9 t [59] h.1.1;rw[pn _ _ (by simp at this;omega)];rfl
 ·rw[M1 h,M1 h,pn _ _ (by omega)];rfl
theorem vC(t:Bs)(p:UInt8)(m:Nat)(h1:∀i,i<m→∀c,t[i]? =some c→c≠p)(h2:t[m]? =some p):Lib.cut t [p]=(t.take m,t.drop (m+1),true):=by
 induction t generalizing m with
 |nil=>simp at h2
 |cons c t ih=>
  rw[ic];cases m with
  |zero=>
   simp at h2;subst h2;rw[M7 rfl];rfl
  |succ m=>
   have hc:c≠p:=h1 0 (by omega) c rfl;rw[M1 hc,ih m (fun i hi d hd=>h1 (i+1) (by omega) d (by simpa using hd)) (by simpa using h2),M7 rfl];rfl
end Go.Av
namespace Go.Av
open Go Go.Proofs Go.RowKit
attribute [local irreducible] WP WPl WPix Sat
variable {G:Nat→Option (List AVal)}
end Go.Av
namespace Go.Av
open Go Go.Proofs Go.RowKit
attribute [local irreducible] WP WPl WPix Sat
variable {G:Nat→Option (List AVal)}
end Go.Av
namespace Go.Av
open Go Go.Proofs Go.RowKit
attribute [local irreducible] WP WPl WPix Sat
variable {G:Nat→Option (List AVal)}
end Go.Av
namespace Go.Av
open Go Go.Proofs Go.RowKit
attribute [local irreducible] WP WPl WPix Sat
variable {G:Nat→Option (List AVal)}
end Go.Av
namespace Go.Av
open Go Go.Proofs Go.RowKit
attribute [local irreducible] WP WPl WPix Sat
variable {G:Nat→Option (List AVal)}
end Go.Av
namespace Go.Av
open Go Go.Proofs Go.RowKit
attribute [local irreducible] WP WPl WPix Sat
variable {G:Nat→Option (List AVal)}
end Go.Av
namespace Go.Av
open Go Go.Proofs Go.RowKit
attribute [local irreducible] WP WPl WPix Sat
variable {G:Nat→Option (List AVal)}
def blankT(t:Tok):Bool:=t.2.2.2.all blankB&&(t.1==3)
end Go.Av
namespace Go.Av
open Go Go.Proofs Go.RowKit
def elL:Nat→Nat→Bs→List At→Bs→List Elem→List Tok→Option (Elem×List Tok)
 |0,_,_,_,_,_,_=>none
 |_+1,_,_,_,_,_,[]=>none
 |f+1,d,n,a,x,k,t::ts=>
  if t.1=3 then elL f d n a (x++t.2.2.2) k ts
  else if t.1=1 then(if d=0 then none else(elL f (d-1) t.2.1 t.2.2.1 [] [] ts).bind fun q=>elL f d n a x (k++[q.1]) q.2)
  else if t.1=2 then(if t.2.1=n then some (⟨n,a,x,k⟩,ts)else none)
  else none
def elF(d:Nat):List Tok→Option (Elem×List Tok)
 | []=>none
 |t::ts=>if t.1=1 then(if d=0 then none else elL (ts.length+1) (d-1) t.2.1 t.2.2.1 [] [] ts)else none
theorem dn(f d:Nat)(n:Bs)(a:List At)(x:Bs)(k:List Elem)(t:Tok)(ts:List Tok):elL (f+1) d n a x k (t::ts)=
  if t.1=3 then elL f d n a (x++t.2.2.2) k ts
  else if t.1=1 then(if d=0 then none else(elL f (d-1) t.2.1 t.2.2.1 [] [] ts).bind fun q=>elL f d n a x (k++[q.1]) q.2)
  else if t.1=2 then(if t.2.1=n then some (⟨n,a,x,k⟩,ts)else none)else none:=rfl
theorem gD(f d:Nat)(n:Bs)(a:List At)(x:Bs)(k:List Elem):elL f d n a x k []=none:=by cases f<;>rfl
theorem kg(d:Nat)(t:Tok)(ts:List Tok):elF d (t::ts)=if t.1=1 then(if d=0 then none else elL (ts.length+1) (d-1) t.2.1 t.2.2.1 [] [] ts)else none:=rfl
theorem rH:∀(f d:Nat) (n:Bs) (a:List At) (x:Bs) (k:List Elem) (ts:List Tok) (q:Elem×List Tok),elL f d n a x k ts=some q→q.2 <:+ts∧q.2.length<ts.length:=by
 intro f;induction f with
 |zero=>intro d n a x k ts q h;cases h
 |succ f ih=>
  intro d n a x k ts q h;cases ts with
  |nil=>rw[gD]at h;cases h
  |cons t ts=>
   rw[dn]at h;have key:q.2 <:+ts:=by
    split at h
    ·exact(ih _ _ _ _ _ _ _ h).1
    ·split at h
     ·split at h
      ·cases h
      ·obtain⟨p,hp,h⟩:=V0.1 h;exact(ih _ _ _ _ _ _ _ h).1.trans (ih _ _ _ _ _ _ _ hp).1
     ·split at h
      ·split at h
       ·cases h;exact List.suffix_refl _
       ·cases h
      ·cases h
   exact⟨key.trans (List.suffix_cons t ts),by have:=key.length_le;simp;omega⟩
theorem pp:∀(f g d:Nat) (n:Bs) (a:List At) (x:Bs) (k:List Elem) (ts:List Tok),ts.length<f→ts.length<g→elL f d n a x k ts=elL g d n a x k ts:=by
 intro f;induction f with
 |zero=>intro g d n a x k ts h;omega
 |succ f ih=>
  intro g d n a x k ts h1 h2;obtain⟨g,rfl⟩:∃g',g=g'+1:=⟨g-1,by omega⟩;cases ts with
  |nil=>rw[gD,gD]
  |cons t ts=>
   simp only[M6]at h1 h2;rw[dn,dn,ih g d n a (x++t.2.2.2) k ts (by omega) (by omega),ih g (d-1) t.2.1 t.2.2.1 [] [] ts (by omega) (by omega)];cases hq:elL g (d-1) t.2.1 t.2.2.1 [] [] ts with
   |none=>rfl
   |some q=>
    have:=(rH _ _ _ _ _ _ _ _ hq).2;simp only[U1];rw[ih g d n a x (k++[q.1]) q.2 (by omega) (by omega)]
end Go.Av
namespace Go.Av
open Go Go.Proofs Go.RowKit
attribute [local irreducible] WP WPl WPix Sat
variable {G:Nat→Option (List AVal)}
end Go.Av
namespace Go.Av
open Go Go.Proofs Go.RowKit
attribute [local irreducible] WP WPl WPix Sat
variable {G:Nat→Option (List AVal)}
def bldF(ts:List Tok):Option Elem:=(elF 32 (ts.dropWhile blankT)).bind fun q=>if q.2.dropWhile blankT=[]then some q.1 else none
end Go.Av
namespace Go.Av
open Go Go.Proofs Go.RowKit
def foldB:List Elem→List Elem→List Tok→Option (List Elem×List Elem)
 |os,ds,[]=>some (os,ds)
 |os,ds,t::ts=>(stepB os ds t).bind fun q=>foldB q.1 q.2 ts
def finB:Option (List Elem×List Elem)→Option Elem
 |some ([],[e])=>some e
 |_=>none
def clsB(st:List Elem)(e:Elem):List Elem×List Elem:=
 match st.getLast? with
 |none=>([],[e])
 |some p=>(st.dropLast++[⟨p.name,p.attrs,p.text,p.kids++[e]⟩],[])
theorem vD(os ds:List Elem):foldB os ds []=some (os,ds):=rfl
theorem cU(os ds:List Elem)(t:Tok)(ts:List Tok):foldB os ds (t::ts)=(stepB os ds t).bind fun q=>foldB q.1 q.2 ts:=rfl
theorem iY:∀(a b:List Tok) (os ds:List Elem),foldB os ds (a++b)=(foldB os ds a).bind fun q=>foldB q.1 q.2 b
 | [],b,os,ds=>rfl
 |t::a,b,os,ds=>by
  rw[Q2,cU,cU];cases stepB os ds t with
  |none=>rfl
  |some q=>simp only[U1];exact iY a b q.1 q.2
theorem vE(st:List Elem)(p e:Elem):clsB (st++[p]) e=(st++[⟨p.name,p.attrs,p.text,p.kids++[e]⟩],[]):=by
 unfold clsB;simp
theorem ym:∀(f d:Nat) (st:List Elem) (n:Bs) (a:List At) (x:Bs) (k:List Elem) (ts:List Tok),ts.length<f→st.length+d=31→
  finB (foldB (st++[⟨n,a,x,k⟩]) [] ts)=(elL f d n a x k ts).bind fun q=>finB (foldB (clsB st q.1).1 (clsB st q.1).2 q.2):=by
 intro f;induction f with
 |zero=>intro d st n a x k ts h;omega
 |succ f ih=>
  intro d st n a x k ts hf hd;cases ts with
  |nil=>
   rw[gD,vD];cases st<;>rfl
  |cons t ts=>
   simp only[M6]at hf;rw[dn,cU];have hlast:(st++[(⟨n,a,x,k⟩:Elem)]).getLast? =some ⟨n,a,x,k⟩:=(by simp);have hdrop:(st++[(⟨n,a,x,k⟩:Elem)]).dropLast=st:=(by simp);by_cases h3:t.1=3
   ·have e:stepB (st++[⟨n,a,x,k⟩]) [] t=some (st++[⟨n,a,x++t.2.2.2,k⟩],[]):=by
     unfold stepB;rw[M1 (by omega),M1 (by omega),M7 h3,hlast,hdrop];rfl
    rw[e,M7 h3,U1];exact ih d st n a (x++t.2.2.2) k ts (by omega) hd
   ·rw[M1 h3];by_cases h1:t.1=1
    ·rw[M7 h1];by_cases h0:d=0
     ·have e:stepB (st++[⟨n,a,x,k⟩]) [] t=none:=by
       unfold stepB;rw[M7 h1,M1];simp;omega
      rw[e,M7 h0];rfl
     ·have e:stepB (st++[⟨n,a,x,k⟩]) [] t=some ((st++[⟨n,a,x,k⟩])++[⟨t.2.1,t.2.2.1,[],[]⟩],[]):=by
       unfold stepB;rw[M7 h1,M7];simp;omega
      rw[e,M1 h0,U1];simp only[];rw[ih (d-1) (st++[Elem.mk n a x k]) t.2.1 t.2.2.1 [] [] ts (by omega) (by simp;omega)];cases hq:elL f (d-1) t.2.1 t.2.2.1 [] [] ts with
      |none=>rfl
      |some q=>
       have:=(rH _ _ _ _ _ _ _ _ hq).2;simp only[U1,vE];exact ih d st n a x (k++[q.1]) q.2 (by omega) hd
    ·rw[M1 h1];by_cases h2:t.1=2
     ·rw[M7 h2];by_cases hn:t.2.1=n
      ·have e:stepB (st++[⟨n,a,x,k⟩]) [] t=some (clsB st ⟨n,a,x,k⟩):=by
        unfold stepB;rw[M1 h1,M7 h2,hlast,hdrop];show(if n=t.2.1 then _ else _)=_;rw[M7 hn.symm];unfold clsB;cases st.getLast?<;>rfl
       rw[e,M7 hn];rfl
      ·have e:stepB (st++[⟨n,a,x,k⟩]) [] t=none:=by
        unfold stepB;rw[M1 h1,M7 h2,hlast];show(if n=t.2.1 then _ else _)=_;rw[M1 (Ne.symm hn)]
       rw[e,M1 hn];rfl
     ·have e:stepB (st++[⟨n,a,x,k⟩]) [] t=none:=by
       unfold stepB;rw[M1 h1,M1 h2,M1 h3]
      rw[e,M1 h2];rfl
theorem vF(ds:List Elem)(t:Tok)(h:ds≠ []):stepB [] ds t=if blankT t then some ([],ds)else none:=by
 unfold stepB blankT;by_cases h1:t.1=1
 ·rw[M7 h1,M1 (fun hc=>h hc.2),M1 (by simp[h1])]
 ·rw[M1 h1];by_cases h2:t.1=2
  ·rw[M7 h2,M1 (by simp[h2])];rfl
  ·rw[M1 h2];by_cases h3:t.1=3
   ·rw[M7 h3];simp[h3]
   ·rw[M1 h3,M1 (by simp[h3])]
theorem ns(e:Elem):∀ts:List Tok,finB (foldB [] [e] ts)=if ts.dropWhile blankT=[]then some e else none
 | []=>rfl
 |t::ts=>by
  rw[cU,vF _ _ (by simp),za8];cases hb:blankT t with
  |true=>simp only[↓reduceIte,U1];exact ns e ts
  |false=>rfl
theorem ii:∀ts:List Tok,finB (foldB [] [] ts)=bldF ts
 | []=>rfl
 |t::ts=>by
  unfold bldF;rw[cU,za8];cases hb:blankT t with
  |true=>
   have e:stepB [] [] t=some ([],[]):=by
    unfold blankT at hb;simp only[M2,beq_iff_eq]at hb;unfold stepB;rw[M1 (by omega),M1 (by omega),M7 hb.2];show(if _ then _ else _)=_;rw[M7 hb.1]
   rw[e];simp only[↓reduceIte,U1];exact ii ts
  |false=>
   simp only[P0, ↓reduceIte];rw[kg];by_cases h1:t.1=1
   ·have e:stepB [] [] t=some ([⟨t.2.1,t.2.2.1,[],[]⟩],[]):=by
     unfold stepB;rw[M7 h1,M7 (by simp)];rfl
    rw[e,M7 h1,M1 (by omega),U1];have:=ym (ts.length+1) 31 [] t.2.1 t.2.2.1 [] [] ts (by omega) rfl;rw[P2]at this;rw[this];show Option.bind (elL (ts.length+1) 31 _ _ _ _ ts) _=Option.bind (elL (ts.length+1) 31 _ _ _ _ ts) _;congr 1
    funext q
    exact ns q.1 q.2
   ·rw[M1 h1];have e:stepB [] [] t=none:=by
     unfold blankT at hb;unfold stepB;rw[M1 h1];by_cases h2:t.1=2
     ·rw[M7 h2];rfl
     ·rw[M1 h2];by_cases h3:t.1=3
      ·rw[M7 h3];show(if _ then _ else _)=_;rw[M1 (by simpa [h3]using hb)]
      ·rw[M1 h3]
    rw[e];rfl
theorem kh{l:List Elem}{e:Elem}(h:l.getLast? =some e):szs Elem.sz l=szs Elem.sz l.dropLast+e.sz:=by
 rcases X5 l with rfl| ⟨m,o,rfl⟩
 ·cases h
 ·rw[X7]at*;simp at h;subst h;simp[co,szs]
theorem vG(t:Tok):Tok.sz t=1+t.2.1.length+szs At.sz t.2.2.1+t.2.2.2.length:=rfl
theorem ff(n:Bs)(a:List At)(x:Bs)(k:List Elem):(Elem.mk n a x k).sz=1+n.length+szs At.sz a+x.length+szs Elem.sz k:=Elem.sz_eq _
theorem yn{os ds:List Elem}{t:Tok}{q:List Elem×List Elem}(h:stepB os ds t=some q):
  szs Elem.sz q.1+szs Elem.sz q.2≤szs Elem.sz os+szs Elem.sz ds+Tok.sz t∧(os.length≤32→q.1.length≤32):=by
 have ht:=vG t;unfold stepB at h;split at h
 ·split at h
  ·rename_i h1 h2;cases h;refine⟨?_,fun _=>by simp;omega⟩;simp only[co,szs,ff,N4];omega
  ·cases h
 ·split at h
  ·split at h
   ·cases h
   ·rename_i e he;have h1:=kh he;split at h
    ·split at h
     ·rename_i hn;cases h;refine⟨?_,fun _=>by simp⟩;simp only[co,szs];omega
     ·rename_i p hp;cases h;have h2:=kh hp;have h3:=Elem.sz_eq p;refine⟨?_,fun hl=>by simp[List.length_dropLast];omega⟩;simp only[co,szs,ff];omega
    ·cases h
  ·split at h
   ·split at h
    ·split at h
     ·cases h;refine⟨?_,fun _=>by simp⟩;simp only[szs];omega
     ·cases h
    ·rename_i e he;cases h;have h1:=kh he;have h3:=Elem.sz_eq e;have hne:os≠ []:=(by rintro rfl;cases he);have hl0:0<os.length:=U4.2 hne;refine⟨?_,fun hl=>by simp[List.length_dropLast];omega⟩;simp only[co,szs,ff,M3];omega
   ·cases h
theorem ki:∀(ts:List Tok) (os ds:List Elem) (q:List Elem×List Elem),foldB os ds ts=some q→
  szs Elem.sz q.1+szs Elem.sz q.2≤szs Elem.sz os+szs Elem.sz ds+szs Tok.sz ts∧(os.length≤32→q.1.length≤32)
 | [],os,ds,q,h=>by cases h;exact⟨by simp[szs],id⟩
 |t::ts,os,ds,q,h=>by
  rw[cU]at h;obtain⟨p,hp,h⟩:=V0.1 h;have h1:=yn hp;have h2:=ki ts p.1 p.2 q h;rw[szs];exact⟨by omega,fun hl=>h2.2 (h1.2 hl)⟩
theorem Ab{ts:List Tok}{e:Elem}(h:bldF ts=some e):e.sz≤szs Tok.sz ts:=by
 rw[← ii]at h;cases hq:foldB [] [] ts with
 |none=>rw[hq]at h;cases h
 |some q=>
  rw[hq]at h;have:=(ki ts [] [] q hq).1;obtain⟨a,b⟩:=q
  match a,b,h with
  | [],[x],h=>cases h;simpa [szs]using this
theorem kj:∀(l:List Elem) (d n:Nat),n≤32→(∀k∈l,deep k (d+1)≤32)→deepL l d n≤32
 | [],d,n,hn,_=>by rw[deepL];exact hn
 |k::l,d,n,hn,h=>by
  rw[deepL];refine kj l d _ ?_ fun x hx=>h x (by simp[hx])
  split
  ·exact h k (by simp)
  ·exact hn
theorem yp:∀(f d:Nat) (n:Bs) (a:List At) (x:Bs) (k:List Elem) (ts:List Tok) (q:Elem×List Tok),d≤31→(∀c∈k,deep c (33-d)≤32)→elL f d n a x k ts=some q→deep q.1 (32-d)≤32:=by
 intro f;induction f with
 |zero=>intro d n a x k ts q _ _ h;cases h
 |succ f ih=>
  intro d n a x k ts q hd hk h;cases ts with
  |nil=>rw[gD]at h;cases h
  |cons t ts=>
   rw[dn]at h;split at h
   ·exact ih _ _ _ _ _ _ _ hd hk h
   ·split at h
    ·split at h
     ·cases h
     ·rename_i hd0;obtain⟨p,hp,h⟩:=V0.1 h;have h1:=ih _ _ _ _ _ _ _ (by omega) (by simp) hp;refine ih _ _ _ _ _ _ _ hd ?_ h;intro c hc;rcases Q6.1 hc with hc|hc
      ·exact hk c hc
      ·simp at hc;subst hc;rw[show 33-d=32-(d-1) by omega];exact h1
    ·split at h
     ·split at h
      ·cases h;rw[dR,M1 (by omega)];refine kj _ _ _ (by omega) ?_;intro c hc;rw[show 32-d+1=33-d by omega];exact hk c hc
      ·cases h
     ·cases h
theorem vH{ts:List Tok}{e:Elem}(h:bldF ts=some e):deep e 1≤32:=by
 unfold bldF at h;obtain⟨q,hq,h⟩:=V0.1 h;split at h
 ·cases h;generalize ts.dropWhile blankT=u at hq;cases u with
  |nil=>cases hq
  |cons t u=>
   rw[kg]at hq;split at hq
   ·rw[M1 (by omega)]at hq;exact yp _ 31 _ _ _ _ _ _ (by omega) (by simp) hq
   ·cases hq
 ·cases h
def shortF(s:Bs)(n:Nat):Bs:=cleanF (cutF (cleanF s) n)
def attrS(e:Elem)(n:Bs)(m:Nat):Bs:=shortF (attrF e.attrs n).1 m
def orF(a b c:Bs):Bs:=if a≠ []then a else if b≠ []then b else c
def bText:Bs:=[116,101,120,116]
def bTitle:Bs:=[116,105,116,108,101]
def bUrl:Bs:=[120,109,108,85,114,108]
def bOutline:Bs:=[111,117,116,108,105,110,101]
def bBody:Bs:=[98,111,100,121]
def bOpml:Bs:=[111,112,109,108]
def titF(k:Elem):Bs:=orF (attrS k bText 256) (attrS k bTitle 256) (shortF (attrS k bUrl 512) 256)
def oneO(g:Elem→List Outl)(k:Elem):Option Outl:=
 if titF k=[]then none else some ⟨titF k,attrS k bUrl 512,if attrS k bUrl 512=[]then g k else []⟩
def ofF:Nat→Elem→List Outl
 |0,_=>[]
 |f+1,e=>(kidsF e bOutline).filterMap (oneO (ofF f))
theorem ij(s:Bs)(n:Nat):(cutF s n).length≤n∧(cutF s n).length≤s.length:=by
 have:=zu s s.length 0 n (by omega);unfold cutA at this;simp only[zb4]at this;unfold cutF;rw[P6];omega
theorem fg(s:Bs)(n:Nat):(shortF s n).length≤8*n:=by
 have h1:=gY (cutF (cleanF s) n);have h2:=(ij (cleanF s) n).1;unfold shortF;omega
theorem Ac(a b c:Bs)(n:Nat)(ha:a.length≤n)(hb:b.length≤n)(hc:c.length≤n):(orF a b c).length≤n:=by
 unfold orF;split
 ·exact ha
 ·split
  ·exact hb
  ·exact hc
theorem yq(k:Elem):(titF k).length≤2048:=Ac _ _ _ _ (fg _ _) (fg _ _) (fg _ _)
theorem rI(k:Elem):(attrS k bUrl 512).length≤4096:=fg _ _
theorem vI(p:Elem→Bool)(l:List Elem):szs Elem.sz (l.filter p)≤szs Elem.sz l:=by
 induction l with
 |nil=>exact N3 _
 |cons x l ih=>rw[X0];split<;>simp only[szs]<;>omega
theorem nt(e:Elem)(n:Bs):szs Elem.sz (kidsF e n)+1≤e.sz:=by
 have h1:=vI (fun k=>decide (short k.name=n)) e.kids;have h2:=e.sz_eq;unfold kidsF;omega
def textO(s:Bs)(m:Nat):Bool:=decide (s.length≤m)&&rightS s&&decide (cleanF s=s)
def oneOk(o:Outl):Bool:=decide (o.title≠ [])&&textO o.title 256&&textO o.url 512&&(decide (o.url=[])||decide (o.kids=[]))
def cntGo(g:List Outl→Nat):List Outl→Nat→Nat
 | [],n=>n
 |o::t,n=>if oneOk o then(if 512<n+g o.kids then n+g o.kids else cntGo g t (n+g o.kids))else 513
def cntN:Nat→List Outl→Nat
 |0,l=>if l=[]then 0 else 513
 |f+1,l=>if 512<l.length then 513 else cntGo (cntN f) l l.length
structure En where
 guid:Bs
 title:Bs
 link:Bs
 date:Int
 dated:Bool
def En.av(x:En):AVal:=.agg [.str x.guid,.str x.title,.str x.link,.int .i64 x.date,.bool x.dated]
structure Fd where
 title:Bs
 link:Bs
 es:List En
def Fd.av(d:Fd):AVal:=.agg [.str d.title,.str d.link,.sl 5 (d.es.map En.av)]
end Go.Av
namespace Go.Av
open Go Go.Proofs Go.RowKit Go.ChangeShapes Go.WideShapes
section
variable {H:Type} {enc:TypeId×Value→H} {W:World}
end
section
variable {H:Type} {enc:TypeId×Value→H} {W:World}
end
section
variable {H:Type} {enc:TypeId×Value→H} {W:World}
theorem DO(n:Nat):Rd H enc Tryz.prog W n 34 (fun e:Ev=>e.av.cells) (fun _=>0):=fun cs x h=>by
 obtain⟨ds,n',rfl,hx,hcl,hdl,hf⟩:=uB (fs:=[3,3,3,3,9,9,9]) (by kernel_rfl) h;obtain⟨y0,d0,t0⟩:=hf 0 _ rfl;obtain⟨y1,d1,t1⟩:=hf 1 _ rfl;obtain⟨y2,d2,t2⟩:=hf 2 _ rfl;obtain⟨y3,d3,t3⟩:=hf 3 _ rfl;obtain⟨y4,d4,t4⟩:=hf 4 _ rfl;obtain⟨y5,d5,t5⟩:=hf 5 _ rfl;obtain⟨y6,d6,t6⟩:=hf 6 _ rfl;obtain⟨a0,s0,r0,_⟩:=dH (mk:=fun i: {i:Int//(Lit.int .i64 i).wf=true}=>.int .i64 i.1) (kO (by kernel_rfl)) t0;obtain⟨a1,s1,r1,_⟩:=dH (mk:=fun i: {i:Int//(Lit.int .i64 i).wf=true}=>.int .i64 i.1) (kO (by kernel_rfl)) t1;obtain⟨a2,s2,r2,_⟩:=dH (mk:=fun i: {i:Int//(Lit.int .i64 i).wf=true}=>.int .i64 i.1) (kO (by kernel_rfl)) t2;obtain⟨a3,s3,r3,_⟩:=dH (mk:=fun i: {i:Int//(Lit.int .i64 i).wf=true}=>.int .i64 i.1) (kO (by kernel_rfl)) t3;obtain⟨a4,s4,r4,_⟩:=dH (mk:=fun s:Bs=>.str s) (oz (by kernel_rfl)) t4;obtain⟨a5,s5,r5,_⟩:=dH (mk:=fun s:Bs=>.str s) (oz (by kernel_rfl)) t5;obtain⟨a6,s6,r6,_⟩:=dH (mk:=fun s:Bs=>.str s) (oz (by kernel_rfl)) t6;refine⟨⟨a0.1,a1.1,a2.1,a3.1,a4,a5,a6⟩,by rw[hcl];rfl,fun j c hj=>?_,V8 _⟩
 match j with
 |0=>simp[Ev.av,AVal.cells]at hj;subst hj;exact⟨s0,r0⟩
 |1=>simp[Ev.av,AVal.cells]at hj;subst hj;exact⟨s1,r1⟩
 |2=>simp[Ev.av,AVal.cells]at hj;subst hj;exact⟨s2,r2⟩
 |3=>simp[Ev.av,AVal.cells]at hj;subst hj;exact⟨s3,r3⟩
 |4=>simp[Ev.av,AVal.cells]at hj;subst hj;exact⟨s4,r4⟩
 |5=>simp[Ev.av,AVal.cells]at hj;subst hj;exact⟨s5,r5⟩
 |6=>simp[Ev.av,AVal.cells]at hj;subst hj;exact⟨s6,r6⟩
 |j+7=>simp[Ev.av,AVal.cells]at hj
theorem qI{v:Value}{d:DataW H}{ps:List MemPlace}{r:Reach}{b0:Nat}(hval:Value.okWide Tryz.prog W r b0 22 v)(h:DataW.Trod enc Tryz.prog W 0 (fun _=>true) true 22 v d ps):∃es:List Ev,Rep W (lies0 W) [] (.sl 7 (es.map Ev.av)) v:=by
 obtain⟨n,hn⟩:=h;obtain⟨l,h1,h2,_⟩:=wQ (m:=7) (e:=34) Ev.av (by kernel_rfl) (by kernel_rfl) (by decide) (fun _=>rfl) (fun _=>rfl) (fun k _=>DO k) _ _ hn;refine⟨l,?_⟩;have h4:=(h2 0 _ rfl).2;have hcs:v.cells.toList=[v]:=by
  have hu:Tryz.prog.underlying 22=some (.slice 34):=by kernel_rfl
  cases v with
  |agg a=>simp[Value.okWide,hu,Cell.okWide,Cell.ok]at hval
  |_=>rfl
 rw[hcs]at h4;simpa using h4
end
end Go.Av
namespace Go.Av
open Go Go.Proofs Go.RowKit
def escB(c:UInt8):Bs:=if c=38 then [38,97,109,112,59]else if c=60 then [38,108,116,59]else if c=62 then [38,103,116,59]else if c=34 then [38,113,117,111,116,59]else if c=39 then [38,97,112,111,115,59]else [c]
def escF(s:Bs):Bs:=s.flatMap escB
theorem ny(c:UInt8)(s:Bs):escF (c::s)=escB c++escF s:=R8
theorem yw(c:UInt8):1≤(escB c).length∧(escB c).length≤6:=by
 unfold escB;repeat (first|split|exact⟨by simp,by simp⟩)
theorem cL:∀s:Bs,(escF s).length≤6*s.length∧s.length≤(escF s).length
 | []=>by simp[escF]
 |c::s=>by have:=cL s;have:=yw c;rw[ny];simp;omega
theorem vQ(s:Bs)(c:UInt8):escF (s++[c])=escF s++escB c:=by simp[escF]
theorem yx(n u:Bs)(hn:∀c∈n,c≠ (59:UInt8)):Lib.cut (n++59::u) [59]=(n,u,true):=by
 rw[vC (n++59::u) 59 n.length (fun i hi c hc=>hn c (by rw[M5 hi]at hc;exact N0 hc)) (by simp)];simp
theorem fF(n u:Bs)(v:UInt8)(hn:∀c∈n,c≠ (59:UInt8))(hl:n.length≤10)(hs:signF n=((v.toNat:Int),true))(he:enc (v.toNat:Int)=[v]):rdE (38::n++59::u)=v::rdE u:=by
 rw[Q2,Aa,yx n u hn];simp only[hs,Bool.and_true,za2,M8];rw[M7 hl,he];rfl
theorem yy(c:UInt8)(u:Bs):rdE (escB c++u)=c::rdE u:=by
 unfold escB;by_cases h1:c=38
 ·subst h1;exact fF [97,109,112] u 38 (by decide) (by decide) (by kernel_rfl) (by kernel_rfl)
 by_cases h2:c=60
 ·subst h2;exact fF [108,116] u 60 (by decide) (by decide) (by kernel_rfl) (by kernel_rfl)
 by_cases h3:c=62
 ·subst h3;exact fF [103,116] u 62 (by decide) (by decide) (by kernel_rfl) (by kernel_rfl)
 by_cases h4:c=34
 ·subst h4;exact fF [113,117,111,116] u 34 (by decide) (by decide) (by kernel_rfl) (by kernel_rfl)
 by_cases h5:c=39
 ·subst h5;exact fF [97,112,111,115] u 39 (by decide) (by decide) (by kernel_rfl) (by kernel_rfl)
 rw[M1 h1,M1 h2,M1 h3,M1 h4,M1 h5];exact yl c u h1
theorem rL:∀s:Bs,rdE (escF s)=s
 | []=>zZ
 |c::s=>by rw[ny,yy,rL s]
theorem Af(c:UInt8):∀x∈escB c,x≠60∧x≠34:=by
 unfold escB;by_cases h1:c=38
 ·rw[M7 h1];decide
 by_cases h2:c=60
 ·rw[M1 h1,M7 h2];decide
 by_cases h3:c=62
 ·rw[M1 h1,M1 h2,M7 h3];decide
 by_cases h4:c=34
 ·rw[M1 h1,M1 h2,M1 h3,M7 h4];decide
 by_cases h5:c=39
 ·rw[M1 h1,M1 h2,M1 h3,M1 h4,M7 h5];decide
 rw[M1 h1,M1 h2,M1 h3,M1 h4,M1 h5];intro x hx;obtain rfl:=Q7.1 hx;exact⟨h2,h4⟩
theorem rM(s:Bs):∀x∈escF s,x≠60∧x≠34:=fun x hx=>by
 obtain⟨c,_,h⟩:=List.mem_flatMap.1 hx;exact Af c x h
theorem tZ(n u:Bs)(p:UInt8)(hn:∀c∈n,c≠p):Lib.cut (n++p::u) [p]=(n,u,true):=by
 rw[vC (n++p::u) p n.length (fun i hi c hc=>hn c (by rw[M5 hi]at hc;exact N0 hc)) (by simp)];simp
theorem pt(p:UInt8):∀s:Bs,(∀x∈s,x≠p)→(Lib.cut s [p]).2.2=false
 | [],_=>rfl
 |c::s,h=>by
  rw[ic,M1 (h c (Q0 ..)),M1 (by rw[pt p s fun x hx=>h x (P3 _ hx)];decide)]
theorem u4(p:UInt8)(s:Bs)(h:∀x∈s,x≠p):Lib.contains s [p]=false:=by
 have h1:=pt p s h;have h2:Lib.contains s [p]=decide (0≤Lib.index s [p]):=rfl;rw[h2];unfold Lib.cut at h1;by_cases h3:0≤Lib.index s [p]
 ·rw[M7 h3]at h1;cases h1
 ·simpa using h3
theorem u5(v r:Bs):valueF (34::escF v++34::r) false=(v,r,false):=by
 have h0:Lib.hasPrefix (34::escF v++34::r) [34]=true:=by simp[Lib.hasPrefix,List.isPrefixOf]
 have h1:Lib.trimPrefix (34::escF v++34::r) [34]=escF v++34::r:=by unfold Lib.trimPrefix;rw[M7 h0];rfl
 have h2:uptoF [34] (escF v++34::r) false=(escF v,r,false):=by
  unfold uptoF;rw[tZ (escF v) r 34 fun c hc=>(rM v c hc).2];rfl
 unfold valueF;simp only[h0, ↓reduceIte,h1,X1,Y8,h2];rw[u4 60 _ fun x hx=>(rM v x hx).1];show(rdE (escF v),r,false||false)=_;rw[rL];rfl
theorem vR(n v r:Bs)(hn:nameW (n++61::34::escF v++34::r)=n)(hr:nameR (n++61::34::escF v++34::r)=61::34::escF v++34::r)(hb:badN n=false):attrX (n++61::34::escF v++34::r) false=((n,v),r,false):=by
 unfold attrX;simp only[hn,hr,hb,Y8];have e1:(61::34::escF v++34::r:Bs).dropWhile blankB=61::(34::escF v++34::r):=rfl;have e2:Lib.hasPrefix (61::(34::escF v++34::r)) [61]=true:=by simp[Lib.hasPrefix,List.isPrefixOf]
 have e3:Lib.trimPrefix (61::(34::escF v++34::r)) [61]=34::escF v++34::r:=by unfold Lib.trimPrefix;rw[M7 e2];rfl
 have e4:(34::escF v++34::r:Bs).dropWhile blankB=34::escF v++34::r:=rfl;simp only[e1,e2,e3,e4,X1,Y8,P0, ↓reduceIte,u5]
end Go.Av
namespace Go.Av
open Go Go.Proofs Go.RowKit
attribute [local irreducible] WP WPl WPix Sat
variable {G:Nat→Option (List AVal)}
def prsC(s:Bs):Int:=if (toksF s).2=0 then(if (bldF (toksF s).1).isSome then 0 else 90)else(toksF s).2
def PrsR(h:Heap)(s:Bs)(r:AVal)(h':Heap):Prop:=
 ∃e:Elem,r=.tup [e.av,.int .i64 (prsC s)]∧(∀x,prsC s=0→bldF (toksF s).1=some x→e=x)∧(prsC s≠0→e=⟨[],[],[],[]⟩)∧h'=h
theorem PrsR.bad{h:Heap}{s:Bs}(j:Heap)(c:Int)(e:prsC s=c)(hc:c≠0):Fin h (h++j) (PrsR h s) (.tup [.agg [.str [],.nil (.slice none 0 0),.str [],.nil (.slice none 0 0)],.int .i64 c]):=by
 have z:Frz (h++j) h.length (.agg [.str [],.nil (.slice none 0 0),.str [],.nil (.slice none 0 0)]) (Elem.av ⟨[],[],[],[]⟩):=by
  rw[Elem.av_eq];exact FrzL.agg (.cons (.clo _ (.str _)) (.cons (.nils 2) (.cons (.clo _ (.str _)) (.cons (.nils 4) .nil)))) rfl
 exact Fin.frz (FrzL.tup (.cons z (.cons (.clo _ (.int _ _)) .nil))) ⟨_,by rw[e],(fun x hx=>by rw[e]at hx;exact absurd hx hc),fun _=>rfl,rfl⟩
theorem yC(s:Bs):szs Tok.sz (toksF s).1≤10*s.length:=by
 unfold toksF;split
 ·simp[szs]
 ·have:=zD (s.length+1) s [];simpa [szs]using this
theorem nz(s:Bs):szs Tok.sz (toksF s).1≤655360:=by
 have h:=yC s;by_cases hs:65536<s.length
 ·unfold toksF;rw[M7 hs];simp[szs]
 ·omega
end Go.Av
namespace Go.Av
open Go Go.Proofs Go.RowKit
attribute [local irreducible] WP WPl WPix Sat
variable (G:Nat→Option (List AVal))
theorem jI(s:Bs)(n:Nat)(hs:s.length≤700000)(hn:n≤1000)(h:Heap):Sat (CT G) 145 [.str s,.int .i64 n] h (fun r h'=>r=.str (shortF s n)∧h'=h):=by
 have h1:=gY s;have h2:=(ij (cleanF s) n).1;refine sb [.tmp 4] Tryz.func145 ?_;intro Q hQ;refine wk trivial ?_;refine kq trivial (cQ G s (by omega) _) ?_;refine kq trivial (oL G (cleanF s) n (by omega) (by omega) _) ?_;refine kq trivial (cQ G (cutF (cleanF s) n) (by omega) _) ?_;refine ee hQ trivial ?_;refine fR (.str _) ?_;rfl
theorem nB(n:Bs):∀l:List At,(attrF l n).1.length≤szs At.sz l
 | []=>by simp[attrF]
 |a::l=>by
  have:=nB n l;have h2:At.sz a=1+a.1.length+a.2.length:=rfl;rw[attrF,szs];split
  ·simp only[];omega
  ·omega
theorem iu(e:Elem)(n:Bs)(m:Nat)(hs:e.sz≤700000)(hm:m≤1000)(h:Heap):Sat (CT G) 143 [e.av,.str n,.int .i64 m] h (fun r h'=>r=.str (attrS e n m)∧h'=h):=by
 have h1:=nB n e.attrs;have h2:=e.sz_eq;refine sb [.tmp 6] Tryz.func143 ?_;intro Q hQ;refine wk trivial ?_;refine kq trivial (uX G e n (by omega) _) ?_;refine kq trivial (jI G (attrF e.attrs n).1 m (by omega) hm _) ?_;refine ee hQ trivial ?_;refine fR (.str _) ?_;rfl
theorem lA(s:Bs)(m:Nat)(hs:s.length≤100000)(h:Heap):Sat (CT G) 147 [.str s,.int .i64 m] h (fun r h'=>r=.bool (textO s m)∧h'=h):=by
 refine sb [.tmp 4] Tryz.func147 ?_;intro Q hQ;refine wk trivial ?_;(first|refine gq trivial (fun g1=>?_) (fun g1=>?_)|refine pq trivial (fun g1=>?_) (fun g1=>?_))<;>(try exact g1.elim)<;>(try refine sq trivial ?_)<;>(refine wk trivial ?_)
 ·refine kq trivial (kY G s (by omega) _) ?_;(first|refine gq trivial (fun g2=>?_) (fun g2=>?_)|refine pq trivial (fun g2=>?_) (fun g2=>?_))<;>(try exact g2.elim)<;>(try refine sq trivial ?_)<;>(refine wk trivial ?_)
  ·refine kq trivial (cQ G s (by omega) _) ?_;refine ee hQ trivial ?_;refine fR (.bool _) ?_;unfold textO;rw[R4 (show s.length≤m by omega),g2,za2,za2];congr 1
   rw[T5];simp
  ·refine ee hQ trivial ?_;refine fR (.bool _) ?_;unfold textO;rw[g2];simp
 ·refine ee hQ trivial ?_;refine fR (.bool _) ?_;unfold textO;rw[S7 (show ¬s.length≤m by omega)];simp
theorem vU(o:Outl)(ht:o.title.length≤100000)(hu:o.url.length≤100000)(h:Heap):Sat (CT G) 109 [o.av] h (fun r h'=>r=.bool (oneOk o)∧h'=h):=by
 have hkl:o.kids.length=0↔o.kids=[]:=Q1;refine sb [.tmp 2] Tryz.func109 ?_;intro Q hQ;refine wk trivial ?_;(first|refine gq trivial (fun g1=>?_) (fun g1=>?_)|refine pq trivial (fun g1=>?_) (fun g1=>?_))<;>(try exact g1.elim)<;>(try refine sq trivial ?_)<;>(refine wk trivial ?_)
 ·refine kq trivial (lA G o.title 256 (by omega) _) ?_;(first|refine gq trivial (fun g2=>?_) (fun g2=>?_)|refine pq trivial (fun g2=>?_) (fun g2=>?_))<;>(try exact g2.elim)<;>(try refine sq trivial ?_)<;>(refine wk trivial ?_)
  ·refine kq trivial (lA G o.url 512 (by omega) _) ?_;(first|refine gq trivial (fun g3=>?_) (fun g3=>?_)|refine pq trivial (fun g3=>?_) (fun g3=>?_))<;>(try exact g3.elim)<;>(try refine sq trivial ?_)<;>(refine wk trivial ?_)
   ·(first|refine gq trivial (fun g4=>?_) (fun g4=>?_)|refine pq trivial (fun g4=>?_) (fun g4=>?_))<;>(try exact g4.elim)<;>(try refine sq trivial ?_)<;>(refine wk trivial ?_)
    ·refine ee hQ trivial ?_;refine fR (.bool _) ?_;unfold oneOk;rw[g2,g3];simp[g1,g4]
    ·refine ee hQ trivial ?_;refine fR (.bool _) ?_;unfold oneOk;rw[g2,g3];simp[g1,g4];rw[T5];simp
   ·refine ee hQ trivial ?_;refine fR (.bool _) ?_;unfold oneOk;rw[g3];simp
  ·refine ee hQ trivial ?_;refine fR (.bool _) ?_;unfold oneOk;rw[g2];simp
 ·refine ee hQ trivial ?_;refine fR (.bool _) ?_;unfold oneOk;simp[g1]
theorem BA(a b c:Bs)(h:Heap):Sat (CT G) 144 [.sl 1 [.str a,.str b,.str c]] h (fun r h'=>r=.str (orF a b c)∧h'=h):=by
 refine sb [.tmp 2] Tryz.func144 ?_;intro Q hQ;refine wk trivial ?_;refine lm (fun nL tL hL=>∃(k:Nat),3-k=nL∧h=hL∧tL 8=.int .i64 k∧k≤3∧(1≤k→a=[])∧(2≤k→b=[])∧(3≤k→c=[])) ((fun(k:Nat)=>(3-k:Nat)) (0)) ?_ ?_
 ·refine N6 ⟨0,rfl,aw,?_,by omega,fun h=>by omega,fun h=>by omega,fun h=>by omega⟩;all_goals try exact zZz trivial
 rintro _ s2 h' ⟨k,rfl,rfl,e8,hk,h0,h1,h2⟩ K2 hK2;simp only[aj,am,Nat.reduceEqDiff, ↓reduceIte]at e8;have F:=e8;refine wk F ?_;refine cq F (fun c1=>?_) (fun c1=>?_)<;>(try exact c1.elim)<;>(refine wk F ?_)
 ·obtain⟨y,hy,hyv⟩:∃y:Bs,([.str a,.str b,.str c]:List AVal)[k]? =some (.str y)∧((k=0∧y=a)∨(k=1∧y=b)∨(k=2∧y=c)):=by
   match k,c1 with
   |0,_=>exact⟨a,rfl,.inl ⟨rfl,rfl⟩⟩
   |1,_=>exact⟨b,rfl,.inr (.inl ⟨rfl,rfl⟩)⟩
   |2,_=>exact⟨c,rfl,.inr (.inr ⟨rfl,rfl⟩)⟩
   |k+3,c1=>exfalso;omega
  have F:=F2 F hy;try refine sq F ?_
  refine wk F ?_;refine cq F (fun c2=>?_) (fun c2=>?_)<;>(try exact c2.elim)<;>(refine wk F ?_)
  ·refine ee hQ F ?_;refine fR (.str _) ?_;unfold orF;rcases hyv with⟨rfl,rfl⟩| ⟨rfl,rfl⟩| ⟨rfl,rfl⟩
   ·rw[M7 c2]
   ·rw[M1 (by simp[h0 (by omega)]),M7 c2]
   ·rw[M1 (by simp[h0 (by omega)]),M1 (by simp[h1 (by omega)])]
  ·have c3:y=[]:=(by simpa using c2);have n0:1≤k+1→a=[]:=fun hh=>by
    rcases hyv with⟨rfl,rfl⟩| ⟨rfl,rfl⟩| ⟨rfl,rfl⟩
    ·exact c3
    ·exact h0 (by omega)
    ·exact h0 (by omega)
   have n1:2≤k+1→b=[]:=fun hh=>by
    rcases hyv with⟨rfl,rfl⟩| ⟨rfl,rfl⟩| ⟨rfl,rfl⟩
    ·omega
    ·exact c3
    ·exact h1 (by omega)
   have n2:3≤k+1→c=[]:=fun hh=>by
    rcases hyv with⟨rfl,rfl⟩| ⟨rfl,rfl⟩| ⟨rfl,rfl⟩
    ·omega
    ·omega
    ·exact c3
   refine hK2 _ _ _ (N6 ⟨k+1,rfl,aw,?_,by omega,n0,n1,n2⟩) (by omega);all_goals try exact zZz F
 ·have h3:=h2 (by omega);subst h3;refine wk F ?_;refine ee hQ F ?_;refine fR (.str _) ?_;unfold orF;rw[h0 (by omega),h1 (by omega)];rfl
theorem FrN.split{h H:Heap}(g:FrN h.length h H)(hl:h.length≤H.length):∃j,H=h++j:=by
 refine⟨H.drop h.length,U0 fun i=>?_⟩;by_cases hi:i<h.length
 ·rw[M5 hi];exact g i hi
 ·rw[M9 (by omega),Q8];congr 1;omega
def PBldR(h:Heap)(l:List Tok)(r:AVal)(h':Heap):Prop:=
 ∃e:Elem,r=.tup [e.av,.int .i64 (if (bldF l).isSome then 0 else 90)]∧(∀x,bldF l=some x→e=x)∧(bldF l=none→e=⟨[],[],[],[]⟩)∧h'=h
theorem PBldR.bad{h H:Heap}{l:List Tok}(g:FrN h.length h H)(hl:h.length≤H.length)(e:bldF l=none):Fin h H (PBldR h l) (.tup [.agg [.str [],.nil (.slice none 0 0),.str [],.nil (.slice none 0 0)],.int .i64 90]):=by
 obtain⟨j,rfl⟩:=g.split hl;have z:Frz (h++j) h.length (.agg [.str [],.nil (.slice none 0 0),.str [],.nil (.slice none 0 0)]) (Elem.av ⟨[],[],[],[]⟩):=by
  rw[Elem.av_eq];exact FrzL.agg (.cons (.clo _ (.str _)) (.cons (.nils 2) (.cons (.clo _ (.str _)) (.cons (.nils 4) .nil)))) rfl
 exact Fin.frz (FrzL.tup (.cons z (.cons (.clo _ (.int _ _)) .nil))) ⟨_,by rw[e];rfl,(fun x hx=>by rw[e]at hx;cases hx),fun _=>rfl,rfl⟩
theorem yD(l:List OE):∀o∈l,o.k.length≤szs Elem.sz (l.map OE.el)∧o.t.length≤szs Elem.sz (l.map OE.el):=by
 intro o ho;have h1:=bL Elem.sz (List.mem_map_of_mem (f:=OE.el) ho);have h2:=ff o.n o.a o.t o.k;have h3:=bY Elem.sz Elem.sz_pos o.k;have h4:(OE.el o).sz=(Elem.mk o.n o.a o.t o.k).sz:=rfl;omega
theorem u6{l:List Tok}{k:Nat}{t:Tok}{q:List Elem×List Elem}(hy:l[k]? =some t)(hq:foldB [] [] (l.take k)=some q):foldB [] [] (l.take (k+1))=stepB q.1 q.2 t:=by
 have e:l.take (k+1)=l.take k++[t]:=by rw[T9,hy];rfl
 rw[e,iY,hq,U1];show(stepB q.1 q.2 t).bind _=_;cases stepB q.1 q.2 t<;>rfl
theorem u7{l:List Tok}{k:Nat}(h:foldB [] [] (l.take k)=none):bldF l=none:=by
 rw[← ii];have:l=l.take k++l.drop k:=(X3 k l).symm;rw[this,iY,h];rfl
theorem u9(hG:GOk G)(hC:GClo (CT G))(l:List Tok)(hs:szs Tok.sz l≤1048576)(h:Heap):Sat (CT G) 140 [.sl 4 (l.map Tok.av)] h (PBldR h l):=by
 have hll:=bY Tok.sz Tok.sz_pos l;refine sb [.cell 2 171,.tmp 3] Tryz.func140 ?_;intro Q hQ;refine wk trivial ?_;have g0:getRow (h++[.row 171 4 0 [.agg [.str [],.nil (.slice none 0 0),.str [],.nil (.slice none 0 0)]],.row 225 2 0 [.agg [.nil (.slice none 0 0),.nil (.slice none 0 0)]]]) (h.length+1) 0=some (225,2,[.agg [.nil (.slice none 0 0),.nil (.slice none 0 0)]]):=by
  rw[bZ _ rfl];rfl
 obtain⟨H1,hw,hfr,po,pd,hb⟩:=BH.start (C:=CT G) (n0:=h.length+1) g0 (N3 _);have keep:∀hh:Heap,FrN (h.length+1) (h++[.row 171 4 0 [.agg [.str [],.nil (.slice none 0 0),.str [],.nil (.slice none 0 0)]]]) hh→getRow hh h.length 0=some (171,4,[.agg [.str [],.nil (.slice none 0 0),.str [],.nil (.slice none 0 0)]]):=fun hh g=>by
  unfold getRow;rw[g h.length (by omega)];simp
 have hf0:FrN (h.length+1) (h++[.row 171 4 0 [.agg [.str [],.nil (.slice none 0 0),.str [],.nil (.slice none 0 0)]]]) H1∧h.length+1<H1.length:=by
  refine⟨fun p hp=>?_,by have:=hfr.2;simp at this;omega⟩;rw[hfr.1 p hp];rw[show ∀A B:Blk,h++[A,B]=(h++[A])++[B]from fun A B=>by simp,M5 (by simp;omega)]
 have base:∀H:Heap,FrN (h.length+1) (h++[.row 171 4 0 [.agg [.str [],.nil (.slice none 0 0),.str [],.nil (.slice none 0 0)]]]) H→FrN h.length h H:=fun H g p hp=>by
  rw[g p (by omega),M5 hp]
 refine lm (fun nL tL hL=>∃(k:Nat) (hh:Heap) (os:List OE) (ds:List Elem),l.length-k=nL∧hh=hL∧tL 11=.int .i64 k∧k≤l.length∧foldB [] [] (l.take k)=some (os.map OE.el,ds)∧(FrN (h.length+1) (h++[.row 171 4 0 [.agg [.str [],.nil (.slice none 0 0),.str [],.nil (.slice none 0 0)]]]) hh∧h.length+1<hh.length)∧(∃po vo room pd vd,BH hh (h.length+1) (h.length+1) po vo room os pd vd ds)) ((fun(k:Nat) (hh:Heap) (os:List OE) (ds:List Elem)=>(l.length-k:Nat)) (0) (H1) ([]) ([])) ?_ ?_
 ·refine⟨_,_,(hw _ _),⟨0,H1,[],[],rfl,aw,?_,by omega,rfl,hf0,⟨po,0,true,pd,0,hb⟩⟩⟩;all_goals try exact zZz trivial
 rintro _ s2 h' ⟨k,hh,os,ds,rfl,rfl,e11,hk,hq,hf,hb⟩ K2 hK2;simp only[aj,am,Nat.reduceEqDiff, ↓reduceIte]at e11;have F:=e11;refine wk F ?_;obtain⟨po,vo,room,pd,vd,hb⟩:=hb;obtain⟨hf,hfl⟩:=hf;have hcell:=keep hh hf;have hsz:=ki _ _ _ _ hq;have hkd:=yD os;have hln:=hsz.2 (by simp);have htk:szs Tok.sz (l.take k)≤szs Tok.sz l:=by
  conv=>rhs;rw[← X3 k l,co]
  omega
 have hdl:=bY Elem.sz Elem.sz_pos ds;simp only[szs,O0]at hsz hln;refine cq F (fun c2=>?_) (fun c2=>?_)<;>(try exact c2.elim)<;>(refine wk F ?_)
 ·obtain⟨y,hy,hym⟩:=ak c2;have hys:=bL Tok.sz hym;have F:=F2 F hy;try refine sq F ?_
  refine wk F ?_;refine(yk G hG hC y (by omega) (hb.app _) (by omega) (by omega) (fun o ho=>by have:=(hkd o ho).1;omega) (fun o ho=>by have:=(hkd o ho).2;omega)).mono ?_;intro r h' gp;have hs:=u6 hy hq;simp only[]at hs;rw[← hs]at gp;obtain⟨⟨gf,gl⟩,gp⟩:=gp;have hf2:FrN (h.length+1) (h++[.row 171 4 0 [.agg [.str [],.nil (.slice none 0 0),.str [],.nil (.slice none 0 0)]]]) h':=hf.trans (fun p hp=>by rw[gf p hp,M5 (by omega)]);rw[M3]at gl;have hcell2:=keep h' hf2;cases hc:foldB [] [] (l.take (k+1))with
  |none=>
   rw[hc]at gp;subst gp;have F:=F2 F @hcell2;(try refine sq F ?_);refine wk F ?_;refine ye hQ (F3 F @bV (aA hcell2)) ?_;exact PBldR.bad ((base _ hf2).trans (fun p hp=>Q4 (by omega))) (by simp;omega) (u7 hc)
  |some q=>
   rw[hc]at gp;obtain⟨rfl,po2,vo2,room2,os2,pd2,vd2,hb2,ho2⟩:=gp;obtain⟨q1,q2⟩:=q;simp only[]at hb2 ho2;subst ho2;(try refine sq F ?_);refine wk F ?_;refine hK2 _ _ _ (N6 ⟨k+1,h',os2,q2,rfl,aw,?_,by omega,hc,⟨hf2,by omega⟩,⟨po2,vo2,room2,pd2,vd2,hb2⟩⟩) (by omega);all_goals try exact zZz F
 ·rw[P5 (by omega)]at hq;have hB:=ii l;rw[hq]at hB;have hbb:=hb.b;have hbd:=hb.d;have hbo:=hb.o;have F:=F6 F hbb hbd hbo @hcell (@Option.isSome_some (TypeId×Nat×List AVal));try refine sq F ?_
  have hfin:∀x:Elem,ds=[x]→bldF l=some x→Fin h (hh.set h.length (.row 171 4 0 [x.av])) (PBldR h l) (.tup [x.av,.int .i64 0]):=fun x e1 e2=>by
   obtain⟨j,hj⟩:=FrN.split (H:=hh.set h.length (.row 171 4 0 [x.av])) ((base _ hf).trans (fun p hp=>Q4 (by omega))) (by simp;omega);rw[hj];exact N2 (.tup _ (by intro c hc;simp at hc;rcases hc with rfl|rfl;exact Elem.clo _ _;exact .int _ _)) ⟨x,by rw[e2];rfl,(fun y hy=>by rw[e2]at hy;exact Option.some.inj hy),(fun hn=>by rw[e2]at hn;cases hn),rfl⟩
  have hbad:bldF l=none→Fin h (hh.set h.length (.row 171 4 0 [.agg [.str [],.nil (.slice none 0 0),.str [],.nil (.slice none 0 0)]])) (PBldR h l) (.tup [.agg [.str [],.nil (.slice none 0 0),.str [],.nil (.slice none 0 0)],.int .i64 90]):=fun e=>PBldR.bad ((base _ hf).trans (fun p hp=>Q4 (by omega))) (by simp;omega) e
  (first|refine gq F (fun g1=>?_) (fun g1=>?_)|refine pq F (fun g1=>?_) (fun g1=>?_))<;>(try exact g1.elim)<;>(try refine sq F ?_)<;>(refine wk F ?_)
  ·refine ye hQ (F3 F @bV (aA hcell)) ?_;refine hbad ?_;rw[← hB]
   match os,ds,g1 with
   | [],[],_=>rfl
   | [],[x],g1=>exact absurd rfl g1
   | [],x::y::z,_=>rfl
   |o::z,_,_=>rfl
  ·obtain⟨x,rfl⟩:∃x,ds=[x]:=List.length_eq_one_iff.1 (by omega);have hdx:([x].map Elem.av)[0]? =some x.av:=rfl;have F:=F2 F hdx;(try refine sq F ?_);refine cq F (fun g2=>?_) (fun g2=>?_)<;>(try exact g2.elim)<;>(refine wk F ?_)
   ·refine ye hQ (F3 F @bV (aA hcell)) ?_;refine hbad ?_;rw[← hB]
    match os,g2 with
    | [],g2=>simp at g2
    |o::z,_=>rfl
   ·refine ye hQ (F3 F @bV (aA hcell)) ?_;have ho:os=[]:=Q1.1 (by omega);subst ho;exact hfin x rfl hB.symm
theorem ua(hG:GOk G)(hC:GClo (CT G))(s:Bs)(hs:s.length≤4194304)(h:Heap):Sat (CT G) 104 [.str s] h (PrsR h s):=by
 have hsz:szs Tok.sz (toksF s).1≤1048576:=by have:=nz s;omega
 refine sb [.cell 2 171,.tmp 3] Tryz.func104 ?_;intro Q hQ;refine wk trivial ?_;refine(qs G hG s (by omega) _).mono ?_;rintro r h' ⟨a,rfl,rfl⟩;try refine sq trivial ?_
 refine wk trivial ?_;by_cases c0:(toksF s).2=0
 ·have b0:((toksF s).2 !=0)=false:=by simpa using c0
  have F:=b0;try refine sq F ?_
  refine wk F ?_;refine(u9 G hG hC (toksF s).1 hsz _).mono ?_;rintro r h' ⟨e,rfl,he,hz,rfl⟩;try refine sq F ?_
  refine wk F ?_;refine ye hQ F ?_;have hp:prsC s=if (bldF (toksF s).1).isSome then 0 else 90:=by unfold prsC;rw[M7 c0]
  exact N2 (.tup _ (by intro c hc;simp at hc;rcases hc with rfl|rfl;exact Elem.clo _ _;exact .int _ _)) ⟨e,by rw[hp],(fun y _ hy=>he y hy),(fun hne=>hz (by cases hb:bldF (toksF s).1 with|none=>rfl|some x=>rw[hp,hb]at hne;exact absurd rfl hne)),rfl⟩
 ·have b0:((toksF s).2 !=0)=true:=by simpa using c0
  have F:=b0;try refine sq F ?_
  refine wk F ?_;refine ye hQ F ?_;exact PrsR.bad _ _ (by unfold prsC;rw[M1 c0]) c0
end Go.Av
