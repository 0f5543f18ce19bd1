/- Parts. -/
import Derived.Test.YtnolelibaahimaaGreatDoorXTi
import Derived.Test.YtnolelibaahimaaGreatDoorXUa1
set_option linter.unusedSimpArgs false
set_option linter.unusedVariables false
set_option linter.unusedSectionVars false
set_option linter.unnecessarySimpa false
set_option maxRecDepth 100000
set_option maxHeartbeats 16000000
namespace Go.Av
open Go Go.Proofs Go.RowKit
attribute [local irreducible] WP WPl WPix Sat
variable {G:Nat→Option (List AVal)}
attribute [go_sem] decide_true decide_false
end Go.Av
namespace Go.Av
open Go Go.Proofs Go.RowKit
def rdE(s:Bs):Bs:=readP (s.length+1) s
theorem ib(c:UInt8)(t:Bs)(p:UInt8):Lib.cut (c::t) [p]=if c=p then([],t,true)else if (Lib.cut t [p]).2.2=true then(c::(Lib.cut t [p]).1,(Lib.cut t [p]).2.1,true)else(c::t,[],false):=by
 have hp:([p]:Bs).isPrefixOf (c::t)=(p==c):=by simp[List.isPrefixOf]
 by_cases h:c=p
 ·subst h;rw[L7 rfl];unfold Lib.cut Lib.index;simp
 ·have hpc:(p==c)=false:=by simpa using fun e=>h e.symm
  rw[L1 h];have hi:Lib.index (c::t) [p]=if Lib.index t [p]== -1 then-1 else Lib.index t [p]+1:=by
   rw[Lib.index,hp,hpc];simp
  have hge:=Lib.index_ge t [p];unfold Lib.cut;rw[hi];by_cases h1:Lib.index t [p]= -1
  ·rw[h1];simp
  ·have h2:(Lib.index t [p]== -1)=false:=(by simpa using h1);have h3:0≤Lib.index t [p]:=(by omega);rw[h2];simp only[N9,if_false,L7 h3];rw[L7 (by omega)];simp only[if_true];obtain⟨n,hn⟩:∃n:Nat,Lib.index t [p]=n:=⟨_,(Int.toNat_of_nonneg h3).symm⟩;rw[hn];have e1:((n:Int)+1).toNat=n+1:=(by omega);have e2:(n:Int).toNat=n:=(by omega);rw[e1,e2];simp
theorem tO:∀(n f g:Nat) (s:Bs),s.length≤n→s.length<f→s.length<g→readP f s=readP g s:=by
 intro n;induction n with
 |zero=>
  intro f g s h hf hg;obtain rfl:s=[]:=O9.1 (by omega);obtain⟨f,rfl⟩:∃k,f=k+1:=⟨f-1,by omega⟩;obtain⟨g,rfl⟩:∃k,g=k+1:=⟨g-1,by omega⟩;rw[readP,readP];rfl
 |succ n ih=>
  intro f g s h hf hg;obtain⟨f,rfl⟩:∃k,f=k+1:=⟨f-1,by omega⟩;obtain⟨g,rfl⟩:∃k,g=k+1:=⟨g-1,by omega⟩;rw[readP,readP];by_cases h1:(Lib.cut s [38]).2.2=true
  ·have h2:=bZ s [38] h1;simp only[L6,M4]at h2;rw[L7 h1,L7 h1,ih f g (Lib.cut s [38]).2.1 (by omega) (by omega) (by omega)];by_cases h3:(Lib.cut (Lib.cut s [38]).2.1 [59]).2.2=true
   ·have h4:=bZ _ [59] h3;simp only[L6,M4]at h4;rw[ih f g (Lib.cut (Lib.cut s [38]).2.1 [59]).2.1 (by omega) (by omega) (by omega)]
   ·have h5:∀b c:Bool,((Lib.cut (Lib.cut s [38]).2.1 [59]).2.2&&b&&c)=false:=fun b c=>by simp[h3]
    rw[h5];simp
  ·rw[L1 h1,L1 h1]
theorem ic(f:Nat)(s:Bs):readP (f+1) s=
  if (Lib.cut s [38]).2.2=true then
   if ((Lib.cut (Lib.cut s [38]).2.1 [59]).2.2&&decide ((Lib.cut (Lib.cut s [38]).2.1 [59]).1.length≤10)&&(signF (Lib.cut (Lib.cut s [38]).2.1 [59]).1).2)=true
   then(Lib.cut s [38]).1++(enc (signF (Lib.cut (Lib.cut s [38]).2.1 [59]).1).1++readP f (Lib.cut (Lib.cut s [38]).2.1 [59]).2.1)
   else(Lib.cut s [38]).1++(38::readP f (Lib.cut s [38]).2.1)
  else(Lib.cut s [38]).1:=rfl
theorem zz:rdE []=[]:=rfl
theorem pg(f:Nat)(s:Bs)(h:s.length<f):readP f s=rdE s:=tO s.length f _ s (M3 _) h (by omega)
theorem xO(c:UInt8)(t:Bs)(h:c≠38):rdE (c::t)=c::rdE t:=by
 have e1:rdE t=readP (t.length+2) t:=(pg _ _ (by omega)).symm;rw[e1];show readP (t.length+2) (c::t)=_;rw[ic (t.length+1) (c::t),ic (t.length+1) t,ib,L1 h];by_cases h1:(Lib.cut t [38]).2.2=true
 ·rw[L7 h1,L7 rfl,L7 h1];simp only[];split<;>simp
 ·rw[L1 h1,L1 (by simp),L1 h1];rw[kW t [38] (by simpa using h1)]
theorem zA(t:Bs):rdE (38::t)=if ((Lib.cut t [59]).2.2&&decide ((Lib.cut t [59]).1.length≤10)&&(signF (Lib.cut t [59]).1).2)=true then enc (signF (Lib.cut t [59]).1).1++rdE (Lib.cut t [59]).2.1 else 38::rdE t:=by
 show readP (t.length+2) (38::t)=_;rw[ic (t.length+1),ib,L7 rfl,L7 rfl];simp only[];by_cases h:((Lib.cut t [59]).2.2&&decide ((Lib.cut t [59]).1.length≤10)&&(signF (Lib.cut t [59]).1).2)=true
 ·rw[L7 h,L7 h];simp only[L2]at h;have:=bZ t [59] h.1.1;rw[pg _ _ (by simp at this;omega)];rfl
 ·rw[L1 h,L1 h,pg _ _ (by omega)];rfl
theorem vk(t:Bs)(p:UInt8)(m:Nat)(h1:∀i,i<m→∀c,t[i]? =some c→c≠p)(h2:t[m]? =some p):Lib.cut t [p]=(t.take m,t.drop (m+1),true):=by
 induction t generalizing m with
 |nil=>simp at h2
 |cons c t ih=>
  rw[ib];cases m with
  |zero=>
   simp at h2;subst h2;rw[L7 rfl];rfl
  |succ m=>
   have hc:c≠p:=h1 0 (by omega) c rfl;rw[L1 hc,ih m (fun i hi d hd=>h1 (i+1) (by omega) d (by simpa using hd)) (by simpa using h2),L7 rfl];rfl
end Go.Av
namespace Go.Av
open Go Go.Proofs Go.RowKit
attribute [local irreducible] WP WPl WPix Sat
variable {G:Nat→Option (List AVal)}
end Go.Av
namespace Go.Av
open Go Go.Proofs Go.RowKit
attribute [local irreducible] WP WPl WPix Sat
variable {G:Nat→Option (List AVal)}
end Go.Av
namespace Go.Av
open Go Go.Proofs Go.RowKit
attribute [local irreducible] WP WPl WPix Sat
variable {G:Nat→Option (List AVal)}
end Go.Av
namespace Go.Av
open Go Go.Proofs Go.RowKit
attribute [local irreducible] WP WPl WPix Sat
variable {G:Nat→Option (List AVal)}
end Go.Av
namespace Go.Av
open Go Go.Proofs Go.RowKit
attribute [local irreducible] WP WPl WPix Sat
variable {G:Nat→Option (List AVal)}
end Go.Av
namespace Go.Av
open Go Go.Proofs Go.RowKit
attribute [local irreducible] WP WPl WPix Sat
variable {G:Nat→Option (List AVal)}
end Go.Av
namespace Go.Av
open Go Go.Proofs Go.RowKit
attribute [local irreducible] WP WPl WPix Sat
variable {G:Nat→Option (List AVal)}
def blankT(t:Tok):Bool:=t.2.2.2.all blankB&&(t.1==3)
end Go.Av
namespace Go.Av
open Go Go.Proofs Go.RowKit
def elL:Nat→Nat→Bs→List At→Bs→List Elem→List Tok→Option (Elem×List Tok)
 |0,_,_,_,_,_,_=>none
 |_+1,_,_,_,_,_,[]=>none
 |f+1,d,n,a,x,k,t::ts=>
  if t.1=3 then elL f d n a (x++t.2.2.2) k ts
  else if t.1=1 then(if d=0 then none else(elL f (d-1) t.2.1 t.2.2.1 [] [] ts).bind fun q=>elL f d n a x (k++[q.1]) q.2)
  else if t.1=2 then(if t.2.1=n then some (⟨n,a,x,k⟩,ts)else none)
  else none
def elF(d:Nat):List Tok→Option (Elem×List Tok)
 | []=>none
 |t::ts=>if t.1=1 then(if d=0 then none else elL (ts.length+1) (d-1) t.2.1 t.2.2.1 [] [] ts)else none
theorem dj(f d:Nat)(n:Bs)(a:List At)(x:Bs)(k:List Elem)(t:Tok)(ts:List Tok):elL (f+1) d n a x k (t::ts)=
  if t.1=3 then elL f d n a (x++t.2.2.2) k ts
  else if t.1=1 then(if d=0 then none else(elL f (d-1) t.2.1 t.2.2.1 [] [] ts).bind fun q=>elL f d n a x (k++[q.1]) q.2)
  else if t.1=2 then(if t.2.1=n then some (⟨n,a,x,k⟩,ts)else none)else none:=rfl
theorem gD(f d:Nat)(n:Bs)(a:List At)(x:Bs)(k:List Elem):elL f d n a x k []=none:=by cases f<;>rfl
theorem kb(d:Nat)(t:Tok)(ts:List Tok):elF d (t::ts)=if t.1=1 then(if d=0 then none else elL (ts.length+1) (d-1) t.2.1 t.2.2.1 [] [] ts)else none:=rfl
theorem rE:∀(f d:Nat) (n:Bs) (a:List At) (x:Bs) (k:List Elem) (ts:List Tok) (q:Elem×List Tok),elL f d n a x k ts=some q→q.2 <:+ts∧q.2.length<ts.length:=by
 intro f;induction f with
 |zero=>intro d n a x k ts q h;cases h
 |succ f ih=>
  intro d n a x k ts q h;cases ts with
  |nil=>rw[gD]at h;cases h
  |cons t ts=>
   rw[dj]at h;have key:q.2 <:+ts:=by
    split at h
    ·exact(ih _ _ _ _ _ _ _ h).1
    ·split at h
     ·split at h
      ·cases h
      ·obtain⟨p,hp,h⟩:=T7.1 h;exact(ih _ _ _ _ _ _ _ h).1.trans (ih _ _ _ _ _ _ _ hp).1
     ·split at h
      ·split at h
       ·cases h;exact List.suffix_refl _
       ·cases h
      ·cases h
   exact⟨key.trans (List.suffix_cons t ts),by have:=key.length_le;simp;omega⟩
theorem ph:∀(f g d:Nat) (n:Bs) (a:List At) (x:Bs) (k:List Elem) (ts:List Tok),ts.length<f→ts.length<g→elL f d n a x k ts=elL g d n a x k ts:=by
 intro f;induction f with
 |zero=>intro g d n a x k ts h;omega
 |succ f ih=>
  intro g d n a x k ts h1 h2;obtain⟨g,rfl⟩:∃g',g=g'+1:=⟨g-1,by omega⟩;cases ts with
  |nil=>rw[gD,gD]
  |cons t ts=>
   simp only[L6]at h1 h2;rw[dj,dj,ih g d n a (x++t.2.2.2) k ts (by omega) (by omega),ih g (d-1) t.2.1 t.2.2.1 [] [] ts (by omega) (by omega)];cases hq:elL g (d-1) t.2.1 t.2.2.1 [] [] ts with
   |none=>rfl
   |some q=>
    have:=(rE _ _ _ _ _ _ _ _ hq).2;simp only[S4];rw[ih g d n a x (k++[q.1]) q.2 (by omega) (by omega)]
end Go.Av
namespace Go.Av
open Go Go.Proofs Go.RowKit
attribute [local irreducible] WP WPl WPix Sat
variable {G:Nat→Option (List AVal)}
end Go.Av
namespace Go.Av
open Go Go.Proofs Go.RowKit
attribute [local irreducible] WP WPl WPix Sat
variable {G:Nat→Option (List AVal)}
def bldF(ts:List Tok):Option Elem:=(elF 32 (ts.dropWhile blankT)).bind fun q=>if q.2.dropWhile blankT=[]then some q.1 else none
end Go.Av
namespace Go.Av
open Go Go.Proofs Go.RowKit
def foldB:List Elem→List Elem→List Tok→Option (List Elem×List Elem)
 |os,ds,[]=>some (os,ds)
 |os,ds,t::ts=>(stepB os ds t).bind fun q=>foldB q.1 q.2 ts
def finB:Option (List Elem×List Elem)→Option Elem
 |some ([],[e])=>some e
 |_=>none
def clsB(st:List Elem)(e:Elem):List Elem×List Elem:=
 match st.getLast? with
 |none=>([],[e])
 |some p=>(st.dropLast++[⟨p.name,p.attrs,p.text,p.kids++[e]⟩],[])
theorem vl(os ds:List Elem):foldB os ds []=some (os,ds):=rfl
theorem cT(os ds:List Elem)(t:Tok)(ts:List Tok):foldB os ds (t::ts)=(stepB os ds t).bind fun q=>foldB q.1 q.2 ts:=rfl
theorem iY:∀(a b:List Tok) (os ds:List Elem),foldB os ds (a++b)=(foldB os ds a).bind fun q=>foldB q.1 q.2 b
 | [],b,os,ds=>rfl
 |t::a,b,os,ds=>by
  rw[P3,cT,cT];cases stepB os ds t with
  |none=>rfl
  |some q=>simp only[S4];exact iY a b q.1 q.2
theorem vm(st:List Elem)(p e:Elem):clsB (st++[p]) e=(st++[⟨p.name,p.attrs,p.text,p.kids++[e]⟩],[]):=by
 unfold clsB;simp
theorem xP:∀(f d:Nat) (st:List Elem) (n:Bs) (a:List At) (x:Bs) (k:List Elem) (ts:List Tok),ts.length<f→st.length+d=31→
  finB (foldB (st++[⟨n,a,x,k⟩]) [] ts)=(elL f d n a x k ts).bind fun q=>finB (foldB (clsB st q.1).1 (clsB st q.1).2 q.2):=by
 intro f;induction f with
 |zero=>intro d st n a x k ts h;omega
 |succ f ih=>
  intro d st n a x k ts hf hd;cases ts with
  |nil=>
   rw[gD,vl];cases st<;>rfl
  |cons t ts=>
   simp only[L6]at hf;rw[dj,cT];have hlast:(st++[(⟨n,a,x,k⟩:Elem)]).getLast? =some ⟨n,a,x,k⟩:=(by simp);have hdrop:(st++[(⟨n,a,x,k⟩:Elem)]).dropLast=st:=(by simp);by_cases h3:t.1=3
   ·have e:stepB (st++[⟨n,a,x,k⟩]) [] t=some (st++[⟨n,a,x++t.2.2.2,k⟩],[]):=by
     unfold stepB;rw[L1 (by omega),L1 (by omega),L7 h3,hlast,hdrop];rfl
    rw[e,L7 h3,S4];exact ih d st n a (x++t.2.2.2) k ts (by omega) hd
   ·rw[L1 h3];by_cases h1:t.1=1
    ·rw[L7 h1];by_cases h0:d=0
     ·have e:stepB (st++[⟨n,a,x,k⟩]) [] t=none:=by
       unfold stepB;rw[L7 h1,L1];simp;omega
      rw[e,L7 h0];rfl
     ·have e:stepB (st++[⟨n,a,x,k⟩]) [] t=some ((st++[⟨n,a,x,k⟩])++[⟨t.2.1,t.2.2.1,[],[]⟩],[]):=by
       unfold stepB;rw[L7 h1,L7];simp;omega
      rw[e,L1 h0,S4];simp only[];rw[ih (d-1) (st++[Elem.mk n a x k]) t.2.1 t.2.2.1 [] [] ts (by omega) (by simp;omega)];cases hq:elL f (d-1) t.2.1 t.2.2.1 [] [] ts with
      |none=>rfl
      |some q=>
       have:=(rE _ _ _ _ _ _ _ _ hq).2;simp only[S4,vm];exact ih d st n a x (k++[q.1]) q.2 (by omega) hd
    ·rw[L1 h1];by_cases h2:t.1=2
     ·rw[L7 h2];by_cases hn:t.2.1=n
      ·have e:stepB (st++[⟨n,a,x,k⟩]) [] t=some (clsB st ⟨n,a,x,k⟩):=by
        unfold stepB;rw[L1 h1,L7 h2,hlast,hdrop];show(if n=t.2.1 then _ else _)=_;rw[L7 hn.symm];unfold clsB;cases st.getLast?<;>rfl
       rw[e,L7 hn];rfl
      ·have e:stepB (st++[⟨n,a,x,k⟩]) [] t=none:=by
        unfold stepB;rw[L1 h1,L7 h2,hlast];show(if n=t.2.1 then _ else _)=_;rw[L1 (Ne.symm hn)]
       rw[e,L1 hn];rfl
     ·have e:stepB (st++[⟨n,a,x,k⟩]) [] t=none:=by
       unfold stepB;rw[L1 h1,L1 h2,L1 h3]
      rw[e,L1 h2];rfl
theorem vn(ds:List Elem)(t:Tok)(h:ds≠ []):stepB [] ds t=if blankT t then some ([],ds)else none:=by
 unfold stepB blankT;by_cases h1:t.1=1
 ·rw[L7 h1,L1 (fun hc=>h hc.2),L1 (by simp[h1])]
 ·rw[L1 h1];by_cases h2:t.1=2
  ·rw[L7 h2,L1 (by simp[h2])];rfl
  ·rw[L1 h2];by_cases h3:t.1=3
   ·rw[L7 h3];simp[h3]
   ·rw[L1 h3,L1 (by simp[h3])]
theorem nk(e:Elem):∀ts:List Tok,finB (foldB [] [e] ts)=if ts.dropWhile blankT=[]then some e else none
 | []=>rfl
 |t::ts=>by
  rw[cT,vn _ _ (by simp),Z2];cases hb:blankT t with
  |true=>simp only[↓reduceIte,S4];exact nk e ts
  |false=>rfl
theorem ie:∀ts:List Tok,finB (foldB [] [] ts)=bldF ts
 | []=>rfl
 |t::ts=>by
  unfold bldF;rw[cT,Z2];cases hb:blankT t with
  |true=>
   have e:stepB [] [] t=some ([],[]):=by
    unfold blankT at hb;simp only[L2,beq_iff_eq]at hb;unfold stepB;rw[L1 (by omega),L1 (by omega),L7 hb.2];show(if _ then _ else _)=_;rw[L7 hb.1]
   rw[e];simp only[↓reduceIte,S4];exact ie ts
  |false=>
   simp only[N9, ↓reduceIte];rw[kb];by_cases h1:t.1=1
   ·have e:stepB [] [] t=some ([⟨t.2.1,t.2.2.1,[],[]⟩],[]):=by
     unfold stepB;rw[L7 h1,L7 (by simp)];rfl
    rw[e,L7 h1,L1 (by omega),S4];have:=xP (ts.length+1) 31 [] t.2.1 t.2.2.1 [] [] ts (by omega) rfl;rw[O8]at this;rw[this];show Option.bind (elL (ts.length+1) 31 _ _ _ _ ts) _=Option.bind (elL (ts.length+1) 31 _ _ _ _ ts) _;congr 1
    funext q
    exact nk q.1 q.2
   ·rw[L1 h1];have e:stepB [] [] t=none:=by
     unfold blankT at hb;unfold stepB;rw[L1 h1];by_cases h2:t.1=2
     ·rw[L7 h2];rfl
     ·rw[L1 h2];by_cases h3:t.1=3
      ·rw[L7 h3];show(if _ then _ else _)=_;rw[L1 (by simpa [h3]using hb)]
      ·rw[L1 h3]
    rw[e];rfl
theorem kc{l:List Elem}{e:Elem}(h:l.getLast? =some e):szs Elem.sz l=szs Elem.sz l.dropLast+e.sz:=by
 rcases W0 l with rfl| ⟨m,o,rfl⟩
 ·cases h
 ·rw[W1]at*;simp at h;subst h;simp[cr,szs]
theorem vp(t:Tok):Tok.sz t=1+t.2.1.length+szs At.sz t.2.2.1+t.2.2.2.length:=rfl
theorem eY(n:Bs)(a:List At)(x:Bs)(k:List Elem):(Elem.mk n a x k).sz=1+n.length+szs At.sz a+x.length+szs Elem.sz k:=Elem.sz_eq _
theorem xQ{os ds:List Elem}{t:Tok}{q:List Elem×List Elem}(h:stepB os ds t=some q):
  szs Elem.sz q.1+szs Elem.sz q.2≤szs Elem.sz os+szs Elem.sz ds+Tok.sz t∧(os.length≤32→q.1.length≤32):=by
 have ht:=vp t;unfold stepB at h;split at h
 ·split at h
  ·rename_i h1 h2;cases h;refine⟨?_,fun _=>by simp;omega⟩;simp only[cr,szs,eY,M4];omega
  ·cases h
 ·split at h
  ·split at h
   ·cases h
   ·rename_i e he;have h1:=kc he;split at h
    ·split at h
     ·rename_i hn;cases h;refine⟨?_,fun _=>by simp⟩;simp only[cr,szs];omega
     ·rename_i p hp;cases h;have h2:=kc hp;have h3:=Elem.sz_eq p;refine⟨?_,fun hl=>by simp[List.length_dropLast];omega⟩;simp only[cr,szs,eY];omega
    ·cases h
  ·split at h
   ·split at h
    ·split at h
     ·cases h;refine⟨?_,fun _=>by simp⟩;simp only[szs];omega
     ·cases h
    ·rename_i e he;cases h;have h1:=kc he;have h3:=Elem.sz_eq e;have hne:os≠ []:=(by rintro rfl;cases he);have hl0:0<os.length:=S9.2 hne;refine⟨?_,fun hl=>by simp[List.length_dropLast];omega⟩;simp only[cr,szs,eY,L4];omega
   ·cases h
theorem ke:∀(ts:List Tok) (os ds:List Elem) (q:List Elem×List Elem),foldB os ds ts=some q→
  szs Elem.sz q.1+szs Elem.sz q.2≤szs Elem.sz os+szs Elem.sz ds+szs Tok.sz ts∧(os.length≤32→q.1.length≤32)
 | [],os,ds,q,h=>by cases h;exact⟨by simp[szs],id⟩
 |t::ts,os,ds,q,h=>by
  rw[cT]at h;obtain⟨p,hp,h⟩:=T7.1 h;have h1:=xQ hp;have h2:=ke ts p.1 p.2 q h;rw[szs];exact⟨by omega,fun hl=>h2.2 (h1.2 hl)⟩
theorem zB{ts:List Tok}{e:Elem}(h:bldF ts=some e):e.sz≤szs Tok.sz ts:=by
 rw[← ie]at h;cases hq:foldB [] [] ts with
 |none=>rw[hq]at h;cases h
 |some q=>
  rw[hq]at h;have:=(ke ts [] [] q hq).1;obtain⟨a,b⟩:=q
  match a,b,h with
  | [],[x],h=>cases h;simpa [szs]using this
theorem kg:∀(l:List Elem) (d n:Nat),n≤32→(∀k∈l,deep k (d+1)≤32)→deepL l d n≤32
 | [],d,n,hn,_=>by rw[deepL];exact hn
 |k::l,d,n,hn,h=>by
  rw[deepL];refine kg l d _ ?_ fun x hx=>h x (by simp[hx])
  split
  ·exact h k (by simp)
  ·exact hn
theorem xR:∀(f d:Nat) (n:Bs) (a:List At) (x:Bs) (k:List Elem) (ts:List Tok) (q:Elem×List Tok),d≤31→(∀c∈k,deep c (33-d)≤32)→elL f d n a x k ts=some q→deep q.1 (32-d)≤32:=by
 intro f;induction f with
 |zero=>intro d n a x k ts q _ _ h;cases h
 |succ f ih=>
  intro d n a x k ts q hd hk h;cases ts with
  |nil=>rw[gD]at h;cases h
  |cons t ts=>
   rw[dj]at h;split at h
   ·exact ih _ _ _ _ _ _ _ hd hk h
   ·split at h
    ·split at h
     ·cases h
     ·rename_i hd0;obtain⟨p,hp,h⟩:=T7.1 h;have h1:=ih _ _ _ _ _ _ _ (by omega) (by simp) hp;refine ih _ _ _ _ _ _ _ hd ?_ h;intro c hc;rcases U2.1 hc with hc|hc
      ·exact hk c hc
      ·simp at hc;subst hc;rw[show 33-d=32-(d-1) by omega];exact h1
    ·split at h
     ·split at h
      ·cases h;rw[dK,L1 (by omega)];refine kg _ _ _ (by omega) ?_;intro c hc;rw[show 32-d+1=33-d by omega];exact hk c hc
      ·cases h
     ·cases h
theorem vr{ts:List Tok}{e:Elem}(h:bldF ts=some e):deep e 1≤32:=by
 unfold bldF at h;obtain⟨q,hq,h⟩:=T7.1 h;split at h
 ·cases h;generalize ts.dropWhile blankT=u at hq;cases u with
  |nil=>cases hq
  |cons t u=>
   rw[kb]at hq;split at hq
   ·rw[L1 (by omega)]at hq;exact xR _ 31 _ _ _ _ _ _ (by omega) (by simp) hq
   ·cases hq
 ·cases h
def shortF(s:Bs)(n:Nat):Bs:=cleanF (cutF (cleanF s) n)
def attrS(e:Elem)(n:Bs)(m:Nat):Bs:=shortF (attrF e.attrs n).1 m
def orF(a b c:Bs):Bs:=if a≠ []then a else if b≠ []then b else c
def bText:Bs:=[116,101,120,116]
def bTitle:Bs:=[116,105,116,108,101]
def bUrl:Bs:=[120,109,108,85,114,108]
def bOutline:Bs:=[111,117,116,108,105,110,101]
def bBody:Bs:=[98,111,100,121]
def bOpml:Bs:=[111,112,109,108]
def titF(k:Elem):Bs:=orF (attrS k bText 256) (attrS k bTitle 256) (shortF (attrS k bUrl 512) 256)
def oneO(g:Elem→List Outl)(k:Elem):Option Outl:=
 if titF k=[]then none else some ⟨titF k,attrS k bUrl 512,if attrS k bUrl 512=[]then g k else []⟩
def ofF:Nat→Elem→List Outl
 |0,_=>[]
 |f+1,e=>(kidsF e bOutline).filterMap (oneO (ofF f))
theorem ig(s:Bs)(n:Nat):(cutF s n).length≤n∧(cutF s n).length≤s.length:=by
 have:=yR s s.length 0 n (by omega);unfold cutA at this;simp only[Z9]at this;unfold cutF;rw[O3];omega
theorem eZ(s:Bs)(n:Nat):(shortF s n).length≤8*n:=by
 have h1:=gW (cutF (cleanF s) n);have h2:=(ig (cleanF s) n).1;unfold shortF;omega
theorem zC(a b c:Bs)(n:Nat)(ha:a.length≤n)(hb:b.length≤n)(hc:c.length≤n):(orF a b c).length≤n:=by
 unfold orF;split
 ·exact ha
 ·split
  ·exact hb
  ·exact hc
theorem xS(k:Elem):(titF k).length≤2048:=zC _ _ _ _ (eZ _ _) (eZ _ _) (eZ _ _)
theorem rF(k:Elem):(attrS k bUrl 512).length≤4096:=eZ _ _
theorem vt(p:Elem→Bool)(l:List Elem):szs Elem.sz (l.filter p)≤szs Elem.sz l:=by
 induction l with
 |nil=>exact M3 _
 |cons x l ih=>rw[X0];split<;>simp only[szs]<;>omega
theorem np(e:Elem)(n:Bs):szs Elem.sz (kidsF e n)+1≤e.sz:=by
 have h1:=vt (fun k=>decide (short k.name=n)) e.kids;have h2:=e.sz_eq;unfold kidsF;omega
def textO(s:Bs)(m:Nat):Bool:=decide (s.length≤m)&&rightS s&&decide (cleanF s=s)
def oneOk(o:Outl):Bool:=decide (o.title≠ [])&&textO o.title 256&&textO o.url 512&&(decide (o.url=[])||decide (o.kids=[]))
def cntGo(g:List Outl→Nat):List Outl→Nat→Nat
 | [],n=>n
 |o::t,n=>if oneOk o then(if 512<n+g o.kids then n+g o.kids else cntGo g t (n+g o.kids))else 513
def cntN:Nat→List Outl→Nat
 |0,l=>if l=[]then 0 else 513
 |f+1,l=>if 512<l.length then 513 else cntGo (cntN f) l l.length
structure En where
 guid:Bs
 title:Bs
 link:Bs
 date:Int
 dated:Bool
def En.av(x:En):AVal:=.agg [.str x.guid,.str x.title,.str x.link,.int .i64 x.date,.bool x.dated]
structure Fd where
 title:Bs
 link:Bs
 es:List En
def Fd.av(d:Fd):AVal:=.agg [.str d.title,.str d.link,.sl 5 (d.es.map En.av)]
end Go.Av
namespace Go.Av
open Go Go.Proofs Go.RowKit Go.ChangeShapes Go.WideShapes
section
variable {H:Type} {enc:TypeId×Value→H} {W:World}
end
section
variable {H:Type} {enc:TypeId×Value→H} {W:World}
end
section
variable {H:Type} {enc:TypeId×Value→H} {W:World}
theorem Dk(n:Nat):Rd H enc Tryz.prog W n 34 (fun e:Ev=>e.av.cells) (fun _=>0):=fun cs x h=>by
 obtain⟨ds,n',rfl,hx,hcl,hdl,hf⟩:=mL (fs:=[3,3,3,3,9,9,9]) (by kernel_rfl) h;obtain⟨y0,d0,t0⟩:=hf 0 _ rfl;obtain⟨y1,d1,t1⟩:=hf 1 _ rfl;obtain⟨y2,d2,t2⟩:=hf 2 _ rfl;obtain⟨y3,d3,t3⟩:=hf 3 _ rfl;obtain⟨y4,d4,t4⟩:=hf 4 _ rfl;obtain⟨y5,d5,t5⟩:=hf 5 _ rfl;obtain⟨y6,d6,t6⟩:=hf 6 _ rfl;obtain⟨a0,s0,r0,_⟩:=co (mk:=fun i: {i:Int//(Lit.int .i64 i).wf=true}=>.int .i64 i.1) (kH (by kernel_rfl)) t0;obtain⟨a1,s1,r1,_⟩:=co (mk:=fun i: {i:Int//(Lit.int .i64 i).wf=true}=>.int .i64 i.1) (kH (by kernel_rfl)) t1;obtain⟨a2,s2,r2,_⟩:=co (mk:=fun i: {i:Int//(Lit.int .i64 i).wf=true}=>.int .i64 i.1) (kH (by kernel_rfl)) t2;obtain⟨a3,s3,r3,_⟩:=co (mk:=fun i: {i:Int//(Lit.int .i64 i).wf=true}=>.int .i64 i.1) (kH (by kernel_rfl)) t3;obtain⟨a4,s4,r4,_⟩:=co (mk:=fun s:Bs=>.str s) (iL (by kernel_rfl)) t4;obtain⟨a5,s5,r5,_⟩:=co (mk:=fun s:Bs=>.str s) (iL (by kernel_rfl)) t5;obtain⟨a6,s6,r6,_⟩:=co (mk:=fun s:Bs=>.str s) (iL (by kernel_rfl)) t6;refine⟨⟨a0.1,a1.1,a2.1,a3.1,a4,a5,a6⟩,by rw[hcl];rfl,fun j c hj=>?_,V0 _⟩
 match j with
 |0=>simp[Ev.av,AVal.cells]at hj;subst hj;exact⟨s0,r0⟩
 |1=>simp[Ev.av,AVal.cells]at hj;subst hj;exact⟨s1,r1⟩
 |2=>simp[Ev.av,AVal.cells]at hj;subst hj;exact⟨s2,r2⟩
 |3=>simp[Ev.av,AVal.cells]at hj;subst hj;exact⟨s3,r3⟩
 |4=>simp[Ev.av,AVal.cells]at hj;subst hj;exact⟨s4,r4⟩
 |5=>simp[Ev.av,AVal.cells]at hj;subst hj;exact⟨s5,r5⟩
 |6=>simp[Ev.av,AVal.cells]at hj;subst hj;exact⟨s6,r6⟩
 |j+7=>simp[Ev.av,AVal.cells]at hj
theorem jD{v:Value}{d:DataW H}{ps:List MemPlace}{r:Reach}{b0:Nat}(hval:Value.okWide Tryz.prog W r b0 22 v)(h:DataW.Trod enc Tryz.prog W 0 (fun _=>true) true 22 v d ps):∃es:List Ev,Rep W (lies0 W) [] (.sl 7 (es.map Ev.av)) v:=by
 obtain⟨n,hn⟩:=h;obtain⟨l,h1,h2,_⟩:=jQ (m:=7) (e:=34) Ev.av (by kernel_rfl) (by kernel_rfl) (by decide) (fun _=>rfl) (fun _=>rfl) (fun k _=>Dk k) _ _ hn;refine⟨l,?_⟩;have h4:=(h2 0 _ rfl).2;have hcs:v.cells.toList=[v]:=by
  have hu:Tryz.prog.underlying 22=some (.slice 34):=by kernel_rfl
  cases v with
  |agg a=>simp[Value.okWide,hu,Cell.okWide,Cell.ok]at hval
  |_=>rfl
 rw[hcs]at h4;simpa using h4
end
end Go.Av
namespace Go.Av
open Go Go.Proofs Go.RowKit
def escB(c:UInt8):Bs:=if c=38 then [38,97,109,112,59]else if c=60 then [38,108,116,59]else if c=62 then [38,103,116,59]else if c=34 then [38,113,117,111,116,59]else if c=39 then [38,97,112,111,115,59]else [c]
def escF(s:Bs):Bs:=s.flatMap escB
theorem nt(c:UInt8)(s:Bs):escF (c::s)=escB c++escF s:=R7
theorem xW(c:UInt8):1≤(escB c).length∧(escB c).length≤6:=by
 unfold escB;repeat (first|split|exact⟨by simp,by simp⟩)
theorem cL:∀s:Bs,(escF s).length≤6*s.length∧s.length≤(escF s).length
 | []=>by simp[escF]
 |c::s=>by have:=cL s;have:=xW c;rw[nt];simp;omega
theorem vD(s:Bs)(c:UInt8):escF (s++[c])=escF s++escB c:=by simp[escF]
theorem xX(n u:Bs)(hn:∀c∈n,c≠ (59:UInt8)):Lib.cut (n++59::u) [59]=(n,u,true):=by
 rw[vk (n++59::u) 59 n.length (fun i hi c hc=>hn c (by rw[L5 hi]at hc;exact M0 hc)) (by simp)];simp
theorem fF(n u:Bs)(v:UInt8)(hn:∀c∈n,c≠ (59:UInt8))(hl:n.length≤10)(hs:signF n=((v.toNat:Int),true))(he:enc (v.toNat:Int)=[v]):rdE (38::n++59::u)=v::rdE u:=by
 rw[P3,zA,xX n u hn];simp only[hs,Bool.and_true,Y6,L8];rw[L7 hl,he];rfl
theorem xY(c:UInt8)(u:Bs):rdE (escB c++u)=c::rdE u:=by
 unfold escB;by_cases h1:c=38
 ·subst h1;exact fF [97,109,112] u 38 (by decide) (by decide) (by kernel_rfl) (by kernel_rfl)
 by_cases h2:c=60
 ·subst h2;exact fF [108,116] u 60 (by decide) (by decide) (by kernel_rfl) (by kernel_rfl)
 by_cases h3:c=62
 ·subst h3;exact fF [103,116] u 62 (by decide) (by decide) (by kernel_rfl) (by kernel_rfl)
 by_cases h4:c=34
 ·subst h4;exact fF [113,117,111,116] u 34 (by decide) (by decide) (by kernel_rfl) (by kernel_rfl)
 by_cases h5:c=39
 ·subst h5;exact fF [97,112,111,115] u 39 (by decide) (by decide) (by kernel_rfl) (by kernel_rfl)
 rw[L1 h1,L1 h2,L1 h3,L1 h4,L1 h5];exact xO c u h1
theorem rI:∀s:Bs,rdE (escF s)=s
 | []=>zz
 |c::s=>by rw[nt,xY,rI s]
theorem zI(c:UInt8):∀x∈escB c,x≠60∧x≠34:=by
 unfold escB;by_cases h1:c=38
 ·rw[L7 h1];decide
 by_cases h2:c=60
 ·rw[L1 h1,L7 h2];decide
 by_cases h3:c=62
 ·rw[L1 h1,L1 h2,L7 h3];decide
 by_cases h4:c=34
 ·rw[L1 h1,L1 h2,L1 h3,L7 h4];decide
 by_cases h5:c=39
 ·rw[L1 h1,L1 h2,L1 h3,L1 h4,L7 h5];decide
 rw[L1 h1,L1 h2,L1 h3,L1 h4,L1 h5];intro x hx;obtain rfl:=S7.1 hx;exact⟨h2,h4⟩
theorem rJ(s:Bs):∀x∈escF s,x≠60∧x≠34:=fun x hx=>by
 obtain⟨c,_,h⟩:=List.mem_flatMap.1 hx;exact zI c x h
theorem tS(n u:Bs)(p:UInt8)(hn:∀c∈n,c≠p):Lib.cut (n++p::u) [p]=(n,u,true):=by
 rw[vk (n++p::u) p n.length (fun i hi c hc=>hn c (by rw[L5 hi]at hc;exact M0 hc)) (by simp)];simp
theorem pk(p:UInt8):∀s:Bs,(∀x∈s,x≠p)→(Lib.cut s [p]).2.2=false
 | [],_=>rfl
 |c::s,h=>by
  rw[ib,L1 (h c (R2 ..)),L1 (by rw[pk p s fun x hx=>h x (P6 _ hx)];decide)]
theorem tT(p:UInt8)(s:Bs)(h:∀x∈s,x≠p):Lib.contains s [p]=false:=by
 have h1:=pk p s h;have h2:Lib.contains s [p]=decide (0≤Lib.index s [p]):=rfl;rw[h2];unfold Lib.cut at h1;by_cases h3:0≤Lib.index s [p]
 ·rw[L7 h3]at h1;cases h1
 ·simpa using h3
theorem tU(v r:Bs):valueF (34::escF v++34::r) false=(v,r,false):=by
 have h0:Lib.hasPrefix (34::escF v++34::r) [34]=true:=by simp[Lib.hasPrefix,List.isPrefixOf]
 have h1:Lib.trimPrefix (34::escF v++34::r) [34]=escF v++34::r:=by unfold Lib.trimPrefix;rw[L7 h0];rfl
 have h2:uptoF [34] (escF v++34::r) false=(escF v,r,false):=by
  unfold uptoF;rw[tS (escF v) r 34 fun c hc=>(rJ v c hc).2];rfl
 unfold valueF;simp only[h0, ↓reduceIte,h1,V5,W8,h2];rw[tT 60 _ fun x hx=>(rJ v x hx).1];show(rdE (escF v),r,false||false)=_;rw[rI];rfl
theorem vE(n v r:Bs)(hn:nameW (n++61::34::escF v++34::r)=n)(hr:nameR (n++61::34::escF v++34::r)=61::34::escF v++34::r)(hb:badN n=false):attrX (n++61::34::escF v++34::r) false=((n,v),r,false):=by
 unfold attrX;simp only[hn,hr,hb,W8];have e1:(61::34::escF v++34::r:Bs).dropWhile blankB=61::(34::escF v++34::r):=rfl;have e2:Lib.hasPrefix (61::(34::escF v++34::r)) [61]=true:=by simp[Lib.hasPrefix,List.isPrefixOf]
 have e3:Lib.trimPrefix (61::(34::escF v++34::r)) [61]=34::escF v++34::r:=by unfold Lib.trimPrefix;rw[L7 e2];rfl
 have e4:(34::escF v++34::r:Bs).dropWhile blankB=34::escF v++34::r:=rfl;simp only[e1,e2,e3,e4,V5,W8,N9, ↓reduceIte,tU]
end Go.Av
namespace Go.Av
open Go Go.Proofs Go.RowKit
attribute [local irreducible] WP WPl WPix Sat
variable {G:Nat→Option (List AVal)}
def prsC(s:Bs):Int:=if (toksF s).2=0 then(if (bldF (toksF s).1).isSome then 0 else 90)else(toksF s).2
def PrsR(h:Heap)(s:Bs)(r:AVal)(h':Heap):Prop:=
 ∃e:Elem,r=.tup [e.av,.int .i64 (prsC s)]∧(∀x,prsC s=0→bldF (toksF s).1=some x→e=x)∧(prsC s≠0→e=⟨[],[],[],[]⟩)∧h'=h
theorem PrsR.bad{h:Heap}{s:Bs}(j:Heap)(c:Int)(e:prsC s=c)(hc:c≠0):Fin h (h++j) (PrsR h s) (.tup [.agg [.str [],.nil (.slice none 0 0),.str [],.nil (.slice none 0 0)],.int .i64 c]):=by
 have z:Frz (h++j) h.length (.agg [.str [],.nil (.slice none 0 0),.str [],.nil (.slice none 0 0)]) (Elem.av ⟨[],[],[],[]⟩):=by
  rw[Elem.av_eq];exact FrzL.agg (.cons (.clo _ (.str _)) (.cons (.nils 2) (.cons (.clo _ (.str _)) (.cons (.nils 4) .nil)))) rfl
 exact za2 (FrzL.tup (.cons z (.cons (.clo _ (.int _ _)) .nil))) ⟨_,by rw[e],(fun x hx=>by rw[e]at hx;exact absurd hx hc),fun _=>rfl,rfl⟩
theorem ya(s:Bs):szs Tok.sz (toksF s).1≤10*s.length:=by
 unfold toksF;split
 ·simp[szs]
 ·have:=yZ (s.length+1) s [];simpa [szs]using this
theorem nu(s:Bs):szs Tok.sz (toksF s).1≤655360:=by
 have h:=ya s;by_cases hs:65536<s.length
 ·unfold toksF;rw[L7 hs];simp[szs]
 ·omega
end Go.Av
namespace Go.Av
open Go Go.Proofs Go.RowKit
attribute [local irreducible] WP WPl WPix Sat
variable (G:Nat→Option (List AVal))
theorem jE(s:Bs)(n:Nat)(hs:s.length≤700000)(hn:n≤1000)(h:Heap):Sat (CT G) 145 [.str s,.int .i64 n] h (fun r h'=>r=.str (shortF s n)∧h'=h):=by
 have h1:=gW s;have h2:=(ig (cleanF s) n).1;refine sb [.tmp 4] Tryz.func145 ?_;intro Q hQ;refine wk trivial ?_;refine kq trivial (cP G s (by omega) _) ?_;refine kq trivial (oH G (cleanF s) n (by omega) (by omega) _) ?_;refine kq trivial (cP G (cutF (cleanF s) n) (by omega) _) ?_;refine ee hQ trivial ?_;refine fR (.str _) ?_;rfl
theorem nv(n:Bs):∀l:List At,(attrF l n).1.length≤szs At.sz l
 | []=>by simp[attrF]
 |a::l=>by
  have:=nv n l;have h2:At.sz a=1+a.1.length+a.2.length:=rfl;rw[attrF,szs];split
  ·simp only[];omega
  ·omega
theorem im(e:Elem)(n:Bs)(m:Nat)(hs:e.sz≤700000)(hm:m≤1000)(h:Heap):Sat (CT G) 143 [e.av,.str n,.int .i64 m] h (fun r h'=>r=.str (attrS e n m)∧h'=h):=by
 have h1:=nv n e.attrs;have h2:=e.sz_eq;refine sb [.tmp 6] Tryz.func143 ?_;intro Q hQ;refine wk trivial ?_;refine kq trivial (uL G e n (by omega) _) ?_;refine kq trivial (jE G (attrF e.attrs n).1 m (by omega) hm _) ?_;refine ee hQ trivial ?_;refine fR (.str _) ?_;rfl
theorem lj(s:Bs)(m:Nat)(hs:s.length≤100000)(h:Heap):Sat (CT G) 147 [.str s,.int .i64 m] h (fun r h'=>r=.bool (textO s m)∧h'=h):=by
 refine sb [.tmp 4] Tryz.func147 ?_;intro Q hQ;refine wk trivial ?_;(first|refine gq trivial (fun g1=>?_) (fun g1=>?_)|refine pq trivial (fun g1=>?_) (fun g1=>?_))<;>(try exact g1.elim)<;>(try refine sq trivial ?_)<;>(refine wk trivial ?_)
 ·refine kq trivial (kS G s (by omega) _) ?_;(first|refine gq trivial (fun g2=>?_) (fun g2=>?_)|refine pq trivial (fun g2=>?_) (fun g2=>?_))<;>(try exact g2.elim)<;>(try refine sq trivial ?_)<;>(refine wk trivial ?_)
  ·refine kq trivial (cP G s (by omega) _) ?_;refine ee hQ trivial ?_;refine fR (.bool _) ?_;unfold textO;rw[P4 (show s.length≤m by omega),g2,Y6,Y6];congr 1
   rw[R5];simp
  ·refine ee hQ trivial ?_;refine fR (.bool _) ?_;unfold textO;rw[g2];simp
 ·refine ee hQ trivial ?_;refine fR (.bool _) ?_;unfold textO;rw[Q1 (show ¬s.length≤m by omega)];simp
theorem vH(o:Outl)(ht:o.title.length≤100000)(hu:o.url.length≤100000)(h:Heap):Sat (CT G) 109 [o.av] h (fun r h'=>r=.bool (oneOk o)∧h'=h):=by
 have hkl:o.kids.length=0↔o.kids=[]:=O9;refine sb [.tmp 2] Tryz.func109 ?_;intro Q hQ;refine wk trivial ?_;(first|refine gq trivial (fun g1=>?_) (fun g1=>?_)|refine pq trivial (fun g1=>?_) (fun g1=>?_))<;>(try exact g1.elim)<;>(try refine sq trivial ?_)<;>(refine wk trivial ?_)
 ·refine kq trivial (lj G o.title 256 (by omega) _) ?_;(first|refine gq trivial (fun g2=>?_) (fun g2=>?_)|refine pq trivial (fun g2=>?_) (fun g2=>?_))<;>(try exact g2.elim)<;>(try refine sq trivial ?_)<;>(refine wk trivial ?_)
  ·refine kq trivial (lj G o.url 512 (by omega) _) ?_;(first|refine gq trivial (fun g3=>?_) (fun g3=>?_)|refine pq trivial (fun g3=>?_) (fun g3=>?_))<;>(try exact g3.elim)<;>(try refine sq trivial ?_)<;>(refine wk trivial ?_)
   ·(first|refine gq trivial (fun g4=>?_) (fun g4=>?_)|refine pq trivial (fun g4=>?_) (fun g4=>?_))<;>(try exact g4.elim)<;>(try refine sq trivial ?_)<;>(refine wk trivial ?_)
    ·refine ee hQ trivial ?_;refine fR (.bool _) ?_;unfold oneOk;rw[g2,g3];simp[g1,g4]
    ·refine ee hQ trivial ?_;refine fR (.bool _) ?_;unfold oneOk;rw[g2,g3];simp[g1,g4];rw[R5];simp
   ·refine ee hQ trivial ?_;refine fR (.bool _) ?_;unfold oneOk;rw[g3];simp
  ·refine ee hQ trivial ?_;refine fR (.bool _) ?_;unfold oneOk;rw[g2];simp
 ·refine ee hQ trivial ?_;refine fR (.bool _) ?_;unfold oneOk;simp[g1]
theorem B7(a b c:Bs)(h:Heap):Sat (CT G) 144 [.sl 1 [.str a,.str b,.str c]] h (fun r h'=>r=.str (orF a b c)∧h'=h):=by
 refine sb [.tmp 2] Tryz.func144 ?_;intro Q hQ;refine wk trivial ?_;refine lm (fun nL tL hL=>∃(k:Nat),3-k=nL∧h=hL∧tL 8=.int .i64 k∧k≤3∧(1≤k→a=[])∧(2≤k→b=[])∧(3≤k→c=[])) ((fun(k:Nat)=>(3-k:Nat)) (0)) ?_ ?_
 ·refine M5 ⟨0,rfl,aw,?_,by omega,fun h=>by omega,fun h=>by omega,fun h=>by omega⟩;all_goals try exact zZz trivial
 rintro _ s2 h' ⟨k,rfl,rfl,e8,hk,h0,h1,h2⟩ K2 hK2;simp only[ak,am,Nat.reduceEqDiff, ↓reduceIte]at e8;have F:=e8;refine wk F ?_;refine cq F (fun c1=>?_) (fun c1=>?_)<;>(try exact c1.elim)<;>(refine wk F ?_)
 ·obtain⟨y,hy,hyv⟩:∃y:Bs,([.str a,.str b,.str c]:List AVal)[k]? =some (.str y)∧((k=0∧y=a)∨(k=1∧y=b)∨(k=2∧y=c)):=by
   match k,c1 with
   |0,_=>exact⟨a,rfl,.inl ⟨rfl,rfl⟩⟩
   |1,_=>exact⟨b,rfl,.inr (.inl ⟨rfl,rfl⟩)⟩
   |2,_=>exact⟨c,rfl,.inr (.inr ⟨rfl,rfl⟩)⟩
   |k+3,c1=>exfalso;omega
  have F:=F2 F hy;try refine sq F ?_
  refine wk F ?_;refine cq F (fun c2=>?_) (fun c2=>?_)<;>(try exact c2.elim)<;>(refine wk F ?_)
  ·refine ee hQ F ?_;refine fR (.str _) ?_;unfold orF;rcases hyv with⟨rfl,rfl⟩| ⟨rfl,rfl⟩| ⟨rfl,rfl⟩
   ·rw[L7 c2]
   ·rw[L1 (by simp[h0 (by omega)]),L7 c2]
   ·rw[L1 (by simp[h0 (by omega)]),L1 (by simp[h1 (by omega)])]
  ·have c3:y=[]:=(by simpa using c2);have n0:1≤k+1→a=[]:=fun hh=>by
    rcases hyv with⟨rfl,rfl⟩| ⟨rfl,rfl⟩| ⟨rfl,rfl⟩
    ·exact c3
    ·exact h0 (by omega)
    ·exact h0 (by omega)
   have n1:2≤k+1→b=[]:=fun hh=>by
    rcases hyv with⟨rfl,rfl⟩| ⟨rfl,rfl⟩| ⟨rfl,rfl⟩
    ·omega
    ·exact c3
    ·exact h1 (by omega)
   have n2:3≤k+1→c=[]:=fun hh=>by
    rcases hyv with⟨rfl,rfl⟩| ⟨rfl,rfl⟩| ⟨rfl,rfl⟩
    ·omega
    ·omega
    ·exact c3
   refine hK2 _ _ _ (M5 ⟨k+1,rfl,aw,?_,by omega,n0,n1,n2⟩) (by omega);all_goals try exact zZz F
 ·have h3:=h2 (by omega);subst h3;refine wk F ?_;refine ee hQ F ?_;refine fR (.str _) ?_;unfold orF;rw[h0 (by omega),h1 (by omega)];rfl
theorem FrN.split{h H:Heap}(g:FrN h.length h H)(hl:h.length≤H.length):∃j,H=h++j:=by
 refine⟨H.drop h.length,S6 fun i=>?_⟩;by_cases hi:i<h.length
 ·rw[L5 hi];exact g i hi
 ·rw[L9 (by omega),P5];congr 1;omega
def PBldR(h:Heap)(l:List Tok)(r:AVal)(h':Heap):Prop:=
 ∃e:Elem,r=.tup [e.av,.int .i64 (if (bldF l).isSome then 0 else 90)]∧(∀x,bldF l=some x→e=x)∧(bldF l=none→e=⟨[],[],[],[]⟩)∧h'=h
theorem PBldR.bad{h H:Heap}{l:List Tok}(g:FrN h.length h H)(hl:h.length≤H.length)(e:bldF l=none):Fin h H (PBldR h l) (.tup [.agg [.str [],.nil (.slice none 0 0),.str [],.nil (.slice none 0 0)],.int .i64 90]):=by
 obtain⟨j,rfl⟩:=g.split hl;have z:Frz (h++j) h.length (.agg [.str [],.nil (.slice none 0 0),.str [],.nil (.slice none 0 0)]) (Elem.av ⟨[],[],[],[]⟩):=by
  rw[Elem.av_eq];exact FrzL.agg (.cons (.clo _ (.str _)) (.cons (.nils 2) (.cons (.clo _ (.str _)) (.cons (.nils 4) .nil)))) rfl
 exact za2 (FrzL.tup (.cons z (.cons (.clo _ (.int _ _)) .nil))) ⟨_,by rw[e];rfl,(fun x hx=>by rw[e]at hx;cases hx),fun _=>rfl,rfl⟩
theorem yb(l:List OE):∀o∈l,o.k.length≤szs Elem.sz (l.map OE.el)∧o.t.length≤szs Elem.sz (l.map OE.el):=by
 intro o ho;have h1:=bJ Elem.sz (List.mem_map_of_mem (f:=OE.el) ho);have h2:=eY o.n o.a o.t o.k;have h3:=bX Elem.sz Elem.sz_pos o.k;have h4:(OE.el o).sz=(Elem.mk o.n o.a o.t o.k).sz:=rfl;omega
theorem tV{l:List Tok}{k:Nat}{t:Tok}{q:List Elem×List Elem}(hy:l[k]? =some t)(hq:foldB [] [] (l.take k)=some q):foldB [] [] (l.take (k+1))=stepB q.1 q.2 t:=by
 have e:l.take (k+1)=l.take k++[t]:=by rw[R6,hy];rfl
 rw[e,iY,hq,S4];show(stepB q.1 q.2 t).bind _=_;cases stepB q.1 q.2 t<;>rfl
theorem tW{l:List Tok}{k:Nat}(h:foldB [] [] (l.take k)=none):bldF l=none:=by
 rw[← ie];have:l=l.take k++l.drop k:=(V8 k l).symm;rw[this,iY,h];rfl
theorem tX(hG:GOk G)(hC:GClo (CT G))(l:List Tok)(hs:szs Tok.sz l≤1048576)(h:Heap):Sat (CT G) 140 [.sl 4 (l.map Tok.av)] h (PBldR h l):=by
 have hll:=bX Tok.sz Tok.sz_pos l;refine sb [.cell 2 171,.tmp 3] Tryz.func140 ?_;intro Q hQ;refine wk trivial ?_;have g0:getRow (h++[.row 171 4 0 [.agg [.str [],.nil (.slice none 0 0),.str [],.nil (.slice none 0 0)]],.row 225 2 0 [.agg [.nil (.slice none 0 0),.nil (.slice none 0 0)]]]) (h.length+1) 0=some (225,2,[.agg [.nil (.slice none 0 0),.nil (.slice none 0 0)]]):=by
  rw[bY _ rfl];rfl
 obtain⟨H1,hw,hfr,po,pd,hb⟩:=BH.start (C:=CT G) (n0:=h.length+1) g0 (M3 _);have keep:∀hh:Heap,FrN (h.length+1) (h++[.row 171 4 0 [.agg [.str [],.nil (.slice none 0 0),.str [],.nil (.slice none 0 0)]]]) hh→getRow hh h.length 0=some (171,4,[.agg [.str [],.nil (.slice none 0 0),.str [],.nil (.slice none 0 0)]]):=fun hh g=>by
  unfold getRow;rw[g h.length (by omega)];simp
 have hf0:FrN (h.length+1) (h++[.row 171 4 0 [.agg [.str [],.nil (.slice none 0 0),.str [],.nil (.slice none 0 0)]]]) H1∧h.length+1<H1.length:=by
  refine⟨fun p hp=>?_,by have:=hfr.2;simp at this;omega⟩;rw[hfr.1 p hp];rw[show ∀A B:Blk,h++[A,B]=(h++[A])++[B]from fun A B=>by simp,L5 (by simp;omega)]
 have base:∀H:Heap,FrN (h.length+1) (h++[.row 171 4 0 [.agg [.str [],.nil (.slice none 0 0),.str [],.nil (.slice none 0 0)]]]) H→FrN h.length h H:=fun H g p hp=>by
  rw[g p (by omega),L5 hp]
 refine lm (fun nL tL hL=>∃(k:Nat) (hh:Heap) (os:List OE) (ds:List Elem),l.length-k=nL∧hh=hL∧tL 11=.int .i64 k∧k≤l.length∧foldB [] [] (l.take k)=some (os.map OE.el,ds)∧(FrN (h.length+1) (h++[.row 171 4 0 [.agg [.str [],.nil (.slice none 0 0),.str [],.nil (.slice none 0 0)]]]) hh∧h.length+1<hh.length)∧(∃po vo room pd vd,BH hh (h.length+1) (h.length+1) po vo room os pd vd ds)) ((fun(k:Nat) (hh:Heap) (os:List OE) (ds:List Elem)=>(l.length-k:Nat)) (0) (H1) ([]) ([])) ?_ ?_
 ·refine⟨_,_,(hw _ _),⟨0,H1,[],[],rfl,aw,?_,by omega,rfl,hf0,⟨po,0,true,pd,0,hb⟩⟩⟩;all_goals try exact zZz trivial
 rintro _ s2 h' ⟨k,hh,os,ds,rfl,rfl,e11,hk,hq,hf,hb⟩ K2 hK2;simp only[ak,am,Nat.reduceEqDiff, ↓reduceIte]at e11;have F:=e11;refine wk F ?_;obtain⟨po,vo,room,pd,vd,hb⟩:=hb;obtain⟨hf,hfl⟩:=hf;have hcell:=keep hh hf;have hsz:=ke _ _ _ _ hq;have hkd:=yb os;have hln:=hsz.2 (by simp);have htk:szs Tok.sz (l.take k)≤szs Tok.sz l:=by
  conv=>rhs;rw[← V8 k l,cr]
  omega
 have hdl:=bX Elem.sz Elem.sz_pos ds;simp only[szs,N4]at hsz hln;refine cq F (fun c2=>?_) (fun c2=>?_)<;>(try exact c2.elim)<;>(refine wk F ?_)
 ·obtain⟨y,hy,hym⟩:=aj c2;have hys:=bJ Tok.sz hym;have F:=F2 F hy;try refine sq F ?_
  refine wk F ?_;refine(xN G hG hC y (by omega) (hb.app _) (by omega) (by omega) (fun o ho=>by have:=(hkd o ho).1;omega) (fun o ho=>by have:=(hkd o ho).2;omega)).mono ?_;intro r h' gp;have hs:=tV hy hq;simp only[]at hs;rw[← hs]at gp;obtain⟨⟨gf,gl⟩,gp⟩:=gp;have hf2:FrN (h.length+1) (h++[.row 171 4 0 [.agg [.str [],.nil (.slice none 0 0),.str [],.nil (.slice none 0 0)]]]) h':=hf.trans (fun p hp=>by rw[gf p hp,L5 (by omega)]);rw[L4]at gl;have hcell2:=keep h' hf2;cases hc:foldB [] [] (l.take (k+1))with
  |none=>
   rw[hc]at gp;subst gp;have F:=F2 F @hcell2;(try refine sq F ?_);refine wk F ?_;refine ye hQ (F3 F @bU (aA hcell2)) ?_;exact PBldR.bad ((base _ hf2).trans (fun p hp=>P1 (by omega))) (by simp;omega) (tW hc)
  |some q=>
   rw[hc]at gp;obtain⟨rfl,po2,vo2,room2,os2,pd2,vd2,hb2,ho2⟩:=gp;obtain⟨q1,q2⟩:=q;simp only[]at hb2 ho2;subst ho2;(try refine sq F ?_);refine wk F ?_;refine hK2 _ _ _ (M5 ⟨k+1,h',os2,q2,rfl,aw,?_,by omega,hc,⟨hf2,by omega⟩,⟨po2,vo2,room2,pd2,vd2,hb2⟩⟩) (by omega);all_goals try exact zZz F
 ·rw[O1 (by omega)]at hq;have hB:=ie l;rw[hq]at hB;have hbb:=hb.b;have hbd:=hb.d;have hbo:=hb.o;have F:=F6 F hbb hbd hbo @hcell (@Option.isSome_some (TypeId×Nat×List AVal));try refine sq F ?_
  have hfin:∀x:Elem,ds=[x]→bldF l=some x→Fin h (hh.set h.length (.row 171 4 0 [x.av])) (PBldR h l) (.tup [x.av,.int .i64 0]):=fun x e1 e2=>by
   obtain⟨j,hj⟩:=FrN.split (H:=hh.set h.length (.row 171 4 0 [x.av])) ((base _ hf).trans (fun p hp=>P1 (by omega))) (by simp;omega);rw[hj];exact M2 (.tup _ (by intro c hc;simp at hc;rcases hc with rfl|rfl;exact Elem.clo _ _;exact .int _ _)) ⟨x,by rw[e2];rfl,(fun y hy=>by rw[e2]at hy;exact Option.some.inj hy),(fun hn=>by rw[e2]at hn;cases hn),rfl⟩
  have hbad:bldF l=none→Fin h (hh.set h.length (.row 171 4 0 [.agg [.str [],.nil (.slice none 0 0),.str [],.nil (.slice none 0 0)]])) (PBldR h l) (.tup [.agg [.str [],.nil (.slice none 0 0),.str [],.nil (.slice none 0 0)],.int .i64 90]):=fun e=>PBldR.bad ((base _ hf).trans (fun p hp=>P1 (by omega))) (by simp;omega) e
  (first|refine gq F (fun g1=>?_) (fun g1=>?_)|refine pq F (fun g1=>?_) (fun g1=>?_))<;>(try exact g1.elim)<;>(try refine sq F ?_)<;>(refine wk F ?_)
  ·refine ye hQ (F3 F @bU (aA hcell)) ?_;refine hbad ?_;rw[← hB]
   match os,ds,g1 with
   | [],[],_=>rfl
   | [],[x],g1=>exact absurd rfl g1
   | [],x::y::z,_=>rfl
   |o::z,_,_=>rfl
  ·obtain⟨x,rfl⟩:∃x,ds=[x]:=List.length_eq_one_iff.1 (by omega);have hdx:([x].map Elem.av)[0]? =some x.av:=rfl;have F:=F2 F hdx;(try refine sq F ?_);refine cq F (fun g2=>?_) (fun g2=>?_)<;>(try exact g2.elim)<;>(refine wk F ?_)
   ·refine ye hQ (F3 F @bU (aA hcell)) ?_;refine hbad ?_;rw[← hB]
    match os,g2 with
    | [],g2=>simp at g2
    |o::z,_=>rfl
   ·refine ye hQ (F3 F @bU (aA hcell)) ?_;have ho:os=[]:=O9.1 (by omega);subst ho;exact hfin x rfl hB.symm
theorem Frz.outls{h:Heap}{n q v e:Nat}{l:List Outl}{len:Nat}{room:Bool}(hq:n≤q)(hg:getRow h q v=some (e,3,l.map Outl.av))(hlen:len=l.length):Frz h n (.hs q v 0 len room) (.sl 3 (l.map Outl.av)):=
 Frz.data hq hg (by simpa using hlen) (fun r hr=>by obtain⟨a,_,rfl⟩:=M7.1 hr;exact Outl.clo _ a) (fun r hr=>by obtain⟨a,_,rfl⟩:=M7.1 hr;exact a.av_sto)
theorem zM(t u:Bs):WkR (.agg [.str t,.str u,.nil (.slice none 0 0)]) (.agg [.str t,.str u,.sl 3 []]):=by
 refine⟨rfl,fun j c d hc hd=>?_⟩
 match j with
 |0=>simp[AVal.cells]at hc hd;subst hc;subst hd;exact⟨Wk.refl _,id⟩
 |1=>simp[AVal.cells]at hc hd;subst hc;subst hd;exact⟨Wk.refl _,id⟩
 |2=>simp[AVal.cells]at hc hd;subst hc;subst hd;exact⟨Wk.nils 3,fun _=>rfl⟩
 |j+3=>simp[AVal.cells]at hc
theorem pp{e k:Elem}{d:Nat}(hd:deep e d≤32)(hk:k∈e.kids):d<40∧deep k (d+1)≤32:=by
 rw[dK]at hd;by_cases h40:40≤d
 ·rw[L7 h40]at hd;omega
 ·rw[L1 h40]at hd;have:=(i5 e.kids d d).2 k hk;omega
theorem pr{e k:Elem}{n:Bs}(h:k∈kidsF e n):k∈e.kids:=by unfold kidsF at h;exact(U1.1 h).1
theorem zN:∀(f d:Nat),f+d=41→∀(e:Elem) (_:deep e d≤32) (_:e.sz≤700000) (h:Heap),Sat (CT G) 107 [e.av] h (fun r h'=>r=.sl 3 ((ofF f e).map Outl.av)∧h'=h):=by
 intro f;induction f with
 |zero=>
  intro d hf e hd hs h;rw[dK,L7 (by omega)]at hd;omega
 |succ f ih=>
  intro d hf e hd hs h;have hks:=np e bOutline;have hkin:∀k∈kidsF e bOutline,k∈e.kids:=fun k hk=>pr hk
  have hof:ofF (f+1) e=(kidsF e bOutline).filterMap (oneO (ofF f)):=rfl;refine sb [.tmp 2] Tryz.func107 ?_;intro Q hQ;(repeat (first|refine w1 (fun K hK=>?_)|refine w2 ?_|refine w3 ?_| ((first|refine w4 ?_|refine wD ?_|refine w5 ?_|refine w6 ?_|refine w7 ?_);try refine sq trivial ?_)| (refine w8 ?_;refine sq trivial ?_;refine w9 ?_)| (refine rq trivial ?_;try refine sq trivial ?_)| (refine vq trivial ?_;try refine sq trivial ?_)| ((first|refine hK _ _ (w0 ?_)| (clear hK K;refine hK _ _ (w0 ?_))| (clear hK K;clear hK K;refine hK _ _ (w0 ?_)));clear hK K)))
  refine(nb G e bOutline (by omega) _).mono ?_;rintro r h' ⟨rfl,hk_⟩;replace hk_:=hk_.symm;subst hk_;try refine sq trivial ?_
  (repeat (first|refine w1 (fun K hK=>?_)|refine w2 ?_|refine w3 ?_| ((first|refine w4 ?_|refine wD ?_|refine w5 ?_|refine w6 ?_|refine w7 ?_);try refine sq trivial ?_)| (refine w8 ?_;refine sq trivial ?_;refine w9 ?_)| (refine rq trivial ?_;try refine sq trivial ?_)| (refine vq trivial ?_;try refine sq trivial ?_)| ((first|refine hK _ _ (w0 ?_)| (clear hK K;refine hK _ _ (w0 ?_))| (clear hK K;clear hK K;refine hK _ _ (w0 ?_)));clear hK K)))
  have hkl:=bX Elem.sz Elem.sz_pos (kidsF e bOutline);rw[hof]at hQ;clear hof;generalize kidsF e bOutline=l at*;have hlm:(l.map Elem.av).length=l.length:=N4 ..;have F:=hlm;refine lm (fun nL tL hL=>∃(k v:Nat) (acc:List Outl) (hh:Heap),l.length-k=nL∧hh=hL∧tL 3=.hs (h.length+1) v 0 acc.length true∧tL 10=.int .i64 k∧k≤l.length∧acc.length≤k∧acc++(l.drop k).filterMap (oneO (ofF f))=l.filterMap (oneO (ofF f))∧(FrN h.length h hh∧h.length+1<hh.length)∧getRow hh (h.length+1) v=some (55,3,acc.map Outl.av)) ((fun(k v:Nat) (acc:List Outl) (hh:Heap)=>(l.length-k:Nat)) (0) (0) ([]) (h++[.row 171 4 0 [e.av],.row 55 3 0 []])) ?_ ?_
  ·refine⟨_,_,Weak.virt 3 55 3 (by simp) (by omega) (by exact zq F),⟨0,0,[],h++[.row 171 4 0 [e.av],.row 55 3 0 []],rfl,aw,?_,?_,by omega,by simp,rfl,⟨za1 _ (by omega) (za0 _ _),by simp⟩,by rw[bY _ rfl];rfl⟩⟩;all_goals try exact zZz F
  rintro _ s2 h' ⟨k,v,acc,hh,rfl,rfl,e3,e10,hk,hl,hp,hf,hg⟩ K2 hK2;simp only[ak,am,Nat.reduceEqDiff, ↓reduceIte]at e3 e10;have F:=F3 F e3 e10;(repeat (first|refine w1 (fun K hK=>?_)|refine w2 ?_|refine w3 ?_| ((first|refine w4 ?_|refine wD ?_|refine w5 ?_|refine w6 ?_|refine w7 ?_);try refine sq F ?_)| (refine w8 ?_;refine sq F ?_;refine w9 ?_)| (refine rq F ?_;try refine sq F ?_)| (refine vq F ?_;try refine sq F ?_)| ((first|refine hK _ _ (w0 ?_)| (clear hK K;refine hK _ _ (w0 ?_))| (clear hK K;clear hK K;refine hK _ _ (w0 ?_)));clear hK K)))
  obtain⟨hfr,hfl⟩:=hf;refine cq F (fun c1=>?_) (fun c1=>?_)<;>(try exact c1.elim)<;>((repeat (first|refine w1 (fun K hK=>?_)|refine w2 ?_|refine w3 ?_| ((first|refine w4 ?_|refine wD ?_|refine w5 ?_|refine w6 ?_|refine w7 ?_);try refine sq F ?_)| (refine w8 ?_;refine sq F ?_;refine w9 ?_)| (refine rq F ?_;try refine sq F ?_)| (refine vq F ?_;try refine sq F ?_)| ((first|refine hK _ _ (w0 ?_)| (clear hK K;refine hK _ _ (w0 ?_))| (clear hK K;clear hK K;refine hK _ _ (w0 ?_)));clear hK K))))
  ·obtain⟨y,hy,hym⟩:=aj c1;have hyv:(l.map Elem.av)[k]? =some y.av:=(by rw[M8,hy];rfl);have hys:=Elem.kid_sz (hkin y hym);have hyd:=pp hd (hkin y hym);have hul:=rF y;rw[aD hy,List.filterMap_cons]at hp;have hg1:∀j:Heap,getRow (hh++j) (h.length+1) v=some (55,3,acc.map Outl.av):=fun j=>by rw[bm _ (by omega)];exact hg
   have hs1:∀(j:Heap) (b:Blk),(hh++j).set (h.length+1) b=hh.set (h.length+1) b++j:=fun j b=>oK b (by omega)
   have F:=F4 F hy hg1 hs1;(try refine sq F ?_);(repeat (first|refine w1 (fun K hK=>?_)|refine w2 ?_|refine w3 ?_| ((first|refine w4 ?_|refine wD ?_|refine w5 ?_|refine w6 ?_|refine w7 ?_);try refine sq F ?_)| (refine w8 ?_;refine sq F ?_;refine w9 ?_)| (refine rq F ?_;try refine sq F ?_)| (refine vq F ?_;try refine sq F ?_)| ((first|refine hK _ _ (w0 ?_)| (clear hK K;refine hK _ _ (w0 ?_))| (clear hK K;clear hK K;refine hK _ _ (w0 ?_)));clear hK K)))
   refine(im G y bUrl 512 (by omega) (by omega) _).mono ?_;rintro r h' ⟨rfl,rfl⟩;(try refine sq F ?_);(repeat (first|refine w1 (fun K hK=>?_)|refine w2 ?_|refine w3 ?_| ((first|refine w4 ?_|refine wD ?_|refine w5 ?_|refine w6 ?_|refine w7 ?_);try refine sq F ?_)| (refine w8 ?_;refine sq F ?_;refine w9 ?_)| (refine rq F ?_;try refine sq F ?_)| (refine vq F ?_;try refine sq F ?_)))
   refine hK _ _ ⟨_,_,Weak.rows (p:=hh.length+1) (v:=0) (e:=55) (m:=3) (rows:=[.agg [.str [],.str (attrS y bUrl 512),.nil (.slice none 0 0)]]) [.agg [.str [],.str (attrS y bUrl 512),.sl 3 []]] (by rw[bY _ rfl];rfl) rfl (fun i r s h1 h2=>?_),?_⟩
   ·match i with
    |0=>simp at h1 h2;subst h1;subst h2;exact zM _ _
    |i+1=>simp at h1
   clear hK K;rw[kU _ rfl];simp only[List.set_cons_succ,List.set_cons_zero];(repeat (first|refine w1 (fun K hK=>?_)|refine w2 ?_|refine w3 ?_| ((first|refine w4 ?_|refine wD ?_|refine w5 ?_|refine w6 ?_|refine w7 ?_);try refine sq F ?_)| (refine w8 ?_;refine sq F ?_;refine w9 ?_)| (refine rq F ?_;try refine sq F ?_)| (refine vq F ?_;try refine sq F ?_)| ((first|refine hK _ _ (w0 ?_)| (clear hK K;refine hK _ _ (w0 ?_))| (clear hK K;clear hK K;refine hK _ _ (w0 ?_)));clear hK K)))
   refine aE (im G y bText 256 (by omega) (by omega) _) ?_;(try refine sq F ?_);(repeat (first|refine w1 (fun K hK=>?_)|refine w2 ?_|refine w3 ?_| ((first|refine w4 ?_|refine wD ?_|refine w5 ?_|refine w6 ?_|refine w7 ?_);try refine sq F ?_)| (refine w8 ?_;refine sq F ?_;refine w9 ?_)| (refine rq F ?_;try refine sq F ?_)| (refine vq F ?_;try refine sq F ?_)| ((first|refine hK _ _ (w0 ?_)| (clear hK K;refine hK _ _ (w0 ?_))| (clear hK K;clear hK K;refine hK _ _ (w0 ?_)));clear hK K)))
   refine aE (im G y bTitle 256 (by omega) (by omega) _) ?_;(try refine sq F ?_);(repeat (first|refine w1 (fun K hK=>?_)|refine w2 ?_|refine w3 ?_| ((first|refine w4 ?_|refine wD ?_|refine w5 ?_|refine w6 ?_|refine w7 ?_);try refine sq F ?_)| (refine w8 ?_;refine sq F ?_;refine w9 ?_)| (refine rq F ?_;try refine sq F ?_)| (refine vq F ?_;try refine sq F ?_)| ((first|refine hK _ _ (w0 ?_)| (clear hK K;refine hK _ _ (w0 ?_))| (clear hK K;clear hK K;refine hK _ _ (w0 ?_)));clear hK K)))
   refine aE (jE G (attrS y bUrl 512) 256 (by omega) (by omega) _) ?_;(try refine sq F ?_);(repeat (first|refine w1 (fun K hK=>?_)|refine w2 ?_|refine w3 ?_| ((first|refine w4 ?_|refine wD ?_|refine w5 ?_|refine w6 ?_|refine w7 ?_);try refine sq F ?_)| (refine w8 ?_;refine sq F ?_;refine w9 ?_)| (refine rq F ?_;try refine sq F ?_)| (refine vq F ?_;try refine sq F ?_)| ((first|refine hK _ _ (w0 ?_)| (clear hK K;refine hK _ _ (w0 ?_))| (clear hK K;clear hK K;refine hK _ _ (w0 ?_)));clear hK K)))
   refine aE (B7 G (attrS y bText 256) (attrS y bTitle 256) (shortF (attrS y bUrl 512) 256) _) ?_;(try refine sq F ?_);(repeat (first|refine w1 (fun K hK=>?_)|refine w2 ?_|refine w3 ?_| ((first|refine w4 ?_|refine wD ?_|refine w5 ?_|refine w6 ?_|refine w7 ?_);try refine sq F ?_)| (refine w8 ?_;refine sq F ?_;refine w9 ?_)| (refine rq F ?_;try refine sq F ?_)| (refine vq F ?_;try refine sq F ?_)| ((first|refine hK _ _ (w0 ?_)| (clear hK K;refine hK _ _ (w0 ?_))| (clear hK K;clear hK K;refine hK _ _ (w0 ?_)));clear hK K)))
   have htit:orF (attrS y bText 256) (attrS y bTitle 256) (shortF (attrS y bUrl 512) 256)=titF y:=rfl;rw[htit];have put:∀(o:Outl) (B:Blk),FrN h.length h (hh.set (h.length+1) (.row 55 3 (v+1) ((acc++[o]).map Outl.av))++[.row 171 4 0 [y.av],B])∧h.length+1<(hh.set (h.length+1) (.row 55 3 (v+1) ((acc++[o]).map Outl.av))++[.row 171 4 0 [y.av],B]).length:=fun o B=>
    ⟨za1 _ (by simp;omega) (za3 _ (by omega) hfr),by simp;omega⟩
   have put2:∀(o:Outl) (B:Blk),getRow (hh.set (h.length+1) (.row 55 3 (v+1) ((acc++[o]).map Outl.av))++[.row 171 4 0 [y.av],B]) (h.length+1) (v+1)=some (55,3,(acc++[o]).map Outl.av):=fun o B=>by
    rw[bm _ (by simp;omega),bU _ _ _ _ _ (by omega)];simp
   refine cq F (fun c2=>?_) (fun c2=>?_)<;>(try exact c2.elim)<;>((repeat (first|refine w1 (fun K hK=>?_)|refine w2 ?_|refine w3 ?_| ((first|refine w4 ?_|refine wD ?_|refine w5 ?_|refine w6 ?_|refine w7 ?_);try refine sq F ?_)| (refine w8 ?_;refine sq F ?_;refine w9 ?_)| (refine rq F ?_;try refine sq F ?_)| (refine vq F ?_;try refine sq F ?_)| ((first|refine hK _ _ (w0 ?_)| (clear hK K;refine hK _ _ (w0 ?_))| (clear hK K;clear hK K;refine hK _ _ (w0 ?_)));clear hK K))))
   ·have ho:oneO (ofF f) y=none:=(by unfold oneO;rw[L7 c2]);rw[ho]at hp;refine hK2 _ _ _ (M5 ⟨k+1,v,acc,hh++[.row 171 4 0 [y.av],.row 55 3 0 [.agg [.str (titF y),.str (attrS y bUrl 512),.sl 3 []]]],rfl,aw,?_,?_,by omega,by omega,hp,⟨za1 _ (by omega) hfr,by simp;omega⟩,hg1 _⟩) (by omega);all_goals try exact zZz F
   ·refine cq F (fun c3=>?_) (fun c3=>?_)<;>(try exact c3.elim)<;>((repeat (first|refine w1 (fun K hK=>?_)|refine w2 ?_|refine w3 ?_| ((first|refine w4 ?_|refine wD ?_|refine w5 ?_|refine w6 ?_|refine w7 ?_);try refine sq F ?_)| (refine w8 ?_;refine sq F ?_;refine w9 ?_)| (refine rq F ?_;try refine sq F ?_)| (refine vq F ?_;try refine sq F ?_)| ((first|refine hK _ _ (w0 ?_)| (clear hK K;refine hK _ _ (w0 ?_))| (clear hK K;clear hK K;refine hK _ _ (w0 ?_)));clear hK K))))
    ·have ho:oneO (ofF f) y=some ⟨titF y,attrS y bUrl 512,ofF f y⟩:=(by unfold oneO;rw[L1 c2,L7 c3]);rw[ho]at hp;refine(ih (d+1) (by omega) y hyd.2 (by omega) _).mono ?_;rintro r h' ⟨rfl,rfl⟩;(try refine sq F ?_);(repeat (first|refine w1 (fun K hK=>?_)|refine w2 ?_|refine w3 ?_| ((first|refine w4 ?_|refine wD ?_|refine w5 ?_|refine w6 ?_|refine w7 ?_);try refine sq F ?_)| (refine w8 ?_;refine sq F ?_;refine w9 ?_)| (refine rq F ?_;try refine sq F ?_)| (refine vq F ?_;try refine sq F ?_)| ((first|refine hK _ _ (w0 ?_)| (clear hK K;refine hK _ _ (w0 ?_))| (clear hK K;clear hK K;refine hK _ _ (w0 ?_)));clear hK K)))
     refine aq F ?_;(try refine sq F ?_);(repeat (first|refine w1 (fun K hK=>?_)|refine w2 ?_|refine w3 ?_| ((first|refine w4 ?_|refine wD ?_|refine w5 ?_|refine w6 ?_|refine w7 ?_);try refine sq F ?_)| (refine w8 ?_;refine sq F ?_;refine w9 ?_)| (refine rq F ?_;try refine sq F ?_)| (refine vq F ?_;try refine sq F ?_)| ((first|refine hK _ _ (w0 ?_)| (clear hK K;refine hK _ _ (w0 ?_))| (clear hK K;clear hK K;refine hK _ _ (w0 ?_)));clear hK K)))
     refine hK2 _ _ _ (M5 ⟨k+1,v+1,acc++[⟨titF y,attrS y bUrl 512,ofF f y⟩],hh.set (h.length+1) (.row 55 3 (v+1) ((acc++[Outl.mk (titF y) (attrS y bUrl 512) (ofF f y)]).map Outl.av))++[.row 171 4 0 [y.av],.row 55 3 0 [.agg [.str (titF y),.str (attrS y bUrl 512),.sl 3 ((ofF f y).map Outl.av)]]],rfl,by simp[za4,Outl.title,Outl.url,Outl.kids],?_,?_,by omega,by simp;omega,by rw[← hp];simp,put _ _,put2 _ _⟩) (by omega);all_goals try exact zZz F
    ·have ho:oneO (ofF f) y=some ⟨titF y,attrS y bUrl 512,[]⟩:=(by unfold oneO;rw[L1 c2,L1 c3]);rw[ho]at hp;refine aq F ?_;(try refine sq F ?_);(repeat (first|refine w1 (fun K hK=>?_)|refine w2 ?_|refine w3 ?_| ((first|refine w4 ?_|refine wD ?_|refine w5 ?_|refine w6 ?_|refine w7 ?_);try refine sq F ?_)| (refine w8 ?_;refine sq F ?_;refine w9 ?_)| (refine rq F ?_;try refine sq F ?_)| (refine vq F ?_;try refine sq F ?_)| ((first|refine hK _ _ (w0 ?_)| (clear hK K;refine hK _ _ (w0 ?_))| (clear hK K;clear hK K;refine hK _ _ (w0 ?_)));clear hK K)))
     refine hK2 _ _ _ (M5 ⟨k+1,v+1,acc++[⟨titF y,attrS y bUrl 512,[]⟩],hh.set (h.length+1) (.row 55 3 (v+1) ((acc++[Outl.mk (titF y) (attrS y bUrl 512) []]).map Outl.av))++[.row 171 4 0 [y.av],.row 55 3 0 [.agg [.str (titF y),.str (attrS y bUrl 512),.sl 3 []]]],rfl,by simp[za4,Outl.title,Outl.url,Outl.kids],?_,?_,by omega,by simp;omega,by rw[← hp];simp,put _ _,put2 _ _⟩) (by omega);all_goals try exact zZz F
  ·rw[aJ c1,List.filterMap_nil,N3]at hp;(repeat (first|refine w1 (fun K hK=>?_)|refine w2 ?_|refine w3 ?_| ((first|refine w4 ?_|refine wD ?_|refine w5 ?_|refine w6 ?_|refine w7 ?_);try refine sq F ?_)| (refine w8 ?_;refine sq F ?_;refine w9 ?_)| (refine rq F ?_;try refine sq F ?_)| (refine vq F ?_;try refine sq F ?_)| ((first|refine hK _ _ (w0 ?_)| (clear hK K;refine hK _ _ (w0 ?_))| (clear hK K;clear hK K;refine hK _ _ (w0 ?_)));clear hK K)))
   refine ee hQ F ?_;rw[← hp];obtain⟨j,hj⟩:=hfr.split (by omega);have hg2:getRow (h++j) (h.length+1) v=some (55,3,acc.map Outl.av):=(by rw[← hj];exact hg);rw[hj];exact za2 (Frz.outls (by omega) hg2 rfl) ⟨rfl,rfl⟩
theorem pt(g:List Outl→Nat)(b:Nat)(hb:1≤b)(hg:∀l,g l≤b):∀(t:List Outl) (a:Nat),a≤512→cntGo g t a≤512+b
 | [],a,h=>by rw[cntGo];omega
 |o::t,a,h=>by
  rw[cntGo];split
  ·split
   ·have:=hg o.kids;omega
   ·exact pt g b hb hg t _ (by omega)
  ·omega
theorem mh:∀(f:Nat) (l:List Outl),cntN f l≤513+512*f:=by
 intro f;induction f with
 |zero=>intro l;rw[cntN];split<;>omega
 |succ f ih=>
  intro l;rw[cntN];split
  ·omega
  ·have:=pt (cntN f) (513+512*f) (by omega) ih l l.length (by omega);omega
def OkN:Nat→List Outl→Prop
 |0,l=>l.length≤1000000
 |f+1,l=>l.length≤1000000∧∀o∈l,o.title.length≤100000∧o.url.length≤100000∧OkN f o.kids
theorem rL(f:Nat)(e:Elem):(ofF f e).length≤e.sz:=by
 cases f with
 |zero=>exact V0 _
 |succ f=>
  have h1:=List.length_filterMap_le (oneO (ofF f)) (kidsF e bOutline);have h2:=bX Elem.sz Elem.sz_pos (kidsF e bOutline);have h3:=np e bOutline;show((kidsF e bOutline).filterMap (oneO (ofF f))).length≤_;omega
theorem OkN.nil:∀f:Nat,OkN f []:=fun f=>by cases f with|zero=>exact V0 _|succ f=>exact⟨V0 _,fun o ho=>by cases ho⟩
theorem B8:∀(g f:Nat) (e:Elem),e.sz≤1000000→OkN g (ofF f e):=by
 intro g;induction g with
 |zero=>intro f e he;have:=rL f e;show _≤_;omega
 |succ g ih=>
  intro f e he;have hl:=rL f e;refine⟨by omega,fun o ho=>?_⟩;cases f with
  |zero=>cases ho
  |succ f=>
   obtain⟨k,hk,hko⟩:=List.mem_filterMap.1 ho;have h1:=Elem.kid_sz (pr hk);have h2:=xS k;have h3:=rF k;unfold oneO at hko;by_cases h0:titF k=[]
   ·rw[L7 h0]at hko;cases hko
   ·rw[L1 h0]at hko;cases hko;refine⟨by show(titF k).length≤_;omega,by show(attrS k bUrl 512).length≤_;omega,?_⟩;show OkN g (if attrS k bUrl 512=[]then ofF f k else []);by_cases h4:attrS k bUrl 512=[]
    ·rw[L7 h4];exact ih f k (by omega)
    ·rw[L1 h4];exact OkN.nil g
theorem io(f:Nat):cntN f []=0:=by cases f<;>rfl
theorem lk(f d:Nat)(h:Heap):Sat (CT G) 59 [.sl 3 (([]:List Outl).map Outl.av),.int .i64 d] h (fun r h'=>r=.int .i64 (cntN f [])∧h'=h):=by
 rw[io];refine sb [.tmp 4] Tryz.func59 ?_;intro Q hQ;refine wk trivial ?_;refine lm (fun nL tL hL=>∃(k:Nat),0=nL∧h=hL∧tL 5=.int .i64 0∧tL 22=.int .i64 k∧k=0) ((fun(k:Nat)=>(0:Nat)) (0)) ?_ ?_
 ·refine M5 ⟨0,rfl,aw,?_,?_,rfl⟩;all_goals try exact zZz trivial
 rintro _ s2 h' ⟨k,rfl,rfl,e5,e22,hk⟩ K2 hK2;simp only[ak,am,Nat.reduceEqDiff, ↓reduceIte]at e5 e22;have F:=F2 e5 e22;subst hk;refine wk F ?_;refine ee hQ F ?_;refine fR (.int _ _) ?_;rfl
theorem ll:∀(f d:Nat),f+d=9→∀(l:List Outl) (_:OkN f l) (h:Heap),Sat (CT G) 59 [.sl 3 (l.map Outl.av),.int .i64 d] h (fun r h'=>r=.int .i64 (cntN f l)∧h'=h):=by
 intro f;induction f with
 |zero=>
  intro d hf l hs h;by_cases hl0:l=[]
  ·subst hl0;exact lk G 0 d h
  have hlp:=S9.2 hl0;have hlm:(l.map Outl.av).length=l.length:=N4 ..;have f1:decide ((l.length:Int)>0)=true:=by rw[decide_eq_true_iff];omega
  have f2:decide ((d:Int)>8)=true:=by rw[decide_eq_true_iff];omega
  have F:=F3 hlm f1 f2;refine sb [.tmp 4] Tryz.func59 ?_;intro Q hQ;refine wk F ?_;refine ee hQ F ?_;refine fR (.int _ _) ?_;rw[cntN,L1 hl0];rfl
 |succ f ih=>
  intro d hf l hs h;by_cases hl0:l=[]
  ·subst hl0;exact lk G (f+1) d h
  have hlp:=S9.2 hl0;have hlm:(l.map Outl.av).length=l.length:=N4 ..;have hll:=hs.1;have f1:decide ((l.length:Int)>0)=true:=by rw[decide_eq_true_iff];omega
  have f2:decide ((d:Int)>8)=false:=by rw[decide_eq_false_iff_not];omega
  by_cases hl:512<l.length
  ·have f3:decide ((l.length:Int)>512)=true:=(by rw[decide_eq_true_iff];omega);have F:=F4 hlm f1 f2 f3;refine sb [.tmp 4] Tryz.func59 ?_;intro Q hQ;refine wk F ?_;refine ee hQ F ?_;refine fR (.int _ _) ?_;rw[cntN,L7 hl];rfl
  have f3:decide ((l.length:Int)>512)=false:=by rw[decide_eq_false_iff_not];omega
  rw[cntN,L1 hl];have F:=F4 hlm f1 f2 f3;refine sb [.tmp 4] Tryz.func59 ?_;intro Q hQ;refine wk F ?_;refine lm (fun nL tL hL=>∃(k a:Nat) (jj:Heap),l.length-k=nL∧h++jj=hL∧tL 5=.int .i64 a∧tL 22=.int .i64 k∧k≤l.length∧a≤512∧cntGo (cntN f) (l.drop k) a=cntGo (cntN f) l l.length) ((fun(k a:Nat) (jj:Heap)=>(l.length-k:Nat)) (0) (l.length) ([])) ?_ ?_
  ·refine M5 ⟨0,l.length,[],rfl,aw,?_,?_,by omega,by omega,rfl⟩;all_goals try exact zZz F
  rintro _ s2 h' ⟨k,a,jj,rfl,rfl,e5,e22,hk,ha,hp⟩ K2 hK2;simp only[ak,am,Nat.reduceEqDiff, ↓reduceIte]at e5 e22;have F:=F3 F e5 e22;refine wk F ?_;refine cq F (fun c1=>?_) (fun c1=>?_)<;>(try exact c1.elim)<;>(refine wk F ?_)
  ·obtain⟨y,hy,hym⟩:=aj c1;have hyo:=hs.2 y hym;have hcl:=mh f y.kids;rw[aD hy,cntGo]at hp;have F:=F2 F hy;(try refine sq F ?_);refine wk F ?_;refine kq F (vH G y hyo.1 hyo.2.1 _) ?_;refine cq F (fun c2=>?_) (fun c2=>?_)<;>(try exact c2.elim)<;>(refine wk F ?_)
   ·rw[L1 (by simp[c2])]at hp;refine ee hQ F ?_;refine fR (.int _ _) ?_;rw[← hp];rfl
   ·rw[L7 c2]at hp;refine kq F (ih (d+1) (by omega) y.kids hyo.2.2 _) ?_;refine cq F (fun c3=>?_) (fun c3=>?_)<;>(try exact c3.elim)<;>(refine wk F ?_)
    ·rw[L7 (by omega)]at hp;refine ee hQ F ?_;refine fR (.int _ _) ?_;rw[← hp];rfl
    ·rw[L1 (by omega)]at hp;refine hK2 _ _ _ (M5 ⟨k+1,a+cntN f y.kids,jj++[.row 55 3 0 [y.av]],rfl,by simp,?_,?_,by omega,by omega,hp⟩) (by omega);all_goals try exact zZz F
  ·rw[aJ c1,cntGo]at hp;refine wk F ?_;refine ee hQ F ?_;refine fR (.int _ _) ?_;rw[hp]
end Go.Av
