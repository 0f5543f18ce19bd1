/- Parts. -/
import Derived.Test.YtljohklbgahomaaGreatDoorMsRb
set_option linter.unusedSimpArgs false
set_option linter.unusedVariables false
set_option linter.unusedSectionVars false
set_option linter.unnecessarySimpa false
set_option maxRecDepth 100000
set_option maxHeartbeats 16000000
namespace Go.Av
open Go Go.Proofs Go.RowKit
section
attribute [local irreducible] WP WPl WPix Sat
variable {G:Nat→Option (List AVal)}
attribute [go_sem] decide_true decide_false
end
section
def rdE(s:Bs):Bs:=readP (s.length+1) s
theorem iN(c:UInt8)(t:Bs)(p:UInt8):Lib.cut (c::t) [p]=if c=p then([],t,true)else if (Lib.cut t [p]).2.2=true then(c::(Lib.cut t [p]).1,(Lib.cut t [p]).2.1,true)else(c::t,[],false):=by
 have hp:([p]:Bs).isPrefixOf (c::t)=(p==c):=by simp[List.isPrefixOf]
 by_cases h:c=p
 ·subst h;rw[G5 rfl];unfold Lib.cut Lib.index;simp
 ·have hpc:(p==c)=false:=by simpa using fun e=>h e.symm
  rw[G2 h];have hi:Lib.index (c::t) [p]=if Lib.index t [p]== -1 then-1 else Lib.index t [p]+1:=by
   rw[Lib.index,hp,hpc];simp
  have hge:=Lib.index_ge t [p];unfold Lib.cut;rw[hi];by_cases h1:Lib.index t [p]= -1
  ·rw[h1];simp
  ·have h2:(Lib.index t [p]== -1)=false:=(by simpa using h1);have h3:0≤Lib.index t [p]:=(by omega);rw[h2];simp only[I4,if_false,G5 h3];rw[G5 (by omega)];simp only[if_true];obtain⟨n,hn⟩:∃n:Nat,Lib.index t [p]=n:=⟨_,(Int.toNat_of_nonneg h3).symm⟩;rw[hn];have e1:((n:Int)+1).toNat=n+1:=(by omega);have e2:(n:Int).toNat=n:=(by omega);rw[e1,e2];simp
theorem qz:∀(n f g:Nat) (s:Bs),s.length≤n→s.length<f→s.length<g→readP f s=readP g s:=by
 intro n;induction n with
 |zero=>
  intro f g s h hf hg;obtain rfl:s=[]:=L3.1 (by omega);obtain⟨f,rfl⟩:∃k,f=k+1:=⟨f-1,by omega⟩;obtain⟨g,rfl⟩:∃k,g=k+1:=⟨g-1,by omega⟩;rw[readP,readP];rfl
 |succ n ih=>
  intro f g s h hf hg;obtain⟨f,rfl⟩:∃k,f=k+1:=⟨f-1,by omega⟩;obtain⟨g,rfl⟩:∃k,g=k+1:=⟨g-1,by omega⟩;rw[readP,readP];by_cases h1:(Lib.cut s [38]).2.2=true
  ·have h2:=bL s [38] h1;simp only[G0,G8]at h2;rw[G5 h1,G5 h1,ih f g (Lib.cut s [38]).2.1 (by omega) (by omega) (by omega)];by_cases h3:(Lib.cut (Lib.cut s [38]).2.1 [59]).2.2=true
   ·have h4:=bL _ [59] h3;simp only[G0,G8]at h4;rw[ih f g (Lib.cut (Lib.cut s [38]).2.1 [59]).2.1 (by omega) (by omega) (by omega)]
   ·have h5:∀b c:Bool,((Lib.cut (Lib.cut s [38]).2.1 [59]).2.2&&b&&c)=false:=fun b c=>by simp[h3]
    rw[h5];simp
  ·rw[G2 h1,G2 h1]
theorem gd(f:Nat)(s:Bs):readP (f+1) s=
  if (Lib.cut s [38]).2.2=true then
   if ((Lib.cut (Lib.cut s [38]).2.1 [59]).2.2&&decide ((Lib.cut (Lib.cut s [38]).2.1 [59]).1.length≤10)&&(signF (Lib.cut (Lib.cut s [38]).2.1 [59]).1).2)=true
   then(Lib.cut s [38]).1++(enc (signF (Lib.cut (Lib.cut s [38]).2.1 [59]).1).1++readP f (Lib.cut (Lib.cut s [38]).2.1 [59]).2.1)
   else(Lib.cut s [38]).1++(38::readP f (Lib.cut s [38]).2.1)
  else(Lib.cut s [38]).1:=rfl
theorem wi:rdE []=[]:=rfl
theorem jo(f:Nat)(s:Bs)(h:s.length<f):readP f s=rdE s:=qz s.length f _ s (H6 _) h (by omega)
theorem uK(c:UInt8)(t:Bs)(h:c≠38):rdE (c::t)=c::rdE t:=by
 have e1:rdE t=readP (t.length+2) t:=(jo _ _ (by omega)).symm;rw[e1];show readP (t.length+2) (c::t)=_;rw[gd (t.length+1) (c::t),gd (t.length+1) t,iN,G2 h];by_cases h1:(Lib.cut t [38]).2.2=true
 ·rw[G5 h1,G5 rfl,G5 h1];simp only[];split<;>simp
 ·rw[G2 h1,G2 (by simp),G2 h1];rw[jf t [38] (by simpa using h1)]
theorem wj(t:Bs):rdE (38::t)=if ((Lib.cut t [59]).2.2&&decide ((Lib.cut t [59]).1.length≤10)&&(signF (Lib.cut t [59]).1).2)=true then enc (signF (Lib.cut t [59]).1).1++rdE (Lib.cut t [59]).2.1 else 38::rdE t:=by
 show readP (t.length+2) (38::t)=_;rw[gd (t.length+1),iN,G5 rfl,G5 rfl];simp only[];by_cases h:((Lib.cut t [59]).2.2&&decide ((Lib.cut t [59]).1.length≤10)&&(signF (Lib.cut t [59]).1).2)=true
 ·rw[G5 h,G5 h];simp only[G1]at h;have:=bL t [59] h.1.1;rw[jo _ _ (by simp at this;omega)];rfl
 ·rw[G2 h,G2 h,jo _ _ (by omega)];rfl
theorem mK(s:Bs)(base:Int)(most:Nat)(h:0≤numF s base most):s.length≤most:=by
 unfold numF at h;split at h
 ·omega
 ·omega
theorem sign_len(n:Bs)(h:(signF n).2=true):n.length≤9:=by
 unfold signF at h;by_cases c1:n=[97,109,112]
 ·subst c1;decide
 rw[G2 c1]at h;by_cases c2:n=[108,116]
 ·subst c2;decide
 rw[G2 c2]at h;by_cases c3:n=[103,116]
 ·subst c3;decide
 rw[G2 c3]at h;by_cases c4:n=[113,117,111,116]
 ·subst c4;decide
 rw[G2 c4]at h;by_cases c5:n=[97,112,111,115]
 ·subst c5;decide
 rw[G2 c5]at h;have key:∀m:Int,(if m<0 then((0:Int),false)else if rightF m=true then(m,true)else(65533,true)).2=true→0≤m:=fun m hm=>by
  by_cases h0:m<0
  ·rw[G5 h0]at hm;cases hm
  ·omega
 have h0:=key _ h;by_cases hx:Lib.hasPrefix n [35,120]=true
 ·rw[G5 hx]at h0;have:=mK _ _ _ h0;simp at this;omega
 ·rw[G2 hx]at h0;by_cases hy:Lib.hasPrefix n [35]=true
  ·rw[G5 hy]at h0;have:=mK _ _ _ h0;simp at this;omega
  ·rw[G2 hy]at h0;omega
theorem xI(t:Bs)(p:UInt8)(m:Nat)(h1:∀i,i<m→∀c,t[i]? =some c→c≠p)(h2:t[m]? =some p):Lib.cut t [p]=(t.take m,t.drop (m+1),true):=by
 induction t generalizing m with
 |nil=>simp at h2
 |cons c t ih=>
  rw[iN];cases m with
  |zero=>
   simp at h2;subst h2;rw[G5 rfl];rfl
  |succ m=>
   have hc:c≠p:=h1 0 (by omega) c rfl;rw[G2 hc,ih m (fun i hi d hd=>h1 (i+1) (by omega) d (by simpa using hd)) (by simpa using h2),G5 rfl];rfl
end
section
attribute [local irreducible] WP WPl WPix Sat
variable {G:Nat→Option (List AVal)}
end
section
attribute [local irreducible] WP WPl WPix Sat
variable {G:Nat→Option (List AVal)}
end
section
attribute [local irreducible] WP WPl WPix Sat
variable {G:Nat→Option (List AVal)}
end
section
attribute [local irreducible] WP WPl WPix Sat
variable {G:Nat→Option (List AVal)}
end
section
attribute [local irreducible] WP WPl WPix Sat
variable {G:Nat→Option (List AVal)}
end
section
attribute [local irreducible] WP WPl WPix Sat
variable {G:Nat→Option (List AVal)}
end
section
attribute [local irreducible] WP WPl WPix Sat
variable {G:Nat→Option (List AVal)}
def blankT(t:Tok):Bool:=t.2.2.2.all blankB&&(t.1==3)
end
section
def elL:Nat→Nat→Bs→List At→Bs→List Elem→List Tok→Option (Elem×List Tok)
 |0,_,_,_,_,_,_=>none
 |_+1,_,_,_,_,_,[]=>none
 |f+1,d,n,a,x,k,t::ts=>
  if t.1=3 then elL f d n a (x++t.2.2.2) k ts
  else if t.1=1 then(if d=0 then none else(elL f (d-1) t.2.1 t.2.2.1 [] [] ts).bind fun q=>elL f d n a x (k++[q.1]) q.2)
  else if t.1=2 then(if t.2.1=n then some (⟨n,a,x,k⟩,ts)else none)
  else none
def elF(d:Nat):List Tok→Option (Elem×List Tok)
 | []=>none
 |t::ts=>if t.1=1 then(if d=0 then none else elL (ts.length+1) (d-1) t.2.1 t.2.2.1 [] [] ts)else none
theorem bg(f d:Nat)(n:Bs)(a:List At)(x:Bs)(k:List Elem)(t:Tok)(ts:List Tok):elL (f+1) d n a x k (t::ts)=
  if t.1=3 then elL f d n a (x++t.2.2.2) k ts
  else if t.1=1 then(if d=0 then none else(elL f (d-1) t.2.1 t.2.2.1 [] [] ts).bind fun q=>elL f d n a x (k++[q.1]) q.2)
  else if t.1=2 then(if t.2.1=n then some (⟨n,a,x,k⟩,ts)else none)else none:=rfl
theorem im(f d:Nat)(n:Bs)(a:List At)(x:Bs)(k:List Elem):elL f d n a x k []=none:=by cases f<;>rfl
theorem mL(d:Nat)(t:Tok)(ts:List Tok):elF d (t::ts)=if t.1=1 then(if d=0 then none else elL (ts.length+1) (d-1) t.2.1 t.2.2.1 [] [] ts)else none:=rfl
theorem ph:∀(f d:Nat) (n:Bs) (a:List At) (x:Bs) (k:List Elem) (ts:List Tok) (q:Elem×List Tok),elL f d n a x k ts=some q→q.2 <:+ts∧q.2.length<ts.length:=by
 intro f;induction f with
 |zero=>intro d n a x k ts q h;cases h
 |succ f ih=>
  intro d n a x k ts q h;cases ts with
  |nil=>rw[im]at h;cases h
  |cons t ts=>
   rw[bg]at h;have key:q.2 <:+ts:=by
    split at h
    ·exact(ih _ _ _ _ _ _ _ h).1
    ·split at h
     ·split at h
      ·cases h
      ·obtain⟨p,hp,h⟩:=Q2.1 h;exact(ih _ _ _ _ _ _ _ h).1.trans (ih _ _ _ _ _ _ _ hp).1
     ·split at h
      ·split at h
       ·cases h;exact List.suffix_refl _
       ·cases h
      ·cases h
   exact⟨key.trans (List.suffix_cons t ts),by have:=key.length_le;simp;omega⟩
theorem gg:∀(f g d:Nat) (n:Bs) (a:List At) (x:Bs) (k:List Elem) (ts:List Tok),ts.length<f→ts.length<g→elL f d n a x k ts=elL g d n a x k ts:=by
 intro f;induction f with
 |zero=>intro g d n a x k ts h;omega
 |succ f ih=>
  intro g d n a x k ts h1 h2;obtain⟨g,rfl⟩:∃g',g=g'+1:=⟨g-1,by omega⟩;cases ts with
  |nil=>rw[im,im]
  |cons t ts=>
   simp only[G0]at h1 h2;rw[bg,bg,ih g d n a (x++t.2.2.2) k ts (by omega) (by omega),ih g (d-1) t.2.1 t.2.2.1 [] [] ts (by omega) (by omega)];cases hq:elL g (d-1) t.2.1 t.2.2.1 [] [] ts with
   |none=>rfl
   |some q=>
    have:=(ph _ _ _ _ _ _ _ _ hq).2;simp only[M7];rw[ih g d n a x (k++[q.1]) q.2 (by omega) (by omega)]
end
section
attribute [local irreducible] WP WPl WPix Sat
variable {G:Nat→Option (List AVal)}
end
section
attribute [local irreducible] WP WPl WPix Sat
variable {G:Nat→Option (List AVal)}
def bldF(ts:List Tok):Option Elem:=(elF 32 (ts.dropWhile blankT)).bind fun q=>if q.2.dropWhile blankT=[]then some q.1 else none
end
end Go.Av
