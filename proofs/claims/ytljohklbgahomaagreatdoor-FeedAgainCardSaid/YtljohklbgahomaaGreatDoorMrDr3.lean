/- Parts. -/
import Derived.Test.YtljohklbgahomaaGreatDoorMrIi
set_option linter.unusedSimpArgs false
set_option linter.unusedVariables false
set_option linter.unusedSectionVars false
set_option linter.unnecessarySimpa false
set_option maxRecDepth 100000
set_option maxHeartbeats 16000000
namespace Go.Av
open Go Go.Proofs Go.RowKit
attribute [local irreducible] WP WPl WPix Sat
variable (G:Nat→Option (List AVal))
def p1:Bs:=[60,33,45,45]
def p2:Bs:=[60,63]
def p3:Bs:=[60,33,68,79,67,84,89,80,69]
def p4:Bs:=[60,33,91,67,68,65,84,65,91]
def p5:Bs:=[60,47]
def p6:Bs:=[60]
def partF(s:Bs):List Tok×Bs×Bool:=
 if Lib.hasPrefix s p1=true then([],(uptoF [45,45,62] (Lib.trimPrefix s p1) false).2)
 else if Lib.hasPrefix s p2=true then([],(uptoF [63,62] (Lib.trimPrefix s p2) false).2)
 else if Lib.hasPrefix s p3=true then([],kindF (Lib.trimPrefix s p3) false)
 else if Lib.hasPrefix s p4=true then([(3,[],[],(uptoF [93,93,62] (Lib.trimPrefix s p4) false).1)],(uptoF [93,93,62] (Lib.trimPrefix s p4) false).2)
 else if Lib.hasPrefix s p5=true then([(2,nameW (Lib.trimPrefix s p5),[],[])],closeF (Lib.trimPrefix s p5) false)
 else if Lib.hasPrefix s p6=true then openF (Lib.trimPrefix s p6)
 else([(3,[],[],readP ((s.takeWhile textB).length+1) (s.takeWhile textB))],s.dropWhile textB,false)
theorem dO(s w:Bs)(h:Lib.hasPrefix s w=false):Lib.trimPrefix s w=s:=by unfold Lib.trimPrefix;rw[E4 (by simp[h])]
theorem t7(hG:GOk G)(s:Bs)(hs:s.length≤1048576)(h j:Heap):Sat (CT G) 69 [.hp h.length 0 0 0] (rdH h j s false)
  (fun r h'=>r=.sl 4 ((partF s).1.map Tok.av)∧h'=rdH h j (partF s).2.1 (partF s).2.2):=by
 have ht:=fun w=>aH s w
 have nils:=fun s1 b=>cF h j [] s1 s b false (x:=.nil (.slice none 0 0)) (y:=.sl 4 []) (H8 _).symm (.nils _)
 have toks:=fun s1 b (l:List Tok)=>cF h j [] s1 s b false (x:=.sl 4 (l.map Tok.av)) (y:=.sl 4 (l.map Tok.av)) (H8 _).symm (.clo _ (Toks.clo _ _ _))
 refine sb [.tmp 2] Tryz.func69 ?_;intro Q hQ;refine wk trivial ?_;refine kq trivial (bz G p1 s false h j) ?_;refine cq trivial (fun c1=>?_) (fun c1=>?_)<;>(try exact c1.elim)<;>(refine wk trivial ?_)
 ·refine kq trivial (cX G hG [45,45,62] (Lib.trimPrefix s p1) false (by have:=ht p1;omega) h j) ?_;have e:partF s=([],(uptoF [45,45,62] (Lib.trimPrefix s p1) false).2):=by unfold partF;rw[E8 c1]
  refine ee hQ trivial ?_;rw[e];exact nils _ _
 rw[dO _ _ c1];refine kq trivial (bz G p2 s false h j) ?_;refine cq trivial (fun c2=>?_) (fun c2=>?_)<;>(try exact c2.elim)<;>(refine wk trivial ?_)
 ·refine kq trivial (cX G hG [63,62] (Lib.trimPrefix s p2) false (by have:=ht p2;omega) h j) ?_;have e:partF s=([],(uptoF [63,62] (Lib.trimPrefix s p2) false).2):=by unfold partF;rw[E4 (by simp[c1]),E8 c2]
  refine ee hQ trivial ?_;rw[e];exact nils _ _
 rw[dO _ _ c2];refine kq trivial (bz G p3 s false h j) ?_;refine cq trivial (fun c3=>?_) (fun c3=>?_)<;>(try exact c3.elim)<;>(refine wk trivial ?_)
 ·refine kq trivial (sX G hG (Lib.trimPrefix s p3) false (by have:=ht p3;omega) h j) ?_;have e:partF s=([],kindF (Lib.trimPrefix s p3) false):=by unfold partF;rw[E4 (by simp[c1]),E4 (by simp[c2]),E8 c3]
  refine ee hQ trivial ?_;rw[e];exact toks _ _ []
 rw[dO _ _ c3];refine kq trivial (bz G p4 s false h j) ?_;refine cq trivial (fun c4=>?_) (fun c4=>?_)<;>(try exact c4.elim)<;>(refine wk trivial ?_)
 ·refine kq trivial (cX G hG [93,93,62] (Lib.trimPrefix s p4) false (by have:=ht p4;omega) h j) ?_;refine kq trivial (lJ G _ _) ?_;have e:partF s=([(3,[],[],(uptoF [93,93,62] (Lib.trimPrefix s p4) false).1)],(uptoF [93,93,62] (Lib.trimPrefix s p4) false).2):=by unfold partF;rw[E4 (by simp[c1]),E4 (by simp[c2]),E4 (by simp[c3]),E8 c4]
  refine ee hQ trivial ?_;rw[e];exact toks _ _ [_]
 rw[dO _ _ c4];refine kq trivial (bz G p5 s false h j) ?_;refine cq trivial (fun c5=>?_) (fun c5=>?_)<;>(try exact c5.elim)<;>(refine wk trivial ?_)
 ·refine kq trivial (qK G (Lib.trimPrefix s p5) false (by have:=ht p5;omega) h j) ?_;have e:partF s=([(2,nameW (Lib.trimPrefix s p5),[],[])],closeF (Lib.trimPrefix s p5) false):=by unfold partF;rw[E4 (by simp[c1]),E4 (by simp[c2]),E4 (by simp[c3]),E4 (by simp[c4]),E8 c5]
  refine ee hQ trivial ?_;rw[e];exact toks _ _ [_]
 rw[dO _ _ c5];refine kq trivial (bz G p6 s false h j) ?_;refine cq trivial (fun c6=>?_) (fun c6=>?_)<;>(try exact c6.elim)<;>(refine wk trivial ?_)
 ·refine kq trivial (sZ G hG (Lib.trimPrefix s p6) (by have:=ht p6;omega) h j) ?_;have e:partF s=openF (Lib.trimPrefix s p6):=by unfold partF;rw[E4 (by simp[c1]),E4 (by simp[c2]),E4 (by simp[c3]),E4 (by simp[c4]),E4 (by simp[c5]),E8 c6]
  refine ee hQ trivial ?_;rw[e];exact toks _ _ _
 rw[dO _ _ c6];have hw:(s.takeWhile textB).length≤s.length:=(List.takeWhile_sublist _).length_le;refine kq trivial (js G textP textB true uN 112 s false (by omega) h j (fun c k _=>qL G c k)) ?_;refine kq trivial (dY hG (s.takeWhile textB) (by omega) _) ?_;refine kq trivial (lJ G _ _) ?_;have e:partF s=([(3,[],[],readP ((s.takeWhile textB).length+1) (s.takeWhile textB))],s.dropWhile textB,false):=by unfold partF;rw[E4 (by simp[c1]),E4 (by simp[c2]),E4 (by simp[c3]),E4 (by simp[c4]),E4 (by simp[c5]),E4 (by simp[c6])]
 refine ee hQ trivial ?_;rw[e];exact toks _ _ [_]
def addT(l:List Tok)(t:Tok):List Tok:=
 if t.1=3 then
  if t.2.2.2=[]then l else
  match l.getLast? with
  |some u=>if u.1=3 then l.dropLast++[(u.1,u.2.1,u.2.2.1,u.2.2.2++t.2.2.2)]else l++[t]
  |none=>l++[t]
 else l++[t]
theorem kc(l:List Tok)(u t:Tok)(ht:t.1=3)(hn:t.2.2.2≠ []):addT (l++[u]) t=if u.1=3 then l++[(u.1,u.2.1,u.2.2.1,u.2.2.2++t.2.2.2)]else l++[u]++[t]:=by
 unfold addT;rw[E8 ht,E4 hn];simp
theorem lK(t:Tok)(hn:t.1=3→t.2.2.2≠ []):addT [] t=[t]:=by
 unfold addT;split
 ·rename_i h;rw[E4 (hn h)];rfl
 ·rfl
def tksR(v:Nat)(l:List Tok):Blk:=.row 98 4 v (l.map Tok.av)
theorem t8(n v:Nat)(l:List Tok):CloB n (tksR v l):=by
 intro r hr;obtain⟨a,_,rfl⟩:=I9.1 hr;exact Tok.clo _ _
theorem uO(P j jj:Heap)(v v0:Nat)(l l0:List Tok){h2:Heap}{x:AVal}{R:AVal→Heap→Prop}(hh:h2=P++tksR v l::j++jj)(hx:Clo (P++tksR v0 l0::j).length x)(hR:R x (P++tksR v l::j)):
  Fin (P++tksR v0 l0::j) h2 R x:=by
 refine Fin.keepE (h1:=P++tksR v l::j) hh (by simp) (fun p k hk=>?_) hx hR;rcases O5 p P.length with h1|h1
 ·rw[G0 h1]at hk ⊢;exact .inl hk
 ·rw[G6 h1]at hk ⊢
  match p-P.length,hk with
  |0,hk=>simp at hk;subst hk;exact .inr (t8 _ _ _)
  |i+1,hk=>exact .inl (by simpa using hk)
@[go_sem] theorem yw(v:Nat)(l:List Tok)(j:Heap):getRow (tksR v l::j) 0 v=some (98,4,l.map Tok.av):=by simp[getRow,tksR]
@[go_sem] theorem xw(v:Nat)(l:List Tok)(j:Heap)(k u:Nat):getRow (tksR v l::j) (k+1) u=getRow j k u:=rfl
theorem uP(P j:Heap)(v:Nat)(l:List Tok)(t:Tok)(hl:l.length≤1048576)(ht:∀u∈l,u.2.2.2.length+t.2.2.2.length≤140737488355328):
  Sat (CT G) 70 [.hs P.length v 0 l.length true,t.av] (P++tksR v l::j) (fun r h'=>∃v',r=.hs P.length v' 0 (addT l t).length true∧h'=P++tksR v' (addT l t)::j):=by
 have end_:=fun(jj:Heap) (v1:Nat) (l1:List Tok) (h2:Heap) (hh:h2=P++tksR v1 l1::j++jj) (hl1:l1=addT l t)=>uO P j jj v1 v l1 l (x:=.hs P.length v1 0 l1.length true)
  (R:=fun r h'=>∃v',r=.hs P.length v' 0 (addT l t).length true∧h'=P++tksR v' (addT l t)::j) hh (.hs _ _ _ _ _ (by simp)) ⟨v1,by rw[hl1],by rw[hl1]⟩
 refine sb [.tmp 4] Tryz.func70 ?_;intro Q hQ;(repeat (first|refine w1 (fun K hK=>?_)|refine w2 ?_|refine w3 ?_| ((first|refine w4 ?_|refine wD ?_|refine w5 ?_|refine w6 ?_|refine w7 ?_);try refine sq trivial ?_)| (refine w8 ?_;refine sq trivial ?_;refine w9 ?_)| (refine rq trivial ?_;try refine sq trivial ?_)| (refine vq trivial ?_;try refine sq trivial ?_)| ((first|refine hK _ _ (w0 ?_)| (clear hK K;refine hK _ _ (w0 ?_))| (clear hK K;clear hK K;refine hK _ _ (w0 ?_)));clear hK K)))
 have tail:∀(t':Env),t' 0=.hs P.length v 0 l.length true→t' 3=.hp (P.length+(j.length+1)) 0 0 0→addT l t=l++[t]→K t' (P++tksR v l::(j++[.row 98 4 0 [t.av]])):=by
  intro t' e0 e3 he;refine hK _ _ (H3 ?_);clear hK K;have F:=F2 e0 e3;(repeat (first|refine w1 (fun K hK=>?_)|refine w2 ?_|refine w3 ?_| ((first|refine w4 ?_|refine wD ?_|refine w5 ?_|refine w6 ?_|refine w7 ?_);try refine sq F ?_)| (refine w8 ?_;refine sq F ?_;refine w9 ?_)| (refine rq F ?_;try refine sq F ?_)| (refine vq F ?_;try refine sq F ?_)| ((first|refine hK _ _ (w0 ?_)| (clear hK K;refine hK _ _ (w0 ?_))| (clear hK K;clear hK K;refine hK _ _ (w0 ?_)));clear hK K)))
  refine aq F ?_;try refine sq F ?_
  (repeat (first|refine w1 (fun K hK=>?_)|refine w2 ?_|refine w3 ?_| ((first|refine w4 ?_|refine wD ?_|refine w5 ?_|refine w6 ?_|refine w7 ?_);try refine sq F ?_)| (refine w8 ?_;refine sq F ?_;refine w9 ?_)| (refine rq F ?_;try refine sq F ?_)| (refine vq F ?_;try refine sq F ?_)| ((first|refine hK _ _ (w0 ?_)| (clear hK K;refine hK _ _ (w0 ?_))| (clear hK K;clear hK K;refine hK _ _ (w0 ?_)));clear hK K)))
  refine ee hQ F ?_;have:=end_ [.row 98 4 0 [t.av]] (v+1) (l++[t]) (P++ .row 98 4 (v+1) (l.map Tok.av++[t.av])::(j++[.row 98 4 0 [t.av]])) (by simp[tksR]) he.symm;rw[E5]at this;exact this
 refine cq trivial (fun c1=>?_) (fun c1=>?_)<;>(try exact c1.elim)<;>((repeat (first|refine w1 (fun K hK=>?_)|refine w2 ?_|refine w3 ?_| ((first|refine w4 ?_|refine wD ?_|refine w5 ?_|refine w6 ?_|refine w7 ?_);try refine sq trivial ?_)| (refine w8 ?_;refine sq trivial ?_;refine w9 ?_)| (refine rq trivial ?_;try refine sq trivial ?_)| (refine vq trivial ?_;try refine sq trivial ?_)| ((first|refine hK _ _ (w0 ?_)| (clear hK K;refine hK _ _ (w0 ?_))| (clear hK K;clear hK K;refine hK _ _ (w0 ?_)));clear hK K))))
 ·refine tail _ ?_ ?_ (by unfold addT;rw[E4 c1])
  ·exact zq trivial
  ·exact zq trivial
 ·refine cq trivial (fun c2=>?_) (fun c2=>?_)<;>(try exact c2.elim)<;>((repeat (first|refine w1 (fun K hK=>?_)|refine w2 ?_|refine w3 ?_| ((first|refine w4 ?_|refine wD ?_|refine w5 ?_|refine w6 ?_|refine w7 ?_);try refine sq trivial ?_)| (refine w8 ?_;refine sq trivial ?_;refine w9 ?_)| (refine rq trivial ?_;try refine sq trivial ?_)| (refine vq trivial ?_;try refine sq trivial ?_)| ((first|refine hK _ _ (w0 ?_)| (clear hK K;refine hK _ _ (w0 ?_))| (clear hK K;clear hK K;refine hK _ _ (w0 ?_)));clear hK K))))
  ·refine ee hQ trivial ?_;exact end_ _ v l _ (by simp;rfl) (by unfold addT;rw[E8 c1,E8 c2])
  ·have c2':t.2.2.2≠ []:=c2;rcases O6 l with rfl| ⟨l,u,rfl⟩
   ·(first|refine gq trivial (fun g=>?_) (fun g=>?_)|refine pq trivial (fun g=>?_) (fun g=>?_))<;>(try exact g.elim)<;>(try refine sq trivial ?_)<;>((repeat (first|refine w1 (fun K hK=>?_)|refine w2 ?_|refine w3 ?_| ((first|refine w4 ?_|refine wD ?_|refine w5 ?_|refine w6 ?_|refine w7 ?_);try refine sq trivial ?_)| (refine w8 ?_;refine sq trivial ?_;refine w9 ?_)| (refine rq trivial ?_;try refine sq trivial ?_)| (refine vq trivial ?_;try refine sq trivial ?_)| ((first|refine hK _ _ (w0 ?_)| (clear hK K;refine hK _ _ (w0 ?_))| (clear hK K;clear hK K;refine hK _ _ (w0 ?_)));clear hK K))))
    ·refine tail _ ?_ ?_ (lK t fun _=>c2')
     ·exact zq trivial
     ·exact zq trivial
   ·rw[O7]at*;have hl2:l.length+1≤1048576:=(by simpa using hl);have e1:((l.length+1:Nat):Int)-1=l.length:=(by omega);have e2:(l++[u])[l.length]? =some u:=(by simp);have F:=F2 e1 e2;(first|refine gq F (fun g=>?_) (fun g=>?_)|refine pq F (fun g=>?_) (fun g=>?_))<;>(try exact g.elim)<;>(try refine sq F ?_)<;>((repeat (first|refine w1 (fun K hK=>?_)|refine w2 ?_|refine w3 ?_| ((first|refine w4 ?_|refine wD ?_|refine w5 ?_|refine w6 ?_|refine w7 ?_);try refine sq F ?_)| (refine w8 ?_;refine sq F ?_;refine w9 ?_)| (refine rq F ?_;try refine sq F ?_)| (refine vq F ?_;try refine sq F ?_)| ((first|refine hK _ _ (w0 ?_)| (clear hK K;refine hK _ _ (w0 ?_))| (clear hK K;clear hK K;refine hK _ _ (w0 ?_)));clear hK K))))
    ·have:=ht u (by simp);have hsn:=kc l u t c1 c2';have e3:l.length<l.length+1:=(by omega);refine⟨e3,?_⟩;by_cases c3:u.1=3
     ·refine hK _ _ (H3 ?_);clear tail hK K;have e4:(u.1==3)=true:=(by simpa using c3);rw[E8 c3]at hsn;have F:=F3 F e3 e4;(repeat (first|refine w1 (fun K hK=>?_)|refine w2 ?_|refine w3 ?_| ((first|refine w4 ?_|refine wD ?_|refine w5 ?_|refine w6 ?_|refine w7 ?_);try refine sq F ?_)| (refine w8 ?_;refine sq F ?_;refine w9 ?_)| (refine rq F ?_;try refine sq F ?_)| (refine vq F ?_;try refine sq F ?_)| ((first|refine hK _ _ (w0 ?_)| (clear hK K;refine hK _ _ (w0 ?_))| (clear hK K;clear hK K;refine hK _ _ (w0 ?_)));clear hK K)))
      refine ee hQ F ?_;have:=end_ [.row 98 4 0 [t.av]] v _ _ rfl hsn.symm;simp[tksR,Tok.av,ofCells]at this ⊢;exact this
     ·have e4:(u.1==3)=false:=(by simpa using c3);rw[E4 c3]at hsn;have F:=F2 F e4;refine hK _ _ (H3 ?_);clear hK;(repeat (first|refine w1 (fun K hK=>?_)|refine w2 ?_|refine w3 ?_| ((first|refine w4 ?_|refine wD ?_|refine w5 ?_|refine w6 ?_|refine w7 ?_);try refine sq F ?_)| (refine w8 ?_;refine sq F ?_;refine w9 ?_)| (refine rq F ?_;try refine sq F ?_)| (refine vq F ?_;try refine sq F ?_)| ((first|refine hK _ _ (w0 ?_)| (clear hK K;refine hK _ _ (w0 ?_))| (clear hK K;clear hK K;refine hK _ _ (w0 ?_)));clear hK K)))
      refine aq F ?_;(try refine sq F ?_);(repeat (first|refine w1 (fun K hK=>?_)|refine w2 ?_|refine w3 ?_| ((first|refine w4 ?_|refine wD ?_|refine w5 ?_|refine w6 ?_|refine w7 ?_);try refine sq F ?_)| (refine w8 ?_;refine sq F ?_;refine w9 ?_)| (refine rq F ?_;try refine sq F ?_)| (refine vq F ?_;try refine sq F ?_)| ((first|refine hK _ _ (w0 ?_)| (clear hK K;refine hK _ _ (w0 ?_))| (clear hK K;clear hK K;refine hK _ _ (w0 ?_)));clear hK K)))
      refine ee hQ F ?_;have:=end_ [.row 98 4 0 [t.av]] (v+1) _ _ rfl hsn.symm;simp[tksR]at this ⊢;exact this
    ·exfalso;simp at g
end Go.Av
namespace Go.Av
open Go Go.Proofs Go.RowKit
theorem c8{α:Type}(f:α→Nat)(a b:List α):szs f (a++b)=szs f a+szs f b:=by
 induction a with
 |nil=>simp[szs]
 |cons x l ih=>simp only[J8,szs,ih];omega
theorem ke(w s:Bs)(b:Bool):(uptoF w s b).1.length+(uptoF w s b).2.1.length≤s.length:=by
 unfold uptoF;split
 ·rename_i h;have:=bH s w h;simp only[];omega
 ·simp
theorem dZ(s:Bs):(nameW s).length+(nameR s).length=s.length:=by
 have:=H6 List.length (M8 (p:=moreB) (l:=s));rw[E5]at this;exact this
theorem kf:∀(f:Nat) (s:Bs),(readP f s).length≤5*s.length:=by
 intro f;induction f with
 |zero=>intro s;simp[readP]
 |succ f ih=>
  intro s;rw[readP];split
  ·rename_i h;have h1:=bH s [38] h;simp only[E2,E9]at h1;split
   ·rename_i h2;simp only[E3]at h2;have h3:=bH _ [59] h2.1.1;simp only[E2,E9]at h3;have h4:=dM (signF (Lib.cut (Lib.cut s [38]).2.1 [59]).1).1;have h5:=ih (Lib.cut (Lib.cut s [38]).2.1 [59]).2.1;simp only[E5];omega
   ·have h5:=ih (Lib.cut s [38]).2.1;simp only[E5,E2];omega
  ·rename_i h;rw[iW s [38] (by simpa using h)];simp only[];omega
theorem ta(s:Bs)(b:Bool):(valueF s b).1.length+5*(valueF s b).2.1.length≤5*s.length:=by
 have h1:=aH s (if Lib.hasPrefix s [34]=true then [34]else [39]);have h2:=ke (if Lib.hasPrefix s [34]=true then [34]else [39]) (Lib.trimPrefix s (if Lib.hasPrefix s [34]=true then [34]else [39])) (b|| !Lib.hasPrefix s (if Lib.hasPrefix s [34]=true then [34]else [39]));show(readP _ _).length+5*(uptoF _ _ _).2.1.length≤_;have h3:=kf ((uptoF (if Lib.hasPrefix s [34]=true then [34]else [39]) (Lib.trimPrefix s (if Lib.hasPrefix s [34]=true then [34]else [39])) (b|| !Lib.hasPrefix s (if Lib.hasPrefix s [34]=true then [34]else [39]))).1.length+1)
  (uptoF (if Lib.hasPrefix s [34]=true then [34]else [39]) (Lib.trimPrefix s (if Lib.hasPrefix s [34]=true then [34]else [39])) (b|| !Lib.hasPrefix s (if Lib.hasPrefix s [34]=true then [34]else [39]))).1
 omega
theorem td(s:Bs)(h:(attrX s false).2.2=false):At.sz (attrX s false).1+10*(attrX s false).2.1.length≤10*s.length:=by
 have h0:=eU s (iY s h);have h1:=dZ s;have h2:=aF blankB (nameR s);have h3:=aH ((nameR s).dropWhile blankB) [61];have h4:=aF blankB (Lib.trimPrefix ((nameR s).dropWhile blankB) [61]);unfold attrX at h ⊢;simp only[]at h ⊢;split at h
 ·rename_i hb;simp only[]at h;rw[h]at hb;cases hb
 ·rename_i hb;rw[E4 hb];have:=ta ((Lib.trimPrefix ((nameR s).dropWhile blankB) [61]).dropWhile blankB) (false||badN (nameW s)|| !Lib.hasPrefix ((nameR s).dropWhile blankB) [61]);simp only[At.sz];omega
theorem ci(s w:Bs)(h:Lib.hasPrefix s w=true):(Lib.trimPrefix s w).length+w.length≤s.length:=by
 have h1:w.length≤s.length:=(List.isPrefixOf_iff_prefix.1 h).length_le;unfold Lib.trimPrefix;rw[E8 h,K9];omega
theorem tf:∀(f:Nat) (n:Bs) (at_:List At) (s:Bs) (b:Bool),szs Tok.sz (openL f n at_ s b).1+10*(openL f n at_ s b).2.1.length≤2+2*n.length+szs At.sz at_+10*s.length:=by
 intro f;induction f with
 |zero=>intro n at_ s b;simp only[openL,szs];omega
 |succ f ih=>
  intro n at_ s b;have h1:=aF blankB s;rw[openL];split
  ·simp only[szs];omega
  ·split
   ·have:=aH (s.dropWhile blankB) [62];simp only[szs,Tok.sz,E9];omega
   ·split
    ·have:=aH (s.dropWhile blankB) [47,62];simp only[szs,Tok.sz,E9];omega
    ·have h2:=td (s.dropWhile blankB);cases hb:(attrX (s.dropWhile blankB) false).2.2 with
     |true=>
      rw[L2,L2,L2];have h3:=eD (s.dropWhile blankB) false;have h4:=aF moreB (s.dropWhile blankB)
      change (nameR (s.dropWhile blankB)).length≤_ at h4
      have e:∀at_ s,openL f n at_ s true=([],s,true):=fun at_ s=>by cases f<;>simp[openL]
      rw[e];simp only[szs];omega
     |false=>
      have h3:=ih n (at_++[(attrX (s.dropWhile blankB) false).1]) (attrX (s.dropWhile blankB) false).2.1 (((false||s.takeWhile blankB==[])||at_.any fun a=>a.1==(attrX (s.dropWhile blankB) false).1.1)||decide (32≤at_.length));have h4:=h2 hb;rw[c8]at h3;simp only[szs]at h3;omega
theorem pk(f:Nat)(n:Bs)(s:Bs):openL f n [] s true=([],s,true):=by cases f<;>simp[openL]
theorem tg(s:Bs):szs Tok.sz (openF s).1+10*(openF s).2.1.length≤2+10*s.length:=by
 unfold openF;have h1:=dZ s;cases hb:badN (nameW s)with
 |true=>rw[pk];simp only[szs];omega
 |false=>
  have:=tf (s.length+3) (nameW s) [] (nameR s) false;simp only[szs]at this;omega
theorem iZ(s:Bs)(h:Lib.hasPrefix s [60]=false)(hs:s≠ []):1≤(s.takeWhile textB).length:=by
 cases s with
 |nil=>exact absurd rfl hs
 |cons c t=>
  have:textB c=true:=by
   unfold textB textP;simp only[L7,decide_eq_false_iff_not];intro e;have:c=60:=UInt8.toNat_inj.1 (by have:=Int.ofNat.inj e;simpa using this);subst this;simp[Lib.hasPrefix]at h
  simp[List.takeWhile,this]
theorem lL(s:Bs)(hs:s≠ []):szs Tok.sz (partF s).1+10*(partF s).2.1.length≤10*s.length:=by
 unfold partF;split
 ·have:=aH s p1;have:=bu [45,45,62] (Lib.trimPrefix s p1) false
  simp only[szs];omega
 split
 ·have:=aH s p2;have:=bu [63,62] (Lib.trimPrefix s p2) false
  simp only[szs];omega
 split
 ·have:=aH s p3;have:=bu [62] (Lib.trimPrefix s p3) false
  simp only[szs,kindF];omega
 split
 ·rename_i h;have:=ci s p4 h;have:=ke [93,93,62] (Lib.trimPrefix s p4) false;simp only[szs,Tok.sz,p4,E2,E9]at *;omega
 split
 ·rename_i h;have:=ci s p5 h;have:=dZ (Lib.trimPrefix s p5);have:=aF blankB (nameR (Lib.trimPrefix s p5));have:=aH ((nameR (Lib.trimPrefix s p5)).dropWhile blankB) [62];simp only[szs,Tok.sz,closeF,p5,E2,E9]at *;omega
 split
 ·rename_i h;have:=ci s p6 h;have:=tg (Lib.trimPrefix s p6);simp only[p6,E2,E9]at *;omega
 ·rename_i h;have h1:=iZ s (by simpa [p6]using h) hs;have h2:=kf ((s.takeWhile textB).length+1) (s.takeWhile textB);have h3:=H6 List.length (M8 (p:=textB) (l:=s));rw[E5]at h3;simp only[szs,Tok.sz,E9];omega
theorem nP(l:List Tok)(t:Tok):szs Tok.sz (addT l t)≤szs Tok.sz l+Tok.sz t:=by
 by_cases h3:t.1=3
 ·by_cases ht:t.2.2.2=[]
  ·unfold addT;rw[E8 h3,E8 ht];omega
  ·rcases O6 l with rfl| ⟨l,u,rfl⟩
   ·rw[lK t fun _=>ht];simp[szs]
   ·rw[O7,kc l u t h3 ht];split
    ·simp only[c8,szs,Tok.sz,E5];omega
    ·simp only[c8,szs];omega
 ·unfold addT;rw[E4 h3,c8];simp[szs]
theorem pl:∀(f:Nat) (n:Bs) (at_:List At) (s:Bs) (b:Bool),(openL f n at_ s b).2.1.length≤s.length:=by
 intro f;induction f with
 |zero=>intro n at_ s b;simp[openL]
 |succ f ih=>
  intro n at_ s b;have h1:=aF blankB s;rw[openL];split
  ·simp
  ·split
   ·have:=aH (s.dropWhile blankB) [62];simp only[];omega
   ·split
    ·have:=aH (s.dropWhile blankB) [47,62];simp only[];omega
    ·refine Q1 (ih _ _ _ _) ?_;have h3:=eD (s.dropWhile blankB) false;have h4:=aF moreB (s.dropWhile blankB)
     change (nameR (s.dropWhile blankB)).length≤_ at h4
     omega
theorem pm(s:Bs)(hs:s≠ []):(partF s).2.1.length<s.length:=by
 unfold partF;split
 ·rename_i h;have:=ci s p1 h;have:=bu [45,45,62] (Lib.trimPrefix s p1) false;simp only[p1,E2,E9]at *;omega
 split
 ·rename_i h;have:=ci s p2 h;have:=bu [63,62] (Lib.trimPrefix s p2) false;simp only[p2,E2,E9]at *;omega
 split
 ·rename_i h;have:=ci s p3 h;have:=bu [62] (Lib.trimPrefix s p3) false;simp only[p3,kindF,E2,E9]at *;omega
 split
 ·rename_i h;have:=ci s p4 h;have:=bu [93,93,62] (Lib.trimPrefix s p4) false;simp only[p4,E2,E9]at *;omega
 split
 ·rename_i h;have:=ci s p5 h;have:=dZ (Lib.trimPrefix s p5);have:=aF blankB (nameR (Lib.trimPrefix s p5));have:=aH ((nameR (Lib.trimPrefix s p5)).dropWhile blankB) [62];simp only[closeF,p5,E2,E9]at *;omega
 split
 ·rename_i h;have:=ci s p6 h;have:=pl ((Lib.trimPrefix s p6).length+3) (nameW (Lib.trimPrefix s p6)) [] (nameR (Lib.trimPrefix s p6)) (badN (nameW (Lib.trimPrefix s p6)));have hns:=dZ (Lib.trimPrefix s p6);unfold openF;simp only[p6,E2,E9]at*;omega
 ·rename_i h;have h1:=iZ s (by simpa [p6]using h) hs;have h3:=H6 List.length (M8 (p:=textB) (l:=s));rw[E5]at h3;simp only[];omega
def tksF:Nat→Bs→List Tok→List Tok×Int
 |0,_,_=>([],80)
 |f+1,s,l=>if s=[]then(l,0)else
  if (partF s).2.2=true then([],80)else
  if 8192<((partF s).1.foldl addT l).length then([],3)else tksF f (partF s).2.1 ((partF s).1.foldl addT l)
theorem uQ:∀(l:List Tok) (a:List Tok),szs Tok.sz (l.foldl addT a)≤szs Tok.sz a+szs Tok.sz l:=by
 intro l;induction l with
 |nil=>intro a;simp[szs]
 |cons t l ih=>intro a;have:=ih (addT a t);have:=nP a t;simp only[R8,szs];omega
theorem uR:∀(f:Nat) (s:Bs) (l:List Tok),szs Tok.sz (tksF f s l).1≤szs Tok.sz l+10*s.length:=by
 intro f;induction f with
 |zero=>intro s l;simp[tksF,szs]
 |succ f ih=>
  intro s l;rw[tksF];split
  ·simp only[];omega
  ·rename_i hs;split
   ·simp[szs]
   ·split
    ·simp[szs]
    ·have h1:=ih (partF s).2.1 ((partF s).1.foldl addT l);have h2:=lL s hs;have h3:=uQ (partF s).1 l;omega
def toksF(s:Bs):List Tok×Int:=if 65536<s.length then([],3)else tksF (s.length+1) s []
end Go.Av
namespace Go.Av
open Go Go.Proofs Go.RowKit
attribute [local irreducible] WP WPl WPix Sat
variable (G:Nat→Option (List AVal))
@[go_sem] theorem yx(h j:Heap)(s:Bs)(b:Bool)(v:Nat)(l:List Tok):getRow (rdH h (tksR v l::j) s b) (h.length+1) v=some (98,4,l.map Tok.av):=by
 simp[rdH,getRow,tksR]
@[go_sem] theorem xx(h j l:Heap)(x:Blk)(s:Bs)(b:Bool)(v:Nat):getRow (rdH h (x::j) s b++l) (h.length+(1+(j.length+1))) v=getRow l 0 v:=mU h (x::j) l s b v
@[go_sem] theorem Bl(h j l:Heap)(x y:Blk)(s:Bs)(b:Bool):(rdH h (x::j) s b++l).set (h.length+(1+(j.length+1))) y=rdH h (x::j) s b++l.set 0 y:=lH h (x::j) l s b y
theorem th(h j jj:Heap)(s:Bs)(b:Bool)(v:Nat)(l:List Tok)(t:Tok)(hl:l.length≤1048576)(ht:∀u∈l,u.2.2.2.length+t.2.2.2.length≤140737488355328):
  Sat (CT G) 70 [.hs (h.length+1) v 0 l.length true,t.av] (rdH h (tksR v l::j) s b++jj)
   (fun r h'=>∃v',r=.hs (h.length+1) v' 0 (addT l t).length true∧h'=rdH h (tksR v' (addT l t)::(j++jj)) s b):=by
 have:=uP G (h++[rdrR s b]) (j++jj) v l t hl ht;have e:rdH h (tksR v l::j) s b++jj=(h++[rdrR s b])++tksR v l::(j++jj):=by simp[rdH]
 rw[e];have e2:(h++[rdrR s b]).length=h.length+1:=by simp
 rw[e2]at this;exact this.mono fun r h' ⟨v',h1,h2⟩=>⟨v',h1,by rw[h2];simp[rdH]⟩
theorem nQ{l:List Tok}{u:Tok}(h:u∈l):u.2.2.2.length≤szs Tok.sz l:=by
 have h1:=gN Tok.sz h;have h2:Tok.sz u=1+u.2.1.length+szs At.sz u.2.2.1+u.2.2.2.length:=rfl;omega
theorem Fin.frzS{h0:Heap}{R:AVal→Heap→Prop}{r0 r:AVal}(hz:Frz h0 h0.length r0 r)(hR:R r h0):Fin h0 h0 R r0:=by
 have:=T6 (h0:=h0) (j:=[]) (R:=R) (r0:=r0) (r:=r) (by simpa using hz) hR;simpa using this
theorem Frz.toksD{h:Heap}{n q v e:Nat}{l:List Tok}{len:Nat}{room:Bool}(hq:n≤q)(hg:getRow h q v=some (e,4,l.map Tok.av))(hlen:len=l.length):Frz h n (.hs q v 0 len room) (.sl 4 (l.map Tok.av)):=
 Frz.data hq hg (by simpa using hlen) (fun r hr=>by obtain⟨a,_,rfl⟩:=I9.1 hr;exact Tok.clo _ a) (fun r hr=>by obtain⟨a,_,rfl⟩:=I9.1 hr;exact a.av_sto)
theorem mV(hG:GOk G)(s:Bs)(hs:s.length≤4194304)(h:Heap):Sat (CT G) 39 [.str s] h
  (fun r h'=>∃a,r=.tup [.sl 4 ((toksF s).1.map Tok.av),.int .i64 a,.int .i64 (toksF s).2]∧h'=h):=by
 refine sb [.tmp 2,.tmp 3,.tmp 4] Tryz.func39 ?_;intro Q hQ;refine wk trivial ?_;refine cq trivial (fun c0=>?_) (fun c0=>?_)<;>(try exact c0.elim)<;>(refine wk trivial ?_)
 ·have e:toksF s=([],3):=by unfold toksF;rw[E8 (by omega)]
  refine ye hQ trivial ?_;rw[e];exact Fin.frzS (FrzL.tup (.cons (.nils 4) (.cons (.clo _ (.int _ _)) (.cons (.clo _ (.int _ _)) .nil)))) ⟨0,rfl,rfl⟩
 have e:toksF s=tksF (s.length+1) s []:=by unfold toksF;rw[E4 (by omega)]
 have bad:∀(jj:Heap) (a:Int) (c:Int),toksF s=([],c)→Fin h (h++jj) (fun r h'=>∃a,r=.tup [.sl 4 ((toksF s).1.map Tok.av),.int .i64 a,.int .i64 (toksF s).2]∧h'=h) (.tup [.nil (.slice none 0 0),.int .i64 a,.int .i64 c]):=fun jj a c hb=>by
  rw[hb];exact T6 (FrzL.tup (.cons (.nils 4) (.cons (.clo _ (.int _ _)) (.cons (.clo _ (.int _ _)) .nil)))) ⟨a,rfl,rfl⟩
 refine lm (fun nL tL hL=>∃(f v:Nat) (s1:Bs) (l:List Tok) (jj:Heap),f=nL∧rdH h (tksR v l::jj) s1 false=hL∧tL 5=.hs (h.length+1) v 0 l.length true∧tL 6=.hp h.length 0 0 0∧s1.length<f∧tksF f s1 l=toksF s∧szs Tok.sz l+10*s1.length≤10*s.length∧l.length≤8192) ((fun(f v:Nat) (s1:Bs) (l:List Tok) (jj:Heap)=>(f:Nat)) (s.length+1) (0) (s) ([]) ([])) ?_ ?_
 ·refine⟨_,_,Weak.virt 5 98 4 (by simp) (by omega) (by exact zq trivial),⟨s.length+1,0,s,[],[],rfl,by simp[rdH,rdrR,tksR],?_,?_,by omega,e.symm,by simp[szs],by simp⟩⟩;all_goals try exact zZz trivial
 rintro _ s2 h' ⟨f,v,s1,l,jj,rfl,rfl,e5,e6,hf,hp,hz,hl⟩ K2 hK2;simp only[ao,aw,Nat.reduceEqDiff, ↓reduceIte]at e5 e6;have F:=F2 e5 e6;refine wk F ?_;obtain⟨g,rfl⟩:∃g,f=g+1:=⟨f-1,by omega⟩;rw[tksF]at hp;refine cq F (fun c1=>?_) (fun c1=>?_)<;>(try exact c1.elim)<;>(refine wk F ?_)
 ·have hps:=lL s1 c1;have hpl:=pm s1 c1;have hz0:=cB Tok.sz Tok.sz_pos (partF s1).1;rw[E4 c1]at hp;refine kq F (t7 G hG s1 (by omega) h (tksR v l::jj)) ?_;generalize partF s1=x at hp hps hpl hz0 ⊢;obtain⟨tk,r1,bb⟩:=x;simp only[]at hp hps hpl hz0 ⊢;refine lm (fun nL tL hL=>∃(k v2:Nat) (l2:List Tok) (j2:Heap),tk.length-k=nL∧rdH h (tksR v2 l2::j2) r1 bb=hL∧tL 5=.hs (h.length+1) v2 0 l2.length true∧tL 32=.int .i64 k∧k≤tk.length∧(tk.drop k).foldl addT l2=tk.foldl addT l∧szs Tok.sz l2+szs Tok.sz (tk.drop k)≤szs Tok.sz l+szs Tok.sz tk) ((fun(k v2:Nat) (l2:List Tok) (j2:Heap)=>(tk.length-k:Nat)) (0) (v) (l) (jj)) ?_ ?_
  ·refine H3 ⟨0,v,l,jj,rfl,aB,?_,?_,?_,?_,?_⟩;all_goals try exact zZz F
  rintro _ s3 h' ⟨k,v2,l2,j2,rfl,rfl,e5,e32,hk,hq,hz2⟩ K3 hK3;simp only[ao,aw,Nat.reduceEqDiff, ↓reduceIte]at e5 e32;have F:=F3 F e5 e32;refine wk F ?_;refine cq F (fun c2=>?_) (fun c2=>?_)<;>(try exact c2.elim)<;>(refine wk F ?_)
  ·obtain⟨y,hy,hym⟩:=am c2;rw[c9 hy]at hq hz2;simp only[szs,R8]at hq hz2;have hz3:=cB Tok.sz Tok.sz_pos l2;have hz4:=nP l2 y;have F:=F2 F hy;(try refine sq F ?_);refine wk F ?_;refine(th G h j2 _ r1 bb v2 l2 y (by omega) (fun u hu=>by have:=nQ hu;have:=nQ hym;omega)).mono ?_;rintro r h' ⟨v3,rfl,rfl⟩;(try refine sq F ?_);refine wk F ?_;refine hK3 _ _ _ (H3 ⟨k+1,v3,addT l2 y,j2++[.row 98 4 0 [y.av]],rfl,by simp,?_,?_,by omega,hq,by omega⟩) (by omega);all_goals try exact zZz F
  ·rw[eJ c2]at hq hz2;simp only[szs,List.foldl_nil]at hq hz2;subst hq;refine wk F ?_;refine cq F (fun c3=>?_) (fun c3=>?_)<;>(try exact c3.elim)<;>(refine wk F ?_)
   ·rw[E8 c3]at hp;refine ye hQ F ?_;unfold rdH;exact bad _ _ _ hp.symm
   ·rw[E4 (by simp[c3])]at hp;refine cq F (fun c4=>?_) (fun c4=>?_)<;>(try exact c4.elim)<;>(refine wk F ?_)
    ·rw[E8 (by omega)]at hp;refine ye hQ F ?_;unfold rdH;exact bad _ _ _ hp.symm
    ·rw[E4 (by omega)]at hp;subst c3;refine hK2 _ _ _ (H3 ⟨g,v2,r1,tk.foldl addT l,j2,rfl,aB,?_,?_,by omega,hp,by omega,by omega⟩) (by omega);all_goals try exact zZz F
 ·rw[E8 (by simpa using c1)]at hp;refine ye hQ F ?_;rw[← hp];unfold rdH;exact T6 (FrzL.tup (.cons (Frz.toksD (by omega) (by simp[getRow,tksR];rfl) rfl) (.cons (.clo _ (.int _ _)) (.cons (.clo _ (.int _ _)) .nil)))) ⟨_,rfl,rfl⟩
variable {G}
end Go.Av
namespace Go.Av
open Go Go.Proofs Go.RowKit
attribute [local irreducible] WP WPl WPix Sat
variable {G:Nat→Option (List AVal)}
end Go.Av
namespace Go.Av
open Go.RowKit
section
variable {C:Ctx} {t:Env} {h:Heap}
def detGo(md:Region.Mode)(ops:Array Oper):Nat→Array Bool→Option (List Nat)
 |0,_=>some []
 |f+1,L=>match Region.ready md ops L with
  | [i]=>(detGo md ops f (L.setIfInBounds i true)).map (i:: ·)
  |_=>none
theorem lT{ops:Array Oper}{Q:Exit→Env→Heap→Prop}{md:Region.Mode}:∀(f:Nat) (L:Array Bool) (idx:List Nat) (sub:List Oper) (t:Env) (h:Heap),detGo md ops f L=some idx→idx.map (fun i=>ops[i]?)=sub.map some→
  WPl C ops Q sub t h→RestM C ops Q md f L t h:=by
 intro f;induction f with
 |zero=>
  intro L idx sub t h hd hs g n;simp only[detGo,G5]at hd;subst hd;have:sub=[]:=by simpa using hs.symm
  subst this;simp only[Region.linearise.go,List.reverse_nil,WPix];exact g
 |succ f ih=>
  intro L idx sub t h hd hs g n;simp only[detGo]at hd;split at hd
  ·rename_i i hr;obtain⟨idx',hd',rfl⟩:=I1.1 hd;cases sub with
   |nil=>simp at hs
   |cons o sub=>
    simp only[I4,Q6]at hs;have hi:(Region.ready md ops L)[n%(Region.ready md ops L).length]? =some i:=by
     rw[hr,List.length_singleton,Nat.mod_one];rfl
    rw[cA md ops f n L hi];simp only[WPix,hs.1];simp only[WPl]at g;exact d7 g fun t' h' g'=>ih _ idx' sub t' h' hd' hs.2 g' _
  ·cases hd
theorem lU{l:List Oper}{k n:Nat}(h:k+n≤l.length):(List.range' k n).map (fun i=>l.toArray[i]?)=((l.drop k).take n).map some:=by
 refine List.ext_getElem? fun i=>?_
 simp only[K8];by_cases hi:i<n
 ·rw[G7 hi,K5,List.getElem?_range' (by omega)];simp only[M6,P6];have:k+i<l.length:=by omega
  simp[E6 this]
 ·rw[M9 (by simp;omega),M9 (by simp;omega)];rfl
inductive OT where
 |nil
 |one (i:Nat) (s:OT)
 |two (i:Nat) (s:OT) (j:Nat) (u:OT)
def OT.ok(ops:Array Oper):Nat→Array Bool→OT→Bool
 |0,_,.nil=>true
 |f+1,L,.one i s=>Region.ready .any ops L==[i]&&OT.ok ops f (L.setIfInBounds i true) s
 |f+1,L,.two i s j u=>Region.ready .any ops L==[i,j]&&(OT.ok ops f (L.setIfInBounds i true) s&&OT.ok ops f (L.setIfInBounds j true) u)
 |_,_,_=>false
def WPt(C:Ctx)(ops:Array Oper)(Q:Exit→Env→Heap→Prop):OT→Env→Heap→Prop
 | .nil,t,h=>Q .normal t h
 | .one i s,t,h=>WPl C ops (fun _ t' h'=>WPt C ops Q s t' h') (ops[i]?).toList t h
 | .two i s j u,t,h=>WPl C ops (fun _ t' h'=>WPt C ops Q s t' h') (ops[i]?).toList t h∧WPl C ops (fun _ t' h'=>WPt C ops Q u t' h') (ops[j]?).toList t h
theorem OT.sound{ops:Array Oper}{Q:Exit→Env→Heap→Prop}:∀(f:Nat) (L:Array Bool) (tr:OT) (t:Env) (h:Heap),OT.ok ops f L tr=true→WPt C ops Q tr t h→RestM C ops Q .any f L t h:=by
 intro f;induction f with
 |zero=>
  intro L tr t h ho g n;cases tr with
  |nil=>simp only[Region.linearise.go,List.reverse_nil,WPix];exact g
  |_=>simp[OT.ok]at ho
 |succ f ih=>
  intro L tr t h ho g n;have step:∀(i:Nat) (s:OT),(Region.ready .any ops L)[n%(Region.ready .any ops L).length]? =some i→OT.ok ops f (L.setIfInBounds i true) s=true→WPl C ops (fun _ t' h'=>WPt C ops Q s t' h') (ops[i]?).toList t h→
    WPix C ops Q (Region.linearise.go .any ops (f+1) n L []) t h:=fun i s hi hs hg=>by
   rw[cA .any ops f n L hi];simp only[WPix];have hmem:=G1 hi;obtain⟨_,o,ho,_⟩:=mem_ready.1 hmem;simp only[ho,Option.toList]at hg ⊢;simp only[WPl]at hg;exact d7 hg fun t' h' g'=>ih _ s t' h' hs g' _
  cases tr with
  |nil=>simp[OT.ok]at ho
  |one i s=>
   simp only[OT.ok,E3,beq_iff_eq]at ho;exact step i s (by rw[ho.1,List.length_singleton,Nat.mod_one];rfl) ho.2 g
  |two i s j u=>
   simp only[OT.ok,E3,beq_iff_eq]at ho;have hn:n%2=0∨n%2=1:=(by omega);rcases hn with hn|hn
   ·exact step i s (by rw[ho.1];show [i,j][n%2]? =_;rw[hn];rfl) ho.2.1 g.1
   ·exact step j u (by rw[ho.1];show [i,j][n%2]? =_;rw[hn];rfl) ho.2.2 g.2
theorem fK{id:Nat}{l:List Oper}{Q:Exit→Env→Heap→Prop}(k:Nat)(tr:OT)(hok:(preOk l.toArray k&&decide (k≤l.length))=true)(hm:C.P.follows .mixedOrders=true)
  (hT:OT.ok l.toArray (l.length-k) (listK l.length k) tr=true)
  (hh:WPp C l.toArray (l.take k) t h fun t'=>WPt C l.toArray Q tr t' h):WP C (.region id l.toArray true) Q t h:=by
 simp only[E3,F1]at hok;have D:=dI hok.1;obtain⟨V,hv,hK⟩:=bS _ _ hh;have hlen:(l.take k).length=k:=by simp;omega
 rw[hlen]at hK;have rT:=OT.sound (ops:=l.toArray) (Q:=Q) _ _ tr _ h hT hK;have main:∀n,WPix C l.toArray Q (Region.linearise .any l.toArray n) t h:=fun n=>by
  unfold Region.linearise;refine cN D .any D.less (by simp;omega) (V:=V) (t0:=t) (fun _=>True) (fun i o hi _=>hv i o hi) (by simpa using rT) _ _ _ _ (by simp) ?_ (fun j oj hj hl=>?_) (fun j hj hl=>?_) (fun _ _ _=>trivial) (Ag.start _ _ _ _ fun j hj=>?_)
  ·unfold left;have:(List.range l.toArray.size).filter (fun i=> !(Array.replicate l.toArray.size false).getD i true)=List.range l.toArray.size:=by
    rw[O4];intro i hi;have:=L4.1 hi;simp at this ⊢;simp[this]
   rw[this,Q3]
  ·have h8:=(H7.1 hj).1;simp at h8 hl;simp[h8]at hl
  ·simp at hj hl;simp[hj]at hl
  ·have:j<l.length:=by omega
   simp[this]
 show ∀tp,WPix C l.toArray Q (Region.schedule (C.P.follows .mixedOrders) l.toArray tp) t h;intro tp;unfold Region.schedule;rw[hm];simp only[L2,if_true];exact main _
def agrL:List Nat→Env→Env→Prop
 | [],_,_=>True
 |d::ds,s,t=>s d=t d∧agrL ds s t
theorem iv:∀{ds:List Nat} {s t:Env},agrL ds s t→∀d∈ds,s d=t d
 | [],_,_,_,d,h=>by cases h
 |e::ds,s,t,g,d,h=>by
  rcases I2.1 h with rfl|h
  ·exact g.1
  ·exact iv g.2 d h
theorem jx{d:Nat}:∀{l:List Oper} {i:Nat} {o:Oper},l[i]? =some o→o.dst=some d→d∈wrOps l
 | [],i,o,h,_=>by simp at h
 |a::l,0,o,h,hd=>by simp at h;subst h;unfold wrOps;rw[hd];simp
 |a::l,i+1,o,h,hd=>by
  have:=jx (l:=l) (i:=i) (o:=o) (by simpa using h) hd;unfold wrOps;split<;>simp[this]
theorem cY{id:Nat}{l:List Oper}{Q:Exit→Env→Heap→Prop}(k u:Nat)(oe:Oper)(hoe:l[k]? =some oe)(hok:(preOk l.toArray (k+1)&&decide (u≤k))=true)(hm:C.P.follows .mixedOrders=true)
  (hu:((List.range k).all fun i=>decide (i<u)||((Region.before l.toArray).getD k 0).testBit i)=true)(hdst:((l.take u).all fun o=>o.dst.isSome)=true)
  (hA:detGo .any l.toArray (l.length-(k+1)) (listK l.length (k+1))=some (List.range' (k+1) (l.length-(k+1))))
  (hh:WPp C l.toArray (l.take k) t h fun t'=>wpOperV C l.toArray oe t' h fun v h'=>
   (WPp C l.toArray (l.take u) t h' fun t''=>agrL (wrOps (l.take u)) t'' t')∧WPl C l.toArray Q (l.drop (k+1)) (put t' oe.dst v) h'):WP C (.region id l.toArray true) Q t h:=by
 simp only[E3,F1]at hok;have D:=dI hok.1;have hkl:=(E0.1 hoe).1;obtain⟨V,hv,hK⟩:=bS _ _ hh;have hlen:(l.take k).length=k:=by simp;omega
 rw[hlen]at hK;have hTT:∀i,i≤k→Av.T V (l.take k) t i=Av.T V l t i:=fun i hi=>eT V V k (fun _ _=>rfl) _ _ _ _ hi (by rw[T4];congr 1;omega) (by rw[hlen];exact hi) (by omega)
 rw[hTT k (G3 _)]at hK;have main:∀n,WPix C l.toArray Q (Region.linearise .any l.toArray n) t h:=fun n=>by
  unfold Region.linearise;refine iR D .any D.less (by simp;omega) (V:=V) (t0:=t) (oe:=oe) (by simpa using hoe) (fun i o hi ho=>?_) ?_ _ _ _ _ (by simp) ?_ (fun j oj hj hl=>?_) (fun j hj hl=>?_) (Ag.start _ _ _ _ fun j hj=>?_)
  ·have:=hv i o (by rw[M2,E8 hi];simpa using ho);rw[hTT i (by omega)]at this;exact this
  ·refine bG hK fun v h' ⟨h1,h2⟩=>⟨fun i o hi ho hc=>?_,?_⟩
   ·have hiu:i<u:=by
     have:=G8.1 hu i (L4.2 hi);rw[hc]at this;simpa using this
    obtain⟨V2,hv2,hK2⟩:=bS _ _ h1;have hlu:(l.take u).length=u:=(by simp;omega);rw[hlu]at hK2;have hVV:∀j,j<u→V2 j=V j:=fun j hj=>by
     have hoj:l[j]? =some (l[j]'(by omega)):=E6 _;have hoj':(l.take u)[j]? =some (l[j]'(by omega)):=(by rw[M2,E8 hj];exact hoj);obtain⟨d,hdd⟩:=I3.1 (G8.1 hdst _ (G1 hoj'));have e:=iv hK2 d (jx hoj' hdd);have a1:=D.ag_T V2 t (by simp;omega) u (by omega);have a2:=D.ag_T V t (by simp;omega) k (by omega);have hoa:l.toArray[j]? =some (l[j]'(by omega)):=(by simp);have b1:=a1.1 j _ d (by omega) hoa (by simpa using hj) hdd;have b2:=a2.1 j _ d (by omega) hoa (by simp;omega) hdd;have c1:Av.T V2 (l.toArray.toList.take (k+1)) t u=Av.T V2 (l.take u) t u:=eT V2 V2 u (fun _ _=>rfl) _ _ _ _ (G3 _) (by simp[T4];try omega) (by simp;omega) (by omega);have c2:Av.T V (l.toArray.toList.take (k+1)) t k=Av.T V l t k:=eT V V k (fun _ _=>rfl) _ _ _ _ (G3 _) (by simp[T4]) (by simp;omega) (by omega);rw[c1]at b1;rw[c2]at b2;rw[← b1, ← b2,e]
    have:=hv2 i o (by rw[M2,E8 hiu];simpa using ho);rw[hVV i hiu]at this;have c3:Av.T V2 (l.take u) t i=Av.T V l t i:=eT V V2 u hVV _ _ _ _ (by omega) (by rw[T4];congr 1;omega) (by omega) (by omega);rw[c3]at this;exact this
   ·have:=lT (ops:=l.toArray) (Q:=Q) _ _ _ (l.drop (k+1)) _ h' hA (by rw[lU (by omega),H4 (by simp)]) h2;simpa using this
  ·unfold left;have:(List.range l.toArray.size).filter (fun i=> !(Array.replicate l.toArray.size false).getD i true)=List.range l.toArray.size:=by
    rw[O4];intro i hi;have:=L4.1 hi;simp at this ⊢;simp[this]
   rw[this,Q3]
  ·have h8:=(H7.1 hj).1;simp at h8 hl;simp[h8]at hl
  ·simp at hj hl;simp[hj]at hl
  ·have:j<l.length:=by omega
   simp[this]
 show ∀tp,WPix C l.toArray Q (Region.schedule (C.P.follows .mixedOrders) l.toArray tp) t h;intro tp;unfold Region.schedule;rw[hm];simp only[L2,if_true];exact main _
attribute [go_sem] agrL
theorem bK{ops:Array Oper}{Q:Exit→Env→Heap→Prop}(g:Q .normal t h):WPt C ops Q .nil t h:=g
theorem bL{ops:Array Oper}{Q:Exit→Env→Heap→Prop}{i:Nat}{s:OT}{o:Oper}(ho:ops[i]? =some o)(g:WPl C ops (fun _ t' h'=>WPt C ops Q s t' h') [o] t h):WPt C ops Q (.one i s) t h:=by
 simp only[WPt,ho];exact g
theorem bM{ops:Array Oper}{Q:Exit→Env→Heap→Prop}{i j:Nat}{s u:OT}{o p:Oper}(ho:ops[i]? =some o)(hp:ops[j]? =some p)(g:WPl C ops (fun _ t' h'=>WPt C ops Q s t' h') [o] t h)
  (g':WPl C ops (fun _ t' h'=>WPt C ops Q u t' h') [p] t h):WPt C ops Q (.two i s j u) t h:=by
 simp only[WPt,ho,hp];exact⟨g,g'⟩
end
end Go.Av
namespace Go.Av
open Go Go.RowKit
theorem aO{H:Heap}{p q:Nat}(b:Blk)(v:Nat)(hne:p≠q):getRow (H.set p b) q v=getRow H q v:=by
 unfold getRow;rw[J0 hne]
theorem bE{H:Heap}{p:Nat}(e n u v:Nat)(rows:List AVal)(hp:p<H.length):getRow (H.set p (.row e n u rows)) p v=if v=u then some (e,n,rows)else none:=by
 unfold getRow;rw[L0 hp]
theorem bp{A l:Heap}{p:Nat}(v:Nat)(hp:p<A.length):getRow (A++l) p v=getRow A p v:=by
 unfold getRow;rw[G0 hp]
theorem j3{A l:Heap}{n k:Nat}(v:Nat)(hn:A.length=n):getRow (A++l) (n+k) v=getRow l k v:=by subst hn;exact fp A l k v
theorem ck{A l:Heap}{n:Nat}(v:Nat)(hn:A.length=n):getRow (A++l) n v=getRow l 0 v:=by subst hn;exact d6 A l v
theorem qR{A l:Heap}{p:Nat}(b:Blk)(hp:p<A.length):(A++l).set p b=A.set p b++l:=List.set_append_left p b hp
theorem ww{A l:Heap}{n k:Nat}(b:Blk)(hn:A.length=n):(A++l).set (n+k) b=A++l.set k b:=by subst hn;exact jo A l k b
theorem dQ{A l:Heap}{n:Nat}(b:Blk)(hn:A.length=n):(A++l).set n b=A++l.set 0 b:=by subst hn;exact lc A l b
theorem ak:(∀{H:Heap} {p q:Nat} (b:Blk) (v:Nat) (_:p≠q),getRow (H.set p b) q v=getRow H q v)∧
  (∀{H:Heap} {p:Nat} (e n u v:Nat) (rows:List AVal) (_:p<H.length),getRow (H.set p (.row e n u rows)) p v=if v=u then some (e,n,rows)else none)∧
  (∀{A l:Heap} {p:Nat} (v:Nat) (_:p<A.length),getRow (A++l) p v=getRow A p v)∧
  (∀{A l:Heap} {n k:Nat} (v:Nat) (_:A.length=n),getRow (A++l) (n+k) v=getRow l k v)∧
  (∀{A l:Heap} {n:Nat} (v:Nat) (_:A.length=n),getRow (A++l) n v=getRow l 0 v)∧
  (∀{A l:Heap} {p:Nat} (b:Blk) (_:p<A.length),(A++l).set p b=A.set p b++l)∧
  (∀{A l:Heap} {n k:Nat} (b:Blk) (_:A.length=n),(A++l).set (n+k) b=A++l.set k b)∧
  (∀{A l:Heap} {n:Nat} (b:Blk) (_:A.length=n),(A++l).set n b=A++l.set 0 b)∧
  (∀(H:Heap) (i:Nat) (b:Blk),(H.set i b).length=H.length)∧(∀(H:Heap) (i:Nat) (a b:Blk),(H.set i a).set i b=H.set i b):=
 ⟨aO,bE,bp,j3,ck,qR,ww,dQ,fun _ _ _=>List.length_set ..,fun _ _ _ _=>Q9 ..⟩
theorem al{H:Heap}{p v:Nat}{x:TypeId×Nat×List AVal}(h:getRow H p v=some x):p<H.length:=by
 obtain⟨e,n,r⟩:=x;exact(E0.1 (bv h)).1
attribute [go_sem] List.length_set
def FrN(n0:Nat)(H H':Heap):Prop:=∀p,p<n0→H'[p]? =H[p]?
theorem FrN.refl(n0:Nat)(H:Heap):FrN n0 H H:=fun _ _=>rfl
theorem FrN.set{n0:Nat}{H H':Heap}{q:Nat}(b:Blk)(hq:n0≤q)(g:FrN n0 H H'):FrN n0 H (H'.set q b):=fun p hp=>by rw[J0 (by omega)];exact g p hp
theorem FrN.app{n0:Nat}{H H':Heap}(l:Heap)(hn:n0≤H'.length)(g:FrN n0 H H'):FrN n0 H (H'++l):=fun p hp=>by rw[G0 (by omega)];exact g p hp
theorem FrN.trans{n0:Nat}{H H' H'':Heap}(g:FrN n0 H H')(k:FrN n0 H' H''):FrN n0 H H'':=fun p hp=>(k p hp).trans (g p hp)
theorem Fin.whole{h0 h1:Heap}{R:AVal→Heap→Prop}{r:AVal}(hl:h0.length≤h1.length)(hc:Clo h1.length r)(hR:R r h1):Fin h0 h1 R r:=
 ⟨h1.length,r,hl,.clo _ hc,.inl (G3 _),by rw[List.take_length];exact hR⟩
section
variable {C:Ctx}
theorem Sat.postw{f:FuncId}{args:List AVal}{h:Heap}{R R':AVal→Heap→Prop}(s:Sat C f args h R)(k:∀r h',R r h'→∃h'',(∀t,Weak C [] t h' t h'')∧R' r h''):Sat C f args h R':=by
 unfold Sat at*;intro B S μ w vs f0 rl;refine(s B S μ w vs f0 rl).mono fun v w' ⟨r,h',S',μ',hR,st,f1,hr⟩=>?_
 obtain⟨h'',hw,hR'⟩:=k r h' hR;obtain⟨S2,μ2,st2,f2,_⟩:=(hw fun _=>undefA).2 B 0 S' μ' w' {tmps:= #[],defers:=[]} f1 ⟨rfl,rfl,fun i hi=>by omega⟩;exact⟨r,h'',S2,μ2,hR',st.trans st2,f2,hr.mono st2⟩
theorem n8{ops:Array Oper}{x y:Operand}{T T':TypeId}{ty:TypeId}{pos:String}{aft:Array Edge}{dst:Option Tmp}{t:Env}{h:Heap}{K:AVal→Heap→Prop}:
  wpOperV C ops ⟨dst,.call ⟨.builtin .append, #[x,y], #[T,T']⟩,ty,pos,aft,none⟩ t h K=appK C T T' (aev C.G t x) (aev C.G t y) h K:=rfl
theorem tz{T T' e n by' p ver len:Nat}{y:AVal}{rows ys:List AVal}{h:Heap}{k:AVal→Heap→Prop}(hT:T'=T∨strT C.P T'=true)(he:elmT C.P T=some e)(hn:szOf C.P e=some n)(hb:byT C.P e=some by')
  (hz:(zroT C.P e).map (fun z=>z.cells.length)=some n)(h0:0<n)(hy:elemsOf h n y=some ys)(hrow:getRow h p ver=some (e,n,rows))(hl:len≤rows.length)(hys:0<ys.length)
  (hr:len+ys.length≤maxLen∧(len+ys.length)*by'≤140737488355328)
  (hk:k (.hs h.length 0 0 (len+ys.length) true) (h++[.row e n 0 (rows.take len++ys)])):appK C T T' (.hs p ver 0 len false) y h k:=by
 refine⟨hT,?_⟩;simp only[wpAppend,he,hn,hb,hy,hrow,aV];exact⟨h0,hz,trivial,trivial,trivial,hr,by rw[E4 (by simp)];exact⟨hys,hl,hk⟩⟩
theorem j4{P:Program}{h:Heap}{T e p v off len n m r:Nat}{room:Bool}{rows:List AVal}{k k':IntKind}(he:elmT P T=some e)(hg:getRow h p v=some (m,n,rows))(hn:szOf P e=some n)(hr:r≤len):
  aslice P h T (.hs p v off len room) none (some (.int k (r:Int))) (some (.int k' (r:Int)))=some (.hs p v off r false):=by
 simp only[aslice,he,hg,hn,if_true,optInt];rw[E8 ⟨Int.le_refl _,by omega,by omega,.inl trivial⟩];simp
end
end Go.Av
namespace Go.Av
open Go Go.Proofs Go.RowKit
attribute [local irreducible] WP WPl WPix Sat
variable (G:Nat→Option (List AVal))
structure OE where
 n:Bs
 a:List At
 t:Bs
 k:List Elem
 q:Nat
 v:Nat
def OE.av(o:OE):AVal:=.agg [.str o.n,.sl 2 (o.a.map At.av),.str o.t,.hs o.q o.v 0 o.k.length true]
def OE.el(o:OE):Elem:=⟨o.n,o.a,o.t,o.k⟩
@[go_sem] theorem OE.av_cells(o:OE):AVal.cells (OE.av o)=[.str o.n,.sl 2 (o.a.map At.av),.str o.t,.hs o.q o.v 0 o.k.length true]:=(rfl)
@[go_sem] theorem OE.av_fold(o:OE):AVal.agg [.str o.n,.sl 2 (o.a.map At.av),.str o.t,.hs o.q o.v 0 o.k.length true]=OE.av o:=(rfl)
@[go_sem] theorem OE.av_lies(o:OE):AVal.lies (OE.av o)=true:=(rfl)
@[go_sem] theorem OE.of(o:OE)(cs:List AVal):ofCells (OE.av o) cs=.agg cs:=(rfl)
structure BH (H:Heap) (n0 pb po vo:Nat) (room:Bool) (os:List OE) (pd vd:Nat) (ds:List Elem):Prop where
 b:getRow H pb 0=some (102,2,[.agg [.hs po vo 0 os.length room,.hs pd vd 0 ds.length true]])
 o:getRow H po vo=some (35,4,os.map OE.av)
 d:getRow H pd vd=some (35,4,ds.map Elem.av)
 k:∀(i:Nat) (o:OE),os[i]? =some o→getRow H o.q o.v=some (35,4,o.k.map Elem.av)
 od:po≠pd
 ko:∀(i:Nat) (o:OE),os[i]? =some o→o.q≠po∧o.q≠pd∧n0≤o.q
 kk:∀(i j:Nat) (o o':OE),os[i]? =some o→os[j]? =some o'→i≠j→o.q≠o'.q
 n:n0≤pb∧n0≤po∧n0≤pd
theorem ce{H:Heap}{p q v u e e' n n':Nat}{rs rs':List AVal}(h1:getRow H p v=some (e,n,rs))(h2:getRow H q u=some (e',n',rs'))(hn:n≠n'):p≠q:=by
 rintro rfl;have a:=bv h1;have b:=bv h2
 rw[a]at b;simp at b;exact hn b.2.1
variable {H:Heap} {n0 pb po vo pd vd:Nat} {room:Bool} {os:List OE} {ds:List Elem}
theorem BH.bo(g:BH H n0 pb po vo room os pd vd ds):pb≠po:=ce g.b g.o (by decide)
theorem BH.bd(g:BH H n0 pb po vo room os pd vd ds):pb≠pd:=ce g.b g.d (by decide)
theorem BH.bk(g:BH H n0 pb po vo room os pd vd ds)(i:Nat)(o:OE)(h:os[i]? =some o):pb≠o.q:=ce g.b (g.k i o h) (by decide)
def stepB(os ds:List Elem)(t:Tok):Option (List Elem×List Elem):=
 if t.1=1 then(if os.length+1≤32∧ds=[]then some (os++[⟨t.2.1,t.2.2.1,[],[]⟩],ds)else none)
 else if t.1=2 then
  match os.getLast? with
  |none=>none
  |some e=>if e.name=t.2.1 then
    match os.dropLast.getLast? with
    |none=>some ([],ds++[e])
    |some p=>some (os.dropLast.dropLast++[⟨p.name,p.attrs,p.text,p.kids++[e]⟩],ds)
   else none
 else if t.1=3 then
  match os.getLast? with
  |none=>if t.2.2.2.all blankB=true then some ([],ds)else none
  |some e=>some (os.dropLast++[⟨e.name,e.attrs,e.text++t.2.2.2,e.kids⟩],ds)
 else none
def BPost(n0 pb:Nat)(H:Heap)(os ds:List Elem)(x:Option (List Elem×List Elem))(r:AVal)(H':Heap):Prop:=
 (FrN n0 H H'∧H.length≤H'.length)∧match x with
 |none=>r=.bool false
 |some y=>r=.bool true∧∃po vo room os' pd vd,BH H' n0 pb po vo room os' pd vd y.2∧os'.map OE.el=y.1
end Go.Av
namespace Go.Av
open Go.RowKit
section
variable {C:Ctx} {t:Env} {h:Heap}
def nopO:Oper:= {dst:=none,op:=.move (.const (.bool false)),type:=0,pos:= "",after:= #[],guard:=none}
end
end Go.Av
