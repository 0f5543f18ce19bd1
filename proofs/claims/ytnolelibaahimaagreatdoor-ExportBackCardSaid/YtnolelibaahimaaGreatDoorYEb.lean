/- Parts. -/
import Derived.Test.YtnolelibaahimaaGreatDoorYSb
set_option linter.unusedSimpArgs false
set_option linter.unusedVariables false
set_option linter.unusedSectionVars false
set_option linter.unnecessarySimpa false
set_option maxRecDepth 100000
set_option maxHeartbeats 16000000
namespace Go.Av
open Go Go.Proofs Go.RowKit
section
attribute [local irreducible] WP WPl WPix Sat
variable (G:Nat→Option (List AVal))
def PS.upFo(s:PS)(k:Int)(f:Fo):PS:= {s with fo:=upM s.fo s.c1 k f,c1:=ckM s.fo s.c1 k}
def PS.upFe(s:PS)(k:Int)(f:Fe):PS:= {s with fe:=upM s.fe s.c2 k f,c2:=ckM s.fe s.c2 k}
def PS.upIt(s:PS)(k:Int)(f:It):PS:= {s with it:=upM s.it s.c3 k f,c3:=ckM s.it s.c3 k}
def PS.upSe(s:PS)(k:Int)(f:Se):PS:= {s with se:=upM s.se s.c4 k f,c4:=ckM s.se s.c4 k}
def PS.upNm(s:PS)(k:Int×Bs)(f:Int):PS:= {s with nm:=upM s.nm s.c5 k f,c5:=ckM s.nm s.c5 k}
def PS.upPl(s:PS)(k:Bs)(f:Int):PS:= {s with pl:=upM s.pl s.c6 k f,c6:=ckM s.pl s.c6 k}
def PS.upGu(s:PS)(k:Int×Bs)(f:Int):PS:= {s with gu:=upM s.gu s.c7 k f,c7:=ckM s.gu s.c7 k}
def PS.few(s:PS):Prop:=∀id, -100000≤(lkM s.he id).getD 0∧(lkM s.he id).getD 0≤100000
theorem PS.few1{s:PS}(h:s.few)(id:Int): -1000000≤(lkM s.he id).getD 0∧(lkM s.he id).getD 0≤1000000:=by have:=h id;omega
def PS.make(s:PS)(e:Ev):PS:=
 if e.kind=1 then(((s.upFo e.a ⟨e.a,e.b,e.s⟩).upNm (e.b,e.s) e.a).hold e.b 1).raise 0 e.a
 else if e.kind=3 then(((s.upFe e.a ⟨e.a,e.b,e.s,e.t⟩).upPl e.s e.a).hold e.b 1).raise 1 e.a
 else if e.kind=7 then((s.upIt e.a ⟨e.a,e.b,e.n,e.s,e.t,e.u,false,false,[]⟩).upGu (e.b,e.s) e.a).raise 2 e.a
 else if e.kind=11 then(s.upSe e.a ⟨e.a,e.s,e.t⟩).raise 3 e.a
 else s
theorem tA(s:PS)(e:Ev)(hf:s.few){H:Heap}{n:Nat}(hn:n+9≤H.length):Sat (CT G) 42 [.hp (n+8) 0 0 0,e.av] (so H n s) (fun r h'=>r=.tup []∧h'=so H n (s.make e)):=by
 refine sb [] Tryz.func42 ?_;intro Q hQ;refine wk trivial ?_;by_cases k1:e.kind=1
 ·have F:=k1;try refine sq F ?_
  refine wk F ?_;refine kq F (cT G _ e.b 1 (PS.few1 (s:=((s.upFo e.a ⟨e.a,e.b,e.s⟩).upNm (e.b,e.s) e.a)) hf e.b) (by omega) (by first|omega| (simp;omega))) ?_;refine kq F (eb G _ 0 e.a (by omega) (by first|omega| (simp;omega))) ?_;refine ee hQ F ?_;exact ar hn (.tup _ (by simp)) ⟨rfl,by rw[PS.make,M7 k1]⟩
 by_cases k3:e.kind=3
 ·have F:=k3;try refine sq F ?_
  refine wk F ?_;refine kq F (cT G _ e.b 1 (PS.few1 (s:=((s.upFe e.a ⟨e.a,e.b,e.s,e.t⟩).upPl e.s e.a)) hf e.b) (by omega) (by first|omega| (simp;omega))) ?_;refine kq F (eb G _ 1 e.a (by omega) (by first|omega| (simp;omega))) ?_;refine ee hQ F ?_;exact ar hn (.tup _ (by simp)) ⟨rfl,by rw[PS.make,M1 k1,M7 k3]⟩
 by_cases k7:e.kind=7
 ·have F:=k7;try refine sq F ?_
  refine wk F ?_;refine kq F (eb G _ 2 e.a (by omega) (by first|omega| (simp;omega))) ?_;refine ee hQ F ?_;exact ar hn (.tup _ (by simp)) ⟨rfl,by rw[PS.make,M1 k1,M1 k3,M7 k7];rfl⟩
 by_cases k11:e.kind=11
 ·have F:=k11;try refine sq F ?_
  refine wk F ?_;refine kq F (eb G _ 3 e.a (by omega) (by first|omega| (simp;omega))) ?_;refine ee hQ F ?_;exact ar hn (.tup _ (by simp)) ⟨rfl,by rw[PS.make,M1 k1,M1 k3,M1 k7,M7 k11];rfl⟩
 have n1:(e.kind==1)=false:=by simp[k1]
 have n3:(e.kind==3)=false:=by simp[k3]
 have n7:(e.kind==7)=false:=by simp[k7]
 have n11:(e.kind==11)=false:=by simp[k11]
 have F:=F4 n1 n3 n7 n11;try refine sq F ?_
 refine wk F ?_;refine ee hQ F ?_;exact ar hn (.tup _ (by simp)) ⟨rfl,by rw[PS.make,M1 k1,M1 k3,M1 k7,M1 k11]⟩
end
section
attribute [local irreducible] WP WPl WPix Sat
section
variable {κ α:Type} [DecidableEq κ]
theorem lg{l:ML κ α}(hn:(l.map (·.1)).Nodup)(x:κ):dlM l x=l.filter fun e=> !decide (e.1=x):=by
 induction l with
 |nil=>rfl
 |cons e l ih=>
  rw[O3,U6]at hn;rw[dlM];by_cases h:x=e.1
  ·subst h;rw[M7 rfl,List.filter_cons_of_neg (by simp),V5.2];intro d hd;have:d.1≠e.1:=fun q=>hn.1 (N5.2 ⟨d,hd,q⟩)
   simp[this]
  ·rw[M1 h,List.filter_cons_of_pos (by simp;exact fun q=>h q.symm),ih hn.2]
omit [DecidableEq κ] in
theorem WFM.filter{l:ML κ α}{c:Nat}(w:WFM l c)(p:κ×α×Nat→Bool):WFM (l.filter p) c:=
 ⟨(List.filter_sublist.map _).nodup w.keys,(List.filter_sublist.map _).nodup w.borns,fun e he=>w.lt e (T4.1 he).1⟩
omit [DecidableEq κ] in
theorem WFM.born_inj{l:ML κ α}{c:Nat}(w:WFM l c){d e:κ×α×Nat}(hd:d∈l)(he:e∈l)(h:d.2.2=e.2.2):d=e:=by
 have hb:=w.borns;clear w;induction l with
 |nil=>cases hd
 |cons a l ih=>
  rw[O3,U6]at hb;rcases O5.1 hd with rfl|hd2
  ·rcases O5.1 he with rfl|he2
   ·rfl
   ·exact(hb.1 (N5.2 ⟨e,he2,h.symm⟩)).elim
  ·rcases O5.1 he with rfl|he2
   ·exact(hb.1 (N5.2 ⟨d,hd2,h⟩)).elim
   ·exact ih hd2 he2 hb.2
omit [DecidableEq κ] in
theorem WFM.key_inj{l:ML κ α}{c:Nat}(w:WFM l c){d e:κ×α×Nat}(hd:d∈l)(he:e∈l)(h:d.1=e.1):d=e:=by
 have hb:=w.keys;clear w;induction l with
 |nil=>cases hd
 |cons a l ih=>
  rw[O3,U6]at hb;rcases O5.1 hd with rfl|hd2
  ·rcases O5.1 he with rfl|he2
   ·rfl
   ·exact(hb.1 (N5.2 ⟨e,he2,h.symm⟩)).elim
  ·rcases O5.1 he with rfl|he2
   ·exact(hb.1 (N5.2 ⟨d,hd2,h⟩)).elim
   ·exact ih hd2 he2 hb.2
end
def itS(l:ML Int It)(fid:Int)(seen:List Nat):ML Int It:=l.filter fun e=> !(decide (e.2.1.feed=fid)&&decide (e.2.2∈seen))
def guS(l:ML Int It)(g:ML (Int×Bs) Int)(fid:Int)(seen:List Nat):ML (Int×Bs) Int:=g.filter fun e=> !(l.any fun d=>decide (d.2.1.feed=fid)&&decide (d.2.2∈seen)&&decide (e.1=(d.2.1.feed,d.2.1.guid)))
theorem vg{l:ML Int It}{c:Nat}(w:WFM l c){fid:Int}{seen:List Nat}{e:Int×It×Nat}(he:e∈l)(hf:e.2.1.feed=fid):dlM (itS l fid seen) e.1=itS l fid (seen++[e.2.2]):=by
 unfold itS;rw[lg (w.filter _).keys];rw[List.filter_filter];refine X4 fun d hd=>?_
 by_cases h:d=e
 ·subst h;simp[hf]
 ·have h1:d.1≠e.1:=fun q=>h (w.key_inj hd he q)
  have h2:d.2.2≠e.2.2:=fun q=>h (w.born_inj hd he q)
  simp[h1,h2]
theorem Bp{l:ML Int It}{c c':Nat}{g:ML (Int×Bs) Int}(w:WFM l c)(wg:WFM g c'){fid:Int}{seen:List Nat}{e:Int×It×Nat}(he:e∈l)(hf:e.2.1.feed=fid):dlM (guS l g fid seen) (e.2.1.feed,e.2.1.guid)=guS l g fid (seen++[e.2.2]):=by
 unfold guS;rw[lg (wg.filter _).keys];rw[List.filter_filter];refine X4 fun d hd=>?_
 rw[T5];simp only[M2,P8,decide_eq_false_iff_not,za6,M2,M8,not_and,Q6,Q7];constructor
 ·rintro⟨h1,h2⟩ x hx ⟨h3,h4⟩ h5;rcases h4 with h4|h4
  ·exact h2 x hx ⟨h3,h4⟩ h5
  ·rw[w.born_inj hx he h4]at h5;exact h1 h5
 ·intro h;exact⟨fun h1=>h e he ⟨hf,.inr rfl⟩ h1,fun x hx h3 h5=>h x hx ⟨h3.1,.inl h3.2⟩ h5⟩
theorem pc{l:ML Int It}{c:Nat}(w:WFM l c){fid:Int}{seen:List Nat}{e:Int×It×Nat}(he:e∈l)(hf:e.2.1.feed≠fid):itS l fid (seen++[e.2.2])=itS l fid seen:=by
 unfold itS;refine X4 fun d hd=>?_
 by_cases h:d=e
 ·subst h;simp[hf]
 ·have h2:d.2.2≠e.2.2:=fun q=>h (w.born_inj hd he q)
  simp[h2]
theorem xL{l:ML Int It}{c:Nat}{g:ML (Int×Bs) Int}(w:WFM l c){fid:Int}{seen:List Nat}{e:Int×It×Nat}(he:e∈l)(hf:e.2.1.feed≠fid):guS l g fid (seen++[e.2.2])=guS l g fid seen:=by
 unfold guS;refine X4 fun d hd=>?_
 rw[T5];simp only[P8,za6,M2,M8,not_and,Q6,Q7];constructor
 ·intro h x hx h3 h5;exact h x hx ⟨h3.1,.inl h3.2⟩ h5
 ·rintro h x hx ⟨h3,h4⟩ h5;rcases h4 with h4|h4
  ·exact h x hx ⟨h3,h4⟩ h5
  ·rw[w.born_inj hx he h4]at h3;exact hf h3
theorem zM{l:ML Int It}{fid:Int}{seen:List Nat}(h:∀e∈itS l fid seen,e.2.2∈seen):∀e∈l,e.2.1.feed=fid→e.2.2∈seen:=by
 intro e he hf
 apply S3
 intro hs;exact hs (h e (T4.2 ⟨he,by simp[hs]⟩))
theorem zN(l:ML Int It)(fid:Int):itS l fid []=l:=by unfold itS;simp
theorem zO(l:ML Int It)(g:ML (Int×Bs) Int)(fid:Int):guS l g fid []=g:=by unfold guS;simp
def itF(l:ML Int It)(fid:Int):ML Int It:=l.filter fun e=> !decide (e.2.1.feed=fid)
def guF(l:ML Int It)(g:ML (Int×Bs) Int)(fid:Int):ML (Int×Bs) Int:=g.filter fun e=> !(l.any fun d=>decide (d.2.1.feed=fid)&&decide (e.1=(d.2.1.feed,d.2.1.guid)))
theorem zP{l:ML Int It}{fid:Int}{seen:List Nat}(h:∀e∈l,e.2.1.feed=fid→e.2.2∈seen):itS l fid seen=itF l fid:=by
 unfold itS itF;refine X4 fun d hd=>?_
 by_cases hf:d.2.1.feed=fid
 ·simp[hf,h d hd hf]
 ·simp[hf]
theorem zQ{l:ML Int It}{g:ML (Int×Bs) Int}{fid:Int}{seen:List Nat}(h:∀e∈l,e.2.1.feed=fid→e.2.2∈seen):guS l g fid seen=guF l g fid:=by
 unfold guS guF;refine X4 fun d hd=>?_
 rw[T5];simp only[P8,za6,M2,M8,not_and];constructor
 ·intro h1 x hx h3;exact h1 x hx ⟨h3,h x hx h3⟩
 ·intro h1 x hx h3;exact h1 x hx h3.1
variable (G:Nat→Option (List AVal))
def PS.dlFe(s:PS)(k:Int):PS:= {s with fe:=dlM s.fe k}
def PS.dlPl(s:PS)(k:Bs):PS:= {s with pl:=dlM s.pl k}
def PS.unfeed(s:PS)(f:Fe):PS:=((({s with it:=itF s.it f.id,gu:=guF s.it s.gu f.id}:PS).dlPl f.url).dlFe f.id).hold f.inn (-1)
theorem pf(s:PS)(f:Fe)(hw:WFM s.it s.c3)(hg:WFM s.gu s.c7)(hf:s.few){H:Heap}{n:Nat}(hn:n+9≤H.length):Sat (CT G) 40 [.hp (n+8) 0 0 0,f.av] (so H n s) (fun r h'=>r=.tup []∧h'=so H n (s.unfeed f)):=by
 refine sb [] Tryz.func40 ?_;intro Q hQ;refine wk trivial ?_;refine lm (fun nL tL hL=>∃(hh:Heap) (seen:List Nat),leftM (itS s.it f.id seen) seen=nL∧so hh n {s with it:=itS s.it f.id seen,gu:=guS s.it s.gu f.id seen}=hL∧tL 0=.hp (n+8) 0 0 0∧tL 3=.hp H.length 0 0 0∧tL 10=.hp (H.length+1) 0 0 0∧(FrN H.length H hh∧H.length+1<hh.length)∧getRow hh H.length 0=some (48,4,[.agg [.int .i64 f.id,.int .i64 f.inn,.str f.url,.str f.title]])∧hh[H.length+1]? =some (.mit (n+2) s.c3 seen s.c3)) ((fun(hh:Heap) (seen:List Nat)=>(leftM (itS s.it f.id seen) seen:Nat)) (H++[.row 48 4 0 [.agg [.int .i64 f.id,.int .i64 f.inn,.str f.url,.str f.title]],.mit (n+2) s.c3 [] s.c3]) ([])) ?_ ?_
 ·refine N6 ⟨H++[.row 48 4 0 [.agg [.int .i64 f.id,.int .i64 f.inn,.str f.url,.str f.title]],.mit (n+2) s.c3 [] s.c3],[],rfl,by rw[zN,zO],?_,?_,?_,⟨zb7 _ (by omega) (zb6 _ _),by simp⟩,by rw[bH _ rfl];rfl,by simp⟩;all_goals try exact zZz trivial
 rintro _ s2 h' ⟨hh,seen,rfl,rfl,e0,e3,e10,hfr,hgr,hi⟩ K2 hK2;simp only[aj,am,Nat.reduceEqDiff, ↓reduceIte]at e0 e3 e10;have F:=F3 e0 e3 e10;refine wk F ?_;obtain⟨hfr,hfl⟩:=hfr;have hn1:n+9≤hh.length:=by omega
 refine wL (q:=n+2) (c:=s.c3) (seen:=seen) (l:=itS s.it f.id seen) (by rw[v8 hn1 (by omega)];exact hi) (th hn1) (hw.filter _).lt (fun e he hs=>?_) (fun hall=>?_)
 ·have F:=F3 F hgr @aZ;try refine sq F ?_
  refine wk F ?_;have hel:=(T4.1 he).1;refine wM (q:=n+2) (l:=itS s.it f.id seen) (by rw[v8 (by simpa using hn1) (by omega),Q3 hfl]) (th (by simpa using hn1)) (hw.filter _) he ?_;try refine sq F ?_
  refine wk F ?_;refine cq F (fun c1=>?_) (fun c1=>?_)<;>(try exact c1.elim)<;>(refine wk F ?_)
  ·have hlt:leftM (itS s.it f.id (seen++[e.2.2])) (seen++[e.2.2])<leftM (itS s.it f.id seen) seen:=(by rw[← vg hw hel c1];exact ow he hs (je _ _));refine hK2 _ _ _ (N6 ⟨hh.set (H.length+1) (.mit (n+2) s.c3 (seen++[e.2.2]) s.c3)++[.row 86 9 0 [e.2.1.av]],seen++[e.2.2],rfl,by rw[← vg hw hel c1, ← Bp hw hg hel c1];rfl,?_,?_,?_,⟨zb7 _ (by simp;omega) (zb8 _ (by omega) hfr),by simp;omega⟩,by rw[bq _ (by simp;omega),aJ _ _ (by omega)];exact hgr,by rw[M5 (by simp;omega),Q3 hfl]⟩) (by omega);all_goals try exact zZz F
  ·have hlt:leftM (itS s.it f.id (seen++[e.2.2])) (seen++[e.2.2])<leftM (itS s.it f.id seen) seen:=(by rw[pc hw hel c1];exact ow he hs (List.Sublist.refl _));refine hK2 _ _ _ (N6 ⟨hh.set (H.length+1) (.mit (n+2) s.c3 (seen++[e.2.2]) s.c3)++[.row 86 9 0 [e.2.1.av]],seen++[e.2.2],rfl,by rw[pc hw hel c1,xL hw hel c1];rfl,?_,?_,?_,⟨zb7 _ (by simp;omega) (zb8 _ (by omega) hfr),by simp;omega⟩,by rw[bq _ (by simp;omega),aJ _ _ (by omega)];exact hgr,by rw[M5 (by simp;omega),Q3 hfl]⟩) (by omega);all_goals try exact zZz F
 ·have hx:=zM hall;rw[zP hx,zQ hx];have F:=F2 F hgr;try refine sq F ?_
  refine wk F ?_;refine kq F (cT G _ f.inn (-1) (PS.few1 (s:=(({s with it:=itF s.it f.id,gu:=guF s.it s.gu f.id}:PS).dlPl f.url).dlFe f.id) hf f.inn) (by omega) hn1) ?_;obtain⟨j,hj⟩:=hfr.behind (by omega);subst hj;refine ee hQ F ?_;exact ar hn (.tup _ (by simp)) ⟨rfl,rfl⟩
end
section
attribute [local irreducible] WP WPl WPix Sat
variable (G:Nat→Option (List AVal))
def PS.dlNm(s:PS)(k:Int×Bs):PS:= {s with nm:=dlM s.nm k}
def PS.dlFo(s:PS)(k:Int):PS:= {s with fo:=dlM s.fo k}
def PS.dlSe(s:PS)(k:Int):PS:= {s with se:=dlM s.se k}
def PS.after(s:PS)(tg:List Bs)(e:Ev):PS:=
 if e.kind=2 then(((s.dlNm (((lkM s.fo e.a).getD Fo.z).inn,((lkM s.fo e.a).getD Fo.z).name)).dlFo e.a).hold ((lkM s.fo e.a).getD Fo.z).inn (-1))
 else if e.kind=4 then s.unfeed ((lkM s.fe e.a).getD Fe.z)
 else if e.kind=5 then s.upFe e.a {(lkM s.fe e.a).getD Fe.z with title:=e.t}
 else if e.kind=6 then((s.hold ((lkM s.fe e.a).getD Fe.z).inn (-1)).hold e.b 1).upFe e.a {(lkM s.fe e.a).getD Fe.z with inn:=e.b}
 else if e.kind=8 then s.upIt e.a {(lkM s.it e.a).getD It.z with read:=e.n==1}
 else if e.kind=9 then s.upIt e.a {(lkM s.it e.a).getD It.z with star:=e.n==1}
 else if e.kind=10 then s.upIt e.a {(lkM s.it e.a).getD It.z with tags:=tg}
 else if e.kind=12 then s.dlSe e.a
 else if e.kind=13 then {s with clock:=e.n}
 else s.make e
theorem qw(s:PS)(e:Ev)(b:Bool)(tg:List Bs)(hw:WFM s.it s.c3)(hg:WFM s.gu s.c7)(hf:s.few)(hf2:(s.hold ((lkM s.fe e.a).getD Fe.z).inn (-1)).few)
  (hF:∀(n:Nat) (H:Heap),n+9≤H.length→Sat (CT G) 38 [.hp (n+8) 0 0 0,e.av] (so H n s) (fun r h'=>r=.bool b∧h'=so H n s))
  (hT:∀(n:Nat) (H:Heap),n+9≤H.length→Sat (CT G) 41 [.hp (n+8) 0 0 0,e.av] (so H n s) (fun r h'=>r=.sl 1 (tg.map .str)∧h'=so H n s))
  {H:Heap}{n:Nat}(hn:n+9≤H.length):Sat (CT G) 13 [.hp (n+8) 0 0 0,e.av] (so H n s) (fun r h'=>r=.bool b∧h'=so H n (if b then s.after tg e else s)):=by
 cases b with
 |false=>
  refine sb [.tmp 4] Tryz.func13 ?_;intro Q hQ;refine wk trivial ?_;refine kq trivial (hF n _ (by first|omega| (simp;omega))) ?_;refine ee hQ trivial ?_;exact ar hn (.bool _) ⟨rfl,rfl⟩
 |true=>
  refine sb [.tmp 4] Tryz.func13 ?_;intro Q hQ;refine wk trivial ?_;refine kq trivial (hF n _ (by first|omega| (simp;omega))) ?_;refine bj 17 [14,15,16] [true,true,true,true,true,true,true,true,true,true,true,true,true,true,false,false,false] (.two 14 [false,true,true,true,true,true,true,false,true,true,true,true,true,true] (.one 15 [false,true,true,true,true,true,true,false,true,true,true,true,true,true] (.one 16 [false,false,false,false,false,false,false,false,true,true,true,true,true,true] .fin)) 15 [false,true,true,true,true,true,true,false,true,true,true,true,true,true] (.one 14 [false,true,true,true,true,true,true,false,true,true,true,true,true,true] (.one 16 [false,false,false,false,false,false,false,false,true,true,true,true,true,true] .fin))) (by decide+kernel) (by kernel_rfl) (by decide+kernel) ?_;simp only[bA,bB,bg];try refine sq trivial ?_
  repeat' ((first|refine aN ?_|refine aO ?_|refine aV ?_ ?_)<;>try refine sq trivial ?_)
  all_goals try refine wk trivial ?_
  all_goals (
   by_cases k2:e.kind=2
   ·have F:=k2;(try refine sq F ?_);refine wk F ?_;refine bj 8 [7] [true,true,true,true,true,true,true,false] (.one 7 [false,true,true,true,true,true,true] .fin) (by decide+kernel) (by kernel_rfl) (by decide+kernel) ?_;simp only[bA,bB,bg];(try refine sq F ?_);repeat' ((first|refine aN ?_|refine aO ?_|refine aV ?_ ?_)<;>try refine sq F ?_)
    (all_goals try refine wk F ?_);refine kq F (cT G _ _ (-1) (PS.few1 (s:=((s.dlNm (((lkM s.fo e.a).getD Fo.z).inn,((lkM s.fo e.a).getD Fo.z).name)).dlFo e.a)) hf _) (by omega) (by first|omega| (simp;omega))) ?_;refine ee hQ F ?_;exact ar hn (.bool _) ⟨rfl,by rw[PS.after,M7 k2];try rfl⟩
   by_cases k4:e.kind=4
   ·have F:=k4;(try refine sq F ?_);refine wk F ?_;refine kq F (pf G s ((lkM s.fe e.a).getD Fe.z) hw hg hf (by first|omega| (simp;omega))) ?_;refine ee hQ F ?_;exact ar hn (.bool _) ⟨rfl,by rw[PS.after,M1 (by omega),M7 k4];try rfl⟩
   by_cases k5:e.kind=5
   ·have F:=k5;(try refine sq F ?_);refine wk F ?_;refine ee hQ F ?_;exact ar hn (.bool _) ⟨rfl,by rw[PS.after,M1 (by omega),M1 (by omega),M7 k5];try rfl⟩
   by_cases k6:e.kind=6
   ·have F:=k6;(try refine sq F ?_);refine wk F ?_;refine kq F (cT G s _ (-1) (PS.few1 hf _) (by omega) (by first|omega| (simp;omega))) ?_;refine kq F (cT G _ e.b 1 (PS.few1 hf2 _) (by omega) (by first|omega| (simp;omega))) ?_;refine ee hQ F ?_;exact ar hn (.bool _) ⟨rfl,by rw[PS.after,M1 (by omega),M1 (by omega),M1 (by omega),M7 k6];try rfl⟩
   by_cases k8:e.kind=8
   ·have F:=k8;(try refine sq F ?_);refine wk F ?_;refine ee hQ F ?_;exact ar hn (.bool _) ⟨rfl,by rw[PS.after,M1 (by omega),M1 (by omega),M1 (by omega),M1 (by omega),M7 k8];try rfl⟩
   by_cases k9:e.kind=9
   ·have F:=k9;(try refine sq F ?_);refine wk F ?_;refine ee hQ F ?_;exact ar hn (.bool _) ⟨rfl,by rw[PS.after,M1 (by omega),M1 (by omega),M1 (by omega),M1 (by omega),M1 (by omega),M7 k9];try rfl⟩
   by_cases k10:e.kind=10
   ·have F:=k10;(try refine sq F ?_);refine wk F ?_;have hT2:=hT;simp only[Ev.av_eq,k10]at hT2;refine kq F (hT2 n _ (by first|omega| (simp;omega))) ?_;refine ee hQ F ?_;exact ar hn (.bool _) ⟨rfl,by rw[PS.after,M1 (by omega),M1 (by omega),M1 (by omega),M1 (by omega),M1 (by omega),M1 (by omega),M7 k10];try rfl⟩
   by_cases k12:e.kind=12
   ·have F:=k12;(try refine sq F ?_);refine wk F ?_;refine ee hQ F ?_;exact ar hn (.bool _) ⟨rfl,by rw[PS.after,M1 (by omega),M1 (by omega),M1 (by omega),M1 (by omega),M1 (by omega),M1 (by omega),M1 (by omega),M7 k12];try rfl⟩
   by_cases k13:e.kind=13
   ·have F:=k13;(try refine sq F ?_);refine wk F ?_;refine ee hQ F ?_;exact ar hn (.bool _) ⟨rfl,by rw[PS.after,M1 (by omega),M1 (by omega),M1 (by omega),M1 (by omega),M1 (by omega),M1 (by omega),M1 (by omega),M1 (by omega),M7 k13];try rfl⟩
   have n2:(e.kind==2)=false:=(by simp[k2]);have n4:(e.kind==4)=false:=(by simp[k4]);have n5:(e.kind==5)=false:=(by simp[k5]);have n6:(e.kind==6)=false:=(by simp[k6]);have n8:(e.kind==8)=false:=(by simp[k8]);have n9:(e.kind==9)=false:=(by simp[k9]);have n10:(e.kind==10)=false:=(by simp[k10]);have n12:(e.kind==12)=false:=(by simp[k12]);have n13:(e.kind==13)=false:=(by simp[k13]);have F:=F9 n2 n4 n5 n6 n8 n9 n10 n12 n13;(try refine sq F ?_);refine wk F ?_;refine kq F (tA G s e hf (by first|omega| (simp;omega))) ?_;refine ee hQ F ?_;exact ar hn (.bool _) ⟨rfl,by rw[PS.after,M1 k2,M1 k4,M1 k5,M1 k6,M1 k8,M1 k9,M1 k10,M1 k12,M1 k13]⟩)
end
section
attribute [local irreducible] WP WPl WPix Sat
def idF(n:Int):Bool:=decide (1≤n)&&decide (n≤1048576)
structure Leaf where
 label:Bs→Bool
 title:Bs→Bool
 link:Bs→Bool
 tag:Bs→Bool
 query:Bs→Bool
 moment:Int→Bool
def Leaf.place(L:Leaf)(t:Bs):Bool:= !(t==[])&&L.link t
def Leaf.right(L:Leaf)(e:Ev):Bool:=
 if e.kind=1 then idF e.a&&((e.b==0||idF e.b)&&L.label e.s)
 else if e.kind=2∨e.kind=4∨e.kind=12 then idF e.a
 else if e.kind=3 then idF e.a&&((e.b==0||idF e.b)&&(L.place e.s&&L.title e.t))
 else if e.kind=5 then idF e.a&&L.title e.t
 else if e.kind=6 then idF e.a&&(e.b==0||idF e.b)
 else if e.kind=7 then idF e.a&&(idF e.b&&(L.moment e.n&&(L.place e.s&&(L.title e.t&&L.link e.u))))
 else if e.kind=8∨e.kind=9 then idF e.a&&(e.n==0||e.n==1)
 else if e.kind=10 then idF e.a&&((e.n==0||e.n==1)&&L.tag e.s)
 else if e.kind=11 then idF e.a&&(L.label e.s&&L.query e.t)
 else if e.kind=13 then L.moment e.n
 else false
def usedE(e:Ev):Ev:=
 if e.kind=1 then⟨e.kind,e.a,e.b,0,e.s,[],[]⟩
 else if e.kind=3 then⟨e.kind,e.a,e.b,0,e.s,e.t,[]⟩
 else if e.kind=5 then⟨e.kind,e.a,0,0,[],e.t,[]⟩
 else if e.kind=6 then⟨e.kind,e.a,e.b,0,[],[],[]⟩
 else if e.kind=7 then e
 else if e.kind=8∨e.kind=9 then⟨e.kind,e.a,0,e.n,[],[],[]⟩
 else if e.kind=10 then⟨e.kind,e.a,0,e.n,e.s,[],[]⟩
 else if e.kind=11 then⟨e.kind,e.a,0,0,e.s,e.t,[]⟩
 else if e.kind=13 then⟨e.kind,0,0,e.n,[],[],[]⟩
 else⟨e.kind,e.a,0,0,[],[],[]⟩
instance:DecidableEq Ev:=fun x y=>by
 cases x;cases y;simp only[Ev.mk.injEq];exact inferInstance
def Leaf.ck(L:Leaf)(e:Ev):Bool:=L.right e&&decide (usedE e=e)
@[go_sem] theorem Kd(h:Heap)(d e:Ev):abin Tryz.prog h .neq 34 (.agg [.int .i64 d.kind,.int .i64 d.a,.int .i64 d.b,.int .i64 d.n,.str d.s,.str d.t,.str d.u]) (.agg [.int .i64 e.kind,.int .i64 e.a,.int .i64 e.b,.int .i64 e.n,.str e.s,.str e.t,.str e.u])=some (.bool (!decide (d=e))):=by
 obtain⟨a1,a2,a3,a4,a5,a6,a7⟩:=d;obtain⟨b1,b2,b3,b4,b5,b6,b7⟩:=e;simp only[abin,go_sem,aeqL,aeq1, ↓reduceIte,T3,O4,AVal.bool.injEq,Ev.mk.injEq,Bool.not_inj_iff];rw[T5];simp
theorem Ev.clo(N:Nat)(e:Ev):Clo N e.av:=.agg _ fun x hx=>by
 simp only[O5,W9,or_false]at hx;rcases hx with rfl|rfl|rfl|rfl|rfl|rfl|rfl<;>first|exact .int _ _|exact .str _
theorem fC(N:Nat)(a b c d:Int)(s t u:Bs):Clo N (.agg [.int .i64 a,.int .i64 b,.int .i64 c,.int .i64 d,.str s,.str t,.str u]):=Ev.clo N ⟨a,b,c,d,s,t,u⟩
variable (G:Nat→Option (List AVal))
theorem ah(n:Int)(h:Heap):Sat (CT G) 153 [.int .i64 n] h (fun r h'=>r=.bool (idF n)∧h'=h):=by
 by_cases k:1≤n
 ·have k2:decide (n≥1)=true:=by simpa using k
  have F:=k2;refine sb [.tmp 2] Tryz.func153 ?_;intro Q hQ;refine wk F ?_;refine ee hQ F ?_;exact S6 (.bool _) ⟨by simp[idF,k],rfl⟩
 ·have k2:decide (n≥1)=false:=by simpa using k
  have F:=k2;refine sb [.tmp 2] Tryz.func153 ?_;intro Q hQ;refine wk F ?_;refine ee hQ F ?_;exact S6 (.bool _) ⟨by simp[idF,k],rfl⟩
theorem tB(e:Ev)(h:Heap):Sat (CT G) 115 [e.av] h (fun r h'=>r=(usedE e).av∧h'=h):=by
 by_cases k1:e.kind=1
 ·have F:=k1
  skip
  refine sb [.cell 2 34] Tryz.func115 ?_;intro Q hQ;refine wn F ?_;refine bj 6 [5] [true,true,true,true,true,false] (.one 5 [false,false,true,true] .fin) (by decide+kernel) (by kernel_rfl) (by decide+kernel) ?_;simp only[bA,bB,bg];try refine sq F ?_
  repeat' ((first|refine aN ?_|refine aO ?_|refine aV ?_ ?_)<;>try refine sq F ?_)
  all_goals try refine wn F ?_
  skip
  all_goals (
   refine ye hQ F ?_;exact N2 (fC ..) ⟨by simp[usedE,Ev.av,k1],rfl⟩)
 by_cases k3:e.kind=3
 ·have F:=k3
  skip
  refine sb [.cell 2 34] Tryz.func115 ?_;intro Q hQ;refine wn F ?_;refine bj 10 [7,9] [true,true,true,true,true,true,true,false,true,false] (.one 7 [false,false,true,true,true,true,false,false,true] (.one 9 [false,false,false,false,true,true] .fin)) (by decide+kernel) (by kernel_rfl) (by decide+kernel) ?_;simp only[bA,bB,bg];try refine sq F ?_
  repeat' ((first|refine aN ?_|refine aO ?_|refine aV ?_ ?_)<;>try refine sq F ?_)
  all_goals try refine wn F ?_
  skip
  all_goals (
   refine ye hQ F ?_;exact N2 (fC ..) ⟨by simp[usedE,Ev.av,k3],rfl⟩)
 by_cases k5:e.kind=5
 ·have F:=k5
  skip
  refine sb [.cell 2 34] Tryz.func115 ?_;intro Q hQ;refine wn F ?_
  skip
  all_goals (
   refine ye hQ F ?_;exact N2 (fC ..) ⟨by simp[usedE,Ev.av,k5],rfl⟩)
 by_cases k6:e.kind=6
 ·have F:=k6
  skip
  refine sb [.cell 2 34] Tryz.func115 ?_;intro Q hQ;refine wn F ?_
  skip
  all_goals (
   refine ye hQ F ?_;exact N2 (fC ..) ⟨by simp[usedE,Ev.av,k6],rfl⟩)
 by_cases k7:e.kind=7
 ·have F:=k7
  skip
  refine sb [.cell 2 34] Tryz.func115 ?_;intro Q hQ;refine wn F ?_
  skip
  all_goals (
   refine ye hQ F ?_;exact N2 (fC ..) ⟨by simp[usedE,Ev.av,k7],rfl⟩)
 by_cases k8:e.kind=8
 ·have F:=k8
  skip
  refine sb [.cell 2 34] Tryz.func115 ?_;intro Q hQ;refine wn F ?_
  skip
  all_goals (
   refine ye hQ F ?_;exact N2 (fC ..) ⟨by simp[usedE,Ev.av,k8],rfl⟩)
 by_cases k9:e.kind=9
 ·have F:=k9
  skip
  refine sb [.cell 2 34] Tryz.func115 ?_;intro Q hQ;refine wn F ?_
  skip
  all_goals (
   refine ye hQ F ?_;exact N2 (fC ..) ⟨by simp[usedE,Ev.av,k9],rfl⟩)
 by_cases k10:e.kind=10
 ·have F:=k10
  skip
  refine sb [.cell 2 34] Tryz.func115 ?_;intro Q hQ;refine wn F ?_;refine bj 6 [5] [true,true,true,true,true,false] (.one 5 [false,false,true,true] .fin) (by decide+kernel) (by kernel_rfl) (by decide+kernel) ?_;simp only[bA,bB,bg];try refine sq F ?_
  repeat' ((first|refine aN ?_|refine aO ?_|refine aV ?_ ?_)<;>try refine sq F ?_)
  all_goals try refine wn F ?_
  skip
  all_goals (
   refine ye hQ F ?_;exact N2 (fC ..) ⟨by simp[usedE,Ev.av,k10],rfl⟩)
 by_cases k11:e.kind=11
 ·have F:=k11
  skip
  refine sb [.cell 2 34] Tryz.func115 ?_;intro Q hQ;refine wn F ?_;refine bj 6 [5] [true,true,true,true,true,false] (.one 5 [false,false,true,true] .fin) (by decide+kernel) (by kernel_rfl) (by decide+kernel) ?_;simp only[bA,bB,bg];try refine sq F ?_
  repeat' ((first|refine aN ?_|refine aO ?_|refine aV ?_ ?_)<;>try refine sq F ?_)
  all_goals try refine wn F ?_
  skip
  all_goals (
   refine ye hQ F ?_;exact N2 (fC ..) ⟨by simp[usedE,Ev.av,k11],rfl⟩)
 by_cases k13:e.kind=13
 ·have F:=k13
  skip
  refine sb [.cell 2 34] Tryz.func115 ?_;intro Q hQ;refine wn F ?_;refine bj 4 [3] [true,true,true,false] (.one 3 [true,true] .fin) (by decide+kernel) (by kernel_rfl) (by decide+kernel) ?_;simp only[bA,bB,bg];try refine sq F ?_
  repeat' ((first|refine aN ?_|refine aO ?_|refine aV ?_ ?_)<;>try refine sq F ?_)
  all_goals try refine wn F ?_
  skip
  all_goals (
   refine ye hQ F ?_;exact N2 (fC ..) ⟨by simp[usedE,Ev.av,k13],rfl⟩)
 have n1:(e.kind==1)=false:=by simp[k1]
 have n3:(e.kind==3)=false:=by simp[k3]
 have n5:(e.kind==5)=false:=by simp[k5]
 have n6:(e.kind==6)=false:=by simp[k6]
 have n7:(e.kind==7)=false:=by simp[k7]
 have n8:(e.kind==8)=false:=by simp[k8]
 have n9:(e.kind==9)=false:=by simp[k9]
 have n10:(e.kind==10)=false:=by simp[k10]
 have n11:(e.kind==11)=false:=by simp[k11]
 have n13:(e.kind==13)=false:=by simp[k13]
 have F:=EA n1 n3 n5 n6 n7 n8 n9 n10 n11 n13;refine sb [.cell 2 34] Tryz.func115 ?_;intro Q hQ;refine wk F ?_;refine ye hQ F ?_;exact N2 (fC ..) ⟨by simp[usedE,Ev.av,k1,k3,k5,k6,k7,k8,k9,k10,k11,k13],rfl⟩
theorem qx(L:Leaf)(e:Ev)(hR:∀h,Sat (CT G) 114 [e.av] h (fun r h'=>r=.bool (L.right e)∧h'=h))(h:Heap):Sat (CT G) 79 [e.av] h (fun r h'=>r=.int .i64 (if L.ck e then 0 else 140)∧h'=h):=by
 cases hr:L.right e with
 |false=>
  rw[hr]at hR
  skip
  refine sb [.tmp 2] Tryz.func79 ?_;intro Q hQ;refine wn trivial ?_;refine d9 4 (.two 4 (.two 5 (.one 6 (.one 7 (.one 8 .nil))) 6 (.one 5 (.one 7 (.one 8 .nil)))) 6 (.one 4 (.one 5 (.one 7 (.one 8 .nil))))) (by decide+kernel) (by kernel_rfl) (by decide+kernel) ?_;simp only[P9,R9];try refine sq trivial ?_
  repeat' (first|refine ba ?_| (refine bc rfl ?_;refine sq trivial ?_)| (refine bf rfl rfl ?_ ?_<;>refine sq trivial ?_))
  skip
  refine aG (hR _) ?_;try refine sq trivial ?_
  refine wk trivial ?_;repeat' (first|refine ba ?_| (refine bc rfl ?_;refine sq trivial ?_)| (refine bf rfl rfl ?_ ?_<;>refine sq trivial ?_))
  all_goals (
   refine wk trivial ?_;refine ee hQ trivial ?_;exact N2 (.int _ _) ⟨by simp[Leaf.ck,hr],rfl⟩)
 |true=>
  rw[hr]at hR
  skip
  refine sb [.tmp 2] Tryz.func79 ?_;intro Q hQ;refine wn trivial ?_;refine d9 4 (.two 4 (.two 5 (.one 6 (.one 7 (.one 8 .nil))) 6 (.one 5 (.one 7 (.one 8 .nil)))) 6 (.one 4 (.one 5 (.one 7 (.one 8 .nil))))) (by decide+kernel) (by kernel_rfl) (by decide+kernel) ?_;simp only[P9,R9];try refine sq trivial ?_
  repeat' (first|refine ba ?_| (refine bc rfl ?_;refine sq trivial ?_)| (refine bf rfl rfl ?_ ?_<;>refine sq trivial ?_))
  skip
  refine aG (hR _) ?_;try refine sq trivial ?_
  refine wk trivial ?_;repeat' (first|refine ba ?_| (refine bc rfl ?_;refine sq trivial ?_)| (refine bf rfl rfl ?_ ?_<;>refine sq trivial ?_))
  all_goals (
   refine(tB G e _).mono ?_;rintro r h' ⟨rfl,rfl⟩;(try refine sq trivial ?_);repeat' (first|refine ba ?_| (refine bc rfl ?_;refine sq trivial ?_)| (refine bf rfl rfl ?_ ?_<;>refine sq trivial ?_)))
  all_goals (
   (try repeat' (first|refine ba ?_| (refine bc rfl ?_;refine sq trivial ?_)| (refine bf rfl rfl ?_ ?_<;>refine sq trivial ?_)));by_cases hu:usedE e=e
   ·have hd:decide (usedE e=e)=true:=(by simp[hu]);have F:=hd;(try refine sq F ?_);refine wk F ?_;refine ee hQ F ?_;exact N2 (.int _ _) ⟨by simp[Leaf.ck,hr,hu],rfl⟩
   ·have hd:decide (usedE e=e)=false:=(by simp[hu]);have F:=hd;(try refine sq F ?_);refine wk F ?_;refine ee hQ F ?_;exact N2 (.int _ _) ⟨by simp[Leaf.ck,hr,hu],rfl⟩)
end
end Go.Av
