/- Parts. -/
import Derived.Test.YtmfhelaoeaifeaaGreatDoorMmEx2b
import Derived.RangeFuncLeaves
import Derived.RangeFuncRecord
set_option linter.unusedSimpArgs false
set_option linter.unusedVariables false
set_option linter.unusedSectionVars false
set_option linter.unnecessarySimpa false
set_option maxRecDepth 100000
set_option maxHeartbeats 16000000
namespace Go.Av
open Go Go.Proofs Go.RowKit
section
attribute [local irreducible] WP WPl WPix Sat
variable (G:Nat→Option (List AVal))
def PS.fits(s:PS)(ok:Bool)(dp:Nat)(e:Ev):Bool:=
 ok&&(
  if e.kind=1 then !(lkM s.fo e.a).isSome&&decide (s.fo.length<64)&&s.within e.b&&decide (dp<7)&&((lkM s.nm (e.b,e.s)).getD 0==0)
  else if e.kind=2 then(lkM s.fo e.a).isSome&&((lkM s.he e.a).getD 0==0)
  else if e.kind=3 then !(lkM s.fe e.a).isSome&&decide (s.fe.length<64)&&s.within e.b&&((lkM s.pl e.s).getD 0==0)
  else if e.kind=4∨e.kind=5 then(lkM s.fe e.a).isSome
  else if e.kind=6 then(lkM s.fe e.a).isSome&&s.within e.b
  else if e.kind=7 then !(lkM s.it e.a).isSome&&decide (s.it.length<1024)&&(lkM s.fe e.b).isSome&&((lkM s.gu (e.b,e.s)).getD 0==0)
  else if e.kind=8∨e.kind=9 then(lkM s.it e.a).isSome
  else if e.kind=10 then(lkM s.it e.a).isSome&&(decide (e.n=0)||decide (e.s∈ ((lkM s.it e.a).getD It.z).tags)||decide (((lkM s.it e.a).getD It.z).tags.length<8))
  else if e.kind=11 then !(lkM s.se e.a).isSome&&decide (s.se.length<32)
  else if e.kind=12 then(lkM s.se e.a).isSome
  else decide (s.clock≤e.n))
theorem rt(s:PS)(e:Ev)(ok:Bool)(k dp:Nat)(hdp:deepO s.fo k e.b=some dp)(hdk:dp≤1000)(hl:s.fo.length≤100∧s.fe.length≤100∧s.it.length≤2000∧s.se.length≤100)
  (hE:∀h,Sat (CT G) 97 [e.av] h (fun r h'=>r=.int .i64 (if ok then 0 else 140)∧h'=h))
  (hB:∀(n:Nat) (H:Heap),n+9≤H.length→Sat (CT G) 100 [.hp (n+8) 0 0 0,.int .i64 e.a,.str e.s] (so H n s) (fun r h'=>(∃i:Int,r=.tup [.int .i64 i,.bool (decide (e.s∈ ((lkM s.it e.a).getD It.z).tags))])∧h'=so H n s))
  {H:Heap}{n:Nat}(hn:n+9≤H.length):Sat (CT G) 54 [.hp (n+8) 0 0 0,e.av] (so H n s) (fun r h'=>r=.bool (s.fits ok dp e)∧h'=so H n s):=by
 cases ok with
 |false=>
  have hE:=fun h=>(hE h)
  refine sb [.tmp 4] Tryz.func54 ?_;intro Q hQ;refine wk trivial ?_;refine kq trivial (hE _) ?_;refine ee hQ trivial ?_;exact au hn (.bool _) ⟨rfl,rfl⟩
 |true=>
  refine sb [.tmp 4] Tryz.func54 ?_;intro Q hQ;refine wk trivial ?_;refine kq trivial (hE _) ?_;refine aC 12 [10,11] [true,true,true,true,true,true,true,true,true,true,false,false] (.one 10 [false,true,true,true,true,true,true] (.one 11 [] .fin)) (by decide+kernel) (by kernel_rfl) (by decide+kernel) ?_;simp only[aG,aH,aD];try refine sq trivial ?_
  repeat' ((first|refine ai ?_|refine aj ?_|refine ak ?_ ?_)<;>try refine sq trivial ?_)
  all_goals try refine wk trivial ?_
  refine aC 12 [10,11] [true,true,true,true,true,true,true,true,true,true,false,false] (.one 10 [false,true,true,true,true,true,true] (.one 11 [] .fin)) (by decide+kernel) (by kernel_rfl) (by decide+kernel) ?_;simp only[aG,aH,aD];try refine sq trivial ?_
  repeat' ((first|refine ai ?_|refine aj ?_|refine ak ?_ ?_)<;>try refine sq trivial ?_)
  all_goals try refine wk trivial ?_
  refine aC 12 [10,11] [true,true,true,true,true,true,true,true,true,true,false,false] (.one 10 [false,true,true,true,true,true,true] (.one 11 [] .fin)) (by decide+kernel) (by kernel_rfl) (by decide+kernel) ?_;simp only[aG,aH,aD];try refine sq trivial ?_
  repeat' ((first|refine ai ?_|refine aj ?_|refine ak ?_ ?_)<;>try refine sq trivial ?_)
  all_goals try refine wk trivial ?_
  refine aC 12 [10,11] [true,true,true,true,true,true,true,true,true,true,false,false] (.one 10 [false,true,true,true,true,true,true] (.one 11 [] .fin)) (by decide+kernel) (by kernel_rfl) (by decide+kernel) ?_;simp only[aG,aH,aD];try refine sq trivial ?_
  repeat' ((first|refine ai ?_|refine aj ?_|refine ak ?_ ?_)<;>try refine sq trivial ?_)
  all_goals try refine wk trivial ?_
  by_cases k1:e.kind=1
  ·have F:=k1;(try refine sq F ?_);refine wk F ?_;refine gGp F ?_ ?_<;>intro g1<;>(first|exact g1.elim|(try refine sq F ?_);refine wk F ?_)
   ·skip
    refine gGp F ?_ ?_<;>intro g2<;>(first|exact g2.elim|(try refine sq F ?_);refine wk F ?_)
    ·have ag2:s.fo.length<64:=(by omega);refine aE (eT G s e.b (by simp;omega)) ?_;(try refine sq F ?_);refine wk F ?_;refine gGp F ?_ ?_<;>intro g3<;>(first|exact g3.elim|(try refine sq F ?_);refine wk F ?_)
     ·skip
      refine aE (qu G s e.b k dp hdp hdk (by simp;omega)) ?_;(try refine sq F ?_);refine wk F ?_;refine gGp F ?_ ?_<;>intro g4<;>(first|exact g4.elim|(try refine sq F ?_);refine wk F ?_)
      ·have ag4:dp<7:=(by omega);refine ee hQ F ?_;exact au hn (.bool _) ⟨by simp[PS.fits,k1,g1,ag2,g3,ag4],rfl⟩
      ·have ag4:¬dp<7:=(by omega);refine ee hQ F ?_;exact au hn (.bool _) ⟨by simp[PS.fits,k1,g1,ag2,g3,ag4],rfl⟩
     ·skip
      refine ee hQ F ?_;exact au hn (.bool _) ⟨by simp[PS.fits,k1,g1,ag2,g3],rfl⟩
    ·have ag2:¬s.fo.length<64:=(by omega);refine ee hQ F ?_;exact au hn (.bool _) ⟨by simp[PS.fits,k1,g1,ag2],rfl⟩
   ·skip
    refine ee hQ F ?_;exact au hn (.bool _) ⟨by simp[PS.fits,k1,g1],rfl⟩
  by_cases k2:e.kind=2
  ·have F:=k2;(try refine sq F ?_);refine wk F ?_;refine gGp F ?_ ?_<;>intro g1<;>(first|exact g1.elim|(try refine sq F ?_);refine wk F ?_)
   ·skip
    refine ee hQ F ?_;exact au hn (.bool _) ⟨by simp[PS.fits,k2,g1],rfl⟩
   ·skip
    refine ee hQ F ?_;exact au hn (.bool _) ⟨by simp[PS.fits,k2,g1],rfl⟩
  by_cases k3:e.kind=3
  ·have F:=k3;(try refine sq F ?_);refine wk F ?_;refine gGp F ?_ ?_<;>intro g1<;>(first|exact g1.elim|(try refine sq F ?_);refine wk F ?_)
   ·skip
    refine gGp F ?_ ?_<;>intro g2<;>(first|exact g2.elim|(try refine sq F ?_);refine wk F ?_)
    ·have ag2:s.fe.length<64:=(by omega);refine aE (eT G s e.b (by simp;omega)) ?_;(try refine sq F ?_);refine wk F ?_;refine gGp F ?_ ?_<;>intro g3<;>(first|exact g3.elim|(try refine sq F ?_);refine wk F ?_)
     ·skip
      refine ee hQ F ?_;exact au hn (.bool _) ⟨by simp[PS.fits,k3,g1,ag2,g3],rfl⟩
     ·skip
      refine ee hQ F ?_;exact au hn (.bool _) ⟨by simp[PS.fits,k3,g1,ag2,g3],rfl⟩
    ·have ag2:¬s.fe.length<64:=(by omega);refine ee hQ F ?_;exact au hn (.bool _) ⟨by simp[PS.fits,k3,g1,ag2],rfl⟩
   ·skip
    refine ee hQ F ?_;exact au hn (.bool _) ⟨by simp[PS.fits,k3,g1],rfl⟩
  by_cases k4:e.kind=4
  ·have F:=k4;(try refine sq F ?_);refine wk F ?_;refine ee hQ F ?_;exact au hn (.bool _) ⟨by simp[PS.fits,k4],rfl⟩
  by_cases k5:e.kind=5
  ·have F:=k5;(try refine sq F ?_);refine wk F ?_;refine ee hQ F ?_;exact au hn (.bool _) ⟨by simp[PS.fits,k5],rfl⟩
  by_cases k6:e.kind=6
  ·have F:=k6;(try refine sq F ?_);refine wk F ?_;refine gGp F ?_ ?_<;>intro g1<;>(first|exact g1.elim|(try refine sq F ?_);refine wk F ?_)
   ·refine kq F (eT G s e.b (by simp;omega)) ?_;refine ee hQ F ?_;exact au hn (.bool _) ⟨by simp[PS.fits,k6,g1],rfl⟩
   ·skip
    refine ee hQ F ?_;exact au hn (.bool _) ⟨by simp[PS.fits,k6,g1],rfl⟩
  by_cases k7:e.kind=7
  ·have F:=k7;(try refine sq F ?_);refine wk F ?_;refine aC 12 [10,11] [true,true,true,true,true,true,true,true,true,true,false,false] (.one 10 [false,true,true,true,true,true,true] (.one 11 [] .fin)) (by decide+kernel) (by kernel_rfl) (by decide+kernel) ?_;simp only[aG,aH,aD];(try refine sq F ?_);repeat' ((first|refine ai ?_|refine aj ?_|refine ak ?_ ?_)<;>try refine sq F ?_)
   (all_goals try refine wk F ?_);refine gGp F ?_ ?_<;>intro g1<;>(first|exact g1.elim|(try refine sq F ?_);refine wk F ?_)
   ·skip
    refine gGp F ?_ ?_<;>intro g2<;>(first|exact g2.elim|(try refine sq F ?_);refine wk F ?_)
    ·have ag2:s.it.length<1024:=(by omega);refine gGp F ?_ ?_<;>intro g3<;>(first|exact g3.elim|(try refine sq F ?_);refine wk F ?_)
     ·skip
      refine ee hQ F ?_;exact au hn (.bool _) ⟨by simp[PS.fits,k7,g1,ag2,g3],rfl⟩
     ·skip
      refine ee hQ F ?_;exact au hn (.bool _) ⟨by simp[PS.fits,k7,g1,ag2,g3],rfl⟩
    ·have ag2:¬s.it.length<1024:=(by omega);refine ee hQ F ?_;exact au hn (.bool _) ⟨by simp[PS.fits,k7,g1,ag2],rfl⟩
   ·skip
    refine ee hQ F ?_;exact au hn (.bool _) ⟨by simp[PS.fits,k7,g1],rfl⟩
  by_cases k8:e.kind=8
  ·have F:=k8;(try refine sq F ?_);refine wk F ?_;refine ee hQ F ?_;exact au hn (.bool _) ⟨by simp[PS.fits,k8],rfl⟩
  by_cases k9:e.kind=9
  ·have F:=k9;(try refine sq F ?_);refine wk F ?_;refine ee hQ F ?_;exact au hn (.bool _) ⟨by simp[PS.fits,k9],rfl⟩
  by_cases k10:e.kind=10
  ·have F:=k10;(try refine sq F ?_);refine wk F ?_;refine(hB n _ (by simp;omega)).mono ?_;rintro r h' ⟨⟨i,rfl⟩,rfl⟩;(try refine sq F ?_);refine wk F ?_;refine gGp F ?_ ?_<;>intro g1<;>(first|exact g1.elim|(try refine sq F ?_);refine wk F ?_)
   ·refine gGp F ?_ ?_<;>intro g2<;>(first|exact g2.elim|(try refine sq F ?_);refine wk F ?_)
    ·skip
     refine ee hQ F ?_;exact au hn (.bool _) ⟨by simp[PS.fits,k10,g1,g2],rfl⟩
    ·refine gGp F ?_ ?_<;>intro g3<;>(first|exact g3.elim|(try refine sq F ?_);refine wk F ?_)
     ·skip
      refine ee hQ F ?_;exact au hn (.bool _) ⟨by simp[PS.fits,k10,g1,g2,g3],rfl⟩
     ·skip
      refine ee hQ F ?_;exact au hn (.bool _) ⟨by simp[PS.fits,k10,g1,g2,g3];omega,rfl⟩
   ·skip
    refine ee hQ F ?_;exact au hn (.bool _) ⟨by simp[PS.fits,k10,g1],rfl⟩
  by_cases k11:e.kind=11
  ·have F:=k11;(try refine sq F ?_);refine wk F ?_;refine gGp F ?_ ?_<;>intro g1<;>(first|exact g1.elim|(try refine sq F ?_);refine wk F ?_)
   ·skip
    refine ee hQ F ?_;exact au hn (.bool _) ⟨by simp[PS.fits,k11,g1];omega,rfl⟩
   ·skip
    refine ee hQ F ?_;exact au hn (.bool _) ⟨by simp[PS.fits,k11,g1],rfl⟩
  by_cases k12:e.kind=12
  ·have F:=k12;(try refine sq F ?_);refine wk F ?_;refine ee hQ F ?_;exact au hn (.bool _) ⟨by simp[PS.fits,k12],rfl⟩
  have n1:(e.kind==1)=false:=by simp[k1]
  have n2:(e.kind==2)=false:=by simp[k2]
  have n3:(e.kind==3)=false:=by simp[k3]
  have n4:(e.kind==4)=false:=by simp[k4]
  have n5:(e.kind==5)=false:=by simp[k5]
  have n6:(e.kind==6)=false:=by simp[k6]
  have n7:(e.kind==7)=false:=by simp[k7]
  have n8:(e.kind==8)=false:=by simp[k8]
  have n9:(e.kind==9)=false:=by simp[k9]
  have n10:(e.kind==10)=false:=by simp[k10]
  have n11:(e.kind==11)=false:=by simp[k11]
  have n12:(e.kind==12)=false:=by simp[k12]
  have F:=F2 (F9 n1 n2 n3 n4 n5 n6 n7 n8 n9) (F3 n10 n11 n12);try refine sq F ?_
  refine wk F ?_;refine ee hQ F ?_;exact au hn (.bool _) ⟨by simp[PS.fits,k1,k2,k3,k4,k5,k6,k7,k8,k9,k10,k11,k12],rfl⟩
end
section
attribute [local irreducible] WP WPl WPix Sat
section
variable {α:Type}
def ixO(key:α→Int)(id:Int):List α→Option Nat
 | []=>none
 |a::l=>if key a=id then some 0 else(ixO key id l).map (· +1)
def posF(key:α→Int)(l:List α)(id:Int):Int:=match ixO key id l with
 |some k=>(k:Int)
 |none=> -1
def fnd(key:α→Int)(l:List α)(id:Int):Option α:=l.find? fun a=>decide (key a=id)
theorem ns{key:α→Int}{id:Int}:∀{l:List α} {k:Nat} {a:α},l[k]? =some a→key a=id→(∀b∈l.take k,key b≠id)→ixO key id l=some k
 | [],k,a,h,_,_=>by simp at h
 |b::l,0,a,h,ha,_=>by simp at h;subst h;rw[ixO,M0 ha]
 |b::l,k+1,a,h,ha,hf=>by
  rw[ixO,L5 (hf b (by simp)),ns (by simpa using h) ha (fun c hc=>hf c (by simp[hc]))];rfl
theorem nt{key:α→Int}{id:Int}:∀{l:List α},(∀b∈l,key b≠id)→ixO key id l=none
 | [],_=>rfl
 |b::l,hf=>by rw[ixO,L5 (hf b (by simp)),nt (fun c hc=>hf c (by simp[hc]))];rfl
theorem cY{key:α→Int}{id:Int}{l:List α}{k:Nat}{a:α}(h:l[k]? =some a)(ha:key a=id)(hf:∀b∈l.take k,key b≠id):posF key l id=(k:Int):=by
 unfold posF;rw[ns h ha hf]
theorem cr{key:α→Int}{id:Int}{l:List α}(hf:∀b∈l,key b≠id):posF key l id= -1:=by
 unfold posF;rw[nt hf]
theorem bh{key:α→Int}{id:Int}:∀{l:List α} {a:α},fnd key l id=some a→∃k:Nat,l[k]? =some a∧posF key l id=(k:Int)∧key a=id
 | [],a,h=>by simp[fnd]at h
 |b::l,a,h=>by
  unfold fnd at h;rw[za1]at h;by_cases hb:key b=id
  ·rw[P1 hb]at h;simp at h;subst h;exact⟨0,rfl,by unfold posF;rw[ixO,M0 hb],hb⟩
  ·rw[O4 hb]at h;simp at h;obtain⟨k,h1,h2,h3⟩:=bh (key:=key) (l:=l) h;refine⟨k+1,by simpa using h1,?_,h3⟩;unfold posF at h2 ⊢;rw[ixO,L5 hb];cases hx:ixO key id l with
   |none=>rw[hx]at h2;simp at h2
   |some j=>rw[hx]at h2;simp at h2 ⊢;omega
theorem wE{key:α→Int}{id:Int}{l:List α}(h:fnd key l id=none):∀b∈l,key b≠id:=fun b hb=>by
 have:=X5.1 h b hb;simpa using this
theorem dz{key:α→Int}{id:Int}{l:List α}(h:fnd key l id=none):posF key l id= -1:=cr (wE h)
end
variable (G:Nat→Option (List AVal))
theorem bK(x:St)(id:Int)(hl:x.fo.length≤100000)(h:Heap):Sat (CT G) 105 [x.av,.int .i64 id] h (fun r h'=>r=.int .i64 (posF (·.id) x.fo id)∧h'=h):=by
 have hel:(x.fo.map Fo.av).length=x.fo.length:=L8 ..;have F:=hel;refine sb [.tmp 4] Tryz.func105 ?_;intro Q hQ;refine wk F ?_;refine lm (fun nL tL hL=>∃(k:Nat),x.fo.length-k=nL∧h++[.row 36 9 0 [x.av]]=hL∧tL 1=.int .i64 id∧tL 2=.hp h.length 0 0 0∧tL 5=.int .i64 k∧k≤x.fo.length∧(∀f∈x.fo.take k,f.id≠id)) ((fun(k:Nat)=>(x.fo.length-k:Nat)) (0)) ?_ ?_
 ·refine M2 ⟨0,rfl,aB,?_,?_,?_,by omega,by simp⟩;all_goals try exact zZz F
 rintro _ s2 h' ⟨k,rfl,rfl,e1,e2,e5,hk,hp⟩ K2 hK2;simp only[af,ao,Nat.reduceEqDiff, ↓reduceIte]at e1 e2 e5;have F:=F4 F e1 e2 e5;refine wk F ?_;refine cq F (fun c1=>?_) (fun c1=>?_)<;>(try exact c1.elim)<;>(refine wk F ?_)
 ·have c2:k<x.fo.length:=by omega
  obtain⟨f,hf,hfm⟩:=ac c2;have F:=F3 F c2 hf;try refine sq F ?_
  refine wk F ?_;refine cq F (fun c3=>?_) (fun c3=>?_)<;>(try exact c3.elim)<;>(refine wk F ?_)
  ·refine ee hQ F ?_;exact L7 (.int _ _) ⟨by rw[cY hf (by first|exact c3|exact c3.symm) hp],rfl⟩
  ·have hp1:∀g∈x.fo.take (k+1),g.id≠id:=by
    rw[P3,hf];intro g hg;simp at hg;rcases hg with hg|rfl
    ·exact hp g hg
    ·exact c3
   refine hK2 _ _ _ (M2 ⟨k+1,rfl,aB,?_,?_,?_,by omega,hp1⟩) (by omega);all_goals try exact zZz F
 ·rw[N0 (by omega)]at hp;refine ee hQ F ?_;exact L7 (.int _ _) ⟨by rw[cr hp],rfl⟩
theorem cZ(x:St)(id:Int)(hl:x.fe.length≤100000)(h:Heap):Sat (CT G) 62 [x.av,.int .i64 id] h (fun r h'=>r=.int .i64 (posF (·.id) x.fe id)∧h'=h):=by
 have hel:(x.fe.map Fe.av).length=x.fe.length:=L8 ..;have F:=hel;refine sb [.tmp 4] Tryz.func62 ?_;intro Q hQ;refine wk F ?_;refine lm (fun nL tL hL=>∃(k:Nat),x.fe.length-k=nL∧h++[.row 36 9 0 [x.av]]=hL∧tL 1=.int .i64 id∧tL 2=.hp h.length 0 0 0∧tL 5=.int .i64 k∧k≤x.fe.length∧(∀f∈x.fe.take k,f.id≠id)) ((fun(k:Nat)=>(x.fe.length-k:Nat)) (0)) ?_ ?_
 ·refine M2 ⟨0,rfl,aB,?_,?_,?_,by omega,by simp⟩;all_goals try exact zZz F
 rintro _ s2 h' ⟨k,rfl,rfl,e1,e2,e5,hk,hp⟩ K2 hK2;simp only[af,ao,Nat.reduceEqDiff, ↓reduceIte]at e1 e2 e5;have F:=F4 F e1 e2 e5;refine wk F ?_;refine cq F (fun c1=>?_) (fun c1=>?_)<;>(try exact c1.elim)<;>(refine wk F ?_)
 ·have c2:k<x.fe.length:=by omega
  obtain⟨f,hf,hfm⟩:=ac c2;have F:=F3 F c2 hf;try refine sq F ?_
  refine wk F ?_;refine cq F (fun c3=>?_) (fun c3=>?_)<;>(try exact c3.elim)<;>(refine wk F ?_)
  ·refine ee hQ F ?_;exact L7 (.int _ _) ⟨by rw[cY hf (by first|exact c3|exact c3.symm) hp],rfl⟩
  ·have hp1:∀g∈x.fe.take (k+1),g.id≠id:=by
    rw[P3,hf];intro g hg;simp at hg;rcases hg with hg|rfl
    ·exact hp g hg
    ·exact c3
   refine hK2 _ _ _ (M2 ⟨k+1,rfl,aB,?_,?_,?_,by omega,hp1⟩) (by omega);all_goals try exact zZz F
 ·rw[N0 (by omega)]at hp;refine ee hQ F ?_;exact L7 (.int _ _) ⟨by rw[cr hp],rfl⟩
theorem dV(x:St)(id:Int)(hl:x.it.length≤100000)(h:Heap):Sat (CT G) 15 [x.av,.int .i64 id] h (fun r h'=>r=.int .i64 (posF (·.id) x.it id)∧h'=h):=by
 have hel:(x.it.map It.av).length=x.it.length:=L8 ..;have F:=hel;refine sb [.tmp 4] Tryz.func15 ?_;intro Q hQ;refine wk F ?_;refine lm (fun nL tL hL=>∃(k:Nat),x.it.length-k=nL∧h++[.row 36 9 0 [x.av]]=hL∧tL 1=.int .i64 id∧tL 2=.hp h.length 0 0 0∧tL 5=.int .i64 k∧k≤x.it.length∧(∀f∈x.it.take k,f.id≠id)) ((fun(k:Nat)=>(x.it.length-k:Nat)) (0)) ?_ ?_
 ·refine M2 ⟨0,rfl,aB,?_,?_,?_,by omega,by simp⟩;all_goals try exact zZz F
 rintro _ s2 h' ⟨k,rfl,rfl,e1,e2,e5,hk,hp⟩ K2 hK2;simp only[af,ao,Nat.reduceEqDiff, ↓reduceIte]at e1 e2 e5;have F:=F4 F e1 e2 e5;refine wk F ?_;refine cq F (fun c1=>?_) (fun c1=>?_)<;>(try exact c1.elim)<;>(refine wk F ?_)
 ·have c2:k<x.it.length:=by omega
  obtain⟨f,hf,hfm⟩:=ac c2;have F:=F3 F c2 hf;try refine sq F ?_
  refine wk F ?_;refine cq F (fun c3=>?_) (fun c3=>?_)<;>(try exact c3.elim)<;>(refine wk F ?_)
  ·refine ee hQ F ?_;exact L7 (.int _ _) ⟨by rw[cY hf (by first|exact c3|exact c3.symm) hp],rfl⟩
  ·have hp1:∀g∈x.it.take (k+1),g.id≠id:=by
    rw[P3,hf];intro g hg;simp at hg;rcases hg with hg|rfl
    ·exact hp g hg
    ·exact c3
   refine hK2 _ _ _ (M2 ⟨k+1,rfl,aB,?_,?_,?_,by omega,hp1⟩) (by omega);all_goals try exact zZz F
 ·rw[N0 (by omega)]at hp;refine ee hQ F ?_;exact L7 (.int _ _) ⟨by rw[cr hp],rfl⟩
theorem fG(x:St)(id:Int)(hl:x.se.length≤100000)(h:Heap):Sat (CT G) 112 [x.av,.int .i64 id] h (fun r h'=>r=.int .i64 (posF (·.id) x.se id)∧h'=h):=by
 have hel:(x.se.map Se.av).length=x.se.length:=L8 ..;have F:=hel;refine sb [.tmp 4] Tryz.func112 ?_;intro Q hQ;refine wk F ?_;refine lm (fun nL tL hL=>∃(k:Nat),x.se.length-k=nL∧h++[.row 36 9 0 [x.av]]=hL∧tL 1=.int .i64 id∧tL 2=.hp h.length 0 0 0∧tL 5=.int .i64 k∧k≤x.se.length∧(∀f∈x.se.take k,f.id≠id)) ((fun(k:Nat)=>(x.se.length-k:Nat)) (0)) ?_ ?_
 ·refine M2 ⟨0,rfl,aB,?_,?_,?_,by omega,by simp⟩;all_goals try exact zZz F
 rintro _ s2 h' ⟨k,rfl,rfl,e1,e2,e5,hk,hp⟩ K2 hK2;simp only[af,ao,Nat.reduceEqDiff, ↓reduceIte]at e1 e2 e5;have F:=F4 F e1 e2 e5;refine wk F ?_;refine cq F (fun c1=>?_) (fun c1=>?_)<;>(try exact c1.elim)<;>(refine wk F ?_)
 ·have c2:k<x.se.length:=by omega
  obtain⟨f,hf,hfm⟩:=ac c2;have F:=F3 F c2 hf;try refine sq F ?_
  refine wk F ?_;refine cq F (fun c3=>?_) (fun c3=>?_)<;>(try exact c3.elim)<;>(refine wk F ?_)
  ·refine ee hQ F ?_;exact L7 (.int _ _) ⟨by rw[cY hf (by first|exact c3|exact c3.symm) hp],rfl⟩
  ·have hp1:∀g∈x.se.take (k+1),g.id≠id:=by
    rw[P3,hf];intro g hg;simp at hg;rcases hg with hg|rfl
    ·exact hp g hg
    ·exact c3
   refine hK2 _ _ _ (M2 ⟨k+1,rfl,aB,?_,?_,?_,by omega,hp1⟩) (by omega);all_goals try exact zZz F
 ·rw[N0 (by omega)]at hp;refine ee hQ F ?_;exact L7 (.int _ _) ⟨by rw[cr hp],rfl⟩
end
section
abbrev T2:=Int×Int
def tA(t:T2):AVal:=.agg [.int .i64 t.1,.int .i64 t.2]
def tadd(a b:T2):T2:=(a.1+b.1,a.2+b.2)
structure CS where
 al:T2
 st:T2
 fo:ML Int T2
 fe:ML Int T2
 tg:ML Bs T2
 it:ML Int It
 inn:ML Int Int
 ab:ML Int Int
 c1:Nat
 c2:Nat
 c3:Nat
 c4:Nat
 c5:Nat
 c6:Nat
def CS.row(m:Nat)(c:CS):AVal:=.agg [.int .i64 c.al.1,.int .i64 c.al.2,.int .i64 c.st.1,.int .i64 c.st.2,.hm m,.hm (m+1),.hm (m+2),.hm (m+3),.hm (m+4),.hm (m+5)]
def CS.bl(m:Nat)(c:CS):List Blk:=
 [.mp (encM iA tA c.fo) c.c1,.mp (encM iA tA c.fe) c.c2,.mp (encM AVal.str tA c.tg) c.c3,.mp (encM iA It.av c.it) c.c4,.mp (encM iA iA c.inn) c.c5,.mp (encM iA iA c.ab) c.c6,.row 0 10 0 [c.row m]]
def CS.z:CS:=⟨(0,0),(0,0),[],[],[],[],[],[],0,0,0,0,0,0⟩
def co(H:Heap)(m:Nat)(c:CS):Heap:=ov H m (c.bl m)
section
variable {H:Heap} {m:Nat} {c:CS}
end
def negT(t:T2):T2:=(-t.1, -t.2)
def oneT(t:It):T2:=(1,if t.read then 0 else 1)
def foF(t:T2):List Int→ML Int T2→Nat→ML Int T2×Nat
 | [],l,k=>(l,k)
 |id::ch,l,k=>foF t ch (upM l k id (tadd ((lkM l id).getD (0,0)) t)) (ckM l k id)
def CS.shift(c:CS)(ch:List Int)(feed:Int)(t:T2):CS:=
 {c with al:=tadd c.al t,fe:=upM c.fe c.c2 feed (tadd ((lkM c.fe feed).getD (0,0)) t),c2:=ckM c.fe c.c2 feed,fo:=(foF t ch c.fo c.c1).1,c1:=(foF t ch c.fo c.c1).2}
def tg1F(n:T2)(g:Bs)(l:ML Bs T2)(k:Nat):ML Bs T2×Nat:=
 if (tadd ((lkM l g).getD (0,0)) n).1=0 then(dlM l g,k)else(upM l k g (tadd ((lkM l g).getD (0,0)) n),ckM l k g)
def tgsF(n:T2):List Bs→ML Bs T2→Nat→ML Bs T2×Nat
 | [],l,k=>(l,k)
 |g::gs,l,k=>tgsF n gs (tg1F n g l k).1 (tg1F n g l k).2
def CS.tag(c:CS)(g:Bs)(n:T2):CS:= {c with tg:=(tg1F n g c.tg c.c3).1,c3:=(tg1F n g c.tg c.c3).2}
def CS.tags(c:CS)(gs:List Bs)(n:T2):CS:= {c with tg:=(tgsF n gs c.tg c.c3).1,c3:=(tgsF n gs c.tg c.c3).2}
def CS.star(c:CS)(b:Bool)(n:T2):CS:= {c with st:=if b then tadd c.st n else c.st}
def CS.count(c:CS)(ch:List Int)(t:It)(n:T2):CS:=((c.shift ch t.feed n).star t.star n).tags t.tags n
def chO(ab:ML Int Int):Nat→Int→Option (List Int)
 |0,id=>if id=0 then some []else none
 |k+1,id=>if id=0 then some []else(chO ab k ((lkM ab id).getD 0)).map (id:: ·)
def CS.chn(c:CS)(feed:Int):List Int:=(chO c.ab 7 ((lkM c.inn feed).getD 0)).getD []
theorem tZ(t:T2):∀{ch:List Int} (_:ch.Nodup) (l:ML Int T2) (k:Nat) (x:Int),lkM (foF t ch l k).1 x=if x∈ch then some (tadd ((lkM l x).getD (0,0)) t)else lkM l x:=by
 intro ch;induction ch with
 |nil=>intro _ l k x;simp[foF]
 |cons a ch ih=>
  intro hn l k x;rw[U6]at hn;rw[foF,ih hn.2];by_cases hx:x∈ch
  ·have hxa:x≠a:=fun e=>hn.1 (e▸hx)
   rw[M0 hx,M0 (U0 _ hx),aN,L5 hxa]
  ·rw[L5 hx,aN];by_cases hxa:x=a
   ·subst hxa;rw[M0 rfl,M0 (W4 ..)]
   ·rw[L5 hxa,L5 (by simp[hx,hxa])]
theorem zG(t:T2):∀(ch:List Int) {l:ML Int T2} {k:Nat},WFM l k→WFM (foF t ch l k).1 (foF t ch l k).2:=by
 intro ch;induction ch with
 |nil=>intro l k h;exact h
 |cons a ch ih=>intro l k h;rw[foF];exact ih (h.up _ _)
theorem pu(n:T2)(g:Bs){l:ML Bs T2}{k:Nat}(h:WFM l k):WFM (tg1F n g l k).1 (tg1F n g l k).2:=by
 unfold tg1F;split
 ·exact h.dl _
 ·exact h.up _ _
theorem yb(n:T2):∀(gs:List Bs) {l:ML Bs T2} {k:Nat},WFM l k→WFM (tgsF n gs l k).1 (tgsF n gs l k).2:=by
 intro gs;induction gs with
 |nil=>intro l k h;exact h
 |cons a gs ih=>intro l k h;rw[tgsF];exact ih (pu _ _ h)
def some0(u:T2):Option T2:=if u.1=0 then none else some u
theorem pv(n:T2)(g:Bs){l:ML Bs T2}{k:Nat}(w:WFM l k)(x:Bs):lkM (tg1F n g l k).1 x=if x=g then some0 (tadd ((lkM l x).getD (0,0)) n)else lkM l x:=by
 unfold tg1F some0;by_cases hx:x=g
 ·subst hx;rw[M0 rfl];split
  ·rw[cH w.keys,M0 rfl]
  ·rw[aN,M0 rfl]
 ·rw[L5 hx];split
  ·rw[cH w.keys,L5 hx]
  ·rw[aN,L5 hx]
theorem yc(n:T2):∀{gs:List Bs} (_:gs.Nodup) {l:ML Bs T2} {k:Nat} (_:WFM l k) (x:Bs),lkM (tgsF n gs l k).1 x=if x∈gs then some0 (tadd ((lkM l x).getD (0,0)) n)else lkM l x:=by
 intro gs;induction gs with
 |nil=>intro _ l k _ x;simp[tgsF]
 |cons a gs ih=>
  intro hn l k w x;rw[U6]at hn;rw[tgsF,ih hn.2 (pu _ _ w)];by_cases hx:x∈gs
  ·have hxa:x≠a:=fun e=>hn.1 (e▸hx)
   rw[M0 hx,M0 (U0 _ hx),pv _ _ w,L5 hxa]
  ·rw[L5 hx,pv _ _ w];by_cases hxa:x=a
   ·subst hxa;rw[M0 rfl,M0 (W4 ..)]
   ·rw[L5 hxa,L5 (by simp[hx,hxa])]
def tl(L:List It)(p:It→Bool):T2:=((L.countP p:Nat),(L.countP (fun t=>p t&& !t.read):Nat))
def dlt(t:It)(p:It→Bool):T2:=if p t then oneT t else(0,0)
theorem iF(t:It)(L:List It)(p:It→Bool):tl (t::L) p=tadd (tl L p) (dlt t p):=by
 unfold tl dlt oneT tadd;rw[List.countP_cons,List.countP_cons];cases h:p t<;>cases h2:t.read<;>simp[h]
theorem fW{L L':List It}(h:L.Perm L')(p:It→Bool):tl L p=tl L' p:=by
 unfold tl;rw[h.countP_eq,h.countP_eq]
theorem Ck(L:List It)(p:It→Bool):0≤(tl L p).2∧(tl L p).2≤(tl L p).1∧(tl L p).1≤L.length:=by
 unfold tl;refine⟨by simp,?_,by simp only;exact Int.ofNat_le.2 List.countP_le_length⟩;simp only;exact Int.ofNat_le.2 (List.countP_mono_left fun t _ h=>by simp only[L6]at h;exact h.1)
theorem Gj{L:List It}{p:It→Bool}(h:(tl L p).1=0):tl L p=(0,0):=by
 have:=Ck L p;rw[Prod.ext_iff];exact⟨h,by omega⟩
theorem u4(t:T2):tadd t (0,0)=t:=by unfold tadd;simp
theorem wF(t n:T2):tadd (tadd t n) (negT n)=t:=by unfold tadd negT;rw[Prod.ext_iff];simp only;omega
theorem u5(L:List It)(p:It→Bool):(some0 (tl L p)).getD (0,0)=tl L p:=by
 unfold some0;split
 ·rename_i h;rw[Gj h];rfl
 ·rfl
structure Tal (c:CS) (L:List It):Prop where
 al:c.al=tl L fun _=>true
 st:c.st=tl L fun t=>t.star
 fe:∀id,(lkM c.fe id).isSome=true→lkM c.fe id=some (tl L fun t=>decide (t.feed=id))
 fo:∀id,(lkM c.fo id).isSome=true→lkM c.fo id=some (tl L fun t=>decide (id∈c.chn t.feed))
 tg:∀g,lkM c.tg g=some0 (tl L fun t=>decide (g∈t.tags))
theorem Tal.perm{c:CS}{L L':List It}(h:Tal c L)(p:L.Perm L'):Tal c L' where
 al:=by rw[← fW p];exact h.al
 st:=by rw[← fW p];exact h.st
 fe:=fun id hi=>by rw[← fW p];exact h.fe id hi
 fo:=fun id hi=>by rw[← fW p];exact h.fo id hi
 tg:=fun g=>by rw[← fW p];exact h.tg g
structure Rdy (c:CS) (t:It):Prop where
 fe:(lkM c.fe t.feed).isSome=true
 ch:∃l,chO c.ab 7 ((lkM c.inn t.feed).getD 0)=some l∧l.Nodup∧l.length≤7∧∀x∈l,(lkM c.fo x).isSome=true
 tg:t.tags.Nodup
theorem Rdy.chn{c:CS}{t:It}(h:Rdy c t):(c.chn t.feed).Nodup∧∀x∈c.chn t.feed,(lkM c.fo x).isSome=true:=by
 obtain⟨l,h1,h2,_,h3⟩:=h.ch;unfold CS.chn;rw[h1];exact⟨h2,h3⟩
theorem lN{c:CS}{L L':List It}{t:It}{n:T2}(h:Tal c L)(r:Rdy c t)(w3:WFM c.tg c.c3)
  (hy:∀p:It→Bool,p t=true→tl L' p=tadd (tl L p) n)(hn:∀p:It→Bool,p t=false→tl L' p=tl L p):Tal (c.count (c.chn t.feed) t n) L' where
 al:=by rw[hy _ rfl, ← h.al];rfl
 st:=by
  show(if t.star then tadd c.st n else c.st)=_;cases hs:t.star with
  |true=>rw[M0 rfl,hy _ hs, ← h.st]
  |false=>rw[L5 (by simp),hn _ hs, ← h.st]
 fe:=fun id hi=>by
  have hi:(lkM (upM c.fe c.c2 t.feed (tadd ((lkM c.fe t.feed).getD (0,0)) n)) id).isSome=true:=hi;show lkM (upM c.fe c.c2 t.feed (tadd ((lkM c.fe t.feed).getD (0,0)) n)) id=_;rw[aN]at hi ⊢;by_cases hx:id=t.feed
  ·subst hx;rw[M0 rfl,h.fe _ r.fe,hy _ (by simp)];rfl
  ·rw[L5 hx]at hi ⊢;rw[h.fe _ hi,hn _ (by simp;exact fun e=>hx e.symm)]
 fo:=fun id hi=>by
  obtain⟨hnd,hpr⟩:=r.chn;have hi:(lkM (foF n (c.chn t.feed) c.fo c.c1).1 id).isSome=true:=hi;show lkM (foF n (c.chn t.feed) c.fo c.c1).1 id=some (tl L' fun t=>decide (id∈c.chn t.feed));rw[tZ n hnd]at hi ⊢;by_cases hx:id∈c.chn t.feed
  ·rw[M0 hx,h.fo _ (hpr id hx),hy _ (by simpa using hx)];rfl
  ·rw[L5 hx]at hi ⊢;rw[h.fo _ hi,hn _ (by simpa using hx)]
 tg:=fun g=>by
  show lkM (tgsF n t.tags c.tg c.c3).1 g=_;rw[yc n r.tg w3];by_cases hx:g∈t.tags
  ·rw[M0 hx,h.tg,u5,hy _ (by simpa using hx)]
  ·rw[L5 hx,h.tg,hn _ (by simpa using hx)]
theorem wH{c:CS}{L:List It}{t:It}(h:Tal c L)(r:Rdy c t)(w3:WFM c.tg c.c3):Tal (c.count (c.chn t.feed) t (oneT t)) (t::L):=
 lN h r w3 (fun p hp=>by rw[iF,dlt,M0 hp]) (fun p hp=>by rw[iF,dlt,L5 (by simp[hp]),u4])
theorem u6{c:CS}{L:List It}{t:It}(h:Tal c (t::L))(r:Rdy c t)(w3:WFM c.tg c.c3):Tal (c.count (c.chn t.feed) t (negT (oneT t))) L:=
 lN h r w3 (fun p hp=>by rw[iF,dlt,M0 hp,wF]) (fun p hp=>by rw[iF,dlt,L5 (by simp[hp]),u4])
structure CS.Wf (c:CS):Prop where
 w1:WFM c.fo c.c1
 w2:WFM c.fe c.c2
 w3:WFM c.tg c.c3
 w4:WFM c.it c.c4
 w5:WFM c.inn c.c5
 w6:WFM c.ab c.c6
theorem CS.Wf.count{c:CS}(w:c.Wf)(ch:List Int)(t:It)(n:T2):(c.count ch t n).Wf:=
 {w with w1:=zG _ _ w.w1,w2:=w.w2.up _ _,w3:=yb _ _ w.w3}
structure CS.Like (c d:CS):Prop where
 it:d.it=c.it
 c4:d.c4=c.c4
 inn:d.inn=c.inn
 ab:d.ab=c.ab
 fe:∀id,(lkM d.fe id).isSome=(lkM c.fe id).isSome
 fo:∀id,(lkM d.fo id).isSome=(lkM c.fo id).isSome
theorem CS.Like.chn{c d:CS}(h:c.Like d)(f:Int):d.chn f=c.chn f:=by unfold CS.chn;rw[h.ab,h.inn]
theorem CS.Like.rdy{c d:CS}(h:c.Like d){t:It}(r:Rdy c t):Rdy d t where
 fe:=by rw[h.fe];exact r.fe
 ch:=by
  obtain⟨l,h1,h2,h3,h4⟩:=r.ch;exact⟨l,by rw[h.ab,h.inn];exact h1,h2,h3,fun x hx=>by rw[h.fo];exact h4 x hx⟩
 tg:=r.tg
theorem CS.count_like{c:CS}{t:It}(r:Rdy c t)(n:T2):c.Like (c.count (c.chn t.feed) t n) where
 it:=rfl
 c4:=rfl
 inn:=rfl
 ab:=rfl
 fe:=fun id=>by
  show(lkM (upM c.fe c.c2 t.feed _) id).isSome=_;rw[aN];split
  ·rename_i h;subst h;rw[r.fe];rfl
  ·rfl
 fo:=fun id=>by
  obtain⟨hnd,hpr⟩:=r.chn;show(lkM (foF n (c.chn t.feed) c.fo c.c1).1 id).isSome=_;rw[tZ n hnd];split
  ·rename_i h;rw[hpr id h];rfl
  ·rfl
end
section
attribute [local irreducible] WP WPl WPix Sat
section
variable {C:Ctx} {ops:Array Oper} {rest:List Oper} {t:Env} {h:Heap} {K:Env→Prop} {dst:Option Nat} {ty:TypeId} {pos:String} {aft:Array Edge}
end
variable (G:Nat→Option (List AVal))
end
section
attribute [local irreducible] WP WPl WPix Sat
variable (G:Nat→Option (List AVal))
end
end Go.Av
namespace Go.Av
open Go Go.Proofs Go.RowKit Go.Maps Go.Sort
def sortB(l:List Bs):List Bs:=l.mergeSort fun x y=>decide (x≤y)
variable (G:Nat→Option (List AVal))
end Go.Av
namespace Go.Av
open Go.RowKit
section
variable {C:Ctx} {B n m:Nat} {S:Addr→Prop} {μ:Map} {h:Heap} {w:World} {t:Env} {a:Act} {ds:List Deferred}
variable {p:Nat} {Q Q0 Q1:Exit→Env→Heap→Prop} {c d:Code}
end
end Go.Av
