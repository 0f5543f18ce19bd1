/- Parts. -/
import Derived.Test.YtmfhelaoeaifeaaGreatDoorMmQc
set_option linter.unusedSimpArgs false
set_option linter.unusedVariables false
set_option linter.unusedSectionVars false
set_option linter.unnecessarySimpa false
set_option maxRecDepth 100000
set_option maxHeartbeats 16000000
namespace Go.Av
open Go Go.Proofs Go.RowKit
section
attribute [local irreducible] WP WPl WPix Sat
variable (G:Nat→Option (List AVal))
theorem vK(pl:Qy→Bool)(B:Nat)(hB:B≤1048576)(hp:∀q h,q.sz≤B→Sat (CT G) 82 [q.av] h (fun r h'=>r=.bool (pl q)∧h'=h)):
  ∀(q:Qy) (h:Heap),q.sz≤B→Sat (CT G) 42 [q.av] h (fun r h'=>r=.bool (q.all pl)∧h'=h):=by
 refine Qy.ind fun op num s ks ih=>?_
 intro h hz;have hpl:=fun h=>hp (.mk op num s ks) h hz
 have hkl:=Qy.szL_len ks;have hkm:∀k∈ks,k.sz≤Qy.szL ks:=fun k hk=>Qy.szL_mem hk
 rw[Qy.sz]at hz;have hml:(ks.map Qy.av).length=ks.length:=L8 ..;rw[Qy.all];generalize pl (.mk op num s ks)=pq at*;rw[Qy.av_eq]at*;have F:=hml;refine sb [.tmp 2] Tryz.func42 ?_;intro Q hQ;refine wk F ?_;refine lm (fun nL tL hL=>∃(k:Nat),ks.length-k=nL∧h++[.row 25 4 0 [.agg [.int .i64 op,.int .i64 num,.str s,.sl 4 (ks.map Qy.av)]]]=hL∧tL 3=.int .i64 k∧k≤ks.length∧Qy.allL pl ks=Qy.allL pl (ks.drop k)) ((fun(k:Nat)=>(ks.length-k:Nat)) (0)) ?_ ?_
 ·refine M2 ⟨0,rfl,aB,?_,by omega,rfl⟩;all_goals try exact zZz F
 rintro _ s2 h' ⟨k,rfl,rfl,e3,hk,hm⟩ K2 hK2;simp only[af,ao,Nat.reduceEqDiff, ↓reduceIte]at e3;have F:=F2 F e3;refine wk F ?_;refine cq F (fun c1=>?_) (fun c1=>?_)<;>(try exact c1.elim)<;>(refine wk F ?_)
 ·have c2:k<ks.length:=by omega
  obtain⟨y,hy,hym⟩:=ac c2;have hc:=fun h=>ih y hym h (by have:=hkm y hym;omega)
  rw[aF hy,Qy.allL]at hm;cases he:y.all pl with
  |true=>
   rw[he,S9]at hm;rw[he]at hc;clear he;obtain⟨yo,yn,ys,yl⟩:=y;rw[Qy.av_eq]at hc;have F:=F3 F hy c2;(try refine sq F ?_);refine wk F ?_;refine kq F (hc _) ?_;refine hK2 _ _ _ (M2 ⟨k+1,rfl,aB,?_,by omega,hm⟩) (by omega);all_goals try exact zZz F
  |false=>
   rw[he,zc0]at hm;rw[he]at hc;clear he;obtain⟨yo,yn,ys,yl⟩:=y;rw[Qy.av_eq]at hc;have F:=F3 F hy c2;(try refine sq F ?_);refine wk F ?_;refine kq F (hc _) ?_;refine ee hQ F ?_;exact L7 (.bool _) ⟨by rw[hm];rfl,rfl⟩
 ·rw[aI c1,Qy.allL]at hm;refine wk F ?_;refine kq F (hpl _) ?_;refine ee hQ F ?_;exact L7 (.bool _) ⟨by rw[hm];rfl,rfl⟩
def ixQ{α:Type}(p:α→Bool)(l:List α):Int:=match l.findIdx? p with
 |some k=>(k:Int)
 |none=> -1
theorem iv{α:Type}(p:α→Bool)(l:List α):decide (ixQ p l≥0)=l.any p:=by
 unfold ixQ;cases h:l.findIdx? p with
 |none=>
  rw[List.findIdx?_eq_none_iff]at h;have:l.any p=false:=by rw[V8];intro x hx;rw[h x hx];simp
  rw[this];rfl
 |some k=>
  obtain⟨hk,hp,_⟩:=List.findIdx?_eq_some_iff_getElem.1 h;have:l.any p=true:=X9.2 ⟨l[k],List.getElem_mem hk,hp⟩;rw[this];simp
theorem i8{α:Type}{p:α→Bool}{l:List α}{k:Nat}{y:α}(hy:l[k]? =some y)(he:p y=true)(hp:∀a∈l.take k,p a=false):ixQ p l=k:=by
 obtain⟨c2,hk⟩:=f9.1 hy;unfold ixQ;have:l.findIdx? p=some k:=by
  rw[List.findIdx?_eq_some_iff_getElem];refine⟨c2,by rw[hk];exact he,fun i hi=>?_⟩;rw[hp _ (by rw[List.mem_take_iff_getElem];exact⟨i,by omega,rfl⟩)];simp
 rw[this]
theorem ia{α:Type}{p:α→Bool}{l:List α}(hp:∀a∈l,p a=false):ixQ p l= -1:=by
 unfold ixQ;rw[List.findIdx?_eq_none_iff.2 hp]
theorem dH{α:Type}{p:α→Bool}{l:List α}{k:Nat}{y:α}(hy:l[k]? =some y)(he:p y=false)(hp:∀a∈l.take k,p a=false):∀a∈l.take (k+1),p a=false:=by
 rw[P3,hy];intro a ha;simp at ha;rcases ha with ha|rfl
 ·exact hp a ha
 ·exact he
def FinW{σ:Type}(Hp:σ→Heap):Prop:=∀(x y:σ) (r:AVal) (R:AVal→Heap→Prop),(∀N,Clo N r)→R r (Hp y)→Fin (Hp x) (Hp y) R r
theorem o9{σ:Type}{Hp:σ→Heap}{P:σ→Prop}(hF:FinW Hp)(p:Qy→Bool)(g:FuncId)(cap:List AVal)(l:List Qy)(hl:l.length≤1048576)
  (hg:∀a∈l,∀x,P x→Sat (CT G) g ([]++[a.av]++cap) (Hp x) (fun r h'=>r=.bool (p a)∧∃y,P y∧h'=Hp y))(x:σ)(hx:P x):
  Sat (CT G) 122 [.sl 4 (l.map Qy.av),.fn (.func g) [] cap] (Hp x) (fun r h'=>r=.int .i64 (ixQ p l)∧∃y,P y∧h'=Hp y):=by
 have hml:(l.map Qy.av).length=l.length:=L8 ..;have F:=hml;refine sb [.tmp 4] Tryz.func122 ?_;intro Q hQ;refine wk F ?_;refine lm (fun nL tL hL=>∃(k:Nat) (z:σ),l.length-k=nL∧Hp z=hL∧tL 8=.int .i64 k∧k≤l.length∧P z∧(∀a∈l.take k,p a=false)) ((fun(k:Nat) (z:σ)=>(l.length-k:Nat)) (0) (x)) ?_ ?_
 ·refine M2 ⟨0,x,rfl,aB,?_,X1 _,hx,by simp⟩;all_goals try exact zZz F
 rintro _ s2 h' ⟨k,z,rfl,rfl,e8,hk,hz,hp⟩ K2 hK2;simp only[af,ao,Nat.reduceEqDiff, ↓reduceIte]at e8;have F:=F2 F e8;refine wk F ?_;refine cq F (fun c1=>?_) (fun c1=>?_)<;>(try exact c1.elim)<;>(refine wk F ?_)
 ·have c2:k<l.length:=by omega
  obtain⟨y,hy,hym⟩:=ac c2;have hc:=hg y hym z hz;cases he:p y with
  |true=>
   have e:=i8 hy he hp;rw[he]at hc;clear he;obtain⟨yo,yn,ys,yl⟩:=y;rw[Qy.av_eq]at hc;have F:=F3 F hy c2;(try refine sq F ?_);refine wk F ?_;refine hc.mono ?_;rintro r h' ⟨rfl,u,hu,rfl⟩;(try refine sq F ?_);refine wk F ?_;refine ee hQ F ?_;exact hF _ _ _ _ (fun N=>.int _ _) ⟨by rw[e],u,hu,rfl⟩
  |false=>
   have hp1:=dH hy he hp;rw[he]at hc;clear he;obtain⟨yo,yn,ys,yl⟩:=y;rw[Qy.av_eq]at hc;have F:=F3 F hy c2;(try refine sq F ?_);refine wk F ?_;refine hc.mono ?_;rintro r h' ⟨rfl,u,hu,rfl⟩;(try refine sq F ?_);refine wk F ?_;refine hK2 _ _ _ (M2 ⟨k+1,u,rfl,aB,?_,by omega,hu,hp1⟩) (by omega);all_goals try exact zZz F
 ·have e:=ia (p:=p) (l:=l) fun a ha=>hp a (by rwa [N0 (by omega)])
  refine ee hQ F ?_;exact hF _ _ _ _ (fun N=>.int _ _) ⟨by rw[e],z,hz,rfl⟩
theorem ib{σ:Type}{Hp:σ→Heap}{P:σ→Prop}(hF:FinW Hp)(p:Qy→Bool)(g:FuncId)(cap:List AVal)(l:List Qy)(hl:l.length≤1048576)
  (hg:∀a∈l,∀x,P x→Sat (CT G) g ([]++[a.av]++cap) (Hp x) (fun r h'=>r=.bool (p a)∧∃y,P y∧h'=Hp y))(x:σ)(hx:P x):
  Sat (CT G) 71 [.sl 4 (l.map Qy.av),.fn (.func g) [] cap] (Hp x) (fun r h'=>r=.bool (l.any p)∧∃y,P y∧h'=Hp y):=by
 have hc:=o9 G hF p g cap l hl hg x hx;rw[← iv];refine sb [.tmp 4] Tryz.func71 ?_;intro Q hQ;refine wk trivial ?_;refine hc.mono ?_;rintro r h' ⟨rfl,u,hu,rfl⟩;try refine sq trivial ?_
 refine wk trivial ?_;refine ee hQ trivial ?_;exact hF _ _ _ _ (fun N=>.bool _) ⟨rfl,u,hu,rfl⟩
theorem vL(p:Qy→Bool)(g:FuncId)(cap:List AVal)(h:Heap)(l:List Qy)(hl:l.length≤1048576)(hg:∀a∈l,Sat (CT G) g ([]++[a.av]++cap) h (fun r h'=>r=.bool (p a)∧h'=h)):
  Sat (CT G) 71 [.sl 4 (l.map Qy.av),.fn (.func g) [] cap] h (fun r h'=>r=.bool (l.any p)∧h'=h):=
 (ib G (Hp:=fun _:Unit=>h) (P:=fun _=>True) (fun _ _ _ _ hc hR=>P2 (hc _) hR) p g cap l hl (fun a ha _ _=>(hg a ha).mono fun r h' ⟨h1,h2⟩=>⟨h1,(),trivial,h2⟩) () trivial).mono fun r h' ⟨h1,_,_,h2⟩=>⟨h1,h2⟩
def plP(nm tx kd:Qy→Bool)(q:Qy):Bool:= !(decide (q.op<1)||(decide (q.op>15)||(!nm q||(!tx q|| !kd q))))
theorem qM(nm tx kd:Qy→Bool)(B:Nat)(hB:B≤1048576)(h1:∀q h,q.sz≤B→Sat (CT G) 115 [q.av] h (fun r h'=>r=.bool (nm q)∧h'=h))(h2:∀q h,q.sz≤B→Sat (CT G) 116 [q.av] h (fun r h'=>r=.bool (tx q)∧h'=h))
  (h3:∀q h,q.sz≤B→Sat (CT G) 117 [q.av] h (fun r h'=>r=.bool (kd q)∧h'=h)):
  ∀(q:Qy) (h:Heap),q.sz≤B→Sat (CT G) 66 [q.av] h (fun r h'=>r=.bool (q.all (plP nm tx kd))∧h'=h):=by
 refine Qy.ind fun op num s ks ih=>?_
 intro h hz;have k1:=fun h=>h1 (.mk op num s ks) h hz
 have k2:=fun h=>h2 (.mk op num s ks) h hz
 have k3:=fun h=>h3 (.mk op num s ks) h hz
 have hkl:=Qy.szL_len ks;have hkm:∀k∈ks,k.sz≤Qy.szL ks:=fun k hk=>Qy.szL_mem hk
 rw[Qy.sz]at hz;have hcl:∀a∈ks,∀h,Sat (CT G) 118 ([]++[a.av]++[]) h (fun r h'=>r=.bool (!a.all (plP nm tx kd))∧h'=h):=fun a ha h=>by
  have hc:=fun h=>ih a ha h (by have:=hkm a ha;omega)
  generalize a.all (plP nm tx kd)=e at*;obtain⟨yo,yn,ys,yl⟩:=a;rw[Qy.av_eq]at*;refine sb [.tmp 2] Tryz.func118 ?_;intro Q hQ;refine wk trivial ?_;refine kq trivial (hc _) ?_;refine ee hQ trivial ?_;exact L7 (.bool _) ⟨rfl,rfl⟩
 have hany:=fun h=>vL G (fun a=> !a.all (plP nm tx kd)) 118 [] h ks (by omega) (fun a ha=>hcl a ha h)
 have hfin:(!ks.any fun a=> !a.all (plP nm tx kd))=Qy.allL (plP nm tx kd) ks:=by
  rw[Qy.allL_eq,List.all_eq_not_any_not]
 rw[Qy.all, ← hfin];generalize (ks.any fun a=> !a.all (plP nm tx kd))=ay at*;unfold plP;show Sat _ _ _ _ (fun r h'=>r=.bool (!ay&& !(decide (op<1)||(decide (op>15)||(!nm (.mk op num s ks)||(!tx (.mk op num s ks)|| !kd (.mk op num s ks))))))∧h'=h);generalize nm (.mk op num s ks)=e1 at*;generalize tx (.mk op num s ks)=e2 at*;generalize kd (.mk op num s ks)=e3 at*;rw[Qy.av_eq]at*;have dt:∀i:Decidable True, @decide True i=true:=fun i=>by simp
 have df:∀i:Decidable False, @decide False i=false:=fun i=>by simp
 cases b1:decide (op<1)with
 |true=>
  have F:=b1;refine sb [.tmp 2] Tryz.func66 ?_;intro Q hQ;refine wk F ?_;refine ee hQ F ?_;exact L7 (.bool _) ⟨by simp,rfl⟩
 |false=>
 cases b2:decide (op>15)with
 |true=>
  have F:=F2 b1 b2;refine sb [.tmp 2] Tryz.func66 ?_;intro Q hQ;refine wk F ?_;refine ee hQ F ?_;exact L7 (.bool _) ⟨by simp,rfl⟩
 |false=>
 have F:=F2 b1 b2;cases e1 with
 |false=>
  refine sb [.tmp 2] Tryz.func66 ?_;intro Q hQ;refine wk F ?_;refine kq F (k1 _) ?_;refine ee hQ F ?_;exact L7 (.bool _) ⟨by simp,rfl⟩
 |true=>
 cases e2 with
 |false=>
  refine sb [.tmp 2] Tryz.func66 ?_;intro Q hQ;refine wk F ?_;refine kq F (k1 _) ?_;refine kq F (k2 _) ?_;refine ee hQ F ?_;exact L7 (.bool _) ⟨by simp,rfl⟩
 |true=>
 cases e3 with
 |false=>
  refine sb [.tmp 2] Tryz.func66 ?_;intro Q hQ;refine wk F ?_;refine kq F (k1 _) ?_;refine kq F (k2 _) ?_;refine kq F (k3 _) ?_;refine ee hQ F ?_;exact L7 (.bool _) ⟨by simp,rfl⟩
 |true=>
  refine sb [.tmp 2] Tryz.func66 ?_;intro Q hQ;refine wk F ?_;refine kq F (k1 _) ?_;refine kq F (k2 _) ?_;refine kq F (k3 _) ?_;refine kq F (hany _) ?_;refine ee hQ F ?_;exact L7 (.bool _) ⟨by simp,rfl⟩
def kdF(q:Qy):Bool:=if q.op=3∨q.op=4 then decide (2≤q.kds.length)&&decide (q.kds.length≤16)else if q.op=5 then decide (q.kds.length=1)else decide (q.kds.length=0)
theorem tS(q:Qy)(h:Heap)(_hz:q.sz≤1048576):Sat (CT G) 117 [q.av] h (fun r h'=>r=.bool (kdF q)∧h'=h):=by
 obtain⟨op,num,s,ks⟩:=q;have hml:(ks.map Qy.av).length=ks.length:=L8 ..;rw[Qy.av_eq];show Sat _ _ _ _ (fun r h'=>r=.bool (if op=3∨op=4 then decide (2≤ks.length)&&decide (ks.length≤16)else if op=5 then decide (ks.length=1)else decide (ks.length=0))∧h'=h);by_cases k1:op=3∨op=4
 ·rw[M0 k1];rcases k1 with k1|k1
  ·subst k1;have F:=hml;refine sb [.tmp 2] Tryz.func117 ?_;intro Q hQ;refine wk F ?_;repeat' (first
    | (exfalso;omega)
    | (refine cq F (fun hx=>?_) (fun hx=>?_)<;>(try exact hx.elim)<;>(refine wk F ?_))
    | ((first|refine gq F (fun hx=>?_) (fun hx=>?_)|refine pq F (fun hx=>?_) (fun hx=>?_))<;>(try exact hx.elim)<;>(try refine sq F ?_)<;>(refine wk F ?_)))
   all_goals (
    refine ee hQ F ?_;exact L7 (.bool _) ⟨by congr 1;rw[P5];simp;try omega,rfl⟩)
  ·subst k1;have F:=hml;refine sb [.tmp 2] Tryz.func117 ?_;intro Q hQ;refine wk F ?_;repeat' (first
    | (exfalso;omega)
    | (refine cq F (fun hx=>?_) (fun hx=>?_)<;>(try exact hx.elim)<;>(refine wk F ?_))
    | ((first|refine gq F (fun hx=>?_) (fun hx=>?_)|refine pq F (fun hx=>?_) (fun hx=>?_))<;>(try exact hx.elim)<;>(try refine sq F ?_)<;>(refine wk F ?_)))
   all_goals (
    refine ee hQ F ?_;exact L7 (.bool _) ⟨by congr 1;rw[P5];simp;try omega,rfl⟩)
 rw[L5 k1];have d1:(op==3)=false:=by simp;omega
 have d2:(op==4)=false:=by simp;omega
 by_cases k2:op=5
 ·subst k2;rw[M0 rfl];have F:=F3 hml d1 d2;refine sb [.tmp 2] Tryz.func117 ?_;intro Q hQ;refine wk F ?_;repeat' (first
   | (exfalso;omega)
   | (refine cq F (fun hx=>?_) (fun hx=>?_)<;>(try exact hx.elim)<;>(refine wk F ?_))
   | ((first|refine gq F (fun hx=>?_) (fun hx=>?_)|refine pq F (fun hx=>?_) (fun hx=>?_))<;>(try exact hx.elim)<;>(try refine sq F ?_)<;>(refine wk F ?_)))
  all_goals (
   refine ee hQ F ?_;exact L7 (.bool _) ⟨by congr 1;rw[P5];simp;try omega,rfl⟩)
 rw[L5 k2];have d3:(op==5)=false:=by simp[k2]
 have F:=F4 hml d1 d2 d3;refine sb [.tmp 2] Tryz.func117 ?_;intro Q hQ;refine wk F ?_;repeat' (first
  | (exfalso;omega)
  | (refine cq F (fun hx=>?_) (fun hx=>?_)<;>(try exact hx.elim)<;>(refine wk F ?_))
  | ((first|refine gq F (fun hx=>?_) (fun hx=>?_)|refine pq F (fun hx=>?_) (fun hx=>?_))<;>(try exact hx.elim)<;>(try refine sq F ?_)<;>(refine wk F ?_)))
 all_goals (
  refine ee hQ F ?_;exact L7 (.bool _) ⟨by congr 1;rw[P5];simp;try omega,rfl⟩)
def txF(q:Qy):Bool:=if q.op=8 then L0.tag q.txt else if q.op=11∨q.op=12 then isF q.txt else decide (q.txt=[])
theorem tT(q:Qy)(h:Heap)(hz:q.sz≤100000):Sat (CT G) 116 [q.av] h (fun r h'=>r=.bool (txF q)∧h'=h):=by
 obtain⟨op,num,s,ks⟩:=q;rw[Qy.sz]at hz;have hT:=fun h=>nk G s h
 have hW:=fun h=>ph G s (by omega) h
 rw[Qy.av_eq];show Sat _ _ _ _ (fun r h'=>r=.bool (if op=8 then L0.tag s else if op=11∨op=12 then isF s else decide (s=[]))∧h'=h);generalize L0.tag s=e1 at*;generalize isF s=e2 at*;by_cases k1:op=8
 ·rw[M0 k1];subst k1;refine sb [.tmp 2] Tryz.func116 ?_;intro Q hQ;refine wk trivial ?_;refine kq trivial (hT _) ?_;refine ee hQ trivial ?_;exact L7 (.bool _) ⟨rfl,rfl⟩
 rw[L5 k1];have d1:(op==8)=false:=by simp[k1]
 by_cases k2:op=11
 ·subst k2;refine sb [.tmp 2] Tryz.func116 ?_;intro Q hQ;refine wk trivial ?_;refine kq trivial (hW _) ?_;refine ee hQ trivial ?_;exact L7 (.bool _) ⟨rfl,rfl⟩
 by_cases k3:op=12
 ·subst k3;refine sb [.tmp 2] Tryz.func116 ?_;intro Q hQ;refine wk trivial ?_;refine kq trivial (hW _) ?_;refine ee hQ trivial ?_;exact L7 (.bool _) ⟨rfl,rfl⟩
 rw[L5 (by omega)];have d2:(op==11)=false:=by simp[k2]
 have d3:(op==12)=false:=by simp[k3]
 have F:=F3 d1 d2 d3;refine sb [.tmp 2] Tryz.func116 ?_;intro Q hQ;refine wk F ?_;refine ee hQ F ?_;exact L7 (.bool _) ⟨by congr 1;rw[P5];simp,rfl⟩
def nuF(op n:Int):Bool:=if op=6 then decide (1≤n)&&decide (n≤1048576)else if op=7 then decide (0≤n)&&decide (n≤1048576)else if op=13∨op=14 then momF n else if op=15 then decide (1≤n)&&decide (n≤36500)else decide (n=0)
theorem oB(q:Qy)(h:Heap):Sat (CT G) 115 [q.av] h (fun r h'=>r=.bool (nuF q.op q.num)∧h'=h):=by
 obtain⟨op,num,s,ks⟩:=q;rw[Qy.av_eq];show Sat _ _ _ _ (fun r h'=>r=.bool (nuF op num)∧h'=h);unfold nuF;by_cases k1:op=6
 ·rw[M0 k1];subst k1;refine sb [.tmp 2] Tryz.func115 ?_;intro Q hQ;refine wk trivial ?_;repeat' (first
   | (exfalso;omega)
   | (refine cq trivial (fun hx=>?_) (fun hx=>?_)<;>(try exact hx.elim)<;>(refine wk trivial ?_))
   | ((first|refine gq trivial (fun hx=>?_) (fun hx=>?_)|refine pq trivial (fun hx=>?_) (fun hx=>?_))<;>(try exact hx.elim)<;>(try refine sq trivial ?_)<;>(refine wk trivial ?_)))
  all_goals (
   refine ee hQ trivial ?_;exact L7 (.bool _) ⟨by congr 1;rw[P5];simp;try omega,rfl⟩)
 rw[L5 k1];have d1:(op==6)=false:=by simp[k1]
 by_cases k2:op=7
 ·rw[M0 k2];subst k2;refine sb [.tmp 2] Tryz.func115 ?_;intro Q hQ;refine wk trivial ?_;repeat' (first
   | (exfalso;omega)
   | (refine cq trivial (fun hx=>?_) (fun hx=>?_)<;>(try exact hx.elim)<;>(refine wk trivial ?_))
   | ((first|refine gq trivial (fun hx=>?_) (fun hx=>?_)|refine pq trivial (fun hx=>?_) (fun hx=>?_))<;>(try exact hx.elim)<;>(try refine sq trivial ?_)<;>(refine wk trivial ?_)))
  all_goals (
   refine ee hQ trivial ?_;exact L7 (.bool _) ⟨by congr 1;rw[P5];simp;try omega,rfl⟩)
 rw[L5 k2];have d2:(op==7)=false:=by simp[k2]
 by_cases k3:op=13∨op=14
 ·rw[M0 k3];have hd:=pi G num;rcases k3 with k3|k3
  ·subst k3;refine sb [.tmp 2] Tryz.func115 ?_;intro Q hQ;refine wk trivial ?_;refine(hd _).mono ?_;rintro r h' ⟨⟨_,_,_,_,_,_,rfl⟩,rfl⟩;cases hm:momF num
   ·have F:=hm;(try refine sq F ?_);refine wk F ?_;refine ee hQ F ?_;exact L7 (.bool _) ⟨rfl,rfl⟩
   ·have F:=hm;(try refine sq F ?_);refine wk F ?_;refine ee hQ F ?_;exact L7 (.bool _) ⟨rfl,rfl⟩
  ·subst k3;refine sb [.tmp 2] Tryz.func115 ?_;intro Q hQ;refine wk trivial ?_;refine(hd _).mono ?_;rintro r h' ⟨⟨_,_,_,_,_,_,rfl⟩,rfl⟩;cases hm:momF num
   ·have F:=hm;(try refine sq F ?_);refine wk F ?_;refine ee hQ F ?_;exact L7 (.bool _) ⟨rfl,rfl⟩
   ·have F:=hm;(try refine sq F ?_);refine wk F ?_;refine ee hQ F ?_;exact L7 (.bool _) ⟨rfl,rfl⟩
 rw[L5 k3];have d3:(op==13)=false:=by simp;omega
 have d4:(op==14)=false:=by simp;omega
 by_cases k4:op=15
 ·rw[M0 k4];subst k4;refine sb [.tmp 2] Tryz.func115 ?_;intro Q hQ;refine wk trivial ?_;repeat' (first
   | (exfalso;omega)
   | (refine cq trivial (fun hx=>?_) (fun hx=>?_)<;>(try exact hx.elim)<;>(refine wk trivial ?_))
   | ((first|refine gq trivial (fun hx=>?_) (fun hx=>?_)|refine pq trivial (fun hx=>?_) (fun hx=>?_))<;>(try exact hx.elim)<;>(try refine sq trivial ?_)<;>(refine wk trivial ?_)))
  all_goals (
   refine ee hQ trivial ?_;exact L7 (.bool _) ⟨by congr 1;rw[P5];simp;try omega,rfl⟩)
 rw[L5 k4];have d5:(op==15)=false:=by simp[k4]
 have F:=F5 d1 d2 d3 d4 d5;refine sb [.tmp 2] Tryz.func115 ?_;intro Q hQ;refine wk F ?_;refine ee hQ F ?_;exact L7 (.bool _) ⟨by congr 1,rfl⟩
theorem ub(t:Bs)(ht:t.length≤20000)(h:Heap):Sat (CT G) 132 [.str t] h (fun r h'=>r=.bool (isF t)∧h'=h):=by
 have hwl:(wordsF t).length≤1000000:=by
  have h1:=gA (runesF (foldS t)) [] [];have h2:=cB (foldS t).length (foldS t) (M4 _);have h3:=cW t;rw[← gy]at h1;simp only[O7]at h1;omega
 have hS:=lM G (wordsF t) [t] hwl (by simp);refine sb [.tmp 2] Tryz.func132 ?_;intro Q hQ;refine wk trivial ?_;refine kq trivial (cE G t (by omega) _) ?_;refine kq trivial (hS _) ?_;refine ee hQ trivial ?_;exact P2 (.bool _) ⟨by simp[isF],rfl⟩
def kdG(op:Int)(n:Nat):Bool:=if op=3∨op=4 then decide (2≤n)&&decide (n≤16)else if op=5 then decide (n=1)else decide (n=0)
def txG(op:Int)(t:Bs):Bool:=if op=8 then L0.tag t else if op=11∨op=12 then isF t else decide (t=[])
def pnG(op num:Int)(t:Bs)(n:Nat):Bool:=decide (1≤op)&&decide (op≤15)&&nuF op num&&txG op t&&kdG op n
theorem Gk(op num:Int)(s:Bs)(ks:List AVal)(h:Heap)(ho:op=1∨op=2∨op=3∨op=4∨op=5∨op=6∨op=7∨op=9∨op=10∨op=15):Sat (CT G) 82 [.agg [.int .i64 op,.int .i64 num,.str s,.sl 4 ks]] h (fun r h'=>r=.bool (pnG op num s ks.length)∧h'=h):=by
 rcases ho with rfl|rfl|rfl|rfl|rfl|rfl|rfl|rfl|rfl|rfl;all_goals (
  refine sb [.tmp 2] Tryz.func82 ?_;intro Q hQ;refine wk trivial ?_;repeat' (first
   | (exfalso;omega)
   | (refine cq trivial (fun hx=>?_) (fun hx=>?_)<;>(try exact hx.elim)<;>(refine wk trivial ?_))
   | ((first|refine gq trivial (fun hx=>?_) (fun hx=>?_)|refine pq trivial (fun hx=>?_) (fun hx=>?_))<;>(try exact hx.elim)<;>(try refine sq trivial ?_)<;>(refine wk trivial ?_)))
  all_goals (
   refine ee hQ trivial ?_;exact L7 (.bool _) ⟨by congr 1;rw[P5];simp[pnG,nuF,txG,kdG, *];try omega,rfl⟩))
theorem il(s:PS)(id:Int){H:Heap}{n:Nat}(hn:n+9≤H.length):Sat (CT G) 241 [.hp (n+8) 0 0 0,.int .i64 id] (so H n s) (fun r h'=>r=.tup [((lkM s.fo id).getD Fo.z).av,.bool (lkM s.fo id).isSome]∧h'=so H n s):=by
 refine sb [.cell 4 90,.tmp 5] Tryz.func241 ?_;intro Q hQ;refine wk trivial ?_;refine ye hQ trivial ?_;exact au hn (.tup _ (fun x hx=>by simp only[M6,P7,or_false]at hx;rcases hx with rfl|rfl;exact zc3 _ _;exact .bool _)) ⟨rfl,rfl⟩
theorem oG(s:PS){H:Heap}{n:Nat}(hn:n+9≤H.length):Sat (CT G) 77 [.hp (n+8) 0 0 0] (so H n s) (fun r h'=>r=.int .i64 s.clock∧h'=so H n s):=by
 refine sb [.tmp 2] Tryz.func77 ?_;intro Q hQ;refine wk trivial ?_;refine ee hQ trivial ?_;exact cT hn (.int _ _) ⟨rfl,rfl⟩
theorem nv(s:PS)(id:Int){H:Heap}{n:Nat}(hn:n+9≤H.length):Sat (CT G) 209 [.hp (n+8) 0 0 0,.int .i64 id] (so H n s) (fun r h'=>r=.bool (s.within id)∧h'=so H n s):=by
 have hc:=il G s id hn;cases hi:(id==0)with
 |true=>
  have F:=hi;refine sb [.tmp 4] Tryz.func209 ?_;intro Q hQ;refine wk F ?_;refine kq F (hc) ?_;refine ee hQ F ?_;exact au hn (.bool _) ⟨by unfold PS.within;rw[show decide (id=0)=(id==0)from rfl,hi];rfl,rfl⟩
 |false=>
  have F:=hi;refine sb [.tmp 4] Tryz.func209 ?_;intro Q hQ;refine wk F ?_;refine kq F (hc) ?_;refine ee hQ F ?_;exact au hn (.bool _) ⟨by unfold PS.within;rw[show decide (id=0)=(id==0)from rfl,hi];rfl,rfl⟩
def insF(l:ML Int Fo)(u:Int):Nat→Int→Bool
 |0,id=>decide (id=u)
 |k+1,id=>if id≠u∧id≠0 then insF l u k ((lkM l id).getD Fo.z).inn else decide (id=u)
theorem gB{l:ML Int Fo}{u id:Int}(h:¬(id≠u∧id≠0)):∀k,insF l u k id=decide (id=u)
 |0=>rfl
 |k+1=>by rw[insF,L5 h]
theorem pz{l:ML Int Fo}{u id:Int}{k:Nat}(h:id≠u∧id≠0):insF l u (k+1) id=insF l u k ((lkM l id).getD Fo.z).inn:=by rw[insF,M0 h]
theorem oH(s:PS)(h:s.Inv)(id u:Int){H:Heap}{n:Nat}(hn:n+9≤H.length):Sat (CT G) 210 [.hp (n+8) 0 0 0,.int .i64 id,.int .i64 u] (so H n s) (fun r h'=>r=.bool (insF s.fo u 8 id)∧h'=so H n s):=by
 obtain⟨d0,hd0,hdp⟩:=h.dp id;have hz:lkM s.fo 0=none:=by
  cases hl:lkM s.fo 0 with
  |none=>rfl
  |some f=>have:=(h.i1 0 f hl).2.1;omega
 refine sb [.tmp 6] Tryz.func210 ?_;intro Q hQ;refine wk trivial ?_;refine lm (fun nL tL hL=>∃(k:Nat) (x:Int) (j:Heap),k=nL∧so (H++j) n s=hL∧tL 0=.hp (n+8) 0 0 0∧tL 1=.int .i64 x∧tL 2=.int .i64 u∧insF s.fo u 8 id=insF s.fo u k x∧(x=0∨∃m d,deepO s.fo m x=some d∧d+1≤k)) ((fun(k:Nat) (x:Int) (j:Heap)=>(k:Nat)) (8) (id) ([])) ?_ ?_
 ·refine M2 ⟨8,id,[],rfl,by rw[O8],?_,?_,?_,rfl,.inr ⟨7,d0,hdp,by omega⟩⟩;all_goals try exact zZz trivial
 rintro _ s2 h' ⟨k,x,j,rfl,rfl,e0,e1,e2,h1,h2⟩ K2 hK2;simp only[af,ao,Nat.reduceEqDiff, ↓reduceIte]at e0 e1 e2;have F:=F3 e0 e1 e2;have hnj:n+9≤(H++j).length:=by simp;omega
 by_cases hc:x≠u∧x≠0
 ·have b1:(x !=u)=true:=by simpa using hc.1
  have b2:(x !=0)=true:=by simpa using hc.2
  obtain⟨m,d,hm,hdk⟩:=h2.resolve_left hc.2;obtain⟨k,rfl⟩:∃k',k=k'+1:=⟨k-1,by omega⟩;replace h1:=h1.trans (pz hc);have h3:((lkM s.fo x).getD Fo.z).inn=0∨∃m d,deepO s.fo m ((lkM s.fo x).getD Fo.z).inn=some d∧d+1≤k:=by
   cases hl:lkM s.fo x with
   |none=>exact .inl rfl
   |some f=>
    refine .inr ?_;cases m with
    |zero=>rw[deepO,hl]at hm;simp at hm
    |succ m=>
     rw[deepO,hl]at hm;simp only[N2]at hm;obtain⟨d1,h4,rfl⟩:=hm;exact⟨m,d1,h4,by omega⟩
  have hF:=il G s x hnj;generalize (lkM s.fo x).getD Fo.z=f at*;have F:=F3 F b1 b2;refine wk F ?_;refine kq F (hF) ?_;refine hK2 _ _ _ (M2 ⟨k,f.inn,j++[.row 90 3 0 [f.av]],rfl,rfl,?_,?_,?_,h1,h3⟩) (by omega);all_goals try exact zZz F
 ·replace h1:=h1.trans (gB hc k);by_cases hxu:x=u
  ·have b1:(x !=u)=false:=(by simp[hxu]);have F:=F2 F b1;refine wk F ?_;refine ee hQ F ?_;exact au hn (.bool _) ⟨by rw[h1];congr 1,rfl⟩
  ·have b1:(x !=u)=true:=(by simp[hxu]);have b2:(x !=0)=false:=(by simp;exact Decidable.byContradiction fun e=>hc ⟨hxu,e⟩);have F:=F3 F b1 b2;refine wk F ?_;refine ee hQ F ?_;exact au hn (.bool _) ⟨by rw[h1];congr 1,rfl⟩
def undF(s:PS)(id:Int):List Int:=if s.within id then(s.tell.fe.filter fun f=>decide (id=0)||insF s.fo id 8 f.inn).map (·.id)else []
def twB(Y:Heap)(n:Nat)(s:PS)(a:Nat)(b1 b2:Blk):Heap:=so (ov Y a [b1,b2]) n s
section
variable {Y:Heap} {n a:Nat} {s:PS} {b1 b2:Blk}
theorem cK(hn:n+9≤a)(hm:a+2≤Y.length):twB Y n s a b1 b2=ov (so Y n s) a [b1,b2]:=oY (bs:=s.bl n) (cs:=[b1,b2]) (by show n+9≤Y.length;omega) hm (.inl hn)
theorem bZ(hm:a+2≤Y.length):(ov Y a [b1,b2]).length=Y.length:=aT hm
@[go_sem] theorem zL(hn:n+9≤a)(hm:a+2≤Y.length)(j:Heap):twB Y n s a b1 b2++j=twB (Y++j) n s a b1 b2:=by
 unfold twB;rw[bj (by rw[bZ hm];omega),fM hm]
@[go_sem] theorem zM(hn:n+9≤a)(hm:a+2≤Y.length):(twB Y n s a b1 b2).length=Y.length:=by
 unfold twB;rw[aQ (by rw[bZ hm];omega),bZ hm]
@[go_sem] theorem zN(hn:n+9≤a)(hm:a+2≤Y.length){p:Nat}(u:Nat)(hp:a+2≤p):getRow (twB Y n s a b1 b2) p u=getRow Y p u:=by
 unfold twB;rw[bN (by rw[bZ hm];omega) u (by omega),ir u hm (.inr hp)]
@[go_sem] theorem zO(hn:n+9≤a)(hm:a+2≤Y.length){p:Nat}(b:Blk)(hp:a+2≤p):(twB Y n s a b1 b2).set p b=twB (Y.set p b) n s a b1 b2:=by
 unfold twB;rw[xy (by rw[bZ hm];omega) b (by omega),hJ b hm (.inr hp)]
@[go_sem] theorem Kh(hn:n+9≤a)(hm:a+2≤Y.length)(u:Nat):getRow (twB Y n s a b1 b2) a u=getRow [b1] 0 u:=by
 rw[cK hn hm];unfold getRow;rw[zl (by rw[aQ (by omega)];exact hm) (by simp)];rfl
@[go_sem] theorem Cl(hn:n+9≤a)(hm:a+2≤Y.length)(u:Nat):getRow (twB Y n s a b1 b2) (a+1) u=getRow [b2] 0 u:=by
 rw[cK hn hm,mL u (by rw[aQ (by omega)];exact hm) (by simp)];rfl
@[go_sem] theorem Cm(hn:n+9≤a)(hm:a+2≤Y.length):mapAt (twB Y n s a b1 b2) a=mapAt [b1] 0:=by
 rw[cK hn hm,oZ (by rw[aQ (by omega)];exact hm) (by simp)];rfl
@[go_sem] theorem Cn(hn:n+9≤a)(hm:a+2≤Y.length)(b:Blk):(twB Y n s a b1 b2).set a b=twB Y n s a b b2:=by
 rw[cK hn hm,cK hn hm,kL b (by rw[aQ (by omega)];exact hm) (by simp)];rfl
@[go_sem] theorem Ki(hn:n+9≤a)(hm:a+2≤Y.length)(b:Blk):(twB Y n s a b1 b2).set (a+1) b=twB Y n s a b1 b:=by
 rw[cK hn hm,cK hn hm,cI b (by rw[aQ (by omega)];exact hm) (by simp)];rfl
theorem kg{j:Heap}{c1 c2:Blk}{R:AVal→Heap→Prop}{r:AVal}(hn:n+9≤a)(hm:a+2≤Y.length)(h1:CloB Y.length c1)(h2:CloB Y.length c2)(hc:Clo Y.length r)(hR:R r (twB Y n s a c1 c2)):Fin (twB Y n s a b1 b2) (twB (Y++j) n s a c1 c2) R r:=by
 rw[cK hn hm,cK hn (by simp;omega), ← bj (by omega)];rw[cK hn hm]at hR;have hl:(so Y n s).length=Y.length:=aQ (by omega);exact mM (by rw[hl];exact hm) rfl (fun b hb=>by
  rw[hl];simp only[M6,P7,or_false]at hb;rcases hb with rfl|rfl
  ·exact h1
  ·exact h2) (by rw[hl];exact hc) hR
theorem pA{c1 c2:Blk}{R:AVal→Heap→Prop}{r:AVal}(hn:n+9≤a)(hm:a+2≤Y.length)(h1:CloB Y.length c1)(h2:CloB Y.length c2)(hc:Clo Y.length r)(hR:R r (twB Y n s a c1 c2)):Fin (twB Y n s a b1 b2) (twB Y n s a c1 c2) R r:=by
 have:=kg (j:=[]) (b1:=b1) (b2:=b2) hn hm h1 h2 hc hR
 rwa [O8]at this
end
def u1(q k:Nat):Blk:=.row 38 1 0 [.hs (q+1) k 0 k true]
def u2(l:List Int):Blk:=.row 3 1 l.length (l.map iA)
theorem rN(s:PS)(f:Fe)(l:List Int)(hl:l.length≤100000){Y:Heap}{n q:Nat}(hn:n+9≤q)(hm:q+2≤Y.length):Sat (CT G) 172 [f.av,.hp q 0 0 0] (twB Y n s q (u1 q l.length) (u2 l)) (fun r h'=>r=.tup []∧h'=twB Y n s q (u1 q (l.length+1)) (u2 (l++[f.id]))):=by
 have r0:getRow [u1 q l.length] 0 0=some (38,1,[.hs (q+1) l.length 0 l.length true]):=rfl;have r1:getRow [u2 l] 0 l.length=some (3,1,l.map iA):=by simp[getRow,u2]
 have hml:(l.map iA).length=l.length:=L8 ..;have e2:u2 (l++[f.id])=.row 3 1 (l.length+1) (l.map iA++[.int .i64 f.id]):=by simp[u2,iA]
 have e1:u1 q (l.length+1)=.row 38 1 0 [.hs (q+1) (l.length+1) 0 (l.length+1) true]:=rfl;have hm1:∀j:Heap,q+2≤(Y++j).length:=fun j=>by simp;omega
 have F:=F7 r0 r1 hml hm hn hm1 @aw;refine sb [] Tryz.func172 ?_;intro Q hQ;refine wk F ?_;refine aq F ?_;try refine sq F ?_
 refine wk F ?_;refine ee hQ F ?_;rw[e1,e2];refine kg hn hm ?_ ?_ (.tup _ (by simp)) ⟨rfl,rfl⟩
 ·intro c hc;simp only[X3]at hc;subst hc;exact .hs _ _ _ _ _ (by omega)
 ·intro c hc;rw[S5,M9,X3]at hc;rcases hc with⟨y,_,rfl⟩|rfl<;>exact .int _ _
theorem ue{q k N:Nat}(h:q+2≤N):CloB N (u1 q k):=fun c hc=>by
 simp only[X3]at hc;subst hc;exact .hs _ _ _ _ _ (by omega)
theorem uf(l:List Int)(N:Nat):CloB N (u2 l):=fun c hc=>by
 obtain⟨y,_,rfl⟩:=M9.1 hc;exact .int _ _
theorem oI(s:PS)(h:s.Inv)(id:Int){Y:Heap}{n q:Nat}(hn:n+9≤q)(hm:q+2≤Y.length):Sat (CT G) 171 [.hp (n+8) 0 0 0,.int .i64 id,.fn (.func 172) [] [.hp q 0 0 0]] (twB Y n s q (u1 q 0) (u2 [])) (fun r h'=>r=.tup []∧h'=twB Y n s q (u1 q (undF s id).length) (u2 (undF s id))):=by
 have hcf:Sat (CT G) 209 [.hp (n+8) 0 0 0,.int .i64 id] (twB Y n s q (u1 q 0) (u2 [])) (fun r h'=>r=.bool (s.within id)∧h'=twB Y n s q (u1 q 0) (u2 [])):=nv G s id (by rw[bZ hm];omega);unfold undF;cases hw:s.within id with
 |false=>
  rw[hw]at hcf;refine sb [] Tryz.func171 ?_;intro Q hQ;refine wk trivial ?_;refine kq trivial (hcf) ?_;refine ee hQ trivial ?_;exact pA hn hm (ue hm) (uf _ _) (.tup _ (by simp)) ⟨rfl,rfl⟩
 |true=>
  rw[hw]at hcf;have hT:Sat (CT G) 21 [.hp (n+8) 0 0 0] (twB Y n s q (u1 q 0) (u2 [])) (fun r h'=>r=s.tell.av∧h'=twB Y n s q (u1 q 0) (u2 [])):=qC G s h.toOk (by rw[bZ hm];omega);have hfl:s.tell.fe.length≤100000:=by have:=aK (z:=Fe.z) s.fe;have:=h.l2;show(valsM Fe.z s.fe).length≤_;omega
  rw[St.av_eq]at hT;generalize s.tell.fe=fe at*;rw[M0 rfl];have hfm:(fe.map Fe.av).length=fe.length:=L8 ..;have F:=hfm;refine sb [] Tryz.func171 ?_;intro Q hQ;refine wk F ?_;refine kq F (hcf) ?_;refine kq F (hT) ?_;refine lm (fun nL tL hL=>∃(k:Nat) (j:Heap),fe.length-k=nL∧twB (Y++j) n s q (u1 q ((fe.take k).filter fun f=>decide (id=0)||insF s.fo id 8 f.inn).length) (u2 (((fe.take k).filter fun f=>decide (id=0)||insF s.fo id 8 f.inn).map (·.id)))=hL∧tL 16=.int .i64 k∧k≤fe.length) ((fun(k:Nat) (j:Heap)=>(fe.length-k:Nat)) (0) ([])) ?_ ?_
  ·refine M2 ⟨0,[],rfl,by rw[O8];rfl,?_,by omega⟩;all_goals try exact zZz F
  rintro _ s2 h' ⟨k,j,rfl,rfl,e16,hk⟩ K2 hK2;simp only[af,ao,Nat.reduceEqDiff, ↓reduceIte]at e16;have F:=F2 F e16;refine wk F ?_;have hmj:q+2≤(Y++j).length:=by simp;omega
  refine cq F (fun c1=>?_) (fun c1=>?_)<;>(try exact c1.elim)<;>(refine wk F ?_)
  ·have c2:k<fe.length:=(by omega);obtain⟨f,hf,hfm1⟩:=ac c2;have ht:(fe.take (k+1)).filter (fun f=>decide (id=0)||insF s.fo id 8 f.inn)=(fe.take k).filter (fun f=>decide (id=0)||insF s.fo id 8 f.inn)++if (decide (id=0)||insF s.fo id 8 f.inn)=true then [f]else []:=by
    rw[P3,hf,List.filter_append];congr 1
    simp only[Option.toList_some,Y9,List.filter_nil]
   have hl:((fe.take k).filter fun f=>decide (id=0)||insF s.fo id 8 f.inn).length≤100000:=by
    refine Q7 (Y8 _ _) ?_;rw[O6];omega
   have hin:∀X:Heap,q+2≤X.length→∀b1 b2,Sat (CT G) 210 [.hp (n+8) 0 0 0,.int .i64 f.inn,.int .i64 id] (twB X n s q b1 b2) (fun r h'=>r=.bool (insF s.fo id 8 f.inn)∧h'=twB X n s q b1 b2):=fun X hX b1 b2=>oH G s h f.inn id (by rw[bZ hX];omega)
   have hus:=fun(X:Heap) (hX:q+2≤X.length)=>rN G s f (((fe.take k).filter fun f=>decide (id=0)||insF s.fo id 8 f.inn).map (·.id)) (by rw[L8];exact hl) (Y:=X) hn hX
   simp only[L8]at hus;generalize ((fe.take k).filter fun f=>decide (id=0)||insF s.fo id 8 f.inn)=fl at*;have hx:∀g:Fe,q+2≤((Y++j)++[Blk.row 93 4 0 [g.av]]).length:=fun g=>by simp;omega
   cases hi:(id==0)with
   |true=>
    have hp:(decide (id=0)||insF s.fo id 8 f.inn)=true:=(by rw[show decide (id=0)=(id==0)from rfl,hi];rfl);rw[hp,M0 rfl]at ht;have F:=F5 F c2 hf hi @aw;(try refine sq F ?_);refine wk F ?_;refine kq F (hus _ (by simp;omega)) ?_;refine hK2 _ _ _ (M2 ⟨k+1,j++[.row 93 4 0 [f.av]],rfl,by rw[ht,Q9,N3];rfl,?_,by omega⟩) (by omega);all_goals try exact zZz F
   |false=>
    have hi0:decide (id=0)=false:=(by rw[show decide (id=0)=(id==0)from rfl,hi]);have hp2:(decide (id=0)||insF s.fo id 8 f.inn)=insF s.fo id 8 f.inn:=(by rw[hi0,Bool.false_or]);rw[hp2]at ht;cases hp:insF s.fo id 8 f.inn with
    |true=>
     rw[hp]at hin;rw[hp,M0 rfl]at ht;have F:=F5 F c2 hf hi @aw;(try refine sq F ?_);refine wk F ?_;refine kq F (hin _ (by simp;omega) _ _) ?_;refine kq F (hus _ (by simp;omega)) ?_;refine hK2 _ _ _ (M2 ⟨k+1,j++[.row 93 4 0 [f.av]],rfl,by rw[ht,Q9,N3];rfl,?_,by omega⟩) (by omega);all_goals try exact zZz F
    |false=>
     rw[hp]at hin;rw[hp,L5 (by simp),O8]at ht;have F:=F5 F c2 hf hi @aw;(try refine sq F ?_);refine wk F ?_;refine kq F (hin _ (by simp;omega) _ _) ?_;refine hK2 _ _ _ (M2 ⟨k+1,j++[.row 93 4 0 [f.av]],rfl,by rw[ht];rfl,?_,by omega⟩) (by omega);all_goals try exact zZz F
  ·rw[N0 (by omega)];refine ee hQ F ?_;exact kg hn hm (ue hm) (uf _ _) (.tup _ (by simp)) ⟨rfl,rfl⟩
theorem rO(s:PS)(h:s.Inv)(id:Int){H:Heap}{n:Nat}(hn:n+9≤H.length):Sat (CT G) 123 [.hp (n+8) 0 0 0,.int .i64 id] (so H n s) (fun r h'=>r=.sl 1 ((undF s id).map iA)∧h'=so H n s):=by
 have hm:H.length+2≤(H++[u1 H.length 0,u2 []]).length:=by simp
 have hu:=oI G s h id (Y:=H++[u1 H.length 0,u2 []]) hn hm;have e:∀k l,twB (H++[u1 H.length 0,u2 []]) n s H.length (u1 H.length k) (u2 l)=so (H++[u1 H.length k,u2 l]) n s:=fun k l=>by
  unfold twB;congr 1
  have:=jM H [u1 H.length k,u2 l] [];rw[O8]at this;rw[this];unfold ov;simp
 rw[e,e]at hu;generalize undF s id=l at*;have hq:so (H++[u1 H.length 0,u2 []]) n s=so H n s++[.row 38 1 0 [.hs (H.length+1) 0 0 0 true],.row 3 1 0 []]:=by
  rw[bj hn];rfl
 have hq2:so (H++[u1 H.length l.length,u2 l]) n s=so H n s++[.row 38 1 0 [.hs (H.length+1) l.length 0 l.length true],.row 3 1 l.length (l.map iA)]:=by
  rw[bj hn];rfl
 have hl:=aQ (s:=s) hn;have hne:abin Tryz.prog (so H n s++[Blk.row 38 1 0 [.hs (H.length+1) 0 0 0 true],.row 3 1 0 []]) .neq 29 (.hp (n+8) 0 0 0) (.nil (.pointer none))=some (.bool true):=by
  rw[bj hn];exact zm (by simp;omega)
 rw[hq,hq2]at hu;have hz:Frz (so H n s++[Blk.row 38 1 0 [.hs (H.length+1) l.length 0 l.length true],.row 3 1 l.length (l.map iA)]) (so H n s).length (.hs (H.length+1) l.length 0 l.length true) (.sl 1 (l.map iA)):=by
  refine za3 (by omega) (e:=3) (by rw[bd _ (by rw[hl])];simp[getRow]) (by simp) (fun r hr=>?_) (fun r hr=>?_)
  ·obtain⟨x,_,rfl⟩:=M9.1 hr;exact .int _ _
  ·obtain⟨x,_,rfl⟩:=M9.1 hr;intro c hc;simp[AVal.cells,iA]at hc;subst hc;rfl
 generalize so H n s=X at*;have F:=F3 hl hne @aw;refine sb [.tmp 4] Tryz.func123 ?_;intro Q hQ;(repeat (first|refine w1 (fun K hK=>?_)|refine w2 ?_|refine w3 ?_| ((first|refine w4 ?_|refine wD ?_|refine w5 ?_|refine w6 ?_|refine w7 ?_);try refine sq F ?_)| (refine w8 ?_;refine sq F ?_;refine w9 ?_)))
 refine hK _ _ (M2 ?_);clear hK K;(repeat (first|refine w1 (fun K hK=>?_)|refine w2 ?_|refine w3 ?_| ((first|refine w4 ?_|refine wD ?_|refine w5 ?_|refine w6 ?_|refine w7 ?_);try refine sq F ?_)| (refine w8 ?_;refine sq F ?_;refine w9 ?_)))
 refine hK _ _ ⟨_,_,Weak.virtCell1 (p:=H.length) (v:=0) 3 1 (by omega) (by simp(disch:=first|omega| (simp only[go_sem, ↓reduceIte,seval];first|done|omega)|fail) only[go_sem, ↓reduceIte,seval,F];rfl),?_⟩;clear hK K;refine wk F ?_;refine kq F (hu) ?_;refine ee hQ F ?_;exact Fin.frz hz ⟨rfl,rfl⟩
theorem lO(l:List Int)(x:Int)(hl:l.length≤1048576)(h:Heap):Sat (CT G) 52 [.sl 1 (l.map iA),.int .i64 x] h (fun r h'=>r=.bool (l.any fun a=>decide (x=a))∧h'=h):=by
 have hi:Sat (CT G) 94 [.sl 1 (l.map iA),.int .i64 x] h (fun r h'=>r=.int .i64 (ixQ (fun a=>decide (x=a)) l)∧h'=h):=by
  have hml:(l.map iA).length=l.length:=L8 ..;have F:=hml;refine sb [.tmp 4] Tryz.func94 ?_;intro Q hQ;refine wk F ?_;refine lm (fun nL tL hL=>∃(k:Nat),l.length-k=nL∧h=hL∧tL 8=.int .i64 k∧k≤l.length∧(∀a∈l.take k,decide (x=a)=false)) ((fun(k:Nat)=>(l.length-k:Nat)) (0)) ?_ ?_
  ·refine M2 ⟨0,rfl,aB,?_,X1 _,by simp⟩;all_goals try exact zZz F
  rintro _ s2 h' ⟨k,rfl,rfl,e8,hk,hp⟩ K2 hK2;simp only[af,ao,Nat.reduceEqDiff, ↓reduceIte]at e8;have F:=F2 F e8;refine wk F ?_;refine cq F (fun c1=>?_) (fun c1=>?_)<;>(try exact c1.elim)<;>(refine wk F ?_)
  ·have c2:k<l.length:=(by omega);obtain⟨y,hy,hym⟩:=ac c2;cases he:(x==y)with
   |true=>
    have e:=i8 (p:=fun a=>decide (x=a)) hy he hp;have F:=F4 F hy c2 he;(try refine sq F ?_);refine wk F ?_;refine ee hQ F ?_;exact P2 (.int _ _) ⟨by rw[e],rfl⟩
   |false=>
    have hp1:=dH (p:=fun a=>decide (x=a)) hy he hp;have F:=F4 F hy c2 he;(try refine sq F ?_);refine wk F ?_;refine hK2 _ _ _ (M2 ⟨k+1,rfl,aB,?_,by omega,hp1⟩) (by omega);all_goals try exact zZz F
  ·have e:=ia (p:=fun a=>decide (x=a)) (l:=l) fun a ha=>hp a (by rwa [N0 (by omega)])
   refine ee hQ F ?_;exact P2 (.int _ _) ⟨by rw[e],rfl⟩
 rw[← iv];refine sb [.tmp 4] Tryz.func52 ?_;intro Q hQ;refine wk trivial ?_;refine kq trivial (hi) ?_;refine ee hQ trivial ?_;exact P2 (.bool _) ⟨rfl,rfl⟩
theorem ug(l:List Bs)(x:Bs)(hl:l.length≤1048576)(h:Heap):Sat (CT G) 74 [.sl 1 (l.map .str),.str x] h (fun r h'=>r=.bool (l.any fun a=>decide (x=a))∧h'=h):=by
 have hi:Sat (CT G) 124 [.sl 1 (l.map .str),.str x] h (fun r h'=>r=.int .i64 (ixQ (fun a=>decide (x=a)) l)∧h'=h):=by
  have hml:(l.map AVal.str).length=l.length:=L8 ..;have F:=hml;refine sb [.tmp 4] Tryz.func124 ?_;intro Q hQ;refine wk F ?_;refine lm (fun nL tL hL=>∃(k:Nat),l.length-k=nL∧h=hL∧tL 8=.int .i64 k∧k≤l.length∧(∀a∈l.take k,decide (x=a)=false)) ((fun(k:Nat)=>(l.length-k:Nat)) (0)) ?_ ?_
  ·refine M2 ⟨0,rfl,aB,?_,X1 _,by simp⟩;all_goals try exact zZz F
  rintro _ s2 h' ⟨k,rfl,rfl,e8,hk,hp⟩ K2 hK2;simp only[af,ao,Nat.reduceEqDiff, ↓reduceIte]at e8;have F:=F2 F e8;refine wk F ?_;refine cq F (fun c1=>?_) (fun c1=>?_)<;>(try exact c1.elim)<;>(refine wk F ?_)
  ·have c2:k<l.length:=(by omega);obtain⟨y,hy,hym⟩:=ac c2;cases he:(x==y)with
   |true=>
    have hx:decide (x=y)=true:=(by simpa using he);have e:=i8 (p:=fun a=>decide (x=a)) hy hx hp;have F:=F4 F hy c2 he;(try refine sq F ?_);refine wk F ?_;refine ee hQ F ?_;exact P2 (.int _ _) ⟨by rw[e],rfl⟩
   |false=>
    have hx:decide (x=y)=false:=(by simpa using he);have hp1:=dH (p:=fun a=>decide (x=a)) hy hx hp;have F:=F4 F hy c2 he;(try refine sq F ?_);refine wk F ?_;refine hK2 _ _ _ (M2 ⟨k+1,rfl,aB,?_,by omega,hp1⟩) (by omega);all_goals try exact zZz F
  ·have e:=ia (p:=fun a=>decide (x=a)) (l:=l) fun a ha=>hp a (by rwa [N0 (by omega)])
   refine ee hQ F ?_;exact P2 (.int _ _) ⟨by rw[e],rfl⟩
 rw[← iv];refine sb [.tmp 4] Tryz.func74 ?_;intro Q hQ;refine wk trivial ?_;refine kq trivial (hi) ?_;refine ee hQ trivial ?_;exact P2 (.bool _) ⟨rfl,rfl⟩
theorem rP(p:Bs→Bool)(g:FuncId)(cap:List AVal)(h:Heap)(l:List Bs)(hl:l.length≤1048576)(hg:∀a∈l,Sat (CT G) g ([]++[.str a]++cap) h (fun r h'=>r=.bool (p a)∧h'=h)):
  Sat (CT G) 211 [.sl 1 (l.map .str),.fn (.func g) [] cap] h (fun r h'=>r=.int .i64 (ixQ p l)∧h'=h):=by
 have hml:(l.map AVal.str).length=l.length:=L8 ..;have F:=hml;refine sb [.tmp 4] Tryz.func211 ?_;intro Q hQ;refine wk F ?_;refine lm (fun nL tL hL=>∃(k:Nat),l.length-k=nL∧h=hL∧tL 8=.int .i64 k∧k≤l.length∧(∀a∈l.take k,p a=false)) ((fun(k:Nat)=>(l.length-k:Nat)) (0)) ?_ ?_
 ·refine M2 ⟨0,rfl,aB,?_,X1 _,by simp⟩;all_goals try exact zZz F
 rintro _ s2 h' ⟨k,rfl,rfl,e8,hk,hp⟩ K2 hK2;simp only[af,ao,Nat.reduceEqDiff, ↓reduceIte]at e8;have F:=F2 F e8;refine wk F ?_;refine cq F (fun c1=>?_) (fun c1=>?_)<;>(try exact c1.elim)<;>(refine wk F ?_)
 ·have c2:k<l.length:=by omega
  obtain⟨y,hy,hym⟩:=ac c2;have hc:=hg y hym;cases he:p y with
  |true=>
   have e:=i8 hy he hp;rw[he]at hc;clear he;have F:=F3 F hy c2;(try refine sq F ?_);refine wk F ?_;refine kq F (hc) ?_;refine ee hQ F ?_;exact P2 (.int _ _) ⟨by rw[e],rfl⟩
  |false=>
   have hp1:=dH hy he hp;rw[he]at hc;clear he;have F:=F3 F hy c2;(try refine sq F ?_);refine wk F ?_;refine kq F (hc) ?_;refine hK2 _ _ _ (M2 ⟨k+1,rfl,aB,?_,by omega,hp1⟩) (by omega);all_goals try exact zZz F
 ·have e:=ia (p:=p) (l:=l) fun a ha=>hp a (by rwa [N0 (by omega)])
  refine ee hQ F ?_;exact P2 (.int _ _) ⟨by rw[e],rfl⟩
theorem wN(p:Bs→Bool)(g:FuncId)(cap:List AVal)(h:Heap)(l:List Bs)(hl:l.length≤1048576)(hg:∀a∈l,Sat (CT G) g ([]++[.str a]++cap) h (fun r h'=>r=.bool (p a)∧h'=h)):
  Sat (CT G) 174 [.sl 1 (l.map .str),.fn (.func g) [] cap] h (fun r h'=>r=.bool (l.any p)∧h'=h):=by
 have hc:=rP G p g cap h l hl hg;rw[← iv];refine sb [.tmp 4] Tryz.func174 ?_;intro Q hQ;refine wk trivial ?_;refine kq trivial (hc) ?_;refine ee hQ trivial ?_;exact P2 (.bool _) ⟨rfl,rfl⟩
theorem rR(s:Bs)(hs:s.length≤100000)(h:Heap):Sat (CT G) 173 [.str s] h (fun r h'=>r=.tup [.str ((wordsF s).headD []),.bool (!(wordsF s).isEmpty)]∧h'=h):=by
 have hW:=gw G s hs;generalize wordsF s=ws at*;have ct:∀(t:Bs) (b:Bool),Clo h.length (.tup [.str t,.bool b]):=fun t b=>.tup _ (fun x hx=>by simp only[M6,P7,or_false]at hx;rcases hx with rfl|rfl;exact .str _;exact .bool _)
 match ws with
 | []=>
  refine sb [.tmp 2,.tmp 3] Tryz.func173 ?_;intro Q hQ;refine wk trivial ?_;refine kq trivial (hW _) ?_;refine ee hQ trivial ?_;exact P2 (ct _ _) ⟨rfl,rfl⟩
 |w::l=>
  refine sb [.tmp 2,.tmp 3] Tryz.func173 ?_;intro Q hQ;refine wk trivial ?_;refine kq trivial (hW _) ?_;repeat' (first
   | (exfalso;first|omega| (simp at hx;done)| (simp at hx;omega))
   | (refine cq trivial (fun hx=>?_) (fun hx=>?_)<;>(try exact hx.elim)<;>(refine wk trivial ?_))
   | ((first|refine gq trivial (fun hx=>?_) (fun hx=>?_)|refine pq trivial (fun hx=>?_) (fun hx=>?_))<;>(try exact hx.elim)<;>(try refine sq trivial ?_)<;>(refine wk trivial ?_)))
  refine ee hQ trivial ?_;exact P2 (ct _ _) ⟨rfl,rfl⟩
def hasG(p:Bs→Bs→Bool)(s w:Bs):Bool:=match wordsF w with
 | []=>false
 |f::_=>(wordsF s).any fun x=>p x f
theorem uh(p:Bs→Bs→Bool)(g:FuncId)(hg:∀x f h,Sat (CT G) g ([]++[.str x,.str f]++[]) h (fun r h'=>r=.bool (p x f)∧h'=h))(x f:Bs)(h:Heap):
  Sat (CT G) 176 ([]++[.str x]++[.hp h.length 0 0 0,.hp (h.length+1) 0 0 0]) (h++[.row 123 1 0 [.fn (.func g) [] []],.row 9 1 0 [.str f]]) (fun r h'=>r=.bool (p x f)∧h'=h++[.row 123 1 0 [.fn (.func g) [] []],.row 9 1 0 [.str f]]):=by
 have hc:=hg x f;generalize p x f=b at*;have F:= @aw;refine sb [.tmp 4] Tryz.func176 ?_;intro Q hQ;refine wk F ?_;refine kq F (hc _) ?_;refine ee hQ F ?_;exact P2 (.bool _) ⟨rfl,rfl⟩
theorem lP(p:Bs→Bs→Bool)(g:FuncId)(hg:∀x f h,Sat (CT G) g ([]++[.str x,.str f]++[]) h (fun r h'=>r=.bool (p x f)∧h'=h))(s w:Bs)(hs:s.length≤100000)(hw:w.length≤100000)(h:Heap):
  Sat (CT G) 125 [.str s,.str w,.fn (.func g) [] []] h (fun r h'=>r=.bool (hasG p s w)∧h'=h):=by
 have hF:=rR G w hw;have hW:=gw G s hs;have hwl:(wordsF s).length≤1048576:=by
  unfold wordsF;rw[L8];have h1:=jm (foldS s);have h2:=cW s;omega
 unfold hasG;generalize wordsF w=ws at*;generalize wordsF s=vs at*
 match ws with
 | []=>
  simp only[List.headD_nil,List.isEmpty_nil,Bool.not_true]at hF;refine sb [.tmp 6] Tryz.func125 ?_;intro Q hQ;refine wk trivial ?_;refine kq trivial (hF _) ?_;refine ee hQ trivial ?_;exact L7 (.bool _) ⟨rfl,rfl⟩
 |f::l=>
  simp only[List.headD_cons,List.isEmpty_cons,Bool.not_false]at hF;have ha:=wN G (fun x=>p x f) 176 [.hp h.length 0 0 0,.hp (h.length+1) 0 0 0] _ vs hwl fun x _=>uh G p g hg x f h
  refine sb [.tmp 6] Tryz.func125 ?_;intro Q hQ;refine wk trivial ?_;refine kq trivial (hF _) ?_;refine kq trivial (hW _) ?_;refine kq trivial (ha) ?_;refine ee hQ trivial ?_;exact L7 (.bool _) ⟨rfl,rfl⟩
def hasF(s w:Bs):Bool:=hasG (fun x f=>decide (x=f)) s w
def bgnF(s w:Bs):Bool:=hasG (fun x f=>Lib.hasPrefix x f) s w
theorem wO(s w:Bs)(hs:s.length≤100000)(hw:w.length≤100000)(h:Heap):Sat (CT G) 75 [.str s,.str w] h (fun r h'=>r=.bool (hasF s w)∧h'=h):=by
 have hc:=lP G (fun x f=>decide (x=f)) 126 (fun x f h=>by
  refine sb [.tmp 4] Tryz.func126 ?_;intro Q hQ;refine wk trivial ?_;refine ee hQ trivial ?_;exact P2 (.bool _) ⟨by congr 1;rw[P5];simp,rfl⟩) s w hs hw
 unfold hasF;refine sb [.tmp 4] Tryz.func75 ?_;intro Q hQ;refine wk trivial ?_;refine kq trivial (hc _) ?_;refine ee hQ trivial ?_;exact P2 (.bool _) ⟨rfl,rfl⟩
theorem oJ(s w:Bs)(hs:s.length≤100000)(hw:w.length≤100000)(h:Heap):Sat (CT G) 76 [.str s,.str w] h (fun r h'=>r=.bool (bgnF s w)∧h'=h):=by
 have hc:=lP G (fun x f=>Lib.hasPrefix x f) 127 (fun x f h=>gL G x f h) s w hs hw;unfold bgnF;refine sb [.tmp 4] Tryz.func76 ?_;intro Q hQ;refine wk trivial ?_;refine kq trivial (hc _) ?_;refine ee hQ trivial ?_;exact P2 (.bool _) ⟨rfl,rfl⟩
end
section
attribute [local irreducible] WP WPl WPix Sat
def leafF(s:PS)(t:It)(op num:Int)(tx:Bs):Bool:=
 if op=1 then true else if op=6 then decide (t.feed=num)else if op=7 then(undF s num).any (fun a=>decide (t.feed=a))
 else if op=8 then t.tags.any (fun a=>decide (tx=a))else if op=9 then !t.read else if op=10 then t.star
 else if op=11 then hasF t.title tx else if op=12 then bgnF t.title tx else if op=13 then decide (t.date<num)else if op=14 then decide (t.date≥num)
 else if op=15 then decide (t.date>IntKind.i64.wrap (s.clock-IntKind.i64.wrap (num*86400)))else false
namespace Qy
mutual
def bel(s:PS)(t:It):Qy→Bool
 | .mk op num tx ks=>if op=3 then belA s t ks else if op=4 then belO s t ks else if op=5 then !belO s t ks else leafF s t op num tx
def belA(s:PS)(t:It):List Qy→Bool
 | []=>true
 |k::ks=>k.bel s t&&belA s t ks
def belO(s:PS)(t:It):List Qy→Bool
 | []=>false
 |k::ks=>k.bel s t||belO s t ks
end
theorem belA_eq(s:PS)(t:It):∀ks:List Qy,belA s t ks= !ks.any fun k=> !k.bel s t
 | []=>rfl
 |k::ks=>by rw[belA,belA_eq s t ks,List.any_cons,Bool.not_or,Bool.not_not]
theorem belO_eq(s:PS)(t:It):∀ks:List Qy,belO s t ks=ks.any fun k=>k.bel s t
 | []=>rfl
 |k::ks=>by rw[belO,belO_eq s t ks,List.any_cons]
end Qy
def lsA(l:List Int):AVal:=.sl 1 (l.map iA)
def am(M:ML Int (List Int))(c:Nat):Blk:=.mp (encM iA lsA M) c
def ar(n a:Nat):Blk:=.row 117 2 0 [.agg [.hp (n+8) 0 0 0,.hm a]]
def Gd(s:PS)(x:ML Int (List Int)×Nat):Prop:=WFM x.1 x.2∧∀id l,lkM x.1 id=some l→l=undF s id
def sa(Y:Heap)(n:Nat)(s:PS)(a:Nat)(x:ML Int (List Int)×Nat):Heap:=twB Y n s a (am x.1 x.2) (ar n a)
theorem kh(M:ML Int (List Int))(c N:Nat):CloB N (am M c):=bS (fun _=>.int _ _) (fun l=>Clo.sl _ _ fun x hx=>by obtain⟨y,_,rfl⟩:=M9.1 hx;exact .int _ _) M
theorem ki{n a N:Nat}(hn:n+9≤a)(h:a+2≤N):CloB N (ar n a):=fun c hc=>by
 simp only[X3]at hc;subst hc;exact .agg _ fun x hx=>by
  simp only[M6,P7,or_false]at hx;rcases hx with rfl|rfl
  ·exact .hp _ _ _ _ (by omega)
  ·exact .hm _ (by omega)
section
variable {Y:Heap} {n a:Nat} {s:PS} {x:ML Int (List Int)×Nat}
@[go_sem] theorem zP(hn:n+9≤a)(hm:a+2≤Y.length)(j:Heap):sa Y n s a x++j=sa (Y++j) n s a x:=zL hn hm j
@[go_sem] theorem zQ(hn:n+9≤a)(hm:a+2≤Y.length):(sa Y n s a x).length=Y.length:=zM hn hm
@[go_sem] theorem ui(hn:n+9≤a)(hm:a+2≤Y.length){p:Nat}(u:Nat)(hp:a+2≤p):getRow (sa Y n s a x) p u=getRow Y p u:=zN hn hm u hp
@[go_sem] theorem uj(hn:n+9≤a)(hm:a+2≤Y.length){p:Nat}(b:Blk)(hp:a+2≤p):(sa Y n s a x).set p b=sa (Y.set p b) n s a x:=zO hn hm b hp
@[go_sem] theorem Kj(hn:n+9≤a)(hm:a+2≤Y.length):getRow (sa Y n s a x) (a+1) 0=some (117,2,[.agg [.hp (n+8) 0 0 0,.hm a]]):=Cl hn hm 0
@[go_sem] theorem Kk(hn:n+9≤a)(hm:a+2≤Y.length):mapAt (sa Y n s a x) a=some (encM iA lsA x.1,x.2):=Cm hn hm
@[go_sem] theorem Kl(hn:n+9≤a)(hm:a+2≤Y.length)(M:ML Int (List Int))(c:Nat):(sa Y n s a x).set a (.mp (encM iA lsA M) c)=sa Y n s a (M,c):=Cn hn hm _
@[go_sem] theorem J2(n:Nat)(l:List AVal):softA (.sl n l)=.sl n l:=(rfl)
@[go_sem] theorem Km(c:Nat)(l:ML Int (List Int))(x:Int)(ls:List Int):putM (encM iA lsA l) c (.int .i64 x) (.sl 1 (ls.map iA)) (ixM l x)=.mp (encM iA lsA (upM l c x ls)) (ckM l c x):=j9 c l x ls rfl
theorem bE{j:Heap}{y:ML Int (List Int)×Nat}{R:AVal→Heap→Prop}{r:AVal}(hn:n+9≤a)(hm:a+2≤Y.length)(hc:∀N,Clo N r)(hR:R r (sa Y n s a y)):Fin (sa Y n s a x) (sa (Y++j) n s a y) R r:=
 kg hn hm (kh _ _ _) (ki hn hm) (hc _) hR
theorem iG(hn:n+9≤a)(hm:a+2≤Y.length):FinW fun x=>sa Y n s a x:=fun x y r R hc hR=>pA hn hm (kh _ _ _) (ki hn hm) (hc _) hR
end
variable (G:Nat→Option (List AVal))
theorem oK(s:PS)(h:s.Inv)(id:Int){Y:Heap}{n a:Nat}(hn:n+9≤a)(hm:a+2≤Y.length)(x:ML Int (List Int)×Nat)(hx:Gd s x):
  Sat (CT G) 73 [.hp (a+1) 0 0 0,.int .i64 id] (sa Y n s a x) (fun r h'=>r=.sl 1 ((undF s id).map iA)∧∃y,Gd s y∧h'=sa Y n s a y):=by
 obtain⟨M,c⟩:=x;have hci:∀(l:List Int) N,Clo N (.sl 1 (l.map iA)):=fun l N=>Clo.sl _ _ fun x hx=>by obtain⟨y,_,rfl⟩:=M9.1 hx;exact .int _ _
 cases hl:lkM M id with
 |some l=>
  have:=hx.2 id l hl;subst this;have F:=hl;refine sb [.tmp 4] Tryz.func73 ?_;intro Q hQ;refine wk F ?_;refine ee hQ F ?_;exact iG hn hm _ _ _ _ (hci _) ⟨rfl,_,hx,rfl⟩
 |none=>
  have hU:Sat (CT G) 123 [.hp (n+8) 0 0 0,.int .i64 id] (sa Y n s a (M,c)) (fun r h'=>r=.sl 1 ((undF s id).map iA)∧h'=sa Y n s a (M,c)):=rO G s h id (by rw[bZ hm];omega);have hx2:Gd s (upM M c id (undF s id),ckM M c id):=⟨hx.1.up _ _,fun k l hk=>by
   rcases aR hk with⟨rfl,rfl⟩| ⟨_,hk⟩
   ·rfl
   ·exact hx.2 k l hk⟩
  generalize undF s id=u at*;have hns:(none:Option (List Int)).isSome=false:=rfl;have F:=F2 hl hns;refine sb [.tmp 4] Tryz.func73 ?_;intro Q hQ;refine wk F ?_;refine kq F (hU) ?_;refine ee hQ F ?_;refine iG hn hm (M,c) (upM M c id u,ckM M c id) _ _ (hci _) ?_;exact⟨rfl,_,hx2,rfl⟩
end
section
attribute [local irreducible] WP WPl WPix Sat
set_option pp.deepTerms true
set_option pp.maxSteps 200000
theorem oM{h:Heap}{p v len n m i:Nat}{b:Bool}{rows:List AVal}(hg:getRow h p v=some (m,n,rows))(hl:rows.length=len)(hi:i≤len):elemsOf h n (.hs p v i (len-i) b)=some (rows.drop i):=by
 simp only[elemsOf,hg,true_and];rw[M0 (by omega),N0 (by rw[Q6];omega)]
theorem j3{h:Heap}{p v len n m:Nat}{b:Bool}{rows:List AVal}(hg:getRow h p v=some (m,n,rows))(hl:rows.length=len):elemsOf h n (.hs p v 0 len b)=some rows:=by
 simp only[elemsOf,hg,true_and];rw[M0 (by omega),za7,N0 (by omega)]
theorem rX{P:Program}{h:Heap}{T e p v n m:Nat}{rows:List AVal}{k:IntKind}(he:elmT P T=some e)(hg:getRow h p v=some (m,n,rows))(hn:szOf P e=some n):
  aslice P h T (.hs p v 0 0 true) (some (.int k ((0:Nat):Int))) none none=some (.hs p v 0 0 true):=by
 simp[aslice,he,hg,hn,optInt]
variable (G:Nat→Option (List AVal))
end
section
attribute [local irreducible] WP WPl WPix Sat
variable (G:Nat→Option (List AVal))
end
section
variable {s:PS}
theorem rY{α:Type}{z:α}{l:ML Int α}{c:Nat}(w:WFM l c):(valsM z l).Perm (l.map (·.2.1)):=by
 have h1:(l.map (·.2.1))=(l.map (·.1)).map fun k=>(lkM l k).getD z:=by
  rw[W5];exact V4 fun e he=>by simp only[Function.comp];rw[bH w.keys (b:=e.2.2) he];rfl
 rw[h1];exact(Y4 _ _).map _
theorem gC{α:Type}{z:α}{l:ML Int α}{key:α→Int}(hid:∀k a,lkM l k=some a→key a=k)(id:Int):fnd key (valsM z l) id=lkM l id:=dW key hid id
theorem PS.Inv.fndFo(h:s.Inv)(id:Int):fnd (·.id) s.tell.fo id=lkM s.fo id:=gC (fun k a hk=>(h.i1 k a hk).1) id
theorem PS.Inv.fndFe(h:s.Inv)(id:Int):fnd (·.id) s.tell.fe id=lkM s.fe id:=gC (fun k a hk=>(h.i2 k a hk).1) id
theorem PS.Inv.fndIt(h:s.Inv)(id:Int):fnd (·.id) s.tell.it id=lkM s.it id:=gC (fun k a hk=>(h.i3 k a hk).1) id
theorem PS.Inv.fndSe(h:s.Inv)(id:Int):fnd (·.id) s.tell.se id=lkM s.se id:=gC (fun k a hk=>(h.i4 k a hk).1) id
theorem PS.Inv.hasT(h:s.Inv){id:Int}(hi:id=0∨(lkM s.fo id).isSome=true):s.tell.has id:=by
 rcases hi with hi|hi
 ·exact .inl hi
 ·obtain⟨f,hf⟩:=N5.1 hi;exact .inr ⟨f,by rw[h.fndFo,hf]⟩
theorem PS.Inv.up(h:s.Inv):s.tell.Up where
 fo:=fun f hf=>by
  obtain⟨k,hk⟩:=aP hf;exact h.hasT (h.u1 k f hk)
 fe:=fun f hf=>by
  obtain⟨k,hk⟩:=aP hf;exact h.hasT (h.u2 k f hk)
 it:=fun t ht=>by
  obtain⟨k,hk⟩:=aP ht;obtain⟨f,hf⟩:=N5.1 (h.u3 k t hk);exact⟨f,by rw[h.fndFe,hf]⟩
 l1:=by have:=aK (z:=Fo.z) s.fo;have:=h.l1;show(valsM Fo.z s.fo).length≤_;omega
 l2:=by have:=aK (z:=Fe.z) s.fe;have:=h.l2;show(valsM Fe.z s.fe).length≤_;omega
 l3:=by have:=aK (z:=It.z) s.it;have:=h.l3;show(valsM It.z s.it).length≤_;omega
 tg:=fun t ht=>by
  obtain⟨k,hk⟩:=aP ht;exact(h.tg k t hk).2
theorem PS.Inv.inT(h:s.Inv)(id:Int):s.tell.inn id=((lkM s.fo id).map (·.inn)).getD 0:=by unfold St.inn;rw[h.fndFo]
theorem ym(h:s.Inv){u:Int}(hu:u≠0):∀{k m:Nat} {p:Int} {l:List Int},k≤m→chS s.fo k p=some l→(s.tell.upW u m p=u↔u∈l):=by
 intro k;induction k with
 |zero=>
  intro m p l _ hc;rw[chS]at hc;split at hc
  ·rename_i hp;cases hc;subst hp;have:s.tell.upW u m 0=0:=by
    cases m with
    |zero=>rfl
    |succ m=>rw[St.upW,M0 (.inr rfl)]
   rw[this];exact⟨fun e=>(hu e.symm).elim,fun e=>by cases e⟩
  ·cases hc
 |succ k ih=>
  intro m p l hm hc;obtain⟨m,rfl⟩:∃m',m=m'+1:=⟨m-1,by omega⟩;rw[chS]at hc;split at hc
  ·rename_i hp;cases hc;subst hp;rw[St.upW,M0 (.inr rfl)];exact⟨fun e=>(hu e.symm).elim,fun e=>by cases e⟩
  ·rename_i hp;simp only[N2]at hc;obtain⟨r,hr,rfl⟩:=hc;rw[St.upW];by_cases hpu:p=u
   ·rw[M0 (.inl hpu)];exact⟨fun _=>by rw[hpu];exact W4 ..,fun _=>hpu⟩
   ·rw[L5 (by rintro(q|q);exact hpu q;exact hp q),h.inT,ih (by omega) hr,M6];exact⟨.inr,fun q=>q.elim (fun e=>(hpu e.symm).elim) id⟩
theorem nF{t:It}(h:s.Inv)(ht:t∈s.its):∃k,lkM s.it k=some t:=by
 obtain⟨e,he,rfl⟩:=M9.1 ht;exact⟨e.1,bH h.w3.keys (b:=e.2.2) he⟩
theorem jr(h:s.Inv):s.tell.it.Perm s.its:=rY h.w3
end
section
attribute [local irreducible] WP WPl WPix Sat
theorem any_at{α:Type}{p:α→Bool}{l:List α}{k:Nat}{y:α}(hy:l[k]? =some y)(he:p y=true):l.any p=true:=X9.2 ⟨y,M7 hy,he⟩
theorem any_no{α:Type}{p:α→Bool}{l:List α}(h:∀a∈l,p a=false):l.any p=false:=V8.2 fun a ha=>by rw[h a ha];exact Bool.false_ne_true
theorem fA{s:Bs}(hs:s.length≤100000):(wordsF s).length≤1048576:=by
 unfold wordsF;rw[L8];have h1:=jm (foldS s);have h2:=cW s;omega
variable (G:Nat→Option (List AVal))
theorem xa(s w:Bs)(hs:s.length≤20000)(hw:w.length≤20000)(h:Heap):Sat (CT G) 79 [.str s,.str w] h (fun r h'=>r=.bool (hasF s w)∧h'=h):=by
 have h1:=cE G s hs;have h2:=cE G w hw;have hl:=fA (s:=s) (by omega);have hl2:=fA (s:=w) (by omega);unfold hasF hasG;generalize wordsF s=l at*;generalize wordsF w=v at*;have ml:(l.map AVal.str).length=l.length:=L8 ..;have mv:(v.map AVal.str).length=v.length:=L8 ..;cases v with
 |nil=>
  have df:∀i:Decidable False, @decide False i=false:=fun i=>O4 id
  have F:=F2 ml df;refine sb [.tmp 4] Tryz.func79 ?_;intro Q hQ;refine wk F ?_;refine kq F (h1 _) ?_;refine kq F (h2 _) ?_;refine lm (fun nL tL hL=>∃(k:Nat),l.length-k=nL∧h=hL∧tL 7=.int .i64 k∧k≤l.length) ((fun(k:Nat)=>(l.length-k:Nat)) (0)) ?_ ?_
  ·refine M2 ⟨0,rfl,aB,?_,by omega⟩;all_goals try exact zZz F
  rintro _ s2 h' ⟨k,rfl,rfl,e7,hk⟩ K2 hK2;simp only[af,ao,Nat.reduceEqDiff, ↓reduceIte]at e7;have F:=F2 F e7;refine wk F ?_;refine cq F (fun c1=>?_) (fun c1=>?_)<;>(try exact c1.elim)<;>(refine wk F ?_)
  ·have c2:k<l.length:=(by omega);refine hK2 _ _ _ (M2 ⟨k+1,rfl,aB,?_,by omega⟩) (by omega);all_goals try exact zZz F
  ·refine ee hQ F ?_;exact P2 (.bool _) ⟨rfl,rfl⟩
 |cons f v=>
  have dv:decide (((v.length+1:Nat):Int)>0)=true:=P1 (by omega);have F:=F3 ml mv dv;refine sb [.tmp 4] Tryz.func79 ?_;intro Q hQ;refine wk F ?_;refine kq F (h1 _) ?_;refine kq F (h2 _) ?_;refine lm (fun nL tL hL=>∃(k:Nat),l.length-k=nL∧h=hL∧tL 7=.int .i64 k∧k≤l.length∧(∀a∈l.take k,decide (a=f)=false)) ((fun(k:Nat)=>(l.length-k:Nat)) (0)) ?_ ?_
  ·refine M2 ⟨0,rfl,aB,?_,by omega,by simp⟩;all_goals try exact zZz F
  rintro _ s2 h' ⟨k,rfl,rfl,e7,hk,hp⟩ K2 hK2;simp only[af,ao,Nat.reduceEqDiff, ↓reduceIte]at e7;have F:=F2 F e7;refine wk F ?_;refine cq F (fun c1=>?_) (fun c1=>?_)<;>(try exact c1.elim)<;>(refine wk F ?_)
  ·have c2:k<l.length:=(by omega);obtain⟨y,hy,hym⟩:=ac c2;by_cases c3:y=f
   ·subst c3;have e:=any_at (p:=fun x=>decide (x=y)) hy (by simp);have F:=F4 F c2 hy (F3 (@X7 Int _ _) (@X7 Bool _ _) (@X7 Bs _ _));(try refine sq F ?_);refine wk F ?_;refine ee hQ F ?_;exact P2 (.bool _) ⟨by rw[e],rfl⟩
   ·have d3:(y==f)=false:=(by simp[c3]);have hp1:=dH (p:=fun x=>decide (x=f)) hy (by simp[c3]) hp;have F:=F4 F c2 hy d3;(try refine sq F ?_);refine wk F ?_;refine hK2 _ _ _ (M2 ⟨k+1,rfl,aB,?_,by omega,hp1⟩) (by omega);all_goals try exact zZz F
  ·have e:=any_no (p:=fun x=>decide (x=f)) (l:=l) fun a ha=>hp a (by rwa [N0 (by omega)])
   refine ee hQ F ?_;exact P2 (.bool _) ⟨by rw[e],rfl⟩
theorem oR(s w:Bs)(hs:s.length≤20000)(hw:w.length≤20000)(h:Heap):Sat (CT G) 80 [.str s,.str w] h (fun r h'=>r=.bool (bgnF s w)∧h'=h):=by
 have h1:=cE G s hs;have h2:=cE G w hw;have hl:=fA (s:=s) (by omega);have hl2:=fA (s:=w) (by omega);unfold bgnF hasG;generalize wordsF s=l at*;generalize wordsF w=v at*;have ml:(l.map AVal.str).length=l.length:=L8 ..;have mv:(v.map AVal.str).length=v.length:=L8 ..;cases v with
 |nil=>
  have df:∀i:Decidable False, @decide False i=false:=fun i=>O4 id
  have F:=F2 ml df;refine sb [.tmp 4] Tryz.func80 ?_;intro Q hQ;refine wk F ?_;refine kq F (h1 _) ?_;refine kq F (h2 _) ?_;refine lm (fun nL tL hL=>∃(k:Nat),l.length-k=nL∧h=hL∧tL 7=.int .i64 k∧k≤l.length) ((fun(k:Nat)=>(l.length-k:Nat)) (0)) ?_ ?_
  ·refine M2 ⟨0,rfl,aB,?_,by omega⟩;all_goals try exact zZz F
  rintro _ s2 h' ⟨k,rfl,rfl,e7,hk⟩ K2 hK2;simp only[af,ao,Nat.reduceEqDiff, ↓reduceIte]at e7;have F:=F2 F e7;refine wk F ?_;refine cq F (fun c1=>?_) (fun c1=>?_)<;>(try exact c1.elim)<;>(refine wk F ?_)
  ·have c2:k<l.length:=(by omega);refine hK2 _ _ _ (M2 ⟨k+1,rfl,aB,?_,by omega⟩) (by omega);all_goals try exact zZz F
  ·refine ee hQ F ?_;exact P2 (.bool _) ⟨rfl,rfl⟩
 |cons f v=>
  have dv:decide (((v.length+1:Nat):Int)>0)=true:=P1 (by omega);have F:=F3 ml mv dv;refine sb [.tmp 4] Tryz.func80 ?_;intro Q hQ;refine wk F ?_;refine kq F (h1 _) ?_;refine kq F (h2 _) ?_;refine lm (fun nL tL hL=>∃(k:Nat),l.length-k=nL∧h=hL∧tL 7=.int .i64 k∧k≤l.length∧(∀a∈l.take k,Lib.hasPrefix a f=false)) ((fun(k:Nat)=>(l.length-k:Nat)) (0)) ?_ ?_
  ·refine M2 ⟨0,rfl,aB,?_,by omega,by simp⟩;all_goals try exact zZz F
  rintro _ s2 h' ⟨k,rfl,rfl,e7,hk,hp⟩ K2 hK2;simp only[af,ao,Nat.reduceEqDiff, ↓reduceIte]at e7;have F:=F2 F e7;refine wk F ?_;refine cq F (fun c1=>?_) (fun c1=>?_)<;>(try exact c1.elim)<;>(refine wk F ?_)
  ·have c2:k<l.length:=(by omega);obtain⟨y,hy,hym⟩:=ac c2;have hpt:=Lib.hasPrefix_of_take y f;by_cases c3:f.length≤y.length
   ·have d0:=P1 c3;rw[d0,S9]at hpt;cases hb:Lib.hasPrefix y f with
    |true=>
     rw[hb]at hpt;have e:=any_at (p:=fun x=>Lib.hasPrefix x f) hy hb;have F:=F5 F c2 hy d0 hpt;(try refine sq F ?_);refine wk F ?_;refine ee hQ F ?_;exact P2 (.bool _) ⟨by rw[e],rfl⟩
    |false=>
     rw[hb]at hpt;have hp1:=dH (p:=fun x=>Lib.hasPrefix x f) hy hb hp;have F:=F5 F c2 hy d0 hpt;(try refine sq F ?_);refine wk F ?_;refine hK2 _ _ _ (M2 ⟨k+1,rfl,aB,?_,by omega,hp1⟩) (by omega);all_goals try exact zZz F
   ·have d0:=O4 c3;rw[d0,zc0]at hpt;have hp1:=dH (p:=fun x=>Lib.hasPrefix x f) hy hpt.symm hp;have F:=F4 F c2 hy d0;(try refine sq F ?_);refine wk F ?_;refine hK2 _ _ _ (M2 ⟨k+1,rfl,aB,?_,by omega,hp1⟩) (by omega);all_goals try exact zZz F
  ·have e:=any_no (p:=fun x=>Lib.hasPrefix x f) (l:=l) fun a ha=>hp a (by rwa [N0 (by omega)])
   refine ee hQ F ?_;exact P2 (.bool _) ⟨by rw[e],rfl⟩
theorem oS(x:St)(hl:x.fo.length≤100000)(id:Int)(h:Heap):Sat (CT G) 128 [x.av,.int .i64 id] h (fun r h'=>r=.bool (decide (id=0)||(fnd (·.id) x.fo id).isSome)∧h'=h):=by
 have hF:=fun h=>bK G x id hl h
 by_cases c1:id=0
 ·subst c1;refine sb [.tmp 4] Tryz.func128 ?_;intro Q hQ;refine wk trivial ?_;refine ee hQ trivial ?_;exact L7 (.bool _) ⟨rfl,rfl⟩
 ·have d1:(id==0)=false:=by simp[c1]
  cases hf:fnd (·.id) x.fo id with
  |none=>
   rw[dz hf]at hF;have F:=d1;refine sb [.tmp 4] Tryz.func128 ?_;intro Q hQ;refine wk F ?_;refine kq F (hF _) ?_;refine ee hQ F ?_;exact L7 (.bool _) ⟨by simp[c1],rfl⟩
  |some f=>
   obtain⟨k,_,hk,_⟩:=bh hf;rw[hk]at hF;have d2:decide ((k:Int)≥0)=true:=(by simp);have F:=F2 d1 d2;refine sb [.tmp 4] Tryz.func128 ?_;intro Q hQ;refine wk F ?_;refine kq F (hF _) ?_;refine ee hQ F ?_;exact L7 (.bool _) ⟨by simp[c1],rfl⟩
end
section
attribute [local irreducible] WP WPl WPix Sat
theorem lT{α:Type}{l:List α}{k:Nat}{y:α}(f:α→Bool)(h:l[k]? =some y):(l.take (k+1)).filter f=(l.take k).filter f++if f y=true then [y]else []:=by
 rw[P3,h,List.filter_append];congr 1
 cases hf:f y<;>simp[hf]
def undR(x:St)(id:Int):List Int:=if (decide (id=0)||(fnd (·.id) x.fo id).isSome)=true then(x.fe.filter fun f=>x.within f.inn id).map (·.id)else []
variable (G:Nat→Option (List AVal))
theorem sx(x:St)(hx:x.Up)(id:Int)(h:Heap):Sat (CT G) 78 [x.av,.int .i64 id] h (fun r h'=>r=.sl 1 ((undR x id).map iA)∧h'=h):=by
 have hel:(x.fe.map Fe.av).length=x.fe.length:=L8 ..;have hl2:=hx.l2;have hF:=fun h=>oS G x (by have:=hx.l1;omega) id h
 have fin:∀(w:Nat) (out:List Int),Fin h (h++[.row 36 9 0 [x.av],.row 3 1 w (out.map iA)]) (fun r h'=>r=.sl 1 (out.map iA)∧h'=h) (.hs (h.length+1) w 0 out.length true):=fun w out=>by
  have hgo:getRow (h++[Blk.row 36 9 0 [x.av],Blk.row 3 1 w (out.map iA)]) (h.length+1) w=some (3,1,out.map iA):=by rw[bd _ rfl];simp[getRow]
  refine Fin.frz (za3 (by simp) hgo (by simp) (fun r hr=>?_) (fun r hr=>?_)) ⟨rfl,rfl⟩
  ·obtain⟨a,_,rfl⟩:=M9.1 hr;exact .int _ _
  ·obtain⟨a,_,rfl⟩:=M9.1 hr;intro c hc;simp[AVal.cells,iA]at hc;subst hc;rfl
 unfold undR;generalize (decide (id=0)||(fnd (·.id) x.fo id).isSome)=b at*;cases b with
 |false=>
  rw[L5 (by simp)];by_cases c0:0<x.fe.length
  ·have F:=hel;refine sb [.tmp 4] Tryz.func78 ?_;intro Q hQ;refine wk F ?_;refine lm (fun nL tL hL=>∃(i:Nat),0=nL∧h++[.row 36 9 0 [x.av],.row 3 1 0 []]=hL∧tL 1=.int .i64 id∧tL 2=.hp h.length 0 0 0∧tL 5=.hs (h.length+1) 0 0 0 true∧tL 6=.int .i64 i∧i<x.fe.length) ((fun(i:Nat)=>(0:Nat)) (0)) ?_ ?_
   ·refine⟨_,_,Y3 5 3 1 (by simp) (by omega) (by exact zq F),⟨0,rfl,aB,?_,?_,?_,?_,c0⟩⟩;all_goals try exact zZz F
   rintro _ s2 h' ⟨i,rfl,rfl,e1,e2,e5,e6,hi⟩ K2 hK2;simp only[af,ao,Nat.reduceEqDiff, ↓reduceIte]at e1 e2 e5 e6;have F:=F5 F e1 e2 e5 e6;have d0:=P1 hi;have F:=F2 F d0;(try refine sq F ?_);refine wk F ?_;refine kq F (hF _) ?_;refine ee hQ F ?_;exact fin 0 []
  ·have F:=hel;refine sb [.tmp 4] Tryz.func78 ?_;intro Q hQ;refine wk F ?_;refine lm (fun nL tL hL=>∃(i:Nat),0=nL∧h++[.row 36 9 0 [x.av],.row 3 1 0 []]=hL∧tL 1=.int .i64 id∧tL 2=.hp h.length 0 0 0∧tL 5=.hs (h.length+1) 0 0 0 true∧tL 6=.int .i64 i∧¬i<x.fe.length) ((fun(i:Nat)=>(0:Nat)) (0)) ?_ ?_
   ·refine⟨_,_,Y3 5 3 1 (by simp) (by omega) (by exact zq F),⟨0,rfl,aB,?_,?_,?_,?_,c0⟩⟩;all_goals try exact zZz F
   rintro _ s2 h' ⟨i,rfl,rfl,e1,e2,e5,e6,hi⟩ K2 hK2;simp only[af,ao,Nat.reduceEqDiff, ↓reduceIte]at e1 e2 e5 e6;have F:=F5 F e1 e2 e5 e6;have d0:=O4 hi;have F:=F2 F d0;(try refine sq F ?_);refine wk F ?_;refine ee hQ F ?_;exact fin 0 []
 |true=>
  rw[M0 rfl];have F:=hel;refine sb [.tmp 4] Tryz.func78 ?_;intro Q hQ;refine wk F ?_;refine lm (fun nL tL hL=>∃(i w:Nat) (out:List Int),x.fe.length-i=nL∧h++[.row 36 9 0 [x.av],.row 3 1 w (out.map iA)]=hL∧tL 1=.int .i64 id∧tL 2=.hp h.length 0 0 0∧tL 5=.hs (h.length+1) w 0 out.length true∧tL 6=.int .i64 i∧i≤x.fe.length∧out.length≤i∧out=((x.fe.take i).filter fun f=>x.within f.inn id).map (·.id)) ((fun(i w:Nat) (out:List Int)=>(x.fe.length-i:Nat)) (0) (0) ([])) ?_ ?_
  ·refine⟨_,_,Y3 5 3 1 (by simp) (by omega) (by exact zq F),⟨0,0,[],rfl,aB,?_,?_,?_,?_,by omega,by simp,by simp⟩⟩;all_goals try exact zZz F
  rintro _ s2 h' ⟨i,w,out,rfl,rfl,e1,e2,e5,e6,hi,hol,hop⟩ K2 hK2;simp only[af,ao,Nat.reduceEqDiff, ↓reduceIte]at e1 e2 e5 e6;have F:=F5 F e1 e2 e5 e6;have hml:(out.map iA).length=out.length:=L8 ..;have F:=F2 F hml;by_cases c1:i<x.fe.length
  ·obtain⟨y,hy,hym⟩:=ac c1;have hW:=fun h=>oE G x hx y.inn id (hx.fe y hym) h
   have hft:=lT (fun f=>x.within f.inn id) hy;have d1:=P1 c1;generalize x.within y.inn id=b at*;cases b with
   |true=>
    rw[M0 rfl]at hft;have F:=F4 F hy d1 @aw;(try refine sq F ?_);refine wk F ?_;refine kq F (hF _) ?_;refine aE (hW _) ?_;(try refine sq F ?_);refine wk F ?_;refine aq F ?_;(try refine sq F ?_);refine wk F ?_;refine hK2 _ _ _ (M2 ⟨i+1,w+1,out++[y.id],rfl,by simp[iA,St.av],?_,?_,?_,?_,by omega,by simp;omega,by rw[hft,Q9, ← hop];rfl⟩) (by omega);all_goals try exact zZz F
   |false=>
    rw[L5 (by simp),O8]at hft;have F:=F3 F hy d1;(try refine sq F ?_);refine wk F ?_;refine kq F (hF _) ?_;refine aE (hW _) ?_;(try refine sq F ?_);refine wk F ?_;refine hK2 _ _ _ (M2 ⟨i+1,w,out,rfl,aB,?_,?_,?_,?_,by omega,by omega,by rw[hft, ← hop]⟩) (by omega);all_goals try exact zZz F
  ·have d1:=O4 c1;rw[N0 (by omega)]at hop;have F:=F2 F d1;(try refine sq F ?_);refine wk F ?_;refine ee hQ F ?_;rw[← hop];exact fin w out
theorem xb{fo:ML Int Fo}{u:Int}(hu:u≠0):∀(k:Nat) (x:Int) (l:List Int) (m:Nat),chS fo k x=some l→k≤m→insF fo u m x=decide (u∈l):=by
 intro k;induction k with
 |zero=>
  intro x l m h _;unfold chS at h;split at h
  ·cases h;rename_i h0;subst h0;rw[gB (by omega)];simp;omega
  ·cases h
 |succ k ih=>
  intro x l m h hm;unfold chS at h;split at h
  ·cases h;rename_i h0;subst h0;rw[gB (by omega)];simp;omega
  ·rename_i h0;obtain⟨l',h1,rfl⟩:=N2.1 h;obtain⟨m',rfl⟩:∃m',m=m'+1:=⟨m-1,by omega⟩;by_cases hx:x=u
   ·rw[gB (by omega),hx];simp
   ·rw[pz ⟨hx,h0⟩];have e:((lkM fo x).getD Fo.z).inn=((lkM fo x).map (·.inn)).getD 0:=(by cases lkM fo x<;>rfl);rw[e,ih _ _ m' h1 (by omega)];simp[Ne.symm hx]
variable {s:PS}
theorem Ao(h:s.Inv)(id:Int):undR s.tell id=undF s id:=by
 unfold undR undF PS.within;rw[h.fndFo];by_cases c:(decide (id=0)||(lkM s.fo id).isSome)=true
 ·rw[M0 c,M0 c];congr 1
  refine V0 fun f hf=>?_
  obtain⟨k,hk⟩:=aP hf;obtain⟨l,hl,_,_⟩:=h.chs (p:=f.inn) (h.u2 k f hk);unfold St.within;by_cases h0:id=0
  ·simp[h0]
  ·rw[xb h0 7 f.inn l 8 hl (by omega)];simp only[h0,decide_false,Z5,Bool.false_or];exact decide_eq_decide.2 (ym h h0 (by omega) hl)
 ·rw[L5 c,L5 c]
end
end Go.Av
