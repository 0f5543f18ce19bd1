/- Parts. -/
import Derived.Test.YtjfjncmgclaokaaGreatDoorMwInx
set_option linter.unusedSimpArgs false
set_option linter.unusedVariables false
set_option linter.unusedSectionVars false
set_option linter.unnecessarySimpa false
set_option maxRecDepth 100000
set_option maxHeartbeats 16000000
namespace Go.Av
open Go Go.Proofs Go.RowKit
section
attribute [local irreducible] WP WPl WPix Sat
variable (G:Nat→Option (List AVal))
def PS.dlNm(s:PS)(k:Int×Bs):PS:= {s with nm:=dlM s.nm k}
def PS.dlFo(s:PS)(k:Int):PS:= {s with fo:=dlM s.fo k}
def PS.dlSe(s:PS)(k:Int):PS:= {s with se:=dlM s.se k}
def PS.after(s:PS)(tg:List Bs)(e:Ev):PS:=
 if e.kind=2 then(((s.dlNm (((lkM s.fo e.a).getD Fo.z).inn,((lkM s.fo e.a).getD Fo.z).name)).dlFo e.a).hold ((lkM s.fo e.a).getD Fo.z).inn (-1))
 else if e.kind=4 then s.unfeed ((lkM s.fe e.a).getD Fe.z)
 else if e.kind=5 then s.upFe e.a {(lkM s.fe e.a).getD Fe.z with title:=e.t}
 else if e.kind=6 then((s.hold ((lkM s.fe e.a).getD Fe.z).inn (-1)).hold e.b 1).upFe e.a {(lkM s.fe e.a).getD Fe.z with inn:=e.b}
 else if e.kind=8 then s.upIt e.a {(lkM s.it e.a).getD It.z with read:=e.n==1}
 else if e.kind=9 then s.upIt e.a {(lkM s.it e.a).getD It.z with star:=e.n==1}
 else if e.kind=10 then s.upIt e.a {(lkM s.it e.a).getD It.z with tags:=tg}
 else if e.kind=12 then s.dlSe e.a
 else if e.kind=13 then {s with clock:=e.n}
 else s.make e
theorem nO(s:PS)(e:Ev)(b:Bool)(tg:List Bs)(hw:WFM s.it s.c3)(hg:WFM s.gu s.c7)(hf:s.few)(hf2:(s.hold ((lkM s.fe e.a).getD Fe.z).inn (-1)).few)
  (hF:∀(n:Nat) (H:Heap),n+9≤H.length→Sat (CT G) 57 [.hp (n+8) 0 0 0,e.av] (so H n s) (fun r h'=>r=.bool b∧h'=so H n s))
  (hT:∀(n:Nat) (H:Heap),n+9≤H.length→Sat (CT G) 60 [.hp (n+8) 0 0 0,e.av] (so H n s) (fun r h'=>r=.sl 1 (tg.map .str)∧h'=so H n s))
  {H:Heap}{n:Nat}(hn:n+9≤H.length):Sat (CT G) 28 [.hp (n+8) 0 0 0,e.av] (so H n s) (fun r h'=>r=.bool b∧h'=so H n (if b then s.after tg e else s)):=by
 cases b with
 |false=>
  refine sb [.tmp 4] Tryz.func28 ?_;intro Q hQ;refine wk trivial ?_;refine kq trivial (hF n _ (by first|omega| (simp;omega))) ?_;refine ee hQ trivial ?_;exact aw hn (.bool _) ⟨rfl,rfl⟩
 |true=>
  refine sb [.tmp 4] Tryz.func28 ?_;intro Q hQ;refine wk trivial ?_;refine kq trivial (hF n _ (by first|omega| (simp;omega))) ?_;refine aA 17 [14,15,16] [true,true,true,true,true,true,true,true,true,true,true,true,true,true,false,false,false] (.two 14 [false,true,true,true,true,true,true,false,true,true,true,true,true,true] (.one 15 [false,true,true,true,true,true,true,false,true,true,true,true,true,true] (.one 16 [false,false,false,false,false,false,false,false,true,true,true,true,true,true] .fin)) 15 [false,true,true,true,true,true,true,false,true,true,true,true,true,true] (.one 14 [false,true,true,true,true,true,true,false,true,true,true,true,true,true] (.one 16 [false,false,false,false,false,false,false,false,true,true,true,true,true,true] .fin))) (by decide+kernel) (by kernel_rfl) (by decide+kernel) ?_;simp only[aC,aD,aB];try refine sq trivial ?_
  repeat' ((first|refine ai ?_|refine aj ?_|refine ak ?_ ?_)<;>try refine sq trivial ?_)
  all_goals try refine wk trivial ?_
  all_goals (
   by_cases k2:e.kind=2
   ·have F:=k2;(try refine sq F ?_);refine wk F ?_;refine aA 8 [7] [true,true,true,true,true,true,true,false] (.one 7 [false,true,true,true,true,true,true] .fin) (by decide+kernel) (by kernel_rfl) (by decide+kernel) ?_;simp only[aC,aD,aB];(try refine sq F ?_);repeat' ((first|refine ai ?_|refine aj ?_|refine ak ?_ ?_)<;>try refine sq F ?_)
    (all_goals try refine wk F ?_);refine kq F (cw G _ _ (-1) (PS.few1 (s:=((s.dlNm (((lkM s.fo e.a).getD Fo.z).inn,((lkM s.fo e.a).getD Fo.z).name)).dlFo e.a)) hf _) (by omega) (by first|omega| (simp;omega))) ?_;refine ee hQ F ?_;exact aw hn (.bool _) ⟨rfl,by rw[PS.after,I6 k2];try rfl⟩
   by_cases k4:e.kind=4
   ·have F:=k4;(try refine sq F ?_);refine wk F ?_;refine kq F (mO G s ((lkM s.fe e.a).getD Fe.z) hw hg hf (by first|omega| (simp;omega))) ?_;refine ee hQ F ?_;exact aw hn (.bool _) ⟨rfl,by rw[PS.after,I0 (by omega),I6 k4];try rfl⟩
   by_cases k5:e.kind=5
   ·have F:=k5;(try refine sq F ?_);refine wk F ?_;refine ee hQ F ?_;exact aw hn (.bool _) ⟨rfl,by rw[PS.after,I0 (by omega),I0 (by omega),I6 k5];try rfl⟩
   by_cases k6:e.kind=6
   ·have F:=k6;(try refine sq F ?_);refine wk F ?_;refine kq F (cw G s _ (-1) (PS.few1 hf _) (by omega) (by first|omega| (simp;omega))) ?_;refine kq F (cw G _ e.b 1 (PS.few1 hf2 _) (by omega) (by first|omega| (simp;omega))) ?_;refine ee hQ F ?_;exact aw hn (.bool _) ⟨rfl,by rw[PS.after,I0 (by omega),I0 (by omega),I0 (by omega),I6 k6];try rfl⟩
   by_cases k8:e.kind=8
   ·have F:=k8;(try refine sq F ?_);refine wk F ?_;refine ee hQ F ?_;exact aw hn (.bool _) ⟨rfl,by rw[PS.after,I0 (by omega),I0 (by omega),I0 (by omega),I0 (by omega),I6 k8];try rfl⟩
   by_cases k9:e.kind=9
   ·have F:=k9;(try refine sq F ?_);refine wk F ?_;refine ee hQ F ?_;exact aw hn (.bool _) ⟨rfl,by rw[PS.after,I0 (by omega),I0 (by omega),I0 (by omega),I0 (by omega),I0 (by omega),I6 k9];try rfl⟩
   by_cases k10:e.kind=10
   ·have F:=k10;(try refine sq F ?_);refine wk F ?_;have hT2:=hT;simp only[X8,k10]at hT2;refine kq F (hT2 n _ (by first|omega| (simp;omega))) ?_;refine ee hQ F ?_;exact aw hn (.bool _) ⟨rfl,by rw[PS.after,I0 (by omega),I0 (by omega),I0 (by omega),I0 (by omega),I0 (by omega),I0 (by omega),I6 k10];try rfl⟩
   by_cases k12:e.kind=12
   ·have F:=k12;(try refine sq F ?_);refine wk F ?_;refine ee hQ F ?_;exact aw hn (.bool _) ⟨rfl,by rw[PS.after,I0 (by omega),I0 (by omega),I0 (by omega),I0 (by omega),I0 (by omega),I0 (by omega),I0 (by omega),I6 k12];try rfl⟩
   by_cases k13:e.kind=13
   ·have F:=k13;(try refine sq F ?_);refine wk F ?_;refine ee hQ F ?_;exact aw hn (.bool _) ⟨rfl,by rw[PS.after,I0 (by omega),I0 (by omega),I0 (by omega),I0 (by omega),I0 (by omega),I0 (by omega),I0 (by omega),I0 (by omega),I6 k13];try rfl⟩
   have n2:(e.kind==2)=false:=(by simp[k2]);have n4:(e.kind==4)=false:=(by simp[k4]);have n5:(e.kind==5)=false:=(by simp[k5]);have n6:(e.kind==6)=false:=(by simp[k6]);have n8:(e.kind==8)=false:=(by simp[k8]);have n9:(e.kind==9)=false:=(by simp[k9]);have n10:(e.kind==10)=false:=(by simp[k10]);have n12:(e.kind==12)=false:=(by simp[k12]);have n13:(e.kind==13)=false:=(by simp[k13]);have F:=F9 n2 n4 n5 n6 n8 n9 n10 n12 n13;(try refine sq F ?_);refine wk F ?_;refine kq F (pZ G s e hf (by first|omega| (simp;omega))) ?_;refine ee hQ F ?_;exact aw hn (.bool _) ⟨rfl,by rw[PS.after,I0 k2,I0 k4,I0 k5,I0 k6,I0 k8,I0 k9,I0 k10,I0 k12,I0 k13]⟩)
end
section
attribute [local irreducible] WP WPl WPix Sat
def idF(n:Int):Bool:=decide (1≤n)&&decide (n≤1048576)
structure Leaf where
 label:Bs→Bool
 title:Bs→Bool
 link:Bs→Bool
 tag:Bs→Bool
 query:Bs→Bool
 moment:Int→Bool
def Leaf.place(L:Leaf)(t:Bs):Bool:= !(t==[])&&L.link t
def Leaf.right(L:Leaf)(e:Ev):Bool:=
 if e.kind=1 then idF e.a&&((e.b==0||idF e.b)&&L.label e.s)
 else if e.kind=2∨e.kind=4∨e.kind=12 then idF e.a
 else if e.kind=3 then idF e.a&&((e.b==0||idF e.b)&&(L.place e.s&&L.title e.t))
 else if e.kind=5 then idF e.a&&L.title e.t
 else if e.kind=6 then idF e.a&&(e.b==0||idF e.b)
 else if e.kind=7 then idF e.a&&(idF e.b&&(L.moment e.n&&(L.place e.s&&(L.title e.t&&L.link e.u))))
 else if e.kind=8∨e.kind=9 then idF e.a&&(e.n==0||e.n==1)
 else if e.kind=10 then idF e.a&&((e.n==0||e.n==1)&&L.tag e.s)
 else if e.kind=11 then idF e.a&&(L.label e.s&&L.query e.t)
 else if e.kind=13 then L.moment e.n
 else false
def usedE(e:Ev):Ev:=
 if e.kind=1 then⟨e.kind,e.a,e.b,0,e.s,[],[]⟩
 else if e.kind=3 then⟨e.kind,e.a,e.b,0,e.s,e.t,[]⟩
 else if e.kind=5 then⟨e.kind,e.a,0,0,[],e.t,[]⟩
 else if e.kind=6 then⟨e.kind,e.a,e.b,0,[],[],[]⟩
 else if e.kind=7 then e
 else if e.kind=8∨e.kind=9 then⟨e.kind,e.a,0,e.n,[],[],[]⟩
 else if e.kind=10 then⟨e.kind,e.a,0,e.n,e.s,[],[]⟩
 else if e.kind=11 then⟨e.kind,e.a,0,0,e.s,e.t,[]⟩
 else if e.kind=13 then⟨e.kind,0,0,e.n,[],[],[]⟩
 else⟨e.kind,e.a,0,0,[],[],[]⟩
instance:DecidableEq Ev:=fun x y=>by
 cases x;cases y;simp only[Ev.mk.injEq];exact inferInstance
def Leaf.ck(L:Leaf)(e:Ev):Bool:=L.right e&&decide (usedE e=e)
@[go_sem] theorem Gy(h:Heap)(d e:Ev):abin Tryz.prog h .neq 57 (.agg [.int .i64 d.kind,.int .i64 d.a,.int .i64 d.b,.int .i64 d.n,.str d.s,.str d.t,.str d.u]) (.agg [.int .i64 e.kind,.int .i64 e.a,.int .i64 e.b,.int .i64 e.n,.str e.s,.str e.t,.str e.u])=some (.bool (!decide (d=e))):=by
 obtain⟨a1,a2,a3,a4,a5,a6,a7⟩:=d;obtain⟨b1,b2,b3,b4,b5,b6,b7⟩:=e;simp only[abin,go_sem,aeqL,aeq1, ↓reduceIte,O6,K8,AVal.bool.injEq,Ev.mk.injEq,Bool.not_inj_iff];rw[N8];simp
theorem Ev.clo(N:Nat)(e:Ev):Clo N e.av:=.agg _ fun x hx=>by
 simp only[J9,N9,or_false]at hx;rcases hx with rfl|rfl|rfl|rfl|rfl|rfl|rfl<;>first|exact .int _ _|exact .str _
theorem eY(N:Nat)(a b c d:Int)(s t u:Bs):Clo N (.agg [.int .i64 a,.int .i64 b,.int .i64 c,.int .i64 d,.str s,.str t,.str u]):=Ev.clo N ⟨a,b,c,d,s,t,u⟩
variable (G:Nat→Option (List AVal))
theorem am(n:Int)(h:Heap):Sat (CT G) 207 [.int .i64 n] h (fun r h'=>r=.bool (idF n)∧h'=h):=by
 by_cases k:1≤n
 ·have k2:decide (n≥1)=true:=by simpa using k
  have F:=k2;refine sb [.tmp 2] Tryz.func207 ?_;intro Q hQ;refine wk F ?_;refine ee hQ F ?_;exact M9 (.bool _) ⟨by simp[idF,k],rfl⟩
 ·have k2:decide (n≥1)=false:=by simpa using k
  have F:=k2;refine sb [.tmp 2] Tryz.func207 ?_;intro Q hQ;refine wk F ?_;refine ee hQ F ?_;exact M9 (.bool _) ⟨by simp[idF,k],rfl⟩
theorem q5(e:Ev)(h:Heap):Sat (CT G) 155 [e.av] h (fun r h'=>r=(usedE e).av∧h'=h):=by
 by_cases k1:e.kind=1
 ·have F:=k1
  skip
  refine sb [.cell 2 57] Tryz.func155 ?_;intro Q hQ;refine wn F ?_;refine aA 6 [5] [true,true,true,true,true,false] (.one 5 [false,false,true,true] .fin) (by decide+kernel) (by kernel_rfl) (by decide+kernel) ?_;simp only[aC,aD,aB];try refine sq F ?_
  repeat' ((first|refine ai ?_|refine aj ?_|refine ak ?_ ?_)<;>try refine sq F ?_)
  all_goals try refine wn F ?_
  skip
  all_goals (
   refine ye hQ F ?_;exact I2 (eY ..) ⟨by simp[usedE,Ev.av,k1],rfl⟩)
 by_cases k3:e.kind=3
 ·have F:=k3
  skip
  refine sb [.cell 2 57] Tryz.func155 ?_;intro Q hQ;refine wn F ?_;refine aA 10 [7,9] [true,true,true,true,true,true,true,false,true,false] (.one 7 [false,false,true,true,true,true,false,false,true] (.one 9 [false,false,false,false,true,true] .fin)) (by decide+kernel) (by kernel_rfl) (by decide+kernel) ?_;simp only[aC,aD,aB];try refine sq F ?_
  repeat' ((first|refine ai ?_|refine aj ?_|refine ak ?_ ?_)<;>try refine sq F ?_)
  all_goals try refine wn F ?_
  skip
  all_goals (
   refine ye hQ F ?_;exact I2 (eY ..) ⟨by simp[usedE,Ev.av,k3],rfl⟩)
 by_cases k5:e.kind=5
 ·have F:=k5
  skip
  refine sb [.cell 2 57] Tryz.func155 ?_;intro Q hQ;refine wn F ?_
  skip
  all_goals (
   refine ye hQ F ?_;exact I2 (eY ..) ⟨by simp[usedE,Ev.av,k5],rfl⟩)
 by_cases k6:e.kind=6
 ·have F:=k6
  skip
  refine sb [.cell 2 57] Tryz.func155 ?_;intro Q hQ;refine wn F ?_
  skip
  all_goals (
   refine ye hQ F ?_;exact I2 (eY ..) ⟨by simp[usedE,Ev.av,k6],rfl⟩)
 by_cases k7:e.kind=7
 ·have F:=k7
  skip
  refine sb [.cell 2 57] Tryz.func155 ?_;intro Q hQ;refine wn F ?_
  skip
  all_goals (
   refine ye hQ F ?_;exact I2 (eY ..) ⟨by simp[usedE,Ev.av,k7],rfl⟩)
 by_cases k8:e.kind=8
 ·have F:=k8
  skip
  refine sb [.cell 2 57] Tryz.func155 ?_;intro Q hQ;refine wn F ?_
  skip
  all_goals (
   refine ye hQ F ?_;exact I2 (eY ..) ⟨by simp[usedE,Ev.av,k8],rfl⟩)
 by_cases k9:e.kind=9
 ·have F:=k9
  skip
  refine sb [.cell 2 57] Tryz.func155 ?_;intro Q hQ;refine wn F ?_
  skip
  all_goals (
   refine ye hQ F ?_;exact I2 (eY ..) ⟨by simp[usedE,Ev.av,k9],rfl⟩)
 by_cases k10:e.kind=10
 ·have F:=k10
  skip
  refine sb [.cell 2 57] Tryz.func155 ?_;intro Q hQ;refine wn F ?_;refine aA 6 [5] [true,true,true,true,true,false] (.one 5 [false,false,true,true] .fin) (by decide+kernel) (by kernel_rfl) (by decide+kernel) ?_;simp only[aC,aD,aB];try refine sq F ?_
  repeat' ((first|refine ai ?_|refine aj ?_|refine ak ?_ ?_)<;>try refine sq F ?_)
  all_goals try refine wn F ?_
  skip
  all_goals (
   refine ye hQ F ?_;exact I2 (eY ..) ⟨by simp[usedE,Ev.av,k10],rfl⟩)
 by_cases k11:e.kind=11
 ·have F:=k11
  skip
  refine sb [.cell 2 57] Tryz.func155 ?_;intro Q hQ;refine wn F ?_;refine aA 6 [5] [true,true,true,true,true,false] (.one 5 [false,false,true,true] .fin) (by decide+kernel) (by kernel_rfl) (by decide+kernel) ?_;simp only[aC,aD,aB];try refine sq F ?_
  repeat' ((first|refine ai ?_|refine aj ?_|refine ak ?_ ?_)<;>try refine sq F ?_)
  all_goals try refine wn F ?_
  skip
  all_goals (
   refine ye hQ F ?_;exact I2 (eY ..) ⟨by simp[usedE,Ev.av,k11],rfl⟩)
 by_cases k13:e.kind=13
 ·have F:=k13
  skip
  refine sb [.cell 2 57] Tryz.func155 ?_;intro Q hQ;refine wn F ?_;refine aA 4 [3] [true,true,true,false] (.one 3 [true,true] .fin) (by decide+kernel) (by kernel_rfl) (by decide+kernel) ?_;simp only[aC,aD,aB];try refine sq F ?_
  repeat' ((first|refine ai ?_|refine aj ?_|refine ak ?_ ?_)<;>try refine sq F ?_)
  all_goals try refine wn F ?_
  skip
  all_goals (
   refine ye hQ F ?_;exact I2 (eY ..) ⟨by simp[usedE,Ev.av,k13],rfl⟩)
 have n1:(e.kind==1)=false:=by simp[k1]
 have n3:(e.kind==3)=false:=by simp[k3]
 have n5:(e.kind==5)=false:=by simp[k5]
 have n6:(e.kind==6)=false:=by simp[k6]
 have n7:(e.kind==7)=false:=by simp[k7]
 have n8:(e.kind==8)=false:=by simp[k8]
 have n9:(e.kind==9)=false:=by simp[k9]
 have n10:(e.kind==10)=false:=by simp[k10]
 have n11:(e.kind==11)=false:=by simp[k11]
 have n13:(e.kind==13)=false:=by simp[k13]
 have F:=iZ n1 n3 n5 n6 n7 n8 n9 n10 n11 n13;refine sb [.cell 2 57] Tryz.func155 ?_;intro Q hQ;refine wk F ?_;refine ye hQ F ?_;exact I2 (eY ..) ⟨by simp[usedE,Ev.av,k1,k3,k5,k6,k7,k8,k9,k10,k11,k13],rfl⟩
theorem nP(L:Leaf)(e:Ev)(hR:∀h,Sat (CT G) 154 [e.av] h (fun r h'=>r=.bool (L.right e)∧h'=h))(h:Heap):Sat (CT G) 95 [e.av] h (fun r h'=>r=.int .i64 (if L.ck e then 0 else 140)∧h'=h):=by
 cases hr:L.right e with
 |false=>
  rw[hr]at hR
  skip
  refine sb [.tmp 2] Tryz.func95 ?_;intro Q hQ;refine wn trivial ?_;refine dn 4 (.two 4 (.two 5 (.one 6 (.one 7 (.one 8 .nil))) 6 (.one 5 (.one 7 (.one 8 .nil)))) 6 (.one 4 (.one 5 (.one 7 (.one 8 .nil))))) (by decide+kernel) (by kernel_rfl) (by decide+kernel) ?_;simp only[M7,N6];try refine sq trivial ?_
  repeat' (first|refine bR ?_| (refine bS rfl ?_;refine sq trivial ?_)| (refine bT rfl rfl ?_ ?_<;>refine sq trivial ?_))
  skip
  refine au (hR _) ?_;try refine sq trivial ?_
  refine wk trivial ?_;repeat' (first|refine bR ?_| (refine bS rfl ?_;refine sq trivial ?_)| (refine bT rfl rfl ?_ ?_<;>refine sq trivial ?_))
  all_goals (
   refine wk trivial ?_;refine ee hQ trivial ?_;exact I2 (.int _ _) ⟨by simp[Leaf.ck,hr],rfl⟩)
 |true=>
  rw[hr]at hR
  skip
  refine sb [.tmp 2] Tryz.func95 ?_;intro Q hQ;refine wn trivial ?_;refine dn 4 (.two 4 (.two 5 (.one 6 (.one 7 (.one 8 .nil))) 6 (.one 5 (.one 7 (.one 8 .nil)))) 6 (.one 4 (.one 5 (.one 7 (.one 8 .nil))))) (by decide+kernel) (by kernel_rfl) (by decide+kernel) ?_;simp only[M7,N6];try refine sq trivial ?_
  repeat' (first|refine bR ?_| (refine bS rfl ?_;refine sq trivial ?_)| (refine bT rfl rfl ?_ ?_<;>refine sq trivial ?_))
  skip
  refine au (hR _) ?_;try refine sq trivial ?_
  refine wk trivial ?_;repeat' (first|refine bR ?_| (refine bS rfl ?_;refine sq trivial ?_)| (refine bT rfl rfl ?_ ?_<;>refine sq trivial ?_))
  all_goals (
   refine(q5 G e _).mono ?_;rintro r h' ⟨rfl,rfl⟩;(try refine sq trivial ?_);repeat' (first|refine bR ?_| (refine bS rfl ?_;refine sq trivial ?_)| (refine bT rfl rfl ?_ ?_<;>refine sq trivial ?_)))
  all_goals (
   (try repeat' (first|refine bR ?_| (refine bS rfl ?_;refine sq trivial ?_)| (refine bT rfl rfl ?_ ?_<;>refine sq trivial ?_)));by_cases hu:usedE e=e
   ·have hd:decide (usedE e=e)=true:=(by simp[hu]);have F:=hd;(try refine sq F ?_);refine wk F ?_;refine ee hQ F ?_;exact I2 (.int _ _) ⟨by simp[Leaf.ck,hr,hu],rfl⟩
   ·have hd:decide (usedE e=e)=false:=(by simp[hu]);have F:=hd;(try refine sq F ?_);refine wk F ?_;refine ee hQ F ?_;exact I2 (.int _ _) ⟨by simp[Leaf.ck,hr,hu],rfl⟩)
end
section
attribute [local irreducible] WP WPl WPix Sat
variable (G:Nat→Option (List AVal))
theorem u9(N:Nat)(a b c d e f k:Int):Clo N (.tup [.agg [.int .i64 a,.int .i64 b,.int .i64 c,.int .i64 d,.int .i64 e,.int .i64 f],.int .i64 k]):=.tup _ fun x hx=>by
 simp only[J9,N9,or_false]at hx;rcases hx with rfl|rfl
 ·exact bN fun c hc=>by simp at hc;rcases hc with rfl|rfl|rfl|rfl|rfl|rfl<;>simp
 ·exact .int _ _
def momF(n:Int):Bool:=decide (-62135596800≤n)&&decide (n≤253402300799)
theorem j1(n a b:Int)(h:Heap):Sat (CT G) 193 [.int .i64 n,.int .i64 a,.int .i64 b] h (fun r h'=>r=.bool (decide (a≤n)&&decide (n≤b))∧h'=h):=by
 by_cases k:a≤n
 ·have k2:decide (n≥a)=true:=by simpa using k
  have F:=k2;refine sb [.tmp 6] Tryz.func193 ?_;intro Q hQ;refine wk F ?_;refine ee hQ F ?_;exact M9 (.bool _) ⟨by simp[k],rfl⟩
 ·have k2:decide (n≥a)=false:=by simpa using k
  have F:=k2;refine sb [.tmp 6] Tryz.func193 ?_;intro Q hQ;refine wk F ?_;refine ee hQ F ?_;exact M9 (.bool _) ⟨by simp[k],rfl⟩
theorem vL(n:Int)(h:Heap):Sat (CT G) 131 [.int .i64 n] h (fun r h'=>(∃a b c d e f:Int,r=.tup [.agg [.int .i64 a,.int .i64 b,.int .i64 c,.int .i64 d,.int .i64 e,.int .i64 f],.int .i64 (if momF n then 0 else 40)])∧h'=h):=by
 cases hm:momF n with
 |false=>
  unfold momF at hm;have hW:=j1 G n (-62135596800) 253402300799;rw[hm]at hW;refine sb [.cell 2 197,.tmp 3] Tryz.func131 ?_;intro Q hQ;refine wk trivial ?_;refine kq trivial (hW _) ?_;refine ye hQ trivial ?_;exact I2 (u9 ..) ⟨⟨_,_,_,_,_,_,rfl⟩,rfl⟩
 |true=>
  have hm2:=hm;unfold momF at hm2;have hW:=j1 G n (-62135596800) 253402300799;rw[hm2]at hW;simp only[I1,I8]at hm2;obtain⟨m1,m2⟩:=hm2;refine sb [.cell 2 197,.tmp 3] Tryz.func131 ?_;intro Q hQ;refine wk trivial ?_;refine kq trivial (hW _) ?_;refine cq trivial (fun c1=>?_) (fun c1=>?_)<;>(try exact c1.elim)<;>(refine wk trivial ?_)
  ·refine ye hQ trivial ?_;exact I2 (u9 ..) ⟨⟨_,_,_,_,_,_,rfl⟩,rfl⟩
  ·refine ye hQ trivial ?_;exact I2 (u9 ..) ⟨⟨_,_,_,_,_,_,rfl⟩,rfl⟩
theorem nQ(n:Int)(h:Heap):Sat (CT G) 211 [.int .i64 n] h (fun r h'=>r=.bool (momF n)∧h'=h):=by
 refine sb [.tmp 2] Tryz.func211 ?_;intro Q hQ;refine wk trivial ?_;refine(vL G n _).mono ?_;rintro r h' ⟨⟨_,_,_,_,_,_,rfl⟩,rfl⟩;cases hm:momF n
 ·have F:=hm;try refine sq F ?_
  refine wk F ?_;refine ee hQ F ?_;exact I2 (.bool _) ⟨rfl,rfl⟩
 ·have F:=hm;try refine sq F ?_
  refine wk F ?_;refine ee hQ F ?_;exact I2 (.bool _) ⟨rfl,rfl⟩
end
section
attribute [local irreducible] WP WPl WPix Sat
def textF(ri:Bs→Bool)(cl:Bs→Bs)(t:Bs)(n:Int):Bool:=decide ((t.length:Int)≤n)&&(ri t&&cl t==t)
variable (G:Nat→Option (List AVal))
theorem eE(ri:Bs→Bool)(cl:Bs→Bs)(hR:∀t,t.length≤1000→∀h,Sat (CT G) 75 [.str t] h (fun r h'=>r=.bool (ri t)∧h'=h))(hC:∀t,t.length≤1000→∀h,Sat (CT G) 76 [.str t] h (fun r h'=>r=.str (cl t)∧h'=h))(t:Bs)(n:Int)(hn:n≤1000)(h:Heap):Sat (CT G) 258 [.str t,.int .i64 n] h (fun r h'=>r=.bool (textF ri cl t n)∧h'=h):=by
 cases hl:decide ((t.length:Int)≤n)with
 |false=>
  have F:=hl;refine sb [.tmp 4] Tryz.func258 ?_;intro Q hQ;refine wk F ?_;refine ee hQ F ?_;exact M9 (.bool _) ⟨by simp[textF,hl],rfl⟩
 |true=>
  have hlt:t.length≤1000:=by have:=U3 hl;omega
  cases hr:ri t with
  |false=>
   have hR1:=hR t hlt;rw[hr]at hR1;have F:=hl;refine sb [.tmp 4] Tryz.func258 ?_;intro Q hQ;refine wk F ?_;refine kq F (hR1 _) ?_;refine ee hQ F ?_;exact M9 (.bool _) ⟨by simp[textF,hl,hr],rfl⟩
  |true=>
   have hR1:=hR t hlt;rw[hr]at hR1;have F:=hl;refine sb [.tmp 4] Tryz.func258 ?_;intro Q hQ;refine wk F ?_;refine kq F (hR1 _) ?_;refine kq F (hC t hlt _) ?_;refine ee hQ F ?_;exact M9 (.bool _) ⟨by simp[textF,hl,hr],rfl⟩
theorem j2(ri:Bs→Bool)(cl:Bs→Bs)(hR:∀t,t.length≤1000→∀h,Sat (CT G) 75 [.str t] h (fun r h'=>r=.bool (ri t)∧h'=h))(hC:∀t,t.length≤1000→∀h,Sat (CT G) 76 [.str t] h (fun r h'=>r=.str (cl t)∧h'=h))(t:Bs)(h:Heap):Sat (CT G) 208 [.str t] h (fun r h'=>r=.bool (!(t==[])&&textF ri cl t 64)∧h'=h):=by
 cases k1:(t==[])with
 |true=>
  have k2:(t != [])=false:=by simpa using k1
  have F:=F2 k1 k2;refine sb [.tmp 2] Tryz.func208 ?_;intro Q hQ;refine wk F ?_;refine ee hQ F ?_;exact M9 (.bool _) ⟨by simp,rfl⟩
 |false=>
  have k2:(t != [])=true:=by simpa using k1
  have F:=F2 k1 k2;refine sb [.tmp 2] Tryz.func208 ?_;intro Q hQ;refine wk F ?_;refine kq F (eE G ri cl hR hC t 64 (by omega) _) ?_;refine ee hQ F ?_;exact M9 (.bool _) ⟨by simp,rfl⟩
theorem nT(ri:Bs→Bool)(cl:Bs→Bs)(hR:∀t,t.length≤1000→∀h,Sat (CT G) 75 [.str t] h (fun r h'=>r=.bool (ri t)∧h'=h))(hC:∀t,t.length≤1000→∀h,Sat (CT G) 76 [.str t] h (fun r h'=>r=.str (cl t)∧h'=h))(t:Bs)(h:Heap):Sat (CT G) 210 [.str t] h (fun r h'=>r=.bool (textF ri cl t 256)∧h'=h):=by
 refine sb [.tmp 2] Tryz.func210 ?_;intro Q hQ;refine wk trivial ?_;refine kq trivial (eE G ri cl hR hC t 256 (by omega) _) ?_;refine ee hQ trivial ?_;exact M9 (.bool _) ⟨rfl,rfl⟩
theorem jT(ri:Bs→Bool)(cl:Bs→Bs)(hR:∀t,t.length≤1000→∀h,Sat (CT G) 75 [.str t] h (fun r h'=>r=.bool (ri t)∧h'=h))(hC:∀t,t.length≤1000→∀h,Sat (CT G) 76 [.str t] h (fun r h'=>r=.str (cl t)∧h'=h))(t:Bs)(h:Heap):Sat (CT G) 212 [.str t] h (fun r h'=>r=.bool (textF ri cl t 512)∧h'=h):=by
 refine sb [.tmp 2] Tryz.func212 ?_;intro Q hQ;refine wk trivial ?_;refine kq trivial (eE G ri cl hR hC t 512 (by omega) _) ?_;refine ee hQ trivial ?_;exact M9 (.bool _) ⟨rfl,rfl⟩
theorem nU(ri:Bs→Bool)(cl:Bs→Bs)(hR:∀t,t.length≤1000→∀h,Sat (CT G) 75 [.str t] h (fun r h'=>r=.bool (ri t)∧h'=h))(hC:∀t,t.length≤1000→∀h,Sat (CT G) 76 [.str t] h (fun r h'=>r=.str (cl t)∧h'=h))(t:Bs)(h:Heap):Sat (CT G) 214 [.str t] h (fun r h'=>r=.bool (!(t==[])&&textF ri cl t 512)∧h'=h):=by
 cases k1:(t==[])with
 |true=>
  have k2:(t != [])=false:=by simpa using k1
  have F:=F2 k1 k2;refine sb [.tmp 2] Tryz.func214 ?_;intro Q hQ;refine wk F ?_;refine ee hQ F ?_;exact M9 (.bool _) ⟨by simp,rfl⟩
 |false=>
  have k2:(t != [])=true:=by simpa using k1
  have F:=F2 k1 k2;refine sb [.tmp 2] Tryz.func214 ?_;intro Q hQ;refine wk F ?_;refine kq F (eE G ri cl hR hC t 512 (by omega) _) ?_;refine ee hQ F ?_;exact M9 (.bool _) ⟨by simp,rfl⟩
theorem eF(ri:Bs→Bool)(cl:Bs→Bs)(hR:∀t,t.length≤1000→∀h,Sat (CT G) 86 [.str t] h (fun r h'=>r=.bool (ri t)∧h'=h))(hC:∀t,t.length≤1000→∀h,Sat (CT G) 87 [.str t] h (fun r h'=>r=.str (cl t)∧h'=h))(t:Bs)(n:Int)(hn:n≤1000)(h:Heap):Sat (CT G) 243 [.str t,.int .i64 n] h (fun r h'=>r=.bool (textF ri cl t n)∧h'=h):=by
 cases hl:decide ((t.length:Int)≤n)with
 |false=>
  have F:=hl;refine sb [.tmp 4] Tryz.func243 ?_;intro Q hQ;refine wk F ?_;refine ee hQ F ?_;exact M9 (.bool _) ⟨by simp[textF,hl],rfl⟩
 |true=>
  have hlt:t.length≤1000:=by have:=U3 hl;omega
  cases hr:ri t with
  |false=>
   have hR1:=hR t hlt;rw[hr]at hR1;have F:=hl;refine sb [.tmp 4] Tryz.func243 ?_;intro Q hQ;refine wk F ?_;refine kq F (hR1 _) ?_;refine ee hQ F ?_;exact M9 (.bool _) ⟨by simp[textF,hl,hr],rfl⟩
  |true=>
   have hR1:=hR t hlt;rw[hr]at hR1;have F:=hl;refine sb [.tmp 4] Tryz.func243 ?_;intro Q hQ;refine wk F ?_;refine kq F (hR1 _) ?_;refine kq F (hC t hlt _) ?_;refine ee hQ F ?_;exact M9 (.bool _) ⟨by simp[textF,hl,hr],rfl⟩
theorem j3(ri:Bs→Bool)(cl:Bs→Bs)(hR:∀t,t.length≤1000→∀h,Sat (CT G) 86 [.str t] h (fun r h'=>r=.bool (ri t)∧h'=h))(hC:∀t,t.length≤1000→∀h,Sat (CT G) 87 [.str t] h (fun r h'=>r=.str (cl t)∧h'=h))(t:Bs)(h:Heap):Sat (CT G) 195 [.str t] h (fun r h'=>r=.bool (!(t==[])&&textF ri cl t 64)∧h'=h):=by
 cases k1:(t==[])with
 |true=>
  have k2:(t != [])=false:=by simpa using k1
  have F:=F2 k1 k2;refine sb [.tmp 2] Tryz.func195 ?_;intro Q hQ;refine wk F ?_;refine ee hQ F ?_;exact M9 (.bool _) ⟨by simp,rfl⟩
 |false=>
  have k2:(t != [])=true:=by simpa using k1
  have F:=F2 k1 k2;refine sb [.tmp 2] Tryz.func195 ?_;intro Q hQ;refine wk F ?_;refine kq F (eF G ri cl hR hC t 64 (by omega) _) ?_;refine ee hQ F ?_;exact M9 (.bool _) ⟨by simp,rfl⟩
theorem nV(ri:Bs→Bool)(cl:Bs→Bs)(hR:∀t,t.length≤1000→∀h,Sat (CT G) 86 [.str t] h (fun r h'=>r=.bool (ri t)∧h'=h))(hC:∀t,t.length≤1000→∀h,Sat (CT G) 87 [.str t] h (fun r h'=>r=.str (cl t)∧h'=h))(t:Bs)(h:Heap):Sat (CT G) 197 [.str t] h (fun r h'=>r=.bool (textF ri cl t 256)∧h'=h):=by
 refine sb [.tmp 2] Tryz.func197 ?_;intro Q hQ;refine wk trivial ?_;refine kq trivial (eF G ri cl hR hC t 256 (by omega) _) ?_;refine ee hQ trivial ?_;exact M9 (.bool _) ⟨rfl,rfl⟩
theorem q6(ri:Bs→Bool)(cl:Bs→Bs)(hR:∀t,t.length≤1000→∀h,Sat (CT G) 86 [.str t] h (fun r h'=>r=.bool (ri t)∧h'=h))(hC:∀t,t.length≤1000→∀h,Sat (CT G) 87 [.str t] h (fun r h'=>r=.str (cl t)∧h'=h))(t:Bs)(h:Heap):Sat (CT G) 196 [.str t] h (fun r h'=>r=.bool (textF ri cl t 512)∧h'=h):=by
 refine sb [.tmp 2] Tryz.func196 ?_;intro Q hQ;refine wk trivial ?_;refine kq trivial (eF G ri cl hR hC t 512 (by omega) _) ?_;refine ee hQ trivial ?_;exact M9 (.bool _) ⟨rfl,rfl⟩
theorem nW(ri:Bs→Bool)(cl:Bs→Bs)(hR:∀t,t.length≤1000→∀h,Sat (CT G) 86 [.str t] h (fun r h'=>r=.bool (ri t)∧h'=h))(hC:∀t,t.length≤1000→∀h,Sat (CT G) 87 [.str t] h (fun r h'=>r=.str (cl t)∧h'=h))(t:Bs)(h:Heap):Sat (CT G) 199 [.str t] h (fun r h'=>r=.bool (!(t==[])&&textF ri cl t 512)∧h'=h):=by
 cases k1:(t==[])with
 |true=>
  have k2:(t != [])=false:=by simpa using k1
  have F:=F2 k1 k2;refine sb [.tmp 2] Tryz.func199 ?_;intro Q hQ;refine wk F ?_;refine ee hQ F ?_;exact M9 (.bool _) ⟨by simp,rfl⟩
 |false=>
  have k2:(t != [])=true:=by simpa using k1
  have F:=F2 k1 k2;refine sb [.tmp 2] Tryz.func199 ?_;intro Q hQ;refine wk F ?_;refine kq F (eF G ri cl hR hC t 512 (by omega) _) ?_;refine ee hQ F ?_;exact M9 (.bool _) ⟨by simp,rfl⟩
end
end Go.Av
