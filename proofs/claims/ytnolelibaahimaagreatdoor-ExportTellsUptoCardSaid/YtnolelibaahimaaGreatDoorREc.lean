/- Parts. -/
import Derived.Test.YtnolelibaahimaaGreatDoorRSf
set_option linter.unusedSimpArgs false
set_option linter.unusedVariables false
set_option linter.unusedSectionVars false
set_option linter.unnecessarySimpa false
set_option maxRecDepth 100000
set_option maxHeartbeats 16000000
namespace Go.Av
open Go Go.Proofs Go.RowKit
section
attribute [local irreducible] WP WPl WPix Sat
variable (G:Nat→Option (List AVal))
def PS.dlNm(s:PS)(k:Int×Bs):PS:= {s with nm:=dlM s.nm k}
def PS.dlFo(s:PS)(k:Int):PS:= {s with fo:=dlM s.fo k}
def PS.dlSe(s:PS)(k:Int):PS:= {s with se:=dlM s.se k}
def PS.after(s:PS)(tg:List Bs)(e:Ev):PS:=
 if e.kind=2 then(((s.dlNm (((lkM s.fo e.a).getD Fo.z).inn,((lkM s.fo e.a).getD Fo.z).name)).dlFo e.a).hold ((lkM s.fo e.a).getD Fo.z).inn (-1))
 else if e.kind=4 then s.unfeed ((lkM s.fe e.a).getD Fe.z)
 else if e.kind=5 then s.upFe e.a {(lkM s.fe e.a).getD Fe.z with title:=e.t}
 else if e.kind=6 then((s.hold ((lkM s.fe e.a).getD Fe.z).inn (-1)).hold e.b 1).upFe e.a {(lkM s.fe e.a).getD Fe.z with inn:=e.b}
 else if e.kind=8 then s.upIt e.a {(lkM s.it e.a).getD It.z with read:=e.n==1}
 else if e.kind=9 then s.upIt e.a {(lkM s.it e.a).getD It.z with star:=e.n==1}
 else if e.kind=10 then s.upIt e.a {(lkM s.it e.a).getD It.z with tags:=tg}
 else if e.kind=12 then s.dlSe e.a
 else if e.kind=13 then {s with clock:=e.n}
 else s.make e
theorem pg(s:PS)(e:Ev)(b:Bool)(tg:List Bs)(hw:WFM s.it s.c3)(hg:WFM s.gu s.c7)(hf:s.few)(hf2:(s.hold ((lkM s.fe e.a).getD Fe.z).inn (-1)).few)
  (hF:∀(n:Nat) (H:Heap),n+9≤H.length→Sat (CT G) 38 [.hp (n+8) 0 0 0,e.av] (so H n s) (fun r h'=>r=.bool b∧h'=so H n s))
  (hT:∀(n:Nat) (H:Heap),n+9≤H.length→Sat (CT G) 41 [.hp (n+8) 0 0 0,e.av] (so H n s) (fun r h'=>r=.sl 1 (tg.map .str)∧h'=so H n s))
  {H:Heap}{n:Nat}(hn:n+9≤H.length):Sat (CT G) 13 [.hp (n+8) 0 0 0,e.av] (so H n s) (fun r h'=>r=.bool b∧h'=so H n (if b then s.after tg e else s)):=by
 cases b with
 |false=>
  refine sb [.tmp 4] Tryz.func13 ?_;intro Q hQ;refine wk trivial ?_;refine kq trivial (hF n _ (by first|omega| (simp;omega))) ?_;refine ee hQ trivial ?_;exact au hn (.bool _) ⟨rfl,rfl⟩
 |true=>
  refine sb [.tmp 4] Tryz.func13 ?_;intro Q hQ;refine wk trivial ?_;refine kq trivial (hF n _ (by first|omega| (simp;omega))) ?_;refine ay 17 [14,15,16] [true,true,true,true,true,true,true,true,true,true,true,true,true,true,false,false,false] (.two 14 [false,true,true,true,true,true,true,false,true,true,true,true,true,true] (.one 15 [false,true,true,true,true,true,true,false,true,true,true,true,true,true] (.one 16 [false,false,false,false,false,false,false,false,true,true,true,true,true,true] .fin)) 15 [false,true,true,true,true,true,true,false,true,true,true,true,true,true] (.one 14 [false,true,true,true,true,true,true,false,true,true,true,true,true,true] (.one 16 [false,false,false,false,false,false,false,false,true,true,true,true,true,true] .fin))) (by decide+kernel) (by kernel_rfl) (by decide+kernel) ?_;simp only[aC,aD,az];try refine sq trivial ?_
  repeat' ((first|refine ai ?_|refine aj ?_|refine am ?_ ?_)<;>try refine sq trivial ?_)
  all_goals try refine wk trivial ?_
  all_goals (
   by_cases k2:e.kind=2
   ·have F:=k2;(try refine sq F ?_);refine wk F ?_;refine ay 8 [7] [true,true,true,true,true,true,true,false] (.one 7 [false,true,true,true,true,true,true] .fin) (by decide+kernel) (by kernel_rfl) (by decide+kernel) ?_;simp only[aC,aD,az];(try refine sq F ?_);repeat' ((first|refine ai ?_|refine aj ?_|refine am ?_ ?_)<;>try refine sq F ?_)
    (all_goals try refine wk F ?_);refine kq F (cM G _ _ (-1) (PS.few1 (s:=((s.dlNm (((lkM s.fo e.a).getD Fo.z).inn,((lkM s.fo e.a).getD Fo.z).name)).dlFo e.a)) hf _) (by omega) (by first|omega| (simp;omega))) ?_;refine ee hQ F ?_;exact au hn (.bool _) ⟨rfl,by rw[PS.after,L7 k2];try rfl⟩
   by_cases k4:e.kind=4
   ·have F:=k4;(try refine sq F ?_);refine wk F ?_;refine kq F (nZ G s ((lkM s.fe e.a).getD Fe.z) hw hg hf (by first|omega| (simp;omega))) ?_;refine ee hQ F ?_;exact au hn (.bool _) ⟨rfl,by rw[PS.after,K4 (by omega),L7 k4];try rfl⟩
   by_cases k5:e.kind=5
   ·have F:=k5;(try refine sq F ?_);refine wk F ?_;refine ee hQ F ?_;exact au hn (.bool _) ⟨rfl,by rw[PS.after,K4 (by omega),K4 (by omega),L7 k5];try rfl⟩
   by_cases k6:e.kind=6
   ·have F:=k6;(try refine sq F ?_);refine wk F ?_;refine kq F (cM G s _ (-1) (PS.few1 hf _) (by omega) (by first|omega| (simp;omega))) ?_;refine kq F (cM G _ e.b 1 (PS.few1 hf2 _) (by omega) (by first|omega| (simp;omega))) ?_;refine ee hQ F ?_;exact au hn (.bool _) ⟨rfl,by rw[PS.after,K4 (by omega),K4 (by omega),K4 (by omega),L7 k6];try rfl⟩
   by_cases k8:e.kind=8
   ·have F:=k8;(try refine sq F ?_);refine wk F ?_;refine ee hQ F ?_;exact au hn (.bool _) ⟨rfl,by rw[PS.after,K4 (by omega),K4 (by omega),K4 (by omega),K4 (by omega),L7 k8];try rfl⟩
   by_cases k9:e.kind=9
   ·have F:=k9;(try refine sq F ?_);refine wk F ?_;refine ee hQ F ?_;exact au hn (.bool _) ⟨rfl,by rw[PS.after,K4 (by omega),K4 (by omega),K4 (by omega),K4 (by omega),K4 (by omega),L7 k9];try rfl⟩
   by_cases k10:e.kind=10
   ·have F:=k10;(try refine sq F ?_);refine wk F ?_;have hT2:=hT;simp only[X9,k10]at hT2;refine kq F (hT2 n _ (by first|omega| (simp;omega))) ?_;refine ee hQ F ?_;exact au hn (.bool _) ⟨rfl,by rw[PS.after,K4 (by omega),K4 (by omega),K4 (by omega),K4 (by omega),K4 (by omega),K4 (by omega),L7 k10];try rfl⟩
   by_cases k12:e.kind=12
   ·have F:=k12;(try refine sq F ?_);refine wk F ?_;refine ee hQ F ?_;exact au hn (.bool _) ⟨rfl,by rw[PS.after,K4 (by omega),K4 (by omega),K4 (by omega),K4 (by omega),K4 (by omega),K4 (by omega),K4 (by omega),L7 k12];try rfl⟩
   by_cases k13:e.kind=13
   ·have F:=k13;(try refine sq F ?_);refine wk F ?_;refine ee hQ F ?_;exact au hn (.bool _) ⟨rfl,by rw[PS.after,K4 (by omega),K4 (by omega),K4 (by omega),K4 (by omega),K4 (by omega),K4 (by omega),K4 (by omega),K4 (by omega),L7 k13];try rfl⟩
   have n2:(e.kind==2)=false:=(by simp[k2]);have n4:(e.kind==4)=false:=(by simp[k4]);have n5:(e.kind==5)=false:=(by simp[k5]);have n6:(e.kind==6)=false:=(by simp[k6]);have n8:(e.kind==8)=false:=(by simp[k8]);have n9:(e.kind==9)=false:=(by simp[k9]);have n10:(e.kind==10)=false:=(by simp[k10]);have n12:(e.kind==12)=false:=(by simp[k12]);have n13:(e.kind==13)=false:=(by simp[k13]);have F:=F9 n2 n4 n5 n6 n8 n9 n10 n12 n13;(try refine sq F ?_);refine wk F ?_;refine kq F (s8 G s e hf (by first|omega| (simp;omega))) ?_;refine ee hQ F ?_;exact au hn (.bool _) ⟨rfl,by rw[PS.after,K4 k2,K4 k4,K4 k5,K4 k6,K4 k8,K4 k9,K4 k10,K4 k12,K4 k13]⟩)
end
section
attribute [local irreducible] WP WPl WPix Sat
def idF(n:Int):Bool:=decide (1≤n)&&decide (n≤1048576)
structure Leaf where
 label:Bs→Bool
 title:Bs→Bool
 link:Bs→Bool
 tag:Bs→Bool
 query:Bs→Bool
 moment:Int→Bool
def Leaf.place(L:Leaf)(t:Bs):Bool:= !(t==[])&&L.link t
def Leaf.right(L:Leaf)(e:Ev):Bool:=
 if e.kind=1 then idF e.a&&((e.b==0||idF e.b)&&L.label e.s)
 else if e.kind=2∨e.kind=4∨e.kind=12 then idF e.a
 else if e.kind=3 then idF e.a&&((e.b==0||idF e.b)&&(L.place e.s&&L.title e.t))
 else if e.kind=5 then idF e.a&&L.title e.t
 else if e.kind=6 then idF e.a&&(e.b==0||idF e.b)
 else if e.kind=7 then idF e.a&&(idF e.b&&(L.moment e.n&&(L.place e.s&&(L.title e.t&&L.link e.u))))
 else if e.kind=8∨e.kind=9 then idF e.a&&(e.n==0||e.n==1)
 else if e.kind=10 then idF e.a&&((e.n==0||e.n==1)&&L.tag e.s)
 else if e.kind=11 then idF e.a&&(L.label e.s&&L.query e.t)
 else if e.kind=13 then L.moment e.n
 else false
def usedE(e:Ev):Ev:=
 if e.kind=1 then⟨e.kind,e.a,e.b,0,e.s,[],[]⟩
 else if e.kind=3 then⟨e.kind,e.a,e.b,0,e.s,e.t,[]⟩
 else if e.kind=5 then⟨e.kind,e.a,0,0,[],e.t,[]⟩
 else if e.kind=6 then⟨e.kind,e.a,e.b,0,[],[],[]⟩
 else if e.kind=7 then e
 else if e.kind=8∨e.kind=9 then⟨e.kind,e.a,0,e.n,[],[],[]⟩
 else if e.kind=10 then⟨e.kind,e.a,0,e.n,e.s,[],[]⟩
 else if e.kind=11 then⟨e.kind,e.a,0,0,e.s,e.t,[]⟩
 else if e.kind=13 then⟨e.kind,0,0,e.n,[],[],[]⟩
 else⟨e.kind,e.a,0,0,[],[],[]⟩
instance:DecidableEq Ev:=fun x y=>by
 cases x;cases y;simp only[Ev.mk.injEq];exact inferInstance
def Leaf.ck(L:Leaf)(e:Ev):Bool:=L.right e&&decide (usedE e=e)
@[go_sem] theorem Ik(h:Heap)(d e:Ev):abin Tryz.prog h .neq 34 (.agg [.int .i64 d.kind,.int .i64 d.a,.int .i64 d.b,.int .i64 d.n,.str d.s,.str d.t,.str d.u]) (.agg [.int .i64 e.kind,.int .i64 e.a,.int .i64 e.b,.int .i64 e.n,.str e.s,.str e.t,.str e.u])=some (.bool (!decide (d=e))):=by
 obtain⟨a1,a2,a3,a4,a5,a6,a7⟩:=d;obtain⟨b1,b2,b3,b4,b5,b6,b7⟩:=e;simp only[abin,go_sem,aeqL,aeq1, ↓reduceIte,Q3,N2,AVal.bool.injEq,Ev.mk.injEq,Bool.not_inj_iff];rw[P6];simp
theorem Ev.clo(N:Nat)(e:Ev):Clo N e.av:=.agg _ fun x hx=>by
 simp only[N0,T8,or_false]at hx;rcases hx with rfl|rfl|rfl|rfl|rfl|rfl|rfl<;>first|exact .int _ _|exact .str _
theorem fw(N:Nat)(a b c d:Int)(s t u:Bs):Clo N (.agg [.int .i64 a,.int .i64 b,.int .i64 c,.int .i64 d,.str s,.str t,.str u]):=Ev.clo N ⟨a,b,c,d,s,t,u⟩
variable (G:Nat→Option (List AVal))
theorem ak(n:Int)(h:Heap):Sat (CT G) 153 [.int .i64 n] h (fun r h'=>r=.bool (idF n)∧h'=h):=by
 by_cases k:1≤n
 ·have k2:decide (n≥1)=true:=by simpa using k
  have F:=k2;refine sb [.tmp 2] Tryz.func153 ?_;intro Q hQ;refine wk F ?_;refine ee hQ F ?_;exact O9 (.bool _) ⟨by simp[idF,k],rfl⟩
 ·have k2:decide (n≥1)=false:=by simpa using k
  have F:=k2;refine sb [.tmp 2] Tryz.func153 ?_;intro Q hQ;refine wk F ?_;refine ee hQ F ?_;exact O9 (.bool _) ⟨by simp[idF,k],rfl⟩
theorem s9(e:Ev)(h:Heap):Sat (CT G) 115 [e.av] h (fun r h'=>r=(usedE e).av∧h'=h):=by
 by_cases k1:e.kind=1
 ·have F:=k1
  skip
  refine sb [.cell 2 34] Tryz.func115 ?_;intro Q hQ;refine wn F ?_;refine ay 6 [5] [true,true,true,true,true,false] (.one 5 [false,false,true,true] .fin) (by decide+kernel) (by kernel_rfl) (by decide+kernel) ?_;simp only[aC,aD,az];try refine sq F ?_
  repeat' ((first|refine ai ?_|refine aj ?_|refine am ?_ ?_)<;>try refine sq F ?_)
  all_goals try refine wn F ?_
  skip
  all_goals (
   refine ye hQ F ?_;exact K9 (fw ..) ⟨by simp[usedE,Ev.av,k1],rfl⟩)
 by_cases k3:e.kind=3
 ·have F:=k3
  skip
  refine sb [.cell 2 34] Tryz.func115 ?_;intro Q hQ;refine wn F ?_;refine ay 10 [7,9] [true,true,true,true,true,true,true,false,true,false] (.one 7 [false,false,true,true,true,true,false,false,true] (.one 9 [false,false,false,false,true,true] .fin)) (by decide+kernel) (by kernel_rfl) (by decide+kernel) ?_;simp only[aC,aD,az];try refine sq F ?_
  repeat' ((first|refine ai ?_|refine aj ?_|refine am ?_ ?_)<;>try refine sq F ?_)
  all_goals try refine wn F ?_
  skip
  all_goals (
   refine ye hQ F ?_;exact K9 (fw ..) ⟨by simp[usedE,Ev.av,k3],rfl⟩)
 by_cases k5:e.kind=5
 ·have F:=k5
  skip
  refine sb [.cell 2 34] Tryz.func115 ?_;intro Q hQ;refine wn F ?_
  skip
  all_goals (
   refine ye hQ F ?_;exact K9 (fw ..) ⟨by simp[usedE,Ev.av,k5],rfl⟩)
 by_cases k6:e.kind=6
 ·have F:=k6
  skip
  refine sb [.cell 2 34] Tryz.func115 ?_;intro Q hQ;refine wn F ?_
  skip
  all_goals (
   refine ye hQ F ?_;exact K9 (fw ..) ⟨by simp[usedE,Ev.av,k6],rfl⟩)
 by_cases k7:e.kind=7
 ·have F:=k7
  skip
  refine sb [.cell 2 34] Tryz.func115 ?_;intro Q hQ;refine wn F ?_
  skip
  all_goals (
   refine ye hQ F ?_;exact K9 (fw ..) ⟨by simp[usedE,Ev.av,k7],rfl⟩)
 by_cases k8:e.kind=8
 ·have F:=k8
  skip
  refine sb [.cell 2 34] Tryz.func115 ?_;intro Q hQ;refine wn F ?_
  skip
  all_goals (
   refine ye hQ F ?_;exact K9 (fw ..) ⟨by simp[usedE,Ev.av,k8],rfl⟩)
 by_cases k9:e.kind=9
 ·have F:=k9
  skip
  refine sb [.cell 2 34] Tryz.func115 ?_;intro Q hQ;refine wn F ?_
  skip
  all_goals (
   refine ye hQ F ?_;exact K9 (fw ..) ⟨by simp[usedE,Ev.av,k9],rfl⟩)
 by_cases k10:e.kind=10
 ·have F:=k10
  skip
  refine sb [.cell 2 34] Tryz.func115 ?_;intro Q hQ;refine wn F ?_;refine ay 6 [5] [true,true,true,true,true,false] (.one 5 [false,false,true,true] .fin) (by decide+kernel) (by kernel_rfl) (by decide+kernel) ?_;simp only[aC,aD,az];try refine sq F ?_
  repeat' ((first|refine ai ?_|refine aj ?_|refine am ?_ ?_)<;>try refine sq F ?_)
  all_goals try refine wn F ?_
  skip
  all_goals (
   refine ye hQ F ?_;exact K9 (fw ..) ⟨by simp[usedE,Ev.av,k10],rfl⟩)
 by_cases k11:e.kind=11
 ·have F:=k11
  skip
  refine sb [.cell 2 34] Tryz.func115 ?_;intro Q hQ;refine wn F ?_;refine ay 6 [5] [true,true,true,true,true,false] (.one 5 [false,false,true,true] .fin) (by decide+kernel) (by kernel_rfl) (by decide+kernel) ?_;simp only[aC,aD,az];try refine sq F ?_
  repeat' ((first|refine ai ?_|refine aj ?_|refine am ?_ ?_)<;>try refine sq F ?_)
  all_goals try refine wn F ?_
  skip
  all_goals (
   refine ye hQ F ?_;exact K9 (fw ..) ⟨by simp[usedE,Ev.av,k11],rfl⟩)
 by_cases k13:e.kind=13
 ·have F:=k13
  skip
  refine sb [.cell 2 34] Tryz.func115 ?_;intro Q hQ;refine wn F ?_;refine ay 4 [3] [true,true,true,false] (.one 3 [true,true] .fin) (by decide+kernel) (by kernel_rfl) (by decide+kernel) ?_;simp only[aC,aD,az];try refine sq F ?_
  repeat' ((first|refine ai ?_|refine aj ?_|refine am ?_ ?_)<;>try refine sq F ?_)
  all_goals try refine wn F ?_
  skip
  all_goals (
   refine ye hQ F ?_;exact K9 (fw ..) ⟨by simp[usedE,Ev.av,k13],rfl⟩)
 have n1:(e.kind==1)=false:=by simp[k1]
 have n3:(e.kind==3)=false:=by simp[k3]
 have n5:(e.kind==5)=false:=by simp[k5]
 have n6:(e.kind==6)=false:=by simp[k6]
 have n7:(e.kind==7)=false:=by simp[k7]
 have n8:(e.kind==8)=false:=by simp[k8]
 have n9:(e.kind==9)=false:=by simp[k9]
 have n10:(e.kind==10)=false:=by simp[k10]
 have n11:(e.kind==11)=false:=by simp[k11]
 have n13:(e.kind==13)=false:=by simp[k13]
 have F:=j8 n1 n3 n5 n6 n7 n8 n9 n10 n11 n13;refine sb [.cell 2 34] Tryz.func115 ?_;intro Q hQ;refine wk F ?_;refine ye hQ F ?_;exact K9 (fw ..) ⟨by simp[usedE,Ev.av,k1,k3,k5,k6,k7,k8,k9,k10,k11,k13],rfl⟩
theorem ph(L:Leaf)(e:Ev)(hR:∀h,Sat (CT G) 114 [e.av] h (fun r h'=>r=.bool (L.right e)∧h'=h))(h:Heap):Sat (CT G) 79 [e.av] h (fun r h'=>r=.int .i64 (if L.ck e then 0 else 140)∧h'=h):=by
 cases hr:L.right e with
 |false=>
  rw[hr]at hR
  skip
  refine sb [.tmp 2] Tryz.func79 ?_;intro Q hQ;refine wn trivial ?_;refine js 4 (.two 4 (.two 5 (.one 6 (.one 7 (.one 8 .nil))) 6 (.one 5 (.one 7 (.one 8 .nil)))) 6 (.one 4 (.one 5 (.one 7 (.one 8 .nil))))) (by decide+kernel) (by kernel_rfl) (by decide+kernel) ?_;simp only[P0,Q8];try refine sq trivial ?_
  repeat' (first|refine dU ?_| (refine dV rfl ?_;refine sq trivial ?_)| (refine dY rfl rfl ?_ ?_<;>refine sq trivial ?_))
  skip
  refine aG (hR _) ?_;try refine sq trivial ?_
  refine wk trivial ?_;repeat' (first|refine dU ?_| (refine dV rfl ?_;refine sq trivial ?_)| (refine dY rfl rfl ?_ ?_<;>refine sq trivial ?_))
  all_goals (
   refine wk trivial ?_;refine ee hQ trivial ?_;exact K9 (.int _ _) ⟨by simp[Leaf.ck,hr],rfl⟩)
 |true=>
  rw[hr]at hR
  skip
  refine sb [.tmp 2] Tryz.func79 ?_;intro Q hQ;refine wn trivial ?_;refine js 4 (.two 4 (.two 5 (.one 6 (.one 7 (.one 8 .nil))) 6 (.one 5 (.one 7 (.one 8 .nil)))) 6 (.one 4 (.one 5 (.one 7 (.one 8 .nil))))) (by decide+kernel) (by kernel_rfl) (by decide+kernel) ?_;simp only[P0,Q8];try refine sq trivial ?_
  repeat' (first|refine dU ?_| (refine dV rfl ?_;refine sq trivial ?_)| (refine dY rfl rfl ?_ ?_<;>refine sq trivial ?_))
  skip
  refine aG (hR _) ?_;try refine sq trivial ?_
  refine wk trivial ?_;repeat' (first|refine dU ?_| (refine dV rfl ?_;refine sq trivial ?_)| (refine dY rfl rfl ?_ ?_<;>refine sq trivial ?_))
  all_goals (
   refine(s9 G e _).mono ?_;rintro r h' ⟨rfl,rfl⟩;(try refine sq trivial ?_);repeat' (first|refine dU ?_| (refine dV rfl ?_;refine sq trivial ?_)| (refine dY rfl rfl ?_ ?_<;>refine sq trivial ?_)))
  all_goals (
   (try repeat' (first|refine dU ?_| (refine dV rfl ?_;refine sq trivial ?_)| (refine dY rfl rfl ?_ ?_<;>refine sq trivial ?_)));by_cases hu:usedE e=e
   ·have hd:decide (usedE e=e)=true:=(by simp[hu]);have F:=hd;(try refine sq F ?_);refine wk F ?_;refine ee hQ F ?_;exact K9 (.int _ _) ⟨by simp[Leaf.ck,hr,hu],rfl⟩
   ·have hd:decide (usedE e=e)=false:=(by simp[hu]);have F:=hd;(try refine sq F ?_);refine wk F ?_;refine ee hQ F ?_;exact K9 (.int _ _) ⟨by simp[Leaf.ck,hr,hu],rfl⟩)
end
section
attribute [local irreducible] WP WPl WPix Sat
variable (G:Nat→Option (List AVal))
theorem pj(L:Leaf)(hl:∀t h,Sat (CT G) 158 [.str t] h (fun r h'=>r=.bool (L.link t)∧h'=h))(t:Bs)(h:Heap):Sat (CT G) 155 [.str t] h (fun r h'=>r=.bool (L.place t)∧h'=h):=by
 cases k1:(t==[])with
 |true=>
  have k2:(t != [])=false:=by simpa using k1
  have F:=F2 k1 k2;refine sb [.tmp 2] Tryz.func155 ?_;intro Q hQ;refine wk F ?_;refine ee hQ F ?_;exact O9 (.bool _) ⟨by simp[Leaf.place,k1],rfl⟩
 |false=>
  have k2:(t != [])=true:=by simpa using k1
  have F:=F2 k1 k2;refine sb [.tmp 2] Tryz.func155 ?_;intro Q hQ;refine wk F ?_;refine kq F (hl t _) ?_;refine ee hQ F ?_;exact O9 (.bool _) ⟨by simp[Leaf.place,k1],rfl⟩
theorem wh(L:Leaf)(hLab:∀t h,Sat (CT G) 154 [.str t] h (fun r h'=>r=.bool (L.label t)∧h'=h))(hTit:∀t h,Sat (CT G) 156 [.str t] h (fun r h'=>r=.bool (L.title t)∧h'=h))
  (hLin:∀t h,Sat (CT G) 158 [.str t] h (fun r h'=>r=.bool (L.link t)∧h'=h))(hPla:∀t h,Sat (CT G) 155 [.str t] h (fun r h'=>r=.bool (L.place t)∧h'=h))(hTag:∀t h,Sat (CT G) 159 [.str t] h (fun r h'=>r=.bool (L.tag t)∧h'=h))
  (hQue:∀t h,Sat (CT G) 160 [.str t] h (fun r h'=>r=.bool (L.query t)∧h'=h))(hMom:∀t h,Sat (CT G) 157 [.int .i64 t] h (fun r h'=>r=.bool (L.moment t)∧h'=h))(e:Ev)(k:e.kind=1)(h:Heap):Sat (CT G) 114 [e.av] h (fun r h'=>r=.bool (L.right e)∧h'=h):=by
 have F:=k;refine sb [.tmp 2] Tryz.func114 ?_;intro Q hQ;refine wk F ?_;(first|refine gq F (fun g1=>?_) (fun g1=>?_)|refine pq F (fun g1=>?_) (fun g1=>?_))<;>(try exact g1.elim)<;>(try refine sq F ?_)<;>(refine wk F ?_)
 ·(first|refine gq F (fun g2=>?_) (fun g2=>?_)|refine pq F (fun g2=>?_) (fun g2=>?_))<;>(try exact g2.elim)<;>(try refine sq F ?_)<;>(refine wk F ?_)
  ·refine kq F (ak G e.a _) ?_;(first|refine gq F (fun h0=>?_) (fun h0=>?_)|refine pq F (fun h0=>?_) (fun h0=>?_))<;>(try exact h0.elim)<;>(try refine sq F ?_)<;>(refine wk F ?_)
   ·refine kq F (hLab e.s _) ?_;refine ee hQ F ?_;exact K9 (.bool _) ⟨by simp[Leaf.right,k,g1,h0],rfl⟩
   ·refine ee hQ F ?_;exact K9 (.bool _) ⟨by simp[Leaf.right,k,g1,h0],rfl⟩
  ·refine kq F (ak G e.a _) ?_;(first|refine gq F (fun h0=>?_) (fun h0=>?_)|refine pq F (fun h0=>?_) (fun h0=>?_))<;>(try exact h0.elim)<;>(try refine sq F ?_)<;>(refine wk F ?_)
   ·refine kq F (hLab e.s _) ?_;refine ee hQ F ?_;exact K9 (.bool _) ⟨by simp[Leaf.right,k,g1,h0],rfl⟩
   ·refine ee hQ F ?_;exact K9 (.bool _) ⟨by simp[Leaf.right,k,g1,h0],rfl⟩
 ·refine kq F (ak G e.b _) ?_;(first|refine gq F (fun g2=>?_) (fun g2=>?_)|refine pq F (fun g2=>?_) (fun g2=>?_))<;>(try exact g2.elim)<;>(try refine sq F ?_)<;>(refine wk F ?_)
  ·refine kq F (ak G e.a _) ?_;(first|refine gq F (fun h0=>?_) (fun h0=>?_)|refine pq F (fun h0=>?_) (fun h0=>?_))<;>(try exact h0.elim)<;>(try refine sq F ?_)<;>(refine wk F ?_)
   ·(first|refine gq F (fun h1=>?_) (fun h1=>?_)|refine pq F (fun h1=>?_) (fun h1=>?_))<;>(try exact h1.elim)<;>(try refine sq F ?_)<;>(refine wk F ?_)
    ·refine kq F (hLab e.s _) ?_;refine ee hQ F ?_;exact K9 (.bool _) ⟨by simp[Leaf.right,k,g1,h0,h1],rfl⟩
    ·refine ee hQ F ?_;exact K9 (.bool _) ⟨by simp[Leaf.right,k,g1,h0,h1],rfl⟩
   ·refine ee hQ F ?_;exact K9 (.bool _) ⟨by simp[Leaf.right,k,g1,h0],rfl⟩
  ·refine kq F (ak G e.a _) ?_;(first|refine gq F (fun h0=>?_) (fun h0=>?_)|refine pq F (fun h0=>?_) (fun h0=>?_))<;>(try exact h0.elim)<;>(try refine sq F ?_)<;>(refine wk F ?_)
   ·(first|refine gq F (fun h1=>?_) (fun h1=>?_)|refine pq F (fun h1=>?_) (fun h1=>?_))<;>(try exact h1.elim)<;>(try refine sq F ?_)<;>(refine wk F ?_)
    ·refine kq F (hLab e.s _) ?_;refine ee hQ F ?_;exact K9 (.bool _) ⟨by simp[Leaf.right,k,g1,h0,h1],rfl⟩
    ·refine ee hQ F ?_;exact K9 (.bool _) ⟨by simp[Leaf.right,k,g1,h0,h1],rfl⟩
   ·refine ee hQ F ?_;exact K9 (.bool _) ⟨by simp[Leaf.right,k,g1,h0],rfl⟩
theorem wj(L:Leaf)(hLab:∀t h,Sat (CT G) 154 [.str t] h (fun r h'=>r=.bool (L.label t)∧h'=h))(hTit:∀t h,Sat (CT G) 156 [.str t] h (fun r h'=>r=.bool (L.title t)∧h'=h))
  (hLin:∀t h,Sat (CT G) 158 [.str t] h (fun r h'=>r=.bool (L.link t)∧h'=h))(hPla:∀t h,Sat (CT G) 155 [.str t] h (fun r h'=>r=.bool (L.place t)∧h'=h))(hTag:∀t h,Sat (CT G) 159 [.str t] h (fun r h'=>r=.bool (L.tag t)∧h'=h))
  (hQue:∀t h,Sat (CT G) 160 [.str t] h (fun r h'=>r=.bool (L.query t)∧h'=h))(hMom:∀t h,Sat (CT G) 157 [.int .i64 t] h (fun r h'=>r=.bool (L.moment t)∧h'=h))(e:Ev)(k:e.kind=2)(h:Heap):Sat (CT G) 114 [e.av] h (fun r h'=>r=.bool (L.right e)∧h'=h):=by
 have F:=k;refine sb [.tmp 2] Tryz.func114 ?_;intro Q hQ;refine wk F ?_;(first|refine gq F (fun g1=>?_) (fun g1=>?_)|refine pq F (fun g1=>?_) (fun g1=>?_))<;>(try exact g1.elim)<;>(try refine sq F ?_)<;>(refine wk F ?_)
 ·(first|refine gq F (fun g2=>?_) (fun g2=>?_)|refine pq F (fun g2=>?_) (fun g2=>?_))<;>(try exact g2.elim)<;>(try refine sq F ?_)<;>(refine wk F ?_)
  ·refine kq F (ak G e.a _) ?_;refine ee hQ F ?_;exact K9 (.bool _) ⟨by simp[Leaf.right,k],rfl⟩
  ·refine kq F (ak G e.a _) ?_;refine ee hQ F ?_;exact K9 (.bool _) ⟨by simp[Leaf.right,k],rfl⟩
 ·refine kq F (ak G e.b _) ?_;(first|refine gq F (fun g2=>?_) (fun g2=>?_)|refine pq F (fun g2=>?_) (fun g2=>?_))<;>(try exact g2.elim)<;>(try refine sq F ?_)<;>(refine wk F ?_)
  ·refine kq F (ak G e.a _) ?_;refine ee hQ F ?_;exact K9 (.bool _) ⟨by simp[Leaf.right,k],rfl⟩
  ·refine kq F (ak G e.a _) ?_;refine ee hQ F ?_;exact K9 (.bool _) ⟨by simp[Leaf.right,k],rfl⟩
theorem wl(L:Leaf)(hLab:∀t h,Sat (CT G) 154 [.str t] h (fun r h'=>r=.bool (L.label t)∧h'=h))(hTit:∀t h,Sat (CT G) 156 [.str t] h (fun r h'=>r=.bool (L.title t)∧h'=h))
  (hLin:∀t h,Sat (CT G) 158 [.str t] h (fun r h'=>r=.bool (L.link t)∧h'=h))(hPla:∀t h,Sat (CT G) 155 [.str t] h (fun r h'=>r=.bool (L.place t)∧h'=h))(hTag:∀t h,Sat (CT G) 159 [.str t] h (fun r h'=>r=.bool (L.tag t)∧h'=h))
  (hQue:∀t h,Sat (CT G) 160 [.str t] h (fun r h'=>r=.bool (L.query t)∧h'=h))(hMom:∀t h,Sat (CT G) 157 [.int .i64 t] h (fun r h'=>r=.bool (L.moment t)∧h'=h))(e:Ev)(k:e.kind=4)(h:Heap):Sat (CT G) 114 [e.av] h (fun r h'=>r=.bool (L.right e)∧h'=h):=by
 have F:=k;refine sb [.tmp 2] Tryz.func114 ?_;intro Q hQ;refine wk F ?_;(first|refine gq F (fun g1=>?_) (fun g1=>?_)|refine pq F (fun g1=>?_) (fun g1=>?_))<;>(try exact g1.elim)<;>(try refine sq F ?_)<;>(refine wk F ?_)
 ·(first|refine gq F (fun g2=>?_) (fun g2=>?_)|refine pq F (fun g2=>?_) (fun g2=>?_))<;>(try exact g2.elim)<;>(try refine sq F ?_)<;>(refine wk F ?_)
  ·refine kq F (ak G e.a _) ?_;refine ee hQ F ?_;exact K9 (.bool _) ⟨by simp[Leaf.right,k],rfl⟩
  ·refine kq F (ak G e.a _) ?_;refine ee hQ F ?_;exact K9 (.bool _) ⟨by simp[Leaf.right,k],rfl⟩
 ·refine kq F (ak G e.b _) ?_;(first|refine gq F (fun g2=>?_) (fun g2=>?_)|refine pq F (fun g2=>?_) (fun g2=>?_))<;>(try exact g2.elim)<;>(try refine sq F ?_)<;>(refine wk F ?_)
  ·refine kq F (ak G e.a _) ?_;refine ee hQ F ?_;exact K9 (.bool _) ⟨by simp[Leaf.right,k],rfl⟩
  ·refine kq F (ak G e.a _) ?_;refine ee hQ F ?_;exact K9 (.bool _) ⟨by simp[Leaf.right,k],rfl⟩
theorem tY(L:Leaf)(hLab:∀t h,Sat (CT G) 154 [.str t] h (fun r h'=>r=.bool (L.label t)∧h'=h))(hTit:∀t h,Sat (CT G) 156 [.str t] h (fun r h'=>r=.bool (L.title t)∧h'=h))
  (hLin:∀t h,Sat (CT G) 158 [.str t] h (fun r h'=>r=.bool (L.link t)∧h'=h))(hPla:∀t h,Sat (CT G) 155 [.str t] h (fun r h'=>r=.bool (L.place t)∧h'=h))(hTag:∀t h,Sat (CT G) 159 [.str t] h (fun r h'=>r=.bool (L.tag t)∧h'=h))
  (hQue:∀t h,Sat (CT G) 160 [.str t] h (fun r h'=>r=.bool (L.query t)∧h'=h))(hMom:∀t h,Sat (CT G) 157 [.int .i64 t] h (fun r h'=>r=.bool (L.moment t)∧h'=h))(e:Ev)(k:e.kind=12)(h:Heap):Sat (CT G) 114 [e.av] h (fun r h'=>r=.bool (L.right e)∧h'=h):=by
 have F:=k;refine sb [.tmp 2] Tryz.func114 ?_;intro Q hQ;refine wk F ?_;(first|refine gq F (fun g1=>?_) (fun g1=>?_)|refine pq F (fun g1=>?_) (fun g1=>?_))<;>(try exact g1.elim)<;>(try refine sq F ?_)<;>(refine wk F ?_)
 ·(first|refine gq F (fun g2=>?_) (fun g2=>?_)|refine pq F (fun g2=>?_) (fun g2=>?_))<;>(try exact g2.elim)<;>(try refine sq F ?_)<;>(refine wk F ?_)
  ·refine kq F (ak G e.a _) ?_;refine ee hQ F ?_;exact K9 (.bool _) ⟨by simp[Leaf.right,k],rfl⟩
  ·refine kq F (ak G e.a _) ?_;refine ee hQ F ?_;exact K9 (.bool _) ⟨by simp[Leaf.right,k],rfl⟩
 ·refine kq F (ak G e.b _) ?_;(first|refine gq F (fun g2=>?_) (fun g2=>?_)|refine pq F (fun g2=>?_) (fun g2=>?_))<;>(try exact g2.elim)<;>(try refine sq F ?_)<;>(refine wk F ?_)
  ·refine kq F (ak G e.a _) ?_;refine ee hQ F ?_;exact K9 (.bool _) ⟨by simp[Leaf.right,k],rfl⟩
  ·refine kq F (ak G e.a _) ?_;refine ee hQ F ?_;exact K9 (.bool _) ⟨by simp[Leaf.right,k],rfl⟩
theorem wm(L:Leaf)(hLab:∀t h,Sat (CT G) 154 [.str t] h (fun r h'=>r=.bool (L.label t)∧h'=h))(hTit:∀t h,Sat (CT G) 156 [.str t] h (fun r h'=>r=.bool (L.title t)∧h'=h))
  (hLin:∀t h,Sat (CT G) 158 [.str t] h (fun r h'=>r=.bool (L.link t)∧h'=h))(hPla:∀t h,Sat (CT G) 155 [.str t] h (fun r h'=>r=.bool (L.place t)∧h'=h))(hTag:∀t h,Sat (CT G) 159 [.str t] h (fun r h'=>r=.bool (L.tag t)∧h'=h))
  (hQue:∀t h,Sat (CT G) 160 [.str t] h (fun r h'=>r=.bool (L.query t)∧h'=h))(hMom:∀t h,Sat (CT G) 157 [.int .i64 t] h (fun r h'=>r=.bool (L.moment t)∧h'=h))(e:Ev)(k:e.kind=3)(h:Heap):Sat (CT G) 114 [e.av] h (fun r h'=>r=.bool (L.right e)∧h'=h):=by
 have F:=k;refine sb [.tmp 2] Tryz.func114 ?_;intro Q hQ;refine wk F ?_;(first|refine gq F (fun g1=>?_) (fun g1=>?_)|refine pq F (fun g1=>?_) (fun g1=>?_))<;>(try exact g1.elim)<;>(try refine sq F ?_)<;>(refine wk F ?_)
 ·(first|refine gq F (fun g2=>?_) (fun g2=>?_)|refine pq F (fun g2=>?_) (fun g2=>?_))<;>(try exact g2.elim)<;>(try refine sq F ?_)<;>(refine wk F ?_)
  ·refine kq F (ak G e.a _) ?_;(first|refine gq F (fun h0=>?_) (fun h0=>?_)|refine pq F (fun h0=>?_) (fun h0=>?_))<;>(try exact h0.elim)<;>(try refine sq F ?_)<;>(refine wk F ?_)
   ·refine kq F (hPla e.s _) ?_;(first|refine gq F (fun h2=>?_) (fun h2=>?_)|refine pq F (fun h2=>?_) (fun h2=>?_))<;>(try exact h2.elim)<;>(try refine sq F ?_)<;>(refine wk F ?_)
    ·refine kq F (hTit e.t _) ?_;refine ee hQ F ?_;exact K9 (.bool _) ⟨by simp[Leaf.right,k,g1,h0,h2],rfl⟩
    ·refine ee hQ F ?_;exact K9 (.bool _) ⟨by simp[Leaf.right,k,g1,h0,h2],rfl⟩
   ·refine ee hQ F ?_;exact K9 (.bool _) ⟨by simp[Leaf.right,k,g1,h0],rfl⟩
  ·refine kq F (ak G e.a _) ?_;(first|refine gq F (fun h0=>?_) (fun h0=>?_)|refine pq F (fun h0=>?_) (fun h0=>?_))<;>(try exact h0.elim)<;>(try refine sq F ?_)<;>(refine wk F ?_)
   ·refine kq F (hPla e.s _) ?_;(first|refine gq F (fun h2=>?_) (fun h2=>?_)|refine pq F (fun h2=>?_) (fun h2=>?_))<;>(try exact h2.elim)<;>(try refine sq F ?_)<;>(refine wk F ?_)
    ·refine kq F (hTit e.t _) ?_;refine ee hQ F ?_;exact K9 (.bool _) ⟨by simp[Leaf.right,k,g1,h0,h2],rfl⟩
    ·refine ee hQ F ?_;exact K9 (.bool _) ⟨by simp[Leaf.right,k,g1,h0,h2],rfl⟩
   ·refine ee hQ F ?_;exact K9 (.bool _) ⟨by simp[Leaf.right,k,g1,h0],rfl⟩
 ·refine kq F (ak G e.b _) ?_;(first|refine gq F (fun g2=>?_) (fun g2=>?_)|refine pq F (fun g2=>?_) (fun g2=>?_))<;>(try exact g2.elim)<;>(try refine sq F ?_)<;>(refine wk F ?_)
  ·refine kq F (ak G e.a _) ?_;(first|refine gq F (fun h0=>?_) (fun h0=>?_)|refine pq F (fun h0=>?_) (fun h0=>?_))<;>(try exact h0.elim)<;>(try refine sq F ?_)<;>(refine wk F ?_)
   ·(first|refine gq F (fun h1=>?_) (fun h1=>?_)|refine pq F (fun h1=>?_) (fun h1=>?_))<;>(try exact h1.elim)<;>(try refine sq F ?_)<;>(refine wk F ?_)
    ·refine kq F (hPla e.s _) ?_;(first|refine gq F (fun h2=>?_) (fun h2=>?_)|refine pq F (fun h2=>?_) (fun h2=>?_))<;>(try exact h2.elim)<;>(try refine sq F ?_)<;>(refine wk F ?_)
     ·refine kq F (hTit e.t _) ?_;refine ee hQ F ?_;exact K9 (.bool _) ⟨by simp[Leaf.right,k,g1,h0,h1,h2],rfl⟩
     ·refine ee hQ F ?_;exact K9 (.bool _) ⟨by simp[Leaf.right,k,g1,h0,h1,h2],rfl⟩
    ·refine ee hQ F ?_;exact K9 (.bool _) ⟨by simp[Leaf.right,k,g1,h0,h1],rfl⟩
   ·refine ee hQ F ?_;exact K9 (.bool _) ⟨by simp[Leaf.right,k,g1,h0],rfl⟩
  ·refine kq F (ak G e.a _) ?_;(first|refine gq F (fun h0=>?_) (fun h0=>?_)|refine pq F (fun h0=>?_) (fun h0=>?_))<;>(try exact h0.elim)<;>(try refine sq F ?_)<;>(refine wk F ?_)
   ·(first|refine gq F (fun h1=>?_) (fun h1=>?_)|refine pq F (fun h1=>?_) (fun h1=>?_))<;>(try exact h1.elim)<;>(try refine sq F ?_)<;>(refine wk F ?_)
    ·refine kq F (hPla e.s _) ?_;(first|refine gq F (fun h2=>?_) (fun h2=>?_)|refine pq F (fun h2=>?_) (fun h2=>?_))<;>(try exact h2.elim)<;>(try refine sq F ?_)<;>(refine wk F ?_)
     ·refine kq F (hTit e.t _) ?_;refine ee hQ F ?_;exact K9 (.bool _) ⟨by simp[Leaf.right,k,g1,h0,h1,h2],rfl⟩
     ·refine ee hQ F ?_;exact K9 (.bool _) ⟨by simp[Leaf.right,k,g1,h0,h1,h2],rfl⟩
    ·refine ee hQ F ?_;exact K9 (.bool _) ⟨by simp[Leaf.right,k,g1,h0,h1],rfl⟩
   ·refine ee hQ F ?_;exact K9 (.bool _) ⟨by simp[Leaf.right,k,g1,h0],rfl⟩
theorem wo(L:Leaf)(hLab:∀t h,Sat (CT G) 154 [.str t] h (fun r h'=>r=.bool (L.label t)∧h'=h))(hTit:∀t h,Sat (CT G) 156 [.str t] h (fun r h'=>r=.bool (L.title t)∧h'=h))
  (hLin:∀t h,Sat (CT G) 158 [.str t] h (fun r h'=>r=.bool (L.link t)∧h'=h))(hPla:∀t h,Sat (CT G) 155 [.str t] h (fun r h'=>r=.bool (L.place t)∧h'=h))(hTag:∀t h,Sat (CT G) 159 [.str t] h (fun r h'=>r=.bool (L.tag t)∧h'=h))
  (hQue:∀t h,Sat (CT G) 160 [.str t] h (fun r h'=>r=.bool (L.query t)∧h'=h))(hMom:∀t h,Sat (CT G) 157 [.int .i64 t] h (fun r h'=>r=.bool (L.moment t)∧h'=h))(e:Ev)(k:e.kind=5)(h:Heap):Sat (CT G) 114 [e.av] h (fun r h'=>r=.bool (L.right e)∧h'=h):=by
 have F:=k;refine sb [.tmp 2] Tryz.func114 ?_;intro Q hQ;refine wk F ?_;(first|refine gq F (fun g1=>?_) (fun g1=>?_)|refine pq F (fun g1=>?_) (fun g1=>?_))<;>(try exact g1.elim)<;>(try refine sq F ?_)<;>(refine wk F ?_)
 ·(first|refine gq F (fun g2=>?_) (fun g2=>?_)|refine pq F (fun g2=>?_) (fun g2=>?_))<;>(try exact g2.elim)<;>(try refine sq F ?_)<;>(refine wk F ?_)
  ·refine kq F (ak G e.a _) ?_;(first|refine gq F (fun h0=>?_) (fun h0=>?_)|refine pq F (fun h0=>?_) (fun h0=>?_))<;>(try exact h0.elim)<;>(try refine sq F ?_)<;>(refine wk F ?_)
   ·refine kq F (hTit e.t _) ?_;refine ee hQ F ?_;exact K9 (.bool _) ⟨by simp[Leaf.right,k,h0],rfl⟩
   ·refine ee hQ F ?_;exact K9 (.bool _) ⟨by simp[Leaf.right,k,h0],rfl⟩
  ·refine kq F (ak G e.a _) ?_;(first|refine gq F (fun h0=>?_) (fun h0=>?_)|refine pq F (fun h0=>?_) (fun h0=>?_))<;>(try exact h0.elim)<;>(try refine sq F ?_)<;>(refine wk F ?_)
   ·refine kq F (hTit e.t _) ?_;refine ee hQ F ?_;exact K9 (.bool _) ⟨by simp[Leaf.right,k,h0],rfl⟩
   ·refine ee hQ F ?_;exact K9 (.bool _) ⟨by simp[Leaf.right,k,h0],rfl⟩
 ·refine kq F (ak G e.b _) ?_;(first|refine gq F (fun g2=>?_) (fun g2=>?_)|refine pq F (fun g2=>?_) (fun g2=>?_))<;>(try exact g2.elim)<;>(try refine sq F ?_)<;>(refine wk F ?_)
  ·refine kq F (ak G e.a _) ?_;(first|refine gq F (fun h0=>?_) (fun h0=>?_)|refine pq F (fun h0=>?_) (fun h0=>?_))<;>(try exact h0.elim)<;>(try refine sq F ?_)<;>(refine wk F ?_)
   ·refine kq F (hTit e.t _) ?_;refine ee hQ F ?_;exact K9 (.bool _) ⟨by simp[Leaf.right,k,h0],rfl⟩
   ·refine ee hQ F ?_;exact K9 (.bool _) ⟨by simp[Leaf.right,k,h0],rfl⟩
  ·refine kq F (ak G e.a _) ?_;(first|refine gq F (fun h0=>?_) (fun h0=>?_)|refine pq F (fun h0=>?_) (fun h0=>?_))<;>(try exact h0.elim)<;>(try refine sq F ?_)<;>(refine wk F ?_)
   ·refine kq F (hTit e.t _) ?_;refine ee hQ F ?_;exact K9 (.bool _) ⟨by simp[Leaf.right,k,h0],rfl⟩
   ·refine ee hQ F ?_;exact K9 (.bool _) ⟨by simp[Leaf.right,k,h0],rfl⟩
theorem wq(L:Leaf)(hLab:∀t h,Sat (CT G) 154 [.str t] h (fun r h'=>r=.bool (L.label t)∧h'=h))(hTit:∀t h,Sat (CT G) 156 [.str t] h (fun r h'=>r=.bool (L.title t)∧h'=h))
  (hLin:∀t h,Sat (CT G) 158 [.str t] h (fun r h'=>r=.bool (L.link t)∧h'=h))(hPla:∀t h,Sat (CT G) 155 [.str t] h (fun r h'=>r=.bool (L.place t)∧h'=h))(hTag:∀t h,Sat (CT G) 159 [.str t] h (fun r h'=>r=.bool (L.tag t)∧h'=h))
  (hQue:∀t h,Sat (CT G) 160 [.str t] h (fun r h'=>r=.bool (L.query t)∧h'=h))(hMom:∀t h,Sat (CT G) 157 [.int .i64 t] h (fun r h'=>r=.bool (L.moment t)∧h'=h))(e:Ev)(k:e.kind=6)(h:Heap):Sat (CT G) 114 [e.av] h (fun r h'=>r=.bool (L.right e)∧h'=h):=by
 have F:=k;refine sb [.tmp 2] Tryz.func114 ?_;intro Q hQ;refine wk F ?_;(first|refine gq F (fun g1=>?_) (fun g1=>?_)|refine pq F (fun g1=>?_) (fun g1=>?_))<;>(try exact g1.elim)<;>(try refine sq F ?_)<;>(refine wk F ?_)
 ·(first|refine gq F (fun g2=>?_) (fun g2=>?_)|refine pq F (fun g2=>?_) (fun g2=>?_))<;>(try exact g2.elim)<;>(try refine sq F ?_)<;>(refine wk F ?_)
  ·refine kq F (ak G e.a _) ?_;(first|refine gq F (fun h0=>?_) (fun h0=>?_)|refine pq F (fun h0=>?_) (fun h0=>?_))<;>(try exact h0.elim)<;>(try refine sq F ?_)<;>(refine wk F ?_)
   ·refine ee hQ F ?_;exact K9 (.bool _) ⟨by simp[Leaf.right,k,g1,h0],rfl⟩
   ·refine ee hQ F ?_;exact K9 (.bool _) ⟨by simp[Leaf.right,k,g1,h0],rfl⟩
  ·refine kq F (ak G e.a _) ?_;(first|refine gq F (fun h0=>?_) (fun h0=>?_)|refine pq F (fun h0=>?_) (fun h0=>?_))<;>(try exact h0.elim)<;>(try refine sq F ?_)<;>(refine wk F ?_)
   ·refine ee hQ F ?_;exact K9 (.bool _) ⟨by simp[Leaf.right,k,g1,h0],rfl⟩
   ·refine ee hQ F ?_;exact K9 (.bool _) ⟨by simp[Leaf.right,k,g1,h0],rfl⟩
 ·refine kq F (ak G e.b _) ?_;(first|refine gq F (fun g2=>?_) (fun g2=>?_)|refine pq F (fun g2=>?_) (fun g2=>?_))<;>(try exact g2.elim)<;>(try refine sq F ?_)<;>(refine wk F ?_)
  ·refine kq F (ak G e.a _) ?_;(first|refine gq F (fun h0=>?_) (fun h0=>?_)|refine pq F (fun h0=>?_) (fun h0=>?_))<;>(try exact h0.elim)<;>(try refine sq F ?_)<;>(refine wk F ?_)
   ·refine ee hQ F ?_;exact K9 (.bool _) ⟨by simp[Leaf.right,k,g1,h0],rfl⟩
   ·refine ee hQ F ?_;exact K9 (.bool _) ⟨by simp[Leaf.right,k,g1,h0],rfl⟩
  ·refine kq F (ak G e.a _) ?_;(first|refine gq F (fun h0=>?_) (fun h0=>?_)|refine pq F (fun h0=>?_) (fun h0=>?_))<;>(try exact h0.elim)<;>(try refine sq F ?_)<;>(refine wk F ?_)
   ·refine ee hQ F ?_;exact K9 (.bool _) ⟨by simp[Leaf.right,k,g1,h0],rfl⟩
   ·refine ee hQ F ?_;exact K9 (.bool _) ⟨by simp[Leaf.right,k,g1,h0],rfl⟩
theorem wt(L:Leaf)(hLab:∀t h,Sat (CT G) 154 [.str t] h (fun r h'=>r=.bool (L.label t)∧h'=h))(hTit:∀t h,Sat (CT G) 156 [.str t] h (fun r h'=>r=.bool (L.title t)∧h'=h))
  (hLin:∀t h,Sat (CT G) 158 [.str t] h (fun r h'=>r=.bool (L.link t)∧h'=h))(hPla:∀t h,Sat (CT G) 155 [.str t] h (fun r h'=>r=.bool (L.place t)∧h'=h))(hTag:∀t h,Sat (CT G) 159 [.str t] h (fun r h'=>r=.bool (L.tag t)∧h'=h))
  (hQue:∀t h,Sat (CT G) 160 [.str t] h (fun r h'=>r=.bool (L.query t)∧h'=h))(hMom:∀t h,Sat (CT G) 157 [.int .i64 t] h (fun r h'=>r=.bool (L.moment t)∧h'=h))(e:Ev)(k:e.kind=7)(h:Heap):Sat (CT G) 114 [e.av] h (fun r h'=>r=.bool (L.right e)∧h'=h):=by
 have F:=k;refine sb [.tmp 2] Tryz.func114 ?_;intro Q hQ;refine wk F ?_;(first|refine gq F (fun g1=>?_) (fun g1=>?_)|refine pq F (fun g1=>?_) (fun g1=>?_))<;>(try exact g1.elim)<;>(try refine sq F ?_)<;>(refine wk F ?_)
 ·(first|refine gq F (fun g2=>?_) (fun g2=>?_)|refine pq F (fun g2=>?_) (fun g2=>?_))<;>(try exact g2.elim)<;>(try refine sq F ?_)<;>(refine wk F ?_)
  ·refine kq F (ak G e.a _) ?_;(first|refine gq F (fun h0=>?_) (fun h0=>?_)|refine pq F (fun h0=>?_) (fun h0=>?_))<;>(try exact h0.elim)<;>(try refine sq F ?_)<;>(refine wk F ?_)
   ·refine kq F (ak G e.b _) ?_;(first|refine gq F (fun h1=>?_) (fun h1=>?_)|refine pq F (fun h1=>?_) (fun h1=>?_))<;>(try exact h1.elim)<;>(try refine sq F ?_)<;>(refine wk F ?_)
    ·refine kq F (hMom e.n _) ?_;(first|refine gq F (fun h2=>?_) (fun h2=>?_)|refine pq F (fun h2=>?_) (fun h2=>?_))<;>(try exact h2.elim)<;>(try refine sq F ?_)<;>(refine wk F ?_)
     ·refine kq F (hPla e.s _) ?_;(first|refine gq F (fun h3=>?_) (fun h3=>?_)|refine pq F (fun h3=>?_) (fun h3=>?_))<;>(try exact h3.elim)<;>(try refine sq F ?_)<;>(refine wk F ?_)
      ·refine kq F (hTit e.t _) ?_;(first|refine gq F (fun h4=>?_) (fun h4=>?_)|refine pq F (fun h4=>?_) (fun h4=>?_))<;>(try exact h4.elim)<;>(try refine sq F ?_)<;>(refine wk F ?_)
       ·refine kq F (hLin e.u _) ?_;refine ee hQ F ?_;exact K9 (.bool _) ⟨by simp[Leaf.right,k,h0,h1,h2,h3,h4],rfl⟩
       ·refine ee hQ F ?_;exact K9 (.bool _) ⟨by simp[Leaf.right,k,h0,h1,h2,h3,h4],rfl⟩
      ·refine ee hQ F ?_;exact K9 (.bool _) ⟨by simp[Leaf.right,k,h0,h1,h2,h3],rfl⟩
     ·refine ee hQ F ?_;exact K9 (.bool _) ⟨by simp[Leaf.right,k,h0,h1,h2],rfl⟩
    ·refine ee hQ F ?_;exact K9 (.bool _) ⟨by simp[Leaf.right,k,h0,h1],rfl⟩
   ·refine ee hQ F ?_;exact K9 (.bool _) ⟨by simp[Leaf.right,k,h0],rfl⟩
  ·refine kq F (ak G e.a _) ?_;(first|refine gq F (fun h0=>?_) (fun h0=>?_)|refine pq F (fun h0=>?_) (fun h0=>?_))<;>(try exact h0.elim)<;>(try refine sq F ?_)<;>(refine wk F ?_)
   ·refine kq F (ak G e.b _) ?_;(first|refine gq F (fun h1=>?_) (fun h1=>?_)|refine pq F (fun h1=>?_) (fun h1=>?_))<;>(try exact h1.elim)<;>(try refine sq F ?_)<;>(refine wk F ?_)
    ·refine kq F (hMom e.n _) ?_;(first|refine gq F (fun h2=>?_) (fun h2=>?_)|refine pq F (fun h2=>?_) (fun h2=>?_))<;>(try exact h2.elim)<;>(try refine sq F ?_)<;>(refine wk F ?_)
     ·refine kq F (hPla e.s _) ?_;(first|refine gq F (fun h3=>?_) (fun h3=>?_)|refine pq F (fun h3=>?_) (fun h3=>?_))<;>(try exact h3.elim)<;>(try refine sq F ?_)<;>(refine wk F ?_)
      ·refine kq F (hTit e.t _) ?_;(first|refine gq F (fun h4=>?_) (fun h4=>?_)|refine pq F (fun h4=>?_) (fun h4=>?_))<;>(try exact h4.elim)<;>(try refine sq F ?_)<;>(refine wk F ?_)
       ·refine kq F (hLin e.u _) ?_;refine ee hQ F ?_;exact K9 (.bool _) ⟨by simp[Leaf.right,k,h0,h1,h2,h3,h4],rfl⟩
       ·refine ee hQ F ?_;exact K9 (.bool _) ⟨by simp[Leaf.right,k,h0,h1,h2,h3,h4],rfl⟩
      ·refine ee hQ F ?_;exact K9 (.bool _) ⟨by simp[Leaf.right,k,h0,h1,h2,h3],rfl⟩
     ·refine ee hQ F ?_;exact K9 (.bool _) ⟨by simp[Leaf.right,k,h0,h1,h2],rfl⟩
    ·refine ee hQ F ?_;exact K9 (.bool _) ⟨by simp[Leaf.right,k,h0,h1],rfl⟩
   ·refine ee hQ F ?_;exact K9 (.bool _) ⟨by simp[Leaf.right,k,h0],rfl⟩
 ·refine kq F (ak G e.b _) ?_;(first|refine gq F (fun g2=>?_) (fun g2=>?_)|refine pq F (fun g2=>?_) (fun g2=>?_))<;>(try exact g2.elim)<;>(try refine sq F ?_)<;>(refine wk F ?_)
  ·refine kq F (ak G e.a _) ?_;(first|refine gq F (fun h0=>?_) (fun h0=>?_)|refine pq F (fun h0=>?_) (fun h0=>?_))<;>(try exact h0.elim)<;>(try refine sq F ?_)<;>(refine wk F ?_)
   ·refine kq F (ak G e.b _) ?_;(first|refine gq F (fun h1=>?_) (fun h1=>?_)|refine pq F (fun h1=>?_) (fun h1=>?_))<;>(try exact h1.elim)<;>(try refine sq F ?_)<;>(refine wk F ?_)
    ·refine kq F (hMom e.n _) ?_;(first|refine gq F (fun h2=>?_) (fun h2=>?_)|refine pq F (fun h2=>?_) (fun h2=>?_))<;>(try exact h2.elim)<;>(try refine sq F ?_)<;>(refine wk F ?_)
     ·refine kq F (hPla e.s _) ?_;(first|refine gq F (fun h3=>?_) (fun h3=>?_)|refine pq F (fun h3=>?_) (fun h3=>?_))<;>(try exact h3.elim)<;>(try refine sq F ?_)<;>(refine wk F ?_)
      ·refine kq F (hTit e.t _) ?_;(first|refine gq F (fun h4=>?_) (fun h4=>?_)|refine pq F (fun h4=>?_) (fun h4=>?_))<;>(try exact h4.elim)<;>(try refine sq F ?_)<;>(refine wk F ?_)
       ·refine kq F (hLin e.u _) ?_;refine ee hQ F ?_;exact K9 (.bool _) ⟨by simp[Leaf.right,k,h0,h1,h2,h3,h4],rfl⟩
       ·refine ee hQ F ?_;exact K9 (.bool _) ⟨by simp[Leaf.right,k,h0,h1,h2,h3,h4],rfl⟩
      ·refine ee hQ F ?_;exact K9 (.bool _) ⟨by simp[Leaf.right,k,h0,h1,h2,h3],rfl⟩
     ·refine ee hQ F ?_;exact K9 (.bool _) ⟨by simp[Leaf.right,k,h0,h1,h2],rfl⟩
    ·refine ee hQ F ?_;exact K9 (.bool _) ⟨by simp[Leaf.right,k,h0,h1],rfl⟩
   ·refine ee hQ F ?_;exact K9 (.bool _) ⟨by simp[Leaf.right,k,h0],rfl⟩
  ·refine kq F (ak G e.a _) ?_;(first|refine gq F (fun h0=>?_) (fun h0=>?_)|refine pq F (fun h0=>?_) (fun h0=>?_))<;>(try exact h0.elim)<;>(try refine sq F ?_)<;>(refine wk F ?_)
   ·refine kq F (ak G e.b _) ?_;(first|refine gq F (fun h1=>?_) (fun h1=>?_)|refine pq F (fun h1=>?_) (fun h1=>?_))<;>(try exact h1.elim)<;>(try refine sq F ?_)<;>(refine wk F ?_)
    ·refine kq F (hMom e.n _) ?_;(first|refine gq F (fun h2=>?_) (fun h2=>?_)|refine pq F (fun h2=>?_) (fun h2=>?_))<;>(try exact h2.elim)<;>(try refine sq F ?_)<;>(refine wk F ?_)
     ·refine kq F (hPla e.s _) ?_;(first|refine gq F (fun h3=>?_) (fun h3=>?_)|refine pq F (fun h3=>?_) (fun h3=>?_))<;>(try exact h3.elim)<;>(try refine sq F ?_)<;>(refine wk F ?_)
      ·refine kq F (hTit e.t _) ?_;(first|refine gq F (fun h4=>?_) (fun h4=>?_)|refine pq F (fun h4=>?_) (fun h4=>?_))<;>(try exact h4.elim)<;>(try refine sq F ?_)<;>(refine wk F ?_)
       ·refine kq F (hLin e.u _) ?_;refine ee hQ F ?_;exact K9 (.bool _) ⟨by simp[Leaf.right,k,h0,h1,h2,h3,h4],rfl⟩
       ·refine ee hQ F ?_;exact K9 (.bool _) ⟨by simp[Leaf.right,k,h0,h1,h2,h3,h4],rfl⟩
      ·refine ee hQ F ?_;exact K9 (.bool _) ⟨by simp[Leaf.right,k,h0,h1,h2,h3],rfl⟩
     ·refine ee hQ F ?_;exact K9 (.bool _) ⟨by simp[Leaf.right,k,h0,h1,h2],rfl⟩
    ·refine ee hQ F ?_;exact K9 (.bool _) ⟨by simp[Leaf.right,k,h0,h1],rfl⟩
   ·refine ee hQ F ?_;exact K9 (.bool _) ⟨by simp[Leaf.right,k,h0],rfl⟩
theorem wu(L:Leaf)(hLab:∀t h,Sat (CT G) 154 [.str t] h (fun r h'=>r=.bool (L.label t)∧h'=h))(hTit:∀t h,Sat (CT G) 156 [.str t] h (fun r h'=>r=.bool (L.title t)∧h'=h))
  (hLin:∀t h,Sat (CT G) 158 [.str t] h (fun r h'=>r=.bool (L.link t)∧h'=h))(hPla:∀t h,Sat (CT G) 155 [.str t] h (fun r h'=>r=.bool (L.place t)∧h'=h))(hTag:∀t h,Sat (CT G) 159 [.str t] h (fun r h'=>r=.bool (L.tag t)∧h'=h))
  (hQue:∀t h,Sat (CT G) 160 [.str t] h (fun r h'=>r=.bool (L.query t)∧h'=h))(hMom:∀t h,Sat (CT G) 157 [.int .i64 t] h (fun r h'=>r=.bool (L.moment t)∧h'=h))(e:Ev)(k:e.kind=8)(h:Heap):Sat (CT G) 114 [e.av] h (fun r h'=>r=.bool (L.right e)∧h'=h):=by
 have F:=k;refine sb [.tmp 2] Tryz.func114 ?_;intro Q hQ;refine wk F ?_;(first|refine gq F (fun g1=>?_) (fun g1=>?_)|refine pq F (fun g1=>?_) (fun g1=>?_))<;>(try exact g1.elim)<;>(try refine sq F ?_)<;>(refine wk F ?_)
 ·(first|refine gq F (fun g2=>?_) (fun g2=>?_)|refine pq F (fun g2=>?_) (fun g2=>?_))<;>(try exact g2.elim)<;>(try refine sq F ?_)<;>(refine wk F ?_)
  ·refine kq F (ak G e.a _) ?_;(first|refine gq F (fun h0=>?_) (fun h0=>?_)|refine pq F (fun h0=>?_) (fun h0=>?_))<;>(try exact h0.elim)<;>(try refine sq F ?_)<;>(refine wk F ?_)
   ·refine ee hQ F ?_;exact K9 (.bool _) ⟨by simp[Leaf.right,k,g2,h0],rfl⟩
   ·refine ee hQ F ?_;exact K9 (.bool _) ⟨by simp[Leaf.right,k,g2,h0],rfl⟩
  ·refine kq F (ak G e.a _) ?_;(first|refine gq F (fun h0=>?_) (fun h0=>?_)|refine pq F (fun h0=>?_) (fun h0=>?_))<;>(try exact h0.elim)<;>(try refine sq F ?_)<;>(refine wk F ?_)
   ·refine ee hQ F ?_;exact K9 (.bool _) ⟨by simp[Leaf.right,k,g2,h0],rfl⟩
   ·refine ee hQ F ?_;exact K9 (.bool _) ⟨by simp[Leaf.right,k,g2,h0],rfl⟩
 ·refine kq F (ak G e.b _) ?_;(first|refine gq F (fun g2=>?_) (fun g2=>?_)|refine pq F (fun g2=>?_) (fun g2=>?_))<;>(try exact g2.elim)<;>(try refine sq F ?_)<;>(refine wk F ?_)
  ·refine kq F (ak G e.a _) ?_;(first|refine gq F (fun h0=>?_) (fun h0=>?_)|refine pq F (fun h0=>?_) (fun h0=>?_))<;>(try exact h0.elim)<;>(try refine sq F ?_)<;>(refine wk F ?_)
   ·refine ee hQ F ?_;exact K9 (.bool _) ⟨by simp[Leaf.right,k,g2,h0],rfl⟩
   ·refine ee hQ F ?_;exact K9 (.bool _) ⟨by simp[Leaf.right,k,g2,h0],rfl⟩
  ·refine kq F (ak G e.a _) ?_;(first|refine gq F (fun h0=>?_) (fun h0=>?_)|refine pq F (fun h0=>?_) (fun h0=>?_))<;>(try exact h0.elim)<;>(try refine sq F ?_)<;>(refine wk F ?_)
   ·refine ee hQ F ?_;exact K9 (.bool _) ⟨by simp[Leaf.right,k,g2,h0],rfl⟩
   ·refine ee hQ F ?_;exact K9 (.bool _) ⟨by simp[Leaf.right,k,g2,h0],rfl⟩
theorem wv(L:Leaf)(hLab:∀t h,Sat (CT G) 154 [.str t] h (fun r h'=>r=.bool (L.label t)∧h'=h))(hTit:∀t h,Sat (CT G) 156 [.str t] h (fun r h'=>r=.bool (L.title t)∧h'=h))
  (hLin:∀t h,Sat (CT G) 158 [.str t] h (fun r h'=>r=.bool (L.link t)∧h'=h))(hPla:∀t h,Sat (CT G) 155 [.str t] h (fun r h'=>r=.bool (L.place t)∧h'=h))(hTag:∀t h,Sat (CT G) 159 [.str t] h (fun r h'=>r=.bool (L.tag t)∧h'=h))
  (hQue:∀t h,Sat (CT G) 160 [.str t] h (fun r h'=>r=.bool (L.query t)∧h'=h))(hMom:∀t h,Sat (CT G) 157 [.int .i64 t] h (fun r h'=>r=.bool (L.moment t)∧h'=h))(e:Ev)(k:e.kind=9)(h:Heap):Sat (CT G) 114 [e.av] h (fun r h'=>r=.bool (L.right e)∧h'=h):=by
 have F:=k;refine sb [.tmp 2] Tryz.func114 ?_;intro Q hQ;refine wk F ?_;(first|refine gq F (fun g1=>?_) (fun g1=>?_)|refine pq F (fun g1=>?_) (fun g1=>?_))<;>(try exact g1.elim)<;>(try refine sq F ?_)<;>(refine wk F ?_)
 ·(first|refine gq F (fun g2=>?_) (fun g2=>?_)|refine pq F (fun g2=>?_) (fun g2=>?_))<;>(try exact g2.elim)<;>(try refine sq F ?_)<;>(refine wk F ?_)
  ·refine kq F (ak G e.a _) ?_;(first|refine gq F (fun h0=>?_) (fun h0=>?_)|refine pq F (fun h0=>?_) (fun h0=>?_))<;>(try exact h0.elim)<;>(try refine sq F ?_)<;>(refine wk F ?_)
   ·refine ee hQ F ?_;exact K9 (.bool _) ⟨by simp[Leaf.right,k,g2,h0],rfl⟩
   ·refine ee hQ F ?_;exact K9 (.bool _) ⟨by simp[Leaf.right,k,g2,h0],rfl⟩
  ·refine kq F (ak G e.a _) ?_;(first|refine gq F (fun h0=>?_) (fun h0=>?_)|refine pq F (fun h0=>?_) (fun h0=>?_))<;>(try exact h0.elim)<;>(try refine sq F ?_)<;>(refine wk F ?_)
   ·refine ee hQ F ?_;exact K9 (.bool _) ⟨by simp[Leaf.right,k,g2,h0],rfl⟩
   ·refine ee hQ F ?_;exact K9 (.bool _) ⟨by simp[Leaf.right,k,g2,h0],rfl⟩
 ·refine kq F (ak G e.b _) ?_;(first|refine gq F (fun g2=>?_) (fun g2=>?_)|refine pq F (fun g2=>?_) (fun g2=>?_))<;>(try exact g2.elim)<;>(try refine sq F ?_)<;>(refine wk F ?_)
  ·refine kq F (ak G e.a _) ?_;(first|refine gq F (fun h0=>?_) (fun h0=>?_)|refine pq F (fun h0=>?_) (fun h0=>?_))<;>(try exact h0.elim)<;>(try refine sq F ?_)<;>(refine wk F ?_)
   ·refine ee hQ F ?_;exact K9 (.bool _) ⟨by simp[Leaf.right,k,g2,h0],rfl⟩
   ·refine ee hQ F ?_;exact K9 (.bool _) ⟨by simp[Leaf.right,k,g2,h0],rfl⟩
  ·refine kq F (ak G e.a _) ?_;(first|refine gq F (fun h0=>?_) (fun h0=>?_)|refine pq F (fun h0=>?_) (fun h0=>?_))<;>(try exact h0.elim)<;>(try refine sq F ?_)<;>(refine wk F ?_)
   ·refine ee hQ F ?_;exact K9 (.bool _) ⟨by simp[Leaf.right,k,g2,h0],rfl⟩
   ·refine ee hQ F ?_;exact K9 (.bool _) ⟨by simp[Leaf.right,k,g2,h0],rfl⟩
theorem tZ(L:Leaf)(hLab:∀t h,Sat (CT G) 154 [.str t] h (fun r h'=>r=.bool (L.label t)∧h'=h))(hTit:∀t h,Sat (CT G) 156 [.str t] h (fun r h'=>r=.bool (L.title t)∧h'=h))
  (hLin:∀t h,Sat (CT G) 158 [.str t] h (fun r h'=>r=.bool (L.link t)∧h'=h))(hPla:∀t h,Sat (CT G) 155 [.str t] h (fun r h'=>r=.bool (L.place t)∧h'=h))(hTag:∀t h,Sat (CT G) 159 [.str t] h (fun r h'=>r=.bool (L.tag t)∧h'=h))
  (hQue:∀t h,Sat (CT G) 160 [.str t] h (fun r h'=>r=.bool (L.query t)∧h'=h))(hMom:∀t h,Sat (CT G) 157 [.int .i64 t] h (fun r h'=>r=.bool (L.moment t)∧h'=h))(e:Ev)(k:e.kind=10)(h:Heap):Sat (CT G) 114 [e.av] h (fun r h'=>r=.bool (L.right e)∧h'=h):=by
 have F:=k;refine sb [.tmp 2] Tryz.func114 ?_;intro Q hQ;refine wk F ?_;(first|refine gq F (fun g1=>?_) (fun g1=>?_)|refine pq F (fun g1=>?_) (fun g1=>?_))<;>(try exact g1.elim)<;>(try refine sq F ?_)<;>(refine wk F ?_)
 ·(first|refine gq F (fun g2=>?_) (fun g2=>?_)|refine pq F (fun g2=>?_) (fun g2=>?_))<;>(try exact g2.elim)<;>(try refine sq F ?_)<;>(refine wk F ?_)
  ·refine kq F (ak G e.a _) ?_;(first|refine gq F (fun h0=>?_) (fun h0=>?_)|refine pq F (fun h0=>?_) (fun h0=>?_))<;>(try exact h0.elim)<;>(try refine sq F ?_)<;>(refine wk F ?_)
   ·refine kq F (hTag e.s _) ?_;refine ee hQ F ?_;exact K9 (.bool _) ⟨by simp[Leaf.right,k,g2,h0],rfl⟩
   ·refine ee hQ F ?_;exact K9 (.bool _) ⟨by simp[Leaf.right,k,g2,h0],rfl⟩
  ·refine kq F (ak G e.a _) ?_;(first|refine gq F (fun h0=>?_) (fun h0=>?_)|refine pq F (fun h0=>?_) (fun h0=>?_))<;>(try exact h0.elim)<;>(try refine sq F ?_)<;>(refine wk F ?_)
   ·(first|refine gq F (fun h1=>?_) (fun h1=>?_)|refine pq F (fun h1=>?_) (fun h1=>?_))<;>(try exact h1.elim)<;>(try refine sq F ?_)<;>(refine wk F ?_)
    ·refine kq F (hTag e.s _) ?_;refine ee hQ F ?_;exact K9 (.bool _) ⟨by simp[Leaf.right,k,g2,h0,h1],rfl⟩
    ·refine ee hQ F ?_;exact K9 (.bool _) ⟨by simp[Leaf.right,k,g2,h0,h1],rfl⟩
   ·refine ee hQ F ?_;exact K9 (.bool _) ⟨by simp[Leaf.right,k,g2,h0],rfl⟩
 ·refine kq F (ak G e.b _) ?_;(first|refine gq F (fun g2=>?_) (fun g2=>?_)|refine pq F (fun g2=>?_) (fun g2=>?_))<;>(try exact g2.elim)<;>(try refine sq F ?_)<;>(refine wk F ?_)
  ·refine kq F (ak G e.a _) ?_;(first|refine gq F (fun h0=>?_) (fun h0=>?_)|refine pq F (fun h0=>?_) (fun h0=>?_))<;>(try exact h0.elim)<;>(try refine sq F ?_)<;>(refine wk F ?_)
   ·refine kq F (hTag e.s _) ?_;refine ee hQ F ?_;exact K9 (.bool _) ⟨by simp[Leaf.right,k,g2,h0],rfl⟩
   ·refine ee hQ F ?_;exact K9 (.bool _) ⟨by simp[Leaf.right,k,g2,h0],rfl⟩
  ·refine kq F (ak G e.a _) ?_;(first|refine gq F (fun h0=>?_) (fun h0=>?_)|refine pq F (fun h0=>?_) (fun h0=>?_))<;>(try exact h0.elim)<;>(try refine sq F ?_)<;>(refine wk F ?_)
   ·(first|refine gq F (fun h1=>?_) (fun h1=>?_)|refine pq F (fun h1=>?_) (fun h1=>?_))<;>(try exact h1.elim)<;>(try refine sq F ?_)<;>(refine wk F ?_)
    ·refine kq F (hTag e.s _) ?_;refine ee hQ F ?_;exact K9 (.bool _) ⟨by simp[Leaf.right,k,g2,h0,h1],rfl⟩
    ·refine ee hQ F ?_;exact K9 (.bool _) ⟨by simp[Leaf.right,k,g2,h0,h1],rfl⟩
   ·refine ee hQ F ?_;exact K9 (.bool _) ⟨by simp[Leaf.right,k,g2,h0],rfl⟩
theorem u4(L:Leaf)(hLab:∀t h,Sat (CT G) 154 [.str t] h (fun r h'=>r=.bool (L.label t)∧h'=h))(hTit:∀t h,Sat (CT G) 156 [.str t] h (fun r h'=>r=.bool (L.title t)∧h'=h))
  (hLin:∀t h,Sat (CT G) 158 [.str t] h (fun r h'=>r=.bool (L.link t)∧h'=h))(hPla:∀t h,Sat (CT G) 155 [.str t] h (fun r h'=>r=.bool (L.place t)∧h'=h))(hTag:∀t h,Sat (CT G) 159 [.str t] h (fun r h'=>r=.bool (L.tag t)∧h'=h))
  (hQue:∀t h,Sat (CT G) 160 [.str t] h (fun r h'=>r=.bool (L.query t)∧h'=h))(hMom:∀t h,Sat (CT G) 157 [.int .i64 t] h (fun r h'=>r=.bool (L.moment t)∧h'=h))(e:Ev)(k:e.kind=11)(h:Heap):Sat (CT G) 114 [e.av] h (fun r h'=>r=.bool (L.right e)∧h'=h):=by
 have F:=k;refine sb [.tmp 2] Tryz.func114 ?_;intro Q hQ;refine wk F ?_;(first|refine gq F (fun g1=>?_) (fun g1=>?_)|refine pq F (fun g1=>?_) (fun g1=>?_))<;>(try exact g1.elim)<;>(try refine sq F ?_)<;>(refine wk F ?_)
 ·(first|refine gq F (fun g2=>?_) (fun g2=>?_)|refine pq F (fun g2=>?_) (fun g2=>?_))<;>(try exact g2.elim)<;>(try refine sq F ?_)<;>(refine wk F ?_)
  ·refine kq F (ak G e.a _) ?_;(first|refine gq F (fun h0=>?_) (fun h0=>?_)|refine pq F (fun h0=>?_) (fun h0=>?_))<;>(try exact h0.elim)<;>(try refine sq F ?_)<;>(refine wk F ?_)
   ·refine kq F (hLab e.s _) ?_;(first|refine gq F (fun h1=>?_) (fun h1=>?_)|refine pq F (fun h1=>?_) (fun h1=>?_))<;>(try exact h1.elim)<;>(try refine sq F ?_)<;>(refine wk F ?_)
    ·refine kq F (hQue e.t _) ?_;refine ee hQ F ?_;exact K9 (.bool _) ⟨by simp[Leaf.right,k,h0,h1],rfl⟩
    ·refine ee hQ F ?_;exact K9 (.bool _) ⟨by simp[Leaf.right,k,h0,h1],rfl⟩
   ·refine ee hQ F ?_;exact K9 (.bool _) ⟨by simp[Leaf.right,k,h0],rfl⟩
  ·refine kq F (ak G e.a _) ?_;(first|refine gq F (fun h0=>?_) (fun h0=>?_)|refine pq F (fun h0=>?_) (fun h0=>?_))<;>(try exact h0.elim)<;>(try refine sq F ?_)<;>(refine wk F ?_)
   ·refine kq F (hLab e.s _) ?_;(first|refine gq F (fun h1=>?_) (fun h1=>?_)|refine pq F (fun h1=>?_) (fun h1=>?_))<;>(try exact h1.elim)<;>(try refine sq F ?_)<;>(refine wk F ?_)
    ·refine kq F (hQue e.t _) ?_;refine ee hQ F ?_;exact K9 (.bool _) ⟨by simp[Leaf.right,k,h0,h1],rfl⟩
    ·refine ee hQ F ?_;exact K9 (.bool _) ⟨by simp[Leaf.right,k,h0,h1],rfl⟩
   ·refine ee hQ F ?_;exact K9 (.bool _) ⟨by simp[Leaf.right,k,h0],rfl⟩
 ·refine kq F (ak G e.b _) ?_;(first|refine gq F (fun g2=>?_) (fun g2=>?_)|refine pq F (fun g2=>?_) (fun g2=>?_))<;>(try exact g2.elim)<;>(try refine sq F ?_)<;>(refine wk F ?_)
  ·refine kq F (ak G e.a _) ?_;(first|refine gq F (fun h0=>?_) (fun h0=>?_)|refine pq F (fun h0=>?_) (fun h0=>?_))<;>(try exact h0.elim)<;>(try refine sq F ?_)<;>(refine wk F ?_)
   ·refine kq F (hLab e.s _) ?_;(first|refine gq F (fun h1=>?_) (fun h1=>?_)|refine pq F (fun h1=>?_) (fun h1=>?_))<;>(try exact h1.elim)<;>(try refine sq F ?_)<;>(refine wk F ?_)
    ·refine kq F (hQue e.t _) ?_;refine ee hQ F ?_;exact K9 (.bool _) ⟨by simp[Leaf.right,k,h0,h1],rfl⟩
    ·refine ee hQ F ?_;exact K9 (.bool _) ⟨by simp[Leaf.right,k,h0,h1],rfl⟩
   ·refine ee hQ F ?_;exact K9 (.bool _) ⟨by simp[Leaf.right,k,h0],rfl⟩
  ·refine kq F (ak G e.a _) ?_;(first|refine gq F (fun h0=>?_) (fun h0=>?_)|refine pq F (fun h0=>?_) (fun h0=>?_))<;>(try exact h0.elim)<;>(try refine sq F ?_)<;>(refine wk F ?_)
   ·refine kq F (hLab e.s _) ?_;(first|refine gq F (fun h1=>?_) (fun h1=>?_)|refine pq F (fun h1=>?_) (fun h1=>?_))<;>(try exact h1.elim)<;>(try refine sq F ?_)<;>(refine wk F ?_)
    ·refine kq F (hQue e.t _) ?_;refine ee hQ F ?_;exact K9 (.bool _) ⟨by simp[Leaf.right,k,h0,h1],rfl⟩
    ·refine ee hQ F ?_;exact K9 (.bool _) ⟨by simp[Leaf.right,k,h0,h1],rfl⟩
   ·refine ee hQ F ?_;exact K9 (.bool _) ⟨by simp[Leaf.right,k,h0],rfl⟩
theorem u5(L:Leaf)(hLab:∀t h,Sat (CT G) 154 [.str t] h (fun r h'=>r=.bool (L.label t)∧h'=h))(hTit:∀t h,Sat (CT G) 156 [.str t] h (fun r h'=>r=.bool (L.title t)∧h'=h))
  (hLin:∀t h,Sat (CT G) 158 [.str t] h (fun r h'=>r=.bool (L.link t)∧h'=h))(hPla:∀t h,Sat (CT G) 155 [.str t] h (fun r h'=>r=.bool (L.place t)∧h'=h))(hTag:∀t h,Sat (CT G) 159 [.str t] h (fun r h'=>r=.bool (L.tag t)∧h'=h))
  (hQue:∀t h,Sat (CT G) 160 [.str t] h (fun r h'=>r=.bool (L.query t)∧h'=h))(hMom:∀t h,Sat (CT G) 157 [.int .i64 t] h (fun r h'=>r=.bool (L.moment t)∧h'=h))(e:Ev)(k:e.kind=13)(h:Heap):Sat (CT G) 114 [e.av] h (fun r h'=>r=.bool (L.right e)∧h'=h):=by
 have F:=k;refine sb [.tmp 2] Tryz.func114 ?_;intro Q hQ;refine wk F ?_;(first|refine gq F (fun g1=>?_) (fun g1=>?_)|refine pq F (fun g1=>?_) (fun g1=>?_))<;>(try exact g1.elim)<;>(try refine sq F ?_)<;>(refine wk F ?_)
 ·(first|refine gq F (fun g2=>?_) (fun g2=>?_)|refine pq F (fun g2=>?_) (fun g2=>?_))<;>(try exact g2.elim)<;>(try refine sq F ?_)<;>(refine wk F ?_)
  ·refine kq F (hMom e.n _) ?_;refine ee hQ F ?_;exact K9 (.bool _) ⟨by simp[Leaf.right,k],rfl⟩
  ·refine kq F (hMom e.n _) ?_;refine ee hQ F ?_;exact K9 (.bool _) ⟨by simp[Leaf.right,k],rfl⟩
 ·refine kq F (ak G e.b _) ?_;(first|refine gq F (fun g2=>?_) (fun g2=>?_)|refine pq F (fun g2=>?_) (fun g2=>?_))<;>(try exact g2.elim)<;>(try refine sq F ?_)<;>(refine wk F ?_)
  ·refine kq F (hMom e.n _) ?_;refine ee hQ F ?_;exact K9 (.bool _) ⟨by simp[Leaf.right,k],rfl⟩
  ·refine kq F (hMom e.n _) ?_;refine ee hQ F ?_;exact K9 (.bool _) ⟨by simp[Leaf.right,k],rfl⟩
theorem ww(L:Leaf)(hLab:∀t h,Sat (CT G) 154 [.str t] h (fun r h'=>r=.bool (L.label t)∧h'=h))(hTit:∀t h,Sat (CT G) 156 [.str t] h (fun r h'=>r=.bool (L.title t)∧h'=h))
  (hLin:∀t h,Sat (CT G) 158 [.str t] h (fun r h'=>r=.bool (L.link t)∧h'=h))(hPla:∀t h,Sat (CT G) 155 [.str t] h (fun r h'=>r=.bool (L.place t)∧h'=h))(hTag:∀t h,Sat (CT G) 159 [.str t] h (fun r h'=>r=.bool (L.tag t)∧h'=h))
  (hQue:∀t h,Sat (CT G) 160 [.str t] h (fun r h'=>r=.bool (L.query t)∧h'=h))(hMom:∀t h,Sat (CT G) 157 [.int .i64 t] h (fun r h'=>r=.bool (L.moment t)∧h'=h))(e:Ev)(m1:¬e.kind=1)(m2:¬e.kind=2)(m4:¬e.kind=4)(m12:¬e.kind=12)(m3:¬e.kind=3)(m5:¬e.kind=5)(m6:¬e.kind=6)(m7:¬e.kind=7)(m8:¬e.kind=8)(m9:¬e.kind=9)(m10:¬e.kind=10)(m11:¬e.kind=11)(m13:¬e.kind=13)(h:Heap):Sat (CT G) 114 [e.av] h (fun r h'=>r=.bool (L.right e)∧h'=h):=by
 have n1:(e.kind==1)=false:=by simp[m1]
 have n2:(e.kind==2)=false:=by simp[m2]
 have n4:(e.kind==4)=false:=by simp[m4]
 have n12:(e.kind==12)=false:=by simp[m12]
 have n3:(e.kind==3)=false:=by simp[m3]
 have n5:(e.kind==5)=false:=by simp[m5]
 have n6:(e.kind==6)=false:=by simp[m6]
 have n7:(e.kind==7)=false:=by simp[m7]
 have n8:(e.kind==8)=false:=by simp[m8]
 have n9:(e.kind==9)=false:=by simp[m9]
 have n10:(e.kind==10)=false:=by simp[m10]
 have n11:(e.kind==11)=false:=by simp[m11]
 have n13:(e.kind==13)=false:=by simp[m13]
 have F:=F2 (F9 n1 n2 n4 n12 n3 n5 n6 n7 n8) (F4 n9 n10 n11 n13);refine sb [.tmp 2] Tryz.func114 ?_;intro Q hQ;refine wk F ?_;(first|refine gq F (fun g1=>?_) (fun g1=>?_)|refine pq F (fun g1=>?_) (fun g1=>?_))<;>(try exact g1.elim)<;>(try refine sq F ?_)<;>(refine wk F ?_)
 ·(first|refine gq F (fun g2=>?_) (fun g2=>?_)|refine pq F (fun g2=>?_) (fun g2=>?_))<;>(try exact g2.elim)<;>(try refine sq F ?_)<;>(refine wk F ?_)
  ·refine ee hQ F ?_;exact K9 (.bool _) ⟨by simp[Leaf.right,m1,m2,m4,m12,m3,m5,m6,m7,m8,m9,m10,m11,m13],rfl⟩
  ·refine ee hQ F ?_;exact K9 (.bool _) ⟨by simp[Leaf.right,m1,m2,m4,m12,m3,m5,m6,m7,m8,m9,m10,m11,m13],rfl⟩
 ·refine kq F (ak G e.b _) ?_;(first|refine gq F (fun g2=>?_) (fun g2=>?_)|refine pq F (fun g2=>?_) (fun g2=>?_))<;>(try exact g2.elim)<;>(try refine sq F ?_)<;>(refine wk F ?_)
  ·refine ee hQ F ?_;exact K9 (.bool _) ⟨by simp[Leaf.right,m1,m2,m4,m12,m3,m5,m6,m7,m8,m9,m10,m11,m13],rfl⟩
  ·refine ee hQ F ?_;exact K9 (.bool _) ⟨by simp[Leaf.right,m1,m2,m4,m12,m3,m5,m6,m7,m8,m9,m10,m11,m13],rfl⟩
theorem pk(L:Leaf)(hLab:∀t h,Sat (CT G) 154 [.str t] h (fun r h'=>r=.bool (L.label t)∧h'=h))(hTit:∀t h,Sat (CT G) 156 [.str t] h (fun r h'=>r=.bool (L.title t)∧h'=h))
  (hLin:∀t h,Sat (CT G) 158 [.str t] h (fun r h'=>r=.bool (L.link t)∧h'=h))(hPla:∀t h,Sat (CT G) 155 [.str t] h (fun r h'=>r=.bool (L.place t)∧h'=h))(hTag:∀t h,Sat (CT G) 159 [.str t] h (fun r h'=>r=.bool (L.tag t)∧h'=h))
  (hQue:∀t h,Sat (CT G) 160 [.str t] h (fun r h'=>r=.bool (L.query t)∧h'=h))(hMom:∀t h,Sat (CT G) 157 [.int .i64 t] h (fun r h'=>r=.bool (L.moment t)∧h'=h))(e:Ev)(h:Heap):Sat (CT G) 114 [e.av] h (fun r h'=>r=.bool (L.right e)∧h'=h):=by
 by_cases m1:e.kind=1
 ·exact wh G L hLab hTit hLin hPla hTag hQue hMom e m1 h
 by_cases m2:e.kind=2
 ·exact wj G L hLab hTit hLin hPla hTag hQue hMom e m2 h
 by_cases m4:e.kind=4
 ·exact wl G L hLab hTit hLin hPla hTag hQue hMom e m4 h
 by_cases m12:e.kind=12
 ·exact tY G L hLab hTit hLin hPla hTag hQue hMom e m12 h
 by_cases m3:e.kind=3
 ·exact wm G L hLab hTit hLin hPla hTag hQue hMom e m3 h
 by_cases m5:e.kind=5
 ·exact wo G L hLab hTit hLin hPla hTag hQue hMom e m5 h
 by_cases m6:e.kind=6
 ·exact wq G L hLab hTit hLin hPla hTag hQue hMom e m6 h
 by_cases m7:e.kind=7
 ·exact wt G L hLab hTit hLin hPla hTag hQue hMom e m7 h
 by_cases m8:e.kind=8
 ·exact wu G L hLab hTit hLin hPla hTag hQue hMom e m8 h
 by_cases m9:e.kind=9
 ·exact wv G L hLab hTit hLin hPla hTag hQue hMom e m9 h
 by_cases m10:e.kind=10
 ·exact tZ G L hLab hTit hLin hPla hTag hQue hMom e m10 h
 by_cases m11:e.kind=11
 ·exact u4 G L hLab hTit hLin hPla hTag hQue hMom e m11 h
 by_cases m13:e.kind=13
 ·exact u5 G L hLab hTit hLin hPla hTag hQue hMom e m13 h
 exact ww G L hLab hTit hLin hPla hTag hQue hMom e m1 m2 m4 m12 m3 m5 m6 m7 m8 m9 m10 m11 m13 h
end
end Go.Av
