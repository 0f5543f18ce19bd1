/- Closed runs: are two memories the same; what is handed back, read as data. -/
import Derived.Test.YtanjiiailjilbaaGreatMcWc
set_option linter.unusedSimpArgs false
set_option linter.unusedVariables false
set_option linter.unusedSectionVars false
set_option linter.unnecessarySimpa false
set_option maxRecDepth 100000
set_option maxHeartbeats 4000000
namespace Go.Av
open Go Go.Proofs Go.RowKit
attribute [local irreducible] WP WPl WPix Sat
variable (G:Nat→Option (List AVal))
def PS.fits(s:PS)(ok:Bool)(dp:Nat)(e:Ev):Bool:=
 ok&&(
  if e.kind=1 then !(lkM s.fo e.a).isSome&&decide (s.fo.length<64)&&s.within e.b&&decide (dp<7)&&((lkM s.nm (e.b,e.s)).getD 0==0)
  else if e.kind=2 then(lkM s.fo e.a).isSome&&((lkM s.he e.a).getD 0==0)
  else if e.kind=3 then !(lkM s.fe e.a).isSome&&decide (s.fe.length<64)&&s.within e.b&&((lkM s.pl e.s).getD 0==0)
  else if e.kind=4∨e.kind=5 then(lkM s.fe e.a).isSome
  else if e.kind=6 then(lkM s.fe e.a).isSome&&s.within e.b
  else if e.kind=7 then !(lkM s.it e.a).isSome&&decide (s.it.length<1024)&&(lkM s.fe e.b).isSome&&((lkM s.gu (e.b,e.s)).getD 0==0)
  else if e.kind=8∨e.kind=9 then(lkM s.it e.a).isSome
  else if e.kind=10 then(lkM s.it e.a).isSome&&(decide (e.n=0)||decide (e.s∈ ((lkM s.it e.a).getD It.z).tags)||decide (((lkM s.it e.a).getD It.z).tags.length<8))
  else if e.kind=11 then !(lkM s.se e.a).isSome&&decide (s.se.length<32)
  else if e.kind=12 then(lkM s.se e.a).isSome
  else decide (s.clock≤e.n))
theorem pG(s:PS)(e:Ev)(ok:Bool)(k dp:Nat)(hdp:deepO s.fo k e.b=some dp)(hdk:dp≤1000)(hl:s.fo.length≤100∧s.fe.length≤100∧s.it.length≤2000∧s.se.length≤100)
  (hE:∀h,Sat (CT G) 92 [e.av] h (fun r h'=>r=.int .i64 (if ok then 0 else 140)∧h'=h))
  (hB:∀(n:Nat) (H:Heap),n+9≤H.length→Sat (CT G) 95 [.hp (n+8) 0 0 0,.int .i64 e.a,.str e.s] (so H n s) (fun r h'=>(∃i:Int,r=.tup [.int .i64 i,.bool (decide (e.s∈ ((lkM s.it e.a).getD It.z).tags))])∧h'=so H n s))
  {H:Heap}{n:Nat}(hn:n+9≤H.length):Sat (CT G) 51 [.hp (n+8) 0 0 0,e.av] (so H n s) (fun r h'=>r=.bool (s.fits ok dp e)∧h'=so H n s):=by
 cases ok with
 |false=>
  have hE:=fun h=>(hE h)
  refine sb [.tmp 4] (fn:=Tryz.f51) Tryz.func51 ?_
  intro Q hQ
  refine wk trivial ?_
  refine kq trivial (hE _) ?_
  refine ee hQ trivial ?_
  exact ax hn (.bool _) ⟨rfl,rfl⟩
 |true=>
  refine sb [.tmp 4] (fn:=Tryz.f51) Tryz.func51 ?_
  intro Q hQ
  refine wk trivial ?_
  refine kq trivial (hE _) ?_
  refine ay 12 [10,11] [true,true,true,true,true,true,true,true,true,true,false,false] (.one 10 [false,true,true,true,true,true,true] (.one 11 [] .fin)) (by decide+kernel) (by kernel_rfl) (by decide+kernel) ?_
  simp only[aC,aD,az]
  try refine sq trivial ?_
  repeat' (first| (refine aj ?_;try refine sq trivial ?_)| (refine ak ?_;try refine sq trivial ?_)| (refine am ?_ ?_<;>try refine sq trivial ?_))
  all_goals try refine wk trivial ?_
  refine ay 12 [10,11] [true,true,true,true,true,true,true,true,true,true,false,false] (.one 10 [false,true,true,true,true,true,true] (.one 11 [] .fin)) (by decide+kernel) (by kernel_rfl) (by decide+kernel) ?_
  simp only[aC,aD,az]
  try refine sq trivial ?_
  repeat' (first| (refine aj ?_;try refine sq trivial ?_)| (refine ak ?_;try refine sq trivial ?_)| (refine am ?_ ?_<;>try refine sq trivial ?_))
  all_goals try refine wk trivial ?_
  refine ay 12 [10,11] [true,true,true,true,true,true,true,true,true,true,false,false] (.one 10 [false,true,true,true,true,true,true] (.one 11 [] .fin)) (by decide+kernel) (by kernel_rfl) (by decide+kernel) ?_
  simp only[aC,aD,az]
  try refine sq trivial ?_
  repeat' (first| (refine aj ?_;try refine sq trivial ?_)| (refine ak ?_;try refine sq trivial ?_)| (refine am ?_ ?_<;>try refine sq trivial ?_))
  all_goals try refine wk trivial ?_
  refine ay 12 [10,11] [true,true,true,true,true,true,true,true,true,true,false,false] (.one 10 [false,true,true,true,true,true,true] (.one 11 [] .fin)) (by decide+kernel) (by kernel_rfl) (by decide+kernel) ?_
  simp only[aC,aD,az]
  try refine sq trivial ?_
  repeat' (first| (refine aj ?_;try refine sq trivial ?_)| (refine ak ?_;try refine sq trivial ?_)| (refine am ?_ ?_<;>try refine sq trivial ?_))
  all_goals try refine wk trivial ?_
  by_cases k1:e.kind=1
  ·have F:=k1
   try refine sq F ?_
   refine wk F ?_
   (first|refine gq F (fun g1=>?_) (fun g1=>?_)|refine pq F (fun g1=>?_) (fun g1=>?_))<;>(try exact g1.elim)<;>(try refine sq F ?_)<;>(refine wk F ?_)
   ·skip
    (first|refine gq F (fun g2=>?_) (fun g2=>?_)|refine pq F (fun g2=>?_) (fun g2=>?_))<;>(try exact g2.elim)<;>(try refine sq F ?_)<;>(refine wk F ?_)
    ·have ag2:s.fo.length<64:=by omega
     refine aA (eM G s e.b (by simp;omega)) ?_
     try refine sq F ?_
     refine wk F ?_
     (first|refine gq F (fun g3=>?_) (fun g3=>?_)|refine pq F (fun g3=>?_) (fun g3=>?_))<;>(try exact g3.elim)<;>(try refine sq F ?_)<;>(refine wk F ?_)
     ·skip
      refine aA (p4 G s e.b k dp hdp hdk (by simp;omega)) ?_
      try refine sq F ?_
      refine wk F ?_
      (first|refine gq F (fun g4=>?_) (fun g4=>?_)|refine pq F (fun g4=>?_) (fun g4=>?_))<;>(try exact g4.elim)<;>(try refine sq F ?_)<;>(refine wk F ?_)
      ·have ag4:dp<7:=by omega
       refine ee hQ F ?_
       exact ax hn (.bool _) ⟨by simp[PS.fits,k1,g1,ag2,g3,ag4],rfl⟩
      ·have ag4:¬dp<7:=by omega
       refine ee hQ F ?_
       exact ax hn (.bool _) ⟨by simp[PS.fits,k1,g1,ag2,g3,ag4],rfl⟩
     ·skip
      refine ee hQ F ?_
      exact ax hn (.bool _) ⟨by simp[PS.fits,k1,g1,ag2,g3],rfl⟩
    ·have ag2:¬s.fo.length<64:=by omega
     refine ee hQ F ?_
     exact ax hn (.bool _) ⟨by simp[PS.fits,k1,g1,ag2],rfl⟩
   ·skip
    refine ee hQ F ?_
    exact ax hn (.bool _) ⟨by simp[PS.fits,k1,g1],rfl⟩
  by_cases k2:e.kind=2
  ·have F:=k2
   try refine sq F ?_
   refine wk F ?_
   (first|refine gq F (fun g1=>?_) (fun g1=>?_)|refine pq F (fun g1=>?_) (fun g1=>?_))<;>(try exact g1.elim)<;>(try refine sq F ?_)<;>(refine wk F ?_)
   ·skip
    refine ee hQ F ?_
    exact ax hn (.bool _) ⟨by simp[PS.fits,k2,g1],rfl⟩
   ·skip
    refine ee hQ F ?_
    exact ax hn (.bool _) ⟨by simp[PS.fits,k2,g1],rfl⟩
  by_cases k3:e.kind=3
  ·have F:=k3
   try refine sq F ?_
   refine wk F ?_
   (first|refine gq F (fun g1=>?_) (fun g1=>?_)|refine pq F (fun g1=>?_) (fun g1=>?_))<;>(try exact g1.elim)<;>(try refine sq F ?_)<;>(refine wk F ?_)
   ·skip
    (first|refine gq F (fun g2=>?_) (fun g2=>?_)|refine pq F (fun g2=>?_) (fun g2=>?_))<;>(try exact g2.elim)<;>(try refine sq F ?_)<;>(refine wk F ?_)
    ·have ag2:s.fe.length<64:=by omega
     refine aA (eM G s e.b (by simp;omega)) ?_
     try refine sq F ?_
     refine wk F ?_
     (first|refine gq F (fun g3=>?_) (fun g3=>?_)|refine pq F (fun g3=>?_) (fun g3=>?_))<;>(try exact g3.elim)<;>(try refine sq F ?_)<;>(refine wk F ?_)
     ·skip
      refine ee hQ F ?_
      exact ax hn (.bool _) ⟨by simp[PS.fits,k3,g1,ag2,g3],rfl⟩
     ·skip
      refine ee hQ F ?_
      exact ax hn (.bool _) ⟨by simp[PS.fits,k3,g1,ag2,g3],rfl⟩
    ·have ag2:¬s.fe.length<64:=by omega
     refine ee hQ F ?_
     exact ax hn (.bool _) ⟨by simp[PS.fits,k3,g1,ag2],rfl⟩
   ·skip
    refine ee hQ F ?_
    exact ax hn (.bool _) ⟨by simp[PS.fits,k3,g1],rfl⟩
  by_cases k4:e.kind=4
  ·have F:=k4
   try refine sq F ?_
   refine wk F ?_
   refine ee hQ F ?_
   exact ax hn (.bool _) ⟨by simp[PS.fits,k4],rfl⟩
  by_cases k5:e.kind=5
  ·have F:=k5
   try refine sq F ?_
   refine wk F ?_
   refine ee hQ F ?_
   exact ax hn (.bool _) ⟨by simp[PS.fits,k5],rfl⟩
  by_cases k6:e.kind=6
  ·have F:=k6
   try refine sq F ?_
   refine wk F ?_
   (first|refine gq F (fun g1=>?_) (fun g1=>?_)|refine pq F (fun g1=>?_) (fun g1=>?_))<;>(try exact g1.elim)<;>(try refine sq F ?_)<;>(refine wk F ?_)
   ·refine kq F (eM G s e.b (by simp;omega)) ?_
    refine ee hQ F ?_
    exact ax hn (.bool _) ⟨by simp[PS.fits,k6,g1],rfl⟩
   ·skip
    refine ee hQ F ?_
    exact ax hn (.bool _) ⟨by simp[PS.fits,k6,g1],rfl⟩
  by_cases k7:e.kind=7
  ·have F:=k7
   try refine sq F ?_
   refine wk F ?_
   refine ay 12 [10,11] [true,true,true,true,true,true,true,true,true,true,false,false] (.one 10 [false,true,true,true,true,true,true] (.one 11 [] .fin)) (by decide+kernel) (by kernel_rfl) (by decide+kernel) ?_
   simp only[aC,aD,az]
   try refine sq F ?_
   repeat' (first| (refine aj ?_;try refine sq F ?_)| (refine ak ?_;try refine sq F ?_)| (refine am ?_ ?_<;>try refine sq F ?_))
   all_goals try refine wk F ?_
   (first|refine gq F (fun g1=>?_) (fun g1=>?_)|refine pq F (fun g1=>?_) (fun g1=>?_))<;>(try exact g1.elim)<;>(try refine sq F ?_)<;>(refine wk F ?_)
   ·skip
    (first|refine gq F (fun g2=>?_) (fun g2=>?_)|refine pq F (fun g2=>?_) (fun g2=>?_))<;>(try exact g2.elim)<;>(try refine sq F ?_)<;>(refine wk F ?_)
    ·have ag2:s.it.length<1024:=by omega
     (first|refine gq F (fun g3=>?_) (fun g3=>?_)|refine pq F (fun g3=>?_) (fun g3=>?_))<;>(try exact g3.elim)<;>(try refine sq F ?_)<;>(refine wk F ?_)
     ·skip
      refine ee hQ F ?_
      exact ax hn (.bool _) ⟨by simp[PS.fits,k7,g1,ag2,g3],rfl⟩
     ·skip
      refine ee hQ F ?_
      exact ax hn (.bool _) ⟨by simp[PS.fits,k7,g1,ag2,g3],rfl⟩
    ·have ag2:¬s.it.length<1024:=by omega
     refine ee hQ F ?_
     exact ax hn (.bool _) ⟨by simp[PS.fits,k7,g1,ag2],rfl⟩
   ·skip
    refine ee hQ F ?_
    exact ax hn (.bool _) ⟨by simp[PS.fits,k7,g1],rfl⟩
  by_cases k8:e.kind=8
  ·have F:=k8
   try refine sq F ?_
   refine wk F ?_
   refine ee hQ F ?_
   exact ax hn (.bool _) ⟨by simp[PS.fits,k8],rfl⟩
  by_cases k9:e.kind=9
  ·have F:=k9
   try refine sq F ?_
   refine wk F ?_
   refine ee hQ F ?_
   exact ax hn (.bool _) ⟨by simp[PS.fits,k9],rfl⟩
  by_cases k10:e.kind=10
  ·have F:=k10
   try refine sq F ?_
   refine wk F ?_
   refine(hB n _ (by simp;omega)).mono ?_
   rintro r h' ⟨⟨i,rfl⟩,rfl⟩
   try refine sq F ?_
   refine wk F ?_
   (first|refine gq F (fun g1=>?_) (fun g1=>?_)|refine pq F (fun g1=>?_) (fun g1=>?_))<;>(try exact g1.elim)<;>(try refine sq F ?_)<;>(refine wk F ?_)
   ·(first|refine gq F (fun g2=>?_) (fun g2=>?_)|refine pq F (fun g2=>?_) (fun g2=>?_))<;>(try exact g2.elim)<;>(try refine sq F ?_)<;>(refine wk F ?_)
    ·skip
     refine ee hQ F ?_
     exact ax hn (.bool _) ⟨by simp[PS.fits,k10,g1,g2],rfl⟩
    ·(first|refine gq F (fun g3=>?_) (fun g3=>?_)|refine pq F (fun g3=>?_) (fun g3=>?_))<;>(try exact g3.elim)<;>(try refine sq F ?_)<;>(refine wk F ?_)
     ·skip
      refine ee hQ F ?_
      exact ax hn (.bool _) ⟨by simp[PS.fits,k10,g1,g2,g3],rfl⟩
     ·skip
      refine ee hQ F ?_
      exact ax hn (.bool _) ⟨by simp[PS.fits,k10,g1,g2,g3];omega,rfl⟩
   ·skip
    refine ee hQ F ?_
    exact ax hn (.bool _) ⟨by simp[PS.fits,k10,g1],rfl⟩
  by_cases k11:e.kind=11
  ·have F:=k11
   try refine sq F ?_
   refine wk F ?_
   (first|refine gq F (fun g1=>?_) (fun g1=>?_)|refine pq F (fun g1=>?_) (fun g1=>?_))<;>(try exact g1.elim)<;>(try refine sq F ?_)<;>(refine wk F ?_)
   ·skip
    refine ee hQ F ?_
    exact ax hn (.bool _) ⟨by simp[PS.fits,k11,g1];omega,rfl⟩
   ·skip
    refine ee hQ F ?_
    exact ax hn (.bool _) ⟨by simp[PS.fits,k11,g1],rfl⟩
  by_cases k12:e.kind=12
  ·have F:=k12
   try refine sq F ?_
   refine wk F ?_
   refine ee hQ F ?_
   exact ax hn (.bool _) ⟨by simp[PS.fits,k12],rfl⟩
  have n1:(e.kind==1)=false:=by simp[k1]
  have n2:(e.kind==2)=false:=by simp[k2]
  have n3:(e.kind==3)=false:=by simp[k3]
  have n4:(e.kind==4)=false:=by simp[k4]
  have n5:(e.kind==5)=false:=by simp[k5]
  have n6:(e.kind==6)=false:=by simp[k6]
  have n7:(e.kind==7)=false:=by simp[k7]
  have n8:(e.kind==8)=false:=by simp[k8]
  have n9:(e.kind==9)=false:=by simp[k9]
  have n10:(e.kind==10)=false:=by simp[k10]
  have n11:(e.kind==11)=false:=by simp[k11]
  have n12:(e.kind==12)=false:=by simp[k12]
  have F:=F2 (F9 n1 n2 n3 n4 n5 n6 n7 n8 n9) (F3 n10 n11 n12)
  try refine sq F ?_
  refine wk F ?_
  refine ee hQ F ?_
  exact ax hn (.bool _) ⟨by simp[PS.fits,k1,k2,k3,k4,k5,k6,k7,k8,k9,k10,k11,k12],rfl⟩
end Go.Av
namespace Go.Av
open Go Go.Proofs Go.RowKit
abbrev T2:=Int×Int
def tA(t:T2):AVal:=.agg [.int .i64 t.1,.int .i64 t.2]
@[go_sem] theorem Gr(t:T2):tA t=.agg [.int .i64 t.1,.int .i64 t.2]:=(rfl)
def tadd(a b:T2):T2:=(a.1+b.1,a.2+b.2)
@[go_sem] theorem GH(o:Option T2):v1 (.agg [.int .i64 0,.int .i64 0]) tA o=.agg [.int .i64 (o.getD (0,0)).1,.int .i64 (o.getD (0,0)).2]:=jP (d:=(0,0)) rfl o
@[go_sem] theorem GI(c:Nat)(l:ML Int T2)(x a b:Int):putM (encM iA tA l) c (.int .i64 x) (.agg [.int .i64 a,.int .i64 b]) (ixM l x)=.mp (encM iA tA (upM l c x (a,b))) (ckM l c x):=iN c l x (a,b) rfl
@[go_sem] theorem Gs(c:Nat)(l:ML Bs T2)(x:Bs)(a b:Int):putM (encM AVal.str tA l) c (.str x) (.agg [.int .i64 a,.int .i64 b]) (ixM l x)=.mp (encM AVal.str tA (upM l c x (a,b))) (ckM l c x):=vI c l x (a,b) rfl
structure CS where
 al:T2
 st:T2
 fo:ML Int T2
 fe:ML Int T2
 tg:ML Bs T2
 it:ML Int It
 inn:ML Int Int
 ab:ML Int Int
 c1:Nat
 c2:Nat
 c3:Nat
 c4:Nat
 c5:Nat
 c6:Nat
def CS.row(m:Nat)(c:CS):AVal:=.agg [.int .i64 c.al.1,.int .i64 c.al.2,.int .i64 c.st.1,.int .i64 c.st.2,.hm m,.hm (m+1),.hm (m+2),.hm (m+3),.hm (m+4),.hm (m+5)]
def CS.bl(m:Nat)(c:CS):List Blk:=
 [.mp (encM iA tA c.fo) c.c1,.mp (encM iA tA c.fe) c.c2,.mp (encM AVal.str tA c.tg) c.c3,.mp (encM iA It.av c.it) c.c4,.mp (encM iA iA c.inn) c.c5,.mp (encM iA iA c.ab) c.c6,.row 96 10 0 [c.row m]]
def CS.z:CS:=⟨(0,0),(0,0),[],[],[],[],[],[],0,0,0,0,0,0⟩
def co(H:Heap)(m:Nat)(c:CS):Heap:=ov H m (c.bl m)
section
variable {H:Heap} {m:Nat} {c:CS}
@[go_sem] theorem qU(hm:m+7≤H.length):getRow (co H m c) (m+6) 0=some (96,10,[.agg [.int .i64 c.al.1,.int .i64 c.al.2,.int .i64 c.st.1,.int .i64 c.st.2,.hm m,.hm (m+1),.hm (m+2),.hm (m+3),.hm (m+4),.hm (m+5)]]):=by
 unfold co;rw[qA 0 hm (by decide+revert:6<7)];rfl
@[go_sem] theorem yR(hm:m+7≤H.length):mapAt (co H m c) m=some (encM iA tA c.fo,c.c1):=by unfold co;rw[nV hm (by simp[CS.bl])];rfl
@[go_sem] theorem yS(hm:m+7≤H.length):mapAt (co H m c) (m+1)=some (encM iA tA c.fe,c.c2):=by unfold co;rw[bO hm (by simp[CS.bl])];rfl
@[go_sem] theorem yT(hm:m+7≤H.length):mapAt (co H m c) (m+2)=some (encM AVal.str tA c.tg,c.c3):=by unfold co;rw[bO hm (by simp[CS.bl])];rfl
@[go_sem] theorem yU(hm:m+7≤H.length):mapAt (co H m c) (m+3)=some (encM iA It.av c.it,c.c4):=by unfold co;rw[bO hm (by simp[CS.bl])];rfl
@[go_sem] theorem Gt(hm:m+7≤H.length):mapAt (co H m c) (m+4)=some (encM iA iA c.inn,c.c5):=by unfold co;rw[bO hm (by simp[CS.bl])];rfl
@[go_sem] theorem Gu(hm:m+7≤H.length):mapAt (co H m c) (m+5)=some (encM iA iA c.ab,c.c6):=by unfold co;rw[bO hm (by simp[CS.bl])];rfl
@[go_sem] theorem Gv(hm:m+7≤H.length)(l:ML Int T2)(k:Nat):(co H m c).set m (.mp (encM iA tA l) k)=co H m {c with fo:=l,c1:=k}:=by unfold co;rw[nT _ hm (by simp[CS.bl])];rfl
@[go_sem] theorem Gw(hm:m+7≤H.length)(l:ML Int T2)(k:Nat):(co H m c).set (m+1) (.mp (encM iA tA l) k)=co H m {c with fe:=l,c2:=k}:=by unfold co;rw[bH _ hm (by simp[CS.bl])];rfl
@[go_sem] theorem Gx(hm:m+7≤H.length)(l:ML Bs T2)(k:Nat):(co H m c).set (m+2) (.mp (encM AVal.str tA l) k)=co H m {c with tg:=l,c3:=k}:=by unfold co;rw[bH _ hm (by simp[CS.bl])];rfl
@[go_sem] theorem Gy(hm:m+7≤H.length)(l:ML Int It)(k:Nat):(co H m c).set (m+3) (.mp (encM iA It.av l) k)=co H m {c with it:=l,c4:=k}:=by unfold co;rw[bH _ hm (by simp[CS.bl])];rfl
@[go_sem] theorem Gz(hm:m+7≤H.length)(l:ML Int Int)(k:Nat):(co H m c).set (m+4) (.mp (encM iA iA l) k)=co H m {c with inn:=l,c5:=k}:=by unfold co;rw[bH _ hm (by simp[CS.bl])];rfl
@[go_sem] theorem GA(hm:m+7≤H.length)(l:ML Int Int)(k:Nat):(co H m c).set (m+5) (.mp (encM iA iA l) k)=co H m {c with ab:=l,c6:=k}:=by unfold co;rw[bH _ hm (by simp[CS.bl])];rfl
@[go_sem] theorem GB(hm:m+7≤H.length)(a b d e:Int):(co H m c).set (m+6) (.row 96 10 0 [.agg [.int .i64 a,.int .i64 b,.int .i64 d,.int .i64 e,.hm m,.hm (m+1),.hm (m+2),.hm (m+3),.hm (m+4),.hm (m+5)]])=co H m {c with al:=(a,b),st:=(d,e)}:=by unfold co;rw[bH _ hm (by simp[CS.bl])];rfl
@[go_sem] theorem mn(hm:m+7≤H.length)(j:Heap):co H m c++j=co (H++j) m c:=jl hm
@[go_sem] theorem c9(hm:m+7≤H.length):(co H m c).length=H.length:=bp hm
@[go_sem] theorem qV(hm:m+7≤H.length){p:Nat}(hp:m+7≤p):(co H m c)[p]? =H[p]? :=fJ hm (.inr hp)
@[go_sem] theorem jX(hm:m+7≤H.length){p:Nat}(v:Nat)(hp:m+7≤p):getRow (co H m c) p v=getRow H p v:=nU v hm (.inr hp)
@[go_sem] theorem uI(hm:m+7≤H.length){p:Nat}(b:Blk)(hp:m+7≤p):(co H m c).set p b=co (H.set p b) m c:=kJ b hm (.inr hp)
@[go_sem] theorem vY(hm:m+7≤H.length):abin Tryz.prog (co H m c) .eql 25 (.hp (m+6) 0 0 0) (.nil (.pointer none))=some (.bool false):=by
 have hk:nilKind Tryz.prog 25 (.pointer none)=true:=by kernel_rfl
 simp[abin,hk,aeqNil,qU hm]
@[go_sem] theorem vZ(hm:m+7≤H.length):abin Tryz.prog (co H m c) .neq 25 (.hp (m+6) 0 0 0) (.nil (.pointer none))=some (.bool true):=by
 have hk:nilKind Tryz.prog 25 (.pointer none)=true:=by kernel_rfl
 simp[abin,hk,aeqNil,qU hm]
end
theorem CS.clo{N m:Nat}(hm:m+7≤N)(c:CS):∀b∈c.bl m,CloB N b:=fun b hb=>by
 have hi:∀x:Int,Clo N (iA x):=fun x=>.int _ _
 have ht:∀x:T2,Clo N (tA x):=fun x=>bt fun c hc=>by simp at hc;rcases hc with rfl|rfl<;>simp
 simp only[CS.bl,List.mem_cons,List.not_mem_nil,or_false]at hb
 rcases hb with rfl|rfl|rfl|rfl|rfl|rfl|rfl
 ·exact bj hi ht _
 ·exact bj hi ht _
 ·exact bj (fun x=>.str _) ht _
 ·exact bj hi (fun x=>It.clo N x) _
 ·exact bj hi hi _
 ·exact bj hi hi _
 ·exact CloB.row fun r hr=>by
   simp at hr;subst hr
   exact bt fun c hc=>by
    simp only[CS.row,List.mem_cons,List.not_mem_nil,or_false]at hc
    rcases hc with rfl|rfl|rfl|rfl|rfl|rfl|rfl|rfl|rfl|rfl<;>simp<;>omega
theorem aT{H j:Heap}{m:Nat}{c c':CS}{R:AVal→Heap→Prop}{r:AVal}(hm:m+7≤H.length)(hc:Clo H.length r)(hR:R r (co H m c')):Fin (co H m c) (co (H++j) m c') R r:=lS hm rfl (CS.clo hm c') hc hR
theorem o7{H:Heap}{m:Nat}{c c':CS}{R:AVal→Heap→Prop}{r:AVal}(hm:m+7≤H.length)(hc:Clo H.length r)(hR:R r (co H m c')):Fin (co H m c) (co H m c') R r:=nW hm rfl (CS.clo hm c') hc hR
theorem uJ{H j:Heap}{m:Nat}{c c':CS}{R:AVal→Heap→Prop}{r0 r:AVal}(hm:m+7≤H.length)(hz:Frz (co (H++j) m c') H.length r0 r)(hR:R r (co H m c')):Fin (co H m c) (co (H++j) m c') R r0:=ew hm rfl (CS.clo hm c') hz hR
theorem wa(h:Heap)(c:CS):h++c.bl h.length=co (h++CS.z.bl h.length) h.length c:=by
 have:=jm h (c.bl h.length) []
 rw[List.append_nil]at this
 rw[this];unfold co
 have hz:ov (h++CS.z.bl h.length) h.length (CS.z.bl h.length)=h++CS.z.bl h.length:=by
  have:=jm h (CS.z.bl h.length) []
  rw[List.append_nil]at this;exact this.symm
 apply List.ext_getElem?
 intro p
 rw[bf (by simp),bf (by simp[CS.bl])]
 split
 ·rfl
 ·rename_i hp
  rcases Nat.lt_or_ge p h.length with h1|h1
  ·rw[List.getElem?_append_left h1,List.getElem?_append_left h1]
  ·rw[List.getElem?_append_right h1,List.getElem?_append_right h1,List.getElem?_eq_none (by simp[CS.bl]at hp ⊢;omega),List.getElem?_eq_none (by simp[CS.bl]at hp ⊢;omega)]
theorem ub{H:Heap}{n m:Nat}(s:PS)(c:CS)(hn:n+9≤m)(hm:m+7≤H.length):so (co H m c) n s=co (so H n s) m c:=ur (bs:=s.bl n) (cs:=c.bl m) (by show n+9≤H.length;omega) hm (.inl hn)
end Go.Av
namespace Go.Av
open Go Go.Proofs Go.RowKit
def negT(t:T2):T2:=(-t.1, -t.2)
def oneT(t:It):T2:=(1,if t.read then 0 else 1)
def foF(t:T2):List Int→ML Int T2→Nat→ML Int T2×Nat
 | [],l,k=>(l,k)
 |id::ch,l,k=>foF t ch (upM l k id (tadd ((lkM l id).getD (0,0)) t)) (ckM l k id)
theorem tu(t:T2)(ch:List Int)(id:Int):∀(l:ML Int T2) (k:Nat),foF t (ch++[id]) l k=(upM (foF t ch l k).1 (foF t ch l k).2 id (tadd ((lkM (foF t ch l k).1 id).getD (0,0)) t),ckM (foF t ch l k).1 (foF t ch l k).2 id):=by
 induction ch with
 |nil=>intro l k;rfl
 |cons a ch ih=>intro l k;rw[List.cons_append,foF,ih];rfl
def CS.shift(c:CS)(ch:List Int)(feed:Int)(t:T2):CS:=
 {c with al:=tadd c.al t,fe:=upM c.fe c.c2 feed (tadd ((lkM c.fe feed).getD (0,0)) t),c2:=ckM c.fe c.c2 feed,fo:=(foF t ch c.fo c.c1).1,c1:=(foF t ch c.fo c.c1).2}
def tg1F(n:T2)(g:Bs)(l:ML Bs T2)(k:Nat):ML Bs T2×Nat:=
 if (tadd ((lkM l g).getD (0,0)) n).1=0 then(dlM l g,k)else(upM l k g (tadd ((lkM l g).getD (0,0)) n),ckM l k g)
def tgsF(n:T2):List Bs→ML Bs T2→Nat→ML Bs T2×Nat
 | [],l,k=>(l,k)
 |g::gs,l,k=>tgsF n gs (tg1F n g l k).1 (tg1F n g l k).2
theorem qW(n:T2)(gs:List Bs)(g:Bs):∀(l:ML Bs T2) (k:Nat),tgsF n (gs++[g]) l k=tg1F n g (tgsF n gs l k).1 (tgsF n gs l k).2:=by
 induction gs with
 |nil=>intro l k;rfl
 |cons a gs ih=>intro l k;rw[List.cons_append,tgsF,ih];rfl
def CS.tag(c:CS)(g:Bs)(n:T2):CS:= {c with tg:=(tg1F n g c.tg c.c3).1,c3:=(tg1F n g c.tg c.c3).2}
def CS.tags(c:CS)(gs:List Bs)(n:T2):CS:= {c with tg:=(tgsF n gs c.tg c.c3).1,c3:=(tgsF n gs c.tg c.c3).2}
def CS.star(c:CS)(b:Bool)(n:T2):CS:= {c with st:=if b then tadd c.st n else c.st}
def CS.count(c:CS)(ch:List Int)(t:It)(n:T2):CS:=((c.shift ch t.feed n).star t.star n).tags t.tags n
def chO(ab:ML Int Int):Nat→Int→Option (List Int)
 |0,id=>if id=0 then some []else none
 |k+1,id=>if id=0 then some []else(chO ab k ((lkM ab id).getD 0)).map (id:: ·)
def CS.chn(c:CS)(feed:Int):List Int:=(chO c.ab 7 ((lkM c.inn feed).getD 0)).getD []
theorem fO(t:T2):∀{ch:List Int} (_:ch.Nodup) (l:ML Int T2) (k:Nat) (x:Int),lkM (foF t ch l k).1 x=if x∈ch then some (tadd ((lkM l x).getD (0,0)) t)else lkM l x:=by
 intro ch
 induction ch with
 |nil=>intro _ l k x;simp[foF]
 |cons a ch ih=>
  intro hn l k x
  rw[List.nodup_cons]at hn
  rw[foF,ih hn.2]
  by_cases hx:x∈ch
  ·have hxa:x≠a:=fun e=>hn.1 (e▸hx)
   rw[if_pos hx,if_pos (List.mem_cons_of_mem _ hx),ap,if_neg hxa]
  ·rw[if_neg hx,ap]
   by_cases hxa:x=a
   ·subst hxa;rw[if_pos rfl,if_pos (List.mem_cons_self ..)]
   ·rw[if_neg hxa,if_neg (by simp[hx,hxa])]
theorem mo(t:T2):∀(ch:List Int) {l:ML Int T2} {k:Nat},WFM l k→WFM (foF t ch l k).1 (foF t ch l k).2:=by
 intro ch
 induction ch with
 |nil=>intro l k h;exact h
 |cons a ch ih=>intro l k h;rw[foF];exact ih (h.up _ _)
theorem jY(n:T2)(g:Bs){l:ML Bs T2}{k:Nat}(h:WFM l k):WFM (tg1F n g l k).1 (tg1F n g l k).2:=by
 unfold tg1F
 split
 ·exact h.dl _
 ·exact h.up _ _
theorem uK(n:T2):∀(gs:List Bs) {l:ML Bs T2} {k:Nat},WFM l k→WFM (tgsF n gs l k).1 (tgsF n gs l k).2:=by
 intro gs
 induction gs with
 |nil=>intro l k h;exact h
 |cons a gs ih=>intro l k h;rw[tgsF];exact ih (jY _ _ h)
def some0(u:T2):Option T2:=if u.1=0 then none else some u
theorem jZ(n:T2)(g:Bs){l:ML Bs T2}{k:Nat}(w:WFM l k)(x:Bs):lkM (tg1F n g l k).1 x=if x=g then some0 (tadd ((lkM l x).getD (0,0)) n)else lkM l x:=by
 unfold tg1F some0
 by_cases hx:x=g
 ·subst hx
  rw[if_pos rfl]
  split
  ·rw[aQ w.keys,if_pos rfl]
  ·rw[ap,if_pos rfl]
 ·rw[if_neg hx]
  split
  ·rw[aQ w.keys,if_neg hx]
  ·rw[ap,if_neg hx]
theorem uL(n:T2):∀{gs:List Bs} (_:gs.Nodup) {l:ML Bs T2} {k:Nat} (_:WFM l k) (x:Bs),lkM (tgsF n gs l k).1 x=if x∈gs then some0 (tadd ((lkM l x).getD (0,0)) n)else lkM l x:=by
 intro gs
 induction gs with
 |nil=>intro _ l k _ x;simp[tgsF]
 |cons a gs ih=>
  intro hn l k w x
  rw[List.nodup_cons]at hn
  rw[tgsF,ih hn.2 (jY _ _ w)]
  by_cases hx:x∈gs
  ·have hxa:x≠a:=fun e=>hn.1 (e▸hx)
   rw[if_pos hx,if_pos (List.mem_cons_of_mem _ hx),jZ _ _ w,if_neg hxa]
  ·rw[if_neg hx,jZ _ _ w]
   by_cases hxa:x=a
   ·subst hxa;rw[if_pos rfl,if_pos (List.mem_cons_self ..)]
   ·rw[if_neg hxa,if_neg (by simp[hx,hxa])]
def tl(L:List It)(p:It→Bool):T2:=((L.countP p:Nat),(L.countP (fun t=>p t&& !t.read):Nat))
def dlt(t:It)(p:It→Bool):T2:=if p t then oneT t else(0,0)
theorem cF(t:It)(L:List It)(p:It→Bool):tl (t::L) p=tadd (tl L p) (dlt t p):=by
 unfold tl dlt oneT tadd
 rw[List.countP_cons,List.countP_cons]
 cases h:p t<;>cases h2:t.read<;>simp[h]
theorem cV{L L':List It}(h:L.Perm L')(p:It→Bool):tl L p=tl L' p:=by
 unfold tl;rw[h.countP_eq,h.countP_eq]
theorem bI{L:List It}{p q:It→Bool}(h:∀t∈L,p t=q t):tl L p=tl L q:=by
 induction L with
 |nil=>rfl
 |cons t L ih=>rw[cF,cF,ih fun x hx=>h x (List.mem_cons_of_mem _ hx),dlt,dlt,h t (List.mem_cons_self ..)]
theorem uc(L:List It)(p:It→Bool):0≤(tl L p).2∧(tl L p).2≤(tl L p).1∧(tl L p).1≤L.length:=by
 unfold tl
 refine⟨by simp,?_,by simp only;exact Int.ofNat_le.2 List.countP_le_length⟩
 simp only
 exact Int.ofNat_le.2 (List.countP_mono_left fun t _ h=>by simp only[Bool.and_eq_true]at h;exact h.1)
theorem wb{L:List It}{p:It→Bool}(h:(tl L p).1=0):tl L p=(0,0):=by
 have:=uc L p
 rw[Prod.ext_iff];exact⟨h,by omega⟩
theorem io{L:List It}{p:It→Bool}(h:∀t∈L,p t=false):tl L p=(0,0):=by
 apply wb
 unfold tl
 simp only
 have:L.countP p=0:=List.countP_eq_zero.2 fun t ht=>by rw[h t ht];simp
 rw[this];rfl
theorem qX(t:T2):tadd t (0,0)=t:=by unfold tadd;simp
theorem tv(t n:T2):tadd (tadd t n) (negT n)=t:=by unfold tadd negT;rw[Prod.ext_iff];simp only;omega
theorem fb(L:List It)(p:It→Bool):(some0 (tl L p)).getD (0,0)=tl L p:=by
 unfold some0
 split
 ·rename_i h;rw[wb h];rfl
 ·rfl
structure Tal (c:CS) (L:List It):Prop where
 al:c.al=tl L fun _=>true
 st:c.st=tl L fun t=>t.star
 fe:∀id,(lkM c.fe id).isSome=true→lkM c.fe id=some (tl L fun t=>decide (t.feed=id))
 fo:∀id,(lkM c.fo id).isSome=true→lkM c.fo id=some (tl L fun t=>decide (id∈c.chn t.feed))
 tg:∀g,lkM c.tg g=some0 (tl L fun t=>decide (g∈t.tags))
theorem Tal.perm{c:CS}{L L':List It}(h:Tal c L)(p:L.Perm L'):Tal c L' where
 al:=by rw[← cV p];exact h.al
 st:=by rw[← cV p];exact h.st
 fe:=fun id hi=>by rw[← cV p];exact h.fe id hi
 fo:=fun id hi=>by rw[← cV p];exact h.fo id hi
 tg:=fun g=>by rw[← cV p];exact h.tg g
structure Rdy (c:CS) (t:It):Prop where
 fe:(lkM c.fe t.feed).isSome=true
 ch:∃l,chO c.ab 7 ((lkM c.inn t.feed).getD 0)=some l∧l.Nodup∧l.length≤7∧∀x∈l,(lkM c.fo x).isSome=true
 tg:t.tags.Nodup
theorem Rdy.chn{c:CS}{t:It}(h:Rdy c t):(c.chn t.feed).Nodup∧∀x∈c.chn t.feed,(lkM c.fo x).isSome=true:=by
 obtain⟨l,h1,h2,_,h3⟩:=h.ch
 unfold CS.chn;rw[h1];exact⟨h2,h3⟩
theorem kP{c:CS}{L L':List It}{t:It}{n:T2}(h:Tal c L)(r:Rdy c t)(w3:WFM c.tg c.c3)
  (hy:∀p:It→Bool,p t=true→tl L' p=tadd (tl L p) n)(hn:∀p:It→Bool,p t=false→tl L' p=tl L p):Tal (c.count (c.chn t.feed) t n) L' where
 al:=by rw[hy _ rfl, ← h.al];rfl
 st:=by
  show(if t.star then tadd c.st n else c.st)=_
  cases hs:t.star with
  |true=>rw[if_pos rfl,hy _ hs, ← h.st]
  |false=>rw[if_neg (by simp),hn _ hs, ← h.st]
 fe:=fun id hi=>by
  have hi:(lkM (upM c.fe c.c2 t.feed (tadd ((lkM c.fe t.feed).getD (0,0)) n)) id).isSome=true:=hi
  show lkM (upM c.fe c.c2 t.feed (tadd ((lkM c.fe t.feed).getD (0,0)) n)) id=_
  rw[ap]at hi ⊢
  by_cases hx:id=t.feed
  ·subst hx
   rw[if_pos rfl,h.fe _ r.fe,hy _ (by simp)];rfl
  ·rw[if_neg hx]at hi ⊢
   rw[h.fe _ hi,hn _ (by simp;exact fun e=>hx e.symm)]
 fo:=fun id hi=>by
  obtain⟨hnd,hpr⟩:=r.chn
  have hi:(lkM (foF n (c.chn t.feed) c.fo c.c1).1 id).isSome=true:=hi
  show lkM (foF n (c.chn t.feed) c.fo c.c1).1 id=some (tl L' fun t=>decide (id∈c.chn t.feed))
  rw[fO n hnd]at hi ⊢
  by_cases hx:id∈c.chn t.feed
  ·rw[if_pos hx,h.fo _ (hpr id hx),hy _ (by simpa using hx)];rfl
  ·rw[if_neg hx]at hi ⊢
   rw[h.fo _ hi,hn _ (by simpa using hx)]
 tg:=fun g=>by
  show lkM (tgsF n t.tags c.tg c.c3).1 g=_
  rw[uL n r.tg w3]
  by_cases hx:g∈t.tags
  ·rw[if_pos hx,h.tg,fb,hy _ (by simpa using hx)]
  ·rw[if_neg hx,h.tg,hn _ (by simpa using hx)]
theorem tw{c:CS}{L:List It}{t:It}(h:Tal c L)(r:Rdy c t)(w3:WFM c.tg c.c3):Tal (c.count (c.chn t.feed) t (oneT t)) (t::L):=
 kP h r w3 (fun p hp=>by rw[cF,dlt,if_pos hp]) (fun p hp=>by rw[cF,dlt,if_neg (by simp[hp]),qX])
theorem kQ{c:CS}{L:List It}{t:It}(h:Tal c (t::L))(r:Rdy c t)(w3:WFM c.tg c.c3):Tal (c.count (c.chn t.feed) t (negT (oneT t))) L:=
 kP h r w3 (fun p hp=>by rw[cF,dlt,if_pos hp,tv]) (fun p hp=>by rw[cF,dlt,if_neg (by simp[hp]),qX])
structure CS.Wf (c:CS):Prop where
 w1:WFM c.fo c.c1
 w2:WFM c.fe c.c2
 w3:WFM c.tg c.c3
 w4:WFM c.it c.c4
 w5:WFM c.inn c.c5
 w6:WFM c.ab c.c6
theorem CS.Wf.count{c:CS}(w:c.Wf)(ch:List Int)(t:It)(n:T2):(c.count ch t n).Wf:=
 {w with w1:=mo _ _ w.w1,w2:=w.w2.up _ _,w3:=uK _ _ w.w3}
structure CS.Like (c d:CS):Prop where
 it:d.it=c.it
 c4:d.c4=c.c4
 inn:d.inn=c.inn
 ab:d.ab=c.ab
 fe:∀id,(lkM d.fe id).isSome=(lkM c.fe id).isSome
 fo:∀id,(lkM d.fo id).isSome=(lkM c.fo id).isSome
theorem CS.Like.chn{c d:CS}(h:c.Like d)(f:Int):d.chn f=c.chn f:=by unfold CS.chn;rw[h.ab,h.inn]
theorem CS.Like.rdy{c d:CS}(h:c.Like d){t:It}(r:Rdy c t):Rdy d t where
 fe:=by rw[h.fe];exact r.fe
 ch:=by
  obtain⟨l,h1,h2,h3,h4⟩:=r.ch
  exact⟨l,by rw[h.ab,h.inn];exact h1,h2,h3,fun x hx=>by rw[h.fo];exact h4 x hx⟩
 tg:=r.tg
theorem CS.count_like{c:CS}{t:It}(r:Rdy c t)(n:T2):c.Like (c.count (c.chn t.feed) t n) where
 it:=rfl
 c4:=rfl
 inn:=rfl
 ab:=rfl
 fe:=fun id=>by
  show(lkM (upM c.fe c.c2 t.feed _) id).isSome=_
  rw[ap]
  split
  ·rename_i h;subst h;rw[r.fe];rfl
  ·rfl
 fo:=fun id=>by
  obtain⟨hnd,hpr⟩:=r.chn
  show(lkM (foF n (c.chn t.feed) c.fo c.c1).1 id).isSome=_
  rw[fO n hnd]
  split
  ·rename_i h;rw[hpr id h];rfl
  ·rfl
end Go.Av
namespace Go.Av
open Go Go.Proofs Go.RowKit
attribute [local irreducible] WP WPl WPix Sat
section
variable {C:Ctx} {ops:Array Oper} {rest:List Oper} {t:Env} {h:Heap} {K:Env→Prop} {dst:Option Nat} {ty:TypeId} {pos:String} {aft:Array Edge}
@[go_sem] theorem wc(f:Fn)(a b:Array Operand):WPp C ops (⟨dst,.makeFunc f a b,ty,pos,aft,none⟩::rest) t h K=WPp C ops rest (put t dst (.fn f (a.toList.map (aev C.G t)) (b.toList.map (aev C.G t)))) h K:=bc (Det.pure _) fun _=>rfl
end
variable (G:Nat→Option (List AVal))
def bd(B:Int)(t:T2):Prop:=(-B≤t.1∧t.1≤B)∧(-B≤t.2∧t.2≤B)
theorem clo2(N:Nat)(a b:Int):Clo N (.agg [.int .i64 a,.int .i64 b]):=bt fun c hc=>by simp at hc;rcases hc with rfl|rfl<;>simp
theorem eR(a1 a2 b1 b2:Int)(ha:bd 1000000000 (a1,a2))(hb:bd 1000000000 (b1,b2))(h:Heap):Sat (CT G) 124 [.agg [.int .i64 a1,.int .i64 a2],.agg [.int .i64 b1,.int .i64 b2]] h (fun r h'=>r=.agg [.int .i64 (a1+b1),.int .i64 (a2+b2)]∧h'=h):=by
 obtain⟨⟨_,_⟩,_,_⟩:=ha
 obtain⟨⟨_,_⟩,_,_⟩:=hb
 simp only at*
 refine sb [.cell 4 94] (fn:=Tryz.f124) Tryz.func124 ?_
 intro Q hQ
 refine wk trivial ?_
 refine ye hQ trivial ?_
 exact Fin.plain (clo2 ..) ⟨rfl,rfl⟩
theorem hJ(a1 a2:Int)(ha:bd 1000000000 (a1,a2))(h:Heap):Sat (CT G) 91 [.agg [.int .i64 a1,.int .i64 a2]] h (fun r h'=>r=.agg [.int .i64 (-a1),.int .i64 (-a2)]∧h'=h):=by
 obtain⟨⟨_,_⟩,_,_⟩:=ha
 simp only at*
 refine sb [.cell 2 94] (fn:=Tryz.f91) Tryz.func91 ?_
 intro Q hQ
 refine wk trivial ?_
 refine ye hQ trivial ?_
 exact Fin.plain (clo2 ..) ⟨by simp,rfl⟩
theorem qY(c:CS)(g:Bs)(n:T2)(hb:bd 1000000 ((lkM c.tg g).getD (0,0)))(hn:bd 1000000 n){H:Heap}{m:Nat}(hm:m+7≤H.length):Sat (CT G) 125 [.hp (m+6) 0 0 0,.str g,tA n] (co H m c) (fun r h'=>r=.tup []∧h'=co H m (c.tag g n)):=by
 have hb':bd 1000000000 (((lkM c.tg g).getD (0,0)).1,((lkM c.tg g).getD (0,0)).2):=by unfold bd at *;omega
 have hn':bd 1000000000 (n.1,n.2):=by unfold bd at *;omega
 refine sb [] (fn:=Tryz.f125) Tryz.func125 ?_
 intro Q hQ
 refine wk trivial ?_
 refine aA (eR G _ _ _ _ hb' hn' _) ?_
 try refine sq trivial ?_
 refine wk trivial ?_
 refine cq trivial (fun c1=>?_) (fun c1=>?_)<;>(try exact c1.elim)<;>(refine wk trivial ?_)
 ·refine ee hQ trivial ?_
  exact aT hm (.tup _ (by simp)) ⟨rfl,by simp[CS.tag,tg1F,tadd,c1]⟩
 ·refine ee hQ trivial ?_
  exact aT hm (.tup _ (by simp)) ⟨rfl,by simp[CS.tag,tg1F,tadd,c1]⟩
def Boxed(H:Heap)(m q1 q2:Nat)(n:T2):Prop:=
 m+7≤q1∧m+7≤q2∧getRow H q1 0=some (25,1,[.hp (m+6) 0 0 0])∧getRow H q2 0=some (94,2,[.agg [.int .i64 n.1,.int .i64 n.2]])
def CS.add1(c:CS)(id:Int)(n:T2):CS:= {c with fo:=upM c.fo c.c1 id (tadd ((lkM c.fo id).getD (0,0)) n),c1:=ckM c.fo c.c1 id}
theorem mq(c:CS)(id:Int)(n:T2)(hb:bd 100000000 ((lkM c.fo id).getD (0,0)))(hn:bd 1000000 n){H:Heap}{m q1 q2:Nat}(hm:m+7≤H.length)(hx:Boxed H m q1 q2 n):
  Sat (CT G) 145 [.int .i64 id,.hp q1 0 0 0,.hp q2 0 0 0] (co H m c) (fun r h'=>r=.tup []∧h'=co H m (c.add1 id n)):=by
 have hb':bd 1000000000 (((lkM c.fo id).getD (0,0)).1,((lkM c.fo id).getD (0,0)).2):=by unfold bd at *;omega
 have hn':bd 1000000000 (n.1,n.2):=by unfold bd at *;omega
 obtain⟨x1,x2,x3,x4⟩:=hx
 have F:=F2 x3 x4
 refine sb [] (fn:=Tryz.f145) Tryz.func145 ?_
 intro Q hQ
 refine wk F ?_
 refine aA (eR G _ _ _ _ hb' hn' _) ?_
 try refine sq F ?_
 refine wk F ?_
 refine ee hQ F ?_
 exact o7 hm (.tup _ (by simp)) ⟨rfl,rfl⟩
end Go.Av
namespace Go.Av
open Go Go.Proofs Go.RowKit
attribute [local irreducible] WP WPl WPix Sat
variable (G:Nat→Option (List AVal))
def CS.foT(c:CS)(ch:List Int)(n:T2):CS:= {c with fo:=(foF n ch c.fo c.c1).1,c1:=(foF n ch c.fo c.c1).2}
theorem CS.foT_snoc(c:CS)(ch:List Int)(id:Int)(n:T2):(c.foT ch n).add1 id n=c.foT (ch++[id]) n:=by
 unfold CS.foT CS.add1
 rw[tu]
theorem qZ{n:T2}{B D:Int}(hn:bd D n):∀(ch:List Int) {l:ML Int T2} {k:Nat},(∀id,bd B ((lkM l id).getD (0,0)))→∀id,bd (B+D*ch.length) ((lkM (foF n ch l k).1 id).getD (0,0)):=by
 intro ch
 induction ch generalizing B with
 |nil=>intro l k h id;have:=h id;simpa [foF]using this
 |cons a ch ih=>
  intro l k h id
  rw[foF]
  have h1:∀id,bd (B+D) ((lkM (upM l k a (tadd ((lkM l a).getD (0,0)) n)) id).getD (0,0)):=by
   intro id
   rw[ap]
   split
   ·have:=h a
    simp only[Option.getD_some,tadd]
    unfold bd at *;simp only;omega
   ·have:=h id
    unfold bd at *;omega
  have h2:=ih h1 id (k:=ckM l k a)
  have:D*((a::ch).length:Int)=D+D*(ch.length:Int):=by rw[List.length_cons];push_cast;rw[Int.mul_add];omega
  rw[this, ← Int.add_assoc];exact h2
theorem nz(c:CS)(id0:Int)(ch:List Int)(k0:Nat)(n:T2)(hch:chO c.ab k0 id0=some ch)(hl:ch.length≤50)(hb:∀id,bd 1000000 ((lkM c.fo id).getD (0,0)))(hn:bd 1000000 n){H:Heap}{m q1 q2:Nat}(hm:m+7≤H.length)(hx:Boxed H m q1 q2 n):
  Sat (CT G) 144 [.hp (m+6) 0 0 0,.int .i64 id0,.fn (.func 145) [] [.hp q1 0 0 0,.hp q2 0 0 0]] (co H m c) (fun r h'=>r=.tup []∧h'=co H m (c.foT ch n)):=by
 refine sb [] (fn:=Tryz.f144) Tryz.func144 ?_
 intro Q hQ
 refine wk trivial ?_
 refine lm (fun nL tL hL=>∃(done rest:List Int) (id:Int),rest.length=nL∧co H m (c.foT done n)=hL∧tL 0=.hp (m+6) 0 0 0∧tL 1=.int .i64 id∧tL 2=.fn (.func 145) [] [.hp q1 0 0 0,.hp q2 0 0 0]∧done++rest=ch∧(∃k,chO c.ab k id=some rest)) ((fun(done rest:List Int) (id:Int)=>(rest.length:Nat)) ([]) (ch) (id0)) ?_ ?_
 ·refine Wkn.refl ⟨[],ch,id0,rfl,aB,?_,?_,?_,rfl,⟨k0,hch⟩⟩
  all_goals first|exact zq trivial|rfl|omega|trivial|skip
 rintro _ s2 h' ⟨done,rest,id,rfl,rfl,e0,e1,e2,hd,hr⟩ K2 hK2
 simp only[ai,ao,Nat.reduceEqDiff, ↓reduceIte]at e0 e1 e2
 have F:=F3 e0 e1 e2
 refine wk F ?_
 obtain⟨k,hr⟩:=hr
 have hdl:(done.length:Int)≤50:=by have:=congrArg List.length hd;rw[List.length_append]at this;omega
 have hbd:∀id,bd 100000000 ((lkM (c.foT done n).fo id).getD (0,0)):=fun id=>by
  have:=qZ (B:=1000000) (D:=1000000) hn done (k:=c.c1) hb id
  unfold CS.foT
  unfold bd at this ⊢;simp only;omega
 refine cq F (fun c1=>?_) (fun c1=>?_)<;>(try exact c1.elim)<;>(refine wk F ?_)
 ·obtain⟨k',rest',rfl,hr'⟩:∃k' rest',rest=id::rest'∧chO c.ab k' ((lkM c.ab id).getD 0)=some rest':=by
   cases k with
   |zero=>rw[chO,if_neg c1]at hr;cases hr
   |succ k=>
    rw[chO,if_neg c1]at hr
    simp only[Option.map_eq_some_iff]at hr
    obtain⟨r,h1,h2⟩:=hr
    exact⟨k,r,h2.symm,h1⟩
  refine kq F (mq G (c.foT done n) id n (hbd id) hn hm hx) ?_
  have hlc:(id::rest').length=rest'.length+1:=rfl
  refine hK2 _ _ _ (Wkn.refl ⟨done++[id],rest',(lkM c.ab id).getD 0,rfl,by rw[CS.foT_snoc],?_,?_,?_,by rw[List.append_assoc];exact hd,⟨k',hr'⟩⟩) (by omega)
  all_goals first|exact zq F|rfl|omega|trivial|skip
 ·have hre:rest=[]:=by
   cases k with
   |zero=>rw[chO]at hr;rw[c1]at hr;simpa using hr.symm
   |succ k=>rw[chO]at hr;rw[c1]at hr;simpa using hr.symm
  subst hre
  rw[List.append_nil]at hd
  subst hd
  refine wk F ?_
  refine ee hQ F ?_
  exact o7 hm (.tup _ (by simp)) ⟨rfl,rfl⟩
structure CS.Bd (c:CS) (B:Int):Prop where
 al:bd B c.al
 st:bd B c.st
 fe:∀id,bd B ((lkM c.fe id).getD (0,0))
 fo:∀id,bd B ((lkM c.fo id).getD (0,0))
 tg:∀g,bd B ((lkM c.tg g).getD (0,0))
theorem fw(c:CS)(feed:Int)(ch:List Int)(k0:Nat)(n:T2)(hch:chO c.ab k0 ((lkM c.inn feed).getD 0)=some ch)(hl:ch.length≤50)(hb:c.Bd 1000000)(hn:bd 1000000 n){H:Heap}{m:Nat}(hm:m+7≤H.length):
  Sat (CT G) 90 [.hp (m+6) 0 0 0,.int .i64 feed,.agg [.int .i64 n.1,.int .i64 n.2]] (co H m c) (fun r h'=>r=.tup []∧h'=co H m (c.shift ch feed n)):=by
 have b1:bd 1000000000 (c.al.1,c.al.2):=by have:=hb.al;unfold bd at *;omega
 have b2:bd 1000000000 (((lkM c.fe feed).getD (0,0)).1,((lkM c.fe feed).getD (0,0)).2):=by have:=hb.fe feed;unfold bd at *;omega
 have hn':bd 1000000000 (n.1,n.2):=by unfold bd at *;omega
 refine sb [] (fn:=Tryz.f90) Tryz.func90 ?_
 intro Q hQ
 refine wk trivial ?_
 refine aA (eR G _ _ _ _ b1 hn' _) ?_
 try refine sq trivial ?_
 refine wk trivial ?_
 skip
 refine aA (eR G _ _ _ _ b2 hn' _) ?_
 try refine sq trivial ?_
 refine wn trivial ?_
 refine bG 8 0 _ (by rfl) (by decide+kernel) (by kernel_rfl) (by decide+kernel) (by decide+kernel) (by decide+kernel) ?_
 simp only[List.take_succ_cons,List.take_zero]
 refine sq trivial ?_
 refine wn trivial ?_
 skip
 refine(nz G {c with al:=tadd c.al n,fe:=upM c.fe c.c2 feed (tadd ((lkM c.fe feed).getD (0,0)) n),c2:=ckM c.fe c.c2 feed} ((lkM c.inn feed).getD 0) ch k0 n hch hl hb.fo hn (by first|omega| (simp;omega)) ⟨by omega,by omega,by rw[aG _ rfl];rfl,by rw[bo _ rfl];rfl⟩).mono ?_
 rintro r h' ⟨rfl,rfl⟩
 try refine sq trivial ?_
 refine wk trivial ?_
 refine ee hQ trivial ?_
 exact aT hm (.tup _ (by simp)) ⟨rfl,rfl⟩
end Go.Av
namespace Go.Av
open Go Go.Proofs Go.RowKit
attribute [local irreducible] WP WPl WPix Sat
variable (G:Nat→Option (List AVal))
theorem uM{n:T2}{B D:Int}(hB:0≤B+D)(hn:bd D n)(g:Bs){l:ML Bs T2}{k:Nat}(w:WFM l k)(h:∀x,bd B ((lkM l x).getD (0,0)))(h0:0≤B)(hD:0≤D)(x:Bs):bd (B+D) ((lkM (tg1F n g l k).1 x).getD (0,0)):=by
 rw[jZ n g w]
 have h1:=h x
 split
 ·unfold some0
  split
  ·simp only[Option.getD_none];unfold bd;simp only;omega
  ·simp only[Option.getD_some,tadd];unfold bd at *;simp only;omega
 ·unfold bd at *;omega
theorem uN{n:T2}{D:Int}(hD:0≤D)(hn:bd D n):∀(gs:List Bs) {B:Int} (_:0≤B) {l:ML Bs T2} {k:Nat} (_:WFM l k),(∀x,bd B ((lkM l x).getD (0,0)))→∀x,bd (B+D*gs.length) ((lkM (tgsF n gs l k).1 x).getD (0,0)):=by
 intro gs
 induction gs with
 |nil=>intro B _ l k _ h x;have:=h x;simpa [tgsF]using this
 |cons a gs ih=>
  intro B h0 l k w h x
  rw[tgsF]
  have h2:=ih (B:=B+D) (by omega) (jY n a w) (uM (by omega) hn a w h h0 hD) x
  have:D*((a::gs).length:Int)=D+D*(gs.length:Int):=by rw[List.length_cons];push_cast;rw[Int.mul_add];omega
  rw[this, ← Int.add_assoc];exact h2
def awT(t:It)(aw:Bool):T2:=if aw then negT (oneT t)else oneT t
theorem wd(t:It)(aw:Bool):bd 1 (awT t aw):=by
 unfold awT oneT negT bd
 cases aw<;>cases t.read<;>simp
theorem CS.tags_snoc(c:CS)(gs:List Bs)(g:Bs)(n:T2):(c.tags gs n).tag g n=c.tags (gs++[g]) n:=by
 unfold CS.tags CS.tag
 rw[qW]
theorem fy(c:CS)(t:It)(aw:Bool)(ch:List Int)(k0:Nat)(hch:chO c.ab k0 ((lkM c.inn t.feed).getD 0)=some ch)(hl:ch.length≤50)(ht:t.tags.length≤1000)(w3:WFM c.tg c.c3)(hb:c.Bd 100000){H:Heap}{m:Nat}(hm:m+7≤H.length):
  Sat (CT G) 78 [.hp (m+6) 0 0 0,t.av,.bool aw] (co H m c) (fun r h'=>r=.tup []∧h'=co H m (c.count ch t (awT t aw))):=by
 have hb1:c.Bd 1000000:=⟨by have:=hb.al;unfold bd at *;omega,by have:=hb.st;unfold bd at *;omega,fun id=>by have:=hb.fe id;unfold bd at *;omega,fun id=>by have:=hb.fo id;unfold bd at *;omega,fun id=>by have:=hb.tg id;unfold bd at *;omega⟩
 have hsh:∀(n:T2),bd 1000000 n→∀(H:Heap),m+7≤H.length→Sat (CT G) 90 [.hp (m+6) 0 0 0,.int .i64 t.feed,.agg [.int .i64 n.1,.int .i64 n.2]] (co H m c) (fun r h'=>r=.tup []∧h'=co H m (c.shift ch t.feed n)):=fun n hn H hm=>fw G c t.feed ch k0 n hch hl hb1 hn hm
 have b2:bd 1000000000 (c.st.1,c.st.2):=by have:=hb.st;unfold bd at *;omega
 have hnb:=wd t aw
 have hnb1:bd 1000000 (awT t aw):=by unfold bd at *;omega
 have hnb2:bd 1000000000 ((awT t aw).1,(awT t aw).2):=by unfold bd at *;omega
 have hsn:=hsh (awT t aw) hnb1
 have hlast:∀(H:Heap),m+7≤H.length→∀k,k≤t.tags.length→∀g,t.tags[k]? =some g→Sat (CT G) 125 [.hp (m+6) 0 0 0,.str g,.agg [.int .i64 (awT t aw).1,.int .i64 (awT t aw).2]] (co H m (((c.shift ch t.feed (awT t aw)).star t.star (awT t aw)).tags (t.tags.take k) (awT t aw)))
   (fun r h'=>r=.tup []∧h'=co H m (((c.shift ch t.feed (awT t aw)).star t.star (awT t aw)).tags (t.tags.take (k+1)) (awT t aw))):=fun H hm k hk g hg=>by
  have htk:t.tags.take (k+1)=t.tags.take k++[g]:=by rw[List.take_add_one,hg];rfl
  rw[htk, ← CS.tags_snoc]
  refine qY G _ g (awT t aw) ?_ hnb1 hm
  have h1:=uN (D:=1) (by omega) hnb (t.tags.take k) (B:=100000) (by omega) w3 hb.tg g
  have:((t.tags.take k).length:Int)≤1000:=by rw[List.length_take];omega
  show bd 1000000 ((lkM (tgsF (awT t aw) (t.tags.take k) c.tg c.c3).1 g).getD (0,0))
  unfold bd at *;omega
 have hend:((c.shift ch t.feed (awT t aw)).star t.star (awT t aw)).tags (t.tags.take t.tags.length) (awT t aw)=c.count ch t (awT t aw):=by rw[List.take_length];rfl
 have hst0:((c.shift ch t.feed (awT t aw)).star t.star (awT t aw)).tags (t.tags.take 0) (awT t aw)=(c.shift ch t.feed (awT t aw)).star t.star (awT t aw):=rfl
 have hsl:=hsn
 have hnl:=hnb2
 generalize hn:awT t aw=n at hsn hnb hnb1 hnb2 hlast hend hst0 ⊢
 obtain⟨b,hbs⟩:∃b,t.star=b:=⟨_,rfl⟩
 rw[hbs]at hlast hend hst0
 cases hr:t.read<;>cases aw<;>cases hs:t.star
 all_goals (
  simp only[awT,oneT,negT,hr,Bool.false_eq_true, ↓reduceIte]at hsl hnl
  have F:=F2 hr hs
  refine sb [] (fn:=Tryz.f78) Tryz.func78 ?_
  intro Q hQ
  refine wk F ?_
  try refine kq F (hJ G 1 1 (by unfold bd;simp) _) ?_
  try refine kq F (hJ G 1 0 (by unfold bd;simp) _) ?_
  refine kq F (hsl _ (by first|omega| (simp;omega))) ?_
  try refine aA (eR G _ _ _ _ b2 hnl _) ?_
  try refine sq F ?_
  refine wk F ?_
  refine lm (fun nL tL hL=>∃(k:Nat),t.tags.length-k=nL∧co (H++[.row 82 9 0 [t.av],.row 94 2 0 [.agg [.int .i64 n.1,.int .i64 n.2]]]) m (((c.shift ch t.feed n).star b n).tags (t.tags.take k) n)=hL∧tL 0=.hp (m+6) 0 0 0∧tL 6=.hp (H.length+1) 0 0 0∧tL 33=.sl 1 (t.tags.map .str)∧tL 34=.int .i64 (t.tags.length:Int)∧tL 35=.int .i64 k∧k≤t.tags.length) ((fun(k:Nat)=>(t.tags.length-k:Nat)) (0)) ?_ ?_
  ·refine Wkn.refl ⟨0,rfl,by subst hn;rw[hst0, ← hbs];simp[awT,oneT,negT,hr,hs,It.av,CS.star,CS.shift,tadd],?_,?_,?_,?_,?_,by omega⟩
   all_goals first|exact zq F|rfl|omega|trivial|skip
  rintro _ s2 h' ⟨k,rfl,rfl,e0,e6,e33,e34,e35,hk⟩ K2 hK2
  simp only[ai,ao,Nat.reduceEqDiff, ↓reduceIte]at e0 e6 e33 e34 e35
  have F:=F6 F e0 e6 e33 e34 e35
  refine wk F ?_
  refine cq F (fun c1=>?_) (fun c1=>?_)<;>(try exact c1.elim)<;>(refine wk F ?_)
  ·have c2:k<t.tags.length:=by omega
   obtain⟨g,hg,_⟩:=ac c2
   have F:=F3 F c2 hg
   try refine sq F ?_
   refine wk F ?_
   refine kq F (hlast _ (by first|omega| (simp;omega)) k hk g hg) ?_
   refine hK2 _ _ _ (Wkn.refl ⟨k+1,rfl,by rw[It.av_eq,hr,hs],?_,?_,?_,?_,?_,by omega⟩) (by omega)
   all_goals first|exact zq F|rfl|omega|trivial|skip
  ·have hk2:k=t.tags.length:=by omega
   subst hk2
   rw[hend]
   refine ee hQ F ?_
   exact aT hm (.tup _ (by simp)) ⟨rfl,rfl⟩)
end Go.Av
namespace Go.Av
open Go Go.Proofs Go.RowKit Go.Maps Go.Sort
def sortB(l:List Bs):List Bs:=l.mergeSort fun x y=>decide (x≤y)
theorem mt(a b c:Bs)(h1:decide (a≤b)=true)(h2:decide (b≤c)=true):decide (a≤c)=true:=by
 simp only[decide_eq_true_eq]at *;exact List.le_trans h1 h2
theorem mu(a b:Bs):(decide (a≤b)||decide (b≤a))=true:=by simp only[Bool.or_eq_true,decide_eq_true_eq];exact List.le_total a b
theorem pK{l l':List Bs}(h:l.Perm l'):l.mergeSort (fun x y=>decide (x≤y))=l'.mergeSort fun x y=>decide (x≤y):=by
 refine List.Perm.eq_of_pairwise (le:=fun a b=>decide (a≤b)=true) (fun a b _ _ h1 h2=>?_) (List.pairwise_mergeSort mt mu l) (List.pairwise_mergeSort mt mu l') (((List.mergeSort_perm l _).trans h).trans (List.mergeSort_perm l' _).symm)
 simp only[decide_eq_true_eq]at h1 h2
 exact List.le_antisymm h1 h2
variable (G:Nat→Option (List AVal))
theorem nB{α:Type}(ev:α→AVal)(I:FuncId)
  (hI:∀(Bm b nn:Nat) (D0:DataW Unit) (R:Value→Option (DataW Unit×List MemPlace)) (w:World),Bm<w.heap.size→w.cell? ⟨Bm,0,none⟩=some (.map (some b))→w.ownsMap Tryz.prog 9 R b nn D0→Maps.size D0≤maxLen→Maps.size D0*16≤140737488355328→
   Calls Tryz.prog 45 #[.func (.func I) #[] #[.pointer (some ⟨Bm,0,none⟩)]] w fun e w'=>∃(v:Value) (ss:List Bs),e=.returned v∧ss.Perm (strKeys D0)∧w'.ownsRow w.heap.size 9 1 v ss.length ((ss.mergeSort (fun x y=>decide (x≤y))).map encStr)∧(v=.slice none 0 0↔ss=[])∧Below w.heap.size w w')
  (l:ML Bs α)(c:Nat)(hw:WFM l c)(hb:∀e∈l,e.1.length≤1048576)(hl:l.length≤100000){h:Heap}{q p T:Nat}(hq:getRow h q 0=some (T,1,[.hm p]))(hp:mapAt h p=some (encM AVal.str ev l,c)):
  Sat (CT G) 45 [.fn (.func I) [] [.hp q 0 0 0]] h (fun r h'=>r=.sl 1 (((l.map (·.1)).mergeSort (fun x y=>decide (x≤y))).map AVal.str)∧h'=h):=by
 intro B S μ w us fit rl
 obtain⟨hul,hur⟩:=rl
 match us,hul,hur with
 | [v0],_,hur=>
  have r0:Rep w S μ (.fn (.func I) [] [.hp q 0 0 0]) v0:=hur 0 _ rfl
  obtain⟨cv,rfl,rc⟩:∃cv,v0=.func (.func I) #[] #[cv]∧Rep w S μ (.hp q 0 0 0) cv:=by
   cases r0 with
   |fn _ _ _ xv cv h1 h2 h3 h4=>
    match xv,cv,h1,h2,h4 with
    | [],[cv],_,_,h4=>exact⟨cv,rfl,h4 0 _ rfl⟩
  obtain⟨m,hm,rf⟩:=fit.row hq
  obtain⟨b0,hb0,rfl⟩:=rc.hp_now hm rf.hver
  have hz:0*m.size+0=0:=by simp
  rw[hz]
  obtain⟨cur,hheap,hcell⟩:∃cur,w.heap[b0]? =some (.cells cur T (0,0))∧∃x,cur[0]? =some x∧Rep w S μ (.hm p) x:=by
   rcases rf.lies with⟨_,h2⟩| ⟨b,cur,h1,h2,_,_,_,h6⟩
   ·cases h2
   ·rw[hb0]at h1;cases h1
    obtain⟨x,hx,rx⟩:=h6 0 (.hm p) 0 (.hm p) rfl rfl
    exact⟨cur,h2,x,by simpa using hx,rx⟩
  obtain⟨x,hx0,rx⟩:=hcell
  obtain⟨m2,b2,cur2,hm2,hv2,hb2,rfl,hheap2,E⟩:=bg fit rx hp
  have hcell0:w.cell? ⟨b0,0,none⟩=some (.map (some b2)):=by simp[World.cell?,hheap,hx0]
  have hlen:cur2.size=l.length:=by have:=E.len;simpa [encM]using this
  have hget:∀(i:Nat) (y:MapEntry),cur2[i]? =some y→∃e,l[i]? =some e∧y.key=encStr e.1∧y.born=e.2.2:=by
   intro i y hy
   have hi:i<l.length:=by have:=(Array.getElem?_eq_some_iff.1 hy).1;omega
   obtain⟨y',hy',r1,_,r3⟩:=E.get i (AVal.str l[i].1,ev l[i].2.1,l[i].2.2) (by rw[encM,List.getElem?_map,List.getElem?_eq_getElem hi];rfl)
   rw[Array.getElem?_toList,hy]at hy';cases hy'
   refine⟨l[i],List.getElem?_eq_getElem hi,?_,r3⟩
   have:=r1.str_inv;simpa [encStr]using this
  have hbk:cur2.toList.map (·.born)=l.map (·.2.2):=by
   apply List.ext_getElem?
   intro i
   rw[List.getElem?_map,List.getElem?_map,Array.getElem?_toList]
   cases hy:cur2[i]? with
   |none=>rw[List.getElem?_eq_none (l:=l) (by rw[Array.getElem?_eq_none_iff]at hy;omega)];rfl
   |some y=>obtain⟨e,h1,_,h3⟩:=hget i y hy;rw[h1];simp[h3]
  have hkk:cur2.toList.map (·.key)=l.map (fun e=>encStr e.1):=by
   apply List.ext_getElem?
   intro i
   rw[List.getElem?_map,List.getElem?_map,Array.getElem?_toList]
   cases hy:cur2[i]? with
   |none=>rw[List.getElem?_eq_none (l:=l) (by rw[Array.getElem?_eq_none_iff]at hy;omega)];rfl
   |some y=>obtain⟨e,h1,h2,_⟩:=hget i y hy;rw[h1];simp[h2]
  have hown:w.ownsMap Tryz.prog 9 noR b2 cur2.size (datK (l.map fun e=>kS e.1)):=by
   refine nX hheap2 (by simp[hlen]) (by simp[maxLen];omega) (fun i y hy=>?_) (fun y hy=>?_) (by rw[hbk];exact hw.borns) ?_
   ·obtain⟨e,h1,h2,_⟩:=hget i y hy
    refine⟨kS e.1,by rw[List.getElem?_map,h1];rfl,?_⟩
    have hu:Tryz.prog.underlying 9=some .string:=by kernel_rfl
    have hle:=hb e (List.mem_of_getElem? h1)
    have hle2:e.1.length≤maxLen:=by simp[maxLen];omega
    rw[h2]
    simp[keyOf,hu,mapKey,encStr,kS,ByteArray.size,hle2]
   ·obtain⟨i,hi⟩:=List.getElem?_of_mem hy
    obtain⟨e,h1,_,h3⟩:=hget i y (by simpa using hi)
    rw[h3];exact hw.lt e (List.mem_of_getElem? h1)
   ·rw[hkk]
    have:=hw.keys
    rw[show(l.map fun e=>encStr e.1)=(l.map (·.1)).map encStr by simp]
    exact List.Pairwise.map encStr (fun a b hab he=>hab (by first|exact encStr_inj he| (simpa [encStr]using he))) this
  have hsz:Maps.size (datK (l.map fun e=>kS e.1))=l.length:=by rw[kK];simp
  change OpOk Tryz.prog _ ((callFunc 45 #[Value.func (Fn.func I) #[] #[Value.pointer (some ⟨b0,0,none⟩)]]).run Tryz.prog w)
  rw[cj (f:=45) Tryz.func45 rfl rfl]
  refine(hI b0 b2 _ _ _ w (Array.getElem?_eq_some_iff.1 hheap).1 hcell0 hown (by rw[hsz];simp[maxLen];omega) (by rw[hsz];omega)).mono fun e w' ⟨v,ss,he,hperm,hrow,_,hbel⟩=>?_
  refine⟨v,he,?_⟩
  have hk:(strKeys (datK (l.map fun e=>kS e.1))).Perm (l.map (·.1)):=by
   unfold datK
   refine((gf _).map _).trans ?_
   rw[List.map_map,List.map_map]
   exact List.Perm.of_eq (List.map_congr_left fun e _=>rfl)
  have hs:ss.mergeSort (fun x y=>decide (x≤y))=(l.map (·.1)).mergeSort (fun x y=>decide (x≤y)):=pK (hperm.trans hk)
  rw[hs]at hrow
  have hl2:ss.length=((l.map (·.1)).mergeSort (fun x y=>decide (x≤y))).length:=by
   rw[← hs,(List.mergeSort_perm _ _).length_eq]
  rw[hl2]at hrow
  obtain⟨S',f',st',r'⟩:=lV (av:=AVal.str) (enc:=encStr) (fun _=>rfl) (fun _=>rfl) (fun _ _ _ _=>by first|exact .int _ _|exact .str _) fit hrow hbel
  exact⟨_,h,S',μ,⟨rfl,rfl⟩,st',f',r'⟩
end Go.Av
namespace Go.Av
open Go Go.Proofs Go.RowKit
attribute [local irreducible] WP WPl WPix Sat
variable (G:Nat→Option (List AVal))
theorem kY{x:Int}(h0:0≤x)(h1:x<256):IntKind.u8.wrap x=x:=by
 simp only[IntKind.wrap,IntKind.bits,IntKind.signed];simp;omega
theorem tH(k:IntKind)(n:Int)(h0:0≤n)(h1:n<256):aconv Tryz.prog 21 5 (.int k n)=some (.int .u8 n):=by simp only[aconv,go_sem,kY h0 h1]
theorem uR{a b:Int}(h0:0≤a):a.tdiv b=a/b:=Int.tdiv_eq_ediv_of_nonneg h0
theorem uS{a b:Int}(h0:0≤a):a.tmod b=a%b:=Int.tmod_eq_emod_of_nonneg h0
theorem Bytes.clo(n m:Nat)(l:Bs):Clo n (.sl m (l.map bytA)):=.sl _ _ fun e he=>by obtain⟨a,_,rfl⟩:=List.mem_map.1 he;exact .int _ _
theorem od(r:Int)(hr:Rune r)(h:Heap):Sat (CT G) 269 [.int .i32 r] h (fun x h'=>x=.sl 1 ((enc r).map bytA)∧h'=h):=by
 obtain⟨h0,h1⟩:=id hr
 have n64:((64:Int)=0)=False:=by decide
 have F:=F4 @tH @cr @uR @uS
 refine sb [.tmp 2] (fn:=Tryz.f269) Tryz.func269 ?_
 intro Q hQ
 (repeat (first|refine w1 (fun K hK=>?_)|refine w2 ?_|refine w3 ?_| ((first|refine w4 ?_|refine wD ?_|refine w5 ?_|refine w6 ?_|refine w7 ?_);try refine sq F ?_)| (refine w8 ?_;refine sq F ?_;refine w9 ?_)| (refine rq F ?_;try refine sq F ?_)| (refine vq F ?_;try refine sq F ?_)| ((first|refine hK _ _ (w0 ?_)| (clear hK K;refine hK _ _ (w0 ?_))| (clear hK K;clear hK K;refine hK _ _ (w0 ?_)));clear hK K)))
 (first|refine gq F (fun g1=>?_) (fun g1=>?_)|refine pq F (fun g1=>?_) (fun g1=>?_))<;>(try exact g1.elim)<;>(try refine sq F ?_)<;>((repeat (first|refine w1 (fun K hK=>?_)|refine w2 ?_|refine w3 ?_| ((first|refine w4 ?_|refine wD ?_|refine w5 ?_|refine w6 ?_|refine w7 ?_);try refine sq F ?_)| (refine w8 ?_;refine sq F ?_;refine w9 ?_)| (refine rq F ?_;try refine sq F ?_)| (refine vq F ?_;try refine sq F ?_)| ((first|refine hK _ _ (w0 ?_)| (clear hK K;refine hK _ _ (w0 ?_))| (clear hK K;clear hK K;refine hK _ _ (w0 ?_)));clear hK K))))
 ·exfalso;omega
 ·have big:∀(t':Env),t' 0=.int .i32 r→t' 16=.bool false→K t' h:=by
   intro t' e0 e16
   refine hK _ _ (Wkn.refl ?_)
   clear hK K
   have F:=F3 F e0 e16
   (repeat (first|refine w1 (fun K hK=>?_)|refine w2 ?_|refine w3 ?_| ((first|refine w4 ?_|refine wD ?_|refine w5 ?_|refine w6 ?_|refine w7 ?_);try refine sq F ?_)| (refine w8 ?_;refine sq F ?_;refine w9 ?_)| (refine rq F ?_;try refine sq F ?_)| (refine vq F ?_;try refine sq F ?_)| ((first|refine hK _ _ (w0 ?_)| (clear hK K;refine hK _ _ (w0 ?_))| (clear hK K;clear hK K;refine hK _ _ (w0 ?_)));clear hK K)))
   have fin:∀l:List AVal,(enc r).map bytA=l→Fin h h (fun x h'=>x=.sl 1 ((enc r).map bytA)∧h'=h) (.sl 1 l):=fun l e=>by
    rw[← e];exact iR (.clo _ (Bytes.clo _ _ _)) ⟨rfl,rfl⟩
   refine cq F (fun c1=>?_) (fun c1=>?_)<;>(try exact c1.elim)<;>((repeat (first|refine w1 (fun K hK=>?_)|refine w2 ?_|refine w3 ?_| ((first|refine w4 ?_|refine wD ?_|refine w5 ?_|refine w6 ?_|refine w7 ?_);try refine sq F ?_)| (refine w8 ?_;refine sq F ?_;refine w9 ?_)| (refine rq F ?_;try refine sq F ?_)| (refine vq F ?_;try refine sq F ?_)| ((first|refine hK _ _ (w0 ?_)| (clear hK K;refine hK _ _ (w0 ?_))| (clear hK K;clear hK K;refine hK _ _ (w0 ?_)));clear hK K))))
   ·refine ee hQ F ?_
    exact fin _ (vS h0 c1)
   ·refine cq F (fun c2=>?_) (fun c2=>?_)<;>(try exact c2.elim)<;>((repeat (first|refine w1 (fun K hK=>?_)|refine w2 ?_|refine w3 ?_| ((first|refine w4 ?_|refine wD ?_|refine w5 ?_|refine w6 ?_|refine w7 ?_);try refine sq F ?_)| (refine w8 ?_;refine sq F ?_;refine w9 ?_)| (refine rq F ?_;try refine sq F ?_)| (refine vq F ?_;try refine sq F ?_)| ((first|refine hK _ _ (w0 ?_)| (clear hK K;refine hK _ _ (w0 ?_))| (clear hK K;clear hK K;refine hK _ _ (w0 ?_)));clear hK K))))
    ·refine ee hQ F ?_
     exact fin _ (by rw[vT c1 c2])
    ·refine cq F (fun c3=>?_) (fun c3=>?_)<;>(try exact c3.elim)<;>((repeat (first|refine w1 (fun K hK=>?_)|refine w2 ?_|refine w3 ?_| ((first|refine w4 ?_|refine wD ?_|refine w5 ?_|refine w6 ?_|refine w7 ?_);try refine sq F ?_)| (refine w8 ?_;refine sq F ?_;refine w9 ?_)| (refine rq F ?_;try refine sq F ?_)| (refine vq F ?_;try refine sq F ?_)| ((first|refine hK _ _ (w0 ?_)| (clear hK K;refine hK _ _ (w0 ?_))| (clear hK K;clear hK K;refine hK _ _ (w0 ?_)));clear hK K))))
     ·refine ee hQ F ?_
      exact fin _ (by rw[sN hr c2 c3])
     ·refine ee hQ F ?_
      exact fin _ (by rw[vU c3 (by omega)])
  (first|refine gq F (fun g2=>?_) (fun g2=>?_)|refine pq F (fun g2=>?_) (fun g2=>?_))<;>(try exact g2.elim)<;>(try refine sq F ?_)<;>((repeat (first|refine w1 (fun K hK=>?_)|refine w2 ?_|refine w3 ?_| ((first|refine w4 ?_|refine wD ?_|refine w5 ?_|refine w6 ?_|refine w7 ?_);try refine sq F ?_)| (refine w8 ?_;refine sq F ?_;refine w9 ?_)| (refine rq F ?_;try refine sq F ?_)| (refine vq F ?_;try refine sq F ?_)| ((first|refine hK _ _ (w0 ?_)| (clear hK K;refine hK _ _ (w0 ?_))| (clear hK K;clear hK K;refine hK _ _ (w0 ?_)));clear hK K))))
  ·exfalso;omega
  ·(first|refine gq F (fun g3=>?_) (fun g3=>?_)|refine pq F (fun g3=>?_) (fun g3=>?_))<;>(try exact g3.elim)<;>(try refine sq F ?_)<;>((repeat (first|refine w1 (fun K hK=>?_)|refine w2 ?_|refine w3 ?_| ((first|refine w4 ?_|refine wD ?_|refine w5 ?_|refine w6 ?_|refine w7 ?_);try refine sq F ?_)| (refine w8 ?_;refine sq F ?_;refine w9 ?_)| (refine rq F ?_;try refine sq F ?_)| (refine vq F ?_;try refine sq F ?_)| ((first|refine hK _ _ (w0 ?_)| (clear hK K;refine hK _ _ (w0 ?_))| (clear hK K;clear hK K;refine hK _ _ (w0 ?_)));clear hK K))))
   ·have e:decide (r≤57343)=false:=by rw[decide_eq_false_iff_not];omega
    refine big _ ?_ ?_
    ·exact zq F
    ·exact zq (F2 F e)
   ·refine big _ ?_ ?_
    ·exact zq F
    ·exact zq F
theorem iG:bytesStr Tryz.prog 279 9=true:=by kernel_rfl
def runA(r:Int):AVal:=.int .i32 r
@[go_sem] theorem yW(r:Int):(runA r).cells=[.int .i32 r]:=(rfl)
theorem uT(l:List Int)(hr:∀r∈l,Rune r)(hl:l.length≤1048576)(h:Heap):Sat (CT G) 244 [.sl 1 (l.map runA)] h (fun x h'=>x=.str (l.flatMap enc)∧h'=h):=by
 have hll:(l.map runA).length=l.length:=List.length_map ..
 have F:=hll
 refine sb [.tmp 2] (fn:=Tryz.f244) Tryz.func244 ?_
 intro Q hQ
 refine wk F ?_
 refine lm (fun nL tL hL=>∃(k v:Nat) (acc:Bs),l.length-k=nL∧h++[.row 5 1 v (acc.map bytA)]=hL∧tL 3=.hs h.length v 0 acc.length true∧tL 4=.int .i64 k∧k≤l.length∧acc++(l.drop k).flatMap enc=l.flatMap enc∧acc.length≤4*k) ((fun(k v:Nat) (acc:Bs)=>(l.length-k:Nat)) (0) (0) ([])) ?_ ?_
 ·refine⟨_,_,Weak.virt 3 5 1 (by simp) (by omega) (by exact zq F),⟨0,0,[],rfl,aB,?_,?_,?_,?_,?_⟩⟩
  all_goals first|exact zq F|rfl|omega|trivial|skip
 rintro _ s2 h' ⟨k,v,acc,rfl,rfl,e3,e4,hk,hp,hz⟩ K2 hK2
 simp only[ai,ao,Nat.reduceEqDiff, ↓reduceIte]at e3 e4
 have F:=F3 F e3 e4
 refine wk F ?_
 refine cq F (fun hc=>?_) (fun hc=>?_)<;>(try exact hc.elim)
 ·obtain⟨y,hy,hym⟩:=ac hc
  rw[aH hy,List.flatMap_cons]at hp
  have he:=eA y
  have hel:((enc y).map bytA).length=(enc y).length:=List.length_map ..
  have F:=F2 F hy
  refine wk F ?_
  refine kq F (od G y (hr y hym) _) ?_
  refine aq F ?_
  try refine sq F ?_
  refine wk F ?_
  refine hK2 _ _ _ (Wkn.refl ⟨k+1,v+1,acc++enc y,rfl,aB,?_,?_,by omega,by rw[← hp];simp,by simp;omega⟩) (by omega)
  all_goals first|exact zq F|rfl|omega|trivial|skip
 ·rw[aN hc,List.flatMap_nil,List.append_nil]at hp
  have hb:=gj acc
  have hel:elemsOf (h++[.row 5 1 v (acc.map bytA)]) 1 (.hs h.length v 0 acc.length true)=some (acc.map bytA):=by
   simp[elemsOf,getRow,List.take_of_length_le]
  have F:=F4 F hb hel @iG
  refine wk F ?_
  refine ee hQ F ?_
  rw[← hp]
  exact Fin.plainE (j:=_) rfl (.str _) ⟨rfl,rfl⟩
end Go.Av
namespace Go.Av
open Go Go.Proofs Go.RowKit
attribute [local irreducible] WP WPl WPix Sat
variable (G:Nat→Option (List AVal))
def bA(s:Bs)(i:Nat):Nat:=(s.getD i 0).toNat
theorem ue(s:Bs)(i:Nat):bA s i<256:=UInt8.toNat_lt _
theorem uf{s:Bs}{i:Nat}{c:UInt8}(h:s[i]? =some c):bA s i=c.toNat:=by unfold bA;rw[List.getD_eq_getElem?_getD,h];rfl
def Cls(b:Nat)(n:Nat)(r l:Int):Prop:=
 (192≤b∧b<224∧n=2∧r=b-192∧l=128)∨(224≤b∧b<240∧n=3∧r=b-224∧l=2048)∨(240≤b∧b<248∧n=4∧r=b-240∧l=65536)
def accI(s:Bs)(r:Int):Nat→Int
 |0=>r
 |i+1=>accI s r i*64+(bA s (i+1)-128)
theorem lq(s:Bs):dec s 0=Lib.decodeN s.length (bA s 0) (bA s 1) (bA s 2) (bA s 3):=by rw[eZ];rfl
theorem jA(s:Bs)(h:(128≤bA s 0∧bA s 0<192)∨248≤bA s 0):dec s 0=(65533,1):=by
 rw[lq]
 have:=ue s 0
 unfold Lib.decodeN
 rw[if_neg (by omega),if_neg (by omega),if_neg (by omega),if_neg (by omega)]
theorem nF(s:Bs){n:Nat}{r l:Int}(hc:Cls (bA s 0) n r l)(h:s.length<n):dec s 0=(65533,1):=by
 rw[lq]
 unfold Cls at hc
 unfold Lib.decodeN
 rw[if_neg (by omega),if_neg (by omega),if_neg (by omega),if_neg (by omega)]
theorem pM(s:Bs){n:Nat}{r l:Int}(hc:Cls (bA s 0) n r l)(i:Nat)(h1:1≤i)(h2:i<n)(h:¬(128≤bA s i∧bA s i<192)):dec s 0=(65533,1):=by
 rw[lq]
 unfold Cls at hc
 have:=ue s i
 unfold Lib.decodeN
 have hi:i=1∨i=2∨i=3:=by omega
 rcases hi with rfl|rfl|rfl<;>rw[if_neg (by omega),if_neg (by omega),if_neg (by omega),if_neg (by omega)]
theorem rA(s:Bs){n:Nat}{r l:Int}(hc:Cls (bA s 0) n r l)(hn:n≤s.length)(ht:∀i,1≤i→i<n→128≤bA s i∧bA s i<192):
  ((accI s r (n-1)<l∨1114111<accI s r (n-1)∨(55296≤accI s r (n-1)∧accI s r (n-1)≤57343))→dec s 0=(65533,1))∧
  (¬(accI s r (n-1)<l∨1114111<accI s r (n-1)∨(55296≤accI s r (n-1)∧accI s r (n-1)≤57343))→((dec s 0).1:Int)=accI s r (n-1)∧(dec s 0).2=n):=by
 rw[lq]
 unfold Cls at hc
 rcases hc with⟨h1,h2,rfl,rfl,rfl⟩| ⟨h1,h2,rfl,rfl,rfl⟩| ⟨h1,h2,rfl,rfl,rfl⟩
 ·have t1:=ht 1 (by omega) (by omega)
  simp only[accI,Nat.reduceSub,Nat.reduceAdd]
  unfold Lib.decodeN
  rw[if_neg (by omega),if_pos (by omega)]
  constructor
  ·intro h;rw[if_neg (by omega)]
  ·intro h;rw[if_pos (by omega)];dsimp only;refine⟨?_,rfl⟩;omega
 ·have t1:=ht 1 (by omega) (by omega)
  have t2:=ht 2 (by omega) (by omega)
  simp only[accI,Nat.reduceSub,Nat.reduceAdd]
  unfold Lib.decodeN
  rw[if_neg (by omega),if_neg (by omega),if_pos (by omega)]
  constructor
  ·intro h;rw[if_neg (by omega)]
  ·intro h;rw[if_pos (by omega)];dsimp only;refine⟨?_,rfl⟩;omega
 ·have t1:=ht 1 (by omega) (by omega)
  have t2:=ht 2 (by omega) (by omega)
  have t3:=ht 3 (by omega) (by omega)
  simp only[accI,Nat.reduceSub,Nat.reduceAdd]
  unfold Lib.decodeN
  rw[if_neg (by omega),if_neg (by omega),if_neg (by omega),if_pos (by omega)]
  constructor
  ·intro h;rw[if_neg (by omega)]
  ·intro h;rw[if_pos (by omega)];dsimp only;refine⟨?_,rfl⟩;omega
theorem rB(b:UInt8)(h:Heap):Sat (CT G) 281 [.int .u8 b.toNat] h (fun r h'=>r=.bool (decide (128≤b.toNat∧b.toNat<192))∧h'=h):=by
 refine sb [.tmp 2] (fn:=Tryz.f281) Tryz.func281 ?_
 intro Q hQ
 refine wk trivial ?_
 (first|refine gq trivial (fun g1=>?_) (fun g1=>?_)|refine pq trivial (fun g1=>?_) (fun g1=>?_))<;>(try exact g1.elim)<;>(try refine sq trivial ?_)<;>(refine wk trivial ?_)
 ·refine ee hQ trivial ?_
  refine fR (.bool _) ?_
  congr 1
  rw[Bool.eq_iff_iff];simp;omega
 ·refine ee hQ trivial ?_
  refine fR (.bool _) ?_
  rw[decide_eq_false (by omega)]
theorem tI(k:IntKind)(n:Int)(h0:0≤n)(h1:n<256):aconv Tryz.prog 5 21 (.int k n)=some (.int .i32 n):=by simp only[aconv,go_sem,cr (x:=n) (by omega) (by omega)]
theorem hZ(s:Bs)(hne:s≠ [])(hs:s.length≤1073741824)(h:Heap):Sat (CT G) 267 [.str s] h (fun r h'=>r=.tup [.int .i32 (dec s 0).1,.int .i64 (dec s 0).2]∧h'=h):=by
 have hpos:0<s.length:=List.length_pos_iff.2 hne
 obtain⟨b,hb,_⟩:=ac hpos
 have hbA:=uf hb
 have hb256:=b.toNat_lt
 have fin:∀c w:Int,((dec s 0).1:Int)=c→((dec s 0).2:Int)=w→Fin h h (fun r h'=>r=.tup [.int .i32 (dec s 0).1,.int .i64 (dec s 0).2]∧h'=h) (.tup [.int .i32 c,.int .i64 w]):=fun c w e1 e2=>by
  rw[e1,e2]
  exact Fin.same (.tup _ (by intro c hc;simp at hc;rcases hc with rfl|rfl<;>exact .int _ _)) ⟨rfl,rfl⟩
 have bad:dec s 0=(65533,1)→Fin h h (fun r h'=>r=.tup [.int .i32 (dec s 0).1,.int .i64 (dec s 0).2]∧h'=h) (.tup [.int .i32 65533,.int .i64 1]):=fun e=>fin _ _ (by rw[e];rfl) (by rw[e];rfl)
 have F:=F4 @tI @kY @cr hb
 refine sb [.tmp 2,.tmp 3] (fn:=Tryz.f267) Tryz.func267 ?_
 intro Q hQ
 (repeat (first|refine w1 (fun K hK=>?_)|refine w2 ?_|refine w3 ?_| ((first|refine w4 ?_|refine wD ?_|refine w5 ?_|refine w6 ?_|refine w7 ?_);try refine sq F ?_)| (refine w8 ?_;refine sq F ?_;refine w9 ?_)| ((first|refine hK _ _ (w0 ?_)| (clear hK K;refine hK _ _ (w0 ?_))| (clear hK K;clear hK K;refine hK _ _ (w0 ?_)));clear hK K)))
 refine cq F (fun c1=>?_) (fun c1=>?_)<;>(try exact c1.elim)<;>((repeat (first|refine w1 (fun K hK=>?_)|refine w2 ?_|refine w3 ?_| ((first|refine w4 ?_|refine wD ?_|refine w5 ?_|refine w6 ?_|refine w7 ?_);try refine sq F ?_)| (refine w8 ?_;refine sq F ?_;refine w9 ?_)| ((first|refine hK _ _ (w0 ?_)| (clear hK K;refine hK _ _ (w0 ?_))| (clear hK K;clear hK K;refine hK _ _ (w0 ?_)));clear hK K))))
 ·refine ee hQ F ?_
  have e:=kM s 0 b hb (by omega)
  exact fin _ _ (by rw[e]) (by rw[e];rfl)
 rename_i K0 hK0
 have tail:∀(t':Env) (n:Nat) (r l:Int),Cls (bA s 0) n r l→t' 0=.str s→t' 5=.int .i64 n→t' 6=.int .i32 r→t' 7=.int .i32 l→K0 t' h:=by
  intro t' n r l hc e0 e5 e6 e7
  refine hK0 _ _ (Wkn.refl ?_)
  clear hK0 K0 hK K
  have F:=F5 F e0 e5 e6 e7
  (repeat (first|refine w1 (fun K hK=>?_)|refine w2 ?_|refine w3 ?_| ((first|refine w4 ?_|refine wD ?_|refine w5 ?_|refine w6 ?_|refine w7 ?_);try refine sq F ?_)| (refine w8 ?_;refine sq F ?_;refine w9 ?_)| ((first|refine hK _ _ (w0 ?_)| (clear hK K;refine hK _ _ (w0 ?_))| (clear hK K;clear hK K;refine hK _ _ (w0 ?_)));clear hK K)))
  refine cq F (fun c2=>?_) (fun c2=>?_)<;>(try exact c2.elim)<;>((repeat (first|refine w1 (fun K hK=>?_)|refine w2 ?_|refine w3 ?_| ((first|refine w4 ?_|refine wD ?_|refine w5 ?_|refine w6 ?_|refine w7 ?_);try refine sq F ?_)| (refine w8 ?_;refine sq F ?_;refine w9 ?_)| ((first|refine hK _ _ (w0 ?_)| (clear hK K;refine hK _ _ (w0 ?_))| (clear hK K;clear hK K;refine hK _ _ (w0 ?_)));clear hK K))))
  ·refine ee hQ F ?_
   exact bad (nF s hc (by omega))
  have hc':=hc
  unfold Cls at hc'
  refine lm (fun nL tL hL=>∃(i:Nat) (q:Int),n-i=nL∧h=hL∧tL 6=.int .i32 q∧tL 8=.int .i64 i∧(1≤i∧i≤n)∧q=accI s r (i-1)∧(0≤q∧(i=1→q<32)∧(i=2→q<2048)∧(i=3→q<131072)∧(i=4→q<8388608))∧(∀j,1≤j→j<i→128≤bA s j∧bA s j<192)) ((fun(i:Nat) (q:Int)=>(n-i:Nat)) (1) (r)) ?_ ?_
  ·refine Wkn.refl ⟨1,r,rfl,aB,?_,?_,⟨by omega,by omega⟩,rfl,⟨by omega,by omega,by omega,by omega,by omega⟩,fun j h1 h2=>by omega⟩
   all_goals first|exact zq F|rfl|omega|trivial|skip
  rintro _ s1 h' ⟨i,q,rfl,rfl,e6,e8,hi,hq,hb,ht⟩ K1 hK1
  simp only[ai,ao,Nat.reduceEqDiff, ↓reduceIte]at e6 e8
  have F:=F3 F e6 e8
  (repeat (first|refine w1 (fun K hK=>?_)|refine w2 ?_|refine w3 ?_| ((first|refine w4 ?_|refine wD ?_|refine w5 ?_|refine w6 ?_|refine w7 ?_);try refine sq F ?_)| (refine w8 ?_;refine sq F ?_;refine w9 ?_)| ((first|refine hK _ _ (w0 ?_)| (clear hK K;refine hK _ _ (w0 ?_))| (clear hK K;clear hK K;refine hK _ _ (w0 ?_)));clear hK K)))
  refine cq F (fun c3=>?_) (fun c3=>?_)<;>(try exact c3.elim)<;>((repeat (first|refine w1 (fun K hK=>?_)|refine w2 ?_|refine w3 ?_| ((first|refine w4 ?_|refine wD ?_|refine w5 ?_|refine w6 ?_|refine w7 ?_);try refine sq F ?_)| (refine w8 ?_;refine sq F ?_;refine w9 ?_)| ((first|refine hK _ _ (w0 ?_)| (clear hK K;refine hK _ _ (w0 ?_))| (clear hK K;clear hK K;refine hK _ _ (w0 ?_)));clear hK K))))
  ·obtain⟨y,hy,_⟩:=ac (show i<s.length by omega)
   have hyA:=uf hy
   have hy256:=y.toNat_lt
   have F:=F2 F hy
   try refine sq F ?_
   (repeat (first|refine w1 (fun K hK=>?_)|refine w2 ?_|refine w3 ?_| ((first|refine w4 ?_|refine wD ?_|refine w5 ?_|refine w6 ?_|refine w7 ?_);try refine sq F ?_)| (refine w8 ?_;refine sq F ?_;refine w9 ?_)| ((first|refine hK _ _ (w0 ?_)| (clear hK K;refine hK _ _ (w0 ?_))| (clear hK K;clear hK K;refine hK _ _ (w0 ?_)));clear hK K)))
   refine(rB G y _).mono ?_
   rintro r h' ⟨rfl,rfl⟩
   try refine sq F ?_
   (repeat (first|refine w1 (fun K hK=>?_)|refine w2 ?_|refine w3 ?_| ((first|refine w4 ?_|refine wD ?_|refine w5 ?_|refine w6 ?_|refine w7 ?_);try refine sq F ?_)| (refine w8 ?_;refine sq F ?_;refine w9 ?_)| ((first|refine hK _ _ (w0 ?_)| (clear hK K;refine hK _ _ (w0 ?_))| (clear hK K;clear hK K;refine hK _ _ (w0 ?_)));clear hK K)))
   refine cq F (fun c4=>?_) (fun c4=>?_)<;>(try exact c4.elim)<;>((repeat (first|refine w1 (fun K hK=>?_)|refine w2 ?_|refine w3 ?_| ((first|refine w4 ?_|refine wD ?_|refine w5 ?_|refine w6 ?_|refine w7 ?_);try refine sq F ?_)| (refine w8 ?_;refine sq F ?_;refine w9 ?_)| ((first|refine hK _ _ (w0 ?_)| (clear hK K;refine hK _ _ (w0 ?_))| (clear hK K;clear hK K;refine hK _ _ (w0 ?_)));clear hK K))))
   ·refine ee hQ F ?_
    exact bad (pM s hc i hi.1 c3 (by rw[hyA];omega))
   ·have hacc:accI s r i=accI s r (i-1)*64+(bA s i-128):=by
     obtain⟨k,rfl⟩:∃k,i=k+1:=⟨i-1,by omega⟩
     rfl
    have hi4:i=1∨i=2∨i=3:=by omega
    have ht':∀j,1≤j→j<i+1→128≤bA s j∧bA s j<192:=fun j h1 h2=>by
     rcases Nat.lt_or_ge j i with h3|h3
     ·exact ht j h1 h3
     ·obtain rfl:j=i:=by omega
      rw[hyA];omega
    have hq':q*64+((y.toNat:Int)-128)=accI s r (i+1-1):=by rw[Nat.add_sub_cancel,hacc, ← hq,hyA]
    try refine sq F ?_
    (repeat (first|refine w1 (fun K hK=>?_)|refine w2 ?_|refine w3 ?_| ((first|refine w4 ?_|refine wD ?_|refine w5 ?_|refine w6 ?_|refine w7 ?_);try refine sq F ?_)| (refine w8 ?_;refine sq F ?_;refine w9 ?_)| ((first|refine hK _ _ (w0 ?_)| (clear hK K;refine hK _ _ (w0 ?_))| (clear hK K;clear hK K;refine hK _ _ (w0 ?_)));clear hK K)))
    refine hK1 _ _ _ (Wkn.refl ⟨i+1,q*64+(y.toNat-128),rfl,aB,?_,?_,⟨by omega,by omega⟩,hq',by omega,ht'⟩) (by omega)
    all_goals first|exact zq F|rfl|omega|trivial|skip
  ·have hin:i=n:=by omega
   subst hin
   obtain⟨f1,f2⟩:=rA s hc (by omega) ht
   rw[← hq]at f1 f2
   try refine sq F ?_
   (repeat (first|refine w1 (fun K hK=>?_)|refine w2 ?_|refine w3 ?_| ((first|refine w4 ?_|refine wD ?_|refine w5 ?_|refine w6 ?_|refine w7 ?_);try refine sq F ?_)| (refine w8 ?_;refine sq F ?_;refine w9 ?_)| ((first|refine hK _ _ (w0 ?_)| (clear hK K;refine hK _ _ (w0 ?_))| (clear hK K;clear hK K;refine hK _ _ (w0 ?_)));clear hK K)))
   (first|refine gq F (fun g1=>?_) (fun g1=>?_)|refine pq F (fun g1=>?_) (fun g1=>?_))<;>(try exact g1.elim)<;>(try refine sq F ?_)<;>((repeat (first|refine w1 (fun K hK=>?_)|refine w2 ?_|refine w3 ?_| ((first|refine w4 ?_|refine wD ?_|refine w5 ?_|refine w6 ?_|refine w7 ?_);try refine sq F ?_)| (refine w8 ?_;refine sq F ?_;refine w9 ?_)| ((first|refine hK _ _ (w0 ?_)| (clear hK K;refine hK _ _ (w0 ?_))| (clear hK K;clear hK K;refine hK _ _ (w0 ?_)));clear hK K))))
   ·refine ee hQ F ?_
    exact bad (f1 (by omega))
   ·(first|refine gq F (fun g2=>?_) (fun g2=>?_)|refine pq F (fun g2=>?_) (fun g2=>?_))<;>(try exact g2.elim)<;>(try refine sq F ?_)<;>((repeat (first|refine w1 (fun K hK=>?_)|refine w2 ?_|refine w3 ?_| ((first|refine w4 ?_|refine wD ?_|refine w5 ?_|refine w6 ?_|refine w7 ?_);try refine sq F ?_)| (refine w8 ?_;refine sq F ?_;refine w9 ?_)| ((first|refine hK _ _ (w0 ?_)| (clear hK K;refine hK _ _ (w0 ?_))| (clear hK K;clear hK K;refine hK _ _ (w0 ?_)));clear hK K))))
    ·refine ee hQ F ?_
     exact bad (f1 (by omega))
    ·(first|refine gq F (fun g3=>?_) (fun g3=>?_)|refine pq F (fun g3=>?_) (fun g3=>?_))<;>(try exact g3.elim)<;>(try refine sq F ?_)<;>((repeat (first|refine w1 (fun K hK=>?_)|refine w2 ?_|refine w3 ?_| ((first|refine w4 ?_|refine wD ?_|refine w5 ?_|refine w6 ?_|refine w7 ?_);try refine sq F ?_)| (refine w8 ?_;refine sq F ?_;refine w9 ?_)| ((first|refine hK _ _ (w0 ?_)| (clear hK K;refine hK _ _ (w0 ?_))| (clear hK K;clear hK K;refine hK _ _ (w0 ?_)));clear hK K))))
     ·refine cq F (fun g4=>?_) (fun g4=>?_)<;>(try exact g4.elim)<;>((repeat (first|refine w1 (fun K hK=>?_)|refine w2 ?_|refine w3 ?_| ((first|refine w4 ?_|refine wD ?_|refine w5 ?_|refine w6 ?_|refine w7 ?_);try refine sq F ?_)| (refine w8 ?_;refine sq F ?_;refine w9 ?_)| ((first|refine hK _ _ (w0 ?_)| (clear hK K;refine hK _ _ (w0 ?_))| (clear hK K;clear hK K;refine hK _ _ (w0 ?_)));clear hK K))))
      ·refine ee hQ F ?_
       exact bad (f1 (by omega))
      ·refine ee hQ F ?_
       exact fin _ _ (f2 (by omega)).1 (by rw[(f2 (by omega)).2])
     ·refine ee hQ F ?_
      exact fin _ _ (f2 (by omega)).1 (by rw[(f2 (by omega)).2])
 (first|refine gq F (fun g1=>?_) (fun g1=>?_)|refine pq F (fun g1=>?_) (fun g1=>?_))<;>(try exact g1.elim)<;>(try refine sq F ?_)<;>((repeat (first|refine w1 (fun K hK=>?_)|refine w2 ?_|refine w3 ?_| ((first|refine w4 ?_|refine wD ?_|refine w5 ?_|refine w6 ?_|refine w7 ?_);try refine sq F ?_)| (refine w8 ?_;refine sq F ?_;refine w9 ?_)| ((first|refine hK _ _ (w0 ?_)| (clear hK K;refine hK _ _ (w0 ?_))| (clear hK K;clear hK K;refine hK _ _ (w0 ?_)));clear hK K))))
 ·refine cq F (fun g2=>?_) (fun g2=>?_)<;>(try exact g2.elim)<;>((repeat (first|refine w1 (fun K hK=>?_)|refine w2 ?_|refine w3 ?_| ((first|refine w4 ?_|refine wD ?_|refine w5 ?_|refine w6 ?_|refine w7 ?_);try refine sq F ?_)| (refine w8 ?_;refine sq F ?_;refine w9 ?_)| ((first|refine hK _ _ (w0 ?_)| (clear hK K;refine hK _ _ (w0 ?_))| (clear hK K;clear hK K;refine hK _ _ (w0 ?_)));clear hK K))))
  ·refine tail _ 2 (b.toNat-192) 128 ?_ ?_ ?_ ?_ ?_
   ·unfold Cls;omega
   ·exact zq F
   ·exact zq F
   ·exact zq F
   ·exact zq F
  ·(first|refine gq F (fun g3=>?_) (fun g3=>?_)|refine pq F (fun g3=>?_) (fun g3=>?_))<;>(try exact g3.elim)<;>(try refine sq F ?_)<;>((repeat (first|refine w1 (fun K hK=>?_)|refine w2 ?_|refine w3 ?_| ((first|refine w4 ?_|refine wD ?_|refine w5 ?_|refine w6 ?_|refine w7 ?_);try refine sq F ?_)| (refine w8 ?_;refine sq F ?_;refine w9 ?_)| ((first|refine hK _ _ (w0 ?_)| (clear hK K;refine hK _ _ (w0 ?_))| (clear hK K;clear hK K;refine hK _ _ (w0 ?_)));clear hK K))))
   ·refine cq F (fun g4=>?_) (fun g4=>?_)<;>(try exact g4.elim)<;>((repeat (first|refine w1 (fun K hK=>?_)|refine w2 ?_|refine w3 ?_| ((first|refine w4 ?_|refine wD ?_|refine w5 ?_|refine w6 ?_|refine w7 ?_);try refine sq F ?_)| (refine w8 ?_;refine sq F ?_;refine w9 ?_)| ((first|refine hK _ _ (w0 ?_)| (clear hK K;refine hK _ _ (w0 ?_))| (clear hK K;clear hK K;refine hK _ _ (w0 ?_)));clear hK K))))
    ·refine tail _ 3 (b.toNat-224) 2048 ?_ ?_ ?_ ?_ ?_
     ·unfold Cls;omega
     ·exact zq F
     ·exact zq F
     ·exact zq F
     ·exact zq F
    ·(first|refine gq F (fun g5=>?_) (fun g5=>?_)|refine pq F (fun g5=>?_) (fun g5=>?_))<;>(try exact g5.elim)<;>(try refine sq F ?_)<;>((repeat (first|refine w1 (fun K hK=>?_)|refine w2 ?_|refine w3 ?_| ((first|refine w4 ?_|refine wD ?_|refine w5 ?_|refine w6 ?_|refine w7 ?_);try refine sq F ?_)| (refine w8 ?_;refine sq F ?_;refine w9 ?_)| ((first|refine hK _ _ (w0 ?_)| (clear hK K;refine hK _ _ (w0 ?_))| (clear hK K;clear hK K;refine hK _ _ (w0 ?_)));clear hK K))))
     ·refine cq F (fun g6=>?_) (fun g6=>?_)<;>(try exact g6.elim)<;>((repeat (first|refine w1 (fun K hK=>?_)|refine w2 ?_|refine w3 ?_| ((first|refine w4 ?_|refine wD ?_|refine w5 ?_|refine w6 ?_|refine w7 ?_);try refine sq F ?_)| (refine w8 ?_;refine sq F ?_;refine w9 ?_)| ((first|refine hK _ _ (w0 ?_)| (clear hK K;refine hK _ _ (w0 ?_))| (clear hK K;clear hK K;refine hK _ _ (w0 ?_)));clear hK K))))
      ·refine tail _ 4 (b.toNat-240) 65536 ?_ ?_ ?_ ?_ ?_
       ·unfold Cls;omega
       ·exact zq F
       ·exact zq F
       ·exact zq F
       ·exact zq F
      ·refine ee hQ F ?_
       exact bad (jA s (by omega))
     ·exfalso;omega
   ·exfalso;omega
 ·(first|refine gq F (fun g3=>?_) (fun g3=>?_)|refine pq F (fun g3=>?_) (fun g3=>?_))<;>(try exact g3.elim)<;>(try refine sq F ?_)<;>((repeat (first|refine w1 (fun K hK=>?_)|refine w2 ?_|refine w3 ?_| ((first|refine w4 ?_|refine wD ?_|refine w5 ?_|refine w6 ?_|refine w7 ?_);try refine sq F ?_)| (refine w8 ?_;refine sq F ?_;refine w9 ?_)| ((first|refine hK _ _ (w0 ?_)| (clear hK K;refine hK _ _ (w0 ?_))| (clear hK K;clear hK K;refine hK _ _ (w0 ?_)));clear hK K))))
  ·exfalso;omega
  ·(first|refine gq F (fun g5=>?_) (fun g5=>?_)|refine pq F (fun g5=>?_) (fun g5=>?_))<;>(try exact g5.elim)<;>(try refine sq F ?_)<;>((repeat (first|refine w1 (fun K hK=>?_)|refine w2 ?_|refine w3 ?_| ((first|refine w4 ?_|refine wD ?_|refine w5 ?_|refine w6 ?_|refine w7 ?_);try refine sq F ?_)| (refine w8 ?_;refine sq F ?_;refine w9 ?_)| ((first|refine hK _ _ (w0 ?_)| (clear hK K;refine hK _ _ (w0 ?_))| (clear hK K;clear hK K;refine hK _ _ (w0 ?_)));clear hK K))))
   ·exfalso;omega
   ·refine ee hQ F ?_
    exact bad (jA s (by omega))
end Go.Av
namespace Go.Av
open Go Go.Proofs Go.RowKit
attribute [local irreducible] WP WPl WPix Sat
variable (G:Nat→Option (List AVal))
theorem tJ:∀(l:List Int),∀r∈l.map runA,∀c∈r.cells,c.sto=true:=fun l r hr c hc=>by
 obtain⟨a,_,rfl⟩:=List.mem_map.1 hr
 simp[runA,AVal.cells]at hc;subst hc;rfl
theorem tK:∀(n:Nat) (l:List Int),∀r∈l.map runA,Clo n r:=fun n l r hr=>by
 obtain⟨a,_,rfl⟩:=List.mem_map.1 hr;exact .int _ _
theorem Frz.runes{h:Heap}{n q v e:Nat}{l:List Int}{len:Nat}{room:Bool}(hq:n≤q)(hg:getRow h q v=some (e,1,l.map runA))(hlen:len=l.length):Frz h n (.hs q v 0 len room) (.sl 1 (l.map runA)):=
 Frz.data hq hg (by simpa using hlen) (fun r hr=>tK _ l r hr) (fun r hr=>tJ l r hr)
theorem kZ(s:Bs)(hs:s.length≤1048576)(h:Heap):Sat (CT G) 241 [.str s] h (fun r h'=>r=.sl 1 ((runesF s).map runA)∧h'=h):=by
 refine sb [.tmp 2] (fn:=Tryz.f241) Tryz.func241 ?_
 intro Q hQ
 refine wk trivial ?_
 refine lm (fun nL tL hL=>∃(k v:Nat) (acc:List Int),s.length-k=nL∧h++[.row 21 1 v (acc.map runA)]=hL∧tL 0=.str (s.drop k)∧tL 3=.hs h.length v 0 acc.length true∧k≤s.length∧acc.length≤k∧acc++runesF (s.drop k)=runesF s) ((fun(k v:Nat) (acc:List Int)=>(s.length-k:Nat)) (0) (0) ([])) ?_ ?_
 ·refine⟨_,_,Weak.virt 3 21 1 (by simp) (by omega) (by exact zq trivial),⟨0,0,[],rfl,aB,?_,?_,?_,?_,?_⟩⟩
  all_goals first|exact zq trivial|rfl|omega|trivial|skip
 rintro _ s2 h' ⟨k,v,acc,rfl,rfl,e0,e3,hk,hl,hp⟩ K2 hK2
 simp only[ai,ao,Nat.reduceEqDiff, ↓reduceIte]at e0 e3
 have F:=F2 e0 e3
 refine wk F ?_
 refine cq F (fun c1=>?_) (fun c1=>?_)<;>(try exact c1.elim)<;>(refine wk F ?_)
 ·simp only[List.length_drop]at c1
  have hlt:k<s.length:=by omega
  have hp2:=bu s k hlt
  rw[f4 s k hlt]at hp
  have hne:s.drop k≠ []:=by intro e;have:=congrArg List.length e;simp at this;omega
  refine(hZ G (s.drop k) hne (by simp;omega) _).mono ?_
  rintro r h' ⟨rfl,rfl⟩
  rw[← ct]
  generalize dec s k=d at*
  obtain⟨c,m⟩:=d
  simp only[]at hp hp2 ⊢
  have hsl:m≤(s.drop k).length:=by simp;omega
  have hdd:(s.drop k).drop m=s.drop (k+m):=List.drop_drop ..
  have F:=F3 F hsl hdd
  try refine sq F ?_
  refine wk F ?_
  refine aq F ?_
  try refine sq F ?_
  refine wk F ?_
  refine hK2 _ _ _ (Wkn.refl ⟨k+m,v+1,acc++[(c:Int)],rfl,aB,?_,?_,by omega,by simp;omega,by rw[← hp];simp⟩) (by omega)
  all_goals first|exact zq F|rfl|omega|trivial|skip
 ·simp only[List.length_drop]at c1
  rw[eh s k (by omega),List.append_nil]at hp
  refine wk F ?_
  refine ee hQ F ?_
  rw[← hp]
  exact Fin.frz (Frz.runes (Nat.le_refl _) (by simp[getRow];rfl) rfl) ⟨rfl,rfl⟩
theorem pN(c:Int)(h:Heap):Sat (CT G) 275 [.int .i32 c] h (fun r h'=>r=.bool (blankR c)∧h'=h):=by
 have yes:(c=9∨c=10∨c=13∨c=32∨c=160∨c=8232∨c=8233∨c=12288)→blankR c=true:=fun h=>decide_eq_true h
 have no:¬(c=9∨c=10∨c=13∨c=32∨c=160∨c=8232∨c=8233∨c=12288)→blankR c=false:=fun h=>decide_eq_false h
 refine sb [.tmp 2] (fn:=Tryz.f275) Tryz.func275 ?_
 intro Q hQ
 refine wk trivial ?_
 (first|refine gq trivial (fun g0=>?_) (fun g0=>?_)|refine pq trivial (fun g0=>?_) (fun g0=>?_))<;>(try exact g0.elim)<;>(try refine sq trivial ?_)<;>(refine wk trivial ?_)
 ·refine ee hQ trivial ?_
  refine fR (.bool _) ?_
  rw[yes (by omega)]
 ·(first|refine gq trivial (fun g1=>?_) (fun g1=>?_)|refine pq trivial (fun g1=>?_) (fun g1=>?_))<;>(try exact g1.elim)<;>(try refine sq trivial ?_)<;>(refine wk trivial ?_)
  ·refine ee hQ trivial ?_
   refine fR (.bool _) ?_
   rw[yes (by omega)]
  ·(first|refine gq trivial (fun g2=>?_) (fun g2=>?_)|refine pq trivial (fun g2=>?_) (fun g2=>?_))<;>(try exact g2.elim)<;>(try refine sq trivial ?_)<;>(refine wk trivial ?_)
   ·refine ee hQ trivial ?_
    refine fR (.bool _) ?_
    rw[yes (by omega)]
   ·(first|refine gq trivial (fun g3=>?_) (fun g3=>?_)|refine pq trivial (fun g3=>?_) (fun g3=>?_))<;>(try exact g3.elim)<;>(try refine sq trivial ?_)<;>(refine wk trivial ?_)
    ·refine ee hQ trivial ?_
     refine fR (.bool _) ?_
     rw[yes (by omega)]
    ·(first|refine gq trivial (fun g4=>?_) (fun g4=>?_)|refine pq trivial (fun g4=>?_) (fun g4=>?_))<;>(try exact g4.elim)<;>(try refine sq trivial ?_)<;>(refine wk trivial ?_)
     ·refine ee hQ trivial ?_
      refine fR (.bool _) ?_
      rw[yes (by omega)]
     ·(first|refine gq trivial (fun g5=>?_) (fun g5=>?_)|refine pq trivial (fun g5=>?_) (fun g5=>?_))<;>(try exact g5.elim)<;>(try refine sq trivial ?_)<;>(refine wk trivial ?_)
      ·refine ee hQ trivial ?_
       refine fR (.bool _) ?_
       rw[yes (by omega)]
      ·(first|refine gq trivial (fun g6=>?_) (fun g6=>?_)|refine pq trivial (fun g6=>?_) (fun g6=>?_))<;>(try exact g6.elim)<;>(try refine sq trivial ?_)<;>(refine wk trivial ?_)
       ·refine ee hQ trivial ?_
        refine fR (.bool _) ?_
        rw[yes (by omega)]
       ·refine ee hQ trivial ?_
        refine fR (.bool _) ?_
        congr 1
        rw[Bool.eq_iff_iff]
        by_cases h8:c=12288
        ·rw[yes (by omega)];simp[h8]
        ·rw[no (by omega)];simp[h8]
theorem jB(s:Bs)(hs:s.length≤1048576)(h:Heap):Sat (CT G) 256 [.str s] h (fun r h'=>r=.bool (rightS s)∧h'=h):=by
 refine sb [.tmp 2] (fn:=Tryz.f256) Tryz.func256 ?_
 intro Q hQ
 refine wk trivial ?_
 refine lm (fun nL tL hL=>∃(k:Nat),s.length-k=nL∧h=hL∧tL 0=.str (s.drop k)∧k≤s.length∧rightS (s.drop k)=rightS s) ((fun(k:Nat)=>(s.length-k:Nat)) (0)) ?_ ?_
 ·refine Wkn.refl ⟨0,rfl,aB,?_,by omega,rfl⟩
  all_goals first|exact zq trivial|rfl|omega|trivial|skip
 rintro _ s2 h' ⟨k,rfl,rfl,e0,hk,hc⟩ K2 hK2
 simp only[ai,ao,Nat.reduceEqDiff, ↓reduceIte]at e0
 have F:=e0
 refine wk F ?_
 refine cq F (fun c1=>?_) (fun c1=>?_)<;>(try exact c1.elim)<;>(refine wk F ?_)
 ·simp only[List.length_drop]at c1
  have hlt:k<s.length:=by omega
  have hp2:=bu s k hlt
  have hca:=kN s k hlt
  have hne:s.drop k≠ []:=by intro e;have:=congrArg List.length e;simp at this;omega
  rw[hc]at hca
  refine(hZ G (s.drop k) hne (by simp;omega) _).mono ?_
  rintro r h' ⟨rfl,rfl⟩
  rw[← ct]
  generalize dec s k=d at*
  obtain⟨c,m⟩:=d
  simp only[]at hp2 hca ⊢
  have hsl:m≤(s.drop k).length:=by simp;omega
  have hdd:(s.drop k).drop m=s.drop (k+m):=List.drop_drop ..
  have F:=F3 F hsl hdd
  try refine sq F ?_
  refine wk F ?_
  (first|refine gq F (fun g1=>?_) (fun g1=>?_)|refine pq F (fun g1=>?_) (fun g1=>?_))<;>(try exact g1.elim)<;>(try refine sq F ?_)<;>(refine wk F ?_)
  ·refine cq F (fun g2=>?_) (fun g2=>?_)<;>(try exact g2.elim)<;>(refine wk F ?_)
   ·refine ee hQ F ?_
    refine fR (.bool _) ?_
    rw[hca,if_pos (by omega)]
   ·refine hK2 _ _ _ (Wkn.refl ⟨k+m,rfl,aB,?_,by omega,by rw[hca,if_neg (by omega)]⟩) (by omega)
    all_goals first|exact zq F|rfl|omega|trivial|skip
  ·refine hK2 _ _ _ (Wkn.refl ⟨k+m,rfl,aB,?_,by omega,by rw[hca,if_neg (by omega)]⟩) (by omega)
   all_goals first|exact zq F|rfl|omega|trivial|skip
 ·simp only[List.length_drop]at c1
  rw[List.drop_of_length_le (by omega)]at hc
  refine wk F ?_
  refine ee hQ F ?_
  refine fR (.bool _) ?_
  rw[← hc];rfl
end Go.Av
namespace Go.Av
open Go.RowKit
section
variable (C:Ctx)
def loadX(T:TypeId)(x:AVal)(h:Heap):Option AVal:=match x with
 | .ad cs=>pickT C.P T cs
 | .hp p ver i off=>match getRow h p ver with
  |some (_,_,rows)=>match rows[i]? with
   |some r=>pickT C.P T (r.cells.drop off)
   |none=>none
  |none=>none
 |_=>none
def nilX(x:AVal)(h:Heap):Option AVal:=match x with
 | .hp p ver i off=>if (getRow h p ver).isSome=true then some (.hp p ver i off)else none
 | .ad cs=>some (.ad cs)
 | .fn (.func f) a b=>some (.fn (.func f) a b)
 | .ifc T v=>some (.ifc T v)
 |_=>none
def binX(h:Heap)(op:BinOp)(T:TypeId)(x y:AVal):Option AVal:=match x,y with
 | .sl _ [],.nil (.slice none 0 0)=>none
 |x,y=>abin C.P h op T x y
def convX(src dst:TypeId)(x:AVal)(h:Heap):Option AVal:=match x with
 | .hp p ver 0 0=>match getRow h p ver with
  |some (e,n,rows)=>match rows with
   | []=>none
   |_::_=>if ptrConv C.P src dst e n=true then some (.hp p ver 0 0)else none
  |none=>none
 | .hs p v o l r=>if bytesStr C.P src dst=true then match elemsOf h 1 (.hs p v o l r)with
  |some ys=>match bytesA ys with|some bs=>some (.str bs)|none=>none
  |none=>none else none
 | .int k n=>aconv C.P src dst (.int k n)
 | .str s=>aconv C.P src dst (.str s)
 |_=>none
def fieldAX(T:TypeId)(f:Nat)(x:AVal)(h:Heap):Option AVal:=match fOff C.P T f with
 |some (o,_,n)=>if n=0 then none else match x with
  | .hp p ver i off=>if (getRow h p ver).isSome=true then some (.hp p ver i (off+o))else none
  | .ad cs=>if o<cs.length then some (.ad (cs.drop o))else none
  |_=>none
 |none=>none
def fieldX(T:TypeId)(f:Nat)(x:AVal):Option AVal:=match fOff C.P T f with
 |some (o,fT,_)=>match x with
  | .agg cs=>pickT C.P fT (cs.drop o)
  |_=>none
 |none=>none
def indexAX(T:TypeId)(x i:AVal)(h:Heap):Option AVal:=match i with
 | .int _ n=>if 0≤n then match x with
  | .sl m es=>match elmT C.P T with
   |some e=>if szOf C.P e=some m∧0<m then match es[n.toNat]? with
    |some r=>some (.ad r.cells)
    |none=>none else none
   |none=>none
  | .hs p ver off len _=>match elmT C.P T,getRow h p ver with
   |some e,some (_,m,_)=>if szOf C.P e=some m∧n<len then some (.hp p ver (off+n.toNat) 0)else none
   |_,_=>none
  | .hp p ver j off=>match arrT C.P T with
   |some (k,e)=>match szOf C.P e with
    |some m=>if (getRow h p ver).isSome=true∧n<k then some (.hp p ver j (off+n.toNat*m))else none
    |none=>none
   |none=>none
  | .ad cs=>match arrT C.P T with
   |some (k,e)=>match szOf C.P e with
    |some m=>if n<k∧n.toNat*m<cs.length then some (.ad (cs.drop (n.toNat*m)))else none
    |none=>none
   |none=>none
  |_=>none else none
 |_=>none
def indexX(T:TypeId)(x i:AVal):Option AVal:=match i with
 | .int _ n=>if 0≤n then match x with
  | .str s=>if strT C.P T=true then match s[n.toNat]? with
   |some b=>some (.int .u8 b.toNat)
   |none=>none else none
  | .agg cs=>match arrT C.P T with
   |some (k,e)=>match szOf C.P e with
    |some m=>if n<k then pickT C.P e (cs.drop (n.toNat*m))else none
    |none=>none
   |none=>none
  |_=>none else none
 |_=>none
def buildX(T:TypeId)(parts:List (Nat×AVal)):Option AVal:=match zroT C.P T with
 |some z=>if z.cells.all AVal.sto=true then match nFld C.P T with
  |some _=>match fillA (fun i=>(fOff C.P T i).map fun q=>(q.1,q.2.2)) z.cells parts with
   |some cs=>some (.agg cs)
   |none=>none
  |none=>match arrT C.P T with
   |some (_,e)=>match szOf C.P e with
    |some n=>match fillA (fun i=>some (i*n,n)) z.cells parts with
     |some cs=>some (.agg cs)
     |none=>none
    |none=>none
   |none=>none else none
 |none=>none
def callPX(c:Call)(ρ:Operand→AVal)(h:Heap):Option AVal:=match c.callee with
 | .builtin .len=>match c.args.toList,c.argTypes.toList with
  | [x],[T]=>match alen C.P h T (ρ x)with|some n=>some (.int .i64 n)|none=>none
  |_,_=>none
 | .builtin .max=>match c.args.toList with
  | [x,y]=>match ρ x,ρ y with| .int kd a,.int _ b=>some (.int kd (if b>a then b else a))|_,_=>none
  |_=>none
 | .builtin .min=>match c.args.toList with
  | [x,y]=>match ρ x,ρ y with| .int kd a,.int _ b=>some (.int kd (if b<a then b else a))|_,_=>none
  |_=>none
 | .builtin .unsafeSliceData=>match c.args.toList with
  | [x]=>match ρ x with
   | .hs p ver 0 len true=>if (getRow h p ver).isSome=true then(if 0<len then some (.hp p ver 0 0)else some .pa)else none
   | .nil (.slice none 0 0)=>some .pa
   |_=>none
  |_=>none
 |_=>none
def pureX(o:Op)(t:Env)(h:Heap):Option AVal:=
 let ρ:=aev C.G t
 match o with
 | .move x=>some (ρ x)
 | .assign x=>some (ρ x)
 | .pick c a b=>match ρ c with| .bool true=>some (ρ a)| .bool false=>some (ρ b)|_=>none
 | .load T x=>loadX C T (ρ x) h
 | .nilCheck x=>nilX (ρ x) h
 | .binOp op T x y _=>binX C h op T (ρ x) (ρ y)
 | .unOp op _ x=>aun op (ρ x)
 | .convert s d x=>convX C s d (ρ x) h
 | .makeInterface T x=>if ifcT C.P T=some false then some (.ifc T (ρ x))else none
 | .makeFunc f first captured=>some (.fn f (first.toList.map ρ) (captured.toList.map ρ))
 | .slice T x lo hi mx=>aslice C.P h T (ρ x) (lo.map ρ) (hi.map ρ) (mx.map ρ)
 | .fieldAddr T x f=>fieldAX C T f (ρ x) h
 | .field T x f=>fieldX C T f (ρ x)
 | .indexAddr T x i=>indexAX C T (ρ x) (ρ i) h
 | .index T x i=>indexX C T (ρ x) (ρ i)
 | .extract x i=>match ρ x with| .tup vs=>vs[i]? |_=>none
 | .build T parts=>buildX C T (parts.toList.map fun q=>(q.1,ρ q.2))
 | .call c=>callPX C c ρ h
 |_=>none
variable {C} {t:Env} {h:Heap}
theorem au{α:Type}{x:Option α}{a:α}{f:α→Prop}(e:x=some a)(h:f a):need x f:=by rw[e];exact h
theorem tO{T:TypeId}{x v:AVal}(g:loadX C T x h=some v){k:AVal→Prop}(hk:k v):loadK C T x h k:=by
 unfold loadX at g;unfold loadK
 split at g
 ·exact au g hk
 ·split at g
  ·rename_i hq
   split at g
   ·rename_i hr
    exact au hq (au hr (au g hk))
   ·cases g
  ·cases g
 ·cases g
theorem uU{op:BinOp}{T:TypeId}{x y v:AVal}(g:binX C h op T x y=some v){k:AVal→Prop}(hk:k v):binK C.P h op T x y k:=by
 unfold binX at g
 split at g
 ·cases g
 ·rename_i hne
  rw[cO fun n e1 e2=>hne n e1 e2]
  exact au g hk
theorem tP{s d:TypeId}{x v:AVal}(g:convX C s d x h=some v){k:AVal→Prop}(hk:k v):convK C.P s d x h k:=by
 unfold convX at g
 split at g
 ·split at g
  ·rename_i hq
   split at g
   ·cases g
   ·split at g
    ·rename_i hp;cases g
     exact au hq ⟨hp,by simp,hk⟩
    ·cases g
  ·cases g
 ·split at g
  ·rename_i hb
   split at g
   ·rename_i hy
    split at g
    ·rename_i hz
     cases g
     exact⟨hb,au hy (au hz hk)⟩
    ·cases g
   ·cases g
  ·cases g
 ·exact au g hk
 ·exact au g hk
 ·cases g
theorem mE{o:Op}{v:AVal}(g:pureX C o t h=some v){K:AVal→Heap→Prop}(hk:K v h):wpOp C o t h K:=by
 cases o with
 |move x=>simp only[pureX,Option.some.injEq]at g;subst g;exact hk
 |assign x=>simp only[pureX,Option.some.injEq]at g;subst g;exact hk
 |pick c a b=>
  simp only[pureX]at g
  unfold wpOp;simp only[]
  split at g
  ·rename_i e;cases g;rw[e];exact And.intro (fun _=>hk) (fun e=>Bool.noConfusion e)
  ·rename_i e;cases g;rw[e];exact And.intro (fun e=>Bool.noConfusion e) (fun _=>hk)
  ·cases g
 |load T x=>
  have:=tO (k:=fun v=>K v h) g hk
  unfold loadK at this;unfold wpOp;simp only[]
  exact this
 |nilCheck x=>
  simp only[pureX,nilX]at g
  unfold wpOp;simp only[]
  split at g
  ·rename_i e;rw[e]
   split at g
   ·rename_i e2;cases g;exact⟨e2,hk⟩
   ·cases g
  ·rename_i e;rw[e];cases g;exact hk
  ·rename_i e;rw[e];cases g;exact hk
  ·rename_i e;rw[e];cases g;exact hk
  ·cases g
 |binOp op T x y _=>exact uU (k:=fun v=>K v h) g hk
 |unOp op _ x=>exact au g hk
 |convert s d x=>exact tP (k:=fun v=>K v h) g hk
 |makeInterface T x=>
  simp only[pureX]at g
  split at g
  ·rename_i e;cases g;exact⟨e,hk⟩
  ·cases g
 |makeFunc f a b=>simp only[pureX,Option.some.injEq]at g;subst g;exact hk
 |slice T x lo hi mx=>exact au g hk
 |fieldAddr T x f=>
  simp only[pureX,fieldAX]at g
  unfold wpOp;simp only[]
  split at g
  ·rename_i e
   split at g
   ·cases g
   ·rename_i hn
    refine au e ⟨hn,?_⟩
    split at g
    ·rename_i e;rw[e]
     split at g
     ·rename_i e2;cases g;exact⟨e2,hk⟩
     ·cases g
    ·rename_i e;rw[e]
     split at g
     ·rename_i e2;cases g;exact⟨e2,hk⟩
     ·cases g
    ·cases g
  ·cases g
 |field T x f=>
  simp only[pureX,fieldX]at g
  unfold wpOp;simp only[]
  split at g
  ·rename_i e
   refine au e ?_
   split at g
   ·rename_i e;rw[e];exact au g hk
   ·cases g
  ·cases g
 |indexAddr T x i=>
  simp only[pureX,indexAX]at g
  unfold wpOp;simp only[]
  split at g
  ·rename_i ei;rw[ei];simp only[]
   split at g
   ·rename_i h0
    split at g
    ·rename_i e;rw[e];simp only[]
     split at g
     ·rename_i he
      split at g
      ·rename_i hs
       split at g
       ·rename_i hr;cases g;exact au he ⟨hs.1,h0,hs.2,au hr hk⟩
       ·cases g
      ·cases g
     ·cases g
    ·rename_i e;rw[e];simp only[]
     split at g
     ·rename_i he hr
      split at g
      ·rename_i hs;cases g;exact au he (au hr ⟨hs.1,h0,hs.2,hk⟩)
      ·cases g
     ·cases g
    ·rename_i e;rw[e];simp only[]
     split at g
     ·rename_i he
      split at g
      ·rename_i hs
       split at g
       ·rename_i hc;cases g;exact au he (au hs ⟨hc.1,h0,hc.2,hk⟩)
       ·cases g
      ·cases g
     ·cases g
    ·rename_i e;rw[e];simp only[]
     split at g
     ·rename_i he
      split at g
      ·rename_i hs
       split at g
       ·rename_i hc;cases g;exact au he (au hs ⟨h0,hc.1,hc.2,hk⟩)
       ·cases g
      ·cases g
     ·cases g
    ·cases g
   ·cases g
  ·cases g
 |index T x i=>
  simp only[pureX,indexX]at g
  unfold wpOp;simp only[]
  split at g
  ·rename_i ei;rw[ei];simp only[]
   split at g
   ·rename_i h0
    split at g
    ·rename_i e;rw[e];simp only[]
     split at g
     ·rename_i he
      split at g
      ·rename_i hr;cases g;exact⟨he,h0,au hr hk⟩
      ·cases g
     ·cases g
    ·rename_i e;rw[e];simp only[]
     split at g
     ·rename_i he
      split at g
      ·rename_i hs
       split at g
       ·rename_i hc;exact au he (au hs ⟨h0,hc,au g hk⟩)
       ·cases g
      ·cases g
     ·cases g
    ·cases g
   ·cases g
  ·cases g
 |extract x i=>
  simp only[pureX]at g
  unfold wpOp;simp only[]
  split at g
  ·rename_i e;rw[e];exact au g hk
  ·cases g
 |build T parts=>
  simp only[pureX,buildX]at g
  unfold wpOp;simp only[]
  split at g
  ·rename_i hz
   split at g
   ·rename_i ha
    refine au hz ⟨ha,?_⟩
    split at g
    ·rename_i hn;rw[hn];simp only[]
     split at g
     ·rename_i hf;cases g;exact au hf hk
     ·cases g
    ·rename_i hn;rw[hn]
     split at g
     ·rename_i hr;rw[hr];simp only[]
      split at g
      ·rename_i hs
       split at g
       ·rename_i hf;cases g;exact au hs (au hf hk)
       ·cases g
      ·cases g
     ·cases g
   ·cases g
  ·cases g
 |call c=>
  simp only[pureX,callPX]at g
  unfold wpOp;simp only[]
  unfold wpCall;simp only[]
  split at g
  ·rename_i hc;rw[hc];simp only[]
   split at g
   ·rename_i h1 h2;rw[h1,h2];simp only[]
    split at g
    ·rename_i hn;cases g;exact au hn hk
    ·cases g
   ·cases g
  ·rename_i hc;rw[hc];simp only[]
   split at g
   ·rename_i h1;rw[h1];simp only[]
    split at g
    ·rename_i e1 e2;cases g;rw[e1,e2];unfold maxK;simp only[decide_eq_true_eq];exact hk
    ·cases g
   ·cases g
  ·rename_i hc;rw[hc];simp only[]
   split at g
   ·rename_i h1;rw[h1];simp only[]
    split at g
    ·rename_i e1 e2;cases g;rw[e1,e2];unfold maxK;simp only[decide_eq_true_eq];exact hk
    ·cases g
   ·cases g
  ·rename_i hc;rw[hc];simp only[]
   split at g
   ·rename_i h1;rw[h1];simp only[]
    split at g
    ·rename_i e1;rw[e1];unfold sdataK;simp only[]
     split at g
     ·rename_i hs
      refine⟨hs,?_⟩
      split at g
      ·rename_i hl;cases g;rw[if_pos hl];exact hk
      ·rename_i hl;cases g;rw[if_neg hl];exact hk
     ·cases g
    ·rename_i e1;rw[e1];cases g;exact hk
    ·cases g
   ·cases g
  ·cases g
 |_=>cases g
end
end Go.Av
namespace Go.Av
open Go.RowKit
abbrev CallX:=FuncId→List AVal→Heap→Option (AVal×Heap)
section
variable (C:Ctx)
def roomyB(n bytes:Nat):Bool:=decide (n≤maxLen)&&decide (n*bytes≤140737488355328)
def appX(T:TypeId)(x y:AVal)(h:Heap):Option (AVal×Heap):=match elmT C.P T with
 |none=>none
 |some e=>match szOf C.P e with
  |none=>none
  |some n=>match byT C.P e with
   |none=>none
   |some by'=>match elemsOf h n y with
    |none=>none
    |some ys=>if 0<n∧(zroT C.P e).map (fun z=>z.cells.length)=some n then match x with
     | .nil (.slice none 0 0)=>if roomyB ys.length by'=true then some (.hs h.length 0 0 ys.length true,h++[.row e n 0 ys])else none
     | .hs p ver off len room=>match getRow h p ver with
      |some (e',m,rows)=>if e'=e∧m=n∧off=0∧roomyB (len+ys.length) by'=true then
        (if room=true then(if len=rows.length then some (.hs p (ver+1) 0 (len+ys.length) true,h.set p (.row e n (ver+1) (rows++ys)))else none)
        else(if 0<ys.length∧len≤rows.length then some (.hs h.length 0 0 (len+ys.length) true,h++[.row e n 0 (rows.take len++ys)])else none))else none
      |none=>none
     | .ez=>if ys=[]then some (.ez,h)else if roomyB ys.length by'=true then some (.hs h.length 0 0 ys.length true,h++[.row e n 0 ys])else none
     |_=>none else none
def ustrX(T:TypeId)(x n:AVal)(h:Heap):Option (AVal×Heap):=match n with
 | .int .i64 m=>if m=0 then(match x with| .pa=>some (.str [],h)|_=>none)
  else match x with
   | .hp p ver 0 0=>match getRow h p ver with
    |some (e,k,rows)=>if k=1∧bptr C.P T e=true∧0<m∧m.toNat≤rows.length then match bytesA (rows.take m.toNat)with
     |some bs=>some (.str bs,h.set p .dead)
     |none=>none else none
    |none=>none
   |_=>none
 |_=>none
def rowsX(T len:Nat)(idx:List Nat)(xs:List AVal)(h:Heap):Option (AVal×Heap):=match elmT C.P T with
 |none=>none
 |some e=>match szOf C.P e with
  |none=>none
  |some n=>if len=0 then(if idx.length=0 then some (.ez,h)else none)
   else if idx.length=len∧0<n∧len*n≤16777216∧idx=List.range len∧(zroT C.P e).map (fun z=>(z.cells.length,z.cells.all AVal.sto))=some (n,true)∧
    xs.all (fun x=>decide (x.cells.length=n)&&x.lies)=true then some (.hs h.length 0 0 len true,h++[.row e n 0 xs])else none
def storeX(T:TypeId)(x y:AVal)(h:Heap):Option (AVal×Heap):=match x with
 | .hp p ver i off=>match getRow h p ver with
  |some (e,n,rows)=>match rows[i]? with
   |some r=>if szOf C.P T=some y.cells.length∧y.lies=true∧off+y.cells.length≤n then some (undefA,h.set p (.row e n ver (rows.set i (putA r off y.cells))))else none
   |none=>none
  |none=>none
 |_=>none
def nextX(x:AVal)(isS:Bool)(h:Heap):Option (AVal×Heap):=match x with
 | .hp p 0 0 0=>if isS=true then match h[p]? with
  |some (.iter s pos)=>if pos<s.length then some (.tup [.bool true,.int .i64 pos,.int .i32 (Utf8.decode ⟨s.toArray⟩ pos).1],h.set p (.iter s (pos+(Utf8.decode ⟨s.toArray⟩ pos).2)))else some (.tup [.bool false],h)
  |_=>none else none
 |_=>none
def opX(call:CallX)(o:Op)(t:Env)(h:Heap):Option (AVal×Heap):=
 match pureX C o t h with
 |some v=>some (v,h)
 |none=>
 let ρ:=aev C.G t
 match o with
 | .alloc e=>match zroT C.P e with
  |some z=>if 0<z.cells.length∧z.cells.all AVal.sto=true∧z.lies=true then some (.hp h.length 0 0 0,h++[.row e z.cells.length 0 [z]])else none
  |none=>none
 | .box e x=>if 0<(ρ x).cells.length∧(ρ x).lies=true then some (.hp h.length 0 0 0,h++[.row e (ρ x).cells.length 0 [ρ x]])else none
 | .buildSlice T len parts=>rowsX C T len (parts.toList.map (·.1)) (parts.toList.map fun q=>ρ q.2) h
 | .store T x y=>storeX C T (ρ x) (ρ y) h
 | .range T x=>match ρ x with
  | .str s=>if strT C.P T=true then some (.hp h.length 0 0 0,h++[.iter s 0])else none
  |_=>none
 | .next x b=>nextX (ρ x) b h
 | .call c=>match c.callee with
  | .builtin .append=>match c.args.toList,c.argTypes.toList with
   | [x,y],[T,T']=>if T'=T∨strT C.P T'=true then appX C T (ρ x) (ρ y) h else none
   |_,_=>none
  | .builtin .unsafeString=>match c.args.toList,c.argTypes.toList with
   | [x,n],[T,_]=>ustrX C T (ρ x) (ρ n) h
   |_,_=>none
  | .value f=>match ρ f with
   | .fn (.func g) first captured=>call g (first++c.args.toList.map ρ++captured) h
   |_=>none
  |_=>none
 |_=>none
variable {C} {t:Env} {h h':Heap} {call:CallX}
theorem i6{n b:Nat}(g:roomyB n b=true):roomy n b:=by
 simpa [roomyB,roomy]using g
theorem uV{T:TypeId}{x y v:AVal}(g:appX C T x y h=some (v,h')){K:AVal→Heap→Prop}(hk:K v h'):wpAppend C.P T x y h K:=by
 unfold appX at g;unfold wpAppend
 split at g
 ·cases g
 ·rename_i e he
  refine au he ?_
  split at g
  ·cases g
  ·rename_i n hn
   refine au hn ?_
   split at g
   ·cases g
   ·rename_i b hb
    refine au hb ?_
    split at g
    ·cases g
    ·rename_i ys hy
     refine au hy ?_
     split at g
     ·rename_i hc
      refine⟨hc.1,hc.2,?_⟩
      split at g
      ·simp only[]
       split at g
       ·rename_i hr;cases g;exact⟨i6 hr,hk⟩
       ·cases g
      ·simp only[]
       split at g
       ·rename_i hq
        refine au hq ?_
        split at g
        ·rename_i hs
         refine⟨hs.1,hs.2.1,hs.2.2.1,i6 hs.2.2.2,?_⟩
         split at g
         ·rename_i hr;rw[if_pos hr]
          split at g
          ·rename_i hl;cases g;exact⟨hl,hk⟩
          ·cases g
         ·rename_i hr;rw[if_neg hr]
          split at g
          ·rename_i hl;cases g;exact⟨hl.1,hl.2,hk⟩
          ·cases g
        ·cases g
       ·cases g
      ·simp only[]
       split at g
       ·rename_i hz;rw[if_pos hz];cases g;exact hk
       ·rename_i hz;rw[if_neg hz]
        split at g
        ·rename_i hr;cases g;exact⟨i6 hr,hk⟩
        ·cases g
      ·cases g
     ·cases g
theorem tQ{T:TypeId}{x y v:AVal}(g:ustrX C T x y h=some (v,h')){K:AVal→Heap→Prop}(hk:K v h'):ustrK C.P T x y h K:=by
 unfold ustrX at g;unfold ustrK
 split at g
 ·simp only[]
  split at g
  ·rename_i hm;rw[if_pos hm]
   split at g
   ·cases g;exact hk
   ·cases g
  ·rename_i hm;rw[if_neg hm]
   split at g
   ·simp only[]
    split at g
    ·rename_i hq
     refine au hq ?_
     split at g
     ·rename_i hs
      split at g
      ·rename_i hb;cases g;exact⟨hs.1,hs.2.1,hs.2.2.1,hs.2.2.2,au hb hk⟩
      ·cases g
     ·cases g
    ·cases g
   ·cases g
 ·cases g
theorem jE(hcall:∀f args h r h',call f args h=some (r,h')→Sat C f args h fun r2 h2=>r2=r∧h2=h'){o:Op}{v:AVal}(g:opX C call o t h=some (v,h')){K:AVal→Heap→Prop}(hk:K v h'):wpOp C o t h K:=by
 unfold opX at g
 split at g
 ·rename_i hp;cases g;exact mE hp hk
 ·rename_i hp
  clear hp
  cases o with
  |alloc e=>
   simp only[]at g
   unfold wpOp;simp only[]
   split at g
   ·rename_i hz
    split at g
    ·rename_i hs;cases g;exact au hz ⟨hs.1,hs.2.1,hs.2.2,hk⟩
    ·cases g
   ·cases g
  |box e x=>
   simp only[]at g
   unfold wpOp;simp only[]
   split at g
   ·rename_i hs;cases g;exact⟨hs.1,hs.2,hk⟩
   ·cases g
  |buildSlice T len parts=>
   simp only[rowsX]at g
   unfold wpOp;simp only[]
   split at g
   ·cases g
   ·rename_i he
    refine au he ?_
    split at g
    ·cases g
    ·rename_i hn
     refine au hn ?_
     split at g
     ·rename_i h0;rw[if_pos h0]
      split at g
      ·rename_i hp;cases g;exact⟨by simpa using hp,hk⟩
      ·cases g
     ·rename_i h0;rw[if_neg h0]
      split at g
      ·rename_i hs;cases g
       obtain⟨s1,s2,s3,s4,s5,s6⟩:=hs
       refine⟨by simpa using s1,by omega,s2,s3,s4,s5,fun x hx=>?_,.inl hk⟩
       simpa using List.all_eq_true.1 s6 x hx
      ·cases g
  |store T x y=>
   simp only[storeX]at g
   unfold wpOp;simp only[]
   split at g
   ·rename_i e;rw[e];simp only[]
    split at g
    ·rename_i hq
     refine au hq ?_
     split at g
     ·rename_i hr
      refine au hr ?_
      split at g
      ·rename_i hs;cases g;exact⟨hs.1,hs.2.1,hs.2.2,hk⟩
      ·cases g
     ·cases g
    ·cases g
   ·cases g
  |range T x=>
   simp only[]at g
   unfold wpOp;simp only[]
   split at g
   ·rename_i e;rw[e];simp only[]
    split at g
    ·rename_i hs;cases g;exact⟨hs,hk⟩
    ·cases g
   ·cases g
  |next x b=>
   simp only[nextX]at g
   unfold wpOp;simp only[]
   split at g
   ·rename_i e;rw[e];simp only[]
    split at g
    ·rename_i hb
     subst hb
     simp only[]
     split at g
     ·rename_i hi;rw[hi];simp only[]
      split at g
      ·rename_i hl;cases g;exact⟨fun _=>hk,fun hn=>absurd hl hn⟩
      ·rename_i hl;cases g;exact⟨fun hn=>absurd hn hl,fun _=>hk⟩
     ·cases g
    ·cases g
   ·cases g
  |call c=>
   simp only[]at g
   unfold wpOp;simp only[]
   unfold wpCall;simp only[]
   split at g
   ·rename_i hc;rw[hc];simp only[]
    split at g
    ·rename_i h1 h2;rw[h1,h2];simp only[]
     split at g
     ·rename_i hT;exact⟨hT,uV g hk⟩
     ·cases g
    ·cases g
   ·rename_i hc;rw[hc];simp only[]
    split at g
    ·rename_i h1 h2;rw[h1,h2];simp only[]
     exact tQ g hk
    ·cases g
   ·rename_i hc;rw[hc]
    split at g
    ·rename_i e;show callK _ _ _ _ _;rw[e]
     exact(hcall _ _ _ _ _ g).mono fun r2 h2 ⟨e1,e2⟩=>by rw[e1,e2];exact hk
    ·cases g
   ·cases g
  |_=>cases g
end
end Go.Av
namespace Go.Av
open Go.RowKit
def nilEq:Value→Value→Bool
 | .slice none 0 0,.slice none 0 0=>true
 | .pointer none,.pointer none=>true
 | .nilFunc,.nilFunc=>true
 | .nilIface,.nilIface=>true
 | .map none,.map none=>true
 | .tuple ⟨[]⟩,.tuple ⟨[]⟩=>true
 |_,_=>false
theorem tR{v w:Value}(h:nilEq v w=true):v=w:=by
 unfold nilEq at h;split at h<;>first|rfl|cases h
def fnEq:Fn→Fn→Bool
 | .func f,.func g=>decide (f=g)
 |_,_=>false
theorem uW{v w:Fn}(h:fnEq v w=true):v=w:=by
 unfold fnEq at h;split at h
 ·rw[of_decide_eq_true h]
 ·cases h
mutual
def beqA:AVal→AVal→Bool
 | .int k n,.int k' n'=>decide (k=k')&&decide (n=n')
 | .bool b,.bool b'=>b==b'
 | .str s,.str s'=>decide (s=s')
 | .nil v,.nil w=>nilEq v w
 | .agg cs,.agg ds=>beqAs cs ds
 | .tup cs,.tup ds=>beqAs cs ds
 | .sl n es,.sl m fs=>decide (n=m)&&beqAs es fs
 | .ad cs,.ad ds=>beqAs cs ds
 | .hp p v i o,.hp p' v' i' o'=>decide (p=p')&&decide (v=v')&&decide (i=i')&&decide (o=o')
 | .hs p v o l r,.hs p' v' o' l' r'=>decide (p=p')&&decide (v=v')&&decide (o=o')&&decide (l=l')&&(r==r')
 | .fn f xs cs,.fn g ys ds=>fnEq f g&&beqAs xs ys&&beqAs cs ds
 | .ifc t x,.ifc t' y=>decide (t=t')&&beqA x y
 | .pa,.pa=>true
 | .ez,.ez=>true
 |_,_=>false
def beqAs:List AVal→List AVal→Bool
 | [],[]=>true
 |x::l,y::m=>beqA x y&&beqAs l m
 |_,_=>false
end
mutual
theorem eD:∀(x y:AVal),beqA x y=true→x=y
 | .int k n,y,h=>by
  cases y<;>simp only[beqA,Bool.and_eq_true,decide_eq_true_eq,Bool.false_eq_true]at h
  rw[h.1,h.2]
 | .bool b,y,h=>by
  cases y<;>simp only[beqA,beq_iff_eq,Bool.false_eq_true]at h
  rw[h]
 | .str s,y,h=>by
  cases y<;>simp only[beqA,decide_eq_true_eq,Bool.false_eq_true]at h
  rw[h]
 | .nil v,y,h=>by
  cases y<;>simp only[beqA,Bool.false_eq_true]at h
  rw[tR h]
 | .agg cs,y,h=>by
  cases y<;>simp only[beqA,Bool.false_eq_true]at h
  rw[cA cs _ h]
 | .tup cs,y,h=>by
  cases y<;>simp only[beqA,Bool.false_eq_true]at h
  rw[cA cs _ h]
 | .sl n es,y,h=>by
  cases y<;>simp only[beqA,Bool.and_eq_true,decide_eq_true_eq,Bool.false_eq_true]at h
  rw[h.1,cA es _ h.2]
 | .ad cs,y,h=>by
  cases y<;>simp only[beqA,Bool.false_eq_true]at h
  rw[cA cs _ h]
 | .hp p v i o,y,h=>by
  cases y<;>simp only[beqA,Bool.and_eq_true,decide_eq_true_eq,Bool.false_eq_true]at h
  obtain⟨⟨⟨rfl,rfl⟩,rfl⟩,rfl⟩:=h;rfl
 | .hs p v o l r,y,h=>by
  cases y<;>simp only[beqA,Bool.and_eq_true,decide_eq_true_eq,beq_iff_eq,Bool.false_eq_true]at h
  obtain⟨⟨⟨⟨rfl,rfl⟩,rfl⟩,rfl⟩,rfl⟩:=h;rfl
 | .fn f xs cs,y,h=>by
  cases y<;>simp only[beqA,Bool.and_eq_true,Bool.false_eq_true]at h
  rw[uW h.1.1,cA xs _ h.1.2,cA cs _ h.2]
 | .ifc t x,y,h=>by
  cases y<;>simp only[beqA,Bool.and_eq_true,decide_eq_true_eq,Bool.false_eq_true]at h
  rw[h.1,eD x _ h.2]
 | .pa,y,h=>by cases y<;>first|rfl|simp[beqA]at h
 | .ez,y,h=>by cases y<;>first|rfl|simp[beqA]at h
theorem cA:∀(l m:List AVal),beqAs l m=true→l=m
 | [],m,h=>by cases m<;>first|rfl|simp[beqAs]at h
 |x::l,m,h=>by
  cases m with
  |nil=>simp[beqAs]at h
  |cons y m=>
   simp only[beqAs,Bool.and_eq_true]at h
   rw[eD x y h.1,cA l m h.2]
end
def beqB:Blk→Blk→Bool
 | .row e n v rows,.row e' n' v' rows'=>decide (e=e')&&decide (n=n')&&decide (v=v')&&beqAs rows rows'
 | .iter s p,.iter s' p'=>decide (s=s')&&decide (p=p')
 | .dead,.dead=>true
 |_,_=>false
theorem og{x y:Blk}(h:beqB x y=true):x=y:=by
 unfold beqB at h;split at h
 ·simp only[Bool.and_eq_true,decide_eq_true_eq]at h
  obtain⟨⟨⟨rfl,rfl⟩,rfl⟩,h⟩:=h
  rw[cA _ _ h]
 ·simp only[Bool.and_eq_true,decide_eq_true_eq]at h
  rw[h.1,h.2]
 ·rfl
 ·cases h
def begH:Heap→Heap→Bool
 | [],_=>true
 |_::_,[]=>false
 |a::l,b::m=>beqB a b&&begH l m
theorem kb:∀{h h1:Heap},begH h h1=true→h1.take h.length=h
 | [],_,_=>by simp
 |_::_,[],h=>by simp[begH]at h
 |a::l,b::m,h=>by
  simp only[begH,Bool.and_eq_true]at h
  simp only[List.length_cons,List.take_succ_cons,kb h.2,og h.1]
mutual
def cloA(n:Nat):AVal→Bool
 | .agg cs=>cloAs n cs
 | .tup cs=>cloAs n cs
 | .sl _ es=>cloAs n es
 | .ad cs=>cloAs n cs
 | .hp p _ _ _=>decide (p<n)
 | .hs p _ _ _ _=>decide (p<n)
 | .fn _ xs cs=>cloAs n xs&&cloAs n cs
 | .ifc _ x=>cloA n x
 | .hm p=>decide (p<n)
 |_=>true
def cloAs(n:Nat):List AVal→Bool
 | []=>true
 |x::l=>cloA n x&&cloAs n l
end
mutual
theorem fP(n:Nat):∀x:AVal,cloA n x=true→Clo n x
 | .int _ _,_=>.int _ _
 | .bool _,_=>.bool _
 | .str _,_=>.str _
 | .nil _,_=>.nil _
 | .agg cs,h=>.agg _ (cN n cs (by simpa only[cloA]using h))
 | .tup cs,h=>.tup _ (cN n cs (by simpa only[cloA]using h))
 | .sl _ es,h=>.sl _ _ (cN n es (by simpa only[cloA]using h))
 | .ad cs,h=>.ad _ (cN n cs (by simpa only[cloA]using h))
 | .hp p _ _ _,h=>.hp _ _ _ _ (by simpa only[cloA,decide_eq_true_eq]using h)
 | .hs p _ _ _ _,h=>.hs _ _ _ _ _ (by simpa only[cloA,decide_eq_true_eq]using h)
 | .fn _ xs cs,h=>by
  simp only[cloA,Bool.and_eq_true]at h
  exact .fn _ _ _ (cN n xs h.1) (cN n cs h.2)
 | .ifc _ x,h=>.ifc _ _ (fP n x (by simpa only[cloA]using h))
 | .pa,_=>.pa
 | .ez,_=>.ez
 | .hm p,h=>.hm _ (by simpa only[cloA,decide_eq_true_eq]using h)
theorem cN(n:Nat):∀l:List AVal,cloAs n l=true→∀x∈l,Clo n x
 | [],_=>by intro x hx;cases hx
 |y::l,h=>by
  simp only[cloAs,Bool.and_eq_true]at h
  intro x hx
  rcases List.mem_cons.1 hx with e|hx
  ·rw[e];exact fP n y h.1
  ·exact cN n l h.2 x hx
end
def mapO{α β:Type}(f:α→Option β):List α→Option (List β)
 | []=>some []
 |x::l=>match f x with
  |some y=>match mapO f l with|some m=>some (y::m)|none=>none
  |none=>none
theorem fQ{α β:Type}{f:α→Option β}:∀{l:List α} {m:List β},mapO f l=some m→l.length=m.length∧∀(i:Nat) (x:α) (y:β),l[i]? =some x→m[i]? =some y→f x=some y
 | [],m,h=>by simp only[mapO,Option.some.injEq]at h;subst h;exact⟨rfl,fun i x y hx=>by simp at hx⟩
 |x::l,m,h=>by
  simp only[mapO]at h
  split at h
  ·rename_i y hy
   split at h
   ·rename_i m1 hm;cases h
    obtain⟨h1,h2⟩:=fQ hm
    refine⟨by simp[h1],fun i a b ha hb=>?_⟩
    cases i with
    |zero=>simp at ha hb;subst ha;subst hb;exact hy
    |succ i=>exact h2 i a b (by simpa using ha) (by simpa using hb)
   ·cases h
  ·cases h
def frzX(h:Heap)(n:Nat):Nat→AVal→Option AVal
 |0,x=>if cloA n x=true then some x else none
 |f+1,x=>if cloA n x=true then some x else match x with
  | .agg cs=>match mapO (frzX h n f) cs with|some ds=>if ds.all AVal.sto=true then some (.agg ds)else none|none=>none
  | .tup cs=>match mapO (frzX h n f) cs with|some ds=>some (.tup ds)|none=>none
  | .ifc t x=>match frzX h n f x with|some y=>some (.ifc t y)|none=>none
  | .hs p ver off len room=>match getRow h p ver with
   |some (_,m,rows)=>if n≤p∧off+len≤rows.length then
     match mapO (fun r=>match mapO (frzX h n f) r.cells with|some ds=>if ds.all AVal.sto=true then some (match r with| .agg _=>AVal.agg ds|_=>(match ds with| [d]=>if d.sto=true then d else .pa|_=>.pa))else none|none=>none) rows with
     |some es=>some (.sl m ((es.drop off).take len))
     |none=>none else none
   |none=>none
  |_=>none
theorem oh(h:Heap)(n:Nat):∀(f:Nat) (x y:AVal),frzX h n f x=some y→Frz h n x y:=by
 intro f
 induction f with
 |zero=>
  intro x y g
  simp only[frzX]at g
  split at g
  ·rename_i hc;cases g;exact .clo _ (fP n _ hc)
  ·cases g
 |succ f ih=>
  intro x y g
  simp only[frzX]at g
  split at g
  ·rename_i hc;cases g;exact .clo _ (fP n _ hc)
  ·split at g
   ·split at g
    ·rename_i ds hm
     split at g
     ·rename_i hs;cases g
      obtain⟨h1,h2⟩:=fQ hm
      exact .agg _ _ h1 (fun d hd=>List.all_eq_true.1 hs d hd) fun i c d hc hd=>ih _ _ (h2 i c d hc hd)
     ·cases g
    ·cases g
   ·split at g
    ·rename_i ds hm;cases g
     obtain⟨h1,h2⟩:=fQ hm
     exact .tup _ _ h1 fun i c d hc hd=>ih _ _ (h2 i c d hc hd)
    ·cases g
   ·split at g
    ·rename_i hy;cases g;exact .ifc _ _ _ (ih _ _ hy)
    ·cases g
   ·split at g
    ·rename_i hq
     split at g
     ·rename_i hb
      split at g
      ·rename_i es hm;cases g
       obtain⟨h1,h2⟩:=fQ hm
       have key:∀(i:Nat) (r s:AVal),_→es[i]? =some s→Frz h n r s∧r.cells.length=s.cells.length∧(∀(j:Nat) (c d:AVal),r.cells[j]? =some c→s.cells[j]? =some d→d.sto=true)∧
         ∀(j:Nat) (c d:AVal),r.cells[j]? =some c→s.cells[j]? =some d→Frz h n c d:=fun i r s hr hs=>by
        have e:=h2 i r s hr hs
        split at e
        ·rename_i ds hd
         obtain⟨k1,k2⟩:=fQ hd
         split at e
         ·rename_i hst
          have hst':=List.all_eq_true.1 hst
          split at e
          ·cases e
           exact⟨.agg _ _ k1 (fun d hd=>hst' d hd) fun j c d hc hd=>ih _ _ (k2 j c d hc hd),k1,fun j c d hc hd=>hst' d (List.mem_of_getElem? hd),fun j c d hc hd=>ih _ _ (k2 j c d hc hd)⟩
          ·rename_i hna
           have hc1:r.cells=[r]:=by cases r<;>first|rfl|exact absurd rfl (hna _)
           rw[hc1]at k1 k2 ⊢
           match ds,k1 with
           | [d],_=>
            simp only at e
            have hd1:=hst' d (by simp)
            rw[if_pos hd1]at e
            have e2:d=s:=by simpa using e
            subst e2
            have hs1:d.cells=[d]:=by cases d<;>first|rfl| (simp[AVal.sto]at hd1)
            have hf:=ih _ _ (k2 0 r d rfl rfl)
            rw[hs1]
            refine⟨hf,rfl,fun j c x hc hx=>?_,fun j c x hc hx=>?_⟩
            ·match j with
             |0=>simp at hx;subst hx;exact hd1
             |j+1=>simp at hx
            ·match j with
             |0=>simp at hx hc;subst hx;subst hc;exact hf
             |j+1=>simp at hx
         ·cases e
        ·cases e
       exact .hs _ _ _ _ _ _ _ _ es hb.1 hq hb.2 h1.symm (fun i r s hr hs=>(key i r s hr hs).1) (fun i r s hr hs=>⟨(key i r s hr hs).2.1,fun j c d hc hd=>(key i r s hr hs).2.2.1 j c d hc hd⟩)
        (fun i r s j c d hr hs hc hd=>(key i r s hr hs).2.2.2 j c d hc hd)
      ·cases g
     ·cases g
    ·cases g
   ·cases g
section
variable {C:Ctx} {h:Heap}
theorem Sat.letgo{f:FuncId}{args:List AVal}{r v:AVal}{h1:Heap}(hb:h1.take h.length=h)(hz:Frz h1 h.length r v)(s:Sat C f args h fun r2 h2=>r2=r∧h2=h1):Sat C f args h fun r2 h2=>r2=v∧h2=h:=by
 intro B S μ w vs fit rl
 refine(s B S μ w vs fit rl).mono fun u w' hp=>?_
 obtain⟨r2,h',S',μ',⟨rfl,rfl⟩,st,fit',hrep⟩:=hp
 obtain⟨fc,sc⟩:=Fits.cut fit st fit' (n:=h.length) (Nat.le_refl _) (fun p k hp hk=>by
  refine .inl ⟨hp,?_⟩
  rw[← hb,List.getElem?_take_of_lt hp];exact hk)
 rw[hb]at fc
 exact⟨v,h,_,_,⟨rfl,rfl⟩,sc,fc,hz.rep fit' hrep⟩
end
end Go.Av
