/- Parts. -/
import Derived.Test.YtnolelibaahimaaGreatDoorRSf
set_option linter.unusedSimpArgs false
set_option linter.unusedVariables false
set_option linter.unusedSectionVars false
set_option linter.unnecessarySimpa false
set_option maxRecDepth 100000
set_option maxHeartbeats 16000000
namespace Go.Av
open Go Go.Proofs Go.RowKit
attribute [local irreducible] WP WPl WPix Sat
variable (G:Nat→Option (List AVal))
def PS.fits(s:PS)(ok:Bool)(dp:Nat)(e:Ev):Bool:=
 ok&&(
  if e.kind=1 then !(lkM s.fo e.a).isSome&&decide (s.fo.length<64)&&s.within e.b&&decide (dp<7)&&((lkM s.nm (e.b,e.s)).getD 0==0)
  else if e.kind=2 then(lkM s.fo e.a).isSome&&((lkM s.he e.a).getD 0==0)
  else if e.kind=3 then !(lkM s.fe e.a).isSome&&decide (s.fe.length<64)&&s.within e.b&&((lkM s.pl e.s).getD 0==0)
  else if e.kind=4∨e.kind=5 then(lkM s.fe e.a).isSome
  else if e.kind=6 then(lkM s.fe e.a).isSome&&s.within e.b
  else if e.kind=7 then !(lkM s.it e.a).isSome&&decide (s.it.length<1024)&&(lkM s.fe e.b).isSome&&((lkM s.gu (e.b,e.s)).getD 0==0)
  else if e.kind=8∨e.kind=9 then(lkM s.it e.a).isSome
  else if e.kind=10 then(lkM s.it e.a).isSome&&(decide (e.n=0)||decide (e.s∈ ((lkM s.it e.a).getD It.z).tags)||decide (((lkM s.it e.a).getD It.z).tags.length<8))
  else if e.kind=11 then !(lkM s.se e.a).isSome&&decide (s.se.length<32)
  else if e.kind=12 then(lkM s.se e.a).isSome
  else decide (s.clock≤e.n))
theorem sk(s:PS)(e:Ev)(ok:Bool)(k dp:Nat)(hdp:deepO s.fo k e.b=some dp)(hdk:dp≤1000)(hl:s.fo.length≤100∧s.fe.length≤100∧s.it.length≤2000∧s.se.length≤100)
  (hE:∀h,Sat (CT G) 79 [e.av] h (fun r h'=>r=.int .i64 (if ok then 0 else 140)∧h'=h))
  (hB:∀(n:Nat) (H:Heap),n+9≤H.length→Sat (CT G) 82 [.hp (n+8) 0 0 0,.int .i64 e.a,.str e.s] (so H n s) (fun r h'=>(∃i:Int,r=.tup [.int .i64 i,.bool (decide (e.s∈ ((lkM s.it e.a).getD It.z).tags))])∧h'=so H n s))
  {H:Heap}{n:Nat}(hn:n+9≤H.length):Sat (CT G) 38 [.hp (n+8) 0 0 0,e.av] (so H n s) (fun r h'=>r=.bool (s.fits ok dp e)∧h'=so H n s):=by
 cases ok with
 |false=>
  have hE:=fun h=>(hE h)
  refine sb [.tmp 4] Tryz.func38 ?_;intro Q hQ;refine wk trivial ?_;refine kq trivial (hE _) ?_;refine ee hQ trivial ?_;exact au hn (.bool _) ⟨rfl,rfl⟩
 |true=>
  refine sb [.tmp 4] Tryz.func38 ?_;intro Q hQ;refine wk trivial ?_;refine kq trivial (hE _) ?_;refine ay 12 [10,11] [true,true,true,true,true,true,true,true,true,true,false,false] (.one 10 [false,true,true,true,true,true,true] (.one 11 [] .fin)) (by decide+kernel) (by kernel_rfl) (by decide+kernel) ?_;simp only[aC,aD,az];try refine sq trivial ?_
  repeat' ((first|refine ai ?_|refine aj ?_|refine am ?_ ?_)<;>try refine sq trivial ?_)
  all_goals try refine wk trivial ?_
  refine ay 12 [10,11] [true,true,true,true,true,true,true,true,true,true,false,false] (.one 10 [false,true,true,true,true,true,true] (.one 11 [] .fin)) (by decide+kernel) (by kernel_rfl) (by decide+kernel) ?_;simp only[aC,aD,az];try refine sq trivial ?_
  repeat' ((first|refine ai ?_|refine aj ?_|refine am ?_ ?_)<;>try refine sq trivial ?_)
  all_goals try refine wk trivial ?_
  refine ay 12 [10,11] [true,true,true,true,true,true,true,true,true,true,false,false] (.one 10 [false,true,true,true,true,true,true] (.one 11 [] .fin)) (by decide+kernel) (by kernel_rfl) (by decide+kernel) ?_;simp only[aC,aD,az];try refine sq trivial ?_
  repeat' ((first|refine ai ?_|refine aj ?_|refine am ?_ ?_)<;>try refine sq trivial ?_)
  all_goals try refine wk trivial ?_
  refine ay 12 [10,11] [true,true,true,true,true,true,true,true,true,true,false,false] (.one 10 [false,true,true,true,true,true,true] (.one 11 [] .fin)) (by decide+kernel) (by kernel_rfl) (by decide+kernel) ?_;simp only[aC,aD,az];try refine sq trivial ?_
  repeat' ((first|refine ai ?_|refine aj ?_|refine am ?_ ?_)<;>try refine sq trivial ?_)
  all_goals try refine wk trivial ?_
  by_cases k1:e.kind=1
  ·have F:=k1;(try refine sq F ?_);refine wk F ?_;(first|refine gq F (fun g1=>?_) (fun g1=>?_)|refine pq F (fun g1=>?_) (fun g1=>?_))<;>(try exact g1.elim)<;>(try refine sq F ?_)<;>(refine wk F ?_)
   ·skip
    (first|refine gq F (fun g2=>?_) (fun g2=>?_)|refine pq F (fun g2=>?_) (fun g2=>?_))<;>(try exact g2.elim)<;>(try refine sq F ?_)<;>(refine wk F ?_)
    ·have ag2:s.fo.length<64:=(by omega);refine aG (fu G s e.b (by simp;omega)) ?_;(try refine sq F ?_);refine wk F ?_;(first|refine gq F (fun g3=>?_) (fun g3=>?_)|refine pq F (fun g3=>?_) (fun g3=>?_))<;>(try exact g3.elim)<;>(try refine sq F ?_)<;>(refine wk F ?_)
     ·skip
      refine aG (rS G s e.b k dp hdp hdk (by simp;omega)) ?_;(try refine sq F ?_);refine wk F ?_;(first|refine gq F (fun g4=>?_) (fun g4=>?_)|refine pq F (fun g4=>?_) (fun g4=>?_))<;>(try exact g4.elim)<;>(try refine sq F ?_)<;>(refine wk F ?_)
      ·have ag4:dp<7:=(by omega);refine ee hQ F ?_;exact au hn (.bool _) ⟨by simp[PS.fits,k1,g1,ag2,g3,ag4],rfl⟩
      ·have ag4:¬dp<7:=(by omega);refine ee hQ F ?_;exact au hn (.bool _) ⟨by simp[PS.fits,k1,g1,ag2,g3,ag4],rfl⟩
     ·skip
      refine ee hQ F ?_;exact au hn (.bool _) ⟨by simp[PS.fits,k1,g1,ag2,g3],rfl⟩
    ·have ag2:¬s.fo.length<64:=(by omega);refine ee hQ F ?_;exact au hn (.bool _) ⟨by simp[PS.fits,k1,g1,ag2],rfl⟩
   ·skip
    refine ee hQ F ?_;exact au hn (.bool _) ⟨by simp[PS.fits,k1,g1],rfl⟩
  by_cases k2:e.kind=2
  ·have F:=k2;(try refine sq F ?_);refine wk F ?_;(first|refine gq F (fun g1=>?_) (fun g1=>?_)|refine pq F (fun g1=>?_) (fun g1=>?_))<;>(try exact g1.elim)<;>(try refine sq F ?_)<;>(refine wk F ?_)
   ·skip
    refine ee hQ F ?_;exact au hn (.bool _) ⟨by simp[PS.fits,k2,g1],rfl⟩
   ·skip
    refine ee hQ F ?_;exact au hn (.bool _) ⟨by simp[PS.fits,k2,g1],rfl⟩
  by_cases k3:e.kind=3
  ·have F:=k3;(try refine sq F ?_);refine wk F ?_;(first|refine gq F (fun g1=>?_) (fun g1=>?_)|refine pq F (fun g1=>?_) (fun g1=>?_))<;>(try exact g1.elim)<;>(try refine sq F ?_)<;>(refine wk F ?_)
   ·skip
    (first|refine gq F (fun g2=>?_) (fun g2=>?_)|refine pq F (fun g2=>?_) (fun g2=>?_))<;>(try exact g2.elim)<;>(try refine sq F ?_)<;>(refine wk F ?_)
    ·have ag2:s.fe.length<64:=(by omega);refine aG (fu G s e.b (by simp;omega)) ?_;(try refine sq F ?_);refine wk F ?_;(first|refine gq F (fun g3=>?_) (fun g3=>?_)|refine pq F (fun g3=>?_) (fun g3=>?_))<;>(try exact g3.elim)<;>(try refine sq F ?_)<;>(refine wk F ?_)
     ·skip
      refine ee hQ F ?_;exact au hn (.bool _) ⟨by simp[PS.fits,k3,g1,ag2,g3],rfl⟩
     ·skip
      refine ee hQ F ?_;exact au hn (.bool _) ⟨by simp[PS.fits,k3,g1,ag2,g3],rfl⟩
    ·have ag2:¬s.fe.length<64:=(by omega);refine ee hQ F ?_;exact au hn (.bool _) ⟨by simp[PS.fits,k3,g1,ag2],rfl⟩
   ·skip
    refine ee hQ F ?_;exact au hn (.bool _) ⟨by simp[PS.fits,k3,g1],rfl⟩
  by_cases k4:e.kind=4
  ·have F:=k4;(try refine sq F ?_);refine wk F ?_;refine ee hQ F ?_;exact au hn (.bool _) ⟨by simp[PS.fits,k4],rfl⟩
  by_cases k5:e.kind=5
  ·have F:=k5;(try refine sq F ?_);refine wk F ?_;refine ee hQ F ?_;exact au hn (.bool _) ⟨by simp[PS.fits,k5],rfl⟩
  by_cases k6:e.kind=6
  ·have F:=k6;(try refine sq F ?_);refine wk F ?_;(first|refine gq F (fun g1=>?_) (fun g1=>?_)|refine pq F (fun g1=>?_) (fun g1=>?_))<;>(try exact g1.elim)<;>(try refine sq F ?_)<;>(refine wk F ?_)
   ·refine kq F (fu G s e.b (by simp;omega)) ?_;refine ee hQ F ?_;exact au hn (.bool _) ⟨by simp[PS.fits,k6,g1],rfl⟩
   ·skip
    refine ee hQ F ?_;exact au hn (.bool _) ⟨by simp[PS.fits,k6,g1],rfl⟩
  by_cases k7:e.kind=7
  ·have F:=k7;(try refine sq F ?_);refine wk F ?_;refine ay 12 [10,11] [true,true,true,true,true,true,true,true,true,true,false,false] (.one 10 [false,true,true,true,true,true,true] (.one 11 [] .fin)) (by decide+kernel) (by kernel_rfl) (by decide+kernel) ?_;simp only[aC,aD,az];(try refine sq F ?_);repeat' ((first|refine ai ?_|refine aj ?_|refine am ?_ ?_)<;>try refine sq F ?_)
   (all_goals try refine wk F ?_);(first|refine gq F (fun g1=>?_) (fun g1=>?_)|refine pq F (fun g1=>?_) (fun g1=>?_))<;>(try exact g1.elim)<;>(try refine sq F ?_)<;>(refine wk F ?_)
   ·skip
    (first|refine gq F (fun g2=>?_) (fun g2=>?_)|refine pq F (fun g2=>?_) (fun g2=>?_))<;>(try exact g2.elim)<;>(try refine sq F ?_)<;>(refine wk F ?_)
    ·have ag2:s.it.length<1024:=(by omega);(first|refine gq F (fun g3=>?_) (fun g3=>?_)|refine pq F (fun g3=>?_) (fun g3=>?_))<;>(try exact g3.elim)<;>(try refine sq F ?_)<;>(refine wk F ?_)
     ·skip
      refine ee hQ F ?_;exact au hn (.bool _) ⟨by simp[PS.fits,k7,g1,ag2,g3],rfl⟩
     ·skip
      refine ee hQ F ?_;exact au hn (.bool _) ⟨by simp[PS.fits,k7,g1,ag2,g3],rfl⟩
    ·have ag2:¬s.it.length<1024:=(by omega);refine ee hQ F ?_;exact au hn (.bool _) ⟨by simp[PS.fits,k7,g1,ag2],rfl⟩
   ·skip
    refine ee hQ F ?_;exact au hn (.bool _) ⟨by simp[PS.fits,k7,g1],rfl⟩
  by_cases k8:e.kind=8
  ·have F:=k8;(try refine sq F ?_);refine wk F ?_;refine ee hQ F ?_;exact au hn (.bool _) ⟨by simp[PS.fits,k8],rfl⟩
  by_cases k9:e.kind=9
  ·have F:=k9;(try refine sq F ?_);refine wk F ?_;refine ee hQ F ?_;exact au hn (.bool _) ⟨by simp[PS.fits,k9],rfl⟩
  by_cases k10:e.kind=10
  ·have F:=k10;(try refine sq F ?_);refine wk F ?_;refine(hB n _ (by simp;omega)).mono ?_;rintro r h' ⟨⟨i,rfl⟩,rfl⟩;(try refine sq F ?_);refine wk F ?_;(first|refine gq F (fun g1=>?_) (fun g1=>?_)|refine pq F (fun g1=>?_) (fun g1=>?_))<;>(try exact g1.elim)<;>(try refine sq F ?_)<;>(refine wk F ?_)
   ·(first|refine gq F (fun g2=>?_) (fun g2=>?_)|refine pq F (fun g2=>?_) (fun g2=>?_))<;>(try exact g2.elim)<;>(try refine sq F ?_)<;>(refine wk F ?_)
    ·skip
     refine ee hQ F ?_;exact au hn (.bool _) ⟨by simp[PS.fits,k10,g1,g2],rfl⟩
    ·(first|refine gq F (fun g3=>?_) (fun g3=>?_)|refine pq F (fun g3=>?_) (fun g3=>?_))<;>(try exact g3.elim)<;>(try refine sq F ?_)<;>(refine wk F ?_)
     ·skip
      refine ee hQ F ?_;exact au hn (.bool _) ⟨by simp[PS.fits,k10,g1,g2,g3],rfl⟩
     ·skip
      refine ee hQ F ?_;exact au hn (.bool _) ⟨by simp[PS.fits,k10,g1,g2,g3];omega,rfl⟩
   ·skip
    refine ee hQ F ?_;exact au hn (.bool _) ⟨by simp[PS.fits,k10,g1],rfl⟩
  by_cases k11:e.kind=11
  ·have F:=k11;(try refine sq F ?_);refine wk F ?_;(first|refine gq F (fun g1=>?_) (fun g1=>?_)|refine pq F (fun g1=>?_) (fun g1=>?_))<;>(try exact g1.elim)<;>(try refine sq F ?_)<;>(refine wk F ?_)
   ·skip
    refine ee hQ F ?_;exact au hn (.bool _) ⟨by simp[PS.fits,k11,g1];omega,rfl⟩
   ·skip
    refine ee hQ F ?_;exact au hn (.bool _) ⟨by simp[PS.fits,k11,g1],rfl⟩
  by_cases k12:e.kind=12
  ·have F:=k12;(try refine sq F ?_);refine wk F ?_;refine ee hQ F ?_;exact au hn (.bool _) ⟨by simp[PS.fits,k12],rfl⟩
  have n1:(e.kind==1)=false:=by simp[k1]
  have n2:(e.kind==2)=false:=by simp[k2]
  have n3:(e.kind==3)=false:=by simp[k3]
  have n4:(e.kind==4)=false:=by simp[k4]
  have n5:(e.kind==5)=false:=by simp[k5]
  have n6:(e.kind==6)=false:=by simp[k6]
  have n7:(e.kind==7)=false:=by simp[k7]
  have n8:(e.kind==8)=false:=by simp[k8]
  have n9:(e.kind==9)=false:=by simp[k9]
  have n10:(e.kind==10)=false:=by simp[k10]
  have n11:(e.kind==11)=false:=by simp[k11]
  have n12:(e.kind==12)=false:=by simp[k12]
  have F:=F2 (F9 n1 n2 n3 n4 n5 n6 n7 n8 n9) (F3 n10 n11 n12);try refine sq F ?_
  refine wk F ?_;refine ee hQ F ?_;exact au hn (.bool _) ⟨by simp[PS.fits,k1,k2,k3,k4,k5,k6,k7,k8,k9,k10,k11,k12],rfl⟩
end Go.Av
