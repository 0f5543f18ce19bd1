/- Events: event.right, over what the texts' checks reckon (written by gen/right14.py). -/
import Derived.Test.YtmfhelaoeaifeaaGreatDoorMlEb
set_option linter.unusedSimpArgs false
set_option linter.unusedVariables false
set_option linter.unusedSectionVars false
set_option linter.unnecessarySimpa false
set_option maxRecDepth 100000
set_option maxHeartbeats 16000000
namespace Go.Av
open Go Go.Proofs Go.RowKit
attribute [local irreducible] WP WPl WPix Sat
variable (G:Nat→Option (List AVal))
theorem tM(N:Nat)(a b c d e f k:Int):Clo N (.tup [.agg [.int .i64 a,.int .i64 b,.int .i64 c,.int .i64 d,.int .i64 e,.int .i64 f],.int .i64 k]):=.tup _ fun x hx=>by
 simp only[List.mem_cons,List.not_mem_nil,or_false]at hx
 rcases hx with rfl|rfl
 ·exact bH fun c hc=>by simp at hc;rcases hc with rfl|rfl|rfl|rfl|rfl|rfl<;>simp
 ·exact .int _ _
def momF(n:Int):Bool:=decide (-62135596800≤n)&&decide (n≤253402300799)
theorem i6(n a b:Int)(h:Heap):Sat (CT G) 203 [.int .i64 n,.int .i64 a,.int .i64 b] h (fun r h'=>r=.bool (decide (a≤n)&&decide (n≤b))∧h'=h):=by
 by_cases k:a≤n
 ·have k2:decide (n≥a)=true:=by simpa using k
  have F:=k2
  refine sb [.tmp 6] (fn:=Tryz.f203) Tryz.func203 ?_
  intro Q hQ
  refine wk F ?_
  refine ee hQ F ?_
  exact Fin.same (.bool _) ⟨by simp[k],rfl⟩
 ·have k2:decide (n≥a)=false:=by simpa using k
  have F:=k2
  refine sb [.tmp 6] (fn:=Tryz.f203) Tryz.func203 ?_
  intro Q hQ
  refine wk F ?_
  refine ee hQ F ?_
  exact Fin.same (.bool _) ⟨by simp[k],rfl⟩
theorem nN(n:Int)(h:Heap):Sat (CT G) 158 [.int .i64 n] h (fun r h'=>(∃a b c d e f:Int,r=.tup [.agg [.int .i64 a,.int .i64 b,.int .i64 c,.int .i64 d,.int .i64 e,.int .i64 f],.int .i64 (if momF n then 0 else 40)])∧h'=h):=by
 cases hm:momF n with
 |false=>
  unfold momF at hm
  have hW:=i6 G n (-62135596800) 253402300799
  rw[hm]at hW
  refine sb [.cell 2 187,.tmp 3] (fn:=Tryz.f158) Tryz.func158 ?_
  intro Q hQ
  refine wk trivial ?_
  refine kq trivial (hW _) ?_
  refine ye hQ trivial ?_
  exact Fin.plain (tM ..) ⟨⟨_,_,_,_,_,_,rfl⟩,rfl⟩
 |true=>
  have hm2:=hm
  unfold momF at hm2
  have hW:=i6 G n (-62135596800) 253402300799
  rw[hm2]at hW
  simp only[Bool.and_eq_true,decide_eq_true_eq]at hm2
  obtain⟨m1,m2⟩:=hm2
  refine sb [.cell 2 187,.tmp 3] (fn:=Tryz.f158) Tryz.func158 ?_
  intro Q hQ
  refine wk trivial ?_
  refine kq trivial (hW _) ?_
  refine cq trivial (fun c1=>?_) (fun c1=>?_)<;>(try exact c1.elim)<;>(refine wk trivial ?_)
  ·refine ye hQ trivial ?_
   exact Fin.plain (tM ..) ⟨⟨_,_,_,_,_,_,rfl⟩,rfl⟩
  ·refine ye hQ trivial ?_
   exact Fin.plain (tM ..) ⟨⟨_,_,_,_,_,_,rfl⟩,rfl⟩
theorem mS(n:Int)(h:Heap):Sat (CT G) 196 [.int .i64 n] h (fun r h'=>r=.bool (momF n)∧h'=h):=by
 refine sb [.tmp 2] (fn:=Tryz.f196) Tryz.func196 ?_
 intro Q hQ
 refine wk trivial ?_
 refine(nN G n _).mono ?_
 rintro r h' ⟨⟨_,_,_,_,_,_,rfl⟩,rfl⟩
 cases hm:momF n
 ·have F:=hm
  try refine sq F ?_
  refine wk F ?_
  refine ee hQ F ?_
  exact Fin.plain (.bool _) ⟨rfl,rfl⟩
 ·have F:=hm
  try refine sq F ?_
  refine wk F ?_
  refine ee hQ F ?_
  exact Fin.plain (.bool _) ⟨rfl,rfl⟩
end Go.Av
namespace Go.Av
open Go Go.Proofs Go.RowKit
attribute [local irreducible] WP WPl WPix Sat
variable (G:Nat→Option (List AVal))
theorem mT(L:Leaf)(hl:∀t h,Sat (CT G) 197 [.str t] h (fun r h'=>r=.bool (L.link t)∧h'=h))(t:Bs)(h:Heap):Sat (CT G) 194 [.str t] h (fun r h'=>r=.bool (L.place t)∧h'=h):=by
 cases k1:(t==[])with
 |true=>
  have k2:(t != [])=false:=by simpa using k1
  have F:=F2 k1 k2
  refine sb [.tmp 2] (fn:=Tryz.f194) Tryz.func194 ?_
  intro Q hQ
  refine wk F ?_
  refine ee hQ F ?_
  exact Fin.same (.bool _) ⟨by simp[Leaf.place,k1],rfl⟩
 |false=>
  have k2:(t != [])=true:=by simpa using k1
  have F:=F2 k1 k2
  refine sb [.tmp 2] (fn:=Tryz.f194) Tryz.func194 ?_
  intro Q hQ
  refine wk F ?_
  refine kq F (hl t _) ?_
  refine ee hQ F ?_
  exact Fin.same (.bool _) ⟨by simp[Leaf.place,k1],rfl⟩
theorem tN(L:Leaf)(hLab:∀t h,Sat (CT G) 193 [.str t] h (fun r h'=>r=.bool (L.label t)∧h'=h))(hTit:∀t h,Sat (CT G) 195 [.str t] h (fun r h'=>r=.bool (L.title t)∧h'=h))
  (hLin:∀t h,Sat (CT G) 197 [.str t] h (fun r h'=>r=.bool (L.link t)∧h'=h))(hPla:∀t h,Sat (CT G) 194 [.str t] h (fun r h'=>r=.bool (L.place t)∧h'=h))(hTag:∀t h,Sat (CT G) 159 [.str t] h (fun r h'=>r=.bool (L.tag t)∧h'=h))
  (hQue:∀t h,Sat (CT G) 198 [.str t] h (fun r h'=>r=.bool (L.query t)∧h'=h))(hMom:∀t h,Sat (CT G) 196 [.int .i64 t] h (fun r h'=>r=.bool (L.moment t)∧h'=h))(e:Ev)(k:e.kind=1)(h:Heap):Sat (CT G) 148 [e.av] h (fun r h'=>r=.bool (L.right e)∧h'=h):=by
 have F:=k
 refine sb [.tmp 2] (fn:=Tryz.f148) Tryz.func148 ?_
 intro Q hQ
 refine wk F ?_
 (first|refine gq F (fun g1=>?_) (fun g1=>?_)|refine pq F (fun g1=>?_) (fun g1=>?_))<;>(try exact g1.elim)<;>(try refine sq F ?_)<;>(refine wk F ?_)
 ·(first|refine gq F (fun g2=>?_) (fun g2=>?_)|refine pq F (fun g2=>?_) (fun g2=>?_))<;>(try exact g2.elim)<;>(try refine sq F ?_)<;>(refine wk F ?_)
  ·refine kq F (ah G e.a _) ?_
   (first|refine gq F (fun h0=>?_) (fun h0=>?_)|refine pq F (fun h0=>?_) (fun h0=>?_))<;>(try exact h0.elim)<;>(try refine sq F ?_)<;>(refine wk F ?_)
   ·refine kq F (hLab e.s _) ?_
    refine ee hQ F ?_
    exact Fin.plain (.bool _) ⟨by simp[Leaf.right,k,g1,h0],rfl⟩
   ·refine ee hQ F ?_
    exact Fin.plain (.bool _) ⟨by simp[Leaf.right,k,g1,h0],rfl⟩
  ·refine kq F (ah G e.a _) ?_
   (first|refine gq F (fun h0=>?_) (fun h0=>?_)|refine pq F (fun h0=>?_) (fun h0=>?_))<;>(try exact h0.elim)<;>(try refine sq F ?_)<;>(refine wk F ?_)
   ·refine kq F (hLab e.s _) ?_
    refine ee hQ F ?_
    exact Fin.plain (.bool _) ⟨by simp[Leaf.right,k,g1,h0],rfl⟩
   ·refine ee hQ F ?_
    exact Fin.plain (.bool _) ⟨by simp[Leaf.right,k,g1,h0],rfl⟩
 ·refine kq F (ah G e.b _) ?_
  (first|refine gq F (fun g2=>?_) (fun g2=>?_)|refine pq F (fun g2=>?_) (fun g2=>?_))<;>(try exact g2.elim)<;>(try refine sq F ?_)<;>(refine wk F ?_)
  ·refine kq F (ah G e.a _) ?_
   (first|refine gq F (fun h0=>?_) (fun h0=>?_)|refine pq F (fun h0=>?_) (fun h0=>?_))<;>(try exact h0.elim)<;>(try refine sq F ?_)<;>(refine wk F ?_)
   ·(first|refine gq F (fun h1=>?_) (fun h1=>?_)|refine pq F (fun h1=>?_) (fun h1=>?_))<;>(try exact h1.elim)<;>(try refine sq F ?_)<;>(refine wk F ?_)
    ·refine kq F (hLab e.s _) ?_
     refine ee hQ F ?_
     exact Fin.plain (.bool _) ⟨by simp[Leaf.right,k,g1,h0,h1],rfl⟩
    ·refine ee hQ F ?_
     exact Fin.plain (.bool _) ⟨by simp[Leaf.right,k,g1,h0,h1],rfl⟩
   ·refine ee hQ F ?_
    exact Fin.plain (.bool _) ⟨by simp[Leaf.right,k,g1,h0],rfl⟩
  ·refine kq F (ah G e.a _) ?_
   (first|refine gq F (fun h0=>?_) (fun h0=>?_)|refine pq F (fun h0=>?_) (fun h0=>?_))<;>(try exact h0.elim)<;>(try refine sq F ?_)<;>(refine wk F ?_)
   ·(first|refine gq F (fun h1=>?_) (fun h1=>?_)|refine pq F (fun h1=>?_) (fun h1=>?_))<;>(try exact h1.elim)<;>(try refine sq F ?_)<;>(refine wk F ?_)
    ·refine kq F (hLab e.s _) ?_
     refine ee hQ F ?_
     exact Fin.plain (.bool _) ⟨by simp[Leaf.right,k,g1,h0,h1],rfl⟩
    ·refine ee hQ F ?_
     exact Fin.plain (.bool _) ⟨by simp[Leaf.right,k,g1,h0,h1],rfl⟩
   ·refine ee hQ F ?_
    exact Fin.plain (.bool _) ⟨by simp[Leaf.right,k,g1,h0],rfl⟩
theorem tO(L:Leaf)(hLab:∀t h,Sat (CT G) 193 [.str t] h (fun r h'=>r=.bool (L.label t)∧h'=h))(hTit:∀t h,Sat (CT G) 195 [.str t] h (fun r h'=>r=.bool (L.title t)∧h'=h))
  (hLin:∀t h,Sat (CT G) 197 [.str t] h (fun r h'=>r=.bool (L.link t)∧h'=h))(hPla:∀t h,Sat (CT G) 194 [.str t] h (fun r h'=>r=.bool (L.place t)∧h'=h))(hTag:∀t h,Sat (CT G) 159 [.str t] h (fun r h'=>r=.bool (L.tag t)∧h'=h))
  (hQue:∀t h,Sat (CT G) 198 [.str t] h (fun r h'=>r=.bool (L.query t)∧h'=h))(hMom:∀t h,Sat (CT G) 196 [.int .i64 t] h (fun r h'=>r=.bool (L.moment t)∧h'=h))(e:Ev)(k:e.kind=2)(h:Heap):Sat (CT G) 148 [e.av] h (fun r h'=>r=.bool (L.right e)∧h'=h):=by
 have F:=k
 refine sb [.tmp 2] (fn:=Tryz.f148) Tryz.func148 ?_
 intro Q hQ
 refine wk F ?_
 (first|refine gq F (fun g1=>?_) (fun g1=>?_)|refine pq F (fun g1=>?_) (fun g1=>?_))<;>(try exact g1.elim)<;>(try refine sq F ?_)<;>(refine wk F ?_)
 ·(first|refine gq F (fun g2=>?_) (fun g2=>?_)|refine pq F (fun g2=>?_) (fun g2=>?_))<;>(try exact g2.elim)<;>(try refine sq F ?_)<;>(refine wk F ?_)
  ·refine kq F (ah G e.a _) ?_
   refine ee hQ F ?_
   exact Fin.plain (.bool _) ⟨by simp[Leaf.right,k],rfl⟩
  ·refine kq F (ah G e.a _) ?_
   refine ee hQ F ?_
   exact Fin.plain (.bool _) ⟨by simp[Leaf.right,k],rfl⟩
 ·refine kq F (ah G e.b _) ?_
  (first|refine gq F (fun g2=>?_) (fun g2=>?_)|refine pq F (fun g2=>?_) (fun g2=>?_))<;>(try exact g2.elim)<;>(try refine sq F ?_)<;>(refine wk F ?_)
  ·refine kq F (ah G e.a _) ?_
   refine ee hQ F ?_
   exact Fin.plain (.bool _) ⟨by simp[Leaf.right,k],rfl⟩
  ·refine kq F (ah G e.a _) ?_
   refine ee hQ F ?_
   exact Fin.plain (.bool _) ⟨by simp[Leaf.right,k],rfl⟩
theorem tP(L:Leaf)(hLab:∀t h,Sat (CT G) 193 [.str t] h (fun r h'=>r=.bool (L.label t)∧h'=h))(hTit:∀t h,Sat (CT G) 195 [.str t] h (fun r h'=>r=.bool (L.title t)∧h'=h))
  (hLin:∀t h,Sat (CT G) 197 [.str t] h (fun r h'=>r=.bool (L.link t)∧h'=h))(hPla:∀t h,Sat (CT G) 194 [.str t] h (fun r h'=>r=.bool (L.place t)∧h'=h))(hTag:∀t h,Sat (CT G) 159 [.str t] h (fun r h'=>r=.bool (L.tag t)∧h'=h))
  (hQue:∀t h,Sat (CT G) 198 [.str t] h (fun r h'=>r=.bool (L.query t)∧h'=h))(hMom:∀t h,Sat (CT G) 196 [.int .i64 t] h (fun r h'=>r=.bool (L.moment t)∧h'=h))(e:Ev)(k:e.kind=4)(h:Heap):Sat (CT G) 148 [e.av] h (fun r h'=>r=.bool (L.right e)∧h'=h):=by
 have F:=k
 refine sb [.tmp 2] (fn:=Tryz.f148) Tryz.func148 ?_
 intro Q hQ
 refine wk F ?_
 (first|refine gq F (fun g1=>?_) (fun g1=>?_)|refine pq F (fun g1=>?_) (fun g1=>?_))<;>(try exact g1.elim)<;>(try refine sq F ?_)<;>(refine wk F ?_)
 ·(first|refine gq F (fun g2=>?_) (fun g2=>?_)|refine pq F (fun g2=>?_) (fun g2=>?_))<;>(try exact g2.elim)<;>(try refine sq F ?_)<;>(refine wk F ?_)
  ·refine kq F (ah G e.a _) ?_
   refine ee hQ F ?_
   exact Fin.plain (.bool _) ⟨by simp[Leaf.right,k],rfl⟩
  ·refine kq F (ah G e.a _) ?_
   refine ee hQ F ?_
   exact Fin.plain (.bool _) ⟨by simp[Leaf.right,k],rfl⟩
 ·refine kq F (ah G e.b _) ?_
  (first|refine gq F (fun g2=>?_) (fun g2=>?_)|refine pq F (fun g2=>?_) (fun g2=>?_))<;>(try exact g2.elim)<;>(try refine sq F ?_)<;>(refine wk F ?_)
  ·refine kq F (ah G e.a _) ?_
   refine ee hQ F ?_
   exact Fin.plain (.bool _) ⟨by simp[Leaf.right,k],rfl⟩
  ·refine kq F (ah G e.a _) ?_
   refine ee hQ F ?_
   exact Fin.plain (.bool _) ⟨by simp[Leaf.right,k],rfl⟩
theorem r8(L:Leaf)(hLab:∀t h,Sat (CT G) 193 [.str t] h (fun r h'=>r=.bool (L.label t)∧h'=h))(hTit:∀t h,Sat (CT G) 195 [.str t] h (fun r h'=>r=.bool (L.title t)∧h'=h))
  (hLin:∀t h,Sat (CT G) 197 [.str t] h (fun r h'=>r=.bool (L.link t)∧h'=h))(hPla:∀t h,Sat (CT G) 194 [.str t] h (fun r h'=>r=.bool (L.place t)∧h'=h))(hTag:∀t h,Sat (CT G) 159 [.str t] h (fun r h'=>r=.bool (L.tag t)∧h'=h))
  (hQue:∀t h,Sat (CT G) 198 [.str t] h (fun r h'=>r=.bool (L.query t)∧h'=h))(hMom:∀t h,Sat (CT G) 196 [.int .i64 t] h (fun r h'=>r=.bool (L.moment t)∧h'=h))(e:Ev)(k:e.kind=12)(h:Heap):Sat (CT G) 148 [e.av] h (fun r h'=>r=.bool (L.right e)∧h'=h):=by
 have F:=k
 refine sb [.tmp 2] (fn:=Tryz.f148) Tryz.func148 ?_
 intro Q hQ
 refine wk F ?_
 (first|refine gq F (fun g1=>?_) (fun g1=>?_)|refine pq F (fun g1=>?_) (fun g1=>?_))<;>(try exact g1.elim)<;>(try refine sq F ?_)<;>(refine wk F ?_)
 ·(first|refine gq F (fun g2=>?_) (fun g2=>?_)|refine pq F (fun g2=>?_) (fun g2=>?_))<;>(try exact g2.elim)<;>(try refine sq F ?_)<;>(refine wk F ?_)
  ·refine kq F (ah G e.a _) ?_
   refine ee hQ F ?_
   exact Fin.plain (.bool _) ⟨by simp[Leaf.right,k],rfl⟩
  ·refine kq F (ah G e.a _) ?_
   refine ee hQ F ?_
   exact Fin.plain (.bool _) ⟨by simp[Leaf.right,k],rfl⟩
 ·refine kq F (ah G e.b _) ?_
  (first|refine gq F (fun g2=>?_) (fun g2=>?_)|refine pq F (fun g2=>?_) (fun g2=>?_))<;>(try exact g2.elim)<;>(try refine sq F ?_)<;>(refine wk F ?_)
  ·refine kq F (ah G e.a _) ?_
   refine ee hQ F ?_
   exact Fin.plain (.bool _) ⟨by simp[Leaf.right,k],rfl⟩
  ·refine kq F (ah G e.a _) ?_
   refine ee hQ F ?_
   exact Fin.plain (.bool _) ⟨by simp[Leaf.right,k],rfl⟩
theorem tQ(L:Leaf)(hLab:∀t h,Sat (CT G) 193 [.str t] h (fun r h'=>r=.bool (L.label t)∧h'=h))(hTit:∀t h,Sat (CT G) 195 [.str t] h (fun r h'=>r=.bool (L.title t)∧h'=h))
  (hLin:∀t h,Sat (CT G) 197 [.str t] h (fun r h'=>r=.bool (L.link t)∧h'=h))(hPla:∀t h,Sat (CT G) 194 [.str t] h (fun r h'=>r=.bool (L.place t)∧h'=h))(hTag:∀t h,Sat (CT G) 159 [.str t] h (fun r h'=>r=.bool (L.tag t)∧h'=h))
  (hQue:∀t h,Sat (CT G) 198 [.str t] h (fun r h'=>r=.bool (L.query t)∧h'=h))(hMom:∀t h,Sat (CT G) 196 [.int .i64 t] h (fun r h'=>r=.bool (L.moment t)∧h'=h))(e:Ev)(k:e.kind=3)(h:Heap):Sat (CT G) 148 [e.av] h (fun r h'=>r=.bool (L.right e)∧h'=h):=by
 have F:=k
 refine sb [.tmp 2] (fn:=Tryz.f148) Tryz.func148 ?_
 intro Q hQ
 refine wk F ?_
 (first|refine gq F (fun g1=>?_) (fun g1=>?_)|refine pq F (fun g1=>?_) (fun g1=>?_))<;>(try exact g1.elim)<;>(try refine sq F ?_)<;>(refine wk F ?_)
 ·(first|refine gq F (fun g2=>?_) (fun g2=>?_)|refine pq F (fun g2=>?_) (fun g2=>?_))<;>(try exact g2.elim)<;>(try refine sq F ?_)<;>(refine wk F ?_)
  ·refine kq F (ah G e.a _) ?_
   (first|refine gq F (fun h0=>?_) (fun h0=>?_)|refine pq F (fun h0=>?_) (fun h0=>?_))<;>(try exact h0.elim)<;>(try refine sq F ?_)<;>(refine wk F ?_)
   ·refine kq F (hPla e.s _) ?_
    (first|refine gq F (fun h2=>?_) (fun h2=>?_)|refine pq F (fun h2=>?_) (fun h2=>?_))<;>(try exact h2.elim)<;>(try refine sq F ?_)<;>(refine wk F ?_)
    ·refine kq F (hTit e.t _) ?_
     refine ee hQ F ?_
     exact Fin.plain (.bool _) ⟨by simp[Leaf.right,k,g1,h0,h2],rfl⟩
    ·refine ee hQ F ?_
     exact Fin.plain (.bool _) ⟨by simp[Leaf.right,k,g1,h0,h2],rfl⟩
   ·refine ee hQ F ?_
    exact Fin.plain (.bool _) ⟨by simp[Leaf.right,k,g1,h0],rfl⟩
  ·refine kq F (ah G e.a _) ?_
   (first|refine gq F (fun h0=>?_) (fun h0=>?_)|refine pq F (fun h0=>?_) (fun h0=>?_))<;>(try exact h0.elim)<;>(try refine sq F ?_)<;>(refine wk F ?_)
   ·refine kq F (hPla e.s _) ?_
    (first|refine gq F (fun h2=>?_) (fun h2=>?_)|refine pq F (fun h2=>?_) (fun h2=>?_))<;>(try exact h2.elim)<;>(try refine sq F ?_)<;>(refine wk F ?_)
    ·refine kq F (hTit e.t _) ?_
     refine ee hQ F ?_
     exact Fin.plain (.bool _) ⟨by simp[Leaf.right,k,g1,h0,h2],rfl⟩
    ·refine ee hQ F ?_
     exact Fin.plain (.bool _) ⟨by simp[Leaf.right,k,g1,h0,h2],rfl⟩
   ·refine ee hQ F ?_
    exact Fin.plain (.bool _) ⟨by simp[Leaf.right,k,g1,h0],rfl⟩
 ·refine kq F (ah G e.b _) ?_
  (first|refine gq F (fun g2=>?_) (fun g2=>?_)|refine pq F (fun g2=>?_) (fun g2=>?_))<;>(try exact g2.elim)<;>(try refine sq F ?_)<;>(refine wk F ?_)
  ·refine kq F (ah G e.a _) ?_
   (first|refine gq F (fun h0=>?_) (fun h0=>?_)|refine pq F (fun h0=>?_) (fun h0=>?_))<;>(try exact h0.elim)<;>(try refine sq F ?_)<;>(refine wk F ?_)
   ·(first|refine gq F (fun h1=>?_) (fun h1=>?_)|refine pq F (fun h1=>?_) (fun h1=>?_))<;>(try exact h1.elim)<;>(try refine sq F ?_)<;>(refine wk F ?_)
    ·refine kq F (hPla e.s _) ?_
     (first|refine gq F (fun h2=>?_) (fun h2=>?_)|refine pq F (fun h2=>?_) (fun h2=>?_))<;>(try exact h2.elim)<;>(try refine sq F ?_)<;>(refine wk F ?_)
     ·refine kq F (hTit e.t _) ?_
      refine ee hQ F ?_
      exact Fin.plain (.bool _) ⟨by simp[Leaf.right,k,g1,h0,h1,h2],rfl⟩
     ·refine ee hQ F ?_
      exact Fin.plain (.bool _) ⟨by simp[Leaf.right,k,g1,h0,h1,h2],rfl⟩
    ·refine ee hQ F ?_
     exact Fin.plain (.bool _) ⟨by simp[Leaf.right,k,g1,h0,h1],rfl⟩
   ·refine ee hQ F ?_
    exact Fin.plain (.bool _) ⟨by simp[Leaf.right,k,g1,h0],rfl⟩
  ·refine kq F (ah G e.a _) ?_
   (first|refine gq F (fun h0=>?_) (fun h0=>?_)|refine pq F (fun h0=>?_) (fun h0=>?_))<;>(try exact h0.elim)<;>(try refine sq F ?_)<;>(refine wk F ?_)
   ·(first|refine gq F (fun h1=>?_) (fun h1=>?_)|refine pq F (fun h1=>?_) (fun h1=>?_))<;>(try exact h1.elim)<;>(try refine sq F ?_)<;>(refine wk F ?_)
    ·refine kq F (hPla e.s _) ?_
     (first|refine gq F (fun h2=>?_) (fun h2=>?_)|refine pq F (fun h2=>?_) (fun h2=>?_))<;>(try exact h2.elim)<;>(try refine sq F ?_)<;>(refine wk F ?_)
     ·refine kq F (hTit e.t _) ?_
      refine ee hQ F ?_
      exact Fin.plain (.bool _) ⟨by simp[Leaf.right,k,g1,h0,h1,h2],rfl⟩
     ·refine ee hQ F ?_
      exact Fin.plain (.bool _) ⟨by simp[Leaf.right,k,g1,h0,h1,h2],rfl⟩
    ·refine ee hQ F ?_
     exact Fin.plain (.bool _) ⟨by simp[Leaf.right,k,g1,h0,h1],rfl⟩
   ·refine ee hQ F ?_
    exact Fin.plain (.bool _) ⟨by simp[Leaf.right,k,g1,h0],rfl⟩
theorem tR(L:Leaf)(hLab:∀t h,Sat (CT G) 193 [.str t] h (fun r h'=>r=.bool (L.label t)∧h'=h))(hTit:∀t h,Sat (CT G) 195 [.str t] h (fun r h'=>r=.bool (L.title t)∧h'=h))
  (hLin:∀t h,Sat (CT G) 197 [.str t] h (fun r h'=>r=.bool (L.link t)∧h'=h))(hPla:∀t h,Sat (CT G) 194 [.str t] h (fun r h'=>r=.bool (L.place t)∧h'=h))(hTag:∀t h,Sat (CT G) 159 [.str t] h (fun r h'=>r=.bool (L.tag t)∧h'=h))
  (hQue:∀t h,Sat (CT G) 198 [.str t] h (fun r h'=>r=.bool (L.query t)∧h'=h))(hMom:∀t h,Sat (CT G) 196 [.int .i64 t] h (fun r h'=>r=.bool (L.moment t)∧h'=h))(e:Ev)(k:e.kind=5)(h:Heap):Sat (CT G) 148 [e.av] h (fun r h'=>r=.bool (L.right e)∧h'=h):=by
 have F:=k
 refine sb [.tmp 2] (fn:=Tryz.f148) Tryz.func148 ?_
 intro Q hQ
 refine wk F ?_
 (first|refine gq F (fun g1=>?_) (fun g1=>?_)|refine pq F (fun g1=>?_) (fun g1=>?_))<;>(try exact g1.elim)<;>(try refine sq F ?_)<;>(refine wk F ?_)
 ·(first|refine gq F (fun g2=>?_) (fun g2=>?_)|refine pq F (fun g2=>?_) (fun g2=>?_))<;>(try exact g2.elim)<;>(try refine sq F ?_)<;>(refine wk F ?_)
  ·refine kq F (ah G e.a _) ?_
   (first|refine gq F (fun h0=>?_) (fun h0=>?_)|refine pq F (fun h0=>?_) (fun h0=>?_))<;>(try exact h0.elim)<;>(try refine sq F ?_)<;>(refine wk F ?_)
   ·refine kq F (hTit e.t _) ?_
    refine ee hQ F ?_
    exact Fin.plain (.bool _) ⟨by simp[Leaf.right,k,h0],rfl⟩
   ·refine ee hQ F ?_
    exact Fin.plain (.bool _) ⟨by simp[Leaf.right,k,h0],rfl⟩
  ·refine kq F (ah G e.a _) ?_
   (first|refine gq F (fun h0=>?_) (fun h0=>?_)|refine pq F (fun h0=>?_) (fun h0=>?_))<;>(try exact h0.elim)<;>(try refine sq F ?_)<;>(refine wk F ?_)
   ·refine kq F (hTit e.t _) ?_
    refine ee hQ F ?_
    exact Fin.plain (.bool _) ⟨by simp[Leaf.right,k,h0],rfl⟩
   ·refine ee hQ F ?_
    exact Fin.plain (.bool _) ⟨by simp[Leaf.right,k,h0],rfl⟩
 ·refine kq F (ah G e.b _) ?_
  (first|refine gq F (fun g2=>?_) (fun g2=>?_)|refine pq F (fun g2=>?_) (fun g2=>?_))<;>(try exact g2.elim)<;>(try refine sq F ?_)<;>(refine wk F ?_)
  ·refine kq F (ah G e.a _) ?_
   (first|refine gq F (fun h0=>?_) (fun h0=>?_)|refine pq F (fun h0=>?_) (fun h0=>?_))<;>(try exact h0.elim)<;>(try refine sq F ?_)<;>(refine wk F ?_)
   ·refine kq F (hTit e.t _) ?_
    refine ee hQ F ?_
    exact Fin.plain (.bool _) ⟨by simp[Leaf.right,k,h0],rfl⟩
   ·refine ee hQ F ?_
    exact Fin.plain (.bool _) ⟨by simp[Leaf.right,k,h0],rfl⟩
  ·refine kq F (ah G e.a _) ?_
   (first|refine gq F (fun h0=>?_) (fun h0=>?_)|refine pq F (fun h0=>?_) (fun h0=>?_))<;>(try exact h0.elim)<;>(try refine sq F ?_)<;>(refine wk F ?_)
   ·refine kq F (hTit e.t _) ?_
    refine ee hQ F ?_
    exact Fin.plain (.bool _) ⟨by simp[Leaf.right,k,h0],rfl⟩
   ·refine ee hQ F ?_
    exact Fin.plain (.bool _) ⟨by simp[Leaf.right,k,h0],rfl⟩
theorem tS(L:Leaf)(hLab:∀t h,Sat (CT G) 193 [.str t] h (fun r h'=>r=.bool (L.label t)∧h'=h))(hTit:∀t h,Sat (CT G) 195 [.str t] h (fun r h'=>r=.bool (L.title t)∧h'=h))
  (hLin:∀t h,Sat (CT G) 197 [.str t] h (fun r h'=>r=.bool (L.link t)∧h'=h))(hPla:∀t h,Sat (CT G) 194 [.str t] h (fun r h'=>r=.bool (L.place t)∧h'=h))(hTag:∀t h,Sat (CT G) 159 [.str t] h (fun r h'=>r=.bool (L.tag t)∧h'=h))
  (hQue:∀t h,Sat (CT G) 198 [.str t] h (fun r h'=>r=.bool (L.query t)∧h'=h))(hMom:∀t h,Sat (CT G) 196 [.int .i64 t] h (fun r h'=>r=.bool (L.moment t)∧h'=h))(e:Ev)(k:e.kind=6)(h:Heap):Sat (CT G) 148 [e.av] h (fun r h'=>r=.bool (L.right e)∧h'=h):=by
 have F:=k
 refine sb [.tmp 2] (fn:=Tryz.f148) Tryz.func148 ?_
 intro Q hQ
 refine wk F ?_
 (first|refine gq F (fun g1=>?_) (fun g1=>?_)|refine pq F (fun g1=>?_) (fun g1=>?_))<;>(try exact g1.elim)<;>(try refine sq F ?_)<;>(refine wk F ?_)
 ·(first|refine gq F (fun g2=>?_) (fun g2=>?_)|refine pq F (fun g2=>?_) (fun g2=>?_))<;>(try exact g2.elim)<;>(try refine sq F ?_)<;>(refine wk F ?_)
  ·refine kq F (ah G e.a _) ?_
   (first|refine gq F (fun h0=>?_) (fun h0=>?_)|refine pq F (fun h0=>?_) (fun h0=>?_))<;>(try exact h0.elim)<;>(try refine sq F ?_)<;>(refine wk F ?_)
   ·refine ee hQ F ?_
    exact Fin.plain (.bool _) ⟨by simp[Leaf.right,k,g1,h0],rfl⟩
   ·refine ee hQ F ?_
    exact Fin.plain (.bool _) ⟨by simp[Leaf.right,k,g1,h0],rfl⟩
  ·refine kq F (ah G e.a _) ?_
   (first|refine gq F (fun h0=>?_) (fun h0=>?_)|refine pq F (fun h0=>?_) (fun h0=>?_))<;>(try exact h0.elim)<;>(try refine sq F ?_)<;>(refine wk F ?_)
   ·refine ee hQ F ?_
    exact Fin.plain (.bool _) ⟨by simp[Leaf.right,k,g1,h0],rfl⟩
   ·refine ee hQ F ?_
    exact Fin.plain (.bool _) ⟨by simp[Leaf.right,k,g1,h0],rfl⟩
 ·refine kq F (ah G e.b _) ?_
  (first|refine gq F (fun g2=>?_) (fun g2=>?_)|refine pq F (fun g2=>?_) (fun g2=>?_))<;>(try exact g2.elim)<;>(try refine sq F ?_)<;>(refine wk F ?_)
  ·refine kq F (ah G e.a _) ?_
   (first|refine gq F (fun h0=>?_) (fun h0=>?_)|refine pq F (fun h0=>?_) (fun h0=>?_))<;>(try exact h0.elim)<;>(try refine sq F ?_)<;>(refine wk F ?_)
   ·refine ee hQ F ?_
    exact Fin.plain (.bool _) ⟨by simp[Leaf.right,k,g1,h0],rfl⟩
   ·refine ee hQ F ?_
    exact Fin.plain (.bool _) ⟨by simp[Leaf.right,k,g1,h0],rfl⟩
  ·refine kq F (ah G e.a _) ?_
   (first|refine gq F (fun h0=>?_) (fun h0=>?_)|refine pq F (fun h0=>?_) (fun h0=>?_))<;>(try exact h0.elim)<;>(try refine sq F ?_)<;>(refine wk F ?_)
   ·refine ee hQ F ?_
    exact Fin.plain (.bool _) ⟨by simp[Leaf.right,k,g1,h0],rfl⟩
   ·refine ee hQ F ?_
    exact Fin.plain (.bool _) ⟨by simp[Leaf.right,k,g1,h0],rfl⟩
theorem tT(L:Leaf)(hLab:∀t h,Sat (CT G) 193 [.str t] h (fun r h'=>r=.bool (L.label t)∧h'=h))(hTit:∀t h,Sat (CT G) 195 [.str t] h (fun r h'=>r=.bool (L.title t)∧h'=h))
  (hLin:∀t h,Sat (CT G) 197 [.str t] h (fun r h'=>r=.bool (L.link t)∧h'=h))(hPla:∀t h,Sat (CT G) 194 [.str t] h (fun r h'=>r=.bool (L.place t)∧h'=h))(hTag:∀t h,Sat (CT G) 159 [.str t] h (fun r h'=>r=.bool (L.tag t)∧h'=h))
  (hQue:∀t h,Sat (CT G) 198 [.str t] h (fun r h'=>r=.bool (L.query t)∧h'=h))(hMom:∀t h,Sat (CT G) 196 [.int .i64 t] h (fun r h'=>r=.bool (L.moment t)∧h'=h))(e:Ev)(k:e.kind=7)(h:Heap):Sat (CT G) 148 [e.av] h (fun r h'=>r=.bool (L.right e)∧h'=h):=by
 have F:=k
 refine sb [.tmp 2] (fn:=Tryz.f148) Tryz.func148 ?_
 intro Q hQ
 refine wk F ?_
 (first|refine gq F (fun g1=>?_) (fun g1=>?_)|refine pq F (fun g1=>?_) (fun g1=>?_))<;>(try exact g1.elim)<;>(try refine sq F ?_)<;>(refine wk F ?_)
 ·(first|refine gq F (fun g2=>?_) (fun g2=>?_)|refine pq F (fun g2=>?_) (fun g2=>?_))<;>(try exact g2.elim)<;>(try refine sq F ?_)<;>(refine wk F ?_)
  ·refine kq F (ah G e.a _) ?_
   (first|refine gq F (fun h0=>?_) (fun h0=>?_)|refine pq F (fun h0=>?_) (fun h0=>?_))<;>(try exact h0.elim)<;>(try refine sq F ?_)<;>(refine wk F ?_)
   ·refine kq F (ah G e.b _) ?_
    (first|refine gq F (fun h1=>?_) (fun h1=>?_)|refine pq F (fun h1=>?_) (fun h1=>?_))<;>(try exact h1.elim)<;>(try refine sq F ?_)<;>(refine wk F ?_)
    ·refine kq F (hMom e.n _) ?_
     (first|refine gq F (fun h2=>?_) (fun h2=>?_)|refine pq F (fun h2=>?_) (fun h2=>?_))<;>(try exact h2.elim)<;>(try refine sq F ?_)<;>(refine wk F ?_)
     ·refine kq F (hPla e.s _) ?_
      (first|refine gq F (fun h3=>?_) (fun h3=>?_)|refine pq F (fun h3=>?_) (fun h3=>?_))<;>(try exact h3.elim)<;>(try refine sq F ?_)<;>(refine wk F ?_)
      ·refine kq F (hTit e.t _) ?_
       (first|refine gq F (fun h4=>?_) (fun h4=>?_)|refine pq F (fun h4=>?_) (fun h4=>?_))<;>(try exact h4.elim)<;>(try refine sq F ?_)<;>(refine wk F ?_)
       ·refine kq F (hLin e.u _) ?_
        refine ee hQ F ?_
        exact Fin.plain (.bool _) ⟨by simp[Leaf.right,k,h0,h1,h2,h3,h4],rfl⟩
       ·refine ee hQ F ?_
        exact Fin.plain (.bool _) ⟨by simp[Leaf.right,k,h0,h1,h2,h3,h4],rfl⟩
      ·refine ee hQ F ?_
       exact Fin.plain (.bool _) ⟨by simp[Leaf.right,k,h0,h1,h2,h3],rfl⟩
     ·refine ee hQ F ?_
      exact Fin.plain (.bool _) ⟨by simp[Leaf.right,k,h0,h1,h2],rfl⟩
    ·refine ee hQ F ?_
     exact Fin.plain (.bool _) ⟨by simp[Leaf.right,k,h0,h1],rfl⟩
   ·refine ee hQ F ?_
    exact Fin.plain (.bool _) ⟨by simp[Leaf.right,k,h0],rfl⟩
  ·refine kq F (ah G e.a _) ?_
   (first|refine gq F (fun h0=>?_) (fun h0=>?_)|refine pq F (fun h0=>?_) (fun h0=>?_))<;>(try exact h0.elim)<;>(try refine sq F ?_)<;>(refine wk F ?_)
   ·refine kq F (ah G e.b _) ?_
    (first|refine gq F (fun h1=>?_) (fun h1=>?_)|refine pq F (fun h1=>?_) (fun h1=>?_))<;>(try exact h1.elim)<;>(try refine sq F ?_)<;>(refine wk F ?_)
    ·refine kq F (hMom e.n _) ?_
     (first|refine gq F (fun h2=>?_) (fun h2=>?_)|refine pq F (fun h2=>?_) (fun h2=>?_))<;>(try exact h2.elim)<;>(try refine sq F ?_)<;>(refine wk F ?_)
     ·refine kq F (hPla e.s _) ?_
      (first|refine gq F (fun h3=>?_) (fun h3=>?_)|refine pq F (fun h3=>?_) (fun h3=>?_))<;>(try exact h3.elim)<;>(try refine sq F ?_)<;>(refine wk F ?_)
      ·refine kq F (hTit e.t _) ?_
       (first|refine gq F (fun h4=>?_) (fun h4=>?_)|refine pq F (fun h4=>?_) (fun h4=>?_))<;>(try exact h4.elim)<;>(try refine sq F ?_)<;>(refine wk F ?_)
       ·refine kq F (hLin e.u _) ?_
        refine ee hQ F ?_
        exact Fin.plain (.bool _) ⟨by simp[Leaf.right,k,h0,h1,h2,h3,h4],rfl⟩
       ·refine ee hQ F ?_
        exact Fin.plain (.bool _) ⟨by simp[Leaf.right,k,h0,h1,h2,h3,h4],rfl⟩
      ·refine ee hQ F ?_
       exact Fin.plain (.bool _) ⟨by simp[Leaf.right,k,h0,h1,h2,h3],rfl⟩
     ·refine ee hQ F ?_
      exact Fin.plain (.bool _) ⟨by simp[Leaf.right,k,h0,h1,h2],rfl⟩
    ·refine ee hQ F ?_
     exact Fin.plain (.bool _) ⟨by simp[Leaf.right,k,h0,h1],rfl⟩
   ·refine ee hQ F ?_
    exact Fin.plain (.bool _) ⟨by simp[Leaf.right,k,h0],rfl⟩
 ·refine kq F (ah G e.b _) ?_
  (first|refine gq F (fun g2=>?_) (fun g2=>?_)|refine pq F (fun g2=>?_) (fun g2=>?_))<;>(try exact g2.elim)<;>(try refine sq F ?_)<;>(refine wk F ?_)
  ·refine kq F (ah G e.a _) ?_
   (first|refine gq F (fun h0=>?_) (fun h0=>?_)|refine pq F (fun h0=>?_) (fun h0=>?_))<;>(try exact h0.elim)<;>(try refine sq F ?_)<;>(refine wk F ?_)
   ·refine kq F (ah G e.b _) ?_
    (first|refine gq F (fun h1=>?_) (fun h1=>?_)|refine pq F (fun h1=>?_) (fun h1=>?_))<;>(try exact h1.elim)<;>(try refine sq F ?_)<;>(refine wk F ?_)
    ·refine kq F (hMom e.n _) ?_
     (first|refine gq F (fun h2=>?_) (fun h2=>?_)|refine pq F (fun h2=>?_) (fun h2=>?_))<;>(try exact h2.elim)<;>(try refine sq F ?_)<;>(refine wk F ?_)
     ·refine kq F (hPla e.s _) ?_
      (first|refine gq F (fun h3=>?_) (fun h3=>?_)|refine pq F (fun h3=>?_) (fun h3=>?_))<;>(try exact h3.elim)<;>(try refine sq F ?_)<;>(refine wk F ?_)
      ·refine kq F (hTit e.t _) ?_
       (first|refine gq F (fun h4=>?_) (fun h4=>?_)|refine pq F (fun h4=>?_) (fun h4=>?_))<;>(try exact h4.elim)<;>(try refine sq F ?_)<;>(refine wk F ?_)
       ·refine kq F (hLin e.u _) ?_
        refine ee hQ F ?_
        exact Fin.plain (.bool _) ⟨by simp[Leaf.right,k,h0,h1,h2,h3,h4],rfl⟩
       ·refine ee hQ F ?_
        exact Fin.plain (.bool _) ⟨by simp[Leaf.right,k,h0,h1,h2,h3,h4],rfl⟩
      ·refine ee hQ F ?_
       exact Fin.plain (.bool _) ⟨by simp[Leaf.right,k,h0,h1,h2,h3],rfl⟩
     ·refine ee hQ F ?_
      exact Fin.plain (.bool _) ⟨by simp[Leaf.right,k,h0,h1,h2],rfl⟩
    ·refine ee hQ F ?_
     exact Fin.plain (.bool _) ⟨by simp[Leaf.right,k,h0,h1],rfl⟩
   ·refine ee hQ F ?_
    exact Fin.plain (.bool _) ⟨by simp[Leaf.right,k,h0],rfl⟩
  ·refine kq F (ah G e.a _) ?_
   (first|refine gq F (fun h0=>?_) (fun h0=>?_)|refine pq F (fun h0=>?_) (fun h0=>?_))<;>(try exact h0.elim)<;>(try refine sq F ?_)<;>(refine wk F ?_)
   ·refine kq F (ah G e.b _) ?_
    (first|refine gq F (fun h1=>?_) (fun h1=>?_)|refine pq F (fun h1=>?_) (fun h1=>?_))<;>(try exact h1.elim)<;>(try refine sq F ?_)<;>(refine wk F ?_)
    ·refine kq F (hMom e.n _) ?_
     (first|refine gq F (fun h2=>?_) (fun h2=>?_)|refine pq F (fun h2=>?_) (fun h2=>?_))<;>(try exact h2.elim)<;>(try refine sq F ?_)<;>(refine wk F ?_)
     ·refine kq F (hPla e.s _) ?_
      (first|refine gq F (fun h3=>?_) (fun h3=>?_)|refine pq F (fun h3=>?_) (fun h3=>?_))<;>(try exact h3.elim)<;>(try refine sq F ?_)<;>(refine wk F ?_)
      ·refine kq F (hTit e.t _) ?_
       (first|refine gq F (fun h4=>?_) (fun h4=>?_)|refine pq F (fun h4=>?_) (fun h4=>?_))<;>(try exact h4.elim)<;>(try refine sq F ?_)<;>(refine wk F ?_)
       ·refine kq F (hLin e.u _) ?_
        refine ee hQ F ?_
        exact Fin.plain (.bool _) ⟨by simp[Leaf.right,k,h0,h1,h2,h3,h4],rfl⟩
       ·refine ee hQ F ?_
        exact Fin.plain (.bool _) ⟨by simp[Leaf.right,k,h0,h1,h2,h3,h4],rfl⟩
      ·refine ee hQ F ?_
       exact Fin.plain (.bool _) ⟨by simp[Leaf.right,k,h0,h1,h2,h3],rfl⟩
     ·refine ee hQ F ?_
      exact Fin.plain (.bool _) ⟨by simp[Leaf.right,k,h0,h1,h2],rfl⟩
    ·refine ee hQ F ?_
     exact Fin.plain (.bool _) ⟨by simp[Leaf.right,k,h0,h1],rfl⟩
   ·refine ee hQ F ?_
    exact Fin.plain (.bool _) ⟨by simp[Leaf.right,k,h0],rfl⟩
theorem tU(L:Leaf)(hLab:∀t h,Sat (CT G) 193 [.str t] h (fun r h'=>r=.bool (L.label t)∧h'=h))(hTit:∀t h,Sat (CT G) 195 [.str t] h (fun r h'=>r=.bool (L.title t)∧h'=h))
  (hLin:∀t h,Sat (CT G) 197 [.str t] h (fun r h'=>r=.bool (L.link t)∧h'=h))(hPla:∀t h,Sat (CT G) 194 [.str t] h (fun r h'=>r=.bool (L.place t)∧h'=h))(hTag:∀t h,Sat (CT G) 159 [.str t] h (fun r h'=>r=.bool (L.tag t)∧h'=h))
  (hQue:∀t h,Sat (CT G) 198 [.str t] h (fun r h'=>r=.bool (L.query t)∧h'=h))(hMom:∀t h,Sat (CT G) 196 [.int .i64 t] h (fun r h'=>r=.bool (L.moment t)∧h'=h))(e:Ev)(k:e.kind=8)(h:Heap):Sat (CT G) 148 [e.av] h (fun r h'=>r=.bool (L.right e)∧h'=h):=by
 have F:=k
 refine sb [.tmp 2] (fn:=Tryz.f148) Tryz.func148 ?_
 intro Q hQ
 refine wk F ?_
 (first|refine gq F (fun g1=>?_) (fun g1=>?_)|refine pq F (fun g1=>?_) (fun g1=>?_))<;>(try exact g1.elim)<;>(try refine sq F ?_)<;>(refine wk F ?_)
 ·(first|refine gq F (fun g2=>?_) (fun g2=>?_)|refine pq F (fun g2=>?_) (fun g2=>?_))<;>(try exact g2.elim)<;>(try refine sq F ?_)<;>(refine wk F ?_)
  ·refine kq F (ah G e.a _) ?_
   (first|refine gq F (fun h0=>?_) (fun h0=>?_)|refine pq F (fun h0=>?_) (fun h0=>?_))<;>(try exact h0.elim)<;>(try refine sq F ?_)<;>(refine wk F ?_)
   ·refine ee hQ F ?_
    exact Fin.plain (.bool _) ⟨by simp[Leaf.right,k,g2,h0],rfl⟩
   ·refine ee hQ F ?_
    exact Fin.plain (.bool _) ⟨by simp[Leaf.right,k,g2,h0],rfl⟩
  ·refine kq F (ah G e.a _) ?_
   (first|refine gq F (fun h0=>?_) (fun h0=>?_)|refine pq F (fun h0=>?_) (fun h0=>?_))<;>(try exact h0.elim)<;>(try refine sq F ?_)<;>(refine wk F ?_)
   ·refine ee hQ F ?_
    exact Fin.plain (.bool _) ⟨by simp[Leaf.right,k,g2,h0],rfl⟩
   ·refine ee hQ F ?_
    exact Fin.plain (.bool _) ⟨by simp[Leaf.right,k,g2,h0],rfl⟩
 ·refine kq F (ah G e.b _) ?_
  (first|refine gq F (fun g2=>?_) (fun g2=>?_)|refine pq F (fun g2=>?_) (fun g2=>?_))<;>(try exact g2.elim)<;>(try refine sq F ?_)<;>(refine wk F ?_)
  ·refine kq F (ah G e.a _) ?_
   (first|refine gq F (fun h0=>?_) (fun h0=>?_)|refine pq F (fun h0=>?_) (fun h0=>?_))<;>(try exact h0.elim)<;>(try refine sq F ?_)<;>(refine wk F ?_)
   ·refine ee hQ F ?_
    exact Fin.plain (.bool _) ⟨by simp[Leaf.right,k,g2,h0],rfl⟩
   ·refine ee hQ F ?_
    exact Fin.plain (.bool _) ⟨by simp[Leaf.right,k,g2,h0],rfl⟩
  ·refine kq F (ah G e.a _) ?_
   (first|refine gq F (fun h0=>?_) (fun h0=>?_)|refine pq F (fun h0=>?_) (fun h0=>?_))<;>(try exact h0.elim)<;>(try refine sq F ?_)<;>(refine wk F ?_)
   ·refine ee hQ F ?_
    exact Fin.plain (.bool _) ⟨by simp[Leaf.right,k,g2,h0],rfl⟩
   ·refine ee hQ F ?_
    exact Fin.plain (.bool _) ⟨by simp[Leaf.right,k,g2,h0],rfl⟩
theorem tV(L:Leaf)(hLab:∀t h,Sat (CT G) 193 [.str t] h (fun r h'=>r=.bool (L.label t)∧h'=h))(hTit:∀t h,Sat (CT G) 195 [.str t] h (fun r h'=>r=.bool (L.title t)∧h'=h))
  (hLin:∀t h,Sat (CT G) 197 [.str t] h (fun r h'=>r=.bool (L.link t)∧h'=h))(hPla:∀t h,Sat (CT G) 194 [.str t] h (fun r h'=>r=.bool (L.place t)∧h'=h))(hTag:∀t h,Sat (CT G) 159 [.str t] h (fun r h'=>r=.bool (L.tag t)∧h'=h))
  (hQue:∀t h,Sat (CT G) 198 [.str t] h (fun r h'=>r=.bool (L.query t)∧h'=h))(hMom:∀t h,Sat (CT G) 196 [.int .i64 t] h (fun r h'=>r=.bool (L.moment t)∧h'=h))(e:Ev)(k:e.kind=9)(h:Heap):Sat (CT G) 148 [e.av] h (fun r h'=>r=.bool (L.right e)∧h'=h):=by
 have F:=k
 refine sb [.tmp 2] (fn:=Tryz.f148) Tryz.func148 ?_
 intro Q hQ
 refine wk F ?_
 (first|refine gq F (fun g1=>?_) (fun g1=>?_)|refine pq F (fun g1=>?_) (fun g1=>?_))<;>(try exact g1.elim)<;>(try refine sq F ?_)<;>(refine wk F ?_)
 ·(first|refine gq F (fun g2=>?_) (fun g2=>?_)|refine pq F (fun g2=>?_) (fun g2=>?_))<;>(try exact g2.elim)<;>(try refine sq F ?_)<;>(refine wk F ?_)
  ·refine kq F (ah G e.a _) ?_
   (first|refine gq F (fun h0=>?_) (fun h0=>?_)|refine pq F (fun h0=>?_) (fun h0=>?_))<;>(try exact h0.elim)<;>(try refine sq F ?_)<;>(refine wk F ?_)
   ·refine ee hQ F ?_
    exact Fin.plain (.bool _) ⟨by simp[Leaf.right,k,g2,h0],rfl⟩
   ·refine ee hQ F ?_
    exact Fin.plain (.bool _) ⟨by simp[Leaf.right,k,g2,h0],rfl⟩
  ·refine kq F (ah G e.a _) ?_
   (first|refine gq F (fun h0=>?_) (fun h0=>?_)|refine pq F (fun h0=>?_) (fun h0=>?_))<;>(try exact h0.elim)<;>(try refine sq F ?_)<;>(refine wk F ?_)
   ·refine ee hQ F ?_
    exact Fin.plain (.bool _) ⟨by simp[Leaf.right,k,g2,h0],rfl⟩
   ·refine ee hQ F ?_
    exact Fin.plain (.bool _) ⟨by simp[Leaf.right,k,g2,h0],rfl⟩
 ·refine kq F (ah G e.b _) ?_
  (first|refine gq F (fun g2=>?_) (fun g2=>?_)|refine pq F (fun g2=>?_) (fun g2=>?_))<;>(try exact g2.elim)<;>(try refine sq F ?_)<;>(refine wk F ?_)
  ·refine kq F (ah G e.a _) ?_
   (first|refine gq F (fun h0=>?_) (fun h0=>?_)|refine pq F (fun h0=>?_) (fun h0=>?_))<;>(try exact h0.elim)<;>(try refine sq F ?_)<;>(refine wk F ?_)
   ·refine ee hQ F ?_
    exact Fin.plain (.bool _) ⟨by simp[Leaf.right,k,g2,h0],rfl⟩
   ·refine ee hQ F ?_
    exact Fin.plain (.bool _) ⟨by simp[Leaf.right,k,g2,h0],rfl⟩
  ·refine kq F (ah G e.a _) ?_
   (first|refine gq F (fun h0=>?_) (fun h0=>?_)|refine pq F (fun h0=>?_) (fun h0=>?_))<;>(try exact h0.elim)<;>(try refine sq F ?_)<;>(refine wk F ?_)
   ·refine ee hQ F ?_
    exact Fin.plain (.bool _) ⟨by simp[Leaf.right,k,g2,h0],rfl⟩
   ·refine ee hQ F ?_
    exact Fin.plain (.bool _) ⟨by simp[Leaf.right,k,g2,h0],rfl⟩
theorem r9(L:Leaf)(hLab:∀t h,Sat (CT G) 193 [.str t] h (fun r h'=>r=.bool (L.label t)∧h'=h))(hTit:∀t h,Sat (CT G) 195 [.str t] h (fun r h'=>r=.bool (L.title t)∧h'=h))
  (hLin:∀t h,Sat (CT G) 197 [.str t] h (fun r h'=>r=.bool (L.link t)∧h'=h))(hPla:∀t h,Sat (CT G) 194 [.str t] h (fun r h'=>r=.bool (L.place t)∧h'=h))(hTag:∀t h,Sat (CT G) 159 [.str t] h (fun r h'=>r=.bool (L.tag t)∧h'=h))
  (hQue:∀t h,Sat (CT G) 198 [.str t] h (fun r h'=>r=.bool (L.query t)∧h'=h))(hMom:∀t h,Sat (CT G) 196 [.int .i64 t] h (fun r h'=>r=.bool (L.moment t)∧h'=h))(e:Ev)(k:e.kind=10)(h:Heap):Sat (CT G) 148 [e.av] h (fun r h'=>r=.bool (L.right e)∧h'=h):=by
 have F:=k
 refine sb [.tmp 2] (fn:=Tryz.f148) Tryz.func148 ?_
 intro Q hQ
 refine wk F ?_
 (first|refine gq F (fun g1=>?_) (fun g1=>?_)|refine pq F (fun g1=>?_) (fun g1=>?_))<;>(try exact g1.elim)<;>(try refine sq F ?_)<;>(refine wk F ?_)
 ·(first|refine gq F (fun g2=>?_) (fun g2=>?_)|refine pq F (fun g2=>?_) (fun g2=>?_))<;>(try exact g2.elim)<;>(try refine sq F ?_)<;>(refine wk F ?_)
  ·refine kq F (ah G e.a _) ?_
   (first|refine gq F (fun h0=>?_) (fun h0=>?_)|refine pq F (fun h0=>?_) (fun h0=>?_))<;>(try exact h0.elim)<;>(try refine sq F ?_)<;>(refine wk F ?_)
   ·refine kq F (hTag e.s _) ?_
    refine ee hQ F ?_
    exact Fin.plain (.bool _) ⟨by simp[Leaf.right,k,g2,h0],rfl⟩
   ·refine ee hQ F ?_
    exact Fin.plain (.bool _) ⟨by simp[Leaf.right,k,g2,h0],rfl⟩
  ·refine kq F (ah G e.a _) ?_
   (first|refine gq F (fun h0=>?_) (fun h0=>?_)|refine pq F (fun h0=>?_) (fun h0=>?_))<;>(try exact h0.elim)<;>(try refine sq F ?_)<;>(refine wk F ?_)
   ·(first|refine gq F (fun h1=>?_) (fun h1=>?_)|refine pq F (fun h1=>?_) (fun h1=>?_))<;>(try exact h1.elim)<;>(try refine sq F ?_)<;>(refine wk F ?_)
    ·refine kq F (hTag e.s _) ?_
     refine ee hQ F ?_
     exact Fin.plain (.bool _) ⟨by simp[Leaf.right,k,g2,h0,h1],rfl⟩
    ·refine ee hQ F ?_
     exact Fin.plain (.bool _) ⟨by simp[Leaf.right,k,g2,h0,h1],rfl⟩
   ·refine ee hQ F ?_
    exact Fin.plain (.bool _) ⟨by simp[Leaf.right,k,g2,h0],rfl⟩
 ·refine kq F (ah G e.b _) ?_
  (first|refine gq F (fun g2=>?_) (fun g2=>?_)|refine pq F (fun g2=>?_) (fun g2=>?_))<;>(try exact g2.elim)<;>(try refine sq F ?_)<;>(refine wk F ?_)
  ·refine kq F (ah G e.a _) ?_
   (first|refine gq F (fun h0=>?_) (fun h0=>?_)|refine pq F (fun h0=>?_) (fun h0=>?_))<;>(try exact h0.elim)<;>(try refine sq F ?_)<;>(refine wk F ?_)
   ·refine kq F (hTag e.s _) ?_
    refine ee hQ F ?_
    exact Fin.plain (.bool _) ⟨by simp[Leaf.right,k,g2,h0],rfl⟩
   ·refine ee hQ F ?_
    exact Fin.plain (.bool _) ⟨by simp[Leaf.right,k,g2,h0],rfl⟩
  ·refine kq F (ah G e.a _) ?_
   (first|refine gq F (fun h0=>?_) (fun h0=>?_)|refine pq F (fun h0=>?_) (fun h0=>?_))<;>(try exact h0.elim)<;>(try refine sq F ?_)<;>(refine wk F ?_)
   ·(first|refine gq F (fun h1=>?_) (fun h1=>?_)|refine pq F (fun h1=>?_) (fun h1=>?_))<;>(try exact h1.elim)<;>(try refine sq F ?_)<;>(refine wk F ?_)
    ·refine kq F (hTag e.s _) ?_
     refine ee hQ F ?_
     exact Fin.plain (.bool _) ⟨by simp[Leaf.right,k,g2,h0,h1],rfl⟩
    ·refine ee hQ F ?_
     exact Fin.plain (.bool _) ⟨by simp[Leaf.right,k,g2,h0,h1],rfl⟩
   ·refine ee hQ F ?_
    exact Fin.plain (.bool _) ⟨by simp[Leaf.right,k,g2,h0],rfl⟩
theorem ra(L:Leaf)(hLab:∀t h,Sat (CT G) 193 [.str t] h (fun r h'=>r=.bool (L.label t)∧h'=h))(hTit:∀t h,Sat (CT G) 195 [.str t] h (fun r h'=>r=.bool (L.title t)∧h'=h))
  (hLin:∀t h,Sat (CT G) 197 [.str t] h (fun r h'=>r=.bool (L.link t)∧h'=h))(hPla:∀t h,Sat (CT G) 194 [.str t] h (fun r h'=>r=.bool (L.place t)∧h'=h))(hTag:∀t h,Sat (CT G) 159 [.str t] h (fun r h'=>r=.bool (L.tag t)∧h'=h))
  (hQue:∀t h,Sat (CT G) 198 [.str t] h (fun r h'=>r=.bool (L.query t)∧h'=h))(hMom:∀t h,Sat (CT G) 196 [.int .i64 t] h (fun r h'=>r=.bool (L.moment t)∧h'=h))(e:Ev)(k:e.kind=11)(h:Heap):Sat (CT G) 148 [e.av] h (fun r h'=>r=.bool (L.right e)∧h'=h):=by
 have F:=k
 refine sb [.tmp 2] (fn:=Tryz.f148) Tryz.func148 ?_
 intro Q hQ
 refine wk F ?_
 (first|refine gq F (fun g1=>?_) (fun g1=>?_)|refine pq F (fun g1=>?_) (fun g1=>?_))<;>(try exact g1.elim)<;>(try refine sq F ?_)<;>(refine wk F ?_)
 ·(first|refine gq F (fun g2=>?_) (fun g2=>?_)|refine pq F (fun g2=>?_) (fun g2=>?_))<;>(try exact g2.elim)<;>(try refine sq F ?_)<;>(refine wk F ?_)
  ·refine kq F (ah G e.a _) ?_
   (first|refine gq F (fun h0=>?_) (fun h0=>?_)|refine pq F (fun h0=>?_) (fun h0=>?_))<;>(try exact h0.elim)<;>(try refine sq F ?_)<;>(refine wk F ?_)
   ·refine kq F (hLab e.s _) ?_
    (first|refine gq F (fun h1=>?_) (fun h1=>?_)|refine pq F (fun h1=>?_) (fun h1=>?_))<;>(try exact h1.elim)<;>(try refine sq F ?_)<;>(refine wk F ?_)
    ·refine kq F (hQue e.t _) ?_
     refine ee hQ F ?_
     exact Fin.plain (.bool _) ⟨by simp[Leaf.right,k,h0,h1],rfl⟩
    ·refine ee hQ F ?_
     exact Fin.plain (.bool _) ⟨by simp[Leaf.right,k,h0,h1],rfl⟩
   ·refine ee hQ F ?_
    exact Fin.plain (.bool _) ⟨by simp[Leaf.right,k,h0],rfl⟩
  ·refine kq F (ah G e.a _) ?_
   (first|refine gq F (fun h0=>?_) (fun h0=>?_)|refine pq F (fun h0=>?_) (fun h0=>?_))<;>(try exact h0.elim)<;>(try refine sq F ?_)<;>(refine wk F ?_)
   ·refine kq F (hLab e.s _) ?_
    (first|refine gq F (fun h1=>?_) (fun h1=>?_)|refine pq F (fun h1=>?_) (fun h1=>?_))<;>(try exact h1.elim)<;>(try refine sq F ?_)<;>(refine wk F ?_)
    ·refine kq F (hQue e.t _) ?_
     refine ee hQ F ?_
     exact Fin.plain (.bool _) ⟨by simp[Leaf.right,k,h0,h1],rfl⟩
    ·refine ee hQ F ?_
     exact Fin.plain (.bool _) ⟨by simp[Leaf.right,k,h0,h1],rfl⟩
   ·refine ee hQ F ?_
    exact Fin.plain (.bool _) ⟨by simp[Leaf.right,k,h0],rfl⟩
 ·refine kq F (ah G e.b _) ?_
  (first|refine gq F (fun g2=>?_) (fun g2=>?_)|refine pq F (fun g2=>?_) (fun g2=>?_))<;>(try exact g2.elim)<;>(try refine sq F ?_)<;>(refine wk F ?_)
  ·refine kq F (ah G e.a _) ?_
   (first|refine gq F (fun h0=>?_) (fun h0=>?_)|refine pq F (fun h0=>?_) (fun h0=>?_))<;>(try exact h0.elim)<;>(try refine sq F ?_)<;>(refine wk F ?_)
   ·refine kq F (hLab e.s _) ?_
    (first|refine gq F (fun h1=>?_) (fun h1=>?_)|refine pq F (fun h1=>?_) (fun h1=>?_))<;>(try exact h1.elim)<;>(try refine sq F ?_)<;>(refine wk F ?_)
    ·refine kq F (hQue e.t _) ?_
     refine ee hQ F ?_
     exact Fin.plain (.bool _) ⟨by simp[Leaf.right,k,h0,h1],rfl⟩
    ·refine ee hQ F ?_
     exact Fin.plain (.bool _) ⟨by simp[Leaf.right,k,h0,h1],rfl⟩
   ·refine ee hQ F ?_
    exact Fin.plain (.bool _) ⟨by simp[Leaf.right,k,h0],rfl⟩
  ·refine kq F (ah G e.a _) ?_
   (first|refine gq F (fun h0=>?_) (fun h0=>?_)|refine pq F (fun h0=>?_) (fun h0=>?_))<;>(try exact h0.elim)<;>(try refine sq F ?_)<;>(refine wk F ?_)
   ·refine kq F (hLab e.s _) ?_
    (first|refine gq F (fun h1=>?_) (fun h1=>?_)|refine pq F (fun h1=>?_) (fun h1=>?_))<;>(try exact h1.elim)<;>(try refine sq F ?_)<;>(refine wk F ?_)
    ·refine kq F (hQue e.t _) ?_
     refine ee hQ F ?_
     exact Fin.plain (.bool _) ⟨by simp[Leaf.right,k,h0,h1],rfl⟩
    ·refine ee hQ F ?_
     exact Fin.plain (.bool _) ⟨by simp[Leaf.right,k,h0,h1],rfl⟩
   ·refine ee hQ F ?_
    exact Fin.plain (.bool _) ⟨by simp[Leaf.right,k,h0],rfl⟩
theorem rb(L:Leaf)(hLab:∀t h,Sat (CT G) 193 [.str t] h (fun r h'=>r=.bool (L.label t)∧h'=h))(hTit:∀t h,Sat (CT G) 195 [.str t] h (fun r h'=>r=.bool (L.title t)∧h'=h))
  (hLin:∀t h,Sat (CT G) 197 [.str t] h (fun r h'=>r=.bool (L.link t)∧h'=h))(hPla:∀t h,Sat (CT G) 194 [.str t] h (fun r h'=>r=.bool (L.place t)∧h'=h))(hTag:∀t h,Sat (CT G) 159 [.str t] h (fun r h'=>r=.bool (L.tag t)∧h'=h))
  (hQue:∀t h,Sat (CT G) 198 [.str t] h (fun r h'=>r=.bool (L.query t)∧h'=h))(hMom:∀t h,Sat (CT G) 196 [.int .i64 t] h (fun r h'=>r=.bool (L.moment t)∧h'=h))(e:Ev)(k:e.kind=13)(h:Heap):Sat (CT G) 148 [e.av] h (fun r h'=>r=.bool (L.right e)∧h'=h):=by
 have F:=k
 refine sb [.tmp 2] (fn:=Tryz.f148) Tryz.func148 ?_
 intro Q hQ
 refine wk F ?_
 (first|refine gq F (fun g1=>?_) (fun g1=>?_)|refine pq F (fun g1=>?_) (fun g1=>?_))<;>(try exact g1.elim)<;>(try refine sq F ?_)<;>(refine wk F ?_)
 ·(first|refine gq F (fun g2=>?_) (fun g2=>?_)|refine pq F (fun g2=>?_) (fun g2=>?_))<;>(try exact g2.elim)<;>(try refine sq F ?_)<;>(refine wk F ?_)
  ·refine kq F (hMom e.n _) ?_
   refine ee hQ F ?_
   exact Fin.plain (.bool _) ⟨by simp[Leaf.right,k],rfl⟩
  ·refine kq F (hMom e.n _) ?_
   refine ee hQ F ?_
   exact Fin.plain (.bool _) ⟨by simp[Leaf.right,k],rfl⟩
 ·refine kq F (ah G e.b _) ?_
  (first|refine gq F (fun g2=>?_) (fun g2=>?_)|refine pq F (fun g2=>?_) (fun g2=>?_))<;>(try exact g2.elim)<;>(try refine sq F ?_)<;>(refine wk F ?_)
  ·refine kq F (hMom e.n _) ?_
   refine ee hQ F ?_
   exact Fin.plain (.bool _) ⟨by simp[Leaf.right,k],rfl⟩
  ·refine kq F (hMom e.n _) ?_
   refine ee hQ F ?_
   exact Fin.plain (.bool _) ⟨by simp[Leaf.right,k],rfl⟩
theorem tW(L:Leaf)(hLab:∀t h,Sat (CT G) 193 [.str t] h (fun r h'=>r=.bool (L.label t)∧h'=h))(hTit:∀t h,Sat (CT G) 195 [.str t] h (fun r h'=>r=.bool (L.title t)∧h'=h))
  (hLin:∀t h,Sat (CT G) 197 [.str t] h (fun r h'=>r=.bool (L.link t)∧h'=h))(hPla:∀t h,Sat (CT G) 194 [.str t] h (fun r h'=>r=.bool (L.place t)∧h'=h))(hTag:∀t h,Sat (CT G) 159 [.str t] h (fun r h'=>r=.bool (L.tag t)∧h'=h))
  (hQue:∀t h,Sat (CT G) 198 [.str t] h (fun r h'=>r=.bool (L.query t)∧h'=h))(hMom:∀t h,Sat (CT G) 196 [.int .i64 t] h (fun r h'=>r=.bool (L.moment t)∧h'=h))(e:Ev)(m1:¬e.kind=1)(m2:¬e.kind=2)(m4:¬e.kind=4)(m12:¬e.kind=12)(m3:¬e.kind=3)(m5:¬e.kind=5)(m6:¬e.kind=6)(m7:¬e.kind=7)(m8:¬e.kind=8)(m9:¬e.kind=9)(m10:¬e.kind=10)(m11:¬e.kind=11)(m13:¬e.kind=13)(h:Heap):Sat (CT G) 148 [e.av] h (fun r h'=>r=.bool (L.right e)∧h'=h):=by
 have n1:(e.kind==1)=false:=by simp[m1]
 have n2:(e.kind==2)=false:=by simp[m2]
 have n4:(e.kind==4)=false:=by simp[m4]
 have n12:(e.kind==12)=false:=by simp[m12]
 have n3:(e.kind==3)=false:=by simp[m3]
 have n5:(e.kind==5)=false:=by simp[m5]
 have n6:(e.kind==6)=false:=by simp[m6]
 have n7:(e.kind==7)=false:=by simp[m7]
 have n8:(e.kind==8)=false:=by simp[m8]
 have n9:(e.kind==9)=false:=by simp[m9]
 have n10:(e.kind==10)=false:=by simp[m10]
 have n11:(e.kind==11)=false:=by simp[m11]
 have n13:(e.kind==13)=false:=by simp[m13]
 have F:=F2 (F9 n1 n2 n4 n12 n3 n5 n6 n7 n8) (F4 n9 n10 n11 n13)
 refine sb [.tmp 2] (fn:=Tryz.f148) Tryz.func148 ?_
 intro Q hQ
 refine wk F ?_
 (first|refine gq F (fun g1=>?_) (fun g1=>?_)|refine pq F (fun g1=>?_) (fun g1=>?_))<;>(try exact g1.elim)<;>(try refine sq F ?_)<;>(refine wk F ?_)
 ·(first|refine gq F (fun g2=>?_) (fun g2=>?_)|refine pq F (fun g2=>?_) (fun g2=>?_))<;>(try exact g2.elim)<;>(try refine sq F ?_)<;>(refine wk F ?_)
  ·refine ee hQ F ?_
   exact Fin.plain (.bool _) ⟨by simp[Leaf.right,m1,m2,m4,m12,m3,m5,m6,m7,m8,m9,m10,m11,m13],rfl⟩
  ·refine ee hQ F ?_
   exact Fin.plain (.bool _) ⟨by simp[Leaf.right,m1,m2,m4,m12,m3,m5,m6,m7,m8,m9,m10,m11,m13],rfl⟩
 ·refine kq F (ah G e.b _) ?_
  (first|refine gq F (fun g2=>?_) (fun g2=>?_)|refine pq F (fun g2=>?_) (fun g2=>?_))<;>(try exact g2.elim)<;>(try refine sq F ?_)<;>(refine wk F ?_)
  ·refine ee hQ F ?_
   exact Fin.plain (.bool _) ⟨by simp[Leaf.right,m1,m2,m4,m12,m3,m5,m6,m7,m8,m9,m10,m11,m13],rfl⟩
  ·refine ee hQ F ?_
   exact Fin.plain (.bool _) ⟨by simp[Leaf.right,m1,m2,m4,m12,m3,m5,m6,m7,m8,m9,m10,m11,m13],rfl⟩
theorem mU(L:Leaf)(hLab:∀t h,Sat (CT G) 193 [.str t] h (fun r h'=>r=.bool (L.label t)∧h'=h))(hTit:∀t h,Sat (CT G) 195 [.str t] h (fun r h'=>r=.bool (L.title t)∧h'=h))
  (hLin:∀t h,Sat (CT G) 197 [.str t] h (fun r h'=>r=.bool (L.link t)∧h'=h))(hPla:∀t h,Sat (CT G) 194 [.str t] h (fun r h'=>r=.bool (L.place t)∧h'=h))(hTag:∀t h,Sat (CT G) 159 [.str t] h (fun r h'=>r=.bool (L.tag t)∧h'=h))
  (hQue:∀t h,Sat (CT G) 198 [.str t] h (fun r h'=>r=.bool (L.query t)∧h'=h))(hMom:∀t h,Sat (CT G) 196 [.int .i64 t] h (fun r h'=>r=.bool (L.moment t)∧h'=h))(e:Ev)(h:Heap):Sat (CT G) 148 [e.av] h (fun r h'=>r=.bool (L.right e)∧h'=h):=by
 by_cases m1:e.kind=1
 ·exact tN G L hLab hTit hLin hPla hTag hQue hMom e m1 h
 by_cases m2:e.kind=2
 ·exact tO G L hLab hTit hLin hPla hTag hQue hMom e m2 h
 by_cases m4:e.kind=4
 ·exact tP G L hLab hTit hLin hPla hTag hQue hMom e m4 h
 by_cases m12:e.kind=12
 ·exact r8 G L hLab hTit hLin hPla hTag hQue hMom e m12 h
 by_cases m3:e.kind=3
 ·exact tQ G L hLab hTit hLin hPla hTag hQue hMom e m3 h
 by_cases m5:e.kind=5
 ·exact tR G L hLab hTit hLin hPla hTag hQue hMom e m5 h
 by_cases m6:e.kind=6
 ·exact tS G L hLab hTit hLin hPla hTag hQue hMom e m6 h
 by_cases m7:e.kind=7
 ·exact tT G L hLab hTit hLin hPla hTag hQue hMom e m7 h
 by_cases m8:e.kind=8
 ·exact tU G L hLab hTit hLin hPla hTag hQue hMom e m8 h
 by_cases m9:e.kind=9
 ·exact tV G L hLab hTit hLin hPla hTag hQue hMom e m9 h
 by_cases m10:e.kind=10
 ·exact r9 G L hLab hTit hLin hPla hTag hQue hMom e m10 h
 by_cases m11:e.kind=11
 ·exact ra G L hLab hTit hLin hPla hTag hQue hMom e m11 h
 by_cases m13:e.kind=13
 ·exact rb G L hLab hTit hLin hPla hTag hQue hMom e m13 h
 exact tW G L hLab hTit hLin hPla hTag hQue hMom e m1 m2 m4 m12 m3 m5 m6 m7 m8 m9 m10 m11 m13 h
end Go.Av
