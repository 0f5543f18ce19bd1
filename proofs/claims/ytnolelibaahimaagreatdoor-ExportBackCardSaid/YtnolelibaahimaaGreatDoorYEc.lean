/- Parts. -/
import Derived.Test.YtnolelibaahimaaGreatDoorYEb
set_option linter.unusedSimpArgs false
set_option linter.unusedVariables false
set_option linter.unusedSectionVars false
set_option linter.unnecessarySimpa false
set_option maxRecDepth 100000
set_option maxHeartbeats 16000000
namespace Go.Av
open Go Go.Proofs Go.RowKit
attribute [local irreducible] WP WPl WPix Sat
variable (G:Nat→Option (List AVal))
theorem qz(L:Leaf)(hl:∀t h,Sat (CT G) 158 [.str t] h (fun r h'=>r=.bool (L.link t)∧h'=h))(t:Bs)(h:Heap):Sat (CT G) 155 [.str t] h (fun r h'=>r=.bool (L.place t)∧h'=h):=by
 cases k1:(t==[])with
 |true=>
  have k2:(t != [])=false:=by simpa using k1
  have F:=F2 k1 k2;refine sb [.tmp 2] Tryz.func155 ?_;intro Q hQ;refine wk F ?_;refine ee hQ F ?_;exact S6 (.bool _) ⟨by simp[Leaf.place,k1],rfl⟩
 |false=>
  have k2:(t != [])=true:=by simpa using k1
  have F:=F2 k1 k2;refine sb [.tmp 2] Tryz.func155 ?_;intro Q hQ;refine wk F ?_;refine kq F (hl t _) ?_;refine ee hQ F ?_;exact S6 (.bool _) ⟨by simp[Leaf.place,k1],rfl⟩
theorem xN(L:Leaf)(hLab:∀t h,Sat (CT G) 154 [.str t] h (fun r h'=>r=.bool (L.label t)∧h'=h))(hTit:∀t h,Sat (CT G) 156 [.str t] h (fun r h'=>r=.bool (L.title t)∧h'=h))
  (hLin:∀t h,Sat (CT G) 158 [.str t] h (fun r h'=>r=.bool (L.link t)∧h'=h))(hPla:∀t h,Sat (CT G) 155 [.str t] h (fun r h'=>r=.bool (L.place t)∧h'=h))(hTag:∀t h,Sat (CT G) 159 [.str t] h (fun r h'=>r=.bool (L.tag t)∧h'=h))
  (hQue:∀t h,Sat (CT G) 160 [.str t] h (fun r h'=>r=.bool (L.query t)∧h'=h))(hMom:∀t h,Sat (CT G) 157 [.int .i64 t] h (fun r h'=>r=.bool (L.moment t)∧h'=h))(e:Ev)(k:e.kind=1)(h:Heap):Sat (CT G) 114 [e.av] h (fun r h'=>r=.bool (L.right e)∧h'=h):=by
 have F:=k;refine sb [.tmp 2] Tryz.func114 ?_;intro Q hQ;refine wk F ?_;(first|refine gq F (fun g1=>?_) (fun g1=>?_)|refine pq F (fun g1=>?_) (fun g1=>?_))<;>(try exact g1.elim)<;>(try refine sq F ?_)<;>(refine wk F ?_)
 ·(first|refine gq F (fun g2=>?_) (fun g2=>?_)|refine pq F (fun g2=>?_) (fun g2=>?_))<;>(try exact g2.elim)<;>(try refine sq F ?_)<;>(refine wk F ?_)
  ·refine kq F (ah G e.a _) ?_;(first|refine gq F (fun h0=>?_) (fun h0=>?_)|refine pq F (fun h0=>?_) (fun h0=>?_))<;>(try exact h0.elim)<;>(try refine sq F ?_)<;>(refine wk F ?_)
   ·refine kq F (hLab e.s _) ?_;refine ee hQ F ?_;exact N2 (.bool _) ⟨by simp[Leaf.right,k,g1,h0],rfl⟩
   ·refine ee hQ F ?_;exact N2 (.bool _) ⟨by simp[Leaf.right,k,g1,h0],rfl⟩
  ·refine kq F (ah G e.a _) ?_;(first|refine gq F (fun h0=>?_) (fun h0=>?_)|refine pq F (fun h0=>?_) (fun h0=>?_))<;>(try exact h0.elim)<;>(try refine sq F ?_)<;>(refine wk F ?_)
   ·refine kq F (hLab e.s _) ?_;refine ee hQ F ?_;exact N2 (.bool _) ⟨by simp[Leaf.right,k,g1,h0],rfl⟩
   ·refine ee hQ F ?_;exact N2 (.bool _) ⟨by simp[Leaf.right,k,g1,h0],rfl⟩
 ·refine kq F (ah G e.b _) ?_;(first|refine gq F (fun g2=>?_) (fun g2=>?_)|refine pq F (fun g2=>?_) (fun g2=>?_))<;>(try exact g2.elim)<;>(try refine sq F ?_)<;>(refine wk F ?_)
  ·refine kq F (ah G e.a _) ?_;(first|refine gq F (fun h0=>?_) (fun h0=>?_)|refine pq F (fun h0=>?_) (fun h0=>?_))<;>(try exact h0.elim)<;>(try refine sq F ?_)<;>(refine wk F ?_)
   ·(first|refine gq F (fun h1=>?_) (fun h1=>?_)|refine pq F (fun h1=>?_) (fun h1=>?_))<;>(try exact h1.elim)<;>(try refine sq F ?_)<;>(refine wk F ?_)
    ·refine kq F (hLab e.s _) ?_;refine ee hQ F ?_;exact N2 (.bool _) ⟨by simp[Leaf.right,k,g1,h0,h1],rfl⟩
    ·refine ee hQ F ?_;exact N2 (.bool _) ⟨by simp[Leaf.right,k,g1,h0,h1],rfl⟩
   ·refine ee hQ F ?_;exact N2 (.bool _) ⟨by simp[Leaf.right,k,g1,h0],rfl⟩
  ·refine kq F (ah G e.a _) ?_;(first|refine gq F (fun h0=>?_) (fun h0=>?_)|refine pq F (fun h0=>?_) (fun h0=>?_))<;>(try exact h0.elim)<;>(try refine sq F ?_)<;>(refine wk F ?_)
   ·(first|refine gq F (fun h1=>?_) (fun h1=>?_)|refine pq F (fun h1=>?_) (fun h1=>?_))<;>(try exact h1.elim)<;>(try refine sq F ?_)<;>(refine wk F ?_)
    ·refine kq F (hLab e.s _) ?_;refine ee hQ F ?_;exact N2 (.bool _) ⟨by simp[Leaf.right,k,g1,h0,h1],rfl⟩
    ·refine ee hQ F ?_;exact N2 (.bool _) ⟨by simp[Leaf.right,k,g1,h0,h1],rfl⟩
   ·refine ee hQ F ?_;exact N2 (.bool _) ⟨by simp[Leaf.right,k,g1,h0],rfl⟩
theorem xO(L:Leaf)(hLab:∀t h,Sat (CT G) 154 [.str t] h (fun r h'=>r=.bool (L.label t)∧h'=h))(hTit:∀t h,Sat (CT G) 156 [.str t] h (fun r h'=>r=.bool (L.title t)∧h'=h))
  (hLin:∀t h,Sat (CT G) 158 [.str t] h (fun r h'=>r=.bool (L.link t)∧h'=h))(hPla:∀t h,Sat (CT G) 155 [.str t] h (fun r h'=>r=.bool (L.place t)∧h'=h))(hTag:∀t h,Sat (CT G) 159 [.str t] h (fun r h'=>r=.bool (L.tag t)∧h'=h))
  (hQue:∀t h,Sat (CT G) 160 [.str t] h (fun r h'=>r=.bool (L.query t)∧h'=h))(hMom:∀t h,Sat (CT G) 157 [.int .i64 t] h (fun r h'=>r=.bool (L.moment t)∧h'=h))(e:Ev)(k:e.kind=2)(h:Heap):Sat (CT G) 114 [e.av] h (fun r h'=>r=.bool (L.right e)∧h'=h):=by
 have F:=k;refine sb [.tmp 2] Tryz.func114 ?_;intro Q hQ;refine wk F ?_;(first|refine gq F (fun g1=>?_) (fun g1=>?_)|refine pq F (fun g1=>?_) (fun g1=>?_))<;>(try exact g1.elim)<;>(try refine sq F ?_)<;>(refine wk F ?_)
 ·(first|refine gq F (fun g2=>?_) (fun g2=>?_)|refine pq F (fun g2=>?_) (fun g2=>?_))<;>(try exact g2.elim)<;>(try refine sq F ?_)<;>(refine wk F ?_)
  ·refine kq F (ah G e.a _) ?_;refine ee hQ F ?_;exact N2 (.bool _) ⟨by simp[Leaf.right,k],rfl⟩
  ·refine kq F (ah G e.a _) ?_;refine ee hQ F ?_;exact N2 (.bool _) ⟨by simp[Leaf.right,k],rfl⟩
 ·refine kq F (ah G e.b _) ?_;(first|refine gq F (fun g2=>?_) (fun g2=>?_)|refine pq F (fun g2=>?_) (fun g2=>?_))<;>(try exact g2.elim)<;>(try refine sq F ?_)<;>(refine wk F ?_)
  ·refine kq F (ah G e.a _) ?_;refine ee hQ F ?_;exact N2 (.bool _) ⟨by simp[Leaf.right,k],rfl⟩
  ·refine kq F (ah G e.a _) ?_;refine ee hQ F ?_;exact N2 (.bool _) ⟨by simp[Leaf.right,k],rfl⟩
theorem xP(L:Leaf)(hLab:∀t h,Sat (CT G) 154 [.str t] h (fun r h'=>r=.bool (L.label t)∧h'=h))(hTit:∀t h,Sat (CT G) 156 [.str t] h (fun r h'=>r=.bool (L.title t)∧h'=h))
  (hLin:∀t h,Sat (CT G) 158 [.str t] h (fun r h'=>r=.bool (L.link t)∧h'=h))(hPla:∀t h,Sat (CT G) 155 [.str t] h (fun r h'=>r=.bool (L.place t)∧h'=h))(hTag:∀t h,Sat (CT G) 159 [.str t] h (fun r h'=>r=.bool (L.tag t)∧h'=h))
  (hQue:∀t h,Sat (CT G) 160 [.str t] h (fun r h'=>r=.bool (L.query t)∧h'=h))(hMom:∀t h,Sat (CT G) 157 [.int .i64 t] h (fun r h'=>r=.bool (L.moment t)∧h'=h))(e:Ev)(k:e.kind=4)(h:Heap):Sat (CT G) 114 [e.av] h (fun r h'=>r=.bool (L.right e)∧h'=h):=by
 have F:=k;refine sb [.tmp 2] Tryz.func114 ?_;intro Q hQ;refine wk F ?_;(first|refine gq F (fun g1=>?_) (fun g1=>?_)|refine pq F (fun g1=>?_) (fun g1=>?_))<;>(try exact g1.elim)<;>(try refine sq F ?_)<;>(refine wk F ?_)
 ·(first|refine gq F (fun g2=>?_) (fun g2=>?_)|refine pq F (fun g2=>?_) (fun g2=>?_))<;>(try exact g2.elim)<;>(try refine sq F ?_)<;>(refine wk F ?_)
  ·refine kq F (ah G e.a _) ?_;refine ee hQ F ?_;exact N2 (.bool _) ⟨by simp[Leaf.right,k],rfl⟩
  ·refine kq F (ah G e.a _) ?_;refine ee hQ F ?_;exact N2 (.bool _) ⟨by simp[Leaf.right,k],rfl⟩
 ·refine kq F (ah G e.b _) ?_;(first|refine gq F (fun g2=>?_) (fun g2=>?_)|refine pq F (fun g2=>?_) (fun g2=>?_))<;>(try exact g2.elim)<;>(try refine sq F ?_)<;>(refine wk F ?_)
  ·refine kq F (ah G e.a _) ?_;refine ee hQ F ?_;exact N2 (.bool _) ⟨by simp[Leaf.right,k],rfl⟩
  ·refine kq F (ah G e.a _) ?_;refine ee hQ F ?_;exact N2 (.bool _) ⟨by simp[Leaf.right,k],rfl⟩
theorem vh(L:Leaf)(hLab:∀t h,Sat (CT G) 154 [.str t] h (fun r h'=>r=.bool (L.label t)∧h'=h))(hTit:∀t h,Sat (CT G) 156 [.str t] h (fun r h'=>r=.bool (L.title t)∧h'=h))
  (hLin:∀t h,Sat (CT G) 158 [.str t] h (fun r h'=>r=.bool (L.link t)∧h'=h))(hPla:∀t h,Sat (CT G) 155 [.str t] h (fun r h'=>r=.bool (L.place t)∧h'=h))(hTag:∀t h,Sat (CT G) 159 [.str t] h (fun r h'=>r=.bool (L.tag t)∧h'=h))
  (hQue:∀t h,Sat (CT G) 160 [.str t] h (fun r h'=>r=.bool (L.query t)∧h'=h))(hMom:∀t h,Sat (CT G) 157 [.int .i64 t] h (fun r h'=>r=.bool (L.moment t)∧h'=h))(e:Ev)(k:e.kind=12)(h:Heap):Sat (CT G) 114 [e.av] h (fun r h'=>r=.bool (L.right e)∧h'=h):=by
 have F:=k;refine sb [.tmp 2] Tryz.func114 ?_;intro Q hQ;refine wk F ?_;(first|refine gq F (fun g1=>?_) (fun g1=>?_)|refine pq F (fun g1=>?_) (fun g1=>?_))<;>(try exact g1.elim)<;>(try refine sq F ?_)<;>(refine wk F ?_)
 ·(first|refine gq F (fun g2=>?_) (fun g2=>?_)|refine pq F (fun g2=>?_) (fun g2=>?_))<;>(try exact g2.elim)<;>(try refine sq F ?_)<;>(refine wk F ?_)
  ·refine kq F (ah G e.a _) ?_;refine ee hQ F ?_;exact N2 (.bool _) ⟨by simp[Leaf.right,k],rfl⟩
  ·refine kq F (ah G e.a _) ?_;refine ee hQ F ?_;exact N2 (.bool _) ⟨by simp[Leaf.right,k],rfl⟩
 ·refine kq F (ah G e.b _) ?_;(first|refine gq F (fun g2=>?_) (fun g2=>?_)|refine pq F (fun g2=>?_) (fun g2=>?_))<;>(try exact g2.elim)<;>(try refine sq F ?_)<;>(refine wk F ?_)
  ·refine kq F (ah G e.a _) ?_;refine ee hQ F ?_;exact N2 (.bool _) ⟨by simp[Leaf.right,k],rfl⟩
  ·refine kq F (ah G e.a _) ?_;refine ee hQ F ?_;exact N2 (.bool _) ⟨by simp[Leaf.right,k],rfl⟩
theorem xQ(L:Leaf)(hLab:∀t h,Sat (CT G) 154 [.str t] h (fun r h'=>r=.bool (L.label t)∧h'=h))(hTit:∀t h,Sat (CT G) 156 [.str t] h (fun r h'=>r=.bool (L.title t)∧h'=h))
  (hLin:∀t h,Sat (CT G) 158 [.str t] h (fun r h'=>r=.bool (L.link t)∧h'=h))(hPla:∀t h,Sat (CT G) 155 [.str t] h (fun r h'=>r=.bool (L.place t)∧h'=h))(hTag:∀t h,Sat (CT G) 159 [.str t] h (fun r h'=>r=.bool (L.tag t)∧h'=h))
  (hQue:∀t h,Sat (CT G) 160 [.str t] h (fun r h'=>r=.bool (L.query t)∧h'=h))(hMom:∀t h,Sat (CT G) 157 [.int .i64 t] h (fun r h'=>r=.bool (L.moment t)∧h'=h))(e:Ev)(k:e.kind=3)(h:Heap):Sat (CT G) 114 [e.av] h (fun r h'=>r=.bool (L.right e)∧h'=h):=by
 have F:=k;refine sb [.tmp 2] Tryz.func114 ?_;intro Q hQ;refine wk F ?_;(first|refine gq F (fun g1=>?_) (fun g1=>?_)|refine pq F (fun g1=>?_) (fun g1=>?_))<;>(try exact g1.elim)<;>(try refine sq F ?_)<;>(refine wk F ?_)
 ·(first|refine gq F (fun g2=>?_) (fun g2=>?_)|refine pq F (fun g2=>?_) (fun g2=>?_))<;>(try exact g2.elim)<;>(try refine sq F ?_)<;>(refine wk F ?_)
  ·refine kq F (ah G e.a _) ?_;(first|refine gq F (fun h0=>?_) (fun h0=>?_)|refine pq F (fun h0=>?_) (fun h0=>?_))<;>(try exact h0.elim)<;>(try refine sq F ?_)<;>(refine wk F ?_)
   ·refine kq F (hPla e.s _) ?_;(first|refine gq F (fun h2=>?_) (fun h2=>?_)|refine pq F (fun h2=>?_) (fun h2=>?_))<;>(try exact h2.elim)<;>(try refine sq F ?_)<;>(refine wk F ?_)
    ·refine kq F (hTit e.t _) ?_;refine ee hQ F ?_;exact N2 (.bool _) ⟨by simp[Leaf.right,k,g1,h0,h2],rfl⟩
    ·refine ee hQ F ?_;exact N2 (.bool _) ⟨by simp[Leaf.right,k,g1,h0,h2],rfl⟩
   ·refine ee hQ F ?_;exact N2 (.bool _) ⟨by simp[Leaf.right,k,g1,h0],rfl⟩
  ·refine kq F (ah G e.a _) ?_;(first|refine gq F (fun h0=>?_) (fun h0=>?_)|refine pq F (fun h0=>?_) (fun h0=>?_))<;>(try exact h0.elim)<;>(try refine sq F ?_)<;>(refine wk F ?_)
   ·refine kq F (hPla e.s _) ?_;(first|refine gq F (fun h2=>?_) (fun h2=>?_)|refine pq F (fun h2=>?_) (fun h2=>?_))<;>(try exact h2.elim)<;>(try refine sq F ?_)<;>(refine wk F ?_)
    ·refine kq F (hTit e.t _) ?_;refine ee hQ F ?_;exact N2 (.bool _) ⟨by simp[Leaf.right,k,g1,h0,h2],rfl⟩
    ·refine ee hQ F ?_;exact N2 (.bool _) ⟨by simp[Leaf.right,k,g1,h0,h2],rfl⟩
   ·refine ee hQ F ?_;exact N2 (.bool _) ⟨by simp[Leaf.right,k,g1,h0],rfl⟩
 ·refine kq F (ah G e.b _) ?_;(first|refine gq F (fun g2=>?_) (fun g2=>?_)|refine pq F (fun g2=>?_) (fun g2=>?_))<;>(try exact g2.elim)<;>(try refine sq F ?_)<;>(refine wk F ?_)
  ·refine kq F (ah G e.a _) ?_;(first|refine gq F (fun h0=>?_) (fun h0=>?_)|refine pq F (fun h0=>?_) (fun h0=>?_))<;>(try exact h0.elim)<;>(try refine sq F ?_)<;>(refine wk F ?_)
   ·(first|refine gq F (fun h1=>?_) (fun h1=>?_)|refine pq F (fun h1=>?_) (fun h1=>?_))<;>(try exact h1.elim)<;>(try refine sq F ?_)<;>(refine wk F ?_)
    ·refine kq F (hPla e.s _) ?_;(first|refine gq F (fun h2=>?_) (fun h2=>?_)|refine pq F (fun h2=>?_) (fun h2=>?_))<;>(try exact h2.elim)<;>(try refine sq F ?_)<;>(refine wk F ?_)
     ·refine kq F (hTit e.t _) ?_;refine ee hQ F ?_;exact N2 (.bool _) ⟨by simp[Leaf.right,k,g1,h0,h1,h2],rfl⟩
     ·refine ee hQ F ?_;exact N2 (.bool _) ⟨by simp[Leaf.right,k,g1,h0,h1,h2],rfl⟩
    ·refine ee hQ F ?_;exact N2 (.bool _) ⟨by simp[Leaf.right,k,g1,h0,h1],rfl⟩
   ·refine ee hQ F ?_;exact N2 (.bool _) ⟨by simp[Leaf.right,k,g1,h0],rfl⟩
  ·refine kq F (ah G e.a _) ?_;(first|refine gq F (fun h0=>?_) (fun h0=>?_)|refine pq F (fun h0=>?_) (fun h0=>?_))<;>(try exact h0.elim)<;>(try refine sq F ?_)<;>(refine wk F ?_)
   ·(first|refine gq F (fun h1=>?_) (fun h1=>?_)|refine pq F (fun h1=>?_) (fun h1=>?_))<;>(try exact h1.elim)<;>(try refine sq F ?_)<;>(refine wk F ?_)
    ·refine kq F (hPla e.s _) ?_;(first|refine gq F (fun h2=>?_) (fun h2=>?_)|refine pq F (fun h2=>?_) (fun h2=>?_))<;>(try exact h2.elim)<;>(try refine sq F ?_)<;>(refine wk F ?_)
     ·refine kq F (hTit e.t _) ?_;refine ee hQ F ?_;exact N2 (.bool _) ⟨by simp[Leaf.right,k,g1,h0,h1,h2],rfl⟩
     ·refine ee hQ F ?_;exact N2 (.bool _) ⟨by simp[Leaf.right,k,g1,h0,h1,h2],rfl⟩
    ·refine ee hQ F ?_;exact N2 (.bool _) ⟨by simp[Leaf.right,k,g1,h0,h1],rfl⟩
   ·refine ee hQ F ?_;exact N2 (.bool _) ⟨by simp[Leaf.right,k,g1,h0],rfl⟩
theorem xR(L:Leaf)(hLab:∀t h,Sat (CT G) 154 [.str t] h (fun r h'=>r=.bool (L.label t)∧h'=h))(hTit:∀t h,Sat (CT G) 156 [.str t] h (fun r h'=>r=.bool (L.title t)∧h'=h))
  (hLin:∀t h,Sat (CT G) 158 [.str t] h (fun r h'=>r=.bool (L.link t)∧h'=h))(hPla:∀t h,Sat (CT G) 155 [.str t] h (fun r h'=>r=.bool (L.place t)∧h'=h))(hTag:∀t h,Sat (CT G) 159 [.str t] h (fun r h'=>r=.bool (L.tag t)∧h'=h))
  (hQue:∀t h,Sat (CT G) 160 [.str t] h (fun r h'=>r=.bool (L.query t)∧h'=h))(hMom:∀t h,Sat (CT G) 157 [.int .i64 t] h (fun r h'=>r=.bool (L.moment t)∧h'=h))(e:Ev)(k:e.kind=5)(h:Heap):Sat (CT G) 114 [e.av] h (fun r h'=>r=.bool (L.right e)∧h'=h):=by
 have F:=k;refine sb [.tmp 2] Tryz.func114 ?_;intro Q hQ;refine wk F ?_;(first|refine gq F (fun g1=>?_) (fun g1=>?_)|refine pq F (fun g1=>?_) (fun g1=>?_))<;>(try exact g1.elim)<;>(try refine sq F ?_)<;>(refine wk F ?_)
 ·(first|refine gq F (fun g2=>?_) (fun g2=>?_)|refine pq F (fun g2=>?_) (fun g2=>?_))<;>(try exact g2.elim)<;>(try refine sq F ?_)<;>(refine wk F ?_)
  ·refine kq F (ah G e.a _) ?_;(first|refine gq F (fun h0=>?_) (fun h0=>?_)|refine pq F (fun h0=>?_) (fun h0=>?_))<;>(try exact h0.elim)<;>(try refine sq F ?_)<;>(refine wk F ?_)
   ·refine kq F (hTit e.t _) ?_;refine ee hQ F ?_;exact N2 (.bool _) ⟨by simp[Leaf.right,k,h0],rfl⟩
   ·refine ee hQ F ?_;exact N2 (.bool _) ⟨by simp[Leaf.right,k,h0],rfl⟩
  ·refine kq F (ah G e.a _) ?_;(first|refine gq F (fun h0=>?_) (fun h0=>?_)|refine pq F (fun h0=>?_) (fun h0=>?_))<;>(try exact h0.elim)<;>(try refine sq F ?_)<;>(refine wk F ?_)
   ·refine kq F (hTit e.t _) ?_;refine ee hQ F ?_;exact N2 (.bool _) ⟨by simp[Leaf.right,k,h0],rfl⟩
   ·refine ee hQ F ?_;exact N2 (.bool _) ⟨by simp[Leaf.right,k,h0],rfl⟩
 ·refine kq F (ah G e.b _) ?_;(first|refine gq F (fun g2=>?_) (fun g2=>?_)|refine pq F (fun g2=>?_) (fun g2=>?_))<;>(try exact g2.elim)<;>(try refine sq F ?_)<;>(refine wk F ?_)
  ·refine kq F (ah G e.a _) ?_;(first|refine gq F (fun h0=>?_) (fun h0=>?_)|refine pq F (fun h0=>?_) (fun h0=>?_))<;>(try exact h0.elim)<;>(try refine sq F ?_)<;>(refine wk F ?_)
   ·refine kq F (hTit e.t _) ?_;refine ee hQ F ?_;exact N2 (.bool _) ⟨by simp[Leaf.right,k,h0],rfl⟩
   ·refine ee hQ F ?_;exact N2 (.bool _) ⟨by simp[Leaf.right,k,h0],rfl⟩
  ·refine kq F (ah G e.a _) ?_;(first|refine gq F (fun h0=>?_) (fun h0=>?_)|refine pq F (fun h0=>?_) (fun h0=>?_))<;>(try exact h0.elim)<;>(try refine sq F ?_)<;>(refine wk F ?_)
   ·refine kq F (hTit e.t _) ?_;refine ee hQ F ?_;exact N2 (.bool _) ⟨by simp[Leaf.right,k,h0],rfl⟩
   ·refine ee hQ F ?_;exact N2 (.bool _) ⟨by simp[Leaf.right,k,h0],rfl⟩
theorem xS(L:Leaf)(hLab:∀t h,Sat (CT G) 154 [.str t] h (fun r h'=>r=.bool (L.label t)∧h'=h))(hTit:∀t h,Sat (CT G) 156 [.str t] h (fun r h'=>r=.bool (L.title t)∧h'=h))
  (hLin:∀t h,Sat (CT G) 158 [.str t] h (fun r h'=>r=.bool (L.link t)∧h'=h))(hPla:∀t h,Sat (CT G) 155 [.str t] h (fun r h'=>r=.bool (L.place t)∧h'=h))(hTag:∀t h,Sat (CT G) 159 [.str t] h (fun r h'=>r=.bool (L.tag t)∧h'=h))
  (hQue:∀t h,Sat (CT G) 160 [.str t] h (fun r h'=>r=.bool (L.query t)∧h'=h))(hMom:∀t h,Sat (CT G) 157 [.int .i64 t] h (fun r h'=>r=.bool (L.moment t)∧h'=h))(e:Ev)(k:e.kind=6)(h:Heap):Sat (CT G) 114 [e.av] h (fun r h'=>r=.bool (L.right e)∧h'=h):=by
 have F:=k;refine sb [.tmp 2] Tryz.func114 ?_;intro Q hQ;refine wk F ?_;(first|refine gq F (fun g1=>?_) (fun g1=>?_)|refine pq F (fun g1=>?_) (fun g1=>?_))<;>(try exact g1.elim)<;>(try refine sq F ?_)<;>(refine wk F ?_)
 ·(first|refine gq F (fun g2=>?_) (fun g2=>?_)|refine pq F (fun g2=>?_) (fun g2=>?_))<;>(try exact g2.elim)<;>(try refine sq F ?_)<;>(refine wk F ?_)
  ·refine kq F (ah G e.a _) ?_;(first|refine gq F (fun h0=>?_) (fun h0=>?_)|refine pq F (fun h0=>?_) (fun h0=>?_))<;>(try exact h0.elim)<;>(try refine sq F ?_)<;>(refine wk F ?_)
   ·refine ee hQ F ?_;exact N2 (.bool _) ⟨by simp[Leaf.right,k,g1,h0],rfl⟩
   ·refine ee hQ F ?_;exact N2 (.bool _) ⟨by simp[Leaf.right,k,g1,h0],rfl⟩
  ·refine kq F (ah G e.a _) ?_;(first|refine gq F (fun h0=>?_) (fun h0=>?_)|refine pq F (fun h0=>?_) (fun h0=>?_))<;>(try exact h0.elim)<;>(try refine sq F ?_)<;>(refine wk F ?_)
   ·refine ee hQ F ?_;exact N2 (.bool _) ⟨by simp[Leaf.right,k,g1,h0],rfl⟩
   ·refine ee hQ F ?_;exact N2 (.bool _) ⟨by simp[Leaf.right,k,g1,h0],rfl⟩
 ·refine kq F (ah G e.b _) ?_;(first|refine gq F (fun g2=>?_) (fun g2=>?_)|refine pq F (fun g2=>?_) (fun g2=>?_))<;>(try exact g2.elim)<;>(try refine sq F ?_)<;>(refine wk F ?_)
  ·refine kq F (ah G e.a _) ?_;(first|refine gq F (fun h0=>?_) (fun h0=>?_)|refine pq F (fun h0=>?_) (fun h0=>?_))<;>(try exact h0.elim)<;>(try refine sq F ?_)<;>(refine wk F ?_)
   ·refine ee hQ F ?_;exact N2 (.bool _) ⟨by simp[Leaf.right,k,g1,h0],rfl⟩
   ·refine ee hQ F ?_;exact N2 (.bool _) ⟨by simp[Leaf.right,k,g1,h0],rfl⟩
  ·refine kq F (ah G e.a _) ?_;(first|refine gq F (fun h0=>?_) (fun h0=>?_)|refine pq F (fun h0=>?_) (fun h0=>?_))<;>(try exact h0.elim)<;>(try refine sq F ?_)<;>(refine wk F ?_)
   ·refine ee hQ F ?_;exact N2 (.bool _) ⟨by simp[Leaf.right,k,g1,h0],rfl⟩
   ·refine ee hQ F ?_;exact N2 (.bool _) ⟨by simp[Leaf.right,k,g1,h0],rfl⟩
theorem xT(L:Leaf)(hLab:∀t h,Sat (CT G) 154 [.str t] h (fun r h'=>r=.bool (L.label t)∧h'=h))(hTit:∀t h,Sat (CT G) 156 [.str t] h (fun r h'=>r=.bool (L.title t)∧h'=h))
  (hLin:∀t h,Sat (CT G) 158 [.str t] h (fun r h'=>r=.bool (L.link t)∧h'=h))(hPla:∀t h,Sat (CT G) 155 [.str t] h (fun r h'=>r=.bool (L.place t)∧h'=h))(hTag:∀t h,Sat (CT G) 159 [.str t] h (fun r h'=>r=.bool (L.tag t)∧h'=h))
  (hQue:∀t h,Sat (CT G) 160 [.str t] h (fun r h'=>r=.bool (L.query t)∧h'=h))(hMom:∀t h,Sat (CT G) 157 [.int .i64 t] h (fun r h'=>r=.bool (L.moment t)∧h'=h))(e:Ev)(k:e.kind=7)(h:Heap):Sat (CT G) 114 [e.av] h (fun r h'=>r=.bool (L.right e)∧h'=h):=by
 have F:=k;refine sb [.tmp 2] Tryz.func114 ?_;intro Q hQ;refine wk F ?_;(first|refine gq F (fun g1=>?_) (fun g1=>?_)|refine pq F (fun g1=>?_) (fun g1=>?_))<;>(try exact g1.elim)<;>(try refine sq F ?_)<;>(refine wk F ?_)
 ·(first|refine gq F (fun g2=>?_) (fun g2=>?_)|refine pq F (fun g2=>?_) (fun g2=>?_))<;>(try exact g2.elim)<;>(try refine sq F ?_)<;>(refine wk F ?_)
  ·refine kq F (ah G e.a _) ?_;(first|refine gq F (fun h0=>?_) (fun h0=>?_)|refine pq F (fun h0=>?_) (fun h0=>?_))<;>(try exact h0.elim)<;>(try refine sq F ?_)<;>(refine wk F ?_)
   ·refine kq F (ah G e.b _) ?_;(first|refine gq F (fun h1=>?_) (fun h1=>?_)|refine pq F (fun h1=>?_) (fun h1=>?_))<;>(try exact h1.elim)<;>(try refine sq F ?_)<;>(refine wk F ?_)
    ·refine kq F (hMom e.n _) ?_;(first|refine gq F (fun h2=>?_) (fun h2=>?_)|refine pq F (fun h2=>?_) (fun h2=>?_))<;>(try exact h2.elim)<;>(try refine sq F ?_)<;>(refine wk F ?_)
     ·refine kq F (hPla e.s _) ?_;(first|refine gq F (fun h3=>?_) (fun h3=>?_)|refine pq F (fun h3=>?_) (fun h3=>?_))<;>(try exact h3.elim)<;>(try refine sq F ?_)<;>(refine wk F ?_)
      ·refine kq F (hTit e.t _) ?_;(first|refine gq F (fun h4=>?_) (fun h4=>?_)|refine pq F (fun h4=>?_) (fun h4=>?_))<;>(try exact h4.elim)<;>(try refine sq F ?_)<;>(refine wk F ?_)
       ·refine kq F (hLin e.u _) ?_;refine ee hQ F ?_;exact N2 (.bool _) ⟨by simp[Leaf.right,k,h0,h1,h2,h3,h4],rfl⟩
       ·refine ee hQ F ?_;exact N2 (.bool _) ⟨by simp[Leaf.right,k,h0,h1,h2,h3,h4],rfl⟩
      ·refine ee hQ F ?_;exact N2 (.bool _) ⟨by simp[Leaf.right,k,h0,h1,h2,h3],rfl⟩
     ·refine ee hQ F ?_;exact N2 (.bool _) ⟨by simp[Leaf.right,k,h0,h1,h2],rfl⟩
    ·refine ee hQ F ?_;exact N2 (.bool _) ⟨by simp[Leaf.right,k,h0,h1],rfl⟩
   ·refine ee hQ F ?_;exact N2 (.bool _) ⟨by simp[Leaf.right,k,h0],rfl⟩
  ·refine kq F (ah G e.a _) ?_;(first|refine gq F (fun h0=>?_) (fun h0=>?_)|refine pq F (fun h0=>?_) (fun h0=>?_))<;>(try exact h0.elim)<;>(try refine sq F ?_)<;>(refine wk F ?_)
   ·refine kq F (ah G e.b _) ?_;(first|refine gq F (fun h1=>?_) (fun h1=>?_)|refine pq F (fun h1=>?_) (fun h1=>?_))<;>(try exact h1.elim)<;>(try refine sq F ?_)<;>(refine wk F ?_)
    ·refine kq F (hMom e.n _) ?_;(first|refine gq F (fun h2=>?_) (fun h2=>?_)|refine pq F (fun h2=>?_) (fun h2=>?_))<;>(try exact h2.elim)<;>(try refine sq F ?_)<;>(refine wk F ?_)
     ·refine kq F (hPla e.s _) ?_;(first|refine gq F (fun h3=>?_) (fun h3=>?_)|refine pq F (fun h3=>?_) (fun h3=>?_))<;>(try exact h3.elim)<;>(try refine sq F ?_)<;>(refine wk F ?_)
      ·refine kq F (hTit e.t _) ?_;(first|refine gq F (fun h4=>?_) (fun h4=>?_)|refine pq F (fun h4=>?_) (fun h4=>?_))<;>(try exact h4.elim)<;>(try refine sq F ?_)<;>(refine wk F ?_)
       ·refine kq F (hLin e.u _) ?_;refine ee hQ F ?_;exact N2 (.bool _) ⟨by simp[Leaf.right,k,h0,h1,h2,h3,h4],rfl⟩
       ·refine ee hQ F ?_;exact N2 (.bool _) ⟨by simp[Leaf.right,k,h0,h1,h2,h3,h4],rfl⟩
      ·refine ee hQ F ?_;exact N2 (.bool _) ⟨by simp[Leaf.right,k,h0,h1,h2,h3],rfl⟩
     ·refine ee hQ F ?_;exact N2 (.bool _) ⟨by simp[Leaf.right,k,h0,h1,h2],rfl⟩
    ·refine ee hQ F ?_;exact N2 (.bool _) ⟨by simp[Leaf.right,k,h0,h1],rfl⟩
   ·refine ee hQ F ?_;exact N2 (.bool _) ⟨by simp[Leaf.right,k,h0],rfl⟩
 ·refine kq F (ah G e.b _) ?_;(first|refine gq F (fun g2=>?_) (fun g2=>?_)|refine pq F (fun g2=>?_) (fun g2=>?_))<;>(try exact g2.elim)<;>(try refine sq F ?_)<;>(refine wk F ?_)
  ·refine kq F (ah G e.a _) ?_;(first|refine gq F (fun h0=>?_) (fun h0=>?_)|refine pq F (fun h0=>?_) (fun h0=>?_))<;>(try exact h0.elim)<;>(try refine sq F ?_)<;>(refine wk F ?_)
   ·refine kq F (ah G e.b _) ?_;(first|refine gq F (fun h1=>?_) (fun h1=>?_)|refine pq F (fun h1=>?_) (fun h1=>?_))<;>(try exact h1.elim)<;>(try refine sq F ?_)<;>(refine wk F ?_)
    ·refine kq F (hMom e.n _) ?_;(first|refine gq F (fun h2=>?_) (fun h2=>?_)|refine pq F (fun h2=>?_) (fun h2=>?_))<;>(try exact h2.elim)<;>(try refine sq F ?_)<;>(refine wk F ?_)
     ·refine kq F (hPla e.s _) ?_;(first|refine gq F (fun h3=>?_) (fun h3=>?_)|refine pq F (fun h3=>?_) (fun h3=>?_))<;>(try exact h3.elim)<;>(try refine sq F ?_)<;>(refine wk F ?_)
      ·refine kq F (hTit e.t _) ?_;(first|refine gq F (fun h4=>?_) (fun h4=>?_)|refine pq F (fun h4=>?_) (fun h4=>?_))<;>(try exact h4.elim)<;>(try refine sq F ?_)<;>(refine wk F ?_)
       ·refine kq F (hLin e.u _) ?_;refine ee hQ F ?_;exact N2 (.bool _) ⟨by simp[Leaf.right,k,h0,h1,h2,h3,h4],rfl⟩
       ·refine ee hQ F ?_;exact N2 (.bool _) ⟨by simp[Leaf.right,k,h0,h1,h2,h3,h4],rfl⟩
      ·refine ee hQ F ?_;exact N2 (.bool _) ⟨by simp[Leaf.right,k,h0,h1,h2,h3],rfl⟩
     ·refine ee hQ F ?_;exact N2 (.bool _) ⟨by simp[Leaf.right,k,h0,h1,h2],rfl⟩
    ·refine ee hQ F ?_;exact N2 (.bool _) ⟨by simp[Leaf.right,k,h0,h1],rfl⟩
   ·refine ee hQ F ?_;exact N2 (.bool _) ⟨by simp[Leaf.right,k,h0],rfl⟩
  ·refine kq F (ah G e.a _) ?_;(first|refine gq F (fun h0=>?_) (fun h0=>?_)|refine pq F (fun h0=>?_) (fun h0=>?_))<;>(try exact h0.elim)<;>(try refine sq F ?_)<;>(refine wk F ?_)
   ·refine kq F (ah G e.b _) ?_;(first|refine gq F (fun h1=>?_) (fun h1=>?_)|refine pq F (fun h1=>?_) (fun h1=>?_))<;>(try exact h1.elim)<;>(try refine sq F ?_)<;>(refine wk F ?_)
    ·refine kq F (hMom e.n _) ?_;(first|refine gq F (fun h2=>?_) (fun h2=>?_)|refine pq F (fun h2=>?_) (fun h2=>?_))<;>(try exact h2.elim)<;>(try refine sq F ?_)<;>(refine wk F ?_)
     ·refine kq F (hPla e.s _) ?_;(first|refine gq F (fun h3=>?_) (fun h3=>?_)|refine pq F (fun h3=>?_) (fun h3=>?_))<;>(try exact h3.elim)<;>(try refine sq F ?_)<;>(refine wk F ?_)
      ·refine kq F (hTit e.t _) ?_;(first|refine gq F (fun h4=>?_) (fun h4=>?_)|refine pq F (fun h4=>?_) (fun h4=>?_))<;>(try exact h4.elim)<;>(try refine sq F ?_)<;>(refine wk F ?_)
       ·refine kq F (hLin e.u _) ?_;refine ee hQ F ?_;exact N2 (.bool _) ⟨by simp[Leaf.right,k,h0,h1,h2,h3,h4],rfl⟩
       ·refine ee hQ F ?_;exact N2 (.bool _) ⟨by simp[Leaf.right,k,h0,h1,h2,h3,h4],rfl⟩
      ·refine ee hQ F ?_;exact N2 (.bool _) ⟨by simp[Leaf.right,k,h0,h1,h2,h3],rfl⟩
     ·refine ee hQ F ?_;exact N2 (.bool _) ⟨by simp[Leaf.right,k,h0,h1,h2],rfl⟩
    ·refine ee hQ F ?_;exact N2 (.bool _) ⟨by simp[Leaf.right,k,h0,h1],rfl⟩
   ·refine ee hQ F ?_;exact N2 (.bool _) ⟨by simp[Leaf.right,k,h0],rfl⟩
theorem xU(L:Leaf)(hLab:∀t h,Sat (CT G) 154 [.str t] h (fun r h'=>r=.bool (L.label t)∧h'=h))(hTit:∀t h,Sat (CT G) 156 [.str t] h (fun r h'=>r=.bool (L.title t)∧h'=h))
  (hLin:∀t h,Sat (CT G) 158 [.str t] h (fun r h'=>r=.bool (L.link t)∧h'=h))(hPla:∀t h,Sat (CT G) 155 [.str t] h (fun r h'=>r=.bool (L.place t)∧h'=h))(hTag:∀t h,Sat (CT G) 159 [.str t] h (fun r h'=>r=.bool (L.tag t)∧h'=h))
  (hQue:∀t h,Sat (CT G) 160 [.str t] h (fun r h'=>r=.bool (L.query t)∧h'=h))(hMom:∀t h,Sat (CT G) 157 [.int .i64 t] h (fun r h'=>r=.bool (L.moment t)∧h'=h))(e:Ev)(k:e.kind=8)(h:Heap):Sat (CT G) 114 [e.av] h (fun r h'=>r=.bool (L.right e)∧h'=h):=by
 have F:=k;refine sb [.tmp 2] Tryz.func114 ?_;intro Q hQ;refine wk F ?_;(first|refine gq F (fun g1=>?_) (fun g1=>?_)|refine pq F (fun g1=>?_) (fun g1=>?_))<;>(try exact g1.elim)<;>(try refine sq F ?_)<;>(refine wk F ?_)
 ·(first|refine gq F (fun g2=>?_) (fun g2=>?_)|refine pq F (fun g2=>?_) (fun g2=>?_))<;>(try exact g2.elim)<;>(try refine sq F ?_)<;>(refine wk F ?_)
  ·refine kq F (ah G e.a _) ?_;(first|refine gq F (fun h0=>?_) (fun h0=>?_)|refine pq F (fun h0=>?_) (fun h0=>?_))<;>(try exact h0.elim)<;>(try refine sq F ?_)<;>(refine wk F ?_)
   ·refine ee hQ F ?_;exact N2 (.bool _) ⟨by simp[Leaf.right,k,g2,h0],rfl⟩
   ·refine ee hQ F ?_;exact N2 (.bool _) ⟨by simp[Leaf.right,k,g2,h0],rfl⟩
  ·refine kq F (ah G e.a _) ?_;(first|refine gq F (fun h0=>?_) (fun h0=>?_)|refine pq F (fun h0=>?_) (fun h0=>?_))<;>(try exact h0.elim)<;>(try refine sq F ?_)<;>(refine wk F ?_)
   ·refine ee hQ F ?_;exact N2 (.bool _) ⟨by simp[Leaf.right,k,g2,h0],rfl⟩
   ·refine ee hQ F ?_;exact N2 (.bool _) ⟨by simp[Leaf.right,k,g2,h0],rfl⟩
 ·refine kq F (ah G e.b _) ?_;(first|refine gq F (fun g2=>?_) (fun g2=>?_)|refine pq F (fun g2=>?_) (fun g2=>?_))<;>(try exact g2.elim)<;>(try refine sq F ?_)<;>(refine wk F ?_)
  ·refine kq F (ah G e.a _) ?_;(first|refine gq F (fun h0=>?_) (fun h0=>?_)|refine pq F (fun h0=>?_) (fun h0=>?_))<;>(try exact h0.elim)<;>(try refine sq F ?_)<;>(refine wk F ?_)
   ·refine ee hQ F ?_;exact N2 (.bool _) ⟨by simp[Leaf.right,k,g2,h0],rfl⟩
   ·refine ee hQ F ?_;exact N2 (.bool _) ⟨by simp[Leaf.right,k,g2,h0],rfl⟩
  ·refine kq F (ah G e.a _) ?_;(first|refine gq F (fun h0=>?_) (fun h0=>?_)|refine pq F (fun h0=>?_) (fun h0=>?_))<;>(try exact h0.elim)<;>(try refine sq F ?_)<;>(refine wk F ?_)
   ·refine ee hQ F ?_;exact N2 (.bool _) ⟨by simp[Leaf.right,k,g2,h0],rfl⟩
   ·refine ee hQ F ?_;exact N2 (.bool _) ⟨by simp[Leaf.right,k,g2,h0],rfl⟩
theorem xV(L:Leaf)(hLab:∀t h,Sat (CT G) 154 [.str t] h (fun r h'=>r=.bool (L.label t)∧h'=h))(hTit:∀t h,Sat (CT G) 156 [.str t] h (fun r h'=>r=.bool (L.title t)∧h'=h))
  (hLin:∀t h,Sat (CT G) 158 [.str t] h (fun r h'=>r=.bool (L.link t)∧h'=h))(hPla:∀t h,Sat (CT G) 155 [.str t] h (fun r h'=>r=.bool (L.place t)∧h'=h))(hTag:∀t h,Sat (CT G) 159 [.str t] h (fun r h'=>r=.bool (L.tag t)∧h'=h))
  (hQue:∀t h,Sat (CT G) 160 [.str t] h (fun r h'=>r=.bool (L.query t)∧h'=h))(hMom:∀t h,Sat (CT G) 157 [.int .i64 t] h (fun r h'=>r=.bool (L.moment t)∧h'=h))(e:Ev)(k:e.kind=9)(h:Heap):Sat (CT G) 114 [e.av] h (fun r h'=>r=.bool (L.right e)∧h'=h):=by
 have F:=k;refine sb [.tmp 2] Tryz.func114 ?_;intro Q hQ;refine wk F ?_;(first|refine gq F (fun g1=>?_) (fun g1=>?_)|refine pq F (fun g1=>?_) (fun g1=>?_))<;>(try exact g1.elim)<;>(try refine sq F ?_)<;>(refine wk F ?_)
 ·(first|refine gq F (fun g2=>?_) (fun g2=>?_)|refine pq F (fun g2=>?_) (fun g2=>?_))<;>(try exact g2.elim)<;>(try refine sq F ?_)<;>(refine wk F ?_)
  ·refine kq F (ah G e.a _) ?_;(first|refine gq F (fun h0=>?_) (fun h0=>?_)|refine pq F (fun h0=>?_) (fun h0=>?_))<;>(try exact h0.elim)<;>(try refine sq F ?_)<;>(refine wk F ?_)
   ·refine ee hQ F ?_;exact N2 (.bool _) ⟨by simp[Leaf.right,k,g2,h0],rfl⟩
   ·refine ee hQ F ?_;exact N2 (.bool _) ⟨by simp[Leaf.right,k,g2,h0],rfl⟩
  ·refine kq F (ah G e.a _) ?_;(first|refine gq F (fun h0=>?_) (fun h0=>?_)|refine pq F (fun h0=>?_) (fun h0=>?_))<;>(try exact h0.elim)<;>(try refine sq F ?_)<;>(refine wk F ?_)
   ·refine ee hQ F ?_;exact N2 (.bool _) ⟨by simp[Leaf.right,k,g2,h0],rfl⟩
   ·refine ee hQ F ?_;exact N2 (.bool _) ⟨by simp[Leaf.right,k,g2,h0],rfl⟩
 ·refine kq F (ah G e.b _) ?_;(first|refine gq F (fun g2=>?_) (fun g2=>?_)|refine pq F (fun g2=>?_) (fun g2=>?_))<;>(try exact g2.elim)<;>(try refine sq F ?_)<;>(refine wk F ?_)
  ·refine kq F (ah G e.a _) ?_;(first|refine gq F (fun h0=>?_) (fun h0=>?_)|refine pq F (fun h0=>?_) (fun h0=>?_))<;>(try exact h0.elim)<;>(try refine sq F ?_)<;>(refine wk F ?_)
   ·refine ee hQ F ?_;exact N2 (.bool _) ⟨by simp[Leaf.right,k,g2,h0],rfl⟩
   ·refine ee hQ F ?_;exact N2 (.bool _) ⟨by simp[Leaf.right,k,g2,h0],rfl⟩
  ·refine kq F (ah G e.a _) ?_;(first|refine gq F (fun h0=>?_) (fun h0=>?_)|refine pq F (fun h0=>?_) (fun h0=>?_))<;>(try exact h0.elim)<;>(try refine sq F ?_)<;>(refine wk F ?_)
   ·refine ee hQ F ?_;exact N2 (.bool _) ⟨by simp[Leaf.right,k,g2,h0],rfl⟩
   ·refine ee hQ F ?_;exact N2 (.bool _) ⟨by simp[Leaf.right,k,g2,h0],rfl⟩
theorem vj(L:Leaf)(hLab:∀t h,Sat (CT G) 154 [.str t] h (fun r h'=>r=.bool (L.label t)∧h'=h))(hTit:∀t h,Sat (CT G) 156 [.str t] h (fun r h'=>r=.bool (L.title t)∧h'=h))
  (hLin:∀t h,Sat (CT G) 158 [.str t] h (fun r h'=>r=.bool (L.link t)∧h'=h))(hPla:∀t h,Sat (CT G) 155 [.str t] h (fun r h'=>r=.bool (L.place t)∧h'=h))(hTag:∀t h,Sat (CT G) 159 [.str t] h (fun r h'=>r=.bool (L.tag t)∧h'=h))
  (hQue:∀t h,Sat (CT G) 160 [.str t] h (fun r h'=>r=.bool (L.query t)∧h'=h))(hMom:∀t h,Sat (CT G) 157 [.int .i64 t] h (fun r h'=>r=.bool (L.moment t)∧h'=h))(e:Ev)(k:e.kind=10)(h:Heap):Sat (CT G) 114 [e.av] h (fun r h'=>r=.bool (L.right e)∧h'=h):=by
 have F:=k;refine sb [.tmp 2] Tryz.func114 ?_;intro Q hQ;refine wk F ?_;(first|refine gq F (fun g1=>?_) (fun g1=>?_)|refine pq F (fun g1=>?_) (fun g1=>?_))<;>(try exact g1.elim)<;>(try refine sq F ?_)<;>(refine wk F ?_)
 ·(first|refine gq F (fun g2=>?_) (fun g2=>?_)|refine pq F (fun g2=>?_) (fun g2=>?_))<;>(try exact g2.elim)<;>(try refine sq F ?_)<;>(refine wk F ?_)
  ·refine kq F (ah G e.a _) ?_;(first|refine gq F (fun h0=>?_) (fun h0=>?_)|refine pq F (fun h0=>?_) (fun h0=>?_))<;>(try exact h0.elim)<;>(try refine sq F ?_)<;>(refine wk F ?_)
   ·refine kq F (hTag e.s _) ?_;refine ee hQ F ?_;exact N2 (.bool _) ⟨by simp[Leaf.right,k,g2,h0],rfl⟩
   ·refine ee hQ F ?_;exact N2 (.bool _) ⟨by simp[Leaf.right,k,g2,h0],rfl⟩
  ·refine kq F (ah G e.a _) ?_;(first|refine gq F (fun h0=>?_) (fun h0=>?_)|refine pq F (fun h0=>?_) (fun h0=>?_))<;>(try exact h0.elim)<;>(try refine sq F ?_)<;>(refine wk F ?_)
   ·(first|refine gq F (fun h1=>?_) (fun h1=>?_)|refine pq F (fun h1=>?_) (fun h1=>?_))<;>(try exact h1.elim)<;>(try refine sq F ?_)<;>(refine wk F ?_)
    ·refine kq F (hTag e.s _) ?_;refine ee hQ F ?_;exact N2 (.bool _) ⟨by simp[Leaf.right,k,g2,h0,h1],rfl⟩
    ·refine ee hQ F ?_;exact N2 (.bool _) ⟨by simp[Leaf.right,k,g2,h0,h1],rfl⟩
   ·refine ee hQ F ?_;exact N2 (.bool _) ⟨by simp[Leaf.right,k,g2,h0],rfl⟩
 ·refine kq F (ah G e.b _) ?_;(first|refine gq F (fun g2=>?_) (fun g2=>?_)|refine pq F (fun g2=>?_) (fun g2=>?_))<;>(try exact g2.elim)<;>(try refine sq F ?_)<;>(refine wk F ?_)
  ·refine kq F (ah G e.a _) ?_;(first|refine gq F (fun h0=>?_) (fun h0=>?_)|refine pq F (fun h0=>?_) (fun h0=>?_))<;>(try exact h0.elim)<;>(try refine sq F ?_)<;>(refine wk F ?_)
   ·refine kq F (hTag e.s _) ?_;refine ee hQ F ?_;exact N2 (.bool _) ⟨by simp[Leaf.right,k,g2,h0],rfl⟩
   ·refine ee hQ F ?_;exact N2 (.bool _) ⟨by simp[Leaf.right,k,g2,h0],rfl⟩
  ·refine kq F (ah G e.a _) ?_;(first|refine gq F (fun h0=>?_) (fun h0=>?_)|refine pq F (fun h0=>?_) (fun h0=>?_))<;>(try exact h0.elim)<;>(try refine sq F ?_)<;>(refine wk F ?_)
   ·(first|refine gq F (fun h1=>?_) (fun h1=>?_)|refine pq F (fun h1=>?_) (fun h1=>?_))<;>(try exact h1.elim)<;>(try refine sq F ?_)<;>(refine wk F ?_)
    ·refine kq F (hTag e.s _) ?_;refine ee hQ F ?_;exact N2 (.bool _) ⟨by simp[Leaf.right,k,g2,h0,h1],rfl⟩
    ·refine ee hQ F ?_;exact N2 (.bool _) ⟨by simp[Leaf.right,k,g2,h0,h1],rfl⟩
   ·refine ee hQ F ?_;exact N2 (.bool _) ⟨by simp[Leaf.right,k,g2,h0],rfl⟩
theorem vk(L:Leaf)(hLab:∀t h,Sat (CT G) 154 [.str t] h (fun r h'=>r=.bool (L.label t)∧h'=h))(hTit:∀t h,Sat (CT G) 156 [.str t] h (fun r h'=>r=.bool (L.title t)∧h'=h))
  (hLin:∀t h,Sat (CT G) 158 [.str t] h (fun r h'=>r=.bool (L.link t)∧h'=h))(hPla:∀t h,Sat (CT G) 155 [.str t] h (fun r h'=>r=.bool (L.place t)∧h'=h))(hTag:∀t h,Sat (CT G) 159 [.str t] h (fun r h'=>r=.bool (L.tag t)∧h'=h))
  (hQue:∀t h,Sat (CT G) 160 [.str t] h (fun r h'=>r=.bool (L.query t)∧h'=h))(hMom:∀t h,Sat (CT G) 157 [.int .i64 t] h (fun r h'=>r=.bool (L.moment t)∧h'=h))(e:Ev)(k:e.kind=11)(h:Heap):Sat (CT G) 114 [e.av] h (fun r h'=>r=.bool (L.right e)∧h'=h):=by
 have F:=k;refine sb [.tmp 2] Tryz.func114 ?_;intro Q hQ;refine wk F ?_;(first|refine gq F (fun g1=>?_) (fun g1=>?_)|refine pq F (fun g1=>?_) (fun g1=>?_))<;>(try exact g1.elim)<;>(try refine sq F ?_)<;>(refine wk F ?_)
 ·(first|refine gq F (fun g2=>?_) (fun g2=>?_)|refine pq F (fun g2=>?_) (fun g2=>?_))<;>(try exact g2.elim)<;>(try refine sq F ?_)<;>(refine wk F ?_)
  ·refine kq F (ah G e.a _) ?_;(first|refine gq F (fun h0=>?_) (fun h0=>?_)|refine pq F (fun h0=>?_) (fun h0=>?_))<;>(try exact h0.elim)<;>(try refine sq F ?_)<;>(refine wk F ?_)
   ·refine kq F (hLab e.s _) ?_;(first|refine gq F (fun h1=>?_) (fun h1=>?_)|refine pq F (fun h1=>?_) (fun h1=>?_))<;>(try exact h1.elim)<;>(try refine sq F ?_)<;>(refine wk F ?_)
    ·refine kq F (hQue e.t _) ?_;refine ee hQ F ?_;exact N2 (.bool _) ⟨by simp[Leaf.right,k,h0,h1],rfl⟩
    ·refine ee hQ F ?_;exact N2 (.bool _) ⟨by simp[Leaf.right,k,h0,h1],rfl⟩
   ·refine ee hQ F ?_;exact N2 (.bool _) ⟨by simp[Leaf.right,k,h0],rfl⟩
  ·refine kq F (ah G e.a _) ?_;(first|refine gq F (fun h0=>?_) (fun h0=>?_)|refine pq F (fun h0=>?_) (fun h0=>?_))<;>(try exact h0.elim)<;>(try refine sq F ?_)<;>(refine wk F ?_)
   ·refine kq F (hLab e.s _) ?_;(first|refine gq F (fun h1=>?_) (fun h1=>?_)|refine pq F (fun h1=>?_) (fun h1=>?_))<;>(try exact h1.elim)<;>(try refine sq F ?_)<;>(refine wk F ?_)
    ·refine kq F (hQue e.t _) ?_;refine ee hQ F ?_;exact N2 (.bool _) ⟨by simp[Leaf.right,k,h0,h1],rfl⟩
    ·refine ee hQ F ?_;exact N2 (.bool _) ⟨by simp[Leaf.right,k,h0,h1],rfl⟩
   ·refine ee hQ F ?_;exact N2 (.bool _) ⟨by simp[Leaf.right,k,h0],rfl⟩
 ·refine kq F (ah G e.b _) ?_;(first|refine gq F (fun g2=>?_) (fun g2=>?_)|refine pq F (fun g2=>?_) (fun g2=>?_))<;>(try exact g2.elim)<;>(try refine sq F ?_)<;>(refine wk F ?_)
  ·refine kq F (ah G e.a _) ?_;(first|refine gq F (fun h0=>?_) (fun h0=>?_)|refine pq F (fun h0=>?_) (fun h0=>?_))<;>(try exact h0.elim)<;>(try refine sq F ?_)<;>(refine wk F ?_)
   ·refine kq F (hLab e.s _) ?_;(first|refine gq F (fun h1=>?_) (fun h1=>?_)|refine pq F (fun h1=>?_) (fun h1=>?_))<;>(try exact h1.elim)<;>(try refine sq F ?_)<;>(refine wk F ?_)
    ·refine kq F (hQue e.t _) ?_;refine ee hQ F ?_;exact N2 (.bool _) ⟨by simp[Leaf.right,k,h0,h1],rfl⟩
    ·refine ee hQ F ?_;exact N2 (.bool _) ⟨by simp[Leaf.right,k,h0,h1],rfl⟩
   ·refine ee hQ F ?_;exact N2 (.bool _) ⟨by simp[Leaf.right,k,h0],rfl⟩
  ·refine kq F (ah G e.a _) ?_;(first|refine gq F (fun h0=>?_) (fun h0=>?_)|refine pq F (fun h0=>?_) (fun h0=>?_))<;>(try exact h0.elim)<;>(try refine sq F ?_)<;>(refine wk F ?_)
   ·refine kq F (hLab e.s _) ?_;(first|refine gq F (fun h1=>?_) (fun h1=>?_)|refine pq F (fun h1=>?_) (fun h1=>?_))<;>(try exact h1.elim)<;>(try refine sq F ?_)<;>(refine wk F ?_)
    ·refine kq F (hQue e.t _) ?_;refine ee hQ F ?_;exact N2 (.bool _) ⟨by simp[Leaf.right,k,h0,h1],rfl⟩
    ·refine ee hQ F ?_;exact N2 (.bool _) ⟨by simp[Leaf.right,k,h0,h1],rfl⟩
   ·refine ee hQ F ?_;exact N2 (.bool _) ⟨by simp[Leaf.right,k,h0],rfl⟩
theorem vl(L:Leaf)(hLab:∀t h,Sat (CT G) 154 [.str t] h (fun r h'=>r=.bool (L.label t)∧h'=h))(hTit:∀t h,Sat (CT G) 156 [.str t] h (fun r h'=>r=.bool (L.title t)∧h'=h))
  (hLin:∀t h,Sat (CT G) 158 [.str t] h (fun r h'=>r=.bool (L.link t)∧h'=h))(hPla:∀t h,Sat (CT G) 155 [.str t] h (fun r h'=>r=.bool (L.place t)∧h'=h))(hTag:∀t h,Sat (CT G) 159 [.str t] h (fun r h'=>r=.bool (L.tag t)∧h'=h))
  (hQue:∀t h,Sat (CT G) 160 [.str t] h (fun r h'=>r=.bool (L.query t)∧h'=h))(hMom:∀t h,Sat (CT G) 157 [.int .i64 t] h (fun r h'=>r=.bool (L.moment t)∧h'=h))(e:Ev)(k:e.kind=13)(h:Heap):Sat (CT G) 114 [e.av] h (fun r h'=>r=.bool (L.right e)∧h'=h):=by
 have F:=k;refine sb [.tmp 2] Tryz.func114 ?_;intro Q hQ;refine wk F ?_;(first|refine gq F (fun g1=>?_) (fun g1=>?_)|refine pq F (fun g1=>?_) (fun g1=>?_))<;>(try exact g1.elim)<;>(try refine sq F ?_)<;>(refine wk F ?_)
 ·(first|refine gq F (fun g2=>?_) (fun g2=>?_)|refine pq F (fun g2=>?_) (fun g2=>?_))<;>(try exact g2.elim)<;>(try refine sq F ?_)<;>(refine wk F ?_)
  ·refine kq F (hMom e.n _) ?_;refine ee hQ F ?_;exact N2 (.bool _) ⟨by simp[Leaf.right,k],rfl⟩
  ·refine kq F (hMom e.n _) ?_;refine ee hQ F ?_;exact N2 (.bool _) ⟨by simp[Leaf.right,k],rfl⟩
 ·refine kq F (ah G e.b _) ?_;(first|refine gq F (fun g2=>?_) (fun g2=>?_)|refine pq F (fun g2=>?_) (fun g2=>?_))<;>(try exact g2.elim)<;>(try refine sq F ?_)<;>(refine wk F ?_)
  ·refine kq F (hMom e.n _) ?_;refine ee hQ F ?_;exact N2 (.bool _) ⟨by simp[Leaf.right,k],rfl⟩
  ·refine kq F (hMom e.n _) ?_;refine ee hQ F ?_;exact N2 (.bool _) ⟨by simp[Leaf.right,k],rfl⟩
theorem xW(L:Leaf)(hLab:∀t h,Sat (CT G) 154 [.str t] h (fun r h'=>r=.bool (L.label t)∧h'=h))(hTit:∀t h,Sat (CT G) 156 [.str t] h (fun r h'=>r=.bool (L.title t)∧h'=h))
  (hLin:∀t h,Sat (CT G) 158 [.str t] h (fun r h'=>r=.bool (L.link t)∧h'=h))(hPla:∀t h,Sat (CT G) 155 [.str t] h (fun r h'=>r=.bool (L.place t)∧h'=h))(hTag:∀t h,Sat (CT G) 159 [.str t] h (fun r h'=>r=.bool (L.tag t)∧h'=h))
  (hQue:∀t h,Sat (CT G) 160 [.str t] h (fun r h'=>r=.bool (L.query t)∧h'=h))(hMom:∀t h,Sat (CT G) 157 [.int .i64 t] h (fun r h'=>r=.bool (L.moment t)∧h'=h))(e:Ev)(m1:¬e.kind=1)(m2:¬e.kind=2)(m4:¬e.kind=4)(m12:¬e.kind=12)(m3:¬e.kind=3)(m5:¬e.kind=5)(m6:¬e.kind=6)(m7:¬e.kind=7)(m8:¬e.kind=8)(m9:¬e.kind=9)(m10:¬e.kind=10)(m11:¬e.kind=11)(m13:¬e.kind=13)(h:Heap):Sat (CT G) 114 [e.av] h (fun r h'=>r=.bool (L.right e)∧h'=h):=by
 have n1:(e.kind==1)=false:=by simp[m1]
 have n2:(e.kind==2)=false:=by simp[m2]
 have n4:(e.kind==4)=false:=by simp[m4]
 have n12:(e.kind==12)=false:=by simp[m12]
 have n3:(e.kind==3)=false:=by simp[m3]
 have n5:(e.kind==5)=false:=by simp[m5]
 have n6:(e.kind==6)=false:=by simp[m6]
 have n7:(e.kind==7)=false:=by simp[m7]
 have n8:(e.kind==8)=false:=by simp[m8]
 have n9:(e.kind==9)=false:=by simp[m9]
 have n10:(e.kind==10)=false:=by simp[m10]
 have n11:(e.kind==11)=false:=by simp[m11]
 have n13:(e.kind==13)=false:=by simp[m13]
 have F:=F2 (F9 n1 n2 n4 n12 n3 n5 n6 n7 n8) (F4 n9 n10 n11 n13);refine sb [.tmp 2] Tryz.func114 ?_;intro Q hQ;refine wk F ?_;(first|refine gq F (fun g1=>?_) (fun g1=>?_)|refine pq F (fun g1=>?_) (fun g1=>?_))<;>(try exact g1.elim)<;>(try refine sq F ?_)<;>(refine wk F ?_)
 ·(first|refine gq F (fun g2=>?_) (fun g2=>?_)|refine pq F (fun g2=>?_) (fun g2=>?_))<;>(try exact g2.elim)<;>(try refine sq F ?_)<;>(refine wk F ?_)
  ·refine ee hQ F ?_;exact N2 (.bool _) ⟨by simp[Leaf.right,m1,m2,m4,m12,m3,m5,m6,m7,m8,m9,m10,m11,m13],rfl⟩
  ·refine ee hQ F ?_;exact N2 (.bool _) ⟨by simp[Leaf.right,m1,m2,m4,m12,m3,m5,m6,m7,m8,m9,m10,m11,m13],rfl⟩
 ·refine kq F (ah G e.b _) ?_;(first|refine gq F (fun g2=>?_) (fun g2=>?_)|refine pq F (fun g2=>?_) (fun g2=>?_))<;>(try exact g2.elim)<;>(try refine sq F ?_)<;>(refine wk F ?_)
  ·refine ee hQ F ?_;exact N2 (.bool _) ⟨by simp[Leaf.right,m1,m2,m4,m12,m3,m5,m6,m7,m8,m9,m10,m11,m13],rfl⟩
  ·refine ee hQ F ?_;exact N2 (.bool _) ⟨by simp[Leaf.right,m1,m2,m4,m12,m3,m5,m6,m7,m8,m9,m10,m11,m13],rfl⟩
theorem qA(L:Leaf)(hLab:∀t h,Sat (CT G) 154 [.str t] h (fun r h'=>r=.bool (L.label t)∧h'=h))(hTit:∀t h,Sat (CT G) 156 [.str t] h (fun r h'=>r=.bool (L.title t)∧h'=h))
  (hLin:∀t h,Sat (CT G) 158 [.str t] h (fun r h'=>r=.bool (L.link t)∧h'=h))(hPla:∀t h,Sat (CT G) 155 [.str t] h (fun r h'=>r=.bool (L.place t)∧h'=h))(hTag:∀t h,Sat (CT G) 159 [.str t] h (fun r h'=>r=.bool (L.tag t)∧h'=h))
  (hQue:∀t h,Sat (CT G) 160 [.str t] h (fun r h'=>r=.bool (L.query t)∧h'=h))(hMom:∀t h,Sat (CT G) 157 [.int .i64 t] h (fun r h'=>r=.bool (L.moment t)∧h'=h))(e:Ev)(h:Heap):Sat (CT G) 114 [e.av] h (fun r h'=>r=.bool (L.right e)∧h'=h):=by
 by_cases m1:e.kind=1
 ·exact xN G L hLab hTit hLin hPla hTag hQue hMom e m1 h
 by_cases m2:e.kind=2
 ·exact xO G L hLab hTit hLin hPla hTag hQue hMom e m2 h
 by_cases m4:e.kind=4
 ·exact xP G L hLab hTit hLin hPla hTag hQue hMom e m4 h
 by_cases m12:e.kind=12
 ·exact vh G L hLab hTit hLin hPla hTag hQue hMom e m12 h
 by_cases m3:e.kind=3
 ·exact xQ G L hLab hTit hLin hPla hTag hQue hMom e m3 h
 by_cases m5:e.kind=5
 ·exact xR G L hLab hTit hLin hPla hTag hQue hMom e m5 h
 by_cases m6:e.kind=6
 ·exact xS G L hLab hTit hLin hPla hTag hQue hMom e m6 h
 by_cases m7:e.kind=7
 ·exact xT G L hLab hTit hLin hPla hTag hQue hMom e m7 h
 by_cases m8:e.kind=8
 ·exact xU G L hLab hTit hLin hPla hTag hQue hMom e m8 h
 by_cases m9:e.kind=9
 ·exact xV G L hLab hTit hLin hPla hTag hQue hMom e m9 h
 by_cases m10:e.kind=10
 ·exact vj G L hLab hTit hLin hPla hTag hQue hMom e m10 h
 by_cases m11:e.kind=11
 ·exact vk G L hLab hTit hLin hPla hTag hQue hMom e m11 h
 by_cases m13:e.kind=13
 ·exact vl G L hLab hTit hLin hPla hTag hQue hMom e m13 h
 exact xW G L hLab hTit hLin hPla hTag hQue hMom e m1 m2 m4 m12 m3 m5 m6 m7 m8 m9 m10 m11 m13 h
end Go.Av
