/- Counts are sums (plain). -/
import Derived.Test.YtanjiiailjilbaaGreatMeEc
import Derived.Test.YtanjiiailjilbaaGreatMeCm
set_option linter.unusedSimpArgs false
set_option linter.unusedVariables false
set_option linter.unusedSectionVars false
set_option linter.unnecessarySimpa false
set_option maxRecDepth 100000
set_option maxHeartbeats 4000000
namespace Go.Av
open Go Go.Proofs Go.RowKit
attribute [local irreducible] WP WPl WPix Sat
variable (G:Nat→Option (List AVal))
theorem tI(N:Nat)(a b c d e f k:Int):Clo N (.tup [.agg [.int .i64 a,.int .i64 b,.int .i64 c,.int .i64 d,.int .i64 e,.int .i64 f],.int .i64 k]):=.tup _ fun x hx=>by
 simp only[List.mem_cons,List.not_mem_nil,or_false]at hx
 rcases hx with rfl|rfl
 ·exact bK fun c hc=>by simp at hc;rcases hc with rfl|rfl|rfl|rfl|rfl|rfl<;>simp
 ·exact .int _ _
def momF(n:Int):Bool:=decide (-62135596800≤n)&&decide (n≤253402300799)
theorem ix(n a b:Int)(h:Heap):Sat (CT G) 240 [.int .i64 n,.int .i64 a,.int .i64 b] h (fun r h'=>r=.bool (decide (a≤n)&&decide (n≤b))∧h'=h):=by
 by_cases k:a≤n
 ·have k2:decide (n≥a)=true:=by simpa using k
  have F:=k2
  refine sb [.tmp 6] (fn:=Tryz.f240) Tryz.func240 ?_
  intro Q hQ
  refine wk F ?_
  refine ee hQ F ?_
  exact Fin.same (.bool _) ⟨by simp[k],rfl⟩
 ·have k2:decide (n≥a)=false:=by simpa using k
  have F:=k2
  refine sb [.tmp 6] (fn:=Tryz.f240) Tryz.func240 ?_
  intro Q hQ
  refine wk F ?_
  refine ee hQ F ?_
  exact Fin.same (.bool _) ⟨by simp[k],rfl⟩
theorem vD(n:Int)(h:Heap):Sat (CT G) 204 [.int .i64 n] h (fun r h'=>(∃a b c d e f:Int,r=.tup [.agg [.int .i64 a,.int .i64 b,.int .i64 c,.int .i64 d,.int .i64 e,.int .i64 f],.int .i64 (if momF n then 0 else 40)])∧h'=h):=by
 cases hm:momF n with
 |false=>
  unfold momF at hm
  have hW:=ix G n (-62135596800) 253402300799
  rw[hm]at hW
  refine sb [.cell 2 236,.tmp 3] (fn:=Tryz.f204) Tryz.func204 ?_
  intro Q hQ
  refine wk trivial ?_
  refine kq trivial (hW _) ?_
  refine ye hQ trivial ?_
  exact Fin.plain (tI ..) ⟨⟨_,_,_,_,_,_,rfl⟩,rfl⟩
 |true=>
  have hm2:=hm
  unfold momF at hm2
  have hW:=ix G n (-62135596800) 253402300799
  rw[hm2]at hW
  simp only[Bool.and_eq_true,decide_eq_true_eq]at hm2
  obtain⟨m1,m2⟩:=hm2
  refine sb [.cell 2 236,.tmp 3] (fn:=Tryz.f204) Tryz.func204 ?_
  intro Q hQ
  refine wk trivial ?_
  refine kq trivial (hW _) ?_
  refine cq trivial (fun c1=>?_) (fun c1=>?_)<;>(try exact c1.elim)<;>(refine wk trivial ?_)
  ·refine ye hQ trivial ?_
   exact Fin.plain (tI ..) ⟨⟨_,_,_,_,_,_,rfl⟩,rfl⟩
  ·refine ye hQ trivial ?_
   exact Fin.plain (tI ..) ⟨⟨_,_,_,_,_,_,rfl⟩,rfl⟩
theorem nI(n:Int)(h:Heap):Sat (CT G) 196 [.int .i64 n] h (fun r h'=>r=.bool (momF n)∧h'=h):=by
 refine sb [.tmp 2] (fn:=Tryz.f196) Tryz.func196 ?_
 intro Q hQ
 refine wk trivial ?_
 refine(vD G n _).mono ?_
 rintro r h' ⟨⟨_,_,_,_,_,_,rfl⟩,rfl⟩
 cases hm:momF n
 ·have F:=hm
  try refine sq F ?_
  refine wk F ?_
  refine ee hQ F ?_
  exact Fin.plain (.bool _) ⟨rfl,rfl⟩
 ·have F:=hm
  try refine sq F ?_
  refine wk F ?_
  refine ee hQ F ?_
  exact Fin.plain (.bool _) ⟨rfl,rfl⟩
end Go.Av
namespace Go.Av
open Go Go.Proofs Go.RowKit
attribute [local irreducible] WP WPl WPix Sat
def textF(ri:Bs→Bool)(cl:Bs→Bs)(t:Bs)(n:Int):Bool:=decide ((t.length:Int)≤n)&&(ri t&&cl t==t)
variable (G:Nat→Option (List AVal))
theorem dW(ri:Bs→Bool)(cl:Bs→Bs)(hR:∀t,t.length≤1000→∀h,Sat (CT G) 263 [.str t] h (fun r h'=>r=.bool (ri t)∧h'=h))(hC:∀t,t.length≤1000→∀h,Sat (CT G) 264 [.str t] h (fun r h'=>r=.str (cl t)∧h'=h))(t:Bs)(n:Int)(hn:n≤1000)(h:Heap):Sat (CT G) 236 [.str t,.int .i64 n] h (fun r h'=>r=.bool (textF ri cl t n)∧h'=h):=by
 cases hl:decide ((t.length:Int)≤n)with
 |false=>
  have F:=hl
  refine sb [.tmp 4] (fn:=Tryz.f236) Tryz.func236 ?_
  intro Q hQ
  refine wk F ?_
  refine ee hQ F ?_
  exact Fin.same (.bool _) ⟨by simp[textF,hl],rfl⟩
 |true=>
  have hlt:t.length≤1000:=by have:=of_decide_eq_true hl;omega
  cases hr:ri t with
  |false=>
   have hR1:=hR t hlt
   rw[hr]at hR1
   have F:=hl
   refine sb [.tmp 4] (fn:=Tryz.f236) Tryz.func236 ?_
   intro Q hQ
   refine wk F ?_
   refine kq F (hR1 _) ?_
   refine ee hQ F ?_
   exact Fin.same (.bool _) ⟨by simp[textF,hl,hr],rfl⟩
  |true=>
   have hR1:=hR t hlt
   rw[hr]at hR1
   have F:=hl
   refine sb [.tmp 4] (fn:=Tryz.f236) Tryz.func236 ?_
   intro Q hQ
   refine wk F ?_
   refine kq F (hR1 _) ?_
   refine kq F (hC t hlt _) ?_
   refine ee hQ F ?_
   exact Fin.same (.bool _) ⟨by simp[textF,hl,hr],rfl⟩
theorem iy(ri:Bs→Bool)(cl:Bs→Bs)(hR:∀t,t.length≤1000→∀h,Sat (CT G) 263 [.str t] h (fun r h'=>r=.bool (ri t)∧h'=h))(hC:∀t,t.length≤1000→∀h,Sat (CT G) 264 [.str t] h (fun r h'=>r=.str (cl t)∧h'=h))(t:Bs)(h:Heap):Sat (CT G) 193 [.str t] h (fun r h'=>r=.bool (!(t==[])&&textF ri cl t 64)∧h'=h):=by
 cases k1:(t==[])with
 |true=>
  have k2:(t != [])=false:=by simpa using k1
  have F:=F2 k1 k2
  refine sb [.tmp 2] (fn:=Tryz.f193) Tryz.func193 ?_
  intro Q hQ
  refine wk F ?_
  refine ee hQ F ?_
  exact Fin.same (.bool _) ⟨by simp,rfl⟩
 |false=>
  have k2:(t != [])=true:=by simpa using k1
  have F:=F2 k1 k2
  refine sb [.tmp 2] (fn:=Tryz.f193) Tryz.func193 ?_
  intro Q hQ
  refine wk F ?_
  refine kq F (dW G ri cl hR hC t 64 (by omega) _) ?_
  refine ee hQ F ?_
  exact Fin.same (.bool _) ⟨by simp,rfl⟩
theorem nM(ri:Bs→Bool)(cl:Bs→Bs)(hR:∀t,t.length≤1000→∀h,Sat (CT G) 263 [.str t] h (fun r h'=>r=.bool (ri t)∧h'=h))(hC:∀t,t.length≤1000→∀h,Sat (CT G) 264 [.str t] h (fun r h'=>r=.str (cl t)∧h'=h))(t:Bs)(h:Heap):Sat (CT G) 195 [.str t] h (fun r h'=>r=.bool (textF ri cl t 256)∧h'=h):=by
 refine sb [.tmp 2] (fn:=Tryz.f195) Tryz.func195 ?_
 intro Q hQ
 refine wk trivial ?_
 refine kq trivial (dW G ri cl hR hC t 256 (by omega) _) ?_
 refine ee hQ trivial ?_
 exact Fin.same (.bool _) ⟨rfl,rfl⟩
theorem ju(ri:Bs→Bool)(cl:Bs→Bs)(hR:∀t,t.length≤1000→∀h,Sat (CT G) 263 [.str t] h (fun r h'=>r=.bool (ri t)∧h'=h))(hC:∀t,t.length≤1000→∀h,Sat (CT G) 264 [.str t] h (fun r h'=>r=.str (cl t)∧h'=h))(t:Bs)(h:Heap):Sat (CT G) 197 [.str t] h (fun r h'=>r=.bool (textF ri cl t 512)∧h'=h):=by
 refine sb [.tmp 2] (fn:=Tryz.f197) Tryz.func197 ?_
 intro Q hQ
 refine wk trivial ?_
 refine kq trivial (dW G ri cl hR hC t 512 (by omega) _) ?_
 refine ee hQ trivial ?_
 exact Fin.same (.bool _) ⟨rfl,rfl⟩
theorem nN(ri:Bs→Bool)(cl:Bs→Bs)(hR:∀t,t.length≤1000→∀h,Sat (CT G) 263 [.str t] h (fun r h'=>r=.bool (ri t)∧h'=h))(hC:∀t,t.length≤1000→∀h,Sat (CT G) 264 [.str t] h (fun r h'=>r=.str (cl t)∧h'=h))(t:Bs)(h:Heap):Sat (CT G) 199 [.str t] h (fun r h'=>r=.bool (!(t==[])&&textF ri cl t 512)∧h'=h):=by
 cases k1:(t==[])with
 |true=>
  have k2:(t != [])=false:=by simpa using k1
  have F:=F2 k1 k2
  refine sb [.tmp 2] (fn:=Tryz.f199) Tryz.func199 ?_
  intro Q hQ
  refine wk F ?_
  refine ee hQ F ?_
  exact Fin.same (.bool _) ⟨by simp,rfl⟩
 |false=>
  have k2:(t != [])=true:=by simpa using k1
  have F:=F2 k1 k2
  refine sb [.tmp 2] (fn:=Tryz.f199) Tryz.func199 ?_
  intro Q hQ
  refine wk F ?_
  refine kq F (dW G ri cl hR hC t 512 (by omega) _) ?_
  refine ee hQ F ?_
  exact Fin.same (.bool _) ⟨by simp,rfl⟩
theorem dX(ri:Bs→Bool)(cl:Bs→Bs)(hR:∀t,t.length≤1000→∀h,Sat (CT G) 256 [.str t] h (fun r h'=>r=.bool (ri t)∧h'=h))(hC:∀t,t.length≤1000→∀h,Sat (CT G) 257 [.str t] h (fun r h'=>r=.str (cl t)∧h'=h))(t:Bs)(n:Int)(hn:n≤1000)(h:Heap):Sat (CT G) 220 [.str t,.int .i64 n] h (fun r h'=>r=.bool (textF ri cl t n)∧h'=h):=by
 cases hl:decide ((t.length:Int)≤n)with
 |false=>
  have F:=hl
  refine sb [.tmp 4] (fn:=Tryz.f220) Tryz.func220 ?_
  intro Q hQ
  refine wk F ?_
  refine ee hQ F ?_
  exact Fin.same (.bool _) ⟨by simp[textF,hl],rfl⟩
 |true=>
  have hlt:t.length≤1000:=by have:=of_decide_eq_true hl;omega
  cases hr:ri t with
  |false=>
   have hR1:=hR t hlt
   rw[hr]at hR1
   have F:=hl
   refine sb [.tmp 4] (fn:=Tryz.f220) Tryz.func220 ?_
   intro Q hQ
   refine wk F ?_
   refine kq F (hR1 _) ?_
   refine ee hQ F ?_
   exact Fin.same (.bool _) ⟨by simp[textF,hl,hr],rfl⟩
  |true=>
   have hR1:=hR t hlt
   rw[hr]at hR1
   have F:=hl
   refine sb [.tmp 4] (fn:=Tryz.f220) Tryz.func220 ?_
   intro Q hQ
   refine wk F ?_
   refine kq F (hR1 _) ?_
   refine kq F (hC t hlt _) ?_
   refine ee hQ F ?_
   exact Fin.same (.bool _) ⟨by simp[textF,hl,hr],rfl⟩
theorem iz(ri:Bs→Bool)(cl:Bs→Bs)(hR:∀t,t.length≤1000→∀h,Sat (CT G) 256 [.str t] h (fun r h'=>r=.bool (ri t)∧h'=h))(hC:∀t,t.length≤1000→∀h,Sat (CT G) 257 [.str t] h (fun r h'=>r=.str (cl t)∧h'=h))(t:Bs)(h:Heap):Sat (CT G) 175 [.str t] h (fun r h'=>r=.bool (!(t==[])&&textF ri cl t 64)∧h'=h):=by
 cases k1:(t==[])with
 |true=>
  have k2:(t != [])=false:=by simpa using k1
  have F:=F2 k1 k2
  refine sb [.tmp 2] (fn:=Tryz.f175) Tryz.func175 ?_
  intro Q hQ
  refine wk F ?_
  refine ee hQ F ?_
  exact Fin.same (.bool _) ⟨by simp,rfl⟩
 |false=>
  have k2:(t != [])=true:=by simpa using k1
  have F:=F2 k1 k2
  refine sb [.tmp 2] (fn:=Tryz.f175) Tryz.func175 ?_
  intro Q hQ
  refine wk F ?_
  refine kq F (dX G ri cl hR hC t 64 (by omega) _) ?_
  refine ee hQ F ?_
  exact Fin.same (.bool _) ⟨by simp,rfl⟩
theorem nO(ri:Bs→Bool)(cl:Bs→Bs)(hR:∀t,t.length≤1000→∀h,Sat (CT G) 256 [.str t] h (fun r h'=>r=.bool (ri t)∧h'=h))(hC:∀t,t.length≤1000→∀h,Sat (CT G) 257 [.str t] h (fun r h'=>r=.str (cl t)∧h'=h))(t:Bs)(h:Heap):Sat (CT G) 177 [.str t] h (fun r h'=>r=.bool (textF ri cl t 256)∧h'=h):=by
 refine sb [.tmp 2] (fn:=Tryz.f177) Tryz.func177 ?_
 intro Q hQ
 refine wk trivial ?_
 refine kq trivial (dX G ri cl hR hC t 256 (by omega) _) ?_
 refine ee hQ trivial ?_
 exact Fin.same (.bool _) ⟨rfl,rfl⟩
theorem pO(ri:Bs→Bool)(cl:Bs→Bs)(hR:∀t,t.length≤1000→∀h,Sat (CT G) 256 [.str t] h (fun r h'=>r=.bool (ri t)∧h'=h))(hC:∀t,t.length≤1000→∀h,Sat (CT G) 257 [.str t] h (fun r h'=>r=.str (cl t)∧h'=h))(t:Bs)(h:Heap):Sat (CT G) 176 [.str t] h (fun r h'=>r=.bool (textF ri cl t 512)∧h'=h):=by
 refine sb [.tmp 2] (fn:=Tryz.f176) Tryz.func176 ?_
 intro Q hQ
 refine wk trivial ?_
 refine kq trivial (dX G ri cl hR hC t 512 (by omega) _) ?_
 refine ee hQ trivial ?_
 exact Fin.same (.bool _) ⟨rfl,rfl⟩
theorem nP(ri:Bs→Bool)(cl:Bs→Bs)(hR:∀t,t.length≤1000→∀h,Sat (CT G) 256 [.str t] h (fun r h'=>r=.bool (ri t)∧h'=h))(hC:∀t,t.length≤1000→∀h,Sat (CT G) 257 [.str t] h (fun r h'=>r=.str (cl t)∧h'=h))(t:Bs)(h:Heap):Sat (CT G) 178 [.str t] h (fun r h'=>r=.bool (!(t==[])&&textF ri cl t 512)∧h'=h):=by
 cases k1:(t==[])with
 |true=>
  have k2:(t != [])=false:=by simpa using k1
  have F:=F2 k1 k2
  refine sb [.tmp 2] (fn:=Tryz.f178) Tryz.func178 ?_
  intro Q hQ
  refine wk F ?_
  refine ee hQ F ?_
  exact Fin.same (.bool _) ⟨by simp,rfl⟩
 |false=>
  have k2:(t != [])=true:=by simpa using k1
  have F:=F2 k1 k2
  refine sb [.tmp 2] (fn:=Tryz.f178) Tryz.func178 ?_
  intro Q hQ
  refine wk F ?_
  refine kq F (dX G ri cl hR hC t 512 (by omega) _) ?_
  refine ee hQ F ?_
  exact Fin.same (.bool _) ⟨by simp,rfl⟩
end Go.Av
namespace Go.Av
open Go Go.Proofs Go.RowKit
attribute [local irreducible] WP WPl WPix Sat
variable (G:Nat→Option (List AVal))
def L0:Leaf where
 label:=fun t=> !(t==[])&&textF rightS cleanF t 64
 title:=fun t=>textF rightS cleanF t 256
 link:=fun t=>textF rightS cleanF t 512
 tag:=fun t=>(!(t==[])&&textF rightS cleanF t 64)&&isF t
 query:=fun t=> !(t==[])&&textF rightS cleanF t 512
 moment:=momF
theorem R0(t:Bs)(ht:t.length≤1000)(h:Heap):Sat (CT G) 263 [.str t] h (fun r h'=>r=.bool (rightS t)∧h'=h):=pJ G t (by omega) h
theorem C0(t:Bs)(ht:t.length≤1000)(h:Heap):Sat (CT G) 264 [.str t] h (fun r h'=>r=.str (cleanF t)∧h'=h):=pI G t (by omega) h
theorem tY(t:Bs)(h:Heap):Sat (CT G) 198 [.str t] h (fun r h'=>r=.bool (L0.tag t)∧h'=h):=by
 have hL:=iy G rightS cleanF (R0 G) (C0 G) t
 have hu:L0.tag t=((!(t==[])&&textF rightS cleanF t 64)&&isF t):=rfl
 rw[hu]
 cases hl:(!(t==[])&&textF rightS cleanF t 64)with
 |false=>
  rw[hl]at hL
  refine sb [.tmp 2] (fn:=Tryz.f198) Tryz.func198 ?_
  intro Q hQ
  refine wk trivial ?_
  refine kq trivial (hL _) ?_
  refine ee hQ trivial ?_
  exact Fin.same (.bool _) ⟨by simp,rfl⟩
 |true=>
  rw[hl]at hL
  have hlen:t.length≤64:=by
   rw[Bool.and_eq_true]at hl
   have:=hl.2
   unfold textF at this
   rw[Bool.and_eq_true,decide_eq_true_eq]at this
   omega
  refine sb [.tmp 2] (fn:=Tryz.f198) Tryz.func198 ?_
  intro Q hQ
  refine wk trivial ?_
  refine kq trivial (hL _) ?_
  refine kq trivial (vx G t (by omega) _) ?_
  refine ee hQ trivial ?_
  exact Fin.same (.bool _) ⟨by simp,rfl⟩
theorem pV(e:Ev)(h:Heap):Sat (CT G) 92 [e.av] h (fun r h'=>r=.int .i64 (if L0.ck e then 0 else 140)∧h'=h):=
 nH G L0 e (nK G L0 (iy G rightS cleanF (R0 G) (C0 G)) (nM G rightS cleanF (R0 G) (C0 G)) (ju G rightS cleanF (R0 G) (C0 G)) (nJ G L0 (ju G rightS cleanF (R0 G) (C0 G))) (tY G) (nN G rightS cleanF (R0 G) (C0 G)) (nI G) e) h
theorem jx(s:PS)(h:s.Inv)(e:Ev){H:Heap}{n:Nat}(hn:n+9≤H.length):Sat (CT G) 21 [.hp (n+8) 0 0 0,e.av] (so H n s) (fun r h'=>r=.bool (s.ok L0 e)∧h'=so H n (s.step L0 e)):=by
 obtain⟨d1,d2⟩:=h.deep e.b
 obtain⟨g1,g2⟩:=h.tags e.a
 have hl:=(⟨Nat.le_trans h.l1 (by omega),Nat.le_trans h.l2 (by omega),Nat.le_trans h.l3 (by omega),Nat.le_trans h.l4 (by omega)⟩:s.fo.length≤100∧s.fe.length≤100∧s.it.length≤2000∧s.se.length≤100)
 exact nG G s e (s.ok L0 e) (tgF ((lkM s.it e.a).getD It.z).tags e.s e.n) h.w3 h.w7 h.few (tX h _ _ (by omega))
  (fun n H hn=>pU G s e (L0.ck e) 7 (s.dpt e.b) d1 (by omega) hl (pV G e) (fun n H hn=>(kZ G s e.a e.s g1 (by omega) hn).mono fun r h' ⟨hr,hh⟩=>⟨⟨_,hr⟩,hh⟩) hn)
  (fun n H hn=>mG G s e g1 (by omega) hn) hn
theorem l5(es:List Ev)(hl:es.length≤1048576)(h:Heap):Sat (CT G) 13 [.sl 7 (es.map Ev.av)] h (fun r h'=>r=.hp (h.length+8) 0 0 0∧h'=so (h++PS.z.bl h.length) h.length (es.foldl (PS.step L0) PS.z)):=
 pT G es hl PS.Inv (PS.ok L0) (PS.step L0) .z (fun s e _ h=>h.step e) (fun s e _ h n H hn=>jx G s h e hn) h
end Go.Av
namespace Go.Av
open Go Go.Proofs Go.RowKit
attribute [local irreducible] WP WPl WPix Sat
def sc(Y:Heap)(n:Nat)(s:PS)(m:Nat)(c:CS):Heap:=so (co Y m c) n s
section
variable {Y:Heap} {n m:Nat} {s:PS} {c:CS}
end
variable (G:Nat→Option (List AVal))
section
variable {Y:Heap} {n m:Nat} {s:PS} {c:CS}
end
def lgE(e:Ev):Bool:=decide ((e.s.length:Int)>1000)||(decide ((e.t.length:Int)>1000)||decide ((e.u.length:Int)>1000))
theorem rG(e:Ev)(h:Heap):Sat (CT G) 40 [e.av] h (fun r h'=>r=.bool (lgE e)∧h'=h):=by
 refine sb [.tmp 2] (fn:=Tryz.f40) Tryz.func40 ?_
 intro Q hQ
 refine wk trivial ?_
 cases k1:decide ((e.s.length:Int)>1000)with
 |true=>
  have F:=k1
  try refine sq F ?_
  refine wk F ?_
  refine ee hQ F ?_
  exact Fin.plain (.bool _) ⟨by simp[lgE,k1],rfl⟩
 |false=>
  cases k2:decide ((e.t.length:Int)>1000)with
  |true=>
   have F:=F2 k1 k2
   try refine sq F ?_
   refine wk F ?_
   refine ee hQ F ?_
   exact Fin.plain (.bool _) ⟨by simp[lgE,k1,k2],rfl⟩
  |false=>
   have F:=F2 k1 k2
   try refine sq F ?_
   refine wk F ?_
   refine ee hQ F ?_
   exact Fin.plain (.bool _) ⟨by simp[lgE,k1,k2],rfl⟩
def lgF(es:List Ev):Bool:=decide ((es.length:Int)>150)||es.any lgE
theorem jy(es:List Ev)(h:Heap):Sat (CT G) 10 [.sl 7 (es.map Ev.av)] h (fun r h'=>r=.bool (lgF es)∧h'=h):=by
 refine sb [.tmp 2] (fn:=Tryz.f10) Tryz.func10 ?_
 intro Q hQ
 refine wk trivial ?_
 have hel:(es.map Ev.av).length=es.length:=List.length_map ..
 have F:=hel
 try refine sq F ?_
 refine cq F (fun c0=>?_) (fun c0=>?_)<;>(try exact c0.elim)<;>(refine wk F ?_)
 ·refine ee hQ F ?_
  exact Fin.same (.bool _) ⟨by simp[lgF];omega,rfl⟩
 ·refine lm (fun nL tL hL=>∃(k:Nat),es.length-k=nL∧[]++h=hL∧tL 0=.sl 7 (es.map Ev.av)∧tL 3=.int .i64 k∧k≤es.length∧(∀e∈es.take k,lgE e=false)) ((fun(k:Nat)=>(es.length-k:Nat)) (0)) ?_ ?_
  ·refine Wkn.refl ⟨0,rfl,rfl,?_,?_,by omega,by simp⟩
   all_goals first|exact zq F|rfl|omega|trivial|skip
  rintro _ s2 h' ⟨k,rfl,rfl,e0,e3,hk,hp⟩ K2 hK2
  simp only[ak,ao,Nat.reduceEqDiff, ↓reduceIte]at e0 e3
  have F:=F3 F e0 e3
  refine wk F ?_
  refine cq F (fun c1=>?_) (fun c1=>?_)<;>(try exact c1.elim)<;>(refine wk F ?_)
  ·have c2:k<es.length:=by omega
   obtain⟨e,he,_⟩:=ac c2
   have F:=F3 F c2 he
   try refine sq F ?_
   refine wk F ?_
   refine kq F (rG G e _) ?_
   refine cq F (fun c3=>?_) (fun c3=>?_)<;>(try exact c3.elim)<;>(refine wk F ?_)
   ·refine ee hQ F ?_
    exact Fin.same (.bool _) ⟨by
     have:es.any lgE=true:=List.any_eq_true.2 ⟨e,List.mem_of_getElem? he,c3⟩
     simp[lgF,this],rfl⟩
   ·have hp1:∀x∈es.take (k+1),lgE x=false:=by
     rw[List.take_add_one,he]
     intro x hx
     simp at hx
     rcases hx with hx|rfl
     ·exact hp x hx
     ·exact c3
    refine hK2 _ _ _ (Wkn.refl ⟨k+1,rfl,rfl,?_,?_,by omega,hp1⟩) (by omega)
    all_goals first|exact zq F|rfl|omega|trivial|skip
  ·rw[List.take_of_length_le (by omega)]at hp
   refine ee hQ F ?_
   exact Fin.same (.bool _) ⟨by
    have:es.any lgE=false:=by rw[List.any_eq_false];intro x hx;rw[hp x hx];simp
    simp[lgF,this];omega,rfl⟩
instance:DecidableEq Ct:=fun x y=>by
 cases x;cases y;simp only[Ct.mk.injEq];exact inferInstance
end Go.Av
namespace Go.Av
open Go Go.Proofs Go.RowKit
attribute [local irreducible] WP WPl WPix Sat
variable (G:Nat→Option (List AVal))
def St.inn(x:St)(id:Int):Int:=((fnd (·.id) x.fo id).map (·.inn)).getD 0
def St.upW(x:St)(u:Int):Nat→Int→Int
 |0,id=>id
 |k+1,id=>if id=u∨id=0 then id else St.upW x u k (x.inn id)
def St.within(x:St)(id u:Int):Bool:=decide (x.upW u 10 id=u)||decide (u=0)
def St.has(x:St)(id:Int):Prop:=id=0∨∃f,fnd (·.id) x.fo id=some f
structure St.Up (x:St):Prop where
 fo:∀f∈x.fo,x.has f.inn
 fe:∀f∈x.fe,x.has f.inn
 it:∀t∈x.it,∃f,fnd (·.id) x.fe t.feed=some f
 l1:x.fo.length≤64
 l2:x.fe.length≤64
 l3:x.it.length≤1024
 tg:∀t∈x.it,t.tags.length≤8
def St.cnt(x:St)(c:Ct)(t:It):Bool:=
 if c.kind=1 then true
 else if c.kind=2 then !(c.id==0)&&x.within (((fnd (·.id) x.fe t.feed).map (·.inn)).getD 0) c.id
 else if c.kind=3 then t.feed==c.id
 else if c.kind=4 then decide (c.tag∈t.tags)
 else if c.kind=5 then t.star
 else false
end Go.Av
namespace Go.Av
open Go Go.Proofs Go.RowKit
variable {c:CS} {s:PS}
def chS(fo:ML Int Fo):Nat→Int→Option (List Int)
 |0,id=>if id=0 then some []else none
 |k+1,id=>if id=0 then some []else(chS fo k (((lkM fo id).map (·.inn)).getD 0)).map (id:: ·)
def PS.chn(s:PS)(feed:Int):List Int:=(chS s.fo 7 (((lkM s.fe feed).map (·.inn)).getD 0)).getD []
theorem u6{κ α:Type}[DecidableEq κ]{l:ML κ α}{x:κ}:x∈l.map (·.1)↔(lkM l x).isSome=true:=by
 constructor
 ·intro hm
  cases hq:(lkM l x).isSome with
  |true=>rfl
  |false=>exact(jY hq hm).elim
 ·intro hq
  obtain⟨a,ha⟩:=Option.isSome_iff_exists.1 hq
  obtain⟨n,hn⟩:=cV ha
  exact List.mem_map.2 ⟨_,hn,rfl⟩
def ctM(kind id:Int)(g:Bs)(n:T2):Ct:=⟨kind,id,g,n.1,n.2⟩
end Go.Av
namespace Go.Av
open Go Go.Proofs Go.RowKit
attribute [local irreducible] WP WPl WPix Sat
variable (G:Nat→Option (List AVal))
def St.fil(x:St)(kind id:Int)(g:Bs):Ct:=ctM kind id g (tl x.it (x.cnt ⟨kind,id,g,0,0⟩))
theorem iW{h0 H:Heap}{p v e:Nat}{l:List Bs}(hp:h0.length≤p)(hg:getRow H p v=some (e,1,l.map .str)):Frz H h0.length (.hs p v 0 l.length true) (.sl 1 (l.map .str)):=by
 have:=Frz.data (n:=h0.length) (len:=l.length) (room:=true) hp hg (by simp) (fun r hr=>by obtain⟨a,_,rfl⟩:=List.mem_map.1 hr;exact .str _) (fun r hr c hc=>by obtain⟨a,_,rfl⟩:=List.mem_map.1 hr;simp[AVal.cells]at hc;subst hc;rfl)
 simpa using this
end Go.Av
namespace Go.Av
open Go.RowKit
section
variable {C:Ctx}
def GClo(C:Ctx):Prop:=∀g cs,C.G g=some cs→Clo 0 (.ad cs)
theorem Sat.frame(hG:GClo C){f:FuncId}{args:List AVal}{R:AVal→Heap→Prop}(ha:∀x∈args,Clo 0 x)(hR:∀r h',R r h'→Clo 0 r∧h'=[])
  (s:Sat C f args [] R)(h:Heap):Sat C f args h fun r h'=>R r []∧h'=h:=by
 intro B S μ w vs fit rl
 have st0:∀(x:AVal) (v:Value),Clo 0 x→Rep w S μ x v→Rep w S [] x v:=fun x v hc hr=>by
  have:=hc.rep (S':=S) hr fun a ha=>ha
  simpa using this
 have fit0:Fits C w.heap.size S [] [] w:=by
  refine⟨fun g cs hg=>st0 _ _ (hG g cs hg) (fit.glob g cs hg),rfl,?_,?_,Nat.le_refl _,fit.lie,?_⟩
  ·intro p q m m' b h1;simp at h1
  ·intro p m b h1;simp at h1
  ·intro p m k h1;simp at h1
 have rl0:RepL w S [] args vs:=⟨rl.1,fun i x hx=>st0 _ _ (ha x (List.mem_of_getElem? hx)) (rl.2 i x hx)⟩
 refine(s _ S [] w vs fit0 rl0).mono fun v w' hp=>?_
 obtain⟨r,h',S',μ',hr,st,fit',hrep⟩:=hp
 obtain⟨hclo,rfl⟩:=hR r h' hr
 obtain rfl:μ'=[]:=List.length_eq_zero_iff.1 (by rw[fit'.len];rfl)
 have own:∀(p:Nat) (m:MB) (b:Nat),μ[p]? =some m→m.blk=some b→∀a,S' a→a.block≠b:=fun p m b h1 e1 a ha=>by
  obtain⟨k1,k2,k3⟩:=fit.own p m b h1 e1
  rcases st.new a ha with h2|h2
  ·exact k3 a h2
  ·omega
 have st2:Step B S μ w S' μ w':=⟨st.sub,st.keep,st.below.mono fit.base,MapLe.refl _,fun a ha=>(st.new a ha).imp id fun e=>Nat.le_trans fit.base e⟩
 refine⟨r,h,S',μ,⟨hr,rfl⟩,st2,?_,?_⟩
 ·refine⟨fun g cs hg=>(fit.glob g cs hg).mono st2,fit.len,fit.sep,fun p m b h1 e1=>?_,Nat.le_trans fit.base st.below.size,fit'.lie,fun p m k h1 h2=>?_⟩
  ·obtain⟨k1,k2,k3⟩:=fit.own p m b h1 e1
   exact⟨k1,Nat.lt_of_lt_of_le k2 st.below.size,own p m b h1 e1⟩
  ·exact(fit.blk p m k h1 h2).mono st2 fun b hb=>st.below.block b (fit.own p m b h1 hb).2.1
 ·have grow:∀(x:AVal) (v:Value),Rep w' S' [] x v→Rep w' S' μ x v:=fun x v hr=>by
   refine hr.mono (B:=0) (S':=S') (w':=w') ⟨fun _ ha=>ha,fun _ _=>rfl,Below.refl _ _,fun p m hm=>by simp at hm,fun _ ha=>.inl ha⟩
  exact grow _ _ hrep
def plainB:AVal→Bool
 | .int _ _=>true
 | .bool _=>true
 | .str _=>true
 |_=>false
theorem q5{n:Nat}{x:AVal}(h:plainB x=true):Clo n x:=by
 cases x<;>first|exact .int _ _|exact .bool _|exact .str _|cases h
def isV(v:AVal):Option (AVal×Heap)→Bool
 |some (r,h1)=>match frzX h1 0 20 r with
  |some y=>beqA y v
  |none=>false
 |none=>false
theorem Sat.closedV(hG:GClo C){orc:FuncId→List AVal→Option AVal}(horc:OrcOk C orc)(lf n:Nat){f:FuncId}{args:List AVal}{v:AVal}(ha:args.all plainB=true)(hv:cloA 0 v=true)
  (hrun:isV v (callX C orc lf n f args [])=true)(h:Heap):Sat C f args h fun r2 h2=>r2=v∧h2=h:=by
 unfold isV at hrun
 split at hrun
 ·rename_i r h1 e
  split at hrun
  ·rename_i y hy
   have ey:=eo _ _ hrun
   subst ey
   have s:=(uo horc lf n f args [] r h1 e).letgo (v:=y) (by simp) (oC _ _ _ _ _ hy)
   refine(s.frame hG (fun x hx=>q5 (List.all_eq_true.1 ha x hx)) (fun r h' ⟨e1,e2⟩=>⟨by rw[e1];exact fI 0 _ hv,e2⟩) h).mono fun r2 h2 ⟨⟨e1,_⟩,e2⟩=>⟨e1,e2⟩
  ·cases hrun
 ·cases hrun
end
end Go.Av
namespace Go.Av
open Go Go.Proofs Go.RowKit
attribute [local irreducible] WP WPl WPix Sat
variable (G:Nat→Option (List AVal))
theorem q6(s:Bs)(hs:s.length≤1048576)(h:Heap):Sat (CT G) 241 [.str s] h (fun r h'=>∃v,r=.hs h.length v 0 (runesF s).length true∧h'=h++[.row 21 1 v ((runesF s).map runA)]):=by
 refine sb [.tmp 2] (fn:=Tryz.f241) Tryz.func241 ?_
 intro Q hQ
 refine wk trivial ?_
 refine lm (fun nL tL hL=>∃(k v:Nat) (acc:List Int),s.length-k=nL∧h++[.row 21 1 v (acc.map runA)]=hL∧tL 0=.str (s.drop k)∧tL 3=.hs h.length v 0 acc.length true∧k≤s.length∧acc.length≤k∧acc++runesF (s.drop k)=runesF s) ((fun(k v:Nat) (acc:List Int)=>(s.length-k:Nat)) (0) (0) ([])) ?_ ?_
 ·refine⟨_,_,Weak.virt 3 21 1 (by simp) (by omega) (by exact zq trivial),⟨0,0,[],rfl,ay,?_,?_,?_,?_,?_⟩⟩
  all_goals first|exact zq trivial|rfl|omega|trivial|skip
 rintro _ s2 h' ⟨k,v,acc,rfl,rfl,e0,e3,hk,hl,hp⟩ K2 hK2
 simp only[ak,ao,Nat.reduceEqDiff, ↓reduceIte]at e0 e3
 have F:=F2 e0 e3
 refine wk F ?_
 refine cq F (fun c1=>?_) (fun c1=>?_)<;>(try exact c1.elim)<;>(refine wk F ?_)
 ·simp only[List.length_drop]at c1
  have hlt:k<s.length:=by omega
  have hp2:=bj s k hlt
  rw[eW s k hlt]at hp
  have hne:s.drop k≠ []:=by intro e;have:=congrArg List.length e;simp at this;omega
  refine(gU G (s.drop k) hne (by simp;omega) _).mono ?_
  rintro r h' ⟨rfl,rfl⟩
  rw[← bZ]
  generalize dec s k=d at*
  obtain⟨c,m⟩:=d
  simp only[]at hp hp2 ⊢
  have hsl:m≤(s.drop k).length:=by simp;omega
  have hdd:(s.drop k).drop m=s.drop (k+m):=List.drop_drop ..
  have F:=F3 F hsl hdd
  try refine sq F ?_
  refine wk F ?_
  refine aq F ?_
  try refine sq F ?_
  refine wk F ?_
  refine hK2 _ _ _ (Wkn.refl ⟨k+m,v+1,acc++[(c:Int)],rfl,ay,?_,?_,by omega,by simp;omega,by rw[← hp];simp⟩) (by omega)
  all_goals first|exact zq F|rfl|omega|trivial|skip
 ·simp only[List.length_drop]at c1
  rw[dV s k (by omega),List.append_nil]at hp
  refine wk F ?_
  refine ee hQ F ?_
  subst hp
  exact Fin.whole (by simp) (.hs _ _ _ _ _ (by simp)) ⟨v,rfl,rfl⟩
theorem iX(l:List Int)(hr:∀r∈l,Rune r)(hl:l.length≤1048576){h:Heap}{p v0:Nat}(hg:getRow h p v0=some (21,1,l.map runA)):Sat (CT G) 244 [.hs p v0 0 l.length true] h (fun x h'=>x=.str (l.flatMap enc)∧h'=h):=by
 have hll:(l.map runA).length=l.length:=List.length_map ..
 have hpl:=b9 hg
 have hgj:∀j,getRow (h++j) p v0=some (21,1,l.map runA):=fun j=>by rw[aN _ hpl];exact hg
 have hra:∀x,runA x=.int .i32 x:=fun _=>rfl
 have F:=F4 hll hg hgj hra
 refine sb [.tmp 2] (fn:=Tryz.f244) Tryz.func244 ?_
 intro Q hQ
 refine wk F ?_
 refine lm (fun nL tL hL=>∃(k v:Nat) (acc:Bs),l.length-k=nL∧h++[.row 5 1 v (acc.map bytA)]=hL∧tL 3=.hs h.length v 0 acc.length true∧tL 4=.int .i64 k∧k≤l.length∧acc++(l.drop k).flatMap enc=l.flatMap enc∧acc.length≤4*k) ((fun(k v:Nat) (acc:Bs)=>(l.length-k:Nat)) (0) (0) ([])) ?_ ?_
 ·refine⟨_,_,Weak.virt 3 5 1 (by simp) (by omega) (by exact zq F),⟨0,0,[],rfl,ay,?_,?_,?_,?_,?_⟩⟩
  all_goals first|exact zq F|rfl|omega|trivial|skip
 rintro _ s2 h' ⟨k,v,acc,rfl,rfl,e3,e4,hk,hp,hz⟩ K2 hK2
 simp only[ak,ao,Nat.reduceEqDiff, ↓reduceIte]at e3 e4
 have F:=F3 F e3 e4
 refine wk F ?_
 refine cq F (fun hc=>?_) (fun hc=>?_)<;>(try exact hc.elim)
 ·obtain⟨y,hy,hym⟩:=ac hc
  rw[aD hy,List.flatMap_cons]at hp
  have he:=ed y
  have hel:((enc y).map bytA).length=(enc y).length:=List.length_map ..
  have c2:k<l.length:=by omega
  have F:=F3 F c2 hy
  refine wk F ?_
  refine kq F (oA G y (hr y hym) _) ?_
  refine aq F ?_
  try refine sq F ?_
  refine wk F ?_
  refine hK2 _ _ _ (Wkn.refl ⟨k+1,v+1,acc++enc y,rfl,ay,?_,?_,by omega,by rw[← hp];simp,by simp;omega⟩) (by omega)
  all_goals first|exact zq F|rfl|omega|trivial|skip
 ·rw[aI hc,List.flatMap_nil,List.append_nil]at hp
  have hb:=g9 acc
  have hel:elemsOf (h++[.row 5 1 v (acc.map bytA)]) 1 (.hs h.length v 0 acc.length true)=some (acc.map bytA):=by
   simp[elemsOf,getRow,List.take_of_length_le]
  have F:=F4 F hb hel @iC
  refine wk F ?_
  refine ee hQ F ?_
  rw[← hp]
  exact Fin.plainE (j:=_) rfl (.str _) ⟨rfl,rfl⟩
theorem rO(s:Bs)(hs:s.length≤100000)(h:Heap):Sat (CT G) 242 [.str s] h (fun r h'=>r=.str (foldS s)∧h'=h):=by
 have hll:=cP s.length s (Nat.le_refl _)
 have hrl:=dv s.length s (Nat.le_refl _)
 have hR:=q6 G s (by omega)
 have hfo:foldS s=((runesF s).map foldR).flatMap enc:=rfl
 rw[hfo]
 generalize runesF s=l at*
 refine sb [.tmp 2] (fn:=Tryz.f242) Tryz.func242 ?_
 intro Q hQ
 refine wk trivial ?_
 refine(hR _).mono ?_
 rintro r h' ⟨v,rfl,rfl⟩
 try refine sq trivial ?_
 refine wk trivial ?_
 refine lm (fun nL tL hL=>∃(k:Nat),l.length-k=nL∧h++[.row 21 1 v (((l.take k).map foldR++l.drop k).map runA)]=hL∧tL 3=.hs h.length v 0 l.length true∧tL 4=.int .i64 k∧k≤l.length) ((fun(k:Nat)=>(l.length-k:Nat)) (0)) ?_ ?_
 ·refine Wkn.refl ⟨0,rfl,by simp,?_,?_,by omega⟩
  all_goals first|exact zq trivial|rfl|omega|trivial|skip
 rintro _ s2 h' ⟨k,rfl,rfl,e3,e4,hk⟩ K2 hK2
 simp only[ak,ao,Nat.reduceEqDiff, ↓reduceIte]at e3 e4
 have F:=F2 e3 e4
 refine wk F ?_
 refine cq F (fun c1=>?_) (fun c1=>?_)<;>(try exact c1.elim)
 ·have c2:k<l.length:=by omega
  obtain⟨y,hy,hym⟩:=ac c2
  have hget:((l.take k).map foldR++l.drop k)[k]? =some y:=by
   rw[List.getElem?_append_right (by simp;omega),List.length_map,List.length_take,Nat.min_eq_left (by omega),Nat.sub_self,List.getElem?_drop];simpa using hy
  have hset:(((l.take k).map foldR++l.drop k).map runA).set k (.int .i32 (foldR y))=((l.take (k+1)).map foldR++l.drop (k+1)).map runA:=by
   have h1:(AVal.int .i32 (foldR y))=runA (foldR y):=rfl
   rw[h1, ← List.map_set]
   congr 1
   rw[List.set_append_right _ _ (by simp;omega),List.length_map,List.length_take,Nat.min_eq_left (by omega),Nat.sub_self,aD hy,List.set_cons_zero,List.take_add_one,hy]
   simp
  have hlen:(((l.take k).map foldR++l.drop k).map runA).length=l.length:=by simp;omega
  have hra:∀x,runA x=.int .i32 x:=fun _=>rfl
  generalize (l.take k).map foldR++l.drop k=rw_ at*
  have F:=F7 F c2 @hget @hset @hlen hra @ax
  try refine sq F ?_
  refine wk F ?_
  refine kq F (rJ G y (hrl y hym) _) ?_
  refine hK2 _ _ _ (Wkn.refl ⟨k+1,rfl,rfl,?_,?_,by omega⟩) (by omega)
  all_goals first|exact zq F|rfl|omega|trivial|skip
 ·have hk2:k=l.length:=by omega
  subst hk2
  have hfin:(l.take l.length).map foldR++l.drop l.length=l.map foldR:=by rw[List.take_length,List.drop_length,List.append_nil]
  rw[hfin]
  have hg:getRow (h++[.row 21 1 v ((l.map foldR).map runA)]) h.length v=some (21,1,(l.map foldR).map runA):=by simp[getRow]
  have hP:=iX G (l.map foldR) (fun r hr=>by obtain⟨x,hx,rfl⟩:=List.mem_map.1 hr;exact ga (hrl x hx)) (by simp;omega) hg
  rw[List.length_map]at hP
  refine wk F ?_
  refine kq F (hP) ?_
  refine ee hQ F ?_
  exact Fin.plain (.str _) ⟨rfl,rfl⟩
theorem rP(a b:List Bs)(ha:a.length≤1000000)(hb:b.length≤1000000)(h:Heap):Sat (CT G) 206 [.sl 1 (a.map .str),.sl 1 (b.map .str)] h (fun r h'=>r=.bool (decide (a=b))∧h'=h):=by
 have ela:(a.map AVal.str).length=a.length:=List.length_map ..
 have elb:(b.map AVal.str).length=b.length:=List.length_map ..
 have F:=F2 @ela @elb
 refine sb [.tmp 4] (fn:=Tryz.f206) Tryz.func206 ?_
 intro Q hQ
 refine wk F ?_
 refine cq F (fun c0=>?_) (fun c0=>?_)<;>(try exact c0.elim)<;>(refine wk F ?_)
 ·refine ee hQ F ?_
  exact Fin.same (.bool _) ⟨by simp;rintro rfl;omega,rfl⟩
 ·refine lm (fun nL tL hL=>∃(k:Nat),a.length-k=nL∧[]++h=hL∧tL 0=.sl 1 (a.map .str)∧tL 1=.sl 1 (b.map .str)∧tL 5=.int .i64 k∧k≤a.length∧a.take k=b.take k) ((fun(k:Nat)=>(a.length-k:Nat)) (0)) ?_ ?_
  ·refine Wkn.refl ⟨0,rfl,rfl,?_,?_,?_,by omega,by simp⟩
   all_goals first|exact zq F|rfl|omega|trivial|skip
  rintro _ s2 h' ⟨k,rfl,rfl,e0,e1,e5,hk,hp⟩ K2 hK2
  simp only[ak,ao,Nat.reduceEqDiff, ↓reduceIte]at e0 e1 e5
  have F:=F4 F e0 e1 e5
  refine wk F ?_
  refine cq F (fun c1=>?_) (fun c1=>?_)<;>(try exact c1.elim)<;>(refine wk F ?_)
  ·have c2:k<a.length:=by omega
   have c2b:k<b.length:=by omega
   obtain⟨x,hx,_⟩:=ac c2
   obtain⟨y,hy,_⟩:=ac c2b
   have F:=F5 F c2 @c2b hx hy
   try refine sq F ?_
   refine wk F ?_
   refine cq F (fun c3=>?_) (fun c3=>?_)<;>(try exact c3.elim)<;>(refine wk F ?_)
   ·refine ee hQ F ?_
    exact Fin.same (.bool _) ⟨by
     simp
     rintro rfl
     rw[hx]at hy;cases hy
     simp at c3,rfl⟩
   ·have c4:x=y:=by simpa using c3
    have hp1:a.take (k+1)=b.take (k+1):=by rw[List.take_add_one,List.take_add_one,hx,hy,hp,c4]
    refine hK2 _ _ _ (Wkn.refl ⟨k+1,rfl,rfl,?_,?_,?_,by omega,hp1⟩) (by omega)
    all_goals first|exact zq F|rfl|omega|trivial|skip
  ·rw[List.take_of_length_le (by omega),List.take_of_length_le (by omega)]at hp
   refine ee hQ F ?_
   exact Fin.same (.bool _) ⟨by simp[hp],rfl⟩
theorem kp(n:Int)(h:Heap):Sat (CT G) 174 [.int .i64 n] h (fun r h'=>r=.bool (idF n)∧h'=h):=by
 by_cases k:1≤n
 ·have k2:decide (n≥1)=true:=by simpa using k
  have F:=k2
  refine sb [.tmp 2] (fn:=Tryz.f174) Tryz.func174 ?_
  intro Q hQ
  refine wk F ?_
  refine ee hQ F ?_
  exact Fin.same (.bool _) ⟨by simp[idF,k],rfl⟩
 ·have k2:decide (n≥1)=false:=by simpa using k
  have F:=k2
  refine sb [.tmp 2] (fn:=Tryz.f174) Tryz.func174 ?_
  intro Q hQ
  refine wk F ?_
  refine ee hQ F ?_
  exact Fin.same (.bool _) ⟨by simp[idF,k],rfl⟩
theorem uM(C:Ctx):OrcOk C (fun _ _=>none):=fun f args r g h=>by cases g
theorem vP:isV (.int .i64 (-62135596800)) (callX (CT G) (fun _ _=>none) 1000 100 208 [] [])=true:=by kernel_rfl
theorem xc:isV (.int .i64 253402300799) (callX (CT G) (fun _ _=>none) 1000 100 209 [] [])=true:=by kernel_rfl
theorem uq(hc:GClo (CT G))(n:Int)(h:Heap):Sat (CT G) 165 [.int .i64 n] h (fun r h'=>r=.bool (momF n)∧h'=h):=by
 have h1:=fun h=>Sat.closedV hc (uM _) 1000 100 rfl rfl (vP G) h
 have h2:=fun h=>Sat.closedV hc (uM _) 1000 100 rfl rfl (xc G) h
 by_cases k: -62135596800≤n
 ·have k2:decide (n≥ -62135596800)=true:=by simpa using k
  have F:=k2
  refine sb [.tmp 2] (fn:=Tryz.f165) Tryz.func165 ?_
  intro Q hQ
  refine wk F ?_
  refine kq F (h1 _) ?_
  refine kq F (h2 _) ?_
  refine ee hQ F ?_
  exact Fin.same (.bool _) ⟨by simp[momF,k],rfl⟩
 ·have k2:decide (n≥ -62135596800)=false:=by simpa using k
  have F:=k2
  refine sb [.tmp 2] (fn:=Tryz.f165) Tryz.func165 ?_
  intro Q hQ
  refine wk F ?_
  refine kq F (h1 _) ?_
  refine ee hQ F ?_
  exact Fin.same (.bool _) ⟨by simp[momF,k],rfl⟩
end Go.Av
namespace Go.Av
open Go Go.Proofs Go.RowKit
attribute [local irreducible] WP WPl WPix Sat
set_option pp.deepTerms true
set_option pp.maxSteps 200000
variable (G:Nat→Option (List AVal))
theorem iY:∀(b w:List Int) (out:List Bs),(wdsR b w out).length≤out.length+b.length+1
 | [],w,out=>by rw[wdsR];split<;>simp
 |c::b,w,out=>by
  rw[wdsR]
  split
  ·have:=iY b (if w.length<32 then w++[c]else w) out;simp only[List.length_cons];omega
  ·have:=iY b [] (if w=[]then out else out++[encs w])
   have h2:(if w=[]then out else out++[encs w]).length≤out.length+1:=by split<;>simp
   simp only[List.length_cons];omega
theorem q7(s:Bs)(hs:s.length≤10000)(h:Heap):Sat (CT G) 207 [.str s] h (fun r h'=>r=.sl 1 ((wordsF s).map .str)∧h'=h):=by
 have hfl:=gQ s
 have hR:=l8 G (foldS s) (by omega)
 have hrn:=dv (foldS s).length (foldS s) (Nat.le_refl _)
 have hrl:=cP (foldS s).length (foldS s) (Nat.le_refl _)
 rw[jC]
 generalize runesF (foldS s)=rs at*
 have hel:(rs.map runA).length=rs.length:=List.length_map ..
 have hra:∀x,runA x=.int .i32 x:=fun _=>rfl
 have F:=F2 hel hra
 refine sb [.tmp 2] (fn:=Tryz.f207) Tryz.func207 ?_
 intro Q hQ
 refine wk F ?_
 refine kq F (rO G s (by omega) _) ?_
 refine kq F (hR _) ?_
 refine lm (fun nL tL hL=>∃(i po vo:Nat) (hh:Heap) (out:List Bs) (w:List Int) (x:AVal),rs.length+1-i=nL∧hh=hL∧tL 3=.sl 1 (rs.map runA)∧tL 4=.hs po vo 0 out.length true∧tL 5=x∧tL 6=.int .i64 i∧i≤rs.length+1∧((w=[]∧x=.nil (.slice none 0 0))∨(∃p v,x=.hs p v 0 w.length true∧getRow hh p v=some (21,1,w.map runA)∧h.length≤p∧p≠po))∧getRow hh po vo=some (9,1,out.map .str)∧(FrN h.length h hh∧h.length≤po)∧wdsR (rs.drop i) w out=wdsR rs [] []∧(w.length≤32∧out.length≤i∧(∀c∈w,Rune c)∧(i=rs.length+1→w=[]))) ((fun(i po vo:Nat) (hh:Heap) (out:List Bs) (w:List Int) (x:AVal)=>(rs.length+1-i:Nat)) (0) (h.length) (0) (h++[.row 9 1 0 []]) ([]) ([]) (.nil (.slice none 0 0))) ?_ ?_
 ·refine⟨_,_,Weak.virt 4 9 1 (by simp) (by omega) (by exact zq F),⟨0,h.length,0,h++[.row 9 1 0 []],[],[],.nil (.slice none 0 0),rfl,ay,?_,?_,?_,?_,by omega,.inl ⟨rfl,rfl⟩,by rw[aE _ rfl];rfl,⟨FrN.app _ (by omega) (FrN.refl _ _),by omega⟩,by simp,⟨by simp,by simp,by simp,by simp⟩⟩⟩
  all_goals first|exact zq F|rfl|omega|trivial|skip
 rintro _ s2 h' ⟨i,po,vo,hh,out,w,x,rfl,rfl,e3,e4,e5,e6,hi,hx,hg,hfr,hv,hwl⟩ K2 hK2
 simp only[ak,ao,Nat.reduceEqDiff, ↓reduceIte]at e3 e4 e5 e6
 have F:=F5 F e3 e4 e5 e6
 have hgl:=b9 hg
 obtain⟨hw1,hw2,hw3,hw4⟩:=hwl
 obtain⟨hfr,hpo⟩:=hfr
 have hol:(out.map AVal.str).length=out.length:=List.length_map ..
 have hwm:(w.map runA).length=w.length:=List.length_map ..
 have dt:∀i:Decidable True, @decide True i=true:=fun i=>decide_eq_true trivial
 have done0:∀(q:Nat),letR (rs.getD i 0)=false∨rs.length≤i→i≤rs.length→wdsR (rs.drop (i+1)) [] (if w=[]then out else out++[encs w])=wdsR rs [] []:=fun _ hl hle=>by
  rw[← hv]
  rcases Nat.lt_or_ge i rs.length with hlt|hge
  ·obtain⟨y,hy,_⟩:=ac hlt
   have hly:letR y=false:=by
    rcases hl with hl|hl
    ·rw[List.getD_eq_getElem?_getD,hy]at hl;exact hl
    ·omega
   rw[aD hy,wdsR]
   simp only[hly,Bool.false_eq_true,if_false]
  ·rw[aI hge,aI (by omega),wdsR,wdsR];simp
 have F:=F4 F hg hol hwm
 try refine sq F ?_
 refine wk F ?_
 refine cq F (fun c1=>?_) (fun c1=>?_)<;>(try exact c1.elim)<;>(refine wk F ?_)
 ·have c2:i≤rs.length:=by omega
  have fin0:True:=trivial
  by_cases c3:i<rs.length
  ·obtain⟨y,hy,hym⟩:=ac c3
   have d3:decide (i<rs.length)=true:=by simp;omega
   have hl:=nT G y (hrn y hym)
   have hv2:=hv
   rw[aD hy,wdsR]at hv2
   have hgd:rs.getD i 0=y:=by rw[List.getD_eq_getElem?_getD,hy];rfl
   rw[hgd]at done0
   cases hlt:letR y with
   |true=>
    rw[hlt]at hl hv2
    rw[if_pos rfl]at hv2
    have F:=F4 F hy c3 dt
    try refine sq F ?_
    refine wk F ?_
    refine kq F (hl _) ?_
    rcases hx with⟨rfl,rfl⟩| ⟨p,v,rfl,hgw,hp1,hp2⟩
    ·try refine sq F ?_
     refine wk F ?_
     refine sR (.inl rfl) (by simp(disch:=first|omega| (simp only[go_sem, ↓reduceIte,seval];first|done|omega)|fail) only[go_sem, ↓reduceIte,seval,F];try rfl) (by simp(disch:=first|omega| (simp only[go_sem, ↓reduceIte,seval];first|done|omega)|fail) only[go_sem, ↓reduceIte,seval,F];try rfl) (by simp(disch:=first|omega| (simp only[go_sem, ↓reduceIte,seval];first|done|omega)|fail) only[go_sem, ↓reduceIte,seval,F];try rfl) (by simp(disch:=first|omega| (simp only[go_sem, ↓reduceIte,seval];first|done|omega)|fail) only[go_sem, ↓reduceIte,seval,F];try rfl) (by omega) (by simp only[elemsOf, ↓reduceIte];rfl) ⟨by simp[maxLen],by simp⟩ ?_
     try refine sq F ?_
     refine wk F ?_
     refine hK2 _ _ _ (Wkn.refl ⟨i+1,po,vo,hh++[.row 21 1 0 [runA y]],out,[y],.hs hh.length 0 0 1 true,rfl,ay,?_,?_,?_,?_,by omega,.inr ⟨hh.length,0,rfl,by rw[aE _ rfl];rfl,(by omega),by omega⟩,by rw[aN _ hgl];exact hg,⟨FrN.app _ ((by omega)) hfr,hpo⟩,by simpa using hv2,⟨by simp,by omega,fun c hc=>by simp at hc;subst hc;exact hrn _ hym,by omega⟩⟩) (by omega)
     all_goals first|exact zq F|rfl|omega|trivial|skip
    ·have hpl:=b9 hgw
     have F:=F3 F hgw @ax
     try refine sq F ?_
     refine wk F ?_
     refine cq F (fun c4=>?_) (fun c4=>?_)<;>(try exact c4.elim)<;>(refine wk F ?_)
     ·rw[if_pos (by omega)]at hv2
      refine aq F ?_
      try refine sq F ?_
      refine wk F ?_
      refine hK2 _ _ _ (Wkn.refl ⟨i+1,po,vo,hh.set p (.row 21 1 (v+1) ((w++[y]).map runA)),out,w++[y],.hs p (v+1) 0 (w++[y]).length true,rfl,by simp[runA],?_,?_,?_,?_,by omega,.inr ⟨p,v+1,rfl,by rw[bJ _ _ _ _ _ hpl,if_pos rfl],hp1,hp2⟩,by rw[aZ _ _ hp2];exact hg,⟨FrN.set _ hp1 hfr,hpo⟩,hv2,⟨by simp;omega,by omega,fun c hc=>by rcases List.mem_append.1 hc with hc|hc;exact hw3 c hc;simp at hc;subst hc;exact hrn _ hym,by omega⟩⟩) (by omega)
      all_goals first|exact zq F|rfl|omega|trivial|skip
     ·rw[if_neg (by omega)]at hv2
      refine hK2 _ _ _ (Wkn.refl ⟨i+1,po,vo,hh,out,w,.hs p v 0 w.length true,rfl,rfl,?_,?_,?_,?_,by omega,.inr ⟨p,v,rfl,hgw,hp1,hp2⟩,hg,⟨hfr,hpo⟩,hv2,⟨hw1,by omega,hw3,by omega⟩⟩) (by omega)
      all_goals first|exact zq F|rfl|omega|trivial|skip
   |false=>
    have hd:=done0 0 (.inl hlt) c2
    rw[hlt]at hl
    have F:=F4 F hy c3 dt
    try refine sq F ?_
    refine wk F ?_
    refine kq F (hl _) ?_
    rcases hx with⟨rfl,rfl⟩| ⟨p,v,rfl,hgw,hp1,hp2⟩
    ·rw[if_pos rfl]at hd
     try refine sq F ?_
     refine wk F ?_
     refine cq F (fun c5=>?_) (fun c5=>?_)<;>(try exact c5.elim)<;>(refine wk F ?_)
     refine hK2 _ _ _ (Wkn.refl ⟨i+1,po,vo,hh,out,[],.nil (.slice none 0 0),rfl,rfl,?_,?_,?_,?_,by omega,.inl ⟨rfl,rfl⟩,hg,⟨hfr,hpo⟩,hd,⟨by simp,by omega,by simp,fun _=>rfl⟩⟩) (by omega)
     all_goals first|exact zq F|rfl|omega|trivial|skip
    ·have hpl:=b9 hgw
     have hP:=iX G w hw3 (by omega) hgw
     have F:=F3 F hgw @ax
     try refine sq F ?_
     refine wk F ?_
     refine cq F (fun c5=>?_) (fun c5=>?_)<;>(try exact c5.elim)<;>(refine wk F ?_)
     ·have hw0:¬w=[]:=by rintro rfl;simp at c5
      rw[if_neg hw0]at hd
      refine kq F (hP) ?_
      refine aq F ?_
      try refine sq F ?_
      refine wk F ?_
      refine hK2 _ _ _ (Wkn.refl ⟨i+1,po,vo+1,hh.set po (.row 9 1 (vo+1) ((out++[encs w]).map .str)),out++[encs w],[],.nil (.slice none 0 0),rfl,by simp[encs],?_,?_,?_,?_,by omega,.inl ⟨rfl,rfl⟩,by rw[bJ _ _ _ _ _ hgl,if_pos rfl],⟨FrN.set _ hpo hfr,hpo⟩,hd,⟨by simp,by simp;omega,by simp,fun _=>rfl⟩⟩) (by omega)
      all_goals first|exact zq F|rfl|omega|trivial|skip
     ·have hw0:w=[]:=by cases w with|nil=>rfl|cons a l=>exfalso;simp only[List.length_cons]at c5;omega
      rw[if_pos hw0]at hd
      subst hw0
      refine hK2 _ _ _ (Wkn.refl ⟨i+1,po,vo,hh,out,[],.hs p v 0 0 true,rfl,rfl,?_,?_,?_,?_,by omega,.inr ⟨p,v,rfl,hgw,hp1,hp2⟩,hg,⟨hfr,hpo⟩,hd,⟨by simp,by omega,by simp,fun _=>rfl⟩⟩) (by omega)
      all_goals first|exact zq F|rfl|omega|trivial|skip
  ·have d3:decide (i<rs.length)=false:=by simp;omega
   have hd:=done0 0 (.inr (by omega)) c2
   have F:=F2 F d3
   try refine sq F ?_
   refine wk F ?_
   rcases hx with⟨rfl,rfl⟩| ⟨p,v,rfl,hgw,hp1,hp2⟩
   ·rw[if_pos rfl]at hd
    try refine sq F ?_
    refine wk F ?_
    refine cq F (fun c5=>?_) (fun c5=>?_)<;>(try exact c5.elim)<;>(refine wk F ?_)
    refine hK2 _ _ _ (Wkn.refl ⟨i+1,po,vo,hh,out,[],.nil (.slice none 0 0),rfl,rfl,?_,?_,?_,?_,by omega,.inl ⟨rfl,rfl⟩,hg,⟨hfr,hpo⟩,hd,⟨by simp,by omega,by simp,fun _=>rfl⟩⟩) (by omega)
    all_goals first|exact zq F|rfl|omega|trivial|skip
   ·have hpl:=b9 hgw
    have hP:=iX G w hw3 (by omega) hgw
    have F:=F3 F hgw @ax
    try refine sq F ?_
    refine wk F ?_
    refine cq F (fun c5=>?_) (fun c5=>?_)<;>(try exact c5.elim)<;>(refine wk F ?_)
    ·have hw0:¬w=[]:=by rintro rfl;simp at c5
     rw[if_neg hw0]at hd
     refine kq F (hP) ?_
     refine aq F ?_
     try refine sq F ?_
     refine wk F ?_
     refine hK2 _ _ _ (Wkn.refl ⟨i+1,po,vo+1,hh.set po (.row 9 1 (vo+1) ((out++[encs w]).map .str)),out++[encs w],[],.nil (.slice none 0 0),rfl,by simp[encs],?_,?_,?_,?_,by omega,.inl ⟨rfl,rfl⟩,by rw[bJ _ _ _ _ _ hgl,if_pos rfl],⟨FrN.set _ hpo hfr,hpo⟩,hd,⟨by simp,by simp;omega,by simp,fun _=>rfl⟩⟩) (by omega)
     all_goals first|exact zq F|rfl|omega|trivial|skip
    ·have hw0:w=[]:=by cases w with|nil=>rfl|cons a l=>exfalso;simp only[List.length_cons]at c5;omega
     rw[if_pos hw0]at hd
     subst hw0
     refine hK2 _ _ _ (Wkn.refl ⟨i+1,po,vo,hh,out,[],.hs p v 0 0 true,rfl,rfl,?_,?_,?_,?_,by omega,.inr ⟨p,v,rfl,hgw,hp1,hp2⟩,hg,⟨hfr,hpo⟩,hd,⟨by simp,by omega,by simp,fun _=>rfl⟩⟩) (by omega)
     all_goals first|exact zq F|rfl|omega|trivial|skip
 ·have hie:i=rs.length+1:=by omega
  have hwe:=hw4 hie
  subst hwe
  rw[aI (by omega),wdsR,if_pos rfl]at hv
  obtain⟨j,rfl⟩:=hfr.behind (by omega)
  refine ee hQ F ?_
  rw[← hv]
  exact Fin.frz (iW hpo hg) ⟨rfl,rfl⟩
theorem ur(t:Bs)(h:Heap):Sat (CT G) 163 [.str t] h (fun r h'=>r=.bool (L0.tag t)∧h'=h):=by
 have hL:=iz G rightS cleanF (fun t ht h=>jA G t (by omega) h) (fun t ht h=>jB G t (by omega) h) t
 have hu:L0.tag t=((!(t==[])&&textF rightS cleanF t 64)&&isF t):=rfl
 rw[hu]
 cases hl:(!(t==[])&&textF rightS cleanF t 64)with
 |false=>
  rw[hl]at hL
  refine sb [.tmp 2] (fn:=Tryz.f163) Tryz.func163 ?_
  intro Q hQ
  refine wk trivial ?_
  refine kq trivial (hL _) ?_
  refine ee hQ trivial ?_
  exact Fin.same (.bool _) ⟨by simp,rfl⟩
 |true=>
  rw[hl]at hL
  have hlen:t.length≤64:=by
   rw[Bool.and_eq_true]at hl
   have:=hl.2
   unfold textF at this
   rw[Bool.and_eq_true,decide_eq_true_eq]at this
   omega
  have hwl:(wordsF t).length≤1000000:=by
   have h1:=iY (runesF (foldS t)) [] []
   have h2:=cP (foldS t).length (foldS t) (Nat.le_refl _)
   have h3:=gQ t
   rw[← jC]at h1
   simp only[List.length_nil]at h1
   omega
  have hS:=rP G (wordsF t) [t] hwl (by simp)
  refine sb [.tmp 2] (fn:=Tryz.f163) Tryz.func163 ?_
  intro Q hQ
  refine wk trivial ?_
  refine kq trivial (hL _) ?_
  refine kq trivial (q7 G t (by omega) _) ?_
  refine kq trivial (hS _) ?_
  refine ee hQ trivial ?_
  exact Fin.same (.bool _) ⟨by simp[isF],rfl⟩
end Go.Av
namespace Go.Av
open Go Go.Proofs Go.RowKit
def sumZ:List Int→Int
 | []=>0
 |a::l=>a+sumZ l
def S2{α:Type}(F:List α)(L:List It)(P:α→It→Bool):Int:=sumZ (F.map fun g=>(L.countP (P g):Int))
variable {s:PS}
def PS.inn(s:PS)(id:Int):Int:=((lkM s.fo id).map (·.inn)).getD 0
end Go.Av
