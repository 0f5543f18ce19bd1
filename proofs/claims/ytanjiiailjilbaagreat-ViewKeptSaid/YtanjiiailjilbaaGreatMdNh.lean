/- The document's answer: a folded text, its words; tags; moments. -/
import Derived.Test.YtanjiiailjilbaaGreatMdDa
import Derived.Test.YtanjiiailjilbaaGreatMdEc
import Derived.Test.YtanjiiailjilbaaGreatMdYr
set_option linter.unusedSimpArgs false
set_option linter.unusedVariables false
set_option linter.unusedSectionVars false
set_option linter.unnecessarySimpa false
set_option maxRecDepth 100000
set_option maxHeartbeats 4000000
namespace Go.Av
open Go Go.Proofs Go.RowKit
attribute [local irreducible] WP WPl WPix Sat
def textF(ri:Bs→Bool)(cl:Bs→Bs)(t:Bs)(n:Int):Bool:=decide ((t.length:Int)≤n)&&(ri t&&cl t==t)
variable (G:Nat→Option (List AVal))
theorem cL(ri:Bs→Bool)(cl:Bs→Bs)(hR:∀t,t.length≤1000→∀h,Sat (CT G) 263 [.str t] h (fun r h'=>r=.bool (ri t)∧h'=h))(hC:∀t,t.length≤1000→∀h,Sat (CT G) 264 [.str t] h (fun r h'=>r=.str (cl t)∧h'=h))(t:Bs)(n:Int)(hn:n≤1000)(h:Heap):Sat (CT G) 236 [.str t,.int .i64 n] h (fun r h'=>r=.bool (textF ri cl t n)∧h'=h):=by
 cases hl:decide ((t.length:Int)≤n)with
 |false=>
  have F:=hl
  refine sb [.tmp 4] (fn:=Tryz.f236) Tryz.func236 ?_
  intro Q hQ
  refine wk F ?_
  refine ee hQ F ?_
  exact Fin.same (.bool _) ⟨by simp[textF,hl],rfl⟩
 |true=>
  have hlt:t.length≤1000:=by have:=of_decide_eq_true hl;omega
  cases hr:ri t with
  |false=>
   have hR1:=hR t hlt
   rw[hr]at hR1
   have F:=hl
   refine sb [.tmp 4] (fn:=Tryz.f236) Tryz.func236 ?_
   intro Q hQ
   refine wk F ?_
   refine kq F (hR1 _) ?_
   refine ee hQ F ?_
   exact Fin.same (.bool _) ⟨by simp[textF,hl,hr],rfl⟩
  |true=>
   have hR1:=hR t hlt
   rw[hr]at hR1
   have F:=hl
   refine sb [.tmp 4] (fn:=Tryz.f236) Tryz.func236 ?_
   intro Q hQ
   refine wk F ?_
   refine kq F (hR1 _) ?_
   refine kq F (hC t hlt _) ?_
   refine ee hQ F ?_
   exact Fin.same (.bool _) ⟨by simp[textF,hl,hr],rfl⟩
theorem fB(ri:Bs→Bool)(cl:Bs→Bs)(hR:∀t,t.length≤1000→∀h,Sat (CT G) 263 [.str t] h (fun r h'=>r=.bool (ri t)∧h'=h))(hC:∀t,t.length≤1000→∀h,Sat (CT G) 264 [.str t] h (fun r h'=>r=.str (cl t)∧h'=h))(t:Bs)(h:Heap):Sat (CT G) 193 [.str t] h (fun r h'=>r=.bool (!(t==[])&&textF ri cl t 64)∧h'=h):=by
 cases k1:(t==[])with
 |true=>
  have k2:(t != [])=false:=by simpa using k1
  have F:=F2 k1 k2
  refine sb [.tmp 2] (fn:=Tryz.f193) Tryz.func193 ?_
  intro Q hQ
  refine wk F ?_
  refine ee hQ F ?_
  exact Fin.same (.bool _) ⟨by simp,rfl⟩
 |false=>
  have k2:(t != [])=true:=by simpa using k1
  have F:=F2 k1 k2
  refine sb [.tmp 2] (fn:=Tryz.f193) Tryz.func193 ?_
  intro Q hQ
  refine wk F ?_
  refine kq F (cL G ri cl hR hC t 64 (by omega) _) ?_
  refine ee hQ F ?_
  exact Fin.same (.bool _) ⟨by simp,rfl⟩
theorem kN(ri:Bs→Bool)(cl:Bs→Bs)(hR:∀t,t.length≤1000→∀h,Sat (CT G) 263 [.str t] h (fun r h'=>r=.bool (ri t)∧h'=h))(hC:∀t,t.length≤1000→∀h,Sat (CT G) 264 [.str t] h (fun r h'=>r=.str (cl t)∧h'=h))(t:Bs)(h:Heap):Sat (CT G) 195 [.str t] h (fun r h'=>r=.bool (textF ri cl t 256)∧h'=h):=by
 refine sb [.tmp 2] (fn:=Tryz.f195) Tryz.func195 ?_
 intro Q hQ
 refine wk trivial ?_
 refine kq trivial (cL G ri cl hR hC t 256 (by omega) _) ?_
 refine ee hQ trivial ?_
 exact Fin.same (.bool _) ⟨rfl,rfl⟩
theorem gL(ri:Bs→Bool)(cl:Bs→Bs)(hR:∀t,t.length≤1000→∀h,Sat (CT G) 263 [.str t] h (fun r h'=>r=.bool (ri t)∧h'=h))(hC:∀t,t.length≤1000→∀h,Sat (CT G) 264 [.str t] h (fun r h'=>r=.str (cl t)∧h'=h))(t:Bs)(h:Heap):Sat (CT G) 197 [.str t] h (fun r h'=>r=.bool (textF ri cl t 512)∧h'=h):=by
 refine sb [.tmp 2] (fn:=Tryz.f197) Tryz.func197 ?_
 intro Q hQ
 refine wk trivial ?_
 refine kq trivial (cL G ri cl hR hC t 512 (by omega) _) ?_
 refine ee hQ trivial ?_
 exact Fin.same (.bool _) ⟨rfl,rfl⟩
theorem kO(ri:Bs→Bool)(cl:Bs→Bs)(hR:∀t,t.length≤1000→∀h,Sat (CT G) 263 [.str t] h (fun r h'=>r=.bool (ri t)∧h'=h))(hC:∀t,t.length≤1000→∀h,Sat (CT G) 264 [.str t] h (fun r h'=>r=.str (cl t)∧h'=h))(t:Bs)(h:Heap):Sat (CT G) 199 [.str t] h (fun r h'=>r=.bool (!(t==[])&&textF ri cl t 512)∧h'=h):=by
 cases k1:(t==[])with
 |true=>
  have k2:(t != [])=false:=by simpa using k1
  have F:=F2 k1 k2
  refine sb [.tmp 2] (fn:=Tryz.f199) Tryz.func199 ?_
  intro Q hQ
  refine wk F ?_
  refine ee hQ F ?_
  exact Fin.same (.bool _) ⟨by simp,rfl⟩
 |false=>
  have k2:(t != [])=true:=by simpa using k1
  have F:=F2 k1 k2
  refine sb [.tmp 2] (fn:=Tryz.f199) Tryz.func199 ?_
  intro Q hQ
  refine wk F ?_
  refine kq F (cL G ri cl hR hC t 512 (by omega) _) ?_
  refine ee hQ F ?_
  exact Fin.same (.bool _) ⟨by simp,rfl⟩
end Go.Av
namespace Go.Av
open Go Go.Proofs Go.RowKit
attribute [local irreducible] WP WPl WPix Sat
variable (G:Nat→Option (List AVal))
def L0:Leaf where
 label:=fun t=> !(t==[])&&textF rightS cleanF t 64
 title:=fun t=>textF rightS cleanF t 256
 link:=fun t=>textF rightS cleanF t 512
 tag:=fun t=>(!(t==[])&&textF rightS cleanF t 64)&&isF t
 query:=fun t=> !(t==[])&&textF rightS cleanF t 512
 moment:=momF
theorem R0(t:Bs)(ht:t.length≤1000)(h:Heap):Sat (CT G) 263 [.str t] h (fun r h'=>r=.bool (rightS t)∧h'=h):=mC G t (by omega) h
theorem C0(t:Bs)(ht:t.length≤1000)(h:Heap):Sat (CT G) 264 [.str t] h (fun r h'=>r=.str (cleanF t)∧h'=h):=mB G t (by omega) h
theorem pB(t:Bs)(h:Heap):Sat (CT G) 198 [.str t] h (fun r h'=>r=.bool (L0.tag t)∧h'=h):=by
 have hL:=fB G rightS cleanF (R0 G) (C0 G) t
 have hu:L0.tag t=((!(t==[])&&textF rightS cleanF t 64)&&isF t):=rfl
 rw[hu]
 cases hl:(!(t==[])&&textF rightS cleanF t 64)with
 |false=>
  rw[hl]at hL
  refine sb [.tmp 2] (fn:=Tryz.f198) Tryz.func198 ?_
  intro Q hQ
  refine wk trivial ?_
  refine kq trivial (hL _) ?_
  refine ee hQ trivial ?_
  exact Fin.same (.bool _) ⟨by simp,rfl⟩
 |true=>
  rw[hl]at hL
  have hlen:t.length≤64:=by
   rw[Bool.and_eq_true]at hl
   have:=hl.2
   unfold textF at this
   rw[Bool.and_eq_true,decide_eq_true_eq]at this
   omega
  refine sb [.tmp 2] (fn:=Tryz.f198) Tryz.func198 ?_
  intro Q hQ
  refine wk trivial ?_
  refine kq trivial (hL _) ?_
  refine kq trivial (qp G t (by omega) _) ?_
  refine ee hQ trivial ?_
  exact Fin.same (.bool _) ⟨by simp,rfl⟩
theorem mO(e:Ev)(h:Heap):Sat (CT G) 92 [e.av] h (fun r h'=>r=.int .i64 (if L0.ck e then 0 else 140)∧h'=h):=
 kH G L0 e (kM G L0 (fB G rightS cleanF (R0 G) (C0 G)) (kN G rightS cleanF (R0 G) (C0 G)) (gL G rightS cleanF (R0 G) (C0 G)) (kL G L0 (gL G rightS cleanF (R0 G) (C0 G))) (pB G) (kO G rightS cleanF (R0 G) (C0 G)) (kJ G) e) h
theorem gO(s:PS)(h:s.Inv)(e:Ev){H:Heap}{n:Nat}(hn:n+9≤H.length):Sat (CT G) 21 [.hp (n+8) 0 0 0,e.av] (so H n s) (fun r h'=>r=.bool (s.ok L0 e)∧h'=so H n (s.step L0 e)):=by
 obtain⟨d1,d2⟩:=h.deep e.b
 obtain⟨g1,g2⟩:=h.tags e.a
 have hl:=(⟨Nat.le_trans h.l1 (by omega),Nat.le_trans h.l2 (by omega),Nat.le_trans h.l3 (by omega),Nat.le_trans h.l4 (by omega)⟩:s.fo.length≤100∧s.fe.length≤100∧s.it.length≤2000∧s.se.length≤100)
 exact kG G s e (s.ok L0 e) (tgF ((lkM s.it e.a).getD It.z).tags e.s e.n) h.w3 h.w7 h.few (pz h _ _ (by omega))
  (fun n H hn=>mN G s e (L0.ck e) 7 (s.dpt e.b) d1 (by omega) hl (mO G e) (fun n H hn=>(iO G s e.a e.s g1 (by omega) hn).mono fun r h' ⟨hr,hh⟩=>⟨⟨_,hr⟩,hh⟩) hn)
  (fun n H hn=>jQ G s e g1 (by omega) hn) hn
theorem iP(es:List Ev)(hl:es.length≤1048576)(h:Heap):Sat (CT G) 13 [.sl 7 (es.map Ev.av)] h (fun r h'=>r=.hp (h.length+8) 0 0 0∧h'=so (h++PS.z.bl h.length) h.length (es.foldl (PS.step L0) PS.z)):=
 mM G es hl PS.Inv (PS.ok L0) (PS.step L0) .z (fun s e _ h=>h.step e) (fun s e _ h n H hn=>gO G s h e hn) h
end Go.Av
namespace Go.Av
open Go Go.Proofs Go.RowKit
attribute [local irreducible] WP WPl WPix Sat
def sc(Y:Heap)(n:Nat)(s:PS)(m:Nat)(c:CS):Heap:=so (co Y m c) n s
section
variable {Y:Heap} {n m:Nat} {s:PS} {c:CS}
end
variable (G:Nat→Option (List AVal))
section
variable {Y:Heap} {n m:Nat} {s:PS} {c:CS}
end
def lgE(e:Ev):Bool:=decide ((e.s.length:Int)>1000)||(decide ((e.t.length:Int)>1000)||decide ((e.u.length:Int)>1000))
theorem o2(e:Ev)(h:Heap):Sat (CT G) 40 [e.av] h (fun r h'=>r=.bool (lgE e)∧h'=h):=by
 refine sb [.tmp 2] (fn:=Tryz.f40) Tryz.func40 ?_
 intro Q hQ
 refine wk trivial ?_
 cases k1:decide ((e.s.length:Int)>1000)with
 |true=>
  have F:=k1
  try refine sq F ?_
  refine wk F ?_
  refine ee hQ F ?_
  exact Fin.plain (.bool _) ⟨by simp[lgE,k1],rfl⟩
 |false=>
  cases k2:decide ((e.t.length:Int)>1000)with
  |true=>
   have F:=F2 k1 k2
   try refine sq F ?_
   refine wk F ?_
   refine ee hQ F ?_
   exact Fin.plain (.bool _) ⟨by simp[lgE,k1,k2],rfl⟩
  |false=>
   have F:=F2 k1 k2
   try refine sq F ?_
   refine wk F ?_
   refine ee hQ F ?_
   exact Fin.plain (.bool _) ⟨by simp[lgE,k1,k2],rfl⟩
def lgF(es:List Ev):Bool:=decide ((es.length:Int)>150)||es.any lgE
theorem dq(es:List Ev)(h:Heap):Sat (CT G) 10 [.sl 7 (es.map Ev.av)] h (fun r h'=>r=.bool (lgF es)∧h'=h):=by
 refine sb [.tmp 2] (fn:=Tryz.f10) Tryz.func10 ?_
 intro Q hQ
 refine wk trivial ?_
 have hel:(es.map Ev.av).length=es.length:=List.length_map ..
 have F:=hel
 try refine sq F ?_
 refine cq F (fun c0=>?_) (fun c0=>?_)<;>(try exact c0.elim)<;>(refine wk F ?_)
 ·refine ee hQ F ?_
  exact Fin.same (.bool _) ⟨by simp[lgF];omega,rfl⟩
 ·refine lm (fun nL tL hL=>∃(k:Nat),es.length-k=nL∧[]++h=hL∧tL 0=.sl 7 (es.map Ev.av)∧tL 3=.int .i64 k∧k≤es.length∧(∀e∈es.take k,lgE e=false)) ((fun(k:Nat)=>(es.length-k:Nat)) (0)) ?_ ?_
  ·refine Wkn.refl ⟨0,rfl,rfl,?_,?_,by omega,by simp⟩
   all_goals first|exact zq F|rfl|omega|trivial|skip
  rintro _ s2 h' ⟨k,rfl,rfl,e0,e3,hk,hp⟩ K2 hK2
  simp only[aj,ak,Nat.reduceEqDiff, ↓reduceIte]at e0 e3
  have F:=F3 F e0 e3
  refine wk F ?_
  refine cq F (fun c1=>?_) (fun c1=>?_)<;>(try exact c1.elim)<;>(refine wk F ?_)
  ·have c2:k<es.length:=by omega
   obtain⟨e,he,_⟩:=ah c2
   have F:=F3 F c2 he
   try refine sq F ?_
   refine wk F ?_
   refine kq F (o2 G e _) ?_
   refine cq F (fun c3=>?_) (fun c3=>?_)<;>(try exact c3.elim)<;>(refine wk F ?_)
   ·refine ee hQ F ?_
    exact Fin.same (.bool _) ⟨by
     have:es.any lgE=true:=List.any_eq_true.2 ⟨e,List.mem_of_getElem? he,c3⟩
     simp[lgF,this],rfl⟩
   ·have hp1:∀x∈es.take (k+1),lgE x=false:=by
     rw[List.take_add_one,he]
     intro x hx
     simp at hx
     rcases hx with hx|rfl
     ·exact hp x hx
     ·exact c3
    refine hK2 _ _ _ (Wkn.refl ⟨k+1,rfl,rfl,?_,?_,by omega,hp1⟩) (by omega)
    all_goals first|exact zq F|rfl|omega|trivial|skip
  ·rw[List.take_of_length_le (by omega)]at hp
   refine ee hQ F ?_
   exact Fin.same (.bool _) ⟨by
    have:es.any lgE=false:=by rw[List.any_eq_false];intro x hx;rw[hp x hx];simp
    simp[lgF,this];omega,rfl⟩
instance:DecidableEq Ct:=fun x y=>by
 cases x;cases y;simp only[Ct.mk.injEq];exact inferInstance
end Go.Av
namespace Go.Av
open Go.RowKit
section
variable {C:Ctx}
end
end Go.Av
namespace Go.Av
open Go Go.Proofs Go.RowKit
attribute [local irreducible] WP WPl WPix Sat
variable (G:Nat→Option (List AVal))
end Go.Av
