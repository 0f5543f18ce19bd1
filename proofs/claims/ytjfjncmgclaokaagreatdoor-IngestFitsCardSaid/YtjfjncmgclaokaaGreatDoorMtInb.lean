/- Are events too large? -/
import Derived.Test.YtjfjncmgclaokaaGreatDoorMtDa
import Derived.Test.YtjfjncmgclaokaaGreatDoorMtEc
import Derived.Test.YtjfjncmgclaokaaGreatDoorMtPb
set_option linter.unusedSimpArgs false
set_option linter.unusedVariables false
set_option linter.unusedSectionVars false
set_option linter.unnecessarySimpa false
set_option maxRecDepth 100000
set_option maxHeartbeats 16000000
namespace Go.Av
open Go Go.Proofs Go.RowKit
attribute [local irreducible] WP WPl WPix Sat
variable (G:Nat→Option (List AVal))
def L0:Leaf where
 label:=fun t=> !(t==[])&&textF rightS cleanF t 64
 title:=fun t=>textF rightS cleanF t 256
 link:=fun t=>textF rightS cleanF t 512
 tag:=fun t=>(!(t==[])&&textF rightS cleanF t 64)&&isF t
 query:=fun t=> !(t==[])&&textF rightS cleanF t 512
 moment:=momF
theorem R0(t:Bs)(ht:t.length≤1000)(h:Heap):Sat (CT G) 75 [.str t] h (fun r h'=>r=.bool (rightS t)∧h'=h):=iK G t (by omega) h
theorem C0(t:Bs)(ht:t.length≤1000)(h:Heap):Sat (CT G) 76 [.str t] h (fun r h'=>r=.str (cleanF t)∧h'=h):=db G t (by omega) h
theorem qG(t:Bs)(h:Heap):Sat (CT G) 213 [.str t] h (fun r h'=>r=.bool (L0.tag t)∧h'=h):=by
 have hL:=gH G rightS cleanF (R0 G) (C0 G) t
 have hu:L0.tag t=((!(t==[])&&textF rightS cleanF t 64)&&isF t):=rfl
 rw[hu]
 cases hl:(!(t==[])&&textF rightS cleanF t 64)with
 |false=>
  rw[hl]at hL
  refine sb [.tmp 2] (fn:=Tryz.f213) Tryz.func213 ?_
  intro Q hQ
  refine wk trivial ?_
  refine kq trivial (hL _) ?_
  refine ee hQ trivial ?_
  exact Fin.same (.bool _) ⟨by simp,rfl⟩
 |true=>
  rw[hl]at hL
  have hlen:t.length≤64:=by
   rw[Bool.and_eq_true]at hl
   have:=hl.2
   unfold textF at this
   rw[Bool.and_eq_true,decide_eq_true_eq]at this
   omega
  refine sb [.tmp 2] (fn:=Tryz.f213) Tryz.func213 ?_
  intro Q hQ
  refine wk trivial ?_
  refine kq trivial (hL _) ?_
  refine kq trivial (rV G t (by omega) _) ?_
  refine ee hQ trivial ?_
  exact Fin.same (.bool _) ⟨by simp,rfl⟩
theorem nV(e:Ev)(h:Heap):Sat (CT G) 95 [e.av] h (fun r h'=>r=.int .i64 (if L0.ck e then 0 else 140)∧h'=h):=
 lL G L0 e (lO G L0 (gH G rightS cleanF (R0 G) (C0 G)) (lP G rightS cleanF (R0 G) (C0 G)) (iQ G rightS cleanF (R0 G) (C0 G)) (lN G L0 (iQ G rightS cleanF (R0 G) (C0 G))) (qG G) (lQ G rightS cleanF (R0 G) (C0 G)) (lM G) e) h
theorem de(s:PS)(h:s.Inv)(e:Ev){H:Heap}{n:Nat}(hn:n+9≤H.length):Sat (CT G) 28 [.hp (n+8) 0 0 0,e.av] (so H n s) (fun r h'=>r=.bool (s.ok L0 e)∧h'=so H n (s.step L0 e)):=by
 obtain⟨d1,d2⟩:=h.deep e.b
 obtain⟨g1,g2⟩:=h.tags e.a
 have hl:=(⟨Nat.le_trans h.l1 (by omega),Nat.le_trans h.l2 (by omega),Nat.le_trans h.l3 (by omega),Nat.le_trans h.l4 (by omega)⟩:s.fo.length≤100∧s.fe.length≤100∧s.it.length≤2000∧s.se.length≤100)
 exact lK G s e (s.ok L0 e) (tgF ((lkM s.it e.a).getD It.z).tags e.s e.n) h.w3 h.w7 h.few (qE h _ _ (by omega))
  (fun n H hn=>nU G s e (L0.ck e) 7 (s.dpt e.b) d1 (by omega) hl (nV G e) (fun n H hn=>(jI G s e.a e.s g1 (by omega) hn).mono fun r h' ⟨hr,hh⟩=>⟨⟨_,hr⟩,hh⟩) hn)
  (fun n H hn=>l6 G s e g1 (by omega) hn) hn
theorem fK(es:List Ev)(hl:es.length≤1048576)(h:Heap):Sat (CT G) 20 [.sl 7 (es.map Ev.av)] h (fun r h'=>r=.hp (h.length+8) 0 0 0∧h'=so (h++PS.z.bl h.length) h.length (es.foldl (PS.step L0) PS.z)):=
 nT G es hl PS.Inv (PS.ok L0) (PS.step L0) .z (fun s e _ h=>h.step e) (fun s e _ h n H hn=>de G s h e hn) h
end Go.Av
namespace Go.Av
open Go Go.Proofs Go.RowKit
theorem dh(s:PS)(id k:Int):(s.hold id k).it=s.it:=by rw[bI]
theorem tE(s:PS)(e:Ev):(s.aft e).it=
  if e.kind=4 then itF s.it ((lkM s.fe e.a).getD Fe.z).id
  else if e.kind=7 then upM s.it s.c3 e.a ⟨e.a,e.b,e.n,e.s,e.t,e.u,false,false,[]⟩
  else if e.kind=8 then upM s.it s.c3 e.a {(lkM s.it e.a).getD It.z with read:=e.n==1}
  else if e.kind=9 then upM s.it s.c3 e.a {(lkM s.it e.a).getD It.z with star:=e.n==1}
  else if e.kind=10 then upM s.it s.c3 e.a {(lkM s.it e.a).getD It.z with tags:=tgF ((lkM s.it e.a).getD It.z).tags e.s e.n}
  else s.it:=by
 unfold PS.aft PS.after
 by_cases k2:e.kind=2
 ·rw[if_pos k2,dh,if_neg (by omega),if_neg (by omega),if_neg (by omega),if_neg (by omega),if_neg (by omega)];rfl
 by_cases k4:e.kind=4
 ·rw[if_neg k2,if_pos k4,if_pos k4,PS.unfeed,dh];rfl
 rw[if_neg k2,if_neg k4,if_neg k4]
 by_cases k5:e.kind=5
 ·rw[if_pos k5,if_neg (by omega),if_neg (by omega),if_neg (by omega),if_neg (by omega)];rfl
 rw[if_neg k5]
 by_cases k6:e.kind=6
 ·rw[if_pos k6,if_neg (by omega),if_neg (by omega),if_neg (by omega),if_neg (by omega)]
  show((s.hold _ _).hold _ _).it=_
  rw[dh,dh]
 rw[if_neg k6]
 by_cases k7:e.kind=7
 ·rw[if_neg (by omega),if_neg (by omega),if_neg (by omega),if_neg (by omega),if_neg (by omega),PS.make,if_neg (by omega),if_neg (by omega),if_pos k7,if_pos k7];rfl
 rw[if_neg k7]
 by_cases k8:e.kind=8
 ·rw[if_pos k8,if_pos k8];rfl
 rw[if_neg k8,if_neg k8]
 by_cases k9:e.kind=9
 ·rw[if_pos k9,if_pos k9];rfl
 rw[if_neg k9,if_neg k9]
 by_cases k10:e.kind=10
 ·rw[if_pos k10,if_pos k10];rfl
 rw[if_neg k10,if_neg k10]
 by_cases k12:e.kind=12
 ·rw[if_pos k12];rfl
 rw[if_neg k12]
 by_cases k13:e.kind=13
 ·rw[if_pos k13]
 rw[if_neg k13,PS.make]
 by_cases k1:e.kind=1
 ·rw[if_pos k1]
  show((((s.upFo e.a _).upNm _ _).hold _ _)).it=_
  rw[dh];rfl
 rw[if_neg k1]
 by_cases k3:e.kind=3
 ·rw[if_pos k3]
  show((((s.upFe e.a _).upPl _ _).hold _ _)).it=_
  rw[dh];rfl
 rw[if_neg k3,if_neg k7]
 split<;>rfl
end Go.Av
namespace Go.Av
open Go Go.Proofs Go.RowKit
variable {s:PS} {e:Ev}
end Go.Av
namespace Go.Av
open Go Go.Proofs Go.RowKit
variable {s:PS} {e:Ev}
theorem cT(s:PS)(id k:Int):(s.hold id k).t3=s.t3∧(s.hold id k).clock=s.clock:=by rw[bI];exact⟨rfl,rfl⟩
theorem tF(s:PS)(e:Ev)(h:e.kind≠7):(s.make e).t3=s.t3∧(s.make e).clock=s.clock:=by
 unfold PS.make
 split
 ·exact cT _ _ _
 split
 ·exact cT _ _ _
 split<;>exact⟨rfl,rfl⟩
theorem vP(s:PS)(e:Ev):(s.aft e).t3=(if e.kind=7 then(if e.a>s.t3 then e.a else s.t3)else s.t3)∧(s.aft e).clock=(if e.kind=13 then e.n else s.clock):=by
 unfold PS.aft PS.after
 by_cases k7:e.kind=7
 ·rw[if_neg (by omega),if_neg (by omega),if_neg (by omega),if_neg (by omega),if_neg (by omega),if_neg (by omega),if_neg (by omega),if_neg (by omega),if_neg (by omega),PS.make,if_neg (by omega),if_neg (by omega),if_pos k7,if_pos k7]
  exact⟨rfl,by rw[if_neg (by omega:¬e.kind=13)];rfl⟩
 rw[if_neg k7]
 by_cases k13:e.kind=13
 ·rw[if_neg (by omega),if_neg (by omega),if_neg (by omega),if_neg (by omega),if_neg (by omega),if_neg (by omega),if_neg (by omega),if_neg (by omega),if_pos k13,if_pos k13]
  exact⟨rfl,rfl⟩
 rw[if_neg k13,if_neg k13]
 split
 ·exact cT _ _ _
 split
 ·exact cT _ _ _
 split
 ·exact⟨rfl,rfl⟩
 split
 ·exact⟨(cT _ _ _).1.trans (cT _ _ _).1,(cT _ _ _).2.trans (cT _ _ _).2⟩
 split
 ·exact⟨rfl,rfl⟩
 split
 ·exact⟨rfl,rfl⟩
 split
 ·exact⟨rfl,rfl⟩
 split
 ·exact⟨rfl,rfl⟩
 exact tF s e k7
structure PS.Tops (s:PS):Prop where
 i:∀k t,lkM s.it k=some t→k≤s.t3
 z:0≤s.t3
 m:s.t3≤1048576
 c:momF s.clock=true
theorem PS.Tops.z0:PS.z.Tops where
 i:=fun _ _ h=>by cases h
 z:=by simp[PS.z]
 m:=by simp[PS.z]
 c:=by simp[PS.z,momF]
theorem PS.Tops.step(h:s.Tops)(hI:s.Inv)(e:Ev):(s.step L0 e).Tops:=by
 unfold PS.step
 split
 ·rename_i hok
  unfold PS.ok PS.fits at hok
  rw[Bool.and_eq_true]at hok
  obtain⟨hck,hf⟩:=hok
  have hr:L0.right e=true:=by unfold Leaf.ck at hck;simp only[Bool.and_eq_true]at hck;exact hck.1
  have hs:=fun {k:Int} (hk:(lkM s.it k).isSome=true)=>bv hk
  obtain⟨e1,e2⟩:=vP s e
  have hz:=h.z
  have hm:=h.m
  refine⟨fun k t hk=>?_,?_,?_,?_⟩
  ·rw[e1]
   rw[tE]at hk
   have old:∀{t},lkM s.it k=some t→k≤s.t3:=fun h1=>h.i k _ h1
   have up:∀{v:It} {p:Prop},(lkM s.it e.a).isSome=true→lkM (upM s.it s.c3 e.a v) k=some t→k≤s.t3:=fun {v p} hi h1=>by
    rcases aV h1 with⟨rfl,_⟩| ⟨_,h1⟩
    ·obtain⟨t',h2⟩:=bv hi;exact h.i _ _ h2
    ·exact h.i _ _ h1
   split at hk
   ·have:=old (gp hI.w3.keys hk);split<;>(try split)<;>omega
   split at hk
   ·rw[if_pos (by assumption)]
    rcases aV hk with⟨rfl,_⟩| ⟨_,hk⟩
    ·split<;>omega
    ·have:=old hk;split<;>omega
   rename_i k4 k7
   rw[if_neg k7]
   rw[if_neg (by omega:¬e.kind=7)]at hf
   split at hk
   ·rename_i k8
    rw[if_neg (by omega),if_neg (by omega),if_neg (by omega),if_neg (by omega),if_neg (by omega),if_pos (.inl k8)]at hf
    exact up (p:=True) hf hk
   split at hk
   ·rename_i k9
    rw[if_neg (by omega),if_neg (by omega),if_neg (by omega),if_neg (by omega),if_neg (by omega),if_pos (.inr k9)]at hf
    exact up (p:=True) hf hk
   split at hk
   ·rename_i k10
    rw[if_neg (by omega),if_neg (by omega),if_neg (by omega),if_neg (by omega),if_neg (by omega),if_neg (by omega),if_pos k10]at hf
    simp only[Bool.and_eq_true]at hf
    exact up (p:=True) hf.1 hk
   ·exact old hk
  ·rw[e1];split<;>(try split)<;>omega
  ·rw[e1];split
   ·have:=l7 hr (by omega);split<;>omega
   ·exact hm
  ·rw[e2];split
   ·rename_i k13
    unfold Leaf.right at hr
    rw[if_neg (by omega),if_neg (by omega),if_neg (by omega),if_neg (by omega),if_neg (by omega),if_neg (by omega),if_neg (by omega),if_neg (by omega),if_neg (by omega),if_pos k13]at hr
    exact hr
   ·exact h.c
 ·exact h
theorem PS.Tops.fold(h:s.Tops)(hI:s.Inv)(l:List Ev):(l.foldl (PS.step L0) s).Tops:=by
 induction l generalizing s with
 |nil=>exact h
 |cons e l ih=>exact ih (h.step hI e) (hI.step e)
end Go.Av
namespace Go.Av
open Go Go.Proofs Go.RowKit
attribute [local irreducible] WP WPl WPix Sat
variable (G:Nat→Option (List AVal))
def lgE(e:Ev):Bool:=decide ((e.s.length:Int)>1000)||(decide ((e.t.length:Int)>1000)||decide ((e.u.length:Int)>1000))
theorem lT(e:Ev)(h:Heap):Sat (CT G) 44 [e.av] h (fun r h'=>r=.bool (lgE e)∧h'=h):=by
 refine sb [.tmp 2] (fn:=Tryz.f44) Tryz.func44 ?_
 intro Q hQ
 refine wk trivial ?_
 cases k1:decide ((e.s.length:Int)>1000)with
 |true=>
  have F:=k1
  try refine sq F ?_
  refine wk F ?_
  refine ee hQ F ?_
  exact Fin.plain (.bool _) ⟨by simp[lgE,k1],rfl⟩
 |false=>
  cases k2:decide ((e.t.length:Int)>1000)with
  |true=>
   have F:=F2 k1 k2
   try refine sq F ?_
   refine wk F ?_
   refine ee hQ F ?_
   exact Fin.plain (.bool _) ⟨by simp[lgE,k1,k2],rfl⟩
  |false=>
   have F:=F2 k1 k2
   try refine sq F ?_
   refine wk F ?_
   refine ee hQ F ?_
   exact Fin.plain (.bool _) ⟨by simp[lgE,k1,k2],rfl⟩
def lgF(es:List Ev):Bool:=decide ((es.length:Int)>150)||es.any lgE
theorem dT(es:List Ev)(h:Heap):Sat (CT G) 19 [.sl 7 (es.map Ev.av)] h (fun r h'=>r=.bool (lgF es)∧h'=h):=by
 refine sb [.tmp 2] (fn:=Tryz.f19) Tryz.func19 ?_
 intro Q hQ
 refine wk trivial ?_
 have hel:(es.map Ev.av).length=es.length:=List.length_map ..
 have F:=hel
 try refine sq F ?_
 refine cq F (fun c0=>?_) (fun c0=>?_)<;>(try exact c0.elim)<;>(refine wk F ?_)
 ·refine ee hQ F ?_
  exact Fin.same (.bool _) ⟨by simp[lgF];omega,rfl⟩
 ·refine lm (fun nL tL hL=>∃(k:Nat),es.length-k=nL∧[]++h=hL∧tL 0=.sl 7 (es.map Ev.av)∧tL 3=.int .i64 k∧k≤es.length∧(∀e∈es.take k,lgE e=false)) ((fun(k:Nat)=>(es.length-k:Nat)) (0)) ?_ ?_
  ·refine Wkn.refl ⟨0,rfl,rfl,?_,?_,by omega,by simp⟩
   all_goals first|exact zq F|rfl|omega|trivial|skip
  rintro _ s2 h' ⟨k,rfl,rfl,e0,e3,hk,hp⟩ K2 hK2
  simp only[am,ao,Nat.reduceEqDiff, ↓reduceIte]at e0 e3
  have F:=F3 F e0 e3
  refine wk F ?_
  refine cq F (fun c1=>?_) (fun c1=>?_)<;>(try exact c1.elim)<;>(refine wk F ?_)
  ·have c2:k<es.length:=by omega
   obtain⟨e,he,_⟩:=ak c2
   have F:=F3 F c2 he
   try refine sq F ?_
   refine wk F ?_
   refine kq F (lT G e _) ?_
   refine cq F (fun c3=>?_) (fun c3=>?_)<;>(try exact c3.elim)<;>(refine wk F ?_)
   ·refine ee hQ F ?_
    exact Fin.same (.bool _) ⟨by
     have:es.any lgE=true:=List.any_eq_true.2 ⟨e,List.mem_of_getElem? he,c3⟩
     simp[lgF,this],rfl⟩
   ·have hp1:∀x∈es.take (k+1),lgE x=false:=by
     rw[List.take_add_one,he]
     intro x hx
     simp at hx
     rcases hx with hx|rfl
     ·exact hp x hx
     ·exact c3
    refine hK2 _ _ _ (Wkn.refl ⟨k+1,rfl,rfl,?_,?_,by omega,hp1⟩) (by omega)
    all_goals first|exact zq F|rfl|omega|trivial|skip
  ·rw[List.take_of_length_le (by omega)]at hp
   refine ee hQ F ?_
   exact Fin.same (.bool _) ⟨by
    have:es.any lgE=false:=by rw[List.any_eq_false];intro x hx;rw[hp x hx];simp
    simp[lgF,this];omega,rfl⟩
end Go.Av
