/- The program's state: names, places and texts by which things are told apart (plain). -/
import Derived.Test.YtljpbjilgehfgaaGreatMfNf
import Derived.Test.YtljpbjilgehfgaaGreatMfCj
import Derived.Test.YtljpbjilgehfgaaGreatMfEc
set_option linter.unusedSimpArgs false
set_option linter.unusedVariables false
set_option linter.unusedSectionVars false
set_option linter.unnecessarySimpa false
set_option maxRecDepth 100000
set_option maxHeartbeats 16000000
namespace Go.Av
open Go Go.Proofs Go.RowKit
attribute [local irreducible] WP WPl WPix Sat
def textF(ri:Bs→Bool)(cl:Bs→Bs)(t:Bs)(n:Int):Bool:=decide ((t.length:Int)≤n)&&(ri t&&cl t==t)
variable (G:Nat→Option (List AVal))
theorem dv(ri:Bs→Bool)(cl:Bs→Bs)(hR:∀t,t.length≤1000→∀h,Sat (CT G) 278 [.str t] h (fun r h'=>r=.bool (ri t)∧h'=h))(hC:∀t,t.length≤1000→∀h,Sat (CT G) 279 [.str t] h (fun r h'=>r=.str (cl t)∧h'=h))(t:Bs)(n:Int)(hn:n≤1000)(h:Heap):Sat (CT G) 248 [.str t,.int .i64 n] h (fun r h'=>r=.bool (textF ri cl t n)∧h'=h):=by
 cases hl:decide ((t.length:Int)≤n)with
 |false=>
  have F:=hl
  refine sb [.tmp 4] (fn:=Tryz.f248) Tryz.func248 ?_
  intro Q hQ
  refine wk F ?_
  refine ee hQ F ?_
  exact Fin.same (.bool _) ⟨by simp[textF,hl],rfl⟩
 |true=>
  have hlt:t.length≤1000:=by have:=of_decide_eq_true hl;omega
  cases hr:ri t with
  |false=>
   have hR1:=hR t hlt
   rw[hr]at hR1
   have F:=hl
   refine sb [.tmp 4] (fn:=Tryz.f248) Tryz.func248 ?_
   intro Q hQ
   refine wk F ?_
   refine kq F (hR1 _) ?_
   refine ee hQ F ?_
   exact Fin.same (.bool _) ⟨by simp[textF,hl,hr],rfl⟩
  |true=>
   have hR1:=hR t hlt
   rw[hr]at hR1
   have F:=hl
   refine sb [.tmp 4] (fn:=Tryz.f248) Tryz.func248 ?_
   intro Q hQ
   refine wk F ?_
   refine kq F (hR1 _) ?_
   refine kq F (hC t hlt _) ?_
   refine ee hQ F ?_
   exact Fin.same (.bool _) ⟨by simp[textF,hl,hr],rfl⟩
theorem gZ(ri:Bs→Bool)(cl:Bs→Bs)(hR:∀t,t.length≤1000→∀h,Sat (CT G) 278 [.str t] h (fun r h'=>r=.bool (ri t)∧h'=h))(hC:∀t,t.length≤1000→∀h,Sat (CT G) 279 [.str t] h (fun r h'=>r=.str (cl t)∧h'=h))(t:Bs)(h:Heap):Sat (CT G) 197 [.str t] h (fun r h'=>r=.bool (!(t==[])&&textF ri cl t 64)∧h'=h):=by
 cases k1:(t==[])with
 |true=>
  have k2:(t != [])=false:=by simpa using k1
  have F:=F2 k1 k2
  refine sb [.tmp 2] (fn:=Tryz.f197) Tryz.func197 ?_
  intro Q hQ
  refine wk F ?_
  refine ee hQ F ?_
  exact Fin.same (.bool _) ⟨by simp,rfl⟩
 |false=>
  have k2:(t != [])=true:=by simpa using k1
  have F:=F2 k1 k2
  refine sb [.tmp 2] (fn:=Tryz.f197) Tryz.func197 ?_
  intro Q hQ
  refine wk F ?_
  refine kq F (dv G ri cl hR hC t 64 (by omega) _) ?_
  refine ee hQ F ?_
  exact Fin.same (.bool _) ⟨by simp,rfl⟩
theorem mZ(ri:Bs→Bool)(cl:Bs→Bs)(hR:∀t,t.length≤1000→∀h,Sat (CT G) 278 [.str t] h (fun r h'=>r=.bool (ri t)∧h'=h))(hC:∀t,t.length≤1000→∀h,Sat (CT G) 279 [.str t] h (fun r h'=>r=.str (cl t)∧h'=h))(t:Bs)(h:Heap):Sat (CT G) 199 [.str t] h (fun r h'=>r=.bool (textF ri cl t 256)∧h'=h):=by
 refine sb [.tmp 2] (fn:=Tryz.f199) Tryz.func199 ?_
 intro Q hQ
 refine wk trivial ?_
 refine kq trivial (dv G ri cl hR hC t 256 (by omega) _) ?_
 refine ee hQ trivial ?_
 exact Fin.same (.bool _) ⟨rfl,rfl⟩
theorem ja(ri:Bs→Bool)(cl:Bs→Bs)(hR:∀t,t.length≤1000→∀h,Sat (CT G) 278 [.str t] h (fun r h'=>r=.bool (ri t)∧h'=h))(hC:∀t,t.length≤1000→∀h,Sat (CT G) 279 [.str t] h (fun r h'=>r=.str (cl t)∧h'=h))(t:Bs)(h:Heap):Sat (CT G) 201 [.str t] h (fun r h'=>r=.bool (textF ri cl t 512)∧h'=h):=by
 refine sb [.tmp 2] (fn:=Tryz.f201) Tryz.func201 ?_
 intro Q hQ
 refine wk trivial ?_
 refine kq trivial (dv G ri cl hR hC t 512 (by omega) _) ?_
 refine ee hQ trivial ?_
 exact Fin.same (.bool _) ⟨rfl,rfl⟩
theorem na(ri:Bs→Bool)(cl:Bs→Bs)(hR:∀t,t.length≤1000→∀h,Sat (CT G) 278 [.str t] h (fun r h'=>r=.bool (ri t)∧h'=h))(hC:∀t,t.length≤1000→∀h,Sat (CT G) 279 [.str t] h (fun r h'=>r=.str (cl t)∧h'=h))(t:Bs)(h:Heap):Sat (CT G) 202 [.str t] h (fun r h'=>r=.bool (!(t==[])&&textF ri cl t 512)∧h'=h):=by
 cases k1:(t==[])with
 |true=>
  have k2:(t != [])=false:=by simpa using k1
  have F:=F2 k1 k2
  refine sb [.tmp 2] (fn:=Tryz.f202) Tryz.func202 ?_
  intro Q hQ
  refine wk F ?_
  refine ee hQ F ?_
  exact Fin.same (.bool _) ⟨by simp,rfl⟩
 |false=>
  have k2:(t != [])=true:=by simpa using k1
  have F:=F2 k1 k2
  refine sb [.tmp 2] (fn:=Tryz.f202) Tryz.func202 ?_
  intro Q hQ
  refine wk F ?_
  refine kq F (dv G ri cl hR hC t 512 (by omega) _) ?_
  refine ee hQ F ?_
  exact Fin.same (.bool _) ⟨by simp,rfl⟩
theorem pi(ri:Bs→Bool)(cl:Bs→Bs)(hR:∀t,t.length≤1000→∀h,Sat (CT G) 268 [.str t] h (fun r h'=>r=.bool (ri t)∧h'=h))(hC:∀t,t.length≤1000→∀h,Sat (CT G) 269 [.str t] h (fun r h'=>r=.str (cl t)∧h'=h))(t:Bs)(n:Int)(hn:n≤1000)(h:Heap):Sat (CT G) 230 [.str t,.int .i64 n] h (fun r h'=>r=.bool (textF ri cl t n)∧h'=h):=by
 cases hl:decide ((t.length:Int)≤n)with
 |false=>
  have F:=hl
  refine sb [.tmp 4] (fn:=Tryz.f230) Tryz.func230 ?_
  intro Q hQ
  refine wk F ?_
  refine ee hQ F ?_
  exact Fin.same (.bool _) ⟨by simp[textF,hl],rfl⟩
 |true=>
  have hlt:t.length≤1000:=by have:=of_decide_eq_true hl;omega
  cases hr:ri t with
  |false=>
   have hR1:=hR t hlt
   rw[hr]at hR1
   have F:=hl
   refine sb [.tmp 4] (fn:=Tryz.f230) Tryz.func230 ?_
   intro Q hQ
   refine wk F ?_
   refine kq F (hR1 _) ?_
   refine ee hQ F ?_
   exact Fin.same (.bool _) ⟨by simp[textF,hl,hr],rfl⟩
  |true=>
   have hR1:=hR t hlt
   rw[hr]at hR1
   have F:=hl
   refine sb [.tmp 4] (fn:=Tryz.f230) Tryz.func230 ?_
   intro Q hQ
   refine wk F ?_
   refine kq F (hR1 _) ?_
   refine kq F (hC t hlt _) ?_
   refine ee hQ F ?_
   exact Fin.same (.bool _) ⟨by simp[textF,hl,hr],rfl⟩
theorem nb(ri:Bs→Bool)(cl:Bs→Bs)(hR:∀t,t.length≤1000→∀h,Sat (CT G) 268 [.str t] h (fun r h'=>r=.bool (ri t)∧h'=h))(hC:∀t,t.length≤1000→∀h,Sat (CT G) 269 [.str t] h (fun r h'=>r=.str (cl t)∧h'=h))(t:Bs)(h:Heap):Sat (CT G) 175 [.str t] h (fun r h'=>r=.bool (!(t==[])&&textF ri cl t 64)∧h'=h):=by
 cases k1:(t==[])with
 |true=>
  have k2:(t != [])=false:=by simpa using k1
  have F:=F2 k1 k2
  refine sb [.tmp 2] (fn:=Tryz.f175) Tryz.func175 ?_
  intro Q hQ
  refine wk F ?_
  refine ee hQ F ?_
  exact Fin.same (.bool _) ⟨by simp,rfl⟩
 |false=>
  have k2:(t != [])=true:=by simpa using k1
  have F:=F2 k1 k2
  refine sb [.tmp 2] (fn:=Tryz.f175) Tryz.func175 ?_
  intro Q hQ
  refine wk F ?_
  refine kq F (pi G ri cl hR hC t 64 (by omega) _) ?_
  refine ee hQ F ?_
  exact Fin.same (.bool _) ⟨by simp,rfl⟩
end Go.Av
namespace Go.Av
open Go Go.Proofs Go.RowKit
attribute [local irreducible] WP WPl WPix Sat
variable (G:Nat→Option (List AVal))
def L0:Leaf where
 label:=fun t=> !(t==[])&&textF rightS cleanF t 64
 title:=fun t=>textF rightS cleanF t 256
 link:=fun t=>textF rightS cleanF t 512
 tag:=fun t=>(!(t==[])&&textF rightS cleanF t 64)&&isF t
 query:=fun t=> !(t==[])&&textF rightS cleanF t 512
 moment:=momF
theorem R0(t:Bs)(ht:t.length≤1000)(h:Heap):Sat (CT G) 278 [.str t] h (fun r h'=>r=.bool (rightS t)∧h'=h):=pg G t (by omega) h
theorem C0(t:Bs)(ht:t.length≤1000)(h:Heap):Sat (CT G) 279 [.str t] h (fun r h'=>r=.str (cleanF t)∧h'=h):=pf G t (by omega) h
theorem mc(t:Bs)(h:Heap):Sat (CT G) 180 [.str t] h (fun r h'=>r=.bool (L0.tag t)∧h'=h):=by
 have hL:=gZ G rightS cleanF (R0 G) (C0 G) t
 have hu:L0.tag t=((!(t==[])&&textF rightS cleanF t 64)&&isF t):=rfl
 rw[hu]
 cases hl:(!(t==[])&&textF rightS cleanF t 64)with
 |false=>
  rw[hl]at hL
  refine sb [.tmp 2] (fn:=Tryz.f180) Tryz.func180 ?_
  intro Q hQ
  refine wk trivial ?_
  refine kq trivial (hL _) ?_
  refine ee hQ trivial ?_
  exact Fin.same (.bool _) ⟨by simp,rfl⟩
 |true=>
  rw[hl]at hL
  have hlen:t.length≤64:=by
   rw[Bool.and_eq_true]at hl
   have:=hl.2
   unfold textF at this
   rw[Bool.and_eq_true,decide_eq_true_eq]at this
   omega
  refine sb [.tmp 2] (fn:=Tryz.f180) Tryz.func180 ?_
  intro Q hQ
  refine wk trivial ?_
  refine kq trivial (hL _) ?_
  refine kq trivial (nP G t (by omega) _) ?_
  refine ee hQ trivial ?_
  exact Fin.same (.bool _) ⟨by simp,rfl⟩
theorem pj(e:Ev)(h:Heap):Sat (CT G) 97 [e.av] h (fun r h'=>r=.int .i64 (if L0.ck e then 0 else 140)∧h'=h):=
 mQ G L0 e (mY G L0 (gZ G rightS cleanF (R0 G) (C0 G)) (mZ G rightS cleanF (R0 G) (C0 G)) (ja G rightS cleanF (R0 G) (C0 G)) (mX G L0 (ja G rightS cleanF (R0 G) (C0 G))) (mc G) (na G rightS cleanF (R0 G) (C0 G)) (mW G) e) h
theorem jb(s:PS)(h:s.Inv)(e:Ev){H:Heap}{n:Nat}(hn:n+9≤H.length):Sat (CT G) 21 [.hp (n+8) 0 0 0,e.av] (so H n s) (fun r h'=>r=.bool (s.ok L0 e)∧h'=so H n (s.step L0 e)):=by
 obtain⟨d1,d2⟩:=h.deep e.b
 obtain⟨g1,g2⟩:=h.tags e.a
 have hl:=(⟨Nat.le_trans h.l1 (by omega),Nat.le_trans h.l2 (by omega),Nat.le_trans h.l3 (by omega),Nat.le_trans h.l4 (by omega)⟩:s.fo.length≤100∧s.fe.length≤100∧s.it.length≤2000∧s.se.length≤100)
 exact mP G s e (s.ok L0 e) (tgF ((lkM s.it e.a).getD It.z).tags e.s e.n) h.w3 h.w7 h.few (sS h _ _ (by omega))
  (fun n H hn=>oX G s e (L0.ck e) 7 (s.dpt e.b) d1 (by omega) hl (pj G e) (fun n H hn=>(kr G s e.a e.s g1 (by omega) hn).mono fun r h' ⟨hr,hh⟩=>⟨⟨_,hr⟩,hh⟩) hn)
  (fun n H hn=>lQ G s e g1 (by omega) hn) hn
theorem kB(es:List Ev)(hl:es.length≤1048576)(h:Heap):Sat (CT G) 10 [.sl 7 (es.map Ev.av)] h (fun r h'=>r=.hp (h.length+8) 0 0 0∧h'=so (h++PS.z.bl h.length) h.length (es.foldl (PS.step L0) PS.z)):=
 oW G es hl PS.Inv (PS.ok L0) (PS.step L0) .z (fun s e _ h=>h.step e) (fun s e _ h n H hn=>jb G s h e hn) h
end Go.Av
namespace Go.Av
open Go Go.Proofs Go.RowKit
attribute [local irreducible] WP WPl WPix Sat
def sc(Y:Heap)(n:Nat)(s:PS)(m:Nat)(c:CS):Heap:=so (co Y m c) n s
section
variable {Y:Heap} {n m:Nat} {s:PS} {c:CS}
end
variable (G:Nat→Option (List AVal))
section
variable {Y:Heap} {n m:Nat} {s:PS} {c:CS}
end
def lgE(e:Ev):Bool:=decide ((e.s.length:Int)>1000)||(decide ((e.t.length:Int)>1000)||decide ((e.u.length:Int)>1000))
theorem re(e:Ev)(h:Heap):Sat (CT G) 29 [e.av] h (fun r h'=>r=.bool (lgE e)∧h'=h):=by
 refine sb [.tmp 2] (fn:=Tryz.f29) Tryz.func29 ?_
 intro Q hQ
 refine wk trivial ?_
 cases k1:decide ((e.s.length:Int)>1000)with
 |true=>
  have F:=k1
  try refine sq F ?_
  refine wk F ?_
  refine ee hQ F ?_
  exact Fin.plain (.bool _) ⟨by simp[lgE,k1],rfl⟩
 |false=>
  cases k2:decide ((e.t.length:Int)>1000)with
  |true=>
   have F:=F2 k1 k2
   try refine sq F ?_
   refine wk F ?_
   refine ee hQ F ?_
   exact Fin.plain (.bool _) ⟨by simp[lgE,k1,k2],rfl⟩
  |false=>
   have F:=F2 k1 k2
   try refine sq F ?_
   refine wk F ?_
   refine ee hQ F ?_
   exact Fin.plain (.bool _) ⟨by simp[lgE,k1,k2],rfl⟩
def lgF(es:List Ev):Bool:=decide ((es.length:Int)>150)||es.any lgE
theorem bI(es:List Ev)(h:Heap):Sat (CT G) 7 [.sl 7 (es.map Ev.av)] h (fun r h'=>r=.bool (lgF es)∧h'=h):=by
 refine sb [.tmp 2] (fn:=Tryz.f7) Tryz.func7 ?_
 intro Q hQ
 refine wk trivial ?_
 have hel:(es.map Ev.av).length=es.length:=List.length_map ..
 have F:=hel
 try refine sq F ?_
 refine cq F (fun c0=>?_) (fun c0=>?_)<;>(try exact c0.elim)<;>(refine wk F ?_)
 ·refine ee hQ F ?_
  exact Fin.same (.bool _) ⟨by simp[lgF];omega,rfl⟩
 ·refine lm (fun nL tL hL=>∃(k:Nat),es.length-k=nL∧[]++h=hL∧tL 0=.sl 7 (es.map Ev.av)∧tL 3=.int .i64 k∧k≤es.length∧(∀e∈es.take k,lgE e=false)) ((fun(k:Nat)=>(es.length-k:Nat)) (0)) ?_ ?_
  ·refine Wkn.refl ⟨0,rfl,rfl,?_,?_,by omega,by simp⟩
   all_goals first|exact zq F|rfl|omega|trivial|skip
  rintro _ s2 h' ⟨k,rfl,rfl,e0,e3,hk,hp⟩ K2 hK2
  simp only[ai,aj,Nat.reduceEqDiff, ↓reduceIte]at e0 e3
  have F:=F3 F e0 e3
  refine wk F ?_
  refine cq F (fun c1=>?_) (fun c1=>?_)<;>(try exact c1.elim)<;>(refine wk F ?_)
  ·have c2:k<es.length:=by omega
   obtain⟨e,he,_⟩:=af c2
   have F:=F3 F c2 he
   try refine sq F ?_
   refine wk F ?_
   refine kq F (re G e _) ?_
   refine cq F (fun c3=>?_) (fun c3=>?_)<;>(try exact c3.elim)<;>(refine wk F ?_)
   ·refine ee hQ F ?_
    exact Fin.same (.bool _) ⟨by
     have:es.any lgE=true:=List.any_eq_true.2 ⟨e,List.mem_of_getElem? he,c3⟩
     simp[lgF,this],rfl⟩
   ·have hp1:∀x∈es.take (k+1),lgE x=false:=by
     rw[List.take_add_one,he]
     intro x hx
     simp at hx
     rcases hx with hx|rfl
     ·exact hp x hx
     ·exact c3
    refine hK2 _ _ _ (Wkn.refl ⟨k+1,rfl,rfl,?_,?_,by omega,hp1⟩) (by omega)
    all_goals first|exact zq F|rfl|omega|trivial|skip
  ·rw[List.take_of_length_le (by omega)]at hp
   refine ee hQ F ?_
   exact Fin.same (.bool _) ⟨by
    have:es.any lgE=false:=by rw[List.any_eq_false];intro x hx;rw[hp x hx];simp
    simp[lgF,this];omega,rfl⟩
instance:DecidableEq Ct:=fun x y=>by
 cases x;cases y;simp only[Ct.mk.injEq];exact inferInstance
end Go.Av
namespace Go.Av
open Go Go.Proofs Go.RowKit
attribute [local irreducible] WP WPl WPix Sat
variable (G:Nat→Option (List AVal))
def St.inn(x:St)(id:Int):Int:=((fnd (·.id) x.fo id).map (·.inn)).getD 0
def St.upW(x:St)(u:Int):Nat→Int→Int
 |0,id=>id
 |k+1,id=>if id=u∨id=0 then id else St.upW x u k (x.inn id)
def St.within(x:St)(id u:Int):Bool:=decide (x.upW u 10 id=u)||decide (u=0)
def St.cnt(x:St)(c:Ct)(t:It):Bool:=
 if c.kind=1 then true
 else if c.kind=2 then !(c.id==0)&&x.within (((fnd (·.id) x.fe t.feed).map (·.inn)).getD 0) c.id
 else if c.kind=3 then t.feed==c.id
 else if c.kind=4 then decide (c.tag∈t.tags)
 else if c.kind=5 then t.star
 else false
end Go.Av
namespace Go.Av
open Go Go.Proofs Go.RowKit
variable {c:CS} {s:PS}
def chS(fo:ML Int Fo):Nat→Int→Option (List Int)
 |0,id=>if id=0 then some []else none
 |k+1,id=>if id=0 then some []else(chS fo k (((lkM fo id).map (·.inn)).getD 0)).map (id:: ·)
def PS.chn(s:PS)(feed:Int):List Int:=(chS s.fo 7 (((lkM s.fe feed).map (·.inn)).getD 0)).getD []
theorem tV{κ α:Type}[DecidableEq κ]{l:ML κ α}{x:κ}:x∈l.map (·.1)↔(lkM l x).isSome=true:=by
 constructor
 ·intro hm
  cases hq:(lkM l x).isSome with
  |true=>rfl
  |false=>exact(jA hq hm).elim
 ·intro hq
  obtain⟨a,ha⟩:=Option.isSome_iff_exists.1 hq
  obtain⟨n,hn⟩:=gx ha
  exact List.mem_map.2 ⟨_,hn,rfl⟩
def ctM(kind id:Int)(g:Bs)(n:T2):Ct:=⟨kind,id,g,n.1,n.2⟩
end Go.Av
namespace Go.Av
open Go Go.Proofs Go.RowKit
theorem dI(s:PS)(id k:Int):(s.hold id k).it=s.it:=by rw[cm]
theorem mi(s:PS)(e:Ev):(s.aft e).it=
  if e.kind=4 then itF s.it ((lkM s.fe e.a).getD Fe.z).id
  else if e.kind=7 then upM s.it s.c3 e.a ⟨e.a,e.b,e.n,e.s,e.t,e.u,false,false,[]⟩
  else if e.kind=8 then upM s.it s.c3 e.a {(lkM s.it e.a).getD It.z with read:=e.n==1}
  else if e.kind=9 then upM s.it s.c3 e.a {(lkM s.it e.a).getD It.z with star:=e.n==1}
  else if e.kind=10 then upM s.it s.c3 e.a {(lkM s.it e.a).getD It.z with tags:=tgF ((lkM s.it e.a).getD It.z).tags e.s e.n}
  else s.it:=by
 unfold PS.aft PS.after
 by_cases k2:e.kind=2
 ·rw[if_pos k2,dI,if_neg (by omega),if_neg (by omega),if_neg (by omega),if_neg (by omega),if_neg (by omega)];rfl
 by_cases k4:e.kind=4
 ·rw[if_neg k2,if_pos k4,if_pos k4,PS.unfeed,dI];rfl
 rw[if_neg k2,if_neg k4,if_neg k4]
 by_cases k5:e.kind=5
 ·rw[if_pos k5,if_neg (by omega),if_neg (by omega),if_neg (by omega),if_neg (by omega)];rfl
 rw[if_neg k5]
 by_cases k6:e.kind=6
 ·rw[if_pos k6,if_neg (by omega),if_neg (by omega),if_neg (by omega),if_neg (by omega)]
  show((s.hold _ _).hold _ _).it=_
  rw[dI,dI]
 rw[if_neg k6]
 by_cases k7:e.kind=7
 ·rw[if_neg (by omega),if_neg (by omega),if_neg (by omega),if_neg (by omega),if_neg (by omega),PS.make,if_neg (by omega),if_neg (by omega),if_pos k7,if_pos k7];rfl
 rw[if_neg k7]
 by_cases k8:e.kind=8
 ·rw[if_pos k8,if_pos k8];rfl
 rw[if_neg k8,if_neg k8]
 by_cases k9:e.kind=9
 ·rw[if_pos k9,if_pos k9];rfl
 rw[if_neg k9,if_neg k9]
 by_cases k10:e.kind=10
 ·rw[if_pos k10,if_pos k10];rfl
 rw[if_neg k10,if_neg k10]
 by_cases k12:e.kind=12
 ·rw[if_pos k12];rfl
 rw[if_neg k12]
 by_cases k13:e.kind=13
 ·rw[if_pos k13]
 rw[if_neg k13,PS.make]
 by_cases k1:e.kind=1
 ·rw[if_pos k1]
  show((((s.upFo e.a _).upNm _ _).hold _ _)).it=_
  rw[dI];rfl
 rw[if_neg k1]
 by_cases k3:e.kind=3
 ·rw[if_pos k3]
  show((((s.upFe e.a _).upPl _ _).hold _ _)).it=_
  rw[dI];rfl
 rw[if_neg k3,if_neg k7]
 split<;>rfl
end Go.Av
namespace Go.Av
open Go Go.Proofs Go.RowKit
variable {s:PS} {e:Ev}
end Go.Av
