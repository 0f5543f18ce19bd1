/- Parts. -/
import Derived.Test.YtnolelibaahimaaGreatDoorRCm
set_option linter.unusedSimpArgs false
set_option linter.unusedVariables false
set_option linter.unusedSectionVars false
set_option linter.unnecessarySimpa false
set_option maxRecDepth 100000
set_option maxHeartbeats 16000000
namespace Go.Av
open Go Go.Proofs Go.RowKit
section
attribute [local irreducible] WP WPl WPix Sat
variable (G:Nat→Option (List AVal))
theorem wd(N:Nat)(a b c d e f k:Int):Clo N (.tup [.agg [.int .i64 a,.int .i64 b,.int .i64 c,.int .i64 d,.int .i64 e,.int .i64 f],.int .i64 k]):=.tup _ fun x hx=>by
 simp only[N0,T8,or_false]at hx;rcases hx with rfl|rfl
 ·exact bX fun c hc=>by simp at hc;rcases hc with rfl|rfl|rfl|rfl|rfl|rfl<;>simp
 ·exact .int _ _
def momF(n:Int):Bool:=decide (-62135596800≤n)&&decide (n≤253402300799)
theorem ja(n a b:Int)(h:Heap):Sat (CT G) 225 [.int .i64 n,.int .i64 a,.int .i64 b] h (fun r h'=>r=.bool (decide (a≤n)&&decide (n≤b))∧h'=h):=by
 by_cases k:a≤n
 ·have k2:decide (n≥a)=true:=by simpa using k
  have F:=k2;refine sb [.tmp 6] Tryz.func225 ?_;intro Q hQ;refine wk F ?_;refine ee hQ F ?_;exact O9 (.bool _) ⟨by simp[k],rfl⟩
 ·have k2:decide (n≥a)=false:=by simpa using k
  have F:=k2;refine sb [.tmp 6] Tryz.func225 ?_;intro Q hQ;refine wk F ?_;refine ee hQ F ?_;exact O9 (.bool _) ⟨by simp[k],rfl⟩
theorem yd(n:Int)(h:Heap):Sat (CT G) 187 [.int .i64 n] h (fun r h'=>(∃a b c d e f:Int,r=.tup [.agg [.int .i64 a,.int .i64 b,.int .i64 c,.int .i64 d,.int .i64 e,.int .i64 f],.int .i64 (if momF n then 0 else 40)])∧h'=h):=by
 cases hm:momF n with
 |false=>
  unfold momF at hm;have hW:=ja G n (-62135596800) 253402300799;rw[hm]at hW;refine sb [.cell 2 231,.tmp 3] Tryz.func187 ?_;intro Q hQ;refine wk trivial ?_;refine kq trivial (hW _) ?_;refine ye hQ trivial ?_;exact K9 (wd ..) ⟨⟨_,_,_,_,_,_,rfl⟩,rfl⟩
 |true=>
  have hm2:=hm;unfold momF at hm2;have hW:=ja G n (-62135596800) 253402300799;rw[hm2]at hW;simp only[K5,K8]at hm2;obtain⟨m1,m2⟩:=hm2;refine sb [.cell 2 231,.tmp 3] Tryz.func187 ?_;intro Q hQ;refine wk trivial ?_;refine kq trivial (hW _) ?_;refine cq trivial (fun c1=>?_) (fun c1=>?_)<;>(try exact c1.elim)<;>(refine wk trivial ?_)
  ·refine ye hQ trivial ?_;exact K9 (wd ..) ⟨⟨_,_,_,_,_,_,rfl⟩,rfl⟩
  ·refine ye hQ trivial ?_;exact K9 (wd ..) ⟨⟨_,_,_,_,_,_,rfl⟩,rfl⟩
theorem pi(n:Int)(h:Heap):Sat (CT G) 157 [.int .i64 n] h (fun r h'=>r=.bool (momF n)∧h'=h):=by
 refine sb [.tmp 2] Tryz.func157 ?_;intro Q hQ;refine wk trivial ?_;refine(yd G n _).mono ?_;rintro r h' ⟨⟨_,_,_,_,_,_,rfl⟩,rfl⟩;cases hm:momF n
 ·have F:=hm;try refine sq F ?_
  refine wk F ?_;refine ee hQ F ?_;exact K9 (.bool _) ⟨rfl,rfl⟩
 ·have F:=hm;try refine sq F ?_
  refine wk F ?_;refine ee hQ F ?_;exact K9 (.bool _) ⟨rfl,rfl⟩
end
section
attribute [local irreducible] WP WPl WPix Sat
def textF(ri:Bs→Bool)(cl:Bs→Bs)(t:Bs)(n:Int):Bool:=decide ((t.length:Int)≤n)&&(ri t&&cl t==t)
variable (G:Nat→Option (List AVal))
theorem eY(ri:Bs→Bool)(cl:Bs→Bs)(hR:∀t,t.length≤1000→∀h,Sat (CT G) 184 [.str t] h (fun r h'=>r=.bool (ri t)∧h'=h))(hC:∀t,t.length≤1000→∀h,Sat (CT G) 111 [.str t] h (fun r h'=>r=.str (cl t)∧h'=h))(t:Bs)(n:Int)(hn:n≤1000)(h:Heap):Sat (CT G) 186 [.str t,.int .i64 n] h (fun r h'=>r=.bool (textF ri cl t n)∧h'=h):=by
 cases hl:decide ((t.length:Int)≤n)with
 |false=>
  have F:=hl;refine sb [.tmp 4] Tryz.func186 ?_;intro Q hQ;refine wk F ?_;refine ee hQ F ?_;exact O9 (.bool _) ⟨by simp[textF,hl],rfl⟩
 |true=>
  have hlt:t.length≤1000:=by have:=R8 hl;omega
  cases hr:ri t with
  |false=>
   have hR1:=hR t hlt;rw[hr]at hR1;have F:=hl;refine sb [.tmp 4] Tryz.func186 ?_;intro Q hQ;refine wk F ?_;refine kq F (hR1 _) ?_;refine ee hQ F ?_;exact O9 (.bool _) ⟨by simp[textF,hl,hr],rfl⟩
  |true=>
   have hR1:=hR t hlt;rw[hr]at hR1;have F:=hl;refine sb [.tmp 4] Tryz.func186 ?_;intro Q hQ;refine wk F ?_;refine kq F (hR1 _) ?_;refine kq F (hC t hlt _) ?_;refine ee hQ F ?_;exact O9 (.bool _) ⟨by simp[textF,hl,hr],rfl⟩
theorem jb(ri:Bs→Bool)(cl:Bs→Bs)(hR:∀t,t.length≤1000→∀h,Sat (CT G) 184 [.str t] h (fun r h'=>r=.bool (ri t)∧h'=h))(hC:∀t,t.length≤1000→∀h,Sat (CT G) 111 [.str t] h (fun r h'=>r=.str (cl t)∧h'=h))(t:Bs)(h:Heap):Sat (CT G) 154 [.str t] h (fun r h'=>r=.bool (!(t==[])&&textF ri cl t 64)∧h'=h):=by
 cases k1:(t==[])with
 |true=>
  have k2:(t != [])=false:=by simpa using k1
  have F:=F2 k1 k2;refine sb [.tmp 2] Tryz.func154 ?_;intro Q hQ;refine wk F ?_;refine ee hQ F ?_;exact O9 (.bool _) ⟨by simp,rfl⟩
 |false=>
  have k2:(t != [])=true:=by simpa using k1
  have F:=F2 k1 k2;refine sb [.tmp 2] Tryz.func154 ?_;intro Q hQ;refine wk F ?_;refine kq F (eY G ri cl hR hC t 64 (by omega) _) ?_;refine ee hQ F ?_;exact O9 (.bool _) ⟨by simp,rfl⟩
theorem pm(ri:Bs→Bool)(cl:Bs→Bs)(hR:∀t,t.length≤1000→∀h,Sat (CT G) 184 [.str t] h (fun r h'=>r=.bool (ri t)∧h'=h))(hC:∀t,t.length≤1000→∀h,Sat (CT G) 111 [.str t] h (fun r h'=>r=.str (cl t)∧h'=h))(t:Bs)(h:Heap):Sat (CT G) 156 [.str t] h (fun r h'=>r=.bool (textF ri cl t 256)∧h'=h):=by
 refine sb [.tmp 2] Tryz.func156 ?_;intro Q hQ;refine wk trivial ?_;refine kq trivial (eY G ri cl hR hC t 256 (by omega) _) ?_;refine ee hQ trivial ?_;exact O9 (.bool _) ⟨rfl,rfl⟩
theorem ko(ri:Bs→Bool)(cl:Bs→Bs)(hR:∀t,t.length≤1000→∀h,Sat (CT G) 184 [.str t] h (fun r h'=>r=.bool (ri t)∧h'=h))(hC:∀t,t.length≤1000→∀h,Sat (CT G) 111 [.str t] h (fun r h'=>r=.str (cl t)∧h'=h))(t:Bs)(h:Heap):Sat (CT G) 158 [.str t] h (fun r h'=>r=.bool (textF ri cl t 512)∧h'=h):=by
 refine sb [.tmp 2] Tryz.func158 ?_;intro Q hQ;refine wk trivial ?_;refine kq trivial (eY G ri cl hR hC t 512 (by omega) _) ?_;refine ee hQ trivial ?_;exact O9 (.bool _) ⟨rfl,rfl⟩
theorem pn(ri:Bs→Bool)(cl:Bs→Bs)(hR:∀t,t.length≤1000→∀h,Sat (CT G) 184 [.str t] h (fun r h'=>r=.bool (ri t)∧h'=h))(hC:∀t,t.length≤1000→∀h,Sat (CT G) 111 [.str t] h (fun r h'=>r=.str (cl t)∧h'=h))(t:Bs)(h:Heap):Sat (CT G) 160 [.str t] h (fun r h'=>r=.bool (!(t==[])&&textF ri cl t 512)∧h'=h):=by
 cases k1:(t==[])with
 |true=>
  have k2:(t != [])=false:=by simpa using k1
  have F:=F2 k1 k2;refine sb [.tmp 2] Tryz.func160 ?_;intro Q hQ;refine wk F ?_;refine ee hQ F ?_;exact O9 (.bool _) ⟨by simp,rfl⟩
 |false=>
  have k2:(t != [])=true:=by simpa using k1
  have F:=F2 k1 k2;refine sb [.tmp 2] Tryz.func160 ?_;intro Q hQ;refine wk F ?_;refine kq F (eY G ri cl hR hC t 512 (by omega) _) ?_;refine ee hQ F ?_;exact O9 (.bool _) ⟨by simp,rfl⟩
theorem eZ(ri:Bs→Bool)(cl:Bs→Bs)(hR:∀t,t.length≤1000→∀h,Sat (CT G) 146 [.str t] h (fun r h'=>r=.bool (ri t)∧h'=h))(hC:∀t,t.length≤1000→∀h,Sat (CT G) 135 [.str t] h (fun r h'=>r=.str (cl t)∧h'=h))(t:Bs)(n:Int)(hn:n≤1000)(h:Heap):Sat (CT G) 202 [.str t,.int .i64 n] h (fun r h'=>r=.bool (textF ri cl t n)∧h'=h):=by
 cases hl:decide ((t.length:Int)≤n)with
 |false=>
  have F:=hl;refine sb [.tmp 4] Tryz.func202 ?_;intro Q hQ;refine wk F ?_;refine ee hQ F ?_;exact O9 (.bool _) ⟨by simp[textF,hl],rfl⟩
 |true=>
  have hlt:t.length≤1000:=by have:=R8 hl;omega
  cases hr:ri t with
  |false=>
   have hR1:=hR t hlt;rw[hr]at hR1;have F:=hl;refine sb [.tmp 4] Tryz.func202 ?_;intro Q hQ;refine wk F ?_;refine kq F (hR1 _) ?_;refine ee hQ F ?_;exact O9 (.bool _) ⟨by simp[textF,hl,hr],rfl⟩
  |true=>
   have hR1:=hR t hlt;rw[hr]at hR1;have F:=hl;refine sb [.tmp 4] Tryz.func202 ?_;intro Q hQ;refine wk F ?_;refine kq F (hR1 _) ?_;refine kq F (hC t hlt _) ?_;refine ee hQ F ?_;exact O9 (.bool _) ⟨by simp[textF,hl,hr],rfl⟩
theorem jc(ri:Bs→Bool)(cl:Bs→Bs)(hR:∀t,t.length≤1000→∀h,Sat (CT G) 146 [.str t] h (fun r h'=>r=.bool (ri t)∧h'=h))(hC:∀t,t.length≤1000→∀h,Sat (CT G) 135 [.str t] h (fun r h'=>r=.str (cl t)∧h'=h))(t:Bs)(h:Heap):Sat (CT G) 168 [.str t] h (fun r h'=>r=.bool (!(t==[])&&textF ri cl t 64)∧h'=h):=by
 cases k1:(t==[])with
 |true=>
  have k2:(t != [])=false:=by simpa using k1
  have F:=F2 k1 k2;refine sb [.tmp 2] Tryz.func168 ?_;intro Q hQ;refine wk F ?_;refine ee hQ F ?_;exact O9 (.bool _) ⟨by simp,rfl⟩
 |false=>
  have k2:(t != [])=true:=by simpa using k1
  have F:=F2 k1 k2;refine sb [.tmp 2] Tryz.func168 ?_;intro Q hQ;refine wk F ?_;refine kq F (eZ G ri cl hR hC t 64 (by omega) _) ?_;refine ee hQ F ?_;exact O9 (.bool _) ⟨by simp,rfl⟩
theorem pr(ri:Bs→Bool)(cl:Bs→Bs)(hR:∀t,t.length≤1000→∀h,Sat (CT G) 146 [.str t] h (fun r h'=>r=.bool (ri t)∧h'=h))(hC:∀t,t.length≤1000→∀h,Sat (CT G) 135 [.str t] h (fun r h'=>r=.str (cl t)∧h'=h))(t:Bs)(h:Heap):Sat (CT G) 170 [.str t] h (fun r h'=>r=.bool (textF ri cl t 256)∧h'=h):=by
 refine sb [.tmp 2] Tryz.func170 ?_;intro Q hQ;refine wk trivial ?_;refine kq trivial (eZ G ri cl hR hC t 256 (by omega) _) ?_;refine ee hQ trivial ?_;exact O9 (.bool _) ⟨rfl,rfl⟩
theorem sa(ri:Bs→Bool)(cl:Bs→Bs)(hR:∀t,t.length≤1000→∀h,Sat (CT G) 146 [.str t] h (fun r h'=>r=.bool (ri t)∧h'=h))(hC:∀t,t.length≤1000→∀h,Sat (CT G) 135 [.str t] h (fun r h'=>r=.str (cl t)∧h'=h))(t:Bs)(h:Heap):Sat (CT G) 169 [.str t] h (fun r h'=>r=.bool (textF ri cl t 512)∧h'=h):=by
 refine sb [.tmp 2] Tryz.func169 ?_;intro Q hQ;refine wk trivial ?_;refine kq trivial (eZ G ri cl hR hC t 512 (by omega) _) ?_;refine ee hQ trivial ?_;exact O9 (.bool _) ⟨rfl,rfl⟩
theorem pt(ri:Bs→Bool)(cl:Bs→Bs)(hR:∀t,t.length≤1000→∀h,Sat (CT G) 146 [.str t] h (fun r h'=>r=.bool (ri t)∧h'=h))(hC:∀t,t.length≤1000→∀h,Sat (CT G) 135 [.str t] h (fun r h'=>r=.str (cl t)∧h'=h))(t:Bs)(h:Heap):Sat (CT G) 173 [.str t] h (fun r h'=>r=.bool (!(t==[])&&textF ri cl t 512)∧h'=h):=by
 cases k1:(t==[])with
 |true=>
  have k2:(t != [])=false:=by simpa using k1
  have F:=F2 k1 k2;refine sb [.tmp 2] Tryz.func173 ?_;intro Q hQ;refine wk F ?_;refine ee hQ F ?_;exact O9 (.bool _) ⟨by simp,rfl⟩
 |false=>
  have k2:(t != [])=true:=by simpa using k1
  have F:=F2 k1 k2;refine sb [.tmp 2] Tryz.func173 ?_;intro Q hQ;refine wk F ?_;refine kq F (eZ G ri cl hR hC t 512 (by omega) _) ?_;refine ee hQ F ?_;exact O9 (.bool _) ⟨by simp,rfl⟩
end
section
attribute [local irreducible] WP WPl WPix Sat
variable (G:Nat→Option (List AVal))
def L0:Leaf where
 label:=fun t=> !(t==[])&&textF rightS cleanF t 64
 title:=fun t=>textF rightS cleanF t 256
 link:=fun t=>textF rightS cleanF t 512
 tag:=fun t=>(!(t==[])&&textF rightS cleanF t 64)&&isF t
 query:=fun t=> !(t==[])&&textF rightS cleanF t 512
 moment:=momF
theorem R0(t:Bs)(ht:t.length≤1000)(h:Heap):Sat (CT G) 184 [.str t] h (fun r h'=>r=.bool (rightS t)∧h'=h):=kc G t (by omega) h
theorem C0(t:Bs)(ht:t.length≤1000)(h:Heap):Sat (CT G) 111 [.str t] h (fun r h'=>r=.str (cleanF t)∧h'=h):=eX G t (by omega) h
theorem wC(t:Bs)(h:Heap):Sat (CT G) 159 [.str t] h (fun r h'=>r=.bool (L0.tag t)∧h'=h):=by
 have hL:=jb G rightS cleanF (R0 G) (C0 G) t;have hu:L0.tag t=((!(t==[])&&textF rightS cleanF t 64)&&isF t):=rfl;rw[hu];cases hl:(!(t==[])&&textF rightS cleanF t 64)with
 |false=>
  rw[hl]at hL;refine sb [.tmp 2] Tryz.func159 ?_;intro Q hQ;refine wk trivial ?_;refine kq trivial (hL _) ?_;refine ee hQ trivial ?_;exact O9 (.bool _) ⟨by simp,rfl⟩
 |true=>
  rw[hl]at hL;have hlen:t.length≤64:=by
   rw[K5]at hl;have:=hl.2;unfold textF at this;rw[K5,K8]at this;omega
  refine sb [.tmp 2] Tryz.func159 ?_;intro Q hQ;refine wk trivial ?_;refine kq trivial (hL _) ?_;refine kq trivial (xZ G t (by omega) _) ?_;refine ee hQ trivial ?_;exact O9 (.bool _) ⟨by simp,rfl⟩
theorem sm(e:Ev)(h:Heap):Sat (CT G) 79 [e.av] h (fun r h'=>r=.int .i64 (if L0.ck e then 0 else 140)∧h'=h):=
 ph G L0 e (pk G L0 (jb G rightS cleanF (R0 G) (C0 G)) (pm G rightS cleanF (R0 G) (C0 G)) (ko G rightS cleanF (R0 G) (C0 G)) (pj G L0 (ko G rightS cleanF (R0 G) (C0 G))) (wC G) (pn G rightS cleanF (R0 G) (C0 G)) (pi G) e) h
theorem ku(s:PS)(h:s.Inv)(e:Ev){H:Heap}{n:Nat}(hn:n+9≤H.length):Sat (CT G) 13 [.hp (n+8) 0 0 0,e.av] (so H n s) (fun r h'=>r=.bool (s.ok L0 e)∧h'=so H n (s.step L0 e)):=by
 obtain⟨d1,d2⟩:=h.deep e.b;obtain⟨g1,g2⟩:=h.tags e.a;have hl:=(⟨Q6 h.l1 (by omega),Q6 h.l2 (by omega),Q6 h.l3 (by omega),Q6 h.l4 (by omega)⟩:s.fo.length≤100∧s.fe.length≤100∧s.it.length≤2000∧s.se.length≤100)
 exact pg G s e (s.ok L0 e) (tgF ((lkM s.it e.a).getD It.z).tags e.s e.n) h.w3 h.w7 h.few (wA h _ _ (by omega))
  (fun n H hn=>sk G s e (L0.ck e) 7 (s.dpt e.b) d1 (by omega) hl (sm G e) (fun n H hn=>(mt G s e.a e.s g1 (by omega) hn).mono fun r h' ⟨hr,hh⟩=>⟨⟨_,hr⟩,hh⟩) hn)
  (fun n H hn=>o2 G s e g1 (by omega) hn) hn
theorem ub(es:List Ev)(hl:es.length≤1048576)(h:Heap):Sat (CT G) 11 [.sl 7 (es.map Ev.av)] h (fun r h'=>r=.hp (h.length+8) 0 0 0∧h'=so (h++PS.z.bl h.length) h.length (es.foldl (PS.step L0) PS.z)):=
 sj G es hl PS.Inv (PS.ok L0) (PS.step L0) .z (fun s e _ h=>h.step e) (fun s e _ h n H hn=>ku G s h e hn) h
end
section
variable {s:PS} {e:Ev}
structure PS.Nam (s:PS):Prop where
 w5:WFM s.nm s.c5
 w6:WFM s.pl s.c6
 n1:∀key k,lkM s.nm key=some k→∃f,lkM s.fo k=some f∧(f.inn,f.name)=key
 n2:∀k f,lkM s.fo k=some f→lkM s.nm (f.inn,f.name)=some k
 p1:∀u k,lkM s.pl u=some k→∃f,lkM s.fe k=some f∧f.url=u
 p2:∀k f,lkM s.fe k=some f→lkM s.pl f.url=some k
 g1:∀key k,lkM s.gu key=some k→∃t,lkM s.it k=some t∧(t.feed,t.guid)=key
 g2:∀k t,lkM s.it k=some t→lkM s.gu (t.feed,t.guid)=some k
theorem PS.Nam.z:PS.z.Nam where
 w5:=.nil
 w6:=.nil
 n1:=fun _ _ h=>by cases h
 n2:=fun _ _ h=>by cases h
 p1:=fun _ _ h=>by cases h
 p2:=fun _ _ h=>by cases h
 g1:=fun _ _ h=>by cases h
 g2:=fun _ _ h=>by cases h
theorem lw{κ α:Type}[DecidableEq κ]{m:ML κ Int}{l:ML Int α}{c c':Nat}{key:κ}{a:α}{k:Int}(kf:α→κ)
  (h1:∀q j,lkM m q=some j→∃f,lkM l j=some f∧kf f=q)(h2:∀j f,lkM l j=some f→lkM m (kf f)=some j)(hk:lkM l k=none)(hm:lkM m key=none)(ha:kf a=key):
  (∀q j,lkM (upM m c key k) q=some j→∃f,lkM (upM l c' k a) j=some f∧kf f=q)∧(∀j f,lkM (upM l c' k a) j=some f→lkM (upM m c key k) (kf f)=some j):=by
 refine⟨fun q j hq=>?_,fun j f hf=>?_⟩
 ·rcases aI hq with⟨rfl,rfl⟩| ⟨hne,hq⟩
  ·exact⟨a,by rw[aY,L7 rfl],ha⟩
  ·obtain⟨f,hf,hkf⟩:=h1 q j hq;refine⟨f,?_,hkf⟩;rw[aY,K4 (by rintro rfl;rw[hk]at hf;cases hf)];exact hf
 ·rcases aI hf with⟨rfl,rfl⟩| ⟨hne,hf⟩
  ·rw[ha,aY,L7 rfl]
  ·have:=h2 j f hf;rw[aY,K4 (by intro e;rw[e,hm]at this;cases this)];exact this
theorem qw{κ α:Type}[DecidableEq κ]{m:ML κ Int}{l:ML Int α}{k:Int}{a:α}(kf:α→κ)(nm:(m.map (·.1)).Nodup)(nl:(l.map (·.1)).Nodup)
  (h1:∀q j,lkM m q=some j→∃f,lkM l j=some f∧kf f=q)(h2:∀j f,lkM l j=some f→lkM m (kf f)=some j)(hk:lkM l k=some a):
  (∀q j,lkM (dlM m (kf a)) q=some j→∃f,lkM (dlM l k) j=some f∧kf f=q)∧(∀j f,lkM (dlM l k) j=some f→lkM (dlM m (kf a)) (kf f)=some j):=by
 refine⟨fun q j hq=>?_,fun j f hf=>?_⟩
 ·obtain⟨hne,hq⟩:=bO nm hq;obtain⟨f,hf,hkf⟩:=h1 q j hq;refine⟨f,?_,hkf⟩;rw[eE nl,K4 (by rintro rfl;rw[hk]at hf;cases hf;exact hne hkf.symm)];exact hf
 ·obtain⟨hne,hf⟩:=bO nl hf;have:=h2 j f hf;rw[eE nm,K4 (by intro e;rw[e,h2 k a hk]at this;cases this;exact hne rfl)];exact this
theorem gz{κ α:Type}[DecidableEq κ]{m:ML κ Int}{l:ML Int α}{c:Nat}{k:Int}{a a':α}(kf:α→κ)
  (h1:∀q j,lkM m q=some j→∃f,lkM l j=some f∧kf f=q)(h2:∀j f,lkM l j=some f→lkM m (kf f)=some j)(hk:lkM l k=some a)(ha:kf a'=kf a):
  (∀q j,lkM m q=some j→∃f,lkM (upM l c k a') j=some f∧kf f=q)∧(∀j f,lkM (upM l c k a') j=some f→lkM m (kf f)=some j):=by
 refine⟨fun q j hq=>?_,fun j f hf=>?_⟩
 ·obtain⟨f,hf,hkf⟩:=h1 q j hq;by_cases hj:j=k
  ·subst hj;rw[hk]at hf;cases hf;exact⟨a',by rw[aY,L7 rfl],by rw[ha,hkf]⟩
  ·exact⟨f,by rw[aY,K4 hj];exact hf,hkf⟩
 ·rcases aI hf with⟨rfl,rfl⟩| ⟨hne,hf⟩
  ·rw[ha];exact h2 _ _ hk
  ·exact h2 j f hf
theorem o5{κ α:Type}[DecidableEq κ]{l:ML κ α}(hn:(l.map (·.1)).Nodup){p:κ×α×Nat→Bool}{y:κ}{b:α}(h:lkM l y=some b)(hp:∀n,p (y,b,n)=true):lkM (l.filter p) y=some b:=by
 obtain⟨n,hm⟩:=dL h;exact bT (hn.sublist (List.filter_sublist.map _)) (T9.2 ⟨hm,hp n⟩)
theorem lz{κ α:Type}[DecidableEq κ]{l:ML κ α}(hn:(l.map (·.1)).Nodup){p:κ×α×Nat→Bool}{y:κ}{b:α}(h:lkM (l.filter p) y=some b):lkM l y=some b∧∃n,(y,b,n)∈l∧p (y,b,n)=true:=by
 obtain⟨n,hm⟩:=dL h;have:=T9.1 hm;exact⟨bT hn this.1,n,this.1,this.2⟩
theorem o6{κ:Type}[DecidableEq κ]{m:ML κ Int}{key:κ}(h:∀j,lkM m key=some j→1≤j)(h0:(lkM m key).getD 0=0):lkM m key=none:=by
 cases hl:lkM m key with
 |none=>rfl
 |some j=>rw[hl]at h0;have:=h j hl;simp at h0;omega
theorem PS.Nam.nm1(h:s.Nam)(hI:s.Inv){key:Int×Bs}{j:Int}(hj:lkM s.nm key=some j):1≤j:=by
 obtain⟨f,hf,_⟩:=h.n1 key j hj;exact(hI.i1 _ _ hf).2.1
theorem PS.Nam.pl1(h:s.Nam)(hI:s.Inv){key:Bs}{j:Int}(hj:lkM s.pl key=some j):1≤j:=by
 obtain⟨f,hf,_⟩:=h.p1 key j hj;exact(hI.i2 _ _ hf).2.1
theorem PS.Nam.gu1(h:s.Nam)(hI:s.Inv){key:Int×Bs}{j:Int}(hj:lkM s.gu key=some j):1≤j:=by
 obtain⟨f,hf,_⟩:=h.g1 key j hj;exact(hI.i3 _ _ hf).2.1
theorem PS.Nam.unFe(h:s.Nam)(hI:s.Inv){k:Int}{f:Fe}(hk:lkM s.fe k=some f):PS.Nam (s.unfeed f):=by
 have hfk:=(hI.i2 _ _ hk).1;obtain⟨q1,q2⟩:=qw (·.url) h.w6.keys hI.w2.keys h.p1 h.p2 hk;unfold PS.unfeed;rw[aP];have hkey:∀j t,lkM s.it j=some t→t.feed=f.id→∀n,(fun e:(Int×Bs)×Int×Nat=> !(s.it.any fun d=>decide (d.2.1.feed=f.id)&&decide (e.1=(d.2.1.feed,d.2.1.guid)))) ((t.feed,t.guid),j,n)=false:=fun j t ht hf n=>by
  obtain⟨m,hm⟩:=dL ht;simp only[Bool.not_eq_false',Y4];exact⟨_,hm,by simp[hf]⟩
 exact {h with
  w6:=h.w6.dl _
  p1:=by rw[hfk];exact q1
  p2:=by rw[hfk];exact q2
  g1:=fun key j hj=>by
   obtain⟨h1,n,h2,h3⟩:=lz hI.w7.keys hj;obtain⟨t,ht,hkf⟩:=h.g1 key j h1;refine⟨t,o5 hI.w3.keys ht fun n'=>?_,hkf⟩;simp only[O6,decide_eq_false_iff_not];intro hfe;have:=hkey j t ht hfe n;rw[hkf]at this;exact absurd (h3.symm.trans this) (by decide)
  g2:=fun j t ht=>by
   obtain⟨h1,n,h2,h3⟩:=lz hI.w3.keys ht;refine o5 hI.w7.keys (h.g2 j t h1) fun n'=>?_
   simp only[O6,decide_eq_false_iff_not]at h3;simp only[O6,W2,K5,K8,not_and];intro d hd hdf hq;have:t.feed=d.2.1.feed:=N5 Prod.fst hq;exact h3 (this.trans hdf)}
theorem PS.Nam.step{L:Leaf}(h:s.Nam)(hI:s.Inv)(e:Ev):(s.step L e).Nam:=by
 unfold PS.step;split
 ·rename_i hok;unfold PS.ok PS.fits at hok;rw[K5]at hok;obtain⟨hck,hf⟩:=hok;unfold PS.aft PS.after;by_cases k1:e.kind=1
  ·rw[L7 k1]at hf;simp only[K5,O6,K8,beq_iff_eq]at hf;rw[K4 (by omega),K4 (by omega),K4 (by omega),K4 (by omega),K4 (by omega),K4 (by omega),K4 (by omega),K4 (by omega),K4 (by omega),PS.make,L7 k1,aP];have hn:=o6 (fun j hj=>h.nm1 hI hj) hf.2;obtain⟨q1,q2⟩:=lw (c:=s.c5) (c':=s.c1) (a:=(⟨e.a,e.b,e.s⟩:Fo)) (fun f:Fo=>(f.inn,f.name)) h.n1 h.n2 (bN hf.1.1.1.1) hn rfl;exact {h with w5:=h.w5.up _ _,n1:=q1,n2:=q2}
  rw[K4 k1]at hf;by_cases k2:e.kind=2
  ·rw[L7 k2]at hf ⊢;simp only[K5,beq_iff_eq]at hf;obtain⟨f,hfo⟩:=aT hf.1;rw[hfo,aP];obtain⟨q1,q2⟩:=qw (fun f:Fo=>(f.inn,f.name)) h.w5.keys hI.w1.keys h.n1 h.n2 hfo;exact {h with w5:=h.w5.dl _,n1:=q1,n2:=q2}
  rw[K4 k2]at hf ⊢;by_cases k3:e.kind=3
  ·rw[L7 k3]at hf;simp only[K5,O6,K8,beq_iff_eq]at hf;rw[K4 (by omega),K4 (by omega),K4 (by omega),K4 (by omega),K4 (by omega),K4 (by omega),K4 (by omega),K4 (by omega),PS.make,K4 (by omega),L7 k3,aP];have hn:=o6 (fun j hj=>h.pl1 hI hj) hf.2;obtain⟨q1,q2⟩:=lw (c:=s.c6) (c':=s.c2) (a:=(⟨e.a,e.b,e.s,e.t⟩:Fe)) (fun f:Fe=>f.url) h.p1 h.p2 (bN hf.1.1.1) hn rfl;exact {h with w6:=h.w6.up _ _,p1:=q1,p2:=q2}
  rw[K4 k3]at hf;by_cases k4:e.kind=4
  ·rw[L7 (.inl k4)]at hf;rw[L7 k4];obtain⟨f,hfo⟩:=aT hf;rw[hfo];exact h.unFe hI hfo
  rw[K4 k4];by_cases k5:e.kind=5
  ·rw[L7 (.inr k5)]at hf;rw[L7 k5];obtain⟨f,hfo⟩:=aT hf;rw[hfo];obtain⟨q1,q2⟩:=gz (c:=s.c2) (a':= {f with title:=e.t}) (fun f:Fe=>f.url) h.p1 h.p2 hfo rfl;exact {h with p1:=q1,p2:=q2}
  rw[K4 (by omega)]at hf;rw[K4 k5];by_cases k6:e.kind=6
  ·rw[L7 k6]at hf ⊢;simp only[K5]at hf;obtain⟨f,hfo⟩:=aT hf.1;rw[hfo,aP,aP];obtain⟨q1,q2⟩:=gz (c:=s.c2) (a':= {f with inn:=e.b}) (fun f:Fe=>f.url) h.p1 h.p2 hfo rfl;exact {h with p1:=q1,p2:=q2}
  rw[K4 k6]at hf ⊢;by_cases k7:e.kind=7
  ·rw[L7 k7]at hf;simp only[K5,O6,K8,beq_iff_eq]at hf;rw[K4 (by omega),K4 (by omega),K4 (by omega),K4 (by omega),K4 (by omega),PS.make,K4 (by omega),K4 (by omega),L7 k7];have hn:=o6 (fun j hj=>h.gu1 hI hj) hf.2;obtain⟨q1,q2⟩:=lw (c:=s.c7) (c':=s.c3) (a:=(⟨e.a,e.b,e.n,e.s,e.t,e.u,false,false,[]⟩:It)) (fun t:It=>(t.feed,t.guid)) h.g1 h.g2 (bN hf.1.1.1) hn rfl;exact {h with g1:=q1,g2:=q2}
  rw[K4 k7]at hf;by_cases k8:e.kind=8
  ·rw[L7 (.inl k8)]at hf;rw[L7 k8];obtain⟨f,hfo⟩:=aT hf;rw[hfo];obtain⟨q1,q2⟩:=gz (c:=s.c3) (a':= {f with read:=e.n==1}) (fun t:It=>(t.feed,t.guid)) h.g1 h.g2 hfo rfl;exact {h with g1:=q1,g2:=q2}
  rw[K4 k8];by_cases k9:e.kind=9
  ·rw[L7 (.inr k9)]at hf;rw[L7 k9];obtain⟨f,hfo⟩:=aT hf;rw[hfo];obtain⟨q1,q2⟩:=gz (c:=s.c3) (a':= {f with star:=e.n==1}) (fun t:It=>(t.feed,t.guid)) h.g1 h.g2 hfo rfl;exact {h with g1:=q1,g2:=q2}
  rw[K4 (by omega)]at hf;rw[K4 k9];by_cases k10:e.kind=10
  ·rw[L7 k10]at hf ⊢;simp only[K5,P8,K8]at hf;obtain⟨f,hfo⟩:=aT hf.1;rw[hfo];obtain⟨q1,q2⟩:=gz (c:=s.c3) (a':= {f with tags:=tgF f.tags e.s e.n}) (fun t:It=>(t.feed,t.guid)) h.g1 h.g2 hfo rfl;exact {h with g1:=q1,g2:=q2}
  rw[K4 k10];by_cases k12:e.kind=12
  ·rw[L7 k12];exact {h with}
  rw[K4 k12];by_cases k13:e.kind=13
  ·rw[L7 k13];exact {h with}
  rw[K4 k13,PS.make,K4 k1,K4 k3,K4 k7];split
  ·exact {h with}
  ·exact h
 ·exact h
theorem PS.Nam.fold{L:Leaf}(h:s.Nam)(hI:s.Inv)(l:List Ev):(l.foldl (PS.step L) s).Nam:=by
 induction l generalizing s with
 |nil=>exact h
 |cons e l ih=>exact ih (h.step hI e) (hI.step e)
end
section
attribute [local irreducible] WP WPl WPix Sat
variable (G:Nat→Option (List AVal))
def lgE(e:Ev):Bool:=decide ((e.s.length:Int)>1000)||(decide ((e.t.length:Int)>1000)||decide ((e.u.length:Int)>1000))
theorem pw(e:Ev)(h:Heap):Sat (CT G) 34 [e.av] h (fun r h'=>r=.bool (lgE e)∧h'=h):=by
 refine sb [.tmp 2] Tryz.func34 ?_;intro Q hQ;refine wk trivial ?_;cases k1:decide ((e.s.length:Int)>1000)with
 |true=>
  have F:=k1;try refine sq F ?_
  refine wk F ?_;refine ee hQ F ?_;exact K9 (.bool _) ⟨by simp[lgE,k1],rfl⟩
 |false=>
  cases k2:decide ((e.t.length:Int)>1000)with
  |true=>
   have F:=F2 k1 k2;(try refine sq F ?_);refine wk F ?_;refine ee hQ F ?_;exact K9 (.bool _) ⟨by simp[lgE,k1,k2],rfl⟩
  |false=>
   have F:=F2 k1 k2;(try refine sq F ?_);refine wk F ?_;refine ee hQ F ?_;exact K9 (.bool _) ⟨by simp[lgE,k1,k2],rfl⟩
def lgF(es:List Ev):Bool:=decide ((es.length:Int)>150)||es.any lgE
theorem kw(es:List Ev)(h:Heap):Sat (CT G) 8 [.sl 7 (es.map Ev.av)] h (fun r h'=>r=.bool (lgF es)∧h'=h):=by
 refine sb [.tmp 2] Tryz.func8 ?_;intro Q hQ;refine wk trivial ?_;have hel:(es.map Ev.av).length=es.length:=L5 ..;have F:=hel;try refine sq F ?_
 refine cq F (fun c0=>?_) (fun c0=>?_)<;>(try exact c0.elim)<;>(refine wk F ?_)
 ·refine ee hQ F ?_;exact O9 (.bool _) ⟨by simp[lgF];omega,rfl⟩
 ·refine lm (fun nL tL hL=>∃(k:Nat),es.length-k=nL∧[]++h=hL∧tL 0=.sl 7 (es.map Ev.av)∧tL 3=.int .i64 k∧k≤es.length∧(∀e∈es.take k,lgE e=false)) ((fun(k:Nat)=>(es.length-k:Nat)) (0)) ?_ ?_
  ·refine L8 ⟨0,rfl,rfl,?_,?_,by omega,by simp⟩;all_goals try exact zZz F
  rintro _ s2 h' ⟨k,rfl,rfl,e0,e3,hk,hp⟩ K2 hK2;simp only[ah,ao,Nat.reduceEqDiff, ↓reduceIte]at e0 e3;have F:=F3 F e0 e3;refine wk F ?_;refine cq F (fun c1=>?_) (fun c1=>?_)<;>(try exact c1.elim)<;>(refine wk F ?_)
  ·have c2:k<es.length:=(by omega);obtain⟨e,he,_⟩:=ac c2;have F:=F3 F c2 he;(try refine sq F ?_);refine wk F ?_;refine kq F (pw G e _) ?_;refine cq F (fun c3=>?_) (fun c3=>?_)<;>(try exact c3.elim)<;>(refine wk F ?_)
   ·refine ee hQ F ?_;exact O9 (.bool _) ⟨by
     have:es.any lgE=true:=Y4.2 ⟨e,M3 he,c3⟩;simp[lgF,this],rfl⟩
   ·have hp1:∀x∈es.take (k+1),lgE x=false:=by
     rw[O7,he];intro x hx;simp at hx;rcases hx with hx|rfl
     ·exact hp x hx
     ·exact c3
    refine hK2 _ _ _ (L8 ⟨k+1,rfl,rfl,?_,?_,by omega,hp1⟩) (by omega);all_goals try exact zZz F
  ·rw[M4 (by omega)]at hp;refine ee hQ F ?_;exact O9 (.bool _) ⟨by
    have:es.any lgE=false:=by rw[W2];intro x hx;rw[hp x hx];simp
    simp[lgF,this];omega,rfl⟩
end
section
attribute [local irreducible] WP WPl WPix Sat
def sc(Y:Heap)(n:Nat)(s:PS)(m:Nat)(c:CS):Heap:=so (co Y m c) n s
section
variable {Y:Heap} {n m:Nat} {s:PS} {c:CS}
end
variable (G:Nat→Option (List AVal))
section
variable {Y:Heap} {n m:Nat} {s:PS} {c:CS}
end
instance:DecidableEq Ct:=fun x y=>by
 cases x;cases y;simp only[Ct.mk.injEq];exact inferInstance
end
section
attribute [local irreducible] WP WPl WPix Sat
variable (G:Nat→Option (List AVal))
def St.inn(x:St)(id:Int):Int:=((fnd (·.id) x.fo id).map (·.inn)).getD 0
def St.upW(x:St)(u:Int):Nat→Int→Int
 |0,id=>id
 |k+1,id=>if id=u∨id=0 then id else St.upW x u k (x.inn id)
def St.within(x:St)(id u:Int):Bool:=decide (x.upW u 10 id=u)||decide (u=0)
def St.has(x:St)(id:Int):Prop:=id=0∨∃f,fnd (·.id) x.fo id=some f
structure St.Up (x:St):Prop where
 fo:∀f∈x.fo,x.has f.inn
 fe:∀f∈x.fe,x.has f.inn
 it:∀t∈x.it,∃f,fnd (·.id) x.fe t.feed=some f
 l1:x.fo.length≤64
 l2:x.fe.length≤64
 l3:x.it.length≤1024
 tg:∀t∈x.it,t.tags.length≤8
end
section
variable {c:CS} {s:PS}
def chS(fo:ML Int Fo):Nat→Int→Option (List Int)
 |0,id=>if id=0 then some []else none
 |k+1,id=>if id=0 then some []else(chS fo k (((lkM fo id).map (·.inn)).getD 0)).map (id:: ·)
def PS.chn(s:PS)(feed:Int):List Int:=(chS s.fo 7 (((lkM s.fe feed).map (·.inn)).getD 0)).getD []
end
section
attribute [local irreducible] WP WPl WPix Sat
variable (G:Nat→Option (List AVal))
theorem jx{h0 H:Heap}{p v e:Nat}{l:List Bs}(hp:h0.length≤p)(hg:getRow H p v=some (e,1,l.map .str)):Frz H h0.length (.hs p v 0 l.length true) (.sl 1 (l.map .str)):=by
 have:=Z5 (n:=h0.length) (len:=l.length) (room:=true) hp hg (by simp) (fun r hr=>by obtain⟨a,_,rfl⟩:=M7.1 hr;exact .str _) (fun r hr c hc=>by obtain⟨a,_,rfl⟩:=M7.1 hr;simp[AVal.cells]at hc;subst hc;rfl);simpa using this
theorem uj(c:Int)(hc:Rune c)(h:Heap):Sat (CT G) 255 [.int .i32 c] h (fun r h'=>r=.int .i32 (foldR c)∧h'=h):=by
 have c0:0≤c∧c≤1114111:=by unfold Rune at hc;omega
 obtain⟨c1,c2⟩:=c0;have w32:c≤2000→IntKind.i32.wrap (c+32)=c+32:=fun _=>br (by omega) (by omega)
 have w80:c≤2000→IntKind.i32.wrap (c+80)=c+80:=fun _=>br (by omega) (by omega)
 refine sb [.tmp 2] Tryz.func255 ?_;intro Q hQ;refine wk trivial ?_;repeat' (first
  | (exfalso;omega)
  | (refine cq trivial (fun hx=>?_) (fun hx=>?_)<;>(try exact hx.elim)<;>(refine wk trivial ?_))
  | ((first|refine gq trivial (fun hx=>?_) (fun hx=>?_)|refine pq trivial (fun hx=>?_) (fun hx=>?_))<;>(try exact hx.elim)<;>(try refine sq trivial ?_)<;>(refine wk trivial ?_)))
 all_goals (
  refine ee hQ trivial ?_;exact O9 (.int _ _) ⟨by
   unfold foldR btw;simp only[K5,K8];first
    |rw[L7 (by omega)]
    | (rw[K4 (by omega),L7 (by omega)];first|rfl|rw[w32 (by omega)])
    | (rw[K4 (by omega),K4 (by omega),L7 (by omega)];first|rfl|rw[w80 (by omega)])
    |rw[K4 (by omega),K4 (by omega),K4 (by omega)],rfl⟩)
def letR(c:Int):Bool:=letF c.toNat
theorem pD(c:Int)(hc:Rune c)(h:Heap):Sat (CT G) 236 [.int .i32 c] h (fun r h'=>r=.bool (letR c)∧h'=h):=by
 have c0:0≤c∧c≤1114111:=by unfold Rune at hc;omega
 obtain⟨c1,c2⟩:=c0;refine sb [.tmp 2] Tryz.func236 ?_;intro Q hQ;refine wk trivial ?_;repeat' (first
  | (exfalso;omega)
  | (refine cq trivial (fun hx=>?_) (fun hx=>?_)<;>(try exact hx.elim)<;>(refine wk trivial ?_))
  | ((first|refine gq trivial (fun hx=>?_) (fun hx=>?_)|refine pq trivial (fun hx=>?_) (fun hx=>?_))<;>(try exact hx.elim)<;>(try refine sq trivial ?_)<;>(refine wk trivial ?_)))
 all_goals (
  refine ee hQ trivial ?_;exact O9 (.bool _) ⟨by
    unfold letR letF;congr 1
    symm
    first
     |rw[L7 (by omega)]
     |rw[K4 (by omega)]
    rw[P6];simp only[K5,P8,O6,Bool.or_eq_false_iff,Bool.and_eq_false_iff,K8,decide_eq_false_iff_not,O0,iff_true,iff_false];omega,rfl⟩)
end
section
def segR:List Int→List Int→List (List Int)→List (List Int)
 | [],w,acc=>if w=[]then acc else acc++[w]
 |c::b,w,acc=>if letR c then segR b (w++[c]) acc else segR b [] (if w=[]then acc else acc++[w])
theorem wK(t:Bs)(x y:Nat):((⟨t.toArray⟩:ByteArray).extract x y).data.toList=(t.take y).drop x:=by
 have hext:(⟨t.toArray⟩:ByteArray).extract x y=⟨((t.take y).drop x).toArray⟩:=by
  apply ByteArray.ext
  simp[List.extract_eq_take_drop,List.drop_take]
 rw[hext]
def AtS(t:Bs)(w:List Int)(x:Nat×Nat):Prop:=(t.take x.2).drop x.1=encs w
def AtSL(t:Bs):List (List Int)→List (Nat×Nat)→Prop
 | [],[]=>True
 |w::l,x::m=>AtS t w x∧AtSL t l m
 |_,_=>False
theorem AtSL.snoc{t:Bs}:∀{l:List (List Int)} {m:List (Nat×Nat)} {w:List Int} {x:Nat×Nat},AtSL t l m→AtS t w x→AtSL t (l++[w]) (m++[x])
 | [],[],_,_,_,h=>⟨h,trivial⟩
 |_::_,_::_,_,_,h,h2=>⟨h.1,AtSL.snoc h.2 h2⟩
 | [],_::_,_,_,h,_=>h.elim
 |_::_,[],_,_,h,_=>h.elim
theorem AtSL.map{t:Bs}:∀{l:List (List Int)} {m:List (Nat×Nat)},AtSL t l m→m.map (fun x=>((⟨t.toArray⟩:ByteArray).extract x.1 x.2).data.toList)=l.map encs
 | [],[],_=>rfl
 |w::l,x::m,h=>by rw[N4,N4,AtSL.map h.2,wK,h.1]
 | [],_::_,h=>h.elim
 |_::_,[],h=>h.elim
theorem uk(t:Bs):∀(b a w:List Int) (acc:List (List Int)) (m:List (Nat×Nat)) (f:Nat),(∀c∈b,Rune c)→t=encs (a++w)++encs b→b.length≤f→AtSL t acc m→
  AtSL t (segR b w acc) (Lib.closeSpans ⟨t.toArray⟩ (Lib.spansFromP (fun r=> !letF r) ⟨t.toArray⟩ f (encs (a++w)).length (if w=[]then none else some (encs a).length) m)):=by
 intro b;induction b with
 |nil=>
  intro a w acc m f _ ht _ hm;have hsz:(⟨t.toArray⟩:ByteArray).size=(encs (a++w)).length:=by rw[ht];simp[ByteArray.size,encs]
  have hst:Lib.spansFromP (fun r=> !letF r) ⟨t.toArray⟩ f (encs (a++w)).length (if w=[]then none else some (encs a).length) m=(m,if w=[]then none else some (encs a).length):=by
   cases f with
   |zero=>rfl
   |succ f=>unfold Lib.spansFromP;rw[K4 (by rw[hsz];omega)]
  rw[hst,segR];by_cases hw:w=[]
  ·rw[L7 hw,L7 hw];exact hm
  ·rw[K4 hw,K4 hw];unfold Lib.closeSpans;refine hm.snoc ?_;unfold AtS;simp only[hsz];rw[ht,V1 rfl,bY,W6 rfl]
 |cons c b ih=>
  intro a w acc m f hb ht hf hm;have hc:=hb c (by simp);have hp:=cL c;have hb':∀x∈b,Rune x:=fun x hx=>hb x (by simp[hx])
  obtain⟨f,rfl⟩:∃g,f=g+1:=⟨f-1,by simp at hf;omega⟩;have hlt:(encs (a++w)).length<(⟨t.toArray⟩:ByteArray).size:=by rw[ht,aH];simp[ByteArray.size];omega
  have hd:Utf8.decode ⟨t.toArray⟩ (encs (a++w)).length=(c.toNat,(enc c).length):=by
   show dec t _=_;rw[ht];exact zu hc
  unfold Lib.spansFromP;rw[L7 hlt,hd,segR];have hfl:b.length≤f:=by simp at hf;omega
  cases hl:letR c with
  |true=>
   have hl2:letF c.toNat=true:=hl;have h1:=ih a (w++[c]) acc m f hb' (by rw[ht,aH, ← P1, ← P1,bY (a++w),ea]) hfl hm;have hne:¬w++[c]=[]:=(by simp);have hlen:(encs (a++(w++[c]))).length=(encs (a++w)).length+(enc c).length:=(by rw[← P1,bY,K7,ea]);rw[K4 hne,hlen]at h1;simp only[hl2,za1,O0,if_false,if_true];by_cases hw:w=[]
   ·subst hw;rw[L7 rfl];simpa using h1
   ·rw[K4 hw];exact h1
  |false=>
   have hl2:letF c.toNat=false:=hl;have hlen:(encs ((a++w++[c])++[])).length=(encs (a++w)).length+(enc c).length:=(by rw[O1,bY,K7,ea]);simp only[hl2,Bool.not_false,if_true,O0,if_false];by_cases hw:w=[]
   ·have h1:=ih (a++w++[c]) [] acc m f hb' (by rw[O1,ht,aH,bY (a++w),ea,P1]) hfl hm;rw[hlen,L7 rfl]at h1;rw[L7 hw,L7 hw];exact h1
   ·have hat:AtS t w ((encs a).length,(encs (a++w)).length):=by
     unfold AtS;simp only[];rw[ht,V1 rfl,bY,W6 rfl]
    have h1:=ih (a++w++[c]) [] (acc++[w]) (m++[((encs a).length,(encs (a++w)).length)]) f hb' (by rw[O1,ht,aH,bY (a++w),ea,P1]) hfl (hm.snoc hat);rw[hlen,L7 rfl]at h1;rw[K4 hw,K4 hw];exact h1
theorem sv{l:List Int}(h:∀c∈l,Rune c):fldsF (encs l)=(segR l [] []).map encs:=by
 have h1:=uk (encs l) l [] [] [] [] (⟨(encs l).toArray⟩:ByteArray).size h (by simp[encs]) (by have:=(fq l).2;simp[ByteArray.size];omega) trivial;unfold fldsF Lib.goFieldsP Lib.spansOfP;rw[Y6];exact h1.map
theorem og:∀(l:List Int) (f n:Nat),(∀c∈l,Rune c)→(encs l).length≤f→n≤32→shN f (encs l) n=(encs (l.take (32-n))).length
 | [],f,n,_,_,_=>by cases f<;>simp[shN,encs]
 |c::l,f,n,h,hf,hn=>by
  have hc:=h c (by simp);have hp:=cL c;have hl:(encs (c::l)).length=(enc c).length+(encs l).length:=by rw[aH,K7]
  obtain⟨f,rfl⟩:∃g,f=g+1:=⟨f-1,by omega⟩;rw[shN,K4 (by intro e;rw[e]at hl;simp at hl;omega)];by_cases h32:n=32
  ·subst h32;simp[encs]
  ·rw[K4 h32,aH,cj,W6 rfl];simp only[];rw[og l f (n+1) (fun x hx=>h x (by simp[hx])) (by omega) (by omega)];obtain⟨k,hk⟩:∃k,32-n=k+1:=⟨31-n,by omega⟩;rw[hk,show 32-(n+1)=k by omega,P0,aH,K7]
theorem wL{l:List Int}(h:∀c∈l,Rune c):shW (encs l)=encs (l.take 32):=by
 unfold shW;rw[og l _ 0 h (M0 _) (by omega)];have h1:encs l=encs (l.take 32)++encs (l.drop 32):=by rw[← bY,W4]
 rw[show 32-0=32 from rfl]
 conv=>lhs;rw[h1]
 rw[V1 rfl]
def wdsR:List Int→List Int→List Bs→List Bs
 | [],w,out=>if w=[]then out else out++[encs w]
 |c::b,w,out=>if letR c then wdsR b (if w.length<32 then w++[c]else w) out else wdsR b [] (if w=[]then out else out++[encs w])
theorem iH:∀(b w:List Int) (acc:List (List Int)),(∀c∈b,Rune c)→(∀c∈w,Rune c)→(∀v∈acc,∀c∈v,Rune c)→∀v∈segR b w acc,∀c∈v,Rune c
 | [],w,acc,_,hw,ha=>by
  rw[segR];split
  ·exact ha
  ·intro v hv;rcases R4.1 hv with hv|hv
   ·exact ha v hv
   ·simp at hv;subst hv;exact hw
 |c::b,w,acc,hb,hw,ha=>by
  have hb':∀x∈b,Rune x:=fun x hx=>hb x (by simp[hx])
  rw[segR];split
  ·exact iH b _ acc hb' (fun x hx=>by
    rcases R4.1 hx with hx|hx
    ·exact hw x hx
    ·simp at hx;subst hx;exact hb _ (by simp)) ha
  ·refine iH b [] _ hb' (fun x hx=>by cases hx) ?_;split
   ·exact ha
   ·intro v hv;rcases R4.1 hv with hv|hv
    ·exact ha v hv
    ·simp at hv;subst hv;exact hw
theorem iW:∀(b w:List Int) (acc:List (List Int)),wdsR b (w.take 32) (acc.map fun v=>encs (v.take 32))=(segR b w acc).map fun v=>encs (v.take 32)
 | [],w,acc=>by
  rw[wdsR,segR];by_cases hw:w=[]
  ·rw[L7 hw,L7 (by rw[hw];rfl)]
  ·rw[K4 hw,K4 (by intro e;rw[List.take_eq_nil_iff]at e;rcases e with e|e;omega;exact hw e)];simp
 |c::b,w,acc=>by
  rw[wdsR,segR];split
  ·rw[← iW b (w++[c]) acc];congr 1
   split
   ·rename_i h;rw[O3]at h;rw[M4 (by omega),M4 (by simp;omega)]
   ·rename_i h;rw[O3]at h;rw[List.take_append_of_le_length (by omega)]
  ·by_cases hw:w=[]
   ·rw[L7 hw,L7 (by rw[hw];rfl), ← iW b [] acc];rfl
   ·rw[K4 hw,K4 (by intro e;rw[List.take_eq_nil_iff]at e;rcases e with e|e;omega;exact hw e), ← iW b [] (acc++[w])];simp
theorem kB(s:Bs):wordsF s=wdsR (runesF (foldS s)) [] []:=by
 have hr:∀c∈ (runesF s).map foldR,Rune c:=fun c hc=>by
  obtain⟨x,hx,rfl⟩:=M7.1 hc;exact gS (cg s.length s (M0 _) x hx)
 unfold wordsF foldS;rw[sv hr,g9 hr,Y6];have h1:=iW ((runesF s).map foldR) [] [];simp only[List.take_nil,R1]at h1;rw[h1];refine T4 fun v hv=>?_
 exact wL (iH _ [] [] hr (fun _ h=>by cases h) (fun _ h=>by cases h) v hv)
end
section
attribute [local irreducible] WP WPl WPix Sat
variable (G:Nat→Option (List AVal))
theorem sw(s:Bs)(hs:s.length≤1048576)(h:Heap):Sat (CT G) 174 [.str s] h (fun r h'=>∃v,r=.hs h.length v 0 (runesF s).length true∧h'=h++[.row 21 1 v ((runesF s).map runAN)]):=by
 refine sb [.tmp 2] Tryz.func174 ?_;intro Q hQ;refine wk trivial ?_;refine lm (fun nL tL hL=>∃(k v:Nat) (acc:List Int),s.length-k=nL∧h++[.row 21 1 v (acc.map runAN)]=hL∧tL 0=.str (s.drop k)∧tL 3=.hs h.length v 0 acc.length true∧k≤s.length∧acc.length≤k∧acc++runesF (s.drop k)=runesF s) ((fun(k v:Nat) (acc:List Int)=>(s.length-k:Nat)) (0) (0) ([])) ?_ ?_
 ·refine⟨_,_,W9 3 21 1 (by simp) (by omega) (by exact zq trivial),⟨0,0,[],rfl,aw,?_,?_,?_,?_,?_⟩⟩;all_goals try exact zZz trivial
 rintro _ s2 h' ⟨k,v,acc,rfl,rfl,e0,e3,hk,hl,hp⟩ K2 hK2;simp only[ah,ao,Nat.reduceEqDiff, ↓reduceIte]at e0 e3;have F:=F2 e0 e3;refine wk F ?_;refine cq F (fun c1=>?_) (fun c1=>?_)<;>(try exact c1.elim)<;>(refine wk F ?_)
 ·simp only[O8]at c1;have hlt:k<s.length:=by omega
  have hp2:=aN s k hlt;rw[eH s k hlt]at hp;have hne:s.drop k≠ []:=by intro e;have:=N5 List.length e;simp at this;omega
  refine(gV G (s.drop k) hne (by simp;omega) _).mono ?_;rintro r h' ⟨rfl,rfl⟩;rw[← bt];generalize dec s k=d at*;obtain⟨c,m⟩:=d;simp only[]at hp hp2 ⊢;have hsl:m≤(s.drop k).length:=by simp;omega
  have hdd:(s.drop k).drop m=s.drop (k+m):=V3 ..;have F:=F3 F hsl hdd;try refine sq F ?_
  refine wk F ?_;refine aq F ?_;try refine sq F ?_
  refine wk F ?_;refine hK2 _ _ _ (L8 ⟨k+m,v+1,acc++[(c:Int)],rfl,aw,?_,?_,by omega,by simp;omega,by rw[← hp];simp⟩) (by omega);all_goals try exact zZz F
 ·simp only[O8]at c1;rw[dD s k (by omega),O1]at hp;refine wk F ?_;refine ee hQ F ?_;subst hp;exact za3 (by simp) (.hs _ _ _ _ _ (by simp)) ⟨v,rfl,rfl⟩
theorem jy(l:List Int)(hr:∀r∈l,Rune r)(hl:l.length≤1048576){h:Heap}{p v0:Nat}(hg:getRow h p v0=some (21,1,l.map runAN)):Sat (CT G) 176 [.hs p v0 0 l.length true] h (fun x h'=>x=.str (l.flatMap enc)∧h'=h):=by
 have hll:(l.map runAN).length=l.length:=L5 ..;have hpl:=bI hg;have hgj:∀j,getRow (h++j) p v0=some (21,1,l.map runAN):=fun j=>by rw[bL _ hpl];exact hg
 have hra:∀x,runAN x=.int .i32 x:=fun _=>rfl
 have F:=F4 hll hg hgj hra;refine sb [.tmp 2] Tryz.func176 ?_;intro Q hQ;refine wk F ?_;refine lm (fun nL tL hL=>∃(k v:Nat) (acc:Bs),l.length-k=nL∧h++[.row 5 1 v (acc.map bytA)]=hL∧tL 3=.hs h.length v 0 acc.length true∧tL 4=.int .i64 k∧k≤l.length∧acc++(l.drop k).flatMap enc=l.flatMap enc∧acc.length≤4*k) ((fun(k v:Nat) (acc:Bs)=>(l.length-k:Nat)) (0) (0) ([])) ?_ ?_
 ·refine⟨_,_,W9 3 5 1 (by simp) (by omega) (by exact zq F),⟨0,0,[],rfl,aw,?_,?_,?_,?_,?_⟩⟩;all_goals try exact zZz F
 rintro _ s2 h' ⟨k,v,acc,rfl,rfl,e3,e4,hk,hp,hz⟩ K2 hK2;simp only[ah,ao,Nat.reduceEqDiff, ↓reduceIte]at e3 e4;have F:=F3 F e3 e4;refine wk F ?_;refine cq F (fun hc=>?_) (fun hc=>?_)<;>(try exact hc.elim)
 ·obtain⟨y,hy,hym⟩:=ac hc;rw[aB hy,S6]at hp;have he:=dS y;have hel:((enc y).map bytA).length=(enc y).length:=L5 ..;have c2:k<l.length:=by omega
  have F:=F3 F c2 hy;refine wk F ?_;refine kq F (oc G y (hr y hym) _) ?_;refine aq F ?_;try refine sq F ?_
  refine wk F ?_;refine hK2 _ _ _ (L8 ⟨k+1,v+1,acc++enc y,rfl,aw,?_,?_,by omega,by rw[← hp];simp,by simp;omega⟩) (by omega);all_goals try exact zZz F
 ·rw[aF hc,za2,O1]at hp;have hb:=dC acc;have hel:elemsOf (h++[.row 5 1 v (acc.map bytA)]) 1 (.hs h.length v 0 acc.length true)=some (acc.map bytA):=by
   simp[elemsOf,getRow,M4]
  have F:=F4 F hb hel @iG;refine wk F ?_;refine ee hQ F ?_;rw[← hp];exact Fin.plainE (j:=_) rfl (.str _) ⟨rfl,rfl⟩
theorem ul(s:Bs)(hs:s.length≤100000)(h:Heap):Sat (CT G) 235 [.str s] h (fun r h'=>r=.str (foldS s)∧h'=h):=by
 have hll:=bV s.length s (M0 _);have hrl:=cg s.length s (M0 _);have hR:=sw G s (by omega);have hfo:foldS s=((runesF s).map foldR).flatMap enc:=rfl;rw[hfo];generalize runesF s=l at*;refine sb [.tmp 2] Tryz.func235 ?_;intro Q hQ;refine wk trivial ?_;refine(hR _).mono ?_;rintro r h' ⟨v,rfl,rfl⟩;try refine sq trivial ?_
 refine wk trivial ?_;refine lm (fun nL tL hL=>∃(k:Nat),l.length-k=nL∧h++[.row 21 1 v (((l.take k).map foldR++l.drop k).map runAN)]=hL∧tL 3=.hs h.length v 0 l.length true∧tL 4=.int .i64 k∧k≤l.length) ((fun(k:Nat)=>(l.length-k:Nat)) (0)) ?_ ?_
 ·refine L8 ⟨0,rfl,by simp,?_,?_,by omega⟩;all_goals try exact zZz trivial
 rintro _ s2 h' ⟨k,rfl,rfl,e3,e4,hk⟩ K2 hK2;simp only[ah,ao,Nat.reduceEqDiff, ↓reduceIte]at e3 e4;have F:=F2 e3 e4;refine wk F ?_;refine cq F (fun c1=>?_) (fun c1=>?_)<;>(try exact c1.elim)
 ·have c2:k<l.length:=by omega
  obtain⟨y,hy,hym⟩:=ac c2;have hget:((l.take k).map foldR++l.drop k)[k]? =some y:=by
   rw[M1 (by simp;omega),L5,O3,Z6 (by omega),X0,P4];simpa using hy
  have hset:(((l.take k).map foldR++l.drop k).map runAN).set k (.int .i32 (foldR y))=((l.take (k+1)).map foldR++l.drop (k+1)).map runAN:=by
   have h1:(AVal.int .i32 (foldR y))=runAN (foldR y):=rfl;rw[h1, ← List.map_set];congr 1
   rw[List.set_append_right _ _ (by simp;omega),L5,O3,Z6 (by omega),X0,aB hy,List.set_cons_zero,O7,hy];simp
  have hlen:(((l.take k).map foldR++l.drop k).map runAN).length=l.length:=by simp;omega
  have hra:∀x,runAN x=.int .i32 x:=fun _=>rfl
  generalize (l.take k).map foldR++l.drop k=rw_ at*;have F:=F7 F c2 @hget @hset @hlen hra @ax;try refine sq F ?_
  refine wk F ?_;refine kq F (uj G y (hrl y hym) _) ?_;refine hK2 _ _ _ (L8 ⟨k+1,rfl,rfl,?_,?_,by omega⟩) (by omega);all_goals try exact zZz F
 ·have hk2:k=l.length:=by omega
  subst hk2;have hfin:(l.take l.length).map foldR++l.drop l.length=l.map foldR:=by rw[Y3,List.drop_length,O1]
  rw[hfin];have hg:getRow (h++[.row 21 1 v ((l.map foldR).map runAN)]) h.length v=some (21,1,(l.map foldR).map runAN):=by simp[getRow]
  have hP:=jy G (l.map foldR) (fun r hr=>by obtain⟨x,hx,rfl⟩:=M7.1 hr;exact gS (hrl x hx)) (by simp;omega) hg;rw[L5]at hP;refine wk F ?_;refine kq F (hP) ?_;refine ee hQ F ?_;exact K9 (.str _) ⟨rfl,rfl⟩
theorem sx(a b:List Bs)(ha:a.length≤1000000)(hb:b.length≤1000000)(h:Heap):Sat (CT G) 205 [.sl 1 (a.map .str),.sl 1 (b.map .str)] h (fun r h'=>r=.bool (decide (a=b))∧h'=h):=by
 have ela:(a.map AVal.str).length=a.length:=L5 ..;have elb:(b.map AVal.str).length=b.length:=L5 ..;have F:=F2 @ela @elb;refine sb [.tmp 4] Tryz.func205 ?_;intro Q hQ;refine wk F ?_;refine cq F (fun c0=>?_) (fun c0=>?_)<;>(try exact c0.elim)<;>(refine wk F ?_)
 ·refine ee hQ F ?_;exact O9 (.bool _) ⟨by simp;rintro rfl;omega,rfl⟩
 ·refine lm (fun nL tL hL=>∃(k:Nat),a.length-k=nL∧[]++h=hL∧tL 0=.sl 1 (a.map .str)∧tL 1=.sl 1 (b.map .str)∧tL 5=.int .i64 k∧k≤a.length∧a.take k=b.take k) ((fun(k:Nat)=>(a.length-k:Nat)) (0)) ?_ ?_
  ·refine L8 ⟨0,rfl,rfl,?_,?_,?_,by omega,by simp⟩;all_goals try exact zZz F
  rintro _ s2 h' ⟨k,rfl,rfl,e0,e1,e5,hk,hp⟩ K2 hK2;simp only[ah,ao,Nat.reduceEqDiff, ↓reduceIte]at e0 e1 e5;have F:=F4 F e0 e1 e5;refine wk F ?_;refine cq F (fun c1=>?_) (fun c1=>?_)<;>(try exact c1.elim)<;>(refine wk F ?_)
  ·have c2:k<a.length:=(by omega);have c2b:k<b.length:=(by omega);obtain⟨x,hx,_⟩:=ac c2;obtain⟨y,hy,_⟩:=ac c2b;have F:=F5 F c2 @c2b hx hy;(try refine sq F ?_);refine wk F ?_;refine cq F (fun c3=>?_) (fun c3=>?_)<;>(try exact c3.elim)<;>(refine wk F ?_)
   ·refine ee hQ F ?_;exact O9 (.bool _) ⟨by
     simp;rintro rfl;rw[hx]at hy;cases hy;simp at c3,rfl⟩
   ·have c4:x=y:=(by simpa using c3);have hp1:a.take (k+1)=b.take (k+1):=(by rw[O7,O7,hx,hy,hp,c4]);refine hK2 _ _ _ (L8 ⟨k+1,rfl,rfl,?_,?_,?_,by omega,hp1⟩) (by omega);all_goals try exact zZz F
  ·rw[M4 (by omega),M4 (by omega)]at hp;refine ee hQ F ?_;exact O9 (.bool _) ⟨by simp[hp],rfl⟩
theorem lA(n:Int)(h:Heap):Sat (CT G) 167 [.int .i64 n] h (fun r h'=>r=.bool (idF n)∧h'=h):=by
 by_cases k:1≤n
 ·have k2:decide (n≥1)=true:=by simpa using k
  have F:=k2;refine sb [.tmp 2] Tryz.func167 ?_;intro Q hQ;refine wk F ?_;refine ee hQ F ?_;exact O9 (.bool _) ⟨by simp[idF,k],rfl⟩
 ·have k2:decide (n≥1)=false:=by simpa using k
  have F:=k2;refine sb [.tmp 2] Tryz.func167 ?_;intro Q hQ;refine wk F ?_;refine ee hQ F ?_;exact O9 (.bool _) ⟨by simp[idF,k],rfl⟩
theorem oh(y a d:Int)(ds:List Int)(ha:0≤a∧a≤4000000)(hd:1≤d∧d≤31)(hl:ds.length≤11)(hA:∀h,Sat (CT G) 276 [.int .i64 y] h (fun r h'=>r=.int .i64 a∧h'=h))
  (hD:∀(j:Nat) (x:Int),ds[j]? =some x→(0≤x∧x≤31)∧∀h,Sat (CT G) 277 [.int .i64 y,.int .i64 ((j+1:Nat):Int)] h (fun r h'=>r=.int .i64 x∧h'=h))(h:Heap):
  Sat (CT G) 254 [.int .i64 y,.int .i64 ((ds.length+1:Nat):Int),.int .i64 d] h (fun r h'=>r=.int .i64 (a+d-1+ds.sum)∧h'=h):=by
 refine sb [.tmp 6] Tryz.func254 ?_;intro Q hQ;refine wk trivial ?_;refine kq trivial (hA _) ?_;refine lm (fun nL tL hL=>∃(j:Nat) (v:Int),ds.length-j=nL∧h=hL∧tL 7=.int .i64 v∧tL 8=.int .i64 ((j+1:Nat):Int)∧j≤ds.length∧v=a+d-1+(ds.take j).sum∧0≤v∧v≤5000000+31*j) ((fun(j:Nat) (v:Int)=>(ds.length-j:Nat)) (0) (a+d-1)) ?_ ?_
 ·refine L8 ⟨0,a+d-1,rfl,aw,?_,?_,by omega,by simp,by omega,by omega⟩;all_goals try exact zZz trivial
 rintro _ s2 h' ⟨j,v,rfl,rfl,e7,e8,hj,hv,h0,h1⟩ K2 hK2;simp only[ah,ao,Nat.reduceEqDiff, ↓reduceIte]at e7 e8;have F:=F2 e7 e8;by_cases c1:j<ds.length
 ·obtain⟨x,hx,_⟩:=ac c1;obtain⟨hb,hD1⟩:=hD j x hx;have q:decide (j+1<ds.length+1)=true:=by simp;omega
  have hs:a+d-1+(ds.take (j+1)).sum=v+x:=by rw[O7,hx,hv];simp;omega
  have F:=F2 F q;try refine sq F ?_
  refine wk F ?_;refine kq F (hD1 _) ?_;refine hK2 _ _ _ (L8 ⟨j+1,v+x,rfl,aw,?_,?_,by omega,hs.symm,by omega,by omega⟩) (by omega);all_goals try exact zZz F
 ·have q:decide (j+1<ds.length+1)=false:=by simp;omega
  rw[M4 (by omega)]at hv;have F:=F2 F q;try refine sq F ?_
  refine wk F ?_;refine ee hQ F ?_;rw[hv];exact O9 (.int _ _) ⟨rfl,rfl⟩
theorem kC(y a:Int)(q4 q100 q400:Int)(h4:(y-1).tdiv 4=q4)(h100:(y-1).tdiv 100=q100)(h400:(y-1).tdiv 400=q400)(hy:1≤y∧y≤9999)(hb:0≤q4∧q4≤9999∧0≤q100∧q100≤9999∧0≤q400∧q400≤9999)(e:365*(y-1)+q4-q100+q400=a)(h:Heap):
  Sat (CT G) 276 [.int .i64 y] h (fun r h'=>r=.int .i64 a∧h'=h):=by
 have F:=F3 h4 h100 h400;refine sb [.tmp 2] Tryz.func276 ?_;intro Q hQ;refine wk F ?_;refine ee hQ F ?_;rw[e];exact O9 (.int _ _) ⟨rfl,rfl⟩
theorem sy(h:Heap):Sat (CT G) 285 [.int .i64 9999] h (fun r h'=>r=.bool false∧h'=h):=by
 have h4:(9999:Int).tmod 4=3:=rfl;have h400:(9999:Int).tmod 400=399:=rfl;have F:=F2 h4 h400;refine sb [.tmp 2] Tryz.func285 ?_;intro Q hQ;refine wk F ?_;refine ee hQ F ?_;exact O9 (.bool _) ⟨rfl,rfl⟩
theorem sA(j:Nat)(x:Int)(hx:[31,28,31,30,31,30,31,31,30,31,30][j]? =some x):(0≤x∧x≤31)∧∀h,Sat (CT G) 277 [.int .i64 9999,.int .i64 ((j+1:Nat):Int)] h (fun r h'=>r=.int .i64 x∧h'=h):=by
 have hj:j<11:=(f9.1 hx).1;have dt:∀i:Decidable True, @decide True i=true:=fun i=>by simp
 have df:∀i:Decidable False, @decide False i=false:=fun i=>by simp
 have hm:j=0∨j=1∨j=2∨j=3∨j=4∨j=5∨j=6∨j=7∨j=8∨j=9∨j=10:=by omega
 rcases hm with rfl|rfl|rfl|rfl|rfl|rfl|rfl|rfl|rfl|rfl|rfl;all_goals (
  cases hx;refine⟨by omega,fun h=>?_⟩;have F:=F2 dt df;refine sb [.tmp 4] Tryz.func277 ?_;intro Q hQ;refine wk F ?_;try refine kq F (sy G _) ?_
  refine ee hQ F ?_;exact O9 (.int _ _) ⟨rfl,rfl⟩)
theorem mw(h:Heap):Sat (CT G) 233 [] h (fun r h'=>r=.int .i64 62135596800∧h'=h):=by
 have hd:=oh G 1970 719162 1 [] (by omega) (by omega) (by simp) (kC G 1970 719162 492 19 4 rfl rfl rfl (by omega) (by omega) rfl) (fun j x hx=>by simp at hx);simp only[M9,List.sum_nil]at hd;refine sb [.tmp 0] Tryz.func233 ?_;intro Q hQ;refine wk trivial ?_;refine kq trivial (hd _) ?_;refine ee hQ trivial ?_;exact O9 (.int _ _) ⟨rfl,rfl⟩
theorem sB(h:Heap):Sat (CT G) 203 [] h (fun r h'=>r=.int .i64 (-62135596800)∧h'=h):=by
 refine sb [.tmp 0] Tryz.func203 ?_;intro Q hQ;refine wk trivial ?_;refine kq trivial (mw G _) ?_;refine ee hQ trivial ?_;exact O9 (.int _ _) ⟨rfl,rfl⟩
theorem um(h:Heap):Sat (CT G) 204 [] h (fun r h'=>r=.int .i64 253402300799∧h'=h):=by
 have hd:=oh G 9999 3651694 31 [31,28,31,30,31,30,31,31,30,31,30] (by omega) (by omega) (by simp) (kC G 9999 3651694 2499 99 24 rfl rfl rfl (by omega) (by omega) rfl) (sA G);have es:([31,28,31,30,31,30,31,31,30,31,30]:List Int).sum=334:=by decide
 simp only[es,L6,M9]at hd;have hM:∀h,Sat (CT G) 234 [.agg [.int .i64 9999,.int .i64 12,.int .i64 31,.int .i64 23,.int .i64 59,.int .i64 59]] h (fun r h'=>r=.int .i64 253402300799∧h'=h):=fun h=>by
  refine sb [.tmp 2] Tryz.func234 ?_;intro Q hQ;refine wk trivial ?_;refine aG (hd _) ?_;try refine sq trivial ?_
  refine wk trivial ?_;refine aG (mw G _) ?_;try refine sq trivial ?_
  refine wk trivial ?_;refine ee hQ trivial ?_;exact K9 (.int _ _) ⟨rfl,rfl⟩
 refine sb [.tmp 0] Tryz.func204 ?_;intro Q hQ;refine wk trivial ?_;refine kq trivial (hM _) ?_;refine ee hQ trivial ?_;exact O9 (.int _ _) ⟨rfl,rfl⟩
theorem wM(hc:GClo (CT G))(n:Int)(h:Heap):Sat (CT G) 171 [.int .i64 n] h (fun r h'=>r=.bool (momF n)∧h'=h):=by
 have h1:=sB G;have h2:=um G;by_cases k: -62135596800≤n
 ·have k2:decide (n≥ -62135596800)=true:=by simpa using k
  have F:=k2;refine sb [.tmp 2] Tryz.func171 ?_;intro Q hQ;refine wk F ?_;refine kq F (h1 _) ?_;refine kq F (h2 _) ?_;refine ee hQ F ?_;exact O9 (.bool _) ⟨by simp[momF,k],rfl⟩
 ·have k2:decide (n≥ -62135596800)=false:=by simpa using k
  have F:=k2;refine sb [.tmp 2] Tryz.func171 ?_;intro Q hQ;refine wk F ?_;refine kq F (h1 _) ?_;refine ee hQ F ?_;exact O9 (.bool _) ⟨by simp[momF,k],rfl⟩
end
section
attribute [local irreducible] WP WPl WPix Sat
set_option pp.deepTerms true
set_option pp.maxSteps 200000
variable (G:Nat→Option (List AVal))
theorem jz:∀(b w:List Int) (out:List Bs),(wdsR b w out).length≤out.length+b.length+1
 | [],w,out=>by rw[wdsR];split<;>simp
 |c::b,w,out=>by
  rw[wdsR];split
  ·have:=jz b (if w.length<32 then w++[c]else w) out;simp only[L6];omega
  ·have:=jz b [] (if w=[]then out else out++[encs w]);have h2:(if w=[]then out else out++[encs w]).length≤out.length+1:=(by split<;>simp);simp only[L6];omega
theorem sC(s:Bs)(hs:s.length≤20000)(h:Heap):Sat (CT G) 206 [.str s] h (fun r h'=>r=.sl 1 ((wordsF s).map .str)∧h'=h):=by
 have hfl:=iB s;have hR:=kA G (foldS s) (by omega);have hrn:=cg (foldS s).length (foldS s) (M0 _);have hrl:=bV (foldS s).length (foldS s) (M0 _);rw[kB];generalize runesF (foldS s)=rs at*;have hel:(rs.map runAN).length=rs.length:=L5 ..;have hra:∀x,runAN x=.int .i32 x:=fun _=>rfl
 have F:=F2 hel hra;refine sb [.tmp 2] Tryz.func206 ?_;intro Q hQ;refine wk F ?_;refine kq F (ul G s (by omega) _) ?_;refine kq F (hR _) ?_;refine lm (fun nL tL hL=>∃(i po vo:Nat) (hh:Heap) (out:List Bs) (w:List Int) (x:AVal),rs.length+1-i=nL∧hh=hL∧tL 3=.sl 1 (rs.map runAN)∧tL 4=.hs po vo 0 out.length true∧tL 5=x∧tL 6=.int .i64 i∧i≤rs.length+1∧((w=[]∧x=.nil (.slice none 0 0))∨(∃p v,x=.hs p v 0 w.length true∧getRow hh p v=some (21,1,w.map runAN)∧h.length≤p∧p≠po))∧getRow hh po vo=some (9,1,out.map .str)∧(FrN h.length h hh∧h.length≤po)∧wdsR (rs.drop i) w out=wdsR rs [] []∧(w.length≤32∧out.length≤i∧(∀c∈w,Rune c)∧(i=rs.length+1→w=[]))) ((fun(i po vo:Nat) (hh:Heap) (out:List Bs) (w:List Int) (x:AVal)=>(rs.length+1-i:Nat)) (0) (h.length) (0) (h++[.row 9 1 0 []]) ([]) ([]) (.nil (.slice none 0 0))) ?_ ?_
 ·refine⟨_,_,W9 4 9 1 (by simp) (by omega) (by exact zq F),⟨0,h.length,0,h++[.row 9 1 0 []],[],[],.nil (.slice none 0 0),rfl,aw,?_,?_,?_,?_,by omega,.inl ⟨rfl,rfl⟩,by rw[aS _ rfl];rfl,⟨W8 _ (by omega) (W0 _ _),by omega⟩,by simp,⟨by simp,by simp,by simp,by simp⟩⟩⟩;all_goals try exact zZz F
 rintro _ s2 h' ⟨i,po,vo,hh,out,w,x,rfl,rfl,e3,e4,e5,e6,hi,hx,hg,hfr,hv,hwl⟩ K2 hK2;simp only[ah,ao,Nat.reduceEqDiff, ↓reduceIte]at e3 e4 e5 e6;have F:=F5 F e3 e4 e5 e6;have hgl:=bI hg;obtain⟨hw1,hw2,hw3,hw4⟩:=hwl;obtain⟨hfr,hpo⟩:=hfr;have hol:(out.map AVal.str).length=out.length:=L5 ..;have hwm:(w.map runAN).length=w.length:=L5 ..;have dt:∀i:Decidable True, @decide True i=true:=fun i=>N7 trivial
 have done0:∀(q:Nat),letR (rs.getD i 0)=false∨rs.length≤i→i≤rs.length→wdsR (rs.drop (i+1)) [] (if w=[]then out else out++[encs w])=wdsR rs [] []:=fun _ hl hle=>by
  rw[← hv];rcases T3 i rs.length with hlt|hge
  ·obtain⟨y,hy,_⟩:=ac hlt;have hly:letR y=false:=by
    rcases hl with hl|hl
    ·rw[S4,hy]at hl;exact hl
    ·omega
   rw[aB hy,wdsR];simp only[hly,O0,if_false]
  ·rw[aF hge,aF (by omega),wdsR,wdsR];simp
 have F:=F4 F hg hol hwm;try refine sq F ?_
 refine wk F ?_;refine cq F (fun c1=>?_) (fun c1=>?_)<;>(try exact c1.elim)<;>(refine wk F ?_)
 ·have c2:i≤rs.length:=by omega
  have fin0:True:=trivial;by_cases c3:i<rs.length
  ·obtain⟨y,hy,hym⟩:=ac c3;have d3:decide (i<rs.length)=true:=(by simp;omega);have hl:=pD G y (hrn y hym);have hv2:=hv;rw[aB hy,wdsR]at hv2;have hgd:rs.getD i 0=y:=(by rw[S4,hy];rfl);rw[hgd]at done0;cases hlt:letR y with
   |true=>
    rw[hlt]at hl hv2;rw[L7 rfl]at hv2;have F:=F4 F hy c3 dt;(try refine sq F ?_);refine wk F ?_;refine kq F (hl _) ?_;rcases hx with⟨rfl,rfl⟩| ⟨p,v,rfl,hgw,hp1,hp2⟩
    ·(try refine sq F ?_);refine wk F ?_;refine vh (.inl rfl) (by simp(disch:=first|omega| (simp only[go_sem, ↓reduceIte,seval];first|done|omega)|fail) only[go_sem, ↓reduceIte,seval,F];try rfl) (by simp(disch:=first|omega| (simp only[go_sem, ↓reduceIte,seval];first|done|omega)|fail) only[go_sem, ↓reduceIte,seval,F];try rfl) (by simp(disch:=first|omega| (simp only[go_sem, ↓reduceIte,seval];first|done|omega)|fail) only[go_sem, ↓reduceIte,seval,F];try rfl) (by simp(disch:=first|omega| (simp only[go_sem, ↓reduceIte,seval];first|done|omega)|fail) only[go_sem, ↓reduceIte,seval,F];try rfl) (by omega) (by simp only[elemsOf, ↓reduceIte];rfl) ⟨by simp[maxLen],by simp⟩ ?_;(try refine sq F ?_);refine wk F ?_;refine hK2 _ _ _ (L8 ⟨i+1,po,vo,hh++[.row 21 1 0 [runAN y]],out,[y],.hs hh.length 0 0 1 true,rfl,aw,?_,?_,?_,?_,by omega,.inr ⟨hh.length,0,rfl,by rw[aS _ rfl];rfl,(by omega),by omega⟩,by rw[bL _ hgl];exact hg,⟨W8 _ ((by omega)) hfr,hpo⟩,by simpa using hv2,⟨by simp,by omega,fun c hc=>by simp at hc;subst hc;exact hrn _ hym,by omega⟩⟩) (by omega);all_goals try exact zZz F
    ·have hpl:=bI hgw;have F:=F3 F hgw @ax;(try refine sq F ?_);refine wk F ?_;refine cq F (fun c4=>?_) (fun c4=>?_)<;>(try exact c4.elim)<;>(refine wk F ?_)
     ·rw[L7 (by omega)]at hv2;refine aq F ?_;(try refine sq F ?_);refine wk F ?_;refine hK2 _ _ _ (L8 ⟨i+1,po,vo,hh.set p (.row 21 1 (v+1) ((w++[y]).map runAN)),out,w++[y],.hs p (v+1) 0 (w++[y]).length true,rfl,by simp[runAN],?_,?_,?_,?_,by omega,.inr ⟨p,v+1,rfl,by rw[cr _ _ _ _ _ hpl,L7 rfl],hp1,hp2⟩,by rw[bc _ _ hp2];exact hg,⟨V9 _ hp1 hfr,hpo⟩,hv2,⟨by simp;omega,by omega,fun c hc=>by rcases R4.1 hc with hc|hc;exact hw3 c hc;simp at hc;subst hc;exact hrn _ hym,by omega⟩⟩) (by omega);all_goals try exact zZz F
     ·rw[K4 (by omega)]at hv2;refine hK2 _ _ _ (L8 ⟨i+1,po,vo,hh,out,w,.hs p v 0 w.length true,rfl,rfl,?_,?_,?_,?_,by omega,.inr ⟨p,v,rfl,hgw,hp1,hp2⟩,hg,⟨hfr,hpo⟩,hv2,⟨hw1,by omega,hw3,by omega⟩⟩) (by omega);all_goals try exact zZz F
   |false=>
    have hd:=done0 0 (.inl hlt) c2;rw[hlt]at hl;have F:=F4 F hy c3 dt;(try refine sq F ?_);refine wk F ?_;refine kq F (hl _) ?_;rcases hx with⟨rfl,rfl⟩| ⟨p,v,rfl,hgw,hp1,hp2⟩
    ·rw[L7 rfl]at hd;(try refine sq F ?_);refine wk F ?_;refine cq F (fun c5=>?_) (fun c5=>?_)<;>(try exact c5.elim)<;>(refine wk F ?_)
     refine hK2 _ _ _ (L8 ⟨i+1,po,vo,hh,out,[],.nil (.slice none 0 0),rfl,rfl,?_,?_,?_,?_,by omega,.inl ⟨rfl,rfl⟩,hg,⟨hfr,hpo⟩,hd,⟨by simp,by omega,by simp,fun _=>rfl⟩⟩) (by omega);all_goals try exact zZz F
    ·have hpl:=bI hgw;have hP:=jy G w hw3 (by omega) hgw;have F:=F3 F hgw @ax;(try refine sq F ?_);refine wk F ?_;refine cq F (fun c5=>?_) (fun c5=>?_)<;>(try exact c5.elim)<;>(refine wk F ?_)
     ·have hw0:¬w=[]:=(by rintro rfl;simp at c5);rw[K4 hw0]at hd;refine kq F (hP) ?_;refine aq F ?_;(try refine sq F ?_);refine wk F ?_;refine hK2 _ _ _ (L8 ⟨i+1,po,vo+1,hh.set po (.row 9 1 (vo+1) ((out++[encs w]).map .str)),out++[encs w],[],.nil (.slice none 0 0),rfl,by simp[encs],?_,?_,?_,?_,by omega,.inl ⟨rfl,rfl⟩,by rw[cr _ _ _ _ _ hgl,L7 rfl],⟨V9 _ hpo hfr,hpo⟩,hd,⟨by simp,by simp;omega,by simp,fun _=>rfl⟩⟩) (by omega);all_goals try exact zZz F
     ·have hw0:w=[]:=(by cases w with|nil=>rfl|cons a l=>exfalso;simp only[L6]at c5;omega);rw[L7 hw0]at hd;subst hw0;refine hK2 _ _ _ (L8 ⟨i+1,po,vo,hh,out,[],.hs p v 0 0 true,rfl,rfl,?_,?_,?_,?_,by omega,.inr ⟨p,v,rfl,hgw,hp1,hp2⟩,hg,⟨hfr,hpo⟩,hd,⟨by simp,by omega,by simp,fun _=>rfl⟩⟩) (by omega);all_goals try exact zZz F
  ·have d3:decide (i<rs.length)=false:=(by simp;omega);have hd:=done0 0 (.inr (by omega)) c2;have F:=F2 F d3;(try refine sq F ?_);refine wk F ?_;rcases hx with⟨rfl,rfl⟩| ⟨p,v,rfl,hgw,hp1,hp2⟩
   ·rw[L7 rfl]at hd;(try refine sq F ?_);refine wk F ?_;refine cq F (fun c5=>?_) (fun c5=>?_)<;>(try exact c5.elim)<;>(refine wk F ?_)
    refine hK2 _ _ _ (L8 ⟨i+1,po,vo,hh,out,[],.nil (.slice none 0 0),rfl,rfl,?_,?_,?_,?_,by omega,.inl ⟨rfl,rfl⟩,hg,⟨hfr,hpo⟩,hd,⟨by simp,by omega,by simp,fun _=>rfl⟩⟩) (by omega);all_goals try exact zZz F
   ·have hpl:=bI hgw;have hP:=jy G w hw3 (by omega) hgw;have F:=F3 F hgw @ax;(try refine sq F ?_);refine wk F ?_;refine cq F (fun c5=>?_) (fun c5=>?_)<;>(try exact c5.elim)<;>(refine wk F ?_)
    ·have hw0:¬w=[]:=(by rintro rfl;simp at c5);rw[K4 hw0]at hd;refine kq F (hP) ?_;refine aq F ?_;(try refine sq F ?_);refine wk F ?_;refine hK2 _ _ _ (L8 ⟨i+1,po,vo+1,hh.set po (.row 9 1 (vo+1) ((out++[encs w]).map .str)),out++[encs w],[],.nil (.slice none 0 0),rfl,by simp[encs],?_,?_,?_,?_,by omega,.inl ⟨rfl,rfl⟩,by rw[cr _ _ _ _ _ hgl,L7 rfl],⟨V9 _ hpo hfr,hpo⟩,hd,⟨by simp,by simp;omega,by simp,fun _=>rfl⟩⟩) (by omega);all_goals try exact zZz F
    ·have hw0:w=[]:=(by cases w with|nil=>rfl|cons a l=>exfalso;simp only[L6]at c5;omega);rw[L7 hw0]at hd;subst hw0;refine hK2 _ _ _ (L8 ⟨i+1,po,vo,hh,out,[],.hs p v 0 0 true,rfl,rfl,?_,?_,?_,?_,by omega,.inr ⟨p,v,rfl,hgw,hp1,hp2⟩,hg,⟨hfr,hpo⟩,hd,⟨by simp,by omega,by simp,fun _=>rfl⟩⟩) (by omega);all_goals try exact zZz F
 ·have hie:i=rs.length+1:=by omega
  have hwe:=hw4 hie;subst hwe;rw[aF (by omega),wdsR,L7 rfl]at hv;obtain⟨j,rfl⟩:=hfr.behind (by omega);refine ee hQ F ?_;rw[← hv];exact za6 (jx hpo hg) ⟨rfl,rfl⟩
theorem wN(t:Bs)(h:Heap):Sat (CT G) 172 [.str t] h (fun r h'=>r=.bool (L0.tag t)∧h'=h):=by
 have hL:=jc G rightS cleanF (fun t ht h=>jf G t (by omega) h) (fun t ht h=>jg G t (by omega) h) t;have hu:L0.tag t=((!(t==[])&&textF rightS cleanF t 64)&&isF t):=rfl;rw[hu];cases hl:(!(t==[])&&textF rightS cleanF t 64)with
 |false=>
  rw[hl]at hL;refine sb [.tmp 2] Tryz.func172 ?_;intro Q hQ;refine wk trivial ?_;refine kq trivial (hL _) ?_;refine ee hQ trivial ?_;exact O9 (.bool _) ⟨by simp,rfl⟩
 |true=>
  rw[hl]at hL;have hlen:t.length≤64:=by
   rw[K5]at hl;have:=hl.2;unfold textF at this;rw[K5,K8]at this;omega
  have hwl:(wordsF t).length≤1000000:=by
   have h1:=jz (runesF (foldS t)) [] [];have h2:=bV (foldS t).length (foldS t) (M0 _);have h3:=iB t;rw[← kB]at h1;simp only[M9]at h1;omega
  have hS:=sx G (wordsF t) [t] hwl (by simp);refine sb [.tmp 2] Tryz.func172 ?_;intro Q hQ;refine wk trivial ?_;refine kq trivial (hL _) ?_;refine kq trivial (sC G t (by omega) _) ?_;refine kq trivial (hS _) ?_;refine ee hQ trivial ?_;exact O9 (.bool _) ⟨by simp[isF],rfl⟩
end
section
attribute [local irreducible] WP WPl WPix Sat
set_option pp.deepTerms true
set_option pp.maxSteps 200000
theorem pE{h:Heap}{p v len n m:Nat}{b:Bool}{rows:List AVal}(hg:getRow h p v=some (m,n,rows))(hl:rows.length=len):elemsOf h n (.hs p v 0 len b)=some rows:=by
 simp only[elemsOf,hg,true_and];rw[L7 (by omega),W3,M4 (by omega)]
variable (G:Nat→Option (List AVal))
end
section
attribute [local irreducible] WP WPl WPix Sat
variable (G:Nat→Option (List AVal))
end
section
def sumZ:List Int→Int
 | []=>0
 |a::l=>a+sumZ l
def S2{α:Type}(F:List α)(L:List It)(P:α→It→Bool):Int:=sumZ (F.map fun g=>(L.countP (P g):Int))
variable {s:PS}
def PS.inn(s:PS)(id:Int):Int:=((lkM s.fo id).map (·.inn)).getD 0
end
section
variable {s:PS}
theorem gW{α:Type}{z:α}{l:ML Int α}{key:α→Int}(hid:∀k a,lkM l k=some a→key a=k)(id:Int):fnd key (valsM z l) id=lkM l id:=uc key hid id
theorem PS.Inv.fndFo(h:s.Inv)(id:Int):fnd (·.id) s.tell.fo id=lkM s.fo id:=gW (fun k a hk=>(h.i1 k a hk).1) id
theorem PS.Inv.fndFe(h:s.Inv)(id:Int):fnd (·.id) s.tell.fe id=lkM s.fe id:=gW (fun k a hk=>(h.i2 k a hk).1) id
theorem PS.Inv.fndIt(h:s.Inv)(id:Int):fnd (·.id) s.tell.it id=lkM s.it id:=gW (fun k a hk=>(h.i3 k a hk).1) id
theorem PS.Inv.fndSe(h:s.Inv)(id:Int):fnd (·.id) s.tell.se id=lkM s.se id:=gW (fun k a hk=>(h.i4 k a hk).1) id
theorem PS.Inv.hasT(h:s.Inv){id:Int}(hi:id=0∨(lkM s.fo id).isSome=true):s.tell.has id:=by
 rcases hi with hi|hi
 ·exact .inl hi
 ·obtain⟨f,hf⟩:=M8.1 hi;exact .inr ⟨f,by rw[h.fndFo,hf]⟩
theorem PS.Inv.up(h:s.Inv):s.tell.Up where
 fo:=fun f hf=>by
  obtain⟨k,hk⟩:=aK hf;exact h.hasT (h.u1 k f hk)
 fe:=fun f hf=>by
  obtain⟨k,hk⟩:=aK hf;exact h.hasT (h.u2 k f hk)
 it:=fun t ht=>by
  obtain⟨k,hk⟩:=aK ht;obtain⟨f,hf⟩:=M8.1 (h.u3 k t hk);exact⟨f,by rw[h.fndFe,hf]⟩
 l1:=by have:=aM (z:=Fo.z) s.fo;have:=h.l1;show(valsM Fo.z s.fo).length≤_;omega
 l2:=by have:=aM (z:=Fe.z) s.fe;have:=h.l2;show(valsM Fe.z s.fe).length≤_;omega
 l3:=by have:=aM (z:=It.z) s.it;have:=h.l3;show(valsM It.z s.it).length≤_;omega
 tg:=fun t ht=>by
  obtain⟨k,hk⟩:=aK ht;exact(h.tg k t hk).2
end
end Go.Av
