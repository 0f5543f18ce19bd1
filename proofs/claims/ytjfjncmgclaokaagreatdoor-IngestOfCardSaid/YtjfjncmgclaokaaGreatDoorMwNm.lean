/- Parts. -/
import Derived.Test.YtjfjncmgclaokaaGreatDoorMwKf
set_option linter.unusedSimpArgs false
set_option linter.unusedVariables false
set_option linter.unusedSectionVars false
set_option linter.unnecessarySimpa false
set_option maxRecDepth 100000
set_option maxHeartbeats 16000000
namespace Go.Av
open Go Go.Proofs Go.RowKit
section
variable {s:PS} {e:Ev}
structure PS.Nam (s:PS):Prop where
 w5:WFM s.nm s.c5
 w6:WFM s.pl s.c6
 n1:∀key k,lkM s.nm key=some k→∃f,lkM s.fo k=some f∧(f.inn,f.name)=key
 n2:∀k f,lkM s.fo k=some f→lkM s.nm (f.inn,f.name)=some k
 p1:∀u k,lkM s.pl u=some k→∃f,lkM s.fe k=some f∧f.url=u
 p2:∀k f,lkM s.fe k=some f→lkM s.pl f.url=some k
 g1:∀key k,lkM s.gu key=some k→∃t,lkM s.it k=some t∧(t.feed,t.guid)=key
 g2:∀k t,lkM s.it k=some t→lkM s.gu (t.feed,t.guid)=some k
theorem PS.Nam.z:PS.z.Nam where
 w5:=.nil
 w6:=.nil
 n1:=fun _ _ h=>by cases h
 n2:=fun _ _ h=>by cases h
 p1:=fun _ _ h=>by cases h
 p2:=fun _ _ h=>by cases h
 g1:=fun _ _ h=>by cases h
 g2:=fun _ _ h=>by cases h
theorem kO{κ α:Type}[DecidableEq κ]{m:ML κ Int}{l:ML Int α}{c c':Nat}{key:κ}{a:α}{k:Int}(kf:α→κ)
  (h1:∀q j,lkM m q=some j→∃f,lkM l j=some f∧kf f=q)(h2:∀j f,lkM l j=some f→lkM m (kf f)=some j)(hk:lkM l k=none)(hm:lkM m key=none)(ha:kf a=key):
  (∀q j,lkM (upM m c key k) q=some j→∃f,lkM (upM l c' k a) j=some f∧kf f=q)∧(∀j f,lkM (upM l c' k a) j=some f→lkM (upM m c key k) (kf f)=some j):=by
 refine⟨fun q j hq=>?_,fun j f hf=>?_⟩
 ·rcases aP hq with⟨rfl,rfl⟩| ⟨hne,hq⟩
  ·exact⟨a,by rw[bt,I6 rfl],ha⟩
  ·obtain⟨f,hf,hkf⟩:=h1 q j hq;refine⟨f,?_,hkf⟩;rw[bt,I0 (by rintro rfl;rw[hk]at hf;cases hf)];exact hf
 ·rcases aP hf with⟨rfl,rfl⟩| ⟨hne,hf⟩
  ·rw[ha,bt,I6 rfl]
  ·have:=h2 j f hf;rw[bt,I0 (by intro e;rw[e,hm]at this;cases this)];exact this
theorem oO{κ α:Type}[DecidableEq κ]{m:ML κ Int}{l:ML Int α}{k:Int}{a:α}(kf:α→κ)(nm:(m.map (·.1)).Nodup)(nl:(l.map (·.1)).Nodup)
  (h1:∀q j,lkM m q=some j→∃f,lkM l j=some f∧kf f=q)(h2:∀j f,lkM l j=some f→lkM m (kf f)=some j)(hk:lkM l k=some a):
  (∀q j,lkM (dlM m (kf a)) q=some j→∃f,lkM (dlM l k) j=some f∧kf f=q)∧(∀j f,lkM (dlM l k) j=some f→lkM (dlM m (kf a)) (kf f)=some j):=by
 refine⟨fun q j hq=>?_,fun j f hf=>?_⟩
 ·obtain⟨hne,hq⟩:=cZ nm hq;obtain⟨f,hf,hkf⟩:=h1 q j hq;refine⟨f,?_,hkf⟩;rw[dU nl,I0 (by rintro rfl;rw[hk]at hf;cases hf;exact hne hkf.symm)];exact hf
 ·obtain⟨hne,hf⟩:=cZ nl hf;have:=h2 j f hf;rw[dU nm,I0 (by intro e;rw[e,h2 k a hk]at this;cases this;exact hne rfl)];exact this
theorem gm{κ α:Type}[DecidableEq κ]{m:ML κ Int}{l:ML Int α}{c:Nat}{k:Int}{a a':α}(kf:α→κ)
  (h1:∀q j,lkM m q=some j→∃f,lkM l j=some f∧kf f=q)(h2:∀j f,lkM l j=some f→lkM m (kf f)=some j)(hk:lkM l k=some a)(ha:kf a'=kf a):
  (∀q j,lkM m q=some j→∃f,lkM (upM l c k a') j=some f∧kf f=q)∧(∀j f,lkM (upM l c k a') j=some f→lkM m (kf f)=some j):=by
 refine⟨fun q j hq=>?_,fun j f hf=>?_⟩
 ·obtain⟨f,hf,hkf⟩:=h1 q j hq;by_cases hj:j=k
  ·subst hj;rw[hk]at hf;cases hf;exact⟨a',by rw[bt,I6 rfl],by rw[ha,hkf]⟩
  ·exact⟨f,by rw[bt,I0 hj];exact hf,hkf⟩
 ·rcases aP hf with⟨rfl,rfl⟩| ⟨hne,hf⟩
  ·rw[ha];exact h2 _ _ hk
  ·exact h2 j f hf
theorem mU{κ α:Type}[DecidableEq κ]{l:ML κ α}(hn:(l.map (·.1)).Nodup){p:κ×α×Nat→Bool}{y:κ}{b:α}(h:lkM l y=some b)(hp:∀n,p (y,b,n)=true):lkM (l.filter p) y=some b:=by
 obtain⟨n,hm⟩:=eI h;exact cn (hn.sublist (List.filter_sublist.map _)) (R7.2 ⟨hm,hp n⟩)
theorem kP{κ α:Type}[DecidableEq κ]{l:ML κ α}(hn:(l.map (·.1)).Nodup){p:κ×α×Nat→Bool}{y:κ}{b:α}(h:lkM (l.filter p) y=some b):lkM l y=some b∧∃n,(y,b,n)∈l∧p (y,b,n)=true:=by
 obtain⟨n,hm⟩:=eI h;have:=R7.1 hm;exact⟨cn hn this.1,n,this.1,this.2⟩
theorem mV{κ:Type}[DecidableEq κ]{m:ML κ Int}{key:κ}(h:∀j,lkM m key=some j→1≤j)(h0:(lkM m key).getD 0=0):lkM m key=none:=by
 cases hl:lkM m key with
 |none=>rfl
 |some j=>rw[hl]at h0;have:=h j hl;simp at h0;omega
theorem PS.Nam.nm1(h:s.Nam)(hI:s.Inv){key:Int×Bs}{j:Int}(hj:lkM s.nm key=some j):1≤j:=by
 obtain⟨f,hf,_⟩:=h.n1 key j hj;exact(hI.i1 _ _ hf).2.1
theorem PS.Nam.pl1(h:s.Nam)(hI:s.Inv){key:Bs}{j:Int}(hj:lkM s.pl key=some j):1≤j:=by
 obtain⟨f,hf,_⟩:=h.p1 key j hj;exact(hI.i2 _ _ hf).2.1
theorem PS.Nam.gu1(h:s.Nam)(hI:s.Inv){key:Int×Bs}{j:Int}(hj:lkM s.gu key=some j):1≤j:=by
 obtain⟨f,hf,_⟩:=h.g1 key j hj;exact(hI.i3 _ _ hf).2.1
theorem PS.Nam.unFe(h:s.Nam)(hI:s.Inv){k:Int}{f:Fe}(hk:lkM s.fe k=some f):PS.Nam (s.unfeed f):=by
 have hfk:=(hI.i2 _ _ hk).1;obtain⟨q1,q2⟩:=oO (·.url) h.w6.keys hI.w2.keys h.p1 h.p2 hk;unfold PS.unfeed;rw[aM];have hkey:∀j t,lkM s.it j=some t→t.feed=f.id→∀n,(fun e:(Int×Bs)×Int×Nat=> !(s.it.any fun d=>decide (d.2.1.feed=f.id)&&decide (e.1=(d.2.1.feed,d.2.1.guid)))) ((t.feed,t.guid),j,n)=false:=fun j t ht hf n=>by
  obtain⟨m,hm⟩:=eI ht;simp only[Bool.not_eq_false',U0];exact⟨_,hm,by simp[hf]⟩
 exact {h with
  w6:=h.w6.dl _
  p1:=by rw[hfk];exact q1
  p2:=by rw[hfk];exact q2
  g1:=fun key j hj=>by
   obtain⟨h1,n,h2,h3⟩:=kP hI.w7.keys hj;obtain⟨t,ht,hkf⟩:=h.g1 key j h1;refine⟨t,mU hI.w3.keys ht fun n'=>?_,hkf⟩;simp only[M4,decide_eq_false_iff_not];intro hfe;have:=hkey j t ht hfe n;rw[hkf]at this;exact absurd (h3.symm.trans this) (by decide)
  g2:=fun j t ht=>by
   obtain⟨h1,n,h2,h3⟩:=kP hI.w3.keys ht;refine mU hI.w7.keys (h.g2 j t h1) fun n'=>?_
   simp only[M4,decide_eq_false_iff_not]at h3;simp only[M4,U5,I1,I8,not_and];intro d hd hdf hq;have:t.feed=d.2.1.feed:=L9 Prod.fst hq;exact h3 (this.trans hdf)}
theorem PS.Nam.step{L:Leaf}(h:s.Nam)(hI:s.Inv)(e:Ev):(s.step L e).Nam:=by
 unfold PS.step;split
 ·rename_i hok;unfold PS.ok PS.fits at hok;rw[I1]at hok;obtain⟨hck,hf⟩:=hok;unfold PS.aft PS.after;by_cases k1:e.kind=1
  ·rw[I6 k1]at hf;simp only[I1,M4,I8,beq_iff_eq]at hf;rw[I0 (by omega),I0 (by omega),I0 (by omega),I0 (by omega),I0 (by omega),I0 (by omega),I0 (by omega),I0 (by omega),I0 (by omega),PS.make,I6 k1,aM];have hn:=mV (fun j hj=>h.nm1 hI hj) hf.2;obtain⟨q1,q2⟩:=kO (c:=s.c5) (c':=s.c1) (a:=(⟨e.a,e.b,e.s⟩:Fo)) (fun f:Fo=>(f.inn,f.name)) h.n1 h.n2 (cA hf.1.1.1.1) hn rfl;exact {h with w5:=h.w5.up _ _,n1:=q1,n2:=q2}
  rw[I0 k1]at hf;by_cases k2:e.kind=2
  ·rw[I6 k2]at hf ⊢;simp only[I1,beq_iff_eq]at hf;obtain⟨f,hfo⟩:=bd hf.1;rw[hfo,aM];obtain⟨q1,q2⟩:=oO (fun f:Fo=>(f.inn,f.name)) h.w5.keys hI.w1.keys h.n1 h.n2 hfo;exact {h with w5:=h.w5.dl _,n1:=q1,n2:=q2}
  rw[I0 k2]at hf ⊢;by_cases k3:e.kind=3
  ·rw[I6 k3]at hf;simp only[I1,M4,I8,beq_iff_eq]at hf;rw[I0 (by omega),I0 (by omega),I0 (by omega),I0 (by omega),I0 (by omega),I0 (by omega),I0 (by omega),I0 (by omega),PS.make,I0 (by omega),I6 k3,aM];have hn:=mV (fun j hj=>h.pl1 hI hj) hf.2;obtain⟨q1,q2⟩:=kO (c:=s.c6) (c':=s.c2) (a:=(⟨e.a,e.b,e.s,e.t⟩:Fe)) (fun f:Fe=>f.url) h.p1 h.p2 (cA hf.1.1.1) hn rfl;exact {h with w6:=h.w6.up _ _,p1:=q1,p2:=q2}
  rw[I0 k3]at hf;by_cases k4:e.kind=4
  ·rw[I6 (.inl k4)]at hf;rw[I6 k4];obtain⟨f,hfo⟩:=bd hf;rw[hfo];exact h.unFe hI hfo
  rw[I0 k4];by_cases k5:e.kind=5
  ·rw[I6 (.inr k5)]at hf;rw[I6 k5];obtain⟨f,hfo⟩:=bd hf;rw[hfo];obtain⟨q1,q2⟩:=gm (c:=s.c2) (a':= {f with title:=e.t}) (fun f:Fe=>f.url) h.p1 h.p2 hfo rfl;exact {h with p1:=q1,p2:=q2}
  rw[I0 (by omega)]at hf;rw[I0 k5];by_cases k6:e.kind=6
  ·rw[I6 k6]at hf ⊢;simp only[I1]at hf;obtain⟨f,hfo⟩:=bd hf.1;rw[hfo,aM,aM];obtain⟨q1,q2⟩:=gm (c:=s.c2) (a':= {f with inn:=e.b}) (fun f:Fe=>f.url) h.p1 h.p2 hfo rfl;exact {h with p1:=q1,p2:=q2}
  rw[I0 k6]at hf ⊢;by_cases k7:e.kind=7
  ·rw[I6 k7]at hf;simp only[I1,M4,I8,beq_iff_eq]at hf;rw[I0 (by omega),I0 (by omega),I0 (by omega),I0 (by omega),I0 (by omega),PS.make,I0 (by omega),I0 (by omega),I6 k7];have hn:=mV (fun j hj=>h.gu1 hI hj) hf.2;obtain⟨q1,q2⟩:=kO (c:=s.c7) (c':=s.c3) (a:=(⟨e.a,e.b,e.n,e.s,e.t,e.u,false,false,[]⟩:It)) (fun t:It=>(t.feed,t.guid)) h.g1 h.g2 (cA hf.1.1.1) hn rfl;exact {h with g1:=q1,g2:=q2}
  rw[I0 k7]at hf;by_cases k8:e.kind=8
  ·rw[I6 (.inl k8)]at hf;rw[I6 k8];obtain⟨f,hfo⟩:=bd hf;rw[hfo];obtain⟨q1,q2⟩:=gm (c:=s.c3) (a':= {f with read:=e.n==1}) (fun t:It=>(t.feed,t.guid)) h.g1 h.g2 hfo rfl;exact {h with g1:=q1,g2:=q2}
  rw[I0 k8];by_cases k9:e.kind=9
  ·rw[I6 (.inr k9)]at hf;rw[I6 k9];obtain⟨f,hfo⟩:=bd hf;rw[hfo];obtain⟨q1,q2⟩:=gm (c:=s.c3) (a':= {f with star:=e.n==1}) (fun t:It=>(t.feed,t.guid)) h.g1 h.g2 hfo rfl;exact {h with g1:=q1,g2:=q2}
  rw[I0 (by omega)]at hf;rw[I0 k9];by_cases k10:e.kind=10
  ·rw[I6 k10]at hf ⊢;simp only[I1,O2,I8]at hf;obtain⟨f,hfo⟩:=bd hf.1;rw[hfo];obtain⟨q1,q2⟩:=gm (c:=s.c3) (a':= {f with tags:=tgF f.tags e.s e.n}) (fun t:It=>(t.feed,t.guid)) h.g1 h.g2 hfo rfl;exact {h with g1:=q1,g2:=q2}
  rw[I0 k10];by_cases k12:e.kind=12
  ·rw[I6 k12];exact {h with}
  rw[I0 k12];by_cases k13:e.kind=13
  ·rw[I6 k13];exact {h with}
  rw[I0 k13,PS.make,I0 k1,I0 k3,I0 k7];split
  ·exact {h with}
  ·exact h
 ·exact h
theorem PS.Nam.fold{L:Leaf}(h:s.Nam)(hI:s.Inv)(l:List Ev):(l.foldl (PS.step L) s).Nam:=by
 induction l generalizing s with
 |nil=>exact h
 |cons e l ih=>exact ih (h.step hI e) (hI.step e)
end
section
variable {s:PS} {e:Ev}
theorem eb(s:PS)(id k:Int):(s.hold id k).t3=s.t3∧(s.hold id k).clock=s.clock:=by rw[aM];exact⟨rfl,rfl⟩
theorem xd(s:PS)(e:Ev)(h:e.kind≠7):(s.make e).t3=s.t3∧(s.make e).clock=s.clock:=by
 unfold PS.make;split
 ·exact eb _ _ _
 split
 ·exact eb _ _ _
 split<;>exact⟨rfl,rfl⟩
theorem zW(s:PS)(e:Ev):(s.aft e).t3=(if e.kind=7 then(if e.a>s.t3 then e.a else s.t3)else s.t3)∧(s.aft e).clock=(if e.kind=13 then e.n else s.clock):=by
 unfold PS.aft PS.after;by_cases k7:e.kind=7
 ·rw[I0 (by omega),I0 (by omega),I0 (by omega),I0 (by omega),I0 (by omega),I0 (by omega),I0 (by omega),I0 (by omega),I0 (by omega),PS.make,I0 (by omega),I0 (by omega),I6 k7,I6 k7];exact⟨rfl,by rw[I0 (by omega:¬e.kind=13)];rfl⟩
 rw[I0 k7];by_cases k13:e.kind=13
 ·rw[I0 (by omega),I0 (by omega),I0 (by omega),I0 (by omega),I0 (by omega),I0 (by omega),I0 (by omega),I0 (by omega),I6 k13,I6 k13];exact⟨rfl,rfl⟩
 rw[I0 k13,I0 k13];split
 ·exact eb _ _ _
 split
 ·exact eb _ _ _
 split
 ·exact⟨rfl,rfl⟩
 split
 ·exact⟨(eb _ _ _).1.trans (eb _ _ _).1,(eb _ _ _).2.trans (eb _ _ _).2⟩
 split
 ·exact⟨rfl,rfl⟩
 split
 ·exact⟨rfl,rfl⟩
 split
 ·exact⟨rfl,rfl⟩
 split
 ·exact⟨rfl,rfl⟩
 exact xd s e k7
structure PS.Tops (s:PS):Prop where
 i:∀k t,lkM s.it k=some t→k≤s.t3
 z:0≤s.t3
 m:s.t3≤1048576
 c:momF s.clock=true
theorem PS.Tops.z0:PS.z.Tops where
 i:=fun _ _ h=>by cases h
 z:=by simp[PS.z]
 m:=by simp[PS.z]
 c:=by simp[PS.z,momF]
theorem PS.Tops.step(h:s.Tops)(hI:s.Inv)(e:Ev):(s.step L0 e).Tops:=by
 unfold PS.step;split
 ·rename_i hok;unfold PS.ok PS.fits at hok;rw[I1]at hok;obtain⟨hck,hf⟩:=hok;have hr:L0.right e=true:=by unfold Leaf.ck at hck;simp only[I1]at hck;exact hck.1
  have hs:=fun {k:Int} (hk:(lkM s.it k).isSome=true)=>bd hk
  obtain⟨e1,e2⟩:=zW s e;have hz:=h.z;have hm:=h.m;refine⟨fun k t hk=>?_,?_,?_,?_⟩
  ·rw[e1];rw[xc]at hk;have old:∀{t},lkM s.it k=some t→k≤s.t3:=fun h1=>h.i k _ h1
   have up:∀{v:It} {p:Prop},(lkM s.it e.a).isSome=true→lkM (upM s.it s.c3 e.a v) k=some t→k≤s.t3:=fun {v p} hi h1=>by
    rcases aP h1 with⟨rfl,_⟩| ⟨_,h1⟩
    ·obtain⟨t',h2⟩:=bd hi;exact h.i _ _ h2
    ·exact h.i _ _ h1
   split at hk
   ·have:=old (gj hI.w3.keys hk);split<;>(try split)<;>omega
   split at hk
   ·rw[I6 (by assumption)];rcases aP hk with⟨rfl,_⟩| ⟨_,hk⟩
    ·split<;>omega
    ·have:=old hk;split<;>omega
   rename_i k4 k7;rw[I0 k7];rw[I0 (by omega:¬e.kind=7)]at hf;split at hk
   ·rename_i k8;rw[I0 (by omega),I0 (by omega),I0 (by omega),I0 (by omega),I0 (by omega),I6 (.inl k8)]at hf;exact up (p:=True) hf hk
   split at hk
   ·rename_i k9;rw[I0 (by omega),I0 (by omega),I0 (by omega),I0 (by omega),I0 (by omega),I6 (.inr k9)]at hf;exact up (p:=True) hf hk
   split at hk
   ·rename_i k10;rw[I0 (by omega),I0 (by omega),I0 (by omega),I0 (by omega),I0 (by omega),I0 (by omega),I6 k10]at hf;simp only[I1]at hf;exact up (p:=True) hf.1 hk
   ·exact old hk
  ·rw[e1];split<;>(try split)<;>omega
  ·rw[e1];split
   ·have:=ji hr (by omega);split<;>omega
   ·exact hm
  ·rw[e2];split
   ·rename_i k13;unfold Leaf.right at hr;rw[I0 (by omega),I0 (by omega),I0 (by omega),I0 (by omega),I0 (by omega),I0 (by omega),I0 (by omega),I0 (by omega),I0 (by omega),I6 k13]at hr;exact hr
   ·exact h.c
 ·exact h
theorem PS.Tops.fold(h:s.Tops)(hI:s.Inv)(l:List Ev):(l.foldl (PS.step L0) s).Tops:=by
 induction l generalizing s with
 |nil=>exact h
 |cons e l ih=>exact ih (h.step hI e) (hI.step e)
end
section
attribute [local irreducible] WP WPl WPix Sat
section
theorem lR{α:Type}{key:α→Int}{l:List α}{id:Int}{o:Option α}(h:fnd key l id=o):decide (posF key l id<0)= !o.isSome:=by
 subst h;cases hf:fnd key l id with
 |none=>rw[eO hf];rfl
 |some a=>obtain⟨k,_,h2,_⟩:=bi hf;rw[h2];simp
theorem eG{α:Type}{key:α→Int}{l:List α}{id:Int}{o:Option α}(h:fnd key l id=o):decide (posF key l id≥0)=o.isSome:=by
 subst h;cases hf:fnd key l id with
 |none=>rw[eO hf];rfl
 |some a=>obtain⟨k,_,h2,_⟩:=bi hf;rw[h2];simp
variable {s:PS} {e:Ev}
theorem xj(hI:s.Inv):∀{k:Nat} {id:Int} {d n:Nat},(id=0∨(lkM s.fo id).isSome=true)→deepO s.fo k id=some d→s.tell.dpW k id n=n+d:=by
 intro k;induction k with
 |zero=>
  intro id d n hv hd;rw[deepO]at hd;split at hd
  ·cases hd
  ·rename_i hs;cases hd;rcases hv with hv|hv
   ·rw[St.dpW,I6 hv];rfl
   ·exact(hs hv).elim
 |succ k ih=>
  intro id d n hv hd;by_cases h0:id=0
  ·subst h0;rw[deepO,hI.no0]at hd;cases hd;rw[St.dpW,I6 rfl];rfl
  ·obtain⟨f,hf⟩:=K6.1 (hv.resolve_left h0);rw[deepO,hf]at hd;simp only[K9]at hd;obtain⟨j,hj,rfl⟩:=hd;rw[St.dpW,I0 h0,hI.fndFo,hf];simp only;rw[ih (hI.u1 _ _ hf) hj];omega
theorem uE(hI:s.Inv)(id:Int):s.tell.deep id=s.dpt id:=by
 unfold St.deep;rw[hI.fndFo];obtain⟨h1,_⟩:=hI.deep id;cases hf:lkM s.fo id with
 |none=>
  rw[deepO,hf]at h1;simp only[K8]at h1;exact h1
 |some f=>
  simp only;rw[xj hI (.inr (by rw[hf];rfl)) h1];omega
theorem xk(hI:s.Inv)(hN:s.Nam)(i:Int)(g:Bs):(!s.tell.nmd i g)=((lkM s.nm (i,g)).getD 0==0):=by
 have h1:s.tell.nmd i g=(lkM s.nm (i,g)).isSome:=by
  unfold St.nmd;rw[N8,U0];constructor
  ·rintro⟨f,hf,hp⟩;obtain⟨k,hk⟩:=aN hf;have:=hN.n2 k f hk;simp only[I8]at hp;rw[hp.1,hp.2]at this;rw[this];rfl
  ·intro hs;obtain⟨k,hk⟩:=K6.1 hs;obtain⟨f,hf,hp⟩:=hN.n1 _ _ hk;refine⟨f,bA hf,?_⟩;simp only[I8];cases hp;exact⟨rfl,rfl⟩
 rw[h1];cases hl:lkM s.nm (i,g)with
 |none=>rfl
 |some j=>
  have:=hN.nm1 hI hl;rw[N8];simp;omega
theorem xm(hI:s.Inv)(hN:s.Nam)(u:Bs):s.tell.plc u=(lkM s.pl u).getD 0:=by
 unfold St.plc;cases hf:s.tell.fe.find? fun f=>decide (f.url=u)with
 |none=>
  cases hl:lkM s.pl u with
  |none=>rfl
  |some k=>
   obtain⟨f,hk,hu⟩:=hN.p1 _ _ hl;have:=List.find?_eq_none.1 hf f (bA hk);simp[hu]at this
 |some f=>
  have h1:=List.find?_some hf;obtain⟨k,hk⟩:=aN (List.mem_of_find?_eq_some hf);simp only[I8]at h1;have:=hN.p2 k f hk;rw[h1]at this;rw[this];simp only[O6,O3];exact(hI.i2 _ _ hk).1
theorem sB(hI:s.Inv)(hN:s.Nam)(i:Int)(g:Bs):s.tell.gid i g=(lkM s.gu (i,g)).getD 0:=by
 unfold St.gid;cases hf:s.tell.it.find? fun t=>decide (t.feed=i∧t.guid=g)with
 |none=>
  cases hl:lkM s.gu (i,g)with
  |none=>rfl
  |some k=>
   obtain⟨t,hk,hu⟩:=hN.g1 _ _ hl;have:=List.find?_eq_none.1 hf t (bA hk);cases hu;simp at this
 |some t=>
  have h1:=List.find?_some hf;obtain⟨k,hk⟩:=aN (List.mem_of_find?_eq_some hf);simp only[I8]at h1;have:=hN.g2 k t hk;rw[h1.1,h1.2]at this;rw[this];simp only[O6,O3];exact(hI.i3 _ _ hk).1
theorem xn(hI:s.Inv){a:Int}(ha:a≠0):s.tell.emp a=((lkM s.he a).getD 0==0):=by
 have h1:=hI.hd a ha;have hz:∀{α:Type} (z:α) (w:α→Int) (p:α→Bool) (l:ML Int α),(∀x,w x=if p x then 1 else 0)→(l.map (·.1)).Nodup→(((valsM z l).any p)=false↔sumM w l=0):=fun {α} z w p l hw hn=>by
  have hnn:∀x,0≤w x:=fun x=>by rw[hw];split<;>omega
  constructor
  ·intro h;have:∀e∈l,w e.2.1=0:=fun e he=>by
    have hm:e.2.1∈valsM z l:=bA (cn hn (b:=e.2.2) he);have:=U5.1 h _ hm;rw[hw];simp[this]
   clear h hn;induction l with
   |nil=>rfl
   |cons e l ih=>rw[sumM,this e (by simp),ih fun x hx=>this x (by simp[hx])];rfl
  ·intro h;rw[U5];intro x hx;obtain⟨k,hk⟩:=aN hx;have:=mS hnn (by omega:sumM w l≤0) hk;rw[hw]at this;intro hp;rw[I6 hp]at this;cases this
 have hz1:=hz Fo.z (inFo a) (fun f=>decide (f.inn=a)) s.fo (fun x=>by unfold inFo;simp) hI.w1.keys;have hz2:=hz Fe.z (inFe a) (fun f=>decide (f.inn=a)) s.fe (fun x=>by unfold inFe;simp) hI.w2.keys;have n1:=cy (gb a) s.fo;have n2:=cy (gd a) s.fe;rw[h1];unfold St.emp
 change (!((valsM Fo.z s.fo).any fun f=>decide (f.inn=a))&& !((valsM Fe.z s.fe).any fun f=>decide (f.inn=a)))=_
 rw[N8];simp only[I1,M4,beq_iff_eq];rw[hz1,hz2];omega
theorem qw(s:PS):s.tell.fo.length=s.fo.length∧s.tell.fe.length=s.fe.length∧s.tell.it.length=s.it.length∧s.tell.se.length=s.se.length:=⟨aH _,aH _,aH _,aH _⟩
theorem gn(n m:Nat):decide ((n:Int)<(m:Int))=decide (n<m):=by rw[decide_eq_decide];omega
theorem E9(hI:s.Inv)(hN:s.Nam)(hck:L0.ck e=true)(k:e.kind=1):s.ok L0 e=((decide (posF (·.id) s.tell.fo e.a<0))&&(decide ((s.tell.fo.length:Int)<64))&&(s.within e.b)&&(decide ((s.tell.deep e.b:Int)<7))&&(!s.tell.nmd e.b e.s)):=by
 have q1:decide ((s.fo.length:Int)<64)=decide (s.fo.length<64):=gn _ _;have q2:decide (((s.dpt e.b):Int)<7)=decide ((s.dpt e.b)<7):=gn _ _;unfold PS.ok PS.fits;rw[hck,I6 k,lR (hI.fndFo e.a),xk hI hN,uE hI,(qw s).1,Q4,q1,q2]
theorem Ea(hI:s.Inv)(hN:s.Nam)(hck:L0.ck e=true)(k:e.kind=2):s.ok L0 e=((decide (posF (·.id) s.tell.fo e.a≥0))&&(s.tell.emp e.a)):=by
 have ha:1≤e.a:=by
  unfold Leaf.ck at hck;simp only[I1]at hck;exact(ji hck.1 (by omega)).1
 unfold PS.ok PS.fits;rw[hck,I0 (by omega),I6 k,eG (hI.fndFo e.a),xn hI (by omega),Q4]
theorem Eb(hI:s.Inv)(hN:s.Nam)(hck:L0.ck e=true)(k:e.kind=3):s.ok L0 e=((decide (posF (·.id) s.tell.fe e.a<0))&&(decide ((s.tell.fe.length:Int)<64))&&(s.within e.b)&&(s.tell.plc e.s==0)):=by
 have q1:decide ((s.fe.length:Int)<64)=decide (s.fe.length<64):=gn _ _;unfold PS.ok PS.fits;rw[hck,I0 (by omega),I0 (by omega),I6 k,lR (hI.fndFe e.a),xm hI hN,(qw s).2.1,Q4,q1]
theorem Ec(hI:s.Inv)(hN:s.Nam)(hck:L0.ck e=true)(k:e.kind=4):s.ok L0 e=((decide (posF (·.id) s.tell.fe e.a≥0))):=by
 unfold PS.ok PS.fits;rw[hck,I0 (by omega),I0 (by omega),I0 (by omega),I6 (.inl k),eG (hI.fndFe e.a),Q4]
theorem Ed(hI:s.Inv)(hN:s.Nam)(hck:L0.ck e=true)(k:e.kind=5):s.ok L0 e=((decide (posF (·.id) s.tell.fe e.a≥0))):=by
 unfold PS.ok PS.fits;rw[hck,I0 (by omega),I0 (by omega),I0 (by omega),I6 (.inr k),eG (hI.fndFe e.a),Q4]
theorem Ee(hI:s.Inv)(hN:s.Nam)(hck:L0.ck e=true)(k:e.kind=6):s.ok L0 e=((decide (posF (·.id) s.tell.fe e.a≥0))&&(s.within e.b)):=by
 unfold PS.ok PS.fits;rw[hck,I0 (by omega),I0 (by omega),I0 (by omega),I0 (by omega),I6 k,eG (hI.fndFe e.a),Q4]
theorem Ef(hI:s.Inv)(hN:s.Nam)(hck:L0.ck e=true)(k:e.kind=7):s.ok L0 e=((decide (posF (·.id) s.tell.it e.a<0))&&(decide ((s.tell.it.length:Int)<1024))&&(decide (posF (·.id) s.tell.fe e.b≥0))&&(s.tell.gid e.b e.s==0)):=by
 have q1:decide ((s.it.length:Int)<1024)=decide (s.it.length<1024):=gn _ _;unfold PS.ok PS.fits;rw[hck,I0 (by omega),I0 (by omega),I0 (by omega),I0 (by omega),I0 (by omega),I6 k,lR (hI.fndIt e.a),eG (hI.fndFe e.b),sB hI hN,(qw s).2.2.1,Q4,q1]
theorem Eg(hI:s.Inv)(hN:s.Nam)(hck:L0.ck e=true)(k:e.kind=8):s.ok L0 e=((decide (posF (·.id) s.tell.it e.a≥0))):=by
 unfold PS.ok PS.fits;rw[hck,I0 (by omega),I0 (by omega),I0 (by omega),I0 (by omega),I0 (by omega),I0 (by omega),I6 (.inl k),eG (hI.fndIt e.a),Q4]
theorem Eh(hI:s.Inv)(hN:s.Nam)(hck:L0.ck e=true)(k:e.kind=9):s.ok L0 e=((decide (posF (·.id) s.tell.it e.a≥0))):=by
 unfold PS.ok PS.fits;rw[hck,I0 (by omega),I0 (by omega),I0 (by omega),I0 (by omega),I0 (by omega),I0 (by omega),I6 (.inr k),eG (hI.fndIt e.a),Q4]
theorem zX(hI:s.Inv)(hN:s.Nam)(hck:L0.ck e=true)(k:e.kind=11):s.ok L0 e=((decide (posF (·.id) s.tell.se e.a<0))&&(decide ((s.tell.se.length:Int)<32))):=by
 have q1:decide ((s.se.length:Int)<32)=decide (s.se.length<32):=gn _ _;unfold PS.ok PS.fits;rw[hck,I0 (by omega),I0 (by omega),I0 (by omega),I0 (by omega),I0 (by omega),I0 (by omega),I0 (by omega),I0 (by omega),I6 k,lR (hI.fndSe e.a),(qw s).2.2.2,Q4,q1]
theorem zY(hI:s.Inv)(hN:s.Nam)(hck:L0.ck e=true)(k:e.kind=12):s.ok L0 e=((decide (posF (·.id) s.tell.se e.a≥0))):=by
 unfold PS.ok PS.fits;rw[hck,I0 (by omega),I0 (by omega),I0 (by omega),I0 (by omega),I0 (by omega),I0 (by omega),I0 (by omega),I0 (by omega),I0 (by omega),I6 k,eG (hI.fndSe e.a),Q4]
theorem Ei(hI:s.Inv)(hN:s.Nam)(hck:L0.ck e=true)(k1:¬e.kind=1)(k2:¬e.kind=2)(k3:¬e.kind=3)(k4:¬e.kind=4)(k5:¬e.kind=5)(k6:¬e.kind=6)(k7:¬e.kind=7)(k8:¬e.kind=8)(k9:¬e.kind=9)(k11:¬e.kind=11)(k12:¬e.kind=12)(k10:¬e.kind=10):s.ok L0 e=decide (e.n≥s.clock):=by
 unfold PS.ok PS.fits;rw[hck,I0 k1,I0 k2,I0 k3,I0 (by omega),I0 k6,I0 k7,I0 (by omega),I0 k10,I0 k11,I0 k12,Q4]
end
variable (G:Nat→Option (List AVal))
theorem aV(hc:GClo (CT G)){s:PS}(hI:s.Inv)(hN:s.Nam)(e:Ev)(h:Heap):Sat (CT G) 81 [s.tell.av,e.av] h (fun r h'=>r=.bool (s.ok L0 e)∧h'=h):=by
 have hl1:s.tell.fo.length≤100000:=by have:=hI.up.l1;omega
 have hl2:s.tell.fe.length≤100000:=by have:=hI.up.l2;omega
 have hl3:s.tell.it.length≤100000:=by have:=hI.up.l3;omega
 have hl4:s.tell.se.length≤100000:=by have:=aH (z:=Se.z) s.se;have:=hI.l4;show(valsM Se.z s.se).length≤_;omega
 have hm1:(s.tell.fo.map Fo.av).length=s.tell.fo.length:=I4 ..;have hm2:(s.tell.fe.map Fe.av).length=s.tell.fe.length:=I4 ..;have hm3:(s.tell.it.map It.av).length=s.tell.it.length:=I4 ..;have hm4:(s.tell.se.map Se.av).length=s.tell.se.length:=I4 ..;have hcl:s.tell.clock=s.clock:=rfl;have hB:=cD G s.tell e.b hl1;have hw:=eG (hI.fndFo e.b);have hC:=qr G hc e;cases hck:L0.ck e with
 |false=>
  rw[hck]at hC;refine sb [.tmp 4] Tryz.func81 ?_;intro Q hQ;(repeat (first|refine w1 (fun K hK=>?_)|refine w2 ?_|refine w3 ?_| ((first|refine w4 ?_|refine wD ?_|refine w5 ?_|refine w6 ?_|refine w7 ?_);try refine sq trivial ?_)| (refine w8 ?_;refine sq trivial ?_;refine w9 ?_)| ((first|refine hK _ _ (w0 ?_)| (clear hK K;refine hK _ _ (w0 ?_))| (clear hK K;clear hK K;refine hK _ _ (w0 ?_)));clear hK K)))
  refine(hC _).mono ?_;rintro r h' ⟨rfl,rfl⟩;try refine sq trivial ?_
  (repeat (first|refine w1 (fun K hK=>?_)|refine w2 ?_|refine w3 ?_| ((first|refine w4 ?_|refine wD ?_|refine w5 ?_|refine w6 ?_|refine w7 ?_);try refine sq trivial ?_)| (refine w8 ?_;refine sq trivial ?_;refine w9 ?_)| ((first|refine hK _ _ (w0 ?_)| (clear hK K;refine hK _ _ (w0 ?_))| (clear hK K;clear hK K;refine hK _ _ (w0 ?_)));clear hK K)))
  refine ee hQ trivial ?_;exact I2 (.bool _) ⟨by simp[PS.ok,PS.fits,hck],rfl⟩
 |true=>
  rw[hck]at hC;refine sb [.tmp 4] Tryz.func81 ?_;intro Q hQ;(repeat (first|refine w1 (fun K hK=>?_)|refine w2 ?_|refine w3 ?_| ((first|refine w4 ?_|refine wD ?_|refine w5 ?_|refine w6 ?_|refine w7 ?_);try refine sq trivial ?_)| (refine w8 ?_;refine sq trivial ?_;refine w9 ?_)))
  refine hK _ _ (I9 ?_);clear hK K;(repeat (first|refine w1 (fun K hK=>?_)|refine w2 ?_|refine w3 ?_| ((first|refine w4 ?_|refine wD ?_|refine w5 ?_|refine w6 ?_|refine w7 ?_);try refine sq trivial ?_)| (refine w8 ?_;refine sq trivial ?_;refine w9 ?_)))
  refine(hC _).mono ?_;rintro r h' ⟨rfl,rfl⟩;try refine sq trivial ?_
  (repeat (first|refine w1 (fun K hK=>?_)|refine w2 ?_|refine w3 ?_| ((first|refine w4 ?_|refine wD ?_|refine w5 ?_|refine w6 ?_|refine w7 ?_);try refine sq trivial ?_)| (refine w8 ?_;refine sq trivial ?_;refine w9 ?_)| ((first|refine hK _ _ (w0 ?_)| (clear hK K;refine hK _ _ (w0 ?_))| (clear hK K;clear hK K;refine hK _ _ (w0 ?_)));clear hK K)))
  generalize hH:h++[.row 47 9 0 [s.tell.av],.row 57 7 0 [e.av]]=H;have key:∀(T:Env) (y:Bool),T 2=.hp h.length 0 0 0→T 3=.hp (h.length+1) 0 0 0→T 5=.bool y→y=s.within e.b→K T H:=by
   subst hH;intro T y e2 e3 e5 hy;by_cases k1:e.kind=1
   ·have hres:s.ok L0 e=((decide (posF (·.id) s.tell.fo e.a<0))&&(decide ((s.tell.fo.length:Int)<64))&&(y)&&(decide ((s.tell.deep e.b:Int)<7))&&(!s.tell.nmd e.b e.s)):=(by subst hy;exact E9 hI hN hck k1);have ht:=Hc (decide (posF (·.id) s.tell.fo e.a<0)) (decide ((s.tell.fo.length:Int)<64)) (y) (decide ((s.tell.deep e.b:Int)<7));rcases ht with ht|ht|ht|ht|ht;all_goals (
     have F:=iZ e2 e3 e5 hm1 hm2 hm3 hm4 hcl k1 ht;refine hK _ _ (I9 ?_);clear hK K;refine wk F ?_;repeat (first|refine kq F (cD G s.tell e.a hl1 _) ?_|refine kq F (sx G s.tell e.b hl1 _) ?_|refine kq F (qu G s.tell e.b e.s hl1 _) ?_)
     refine ee hQ F ?_;refine I2 (.bool _) ⟨?_,rfl⟩;rw[hres];simp[ht])
   by_cases k2:e.kind=2
   ·have hres:s.ok L0 e=((decide (posF (·.id) s.tell.fo e.a≥0))&&(s.tell.emp e.a)):=(by subst hy;exact Ea hI hN hck k2);have ht:=ng (decide (posF (·.id) s.tell.fo e.a≥0));rcases ht with ht|ht;all_goals (
     have F:=iZ e2 e3 e5 hm1 hm2 hm3 hm4 hcl k2 ht;refine hK _ _ (I9 ?_);clear hK K;refine wk F ?_;repeat (first|refine kq F (cD G s.tell e.a hl1 _) ?_|refine kq F (qv G s.tell e.a hl1 hl2 _) ?_)
     refine ee hQ F ?_;refine I2 (.bool _) ⟨?_,rfl⟩;rw[hres];simp[ht])
   by_cases k3:e.kind=3
   ·have hres:s.ok L0 e=((decide (posF (·.id) s.tell.fe e.a<0))&&(decide ((s.tell.fe.length:Int)<64))&&(y)&&(s.tell.plc e.s==0)):=(by subst hy;exact Eb hI hN hck k3);have ht:=su (decide (posF (·.id) s.tell.fe e.a<0)) (decide ((s.tell.fe.length:Int)<64)) (y);rcases ht with ht|ht|ht|ht;all_goals (
     have F:=iZ e2 e3 e5 hm1 hm2 hm3 hm4 hcl k3 ht;refine hK _ _ (I9 ?_);clear hK K;refine wk F ?_;repeat (first|refine kq F (bI G s.tell e.a hl2 _) ?_|refine kq F (qt G s.tell e.s hl2 _) ?_)
     refine ee hQ F ?_;refine I2 (.bool _) ⟨?_,rfl⟩;rw[hres];simp[ht])
   by_cases k4:e.kind=4
   ·have hres:s.ok L0 e=((decide (posF (·.id) s.tell.fe e.a≥0))):=(by subst hy;exact Ec hI hN hck k4);all_goals (
     have F:=F9 e2 e3 e5 hm1 hm2 hm3 hm4 hcl k4;refine hK _ _ (I9 ?_);clear hK K;refine wk F ?_;repeat (first|refine kq F (bI G s.tell e.a hl2 _) ?_)
     refine ee hQ F ?_;refine I2 (.bool _) ⟨?_,rfl⟩;rw[hres];try rfl)
   by_cases k5:e.kind=5
   ·have hres:s.ok L0 e=((decide (posF (·.id) s.tell.fe e.a≥0))):=(by subst hy;exact Ed hI hN hck k5);all_goals (
     have F:=F9 e2 e3 e5 hm1 hm2 hm3 hm4 hcl k5;refine hK _ _ (I9 ?_);clear hK K;refine wk F ?_;repeat (first|refine kq F (bI G s.tell e.a hl2 _) ?_)
     refine ee hQ F ?_;refine I2 (.bool _) ⟨?_,rfl⟩;rw[hres];try rfl)
   by_cases k6:e.kind=6
   ·have hres:s.ok L0 e=((decide (posF (·.id) s.tell.fe e.a≥0))&&(y)):=(by subst hy;exact Ee hI hN hck k6);have ht:=ng (decide (posF (·.id) s.tell.fe e.a≥0));rcases ht with ht|ht;all_goals (
     have F:=iZ e2 e3 e5 hm1 hm2 hm3 hm4 hcl k6 ht;refine hK _ _ (I9 ?_);clear hK K;refine wk F ?_;repeat (first|refine kq F (bI G s.tell e.a hl2 _) ?_)
     refine ee hQ F ?_;refine I2 (.bool _) ⟨?_,rfl⟩;rw[hres];simp[ht])
   by_cases k7:e.kind=7
   ·have hres:s.ok L0 e=((decide (posF (·.id) s.tell.it e.a<0))&&(decide ((s.tell.it.length:Int)<1024))&&(decide (posF (·.id) s.tell.fe e.b≥0))&&(s.tell.gid e.b e.s==0)):=(by subst hy;exact Ef hI hN hck k7);have ht:=su (decide (posF (·.id) s.tell.it e.a<0)) (decide ((s.tell.it.length:Int)<1024)) (decide (posF (·.id) s.tell.fe e.b≥0));rcases ht with ht|ht|ht|ht;all_goals (
     have F:=iZ e2 e3 e5 hm1 hm2 hm3 hm4 hcl k7 ht;refine hK _ _ (I9 ?_);clear hK K;refine wk F ?_;repeat (first|refine kq F (fE G s.tell e.a hl3 _) ?_|refine kq F (bI G s.tell e.b hl2 _) ?_|refine kq F (lB G s.tell e.b e.s hl3 _) ?_)
     refine ee hQ F ?_;refine I2 (.bool _) ⟨?_,rfl⟩;rw[hres];simp[ht])
   by_cases k8:e.kind=8
   ·have hres:s.ok L0 e=((decide (posF (·.id) s.tell.it e.a≥0))):=(by subst hy;exact Eg hI hN hck k8);all_goals (
     have F:=F9 e2 e3 e5 hm1 hm2 hm3 hm4 hcl k8;refine hK _ _ (I9 ?_);clear hK K;refine wk F ?_;repeat (first|refine kq F (fE G s.tell e.a hl3 _) ?_)
     refine ee hQ F ?_;refine I2 (.bool _) ⟨?_,rfl⟩;rw[hres];try rfl)
   by_cases k9:e.kind=9
   ·have hres:s.ok L0 e=((decide (posF (·.id) s.tell.it e.a≥0))):=(by subst hy;exact Eh hI hN hck k9);all_goals (
     have F:=F9 e2 e3 e5 hm1 hm2 hm3 hm4 hcl k9;refine hK _ _ (I9 ?_);clear hK K;refine wk F ?_;repeat (first|refine kq F (fE G s.tell e.a hl3 _) ?_)
     refine ee hQ F ?_;refine I2 (.bool _) ⟨?_,rfl⟩;rw[hres];try rfl)
   by_cases k11:e.kind=11
   ·have hres:s.ok L0 e=((decide (posF (·.id) s.tell.se e.a<0))&&(decide ((s.tell.se.length:Int)<32))):=(by subst hy;exact zX hI hN hck k11);have ht:=ng (decide (posF (·.id) s.tell.se e.a<0));rcases ht with ht|ht;all_goals (
     have F:=iZ e2 e3 e5 hm1 hm2 hm3 hm4 hcl k11 ht;refine hK _ _ (I9 ?_);clear hK K;refine wk F ?_;repeat (first|refine kq F (fN G s.tell e.a hl4 _) ?_)
     refine ee hQ F ?_;refine I2 (.bool _) ⟨?_,rfl⟩;rw[hres];simp[ht])
   by_cases k12:e.kind=12
   ·have hres:s.ok L0 e=((decide (posF (·.id) s.tell.se e.a≥0))):=(by subst hy;exact zY hI hN hck k12);all_goals (
     have F:=F9 e2 e3 e5 hm1 hm2 hm3 hm4 hcl k12;refine hK _ _ (I9 ?_);clear hK K;refine wk F ?_;repeat (first|refine kq F (fN G s.tell e.a hl4 _) ?_)
     refine ee hQ F ?_;refine I2 (.bool _) ⟨?_,rfl⟩;rw[hres];try rfl)
   by_cases k10:e.kind=10
   ·have hIt:=fE G s.tell e.a hl3;have dt:∀i:Decidable True, @decide True i=true:=fun i=>J7 trivial
    have df:∀i:Decidable False, @decide False i=false:=fun i=>J3 id
    cases hit:lkM s.it e.a with
    |none=>
     have hfi:fnd (·.id) s.tell.it e.a=none:=(by rw[hI.fndIt,hit]);rw[eO hfi]at hIt;have dm:decide ((-1:Int)≥0)=false:=rfl;have F:=F7 e2 e3 e5 hm3 k10 dm df;refine hK _ _ (I9 ?_);clear hK K;refine wk F ?_;refine kq F (hIt _) ?_;(try refine wk F ?_);refine ee hQ F ?_;exact I2 (.bool _) ⟨by simp[PS.ok,PS.fits,hck,k10,hit],rfl⟩
    |some t=>
     have hfi:fnd (·.id) s.tell.it e.a=some t:=(by rw[hI.fndIt,hit]);obtain⟨q,p1,p2,p3⟩:=bi hfi;rw[p2]at hIt;have hql:q<s.tell.it.length:=(f9.1 p1).1;have hqg:decide ((q:Int)≥0)=true:=(by simp);have htl:=(hI.tg _ _ hit).2;have htm:(t.tags.map AVal.str).length=t.tags.length:=I4 ..;have hG:=sv G t.tags e.s (by omega);have hn:=two (e.n==0);rcases hn with hn|hn
     ·have F:=iZ e2 e3 e5 hm3 k10 p1 hql hqg dt hn;refine hK _ _ (I9 ?_);clear hK K;refine wk F ?_;refine kq F (hIt _) ?_;(try refine wk F ?_);refine ee hQ F ?_;refine I2 (.bool _) ⟨?_,rfl⟩;simp at hn;simp[PS.ok,PS.fits,hck,k10,hit,hn]
     ·have hg:=two (decide (e.s∈t.tags));rcases hg with hg|hg
      ·rw[hg]at hG;have F:=F2 (F9 e2 e3 e5 hm3 k10 p1 hql hqg dt) (F2 hn hg);refine hK _ _ (I9 ?_);clear hK K;refine wk F ?_;refine kq F (hIt _) ?_;(try refine wk F ?_);refine au (hG _) ?_;refine sq F ?_;refine wk F ?_;refine ee hQ F ?_;refine I2 (.bool _) ⟨?_,rfl⟩;simp at hg;simp[PS.ok,PS.fits,hck,k10,hit,hg]
      ·rw[hg]at hG;have F:=F2 (F9 e2 e3 e5 hm3 htm k10 p1 hql hqg) (F3 dt hn hg);refine hK _ _ (I9 ?_);clear hK K;refine wk F ?_;refine kq F (hIt _) ?_;(try refine wk F ?_);refine au (hG _) ?_;refine sq F ?_;refine wk F ?_;refine ee hQ F ?_;refine I2 (.bool _) ⟨?_,rfl⟩;simp at hn hg;have q8:decide ((t.tags.length:Int)<8)=decide (t.tags.length<8):=gn _ _;simp[PS.ok,PS.fits,hck,k10,hit,hg,hn];try omega
   have hres:=Ei hI hN hck k1 k2 k3 k4 k5 k6 k7 k8 k9 k11 k12 k10;have n1:(e.kind==1)=false:=(by simp[k1]);have n2:(e.kind==2)=false:=(by simp[k2]);have n3:(e.kind==3)=false:=(by simp[k3]);have n4:(e.kind==4)=false:=(by simp[k4]);have n5:(e.kind==5)=false:=(by simp[k5]);have n6:(e.kind==6)=false:=(by simp[k6]);have n7:(e.kind==7)=false:=(by simp[k7]);have n8:(e.kind==8)=false:=(by simp[k8]);have n9:(e.kind==9)=false:=(by simp[k9]);have n11:(e.kind==11)=false:=(by simp[k11]);have n12:(e.kind==12)=false:=(by simp[k12]);have n10:(e.kind==10)=false:=(by simp[k10]);have F:=F2 (F9 e2 e3 e5 hcl n1 n2 n3 n4 n5) (F7 n6 n7 n8 n9 n11 n12 n10);refine hK _ _ (I9 ?_);clear hK K;refine wk F ?_;refine ee hQ F ?_;exact I2 (.bool _) ⟨by rw[hres],rfl⟩
  subst hH;(first|refine gq trivial (fun g=>?_) (fun g=>?_)|refine pq trivial (fun g=>?_) (fun g=>?_))<;>(try exact g.elim)<;>(try refine sq trivial ?_)<;>((repeat (first|refine w1 (fun K hK=>?_)|refine w2 ?_|refine w3 ?_| ((first|refine w4 ?_|refine wD ?_|refine w5 ?_|refine w6 ?_|refine w7 ?_);try refine sq trivial ?_)| (refine w8 ?_;refine sq trivial ?_;refine w9 ?_)| ((first|refine hK _ _ (w0 ?_)| (clear hK K;refine hK _ _ (w0 ?_))| (clear hK K;clear hK K;refine hK _ _ (w0 ?_)));clear hK K))))
  ·exact key _ true (by exact zq trivial) (by exact zq trivial) (by exact zq trivial) (by simp[PS.within,g])
  ·refine(hB _).mono ?_;rintro r h' ⟨rfl,rfl⟩;(try refine sq trivial ?_);(repeat (first|refine w1 (fun K hK=>?_)|refine w2 ?_|refine w3 ?_| ((first|refine w4 ?_|refine wD ?_|refine w5 ?_|refine w6 ?_|refine w7 ?_);try refine sq trivial ?_)| (refine w8 ?_;refine sq trivial ?_;refine w9 ?_)| ((first|refine hK _ _ (w0 ?_)| (clear hK K;refine hK _ _ (w0 ?_))| (clear hK K;clear hK K;refine hK _ _ (w0 ?_)));clear hK K)))
   exact key _ (decide (posF (·.id) s.tell.fo e.b≥0)) (by exact zq trivial) (by exact zq trivial) (by exact zq trivial) (by rw[hw];simp[PS.within,g])
end
end Go.Av
