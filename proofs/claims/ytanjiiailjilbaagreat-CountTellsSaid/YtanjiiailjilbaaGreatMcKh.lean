/- Counts that are kept, event by event, are those that are made anew. -/
import Derived.Test.YtanjiiailjilbaaGreatMcQc
set_option linter.unusedSimpArgs false
set_option linter.unusedVariables false
set_option linter.unusedSectionVars false
set_option linter.unnecessarySimpa false
set_option maxRecDepth 100000
set_option maxHeartbeats 4000000
namespace Go.Av
open Go Go.Proofs Go.RowKit
theorem eE(s:PS)(id k:Int):(s.hold id k).it=s.it:=by rw[aI]
theorem wv(s:PS)(e:Ev):(s.aft e).it=
  if e.kind=4 then itF s.it ((lkM s.fe e.a).getD Fe.z).id
  else if e.kind=7 then upM s.it s.c3 e.a ⟨e.a,e.b,e.n,e.s,e.t,e.u,false,false,[]⟩
  else if e.kind=8 then upM s.it s.c3 e.a {(lkM s.it e.a).getD It.z with read:=e.n==1}
  else if e.kind=9 then upM s.it s.c3 e.a {(lkM s.it e.a).getD It.z with star:=e.n==1}
  else if e.kind=10 then upM s.it s.c3 e.a {(lkM s.it e.a).getD It.z with tags:=tgF ((lkM s.it e.a).getD It.z).tags e.s e.n}
  else s.it:=by
 unfold PS.aft PS.after
 by_cases k2:e.kind=2
 ·rw[if_pos k2,eE,if_neg (by omega),if_neg (by omega),if_neg (by omega),if_neg (by omega),if_neg (by omega)];rfl
 by_cases k4:e.kind=4
 ·rw[if_neg k2,if_pos k4,if_pos k4,PS.unfeed,eE];rfl
 rw[if_neg k2,if_neg k4,if_neg k4]
 by_cases k5:e.kind=5
 ·rw[if_pos k5,if_neg (by omega),if_neg (by omega),if_neg (by omega),if_neg (by omega)];rfl
 rw[if_neg k5]
 by_cases k6:e.kind=6
 ·rw[if_pos k6,if_neg (by omega),if_neg (by omega),if_neg (by omega),if_neg (by omega)]
  show((s.hold _ _).hold _ _).it=_
  rw[eE,eE]
 rw[if_neg k6]
 by_cases k7:e.kind=7
 ·rw[if_neg (by omega),if_neg (by omega),if_neg (by omega),if_neg (by omega),if_neg (by omega),PS.make,if_neg (by omega),if_neg (by omega),if_pos k7,if_pos k7];rfl
 rw[if_neg k7]
 by_cases k8:e.kind=8
 ·rw[if_pos k8,if_pos k8];rfl
 rw[if_neg k8,if_neg k8]
 by_cases k9:e.kind=9
 ·rw[if_pos k9,if_pos k9];rfl
 rw[if_neg k9,if_neg k9]
 by_cases k10:e.kind=10
 ·rw[if_pos k10,if_pos k10];rfl
 rw[if_neg k10,if_neg k10]
 by_cases k12:e.kind=12
 ·rw[if_pos k12];rfl
 rw[if_neg k12]
 by_cases k13:e.kind=13
 ·rw[if_pos k13]
 rw[if_neg k13,PS.make]
 by_cases k1:e.kind=1
 ·rw[if_pos k1]
  show((((s.upFo e.a _).upNm _ _).hold _ _)).it=_
  rw[eE];rfl
 rw[if_neg k1]
 by_cases k3:e.kind=3
 ·rw[if_pos k3]
  show((((s.upFe e.a _).upPl _ _).hold _ _)).it=_
  rw[eE];rfl
 rw[if_neg k3,if_neg k7]
 split<;>rfl
theorem uY{l:List Bs}{t:Bs}{n:Int}{g:Bs}(h:g∈tgF l t n):g∈l∨g=t:=by
 unfold tgF at h
 split at h
 ·rw[List.mem_append,List.mem_cons]at h
  rcases h with h|h|h
  ·exact .inl (List.mem_of_mem_take h)
  ·exact .inr h
  ·exact .inl (List.mem_of_mem_drop h)
 ·split at h
  ·rw[List.mem_append]at h
   rcases h with h|h
   ·exact .inl (List.mem_of_mem_take h)
   ·exact .inl (List.mem_of_mem_drop h)
  ·exact .inl h
def PS.Tg(s:PS):Prop:=∀k t,lkM s.it k=some t→∀g∈t.tags,g.length≤64
theorem PS.Tg.z:PS.z.Tg:=fun _ _ h=>by cases h
theorem PS.Tg.getD{s:PS}(h:s.Tg)(k:Int):∀g∈ ((lkM s.it k).getD It.z).tags,g.length≤64:=by
 cases hl:lkM s.it k with
 |none=>intro g hg;simp[It.z]at hg
 |some t=>exact h k t hl
theorem uZ{g:Bs}(h:L0.tag g=true):g.length≤64:=by
 have hu:L0.tag g=((!(g==[])&&textF rightS cleanF g 64)&&isF g):=rfl
 rw[hu]at h
 simp only[Bool.and_eq_true]at h
 have:=h.1.2
 unfold textF at this
 rw[Bool.and_eq_true,decide_eq_true_eq]at this
 omega
theorem PS.Tg.step{s:PS}(h:s.Tg)(hI:s.Inv)(e:Ev):(s.step L0 e).Tg:=by
 unfold PS.step
 split
 ·rename_i hok
  have hr:e.kind=10→e.s.length≤64:=fun k=>by
   unfold PS.ok PS.fits at hok
   rw[Bool.and_eq_true]at hok
   have:=hok.1
   unfold Leaf.ck at this
   simp only[Bool.and_eq_true]at this
   have hq:=this.1
   unfold Leaf.right at hq
   rw[if_neg (by omega),if_neg (by omega),if_neg (by omega),if_neg (by omega),if_neg (by omega),if_neg (by omega),if_neg (by omega),if_pos k]at hq
   simp only[Bool.and_eq_true]at hq
   exact uZ hq.2.2
  intro k t hk g hg
  rw[wv]at hk
  split at hk
  ·exact h k t (fN hI.w3.keys hk) g hg
  split at hk
  ·rcases aO hk with⟨rfl,rfl⟩| ⟨_,hk⟩
   ·simp at hg
   ·exact h k t hk g hg
  split at hk
  ·rcases aO hk with⟨rfl,rfl⟩| ⟨_,hk⟩
   ·exact h.getD _ g hg
   ·exact h k t hk g hg
  split at hk
  ·rcases aO hk with⟨rfl,rfl⟩| ⟨_,hk⟩
   ·exact h.getD _ g hg
   ·exact h k t hk g hg
  split at hk
  ·rename_i k10
   rcases aO hk with⟨rfl,rfl⟩| ⟨_,hk⟩
   ·rcases uY hg with hg|rfl
    ·exact h.getD _ g hg
    ·exact hr k10
   ·exact h k t hk g hg
  ·exact h k t hk g hg
 ·exact h
theorem PS.Tg.fold{s:PS}(h:s.Tg)(hI:s.Inv)(l:List Ev):(l.foldl (PS.step L0) s).Tg:=by
 induction l generalizing s with
 |nil=>exact h
 |cons e l ih=>exact ih (h.step hI e) (hI.step e)
end Go.Av
namespace Go.Av
open Go Go.Proofs Go.RowKit
variable {s:PS} {e:Ev}
structure PS.Nam (s:PS):Prop where
 w5:WFM s.nm s.c5
 w6:WFM s.pl s.c6
 n1:∀key k,lkM s.nm key=some k→∃f,lkM s.fo k=some f∧(f.inn,f.name)=key
 n2:∀k f,lkM s.fo k=some f→lkM s.nm (f.inn,f.name)=some k
 p1:∀u k,lkM s.pl u=some k→∃f,lkM s.fe k=some f∧f.url=u
 p2:∀k f,lkM s.fe k=some f→lkM s.pl f.url=some k
 g1:∀key k,lkM s.gu key=some k→∃t,lkM s.it k=some t∧(t.feed,t.guid)=key
 g2:∀k t,lkM s.it k=some t→lkM s.gu (t.feed,t.guid)=some k
theorem PS.Nam.z:PS.z.Nam where
 w5:=.nil
 w6:=.nil
 n1:=fun _ _ h=>by cases h
 n2:=fun _ _ h=>by cases h
 p1:=fun _ _ h=>by cases h
 p2:=fun _ _ h=>by cases h
 g1:=fun _ _ h=>by cases h
 g2:=fun _ _ h=>by cases h
theorem kh{κ α:Type}[DecidableEq κ]{m:ML κ Int}{l:ML Int α}{c c':Nat}{key:κ}{a:α}{k:Int}(kf:α→κ)
  (h1:∀q j,lkM m q=some j→∃f,lkM l j=some f∧kf f=q)(h2:∀j f,lkM l j=some f→lkM m (kf f)=some j)(hk:lkM l k=none)(hm:lkM m key=none)(ha:kf a=key):
  (∀q j,lkM (upM m c key k) q=some j→∃f,lkM (upM l c' k a) j=some f∧kf f=q)∧(∀j f,lkM (upM l c' k a) j=some f→lkM (upM m c key k) (kf f)=some j):=by
 refine⟨fun q j hq=>?_,fun j f hf=>?_⟩
 ·rcases aO hq with⟨rfl,rfl⟩| ⟨hne,hq⟩
  ·exact⟨a,by rw[ap,if_pos rfl],ha⟩
  ·obtain⟨f,hf,hkf⟩:=h1 q j hq
   refine⟨f,?_,hkf⟩
   rw[ap,if_neg (by rintro rfl;rw[hk]at hf;cases hf)];exact hf
 ·rcases aO hf with⟨rfl,rfl⟩| ⟨hne,hf⟩
  ·rw[ha,ap,if_pos rfl]
  ·have:=h2 j f hf
   rw[ap,if_neg (by intro e;rw[e,hm]at this;cases this)];exact this
theorem ow{κ α:Type}[DecidableEq κ]{m:ML κ Int}{l:ML Int α}{k:Int}{a:α}(kf:α→κ)(nm:(m.map (·.1)).Nodup)(nl:(l.map (·.1)).Nodup)
  (h1:∀q j,lkM m q=some j→∃f,lkM l j=some f∧kf f=q)(h2:∀j f,lkM l j=some f→lkM m (kf f)=some j)(hk:lkM l k=some a):
  (∀q j,lkM (dlM m (kf a)) q=some j→∃f,lkM (dlM l k) j=some f∧kf f=q)∧(∀j f,lkM (dlM l k) j=some f→lkM (dlM m (kf a)) (kf f)=some j):=by
 refine⟨fun q j hq=>?_,fun j f hf=>?_⟩
 ·obtain⟨hne,hq⟩:=da nm hq
  obtain⟨f,hf,hkf⟩:=h1 q j hq
  refine⟨f,?_,hkf⟩
  rw[aQ nl,if_neg (by rintro rfl;rw[hk]at hf;cases hf;exact hne hkf.symm)];exact hf
 ·obtain⟨hne,hf⟩:=da nl hf
  have:=h2 j f hf
  rw[aQ nm,if_neg (by intro e;rw[e,h2 k a hk]at this;cases this;exact hne rfl)];exact this
theorem fS{κ α:Type}[DecidableEq κ]{m:ML κ Int}{l:ML Int α}{c:Nat}{k:Int}{a a':α}(kf:α→κ)
  (h1:∀q j,lkM m q=some j→∃f,lkM l j=some f∧kf f=q)(h2:∀j f,lkM l j=some f→lkM m (kf f)=some j)(hk:lkM l k=some a)(ha:kf a'=kf a):
  (∀q j,lkM m q=some j→∃f,lkM (upM l c k a') j=some f∧kf f=q)∧(∀j f,lkM (upM l c k a') j=some f→lkM m (kf f)=some j):=by
 refine⟨fun q j hq=>?_,fun j f hf=>?_⟩
 ·obtain⟨f,hf,hkf⟩:=h1 q j hq
  by_cases hj:j=k
  ·subst hj
   rw[hk]at hf;cases hf
   exact⟨a',by rw[ap,if_pos rfl],by rw[ha,hkf]⟩
  ·exact⟨f,by rw[ap,if_neg hj];exact hf,hkf⟩
 ·rcases aO hf with⟨rfl,rfl⟩| ⟨hne,hf⟩
  ·rw[ha];exact h2 _ _ hk
  ·exact h2 j f hf
theorem mH{κ α:Type}[DecidableEq κ]{l:ML κ α}(hn:(l.map (·.1)).Nodup){p:κ×α×Nat→Bool}{y:κ}{b:α}(h:lkM l y=some b)(hp:∀n,p (y,b,n)=true):lkM (l.filter p) y=some b:=by
 obtain⟨n,hm⟩:=cQ h
 exact aS (hn.sublist (List.filter_sublist.map _)) (List.mem_filter.2 ⟨hm,hp n⟩)
theorem ki{κ α:Type}[DecidableEq κ]{l:ML κ α}(hn:(l.map (·.1)).Nodup){p:κ×α×Nat→Bool}{y:κ}{b:α}(h:lkM (l.filter p) y=some b):lkM l y=some b∧∃n,(y,b,n)∈l∧p (y,b,n)=true:=by
 obtain⟨n,hm⟩:=cQ h
 have:=List.mem_filter.1 hm
 exact⟨aS hn this.1,n,this.1,this.2⟩
theorem mI{κ:Type}[DecidableEq κ]{m:ML κ Int}{key:κ}(h:∀j,lkM m key=some j→1≤j)(h0:(lkM m key).getD 0=0):lkM m key=none:=by
 cases hl:lkM m key with
 |none=>rfl
 |some j=>rw[hl]at h0;have:=h j hl;simp at h0;omega
theorem PS.Nam.nm1(h:s.Nam)(hI:s.Inv){key:Int×Bs}{j:Int}(hj:lkM s.nm key=some j):1≤j:=by
 obtain⟨f,hf,_⟩:=h.n1 key j hj;exact(hI.i1 _ _ hf).2.1
theorem PS.Nam.pl1(h:s.Nam)(hI:s.Inv){key:Bs}{j:Int}(hj:lkM s.pl key=some j):1≤j:=by
 obtain⟨f,hf,_⟩:=h.p1 key j hj;exact(hI.i2 _ _ hf).2.1
theorem PS.Nam.gu1(h:s.Nam)(hI:s.Inv){key:Int×Bs}{j:Int}(hj:lkM s.gu key=some j):1≤j:=by
 obtain⟨f,hf,_⟩:=h.g1 key j hj;exact(hI.i3 _ _ hf).2.1
theorem PS.Nam.unFe(h:s.Nam)(hI:s.Inv){k:Int}{f:Fe}(hk:lkM s.fe k=some f):PS.Nam (s.unfeed f):=by
 have hfk:=(hI.i2 _ _ hk).1
 obtain⟨q1,q2⟩:=ow (·.url) h.w6.keys hI.w2.keys h.p1 h.p2 hk
 unfold PS.unfeed
 rw[aI]
 have hkey:∀j t,lkM s.it j=some t→t.feed=f.id→∀n,(fun e:(Int×Bs)×Int×Nat=> !(s.it.any fun d=>decide (d.2.1.feed=f.id)&&decide (e.1=(d.2.1.feed,d.2.1.guid)))) ((t.feed,t.guid),j,n)=false:=fun j t ht hf n=>by
  obtain⟨m,hm⟩:=cQ ht
  simp only[Bool.not_eq_false',List.any_eq_true]
  exact⟨_,hm,by simp[hf]⟩
 exact {h with
  w6:=h.w6.dl _
  p1:=by rw[hfk];exact q1
  p2:=by rw[hfk];exact q2
  g1:=fun key j hj=>by
   obtain⟨h1,n,h2,h3⟩:=ki hI.w7.keys hj
   obtain⟨t,ht,hkf⟩:=h.g1 key j h1
   refine⟨t,mH hI.w3.keys ht fun n'=>?_,hkf⟩
   simp only[Bool.not_eq_true',decide_eq_false_iff_not]
   intro hfe
   have:=hkey j t ht hfe n
   rw[hkf]at this
   exact absurd (h3.symm.trans this) (by decide)
  g2:=fun j t ht=>by
   obtain⟨h1,n,h2,h3⟩:=ki hI.w3.keys ht
   refine mH hI.w7.keys (h.g2 j t h1) fun n'=>?_
   simp only[Bool.not_eq_true',decide_eq_false_iff_not]at h3
   simp only[Bool.not_eq_true',List.any_eq_false,Bool.and_eq_true,decide_eq_true_eq,not_and]
   intro d hd hdf hq
   have:t.feed=d.2.1.feed:=congrArg Prod.fst hq
   exact h3 (this.trans hdf)}
theorem PS.Nam.step{L:Leaf}(h:s.Nam)(hI:s.Inv)(e:Ev):(s.step L e).Nam:=by
 unfold PS.step
 split
 ·rename_i hok
  unfold PS.ok PS.fits at hok
  rw[Bool.and_eq_true]at hok
  obtain⟨hck,hf⟩:=hok
  unfold PS.aft PS.after
  by_cases k1:e.kind=1
  ·rw[if_pos k1]at hf
   simp only[Bool.and_eq_true,Bool.not_eq_true',decide_eq_true_eq,beq_iff_eq]at hf
   rw[if_neg (by omega),if_neg (by omega),if_neg (by omega),if_neg (by omega),if_neg (by omega),if_neg (by omega),if_neg (by omega),if_neg (by omega),if_neg (by omega),PS.make,if_pos k1,aI]
   have hn:=mI (fun j hj=>h.nm1 hI hj) hf.2
   obtain⟨q1,q2⟩:=kh (c:=s.c5) (c':=s.c1) (a:=(⟨e.a,e.b,e.s⟩:Fo)) (fun f:Fo=>(f.inn,f.name)) h.n1 h.n2 (bR hf.1.1.1.1) hn rfl
   exact {h with w5:=h.w5.up _ _,n1:=q1,n2:=q2}
  rw[if_neg k1]at hf
  by_cases k2:e.kind=2
  ·rw[if_pos k2]at hf ⊢
   simp only[Bool.and_eq_true,beq_iff_eq]at hf
   obtain⟨f,hfo⟩:=aZ hf.1
   rw[hfo,aI]
   obtain⟨q1,q2⟩:=ow (fun f:Fo=>(f.inn,f.name)) h.w5.keys hI.w1.keys h.n1 h.n2 hfo
   exact {h with w5:=h.w5.dl _,n1:=q1,n2:=q2}
  rw[if_neg k2]at hf ⊢
  by_cases k3:e.kind=3
  ·rw[if_pos k3]at hf
   simp only[Bool.and_eq_true,Bool.not_eq_true',decide_eq_true_eq,beq_iff_eq]at hf
   rw[if_neg (by omega),if_neg (by omega),if_neg (by omega),if_neg (by omega),if_neg (by omega),if_neg (by omega),if_neg (by omega),if_neg (by omega),PS.make,if_neg (by omega),if_pos k3,aI]
   have hn:=mI (fun j hj=>h.pl1 hI hj) hf.2
   obtain⟨q1,q2⟩:=kh (c:=s.c6) (c':=s.c2) (a:=(⟨e.a,e.b,e.s,e.t⟩:Fe)) (fun f:Fe=>f.url) h.p1 h.p2 (bR hf.1.1.1) hn rfl
   exact {h with w6:=h.w6.up _ _,p1:=q1,p2:=q2}
  rw[if_neg k3]at hf
  by_cases k4:e.kind=4
  ·rw[if_pos (.inl k4)]at hf
   rw[if_pos k4]
   obtain⟨f,hfo⟩:=aZ hf
   rw[hfo]
   exact h.unFe hI hfo
  rw[if_neg k4]
  by_cases k5:e.kind=5
  ·rw[if_pos (.inr k5)]at hf
   rw[if_pos k5]
   obtain⟨f,hfo⟩:=aZ hf
   rw[hfo]
   obtain⟨q1,q2⟩:=fS (c:=s.c2) (a':= {f with title:=e.t}) (fun f:Fe=>f.url) h.p1 h.p2 hfo rfl
   exact {h with p1:=q1,p2:=q2}
  rw[if_neg (by omega)]at hf
  rw[if_neg k5]
  by_cases k6:e.kind=6
  ·rw[if_pos k6]at hf ⊢
   simp only[Bool.and_eq_true]at hf
   obtain⟨f,hfo⟩:=aZ hf.1
   rw[hfo,aI,aI]
   obtain⟨q1,q2⟩:=fS (c:=s.c2) (a':= {f with inn:=e.b}) (fun f:Fe=>f.url) h.p1 h.p2 hfo rfl
   exact {h with p1:=q1,p2:=q2}
  rw[if_neg k6]at hf ⊢
  by_cases k7:e.kind=7
  ·rw[if_pos k7]at hf
   simp only[Bool.and_eq_true,Bool.not_eq_true',decide_eq_true_eq,beq_iff_eq]at hf
   rw[if_neg (by omega),if_neg (by omega),if_neg (by omega),if_neg (by omega),if_neg (by omega),PS.make,if_neg (by omega),if_neg (by omega),if_pos k7]
   have hn:=mI (fun j hj=>h.gu1 hI hj) hf.2
   obtain⟨q1,q2⟩:=kh (c:=s.c7) (c':=s.c3) (a:=(⟨e.a,e.b,e.n,e.s,e.t,e.u,false,false,[]⟩:It)) (fun t:It=>(t.feed,t.guid)) h.g1 h.g2 (bR hf.1.1.1) hn rfl
   exact {h with g1:=q1,g2:=q2}
  rw[if_neg k7]at hf
  by_cases k8:e.kind=8
  ·rw[if_pos (.inl k8)]at hf
   rw[if_pos k8]
   obtain⟨f,hfo⟩:=aZ hf
   rw[hfo]
   obtain⟨q1,q2⟩:=fS (c:=s.c3) (a':= {f with read:=e.n==1}) (fun t:It=>(t.feed,t.guid)) h.g1 h.g2 hfo rfl
   exact {h with g1:=q1,g2:=q2}
  rw[if_neg k8]
  by_cases k9:e.kind=9
  ·rw[if_pos (.inr k9)]at hf
   rw[if_pos k9]
   obtain⟨f,hfo⟩:=aZ hf
   rw[hfo]
   obtain⟨q1,q2⟩:=fS (c:=s.c3) (a':= {f with star:=e.n==1}) (fun t:It=>(t.feed,t.guid)) h.g1 h.g2 hfo rfl
   exact {h with g1:=q1,g2:=q2}
  rw[if_neg (by omega)]at hf
  rw[if_neg k9]
  by_cases k10:e.kind=10
  ·rw[if_pos k10]at hf ⊢
   simp only[Bool.and_eq_true,Bool.or_eq_true,decide_eq_true_eq]at hf
   obtain⟨f,hfo⟩:=aZ hf.1
   rw[hfo]
   obtain⟨q1,q2⟩:=fS (c:=s.c3) (a':= {f with tags:=tgF f.tags e.s e.n}) (fun t:It=>(t.feed,t.guid)) h.g1 h.g2 hfo rfl
   exact {h with g1:=q1,g2:=q2}
  rw[if_neg k10]
  by_cases k12:e.kind=12
  ·rw[if_pos k12];exact {h with}
  rw[if_neg k12]
  by_cases k13:e.kind=13
  ·rw[if_pos k13];exact {h with}
  rw[if_neg k13,PS.make,if_neg k1,if_neg k3,if_neg k7]
  split
  ·exact {h with}
  ·exact h
 ·exact h
theorem PS.Nam.fold{L:Leaf}(h:s.Nam)(hI:s.Inv)(l:List Ev):(l.foldl (PS.step L) s).Nam:=by
 induction l generalizing s with
 |nil=>exact h
 |cons e l ih=>exact ih (h.step hI e) (hI.step e)
end Go.Av
namespace Go.Av
open Go Go.Proofs Go.RowKit
attribute [local irreducible] WP WPl WPix Sat
set_option pp.deepTerms true
set_option pp.maxSteps 200000
theorem nH{h:Heap}{p v len n m i:Nat}{b:Bool}{rows:List AVal}(hg:getRow h p v=some (m,n,rows))(hl:rows.length=len)(hi:i≤len):elemsOf h n (.hs p v i (len-i) b)=some (rows.drop i):=by
 simp only[elemsOf,hg,true_and]
 rw[if_pos (by omega),List.take_of_length_le (by rw[List.length_drop];omega)]
theorem fB{h:Heap}{p v len n m:Nat}{b:Bool}{rows:List AVal}(hg:getRow h p v=some (m,n,rows))(hl:rows.length=len):elemsOf h n (.hs p v 0 len b)=some rows:=by
 simp only[elemsOf,hg,true_and]
 rw[if_pos (by omega),List.drop_zero,List.take_of_length_le (by omega)]
theorem pY{P:Program}{h:Heap}{T e p v n m:Nat}{rows:List AVal}{k:IntKind}(he:elmT P T=some e)(hg:getRow h p v=some (m,n,rows))(hn:szOf P e=some n):
  aslice P h T (.hs p v 0 0 true) (some (.int k ((0:Nat):Int))) none none=some (.hs p v 0 0 true):=by
 simp[aslice,he,hg,hn,optInt]
variable (G:Nat→Option (List AVal))
theorem gx{y:It}{acc0:List Bs}{k:Nat}{g:Bs}(h:y.tags[k]? =some g):(y.tags.take (k+1)).foldl insT acc0=insT ((y.tags.take k).foldl insT acc0) g:=by
 rw[List.take_add_one,h,List.foldl_append];rfl
theorem pZ{l:List It}{i:Nat}{y:It}(h:l[i]? =some y):tagsR (l.take (i+1))=y.tags.foldl insT (tagsR (l.take i)):=by
 unfold tagsR
 rw[List.take_add_one,h,List.flatMap_append,List.foldl_append];simp
theorem rP(x:St)(hx:x.Up)(h:Heap):Sat (CT G) 48 [x.av] h (fun r h'=>r=.sl 1 ((tagsR x.it).map .str)∧h'=h):=by
 have hel:(x.it.map It.av).length=x.it.length:=List.length_map ..
 have hl3:=hx.l3
 have F:=hel
 refine sb [.tmp 2] (fn:=Tryz.f48) Tryz.func48 ?_
 intro Q hQ
 refine wk F ?_
 refine lm (fun nL tL hL=>∃(i p v:Nat) (hh:Heap) (acc:List Bs),x.it.length-i=nL∧hh=hL∧tL 1=.hp h.length 0 0 0∧tL 3=.hs p v 0 acc.length true∧tL 4=.int .i64 i∧i≤x.it.length∧acc=tagsR (x.it.take i)∧acc.length≤8*i∧getRow hh h.length 0=some (34,9,[x.av])∧getRow hh p v=some (9,1,acc.map .str)∧(FrN h.length h hh∧h.length<p)) ((fun(i p v:Nat) (hh:Heap) (acc:List Bs)=>(x.it.length-i:Nat)) (0) (h.length+1) (0) (h++[.row 34 9 0 [x.av],.row 9 1 0 []]) ([])) ?_ ?_
 ·refine⟨_,_,Weak.virt 3 9 1 (by simp) (by omega) (by exact zq F),⟨0,h.length+1,0,h++[.row 34 9 0 [x.av],.row 9 1 0 []],[],rfl,aB,?_,?_,?_,by omega,by simp[tagsR],by simp,by rw[aG _ rfl];rfl,by rw[bo _ rfl];rfl,⟨FrN.app _ (by omega) (FrN.refl _ _),by omega⟩⟩⟩
  all_goals first|exact zq F|rfl|omega|trivial|skip
 rintro _ s2 h' ⟨i,p,v,hh,acc,rfl,rfl,e1,e3,e4,hi,hac,hal,hg1,hg2,hfr⟩ K2 hK2
 simp only[ai,ao,Nat.reduceEqDiff, ↓reduceIte]at e1 e3 e4
 have F:=F4 F e1 e3 e4
 have hgl1:=bn hg1
 have hgl2:=bn hg2
 have F:=F3 F hg1 hg2
 try refine sq F ?_
 refine wk F ?_
 refine cq F (fun c1=>?_) (fun c1=>?_)<;>(try exact c1.elim)<;>(refine wk F ?_)
 ·have c2:i<x.it.length:=by omega
  obtain⟨y,hy,hym⟩:=ac c2
  have hyt:=hx.tg y hym
  have hyl:(y.tags.map AVal.str).length=y.tags.length:=List.length_map ..
  have F:=F4 F c2 hy hyl
  try refine sq F ?_
  refine wk F ?_
  refine lm (fun nL tL hL=>∃(k p v:Nat) (hh:Heap) (acc:List Bs),y.tags.length-k=nL∧hh=hL∧tL 1=.hp h.length 0 0 0∧tL 3=.hs p v 0 acc.length true∧tL 4=.int .i64 i∧tL 5=.int .i64 k∧k≤y.tags.length∧acc=(y.tags.take k).foldl insT (tagsR (x.it.take i))∧acc.length≤8*i+k∧getRow hh h.length 0=some (34,9,[x.av])∧getRow hh p v=some (9,1,acc.map .str)∧(FrN h.length h hh∧h.length<p)) ((fun(k p v:Nat) (hh:Heap) (acc:List Bs)=>(y.tags.length-k:Nat)) (0) (p) (v) (hh) (acc)) ?_ ?_
  ·refine Wkn.refl ⟨0,p,v,hh,acc,rfl,aB,?_,?_,?_,?_,by omega,by rw[hac];rfl,by omega,hg1,hg2,hfr⟩
   all_goals first|exact zq F|rfl|omega|trivial|skip
  rintro _ s3 h' ⟨k,p,v,hh,acc,rfl,rfl,e1,e3,e4,e5,hk,hac,hal,hg1,hg2,hfr⟩ K3 hK3
  simp only[ai,ao,Nat.reduceEqDiff, ↓reduceIte]at e1 e3 e4 e5
  have F:=F5 F e1 e3 e4 e5
  have hgl1:=bn hg1
  have hgl2:=bn hg2
  have hacl:(acc.map AVal.str).length=acc.length:=List.length_map ..
  have F:=F4 F hg1 hg2 @hacl
  try refine sq F ?_
  refine wk F ?_
  refine cq F (fun c3=>?_) (fun c3=>?_)<;>(try exact c3.elim)<;>(refine wk F ?_)
  ·have c4:k<y.tags.length:=by omega
   obtain⟨g,hg,_⟩:=ac c4
   have F:=F3 F c4 hg
   try refine sq F ?_
   refine wk F ?_
   refine lm (fun nL tL hL=>∃(a:Nat),acc.length-a=nL∧[]++hh=hL∧tL 1=.hp h.length 0 0 0∧tL 3=.hs p v 0 acc.length true∧tL 4=.int .i64 i∧tL 5=.int .i64 k∧tL 6=.str g∧tL 7=.int .i64 a∧a≤acc.length∧(∀b∈acc.take a,Op.bytesLess b g=true)) ((fun(a:Nat)=>(acc.length-a:Nat)) (0)) ?_ ?_
   ·refine Wkn.refl ⟨0,rfl,rfl,?_,?_,?_,?_,?_,?_,by omega,by simp⟩
    all_goals first|exact zq F|rfl|omega|trivial|skip
   rintro _ s4 h' ⟨a,rfl,rfl,e1,e3,e4,e5,e6,e7,ha,hlt⟩ K4 hK4
   simp only[ai,ao,Nat.reduceEqDiff, ↓reduceIte]at e1 e3 e4 e5 e6 e7
   have F:=F7 F e1 e3 e4 e5 e6 e7
   rw[List.nil_append]
   by_cases c5:a<acc.length
   ·obtain⟨b,hb,_⟩:=ac c5
    have dt:∀i:Decidable True, @decide True i=true:=fun i=>decide_eq_true trivial
    have d5:decide (a<acc.length)=true:=by simp;omega
    have F:=F4 F hb c5 dt
    try refine sq F ?_
    refine wk F ?_
    cases hbl:Op.bytesLess b g with
    |true=>
     have F:=F2 F hbl
     try refine sq F ?_
     refine wk F ?_
     have hlt1:∀b∈acc.take (a+1),Op.bytesLess b g=true:=by
      rw[List.take_add_one,hb]
      intro z hz
      simp at hz
      rcases hz with hz|rfl
      ·exact hlt z hz
      ·exact hbl
     refine hK4 _ _ _ (Wkn.refl ⟨a+1,rfl,rfl,?_,?_,?_,?_,?_,?_,by omega,hlt1⟩) (by omega)
     all_goals first|exact zq F|rfl|omega|trivial|skip
    |false=>
     have hins:=ka hlt (by omega) (fun z hz=>by rw[hb]at hz;cases hz;exact hbl)
     have F:=F2 F hbl
     try refine sq F ?_
     refine wk F ?_
     cases heq:decide (b=g)with
     |true=>
      have hbg:b=g:=of_decide_eq_true heq
      have h2:insT acc g=acc:=by rw[hins,if_pos (by rw[hb,hbg])]
      have hac2:acc=(y.tags.take (k+1)).foldl insT (tagsR (x.it.take i)):=by rw[gx hg, ← hac,h2]
      have hbe:(b==g)=true:=by simp[hbg]
      have F:=F2 F hbe
      try refine sq F ?_
      refine wk F ?_
      refine hK3 _ _ _ (Wkn.refl ⟨k+1,p,v,hh,acc,rfl,aB,?_,?_,?_,?_,by omega,hac2,by omega,hg1,hg2,hfr⟩) (by omega)
      all_goals first|exact zq F|rfl|omega|trivial|skip
     |false=>
      have hbe:(b==g)=false:=by simpa using heq
      have h2:insT acc g=acc.take a++g::acc.drop a:=by rw[hins,if_neg (by rw[hb];simpa using heq)]
      have hac2:acc.take a++g::acc.drop a=(y.tags.take (k+1)).foldl insT (tagsR (x.it.take i)):=by rw[gx hg, ← hac,h2]
      have hL:(acc.take a++g::acc.drop a).length=a+1+(acc.length-a):=by simp;omega
      have hys:=nH (b:=true) (i:=a) hg2 hacl (by omega)
      have hsl:=oW (P:=Tryz.prog) (T:=80) (k:=.i64) (len:=acc.length) (i:=a) (by simp only[go_sem];try rfl) hg2 (by simp only[go_sem];try rfl) c5
      have F:=F3 F hbe hsl
      try refine sq F ?_
      refine wk F ?_
      refine dc (.inl rfl) (by simp(disch:=first|omega| (simp only[go_sem, ↓reduceIte,seval];first|done|omega)|fail) only[go_sem, ↓reduceIte,seval,F];try rfl) (by simp(disch:=first|omega| (simp only[go_sem, ↓reduceIte,seval];first|done|omega)|fail) only[go_sem, ↓reduceIte,seval,F];try rfl) (by simp(disch:=first|omega| (simp only[go_sem, ↓reduceIte,seval];first|done|omega)|fail) only[go_sem, ↓reduceIte,seval,F];try rfl) (by simp(disch:=first|omega| (simp only[go_sem, ↓reduceIte,seval];first|done|omega)|fail) only[go_sem, ↓reduceIte,seval,F];try rfl) (by omega) hys ⟨by simp[maxLen];try omega,by simp;try omega⟩ (fun h=>by simp at h;omega) (fun _=>?_)
      have hg3:getRow (hh++[.row 9 1 0 ((acc.map AVal.str).drop a)]) p v=some (9,1,acc.map .str):=by rw[bi _ hgl2];exact hg2
      have hsl2:=jk (P:=Tryz.prog) (T:=80) (off:=0) (len:=acc.length) (room:=true) (k:=.i64) (k':=.i64) (r:=a) (by simp only[go_sem];try rfl) hg3 (by simp only[go_sem];try rfl) (by omega)
      have F:=F2 F hsl2
      try refine sq F ?_
      refine wk F ?_
      refine lR (.inl rfl) (by simp(disch:=first|omega| (simp only[go_sem, ↓reduceIte,seval];first|done|omega)|fail) only[go_sem, ↓reduceIte,seval,F];try rfl) (by simp(disch:=first|omega| (simp only[go_sem, ↓reduceIte,seval];first|done|omega)|fail) only[go_sem, ↓reduceIte,seval,F];try rfl) (by simp(disch:=first|omega| (simp only[go_sem, ↓reduceIte,seval];first|done|omega)|fail) only[go_sem, ↓reduceIte,seval,F];try rfl) (by simp(disch:=first|omega| (simp only[go_sem, ↓reduceIte,seval];first|done|omega)|fail) only[go_sem, ↓reduceIte,seval,F];try rfl) (by omega) (by simp only[elemsOf, ↓reduceIte];rfl) hg3 (by simp;try omega) (by simp) ⟨by simp[maxLen];try omega,by simp;try omega⟩ ?_
      try refine sq F ?_
      refine wk F ?_
      have hg4:getRow (hh++[.row 9 1 0 ((acc.map AVal.str).drop a),.row 9 1 0 ((acc.map AVal.str).take a++[.str g])]) hh.length 0=some (9,1,(acc.map AVal.str).drop a):=by rw[aG _ rfl];rfl
      have hg5:getRow (hh++[.row 9 1 0 ((acc.map AVal.str).drop a),.row 9 1 0 ((acc.map AVal.str).take a++[.str g])]) (hh.length+1) 0=some (9,1,(acc.map AVal.str).take a++[.str g]):=by rw[bo _ rfl];rfl
      refine bK (.inl rfl) (by simp(disch:=first|omega| (simp only[go_sem, ↓reduceIte,seval];first|done|omega)|fail) only[go_sem, ↓reduceIte,seval,F];try rfl) (by simp(disch:=first|omega| (simp only[go_sem, ↓reduceIte,seval];first|done|omega)|fail) only[go_sem, ↓reduceIte,seval,F];try rfl) (by simp(disch:=first|omega| (simp only[go_sem, ↓reduceIte,seval];first|done|omega)|fail) only[go_sem, ↓reduceIte,seval,F];try rfl) (by simp(disch:=first|omega| (simp only[go_sem, ↓reduceIte,seval];first|done|omega)|fail) only[go_sem, ↓reduceIte,seval,F];try rfl) (by omega) (fB hg4 rfl) hg5 (by simp;try omega) ⟨by simp[maxLen];try omega,by simp;try omega⟩ ?_
      try refine sq F ?_
      refine wk F ?_
      have hrw:(acc.map AVal.str).take a++[.str g]++(acc.map AVal.str).drop a=(acc.take a++g::acc.drop a).map AVal.str:=by simp
      have hg6:getRow (hh++[.row 9 1 0 ((acc.map AVal.str).drop a),.row 9 1 1 ((acc.take a++g::acc.drop a).map AVal.str)]) (hh.length+1) 1=some (9,1,(acc.take a++g::acc.drop a).map AVal.str):=by rw[bo _ rfl];rfl
      have hdl:((acc.map AVal.str).drop a).length=acc.length-a:=by simp
      have hsl3:AVal.hs (hh.length+1) 1 0 (a+1+(acc.length-a)) true=.hs (hh.length+1) 1 0 (acc.take a++g::acc.drop a).length true:=by rw[hL]
      have F:=F3 F hL hdl
      refine hK3 _ _ _ (Wkn.refl ⟨k+1,hh.length+1,1,hh++[.row 9 1 0 ((acc.map AVal.str).drop a),.row 9 1 1 ((acc.take a++g::acc.drop a).map AVal.str)],acc.take a++g::acc.drop a,rfl,by simp,?_,?_,?_,?_,by omega,hac2,by rw[hL];omega,by rw[bi _ (by omega)];exact hg1,hg6,⟨FrN.app _ (by omega) hfr.1,by omega⟩⟩) (by omega)
      all_goals first|exact zq F|rfl|omega|trivial|skip
      done
   ·have d5:decide (a<acc.length)=false:=by simp;omega
    have hae:a=acc.length:=by omega
    have hins:=ka hlt (by omega) (fun z hz=>by rw[List.getElem?_eq_none (by omega)]at hz;cases hz)
    have h2:insT acc g=acc++[g]:=by rw[hins,if_neg (by rw[List.getElem?_eq_none (by omega)];simp),hae];simp
    have hac2:acc++[g]=(y.tags.take (k+1)).foldl insT (tagsR (x.it.take i)):=by rw[gx hg, ← hac,h2]
    have hsl:∃z,aslice Tryz.prog hh 80 (.hs p v 0 acc.length true) (some (.int .i64 (a:Int))) none none=some z∧elemsOf hh 1 z=some []:=by
     by_cases ha0:a=0
     ·have hl0:acc.length=0:=by omega
      subst ha0
      rw[hl0]
      exact⟨_,pY (by simp only[go_sem];try rfl) hg2 (by simp only[go_sem];try rfl),by rw[fB hg2 (by rw[hacl,hl0])];rw[List.length_eq_zero_iff.1 hl0];rfl⟩
     ·exact⟨_,oX (by simp only[go_sem];try rfl) hg2 (by simp only[go_sem];try rfl) hae (by omega),rfl⟩
    obtain⟨z,hz1,hz2⟩:=hsl
    have F:=F3 F d5 hz1
    try refine sq F ?_
    refine wk F ?_
    refine dc (.inl rfl) (by simp(disch:=first|omega| (simp only[go_sem, ↓reduceIte,seval];first|done|omega)|fail) only[go_sem, ↓reduceIte,seval,F];try rfl) (by simp(disch:=first|omega| (simp only[go_sem, ↓reduceIte,seval];first|done|omega)|fail) only[go_sem, ↓reduceIte,seval,F];try rfl) (by simp(disch:=first|omega| (simp only[go_sem, ↓reduceIte,seval];first|done|omega)|fail) only[go_sem, ↓reduceIte,seval,F];try rfl) (by simp(disch:=first|omega| (simp only[go_sem, ↓reduceIte,seval];first|done|omega)|fail) only[go_sem, ↓reduceIte,seval,F];try rfl) (by omega) hz2 ⟨by simp[maxLen],by simp⟩ (fun _=>?_) (fun h=>absurd rfl h)
    have hsl2:=jk (P:=Tryz.prog) (T:=80) (off:=0) (len:=acc.length) (room:=true) (k:=.i64) (k':=.i64) (r:=a) (by simp only[go_sem];try rfl) hg2 (by simp only[go_sem];try rfl) (by omega)
    have F:=F2 F hsl2
    try refine sq F ?_
    refine wk F ?_
    refine lR (.inl rfl) (by simp(disch:=first|omega| (simp only[go_sem, ↓reduceIte,seval];first|done|omega)|fail) only[go_sem, ↓reduceIte,seval,F];try rfl) (by simp(disch:=first|omega| (simp only[go_sem, ↓reduceIte,seval];first|done|omega)|fail) only[go_sem, ↓reduceIte,seval,F];try rfl) (by simp(disch:=first|omega| (simp only[go_sem, ↓reduceIte,seval];first|done|omega)|fail) only[go_sem, ↓reduceIte,seval,F];try rfl) (by simp(disch:=first|omega| (simp only[go_sem, ↓reduceIte,seval];first|done|omega)|fail) only[go_sem, ↓reduceIte,seval,F];try rfl) (by omega) (by simp only[elemsOf, ↓reduceIte];rfl) hg2 (by simp;try omega) (by simp) ⟨by simp[maxLen];try omega,by simp;try omega⟩ ?_
    have hta:(acc.map AVal.str).take a++[.str g]=(acc++[g]).map AVal.str:=by rw[hae, ← hacl,List.take_length];simp
    have hlz:([AVal.str g]).length=1:=rfl
    rw[hta]
    try refine sq F ?_
    refine wk F ?_
    have hg5:getRow (hh++[.row 9 1 0 ((acc++[g]).map AVal.str)]) hh.length 0=some (9,1,(acc++[g]).map AVal.str):=by rw[aG _ rfl];rfl
    refine bK (ys:=[]) (.inl rfl) (by simp(disch:=first|omega| (simp only[go_sem, ↓reduceIte,seval];first|done|omega)|fail) only[go_sem, ↓reduceIte,seval,F];try rfl) (by simp(disch:=first|omega| (simp only[go_sem, ↓reduceIte,seval];first|done|omega)|fail) only[go_sem, ↓reduceIte,seval,F];try rfl) (by simp(disch:=first|omega| (simp only[go_sem, ↓reduceIte,seval];first|done|omega)|fail) only[go_sem, ↓reduceIte,seval,F];try rfl) (by simp(disch:=first|omega| (simp only[go_sem, ↓reduceIte,seval];first|done|omega)|fail) only[go_sem, ↓reduceIte,seval,F];try rfl) (by omega) (by simp only[elemsOf]) hg5 (by simp;try omega) ⟨by simp[maxLen];try omega,by simp;try omega⟩ ?_
    rw[List.append_nil]
    try refine sq F ?_
    refine wk F ?_
    have hg6:getRow (hh++[.row 9 1 1 ((acc++[g]).map AVal.str)]) hh.length 1=some (9,1,(acc++[g]).map AVal.str):=by rw[aG _ rfl];rfl
    have hL:(acc++[g]).length=a+1:=by simp;omega
    have hnl:([]:List AVal).length=0:=rfl
    have hL':(acc++[g]).length=a+1+0:=by simp;omega
    have F:=F3 F hL' hnl
    refine hK3 _ _ _ (Wkn.refl ⟨k+1,hh.length,1,hh++[.row 9 1 1 ((acc++[g]).map AVal.str)],acc++[g],rfl,by simp,?_,?_,?_,?_,by omega,hac2,by rw[hL];omega,by rw[bi _ (by omega)];exact hg1,hg6,⟨FrN.app _ (by omega) hfr.1,by omega⟩⟩) (by omega)
    all_goals first|exact zq F|rfl|omega|trivial|skip
    done
  ·have hk2:k=y.tags.length:=by omega
   subst hk2
   rw[List.take_length]at hac
   have h9:acc.length≤8*(i+1):=by omega
   have h10:acc=tagsR (x.it.take (i+1)):=by rw[pZ hy,hac]
   try refine sq F ?_
   refine wk F ?_
   refine hK2 _ _ _ (Wkn.refl ⟨i+1,p,v,hh,acc,rfl,aB,?_,?_,?_,by omega,h10,h9,hg1,hg2,hfr⟩) (by omega)
   all_goals first|exact zq F|rfl|omega|trivial|skip
 ·rw[List.take_of_length_le (by omega)]at hac
  obtain⟨hfr,hfp⟩:=hfr
  obtain⟨j,rfl⟩:=hfr.behind (by omega)
  try refine sq F ?_
  refine wk F ?_
  refine ee hQ F ?_
  rw[← hac]
  exact Fin.frz (gv (by omega) hg2) ⟨rfl,rfl⟩
end Go.Av
namespace Go.Av
open Go Go.Proofs Go.RowKit
attribute [local irreducible] WP WPl WPix Sat
variable (G:Nat→Option (List AVal))
def St.tellC(x:St):List Ct:=x.fil 1 0 []::(x.fo.map (fun f=>x.fil 2 f.id [])++x.fe.map (fun f=>x.fil 3 f.id [])++(tagsR x.it).map (fun g=>x.fil 4 0 g))++[x.fil 5 0 []]
theorem l7{x:St}(hx:x.Up):(tagsR x.it).length≤8192:=by
 have h1:=rz (x.it.flatMap (·.tags)) []
 have h2:∀l:List It,(∀t∈l,t.tags.length≤8)→(l.flatMap (·.tags)).length≤8*l.length:=by
  intro l
  induction l with
  |nil=>intro _;simp
  |cons t l ih=>
   intro h
   have a:=h t (by simp)
   have b:=ih fun u hu=>h u (by simp[hu])
   simp only[List.flatMap_cons,List.length_append,List.length_cons];omega
 have h3:=h2 x.it hx.tg
 have h4:=hx.l3
 unfold tagsR
 simp only[List.length_nil]at h1
 omega
theorem dW{α β:Type}(F:α→β){l:List α}{k:Nat}{a:α}(h:l[k]? =some a):(l.take (k+1)).map F=(l.take k).map F++[F a]:=by
 rw[List.take_add_one,h];simp
theorem l8(x:St)(hx:x.Up)(h:Heap):Sat (CT G) 17 [x.av] h (fun r h'=>r=.sl 5 (x.tellC.map Ct.av)∧h'=h):=by
 have he1:(x.fo.map Fo.av).length=x.fo.length:=List.length_map ..
 have he2:(x.fe.map Fe.av).length=x.fe.length:=List.length_map ..
 have hl1:=hx.l1
 have hl2:=hx.l2
 have hl4:=l7 hx
 have F:=F2 he1 he2
 skip
 refine sb [.tmp 2] (fn:=Tryz.f17) Tryz.func17 ?_
 intro Q hQ
 refine wx F ?_
 refine kx F (cW G x hx 1 0 [] _) ?_
 skip
 refine lm (fun nL tL hL=>∃(k v:Nat) (acc:List Ct),x.fo.length-k=nL∧h++[.row 34 9 0 [x.av],.row 88 5 v (acc.map Ct.av)]=hL∧tL 1=.hp h.length 0 0 0∧tL 3=.hs (h.length+1) v 0 acc.length true∧tL 4=.int .i64 k∧k≤x.fo.length∧acc.length=k+1∧acc=x.fil 1 0 []::(x.fo.take k).map (fun f=>x.fil 2 f.id [])) ((fun(k v:Nat) (acc:List Ct)=>(x.fo.length-k:Nat)) (0) (0) ([x.fil 1 0 []])) ?_ ?_
 ·refine Wkn.refl ⟨0,0,[x.fil 1 0 []],rfl,by simp[St.av,Ct.av],?_,?_,?_,by omega,rfl,by simp⟩
  all_goals first|exact zq F|rfl|omega|trivial|skip
 rintro _ s2 h' ⟨k,v,acc,rfl,rfl,e1,e3,e4,hk,hal,hac⟩ K2 hK2
 simp only[ai,ao,Nat.reduceEqDiff, ↓reduceIte]at e1 e3 e4
 have F:=F4 F e1 e3 e4
 refine wk F ?_
 refine cq F (fun c1=>?_) (fun c1=>?_)<;>(try exact c1.elim)<;>(refine wk F ?_)
 ·have c2:k<x.fo.length:=by omega
  obtain⟨f,hf,_⟩:=ac c2
  have F:=F3 F c2 hf
  try refine sq F ?_
  refine wk F ?_
  refine aA (cW G x hx 2 f.id [] _) ?_
  try refine sq F ?_
  refine wk F ?_
  refine aq F ?_
  try refine sq F ?_
  refine wk F ?_
  refine hK2 _ _ _ (Wkn.refl ⟨k+1,v+1,acc++[x.fil 2 f.id []],rfl,by simp[St.av,Ct.av],?_,?_,?_,by omega,by simp;omega,by rw[hac,dW (fun f=>x.fil 2 f.id []) hf];simp⟩) (by omega)
  all_goals first|exact zq F|rfl|omega|trivial|skip
 have hk1:k=x.fo.length:=by omega
 subst hk1
 rw[List.take_length]at hac
 try refine sq F ?_
 refine wk F ?_
 refine lm (fun nL tL hL=>∃(k v:Nat) (acc:List Ct),x.fe.length-k=nL∧h++[.row 34 9 0 [x.av],.row 88 5 v (acc.map Ct.av)]=hL∧tL 1=.hp h.length 0 0 0∧tL 3=.hs (h.length+1) v 0 acc.length true∧tL 5=.int .i64 k∧k≤x.fe.length∧acc.length=k+x.fo.length+1∧acc=x.fil 1 0 []::(x.fo.map (fun f=>x.fil 2 f.id [])++(x.fe.take k).map (fun f=>x.fil 3 f.id []))) ((fun(k v:Nat) (acc:List Ct)=>(x.fe.length-k:Nat)) (0) (v) (acc)) ?_ ?_
 ·refine Wkn.refl ⟨0,v,acc,rfl,aB,?_,?_,?_,by omega,by omega,by rw[hac];simp⟩
  all_goals first|exact zq F|rfl|omega|trivial|skip
 rintro _ s3 h' ⟨k,v,acc,rfl,rfl,e1,e3,e5,hk,hal,hac⟩ K3 hK3
 simp only[ai,ao,Nat.reduceEqDiff, ↓reduceIte]at e1 e3 e5
 have F:=F4 F e1 e3 e5
 refine wk F ?_
 refine cq F (fun c1=>?_) (fun c1=>?_)<;>(try exact c1.elim)<;>(refine wk F ?_)
 ·have c2:k<x.fe.length:=by omega
  obtain⟨f,hf,_⟩:=ac c2
  have F:=F3 F c2 hf
  try refine sq F ?_
  refine wk F ?_
  refine aA (cW G x hx 3 f.id [] _) ?_
  try refine sq F ?_
  refine wk F ?_
  refine aq F ?_
  try refine sq F ?_
  refine wk F ?_
  refine hK3 _ _ _ (Wkn.refl ⟨k+1,v+1,acc++[x.fil 3 f.id []],rfl,by simp[St.av,Ct.av],?_,?_,?_,by omega,by simp;omega,by rw[hac,dW (fun f=>x.fil 3 f.id []) hf];simp⟩) (by omega)
  all_goals first|exact zq F|rfl|omega|trivial|skip
 have hk1:k=x.fe.length:=by omega
 subst hk1
 rw[List.take_length]at hac
 have hT:=rP G x hx
 have ht:tagsR x.it=tagsR x.it:=rfl
 revert hT hl4 ht
 generalize hgs:tagsR x.it=gs
 intro hl4 hT _
 have hgl:(gs.map AVal.str).length=gs.length:=List.length_map ..
 try refine sq F ?_
 refine wk F ?_
 refine kq F (hT _) ?_
 have F:=F2 F hgl
 refine lm (fun nL tL hL=>∃(k v:Nat) (acc:List Ct),gs.length-k=nL∧h++[.row 34 9 0 [x.av],.row 88 5 v (acc.map Ct.av)]=hL∧tL 1=.hp h.length 0 0 0∧tL 3=.hs (h.length+1) v 0 acc.length true∧tL 6=.sl 1 (gs.map .str)∧tL 7=.int .i64 k∧k≤gs.length∧acc.length=k+x.fe.length+x.fo.length+1∧acc=x.fil 1 0 []::(x.fo.map (fun f=>x.fil 2 f.id [])++x.fe.map (fun f=>x.fil 3 f.id [])++(gs.take k).map (fun g=>x.fil 4 0 g))) ((fun(k v:Nat) (acc:List Ct)=>(gs.length-k:Nat)) (0) (v) (acc)) ?_ ?_
 ·refine Wkn.refl ⟨0,v,acc,rfl,aB,?_,?_,?_,?_,by omega,by omega,by rw[hac];simp⟩
  all_goals first|exact zq F|rfl|omega|trivial|skip
 rintro _ s4 h' ⟨k,v,acc,rfl,rfl,e1,e3,e6,e7,hk,hal,hac⟩ K4 hK4
 simp only[ai,ao,Nat.reduceEqDiff, ↓reduceIte]at e1 e3 e6 e7
 have F:=F5 F e1 e3 e6 e7
 refine wk F ?_
 refine cq F (fun c1=>?_) (fun c1=>?_)<;>(try exact c1.elim)<;>(refine wk F ?_)
 ·have c2:k<gs.length:=by omega
  obtain⟨f,hf,_⟩:=ac c2
  have F:=F3 F c2 hf
  try refine sq F ?_
  refine wk F ?_
  refine aA (cW G x hx 4 0 f _) ?_
  try refine sq F ?_
  refine wk F ?_
  refine aq F ?_
  try refine sq F ?_
  refine wk F ?_
  refine hK4 _ _ _ (Wkn.refl ⟨k+1,v+1,acc++[x.fil 4 0 f],rfl,by simp[St.av,Ct.av],?_,?_,?_,?_,by omega,by simp;omega,by rw[hac,dW (fun g=>x.fil 4 0 g) hf];simp⟩) (by omega)
  all_goals first|exact zq F|rfl|omega|trivial|skip
 have hk1:k=gs.length:=by omega
 subst hk1
 rw[List.take_length]at hac
 try refine sq F ?_
 refine wk F ?_
 refine kq F (cW G x hx 5 0 [] _) ?_
 refine aq F ?_
 try refine sq F ?_
 refine wk F ?_
 refine ee hQ F ?_
 have hfin:x.tellC=acc++[x.fil 5 0 []]:=by rw[St.tellC,hgs,hac]
 rw[hfin]
 have hg:getRow (h++[.row 34 9 0 [x.av],.row 88 5 (v+1) ((acc++[x.fil 5 0 []]).map Ct.av)]) (h.length+1) (v+1)=some (88,5,(acc++[x.fil 5 0 []]).map Ct.av):=by
  rw[bo _ rfl];simp[getRow]
 have:=Frz.data (n:=h.length) (len:=(acc++[x.fil 5 0 []]).length) (room:=true) (by omega) hg (by simp) (fun r hr=>by obtain⟨a,_,rfl⟩:=List.mem_map.1 hr;exact Ct.clo _ a) (fun r hr=>by obtain⟨a,_,rfl⟩:=List.mem_map.1 hr;exact a.cells_sto)
 have hz:=Fin.frz (R:=fun r h'=>r=.sl 5 ((acc++[x.fil 5 0 []]).map Ct.av)∧h'=h) this ⟨rfl,rfl⟩
 simpa [St.av,Ct.av]using hz
end Go.Av
namespace Go.Av
open Go Go.Proofs Go.RowKit
variable {s:PS}
theorem q6{α:Type}{z:α}{l:ML Int α}{c:Nat}(w:WFM l c):(valsM z l).Perm (l.map (·.2.1)):=by
 have h1:(l.map (·.2.1))=(l.map (·.1)).map fun k=>(lkM l k).getD z:=by
  rw[List.map_map]
  exact List.map_congr_left fun e he=>by simp only[Function.comp];rw[aS w.keys (b:=e.2.2) he];rfl
 rw[h1]
 exact(List.mergeSort_perm _ _).map _
theorem gy{α:Type}{z:α}{l:ML Int α}{key:α→Int}(hid:∀k a,lkM l k=some a→key a=k)(id:Int):fnd key (valsM z l) id=lkM l id:=dR key hid id
theorem PS.Inv.fndFo(h:s.Inv)(id:Int):fnd (·.id) s.tell.fo id=lkM s.fo id:=gy (fun k a hk=>(h.i1 k a hk).1) id
theorem PS.Inv.fndFe(h:s.Inv)(id:Int):fnd (·.id) s.tell.fe id=lkM s.fe id:=gy (fun k a hk=>(h.i2 k a hk).1) id
theorem PS.Inv.fndIt(h:s.Inv)(id:Int):fnd (·.id) s.tell.it id=lkM s.it id:=gy (fun k a hk=>(h.i3 k a hk).1) id
theorem PS.Inv.fndSe(h:s.Inv)(id:Int):fnd (·.id) s.tell.se id=lkM s.se id:=gy (fun k a hk=>(h.i4 k a hk).1) id
theorem PS.Inv.hasT(h:s.Inv){id:Int}(hi:id=0∨(lkM s.fo id).isSome=true):s.tell.has id:=by
 rcases hi with hi|hi
 ·exact .inl hi
 ·obtain⟨f,hf⟩:=Option.isSome_iff_exists.1 hi
  exact .inr ⟨f,by rw[h.fndFo,hf]⟩
theorem PS.Inv.up(h:s.Inv):s.tell.Up where
 fo:=fun f hf=>by
  obtain⟨k,hk⟩:=aM hf
  exact h.hasT (h.u1 k f hk)
 fe:=fun f hf=>by
  obtain⟨k,hk⟩:=aM hf
  exact h.hasT (h.u2 k f hk)
 it:=fun t ht=>by
  obtain⟨k,hk⟩:=aM ht
  obtain⟨f,hf⟩:=Option.isSome_iff_exists.1 (h.u3 k t hk)
  exact⟨f,by rw[h.fndFe,hf]⟩
 l1:=by have:=aF (z:=Fo.z) s.fo;have:=h.l1;show(valsM Fo.z s.fo).length≤_;omega
 l2:=by have:=aF (z:=Fe.z) s.fe;have:=h.l2;show(valsM Fe.z s.fe).length≤_;omega
 l3:=by have:=aF (z:=It.z) s.it;have:=h.l3;show(valsM It.z s.it).length≤_;omega
 tg:=fun t ht=>by
  obtain⟨k,hk⟩:=aM ht
  exact(h.tg k t hk).2
theorem PS.Inv.inT(h:s.Inv)(id:Int):s.tell.inn id=((lkM s.fo id).map (·.inn)).getD 0:=by unfold St.inn;rw[h.fndFo]
theorem v6(h:s.Inv){u:Int}(hu:u≠0):∀{k m:Nat} {p:Int} {l:List Int},k≤m→chS s.fo k p=some l→(s.tell.upW u m p=u↔u∈l):=by
 intro k
 induction k with
 |zero=>
  intro m p l _ hc
  rw[chS]at hc
  split at hc
  ·rename_i hp
   cases hc
   subst hp
   have:s.tell.upW u m 0=0:=by
    cases m with
    |zero=>rfl
    |succ m=>rw[St.upW,if_pos (.inr rfl)]
   rw[this]
   exact⟨fun e=>(hu e.symm).elim,fun e=>by cases e⟩
  ·cases hc
 |succ k ih=>
  intro m p l hm hc
  obtain⟨m,rfl⟩:∃m',m=m'+1:=⟨m-1,by omega⟩
  rw[chS]at hc
  split at hc
  ·rename_i hp
   cases hc
   subst hp
   rw[St.upW,if_pos (.inr rfl)]
   exact⟨fun e=>(hu e.symm).elim,fun e=>by cases e⟩
  ·rename_i hp
   simp only[Option.map_eq_some_iff]at hc
   obtain⟨r,hr,rfl⟩:=hc
   rw[St.upW]
   by_cases hpu:p=u
   ·rw[if_pos (.inl hpu)]
    exact⟨fun _=>by rw[hpu];exact List.mem_cons_self ..,fun _=>hpu⟩
   ·rw[if_neg (by rintro(q|q);exact hpu q;exact hp q),h.inT,ih (by omega) hr,List.mem_cons]
    exact⟨.inr,fun q=>q.elim (fun e=>(hpu e.symm).elim) id⟩
theorem gz(h:s.Inv){feed u:Int}(hf:(lkM s.fe feed).isSome=true)(hu:u≠0):s.tell.within (((lkM s.fe feed).map (·.inn)).getD 0) u=decide (u∈s.chn feed):=by
 obtain⟨f0,hf0⟩:=Option.isSome_iff_exists.1 hf
 obtain⟨l,a1,_,_⟩:=h.chs (h.u2 _ _ hf0)
 have hch:s.chn feed=l:=by unfold PS.chn;rw[hf0];simp only[Option.map_some,Option.getD_some];rw[a1];rfl
 rw[hch,hf0]
 simp only[Option.map_some,Option.getD_some]
 unfold St.within
 rw[decide_eq_false hu,Bool.or_false]
 exact decide_eq_decide.2 (v6 h hu (by omega) a1)
theorem i7{t:It}(h:s.Inv)(ht:t∈s.its):∃k,lkM s.it k=some t:=by
 obtain⟨e,he,rfl⟩:=List.mem_map.1 ht
 exact⟨e.1,aS h.w3.keys (b:=e.2.2) he⟩
theorem gA(h:s.Inv):s.tell.it.Perm s.its:=q6 h.w3
theorem i8(h:s.Inv)(kind id:Int)(g:Bs)(p:It→Bool)(hp:∀t∈s.its,s.tell.cnt ⟨kind,id,g,0,0⟩ t=p t):s.tell.fil kind id g=ctM kind id g (tl s.its p):=by
 unfold St.fil
 rw[cV (gA h),bI hp]
theorem jG{l l':List It}(h:l.Perm l'):tagsR l=tagsR l':=by
 refine mB (hY _) (hY _) fun x=>?_
 rw[ff,ff]
 constructor
 ·rintro⟨t,ht,hx⟩;exact⟨t,h.mem_iff.1 ht,hx⟩
 ·rintro⟨t,ht,hx⟩;exact⟨t,h.mem_iff.2 ht,hx⟩
theorem mJ(h:s.Inv):s.tell.tellC=s.tellC:=by
 have hfo:s.tell.fo.map (·.id)=sortI (s.fo.map (·.1)):=dw h.w1 _ fun k f hk=>(h.i1 k f hk).1
 have hfe:s.tell.fe.map (·.id)=sortI (s.fe.map (·.1)):=dw h.w2 _ fun k f hk=>(h.i2 k f hk).1
 unfold St.tellC PS.tellC
 rw[← hfo, ← hfe,List.map_map,List.map_map,jG (gA h)]
 congr 1
 ·congr 1
  ·exact i8 h _ _ _ _ fun t _=>by simp[St.cnt]
  ·congr 1
   ·congr 1
    ·refine List.map_congr_left fun f hf=>?_
     obtain⟨k,hk⟩:=aM hf
     have hid:=h.i1 k f hk
     refine i8 h _ _ _ _ fun t ht=>?_
     obtain⟨q,hq⟩:=i7 h ht
     have h0:f.id≠0:=by omega
     simp only[St.cnt,h.fndFe]
     rw[if_neg (by omega),if_pos trivial,gz h (h.u3 q t hq) h0]
     simp[h0]
    ·refine List.map_congr_left fun f hf=>i8 h _ _ _ _ fun t ht=>?_
     simp only[St.cnt]
     rw[if_neg (by omega),if_neg (by omega),if_pos trivial]
     rfl
   ·refine List.map_congr_left fun g hg=>i8 h _ _ _ _ fun t ht=>?_
    simp only[St.cnt]
    rw[if_neg (by omega),if_neg (by omega),if_neg (by omega),if_pos trivial]
 ·congr 1
  exact i8 h _ _ _ _ fun t _=>by simp[St.cnt]
end Go.Av
namespace Go.Av
open Go Go.Proofs Go.RowKit
attribute [local irreducible] WP WPl WPix Sat
variable (G:Nat→Option (List AVal))
theorem PS.Inv.tgs{s:PS}(h:s.Inv)(ht:s.Tg):∀g∈tagsR s.its,g.length≤1048576:=fun g hg=>by
 obtain⟨t,ht2,hgt⟩:=(ff _ _).1 hg
 obtain⟨k,hk⟩:=i7 h ht2
 have:=ht k t hk g hgt
 omega
theorem PS.Inv.tgl{s:PS}(h:s.Inv):(tagsR s.its).length≤100000:=by
 have:=l7 h.up
 rw[jG (gA h)]at this
 omega
theorem fk{s:PS}(h:s.Inv):s.tellC.length≤1000000:=by
 have h1:=h.tgl
 have h2:=h.l1
 have h3:=h.l2
 unfold PS.tellC
 simp only[List.length_append,List.length_cons,List.length_map,List.length_nil,bJ]
 omega
end Go.Av
