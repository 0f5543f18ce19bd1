/- Counts that are kept, event by event, are those that are made anew. -/
import Derived.Test.YtanjiiailjilbaaGreatMeQd
set_option linter.unusedSimpArgs false
set_option linter.unusedVariables false
set_option linter.unusedSectionVars false
set_option linter.unnecessarySimpa false
set_option maxRecDepth 100000
set_option maxHeartbeats 4000000
namespace Go.Av
open Go Go.Proofs Go.RowKit
theorem en(s:PS)(id k:Int):(s.hold id k).it=s.it:=by rw[aM]
theorem xa(s:PS)(e:Ev):(s.aft e).it=
  if e.kind=4 then itF s.it ((lkM s.fe e.a).getD Fe.z).id
  else if e.kind=7 then upM s.it s.c3 e.a ⟨e.a,e.b,e.n,e.s,e.t,e.u,false,false,[]⟩
  else if e.kind=8 then upM s.it s.c3 e.a {(lkM s.it e.a).getD It.z with read:=e.n==1}
  else if e.kind=9 then upM s.it s.c3 e.a {(lkM s.it e.a).getD It.z with star:=e.n==1}
  else if e.kind=10 then upM s.it s.c3 e.a {(lkM s.it e.a).getD It.z with tags:=tgF ((lkM s.it e.a).getD It.z).tags e.s e.n}
  else s.it:=by
 unfold PS.aft PS.after
 by_cases k2:e.kind=2
 ·rw[if_pos k2,en,if_neg (by omega),if_neg (by omega),if_neg (by omega),if_neg (by omega),if_neg (by omega)];rfl
 by_cases k4:e.kind=4
 ·rw[if_neg k2,if_pos k4,if_pos k4,PS.unfeed,en];rfl
 rw[if_neg k2,if_neg k4,if_neg k4]
 by_cases k5:e.kind=5
 ·rw[if_pos k5,if_neg (by omega),if_neg (by omega),if_neg (by omega),if_neg (by omega)];rfl
 rw[if_neg k5]
 by_cases k6:e.kind=6
 ·rw[if_pos k6,if_neg (by omega),if_neg (by omega),if_neg (by omega),if_neg (by omega)]
  show((s.hold _ _).hold _ _).it=_
  rw[en,en]
 rw[if_neg k6]
 by_cases k7:e.kind=7
 ·rw[if_neg (by omega),if_neg (by omega),if_neg (by omega),if_neg (by omega),if_neg (by omega),PS.make,if_neg (by omega),if_neg (by omega),if_pos k7,if_pos k7];rfl
 rw[if_neg k7]
 by_cases k8:e.kind=8
 ·rw[if_pos k8,if_pos k8];rfl
 rw[if_neg k8,if_neg k8]
 by_cases k9:e.kind=9
 ·rw[if_pos k9,if_pos k9];rfl
 rw[if_neg k9,if_neg k9]
 by_cases k10:e.kind=10
 ·rw[if_pos k10,if_pos k10];rfl
 rw[if_neg k10,if_neg k10]
 by_cases k12:e.kind=12
 ·rw[if_pos k12];rfl
 rw[if_neg k12]
 by_cases k13:e.kind=13
 ·rw[if_pos k13]
 rw[if_neg k13,PS.make]
 by_cases k1:e.kind=1
 ·rw[if_pos k1]
  show((((s.upFo e.a _).upNm _ _).hold _ _)).it=_
  rw[en];rfl
 rw[if_neg k1]
 by_cases k3:e.kind=3
 ·rw[if_pos k3]
  show((((s.upFe e.a _).upPl _ _).hold _ _)).it=_
  rw[en];rfl
 rw[if_neg k3,if_neg k7]
 split<;>rfl
end Go.Av
namespace Go.Av
open Go Go.Proofs Go.RowKit
variable {s:PS} {e:Ev}
structure PS.Nam (s:PS):Prop where
 w5:WFM s.nm s.c5
 w6:WFM s.pl s.c6
 n1:∀key k,lkM s.nm key=some k→∃f,lkM s.fo k=some f∧(f.inn,f.name)=key
 n2:∀k f,lkM s.fo k=some f→lkM s.nm (f.inn,f.name)=some k
 p1:∀u k,lkM s.pl u=some k→∃f,lkM s.fe k=some f∧f.url=u
 p2:∀k f,lkM s.fe k=some f→lkM s.pl f.url=some k
 g1:∀key k,lkM s.gu key=some k→∃t,lkM s.it k=some t∧(t.feed,t.guid)=key
 g2:∀k t,lkM s.it k=some t→lkM s.gu (t.feed,t.guid)=some k
theorem PS.Nam.z:PS.z.Nam where
 w5:=.nil
 w6:=.nil
 n1:=fun _ _ h=>by cases h
 n2:=fun _ _ h=>by cases h
 p1:=fun _ _ h=>by cases h
 p2:=fun _ _ h=>by cases h
 g1:=fun _ _ h=>by cases h
 g2:=fun _ _ h=>by cases h
theorem ku{κ α:Type}[DecidableEq κ]{m:ML κ Int}{l:ML Int α}{c c':Nat}{key:κ}{a:α}{k:Int}(kf:α→κ)
  (h1:∀q j,lkM m q=some j→∃f,lkM l j=some f∧kf f=q)(h2:∀j f,lkM l j=some f→lkM m (kf f)=some j)(hk:lkM l k=none)(hm:lkM m key=none)(ha:kf a=key):
  (∀q j,lkM (upM m c key k) q=some j→∃f,lkM (upM l c' k a) j=some f∧kf f=q)∧(∀j f,lkM (upM l c' k a) j=some f→lkM (upM m c key k) (kf f)=some j):=by
 refine⟨fun q j hq=>?_,fun j f hf=>?_⟩
 ·rcases aQ hq with⟨rfl,rfl⟩| ⟨hne,hq⟩
  ·exact⟨a,by rw[bd,if_pos rfl],ha⟩
  ·obtain⟨f,hf,hkf⟩:=h1 q j hq
   refine⟨f,?_,hkf⟩
   rw[bd,if_neg (by rintro rfl;rw[hk]at hf;cases hf)];exact hf
 ·rcases aQ hf with⟨rfl,rfl⟩| ⟨hne,hf⟩
  ·rw[ha,bd,if_pos rfl]
  ·have:=h2 j f hf
   rw[bd,if_neg (by intro e;rw[e,hm]at this;cases this)];exact this
theorem oI{κ α:Type}[DecidableEq κ]{m:ML κ Int}{l:ML Int α}{k:Int}{a:α}(kf:α→κ)(nm:(m.map (·.1)).Nodup)(nl:(l.map (·.1)).Nodup)
  (h1:∀q j,lkM m q=some j→∃f,lkM l j=some f∧kf f=q)(h2:∀j f,lkM l j=some f→lkM m (kf f)=some j)(hk:lkM l k=some a):
  (∀q j,lkM (dlM m (kf a)) q=some j→∃f,lkM (dlM l k) j=some f∧kf f=q)∧(∀j f,lkM (dlM l k) j=some f→lkM (dlM m (kf a)) (kf f)=some j):=by
 refine⟨fun q j hq=>?_,fun j f hf=>?_⟩
 ·obtain⟨hne,hq⟩:=cQ nm hq
  obtain⟨f,hf,hkf⟩:=h1 q j hq
  refine⟨f,?_,hkf⟩
  rw[dF nl,if_neg (by rintro rfl;rw[hk]at hf;cases hf;exact hne hkf.symm)];exact hf
 ·obtain⟨hne,hf⟩:=cQ nl hf
  have:=h2 j f hf
  rw[dF nm,if_neg (by intro e;rw[e,h2 k a hk]at this;cases this;exact hne rfl)];exact this
theorem fK{κ α:Type}[DecidableEq κ]{m:ML κ Int}{l:ML Int α}{c:Nat}{k:Int}{a a':α}(kf:α→κ)
  (h1:∀q j,lkM m q=some j→∃f,lkM l j=some f∧kf f=q)(h2:∀j f,lkM l j=some f→lkM m (kf f)=some j)(hk:lkM l k=some a)(ha:kf a'=kf a):
  (∀q j,lkM m q=some j→∃f,lkM (upM l c k a') j=some f∧kf f=q)∧(∀j f,lkM (upM l c k a') j=some f→lkM m (kf f)=some j):=by
 refine⟨fun q j hq=>?_,fun j f hf=>?_⟩
 ·obtain⟨f,hf,hkf⟩:=h1 q j hq
  by_cases hj:j=k
  ·subst hj
   rw[hk]at hf;cases hf
   exact⟨a',by rw[bd,if_pos rfl],by rw[ha,hkf]⟩
  ·exact⟨f,by rw[bd,if_neg hj];exact hf,hkf⟩
 ·rcases aQ hf with⟨rfl,rfl⟩| ⟨hne,hf⟩
  ·rw[ha];exact h2 _ _ hk
  ·exact h2 j f hf
theorem mS{κ α:Type}[DecidableEq κ]{l:ML κ α}(hn:(l.map (·.1)).Nodup){p:κ×α×Nat→Bool}{y:κ}{b:α}(h:lkM l y=some b)(hp:∀n,p (y,b,n)=true):lkM (l.filter p) y=some b:=by
 obtain⟨n,hm⟩:=cV h
 exact cn (hn.sublist (List.filter_sublist.map _)) (List.mem_filter.2 ⟨hm,hp n⟩)
theorem kw{κ α:Type}[DecidableEq κ]{l:ML κ α}(hn:(l.map (·.1)).Nodup){p:κ×α×Nat→Bool}{y:κ}{b:α}(h:lkM (l.filter p) y=some b):lkM l y=some b∧∃n,(y,b,n)∈l∧p (y,b,n)=true:=by
 obtain⟨n,hm⟩:=cV h
 have:=List.mem_filter.1 hm
 exact⟨cn hn this.1,n,this.1,this.2⟩
theorem mT{κ:Type}[DecidableEq κ]{m:ML κ Int}{key:κ}(h:∀j,lkM m key=some j→1≤j)(h0:(lkM m key).getD 0=0):lkM m key=none:=by
 cases hl:lkM m key with
 |none=>rfl
 |some j=>rw[hl]at h0;have:=h j hl;simp at h0;omega
theorem PS.Nam.nm1(h:s.Nam)(hI:s.Inv){key:Int×Bs}{j:Int}(hj:lkM s.nm key=some j):1≤j:=by
 obtain⟨f,hf,_⟩:=h.n1 key j hj;exact(hI.i1 _ _ hf).2.1
theorem PS.Nam.pl1(h:s.Nam)(hI:s.Inv){key:Bs}{j:Int}(hj:lkM s.pl key=some j):1≤j:=by
 obtain⟨f,hf,_⟩:=h.p1 key j hj;exact(hI.i2 _ _ hf).2.1
theorem PS.Nam.gu1(h:s.Nam)(hI:s.Inv){key:Int×Bs}{j:Int}(hj:lkM s.gu key=some j):1≤j:=by
 obtain⟨f,hf,_⟩:=h.g1 key j hj;exact(hI.i3 _ _ hf).2.1
theorem PS.Nam.unFe(h:s.Nam)(hI:s.Inv){k:Int}{f:Fe}(hk:lkM s.fe k=some f):PS.Nam (s.unfeed f):=by
 have hfk:=(hI.i2 _ _ hk).1
 obtain⟨q1,q2⟩:=oI (·.url) h.w6.keys hI.w2.keys h.p1 h.p2 hk
 unfold PS.unfeed
 rw[aM]
 have hkey:∀j t,lkM s.it j=some t→t.feed=f.id→∀n,(fun e:(Int×Bs)×Int×Nat=> !(s.it.any fun d=>decide (d.2.1.feed=f.id)&&decide (e.1=(d.2.1.feed,d.2.1.guid)))) ((t.feed,t.guid),j,n)=false:=fun j t ht hf n=>by
  obtain⟨m,hm⟩:=cV ht
  simp only[Bool.not_eq_false',List.any_eq_true]
  exact⟨_,hm,by simp[hf]⟩
 exact {h with
  w6:=h.w6.dl _
  p1:=by rw[hfk];exact q1
  p2:=by rw[hfk];exact q2
  g1:=fun key j hj=>by
   obtain⟨h1,n,h2,h3⟩:=kw hI.w7.keys hj
   obtain⟨t,ht,hkf⟩:=h.g1 key j h1
   refine⟨t,mS hI.w3.keys ht fun n'=>?_,hkf⟩
   simp only[Bool.not_eq_true',decide_eq_false_iff_not]
   intro hfe
   have:=hkey j t ht hfe n
   rw[hkf]at this
   exact absurd (h3.symm.trans this) (by decide)
  g2:=fun j t ht=>by
   obtain⟨h1,n,h2,h3⟩:=kw hI.w3.keys ht
   refine mS hI.w7.keys (h.g2 j t h1) fun n'=>?_
   simp only[Bool.not_eq_true',decide_eq_false_iff_not]at h3
   simp only[Bool.not_eq_true',List.any_eq_false,Bool.and_eq_true,decide_eq_true_eq,not_and]
   intro d hd hdf hq
   have:t.feed=d.2.1.feed:=congrArg Prod.fst hq
   exact h3 (this.trans hdf)}
theorem PS.Nam.step{L:Leaf}(h:s.Nam)(hI:s.Inv)(e:Ev):(s.step L e).Nam:=by
 unfold PS.step
 split
 ·rename_i hok
  unfold PS.ok PS.fits at hok
  rw[Bool.and_eq_true]at hok
  obtain⟨hck,hf⟩:=hok
  unfold PS.aft PS.after
  by_cases k1:e.kind=1
  ·rw[if_pos k1]at hf
   simp only[Bool.and_eq_true,Bool.not_eq_true',decide_eq_true_eq,beq_iff_eq]at hf
   rw[if_neg (by omega),if_neg (by omega),if_neg (by omega),if_neg (by omega),if_neg (by omega),if_neg (by omega),if_neg (by omega),if_neg (by omega),if_neg (by omega),PS.make,if_pos k1,aM]
   have hn:=mT (fun j hj=>h.nm1 hI hj) hf.2
   obtain⟨q1,q2⟩:=ku (c:=s.c5) (c':=s.c1) (a:=(⟨e.a,e.b,e.s⟩:Fo)) (fun f:Fo=>(f.inn,f.name)) h.n1 h.n2 (bR hf.1.1.1.1) hn rfl
   exact {h with w5:=h.w5.up _ _,n1:=q1,n2:=q2}
  rw[if_neg k1]at hf
  by_cases k2:e.kind=2
  ·rw[if_pos k2]at hf ⊢
   simp only[Bool.and_eq_true,beq_iff_eq]at hf
   obtain⟨f,hfo⟩:=bp hf.1
   rw[hfo,aM]
   obtain⟨q1,q2⟩:=oI (fun f:Fo=>(f.inn,f.name)) h.w5.keys hI.w1.keys h.n1 h.n2 hfo
   exact {h with w5:=h.w5.dl _,n1:=q1,n2:=q2}
  rw[if_neg k2]at hf ⊢
  by_cases k3:e.kind=3
  ·rw[if_pos k3]at hf
   simp only[Bool.and_eq_true,Bool.not_eq_true',decide_eq_true_eq,beq_iff_eq]at hf
   rw[if_neg (by omega),if_neg (by omega),if_neg (by omega),if_neg (by omega),if_neg (by omega),if_neg (by omega),if_neg (by omega),if_neg (by omega),PS.make,if_neg (by omega),if_pos k3,aM]
   have hn:=mT (fun j hj=>h.pl1 hI hj) hf.2
   obtain⟨q1,q2⟩:=ku (c:=s.c6) (c':=s.c2) (a:=(⟨e.a,e.b,e.s,e.t⟩:Fe)) (fun f:Fe=>f.url) h.p1 h.p2 (bR hf.1.1.1) hn rfl
   exact {h with w6:=h.w6.up _ _,p1:=q1,p2:=q2}
  rw[if_neg k3]at hf
  by_cases k4:e.kind=4
  ·rw[if_pos (.inl k4)]at hf
   rw[if_pos k4]
   obtain⟨f,hfo⟩:=bp hf
   rw[hfo]
   exact h.unFe hI hfo
  rw[if_neg k4]
  by_cases k5:e.kind=5
  ·rw[if_pos (.inr k5)]at hf
   rw[if_pos k5]
   obtain⟨f,hfo⟩:=bp hf
   rw[hfo]
   obtain⟨q1,q2⟩:=fK (c:=s.c2) (a':= {f with title:=e.t}) (fun f:Fe=>f.url) h.p1 h.p2 hfo rfl
   exact {h with p1:=q1,p2:=q2}
  rw[if_neg (by omega)]at hf
  rw[if_neg k5]
  by_cases k6:e.kind=6
  ·rw[if_pos k6]at hf ⊢
   simp only[Bool.and_eq_true]at hf
   obtain⟨f,hfo⟩:=bp hf.1
   rw[hfo,aM,aM]
   obtain⟨q1,q2⟩:=fK (c:=s.c2) (a':= {f with inn:=e.b}) (fun f:Fe=>f.url) h.p1 h.p2 hfo rfl
   exact {h with p1:=q1,p2:=q2}
  rw[if_neg k6]at hf ⊢
  by_cases k7:e.kind=7
  ·rw[if_pos k7]at hf
   simp only[Bool.and_eq_true,Bool.not_eq_true',decide_eq_true_eq,beq_iff_eq]at hf
   rw[if_neg (by omega),if_neg (by omega),if_neg (by omega),if_neg (by omega),if_neg (by omega),PS.make,if_neg (by omega),if_neg (by omega),if_pos k7]
   have hn:=mT (fun j hj=>h.gu1 hI hj) hf.2
   obtain⟨q1,q2⟩:=ku (c:=s.c7) (c':=s.c3) (a:=(⟨e.a,e.b,e.n,e.s,e.t,e.u,false,false,[]⟩:It)) (fun t:It=>(t.feed,t.guid)) h.g1 h.g2 (bR hf.1.1.1) hn rfl
   exact {h with g1:=q1,g2:=q2}
  rw[if_neg k7]at hf
  by_cases k8:e.kind=8
  ·rw[if_pos (.inl k8)]at hf
   rw[if_pos k8]
   obtain⟨f,hfo⟩:=bp hf
   rw[hfo]
   obtain⟨q1,q2⟩:=fK (c:=s.c3) (a':= {f with read:=e.n==1}) (fun t:It=>(t.feed,t.guid)) h.g1 h.g2 hfo rfl
   exact {h with g1:=q1,g2:=q2}
  rw[if_neg k8]
  by_cases k9:e.kind=9
  ·rw[if_pos (.inr k9)]at hf
   rw[if_pos k9]
   obtain⟨f,hfo⟩:=bp hf
   rw[hfo]
   obtain⟨q1,q2⟩:=fK (c:=s.c3) (a':= {f with star:=e.n==1}) (fun t:It=>(t.feed,t.guid)) h.g1 h.g2 hfo rfl
   exact {h with g1:=q1,g2:=q2}
  rw[if_neg (by omega)]at hf
  rw[if_neg k9]
  by_cases k10:e.kind=10
  ·rw[if_pos k10]at hf ⊢
   simp only[Bool.and_eq_true,Bool.or_eq_true,decide_eq_true_eq]at hf
   obtain⟨f,hfo⟩:=bp hf.1
   rw[hfo]
   obtain⟨q1,q2⟩:=fK (c:=s.c3) (a':= {f with tags:=tgF f.tags e.s e.n}) (fun t:It=>(t.feed,t.guid)) h.g1 h.g2 hfo rfl
   exact {h with g1:=q1,g2:=q2}
  rw[if_neg k10]
  by_cases k12:e.kind=12
  ·rw[if_pos k12];exact {h with}
  rw[if_neg k12]
  by_cases k13:e.kind=13
  ·rw[if_pos k13];exact {h with}
  rw[if_neg k13,PS.make,if_neg k1,if_neg k3,if_neg k7]
  split
  ·exact {h with}
  ·exact h
 ·exact h
theorem PS.Nam.fold{L:Leaf}(h:s.Nam)(hI:s.Inv)(l:List Ev):(l.foldl (PS.step L) s).Nam:=by
 induction l generalizing s with
 |nil=>exact h
 |cons e l ih=>exact ih (h.step hI e) (hI.step e)
end Go.Av
namespace Go.Av
open Go Go.Proofs Go.RowKit
attribute [local irreducible] WP WPl WPix Sat
set_option pp.deepTerms true
set_option pp.maxSteps 200000
theorem nU{h:Heap}{p v len n m i:Nat}{b:Bool}{rows:List AVal}(hg:getRow h p v=some (m,n,rows))(hl:rows.length=len)(hi:i≤len):elemsOf h n (.hs p v i (len-i) b)=some (rows.drop i):=by
 simp only[elemsOf,hg,true_and]
 rw[if_pos (by omega),List.take_of_length_le (by rw[List.length_drop];omega)]
theorem iE{h:Heap}{p v len n m:Nat}{b:Bool}{rows:List AVal}(hg:getRow h p v=some (m,n,rows))(hl:rows.length=len):elemsOf h n (.hs p v 0 len b)=some rows:=by
 simp only[elemsOf,hg,true_and]
 rw[if_pos (by omega),List.drop_zero,List.take_of_length_le (by omega)]
theorem qd{P:Program}{h:Heap}{T e p v n m:Nat}{rows:List AVal}{k:IntKind}(he:elmT P T=some e)(hg:getRow h p v=some (m,n,rows))(hn:szOf P e=some n):
  aslice P h T (.hs p v 0 0 true) (some (.int k ((0:Nat):Int))) none none=some (.hs p v 0 0 true):=by
 simp[aslice,he,hg,hn,optInt]
variable (G:Nat→Option (List AVal))
end Go.Av
namespace Go.Av
open Go Go.Proofs Go.RowKit
attribute [local irreducible] WP WPl WPix Sat
variable (G:Nat→Option (List AVal))
end Go.Av
namespace Go.Av
open Go Go.Proofs Go.RowKit
variable {s:PS}
theorem gg{α:Type}{z:α}{l:ML Int α}{key:α→Int}(hid:∀k a,lkM l k=some a→key a=k)(id:Int):fnd key (valsM z l) id=lkM l id:=rF key hid id
theorem PS.Inv.fndFo(h:s.Inv)(id:Int):fnd (·.id) s.tell.fo id=lkM s.fo id:=gg (fun k a hk=>(h.i1 k a hk).1) id
theorem PS.Inv.fndFe(h:s.Inv)(id:Int):fnd (·.id) s.tell.fe id=lkM s.fe id:=gg (fun k a hk=>(h.i2 k a hk).1) id
theorem PS.Inv.fndIt(h:s.Inv)(id:Int):fnd (·.id) s.tell.it id=lkM s.it id:=gg (fun k a hk=>(h.i3 k a hk).1) id
theorem PS.Inv.fndSe(h:s.Inv)(id:Int):fnd (·.id) s.tell.se id=lkM s.se id:=gg (fun k a hk=>(h.i4 k a hk).1) id
theorem PS.Inv.hasT(h:s.Inv){id:Int}(hi:id=0∨(lkM s.fo id).isSome=true):s.tell.has id:=by
 rcases hi with hi|hi
 ·exact .inl hi
 ·obtain⟨f,hf⟩:=Option.isSome_iff_exists.1 hi
  exact .inr ⟨f,by rw[h.fndFo,hf]⟩
theorem PS.Inv.up(h:s.Inv):s.tell.Up where
 fo:=fun f hf=>by
  obtain⟨k,hk⟩:=aK hf
  exact h.hasT (h.u1 k f hk)
 fe:=fun f hf=>by
  obtain⟨k,hk⟩:=aK hf
  exact h.hasT (h.u2 k f hk)
 it:=fun t ht=>by
  obtain⟨k,hk⟩:=aK ht
  obtain⟨f,hf⟩:=Option.isSome_iff_exists.1 (h.u3 k t hk)
  exact⟨f,by rw[h.fndFe,hf]⟩
 l1:=by have:=aG (z:=Fo.z) s.fo;have:=h.l1;show(valsM Fo.z s.fo).length≤_;omega
 l2:=by have:=aG (z:=Fe.z) s.fe;have:=h.l2;show(valsM Fe.z s.fe).length≤_;omega
 l3:=by have:=aG (z:=It.z) s.it;have:=h.l3;show(valsM It.z s.it).length≤_;omega
 tg:=fun t ht=>by
  obtain⟨k,hk⟩:=aK ht
  exact(h.tg k t hk).2
end Go.Av
namespace Go.Av
open Go Go.Proofs Go.RowKit
attribute [local irreducible] WP WPl WPix Sat
variable (G:Nat→Option (List AVal))
def PS.step1(s:PS)(e:Ev):PS:=if s.fits true (s.dpt e.b) e then s.aft e else s
theorem kz{s:PS}{e:Ev}(h:L0.ck e=true):s.step L0 e=s.step1 e:=by unfold PS.step PS.step1 PS.ok;rw[h]
theorem lF{e:Ev}(h1:L0.right e=true)(h2:usedE e=e):L0.ck e=true:=by unfold Leaf.ck;rw[h1,h2];simp
section
variable {Y:Heap} {n m:Nat} {s:PS} {c:CS}
end
end Go.Av
namespace Go.Av
open Go Go.Proofs Go.RowKit
attribute [local irreducible] WP WPl WPix Sat
variable (G:Nat→Option (List AVal))
end Go.Av
