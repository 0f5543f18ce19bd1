/- Parts. -/
import Derived.Test.YtllhfnepgcbjnaaGreatMnNr
set_option linter.unusedSimpArgs false
set_option linter.unusedVariables false
set_option linter.unusedSectionVars false
set_option linter.unnecessarySimpa false
set_option maxRecDepth 100000
set_option maxHeartbeats 16000000
namespace Go.Av
open Go Go.Proofs Go.RowKit
section
theorem wM{l:List Int}(h:l.Nodup):(sortI l).Pairwise (· < ·):=by
 have h1:(sortI l).Pairwise fun a b=>decide (a≤b)=true:=List.pairwise_mergeSort (fun a b c h1 h2=>by simp at *;omega) (fun a b=>by simp;omega) l
 have h2:(sortI l).Nodup:=dI h;refine List.Pairwise.imp₂ (R:=fun a b=>decide (a≤b)=true) (S:=fun a b=>a≠b) (fun a b hab hne=>?_) h1 h2;simp at hab;omega
section
variable {α:Type} {z:α} {key:α→Int} {l:ML Int α} {c:Nat}
theorem dC(w:WFM l c)(hid:∀k a,lkM l k=some a→key a=k):((valsM z l).map key).Pairwise (· < ·):=by
 rw[gF w key hid];exact wM w.keys
theorem ue{L:List α}(h:(L.map key).Pairwise (· < ·)):L.Nodup:=by
 rw[List.pairwise_map]at h;exact h.imp fun hab he=>by rw[he]at hab;omega
theorem fB(w:WFM l c)(hid:∀k a,lkM l k=some a→key a=k){L:List α}(hs:(L.map key).Pairwise (· < ·))(hm:∀a,a∈L↔∃k,lkM l k=some a):valsM z l=L:=by
 have h0:=dC (z:=z) w hid;have hp:(valsM z l).Perm L:=(List.perm_ext_iff_of_nodup (ue h0) (ue hs)).2 fun a=>by
  rw[hm];exact⟨aN,fun⟨k,hk⟩=>bt hk⟩
 rw[List.pairwise_map]at h0 hs;exact List.Perm.eq_of_pairwise (fun a b _ _ h1 h2=>by omega) h0 hs hp
theorem uf(k:Int)(a:α)(b:α):(∃j,lkM (upM l c k a) j=some b)↔b=a∨∃j,j≠k∧lkM l j=some b:=by
 constructor
 ·rintro⟨j,hj⟩;rcases aP hj with⟨_,rfl⟩| ⟨h1,h2⟩
  ·exact .inl rfl
  ·exact .inr ⟨j,h1,h2⟩
 ·rintro(rfl| ⟨j,h1,h2⟩)
  ·exact⟨k,by rw[aI,M1 rfl]⟩
  ·exact⟨j,by rw[aI,L5 h1];exact h2⟩
theorem ug(L:List α)(id:Int):∀b∈L.take (insI key L id),key b<id:=by
 induction L with
 |nil=>intro b hb;simp at hb
 |cons a L ih=>
  unfold insI at ih ⊢;rw[zc4];split
  ·rename_i h;intro b hb;simp only[M8,R2,N2]at hb;rcases hb with rfl|hb
   ·simpa using h
   ·exact ih b hb
  ·intro b hb;simp at hb
theorem uh{L:List α}(hs:(L.map key).Pairwise (· < ·))(id:Int):∀b∈L.drop (insI key L id),id≤key b:=by
 induction L with
 |nil=>intro b hb;simp at hb
 |cons a L ih=>
  rw[N7,U1]at hs;have ih:=ih hs.2;unfold insI at ih ⊢;rw[zc4];split
  ·intro b hb;simp only[M8,Z4]at hb;exact ih b hb
  ·rename_i h;intro b hb;simp only[O7,Y3,N2]at hb;simp at h;rcases hb with rfl|hb
   ·exact h
   ·have:=hs.1 (key b) (N0.2 ⟨b,hb,rfl⟩);omega
theorem gK(w:WFM l c)(hid:∀k a,lkM l k=some a→key a=k){k:Int}{a:α}(hk:lkM l k=none)(ha:key a=k):
  valsM z (upM l c k a)=(valsM z l).take (insI key (valsM z l) k)++a::(valsM z l).drop (insI key (valsM z l) k):=by
 have h0:=dC (z:=z) w hid;have hne:∀b∈valsM z l,key b≠k:=fun b hb=>by
  obtain⟨j,hj⟩:=aN hb;rw[hid j b hj];rintro rfl;rw[hk]at hj;cases hj
 refine fB (key:=key) (c:=ckM l c k) (w.up _ _) (fun j b hj=>?_) ?_ fun b=>?_
 ·rcases aP hj with⟨rfl,rfl⟩| ⟨_,h⟩
  ·exact ha
  ·exact hid _ _ h
 ·rw[Q5,N7,List.pairwise_append,U1];have h1:((valsM z l).take (insI key (valsM z l) k)++(valsM z l).drop (insI key (valsM z l) k))=valsM z l:=X7 _ _;have h2:=h0;rw[← h1,Q5,List.pairwise_append]at h2;have hlt:∀b∈ (valsM z l).drop (insI key (valsM z l) k),k<key b:=fun b hb=>by
   have:=uh h0 k b hb;have:=hne b (List.mem_of_mem_drop hb);omega
  refine⟨h2.1,⟨fun q hq=>?_,h2.2.1⟩,fun q hq r hr=>?_⟩
  ·obtain⟨b,hb,rfl⟩:=N0.1 hq;rw[ha];exact hlt b hb
  ·obtain⟨b,hb,rfl⟩:=N0.1 hq;have hb2:=ug _ _ b hb;rcases N2.1 hr with rfl|hr
   ·rw[ha];exact hb2
   ·obtain⟨d,hd,rfl⟩:=N0.1 hr;have:=hlt d hd;omega
 ·rw[uf,T4,N2];have hm:∀b,b∈valsM z l↔b∈ (valsM z l).take (insI key (valsM z l) k)∨b∈ (valsM z l).drop (insI key (valsM z l) k):=fun b=>by rw[← T4,X7]
  constructor
  ·intro h;have:b=a∨b∈valsM z l:=by
    rcases h with h|h|h
    ·exact .inr ((hm b).2 (.inl h))
    ·exact .inl h
    ·exact .inr ((hm b).2 (.inr h))
   refine this.imp id fun h=>?_
   obtain⟨j,hj⟩:=aN h;exact⟨j,(by rintro rfl;rw[hk]at hj;cases hj),hj⟩
  ·rintro(h| ⟨j,_,hj⟩)
   ·exact .inr (.inl h)
   ·rcases(hm b).1 (bt hj)with h|h
    ·exact .inl h
    ·exact .inr (.inr h)
theorem pK{L:List α}(hs:(L.map key).Pairwise (· < ·)){i:Nat}{b:α}(hi:L[i]? =some b)(x:α):x∈L.take i++L.drop (i+1)↔x∈L∧key x≠key b:=by
 induction L generalizing i with
 |nil=>simp at hi
 |cons a L ih=>
  rw[N7,U1]at hs;cases i with
  |zero=>
   simp at hi;subst hi;simp only[S9,P3,Q9,Z4,Y3,N2];constructor
   ·intro h;exact⟨.inr h,by have:=hs.1 (key x) (N0.2 ⟨x,h,rfl⟩);omega⟩
   ·rintro⟨h|h,hne⟩
    ·exact(hne (by rw[h])).elim
    ·exact h
  |succ i=>
   have hi':L[i]? =some b:=(by simpa using hi);have hb:=N4 hi';have hab:=hs.1 (key b) (N0.2 ⟨b,hb,rfl⟩);simp only[R2,W4,Z4,N2];rw[ih hs.2 hi'];constructor
   ·rintro(h| ⟨h,hne⟩)
    ·exact⟨.inl h,by rw[h];omega⟩
    ·exact⟨.inr h,hne⟩
   ·rintro⟨h|h,hne⟩
    ·exact .inl h
    ·exact .inr ⟨h,hne⟩
theorem jz(w:WFM l c)(hid:∀k a,lkM l k=some a→key a=k){k:Int}{i:Nat}{b:α}(hi:(valsM z l)[i]? =some b)(hb:key b=k):
  valsM z (dlM l k)=(valsM z l).take i++(valsM z l).drop (i+1):=by
 have h0:=dC (z:=z) w hid;refine fB (key:=key) (c:=c) (w.dl _) (fun j b hj=>hid _ _ (da w.keys hj).2) ?_ fun x=>?_
 ·refine h0.sublist ?_;refine List.Sublist.map key ?_;rw[← List.eraseIdx_eq_take_drop_succ];exact List.eraseIdx_sublist _ _
 ·rw[pK h0 hi,hb];constructor
  ·rintro⟨h1,h2⟩;obtain⟨j,hj⟩:=aN h1;refine⟨j,?_⟩;rw[cK w.keys,L5 (by rintro rfl;exact h2 (hid _ _ hj))];exact hj
  ·rintro⟨j,hj⟩;obtain⟨h1,h2⟩:=da w.keys hj;exact⟨bt h2,by rw[hid _ _ h2];exact h1⟩
theorem ui{L:List α}{i:Nat}{b:α}(hi:L[i]? =some b)(a:α):L.set i a=L.take i++a::L.drop (i+1):=by
 rw[List.set_eq_take_append_cons_drop,M1 (f9.1 hi).1]
theorem fa(w:WFM l c)(hid:∀k a,lkM l k=some a→key a=k){k:Int}{i:Nat}{a b:α}(hi:(valsM z l)[i]? =some b)(hb:key b=k)(ha:key a=k):
  valsM z (upM l c k a)=(valsM z l).set i a:=by
 have h0:=dC (z:=z) w hid;refine fB (key:=key) (c:=ckM l c k) (w.up _ _) (fun j d hj=>?_) ?_ fun x=>?_
 ·rcases aP hj with⟨rfl,rfl⟩| ⟨_,h⟩
  ·exact ha
  ·exact hid _ _ h
 ·have:((valsM z l).set i a).map key=(valsM z l).map key:=by
   rw[zc3,ha, ← hb]
   apply U0
   intro q;rw[za4];split
   ·rename_i hq;subst hq;rw[N8,hi];simp[(f9.1 hi).1]
   ·rfl
  rw[this];exact h0
 ·rw[uf,ui hi,T4,N2];have hm:=pK h0 hi x;rw[T4,hb]at hm;constructor
  ·intro h;have:x=a∨(x∈valsM z l∧key x≠k):=by
    rcases h with h|h|h
    ·exact .inr (hm.1 (.inl h))
    ·exact .inl h
    ·exact .inr (hm.1 (.inr h))
   refine this.imp id fun⟨h1,h2⟩=>?_
   obtain⟨j,hj⟩:=aN h1;exact⟨j,by rintro rfl;exact h2 (hid _ _ hj),hj⟩
  ·rintro(h| ⟨j,h1,h2⟩)
   ·exact .inr (.inl h)
   ·rcases hm.2 ⟨bt h2,by rw[hid _ _ h2];exact h1⟩with h|h
    ·exact .inl h
    ·exact .inr (.inr h)
theorem wN(w:WFM l c)(hid:∀k a,lkM l k=some a→key a=k)(p:α→Bool):valsM z (l.filter fun e=>p e.2.1)=(valsM z l).filter p:=by
 have h0:=dC (z:=z) w hid;refine fB (key:=key) (c:=c) (w.filter _) (fun j b hj=>hid _ _ (g9 w.keys hj)) (h0.sublist (List.filter_sublist.map _)) fun x=>?_
 rw[T7];constructor
 ·rintro⟨h1,h2⟩;obtain⟨j,hj⟩:=aN h1;exact⟨j,nH w.keys hj fun n=>h2⟩
 ·rintro⟨j,hj⟩;obtain⟨h1,n,h2,h3⟩:=lk w.keys hj;exact⟨bt h1,h3⟩
end
def VK(l:List Ky)(s:PS):Prop:=Sk l∧∀k,k∈l↔∃id t,lkM s.it id=some t∧k=t.ky
theorem VK.uniq{l L:List Ky}{s:PS}(h:VK l s)(k:VK L s):l=L:=h.1.uniq k.1 fun x=>by rw[h.2,k.2]
theorem kC{s:PS}(h:s.Inv):(s.tell.it.map (·.id)).Nodup:=
 (dC (z:=It.z) h.w3 fun k a hk=>(h.i3 k a hk).1).imp fun hab e=>by omega
theorem VK.new{s:PS}(h:s.Inv):VK (srtK (s.tell.it.map It.ky)) s:=by
 have hd:((s.tell.it.map It.ky).map (·.i)).Nodup:=by
  rw[V0];exact kC h
 refine⟨jn hd,fun k=>?_⟩;rw[gy hd,N0];constructor
 ·rintro⟨t,ht,rfl⟩;obtain⟨id,hid⟩:=aN (z:=It.z) ht;exact⟨id,t,hid,rfl⟩
 ·rintro⟨id,t,ht,rfl⟩;exact⟨t,bt (z:=It.z) ht,rfl⟩
theorem VK.len{l:List Ky}{s:PS}(h:s.Inv)(k:VK l s):l.length≤1024:=by
 rw[k.uniq (VK.new h)];have e:(srtK (s.tell.it.map It.ky)).length=s.tell.it.length:=by unfold srtK;rw[fp];simp
 rw[e];have:=aJ (z:=It.z) s.it;have:=h.l3;show(valsM It.z s.it).length≤1024;omega
theorem VK.same{l:List Ky}{s s':PS}(k:VK l s)(h:∀id,(lkM s'.it id).map It.ky=(lkM s.it id).map It.ky):VK l s':=by
 refine⟨k.1,fun x=>?_⟩;rw[k.2];have e:∀{a b:PS},(∀id,(lkM a.it id).map It.ky=(lkM b.it id).map It.ky)→(∃id t,lkM a.it id=some t∧x=t.ky)→∃id t,lkM b.it id=some t∧x=t.ky:=by
  rintro a b hab ⟨id,t,ht,rfl⟩;have:=hab id;rw[ht]at this;obtain⟨t',ht',he⟩:=N1.1 this.symm;exact⟨id,t',ht',he.symm⟩
 exact⟨e fun id=>(h id).symm,e h⟩
theorem VK.up{l:List Ky}{s s':PS}(k:VK l s){id:Int}{c:Nat}{t:It}(h:s'.it=upM s.it c id t)(hs:(lkM s.it id).isSome=true)(ht:t.ky=((lkM s.it id).getD It.z).ky):VK l s':=by
 refine k.same fun x=>?_
 rw[h,aI];split
 ·rename_i e;subst e;obtain⟨a,ha⟩:=N3.1 hs;rw[ha]at ht ⊢;simpa using ht
 ·rfl
theorem VK.step{l:List Ky}{s:PS}(h:s.Inv)(k:VK l s)(e:Ev)(hok:s.ok L0 e=true):
  VK (VStepF l e ((lkM (s.aft e).it e.a).getD It.z) (lkM (s.aft e).it e.a).isSome) (s.aft e):=by
 have hit:=tZ s e;have hf:=hok;unfold PS.ok PS.fits at hf;rw[L7]at hf;have hf:=hf.2;unfold VStepF;by_cases k7:e.kind=7
 ·rw[M1 k7];rw[L5 (by omega),M1 k7]at hit;rw[L5 (by omega),L5 (by omega),L5 (by omega),L5 (by omega),L5 (by omega),M1 k7]at hf;simp only[L7,P0]at hf;have hn:=bY hf.1.1.1;have hl:lkM (s.aft e).it e.a=some ⟨e.a,e.b,e.n,e.s,e.t,e.u,false,false,[]⟩:=by rw[hit,aI,M1 rfl]
  rw[hl];simp only[Q8,Option.isSome_some,if_true];refine⟨mV k.1 fun x hx=>?_,fun x=>?_⟩
  ·obtain⟨id,t,ht,rfl⟩:=(k.2 x).1 hx;have h1:=(h.i3 id t ht).1;show t.id≠e.a;rw[h1];intro e2;rw[e2,hn]at ht;cases ht
  ·rw[jl,k.2,hit];constructor
   ·rintro(rfl| ⟨id,t,ht,rfl⟩)
    ·exact⟨e.a,_,by rw[aI,M1 rfl],rfl⟩
    ·refine⟨id,t,?_,rfl⟩;rw[aI,L5 (fun e2=>by rw[e2,hn]at ht;cases ht)];exact ht
   ·rintro⟨id,t,ht,rfl⟩;rcases aP ht with⟨rfl,rfl⟩| ⟨_,ht⟩
    ·exact .inl rfl
    ·exact .inr ⟨id,t,ht,rfl⟩
 rw[L5 k7];by_cases k4:e.kind=4
 ·rw[M1 k4];rw[M1 k4]at hit;rw[L5 (by omega),L5 (by omega),L5 (by omega),M1 (.inl k4)]at hf;obtain⟨f,hfe⟩:=N3.1 hf;have hid:((lkM s.fe e.a).getD Fe.z).id=e.a:=by rw[hfe];exact(h.i2 _ _ hfe).1
  rw[hid]at hit;refine⟨k.1.fil _,fun x=>?_⟩;rw[T7,k.2,hit];unfold itF;constructor
  ·rintro⟨⟨id,t,ht,rfl⟩,hx⟩;refine⟨id,t,?_,rfl⟩;rw[lQ h.w3.keys (fun t=> !decide (t.feed=e.a)),ht];exact Option.filter_some.trans (by rw[M1];exact hx)
  ·rintro⟨id,t,ht,rfl⟩;rw[lQ h.w3.keys (fun t=> !decide (t.feed=e.a))]at ht;obtain⟨h1,h2⟩:=Option.filter_eq_some_iff.1 ht;exact⟨⟨id,t,h1,rfl⟩,h2⟩
 rw[L5 k4];rw[L5 k4,L5 k7]at hit;by_cases k8:e.kind=8
 ·rw[M1 k8]at hit;rw[L5 (by omega),L5 (by omega),L5 (by omega),L5 (by omega),L5 (by omega),L5 (by omega),M1 (.inl k8)]at hf;exact k.up hit hf rfl
 rw[L5 k8]at hit;by_cases k9:e.kind=9
 ·rw[M1 k9]at hit;rw[L5 (by omega),L5 (by omega),L5 (by omega),L5 (by omega),L5 (by omega),L5 (by omega),M1 (.inr k9)]at hf;exact k.up hit hf rfl
 rw[L5 k9]at hit;by_cases k10:e.kind=10
 ·rw[M1 k10]at hit;rw[L5 (by omega),L5 (by omega),L5 (by omega),L5 (by omega),L5 (by omega),L5 (by omega),L5 (by omega),M1 k10,L7]at hf;exact k.up hit hf.1 rfl
 rw[L5 k10]at hit;exact k.same fun id=>by rw[hit]
end
section
attribute [local irreducible] WP WPl WPix Sat
def ptI(l:List It)(t:It):List It:=l.take (pst (l.map It.ky) t.ky)++t::l.drop (pst (l.map It.ky) t.ky)
theorem uj(l:List It)(t:It):(ptI l t).map It.ky=insK (l.map It.ky) t.ky:=by
 unfold ptI insK;simp[X3,Z5]
theorem wO(l:List It)(acc:List It):(l.foldl ptI acc).map It.ky=(l.map It.ky).foldl insK (acc.map It.ky):=by
 induction l generalizing acc with
 |nil=>rfl
 |cons x l ih=>rw[za8,ih,uj];rfl
theorem iQ(l:List It)(t:It):(ptI l t).length=l.length+1:=by
 have:=P9 List.length (uj l t);rw[jm]at this;simpa using this
theorem yb{l:List It}{t x:It}(h:x∈ptI l t):x=t∨x∈l:=by
 unfold ptI at h;rw[T4,N2]at h;rcases h with h|h|h
 ·exact .inr (zb7 h)
 ·exact .inl h
 ·exact .inr (List.mem_of_mem_drop h)
theorem uk{l acc:List It}{x:It}(h:x∈l.foldl ptI acc):x∈acc∨x∈l:=by
 induction l generalizing acc with
 |nil=>exact .inl h
 |cons y l ih=>
  rcases ih h with h|h
  ·rcases yb h with rfl|h
   ·exact .inr (by simp)
   ·exact .inl h
  ·exact .inr (by simp[h])
theorem nJ{l:List Ky}{k:Ky}:∀{a:Nat},a≤l.length→(∀b∈l.take a,ahd b k=true)→(∀b,l[a]? =some b→ahd b k=false)→pos27 l k=a:=by
 induction l with
 |nil=>intro a ha _ _;simp at ha;subst ha;rfl
 |cons x l ih=>
  intro a ha h1 h2;cases a with
  |zero=>unfold pos27;rw[h2 x rfl];rfl
  |succ a=>
   unfold pos27;rw[h1 x (by simp),ih (by simpa using ha) (fun b hb=>h1 b (by simp[hb])) (fun b hb=>h2 b (by simpa using hb))];rfl
variable (G:Nat→Option (List AVal))
theorem ew(a b:It)(h:Heap):Sat (CT G) 36 [a.av,b.av] h (fun r h'=>r=.bool (ahd a.ky b.ky)∧h'=h):=by
 have e:ahd a.ky b.ky=(decide (b.date<a.date)||(decide (a.date=b.date)&&decide (a.id<b.id))):=rfl;rw[e];by_cases c1:b.date<a.date
 ·have d1:decide (a.date>b.date)=true:=by simp;omega
  have F:=d1;refine sb [.tmp 4] Tryz.func36 ?_;intro Q hQ;refine wk F ?_;refine ee hQ F ?_;exact L6 (.bool _) ⟨rfl,rfl⟩
 ·have d1:decide (a.date>b.date)=false:=by simp;omega
  by_cases c2:a.date=b.date
  ·have d2:(a.date==b.date)=true:=(by simp[c2]);have F:=F2 d1 d2;refine sb [.tmp 4] Tryz.func36 ?_;intro Q hQ;refine wk F ?_;refine ee hQ F ?_;exact L6 (.bool _) ⟨by simp[c2],rfl⟩
  ·have d2:(a.date==b.date)=false:=(by simp[c2]);have F:=F2 d1 d2;refine sb [.tmp 4] Tryz.func36 ?_;intro Q hQ;refine wk F ?_;refine ee hQ F ?_;exact L6 (.bool _) ⟨by simp[c2],rfl⟩
theorem s8(l:List It)(hd:(l.map (·.id)).Nodup)(hl:l.length≤100000)(h:Heap):Sat (CT G) 69 [.sl 9 (l.map It.av)] h (fun r h'=>r=.sl 1 (((srtK (l.map It.ky)).map (·.i)).map iA)∧h'=h):=by
 have hel:(l.map It.av).length=l.length:=L8 ..;have F:=hel;refine sb [.tmp 2] Tryz.func69 ?_;intro Q hQ;refine wk F ?_;refine lm (fun nL tL hL=>∃(i p v:Nat) (hh:Heap) (acc:List It),l.length-i=nL∧hh=hL∧tL 3=.hs p v 0 acc.length true∧tL 4=.int .i64 i∧i≤l.length∧acc=(l.take i).foldl ptI []∧acc.length=i∧getRow hh p v=some (69,9,acc.map It.av)∧(FrN h.length h hh∧h.length≤p)) ((fun(i p v:Nat) (hh:Heap) (acc:List It)=>(l.length-i:Nat)) (0) (h.length) (0) (h++[.row 69 9 0 []]) ([])) ?_ ?_
 ·refine⟨_,_,Z2 3 69 9 (by simp) (by omega) (by exact zq F),⟨0,h.length,0,h++[.row 69 9 0 []],[],rfl,aw,?_,?_,by omega,by simp,by simp,by rw[aH _ rfl];rfl,⟨Y0 _ (by omega) (X4 _ _),by omega⟩⟩⟩;all_goals try exact zZz F
 rintro _ s2 h' ⟨i,p,v,hh,acc,rfl,rfl,e3,e4,hi,hac,hal,hg,hfr⟩ K2 hK2;simp only[ai,ak,Nat.reduceEqDiff, ↓reduceIte]at e3 e4;have F:=F3 F e3 e4;have hgl:=aT hg;have hacl:(acc.map It.av).length=acc.length:=L8 ..;have F:=F3 F hg @hacl;try refine sq F ?_
 refine wk F ?_;refine cq F (fun c1=>?_) (fun c1=>?_)<;>(try exact c1.elim)<;>(refine wk F ?_)
 ·have c2:i<l.length:=by omega
  obtain⟨y,hy,hym⟩:=ac c2;have F:=F3 F c2 hy;try refine sq F ?_
  refine wk F ?_;refine lm (fun nL tL hL=>∃(a:Nat),acc.length-a=nL∧[]++hh=hL∧tL 5=.int .i64 a∧a≤acc.length∧(∀b∈acc.take a,ahd b.ky y.ky=true)) ((fun(a:Nat)=>(acc.length-a:Nat)) (0)) ?_ ?_
  ·refine M0 ⟨0,rfl,rfl,?_,by omega,by simp⟩;all_goals try exact zZz F
  rintro _ s4 h' ⟨a,rfl,rfl,e5,ha,hlt⟩ K4 hK4;simp only[ai,ak,Nat.reduceEqDiff, ↓reduceIte]at e5;have F:=F2 F e5;rw[P3];have hdis:∀t∈acc,t.ky.i≠y.ky.i:=fun t ht=>by
   rw[hac]at ht;rcases uk ht with ht|ht
   ·simp at ht
   ·obtain⟨q,hq⟩:=Q4 ht;have hql:=(f9.1 hq).1;rw[N9]at hql;rw[N5 (by omega)]at hq;intro e;have:=(List.getElem?_inj (i:=q) (j:=i) (l:=l.map (·.id)) (by rw[L8];omega) hd).1 (by rw[N8,N8,hq,hy];exact P9 some e);omega
  by_cases c5:a<acc.length
  ·obtain⟨b,hb,_⟩:=ac c5;have dt:∀i:Decidable True, @decide True i=true:=fun i=>O4 trivial
   have F:=F4 F hb c5 dt;(try refine sq F ?_);refine wk F ?_;refine au (ew G b y _) ?_;(try refine sq F ?_);refine wk F ?_;cases hbl:ahd b.ky y.ky with
   |true=>
    have hlt1:∀b∈acc.take (a+1),ahd b.ky y.ky=true:=by
     rw[O3,hb];intro z hz;simp at hz;rcases hz with hz|rfl
     ·exact hlt z hz
     ·exact hbl
    have F:=F2 F hbl;(try refine sq F ?_);refine wk F ?_;refine hK4 _ _ _ (M0 ⟨a+1,rfl,rfl,?_,by omega,hlt1⟩) (by omega);all_goals try exact zZz F
   |false=>
    have hat:∀b,acc[a]? =some b→ahd b.ky y.ky=false:=fun b' hb'=>by rw[hb]at hb';cases hb';exact hbl
    have hsl:∃z,aslice Tryz.prog hh 37 (.hs p v 0 acc.length true) (some (.int .i64 (a:Int))) none none=some z∧elemsOf hh 9 z=some ((acc.map It.av).drop a):=
     ⟨_,qm (P:=Tryz.prog) (T:=37) (k:=.i64) (len:=acc.length) (i:=a) (by simp only[go_sem];try rfl) hg (by simp only[go_sem];try rfl) c5,oG (b:=true) (i:=a) hg hacl (by omega)⟩
    have F:=F2 F hbl;(try refine sq F ?_);refine wk F ?_;have hpp:pst (acc.map It.ky) y.ky=a:=(mW fun x hx=>by obtain⟨t,ht,rfl⟩:=N0.1 hx;exact hdis t ht).symm.trans (nJ (by rw[L8];omega) (fun b hb=>by rw[← X3]at hb;obtain⟨t,ht,rfl⟩:=N0.1 hb;exact hlt t ht)
     (fun b hb=>by rw[N8]at hb;obtain⟨t,ht,rfl⟩:=N1.1 hb;exact hat t ht))
    have hpt:ptI acc y=acc.take a++y::acc.drop a:=(by unfold ptI;rw[hpp]);have hac2:ptI acc y=(l.take (i+1)).foldl ptI []:=(by rw[O3,hy,zc0, ← hac];rfl);obtain⟨z,hz1,hz2⟩:=hsl;have F:=F2 (F9 hel e3 e4 hg @hacl c2 hy e5 hb) (F4 c5 dt hbl hz1);(try refine sq F ?_);refine wk F ?_;refine aL (n0:=hh.length) (.ez _ _ _ _) (M2 _) ?_ (hy:=hz2);intro v1 h1 L1 f1 g1;have hg3:getRow h1 p v=some (69,9,acc.map It.av):=(f1.row hgl).trans hg;have hgl1:=aT hg3;have lc:=L1.cel;have ll:=L1.lie;have hsl2:=jR (P:=Tryz.prog) (T:=37) (off:=0) (len:=acc.length) (room:=true) (k:=.i64) (k':=.i64) (r:=a) (by simp only[go_sem];try rfl) hg3 (by simp only[go_sem];try rfl) (by omega);have F:=F5 F hg3 hsl2 lc ll
    skip
    (try refine sq F ?_);refine wn F ?_;refine aA 11 [9] [true,true,true,true,true,true,true,true,true,false,true] (.one 9 [] .fin) (by decide+kernel) (by kernel_rfl) (by decide+kernel) ?_;simp only[aD,aE,aC];(try refine sq F ?_);repeat' ((first|refine ae ?_|refine af ?_|refine ah ?_ ?_)<;>try refine sq F ?_)
    (all_goals try refine wn F ?_);refine mR (.inl rfl) (by simp(disch:=first|omega| (simp only[go_sem, ↓reduceIte,seval];first|done|omega)|fail) only[go_sem, ↓reduceIte,seval,F];try rfl) (by simp(disch:=first|omega| (simp only[go_sem, ↓reduceIte,seval];first|done|omega)|fail) only[go_sem, ↓reduceIte,seval,F];try rfl) (by simp(disch:=first|omega| (simp only[go_sem, ↓reduceIte,seval];first|done|omega)|fail) only[go_sem, ↓reduceIte,seval,F];try rfl) (by simp(disch:=first|omega| (simp only[go_sem, ↓reduceIte,seval];first|done|omega)|fail) only[go_sem, ↓reduceIte,seval,F];try rfl) (by omega) (by simp only[elemsOf, ↓reduceIte];rfl) hg3 (by simp;try omega) (by simp) ⟨by simp[maxLen];try omega,by simp;try omega⟩ ?_;(try refine sq F ?_);repeat' ((first|refine ae ?_|refine af ?_|refine ah ?_ ?_)<;>try refine sq F ?_)
    (all_goals try refine wn F ?_);have hg5:getRow (h1++[.row 69 9 0 ((acc.map It.av).take a++[y.av])]) h1.length 0=some (69,9,(acc.map It.av).take a++[y.av]):=(by rw[aH _ rfl];rfl);have hyE:=(L1.old (H':=h1++[Blk.row 69 9 0 ((acc.map It.av).take a++[y.av])]) (Y0 _ (M2 _) (X4 _ _))).elems;refine bB (.inl rfl) (by simp(disch:=first|omega| (simp only[go_sem, ↓reduceIte,seval];first|done|omega)|fail) only[go_sem, ↓reduceIte,seval,F];try rfl) (by simp(disch:=first|omega| (simp only[go_sem, ↓reduceIte,seval];first|done|omega)|fail) only[go_sem, ↓reduceIte,seval,F];try rfl) (by simp(disch:=first|omega| (simp only[go_sem, ↓reduceIte,seval];first|done|omega)|fail) only[go_sem, ↓reduceIte,seval,F];try rfl) (by simp(disch:=first|omega| (simp only[go_sem, ↓reduceIte,seval];first|done|omega)|fail) only[go_sem, ↓reduceIte,seval,F];try rfl) (by omega) hyE hg5 (by simp;try omega) ⟨by simp[maxLen];try omega,by simp;try omega⟩ ?_;have hrw:(acc.map It.av).take a++[y.av]++(acc.map It.av).drop a=(ptI acc y).map It.av:=(by rw[hpt];simp);have hL:(ptI acc y).length=a+1+(acc.length-a):=(by rw[iQ];omega);have hdl:((acc.map It.av).drop a).length=acc.length-a:=(by simp);have hg6:getRow (h1++[.row 69 9 1 ((ptI acc y).map It.av)]) h1.length 1=some (69,9,(ptI acc y).map It.av):=(by rw[aH _ rfl];rfl);have F:=F3 F hL hdl;(try refine sq F ?_);refine wn F ?_;refine hK2 _ _ _ (M0 ⟨i+1,h1.length,1,h1++[Blk.row 69 9 1 ((ptI acc y).map It.av)],ptI acc y,rfl,by rw[← hrw];simp[It.av],?_,?_,by omega,hac2,by rw[iQ];omega,hg6,⟨Y0 _ (by omega) (Z9 hfr.1 (f1.less (by omega))),by omega⟩⟩) (by omega);all_goals try exact zZz F
  ·have d5:decide (a<acc.length)=false:=(by simp;omega);have hae:a=acc.length:=(by omega);have hat:∀b,acc[a]? =some b→ahd b.ky y.ky=false:=fun b' hb'=>by rw[Q7 (by omega)]at hb';cases hb'
   have hsl:∃z,aslice Tryz.prog hh 37 (.hs p v 0 acc.length true) (some (.int .i64 (a:Int))) none none=some z∧elemsOf hh 9 z=some ((acc.map It.av).drop a):=by
    rw[R3 (by omega)];by_cases ha0:a=0
    ·have hl0:acc.length=0:=(by omega);subst ha0;rw[hl0];exact⟨_,rD (by simp only[go_sem];try rfl) hg (by simp only[go_sem];try rfl),by rw[ja hg (by rw[hacl,hl0])];rw[U4.1 hl0];rfl⟩
    ·exact⟨_,gx (by simp only[go_sem];try rfl) hg (by simp only[go_sem];try rfl) hae (by omega),rfl⟩
   skip
   have F:=F2 F d5;(try refine sq F ?_);refine wk F ?_;have hpp:pst (acc.map It.ky) y.ky=a:=(mW fun x hx=>by obtain⟨t,ht,rfl⟩:=N0.1 hx;exact hdis t ht).symm.trans (nJ (by rw[L8];omega) (fun b hb=>by rw[← X3]at hb;obtain⟨t,ht,rfl⟩:=N0.1 hb;exact hlt t ht)
    (fun b hb=>by rw[N8]at hb;obtain⟨t,ht,rfl⟩:=N1.1 hb;exact hat t ht))
   have hpt:ptI acc y=acc.take a++y::acc.drop a:=(by unfold ptI;rw[hpp]);have hac2:ptI acc y=(l.take (i+1)).foldl ptI []:=(by rw[O3,hy,zc0, ← hac];rfl);obtain⟨z,hz1,hz2⟩:=hsl;have F:=F2 F hz1;(try refine sq F ?_);refine wk F ?_;refine aL (n0:=hh.length) (.ez _ _ _ _) (M2 _) ?_ (hy:=hz2);intro v1 h1 L1 f1 g1;have hg3:getRow h1 p v=some (69,9,acc.map It.av):=(f1.row hgl).trans hg;have hgl1:=aT hg3;have lc:=L1.cel;have ll:=L1.lie;have hsl2:=jR (P:=Tryz.prog) (T:=37) (off:=0) (len:=acc.length) (room:=true) (k:=.i64) (k':=.i64) (r:=a) (by simp only[go_sem];try rfl) hg3 (by simp only[go_sem];try rfl) (by omega);have F:=F5 F hg3 hsl2 lc ll
   skip
   (try refine sq F ?_);refine wn F ?_;refine aA 11 [9] [true,true,true,true,true,true,true,true,true,false,true] (.one 9 [] .fin) (by decide+kernel) (by kernel_rfl) (by decide+kernel) ?_;simp only[aD,aE,aC];(try refine sq F ?_);repeat' ((first|refine ae ?_|refine af ?_|refine ah ?_ ?_)<;>try refine sq F ?_)
   (all_goals try refine wn F ?_);refine mR (.inl rfl) (by simp(disch:=first|omega| (simp only[go_sem, ↓reduceIte,seval];first|done|omega)|fail) only[go_sem, ↓reduceIte,seval,F];try rfl) (by simp(disch:=first|omega| (simp only[go_sem, ↓reduceIte,seval];first|done|omega)|fail) only[go_sem, ↓reduceIte,seval,F];try rfl) (by simp(disch:=first|omega| (simp only[go_sem, ↓reduceIte,seval];first|done|omega)|fail) only[go_sem, ↓reduceIte,seval,F];try rfl) (by simp(disch:=first|omega| (simp only[go_sem, ↓reduceIte,seval];first|done|omega)|fail) only[go_sem, ↓reduceIte,seval,F];try rfl) (by omega) (by simp only[elemsOf, ↓reduceIte];rfl) hg3 (by simp;try omega) (by simp) ⟨by simp[maxLen];try omega,by simp;try omega⟩ ?_;(try refine sq F ?_);repeat' ((first|refine ae ?_|refine af ?_|refine ah ?_ ?_)<;>try refine sq F ?_)
   (all_goals try refine wn F ?_);have hg5:getRow (h1++[.row 69 9 0 ((acc.map It.av).take a++[y.av])]) h1.length 0=some (69,9,(acc.map It.av).take a++[y.av]):=(by rw[aH _ rfl];rfl);have hyE:=(L1.old (H':=h1++[Blk.row 69 9 0 ((acc.map It.av).take a++[y.av])]) (Y0 _ (M2 _) (X4 _ _))).elems;refine bB (.inl rfl) (by simp(disch:=first|omega| (simp only[go_sem, ↓reduceIte,seval];first|done|omega)|fail) only[go_sem, ↓reduceIte,seval,F];try rfl) (by simp(disch:=first|omega| (simp only[go_sem, ↓reduceIte,seval];first|done|omega)|fail) only[go_sem, ↓reduceIte,seval,F];try rfl) (by simp(disch:=first|omega| (simp only[go_sem, ↓reduceIte,seval];first|done|omega)|fail) only[go_sem, ↓reduceIte,seval,F];try rfl) (by simp(disch:=first|omega| (simp only[go_sem, ↓reduceIte,seval];first|done|omega)|fail) only[go_sem, ↓reduceIte,seval,F];try rfl) (by omega) hyE hg5 (by simp;try omega) ⟨by simp[maxLen];try omega,by simp;try omega⟩ ?_;have hrw:(acc.map It.av).take a++[y.av]++(acc.map It.av).drop a=(ptI acc y).map It.av:=(by rw[hpt];simp);have hL:(ptI acc y).length=a+1+(acc.length-a):=(by rw[iQ];omega);have hdl:((acc.map It.av).drop a).length=acc.length-a:=(by simp);have hg6:getRow (h1++[.row 69 9 1 ((ptI acc y).map It.av)]) h1.length 1=some (69,9,(ptI acc y).map It.av):=(by rw[aH _ rfl];rfl);have F:=F3 F hL hdl;(try refine sq F ?_);refine wn F ?_;refine hK2 _ _ _ (M0 ⟨i+1,h1.length,1,h1++[Blk.row 69 9 1 ((ptI acc y).map It.av)],ptI acc y,rfl,by rw[← hrw];simp[It.av],?_,?_,by omega,hac2,by rw[iQ];omega,hg6,⟨Y0 _ (by omega) (Z9 hfr.1 (f1.less (by omega))),by omega⟩⟩) (by omega);all_goals try exact zZz F
 ·rw[M4 (by omega)]at hac;obtain⟨hfr,hfp⟩:=hfr;obtain⟨j0,rfl⟩:=hfr.behind (by omega);have hky:acc.map It.ky=srtK (l.map It.ky):=by rw[hac,wO];rfl
  skip
  refine lm (fun nL tL hL=>∃(k w:Nat) (out:List Int),acc.length-k=nL∧(h++j0)++[.row 3 1 w (out.map iA)]=hL∧tL 7=.hs (h++j0).length w 0 out.length true∧tL 8=.int .i64 k∧k≤acc.length∧out.length=k∧out++(acc.drop k).map (·.id)=acc.map (·.id)) ((fun(k w:Nat) (out:List Int)=>(acc.length-k:Nat)) (0) (0) ([])) ?_ ?_
  ·refine⟨_,_,Z2 7 3 1 (by simp) (by omega) (by exact zq F),⟨0,0,[],rfl,aw,?_,?_,by omega,rfl,by simp⟩⟩;all_goals try exact zZz F
  rintro _ s5 h' ⟨k,w,out,rfl,rfl,e7,e8,hk,hol,hop⟩ K5 hK5;simp only[ai,ak,Nat.reduceEqDiff, ↓reduceIte]at e7 e8;have F:=F3 F e7 e8;have hg9:getRow ((h++j0)++[Blk.row 3 1 w (out.map iA)]) p v=some (69,9,acc.map It.av):=by rw[aU _ hgl];exact hg
  rw[P2]at hg9;have F:=F2 F hg9;try refine sq F ?_
  refine wk F ?_;refine cq F (fun c7=>?_) (fun c7=>?_)<;>(try exact c7.elim)<;>(refine wk F ?_)
  ·have c8:k<acc.length:=(by omega);obtain⟨y,hy,_⟩:=ac c8;rw[aF hy,N7]at hop;have F:=F4 F hy c8 @ax;(try refine sq F ?_);refine wk F ?_;refine aq F ?_;(try refine sq F ?_);refine wk F ?_;refine hK5 _ _ _ (M0 ⟨k+1,w+1,out++[y.id],rfl,by simp[iA],?_,?_,by omega,by simp;omega,by rw[← hop];simp⟩) (by omega);all_goals try exact zZz F
  ·rw[aG (by omega),R9,O2]at hop;have hres:(srtK (l.map It.ky)).map (·.i)=out:=(by rw[hop, ← hky,V0];rfl);have hgo:getRow ((h++j0)++[Blk.row 3 1 w (out.map iA)]) (h++j0).length w=some (3,1,out.map iA):=(by rw[aH _ rfl];simp[getRow]);rw[P2,M5]at hgo;refine ee hQ F ?_;rw[hres];refine Fin.frz (za1 (by simp) hgo (by simp) (fun r hr=>?_) (fun r hr=>?_)) ⟨rfl,rfl⟩
   ·obtain⟨a,_,rfl⟩:=N0.1 hr;exact .int _ _
   ·obtain⟨a,_,rfl⟩:=N0.1 hr;intro c hc;simp[AVal.cells,iA]at hc;subst hc;rfl
end
section
attribute [local irreducible] WP WPl WPix Sat
def rkI(l:List Int)(id:Int):Int:=match l.findIdx? (fun x=>decide (x=id))with
 |some k=>(k:Int)+1
 |none=>0
theorem zO(l:List Ky)(id:Int):ixK (fun k=>decide (k.i=id)) l+1=rkI (l.map (·.i)) id:=by
 unfold ixK rkI;have e:(l.map (·.i)).findIdx? (fun x=>decide (x=id))=l.findIdx? (fun k=>decide (k.i=id)):=by rw[List.findIdx?_map];rfl
 rw[e];cases l.findIdx? (fun k=>decide (k.i=id))<;>rfl
theorem wP(N:Nat)(l:List Int):Clo N (.sl 1 (l.map iA)):=Clo.sl _ _ fun x hx=>by obtain⟨y,_,rfl⟩:=N0.1 hx;exact .int _ _
variable (G:Nat→Option (List AVal))
theorem lW(a b:List Int)(ha:a.length≤1000000)(hb:b.length≤1000000)(h:Heap):Sat (CT G) 20 [.sl 1 (a.map iA),.sl 1 (b.map iA)] h (fun r h'=>r=.bool (decide (a=b))∧h'=h):=by
 have hal:(a.map iA).length=a.length:=L8 ..;have hbl:(b.map iA).length=b.length:=L8 ..;by_cases hlen:a.length=b.length
 ·have hne:((a.length:Int) != (b.length:Int))=false:=by simp[hlen]
  have F:=F3 hal hbl hne;refine sb [.tmp 4] Tryz.func20 ?_;intro Q hQ;refine wk F ?_;refine lm (fun nL tL hL=>∃(k:Nat),a.length-k=nL∧h=hL∧tL 5=.int .i64 k∧k≤a.length∧a.take k=b.take k) ((fun(k:Nat)=>(a.length-k:Nat)) (0)) ?_ ?_
  ·refine M0 ⟨0,rfl,aw,?_,by omega,rfl⟩;all_goals try exact zZz F
  rintro _ s2 h' ⟨k,rfl,rfl,e5,hk,hp⟩ K2 hK2;simp only[ai,ak,Nat.reduceEqDiff, ↓reduceIte]at e5;have F:=F2 F e5;refine wk F ?_;refine cq F (fun c1=>?_) (fun c1=>?_)<;>(try exact c1.elim)<;>(refine wk F ?_)
  ·have c2:k<a.length:=(by omega);have c3:k<b.length:=(by omega);obtain⟨x,hx,_⟩:=ac c2;obtain⟨y,hy,_⟩:=ac c3;have F:=F5 F hx hy c2 c3;(try refine sq F ?_);refine wk F ?_;refine cq F (fun c4=>?_) (fun c4=>?_)<;>(try exact c4.elim)<;>(refine wk F ?_)
   ·have e:a≠b:=(by rintro rfl;rw[hx]at hy;cases hy;exact c4 rfl);refine ee hQ (F8 hal hbl hne e5 hx hy c2 c3) ?_;exact O5 (.bool _) ⟨by rw[O0 e],rfl⟩
   ·have hp1:a.take (k+1)=b.take (k+1):=(by rw[O3,O3,hx,hy,hp,c4]);refine hK2 _ _ _ (M0 ⟨k+1,rfl,aw,?_,by omega,hp1⟩) (by omega);all_goals try exact zZz F
  ·have e:a=b:=by
    have:=hp
    rwa [M4 (by omega),M4 (by omega)]at this
   refine ee hQ F ?_;exact O5 (.bool _) ⟨by rw[O4 e],rfl⟩
 ·have hne:((a.length:Int) != (b.length:Int))=true:=by simp;omega
  have e:a≠b:=by rintro rfl;exact hlen rfl
  have F:=F3 hal hbl hne;refine sb [.tmp 4] Tryz.func20 ?_;intro Q hQ;refine wk F ?_;refine ee hQ F ?_;exact O5 (.bool _) ⟨by rw[O0 e],rfl⟩
end
section
attribute [local irreducible] WP WPl WPix Sat
abbrev qL(op:Int):AVal:=.agg [.int .i64 op,.int .i64 0,.str [],.sl 4 []]
variable (G:Nat→Option (List AVal))
theorem s9(op:Int)(h:Heap):Sat (CT G) 96 [qL op,.int .i64 1] h (fun r h'=>r=.int .i64 1∧h'=h):=by
 have df:∀i:Decidable False, @decide False i=false:=fun i=>by simp
 have F:=df;refine sb [.tmp 4] Tryz.func96 ?_;intro Q hQ;refine wk F ?_;refine lm (fun nL tL hL=>∃(k:Nat),0-k=nL∧h++[.row 25 4 0 [qL op]]=hL∧tL 15=.int .i64 k∧tL 5=.int .i64 1∧k≤0) ((fun(k:Nat)=>(0-k:Nat)) (0)) ?_ ?_
 ·refine M0 ⟨0,rfl,aw,?_,?_,M2 0⟩;all_goals try exact zZz F
 rintro _ s2 h' ⟨k,rfl,rfl,e15,e5,hk⟩ K2 hK2;simp only[ai,ak,Nat.reduceEqDiff, ↓reduceIte]at e15 e5;have F:=F3 F e15 e5;refine wk F ?_;refine cq F (fun c1=>?_) (fun c1=>?_)<;>(try exact c1.elim)<;>(refine wk F ?_)
 ·exact absurd c1 (by omega)
 refine ee hQ F ?_;exact L6 (.int _ _) ⟨rfl,rfl⟩
theorem nK(op:Int)(h:Heap):Sat (CT G) 58 [qL op] h (fun r h'=>r=.int .i64 1∧h'=h):=by
 refine sb [.tmp 2] Tryz.func58 ?_;intro Q hQ;refine wk trivial ?_;refine kq trivial (s9 G op _) ?_;refine ee hQ trivial ?_;exact L6 (.int _ _) ⟨rfl,rfl⟩
theorem kD(op:Int)(h:Heap):Sat (CT G) 59 [qL op] h (fun r h'=>r=.int .i64 1∧h'=h):=by
 refine sb [.tmp 2] Tryz.func59 ?_;intro Q hQ;refine wk trivial ?_;refine lm (fun nL tL hL=>∃(k:Nat),0-k=nL∧h++[.row 25 4 0 [qL op]]=hL∧tL 9=.int .i64 k∧tL 3=.int .i64 1∧k≤0) ((fun(k:Nat)=>(0-k:Nat)) (0)) ?_ ?_
 ·refine M0 ⟨0,rfl,aw,?_,?_,M2 0⟩;all_goals try exact zZz trivial
 rintro _ s2 h' ⟨k,rfl,rfl,e9,e3,hk⟩ K2 hK2;simp only[ai,ak,Nat.reduceEqDiff, ↓reduceIte]at e9 e3;have F:=F2 e9 e3;refine wk F ?_;refine cq F (fun c1=>?_) (fun c1=>?_)<;>(try exact c1.elim)<;>(refine wk F ?_)
 ·exact absurd c1 (by omega)
 refine ee hQ F ?_;exact L6 (.int _ _) ⟨rfl,rfl⟩
theorem yc(f:AVal)(h:Heap):Sat (CT G) 135 [.sl 4 [],f] h (fun r h'=>r=.int .i64 (-1)∧h'=h):=by
 have df:∀i:Decidable False, @decide False i=false:=fun i=>by simp
 have F:=df;refine sb [.tmp 4] Tryz.func135 ?_;intro Q hQ;refine wk F ?_;refine lm (fun nL tL hL=>∃(k:Nat),0-k=nL∧h=hL∧tL 8=.int .i64 k∧k≤0) ((fun(k:Nat)=>(0-k:Nat)) (0)) ?_ ?_
 ·refine M0 ⟨0,rfl,aw,?_,M2 0⟩;all_goals try exact zZz F
 rintro _ s2 h' ⟨k,rfl,rfl,e8,hk⟩ K2 hK2;simp only[ai,ak,Nat.reduceEqDiff, ↓reduceIte]at e8;have F:=F2 F e8;refine wk F ?_;refine cq F (fun c1=>?_) (fun c1=>?_)<;>(try exact c1.elim)<;>(refine wk F ?_)
 ·exact absurd c1 (by omega)
 refine ee hQ F ?_;exact O5 (.int _ _) ⟨rfl,rfl⟩
theorem wQ(f:AVal)(h:Heap):Sat (CT G) 100 [.sl 4 [],f] h (fun r h'=>r=.bool false∧h'=h):=by
 have df:∀i:Decidable False, @decide False i=false:=fun i=>by simp
 have F:=df;refine sb [.tmp 4] Tryz.func100 ?_;intro Q hQ;refine wk F ?_;refine kq F (yc G f _) ?_;refine ee hQ F ?_;exact O5 (.bool _) ⟨rfl,rfl⟩
theorem wR(h:Heap):Sat (CT G) 97 [qL 1] h (fun r h'=>r=.bool true∧h'=h):=by
 refine sb [.tmp 2] Tryz.func97 ?_;intro Q hQ;refine wk trivial ?_;refine ee hQ trivial ?_;exact L6 (.bool _) ⟨rfl,rfl⟩
theorem ul(h:Heap):Sat (CT G) 98 [qL 1] h (fun r h'=>r=.bool true∧h'=h):=by
 refine sb [.tmp 2] Tryz.func98 ?_;intro Q hQ;refine wk trivial ?_;refine ee hQ trivial ?_;exact L6 (.bool _) ⟨rfl,rfl⟩
theorem um(h:Heap):Sat (CT G) 99 [qL 1] h (fun r h'=>r=.bool true∧h'=h):=by
 refine sb [.tmp 2] Tryz.func99 ?_;intro Q hQ;refine wk trivial ?_;refine ee hQ trivial ?_;exact L6 (.bool _) ⟨rfl,rfl⟩
theorem sf(h:Heap):Sat (CT G) 60 [qL 1] h (fun r h'=>r=.bool true∧h'=h):=by
 have df:∀i:Decidable False, @decide False i=false:=fun i=>by simp
 have F:=df;refine sb [.tmp 2] Tryz.func60 ?_;intro Q hQ;refine wk F ?_;refine kq F (wR G _) ?_;refine kq F (ul G _) ?_;refine kq F (um G _) ?_;refine kq F (wQ G _ _) ?_;refine ee hQ F ?_;exact L6 (.bool _) ⟨rfl,rfl⟩
theorem oT(h:Heap):Sat (CT G) 60 [qL 0] h (fun r h'=>r=.bool false∧h'=h):=by
 have df:∀i:Decidable False, @decide False i=false:=fun i=>by simp
 have dt:∀i:Decidable True, @decide True i=true:=fun i=>by simp
 have F:=F2 df dt;refine sb [.tmp 2] Tryz.func60 ?_;intro Q hQ;refine wk F ?_;refine ee hQ F ?_;exact L6 (.bool _) ⟨rfl,rfl⟩
theorem eA(h:Heap):Sat (CT G) 27 [qL 1] h (fun r h'=>r=.int .i64 0∧h'=h):=by
 have df:∀i:Decidable False, @decide False i=false:=fun i=>by simp
 have F:=df;refine sb [.tmp 2] Tryz.func27 ?_;intro Q hQ;refine wk F ?_;refine kq F (nK G _ _) ?_;refine kq F (kD G _ _) ?_;refine kq F (sf G _) ?_;refine ee hQ F ?_;exact L6 (.int _ _) ⟨rfl,rfl⟩
theorem oU(h:Heap):Sat (CT G) 27 [qL 0] h (fun r h'=>r=.int .i64 250∧h'=h):=by
 have df:∀i:Decidable False, @decide False i=false:=fun i=>by simp
 have F:=df;refine sb [.tmp 2] Tryz.func27 ?_;intro Q hQ;refine wk F ?_;refine kq F (nK G _ _) ?_;refine kq F (kD G _ _) ?_;refine kq F (oT G _) ?_;refine ee hQ F ?_;exact L6 (.int _ _) ⟨rfl,rfl⟩
end
section
attribute [local irreducible] WP WPl WPix Sat
variable (G:Nat→Option (List AVal))
theorem yd(p:Nat)(h:Heap)(hp:p<h.length):Sat (CT G) 64 [.hp p 0 0 0] h (fun r h'=>r=.hp (h.length+1) 0 0 0∧∃j,h'=h++j∧j.length=2):=by
 refine sb [.tmp 2] Tryz.func64 ?_;intro Q hQ;refine wk trivial ?_;refine ee hQ trivial ?_;refine za0 (by simp) (.hp _ _ _ _ (by simp)) ⟨rfl,_,rfl,rfl⟩
theorem wT(p:Nat)(t:It)(h:Heap):Sat (CT G) 65 [.hp p 0 0 0,qL 1,t.av] h (fun r h'=>r=.bool true∧h'=h):=by
 have dt:∀i:Decidable True, @decide True i=true:=fun i=>by simp
 have F:=dt;refine sb [.tmp 6] Tryz.func65 ?_;intro Q hQ;refine wk F ?_;refine ee hQ F ?_;exact L6 (.bool _) ⟨rfl,rfl⟩
theorem iR{C:Ctx}{ops:Array Oper}{dst:Option Nat}{op:Op}{ty:TypeId}{pos:String}{aft:Array Edge}{t:Env}{h:Heap}{K:AVal→Heap→Prop}{j d:Nat}{want:Bool}(hd:(ops[j]?).bind (·.dst)=some d)(ht:t d=.bool want)
  (g:wpOperV C ops ⟨dst,op,ty,pos,aft,none⟩ t h K):wpOperV C ops ⟨dst,op,ty,pos,aft,some (j,want)⟩ t h K:=by
 have e:guardA ops t j=some (some want):=by unfold guardA;rw[hd];simp only[ht]
 unfold wpOperV;simp only[e];exact⟨fun _=>g,fun h=>absurd rfl h⟩
theorem uo(p:Nat)(t:It)(b:Bool)(id:Int)(h:Heap)(hp:p<h.length)
  (hI:Sat (CT G) 43 [.hp p 0 0 0,.int .i64 id] (h++[.row 25 4 0 [qL 1]]) (fun r h'=>r=.tup [t.av,.bool b]∧h'=h++[.row 25 4 0 [qL 1]])):
  Sat (CT G) 30 [.hp p 0 0 0,qL 1,.int .i64 id] h (fun r h'=>r=.bool b∧h'=h):=by
 cases b with
 |false=>
  skip
  refine sb [.tmp 6] Tryz.func30 ?_;intro Q hQ;refine wn trivial ?_;refine kn trivial (hI) ?_;refine dw (by decide+kernel) (lg G) ?_;refine sq trivial ?_;refine wn trivial ?_
  skip
  refine ee hQ trivial ?_;exact L6 (.bool _) ⟨rfl,rfl⟩
 |true=>
  skip
  refine sb [.tmp 6] Tryz.func30 ?_;intro Q hQ;refine wn trivial ?_;refine kn trivial (hI) ?_;refine aA 12 [8,11] [true,true,true,true,true,true,true,true,false,true,true,false] (.one 8 [false,false,false,false,false,false,false,false,false,true,true] (.one 11 [] .fin)) (by decide+kernel) (by kernel_rfl) (by decide+kernel) ?_;simp only[aD,aE,aC];try refine sq trivial ?_
  repeat' ((first|refine ae ?_|refine af ?_|refine ah ?_ ?_)<;>try refine sq trivial ?_)
  all_goals try refine wn trivial ?_
  refine au (eA G _) ?_;try refine sq trivial ?_
  refine wn trivial ?_;repeat' ((first|refine ae ?_|refine af ?_|refine ah ?_ ?_)<;>try refine sq trivial ?_)
  all_goals try refine wn trivial ?_
  refine iR rfl (by exact zq trivial) ?_;simp(disch:=first|omega| (simp only[go_sem, ↓reduceIte,seval];first|done|omega)|fail) only[go_sem, ↓reduceIte,seval];refine(yd G p _ (by simp;omega)).mono ?_;rintro r h' ⟨rfl,j,rfl,hj⟩;have F:= @ax;refine⟨by simp(disch:=first|omega| (simp only[go_sem, ↓reduceIte,seval];first|done|omega)|fail) only[go_sem, ↓reduceIte,seval,F],?_⟩;repeat' ((first|refine ae ?_|refine af ?_|refine ah ?_ ?_)<;>try refine sq F ?_)
  all_goals try refine wn F ?_
  refine iR rfl (by exact zq F) ?_;simp(disch:=first|omega| (simp only[go_sem, ↓reduceIte,seval];first|done|omega)|fail) only[go_sem, ↓reduceIte,seval,F];refine(wT G _ t _).mono ?_;rintro r h' ⟨rfl,rfl⟩;repeat' ((first|refine ae ?_|refine af ?_|refine ah ?_ ?_)<;>try refine sq F ?_)
  all_goals try refine wn F ?_
  refine ee hQ F ?_;exact L6 (.bool _) ⟨rfl,rfl⟩
end
section
attribute [local irreducible] WP WPl WPix Sat
def sv(Y:Heap)(n:Nat)(s:PS)(m v:Nat)(l:List Ky):Heap:=so (vo Y m v l) n s
section
variable {Y:Heap} {n m v:Nat} {s:PS} {l:List Ky}
theorem bL(hn:n+9≤m)(hm:m+2≤Y.length):sv Y n s m v l=vo (so Y n s) m v l:=p8 (bs:=s.bl n) (cs:=vb m v l) (by show n+9≤Y.length;omega) hm (.inl hn)
@[go_sem] theorem iz(hn:n+9≤m)(hm:m+2≤Y.length)(j:Heap):sv Y n s m v l++j=sv (Y++j) n s m v l:=by
 unfold sv;rw[aQ (by rw[aW hm];omega),fV hm]
@[go_sem] theorem uq(hn:n+9≤m)(hm:m+2≤Y.length):(sv Y n s m v l).length=Y.length:=by
 unfold sv;rw[aM (by rw[aW hm];omega),aW hm]
@[go_sem] theorem zP(hn:n+9≤m)(hm:m+2≤Y.length){p:Nat}(u:Nat)(hp:m+2≤p):getRow (sv Y n s m v l) p u=getRow Y p u:=by
 unfold sv;rw[bM (by rw[aW hm];omega) u (by omega),eD hm u hp]
@[go_sem] theorem JG(hn:n+9≤m)(hm:m+2≤Y.length){p:Nat}(b:Blk)(hp:m+2≤p):(sv Y n s m v l).set p b=sv (Y.set p b) n s m v l:=by
 unfold sv;rw[pc (by rw[aW hm];omega) b (by omega),eE hm b hp]
@[go_sem] theorem ur(hn:n+9≤m)(hm:m+2≤Y.length):abin Tryz.prog (sv Y n s m v l) .eql 31 (.hp (n+8) 0 0 0) (.nil (.pointer none))=some (.bool false):=by
 unfold sv;exact zb (by rw[aW hm];omega)
@[go_sem] theorem JH(hn:n+9≤m)(hm:m+2≤Y.length):abin Tryz.prog (sv Y n s m v l) .eql 33 (.hp m 0 0 0) (.nil (.pointer none))=some (.bool false):=by
 rw[bL hn hm];exact ze (by rw[aM (by omega)];exact hm)
theorem zQ(hn:n+9≤m){h j:Heap}(hm:m+2≤(h++j).length)(hh:h.length≤n):∃j',sv (h++j) n s m v l=h++j':=by
 refine⟨(sv (h++j) n s m v l).drop h.length,?_⟩;have hl:=uq (s:=s) (v:=v) (l:=l) hn hm
 apply U0
 intro p;by_cases hp:p<h.length
 ·rw[M6 hp];unfold sv so vo;rw[ic (by show n+9≤_;rw[bj hm];omega) (.inl (by omega)),ic hm (.inl (by omega)),M6 hp]
 ·rw[M9 (by omega),P4];congr 1;omega
theorem kE{h:Heap}{R:AVal→Heap→Prop}{b:Bool}(hn:n+9≤m)(hm:m+2≤Y.length)(hp:∃j,Y=h++j)(hh:h.length≤n)(hR:R (.bool b) h):Fin h (sv Y n s m v l) R (.bool b):=by
 obtain⟨j,rfl⟩:=hp;obtain⟨j',he⟩:=zQ (s:=s) (v:=v) (l:=l) hn hm hh;rw[he];exact Fin.plainE (j:=j') rfl (.bool _) hR
end
variable (G:Nat→Option (List AVal))
section
variable {Y:Heap} {n m v:Nat} {s:PS} {l:List Ky}
theorem yf(h:s.Inv)(e:Ev)(hn:n+9≤m)(hm:m+2≤Y.length):Sat (CT G) 18 [.hp (n+8) 0 0 0,e.av] (sv Y n s m v l) (fun r h'=>r=.bool (s.ok L0 e)∧h'=sv Y n (s.step L0 e) m v l):=
 ki G s h e (by rw[aW hm];omega)
theorem ut(h:s.Inv)(id:Int)(hn:n+9≤m)(hm:m+2≤Y.length):Sat (CT G) 43 [.hp (n+8) 0 0 0,.int .i64 id] (sv Y n s m v l) (fun r h'=>r=.tup [((lkM s.it id).getD It.z).av,.bool (lkM s.it id).isSome]∧h'=sv Y n s m v l):=
 jX G s id (by have:=(h.tags id).2;omega) (by rw[aW hm];omega)
theorem x9(h:s.Inv){H:Heap}{n:Nat}(hn:n+9≤H.length):Sat (CT G) 8 [.hp (n+8) 0 0 0] (so H n s) (fun r h'=>r=.hp H.length 0 0 0∧h'=sv (H++vb H.length 0 []) n s H.length s.tell.it.length (srtK (s.tell.it.map It.ky))):=by
 have h0:=vy G s.tell (.hp (n+8) 0 0 0) (so H n s) (fun j=>by
  rw[aQ hn];exact jY G s h.toOk (by simp;omega)) (by have:=aJ (z:=It.z) s.it;have:=h.l3;show(valsM It.z s.it).length≤_;omega) (kC h)
 rw[aM hn]at h0;refine h0.mono ?_;rintro r h' ⟨h1,h2⟩;refine⟨h1,?_⟩;have e:=mZ (so H n s) s.tell.it.length 0 (srtK (s.tell.it.map It.ky)) [];rw[aM hn]at e;rw[h2, ← e,bL hn (by simp[vb]),aQ hn]
theorem zR{s:PS}(hk:VK l s)(h:s.Inv)(e:Ev)(hok:s.ok L0 e=true)(hn:n+9≤m)(hm:m+2≤Y.length):Sat (CT G) 19 [.hp m 0 0 0,.hp (n+8) 0 0 0,e.av] (sv Y n (s.aft e) m v l)
  (fun r h'=>r=.tup []∧∃u L,VK L (s.aft e)∧h'=sv Y n (s.aft e) m u L):=by
 have hI:(s.aft e).Inv:=by have:=h.step (L:=L0) e;unfold PS.step at this;rw[M1 hok]at this;exact this
 have hl:=hk.len h;rw[bL hn hm];refine(sX G (H:=so Y n (s.aft e)) (v:=v) hk.1 (by omega) e (.hp (n+8) 0 0 0) ((lkM (s.aft e).it e.a).getD It.z) (lkM (s.aft e).it e.a).isSome (by rw[aM (by omega)];exact hm) (fun _ j=>?_)).mono ?_
 ·rw[aQ (by omega), ← bL hn (by simp;omega)];exact ut G hI e.a hn (by simp;omega)
 ·rintro r h' ⟨h1,u,h2⟩;exact⟨h1,u,_,hk.step h e hok,by rw[h2,bL hn hm]⟩
theorem uu(h:s.Inv)(id:Int)(hn:n+9≤m)(hm:m+2≤Y.length):Sat (CT G) 30 [.hp (n+8) 0 0 0,qL 1,.int .i64 id] (sv Y n s m v l) (fun r h'=>r=.bool (lkM s.it id).isSome∧h'=sv Y n s m v l):=
 uo G (n+8) _ _ id _ (by rw[uq hn hm];omega) (by rw[iz hn hm];exact ut G h id hn (by simp;omega))
theorem Cd(hl:l.length≤1048576)(hn:n+9≤m)(hm:m+2≤Y.length):Sat (CT G) 21 [.hp m 0 0 0] (sv Y n s m v l) (fun r h'=>r=.sl 1 ((l.map (·.i)).map iA)∧h'=sv Y n s m v l):=by
 rw[bL hn hm];exact vr G hl (by rw[aM (by omega)];exact hm)
theorem uv(hl:l.length≤1048576)(id:Int)(hn:n+9≤m)(hm:m+2≤Y.length):Sat (CT G) 22 [.hp m 0 0 0,.int .i64 id] (sv Y n s m v l) (fun r h'=>r=.int .i64 (rkI (l.map (·.i)) id)∧h'=sv Y n s m v l):=by
 rw[bL hn hm, ← zO];exact sU G hl id (by rw[aM (by omega)];exact hm)
end
end
section
attribute [local irreducible] WP WPl WPix Sat SatY
structure Cu where
 d:Int
 i:Int
 set:Bool
def Cu.av(c:Cu):AVal:=.agg [.int .i64 c.d,.int .i64 c.i,.bool c.set]
@[go_sem] theorem Cu.av_eq(c:Cu):c.av=.agg [.int .i64 c.d,.int .i64 c.i,.bool c.set]:=(rfl)
def fromK(l:List Ky)(c:Cu):Nat:=if c.set then pst l ⟨c.d,c.i,0⟩else 0
theorem nM(l:List Ky)(c:Cu):fromK l c≤l.length:=by unfold fromK;split;exact io l _;omega
abbrev qA(op num:Int)(s:Bs)(ks:List AVal):AVal:=.agg [.int .i64 op,.int .i64 num,.str s,.sl 4 ks]
def bhB(n:Nat)(sp qv:AVal)(c:Cu)(k:Nat):List Blk:=[.row 33 1 0 [.hp n 0 0 0],.row 31 1 0 [sp],.row 25 4 0 [qv],.row 27 3 0 [c.av],.row 3 1 0 [.int .i64 k]]
theorem kF{P:Program}{h:Heap}{T e p v len n m i:Nat}{rows:List AVal}{k:IntKind}(he:elmT P T=some e)(hg:getRow h p v=some (m,n,rows))(hn:szOf P e=some n)(hi:i<len∨i=0):
  aslice P h T (.hs p v 0 len true) (some (.int k (i:Int))) none none=some (.hs p v i (len-i) true):=by
 simp only[aslice,he,hg,hn,if_true,optInt];rw[M1 ⟨by omega,by omega,by omega,by omega⟩];simp
variable (G:Nat→Option (List AVal))
section
variable {l:List Ky} {H:Heap} {n v:Nat}
theorem sg(hs:Sk l)(hl:l.length≤1048576)(c:Cu)(p:Nat)(hp:p<H.length)(op num:Int)(s:Bs)(ks:List AVal)(hn:n+2≤H.length):
  Sat (CT G) 28 [.hp n 0 0 0,.hp p 0 0 0,qA op num s ks,c.av] (vo H n v l)
   (fun r h'=>r=.fn (.func 61) [] [.hp H.length 0 0 0,.hp (H.length+4) 0 0 0,.hp (H.length+1) 0 0 0,.hp (H.length+2) 0 0 0]∧h'=vo (H++bhB n (.hp p 0 0 0) (qA op num s ks) c (fromK l c)) n v l):=by
 have clo:∀N,H.length+5≤N→Clo N (.fn (.func 61) [] [.hp H.length 0 0 0,.hp (H.length+4) 0 0 0,.hp (H.length+1) 0 0 0,.hp (H.length+2) 0 0 0]):=fun N hN=>.fn _ _ _ (fun x hx=>by simp at hx) fun x hx=>by
  simp only[N2,P7,or_false]at hx;rcases hx with rfl|rfl|rfl|rfl<;>exact .hp _ _ _ _ (by omega)
 obtain⟨d,i,st⟩:=c;cases st with
 |false=>
  have hf:fromK l ⟨d,i,false⟩=0:=rfl;have F:= @ax;refine sb [.tmp 8] Tryz.func28 ?_;intro Q hQ;refine wk F ?_;refine ee hQ F ?_;exact za0 (by rw[aW hn,aW (by simp;omega)];simp) (clo _ (by rw[aW (by simp;omega)];simp)) ⟨rfl,by rw[hf];rfl⟩
 |true=>
  have hf:fromK l ⟨d,i,true⟩=pst l ⟨d,i,0⟩:=rfl;have hP:=jo G (v:=v) (n:=n) hs hl ⟨d,i,0⟩ (H:=H++[Blk.row 33 1 0 [.hp n 0 0 0],.row 31 1 0 [.hp p 0 0 0],.row 25 4 0 [qA op num s ks],.row 27 3 0 [.agg [.int .i64 d,.int .i64 i,.bool true]],.row 3 1 0 [.int .i64 0]]) (by simp;omega);have F:= @ax;refine sb [.tmp 8] Tryz.func28 ?_;intro Q hQ;refine wk F ?_;refine kq F (hP) ?_;refine ee hQ F ?_;exact za0 (by rw[aW hn,aW (by simp;omega)];simp) (clo _ (by rw[aW (by simp;omega)];simp)) ⟨rfl,by rw[hf];rfl⟩
theorem yg(hl:l.length≤1048576)(bel:Int→Bool)(N yl q b0 p:Nat)(op num:Int)(s:Bs)(ks:List AVal)(B Bs:List Ky→Heap→Heap)(fr:Nat)(hfr:fr≤l.length)
  (hB:∀pre j j',B pre j++j'=B pre (j++j'))(hBl:∀pre j,(B pre j).length=b0+j.length)(hBsl:∀pre j,(Bs pre j).length=b0+j.length)(hb0:q+5≤b0)(hq:n+2≤q)
  (hr0:∀pre j,getRow (B pre j) q 0=some (33,1,[.hp n 0 0 0]))(hr1:∀pre j,getRow (B pre j) (q+1) 0=some (31,1,[.hp p 0 0 0]))(hr2:∀pre j,getRow (B pre j) (q+2) 0=some (25,4,[qA op num s ks]))(hr4:∀pre j,getRow (B pre j) (q+4) 0=some (3,1,[.int .i64 fr]))
  (hE:∀pre j id,Sat (CT G) 30 [.hp p 0 0 0,qA op num s ks,.int .i64 id] (vo (B pre j) n v l) (fun r h'=>r=.bool (bel id)∧h'=vo (B pre j) n v l))
  (hY:∀pre j y,pre.length≤N→SatY (CT G) yl [y.av] (vo (B pre j) n v l) (fun r h'=>∃j',j.length≤j'.length∧((pre.length<N∧r=.bool true∧h'=vo (B (pre++[y]) j') n v l)∨(pre.length=N∧r=.bool false∧h'=vo (Bs pre j') n v l))))(j0:Heap):
  Sat (CT G) 61 [.fn (.yield yl) [] [],.hp q 0 0 0,.hp (q+4) 0 0 0,.hp (q+1) 0 0 0,.hp (q+2) 0 0 0] (vo (B [] j0) n v l)
   (fun _ h'=>∃j,(((l.drop fr).filter fun k=>bel k.i).length≤N∧h'=vo (B ((l.drop fr).filter fun k=>bel k.i) j) n v l)∨(N<((l.drop fr).filter fun k=>bel k.i).length∧h'=vo (Bs (((l.drop fr).filter fun k=>bel k.i).take N) j) n v l)):=by
 have ct:∀N,Clo N (.tup []):=fun N=>.tup _ (fun x hx=>by simp at hx)
 have hn:∀pre j,n+2≤(B pre j).length:=fun pre j=>by rw[hBl];omega
 have hn':∀pre j (x:Blk),n+2≤(B pre j++[x]).length:=fun pre j x=>by rw[M5,hBl];omega
 have hns:∀pre j,n+2≤(Bs pre j).length:=fun pre j=>by rw[hBsl];omega
 have hnA:=hn [] j0;have v0:=hr0 [] j0;have v4:=hr4 [] j0;by_cases h0:fr=l.length∧0<fr
 ·have hd:l.drop fr=[]:=by rw[h0.1,List.drop_length]
  have hsl:=gx (P:=Tryz.prog) (T:=63) (k:=.i64) (len:=l.length) (i:=fr) (by simp only[go_sem];try rfl) (bX (l:=l) (v:=v) hnA) (by simp only[go_sem];try rfl) h0.1 h0.2;have F:=F3 v0 v4 hsl;refine sb [] Tryz.func61 ?_;intro Q hQ;refine wk F ?_;refine lm (fun nL tL hL=>∃(k:Nat),0-k=nL∧vo (B [] j0) n v l=hL∧tL 15=.int .i64 k∧k≤0) ((fun(k:Nat)=>(0-k:Nat)) (0)) ?_ ?_
  ·refine M0 ⟨0,rfl,aw,?_,M2 0⟩;all_goals try exact zZz F
  rintro _ s2 h' ⟨k,rfl,rfl,e15,hk⟩ K2 hK2;simp only[ai,ak,Nat.reduceEqDiff, ↓reduceIte]at e15;have F:=F2 F e15;refine wk F ?_;refine cq F (fun c1=>?_) (fun c1=>?_)<;>(try exact c1.elim)<;>(refine wk F ?_)
  ·exact absurd c1 (by omega)
  refine ee hQ F ?_;exact za0 (M2 _) (ct _) ⟨j0,.inl (by rw[hd];exact⟨Y4 _,rfl⟩)⟩
 have hlt:fr<l.length∨fr=0:=by omega
 have hsl:=kF (P:=Tryz.prog) (T:=63) (k:=.i64) (len:=l.length) (i:=fr) (by simp only[go_sem];try rfl) (bX (l:=l) (v:=v) hnA) (by simp only[go_sem];try rfl) hlt;have F:=F3 v0 v4 hsl;refine sb [] Tryz.func61 ?_;intro Q hQ;refine wk F ?_;refine lm (fun nL tL hL=>∃(k:Nat) (j:Heap),l.length-fr-k=nL∧vo (B (((l.drop fr).take k).filter fun k=>bel k.i) j) n v l=hL∧tL 15=.int .i64 k∧k≤l.length-fr∧j0.length≤j.length∧(((l.drop fr).take k).filter fun k=>bel k.i).length≤N) ((fun(k:Nat) (j:Heap)=>(l.length-fr-k:Nat)) (0) (j0)) ?_ ?_
 ·refine M0 ⟨0,j0,rfl,aw,?_,by omega,by omega,by simp⟩;all_goals try exact zZz F
 rintro _ s2 h' ⟨k,j,rfl,rfl,e15,hk,hj,hp⟩ K2 hK2;simp only[ai,ak,Nat.reduceEqDiff, ↓reduceIte]at e15;have F:=F2 F e15;refine wk F ?_;refine cq F (fun c1=>?_) (fun c1=>?_)<;>(try exact c1.elim)<;>(refine wk F ?_)
 ·have c2:fr+k<l.length:=by omega
  have c3:k<l.length-fr:=by omega
  obtain⟨y,hy,hym⟩:=ac c2;have hyd:(l.drop fr)[k]? =some y:=by rw[P4];exact hy
  have hfl:(((l.drop fr).take (k+1)).filter fun k=>bel k.i)=(((l.drop fr).take k).filter fun k=>bel k.i)++if bel y.i then [y]else []:=by
   rw[O3,hyd,Option.toList_some,U7,S8,List.filter_nil]
  have hwh:bel y.i=true→((l.drop fr).filter fun k=>bel k.i)=(((l.drop fr).take k).filter fun k=>bel k.i)++y::(((l.drop fr).drop (k+1)).filter fun k=>bel k.i):=fun hb=>by
   have e1:((l.drop fr).filter fun k=>bel k.i)=(((l.drop fr).take (k+1)++(l.drop fr).drop (k+1)).filter fun k=>bel k.i):=(by rw[X7]);rw[e1,U7,hfl,M1 hb,P2];rfl
  generalize (((l.drop fr).take k).filter fun k=>bel k.i)=pre at hp hfl hwh ⊢;have hE1:=hE pre (j++[.row 78 3 0 [y.av]]) y.i;have hY1:=hY pre (j++[.row 78 3 0 [y.av]]) y hp;have hb1:∀p,p<b0→∀u x,getRow (B pre j++[x]) p u=getRow (B pre j) p u:=fun p hp u x=>aU _ (by rw[hBl];omega)
  have g1:getRow (B pre j++[.row 78 3 0 [y.av]]) (q+1) 0=some (31,1,[.hp p 0 0 0]):=by rw[hb1 _ (by omega)];exact hr1 _ _
  have g2:getRow (B pre j++[.row 78 3 0 [y.av]]) (q+2) 0=some (25,4,[qA op num s ks]):=by rw[hb1 _ (by omega)];exact hr2 _ _
  rw[← hB]at hE1 hY1;rw[Ky.av_eq]at hE1 hY1 g1 g2;have hnB:=hn pre j;have hnC:=hn' pre j (.row 78 3 0 [.agg [.int .i64 y.d,.int .i64 y.i,.int .i64 y.f]]);cases hb:bel y.i with
  |false=>
   rw[hb]at hE1 hfl;have F:=F7 F hy c2 c3 g1 g2 @ax;(try refine sq F ?_);refine wk F ?_;refine kq F (hE1) ?_;refine hK2 _ _ _ (M0 ⟨k+1,j++[.row 78 3 0 [y.av]],rfl,by rw[hfl];simp[hB,Ky.av],?_,by omega,by simp;omega,by rw[hfl];simpa using hp⟩) (by omega);all_goals try exact zZz F
  |true=>
   rw[hb]at hE1 hfl;have hwh:=hwh hb;have F:=F7 F hy c2 c3 g1 g2 @ax;(try refine sq F ?_);refine wk F ?_;refine kq F (hE1) ?_;refine hY1.mono ?_;rintro r h' ⟨j',hj',⟨hlt2,rfl,rfl⟩| ⟨heq,rfl,rfl⟩⟩
   ·(try refine sq F ?_);refine wk F ?_;refine hK2 _ _ _ (M0 ⟨k+1,j',rfl,by rw[hfl];rfl,?_,by omega,by simp at hj';omega,by rw[hfl];simp;omega⟩) (by omega);all_goals try exact zZz F
   ·(try refine sq F ?_);refine wk F ?_;refine ee hQ F ?_;refine za0 (by rw[aW (hn _ _),aW (hns _ _),hBl,hBsl];simp at hj';omega) (ct _) ⟨j',.inr ⟨by rw[hwh];simp;omega,?_⟩⟩;rw[hwh, ← heq,U3 rfl]
 ·have e:k=l.length-fr:=by omega
  subst e;have ht:(l.drop fr).take (l.length-fr)=l.drop fr:=M4 (by simp);rw[ht]at hp ⊢;refine ee hQ F ?_;exact za0 (by rw[aW (hn _ _),aW (hn _ _),hBl,hBl];omega) (ct _) ⟨j,.inl ⟨hp,rfl⟩⟩
end
end
section
attribute [local irreducible] WP WPl WPix Sat SatY
def nxC(c:Cu)(pre:List Ky):Cu:=match pre.getLast? with
 |none=>c
 |some k=>⟨k.d,k.i,true⟩
theorem pL(c:Cu)(pre:List Ky)(y:Ky):nxC c (pre++[y])=⟨y.d,y.i,true⟩:=by unfold nxC;rw[List.getLast?_concat]
def pgV(L:Nat)(mo:Bool)(c:Cu)(pre:List Ky):AVal:=.agg [.hs (L+10) pre.length 0 pre.length true,.int .i64 (nxC c pre).d,.int .i64 (nxC c pre).i,.bool (nxC c pre).set,.bool mo]
def pgM(H:Heap)(n p:Nat)(qv:AVal)(c:Cu)(N:Int)(fr:Nat)(z:Blk)(mo:Bool)(pre:List Ky)(j:Heap):Heap:=
 H++(.row 25 4 0 [qv]:: .row 27 3 0 [c.av]:: .row 3 1 0 [.int .i64 N]:: .row 44 5 0 [.agg [.nil (.slice none 0 0),.int .i64 0,.int .i64 0,.bool false,.bool false]]::
  .row 44 5 0 [pgV H.length mo c pre]:: .row 33 1 0 [.hp n 0 0 0]:: .row 31 1 0 [.hp p 0 0 0]:: .row 25 4 0 [qv]:: .row 27 3 0 [c.av]:: .row 3 1 0 [.int .i64 fr]::
  .row 3 1 pre.length (pre.map fun k=>iA k.i):: .df::z::j)
def pgA(c:Cu)(bs:List Ky)(N:Nat):AVal:=.agg [.sl 1 ((bs.take N).map fun k=>iA k.i),.int .i64 (nxC c (bs.take N)).d,.int .i64 (nxC c (bs.take N)).i,.bool (nxC c (bs.take N)).set,.bool (decide (N<bs.length))]
section
variable {H:Heap} {n p:Nat} {qv:AVal} {c:Cu} {N:Int} {fr:Nat} {z:Blk} {mo:Bool} {pre:List Ky} {j:Heap}
theorem eM(j':Heap):pgM H n p qv c N fr z mo pre j++j'=pgM H n p qv c N fr z mo pre (j++j'):=by simp[pgM]
theorem eN:(pgM H n p qv c N fr z mo pre j).length=H.length+13+j.length:=by simp[pgM];omega
theorem eO:(pgM H n p qv c N fr z mo pre j)[H.length+12]? =some z:=by
 unfold pgM;rw[M9 (by omega),W5];rfl
theorem zS:(pgM H n p qv c N fr z mo pre j)[H.length+11]? =some .df:=by
 unfold pgM;rw[M9 (by omega),W5];rfl
theorem gd(z':Blk):(pgM H n p qv c N fr z mo pre j).set (H.length+12) z'=pgM H n p qv c N fr z' mo pre j:=by
 unfold pgM;rw[d9 _ rfl];rfl
theorem ca(k v:Nat):getRow (pgM H n p qv c N fr z mo pre j) (H.length+k) v=getRow (.row 25 4 0 [qv]:: .row 27 3 0 [c.av]:: .row 3 1 0 [.int .i64 N]:: .row 44 5 0 [.agg [.nil (.slice none 0 0),.int .i64 0,.int .i64 0,.bool false,.bool false]]::
  .row 44 5 0 [pgV H.length mo c pre]:: .row 33 1 0 [.hp n 0 0 0]:: .row 31 1 0 [.hp p 0 0 0]:: .row 25 4 0 [qv]:: .row 27 3 0 [c.av]:: .row 3 1 0 [.int .i64 fr]::
  .row 3 1 pre.length (pre.map fun k=>iA k.i):: .df::z::j) k v:=aV v rfl
theorem wU:(pgM H n p qv c N fr z mo pre j).set (H.length+4) (.row 44 5 0 [pgV H.length true c pre])=pgM H n p qv c N fr z true pre j:=by
 unfold pgM;rw[d9 _ rfl];rfl
theorem yh(y:Ky):((pgM H n p qv c N fr z mo pre j).set (H.length+10) (.row 3 1 (pre.length+1) ((pre.map fun k=>iA k.i)++[iA y.i]))).set (H.length+4) (.row 44 5 0 [.agg [.hs (H.length+10) (pre.length+1) 0 (pre.length+1) true,.int .i64 y.d,.int .i64 y.i,.bool true,.bool mo]])=pgM H n p qv c N fr z mo (pre++[y]) j:=by
 unfold pgM;rw[d9 _ rfl,d9 _ rfl];simp only[List.set_cons_succ,List.set_cons_zero,pgV,pL,M5,List.length_singleton,Q5,N7,R9]
end
theorem wV{H Z:Heap}{n:Nat}{c:Cu}{bs:List Ky}{N L:Nat}(_hn:n+2≤H.length)(hg:getRow Z (H.length+10) (bs.take N).length=some (L,1,(bs.take N).map fun k=>iA k.i)):
  Frz Z H.length (.tup [.agg [.hs (H.length+10) (bs.take N).length 0 (bs.take N).length true,.int .i64 (nxC c (bs.take N)).d,.int .i64 (nxC c (bs.take N)).i,.bool (nxC c (bs.take N)).set,.bool (decide (N<bs.length))],.int .i64 0]) (.tup [pgA c bs N,.int .i64 0]):=by
 refine .tup _ _ rfl fun i a b ha hb=>?_
 match i with
 |0=>
  simp only[T8,P1]at ha hb;subst ha;subst hb;refine .agg _ _ rfl (fun d hd=>?_) fun i a b ha hb=>?_
  ·simp only[N2,P7,or_false]at hd;rcases hd with rfl|rfl|rfl|rfl|rfl<;>rfl
  ·match i with
   |0=>
    simp only[T8,P1]at ha hb;subst ha;subst hb;refine za1 (by omega) hg (by simp) (fun r hr=>?_) (fun r hr=>?_)
    ·obtain⟨x,_,rfl⟩:=N0.1 hr;exact .int _ _
    ·obtain⟨x,_,rfl⟩:=N0.1 hr;intro c hc;simp[AVal.cells,iA]at hc;subst hc;rfl
   |1=>simp at ha hb;subst ha;subst hb;exact .clo _ (.int _ _)
   |2=>simp at ha hb;subst ha;subst hb;exact .clo _ (.int _ _)
   |3=>simp at ha hb;subst ha;subst hb;exact .clo _ (.bool _)
   |4=>simp at ha hb;subst ha;subst hb;exact .clo _ (.bool _)
   |i+5=>simp at ha
 |1=>simp at ha hb;subst ha;subst hb;exact .clo _ (.int _ _)
 |i+2=>simp at ha
theorem fb{H:Heap}{n v:Nat}{l:List Ky}(hn:n+2≤H.length){p:Nat}(hp:n+2≤p):(vo H n v l)[p]? =H[p]? :=ic hn (.inr hp)
variable (G:Nat→Option (List AVal))
section
variable {l:List Ky} {H:Heap} {n v:Nat}
theorem uw{ass body:Code}{k:Nat}{t:Env}{Q1:Exit→Env→Heap→Prop}(hl:l.length≤1048576)(bel:Int→Bool)(c:Cu)(p:Nat)(op num:Int)(s:Bs)(ks:List AVal)(N yl:Nat)(hn:n+2≤H.length)
  (okA:okCode k ass=true)(okB:okCode k body=true)(flA:flat ass=true)(flB:flat body=true)
  (hA:∀(y:Ky) (H':Heap) (Q:Exit→Env→Heap→Prop),Q .normal (upd (upd t 42 y.av) 14 (.hp H'.length 0 0 0)) (H'++[.row 78 3 0 [y.av]])→WP (CT G) ass Q (upd t 42 y.av) H')
  (hB:∀(y:Ky) (pre:List Ky) (j:Heap) (z:Blk) (Q:Exit→Env→Heap→Prop),pre.length≤N→
   (pre.length=N→∀t',Q (.exit 0) t' (vo (pgM H n p (qA op num s ks) c N (fromK l c) z true pre (j++[.row 78 3 0 [y.av]])) n v l))→
   (pre.length<N→∀t',Q .normal t' (vo (pgM H n p (qA op num s ks) c N (fromK l c) z false (pre++[y]) (j++[.row 78 3 0 [y.av]])) n v l))→
   WP (CT G) body Q (upd (upd t 42 y.av) 14 (.hp (H.length+13+j.length) 0 0 0)) (vo (pgM H n p (qA op num s ks) c N (fromK l c) z false pre j++[.row 78 3 0 [y.av]]) n v l))
  (hE:∀j id,Sat (CT G) 30 [.hp p 0 0 0,qA op num s ks,.int .i64 id] (vo (H++j) n v l) (fun r h'=>r=.bool (bel id)∧h'=vo (H++j) n v l))
  (f0:∀j,Q1 .normal t (vo (pgM H n p (qA op num s ks) c N (fromK l c) .dead (decide (N<((l.drop (fromK l c)).filter fun k=>bel k.i).length)) (((l.drop (fromK l c)).filter fun k=>bel k.i).take N) j) n v l))
  (f1:∀j,Q1 (.exit 0) t (vo (pgM H n p (qA op num s ks) c N (fromK l c) .dead (decide (N<((l.drop (fromK l c)).filter fun k=>bel k.i).length)) (((l.drop (fromK l c)).filter fun k=>bel k.i).take N) j) n v l)):
  Sat (CT G) 61 [.fn (.yield yl) [] [],.hp (H.length+5) 0 0 0,.hp (H.length+9) 0 0 0,.hp (H.length+6) 0 0 0,.hp (H.length+7) 0 0 0]
   (vo (H++[Blk.row 25 4 0 [qA op num s ks],.row 27 3 0 [.agg [.int .i64 c.d,.int .i64 c.i,.bool c.set]],.row 3 1 0 [.int .i64 N],.row 44 5 0 [.agg [.nil (.slice none 0 0),.int .i64 0,.int .i64 0,.bool false,.bool false]],.row 44 5 0 [.agg [.hs (H.length+10) 0 0 0 true,.int .i64 c.d,.int .i64 c.i,.bool c.set,.bool false]],.row 33 1 0 [.hp n 0 0 0],.row 31 1 0 [.hp p 0 0 0],.row 25 4 0 [qA op num s ks],.row 27 3 0 [.agg [.int .i64 c.d,.int .i64 c.i,.bool c.set]],.row 3 1 0 [.int .i64 (fromK l c)],.row 3 1 0 []]) n v l++[.df,.lp yl k t #[42] ass body .ready none]) (rangeQ (H.length+11) yl k t #[42] ass body Q1):=by
 have hnM:∀{z:Blk} {mo:Bool} {pre:List Ky} {j:Heap},n+2≤(pgM H n p (qA op num s ks) c N (fromK l c) z mo pre j).length:=by intro z mo pre j;rw[eN];omega
 have hseq:=yg G (v:=v) (n:=n) hl bel N yl (H.length+5) (H.length+13) p op num s ks (fun pre j=>pgM H n p (qA op num s ks) c N (fromK l c) (.lp yl k t #[42] ass body .ready none) false pre j) (fun pre j=>pgM H n p (qA op num s ks) c N (fromK l c) (.lp yl k t #[42] ass body .done (some (.exit 0))) true pre j) (fromK l c) (nM l c)
  (fun pre j j'=>eM j') (fun pre j=>eN) (fun pre j=>eN) (by omega) (by omega) (fun pre j=>ca 5 0) (fun pre j=>ca 6 0) (fun pre j=>ca 7 0) (fun pre j=>ca 9 0)
  (fun pre j id=>hE _ id) (fun pre j y hp=>?_) []
 ·have e0:vo (H++[Blk.row 25 4 0 [qA op num s ks],.row 27 3 0 [.agg [.int .i64 c.d,.int .i64 c.i,.bool c.set]],.row 3 1 0 [.int .i64 N],.row 44 5 0 [.agg [.nil (.slice none 0 0),.int .i64 0,.int .i64 0,.bool false,.bool false]],.row 44 5 0 [.agg [.hs (H.length+10) 0 0 0 true,.int .i64 c.d,.int .i64 c.i,.bool c.set,.bool false]],.row 33 1 0 [.hp n 0 0 0],.row 31 1 0 [.hp p 0 0 0],.row 25 4 0 [qA op num s ks],.row 27 3 0 [.agg [.int .i64 c.d,.int .i64 c.i,.bool c.set]],.row 3 1 0 [.int .i64 (fromK l c)],.row 3 1 0 []]) n v l++[.df,.lp yl k t #[42] ass body .ready none]=vo (pgM H n p (qA op num s ks) c N (fromK l c) (.lp yl k t #[42] ass body .ready none) false [] []) n v l:=by
   rw[fV (by simp;omega)];simp[pgM,pgV,nxC,Cu.av]
  rw[e0];refine hseq.mono ?_;rintro r h' ⟨j,⟨hle,rfl⟩| ⟨hlt,rfl⟩⟩
  ·refine⟨.ready,none,by rw[fb hnM (by omega)];exact eO,by simp,?_⟩;have:=f0 j;rw[M4 hle,O0 (by omega)]at this;show Q1 .normal t _;rw[eE hnM _ (by omega),gd];exact this
  ·refine⟨.done,some (.exit 0),by rw[fb hnM (by omega)];exact eO,by simp,?_⟩;have:=f1 j;rw[O4 hlt]at this;show Q1 (.exit 0) t _;rw[eE hnM _ (by omega),gd];exact this
 ·refine SatY.roundQ (p:=H.length+12) (by rw[fb hnM (by omega)];exact eO) okA okB flA flB fun Qa ha=>hA y _ Qa (ha _ _ ?_ fun Qb hb he=>?_)
  ·rw[fV hnM,fb (by rw[M5];have:=hnM (z:=.lp yl k t #[42] ass body .ready none) (mo:=false) (pre:=pre) (j:=j);omega) (by omega),eM];exact eO
  ·have e1:(vo (pgM H n p (qA op num s ks) c N (fromK l c) (.lp yl k t #[42] ass body .ready none) false pre j) n v l++[Blk.row 78 3 0 [y.av]]).set (H.length+12) (.lp yl k t #[42] ass body .busy none)=vo (pgM H n p (qA op num s ks) c N (fromK l c) (.lp yl k t #[42] ass body .busy none) false pre j++[.row 78 3 0 [y.av]]) n v l:=by
    rw[fV hnM,eM,eE hnM _ (by omega),gd,eM]
   rw[e1,aW hnM,eN];refine hB y pre j _ Qb hp (fun e t'=>he 0 _ _ ?_ ?_) fun e t'=>hb _ _ ?_ ?_
   ·rw[fb hnM (by omega)];exact eO
   ·rw[eE hnM _ (by omega),gd];exact⟨_,by simp,.inr ⟨e,rfl,rfl⟩⟩
   ·rw[fb hnM (by omega)];exact eO
   ·rw[eE hnM _ (by omega),gd];exact⟨_,by simp,.inl ⟨e,rfl,rfl⟩⟩
theorem nN(hs:Sk l)(hl:l.length≤1048576)(bel:Int→Bool)(c:Cu)(p:Nat)(hp:p<H.length)(op num:Int)(s:Bs)(ks:List AVal)(N:Nat)(hN:1≤N∧N≤100)(hn:n+2≤H.length)
  (hq:∀j,abin Tryz.prog (vo (H++j) n v l) .eql 31 (.hp p 0 0 0) (.nil (.pointer none))=some (.bool false))
  (hC:∀j,Sat (CT G) 27 [qA op num s ks] (vo (H++j) n v l) (fun r h'=>r=.int .i64 0∧h'=vo (H++j) n v l))
  (hE:∀j id,Sat (CT G) 30 [.hp p 0 0 0,qA op num s ks,.int .i64 id] (vo (H++j) n v l) (fun r h'=>r=.bool (bel id)∧h'=vo (H++j) n v l)):
  Sat (CT G) 10 [.hp n 0 0 0,.hp p 0 0 0,qA op num s ks,c.av,.int .i64 N] (vo H n v l)
   (fun r h'=>r=.tup [pgA c ((l.drop (fromK l c)).filter fun k=>bel k.i) N,.int .i64 0]∧h'=vo H n v l):=by
 have hfr:=nM l c;have hCh:=hC [.row 25 4 0 [qA op num s ks],.row 27 3 0 [c.av],.row 3 1 0 [.int .i64 N],.row 44 5 0 [.agg [.nil (.slice none 0 0),.int .i64 0,.int .i64 0,.bool false,.bool false]]];rw[Cu.av_eq]at hCh;have n1:decide ((N:Int)<1)=false:=by simp;omega
 have n2:decide ((N:Int)>100)=false:=by simp;omega
 have df:∀i:Decidable False, @decide False i=false:=fun i=>by simp
 skip
 refine Sat.range [.cell 10 44,.tmp 11] (fn:=Tryz.f10) (H.length+11) Tryz.func10 ?_;intro Q0 Q1 hQ hQ1;have F:=F5 hq n1 n2 df @ax;refine EJ.seq1 (by kernel_rfl) fun KK kK=>?_
 refine wk F ?_;refine kK _ _ (w0 ?_);clear kK KK;refine EJ.seq1 (by kernel_rfl) fun KK kK=>?_
 refine wk F ?_;refine kK _ _ (w0 ?_);clear kK KK;refine EJ.seq1 (by kernel_rfl) fun KK kK=>?_
 refine wk F ?_;refine kq F (hCh) ?_;refine kK _ _ (w0 ?_);clear kK KK;refine EJ.seq1 (by kernel_rfl) fun KK kK=>?_
 refine wk F ?_;refine kK _ _ (w0 ?_);clear kK KK;refine EJ.seq1 (by kernel_rfl) fun KK kK=>?_
 refine wk F ?_;refine kK _ _ (w0 ?_);clear kK KK;refine EJ.seq2 (EJ.seq1 (by kernel_rfl) fun KK kK=>?_);refine wk F ?_;have hBh:=sg G (v:=v) (n:=n) hs hl c p (H:=H++[Blk.row 25 4 0 [qA op num s ks],.row 27 3 0 [c.av],.row 3 1 0 [.int .i64 N],.row 44 5 0 [.agg [.nil (.slice none 0 0),.int .i64 0,.int .i64 0,.bool false,.bool false]],.row 44 5 0 [.agg [.nil (.slice none 0 0),.int .i64 c.d,.int .i64 c.i,.bool c.set,.bool false]]]) (by simp;omega) op num s ks (by simp;omega);simp only[M5,M8,O7,Nat.reduceAdd,Q9,Nat.add_assoc,bhB,P2,W4,P3,Cu.av_eq]at hBh;refine kq F (hBh) ?_;refine kK _ _ ⟨_,_,Weak.virtCell (p:=H.length+4) (v:=0) 3 1 (by omega) (by simp(disch:=first|omega| (simp only[go_sem, ↓reduceIte,seval];first|done|omega)|fail) only[go_sem, ↓reduceIte,seval,F];rfl) 0 rfl,?_⟩;clear kK KK;try refine sq F ?_
 refine EJ.block (EJ.forget (P:=fun t=>t 9=.hp (H.length+2) 0 0 0∧t 13=.hp (H.length+4) 0 0 0∧t 10=.hp (H.length+3) 0 0 0∧t 41=.fn (.func 61) [] [.hp (H.length+5) 0 0 0,.hp (H.length+9) 0 0 0,.hp (H.length+6) 0 0 0,.hp (H.length+7) 0 0 0]) ⟨by simp(disch:=first|omega| (simp only[go_sem, ↓reduceIte,seval];first|done|omega)|fail) only[go_sem, ↓reduceIte,seval,F],by simp(disch:=first|omega| (simp only[go_sem, ↓reduceIte,seval];first|done|omega)|fail) only[go_sem, ↓reduceIte,seval,F],by simp(disch:=first|omega| (simp only[go_sem, ↓reduceIte,seval];first|done|omega)|fail) only[go_sem, ↓reduceIte,seval,F],by simp(disch:=first|omega| (simp only[go_sem, ↓reduceIte,seval];first|done|omega)|fail) only[go_sem, ↓reduceIte,seval,F]⟩ ?_);rintro t ⟨tq9,tq13,tq10,tq41⟩;refine EJ.range (gf:=61) (fn:=Tryz.f61) rfl tq41 Tryz.func61 rfl (by kernel_rfl) (by rw[aW (by simp;omega)];simp) fun yl=>?_
 refine uw G hl bel c p op num s ks N yl hn (by kernel_rfl) (by kernel_rfl) rfl rfl (fun y H' Q hq1=>?_) (fun y pre j z Q hp hx ha=>?_) hE (fun j=>?_) (fun j=>?_)
 ·refine wk F ?_;exact hq1
 ·have xl:=eN (H:=H) (n:=n) (p:=p) (qv:=qA op num s ks) (c:=c) (N:=N) (fr:=fromK l c) (z:=z) (mo:=false) (pre:=pre) (j:=j);have r4:getRow (pgM H n p (qA op num s ks) c N (fromK l c) z false pre j) (H.length+4) 0=some (44,5,[pgV H.length false c pre]):=ca 4 0;have r2:getRow (pgM H n p (qA op num s ks) c N (fromK l c) z false pre j) (H.length+2) 0=some (3,1,[.int .i64 N]):=ca 2 0;have r10:getRow (pgM H n p (qA op num s ks) c N (fromK l c) z false pre j) (H.length+10) pre.length=some (3,1,pre.map fun k=>iA k.i):=(ca 10 pre.length).trans (by simp[getRow]);have m1:(pgM H n p (qA op num s ks) c N (fromK l c) z false pre j).set (H.length+4) (.row 44 5 0 [pgV H.length true c pre])++[Blk.row 78 3 0 [y.av]]=pgM H n p (qA op num s ks) c N (fromK l c) z true pre (j++[.row 78 3 0 [y.av]]):=by rw[wU,eM]
  have a1:=P9 (· ++ [Blk.row 78 3 0 [y.av]]) (yh (H:=H) (n:=n) (p:=p) (qv:=qA op num s ks) (c:=c) (N:=N) (fr:=fromK l c) (z:=z) (mo:=false) (pre:=pre) (j:=j) y);simp only[eM]at a1;rw[← m1]at hx;rw[← a1]at ha;simp only[pgV,Ky.av_eq,iA]at r4 r10 hx ha;clear m1 a1;generalize pgM H n p (qA op num s ks) c N (fromK l c) z false pre j=X at*;have hnX:n+2≤X.length:=by omega
  have hmL:(pre.map fun k=>AVal.int .i64 k.i).length=pre.length:=L8 ..;by_cases hpn:pre.length=N
  ·have hq3:((pre.length:Int)==(N:Int))=true:=(by simp[hpn]);have F:=F8 F tq9 tq13 r4 r2 r10 hq3 @ax;refine wk F ?_;exact hx hpn _
  ·have hq3:((pre.length:Int)==(N:Int))=false:=(by simp;omega);have F:=F9 F tq9 tq13 r4 r2 r10 hq3 @hmL @ax;refine wk F ?_;refine aq F ?_;(try refine sq F ?_);refine wk F ?_;exact ha (by omega) _
 all_goals (
  show MJ (CT G) _ _ Q1 _ t _;generalize ((l.drop (fromK l c)).filter fun k=>bel k.i)=bs at hQ1 ⊢;have xl:(pgM H n p (qA op num s ks) c N (fromK l c) .dead (decide (N<bs.length)) (bs.take N) j).length=_:=eN;have r4:getRow (pgM H n p (qA op num s ks) c N (fromK l c) .dead (decide (N<bs.length)) (bs.take N) j) (H.length+4) 0=some (44,5,[pgV H.length (decide (N<bs.length)) c (bs.take N)]):=ca 4 0;have r3:getRow (pgM H n p (qA op num s ks) c N (fromK l c) .dead (decide (N<bs.length)) (bs.take N) j) (H.length+3) 0=some (44,5,[.agg [.nil (.slice none 0 0),.int .i64 0,.int .i64 0,.bool false,.bool false]]):=ca 3 0;have r10:getRow (pgM H n p (qA op num s ks) c N (fromK l c) .dead (decide (N<bs.length)) (bs.take N) j) (H.length+10) (bs.take N).length=some (3,1,(bs.take N).map fun k=>iA k.i):=(ca 10 _).trans (by simp[getRow]);have d11:(pgM H n p (qA op num s ks) c N (fromK l c) .dead (decide (N<bs.length)) (bs.take N) j)[H.length+11]? =some .df:=zS;obtain⟨J,hJ⟩:∃J,(pgM H n p (qA op num s ks) c N (fromK l c) .dead (decide (N<bs.length)) (bs.take N) j)=H++J:=⟨_,rfl⟩;simp only[pgV]at r4;generalize (pgM H n p (qA op num s ks) c N (fromK l c) .dead (decide (N<bs.length)) (bs.take N) j)=X at*;have hnX:n+2≤X.length:=by omega
  refine MJ.wp (by kernel_rfl) ?_;have F:=F6 F tq13 tq10 r4 r3 @ax;refine wk F ?_;refine(hQ1 _ _ (by rw[fb (by rw[W2];exact hnX) (by omega),S7 (by omega)];exact d11) ?_).1;simp(disch:=first|omega| (simp only[go_sem, ↓reduceIte,seval];first|done|omega)|fail) only[go_sem, ↓reduceIte,seval,F,resA,resL,resA1];have hg:=bh (H:=X) (p:=H.length+3) (q:=H.length+10) (.row 44 5 0 [.agg [.hs (H.length+10) (bs.take N).length 0 (bs.take N).length true,.int .i64 (nxC c (bs.take N)).d,.int .i64 (nxC c (bs.take N)).i,.bool (nxC c (bs.take N)).set,.bool (decide (N<bs.length))]]) (bs.take N).length (by omega);rw[r10, ← bh (p:=H.length+11) .dead _ (by omega)]at hg;subst hJ;rw[d9 _ rfl,d9 _ rfl]at hg ⊢;rw[← eD (n:=n) (v:=v) (l:=l) (by rw[M5];omega) _ (by omega)]at hg;exact dq hn rfl (ip hn) (wV hn hg) ⟨rfl,rfl⟩)
end
end
section
def bhd(c:Cu)(k:Ky):Bool:= !c.set||ahd ⟨c.d,c.i,0⟩ k
theorem iB{l:List Ky}(hs:Sk l)(c:Cu):l.drop (fromK l c)=l.filter (bhd c):=by
 obtain⟨d,i,b⟩:=c;cases b with
 |false=>
  show l.drop 0=_;rw[Y3];exact(R8.2 fun x _=>rfl).symm
 |true=>
  show l.drop (pst l ⟨d,i,0⟩)=l.filter fun k=>false||ahd ⟨d,i,0⟩ k
  simp only[Bool.false_or];induction l with
  |nil=>rfl
  |cons x l ih=>
   obtain⟨h1,h2⟩:=U1.1 hs;unfold pst;cases ha:ahd ⟨d,i,0⟩ x with
   |true=>
    rw[M1 rfl,Y3];refine(R8.2 fun y hy=>?_).symm;rcases N2.1 hy with rfl|hy
    ·exact ha
    ·exact im ha (h1 y hy)
   |false=>
    rw[L5 (by simp),Z4,S8,ha,L5 (by simp)];exact ih h2
def pgL(l:List Ky)(bel:Int→Bool)(c:Cu):List Ky:=(l.drop (fromK l c)).filter fun k=>bel k.i
theorem yi{l:List Ky}(hs:Sk l){bel:Int→Bool}{c:Cu}{x:Ky}:x∈pgL l bel c↔x∈l∧bhd c x=true∧bel x.i=true:=by
 unfold pgL;rw[T7,iB hs,T7,and_assoc]
theorem yj{l:List Ky}(hs:Sk l){bel:Int→Bool}{c:Cu}:Sk (pgL l bel c):=(hs.sublist (List.drop_sublist _ _)).sublist List.filter_sublist
def PS.Tt(s:PS):Prop:=∀k t,lkM s.it k=some t→t.title.length≤256
theorem PS.Tt.z:PS.z.Tt:=fun _ _ h=>by cases h
theorem PS.Tt.getD{s:PS}(h:s.Tt)(k:Int):((lkM s.it k).getD It.z).title.length≤256:=by
 cases hl:lkM s.it k with
 |none=>simp[It.z]
 |some t=>exact h k t hl
theorem PS.Tt.step{s:PS}(h:s.Tt)(hI:s.Inv)(e:Ev):(s.step L0 e).Tt:=by
 unfold PS.step;split
 ·rename_i hok;have hr:e.kind=7→e.t.length≤256:=fun k=>by
   unfold PS.ok PS.fits at hok;rw[L7]at hok;have:=hok.1;unfold Leaf.ck at this;simp only[L7]at this;have hq:=this.1;unfold Leaf.right at hq;rw[L5 (by omega),L5 (by omega),L5 (by omega),L5 (by omega),L5 (by omega),M1 k]at hq;simp only[L7]at hq;have hq:=hq.2.2.2.2.1;have hu:L0.title e.t=textF rightS cleanF e.t 256:=rfl;rw[hu]at hq;unfold textF at hq;rw[L7,M7]at hq;omega
  intro k t hk;rw[tZ]at hk;split at hk
  ·exact h k t (g9 hI.w3.keys hk)
  split at hk
  ·rename_i k7;rcases aP hk with⟨rfl,rfl⟩| ⟨_,hk⟩
   ·exact hr k7
   ·exact h k t hk
  split at hk
  ·rcases aP hk with⟨rfl,rfl⟩| ⟨_,hk⟩
   ·exact h.getD _
   ·exact h k t hk
  split at hk
  ·rcases aP hk with⟨rfl,rfl⟩| ⟨_,hk⟩
   ·exact h.getD _
   ·exact h k t hk
  split at hk
  ·rcases aP hk with⟨rfl,rfl⟩| ⟨_,hk⟩
   ·exact h.getD _
   ·exact h k t hk
  ·exact h k t hk
 ·exact h
theorem PS.Tt.fold{es:List Ev}:∀{s:PS},s.Tt→s.Inv→(es.foldl (PS.step L0) s).Tt:=by
 induction es with
 |nil=>intro s h _;exact h
 |cons e es ih=>intro s h hI;exact ih (h.step hI e) (hI.step e)
end
section
attribute [local irreducible] WP WPl WPix Sat
def PS.eval(s:PS)(q:Qy)(id:Int):Bool:=match lkM s.it id with
 |none=>false
 |some t=>q.ok&&q.bel s t
def Qy.Fit(q:Qy):Prop:=q.mx≤9223372036854775807∧(q.dep 1≤12→q.sz≤20000)
theorem xa{X:Heap}{n:Nat}{s:PS}(x:ML Int (List Int)×Nat)(b1 b2:Blk)(j:Heap):sa (X++(b1::b2::j)) n s X.length x=so (X++(am x.1 x.2::ar n X.length::j)) n s:=by
 unfold sa twB;congr 1
 have:=jS X [am x.1 x.2,ar n X.length] j;show ov _ _ _=X++([am x.1 x.2,ar n X.length]++j);rw[this];unfold ov;have h1:∀c1 c2:Blk,(X++(c1::c2::j)).take X.length=X:=fun c1 c2=>by rw[U3 rfl]
 have h2:∀c1 c2:Blk,(X++(c1::c2::j)).drop (X.length+2)=j:=fun c1 c2=>by rw[List.drop_append,R3 (by omega),W5];rfl
 show _++_++List.drop (X.length+2) _=List.take _ (X++(am x.1 x.2::ar n X.length::j))++_++List.drop (X.length+2) (X++(am x.1 x.2::ar n X.length::j));rw[h1,h1,h2,h2]
variable (G:Nat→Option (List AVal))
theorem zT(s:PS){X:Heap}{n:Nat}(hn:n+9≤X.length):Sat (CT G) 64 [.hp (n+8) 0 0 0] (so X n s) (fun r h'=>r=.hp (X.length+1) 0 0 0∧h'=sa (X++[am [] 0,ar n X.length]) n s X.length ([],0)):=by
 have e:=xa (X:=X) (n:=n) (s:=s) ([],0) (am [] 0) (ar n X.length) [];rw[e, ← aQ hn];have hl:=aM (s:=s) hn;have hp:n+8<(so X n s).length:=by omega
 generalize so X n s=H at*;rw[← hl];refine sb [.tmp 2] Tryz.func64 ?_;intro Q hQ;refine wk trivial ?_;refine ee hQ trivial ?_;exact za0 (by simp) (.hp _ _ _ _ (by simp)) ⟨rfl,rfl⟩
theorem ux(s:PS)(hI:s.Inv)(hT:s.Tt)(q:Qy)(hq:q.Fit)(id:Int){X:Heap}{n:Nat}(hn:n+9≤X.length):Sat (CT G) 30 [.hp (n+8) 0 0 0,q.av,.int .i64 id] (so X n s) (fun r h'=>r=.bool (s.eval q id)∧h'=so X n s):=by
 have hIt:=fun(j:Heap)=>jX G s id (by have:=(hI.tags id).2;omega) (H:=X++j) (n:=n) (by simp;omega)
 have hn1:∀j:Heap,n+9≤(X++j).length:=fun j=>by simp;omega
 unfold PS.eval;cases hl:lkM s.it id with
 |none=>
  rw[hl]at hIt;simp only[Option.getD_none,Option.isSome_none]at hIt;obtain⟨qo,qn,qs,qk⟩:=q;rw[Qy.av_eq]at*;have F:=F2 hn hn1
  skip
  refine sb [.tmp 6] Tryz.func30 ?_;intro Q hQ;refine wn F ?_;refine kn F (hIt _) ?_;refine dw (by decide+kernel) (lg G) ?_;refine sq F ?_;refine wn F ?_
  skip
  refine ee hQ F ?_;exact az hn (.bool _) ⟨rfl,rfl⟩
 |some t=>
  rw[hl]at hIt;simp only[Q8,Option.isSome_some]at hIt;have hC:=fun h=>cH G q h hq.1 hq.2
  have htt:=hT id t hl;have htg:=(hI.tags id).2;rw[hl,Q8]at htg;cases hok:q.ok with
  |false=>
   rw[hok]at hC;clear hq;obtain⟨qo,qn,qs,qk⟩:=q;rw[Qy.av_eq]at*;have F:=F2 hn hn1
   skip
   refine sb [.tmp 6] Tryz.func30 ?_;intro Q hQ;refine wn F ?_;refine kn F (hIt _) ?_;refine dw (by decide+kernel) (lg G) ?_;refine sq F ?_;refine wn F ?_;refine au (hC _) ?_;(try refine sq F ?_);refine wn F ?_
   skip
   refine ee hQ F ?_;exact az hn (.bool _) ⟨rfl,rfl⟩
  |true=>
   have hok':=hok;unfold Qy.ok at hok';simp only[L7,M7]at hok';obtain⟨rQ,hrQ⟩:∃rQ:Blk,rQ=.row 25 4 0 [q.av]:=⟨_,rfl⟩;obtain⟨rT,hrT⟩:∃rT:Blk,rT=.row 69 9 0 [t.av]:=⟨_,rfl⟩;have hlX:(X++[rQ,rT]).length=X.length+2:=(by simp);have e:∀y:ML Int (List Int)×Nat,sa ((X++[rQ,rT])++[am [] 0,ar n (X.length+2)]) n s (X.length+2) y=so (X++[rQ,rT,am y.1 y.2,ar n (X.length+2)]) n s:=fun y=>by
    have:=xa (X:=X++[rQ,rT]) (n:=n) (s:=s) y (am [] 0) (ar n (X.length+2)) [];rw[hlX]at this;rw[this,P2];rfl
   have hB:=y8 G s hI t htt (by omega) (n:=n) (a:=X.length+2) (by omega) q (hq.2 hok'.1) hok'.2.2 ((X++[rQ,rT])++[am [] 0,ar n (X.length+2)]) ([],0) (by simp) ⟨.nil,fun _ _ h=>by cases h⟩;have hO:=zT G s (X:=X++[rQ,rT]) (n:=n) (by omega);rw[hlX,e]at hO;simp only[e]at hB;subst hrQ;subst hrT;rw[hok]at hC;show Sat _ _ _ _ (fun r h'=>r=.bool (q.bel s t)∧h'=so X n s);generalize q.bel s t=b at*;clear hq hok' e hlX;obtain⟨qo,qn,qs,qk⟩:=q;rw[Qy.av_eq]at*;have F:=F2 hn hn1
   skip
   refine sb [.tmp 6] Tryz.func30 ?_;intro Q hQ;refine wn F ?_;refine kn F (hIt _) ?_;refine aA 12 [8,11] [true,true,true,true,true,true,true,true,false,true,true,false] (.one 8 [false,false,false,false,false,false,false,false,false,true,true] (.one 11 [] .fin)) (by decide+kernel) (by kernel_rfl) (by decide+kernel) ?_;simp only[aD,aE,aC];(try refine sq F ?_);repeat' ((first|refine ae ?_|refine af ?_|refine ah ?_ ?_)<;>try refine sq F ?_)
   (all_goals try refine wn F ?_);refine au (hC _) ?_;(try refine sq F ?_);refine wn F ?_;repeat' ((first|refine ae ?_|refine af ?_|refine ah ?_ ?_)<;>try refine sq F ?_)
   (all_goals try refine wn F ?_);refine iR rfl (by exact zq F) ?_;simp(disch:=first|omega| (simp only[go_sem, ↓reduceIte,seval];first|done|omega)|fail) only[go_sem, ↓reduceIte,seval,F];refine hO.mono ?_;rintro r h' ⟨rfl,rfl⟩;have F:=F2 F @ax;refine⟨by simp(disch:=first|omega| (simp only[go_sem, ↓reduceIte,seval];first|done|omega)|fail) only[go_sem, ↓reduceIte,seval,F],?_⟩;repeat' ((first|refine ae ?_|refine af ?_|refine ah ?_ ?_)<;>try refine sq F ?_)
   (all_goals try refine wn F ?_);refine iR rfl (by exact zq F) ?_;simp(disch:=first|omega| (simp only[go_sem, ↓reduceIte,seval];first|done|omega)|fail) only[go_sem, ↓reduceIte,seval,F];refine hB.mono ?_;rintro r h' ⟨rfl,y,hy,rfl⟩;repeat' ((first|refine ae ?_|refine af ?_|refine ah ?_ ?_)<;>try refine sq F ?_)
   (all_goals try refine wn F ?_);refine ee hQ F ?_;exact az hn (.bool _) ⟨rfl,rfl⟩
end
section
def itmK(s:PS)(f:It→Bool):List Ky:=srtK ((s.tell.it.filter f).map It.ky)
def itmF(s:PS)(f:It→Bool):List Int:=(itmK s f).map (·.i)
theorem kG{s:PS}(h:s.Inv)(f:It→Bool):(((s.tell.it.filter f).map It.ky).map (·.i)).Nodup:=by
 rw[V0];exact(kC h).sublist (List.filter_sublist.map _)
end
section
attribute [local irreducible] WP WPl WPix Sat
theorem uy{α:Type}(p:α→Bool){l:List α}{k:Nat}{y:α}(h:l[k]? =some y):(l.take (k+1)).any p=((l.take k).any p||p y):=by
 rw[O3,h,List.any_append];simp
variable (G:Nat→Option (List AVal))
theorem sh(x:St)(t:It)(p:Qy→Bool)(lb:Bool)(op num:Int)(tx:Bs)(ks:List Qy)(hkl:ks.length≤20000)
  (hL:∀h,Sat (CT G) 113 [x.av,.agg [.int .i64 op,.int .i64 num,.str tx,.sl 4 (ks.map Qy.av)],t.av] h (fun r h'=>r=.bool lb∧h'=h))
  (hkd:∀k∈ks,∀h,Sat (CT G) 68 [x.av,k.av,t.av] h (fun r h'=>r=.bool (p k)∧h'=h))(h:Heap):
  Sat (CT G) 68 [x.av,.agg [.int .i64 op,.int .i64 num,.str tx,.sl 4 (ks.map Qy.av)],t.av] h (fun r h'=>r=.bool (if op=3 then !ks.any (fun k=> !p k)else if op=4 then ks.any p else if op=5 then !ks.any p else lb)∧h'=h):=by
 have ml:(ks.map Qy.av).length=ks.length:=L8 ..;have F:=ml;refine sb [.tmp 6] Tryz.func68 ?_;intro Q hQ;refine wk F ?_;refine lm (fun nL tL hL=>∃(i:Nat),ks.length-i=nL∧h++[.row 40 9 0 [x.av],.row 25 4 0 [.agg [.int .i64 op,.int .i64 num,.str tx,.sl 4 (ks.map Qy.av)]],.row 69 9 0 [t.av]]=hL∧tL 3=.hp h.length 0 0 0∧tL 4=.hp (h.length+1) 0 0 0∧tL 5=.hp (h.length+2) 0 0 0∧tL 7=.bool ((ks.take i).any p)∧tL 8=.bool (!(ks.take i).any fun k=> !p k)∧tL 9=.int .i64 i∧i≤ks.length) ((fun(i:Nat)=>(ks.length-i:Nat)) (0)) ?_ ?_
 ·refine M0 ⟨0,rfl,aw,?_,?_,?_,?_,?_,?_,by omega⟩;all_goals try exact zZz F
 rintro _ s2 h' ⟨i,rfl,rfl,e3,e4,e5,e7,e8,e9,hi⟩ K2 hK2;simp only[ai,ak,Nat.reduceEqDiff, ↓reduceIte]at e3 e4 e5 e7 e8 e9;have F:=F7 F e3 e4 e5 e7 e8 e9;by_cases c1:i<ks.length
 ·obtain⟨y,hy,hym⟩:=ac c1;have hc:=hkd y hym;have a1:=uy p hy;have a2:=uy (fun k=> !p k) hy;have d1:=O4 c1;generalize p y=b at*;obtain⟨yo,yn,ys,yl⟩:=y;simp only[Qy.av_eq]at hc;cases b with
  |true=>
   simp only[Bool.or_true,Bool.not_true,za2]at a1 a2;have F:=F5 F hy d1 a1 a2;(try refine sq F ?_);refine wk F ?_;refine au (hc _) ?_;(try refine sq F ?_);refine wk F ?_;refine hK2 _ _ _ (M0 ⟨i+1,rfl,aw,?_,?_,?_,?_,?_,?_,by omega⟩) (by omega);all_goals try exact zZz F
  |false=>
   simp only[za2,zc8,Bool.or_true]at a1 a2;have a3:(!true)=false:=rfl;have F:=F6 F hy d1 a1 a2 a3;(try refine sq F ?_);refine wk F ?_;refine au (hc _) ?_;(try refine sq F ?_);refine wk F ?_;refine hK2 _ _ _ (M0 ⟨i+1,rfl,aw,?_,?_,?_,?_,?_,?_,by omega⟩) (by omega);all_goals try exact zZz F
 ·rw[M4 (by omega)]at e7 e8;have d1:=O0 c1;generalize ks.any p=vo at*;generalize (ks.any fun k=> !p k)=va at*;clear hkd;by_cases o3:op=3
  ·subst o3;have F:=F8 ml e3 e4 e5 e7 e8 e9 d1;(try refine sq F ?_);refine wk F ?_;refine ee hQ F ?_;exact L6 (.bool _) ⟨rfl,rfl⟩
  by_cases o4:op=4
  ·subst o4;have F:=F8 ml e3 e4 e5 e7 e8 e9 d1;(try refine sq F ?_);refine wk F ?_;refine ee hQ F ?_;exact L6 (.bool _) ⟨rfl,rfl⟩
  by_cases o5:op=5
  ·subst o5;have F:=F8 ml e3 e4 e5 e7 e8 e9 d1;(try refine sq F ?_);refine wk F ?_;refine ee hQ F ?_;exact L6 (.bool _) ⟨rfl,rfl⟩
  have n3:(op==3)=false:=by simp[o3]
  have n4:(op==4)=false:=by simp[o4]
  have n5:(op==5)=false:=by simp[o5]
  have F:=F2 (F9 ml e3 e4 e5 e7 e8 e9 d1 n3) (F2 n4 n5);try refine sq F ?_
  refine wk F ?_;refine kq F (hL _) ?_;refine ee hQ F ?_;exact L6 (.bool _) ⟨by rw[L5 o3,L5 o4,L5 o5],rfl⟩
theorem uz(s:PS)(hI:s.Inv)(t:It)(htl:t.title.length≤20000)(htg:t.tags.length≤1048576)(q:Qy)(hz:q.sz≤20000):∀h,Sat (CT G) 68 [s.tell.av,q.av,t.av] h (fun r h'=>r=.bool (q.bel s t)∧h'=h):=by
 revert hz;induction q using Qy.ind with
 |h op num tx ks ih=>
 intro hz h;have hkl:=Qy.szL_len ks;have hkm:∀k∈ks,k.sz≤Qy.szL ks:=fun k hk=>Qy.szL_mem hk
 rw[Qy.sz]at hz;have hL:=fun h=>tY G s hI op num tx ks t htl (by omega) htg h
 rw[Qy.av_eq]at hL ⊢;have:=sh G s.tell t (fun k=>k.bel s t) (leafF s t op num tx) op num tx ks (by omega) hL (fun k hk=>ih k hk (by have:=hkm k hk;omega)) h;rw[Qy.bel,Qy.belA_eq,Qy.belO_eq];exact this
end
section
attribute [local irreducible] WP WPl WPix Sat
variable (G:Nat→Option (List AVal))
theorem kH(s:PS)(hI:s.Inv)(hT:s.Tt)(q:Qy)(hz:q.sz≤20000)(h:Heap):Sat (CT G) 35 [s.tell.av,q.av] h (fun r h'=>r=.sl 1 ((itmF s fun t=>q.bel s t).map iA)∧h'=h):=by
 have hE:∀t∈s.tell.it,∀h,Sat (CT G) 68 [s.tell.av,q.av,t.av] h (fun r h'=>r=.bool (q.bel s t)∧h'=h):=fun t ht h=>by
  obtain⟨k,hk⟩:=aN ht;exact uz G s hI t (by have:=hT k t hk;omega) (by have:=(hI.tg k t hk).2;omega) q hz h
 have hxl:=hI.up.l3;have hO:=fun h=>s8 G (s.tell.it.filter fun t=>q.bel s t) ((kC hI).sublist (List.filter_sublist.map _)) (R1 (X8 _ _) (by omega)) h
 have hR:(srtK ((s.tell.it.filter fun t=>q.bel s t).map It.ky)).map (·.i)=itmF s fun t=>q.bel s t:=rfl
 rw[hR]at hO;generalize (itmF s fun t=>q.bel s t)=R at*;obtain⟨p,hp⟩:∃p:It→Bool,p=fun t=>q.bel s t:=⟨_,rfl⟩
 have hE2:∀t∈s.tell.it,∀h,Sat (CT G) 68 [s.tell.av,q.av,t.av] h (fun r h'=>r=.bool (p t)∧h'=h):=by rw[hp];exact hE
 rw[← hp]at hO;clear hp hE hR hT hI;generalize s.tell=x at*;obtain⟨qo,qn,qs,qk⟩:=q;simp only[Qy.av_eq]at hE2 ⊢;have ml:(x.it.map It.av).length=x.it.length:=L8 ..;have F:=ml;refine sb [.tmp 4] Tryz.func35 ?_;intro Q hQ;refine wk F ?_;refine lm (fun nL tL hL=>∃(i w:Nat) (out:List It),x.it.length-i=nL∧h++[.row 40 9 0 [x.av],.row 25 4 0 [.agg [.int .i64 qo,.int .i64 qn,.str qs,.sl 4 (qk.map Qy.av)]],.row 69 9 w (out.map It.av)]=hL∧tL 2=.hp h.length 0 0 0∧tL 3=.hp (h.length+1) 0 0 0∧tL 5=.hs (h.length+2) w 0 out.length true∧tL 6=.int .i64 i∧i≤x.it.length∧out.length≤i∧out=(x.it.take i).filter p) ((fun(i w:Nat) (out:List It)=>(x.it.length-i:Nat)) (0) (0) ([])) ?_ ?_
 ·refine⟨_,_,Z2 5 69 9 (by simp) (by omega) (by exact zq F),⟨0,0,[],rfl,aw,?_,?_,?_,?_,by omega,by simp,by simp⟩⟩;all_goals try exact zZz F
 rintro _ s2 h' ⟨i,w,out,rfl,rfl,e2,e3,e5,e6,hi,hol,hop⟩ K2 hK2;simp only[ai,ak,Nat.reduceEqDiff, ↓reduceIte]at e2 e3 e5 e6;have F:=F5 F e2 e3 e5 e6;have hml:(out.map It.av).length=out.length:=L8 ..;have F:=F2 F hml;by_cases c1:i<x.it.length
 ·obtain⟨y,hy,hym⟩:=ac c1;have hc:=hE2 y hym;have hft:=dW p hy;have d1:=O4 c1;generalize p y=b at*;cases b with
  |true=>
   rw[M1 rfl]at hft;have F:=F4 F hy d1 @ax;(try refine sq F ?_);refine wk F ?_;refine au (hc _) ?_;(try refine sq F ?_);refine wk F ?_;refine aq F ?_;(try refine sq F ?_);refine wk F ?_;refine hK2 _ _ _ (M0 ⟨i+1,w+1,out++[y],rfl,by simp[It.av,St.av],?_,?_,?_,?_,by omega,by simp;omega,by rw[hft, ← hop]⟩) (by omega);all_goals try exact zZz F
  |false=>
   rw[L5 (by simp),O2]at hft;have F:=F3 F hy d1;(try refine sq F ?_);refine wk F ?_;refine au (hc _) ?_;(try refine sq F ?_);refine wk F ?_;refine hK2 _ _ _ (M0 ⟨i+1,w,out,rfl,aw,?_,?_,?_,?_,by omega,by omega,by rw[hft, ← hop]⟩) (by omega);all_goals try exact zZz F
 ·have d1:=O0 c1;rw[M4 (by omega)]at hop;rw[← hop]at hO;have F:=F2 F d1;try refine sq F ?_
  (repeat (first|refine w1 (fun K hK=>?_)|refine w2 ?_|refine w3 ?_| ((first|refine w4 ?_|refine wD ?_|refine w5 ?_|refine w6 ?_|refine w7 ?_);try refine sq F ?_)| (refine w8 ?_;refine sq F ?_;refine w9 ?_)| (refine rq F ?_;try refine sq F ?_)| (refine vq F ?_;try refine sq F ?_)))
  refine hK _ _ (M0 ?_);clear hK K;(repeat (first|refine w1 (fun K hK=>?_)|refine w2 ?_|refine w3 ?_| ((first|refine w4 ?_|refine wD ?_|refine w5 ?_|refine w6 ?_|refine w7 ?_);try refine sq F ?_)| (refine w8 ?_;refine sq F ?_;refine w9 ?_)| (refine rq F ?_;try refine sq F ?_)| (refine vq F ?_;try refine sq F ?_)))
  have hg:getRow (h++[.row 40 9 0 [x.av],.row 25 4 0 [.agg [.int .i64 qo,.int .i64 qn,.str qs,.sl 4 (qk.map Qy.av)]],.row 69 9 w (out.map It.av)]) (h.length+2) w=some (69,9,out.map It.av):=by rw[aV _ rfl];simp[getRow]
  have ht:∀(ms:List Nat) (t:Env) (H:Heap),getRow H (h.length+2) w=some (69,9,out.map It.av)→5∈ms→t 5=.hs (h.length+2) w 0 out.length true→∀i,upd t 5 (.sl 9 (out.map It.av)) i=t i∨(i∈ms∧Fz H (h.length+2) w (t i) (upd t 5 (.sl 9 (out.map It.av)) i)):=fun ms t H hg hm ht i=>by
   by_cases hi:i=5
   ·subst hi;right;refine⟨hm,?_⟩;rw[ht];simp only[upd, ↓reduceIte];exact Fz.all _ _ _ hg rfl (by simp)
   ·left;simp only[upd];rw[L5 hi]
  refine Di (Weak.fz (h.length+2) w hg (ht _ _ _ hg (by decide+kernel) (by exact zq F))) ?_;clear hg ht;rw[d9 _ rfl];refine wk F ?_;refine kq F (hO _) ?_;refine ee hQ F ?_;exact L6 (wP _ _) ⟨rfl,rfl⟩
end
end Go.Av
