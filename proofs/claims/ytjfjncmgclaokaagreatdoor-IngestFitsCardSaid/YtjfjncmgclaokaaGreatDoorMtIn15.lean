/- Each event fits; what was there stays as it was, but for the feed's title: the law. -/
import Derived.Test.YtjfjncmgclaokaaGreatDoorMtInb
import Derived.Test.YtjfjncmgclaokaaGreatDoorMtDx9
set_option linter.unusedSimpArgs false
set_option linter.unusedVariables false
set_option linter.unusedSectionVars false
set_option linter.unnecessarySimpa false
set_option maxRecDepth 100000
set_option maxHeartbeats 16000000
namespace Go.Av
open Go Go.Proofs Go.RowKit
theorem sj(l out:List En):(l.foldl onceS out).length≤out.length+l.length:=by
 induction l generalizing out with
 |nil=>simp
 |cons x l ih=>
  have h2:(onceS out x).length≤out.length+1:=by unfold onceS;split<;>simp
  have:=ih (onceS out x)
  rw[List.foldl_cons,List.length_cons];omega
theorem sk(l out:List En)(h:(l.foldl onceS out).length=out.length+l.length):l.foldl onceS out=out++l:=by
 induction l generalizing out with
 |nil=>simp
 |cons x l ih=>
  have h1:=sj l (onceS out x)
  rw[List.foldl_cons,List.length_cons]at h
  by_cases hc:out.any (fun y=>decide (y.guid=x.guid))=true
  ·have:onceS out x=out:=if_pos hc
   rw[this]at h1 h;omega
  ·have he:onceS out x=out++[x]:=if_neg hc
   rw[List.foldl_cons,he,ih _ (by rw[he]at h;rw[h,List.length_append,List.length_singleton];omega)]
   simp
theorem qL{l:List En}(h:(onceF l).length=l.length):l.Pairwise (fun a b=>a.guid≠b.guid):=by
 have h1:=sk l [] (by simpa [onceF]using h)
 have h2:=mz l [] .nil
 rw[h1]at h2;exact h2
def evT(f:Fe)(d:Fd):List Ev:=if f.title=[]∧d.title≠ []then [⟨5,f.id,0,0,[],d.title,[]⟩]else []
def evX(id c n:Int)(x:En):Ev:=⟨7,n,id,if x.dated then x.date else c,x.guid,x.title,x.link⟩
def evI(id c:Int):Int→List En→List Ev
 |_,[]=>[]
 |n,x::l=>evX id c n x::evI id c (n+1) l
def frF(s:PS)(id:Int)(l:List En):List En:=l.filter fun x=> !(lkM s.gu (id,x.guid)).isSome
def PS.room(s:PS):Int:=min (1024-s.it.length) (1048576-s.t3)
def brF(s:PS)(f:Fe)(d:Fd):List Ev:=evT f d++evI f.id s.clock (s.t3+1) ((frF s f.id d.es).take s.room.toNat)
def fitAll:PS→List Ev→Bool
 |_,[]=>true
 |s,e::l=>s.ok L0 e&&fitAll (s.step L0 e) l
structure Grow (s s':PS) (k:Nat):Prop where
 fe:s'.fe=s.fe
 fo:s'.fo=s.fo
 cl:s'.clock=s.clock
 t2:s'.t2=s.t2
 n:s'.it.length=s.it.length+k
 t:s'.t3=s.t3+k
 it:∀j,j≤s.t3→lkM s'.it j=lkM s.it j
 gu:∀key,(lkM s.gu key).isSome=true→(lkM s'.gu key).isSome=true
section
variable {s:PS} {id c:Int} {x:En}
theorem gw{t:Bs}{m:Nat}(h:textO t m=true):textF rightS cleanF t m=true:=by
 unfold textO at h;unfold textF
 simp only[Bool.and_eq_true,decide_eq_true_eq,beq_iff_eq]at*
 exact⟨by omega,h.1.2,h.2⟩
theorem qM(h:enOk x=true)(hc:momF c=true):momF (if x.dated then x.date else c)=true:=by
 unfold enOk dateOk at h
 simp only[Bool.and_eq_true]at h
 have hd:=h.2.2.2.2
 split
 ·rename_i hx;rw[if_pos hx]at hd;exact hd
 ·exact hc
theorem y9(hI:s.Inv)(hT:s.Tops)(hf:(lkM s.fe id).isSome=true)(hc:momF c=true)(hx:enOk x=true)(hg:lkM s.gu (id,x.guid)=none)(h1:s.it.length<1024)(h2:s.t3<1048576):s.ok L0 (evX id c (s.t3+1) x)=true:=by
 have hz:=hT.z
 have hm:=qM hx hc
 obtain⟨f,hf1⟩:=bv hf
 have hid:=(hI.i2 _ _ hf1).2
 have hn:lkM s.it (s.t3+1)=none:=by
  cases h:lkM s.it (s.t3+1)with
  |none=>rfl
  |some t=>have:=hT.i _ _ h;omega
 unfold enOk at hx
 simp only[Bool.and_eq_true,decide_eq_true_eq]at hx
 have hk:L0.ck (evX id c (s.t3+1) x)=true:=by
  unfold Leaf.ck
  rw[Bool.and_eq_true]
  refine⟨?_,by simp[usedE,evX]⟩
  have g1:idF (s.t3+1)=true:=by unfold idF;simp;omega
  have g2:idF id=true:=by unfold idF;simp;omega
  have g3:L0.place x.guid=true:=by
   show(!(x.guid==[])&&textF rightS cleanF x.guid 512)=true
   have h5:=gw hx.2.1
   rw[show((512:Nat):Int)=512 from rfl]at h5
   rw[h5]
   simpa using hx.1
  have g4:L0.title x.title=true:=gw hx.2.2.1
  have g5:L0.link x.link=true:=gw hx.2.2.2.1
  have g6:L0.moment (if x.dated then x.date else c)=true:=hm
  simp[Leaf.right,evX,g1,g2,g3,g4,g5,g6]
 unfold PS.ok PS.fits
 rw[hk]
 simp[evX,hn,h1,hf,hg]
theorem vT(hI:s.Inv)(hT:s.Tops)(hf:(lkM s.fe id).isSome=true)(hc:momF c=true)(hx:enOk x=true)(hg:lkM s.gu (id,x.guid)=none)(h1:s.it.length<1024)(h2:s.t3<1048576):
  Grow s (s.step L0 (evX id c (s.t3+1) x)) 1∧∀key,lkM (s.step L0 (evX id c (s.t3+1) x)).gu key=if key=(id,x.guid)then some (s.t3+1)else lkM s.gu key:=by
 have hn:lkM s.it (s.t3+1)=none:=by
  cases h:lkM s.it (s.t3+1)with
  |none=>rfl
  |some t=>have:=hT.i _ _ h;omega
 have he:s.step L0 (evX id c (s.t3+1) x)=((s.upIt (s.t3+1) ⟨s.t3+1,id,if x.dated then x.date else c,x.guid,x.title,x.link,false,false,[]⟩).upGu (id,x.guid) (s.t3+1)).raise 2 (s.t3+1):=by
  unfold PS.step
  rw[if_pos (y9 hI hT hf hc hx hg h1 h2)]
  simp[PS.aft,PS.after,PS.make,evX]
 rw[he]
 refine⟨⟨rfl,rfl,rfl,rfl,?_,?_,fun j hj=>?_,fun key hk=>?_⟩,fun key=>?_⟩
 ·show(upM s.it s.c3 _ _).length=_
  rw[mi,hn];rfl
 ·show(if s.t3+1>s.t3 then s.t3+1 else s.t3)=_
  rw[if_pos (by omega)];rfl
 ·show lkM (upM s.it s.c3 _ _) j=_
  rw[bB,if_neg (by omega)]
 ·show(lkM (upM s.gu s.c7 _ _) key).isSome=true
  exact cA _ _ _ hk
 ·show lkM (upM s.gu s.c7 _ _) key=_
  rw[bB]
end
theorem Grow.trans{a b d:PS}{j k:Nat}(h:Grow a b j)(g:Grow b d k):Grow a d (j+k) where
 fe:=g.fe.trans h.fe
 fo:=g.fo.trans h.fo
 cl:=g.cl.trans h.cl
 t2:=g.t2.trans h.t2
 n:=by rw[g.n,h.n];omega
 t:=by rw[g.t,h.t];omega
 it:=fun i hi=>(g.it i (by rw[h.t];omega)).trans (h.it i hi)
 gu:=fun key hk=>g.gu key (h.gu key hk)
theorem sm{s:PS}{k:Nat}(h:(k:Int)≤s.room):(k:Int)≤1024-s.it.length∧(k:Int)≤1048576-s.t3:=by
 unfold PS.room at h;omega
theorem mA{id c:Int}(hc:momF c=true):∀(l:List En) (s:PS),s.Inv→s.Tops→(lkM s.fe id).isSome=true→(∀x∈l,enOk x=true)→l.Pairwise (fun a b=>a.guid≠b.guid)→(∀x∈l,lkM s.gu (id,x.guid)=none)→(l.length:Int)≤s.room→
  fitAll s (evI id c (s.t3+1) l)=true∧Grow s ((evI id c (s.t3+1) l).foldl (PS.step L0) s) l.length∧∀x∈l,(lkM ((evI id c (s.t3+1) l).foldl (PS.step L0) s).gu (id,x.guid)).isSome=true
 | [],s,_,_,_,_,_,_,_=>⟨rfl,⟨rfl,rfl,rfl,rfl,rfl,by simp[evI],fun _ _=>rfl,fun _ h=>h⟩,fun x hx=>by cases hx⟩
 |x::l,s,hI,hT,hf,ho,hp,hg,hr=>by
  have hr2:=sm hr
  rw[List.length_cons]at hr2
  have hx:=ho x (by simp)
  have hgx:=hg x (by simp)
  have h1:s.it.length<1024:=by omega
  have h2:s.t3<1048576:=by omega
  have hk:=y9 hI hT hf hc hx hgx h1 h2
  obtain⟨G1,gq⟩:=vT hI hT hf hc hx hgx h1 h2
  rw[List.pairwise_cons]at hp
  have ht:=G1.t
  have hn:=G1.n
  obtain⟨r1,r2,r3⟩:=mA hc l (s.step L0 (evX id c (s.t3+1) x)) (hI.step _) (hT.step hI _) (by rw[G1.fe];exact hf) (fun y hy=>ho y (by simp[hy])) hp.2
   (fun y hy=>by rw[gq,if_neg (fun e=>hp.1 y hy (Prod.mk.inj e).2.symm)];exact hg y (by simp[hy]))
   (by unfold PS.room;rw[hn,ht];omega)
  rw[ht]at r1 r2 r3
  refine⟨?_,?_,?_⟩
  ·rw[evI,fitAll,hk];exact r1
  ·rw[evI,List.foldl_cons,List.length_cons,Nat.add_comm];exact G1.trans r2
  ·intro y hy
   rw[evI,List.foldl_cons]
   rcases List.mem_cons.1 hy with rfl|hy
   ·exact r2.gu _ (by rw[gq,if_pos rfl];rfl)
   ·exact r3 y hy
end Go.Av
namespace Go.Av
open Go Go.Proofs Go.RowKit
structure Brought (s s':PS) (id:Int):Prop where
 fo:s'.fo=s.fo
 cl:s'.clock=s.clock
 t2:s'.t2=s.t2
 it:∀k t,lkM s.it k=some t→lkM s'.it k=some t
 ke:s'.fe.map (·.1)=s.fe.map (·.1)
 fe:∀k,k≠id→lkM s'.fe k=lkM s.fe k
 f:∀f,lkM s.fe id=some f→∃t,lkM s'.fe id=some {f with title:=t}
section
variable {s:PS} {id:Int} {f:Fe} {d:Fd}
theorem CP(hI:s.Inv)(hf:lkM s.fe id=some f)(ht:textO d.title 256=true):s.ok L0 ⟨5,id,0,0,[],d.title,[]⟩=true:=by
 have hid:=(hI.i2 _ _ hf).2
 have hk:L0.ck ⟨5,id,0,0,[],d.title,[]⟩=true:=by
  unfold Leaf.ck
  rw[Bool.and_eq_true]
  refine⟨?_,by simp[usedE]⟩
  have g1:idF id=true:=by unfold idF;simp;omega
  have g2:L0.title d.title=true:=gw ht
  simp[Leaf.right,g1,g2]
 unfold PS.ok PS.fits
 rw[hk]
 simp[hf]
theorem su(l1 l2:List Ev)(s:PS):fitAll s (l1++l2)=(fitAll s l1&&fitAll (l1.foldl (PS.step L0) s) l2):=by
 induction l1 generalizing s with
 |nil=>simp[fitAll]
 |cons e l ih=>rw[List.cons_append,fitAll,ih,fitAll,List.foldl_cons,Bool.and_assoc]
theorem sv(hI:s.Inv)(hf:lkM s.fe id=some f)(ht:textO d.title 256=true):
  fitAll s (evT f d)=true∧∃s1,(evT f d).foldl (PS.step L0) s=s1∧s1.gu=s.gu∧s1.it=s.it∧s1.t3=s.t3∧s1.clock=s.clock∧s1.fo=s.fo∧s1.t2=s.t2∧
   s1.fe.map (·.1)=s.fe.map (·.1)∧(∀k,k≠id→lkM s1.fe k=lkM s.fe k)∧∃f1,lkM s1.fe id=some f1∧f1= {f with title:=f1.title}∧(f1.title=[]→d.title=[]):=by
 have hi:=(hI.i2 _ _ hf).1
 unfold evT
 split
 ·rename_i hc
  rw[hi]
  have hk:=CP hI hf ht
  refine⟨by simp[fitAll,hk],_,rfl,?_⟩
  have he:s.step L0 ⟨5,id,0,0,[],d.title,[]⟩=s.upFe id {f with title:=d.title}:=by
   unfold PS.step
   rw[if_pos hk]
   simp[PS.aft,PS.after,hf]
  rw[List.foldl_cons,List.foldl_nil,he]
  refine⟨rfl,rfl,rfl,rfl,rfl,rfl,?_,fun k hk=>?_,{f with title:=d.title},?_,by rw[← hi],fun h=>h⟩
  ·show(upM s.fe s.c2 id _).map (·.1)=_
   rw[gU,hf];rfl
  ·show lkM (upM s.fe s.c2 id _) k=_
   rw[bB,if_neg hk]
  ·show lkM (upM s.fe s.c2 id _) id=_
   rw[bB,if_pos rfl]
 ·rename_i hc
  exact⟨rfl,s,rfl,rfl,rfl,rfl,rfl,rfl,rfl,rfl,fun _ _=>rfl,f,hf,rfl,fun h=>Decidable.byContradiction fun h2=>hc ⟨h,h2⟩⟩
theorem tG(h:d.es.Pairwise fun a b=>a.guid≠b.guid)(n:Nat):((frF s id d.es).take n).Pairwise fun a b=>a.guid≠b.guid:=
 h.sublist ((List.take_sublist _ _).trans List.filter_sublist)
theorem qN{l:List En}{x:En}(h:x∈frF s id l):x∈l∧lkM s.gu (id,x.guid)=none:=by
 have h1:=List.mem_filter.1 h
 exact⟨h1.1,ji (by simpa using h1.2)⟩
theorem sx{l:List En}(h:∀x∈l,(lkM s.gu (id,x.guid)).isSome=true):frF s id l=[]:=by
 unfold frF
 rw[List.filter_eq_nil_iff]
 intro x hx
 rw[h x hx];simp
theorem p9(hI:s.Inv)(hT:s.Tops)(hf:lkM s.fe id=some f)(hd:fdOk d=true):
  fitAll s (brF s f d)=true∧Brought s ((brF s f d).foldl (PS.step L0) s) id∧(∃f',lkM ((brF s f d).foldl (PS.step L0) s).fe id=some f'∧brF ((brF s f d).foldl (PS.step L0) s) f' d=[])∧
   ((d.es.length:Int)≤s.room→∀x∈d.es,(lkM ((brF s f d).foldl (PS.step L0) s).gu (id,x.guid)).isSome=true):=by
 have hi:=(hI.i2 _ _ hf).1
 unfold fdOk at hd
 simp only[Bool.and_eq_true,decide_eq_true_eq,List.all_eq_true]at hd
 obtain⟨t1,s1,e1,g1,i1,u1,c1,o1,v1,k1,fe1,f1,hf1,hq1,hz1⟩:=sv (d:=d) hI hf hd.2.1
 have hr0:0≤s.room:=by have:=hI.l3;have:=hT.m;unfold PS.room;omega
 have I1:s1.Inv:=e1▸hI.fold _
 have T1:s1.Tops:=e1▸hT.fold hI _
 have hb:brF s f d=evT f d++evI id s1.clock (s1.t3+1) ((frF s id d.es).take s.room.toNat):=by rw[brF,hi,u1,c1]
 rw[hb,su,List.foldl_append,e1,t1,Bool.true_and]
 have hl:((frF s id d.es).take s.room.toNat).length=min s.room.toNat (frF s id d.es).length:=List.length_take ..
 have hlm:=fun x (hx:x∈ (frF s id d.es).take s.room.toNat)=>qN (List.mem_of_mem_take hx)
 have hr1:s1.room=s.room:=by unfold PS.room;rw[i1,u1]
 obtain⟨r1,G,r3⟩:=mA (id:=id) (c:=s1.clock) T1.c ((frF s id d.es).take s.room.toNat) s1 I1 T1 (by rw[hf1];rfl) (fun x hx=>hd.2.2.2.2 x (hlm x hx).1)
  (tG (qL hd.2.2.2.1) _) (fun x hx=>by rw[g1];exact(hlm x hx).2) (by rw[hr1,hl];omega)
 generalize hl2:(frF s id d.es).take s.room.toNat=l at*
 generalize (evI id s1.clock (s1.t3+1) l).foldl (PS.step L0) s1=s2 at*
 have hall:(frF s id d.es).length≤s.room.toNat→∀x∈d.es,(lkM s2.gu (id,x.guid)).isSome=true:=fun hc x hx=>by
  cases hg:(lkM s.gu (id,x.guid)).isSome with
  |true=>exact G.gu _ (by rw[g1];exact hg)
  |false=>
   refine r3 x ?_
   rw[← hl2,List.take_of_length_le hc]
   exact List.mem_filter.2 ⟨hx,by simp[hg]⟩
 refine⟨r1,⟨G.fo.trans o1,G.cl.trans c1,G.t2.trans v1,fun k t hk=>?_,by rw[G.fe,k1],fun k hk=>by rw[G.fe,fe1 k hk],fun f0 h0=>⟨f1.title,?_⟩⟩,⟨f1,by rw[G.fe,hf1],?_⟩,fun hr=>hall ?_⟩
 ·have:=hT.i k t hk
  rw[G.it k (by omega),i1,hk]
 ·rw[hf]at h0;cases h0
  rw[G.fe,hf1];exact congrArg some hq1
 ·have h1:evT f1 d=[]:=if_neg fun h=>h.2 (hz1 h.1)
  have h2:f1.id=id:=by rw[hq1];exact hi
  rw[brF,h1,h2,List.nil_append]
  have h3:(frF s2 id d.es).take s2.room.toNat=[]:=by
   by_cases hc:(frF s id d.es).length≤s.room.toNat
   ·rw[sx (hall hc),List.take_nil]
   ·have hn:=G.n
    have ht:=G.t
    have:s2.room.toNat=0:=by
     unfold PS.room at hr0 hl hc ⊢
     rw[i1]at hn;rw[u1]at ht
     rw[hn,ht];omega
    rw[this];rfl
  rw[h3];rfl
 ·have:=List.length_filter_le (fun x:En=> !(lkM s.gu (id,x.guid)).isSome) d.es
  unfold frF;omega
end
end Go.Av
namespace Go.Av
open Go Go.Proofs Go.RowKit
variable {s s':PS} {id:Int}
theorem vU(hI:s.Inv)(hB:Brought s s' id){i:Nat}{b:Fe}(hb:(valsM Fe.z s.fe)[i]? =some b):
  ∃a,(valsM Fe.z s'.fe)[i]? =some a∧a.id=b.id∧a.inn=b.inn∧a.url=b.url∧(b.id≠id→a.title=b.title):=by
 obtain⟨k0,hk0⟩:=i7 (List.mem_of_getElem? hb)
 unfold valsM at hb ⊢
 rw[hB.ke]
 rw[List.getElem?_map,Option.map_eq_some_iff]at hb
 obtain⟨k,hk,hb⟩:=hb
 rw[List.getElem?_map,hk]
 refine⟨_,rfl,?_⟩
 have hkm:k∈s.fe.map (·.1):=(List.mergeSort_perm _ _).mem_iff.1 (List.mem_of_getElem? hk)
 have hl:lkM s.fe k=some b:=by
  cases h:lkM s.fe k with
  |none=>exact(j4 (by rw[h];rfl) hkm).elim
  |some a=>rw[h]at hb;exact congrArg some hb
 have hbi:=(hI.i2 _ _ hl).1
 show((lkM s'.fe k).getD Fe.z).id=b.id∧((lkM s'.fe k).getD Fe.z).inn=b.inn∧((lkM s'.fe k).getD Fe.z).url=b.url∧(b.id≠id→((lkM s'.fe k).getD Fe.z).title=b.title)
 by_cases hc:k=id
 ·subst hc
  obtain⟨t,ht⟩:=hB.f b hl
  rw[ht]
  exact⟨rfl,rfl,rfl,fun h=>(h hbi).elim⟩
 ·rw[hB.fe k hc,hl]
  exact⟨rfl,rfl,rfl,fun _=>rfl⟩
theorem vV(hI:s.Inv)(hB:Brought s s' id){t:It}(ht:t∈valsM It.z s.it):lkM s'.it t.id=some t:=by
 obtain⟨k,hk⟩:=i7 ht
 rw[(hI.i3 _ _ hk).1]
 exact hB.it k t hk
theorem fN{α:Type}(z:α)(l:ML Int α):(valsM z l).length=l.length:=by
 unfold valsM;rw[List.length_map,bS,List.length_map]
theorem Ak(hB:Brought s s' id):(valsM Fe.z s'.fe).length=(valsM Fe.z s.fe).length:=by
 have:=congrArg List.length hB.ke
 rw[fN,fN];simpa using this
end Go.Av
namespace Go.Av
open Go Go.Proofs Go.RowKit
attribute [local irreducible] WP WPl WPix Sat
variable (G:Nat→Option (List AVal))
section
variable (s:PS) {H:Heap} {n:Nat} (hn:n+9≤H.length)
include hn
theorem nX(id:Int):Sat (CT G) 78 [.hp (n+8) 0 0 0,.int .i64 id] (so H n s) (fun r h'=>r=.tup [((lkM s.fe id).getD Fe.z).av,.bool (lkM s.fe id).isSome]∧h'=so H n s):=by
 refine sb [.cell 4 69,.tmp 5] (fn:=Tryz.f78) Tryz.func78 ?_
 intro Q hQ
 refine wk trivial ?_
 refine ye hQ trivial ?_
 exact af hn (.tup _ (fun x hx=>by simp only[List.mem_cons,List.not_mem_nil,or_false]at hx;rcases hx with rfl|rfl;exact Fe.clo _ _;exact .bool _)) ⟨rfl,rfl⟩
theorem iT(id:Int)(g:Bs):Sat (CT G) 29 [.hp (n+8) 0 0 0,.int .i64 id,.str g] (so H n s) (fun r h'=>r=.tup [.int .i64 ((lkM s.gu (id,g)).getD 0),.bool (lkM s.gu (id,g)).isSome]∧h'=so H n s):=by
 refine sb [.tmp 6,.tmp 7] (fn:=Tryz.f29) Tryz.func29 ?_
 intro Q hQ
 refine wk trivial ?_
 refine ye hQ trivial ?_
 exact bj hn (.tup _ (fun x hx=>by simp only[List.mem_cons,List.not_mem_nil,or_false]at hx;rcases hx with rfl|rfl;exact .int _ _;exact .bool _)) ⟨rfl,rfl⟩
theorem jK:Sat (CT G) 43 [.hp (n+8) 0 0 0,.int .i64 7] (so H n s) (fun r h'=>r=.int .i64 s.t3∧h'=so H n s):=by
 refine sb [.tmp 4] (fn:=Tryz.f43) Tryz.func43 ?_
 intro Q hQ
 refine wk trivial ?_
 refine ee hQ trivial ?_
 exact bj hn (.int _ _) ⟨rfl,rfl⟩
theorem pc:Sat (CT G) 80 [.hp (n+8) 0 0 0] (so H n s) (fun r h'=>r=.int .i64 s.clock∧h'=so H n s):=by
 refine sb [.tmp 2] (fn:=Tryz.f80) Tryz.func80 ?_
 intro Q hQ
 refine wk trivial ?_
 refine ee hQ trivial ?_
 exact bj hn (.int _ _) ⟨rfl,rfl⟩
theorem fO(hI:s.Inv)(hT:s.Tops):Sat (CT G) 18 [.hp (n+8) 0 0 0] (so H n s) (fun r h'=>r=.int .i64 s.room∧h'=so H n s):=by
 have T1:=eR G s hI.toOk hn
 have T2:=jK G s hn
 have hl:(valsM It.z s.it).length=s.it.length:=fN _ _
 have h3:=hI.l3
 have h4:=hT.z
 have h5:=hT.m
 refine sb [.tmp 2] (fn:=Tryz.f18) Tryz.func18 ?_
 intro Q hQ
 refine wk trivial ?_
 refine kq trivial (T1) ?_
 refine kq trivial (T2) ?_
 refine ee hQ trivial ?_
 refine bj hn (.int _ _) ⟨?_,rfl⟩
 have hl2:s.tell.it.length=s.it.length:=hl
 rw[hl2]
 have hw:IntKind.i64.wrap (1024-(s.it.length:Int))=1024-s.it.length:=by rw[fk (by omega) (by omega)]
 rw[hw]
 unfold PS.room
 congr 1
 by_cases hc:1048576-s.t3<1024-(s.it.length:Int)
 ·rw[if_pos (decide_eq_true hc)];omega
 ·rw[if_neg (by simpa using hc)];omega
end
end Go.Av
namespace Go.Av
open Go Go.Proofs Go.RowKit
attribute [local irreducible] WP WPl WPix Sat SatY
def frB(sp:AVal)(id:Int)(l:List En):List Blk:=[.row 40 1 0 [sp],.row 3 1 0 [.int .i64 id],.row 23 1 0 [.sl 5 (l.map En.av)]]
variable (G:Nat→Option (List AVal))
section
variable {s:PS} {H:Heap} {n:Nat}
theorem nY(hn:n+9≤H.length)(id:Int)(l:List En):
  Sat (CT G) 79 [.hp (n+8) 0 0 0,.int .i64 id,.sl 5 (l.map En.av)] (so H n s)
   (fun r h'=>r=.fn (.func 132) [] [.hp (H.length+2) 0 0 0,.hp H.length 0 0 0,.hp (H.length+1) 0 0 0]∧h'=so (H++frB (.hp (n+8) 0 0 0) id l) n s):=by
 have clo:∀N,H.length+3≤N→Clo N (.fn (.func 132) [] [.hp (H.length+2) 0 0 0,.hp H.length 0 0 0,.hp (H.length+1) 0 0 0]):=fun N hN=>.fn _ _ _ (fun x hx=>by simp at hx) fun x hx=>by
  simp only[List.mem_cons,List.not_mem_nil,or_false]at hx
  rcases hx with rfl|rfl|rfl<;>exact .hp _ _ _ _ (by omega)
 have F:= @ai
 refine sb [.tmp 6] (fn:=Tryz.f79) Tryz.func79 ?_
 intro Q hQ
 refine wk F ?_
 refine ee hQ F ?_
 exact Fin.whole (by rw[aJ hn,aJ (by simp;omega)];simp) (clo _ (by rw[aJ (by simp;omega)];simp)) ⟨rfl,rfl⟩
theorem qO(l:List En)(hl:l.length≤1048576)(id:Int)(N yl q b0:Nat)(B Bs:List En→Heap→Heap)
  (hB:∀pre j j',B pre j++j'=B pre (j++j'))(hBl:∀pre j,(B pre j).length=b0+j.length)(hBsl:∀pre j,(Bs pre j).length=b0+j.length)(hb0:q+3≤b0)(hq:n+9≤q)
  (hr0:∀pre j,getRow (B pre j) q 0=some (40,1,[.hp (n+8) 0 0 0]))(hr1:∀pre j,getRow (B pre j) (q+1) 0=some (3,1,[.int .i64 id]))(hr2:∀pre j,getRow (B pre j) (q+2) 0=some (23,1,[.sl 5 (l.map En.av)]))
  (hY:∀pre j y,pre.length≤N→SatY (CT G) yl [y.av] (so (B pre j) n s) (fun r h'=>∃j',j.length≤j'.length∧((pre.length<N∧r=.bool true∧h'=so (B (pre++[y]) j') n s)∨(pre.length=N∧r=.bool false∧h'=so (Bs pre j') n s))))(j0:Heap):
  Sat (CT G) 132 [.fn (.yield yl) [] [],.hp (q+2) 0 0 0,.hp q 0 0 0,.hp (q+1) 0 0 0] (so (B [] j0) n s)
   (fun _ h'=>∃j,((frF s id l).length≤N∧h'=so (B (frF s id l) j) n s)∨(N<(frF s id l).length∧h'=so (Bs ((frF s id l).take N) j) n s)):=by
 have ct:∀N,Clo N (.tup []):=fun N=>.tup _ (fun x hx=>by simp at hx)
 have hn:∀pre j,n+9≤(B pre j).length:=fun pre j=>by rw[hBl];omega
 have hn':∀pre j (x:Blk),n+9≤(B pre j++[x]).length:=fun pre j x=>by rw[List.length_append,hBl];omega
 have hns:∀pre j,n+9≤(Bs pre j).length:=fun pre j=>by rw[hBsl];omega
 have hnA:=hn [] j0
 have v2:=hr2 [] j0
 have hml:(l.map En.av).length=l.length:=List.length_map ..
 have F:=F2 v2 hml
 refine sb [] (fn:=Tryz.f132) Tryz.func132 ?_
 intro Q hQ
 refine wk F ?_
 refine lm (fun nL tL hL=>∃(k:Nat) (j:Heap),l.length-k=nL∧so (B (frF s id (l.take k)) j) n s=hL∧tL 11=.int .i64 k∧k≤l.length∧j0.length≤j.length∧(frF s id (l.take k)).length≤N) ((fun(k:Nat) (j:Heap)=>(l.length-k:Nat)) (0) (j0)) ?_ ?_
 ·refine Wkn.refl ⟨0,j0,rfl,aY,?_,by omega,by omega,by simp[frF]⟩
  all_goals first|exact zq F|rfl|omega|trivial|skip
 rintro _ s2 h' ⟨k,j,rfl,rfl,e11,hk,hj,hp⟩ K2 hK2
 simp only[am,ao,Nat.reduceEqDiff, ↓reduceIte]at e11
 have F:=F2 F e11
 by_cases c2:k<l.length
 ·have d2:=decide_eq_true c2
  obtain⟨y,hy,hym⟩:=ak c2
  have hm:(l.map En.av)[k]? =some y.av:=by rw[List.getElem?_map,hy];rfl
  have hfl:frF s id (l.take (k+1))=frF s id (l.take k)++if (lkM s.gu (id,y.guid)).isSome then []else [y]:=by
   unfold frF
   rw[List.take_add_one,hy,Option.toList_some,List.filter_append,List.filter_cons,List.filter_nil]
   cases(lkM s.gu (id,y.guid)).isSome<;>rfl
  have hwh:(lkM s.gu (id,y.guid)).isSome=false→frF s id l=frF s id (l.take k)++y::frF s id (l.drop (k+1)):=fun hb=>by
   have e1:frF s id l=frF s id (l.take (k+1)++l.drop (k+1)):=by rw[List.take_append_drop]
   rw[e1]
   show(List.filter _ _)=_
   rw[List.filter_append]
   show frF s id (l.take (k+1))++frF s id (l.drop (k+1))=_
   rw[hfl,hb,List.append_assoc];rfl
  generalize frF s id (l.take k)=pre at hp hfl hwh ⊢
  have hG1:=iT G s (H:=B pre (j++[.row 61 5 0 [y.av]])) (n:=n) (hn _ _) id y.guid
  have hY1:=hY pre (j++[.row 61 5 0 [y.av]]) y hp
  have hb1:∀p,p<b0→∀u x,getRow (B pre j++[x]) p u=getRow (B pre j) p u:=fun p hp u x=>bq _ (by rw[hBl];omega)
  have g0:getRow (B pre j++[.row 61 5 0 [y.av]]) q 0=some (40,1,[.hp (n+8) 0 0 0]):=by rw[hb1 _ (by omega)];exact hr0 _ _
  have g1:getRow (B pre j++[.row 61 5 0 [y.av]]) (q+1) 0=some (3,1,[.int .i64 id]):=by rw[hb1 _ (by omega)];exact hr1 _ _
  rw[← hB]at hG1 hY1
  obtain⟨yg,yt,yk,ya,yb⟩:=y
  rw[En.av_eq]at hY1 hm g0 g1
  rw[En.av_eq]at hG1
  simp only[]at hG1 hfl hwh
  have hnB:=hn pre j
  have hnC:=hn' pre j (.row 61 5 0 [.agg [.str yg,.str yt,.str yk,.int .i64 ya,.bool yb]])
  cases hb:(lkM s.gu (id,yg)).isSome with
  |true=>
   rw[hb]at hG1 hfl
   have F:=F8 F hm hy d2 c2 g0 g1 @ai
   try refine sq F ?_
   refine wk F ?_
   refine kq F (hG1) ?_
   refine hK2 _ _ _ (Wkn.refl ⟨k+1,j++[.row 61 5 0 [.agg [.str yg,.str yt,.str yk,.int .i64 ya,.bool yb]]],rfl,by rw[hfl];simp[hB,En.av],?_,by omega,by simp;omega,by rw[hfl];simpa using hp⟩) (by omega)
   all_goals first|exact zq F|rfl|omega|trivial|skip
  |false=>
   rw[hb]at hG1 hfl
   have hwh:=hwh hb
   have F:=F8 F hm hy d2 c2 g0 g1 @ai
   try refine sq F ?_
   refine wk F ?_
   refine kq F (hG1) ?_
   refine hY1.mono ?_
   rintro r h' ⟨j',hj',⟨hlt2,rfl,rfl⟩| ⟨heq,rfl,rfl⟩⟩
   ·try refine sq F ?_
    refine wk F ?_
    refine hK2 _ _ _ (Wkn.refl ⟨k+1,j',rfl,by rw[hfl];rfl,?_,by omega,by simp at hj';omega,by rw[hfl];simp;omega⟩) (by omega)
    all_goals first|exact zq F|rfl|omega|trivial|skip
   ·try refine sq F ?_
    refine wk F ?_
    refine ee hQ F ?_
    refine Fin.whole (by rw[aJ (hn _ _),aJ (hns _ _),hBl,hBsl];simp at hj';omega) (ct _) ⟨j',.inr ⟨by rw[hwh];simp;omega,?_⟩⟩
    rw[hwh, ← heq,List.take_left' rfl]
 ·have d2:=decide_eq_false c2
  have e:k=l.length:=by omega
  subst e
  rw[List.take_of_length_le (Nat.le_refl _)]at hp ⊢
  have F:=F2 F d2
  try refine sq F ?_
  refine wk F ?_
  refine ee hQ F ?_
  exact Fin.whole (by rw[aJ (hn _ _),aJ (hn _ _),hBl,hBl];omega) (ct _) ⟨j,.inl ⟨hp,rfl⟩⟩
end
end Go.Av
namespace Go.Av
open Go Go.Proofs Go.RowKit
attribute [local irreducible] WP WPl WPix Sat SatY
def uF(sw:Bool)(R t3:Int)(k:Nat):Int:=if sw then t3+1+k else R-k
def vF(sw:Bool)(R t3:Int)(k:Nat):Int:=if sw then R-k else t3+1+k
def bgM(H:Heap)(n:Nat)(fv dv:AVal)(id:Int)(l:List En)(sw:Bool)(R t3:Int)(ws:List Ev)(k:Nat)(z:Blk)(j:Heap):Heap:=
 H++(.row 40 1 0 [.hp (n+8) 0 0 0]:: .row 69 4 0 [fv]:: .row 25 3 0 [dv]:: .row 33 1 0 [.hs (H.length+4) ws.length 0 ws.length true]::
  .row 57 7 ws.length (ws.map Ev.av):: .row 3 1 0 [.int .i64 (uF sw R t3 k)]:: .row 3 1 0 [.int .i64 (vF sw R t3 k)]:: .row 40 1 0 [.hp (n+8) 0 0 0]:: .row 3 1 0 [.int .i64 id]:: .row 23 1 0 [.sl 5 (l.map En.av)]:: .df::z::j)
section
variable {H:Heap} {n:Nat} {fv dv:AVal} {id:Int} {l:List En} {sw:Bool} {R t3:Int} {ws:List Ev} {k:Nat} {z:Blk} {j:Heap}
theorem eB(j':Heap):bgM H n fv dv id l sw R t3 ws k z j++j'=bgM H n fv dv id l sw R t3 ws k z (j++j'):=by simp[bgM]
theorem di:(bgM H n fv dv id l sw R t3 ws k z j).length=H.length+12+j.length:=by simp[bgM];omega
theorem dj:(bgM H n fv dv id l sw R t3 ws k z j)[H.length+11]? =some z:=by
 unfold bgM;rw[List.getElem?_append_right (by omega),Nat.add_sub_cancel_left];rfl
theorem tH:(bgM H n fv dv id l sw R t3 ws k z j)[H.length+10]? =some .df:=by
 unfold bgM;rw[List.getElem?_append_right (by omega),Nat.add_sub_cancel_left];rfl
theorem eC(z':Blk):(bgM H n fv dv id l sw R t3 ws k z j).set (H.length+11) z'=bgM H n fv dv id l sw R t3 ws k z' j:=by
 unfold bgM;rw[dH _ rfl];rfl
theorem bm(i v:Nat):getRow (bgM H n fv dv id l sw R t3 ws k z j) (H.length+i) v=getRow (.row 40 1 0 [.hp (n+8) 0 0 0]:: .row 69 4 0 [fv]:: .row 25 3 0 [dv]:: .row 33 1 0 [.hs (H.length+4) ws.length 0 ws.length true]::
  .row 57 7 ws.length (ws.map Ev.av):: .row 3 1 0 [.int .i64 (uF sw R t3 k)]:: .row 3 1 0 [.int .i64 (vF sw R t3 k)]:: .row 40 1 0 [.hp (n+8) 0 0 0]:: .row 3 1 0 [.int .i64 id]:: .row 23 1 0 [.sl 5 (l.map En.av)]:: .df::z::j) i v:=br v rfl
theorem mB(e:Ev):((((bgM H n fv dv id l sw R t3 ws k z j).set (H.length+4) (.row 57 7 (ws.length+1) (ws.map Ev.av++[e.av]))).set (H.length+3) (.row 33 1 0 [.hs (H.length+4) (ws.length+1) 0 (ws.length+1) true])).set (H.length+5) (.row 3 1 0 [.int .i64 (uF sw R t3 (k+1))])).set (H.length+6) (.row 3 1 0 [.int .i64 (vF sw R t3 (k+1))])=bgM H n fv dv id l sw R t3 (ws++[e]) (k+1) z j:=by
 unfold bgM
 rw[dH _ rfl,dH _ rfl,dH _ rfl,dH _ rfl]
 simp only[List.set_cons_succ,List.set_cons_zero,List.length_append,List.length_singleton,List.map_append,List.map_cons,List.map_nil]
theorem qP(e:Ev):((((bgM H n fv dv id l sw R t3 ws k z j).set (H.length+4) (.row 57 7 (ws.length+1) (ws.map Ev.av++[e.av]))).set (H.length+3) (.row 33 1 0 [.hs (H.length+4) (ws.length+1) 0 (ws.length+1) true])).set (H.length+6) (.row 3 1 0 [.int .i64 (vF sw R t3 (k+1))])).set (H.length+5) (.row 3 1 0 [.int .i64 (uF sw R t3 (k+1))])=bgM H n fv dv id l sw R t3 (ws++[e]) (k+1) z j:=by
 rw[List.set_comm _ _ (by omega)]
 exact mB e
end
def outF(vs:List Ev)(id c t3:Int)(pre:List En):List Ev:=vs++evI id c (t3+1) pre
theorem mC(id c:Int)(y:En):∀(pre:List En) (t:Int),evI id c t (pre++[y])=evI id c t pre++[evX id c (t+pre.length) y]
 | [],t=>by simp[evI]
 |x::pre,t=>by
  rw[List.cons_append,evI,mC id c y pre (t+1),evI,List.cons_append,List.length_cons]
  rw[show t+1+(pre.length:Int)=t+((pre.length+1:Nat):Int) by omega]
theorem qQ(vs:List Ev)(id c t3:Int)(pre:List En)(y:En):outF vs id c t3 (pre++[y])=outF vs id c t3 pre++[evX id c (t3+1+pre.length) y]:=by
 unfold outF;rw[mC,List.append_assoc]
theorem jk(id c:Int):∀(l:List En) (t:Int),(evI id c t l).length=l.length
 | [],_=>rfl
 |x::l,t=>by rw[evI,List.length_cons,List.length_cons,jk id c l]
theorem qR(vs:List Ev)(id c t3:Int)(pre:List En):(outF vs id c t3 pre).length=vs.length+pre.length:=by
 unfold outF;rw[List.length_append,jk]
theorem cB{H:Heap}{n:Nat}{s:PS}(hn:n+9≤H.length){p:Nat}(hp:n+9≤p):(so H n s)[p]? =H[p]? :=fE hn (.inr hp)
variable (G:Nat→Option (List AVal))
section
variable {s:PS} {H:Heap} {n:Nat}
theorem nZ{ass body:Code}{kk:Nat}{t:Env}{Q1:Exit→Env→Heap→Prop}(l:List En)(hl:l.length≤1048576)(id:Int)(fv dv:AVal)(sw:Bool)(R:Int)(vs:List Ev)(N yl:Nat)(hn:n+9≤H.length)
  (okA:okCode kk ass=true)(okB:okCode kk body=true)(flA:flat ass=true)(flB:flat body=true)
  (hA:∀(y:En) (H':Heap) (Q:Exit→Env→Heap→Prop),Q .normal (upd (upd t 39 y.av) 10 (.hp H'.length 0 0 0)) (H'++[.row 61 5 0 [y.av]])→WP (CT G) ass Q (upd t 39 y.av) H')
  (hB:∀(y:En) (pre:List En) (j:Heap) (z:Blk) (Q:Exit→Env→Heap→Prop),pre.length≤N→
   (pre.length=N→∀t',Q (.exit 0) t' (so (bgM H n fv dv id l sw R s.t3 (outF vs id s.clock s.t3 pre) pre.length z (j++[.row 61 5 0 [y.av]])) n s))→
   (pre.length<N→∀t',Q .normal t' (so (bgM H n fv dv id l sw R s.t3 (outF vs id s.clock s.t3 (pre++[y])) (pre.length+1) z (j++[.row 61 5 0 [y.av],.row 57 7 0 [(evX id s.clock (s.t3+1+pre.length) y).av]])) n s))→
   WP (CT G) body Q (upd (upd t 39 y.av) 10 (.hp (H.length+12+j.length) 0 0 0)) (so (bgM H n fv dv id l sw R s.t3 (outF vs id s.clock s.t3 pre) pre.length z j++[.row 61 5 0 [y.av]]) n s))
  (f0:∀j,Q1 .normal t (so (bgM H n fv dv id l sw R s.t3 (outF vs id s.clock s.t3 ((frF s id l).take N)) ((frF s id l).take N).length .dead j) n s))
  (f1:∀j,Q1 (.exit 0) t (so (bgM H n fv dv id l sw R s.t3 (outF vs id s.clock s.t3 ((frF s id l).take N)) ((frF s id l).take N).length .dead j) n s)):
  Sat (CT G) 132 [.fn (.yield yl) [] [],.hp (H.length+9) 0 0 0,.hp (H.length+7) 0 0 0,.hp (H.length+8) 0 0 0]
   (so (H++[Blk.row 40 1 0 [.hp (n+8) 0 0 0],.row 69 4 0 [fv],.row 25 3 0 [dv],.row 33 1 0 [.hs (H.length+4) vs.length 0 vs.length true],
    .row 57 7 vs.length (vs.map Ev.av),.row 3 1 0 [.int .i64 (uF sw R s.t3 0)],.row 3 1 0 [.int .i64 (vF sw R s.t3 0)],.row 40 1 0 [.hp (n+8) 0 0 0],.row 3 1 0 [.int .i64 id],.row 23 1 0 [.sl 5 (l.map En.av)]]) n s++[.df,.lp yl kk t #[39] ass body .ready none]) (rangeQ (H.length+10) yl kk t #[39] ass body Q1):=by
 have hnM:∀{ws:List Ev} {k:Nat} {z:Blk} {j:Heap},n+9≤(bgM H n fv dv id l sw R s.t3 ws k z j).length:=by intro ws k z j;rw[di];omega
 have hseq:=qO G (s:=s) (n:=n) l hl id N yl (H.length+7) (H.length+12) (fun pre j=>bgM H n fv dv id l sw R s.t3 (outF vs id s.clock s.t3 pre) pre.length (.lp yl kk t #[39] ass body .ready none) j) (fun pre j=>bgM H n fv dv id l sw R s.t3 (outF vs id s.clock s.t3 pre) pre.length (.lp yl kk t #[39] ass body .done (some (.exit 0))) j)
  (fun pre j j'=>eB j') (fun pre j=>di) (fun pre j=>di) (by omega) (by omega) (fun pre j=>bm 7 0) (fun pre j=>bm 8 0) (fun pre j=>bm 9 0)
  (fun pre j y hp=>?_) []
 ·have e0:so (H++[Blk.row 40 1 0 [.hp (n+8) 0 0 0],.row 69 4 0 [fv],.row 25 3 0 [dv],.row 33 1 0 [.hs (H.length+4) vs.length 0 vs.length true],
    .row 57 7 vs.length (vs.map Ev.av),.row 3 1 0 [.int .i64 (uF sw R s.t3 0)],.row 3 1 0 [.int .i64 (vF sw R s.t3 0)],.row 40 1 0 [.hp (n+8) 0 0 0],.row 3 1 0 [.int .i64 id],.row 23 1 0 [.sl 5 (l.map En.av)]]) n s++[.df,.lp yl kk t #[39] ass body .ready none]=so (bgM H n fv dv id l sw R s.t3 (outF vs id s.clock s.t3 []) ([]:List En).length (.lp yl kk t #[39] ass body .ready none) []) n s:=by
   rw[b8 (by simp;omega)]
   simp[bgM,outF,evI]
  rw[e0]
  refine hseq.mono ?_
  rintro r h' ⟨j,⟨hle,rfl⟩| ⟨hlt,rfl⟩⟩
  ·refine⟨.ready,none,by rw[cB hnM (by omega)];exact dj,by simp,?_⟩
   have:=f0 j
   rw[List.take_of_length_le hle]at this
   show Q1 .normal t _
   rw[ew hnM _ (by omega),eC]
   exact this
  ·refine⟨.done,some (.exit 0),by rw[cB hnM (by omega)];exact dj,by simp,?_⟩
   have:=f1 j
   show Q1 (.exit 0) t _
   rw[ew hnM _ (by omega),eC]
   exact this
 ·refine SatY.roundQ (p:=H.length+11) (by rw[cB hnM (by omega)];exact dj) okA okB flA flB fun Qa ha=>hA y _ Qa (ha _ _ ?_ fun Qb hb he=>?_)
  ·rw[b8 hnM,cB (by rw[List.length_append];have:=hnM (ws:=outF vs id s.clock s.t3 pre) (k:=pre.length) (z:=.lp yl kk t #[39] ass body .ready none) (j:=j);omega) (by omega),eB];exact dj
  ·have e1:(so (bgM H n fv dv id l sw R s.t3 (outF vs id s.clock s.t3 pre) pre.length (.lp yl kk t #[39] ass body .ready none) j) n s++[Blk.row 61 5 0 [y.av]]).set (H.length+11) (.lp yl kk t #[39] ass body .busy none)=so (bgM H n fv dv id l sw R s.t3 (outF vs id s.clock s.t3 pre) pre.length (.lp yl kk t #[39] ass body .busy none) j++[.row 61 5 0 [y.av]]) n s:=by
    rw[b8 hnM,eB,ew hnM _ (by omega),eC,eB]
   rw[e1,aJ hnM,di]
   refine hB y pre j _ Qb hp (fun e t'=>he 0 _ _ ?_ ?_) fun e t'=>hb _ _ ?_ ?_
   ·rw[cB hnM (by omega)];exact dj
   ·rw[ew hnM _ (by omega),eC]
    exact⟨_,by simp,.inr ⟨e,rfl,rfl⟩⟩
   ·rw[cB hnM (by omega)];exact dj
   ·rw[ew hnM _ (by omega),eC]
    refine⟨_,?_,.inl ⟨e,rfl,by rw[List.length_append];rfl⟩⟩
    simp
end
end Go.Av
namespace Go.Av
open Go Go.Proofs Go.RowKit
attribute [local irreducible] WP WPl WPix Sat SatY
variable (G:Nat→Option (List AVal))
section
variable {s:PS} {H:Heap} {n:Nat}
theorem pf(N:Nat)(e:Ev):Clo N e.av:=.agg _ (fun x hx=>by
 simp only[List.mem_cons,List.not_mem_nil,or_false]at hx
 rcases hx with rfl|rfl|rfl|rfl|rfl|rfl|rfl<;>first|exact .int _ _|exact .str _)
theorem tI(e:Ev):∀c∈e.av.cells,c.sto=true:=by
 intro c hc
 simp only[Ev.av,AVal.cells,List.mem_cons,List.not_mem_nil,or_false]at hc
 rcases hc with rfl|rfl|rfl|rfl|rfl|rfl|rfl<;>rfl
theorem gL(hI:s.Inv)(hT:s.Tops)(hn:n+9≤H.length)(f:Fe)(d:Fd)(hd:d.es.length≤1048576):
  Sat (CT G) 42 [.hp (n+8) 0 0 0,f.av,d.av] (so H n s) (fun r h'=>r=.sl 7 ((brF s f d).map Ev.av)∧h'=so H n s):=by
 have hr0:0≤s.room:=by have:=hI.l3;have:=hT.m;unfold PS.room;omega
 have hr1:s.room≤1048576:=by have:=hT.z;unfold PS.room;omega
 have hz:=hT.z
 have hm3:=hT.m
 have hRm:∀X:Heap,n+9≤X.length→Sat (CT G) 18 [.hp (n+8) 0 0 0] (so X n s) (fun r h'=>r=.int .i64 s.room∧h'=so X n s):=fun X hX=>fO G s hX hI hT
 have hTp:=fun(X:Heap) (hX:n+9≤X.length)=>jK G s (H:=X) (n:=n) hX
 have hCk:=fun(X:Heap) (hX:n+9≤X.length)=>pc G s (H:=X) (n:=n) hX
 have hbr:brF s f d=outF (evT f d) f.id s.clock s.t3 ((frF s f.id d.es).take s.room.toNat):=rfl
 rw[hbr]
 generalize hvs:evT f d=vs
 generalize hR:s.room=R at*
 obtain⟨fi,fn,fu,ft⟩:=f
 obtain⟨dt,dk,es⟩:=d
 simp only[]at hd ⊢
 have f1:(Fe.mk fi fn fu ft).av=.agg [.int .i64 fi,.int .i64 fn,.str fu,.str ft]:=rfl
 have f2:(Fd.mk dt dk es).av=.agg [.str dt,.str dk,.sl 5 (es.map En.av)]:=rfl
 rw[f1,f2]
 have hvl:vs.length≤1:=by rw[← hvs];unfold evT;split<;>simp
 skip
 refine Sat.range [.tmp 6] (fn:=Tryz.f42) (H.length+10) Tryz.func42 ?_
 intro Q0 Q1 hQ hQ1
 have F:= @ai
 refine EJ.seq1 (by kernel_rfl) fun KK kK=>?_
 refine wk F ?_
 refine kK _ _ (w0 ?_)
 clear kK KK
 refine EJ.seq1 (by kernel_rfl) fun KK kK=>?_
 refine wk F ?_
 refine kK _ _ ⟨_,_,Weak.virtCell1 (p:=H.length+3) (v:=0) 57 7 (by omega) (by simp(disch:=first|omega| (simp only[go_sem, ↓reduceIte,seval];first|done|omega)|fail) only[go_sem, ↓reduceIte,seval,F];rfl),?_⟩
 clear kK KK
 try refine sq F ?_
 refine EJ.seq1 (by kernel_rfl) fun KK kK=>?_
 suffices kJ:∀t:Env,(t 3=.hp H.length 0 0 0∧t 4=.hp (H.length+1) 0 0 0∧t 5=.hp (H.length+2) 0 0 0∧t 7=.hp (H.length+3) 0 0 0)→
   KK t (so (H++[Blk.row 40 1 0 [.hp (n+8) 0 0 0],.row 69 4 0 [.agg [.int .i64 fi,.int .i64 fn,.str fu,.str ft]],.row 25 3 0 [.agg [.str dt,.str dk,.sl 5 (es.map En.av)]],.row 33 1 0 [.hs (H.length+4) vs.length 0 vs.length true],
    .row 57 7 vs.length (vs.map Ev.av)]) n s) by
  by_cases c1:ft=[]
  ·by_cases c2:dt=[]
   ·have hv:vs=[]:=by rw[← hvs];unfold evT;rw[if_neg (by simp[c2])]
    subst hv
    have q1:(ft==([]:Bs))=true:=by simp[c1]
    have q2:(dt==([]:Bs))=true:=by simp[c2]
    have F:=F5 F q1 q2 @Bool.not_true @Bool.not_false
    refine wk F ?_
    exact kJ _ ⟨by simp(disch:=first|omega| (simp only[go_sem, ↓reduceIte,seval];first|done|omega)|fail) only[go_sem, ↓reduceIte,seval,F],by simp(disch:=first|omega| (simp only[go_sem, ↓reduceIte,seval];first|done|omega)|fail) only[go_sem, ↓reduceIte,seval,F],by simp(disch:=first|omega| (simp only[go_sem, ↓reduceIte,seval];first|done|omega)|fail) only[go_sem, ↓reduceIte,seval,F],by simp(disch:=first|omega| (simp only[go_sem, ↓reduceIte,seval];first|done|omega)|fail) only[go_sem, ↓reduceIte,seval,F]⟩
   ·have hv:vs=[⟨5,fi,0,0,[],dt,[]⟩]:=by rw[← hvs];unfold evT;rw[if_pos ⟨c1,c2⟩]
    subst hv
    have q1:(ft==([]:Bs))=true:=by simp[c1]
    have q2:(dt==([]:Bs))=false:=by simp[c2]
    have F:=F5 F q1 q2 @Bool.not_true @Bool.not_false
    refine wk F ?_
    refine aq F ?_
    try refine sq F ?_
    refine wk F ?_
    exact kJ _ ⟨by simp(disch:=first|omega| (simp only[go_sem, ↓reduceIte,seval];first|done|omega)|fail) only[go_sem, ↓reduceIte,seval,F],by simp(disch:=first|omega| (simp only[go_sem, ↓reduceIte,seval];first|done|omega)|fail) only[go_sem, ↓reduceIte,seval,F],by simp(disch:=first|omega| (simp only[go_sem, ↓reduceIte,seval];first|done|omega)|fail) only[go_sem, ↓reduceIte,seval,F],by simp(disch:=first|omega| (simp only[go_sem, ↓reduceIte,seval];first|done|omega)|fail) only[go_sem, ↓reduceIte,seval,F]⟩
  ·have hv:vs=[]:=by rw[← hvs];unfold evT;rw[if_neg (by simp[c1])]
   subst hv
   have q1:(ft==([]:Bs))=false:=by simp[c1]
   have F:=F2 F q1
   refine wk F ?_
   exact kJ _ ⟨by simp(disch:=first|omega| (simp only[go_sem, ↓reduceIte,seval];first|done|omega)|fail) only[go_sem, ↓reduceIte,seval,F],by simp(disch:=first|omega| (simp only[go_sem, ↓reduceIte,seval];first|done|omega)|fail) only[go_sem, ↓reduceIte,seval,F],by simp(disch:=first|omega| (simp only[go_sem, ↓reduceIte,seval];first|done|omega)|fail) only[go_sem, ↓reduceIte,seval,F],by simp(disch:=first|omega| (simp only[go_sem, ↓reduceIte,seval];first|done|omega)|fail) only[go_sem, ↓reduceIte,seval,F]⟩
 rintro t ⟨tq3,tq4,tq5,tq7⟩
 refine kK _ _ (w0 ?_)
 clear kK KK
 have F:=F5 F tq3 tq4 tq5 tq7
 refine EJ.seq1 (by kernel_rfl) fun KK kK=>?_
 suffices kJ:∀(sw:Bool) (t:Env),(t 3=.hp H.length 0 0 0∧t 4=.hp (H.length+1) 0 0 0∧t 5=.hp (H.length+2) 0 0 0∧t 7=.hp (H.length+3) 0 0 0∧t 8=.hp (H.length+if sw then 6 else 5) 0 0 0∧t 9=.hp (H.length+if sw then 5 else 6) 0 0 0)→
   KK t (so (H++[Blk.row 40 1 0 [.hp (n+8) 0 0 0],.row 69 4 0 [.agg [.int .i64 fi,.int .i64 fn,.str fu,.str ft]],.row 25 3 0 [.agg [.str dt,.str dk,.sl 5 (es.map En.av)]],.row 33 1 0 [.hs (H.length+4) vs.length 0 vs.length true],
    .row 57 7 vs.length (vs.map Ev.av),.row 3 1 0 [.int .i64 (uF sw R s.t3 0)],.row 3 1 0 [.int .i64 (vF sw R s.t3 0)]]) n s) by
  have kF:=kJ false
  have kT:=kJ true
  rw[show uF false R s.t3 0=R by simp[uF],show vF false R s.t3 0=s.t3+1 by simp[vF]]at kF
  rw[show uF true R s.t3 0=s.t3+1 by simp[uF],show vF true R s.t3 0=R by simp[vF]]at kT
  simp only[Bool.false_eq_true,if_false]at kF
  simp only[if_true]at kT
  clear kJ
  skip
  refine wn F ?_
  refine aH 8 [5,6,7] [true,true,true,true,true,false,false,false] (.two 5 [true,true,true,true,true] (.one 6 [true,true,true,true,true] (.one 7 [false,false,false,false,true] .fin)) 6 [true,true,true,true,true] (.one 5 [true,true,true,true,true] (.one 7 [false,false,false,false,true] .fin))) (by decide+kernel) (by kernel_rfl) (by decide+kernel) ?_
  simp only[aR,aS,aF]
  try refine sq F ?_
  repeat' (first| (refine aw ?_;try refine sq F ?_)| (refine ax ?_;try refine sq F ?_)| (refine ay ?_ ?_<;>try refine sq F ?_))
  all_goals try refine wn F ?_
  refine aj (hRm _ (by first|omega| (simp;omega))) ?_
  try refine sq F ?_
  refine wn F ?_
  refine aj (hTp _ (by first|omega| (simp;omega))) ?_
  try refine sq F ?_
  refine wn F ?_
  repeat' (first| (refine aw ?_;try refine sq F ?_)| (refine ax ?_;try refine sq F ?_)| (refine ay ?_ ?_<;>try refine sq F ?_))
  all_goals try refine wn F ?_
  all_goals (
   repeat' (
    refine⟨?_,?_⟩
    ·refine aj (hRm _ (by first|omega| (simp;omega))) ?_
     try refine sq F ?_
     refine wn F ?_
     refine aj (hTp _ (by first|omega| (simp;omega))) ?_
     try refine sq F ?_
     refine wn F ?_
     all_goals first|exact zq F|trivial| (refine sq F ?_;trivial)
    repeat' (first| (refine aw ?_;try refine sq F ?_)| (refine ax ?_;try refine sq F ?_)| (refine ay ?_ ?_<;>try refine sq F ?_))
    all_goals try refine wn F ?_))
  ·exact kF _ ⟨by simp(disch:=first|omega| (simp only[go_sem, ↓reduceIte,seval];first|done|omega)|fail) only[go_sem, ↓reduceIte,seval,F],by simp(disch:=first|omega| (simp only[go_sem, ↓reduceIte,seval];first|done|omega)|fail) only[go_sem, ↓reduceIte,seval,F],by simp(disch:=first|omega| (simp only[go_sem, ↓reduceIte,seval];first|done|omega)|fail) only[go_sem, ↓reduceIte,seval,F],by simp(disch:=first|omega| (simp only[go_sem, ↓reduceIte,seval];first|done|omega)|fail) only[go_sem, ↓reduceIte,seval,F],by simp(disch:=first|omega| (simp only[go_sem, ↓reduceIte,seval];first|done|omega)|fail) only[go_sem, ↓reduceIte,seval,F],by simp(disch:=first|omega| (simp only[go_sem, ↓reduceIte,seval];first|done|omega)|fail) only[go_sem, ↓reduceIte,seval,F]⟩
  ·exact kT _ ⟨by simp(disch:=first|omega| (simp only[go_sem, ↓reduceIte,seval];first|done|omega)|fail) only[go_sem, ↓reduceIte,seval,F],by simp(disch:=first|omega| (simp only[go_sem, ↓reduceIte,seval];first|done|omega)|fail) only[go_sem, ↓reduceIte,seval,F],by simp(disch:=first|omega| (simp only[go_sem, ↓reduceIte,seval];first|done|omega)|fail) only[go_sem, ↓reduceIte,seval,F],by simp(disch:=first|omega| (simp only[go_sem, ↓reduceIte,seval];first|done|omega)|fail) only[go_sem, ↓reduceIte,seval,F],by simp(disch:=first|omega| (simp only[go_sem, ↓reduceIte,seval];first|done|omega)|fail) only[go_sem, ↓reduceIte,seval,F],by simp(disch:=first|omega| (simp only[go_sem, ↓reduceIte,seval];first|done|omega)|fail) only[go_sem, ↓reduceIte,seval,F]⟩
 skip
 rintro sw t ⟨tq3,tq4,tq5,tq7,tq8,tq9⟩
 refine kK _ _ (w0 ?_)
 clear kK KK
 have F:=F7 F tq3 tq4 tq5 tq7 tq8 tq9
 have hBh:∀(X:Heap),n+9≤X.length→_:=fun X hX=>nY G (s:=s) (H:=X) (n:=n) hX fi es
 refine EJ.seq2 (EJ.seq1 (by kernel_rfl) fun KK kK=>?_)
 refine wk F ?_
 refine kq F (hBh _ (by first|omega| (simp;omega))) ?_
 unfold frB
 refine kK _ _ (w0 ?_)
 clear kK KK
 try refine sq F ?_
 refine EJ.block (EJ.forget (P:=fun t=>t 3=.hp H.length 0 0 0∧t 4=.hp (H.length+1) 0 0 0∧t 7=.hp (H.length+3) 0 0 0∧t 8=.hp (H.length+if sw then 6 else 5) 0 0 0∧t 9=.hp (H.length+if sw then 5 else 6) 0 0 0∧t 38=.fn (.func 132) [] [.hp (H.length+9) 0 0 0,.hp (H.length+7) 0 0 0,.hp (H.length+8) 0 0 0]) ⟨by simp(disch:=first|omega| (simp only[go_sem, ↓reduceIte,seval];first|done|omega)|fail) only[go_sem, ↓reduceIte,seval,F],by simp(disch:=first|omega| (simp only[go_sem, ↓reduceIte,seval];first|done|omega)|fail) only[go_sem, ↓reduceIte,seval,F],by simp(disch:=first|omega| (simp only[go_sem, ↓reduceIte,seval];first|done|omega)|fail) only[go_sem, ↓reduceIte,seval,F],by simp(disch:=first|omega| (simp only[go_sem, ↓reduceIte,seval];first|done|omega)|fail) only[go_sem, ↓reduceIte,seval,F],by simp(disch:=first|omega| (simp only[go_sem, ↓reduceIte,seval];first|done|omega)|fail) only[go_sem, ↓reduceIte,seval,F],by simp(disch:=first|omega| (simp only[go_sem, ↓reduceIte,seval];first|done|omega)|fail) only[go_sem, ↓reduceIte,seval,F]⟩ ?_)
 clear tq3 tq4 tq5 tq7 tq8 tq9
 rintro t ⟨tq3,tq4,tq7,tq8,tq9,tq38⟩
 refine EJ.range (gf:=132) (fn:=Tryz.f132) rfl tq38 Tryz.func132 rfl (by kernel_rfl) (by rw[aJ (by simp;omega)];simp) fun yl=>?_
 refine nZ G es hd fi _ _ sw R vs R.toNat yl hn (by kernel_rfl) (by kernel_rfl) rfl rfl (fun y H' Q hq1=>?_) (fun y pre j z Q hp hx ha=>?_) (fun j=>?_) (fun j=>?_)
 ·refine wk F ?_
  exact hq1
 ·have xl:=di (H:=H) (n:=n) (fv:=.agg [.int .i64 fi,.int .i64 fn,.str fu,.str ft]) (dv:=.agg [.str dt,.str dk,.sl 5 (es.map En.av)]) (id:=fi) (l:=es) (sw:=sw) (R:=R) (t3:=s.t3) (ws:=outF vs fi s.clock s.t3 pre) (k:=pre.length) (z:=z) (j:=j)
  obtain⟨ws,hws⟩:∃ws,outF vs fi s.clock s.t3 pre=ws:=⟨_,rfl⟩
  have hw2:=qQ vs fi s.clock s.t3 pre y
  have hwl:=qR vs fi s.clock s.t3 pre
  rw[hws]at hw2 xl hx hwl ⊢
  rw[hw2]at ha
  obtain⟨X,hX⟩:∃X,bgM H n (.agg [.int .i64 fi,.int .i64 fn,.str fu,.str ft]) (.agg [.str dt,.str dk,.sl 5 (es.map En.av)]) fi es sw R s.t3 ws pre.length z j=X:=⟨_,rfl⟩
  have r0:getRow X H.length 0=some (40,1,[.hp (n+8) 0 0 0]):=(congrArg (fun X=>getRow X (H.length+0) 0) hX).symm.trans (bm 0 0)
  have r1:getRow X (H.length+1) 0=some (69,4,[.agg [.int .i64 fi,.int .i64 fn,.str fu,.str ft]]):=(congrArg (fun X=>getRow X (H.length+1) 0) hX).symm.trans (bm 1 0)
  have r3:getRow X (H.length+3) 0=some (33,1,[.hs (H.length+4) ws.length 0 ws.length true]):=(congrArg (fun X=>getRow X (H.length+3) 0) hX).symm.trans (bm 3 0)
  have r4:getRow X (H.length+4) ws.length=some (57,7,ws.map Ev.av):=((congrArg (fun X=>getRow X (H.length+4) ws.length) hX).symm.trans (bm 4 ws.length)).trans (by simp[getRow])
  have r5:getRow X (H.length+5) 0=some (3,1,[.int .i64 (uF sw R s.t3 pre.length)]):=(congrArg (fun X=>getRow X (H.length+5) 0) hX).symm.trans (bm 5 0)
  have r6:getRow X (H.length+6) 0=some (3,1,[.int .i64 (vF sw R s.t3 pre.length)]):=(congrArg (fun X=>getRow X (H.length+6) 0) hX).symm.trans (bm 6 0)
  have a1:=mB (H:=H) (n:=n) (fv:=.agg [.int .i64 fi,.int .i64 fn,.str fu,.str ft]) (dv:=.agg [.str dt,.str dk,.sl 5 (es.map En.av)]) (id:=fi) (l:=es) (sw:=sw) (R:=R) (t3:=s.t3) (ws:=ws) (k:=pre.length) (z:=z) (j:=j) (evX fi s.clock (s.t3+1+pre.length) y)
  have a2:=qP (H:=H) (n:=n) (fv:=.agg [.int .i64 fi,.int .i64 fn,.str fu,.str ft]) (dv:=.agg [.str dt,.str dk,.sl 5 (es.map En.av)]) (id:=fi) (l:=es) (sw:=sw) (R:=R) (t3:=s.t3) (ws:=ws) (k:=pre.length) (z:=z) (j:=j) (evX fi s.clock (s.t3+1+pre.length) y)
  rw[← eB]at hx ha
  rw[hX]at xl hx a1 a2 ⊢
  clear hX hvs hbr hRm hTp tq38 hws hw2
  have hnX:n+9≤X.length:=by omega
  have hXl:H.length+12≤X.length:=by omega
  rw[← xl]
  clear xl
  have hmw:(ws.map Ev.av).length=ws.length:=List.length_map ..
  obtain⟨yg,yt,yk,ya,yb⟩:=y
  simp only[Ev.av_eq,En.av_eq,evX]at hx ha a1 a2 ⊢
  have e5:R-((pre.length+1:Nat):Int)=R-pre.length-1:=by omega
  have e6:s.t3+1+((pre.length+1:Nat):Int)=s.t3+1+pre.length+1:=by omega
  cases sw
  all_goals (
   simp only[uF,vF,Bool.false_eq_true,if_false,if_true,e5,e6]at r5 r6 a1 a2 tq8 tq9 hx ha ⊢
   by_cases hpn:pre.length=R.toNat
   ·have q0:(R-(pre.length:Int)==0)=true:=by simp;omega
    have F:=F2 (F9 tq3 tq5 tq4 tq7 tq8 tq9 r0 r1 r3) (F6 r4 r5 r6 q0 @hnX @ai)
    refine wk F ?_
    exact hx hpn _
   ·have q0:(R-(pre.length:Int)==0)=false:=by simp;omega
    have ha1:=ha
    rw[← a1]at ha1
    rw[← a2]at ha
    cases yb
    all_goals (
     simp only[Bool.false_eq_true,if_false,if_true]at ha ha1
     have F:=F2 (F9 tq5 tq3 tq4 tq7 tq8 tq9 r0 r1 r3) (F7 r4 r5 r6 q0 @hnX hmw @ai)
     skip
     refine wn F ?_
     refine aH 13 [12] [true,true,true,true,true,true,true,true,true,true,true,true,false] (.one 12 [true,true,true,true,true,true,true,true,true,true,true] .fin) (by decide+kernel) (by kernel_rfl) (by decide+kernel) ?_
     simp only[aR,aS,aF]
     try refine sq F ?_
     repeat' (first| (refine aw ?_;try refine sq F ?_)| (refine ax ?_;try refine sq F ?_)| (refine ay ?_ ?_<;>try refine sq F ?_))
     all_goals try refine wn F ?_
     refine aj (hCk _ (by first|omega| (simp;omega))) ?_
     try refine sq F ?_
     refine wn F ?_
     repeat' (first| (refine aw ?_;try refine sq F ?_)| (refine ax ?_;try refine sq F ?_)| (refine ay ?_ ?_<;>try refine sq F ?_))
     all_goals try refine wn F ?_
     refine⟨?_,?_⟩
     ·refine aj (hCk _ (by first|omega| (simp;omega))) ?_
      try refine sq F ?_
      refine wn F ?_
      all_goals first|exact zq F|trivial| (refine sq F ?_;trivial)
     repeat' (first| (refine aw ?_;try refine sq F ?_)| (refine ax ?_;try refine sq F ?_)| (refine ay ?_ ?_<;>try refine sq F ?_))
     all_goals try refine wn F ?_
     skip
     try refine sq F ?_
     refine wk F ?_
     refine aq F ?_
     try refine sq F ?_
     refine wk F ?_
     first|exact ha1 (by omega) _|exact ha (by omega) _))
 all_goals (
  show MJ (CT G) _ _ Q1 _ t _
  generalize (frF s fi es).take R.toNat=l at hQ1 ⊢
  generalize outF vs fi s.clock s.t3 l=ws at hQ1 ⊢
  obtain⟨X,hX⟩:∃X,bgM H n (.agg [.int .i64 fi,.int .i64 fn,.str fu,.str ft]) (.agg [.str dt,.str dk,.sl 5 (es.map En.av)]) fi es sw R s.t3 ws l.length .dead j=X:=⟨_,rfl⟩
  have xl:=(congrArg List.length hX).symm.trans di
  have r3:=(congrArg (fun X=>getRow X (H.length+3) 0) hX).symm.trans (bm 3 0)
  have r4:=(congrArg (fun X=>getRow X (H.length+4) ws.length) hX).symm.trans (bm 4 ws.length)
  have d10:=(congrArg (fun X=>X[H.length+10]?) hX).symm.trans tH
  obtain⟨J,hJ⟩:∃J,X=H++J:=⟨_,hX.symm⟩
  rw[hX]
  clear hX
  have r3:getRow X (H.length+3) 0=some (33,1,[.hs (H.length+4) ws.length 0 ws.length true]):=r3
  have r4:getRow X (H.length+4) ws.length=some (57,7,ws.map Ev.av):=r4.trans (by simp[getRow])
  have hnX:n+9≤X.length:=by omega
  refine MJ.wp (by kernel_rfl) ?_
  have F:=F5 F tq7 r3 @hnX @ai
  refine wk F ?_
  refine(hQ1 _ _ (by rw[cB hnX (by omega)];exact d10) ?_).1
  simp(disch:=first|omega| (simp only[go_sem, ↓reduceIte,seval];first|done|omega)|fail) only[go_sem, ↓reduceIte,seval,F,resA,resL,resA1]
  have hg:=cE (H:=X) (p:=H.length+10) (q:=H.length+4) .dead ws.length (by omega)
  rw[r4]at hg
  subst hJ
  rw[dH _ rfl]at hg ⊢
  exact bk hn (Frz.data (by omega) (by rw[bi (by simp at hnX ⊢;omega) _ (by omega)];exact hg) (by simp) (fun r hr=>by obtain⟨e,_,rfl⟩:=List.mem_map.1 hr;exact pf _ e) (fun r hr=>by obtain⟨e,_,rfl⟩:=List.mem_map.1 hr;exact tI e)) ⟨rfl,rfl⟩)
end
end Go.Av
namespace Go.Av
open Go Go.Proofs Go.RowKit
attribute [local irreducible] WP WPl WPix Sat
def plF(s:PS)(id:Int)(d:Fd)(c:Int):List Ev×Int:=match lkM s.fe id with
 |none=>([],4)
 |some f=>if c=0 then(brF s f d,0)else([],c)
theorem pg(s:PS)(f:Fe)(d:Fd):(brF s f d).length≤1+d.es.length:=by
 unfold brF
 rw[List.length_append,jk,List.length_take]
 have h1:(evT f d).length≤1:=by unfold evT;split<;>simp
 have h2:(frF s f.id d.es).length≤d.es.length:=List.length_filter_le ..
 omega
theorem ph(s:PS)(id:Int)(d:Fd)(c:Int):(plF s id d c).1.length≤1+d.es.length:=by
 unfold plF
 split
 ·simp
 ·split
  ·exact pg _ _ _
  ·simp
def plR(p:List Ev×Int):AVal:=.tup [.sl 7 (p.1.map Ev.av),.int .i64 p.2]
theorem cC(Z:Heap)(n:Nat)(c:Int):Frz Z n (.tup [.nil (.slice none 0 0),.int .i64 c]) (plR ([],c)):=FrzL.tup (.cons (.nils 7) (.cons (.clo _ (.int _ _)) .nil))
theorem sy(N:Nat)(l:List Ev):Clo N (.sl 7 (l.map Ev.av)):=.sl _ _ (fun x hx=>by
  obtain⟨e,_,rfl⟩:=List.mem_map.1 hx
  exact pf N e)
theorem gx(N:Nat)(p:List Ev×Int):Clo N (plR p):=.tup _ fun x hx=>by
 simp only[List.mem_cons,List.not_mem_nil,or_false]at hx
 rcases hx with rfl|rfl
 ·exact sy N _
 ·exact .int _ _
variable (G:Nat→Option (List AVal))
section
variable {s:PS} {H:Heap} {n:Nat}
theorem iU(hn:n+9≤H.length)(id:Int):Sat (CT G) 41 [.hp (n+8) 0 0 0,.int .i64 id] (so H n s) (fun r h'=>r=.tup [((lkM s.fe id).getD Fe.z).av,.int .i64 (if (lkM s.fe id).isSome then 0 else 4)]∧h'=so H n s):=by
 have hF:=fun(X:Heap) (hX:n+9≤X.length)=>nX G s (H:=X) (n:=n) hX id
 have clo:∀N (f:Fe) (c:Int),Clo N (.tup [f.av,.int .i64 c]):=fun N f c=>.tup _ fun x hx=>by
  simp only[List.mem_cons,List.not_mem_nil,or_false]at hx
  rcases hx with rfl|rfl
  ·exact Fe.clo _ _
  ·exact .int _ _
 cases hf:lkM s.fe id with
 |none=>
  rw[hf]at hF
  have hF:∀(X:Heap),n+9≤X.length→Sat (CT G) 78 [.hp (n+8) 0 0 0,.int .i64 id] (so X n s) (fun r h'=>r=.tup [.agg [.int .i64 0,.int .i64 0,.str [],.str []],.bool false]∧h'=so X n s):=hF
  have F:= @ai
  refine sb [.cell 4 69,.tmp 5] (fn:=Tryz.f41) Tryz.func41 ?_
  intro Q hQ
  refine wk F ?_
  refine kq F (hF _ (by first|omega| (simp;omega))) ?_
  refine ye hQ F ?_
  exact af hn (clo _ Fe.z _) ⟨rfl,rfl⟩
 |some f=>
  rw[hf]at hF
  obtain⟨a,b,u,t⟩:=f
  have hF:∀(X:Heap),n+9≤X.length→Sat (CT G) 78 [.hp (n+8) 0 0 0,.int .i64 id] (so X n s) (fun r h'=>r=.tup [.agg [.int .i64 a,.int .i64 b,.str u,.str t],.bool true]∧h'=so X n s):=hF
  have F:= @ai
  refine sb [.cell 4 69,.tmp 5] (fn:=Tryz.f41) Tryz.func41 ?_
  intro Q hQ
  refine wk F ?_
  refine kq F (hF _ (by first|omega| (simp;omega))) ?_
  refine ye hQ F ?_
  exact af hn (clo _ ⟨a,b,u,t⟩ _) ⟨rfl,rfl⟩
theorem jl(hI:s.Inv)(hT:s.Tops)(hn:n+9≤H.length)(id:Int)(d:Fd)(hd:FdS d):
  Sat (CT G) 15 [.hp (n+8) 0 0 0,.int .i64 id,d.av] (so H n s) (fun r h'=>r=plR (plF s id d (if fdOk d then 0 else 120))∧h'=so H n s):=by
 have hTh:=fun(X:Heap) (hX:n+9≤X.length)=>iU G (s:=s) (H:=X) (n:=n) hX id
 have hCk:=lW G d hd
 have hBr:=fun(f:Fe) (X:Heap) (hX:n+9≤X.length)=>gL G (H:=X) hI hT hX f d hd.2.2.1
 obtain⟨dt,dk,es⟩:=d
 have f2:(Fd.mk dt dk es).av=.agg [.str dt,.str dk,.sl 5 (es.map En.av)]:=rfl
 rw[f2]at hCk ⊢
 simp only[f2]at hBr
 unfold plF
 cases hf:lkM s.fe id with
 |none=>
  rw[hf]at hTh
  have hTh:∀(X:Heap),n+9≤X.length→Sat (CT G) 41 [.hp (n+8) 0 0 0,.int .i64 id] (so X n s) (fun r h'=>r=.tup [.agg [.int .i64 0,.int .i64 0,.str [],.str []],.int .i64 4]∧h'=so X n s):=hTh
  have F:= @ai
  refine sb [.tmp 6,.tmp 7] (fn:=Tryz.f15) Tryz.func15 ?_
  intro Q hQ
  refine wk F ?_
  refine kq F (hTh _ (by first|omega| (simp;omega))) ?_
  refine ye hQ F ?_
  exact bk hn (cC _ _ _) ⟨rfl,rfl⟩
 |some f=>
  rw[hf]at hTh
  have hBr:=hBr f
  obtain⟨a,b,u,t⟩:=f
  have hTh:∀(X:Heap),n+9≤X.length→Sat (CT G) 41 [.hp (n+8) 0 0 0,.int .i64 id] (so X n s) (fun r h'=>r=.tup [.agg [.int .i64 a,.int .i64 b,.str u,.str t],.int .i64 0]∧h'=so X n s):=hTh
  have f1:(Fe.mk a b u t).av=.agg [.int .i64 a,.int .i64 b,.str u,.str t]:=rfl
  rw[f1]at hBr
  cases hk:fdOk ⟨dt,dk,es⟩with
  |false=>
   rw[hk]at hCk
   have hCk:∀h,Sat (CT G) 12 [.agg [.str dt,.str dk,.sl 5 (es.map En.av)]] h (fun r h'=>r=.int .i64 120∧h'=h):=hCk
   have F:= @ai
   refine sb [.tmp 6,.tmp 7] (fn:=Tryz.f15) Tryz.func15 ?_
   intro Q hQ
   refine wk F ?_
   refine kq F (hTh _ (by first|omega| (simp;omega))) ?_
   refine kq F (hCk _) ?_
   refine ye hQ F ?_
   exact bk hn (cC _ _ _) ⟨rfl,rfl⟩
  |true=>
   rw[hk]at hCk
   have hCk:∀h,Sat (CT G) 12 [.agg [.str dt,.str dk,.sl 5 (es.map En.av)]] h (fun r h'=>r=.int .i64 0∧h'=h):=hCk
   have F:= @ai
   refine sb [.tmp 6,.tmp 7] (fn:=Tryz.f15) Tryz.func15 ?_
   intro Q hQ
   refine wk F ?_
   refine kq F (hTh _ (by first|omega| (simp;omega))) ?_
   refine kq F (hCk _) ?_
   refine kq F (hBr _ (by first|omega| (simp;omega))) ?_
   refine ye hQ F ?_
   exact af hn (gx _ (_,_)) ⟨rfl,rfl⟩
theorem fP(hI:s.Inv)(hT:s.Tops)(hn:n+9≤H.length)(id:Int)(x:Bs)(d:Fd)(c:Int)(hd:d.es.length≤1048576)(hP:∀h,Sat (CT G) 9 [.str x] h (fun r h'=>r=.tup [d.av,.int .i64 c]∧h'=h)):
  Sat (CT G) 16 [.hp (n+8) 0 0 0,.int .i64 id,.str x] (so H n s) (fun r h'=>r=plR (plF s id d c)∧h'=so H n s):=by
 have hTh:=fun(X:Heap) (hX:n+9≤X.length)=>iU G (s:=s) (H:=X) (n:=n) hX id
 have hBr:=fun(f:Fe) (X:Heap) (hX:n+9≤X.length)=>gL G (H:=X) hI hT hX f d hd
 obtain⟨dt,dk,es⟩:=d
 have f2:(Fd.mk dt dk es).av=.agg [.str dt,.str dk,.sl 5 (es.map En.av)]:=rfl
 rw[f2]at hP
 simp only[f2]at hBr
 unfold plF
 cases hf:lkM s.fe id with
 |none=>
  rw[hf]at hTh
  have hTh:∀(X:Heap),n+9≤X.length→Sat (CT G) 41 [.hp (n+8) 0 0 0,.int .i64 id] (so X n s) (fun r h'=>r=.tup [.agg [.int .i64 0,.int .i64 0,.str [],.str []],.int .i64 4]∧h'=so X n s):=hTh
  have F:= @ai
  refine sb [.tmp 6,.tmp 7] (fn:=Tryz.f16) Tryz.func16 ?_
  intro Q hQ
  refine wk F ?_
  refine kq F (hTh _ (by first|omega| (simp;omega))) ?_
  refine ye hQ F ?_
  exact bk hn (cC _ _ _) ⟨rfl,rfl⟩
 |some f=>
  rw[hf]at hTh
  have hBr:=hBr f
  obtain⟨a,b,u,t⟩:=f
  have hTh:∀(X:Heap),n+9≤X.length→Sat (CT G) 41 [.hp (n+8) 0 0 0,.int .i64 id] (so X n s) (fun r h'=>r=.tup [.agg [.int .i64 a,.int .i64 b,.str u,.str t],.int .i64 0]∧h'=so X n s):=hTh
  have f1:(Fe.mk a b u t).av=.agg [.int .i64 a,.int .i64 b,.str u,.str t]:=rfl
  rw[f1]at hBr
  by_cases c0:c=0
  ·subst c0
   have F:= @ai
   refine sb [.tmp 6,.tmp 7] (fn:=Tryz.f16) Tryz.func16 ?_
   intro Q hQ
   refine wk F ?_
   refine kq F (hTh _ (by first|omega| (simp;omega))) ?_
   refine kq F (hP _) ?_
   refine kq F (hBr _ (by first|omega| (simp;omega))) ?_
   refine ye hQ F ?_
   exact af hn (gx _ (_,_)) ⟨rfl,rfl⟩
  ·have q1:(c !=0)=true:=by simpa using c0
   simp only[if_neg c0]
   have F:=F2 q1 @ai
   refine sb [.tmp 6,.tmp 7] (fn:=Tryz.f16) Tryz.func16 ?_
   intro Q hQ
   refine wk F ?_
   refine kq F (hTh _ (by first|omega| (simp;omega))) ?_
   refine kq F (hP _) ?_
   refine ye hQ F ?_
   exact bk hn (cC _ _ _) ⟨rfl,rfl⟩
theorem mD(hI:s.Inv)(hT:s.Tops)(hn:n+9≤H.length)(id:Int)(x:Bs)(d:Fd)(c:Int)(hd:d.es.length≤1048576)(hP:∀h,Sat (CT G) 9 [.str x] h (fun r h'=>r=.tup [d.av,.int .i64 c]∧h'=h)):
  Sat (CT G) 17 [.hp (n+8) 0 0 0,.int .i64 id,.str x] (so H n s) (fun r h'=>r=plR (plF s id d c)∧h'=so H n ((plF s id d c).1.foldl (PS.step L0) s)):=by
 have hPl:=fun(X:Heap) (hX:n+9≤X.length)=>fP G (H:=X) hI hT hX id x d c hd hP
 have hAp:=fun(s:PS) (hI:s.Inv) (e:Ev) (X:Heap) (hX:n+9≤X.length)=>de G s hI e (H:=X) hX
 have hpl:=ph s id d c
 generalize plF s id d c=p at*
 obtain⟨l,e⟩:=p
 have hpl:l.length≤1+d.es.length:=hpl
 have hPl:∀(X:Heap),n+9≤X.length→Sat (CT G) 16 [.hp (n+8) 0 0 0,.int .i64 id,.str x] (so X n s) (fun r h'=>r=.tup [.sl 7 (l.map Ev.av),.int .i64 e]∧h'=so X n s):=hPl
 have hml:(l.map Ev.av).length=l.length:=List.length_map ..
 have F:=F2 hml @ai
 refine sb [.tmp 6,.tmp 7] (fn:=Tryz.f17) Tryz.func17 ?_
 intro Q hQ
 refine wk F ?_
 refine kq F (hPl _ (by first|omega| (simp;omega))) ?_
 refine lm (fun nL tL hL=>∃(k:Nat) (j:Heap),l.length-k=nL∧so (H++j) n ((l.take k).foldl (PS.step L0) s)=hL∧tL 21=.int .i64 k∧k≤l.length) ((fun(k:Nat) (j:Heap)=>(l.length-k:Nat)) (0) ([])) ?_ ?_
 ·refine Wkn.refl ⟨0,[],rfl,by rw[List.append_nil];rfl,?_,by omega⟩
  all_goals first|exact zq F|rfl|omega|trivial|skip
 rintro _ s2 h' ⟨k,j,rfl,rfl,e21,hk⟩ K2 hK2
 simp only[am,ao,Nat.reduceEqDiff, ↓reduceIte]at e21
 have F:=F2 F e21
 by_cases c2:k<l.length
 ·have d2:=decide_eq_true c2
  obtain⟨y,hy,hym⟩:=ak c2
  have hm:(l.map Ev.av)[k]? =some y.av:=by rw[List.getElem?_map,hy];rfl
  have hst:(l.take (k+1)).foldl (PS.step L0) s=((l.take k).foldl (PS.step L0) s).step L0 y:=by rw[List.take_add_one,hy,Option.toList_some,List.foldl_append];rfl
  have hA1:=hAp _ (hI.fold (L:=L0) (l.take k)) y (H++(j++[.row 57 7 0 [y.av]])) (by simp;omega)
  rw[← hst]at hA1
  have hnj:∀j,n+9≤(H++j).length:=fun j=>by simp;omega
  have F:=F6 F hm hy d2 c2 hnj
  try refine sq F ?_
  refine wk F ?_
  refine kq F (hA1) ?_
  refine hK2 _ _ _ (Wkn.refl ⟨k+1,j++[.row 57 7 0 [y.av]],rfl,rfl,?_,by omega⟩) (by omega)
  all_goals first|exact zq F|rfl|omega|trivial|skip
 ·have d2:=decide_eq_false c2
  rw[List.take_of_length_le (by omega)]
  have F:=F2 F d2
  try refine sq F ?_
  refine wk F ?_
  refine ye hQ F ?_
  exact af hn (gx _ (_,_)) ⟨rfl,rfl⟩
end
end Go.Av
namespace Go.Av
open Go Go.Proofs Go.RowKit
attribute [local irreducible] WP WPl WPix Sat
theorem qV(h:Heap)(a b c d:Int)(s t u:Bs):abin Tryz.prog h .eql 57 (.agg [.int .i64 a,.int .i64 b,.int .i64 c,.int .i64 d,.str s,.str t,.str u]) (.agg [.int .i64 a,.int .i64 b,.int .i64 c,.int .i64 d,.str s,.str t,.str u])=some (.bool true):=by
 simp[abin,go_sem,aeqL,aeq1]
theorem la(h:Heap)(a b:Int)(s t:Bs):abin Tryz.prog h .neq 69 (.agg [.int .i64 a,.int .i64 b,.str s,.str t]) (.agg [.int .i64 a,.int .i64 b,.str s,.str t])=some (.bool false):=by
 simp[abin,go_sem,aeqL,aeq1]
theorem sB{h j:Heap}{n:Nat}{s:PS}(hm:n+9≤(h++j).length)(hh:h.length≤n):∃j',so (h++j) n s=h++j':=by
 refine⟨(so (h++j) n s).drop h.length,?_⟩
 have hl:=aJ (s:=s) hm
 apply List.ext_getElem?
 intro p
 by_cases hp:p<h.length
 ·rw[List.getElem?_append_left hp]
  unfold so
  rw[fE (by show n+9≤_;omega) (.inl (by omega)),List.getElem?_append_left hp]
 ·rw[List.getElem?_append_right (by omega),List.getElem?_drop]
  congr 1
  omega
theorem dm{h Y:Heap}{n:Nat}{s:PS}{R:AVal→Heap→Prop}{b:Bool}(hm:n+9≤Y.length)(hp:∃j,Y=h++j)(hh:h.length≤n)(hR:R (.bool b) h):Fin h (so Y n s) R (.bool b):=by
 obtain⟨j,rfl⟩:=hp
 obtain⟨j',he⟩:=sB (s:=s) hm hh
 rw[he]
 exact Fin.plainE (j:=j') rfl (.bool _) hR
def PS.stp1(s:PS)(e:Ev):PS:=if s.fits true (s.dpt e.b) e then s.aft e else s
theorem fS{s:PS}{e:Ev}(h:L0.ck e=true):s.step L0 e=s.stp1 e:=by unfold PS.step PS.stp1 PS.ok;rw[h]
theorem fU{e:Ev}(h1:L0.right e=true)(h2:usedE e=e):L0.ck e=true:=by unfold Leaf.ck;rw[h1,h2];simp
def l23:List Ev:=[⟨3,3,0,0,[117],[],[]⟩,⟨7,4,3,0,[103],[],[]⟩,⟨13,0,0,9,[],[],[]⟩]
def b23:List Ev:=[⟨5,3,0,0,[],[84],[]⟩,⟨7,5,3,9,[104],[120],[]⟩]
def s23:PS:=l23.foldl PS.stp1 PS.z
def s24:PS:=b23.foldl PS.stp1 s23
def d23:Fd:=⟨[84],[],[⟨[103],[],[],0,false⟩,⟨[104],[120],[],0,false⟩]⟩
theorem i8:l23.foldl (PS.step L0) PS.z=s23:=by
 show(((PS.z.step L0 _).step L0 _).step L0 _)=_
 rw[fS (fU (by kernel_rfl) rfl),fS (fU (by kernel_rfl) rfl),fS (fU (by kernel_rfl) rfl)]
 rfl
theorem ib:b23.foldl (PS.step L0) s23=s24:=by
 show((s23.step L0 _).step L0 _)=_
 rw[fS (fU (by kernel_rfl) rfl),fS (fU (by kernel_rfl) rfl)]
 rfl
theorem jm:s23.Inv:=by rw[← i8];exact PS.Inv.z.fold l23
theorem mG:s23.Tops:=by rw[← i8];exact PS.Tops.z0.fold PS.Inv.z l23
theorem eD:s24.Inv:=by rw[← ib];exact jm.fold b23
theorem eE:s24.Tops:=by rw[← ib];exact mG.fold jm b23
theorem vW:plF s23 3 d23 0=(b23,0):=by kernel_rfl
theorem vX:plF s24 3 d23 0=([],0):=by kernel_rfl
theorem vY:plF s24 4 d23 0=([],4):=by kernel_rfl
theorem vZ:plF s24 3 Fd.z 120=([],120):=by kernel_rfl
theorem wa:plF s24 3 ⟨[32],[],[]⟩ (if fdOk ⟨[32],[],[]⟩then 0 else 120)=([],120):=by kernel_rfl
theorem Al:s24.room=1022:=by kernel_rfl
def t23:Bs:=[60,114,115,115,62,60,99,104,97,110,110,101,108,62,60,116,105,116,108,101,62,84,60,47,116,105,116,108,101,62,60,105,116,101,109,62,60,103,117,105,100,62,103,60,47,103,117,105,100,62,60,47,105,116,101,109,62,60,105,116,101,109,62,60,103,117,105,100,62,104,60,47,103,117,105,100,62,60,116,105,116,108,101,62,120,60,47,116,105,116,108,101,62,60,47,105,116,101,109,62,60,47,99,104,97,110,110,101,108,62,60,47,114,115,115,62]
def e23:Elem:=⟨[114,115,115],[],[],[⟨[99,104,97,110,110,101,108],[],[],[⟨[116,105,116,108,101],[],[84],[]⟩,⟨[105,116,101,109],[],[],[⟨[103,117,105,100],[],[103],[]⟩]⟩,⟨[105,116,101,109],[],[],[⟨[103,117,105,100],[],[104],[]⟩,⟨[116,105,116,108,101],[],[120],[]⟩]⟩]⟩]⟩
def eG23:AVal:=.agg [.str [103],.str [],.str [],.int .i64 0,.bool false]
def eH23:AVal:=.agg [.str [104],.str [120],.str [],.int .i64 0,.bool false]
theorem Am:ofE e23=some d23:=by kernel_rfl
section
variable (G:Nat→Option (List AVal))
theorem tM:isW (.tup [e23.av,.int .i64 0]) (callX (CT G) orcX 1000 100 36 [.str t23] [])=true:=by kernel_rfl
def m23:List Elem:=[⟨[105,116,101,109],[],[],[⟨[103,117,105,100],[],[103],[]⟩]⟩,⟨[105,116,101,109],[],[],[⟨[103,117,105,100],[],[104],[]⟩,⟨[116,105,116,108,101],[],[120],[]⟩]⟩]
theorem sC:∀k∈m23,(momL anyF k [bPub,bDate])=none:=by
 intro k hk
 simp only[m23,List.mem_cons,List.not_mem_nil,or_false]at hk
 rcases hk with rfl|rfl<;>kernel_rfl
theorem tN:(m23.all fun k=>isV (.tup [.int .i64 0,.bool false]) (callX (CT G) orcX 1000 100 165 [k.av,.sl 1 ([bPub,bDate].map .str)] []))=true:=by kernel_rfl
theorem tO:isW (oFd none) (callX (CT G) orcX 1000 100 68 [e23.av] [])=true:=by kernel_rfl
theorem wb(hG:GOk G)(hc:GClo (CT G))(h:Heap):Sat (CT G) 33 [e23.av] h (fun r h'=>r=.tup [d23.av,.int .i64 0]∧h'=h):=by
 have hk:kidsF (kidF e23 bChan).1 bItem=m23:=by kernel_rfl
 have hM:∀k∈kidsF (kidF e23 bChan).1 bItem,MomC G k:=by
  rw[hk]
  intro k hm h
  rw[sC k hm]
  exact Sat.closedD hc (gr hG) 1000 100 (f:=165) (by
   simp only[m23,List.mem_cons,List.not_mem_nil,or_false]at hm
   rcases hm with rfl|rfl<;>rfl) rfl (List.all_eq_true.1 (tN G) k hm) h
 have hR:ReadC G 67 e23 rssF:=fun h=>o0 G e23 hM (of_decide_eq_true (by kernel_rfl)) h
 have ha:atomF e23=none:=by kernel_rfl
 have hB:ReadC G 68 e23 atomF:=fun h=>by
  rw[ha]
  exact Sat.closedW hc (gr hG) 1000 100 (f:=68) (args:=[e23.av]) rfl (tO G) h
 have:=pm G e23 hR hB h
 rw[Am]at this
 exact this
theorem qW(hG:GOk G)(hc:GClo (CT G))(h:Heap):Sat (CT G) 9 [.str t23] h (fun r h'=>r=.tup [d23.av,.int .i64 0]∧h'=h):=by
 have hT:=Sat.closedW hc (gr hG) 1000 100 (f:=36) (args:=[.str t23]) rfl (tM G)
 have hO:∀h,Sat (CT G) 33 [e23.av] h (fun r h'=>r=.tup [.agg [.str [84],.str [],.sl 5 [eG23,eH23]],.int .i64 0]∧h'=h):=fun h=>wb G hG hc h
 rw[Elem.av_eq]at hT hO
 have F:= @ai
 refine sb [.cell 2 25,.tmp 3] (fn:=Tryz.f9) Tryz.func9 ?_
 intro Q hQ
 refine wk F ?_
 refine kq F (hT _) ?_
 refine kq F (hO _) ?_
 refine ye hQ F ?_
 exact Fin.plain (bu _ _ rfl) ⟨rfl,rfl⟩
theorem tP:isW (.tup [Fd.z.av,.int .i64 120]) (callX (CT G) orcX 1000 100 9 [.str [60,97,47,62]] [])=true:=by kernel_rfl
theorem dZ(hG:GOk G)(hc:GClo (CT G))(h:Heap):Sat (CT G) 14 [] h (fun r h'=>r=.bool true∧h'=h):=by
 have hF:=fK G l23 (by decide) h
 rw[i8]at hF
 have hz9:(PS.z.bl h.length).length=9:=rfl
 obtain⟨H0,hH0⟩:∃H0,H0=h++PS.z.bl h.length:=⟨_,rfl⟩
 rw[← hH0]at hF
 have hl0:H0.length=h.length+9:=by rw[hH0];simp[hz9]
 have hn0:∀j:Heap,h.length+9≤(H0++j).length:=fun j=>by simp;omega
 have hP1:=qW G hG hc
 have hP2:=fun h=>Sat.closedW hc (gr hG) 1000 100 (f:=9) (args:=[.str [60,97,47,62]]) (v:=.tup [Fd.z.av,.int .i64 120]) rfl (tP G) h
 have hd:d23.es.length≤1048576:=by decide
 have dA:=mD G (H:=H0) (n:=h.length) jm mG (by omega) 3 t23 d23 0 hd hP1
 have dB:=mD G (H:=H0) (n:=h.length) eD eE (by omega) 3 t23 d23 0 hd hP1
 have dC:=fP G (H:=H0) (n:=h.length) eD eE (by omega) 4 t23 d23 0 hd hP1
 have dD:=fP G (H:=H0) (n:=h.length) eD eE (by omega) 3 [60,97,47,62] Fd.z 120 (by decide) hP2
 have dE:=jl G (H:=H0) (n:=h.length) eD eE (by omega) 3 ⟨[32],[],[]⟩ ⟨by decide,by decide,by decide,fun x hx=>by cases hx⟩
 have dF:=fO G (H:=H0) (n:=h.length) s24 (by omega) eD eE
 rw[vW]at dA
 rw[vX]at dB
 rw[vY]at dC
 rw[vZ]at dD
 rw[wa]at dE
 rw[Al]at dF
 simp only[ib,List.foldl_nil]at dA dB
 have dA:Sat (CT G) 17 [.hp (h.length+8) 0 0 0,.int .i64 3,.str t23] (so H0 h.length s23) (fun r h'=>r=.tup [.sl 7 [.agg [.int .i64 5,.int .i64 3,.int .i64 0,.int .i64 0,.str [],.str [84],.str []],.agg [.int .i64 7,.int .i64 5,.int .i64 3,.int .i64 9,.str [104],.str [120],.str []]],.int .i64 0]∧h'=so H0 h.length s24):=dA
 have dB:Sat (CT G) 17 [.hp (h.length+8) 0 0 0,.int .i64 3,.str t23] (so H0 h.length s24) (fun r h'=>r=.tup [.sl 7 [],.int .i64 0]∧h'=so H0 h.length s24):=dB
 have dC:Sat (CT G) 16 [.hp (h.length+8) 0 0 0,.int .i64 4,.str t23] (so H0 h.length s24) (fun r h'=>r=.tup [.sl 7 [],.int .i64 4]∧h'=so H0 h.length s24):=dC
 have dD:Sat (CT G) 16 [.hp (h.length+8) 0 0 0,.int .i64 3,.str [60,97,47,62]] (so H0 h.length s24) (fun r h'=>r=.tup [.sl 7 [],.int .i64 120]∧h'=so H0 h.length s24):=dD
 have dE:Sat (CT G) 15 [.hp (h.length+8) 0 0 0,.int .i64 3,.agg [.str [32],.str [],.sl 5 []]] (so H0 h.length s24) (fun r h'=>r=.tup [.sl 7 [],.int .i64 120]∧h'=so H0 h.length s24):=dE
 have dE:=Sat.wk (xs:=[.hp (h.length+8) 0 0 0,.int .i64 3,.agg [.str [32],.str [],.nil (.slice none 0 0)]]) (ys:=[.hp (h.length+8) 0 0 0,.int .i64 3,.agg [.str [32],.str [],.sl 5 []]]) rfl (fun i x y hx hy=>by
  match i with
  |0=>cases hx;cases hy;exact Wk.refl _
  |1=>cases hx;cases hy;exact Wk.refl _
  |2=>cases hx;cases hy;exact pn 5 _ _ rfl
  |i+3=>cases hx) dE
 have ap:∀a b:Bs,List.append a b=a++b:=fun _ _=>rfl
 unfold t23 at dA dB dC
 have hn00:=hn0 []
 rw[List.append_nil]at hn00
 have F:=F7 @qV hn00 hn0 ap (F3 (@List.cons_append Blk) (@List.cons_append AVal) (@List.cons_append UInt8)) (F3 (@List.nil_append Blk) (@List.nil_append AVal) (@List.nil_append UInt8)) @ai
 refine sb [.tmp 0] (fn:=Tryz.f14) Tryz.func14 ?_
 intro Q hQ
 refine wk F ?_
 refine kq F (hF) ?_
 refine kq F (dA) ?_
 refine kq F (dB) ?_
 refine kq F (dC) ?_
 refine kq F (dD) ?_
 refine kq F (dE) ?_
 refine kq F (dF) ?_
 refine ee hQ F ?_
 exact dm hn00 ⟨_,hH0⟩ (Nat.le_refl _) ⟨rfl,rfl⟩
end
end Go.Av
namespace Go.Av
open Go Go.Proofs Go.RowKit
attribute [local irreducible] WP WPl WPix Sat
def EnU(x:En):Prop:=x.guid.length≤2000∧x.title.length≤2000∧x.link.length≤2000
def FdU(d:Fd):Prop:=d.title.length≤2000∧d.link.length≤2000∧d.es.length≤300∧∀x∈d.es,EnU x
theorem FdU.S{d:Fd}(h:FdU d):FdS d:=by
 obtain⟨h1,h2,h3,h4⟩:=h
 refine⟨by omega,by omega,by omega,fun x hx=>?_⟩
 obtain⟨k1,k2,k3⟩:=h4 x hx
 exact⟨by omega,by omega,by omega⟩
variable (G:Nat→Option (List AVal))
theorem ea(d:Fd)(h:Heap):Sat (CT G) 13 [d.av] h (fun r h'=>(∃b,r=.bool b∧(b=false→FdU d))∧h'=h):=by
 obtain⟨t,l,es⟩:=d
 have me:(es.map En.av).length=es.length:=List.length_map ..
 have f1:(Fd.mk t l es).av=.agg [.str t,.str l,.sl 5 (es.map En.av)]:=rfl
 rw[f1]
 have yes:∀j,Fin h (h++j) (fun r h'=>(∃b,r=.bool b∧(b=false→FdU ⟨t,l,es⟩))∧h'=h) (.bool true):=fun j=>Fin.plain (.bool _) ⟨⟨true,rfl,fun k=>by cases k⟩,rfl⟩
 by_cases c0:es.length≤300
 rotate_left
 ·have q0:decide ((es.length:Int)>300)=true:=decide_eq_true (by omega)
  have F:=F3 me q0 @ai
  refine sb [.tmp 2] (fn:=Tryz.f13) Tryz.func13 ?_
  intro Q hQ
  refine wk F ?_
  refine ee hQ F ?_
  exact yes _
 have q0:decide ((es.length:Int)>300)=false:=decide_eq_false (by omega)
 by_cases ct:t.length≤2000
 rotate_left
 ·have q1:decide ((t.length:Int)>2000)=true:=decide_eq_true (by omega)
  have F:=F4 me q0 q1 @ai
  refine sb [.tmp 2] (fn:=Tryz.f13) Tryz.func13 ?_
  intro Q hQ
  refine wk F ?_
  refine ee hQ F ?_
  exact yes _
 have q1:decide ((t.length:Int)>2000)=false:=decide_eq_false (by omega)
 by_cases cl:l.length≤2000
 rotate_left
 ·have q2:decide ((l.length:Int)>2000)=true:=decide_eq_true (by omega)
  have F:=F5 me q0 q1 q2 @ai
  refine sb [.tmp 2] (fn:=Tryz.f13) Tryz.func13 ?_
  intro Q hQ
  refine wk F ?_
  refine ee hQ F ?_
  exact yes _
 have q2:decide ((l.length:Int)>2000)=false:=decide_eq_false (by omega)
 have F:=F5 me q0 q1 q2 @ai
 refine sb [.tmp 2] (fn:=Tryz.f13) Tryz.func13 ?_
 intro Q hQ
 refine wk F ?_
 refine lm (fun nL tL hL=>∃(i:Nat) (m:Int) (j:Heap),es.length-i=nL∧h++(.row 25 3 0 [.agg [.str t,.str l,.sl 5 (es.map En.av)]]::j)=hL∧tL 3=.int .i64 m∧tL 4=.int .i64 i∧i≤es.length∧(0≤m∧m≤6000*i)∧(∀x∈es.take i,EnU x)) ((fun(i:Nat) (m:Int) (j:Heap)=>(es.length-i:Nat)) (0) (0) ([])) ?_ ?_
 ·refine Wkn.refl ⟨0,0,[],rfl,aY,?_,?_,by omega,by omega,by simp⟩
  all_goals first|exact zq F|rfl|omega|trivial|skip
 rintro _ s2 h' ⟨i,m,j,rfl,rfl,e3,e4,hi,hm,hx⟩ K2 hK2
 simp only[am,ao,Nat.reduceEqDiff, ↓reduceIte]at e3 e4
 have F:=F3 F e3 e4
 by_cases c1:i<es.length
 ·obtain⟨x,hxi,hxm⟩:=ak c1
  have d1:=decide_eq_true c1
  obtain⟨g,tt,ll,n,b⟩:=x
  by_cases u1:g.length≤2000
  rotate_left
  ·have r1:decide ((g.length:Int)>2000)=true:=decide_eq_true (by omega)
   have F:=F4 F d1 hxi r1
   try refine sq F ?_
   refine wk F ?_
   refine ee hQ F ?_
   exact yes _
  have r1:decide ((g.length:Int)>2000)=false:=decide_eq_false (by omega)
  by_cases u2:tt.length≤2000
  rotate_left
  ·have r2:decide ((tt.length:Int)>2000)=true:=decide_eq_true (by omega)
   have F:=F5 F d1 hxi r1 r2
   try refine sq F ?_
   refine wk F ?_
   refine ee hQ F ?_
   exact yes _
  have r2:decide ((tt.length:Int)>2000)=false:=decide_eq_false (by omega)
  by_cases u3:ll.length≤2000
  rotate_left
  ·have r3:decide ((ll.length:Int)>2000)=true:=decide_eq_true (by omega)
   have F:=F6 F d1 hxi r1 r2 r3
   try refine sq F ?_
   refine wk F ?_
   refine ee hQ F ?_
   exact yes _
  have r3:decide ((ll.length:Int)>2000)=false:=decide_eq_false (by omega)
  have hx':∀y∈es.take (i+1),EnU y:=fun y hy=>by
   rw[List.take_add_one,hxi]at hy
   rcases List.mem_append.1 hy with hy|hy
   ·exact hx y hy
   ·have:y=⟨g,tt,ll,n,b⟩:=by simpa using hy
    rw[this]
    exact⟨u1,u2,u3⟩
  have F:=F6 F d1 hxi r1 r2 r3
  try refine sq F ?_
  refine wk F ?_
  refine hK2 _ _ _ (Wkn.refl ⟨i+1,m+(g.length:Int)+(tt.length:Int)+(ll.length:Int),_,rfl,aY,?_,?_,by omega,by omega,hx'⟩) (by omega)
  all_goals first|exact zq F|rfl|omega|trivial|skip
 ·have d1:=decide_eq_false c1
  rw[List.take_of_length_le (by omega)]at hx
  have fin:∀(b:Bool) (j:Heap),Fin h (h++j) (fun r h'=>(∃b,r=.bool b∧(b=false→FdU ⟨t,l,es⟩))∧h'=h) (.bool b):=fun b j=>Fin.plain (.bool _) ⟨⟨b,rfl,fun _=>⟨ct,cl,c0,hx⟩⟩,rfl⟩
  generalize hb:decide (m>20000)=bb at*
  have F:=F3 F d1 hb
  try refine sq F ?_
  refine wk F ?_
  refine ee hQ F ?_
  exact fin _ _
end Go.Av
namespace Go.Av
open Go Go.Proofs Go.RowKit
attribute [local irreducible] WP WPl WPix Sat
theorem eF(H:Heap):abin Tryz.prog H .eql 40 (.nil (.pointer none)) (.nil (.pointer none))=some (.bool true):=by
 have hk:nilKind Tryz.prog 40 (.pointer none)=true:=by kernel_rfl
 simp[abin,hk,aeqNil]
variable (G:Nat→Option (List AVal))
theorem gN(id:Int)(h:Heap):Sat (CT G) 41 [.nil (.pointer none),.int .i64 id] h (fun r h'=>r=.tup [.agg [.int .i64 0,.int .i64 0,.str [],.str []],.int .i64 6]∧h'=h):=by
 have F:=F2 @eF @ai
 refine sb [.cell 4 69,.tmp 5] (fn:=Tryz.f41) Tryz.func41 ?_
 intro Q hQ
 refine wk F ?_
 refine ye hQ F ?_
 exact Fin.plain (bu _ _ rfl) ⟨rfl,rfl⟩
theorem qX(id:Int)(d:Fd)(h:Heap):Sat (CT G) 15 [.nil (.pointer none),.int .i64 id,d.av] h (fun r h'=>r=.tup [.sl 7 [],.int .i64 6]∧h'=h):=by
 obtain⟨dt,dk,es⟩:=d
 have f2:(Fd.mk dt dk es).av=.agg [.str dt,.str dk,.sl 5 (es.map En.av)]:=rfl
 rw[f2]
 have F:=F2 @eF @ai
 refine sb [.tmp 6,.tmp 7] (fn:=Tryz.f15) Tryz.func15 ?_
 intro Q hQ
 refine wk F ?_
 refine kq F (gN G id _) ?_
 refine ye hQ F ?_
 exact Fin.frz (cC _ _ _) ⟨rfl,rfl⟩
theorem iV(id:Int)(x:Bs)(h:Heap):Sat (CT G) 16 [.nil (.pointer none),.int .i64 id,.str x] h (fun r h'=>r=.tup [.sl 7 [],.int .i64 6]∧h'=h):=by
 have F:=F2 @eF @ai
 refine sb [.tmp 6,.tmp 7] (fn:=Tryz.f16) Tryz.func16 ?_
 intro Q hQ
 refine wk F ?_
 refine kq F (gN G id _) ?_
 refine ye hQ F ?_
 exact Fin.frz (cC _ _ _) ⟨rfl,rfl⟩
theorem qY(id:Int)(x:Bs)(h:Heap):Sat (CT G) 17 [.nil (.pointer none),.int .i64 id,.str x] h (fun r h'=>r=.tup [.sl 7 [],.int .i64 6]∧h'=h):=by
 have F:=F2 @eF @ai
 refine sb [.tmp 6,.tmp 7] (fn:=Tryz.f17) Tryz.func17 ?_
 intro Q hQ
 refine wk F ?_
 refine kq F (iV G id x _) ?_
 refine lm (fun nL tL hL=>∃(k:Nat),0-k=nL∧h=hL∧tL 21=.int .i64 k∧k≤0) ((fun(k:Nat)=>(0-k:Nat)) (0)) ?_ ?_
 ·refine Wkn.refl ⟨0,rfl,aY,?_,Nat.le_refl 0⟩
  all_goals first|exact zq F|rfl|omega|trivial|skip
 rintro _ s2 h' ⟨k,rfl,rfl,e21,hk⟩ K2 hK2
 simp only[am,ao,Nat.reduceEqDiff, ↓reduceIte]at e21
 have F:=F2 F e21
 refine wk F ?_
 refine cq F (fun c1=>?_) (fun c1=>?_)<;>(try exact c1.elim)<;>(refine wk F ?_)
 ·exact absurd c1 (by omega)
 refine ye hQ F ?_
 exact Fin.same (gx _ ([],_)) ⟨rfl,rfl⟩
theorem o3(h:Heap):Sat (CT G) 18 [.nil (.pointer none)] h (fun r h'=>r=.int .i64 0∧h'=h):=by
 have F:=F2 @eF @ai
 refine sb [.tmp 2] (fn:=Tryz.f18) Tryz.func18 ?_
 intro Q hQ
 refine wk F ?_
 refine ee hQ F ?_
 exact Fin.same (.int _ _) ⟨rfl,rfl⟩
theorem ic(hG:GOk G)(hc:GClo (CT G))(id:Int)(d:Fd)(x:Bs)(h:Heap):Sat (CT G) 4 [.int .i64 id,d.av,.str x] h (fun r h'=>r=.bool true∧h'=h):=by
 have hL:=dZ G hG hc
 have hLd:=ea G d
 have hOf:=qX G id d
 have hPl:=iV G id x
 have hDo:=qY G id x
 have hRm:=o3 G
 obtain⟨dt,dk,es⟩:=d
 have f2:(Fd.mk dt dk es).av=.agg [.str dt,.str dk,.sl 5 (es.map En.av)]:=rfl
 rw[f2]at*
 have dt1:∀i:Decidable True, @decide True i=true:=fun i=>by simp
 have df:∀i:Decidable False, @decide False i=false:=fun i=>by simp
 have F:=F3 dt1 df @ai
 refine sb [.tmp 6] (fn:=Tryz.f4) Tryz.func4 ?_
 intro Q hQ
 refine wk F ?_
 refine(hLd _).mono ?_
 rintro r h' ⟨⟨b,rfl,hb⟩,rfl⟩
 cases b with
 |true=>
  try refine sq F ?_
  refine wk F ?_
  refine kq F (hL _) ?_
  refine ee hQ F ?_
  exact Fin.plain (.bool _) ⟨rfl,rfl⟩
 |false=>
  by_cases cx:x.length≤6000
  ·have qx:decide ((x.length:Int)>6000)=false:=decide_eq_false (by omega)
   have F:=F2 F qx
   try refine sq F ?_
   refine wk F ?_
   refine kq F (hOf _) ?_
   refine kq F (hPl _) ?_
   refine kq F (hDo _) ?_
   refine kq F (hL _) ?_
   refine kq F (hRm _) ?_
   refine ee hQ F ?_
   exact Fin.plain (.bool _) ⟨rfl,rfl⟩
  ·have qx:decide ((x.length:Int)>6000)=true:=decide_eq_true (by omega)
   have F:=F2 F qx
   try refine sq F ?_
   refine wk F ?_
   refine kq F (hL _) ?_
   refine ee hQ F ?_
   exact Fin.plain (.bool _) ⟨rfl,rfl⟩
end Go.Av
namespace Go.Av
open Go Go.Proofs Go.RowKit
attribute [local irreducible] WP WPl WPix Sat
theorem mH{es:List Ev}(h:lgF es=false):es.length≤150:=by
 unfold lgF at h
 rw[Bool.or_eq_false_iff]at h
 have:=h.1
 simp only[decide_eq_false_iff_not]at this
 omega
theorem mI{H j:Heap}{n p:Nat}{s:PS}(hn:n+9≤(H++j).length)(hp:p<n)(hl:n≤H.length)(u:Nat):getRow (so (H++j) n s) p u=getRow H p u:=by
 unfold getRow so
 rw[fE (by show n+9≤_;omega) (.inl hp),List.getElem?_append_left (by omega)]
variable (G:Nat→Option (List AVal))
theorem jV(hG:GOk G)(hc:GClo (CT G))(es:List Ev)(id:Int)(d:Fd)(h:Heap):Sat (CT G) 6 [.sl 7 (es.map Ev.av),.int .i64 id,d.av] h (fun r h'=>r=.bool true∧h'=h):=by
 have hL:=dZ G hG hc
 have hLd:=ea G d
 have hLg:=dT G es
 have f2:d.av=.agg [.str d.title,.str d.link,.sl 5 (d.es.map En.av)]:=rfl
 have dt1:∀i:Decidable True, @decide True i=true:=fun i=>by simp
 have df:∀i:Decidable False, @decide False i=false:=fun i=>by simp
 cases hlg:lgF es with
 |true=>
  rw[hlg]at hLg
  rw[f2]at*
  have F:= @ai
  refine sb [.tmp 6] (fn:=Tryz.f6) Tryz.func6 ?_
  intro Q hQ
  refine wk F ?_
  refine kq F (hLg _) ?_
  refine kq F (hL _) ?_
  refine ee hQ F ?_
  exact Fin.plain (.bool _) ⟨rfl,rfl⟩
 |false=>
  rw[hlg]at hLg
  have hel:=mH hlg
  have hI:(es.foldl (PS.step L0) PS.z).Inv:=PS.Inv.z.fold es
  have hT:(es.foldl (PS.step L0) PS.z).Tops:=PS.Tops.z0.fold PS.Inv.z es
  obtain⟨rD,hrD⟩:∃rD,Blk.row 25 3 0 [d.av]=rD:=⟨_,rfl⟩
  have hfh:=fK G es (by omega) (h++[rD])
  have hnl:(h++[rD]).length=h.length+1:=by simp
  rw[hnl]at hfh
  generalize es.foldl (PS.step L0) PS.z=s at hI hT hfh
  have hz9:(PS.z.bl (h.length+1)).length=9:=rfl
  obtain⟨H0,hH0⟩:∃H0,H0=h++[rD]++PS.z.bl (h.length+1):=⟨_,rfl⟩
  rw[← hH0]at hfh
  have hl0:H0.length=h.length+10:=by rw[hH0];simp[hz9]
  have hn0:∀j:Heap,h.length+1+9≤(H0++j).length:=fun j=>by simp;omega
  have hpre:∃j',H0=h++j':=⟨[rD]++PS.z.bl (h.length+1),by rw[hH0];simp only[List.append_assoc]⟩
  have r0:getRow (h++[rD]) h.length 0=some (25,3,[d.av]):=by rw[aW _ rfl, ← hrD];rfl
  have hrd:∀(s:PS),getRow (so H0 (h.length+1) s) h.length 0=some (25,3,[d.av]):=fun s=>by
   have:=mI (H:=H0) (j:=[]) (n:=h.length+1) (p:=h.length) (s:=s) (hn0 []) (by omega) (by omega) 0
   rw[List.append_nil]at this
   rw[this,hH0,bq _ (by simp),r0]
  have hn00:=hn0 []
  rw[List.append_nil]at hn00
  have hOf:=fun(s:PS) (hI:s.Inv) (hT:s.Tops) (hS:FdS d)=>jl G (s:=s) (H:=H0) (n:=h.length+1) hI hT hn00 id d hS
  have hRm:=fO G (H:=H0) (n:=h.length+1) s hn00 hI hT
  have hAp:=fun(s:PS) (hI:s.Inv) (e:Ev)=>de G s hI e (H:=H0) (n:=h.length+1) hn00
  have hGu:=fun(s:PS) (g:Bs)=>iT G s (H:=H0) (n:=h.length+1) hn00 id g
  have hml:(d.es.map En.av).length=d.es.length:=List.length_map ..
  have hr0:0≤s.room:=by have:=hI.l3;have:=hT.m;unfold PS.room;omega
  generalize hRd:s.room=R at*
  rw[f2]at hLd hrD r0 hrd hOf ⊢
  have F:=F9 @hrD r0 hrd hn00 hn0 dt1 df hml @ai
  refine sb [.tmp 6] (fn:=Tryz.f6) Tryz.func6 ?_
  intro Q hQ
  refine wk F ?_
  refine kq F (hLg _) ?_
  refine(hLd _).mono ?_
  rintro r h' ⟨⟨b,rfl,hb⟩,rfl⟩
  cases b with
  |true=>
   try refine sq F ?_
   refine wk F ?_
   refine kq F (hL _) ?_
   refine ee hQ F ?_
   exact Fin.plain (.bool _) ⟨rfl,rfl⟩
  |false=>
   have hU:=hb rfl
   have hO:=hOf s hI hT hU.S
   cases hf:lkM s.fe id with
   |none=>
    have hp:plF s id d (if fdOk d then 0 else 120)=([],4):=by unfold plF;rw[hf]
    rw[hp]at hO
    have hO:Sat (CT G) 15 [.hp (h.length+1+8) 0 0 0,.int .i64 id,.agg [.str d.title,.str d.link,.sl 5 (d.es.map En.av)]] (so H0 (h.length+1) s) (fun r h'=>r=.tup [.sl 7 [],.int .i64 4]∧h'=so H0 (h.length+1) s):=hO
    try refine sq F ?_
    refine wk F ?_
    refine kq F (hfh) ?_
    refine kq F (hL _) ?_
    refine kq F (hRm) ?_
    refine kq F (hO) ?_
    refine ee hQ F ?_
    exact dm hn00 hpre (by omega) ⟨rfl,rfl⟩
   |some f=>
    cases hk:fdOk d with
    |false=>
     have hp:plF s id d (if fdOk d then 0 else 120)=([],120):=by unfold plF;rw[hf,hk];rfl
     rw[hp]at hO
     have hO:Sat (CT G) 15 [.hp (h.length+1+8) 0 0 0,.int .i64 id,.agg [.str d.title,.str d.link,.sl 5 (d.es.map En.av)]] (so H0 (h.length+1) s) (fun r h'=>r=.tup [.sl 7 [],.int .i64 120]∧h'=so H0 (h.length+1) s):=hO
     try refine sq F ?_
     refine wk F ?_
     refine kq F (hfh) ?_
     refine kq F (hL _) ?_
     refine kq F (hRm) ?_
     refine kq F (hO) ?_
     refine ee hQ F ?_
     exact dm hn00 hpre (by omega) ⟨rfl,rfl⟩
    |true=>
     have hp:plF s id d (if fdOk d then 0 else 120)=(brF s f d,0):=by unfold plF;rw[hf,hk];rfl
     rw[hp]at hO
     obtain⟨_,hB,⟨f',hf',hb0⟩,hall⟩:=p9 hI hT hf hk
     have hI2:=hI.fold (L:=L0) (brF s f d)
     have hT2:=hT.fold hI (brF s f d)
     have hIk:=fun k=>hI.fold (L:=L0) ((brF s f d).take k)
     have hbl:=pg s f d
     have hel2:=hU.2.2.1
     generalize brF s f d=l at*
     have hO:Sat (CT G) 15 [.hp (h.length+1+8) 0 0 0,.int .i64 id,.agg [.str d.title,.str d.link,.sl 5 (d.es.map En.av)]] (so H0 (h.length+1) s) (fun r h'=>r=.tup [.sl 7 (l.map Ev.av),.int .i64 0]∧h'=so H0 (h.length+1) s):=hO
     have hO2:=hOf _ hI2 hT2 hU.S
     have hp2:plF (l.foldl (PS.step L0) s) id d (if fdOk d then 0 else 120)=([],0):=by unfold plF;rw[hf',hk];show(brF _ f' d,_)=_;rw[hb0]
     rw[hp2]at hO2
     have hO2:Sat (CT G) 15 [.hp (h.length+1+8) 0 0 0,.int .i64 id,.agg [.str d.title,.str d.link,.sl 5 (d.es.map En.av)]] (so H0 (h.length+1) (l.foldl (PS.step L0) s)) (fun r h'=>r=.tup [.sl 7 [],.int .i64 0]∧h'=so H0 (h.length+1) (l.foldl (PS.step L0) s)):=hO2
     have hll:(l.map Ev.av).length=l.length:=List.length_map ..
     rw[hRd]at hall
     clear hOf hp hp2 hLd hb
     have F:=F2 F hll
     try refine sq F ?_
     refine wk F ?_
     refine kq F (hfh) ?_
     refine kq F (hL _) ?_
     refine kq F (hRm) ?_
     refine kq F (hO) ?_
     refine lm (fun nL tL hL=>∃(k:Nat),l.length-k=nL∧so H0 (h.length+1) ((l.take k).foldl (PS.step L0) s)=hL∧tL 11=.int .i64 k∧k≤l.length) ((fun(k:Nat)=>(l.length-k:Nat)) (0)) ?_ ?_
     ·refine Wkn.refl ⟨0,rfl,aY,?_,by omega⟩
      all_goals first|exact zq F|rfl|omega|trivial|skip
     rintro _ s2 h' ⟨k,rfl,rfl,e11,hk⟩ K2 hK2
     simp only[am,ao,Nat.reduceEqDiff, ↓reduceIte]at e11
     have F:=F2 F e11
     by_cases c2:k<l.length
     ·have d2:=decide_eq_true c2
      obtain⟨y,hy,hym⟩:=ak c2
      have hm:(l.map Ev.av)[k]? =some y.av:=by rw[List.getElem?_map,hy];rfl
      have hst:(l.take (k+1)).foldl (PS.step L0) s=((l.take k).foldl (PS.step L0) s).step L0 y:=by rw[List.take_add_one,hy,Option.toList_some,List.foldl_append];rfl
      have hA1:=hAp _ (hIk k) y
      rw[← hst]at hA1
      have F:=F5 F hm hy d2 c2
      try refine sq F ?_
      refine wk F ?_
      refine kq F (hA1) ?_
      refine hK2 _ _ _ (Wkn.refl ⟨k+1,rfl,rfl,?_,by omega⟩) (by omega)
      all_goals first|exact zq F|rfl|omega|trivial|skip
     ·have d2:=decide_eq_false c2
      rw[List.take_of_length_le (by omega)]
      by_cases hr:(d.es.length:Int)≤R
      ·have q2:decide ((d.es.length:Int)>R)=false:=decide_eq_false (by omega)
       have hall:=hall hr
       have F:=F3 F d2 q2
       try refine sq F ?_
       refine wk F ?_
       refine kq F (hO2) ?_
       refine lm (fun nL tL hL=>∃(i:Nat),d.es.length-i=nL∧so H0 (h.length+1) (l.foldl (PS.step L0) s)=hL∧tL 14=.int .i64 i∧i≤d.es.length) ((fun(i:Nat)=>(d.es.length-i:Nat)) (0)) ?_ ?_
       ·refine Wkn.refl ⟨0,rfl,aY,?_,by omega⟩
        all_goals first|exact zq F|rfl|omega|trivial|skip
       rintro _ s2 h' ⟨i,rfl,rfl,e14,hi⟩ K2 hK2
       simp only[am,ao,Nat.reduceEqDiff, ↓reduceIte]at e14
       have F:=F2 F e14
       by_cases c3:i<d.es.length
       ·have d3:=decide_eq_true c3
        obtain⟨y,hy,hym⟩:=ak c3
        have hm:(d.es.map En.av)[i]? =some y.av:=by rw[List.getElem?_map,hy];rfl
        have hG1:=hGu (l.foldl (PS.step L0) s) y.guid
        rw[hall y hym]at hG1
        obtain⟨yg,yt,yk,ya,yb⟩:=y
        rw[En.av_eq]at hm
        simp only[]at hG1 hm
        have F:=F5 F hm hy d3 c3
        try refine sq F ?_
        refine wk F ?_
        refine kq F (hG1) ?_
        refine hK2 _ _ _ (Wkn.refl ⟨i+1,rfl,rfl,?_,by omega⟩) (by omega)
        all_goals first|exact zq F|rfl|omega|trivial|skip
       ·have d3:=decide_eq_false c3
        have F:=F2 F d3
        try refine sq F ?_
        refine wk F ?_
        refine ee hQ F ?_
        exact dm hn00 hpre (by omega) ⟨rfl,rfl⟩
      ·have q2:decide ((d.es.length:Int)>R)=true:=decide_eq_true (by omega)
       have F:=F3 F d2 q2
       try refine sq F ?_
       refine wk F ?_
       refine kq F (hO2) ?_
       refine ee hQ F ?_
       exact dm hn00 hpre (by omega) ⟨rfl,rfl⟩
end Go.Av
namespace Go.Av
open Go Go.Proofs Go.RowKit
attribute [local irreducible] WP WPl WPix Sat
theorem pp:∀{l:List Ev} {s:PS} {k:Nat} {y:Ev},fitAll s l=true→l[k]? =some y→((l.take k).foldl (PS.step L0) s).ok L0 y=true
 | [],_,_,_,_,hy=>by cases hy
 |e::l,s,0,y,h,hy=>by
  cases hy
  rw[fitAll,Bool.and_eq_true]at h
  exact h.1
 |e::l,s,k+1,y,h,hy=>by
  rw[fitAll,Bool.and_eq_true]at h
  exact pp (k:=k) h.2 hy
theorem tQ{s:PS}{id:Int}{d:Fd}(hI:s.Inv)(hT:s.Tops):fitAll s (plF s id d (if fdOk d then 0 else 120)).1=true∧Brought s ((plF s id d (if fdOk d then 0 else 120)).1.foldl (PS.step L0) s) id:=by
 have no:fitAll s []=true∧Brought s (([]:List Ev).foldl (PS.step L0) s) id:=⟨rfl,⟨rfl,rfl,rfl,fun _ _ h=>h,rfl,fun _ _=>rfl,fun f hf=>⟨f.title,hf⟩⟩⟩
 unfold plF
 cases hf:lkM s.fe id with
 |none=>exact no
 |some f=>
  cases hk:fdOk d with
  |false=>exact no
  |true=>
   obtain⟨h1,h2,_⟩:=p9 hI hT hf hk
   exact⟨h1,h2⟩
variable (G:Nat→Option (List AVal))
theorem o4(l:List Bs)(hl:l.length≤1048576)(h:Heap):Sat (CT G) 62 [.sl 1 (l.map .str),.sl 1 (l.map .str)] h (fun r h'=>r=.bool true∧h'=h):=by
 have hml:(l.map AVal.str).length=l.length:=List.length_map ..
 have q1:((l.length:Int) != (l.length:Int))=false:=by simp
 have F:=F2 hml q1
 refine sb [.tmp 4] (fn:=Tryz.f62) Tryz.func62 ?_
 intro Q hQ
 refine wk F ?_
 refine lm (fun nL tL hL=>∃(k:Nat),l.length-k=nL∧h=hL∧tL 5=.int .i64 k∧k≤l.length) ((fun(k:Nat)=>(l.length-k:Nat)) (0)) ?_ ?_
 ·refine Wkn.refl ⟨0,rfl,aY,?_,by omega⟩
  all_goals first|exact zq F|rfl|omega|trivial|skip
 rintro _ s2 h' ⟨k,rfl,rfl,e5,hk⟩ K2 hK2
 simp only[am,ao,Nat.reduceEqDiff, ↓reduceIte]at e5
 have F:=F2 F e5
 by_cases c2:k<l.length
 ·have d2:=decide_eq_true c2
  obtain⟨y,hy,hym⟩:=ak c2
  have hm:(l.map AVal.str)[k]? =some (.str y):=by rw[List.getElem?_map,hy];rfl
  have qy:(y==y)=true:=by simp
  have F:=F7 F hm hy d2 c2 qy @Bool.not_true
  try refine sq F ?_
  refine wk F ?_
  refine hK2 _ _ _ (Wkn.refl ⟨k+1,rfl,rfl,?_,by omega⟩) (by omega)
  all_goals first|exact zq F|rfl|omega|trivial|skip
 ·have d2:=decide_eq_false c2
  have F:=F2 F d2
  try refine sq F ?_
  refine wk F ?_
  refine ee hQ F ?_
  exact Fin.same (.bool _) ⟨rfl,rfl⟩
theorem jW(t:It)(ht:t.tags.length≤1048576)(h:Heap):Sat (CT G) 31 [t.av,t.av] h (fun r h'=>r=.bool true∧h'=h):=by
 have hX:=o4 G t.tags ht
 obtain⟨a,b,c,g,u,v,p,q,ts⟩:=t
 have f1:(It.mk a b c g u v p q ts).av=.agg [.int .i64 a,.int .i64 b,.int .i64 c,.str g,.str u,.str v,.bool p,.bool q,.sl 1 (ts.map .str)]:=rfl
 rw[f1]
 simp only[]at hX
 have qi:∀x:Int,(x==x)=true:=fun x=>by simp
 have qs:∀x:Bs,(x==x)=true:=fun x=>by simp
 have qb:∀x:Bool,(x==x)=true:=fun x=>by simp
 have F:=F4 qi qs qb @ai
 refine sb [.tmp 4] (fn:=Tryz.f31) Tryz.func31 ?_
 intro Q hQ
 refine wk F ?_
 refine kq F (hX _) ?_
 refine ee hQ F ?_
 exact Fin.plain (.bool _) ⟨rfl,rfl⟩
theorem jn(hG:GOk G)(hc:GClo (CT G))(es:List Ev)(id:Int)(d:Fd)(h:Heap):Sat (CT G) 7 [.sl 7 (es.map Ev.av),.int .i64 id,d.av] h (fun r h'=>r=.bool true∧h'=h):=by
 have hL:=dZ G hG hc
 have hLd:=ea G d
 have hLg:=dT G es
 have f2:d.av=.agg [.str d.title,.str d.link,.sl 5 (d.es.map En.av)]:=rfl
 have dt1:∀i:Decidable True, @decide True i=true:=fun i=>by simp
 have df:∀i:Decidable False, @decide False i=false:=fun i=>by simp
 cases hlg:lgF es with
 |true=>
  rw[hlg]at hLg
  rw[f2]at*
  have F:= @ai
  refine sb [.tmp 6] (fn:=Tryz.f7) Tryz.func7 ?_
  intro Q hQ
  refine wk F ?_
  refine kq F (hLg _) ?_
  refine kq F (hL _) ?_
  refine ee hQ F ?_
  exact Fin.plain (.bool _) ⟨rfl,rfl⟩
 |false=>
  rw[hlg]at hLg
  have hel:=mH hlg
  have hI:(es.foldl (PS.step L0) PS.z).Inv:=PS.Inv.z.fold es
  have hT:(es.foldl (PS.step L0) PS.z).Tops:=PS.Tops.z0.fold PS.Inv.z es
  obtain⟨rD,hrD⟩:∃rD,Blk.row 25 3 0 [d.av]=rD:=⟨_,rfl⟩
  have hfh:=fK G es (by omega) (h++[rD])
  have hnl:(h++[rD]).length=h.length+1:=by simp
  rw[hnl]at hfh
  generalize es.foldl (PS.step L0) PS.z=s at hI hT hfh
  have hz9:(PS.z.bl (h.length+1)).length=9:=rfl
  obtain⟨H0,hH0⟩:∃H0,H0=h++[rD]++PS.z.bl (h.length+1):=⟨_,rfl⟩
  rw[← hH0]at hfh
  have hl0:H0.length=h.length+10:=by rw[hH0];simp[hz9]
  have hn0:∀j:Heap,h.length+1+9≤(H0++j).length:=fun j=>by simp;omega
  have hpre:∀j,∃j',H0++j=h++j':=fun j=>⟨[rD]++(PS.z.bl (h.length+1)++j),by rw[hH0];simp only[List.append_assoc]⟩
  have r0:getRow (h++[rD]) h.length 0=some (25,3,[d.av]):=by rw[aW _ rfl, ← hrD];rfl
  have hrd:∀(s:PS) (j:Heap),getRow (so (H0++j) (h.length+1) s) h.length 0=some (25,3,[d.av]):=fun s j=>by
   have:=mI (H:=H0) (j:=j) (n:=h.length+1) (p:=h.length) (s:=s) (hn0 j) (by omega) (by omega) 0
   rw[this,hH0,bq _ (by simp),r0]
  have hn00:=hn0 []
  have hrd0:=hrd s []
  rw[List.append_nil]at hn00 hrd0
  obtain⟨hfit,hB⟩:=tQ (id:=id) (d:=d) hI hT
  have hOf:=fun(hS:FdS d) (X:Heap) (hX:h.length+1+9≤X.length)=>jl G (s:=s) (H:=X) (n:=h.length+1) hI hT hX id d hS
  have hTl:=eR G s hI.toOk (H:=H0) (n:=h.length+1) hn00
  have hI2:=hI.fold (L:=L0) (plF s id d (if fdOk d then 0 else 120)).1
  have hIk:=fun k=>hI.fold (L:=L0) ((plF s id d (if fdOk d then 0 else 120)).1.take k)
  have hpl:=ph s id d (if fdOk d then 0 else 120)
  generalize plF s id d (if fdOk d then 0 else 120)=pl at*
  obtain⟨l,e⟩:=pl
  simp only[]at hfit hB hI2 hIk hpl
  have hOf:FdS d→∀(X:Heap),h.length+1+9≤X.length→Sat (CT G) 15 [.hp (h.length+1+8) 0 0 0,.int .i64 id,d.av] (so X (h.length+1) s) (fun r h'=>r=.tup [.sl 7 (l.map Ev.av),.int .i64 e]∧h'=so X (h.length+1) s):=hOf
  have hAp:=fun(s:PS) (hI:s.Inv) (e:Ev) (X:Heap) (hX:h.length+1+9≤X.length)=>de G s hI e (H:=X) (n:=h.length+1) hX
  have hll:(l.map Ev.av).length=l.length:=List.length_map ..
  rw[f2]at hLd hrD r0 hrd hrd0 hOf ⊢
  have F:=wX @hrD r0 hrd hrd0 hn00 hn0 dt1 df hll @ai
  refine sb [.tmp 6] (fn:=Tryz.f7) Tryz.func7 ?_
  intro Q hQ
  refine wk F ?_
  refine kq F (hLg _) ?_
  refine(hLd _).mono ?_
  rintro r h' ⟨⟨b,rfl,hb⟩,rfl⟩
  cases b with
  |true=>
   try refine sq F ?_
   refine wk F ?_
   refine kq F (hL _) ?_
   refine ee hQ F ?_
   exact Fin.plain (.bool _) ⟨rfl,rfl⟩
  |false=>
   have hU:=hb rfl
   have hel2:=hU.2.2.1
   have hO:=hOf hU.S
   clear hOf hLd hb
   obtain⟨x,hx⟩:∃x,s.tell=x:=⟨_,rfl⟩
   have hxl:x.it.length≤1024:=by rw[← hx];show(valsM It.z s.it).length≤_;rw[fN];exact hI.l3
   have hxf:x.fe.length≤64:=by rw[← hx];show(valsM Fe.z s.fe).length≤_;rw[fN];exact hI.l2
   rw[hx]at hTl
   obtain⟨J,hJ⟩:∃J:Heap,[Blk.row 47 9 0 [x.av]]=J:=⟨_,rfl⟩
   have hJl:J.length=1:=by rw[← hJ];rfl
   have hJ2:=hJ
   rw[St.av_eq]at hJ2
   have gJ:∀(s:PS) (j:Heap),getRow (so (H0++(J++j)) (h.length+1) s) H0.length 0=some (47,9,[x.av]):=fun s j=>by
    rw[bi (hn0 _) _ (by omega), ← hJ,aW _ rfl];rfl
   have gJ0:∀(s:PS),getRow (so (H0++J) (h.length+1) s) H0.length 0=some (47,9,[x.av]):=fun s=>by have:=gJ s [];rwa [List.append_nil]at this
   have hxi:(x.it.map It.av).length=x.it.length:=List.length_map ..
   have F:=F2 F hJ2
   try refine sq F ?_
   refine wk F ?_
   refine kq F (hfh) ?_
   refine kq F (hL _) ?_
   refine kq F (hTl) ?_
   refine kq F (hO _ (hn0 _)) ?_
   refine lm (fun nL tL hL=>∃(k:Nat),l.length-k=nL∧so (H0++J) (h.length+1) ((l.take k).foldl (PS.step L0) s)=hL∧tL 11=.int .i64 k∧k≤l.length) ((fun(k:Nat)=>(l.length-k:Nat)) (0)) ?_ ?_
   ·refine Wkn.refl ⟨0,rfl,aY,?_,by omega⟩
    all_goals first|exact zq F|rfl|omega|trivial|skip
   rintro _ s2 h' ⟨k,rfl,rfl,e11,hk⟩ K2 hK2
   simp only[am,ao,Nat.reduceEqDiff, ↓reduceIte]at e11
   have F:=F2 F e11
   by_cases c2:k<l.length
   ·have d2:=decide_eq_true c2
    obtain⟨y,hy,hym⟩:=ak c2
    have hm:(l.map Ev.av)[k]? =some y.av:=by rw[List.getElem?_map,hy];rfl
    have hst:(l.take (k+1)).foldl (PS.step L0) s=((l.take k).foldl (PS.step L0) s).step L0 y:=by rw[List.take_add_one,hy,Option.toList_some,List.foldl_append];rfl
    have hA1:=hAp _ (hIk k) y (H0++J) (hn0 _)
    rw[← hst,pp hfit hy]at hA1
    have F:=F5 F hm hy d2 c2
    try refine sq F ?_
    refine wk F ?_
    refine kq F (hA1) ?_
    refine hK2 _ _ _ (Wkn.refl ⟨k+1,rfl,rfl,?_,by omega⟩) (by omega)
    all_goals first|exact zq F|rfl|omega|trivial|skip
   have d2:=decide_eq_false c2
   rw[List.take_of_length_le (by omega)]
   clear hIk hfit hO
   generalize l.foldl (PS.step L0) s=sz at hB hI2 ⊢
   have F:=F2 F d2
   try refine sq F ?_
   refine wk F ?_
   refine lm (fun nL tL hL=>∃(i:Nat) (j:Heap),x.it.length-i=nL∧so (H0++(J++j)) (h.length+1) sz=hL∧tL 12=.int .i64 i∧i≤x.it.length) ((fun(i:Nat) (j:Heap)=>(x.it.length-i:Nat)) (0) ([])) ?_ ?_
   ·refine Wkn.refl ⟨0,[],rfl,by rw[List.append_nil],?_,by omega⟩
    all_goals first|exact zq F|rfl|omega|trivial|skip
   rintro _ s2 h' ⟨i,j,rfl,rfl,e12,hi⟩ K2 hK2
   simp only[am,ao,Nat.reduceEqDiff, ↓reduceIte]at e12
   have F:=F2 F e12
   by_cases c3:i<x.it.length
   ·have d3:=decide_eq_true c3
    obtain⟨t,ht,htm⟩:=ak c3
    have hm:(x.it.map It.av)[i]? =some t.av:=by rw[List.getElem?_map,ht];rfl
    have hlk:=vV hI hB (by rw[← hx]at htm;exact htm)
    have hIt:=nJ G sz t.id (by have:=(hI2.tags t.id).2;omega) (H:=H0++(J++j)) (n:=h.length+1) (hn0 _)
    rw[hlk]at hIt
    have hSm:=jW G t (by have:=(hI2.tg _ _ hlk).2;omega)
    have gj:=gJ sz j
    have gj2:=gJ sz (j++[.row 64 9 0 [t.av]])
    rw[St.av_eq]at gj gj2
    rw[It.av_eq]at gj2
    obtain⟨t1,t2,t3,t4,t5,t6,t7,t8,t9⟩:=t
    have f3:(It.mk t1 t2 t3 t4 t5 t6 t7 t8 t9).av=.agg [.int .i64 t1,.int .i64 t2,.int .i64 t3,.str t4,.str t5,.str t6,.bool t7,.bool t8,.sl 1 (t9.map .str)]:=rfl
    have hIt:Sat (CT G) 30 [.hp (h.length+1+8) 0 0 0,.int .i64 t1] (so (H0++(J++j)) (h.length+1) sz) (fun r h'=>r=.tup [(It.mk t1 t2 t3 t4 t5 t6 t7 t8 t9).av,.bool true]∧h'=so (H0++(J++j)) (h.length+1) sz):=hIt
    rw[f3]at hIt hSm hm
    have F:=F7 F hm ht d3 c3 gj gj2
    try refine sq F ?_
    refine wk F ?_
    refine kq F (hIt) ?_
    refine aj (hSm _) ?_
    try refine sq F ?_
    refine wk F ?_
    refine hK2 _ _ _ (Wkn.refl ⟨i+1,j++[.row 64 9 0 [.agg [.int .i64 t1,.int .i64 t2,.int .i64 t3,.str t4,.str t5,.str t6,.bool t7,.bool t8,.sl 1 (t9.map .str)]]],rfl,rfl,?_,by omega⟩) (by omega)
    all_goals first|exact zq F|rfl|omega|trivial|skip
   have d3:=decide_eq_false c3
   have hT2:=eR G sz hI2.toOk (H:=H0++(J++j)) (n:=h.length+1) (hn0 _)
   obtain⟨y,hy⟩:∃y,sz.tell=y:=⟨_,rfl⟩
   rw[hy]at hT2
   have qa:y.fe.length=x.fe.length:=by rw[← hy, ← hx];exact Ak hB
   have qb:y.fo.length=x.fo.length:=by rw[← hy, ← hx];show(valsM Fo.z sz.fo).length=(valsM Fo.z s.fo).length;rw[hB.fo]
   have qc:y.clock=x.clock:=by rw[← hy, ← hx];exact hB.cl
   have qd:y.t2=x.t2:=by rw[← hy, ← hx];exact hB.t2
   have hfe:∀(i:Nat) (b:Fe),x.fe[i]? =some b→∃a,y.fe[i]? =some a∧a.id=b.id∧a.inn=b.inn∧a.url=b.url∧(b.id≠id→a.title=b.title):=fun i b hb=>by
    rw[← hx]at hb;rw[← hy];exact vU hI hB hb
   obtain⟨J2,hJ2a⟩:∃J2:Heap,J++(j++[Blk.row 47 9 0 [y.av]])=J2:=⟨_,rfl⟩
   have hJ2l:J2.length=j.length+2:=by rw[← hJ2a];simp[hJl];omega
   have hJ2b:=hJ2a
   rw[St.av_eq]at hJ2b
   have k1:getRow J2 0 0=some (47,9,[x.av]):=by rw[← hJ2a, ← hJ];rfl
   have k2:getRow J2 (J.length+j.length) 0=some (47,9,[y.av]):=by
    rw[← hJ2a,br _ rfl,aW _ rfl];rfl
   have m1:(y.fe.map Fe.av).length=y.fe.length:=List.length_map ..
   have m2:(x.fe.map Fe.av).length=x.fe.length:=List.length_map ..
   have m3:(y.fo.map Fo.av).length=y.fo.length:=List.length_map ..
   have m4:(x.fo.map Fo.av).length=x.fo.length:=List.length_map ..
   have qa2:((y.fe.length:Int) != (x.fe.length:Int))=false:=by rw[qa];simp
   have qb2:((y.fo.length:Int) != (x.fo.length:Int))=false:=by rw[qb];simp
   have qc2:(y.clock !=x.clock)=false:=by rw[qc];simp
   have qd2:(y.t2 !=x.t2)=false:=by rw[qd];simp
   rw[St.av_eq]at k1 k2
   have gj:=gJ sz j
   rw[St.av_eq]at gj
   have F:=F2 (F9 F d3 gj k1 k2 @hJ2b m1 m2 m3) (F5 m4 qa2 qb2 qc2 qd2)
   try refine sq F ?_
   refine wk F ?_
   refine kq F (hT2) ?_
   refine lm (fun nL tL hL=>∃(i:Nat) (w:Heap),x.fe.length-i=nL∧so (H0++(J2++w)) (h.length+1) sz=hL∧tL 16=.int .i64 i∧i≤x.fe.length) ((fun(i:Nat) (w:Heap)=>(x.fe.length-i:Nat)) (0) ([])) ?_ ?_
   ·refine Wkn.refl ⟨0,[],rfl,by rw[List.append_nil],?_,by omega⟩
    all_goals first|exact zq F|rfl|omega|trivial|skip
   rintro _ s2 h' ⟨i,w,rfl,rfl,e16,hi⟩ K2 hK2
   simp only[am,ao,Nat.reduceEqDiff, ↓reduceIte]at e16
   have F:=F2 F e16
   by_cases c4:i<y.fe.length
   ·have d4:=decide_eq_true c4
    obtain⟨b,hb,hbm⟩:=ak (show i<x.fe.length by omega)
    obtain⟨a,ha,a1,a2,a3,a4⟩:=hfe i b hb
    have mb:(x.fe.map Fe.av)[i]? =some b.av:=by rw[List.getElem?_map,hb];rfl
    have ma:(y.fe.map Fe.av)[i]? =some a.av:=by rw[List.getElem?_map,ha];rfl
    obtain⟨b1,b2,b3,b4⟩:=b
    obtain⟨c1,c2,c3,c4'⟩:=a
    simp only[]at a1 a2 a3 a4
    subst a1;subst a2;subst a3
    rw[Fe.av_eq]at ma mb
    simp only[]at ma mb
    by_cases cc:c1=id
    ·have qc:(c1==id)=true:=by simp[cc]
     have F:=F8 F @la d4 ma mb ha hb qc
     try refine sq F ?_
     refine wk F ?_
     refine hK2 _ _ _ (Wkn.refl ⟨i+1,w++[.row 69 4 0 [.agg [.int .i64 c1,.int .i64 c2,.str c3,.str b4]]],rfl,rfl,?_,by omega⟩) (by omega)
     all_goals first|exact zq F|rfl|omega|trivial|skip
    ·have qc:(c1==id)=false:=by simp[cc]
     have a4:=a4 cc
     subst a4
     have F:=F8 F @la d4 ma mb ha hb qc
     try refine sq F ?_
     refine wk F ?_
     refine hK2 _ _ _ (Wkn.refl ⟨i+1,w++[.row 69 4 0 [.agg [.int .i64 c1,.int .i64 c2,.str c3,.str c4']]],rfl,rfl,?_,by omega⟩) (by omega)
     all_goals first|exact zq F|rfl|omega|trivial|skip
   ·have d4:=decide_eq_false c4
    have F:=F2 F d4
    try refine sq F ?_
    refine wk F ?_
    refine ee hQ F ?_
    exact dm (hn0 _) (hpre _) (by omega) ⟨rfl,rfl⟩
end Go.Av
