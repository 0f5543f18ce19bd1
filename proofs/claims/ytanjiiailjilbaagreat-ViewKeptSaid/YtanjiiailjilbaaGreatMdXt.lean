/- A view that is kept, event by event, is one that is made anew: for all two lists of events and every item the call returns true, and its arguments read as before. -/
import Derived.Test.YtanjiiailjilbaaGreatMdNn
import Derived.Test.YtanjiiailjilbaaGreatMdQc
set_option linter.unusedSimpArgs false
set_option linter.unusedVariables false
set_option linter.unusedSectionVars false
set_option linter.unnecessarySimpa false
set_option maxRecDepth 100000
set_option maxHeartbeats 4000000
namespace Go.Av
open Go Go.Proofs Go.RowKit
attribute [local irreducible] WP WPl WPix Sat
section
variable {s:PS} {e:Ev}
end
variable (G:Nat→Option (List AVal))
end Go.Av
namespace Go.Av
open Go Go.Proofs Go.RowKit
attribute [local irreducible] WP WPl WPix Sat
def IsL(H:Heap)(n0 e n:Nat)(rows:List AVal)(v:AVal):Prop:=
 (rows=[]∧v=.ez)∨∃p w,v=.hs p w 0 rows.length true∧getRow H p w=some (e,n,rows)∧n0≤p
section
variable {H H':Heap} {n0 e n:Nat} {rows:List AVal} {v:AVal}
theorem IsL.ez(H:Heap)(n0 e n:Nat):IsL H n0 e n [] .ez:=.inl ⟨rfl,rfl⟩
theorem IsL.cel(h:IsL H n0 e n rows v):v.cells=[v]:=by
 rcases h with⟨_,rfl⟩| ⟨p,w,rfl,_⟩<;>rfl
theorem IsL.lie(h:IsL H n0 e n rows v):v.lies=true:=by
 rcases h with⟨_,rfl⟩| ⟨p,w,rfl,_⟩<;>rfl
theorem IsL.elems(h:IsL H n0 e n rows v):elemsOf H n v=some rows:=by
 rcases h with⟨rfl,rfl⟩| ⟨p,w,rfl,h1,_⟩
 ·rfl
 ·exact fE h1 rfl
theorem IsL.keep(h:IsL H n0 e n rows v)(hk:∀p w,n0≤p→∀x,getRow H p w=some x→getRow H' p w=some x):IsL H' n0 e n rows v:=by
 rcases h with h| ⟨p,w,h1,h2,h3⟩
 ·exact .inl h
 ·exact .inr ⟨p,w,h1,hk p w h3 _ h2,h3⟩
theorem IsL.old(h:IsL H n0 e n rows v)(hf:FrN H.length H H'):IsL H' n0 e n rows v:=h.keep fun p w hp x hx=>by
 have:=cj hx
 unfold getRow at hx ⊢
 rw[hf p this];exact hx
theorem FrN.row{p w:Nat}(h:FrN n0 H H')(hp:p<n0):getRow H' p w=getRow H p w:=by unfold getRow;rw[h p hp]
end
section
variable {C:Ctx}
theorem pF{T T' e n by' n0:Nat}{v y:AVal}{rows ys:List AVal}{h:Heap}{k:AVal→Heap→Prop}(hL:IsL h n0 e n rows v)(hn0:n0≤h.length)(hT:T'=T∨strT C.P T'=true)(he:elmT C.P T=some e)(hn:szOf C.P e=some n)(hb:byT C.P e=some by')
  (hz:(zroT C.P e).map (fun z=>z.cells.length)=some n)(h0:0<n)(hy:elemsOf h n y=some ys)(hr:rows.length+ys.length≤maxLen∧(rows.length+ys.length)*by'≤140737488355328)
  (hk:∀v' h',IsL h' n0 e n (rows++ys) v'→FrN n0 h h'→h.length≤h'.length→k v' h'):appK C T T' v y h k:=by
 rcases hL with⟨rfl,rfl⟩| ⟨p,w,rfl,h1,h2⟩
 ·simp only[List.length_nil,Nat.zero_add]at hr
  refine dD hT he hn hb hz h0 hy hr (fun e0=>?_) (fun e0=>?_)
  ·subst e0;exact hk _ _ (.ez ..) (FrN.refl _ _) (Nat.le_refl _)
  ·refine hk _ _ (.inr ⟨h.length,0,rfl,by rw[ay _ rfl];rfl,hn0⟩) (FrN.app _ hn0 (FrN.refl _ _)) (by simp)
 ·refine aZ hT he hn hb hz h0 hy h1 rfl hr ?_
  have hl:=cj h1
  have:=hk (.hs p (w+1) 0 (rows.length+ys.length) true) (h.set p (.row e n (w+1) (rows++ys))) (.inr ⟨p,w+1,by rw[List.length_append],by rw[gy _ _ _ _ _ hl,if_pos rfl],h2⟩) (FrN.set _ h2 (FrN.refl _ _)) (by simp)
  exact this
theorem aL{T e n by' n0:Nat}{v y:AVal}{rows ys:List AVal}{h:Heap}{k:AVal→Heap→Prop}(hL:IsL h n0 e n rows v)(hn0:n0≤h.length)
  (hk:∀v' h',IsL h' n0 e n (rows++ys) v'→FrN n0 h h'→h.length≤h'.length→k v' h')(he:elmT C.P T=some e:=by simp only[go_sem];try rfl)(hn:szOf C.P e=some n:=by simp only[go_sem];try rfl)(hb:byT C.P e=some by':=by simp only[go_sem];try rfl)
  (hz:(zroT C.P e).map (fun z=>z.cells.length)=some n:=by simp only[go_sem];try rfl)(h0:0<n:=by omega)(hy:elemsOf h n y=some ys:=by simp only[elemsOf, ↓reduceIte];rfl)(hr:rows.length+ys.length≤maxLen∧(rows.length+ys.length)*by'≤140737488355328:=by refine⟨?_,?_⟩<;>simp[maxLen]<;>omega):appK C T T v y h k:=
 pF hL hn0 (.inl rfl) he hn hb hz h0 hy hr hk
end
end Go.Av
namespace Go.Av
open Go Go.Proofs Go.RowKit
attribute [local irreducible] WP WPl WPix Sat
variable (G:Nat→Option (List AVal))
end Go.Av
namespace Go.Av
open Go Go.Proofs Go.RowKit
attribute [local irreducible] WP WPl WPix Sat
variable (G:Nat→Option (List AVal))
end Go.Av
namespace Go.Av
open Go Go.Proofs Go.RowKit
theorem pG{l:List Int}(h:l.Nodup):(sortI l).Pairwise (· < ·):=by
 have h1:(sortI l).Pairwise fun a b=>decide (a≤b)=true:=List.pairwise_mergeSort (fun a b c h1 h2=>by simp at *;omega) (fun a b=>by simp;omega) l
 have h2:(sortI l).Nodup:=kQ h
 refine List.Pairwise.imp₂ (R:=fun a b=>decide (a≤b)=true) (S:=fun a b=>a≠b) (fun a b hab hne=>?_) h1 h2
 simp at hab;omega
section
variable {α:Type} {z:α} {key:α→Int} {l:ML Int α} {c:Nat}
theorem pH(w:WFM l c)(hid:∀k a,lkM l k=some a→key a=k):((valsM z l).map key).Pairwise (· < ·):=by
 rw[pD w key hid];exact pG w.keys
end
end Go.Av
namespace Go.Av
open Go Go.Proofs Go.RowKit
def VK(l:List Ky)(s:PS):Prop:=Sk l∧∀k,k∈l↔∃id t,lkM s.it id=some t∧k=t.ky
theorem VK.uniq{l L:List Ky}{s:PS}(h:VK l s)(k:VK L s):l=L:=h.1.uniq k.1 fun x=>by rw[h.2,k.2]
theorem gP{s:PS}(h:s.Inv):(s.tell.it.map (·.id)).Nodup:=
 (pH (z:=It.z) h.w3 fun k a hk=>(h.i3 k a hk).1).imp fun hab e=>by omega
theorem VK.new{s:PS}(h:s.Inv):VK (srtK (s.tell.it.map It.ky)) s:=by
 have hd:((s.tell.it.map It.ky).map (·.i)).Nodup:=by
  rw[List.map_map];exact gP h
 refine⟨jz hd,fun k=>?_⟩
 rw[oV hd,List.mem_map]
 constructor
 ·rintro⟨t,ht,rfl⟩
  obtain⟨id,hid⟩:=jS (z:=It.z) ht
  exact⟨id,t,hid,rfl⟩
 ·rintro⟨id,t,ht,rfl⟩
  exact⟨t,pC (z:=It.z) ht,rfl⟩
theorem VK.len{l:List Ky}{s:PS}(h:s.Inv)(k:VK l s):l.length≤1024:=by
 rw[k.uniq (VK.new h)]
 have e:(srtK (s.tell.it.map It.ky)).length=s.tell.it.length:=by unfold srtK;rw[eM];simp
 rw[e]
 have:=fW (z:=It.z) s.it
 have:=h.l3
 show(valsM It.z s.it).length≤1024
 omega
theorem VK.same{l:List Ky}{s s':PS}(k:VK l s)(h:∀id,(lkM s'.it id).map It.ky=(lkM s.it id).map It.ky):VK l s':=by
 refine⟨k.1,fun x=>?_⟩
 rw[k.2]
 have e:∀{a b:PS},(∀id,(lkM a.it id).map It.ky=(lkM b.it id).map It.ky)→(∃id t,lkM a.it id=some t∧x=t.ky)→∃id t,lkM b.it id=some t∧x=t.ky:=by
  rintro a b hab ⟨id,t,ht,rfl⟩
  have:=hab id
  rw[ht]at this
  obtain⟨t',ht',he⟩:=Option.map_eq_some_iff.1 this.symm
  exact⟨id,t',ht',he.symm⟩
 exact⟨e fun id=>(h id).symm,e h⟩
theorem VK.up{l:List Ky}{s s':PS}(k:VK l s){id:Int}{c:Nat}{t:It}(h:s'.it=upM s.it c id t)(hs:(lkM s.it id).isSome=true)(ht:t.ky=((lkM s.it id).getD It.z).ky):VK l s':=by
 refine k.same fun x=>?_
 rw[h,bG]
 split
 ·rename_i e
  subst e
  obtain⟨a,ha⟩:=Option.isSome_iff_exists.1 hs
  rw[ha]at ht ⊢
  simpa using ht
 ·rfl
theorem VK.step{l:List Ky}{s:PS}(h:s.Inv)(k:VK l s)(e:Ev)(hok:s.ok L0 e=true):
  VK (VStepF l e ((lkM (s.aft e).it e.a).getD It.z) (lkM (s.aft e).it e.a).isSome) (s.aft e):=by
 have hit:=rV s e
 have hf:=hok
 unfold PS.ok PS.fits at hf
 rw[Bool.and_eq_true]at hf
 have hf:=hf.2
 unfold VStepF
 by_cases k7:e.kind=7
 ·rw[if_pos k7]
  rw[if_neg (by omega),if_pos k7]at hit
  rw[if_neg (by omega),if_neg (by omega),if_neg (by omega),if_neg (by omega),if_neg (by omega),if_pos k7]at hf
  simp only[Bool.and_eq_true,Bool.not_eq_true']at hf
  have hn:=io hf.1.1.1
  have hl:lkM (s.aft e).it e.a=some ⟨e.a,e.b,e.n,e.s,e.t,e.u,false,false,[]⟩:=by rw[hit,bG,if_pos rfl]
  rw[hl]
  simp only[Option.getD_some,Option.isSome_some,if_true]
  refine⟨jx k.1 fun x hx=>?_,fun x=>?_⟩
  ·obtain⟨id,t,ht,rfl⟩:=(k.2 x).1 hx
   have h1:=(h.i3 id t ht).1
   show t.id≠e.a
   rw[h1]
   intro e2
   rw[e2,hn]at ht;cases ht
  ·rw[fM,k.2,hit]
   constructor
   ·rintro(rfl| ⟨id,t,ht,rfl⟩)
    ·exact⟨e.a,_,by rw[bG,if_pos rfl],rfl⟩
    ·refine⟨id,t,?_,rfl⟩
     rw[bG,if_neg (fun e2=>by rw[e2,hn]at ht;cases ht)];exact ht
   ·rintro⟨id,t,ht,rfl⟩
    rcases b8 ht with⟨rfl,rfl⟩| ⟨_,ht⟩
    ·exact .inl rfl
    ·exact .inr ⟨id,t,ht,rfl⟩
 rw[if_neg k7]
 by_cases k4:e.kind=4
 ·rw[if_pos k4]
  rw[if_pos k4]at hit
  rw[if_neg (by omega),if_neg (by omega),if_neg (by omega),if_pos (.inl k4)]at hf
  obtain⟨f,hfe⟩:=Option.isSome_iff_exists.1 hf
  have hid:((lkM s.fe e.a).getD Fe.z).id=e.a:=by rw[hfe];exact(h.i2 _ _ hfe).1
  rw[hid]at hit
  refine⟨k.1.fil _,fun x=>?_⟩
  rw[List.mem_filter,k.2,hit]
  unfold itF
  constructor
  ·rintro⟨⟨id,t,ht,rfl⟩,hx⟩
   refine⟨id,t,?_,rfl⟩
   rw[iQ h.w3.keys (fun t=> !decide (t.feed=e.a)),ht]
   exact Option.filter_some.trans (by rw[if_pos];exact hx)
  ·rintro⟨id,t,ht,rfl⟩
   rw[iQ h.w3.keys (fun t=> !decide (t.feed=e.a))]at ht
   obtain⟨h1,h2⟩:=Option.filter_eq_some_iff.1 ht
   exact⟨⟨id,t,h1,rfl⟩,h2⟩
 rw[if_neg k4]
 rw[if_neg k4,if_neg k7]at hit
 by_cases k8:e.kind=8
 ·rw[if_pos k8]at hit
  rw[if_neg (by omega),if_neg (by omega),if_neg (by omega),if_neg (by omega),if_neg (by omega),if_neg (by omega),if_pos (.inl k8)]at hf
  exact k.up hit hf rfl
 rw[if_neg k8]at hit
 by_cases k9:e.kind=9
 ·rw[if_pos k9]at hit
  rw[if_neg (by omega),if_neg (by omega),if_neg (by omega),if_neg (by omega),if_neg (by omega),if_neg (by omega),if_pos (.inr k9)]at hf
  exact k.up hit hf rfl
 rw[if_neg k9]at hit
 by_cases k10:e.kind=10
 ·rw[if_pos k10]at hit
  rw[if_neg (by omega),if_neg (by omega),if_neg (by omega),if_neg (by omega),if_neg (by omega),if_neg (by omega),if_neg (by omega),if_pos k10,Bool.and_eq_true]at hf
  exact k.up hit hf.1 rfl
 rw[if_neg k10]at hit
 exact k.same fun id=>by rw[hit]
end Go.Av
namespace Go.Av
open Go Go.Proofs Go.RowKit
attribute [local irreducible] WP WPl WPix Sat
def ptI(l:List It)(t:It):List It:=l.take (pst (l.map It.ky) t.ky)++t::l.drop (pst (l.map It.ky) t.ky)
theorem o3(l:List It)(t:It):(ptI l t).map It.ky=insK (l.map It.ky) t.ky:=by
 unfold ptI insK;simp[List.map_take,List.map_drop]
theorem pI(l:List It)(acc:List It):(l.foldl ptI acc).map It.ky=(l.map It.ky).foldl insK (acc.map It.ky):=by
 induction l generalizing acc with
 |nil=>rfl
 |cons x l ih=>rw[List.foldl_cons,ih,o3];rfl
theorem fg(l:List It)(t:It):(ptI l t).length=l.length+1:=by
 have:=congrArg List.length (o3 l t)
 rw[fO]at this;simpa using this
theorem qC{l:List It}{t x:It}(h:x∈ptI l t):x=t∨x∈l:=by
 unfold ptI at h
 rw[List.mem_append,List.mem_cons]at h
 rcases h with h|h|h
 ·exact .inr (List.mem_of_mem_take h)
 ·exact .inl h
 ·exact .inr (List.mem_of_mem_drop h)
theorem o4{l acc:List It}{x:It}(h:x∈l.foldl ptI acc):x∈acc∨x∈l:=by
 induction l generalizing acc with
 |nil=>exact .inl h
 |cons y l ih=>
  rcases ih h with h|h
  ·rcases qC h with rfl|h
   ·exact .inr (by simp)
   ·exact .inl h
  ·exact .inr (by simp[h])
theorem jT{l:List Ky}{k:Ky}:∀{a:Nat},a≤l.length→(∀b∈l.take a,ahd b k=true)→(∀b,l[a]? =some b→ahd b k=false)→pos27 l k=a:=by
 induction l with
 |nil=>intro a ha _ _;simp at ha;subst ha;rfl
 |cons x l ih=>
  intro a ha h1 h2
  cases a with
  |zero=>unfold pos27;rw[h2 x rfl];rfl
  |succ a=>
   unfold pos27
   rw[h1 x (by simp),ih (by simpa using ha) (fun b hb=>h1 b (by simp[hb])) (fun b hb=>h2 b (by simpa using hb))];rfl
variable (G:Nat→Option (List AVal))
theorem mQ(a b:It)(h:Heap):Sat (CT G) 74 [a.av,b.av] h (fun r h'=>r=.bool (ahd a.ky b.ky)∧h'=h):=by
 have e:ahd a.ky b.ky=(decide (b.date<a.date)||(decide (a.date=b.date)&&decide (a.id<b.id))):=rfl
 rw[e]
 by_cases c1:b.date<a.date
 ·have d1:decide (a.date>b.date)=true:=by simp;omega
  have F:=d1
  refine sb [.tmp 4] (fn:=Tryz.f74) Tryz.func74 ?_
  intro Q hQ
  refine wk F ?_
  refine ee hQ F ?_
  exact Fin.plain (.bool _) ⟨rfl,rfl⟩
 ·have d1:decide (a.date>b.date)=false:=by simp;omega
  by_cases c2:a.date=b.date
  ·have d2:(a.date==b.date)=true:=by simp[c2]
   have F:=F2 d1 d2
   refine sb [.tmp 4] (fn:=Tryz.f74) Tryz.func74 ?_
   intro Q hQ
   refine wk F ?_
   refine ee hQ F ?_
   exact Fin.plain (.bool _) ⟨by simp[c2],rfl⟩
  ·have d2:(a.date==b.date)=false:=by simp[c2]
   have F:=F2 d1 d2
   refine sb [.tmp 4] (fn:=Tryz.f74) Tryz.func74 ?_
   intro Q hQ
   refine wk F ?_
   refine ee hQ F ?_
   exact Fin.plain (.bool _) ⟨by simp[c2],rfl⟩
theorem mR(l:List It)(hd:(l.map (·.id)).Nodup)(hl:l.length≤100000)(h:Heap):Sat (CT G) 62 [.sl 9 (l.map It.av)] h (fun r h'=>r=.sl 1 (((srtK (l.map It.ky)).map (·.i)).map iA)∧h'=h):=by
 have hel:(l.map It.av).length=l.length:=List.length_map ..
 have F:=hel
 refine sb [.tmp 2] (fn:=Tryz.f62) Tryz.func62 ?_
 intro Q hQ
 refine wk F ?_
 refine lm (fun nL tL hL=>∃(i p v:Nat) (hh:Heap) (acc:List It),l.length-i=nL∧hh=hL∧tL 3=.hs p v 0 acc.length true∧tL 4=.int .i64 i∧i≤l.length∧acc=(l.take i).foldl ptI []∧acc.length=i∧getRow hh p v=some (82,9,acc.map It.av)∧(FrN h.length h hh∧h.length≤p)) ((fun(i p v:Nat) (hh:Heap) (acc:List It)=>(l.length-i:Nat)) (0) (h.length) (0) (h++[.row 82 9 0 []]) ([])) ?_ ?_
 ·refine⟨_,_,Weak.virt 3 82 9 (by simp) (by omega) (by exact zq F),⟨0,h.length,0,h++[.row 82 9 0 []],[],rfl,aK,?_,?_,by omega,by simp,by simp,by rw[ay _ rfl];rfl,⟨FrN.app _ (by omega) (FrN.refl _ _),by omega⟩⟩⟩
  all_goals first|exact zq F|rfl|omega|trivial|skip
 rintro _ s2 h' ⟨i,p,v,hh,acc,rfl,rfl,e3,e4,hi,hac,hal,hg,hfr⟩ K2 hK2
 simp only[aj,ak,Nat.reduceEqDiff, ↓reduceIte]at e3 e4
 have F:=F3 F e3 e4
 have hgl:=cj hg
 have hacl:(acc.map It.av).length=acc.length:=List.length_map ..
 have F:=F3 F hg @hacl
 try refine sq F ?_
 refine wk F ?_
 refine cq F (fun c1=>?_) (fun c1=>?_)<;>(try exact c1.elim)<;>(refine wk F ?_)
 ·have c2:i<l.length:=by omega
  obtain⟨y,hy,hym⟩:=ah c2
  have F:=F3 F c2 hy
  try refine sq F ?_
  refine wk F ?_
  refine lm (fun nL tL hL=>∃(a:Nat),acc.length-a=nL∧[]++hh=hL∧tL 5=.int .i64 a∧a≤acc.length∧(∀b∈acc.take a,ahd b.ky y.ky=true)) ((fun(a:Nat)=>(acc.length-a:Nat)) (0)) ?_ ?_
  ·refine Wkn.refl ⟨0,rfl,rfl,?_,by omega,by simp⟩
   all_goals first|exact zq F|rfl|omega|trivial|skip
  rintro _ s4 h' ⟨a,rfl,rfl,e5,ha,hlt⟩ K4 hK4
  simp only[aj,ak,Nat.reduceEqDiff, ↓reduceIte]at e5
  have F:=F2 F e5
  rw[List.nil_append]
  have hdis:∀t∈acc,t.ky.i≠y.ky.i:=fun t ht=>by
   rw[hac]at ht
   rcases o4 ht with ht|ht
   ·simp at ht
   ·obtain⟨q,hq⟩:=List.getElem?_of_mem ht
    have hql:=(List.getElem?_eq_some_iff.1 hq).1
    rw[List.length_take]at hql
    rw[List.getElem?_take_of_lt (by omega)]at hq
    intro e
    have:=(List.getElem?_inj (i:=q) (j:=i) (l:=l.map (·.id)) (by rw[List.length_map];omega) hd).1 (by rw[List.getElem?_map,List.getElem?_map,hq,hy];exact congrArg some e)
    omega
  by_cases c5:a<acc.length
  ·obtain⟨b,hb,_⟩:=ah c5
   have dt:∀i:Decidable True, @decide True i=true:=fun i=>decide_eq_true trivial
   have F:=F4 F hb c5 dt
   try refine sq F ?_
   refine wk F ?_
   refine au (mQ G b y _) ?_
   try refine sq F ?_
   refine wk F ?_
   cases hbl:ahd b.ky y.ky with
   |true=>
    have hlt1:∀b∈acc.take (a+1),ahd b.ky y.ky=true:=by
     rw[List.take_add_one,hb]
     intro z hz
     simp at hz
     rcases hz with hz|rfl
     ·exact hlt z hz
     ·exact hbl
    have F:=F2 F hbl
    try refine sq F ?_
    refine wk F ?_
    refine hK4 _ _ _ (Wkn.refl ⟨a+1,rfl,rfl,?_,by omega,hlt1⟩) (by omega)
    all_goals first|exact zq F|rfl|omega|trivial|skip
   |false=>
    have hat:∀b,acc[a]? =some b→ahd b.ky y.ky=false:=fun b' hb'=>by rw[hb]at hb';cases hb';exact hbl
    have hsl:∃z,aslice Tryz.prog hh 31 (.hs p v 0 acc.length true) (some (.int .i64 (a:Int))) none none=some z∧elemsOf hh 9 z=some ((acc.map It.av).drop a):=
     ⟨_,lV (P:=Tryz.prog) (T:=31) (k:=.i64) (len:=acc.length) (i:=a) (by simp only[go_sem];try rfl) hg (by simp only[go_sem];try rfl) c5,kR (b:=true) (i:=a) hg hacl (by omega)⟩
    have F:=F2 F hbl
    try refine sq F ?_
    refine wk F ?_
    have hpp:pst (acc.map It.ky) y.ky=a:=(jy fun x hx=>by obtain⟨t,ht,rfl⟩:=List.mem_map.1 hx;exact hdis t ht).symm.trans (jT (by rw[List.length_map];omega) (fun b hb=>by rw[← List.map_take]at hb;obtain⟨t,ht,rfl⟩:=List.mem_map.1 hb;exact hlt t ht)
     (fun b hb=>by rw[List.getElem?_map]at hb;obtain⟨t,ht,rfl⟩:=Option.map_eq_some_iff.1 hb;exact hat t ht))
    have hpt:ptI acc y=acc.take a++y::acc.drop a:=by unfold ptI;rw[hpp]
    have hac2:ptI acc y=(l.take (i+1)).foldl ptI []:=by rw[List.take_add_one,hy,List.foldl_append, ← hac];rfl
    obtain⟨z,hz1,hz2⟩:=hsl
    have F:=F2 (F9 hel e3 e4 hg @hacl c2 hy e5 hb) (F4 c5 dt hbl hz1)
    try refine sq F ?_
    refine wk F ?_
    refine aL (n0:=hh.length) (.ez _ _ _ _) (Nat.le_refl _) ?_ (hy:=hz2)
    intro v1 h1 L1 f1 g1
    have hg3:getRow h1 p v=some (82,9,acc.map It.av):=(f1.row hgl).trans hg
    have hgl1:=cj hg3
    have lc:=L1.cel
    have ll:=L1.lie
    have hsl2:=gz (P:=Tryz.prog) (T:=31) (off:=0) (len:=acc.length) (room:=true) (k:=.i64) (k':=.i64) (r:=a) (by simp only[go_sem];try rfl) hg3 (by simp only[go_sem];try rfl) (by omega)
    have F:=F5 F hg3 hsl2 lc ll
    skip
    try refine sq F ?_
    refine wn F ?_
    refine aB 11 [9] [true,true,true,true,true,true,true,true,true,false,true] (.one 9 [] .fin) (by decide+kernel) (by kernel_rfl) (by decide+kernel) ?_
    simp only[aM,aN,aA]
    try refine sq F ?_
    repeat' (first| (refine am ?_;try refine sq F ?_)| (refine ao ?_;try refine sq F ?_)| (refine ap ?_ ?_<;>try refine sq F ?_))
    all_goals try refine wn F ?_
    refine js (.inl rfl) (by simp(disch:=first|omega| (simp only[go_sem, ↓reduceIte,seval];first|done|omega)|fail) only[go_sem, ↓reduceIte,seval,F];try rfl) (by simp(disch:=first|omega| (simp only[go_sem, ↓reduceIte,seval];first|done|omega)|fail) only[go_sem, ↓reduceIte,seval,F];try rfl) (by simp(disch:=first|omega| (simp only[go_sem, ↓reduceIte,seval];first|done|omega)|fail) only[go_sem, ↓reduceIte,seval,F];try rfl) (by simp(disch:=first|omega| (simp only[go_sem, ↓reduceIte,seval];first|done|omega)|fail) only[go_sem, ↓reduceIte,seval,F];try rfl) (by omega) (by simp only[elemsOf, ↓reduceIte];rfl) hg3 (by simp;try omega) (by simp) ⟨by simp[maxLen];try omega,by simp;try omega⟩ ?_
    try refine sq F ?_
    repeat' (first| (refine am ?_;try refine sq F ?_)| (refine ao ?_;try refine sq F ?_)| (refine ap ?_ ?_<;>try refine sq F ?_))
    all_goals try refine wn F ?_
    have hg5:getRow (h1++[.row 82 9 0 ((acc.map It.av).take a++[y.av])]) h1.length 0=some (82,9,(acc.map It.av).take a++[y.av]):=by rw[ay _ rfl];rfl
    have hyE:=(L1.old (H':=h1++[Blk.row 82 9 0 ((acc.map It.av).take a++[y.av])]) (FrN.app _ (Nat.le_refl _) (FrN.refl _ _))).elems
    refine aZ (.inl rfl) (by simp(disch:=first|omega| (simp only[go_sem, ↓reduceIte,seval];first|done|omega)|fail) only[go_sem, ↓reduceIte,seval,F];try rfl) (by simp(disch:=first|omega| (simp only[go_sem, ↓reduceIte,seval];first|done|omega)|fail) only[go_sem, ↓reduceIte,seval,F];try rfl) (by simp(disch:=first|omega| (simp only[go_sem, ↓reduceIte,seval];first|done|omega)|fail) only[go_sem, ↓reduceIte,seval,F];try rfl) (by simp(disch:=first|omega| (simp only[go_sem, ↓reduceIte,seval];first|done|omega)|fail) only[go_sem, ↓reduceIte,seval,F];try rfl) (by omega) hyE hg5 (by simp;try omega) ⟨by simp[maxLen];try omega,by simp;try omega⟩ ?_
    have hrw:(acc.map It.av).take a++[y.av]++(acc.map It.av).drop a=(ptI acc y).map It.av:=by rw[hpt];simp
    have hL:(ptI acc y).length=a+1+(acc.length-a):=by rw[fg];omega
    have hdl:((acc.map It.av).drop a).length=acc.length-a:=by simp
    have hg6:getRow (h1++[.row 82 9 1 ((ptI acc y).map It.av)]) h1.length 1=some (82,9,(ptI acc y).map It.av):=by rw[ay _ rfl];rfl
    have F:=F3 F hL hdl
    try refine sq F ?_
    refine wn F ?_
    refine hK2 _ _ _ (Wkn.refl ⟨i+1,h1.length,1,h1++[Blk.row 82 9 1 ((ptI acc y).map It.av)],ptI acc y,rfl,by rw[← hrw];simp[It.av],?_,?_,by omega,hac2,by rw[fg];omega,hg6,⟨FrN.app _ (by omega) (FrN.trans hfr.1 (f1.less (by omega))),by omega⟩⟩) (by omega)
    all_goals first|exact zq F|rfl|omega|trivial|skip
  ·have d5:decide (a<acc.length)=false:=by simp;omega
   have hae:a=acc.length:=by omega
   have hat:∀b,acc[a]? =some b→ahd b.ky y.ky=false:=fun b' hb'=>by rw[List.getElem?_eq_none (by omega)]at hb';cases hb'
   have hsl:∃z,aslice Tryz.prog hh 31 (.hs p v 0 acc.length true) (some (.int .i64 (a:Int))) none none=some z∧elemsOf hh 9 z=some ((acc.map It.av).drop a):=by
    rw[List.drop_of_length_le (by omega)]
    by_cases ha0:a=0
    ·have hl0:acc.length=0:=by omega
     subst ha0
     rw[hl0]
     exact⟨_,mP (by simp only[go_sem];try rfl) hg (by simp only[go_sem];try rfl),by rw[fE hg (by rw[hacl,hl0])];rw[List.length_eq_zero_iff.1 hl0];rfl⟩
    ·exact⟨_,dW (by simp only[go_sem];try rfl) hg (by simp only[go_sem];try rfl) hae (by omega),rfl⟩
   skip
   have F:=F2 F d5
   try refine sq F ?_
   refine wk F ?_
   have hpp:pst (acc.map It.ky) y.ky=a:=(jy fun x hx=>by obtain⟨t,ht,rfl⟩:=List.mem_map.1 hx;exact hdis t ht).symm.trans (jT (by rw[List.length_map];omega) (fun b hb=>by rw[← List.map_take]at hb;obtain⟨t,ht,rfl⟩:=List.mem_map.1 hb;exact hlt t ht)
    (fun b hb=>by rw[List.getElem?_map]at hb;obtain⟨t,ht,rfl⟩:=Option.map_eq_some_iff.1 hb;exact hat t ht))
   have hpt:ptI acc y=acc.take a++y::acc.drop a:=by unfold ptI;rw[hpp]
   have hac2:ptI acc y=(l.take (i+1)).foldl ptI []:=by rw[List.take_add_one,hy,List.foldl_append, ← hac];rfl
   obtain⟨z,hz1,hz2⟩:=hsl
   have F:=F2 F hz1
   try refine sq F ?_
   refine wk F ?_
   refine aL (n0:=hh.length) (.ez _ _ _ _) (Nat.le_refl _) ?_ (hy:=hz2)
   intro v1 h1 L1 f1 g1
   have hg3:getRow h1 p v=some (82,9,acc.map It.av):=(f1.row hgl).trans hg
   have hgl1:=cj hg3
   have lc:=L1.cel
   have ll:=L1.lie
   have hsl2:=gz (P:=Tryz.prog) (T:=31) (off:=0) (len:=acc.length) (room:=true) (k:=.i64) (k':=.i64) (r:=a) (by simp only[go_sem];try rfl) hg3 (by simp only[go_sem];try rfl) (by omega)
   have F:=F5 F hg3 hsl2 lc ll
   skip
   try refine sq F ?_
   refine wn F ?_
   refine aB 11 [9] [true,true,true,true,true,true,true,true,true,false,true] (.one 9 [] .fin) (by decide+kernel) (by kernel_rfl) (by decide+kernel) ?_
   simp only[aM,aN,aA]
   try refine sq F ?_
   repeat' (first| (refine am ?_;try refine sq F ?_)| (refine ao ?_;try refine sq F ?_)| (refine ap ?_ ?_<;>try refine sq F ?_))
   all_goals try refine wn F ?_
   refine js (.inl rfl) (by simp(disch:=first|omega| (simp only[go_sem, ↓reduceIte,seval];first|done|omega)|fail) only[go_sem, ↓reduceIte,seval,F];try rfl) (by simp(disch:=first|omega| (simp only[go_sem, ↓reduceIte,seval];first|done|omega)|fail) only[go_sem, ↓reduceIte,seval,F];try rfl) (by simp(disch:=first|omega| (simp only[go_sem, ↓reduceIte,seval];first|done|omega)|fail) only[go_sem, ↓reduceIte,seval,F];try rfl) (by simp(disch:=first|omega| (simp only[go_sem, ↓reduceIte,seval];first|done|omega)|fail) only[go_sem, ↓reduceIte,seval,F];try rfl) (by omega) (by simp only[elemsOf, ↓reduceIte];rfl) hg3 (by simp;try omega) (by simp) ⟨by simp[maxLen];try omega,by simp;try omega⟩ ?_
   try refine sq F ?_
   repeat' (first| (refine am ?_;try refine sq F ?_)| (refine ao ?_;try refine sq F ?_)| (refine ap ?_ ?_<;>try refine sq F ?_))
   all_goals try refine wn F ?_
   have hg5:getRow (h1++[.row 82 9 0 ((acc.map It.av).take a++[y.av])]) h1.length 0=some (82,9,(acc.map It.av).take a++[y.av]):=by rw[ay _ rfl];rfl
   have hyE:=(L1.old (H':=h1++[Blk.row 82 9 0 ((acc.map It.av).take a++[y.av])]) (FrN.app _ (Nat.le_refl _) (FrN.refl _ _))).elems
   refine aZ (.inl rfl) (by simp(disch:=first|omega| (simp only[go_sem, ↓reduceIte,seval];first|done|omega)|fail) only[go_sem, ↓reduceIte,seval,F];try rfl) (by simp(disch:=first|omega| (simp only[go_sem, ↓reduceIte,seval];first|done|omega)|fail) only[go_sem, ↓reduceIte,seval,F];try rfl) (by simp(disch:=first|omega| (simp only[go_sem, ↓reduceIte,seval];first|done|omega)|fail) only[go_sem, ↓reduceIte,seval,F];try rfl) (by simp(disch:=first|omega| (simp only[go_sem, ↓reduceIte,seval];first|done|omega)|fail) only[go_sem, ↓reduceIte,seval,F];try rfl) (by omega) hyE hg5 (by simp;try omega) ⟨by simp[maxLen];try omega,by simp;try omega⟩ ?_
   have hrw:(acc.map It.av).take a++[y.av]++(acc.map It.av).drop a=(ptI acc y).map It.av:=by rw[hpt];simp
   have hL:(ptI acc y).length=a+1+(acc.length-a):=by rw[fg];omega
   have hdl:((acc.map It.av).drop a).length=acc.length-a:=by simp
   have hg6:getRow (h1++[.row 82 9 1 ((ptI acc y).map It.av)]) h1.length 1=some (82,9,(ptI acc y).map It.av):=by rw[ay _ rfl];rfl
   have F:=F3 F hL hdl
   try refine sq F ?_
   refine wn F ?_
   refine hK2 _ _ _ (Wkn.refl ⟨i+1,h1.length,1,h1++[Blk.row 82 9 1 ((ptI acc y).map It.av)],ptI acc y,rfl,by rw[← hrw];simp[It.av],?_,?_,by omega,hac2,by rw[fg];omega,hg6,⟨FrN.app _ (by omega) (FrN.trans hfr.1 (f1.less (by omega))),by omega⟩⟩) (by omega)
   all_goals first|exact zq F|rfl|omega|trivial|skip
 ·rw[List.take_of_length_le (by omega)]at hac
  obtain⟨hfr,hfp⟩:=hfr
  obtain⟨j0,rfl⟩:=hfr.behind (by omega)
  have hky:acc.map It.ky=srtK (l.map It.ky):=by rw[hac,pI];rfl
  skip
  refine lm (fun nL tL hL=>∃(k w:Nat) (out:List Int),acc.length-k=nL∧(h++j0)++[.row 3 1 w (out.map iA)]=hL∧tL 7=.hs (h++j0).length w 0 out.length true∧tL 8=.int .i64 k∧k≤acc.length∧out.length=k∧out++(acc.drop k).map (·.id)=acc.map (·.id)) ((fun(k w:Nat) (out:List Int)=>(acc.length-k:Nat)) (0) (0) ([])) ?_ ?_
  ·refine⟨_,_,Weak.virt 7 3 1 (by simp) (by omega) (by exact zq F),⟨0,0,[],rfl,aK,?_,?_,by omega,rfl,by simp⟩⟩
   all_goals first|exact zq F|rfl|omega|trivial|skip
  rintro _ s5 h' ⟨k,w,out,rfl,rfl,e7,e8,hk,hol,hop⟩ K5 hK5
  simp only[aj,ak,Nat.reduceEqDiff, ↓reduceIte]at e7 e8
  have F:=F3 F e7 e8
  have hg9:getRow ((h++j0)++[Blk.row 3 1 w (out.map iA)]) p v=some (82,9,acc.map It.av):=by rw[bf _ hgl];exact hg
  rw[List.append_assoc]at hg9
  have F:=F2 F hg9
  try refine sq F ?_
  refine wk F ?_
  refine cq F (fun c7=>?_) (fun c7=>?_)<;>(try exact c7.elim)<;>(refine wk F ?_)
  ·have c8:k<acc.length:=by omega
   obtain⟨y,hy,_⟩:=ah c8
   rw[aP hy,List.map_cons]at hop
   have F:=F4 F hy c8 @ax
   try refine sq F ?_
   refine wk F ?_
   refine aq F ?_
   try refine sq F ?_
   refine wk F ?_
   refine hK5 _ _ _ (Wkn.refl ⟨k+1,w+1,out++[y.id],rfl,by simp[iA],?_,?_,by omega,by simp;omega,by rw[← hop];simp⟩) (by omega)
   all_goals first|exact zq F|rfl|omega|trivial|skip
  ·rw[bo (by omega),List.map_nil,List.append_nil]at hop
   have hres:(srtK (l.map It.ky)).map (·.i)=out:=by rw[hop, ← hky,List.map_map];rfl
   have hgo:getRow ((h++j0)++[Blk.row 3 1 w (out.map iA)]) (h++j0).length w=some (3,1,out.map iA):=by rw[ay _ rfl];simp[getRow]
   rw[List.append_assoc,List.length_append]at hgo
   refine ee hQ F ?_
   rw[hres]
   refine Fin.frz (Frz.data (by simp) hgo (by simp) (fun r hr=>?_) (fun r hr=>?_)) ⟨rfl,rfl⟩
   ·obtain⟨a,_,rfl⟩:=List.mem_map.1 hr;exact .int _ _
   ·obtain⟨a,_,rfl⟩:=List.mem_map.1 hr;intro c hc;simp[AVal.cells,iA]at hc;subst hc;rfl
end Go.Av
namespace Go.Av
open Go Go.Proofs Go.RowKit
attribute [local irreducible] WP WPl WPix Sat
def rkI(l:List Int)(id:Int):Int:=match l.findIdx? (fun x=>decide (x=id))with
 |some k=>(k:Int)+1
 |none=>0
theorem rW(l:List Ky)(id:Int):ixK (fun k=>decide (k.i=id)) l+1=rkI (l.map (·.i)) id:=by
 unfold ixK rkI
 have e:(l.map (·.i)).findIdx? (fun x=>decide (x=id))=l.findIdx? (fun k=>decide (k.i=id)):=by rw[List.findIdx?_map];rfl
 rw[e]
 cases l.findIdx? (fun k=>decide (k.i=id))<;>rfl
def St.vw(x:St):List Int:=(srtK (x.it.map It.ky)).map (·.i)
theorem St.vw_len(x:St):x.vw.length=x.it.length:=by unfold St.vw srtK;rw[List.length_map,eM];simp
theorem pJ(N:Nat)(l:List Int):Clo N (.sl 1 (l.map iA)):=Clo.sl _ _ fun x hx=>by obtain⟨y,_,rfl⟩:=List.mem_map.1 hx;exact .int _ _
variable (G:Nat→Option (List AVal))
theorem iR(x:St)(hd:(x.it.map (·.id)).Nodup)(hl:x.it.length≤100000)(h:Heap):Sat (CT G) 27 [x.av] h (fun r h'=>r=.sl 1 (x.vw.map iA)∧h'=h):=by
 refine sb [.tmp 2] (fn:=Tryz.f27) Tryz.func27 ?_
 intro Q hQ
 refine wk trivial ?_
 refine kq trivial (mR G x.it hd hl _) ?_
 refine ee hQ trivial ?_
 exact Fin.plain (pJ _ _) ⟨rfl,rfl⟩
theorem mS(x:St)(hd:(x.it.map (·.id)).Nodup)(hl:x.it.length≤100000)(id:Int)(h:Heap):Sat (CT G) 29 [x.av,.int .i64 id] h (fun r h'=>r=.int .i64 (rkI x.vw id)∧h'=h):=by
 have hA:=iR G x hd hl
 have hvl:=x.vw_len
 generalize x.vw=l at hA hvl ⊢
 have hml:(l.map iA).length=l.length:=List.length_map ..
 have F:=hml
 refine sb [.tmp 4] (fn:=Tryz.f29) Tryz.func29 ?_
 intro Q hQ
 refine wk F ?_
 refine kq F (hA _) ?_
 refine lm (fun nL tL hL=>∃(k:Nat),l.length-k=nL∧h++[.row 34 9 0 [x.av]]=hL∧tL 6=.int .i64 k∧k≤l.length∧(∀a∈l.take k,decide (a=id)=false)) ((fun(k:Nat)=>(l.length-k:Nat)) (0)) ?_ ?_
 ·refine Wkn.refl ⟨0,rfl,aK,?_,by omega,by simp⟩
  all_goals first|exact zq F|rfl|omega|trivial|skip
 rintro _ s2 h' ⟨k,rfl,rfl,e6,hk,hp⟩ K2 hK2
 simp only[aj,ak,Nat.reduceEqDiff, ↓reduceIte]at e6
 have F:=F2 F e6
 refine wk F ?_
 refine cq F (fun c1=>?_) (fun c1=>?_)<;>(try exact c1.elim)<;>(refine wk F ?_)
 ·have c2:k<l.length:=by omega
  obtain⟨y,hy,hym⟩:=ah c2
  have F:=F3 F hy c2
  try refine sq F ?_
  refine wk F ?_
  refine cq F (fun c3=>?_) (fun c3=>?_)<;>(try exact c3.elim)<;>(refine wk F ?_)
  ·have e:rkI l id=(k:Int)+1:=by
    unfold rkI
    have:l.findIdx? (fun x=>decide (x=id))=some k:=by
     rw[List.findIdx?_eq_some_iff_getElem]
     refine⟨c2,?_,?_⟩
     ·rw[List.getElem?_eq_getElem c2]at hy;cases hy;simpa using c3
     ·intro i hi
      rw[hp _ (by rw[List.mem_take_iff_getElem];exact⟨i,by omega,rfl⟩)];simp
    rw[this]
   refine ee hQ F ?_
   exact Fin.plain (.int _ _) ⟨by rw[e];simp,rfl⟩
  ·have hp1:∀a∈l.take (k+1),decide (a=id)=false:=by
    rw[List.take_add_one,hy]
    intro a ha
    simp at ha
    rcases ha with ha|rfl
    ·exact hp a ha
    ·simpa using c3
   refine hK2 _ _ _ (Wkn.refl ⟨k+1,rfl,aK,?_,by omega,hp1⟩) (by omega)
   all_goals first|exact zq F|rfl|omega|trivial|skip
 ·have e:rkI l id=0:=by
   unfold rkI
   have:l.findIdx? (fun x=>decide (x=id))=none:=by
    rw[List.findIdx?_eq_none_iff]
    intro a ha
    exact hp a (by rwa [List.take_of_length_le (by omega)])
   rw[this]
  refine ee hQ F ?_
  exact Fin.plain (.int _ _) ⟨by rw[e],rfl⟩
theorem eR(a b:List Int)(ha:a.length≤1000000)(hb:b.length≤1000000)(h:Heap):Sat (CT G) 25 [.sl 1 (a.map iA),.sl 1 (b.map iA)] h (fun r h'=>r=.bool (decide (a=b))∧h'=h):=by
 have hal:(a.map iA).length=a.length:=List.length_map ..
 have hbl:(b.map iA).length=b.length:=List.length_map ..
 by_cases hlen:a.length=b.length
 ·have hne:((a.length:Int) != (b.length:Int))=false:=by simp[hlen]
  have F:=F3 hal hbl hne
  refine sb [.tmp 4] (fn:=Tryz.f25) Tryz.func25 ?_
  intro Q hQ
  refine wk F ?_
  refine lm (fun nL tL hL=>∃(k:Nat),a.length-k=nL∧h=hL∧tL 5=.int .i64 k∧k≤a.length∧a.take k=b.take k) ((fun(k:Nat)=>(a.length-k:Nat)) (0)) ?_ ?_
  ·refine Wkn.refl ⟨0,rfl,aK,?_,by omega,rfl⟩
   all_goals first|exact zq F|rfl|omega|trivial|skip
  rintro _ s2 h' ⟨k,rfl,rfl,e5,hk,hp⟩ K2 hK2
  simp only[aj,ak,Nat.reduceEqDiff, ↓reduceIte]at e5
  have F:=F2 F e5
  refine wk F ?_
  refine cq F (fun c1=>?_) (fun c1=>?_)<;>(try exact c1.elim)<;>(refine wk F ?_)
  ·have c2:k<a.length:=by omega
   have c3:k<b.length:=by omega
   obtain⟨x,hx,_⟩:=ah c2
   obtain⟨y,hy,_⟩:=ah c3
   have F:=F5 F hx hy c2 c3
   try refine sq F ?_
   refine wk F ?_
   refine cq F (fun c4=>?_) (fun c4=>?_)<;>(try exact c4.elim)<;>(refine wk F ?_)
   ·have e:a≠b:=by rintro rfl;rw[hx]at hy;cases hy;exact c4 rfl
    refine ee hQ (F8 hal hbl hne e5 hx hy c2 c3) ?_
    exact Fin.same (.bool _) ⟨by rw[decide_eq_false e],rfl⟩
   ·have hp1:a.take (k+1)=b.take (k+1):=by rw[List.take_add_one,List.take_add_one,hx,hy,hp,c4]
    refine hK2 _ _ _ (Wkn.refl ⟨k+1,rfl,aK,?_,by omega,hp1⟩) (by omega)
    all_goals first|exact zq F|rfl|omega|trivial|skip
  ·have e:a=b:=by
    have:=hp
    rwa [List.take_of_length_le (by omega),List.take_of_length_le (by omega)]at this
   refine ee hQ F ?_
   exact Fin.same (.bool _) ⟨by rw[decide_eq_true e],rfl⟩
 ·have hne:((a.length:Int) != (b.length:Int))=true:=by simp;omega
  have e:a≠b:=by rintro rfl;exact hlen rfl
  have F:=F3 hal hbl hne
  refine sb [.tmp 4] (fn:=Tryz.f25) Tryz.func25 ?_
  intro Q hQ
  refine wk F ?_
  refine ee hQ F ?_
  exact Fin.same (.bool _) ⟨by rw[decide_eq_false e],rfl⟩
end Go.Av
namespace Go.Av
open Go Go.Proofs Go.RowKit
attribute [local irreducible] WP WPl WPix Sat
abbrev qL(op:Int):AVal:=.agg [.int .i64 op,.int .i64 0,.str [],.sl 4 []]
variable (G:Nat→Option (List AVal))
theorem mT(op:Int)(h:Heap):Sat (CT G) 158 [qL op,.int .i64 1] h (fun r h'=>r=.int .i64 1∧h'=h):=by
 have df:∀i:Decidable False, @decide False i=false:=fun i=>by simp
 have F:=df
 refine sb [.tmp 4] (fn:=Tryz.f158) Tryz.func158 ?_
 intro Q hQ
 refine wk F ?_
 refine lm (fun nL tL hL=>∃(k:Nat),0-k=nL∧h++[.row 66 4 0 [qL op]]=hL∧tL 15=.int .i64 k∧tL 5=.int .i64 1∧k≤0) ((fun(k:Nat)=>(0-k:Nat)) (0)) ?_ ?_
 ·refine Wkn.refl ⟨0,rfl,aK,?_,?_,Nat.le_refl 0⟩
  all_goals first|exact zq F|rfl|omega|trivial|skip
 rintro _ s2 h' ⟨k,rfl,rfl,e15,e5,hk⟩ K2 hK2
 simp only[aj,ak,Nat.reduceEqDiff, ↓reduceIte]at e15 e5
 have F:=F3 F e15 e5
 refine wk F ?_
 refine cq F (fun c1=>?_) (fun c1=>?_)<;>(try exact c1.elim)<;>(refine wk F ?_)
 ·exact absurd c1 (by omega)
 refine ee hQ F ?_
 exact Fin.plain (.int _ _) ⟨rfl,rfl⟩
theorem jU(op:Int)(h:Heap):Sat (CT G) 108 [qL op] h (fun r h'=>r=.int .i64 1∧h'=h):=by
 refine sb [.tmp 2] (fn:=Tryz.f108) Tryz.func108 ?_
 intro Q hQ
 refine wk trivial ?_
 refine kq trivial (mT G op _) ?_
 refine ee hQ trivial ?_
 exact Fin.plain (.int _ _) ⟨rfl,rfl⟩
theorem gQ(op:Int)(h:Heap):Sat (CT G) 109 [qL op] h (fun r h'=>r=.int .i64 1∧h'=h):=by
 refine sb [.tmp 2] (fn:=Tryz.f109) Tryz.func109 ?_
 intro Q hQ
 refine wk trivial ?_
 refine lm (fun nL tL hL=>∃(k:Nat),0-k=nL∧h++[.row 66 4 0 [qL op]]=hL∧tL 9=.int .i64 k∧tL 3=.int .i64 1∧k≤0) ((fun(k:Nat)=>(0-k:Nat)) (0)) ?_ ?_
 ·refine Wkn.refl ⟨0,rfl,aK,?_,?_,Nat.le_refl 0⟩
  all_goals first|exact zq trivial|rfl|omega|trivial|skip
 rintro _ s2 h' ⟨k,rfl,rfl,e9,e3,hk⟩ K2 hK2
 simp only[aj,ak,Nat.reduceEqDiff, ↓reduceIte]at e9 e3
 have F:=F2 e9 e3
 refine wk F ?_
 refine cq F (fun c1=>?_) (fun c1=>?_)<;>(try exact c1.elim)<;>(refine wk F ?_)
 ·exact absurd c1 (by omega)
 refine ee hQ F ?_
 exact Fin.plain (.int _ _) ⟨rfl,rfl⟩
theorem qD(f:AVal)(h:Heap):Sat (CT G) 167 [.sl 4 [],f] h (fun r h'=>r=.int .i64 (-1)∧h'=h):=by
 have df:∀i:Decidable False, @decide False i=false:=fun i=>by simp
 have F:=df
 refine sb [.tmp 4] (fn:=Tryz.f167) Tryz.func167 ?_
 intro Q hQ
 refine wk F ?_
 refine lm (fun nL tL hL=>∃(k:Nat),0-k=nL∧h=hL∧tL 8=.int .i64 k∧k≤0) ((fun(k:Nat)=>(0-k:Nat)) (0)) ?_ ?_
 ·refine Wkn.refl ⟨0,rfl,aK,?_,Nat.le_refl 0⟩
  all_goals first|exact zq F|rfl|omega|trivial|skip
 rintro _ s2 h' ⟨k,rfl,rfl,e8,hk⟩ K2 hK2
 simp only[aj,ak,Nat.reduceEqDiff, ↓reduceIte]at e8
 have F:=F2 F e8
 refine wk F ?_
 refine cq F (fun c1=>?_) (fun c1=>?_)<;>(try exact c1.elim)<;>(refine wk F ?_)
 ·exact absurd c1 (by omega)
 refine ee hQ F ?_
 exact Fin.same (.int _ _) ⟨rfl,rfl⟩
theorem pK(f:AVal)(h:Heap):Sat (CT G) 116 [.sl 4 [],f] h (fun r h'=>r=.bool false∧h'=h):=by
 have df:∀i:Decidable False, @decide False i=false:=fun i=>by simp
 have F:=df
 refine sb [.tmp 4] (fn:=Tryz.f116) Tryz.func116 ?_
 intro Q hQ
 refine wk F ?_
 refine kq F (qD G f _) ?_
 refine ee hQ F ?_
 exact Fin.same (.bool _) ⟨rfl,rfl⟩
theorem pL(h:Heap):Sat (CT G) 159 [qL 1] h (fun r h'=>r=.bool true∧h'=h):=by
 refine sb [.tmp 2] (fn:=Tryz.f159) Tryz.func159 ?_
 intro Q hQ
 refine wk trivial ?_
 refine ee hQ trivial ?_
 exact Fin.plain (.bool _) ⟨rfl,rfl⟩
theorem o5(h:Heap):Sat (CT G) 160 [qL 1] h (fun r h'=>r=.bool true∧h'=h):=by
 refine sb [.tmp 2] (fn:=Tryz.f160) Tryz.func160 ?_
 intro Q hQ
 refine wk trivial ?_
 refine ee hQ trivial ?_
 exact Fin.plain (.bool _) ⟨rfl,rfl⟩
theorem o6(h:Heap):Sat (CT G) 161 [qL 1] h (fun r h'=>r=.bool true∧h'=h):=by
 refine sb [.tmp 2] (fn:=Tryz.f161) Tryz.func161 ?_
 intro Q hQ
 refine wk trivial ?_
 refine ee hQ trivial ?_
 exact Fin.plain (.bool _) ⟨rfl,rfl⟩
theorem mU(h:Heap):Sat (CT G) 110 [qL 1] h (fun r h'=>r=.bool true∧h'=h):=by
 have df:∀i:Decidable False, @decide False i=false:=fun i=>by simp
 have F:=df
 refine sb [.tmp 2] (fn:=Tryz.f110) Tryz.func110 ?_
 intro Q hQ
 refine wk F ?_
 refine kq F (pL G _) ?_
 refine kq F (o5 G _) ?_
 refine kq F (o6 G _) ?_
 refine kq F (pK G _ _) ?_
 refine ee hQ F ?_
 exact Fin.plain (.bool _) ⟨rfl,rfl⟩
theorem kS(h:Heap):Sat (CT G) 110 [qL 0] h (fun r h'=>r=.bool false∧h'=h):=by
 have df:∀i:Decidable False, @decide False i=false:=fun i=>by simp
 have dt:∀i:Decidable True, @decide True i=true:=fun i=>by simp
 have F:=F2 df dt
 refine sb [.tmp 2] (fn:=Tryz.f110) Tryz.func110 ?_
 intro Q hQ
 refine wk F ?_
 refine ee hQ F ?_
 exact Fin.plain (.bool _) ⟨rfl,rfl⟩
theorem cM(h:Heap):Sat (CT G) 66 [qL 1] h (fun r h'=>r=.int .i64 0∧h'=h):=by
 have df:∀i:Decidable False, @decide False i=false:=fun i=>by simp
 have F:=df
 refine sb [.tmp 2] (fn:=Tryz.f66) Tryz.func66 ?_
 intro Q hQ
 refine wk F ?_
 refine kq F (jU G _ _) ?_
 refine kq F (gQ G _ _) ?_
 refine kq F (mU G _) ?_
 refine ee hQ F ?_
 exact Fin.plain (.int _ _) ⟨rfl,rfl⟩
theorem kT(h:Heap):Sat (CT G) 66 [qL 0] h (fun r h'=>r=.int .i64 250∧h'=h):=by
 have df:∀i:Decidable False, @decide False i=false:=fun i=>by simp
 have F:=df
 refine sb [.tmp 2] (fn:=Tryz.f66) Tryz.func66 ?_
 intro Q hQ
 refine wk F ?_
 refine kq F (jU G _ _) ?_
 refine kq F (gQ G _ _) ?_
 refine kq F (kS G _) ?_
 refine ee hQ F ?_
 exact Fin.plain (.int _ _) ⟨rfl,rfl⟩
end Go.Av
namespace Go.Av
open Go Go.Proofs Go.RowKit
attribute [local irreducible] WP WPl WPix Sat
variable (G:Nat→Option (List AVal))
theorem qE(p:Nat)(h:Heap)(hp:p<h.length):Sat (CT G) 76 [.hp p 0 0 0] h (fun r h'=>r=.hp (h.length+1) 0 0 0∧∃j,h'=h++j∧j.length=2):=by
 refine sb [.tmp 2] (fn:=Tryz.f76) Tryz.func76 ?_
 intro Q hQ
 refine wk trivial ?_
 refine ee hQ trivial ?_
 refine Fin.whole (by simp) (.hp _ _ _ _ (by simp)) ⟨rfl,_,rfl,rfl⟩
theorem pM(p:Nat)(t:It)(h:Heap):Sat (CT G) 77 [.hp p 0 0 0,qL 1,t.av] h (fun r h'=>r=.bool true∧h'=h):=by
 have dt:∀i:Decidable True, @decide True i=true:=fun i=>by simp
 have F:=dt
 refine sb [.tmp 6] (fn:=Tryz.f77) Tryz.func77 ?_
 intro Q hQ
 refine wk F ?_
 refine ee hQ F ?_
 exact Fin.plain (.bool _) ⟨rfl,rfl⟩
theorem lq{C:Ctx}{ops:Array Oper}{dst:Option Nat}{op:Op}{ty:TypeId}{pos:String}{aft:Array Edge}{t:Env}{h:Heap}{K:AVal→Heap→Prop}{j d:Nat}{want:Bool}(hd:(ops[j]?).bind (·.dst)=some d)(ht:t d=.bool want)
  (g:wpOperV C ops ⟨dst,op,ty,pos,aft,none⟩ t h K):wpOperV C ops ⟨dst,op,ty,pos,aft,some (j,want)⟩ t h K:=by
 have e:guardA ops t j=some (some want):=by unfold guardA;rw[hd];simp only[ht]
 unfold wpOperV
 simp only[e]
 exact⟨fun _=>g,fun h=>absurd rfl h⟩
theorem o7(p:Nat)(t:It)(b:Bool)(id:Int)(h:Heap)(hp:p<h.length)
  (hI:Sat (CT G) 38 [.hp p 0 0 0,.int .i64 id] (h++[.row 66 4 0 [qL 1]]) (fun r h'=>r=.tup [t.av,.bool b]∧h'=h++[.row 66 4 0 [qL 1]])):
  Sat (CT G) 39 [.hp p 0 0 0,qL 1,.int .i64 id] h (fun r h'=>r=.bool b∧h'=h):=by
 cases b with
 |false=>
  skip
  refine sb [.tmp 6] (fn:=Tryz.f39) Tryz.func39 ?_
  intro Q hQ
  refine wn trivial ?_
  refine kn trivial (hI) ?_
  refine fQ (by decide+kernel) (p8 G) ?_
  refine sq trivial ?_
  refine wn trivial ?_
  skip
  refine ee hQ trivial ?_
  exact Fin.plain (.bool _) ⟨rfl,rfl⟩
 |true=>
  skip
  refine sb [.tmp 6] (fn:=Tryz.f39) Tryz.func39 ?_
  intro Q hQ
  refine wn trivial ?_
  refine kn trivial (hI) ?_
  refine aB 12 [8,11] [true,true,true,true,true,true,true,true,false,true,true,false] (.one 8 [false,false,false,false,false,false,false,false,false,true,true] (.one 11 [] .fin)) (by decide+kernel) (by kernel_rfl) (by decide+kernel) ?_
  simp only[aM,aN,aA]
  try refine sq trivial ?_
  repeat' (first| (refine am ?_;try refine sq trivial ?_)| (refine ao ?_;try refine sq trivial ?_)| (refine ap ?_ ?_<;>try refine sq trivial ?_))
  all_goals try refine wn trivial ?_
  refine au (cM G _) ?_
  try refine sq trivial ?_
  refine wn trivial ?_
  repeat' (first| (refine am ?_;try refine sq trivial ?_)| (refine ao ?_;try refine sq trivial ?_)| (refine ap ?_ ?_<;>try refine sq trivial ?_))
  all_goals try refine wn trivial ?_
  refine lq rfl (by exact zq trivial) ?_
  simp(disch:=first|omega| (simp only[go_sem, ↓reduceIte,seval];first|done|omega)|fail) only[go_sem, ↓reduceIte,seval]
  refine(qE G p _ (by simp;omega)).mono ?_
  rintro r h' ⟨rfl,j,rfl,hj⟩
  have F:= @ax
  refine⟨by simp(disch:=first|omega| (simp only[go_sem, ↓reduceIte,seval];first|done|omega)|fail) only[go_sem, ↓reduceIte,seval,F],?_⟩
  repeat' (first| (refine am ?_;try refine sq F ?_)| (refine ao ?_;try refine sq F ?_)| (refine ap ?_ ?_<;>try refine sq F ?_))
  all_goals try refine wn F ?_
  refine lq rfl (by exact zq F) ?_
  simp(disch:=first|omega| (simp only[go_sem, ↓reduceIte,seval];first|done|omega)|fail) only[go_sem, ↓reduceIte,seval,F]
  refine(pM G _ t _).mono ?_
  rintro r h' ⟨rfl,rfl⟩
  repeat' (first| (refine am ?_;try refine sq F ?_)| (refine ao ?_;try refine sq F ?_)| (refine ap ?_ ?_<;>try refine sq F ?_))
  all_goals try refine wn F ?_
  refine ee hQ F ?_
  exact Fin.plain (.bool _) ⟨rfl,rfl⟩
end Go.Av
namespace Go.Av
open Go Go.Proofs Go.RowKit
attribute [local irreducible] WP WPl WPix Sat
def sv(Y:Heap)(n:Nat)(s:PS)(m v:Nat)(l:List Ky):Heap:=so (vo Y m v l) n s
section
variable {Y:Heap} {n m v:Nat} {s:PS} {l:List Ky}
theorem bU(hn:n+9≤m)(hm:m+2≤Y.length):sv Y n s m v l=vo (so Y n s) m v l:=q6 (bs:=s.bl n) (cs:=vb m v l) (by show n+9≤Y.length;omega) hm (.inl hn)
@[go_sem] theorem jV(hn:n+9≤m)(hm:m+2≤Y.length)(j:Heap):sv Y n s m v l++j=sv (Y++j) n s m v l:=by
 unfold sv;rw[aU (by rw[aC hm];omega),dJ hm]
@[go_sem] theorem o8(hn:n+9≤m)(hm:m+2≤Y.length):(sv Y n s m v l).length=Y.length:=by
 unfold sv;rw[aO (by rw[aC hm];omega),aC hm]
@[go_sem] theorem BG(hn:n+9≤m)(hm:m+2≤Y.length){p:Nat}(u:Nat)(hp:m+2≤p):getRow (sv Y n s m v l) p u=getRow Y p u:=by
 unfold sv;rw[bp (by rw[aC hm];omega) u (by omega),cO hm u hp]
@[go_sem] theorem BH(hn:n+9≤m)(hm:m+2≤Y.length){p:Nat}(b:Blk)(hp:m+2≤p):(sv Y n s m v l).set p b=sv (Y.set p b) n s m v l:=by
 unfold sv;rw[q8 (by rw[aC hm];omega) b (by omega),cP hm b hp]
@[go_sem] theorem rX(hn:n+9≤m)(hm:m+2≤Y.length):abin Tryz.prog (sv Y n s m v l) .eql 27 (.hp (n+8) 0 0 0) (.nil (.pointer none))=some (.bool false):=by
 unfold sv;exact rJ (by rw[aC hm];omega)
@[go_sem] theorem BI(hn:n+9≤m)(hm:m+2≤Y.length):abin Tryz.prog (sv Y n s m v l) .eql 56 (.hp m 0 0 0) (.nil (.pointer none))=some (.bool false):=by
 rw[bU hn hm];exact rL (by rw[aO (by omega)];exact hm)
theorem rY(hn:n+9≤m){h j:Heap}(hm:m+2≤(h++j).length)(hh:h.length≤n):∃j',sv (h++j) n s m v l=h++j':=by
 refine⟨(sv (h++j) n s m v l).drop h.length,?_⟩
 have hl:=o8 (s:=s) (v:=v) (l:=l) hn hm
 apply List.ext_getElem?
 intro p
 by_cases hp:p<h.length
 ·rw[List.getElem?_append_left hp]
  unfold sv so vo
  rw[eH (by show n+9≤_;rw[aS hm];omega) (.inl (by omega)),eH hm (.inl (by omega)),List.getElem?_append_left hp]
 ·rw[List.getElem?_append_right (by omega),List.getElem?_drop];congr 1;omega
theorem o9{h:Heap}{R:AVal→Heap→Prop}{b:Bool}(hn:n+9≤m)(hm:m+2≤Y.length)(hp:∃j,Y=h++j)(hh:h.length≤n)(hR:R (.bool b) h):Fin h (sv Y n s m v l) R (.bool b):=by
 obtain⟨j,rfl⟩:=hp
 obtain⟨j',he⟩:=rY (s:=s) (v:=v) (l:=l) hn hm hh
 rw[he]
 exact Fin.plainE (j:=j') rfl (.bool _) hR
end
variable (G:Nat→Option (List AVal))
section
variable {Y:Heap} {n m v:Nat} {s:PS} {l:List Ky}
theorem rZ(h:s.Inv)(hn:n+9≤m)(hm:m+2≤Y.length):Sat (CT G) 22 [.hp (n+8) 0 0 0] (sv Y n s m v l) (fun r h'=>r=s.tell.av∧h'=sv Y n s m v l):=
 gF G s h.toOk (by rw[aC hm];omega)
theorem lr(h:s.Inv)(e:Ev)(hn:n+9≤m)(hm:m+2≤Y.length):Sat (CT G) 21 [.hp (n+8) 0 0 0,e.av] (sv Y n s m v l) (fun r h'=>r=.bool (s.ok L0 e)∧h'=sv Y n (s.step L0 e) m v l):=
 gO G s h e (by rw[aC hm];omega)
theorem oc(h:s.Inv)(id:Int)(hn:n+9≤m)(hm:m+2≤Y.length):Sat (CT G) 38 [.hp (n+8) 0 0 0,.int .i64 id] (sv Y n s m v l) (fun r h'=>r=.tup [((lkM s.it id).getD It.z).av,.bool (lkM s.it id).isSome]∧h'=sv Y n s m v l):=
 mj G s id (by have:=(h.tags id).2;omega) (by rw[aC hm];omega)
theorem pT(h:s.Inv){H:Heap}{n:Nat}(hn:n+9≤H.length):Sat (CT G) 24 [.hp (n+8) 0 0 0] (so H n s) (fun r h'=>r=.hp H.length 0 0 0∧h'=sv (H++vb H.length 0 []) n s H.length s.tell.it.length (srtK (s.tell.it.map It.ky))):=by
 have h0:=p3 G s.tell (.hp (n+8) 0 0 0) (so H n s) (fun j=>by
  rw[aU hn];exact gF G s h.toOk (by simp;omega)) (by have:=fW (z:=It.z) s.it;have:=h.l3;show(valsM It.z s.it).length≤_;omega) (gP h)
 rw[aO hn]at h0
 refine h0.mono ?_
 rintro r h' ⟨h1,h2⟩
 refine⟨h1,?_⟩
 have e:=jD (so H n s) s.tell.it.length 0 (srtK (s.tell.it.map It.ky)) []
 rw[aO hn]at e
 rw[h2, ← e,bU hn (by simp[vb]),aU hn]
theorem od{s:PS}(hk:VK l s)(h:s.Inv)(e:Ev)(hok:s.ok L0 e=true)(hn:n+9≤m)(hm:m+2≤Y.length):Sat (CT G) 30 [.hp m 0 0 0,.hp (n+8) 0 0 0,e.av] (sv Y n (s.aft e) m v l)
  (fun r h'=>r=.tup []∧∃u L,VK L (s.aft e)∧h'=sv Y n (s.aft e) m u L):=by
 have hI:(s.aft e).Inv:=by have:=h.step (L:=L0) e;unfold PS.step at this;rw[if_pos hok]at this;exact this
 have hl:=hk.len h
 rw[bU hn hm]
 refine(nG G (H:=so Y n (s.aft e)) (v:=v) hk.1 (by omega) e (.hp (n+8) 0 0 0) ((lkM (s.aft e).it e.a).getD It.z) (lkM (s.aft e).it e.a).isSome (by rw[aO (by omega)];exact hm) (fun _ j=>?_)).mono ?_
 ·rw[aU (by omega), ← bU hn (by simp;omega)]
  exact oc G hI e.a hn (by simp;omega)
 ·rintro r h' ⟨h1,u,h2⟩
  exact⟨h1,u,_,hk.step h e hok,by rw[h2,bU hn hm]⟩
theorem og(h:s.Inv)(id:Int)(hn:n+9≤m)(hm:m+2≤Y.length):Sat (CT G) 39 [.hp (n+8) 0 0 0,qL 1,.int .i64 id] (sv Y n s m v l) (fun r h'=>r=.bool (lkM s.it id).isSome∧h'=sv Y n s m v l):=
 o7 G (n+8) _ _ id _ (by rw[o8 hn hm];omega) (by rw[jV hn hm];exact oc G h id hn (by simp;omega))
theorem pU(hl:l.length≤1048576)(hn:n+9≤m)(hm:m+2≤Y.length):Sat (CT G) 26 [.hp m 0 0 0] (sv Y n s m v l) (fun r h'=>r=.sl 1 ((l.map (·.i)).map iA)∧h'=sv Y n s m v l):=by
 rw[bU hn hm];exact oW G hl (by rw[aO (by omega)];exact hm)
theorem jW(hl:l.length≤1048576)(id:Int)(hn:n+9≤m)(hm:m+2≤Y.length):Sat (CT G) 28 [.hp m 0 0 0,.int .i64 id] (sv Y n s m v l) (fun r h'=>r=.int .i64 (rkI (l.map (·.i)) id)∧h'=sv Y n s m v l):=by
 rw[bU hn hm, ← rW];exact nD G hl id (by rw[aO (by omega)];exact hm)
end
end Go.Av
namespace Go.Av
open Go Go.Proofs Go.RowKit
attribute [local irreducible] WP WPl WPix Sat SatY
structure Cu where
 d:Int
 i:Int
 set:Bool
def Cu.av(c:Cu):AVal:=.agg [.int .i64 c.d,.int .i64 c.i,.bool c.set]
@[go_sem] theorem Cu.av_eq(c:Cu):c.av=.agg [.int .i64 c.d,.int .i64 c.i,.bool c.set]:=(rfl)
def fromK(l:List Ky)(c:Cu):Nat:=if c.set then pst l ⟨c.d,c.i,0⟩else 0
theorem jX(l:List Ky)(c:Cu):fromK l c≤l.length:=by unfold fromK;split;exact eJ l _;omega
abbrev qA(op num:Int)(s:Bs)(ks:List AVal):AVal:=.agg [.int .i64 op,.int .i64 num,.str s,.sl 4 ks]
def bhB(n:Nat)(sp qv:AVal)(c:Cu)(k:Nat):List Blk:=[.row 56 1 0 [.hp n 0 0 0],.row 27 1 0 [sp],.row 66 4 0 [qv],.row 55 3 0 [c.av],.row 3 1 0 [.int .i64 k]]
theorem gR{P:Program}{h:Heap}{T e p v len n m i:Nat}{rows:List AVal}{k:IntKind}(he:elmT P T=some e)(hg:getRow h p v=some (m,n,rows))(hn:szOf P e=some n)(hi:i<len∨i=0):
  aslice P h T (.hs p v 0 len true) (some (.int k (i:Int))) none none=some (.hs p v i (len-i) true):=by
 simp only[aslice,he,hg,hn,if_true,optInt]
 rw[if_pos ⟨by omega,by omega,by omega,by omega⟩]
 simp
variable (G:Nat→Option (List AVal))
section
variable {l:List Ky} {H:Heap} {n v:Nat}
theorem mV(hs:Sk l)(hl:l.length≤1048576)(c:Cu)(p:Nat)(hp:p<H.length)(op num:Int)(s:Bs)(ks:List AVal)(hn:n+2≤H.length):
  Sat (CT G) 67 [.hp n 0 0 0,.hp p 0 0 0,qA op num s ks,c.av] (vo H n v l)
   (fun r h'=>r=.fn (.func 111) [] [.hp H.length 0 0 0,.hp (H.length+4) 0 0 0,.hp (H.length+1) 0 0 0,.hp (H.length+2) 0 0 0]∧h'=vo (H++bhB n (.hp p 0 0 0) (qA op num s ks) c (fromK l c)) n v l):=by
 have clo:∀N,H.length+5≤N→Clo N (.fn (.func 111) [] [.hp H.length 0 0 0,.hp (H.length+4) 0 0 0,.hp (H.length+1) 0 0 0,.hp (H.length+2) 0 0 0]):=fun N hN=>.fn _ _ _ (fun x hx=>by simp at hx) fun x hx=>by
  simp only[List.mem_cons,List.not_mem_nil,or_false]at hx
  rcases hx with rfl|rfl|rfl|rfl<;>exact .hp _ _ _ _ (by omega)
 obtain⟨d,i,st⟩:=c
 cases st with
 |false=>
  have hf:fromK l ⟨d,i,false⟩=0:=rfl
  have F:= @ax
  refine sb [.tmp 8] (fn:=Tryz.f67) Tryz.func67 ?_
  intro Q hQ
  refine wk F ?_
  refine ee hQ F ?_
  exact Fin.whole (by rw[aC hn,aC (by simp;omega)];simp) (clo _ (by rw[aC (by simp;omega)];simp)) ⟨rfl,by rw[hf];rfl⟩
 |true=>
  have hf:fromK l ⟨d,i,true⟩=pst l ⟨d,i,0⟩:=rfl
  have hP:=fP G (v:=v) (n:=n) hs hl ⟨d,i,0⟩ (H:=H++[Blk.row 56 1 0 [.hp n 0 0 0],.row 27 1 0 [.hp p 0 0 0],.row 66 4 0 [qA op num s ks],.row 55 3 0 [.agg [.int .i64 d,.int .i64 i,.bool true]],.row 3 1 0 [.int .i64 0]]) (by simp;omega)
  have F:= @ax
  refine sb [.tmp 8] (fn:=Tryz.f67) Tryz.func67 ?_
  intro Q hQ
  refine wk F ?_
  refine kq F (hP) ?_
  refine ee hQ F ?_
  exact Fin.whole (by rw[aC hn,aC (by simp;omega)];simp) (clo _ (by rw[aC (by simp;omega)];simp)) ⟨rfl,by rw[hf];rfl⟩
theorem qF(hl:l.length≤1048576)(bel:Int→Bool)(N yl q b0 p:Nat)(op num:Int)(s:Bs)(ks:List AVal)(B Bs:List Ky→Heap→Heap)(fr:Nat)(hfr:fr≤l.length)
  (hB:∀pre j j',B pre j++j'=B pre (j++j'))(hBl:∀pre j,(B pre j).length=b0+j.length)(hBsl:∀pre j,(Bs pre j).length=b0+j.length)(hb0:q+5≤b0)(hq:n+2≤q)
  (hr0:∀pre j,getRow (B pre j) q 0=some (56,1,[.hp n 0 0 0]))(hr1:∀pre j,getRow (B pre j) (q+1) 0=some (27,1,[.hp p 0 0 0]))(hr2:∀pre j,getRow (B pre j) (q+2) 0=some (66,4,[qA op num s ks]))(hr4:∀pre j,getRow (B pre j) (q+4) 0=some (3,1,[.int .i64 fr]))
  (hE:∀pre j id,Sat (CT G) 39 [.hp p 0 0 0,qA op num s ks,.int .i64 id] (vo (B pre j) n v l) (fun r h'=>r=.bool (bel id)∧h'=vo (B pre j) n v l))
  (hY:∀pre j y,pre.length≤N→SatY (CT G) yl [y.av] (vo (B pre j) n v l) (fun r h'=>∃j',j.length≤j'.length∧((pre.length<N∧r=.bool true∧h'=vo (B (pre++[y]) j') n v l)∨(pre.length=N∧r=.bool false∧h'=vo (Bs pre j') n v l))))(j0:Heap):
  Sat (CT G) 111 [.fn (.yield yl) [] [],.hp q 0 0 0,.hp (q+4) 0 0 0,.hp (q+1) 0 0 0,.hp (q+2) 0 0 0] (vo (B [] j0) n v l)
   (fun _ h'=>∃j,(((l.drop fr).filter fun k=>bel k.i).length≤N∧h'=vo (B ((l.drop fr).filter fun k=>bel k.i) j) n v l)∨(N<((l.drop fr).filter fun k=>bel k.i).length∧h'=vo (Bs (((l.drop fr).filter fun k=>bel k.i).take N) j) n v l)):=by
 have ct:∀N,Clo N (.tup []):=fun N=>.tup _ (fun x hx=>by simp at hx)
 have hn:∀pre j,n+2≤(B pre j).length:=fun pre j=>by rw[hBl];omega
 have hn':∀pre j (x:Blk),n+2≤(B pre j++[x]).length:=fun pre j x=>by rw[List.length_append,hBl];omega
 have hns:∀pre j,n+2≤(Bs pre j).length:=fun pre j=>by rw[hBsl];omega
 have hnA:=hn [] j0
 have v0:=hr0 [] j0
 have v4:=hr4 [] j0
 by_cases h0:fr=l.length∧0<fr
 ·have hd:l.drop fr=[]:=by rw[h0.1,List.drop_length]
  have hsl:=dW (P:=Tryz.prog) (T:=131) (k:=.i64) (len:=l.length) (i:=fr) (by simp only[go_sem];try rfl) (bq (l:=l) (v:=v) hnA) (by simp only[go_sem];try rfl) h0.1 h0.2
  have F:=F3 v0 v4 hsl
  refine sb [] (fn:=Tryz.f111) Tryz.func111 ?_
  intro Q hQ
  refine wk F ?_
  refine lm (fun nL tL hL=>∃(k:Nat),0-k=nL∧vo (B [] j0) n v l=hL∧tL 15=.int .i64 k∧k≤0) ((fun(k:Nat)=>(0-k:Nat)) (0)) ?_ ?_
  ·refine Wkn.refl ⟨0,rfl,aK,?_,Nat.le_refl 0⟩
   all_goals first|exact zq F|rfl|omega|trivial|skip
  rintro _ s2 h' ⟨k,rfl,rfl,e15,hk⟩ K2 hK2
  simp only[aj,ak,Nat.reduceEqDiff, ↓reduceIte]at e15
  have F:=F2 F e15
  refine wk F ?_
  refine cq F (fun c1=>?_) (fun c1=>?_)<;>(try exact c1.elim)<;>(refine wk F ?_)
  ·exact absurd c1 (by omega)
  refine ee hQ F ?_
  exact Fin.whole (Nat.le_refl _) (ct _) ⟨j0,.inl (by rw[hd];exact⟨Nat.zero_le _,rfl⟩)⟩
 have hlt:fr<l.length∨fr=0:=by omega
 have hsl:=gR (P:=Tryz.prog) (T:=131) (k:=.i64) (len:=l.length) (i:=fr) (by simp only[go_sem];try rfl) (bq (l:=l) (v:=v) hnA) (by simp only[go_sem];try rfl) hlt
 have F:=F3 v0 v4 hsl
 refine sb [] (fn:=Tryz.f111) Tryz.func111 ?_
 intro Q hQ
 refine wk F ?_
 refine lm (fun nL tL hL=>∃(k:Nat) (j:Heap),l.length-fr-k=nL∧vo (B (((l.drop fr).take k).filter fun k=>bel k.i) j) n v l=hL∧tL 15=.int .i64 k∧k≤l.length-fr∧j0.length≤j.length∧(((l.drop fr).take k).filter fun k=>bel k.i).length≤N) ((fun(k:Nat) (j:Heap)=>(l.length-fr-k:Nat)) (0) (j0)) ?_ ?_
 ·refine Wkn.refl ⟨0,j0,rfl,aK,?_,by omega,by omega,by simp⟩
  all_goals first|exact zq F|rfl|omega|trivial|skip
 rintro _ s2 h' ⟨k,j,rfl,rfl,e15,hk,hj,hp⟩ K2 hK2
 simp only[aj,ak,Nat.reduceEqDiff, ↓reduceIte]at e15
 have F:=F2 F e15
 refine wk F ?_
 refine cq F (fun c1=>?_) (fun c1=>?_)<;>(try exact c1.elim)<;>(refine wk F ?_)
 ·have c2:fr+k<l.length:=by omega
  have c3:k<l.length-fr:=by omega
  obtain⟨y,hy,hym⟩:=ah c2
  have hyd:(l.drop fr)[k]? =some y:=by rw[List.getElem?_drop];exact hy
  have hfl:(((l.drop fr).take (k+1)).filter fun k=>bel k.i)=(((l.drop fr).take k).filter fun k=>bel k.i)++if bel y.i then [y]else []:=by
   rw[List.take_add_one,hyd,Option.toList_some,List.filter_append,List.filter_cons,List.filter_nil]
  have hwh:bel y.i=true→((l.drop fr).filter fun k=>bel k.i)=(((l.drop fr).take k).filter fun k=>bel k.i)++y::(((l.drop fr).drop (k+1)).filter fun k=>bel k.i):=fun hb=>by
   have e1:((l.drop fr).filter fun k=>bel k.i)=(((l.drop fr).take (k+1)++(l.drop fr).drop (k+1)).filter fun k=>bel k.i):=by rw[List.take_append_drop]
   rw[e1,List.filter_append,hfl,if_pos hb,List.append_assoc];rfl
  generalize (((l.drop fr).take k).filter fun k=>bel k.i)=pre at hp hfl hwh ⊢
  have hE1:=hE pre (j++[.row 135 3 0 [y.av]]) y.i
  have hY1:=hY pre (j++[.row 135 3 0 [y.av]]) y hp
  have hb1:∀p,p<b0→∀u x,getRow (B pre j++[x]) p u=getRow (B pre j) p u:=fun p hp u x=>bf _ (by rw[hBl];omega)
  have g1:getRow (B pre j++[.row 135 3 0 [y.av]]) (q+1) 0=some (27,1,[.hp p 0 0 0]):=by rw[hb1 _ (by omega)];exact hr1 _ _
  have g2:getRow (B pre j++[.row 135 3 0 [y.av]]) (q+2) 0=some (66,4,[qA op num s ks]):=by rw[hb1 _ (by omega)];exact hr2 _ _
  rw[← hB]at hE1 hY1
  rw[Ky.av_eq]at hE1 hY1 g1 g2
  have hnB:=hn pre j
  have hnC:=hn' pre j (.row 135 3 0 [.agg [.int .i64 y.d,.int .i64 y.i,.int .i64 y.f]])
  cases hb:bel y.i with
  |false=>
   rw[hb]at hE1 hfl
   have F:=F7 F hy c2 c3 g1 g2 @ax
   try refine sq F ?_
   refine wk F ?_
   refine kq F (hE1) ?_
   refine hK2 _ _ _ (Wkn.refl ⟨k+1,j++[.row 135 3 0 [y.av]],rfl,by rw[hfl];simp[hB,Ky.av],?_,by omega,by simp;omega,by rw[hfl];simpa using hp⟩) (by omega)
   all_goals first|exact zq F|rfl|omega|trivial|skip
  |true=>
   rw[hb]at hE1 hfl
   have hwh:=hwh hb
   have F:=F7 F hy c2 c3 g1 g2 @ax
   try refine sq F ?_
   refine wk F ?_
   refine kq F (hE1) ?_
   refine hY1.mono ?_
   rintro r h' ⟨j',hj',⟨hlt2,rfl,rfl⟩| ⟨heq,rfl,rfl⟩⟩
   ·try refine sq F ?_
    refine wk F ?_
    refine hK2 _ _ _ (Wkn.refl ⟨k+1,j',rfl,by rw[hfl];rfl,?_,by omega,by simp at hj';omega,by rw[hfl];simp;omega⟩) (by omega)
    all_goals first|exact zq F|rfl|omega|trivial|skip
   ·try refine sq F ?_
    refine wk F ?_
    refine ee hQ F ?_
    refine Fin.whole (by rw[aC (hn _ _),aC (hns _ _),hBl,hBsl];simp at hj';omega) (ct _) ⟨j',.inr ⟨by rw[hwh];simp;omega,?_⟩⟩
    rw[hwh, ← heq,List.take_left' rfl]
 ·have e:k=l.length-fr:=by omega
  subst e
  have ht:(l.drop fr).take (l.length-fr)=l.drop fr:=List.take_of_length_le (by simp)
  rw[ht]at hp ⊢
  refine ee hQ F ?_
  exact Fin.whole (by rw[aC (hn _ _),aC (hn _ _),hBl,hBl];omega) (ct _) ⟨j,.inl ⟨hp,rfl⟩⟩
end
end Go.Av
namespace Go.Av
open Go Go.Proofs Go.RowKit
attribute [local irreducible] WP WPl WPix Sat SatY
def nxC(c:Cu)(pre:List Ky):Cu:=match pre.getLast? with
 |none=>c
 |some k=>⟨k.d,k.i,true⟩
theorem qG(c:Cu)(pre:List Ky)(y:Ky):nxC c (pre++[y])=⟨y.d,y.i,true⟩:=by unfold nxC;rw[List.getLast?_concat]
def pgV(L:Nat)(mo:Bool)(c:Cu)(pre:List Ky):AVal:=.agg [.hs (L+10) pre.length 0 pre.length true,.int .i64 (nxC c pre).d,.int .i64 (nxC c pre).i,.bool (nxC c pre).set,.bool mo]
def pgM(H:Heap)(n p:Nat)(qv:AVal)(c:Cu)(N:Int)(fr:Nat)(z:Blk)(mo:Bool)(pre:List Ky)(j:Heap):Heap:=
 H++(.row 66 4 0 [qv]:: .row 55 3 0 [c.av]:: .row 3 1 0 [.int .i64 N]:: .row 68 5 0 [.agg [.nil (.slice none 0 0),.int .i64 0,.int .i64 0,.bool false,.bool false]]::
  .row 68 5 0 [pgV H.length mo c pre]:: .row 56 1 0 [.hp n 0 0 0]:: .row 27 1 0 [.hp p 0 0 0]:: .row 66 4 0 [qv]:: .row 55 3 0 [c.av]:: .row 3 1 0 [.int .i64 fr]::
  .row 3 1 pre.length (pre.map fun k=>iA k.i):: .df::z::j)
def pgA(c:Cu)(bs:List Ky)(N:Nat):AVal:=.agg [.sl 1 ((bs.take N).map fun k=>iA k.i),.int .i64 (nxC c (bs.take N)).d,.int .i64 (nxC c (bs.take N)).i,.bool (nxC c (bs.take N)).set,.bool (decide (N<bs.length))]
section
variable {H:Heap} {n p:Nat} {qv:AVal} {c:Cu} {N:Int} {fr:Nat} {z:Blk} {mo:Bool} {pre:List Ky} {j:Heap}
theorem cT(j':Heap):pgM H n p qv c N fr z mo pre j++j'=pgM H n p qv c N fr z mo pre (j++j'):=by simp[pgM]
theorem cU:(pgM H n p qv c N fr z mo pre j).length=H.length+13+j.length:=by simp[pgM];omega
theorem cV:(pgM H n p qv c N fr z mo pre j)[H.length+12]? =some z:=by
 unfold pgM;rw[List.getElem?_append_right (by omega),Nat.add_sub_cancel_left];rfl
theorem s7:(pgM H n p qv c N fr z mo pre j)[H.length+11]? =some .df:=by
 unfold pgM;rw[List.getElem?_append_right (by omega),Nat.add_sub_cancel_left];rfl
theorem dM(z':Blk):(pgM H n p qv c N fr z mo pre j).set (H.length+12) z'=pgM H n p qv c N fr z' mo pre j:=by
 unfold pgM;rw[d7 _ rfl];rfl
theorem br(k v:Nat):getRow (pgM H n p qv c N fr z mo pre j) (H.length+k) v=getRow (.row 66 4 0 [qv]:: .row 55 3 0 [c.av]:: .row 3 1 0 [.int .i64 N]:: .row 68 5 0 [.agg [.nil (.slice none 0 0),.int .i64 0,.int .i64 0,.bool false,.bool false]]::
  .row 68 5 0 [pgV H.length mo c pre]:: .row 56 1 0 [.hp n 0 0 0]:: .row 27 1 0 [.hp p 0 0 0]:: .row 66 4 0 [qv]:: .row 55 3 0 [c.av]:: .row 3 1 0 [.int .i64 fr]::
  .row 3 1 pre.length (pre.map fun k=>iA k.i):: .df::z::j) k v:=bH v rfl
theorem pN:(pgM H n p qv c N fr z mo pre j).set (H.length+4) (.row 68 5 0 [pgV H.length true c pre])=pgM H n p qv c N fr z true pre j:=by
 unfold pgM;rw[d7 _ rfl];rfl
theorem qH(y:Ky):((pgM H n p qv c N fr z mo pre j).set (H.length+10) (.row 3 1 (pre.length+1) ((pre.map fun k=>iA k.i)++[iA y.i]))).set (H.length+4) (.row 68 5 0 [.agg [.hs (H.length+10) (pre.length+1) 0 (pre.length+1) true,.int .i64 y.d,.int .i64 y.i,.bool true,.bool mo]])=pgM H n p qv c N fr z mo (pre++[y]) j:=by
 unfold pgM;rw[d7 _ rfl,d7 _ rfl]
 simp only[List.set_cons_succ,List.set_cons_zero,pgV,qG,List.length_append,List.length_singleton,List.map_append,List.map_cons,List.map_nil]
end
theorem pO{H Z:Heap}{n:Nat}{c:Cu}{bs:List Ky}{N L:Nat}(_hn:n+2≤H.length)(hg:getRow Z (H.length+10) (bs.take N).length=some (L,1,(bs.take N).map fun k=>iA k.i)):
  Frz Z H.length (.tup [.agg [.hs (H.length+10) (bs.take N).length 0 (bs.take N).length true,.int .i64 (nxC c (bs.take N)).d,.int .i64 (nxC c (bs.take N)).i,.bool (nxC c (bs.take N)).set,.bool (decide (N<bs.length))],.int .i64 0]) (.tup [pgA c bs N,.int .i64 0]):=by
 refine .tup _ _ rfl fun i a b ha hb=>?_
 match i with
 |0=>
  simp only[List.getElem?_cons_zero,Option.some.injEq]at ha hb
  subst ha;subst hb
  refine .agg _ _ rfl (fun d hd=>?_) fun i a b ha hb=>?_
  ·simp only[List.mem_cons,List.not_mem_nil,or_false]at hd
   rcases hd with rfl|rfl|rfl|rfl|rfl<;>rfl
  ·match i with
   |0=>
    simp only[List.getElem?_cons_zero,Option.some.injEq]at ha hb
    subst ha;subst hb
    refine Frz.data (by omega) hg (by simp) (fun r hr=>?_) (fun r hr=>?_)
    ·obtain⟨x,_,rfl⟩:=List.mem_map.1 hr;exact .int _ _
    ·obtain⟨x,_,rfl⟩:=List.mem_map.1 hr;intro c hc;simp[AVal.cells,iA]at hc;subst hc;rfl
   |1=>simp at ha hb;subst ha;subst hb;exact .clo _ (.int _ _)
   |2=>simp at ha hb;subst ha;subst hb;exact .clo _ (.int _ _)
   |3=>simp at ha hb;subst ha;subst hb;exact .clo _ (.bool _)
   |4=>simp at ha hb;subst ha;subst hb;exact .clo _ (.bool _)
   |i+5=>simp at ha
 |1=>simp at ha hb;subst ha;subst hb;exact .clo _ (.int _ _)
 |i+2=>simp at ha
theorem de{H:Heap}{n v:Nat}{l:List Ky}(hn:n+2≤H.length){p:Nat}(hp:n+2≤p):(vo H n v l)[p]? =H[p]? :=eH hn (.inr hp)
variable (G:Nat→Option (List AVal))
section
variable {l:List Ky} {H:Heap} {n v:Nat}
theorem oh{ass body:Code}{k:Nat}{t:Env}{Q1:Exit→Env→Heap→Prop}(hl:l.length≤1048576)(bel:Int→Bool)(c:Cu)(p:Nat)(op num:Int)(s:Bs)(ks:List AVal)(N yl:Nat)(hn:n+2≤H.length)
  (okA:okCode k ass=true)(okB:okCode k body=true)(flA:flat ass=true)(flB:flat body=true)
  (hA:∀(y:Ky) (H':Heap) (Q:Exit→Env→Heap→Prop),Q .normal (upd (upd t 42 y.av) 14 (.hp H'.length 0 0 0)) (H'++[.row 135 3 0 [y.av]])→WP (CT G) ass Q (upd t 42 y.av) H')
  (hB:∀(y:Ky) (pre:List Ky) (j:Heap) (z:Blk) (Q:Exit→Env→Heap→Prop),pre.length≤N→
   (pre.length=N→∀t',Q (.exit 0) t' (vo (pgM H n p (qA op num s ks) c N (fromK l c) z true pre (j++[.row 135 3 0 [y.av]])) n v l))→
   (pre.length<N→∀t',Q .normal t' (vo (pgM H n p (qA op num s ks) c N (fromK l c) z false (pre++[y]) (j++[.row 135 3 0 [y.av]])) n v l))→
   WP (CT G) body Q (upd (upd t 42 y.av) 14 (.hp (H.length+13+j.length) 0 0 0)) (vo (pgM H n p (qA op num s ks) c N (fromK l c) z false pre j++[.row 135 3 0 [y.av]]) n v l))
  (hE:∀j id,Sat (CT G) 39 [.hp p 0 0 0,qA op num s ks,.int .i64 id] (vo (H++j) n v l) (fun r h'=>r=.bool (bel id)∧h'=vo (H++j) n v l))
  (f0:∀j,Q1 .normal t (vo (pgM H n p (qA op num s ks) c N (fromK l c) .dead (decide (N<((l.drop (fromK l c)).filter fun k=>bel k.i).length)) (((l.drop (fromK l c)).filter fun k=>bel k.i).take N) j) n v l))
  (f1:∀j,Q1 (.exit 0) t (vo (pgM H n p (qA op num s ks) c N (fromK l c) .dead (decide (N<((l.drop (fromK l c)).filter fun k=>bel k.i).length)) (((l.drop (fromK l c)).filter fun k=>bel k.i).take N) j) n v l)):
  Sat (CT G) 111 [.fn (.yield yl) [] [],.hp (H.length+5) 0 0 0,.hp (H.length+9) 0 0 0,.hp (H.length+6) 0 0 0,.hp (H.length+7) 0 0 0]
   (vo (H++[Blk.row 66 4 0 [qA op num s ks],.row 55 3 0 [.agg [.int .i64 c.d,.int .i64 c.i,.bool c.set]],.row 3 1 0 [.int .i64 N],.row 68 5 0 [.agg [.nil (.slice none 0 0),.int .i64 0,.int .i64 0,.bool false,.bool false]],.row 68 5 0 [.agg [.hs (H.length+10) 0 0 0 true,.int .i64 c.d,.int .i64 c.i,.bool c.set,.bool false]],.row 56 1 0 [.hp n 0 0 0],.row 27 1 0 [.hp p 0 0 0],.row 66 4 0 [qA op num s ks],.row 55 3 0 [.agg [.int .i64 c.d,.int .i64 c.i,.bool c.set]],.row 3 1 0 [.int .i64 (fromK l c)],.row 3 1 0 []]) n v l++[.df,.lp yl k t #[42] ass body .ready none]) (rangeQ (H.length+11) yl k t #[42] ass body Q1):=by
 have hnM:∀{z:Blk} {mo:Bool} {pre:List Ky} {j:Heap},n+2≤(pgM H n p (qA op num s ks) c N (fromK l c) z mo pre j).length:=by intro z mo pre j;rw[cU];omega
 have hseq:=qF G (v:=v) (n:=n) hl bel N yl (H.length+5) (H.length+13) p op num s ks (fun pre j=>pgM H n p (qA op num s ks) c N (fromK l c) (.lp yl k t #[42] ass body .ready none) false pre j) (fun pre j=>pgM H n p (qA op num s ks) c N (fromK l c) (.lp yl k t #[42] ass body .done (some (.exit 0))) true pre j) (fromK l c) (jX l c)
  (fun pre j j'=>cT j') (fun pre j=>cU) (fun pre j=>cU) (by omega) (by omega) (fun pre j=>br 5 0) (fun pre j=>br 6 0) (fun pre j=>br 7 0) (fun pre j=>br 9 0)
  (fun pre j id=>hE _ id) (fun pre j y hp=>?_) []
 ·have e0:vo (H++[Blk.row 66 4 0 [qA op num s ks],.row 55 3 0 [.agg [.int .i64 c.d,.int .i64 c.i,.bool c.set]],.row 3 1 0 [.int .i64 N],.row 68 5 0 [.agg [.nil (.slice none 0 0),.int .i64 0,.int .i64 0,.bool false,.bool false]],.row 68 5 0 [.agg [.hs (H.length+10) 0 0 0 true,.int .i64 c.d,.int .i64 c.i,.bool c.set,.bool false]],.row 56 1 0 [.hp n 0 0 0],.row 27 1 0 [.hp p 0 0 0],.row 66 4 0 [qA op num s ks],.row 55 3 0 [.agg [.int .i64 c.d,.int .i64 c.i,.bool c.set]],.row 3 1 0 [.int .i64 (fromK l c)],.row 3 1 0 []]) n v l++[.df,.lp yl k t #[42] ass body .ready none]=vo (pgM H n p (qA op num s ks) c N (fromK l c) (.lp yl k t #[42] ass body .ready none) false [] []) n v l:=by
   rw[dJ (by simp;omega)]
   simp[pgM,pgV,nxC,Cu.av]
  rw[e0]
  refine hseq.mono ?_
  rintro r h' ⟨j,⟨hle,rfl⟩| ⟨hlt,rfl⟩⟩
  ·refine⟨.ready,none,by rw[de hnM (by omega)];exact cV,by simp,?_⟩
   have:=f0 j
   rw[List.take_of_length_le hle,decide_eq_false (by omega)]at this
   show Q1 .normal t _
   rw[cP hnM _ (by omega),dM]
   exact this
  ·refine⟨.done,some (.exit 0),by rw[de hnM (by omega)];exact cV,by simp,?_⟩
   have:=f1 j
   rw[decide_eq_true hlt]at this
   show Q1 (.exit 0) t _
   rw[cP hnM _ (by omega),dM]
   exact this
 ·refine SatY.roundQ (p:=H.length+12) (by rw[de hnM (by omega)];exact cV) okA okB flA flB fun Qa ha=>hA y _ Qa (ha _ _ ?_ fun Qb hb he=>?_)
  ·rw[dJ hnM,de (by rw[List.length_append];have:=hnM (z:=.lp yl k t #[42] ass body .ready none) (mo:=false) (pre:=pre) (j:=j);omega) (by omega),cT];exact cV
  ·have e1:(vo (pgM H n p (qA op num s ks) c N (fromK l c) (.lp yl k t #[42] ass body .ready none) false pre j) n v l++[Blk.row 135 3 0 [y.av]]).set (H.length+12) (.lp yl k t #[42] ass body .busy none)=vo (pgM H n p (qA op num s ks) c N (fromK l c) (.lp yl k t #[42] ass body .busy none) false pre j++[.row 135 3 0 [y.av]]) n v l:=by
    rw[dJ hnM,cT,cP hnM _ (by omega),dM,cT]
   rw[e1,aC hnM,cU]
   refine hB y pre j _ Qb hp (fun e t'=>he 0 _ _ ?_ ?_) fun e t'=>hb _ _ ?_ ?_
   ·rw[de hnM (by omega)];exact cV
   ·rw[cP hnM _ (by omega),dM]
    exact⟨_,by simp,.inr ⟨e,rfl,rfl⟩⟩
   ·rw[de hnM (by omega)];exact cV
   ·rw[cP hnM _ (by omega),dM]
    exact⟨_,by simp,.inl ⟨e,rfl,rfl⟩⟩
theorem pP(hs:Sk l)(hl:l.length≤1048576)(bel:Int→Bool)(c:Cu)(p:Nat)(hp:p<H.length)(op num:Int)(s:Bs)(ks:List AVal)(N:Nat)(hN:1≤N∧N≤100)(hn:n+2≤H.length)
  (hq:∀j,abin Tryz.prog (vo (H++j) n v l) .eql 27 (.hp p 0 0 0) (.nil (.pointer none))=some (.bool false))
  (hC:∀j,Sat (CT G) 66 [qA op num s ks] (vo (H++j) n v l) (fun r h'=>r=.int .i64 0∧h'=vo (H++j) n v l))
  (hE:∀j id,Sat (CT G) 39 [.hp p 0 0 0,qA op num s ks,.int .i64 id] (vo (H++j) n v l) (fun r h'=>r=.bool (bel id)∧h'=vo (H++j) n v l)):
  Sat (CT G) 31 [.hp n 0 0 0,.hp p 0 0 0,qA op num s ks,c.av,.int .i64 N] (vo H n v l)
   (fun r h'=>r=.tup [pgA c ((l.drop (fromK l c)).filter fun k=>bel k.i) N,.int .i64 0]∧h'=vo H n v l):=by
 have hfr:=jX l c
 have hCh:=hC [.row 66 4 0 [qA op num s ks],.row 55 3 0 [c.av],.row 3 1 0 [.int .i64 N],.row 68 5 0 [.agg [.nil (.slice none 0 0),.int .i64 0,.int .i64 0,.bool false,.bool false]]]
 rw[Cu.av_eq]at hCh
 have n1:decide ((N:Int)<1)=false:=by simp;omega
 have n2:decide ((N:Int)>100)=false:=by simp;omega
 have df:∀i:Decidable False, @decide False i=false:=fun i=>by simp
 skip
 refine Sat.range [.cell 10 68,.tmp 11] (fn:=Tryz.f31) (H.length+11) Tryz.func31 ?_
 intro Q0 Q1 hQ hQ1
 have F:=F5 hq n1 n2 df @ax
 refine EJ.seq1 (by kernel_rfl) fun KK kK=>?_
 refine wk F ?_
 refine kK _ _ (w0 ?_)
 clear kK KK
 refine EJ.seq1 (by kernel_rfl) fun KK kK=>?_
 refine wk F ?_
 refine kK _ _ (w0 ?_)
 clear kK KK
 refine EJ.seq1 (by kernel_rfl) fun KK kK=>?_
 refine wk F ?_
 refine kq F (hCh) ?_
 refine kK _ _ (w0 ?_)
 clear kK KK
 refine EJ.seq1 (by kernel_rfl) fun KK kK=>?_
 refine wk F ?_
 refine kK _ _ (w0 ?_)
 clear kK KK
 refine EJ.seq1 (by kernel_rfl) fun KK kK=>?_
 refine wk F ?_
 refine kK _ _ (w0 ?_)
 clear kK KK
 refine EJ.seq2 (EJ.seq1 (by kernel_rfl) fun KK kK=>?_)
 refine wk F ?_
 have hBh:=mV G (v:=v) (n:=n) hs hl c p (H:=H++[Blk.row 66 4 0 [qA op num s ks],.row 55 3 0 [c.av],.row 3 1 0 [.int .i64 N],.row 68 5 0 [.agg [.nil (.slice none 0 0),.int .i64 0,.int .i64 0,.bool false,.bool false]],.row 68 5 0 [.agg [.nil (.slice none 0 0),.int .i64 c.d,.int .i64 c.i,.bool c.set,.bool false]]]) (by simp;omega) op num s ks (by simp;omega)
 simp only[List.length_append,List.length_cons,List.length_nil,Nat.reduceAdd,Nat.zero_add,Nat.add_assoc,bhB,List.append_assoc,List.cons_append,List.nil_append,Cu.av_eq]at hBh
 refine kq F (hBh) ?_
 refine kK _ _ ⟨_,_,Weak.virtCell (p:=H.length+4) (v:=0) 3 1 (by omega) (by simp(disch:=first|omega| (simp only[go_sem, ↓reduceIte,seval];first|done|omega)|fail) only[go_sem, ↓reduceIte,seval,F];rfl) 0 rfl,?_⟩
 clear kK KK
 try refine sq F ?_
 refine EJ.block (EJ.forget (P:=fun t=>t 9=.hp (H.length+2) 0 0 0∧t 13=.hp (H.length+4) 0 0 0∧t 10=.hp (H.length+3) 0 0 0∧t 41=.fn (.func 111) [] [.hp (H.length+5) 0 0 0,.hp (H.length+9) 0 0 0,.hp (H.length+6) 0 0 0,.hp (H.length+7) 0 0 0]) ⟨by simp(disch:=first|omega| (simp only[go_sem, ↓reduceIte,seval];first|done|omega)|fail) only[go_sem, ↓reduceIte,seval,F],by simp(disch:=first|omega| (simp only[go_sem, ↓reduceIte,seval];first|done|omega)|fail) only[go_sem, ↓reduceIte,seval,F],by simp(disch:=first|omega| (simp only[go_sem, ↓reduceIte,seval];first|done|omega)|fail) only[go_sem, ↓reduceIte,seval,F],by simp(disch:=first|omega| (simp only[go_sem, ↓reduceIte,seval];first|done|omega)|fail) only[go_sem, ↓reduceIte,seval,F]⟩ ?_)
 rintro t ⟨tq9,tq13,tq10,tq41⟩
 refine EJ.range (gf:=111) (fn:=Tryz.f111) rfl tq41 Tryz.func111 rfl (by kernel_rfl) (by rw[aC (by simp;omega)];simp) fun yl=>?_
 refine oh G hl bel c p op num s ks N yl hn (by kernel_rfl) (by kernel_rfl) rfl rfl (fun y H' Q hq1=>?_) (fun y pre j z Q hp hx ha=>?_) hE (fun j=>?_) (fun j=>?_)
 ·refine wk F ?_
  exact hq1
 ·have xl:=cU (H:=H) (n:=n) (p:=p) (qv:=qA op num s ks) (c:=c) (N:=N) (fr:=fromK l c) (z:=z) (mo:=false) (pre:=pre) (j:=j)
  have r4:getRow (pgM H n p (qA op num s ks) c N (fromK l c) z false pre j) (H.length+4) 0=some (68,5,[pgV H.length false c pre]):=br 4 0
  have r2:getRow (pgM H n p (qA op num s ks) c N (fromK l c) z false pre j) (H.length+2) 0=some (3,1,[.int .i64 N]):=br 2 0
  have r10:getRow (pgM H n p (qA op num s ks) c N (fromK l c) z false pre j) (H.length+10) pre.length=some (3,1,pre.map fun k=>iA k.i):=(br 10 pre.length).trans (by simp[getRow])
  have m1:(pgM H n p (qA op num s ks) c N (fromK l c) z false pre j).set (H.length+4) (.row 68 5 0 [pgV H.length true c pre])++[Blk.row 135 3 0 [y.av]]=pgM H n p (qA op num s ks) c N (fromK l c) z true pre (j++[.row 135 3 0 [y.av]]):=by rw[pN,cT]
  have a1:=congrArg (· ++ [Blk.row 135 3 0 [y.av]]) (qH (H:=H) (n:=n) (p:=p) (qv:=qA op num s ks) (c:=c) (N:=N) (fr:=fromK l c) (z:=z) (mo:=false) (pre:=pre) (j:=j) y)
  simp only[cT]at a1
  rw[← m1]at hx
  rw[← a1]at ha
  simp only[pgV,Ky.av_eq,iA]at r4 r10 hx ha
  clear m1 a1
  generalize pgM H n p (qA op num s ks) c N (fromK l c) z false pre j=X at*
  have hnX:n+2≤X.length:=by omega
  have hmL:(pre.map fun k=>AVal.int .i64 k.i).length=pre.length:=List.length_map ..
  by_cases hpn:pre.length=N
  ·have hq3:((pre.length:Int)==(N:Int))=true:=by simp[hpn]
   have F:=F8 F tq9 tq13 r4 r2 r10 hq3 @ax
   refine wk F ?_
   exact hx hpn _
  ·have hq3:((pre.length:Int)==(N:Int))=false:=by simp;omega
   have F:=F9 F tq9 tq13 r4 r2 r10 hq3 @hmL @ax
   refine wk F ?_
   refine aq F ?_
   try refine sq F ?_
   refine wk F ?_
   exact ha (by omega) _
 all_goals (
  show MJ (CT G) _ _ Q1 _ t _
  generalize ((l.drop (fromK l c)).filter fun k=>bel k.i)=bs at hQ1 ⊢
  have xl:(pgM H n p (qA op num s ks) c N (fromK l c) .dead (decide (N<bs.length)) (bs.take N) j).length=_:=cU
  have r4:getRow (pgM H n p (qA op num s ks) c N (fromK l c) .dead (decide (N<bs.length)) (bs.take N) j) (H.length+4) 0=some (68,5,[pgV H.length (decide (N<bs.length)) c (bs.take N)]):=br 4 0
  have r3:getRow (pgM H n p (qA op num s ks) c N (fromK l c) .dead (decide (N<bs.length)) (bs.take N) j) (H.length+3) 0=some (68,5,[.agg [.nil (.slice none 0 0),.int .i64 0,.int .i64 0,.bool false,.bool false]]):=br 3 0
  have r10:getRow (pgM H n p (qA op num s ks) c N (fromK l c) .dead (decide (N<bs.length)) (bs.take N) j) (H.length+10) (bs.take N).length=some (3,1,(bs.take N).map fun k=>iA k.i):=(br 10 _).trans (by simp[getRow])
  have d11:(pgM H n p (qA op num s ks) c N (fromK l c) .dead (decide (N<bs.length)) (bs.take N) j)[H.length+11]? =some .df:=s7
  obtain⟨J,hJ⟩:∃J,(pgM H n p (qA op num s ks) c N (fromK l c) .dead (decide (N<bs.length)) (bs.take N) j)=H++J:=⟨_,rfl⟩
  simp only[pgV]at r4
  generalize (pgM H n p (qA op num s ks) c N (fromK l c) .dead (decide (N<bs.length)) (bs.take N) j)=X at*
  have hnX:n+2≤X.length:=by omega
  refine MJ.wp (by kernel_rfl) ?_
  have F:=F6 F tq13 tq10 r4 r3 @ax
  refine wk F ?_
  refine(hQ1 _ _ (by rw[de (by rw[List.length_set];exact hnX) (by omega),List.getElem?_set_ne (by omega)];exact d11) ?_).1
  simp(disch:=first|omega| (simp only[go_sem, ↓reduceIte,seval];first|done|omega)|fail) only[go_sem, ↓reduceIte,seval,F,resA,resL,resA1]
  have hg:=bT (H:=X) (p:=H.length+3) (q:=H.length+10) (.row 68 5 0 [.agg [.hs (H.length+10) (bs.take N).length 0 (bs.take N).length true,.int .i64 (nxC c (bs.take N)).d,.int .i64 (nxC c (bs.take N)).i,.bool (nxC c (bs.take N)).set,.bool (decide (N<bs.length))]]) (bs.take N).length (by omega)
  rw[r10, ← bT (p:=H.length+11) .dead _ (by omega)]at hg
  subst hJ
  rw[d7 _ rfl,d7 _ rfl]at hg ⊢
  rw[← cO (n:=n) (v:=v) (l:=l) (by rw[List.length_append];omega) _ (by omega)]at hg
  exact cc hn rfl (eK hn) (pO hn hg) ⟨rfl,rfl⟩)
end
end Go.Av
namespace Go.Av
open Go Go.Proofs Go.RowKit
attribute [local irreducible] WP WPl WPix Sat
def lastI(bel:Int→Bool)(l:List Ky):Int:=match (l.filter fun k=>bel k.i).getLast? with
 |some k=>k.i
 |none=>0
def headI(bel:Int→Bool)(l:List Ky):Int:=match (l.filter fun k=>bel k.i).head? with
 |some k=>k.i
 |none=>0
def arF(bel:Int→Bool)(l:List Ky)(item:Int):Int×Int:=match l.findIdx? (fun k=>decide (k.i=item))with
 |some i=>(lastI bel (l.take i),headI bel (l.drop (i+1)))
 |none=>(0,0)
theorem iS{bel:Int→Bool}{l:List Ky}{y:Ky}(h:bel y.i=true):lastI bel (l++[y])=y.i:=by
 unfold lastI;rw[List.filter_append,List.filter_cons,if_pos h,List.filter_nil,List.getLast?_concat]
theorem gS{bel:Int→Bool}{l:List Ky}{y:Ky}(h:bel y.i=false):lastI bel (l++[y])=lastI bel l:=by
 unfold lastI;rw[List.filter_append,List.filter_cons,if_neg (by simp[h]),List.filter_nil,List.append_nil]
theorem gU{bel:Int→Bool}{l:List Ky}{y:Ky}(h:bel y.i=true):headI bel (y::l)=y.i:=by
 unfold headI;rw[List.filter_cons,if_pos h];rfl
theorem gV{bel:Int→Bool}{l:List Ky}{y:Ky}(h:bel y.i=false):headI bel (y::l)=headI bel l:=by
 unfold headI;rw[List.filter_cons,if_neg (by simp[h])]
variable (G:Nat→Option (List AVal))
section
variable {l:List Ky} {H:Heap} {n v:Nat}
theorem mW(hl:l.length≤1048576)(bel:Int→Bool)(sp:AVal)(item op num:Int)(s:Bs)(ks:List AVal)(hn:n+2≤H.length)
  (hC:∀j,Sat (CT G) 66 [qA op num s ks] (vo (H++j) n v l) (fun r h'=>r=.int .i64 0∧h'=vo (H++j) n v l))
  (hE:∀j id,Sat (CT G) 39 [sp,qA op num s ks,.int .i64 id] (vo (H++j) n v l) (fun r h'=>r=.bool (bel id)∧h'=vo (H++j) n v l)):
  Sat (CT G) 32 [.hp n 0 0 0,sp,qA op num s ks,.int .i64 item] (vo H n v l)
   (fun r h'=>r=.tup [.int .i64 (arF bel l item).1,.int .i64 (arF bel l item).2]∧h'=vo H n v l):=by
 have ct:∀N (a b:Int),Clo N (.tup [.int .i64 a,.int .i64 b]):=fun N a b=>.tup _ (fun x hx=>by
  simp only[List.mem_cons,List.not_mem_nil,or_false]at hx
  rcases hx with rfl|rfl<;>exact .int _ _)
 have dt:∀i:Decidable True, @decide True i=true:=fun i=>by simp
 have df:∀i:Decidable False, @decide False i=false:=fun i=>by simp
 have hn1:∀j:Heap,n+2≤(H++j).length:=fun j=>by simp;omega
 have hA:=ld G (v:=v) (l:=l) hl item (hn1 [.row 66 4 0 [qA op num s ks]])
 have hCh:=hC [.row 66 4 0 [qA op num s ks]]
 unfold ixK at hA
 unfold arF
 cases hx:l.findIdx? (fun k=>decide (k.i=item))with
 |none=>
  rw[hx]at hA
  have F:=dt
  refine sb [.tmp 8,.tmp 9] (fn:=Tryz.f32) Tryz.func32 ?_
  intro Q hQ
  refine wk F ?_
  refine kq F (hA) ?_
  refine ee hQ F ?_
  exact bd hn (ct _ _ _) ⟨rfl,rfl⟩
 |some i=>
  rw[hx]at hA
  obtain⟨hi,_⟩:=List.findIdx?_eq_some_iff_getElem.1 hx
  have xw1:IntKind.i64.wrap ((i:Int)-1)=(i:Int)-1:=by rw[IntKind.wrap_i64];omega
  have xw2:IntKind.i64.wrap ((i:Int)+1)=((i+1:Nat):Int):=by rw[IntKind.wrap_i64];omega
  have g0:decide ((i:Int)<0)=false:=by simp
  have F:=F7 xw1 xw2 g0 hn1 hn dt df
  by_cases hlt:i+1<l.length
  ·have hsl:=gR (P:=Tryz.prog) (T:=131) (k:=.i64) (len:=l.length) (i:=i+1) (by simp only[go_sem];try rfl) (bq (l:=l) (v:=v) (hn1 [.row 66 4 0 [qA op num s ks]])) (by simp only[go_sem];try rfl) (.inl hlt)
   have F:=F3 F hlt hsl
   refine sb [.tmp 8,.tmp 9] (fn:=Tryz.f32) Tryz.func32 ?_
   intro Q hQ
   refine wk F ?_
   refine kq F (hA) ?_
   refine kq F (hCh) ?_
   refine wk F ?_
   refine lm (fun nL tL hL=>∃(m:Nat),m=nL∧vo (H++[.row 66 4 0 [qA op num s ks]]) n v l=hL∧tL 11=.int .i64 ((m:Int)-1)∧tL 8=.int .i64 0∧m≤i∧lastI bel (l.take i)=lastI bel (l.take m)) ((fun(m:Nat)=>(m:Nat)) (i)) ?_ ?_
   ·refine Wkn.refl ⟨i,rfl,aK,?_,?_,Nat.le_refl i,rfl⟩
    all_goals first|exact zq F|rfl|omega|trivial|skip
   rintro _ s2 h' ⟨m,rfl,rfl,e11,e8,hm,hz⟩ K2 hK2
   simp only[aj,ak,Nat.reduceEqDiff, ↓reduceIte]at e11 e8
   have F:=F3 F e11 e8
   refine wk F ?_
   refine cq F (fun c1=>?_) (fun c1=>?_)<;>(try exact c1.elim)<;>(refine wk F ?_)
   ·have c2:m-1<l.length:=by omega
    have em:(m:Int)-1=((m-1:Nat):Int):=by omega
    have em2:IntKind.i64.wrap (((m-1:Nat):Int)-1)=((m-1:Nat):Int)-1:=by rw[IntKind.wrap_i64];omega
    obtain⟨y1,hy1,hym1⟩:=ah c2
    have et:l.take m=l.take (m-1)++[y1]:=by
     have h:=List.take_add_one (l:=l) (i:=m-1)
     rw[show m-1+1=m from by omega,hy1]at h
     exact h
    rw[et]at hz
    have hE2:=hE [.row 66 4 0 [qA op num s ks]] y1.i
    cases hb0:bel y1.i with
    |true=>
     rw[hb0]at hE2
     rw[iS hb0]at hz
     have F:=F5 F em em2 hy1 c2
     try refine sq F ?_
     refine wk F ?_
     refine au (hE2) ?_
     try refine sq F ?_
     refine wk F ?_
     refine lm (fun nL tL hL=>∃(k:Nat) (j:Heap),l.length-(i+1)-k=nL∧vo (H++(.row 66 4 0 [qA op num s ks]::j)) n v l=hL∧tL 57=.int .i64 k∧tL 8=.int .i64 y1.i∧k≤l.length-(i+1)∧headI bel (l.drop (i+1))=headI bel (l.drop (i+1+k))) ((fun(k:Nat) (j:Heap)=>(l.length-(i+1)-k:Nat)) (0) ([])) ?_ ?_
     ·refine Wkn.refl ⟨0,[],rfl,aK,?_,?_,by omega,rfl⟩
      all_goals first|exact zq F|rfl|omega|trivial|skip
     rintro _ s3 h' ⟨k,j,rfl,rfl,e57,e8,hk,hz2⟩ K3 hK3
     simp only[aj,ak,Nat.reduceEqDiff, ↓reduceIte]at e57 e8
     have F:=F3 F e57 e8
     refine wk F ?_
     refine cq F (fun d1=>?_) (fun d1=>?_)<;>(try exact d1.elim)<;>(refine wk F ?_)
     ·have d2:i+1+k<l.length:=by omega
      obtain⟨y,hy,hym⟩:=ah d2
      have d3:k<l.length-(i+1):=by omega
      have hyi:l[i+(1+k)]? =some y:=by rw[← hy];congr 1;omega
      have hE3:=hE (.row 66 4 0 [qA op num s ks]::j++[.row 135 3 0 [y.av]]) y.i
      rw[Ky.av_eq]at hE3
      rw[aP hy]at hz2
      cases hb:bel y.i with
      |true=>
       rw[hb]at hE3
       rw[gU hb]at hz2
       have F:=F5 F hy hyi d3 @ax
       try refine sq F ?_
       refine wk F ?_
       refine kq F (hE3) ?_
       refine fQ (by decide+kernel) (p8 G) ?_
       refine sq F ?_
       refine wk F ?_
       refine ee hQ F ?_
       exact bd hn (ct _ _ _) ⟨by rw[show lastI bel (l.take i)=y1.i from hz,hz2],rfl⟩
      |false=>
       rw[hb]at hE3
       rw[gV hb]at hz2
       have F:=F5 F hy hyi d3 @ax
       try refine sq F ?_
       refine wk F ?_
       refine kq F (hE3) ?_
       refine hK3 _ _ _ (Wkn.refl ⟨k+1,j++[.row 135 3 0 [y.av]],rfl,by simp[Ky.av],?_,?_,by omega,hz2⟩) (by omega)
       all_goals first|exact zq F|rfl|omega|trivial|skip
     ·rw[List.drop_of_length_le (show l.length≤i+1+k by omega)]at hz2
      refine ee hQ F ?_
      exact bd hn (ct _ _ _) ⟨by rw[show lastI bel (l.take i)=y1.i from hz,hz2];rfl,rfl⟩
    |false=>
     rw[hb0]at hE2
     rw[gS hb0]at hz
     have F:=F5 F em em2 hy1 c2
     try refine sq F ?_
     refine wk F ?_
     refine au (hE2) ?_
     try refine sq F ?_
     refine wk F ?_
     refine hK2 _ _ _ (Wkn.refl ⟨m-1,rfl,aK,?_,?_,by omega,hz⟩) (by omega)
     all_goals first|exact zq F|rfl|omega|trivial|skip
   ·have hz0:lastI bel (l.take i)=0:=by
     rw[hz,show m=0 from by omega];rfl
    refine lm (fun nL tL hL=>∃(k:Nat) (j:Heap),l.length-(i+1)-k=nL∧vo (H++(.row 66 4 0 [qA op num s ks]::j)) n v l=hL∧tL 57=.int .i64 k∧tL 8=.int .i64 0∧k≤l.length-(i+1)∧headI bel (l.drop (i+1))=headI bel (l.drop (i+1+k))) ((fun(k:Nat) (j:Heap)=>(l.length-(i+1)-k:Nat)) (0) ([])) ?_ ?_
    ·refine Wkn.refl ⟨0,[],rfl,aK,?_,?_,by omega,rfl⟩
     all_goals first|exact zq F|rfl|omega|trivial|skip
    rintro _ s3 h' ⟨k,j,rfl,rfl,e57,e8,hk,hz2⟩ K3 hK3
    simp only[aj,ak,Nat.reduceEqDiff, ↓reduceIte]at e57 e8
    have F:=F3 F e57 e8
    refine wk F ?_
    refine cq F (fun d1=>?_) (fun d1=>?_)<;>(try exact d1.elim)<;>(refine wk F ?_)
    ·have d2:i+1+k<l.length:=by omega
     obtain⟨y,hy,hym⟩:=ah d2
     have d3:k<l.length-(i+1):=by omega
     have hyi:l[i+(1+k)]? =some y:=by rw[← hy];congr 1;omega
     have hE3:=hE (.row 66 4 0 [qA op num s ks]::j++[.row 135 3 0 [y.av]]) y.i
     rw[Ky.av_eq]at hE3
     rw[aP hy]at hz2
     cases hb:bel y.i with
     |true=>
      rw[hb]at hE3
      rw[gU hb]at hz2
      have F:=F5 F hy hyi d3 @ax
      try refine sq F ?_
      refine wk F ?_
      refine kq F (hE3) ?_
      refine fQ (by decide+kernel) (p8 G) ?_
      refine sq F ?_
      refine wk F ?_
      refine ee hQ F ?_
      exact bd hn (ct _ _ _) ⟨by rw[show lastI bel (l.take i)=0 from hz0,hz2],rfl⟩
     |false=>
      rw[hb]at hE3
      rw[gV hb]at hz2
      have F:=F5 F hy hyi d3 @ax
      try refine sq F ?_
      refine wk F ?_
      refine kq F (hE3) ?_
      refine hK3 _ _ _ (Wkn.refl ⟨k+1,j++[.row 135 3 0 [y.av]],rfl,by simp[Ky.av],?_,?_,by omega,hz2⟩) (by omega)
      all_goals first|exact zq F|rfl|omega|trivial|skip
    ·rw[List.drop_of_length_le (show l.length≤i+1+k by omega)]at hz2
     refine ee hQ F ?_
     exact bd hn (ct _ _ _) ⟨by rw[show lastI bel (l.take i)=0 from hz0,hz2];rfl,rfl⟩
  ·have hle:i+1=l.length:=by omega
   have hsl:=dW (P:=Tryz.prog) (T:=131) (k:=.i64) (len:=l.length) (i:=i+1) (by simp only[go_sem];try rfl) (bq (l:=l) (v:=v) (hn1 [.row 66 4 0 [qA op num s ks]])) (by simp only[go_sem];try rfl) hle (by omega)
   have F:=F2 F hsl
   refine sb [.tmp 8,.tmp 9] (fn:=Tryz.f32) Tryz.func32 ?_
   intro Q hQ
   refine wk F ?_
   refine kq F (hA) ?_
   refine kq F (hCh) ?_
   refine wk F ?_
   refine lm (fun nL tL hL=>∃(m:Nat),m=nL∧vo (H++[.row 66 4 0 [qA op num s ks]]) n v l=hL∧tL 11=.int .i64 ((m:Int)-1)∧tL 8=.int .i64 0∧m≤i∧lastI bel (l.take i)=lastI bel (l.take m)) ((fun(m:Nat)=>(m:Nat)) (i)) ?_ ?_
   ·refine Wkn.refl ⟨i,rfl,aK,?_,?_,Nat.le_refl i,rfl⟩
    all_goals first|exact zq F|rfl|omega|trivial|skip
   rintro _ s2 h' ⟨m,rfl,rfl,e11,e8,hm,hz⟩ K2 hK2
   simp only[aj,ak,Nat.reduceEqDiff, ↓reduceIte]at e11 e8
   have F:=F3 F e11 e8
   refine wk F ?_
   refine cq F (fun c1=>?_) (fun c1=>?_)<;>(try exact c1.elim)<;>(refine wk F ?_)
   ·have c2:m-1<l.length:=by omega
    have em:(m:Int)-1=((m-1:Nat):Int):=by omega
    have em2:IntKind.i64.wrap (((m-1:Nat):Int)-1)=((m-1:Nat):Int)-1:=by rw[IntKind.wrap_i64];omega
    obtain⟨y1,hy1,hym1⟩:=ah c2
    have et:l.take m=l.take (m-1)++[y1]:=by
     have h:=List.take_add_one (l:=l) (i:=m-1)
     rw[show m-1+1=m from by omega,hy1]at h
     exact h
    rw[et]at hz
    have hE2:=hE [.row 66 4 0 [qA op num s ks]] y1.i
    cases hb0:bel y1.i with
    |true=>
     rw[hb0]at hE2
     rw[iS hb0]at hz
     have F:=F5 F em em2 hy1 c2
     try refine sq F ?_
     refine wk F ?_
     refine au (hE2) ?_
     try refine sq F ?_
     refine wk F ?_
     refine lm (fun nL tL hL=>∃(k:Nat),0-k=nL∧vo (H++[.row 66 4 0 [qA op num s ks]]) n v l=hL∧tL 57=.int .i64 k∧tL 8=.int .i64 y1.i∧k≤0) ((fun(k:Nat)=>(0-k:Nat)) (0)) ?_ ?_
     ·refine Wkn.refl ⟨0,rfl,aK,?_,?_,Nat.le_refl 0⟩
      all_goals first|exact zq F|rfl|omega|trivial|skip
     rintro _ s3 h' ⟨k,rfl,rfl,e57,e8,hk⟩ K3 hK3
     simp only[aj,ak,Nat.reduceEqDiff, ↓reduceIte]at e57 e8
     have F:=F3 F e57 e8
     refine wk F ?_
     refine cq F (fun d1=>?_) (fun d1=>?_)<;>(try exact d1.elim)<;>(refine wk F ?_)
     ·exact absurd d1 (by omega)
     ·have hz2:headI bel (l.drop (i+1))=headI bel []:=by rw[List.drop_of_length_le (by omega)]
      refine ee hQ F ?_
      exact bd hn (ct _ _ _) ⟨by rw[show lastI bel (l.take i)=y1.i from hz,hz2];rfl,rfl⟩
    |false=>
     rw[hb0]at hE2
     rw[gS hb0]at hz
     have F:=F5 F em em2 hy1 c2
     try refine sq F ?_
     refine wk F ?_
     refine au (hE2) ?_
     try refine sq F ?_
     refine wk F ?_
     refine hK2 _ _ _ (Wkn.refl ⟨m-1,rfl,aK,?_,?_,by omega,hz⟩) (by omega)
     all_goals first|exact zq F|rfl|omega|trivial|skip
   ·have hz0:lastI bel (l.take i)=0:=by
     rw[hz,show m=0 from by omega];rfl
    refine lm (fun nL tL hL=>∃(k:Nat),0-k=nL∧vo (H++[.row 66 4 0 [qA op num s ks]]) n v l=hL∧tL 57=.int .i64 k∧tL 8=.int .i64 0∧k≤0) ((fun(k:Nat)=>(0-k:Nat)) (0)) ?_ ?_
    ·refine Wkn.refl ⟨0,rfl,aK,?_,?_,Nat.le_refl 0⟩
     all_goals first|exact zq F|rfl|omega|trivial|skip
    rintro _ s3 h' ⟨k,rfl,rfl,e57,e8,hk⟩ K3 hK3
    simp only[aj,ak,Nat.reduceEqDiff, ↓reduceIte]at e57 e8
    have F:=F3 F e57 e8
    refine wk F ?_
    refine cq F (fun d1=>?_) (fun d1=>?_)<;>(try exact d1.elim)<;>(refine wk F ?_)
    ·exact absurd d1 (by omega)
    ·have hz2:headI bel (l.drop (i+1))=headI bel []:=by rw[List.drop_of_length_le (by omega)]
     refine ee hQ F ?_
     exact bd hn (ct _ _ _) ⟨by rw[show lastI bel (l.take i)=0 from hz0,hz2];rfl,rfl⟩
end
end Go.Av
namespace Go.Av
open Go Go.Proofs Go.RowKit
attribute [local irreducible] WP WPl WPix Sat
abbrev qN(op:Int):AVal:=.agg [.int .i64 op,.int .i64 0,.str [],.nil (.slice none 0 0)]
theorem j6(op:Int):Wk (qN op) (qA op 0 [] []):=Wk.agg rfl (fun y hy=>by
 simp only[List.mem_cons,List.not_mem_nil,or_false]at hy
 rcases hy with rfl|rfl|rfl|rfl<;>rfl) fun i x y hx hy=>by
 match i with
 |0=>simp at hx hy;subst hx;subst hy;exact Wk.refl _
 |1=>simp at hx hy;subst hx;subst hy;exact Wk.refl _
 |2=>simp at hx hy;subst hx;subst hy;exact Wk.refl _
 |3=>simp at hx hy;subst hx;subst hy;exact Wk.nils 4
 |i+4=>simp at hx
abbrev pgZ:AVal:=.agg [.nil (.slice none 0 0),.int .i64 0,.int .i64 0,.bool false,.bool false]
theorem lu(N:Nat)(e:Int):Clo N (.tup [pgZ,.int .i64 e]):=.tup _ fun x hx=>by
 simp only[List.mem_cons,List.not_mem_nil,or_false]at hx
 rcases hx with rfl|rfl
 ·exact .agg _ fun x hx=>by
   simp only[List.mem_cons,List.not_mem_nil,or_false]at hx
   rcases hx with rfl|rfl|rfl|rfl|rfl<;>first|exact .nil _|exact .int _ _|exact .bool _
 ·exact .int _ _
variable (G:Nat→Option (List AVal))
section
variable {Y:Heap} {n m v:Nat} {s:PS} {l:List Ky}
theorem ol(hI:s.Inv)(hk:VK l s)(c:Cu)(N:Nat)(hN:1≤N∧N≤100)(hn:n+9≤m)(hm:m+2≤Y.length):Sat (CT G) 31 [.hp m 0 0 0,.hp (n+8) 0 0 0,qN 1,c.av,.int .i64 N] (sv Y n s m v l)
  (fun r h'=>r=.tup [pgA c ((l.drop (fromK l c)).filter fun k=>(lkM s.it k.i).isSome) N,.int .i64 0]∧h'=sv Y n s m v l):=by
 have hl:=hk.len hI
 have e:∀j,vo (so Y n s++j) m v l=sv (Y++j) n s m v l:=fun j=>by rw[aU (by omega), ← bU hn (by simp;omega)]
 have h0:=pP G (H:=so Y n s) (n:=m) (v:=v) hk.1 (by omega) (fun id=>(lkM s.it id).isSome) c (n+8) (by rw[aO (by omega)];omega) 1 0 [] [] N hN (by rw[aO (by omega)];exact hm)
  (fun j=>by rw[e];exact rX hn (by simp;omega)) (fun j=>by rw[e];exact cM G _) (fun j id=>by rw[e];exact og G hI id hn (by simp;omega))
 rw[← bU hn hm]at h0
 refine Sat.wk (ys:=[.hp m 0 0 0,.hp (n+8) 0 0 0,qA 1 0 [] [],c.av,.int .i64 N]) rfl (fun i x y hx hy=>?_) h0
 match i with
 |2=>simp at hx hy;subst hx;subst hy;exact j6 1
 |0=>simp at hx hy;subst hx;subst hy;exact Wk.refl _
 |1=>simp at hx hy;subst hx;subst hy;exact Wk.refl _
 |3=>simp at hx hy;subst hx;subst hy;exact Wk.refl _
 |4=>simp at hx hy;subst hx;subst hy;exact Wk.refl _
 |i+5=>simp at hx
theorem pQ(hI:s.Inv)(hk:VK l s)(item:Int)(hn:n+9≤m)(hm:m+2≤Y.length):Sat (CT G) 32 [.hp m 0 0 0,.hp (n+8) 0 0 0,qN 1,.int .i64 item] (sv Y n s m v l)
  (fun r h'=>r=.tup [.int .i64 (arF (fun id=>(lkM s.it id).isSome) l item).1,.int .i64 (arF (fun id=>(lkM s.it id).isSome) l item).2]∧h'=sv Y n s m v l):=by
 have hl:=hk.len hI
 have e:∀j,vo (so Y n s++j) m v l=sv (Y++j) n s m v l:=fun j=>by rw[aU (by omega), ← bU hn (by simp;omega)]
 have h0:=mW G (H:=so Y n s) (n:=m) (v:=v) (l:=l) (by omega) (fun id=>(lkM s.it id).isSome) (.hp (n+8) 0 0 0) item 1 0 [] [] (by rw[aO (by omega)];exact hm)
  (fun j=>by rw[e];exact cM G _) (fun j id=>by rw[e];exact og G hI id hn (by simp;omega))
 rw[← bU hn hm]at h0
 refine Sat.wk (ys:=[.hp m 0 0 0,.hp (n+8) 0 0 0,qA 1 0 [] [],.int .i64 item]) rfl (fun i x y hx hy=>?_) h0
 match i with
 |2=>simp at hx hy;subst hx;subst hy;exact j6 1
 |0=>simp at hx hy;subst hx;subst hy;exact Wk.refl _
 |1=>simp at hx hy;subst hx;subst hy;exact Wk.refl _
 |3=>simp at hx hy;subst hx;subst hy;exact Wk.refl _
 |i+4=>simp at hx
theorem qI(c:Cu)(hn:n+9≤m)(hm:m+2≤Y.length):Sat (CT G) 31 [.hp m 0 0 0,.hp (n+8) 0 0 0,qN 1,c.av,.int .i64 0] (sv Y n s m v l)
  (fun r h'=>r=.tup [pgZ,.int .i64 1]∧h'=sv Y n s m v l):=by
 refine Sat.wk (ys:=[.hp m 0 0 0,.hp (n+8) 0 0 0,qA 1 0 [] [],c.av,.int .i64 0]) rfl (fun i x y hx hy=>?_) ?_
 ·match i with
  |2=>simp at hx hy;subst hx;subst hy;exact j6 1
  |0=>simp at hx hy;subst hx;subst hy;exact Wk.refl _
  |1=>simp at hx hy;subst hx;subst hy;exact Wk.refl _
  |3=>simp at hx hy;subst hx;subst hy;exact Wk.refl _
  |4=>simp at hx hy;subst hx;subst hy;exact Wk.refl _
  |i+5=>simp at hx
 have df:∀i:Decidable False, @decide False i=false:=fun i=>by simp
 have dt:∀i:Decidable True, @decide True i=true:=fun i=>by simp
 have F:=F3 df dt @ax
 refine sb [.cell 10 68,.tmp 11] (fn:=Tryz.f31) Tryz.func31 ?_
 intro Q hQ
 refine wk F ?_
 refine kq F (cM G _) ?_
 refine ye hQ F ?_
 rw[← jV hn hm]
 exact Fin.plain (lu _ _) ⟨rfl,rfl⟩
theorem qJ(c:Cu)(hn:n+9≤m)(hm:m+2≤Y.length):Sat (CT G) 31 [.hp m 0 0 0,.hp (n+8) 0 0 0,qN 0,c.av,.int .i64 0] (sv Y n s m v l)
  (fun r h'=>r=.tup [pgZ,.int .i64 250]∧h'=sv Y n s m v l):=by
 refine Sat.wk (ys:=[.hp m 0 0 0,.hp (n+8) 0 0 0,qA 0 0 [] [],c.av,.int .i64 0]) rfl (fun i x y hx hy=>?_) ?_
 ·match i with
  |2=>simp at hx hy;subst hx;subst hy;exact j6 0
  |0=>simp at hx hy;subst hx;subst hy;exact Wk.refl _
  |1=>simp at hx hy;subst hx;subst hy;exact Wk.refl _
  |3=>simp at hx hy;subst hx;subst hy;exact Wk.refl _
  |4=>simp at hx hy;subst hx;subst hy;exact Wk.refl _
  |i+5=>simp at hx
 have df:∀i:Decidable False, @decide False i=false:=fun i=>by simp
 have dt:∀i:Decidable True, @decide True i=true:=fun i=>by simp
 have F:=F3 df dt @ax
 refine sb [.cell 10 68,.tmp 11] (fn:=Tryz.f31) Tryz.func31 ?_
 intro Q hQ
 refine wk F ?_
 refine kq F (kT G _) ?_
 refine ye hQ F ?_
 rw[← jV hn hm]
 exact Fin.plain (lu _ _) ⟨rfl,rfl⟩
end
def lv3:List Ev:=[⟨3,1,0,0,[117],[],[]⟩,⟨7,1,1,5,[97],[],[]⟩,⟨7,2,1,9,[98],[],[]⟩]
def lv3E:Ev:=⟨7,3,1,7,[99],[],[]⟩
def lv3S:PS:=lv3.foldl PS.step1 PS.z
def lv3T:PS:=lv3S.aft lv3E
theorem qK:L0.ck lv3E=true:=j5 (by kernel_rfl) rfl
theorem jY:lv3.foldl (PS.step L0) PS.z=lv3S:=by
 show(((PS.z.step L0 _).step L0 _).step L0 _)=_
 rw[iq (j5 (by kernel_rfl) rfl),iq (j5 (by kernel_rfl) rfl),iq (j5 (by kernel_rfl) rfl)]
 rfl
theorem ir:lv3S.ok L0 lv3E=true:=by unfold PS.ok;rw[qK];kernel_rfl
theorem dg:lv3S.Inv:=by rw[← jY];exact PS.Inv.z.fold lv3
theorem iT:lv3S.step L0 lv3E=lv3T:=by unfold PS.step;rw[ir];rfl
theorem fX:lv3T.Inv:=by rw[← iT];exact dg.step lv3E
def lv3L:List Ky:=[⟨9,2,1⟩,⟨7,3,1⟩,⟨5,1,1⟩]
def lv3a:It:=⟨1,1,5,[97],[],[],false,false,[]⟩
def lv3b:It:=⟨2,1,9,[98],[],[],false,false,[]⟩
def lv3c:It:=⟨3,1,7,[99],[],[],false,false,[]⟩
theorem om:lkM lv3T.it 1=some lv3a:=by kernel_rfl
theorem oo:lkM lv3T.it 2=some lv3b:=by kernel_rfl
theorem ot:lkM lv3T.it 3=some lv3c:=by kernel_rfl
theorem s8:lv3T.it.map (·.1)=[1,2,3]:=by kernel_rfl
theorem s9:VK lv3L lv3T:=by
 refine⟨?_,fun k=>⟨fun hk=>?_,?_⟩⟩
 ·unfold Sk lv3L;simp[ahd]
 ·simp only[lv3L,List.mem_cons,List.not_mem_nil,or_false]at hk
  rcases hk with rfl|rfl|rfl
  ·exact⟨2,_,oo,rfl⟩
  ·exact⟨3,_,ot,rfl⟩
  ·exact⟨1,_,om,rfl⟩
 ·rintro⟨id,t,ht,rfl⟩
  have hm:id∈lv3T.it.map (·.1):=pE.2 (by rw[ht];rfl)
  rw[s8]at hm
  simp only[List.mem_cons,List.not_mem_nil,or_false]at hm
  rcases hm with rfl|rfl|rfl
  ·rw[om]at ht;cases ht;simp[lv3L,lv3a,It.ky]
  ·rw[oo]at ht;cases ht;simp[lv3L,lv3b,It.ky]
  ·rw[ot]at ht;cases ht;simp[lv3L,lv3c,It.ky]
theorem sa:pgA ⟨0,0,false⟩ ((lv3L.drop (fromK lv3L ⟨0,0,false⟩)).filter fun k=>(lkM lv3T.it k.i).isSome) 2=.agg [.sl 1 [.int .i64 2,.int .i64 3],.int .i64 7,.int .i64 3,.bool true,.bool true]:=by kernel_rfl
theorem sf:pgA ⟨7,3,true⟩ ((lv3L.drop (fromK lv3L ⟨7,3,true⟩)).filter fun k=>(lkM lv3T.it k.i).isSome) 2=.agg [.sl 1 [.int .i64 1],.int .i64 5,.int .i64 1,.bool true,.bool false]:=by kernel_rfl
theorem sg:arF (fun id=>(lkM lv3T.it id).isSome) lv3L 3=(2,1):=by kernel_rfl
theorem sh:rkI (lv3L.map (·.i)) 1=3:=by kernel_rfl
theorem si:rkI (lv3L.map (·.i)) 4=0:=by kernel_rfl
@[go_sem] theorem Ba(h:Heap)(d1 i1 d2 i2:Int)(s1 s2:Bool):abin Tryz.prog h .eql 55 (.agg [.int .i64 d1,.int .i64 i1,.bool s1]) (.agg [.int .i64 d2,.int .i64 i2,.bool s2])=some (.bool (d1==d2&&(i1==i2&&s1==s2))):=by
 simp only[abin,go_sem,aeqL,aeq1, ↓reduceIte,Option.map_some,Option.some.injEq,AVal.bool.injEq]
theorem gW(a b:List Int)(d1 i1 d2 i2:Int)(s1 m1 s2 m2:Bool)(ha:a.length≤1000000)(hb:b.length≤1000000)(h:Heap):Sat (CT G) 35 [.agg [.sl 1 (a.map iA),.int .i64 d1,.int .i64 i1,.bool s1,.bool m1],.agg [.sl 1 (b.map iA),.int .i64 d2,.int .i64 i2,.bool s2,.bool m2]] h
  (fun r h'=>r=.bool (decide (a=b)&&((d1==d2&&(i1==i2&&s1==s2))&&m1==m2))∧h'=h):=by
 have hS:=eR G a b ha hb
 cases hab:decide (a=b)with
 |false=>
  rw[hab]at hS
  refine sb [.tmp 4] (fn:=Tryz.f35) Tryz.func35 ?_
  intro Q hQ
  refine wk trivial ?_
  refine kq trivial (hS _) ?_
  refine ee hQ trivial ?_
  exact Fin.plain (.bool _) ⟨rfl,rfl⟩
 |true=>
  rw[hab]at hS
  refine sb [.tmp 4] (fn:=Tryz.f35) Tryz.func35 ?_
  intro Q hQ
  refine wk trivial ?_
  refine kq trivial (hS _) ?_
  cases hcu:(d1==d2&&(i1==i2&&s1==s2))with
  |false=>
   have F:=hcu
   try refine sq F ?_
   refine wk F ?_
   refine ee hQ F ?_
   exact Fin.plain (.bool _) ⟨by simp,rfl⟩
  |true=>
   have F:=hcu
   try refine sq F ?_
   refine wk F ?_
   refine ee hQ F ?_
   exact Fin.plain (.bool _) ⟨by simp,rfl⟩
theorem dB(h:Heap):Sat (CT G) 23 [] h (fun r h'=>r=.bool true∧h'=h):=by
 have hF:=fun h=>iP G lv3 (by decide) h
 rw[jY]at hF
 have hz9:(PS.z.bl h.length).length=9:=rfl
 have hfh:=hF h
 generalize hH:h++PS.z.bl h.length=H0 at hfh
 have hl0:H0.length=h.length+9:=by rw[← hH];simp[hz9]
 have hnw:=pT G dg (H:=H0) (n:=h.length) (by omega)
 have kc0:=VK.new dg
 generalize srtK (lv3S.tell.it.map It.ky)=c0 at hnw kc0
 generalize lv3S.tell.it.length=v0 at hnw
 generalize hWw:H0++vb H0.length 0 []=W0 at hnw
 have hlW:W0.length=H0.length+2:=by rw[← hWw];simp[vb]
 have hpre:∃j,W0=h++j:=⟨PS.z.bl h.length++vb H0.length 0 [],by rw[← hWw, ← hH,List.append_assoc]⟩
 generalize H0.length=m at*
 have hn:h.length+9≤m:=by omega
 have hap:=fun(W:Heap) (hm:m+2≤W.length)=>lr G (Y:=W) (n:=h.length) (m:=m) (v:=v0) (l:=c0) dg lv3E hn hm
 rw[iT,ir]at hap
 have hst:=fun(W:Heap) (hm:m+2≤W.length)=>od G (Y:=W) (n:=h.length) (m:=m) (v:=v0) kc0 dg lv3E ir hn hm
 refine sb [.tmp 0] (fn:=Tryz.f23) Tryz.func23 ?_
 intro Q hQ
 refine wk trivial ?_
 refine kq trivial (hfh) ?_
 refine kq trivial (hnw) ?_
 refine kq trivial (hap _ (by first|omega| (simp;omega))) ?_
 refine(hst _ (by first|omega| (simp;omega))).mono ?_
 rintro r h' ⟨rfl,u,L,kd,rfl⟩
 change VK L lv3T at kd
 obtain rfl:=kd.uniq s9
 have hp1:=fun(W:Heap) (hm:m+2≤W.length)=>ol G (Y:=W) (n:=h.length) (m:=m) (v:=u) fX kd ⟨0,0,false⟩ 2 (by omega) hn hm
 have hp2:=fun(W:Heap) (hm:m+2≤W.length)=>ol G (Y:=W) (n:=h.length) (m:=m) (v:=u) fX kd ⟨7,3,true⟩ 2 (by omega) hn hm
 have har:=fun(W:Heap) (hm:m+2≤W.length)=>pQ G (Y:=W) (n:=h.length) (m:=m) (v:=u) fX kd 3 hn hm
 have hal:=fun(W:Heap) (hm:m+2≤W.length)=>pU G (Y:=W) (n:=h.length) (m:=m) (v:=u) (s:=lv3T) (l:=lv3L) (by decide) hn hm
 have hr1:=fun(W:Heap) (hm:m+2≤W.length)=>jW G (Y:=W) (n:=h.length) (m:=m) (v:=u) (s:=lv3T) (l:=lv3L) (by decide) 1 hn hm
 have hr4:=fun(W:Heap) (hm:m+2≤W.length)=>jW G (Y:=W) (n:=h.length) (m:=m) (v:=u) (s:=lv3T) (l:=lv3L) (by decide) 4 hn hm
 rw[sa]at hp1
 rw[sf]at hp2
 rw[sg]at har
 rw[sh]at hr1
 rw[si]at hr4
 have hs0:=eR G [2,3,1] [2,3,1] (by decide) (by decide)
 have hs1:=gW G [2,3] [2,3] 7 3 7 3 true true true true (by decide) (by decide)
 have hs2:=gW G [1] [1] 5 1 5 1 true false true false (by decide) (by decide)
 rw[decide_eq_true (rfl:([2,3,1]:List Int)=[2,3,1])]at hs0
 rw[show(decide (([2,3]:List Int)=[2,3])&&(((7:Int)==7&&((3:Int)==3&&true==true))&&true==true))=true from by decide]at hs1
 rw[show(decide (([1]:List Int)=[1])&&(((5:Int)==5&&((1:Int)==1&&true==true))&&false==false))=true from by decide]at hs2
 have hmm:∀q:Heap,m+2≤(W0++q).length:=fun q=>by simp;omega
 try refine sq trivial ?_
 refine wk trivial ?_
 refine kq trivial (hp1 _ (hmm _)) ?_
 refine kq trivial (hp2 _ (hmm _)) ?_
 refine kq trivial (qI G (Y:=W0++_) (n:=h.length) (m:=m) (v:=u) (s:=lv3T) (l:=lv3L) ⟨0,0,false⟩ hn (hmm _)) ?_
 refine kq trivial (qJ G (Y:=W0++_) (n:=h.length) (m:=m) (v:=u) (s:=lv3T) (l:=lv3L) ⟨0,0,false⟩ hn (hmm _)) ?_
 refine kq trivial (har _ (hmm _)) ?_
 refine kq trivial (hal _ (hmm _)) ?_
 refine kq trivial (hs0 _) ?_
 refine kq trivial (hr1 _ (hmm _)) ?_
 refine kq trivial (hr4 _ (hmm _)) ?_
 refine kq trivial (hs1 _) ?_
 refine kq trivial (hs2 _) ?_
 refine ee hQ trivial ?_
 obtain⟨j0,hj0⟩:=hpre
 exact o9 hn (hmm _) ⟨j0++_,by rw[hj0,List.append_assoc]⟩ (Nat.le_refl _) ⟨rfl,rfl⟩
end Go.Av
namespace Go.Av
open Go Go.Proofs Go.RowKit
attribute [local irreducible] WP WPl WPix Sat
variable (G:Nat→Option (List AVal))
theorem VK.vw{l:List Ky}{s:PS}(h:s.Inv)(k:VK l s):s.tell.vw=l.map (·.i):=by rw[k.uniq (VK.new h)];rfl
theorem jZ(es ms:List Ev)(item:Int)(h:Heap):Sat (CT G) 8 [.sl 7 (es.map Ev.av),.sl 7 (ms.map Ev.av),.int .i64 item] h (fun r h'=>r=.bool true∧h'=h):=by
 have hLg:=dq G es
 have hMg:=dq G ms
 cases hlg:lgF es with
 |true=>
  rw[hlg]at hLg
  refine sb [.tmp 6] (fn:=Tryz.f8) Tryz.func8 ?_
  intro Q hQ
  refine wk trivial ?_
  refine kq trivial (hLg _) ?_
  refine kq trivial (dB G _) ?_
  refine ee hQ trivial ?_
  exact Fin.same (.bool _) ⟨rfl,rfl⟩
 |false=>
 cases hmg:lgF ms with
 |true=>
  rw[hlg]at hLg
  rw[hmg]at hMg
  refine sb [.tmp 6] (fn:=Tryz.f8) Tryz.func8 ?_
  intro Q hQ
  refine wk trivial ?_
  refine kq trivial (hLg _) ?_
  refine kq trivial (hMg _) ?_
  refine kq trivial (dB G _) ?_
  refine ee hQ trivial ?_
  exact Fin.same (.bool _) ⟨rfl,rfl⟩
 |false=>
  rw[hlg]at hLg
  rw[hmg]at hMg
  have hel:es.length≤150:=by
   unfold lgF at hlg
   rw[Bool.or_eq_false_iff]at hlg
   have:=hlg.1
   simp only[decide_eq_false_iff_not]at this
   omega
  have hmel:ms.length≤150:=by
   unfold lgF at hmg
   rw[Bool.or_eq_false_iff]at hmg
   have:=hmg.1
   simp only[decide_eq_false_iff_not]at this
   omega
  have hI0:(es.foldl (PS.step L0) PS.z).Inv:=PS.Inv.z.fold es
  have hfh:=iP G es (by omega) h
  generalize es.foldl (PS.step L0) PS.z=s0 at hI0 hfh
  have hz9:(PS.z.bl h.length).length=9:=rfl
  generalize hH:h++PS.z.bl h.length=H0 at hfh
  have hl0:H0.length=h.length+9:=by rw[← hH];simp[hz9]
  have hnw:=pT G hI0 (H:=H0) (n:=h.length) (by omega)
  have kc0:=VK.new hI0
  generalize srtK (s0.tell.it.map It.ky)=c0 at hnw kc0
  generalize s0.tell.it.length=v0 at hnw
  generalize hWw:H0++vb H0.length 0 []=W0 at hnw
  have hlW:W0.length=H0.length+2:=by rw[← hWw];simp[vb]
  have hpre:∃j,W0=h++j:=⟨PS.z.bl h.length++vb H0.length 0 [],by rw[← hWw, ← hH,List.append_assoc]⟩
  generalize H0.length=m at*
  have hn:h.length+9≤m:=by omega
  have hm0:m+2≤W0.length:=by omega
  have hml:(ms.map Ev.av).length=ms.length:=List.length_map ..
  have F:=hml
  refine sb [.tmp 6] (fn:=Tryz.f8) Tryz.func8 ?_
  intro Q hQ
  refine wk F ?_
  refine kq F (hLg _) ?_
  refine kq F (hMg _) ?_
  refine kq F (hfh) ?_
  refine kq F (hnw) ?_
  refine kq F (dB G _) ?_
  refine lm (fun nL tL hL=>∃(k:Nat) (s:PS) (l:List Ky) (v:Nat) (j:Heap),ms.length-k=nL∧sv (W0++j) h.length s m v l=hL∧tL 1=.sl 7 (ms.map Ev.av)∧tL 7=.hp (h.length+8) 0 0 0∧tL 8=.hp m 0 0 0∧tL 9=.int .i64 k∧k≤ms.length∧s.Inv∧VK l s) ((fun(k:Nat) (s:PS) (l:List Ky) (v:Nat) (j:Heap)=>(ms.length-k:Nat)) (0) (s0) (c0) (v0) ([])) ?_ ?_
  ·refine Wkn.refl ⟨0,s0,c0,v0,[],rfl,by rw[List.append_nil],?_,?_,?_,?_,by omega,hI0,kc0⟩
   all_goals first|exact zq F|rfl|omega|trivial|skip
  rintro _ s2 h' ⟨k,s,l,v,j,rfl,rfl,e1,e7,e8,e9,hk,hI,kc⟩ K2 hK2
  simp only[aj,ak,Nat.reduceEqDiff, ↓reduceIte]at e1 e7 e8 e9
  have F:=F5 F e1 e7 e8 e9
  refine wk F ?_
  have hmj0:m+2≤(W0++j).length:=by simp;omega
  refine cq F (fun c1=>?_) (fun c1=>?_)<;>(try exact c1.elim)<;>(refine wk F ?_)
  ·have c2:k<ms.length:=by omega
   obtain⟨e,he,_⟩:=ah c2
   have hap:=lr G (Y:=W0++j) (n:=h.length) (m:=m) (v:=v) (l:=l) hI e hn hmj0
   have hI2:=hI.step (L:=L0) e
   cases hok:s.ok L0 e with
   |false=>
    have hst:s.step L0 e=s:=by unfold PS.step;rw[hok];rfl
    rw[hst,hok]at hap
    have F:=F3 F c2 he
    try refine sq F ?_
    refine wk F ?_
    refine kq F (hap) ?_
    refine hK2 _ _ _ (Wkn.refl ⟨k+1,s,l,v,j,rfl,rfl,?_,?_,?_,?_,by omega,hI,kc⟩) (by omega)
    all_goals first|exact zq F|rfl|omega|trivial|skip
   |true=>
    have hst:s.step L0 e=s.aft e:=by unfold PS.step;rw[hok];rfl
    rw[hst]at hI2
    rw[hst,hok]at hap
    have hsp:=od G (Y:=W0++j) (v:=v) kc hI e hok hn hmj0
    have F:=F3 F c2 he
    try refine sq F ?_
    refine wk F ?_
    refine kq F (hap) ?_
    refine hsp.mono ?_
    rintro r h' ⟨rfl,u,L,kd,rfl⟩
    have hLl:=kd.len hI2
    have hte:=rZ G (Y:=W0++j) (n:=h.length) (m:=m) (v:=u) (l:=L) hI2 hn hmj0
    have hal:=fun(Y:Heap) (hm:m+2≤Y.length)=>pU G (Y:=Y) (n:=h.length) (m:=m) (v:=u) (s:=s.aft e) (l:=L) (by omega) hn hm
    have hrk:=fun(Y:Heap) (hm:m+2≤Y.length)=>jW G (Y:=Y) (n:=h.length) (m:=m) (v:=u) (s:=s.aft e) (l:=L) (by omega) item hn hm
    have htl:(s.aft e).tell.it.length≤100000:=by have:=fW (z:=It.z) (s.aft e).it;have:=hI2.l3;show(valsM It.z (s.aft e).it).length≤_;omega
    have hra:=iR G (s.aft e).tell (gP hI2) htl
    have hrr:=mS G (s.aft e).tell (gP hI2) htl item
    rw[kd.vw hI2]at hra hrr
    have hsm:=eR G (L.map (·.i)) (L.map (·.i)) (by simp;omega) (by simp;omega)
    rw[decide_eq_true (rfl:L.map (·.i)=L.map (·.i))]at hsm
    try refine sq F ?_
    refine wk F ?_
    refine kq F (hte) ?_
    refine au (hal _ (by simp;omega)) ?_
    try refine sq F ?_
    refine wk F ?_
    refine au (hra _) ?_
    try refine sq F ?_
    refine wk F ?_
    refine au (hsm _) ?_
    try refine sq F ?_
    refine wk F ?_
    refine au (hrk _ (by simp;omega)) ?_
    try refine sq F ?_
    refine wk F ?_
    refine au (hrr _) ?_
    try refine sq F ?_
    refine wk F ?_
    refine cq F (fun c5=>?_) (fun c5=>?_)<;>(try exact c5.elim)<;>(refine wk F ?_)
    ·exact absurd trivial c5
    ·refine hK2 _ _ _ (Wkn.refl ⟨k+1,s.aft e,L,u,j++[.row 34 9 0 [(s.aft e).tell.av]],rfl,rfl,?_,?_,?_,?_,by omega,hI2,kd⟩) (by omega)
     all_goals first|exact zq F|rfl|omega|trivial|skip
  ·refine ee hQ F ?_
   obtain⟨j0,hj0⟩:=hpre
   exact o9 hn hmj0 ⟨j0++j,by rw[hj0,List.append_assoc]⟩ (Nat.le_refl _) ⟨rfl,rfl⟩
end Go.Av
