/- Pages of a view. -/
import Derived.Test.YtljpbjilgehfgaaGreatMgNn
set_option linter.unusedSimpArgs false
set_option linter.unusedVariables false
set_option linter.unusedSectionVars false
set_option linter.unnecessarySimpa false
set_option maxRecDepth 100000
set_option maxHeartbeats 16000000
namespace Go.Av
open Go Go.Proofs Go.RowKit
attribute [local irreducible] WP WPl WPix Sat
section
variable {s:PS} {e:Ev}
end
variable (G:Nat→Option (List AVal))
end Go.Av
namespace Go.Av
open Go Go.Proofs Go.RowKit
attribute [local irreducible] WP WPl WPix Sat
section
variable {H H':Heap} {n0 e n:Nat} {rows:List AVal} {v:AVal}
end
section
variable {C:Ctx}
end
end Go.Av
namespace Go.Av
open Go Go.Proofs Go.RowKit
attribute [local irreducible] WP WPl WPix Sat
variable (G:Nat→Option (List AVal))
end Go.Av
namespace Go.Av
open Go Go.Proofs Go.RowKit
attribute [local irreducible] WP WPl WPix Sat
variable (G:Nat→Option (List AVal))
end Go.Av
namespace Go.Av
open Go Go.Proofs Go.RowKit
theorem uK{l:List Int}(h:l.Nodup):(sortI l).Pairwise (· < ·):=by
 have h1:(sortI l).Pairwise fun a b=>decide (a≤b)=true:=List.pairwise_mergeSort (fun a b c h1 h2=>by simp at *;omega) (fun a b=>by simp;omega) l
 have h2:(sortI l).Nodup:=nw h
 refine List.Pairwise.imp₂ (R:=fun a b=>decide (a≤b)=true) (S:=fun a b=>a≠b) (fun a b hab hne=>?_) h1 h2
 simp at hab;omega
section
variable {α:Type} {z:α} {key:α→Int} {l:ML Int α} {c:Nat}
theorem uL(w:WFM l c)(hid:∀k a,lkM l k=some a→key a=k):((valsM z l).map key).Pairwise (· < ·):=by
 rw[tQ w key hid];exact uK w.keys
end
end Go.Av
namespace Go.Av
open Go Go.Proofs Go.RowKit
def VK(l:List Ky)(s:PS):Prop:=Sk l∧∀k,k∈l↔∃id t,lkM s.it id=some t∧k=t.ky
theorem VK.uniq{l L:List Ky}{s:PS}(h:VK l s)(k:VK L s):l=L:=h.1.uniq k.1 fun x=>by rw[h.2,k.2]
theorem jA{s:PS}(h:s.Inv):(s.tell.it.map (·.id)).Nodup:=
 (uL (z:=It.z) h.w3 fun k a hk=>(h.i3 k a hk).1).imp fun hab e=>by omega
theorem VK.new{s:PS}(h:s.Inv):VK (srtK (s.tell.it.map It.ky)) s:=by
 have hd:((s.tell.it.map It.ky).map (·.i)).Nodup:=by
  rw[List.map_map];exact jA h
 refine⟨fp hd,fun k=>?_⟩
 rw[iD hd,List.mem_map]
 constructor
 ·rintro⟨t,ht,rfl⟩
  obtain⟨id,hid⟩:=mn (z:=It.z) ht
  exact⟨id,t,hid,rfl⟩
 ·rintro⟨id,t,ht,rfl⟩
  exact⟨t,mq (z:=It.z) ht,rfl⟩
theorem VK.len{l:List Ky}{s:PS}(h:s.Inv)(k:VK l s):l.length≤1024:=by
 rw[k.uniq (VK.new h)]
 have e:(srtK (s.tell.it.map It.ky)).length=s.tell.it.length:=by unfold srtK;rw[kO];simp
 rw[e]
 have:=eh (z:=It.z) s.it
 have:=h.l3
 show(valsM It.z s.it).length≤1024
 omega
theorem VK.same{l:List Ky}{s s':PS}(k:VK l s)(h:∀id,(lkM s'.it id).map It.ky=(lkM s.it id).map It.ky):VK l s':=by
 refine⟨k.1,fun x=>?_⟩
 rw[k.2]
 have e:∀{a b:PS},(∀id,(lkM a.it id).map It.ky=(lkM b.it id).map It.ky)→(∃id t,lkM a.it id=some t∧x=t.ky)→∃id t,lkM b.it id=some t∧x=t.ky:=by
  rintro a b hab ⟨id,t,ht,rfl⟩
  have:=hab id
  rw[ht]at this
  obtain⟨t',ht',he⟩:=Option.map_eq_some_iff.1 this.symm
  exact⟨id,t',ht',he.symm⟩
 exact⟨e fun id=>(h id).symm,e h⟩
theorem VK.up{l:List Ky}{s s':PS}(k:VK l s){id:Int}{c:Nat}{t:It}(h:s'.it=upM s.it c id t)(hs:(lkM s.it id).isSome=true)(ht:t.ky=((lkM s.it id).getD It.z).ky):VK l s':=by
 refine k.same fun x=>?_
 rw[h,cc]
 split
 ·rename_i e
  subst e
  obtain⟨a,ha⟩:=Option.isSome_iff_exists.1 hs
  rw[ha]at ht ⊢
  simpa using ht
 ·rfl
theorem VK.step{l:List Ky}{s:PS}(h:s.Inv)(k:VK l s)(e:Ev)(hok:s.ok L0 e=true):
  VK (VStepF l e ((lkM (s.aft e).it e.a).getD It.z) (lkM (s.aft e).it e.a).isSome) (s.aft e):=by
 have hit:=mL s e
 have hf:=hok
 unfold PS.ok PS.fits at hf
 rw[Bool.and_eq_true]at hf
 have hf:=hf.2
 unfold VStepF
 by_cases k7:e.kind=7
 ·rw[if_pos k7]
  rw[if_neg (by omega),if_pos k7]at hit
  rw[if_neg (by omega),if_neg (by omega),if_neg (by omega),if_neg (by omega),if_neg (by omega),if_pos k7]at hf
  simp only[Bool.and_eq_true,Bool.not_eq_true']at hf
  have hn:=ka hf.1.1.1
  have hl:lkM (s.aft e).it e.a=some ⟨e.a,e.b,e.n,e.s,e.t,e.u,false,false,[]⟩:=by rw[hit,cc,if_pos rfl]
  rw[hl]
  simp only[Option.getD_some,Option.isSome_some,if_true]
  refine⟨lZ k.1 fun x hx=>?_,fun x=>?_⟩
  ·obtain⟨id,t,ht,rfl⟩:=(k.2 x).1 hx
   have h1:=(h.i3 id t ht).1
   show t.id≠e.a
   rw[h1]
   intro e2
   rw[e2,hn]at ht;cases ht
  ·rw[iC,k.2,hit]
   constructor
   ·rintro(rfl| ⟨id,t,ht,rfl⟩)
    ·exact⟨e.a,_,by rw[cc,if_pos rfl],rfl⟩
    ·refine⟨id,t,?_,rfl⟩
     rw[cc,if_neg (fun e2=>by rw[e2,hn]at ht;cases ht)];exact ht
   ·rintro⟨id,t,ht,rfl⟩
    rcases aK ht with⟨rfl,rfl⟩| ⟨_,ht⟩
    ·exact .inl rfl
    ·exact .inr ⟨id,t,ht,rfl⟩
 rw[if_neg k7]
 by_cases k4:e.kind=4
 ·rw[if_pos k4]
  rw[if_pos k4]at hit
  rw[if_neg (by omega),if_neg (by omega),if_neg (by omega),if_pos (.inl k4)]at hf
  obtain⟨f,hfe⟩:=Option.isSome_iff_exists.1 hf
  have hid:((lkM s.fe e.a).getD Fe.z).id=e.a:=by rw[hfe];exact(h.i2 _ _ hfe).1
  rw[hid]at hit
  refine⟨k.1.fil _,fun x=>?_⟩
  rw[List.mem_filter,k.2,hit]
  unfold itF
  constructor
  ·rintro⟨⟨id,t,ht,rfl⟩,hx⟩
   refine⟨id,t,?_,rfl⟩
   rw[kQ h.w3.keys (fun t=> !decide (t.feed=e.a)),ht]
   exact Option.filter_some.trans (by rw[if_pos];exact hx)
  ·rintro⟨id,t,ht,rfl⟩
   rw[kQ h.w3.keys (fun t=> !decide (t.feed=e.a))]at ht
   obtain⟨h1,h2⟩:=Option.filter_eq_some_iff.1 ht
   exact⟨⟨id,t,h1,rfl⟩,h2⟩
 rw[if_neg k4]
 rw[if_neg k4,if_neg k7]at hit
 by_cases k8:e.kind=8
 ·rw[if_pos k8]at hit
  rw[if_neg (by omega),if_neg (by omega),if_neg (by omega),if_neg (by omega),if_neg (by omega),if_neg (by omega),if_pos (.inl k8)]at hf
  exact k.up hit hf rfl
 rw[if_neg k8]at hit
 by_cases k9:e.kind=9
 ·rw[if_pos k9]at hit
  rw[if_neg (by omega),if_neg (by omega),if_neg (by omega),if_neg (by omega),if_neg (by omega),if_neg (by omega),if_pos (.inr k9)]at hf
  exact k.up hit hf rfl
 rw[if_neg k9]at hit
 by_cases k10:e.kind=10
 ·rw[if_pos k10]at hit
  rw[if_neg (by omega),if_neg (by omega),if_neg (by omega),if_neg (by omega),if_neg (by omega),if_neg (by omega),if_neg (by omega),if_pos k10,Bool.and_eq_true]at hf
  exact k.up hit hf.1 rfl
 rw[if_neg k10]at hit
 exact k.same fun id=>by rw[hit]
end Go.Av
namespace Go.Av
open Go Go.Proofs Go.RowKit
attribute [local irreducible] WP WPl WPix Sat
variable (G:Nat→Option (List AVal))
end Go.Av
namespace Go.Av
open Go Go.Proofs Go.RowKit
attribute [local irreducible] WP WPl WPix Sat
def rkI(l:List Int)(id:Int):Int:=match l.findIdx? (fun x=>decide (x=id))with
 |some k=>(k:Int)+1
 |none=>0
theorem xN(l:List Ky)(id:Int):ixK (fun k=>decide (k.i=id)) l+1=rkI (l.map (·.i)) id:=by
 unfold ixK rkI
 have e:(l.map (·.i)).findIdx? (fun x=>decide (x=id))=l.findIdx? (fun k=>decide (k.i=id)):=by rw[List.findIdx?_map];rfl
 rw[e]
 cases l.findIdx? (fun k=>decide (k.i=id))<;>rfl
variable (G:Nat→Option (List AVal))
theorem gF(a b:List Int)(ha:a.length≤1000000)(hb:b.length≤1000000)(h:Heap):Sat (CT G) 24 [.sl 1 (a.map iA),.sl 1 (b.map iA)] h (fun r h'=>r=.bool (decide (a=b))∧h'=h):=by
 have hal:(a.map iA).length=a.length:=List.length_map ..
 have hbl:(b.map iA).length=b.length:=List.length_map ..
 by_cases hlen:a.length=b.length
 ·have hne:((a.length:Int) != (b.length:Int))=false:=by simp[hlen]
  have F:=F3 hal hbl hne
  refine sb [.tmp 4] (fn:=Tryz.f24) Tryz.func24 ?_
  intro Q hQ
  refine wk F ?_
  refine lm (fun nL tL hL=>∃(k:Nat),a.length-k=nL∧h=hL∧tL 5=.int .i64 k∧k≤a.length∧a.take k=b.take k) ((fun(k:Nat)=>(a.length-k:Nat)) (0)) ?_ ?_
  ·refine Wkn.refl ⟨0,rfl,aA,?_,by omega,rfl⟩
   all_goals first|exact zq F|rfl|omega|trivial|skip
  rintro _ s2 h' ⟨k,rfl,rfl,e5,hk,hp⟩ K2 hK2
  simp only[ai,aj,Nat.reduceEqDiff, ↓reduceIte]at e5
  have F:=F2 F e5
  refine wk F ?_
  refine cq F (fun c1=>?_) (fun c1=>?_)<;>(try exact c1.elim)<;>(refine wk F ?_)
  ·have c2:k<a.length:=by omega
   have c3:k<b.length:=by omega
   obtain⟨x,hx,_⟩:=ae c2
   obtain⟨y,hy,_⟩:=ae c3
   have F:=F5 F hx hy c2 c3
   try refine sq F ?_
   refine wk F ?_
   refine cq F (fun c4=>?_) (fun c4=>?_)<;>(try exact c4.elim)<;>(refine wk F ?_)
   ·have e:a≠b:=by rintro rfl;rw[hx]at hy;cases hy;exact c4 rfl
    refine ee hQ (F8 hal hbl hne e5 hx hy c2 c3) ?_
    exact Fin.same (.bool _) ⟨by rw[decide_eq_false e],rfl⟩
   ·have hp1:a.take (k+1)=b.take (k+1):=by rw[List.take_add_one,List.take_add_one,hx,hy,hp,c4]
    refine hK2 _ _ _ (Wkn.refl ⟨k+1,rfl,aA,?_,by omega,hp1⟩) (by omega)
    all_goals first|exact zq F|rfl|omega|trivial|skip
  ·have e:a=b:=by
    have:=hp
    rwa [List.take_of_length_le (by omega),List.take_of_length_le (by omega)]at this
   refine ee hQ F ?_
   exact Fin.same (.bool _) ⟨by rw[decide_eq_true e],rfl⟩
 ·have hne:((a.length:Int) != (b.length:Int))=true:=by simp;omega
  have e:a≠b:=by rintro rfl;exact hlen rfl
  have F:=F3 hal hbl hne
  refine sb [.tmp 4] (fn:=Tryz.f24) Tryz.func24 ?_
  intro Q hQ
  refine wk F ?_
  refine ee hQ F ?_
  exact Fin.same (.bool _) ⟨by rw[decide_eq_false e],rfl⟩
end Go.Av
namespace Go.Av
open Go Go.Proofs Go.RowKit
attribute [local irreducible] WP WPl WPix Sat
abbrev qL(op:Int):AVal:=.agg [.int .i64 op,.int .i64 0,.str [],.sl 4 []]
variable (G:Nat→Option (List AVal))
theorem qb(op:Int)(h:Heap):Sat (CT G) 133 [qL op,.int .i64 1] h (fun r h'=>r=.int .i64 1∧h'=h):=by
 have df:∀i:Decidable False, @decide False i=false:=fun i=>by simp
 have F:=df
 refine sb [.tmp 4] (fn:=Tryz.f133) Tryz.func133 ?_
 intro Q hQ
 refine wk F ?_
 refine lm (fun nL tL hL=>∃(k:Nat),0-k=nL∧h++[.row 25 4 0 [qL op]]=hL∧tL 15=.int .i64 k∧tL 5=.int .i64 1∧k≤0) ((fun(k:Nat)=>(0-k:Nat)) (0)) ?_ ?_
 ·refine Wkn.refl ⟨0,rfl,aA,?_,?_,Nat.le_refl 0⟩
  all_goals first|exact zq F|rfl|omega|trivial|skip
 rintro _ s2 h' ⟨k,rfl,rfl,e15,e5,hk⟩ K2 hK2
 simp only[ai,aj,Nat.reduceEqDiff, ↓reduceIte]at e15 e5
 have F:=F3 F e15 e5
 refine wk F ?_
 refine cq F (fun c1=>?_) (fun c1=>?_)<;>(try exact c1.elim)<;>(refine wk F ?_)
 ·exact absurd c1 (by omega)
 refine ee hQ F ?_
 exact Fin.plain (.int _ _) ⟨rfl,rfl⟩
theorem mN(op:Int)(h:Heap):Sat (CT G) 77 [qL op] h (fun r h'=>r=.int .i64 1∧h'=h):=by
 refine sb [.tmp 2] (fn:=Tryz.f77) Tryz.func77 ?_
 intro Q hQ
 refine wk trivial ?_
 refine kq trivial (qb G op _) ?_
 refine ee hQ trivial ?_
 exact Fin.plain (.int _ _) ⟨rfl,rfl⟩
theorem jB(op:Int)(h:Heap):Sat (CT G) 78 [qL op] h (fun r h'=>r=.int .i64 1∧h'=h):=by
 refine sb [.tmp 2] (fn:=Tryz.f78) Tryz.func78 ?_
 intro Q hQ
 refine wk trivial ?_
 refine lm (fun nL tL hL=>∃(k:Nat),0-k=nL∧h++[.row 25 4 0 [qL op]]=hL∧tL 9=.int .i64 k∧tL 3=.int .i64 1∧k≤0) ((fun(k:Nat)=>(0-k:Nat)) (0)) ?_ ?_
 ·refine Wkn.refl ⟨0,rfl,aA,?_,?_,Nat.le_refl 0⟩
  all_goals first|exact zq trivial|rfl|omega|trivial|skip
 rintro _ s2 h' ⟨k,rfl,rfl,e9,e3,hk⟩ K2 hK2
 simp only[ai,aj,Nat.reduceEqDiff, ↓reduceIte]at e9 e3
 have F:=F2 e9 e3
 refine wk F ?_
 refine cq F (fun c1=>?_) (fun c1=>?_)<;>(try exact c1.elim)<;>(refine wk F ?_)
 ·exact absurd c1 (by omega)
 refine ee hQ F ?_
 exact Fin.plain (.int _ _) ⟨rfl,rfl⟩
theorem wc(f:AVal)(h:Heap):Sat (CT G) 142 [.sl 4 [],f] h (fun r h'=>r=.int .i64 (-1)∧h'=h):=by
 have df:∀i:Decidable False, @decide False i=false:=fun i=>by simp
 have F:=df
 refine sb [.tmp 4] (fn:=Tryz.f142) Tryz.func142 ?_
 intro Q hQ
 refine wk F ?_
 refine lm (fun nL tL hL=>∃(k:Nat),0-k=nL∧h=hL∧tL 8=.int .i64 k∧k≤0) ((fun(k:Nat)=>(0-k:Nat)) (0)) ?_ ?_
 ·refine Wkn.refl ⟨0,rfl,aA,?_,Nat.le_refl 0⟩
  all_goals first|exact zq F|rfl|omega|trivial|skip
 rintro _ s2 h' ⟨k,rfl,rfl,e8,hk⟩ K2 hK2
 simp only[ai,aj,Nat.reduceEqDiff, ↓reduceIte]at e8
 have F:=F2 F e8
 refine wk F ?_
 refine cq F (fun c1=>?_) (fun c1=>?_)<;>(try exact c1.elim)<;>(refine wk F ?_)
 ·exact absurd c1 (by omega)
 refine ee hQ F ?_
 exact Fin.same (.int _ _) ⟨rfl,rfl⟩
theorem uM(f:AVal)(h:Heap):Sat (CT G) 89 [.sl 4 [],f] h (fun r h'=>r=.bool false∧h'=h):=by
 have df:∀i:Decidable False, @decide False i=false:=fun i=>by simp
 have F:=df
 refine sb [.tmp 4] (fn:=Tryz.f89) Tryz.func89 ?_
 intro Q hQ
 refine wk F ?_
 refine kq F (wc G f _) ?_
 refine ee hQ F ?_
 exact Fin.same (.bool _) ⟨rfl,rfl⟩
theorem uN(h:Heap):Sat (CT G) 134 [qL 1] h (fun r h'=>r=.bool true∧h'=h):=by
 refine sb [.tmp 2] (fn:=Tryz.f134) Tryz.func134 ?_
 intro Q hQ
 refine wk trivial ?_
 refine ee hQ trivial ?_
 exact Fin.plain (.bool _) ⟨rfl,rfl⟩
theorem s9(h:Heap):Sat (CT G) 135 [qL 1] h (fun r h'=>r=.bool true∧h'=h):=by
 refine sb [.tmp 2] (fn:=Tryz.f135) Tryz.func135 ?_
 intro Q hQ
 refine wk trivial ?_
 refine ee hQ trivial ?_
 exact Fin.plain (.bool _) ⟨rfl,rfl⟩
theorem sf(h:Heap):Sat (CT G) 136 [qL 1] h (fun r h'=>r=.bool true∧h'=h):=by
 refine sb [.tmp 2] (fn:=Tryz.f136) Tryz.func136 ?_
 intro Q hQ
 refine wk trivial ?_
 refine ee hQ trivial ?_
 exact Fin.plain (.bool _) ⟨rfl,rfl⟩
theorem qc(h:Heap):Sat (CT G) 79 [qL 1] h (fun r h'=>r=.bool true∧h'=h):=by
 have df:∀i:Decidable False, @decide False i=false:=fun i=>by simp
 have F:=df
 refine sb [.tmp 2] (fn:=Tryz.f79) Tryz.func79 ?_
 intro Q hQ
 refine wk F ?_
 refine kq F (uN G _) ?_
 refine kq F (s9 G _) ?_
 refine kq F (sf G _) ?_
 refine kq F (uM G _ _) ?_
 refine ee hQ F ?_
 exact Fin.plain (.bool _) ⟨rfl,rfl⟩
theorem nS(h:Heap):Sat (CT G) 79 [qL 0] h (fun r h'=>r=.bool false∧h'=h):=by
 have df:∀i:Decidable False, @decide False i=false:=fun i=>by simp
 have dt:∀i:Decidable True, @decide True i=true:=fun i=>by simp
 have F:=F2 df dt
 refine sb [.tmp 2] (fn:=Tryz.f79) Tryz.func79 ?_
 intro Q hQ
 refine wk F ?_
 refine ee hQ F ?_
 exact Fin.plain (.bool _) ⟨rfl,rfl⟩
theorem dE(h:Heap):Sat (CT G) 37 [qL 1] h (fun r h'=>r=.int .i64 0∧h'=h):=by
 have df:∀i:Decidable False, @decide False i=false:=fun i=>by simp
 have F:=df
 refine sb [.tmp 2] (fn:=Tryz.f37) Tryz.func37 ?_
 intro Q hQ
 refine wk F ?_
 refine kq F (mN G _ _) ?_
 refine kq F (jB G _ _) ?_
 refine kq F (qc G _) ?_
 refine ee hQ F ?_
 exact Fin.plain (.int _ _) ⟨rfl,rfl⟩
theorem nT(h:Heap):Sat (CT G) 37 [qL 0] h (fun r h'=>r=.int .i64 250∧h'=h):=by
 have df:∀i:Decidable False, @decide False i=false:=fun i=>by simp
 have F:=df
 refine sb [.tmp 2] (fn:=Tryz.f37) Tryz.func37 ?_
 intro Q hQ
 refine wk F ?_
 refine kq F (mN G _ _) ?_
 refine kq F (jB G _ _) ?_
 refine kq F (nS G _) ?_
 refine ee hQ F ?_
 exact Fin.plain (.int _ _) ⟨rfl,rfl⟩
end Go.Av
namespace Go.Av
open Go Go.Proofs Go.RowKit
attribute [local irreducible] WP WPl WPix Sat
variable (G:Nat→Option (List AVal))
theorem wd(p:Nat)(h:Heap)(hp:p<h.length):Sat (CT G) 48 [.hp p 0 0 0] h (fun r h'=>r=.hp (h.length+1) 0 0 0∧∃j,h'=h++j∧j.length=2):=by
 refine sb [.tmp 2] (fn:=Tryz.f48) Tryz.func48 ?_
 intro Q hQ
 refine wk trivial ?_
 refine ee hQ trivial ?_
 refine Fin.whole (by simp) (.hp _ _ _ _ (by simp)) ⟨rfl,_,rfl,rfl⟩
theorem uO(p:Nat)(t:It)(h:Heap):Sat (CT G) 49 [.hp p 0 0 0,qL 1,t.av] h (fun r h'=>r=.bool true∧h'=h):=by
 have dt:∀i:Decidable True, @decide True i=true:=fun i=>by simp
 have F:=dt
 refine sb [.tmp 6] (fn:=Tryz.f49) Tryz.func49 ?_
 intro Q hQ
 refine wk F ?_
 refine ee hQ F ?_
 exact Fin.plain (.bool _) ⟨rfl,rfl⟩
theorem gY{C:Ctx}{ops:Array Oper}{dst:Option Nat}{op:Op}{ty:TypeId}{pos:String}{aft:Array Edge}{t:Env}{h:Heap}{K:AVal→Heap→Prop}{j d:Nat}{want:Bool}(hd:(ops[j]?).bind (·.dst)=some d)(ht:t d=.bool want)
  (g:wpOperV C ops ⟨dst,op,ty,pos,aft,none⟩ t h K):wpOperV C ops ⟨dst,op,ty,pos,aft,some (j,want)⟩ t h K:=by
 have e:guardA ops t j=some (some want):=by unfold guardA;rw[hd];simp only[ht]
 unfold wpOperV
 simp only[e]
 exact⟨fun _=>g,fun h=>absurd rfl h⟩
theorem sg(p:Nat)(t:It)(b:Bool)(id:Int)(h:Heap)(hp:p<h.length)
  (hI:Sat (CT G) 19 [.hp p 0 0 0,.int .i64 id] (h++[.row 25 4 0 [qL 1]]) (fun r h'=>r=.tup [t.av,.bool b]∧h'=h++[.row 25 4 0 [qL 1]])):
  Sat (CT G) 20 [.hp p 0 0 0,qL 1,.int .i64 id] h (fun r h'=>r=.bool b∧h'=h):=by
 cases b with
 |false=>
  skip
  refine sb [.tmp 6] (fn:=Tryz.f20) Tryz.func20 ?_
  intro Q hQ
  refine wn trivial ?_
  refine kn trivial (hI) ?_
  refine ea (by decide+kernel) (mh G) ?_
  refine sq trivial ?_
  refine wn trivial ?_
  skip
  refine ee hQ trivial ?_
  exact Fin.plain (.bool _) ⟨rfl,rfl⟩
 |true=>
  skip
  refine sb [.tmp 6] (fn:=Tryz.f20) Tryz.func20 ?_
  intro Q hQ
  refine wn trivial ?_
  refine kn trivial (hI) ?_
  refine aM 12 [8,11] [true,true,true,true,true,true,true,true,false,true,true,false] (.one 8 [false,false,false,false,false,false,false,false,false,true,true] (.one 11 [] .fin)) (by decide+kernel) (by kernel_rfl) (by decide+kernel) ?_
  simp only[aT,aU,aL]
  try refine sq trivial ?_
  repeat' (first| (refine au ?_;try refine sq trivial ?_)| (refine aw ?_;try refine sq trivial ?_)| (refine ax ?_ ?_<;>try refine sq trivial ?_))
  all_goals try refine wn trivial ?_
  refine aG (dE G _) ?_
  try refine sq trivial ?_
  refine wn trivial ?_
  repeat' (first| (refine au ?_;try refine sq trivial ?_)| (refine aw ?_;try refine sq trivial ?_)| (refine ax ?_ ?_<;>try refine sq trivial ?_))
  all_goals try refine wn trivial ?_
  refine gY rfl (by exact zq trivial) ?_
  simp(disch:=first|omega| (simp only[go_sem, ↓reduceIte,seval];first|done|omega)|fail) only[go_sem, ↓reduceIte,seval]
  refine(wd G p _ (by simp;omega)).mono ?_
  rintro r h' ⟨rfl,j,rfl,hj⟩
  have F:= @az
  refine⟨by simp(disch:=first|omega| (simp only[go_sem, ↓reduceIte,seval];first|done|omega)|fail) only[go_sem, ↓reduceIte,seval,F],?_⟩
  repeat' (first| (refine au ?_;try refine sq F ?_)| (refine aw ?_;try refine sq F ?_)| (refine ax ?_ ?_<;>try refine sq F ?_))
  all_goals try refine wn F ?_
  refine gY rfl (by exact zq F) ?_
  simp(disch:=first|omega| (simp only[go_sem, ↓reduceIte,seval];first|done|omega)|fail) only[go_sem, ↓reduceIte,seval,F]
  refine(uO G _ t _).mono ?_
  rintro r h' ⟨rfl,rfl⟩
  repeat' (first| (refine au ?_;try refine sq F ?_)| (refine aw ?_;try refine sq F ?_)| (refine ax ?_ ?_<;>try refine sq F ?_))
  all_goals try refine wn F ?_
  refine ee hQ F ?_
  exact Fin.plain (.bool _) ⟨rfl,rfl⟩
end Go.Av
namespace Go.Av
open Go Go.Proofs Go.RowKit
attribute [local irreducible] WP WPl WPix Sat
def sv(Y:Heap)(n:Nat)(s:PS)(m v:Nat)(l:List Ky):Heap:=so (vo Y m v l) n s
section
variable {Y:Heap} {n m v:Nat} {s:PS} {l:List Ky}
theorem bZ(hn:n+9≤m)(hm:m+2≤Y.length):sv Y n s m v l=vo (so Y n s) m v l:=jU (bs:=s.bl n) (cs:=vb m v l) (by show n+9≤Y.length;omega) hm (.inl hn)
@[go_sem] theorem jC(hn:n+9≤m)(hm:m+2≤Y.length)(j:Heap):sv Y n s m v l++j=sv (Y++j) n s m v l:=by
 unfold sv;rw[aI (by rw[aN hm];omega),eT hm]
@[go_sem] theorem si(hn:n+9≤m)(hm:m+2≤Y.length):(sv Y n s m v l).length=Y.length:=by
 unfold sv;rw[aB (by rw[aN hm];omega),aN hm]
@[go_sem] theorem mO(hn:n+9≤m)(hm:m+2≤Y.length){p:Nat}(u:Nat)(hp:m+2≤p):getRow (sv Y n s m v l) p u=getRow Y p u:=by
 unfold sv;rw[bt (by rw[aN hm];omega) u (by omega),dH hm u hp]
@[go_sem] theorem mP(hn:n+9≤m)(hm:m+2≤Y.length){p:Nat}(b:Blk)(hp:m+2≤p):(sv Y n s m v l).set p b=sv (Y.set p b) n s m v l:=by
 unfold sv;rw[o2 (by rw[aN hm];omega) b (by omega),dI hm b hp]
@[go_sem] theorem sj(hn:n+9≤m)(hm:m+2≤Y.length):abin Tryz.prog (sv Y n s m v l) .eql 31 (.hp (n+8) 0 0 0) (.nil (.pointer none))=some (.bool false):=by
 unfold sv;exact xf (by rw[aN hm];omega)
@[go_sem] theorem H6(hn:n+9≤m)(hm:m+2≤Y.length):abin Tryz.prog (sv Y n s m v l) .eql 33 (.hp m 0 0 0) (.nil (.pointer none))=some (.bool false):=by
 rw[bZ hn hm];exact xi (by rw[aB (by omega)];exact hm)
theorem xO(hn:n+9≤m){h j:Heap}(hm:m+2≤(h++j).length)(hh:h.length≤n):∃j',sv (h++j) n s m v l=h++j':=by
 refine⟨(sv (h++j) n s m v l).drop h.length,?_⟩
 have hl:=si (s:=s) (v:=v) (l:=l) hn hm
 apply List.ext_getElem?
 intro p
 by_cases hp:p<h.length
 ·rw[List.getElem?_append_left hp]
  unfold sv so vo
  rw[ga (by show n+9≤_;rw[aH hm];omega) (.inl (by omega)),ga hm (.inl (by omega)),List.getElem?_append_left hp]
 ·rw[List.getElem?_append_right (by omega),List.getElem?_drop];congr 1;omega
theorem sk{h:Heap}{R:AVal→Heap→Prop}{b:Bool}(hn:n+9≤m)(hm:m+2≤Y.length)(hp:∃j,Y=h++j)(hh:h.length≤n)(hR:R (.bool b) h):Fin h (sv Y n s m v l) R (.bool b):=by
 obtain⟨j,rfl⟩:=hp
 obtain⟨j',he⟩:=xO (s:=s) (v:=v) (l:=l) hn hm hh
 rw[he]
 exact Fin.plainE (j:=j') rfl (.bool _) hR
end
variable (G:Nat→Option (List AVal))
section
variable {Y:Heap} {n m v:Nat} {s:PS} {l:List Ky}
theorem wh(h:s.Inv)(e:Ev)(hn:n+9≤m)(hm:m+2≤Y.length):Sat (CT G) 21 [.hp (n+8) 0 0 0,e.av] (sv Y n s m v l) (fun r h'=>r=.bool (s.ok L0 e)∧h'=sv Y n (s.step L0 e) m v l):=
 jq G s h e (by rw[aN hm];omega)
theorem sm(h:s.Inv)(id:Int)(hn:n+9≤m)(hm:m+2≤Y.length):Sat (CT G) 19 [.hp (n+8) 0 0 0,.int .i64 id] (sv Y n s m v l) (fun r h'=>r=.tup [((lkM s.it id).getD It.z).av,.bool (lkM s.it id).isSome]∧h'=sv Y n s m v l):=
 jf G s id (by have:=(h.tags id).2;omega) (by rw[aN hm];omega)
theorem v8(h:s.Inv){H:Heap}{n:Nat}(hn:n+9≤H.length):Sat (CT G) 11 [.hp (n+8) 0 0 0] (so H n s) (fun r h'=>r=.hp H.length 0 0 0∧h'=sv (H++vb H.length 0 []) n s H.length s.tell.it.length (srtK (s.tell.it.map It.ky))):=by
 have h0:=tC G s.tell (.hp (n+8) 0 0 0) (so H n s) (fun j=>by
  rw[aI hn];exact jg G s h.toOk (by simp;omega)) (by have:=eh (z:=It.z) s.it;have:=h.l3;show(valsM It.z s.it).length≤_;omega) (jA h)
 rw[aB hn]at h0
 refine h0.mono ?_
 rintro r h' ⟨h1,h2⟩
 refine⟨h1,?_⟩
 have e:=mc (so H n s) s.tell.it.length 0 (srtK (s.tell.it.map It.ky)) []
 rw[aB hn]at e
 rw[h2, ← e,bZ hn (by simp[vb]),aI hn]
theorem xP{s:PS}(hk:VK l s)(h:s.Inv)(e:Ev)(hok:s.ok L0 e=true)(hn:n+9≤m)(hm:m+2≤Y.length):Sat (CT G) 22 [.hp m 0 0 0,.hp (n+8) 0 0 0,e.av] (sv Y n (s.aft e) m v l)
  (fun r h'=>r=.tup []∧∃u L,VK L (s.aft e)∧h'=sv Y n (s.aft e) m u L):=by
 have hI:(s.aft e).Inv:=by have:=h.step (L:=L0) e;unfold PS.step at this;rw[if_pos hok]at this;exact this
 have hl:=hk.len h
 rw[bZ hn hm]
 refine(qT G (H:=so Y n (s.aft e)) (v:=v) hk.1 (by omega) e (.hp (n+8) 0 0 0) ((lkM (s.aft e).it e.a).getD It.z) (lkM (s.aft e).it e.a).isSome (by rw[aB (by omega)];exact hm) (fun _ j=>?_)).mono ?_
 ·rw[aI (by omega), ← bZ hn (by simp;omega)]
  exact sm G hI e.a hn (by simp;omega)
 ·rintro r h' ⟨h1,u,h2⟩
  exact⟨h1,u,_,hk.step h e hok,by rw[h2,bZ hn hm]⟩
theorem sn(h:s.Inv)(id:Int)(hn:n+9≤m)(hm:m+2≤Y.length):Sat (CT G) 20 [.hp (n+8) 0 0 0,qL 1,.int .i64 id] (sv Y n s m v l) (fun r h'=>r=.bool (lkM s.it id).isSome∧h'=sv Y n s m v l):=
 sg G (n+8) _ _ id _ (by rw[si hn hm];omega) (by rw[jC hn hm];exact sm G h id hn (by simp;omega))
theorem Az(hl:l.length≤1048576)(hn:n+9≤m)(hm:m+2≤Y.length):Sat (CT G) 31 [.hp m 0 0 0] (sv Y n s m v l) (fun r h'=>r=.sl 1 ((l.map (·.i)).map iA)∧h'=sv Y n s m v l):=by
 rw[bZ hn hm];exact tu G hl (by rw[aB (by omega)];exact hm)
theorem su(hl:l.length≤1048576)(id:Int)(hn:n+9≤m)(hm:m+2≤Y.length):Sat (CT G) 32 [.hp m 0 0 0,.int .i64 id] (sv Y n s m v l) (fun r h'=>r=.int .i64 (rkI (l.map (·.i)) id)∧h'=sv Y n s m v l):=by
 rw[bZ hn hm, ← xN];exact qQ G hl id (by rw[aB (by omega)];exact hm)
end
end Go.Av
namespace Go.Av
open Go Go.Proofs Go.RowKit
attribute [local irreducible] WP WPl WPix Sat SatY
structure Cu where
 d:Int
 i:Int
 set:Bool
def Cu.av(c:Cu):AVal:=.agg [.int .i64 c.d,.int .i64 c.i,.bool c.set]
@[go_sem] theorem Cu.av_eq(c:Cu):c.av=.agg [.int .i64 c.d,.int .i64 c.i,.bool c.set]:=(rfl)
def fromK(l:List Ky)(c:Cu):Nat:=if c.set then pst l ⟨c.d,c.i,0⟩else 0
theorem mQ(l:List Ky)(c:Cu):fromK l c≤l.length:=by unfold fromK;split;exact gj l _;omega
abbrev qA(op num:Int)(s:Bs)(ks:List AVal):AVal:=.agg [.int .i64 op,.int .i64 num,.str s,.sl 4 ks]
def bhB(n:Nat)(sp qv:AVal)(c:Cu)(k:Nat):List Blk:=[.row 33 1 0 [.hp n 0 0 0],.row 31 1 0 [sp],.row 25 4 0 [qv],.row 27 3 0 [c.av],.row 3 1 0 [.int .i64 k]]
theorem jD{P:Program}{h:Heap}{T e p v len n m i:Nat}{rows:List AVal}{k:IntKind}(he:elmT P T=some e)(hg:getRow h p v=some (m,n,rows))(hn:szOf P e=some n)(hi:i<len∨i=0):
  aslice P h T (.hs p v 0 len true) (some (.int k (i:Int))) none none=some (.hs p v i (len-i) true):=by
 simp only[aslice,he,hg,hn,if_true,optInt]
 rw[if_pos ⟨by omega,by omega,by omega,by omega⟩]
 simp
variable (G:Nat→Option (List AVal))
section
variable {l:List Ky} {H:Heap} {n v:Nat}
theorem qd(hs:Sk l)(hl:l.length≤1048576)(c:Cu)(p:Nat)(hp:p<H.length)(op num:Int)(s:Bs)(ks:List AVal)(hn:n+2≤H.length):
  Sat (CT G) 38 [.hp n 0 0 0,.hp p 0 0 0,qA op num s ks,c.av] (vo H n v l)
   (fun r h'=>r=.fn (.func 80) [] [.hp H.length 0 0 0,.hp (H.length+4) 0 0 0,.hp (H.length+1) 0 0 0,.hp (H.length+2) 0 0 0]∧h'=vo (H++bhB n (.hp p 0 0 0) (qA op num s ks) c (fromK l c)) n v l):=by
 have clo:∀N,H.length+5≤N→Clo N (.fn (.func 80) [] [.hp H.length 0 0 0,.hp (H.length+4) 0 0 0,.hp (H.length+1) 0 0 0,.hp (H.length+2) 0 0 0]):=fun N hN=>.fn _ _ _ (fun x hx=>by simp at hx) fun x hx=>by
  simp only[List.mem_cons,List.not_mem_nil,or_false]at hx
  rcases hx with rfl|rfl|rfl|rfl<;>exact .hp _ _ _ _ (by omega)
 obtain⟨d,i,st⟩:=c
 cases st with
 |false=>
  have hf:fromK l ⟨d,i,false⟩=0:=rfl
  have F:= @az
  refine sb [.tmp 8] (fn:=Tryz.f38) Tryz.func38 ?_
  intro Q hQ
  refine wk F ?_
  refine ee hQ F ?_
  exact Fin.whole (by rw[aN hn,aN (by simp;omega)];simp) (clo _ (by rw[aN (by simp;omega)];simp)) ⟨rfl,by rw[hf];rfl⟩
 |true=>
  have hf:fromK l ⟨d,i,true⟩=pst l ⟨d,i,0⟩:=rfl
  have hP:=iE G (v:=v) (n:=n) hs hl ⟨d,i,0⟩ (H:=H++[Blk.row 33 1 0 [.hp n 0 0 0],.row 31 1 0 [.hp p 0 0 0],.row 25 4 0 [qA op num s ks],.row 27 3 0 [.agg [.int .i64 d,.int .i64 i,.bool true]],.row 3 1 0 [.int .i64 0]]) (by simp;omega)
  have F:= @az
  refine sb [.tmp 8] (fn:=Tryz.f38) Tryz.func38 ?_
  intro Q hQ
  refine wk F ?_
  refine kq F (hP) ?_
  refine ee hQ F ?_
  exact Fin.whole (by rw[aN hn,aN (by simp;omega)];simp) (clo _ (by rw[aN (by simp;omega)];simp)) ⟨rfl,by rw[hf];rfl⟩
theorem wj(hl:l.length≤1048576)(bel:Int→Bool)(N yl q b0 p:Nat)(op num:Int)(s:Bs)(ks:List AVal)(B Bs:List Ky→Heap→Heap)(fr:Nat)(hfr:fr≤l.length)
  (hB:∀pre j j',B pre j++j'=B pre (j++j'))(hBl:∀pre j,(B pre j).length=b0+j.length)(hBsl:∀pre j,(Bs pre j).length=b0+j.length)(hb0:q+5≤b0)(hq:n+2≤q)
  (hr0:∀pre j,getRow (B pre j) q 0=some (33,1,[.hp n 0 0 0]))(hr1:∀pre j,getRow (B pre j) (q+1) 0=some (31,1,[.hp p 0 0 0]))(hr2:∀pre j,getRow (B pre j) (q+2) 0=some (25,4,[qA op num s ks]))(hr4:∀pre j,getRow (B pre j) (q+4) 0=some (3,1,[.int .i64 fr]))
  (hE:∀pre j id,Sat (CT G) 20 [.hp p 0 0 0,qA op num s ks,.int .i64 id] (vo (B pre j) n v l) (fun r h'=>r=.bool (bel id)∧h'=vo (B pre j) n v l))
  (hY:∀pre j y,pre.length≤N→SatY (CT G) yl [y.av] (vo (B pre j) n v l) (fun r h'=>∃j',j.length≤j'.length∧((pre.length<N∧r=.bool true∧h'=vo (B (pre++[y]) j') n v l)∨(pre.length=N∧r=.bool false∧h'=vo (Bs pre j') n v l))))(j0:Heap):
  Sat (CT G) 80 [.fn (.yield yl) [] [],.hp q 0 0 0,.hp (q+4) 0 0 0,.hp (q+1) 0 0 0,.hp (q+2) 0 0 0] (vo (B [] j0) n v l)
   (fun _ h'=>∃j,(((l.drop fr).filter fun k=>bel k.i).length≤N∧h'=vo (B ((l.drop fr).filter fun k=>bel k.i) j) n v l)∨(N<((l.drop fr).filter fun k=>bel k.i).length∧h'=vo (Bs (((l.drop fr).filter fun k=>bel k.i).take N) j) n v l)):=by
 have ct:∀N,Clo N (.tup []):=fun N=>.tup _ (fun x hx=>by simp at hx)
 have hn:∀pre j,n+2≤(B pre j).length:=fun pre j=>by rw[hBl];omega
 have hn':∀pre j (x:Blk),n+2≤(B pre j++[x]).length:=fun pre j x=>by rw[List.length_append,hBl];omega
 have hns:∀pre j,n+2≤(Bs pre j).length:=fun pre j=>by rw[hBsl];omega
 have hnA:=hn [] j0
 have v0:=hr0 [] j0
 have v4:=hr4 [] j0
 by_cases h0:fr=l.length∧0<fr
 ·have hd:l.drop fr=[]:=by rw[h0.1,List.drop_length]
  have hsl:=j8 (P:=Tryz.prog) (T:=80) (k:=.i64) (len:=l.length) (i:=fr) (by simp only[go_sem];try rfl) (bJ (l:=l) (v:=v) hnA) (by simp only[go_sem];try rfl) h0.1 h0.2
  have F:=F3 v0 v4 hsl
  refine sb [] (fn:=Tryz.f80) Tryz.func80 ?_
  intro Q hQ
  refine wk F ?_
  refine lm (fun nL tL hL=>∃(k:Nat),0-k=nL∧vo (B [] j0) n v l=hL∧tL 15=.int .i64 k∧k≤0) ((fun(k:Nat)=>(0-k:Nat)) (0)) ?_ ?_
  ·refine Wkn.refl ⟨0,rfl,aA,?_,Nat.le_refl 0⟩
   all_goals first|exact zq F|rfl|omega|trivial|skip
  rintro _ s2 h' ⟨k,rfl,rfl,e15,hk⟩ K2 hK2
  simp only[ai,aj,Nat.reduceEqDiff, ↓reduceIte]at e15
  have F:=F2 F e15
  refine wk F ?_
  refine cq F (fun c1=>?_) (fun c1=>?_)<;>(try exact c1.elim)<;>(refine wk F ?_)
  ·exact absurd c1 (by omega)
  refine ee hQ F ?_
  exact Fin.whole (Nat.le_refl _) (ct _) ⟨j0,.inl (by rw[hd];exact⟨Nat.zero_le _,rfl⟩)⟩
 have hlt:fr<l.length∨fr=0:=by omega
 have hsl:=jD (P:=Tryz.prog) (T:=80) (k:=.i64) (len:=l.length) (i:=fr) (by simp only[go_sem];try rfl) (bJ (l:=l) (v:=v) hnA) (by simp only[go_sem];try rfl) hlt
 have F:=F3 v0 v4 hsl
 refine sb [] (fn:=Tryz.f80) Tryz.func80 ?_
 intro Q hQ
 refine wk F ?_
 refine lm (fun nL tL hL=>∃(k:Nat) (j:Heap),l.length-fr-k=nL∧vo (B (((l.drop fr).take k).filter fun k=>bel k.i) j) n v l=hL∧tL 15=.int .i64 k∧k≤l.length-fr∧j0.length≤j.length∧(((l.drop fr).take k).filter fun k=>bel k.i).length≤N) ((fun(k:Nat) (j:Heap)=>(l.length-fr-k:Nat)) (0) (j0)) ?_ ?_
 ·refine Wkn.refl ⟨0,j0,rfl,aA,?_,by omega,by omega,by simp⟩
  all_goals first|exact zq F|rfl|omega|trivial|skip
 rintro _ s2 h' ⟨k,j,rfl,rfl,e15,hk,hj,hp⟩ K2 hK2
 simp only[ai,aj,Nat.reduceEqDiff, ↓reduceIte]at e15
 have F:=F2 F e15
 refine wk F ?_
 refine cq F (fun c1=>?_) (fun c1=>?_)<;>(try exact c1.elim)<;>(refine wk F ?_)
 ·have c2:fr+k<l.length:=by omega
  have c3:k<l.length-fr:=by omega
  obtain⟨y,hy,hym⟩:=ae c2
  have hyd:(l.drop fr)[k]? =some y:=by rw[List.getElem?_drop];exact hy
  have hfl:(((l.drop fr).take (k+1)).filter fun k=>bel k.i)=(((l.drop fr).take k).filter fun k=>bel k.i)++if bel y.i then [y]else []:=by
   rw[List.take_add_one,hyd,Option.toList_some,List.filter_append,List.filter_cons,List.filter_nil]
  have hwh:bel y.i=true→((l.drop fr).filter fun k=>bel k.i)=(((l.drop fr).take k).filter fun k=>bel k.i)++y::(((l.drop fr).drop (k+1)).filter fun k=>bel k.i):=fun hb=>by
   have e1:((l.drop fr).filter fun k=>bel k.i)=(((l.drop fr).take (k+1)++(l.drop fr).drop (k+1)).filter fun k=>bel k.i):=by rw[List.take_append_drop]
   rw[e1,List.filter_append,hfl,if_pos hb,List.append_assoc];rfl
  generalize (((l.drop fr).take k).filter fun k=>bel k.i)=pre at hp hfl hwh ⊢
  have hE1:=hE pre (j++[.row 92 3 0 [y.av]]) y.i
  have hY1:=hY pre (j++[.row 92 3 0 [y.av]]) y hp
  have hb1:∀p,p<b0→∀u x,getRow (B pre j++[x]) p u=getRow (B pre j) p u:=fun p hp u x=>bi _ (by rw[hBl];omega)
  have g1:getRow (B pre j++[.row 92 3 0 [y.av]]) (q+1) 0=some (31,1,[.hp p 0 0 0]):=by rw[hb1 _ (by omega)];exact hr1 _ _
  have g2:getRow (B pre j++[.row 92 3 0 [y.av]]) (q+2) 0=some (25,4,[qA op num s ks]):=by rw[hb1 _ (by omega)];exact hr2 _ _
  rw[← hB]at hE1 hY1
  rw[Ky.av_eq]at hE1 hY1 g1 g2
  have hnB:=hn pre j
  have hnC:=hn' pre j (.row 92 3 0 [.agg [.int .i64 y.d,.int .i64 y.i,.int .i64 y.f]])
  cases hb:bel y.i with
  |false=>
   rw[hb]at hE1 hfl
   have F:=F7 F hy c2 c3 g1 g2 @az
   try refine sq F ?_
   refine wk F ?_
   refine kq F (hE1) ?_
   refine hK2 _ _ _ (Wkn.refl ⟨k+1,j++[.row 92 3 0 [y.av]],rfl,by rw[hfl];simp[hB,Ky.av],?_,by omega,by simp;omega,by rw[hfl];simpa using hp⟩) (by omega)
   all_goals first|exact zq F|rfl|omega|trivial|skip
  |true=>
   rw[hb]at hE1 hfl
   have hwh:=hwh hb
   have F:=F7 F hy c2 c3 g1 g2 @az
   try refine sq F ?_
   refine wk F ?_
   refine kq F (hE1) ?_
   refine hY1.mono ?_
   rintro r h' ⟨j',hj',⟨hlt2,rfl,rfl⟩| ⟨heq,rfl,rfl⟩⟩
   ·try refine sq F ?_
    refine wk F ?_
    refine hK2 _ _ _ (Wkn.refl ⟨k+1,j',rfl,by rw[hfl];rfl,?_,by omega,by simp at hj';omega,by rw[hfl];simp;omega⟩) (by omega)
    all_goals first|exact zq F|rfl|omega|trivial|skip
   ·try refine sq F ?_
    refine wk F ?_
    refine ee hQ F ?_
    refine Fin.whole (by rw[aN (hn _ _),aN (hns _ _),hBl,hBsl];simp at hj';omega) (ct _) ⟨j',.inr ⟨by rw[hwh];simp;omega,?_⟩⟩
    rw[hwh, ← heq,List.take_left' rfl]
 ·have e:k=l.length-fr:=by omega
  subst e
  have ht:(l.drop fr).take (l.length-fr)=l.drop fr:=List.take_of_length_le (by simp)
  rw[ht]at hp ⊢
  refine ee hQ F ?_
  exact Fin.whole (by rw[aN (hn _ _),aN (hn _ _),hBl,hBl];omega) (ct _) ⟨j,.inl ⟨hp,rfl⟩⟩
end
end Go.Av
namespace Go.Av
open Go Go.Proofs Go.RowKit
attribute [local irreducible] WP WPl WPix Sat SatY
def nxC(c:Cu)(pre:List Ky):Cu:=match pre.getLast? with
 |none=>c
 |some k=>⟨k.d,k.i,true⟩
theorem oC(c:Cu)(pre:List Ky)(y:Ky):nxC c (pre++[y])=⟨y.d,y.i,true⟩:=by unfold nxC;rw[List.getLast?_concat]
def pgV(L:Nat)(mo:Bool)(c:Cu)(pre:List Ky):AVal:=.agg [.hs (L+10) pre.length 0 pre.length true,.int .i64 (nxC c pre).d,.int .i64 (nxC c pre).i,.bool (nxC c pre).set,.bool mo]
def pgM(H:Heap)(n p:Nat)(qv:AVal)(c:Cu)(N:Int)(fr:Nat)(z:Blk)(mo:Bool)(pre:List Ky)(j:Heap):Heap:=
 H++(.row 25 4 0 [qv]:: .row 27 3 0 [c.av]:: .row 3 1 0 [.int .i64 N]:: .row 44 5 0 [.agg [.nil (.slice none 0 0),.int .i64 0,.int .i64 0,.bool false,.bool false]]::
  .row 44 5 0 [pgV H.length mo c pre]:: .row 33 1 0 [.hp n 0 0 0]:: .row 31 1 0 [.hp p 0 0 0]:: .row 25 4 0 [qv]:: .row 27 3 0 [c.av]:: .row 3 1 0 [.int .i64 fr]::
  .row 3 1 pre.length (pre.map fun k=>iA k.i):: .df::z::j)
def pgA(c:Cu)(bs:List Ky)(N:Nat):AVal:=.agg [.sl 1 ((bs.take N).map fun k=>iA k.i),.int .i64 (nxC c (bs.take N)).d,.int .i64 (nxC c (bs.take N)).i,.bool (nxC c (bs.take N)).set,.bool (decide (N<bs.length))]
section
variable {H:Heap} {n p:Nat} {qv:AVal} {c:Cu} {N:Int} {fr:Nat} {z:Blk} {mo:Bool} {pre:List Ky} {j:Heap}
theorem dP(j':Heap):pgM H n p qv c N fr z mo pre j++j'=pgM H n p qv c N fr z mo pre (j++j'):=by simp[pgM]
theorem dQ:(pgM H n p qv c N fr z mo pre j).length=H.length+13+j.length:=by simp[pgM];omega
theorem dR:(pgM H n p qv c N fr z mo pre j)[H.length+12]? =some z:=by
 unfold pgM;rw[List.getElem?_append_right (by omega),Nat.add_sub_cancel_left];rfl
theorem xQ:(pgM H n p qv c N fr z mo pre j)[H.length+11]? =some .df:=by
 unfold pgM;rw[List.getElem?_append_right (by omega),Nat.add_sub_cancel_left];rfl
theorem eZ(z':Blk):(pgM H n p qv c N fr z mo pre j).set (H.length+12) z'=pgM H n p qv c N fr z' mo pre j:=by
 unfold pgM;rw[bO _ rfl];rfl
theorem bL(k v:Nat):getRow (pgM H n p qv c N fr z mo pre j) (H.length+k) v=getRow (.row 25 4 0 [qv]:: .row 27 3 0 [c.av]:: .row 3 1 0 [.int .i64 N]:: .row 44 5 0 [.agg [.nil (.slice none 0 0),.int .i64 0,.int .i64 0,.bool false,.bool false]]::
  .row 44 5 0 [pgV H.length mo c pre]:: .row 33 1 0 [.hp n 0 0 0]:: .row 31 1 0 [.hp p 0 0 0]:: .row 25 4 0 [qv]:: .row 27 3 0 [c.av]:: .row 3 1 0 [.int .i64 fr]::
  .row 3 1 pre.length (pre.map fun k=>iA k.i):: .df::z::j) k v:=aZ v rfl
theorem uP:(pgM H n p qv c N fr z mo pre j).set (H.length+4) (.row 44 5 0 [pgV H.length true c pre])=pgM H n p qv c N fr z true pre j:=by
 unfold pgM;rw[bO _ rfl];rfl
theorem wl(y:Ky):((pgM H n p qv c N fr z mo pre j).set (H.length+10) (.row 3 1 (pre.length+1) ((pre.map fun k=>iA k.i)++[iA y.i]))).set (H.length+4) (.row 44 5 0 [.agg [.hs (H.length+10) (pre.length+1) 0 (pre.length+1) true,.int .i64 y.d,.int .i64 y.i,.bool true,.bool mo]])=pgM H n p qv c N fr z mo (pre++[y]) j:=by
 unfold pgM;rw[bO _ rfl,bO _ rfl]
 simp only[List.set_cons_succ,List.set_cons_zero,pgV,oC,List.length_append,List.length_singleton,List.map_append,List.map_cons,List.map_nil]
end
theorem uQ{H Z:Heap}{n:Nat}{c:Cu}{bs:List Ky}{N L:Nat}(_hn:n+2≤H.length)(hg:getRow Z (H.length+10) (bs.take N).length=some (L,1,(bs.take N).map fun k=>iA k.i)):
  Frz Z H.length (.tup [.agg [.hs (H.length+10) (bs.take N).length 0 (bs.take N).length true,.int .i64 (nxC c (bs.take N)).d,.int .i64 (nxC c (bs.take N)).i,.bool (nxC c (bs.take N)).set,.bool (decide (N<bs.length))],.int .i64 0]) (.tup [pgA c bs N,.int .i64 0]):=by
 refine .tup _ _ rfl fun i a b ha hb=>?_
 match i with
 |0=>
  simp only[List.getElem?_cons_zero,Option.some.injEq]at ha hb
  subst ha;subst hb
  refine .agg _ _ rfl (fun d hd=>?_) fun i a b ha hb=>?_
  ·simp only[List.mem_cons,List.not_mem_nil,or_false]at hd
   rcases hd with rfl|rfl|rfl|rfl|rfl<;>rfl
  ·match i with
   |0=>
    simp only[List.getElem?_cons_zero,Option.some.injEq]at ha hb
    subst ha;subst hb
    refine Frz.data (by omega) hg (by simp) (fun r hr=>?_) (fun r hr=>?_)
    ·obtain⟨x,_,rfl⟩:=List.mem_map.1 hr;exact .int _ _
    ·obtain⟨x,_,rfl⟩:=List.mem_map.1 hr;intro c hc;simp[AVal.cells,iA]at hc;subst hc;rfl
   |1=>simp at ha hb;subst ha;subst hb;exact .clo _ (.int _ _)
   |2=>simp at ha hb;subst ha;subst hb;exact .clo _ (.int _ _)
   |3=>simp at ha hb;subst ha;subst hb;exact .clo _ (.bool _)
   |4=>simp at ha hb;subst ha;subst hb;exact .clo _ (.bool _)
   |i+5=>simp at ha
 |1=>simp at ha hb;subst ha;subst hb;exact .clo _ (.int _ _)
 |i+2=>simp at ha
theorem eo{H:Heap}{n v:Nat}{l:List Ky}(hn:n+2≤H.length){p:Nat}(hp:n+2≤p):(vo H n v l)[p]? =H[p]? :=ga hn (.inr hp)
variable (G:Nat→Option (List AVal))
section
variable {l:List Ky} {H:Heap} {n v:Nat}
theorem sw{ass body:Code}{k:Nat}{t:Env}{Q1:Exit→Env→Heap→Prop}(hl:l.length≤1048576)(bel:Int→Bool)(c:Cu)(p:Nat)(op num:Int)(s:Bs)(ks:List AVal)(N yl:Nat)(hn:n+2≤H.length)
  (okA:okCode k ass=true)(okB:okCode k body=true)(flA:flat ass=true)(flB:flat body=true)
  (hA:∀(y:Ky) (H':Heap) (Q:Exit→Env→Heap→Prop),Q .normal (upd (upd t 42 y.av) 14 (.hp H'.length 0 0 0)) (H'++[.row 92 3 0 [y.av]])→WP (CT G) ass Q (upd t 42 y.av) H')
  (hB:∀(y:Ky) (pre:List Ky) (j:Heap) (z:Blk) (Q:Exit→Env→Heap→Prop),pre.length≤N→
   (pre.length=N→∀t',Q (.exit 0) t' (vo (pgM H n p (qA op num s ks) c N (fromK l c) z true pre (j++[.row 92 3 0 [y.av]])) n v l))→
   (pre.length<N→∀t',Q .normal t' (vo (pgM H n p (qA op num s ks) c N (fromK l c) z false (pre++[y]) (j++[.row 92 3 0 [y.av]])) n v l))→
   WP (CT G) body Q (upd (upd t 42 y.av) 14 (.hp (H.length+13+j.length) 0 0 0)) (vo (pgM H n p (qA op num s ks) c N (fromK l c) z false pre j++[.row 92 3 0 [y.av]]) n v l))
  (hE:∀j id,Sat (CT G) 20 [.hp p 0 0 0,qA op num s ks,.int .i64 id] (vo (H++j) n v l) (fun r h'=>r=.bool (bel id)∧h'=vo (H++j) n v l))
  (f0:∀j,Q1 .normal t (vo (pgM H n p (qA op num s ks) c N (fromK l c) .dead (decide (N<((l.drop (fromK l c)).filter fun k=>bel k.i).length)) (((l.drop (fromK l c)).filter fun k=>bel k.i).take N) j) n v l))
  (f1:∀j,Q1 (.exit 0) t (vo (pgM H n p (qA op num s ks) c N (fromK l c) .dead (decide (N<((l.drop (fromK l c)).filter fun k=>bel k.i).length)) (((l.drop (fromK l c)).filter fun k=>bel k.i).take N) j) n v l)):
  Sat (CT G) 80 [.fn (.yield yl) [] [],.hp (H.length+5) 0 0 0,.hp (H.length+9) 0 0 0,.hp (H.length+6) 0 0 0,.hp (H.length+7) 0 0 0]
   (vo (H++[Blk.row 25 4 0 [qA op num s ks],.row 27 3 0 [.agg [.int .i64 c.d,.int .i64 c.i,.bool c.set]],.row 3 1 0 [.int .i64 N],.row 44 5 0 [.agg [.nil (.slice none 0 0),.int .i64 0,.int .i64 0,.bool false,.bool false]],.row 44 5 0 [.agg [.hs (H.length+10) 0 0 0 true,.int .i64 c.d,.int .i64 c.i,.bool c.set,.bool false]],.row 33 1 0 [.hp n 0 0 0],.row 31 1 0 [.hp p 0 0 0],.row 25 4 0 [qA op num s ks],.row 27 3 0 [.agg [.int .i64 c.d,.int .i64 c.i,.bool c.set]],.row 3 1 0 [.int .i64 (fromK l c)],.row 3 1 0 []]) n v l++[.df,.lp yl k t #[42] ass body .ready none]) (rangeQ (H.length+11) yl k t #[42] ass body Q1):=by
 have hnM:∀{z:Blk} {mo:Bool} {pre:List Ky} {j:Heap},n+2≤(pgM H n p (qA op num s ks) c N (fromK l c) z mo pre j).length:=by intro z mo pre j;rw[dQ];omega
 have hseq:=wj G (v:=v) (n:=n) hl bel N yl (H.length+5) (H.length+13) p op num s ks (fun pre j=>pgM H n p (qA op num s ks) c N (fromK l c) (.lp yl k t #[42] ass body .ready none) false pre j) (fun pre j=>pgM H n p (qA op num s ks) c N (fromK l c) (.lp yl k t #[42] ass body .done (some (.exit 0))) true pre j) (fromK l c) (mQ l c)
  (fun pre j j'=>dP j') (fun pre j=>dQ) (fun pre j=>dQ) (by omega) (by omega) (fun pre j=>bL 5 0) (fun pre j=>bL 6 0) (fun pre j=>bL 7 0) (fun pre j=>bL 9 0)
  (fun pre j id=>hE _ id) (fun pre j y hp=>?_) []
 ·have e0:vo (H++[Blk.row 25 4 0 [qA op num s ks],.row 27 3 0 [.agg [.int .i64 c.d,.int .i64 c.i,.bool c.set]],.row 3 1 0 [.int .i64 N],.row 44 5 0 [.agg [.nil (.slice none 0 0),.int .i64 0,.int .i64 0,.bool false,.bool false]],.row 44 5 0 [.agg [.hs (H.length+10) 0 0 0 true,.int .i64 c.d,.int .i64 c.i,.bool c.set,.bool false]],.row 33 1 0 [.hp n 0 0 0],.row 31 1 0 [.hp p 0 0 0],.row 25 4 0 [qA op num s ks],.row 27 3 0 [.agg [.int .i64 c.d,.int .i64 c.i,.bool c.set]],.row 3 1 0 [.int .i64 (fromK l c)],.row 3 1 0 []]) n v l++[.df,.lp yl k t #[42] ass body .ready none]=vo (pgM H n p (qA op num s ks) c N (fromK l c) (.lp yl k t #[42] ass body .ready none) false [] []) n v l:=by
   rw[eT (by simp;omega)]
   simp[pgM,pgV,nxC,Cu.av]
  rw[e0]
  refine hseq.mono ?_
  rintro r h' ⟨j,⟨hle,rfl⟩| ⟨hlt,rfl⟩⟩
  ·refine⟨.ready,none,by rw[eo hnM (by omega)];exact dR,by simp,?_⟩
   have:=f0 j
   rw[List.take_of_length_le hle,decide_eq_false (by omega)]at this
   show Q1 .normal t _
   rw[dI hnM _ (by omega),eZ]
   exact this
  ·refine⟨.done,some (.exit 0),by rw[eo hnM (by omega)];exact dR,by simp,?_⟩
   have:=f1 j
   rw[decide_eq_true hlt]at this
   show Q1 (.exit 0) t _
   rw[dI hnM _ (by omega),eZ]
   exact this
 ·refine SatY.roundQ (p:=H.length+12) (by rw[eo hnM (by omega)];exact dR) okA okB flA flB fun Qa ha=>hA y _ Qa (ha _ _ ?_ fun Qb hb he=>?_)
  ·rw[eT hnM,eo (by rw[List.length_append];have:=hnM (z:=.lp yl k t #[42] ass body .ready none) (mo:=false) (pre:=pre) (j:=j);omega) (by omega),dP];exact dR
  ·have e1:(vo (pgM H n p (qA op num s ks) c N (fromK l c) (.lp yl k t #[42] ass body .ready none) false pre j) n v l++[Blk.row 92 3 0 [y.av]]).set (H.length+12) (.lp yl k t #[42] ass body .busy none)=vo (pgM H n p (qA op num s ks) c N (fromK l c) (.lp yl k t #[42] ass body .busy none) false pre j++[.row 92 3 0 [y.av]]) n v l:=by
    rw[eT hnM,dP,dI hnM _ (by omega),eZ,dP]
   rw[e1,aN hnM,dQ]
   refine hB y pre j _ Qb hp (fun e t'=>he 0 _ _ ?_ ?_) fun e t'=>hb _ _ ?_ ?_
   ·rw[eo hnM (by omega)];exact dR
   ·rw[dI hnM _ (by omega),eZ]
    exact⟨_,by simp,.inr ⟨e,rfl,rfl⟩⟩
   ·rw[eo hnM (by omega)];exact dR
   ·rw[dI hnM _ (by omega),eZ]
    exact⟨_,by simp,.inl ⟨e,rfl,rfl⟩⟩
theorem mR(hs:Sk l)(hl:l.length≤1048576)(bel:Int→Bool)(c:Cu)(p:Nat)(hp:p<H.length)(op num:Int)(s:Bs)(ks:List AVal)(N:Nat)(hN:1≤N∧N≤100)(hn:n+2≤H.length)
  (hq:∀j,abin Tryz.prog (vo (H++j) n v l) .eql 31 (.hp p 0 0 0) (.nil (.pointer none))=some (.bool false))
  (hC:∀j,Sat (CT G) 37 [qA op num s ks] (vo (H++j) n v l) (fun r h'=>r=.int .i64 0∧h'=vo (H++j) n v l))
  (hE:∀j id,Sat (CT G) 20 [.hp p 0 0 0,qA op num s ks,.int .i64 id] (vo (H++j) n v l) (fun r h'=>r=.bool (bel id)∧h'=vo (H++j) n v l)):
  Sat (CT G) 13 [.hp n 0 0 0,.hp p 0 0 0,qA op num s ks,c.av,.int .i64 N] (vo H n v l)
   (fun r h'=>r=.tup [pgA c ((l.drop (fromK l c)).filter fun k=>bel k.i) N,.int .i64 0]∧h'=vo H n v l):=by
 have hfr:=mQ l c
 have hCh:=hC [.row 25 4 0 [qA op num s ks],.row 27 3 0 [c.av],.row 3 1 0 [.int .i64 N],.row 44 5 0 [.agg [.nil (.slice none 0 0),.int .i64 0,.int .i64 0,.bool false,.bool false]]]
 rw[Cu.av_eq]at hCh
 have n1:decide ((N:Int)<1)=false:=by simp;omega
 have n2:decide ((N:Int)>100)=false:=by simp;omega
 have df:∀i:Decidable False, @decide False i=false:=fun i=>by simp
 skip
 refine Sat.range [.cell 10 44,.tmp 11] (fn:=Tryz.f13) (H.length+11) Tryz.func13 ?_
 intro Q0 Q1 hQ hQ1
 have F:=F5 hq n1 n2 df @az
 refine EJ.seq1 (by kernel_rfl) fun KK kK=>?_
 refine wk F ?_
 refine kK _ _ (w0 ?_)
 clear kK KK
 refine EJ.seq1 (by kernel_rfl) fun KK kK=>?_
 refine wk F ?_
 refine kK _ _ (w0 ?_)
 clear kK KK
 refine EJ.seq1 (by kernel_rfl) fun KK kK=>?_
 refine wk F ?_
 refine kq F (hCh) ?_
 refine kK _ _ (w0 ?_)
 clear kK KK
 refine EJ.seq1 (by kernel_rfl) fun KK kK=>?_
 refine wk F ?_
 refine kK _ _ (w0 ?_)
 clear kK KK
 refine EJ.seq1 (by kernel_rfl) fun KK kK=>?_
 refine wk F ?_
 refine kK _ _ (w0 ?_)
 clear kK KK
 refine EJ.seq2 (EJ.seq1 (by kernel_rfl) fun KK kK=>?_)
 refine wk F ?_
 have hBh:=qd G (v:=v) (n:=n) hs hl c p (H:=H++[Blk.row 25 4 0 [qA op num s ks],.row 27 3 0 [c.av],.row 3 1 0 [.int .i64 N],.row 44 5 0 [.agg [.nil (.slice none 0 0),.int .i64 0,.int .i64 0,.bool false,.bool false]],.row 44 5 0 [.agg [.nil (.slice none 0 0),.int .i64 c.d,.int .i64 c.i,.bool c.set,.bool false]]]) (by simp;omega) op num s ks (by simp;omega)
 simp only[List.length_append,List.length_cons,List.length_nil,Nat.reduceAdd,Nat.zero_add,Nat.add_assoc,bhB,List.append_assoc,List.cons_append,List.nil_append,Cu.av_eq]at hBh
 refine kq F (hBh) ?_
 refine kK _ _ ⟨_,_,Weak.virtCell (p:=H.length+4) (v:=0) 3 1 (by omega) (by simp(disch:=first|omega| (simp only[go_sem, ↓reduceIte,seval];first|done|omega)|fail) only[go_sem, ↓reduceIte,seval,F];rfl) 0 rfl,?_⟩
 clear kK KK
 try refine sq F ?_
 refine EJ.block (EJ.forget (P:=fun t=>t 9=.hp (H.length+2) 0 0 0∧t 13=.hp (H.length+4) 0 0 0∧t 10=.hp (H.length+3) 0 0 0∧t 41=.fn (.func 80) [] [.hp (H.length+5) 0 0 0,.hp (H.length+9) 0 0 0,.hp (H.length+6) 0 0 0,.hp (H.length+7) 0 0 0]) ⟨by simp(disch:=first|omega| (simp only[go_sem, ↓reduceIte,seval];first|done|omega)|fail) only[go_sem, ↓reduceIte,seval,F],by simp(disch:=first|omega| (simp only[go_sem, ↓reduceIte,seval];first|done|omega)|fail) only[go_sem, ↓reduceIte,seval,F],by simp(disch:=first|omega| (simp only[go_sem, ↓reduceIte,seval];first|done|omega)|fail) only[go_sem, ↓reduceIte,seval,F],by simp(disch:=first|omega| (simp only[go_sem, ↓reduceIte,seval];first|done|omega)|fail) only[go_sem, ↓reduceIte,seval,F]⟩ ?_)
 rintro t ⟨tq9,tq13,tq10,tq41⟩
 refine EJ.range (gf:=80) (fn:=Tryz.f80) rfl tq41 Tryz.func80 rfl (by kernel_rfl) (by rw[aN (by simp;omega)];simp) fun yl=>?_
 refine sw G hl bel c p op num s ks N yl hn (by kernel_rfl) (by kernel_rfl) rfl rfl (fun y H' Q hq1=>?_) (fun y pre j z Q hp hx ha=>?_) hE (fun j=>?_) (fun j=>?_)
 ·refine wk F ?_
  exact hq1
 ·have xl:=dQ (H:=H) (n:=n) (p:=p) (qv:=qA op num s ks) (c:=c) (N:=N) (fr:=fromK l c) (z:=z) (mo:=false) (pre:=pre) (j:=j)
  have r4:getRow (pgM H n p (qA op num s ks) c N (fromK l c) z false pre j) (H.length+4) 0=some (44,5,[pgV H.length false c pre]):=bL 4 0
  have r2:getRow (pgM H n p (qA op num s ks) c N (fromK l c) z false pre j) (H.length+2) 0=some (3,1,[.int .i64 N]):=bL 2 0
  have r10:getRow (pgM H n p (qA op num s ks) c N (fromK l c) z false pre j) (H.length+10) pre.length=some (3,1,pre.map fun k=>iA k.i):=(bL 10 pre.length).trans (by simp[getRow])
  have m1:(pgM H n p (qA op num s ks) c N (fromK l c) z false pre j).set (H.length+4) (.row 44 5 0 [pgV H.length true c pre])++[Blk.row 92 3 0 [y.av]]=pgM H n p (qA op num s ks) c N (fromK l c) z true pre (j++[.row 92 3 0 [y.av]]):=by rw[uP,dP]
  have a1:=congrArg (· ++ [Blk.row 92 3 0 [y.av]]) (wl (H:=H) (n:=n) (p:=p) (qv:=qA op num s ks) (c:=c) (N:=N) (fr:=fromK l c) (z:=z) (mo:=false) (pre:=pre) (j:=j) y)
  simp only[dP]at a1
  rw[← m1]at hx
  rw[← a1]at ha
  simp only[pgV,Ky.av_eq,iA]at r4 r10 hx ha
  clear m1 a1
  generalize pgM H n p (qA op num s ks) c N (fromK l c) z false pre j=X at*
  have hnX:n+2≤X.length:=by omega
  have hmL:(pre.map fun k=>AVal.int .i64 k.i).length=pre.length:=List.length_map ..
  by_cases hpn:pre.length=N
  ·have hq3:((pre.length:Int)==(N:Int))=true:=by simp[hpn]
   have F:=F8 F tq9 tq13 r4 r2 r10 hq3 @az
   refine wk F ?_
   exact hx hpn _
  ·have hq3:((pre.length:Int)==(N:Int))=false:=by simp;omega
   have F:=F9 F tq9 tq13 r4 r2 r10 hq3 @hmL @az
   refine wk F ?_
   refine aq F ?_
   try refine sq F ?_
   refine wk F ?_
   exact ha (by omega) _
 all_goals (
  show MJ (CT G) _ _ Q1 _ t _
  generalize ((l.drop (fromK l c)).filter fun k=>bel k.i)=bs at hQ1 ⊢
  have xl:(pgM H n p (qA op num s ks) c N (fromK l c) .dead (decide (N<bs.length)) (bs.take N) j).length=_:=dQ
  have r4:getRow (pgM H n p (qA op num s ks) c N (fromK l c) .dead (decide (N<bs.length)) (bs.take N) j) (H.length+4) 0=some (44,5,[pgV H.length (decide (N<bs.length)) c (bs.take N)]):=bL 4 0
  have r3:getRow (pgM H n p (qA op num s ks) c N (fromK l c) .dead (decide (N<bs.length)) (bs.take N) j) (H.length+3) 0=some (44,5,[.agg [.nil (.slice none 0 0),.int .i64 0,.int .i64 0,.bool false,.bool false]]):=bL 3 0
  have r10:getRow (pgM H n p (qA op num s ks) c N (fromK l c) .dead (decide (N<bs.length)) (bs.take N) j) (H.length+10) (bs.take N).length=some (3,1,(bs.take N).map fun k=>iA k.i):=(bL 10 _).trans (by simp[getRow])
  have d11:(pgM H n p (qA op num s ks) c N (fromK l c) .dead (decide (N<bs.length)) (bs.take N) j)[H.length+11]? =some .df:=xQ
  obtain⟨J,hJ⟩:∃J,(pgM H n p (qA op num s ks) c N (fromK l c) .dead (decide (N<bs.length)) (bs.take N) j)=H++J:=⟨_,rfl⟩
  simp only[pgV]at r4
  generalize (pgM H n p (qA op num s ks) c N (fromK l c) .dead (decide (N<bs.length)) (bs.take N) j)=X at*
  have hnX:n+2≤X.length:=by omega
  refine MJ.wp (by kernel_rfl) ?_
  have F:=F6 F tq13 tq10 r4 r3 @az
  refine wk F ?_
  refine(hQ1 _ _ (by rw[eo (by rw[List.length_set];exact hnX) (by omega),List.getElem?_set_ne (by omega)];exact d11) ?_).1
  simp(disch:=first|omega| (simp only[go_sem, ↓reduceIte,seval];first|done|omega)|fail) only[go_sem, ↓reduceIte,seval,F,resA,resL,resA1]
  have hg:=ce (H:=X) (p:=H.length+3) (q:=H.length+10) (.row 44 5 0 [.agg [.hs (H.length+10) (bs.take N).length 0 (bs.take N).length true,.int .i64 (nxC c (bs.take N)).d,.int .i64 (nxC c (bs.take N)).i,.bool (nxC c (bs.take N)).set,.bool (decide (N<bs.length))]]) (bs.take N).length (by omega)
  rw[r10, ← ce (p:=H.length+11) .dead _ (by omega)]at hg
  subst hJ
  rw[bO _ rfl,bO _ rfl]at hg ⊢
  rw[← dH (n:=n) (v:=v) (l:=l) (by rw[List.length_append];omega) _ (by omega)]at hg
  exact cn hn rfl (gm hn) (uQ hn hg) ⟨rfl,rfl⟩)
end
end Go.Av
