/- Events between pages or not, of each item that is there and belongs whenever a page is asked for is told, once: for every two lists of events, every query, number and item the call returns true, and its arguments read as before. -/
import Derived.Test.YtljpbjilgehfgaaGreatMfQc
import Derived.Test.YtljpbjilgehfgaaGreatMfNn
import Derived.Test.YtljpbjilgehfgaaGreatMfZf
set_option linter.unusedSimpArgs false
set_option linter.unusedVariables false
set_option linter.unusedSectionVars false
set_option linter.unnecessarySimpa false
set_option maxRecDepth 100000
set_option maxHeartbeats 16000000
namespace Go.Av
open Go Go.Proofs Go.RowKit
attribute [local irreducible] WP WPl WPix Sat
set_option pp.deepTerms true
set_option pp.maxSteps 200000
variable (G:Nat→Option (List AVal))
end Go.Av
namespace Go.Av
open Go Go.Proofs Go.RowKit
attribute [local irreducible] WP WPl WPix Sat
variable (G:Nat→Option (List AVal))
end Go.Av
namespace Go.Av
open Go Go.Proofs Go.RowKit
variable {s:PS}
end Go.Av
namespace Go.Av
open Go Go.Proofs Go.RowKit
attribute [local irreducible] WP WPl WPix Sat
section
variable {s:PS} {e:Ev}
end
variable (G:Nat→Option (List AVal))
end Go.Av
namespace Go.Av
open Go Go.Proofs Go.RowKit
attribute [local irreducible] WP WPl WPix Sat
section
variable {H H':Heap} {n0 e n:Nat} {rows:List AVal} {v:AVal}
end
section
variable {C:Ctx}
end
end Go.Av
namespace Go.Av
open Go Go.Proofs Go.RowKit
attribute [local irreducible] WP WPl WPix Sat
variable (G:Nat→Option (List AVal))
end Go.Av
namespace Go.Av
open Go Go.Proofs Go.RowKit
attribute [local irreducible] WP WPl WPix Sat
variable (G:Nat→Option (List AVal))
end Go.Av
namespace Go.Av
open Go Go.Proofs Go.RowKit
theorem tZ{l:List Int}(h:l.Nodup):(sortI l).Pairwise (· < ·):=by
 have h1:(sortI l).Pairwise fun a b=>decide (a≤b)=true:=List.pairwise_mergeSort (fun a b c h1 h2=>by simp at *;omega) (fun a b=>by simp;omega) l
 have h2:(sortI l).Nodup:=mR h
 refine List.Pairwise.imp₂ (R:=fun a b=>decide (a≤b)=true) (S:=fun a b=>a≠b) (fun a b hab hne=>?_) h1 h2
 simp at hab;omega
section
variable {α:Type} {z:α} {key:α→Int} {l:ML Int α} {c:Nat}
theorem u5(w:WFM l c)(hid:∀k a,lkM l k=some a→key a=k):((valsM z l).map key).Pairwise (· < ·):=by
 rw[sW w key hid];exact tZ w.keys
end
end Go.Av
namespace Go.Av
open Go Go.Proofs Go.RowKit
def VK(l:List Ky)(s:PS):Prop:=Sk l∧∀k,k∈l↔∃id t,lkM s.it id=some t∧k=t.ky
theorem VK.uniq{l L:List Ky}{s:PS}(h:VK l s)(k:VK L s):l=L:=h.1.uniq k.1 fun x=>by rw[h.2,k.2]
theorem rk{s:PS}(h:s.Inv):(s.tell.it.map (·.id)).Nodup:=
 (u5 (z:=It.z) h.w3 fun k a hk=>(h.i3 k a hk).1).imp fun hab e=>by omega
theorem VK.new{s:PS}(h:s.Inv):VK (srtK (s.tell.it.map It.ky)) s:=by
 have hd:((s.tell.it.map It.ky).map (·.i)).Nodup:=by
  rw[List.map_map];exact rk h
 refine⟨lH hd,fun k=>?_⟩
 rw[sB hd,List.mem_map]
 constructor
 ·rintro⟨t,ht,rfl⟩
  obtain⟨id,hid⟩:=lS (z:=It.z) ht
  exact⟨id,t,hid,rfl⟩
 ·rintro⟨id,t,ht,rfl⟩
  exact⟨t,sV (z:=It.z) ht,rfl⟩
theorem VK.len{l:List Ky}{s:PS}(h:s.Inv)(k:VK l s):l.length≤1024:=by
 rw[k.uniq (VK.new h)]
 have e:(srtK (s.tell.it.map It.ky)).length=s.tell.it.length:=by unfold srtK;rw[kp];simp
 rw[e]
 have:=fj (z:=It.z) s.it
 have:=h.l3
 show(valsM It.z s.it).length≤1024
 omega
theorem VK.same{l:List Ky}{s s':PS}(k:VK l s)(h:∀id,(lkM s'.it id).map It.ky=(lkM s.it id).map It.ky):VK l s':=by
 refine⟨k.1,fun x=>?_⟩
 rw[k.2]
 have e:∀{a b:PS},(∀id,(lkM a.it id).map It.ky=(lkM b.it id).map It.ky)→(∃id t,lkM a.it id=some t∧x=t.ky)→∃id t,lkM b.it id=some t∧x=t.ky:=by
  rintro a b hab ⟨id,t,ht,rfl⟩
  have:=hab id
  rw[ht]at this
  obtain⟨t',ht',he⟩:=Option.map_eq_some_iff.1 this.symm
  exact⟨id,t',ht',he.symm⟩
 exact⟨e fun id=>(h id).symm,e h⟩
theorem VK.up{l:List Ky}{s s':PS}(k:VK l s){id:Int}{c:Nat}{t:It}(h:s'.it=upM s.it c id t)(hs:(lkM s.it id).isSome=true)(ht:t.ky=((lkM s.it id).getD It.z).ky):VK l s':=by
 refine k.same fun x=>?_
 rw[h,bZ]
 split
 ·rename_i e
  subst e
  obtain⟨a,ha⟩:=Option.isSome_iff_exists.1 hs
  rw[ha]at ht ⊢
  simpa using ht
 ·rfl
theorem VK.step{l:List Ky}{s:PS}(h:s.Inv)(k:VK l s)(e:Ev)(hok:s.ok L0 e=true):
  VK (VStepF l e ((lkM (s.aft e).it e.a).getD It.z) (lkM (s.aft e).it e.a).isSome) (s.aft e):=by
 have hit:=mi s e
 have hf:=hok
 unfold PS.ok PS.fits at hf
 rw[Bool.and_eq_true]at hf
 have hf:=hf.2
 unfold VStepF
 by_cases k7:e.kind=7
 ·rw[if_pos k7]
  rw[if_neg (by omega),if_pos k7]at hit
  rw[if_neg (by omega),if_neg (by omega),if_neg (by omega),if_neg (by omega),if_neg (by omega),if_pos k7]at hf
  simp only[Bool.and_eq_true,Bool.not_eq_true']at hf
  have hn:=jJ hf.1.1.1
  have hl:lkM (s.aft e).it e.a=some ⟨e.a,e.b,e.n,e.s,e.t,e.u,false,false,[]⟩:=by rw[hit,bZ,if_pos rfl]
  rw[hl]
  simp only[Option.getD_some,Option.isSome_some,if_true]
  refine⟨lG k.1 fun x hx=>?_,fun x=>?_⟩
  ·obtain⟨id,t,ht,rfl⟩:=(k.2 x).1 hx
   have h1:=(h.i3 id t ht).1
   show t.id≠e.a
   rw[h1]
   intro e2
   rw[e2,hn]at ht;cases ht
  ·rw[im,k.2,hit]
   constructor
   ·rintro(rfl| ⟨id,t,ht,rfl⟩)
    ·exact⟨e.a,_,by rw[bZ,if_pos rfl],rfl⟩
    ·refine⟨id,t,?_,rfl⟩
     rw[bZ,if_neg (fun e2=>by rw[e2,hn]at ht;cases ht)];exact ht
   ·rintro⟨id,t,ht,rfl⟩
    rcases aI ht with⟨rfl,rfl⟩| ⟨_,ht⟩
    ·exact .inl rfl
    ·exact .inr ⟨id,t,ht,rfl⟩
 rw[if_neg k7]
 by_cases k4:e.kind=4
 ·rw[if_pos k4]
  rw[if_pos k4]at hit
  rw[if_neg (by omega),if_neg (by omega),if_neg (by omega),if_pos (.inl k4)]at hf
  obtain⟨f,hfe⟩:=Option.isSome_iff_exists.1 hf
  have hid:((lkM s.fe e.a).getD Fe.z).id=e.a:=by rw[hfe];exact(h.i2 _ _ hfe).1
  rw[hid]at hit
  refine⟨k.1.fil _,fun x=>?_⟩
  rw[List.mem_filter,k.2,hit]
  unfold itF
  constructor
  ·rintro⟨⟨id,t,ht,rfl⟩,hx⟩
   refine⟨id,t,?_,rfl⟩
   rw[ku h.w3.keys (fun t=> !decide (t.feed=e.a)),ht]
   exact Option.filter_some.trans (by rw[if_pos];exact hx)
  ·rintro⟨id,t,ht,rfl⟩
   rw[ku h.w3.keys (fun t=> !decide (t.feed=e.a))]at ht
   obtain⟨h1,h2⟩:=Option.filter_eq_some_iff.1 ht
   exact⟨⟨id,t,h1,rfl⟩,h2⟩
 rw[if_neg k4]
 rw[if_neg k4,if_neg k7]at hit
 by_cases k8:e.kind=8
 ·rw[if_pos k8]at hit
  rw[if_neg (by omega),if_neg (by omega),if_neg (by omega),if_neg (by omega),if_neg (by omega),if_neg (by omega),if_pos (.inl k8)]at hf
  exact k.up hit hf rfl
 rw[if_neg k8]at hit
 by_cases k9:e.kind=9
 ·rw[if_pos k9]at hit
  rw[if_neg (by omega),if_neg (by omega),if_neg (by omega),if_neg (by omega),if_neg (by omega),if_neg (by omega),if_pos (.inr k9)]at hf
  exact k.up hit hf rfl
 rw[if_neg k9]at hit
 by_cases k10:e.kind=10
 ·rw[if_pos k10]at hit
  rw[if_neg (by omega),if_neg (by omega),if_neg (by omega),if_neg (by omega),if_neg (by omega),if_neg (by omega),if_neg (by omega),if_pos k10,Bool.and_eq_true]at hf
  exact k.up hit hf.1 rfl
 rw[if_neg k10]at hit
 exact k.same fun id=>by rw[hit]
end Go.Av
namespace Go.Av
open Go Go.Proofs Go.RowKit
attribute [local irreducible] WP WPl WPix Sat
variable (G:Nat→Option (List AVal))
end Go.Av
namespace Go.Av
open Go Go.Proofs Go.RowKit
attribute [local irreducible] WP WPl WPix Sat
def rkI(l:List Int)(id:Int):Int:=match l.findIdx? (fun x=>decide (x=id))with
 |some k=>(k:Int)+1
 |none=>0
theorem wQ(l:List Ky)(id:Int):ixK (fun k=>decide (k.i=id)) l+1=rkI (l.map (·.i)) id:=by
 unfold ixK rkI
 have e:(l.map (·.i)).findIdx? (fun x=>decide (x=id))=l.findIdx? (fun k=>decide (k.i=id)):=by rw[List.findIdx?_map];rfl
 rw[e]
 cases l.findIdx? (fun k=>decide (k.i=id))<;>rfl
variable (G:Nat→Option (List AVal))
theorem kJ(a b:List Int)(ha:a.length≤1000000)(hb:b.length≤1000000)(h:Heap):Sat (CT G) 24 [.sl 1 (a.map iA),.sl 1 (b.map iA)] h (fun r h'=>r=.bool (decide (a=b))∧h'=h):=by
 have hal:(a.map iA).length=a.length:=List.length_map ..
 have hbl:(b.map iA).length=b.length:=List.length_map ..
 by_cases hlen:a.length=b.length
 ·have hne:((a.length:Int) != (b.length:Int))=false:=by simp[hlen]
  have F:=F3 hal hbl hne
  refine sb [.tmp 4] (fn:=Tryz.f24) Tryz.func24 ?_
  intro Q hQ
  refine wk F ?_
  refine lm (fun nL tL hL=>∃(k:Nat),a.length-k=nL∧h=hL∧tL 5=.int .i64 k∧k≤a.length∧a.take k=b.take k) ((fun(k:Nat)=>(a.length-k:Nat)) (0)) ?_ ?_
  ·refine Wkn.refl ⟨0,rfl,az,?_,by omega,rfl⟩
   all_goals first|exact zq F|rfl|omega|trivial|skip
  rintro _ s2 h' ⟨k,rfl,rfl,e5,hk,hp⟩ K2 hK2
  simp only[ai,aj,Nat.reduceEqDiff, ↓reduceIte]at e5
  have F:=F2 F e5
  refine wk F ?_
  refine cq F (fun c1=>?_) (fun c1=>?_)<;>(try exact c1.elim)<;>(refine wk F ?_)
  ·have c2:k<a.length:=by omega
   have c3:k<b.length:=by omega
   obtain⟨x,hx,_⟩:=af c2
   obtain⟨y,hy,_⟩:=af c3
   have F:=F5 F hx hy c2 c3
   try refine sq F ?_
   refine wk F ?_
   refine cq F (fun c4=>?_) (fun c4=>?_)<;>(try exact c4.elim)<;>(refine wk F ?_)
   ·have e:a≠b:=by rintro rfl;rw[hx]at hy;cases hy;exact c4 rfl
    refine ee hQ (F8 hal hbl hne e5 hx hy c2 c3) ?_
    exact Fin.same (.bool _) ⟨by rw[decide_eq_false e],rfl⟩
   ·have hp1:a.take (k+1)=b.take (k+1):=by rw[List.take_add_one,List.take_add_one,hx,hy,hp,c4]
    refine hK2 _ _ _ (Wkn.refl ⟨k+1,rfl,az,?_,by omega,hp1⟩) (by omega)
    all_goals first|exact zq F|rfl|omega|trivial|skip
  ·have e:a=b:=by
    have:=hp
    rwa [List.take_of_length_le (by omega),List.take_of_length_le (by omega)]at this
   refine ee hQ F ?_
   exact Fin.same (.bool _) ⟨by rw[decide_eq_true e],rfl⟩
 ·have hne:((a.length:Int) != (b.length:Int))=true:=by simp;omega
  have e:a≠b:=by rintro rfl;exact hlen rfl
  have F:=F3 hal hbl hne
  refine sb [.tmp 4] (fn:=Tryz.f24) Tryz.func24 ?_
  intro Q hQ
  refine wk F ?_
  refine ee hQ F ?_
  exact Fin.same (.bool _) ⟨by rw[decide_eq_false e],rfl⟩
end Go.Av
namespace Go.Av
open Go Go.Proofs Go.RowKit
attribute [local irreducible] WP WPl WPix Sat
abbrev qL(op:Int):AVal:=.agg [.int .i64 op,.int .i64 0,.str [],.sl 4 []]
variable (G:Nat→Option (List AVal))
theorem pD(op:Int)(h:Heap):Sat (CT G) 133 [qL op,.int .i64 1] h (fun r h'=>r=.int .i64 1∧h'=h):=by
 have df:∀i:Decidable False, @decide False i=false:=fun i=>by simp
 have F:=df
 refine sb [.tmp 4] (fn:=Tryz.f133) Tryz.func133 ?_
 intro Q hQ
 refine wk F ?_
 refine lm (fun nL tL hL=>∃(k:Nat),0-k=nL∧h++[.row 25 4 0 [qL op]]=hL∧tL 15=.int .i64 k∧tL 5=.int .i64 1∧k≤0) ((fun(k:Nat)=>(0-k:Nat)) (0)) ?_ ?_
 ·refine Wkn.refl ⟨0,rfl,az,?_,?_,Nat.le_refl 0⟩
  all_goals first|exact zq F|rfl|omega|trivial|skip
 rintro _ s2 h' ⟨k,rfl,rfl,e15,e5,hk⟩ K2 hK2
 simp only[ai,aj,Nat.reduceEqDiff, ↓reduceIte]at e15 e5
 have F:=F3 F e15 e5
 refine wk F ?_
 refine cq F (fun c1=>?_) (fun c1=>?_)<;>(try exact c1.elim)<;>(refine wk F ?_)
 ·exact absurd c1 (by omega)
 refine ee hQ F ?_
 exact Fin.plain (.int _ _) ⟨rfl,rfl⟩
theorem mj(op:Int)(h:Heap):Sat (CT G) 77 [qL op] h (fun r h'=>r=.int .i64 1∧h'=h):=by
 refine sb [.tmp 2] (fn:=Tryz.f77) Tryz.func77 ?_
 intro Q hQ
 refine wk trivial ?_
 refine kq trivial (pD G op _) ?_
 refine ee hQ trivial ?_
 exact Fin.plain (.int _ _) ⟨rfl,rfl⟩
theorem ji(op:Int)(h:Heap):Sat (CT G) 78 [qL op] h (fun r h'=>r=.int .i64 1∧h'=h):=by
 refine sb [.tmp 2] (fn:=Tryz.f78) Tryz.func78 ?_
 intro Q hQ
 refine wk trivial ?_
 refine lm (fun nL tL hL=>∃(k:Nat),0-k=nL∧h++[.row 25 4 0 [qL op]]=hL∧tL 9=.int .i64 k∧tL 3=.int .i64 1∧k≤0) ((fun(k:Nat)=>(0-k:Nat)) (0)) ?_ ?_
 ·refine Wkn.refl ⟨0,rfl,az,?_,?_,Nat.le_refl 0⟩
  all_goals first|exact zq trivial|rfl|omega|trivial|skip
 rintro _ s2 h' ⟨k,rfl,rfl,e9,e3,hk⟩ K2 hK2
 simp only[ai,aj,Nat.reduceEqDiff, ↓reduceIte]at e9 e3
 have F:=F2 e9 e3
 refine wk F ?_
 refine cq F (fun c1=>?_) (fun c1=>?_)<;>(try exact c1.elim)<;>(refine wk F ?_)
 ·exact absurd c1 (by omega)
 refine ee hQ F ?_
 exact Fin.plain (.int _ _) ⟨rfl,rfl⟩
theorem vj(f:AVal)(h:Heap):Sat (CT G) 142 [.sl 4 [],f] h (fun r h'=>r=.int .i64 (-1)∧h'=h):=by
 have df:∀i:Decidable False, @decide False i=false:=fun i=>by simp
 have F:=df
 refine sb [.tmp 4] (fn:=Tryz.f142) Tryz.func142 ?_
 intro Q hQ
 refine wk F ?_
 refine lm (fun nL tL hL=>∃(k:Nat),0-k=nL∧h=hL∧tL 8=.int .i64 k∧k≤0) ((fun(k:Nat)=>(0-k:Nat)) (0)) ?_ ?_
 ·refine Wkn.refl ⟨0,rfl,az,?_,Nat.le_refl 0⟩
  all_goals first|exact zq F|rfl|omega|trivial|skip
 rintro _ s2 h' ⟨k,rfl,rfl,e8,hk⟩ K2 hK2
 simp only[ai,aj,Nat.reduceEqDiff, ↓reduceIte]at e8
 have F:=F2 F e8
 refine wk F ?_
 refine cq F (fun c1=>?_) (fun c1=>?_)<;>(try exact c1.elim)<;>(refine wk F ?_)
 ·exact absurd c1 (by omega)
 refine ee hQ F ?_
 exact Fin.same (.int _ _) ⟨rfl,rfl⟩
theorem u6(f:AVal)(h:Heap):Sat (CT G) 89 [.sl 4 [],f] h (fun r h'=>r=.bool false∧h'=h):=by
 have df:∀i:Decidable False, @decide False i=false:=fun i=>by simp
 have F:=df
 refine sb [.tmp 4] (fn:=Tryz.f89) Tryz.func89 ?_
 intro Q hQ
 refine wk F ?_
 refine kq F (vj G f _) ?_
 refine ee hQ F ?_
 exact Fin.same (.bool _) ⟨rfl,rfl⟩
theorem u7(h:Heap):Sat (CT G) 134 [qL 1] h (fun r h'=>r=.bool true∧h'=h):=by
 refine sb [.tmp 2] (fn:=Tryz.f134) Tryz.func134 ?_
 intro Q hQ
 refine wk trivial ?_
 refine ee hQ trivial ?_
 exact Fin.plain (.bool _) ⟨rfl,rfl⟩
theorem rn(h:Heap):Sat (CT G) 135 [qL 1] h (fun r h'=>r=.bool true∧h'=h):=by
 refine sb [.tmp 2] (fn:=Tryz.f135) Tryz.func135 ?_
 intro Q hQ
 refine wk trivial ?_
 refine ee hQ trivial ?_
 exact Fin.plain (.bool _) ⟨rfl,rfl⟩
theorem rt(h:Heap):Sat (CT G) 136 [qL 1] h (fun r h'=>r=.bool true∧h'=h):=by
 refine sb [.tmp 2] (fn:=Tryz.f136) Tryz.func136 ?_
 intro Q hQ
 refine wk trivial ?_
 refine ee hQ trivial ?_
 exact Fin.plain (.bool _) ⟨rfl,rfl⟩
theorem pE(h:Heap):Sat (CT G) 79 [qL 1] h (fun r h'=>r=.bool true∧h'=h):=by
 have df:∀i:Decidable False, @decide False i=false:=fun i=>by simp
 have F:=df
 refine sb [.tmp 2] (fn:=Tryz.f79) Tryz.func79 ?_
 intro Q hQ
 refine wk F ?_
 refine kq F (u7 G _) ?_
 refine kq F (rn G _) ?_
 refine kq F (rt G _) ?_
 refine kq F (u6 G _ _) ?_
 refine ee hQ F ?_
 exact Fin.plain (.bool _) ⟨rfl,rfl⟩
theorem np(h:Heap):Sat (CT G) 79 [qL 0] h (fun r h'=>r=.bool false∧h'=h):=by
 have df:∀i:Decidable False, @decide False i=false:=fun i=>by simp
 have dt:∀i:Decidable True, @decide True i=true:=fun i=>by simp
 have F:=F2 df dt
 refine sb [.tmp 2] (fn:=Tryz.f79) Tryz.func79 ?_
 intro Q hQ
 refine wk F ?_
 refine ee hQ F ?_
 exact Fin.plain (.bool _) ⟨rfl,rfl⟩
theorem dw(h:Heap):Sat (CT G) 37 [qL 1] h (fun r h'=>r=.int .i64 0∧h'=h):=by
 have df:∀i:Decidable False, @decide False i=false:=fun i=>by simp
 have F:=df
 refine sb [.tmp 2] (fn:=Tryz.f37) Tryz.func37 ?_
 intro Q hQ
 refine wk F ?_
 refine kq F (mj G _ _) ?_
 refine kq F (ji G _ _) ?_
 refine kq F (pE G _) ?_
 refine ee hQ F ?_
 exact Fin.plain (.int _ _) ⟨rfl,rfl⟩
theorem nq(h:Heap):Sat (CT G) 37 [qL 0] h (fun r h'=>r=.int .i64 250∧h'=h):=by
 have df:∀i:Decidable False, @decide False i=false:=fun i=>by simp
 have F:=df
 refine sb [.tmp 2] (fn:=Tryz.f37) Tryz.func37 ?_
 intro Q hQ
 refine wk F ?_
 refine kq F (mj G _ _) ?_
 refine kq F (ji G _ _) ?_
 refine kq F (np G _) ?_
 refine ee hQ F ?_
 exact Fin.plain (.int _ _) ⟨rfl,rfl⟩
end Go.Av
namespace Go.Av
open Go Go.Proofs Go.RowKit
attribute [local irreducible] WP WPl WPix Sat
variable (G:Nat→Option (List AVal))
theorem vk(p:Nat)(h:Heap)(hp:p<h.length):Sat (CT G) 48 [.hp p 0 0 0] h (fun r h'=>r=.hp (h.length+1) 0 0 0∧∃j,h'=h++j∧j.length=2):=by
 refine sb [.tmp 2] (fn:=Tryz.f48) Tryz.func48 ?_
 intro Q hQ
 refine wk trivial ?_
 refine ee hQ trivial ?_
 refine Fin.whole (by simp) (.hp _ _ _ _ (by simp)) ⟨rfl,_,rfl,rfl⟩
theorem ua(p:Nat)(t:It)(h:Heap):Sat (CT G) 49 [.hp p 0 0 0,qL 1,t.av] h (fun r h'=>r=.bool true∧h'=h):=by
 have dt:∀i:Decidable True, @decide True i=true:=fun i=>by simp
 have F:=dt
 refine sb [.tmp 6] (fn:=Tryz.f49) Tryz.func49 ?_
 intro Q hQ
 refine wk F ?_
 refine ee hQ F ?_
 exact Fin.plain (.bool _) ⟨rfl,rfl⟩
theorem gL{C:Ctx}{ops:Array Oper}{dst:Option Nat}{op:Op}{ty:TypeId}{pos:String}{aft:Array Edge}{t:Env}{h:Heap}{K:AVal→Heap→Prop}{j d:Nat}{want:Bool}(hd:(ops[j]?).bind (·.dst)=some d)(ht:t d=.bool want)
  (g:wpOperV C ops ⟨dst,op,ty,pos,aft,none⟩ t h K):wpOperV C ops ⟨dst,op,ty,pos,aft,some (j,want)⟩ t h K:=by
 have e:guardA ops t j=some (some want):=by unfold guardA;rw[hd];simp only[ht]
 unfold wpOperV
 simp only[e]
 exact⟨fun _=>g,fun h=>absurd rfl h⟩
theorem ru(p:Nat)(t:It)(b:Bool)(id:Int)(h:Heap)(hp:p<h.length)
  (hI:Sat (CT G) 19 [.hp p 0 0 0,.int .i64 id] (h++[.row 25 4 0 [qL 1]]) (fun r h'=>r=.tup [t.av,.bool b]∧h'=h++[.row 25 4 0 [qL 1]])):
  Sat (CT G) 20 [.hp p 0 0 0,qL 1,.int .i64 id] h (fun r h'=>r=.bool b∧h'=h):=by
 cases b with
 |false=>
  skip
  refine sb [.tmp 6] (fn:=Tryz.f20) Tryz.func20 ?_
  intro Q hQ
  refine wn trivial ?_
  refine kn trivial (hI) ?_
  refine dU (by decide+kernel) (lN G) ?_
  refine sq trivial ?_
  refine wn trivial ?_
  skip
  refine ee hQ trivial ?_
  exact Fin.plain (.bool _) ⟨rfl,rfl⟩
 |true=>
  skip
  refine sb [.tmp 6] (fn:=Tryz.f20) Tryz.func20 ?_
  intro Q hQ
  refine wn trivial ?_
  refine kn trivial (hI) ?_
  refine aL 12 [8,11] [true,true,true,true,true,true,true,true,false,true,true,false] (.one 8 [false,false,false,false,false,false,false,false,false,true,true] (.one 11 [] .fin)) (by decide+kernel) (by kernel_rfl) (by decide+kernel) ?_
  simp only[aR,aS,aK]
  try refine sq trivial ?_
  repeat' (first| (refine ap ?_;try refine sq trivial ?_)| (refine au ?_;try refine sq trivial ?_)| (refine aw ?_ ?_<;>try refine sq trivial ?_))
  all_goals try refine wn trivial ?_
  refine aF (dw G _) ?_
  try refine sq trivial ?_
  refine wn trivial ?_
  repeat' (first| (refine ap ?_;try refine sq trivial ?_)| (refine au ?_;try refine sq trivial ?_)| (refine aw ?_ ?_<;>try refine sq trivial ?_))
  all_goals try refine wn trivial ?_
  refine gL rfl (by exact zq trivial) ?_
  simp(disch:=first|omega| (simp only[go_sem, ↓reduceIte,seval];first|done|omega)|fail) only[go_sem, ↓reduceIte,seval]
  refine(vk G p _ (by simp;omega)).mono ?_
  rintro r h' ⟨rfl,j,rfl,hj⟩
  have F:= @aA
  refine⟨by simp(disch:=first|omega| (simp only[go_sem, ↓reduceIte,seval];first|done|omega)|fail) only[go_sem, ↓reduceIte,seval,F],?_⟩
  repeat' (first| (refine ap ?_;try refine sq F ?_)| (refine au ?_;try refine sq F ?_)| (refine aw ?_ ?_<;>try refine sq F ?_))
  all_goals try refine wn F ?_
  refine gL rfl (by exact zq F) ?_
  simp(disch:=first|omega| (simp only[go_sem, ↓reduceIte,seval];first|done|omega)|fail) only[go_sem, ↓reduceIte,seval,F]
  refine(ua G _ t _).mono ?_
  rintro r h' ⟨rfl,rfl⟩
  repeat' (first| (refine ap ?_;try refine sq F ?_)| (refine au ?_;try refine sq F ?_)| (refine aw ?_ ?_<;>try refine sq F ?_))
  all_goals try refine wn F ?_
  refine ee hQ F ?_
  exact Fin.plain (.bool _) ⟨rfl,rfl⟩
end Go.Av
namespace Go.Av
open Go Go.Proofs Go.RowKit
attribute [local irreducible] WP WPl WPix Sat
def sv(Y:Heap)(n:Nat)(s:PS)(m v:Nat)(l:List Ky):Heap:=so (vo Y m v l) n s
section
variable {Y:Heap} {n m v:Nat} {s:PS} {l:List Ky}
theorem bY(hn:n+9≤m)(hm:m+2≤Y.length):sv Y n s m v l=vo (so Y n s) m v l:=nx (bs:=s.bl n) (cs:=vb m v l) (by show n+9≤Y.length;omega) hm (.inl hn)
@[go_sem] theorem ml(hn:n+9≤m)(hm:m+2≤Y.length)(j:Heap):sv Y n s m v l++j=sv (Y++j) n s m v l:=by
 unfold sv;rw[aH (by rw[aM hm];omega),eN hm]
@[go_sem] theorem rz(hn:n+9≤m)(hm:m+2≤Y.length):(sv Y n s m v l).length=Y.length:=by
 unfold sv;rw[aD (by rw[aM hm];omega),aM hm]
@[go_sem] theorem Ge(hn:n+9≤m)(hm:m+2≤Y.length){p:Nat}(u:Nat)(hp:m+2≤p):getRow (sv Y n s m v l) p u=getRow Y p u:=by
 unfold sv;rw[br (by rw[aM hm];omega) u (by omega),dB hm u hp]
@[go_sem] theorem Gf(hn:n+9≤m)(hm:m+2≤Y.length){p:Nat}(b:Blk)(hp:m+2≤p):(sv Y n s m v l).set p b=sv (Y.set p b) n s m v l:=by
 unfold sv;rw[nB (by rw[aM hm];omega) b (by omega),dC hm b hp]
@[go_sem] theorem rA(hn:n+9≤m)(hm:m+2≤Y.length):abin Tryz.prog (sv Y n s m v l) .eql 31 (.hp (n+8) 0 0 0) (.nil (.pointer none))=some (.bool false):=by
 unfold sv;exact wl (by rw[aM hm];omega)
@[go_sem] theorem Gg(hn:n+9≤m)(hm:m+2≤Y.length):abin Tryz.prog (sv Y n s m v l) .eql 33 (.hp m 0 0 0) (.nil (.pointer none))=some (.bool false):=by
 rw[bY hn hm];exact wt (by rw[aD (by omega)];exact hm)
theorem wR(hn:n+9≤m){h j:Heap}(hm:m+2≤(h++j).length)(hh:h.length≤n):∃j',sv (h++j) n s m v l=h++j':=by
 refine⟨(sv (h++j) n s m v l).drop h.length,?_⟩
 have hl:=rz (s:=s) (v:=v) (l:=l) hn hm
 apply List.ext_getElem?
 intro p
 by_cases hp:p<h.length
 ·rw[List.getElem?_append_left hp]
  unfold sv so vo
  rw[fU (by show n+9≤_;rw[aX hm];omega) (.inl (by omega)),fU hm (.inl (by omega)),List.getElem?_append_left hp]
 ·rw[List.getElem?_append_right (by omega),List.getElem?_drop];congr 1;omega
theorem mm{h:Heap}{R:AVal→Heap→Prop}{b:Bool}(hn:n+9≤m)(hm:m+2≤Y.length)(hp:∃j,Y=h++j)(hh:h.length≤n)(hR:R (.bool b) h):Fin h (sv Y n s m v l) R (.bool b):=by
 obtain⟨j,rfl⟩:=hp
 obtain⟨j',he⟩:=wR (s:=s) (v:=v) (l:=l) hn hm hh
 rw[he]
 exact Fin.plainE (j:=j') rfl (.bool _) hR
end
variable (G:Nat→Option (List AVal))
section
variable {Y:Heap} {n m v:Nat} {s:PS} {l:List Ky}
theorem nX(h:s.Inv)(e:Ev)(hn:n+9≤m)(hm:m+2≤Y.length):Sat (CT G) 21 [.hp (n+8) 0 0 0,e.av] (sv Y n s m v l) (fun r h'=>r=.bool (s.ok L0 e)∧h'=sv Y n (s.step L0 e) m v l):=
 jb G s h e (by rw[aM hm];omega)
theorem jk(h:s.Inv)(id:Int)(hn:n+9≤m)(hm:m+2≤Y.length):Sat (CT G) 19 [.hp (n+8) 0 0 0,.int .i64 id] (sv Y n s m v l) (fun r h'=>r=.tup [((lkM s.it id).getD It.z).av,.bool (lkM s.it id).isSome]∧h'=sv Y n s m v l):=
 iZ G s id (by have:=(h.tags id).2;omega) (by rw[aM hm];omega)
theorem ul(h:s.Inv){H:Heap}{n:Nat}(hn:n+9≤H.length):Sat (CT G) 11 [.hp (n+8) 0 0 0] (so H n s) (fun r h'=>r=.hp H.length 0 0 0∧h'=sv (H++vb H.length 0 []) n s H.length s.tell.it.length (srtK (s.tell.it.map It.ky))):=by
 have h0:=sH G s.tell (.hp (n+8) 0 0 0) (so H n s) (fun j=>by
  rw[aH hn];exact j1 G s h.toOk (by simp;omega)) (by have:=fj (z:=It.z) s.it;have:=h.l3;show(valsM It.z s.it).length≤_;omega) (rk h)
 rw[aD hn]at h0
 refine h0.mono ?_
 rintro r h' ⟨h1,h2⟩
 refine⟨h1,?_⟩
 have e:=lJ (so H n s) s.tell.it.length 0 (srtK (s.tell.it.map It.ky)) []
 rw[aD hn]at e
 rw[h2, ← e,bY hn (by simp[vb]),aH hn]
theorem rB{s:PS}(hk:VK l s)(h:s.Inv)(e:Ev)(hok:s.ok L0 e=true)(hn:n+9≤m)(hm:m+2≤Y.length):Sat (CT G) 22 [.hp m 0 0 0,.hp (n+8) 0 0 0,e.av] (sv Y n (s.aft e) m v l)
  (fun r h'=>r=.tup []∧∃u L,VK L (s.aft e)∧h'=sv Y n (s.aft e) m u L):=by
 have hI:(s.aft e).Inv:=by have:=h.step (L:=L0) e;unfold PS.step at this;rw[if_pos hok]at this;exact this
 have hl:=hk.len h
 rw[bY hn hm]
 refine(qm G (H:=so Y n (s.aft e)) (v:=v) hk.1 (by omega) e (.hp (n+8) 0 0 0) ((lkM (s.aft e).it e.a).getD It.z) (lkM (s.aft e).it e.a).isSome (by rw[aD (by omega)];exact hm) (fun _ j=>?_)).mono ?_
 ·rw[aH (by omega), ← bY hn (by simp;omega)]
  exact jk G hI e.a hn (by simp;omega)
 ·rintro r h' ⟨h1,u,h2⟩
  exact⟨h1,u,_,hk.step h e hok,by rw[h2,bY hn hm]⟩
theorem rC(h:s.Inv)(id:Int)(hn:n+9≤m)(hm:m+2≤Y.length):Sat (CT G) 20 [.hp (n+8) 0 0 0,qL 1,.int .i64 id] (sv Y n s m v l) (fun r h'=>r=.bool (lkM s.it id).isSome∧h'=sv Y n s m v l):=
 ru G (n+8) _ _ id _ (by rw[rz hn hm];omega) (by rw[ml hn hm];exact jk G h id hn (by simp;omega))
theorem zw(hl:l.length≤1048576)(hn:n+9≤m)(hm:m+2≤Y.length):Sat (CT G) 31 [.hp m 0 0 0] (sv Y n s m v l) (fun r h'=>r=.sl 1 ((l.map (·.i)).map iA)∧h'=sv Y n s m v l):=by
 rw[bY hn hm];exact sC G hl (by rw[aD (by omega)];exact hm)
theorem rD(hl:l.length≤1048576)(id:Int)(hn:n+9≤m)(hm:m+2≤Y.length):Sat (CT G) 32 [.hp m 0 0 0,.int .i64 id] (sv Y n s m v l) (fun r h'=>r=.int .i64 (rkI (l.map (·.i)) id)∧h'=sv Y n s m v l):=by
 rw[bY hn hm, ← wQ];exact qi G hl id (by rw[aD (by omega)];exact hm)
end
end Go.Av
namespace Go.Av
open Go Go.Proofs Go.RowKit
attribute [local irreducible] WP WPl WPix Sat SatY
structure Cu where
 d:Int
 i:Int
 set:Bool
def Cu.av(c:Cu):AVal:=.agg [.int .i64 c.d,.int .i64 c.i,.bool c.set]
@[go_sem] theorem Cu.av_eq(c:Cu):c.av=.agg [.int .i64 c.d,.int .i64 c.i,.bool c.set]:=(rfl)
def fromK(l:List Ky)(c:Cu):Nat:=if c.set then pst l ⟨c.d,c.i,0⟩else 0
theorem mn(l:List Ky)(c:Cu):fromK l c≤l.length:=by unfold fromK;split;exact fZ l _;omega
abbrev qA(op num:Int)(s:Bs)(ks:List AVal):AVal:=.agg [.int .i64 op,.int .i64 num,.str s,.sl 4 ks]
def bhB(n:Nat)(sp qv:AVal)(c:Cu)(k:Nat):List Blk:=[.row 33 1 0 [.hp n 0 0 0],.row 31 1 0 [sp],.row 25 4 0 [qv],.row 27 3 0 [c.av],.row 3 1 0 [.int .i64 k]]
theorem jl{P:Program}{h:Heap}{T e p v len n m i:Nat}{rows:List AVal}{k:IntKind}(he:elmT P T=some e)(hg:getRow h p v=some (m,n,rows))(hn:szOf P e=some n)(hi:i<len∨i=0):
  aslice P h T (.hs p v 0 len true) (some (.int k (i:Int))) none none=some (.hs p v i (len-i) true):=by
 simp only[aslice,he,hg,hn,if_true,optInt]
 rw[if_pos ⟨by omega,by omega,by omega,by omega⟩]
 simp
variable (G:Nat→Option (List AVal))
section
variable {l:List Ky} {H:Heap} {n v:Nat}
theorem pF(hs:Sk l)(hl:l.length≤1048576)(c:Cu)(p:Nat)(hp:p<H.length)(op num:Int)(s:Bs)(ks:List AVal)(hn:n+2≤H.length):
  Sat (CT G) 38 [.hp n 0 0 0,.hp p 0 0 0,qA op num s ks,c.av] (vo H n v l)
   (fun r h'=>r=.fn (.func 80) [] [.hp H.length 0 0 0,.hp (H.length+4) 0 0 0,.hp (H.length+1) 0 0 0,.hp (H.length+2) 0 0 0]∧h'=vo (H++bhB n (.hp p 0 0 0) (qA op num s ks) c (fromK l c)) n v l):=by
 have clo:∀N,H.length+5≤N→Clo N (.fn (.func 80) [] [.hp H.length 0 0 0,.hp (H.length+4) 0 0 0,.hp (H.length+1) 0 0 0,.hp (H.length+2) 0 0 0]):=fun N hN=>.fn _ _ _ (fun x hx=>by simp at hx) fun x hx=>by
  simp only[List.mem_cons,List.not_mem_nil,or_false]at hx
  rcases hx with rfl|rfl|rfl|rfl<;>exact .hp _ _ _ _ (by omega)
 obtain⟨d,i,st⟩:=c
 cases st with
 |false=>
  have hf:fromK l ⟨d,i,false⟩=0:=rfl
  have F:= @aA
  refine sb [.tmp 8] (fn:=Tryz.f38) Tryz.func38 ?_
  intro Q hQ
  refine wk F ?_
  refine ee hQ F ?_
  exact Fin.whole (by rw[aM hn,aM (by simp;omega)];simp) (clo _ (by rw[aM (by simp;omega)];simp)) ⟨rfl,by rw[hf];rfl⟩
 |true=>
  have hf:fromK l ⟨d,i,true⟩=pst l ⟨d,i,0⟩:=rfl
  have hP:=io G (v:=v) (n:=n) hs hl ⟨d,i,0⟩ (H:=H++[Blk.row 33 1 0 [.hp n 0 0 0],.row 31 1 0 [.hp p 0 0 0],.row 25 4 0 [qA op num s ks],.row 27 3 0 [.agg [.int .i64 d,.int .i64 i,.bool true]],.row 3 1 0 [.int .i64 0]]) (by simp;omega)
  have F:= @aA
  refine sb [.tmp 8] (fn:=Tryz.f38) Tryz.func38 ?_
  intro Q hQ
  refine wk F ?_
  refine kq F (hP) ?_
  refine ee hQ F ?_
  exact Fin.whole (by rw[aM hn,aM (by simp;omega)];simp) (clo _ (by rw[aM (by simp;omega)];simp)) ⟨rfl,by rw[hf];rfl⟩
theorem vl(hl:l.length≤1048576)(bel:Int→Bool)(N yl q b0 p:Nat)(op num:Int)(s:Bs)(ks:List AVal)(B Bs:List Ky→Heap→Heap)(fr:Nat)(hfr:fr≤l.length)
  (hB:∀pre j j',B pre j++j'=B pre (j++j'))(hBl:∀pre j,(B pre j).length=b0+j.length)(hBsl:∀pre j,(Bs pre j).length=b0+j.length)(hb0:q+5≤b0)(hq:n+2≤q)
  (hr0:∀pre j,getRow (B pre j) q 0=some (33,1,[.hp n 0 0 0]))(hr1:∀pre j,getRow (B pre j) (q+1) 0=some (31,1,[.hp p 0 0 0]))(hr2:∀pre j,getRow (B pre j) (q+2) 0=some (25,4,[qA op num s ks]))(hr4:∀pre j,getRow (B pre j) (q+4) 0=some (3,1,[.int .i64 fr]))
  (hE:∀pre j id,Sat (CT G) 20 [.hp p 0 0 0,qA op num s ks,.int .i64 id] (vo (B pre j) n v l) (fun r h'=>r=.bool (bel id)∧h'=vo (B pre j) n v l))
  (hY:∀pre j y,pre.length≤N→SatY (CT G) yl [y.av] (vo (B pre j) n v l) (fun r h'=>∃j',j.length≤j'.length∧((pre.length<N∧r=.bool true∧h'=vo (B (pre++[y]) j') n v l)∨(pre.length=N∧r=.bool false∧h'=vo (Bs pre j') n v l))))(j0:Heap):
  Sat (CT G) 80 [.fn (.yield yl) [] [],.hp q 0 0 0,.hp (q+4) 0 0 0,.hp (q+1) 0 0 0,.hp (q+2) 0 0 0] (vo (B [] j0) n v l)
   (fun _ h'=>∃j,(((l.drop fr).filter fun k=>bel k.i).length≤N∧h'=vo (B ((l.drop fr).filter fun k=>bel k.i) j) n v l)∨(N<((l.drop fr).filter fun k=>bel k.i).length∧h'=vo (Bs (((l.drop fr).filter fun k=>bel k.i).take N) j) n v l)):=by
 have ct:∀N,Clo N (.tup []):=fun N=>.tup _ (fun x hx=>by simp at hx)
 have hn:∀pre j,n+2≤(B pre j).length:=fun pre j=>by rw[hBl];omega
 have hn':∀pre j (x:Blk),n+2≤(B pre j++[x]).length:=fun pre j x=>by rw[List.length_append,hBl];omega
 have hns:∀pre j,n+2≤(Bs pre j).length:=fun pre j=>by rw[hBsl];omega
 have hnA:=hn [] j0
 have v0:=hr0 [] j0
 have v4:=hr4 [] j0
 by_cases h0:fr=l.length∧0<fr
 ·have hd:l.drop fr=[]:=by rw[h0.1,List.drop_length]
  have hsl:=iT (P:=Tryz.prog) (T:=80) (k:=.i64) (len:=l.length) (i:=fr) (by simp only[go_sem];try rfl) (bF (l:=l) (v:=v) hnA) (by simp only[go_sem];try rfl) h0.1 h0.2
  have F:=F3 v0 v4 hsl
  refine sb [] (fn:=Tryz.f80) Tryz.func80 ?_
  intro Q hQ
  refine wk F ?_
  refine lm (fun nL tL hL=>∃(k:Nat),0-k=nL∧vo (B [] j0) n v l=hL∧tL 15=.int .i64 k∧k≤0) ((fun(k:Nat)=>(0-k:Nat)) (0)) ?_ ?_
  ·refine Wkn.refl ⟨0,rfl,az,?_,Nat.le_refl 0⟩
   all_goals first|exact zq F|rfl|omega|trivial|skip
  rintro _ s2 h' ⟨k,rfl,rfl,e15,hk⟩ K2 hK2
  simp only[ai,aj,Nat.reduceEqDiff, ↓reduceIte]at e15
  have F:=F2 F e15
  refine wk F ?_
  refine cq F (fun c1=>?_) (fun c1=>?_)<;>(try exact c1.elim)<;>(refine wk F ?_)
  ·exact absurd c1 (by omega)
  refine ee hQ F ?_
  exact Fin.whole (Nat.le_refl _) (ct _) ⟨j0,.inl (by rw[hd];exact⟨Nat.zero_le _,rfl⟩)⟩
 have hlt:fr<l.length∨fr=0:=by omega
 have hsl:=jl (P:=Tryz.prog) (T:=80) (k:=.i64) (len:=l.length) (i:=fr) (by simp only[go_sem];try rfl) (bF (l:=l) (v:=v) hnA) (by simp only[go_sem];try rfl) hlt
 have F:=F3 v0 v4 hsl
 refine sb [] (fn:=Tryz.f80) Tryz.func80 ?_
 intro Q hQ
 refine wk F ?_
 refine lm (fun nL tL hL=>∃(k:Nat) (j:Heap),l.length-fr-k=nL∧vo (B (((l.drop fr).take k).filter fun k=>bel k.i) j) n v l=hL∧tL 15=.int .i64 k∧k≤l.length-fr∧j0.length≤j.length∧(((l.drop fr).take k).filter fun k=>bel k.i).length≤N) ((fun(k:Nat) (j:Heap)=>(l.length-fr-k:Nat)) (0) (j0)) ?_ ?_
 ·refine Wkn.refl ⟨0,j0,rfl,az,?_,by omega,by omega,by simp⟩
  all_goals first|exact zq F|rfl|omega|trivial|skip
 rintro _ s2 h' ⟨k,j,rfl,rfl,e15,hk,hj,hp⟩ K2 hK2
 simp only[ai,aj,Nat.reduceEqDiff, ↓reduceIte]at e15
 have F:=F2 F e15
 refine wk F ?_
 refine cq F (fun c1=>?_) (fun c1=>?_)<;>(try exact c1.elim)<;>(refine wk F ?_)
 ·have c2:fr+k<l.length:=by omega
  have c3:k<l.length-fr:=by omega
  obtain⟨y,hy,hym⟩:=af c2
  have hyd:(l.drop fr)[k]? =some y:=by rw[List.getElem?_drop];exact hy
  have hfl:(((l.drop fr).take (k+1)).filter fun k=>bel k.i)=(((l.drop fr).take k).filter fun k=>bel k.i)++if bel y.i then [y]else []:=by
   rw[List.take_add_one,hyd,Option.toList_some,List.filter_append,List.filter_cons,List.filter_nil]
  have hwh:bel y.i=true→((l.drop fr).filter fun k=>bel k.i)=(((l.drop fr).take k).filter fun k=>bel k.i)++y::(((l.drop fr).drop (k+1)).filter fun k=>bel k.i):=fun hb=>by
   have e1:((l.drop fr).filter fun k=>bel k.i)=(((l.drop fr).take (k+1)++(l.drop fr).drop (k+1)).filter fun k=>bel k.i):=by rw[List.take_append_drop]
   rw[e1,List.filter_append,hfl,if_pos hb,List.append_assoc];rfl
  generalize (((l.drop fr).take k).filter fun k=>bel k.i)=pre at hp hfl hwh ⊢
  have hE1:=hE pre (j++[.row 92 3 0 [y.av]]) y.i
  have hY1:=hY pre (j++[.row 92 3 0 [y.av]]) y hp
  have hb1:∀p,p<b0→∀u x,getRow (B pre j++[x]) p u=getRow (B pre j) p u:=fun p hp u x=>bg _ (by rw[hBl];omega)
  have g1:getRow (B pre j++[.row 92 3 0 [y.av]]) (q+1) 0=some (31,1,[.hp p 0 0 0]):=by rw[hb1 _ (by omega)];exact hr1 _ _
  have g2:getRow (B pre j++[.row 92 3 0 [y.av]]) (q+2) 0=some (25,4,[qA op num s ks]):=by rw[hb1 _ (by omega)];exact hr2 _ _
  rw[← hB]at hE1 hY1
  rw[Ky.av_eq]at hE1 hY1 g1 g2
  have hnB:=hn pre j
  have hnC:=hn' pre j (.row 92 3 0 [.agg [.int .i64 y.d,.int .i64 y.i,.int .i64 y.f]])
  cases hb:bel y.i with
  |false=>
   rw[hb]at hE1 hfl
   have F:=F7 F hy c2 c3 g1 g2 @aA
   try refine sq F ?_
   refine wk F ?_
   refine kq F (hE1) ?_
   refine hK2 _ _ _ (Wkn.refl ⟨k+1,j++[.row 92 3 0 [y.av]],rfl,by rw[hfl];simp[hB,Ky.av],?_,by omega,by simp;omega,by rw[hfl];simpa using hp⟩) (by omega)
   all_goals first|exact zq F|rfl|omega|trivial|skip
  |true=>
   rw[hb]at hE1 hfl
   have hwh:=hwh hb
   have F:=F7 F hy c2 c3 g1 g2 @aA
   try refine sq F ?_
   refine wk F ?_
   refine kq F (hE1) ?_
   refine hY1.mono ?_
   rintro r h' ⟨j',hj',⟨hlt2,rfl,rfl⟩| ⟨heq,rfl,rfl⟩⟩
   ·try refine sq F ?_
    refine wk F ?_
    refine hK2 _ _ _ (Wkn.refl ⟨k+1,j',rfl,by rw[hfl];rfl,?_,by omega,by simp at hj';omega,by rw[hfl];simp;omega⟩) (by omega)
    all_goals first|exact zq F|rfl|omega|trivial|skip
   ·try refine sq F ?_
    refine wk F ?_
    refine ee hQ F ?_
    refine Fin.whole (by rw[aM (hn _ _),aM (hns _ _),hBl,hBsl];simp at hj';omega) (ct _) ⟨j',.inr ⟨by rw[hwh];simp;omega,?_⟩⟩
    rw[hwh, ← heq,List.take_left' rfl]
 ·have e:k=l.length-fr:=by omega
  subst e
  have ht:(l.drop fr).take (l.length-fr)=l.drop fr:=List.take_of_length_le (by simp)
  rw[ht]at hp ⊢
  refine ee hQ F ?_
  exact Fin.whole (by rw[aM (hn _ _),aM (hn _ _),hBl,hBl];omega) (ct _) ⟨j,.inl ⟨hp,rfl⟩⟩
end
end Go.Av
namespace Go.Av
open Go Go.Proofs Go.RowKit
attribute [local irreducible] WP WPl WPix Sat SatY
def nxC(c:Cu)(pre:List Ky):Cu:=match pre.getLast? with
 |none=>c
 |some k=>⟨k.d,k.i,true⟩
theorem nY(c:Cu)(pre:List Ky)(y:Ky):nxC c (pre++[y])=⟨y.d,y.i,true⟩:=by unfold nxC;rw[List.getLast?_concat]
def pgV(L:Nat)(mo:Bool)(c:Cu)(pre:List Ky):AVal:=.agg [.hs (L+10) pre.length 0 pre.length true,.int .i64 (nxC c pre).d,.int .i64 (nxC c pre).i,.bool (nxC c pre).set,.bool mo]
def pgM(H:Heap)(n p:Nat)(qv:AVal)(c:Cu)(N:Int)(fr:Nat)(z:Blk)(mo:Bool)(pre:List Ky)(j:Heap):Heap:=
 H++(.row 25 4 0 [qv]:: .row 27 3 0 [c.av]:: .row 3 1 0 [.int .i64 N]:: .row 44 5 0 [.agg [.nil (.slice none 0 0),.int .i64 0,.int .i64 0,.bool false,.bool false]]::
  .row 44 5 0 [pgV H.length mo c pre]:: .row 33 1 0 [.hp n 0 0 0]:: .row 31 1 0 [.hp p 0 0 0]:: .row 25 4 0 [qv]:: .row 27 3 0 [c.av]:: .row 3 1 0 [.int .i64 fr]::
  .row 3 1 pre.length (pre.map fun k=>iA k.i):: .df::z::j)
def pgA(c:Cu)(bs:List Ky)(N:Nat):AVal:=.agg [.sl 1 ((bs.take N).map fun k=>iA k.i),.int .i64 (nxC c (bs.take N)).d,.int .i64 (nxC c (bs.take N)).i,.bool (nxC c (bs.take N)).set,.bool (decide (N<bs.length))]
section
variable {H:Heap} {n p:Nat} {qv:AVal} {c:Cu} {N:Int} {fr:Nat} {z:Blk} {mo:Bool} {pre:List Ky} {j:Heap}
theorem dJ(j':Heap):pgM H n p qv c N fr z mo pre j++j'=pgM H n p qv c N fr z mo pre (j++j'):=by simp[pgM]
theorem dK:(pgM H n p qv c N fr z mo pre j).length=H.length+13+j.length:=by simp[pgM];omega
theorem dL:(pgM H n p qv c N fr z mo pre j)[H.length+12]? =some z:=by
 unfold pgM;rw[List.getElem?_append_right (by omega),Nat.add_sub_cancel_left];rfl
theorem wT:(pgM H n p qv c N fr z mo pre j)[H.length+11]? =some .df:=by
 unfold pgM;rw[List.getElem?_append_right (by omega),Nat.add_sub_cancel_left];rfl
theorem eT(z':Blk):(pgM H n p qv c N fr z mo pre j).set (H.length+12) z'=pgM H n p qv c N fr z' mo pre j:=by
 unfold pgM;rw[dR _ rfl];rfl
theorem bH(k v:Nat):getRow (pgM H n p qv c N fr z mo pre j) (H.length+k) v=getRow (.row 25 4 0 [qv]:: .row 27 3 0 [c.av]:: .row 3 1 0 [.int .i64 N]:: .row 44 5 0 [.agg [.nil (.slice none 0 0),.int .i64 0,.int .i64 0,.bool false,.bool false]]::
  .row 44 5 0 [pgV H.length mo c pre]:: .row 33 1 0 [.hp n 0 0 0]:: .row 31 1 0 [.hp p 0 0 0]:: .row 25 4 0 [qv]:: .row 27 3 0 [c.av]:: .row 3 1 0 [.int .i64 fr]::
  .row 3 1 pre.length (pre.map fun k=>iA k.i):: .df::z::j) k v:=bk v rfl
theorem ub:(pgM H n p qv c N fr z mo pre j).set (H.length+4) (.row 44 5 0 [pgV H.length true c pre])=pgM H n p qv c N fr z true pre j:=by
 unfold pgM;rw[dR _ rfl];rfl
theorem vm(y:Ky):((pgM H n p qv c N fr z mo pre j).set (H.length+10) (.row 3 1 (pre.length+1) ((pre.map fun k=>iA k.i)++[iA y.i]))).set (H.length+4) (.row 44 5 0 [.agg [.hs (H.length+10) (pre.length+1) 0 (pre.length+1) true,.int .i64 y.d,.int .i64 y.i,.bool true,.bool mo]])=pgM H n p qv c N fr z mo (pre++[y]) j:=by
 unfold pgM;rw[dR _ rfl,dR _ rfl]
 simp only[List.set_cons_succ,List.set_cons_zero,pgV,nY,List.length_append,List.length_singleton,List.map_append,List.map_cons,List.map_nil]
end
theorem uc{H Z:Heap}{n:Nat}{c:Cu}{bs:List Ky}{N L:Nat}(_hn:n+2≤H.length)(hg:getRow Z (H.length+10) (bs.take N).length=some (L,1,(bs.take N).map fun k=>iA k.i)):
  Frz Z H.length (.tup [.agg [.hs (H.length+10) (bs.take N).length 0 (bs.take N).length true,.int .i64 (nxC c (bs.take N)).d,.int .i64 (nxC c (bs.take N)).i,.bool (nxC c (bs.take N)).set,.bool (decide (N<bs.length))],.int .i64 0]) (.tup [pgA c bs N,.int .i64 0]):=by
 refine .tup _ _ rfl fun i a b ha hb=>?_
 match i with
 |0=>
  simp only[List.getElem?_cons_zero,Option.some.injEq]at ha hb
  subst ha;subst hb
  refine .agg _ _ rfl (fun d hd=>?_) fun i a b ha hb=>?_
  ·simp only[List.mem_cons,List.not_mem_nil,or_false]at hd
   rcases hd with rfl|rfl|rfl|rfl|rfl<;>rfl
  ·match i with
   |0=>
    simp only[List.getElem?_cons_zero,Option.some.injEq]at ha hb
    subst ha;subst hb
    refine Frz.data (by omega) hg (by simp) (fun r hr=>?_) (fun r hr=>?_)
    ·obtain⟨x,_,rfl⟩:=List.mem_map.1 hr;exact .int _ _
    ·obtain⟨x,_,rfl⟩:=List.mem_map.1 hr;intro c hc;simp[AVal.cells,iA]at hc;subst hc;rfl
   |1=>simp at ha hb;subst ha;subst hb;exact .clo _ (.int _ _)
   |2=>simp at ha hb;subst ha;subst hb;exact .clo _ (.int _ _)
   |3=>simp at ha hb;subst ha;subst hb;exact .clo _ (.bool _)
   |4=>simp at ha hb;subst ha;subst hb;exact .clo _ (.bool _)
   |i+5=>simp at ha
 |1=>simp at ha hb;subst ha;subst hb;exact .clo _ (.int _ _)
 |i+2=>simp at ha
theorem dZ{H:Heap}{n v:Nat}{l:List Ky}(hn:n+2≤H.length){p:Nat}(hp:n+2≤p):(vo H n v l)[p]? =H[p]? :=fU hn (.inr hp)
variable (G:Nat→Option (List AVal))
section
variable {l:List Ky} {H:Heap} {n v:Nat}
theorem rE{ass body:Code}{k:Nat}{t:Env}{Q1:Exit→Env→Heap→Prop}(hl:l.length≤1048576)(bel:Int→Bool)(c:Cu)(p:Nat)(op num:Int)(s:Bs)(ks:List AVal)(N yl:Nat)(hn:n+2≤H.length)
  (okA:okCode k ass=true)(okB:okCode k body=true)(flA:flat ass=true)(flB:flat body=true)
  (hA:∀(y:Ky) (H':Heap) (Q:Exit→Env→Heap→Prop),Q .normal (upd (upd t 42 y.av) 14 (.hp H'.length 0 0 0)) (H'++[.row 92 3 0 [y.av]])→WP (CT G) ass Q (upd t 42 y.av) H')
  (hB:∀(y:Ky) (pre:List Ky) (j:Heap) (z:Blk) (Q:Exit→Env→Heap→Prop),pre.length≤N→
   (pre.length=N→∀t',Q (.exit 0) t' (vo (pgM H n p (qA op num s ks) c N (fromK l c) z true pre (j++[.row 92 3 0 [y.av]])) n v l))→
   (pre.length<N→∀t',Q .normal t' (vo (pgM H n p (qA op num s ks) c N (fromK l c) z false (pre++[y]) (j++[.row 92 3 0 [y.av]])) n v l))→
   WP (CT G) body Q (upd (upd t 42 y.av) 14 (.hp (H.length+13+j.length) 0 0 0)) (vo (pgM H n p (qA op num s ks) c N (fromK l c) z false pre j++[.row 92 3 0 [y.av]]) n v l))
  (hE:∀j id,Sat (CT G) 20 [.hp p 0 0 0,qA op num s ks,.int .i64 id] (vo (H++j) n v l) (fun r h'=>r=.bool (bel id)∧h'=vo (H++j) n v l))
  (f0:∀j,Q1 .normal t (vo (pgM H n p (qA op num s ks) c N (fromK l c) .dead (decide (N<((l.drop (fromK l c)).filter fun k=>bel k.i).length)) (((l.drop (fromK l c)).filter fun k=>bel k.i).take N) j) n v l))
  (f1:∀j,Q1 (.exit 0) t (vo (pgM H n p (qA op num s ks) c N (fromK l c) .dead (decide (N<((l.drop (fromK l c)).filter fun k=>bel k.i).length)) (((l.drop (fromK l c)).filter fun k=>bel k.i).take N) j) n v l)):
  Sat (CT G) 80 [.fn (.yield yl) [] [],.hp (H.length+5) 0 0 0,.hp (H.length+9) 0 0 0,.hp (H.length+6) 0 0 0,.hp (H.length+7) 0 0 0]
   (vo (H++[Blk.row 25 4 0 [qA op num s ks],.row 27 3 0 [.agg [.int .i64 c.d,.int .i64 c.i,.bool c.set]],.row 3 1 0 [.int .i64 N],.row 44 5 0 [.agg [.nil (.slice none 0 0),.int .i64 0,.int .i64 0,.bool false,.bool false]],.row 44 5 0 [.agg [.hs (H.length+10) 0 0 0 true,.int .i64 c.d,.int .i64 c.i,.bool c.set,.bool false]],.row 33 1 0 [.hp n 0 0 0],.row 31 1 0 [.hp p 0 0 0],.row 25 4 0 [qA op num s ks],.row 27 3 0 [.agg [.int .i64 c.d,.int .i64 c.i,.bool c.set]],.row 3 1 0 [.int .i64 (fromK l c)],.row 3 1 0 []]) n v l++[.df,.lp yl k t #[42] ass body .ready none]) (rangeQ (H.length+11) yl k t #[42] ass body Q1):=by
 have hnM:∀{z:Blk} {mo:Bool} {pre:List Ky} {j:Heap},n+2≤(pgM H n p (qA op num s ks) c N (fromK l c) z mo pre j).length:=by intro z mo pre j;rw[dK];omega
 have hseq:=vl G (v:=v) (n:=n) hl bel N yl (H.length+5) (H.length+13) p op num s ks (fun pre j=>pgM H n p (qA op num s ks) c N (fromK l c) (.lp yl k t #[42] ass body .ready none) false pre j) (fun pre j=>pgM H n p (qA op num s ks) c N (fromK l c) (.lp yl k t #[42] ass body .done (some (.exit 0))) true pre j) (fromK l c) (mn l c)
  (fun pre j j'=>dJ j') (fun pre j=>dK) (fun pre j=>dK) (by omega) (by omega) (fun pre j=>bH 5 0) (fun pre j=>bH 6 0) (fun pre j=>bH 7 0) (fun pre j=>bH 9 0)
  (fun pre j id=>hE _ id) (fun pre j y hp=>?_) []
 ·have e0:vo (H++[Blk.row 25 4 0 [qA op num s ks],.row 27 3 0 [.agg [.int .i64 c.d,.int .i64 c.i,.bool c.set]],.row 3 1 0 [.int .i64 N],.row 44 5 0 [.agg [.nil (.slice none 0 0),.int .i64 0,.int .i64 0,.bool false,.bool false]],.row 44 5 0 [.agg [.hs (H.length+10) 0 0 0 true,.int .i64 c.d,.int .i64 c.i,.bool c.set,.bool false]],.row 33 1 0 [.hp n 0 0 0],.row 31 1 0 [.hp p 0 0 0],.row 25 4 0 [qA op num s ks],.row 27 3 0 [.agg [.int .i64 c.d,.int .i64 c.i,.bool c.set]],.row 3 1 0 [.int .i64 (fromK l c)],.row 3 1 0 []]) n v l++[.df,.lp yl k t #[42] ass body .ready none]=vo (pgM H n p (qA op num s ks) c N (fromK l c) (.lp yl k t #[42] ass body .ready none) false [] []) n v l:=by
   rw[eN (by simp;omega)]
   simp[pgM,pgV,nxC,Cu.av]
  rw[e0]
  refine hseq.mono ?_
  rintro r h' ⟨j,⟨hle,rfl⟩| ⟨hlt,rfl⟩⟩
  ·refine⟨.ready,none,by rw[dZ hnM (by omega)];exact dL,by simp,?_⟩
   have:=f0 j
   rw[List.take_of_length_le hle,decide_eq_false (by omega)]at this
   show Q1 .normal t _
   rw[dC hnM _ (by omega),eT]
   exact this
  ·refine⟨.done,some (.exit 0),by rw[dZ hnM (by omega)];exact dL,by simp,?_⟩
   have:=f1 j
   rw[decide_eq_true hlt]at this
   show Q1 (.exit 0) t _
   rw[dC hnM _ (by omega),eT]
   exact this
 ·refine SatY.roundQ (p:=H.length+12) (by rw[dZ hnM (by omega)];exact dL) okA okB flA flB fun Qa ha=>hA y _ Qa (ha _ _ ?_ fun Qb hb he=>?_)
  ·rw[eN hnM,dZ (by rw[List.length_append];have:=hnM (z:=.lp yl k t #[42] ass body .ready none) (mo:=false) (pre:=pre) (j:=j);omega) (by omega),dJ];exact dL
  ·have e1:(vo (pgM H n p (qA op num s ks) c N (fromK l c) (.lp yl k t #[42] ass body .ready none) false pre j) n v l++[Blk.row 92 3 0 [y.av]]).set (H.length+12) (.lp yl k t #[42] ass body .busy none)=vo (pgM H n p (qA op num s ks) c N (fromK l c) (.lp yl k t #[42] ass body .busy none) false pre j++[.row 92 3 0 [y.av]]) n v l:=by
    rw[eN hnM,dJ,dC hnM _ (by omega),eT,dJ]
   rw[e1,aM hnM,dK]
   refine hB y pre j _ Qb hp (fun e t'=>he 0 _ _ ?_ ?_) fun e t'=>hb _ _ ?_ ?_
   ·rw[dZ hnM (by omega)];exact dL
   ·rw[dC hnM _ (by omega),eT]
    exact⟨_,by simp,.inr ⟨e,rfl,rfl⟩⟩
   ·rw[dZ hnM (by omega)];exact dL
   ·rw[dC hnM _ (by omega),eT]
    exact⟨_,by simp,.inl ⟨e,rfl,rfl⟩⟩
theorem mq(hs:Sk l)(hl:l.length≤1048576)(bel:Int→Bool)(c:Cu)(p:Nat)(hp:p<H.length)(op num:Int)(s:Bs)(ks:List AVal)(N:Nat)(hN:1≤N∧N≤100)(hn:n+2≤H.length)
  (hq:∀j,abin Tryz.prog (vo (H++j) n v l) .eql 31 (.hp p 0 0 0) (.nil (.pointer none))=some (.bool false))
  (hC:∀j,Sat (CT G) 37 [qA op num s ks] (vo (H++j) n v l) (fun r h'=>r=.int .i64 0∧h'=vo (H++j) n v l))
  (hE:∀j id,Sat (CT G) 20 [.hp p 0 0 0,qA op num s ks,.int .i64 id] (vo (H++j) n v l) (fun r h'=>r=.bool (bel id)∧h'=vo (H++j) n v l)):
  Sat (CT G) 13 [.hp n 0 0 0,.hp p 0 0 0,qA op num s ks,c.av,.int .i64 N] (vo H n v l)
   (fun r h'=>r=.tup [pgA c ((l.drop (fromK l c)).filter fun k=>bel k.i) N,.int .i64 0]∧h'=vo H n v l):=by
 have hfr:=mn l c
 have hCh:=hC [.row 25 4 0 [qA op num s ks],.row 27 3 0 [c.av],.row 3 1 0 [.int .i64 N],.row 44 5 0 [.agg [.nil (.slice none 0 0),.int .i64 0,.int .i64 0,.bool false,.bool false]]]
 rw[Cu.av_eq]at hCh
 have n1:decide ((N:Int)<1)=false:=by simp;omega
 have n2:decide ((N:Int)>100)=false:=by simp;omega
 have df:∀i:Decidable False, @decide False i=false:=fun i=>by simp
 skip
 refine Sat.range [.cell 10 44,.tmp 11] (fn:=Tryz.f13) (H.length+11) Tryz.func13 ?_
 intro Q0 Q1 hQ hQ1
 have F:=F5 hq n1 n2 df @aA
 refine EJ.seq1 (by kernel_rfl) fun KK kK=>?_
 refine wk F ?_
 refine kK _ _ (w0 ?_)
 clear kK KK
 refine EJ.seq1 (by kernel_rfl) fun KK kK=>?_
 refine wk F ?_
 refine kK _ _ (w0 ?_)
 clear kK KK
 refine EJ.seq1 (by kernel_rfl) fun KK kK=>?_
 refine wk F ?_
 refine kq F (hCh) ?_
 refine kK _ _ (w0 ?_)
 clear kK KK
 refine EJ.seq1 (by kernel_rfl) fun KK kK=>?_
 refine wk F ?_
 refine kK _ _ (w0 ?_)
 clear kK KK
 refine EJ.seq1 (by kernel_rfl) fun KK kK=>?_
 refine wk F ?_
 refine kK _ _ (w0 ?_)
 clear kK KK
 refine EJ.seq2 (EJ.seq1 (by kernel_rfl) fun KK kK=>?_)
 refine wk F ?_
 have hBh:=pF G (v:=v) (n:=n) hs hl c p (H:=H++[Blk.row 25 4 0 [qA op num s ks],.row 27 3 0 [c.av],.row 3 1 0 [.int .i64 N],.row 44 5 0 [.agg [.nil (.slice none 0 0),.int .i64 0,.int .i64 0,.bool false,.bool false]],.row 44 5 0 [.agg [.nil (.slice none 0 0),.int .i64 c.d,.int .i64 c.i,.bool c.set,.bool false]]]) (by simp;omega) op num s ks (by simp;omega)
 simp only[List.length_append,List.length_cons,List.length_nil,Nat.reduceAdd,Nat.zero_add,Nat.add_assoc,bhB,List.append_assoc,List.cons_append,List.nil_append,Cu.av_eq]at hBh
 refine kq F (hBh) ?_
 refine kK _ _ ⟨_,_,Weak.virtCell (p:=H.length+4) (v:=0) 3 1 (by omega) (by simp(disch:=first|omega| (simp only[go_sem, ↓reduceIte,seval];first|done|omega)|fail) only[go_sem, ↓reduceIte,seval,F];rfl) 0 rfl,?_⟩
 clear kK KK
 try refine sq F ?_
 refine EJ.block (EJ.forget (P:=fun t=>t 9=.hp (H.length+2) 0 0 0∧t 13=.hp (H.length+4) 0 0 0∧t 10=.hp (H.length+3) 0 0 0∧t 41=.fn (.func 80) [] [.hp (H.length+5) 0 0 0,.hp (H.length+9) 0 0 0,.hp (H.length+6) 0 0 0,.hp (H.length+7) 0 0 0]) ⟨by simp(disch:=first|omega| (simp only[go_sem, ↓reduceIte,seval];first|done|omega)|fail) only[go_sem, ↓reduceIte,seval,F],by simp(disch:=first|omega| (simp only[go_sem, ↓reduceIte,seval];first|done|omega)|fail) only[go_sem, ↓reduceIte,seval,F],by simp(disch:=first|omega| (simp only[go_sem, ↓reduceIte,seval];first|done|omega)|fail) only[go_sem, ↓reduceIte,seval,F],by simp(disch:=first|omega| (simp only[go_sem, ↓reduceIte,seval];first|done|omega)|fail) only[go_sem, ↓reduceIte,seval,F]⟩ ?_)
 rintro t ⟨tq9,tq13,tq10,tq41⟩
 refine EJ.range (gf:=80) (fn:=Tryz.f80) rfl tq41 Tryz.func80 rfl (by kernel_rfl) (by rw[aM (by simp;omega)];simp) fun yl=>?_
 refine rE G hl bel c p op num s ks N yl hn (by kernel_rfl) (by kernel_rfl) rfl rfl (fun y H' Q hq1=>?_) (fun y pre j z Q hp hx ha=>?_) hE (fun j=>?_) (fun j=>?_)
 ·refine wk F ?_
  exact hq1
 ·have xl:=dK (H:=H) (n:=n) (p:=p) (qv:=qA op num s ks) (c:=c) (N:=N) (fr:=fromK l c) (z:=z) (mo:=false) (pre:=pre) (j:=j)
  have r4:getRow (pgM H n p (qA op num s ks) c N (fromK l c) z false pre j) (H.length+4) 0=some (44,5,[pgV H.length false c pre]):=bH 4 0
  have r2:getRow (pgM H n p (qA op num s ks) c N (fromK l c) z false pre j) (H.length+2) 0=some (3,1,[.int .i64 N]):=bH 2 0
  have r10:getRow (pgM H n p (qA op num s ks) c N (fromK l c) z false pre j) (H.length+10) pre.length=some (3,1,pre.map fun k=>iA k.i):=(bH 10 pre.length).trans (by simp[getRow])
  have m1:(pgM H n p (qA op num s ks) c N (fromK l c) z false pre j).set (H.length+4) (.row 44 5 0 [pgV H.length true c pre])++[Blk.row 92 3 0 [y.av]]=pgM H n p (qA op num s ks) c N (fromK l c) z true pre (j++[.row 92 3 0 [y.av]]):=by rw[ub,dJ]
  have a1:=congrArg (· ++ [Blk.row 92 3 0 [y.av]]) (vm (H:=H) (n:=n) (p:=p) (qv:=qA op num s ks) (c:=c) (N:=N) (fr:=fromK l c) (z:=z) (mo:=false) (pre:=pre) (j:=j) y)
  simp only[dJ]at a1
  rw[← m1]at hx
  rw[← a1]at ha
  simp only[pgV,Ky.av_eq,iA]at r4 r10 hx ha
  clear m1 a1
  generalize pgM H n p (qA op num s ks) c N (fromK l c) z false pre j=X at*
  have hnX:n+2≤X.length:=by omega
  have hmL:(pre.map fun k=>AVal.int .i64 k.i).length=pre.length:=List.length_map ..
  by_cases hpn:pre.length=N
  ·have hq3:((pre.length:Int)==(N:Int))=true:=by simp[hpn]
   have F:=F8 F tq9 tq13 r4 r2 r10 hq3 @aA
   refine wk F ?_
   exact hx hpn _
  ·have hq3:((pre.length:Int)==(N:Int))=false:=by simp;omega
   have F:=F9 F tq9 tq13 r4 r2 r10 hq3 @hmL @aA
   refine wk F ?_
   refine aq F ?_
   try refine sq F ?_
   refine wk F ?_
   exact ha (by omega) _
 all_goals (
  show MJ (CT G) _ _ Q1 _ t _
  generalize ((l.drop (fromK l c)).filter fun k=>bel k.i)=bs at hQ1 ⊢
  have xl:(pgM H n p (qA op num s ks) c N (fromK l c) .dead (decide (N<bs.length)) (bs.take N) j).length=_:=dK
  have r4:getRow (pgM H n p (qA op num s ks) c N (fromK l c) .dead (decide (N<bs.length)) (bs.take N) j) (H.length+4) 0=some (44,5,[pgV H.length (decide (N<bs.length)) c (bs.take N)]):=bH 4 0
  have r3:getRow (pgM H n p (qA op num s ks) c N (fromK l c) .dead (decide (N<bs.length)) (bs.take N) j) (H.length+3) 0=some (44,5,[.agg [.nil (.slice none 0 0),.int .i64 0,.int .i64 0,.bool false,.bool false]]):=bH 3 0
  have r10:getRow (pgM H n p (qA op num s ks) c N (fromK l c) .dead (decide (N<bs.length)) (bs.take N) j) (H.length+10) (bs.take N).length=some (3,1,(bs.take N).map fun k=>iA k.i):=(bH 10 _).trans (by simp[getRow])
  have d11:(pgM H n p (qA op num s ks) c N (fromK l c) .dead (decide (N<bs.length)) (bs.take N) j)[H.length+11]? =some .df:=wT
  obtain⟨J,hJ⟩:∃J,(pgM H n p (qA op num s ks) c N (fromK l c) .dead (decide (N<bs.length)) (bs.take N) j)=H++J:=⟨_,rfl⟩
  simp only[pgV]at r4
  generalize (pgM H n p (qA op num s ks) c N (fromK l c) .dead (decide (N<bs.length)) (bs.take N) j)=X at*
  have hnX:n+2≤X.length:=by omega
  refine MJ.wp (by kernel_rfl) ?_
  have F:=F6 F tq13 tq10 r4 r3 @aA
  refine wk F ?_
  refine(hQ1 _ _ (by rw[dZ (by rw[List.length_set];exact hnX) (by omega),List.getElem?_set_ne (by omega)];exact d11) ?_).1
  simp(disch:=first|omega| (simp only[go_sem, ↓reduceIte,seval];first|done|omega)|fail) only[go_sem, ↓reduceIte,seval,F,resA,resL,resA1]
  have hg:=ca (H:=X) (p:=H.length+3) (q:=H.length+10) (.row 44 5 0 [.agg [.hs (H.length+10) (bs.take N).length 0 (bs.take N).length true,.int .i64 (nxC c (bs.take N)).d,.int .i64 (nxC c (bs.take N)).i,.bool (nxC c (bs.take N)).set,.bool (decide (N<bs.length))]]) (bs.take N).length (by omega)
  rw[r10, ← ca (p:=H.length+11) .dead _ (by omega)]at hg
  subst hJ
  rw[dR _ rfl,dR _ rfl]at hg ⊢
  rw[← dB (n:=n) (v:=v) (l:=l) (by rw[List.length_append];omega) _ (by omega)]at hg
  exact cF hn rfl (g9 hn) (uc hn hg) ⟨rfl,rfl⟩)
end
end Go.Av
namespace Go.Av
open Go Go.Proofs Go.RowKit
def bhd(c:Cu)(k:Ky):Bool:= !c.set||ahd ⟨c.d,c.i,0⟩ k
theorem rF{l:List Ky}(hs:Sk l)(c:Cu):l.drop (fromK l c)=l.filter (bhd c):=by
 obtain⟨d,i,b⟩:=c
 cases b with
 |false=>
  show l.drop 0=_
  rw[List.drop_zero]
  exact(List.filter_eq_self.2 fun x _=>rfl).symm
 |true=>
  show l.drop (pst l ⟨d,i,0⟩)=l.filter fun k=>false||ahd ⟨d,i,0⟩ k
  simp only[Bool.false_or]
  induction l with
  |nil=>rfl
  |cons x l ih=>
   obtain⟨h1,h2⟩:=List.pairwise_cons.1 hs
   unfold pst
   cases ha:ahd ⟨d,i,0⟩ x with
   |true=>
    rw[if_pos rfl,List.drop_zero]
    refine(List.filter_eq_self.2 fun y hy=>?_).symm
    rcases List.mem_cons.1 hy with rfl|hy
    ·exact ha
    ·exact d8 ha (h1 y hy)
   |false=>
    rw[if_neg (by simp),List.drop_succ_cons,List.filter_cons,ha,if_neg (by simp)]
    exact ih h2
def pgL(l:List Ky)(bel:Int→Bool)(c:Cu):List Ky:=(l.drop (fromK l c)).filter fun k=>bel k.i
theorem jO{l:List Ky}(hs:Sk l){bel:Int→Bool}{c:Cu}{x:Ky}:x∈pgL l bel c↔x∈l∧bhd c x=true∧bel x.i=true:=by
 unfold pgL
 rw[List.mem_filter,rF hs,List.mem_filter,and_assoc]
theorem nZ{l:List Ky}(hs:Sk l){bel:Int→Bool}{c:Cu}:Sk (pgL l bel c):=(hs.sublist (List.drop_sublist _ _)).sublist List.filter_sublist
theorem wU{c:Cu}{a b:Ky}(hd:a.d=b.d)(hi:a.i=b.i):bhd c a=bhd c b:=by unfold bhd ahd;rw[hd,hi]
theorem jm{c:Cu}{pre:List Ky}{z x:Ky}:bhd (nxC c (pre++[z])) x=ahd z x:=by rw[nY];show(false||ahd ⟨z.d,z.i,0⟩ x)=_;rw[Bool.false_or];rfl
theorem rG{c:Cu}{sh:List Ky}(h:∀x∈sh,bhd c x=true){x:Ky}(hx:bhd (nxC c sh) x=true):bhd c x=true:=by
 rcases List.eq_nil_or_concat sh with rfl| ⟨pre,z,rfl⟩
 ·exact hx
 ·rw[List.concat_eq_append]at h hx
  rw[jm]at hx
  have hz:=h z (by simp)
  unfold bhd at hz ⊢
  rw[Bool.or_eq_true]at hz ⊢
  exact hz.imp id fun k=>d8 k hx
def tld(l:List Int)(item:Int):Nat:=l.count item
theorem Sk.nod{l:List Ky}(hs:Sk l):l.Nodup:=hs.imp fun h e=>by rw[e,jE]at h;cases h
theorem vn{l:List Ky}(hs:Sk l)(hu:∀a∈l,∀b∈l,a.i=b.i→a=b){x:Ky}(hx:x∈l):tld (l.map (·.i)) x.i=1:=by
 unfold tld
 have hn:(l.map (·.i)).Nodup:=by
  rw[List.nodup_iff_pairwise_ne,List.pairwise_map]
  exact hs.nod.imp_of_mem fun ha hb hne e=>hne (hu _ ha _ hb e)
 rw[List.nodup_iff_count.1 hn x.i|>Nat.le_antisymm<|List.count_pos_iff.2 (List.mem_map_of_mem hx)]
theorem mr{l:List Ky}{i:Int}(h:∀a∈l,a.i≠i):tld (l.map (·.i)) i=0:=by
 unfold tld
 rw[List.count_eq_zero]
 intro hm
 obtain⟨a,ha,e⟩:=List.mem_map.1 hm
 exact h a ha e
theorem nr{l:List Ky}(hs:Sk l)(hu:∀a∈l,∀b∈l,a.i=b.i→a=b){x:Ky}(hx:x∈l){bel:Int→Bool}(hb:bel x.i=true){c:Cu}{N t:Nat}(hN:1≤N)(h:(t=1∧bhd c x=false)∨(t=0∧bhd c x=true)):
  (t+tld (((pgL l bel c).take N).map (·.i)) x.i=1∧bhd (nxC c ((pgL l bel c).take N)) x=false)∨
  (t+tld (((pgL l bel c).take N).map (·.i)) x.i=0∧bhd (nxC c ((pgL l bel c).take N)) x=true∧N<(pgL l bel c).length):=by
 have hbs:=nZ hs (bel:=bel) (c:=c)
 have hm:∀y,y∈pgL l bel c↔_:=fun y=>jO hs
 generalize pgL l bel c=bs at*
 have hsub:∀y∈bs.take N,y∈bs:=fun y hy=>List.mem_of_mem_take hy
 have hbt:Sk (bs.take N):=hbs.sublist (List.take_sublist _ _)
 rcases h with⟨rfl,h⟩| ⟨rfl,h⟩
 ·refine .inl ⟨?_,?_⟩
  ·rw[mr]
   intro a ha e
   have:=(hm a).1 (hsub a ha)
   have:=hu a this.1 x hx e
   subst this
   simp_all
  ·cases hc:bhd (nxC c (bs.take N)) x with
   |false=>rfl
   |true=>rw[rG (fun y hy=>((hm y).1 (hsub y hy)).2.1) hc]at h;cases h
 ·have hxb:x∈bs:=(hm x).2 ⟨hx,h,hb⟩
  by_cases ht:x∈bs.take N
  ·refine .inl ⟨?_,?_⟩
   ·rw[vn hbt (fun a ha b hb=>hu a ((hm a).1 (hsub a ha)).1 b ((hm b).1 (hsub b hb)).1) ht]
   ·rcases List.eq_nil_or_concat (bs.take N)with e| ⟨pre,z,e⟩
    ·rw[e]at ht;cases ht
    ·rw[List.concat_eq_append]at e
     rw[e]at ht hbt ⊢
     rw[jm]
     rcases List.mem_append.1 ht with h1|h1
     ·exact nC ((List.pairwise_append.1 hbt).2.2 x h1 z (by simp))
     ·rw[List.mem_singleton]at h1;rw[h1];exact jE z
  ·have hxd:x∈bs.drop N:=by
    rw[← List.take_append_drop N bs,List.mem_append]at hxb
    exact hxb.resolve_left ht
   have hlen:N<bs.length:=by
    apply Decidable.byContradiction
    intro hge
    rw[List.drop_eq_nil_of_le (by omega)]at hxd
    cases hxd
   refine .inr ⟨?_,?_,hlen⟩
   ·rw[mr]
    intro a ha e
    have:=hu a ((hm a).1 (hsub a ha)).1 x hx e
    subst this
    exact ht ha
   ·rcases List.eq_nil_or_concat (bs.take N)with e| ⟨pre,z,e⟩
    ·have:=congrArg List.length e
     simp only[List.length_take,List.length_nil]at this
     omega
    ·rw[List.concat_eq_append]at e
     have hz:z∈bs.take N:=by rw[e];simp
     rw[e,jm]
     rw[← List.take_append_drop N bs]at hbs
     exact(List.pairwise_append.1 hbs).2.2 z hz x hxd
def Tld(T:List Ky)(c:Cu):Prop:=Sk T∧∀x∈T,∀y,bhd c y=true→ahd x y=true
theorem Tld.nil(c:Cu):Tld [] c:=⟨.nil,fun _ h=>by cases h⟩
theorem Tld.page{T:List Ky}{c:Cu}(h:Tld T c){l:List Ky}(hs:Sk l)(bel:Int→Bool)(N:Nat):Tld (T++(pgL l bel c).take N) (nxC c ((pgL l bel c).take N)):=by
 have hbs:Sk ((pgL l bel c).take N):=(nZ hs).sublist (List.take_sublist _ _)
 have hm:∀y∈ (pgL l bel c).take N,bhd c y=true:=fun y hy=>((jO hs).1 (List.mem_of_mem_take hy)).2.1
 generalize (pgL l bel c).take N=sh at*
 refine⟨List.pairwise_append.2 ⟨h.1,hbs,fun a ha b hb=>h.2 a ha b (hm b hb)⟩,fun x hx y hy=>?_⟩
 rcases List.mem_append.1 hx with hx|hx
 ·exact h.2 x hx y (rG hm hy)
 ·rcases List.eq_nil_or_concat sh with rfl| ⟨pre,z,rfl⟩
  ·cases hx
  ·rw[List.concat_eq_append]at hx hy hbs
   rw[jm]at hy
   rcases List.mem_append.1 hx with h1|h1
   ·exact d8 ((List.pairwise_append.1 hbs).2.2 x h1 z (by simp)) hy
   ·rw[List.mem_singleton]at h1;subst h1;exact hy
theorem kL{α:Type}[DecidableEq α]:∀{T E:List α},T.Nodup→(∀x∈T,x∈E)→T.length≤E.length
 | [],_,_,_=>Nat.zero_le _
 |x::T,E,hn,hs=>by
  obtain⟨h1,h2⟩:=List.nodup_cons.1 hn
  have:=kL h2 (E:=E.erase x) fun y hy=>(List.mem_erase_of_ne (fun e=>h1 (by rw[← e];exact hy))).2 (hs y (by simp[hy]))
  have hx:=hs x (by simp)
  rw[List.length_erase_of_mem hx]at this
  have:=List.length_pos_of_mem hx
  simp only[List.length_cons]
  omega
theorem Tld.len{T:List Ky}{c:Cu}(h:Tld T c){E:List (Int×Int)}(hE:∀x∈T,(x.d,x.i)∈E):T.length≤E.length:=by
 have hn:(T.map fun x=>(x.d,x.i)).Nodup:=by
  rw[List.nodup_iff_pairwise_ne,List.pairwise_map]
  refine h.1.imp fun {a b} hab e=>?_
  simp only[Prod.mk.injEq]at e
  rw[dA]at hab
  omega
 have:=kL hn (E:=E) fun x hx=>by
  obtain⟨y,hy,rfl⟩:=List.mem_map.1 hx
  exact hE y hy
 simpa using this
def PS.Kin(E:List (Int×Int))(s:PS):Prop:=∀id t,lkM s.it id=some t→(t.date,t.id)∈E
theorem PS.Kin.step{E:List (Int×Int)}{s:PS}(h:s.Kin E)(h0:(0,0)∈E)(hI:s.Inv)(e:Ev):(s.step L0 e).Kin ((e.n,e.a)::E):=by
 have hg:∀k,(((lkM s.it k).getD It.z).date,((lkM s.it k).getD It.z).id)∈ (e.n,e.a)::E:=fun k=>by
  cases hl:lkM s.it k with
  |none=>exact List.mem_cons_of_mem _ h0
  |some t=>exact List.mem_cons_of_mem _ (h k t hl)
 unfold PS.step
 split
 ·intro k t hk
  rw[mi]at hk
  split at hk
  ·exact List.mem_cons_of_mem _ (h k t (eP hI.w3.keys hk))
  split at hk
  ·rcases aI hk with⟨rfl,rfl⟩| ⟨_,hk⟩
   ·simp
   ·exact List.mem_cons_of_mem _ (h k t hk)
  split at hk
  ·rcases aI hk with⟨rfl,rfl⟩| ⟨_,hk⟩
   ·exact hg _
   ·exact List.mem_cons_of_mem _ (h k t hk)
  split at hk
  ·rcases aI hk with⟨rfl,rfl⟩| ⟨_,hk⟩
   ·exact hg _
   ·exact List.mem_cons_of_mem _ (h k t hk)
  split at hk
  ·rcases aI hk with⟨rfl,rfl⟩| ⟨_,hk⟩
   ·exact hg _
   ·exact List.mem_cons_of_mem _ (h k t hk)
  ·exact List.mem_cons_of_mem _ (h k t hk)
 ·exact fun k t hk=>List.mem_cons_of_mem _ (h k t hk)
def evK(es:List Ev):List (Int×Int):=es.foldl (fun E e=>(e.n,e.a)::E) [(0,0)]
theorem ud{es:List Ev}:∀{E:List (Int×Int)} {s:PS},s.Kin E→(0,0)∈E→s.Inv→(es.foldl (PS.step L0) s).Kin (es.foldl (fun E e=>(e.n,e.a)::E) E):=by
 induction es with
 |nil=>intro E s h _ _;exact h
 |cons e es ih=>intro E s h h0 hI;exact ih (h.step h0 hI e) (List.mem_cons_of_mem _ h0) (hI.step e)
theorem vp(es:List Ev):(evK es).length=es.length+1:=by
 have:∀E:List (Int×Int),(es.foldl (fun E e=>(e.n,e.a)::E) E).length=E.length+es.length:=by
  induction es with
  |nil=>intro E;rfl
  |cons e es ih=>intro E;rw[List.foldl_cons,ih];simp;omega
 unfold evK
 rw[this];simp;omega
theorem ue(es:List Ev):(0,0)∈evK es:=by
 have:∀E:List (Int×Int),(0,0)∈E→(0,0)∈es.foldl (fun E e=>(e.n,e.a)::E) E:=by
  induction es with
  |nil=>intro E h;exact h
  |cons e es ih=>intro E h;exact ih _ (List.mem_cons_of_mem _ h)
 exact this _ (by simp)
def PS.Tt(s:PS):Prop:=∀k t,lkM s.it k=some t→t.title.length≤256
theorem PS.Tt.z:PS.z.Tt:=fun _ _ h=>by cases h
theorem PS.Tt.getD{s:PS}(h:s.Tt)(k:Int):((lkM s.it k).getD It.z).title.length≤256:=by
 cases hl:lkM s.it k with
 |none=>simp[It.z]
 |some t=>exact h k t hl
theorem PS.Tt.step{s:PS}(h:s.Tt)(hI:s.Inv)(e:Ev):(s.step L0 e).Tt:=by
 unfold PS.step
 split
 ·rename_i hok
  have hr:e.kind=7→e.t.length≤256:=fun k=>by
   unfold PS.ok PS.fits at hok
   rw[Bool.and_eq_true]at hok
   have:=hok.1
   unfold Leaf.ck at this
   simp only[Bool.and_eq_true]at this
   have hq:=this.1
   unfold Leaf.right at hq
   rw[if_neg (by omega),if_neg (by omega),if_neg (by omega),if_neg (by omega),if_neg (by omega),if_pos k]at hq
   simp only[Bool.and_eq_true]at hq
   have hq:=hq.2.2.2.2.1
   have hu:L0.title e.t=textF rightS cleanF e.t 256:=rfl
   rw[hu]at hq
   unfold textF at hq
   rw[Bool.and_eq_true,decide_eq_true_eq]at hq
   omega
  intro k t hk
  rw[mi]at hk
  split at hk
  ·exact h k t (eP hI.w3.keys hk)
  split at hk
  ·rename_i k7
   rcases aI hk with⟨rfl,rfl⟩| ⟨_,hk⟩
   ·exact hr k7
   ·exact h k t hk
  split at hk
  ·rcases aI hk with⟨rfl,rfl⟩| ⟨_,hk⟩
   ·exact h.getD _
   ·exact h k t hk
  split at hk
  ·rcases aI hk with⟨rfl,rfl⟩| ⟨_,hk⟩
   ·exact h.getD _
   ·exact h k t hk
  split at hk
  ·rcases aI hk with⟨rfl,rfl⟩| ⟨_,hk⟩
   ·exact h.getD _
   ·exact h k t hk
  ·exact h k t hk
 ·exact h
theorem PS.Tt.fold{es:List Ev}:∀{s:PS},s.Tt→s.Inv→(es.foldl (PS.step L0) s).Tt:=by
 induction es with
 |nil=>intro s h _;exact h
 |cons e es ih=>intro s h hI;exact ih (h.step hI e) (hI.step e)
theorem wV{es:List Ev}:(es.foldl (PS.step L0) PS.z).Kin (evK es):=ud (fun _ _ h=>by cases h) (by simp) PS.Inv.z
end Go.Av
namespace Go.Av
open Go Go.Proofs Go.RowKit
attribute [local irreducible] WP WPl WPix Sat
def PS.eval(s:PS)(q:Qy)(id:Int):Bool:=match lkM s.it id with
 |none=>false
 |some t=>q.ok&&q.bel s t
def Qy.Fit(q:Qy):Prop:=q.mx≤9223372036854775807∧(q.dep 1≤12→q.sz≤10000)
theorem um{X:Heap}{n:Nat}{s:PS}(x:ML Int (List Int)×Nat)(b1 b2:Blk)(j:Heap):sa (X++(b1::b2::j)) n s X.length x=so (X++(am x.1 x.2::ar n X.length::j)) n s:=by
 unfold sa twB
 congr 1
 have:=iU X [am x.1 x.2,ar n X.length] j
 show ov _ _ _=X++([am x.1 x.2,ar n X.length]++j)
 rw[this]
 unfold ov
 have h1:∀c1 c2:Blk,(X++(c1::c2::j)).take X.length=X:=fun c1 c2=>by rw[List.take_left' rfl]
 have h2:∀c1 c2:Blk,(X++(c1::c2::j)).drop (X.length+2)=j:=fun c1 c2=>by rw[List.drop_append,List.drop_of_length_le (by omega),Nat.add_sub_cancel_left];rfl
 show _++_++List.drop (X.length+2) _=List.take _ (X++(am x.1 x.2::ar n X.length::j))++_++List.drop (X.length+2) (X++(am x.1 x.2::ar n X.length::j))
 rw[h1,h1,h2,h2]
variable (G:Nat→Option (List AVal))
theorem wW(s:PS){X:Heap}{n:Nat}(hn:n+9≤X.length):Sat (CT G) 48 [.hp (n+8) 0 0 0] (so X n s) (fun r h'=>r=.hp (X.length+1) 0 0 0∧h'=sa (X++[am [] 0,ar n X.length]) n s X.length ([],0)):=by
 have e:=um (X:=X) (n:=n) (s:=s) ([],0) (am [] 0) (ar n X.length) []
 rw[e, ← aH hn]
 have hl:=aD (s:=s) hn
 have hp:n+8<(so X n s).length:=by omega
 generalize so X n s=H at*
 rw[← hl]
 refine sb [.tmp 2] (fn:=Tryz.f48) Tryz.func48 ?_
 intro Q hQ
 refine wk trivial ?_
 refine ee hQ trivial ?_
 exact Fin.whole (by simp) (.hp _ _ _ _ (by simp)) ⟨rfl,rfl⟩
theorem rH(s:PS)(hI:s.Inv)(hT:s.Tt)(q:Qy)(hq:q.Fit)(id:Int){X:Heap}{n:Nat}(hn:n+9≤X.length):Sat (CT G) 20 [.hp (n+8) 0 0 0,q.av,.int .i64 id] (so X n s) (fun r h'=>r=.bool (s.eval q id)∧h'=so X n s):=by
 have hIt:=fun(j:Heap)=>iZ G s id (by have:=(hI.tags id).2;omega) (H:=X++j) (n:=n) (by simp;omega)
 have hn1:∀j:Heap,n+9≤(X++j).length:=fun j=>by simp;omega
 unfold PS.eval
 cases hl:lkM s.it id with
 |none=>
  rw[hl]at hIt
  simp only[Option.getD_none,Option.isSome_none]at hIt
  obtain⟨qo,qn,qs,qk⟩:=q
  rw[Qy.av_eq]at*
  have F:=F2 hn hn1
  skip
  refine sb [.tmp 6] (fn:=Tryz.f20) Tryz.func20 ?_
  intro Q hQ
  refine wn F ?_
  refine kn F (hIt _) ?_
  refine dU (by decide+kernel) (lN G) ?_
  refine sq F ?_
  refine wn F ?_
  skip
  refine ee hQ F ?_
  exact ak hn (.bool _) ⟨rfl,rfl⟩
 |some t=>
  rw[hl]at hIt
  simp only[Option.getD_some,Option.isSome_some]at hIt
  have hC:=fun h=>jh G q h hq.1 hq.2
  have htt:=hT id t hl
  have htg:=(hI.tags id).2
  rw[hl,Option.getD_some]at htg
  cases hok:q.ok with
  |false=>
   rw[hok]at hC
   clear hq
   obtain⟨qo,qn,qs,qk⟩:=q
   rw[Qy.av_eq]at*
   have F:=F2 hn hn1
   skip
   refine sb [.tmp 6] (fn:=Tryz.f20) Tryz.func20 ?_
   intro Q hQ
   refine wn F ?_
   refine kn F (hIt _) ?_
   refine dU (by decide+kernel) (lN G) ?_
   refine sq F ?_
   refine wn F ?_
   refine aF (hC _) ?_
   try refine sq F ?_
   refine wn F ?_
   skip
   refine ee hQ F ?_
   exact ak hn (.bool _) ⟨rfl,rfl⟩
  |true=>
   have hok':=hok
   unfold Qy.ok at hok'
   simp only[Bool.and_eq_true,decide_eq_true_eq]at hok'
   obtain⟨rQ,hrQ⟩:∃rQ:Blk,rQ=.row 25 4 0 [q.av]:=⟨_,rfl⟩
   obtain⟨rT,hrT⟩:∃rT:Blk,rT=.row 56 9 0 [t.av]:=⟨_,rfl⟩
   have hlX:(X++[rQ,rT]).length=X.length+2:=by simp
   have e:∀y:ML Int (List Int)×Nat,sa ((X++[rQ,rT])++[am [] 0,ar n (X.length+2)]) n s (X.length+2) y=so (X++[rQ,rT,am y.1 y.2,ar n (X.length+2)]) n s:=fun y=>by
    have:=um (X:=X++[rQ,rT]) (n:=n) (s:=s) y (am [] 0) (ar n (X.length+2)) []
    rw[hlX]at this
    rw[this,List.append_assoc];rfl
   have hB:=vh G s hI t htt (by omega) (n:=n) (a:=X.length+2) (by omega) q (hq.2 hok'.1) hok'.2.2 ((X++[rQ,rT])++[am [] 0,ar n (X.length+2)]) ([],0) (by simp) ⟨.nil,fun _ _ h=>by cases h⟩
   have hO:=wW G s (X:=X++[rQ,rT]) (n:=n) (by omega)
   rw[hlX,e]at hO
   simp only[e]at hB
   subst hrQ
   subst hrT
   rw[hok]at hC
   show Sat _ _ _ _ (fun r h'=>r=.bool (q.bel s t)∧h'=so X n s)
   generalize q.bel s t=b at*
   clear hq hok' e hlX
   obtain⟨qo,qn,qs,qk⟩:=q
   rw[Qy.av_eq]at*
   have F:=F2 hn hn1
   skip
   refine sb [.tmp 6] (fn:=Tryz.f20) Tryz.func20 ?_
   intro Q hQ
   refine wn F ?_
   refine kn F (hIt _) ?_
   refine aL 12 [8,11] [true,true,true,true,true,true,true,true,false,true,true,false] (.one 8 [false,false,false,false,false,false,false,false,false,true,true] (.one 11 [] .fin)) (by decide+kernel) (by kernel_rfl) (by decide+kernel) ?_
   simp only[aR,aS,aK]
   try refine sq F ?_
   repeat' (first| (refine ap ?_;try refine sq F ?_)| (refine au ?_;try refine sq F ?_)| (refine aw ?_ ?_<;>try refine sq F ?_))
   all_goals try refine wn F ?_
   refine aF (hC _) ?_
   try refine sq F ?_
   refine wn F ?_
   repeat' (first| (refine ap ?_;try refine sq F ?_)| (refine au ?_;try refine sq F ?_)| (refine aw ?_ ?_<;>try refine sq F ?_))
   all_goals try refine wn F ?_
   refine gL rfl (by exact zq F) ?_
   simp(disch:=first|omega| (simp only[go_sem, ↓reduceIte,seval];first|done|omega)|fail) only[go_sem, ↓reduceIte,seval,F]
   refine hO.mono ?_
   rintro r h' ⟨rfl,rfl⟩
   have F:=F2 F @aA
   refine⟨by simp(disch:=first|omega| (simp only[go_sem, ↓reduceIte,seval];first|done|omega)|fail) only[go_sem, ↓reduceIte,seval,F],?_⟩
   repeat' (first| (refine ap ?_;try refine sq F ?_)| (refine au ?_;try refine sq F ?_)| (refine aw ?_ ?_<;>try refine sq F ?_))
   all_goals try refine wn F ?_
   refine gL rfl (by exact zq F) ?_
   simp(disch:=first|omega| (simp only[go_sem, ↓reduceIte,seval];first|done|omega)|fail) only[go_sem, ↓reduceIte,seval,F]
   refine hB.mono ?_
   rintro r h' ⟨rfl,y,hy,rfl⟩
   repeat' (first| (refine ap ?_;try refine sq F ?_)| (refine au ?_;try refine sq F ?_)| (refine aw ?_ ?_<;>try refine sq F ?_))
   all_goals try refine wn F ?_
   refine ee hQ F ?_
   exact ak hn (.bool _) ⟨rfl,rfl⟩
end Go.Av
namespace Go.Av
open Go Go.Proofs Go.RowKit
attribute [local irreducible] WP WPl WPix Sat
def lastI(bel:Int→Bool)(l:List Ky):Int:=match (l.filter fun k=>bel k.i).getLast? with
 |some k=>k.i
 |none=>0
def headI(bel:Int→Bool)(l:List Ky):Int:=match (l.filter fun k=>bel k.i).head? with
 |some k=>k.i
 |none=>0
def arF(bel:Int→Bool)(l:List Ky)(item:Int):Int×Int:=match l.findIdx? (fun k=>decide (k.i=item))with
 |some i=>(lastI bel (l.take i),headI bel (l.drop (i+1)))
 |none=>(0,0)
theorem kM{bel:Int→Bool}{l:List Ky}{y:Ky}(h:bel y.i=true):lastI bel (l++[y])=y.i:=by
 unfold lastI;rw[List.filter_append,List.filter_cons,if_pos h,List.filter_nil,List.getLast?_concat]
theorem jn{bel:Int→Bool}{l:List Ky}{y:Ky}(h:bel y.i=false):lastI bel (l++[y])=lastI bel l:=by
 unfold lastI;rw[List.filter_append,List.filter_cons,if_neg (by simp[h]),List.filter_nil,List.append_nil]
theorem jo{bel:Int→Bool}{l:List Ky}{y:Ky}(h:bel y.i=true):headI bel (y::l)=y.i:=by
 unfold headI;rw[List.filter_cons,if_pos h];rfl
theorem jp{bel:Int→Bool}{l:List Ky}{y:Ky}(h:bel y.i=false):headI bel (y::l)=headI bel l:=by
 unfold headI;rw[List.filter_cons,if_neg (by simp[h])]
variable (G:Nat→Option (List AVal))
section
variable {l:List Ky} {H:Heap} {n v:Nat}
theorem pG(hl:l.length≤1048576)(bel:Int→Bool)(sp:AVal)(item op num:Int)(s:Bs)(ks:List AVal)(hn:n+2≤H.length)
  (hC:∀j,Sat (CT G) 37 [qA op num s ks] (vo (H++j) n v l) (fun r h'=>r=.int .i64 0∧h'=vo (H++j) n v l))
  (hE:∀j id,Sat (CT G) 20 [sp,qA op num s ks,.int .i64 id] (vo (H++j) n v l) (fun r h'=>r=.bool (bel id)∧h'=vo (H++j) n v l)):
  Sat (CT G) 14 [.hp n 0 0 0,sp,qA op num s ks,.int .i64 item] (vo H n v l)
   (fun r h'=>r=.tup [.int .i64 (arF bel l item).1,.int .i64 (arF bel l item).2]∧h'=vo H n v l):=by
 have ct:∀N (a b:Int),Clo N (.tup [.int .i64 a,.int .i64 b]):=fun N a b=>.tup _ (fun x hx=>by
  simp only[List.mem_cons,List.not_mem_nil,or_false]at hx
  rcases hx with rfl|rfl<;>exact .int _ _)
 have dt:∀i:Decidable True, @decide True i=true:=fun i=>by simp
 have df:∀i:Decidable False, @decide False i=false:=fun i=>by simp
 have hn1:∀j:Heap,n+2≤(H++j).length:=fun j=>by simp;omega
 have hA:=nE G (v:=v) (l:=l) hl item (hn1 [.row 25 4 0 [qA op num s ks]])
 have hCh:=hC [.row 25 4 0 [qA op num s ks]]
 unfold ixK at hA
 unfold arF
 cases hx:l.findIdx? (fun k=>decide (k.i=item))with
 |none=>
  rw[hx]at hA
  have F:=dt
  refine sb [.tmp 8,.tmp 9] (fn:=Tryz.f14) Tryz.func14 ?_
  intro Q hQ
  refine wk F ?_
  refine kq F (hA) ?_
  refine ee hQ F ?_
  exact bo hn (ct _ _ _) ⟨rfl,rfl⟩
 |some i=>
  rw[hx]at hA
  obtain⟨hi,_⟩:=List.findIdx?_eq_some_iff_getElem.1 hx
  have xw1:IntKind.i64.wrap ((i:Int)-1)=(i:Int)-1:=by rw[IntKind.wrap_i64];omega
  have xw2:IntKind.i64.wrap ((i:Int)+1)=((i+1:Nat):Int):=by rw[IntKind.wrap_i64];omega
  have g0:decide ((i:Int)<0)=false:=by simp
  have F:=F7 xw1 xw2 g0 hn1 hn dt df
  by_cases hlt:i+1<l.length
  ·have hsl:=jl (P:=Tryz.prog) (T:=80) (k:=.i64) (len:=l.length) (i:=i+1) (by simp only[go_sem];try rfl) (bF (l:=l) (v:=v) (hn1 [.row 25 4 0 [qA op num s ks]])) (by simp only[go_sem];try rfl) (.inl hlt)
   have F:=F3 F hlt hsl
   refine sb [.tmp 8,.tmp 9] (fn:=Tryz.f14) Tryz.func14 ?_
   intro Q hQ
   refine wk F ?_
   refine kq F (hA) ?_
   refine kq F (hCh) ?_
   refine wk F ?_
   refine lm (fun nL tL hL=>∃(m:Nat),m=nL∧vo (H++[.row 25 4 0 [qA op num s ks]]) n v l=hL∧tL 11=.int .i64 ((m:Int)-1)∧tL 8=.int .i64 0∧m≤i∧lastI bel (l.take i)=lastI bel (l.take m)) ((fun(m:Nat)=>(m:Nat)) (i)) ?_ ?_
   ·refine Wkn.refl ⟨i,rfl,az,?_,?_,Nat.le_refl i,rfl⟩
    all_goals first|exact zq F|rfl|omega|trivial|skip
   rintro _ s2 h' ⟨m,rfl,rfl,e11,e8,hm,hz⟩ K2 hK2
   simp only[ai,aj,Nat.reduceEqDiff, ↓reduceIte]at e11 e8
   have F:=F3 F e11 e8
   refine wk F ?_
   refine cq F (fun c1=>?_) (fun c1=>?_)<;>(try exact c1.elim)<;>(refine wk F ?_)
   ·have c2:m-1<l.length:=by omega
    have em:(m:Int)-1=((m-1:Nat):Int):=by omega
    have em2:IntKind.i64.wrap (((m-1:Nat):Int)-1)=((m-1:Nat):Int)-1:=by rw[IntKind.wrap_i64];omega
    obtain⟨y1,hy1,hym1⟩:=af c2
    have et:l.take m=l.take (m-1)++[y1]:=by
     have h:=List.take_add_one (l:=l) (i:=m-1)
     rw[show m-1+1=m from by omega,hy1]at h
     exact h
    rw[et]at hz
    have hE2:=hE [.row 25 4 0 [qA op num s ks]] y1.i
    cases hb0:bel y1.i with
    |true=>
     rw[hb0]at hE2
     rw[kM hb0]at hz
     have F:=F5 F em em2 hy1 c2
     try refine sq F ?_
     refine wk F ?_
     refine aF (hE2) ?_
     try refine sq F ?_
     refine wk F ?_
     refine lm (fun nL tL hL=>∃(k:Nat) (j:Heap),l.length-(i+1)-k=nL∧vo (H++(.row 25 4 0 [qA op num s ks]::j)) n v l=hL∧tL 57=.int .i64 k∧tL 8=.int .i64 y1.i∧k≤l.length-(i+1)∧headI bel (l.drop (i+1))=headI bel (l.drop (i+1+k))) ((fun(k:Nat) (j:Heap)=>(l.length-(i+1)-k:Nat)) (0) ([])) ?_ ?_
     ·refine Wkn.refl ⟨0,[],rfl,az,?_,?_,by omega,rfl⟩
      all_goals first|exact zq F|rfl|omega|trivial|skip
     rintro _ s3 h' ⟨k,j,rfl,rfl,e57,e8,hk,hz2⟩ K3 hK3
     simp only[ai,aj,Nat.reduceEqDiff, ↓reduceIte]at e57 e8
     have F:=F3 F e57 e8
     refine wk F ?_
     refine cq F (fun d1=>?_) (fun d1=>?_)<;>(try exact d1.elim)<;>(refine wk F ?_)
     ·have d2:i+1+k<l.length:=by omega
      obtain⟨y,hy,hym⟩:=af d2
      have d3:k<l.length-(i+1):=by omega
      have hyi:l[i+(1+k)]? =some y:=by rw[← hy];congr 1;omega
      have hE3:=hE (.row 25 4 0 [qA op num s ks]::j++[.row 92 3 0 [y.av]]) y.i
      rw[Ky.av_eq]at hE3
      rw[ax hy]at hz2
      cases hb:bel y.i with
      |true=>
       rw[hb]at hE3
       rw[jo hb]at hz2
       have F:=F5 F hy hyi d3 @aA
       try refine sq F ?_
       refine wk F ?_
       refine kq F (hE3) ?_
       refine dU (by decide+kernel) (lN G) ?_
       refine sq F ?_
       refine wk F ?_
       refine ee hQ F ?_
       exact bo hn (ct _ _ _) ⟨by rw[show lastI bel (l.take i)=y1.i from hz,hz2],rfl⟩
      |false=>
       rw[hb]at hE3
       rw[jp hb]at hz2
       have F:=F5 F hy hyi d3 @aA
       try refine sq F ?_
       refine wk F ?_
       refine kq F (hE3) ?_
       refine hK3 _ _ _ (Wkn.refl ⟨k+1,j++[.row 92 3 0 [y.av]],rfl,by simp[Ky.av],?_,?_,by omega,hz2⟩) (by omega)
       all_goals first|exact zq F|rfl|omega|trivial|skip
     ·rw[List.drop_of_length_le (show l.length≤i+1+k by omega)]at hz2
      refine ee hQ F ?_
      exact bo hn (ct _ _ _) ⟨by rw[show lastI bel (l.take i)=y1.i from hz,hz2];rfl,rfl⟩
    |false=>
     rw[hb0]at hE2
     rw[jn hb0]at hz
     have F:=F5 F em em2 hy1 c2
     try refine sq F ?_
     refine wk F ?_
     refine aF (hE2) ?_
     try refine sq F ?_
     refine wk F ?_
     refine hK2 _ _ _ (Wkn.refl ⟨m-1,rfl,az,?_,?_,by omega,hz⟩) (by omega)
     all_goals first|exact zq F|rfl|omega|trivial|skip
   ·have hz0:lastI bel (l.take i)=0:=by
     rw[hz,show m=0 from by omega];rfl
    refine lm (fun nL tL hL=>∃(k:Nat) (j:Heap),l.length-(i+1)-k=nL∧vo (H++(.row 25 4 0 [qA op num s ks]::j)) n v l=hL∧tL 57=.int .i64 k∧tL 8=.int .i64 0∧k≤l.length-(i+1)∧headI bel (l.drop (i+1))=headI bel (l.drop (i+1+k))) ((fun(k:Nat) (j:Heap)=>(l.length-(i+1)-k:Nat)) (0) ([])) ?_ ?_
    ·refine Wkn.refl ⟨0,[],rfl,az,?_,?_,by omega,rfl⟩
     all_goals first|exact zq F|rfl|omega|trivial|skip
    rintro _ s3 h' ⟨k,j,rfl,rfl,e57,e8,hk,hz2⟩ K3 hK3
    simp only[ai,aj,Nat.reduceEqDiff, ↓reduceIte]at e57 e8
    have F:=F3 F e57 e8
    refine wk F ?_
    refine cq F (fun d1=>?_) (fun d1=>?_)<;>(try exact d1.elim)<;>(refine wk F ?_)
    ·have d2:i+1+k<l.length:=by omega
     obtain⟨y,hy,hym⟩:=af d2
     have d3:k<l.length-(i+1):=by omega
     have hyi:l[i+(1+k)]? =some y:=by rw[← hy];congr 1;omega
     have hE3:=hE (.row 25 4 0 [qA op num s ks]::j++[.row 92 3 0 [y.av]]) y.i
     rw[Ky.av_eq]at hE3
     rw[ax hy]at hz2
     cases hb:bel y.i with
     |true=>
      rw[hb]at hE3
      rw[jo hb]at hz2
      have F:=F5 F hy hyi d3 @aA
      try refine sq F ?_
      refine wk F ?_
      refine kq F (hE3) ?_
      refine dU (by decide+kernel) (lN G) ?_
      refine sq F ?_
      refine wk F ?_
      refine ee hQ F ?_
      exact bo hn (ct _ _ _) ⟨by rw[show lastI bel (l.take i)=0 from hz0,hz2],rfl⟩
     |false=>
      rw[hb]at hE3
      rw[jp hb]at hz2
      have F:=F5 F hy hyi d3 @aA
      try refine sq F ?_
      refine wk F ?_
      refine kq F (hE3) ?_
      refine hK3 _ _ _ (Wkn.refl ⟨k+1,j++[.row 92 3 0 [y.av]],rfl,by simp[Ky.av],?_,?_,by omega,hz2⟩) (by omega)
      all_goals first|exact zq F|rfl|omega|trivial|skip
    ·rw[List.drop_of_length_le (show l.length≤i+1+k by omega)]at hz2
     refine ee hQ F ?_
     exact bo hn (ct _ _ _) ⟨by rw[show lastI bel (l.take i)=0 from hz0,hz2];rfl,rfl⟩
  ·have hle:i+1=l.length:=by omega
   have hsl:=iT (P:=Tryz.prog) (T:=80) (k:=.i64) (len:=l.length) (i:=i+1) (by simp only[go_sem];try rfl) (bF (l:=l) (v:=v) (hn1 [.row 25 4 0 [qA op num s ks]])) (by simp only[go_sem];try rfl) hle (by omega)
   have F:=F2 F hsl
   refine sb [.tmp 8,.tmp 9] (fn:=Tryz.f14) Tryz.func14 ?_
   intro Q hQ
   refine wk F ?_
   refine kq F (hA) ?_
   refine kq F (hCh) ?_
   refine wk F ?_
   refine lm (fun nL tL hL=>∃(m:Nat),m=nL∧vo (H++[.row 25 4 0 [qA op num s ks]]) n v l=hL∧tL 11=.int .i64 ((m:Int)-1)∧tL 8=.int .i64 0∧m≤i∧lastI bel (l.take i)=lastI bel (l.take m)) ((fun(m:Nat)=>(m:Nat)) (i)) ?_ ?_
   ·refine Wkn.refl ⟨i,rfl,az,?_,?_,Nat.le_refl i,rfl⟩
    all_goals first|exact zq F|rfl|omega|trivial|skip
   rintro _ s2 h' ⟨m,rfl,rfl,e11,e8,hm,hz⟩ K2 hK2
   simp only[ai,aj,Nat.reduceEqDiff, ↓reduceIte]at e11 e8
   have F:=F3 F e11 e8
   refine wk F ?_
   refine cq F (fun c1=>?_) (fun c1=>?_)<;>(try exact c1.elim)<;>(refine wk F ?_)
   ·have c2:m-1<l.length:=by omega
    have em:(m:Int)-1=((m-1:Nat):Int):=by omega
    have em2:IntKind.i64.wrap (((m-1:Nat):Int)-1)=((m-1:Nat):Int)-1:=by rw[IntKind.wrap_i64];omega
    obtain⟨y1,hy1,hym1⟩:=af c2
    have et:l.take m=l.take (m-1)++[y1]:=by
     have h:=List.take_add_one (l:=l) (i:=m-1)
     rw[show m-1+1=m from by omega,hy1]at h
     exact h
    rw[et]at hz
    have hE2:=hE [.row 25 4 0 [qA op num s ks]] y1.i
    cases hb0:bel y1.i with
    |true=>
     rw[hb0]at hE2
     rw[kM hb0]at hz
     have F:=F5 F em em2 hy1 c2
     try refine sq F ?_
     refine wk F ?_
     refine aF (hE2) ?_
     try refine sq F ?_
     refine wk F ?_
     refine lm (fun nL tL hL=>∃(k:Nat),0-k=nL∧vo (H++[.row 25 4 0 [qA op num s ks]]) n v l=hL∧tL 57=.int .i64 k∧tL 8=.int .i64 y1.i∧k≤0) ((fun(k:Nat)=>(0-k:Nat)) (0)) ?_ ?_
     ·refine Wkn.refl ⟨0,rfl,az,?_,?_,Nat.le_refl 0⟩
      all_goals first|exact zq F|rfl|omega|trivial|skip
     rintro _ s3 h' ⟨k,rfl,rfl,e57,e8,hk⟩ K3 hK3
     simp only[ai,aj,Nat.reduceEqDiff, ↓reduceIte]at e57 e8
     have F:=F3 F e57 e8
     refine wk F ?_
     refine cq F (fun d1=>?_) (fun d1=>?_)<;>(try exact d1.elim)<;>(refine wk F ?_)
     ·exact absurd d1 (by omega)
     ·have hz2:headI bel (l.drop (i+1))=headI bel []:=by rw[List.drop_of_length_le (by omega)]
      refine ee hQ F ?_
      exact bo hn (ct _ _ _) ⟨by rw[show lastI bel (l.take i)=y1.i from hz,hz2];rfl,rfl⟩
    |false=>
     rw[hb0]at hE2
     rw[jn hb0]at hz
     have F:=F5 F em em2 hy1 c2
     try refine sq F ?_
     refine wk F ?_
     refine aF (hE2) ?_
     try refine sq F ?_
     refine wk F ?_
     refine hK2 _ _ _ (Wkn.refl ⟨m-1,rfl,az,?_,?_,by omega,hz⟩) (by omega)
     all_goals first|exact zq F|rfl|omega|trivial|skip
   ·have hz0:lastI bel (l.take i)=0:=by
     rw[hz,show m=0 from by omega];rfl
    refine lm (fun nL tL hL=>∃(k:Nat),0-k=nL∧vo (H++[.row 25 4 0 [qA op num s ks]]) n v l=hL∧tL 57=.int .i64 k∧tL 8=.int .i64 0∧k≤0) ((fun(k:Nat)=>(0-k:Nat)) (0)) ?_ ?_
    ·refine Wkn.refl ⟨0,rfl,az,?_,?_,Nat.le_refl 0⟩
     all_goals first|exact zq F|rfl|omega|trivial|skip
    rintro _ s3 h' ⟨k,rfl,rfl,e57,e8,hk⟩ K3 hK3
    simp only[ai,aj,Nat.reduceEqDiff, ↓reduceIte]at e57 e8
    have F:=F3 F e57 e8
    refine wk F ?_
    refine cq F (fun d1=>?_) (fun d1=>?_)<;>(try exact d1.elim)<;>(refine wk F ?_)
    ·exact absurd d1 (by omega)
    ·have hz2:headI bel (l.drop (i+1))=headI bel []:=by rw[List.drop_of_length_le (by omega)]
     refine ee hQ F ?_
     exact bo hn (ct _ _ _) ⟨by rw[show lastI bel (l.take i)=0 from hz0,hz2];rfl,rfl⟩
end
end Go.Av
namespace Go.Av
open Go Go.Proofs Go.RowKit
attribute [local irreducible] WP WPl WPix Sat
abbrev qN(op:Int):AVal:=.agg [.int .i64 op,.int .i64 0,.str [],.nil (.slice none 0 0)]
theorem l5(op:Int):Wk (qN op) (qA op 0 [] []):=Wk.agg rfl (fun y hy=>by
 simp only[List.mem_cons,List.not_mem_nil,or_false]at hy
 rcases hy with rfl|rfl|rfl|rfl<;>rfl) fun i x y hx hy=>by
 match i with
 |0=>simp at hx hy;subst hx;subst hy;exact Wk.refl _
 |1=>simp at hx hy;subst hx;subst hy;exact Wk.refl _
 |2=>simp at hx hy;subst hx;subst hy;exact Wk.refl _
 |3=>simp at hx hy;subst hx;subst hy;exact Wk.nils 4
 |i+4=>simp at hx
abbrev pgZ:AVal:=.agg [.nil (.slice none 0 0),.int .i64 0,.int .i64 0,.bool false,.bool false]
theorem o0(N:Nat)(e:Int):Clo N (.tup [pgZ,.int .i64 e]):=.tup _ fun x hx=>by
 simp only[List.mem_cons,List.not_mem_nil,or_false]at hx
 rcases hx with rfl|rfl
 ·exact .agg _ fun x hx=>by
   simp only[List.mem_cons,List.not_mem_nil,or_false]at hx
   rcases hx with rfl|rfl|rfl|rfl|rfl<;>first|exact .nil _|exact .int _ _|exact .bool _
 ·exact .int _ _
variable (G:Nat→Option (List AVal))
section
variable {Y:Heap} {n m v:Nat} {s:PS} {l:List Ky}
theorem rI(hI:s.Inv)(hk:VK l s)(c:Cu)(N:Nat)(hN:1≤N∧N≤100)(hn:n+9≤m)(hm:m+2≤Y.length):Sat (CT G) 13 [.hp m 0 0 0,.hp (n+8) 0 0 0,qN 1,c.av,.int .i64 N] (sv Y n s m v l)
  (fun r h'=>r=.tup [pgA c ((l.drop (fromK l c)).filter fun k=>(lkM s.it k.i).isSome) N,.int .i64 0]∧h'=sv Y n s m v l):=by
 have hl:=hk.len hI
 have e:∀j,vo (so Y n s++j) m v l=sv (Y++j) n s m v l:=fun j=>by rw[aH (by omega), ← bY hn (by simp;omega)]
 have h0:=mq G (H:=so Y n s) (n:=m) (v:=v) hk.1 (by omega) (fun id=>(lkM s.it id).isSome) c (n+8) (by rw[aD (by omega)];omega) 1 0 [] [] N hN (by rw[aD (by omega)];exact hm)
  (fun j=>by rw[e];exact rA hn (by simp;omega)) (fun j=>by rw[e];exact dw G _) (fun j id=>by rw[e];exact rC G hI id hn (by simp;omega))
 rw[← bY hn hm]at h0
 refine Sat.wk (ys:=[.hp m 0 0 0,.hp (n+8) 0 0 0,qA 1 0 [] [],c.av,.int .i64 N]) rfl (fun i x y hx hy=>?_) h0
 match i with
 |2=>simp at hx hy;subst hx;subst hy;exact l5 1
 |0=>simp at hx hy;subst hx;subst hy;exact Wk.refl _
 |1=>simp at hx hy;subst hx;subst hy;exact Wk.refl _
 |3=>simp at hx hy;subst hx;subst hy;exact Wk.refl _
 |4=>simp at hx hy;subst hx;subst hy;exact Wk.refl _
 |i+5=>simp at hx
theorem uf(hI:s.Inv)(hk:VK l s)(item:Int)(hn:n+9≤m)(hm:m+2≤Y.length):Sat (CT G) 14 [.hp m 0 0 0,.hp (n+8) 0 0 0,qN 1,.int .i64 item] (sv Y n s m v l)
  (fun r h'=>r=.tup [.int .i64 (arF (fun id=>(lkM s.it id).isSome) l item).1,.int .i64 (arF (fun id=>(lkM s.it id).isSome) l item).2]∧h'=sv Y n s m v l):=by
 have hl:=hk.len hI
 have e:∀j,vo (so Y n s++j) m v l=sv (Y++j) n s m v l:=fun j=>by rw[aH (by omega), ← bY hn (by simp;omega)]
 have h0:=pG G (H:=so Y n s) (n:=m) (v:=v) (l:=l) (by omega) (fun id=>(lkM s.it id).isSome) (.hp (n+8) 0 0 0) item 1 0 [] [] (by rw[aD (by omega)];exact hm)
  (fun j=>by rw[e];exact dw G _) (fun j id=>by rw[e];exact rC G hI id hn (by simp;omega))
 rw[← bY hn hm]at h0
 refine Sat.wk (ys:=[.hp m 0 0 0,.hp (n+8) 0 0 0,qA 1 0 [] [],.int .i64 item]) rfl (fun i x y hx hy=>?_) h0
 match i with
 |2=>simp at hx hy;subst hx;subst hy;exact l5 1
 |0=>simp at hx hy;subst hx;subst hy;exact Wk.refl _
 |1=>simp at hx hy;subst hx;subst hy;exact Wk.refl _
 |3=>simp at hx hy;subst hx;subst hy;exact Wk.refl _
 |i+4=>simp at hx
theorem vr(c:Cu)(hn:n+9≤m)(hm:m+2≤Y.length):Sat (CT G) 13 [.hp m 0 0 0,.hp (n+8) 0 0 0,qN 1,c.av,.int .i64 0] (sv Y n s m v l)
  (fun r h'=>r=.tup [pgZ,.int .i64 1]∧h'=sv Y n s m v l):=by
 refine Sat.wk (ys:=[.hp m 0 0 0,.hp (n+8) 0 0 0,qA 1 0 [] [],c.av,.int .i64 0]) rfl (fun i x y hx hy=>?_) ?_
 ·match i with
  |2=>simp at hx hy;subst hx;subst hy;exact l5 1
  |0=>simp at hx hy;subst hx;subst hy;exact Wk.refl _
  |1=>simp at hx hy;subst hx;subst hy;exact Wk.refl _
  |3=>simp at hx hy;subst hx;subst hy;exact Wk.refl _
  |4=>simp at hx hy;subst hx;subst hy;exact Wk.refl _
  |i+5=>simp at hx
 have df:∀i:Decidable False, @decide False i=false:=fun i=>by simp
 have dt:∀i:Decidable True, @decide True i=true:=fun i=>by simp
 have F:=F3 df dt @aA
 refine sb [.cell 10 44,.tmp 11] (fn:=Tryz.f13) Tryz.func13 ?_
 intro Q hQ
 refine wk F ?_
 refine kq F (dw G _) ?_
 refine ye hQ F ?_
 rw[← ml hn hm]
 exact Fin.plain (o0 _ _) ⟨rfl,rfl⟩
theorem vt(c:Cu)(hn:n+9≤m)(hm:m+2≤Y.length):Sat (CT G) 13 [.hp m 0 0 0,.hp (n+8) 0 0 0,qN 0,c.av,.int .i64 0] (sv Y n s m v l)
  (fun r h'=>r=.tup [pgZ,.int .i64 250]∧h'=sv Y n s m v l):=by
 refine Sat.wk (ys:=[.hp m 0 0 0,.hp (n+8) 0 0 0,qA 0 0 [] [],c.av,.int .i64 0]) rfl (fun i x y hx hy=>?_) ?_
 ·match i with
  |2=>simp at hx hy;subst hx;subst hy;exact l5 0
  |0=>simp at hx hy;subst hx;subst hy;exact Wk.refl _
  |1=>simp at hx hy;subst hx;subst hy;exact Wk.refl _
  |3=>simp at hx hy;subst hx;subst hy;exact Wk.refl _
  |4=>simp at hx hy;subst hx;subst hy;exact Wk.refl _
  |i+5=>simp at hx
 have df:∀i:Decidable False, @decide False i=false:=fun i=>by simp
 have dt:∀i:Decidable True, @decide True i=true:=fun i=>by simp
 have F:=F3 df dt @aA
 refine sb [.cell 10 44,.tmp 11] (fn:=Tryz.f13) Tryz.func13 ?_
 intro Q hQ
 refine wk F ?_
 refine kq F (nq G _) ?_
 refine ye hQ F ?_
 rw[← ml hn hm]
 exact Fin.plain (o0 _ _) ⟨rfl,rfl⟩
end
def lv3:List Ev:=[⟨3,1,0,0,[117],[],[]⟩,⟨7,1,1,5,[97],[],[]⟩,⟨7,2,1,9,[98],[],[]⟩]
def lv3E:Ev:=⟨7,3,1,7,[99],[],[]⟩
def lv3S:PS:=lv3.foldl PS.step1 PS.z
def lv3T:PS:=lv3S.aft lv3E
theorem vu:L0.ck lv3E=true:=kZ (by kernel_rfl) rfl
theorem mt:lv3.foldl (PS.step L0) PS.z=lv3S:=by
 show(((PS.z.step L0 _).step L0 _).step L0 _)=_
 rw[jP (kZ (by kernel_rfl) rfl),jP (kZ (by kernel_rfl) rfl),jP (kZ (by kernel_rfl) rfl)]
 rfl
theorem jQ:lv3S.ok L0 lv3E=true:=by unfold PS.ok;rw[vu];kernel_rfl
theorem ea:lv3S.Inv:=by rw[← mt];exact PS.Inv.z.fold lv3
theorem kN:lv3S.step L0 lv3E=lv3T:=by unfold PS.step;rw[jQ];rfl
theorem iB:lv3T.Inv:=by rw[← kN];exact ea.step lv3E
def lv3L:List Ky:=[⟨9,2,1⟩,⟨7,3,1⟩,⟨5,1,1⟩]
def lv3a:It:=⟨1,1,5,[97],[],[],false,false,[]⟩
def lv3b:It:=⟨2,1,9,[98],[],[],false,false,[]⟩
def lv3c:It:=⟨3,1,7,[99],[],[],false,false,[]⟩
theorem rJ:lkM lv3T.it 1=some lv3a:=by kernel_rfl
theorem rK:lkM lv3T.it 2=some lv3b:=by kernel_rfl
theorem rL:lkM lv3T.it 3=some lv3c:=by kernel_rfl
theorem wX:lv3T.it.map (·.1)=[1,2,3]:=by kernel_rfl
theorem wY:VK lv3L lv3T:=by
 refine⟨?_,fun k=>⟨fun hk=>?_,?_⟩⟩
 ·unfold Sk lv3L;simp[ahd]
 ·simp only[lv3L,List.mem_cons,List.not_mem_nil,or_false]at hk
  rcases hk with rfl|rfl|rfl
  ·exact⟨2,_,rK,rfl⟩
  ·exact⟨3,_,rL,rfl⟩
  ·exact⟨1,_,rJ,rfl⟩
 ·rintro⟨id,t,ht,rfl⟩
  have hm:id∈lv3T.it.map (·.1):=tV.2 (by rw[ht];rfl)
  rw[wX]at hm
  simp only[List.mem_cons,List.not_mem_nil,or_false]at hm
  rcases hm with rfl|rfl|rfl
  ·rw[rJ]at ht;cases ht;simp[lv3L,lv3a,It.ky]
  ·rw[rK]at ht;cases ht;simp[lv3L,lv3b,It.ky]
  ·rw[rL]at ht;cases ht;simp[lv3L,lv3c,It.ky]
theorem wZ:pgA ⟨0,0,false⟩ ((lv3L.drop (fromK lv3L ⟨0,0,false⟩)).filter fun k=>(lkM lv3T.it k.i).isSome) 2=.agg [.sl 1 [.int .i64 2,.int .i64 3],.int .i64 7,.int .i64 3,.bool true,.bool true]:=by kernel_rfl
theorem x3:pgA ⟨7,3,true⟩ ((lv3L.drop (fromK lv3L ⟨7,3,true⟩)).filter fun k=>(lkM lv3T.it k.i).isSome) 2=.agg [.sl 1 [.int .i64 1],.int .i64 5,.int .i64 1,.bool true,.bool false]:=by kernel_rfl
theorem x4:arF (fun id=>(lkM lv3T.it id).isSome) lv3L 3=(2,1):=by kernel_rfl
theorem x5:rkI (lv3L.map (·.i)) 1=3:=by kernel_rfl
theorem x6:rkI (lv3L.map (·.i)) 4=0:=by kernel_rfl
@[go_sem] theorem FH(h:Heap)(d1 i1 d2 i2:Int)(s1 s2:Bool):abin Tryz.prog h .eql 27 (.agg [.int .i64 d1,.int .i64 i1,.bool s1]) (.agg [.int .i64 d2,.int .i64 i2,.bool s2])=some (.bool (d1==d2&&(i1==i2&&s1==s2))):=by
 simp only[abin,go_sem,aeqL,aeq1, ↓reduceIte,Option.map_some,Option.some.injEq,AVal.bool.injEq]
theorem jq(a b:List Int)(d1 i1 d2 i2:Int)(s1 m1 s2 m2:Bool)(ha:a.length≤1000000)(hb:b.length≤1000000)(h:Heap):Sat (CT G) 16 [.agg [.sl 1 (a.map iA),.int .i64 d1,.int .i64 i1,.bool s1,.bool m1],.agg [.sl 1 (b.map iA),.int .i64 d2,.int .i64 i2,.bool s2,.bool m2]] h
  (fun r h'=>r=.bool (decide (a=b)&&((d1==d2&&(i1==i2&&s1==s2))&&m1==m2))∧h'=h):=by
 have hS:=kJ G a b ha hb
 cases hab:decide (a=b)with
 |false=>
  rw[hab]at hS
  refine sb [.tmp 4] (fn:=Tryz.f16) Tryz.func16 ?_
  intro Q hQ
  refine wk trivial ?_
  refine kq trivial (hS _) ?_
  refine ee hQ trivial ?_
  exact Fin.plain (.bool _) ⟨rfl,rfl⟩
 |true=>
  rw[hab]at hS
  refine sb [.tmp 4] (fn:=Tryz.f16) Tryz.func16 ?_
  intro Q hQ
  refine wk trivial ?_
  refine kq trivial (hS _) ?_
  cases hcu:(d1==d2&&(i1==i2&&s1==s2))with
  |false=>
   have F:=hcu
   try refine sq F ?_
   refine wk F ?_
   refine ee hQ F ?_
   exact Fin.plain (.bool _) ⟨by simp,rfl⟩
  |true=>
   have F:=hcu
   try refine sq F ?_
   refine wk F ?_
   refine ee hQ F ?_
   exact Fin.plain (.bool _) ⟨by simp,rfl⟩
theorem i7(h:Heap):Sat (CT G) 9 [] h (fun r h'=>r=.bool true∧h'=h):=by
 have hF:=fun h=>kB G lv3 (by decide) h
 rw[mt]at hF
 have hz9:(PS.z.bl h.length).length=9:=rfl
 have hfh:=hF h
 generalize hH:h++PS.z.bl h.length=H0 at hfh
 have hl0:H0.length=h.length+9:=by rw[← hH];simp[hz9]
 have hnw:=ul G ea (H:=H0) (n:=h.length) (by omega)
 have kc0:=VK.new ea
 generalize srtK (lv3S.tell.it.map It.ky)=c0 at hnw kc0
 generalize lv3S.tell.it.length=v0 at hnw
 generalize hWw:H0++vb H0.length 0 []=W0 at hnw
 have hlW:W0.length=H0.length+2:=by rw[← hWw];simp[vb]
 have hpre:∃j,W0=h++j:=⟨PS.z.bl h.length++vb H0.length 0 [],by rw[← hWw, ← hH,List.append_assoc]⟩
 generalize H0.length=m at*
 have hn:h.length+9≤m:=by omega
 have hap:=fun(W:Heap) (hm:m+2≤W.length)=>nX G (Y:=W) (n:=h.length) (m:=m) (v:=v0) (l:=c0) ea lv3E hn hm
 rw[kN,jQ]at hap
 have hst:=fun(W:Heap) (hm:m+2≤W.length)=>rB G (Y:=W) (n:=h.length) (m:=m) (v:=v0) kc0 ea lv3E jQ hn hm
 refine sb [.tmp 0] (fn:=Tryz.f9) Tryz.func9 ?_
 intro Q hQ
 refine wk trivial ?_
 refine kq trivial (hfh) ?_
 refine kq trivial (hnw) ?_
 refine kq trivial (hap _ (by first|omega| (simp;omega))) ?_
 refine(hst _ (by first|omega| (simp;omega))).mono ?_
 rintro r h' ⟨rfl,u,L,kd,rfl⟩
 change VK L lv3T at kd
 obtain rfl:=kd.uniq wY
 have hp1:=fun(W:Heap) (hm:m+2≤W.length)=>rI G (Y:=W) (n:=h.length) (m:=m) (v:=u) iB kd ⟨0,0,false⟩ 2 (by omega) hn hm
 have hp2:=fun(W:Heap) (hm:m+2≤W.length)=>rI G (Y:=W) (n:=h.length) (m:=m) (v:=u) iB kd ⟨7,3,true⟩ 2 (by omega) hn hm
 have har:=fun(W:Heap) (hm:m+2≤W.length)=>uf G (Y:=W) (n:=h.length) (m:=m) (v:=u) iB kd 3 hn hm
 have hal:=fun(W:Heap) (hm:m+2≤W.length)=>zw G (Y:=W) (n:=h.length) (m:=m) (v:=u) (s:=lv3T) (l:=lv3L) (by decide) hn hm
 have hr1:=fun(W:Heap) (hm:m+2≤W.length)=>rD G (Y:=W) (n:=h.length) (m:=m) (v:=u) (s:=lv3T) (l:=lv3L) (by decide) 1 hn hm
 have hr4:=fun(W:Heap) (hm:m+2≤W.length)=>rD G (Y:=W) (n:=h.length) (m:=m) (v:=u) (s:=lv3T) (l:=lv3L) (by decide) 4 hn hm
 rw[wZ]at hp1
 rw[x3]at hp2
 rw[x4]at har
 rw[x5]at hr1
 rw[x6]at hr4
 have hs0:=kJ G [2,3,1] [2,3,1] (by decide) (by decide)
 have hs1:=jq G [2,3] [2,3] 7 3 7 3 true true true true (by decide) (by decide)
 have hs2:=jq G [1] [1] 5 1 5 1 true false true false (by decide) (by decide)
 rw[decide_eq_true (rfl:([2,3,1]:List Int)=[2,3,1])]at hs0
 rw[show(decide (([2,3]:List Int)=[2,3])&&(((7:Int)==7&&((3:Int)==3&&true==true))&&true==true))=true from by decide]at hs1
 rw[show(decide (([1]:List Int)=[1])&&(((5:Int)==5&&((1:Int)==1&&true==true))&&false==false))=true from by decide]at hs2
 have hmm:∀q:Heap,m+2≤(W0++q).length:=fun q=>by simp;omega
 try refine sq trivial ?_
 refine wk trivial ?_
 refine kq trivial (hp1 _ (hmm _)) ?_
 refine kq trivial (hp2 _ (hmm _)) ?_
 refine kq trivial (vr G (Y:=W0++_) (n:=h.length) (m:=m) (v:=u) (s:=lv3T) (l:=lv3L) ⟨0,0,false⟩ hn (hmm _)) ?_
 refine kq trivial (vt G (Y:=W0++_) (n:=h.length) (m:=m) (v:=u) (s:=lv3T) (l:=lv3L) ⟨0,0,false⟩ hn (hmm _)) ?_
 refine kq trivial (har _ (hmm _)) ?_
 refine kq trivial (hal _ (hmm _)) ?_
 refine kq trivial (hs0 _) ?_
 refine kq trivial (hr1 _ (hmm _)) ?_
 refine kq trivial (hr4 _ (hmm _)) ?_
 refine kq trivial (hs1 _) ?_
 refine kq trivial (hs2 _) ?_
 refine ee hQ trivial ?_
 obtain⟨j0,hj0⟩:=hpre
 exact mm hn (hmm _) ⟨j0++_,by rw[hj0,List.append_assoc]⟩ (Nat.le_refl _) ⟨rfl,rfl⟩
end Go.Av
namespace Go.Av
open Go Go.Proofs Go.RowKit
attribute [local irreducible] WP WPl WPix Sat
variable (G:Nat→Option (List AVal))
end Go.Av
namespace Go.Av
open Go Go.Proofs Go.RowKit
attribute [local irreducible] WP WPl WPix Sat
theorem pH{l:List Int}{i:Nat}{y item:Int}(hy:l[i]? =some y):tld (l.take (i+1)) item=tld (l.take i) item+if (y==item)=true then 1 else 0:=by
 unfold tld
 rw[List.take_add_one,hy,List.count_append]
 congr 1
 simp only[Option.toList_some,List.count_singleton]
variable (G:Nat→Option (List AVal))
section
variable {Y:Heap} {n m v:Nat} {s:PS} {l:List Ky}
theorem x7(hn:n+9≤m)(hm:m+2≤Y.length){p:Nat}(u:Nat)(hp:p<n):getRow (sv Y n s m v l) p u=getRow Y p u:=by
 unfold sv so vo
 rw[eM u (by show n+9≤_;rw[aX hm];omega) (.inl hp),eM u hm (.inl (by omega))]
theorem o1(hI:s.Inv)(hT:s.Tt)(q:Qy)(hq:q.Fit)(id:Int)(hn:n+9≤m)(hm:m+2≤Y.length):Sat (CT G) 20 [.hp (n+8) 0 0 0,q.av,.int .i64 id] (sv Y n s m v l) (fun r h'=>r=.bool (s.eval q id)∧h'=sv Y n s m v l):=
 rH G s hI hT q hq id (by rw[aM hm];omega)
theorem vw(hI:s.Inv)(hT:s.Tt)(hk:VK l s)(q:Qy)(hq:q.Fit)(hok:q.ok=true)(c:Cu)(N:Nat)(hN:1≤N∧N≤100)(hn:n+9≤m)(hm:m+2≤Y.length):Sat (CT G) 13 [.hp m 0 0 0,.hp (n+8) 0 0 0,q.av,c.av,.int .i64 N] (sv Y n s m v l)
  (fun r h'=>r=.tup [pgA c (pgL l (s.eval q) c) N,.int .i64 0]∧h'=sv Y n s m v l):=by
 have hl:=hk.len hI
 have e:∀j,vo (so Y n s++j) m v l=sv (Y++j) n s m v l:=fun j=>by rw[aH (by omega), ← bY hn (by simp;omega)]
 have hC:∀h,Sat (CT G) 37 [q.av] h (fun r h'=>r=.int .i64 0∧h'=h):=fun h=>by
  have:=jh G q h hq.1 hq.2
  rw[hok]at this
  exact this
 have hE:=fun(j:Heap) id=>o1 G (Y:=Y++j) (v:=v) (l:=l) hI hT q hq id hn (by simp;omega)
 obtain⟨qo,qn,qs,qk⟩:=q
 rw[Qy.av_eq]at*
 have h0:=mq G (H:=so Y n s) (n:=m) (v:=v) hk.1 (by omega) (s.eval (.mk qo qn qs qk)) c (n+8) (by rw[aD (by omega)];omega) qo qn qs (qk.map Qy.av) N hN (by rw[aD (by omega)];exact hm)
  (fun j=>by rw[e];exact rA hn (by simp;omega)) (fun j=>hC _) (fun j id=>by rw[e];exact hE j id)
 rw[← bY hn hm]at h0
 exact h0
end
theorem x8(c:Cu)(bs:List Ky)(N:Nat):pgA c bs N=.agg [.sl 1 (((bs.take N).map (·.i)).map iA),.int .i64 (nxC c (bs.take N)).d,.int .i64 (nxC c (bs.take N)).i,.bool (nxC c (bs.take N)).set,.bool (decide (N<bs.length))]:=by
 unfold pgA;rw[List.map_map];rfl
theorem jr(hc:GClo (CT G))(es ms:List Ev)(q:Qy)(hq:q.mx≤9223372036854775807)(nn item:Int)(hg:¬(lgF es=false∧lgF ms=false∧decide (q.left 0 300≤0)=false∧q.ok=true∧decide (nn<1)=false∧decide (nn>100)=false))(h:Heap):Sat (CT G) 4 [.sl 7 (es.map Ev.av),.sl 7 (ms.map Ev.av),q.av,.int .i64 nn,.int .i64 item] h (fun r h'=>r=.bool true∧h'=h):=by
 have hLg:=bI G es
 have hMg:=bI G ms
 have hLa:=fun h=>j2 G q h hq
 have hCk:=fun(hb:decide (q.left 0 300≤0)=false) h=>i6 G hc q h hq fun hd=>Nat.le_trans (Qy.small (by simpa using hb) hd) (by omega)
 have hb:lgF es=true∨(lgF es=false∧lgF ms=true)∨(lgF es=false∧lgF ms=false∧decide (q.left 0 300≤0)=true)∨(lgF es=false∧lgF ms=false∧decide (q.left 0 300≤0)=false∧q.ok=false)∨
   (lgF es=false∧lgF ms=false∧decide (q.left 0 300≤0)=false∧q.ok=true∧decide (nn<1)=true)∨(lgF es=false∧lgF ms=false∧decide (q.left 0 300≤0)=false∧q.ok=true∧decide (nn<1)=false∧decide (nn>100)=true):=by
  revert hg
  generalize lgF es=b1
  generalize lgF ms=b2
  generalize decide (q.left 0 300≤0)=b3
  generalize q.ok=b4
  generalize decide (nn<1)=b5
  generalize decide (nn>100)=b6
  cases b1<;>cases b2<;>cases b3<;>cases b4<;>cases b5<;>cases b6<;>simp
 clear hg
 have hCk:decide (q.left 0 300≤0)=false→∀h,Sat (CT G) 15 [q.av] h (fun r h'=>r=.bool q.ok∧h'=h):=hCk
 generalize lgF es=b1 at*
 generalize lgF ms=b2 at*
 generalize decide (q.left 0 300≤0)=b3 at*
 generalize q.ok=b4 at*
 clear hq
 obtain⟨qo,qn,qs,qk⟩:=q
 rw[Qy.av_eq]at*
 rcases hb with rfl| ⟨rfl,rfl⟩| ⟨rfl,rfl,rfl⟩| ⟨rfl,rfl,rfl,rfl⟩| ⟨rfl,rfl,rfl,rfl,hb5⟩| ⟨rfl,rfl,rfl,rfl,hb5,hb6⟩
 all_goals (
  try replace hCk:=hCk rfl
  have hF:(lgF ([]:List Ev)=false):=rfl
  have F:=hF
  try have F:=F2 F hb5
  try have F:=F2 F hb6
  refine sb [.tmp 10] (fn:=Tryz.f4) Tryz.func4 ?_
  intro Q hQ
  refine wk F ?_
  repeat (first
   |refine kq F (hLg _) ?_
   |refine kq F (hMg _) ?_
   |refine kq F (hLa _) ?_
   |refine kq F (hCk _) ?_
   |refine kq F (i7 G _) ?_)
  refine ee hQ F ?_
  exact Fin.plain (.bool _) ⟨rfl,rfl⟩)
theorem jR(hc:GClo (CT G))(es ms:List Ev)(q:Qy)(hq:q.mx≤9223372036854775807)(nn item:Int)(h:Heap):Sat (CT G) 4 [.sl 7 (es.map Ev.av),.sl 7 (ms.map Ev.av),q.av,.int .i64 nn,.int .i64 item] h (fun r h'=>r=.bool true∧h'=h):=by
 have hLg:=bI G es
 have hMg:=bI G ms
 have hLa:=fun h=>j2 G q h hq
 have hCk:=fun(hb:decide (q.left 0 300≤0)=false) h=>i6 G hc q h hq fun hd=>Nat.le_trans (Qy.small (by simpa using hb) hd) (by omega)
 have hFit:decide (q.left 0 300≤0)=false→q.Fit:=fun hb=>⟨hq,fun hd=>Nat.le_trans (Qy.small (by simpa using hb) hd) (by omega)⟩
 by_cases hg:lgF es=false∧lgF ms=false∧decide (q.left 0 300≤0)=false∧q.ok=true∧decide (nn<1)=false∧decide (nn>100)=false
 ·obtain⟨hlg,hmg,hbg,hok,hn1,hn2⟩:=hg
  have hCk:=hCk hbg
  have hF:=hFit hbg
  rw[hlg]at hLg
  rw[hmg]at hMg
  rw[hbg]at hLa
  rw[hok]at hCk
  clear hFit hbg
  have hel:es.length≤150:=by
   unfold lgF at hlg
   rw[Bool.or_eq_false_iff]at hlg
   have:=hlg.1
   simp only[decide_eq_false_iff_not]at this
   omega
  have hmel:ms.length≤150:=by
   unfold lgF at hmg
   rw[Bool.or_eq_false_iff]at hmg
   have:=hmg.1
   simp only[decide_eq_false_iff_not]at this
   omega
  obtain⟨N,rfl,hN⟩:∃N:Nat,nn=N∧1≤N∧N≤100:=⟨nn.toNat,by simp at hn1 hn2;omega,by simp at hn1 hn2;omega,by simp at hn1 hn2;omega⟩
  have hI0:(es.foldl (PS.step L0) PS.z).Inv:=PS.Inv.z.fold es
  have hT0:(es.foldl (PS.step L0) PS.z).Tt:=PS.Tt.fold PS.Tt.z PS.Inv.z
  have hkn0:(es.foldl (PS.step L0) PS.z).Kin (evK es):=wV
  have hE0:=vp es
  have hEz:=ue es
  generalize evK es=E0 at*
  have hlk:∀(s:PS) (l:List Ky) (v:Nat) {Y:Heap} {n m:Nat},s.Inv→s.Tt→VK l s→n+9≤m→m+2≤Y.length→∀c,Sat (CT G) 13 [.hp m 0 0 0,.hp (n+8) 0 0 0,q.av,c.av,.int .i64 N] (sv Y n s m v l) (fun r h'=>r=.tup [pgA c (pgL l (s.eval q) c) N,.int .i64 0]∧h'=sv Y n s m v l):=
   fun s l v {Y n m} hI hT hk hn hm c=>vw G hI hT hk q hF hok c N hN hn hm
  have hev:∀(s:PS) (l:List Ky) (v:Nat) {Y:Heap} {n m:Nat},s.Inv→s.Tt→n+9≤m→m+2≤Y.length→Sat (CT G) 20 [.hp (n+8) 0 0 0,q.av,.int .i64 item] (sv Y n s m v l) (fun r h'=>r=.bool (s.eval q item)∧h'=sv Y n s m v l):=
   fun s l v {Y n m} hI hT hn hm=>o1 G hI hT q hF item hn hm
  have hq1:∀s:PS,s.eval q=s.eval q:=fun _=>rfl
  clear hF hok hq
  have hevl:∃ev:PS→Int→Bool,∀s,s.eval q=ev s:=⟨fun s=>s.eval q,fun _=>rfl⟩
  obtain⟨ev,hevq⟩:=hevl
  simp only[hevq]at hlk hev
  have hsome:∀s id,ev s id=true→∃t,lkM s.it id=some t:=fun s id he=>by
   rw[← hevq]at he
   unfold PS.eval at he
   cases hl:lkM s.it id with
   |none=>rw[hl]at he;cases he
   |some t=>exact⟨t,rfl⟩
  clear hevq hq1
  obtain⟨qo,qn,qs,qk⟩:=q
  rw[Qy.av_eq]at*
  generalize hQr:Blk.row 25 4 0 [.agg [.int .i64 qo,.int .i64 qn,.str qs,.sl 4 (qk.map Qy.av)]]=rQ
  have hfh:=kB G es (by omega) (h++[rQ])
  have hnl:(h++[rQ]).length=h.length+1:=by simp
  rw[hnl]at hfh
  generalize es.foldl (PS.step L0) PS.z=s0 at hI0 hT0 hkn0 hfh
  have hz9:(PS.z.bl (h.length+1)).length=9:=rfl
  generalize hH:h++[rQ]++PS.z.bl (h.length+1)=H0 at hfh
  have hl0:H0.length=h.length+10:=by rw[← hH];simp[hz9]
  have hnw:=ul G hI0 (H:=H0) (n:=h.length+1) (by omega)
  have kc0:=VK.new hI0
  generalize srtK (s0.tell.it.map It.ky)=c0 at hnw kc0
  generalize s0.tell.it.length=v0 at hnw
  generalize hWw:H0++vb H0.length 0 []=W0 at hnw
  have hlW:W0.length=H0.length+2:=by rw[← hWw];simp[vb]
  have hpre:∃j,W0=h++(rQ::j):=⟨PS.z.bl (h.length+1)++vb H0.length 0 [],by rw[← hWw, ← hH];simp⟩
  generalize H0.length=m at*
  have hn:h.length+1+9≤m:=by omega
  have hm0:m+2≤W0.length:=by omega
  have hmj0:∀j:Heap,m+2≤(W0++j).length:=fun j=>by simp;omega
  have hQq:∀(j:Heap) (s:PS) (v:Nat) (l:List Ky),getRow (sv (W0++j) (h.length+1) s m v l) h.length 0=some (25,4,[.agg [.int .i64 qo,.int .i64 qn,.str qs,.sl 4 (qk.map Qy.av)]]):=fun j s v l=>by
   obtain⟨j0,hj0⟩:=hpre
   rw[x7 hn (hmj0 j) 0 (by omega),hj0,List.append_assoc,aJ _ rfl,List.cons_append, ← hQr]
   rfl
  have hml:(ms.map Ev.av).length=ms.length:=List.length_map ..
  have hit0:=jk G (Y:=W0) (n:=h.length+1) (m:=m) (v:=v0) (l:=c0) hI0 item hn hm0
  generalize (lkM s0.it item).getD It.z=f0 at hit0
  have r0:getRow (h++[rQ]) h.length 0=some (25,4,[.agg [.int .i64 qo,.int .i64 qn,.str qs,.sl 4 (qk.map Qy.av)]]):=by rw[aJ _ rfl, ← hQr];rfl
  have F:=F6 hml hn1 hn2 hQr r0 hQq
  refine sb [.tmp 10] (fn:=Tryz.f4) Tryz.func4 ?_
  intro Q hQ
  refine wk F ?_
  refine kq F (hLg _) ?_
  refine kq F (hMg _) ?_
  refine kq F (hLa _) ?_
  refine kq F (hCk _) ?_
  refine kq F (hfh) ?_
  refine kq F (hnw) ?_
  refine kq F (i7 G _) ?_
  refine kq F (hit0) ?_
  have hsb:∀s:PS,∀x:Int,ev s item=true→True:=fun _ _ _=>trivial
  refine lm (fun nL tL hL=>∃(k:Nat) (s:PS) (l:List Ky) (v:Nat) (c:Cu) (st:Bool) (w:Nat) (T:List Ky) (E:List (Int×Int)) (j:Heap),1000-k=nL∧sv (W0++(.row 56 9 0 [f0.av]:: .row 27 3 0 [c.av]::j)) (h.length+1) s m v l=hL∧tL 15=.int .i64 w∧tL 16=.bool st∧tL 18=.int .i64 k∧s.Inv∧s.Tt∧VK l s∧s.Kin E∧(0,0)∈E∧E.length+(ms.length-k)≤301∧Tld T c∧(∀x∈T,(x.d,x.i)∈E)∧k≤T.length∧w≤100*k∧(st=true→(w=1∧bhd c ⟨f0.date,item,0⟩=false)∨(w=0∧bhd c ⟨f0.date,item,0⟩=true))) ((fun(k:Nat) (s:PS) (l:List Ky) (v:Nat) (c:Cu) (st:Bool) (w:Nat) (T:List Ky) (E:List (Int×Int)) (j:Heap)=>(1000-k:Nat)) (0) (s0) (c0) (v0) (⟨0,0,false⟩) (true) (0) ([]) (E0) ([])) ?_ ?_
  ·refine Wkn.refl ⟨0,s0,c0,v0,⟨0,0,false⟩,true,0,[],E0,[],rfl,az,?_,?_,?_,hI0,hT0,kc0,hkn0,hEz,by omega,.nil _,by simp,by simp,by omega,fun _=>.inr ⟨rfl,rfl⟩⟩
   all_goals first|exact zq F|rfl|omega|trivial|skip
  rintro _ s2 h' ⟨k,s,l,v,c,st,w,T,E,j,rfl,rfl,e15,e16,e18,hI,hT,kc,hKn,hE1,hE2,hTl,hTe,hTk,hw,hst⟩ K2 hK2
  simp only[ai,aj,Nat.reduceEqDiff, ↓reduceIte]at e15 e16 e18
  have F:=F4 F e15 e16 e18
  have hTE:=hTl.len hTe
  have b1:decide ((k:Int)<1000)=true:=by simp;omega
  have hI1:=fun(Y:Heap) (hm:m+2≤Y.length)=>jk G (Y:=Y) (v:=v) (l:=l) hI item hn hm
  have hE3:=fun(Y:Heap) (hm:m+2≤Y.length)=>hev s l v (Y:=Y) hI hT hn hm
  have hP1:=fun(Y:Heap) (hm:m+2≤Y.length)=>hlk s l v (Y:=Y) hI hT kc hn hm c
  have hstep:∀t,lkM s.it item=some t→ev s item=true→(t.date==f0.date)=true→st=true→
    (w+tld (((pgL l (ev s) c).take N).map (·.i)) item=1∧bhd (nxC c ((pgL l (ev s) c).take N)) ⟨f0.date,item,0⟩=false)∨
    (w+tld (((pgL l (ev s) c).take N).map (·.i)) item=0∧bhd (nxC c ((pgL l (ev s) c).take N)) ⟨f0.date,item,0⟩=true∧N<(pgL l (ev s) c).length):=fun t ht he hd hs=>by
   have hti:=(hI.i3 item t ht).1
   have hdd:t.date=f0.date:=by simpa using hd
   have hx:t.ky∈l:=(kc.2 _).2 ⟨item,t,ht,rfl⟩
   have hu:∀a∈l,∀b∈l,a.i=b.i→a=b:=fun a ha b hb e=>by
    obtain⟨i1,t1,h1,rfl⟩:=(kc.2 a).1 ha
    obtain⟨i2,t2,h2,rfl⟩:=(kc.2 b).1 hb
    have e1:=(hI.i3 _ _ h1).1
    have e2:=(hI.i3 _ _ h2).1
    have e:t1.id=t2.id:=e
    have:i1=i2:=by omega
    subst this
    rw[h1]at h2;cases h2;rfl
   have hbd:∀c:Cu,bhd c t.ky=bhd c ⟨f0.date,item,0⟩:=fun c=>wU hdd hti
   have:=nr kc.1 hu hx (bel:=ev s) (by rw[show t.ky.i=item from hti];exact he) (c:=c) (N:=N) (t:=w) hN.1 (by rw[hbd];exact hst hs)
   rw[hbd,show t.ky.i=item from hti]at this
   exact this
  have hTp:=hTl.page kc.1 (ev s) N
  have hTpe:∀x∈T++(pgL l (ev s) c).take N,(x.d,x.i)∈E:=fun x hx=>by
   rcases List.mem_append.1 hx with hx|hx
   ·exact hTe x hx
   ·obtain⟨id,t,h1,rfl⟩:=(kc.2 x).1 ((jO kc.1).1 (List.mem_of_mem_take hx)).1
    exact hKn id t h1
  have hTpl:N<(pgL l (ev s) c).length→(T++(pgL l (ev s) c).take N).length=T.length+N:=fun hx=>by rw[List.length_append,List.length_take,Nat.min_eq_left (by omega)]
  have hshl:(((pgL l (ev s) c).take N).map (·.i)).length≤100:=by rw[List.length_map,List.length_take];omega
  simp only[x8]at hP1
  generalize (pgL l (ev s) c).take N=tk at*
  generalize (pgL l (ev s) c).length=bl at*
  generalize nxC c tk=c1 at*
  generalize hsh:tk.map (·.i)=sh at*
  obtain⟨t,htv,hts⟩:∃t,(lkM s.it item).getD It.z=t∧(ev s item=true→lkM s.it item=some t):=⟨_,rfl,fun he=>by obtain⟨t,h1⟩:=hsome s item he;rw[h1];rfl⟩
  rw[htv]at hI1
  have hcs:(st=false)∨(st=true∧ev s item=false)∨(st=true∧ev s item=true):=by
   cases st
   ·exact .inl rfl
   ·cases ev s item
    ·exact .inr (.inl ⟨rfl,rfl⟩)
    ·exact .inr (.inr ⟨rfl,rfl⟩)
  obtain⟨st1,hs1,hst1⟩:∃st1:Bool,st1=(st&&(ev s item&&(t.date==f0.date)))∧(st1=true→(w+tld sh item=1∧bhd c1 ⟨f0.date,item,0⟩=false)∨(w+tld sh item=0∧bhd c1 ⟨f0.date,item,0⟩=true∧N<bl)):=⟨_,rfl,fun hx=>by
   simp only[Bool.and_eq_true]at hx
   exact hstep t (hts hx.2.1) hx.2.1 hx.2.2 hx.1⟩
  clear hstep hts hst
  have hsl:(sh.map iA).length=sh.length:=List.length_map ..
  generalize ev s item=ei at*
  have F:=F4 F b1 hsl @aA
  refine wk F ?_
  refine kq F (hI1 _ (hmj0 _)) ?_
  rcases hcs with rfl| ⟨rfl,rfl⟩| ⟨rfl,rfl⟩
  all_goals (
   simp only[Bool.false_and,Bool.true_and]at hs1
   first|have hs2:(t.date==f0.date)=st1:=hs1.symm|have hs2:st1=false:=hs1
   try refine sq F ?_
   try refine wk F ?_
   try refine kq F (hE3 _ (hmj0 _)) ?_
   refine kq F (hP1 _ (hmj0 _)) ?_
   have F:=F2 F hs2
   try refine sq F ?_
   refine lm (fun nL tL hL=>∃(i u:Nat),sh.length-i=nL∧sv (W0++(.row 56 9 0 [f0.av]:: .row 27 3 0 [c.av]::(j++[.row 56 9 0 [t.av],.row 44 5 0 [.agg [.sl 1 (sh.map iA),.int .i64 c1.d,.int .i64 c1.i,.bool c1.set,.bool (decide (N<bl))]]]))) (h.length+1) s m v l=hL∧tL 15=.int .i64 u∧tL 23=.int .i64 i∧i≤sh.length∧u=w+tld (sh.take i) item) ((fun(i u:Nat)=>(sh.length-i:Nat)) (0) (w)) ?_ ?_
   ·refine Wkn.refl ⟨0,w,rfl,az,?_,?_,by omega,by simp[tld]⟩
    all_goals first|exact zq F|rfl|omega|trivial|skip
   rintro _ s3 h' ⟨i,u,rfl,rfl,e15,e23,hi,hu⟩ K3 hK3
   simp only[ai,aj,Nat.reduceEqDiff, ↓reduceIte]at e15 e23
   have F:=F3 F e15 e23
   refine wk F ?_
   have htl:tld (sh.take i) item≤100:=by
    unfold tld
    have:=List.count_le_length (a:=item) (l:=sh.take i)
    rw[List.length_take]at this
    omega
   refine cq F (fun c5=>?_) (fun c5=>?_)<;>(try exact c5.elim)<;>(refine wk F ?_)
   ·have c6:i<sh.length:=by omega
    obtain⟨y,hy,_⟩:=af c6
    have hcn:=pH (item:=item) hy
    have hwr:IntKind.i64.wrap ((u:Int)+1)=((u+1:Nat):Int):=by rw[IntKind.wrap_i64];omega
    cases hyi:(y==item)with
    |true=>
     rw[hyi,if_pos rfl]at hcn
     have F:=F5 F hy c6 hyi hwr
     try refine sq F ?_
     refine wk F ?_
     refine hK3 _ _ _ (Wkn.refl ⟨i+1,u+1,rfl,az,?_,?_,by omega,by omega⟩) (by omega)
     all_goals first|exact zq F|rfl|omega|trivial|skip
    |false=>
     rw[hyi,if_neg (by simp)]at hcn
     have F:=F4 F hy c6 hyi
     try refine sq F ?_
     refine wk F ?_
     refine hK3 _ _ _ (Wkn.refl ⟨i+1,u,rfl,az,?_,?_,by omega,by omega⟩) (by omega)
     all_goals first|exact zq F|rfl|omega|trivial|skip
   ·rw[List.take_of_length_le (by omega)]at hu htl
    rw[← hu]at hst1
    by_cases hmo:N<bl
    ·have dmo:decide (N<bl)=true:=by simp[hmo]
     have hst2:st1=true→(u=1∧bhd c1 ⟨f0.date,item,0⟩=false)∨(u=0∧bhd c1 ⟨f0.date,item,0⟩=true):=fun hx=>(hst1 hx).imp id fun hy=>⟨hy.1,hy.2.1⟩
     have hTpl:=hTpl hmo
     by_cases ckm:k<ms.length
     ·obtain⟨e,he,_⟩:=af ckm
      have hap:=fun(Y:Heap) (hm:m+2≤Y.length)=>nX G (Y:=Y) (n:=h.length+1) (m:=m) (v:=v) (l:=l) hI e hn hm
      have hI2:=hI.step (L:=L0) e
      have hT2:=hT.step hI e
      have hks2:=hKn.step hE1 hI e
      have dk:∀i:Decidable True, @decide True i=true:=fun i=>by simp
      cases hok:s.ok L0 e with
      |false=>
       have hstp:s.step L0 e=s:=by unfold PS.step;rw[hok];rfl
       rw[hstp,hok]at hap
       have F:=F5 F @dmo @ckm dk he
       try refine sq F ?_
       refine wk F ?_
       refine kq F (hap _ (hmj0 _)) ?_
       refine hK2 _ _ _ (Wkn.refl ⟨k+1,s,l,v,c1,st1,u,T++tk,E,j++[.row 56 9 0 [t.av],.row 44 5 0 [.agg [.sl 1 (sh.map iA),.int .i64 c1.d,.int .i64 c1.i,.bool c1.set,.bool (true)]]],rfl,rfl,?_,?_,?_,hI,hT,kc,hKn,hE1,by omega,hTp,hTpe,by omega,by omega,hst2⟩) (by omega)
       all_goals first|exact zq F|rfl|omega|trivial|skip
      |true=>
       have hstp:s.step L0 e=s.aft e:=by unfold PS.step;rw[hok];rfl
       rw[hstp]at hI2 hT2 hks2
       rw[hstp,hok]at hap
       have hsp:=fun(Y:Heap) (hm:m+2≤Y.length)=>rB G (Y:=Y) (v:=v) kc hI e hok hn hm
       have F:=F5 F @dmo @ckm dk he
       try refine sq F ?_
       refine wk F ?_
       refine kq F (hap _ (hmj0 _)) ?_
       refine(hsp _ (hmj0 _)).mono ?_
       rintro r h' ⟨rfl,u1,L,kd,rfl⟩
       try refine sq F ?_
       refine wk F ?_
       refine hK2 _ _ _ (Wkn.refl ⟨k+1,s.aft e,L,u1,c1,st1,u,T++tk,(e.n,e.a)::E,j++[.row 56 9 0 [t.av],.row 44 5 0 [.agg [.sl 1 (sh.map iA),.int .i64 c1.d,.int .i64 c1.i,.bool c1.set,.bool (true)]]],rfl,rfl,?_,?_,?_,hI2,hT2,kd,hks2,List.mem_cons_of_mem _ hE1,by simp;omega,hTp,fun x hx=>List.mem_cons_of_mem _ (hTpe x hx),by omega,by omega,hst2⟩) (by omega)
       all_goals first|exact zq F|rfl|omega|trivial|skip
     ·have dk:decide (k<ms.length)=false:=by simp[ckm]
      have F:=F3 F @dmo dk
      try refine sq F ?_
      refine wk F ?_
      refine hK2 _ _ _ (Wkn.refl ⟨k+1,s,l,v,c1,st1,u,T++tk,E,j++[.row 56 9 0 [t.av],.row 44 5 0 [.agg [.sl 1 (sh.map iA),.int .i64 c1.d,.int .i64 c1.i,.bool c1.set,.bool (true)]]],rfl,rfl,?_,?_,?_,hI,hT,kc,hKn,hE1,by omega,hTp,hTpe,by omega,by omega,hst2⟩) (by omega)
      all_goals first|exact zq F|rfl|omega|trivial|skip
    ·have dmo:decide (N<bl)=false:=by simp[hmo]
     have hor:st1=false∨(st1=true∧u=1):=by
      cases h1:st1 with
      |false=>exact .inl rfl
      |true=>exact .inr ⟨rfl,((hst1 h1).resolve_right fun hx=>hmo hx.2.2).1⟩
     rcases hor with ho| ⟨ho,hu1⟩
     ·have F:=F3 F @dmo ho
      try refine sq F ?_
      refine wk F ?_
      refine ee hQ F ?_
      obtain⟨j0,hj0⟩:=hpre
      exact mm hn (hmj0 _) ⟨_,by rw[hj0,List.append_assoc]⟩ (by omega) ⟨rfl,rfl⟩
     ·first| (rw[hs1]at ho;exact Bool.noConfusion ho)|skip
      all_goals (
       subst hu1
       have F:=F3 F @dmo ho
       try refine sq F ?_
       refine wk F ?_
       refine ee hQ F ?_
       obtain⟨j0,hj0⟩:=hpre
       exact mm hn (hmj0 _) ⟨_,by rw[hj0,List.append_assoc]⟩ (by omega) ⟨rfl,rfl⟩))
 ·exact jr G hc es ms q hq nn item hg h
end Go.Av
