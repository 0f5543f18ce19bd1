/- What belongs to QNot, QAnd, QOr is what does not belong, belongs to both, to either: the card. -/
import Derived.Test.YtmfhelaoeaifeaaGreatDoorMjNn
import Derived.Test.YtmfhelaoeaifeaaGreatDoorMjKf
import Derived.Test.YtmfhelaoeaifeaaGreatDoorMjZl
set_option linter.unusedSimpArgs false
set_option linter.unusedVariables false
set_option linter.unusedSectionVars false
set_option linter.unnecessarySimpa false
set_option maxRecDepth 100000
set_option maxHeartbeats 16000000
namespace Go.Av
open Go Go.Proofs Go.RowKit
attribute [local irreducible] WP WPl WPix Sat
section
variable {s:PS} {e:Ev}
end
variable (G:Nat→Option (List AVal))
end Go.Av
namespace Go.Av
open Go Go.Proofs Go.RowKit
attribute [local irreducible] WP WPl WPix Sat
section
variable {H H':Heap} {n0 e n:Nat} {rows:List AVal} {v:AVal}
end
section
variable {C:Ctx}
end
end Go.Av
namespace Go.Av
open Go Go.Proofs Go.RowKit
attribute [local irreducible] WP WPl WPix Sat
variable (G:Nat→Option (List AVal))
end Go.Av
namespace Go.Av
open Go Go.Proofs Go.RowKit
attribute [local irreducible] WP WPl WPix Sat
variable (G:Nat→Option (List AVal))
end Go.Av
namespace Go.Av
open Go Go.Proofs Go.RowKit
theorem u7{l:List Int}(h:l.Nodup):(sortI l).Pairwise (· < ·):=by
 have h1:(sortI l).Pairwise fun a b=>decide (a≤b)=true:=List.pairwise_mergeSort (fun a b c h1 h2=>by simp at *;omega) (fun a b=>by simp;omega) l
 have h2:(sortI l).Nodup:=nf h
 refine List.Pairwise.imp₂ (R:=fun a b=>decide (a≤b)=true) (S:=fun a b=>a≠b) (fun a b hab hne=>?_) h1 h2
 simp at hab;omega
section
variable {α:Type} {z:α} {key:α→Int} {l:ML Int α} {c:Nat}
theorem u9(w:WFM l c)(hid:∀k a,lkM l k=some a→key a=k):((valsM z l).map key).Pairwise (· < ·):=by
 rw[tR w key hid];exact u7 w.keys
end
end Go.Av
namespace Go.Av
open Go Go.Proofs Go.RowKit
theorem rN{s:PS}(h:s.Inv):(s.tell.it.map (·.id)).Nodup:=
 (u9 (z:=It.z) h.w3 fun k a hk=>(h.i3 k a hk).1).imp fun hab e=>by omega
end Go.Av
namespace Go.Av
open Go Go.Proofs Go.RowKit
attribute [local irreducible] WP WPl WPix Sat
variable (G:Nat→Option (List AVal))
end Go.Av
namespace Go.Av
open Go Go.Proofs Go.RowKit
attribute [local irreducible] WP WPl WPix Sat
variable (G:Nat→Option (List AVal))
theorem rO(a b:List Int)(ha:a.length≤1000000)(hb:b.length≤1000000)(h:Heap):Sat (CT G) 16 [.sl 1 (a.map iA),.sl 1 (b.map iA)] h (fun r h'=>r=.bool (decide (a=b))∧h'=h):=by
 have hal:(a.map iA).length=a.length:=List.length_map ..
 have hbl:(b.map iA).length=b.length:=List.length_map ..
 by_cases hlen:a.length=b.length
 ·have hne:((a.length:Int) != (b.length:Int))=false:=by simp[hlen]
  have F:=F3 hal hbl hne
  refine sb [.tmp 4] (fn:=Tryz.f16) Tryz.func16 ?_
  intro Q hQ
  refine wk F ?_
  refine lm (fun nL tL hL=>∃(k:Nat),a.length-k=nL∧h=hL∧tL 5=.int .i64 k∧k≤a.length∧a.take k=b.take k) ((fun(k:Nat)=>(a.length-k:Nat)) (0)) ?_ ?_
  ·refine Wkn.refl ⟨0,rfl,aG,?_,by omega,rfl⟩
   all_goals first|exact zq F|rfl|omega|trivial|skip
  rintro _ s2 h' ⟨k,rfl,rfl,e5,hk,hp⟩ K2 hK2
  simp only[aj,au,Nat.reduceEqDiff, ↓reduceIte]at e5
  have F:=F2 F e5
  refine wk F ?_
  refine cq F (fun c1=>?_) (fun c1=>?_)<;>(try exact c1.elim)<;>(refine wk F ?_)
  ·have c2:k<a.length:=by omega
   have c3:k<b.length:=by omega
   obtain⟨x,hx,_⟩:=ah c2
   obtain⟨y,hy,_⟩:=ah c3
   have F:=F5 F hx hy c2 c3
   try refine sq F ?_
   refine wk F ?_
   refine cq F (fun c4=>?_) (fun c4=>?_)<;>(try exact c4.elim)<;>(refine wk F ?_)
   ·have e:a≠b:=by rintro rfl;rw[hx]at hy;cases hy;exact c4 rfl
    refine ee hQ (F8 hal hbl hne e5 hx hy c2 c3) ?_
    exact Fin.same (.bool _) ⟨by rw[decide_eq_false e],rfl⟩
   ·have hp1:a.take (k+1)=b.take (k+1):=by rw[List.take_add_one,List.take_add_one,hx,hy,hp,c4]
    refine hK2 _ _ _ (Wkn.refl ⟨k+1,rfl,aG,?_,by omega,hp1⟩) (by omega)
    all_goals first|exact zq F|rfl|omega|trivial|skip
  ·have e:a=b:=by
    have:=hp
    rwa [List.take_of_length_le (by omega),List.take_of_length_le (by omega)]at this
   refine ee hQ F ?_
   exact Fin.same (.bool _) ⟨by rw[decide_eq_true e],rfl⟩
 ·have hne:((a.length:Int) != (b.length:Int))=true:=by simp;omega
  have e:a≠b:=by rintro rfl;exact hlen rfl
  have F:=F3 hal hbl hne
  refine sb [.tmp 4] (fn:=Tryz.f16) Tryz.func16 ?_
  intro Q hQ
  refine wk F ?_
  refine ee hQ F ?_
  exact Fin.same (.bool _) ⟨by rw[decide_eq_false e],rfl⟩
end Go.Av
namespace Go.Av
open Go Go.Proofs Go.RowKit
attribute [local irreducible] WP WPl WPix Sat
variable (G:Nat→Option (List AVal))
end Go.Av
namespace Go.Av
open Go Go.Proofs Go.RowKit
attribute [local irreducible] WP WPl WPix Sat
variable (G:Nat→Option (List AVal))
theorem nV{C:Ctx}{ops:Array Oper}{dst:Option Nat}{op:Op}{ty:TypeId}{pos:String}{aft:Array Edge}{t:Env}{h:Heap}{K:AVal→Heap→Prop}{j d:Nat}{want:Bool}(hd:(ops[j]?).bind (·.dst)=some d)(ht:t d=.bool want)
  (g:wpOperV C ops ⟨dst,op,ty,pos,aft,none⟩ t h K):wpOperV C ops ⟨dst,op,ty,pos,aft,some (j,want)⟩ t h K:=by
 have e:guardA ops t j=some (some want):=by unfold guardA;rw[hd];simp only[ht]
 unfold wpOperV
 simp only[e]
 exact⟨fun _=>g,fun h=>absurd rfl h⟩
end Go.Av
namespace Go.Av
open Go Go.Proofs Go.RowKit
attribute [local irreducible] WP WPl WPix Sat
section
variable {Y:Heap} {n m v:Nat} {s:PS} {l:List Ky}
end
variable (G:Nat→Option (List AVal))
section
variable {Y:Heap} {n m v:Nat} {s:PS} {l:List Ky}
end
end Go.Av
namespace Go.Av
open Go Go.Proofs Go.RowKit
attribute [local irreducible] WP WPl WPix Sat SatY
structure Cu where
 d:Int
 i:Int
 set:Bool
def Cu.av(c:Cu):AVal:=.agg [.int .i64 c.d,.int .i64 c.i,.bool c.set]
variable (G:Nat→Option (List AVal))
section
variable {l:List Ky} {H:Heap} {n v:Nat}
end
end Go.Av
namespace Go.Av
open Go Go.Proofs Go.RowKit
attribute [local irreducible] WP WPl WPix Sat SatY
section
variable {H:Heap} {n p:Nat} {qv:AVal} {c:Cu} {N:Int} {fr:Nat} {z:Blk} {mo:Bool} {pre:List Ky} {j:Heap}
end
variable (G:Nat→Option (List AVal))
section
variable {l:List Ky} {H:Heap} {n v:Nat}
end
end Go.Av
namespace Go.Av
open Go Go.Proofs Go.RowKit
def PS.Tt(s:PS):Prop:=∀k t,lkM s.it k=some t→t.title.length≤256
theorem PS.Tt.z:PS.z.Tt:=fun _ _ h=>by cases h
theorem PS.Tt.getD{s:PS}(h:s.Tt)(k:Int):((lkM s.it k).getD It.z).title.length≤256:=by
 cases hl:lkM s.it k with
 |none=>simp[It.z]
 |some t=>exact h k t hl
theorem PS.Tt.step{s:PS}(h:s.Tt)(hI:s.Inv)(e:Ev):(s.step L0 e).Tt:=by
 unfold PS.step
 split
 ·rename_i hok
  have hr:e.kind=7→e.t.length≤256:=fun k=>by
   unfold PS.ok PS.fits at hok
   rw[Bool.and_eq_true]at hok
   have:=hok.1
   unfold Leaf.ck at this
   simp only[Bool.and_eq_true]at this
   have hq:=this.1
   unfold Leaf.right at hq
   rw[if_neg (by omega),if_neg (by omega),if_neg (by omega),if_neg (by omega),if_neg (by omega),if_pos k]at hq
   simp only[Bool.and_eq_true]at hq
   have hq:=hq.2.2.2.2.1
   have hu:L0.title e.t=textF rightS cleanF e.t 256:=rfl
   rw[hu]at hq
   unfold textF at hq
   rw[Bool.and_eq_true,decide_eq_true_eq]at hq
   omega
  intro k t hk
  rw[xa]at hk
  split at hk
  ·exact h k t (gK hI.w3.keys hk)
  split at hk
  ·rename_i k7
   rcases aZ hk with⟨rfl,rfl⟩| ⟨_,hk⟩
   ·exact hr k7
   ·exact h k t hk
  split at hk
  ·rcases aZ hk with⟨rfl,rfl⟩| ⟨_,hk⟩
   ·exact h.getD _
   ·exact h k t hk
  split at hk
  ·rcases aZ hk with⟨rfl,rfl⟩| ⟨_,hk⟩
   ·exact h.getD _
   ·exact h k t hk
  split at hk
  ·rcases aZ hk with⟨rfl,rfl⟩| ⟨_,hk⟩
   ·exact h.getD _
   ·exact h k t hk
  ·exact h k t hk
 ·exact h
theorem PS.Tt.fold{es:List Ev}:∀{s:PS},s.Tt→s.Inv→(es.foldl (PS.step L0) s).Tt:=by
 induction es with
 |nil=>intro s h _;exact h
 |cons e es ih=>intro s h hI;exact ih (h.step hI e) (hI.step e)
end Go.Av
namespace Go.Av
open Go Go.Proofs Go.RowKit
attribute [local irreducible] WP WPl WPix Sat
def PS.eval(s:PS)(q:Qy)(id:Int):Bool:=match lkM s.it id with
 |none=>false
 |some t=>q.ok&&q.bel s t
def Qy.Fit(q:Qy):Prop:=q.mx≤9223372036854775807∧(q.dep 1≤12→q.sz≤20000)
theorem gO{X:Heap}{n:Nat}{s:PS}(x:ML Int (List Int)×Nat)(b1 b2:Blk)(j:Heap):sa (X++(b1::b2::j)) n s X.length x=so (X++(am x.1 x.2::ar n X.length::j)) n s:=by
 unfold sa twB
 congr 1
 have:=iU X [am x.1 x.2,ar n X.length] j
 show ov _ _ _=X++([am x.1 x.2,ar n X.length]++j)
 rw[this]
 unfold ov
 have h1:∀c1 c2:Blk,(X++(c1::c2::j)).take X.length=X:=fun c1 c2=>by rw[List.take_left' rfl]
 have h2:∀c1 c2:Blk,(X++(c1::c2::j)).drop (X.length+2)=j:=fun c1 c2=>by rw[List.drop_append,List.drop_of_length_le (by omega),Nat.add_sub_cancel_left];rfl
 show _++_++List.drop (X.length+2) _=List.take _ (X++(am x.1 x.2::ar n X.length::j))++_++List.drop (X.length+2) (X++(am x.1 x.2::ar n X.length::j))
 rw[h1,h1,h2,h2]
variable (G:Nat→Option (List AVal))
theorem mi(s:PS){X:Heap}{n:Nat}(hn:n+9≤X.length):Sat (CT G) 34 [.hp (n+8) 0 0 0] (so X n s) (fun r h'=>r=.hp (X.length+1) 0 0 0∧h'=sa (X++[am [] 0,ar n X.length]) n s X.length ([],0)):=by
 have e:=gO (X:=X) (n:=n) (s:=s) ([],0) (am [] 0) (ar n X.length) []
 rw[e, ← b9 hn]
 have hl:=aI (s:=s) hn
 have hp:n+8<(so X n s).length:=by omega
 generalize so X n s=H at*
 rw[← hl]
 refine sb [.tmp 2] (fn:=Tryz.f34) Tryz.func34 ?_
 intro Q hQ
 refine wk trivial ?_
 refine ee hQ trivial ?_
 exact Fin.whole (by simp) (.hp _ _ _ _ (by simp)) ⟨rfl,rfl⟩
theorem kJ(s:PS)(hI:s.Inv)(hT:s.Tt)(q:Qy)(hq:q.Fit)(id:Int){X:Heap}{n:Nat}(hn:n+9≤X.length):Sat (CT G) 14 [.hp (n+8) 0 0 0,q.av,.int .i64 id] (so X n s) (fun r h'=>r=.bool (s.eval q id)∧h'=so X n s):=by
 have hIt:=fun(j:Heap)=>oN G s id (by have:=(hI.tags id).2;omega) (H:=X++j) (n:=n) (by simp;omega)
 have hn1:∀j:Heap,n+9≤(X++j).length:=fun j=>by simp;omega
 unfold PS.eval
 cases hl:lkM s.it id with
 |none=>
  rw[hl]at hIt
  simp only[Option.getD_none,Option.isSome_none]at hIt
  obtain⟨qo,qn,qs,qk⟩:=q
  rw[Qy.av_eq]at*
  have F:=F2 hn hn1
  skip
  refine sb [.tmp 6] (fn:=Tryz.f14) Tryz.func14 ?_
  intro Q hQ
  refine wn F ?_
  refine kn F (hIt _) ?_
  refine lO (by decide+kernel) (wP G) ?_
  refine sq F ?_
  refine wn F ?_
  skip
  refine ee hQ F ?_
  exact ai hn (.bool _) ⟨rfl,rfl⟩
 |some t=>
  rw[hl]at hIt
  simp only[Option.getD_some,Option.isSome_some]at hIt
  have hC:=fun h=>dD G q h hq.1 hq.2
  have htt:=hT id t hl
  have htg:=(hI.tags id).2
  rw[hl,Option.getD_some]at htg
  cases hok:q.ok with
  |false=>
   rw[hok]at hC
   clear hq
   obtain⟨qo,qn,qs,qk⟩:=q
   rw[Qy.av_eq]at*
   have F:=F2 hn hn1
   skip
   refine sb [.tmp 6] (fn:=Tryz.f14) Tryz.func14 ?_
   intro Q hQ
   refine wn F ?_
   refine kn F (hIt _) ?_
   refine lO (by decide+kernel) (wP G) ?_
   refine sq F ?_
   refine wn F ?_
   refine aU (hC _) ?_
   try refine sq F ?_
   refine wn F ?_
   skip
   refine ee hQ F ?_
   exact ai hn (.bool _) ⟨rfl,rfl⟩
  |true=>
   have hok':=hok
   unfold Qy.ok at hok'
   simp only[Bool.and_eq_true,decide_eq_true_eq]at hok'
   obtain⟨rQ,hrQ⟩:∃rQ:Blk,rQ=.row 25 4 0 [q.av]:=⟨_,rfl⟩
   obtain⟨rT,hrT⟩:∃rT:Blk,rT=.row 49 9 0 [t.av]:=⟨_,rfl⟩
   have hlX:(X++[rQ,rT]).length=X.length+2:=by simp
   have e:∀y:ML Int (List Int)×Nat,sa ((X++[rQ,rT])++[am [] 0,ar n (X.length+2)]) n s (X.length+2) y=so (X++[rQ,rT,am y.1 y.2,ar n (X.length+2)]) n s:=fun y=>by
    have:=gO (X:=X++[rQ,rT]) (n:=n) (s:=s) y (am [] 0) (ar n (X.length+2)) []
    rw[hlX]at this
    rw[this,List.append_assoc];rfl
   have hB:=nU G s hI t htt (by omega) (n:=n) (a:=X.length+2) (by omega) q (hq.2 hok'.1) hok'.2.2 ((X++[rQ,rT])++[am [] 0,ar n (X.length+2)]) ([],0) (by simp) ⟨.nil,fun _ _ h=>by cases h⟩
   have hO:=mi G s (X:=X++[rQ,rT]) (n:=n) (by omega)
   rw[hlX,e]at hO
   simp only[e]at hB
   subst hrQ
   subst hrT
   rw[hok]at hC
   show Sat _ _ _ _ (fun r h'=>r=.bool (q.bel s t)∧h'=so X n s)
   generalize q.bel s t=b at*
   clear hq hok' e hlX
   obtain⟨qo,qn,qs,qk⟩:=q
   rw[Qy.av_eq]at*
   have F:=F2 hn hn1
   skip
   refine sb [.tmp 6] (fn:=Tryz.f14) Tryz.func14 ?_
   intro Q hQ
   refine wn F ?_
   refine kn F (hIt _) ?_
   refine aN 12 [8,11] [true,true,true,true,true,true,true,true,false,true,true,false] (.one 8 [false,false,false,false,false,false,false,false,false,true,true] (.one 11 [] .fin)) (by decide+kernel) (by kernel_rfl) (by decide+kernel) ?_
   simp only[aX,aY,aL]
   try refine sq F ?_
   repeat' (first| (refine aC ?_;try refine sq F ?_)| (refine aD ?_;try refine sq F ?_)| (refine aE ?_ ?_<;>try refine sq F ?_))
   all_goals try refine wn F ?_
   refine aU (hC _) ?_
   try refine sq F ?_
   refine wn F ?_
   repeat' (first| (refine aC ?_;try refine sq F ?_)| (refine aD ?_;try refine sq F ?_)| (refine aE ?_ ?_<;>try refine sq F ?_))
   all_goals try refine wn F ?_
   refine nV rfl (by exact zq F) ?_
   simp(disch:=first|omega| (simp only[go_sem, ↓reduceIte,seval];first|done|omega)|fail) only[go_sem, ↓reduceIte,seval,F]
   refine hO.mono ?_
   rintro r h' ⟨rfl,rfl⟩
   have F:=F2 F @aw
   refine⟨by simp(disch:=first|omega| (simp only[go_sem, ↓reduceIte,seval];first|done|omega)|fail) only[go_sem, ↓reduceIte,seval,F],?_⟩
   repeat' (first| (refine aC ?_;try refine sq F ?_)| (refine aD ?_;try refine sq F ?_)| (refine aE ?_ ?_<;>try refine sq F ?_))
   all_goals try refine wn F ?_
   refine nV rfl (by exact zq F) ?_
   simp(disch:=first|omega| (simp only[go_sem, ↓reduceIte,seval];first|done|omega)|fail) only[go_sem, ↓reduceIte,seval,F]
   refine hB.mono ?_
   rintro r h' ⟨rfl,y,hy,rfl⟩
   repeat' (first| (refine aC ?_;try refine sq F ?_)| (refine aD ?_;try refine sq F ?_)| (refine aE ?_ ?_<;>try refine sq F ?_))
   all_goals try refine wn F ?_
   refine ee hQ F ?_
   exact ai hn (.bool _) ⟨rfl,rfl⟩
end Go.Av
namespace Go.Av
open Go Go.Proofs Go.RowKit
attribute [local irreducible] WP WPl WPix Sat
theorem kL{A j:Heap}{p:Nat}(c:Blk)(hp:A.length≤p):ov (A++j) p [c]=A++ov j (p-A.length) [c]:=by
 unfold ov
 rw[List.take_append,List.take_of_length_le hp,List.drop_append,List.drop_of_length_le (by simp only[List.length_singleton];omega),List.nil_append,List.append_assoc,List.append_assoc,List.append_assoc]
 congr 4
 simp only[List.length_singleton]
 omega
def itmK(s:PS)(f:It→Bool):List Ky:=srtK ((s.tell.it.filter f).map It.ky)
def itmF(s:PS)(f:It→Bool):List Int:=(itmK s f).map (·.i)
theorem jn{s:PS}(h:s.Inv)(f:It→Bool):(((s.tell.it.filter f).map It.ky).map (·.i)).Nodup:=by
 rw[List.map_map]
 exact(rN h).sublist (List.filter_sublist.map _)
theorem ua{s:PS}(h:s.Inv){f:It→Bool}{L:List It}(hp:L.Perm (s.tell.it.filter f))(hs:L.Pairwise fun a b=>ahd b.ky a.ky=false):L.map (·.id)=itmF s f:=by
 have hn:(L.map (·.id)).Nodup:=(hp.map (·.id)).nodup_iff.2 ((rN h).sublist (List.filter_sublist.map _))
 have hk:Sk (L.map It.ky):=by
  unfold Sk
  rw[List.pairwise_map]
  have h2:L.Pairwise fun a b=>a.id≠b.id:=by rw[← List.pairwise_map];exact List.nodup_iff_pairwise_ne.1 hn
  refine(hs.and h2).imp fun {a b} ⟨h3,h4⟩=>?_
  exact nz (a:=b.ky) (b:=a.ky) (fun e=>h4 e.symm) h3
 have e:L.map It.ky=itmK s f:=hk.uniq (lD (jn h f)) fun x=>by
  show x∈L.map It.ky↔x∈srtK ((s.tell.it.filter f).map It.ky)
  rw[lE (jn h f)]
  exact(hp.map It.ky).mem_iff
 unfold itmF
 rw[← e,List.map_map];rfl
section
variable {Y:Heap} {n a p v:Nat} {s:PS} {x:ML Int (List Int)×Nat}
theorem vl{L:List It}(h:Y[p]? =some (rI v L)):sI Y n s a x p v L=sa Y n s a x:=by
 unfold sI
 congr 1
 have hp:=(List.getElem?_eq_some_iff.1 h).1
 apply List.ext_getElem?
 intro q
 rw[aM (by simp only[List.length_singleton];omega)]
 split
 ·rename_i hq
  have:q=p:=by simp only[List.length_singleton]at hq;omega
  subst this
  rw[Nat.sub_self,h];rfl
 ·rfl
theorem vm{j:Heap}{y:ML Int (List Int)×Nat}{R:AVal→Heap→Prop}{r0 r:AVal}(hn:n+9≤a)(hm:a+2≤Y.length)(hz:Frz (sa (Y++j) n s a y) Y.length r0 r)(hR:R r (sa Y n s a y)):Fin (sa Y n s a x) (sa (Y++j) n s a y) R r0:=by
 have e:∀(Y:Heap) (x:ML Int (List Int)×Nat),a+2≤Y.length→sa Y n s a x=ov (so Y n s) a [am x.1 x.2,ar n a]:=fun Y x hm=>cc hn hm
 have hl:(so Y n s).length=Y.length:=aI (by omega)
 have e1:sa (Y++j) n s a y=ov (so Y n s++j) a [am y.1 y.2,ar n a]:=by rw[e (Y++j) y (by simp;omega), ← b9 (by omega)]
 rw[e1]at hz ⊢
 rw[e Y y hm]at hR
 rw[e Y x hm]
 exact dE (by rw[hl];exact hm) rfl (fun b hb=>by
  rw[hl]
  simp only[List.mem_cons,List.not_mem_nil,or_false]at hb
  rcases hb with rfl|rfl
  ·exact jh _ _ _
  ·exact ji hn hm) (by rw[hl];exact hz) hR
end
variable (G:Nat→Option (List AVal))
section
variable {s:PS} {Y:Heap} {n a:Nat}
theorem np(hn:n+9≤a)(hm:a+2≤Y.length)(f:It→Bool)(g:FuncId)(cap:List AVal)(t:It)
  (hg:∀x,Gd s x→∀j:Heap,Sat (CT G) g ([]++[t.av]++cap) (sa (Y++j) n s a x) (fun r h'=>r=.bool (f t)∧∃y,Gd s y∧h'=sa (Y++j) n s a y))(x:ML Int (List Int)×Nat)(hx:Gd s x)(j:Heap):
  Sat (CT G) 68 ([]++[t.av]++[.hp Y.length 0 0 0]) (sa (Y++(.row 74 1 0 [.fn (.func g) [] cap]::j)) n s a x) (fun r h'=>r=.bool (!f t)∧∃y,Gd s y∧h'=sa (Y++(.row 74 1 0 [.fn (.func g) [] cap]::j)) n s a y):=by
 have hm1:∀j:Heap,a+2≤(Y++j).length:=fun j=>by simp;omega
 have hc:=hg x hx
 generalize f t=b at*
 have F:=F4 hm hn hm1 @aw
 refine sb [.tmp 3] (fn:=Tryz.f68) Tryz.func68 ?_
 intro Q hQ
 refine wk F ?_
 refine(hc _).mono ?_
 rintro r h' ⟨rfl,y,hy,rfl⟩
 try refine sq F ?_
 refine wk F ?_
 refine ee hQ F ?_
 have:=bu (x:=x) (s:=s) (j:=[.row 49 9 0 [t.av]]) (R:=fun r h'=>r=.bool (!b)∧∃y,Gd s y∧h'=sa (Y++(.row 74 1 0 [.fn (.func g) [] cap]::j)) n s a y) (r:=.bool (!b)) hn (hm1 (.row 74 1 0 [.fn (.func g) [] cap]::j)) (fun N=>.bool _) (y:=y) ⟨rfl,y,hy,rfl⟩
 rwa [List.append_assoc]at this
theorem pL(hI:s.Inv)(hn:n+9≤a)(hm:a+2≤Y.length)(x:ML Int (List Int)×Nat):Sat (CT G) 21 [.hp (n+8) 0 0 0] (sa Y n s a x)
  (fun r h'=>∃(j:Heap) (p v:Nat),r=s.tellH p v∧Y.length≤p∧p+1≤(Y++j).length∧h'=sI (Y++j) n s a x p v s.tell.it):=by
 have hl:(ov Y a [am x.1 x.2,ar n a]).length=Y.length:=aK hm
 refine(mJ G s hI.toOk (H:=ov Y a [am x.1 x.2,ar n a]) (n:=n) (by rw[hl];omega)).mono ?_
 rintro r h' ⟨j,p,v,rfl,h1,h2,rfl⟩
 rw[hl]at h1
 have h3:=bW h2
 have h4:=bZ h2
 rw[List.getElem?_append_right (by rw[hl];exact h1),hl]at h4
 rw[List.length_append,hl]at h3
 refine⟨j,p,v,rfl,h1,by rw[List.length_append];omega,?_⟩
 rw[vl (by rw[List.getElem?_append_right h1];exact h4)]
 show so (ov Y a _++j) n s=so (ov (Y++j) a _) n s
 rw[eJ hm]
theorem ft(hI:s.Inv)(hn:n+9≤a)(hm:a+2≤Y.length)(f:It→Bool)(g:FuncId)(cap:List AVal)
  (hg:∀t∈s.tell.it,∀x,Gd s x→∀j:Heap,Sat (CT G) g ([]++[t.av]++cap) (sa (Y++j) n s a x) (fun r h'=>r=.bool (f t)∧∃y,Gd s y∧h'=sa (Y++j) n s a y))(x:ML Int (List Int)×Nat)(hx:Gd s x):
  Sat (CT G) 35 [.hp (n+8) 0 0 0,.fn (.func g) [] cap] (sa Y n s a x) (fun r h'=>r=.sl 1 ((itmF s f).map iA)∧∃y,Gd s y∧h'=sa Y n s a y):=by
 have hil:s.tell.it.length≤100000:=by have:=fm (z:=It.z) s.it;have:=hI.l3;show(valsM It.z s.it).length≤_;omega
 have hm1:∀j:Heap,a+2≤(Y++j).length:=fun j=>by simp;omega
 have hT:=pL G (s:=s) (Y:=Y++[.row 74 1 0 [.fn (.func g) [] cap]]) hI hn (hm1 _) x
 have hitl:(valsM It.z s.it).length=s.tell.it.length:=rfl
 have F:=F3 hm hn hm1
 refine sb [.tmp 4] (fn:=Tryz.f35) Tryz.func35 ?_
 intro Q hQ
 refine wk F ?_
 refine hT.mono ?_
 rintro r h' ⟨j,p,v,rfl,hp1,hp2,rfl⟩
 have hpl:Y.length+1≤p:=by simpa using hp1
 rw[List.append_assoc]at hp2 ⊢
 change p+1≤(Y++(.row 74 1 0 [.fn (.func g) [] cap]::j)).length at hp2
 have hD:=u5 G (s:=s) (Y:=Y++(.row 74 1 0 [.fn (.func g) [] cap]::j)) (v:=v) hn (by omega) hp2 (fun t=> !f t) 68 [.hp Y.length 0 0 0] s.tell.it (by omega) (fun t ht x hx j2 L=>by
  have e:∀y,sI ((Y++(.row 74 1 0 [.fn (.func g) [] cap]::j))++j2) n s a y p v L=sa (Y++(.row 74 1 0 [.fn (.func g) [] cap]::ov (j++j2) (p-(Y.length+1)) [rI v L])) n s a y:=fun y=>by
   unfold sI
   have:=kL (A:=Y++[.row 74 1 0 [.fn (.func g) [] cap]]) (j:=j++j2) (p:=p) (rI v L) (by simpa using hpl)
   simp only[List.append_assoc,List.cons_append,List.nil_append,List.length_append,List.length_singleton]at this ⊢
   rw[this]
  simp only[e]
  exact np G hn hm f g cap t (hg t ht) x hx _) x hx
 simp only[Bool.not_not]at hD
 unfold PS.tellH
 rw[hitl]
 try simp only[List.cons_append,List.nil_append]
 generalize hZ:Y++(Blk.row 74 1 0 [.fn (.func g) [] cap]::j)=Z at hp2 hD ⊢
 try refine sq F ?_
 refine wk F ?_
 refine hD.mono ?_
 rintro r h' ⟨rfl,y,hy,rfl⟩
 have hap:a+2≤p:=by omega
 have hfl:(s.tell.it.filter f).length≤100000:=Nat.le_trans (List.length_filter_le _ _) hil
 have hS:=rM G (s.tell.it.filter f) hfl (sI Z n s a y p v (s.tell.it.filter f)) p v (jM hn hap hp2)
 try refine sq F ?_
 refine wk F ?_
 refine hS.mono ?_
 rintro r h' ⟨rfl,L,hLp,hLs,rfl⟩
 have hLl:L.length≤100000:=by rw[hLp.length_eq];exact hfl
 rw[jN hn hap hp2, ← hLp.length_eq]
 have hids:=ua hI hLp hLs
 have hgr:∀(b:Blk) (j:Heap) (u:Nat),getRow (sI (Z++(b::j)) n s a y p v L) Z.length u=getRow [b] 0 u:=fun b j u=>by
  rw[mc hn hap (by simp;omega) u (by omega) (by omega),aQ _ rfl];rfl
 have hsr:∀(b b':Blk) (j:Heap),(sI (Z++(b::j)) n s a y p v L).set Z.length b'=sI (Z++(b'::j)) n s a y p v L:=fun b b' j=>by
  rw[me hn hap (by simp;omega) b' (by omega) (by omega),cm _ rfl];rfl
 have hgi:∀(b c:Blk) (j:Heap) (u:Nat),getRow (sI (Z++(b::(j++[c]))) n s a y p v L) (Z.length+(j.length+1)) u=getRow [c] 0 u:=fun b c j u=>by
  rw[mc hn hap (by simp;omega) u (by omega) (by omega),b8 _ rfl,show b::(j++[c])=(b::j)++[c]from rfl,aQ _ (by simp)]
 have hsi:∀(b c c':Blk) (j:Heap),(sI (Z++(b::(j++[c]))) n s a y p v L).set (Z.length+(j.length+1)) c'=sI (Z++(b::(j++[c']))) n s a y p v L:=fun b c c' j=>by
  rw[me hn hap (by simp;omega) c' (by omega) (by omega),lr _ rfl,show b::(j++[c])=(b::j)++[c]from rfl,cm _ (by simp)];rfl
 have hpz:∀j:Heap,p+1≤(Z++j).length:=fun j=>by simp;omega
 have F:=F4 F hap hp2 hpz
 try refine sq F ?_
 refine wk F ?_
 refine lm (fun nL tL hL=>∃(k w:Nat) (acc:List Int) (j2:Heap),L.length-k=nL∧sI (Z++(.row 3 1 w (acc.map iA)::j2)) n s a y p v L=hL∧tL 6=.hs Z.length w 0 acc.length true∧tL 18=.int .i64 k∧k≤L.length∧acc.length=k∧acc++(L.drop k).map (·.id)=L.map (·.id)) ((fun(k w:Nat) (acc:List Int) (j2:Heap)=>(L.length-k:Nat)) (0) (0) ([]) ([])) ?_ ?_
 ·refine⟨_,_,Weak.virt 6 3 1 (by simp) (by omega) (by exact zq F),⟨0,0,[],[],rfl,by rw[rK hn hap hp2];rfl,?_,?_,by omega,rfl,by simp⟩⟩
  all_goals first|exact zq F|rfl|omega|trivial|skip
 rintro _ s2 h' ⟨k,w,acc,j2,rfl,rfl,e6,e18,hk,hac,hq⟩ K2 hK2
 simp only[aj,au,Nat.reduceEqDiff, ↓reduceIte]at e6 e18
 have F:=F3 F e6 e18
 refine wk F ?_
 have hLm:(L.map It.av).length=L.length:=List.length_map ..
 refine cq F (fun c1=>?_) (fun c1=>?_)<;>(try exact c1.elim)<;>(refine wk F ?_)
 ·have c2:k<L.length:=by omega
  obtain⟨t,ht,htm⟩:=ah c2
  rw[aA ht,List.map_cons]at hq
  have F:=F8 F ht c2 hgr hsr hgi hsi hLm
  try refine sq F ?_
  refine wk F ?_
  refine aq F ?_
  try refine sq F ?_
  refine wk F ?_
  refine hK2 _ _ _ (Wkn.refl ⟨k+1,w+1,acc++[t.id],j2++[.row 49 9 0 [t.av]],rfl,by simp[iA,It.av],?_,?_,by omega,by simp;omega,by rw[← hq];simp⟩) (by omega)
  all_goals first|exact zq F|rfl|omega|trivial|skip
 ·rw[aF c1,List.map_nil,List.append_nil,hids]at hq
  refine ee hQ F ?_
  rw[← hq]
  have hz:Frz (sI (Z++(.row 3 1 w (acc.map iA)::j2)) n s a y p v L) Y.length (.hs Z.length w 0 acc.length true) (.sl 1 (acc.map iA)):=by
   refine Frz.data (by rw[← hZ];simp) (e:=3) (by rw[hgr];simp[getRow]) (by simp) (fun r hr=>?_) (fun r hr=>?_)
   ·obtain⟨x,_,rfl⟩:=List.mem_map.1 hr;exact .int _ _
   ·obtain⟨x,_,rfl⟩:=List.mem_map.1 hr;intro c hc;simp[AVal.cells,iA]at hc;subst hc;rfl
  have e:sI (Z++(.row 3 1 w (acc.map iA)::j2)) n s a y p v L=sa (Y++ov (.row 74 1 0 [.fn (.func g) [] cap]::(j++(.row 3 1 w (acc.map iA)::j2))) (p-Y.length) [rI v L]) n s a y:=by
   unfold sI
   rw[← hZ,List.append_assoc]
   rw[show(Blk.row 74 1 0 [.fn (.func g) [] cap]::j)++(.row 3 1 w (acc.map iA)::j2)=.row 74 1 0 [.fn (.func g) [] cap]::(j++(.row 3 1 w (acc.map iA)::j2))from rfl,kL _ (by omega)]
  rw[e]at hz ⊢
  exact vm hn hm hz ⟨rfl,y,hy,rfl⟩
end
end Go.Av
namespace Go.Av
open Go Go.Proofs Go.RowKit
attribute [local irreducible] WP WPl WPix Sat
variable (G:Nat→Option (List AVal))
def wi(X:Heap)(n:Nat)(s:PS)(q:Qy)(y:ML Int (List Int)×Nat)(j:Heap):Heap:=so (X++(.row 25 4 0 [q.av]::am y.1 y.2::ar n (X.length+1):: .row 70 1 0 [.hp (X.length+2) 0 0 0]::j)) n s
def yi(X:Heap)(n:Nat)(q:Qy)(j:Heap):Heap:=X++(.row 25 4 0 [q.av]::am [] 0::ar n (X.length+1):: .row 70 1 0 [.hp (X.length+2) 0 0 0]::j)
theorem pM(X:Heap)(n:Nat)(s:PS)(q:Qy)(y:ML Int (List Int)×Nat)(j:Heap):sa (yi X n q j) n s (X.length+1) y=wi X n s q y j:=by
 have:=gO (X:=X++[.row 25 4 0 [q.av]]) (n:=n) (s:=s) y (am [] 0) (ar n (X.length+1)) (.row 70 1 0 [.hp (X.length+2) 0 0 0]::j)
 rw[List.length_append,List.length_singleton]at this
 unfold yi wi
 rw[List.append_assoc,List.append_assoc]at this
 exact this
theorem mj(X:Heap)(n:Nat)(q:Qy)(j k:Heap):yi X n q j++k=yi X n q (j++k):=by
 unfold yi;rw[List.append_assoc];rfl
theorem jo(X:Heap)(n:Nat)(q:Qy)(j:Heap):(yi X n q j).length=X.length+4+j.length:=by
 unfold yi;simp;omega
theorem jp(s:PS)(hI:s.Inv)(q:Qy)(hqz:q.sz≤20000)(hqa:q.all pnF=true){X:Heap}{n:Nat}(hn:n+9≤X.length)(t:It)(htt:t.title.length≤256)(htg:t.tags.length≤1048576)(x:ML Int (List Int)×Nat)(hx:Gd s x)(j:Heap):
  Sat (CT G) 36 ([]++[t.av]++[.hp (X.length+3) 0 0 0,.hp X.length 0 0 0]) (sa (yi X n q j) n s (X.length+1) x) (fun r h'=>r=.bool (q.bel s t)∧∃y,Gd s y∧h'=sa (yi X n q j) n s (X.length+1) y):=by
 have hB:=nU G s hI t htt htg (n:=n) (a:=X.length+1) (by omega) q hqz hqa (yi X n q (j++[.row 49 9 0 [t.av]])) x (by rw[jo];omega) hx
 have hF:=fun y (hy:Gd s y)=>bu (x:=x) (y:=y) (s:=s) (n:=n) (a:=X.length+1) (Y:=yi X n q j) (j:=[.row 49 9 0 [t.av]]) (R:=fun r h'=>r=.bool (q.bel s t)∧∃y,Gd s y∧h'=sa (yi X n q j) n s (X.length+1) y) (r:=.bool (q.bel s t)) (by omega) (by rw[jo];omega) (fun N=>.bool _) ⟨rfl,y,hy,rfl⟩
 simp only[mj,pM]at hB hF ⊢
 generalize q.bel s t=b at*
 unfold wi at hB hF ⊢
 clear hqz hqa
 obtain⟨qo,qn,qs,qk⟩:=q
 rw[Qy.av_eq]at*
 have hn1:∀j:Heap,n+9≤(X++j).length:=fun j=>by simp;omega
 have F:=F3 hn hn1 @aw
 refine sb [.tmp 4] (fn:=Tryz.f36) Tryz.func36 ?_
 intro Q hQ
 refine wk F ?_
 refine hB.mono ?_
 rintro r h' ⟨rfl,y,hy,rfl⟩
 try refine sq F ?_
 refine wk F ?_
 refine ee hQ F ?_
 exact hF y hy
theorem jq(s:PS)(hI:s.Inv)(hT:s.Tt)(q:Qy)(hq:q.Fit){X:Heap}{n:Nat}(hn:n+9≤X.length):Sat (CT G) 12 [.hp (n+8) 0 0 0,q.av] (so X n s) (fun r h'=>r=.tup (if q.ok then [.sl 1 ((itmF s fun t=>q.bel s t).map iA),.int .i64 0]else [.nil (.slice none 0 0),.int .i64 250])∧h'=so X n s):=by
 have hC:=fun h=>dD G q h hq.1 hq.2
 have hn1:∀j:Heap,n+9≤(X++j).length:=fun j=>by simp;omega
 cases hok:q.ok with
 |false=>
  rw[hok]at hC
  clear hq
  obtain⟨qo,qn,qs,qk⟩:=q
  rw[Qy.av_eq]at*
  have F:=F2 hn hn1
  refine sb [.tmp 4,.tmp 5] (fn:=Tryz.f12) Tryz.func12 ?_
  intro Q hQ
  refine wk F ?_
  refine(hC _).mono ?_
  rintro r h' ⟨rfl,rfl⟩
  try refine sq F ?_
  refine wk F ?_
  refine ee hQ F ?_
  exact ai hn (.tup _ fun y hy=>by simp at hy;rcases hy with rfl|rfl<;>constructor) ⟨rfl,rfl⟩
 |true=>
  have hok':=hok
  unfold Qy.ok at hok'
  simp only[Bool.and_eq_true,decide_eq_true_eq]at hok'
  obtain⟨rQ,hrQ⟩:∃rQ:Blk,rQ=.row 25 4 0 [q.av]:=⟨_,rfl⟩
  have hlX:(X++[rQ]).length=X.length+1:=by simp
  have hO:=mi G s (X:=X++[rQ]) (n:=n) (by omega)
  have hP:=ft G (s:=s) (Y:=yi X n q []) (n:=n) (a:=X.length+1) hI (by omega) (by rw[jo];omega) (fun t=>q.bel s t) 36 [.hp (X.length+3) 0 0 0,.hp X.length 0 0 0] (fun t ht x hx j=>by
   obtain⟨id,hid⟩:∃id,lkM s.it id=some t:=jm hI ((fq hI).mem_iff.1 ht)
   have htg:=(hI.tags id).2
   rw[hid,Option.getD_some]at htg
   have:=jp G s hI q (hq.2 hok'.1) hok'.2.2 hn t (hT id t hid) (by omega) x hx j
   rw[mj]
   exact this) ([],0) ⟨.nil,fun _ _ h=>by cases h⟩
  simp only[pM]at hP
  unfold wi at hP
  rw[hlX]at hO
  have e:sa (X++[rQ]++[am [] 0,ar n (X.length+1)]) n s (X.length+1) ([],0)=so (X++[rQ,am [] 0,ar n (X.length+1)]) n s:=by
   have:=gO (X:=X++[rQ]) (n:=n) (s:=s) ([],0) (am [] 0) (ar n (X.length+1)) []
   rw[hlX]at this
   rw[this,List.append_assoc];rfl
  rw[e]at hO
  subst hrQ
  rw[hok]at hC
  clear hok' e hlX hq hok
  generalize (itmF s fun t=>q.bel s t)=L at*
  obtain⟨qo,qn,qs,qk⟩:=q
  rw[Qy.av_eq]at*
  have F:=F2 hn hn1
  refine sb [.tmp 4,.tmp 5] (fn:=Tryz.f12) Tryz.func12 ?_
  intro Q hQ
  refine wk F ?_
  refine(hC _).mono ?_
  rintro r h' ⟨rfl,rfl⟩
  try refine sq F ?_
  refine wk F ?_
  refine hO.mono ?_
  rintro r h' ⟨rfl,rfl⟩
  have F:=F4 F hn hn1 @aw
  try refine sq F ?_
  refine wk F ?_
  refine hP.mono ?_
  rintro r h' ⟨rfl,y,hy,rfl⟩
  try refine sq F ?_
  refine wk F ?_
  refine ee hQ F ?_
  exact ai hn (.tup _ fun y hy=>by
   simp only[List.mem_cons,List.not_mem_nil,or_false]at hy
   rcases hy with rfl|rfl
   ·exact .sl _ _ fun r hr=>by obtain⟨x,_,rfl⟩:=List.mem_map.1 hr;exact .int _ _
   ·exact .int _ _) ⟨rfl,rfl⟩
end Go.Av
namespace Go.Av
open Go Go.Proofs Go.RowKit
end Go.Av
namespace Go.Av
open Go Go.Proofs Go.RowKit
theorem ub{s:PS}(hI:s.Inv){f:It→Bool}{x:Ky}:x∈itmK s f↔∃id t,lkM s.it id=some t∧f t=true∧x=t.ky:=by
 unfold itmK
 rw[lE (jn hI f),List.mem_map]
 constructor
 ·rintro⟨t,ht,rfl⟩
  obtain⟨h1,h2⟩:=List.mem_filter.1 ht
  obtain⟨id,hid⟩:=jm hI ((fq hI).mem_iff.1 h1)
  exact⟨id,t,hid,h2,rfl⟩
 ·rintro⟨id,t,h1,h2,rfl⟩
  exact⟨t,List.mem_filter.2 ⟨tQ h1,h2⟩,rfl⟩
end Go.Av
namespace Go.Av
open Go Go.Proofs Go.RowKit
def l27:List Ev:=[⟨3,1,0,0,[117],[],[]⟩,⟨7,1,1,5,[97],[71,111,32,116,101,97],[]⟩,⟨7,2,1,9,[98],[],[]⟩,⟨7,3,1,9,[99],[],[]⟩,⟨8,3,0,1,[],[],[]⟩,⟨11,1,0,0,[115],[117,110,114,101,97,100],[]⟩,⟨11,2,0,0,[115],[111,114],[]⟩]
def s27:PS:=l27.foldl PS.step1 PS.z
theorem iC:l27.foldl (PS.step L0) PS.z=s27:=by
 show(((((((PS.z.step L0 _).step L0 _).step L0 _).step L0 _).step L0 _).step L0 _).step L0 _)=_
 rw[cS (fu (by kernel_rfl) rfl),cS (fu (by kernel_rfl) rfl),cS (fu (by kernel_rfl) rfl),cS (fu (by kernel_rfl) rfl),cS (fu (by kernel_rfl) rfl),cS (fu (by kernel_rfl) rfl),cS (fu (by kernel_rfl) rfl)]
 rfl
theorem cT:s27.Inv:=by rw[← iC];exact PS.Inv.z.fold l27
theorem jr:s27.Tt:=by rw[← iC];exact PS.Tt.fold PS.Tt.z PS.Inv.z
def t27a:It:=⟨1,1,5,[97],[71,111,32,116,101,97],[],false,false,[]⟩
def t27b:It:=⟨2,1,9,[98],[],[],false,false,[]⟩
def t27c:It:=⟨3,1,9,[99],[],[],true,false,[]⟩
theorem uo:lkM s27.it 1=some t27a:=by kernel_rfl
theorem pN:lkM s27.it 2=some t27b:=by kernel_rfl
theorem pO:lkM s27.it 3=some t27c:=by kernel_rfl
theorem zu:s27.it.map (·.1)=[1,2,3]:=by kernel_rfl
theorem xb:lkM s27.se 1=some ⟨1,[115],[117,110,114,101,97,100]⟩:=by kernel_rfl
theorem xc:lkM s27.se 2=some ⟨2,[115],[111,114]⟩:=by kernel_rfl
theorem xd:lkM s27.se 3=none:=by kernel_rfl
theorem gP(f:It→Bool)(L:List Ky)(hs:Sk L)(hm:∀x,x∈L↔(f t27a=true∧x=t27a.ky)∨(f t27b=true∧x=t27b.ky)∨(f t27c=true∧x=t27c.ky)):itmF s27 f=L.map (·.i):=by
 have e:itmK s27 f=L:=(lD (jn cT f)).uniq hs fun x=>by
  rw[show x∈srtK _↔x∈itmK s27 f from Iff.rfl,ub cT,hm]
  constructor
  ·rintro⟨id,t,ht,hf,rfl⟩
   have hk:id∈s27.it.map (·.1):=tS.2 (by rw[ht];rfl)
   rw[zu]at hk
   simp only[List.mem_cons,List.not_mem_nil,or_false]at hk
   rcases hk with rfl|rfl|rfl
   ·rw[uo]at ht;cases ht;exact .inl ⟨hf,rfl⟩
   ·rw[pN]at ht;cases ht;exact .inr (.inl ⟨hf,rfl⟩)
   ·rw[pO]at ht;cases ht;exact .inr (.inr ⟨hf,rfl⟩)
  ·rintro(⟨hf,rfl⟩| ⟨hf,rfl⟩| ⟨hf,rfl⟩)
   ·exact⟨1,_,uo,hf,rfl⟩
   ·exact⟨2,_,pN,hf,rfl⟩
   ·exact⟨3,_,pO,hf,rfl⟩
 unfold itmF
 rw[e]
def k27a:Ky:=⟨5,1,1⟩
def k27b:Ky:=⟨9,2,1⟩
def k27c:Ky:=⟨9,3,1⟩
theorem vn(f:It→Bool)(h1:f t27a=true)(h2:f t27b=true)(h3:f t27c=true):itmF s27 f=[2,3,1]:=
 gP f [k27b,k27c,k27a] (by simp[Sk,ahd,k27a,k27b,k27c]) fun x=>by
  simp only[List.mem_cons,List.not_mem_nil,or_false,h1,h2,h3,true_and]
  exact⟨fun h=>h.elim (fun h=>.inr (.inl h)) fun h=>h.elim (fun h=>.inr (.inr h)) .inl,fun h=>h.elim (fun h=>.inr (.inr h)) fun h=>h.elim .inl fun h=>.inr (.inl h)⟩
theorem xe(f:It→Bool)(h1:f t27a=true)(h2:f t27b=true)(h3:f t27c=false):itmF s27 f=[2,1]:=
 gP f [k27b,k27a] (by simp[Sk,ahd,k27a,k27b]) fun x=>by
  simp only[List.mem_cons,List.not_mem_nil,or_false,h1,h2,h3,true_and,Bool.false_eq_true,false_and]
  exact⟨fun h=>h.elim .inr .inl,fun h=>h.elim .inr .inl⟩
theorem xf(f:It→Bool)(h1:f t27a=true)(h2:f t27b=false)(h3:f t27c=true):itmF s27 f=[3,1]:=
 gP f [k27c,k27a] (by simp[Sk,ahd,k27a,k27c]) fun x=>by
  simp only[List.mem_cons,List.not_mem_nil,or_false,h1,h2,h3,true_and,Bool.false_eq_true,false_and,false_or]
  exact⟨fun h=>h.elim .inr .inl,fun h=>h.elim .inr .inl⟩
theorem zw(f:It→Bool)(h1:f t27a=true)(h2:f t27b=false)(h3:f t27c=false):itmF s27 f=[1]:=
 gP f [k27a] (by simp[Sk]) fun x=>by
  simp only[List.mem_cons,List.not_mem_nil,or_false,h1,h2,h3,true_and,Bool.false_eq_true,false_and]
  exact Iff.rfl
def q27(op:Int)(tx:Bs):Qy:=.mk op 0 tx []
theorem vp:itmF s27 (fun t=>(q27 1 []).bel s27 t)=[2,3,1]:=vn _ (by kernel_rfl) (by kernel_rfl) (by kernel_rfl)
theorem vr:itmF s27 (fun t=>(q27 11 [116,101,97]).bel s27 t)=[1]:=zw _ (by kernel_rfl) (by kernel_rfl) (by kernel_rfl)
theorem vt:itmF s27 (fun t=>(q27 9 []).bel s27 t)=[2,1]:=xe _ (by kernel_rfl) (by kernel_rfl) (by kernel_rfl)
theorem vu:(q27 1 []).ok=true:=by kernel_rfl
theorem vw:(q27 11 [116,101,97]).ok=true:=by kernel_rfl
theorem jO:(q27 9 []).ok=true:=by kernel_rfl
theorem vx:(q27 0 []).ok=false:=by kernel_rfl
theorem gQ(op:Int)(tx:Bs)(h:tx.length≤300):(q27 op tx).Fit:=⟨by unfold q27;rw[Qy.mx,Qy.mxL,List.length_nil];omega,fun _=>by unfold q27;rw[Qy.sz,Qy.szL];omega⟩
theorem zx:s27.eval (q27 9 []) 2=true:=by unfold PS.eval;rw[pN,jO];kernel_rfl
theorem zy:s27.eval (q27 9 []) 3=false:=by unfold PS.eval;rw[pO,jO];kernel_rfl
end Go.Av
namespace Go.Av
open Go Go.Proofs Go.RowKit
attribute [local irreducible] WP WPl WPix Sat
variable (G:Nat→Option (List AVal))
theorem dX(s:PS)(id:Int){H:Heap}{n:Nat}(hn:n+9≤H.length):Sat (CT G) 49 [.hp (n+8) 0 0 0,.int .i64 id] (so H n s) (fun r h'=>r=.tup [((lkM s.se id).getD Se.z).av,.bool (lkM s.se id).isSome]∧h'=so H n s):=by
 refine sb [.cell 4 97,.tmp 5] (fn:=Tryz.f49) Tryz.func49 ?_
 intro Q hQ
 refine wk trivial ?_
 refine ye hQ trivial ?_
 exact ai hn (.tup _ fun x hx=>by
  simp only[List.mem_cons,List.not_mem_nil,or_false]at hx
  rcases hx with rfl|rfl
  ·exact .agg _ fun y hy=>by
    simp only[List.mem_cons,List.not_mem_nil,or_false]at hy
    rcases hy with rfl|rfl|rfl<;>constructor
  ·exact .bool _) ⟨rfl,rfl⟩
section
variable {s:PS} {Y:Heap} {n a:Nat}
theorem rP(hn:n+9≤a)(hm:a+2≤Y.length)(l:List Int)(hl:l.length≤1048576)(t:It)(x:ML Int (List Int)×Nat)(hx:Gd s x)(j:Heap):
  Sat (CT G) 51 ([]++[t.av]++[.hp Y.length 0 0 0]) (sa (Y++(.row 38 1 0 [.sl 1 (l.map iA)]::j)) n s a x) (fun r h'=>r=.bool (l.any fun b=>decide (t.id=b))∧∃y,Gd s y∧h'=sa (Y++(.row 38 1 0 [.sl 1 (l.map iA)]::j)) n s a y):=by
 have hm1:∀j:Heap,a+2≤(Y++j).length:=fun j=>by simp;omega
 have F:=F4 hm hn hm1 @aw
 refine sb [.tmp 3] (fn:=Tryz.f51) Tryz.func51 ?_
 intro Q hQ
 refine wk F ?_
 refine kq F (kG G l t.id hl _) ?_
 refine ee hQ F ?_
 have:=bu (x:=x) (s:=s) (j:=[.row 49 9 0 [t.av]]) (R:=fun r h'=>r=.bool (l.any fun b=>decide (t.id=b))∧∃y,Gd s y∧h'=sa (Y++(.row 38 1 0 [.sl 1 (l.map iA)]::j)) n s a y) (r:=.bool (l.any fun b=>decide (t.id=b))) hn (hm1 (.row 38 1 0 [.sl 1 (l.map iA)]::j)) (fun N=>.bool _) (y:=x) ⟨rfl,x,hx,rfl⟩
 rwa [List.append_assoc]at this
theorem uc(hI:s.Inv)(hn:n+9≤a)(hm:a+2≤Y.length)(l:List Int)(hl:l.length≤1048576)(x:ML Int (List Int)×Nat)(hx:Gd s x):
  Sat (CT G) 28 [.hp (n+8) 0 0 0,.sl 1 (l.map iA)] (sa Y n s a x) (fun r h'=>r=.sl 1 ((itmF s fun t=>l.any fun b=>decide (t.id=b)).map iA)∧∃y,Gd s y∧h'=sa Y n s a y):=by
 have hm1:∀j:Heap,a+2≤(Y++j).length:=fun j=>by simp;omega
 have hP:=ft G (s:=s) (Y:=Y++[.row 38 1 0 [.sl 1 (l.map iA)]]) hI hn (hm1 _) (fun t=>l.any fun b=>decide (t.id=b)) 51 [.hp Y.length 0 0 0] (fun t _ x hx j=>by
  have e:Y++[Blk.row 38 1 0 [.sl 1 (l.map iA)]]++j=Y++(Blk.row 38 1 0 [.sl 1 (l.map iA)]::j):=by rw[List.append_assoc];rfl
  rw[e]
  exact rP G hn hm l hl t x hx j) x hx
 generalize (itmF s fun t=>l.any fun b=>decide (t.id=b))=L at*
 have F:=F3 hm hn hm1
 refine sb [.tmp 4] (fn:=Tryz.f28) Tryz.func28 ?_
 intro Q hQ
 refine wk F ?_
 refine hP.mono ?_
 rintro r h' ⟨rfl,y,hy,rfl⟩
 try refine sq F ?_
 refine wk F ?_
 refine ee hQ F ?_
 exact bu hn hm (fun N=>.sl _ _ fun r hr=>by obtain⟨x,_,rfl⟩:=List.mem_map.1 hr;exact .int _ _) ⟨rfl,y,hy,rfl⟩
end
theorem nq(s:PS)(hI:s.Inv)(hT:s.Tt)(q:Qy)(hq:q.Fit)(hok:q.ok=true){X:Heap}{n:Nat}(hn:n+9≤X.length):Sat (CT G) 12 [.hp (n+8) 0 0 0,q.av] (so X n s) (fun r h'=>r=.tup [.sl 1 ((itmF s fun t=>q.bel s t).map iA),.int .i64 0]∧∃(b:Blk) (y:ML Int (List Int)×Nat) (k:Heap),Gd s y∧h'=so (X++(b::am y.1 y.2::ar n (X.length+1)::k)) n s):=by
 have hC:=fun h=>dD G q h hq.1 hq.2
 have hn1:∀j:Heap,n+9≤(X++j).length:=fun j=>by simp;omega
 have hok':=hok
 unfold Qy.ok at hok'
 simp only[Bool.and_eq_true,decide_eq_true_eq]at hok'
 obtain⟨rQ,hrQ⟩:∃rQ:Blk,rQ=.row 25 4 0 [q.av]:=⟨_,rfl⟩
 have hlX:(X++[rQ]).length=X.length+1:=by simp
 have hO:=mi G s (X:=X++[rQ]) (n:=n) (by omega)
 have hP:=ft G (s:=s) (Y:=yi X n q []) (n:=n) (a:=X.length+1) hI (by omega) (by rw[jo];omega) (fun t=>q.bel s t) 36 [.hp (X.length+3) 0 0 0,.hp X.length 0 0 0] (fun t ht x hx j=>by
  obtain⟨id,hid⟩:∃id,lkM s.it id=some t:=jm hI ((fq hI).mem_iff.1 ht)
  have htg:=(hI.tags id).2
  rw[hid,Option.getD_some]at htg
  have:=jp G s hI q (hq.2 hok'.1) hok'.2.2 hn t (hT id t hid) (by omega) x hx j
  rw[mj]
  exact this) ([],0) ⟨.nil,fun _ _ h=>by cases h⟩
 simp only[pM]at hP
 unfold wi at hP
 rw[hlX]at hO
 have e:sa (X++[rQ]++[am [] 0,ar n (X.length+1)]) n s (X.length+1) ([],0)=so (X++[rQ,am [] 0,ar n (X.length+1)]) n s:=by
  have:=gO (X:=X++[rQ]) (n:=n) (s:=s) ([],0) (am [] 0) (ar n (X.length+1)) []
  rw[hlX]at this
  rw[this,List.append_assoc];rfl
 rw[e]at hO
 subst hrQ
 rw[hok]at hC
 clear hok' e hlX hq hok
 generalize (itmF s fun t=>q.bel s t)=L at*
 obtain⟨qo,qn,qs,qk⟩:=q
 rw[Qy.av_eq]at*
 have F:=F2 hn hn1
 refine sb [.tmp 4,.tmp 5] (fn:=Tryz.f12) Tryz.func12 ?_
 intro Q hQ
 refine wk F ?_
 refine(hC _).mono ?_
 rintro r h' ⟨rfl,rfl⟩
 try refine sq F ?_
 refine wk F ?_
 refine hO.mono ?_
 rintro r h' ⟨rfl,rfl⟩
 have F:=F4 F hn hn1 @aw
 try refine sq F ?_
 refine wk F ?_
 refine hP.mono ?_
 rintro r h' ⟨rfl,y,hy,rfl⟩
 try refine sq F ?_
 refine wk F ?_
 refine ee hQ F ?_
 exact Fin.whole (by rw[aI hn,aI (hn1 _)];simp) (.tup _ fun y hy=>by
  simp only[List.mem_cons,List.not_mem_nil,or_false]at hy
  rcases hy with rfl|rfl
  ·exact .sl _ _ fun r hr=>by obtain⟨x,_,rfl⟩:=List.mem_map.1 hr;exact .int _ _
  ·exact .int _ _) ⟨rfl,_,y,_,hy,rfl⟩
theorem nW(N:Nat)(e:Int):Clo N (.tup [.nil (.slice none 0 0),.int .i64 e]):=.tup _ fun y hy=>by
 simp only[List.mem_cons,List.not_mem_nil,or_false]at hy
 rcases hy with rfl|rfl<;>constructor
theorem xg{p q q':AVal}(hq:Wk q q'):∀(i:Nat) (x y:AVal),[p,q][i]? =some x→[p,q'][i]? =some y→Wk x y:=fun i x y hx hy=>by
 match i with
 |0=>simp at hx hy;subst hx;subst hy;exact Wk.refl _
 |1=>simp at hx hy;subst hx;subst hy;exact hq
 |i+2=>simp at hx
theorem Gb{p q q' r:AVal}(hq:Wk q q'):∀(i:Nat) (x y:AVal),[p,q,r][i]? =some x→[p,q',r][i]? =some y→Wk x y:=fun i x y hx hy=>by
 match i with
 |0=>simp at hx hy;subst hx;subst hy;exact Wk.refl _
 |1=>simp at hx hy;subst hx;subst hy;exact hq
 |2=>simp at hx hy;subst hx;subst hy;exact Wk.refl _
 |i+3=>simp at hx
section
variable {X:Heap} {n:Nat} (hn:n+9≤X.length)
include hn
theorem nX(op:Int)(tx:Bs)(hl:tx.length≤300){L:List Int}(hok:(q27 op tx).ok=true)(hL:itmF s27 (fun t=>(q27 op tx).bel s27 t)=L):Sat (CT G) 12 [.hp (n+8) 0 0 0,.agg [.int .i64 op,.int .i64 0,.str tx,.nil (.slice none 0 0)]] (so X n s27) (fun r h'=>r=.tup [.sl 1 (L.map iA),.int .i64 0]∧h'=so X n s27):=by
 have:=jq G s27 cT jr (q27 op tx) (gQ op tx hl) hn
 rw[hok,hL]at this
 exact Sat.wk (ys:=[.hp (n+8) 0 0 0,(Qy.mk op 0 tx []).av]) rfl (xg (jf op 0 tx)) this
theorem ud:Sat (CT G) 12 [.hp (n+8) 0 0 0,.agg [.int .i64 1,.int .i64 0,.str [],.nil (.slice none 0 0)]] (so X n s27) (fun r h'=>r=.tup [.sl 1 ([2,3,1].map iA),.int .i64 0]∧∃(b:Blk) (y:ML Int (List Int)×Nat) (k:Heap),Gd s27 y∧h'=so (X++(b::am y.1 y.2::ar n (X.length+1)::k)) n s27):=by
 have:=nq G s27 cT jr (q27 1 []) (gQ 1 [] (by simp)) vu hn
 rw[vp]at this
 exact Sat.wk (ys:=[.hp (n+8) 0 0 0,(Qy.mk 1 0 [] []).av]) rfl (xg (jf 1 0 [])) this
theorem ue:Sat (CT G) 12 [.hp (n+8) 0 0 0,.agg [.int .i64 0,.int .i64 0,.str [],.nil (.slice none 0 0)]] (so X n s27) (fun r h'=>r=.tup [.nil (.slice none 0 0),.int .i64 250]∧h'=so X n s27):=by
 have:=jq G s27 cT jr (q27 0 []) (gQ 0 [] (by simp)) hn
 rw[vx]at this
 exact Sat.wk (ys:=[.hp (n+8) 0 0 0,(Qy.mk 0 0 [] []).av]) rfl (xg (jf 0 0 [])) this
theorem nY(id:Int){b:Bool}(hb:s27.eval (q27 9 []) id=b):Sat (CT G) 14 [.hp (n+8) 0 0 0,.agg [.int .i64 9,.int .i64 0,.str [],.nil (.slice none 0 0)],.int .i64 id] (so X n s27) (fun r h'=>r=.bool b∧h'=so X n s27):=by
 have:=kJ G s27 cT jr (q27 9 []) (gQ 9 [] (by simp)) id hn
 rw[hb]at this
 exact Sat.wk (ys:=[.hp (n+8) 0 0 0,(Qy.mk 9 0 [] []).av,.int .i64 id]) rfl (Gb (jf 9 0 [])) this
theorem pP:Sat (CT G) 27 [.hp (n+8) 0 0 0,.int .i64 3] (so X n s27) (fun r h'=>r=.tup [.nil (.slice none 0 0),.int .i64 4]∧h'=so X n s27):=by
 have hS:=dX G s27 3 hn
 simp only[xd,Option.isSome_none,Option.getD_none]at hS
 have F:=hn
 refine sb [.tmp 4,.tmp 5] (fn:=Tryz.f27) Tryz.func27 ?_
 intro Q hQ
 refine wk F ?_
 refine kq F (hS) ?_
 refine ee hQ F ?_
 exact ai hn (nW _ _) ⟨rfl,rfl⟩
theorem pQ(hG:GOk G)(hc:GClo (CT G)):Sat (CT G) 27 [.hp (n+8) 0 0 0,.int .i64 1] (so X n s27) (fun r h'=>r=.tup [.sl 1 ([2,1].map iA),.int .i64 0]∧h'=so X n s27):=by
 have hS:=dX G s27 1 hn
 simp only[xb,Option.isSome_some,Option.getD_some]at hS
 have hi:=fun(j:Heap)=>nX G (X:=X++j) (n:=n) (by simp;omega) 9 [] (by simp) jO vt
 have hn1:∀j:Heap,n+9≤(X++j).length:=fun j=>by simp;omega
 have F:=F2 hn hn1
 refine sb [.tmp 4,.tmp 5] (fn:=Tryz.f27) Tryz.func27 ?_
 intro Q hQ
 refine wk F ?_
 refine kq F (hS) ?_
 refine kq F (pF G hG hc _) ?_
 refine kq F (hi _) ?_
 refine ee hQ F ?_
 exact ai hn (.tup _ fun y hy=>by
  simp only[List.mem_cons,List.not_mem_nil,or_false]at hy
  rcases hy with rfl|rfl
  ·exact .sl _ _ fun r hr=>by
    simp only[List.mem_cons,List.not_mem_nil,or_false]at hr
    rcases hr with rfl|rfl<;>exact .int _ _
  ·exact .int _ _) ⟨rfl,rfl⟩
theorem pR(hG:GOk G)(hc:GClo (CT G)):Sat (CT G) 27 [.hp (n+8) 0 0 0,.int .i64 2] (so X n s27) (fun r h'=>r=.tup [.nil (.slice none 0 0),.int .i64 250]∧h'=so X n s27):=by
 have hS:=dX G s27 2 hn
 simp only[xc,Option.isSome_some,Option.getD_some]at hS
 have hn1:∀j:Heap,n+9≤(X++j).length:=fun j=>by simp;omega
 have F:=F2 hn hn1
 refine sb [.tmp 4,.tmp 5] (fn:=Tryz.f27) Tryz.func27 ?_
 intro Q hQ
 refine wk F ?_
 refine kq F (hS) ?_
 refine kq F (pE G hG hc _) ?_
 refine ee hQ F ?_
 exact ai hn (nW _ _) ⟨rfl,rfl⟩
end
end Go.Av
namespace Go.Av
open Go Go.Proofs Go.RowKit
attribute [local irreducible] WP WPl WPix Sat
variable (G:Nat→Option (List AVal))
theorem xh{h j:Heap}{n:Nat}{s:PS}(hm:n+9≤(h++j).length)(hh:h.length≤n):∃j',so (h++j) n s=h++j':=by
 refine⟨(so (h++j) n s).drop h.length,?_⟩
 have hl:=aI (s:=s) hm
 apply List.ext_getElem?
 intro p
 by_cases hp:p<h.length
 ·rw[List.getElem?_append_left hp]
  unfold so
  rw[lu (by show n+9≤_;omega) (.inl (by omega)),List.getElem?_append_left hp]
 ·rw[List.getElem?_append_right (by omega),List.getElem?_drop]
  congr 1
  omega
theorem ml{h Y:Heap}{n:Nat}{s:PS}{R:AVal→Heap→Prop}{b:Bool}(hm:n+9≤Y.length)(hp:∃j,Y=h++j)(hh:h.length≤n)(hR:R (.bool b) h):Fin h (so Y n s) R (.bool b):=by
 obtain⟨j,rfl⟩:=hp
 obtain⟨j',he⟩:=xh (s:=s) hm hh
 rw[he]
 exact Fin.plainE (j:=j') rfl (.bool _) hR
theorem xi:(itmF s27 fun t=>[1,7,3,1].any fun b=>decide (t.id=b))=[3,1]:=xf _ (by kernel_rfl) (by kernel_rfl) (by kernel_rfl)
theorem vy:ahd ⟨0,2,0⟩ ⟨0,3,0⟩=true:=by kernel_rfl
theorem eB(hG:GOk G)(hc:GClo (CT G))(h:Heap):Sat (CT G) 9 [] h (fun r h'=>r=.bool true∧h'=h):=by
 have hF:=kC G l27 (by decide) h
 rw[iC]at hF
 have hz9:(PS.z.bl h.length).length=9:=rfl
 obtain⟨H0,hH0⟩:∃H0,H0=h++PS.z.bl h.length:=⟨_,rfl⟩
 rw[← hH0]at hF
 have hl0:H0.length=h.length+9:=by rw[hH0];simp[hz9]
 have hn0:∀j:Heap,h.length+9≤(H0++j).length:=fun j=>by simp;omega
 have hIt0:=ud G (X:=H0) (n:=h.length) (by omega)
 have F:=hn0
 refine sb [.tmp 0] (fn:=Tryz.f9) Tryz.func9 ?_
 intro Q hQ
 refine wk F ?_
 refine kq F (hF) ?_
 refine hIt0.mono ?_
 rintro r h' ⟨rfl,b,y,k,hy,rfl⟩
 obtain⟨H1,hH1⟩:∃H1,H1=H0++(b::am y.1 y.2::ar h.length (H0.length+1)::k):=⟨_,rfl⟩
 rw[← hH1]
 have hn1:h.length+9≤H1.length:=by rw[hH1];simp;omega
 have hlb:(H0++[b]).length=H0.length+1:=by simp
 have e1:∀z,sa H1 h.length s27 (H0.length+1) z=so (H0++(b::am z.1 z.2::ar h.length (H0.length+1)::k)) h.length s27:=fun z=>by
  have:=gO (X:=H0++[b]) (n:=h.length) (s:=s27) z (am y.1 y.2) (ar h.length (H0.length+1)) k
  rw[hlb,List.append_assoc,List.append_assoc]at this
  rw[hH1];exact this
 have hSo:=uc G (s:=s27) (Y:=H1) (n:=h.length) (a:=H0.length+1) cT (by omega) (by rw[hH1];simp;omega) [1,7,3,1] (by simp) y hy
 rw[xi]at hSo
 simp only[e1]at hSo
 rw[← hH1]at hSo
 have hsm:∀(l:List Int) (h:Heap),l.length≤1000→Sat (CT G) 16 [.sl 1 (l.map iA),.sl 1 (l.map iA)] h (fun r h'=>r=.bool true∧h'=h):=fun l h hl=>by
  have:=rO G l l (by omega) (by omega) h
  rwa [decide_eq_true (rfl:l=l)]at this
 have hah:=fun h=>oE G 0 2 0 3 h
 rw[vy]at hah
 have df:∀i:Decidable False, @decide False i=false:=fun i=>by simp
 have dt:∀i:Decidable True, @decide True i=true:=fun i=>by simp
 have F:=F4 F hn1 df dt
 try refine sq F ?_
 refine wk F ?_
 refine kq F (nX G hn1 11 [116,101,97] (by simp) vw vr) ?_
 refine kq F (pQ G hn1 hG hc) ?_
 refine kq F (pR G hn1 hG hc) ?_
 refine kq F (pP G hn1) ?_
 refine kq F (ue G hn1) ?_
 refine hSo.mono ?_
 rintro r h' ⟨rfl,z,hz,rfl⟩
 obtain⟨H2,hH2⟩:∃H2,H2=H0++(b::am z.1 z.2::ar h.length (H0.length+1)::k):=⟨_,rfl⟩
 rw[← hH2]
 have hn2:h.length+9≤H2.length:=by rw[hH2];simp;omega
 have F:=F2 F hn2
 try refine sq F ?_
 refine wk F ?_
 refine kq F (hsm [2,3,1] _ (by simp)) ?_
 refine kq F (hsm [1] _ (by simp)) ?_
 refine kq F (hsm [2,1] _ (by simp)) ?_
 refine kq F (hsm [3,1] _ (by simp)) ?_
 refine kq F (nY G hn2 2 zx) ?_
 refine kq F (nY G hn2 3 zy) ?_
 refine kq F (hah _) ?_
 refine ee hQ F ?_
 exact ml hn2 ⟨PS.z.bl h.length++(b::am z.1 z.2::ar h.length (H0.length+1)::k),by rw[hH2,hH0,List.append_assoc]⟩ (Nat.le_refl _) ⟨rfl,rfl⟩
end Go.Av
namespace Go.Av
open Go Go.Proofs Go.RowKit
namespace Qy
mutual
theorem dep_mono:∀(q:Qy) (a b:Int),a≤b→b≤65→q.dep a≤q.dep b
 | .mk o n s ks,a,b,h,hb=>by
  have hi:=j3 (.mk o n s ks) a (by omega)
  rw[dep]at hi ⊢
  rw[dep]
  split
  ·split<;>omega
  ·rename_i ha
   rw[if_neg ha]at hi
   split
   ·omega
   ·exact kM ks a b a b h (by omega) h (by omega)
theorem kM:∀(ks:List Qy) (a b m n:Int),a≤b→b≤64→m≤n→n≤65→depL ks a m≤depL ks b n
 | [],_,_,m,n,_,_,h,_=>by rw[depL,depL];exact h
 |k::ks,a,b,m,n,h,hb,hm,hn=>by
  have h1:=dep_mono k (a+1) (b+1) (by omega) (by omega)
  have h2:=j3 k (b+1) (by omega)
  rw[depL,depL]
  refine kM ks a b _ _ h hb ?_ ?_
  ·split<;>split<;>omega
  ·split<;>omega
end
theorem depL_mem:∀{ks:List Qy} {a m:Int} {k:Qy},a≤64→m≤65→k∈ks→k.dep (a+1)≤depL ks a m
 |x::ks,a,m,k,h,hm,hk=>by
  rw[depL]
  have h1:=j3 x (a+1) (by omega)
  have h2:(if x.dep (a+1)>m then x.dep (a+1)else m)≤65:=by split<;>omega
  rcases List.mem_cons.1 hk with rfl|hk
  ·have:=(gz ks a (if k.dep (a+1)>m then k.dep (a+1)else m) h h2).1
   have h3:k.dep (a+1)≤(if k.dep (a+1)>m then k.dep (a+1)else m):=by split<;>omega
   omega
  ·exact depL_mem h h2 hk
theorem mm:∀{ks:List Qy} {m:Int} {k:Qy},0≤m→k∈ks→k.nod≤nodL ks m
 |x::ks,m,k,h,hk=>by
  rw[nodL]
  have h1:=nod_in x
  rcases List.mem_cons.1 hk with rfl|hk
  ·have:=(nodL_in ks (m+k.nod)).1
   omega
  ·exact mm (by omega) hk
theorem ok_kid{o n:Int}{s:Bs}{ks:List Qy}(h:(Qy.mk o n s ks).ok=true){k:Qy}(hk:k∈ks):k.ok=true:=by
 unfold ok at h ⊢
 simp only[Bool.and_eq_true,decide_eq_true_eq]at h ⊢
 obtain⟨h1,h2,h3⟩:=h
 rw[dep,if_neg (by omega)]at h1
 rw[nod]at h2
 rw[all,Bool.and_eq_true,allL_eq,List.all_eq_true]at h3
 have d1:=depL_mem (a:=1) (m:=1) (by omega) (by omega) hk
 have d2:=dep_mono k 1 2 (by omega) (by omega)
 have d3:=mm (m:=1) (by omega) hk
 have d1:k.dep 2≤depL ks 1 1:=d1
 exact⟨by omega,by omega,h3.1 k hk⟩
end Qy
theorem uf{s:PS}{a:Qy}{o:Int}{n:Bs}(h:(Qy.mk 5 o n [a]).ok=true){id:Int}(hs:(lkM s.it id).isSome=true):s.eval (.mk 5 o n [a]) id= !s.eval a id:=by
 obtain⟨t,ht⟩:=Option.isSome_iff_exists.1 hs
 have ha:=Qy.ok_kid h (List.mem_singleton.2 rfl)
 unfold PS.eval
 rw[ht]
 simp only[h,ha,Bool.true_and]
 rw[Qy.bel,if_neg (by decide),if_neg (by decide),if_pos rfl,Qy.belO,Qy.belO,Bool.or_false]
theorem ug{s:PS}{a b:Qy}{o:Int}{n:Bs}(h:(Qy.mk 3 o n [a,b]).ok=true)(id:Int):s.eval (.mk 3 o n [a,b]) id=(s.eval a id&&s.eval b id):=by
 have ha:=Qy.ok_kid h (k:=a) (by simp)
 have hb:=Qy.ok_kid h (k:=b) (by simp)
 unfold PS.eval
 cases lkM s.it id with
 |none=>rfl
 |some t=>
  simp only[h,ha,hb,Bool.true_and]
  rw[Qy.bel,if_pos rfl,Qy.belA,Qy.belA,Qy.belA,Bool.and_true]
theorem vz{s:PS}{a b:Qy}{o:Int}{n:Bs}(h:(Qy.mk 4 o n [a,b]).ok=true)(id:Int):s.eval (.mk 4 o n [a,b]) id=(s.eval a id||s.eval b id):=by
 have ha:=Qy.ok_kid h (k:=a) (by simp)
 have hb:=Qy.ok_kid h (k:=b) (by simp)
 unfold PS.eval
 cases lkM s.it id with
 |none=>rfl
 |some t=>
  simp only[h,ha,hb,Bool.true_and]
  rw[Qy.bel,if_neg (by decide),if_pos rfl,Qy.belO,Qy.belO,Qy.belO,Bool.or_false]
end Go.Av
namespace Go.Av
open Go Go.Proofs Go.RowKit
attribute [local irreducible] WP WPl WPix Sat
theorem Qy.dep_kid{o n:Int}{s:Bs}{ks:List Qy}(h:(Qy.mk o n s ks).dep 1≤12){k:Qy}(hk:k∈ks):k.dep 1≤12:=by
 rw[Qy.dep,if_neg (by omega)]at h
 have d1:=Qy.depL_mem (a:=1) (m:=1) (by omega) (by omega) hk
 have d2:=Qy.dep_mono k 1 2 (by omega) (by omega)
 have d1:k.dep 2≤Qy.depL ks 1 1:=d1
 omega
theorem Qy.clo(N:Nat)(q:Qy):Clo N q.av:=by
 induction q using Qy.ind with
 |h op num s ks ih=>
  rw[Qy.av_eq]
  refine .agg _ fun x hx=>?_
  simp only[List.mem_cons,List.not_mem_nil,or_false]at hx
  rcases hx with rfl|rfl|rfl|rfl
  ·exact .int _ _
  ·exact .int _ _
  ·exact .str _
  ·exact .sl _ _ fun x hx=>by
    obtain⟨k,hk,rfl⟩:=List.mem_map.1 hx
    exact ih k hk
theorem rR{H j:Heap}{n p:Nat}{s:PS}(hn:n+9≤(H++j).length)(hp:p<n)(hl:n≤H.length)(u:Nat):getRow (so (H++j) n s) p u=getRow H p u:=by
 unfold so
 rw[gx u (by show n+9≤_;omega) (.inl hp),bm u (by omega)]
variable (G:Nat→Option (List AVal))
theorem vB(q:Qy)(h:Heap):Sat (CT G) 20 [q.av] h (fun r h'=>r=(Qy.mk 5 0 [] [q]).av∧h'=h):=by
 have hc:=fun N=>Qy.clo N (.mk 5 0 [] [q])
 rw[Qy.av_eq]at hc ⊢
 obtain⟨qo,qn,qs,qk⟩:=q
 rw[List.map_cons,List.map_nil,Qy.av_eq]at*
 refine sb [.cell 2 25] (fn:=Tryz.f20) Tryz.func20 ?_
 intro Q hQ
 refine wk trivial ?_
 refine ye hQ trivial ?_
 exact Fin.plain (hc _) ⟨rfl,rfl⟩
theorem mn{o:Int}{ks:List Qy}(hk:∀k∈ks,k.mx≤9223372036854775807∧(k.dep 1≤12→k.sz≤6000))(hl:ks.length≤2):(Qy.mk o 0 [] ks).Fit:=by
 refine⟨?_,fun hd=>?_⟩
 ·rw[Qy.mx]
  have:Qy.mxL ks≤9223372036854775807:=by
   clear hl
   induction ks with
   |nil=>rw[Qy.mxL];omega
   |cons k ks ih=>
    rw[Qy.mxL]
    have:=(hk k (by simp)).1
    have:=ih fun x hx=>hk x (by simp[hx])
    omega
  simp only[List.length_nil]
  omega
 ·rw[Qy.sz]
  have h2:∀k∈ks,k.sz≤6000:=fun k hx=>(hk k hx).2 (Qy.dep_kid hd hx)
  simp only[List.length_nil]
  match ks,hl,h2 with
  | [],_,_=>rw[Qy.szL];omega
  | [a],_,h2=>rw[Qy.szL,Qy.szL];have:=h2 a (by simp);omega
  | [a,b],_,h2=>rw[Qy.szL,Qy.szL,Qy.szL];have:=h2 a (by simp);have:=h2 b (by simp);omega
theorem jP(hG:GOk G)(hc:GClo (CT G))(es:List Ev)(a:Qy)(ha:a.mx≤9223372036854775807)(b:Qy)(hb:b.mx≤9223372036854775807)(h:Heap):Sat (CT G) 4 [.sl 7 (es.map Ev.av),a.av,b.av] h (fun r h'=>r=.bool true∧h'=h):=by
 have hLg:=jd G es
 have hLa:=fun h=>j4 G a h ha
 have hLb:=fun h=>j4 G b h hb
 by_cases hg:lgF es=false∧decide (a.left 0 300≤0)=false∧decide (b.left 0 300≤0)=false
 ·obtain⟨hlg,hla,hlb⟩:=hg
  have hka:∀k∈ [a],k.mx≤9223372036854775807∧(k.dep 1≤12→k.sz≤6000):=fun k hk=>by
   rw[List.mem_singleton]at hk;subst hk;exact⟨ha,Qy.small (by simpa using hla)⟩
  have hkb:∀k∈ [a,b],k.mx≤9223372036854775807∧(k.dep 1≤12→k.sz≤6000):=fun k hk=>by
   simp only[List.mem_cons,List.not_mem_nil,or_false]at hk
   rcases hk with rfl|rfl
   ·exact⟨ha,Qy.small (by simpa using hla)⟩
   ·exact⟨hb,Qy.small (by simpa using hlb)⟩
  have fN:(Qy.mk 5 0 [] [a]).Fit:=mn hka (by simp)
  have fA:(Qy.mk 3 0 [] [a,b]).Fit:=mn hkb (by simp)
  have fO:(Qy.mk 4 0 [] [a,b]).Fit:=mn hkb (by simp)
  have fa:a.Fit:=⟨ha,fun hd=>Nat.le_trans (Qy.small (by simpa using hla) hd) (by omega)⟩
  have fb:b.Fit:=⟨hb,fun hd=>Nat.le_trans (Qy.small (by simpa using hlb) hd) (by omega)⟩
  have hCn:=fun h=>eA G hc _ h fN.1 fN.2
  have hCa:=fun h=>eA G hc _ h fA.1 fA.2
  have hCo:=fun h=>eA G hc _ h fO.1 fO.2
  have hNt:=fun h=>vB G a h
  rw[hlg]at hLg
  rw[hla]at hLa
  rw[hlb]at hLb
  have hel:es.length≤150:=by
   unfold lgF at hlg
   rw[Bool.or_eq_false_iff]at hlg
   have:=hlg.1
   simp only[decide_eq_false_iff_not]at this
   omega
  have hI:(es.foldl (PS.step L0) PS.z).Inv:=PS.Inv.z.fold es
  have hT:(es.foldl (PS.step L0) PS.z).Tt:=PS.Tt.fold PS.Tt.z PS.Inv.z
  obtain⟨rA,hrA⟩:∃rA,Blk.row 25 4 0 [a.av]=rA:=⟨_,rfl⟩
  obtain⟨rB,hrB⟩:∃rB,Blk.row 25 4 0 [b.av]=rB:=⟨_,rfl⟩
  have hfh:=kC G es (by omega) (h++[rA,rB])
  have hnl:(h++[rA,rB]).length=h.length+2:=by simp
  rw[hnl]at hfh
  generalize es.foldl (PS.step L0) PS.z=s at hI hT hfh
  have hz9:(PS.z.bl (h.length+2)).length=9:=rfl
  obtain⟨H0,hH0⟩:∃H0,H0=h++[rA,rB]++PS.z.bl (h.length+2):=⟨_,rfl⟩
  rw[← hH0]at hfh
  have hl0:H0.length=h.length+11:=by rw[hH0];simp[hz9]
  have hn0:∀j:Heap,h.length+2+9≤(H0++j).length:=fun j=>by simp;omega
  have hpre:∀j,∃j',H0++j=h++j':=fun j=>⟨[rA,rB]++(PS.z.bl (h.length+2)++j),by rw[hH0];simp only[List.append_assoc]⟩
  have r0a:getRow (h++[rA,rB]) h.length 0=some (25,4,[a.av]):=by rw[aQ _ rfl, ← hrA];rfl
  have r0b:getRow (h++[rA,rB]) (h.length+1) 0=some (25,4,[b.av]):=by rw[b8 _ rfl, ← hrB];rfl
  have hra:∀j,getRow (so (H0++j) (h.length+2) s) h.length 0=some (25,4,[a.av]):=fun j=>by
   rw[rR (hn0 j) (by omega) (by omega),hH0,bm _ (by simp),r0a]
  have hrb:∀j,getRow (so (H0++j) (h.length+2) s) (h.length+1) 0=some (25,4,[b.av]):=fun j=>by
   rw[rR (hn0 j) (by omega) (by omega),hH0,bm _ (by simp),r0b]
  have hra0:=hra []
  have hrb0:=hrb []
  have hn00:=hn0 []
  rw[List.append_nil]at hra0 hrb0 hn00
  have hE:=fun(q:Qy) (hq:q.Fit) (id:Int) (j:Heap)=>kJ G s hI hT q hq id (X:=H0++j) (n:=h.length+2) (hn0 j)
  have hTl:=fun(j:Heap)=>iY G s hI.toOk (H:=H0++j) (n:=h.length+2) (hn0 j)
  by_cases hok:(Qy.mk 3 0 [] [a,b]).ok=true∧(Qy.mk 4 0 [] [a,b]).ok=true∧(Qy.mk 5 0 [] [a]).ok=true
  ·obtain⟨o1,o2,o3⟩:=hok
   have xN:∀id,(lkM s.it id).isSome=true→s.eval (.mk 5 0 [] [a]) id= !s.eval a id:=fun id hs=>uf o3 hs
   have xA:=fun id=>ug (s:=s) o1 id
   have xO:=fun id=>vz (s:=s) o2 id
   have hEa:=hE a fa
   have hEb:=hE b fb
   have hEn:=hE _ fN
   have hEA:=hE _ fA
   have hEO:=hE _ fO
   have hxl:s.tell.it.length≤100000:=by have:=fm (z:=It.z) s.it;have:=hI.l3;show(valsM It.z s.it).length≤_;omega
   have hit:∀t∈s.tell.it,(lkM s.it t.id).isSome=true:=fun t ht=>by
    obtain⟨k,hk⟩:=jm hI ((fq hI).mem_iff.1 ht)
    rw[(hI.i3 k t hk).1,hk];rfl
   rw[o1]at hCa
   rw[o2]at hCo
   rw[o3]at hCn
   clear hE fN fA fO fa fb hka hkb o1 o2 o3 ha hb hla hlb
   generalize s.tell=x at*
   generalize s.eval (.mk 5 0 [] [a])=vN at*
   generalize s.eval (.mk 3 0 [] [a,b])=vA at*
   generalize s.eval (.mk 4 0 [] [a,b])=vO at*
   generalize s.eval a=va at*
   generalize s.eval b=vb at*
   simp only[Qy.av_eq,List.map_cons,List.map_nil]at hCa hCo hCn hNt hEn hEA hEO
   obtain⟨ao,am,ax,ak⟩:=a
   obtain⟨bo,bn,bx,bk⟩:=b
   simp only[Qy.av_eq]at hCa hCo hCn hNt hEa hEb hEn hEA hEO hLa hLb hrA hrB r0a r0b hra hrb hra0 hrb0 ⊢
   have hil:(x.it.map It.av).length=x.it.length:=List.length_map ..
   have F:=F2 (F9 @hrA @hrB @r0a @r0b hra hrb hra0 hrb0 hn00) (F3 hn0 hil @aw)
   refine sb [.tmp 6] (fn:=Tryz.f4) Tryz.func4 ?_
   intro Q hQ
   refine wk F ?_
   refine kq F (hLg _) ?_
   refine kq F (hLa _) ?_
   refine kq F (hLb _) ?_
   refine kq F (hfh) ?_
   refine kq F (eB G hG hc _) ?_
   refine kq F (hCa _) ?_
   refine kq F (hCo _) ?_
   refine kq F (hNt _) ?_
   refine kq F (hCn _) ?_
   refine kq F (hTl _) ?_
   obtain⟨J,hJ⟩:∃J:Heap,J=[Blk.row 25 4 0 [.agg [.int .i64 3,.int .i64 0,.str [],.sl 4 [.agg [.int .i64 ao,.int .i64 am,.str ax,.sl 4 (ak.map Qy.av)],.agg [.int .i64 bo,.int .i64 bn,.str bx,.sl 4 (bk.map Qy.av)]]]],.row 25 4 0 [.agg [.int .i64 4,.int .i64 0,.str [],.sl 4 [.agg [.int .i64 ao,.int .i64 am,.str ax,.sl 4 (ak.map Qy.av)],.agg [.int .i64 bo,.int .i64 bn,.str bx,.sl 4 (bk.map Qy.av)]]]],.row 36 9 0 [x.av]]:=⟨_,rfl⟩
   have g0:getRow (so (H0++J) (h.length+2) s) H0.length 0=some (25,4,[.agg [.int .i64 3,.int .i64 0,.str [],.sl 4 [.agg [.int .i64 ao,.int .i64 am,.str ax,.sl 4 (ak.map Qy.av)],.agg [.int .i64 bo,.int .i64 bn,.str bx,.sl 4 (bk.map Qy.av)]]]]):=by
    rw[bt (hn0 _) _ (by omega),hJ,aQ _ rfl];rfl
   have g1:getRow (so (H0++J) (h.length+2) s) (H0.length+1) 0=some (25,4,[.agg [.int .i64 4,.int .i64 0,.str [],.sl 4 [.agg [.int .i64 ao,.int .i64 am,.str ax,.sl 4 (ak.map Qy.av)],.agg [.int .i64 bo,.int .i64 bn,.str bx,.sl 4 (bk.map Qy.av)]]]]):=by
    rw[bt (hn0 _) _ (by omega),hJ,b8 _ rfl];rfl
   have g2:getRow (so (H0++J) (h.length+2) s) (H0.length+2) 0=some (36,9,[x.av]):=by
    rw[bt (hn0 _) _ (by omega),hJ,b8 _ rfl];rfl
   unfold St.av at hJ g2
   rw[← hJ]
   have F:=F4 F g0 g1 g2
   refine lm (fun nL tL hL=>∃(k:Nat),x.it.length-k=nL∧so (H0++J) (h.length+2) s=hL∧tL 11=.int .i64 k∧k≤x.it.length) ((fun(k:Nat)=>(x.it.length-k:Nat)) (0)) ?_ ?_
   ·refine Wkn.refl ⟨0,rfl,aG,?_,by omega⟩
    all_goals first|exact zq F|rfl|omega|trivial|skip
   rintro _ s2 h' ⟨k,rfl,rfl,e11,hk⟩ K2 hK2
   simp only[aj,au,Nat.reduceEqDiff, ↓reduceIte]at e11
   have F:=F2 F e11
   refine wk F ?_
   refine cq F (fun c1=>?_) (fun c1=>?_)<;>(try exact c1.elim)<;>(refine wk F ?_)
   ·have c2:k<x.it.length:=by omega
    obtain⟨t,ht,htm⟩:=ah c2
    have hs:=hit t htm
    have ka:=hEa t.id
    have kb:=hEb t.id
    have kn:=hEn t.id
    have kA:=hEA t.id
    have kO:=hEO t.id
    simp only[xN _ hs]at kn
    simp only[xA]at kA
    simp only[xO]at kO
    generalize va t.id=p at*
    generalize vb t.id=q at*
    have F:=F4 F ht c2 (F3 (@beq_self_eq_true Int _ _) (@beq_self_eq_true Bool _ _) (@beq_self_eq_true Bs _ _))
    cases p<;>cases q
    all_goals (
     simp only[Bool.and_false,Bool.false_and,Bool.and_true,Bool.true_and,Bool.or_false,Bool.false_or,Bool.or_true,Bool.true_or,Bool.not_true,Bool.not_false]at ka kb kn kA kO
     try refine sq F ?_
     refine wk F ?_
     refine aU (ka _) ?_
     try refine sq F ?_
     refine wk F ?_
     refine aU (kb _) ?_
     try refine sq F ?_
     refine wk F ?_
     repeat (first|refine kq F (hNt _) ?_|refine kq F (kn _) ?_|refine kq F (kA _) ?_|refine kq F (kO _) ?_)
     refine hK2 _ _ _ (Wkn.refl ⟨k+1,rfl,aG,?_,by omega⟩) (by omega)
     all_goals first|exact zq F|rfl|omega|trivial|skip)
   ·refine ee hQ F ?_
    exact ml (hn0 _) (hpre _) (by omega) ⟨rfl,rfl⟩
  ·have hb3:(Qy.mk 3 0 [] [a,b]).ok=false∨((Qy.mk 3 0 [] [a,b]).ok=true∧(Qy.mk 4 0 [] [a,b]).ok=false)∨((Qy.mk 3 0 [] [a,b]).ok=true∧(Qy.mk 4 0 [] [a,b]).ok=true∧(Qy.mk 5 0 [] [a]).ok=false):=by
    revert hok
    cases(Qy.mk 3 0 [] [a,b]).ok<;>cases(Qy.mk 4 0 [] [a,b]).ok<;>cases(Qy.mk 5 0 [] [a]).ok<;>simp
   clear hok hE fN fA fO fa fb hka hkb
   generalize (Qy.mk 3 0 [] [a,b]).ok=b1 at*
   generalize (Qy.mk 4 0 [] [a,b]).ok=b2 at*
   generalize (Qy.mk 5 0 [] [a]).ok=b3 at*
   simp only[Qy.av_eq,List.map_cons,List.map_nil]at hCa hCo hCn hNt
   clear ha hb hla hlb
   obtain⟨ao,am,ax,ak⟩:=a
   obtain⟨bo,bn,bx,bk⟩:=b
   simp only[Qy.av_eq]at hCa hCo hCn hNt hLa hLb hrA hrB r0a r0b hra hrb hra0 hrb0 ⊢
   rcases hb3 with rfl| ⟨rfl,rfl⟩| ⟨rfl,rfl,rfl⟩
   all_goals (
    have F:=F2 (F9 @hrA @hrB @r0a @r0b hra hrb hra0 hrb0 hn00) (F2 hn0 @aw)
    refine sb [.tmp 6] (fn:=Tryz.f4) Tryz.func4 ?_
    intro Q hQ
    refine wk F ?_
    refine kq F (hLg _) ?_
    refine kq F (hLa _) ?_
    refine kq F (hLb _) ?_
    refine kq F (hfh) ?_
    refine kq F (eB G hG hc _) ?_
    repeat (first|refine kq F (hCa _) ?_|refine kq F (hCo _) ?_|refine kq F (hNt _) ?_|refine kq F (hCn _) ?_)
    refine ee hQ F ?_
    exact ml (hn0 _) (hpre _) (by omega) ⟨rfl,rfl⟩)
 ·have hb3:lgF es=true∨(lgF es=false∧decide (a.left 0 300≤0)=true)∨(lgF es=false∧decide (a.left 0 300≤0)=false∧decide (b.left 0 300≤0)=true):=by
   revert hg
   cases lgF es<;>cases decide (a.left 0 300≤0)<;>cases decide (b.left 0 300≤0)<;>simp
  clear hg
  generalize lgF es=b1 at*
  generalize decide (a.left 0 300≤0)=b2 at*
  generalize decide (b.left 0 300≤0)=b3 at*
  clear ha hb
  obtain⟨ao,am,ax,ak⟩:=a
  obtain⟨bo,bn,bx,bk⟩:=b
  simp only[Qy.av_eq]at hLa hLb ⊢
  rcases hb3 with rfl| ⟨rfl,rfl⟩| ⟨rfl,rfl,rfl⟩
  all_goals (
   have hF:(lgF ([]:List Ev)=false):=rfl
   have F:=hF
   refine sb [.tmp 6] (fn:=Tryz.f4) Tryz.func4 ?_
   intro Q hQ
   refine wk F ?_
   repeat (first
    |refine kq F (hLg _) ?_
    |refine kq F (hLa _) ?_
    |refine kq F (hLb _) ?_
    |refine kq F (eB G hG hc _) ?_)
   refine ee hQ F ?_
   exact Fin.plain (.bool _) ⟨rfl,rfl⟩)
end Go.Av
