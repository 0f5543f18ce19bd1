/- To the normal form the same items belong: the card. -/
import Derived.Test.YtmfhelaoeaifeaaGreatDoorMlNn
import Derived.Test.YtmfhelaoeaifeaaGreatDoorMlKf
import Derived.Test.YtmfhelaoeaifeaaGreatDoorMlQh
set_option linter.unusedSimpArgs false
set_option linter.unusedVariables false
set_option linter.unusedSectionVars false
set_option linter.unnecessarySimpa false
set_option maxRecDepth 100000
set_option maxHeartbeats 16000000
namespace Go.Av
open Go Go.Proofs Go.RowKit
attribute [local irreducible] WP WPl WPix Sat
section
variable {s:PS} {e:Ev}
end
variable (G:Nat→Option (List AVal))
end Go.Av
namespace Go.Av
open Go Go.Proofs Go.RowKit
attribute [local irreducible] WP WPl WPix Sat
section
variable {H H':Heap} {n0 e n:Nat} {rows:List AVal} {v:AVal}
end
section
variable {C:Ctx}
end
end Go.Av
namespace Go.Av
open Go Go.Proofs Go.RowKit
attribute [local irreducible] WP WPl WPix Sat
variable (G:Nat→Option (List AVal))
end Go.Av
namespace Go.Av
open Go Go.Proofs Go.RowKit
attribute [local irreducible] WP WPl WPix Sat
variable (G:Nat→Option (List AVal))
end Go.Av
namespace Go.Av
open Go Go.Proofs Go.RowKit
theorem uk{l:List Int}(h:l.Nodup):(sortI l).Pairwise (· < ·):=by
 have h1:(sortI l).Pairwise fun a b=>decide (a≤b)=true:=List.pairwise_mergeSort (fun a b c h1 h2=>by simp at *;omega) (fun a b=>by simp;omega) l
 have h2:(sortI l).Nodup:=mN h
 refine List.Pairwise.imp₂ (R:=fun a b=>decide (a≤b)=true) (S:=fun a b=>a≠b) (fun a b hab hne=>?_) h1 h2
 simp at hab;omega
section
variable {α:Type} {z:α} {key:α→Int} {l:ML Int α} {c:Nat}
theorem ul(w:WFM l c)(hid:∀k a,lkM l k=some a→key a=k):((valsM z l).map key).Pairwise (· < ·):=by
 rw[tD w key hid];exact uk w.keys
end
end Go.Av
namespace Go.Av
open Go Go.Proofs Go.RowKit
theorem rP{s:PS}(h:s.Inv):(s.tell.it.map (·.id)).Nodup:=
 (ul (z:=It.z) h.w3 fun k a hk=>(h.i3 k a hk).1).imp fun hab e=>by omega
end Go.Av
namespace Go.Av
open Go Go.Proofs Go.RowKit
attribute [local irreducible] WP WPl WPix Sat
variable (G:Nat→Option (List AVal))
end Go.Av
namespace Go.Av
open Go Go.Proofs Go.RowKit
attribute [local irreducible] WP WPl WPix Sat
variable (G:Nat→Option (List AVal))
theorem kC(a b:List Int)(ha:a.length≤1000000)(hb:b.length≤1000000)(h:Heap):Sat (CT G) 16 [.sl 1 (a.map iA),.sl 1 (b.map iA)] h (fun r h'=>r=.bool (decide (a=b))∧h'=h):=by
 have hal:(a.map iA).length=a.length:=List.length_map ..
 have hbl:(b.map iA).length=b.length:=List.length_map ..
 by_cases hlen:a.length=b.length
 ·have hne:((a.length:Int) != (b.length:Int))=false:=by simp[hlen]
  have F:=F3 hal hbl hne
  refine sb [.tmp 4] (fn:=Tryz.f16) Tryz.func16 ?_
  intro Q hQ
  refine wk F ?_
  refine lm (fun nL tL hL=>∃(k:Nat),a.length-k=nL∧h=hL∧tL 5=.int .i64 k∧k≤a.length∧a.take k=b.take k) ((fun(k:Nat)=>(a.length-k:Nat)) (0)) ?_ ?_
  ·refine Wkn.refl ⟨0,rfl,aC,?_,by omega,rfl⟩
   all_goals first|exact zq F|rfl|omega|trivial|skip
  rintro _ s2 h' ⟨k,rfl,rfl,e5,hk,hp⟩ K2 hK2
  simp only[ai,ap,Nat.reduceEqDiff, ↓reduceIte]at e5
  have F:=F2 F e5
  refine wk F ?_
  refine cq F (fun c1=>?_) (fun c1=>?_)<;>(try exact c1.elim)<;>(refine wk F ?_)
  ·have c2:k<a.length:=by omega
   have c3:k<b.length:=by omega
   obtain⟨x,hx,_⟩:=af c2
   obtain⟨y,hy,_⟩:=af c3
   have F:=F5 F hx hy c2 c3
   try refine sq F ?_
   refine wk F ?_
   refine cq F (fun c4=>?_) (fun c4=>?_)<;>(try exact c4.elim)<;>(refine wk F ?_)
   ·have e:a≠b:=by rintro rfl;rw[hx]at hy;cases hy;exact c4 rfl
    refine ee hQ (F8 hal hbl hne e5 hx hy c2 c3) ?_
    exact Fin.same (.bool _) ⟨by rw[decide_eq_false e],rfl⟩
   ·have hp1:a.take (k+1)=b.take (k+1):=by rw[List.take_add_one,List.take_add_one,hx,hy,hp,c4]
    refine hK2 _ _ _ (Wkn.refl ⟨k+1,rfl,aC,?_,by omega,hp1⟩) (by omega)
    all_goals first|exact zq F|rfl|omega|trivial|skip
  ·have e:a=b:=by
    have:=hp
    rwa [List.take_of_length_le (by omega),List.take_of_length_le (by omega)]at this
   refine ee hQ F ?_
   exact Fin.same (.bool _) ⟨by rw[decide_eq_true e],rfl⟩
 ·have hne:((a.length:Int) != (b.length:Int))=true:=by simp;omega
  have e:a≠b:=by rintro rfl;exact hlen rfl
  have F:=F3 hal hbl hne
  refine sb [.tmp 4] (fn:=Tryz.f16) Tryz.func16 ?_
  intro Q hQ
  refine wk F ?_
  refine ee hQ F ?_
  exact Fin.same (.bool _) ⟨by rw[decide_eq_false e],rfl⟩
end Go.Av
namespace Go.Av
open Go Go.Proofs Go.RowKit
attribute [local irreducible] WP WPl WPix Sat
variable (G:Nat→Option (List AVal))
end Go.Av
namespace Go.Av
open Go Go.Proofs Go.RowKit
attribute [local irreducible] WP WPl WPix Sat
variable (G:Nat→Option (List AVal))
theorem nR{C:Ctx}{ops:Array Oper}{dst:Option Nat}{op:Op}{ty:TypeId}{pos:String}{aft:Array Edge}{t:Env}{h:Heap}{K:AVal→Heap→Prop}{j d:Nat}{want:Bool}(hd:(ops[j]?).bind (·.dst)=some d)(ht:t d=.bool want)
  (g:wpOperV C ops ⟨dst,op,ty,pos,aft,none⟩ t h K):wpOperV C ops ⟨dst,op,ty,pos,aft,some (j,want)⟩ t h K:=by
 have e:guardA ops t j=some (some want):=by unfold guardA;rw[hd];simp only[ht]
 unfold wpOperV
 simp only[e]
 exact⟨fun _=>g,fun h=>absurd rfl h⟩
end Go.Av
namespace Go.Av
open Go Go.Proofs Go.RowKit
attribute [local irreducible] WP WPl WPix Sat
section
variable {Y:Heap} {n m v:Nat} {s:PS} {l:List Ky}
end
variable (G:Nat→Option (List AVal))
section
variable {Y:Heap} {n m v:Nat} {s:PS} {l:List Ky}
end
end Go.Av
namespace Go.Av
open Go Go.Proofs Go.RowKit
attribute [local irreducible] WP WPl WPix Sat SatY
structure Cu where
 d:Int
 i:Int
 set:Bool
def Cu.av(c:Cu):AVal:=.agg [.int .i64 c.d,.int .i64 c.i,.bool c.set]
variable (G:Nat→Option (List AVal))
section
variable {l:List Ky} {H:Heap} {n v:Nat}
end
end Go.Av
namespace Go.Av
open Go Go.Proofs Go.RowKit
attribute [local irreducible] WP WPl WPix Sat SatY
section
variable {H:Heap} {n p:Nat} {qv:AVal} {c:Cu} {N:Int} {fr:Nat} {z:Blk} {mo:Bool} {pre:List Ky} {j:Heap}
end
variable (G:Nat→Option (List AVal))
section
variable {l:List Ky} {H:Heap} {n v:Nat}
end
end Go.Av
namespace Go.Av
open Go Go.Proofs Go.RowKit
def PS.Tt(s:PS):Prop:=∀k t,lkM s.it k=some t→t.title.length≤256
theorem PS.Tt.z:PS.z.Tt:=fun _ _ h=>by cases h
theorem PS.Tt.getD{s:PS}(h:s.Tt)(k:Int):((lkM s.it k).getD It.z).title.length≤256:=by
 cases hl:lkM s.it k with
 |none=>simp[It.z]
 |some t=>exact h k t hl
theorem PS.Tt.step{s:PS}(h:s.Tt)(hI:s.Inv)(e:Ev):(s.step L0 e).Tt:=by
 unfold PS.step
 split
 ·rename_i hok
  have hr:e.kind=7→e.t.length≤256:=fun k=>by
   unfold PS.ok PS.fits at hok
   rw[Bool.and_eq_true]at hok
   have:=hok.1
   unfold Leaf.ck at this
   simp only[Bool.and_eq_true]at this
   have hq:=this.1
   unfold Leaf.right at hq
   rw[if_neg (by omega),if_neg (by omega),if_neg (by omega),if_neg (by omega),if_neg (by omega),if_pos k]at hq
   simp only[Bool.and_eq_true]at hq
   have hq:=hq.2.2.2.2.1
   have hu:L0.title e.t=textF rightS cleanF e.t 256:=rfl
   rw[hu]at hq
   unfold textF at hq
   rw[Bool.and_eq_true,decide_eq_true_eq]at hq
   omega
  intro k t hk
  rw[xF]at hk
  split at hk
  ·exact h k t (gH hI.w3.keys hk)
  split at hk
  ·rename_i k7
   rcases b8 hk with⟨rfl,rfl⟩| ⟨_,hk⟩
   ·exact hr k7
   ·exact h k t hk
  split at hk
  ·rcases b8 hk with⟨rfl,rfl⟩| ⟨_,hk⟩
   ·exact h.getD _
   ·exact h k t hk
  split at hk
  ·rcases b8 hk with⟨rfl,rfl⟩| ⟨_,hk⟩
   ·exact h.getD _
   ·exact h k t hk
  split at hk
  ·rcases b8 hk with⟨rfl,rfl⟩| ⟨_,hk⟩
   ·exact h.getD _
   ·exact h k t hk
  ·exact h k t hk
 ·exact h
theorem PS.Tt.fold{es:List Ev}:∀{s:PS},s.Tt→s.Inv→(es.foldl (PS.step L0) s).Tt:=by
 induction es with
 |nil=>intro s h _;exact h
 |cons e es ih=>intro s h hI;exact ih (h.step hI e) (hI.step e)
end Go.Av
namespace Go.Av
open Go Go.Proofs Go.RowKit
attribute [local irreducible] WP WPl WPix Sat
def PS.eval(s:PS)(q:Qy)(id:Int):Bool:=match lkM s.it id with
 |none=>false
 |some t=>q.ok&&q.bel s t
def Qy.Fit(q:Qy):Prop:=q.mx≤9223372036854775807∧(q.dep 1≤12→q.sz≤20000)
theorem gN{X:Heap}{n:Nat}{s:PS}(x:ML Int (List Int)×Nat)(b1 b2:Blk)(j:Heap):sa (X++(b1::b2::j)) n s X.length x=so (X++(am x.1 x.2::ar n X.length::j)) n s:=by
 unfold sa twB
 congr 1
 have:=j1 X [am x.1 x.2,ar n X.length] j
 show ov _ _ _=X++([am x.1 x.2,ar n X.length]++j)
 rw[this]
 unfold ov
 have h1:∀c1 c2:Blk,(X++(c1::c2::j)).take X.length=X:=fun c1 c2=>by rw[List.take_left' rfl]
 have h2:∀c1 c2:Blk,(X++(c1::c2::j)).drop (X.length+2)=j:=fun c1 c2=>by rw[List.drop_append,List.drop_of_length_le (by omega),Nat.add_sub_cancel_left];rfl
 show _++_++List.drop (X.length+2) _=List.take _ (X++(am x.1 x.2::ar n X.length::j))++_++List.drop (X.length+2) (X++(am x.1 x.2::ar n X.length::j))
 rw[h1,h1,h2,h2]
variable (G:Nat→Option (List AVal))
theorem mc(s:PS){X:Heap}{n:Nat}(hn:n+9≤X.length):Sat (CT G) 34 [.hp (n+8) 0 0 0] (so X n s) (fun r h'=>r=.hp (X.length+1) 0 0 0∧h'=sa (X++[am [] 0,ar n X.length]) n s X.length ([],0)):=by
 have e:=gN (X:=X) (n:=n) (s:=s) ([],0) (am [] 0) (ar n X.length) []
 rw[e, ← b9 hn]
 have hl:=aJ (s:=s) hn
 have hp:n+8<(so X n s).length:=by omega
 generalize so X n s=H at*
 rw[← hl]
 refine sb [.tmp 2] (fn:=Tryz.f34) Tryz.func34 ?_
 intro Q hQ
 refine wk trivial ?_
 refine ee hQ trivial ?_
 exact Fin.whole (by simp) (.hp _ _ _ _ (by simp)) ⟨rfl,rfl⟩
theorem rR(s:PS)(hI:s.Inv)(hT:s.Tt)(q:Qy)(hq:q.Fit)(id:Int){X:Heap}{n:Nat}(hn:n+9≤X.length):Sat (CT G) 14 [.hp (n+8) 0 0 0,q.av,.int .i64 id] (so X n s) (fun r h'=>r=.bool (s.eval q id)∧h'=so X n s):=by
 have hIt:=fun(j:Heap)=>oP G s id (by have:=(hI.tags id).2;omega) (H:=X++j) (n:=n) (by simp;omega)
 have hn1:∀j:Heap,n+9≤(X++j).length:=fun j=>by simp;omega
 unfold PS.eval
 cases hl:lkM s.it id with
 |none=>
  rw[hl]at hIt
  simp only[Option.getD_none,Option.isSome_none]at hIt
  obtain⟨qo,qn,qs,qk⟩:=q
  rw[Qy.av_eq]at*
  have F:=F2 hn hn1
  skip
  refine sb [.tmp 6] (fn:=Tryz.f14) Tryz.func14 ?_
  intro Q hQ
  refine wn F ?_
  refine kn F (hIt _) ?_
  refine lF (by decide+kernel) (xd G) ?_
  refine sq F ?_
  refine wn F ?_
  skip
  refine ee hQ F ?_
  exact aj hn (.bool _) ⟨rfl,rfl⟩
 |some t=>
  rw[hl]at hIt
  simp only[Option.getD_some,Option.isSome_some]at hIt
  have hC:=fun h=>cF G q h hq.1 hq.2
  have htt:=hT id t hl
  have htg:=(hI.tags id).2
  rw[hl,Option.getD_some]at htg
  cases hok:q.ok with
  |false=>
   rw[hok]at hC
   clear hq
   obtain⟨qo,qn,qs,qk⟩:=q
   rw[Qy.av_eq]at*
   have F:=F2 hn hn1
   skip
   refine sb [.tmp 6] (fn:=Tryz.f14) Tryz.func14 ?_
   intro Q hQ
   refine wn F ?_
   refine kn F (hIt _) ?_
   refine lF (by decide+kernel) (xd G) ?_
   refine sq F ?_
   refine wn F ?_
   refine aV (hC _) ?_
   try refine sq F ?_
   refine wn F ?_
   skip
   refine ee hQ F ?_
   exact aj hn (.bool _) ⟨rfl,rfl⟩
  |true=>
   have hok':=hok
   unfold Qy.ok at hok'
   simp only[Bool.and_eq_true,decide_eq_true_eq]at hok'
   obtain⟨rQ,hrQ⟩:∃rQ:Blk,rQ=.row 25 4 0 [q.av]:=⟨_,rfl⟩
   obtain⟨rT,hrT⟩:∃rT:Blk,rT=.row 49 9 0 [t.av]:=⟨_,rfl⟩
   have hlX:(X++[rQ,rT]).length=X.length+2:=by simp
   have e:∀y:ML Int (List Int)×Nat,sa ((X++[rQ,rT])++[am [] 0,ar n (X.length+2)]) n s (X.length+2) y=so (X++[rQ,rT,am y.1 y.2,ar n (X.length+2)]) n s:=fun y=>by
    have:=gN (X:=X++[rQ,rT]) (n:=n) (s:=s) y (am [] 0) (ar n (X.length+2)) []
    rw[hlX]at this
    rw[this,List.append_assoc];rfl
   have hB:=nQ G s hI t htt (by omega) (n:=n) (a:=X.length+2) (by omega) q (hq.2 hok'.1) hok'.2.2 ((X++[rQ,rT])++[am [] 0,ar n (X.length+2)]) ([],0) (by simp) ⟨.nil,fun _ _ h=>by cases h⟩
   have hO:=mc G s (X:=X++[rQ,rT]) (n:=n) (by omega)
   rw[hlX,e]at hO
   simp only[e]at hB
   subst hrQ
   subst hrT
   rw[hok]at hC
   show Sat _ _ _ _ (fun r h'=>r=.bool (q.bel s t)∧h'=so X n s)
   generalize q.bel s t=b at*
   clear hq hok' e hlX
   obtain⟨qo,qn,qs,qk⟩:=q
   rw[Qy.av_eq]at*
   have F:=F2 hn hn1
   skip
   refine sb [.tmp 6] (fn:=Tryz.f14) Tryz.func14 ?_
   intro Q hQ
   refine wn F ?_
   refine kn F (hIt _) ?_
   refine aP 12 [8,11] [true,true,true,true,true,true,true,true,false,true,true,false] (.one 8 [false,false,false,false,false,false,false,false,false,true,true] (.one 11 [] .fin)) (by decide+kernel) (by kernel_rfl) (by decide+kernel) ?_
   simp only[aY,aZ,aN]
   try refine sq F ?_
   repeat' (first| (refine aE ?_;try refine sq F ?_)| (refine aF ?_;try refine sq F ?_)| (refine aG ?_ ?_<;>try refine sq F ?_))
   all_goals try refine wn F ?_
   refine aV (hC _) ?_
   try refine sq F ?_
   refine wn F ?_
   repeat' (first| (refine aE ?_;try refine sq F ?_)| (refine aF ?_;try refine sq F ?_)| (refine aG ?_ ?_<;>try refine sq F ?_))
   all_goals try refine wn F ?_
   refine nR rfl (by exact zq F) ?_
   simp(disch:=first|omega| (simp only[go_sem, ↓reduceIte,seval];first|done|omega)|fail) only[go_sem, ↓reduceIte,seval,F]
   refine hO.mono ?_
   rintro r h' ⟨rfl,rfl⟩
   have F:=F2 F @aw
   refine⟨by simp(disch:=first|omega| (simp only[go_sem, ↓reduceIte,seval];first|done|omega)|fail) only[go_sem, ↓reduceIte,seval,F],?_⟩
   repeat' (first| (refine aE ?_;try refine sq F ?_)| (refine aF ?_;try refine sq F ?_)| (refine aG ?_ ?_<;>try refine sq F ?_))
   all_goals try refine wn F ?_
   refine nR rfl (by exact zq F) ?_
   simp(disch:=first|omega| (simp only[go_sem, ↓reduceIte,seval];first|done|omega)|fail) only[go_sem, ↓reduceIte,seval,F]
   refine hB.mono ?_
   rintro r h' ⟨rfl,y,hy,rfl⟩
   repeat' (first| (refine aE ?_;try refine sq F ?_)| (refine aF ?_;try refine sq F ?_)| (refine aG ?_ ?_<;>try refine sq F ?_))
   all_goals try refine wn F ?_
   refine ee hQ F ?_
   exact aj hn (.bool _) ⟨rfl,rfl⟩
end Go.Av
namespace Go.Av
open Go Go.Proofs Go.RowKit
attribute [local irreducible] WP WPl WPix Sat
theorem kD{A j:Heap}{p:Nat}(c:Blk)(hp:A.length≤p):ov (A++j) p [c]=A++ov j (p-A.length) [c]:=by
 unfold ov
 rw[List.take_append,List.take_of_length_le hp,List.drop_append,List.drop_of_length_le (by simp only[List.length_singleton];omega),List.nil_append,List.append_assoc,List.append_assoc,List.append_assoc]
 congr 4
 simp only[List.length_singleton]
 omega
def itmK(s:PS)(f:It→Bool):List Ky:=srtK ((s.tell.it.filter f).map It.ky)
def itmF(s:PS)(f:It→Bool):List Int:=(itmK s f).map (·.i)
theorem dY{s:PS}(h:s.Inv)(f:It→Bool):(((s.tell.it.filter f).map It.ky).map (·.i)).Nodup:=by
 rw[List.map_map]
 exact(rP h).sublist (List.filter_sublist.map _)
theorem um{s:PS}(h:s.Inv){f:It→Bool}{L:List It}(hp:L.Perm (s.tell.it.filter f))(hs:L.Pairwise fun a b=>ahd b.ky a.ky=false):L.map (·.id)=itmF s f:=by
 have hn:(L.map (·.id)).Nodup:=(hp.map (·.id)).nodup_iff.2 ((rP h).sublist (List.filter_sublist.map _))
 have hk:Sk (L.map It.ky):=by
  unfold Sk
  rw[List.pairwise_map]
  have h2:L.Pairwise fun a b=>a.id≠b.id:=by rw[← List.pairwise_map];exact List.nodup_iff_pairwise_ne.1 hn
  refine(hs.and h2).imp fun {a b} ⟨h3,h4⟩=>?_
  exact nw (a:=b.ky) (b:=a.ky) (fun e=>h4 e.symm) h3
 have e:L.map It.ky=itmK s f:=hk.uniq (ir (dY h f)) fun x=>by
  show x∈L.map It.ky↔x∈srtK ((s.tell.it.filter f).map It.ky)
  rw[iu (dY h f)]
  exact(hp.map It.ky).mem_iff
 unfold itmF
 rw[← e,List.map_map];rfl
section
variable {Y:Heap} {n a p v:Nat} {s:PS} {x:ML Int (List Int)×Nat}
theorem vJ{L:List It}(h:Y[p]? =some (rI v L)):sI Y n s a x p v L=sa Y n s a x:=by
 unfold sI
 congr 1
 have hp:=(List.getElem?_eq_some_iff.1 h).1
 apply List.ext_getElem?
 intro q
 rw[aO (by simp only[List.length_singleton];omega)]
 split
 ·rename_i hq
  have:q=p:=by simp only[List.length_singleton]at hq;omega
  subst this
  rw[Nat.sub_self,h];rfl
 ·rfl
theorem vK{j:Heap}{y:ML Int (List Int)×Nat}{R:AVal→Heap→Prop}{r0 r:AVal}(hn:n+9≤a)(hm:a+2≤Y.length)(hz:Frz (sa (Y++j) n s a y) Y.length r0 r)(hR:R r (sa Y n s a y)):Fin (sa Y n s a x) (sa (Y++j) n s a y) R r0:=by
 have e:∀(Y:Heap) (x:ML Int (List Int)×Nat),a+2≤Y.length→sa Y n s a x=ov (so Y n s) a [am x.1 x.2,ar n a]:=fun Y x hm=>ca hn hm
 have hl:(so Y n s).length=Y.length:=aJ (by omega)
 have e1:sa (Y++j) n s a y=ov (so Y n s++j) a [am y.1 y.2,ar n a]:=by rw[e (Y++j) y (by simp;omega), ← b9 (by omega)]
 rw[e1]at hz ⊢
 rw[e Y y hm]at hR
 rw[e Y x hm]
 exact dF (by rw[hl];exact hm) rfl (fun b hb=>by
  rw[hl]
  simp only[List.mem_cons,List.not_mem_nil,or_false]at hb
  rcases hb with rfl|rfl
  ·exact jf _ _ _
  ·exact jg hn hm) (by rw[hl];exact hz) hR
end
variable (G:Nat→Option (List AVal))
section
variable {s:PS} {Y:Heap} {n a:Nat}
theorem nj(hn:n+9≤a)(hm:a+2≤Y.length)(f:It→Bool)(g:FuncId)(cap:List AVal)(t:It)
  (hg:∀x,Gd s x→∀j:Heap,Sat (CT G) g ([]++[t.av]++cap) (sa (Y++j) n s a x) (fun r h'=>r=.bool (f t)∧∃y,Gd s y∧h'=sa (Y++j) n s a y))(x:ML Int (List Int)×Nat)(hx:Gd s x)(j:Heap):
  Sat (CT G) 68 ([]++[t.av]++[.hp Y.length 0 0 0]) (sa (Y++(.row 74 1 0 [.fn (.func g) [] cap]::j)) n s a x) (fun r h'=>r=.bool (!f t)∧∃y,Gd s y∧h'=sa (Y++(.row 74 1 0 [.fn (.func g) [] cap]::j)) n s a y):=by
 have hm1:∀j:Heap,a+2≤(Y++j).length:=fun j=>by simp;omega
 have hc:=hg x hx
 generalize f t=b at*
 have F:=F4 hm hn hm1 @aw
 refine sb [.tmp 3] (fn:=Tryz.f68) Tryz.func68 ?_
 intro Q hQ
 refine wk F ?_
 refine(hc _).mono ?_
 rintro r h' ⟨rfl,y,hy,rfl⟩
 try refine sq F ?_
 refine wk F ?_
 refine ee hQ F ?_
 have:=bt (x:=x) (s:=s) (j:=[.row 49 9 0 [t.av]]) (R:=fun r h'=>r=.bool (!b)∧∃y,Gd s y∧h'=sa (Y++(.row 74 1 0 [.fn (.func g) [] cap]::j)) n s a y) (r:=.bool (!b)) hn (hm1 (.row 74 1 0 [.fn (.func g) [] cap]::j)) (fun N=>.bool _) (y:=y) ⟨rfl,y,hy,rfl⟩
 rwa [List.append_assoc]at this
theorem pL(hI:s.Inv)(hn:n+9≤a)(hm:a+2≤Y.length)(x:ML Int (List Int)×Nat):Sat (CT G) 21 [.hp (n+8) 0 0 0] (sa Y n s a x)
  (fun r h'=>∃(j:Heap) (p v:Nat),r=s.tellH p v∧Y.length≤p∧p+1≤(Y++j).length∧h'=sI (Y++j) n s a x p v s.tell.it):=by
 have hl:(ov Y a [am x.1 x.2,ar n a]).length=Y.length:=aM hm
 refine(mG G s hI.toOk (H:=ov Y a [am x.1 x.2,ar n a]) (n:=n) (by rw[hl];omega)).mono ?_
 rintro r h' ⟨j,p,v,rfl,h1,h2,rfl⟩
 rw[hl]at h1
 have h3:=bu h2
 have h4:=bY h2
 rw[List.getElem?_append_right (by rw[hl];exact h1),hl]at h4
 rw[List.length_append,hl]at h3
 refine⟨j,p,v,rfl,h1,by rw[List.length_append];omega,?_⟩
 rw[vJ (by rw[List.getElem?_append_right h1];exact h4)]
 show so (ov Y a _++j) n s=so (ov (Y++j) a _) n s
 rw[eN hm]
theorem fB(hI:s.Inv)(hn:n+9≤a)(hm:a+2≤Y.length)(f:It→Bool)(g:FuncId)(cap:List AVal)
  (hg:∀t∈s.tell.it,∀x,Gd s x→∀j:Heap,Sat (CT G) g ([]++[t.av]++cap) (sa (Y++j) n s a x) (fun r h'=>r=.bool (f t)∧∃y,Gd s y∧h'=sa (Y++j) n s a y))(x:ML Int (List Int)×Nat)(hx:Gd s x):
  Sat (CT G) 35 [.hp (n+8) 0 0 0,.fn (.func g) [] cap] (sa Y n s a x) (fun r h'=>r=.sl 1 ((itmF s f).map iA)∧∃y,Gd s y∧h'=sa Y n s a y):=by
 have hil:s.tell.it.length≤100000:=by have:=fp (z:=It.z) s.it;have:=hI.l3;show(valsM It.z s.it).length≤_;omega
 have hm1:∀j:Heap,a+2≤(Y++j).length:=fun j=>by simp;omega
 have hT:=pL G (s:=s) (Y:=Y++[.row 74 1 0 [.fn (.func g) [] cap]]) hI hn (hm1 _) x
 have hitl:(valsM It.z s.it).length=s.tell.it.length:=rfl
 have F:=F3 hm hn hm1
 refine sb [.tmp 4] (fn:=Tryz.f35) Tryz.func35 ?_
 intro Q hQ
 refine wk F ?_
 refine hT.mono ?_
 rintro r h' ⟨j,p,v,rfl,hp1,hp2,rfl⟩
 have hpl:Y.length+1≤p:=by simpa using hp1
 rw[List.append_assoc]at hp2 ⊢
 change p+1≤(Y++(.row 74 1 0 [.fn (.func g) [] cap]::j)).length at hp2
 have hD:=ui G (s:=s) (Y:=Y++(.row 74 1 0 [.fn (.func g) [] cap]::j)) (v:=v) hn (by omega) hp2 (fun t=> !f t) 68 [.hp Y.length 0 0 0] s.tell.it (by omega) (fun t ht x hx j2 L=>by
  have e:∀y,sI ((Y++(.row 74 1 0 [.fn (.func g) [] cap]::j))++j2) n s a y p v L=sa (Y++(.row 74 1 0 [.fn (.func g) [] cap]::ov (j++j2) (p-(Y.length+1)) [rI v L])) n s a y:=fun y=>by
   unfold sI
   have:=kD (A:=Y++[.row 74 1 0 [.fn (.func g) [] cap]]) (j:=j++j2) (p:=p) (rI v L) (by simpa using hpl)
   simp only[List.append_assoc,List.cons_append,List.nil_append,List.length_append,List.length_singleton]at this ⊢
   rw[this]
  simp only[e]
  exact nj G hn hm f g cap t (hg t ht) x hx _) x hx
 simp only[Bool.not_not]at hD
 unfold PS.tellH
 rw[hitl]
 try simp only[List.cons_append,List.nil_append]
 generalize hZ:Y++(Blk.row 74 1 0 [.fn (.func g) [] cap]::j)=Z at hp2 hD ⊢
 try refine sq F ?_
 refine wk F ?_
 refine hD.mono ?_
 rintro r h' ⟨rfl,y,hy,rfl⟩
 have hap:a+2≤p:=by omega
 have hfl:(s.tell.it.filter f).length≤100000:=Nat.le_trans (List.length_filter_le _ _) hil
 have hS:=rO G (s.tell.it.filter f) hfl (sI Z n s a y p v (s.tell.it.filter f)) p v (jJ hn hap hp2)
 try refine sq F ?_
 refine wk F ?_
 refine hS.mono ?_
 rintro r h' ⟨rfl,L,hLp,hLs,rfl⟩
 have hLl:L.length≤100000:=by rw[hLp.length_eq];exact hfl
 rw[jK hn hap hp2, ← hLp.length_eq]
 have hids:=um hI hLp hLs
 have hgr:∀(b:Blk) (j:Heap) (u:Nat),getRow (sI (Z++(b::j)) n s a y p v L) Z.length u=getRow [b] 0 u:=fun b j u=>by
  rw[lU hn hap (by simp;omega) u (by omega) (by omega),aI _ rfl];rfl
 have hsr:∀(b b':Blk) (j:Heap),(sI (Z++(b::j)) n s a y p v L).set Z.length b'=sI (Z++(b'::j)) n s a y p v L:=fun b b' j=>by
  rw[lV hn hap (by simp;omega) b' (by omega) (by omega),cm _ rfl];rfl
 have hgi:∀(b c:Blk) (j:Heap) (u:Nat),getRow (sI (Z++(b::(j++[c]))) n s a y p v L) (Z.length+(j.length+1)) u=getRow [c] 0 u:=fun b c j u=>by
  rw[lU hn hap (by simp;omega) u (by omega) (by omega),aK _ rfl,show b::(j++[c])=(b::j)++[c]from rfl,aI _ (by simp)]
 have hsi:∀(b c c':Blk) (j:Heap),(sI (Z++(b::(j++[c]))) n s a y p v L).set (Z.length+(j.length+1)) c'=sI (Z++(b::(j++[c']))) n s a y p v L:=fun b c c' j=>by
  rw[lV hn hap (by simp;omega) c' (by omega) (by omega),lj _ rfl,show b::(j++[c])=(b::j)++[c]from rfl,cm _ (by simp)];rfl
 have hpz:∀j:Heap,p+1≤(Z++j).length:=fun j=>by simp;omega
 have F:=F4 F hap hp2 hpz
 try refine sq F ?_
 refine wk F ?_
 refine lm (fun nL tL hL=>∃(k w:Nat) (acc:List Int) (j2:Heap),L.length-k=nL∧sI (Z++(.row 3 1 w (acc.map iA)::j2)) n s a y p v L=hL∧tL 6=.hs Z.length w 0 acc.length true∧tL 18=.int .i64 k∧k≤L.length∧acc.length=k∧acc++(L.drop k).map (·.id)=L.map (·.id)) ((fun(k w:Nat) (acc:List Int) (j2:Heap)=>(L.length-k:Nat)) (0) (0) ([]) ([])) ?_ ?_
 ·refine⟨_,_,Weak.virt 6 3 1 (by simp) (by omega) (by exact zq F),⟨0,0,[],[],rfl,by rw[rM hn hap hp2];rfl,?_,?_,by omega,rfl,by simp⟩⟩
  all_goals first|exact zq F|rfl|omega|trivial|skip
 rintro _ s2 h' ⟨k,w,acc,j2,rfl,rfl,e6,e18,hk,hac,hq⟩ K2 hK2
 simp only[ai,ap,Nat.reduceEqDiff, ↓reduceIte]at e6 e18
 have F:=F3 F e6 e18
 refine wk F ?_
 have hLm:(L.map It.av).length=L.length:=List.length_map ..
 refine cq F (fun c1=>?_) (fun c1=>?_)<;>(try exact c1.elim)<;>(refine wk F ?_)
 ·have c2:k<L.length:=by omega
  obtain⟨t,ht,htm⟩:=af c2
  rw[aA ht,List.map_cons]at hq
  have F:=F8 F ht c2 hgr hsr hgi hsi hLm
  try refine sq F ?_
  refine wk F ?_
  refine aq F ?_
  try refine sq F ?_
  refine wk F ?_
  refine hK2 _ _ _ (Wkn.refl ⟨k+1,w+1,acc++[t.id],j2++[.row 49 9 0 [t.av]],rfl,by simp[iA,It.av],?_,?_,by omega,by simp;omega,by rw[← hq];simp⟩) (by omega)
  all_goals first|exact zq F|rfl|omega|trivial|skip
 ·rw[aB c1,List.map_nil,List.append_nil,hids]at hq
  refine ee hQ F ?_
  rw[← hq]
  have hz:Frz (sI (Z++(.row 3 1 w (acc.map iA)::j2)) n s a y p v L) Y.length (.hs Z.length w 0 acc.length true) (.sl 1 (acc.map iA)):=by
   refine Frz.data (by rw[← hZ];simp) (e:=3) (by rw[hgr];simp[getRow]) (by simp) (fun r hr=>?_) (fun r hr=>?_)
   ·obtain⟨x,_,rfl⟩:=List.mem_map.1 hr;exact .int _ _
   ·obtain⟨x,_,rfl⟩:=List.mem_map.1 hr;intro c hc;simp[AVal.cells,iA]at hc;subst hc;rfl
  have e:sI (Z++(.row 3 1 w (acc.map iA)::j2)) n s a y p v L=sa (Y++ov (.row 74 1 0 [.fn (.func g) [] cap]::(j++(.row 3 1 w (acc.map iA)::j2))) (p-Y.length) [rI v L]) n s a y:=by
   unfold sI
   rw[← hZ,List.append_assoc]
   rw[show(Blk.row 74 1 0 [.fn (.func g) [] cap]::j)++(.row 3 1 w (acc.map iA)::j2)=.row 74 1 0 [.fn (.func g) [] cap]::(j++(.row 3 1 w (acc.map iA)::j2))from rfl,kD _ (by omega)]
  rw[e]at hz ⊢
  exact vK hn hm hz ⟨rfl,y,hy,rfl⟩
end
end Go.Av
namespace Go.Av
open Go Go.Proofs Go.RowKit
end Go.Av
namespace Go.Av
open Go Go.Proofs Go.RowKit
theorem uo{s:PS}(hI:s.Inv){f:It→Bool}{x:Ky}:x∈itmK s f↔∃id t,lkM s.it id=some t∧f t=true∧x=t.ky:=by
 unfold itmK
 rw[iu (dY hI f),List.mem_map]
 constructor
 ·rintro⟨t,ht,rfl⟩
  obtain⟨h1,h2⟩:=List.mem_filter.1 ht
  obtain⟨id,hid⟩:=ma hI ((iF hI).mem_iff.1 h1)
  exact⟨id,t,hid,h2,rfl⟩
 ·rintro⟨id,t,h1,h2,rfl⟩
  exact⟨t,List.mem_filter.2 ⟨tC h1,h2⟩,rfl⟩
end Go.Av
namespace Go.Av
open Go Go.Proofs Go.RowKit
namespace Qy
end Qy
end Go.Av
namespace Go.Av
open Go Go.Proofs Go.RowKit
namespace Qy
def lf(o n:Int)(s:Bs):Qy:=.mk o n s []
def neg(q:Qy):Qy:=.mk 5 0 [] [q]
def hd:List Qy→Qy|k::_=>k| []=>lf 0 0 []
mutual
def sam:Qy→Qy→Int→Bool
 | .mk o n s ks,y,a=>decide (a≤64)&&(decide (o=y.op)&&(decide (n=y.num)&&(decide (s=y.txt)&&samL ks y.kds (a+1))))
def samL:List Qy→List Qy→Int→Bool
 | [],ys,_=>ys.isEmpty
 |k::ks,ys,a=> !ys.isEmpty&&(sam k (hd ys) a&&samL ks ys.tail a)
end
mutual
theorem me:∀(x y:Qy) (a:Int),x.sam y a=true→x=y
 | .mk o n s ks,.mk o' n' s' ks',a,h=>by
  rw[sam]at h
  simp only[Bool.and_eq_true,decide_eq_true_eq]at h
  obtain⟨_,h1,h2,h3,h4⟩:=h
  cases h1;cases h2;cases h3
  rw[nS ks _ _ h4];rfl
theorem nS:∀(xs ys:List Qy) (a:Int),samL xs ys a=true→xs=ys
 | [],ys,a,h=>by
  rw[samL]at h
  rw[List.isEmpty_iff]at h
  exact h.symm
 |x::xs,ys,a,h=>by
  rw[samL]at h
  match ys,h with
  |y::ys,h=>
   rw[Bool.and_eq_true,Bool.and_eq_true]at h
   rw[me x y a h.2.1,nS xs ys a h.2.2]
end
def opp(q:Qy):Qy:=if q.op=5 then hd q.kds else q.neg
def oth(o:Int):Int:=if o=1 then 2 else if o=2 then 1 else if o=3 then 4 else 3
def neu(o:Int):Int:=if o=4 then 2 else 1
def oncF:List Qy→List Qy→List Qy
 |acc,[]=>acc
 |acc,x::l=>oncF (if acc.any fun y=>x.sam y 1 then acc else acc++[x]) l
def flF(o ne:Int):List Qy→List Qy→Option (List Qy)
 |acc,[]=>some acc
 |acc,k::l=>if k.op=o then flF o ne (acc++k.kds) l else if k.op=ne then flF o ne acc l else if k.op=oth ne then none else flF o ne (acc++[k]) l
def hasO(u:List Qy)(k:Qy):Bool:=decide (k.kds.length<2)&&u.any fun x=>x.sam k.opp 1
def endF(o:Int)(u:List Qy):Qy:=if u.any (hasO u)then lf (oth (neu o)) 0 []else match u with
 | []=>lf (neu o) 0 []
 | [k]=>k
 |u=>.mk o 0 [] u
def joiF(o:Int)(l:List Qy):Qy:=match flF o (neu o) [] l with
 |none=>lf (oth (neu o)) 0 []
 |some fl=>endF o (oncF [] fl)
mutual
def nrm:Qy→Bool→Qy
 | .mk o n s ks,b=>if o=5 then nrmH ks (!b)else if o=3∨o=4 then joiF (if b then oth o else o) (nrmL ks b)
  else if b=false then lf o n s else if o=1∨o=2 then lf (oth o) 0 []else opp (lf o n s)
def nrmH:List Qy→Bool→Qy
 | [],_=>lf 0 0 []
 |k::_,b=>nrm k b
def nrmL:List Qy→Bool→List Qy
 | [],_=>[]
 |k::ks,b=>nrm k b::nrmL ks b
end
theorem nrmL_eq:∀(ks:List Qy) (b:Bool),nrmL ks b=ks.map fun k=>nrm k b
 | [],_=>rfl
 |k::ks,b=>by rw[nrmL,nrmL_eq ks b];rfl
def p5(q:Qy):Bool:=decide (q.op≠5)||decide (q.kds.length=1)
theorem all_mk{p:Qy→Bool}{o n:Int}{s:Bs}{ks:List Qy}:(Qy.mk o n s ks).all p=true↔(∀k∈ks,k.all p=true)∧p (.mk o n s ks)=true:=by
 rw[all,Bool.and_eq_true,allL_eq,List.all_eq_true]
theorem all_kds{p:Qy→Bool}{q:Qy}(h:q.all p=true):(∀k∈q.kds,k.all p=true)∧p q=true:=by
 obtain⟨o,n,s,ks⟩:=q;exact all_mk.1 h
theorem gO{o n:Int}{s:Bs}(h:o≠5):(lf o n s).all p5=true:=all_mk.2 ⟨fun k hk=>(by cases hk),by simp[p5,op,h]⟩
theorem oncF_mem:∀(l acc:List Qy) (x:Qy),x∈oncF acc l↔x∈acc∨x∈l
 | [],acc,x=>by rw[oncF];simp
 |y::l,acc,x=>by
  rw[oncF,oncF_mem l]
  split
  ·rename_i h
   obtain⟨z,hz,hs⟩:=List.any_eq_true.1 h
   have:=me _ _ _ hs
   subst this
   simp only[List.mem_cons]
   exact⟨fun h=>h.elim .inl fun h=>.inr (.inr h),fun h=>h.elim .inl fun h=>h.elim (fun h=>.inl (h▸hz)) .inr⟩
  ·simp only[List.mem_append,List.mem_cons,List.not_mem_nil,false_or,or_assoc]
theorem flF_mem:∀{o ne:Int} (l acc fl:List Qy),flF o ne acc l=some fl→∀x∈fl,x∈acc∨∃k∈l,(k.op=o∧x∈k.kds)∨x=k
 |o,ne,[],acc,fl,h,x,hx=>by rw[flF]at h;cases h;exact .inl hx
 |o,ne,k::l,acc,fl,h,x,hx=>by
  rw[flF]at h
  split at h
  ·rename_i ho
   rcases flF_mem l _ fl h x hx with h1| ⟨y,hy,h1⟩
   ·rcases List.mem_append.1 h1 with h2|h2
    ·exact .inl h2
    ·exact .inr ⟨k,List.mem_cons_self ..,.inl ⟨ho,h2⟩⟩
   ·exact .inr ⟨y,List.mem_cons_of_mem _ hy,h1⟩
  split at h
  ·rcases flF_mem l _ fl h x hx with h1| ⟨y,hy,h1⟩
   ·exact .inl h1
   ·exact .inr ⟨y,List.mem_cons_of_mem _ hy,h1⟩
  split at h
  ·cases h
  ·rcases flF_mem l _ fl h x hx with h1| ⟨y,hy,h1⟩
   ·rcases List.mem_append.1 h1 with h2|h2
    ·exact .inl h2
    ·rw[List.mem_singleton]at h2;exact .inr ⟨k,List.mem_cons_self ..,.inr h2⟩
   ·exact .inr ⟨y,List.mem_cons_of_mem _ hy,h1⟩
theorem nT(o:Int):oth (neu o)=if o=4 then 1 else 2:=by unfold neu;split<;>rfl
theorem vL{o:Int}(ho:o=3∨o=4){u:List Qy}(h:∀k∈u,k.all p5=true):(endF o u).all p5=true:=by
 unfold endF
 split
 ·exact gO (by rw[nT];split<;>decide)
 ·match u,h with
  | [],_=>exact gO (by unfold neu;split<;>decide)
  | [k],h=>exact h k (by simp)
  |x::y::u,h=>exact all_mk.2 ⟨h,by rcases ho with rfl|rfl<;>rfl⟩
theorem vN{o:Int}(ho:o=3∨o=4){l:List Qy}(h:∀k∈l,k.all p5=true):(joiF o l).all p5=true:=by
 unfold joiF
 split
 ·exact gO (by rw[nT];split<;>decide)
 ·rename_i fl hf
  refine vL ho fun k hk=>?_
  rcases(oncF_mem _ _ _).1 hk with hk|hk
  ·cases hk
  ·rcases flF_mem _ _ _ hf k hk with hk| ⟨y,hy,⟨_,hk⟩|rfl⟩
   ·cases hk
   ·exact(all_kds (h y hy)).1 k hk
   ·exact h k hy
theorem othA{o:Int}(h:o=3∨o=4)(b:Bool):(if b then oth o else o)=3∨(if b then oth o else o)=4:=by
 rcases h with rfl|rfl<;>cases b<;>simp[oth]
theorem nrm_p5:∀q:Qy,q.all p5=true→∀b,(nrm q b).all p5=true:=by
 refine ind fun o n s ks ih h b=>?_
 obtain⟨hk,h5⟩:=all_mk.1 h
 rw[nrm]
 split
 ·rename_i e
  subst e
  match ks,ih,hk,h5 with
  | [],_,_,h5=>simp[p5,op,kds]at h5
  |k::ks,ih,hk,_=>rw[nrmH];exact ih k (by simp) (hk k (by simp)) _
 split
 ·rename_i _ e
  refine vN (othA e b) fun k hk'=>?_
  rw[nrmL_eq]at hk'
  obtain⟨y,hy,rfl⟩:=List.mem_map.1 hk'
  exact ih y hy (hk y hy) b
 rename_i e5 e34
 split
 ·exact gO e5
 split
 ·rename_i e;exact gO (by rcases e with rfl|rfl<;>decide)
 ·unfold opp
  rw[if_neg (show ¬(lf o n s).op=5 from e5)]
  exact all_mk.2 ⟨fun k hk=>by rw[List.mem_singleton]at hk;subst hk;exact gO e5,rfl⟩
section
variable {s:PS} {t:It}
theorem pM(k:Qy)(h:k.op=3):k.bel s t=k.kds.all fun x=>x.bel s t:=by
 obtain⟨o,n,tx,ks⟩:=k
 change o=_ at h
 subst h
 rw[bel,if_pos rfl,belA_eq, ← List.not_all_eq_any_not,Bool.not_not];rfl
theorem pN(k:Qy)(h:k.op=4):k.bel s t=k.kds.any fun x=>x.bel s t:=by
 obtain⟨o,n,tx,ks⟩:=k
 change o=_ at h
 subst h
 rw[bel,if_neg (by decide),if_pos rfl,belO_eq];rfl
theorem uq(k:Qy)(h:k.op=5)(h1:k.kds.length=1):k.bel s t= !(hd k.kds).bel s t:=by
 obtain⟨o,n,tx,ks⟩:=k
 change o=_ at h
 subst h
 match ks,h1 with
 | [x],_=>rw[bel,if_neg (by decide),if_neg (by decide),if_pos rfl,belO,belO,Bool.or_false];rfl
theorem iG(k:Qy)(h:k.op=1):k.bel s t=true:=by
 obtain⟨o,n,tx,ks⟩:=k
 change o=_ at h
 subst h;rfl
theorem iH(k:Qy)(h:k.op=2):k.bel s t=false:=by
 obtain⟨o,n,tx,ks⟩:=k
 change o=_ at h
 subst h;rfl
theorem nU{k:Qy}(h:p5 k=true):k.opp.bel s t= !k.bel s t:=by
 unfold opp
 split
 ·rename_i e
  simp only[p5,e,ne_eq,not_true_eq_false,decide_false,Bool.false_or,decide_eq_true_eq]at h
  rw[uq k e h,Bool.not_not]
 ·rw[uq _ rfl rfl];rfl
theorem uK:∀(l acc:List Qy),match flF 3 1 acc l with
  |none=>(l.all fun k=>k.bel s t)=false
  |some fl=>(fl.all fun k=>k.bel s t)=((acc.all fun k=>k.bel s t)&&l.all fun k=>k.bel s t)
 | [],acc=>by rw[flF];simp
 |k::l,acc=>by
  have go:∀acc',flF 3 1 acc (k::l)=flF 3 1 acc' l→((acc'.all fun k=>k.bel s t)=((acc.all fun k=>k.bel s t)&&k.bel s t))→match flF 3 1 acc (k::l)with
    |none=>((k::l).all fun k=>k.bel s t)=false
    |some fl=>(fl.all fun k=>k.bel s t)=((acc.all fun k=>k.bel s t)&&(k::l).all fun k=>k.bel s t):=fun acc' e ha=>by
   have:=uK l acc'
   rw[e]
   cases hf:flF 3 1 acc' l with
   |none=>rw[hf]at this;show(k.bel s t&&_)=_;rw[this,Bool.and_false]
   |some fl=>rw[hf]at this;show _=(_&&(k.bel s t&&_));rw[this,ha,Bool.and_assoc]
  by_cases h1:k.op=3
  ·exact go (acc++k.kds) (by rw[flF,if_pos h1]) (by rw[List.all_append,pM k h1])
  by_cases h2:k.op=1
  ·exact go acc (by rw[flF,if_neg h1,if_pos h2]) (by rw[iG k h2,Bool.and_true])
  by_cases h3:k.op=2
  ·rw[flF,if_neg h1,if_neg h2,if_pos (show k.op=oth 1 from h3)]
   show(k.bel s t&&_)=false
   rw[iH k h3,Bool.false_and]
  ·exact go (acc++[k]) (by rw[flF,if_neg h1,if_neg h2,if_neg (show ¬k.op=oth 1 from h3)]) (by rw[List.all_append,List.all_cons,List.all_nil,Bool.and_true])
theorem uL:∀(l acc:List Qy),match flF 4 2 acc l with
  |none=>(l.any fun k=>k.bel s t)=true
  |some fl=>(fl.any fun k=>k.bel s t)=((acc.any fun k=>k.bel s t)||l.any fun k=>k.bel s t)
 | [],acc=>by rw[flF];simp
 |k::l,acc=>by
  have go:∀acc',flF 4 2 acc (k::l)=flF 4 2 acc' l→((acc'.any fun k=>k.bel s t)=((acc.any fun k=>k.bel s t)||k.bel s t))→match flF 4 2 acc (k::l)with
    |none=>((k::l).any fun k=>k.bel s t)=true
    |some fl=>(fl.any fun k=>k.bel s t)=((acc.any fun k=>k.bel s t)||(k::l).any fun k=>k.bel s t):=fun acc' e ha=>by
   have:=uL l acc'
   rw[e]
   cases hf:flF 4 2 acc' l with
   |none=>rw[hf]at this;show(k.bel s t||_)=_;rw[this,Bool.or_true]
   |some fl=>rw[hf]at this;show _=(_||(k.bel s t||_));rw[this,ha,Bool.or_assoc]
  by_cases h1:k.op=4
  ·exact go (acc++k.kds) (by rw[flF,if_pos h1]) (by rw[List.any_append,pN k h1])
  by_cases h2:k.op=2
  ·exact go acc (by rw[flF,if_neg h1,if_pos h2]) (by rw[iH k h2,Bool.or_false])
  by_cases h3:k.op=1
  ·rw[flF,if_neg h1,if_neg h2,if_pos (show k.op=oth 2 from h3)]
   show(k.bel s t||_)=true
   rw[iG k h3,Bool.true_or]
  ·exact go (acc++[k]) (by rw[flF,if_neg h1,if_neg h2,if_neg (show ¬k.op=oth 2 from h3)]) (by rw[List.any_append,List.any_cons,List.any_nil,Bool.or_false])
theorem mf{u:List Qy}(h5:∀k∈u,k.all p5=true)(h:u.any (hasO u)=true):∃k∈u,∃x∈u,x.bel s t= !k.bel s t:=by
 obtain⟨k,hk,hh⟩:=List.any_eq_true.1 h
 unfold hasO at hh
 rw[Bool.and_eq_true]at hh
 obtain⟨x,hx,hs⟩:=List.any_eq_true.1 hh.2
 have:=me _ _ _ hs
 subst this
 exact⟨k,hk,_,hx,nU (all_kds (h5 k hk)).2⟩
theorem xG{u:List Qy}(h5:∀k∈u,k.all p5=true):(endF 3 u).bel s t=u.all fun k=>k.bel s t:=by
 unfold endF
 split
 ·rename_i h
  obtain⟨k,hk,x,hx,he⟩:=mf (s:=s) (t:=t) h5 h
  have:(u.all fun k=>k.bel s t)=false:=by
   rw[List.all_eq_false]
   cases hb:k.bel s t with
   |true=>exact⟨x,hx,by rw[he,hb];simp⟩
   |false=>exact⟨k,hk,by rw[hb];simp⟩
  rw[this];exact iH _ rfl
 ·match u with
  | []=>exact iG _ rfl
  | [k]=>simp
  |x::y::u=>exact pM _ rfl
theorem xH{u:List Qy}(h5:∀k∈u,k.all p5=true):(endF 4 u).bel s t=u.any fun k=>k.bel s t:=by
 unfold endF
 split
 ·rename_i h
  obtain⟨k,hk,x,hx,he⟩:=mf (s:=s) (t:=t) h5 h
  have:(u.any fun k=>k.bel s t)=true:=by
   rw[List.any_eq_true]
   cases hb:k.bel s t with
   |true=>exact⟨k,hk,hb⟩
   |false=>exact⟨x,hx,by rw[he,hb];rfl⟩
  rw[this];exact iG _ rfl
 ·match u with
  | []=>exact iH _ rfl
  | [k]=>simp
  |x::y::u=>exact pN _ rfl
theorem ur{u v:List Qy}(h:∀x,x∈u↔x∈v)(f:Qy→Bool):u.all f=v.all f:=by
 rw[Bool.eq_iff_iff,List.all_eq_true,List.all_eq_true]
 exact⟨fun g x hx=>g x ((h x).2 hx),fun g x hx=>g x ((h x).1 hx)⟩
theorem ut{u v:List Qy}(h:∀x,x∈u↔x∈v)(f:Qy→Bool):u.any f=v.any f:=by
 rw[Bool.eq_iff_iff,List.any_eq_true,List.any_eq_true]
 exact⟨fun⟨x,hx,g⟩=>⟨x,(h x).1 hx,g⟩,fun⟨x,hx,g⟩=>⟨x,(h x).2 hx,g⟩⟩
theorem rS{o ne:Int}{l fl:List Qy}(h:∀k∈l,k.all p5=true)(hf:flF o ne [] l=some fl):∀k∈oncF [] fl,k.all p5=true:=fun k hk=>by
 rcases(oncF_mem _ _ _).1 hk with hk|hk
 ·cases hk
 ·rcases flF_mem _ _ _ hf k hk with hk| ⟨y,hy,⟨_,hk⟩|rfl⟩
  ·cases hk
  ·exact(all_kds (h y hy)).1 k hk
  ·exact h k hy
theorem rU{l:List Qy}(h5:∀k∈l,k.all p5=true):(joiF 3 l).bel s t=l.all fun k=>k.bel s t:=by
 have:=uK (s:=s) (t:=t) l []
 unfold joiF
 show(match flF 3 1 [] l with|none=>_|some fl=>_:Qy).bel s t=_
 cases hf:flF 3 1 [] l with
 |none=>rw[hf]at this;rw[this];exact iH _ rfl
 |some fl=>
  rw[hf]at this
  show(endF 3 (oncF [] fl)).bel s t=_
  rw[xG (rS h5 hf),ur (v:=fl) (fun x=>by rw[oncF_mem];simp),this];simp
theorem rV{l:List Qy}(h5:∀k∈l,k.all p5=true):(joiF 4 l).bel s t=l.any fun k=>k.bel s t:=by
 have:=uL (s:=s) (t:=t) l []
 unfold joiF
 show(match flF 4 2 [] l with|none=>_|some fl=>_:Qy).bel s t=_
 cases hf:flF 4 2 [] l with
 |none=>rw[hf]at this;rw[this];exact iG _ rfl
 |some fl=>
  rw[hf]at this
  show(endF 4 (oncF [] fl)).bel s t=_
  rw[xH (rS h5 hf),ut (v:=fl) (fun x=>by rw[oncF_mem];simp),this];simp
theorem nrm_bel:∀q:Qy,q.all p5=true→∀b,(nrm q b).bel s t=(b !=q.bel s t):=by
 refine ind fun o n tx ks ih h b=>?_
 obtain⟨hk,h5⟩:=all_mk.1 h
 have hl:∀b,∀k∈nrmL ks b,k.all p5=true:=fun b k hk'=>by
  rw[nrmL_eq]at hk'
  obtain⟨y,hy,rfl⟩:=List.mem_map.1 hk'
  exact nrm_p5 y (hk y hy) b
 rw[nrm]
 split
 ·rename_i e
  subst e
  match ks,ih,hk,h5 with
  | [],_,_,h5=>simp[p5,op,kds]at h5
  |k::ks,ih,hk,h5=>
   rw[nrmH,ih k (by simp) (hk k (by simp)),uq (.mk 5 n tx (k::ks)) rfl (by simpa [p5,op,kds]using h5)]
   show((!b) !=k.bel s t)=(b != !k.bel s t)
   cases b<;>cases k.bel s t<;>rfl
 split
 ·rename_i _ e
  have hA:(∀f:Qy→Bool,(nrmL ks b).all f=ks.all fun k=>f (nrm k b))∧∀f:Qy→Bool,(nrmL ks b).any f=ks.any fun k=>f (nrm k b):=by
   rw[nrmL_eq];exact⟨fun f=>by rw[List.all_map];rfl,fun f=>by rw[List.any_map];rfl⟩
  have e1:(ks.all fun k=>(nrm k b).bel s t)=ks.all fun k=>b !=k.bel s t:=by
   rw[Bool.eq_iff_iff,List.all_eq_true,List.all_eq_true]
   exact⟨fun g k hk'=>by rw[← ih k hk' (hk k hk')];exact g k hk',fun g k hk'=>by rw[ih k hk' (hk k hk')];exact g k hk'⟩
  have e2:(ks.any fun k=>(nrm k b).bel s t)=ks.any fun k=>b !=k.bel s t:=by
   rw[Bool.eq_iff_iff,List.any_eq_true,List.any_eq_true]
   exact⟨fun⟨k,hk',g⟩=>⟨k,hk',by rw[← ih k hk' (hk k hk')];exact g⟩,fun⟨k,hk',g⟩=>⟨k,hk',by rw[ih k hk' (hk k hk')];exact g⟩⟩
  rcases e with rfl|rfl<;>cases b
  ·show(joiF 3 _).bel s t=_
   rw[rU (hl _),hA.1,e1,pM _ rfl];simp[kds]
  ·show(joiF 4 _).bel s t=_
   rw[rV (hl _),hA.2,e2,pM _ rfl]
   show(ks.any fun k=>true !=k.bel s t)=(true !=ks.all fun k=>k.bel s t)
   simp[List.not_all_eq_any_not]
  ·show(joiF 4 _).bel s t=_
   rw[rV (hl _),hA.2,e2,pN _ rfl];simp[kds]
  ·show(joiF 3 _).bel s t=_
   rw[rU (hl _),hA.1,e1,pN _ rfl]
   show(ks.all fun k=>true !=k.bel s t)=(true !=ks.any fun k=>k.bel s t)
   simp[List.not_any_eq_all_not]
 rename_i e5 e34
 have el:∀{ks:List Qy},(Qy.mk o n tx ks).bel s t=leafF s t o n tx:=rL (fun e=>e34 (.inl e)) (fun e=>e34 (.inr e)) e5
 split
 ·rename_i eb;subst eb
  rw[el,show(lf o n tx).bel s t=leafF s t o n tx from el];simp
 rename_i eb
 obtain rfl:b=true:=by simpa using eb
 split
 ·rename_i e
  rcases e with rfl|rfl
  ·rw[iG (.mk 1 n tx ks) rfl];exact iH _ rfl
  ·rw[iH (.mk 2 n tx ks) rfl];exact iG _ rfl
 ·rw[nU (show p5 (lf o n tx)=true by simp[p5,op,lf,e5]),el,show(lf o n tx).bel s t=leafF s t o n tx from el];simp
end
theorem szL_app(a b:List Qy):szL (a++b)=szL a+szL b:=by
 induction a with
 |nil=>simp[szL]
 |cons x a ih=>rw[List.cons_append,szL,szL,ih];omega
theorem sz_kds(q:Qy):1+szL q.kds≤q.sz:=by obtain⟨o,n,s,ks⟩:=q;rw[sz];show 1+szL ks≤_;omega
theorem oncF_sz:∀(l acc:List Qy),szL (oncF acc l)≤szL acc+szL l
 | [],acc=>by rw[oncF];omega
 |x::l,acc=>by
  rw[oncF,szL]
  have:=oncF_sz l (if acc.any fun y=>x.sam y 1 then acc else acc++[x])
  split at this
  ·rename_i h;rw[if_pos h];omega
  ·rename_i h;rw[if_neg h];rw[szL_app,szL,szL]at this;omega
theorem jn:∀{o ne:Int} (l acc fl:List Qy),flF o ne acc l=some fl→szL fl≤szL acc+szL l
 |o,ne,[],acc,fl,h=>by rw[flF]at h;cases h;omega
 |o,ne,k::l,acc,fl,h=>by
  rw[flF]at h
  rw[szL]
  split at h
  ·have:=jn l _ _ h;rw[szL_app]at this;have:=sz_kds k;omega
  split at h
  ·have:=jn l _ _ h;omega
  split at h
  ·cases h
  ·have:=jn l _ _ h;rw[szL_app,szL,szL]at this;omega
theorem vO(o:Int)(u:List Qy):(endF o u).sz≤1+szL u:=by
 unfold endF
 split
 ·show(Qy.mk _ _ _ _).sz≤_;rw[sz,szL];simp
 ·match u with
  | []=>show(Qy.mk _ _ _ _).sz≤_;rw[sz,szL];simp
  | [k]=>show k.sz≤_;rw[szL];omega
  |x::y::u=>show(Qy.mk _ _ _ _).sz≤_;rw[sz];simp
theorem vP(o:Int)(l:List Qy):(joiF o l).sz≤1+szL l:=by
 unfold joiF
 split
 ·show(Qy.mk _ _ _ _).sz≤_;rw[sz,szL];simp
 ·rename_i fl hf
  have h1:=jn _ _ _ hf
  have h2:=oncF_sz fl []
  have h3:=vO o (oncF [] fl)
  rw[szL]at h1 h2
  omega
theorem nrm_sz:∀q:Qy,∀b,(nrm q b).sz≤2*q.sz:=by
 refine ind fun o n tx ks ih b=>?_
 rw[nrm,sz]
 split
 ·match ks,ih with
  | [],_=>rw[nrmH,szL];show(Qy.mk _ _ _ _).sz≤_;rw[sz,szL];simp;omega
  |k::ks,ih=>rw[nrmH,szL];have:=ih k (by simp) (!b);omega
 split
 ·have h1:=vP (if b then oth o else o) (nrmL ks b)
  have h2:szL (nrmL ks b)≤2*szL ks:=by
   clear h1
   induction ks with
   |nil=>rw[nrmL,szL];omega
   |cons k ks ihl=>
    rw[nrmL,szL,szL]
    have:=ih k (by simp) b
    have:=ihl fun x hx=>ih x (by simp[hx])
    omega
  omega
 rename_i e5 e34
 split
 ·show(Qy.mk _ _ _ _).sz≤_;rw[sz,szL];omega
 split
 ·show(Qy.mk _ _ _ _).sz≤_;rw[sz,szL];simp;omega
 ·unfold opp
  rw[if_neg (show ¬(lf o n tx).op=5 from e5)]
  show(Qy.mk _ _ _ [Qy.mk _ _ _ _]).sz≤_
  rw[sz,szL,szL,sz,szL];simp;omega
theorem mx_sz:∀q:Qy,q.mx≤q.sz:=by
 refine ind fun o n tx ks ih=>?_
 rw[mx,sz]
 have h1:=szL_len ks
 have h2:mxL ks≤szL ks:=by
  clear h1
  induction ks with
  |nil=>rw[mxL];omega
  |cons k ks ihl=>
   rw[mxL,szL]
   have:=ih k (by simp)
   have:=ihl fun x hx=>ih x (by simp[hx])
   omega
 omega
end Qy
end Go.Av
namespace Go.Av
open Go Go.Proofs Go.RowKit
attribute [local irreducible] WP WPl WPix Sat
variable (G:Nat→Option (List AVal))
def wi(X:Heap)(n:Nat)(s:PS)(q:Qy)(y:ML Int (List Int)×Nat)(j:Heap):Heap:=so (X++(.row 25 4 0 [q.av]::am y.1 y.2::ar n (X.length+1):: .row 70 1 0 [.hp (X.length+2) 0 0 0]::j)) n s
def yi(X:Heap)(n:Nat)(q:Qy)(j:Heap):Heap:=X++(.row 25 4 0 [q.av]::am [] 0::ar n (X.length+1):: .row 70 1 0 [.hp (X.length+2) 0 0 0]::j)
theorem pV(X:Heap)(n:Nat)(s:PS)(q:Qy)(y:ML Int (List Int)×Nat)(j:Heap):sa (yi X n q j) n s (X.length+1) y=wi X n s q y j:=by
 have:=gN (X:=X++[.row 25 4 0 [q.av]]) (n:=n) (s:=s) y (am [] 0) (ar n (X.length+1)) (.row 70 1 0 [.hp (X.length+2) 0 0 0]::j)
 rw[List.length_append,List.length_singleton]at this
 unfold yi wi
 rw[List.append_assoc,List.append_assoc]at this
 exact this
theorem mg(X:Heap)(n:Nat)(q:Qy)(j k:Heap):yi X n q j++k=yi X n q (j++k):=by
 unfold yi;rw[List.append_assoc];rfl
theorem jo(X:Heap)(n:Nat)(q:Qy)(j:Heap):(yi X n q j).length=X.length+4+j.length:=by
 unfold yi;simp;omega
theorem jp(s:PS)(hI:s.Inv)(q:Qy)(hqz:q.sz≤20000)(hqa:q.all pnF=true){X:Heap}{n:Nat}(hn:n+9≤X.length)(t:It)(htt:t.title.length≤256)(htg:t.tags.length≤1048576)(x:ML Int (List Int)×Nat)(hx:Gd s x)(j:Heap):
  Sat (CT G) 36 ([]++[t.av]++[.hp (X.length+3) 0 0 0,.hp X.length 0 0 0]) (sa (yi X n q j) n s (X.length+1) x) (fun r h'=>r=.bool (q.bel s t)∧∃y,Gd s y∧h'=sa (yi X n q j) n s (X.length+1) y):=by
 have hB:=nQ G s hI t htt htg (n:=n) (a:=X.length+1) (by omega) q hqz hqa (yi X n q (j++[.row 49 9 0 [t.av]])) x (by rw[jo];omega) hx
 have hF:=fun y (hy:Gd s y)=>bt (x:=x) (y:=y) (s:=s) (n:=n) (a:=X.length+1) (Y:=yi X n q j) (j:=[.row 49 9 0 [t.av]]) (R:=fun r h'=>r=.bool (q.bel s t)∧∃y,Gd s y∧h'=sa (yi X n q j) n s (X.length+1) y) (r:=.bool (q.bel s t)) (by omega) (by rw[jo];omega) (fun N=>.bool _) ⟨rfl,y,hy,rfl⟩
 simp only[mg,pV]at hB hF ⊢
 generalize q.bel s t=b at*
 unfold wi at hB hF ⊢
 clear hqz hqa
 obtain⟨qo,qn,qs,qk⟩:=q
 rw[Qy.av_eq]at*
 have hn1:∀j:Heap,n+9≤(X++j).length:=fun j=>by simp;omega
 have F:=F3 hn hn1 @aw
 refine sb [.tmp 4] (fn:=Tryz.f36) Tryz.func36 ?_
 intro Q hQ
 refine wk F ?_
 refine hB.mono ?_
 rintro r h' ⟨rfl,y,hy,rfl⟩
 try refine sq F ?_
 refine wk F ?_
 refine ee hQ F ?_
 exact hF y hy
theorem dE(s:PS)(hI:s.Inv)(hT:s.Tt)(q:Qy)(hq:q.Fit){X:Heap}{n:Nat}(hn:n+9≤X.length):Sat (CT G) 12 [.hp (n+8) 0 0 0,q.av] (so X n s) (fun r h'=>r=.tup (if q.ok then [.sl 1 ((itmF s fun t=>q.bel s t).map iA),.int .i64 0]else [.nil (.slice none 0 0),.int .i64 250])∧h'=so X n s):=by
 have hC:=fun h=>cF G q h hq.1 hq.2
 have hn1:∀j:Heap,n+9≤(X++j).length:=fun j=>by simp;omega
 cases hok:q.ok with
 |false=>
  rw[hok]at hC
  clear hq
  obtain⟨qo,qn,qs,qk⟩:=q
  rw[Qy.av_eq]at*
  have F:=F2 hn hn1
  refine sb [.tmp 4,.tmp 5] (fn:=Tryz.f12) Tryz.func12 ?_
  intro Q hQ
  refine wk F ?_
  refine(hC _).mono ?_
  rintro r h' ⟨rfl,rfl⟩
  try refine sq F ?_
  refine wk F ?_
  refine ee hQ F ?_
  exact aj hn (.tup _ fun y hy=>by simp at hy;rcases hy with rfl|rfl<;>constructor) ⟨rfl,rfl⟩
 |true=>
  have hok':=hok
  unfold Qy.ok at hok'
  simp only[Bool.and_eq_true,decide_eq_true_eq]at hok'
  obtain⟨rQ,hrQ⟩:∃rQ:Blk,rQ=.row 25 4 0 [q.av]:=⟨_,rfl⟩
  have hlX:(X++[rQ]).length=X.length+1:=by simp
  have hO:=mc G s (X:=X++[rQ]) (n:=n) (by omega)
  have hP:=fB G (s:=s) (Y:=yi X n q []) (n:=n) (a:=X.length+1) hI (by omega) (by rw[jo];omega) (fun t=>q.bel s t) 36 [.hp (X.length+3) 0 0 0,.hp X.length 0 0 0] (fun t ht x hx j=>by
   obtain⟨id,hid⟩:∃id,lkM s.it id=some t:=ma hI ((iF hI).mem_iff.1 ht)
   have htg:=(hI.tags id).2
   rw[hid,Option.getD_some]at htg
   have:=jp G s hI q (hq.2 hok'.1) hok'.2.2 hn t (hT id t hid) (by omega) x hx j
   rw[mg]
   exact this) ([],0) ⟨.nil,fun _ _ h=>by cases h⟩
  simp only[pV]at hP
  unfold wi at hP
  rw[hlX]at hO
  have e:sa (X++[rQ]++[am [] 0,ar n (X.length+1)]) n s (X.length+1) ([],0)=so (X++[rQ,am [] 0,ar n (X.length+1)]) n s:=by
   have:=gN (X:=X++[rQ]) (n:=n) (s:=s) ([],0) (am [] 0) (ar n (X.length+1)) []
   rw[hlX]at this
   rw[this,List.append_assoc];rfl
  rw[e]at hO
  subst hrQ
  rw[hok]at hC
  clear hok' e hlX hq hok
  generalize (itmF s fun t=>q.bel s t)=L at*
  obtain⟨qo,qn,qs,qk⟩:=q
  rw[Qy.av_eq]at*
  have F:=F2 hn hn1
  refine sb [.tmp 4,.tmp 5] (fn:=Tryz.f12) Tryz.func12 ?_
  intro Q hQ
  refine wk F ?_
  refine(hC _).mono ?_
  rintro r h' ⟨rfl,rfl⟩
  try refine sq F ?_
  refine wk F ?_
  refine hO.mono ?_
  rintro r h' ⟨rfl,rfl⟩
  have F:=F4 F hn hn1 @aw
  try refine sq F ?_
  refine wk F ?_
  refine hP.mono ?_
  rintro r h' ⟨rfl,y,hy,rfl⟩
  try refine sq F ?_
  refine wk F ?_
  refine ee hQ F ?_
  exact aj hn (.tup _ fun y hy=>by
   simp only[List.mem_cons,List.not_mem_nil,or_false]at hy
   rcases hy with rfl|rfl
   ·exact .sl _ _ fun r hr=>by obtain⟨x,_,rfl⟩:=List.mem_map.1 hr;exact .int _ _
   ·exact .int _ _) ⟨rfl,rfl⟩
end Go.Av
namespace Go.Av
open Go Go.Proofs Go.RowKit
def l27:List Ev:=[⟨3,1,0,0,[117],[],[]⟩,⟨7,1,1,5,[97],[71,111,32,116,101,97],[]⟩,⟨7,2,1,9,[98],[],[]⟩,⟨7,3,1,9,[99],[],[]⟩,⟨8,3,0,1,[],[],[]⟩,⟨11,1,0,0,[115],[117,110,114,101,97,100],[]⟩,⟨11,2,0,0,[115],[111,114],[]⟩]
def s27:PS:=l27.foldl PS.step1 PS.z
theorem iJ:l27.foldl (PS.step L0) PS.z=s27:=by
 show(((((((PS.z.step L0 _).step L0 _).step L0 _).step L0 _).step L0 _).step L0 _).step L0 _)=_
 rw[cT (fC (by kernel_rfl) rfl),cT (fC (by kernel_rfl) rfl),cT (fC (by kernel_rfl) rfl),cT (fC (by kernel_rfl) rfl),cT (fC (by kernel_rfl) rfl),cT (fC (by kernel_rfl) rfl),cT (fC (by kernel_rfl) rfl)]
 rfl
theorem cU:s27.Inv:=by rw[← iJ];exact PS.Inv.z.fold l27
theorem jq:s27.Tt:=by rw[← iJ];exact PS.Tt.fold PS.Tt.z PS.Inv.z
def t27a:It:=⟨1,1,5,[97],[71,111,32,116,101,97],[],false,false,[]⟩
def t27b:It:=⟨2,1,9,[98],[],[],false,false,[]⟩
def t27c:It:=⟨3,1,9,[99],[],[],true,false,[]⟩
theorem uM:lkM s27.it 1=some t27a:=by kernel_rfl
theorem pW:lkM s27.it 2=some t27b:=by kernel_rfl
theorem pY:lkM s27.it 3=some t27c:=by kernel_rfl
theorem Ae:s27.it.map (·.1)=[1,2,3]:=by kernel_rfl
theorem xL:lkM s27.se 1=some ⟨1,[115],[117,110,114,101,97,100]⟩:=by kernel_rfl
theorem xM:lkM s27.se 2=some ⟨2,[115],[111,114]⟩:=by kernel_rfl
theorem xN:lkM s27.se 3=none:=by kernel_rfl
theorem gQ(f:It→Bool)(L:List Ky)(hs:Sk L)(hm:∀x,x∈L↔(f t27a=true∧x=t27a.ky)∨(f t27b=true∧x=t27b.ky)∨(f t27c=true∧x=t27c.ky)):itmF s27 f=L.map (·.i):=by
 have e:itmK s27 f=L:=(ir (dY cU f)).uniq hs fun x=>by
  rw[show x∈srtK _↔x∈itmK s27 f from Iff.rfl,uo cU,hm]
  constructor
  ·rintro⟨id,t,ht,hf,rfl⟩
   have hk:id∈s27.it.map (·.1):=uc.2 (by rw[ht];rfl)
   rw[Ae]at hk
   simp only[List.mem_cons,List.not_mem_nil,or_false]at hk
   rcases hk with rfl|rfl|rfl
   ·rw[uM]at ht;cases ht;exact .inl ⟨hf,rfl⟩
   ·rw[pW]at ht;cases ht;exact .inr (.inl ⟨hf,rfl⟩)
   ·rw[pY]at ht;cases ht;exact .inr (.inr ⟨hf,rfl⟩)
  ·rintro(⟨hf,rfl⟩| ⟨hf,rfl⟩| ⟨hf,rfl⟩)
   ·exact⟨1,_,uM,hf,rfl⟩
   ·exact⟨2,_,pW,hf,rfl⟩
   ·exact⟨3,_,pY,hf,rfl⟩
 unfold itmF
 rw[e]
def k27a:Ky:=⟨5,1,1⟩
def k27b:Ky:=⟨9,2,1⟩
def k27c:Ky:=⟨9,3,1⟩
theorem vT(f:It→Bool)(h1:f t27a=true)(h2:f t27b=true)(h3:f t27c=true):itmF s27 f=[2,3,1]:=
 gQ f [k27b,k27c,k27a] (by simp[Sk,ahd,k27a,k27b,k27c]) fun x=>by
  simp only[List.mem_cons,List.not_mem_nil,or_false,h1,h2,h3,true_and]
  exact⟨fun h=>h.elim (fun h=>.inr (.inl h)) fun h=>h.elim (fun h=>.inr (.inr h)) .inl,fun h=>h.elim (fun h=>.inr (.inr h)) fun h=>h.elim .inl fun h=>.inr (.inl h)⟩
theorem xO(f:It→Bool)(h1:f t27a=true)(h2:f t27b=true)(h3:f t27c=false):itmF s27 f=[2,1]:=
 gQ f [k27b,k27a] (by simp[Sk,ahd,k27a,k27b]) fun x=>by
  simp only[List.mem_cons,List.not_mem_nil,or_false,h1,h2,h3,true_and,Bool.false_eq_true,false_and]
  exact⟨fun h=>h.elim .inr .inl,fun h=>h.elim .inr .inl⟩
theorem xP(f:It→Bool)(h1:f t27a=true)(h2:f t27b=false)(h3:f t27c=true):itmF s27 f=[3,1]:=
 gQ f [k27c,k27a] (by simp[Sk,ahd,k27a,k27c]) fun x=>by
  simp only[List.mem_cons,List.not_mem_nil,or_false,h1,h2,h3,true_and,Bool.false_eq_true,false_and,false_or]
  exact⟨fun h=>h.elim .inr .inl,fun h=>h.elim .inr .inl⟩
theorem Af(f:It→Bool)(h1:f t27a=true)(h2:f t27b=false)(h3:f t27c=false):itmF s27 f=[1]:=
 gQ f [k27a] (by simp[Sk]) fun x=>by
  simp only[List.mem_cons,List.not_mem_nil,or_false,h1,h2,h3,true_and,Bool.false_eq_true,false_and]
  exact Iff.rfl
def q27(op:Int)(tx:Bs):Qy:=.mk op 0 tx []
theorem vU:itmF s27 (fun t=>(q27 1 []).bel s27 t)=[2,3,1]:=vT _ (by kernel_rfl) (by kernel_rfl) (by kernel_rfl)
theorem vV:itmF s27 (fun t=>(q27 11 [116,101,97]).bel s27 t)=[1]:=Af _ (by kernel_rfl) (by kernel_rfl) (by kernel_rfl)
theorem vW:itmF s27 (fun t=>(q27 9 []).bel s27 t)=[2,1]:=xO _ (by kernel_rfl) (by kernel_rfl) (by kernel_rfl)
theorem vX:(q27 1 []).ok=true:=by kernel_rfl
theorem vY:(q27 11 [116,101,97]).ok=true:=by kernel_rfl
theorem jN:(q27 9 []).ok=true:=by kernel_rfl
theorem vZ:(q27 0 []).ok=false:=by kernel_rfl
theorem gR(op:Int)(tx:Bs)(h:tx.length≤300):(q27 op tx).Fit:=⟨by unfold q27;rw[Qy.mx,Qy.mxL,List.length_nil];omega,fun _=>by unfold q27;rw[Qy.sz,Qy.szL];omega⟩
theorem Ah:s27.eval (q27 9 []) 2=true:=by unfold PS.eval;rw[pW,jN];kernel_rfl
theorem Ai:s27.eval (q27 9 []) 3=false:=by unfold PS.eval;rw[pY,jN];kernel_rfl
end Go.Av
namespace Go.Av
open Go Go.Proofs Go.RowKit
attribute [local irreducible] WP WPl WPix Sat
variable (G:Nat→Option (List AVal))
theorem dZ(s:PS)(id:Int){H:Heap}{n:Nat}(hn:n+9≤H.length):Sat (CT G) 49 [.hp (n+8) 0 0 0,.int .i64 id] (so H n s) (fun r h'=>r=.tup [((lkM s.se id).getD Se.z).av,.bool (lkM s.se id).isSome]∧h'=so H n s):=by
 refine sb [.cell 4 97,.tmp 5] (fn:=Tryz.f49) Tryz.func49 ?_
 intro Q hQ
 refine wk trivial ?_
 refine ye hQ trivial ?_
 exact aj hn (.tup _ fun x hx=>by
  simp only[List.mem_cons,List.not_mem_nil,or_false]at hx
  rcases hx with rfl|rfl
  ·exact .agg _ fun y hy=>by
    simp only[List.mem_cons,List.not_mem_nil,or_false]at hy
    rcases hy with rfl|rfl|rfl<;>constructor
  ·exact .bool _) ⟨rfl,rfl⟩
section
variable {s:PS} {Y:Heap} {n a:Nat}
theorem sg(hn:n+9≤a)(hm:a+2≤Y.length)(l:List Int)(hl:l.length≤1048576)(t:It)(x:ML Int (List Int)×Nat)(hx:Gd s x)(j:Heap):
  Sat (CT G) 51 ([]++[t.av]++[.hp Y.length 0 0 0]) (sa (Y++(.row 38 1 0 [.sl 1 (l.map iA)]::j)) n s a x) (fun r h'=>r=.bool (l.any fun b=>decide (t.id=b))∧∃y,Gd s y∧h'=sa (Y++(.row 38 1 0 [.sl 1 (l.map iA)]::j)) n s a y):=by
 have hm1:∀j:Heap,a+2≤(Y++j).length:=fun j=>by simp;omega
 have F:=F4 hm hn hm1 @aw
 refine sb [.tmp 3] (fn:=Tryz.f51) Tryz.func51 ?_
 intro Q hQ
 refine wk F ?_
 refine kq F (ku G l t.id hl _) ?_
 refine ee hQ F ?_
 have:=bt (x:=x) (s:=s) (j:=[.row 49 9 0 [t.av]]) (R:=fun r h'=>r=.bool (l.any fun b=>decide (t.id=b))∧∃y,Gd s y∧h'=sa (Y++(.row 38 1 0 [.sl 1 (l.map iA)]::j)) n s a y) (r:=.bool (l.any fun b=>decide (t.id=b))) hn (hm1 (.row 38 1 0 [.sl 1 (l.map iA)]::j)) (fun N=>.bool _) (y:=x) ⟨rfl,x,hx,rfl⟩
 rwa [List.append_assoc]at this
theorem uy(hI:s.Inv)(hn:n+9≤a)(hm:a+2≤Y.length)(l:List Int)(hl:l.length≤1048576)(x:ML Int (List Int)×Nat)(hx:Gd s x):
  Sat (CT G) 28 [.hp (n+8) 0 0 0,.sl 1 (l.map iA)] (sa Y n s a x) (fun r h'=>r=.sl 1 ((itmF s fun t=>l.any fun b=>decide (t.id=b)).map iA)∧∃y,Gd s y∧h'=sa Y n s a y):=by
 have hm1:∀j:Heap,a+2≤(Y++j).length:=fun j=>by simp;omega
 have hP:=fB G (s:=s) (Y:=Y++[.row 38 1 0 [.sl 1 (l.map iA)]]) hI hn (hm1 _) (fun t=>l.any fun b=>decide (t.id=b)) 51 [.hp Y.length 0 0 0] (fun t _ x hx j=>by
  have e:Y++[Blk.row 38 1 0 [.sl 1 (l.map iA)]]++j=Y++(Blk.row 38 1 0 [.sl 1 (l.map iA)]::j):=by rw[List.append_assoc];rfl
  rw[e]
  exact sg G hn hm l hl t x hx j) x hx
 generalize (itmF s fun t=>l.any fun b=>decide (t.id=b))=L at*
 have F:=F3 hm hn hm1
 refine sb [.tmp 4] (fn:=Tryz.f28) Tryz.func28 ?_
 intro Q hQ
 refine wk F ?_
 refine hP.mono ?_
 rintro r h' ⟨rfl,y,hy,rfl⟩
 try refine sq F ?_
 refine wk F ?_
 refine ee hQ F ?_
 exact bt hn hm (fun N=>.sl _ _ fun r hr=>by obtain⟨x,_,rfl⟩:=List.mem_map.1 hr;exact .int _ _) ⟨rfl,y,hy,rfl⟩
end
theorem nk(s:PS)(hI:s.Inv)(hT:s.Tt)(q:Qy)(hq:q.Fit)(hok:q.ok=true){X:Heap}{n:Nat}(hn:n+9≤X.length):Sat (CT G) 12 [.hp (n+8) 0 0 0,q.av] (so X n s) (fun r h'=>r=.tup [.sl 1 ((itmF s fun t=>q.bel s t).map iA),.int .i64 0]∧∃(b:Blk) (y:ML Int (List Int)×Nat) (k:Heap),Gd s y∧h'=so (X++(b::am y.1 y.2::ar n (X.length+1)::k)) n s):=by
 have hC:=fun h=>cF G q h hq.1 hq.2
 have hn1:∀j:Heap,n+9≤(X++j).length:=fun j=>by simp;omega
 have hok':=hok
 unfold Qy.ok at hok'
 simp only[Bool.and_eq_true,decide_eq_true_eq]at hok'
 obtain⟨rQ,hrQ⟩:∃rQ:Blk,rQ=.row 25 4 0 [q.av]:=⟨_,rfl⟩
 have hlX:(X++[rQ]).length=X.length+1:=by simp
 have hO:=mc G s (X:=X++[rQ]) (n:=n) (by omega)
 have hP:=fB G (s:=s) (Y:=yi X n q []) (n:=n) (a:=X.length+1) hI (by omega) (by rw[jo];omega) (fun t=>q.bel s t) 36 [.hp (X.length+3) 0 0 0,.hp X.length 0 0 0] (fun t ht x hx j=>by
  obtain⟨id,hid⟩:∃id,lkM s.it id=some t:=ma hI ((iF hI).mem_iff.1 ht)
  have htg:=(hI.tags id).2
  rw[hid,Option.getD_some]at htg
  have:=jp G s hI q (hq.2 hok'.1) hok'.2.2 hn t (hT id t hid) (by omega) x hx j
  rw[mg]
  exact this) ([],0) ⟨.nil,fun _ _ h=>by cases h⟩
 simp only[pV]at hP
 unfold wi at hP
 rw[hlX]at hO
 have e:sa (X++[rQ]++[am [] 0,ar n (X.length+1)]) n s (X.length+1) ([],0)=so (X++[rQ,am [] 0,ar n (X.length+1)]) n s:=by
  have:=gN (X:=X++[rQ]) (n:=n) (s:=s) ([],0) (am [] 0) (ar n (X.length+1)) []
  rw[hlX]at this
  rw[this,List.append_assoc];rfl
 rw[e]at hO
 subst hrQ
 rw[hok]at hC
 clear hok' e hlX hq hok
 generalize (itmF s fun t=>q.bel s t)=L at*
 obtain⟨qo,qn,qs,qk⟩:=q
 rw[Qy.av_eq]at*
 have F:=F2 hn hn1
 refine sb [.tmp 4,.tmp 5] (fn:=Tryz.f12) Tryz.func12 ?_
 intro Q hQ
 refine wk F ?_
 refine(hC _).mono ?_
 rintro r h' ⟨rfl,rfl⟩
 try refine sq F ?_
 refine wk F ?_
 refine hO.mono ?_
 rintro r h' ⟨rfl,rfl⟩
 have F:=F4 F hn hn1 @aw
 try refine sq F ?_
 refine wk F ?_
 refine hP.mono ?_
 rintro r h' ⟨rfl,y,hy,rfl⟩
 try refine sq F ?_
 refine wk F ?_
 refine ee hQ F ?_
 exact Fin.whole (by rw[aJ hn,aJ (hn1 _)];simp) (.tup _ fun y hy=>by
  simp only[List.mem_cons,List.not_mem_nil,or_false]at hy
  rcases hy with rfl|rfl
  ·exact .sl _ _ fun r hr=>by obtain⟨x,_,rfl⟩:=List.mem_map.1 hr;exact .int _ _
  ·exact .int _ _) ⟨rfl,_,y,_,hy,rfl⟩
theorem nW(N:Nat)(e:Int):Clo N (.tup [.nil (.slice none 0 0),.int .i64 e]):=.tup _ fun y hy=>by
 simp only[List.mem_cons,List.not_mem_nil,or_false]at hy
 rcases hy with rfl|rfl<;>constructor
theorem xQ{p q q':AVal}(hq:Wk q q'):∀(i:Nat) (x y:AVal),[p,q][i]? =some x→[p,q'][i]? =some y→Wk x y:=fun i x y hx hy=>by
 match i with
 |0=>simp at hx hy;subst hx;subst hy;exact Wk.refl _
 |1=>simp at hx hy;subst hx;subst hy;exact hq
 |i+2=>simp at hx
theorem GQ{p q q' r:AVal}(hq:Wk q q'):∀(i:Nat) (x y:AVal),[p,q,r][i]? =some x→[p,q',r][i]? =some y→Wk x y:=fun i x y hx hy=>by
 match i with
 |0=>simp at hx hy;subst hx;subst hy;exact Wk.refl _
 |1=>simp at hx hy;subst hx;subst hy;exact hq
 |2=>simp at hx hy;subst hx;subst hy;exact Wk.refl _
 |i+3=>simp at hx
section
variable {X:Heap} {n:Nat} (hn:n+9≤X.length)
include hn
theorem nX(op:Int)(tx:Bs)(hl:tx.length≤300){L:List Int}(hok:(q27 op tx).ok=true)(hL:itmF s27 (fun t=>(q27 op tx).bel s27 t)=L):Sat (CT G) 12 [.hp (n+8) 0 0 0,.agg [.int .i64 op,.int .i64 0,.str tx,.nil (.slice none 0 0)]] (so X n s27) (fun r h'=>r=.tup [.sl 1 (L.map iA),.int .i64 0]∧h'=so X n s27):=by
 have:=dE G s27 cU jq (q27 op tx) (gR op tx hl) hn
 rw[hok,hL]at this
 exact Sat.wk (ys:=[.hp (n+8) 0 0 0,(Qy.mk op 0 tx []).av]) rfl (xQ (gP op 0 tx)) this
theorem uz:Sat (CT G) 12 [.hp (n+8) 0 0 0,.agg [.int .i64 1,.int .i64 0,.str [],.nil (.slice none 0 0)]] (so X n s27) (fun r h'=>r=.tup [.sl 1 ([2,3,1].map iA),.int .i64 0]∧∃(b:Blk) (y:ML Int (List Int)×Nat) (k:Heap),Gd s27 y∧h'=so (X++(b::am y.1 y.2::ar n (X.length+1)::k)) n s27):=by
 have:=nk G s27 cU jq (q27 1 []) (gR 1 [] (by simp)) vX hn
 rw[vU]at this
 exact Sat.wk (ys:=[.hp (n+8) 0 0 0,(Qy.mk 1 0 [] []).av]) rfl (xQ (gP 1 0 [])) this
theorem uA:Sat (CT G) 12 [.hp (n+8) 0 0 0,.agg [.int .i64 0,.int .i64 0,.str [],.nil (.slice none 0 0)]] (so X n s27) (fun r h'=>r=.tup [.nil (.slice none 0 0),.int .i64 250]∧h'=so X n s27):=by
 have:=dE G s27 cU jq (q27 0 []) (gR 0 [] (by simp)) hn
 rw[vZ]at this
 exact Sat.wk (ys:=[.hp (n+8) 0 0 0,(Qy.mk 0 0 [] []).av]) rfl (xQ (gP 0 0 [])) this
theorem nY(id:Int){b:Bool}(hb:s27.eval (q27 9 []) id=b):Sat (CT G) 14 [.hp (n+8) 0 0 0,.agg [.int .i64 9,.int .i64 0,.str [],.nil (.slice none 0 0)],.int .i64 id] (so X n s27) (fun r h'=>r=.bool b∧h'=so X n s27):=by
 have:=rR G s27 cU jq (q27 9 []) (gR 9 [] (by simp)) id hn
 rw[hb]at this
 exact Sat.wk (ys:=[.hp (n+8) 0 0 0,(Qy.mk 9 0 [] []).av,.int .i64 id]) rfl (GQ (gP 9 0 [])) this
theorem pZ:Sat (CT G) 27 [.hp (n+8) 0 0 0,.int .i64 3] (so X n s27) (fun r h'=>r=.tup [.nil (.slice none 0 0),.int .i64 4]∧h'=so X n s27):=by
 have hS:=dZ G s27 3 hn
 simp only[xN,Option.isSome_none,Option.getD_none]at hS
 have F:=hn
 refine sb [.tmp 4,.tmp 5] (fn:=Tryz.f27) Tryz.func27 ?_
 intro Q hQ
 refine wk F ?_
 refine kq F (hS) ?_
 refine ee hQ F ?_
 exact aj hn (nW _ _) ⟨rfl,rfl⟩
theorem qa(hG:GOk G)(hc:GClo (CT G)):Sat (CT G) 27 [.hp (n+8) 0 0 0,.int .i64 1] (so X n s27) (fun r h'=>r=.tup [.sl 1 ([2,1].map iA),.int .i64 0]∧h'=so X n s27):=by
 have hS:=dZ G s27 1 hn
 simp only[xL,Option.isSome_some,Option.getD_some]at hS
 have hi:=fun(j:Heap)=>nX G (X:=X++j) (n:=n) (by simp;omega) 9 [] (by simp) jN vW
 have hn1:∀j:Heap,n+9≤(X++j).length:=fun j=>by simp;omega
 have F:=F2 hn hn1
 refine sb [.tmp 4,.tmp 5] (fn:=Tryz.f27) Tryz.func27 ?_
 intro Q hQ
 refine wk F ?_
 refine kq F (hS) ?_
 refine kq F (pU G hG hc _) ?_
 refine kq F (hi _) ?_
 refine ee hQ F ?_
 exact aj hn (.tup _ fun y hy=>by
  simp only[List.mem_cons,List.not_mem_nil,or_false]at hy
  rcases hy with rfl|rfl
  ·exact .sl _ _ fun r hr=>by
    simp only[List.mem_cons,List.not_mem_nil,or_false]at hr
    rcases hr with rfl|rfl<;>exact .int _ _
  ·exact .int _ _) ⟨rfl,rfl⟩
theorem qb(hG:GOk G)(hc:GClo (CT G)):Sat (CT G) 27 [.hp (n+8) 0 0 0,.int .i64 2] (so X n s27) (fun r h'=>r=.tup [.nil (.slice none 0 0),.int .i64 250]∧h'=so X n s27):=by
 have hS:=dZ G s27 2 hn
 simp only[xM,Option.isSome_some,Option.getD_some]at hS
 have hn1:∀j:Heap,n+9≤(X++j).length:=fun j=>by simp;omega
 have F:=F2 hn hn1
 refine sb [.tmp 4,.tmp 5] (fn:=Tryz.f27) Tryz.func27 ?_
 intro Q hQ
 refine wk F ?_
 refine kq F (hS) ?_
 refine kq F (pT G hG hc _) ?_
 refine ee hQ F ?_
 exact aj hn (nW _ _) ⟨rfl,rfl⟩
end
end Go.Av
namespace Go.Av
open Go Go.Proofs Go.RowKit
attribute [local irreducible] WP WPl WPix Sat
variable (G:Nat→Option (List AVal))
theorem xR{h j:Heap}{n:Nat}{s:PS}(hm:n+9≤(h++j).length)(hh:h.length≤n):∃j',so (h++j) n s=h++j':=by
 refine⟨(so (h++j) n s).drop h.length,?_⟩
 have hl:=aJ (s:=s) hm
 apply List.ext_getElem?
 intro p
 by_cases hp:p<h.length
 ·rw[List.getElem?_append_left hp]
  unfold so
  rw[lk (by show n+9≤_;omega) (.inl (by omega)),List.getElem?_append_left hp]
 ·rw[List.getElem?_append_right (by omega),List.getElem?_drop]
  congr 1
  omega
theorem sh{h Y:Heap}{n:Nat}{s:PS}{R:AVal→Heap→Prop}{b:Bool}(hm:n+9≤Y.length)(hp:∃j,Y=h++j)(hh:h.length≤n)(hR:R (.bool b) h):Fin h (so Y n s) R (.bool b):=by
 obtain⟨j,rfl⟩:=hp
 obtain⟨j',he⟩:=xR (s:=s) hm hh
 rw[he]
 exact Fin.plainE (j:=j') rfl (.bool _) hR
theorem xS:(itmF s27 fun t=>[1,7,3,1].any fun b=>decide (t.id=b))=[3,1]:=xP _ (by kernel_rfl) (by kernel_rfl) (by kernel_rfl)
theorem wc:ahd ⟨0,2,0⟩ ⟨0,3,0⟩=true:=by kernel_rfl
theorem ic(hG:GOk G)(hc:GClo (CT G))(h:Heap):Sat (CT G) 9 [] h (fun r h'=>r=.bool true∧h'=h):=by
 have hF:=kr G l27 (by decide) h
 rw[iJ]at hF
 have hz9:(PS.z.bl h.length).length=9:=rfl
 obtain⟨H0,hH0⟩:∃H0,H0=h++PS.z.bl h.length:=⟨_,rfl⟩
 rw[← hH0]at hF
 have hl0:H0.length=h.length+9:=by rw[hH0];simp[hz9]
 have hn0:∀j:Heap,h.length+9≤(H0++j).length:=fun j=>by simp;omega
 have hIt0:=uz G (X:=H0) (n:=h.length) (by omega)
 have F:=hn0
 refine sb [.tmp 0] (fn:=Tryz.f9) Tryz.func9 ?_
 intro Q hQ
 refine wk F ?_
 refine kq F (hF) ?_
 refine hIt0.mono ?_
 rintro r h' ⟨rfl,b,y,k,hy,rfl⟩
 obtain⟨H1,hH1⟩:∃H1,H1=H0++(b::am y.1 y.2::ar h.length (H0.length+1)::k):=⟨_,rfl⟩
 rw[← hH1]
 have hn1:h.length+9≤H1.length:=by rw[hH1];simp;omega
 have hlb:(H0++[b]).length=H0.length+1:=by simp
 have e1:∀z,sa H1 h.length s27 (H0.length+1) z=so (H0++(b::am z.1 z.2::ar h.length (H0.length+1)::k)) h.length s27:=fun z=>by
  have:=gN (X:=H0++[b]) (n:=h.length) (s:=s27) z (am y.1 y.2) (ar h.length (H0.length+1)) k
  rw[hlb,List.append_assoc,List.append_assoc]at this
  rw[hH1];exact this
 have hSo:=uy G (s:=s27) (Y:=H1) (n:=h.length) (a:=H0.length+1) cU (by omega) (by rw[hH1];simp;omega) [1,7,3,1] (by simp) y hy
 rw[xS]at hSo
 simp only[e1]at hSo
 rw[← hH1]at hSo
 have hsm:∀(l:List Int) (h:Heap),l.length≤1000→Sat (CT G) 16 [.sl 1 (l.map iA),.sl 1 (l.map iA)] h (fun r h'=>r=.bool true∧h'=h):=fun l h hl=>by
  have:=kC G l l (by omega) (by omega) h
  rwa [decide_eq_true (rfl:l=l)]at this
 have hah:=fun h=>oG G 0 2 0 3 h
 rw[wc]at hah
 have df:∀i:Decidable False, @decide False i=false:=fun i=>by simp
 have dt:∀i:Decidable True, @decide True i=true:=fun i=>by simp
 have F:=F4 F hn1 df dt
 try refine sq F ?_
 refine wk F ?_
 refine kq F (nX G hn1 11 [116,101,97] (by simp) vY vV) ?_
 refine kq F (qa G hn1 hG hc) ?_
 refine kq F (qb G hn1 hG hc) ?_
 refine kq F (pZ G hn1) ?_
 refine kq F (uA G hn1) ?_
 refine hSo.mono ?_
 rintro r h' ⟨rfl,z,hz,rfl⟩
 obtain⟨H2,hH2⟩:∃H2,H2=H0++(b::am z.1 z.2::ar h.length (H0.length+1)::k):=⟨_,rfl⟩
 rw[← hH2]
 have hn2:h.length+9≤H2.length:=by rw[hH2];simp;omega
 have F:=F2 F hn2
 try refine sq F ?_
 refine wk F ?_
 refine kq F (hsm [2,3,1] _ (by simp)) ?_
 refine kq F (hsm [1] _ (by simp)) ?_
 refine kq F (hsm [2,1] _ (by simp)) ?_
 refine kq F (hsm [3,1] _ (by simp)) ?_
 refine kq F (nY G hn2 2 Ah) ?_
 refine kq F (nY G hn2 3 Ai) ?_
 refine kq F (hah _) ?_
 refine ee hQ F ?_
 exact sh hn2 ⟨PS.z.bl h.length++(b::am z.1 z.2::ar h.length (H0.length+1)::k),by rw[hH2,hH0,List.append_assoc]⟩ (Nat.le_refl _) ⟨rfl,rfl⟩
end Go.Av
namespace Go.Av
open Go Go.Proofs Go.RowKit
attribute [local irreducible] WP WPl WPix Sat
theorem Qy.clo(N:Nat)(q:Qy):Clo N q.av:=by
 induction q using Qy.ind with
 |h op num s ks ih=>
  rw[Qy.av_eq]
  refine .agg _ fun x hx=>?_
  simp only[List.mem_cons,List.not_mem_nil,or_false]at hx
  rcases hx with rfl|rfl|rfl|rfl
  ·exact .int _ _
  ·exact .int _ _
  ·exact .str _
  ·exact .sl _ _ fun x hx=>by
    obtain⟨k,hk,rfl⟩:=List.mem_map.1 hx
    exact ih k hk
theorem xT{H j:Heap}{n p:Nat}{s:PS}(hn:n+9≤(H++j).length)(hp:p<n)(hl:n≤H.length)(u:Nat):getRow (so (H++j) n s) p u=getRow H p u:=by
 unfold so
 rw[gy u (by show n+9≤_;omega) (.inl hp),bm u (by omega)]
variable (G:Nat→Option (List AVal))
end Go.Av
namespace Go.Av
open Go Go.Proofs Go.RowKit
attribute [local irreducible] WP WPl WPix Sat
def eqF(p:Qy→Qy→Bool)(xs ys:List Qy):Bool:=decide (xs.length=ys.length)&&(xs.zip ys).all fun z=>p z.1 z.2
theorem uB(p:Qy→Qy→Bool)(x y:Qy)(xs ys:List Qy):eqF p (x::xs) (y::ys)=(p x y&&eqF p xs ys):=by
 unfold eqF
 rw[List.zip_cons_cons,List.all_cons,List.length_cons,List.length_cons]
 by_cases h:xs.length=ys.length
 ·simp[h]
 ·simp[h]
theorem mh:∀(xs ys:List Qy) (a:Int),Qy.samL xs ys a=eqF (fun x y=>x.sam y a) xs ys
 | [],ys,a=>by
  rw[Qy.samL]
  cases ys<;>rfl
 |x::xs,ys,a=>by
  rw[Qy.samL]
  cases ys with
  |nil=>rfl
  |cons y ys=>rw[uB, ← mh xs ys a];rfl
variable (G:Nat→Option (List AVal))
theorem wd(p:Qy→Qy→Bool)(g:FuncId)(cap:List AVal)(xs ys:List Qy)(hl:xs.length≤1048576)(hl2:ys.length≤1048576)(h:Heap)
  (hg:∀a∈xs,∀b∈ys,∀j,Sat (CT G) g ([]++[a.av,b.av]++cap) (h++j) (fun r h'=>r=.bool (p a b)∧h'=h++j)):
  Sat (CT G) 231 [.sl 4 (xs.map Qy.av),.sl 4 (ys.map Qy.av),.fn (.func g) [] cap] h (fun r h'=>r=.bool (eqF p xs ys)∧h'=h):=by
 have m1:(xs.map Qy.av).length=xs.length:=List.length_map ..
 have m2:(ys.map Qy.av).length=ys.length:=List.length_map ..
 by_cases hne:xs.length=ys.length
 ·have hn:((xs.length:Int) != (ys.length:Int))=false:=by simp[hne]
  have e:eqF p xs ys=(xs.zip ys).all fun z=>p z.1 z.2:=by unfold eqF;simp[hne]
  rw[e]
  have F:=F4 m1 m2 hn @aw
  refine sb [.tmp 6] (fn:=Tryz.f231) Tryz.func231 ?_
  intro Q hQ
  refine wk F ?_
  refine lm (fun nL tL hL=>∃(k:Nat) (j:Heap),xs.length-k=nL∧h++j=hL∧tL 17=.int .i64 k∧k≤xs.length∧((xs.zip ys).all fun z=>p z.1 z.2)=(((xs.drop k).zip (ys.drop k)).all fun z=>p z.1 z.2)) ((fun(k:Nat) (j:Heap)=>(xs.length-k:Nat)) (0) ([])) ?_ ?_
  ·refine Wkn.refl ⟨0,[],rfl,by rw[List.append_nil],?_,by omega,by simp⟩
   all_goals first|exact zq F|rfl|omega|trivial|skip
  rintro _ s2 h' ⟨k,j,rfl,rfl,e17,hk,hp⟩ K2 hK2
  simp only[ai,ap,Nat.reduceEqDiff, ↓reduceIte]at e17
  have F:=F2 F e17
  refine wk F ?_
  refine cq F (fun c1=>?_) (fun c1=>?_)<;>(try exact c1.elim)<;>(refine wk F ?_)
  ·have c2:k<xs.length:=by omega
   have c3:k<ys.length:=by omega
   obtain⟨x,hx,hxm⟩:=af c2
   obtain⟨y,hy,hym⟩:=af c3
   rw[aA hx,aA hy,List.zip_cons_cons,List.all_cons]at hp
   have hc:=hg x hxm y hym
   simp only at hp
   generalize p x y=b at*
   obtain⟨xo,xn,xs1,xl⟩:=x
   obtain⟨yo,yn,ys1,yl⟩:=y
   simp only[Qy.av_eq]at hc
   cases b
   ·rw[Bool.false_and]at hp
    have F:=F5 F hx hy c2 c3
    try refine sq F ?_
    refine wk F ?_
    refine kq F (hc _) ?_
    refine ee hQ F ?_
    exact Fin.plain (.bool _) ⟨by rw[hp],rfl⟩
   ·rw[Bool.true_and]at hp
    have F:=F5 F hx hy c2 c3
    try refine sq F ?_
    refine wk F ?_
    refine kq F (hc _) ?_
    refine hK2 _ _ _ (Wkn.refl ⟨k+1,j++[.row 25 4 0 [.agg [.int .i64 xo,.int .i64 xn,.str xs1,.sl 4 (xl.map Qy.av)]],.row 25 4 0 [.agg [.int .i64 yo,.int .i64 yn,.str ys1,.sl 4 (yl.map Qy.av)]]],rfl,aC,?_,by omega,hp⟩) (by omega)
    all_goals first|exact zq F|rfl|omega|trivial|skip
  ·rw[aB c1,List.zip_nil_left,List.all_nil]at hp
   refine ee hQ F ?_
   exact Fin.plain (.bool _) ⟨by rw[hp],rfl⟩
 ·have hn:((xs.length:Int) != (ys.length:Int))=true:=by simp;omega
  have e:eqF p xs ys=false:=by unfold eqF;simp[hne]
  rw[e]
  have F:=F3 m1 m2 hn
  refine sb [.tmp 6] (fn:=Tryz.f231) Tryz.func231 ?_
  intro Q hQ
  refine wk F ?_
  refine ee hQ F ?_
  exact Fin.same (.bool _) ⟨rfl,rfl⟩
theorem wh(x:Qy)(hz:x.sz≤100000):∀(y:Qy) (d:Int) (h:Heap),y.sz≤100000→0≤d→d≤65→Sat (CT G) 188 [x.av,y.av,.int .i64 d] h (fun r h'=>r=.bool (x.sam y d)∧h'=h):=by
 revert hz
 induction x using Qy.ind with
 |h o n s ks ih=>
 intro hz y d h hy0 h0 h1
 have hkl:=Qy.szL_len ks
 have hkm:∀k∈ks,k.sz≤Qy.szL ks:=fun k hk=>Qy.szL_mem hk
 rw[Qy.sz]at hz
 obtain⟨yo,yn,ys,yl⟩:=y
 have hyl:=Qy.szL_len yl
 have hym:∀k∈yl,k.sz≤Qy.szL yl:=fun k hk=>Qy.szL_mem hk
 rw[Qy.sz]at hy0
 have e:(Qy.mk o n s ks).sam (.mk yo yn ys yl) d=(decide (d≤64)&&(decide (o=yo)&&(decide (n=yn)&&(decide (s=ys)&&eqF (fun x y=>x.sam y (d+1)) ks yl)))):=by
  rw[Qy.sam,mh];rfl
 rw[e]
 by_cases hb:d≤64∧o=yo∧n=yn∧s=ys
 ·obtain⟨b1,rfl,rfl,rfl⟩:=hb
  have hd:decide (d>64)=false:=by simp;omega
  have hE:=fun H=>wd G (fun x y=>x.sam y (d+1)) 232 [.hp (h.length+2) 0 0 0] ks yl (by omega) (by omega) (h++[.row 25 4 0 [(Qy.mk o n s ks).av],.row 25 4 0 [(Qy.mk o n s yl).av],.row 3 1 0 [.int .i64 d]]) H
  have e2:(decide (d≤64)&&(decide (o=o)&&(decide (n=n)&&(decide (s=s)&&eqF (fun x y=>x.sam y (d+1)) ks yl))))=eqF (fun x y=>x.sam y (d+1)) ks yl:=by simp[b1]
  rw[e2]
  have hS:=hE fun a ha b hb j=>by
   have hc:=fun h=>ih a ha (by have:=hkm a ha;omega) b (d+1) h (by have:=hym b hb;omega) (by omega) (by omega)
   generalize a.sam b (d+1)=v at*
   obtain⟨ao,an,ax,ak⟩:=a
   obtain⟨bo,bn,bx,bk⟩:=b
   simp only[Qy.av_eq]at hc ⊢
   have F:= @aw
   refine sb [.tmp 5] (fn:=Tryz.f232) Tryz.func232 ?_
   intro Q hQ
   refine wk F ?_
   refine kq F (hc _) ?_
   refine ee hQ F ?_
   exact Fin.plainE (j:=[.row 25 4 0 [.agg [.int .i64 ao,.int .i64 an,.str ax,.sl 4 (ak.map Qy.av)]],.row 25 4 0 [.agg [.int .i64 bo,.int .i64 bn,.str bx,.sl 4 (bk.map Qy.av)]]]) (by simp) (.bool _) ⟨rfl,rfl⟩
  clear hE
  generalize eqF (fun x y=>x.sam y (d+1)) ks yl=v at*
  simp only[Qy.av_eq]at hS ⊢
  have F:=F4 hd (F3 (@beq_self_eq_true Int _ _) (@beq_self_eq_true Bool _ _) (@beq_self_eq_true Bs _ _)) (F3 (@bne_self_eq_false Int _ _) (@bne_self_eq_false Bool _ _) (@bne_self_eq_false Bs _ _)) @aw
  refine sb [.tmp 6] (fn:=Tryz.f188) Tryz.func188 ?_
  intro Q hQ
  refine wk F ?_
  refine kq F (hS) ?_
  refine ee hQ F ?_
  exact Fin.plain (.bool _) ⟨rfl,rfl⟩
 ·have e3:(decide (d≤64)&&(decide (o=yo)&&(decide (n=yn)&&(decide (s=ys)&&eqF (fun x y=>x.sam y (d+1)) ks yl))))=false:=by
   by_cases c1:d≤64
   ·by_cases c2:o=yo
    ·by_cases c3:n=yn
     ·by_cases c4:s=ys
      ·exact(hb ⟨c1,c2,c3,c4⟩).elim
      ·simp[c4]
     ·simp[c3]
    ·simp[c2]
   ·simp[c1]
  rw[e3]
  have hb2:decide (d>64)=true∨(decide (d>64)=false∧(o !=yo)=true)∨(decide (d>64)=false∧(o !=yo)=false∧(n !=yn)=true)∨(decide (d>64)=false∧(o !=yo)=false∧(n !=yn)=false∧(s==ys)=false):=by
   by_cases c1:d≤64
   ·have d1:decide (d>64)=false:=by simp;omega
    by_cases c2:o=yo
    ·by_cases c3:n=yn
     ·by_cases c4:s=ys
      ·exact(hb ⟨c1,c2,c3,c4⟩).elim
      ·exact .inr (.inr (.inr ⟨d1,by simp[c2],by simp[c3],by simpa using c4⟩))
     ·exact .inr (.inr (.inl ⟨d1,by simp[c2],by simpa using c3⟩))
    ·exact .inr (.inl ⟨d1,by simpa using c2⟩)
   ·exact .inl (by simp;omega)
  clear hb e3 e
  simp only[Qy.av_eq]
  rcases hb2 with ht|ht|ht|ht
  all_goals (
   have F:=ht
   refine sb [.tmp 6] (fn:=Tryz.f188) Tryz.func188 ?_
   intro Q hQ
   refine wk F ?_
   refine ee hQ F ?_
   exact Fin.plain (.bool _) ⟨rfl,rfl⟩)
theorem kF(x y:Qy)(hx:x.sz≤100000)(hy:y.sz≤100000)(h:Heap):Sat (CT G) 141 [x.av,y.av] h (fun r h'=>r=.bool (x.sam y 1)∧h'=h):=by
 have hc:=fun h=>wh G x hx y 1 h hy (by omega) (by omega)
 generalize x.sam y 1=v at*
 obtain⟨xo,xn,xs,xk⟩:=x
 obtain⟨yo,yn,ys,yk⟩:=y
 simp only[Qy.av_eq]at hc ⊢
 refine sb [.tmp 4] (fn:=Tryz.f141) Tryz.func141 ?_
 intro Q hQ
 refine wk trivial ?_
 refine kq trivial (hc _) ?_
 refine ee hQ trivial ?_
 exact Fin.plain (.bool _) ⟨rfl,rfl⟩
theorem gp(o:Int)(h:Heap):Sat (CT G) 90 [.int .i64 o] h (fun r h'=>r=.int .i64 (Qy.oth o)∧h'=h):=by
 by_cases h1:o=1
 ·subst h1
  refine sb [.tmp 2] (fn:=Tryz.f90) Tryz.func90 ?_
  intro Q hQ
  refine wk trivial ?_
  refine ee hQ trivial ?_
  exact Fin.same (.int _ _) ⟨rfl,rfl⟩
 by_cases h2:o=2
 ·subst h2
  refine sb [.tmp 2] (fn:=Tryz.f90) Tryz.func90 ?_
  intro Q hQ
  refine wk trivial ?_
  refine ee hQ trivial ?_
  exact Fin.same (.int _ _) ⟨rfl,rfl⟩
 by_cases h3:o=3
 ·subst h3
  refine sb [.tmp 2] (fn:=Tryz.f90) Tryz.func90 ?_
  intro Q hQ
  refine wk trivial ?_
  refine ee hQ trivial ?_
  exact Fin.same (.int _ _) ⟨rfl,rfl⟩
 have e:Qy.oth o=3:=by unfold Qy.oth;rw[if_neg h1,if_neg h2,if_neg h3]
 have b1:(o==1)=false:=by simpa using h1
 have b2:(o==2)=false:=by simpa using h2
 have b3:(o==3)=false:=by simpa using h3
 rw[e]
 have F:=F3 b1 b2 b3
 refine sb [.tmp 2] (fn:=Tryz.f90) Tryz.func90 ?_
 intro Q hQ
 refine wk F ?_
 refine ee hQ F ?_
 exact Fin.same (.int _ _) ⟨rfl,rfl⟩
theorem nZ(q:Qy)(h5:Qy.p5 q=true)(h:Heap):Sat (CT G) 91 [q.av] h (fun r h'=>r=q.opp.av∧h'=h):=by
 obtain⟨o,n,s,ks⟩:=q
 by_cases ho:o=5
 ·subst ho
  have hk:ks.length=1:=by
   have h6:(decide ((Qy.mk 5 n s ks).op≠5)||decide ((Qy.mk 5 n s ks).kds.length=1))=true:=h5
   rw[Bool.or_eq_true,decide_eq_true_eq,decide_eq_true_eq]at h6
   exact h6.resolve_left (fun h=>h rfl)
  obtain⟨k,rfl⟩:∃k,ks=[k]:=by
   match ks,hk with
   | [k],_=>exact⟨k,rfl⟩
  have e:(Qy.mk 5 n s [k]).opp=k:=rfl
  rw[e]
  have hc:=fun N=>Qy.clo N k
  obtain⟨ko,kn,kt,kl⟩:=k
  simp only[Qy.av_eq,List.map_cons,List.map_nil]at hc ⊢
  refine sb [.cell 2 25] (fn:=Tryz.f91) Tryz.func91 ?_
  intro Q hQ
  refine wk trivial ?_
  refine ye hQ trivial ?_
  exact Fin.plain (hc _) ⟨rfl,rfl⟩
 ·have e:(Qy.mk o n s ks).opp=.mk 5 0 [] [.mk o n s ks]:=by unfold Qy.opp;rw[if_neg (show ¬(Qy.mk o n s ks).op=5 from ho)];rfl
  have hb:(o==5)=false:=by simpa using ho
  have hc:=fun N=>Qy.clo N (.mk 5 0 [] [.mk o n s ks])
  rw[e]
  simp only[Qy.av_eq,List.map_cons,List.map_nil]at hc ⊢
  have F:=hb
  refine sb [.cell 2 25] (fn:=Tryz.f91) Tryz.func91 ?_
  intro Q hQ
  refine wk F ?_
  refine ye hQ F ?_
  exact Fin.plain (hc _) ⟨rfl,rfl⟩
theorem qc(p:Qy→Bool)(g:FuncId)(cap:List AVal)(l:List Qy)(hl:l.length≤1048576)(h:Heap)(c w:Nat)(hr:getRow h c w=some (25,4,l.map Qy.av))
  (hg:∀a∈l,Sat (CT G) g ([]++[a.av]++cap) h (fun r h'=>r=.bool (p a)∧h'=h)):
  Sat (CT G) 122 [.hs c w 0 l.length true,.fn (.func g) [] cap] h (fun r h'=>r=.int .i64 (ixQ p l)∧h'=h):=by
 have F:=hr
 refine sb [.tmp 4] (fn:=Tryz.f122) Tryz.func122 ?_
 intro Q hQ
 refine wk F ?_
 refine lm (fun nL tL hL=>∃(k:Nat),l.length-k=nL∧h=hL∧tL 8=.int .i64 k∧k≤l.length∧(∀a∈l.take k,p a=false)) ((fun(k:Nat)=>(l.length-k:Nat)) (0)) ?_ ?_
 ·refine Wkn.refl ⟨0,rfl,aC,?_,Nat.zero_le _,by simp⟩
  all_goals first|exact zq F|rfl|omega|trivial|skip
 rintro _ s2 h' ⟨k,rfl,rfl,e8,hk,hp⟩ K2 hK2
 simp only[ai,ap,Nat.reduceEqDiff, ↓reduceIte]at e8
 have F:=F2 F e8
 refine wk F ?_
 refine cq F (fun c1=>?_) (fun c1=>?_)<;>(try exact c1.elim)<;>(refine wk F ?_)
 ·have c2:k<l.length:=by omega
  obtain⟨y,hy,hym⟩:=af c2
  have hc:=hg y hym
  cases he:p y with
  |true=>
   have e:=eS hy he hp
   rw[he]at hc
   clear he
   obtain⟨yo,yn,ys,yl⟩:=y
   rw[Qy.av_eq]at hc
   have F:=F3 F hy c2
   try refine sq F ?_
   refine wk F ?_
   refine kq F (hc) ?_
   refine ee hQ F ?_
   exact Fin.same (.int _ _) ⟨by rw[e],rfl⟩
  |false=>
   have hp1:=eo hy he hp
   rw[he]at hc
   clear he
   obtain⟨yo,yn,ys,yl⟩:=y
   rw[Qy.av_eq]at hc
   have F:=F3 F hy c2
   try refine sq F ?_
   refine wk F ?_
   refine kq F (hc) ?_
   refine hK2 _ _ _ (Wkn.refl ⟨k+1,rfl,aC,?_,by omega,hp1⟩) (by omega)
   all_goals first|exact zq F|rfl|omega|trivial|skip
 ·have e:=eT (p:=p) (l:=l) fun a ha=>hp a (by rwa [List.take_of_length_le (by omega)])
  refine ee hQ F ?_
  exact Fin.same (.int _ _) ⟨by rw[e],rfl⟩
theorem uC(p:Qy→Bool)(g:FuncId)(cap:List AVal)(l:List Qy)(hl:l.length≤1048576)(h:Heap)(c w:Nat)(hr:getRow h c w=some (25,4,l.map Qy.av))
  (hg:∀a∈l,Sat (CT G) g ([]++[a.av]++cap) h (fun r h'=>r=.bool (p a)∧h'=h)):
  Sat (CT G) 71 [.hs c w 0 l.length true,.fn (.func g) [] cap] h (fun r h'=>r=.bool (l.any p)∧h'=h):=by
 have hc:=qc G p g cap l hl h c w hr hg
 rw[← eR]
 refine sb [.tmp 4] (fn:=Tryz.f71) Tryz.func71 ?_
 intro Q hQ
 refine wk trivial ?_
 refine kq trivial (hc) ?_
 refine ee hQ trivial ?_
 exact Fin.same (.bool _) ⟨rfl,rfl⟩
end Go.Av
namespace Go.Av
open Go Go.Proofs Go.RowKit
attribute [local irreducible] WP WPl WPix Sat
theorem Qy.stoR(q:Qy):∀c∈q.av.cells,c.sto=true:=by
 obtain⟨o,n,s,ks⟩:=q
 rw[Qy.av_eq]
 intro c hc
 simp only[AVal.cells,List.mem_cons,List.not_mem_nil,or_false]at hc
 rcases hc with rfl|rfl|rfl|rfl<;>rfl
theorem xU{h:Heap}{N p w n:Nat}{l:List Qy}(hp:N≤p)(hg:getRow h p w=some (25,4,l.map Qy.av))(hn:n=l.length):Frz h N (.hs p w 0 n true) (.sl 4 (l.map Qy.av)):=
 Frz.data hp hg (by rw[hn,List.length_map]) (fun r hr=>by obtain⟨q,_,rfl⟩:=List.mem_map.1 hr;exact Qy.clo _ _) (fun r hr=>by obtain⟨q,_,rfl⟩:=List.mem_map.1 hr;exact q.stoR)
variable (G:Nat→Option (List AVal))
abbrev fnS:AVal:=.fn (.func 141) [] []
theorem si(x y:Qy)(hx:x.sz≤100000)(hy:y.sz≤100000)(H:Heap)(pf px:Nat)(hf:getRow H pf 0=some (175,1,[fnS]))(hg:getRow H px 0=some (25,4,[x.av])):
  Sat (CT G) 187 ([]++[y.av]++[.hp pf 0 0 0,.hp px 0 0 0]) H (fun r h'=>r=.bool (x.sam y 1)∧h'=H):=by
 have hs:=fun h=>kF G x y hx hy h
 have l1:=bu hf
 have l2:=bu hg
 generalize x.sam y 1=v at*
 obtain⟨xo,xn,xs,xk⟩:=x
 obtain⟨yo,yn,ys,yk⟩:=y
 simp only[Qy.av_eq]at hs hg ⊢
 have F:=F5 hf hg l1 l2 @aw
 refine sb [.tmp 4] (fn:=Tryz.f187) Tryz.func187 ?_
 intro Q hQ
 refine wk F ?_
 refine kq F (hs _) ?_
 refine ee hQ F ?_
 exact Fin.plain (.bool _) ⟨rfl,rfl⟩
theorem sj(l:List Qy)(hz:∀x∈l,x.sz≤100000)(hl:l.length≤100000)(h:Heap)(c w0:Nat)(hr:getRow h c w0=some (25,4,l.map Qy.av)):Sat (CT G) 140 [.hs c w0 0 l.length true,fnS] h (fun r h'=>r=.sl 4 ((Qy.oncF [] l).map Qy.av)∧h'=h):=by
 have hcl:=bu hr
 have hrl:∀j,getRow (h++j) c w0=some (25,4,l.map Qy.av):=fun j=>by rw[bm _ hcl,hr]
 have F:=F3 hcl hrl @aw
 refine sb [.tmp 4] (fn:=Tryz.f140) Tryz.func140 ?_
 intro Q hQ
 refine wk F ?_
 refine lm (fun nL tL hL=>∃(k w:Nat) (acc:List Qy) (j:Heap),l.length-k=nL∧h++(.row 175 1 0 [fnS]:: .row 25 4 w (acc.map Qy.av)::j)=hL∧tL 5=.hs (h.length+1) w 0 acc.length true∧tL 10=.int .i64 k∧k≤l.length∧acc.length≤k∧(∀a∈acc,a.sz≤100000)∧Qy.oncF acc (l.drop k)=Qy.oncF [] l) ((fun(k w:Nat) (acc:List Qy) (j:Heap)=>(l.length-k:Nat)) (0) (0) ([]) ([])) ?_ ?_
 ·refine⟨_,_,Weak.virt 5 25 4 (by simp) (by omega) (by exact zq F),⟨0,0,[],[],rfl,aC,?_,?_,by omega,by simp,by simp,rfl⟩⟩
  all_goals first|exact zq F|rfl|omega|trivial|skip
 rintro _ s2 h' ⟨k,w,acc,j,rfl,rfl,e5,e10,hk,hac,haz,hq⟩ K2 hK2
 simp only[ai,ap,Nat.reduceEqDiff, ↓reduceIte]at e5 e10
 have F:=F3 F e5 e10
 refine wk F ?_
 refine cq F (fun c1=>?_) (fun c1=>?_)<;>(try exact c1.elim)<;>(refine wk F ?_)
 ·have c2:k<l.length:=by omega
  obtain⟨x,hx,hxm⟩:=af c2
  rw[aA hx,Qy.oncF]at hq
  have hc:∀j,Sat (CT G) 71 [.hs (h.length+1) w 0 acc.length true,.fn (.func 187) [] [.hp h.length 0 0 0,.hp (h.length+(j.length+2)) 0 0 0]] (h++(.row 175 1 0 [fnS]:: .row 25 4 w (acc.map Qy.av)::(j++[.row 25 4 0 [x.av]])))
    (fun r h'=>r=.bool (acc.any fun y=>x.sam y 1)∧h'=h++(.row 175 1 0 [fnS]:: .row 25 4 w (acc.map Qy.av)::(j++[.row 25 4 0 [x.av]]))):=fun j=>
   uC G (fun y=>x.sam y 1) _ _ acc (by omega) _ _ _ (by rw[aK _ rfl];simp[getRow]) fun a ha=>si G x a (hz x hxm) (haz a ha) _ _ _ (by rw[aI _ rfl];rfl) (by
    rw[aK _ rfl]
    show getRow ((Blk.row _ _ _ _::Blk.row _ _ _ _::j)++[_]) _ _=_
    rw[aI _ (by simp)];rfl)
  have hx0:=hz x hxm
  have hxl:∀b (j:Heap) (u:Nat),getRow (h++(.row 175 1 0 [fnS]:: .row 25 4 w (acc.map Qy.av)::(j++[b]))) (h.length+(j.length+2)) u=getRow [b] 0 u:=fun b j u=>by
   rw[aK _ rfl]
   show getRow ((Blk.row _ _ _ _::Blk.row _ _ _ _::j)++[_]) _ _=_
   rw[aI _ (by simp)]
  generalize (acc.any fun y=>x.sam y 1)=b at*
  have hax:(acc++[x]).map Qy.av=acc.map Qy.av++[x.av]:=by simp
  have haz2:∀a∈acc++[x],a.sz≤100000:=fun a ha=>by
   rcases List.mem_append.1 ha with ha|ha
   ·exact haz a ha
   ·rw[List.mem_singleton]at ha;subst ha;exact hx0
  obtain⟨xo,xn,xs,xk⟩:=x
  simp only[Qy.av_eq]at hc hax
  cases b
  ·simp only[Bool.false_eq_true, ↓reduceIte]at hq
   have F:=F4 F hx c2 hxl
   try refine sq F ?_
   refine wk F ?_
   refine kq F (hc _) ?_
   refine aq F ?_
   try refine sq F ?_
   refine wk F ?_
   refine hK2 _ _ _ (Wkn.refl ⟨k+1,w+1,acc++[.mk xo xn xs xk],j++[.row 25 4 0 [.agg [.int .i64 xo,.int .i64 xn,.str xs,.sl 4 (xk.map Qy.av)]]],rfl,by rw[hax],?_,?_,by omega,by simp;omega,haz2,hq⟩) (by omega)
   all_goals first|exact zq F|rfl|omega|trivial|skip
  ·simp only[↓reduceIte]at hq
   have F:=F4 F hx c2 hxl
   try refine sq F ?_
   refine wk F ?_
   refine kq F (hc _) ?_
   refine hK2 _ _ _ (Wkn.refl ⟨k+1,w,acc,j++[.row 25 4 0 [.agg [.int .i64 xo,.int .i64 xn,.str xs,.sl 4 (xk.map Qy.av)]]],rfl,aC,?_,?_,by omega,by omega,haz,hq⟩) (by omega)
   all_goals first|exact zq F|rfl|omega|trivial|skip
 ·rw[aB c1,Qy.oncF]at hq
  refine ee hQ F ?_
  refine Fin.frz (xU (by simp) (by rw[aK _ rfl];simp[getRow]) rfl) ⟨by rw[hq],rfl⟩
end Go.Av
namespace Go.Av
open Go Go.Proofs Go.RowKit
attribute [local irreducible] WP WPl WPix Sat
theorem eX(h:Heap)(N:Nat)(o n:Int)(s:Bs):Frz h N (.agg [.int .i64 o,.int .i64 n,.str s,.nil (.slice none 0 0)]) (Qy.lf o n s).av:=by
 show Frz h N _ (Qy.mk o n s []).av
 rw[Qy.av_eq]
 refine .agg _ _ rfl (fun d hd=>?_) fun i c d hc hd=>?_
 ·simp only[List.mem_cons,List.not_mem_nil,or_false]at hd
  rcases hd with rfl|rfl|rfl|rfl<;>rfl
 ·match i with
  |0=>simp at hc hd;subst hc;subst hd;exact .clo _ (.int _ _)
  |1=>simp at hc hd;subst hc;subst hd;exact .clo _ (.int _ _)
  |2=>simp at hc hd;subst hc;subst hd;exact .clo _ (.str _)
  |3=>simp at hc hd;subst hc;subst hd;exact .nils 4
  |i+4=>simp at hc
variable (G:Nat→Option (List AVal))
theorem sk(k x:Qy)(h5:Qy.p5 k=true)(hk:k.sz≤90000)(hx:x.sz≤90000)(H:Heap)(px:Nat)(hg:getRow H px 0=some (25,4,[k.av])):
  Sat (CT G) 142 ([]++[x.av]++[.hp px 0 0 0]) H (fun r h'=>r=.bool (x.sam k.opp 1)∧h'=H):=by
 have hoz:k.opp.sz≤100000:=by
  unfold Qy.opp
  split
  ·have:=Qy.sz_kds k
   match hkk:k.kds,this with
   | [],_=>show(Qy.mk _ _ _ _).sz≤_;rw[Qy.sz,Qy.szL];simp
   |a::l,this=>rw[Qy.szL]at this;show a.sz≤_;omega
  ·show(Qy.mk _ _ _ [k]).sz≤_
   rw[Qy.sz,Qy.szL,Qy.szL];simp;omega
 have hs:=fun h=>kF G x k.opp (by omega) hoz h
 have ho:=fun h=>nZ G k h5 h
 have l1:=bu hg
 generalize x.sam k.opp 1=v at*
 generalize k.opp=k2 at*
 obtain⟨xo,xn,xs,xk⟩:=x
 obtain⟨ko,kn,ks,kk⟩:=k
 obtain⟨zo,zn,zs,zk⟩:=k2
 simp only[Qy.av_eq]at hs ho hg ⊢
 have F:=F3 hg l1 @aw
 refine sb [.tmp 3] (fn:=Tryz.f142) Tryz.func142 ?_
 intro Q hQ
 refine wk F ?_
 refine aV (ho _) ?_
 try refine sq F ?_
 refine wk F ?_
 refine aV (hs _) ?_
 try refine sq F ?_
 refine wk F ?_
 refine ee hQ F ?_
 exact Fin.plain (.bool _) ⟨rfl,rfl⟩
theorem DI{u:List Qy}{p:Qy→Bool}{i:Nat}(hi:u.length≤i)(h:∀a∈u.take i,p a=false):u.any p=false:=by
 rw[List.any_eq_false]
 intro a ha
 rw[h a (by rwa [List.take_of_length_le hi])];simp
theorem DK{u:List Qy}{p:Qy→Bool}{x:Qy}(hx:x∈u)(h:p x=true):u.any p=true:=List.any_eq_true.2 ⟨x,hx,h⟩
theorem wj{o:Int}{u:List Qy}(h:u.any (Qy.hasO u)=false):(u=[]→Qy.endF o u=Qy.lf (Qy.neu o) 0 [])∧(∀a,u=[a]→Qy.endF o u=a)∧(2≤u.length→Qy.endF o u=.mk o 0 [] u):=by
 unfold Qy.endF
 rw[if_neg (by rw[h];simp)]
 match u with
 | []=>exact⟨fun _=>rfl,fun a e=>by simp at e,fun e=>by simp at e⟩
 | [x]=>exact⟨fun e=>by simp at e,fun a e=>by cases e;rfl,fun e=>by simp at e⟩
 |x::y::r=>exact⟨fun e=>by simp at e,fun a e=>by simp at e,fun _=>rfl⟩
theorem sm(o:Int)(ho:o=3∨o=4)(l:List Qy)(hz:Qy.szL l≤40000)(h5:∀k∈l,k.all Qy.p5=true)(h:Heap)(c w0:Nat)(hr:getRow h c w0=some (25,4,l.map Qy.av)):
  Sat (CT G) 89 [.int .i64 o,.hs c w0 0 l.length true] h (fun r h'=>r=(Qy.joiF o l).av∧h'=h):=by
 have hcl:=bu hr
 have hrl:∀j,getRow (h++j) c w0=some (25,4,l.map Qy.av):=fun j=>by rw[bm _ hcl,hr]
 have hll:=Qy.szL_len l
 have hcase:((o==4)=false∧Qy.neu o=1∧Qy.oth (Qy.neu o)=2)∨((o==4)=true∧Qy.neu o=2∧Qy.oth (Qy.neu o)=1):=by
  rcases ho with rfl|rfl
  ·exact .inl ⟨rfl,rfl,rfl⟩
  ·exact .inr ⟨rfl,rfl,rfl⟩
 have hOt:=fun h=>gp G (Qy.neu o) h
 rcases hcase with⟨b4,hn,hw⟩| ⟨b4,hn,hw⟩
 all_goals (
  simp only[hw]at hOt
  simp only[hn]at hOt
  have F:=F4 b4 hcl hrl @aw
  refine sb [.cell 4 25] (fn:=Tryz.f89) Tryz.func89 ?_
  intro Q hQ
  refine wk F ?_
  refine lm (fun nL tL hL=>∃(k w:Nat) (acc:List Qy) (j:Heap),l.length-k=nL∧h++(.row 25 4 0 [qZ 0]:: .row 25 4 w (acc.map Qy.av)::j)=hL∧tL 6=.hs (h.length+1) w 0 acc.length true∧tL 15=.int .i64 k∧k≤l.length∧Qy.szL acc+Qy.szL (l.drop k)≤40000∧Qy.flF o (Qy.neu o) acc (l.drop k)=Qy.flF o (Qy.neu o) [] l) ((fun(k w:Nat) (acc:List Qy) (j:Heap)=>(l.length-k:Nat)) (0) (0) ([]) ([])) ?_ ?_
  ·refine⟨_,_,Weak.virt 6 25 4 (by simp) (by omega) (by exact zq F),⟨0,0,[],[],rfl,aC,?_,?_,by omega,by simp[Qy.szL];omega,rfl⟩⟩
   all_goals first|exact zq F|rfl|omega|trivial|skip
  rintro _ s1 h' ⟨k,w,acc,j,rfl,rfl,e6,e15,hk,hz2,hq⟩ K1 hK1
  simp only[ai,ap,Nat.reduceEqDiff, ↓reduceIte]at e6 e15
  have F:=F3 F e6 e15
  refine wk F ?_
  refine cq F (fun c1=>?_) (fun c1=>?_)<;>(try exact c1.elim)<;>(refine wk F ?_)
  ·have c2:k<l.length:=by omega
   obtain⟨x,hx,hxm⟩:=af c2
   have hal:=Qy.szL_len acc
   rw[aA hx]at hq hz2
   rw[Qy.szL]at hz2
   have hxk:=Qy.sz_kds x
   have hxl:=Qy.szL_len x.kds
   have hrx:∀b (j:Heap) (u:Nat),getRow (h++(.row 25 4 0 [qZ 0]:: .row 25 4 w (acc.map Qy.av)::(j++[b]))) (h.length+(j.length+2)) u=getRow [b] 0 u:=fun b j u=>by
    rw[aK _ rfl]
    show getRow ((Blk.row _ _ _ _::Blk.row _ _ _ _::j)++[_]) _ _=_
    rw[aI _ (by simp)]
   obtain⟨xo,xn,xs,xk⟩:=x
   change 1+Qy.szL xk≤_ at hxk
   change xk.length≤Qy.szL xk at hxl
   have hxm2:(xk.map Qy.av).length=xk.length:=List.length_map ..
   have ham2:(acc.map Qy.av).length=acc.length:=List.length_map ..
   by_cases k1:xo=o
   ·have b1:(xo==o)=true:=by simpa using k1
    rw[Qy.flF,if_pos (show(Qy.mk xo xn xs xk).op=o from k1)]at hq
    have hax:(acc++xk).map Qy.av=acc.map Qy.av++xk.map Qy.av:=by simp
    have hap:(acc++xk).length=acc.length+xk.length:=by simp
    have F:=F8 F hx c2 hrx b1 hxm2 ham2 hap
    try refine sq F ?_
    refine wk F ?_
    refine aq F ?_
    try refine sq F ?_
    refine wk F ?_
    refine hK1 _ _ _ (Wkn.refl ⟨k+1,w+1,acc++xk,j++[.row 25 4 0 [.agg [.int .i64 xo,.int .i64 xn,.str xs,.sl 4 (xk.map Qy.av)]]],rfl,by rw[hax],?_,?_,by omega,by rw[Qy.szL_app];omega,hq⟩) (by omega)
    all_goals first|exact zq F|rfl|omega|trivial|skip
   ·have b1:(xo==o)=false:=by simpa using k1
    rw[Qy.flF,if_neg (show ¬(Qy.mk xo xn xs xk).op=o from k1)]at hq
    by_cases k2:xo=Qy.neu o
    ·have b2:(xo==Qy.neu o)=true:=by simpa using k2
     rw[if_pos (show(Qy.mk xo xn xs xk).op=Qy.neu o from k2)]at hq
     rw[hn]at b2
     have F:=F6 F hx c2 hrx b1 b2
     try refine sq F ?_
     refine wk F ?_
     refine hK1 _ _ _ (Wkn.refl ⟨k+1,w,acc,j++[.row 25 4 0 [.agg [.int .i64 xo,.int .i64 xn,.str xs,.sl 4 (xk.map Qy.av)]]],rfl,aC,?_,?_,by omega,by omega,hq⟩) (by omega)
     all_goals first|exact zq F|rfl|omega|trivial|skip
    ·have b2:(xo==Qy.neu o)=false:=by simpa using k2
     rw[if_neg (show ¬(Qy.mk xo xn xs xk).op=Qy.neu o from k2)]at hq
     rw[hn]at b2
     by_cases k3:xo=Qy.oth (Qy.neu o)
     ·have b3:(xo==Qy.oth (Qy.neu o))=true:=by simpa using k3
      rw[if_pos (show(Qy.mk xo xn xs xk).op=Qy.oth (Qy.neu o)from k3)]at hq
      rw[hw]at b3
      have F:=F7 F hx c2 hrx b1 b2 b3
      try refine sq F ?_
      refine wk F ?_
      refine kq F (hOt _) ?_
      refine ye hQ F ?_
      refine Fin.frz (eX _ _ _ _ _) ⟨?_,rfl⟩
      unfold Qy.joiF
      rw[← hq, ← k3]
     ·have b3:(xo==Qy.oth (Qy.neu o))=false:=by simpa using k3
      rw[if_neg (show ¬(Qy.mk xo xn xs xk).op=Qy.oth (Qy.neu o)from k3)]at hq
      rw[hw]at b3
      have hax:(acc++[Qy.mk xo xn xs xk]).map Qy.av=acc.map Qy.av++[.agg [.int .i64 xo,.int .i64 xn,.str xs,.sl 4 (xk.map Qy.av)]]:=by simp[Qy.av_eq]
      have F:=F8 F hx c2 hrx b1 b2 b3 ham2
      try refine sq F ?_
      refine wk F ?_
      refine kq F (hOt _) ?_
      refine aq F ?_
      try refine sq F ?_
      refine wk F ?_
      refine hK1 _ _ _ (Wkn.refl ⟨k+1,w+1,acc++[.mk xo xn xs xk],j++[.row 25 4 0 [.agg [.int .i64 xo,.int .i64 xn,.str xs,.sl 4 (xk.map Qy.av)]]],rfl,by rw[hax],?_,?_,by omega,by rw[Qy.szL_app,Qy.szL,Qy.szL];omega,hq⟩) (by omega)
      all_goals first|exact zq F|rfl|omega|trivial|skip
  ·rw[aB c1,Qy.flF]at hq
   rw[aB c1,Qy.szL]at hz2
   have hal:=Qy.szL_len acc
   have hos:=Qy.oncF_sz acc []
   rw[Qy.szL]at hos
   have ham:∀k∈acc,k.sz≤Qy.szL acc:=fun k hk=>Qy.szL_mem hk
   have hON:=sj G acc (fun k hk=>by have:=ham k hk;omega) (by omega) (h++(.row 25 4 0 [qZ 0]:: .row 25 4 w (acc.map Qy.av)::j)) (h.length+1) w (by rw[aK _ rfl];simp[getRow])
   have hu5:∀k∈Qy.oncF [] acc,k.all Qy.p5=true:=fun k hk=>by
    rcases(Qy.oncF_mem _ _ _).1 hk with hk|hk
    ·cases hk
    ·rcases Qy.flF_mem _ _ _ hq.symm k hk with hk| ⟨y,hy,⟨_,hk⟩|rfl⟩
     ·cases hk
     ·exact(Qy.all_kds (h5 y hy)).1 k hk
     ·exact h5 k hy
   have hE:Qy.joiF o l=Qy.endF o (Qy.oncF [] acc):=by unfold Qy.joiF;rw[← hq]
   generalize Qy.oncF [] acc=u at*
   have hul:=Qy.szL_len u
   have hum:∀k∈u,k.sz≤Qy.szL u:=fun k hk=>Qy.szL_mem hk
   have hul2:(u.map Qy.av).length=u.length:=List.length_map ..
   have F:=F2 F hul2
   refine kq F (hON) ?_
   refine lm (fun nL tL hL=>∃(i:Nat) (j2:Heap),u.length-i=nL∧h++(.row 25 4 0 [qZ 0]:: .row 25 4 w (acc.map Qy.av)::j2)=hL∧tL 47=.int .i64 i∧i≤u.length∧(∀a∈u.take i,Qy.hasO u a=false)) ((fun(i:Nat) (j2:Heap)=>(u.length-i:Nat)) (0) (j)) ?_ ?_
   ·refine Wkn.refl ⟨0,j,rfl,aC,?_,by omega,by simp⟩
    all_goals first|exact zq F|rfl|omega|trivial|skip
   rintro _ s3 h' ⟨i,j2,rfl,rfl,e47,hi,hno⟩ K3 hK3
   simp only[ai,ap,Nat.reduceEqDiff, ↓reduceIte]at e47
   have F:=F2 F e47
   refine wk F ?_
   refine cq F (fun d1=>?_) (fun d1=>?_)<;>(try exact d1.elim)<;>(refine wk F ?_)
   ·have d2:i<u.length:=by omega
    obtain⟨x,hx,hxm⟩:=af d2
    have hrx:∀b (j:Heap) (u:Nat),getRow (h++(.row 25 4 0 [qZ 0]:: .row 25 4 w (acc.map Qy.av)::(j++[b]))) (h.length+(j.length+2)) u=getRow [b] 0 u:=fun b j u=>by
     rw[aK _ rfl]
     show getRow ((Blk.row _ _ _ _::Blk.row _ _ _ _::j)++[_]) _ _=_
     rw[aI _ (by simp)]
    by_cases hl2:x.kds.length<2
    ·have hA:=fun H (hg:getRow H (h.length+(j2.length+2)) 0=some (25,4,[x.av]))=>lC G (fun y=>y.sam x.opp 1) 142 [.hp (h.length+(j2.length+2)) 0 0 0] H u (by omega) fun a ha=>sk G x a (Qy.all_kds (hu5 x hxm)).2 (by have:=hum x hxm;omega) (by have:=hum a ha;omega) H _ hg
     have hho:Qy.hasO u x=u.any fun y=>y.sam x.opp 1:=by unfold Qy.hasO;rw[decide_eq_true hl2,Bool.true_and]
     have hA:=hA (h++(.row 25 4 0 [qZ 0]:: .row 25 4 w (acc.map Qy.av)::(j2++[.row 25 4 0 [x.av]]))) (by rw[hrx];rfl)
     have hnx:=fun(hb:Qy.hasO u x=false)=>eo hx hb hno
     rw[← hho]at hA
     cases hb:Qy.hasO u x with
     |true=>
      have he:Qy.endF o u=Qy.lf (Qy.oth (Qy.neu o)) 0 []:=by unfold Qy.endF;rw[if_pos (DK hxm hb)]
      rw[hb]at hA
      clear hho hnx hb
      obtain⟨xo,xn,xs,xk⟩:=x
      change xk.length<2 at hl2
      have hl3:(xk.map Qy.av).length=xk.length:=List.length_map ..
      have hl4:decide ((xk.length:Int)<2)=true:=by simp;omega
      simp only[Qy.av_eq]at hA
      have F:=F6 F hx d2 hrx hl3 hl4
      try refine sq F ?_
      refine wk F ?_
      refine kq F (hA) ?_
      refine kq F (hOt _) ?_
      refine ye hQ F ?_
      exact Fin.frz (eX _ _ _ _ _) ⟨by rw[hE,he,hw],rfl⟩
     |false=>
      have hno2:=hnx hb
      rw[hb]at hA
      clear hho hnx hb
      obtain⟨xo,xn,xs,xk⟩:=x
      change xk.length<2 at hl2
      have hl3:(xk.map Qy.av).length=xk.length:=List.length_map ..
      have hl4:decide ((xk.length:Int)<2)=true:=by simp;omega
      simp only[Qy.av_eq]at hA
      have F:=F6 F hx d2 hrx hl3 hl4
      try refine sq F ?_
      refine wk F ?_
      refine kq F (hA) ?_
      refine hK3 _ _ _ (Wkn.refl ⟨i+1,j2++[.row 25 4 0 [.agg [.int .i64 xo,.int .i64 xn,.str xs,.sl 4 (xk.map Qy.av)]]],rfl,aC,?_,by omega,hno2⟩) (by omega)
      all_goals first|exact zq F|rfl|omega|trivial|skip
    ·have hno2:=eo hx (show Qy.hasO u x=false by unfold Qy.hasO;rw[decide_eq_false hl2,Bool.false_and]) hno
     obtain⟨xo,xn,xs,xk⟩:=x
     change ¬xk.length<2 at hl2
     have hl3:(xk.map Qy.av).length=xk.length:=List.length_map ..
     have hl4:decide ((xk.length:Int)<2)=false:=by simp;omega
     have F:=F6 F hx d2 hrx hl3 hl4
     try refine sq F ?_
     refine wk F ?_
     refine hK3 _ _ _ (Wkn.refl ⟨i+1,j2++[.row 25 4 0 [.agg [.int .i64 xo,.int .i64 xn,.str xs,.sl 4 (xk.map Qy.av)]]],rfl,aC,?_,by omega,hno2⟩) (by omega)
     all_goals first|exact zq F|rfl|omega|trivial|skip
   ·have hna:=DI (by omega) hno
    obtain⟨n0,n1,n2⟩:=wj (o:=o) hna
    by_cases v0:u.length=0
    ·obtain rfl:u=[]:=List.length_eq_zero_iff.1 v0
     have b0:((([]:List Qy).length:Int)==0)=true:=rfl
     have F:=F2 F b0
     try refine sq F ?_
     refine wk F ?_
     refine ye hQ F ?_
     exact Fin.frz (eX _ _ _ _ _) ⟨by rw[hE,n0 rfl,hn],rfl⟩
    ·have b0:((u.length:Int)==0)=false:=by rw[beq_eq_false_iff_ne];omega
     by_cases v1:u.length=1
     ·have b1:((u.length:Int)==1)=true:=by rw[v1];rfl
      obtain⟨a,ha⟩:∃a,u=[a]:=List.length_eq_one_iff.1 v1
      have hu0:u[0]? =some a:=by rw[ha];rfl
      have hq1:Qy.joiF o l=a:=hE.trans (n1 a ha)
      have hca:=fun N=>Qy.clo N a
      clear n0 n1 n2 hE ha
      obtain⟨ao,an,ax,ak⟩:=a
      simp only[Qy.av_eq]at hca
      have F:=F4 F b0 b1 hu0
      try refine sq F ?_
      refine wk F ?_
      refine ye hQ F ?_
      exact Fin.plain (hca _) ⟨by rw[hq1,Qy.av_eq],rfl⟩
     ·have b1:((u.length:Int)==1)=false:=by rw[beq_eq_false_iff_ne];omega
      have hq2:Qy.joiF o l=.mk o 0 [] u:=hE.trans (n2 (by omega))
      have hca:=fun N=>Qy.clo N (.mk o 0 [] u)
      simp only[Qy.av_eq]at hca
      have F:=F3 F b0 b1
      try refine sq F ?_
      refine wk F ?_
      refine ye hQ F ?_
      exact Fin.plain (hca _) ⟨by rw[hq2,Qy.av_eq],rfl⟩)
end Go.Av
namespace Go.Av
open Go Go.Proofs Go.RowKit
attribute [local irreducible] WP WPl WPix Sat
theorem mi{q:Qy}(h:pnF q=true):Qy.p5 q=true:=by
 obtain⟨o,n,s,ks⟩:=q
 by_cases ho:o=5
 ·subst ho
  have h1:(decide (1≤(5:Int))&&decide ((5:Int)≤15)&&nuF 5 n&&txG 5 s&&kdG 5 ks.length)=true:=h
  rw[Bool.and_eq_true]at h1
  have h2:=h1.2
  unfold kdG at h2
  rw[if_neg (by decide),if_pos rfl]at h2
  have h3:ks.length=1:=of_decide_eq_true h2
  show(decide ((5:Int)≠5)||decide (ks.length=1))=true
  rw[h3];rfl
 ·show(decide (o≠5)||_)=true
  rw[decide_eq_true ho];rfl
theorem mj{p r:Qy→Bool}(hpr:∀q,p q=true→r q=true):∀q:Qy,q.all p=true→q.all r=true:=by
 refine Qy.ind fun o n s ks ih h=>?_
 obtain⟨h1,h2⟩:=Qy.all_mk.1 h
 exact Qy.all_mk.2 ⟨fun k hk=>ih k hk (h1 k hk),hpr _ h2⟩
theorem o0(b:Bool):∀ks:List Qy,Qy.szL (ks.map fun k=>Qy.nrm k b)≤2*Qy.szL ks
 | []=>by rw[List.map_nil,Qy.szL];omega
 |k::ks=>by
  rw[List.map_cons,Qy.szL,Qy.szL]
  have:=o0 b ks
  have:=Qy.nrm_sz k b
  omega
variable (G:Nat→Option (List AVal))
theorem wl(q:Qy)(hz:q.sz≤20000)(h5:q.all Qy.p5=true):∀(b:Bool) (h:Heap),Sat (CT G) 48 [q.av,.bool b] h (fun r h'=>r=(q.nrm b).av∧h'=h):=by
 revert hz h5
 induction q using Qy.ind with
 |h o n s ks ih=>
 intro hz h5 b h
 have hkl:=Qy.szL_len ks
 have hkm:∀k∈ks,k.sz≤Qy.szL ks:=fun k hk=>Qy.szL_mem hk
 rw[Qy.sz]at hz
 obtain⟨hk5,hp5⟩:=Qy.all_mk.1 h5
 have ihk:=fun k hk=>ih k hk (by have:=hkm k hk;omega) (hk5 k hk)
 have hkm2:(ks.map Qy.av).length=ks.length:=List.length_map ..
 by_cases o5:o=5
 ·have hl1:ks.length=1:=by
   have h6:(decide (o≠5)||decide (ks.length=1))=true:=hp5
   rw[o5]at h6
   exact of_decide_eq_true h6
  obtain⟨k,rfl⟩:∃k,ks=[k]:=List.length_eq_one_iff.1 hl1
  have e:(Qy.mk o n s [k]).nrm b=k.nrm (!b):=by rw[Qy.nrm,if_pos o5,Qy.nrmH]
  have hc:=ihk k (by simp) (!b)
  have hcl:=fun N=>Qy.clo N (k.nrm (!b))
  rw[e]
  generalize k.nrm (!b)=v at*
  obtain⟨vo,vn,vs,vk⟩:=v
  obtain⟨ko,kn,kx,kk⟩:=k
  subst o5
  simp only[Qy.av_eq,List.map_cons,List.map_nil]at hc hcl ⊢
  refine sb [.cell 4 25] (fn:=Tryz.f48) Tryz.func48 ?_
  intro Q hQ
  refine wk trivial ?_
  refine kq trivial (hc _) ?_
  refine ye hQ trivial ?_
  exact Fin.plain (hcl _) ⟨rfl,rfl⟩
 have b5:(o==5)=false:=by simpa using o5
 by_cases o34:o=3∨o=4
 ·have e:(Qy.mk o n s ks).nrm b=Qy.joiF (if b then Qy.oth o else o) (ks.map fun k=>k.nrm b):=by rw[Qy.nrm,if_neg o5,if_pos o34,Qy.nrmL_eq]
  rw[e]
  have hnl:=o0 b ks
  have hn5:∀k∈ks.map (fun k=>Qy.nrm k b),k.all Qy.p5=true:=fun k hk=>by
   obtain⟨y,hy,rfl⟩:=List.mem_map.1 hk
   exact Qy.nrm_p5 y (hk5 y hy) b
  have hJ:=fun H c w hr=>sm G (if b then Qy.oth o else o) (Qy.othA o34 b) (ks.map fun k=>k.nrm b) (by omega) hn5 H c w hr
  have hcl:=fun N=>Qy.clo N (Qy.joiF (if b then Qy.oth o else o) (ks.map fun k=>k.nrm b))
  have hOt:=fun h=>gp G o h
  have hlm:(ks.map fun k=>k.nrm b).length=ks.length:=List.length_map ..
  rw[hlm]at hJ
  generalize Qy.joiF (if b then Qy.oth o else o) (ks.map fun k=>k.nrm b)=v at*
  obtain⟨vo,vn,vs,vk⟩:=v
  simp only[Qy.av_eq]at hJ hcl ⊢
  have hb34:(o==3)=true∨((o==3)=false∧(o==4)=true):=by
   rcases o34 with rfl|rfl
   ·exact .inl rfl
   ·exact .inr ⟨rfl,rfl⟩
  rcases hb34 with ht|ht
  all_goals (
   have F:=F4 b5 ht hkm2 @aw
   refine sb [.cell 4 25] (fn:=Tryz.f48) Tryz.func48 ?_
   intro Q hQ
   refine wk F ?_
   refine lm (fun nL tL hL=>∃(k w:Nat) (acc:List Qy) (j:Heap),ks.length-k=nL∧h++(.row 25 4 0 [.agg [.int .i64 o,.int .i64 n,.str s,.sl 4 (ks.map Qy.av)]]:: .row 25 4 0 [qZ 0]:: .row 25 4 w (acc.map Qy.av)::j)=hL∧tL 5=.hs (h.length+2) w 0 acc.length true∧tL 25=.int .i64 k∧k≤ks.length∧acc.length=k∧acc++(ks.drop k).map (fun k=>k.nrm b)=ks.map fun k=>k.nrm b) ((fun(k w:Nat) (acc:List Qy) (j:Heap)=>(ks.length-k:Nat)) (0) (0) ([]) ([])) ?_ ?_
   ·refine⟨_,_,Weak.virt 5 25 4 (by simp) (by omega) (by exact zq F),⟨0,0,[],[],rfl,aC,?_,?_,by omega,rfl,by simp⟩⟩
    all_goals first|exact zq F|rfl|omega|trivial|skip
   rintro _ s1 h' ⟨k,w,acc,j,rfl,rfl,e5,e25,hk,hac,hq⟩ K1 hK1
   simp only[ai,ap,Nat.reduceEqDiff, ↓reduceIte]at e5 e25
   have F:=F3 F e5 e25
   refine wk F ?_
   refine cq F (fun c1=>?_) (fun c1=>?_)<;>(try exact c1.elim)<;>(refine wk F ?_)
   ·have c2:k<ks.length:=by omega
    obtain⟨x,hx,hxm⟩:=af c2
    rw[aA hx,List.map_cons]at hq
    have hc:=ihk x hxm b
    have hcx:=fun N=>Qy.clo N (x.nrm b)
    have hq2:(acc++[x.nrm b])++(ks.drop (k+1)).map (fun k=>k.nrm b)=ks.map fun k=>k.nrm b:=by rw[List.append_assoc];exact hq
    have hrx:∀a1 a2 a3 b (j:Heap) (u:Nat),getRow (h++(a1::a2::a3::(j++[b]))) (h.length+(j.length+3)) u=getRow [b] 0 u:=fun a1 a2 a3 b j u=>by
     rw[aK _ rfl]
     show getRow ((a1::a2::a3::j)++[_]) _ _=_
     rw[aI _ (by simp)]
    have hax:(acc++[x.nrm b]).map Qy.av=acc.map Qy.av++[(x.nrm b).av]:=by simp
    have ham2:(acc.map Qy.av).length=acc.length:=List.length_map ..
    generalize x.nrm b=v at*
    obtain⟨xo,xn,xs,xk⟩:=x
    obtain⟨zo,zn,zs,zk⟩:=v
    simp only[Qy.av_eq]at hc hcx hax
    have F:=F5 F hx c2 hrx ham2
    try refine sq F ?_
    refine wk F ?_
    refine kq F (hc _) ?_
    refine aq F ?_
    try refine sq F ?_
    refine wk F ?_
    refine hK1 _ _ _ (Wkn.refl ⟨k+1,w+1,acc++[.mk zo zn zs zk],j++[.row 25 4 0 [.agg [.int .i64 xo,.int .i64 xn,.str xs,.sl 4 (xk.map Qy.av)]]],rfl,by rw[hax],?_,?_,by omega,by simp;omega,hq2⟩) (by omega)
    all_goals first|exact zq F|rfl|omega|trivial|skip
   ·rw[aB c1,List.map_nil,List.append_nil]at hq
    have hal:acc.length=ks.length:=by rw[hq,List.length_map]
    have hJ2:=hJ (h++(.row 25 4 0 [.agg [.int .i64 o,.int .i64 n,.str s,.sl 4 (ks.map Qy.av)]]:: .row 25 4 0 [qZ 0]:: .row 25 4 w (acc.map Qy.av)::j)) (h.length+2) w (by rw[aK _ rfl,hq];simp[getRow])
    clear hJ
    cases b
    ·simp only[Bool.false_eq_true, ↓reduceIte]at hJ2
     have F:=F2 F hal
     try refine sq F ?_
     refine wk F ?_
     refine kq F (hJ2) ?_
     refine ye hQ F ?_
     exact Fin.plain (hcl _) ⟨rfl,rfl⟩
    ·simp only[↓reduceIte]at hJ2
     have F:=F2 F hal
     try refine sq F ?_
     refine wk F ?_
     refine kq F (hOt _) ?_
     refine kq F (hJ2) ?_
     refine ye hQ F ?_
     exact Fin.plain (hcl _) ⟨rfl,rfl⟩)
 have o3:(o==3)=false:=by rw[beq_eq_false_iff_ne];exact fun e=>o34 (.inl e)
 have o4:(o==4)=false:=by rw[beq_eq_false_iff_ne];exact fun e=>o34 (.inr e)
 cases b
 ·have e:(Qy.mk o n s ks).nrm false=Qy.lf o n s:=by rw[Qy.nrm,if_neg o5,if_neg o34,if_pos rfl]
  rw[e,Qy.av_eq]
  have F:=F3 b5 o3 o4
  refine sb [.cell 4 25] (fn:=Tryz.f48) Tryz.func48 ?_
  intro Q hQ
  refine wk F ?_
  refine ye hQ F ?_
  exact Fin.frz (eX _ _ _ _ _) ⟨rfl,rfl⟩
 ·have e:(Qy.mk o n s ks).nrm true=if o=1∨o=2 then Qy.lf (Qy.oth o) 0 []else(Qy.lf o n s).opp:=by rw[Qy.nrm,if_neg o5,if_neg o34,if_neg (by simp)]
  have hOt:=fun h=>gp G o h
  rw[e,Qy.av_eq]
  by_cases h1:o=1
  ·subst h1
   rw[if_pos (.inl rfl)]
   have F:=F3 b5 o3 o4
   refine sb [.cell 4 25] (fn:=Tryz.f48) Tryz.func48 ?_
   intro Q hQ
   refine wk F ?_
   refine kq F (hOt _) ?_
   refine ye hQ F ?_
   exact Fin.frz (eX _ _ _ _ _) ⟨rfl,rfl⟩
  by_cases h2:o=2
  ·subst h2
   rw[if_pos (.inr rfl)]
   have F:=F3 b5 o3 o4
   refine sb [.cell 4 25] (fn:=Tryz.f48) Tryz.func48 ?_
   intro Q hQ
   refine wk F ?_
   refine kq F (hOt _) ?_
   refine ye hQ F ?_
   exact Fin.frz (eX _ _ _ _ _) ⟨rfl,rfl⟩
  have b1:(o==1)=false:=by simpa using h1
  have b2:(o==2)=false:=by simpa using h2
  rw[if_neg (by simp[h1,h2])]
  have hO:=fun h=>Sat.wk (xs:=[.agg [.int .i64 o,.int .i64 n,.str s,.nil (.slice none 0 0)]]) (ys:=[(Qy.mk o n s []).av]) rfl (fun i x y hx hy=>by
   match i with
   |0=>simp at hx hy;subst hx;subst hy;exact gP o n s
   |i+1=>simp at hx) (nZ G (Qy.lf o n s) (by
    show(decide (o≠5)||_)=true
    rw[decide_eq_true o5];rfl) h)
  have hcl:=fun N=>Qy.clo N (Qy.lf o n s).opp
  generalize (Qy.lf o n s).opp=v at*
  obtain⟨vo,vn,vs,vk⟩:=v
  simp only[Qy.av_eq]at hO hcl ⊢
  have F:=F5 b5 o3 o4 b1 b2
  refine sb [.cell 4 25] (fn:=Tryz.f48) Tryz.func48 ?_
  intro Q hQ
  refine wk F ?_
  refine kq F (hO _) ?_
  refine ye hQ F ?_
  exact Fin.plain (hcl _) ⟨rfl,rfl⟩
theorem uD(q:Qy)(hq:q.Fit)(hok:q.ok=true)(h:Heap):Sat (CT G) 24 [q.av] h (fun r h'=>r=.tup [(q.nrm false).av,.int .i64 0]∧h'=h):=by
 have hC:=fun h=>cF G q h hq.1 hq.2
 rw[hok]at hC
 have hok':=hok
 unfold Qy.ok at hok'
 simp only[Bool.and_eq_true,decide_eq_true_eq]at hok'
 have hN:=fun h=>wl G q (hq.2 hok'.1) (mj (fun _=>mi) q hok'.2.2) false h
 have hcl:=fun N=>Qy.clo N (q.nrm false)
 clear hok hok' hq
 generalize q.nrm false=v at*
 obtain⟨vo,vn,vs,vk⟩:=v
 obtain⟨qo,qn,qs,qk⟩:=q
 simp only[Qy.av_eq,if_true]at hC hN hcl ⊢
 refine sb [.cell 2 25,.tmp 3] (fn:=Tryz.f24) Tryz.func24 ?_
 intro Q hQ
 refine wk trivial ?_
 refine kq trivial (hC _) ?_
 refine kq trivial (hN _) ?_
 refine ye hQ trivial ?_
 exact Fin.plain (.tup _ fun y hy=>by
  simp only[List.mem_cons,List.not_mem_nil,or_false]at hy
  rcases hy with rfl|rfl
  ·exact hcl _
  ·exact .int _ _) ⟨rfl,rfl⟩
end Go.Av
namespace Go.Av
open Go Go.Proofs Go.RowKit
attribute [local irreducible] WP WPl WPix Sat
theorem wo{s:PS}(hI:s.Inv)(f:It→Bool):(itmF s f).length=s.tell.it.countP f:=by
 unfold itmF itmK
 rw[List.length_map]
 have hp:(srtK ((s.tell.it.filter f).map It.ky)).Perm ((s.tell.it.filter f).map It.ky):=by
  refine(List.perm_ext_iff_of_nodup (ir (dY hI f)).nd ?_).2 fun x=>iu (dY hI f) x
  have:=dY hI f
  rw[List.nodup_iff_pairwise_ne,List.pairwise_map]at this
  exact List.nodup_iff_pairwise_ne.2 (this.imp fun h e=>h (by rw[e]))
 rw[hp.length_eq,List.length_map, ← List.countP_eq_length_filter]
variable (G:Nat→Option (List AVal))
end Go.Av
namespace Go.Av
open Go Go.Proofs Go.RowKit
attribute [local irreducible] WP WPl WPix Sat
variable (G:Nat→Option (List AVal))
theorem kQ(hG:GOk G)(hc:GClo (CT G))(es:List Ev)(q:Qy)(hq:q.mx≤9223372036854775807)(h:Heap):Sat (CT G) 6 [.sl 7 (es.map Ev.av),q.av] h (fun r h'=>r=.bool true∧h'=h):=by
 have hLg:=ji G es
 have hLa:=fun h=>oV G q h hq
 by_cases hg:lgF es=false∧decide (q.left 0 300≤0)=false∧q.ok=true
 ·obtain⟨hlg,hla,hok⟩:=hg
  have hsm:q.dep 1≤12→q.sz≤6000:=Qy.small (by simpa using hla)
  have fq:q.Fit:=⟨hq,fun hd=>Nat.le_trans (hsm hd) (by omega)⟩
  have hCk:=fun h=>eE G hc _ h fq.1 fq.2
  have hok':=hok
  unfold Qy.ok at hok'
  simp only[Bool.and_eq_true,decide_eq_true_eq]at hok'
  have hp5:=mj (fun _=>mi) q hok'.2.2
  have hnz:=Qy.nrm_sz q false
  have hqz:=hsm hok'.1
  have fn:(q.nrm false).Fit:=⟨Nat.le_trans (Qy.mx_sz _) (by omega),fun _=>by omega⟩
  have hCn:=fun h=>eE G hc _ h fn.1 fn.2
  have hNo:=fun h=>uD G q fq hok h
  rw[hlg]at hLg
  rw[hla]at hLa
  rw[hok]at hCk
  have hel:es.length≤150:=by
   unfold lgF at hlg
   rw[Bool.or_eq_false_iff]at hlg
   have:=hlg.1
   simp only[decide_eq_false_iff_not]at this
   omega
  have hI:(es.foldl (PS.step L0) PS.z).Inv:=PS.Inv.z.fold es
  have hT:(es.foldl (PS.step L0) PS.z).Tt:=PS.Tt.fold PS.Tt.z PS.Inv.z
  obtain⟨rA,hrA⟩:∃rA,Blk.row 25 4 0 [q.av]=rA:=⟨_,rfl⟩
  have hfh:=kr G es (by omega) (h++[rA])
  have hnl:(h++[rA]).length=h.length+1:=by simp
  rw[hnl]at hfh
  generalize es.foldl (PS.step L0) PS.z=s at hI hT hfh
  have hz9:(PS.z.bl (h.length+1)).length=9:=rfl
  obtain⟨H0,hH0⟩:∃H0,H0=h++[rA]++PS.z.bl (h.length+1):=⟨_,rfl⟩
  rw[← hH0]at hfh
  have hl0:H0.length=h.length+10:=by rw[hH0];simp[hz9]
  have hn0:∀j:Heap,h.length+1+9≤(H0++j).length:=fun j=>by simp;omega
  have hpre:∀j,∃j',H0++j=h++j':=fun j=>⟨[rA]++(PS.z.bl (h.length+1)++j),by rw[hH0];simp only[List.append_assoc]⟩
  have r0a:getRow (h++[rA]) h.length 0=some (25,4,[q.av]):=by rw[aI _ rfl, ← hrA];rfl
  have hra:∀j,getRow (so (H0++j) (h.length+1) s) h.length 0=some (25,4,[q.av]):=fun j=>by
   rw[xT (hn0 j) (by omega) (by omega),hH0,bm _ (by simp),r0a]
  have hra0:=hra []
  have hn00:=hn0 []
  rw[List.append_nil]at hra0 hn00
  have hIq:=fun(j:Heap)=>dE G s hI hT q fq (X:=H0++j) (n:=h.length+1) (hn0 j)
  have hIn:=fun(j:Heap)=>dE G s hI hT (q.nrm false) fn (X:=H0++j) (n:=h.length+1) (hn0 j)
  have hbe:(fun t=>(q.nrm false).bel s t)=fun t=>q.bel s t:=funext fun t=>by rw[Qy.nrm_bel q hp5 false];simp
  rw[hbe]at hIn
  rw[hok]at hIq
  have hLl:(itmF s fun t=>q.bel s t).length≤100000:=by
   rw[wo hI]
   have:=fp (z:=It.z) s.it
   have:=hI.l3
   exact Nat.le_trans List.countP_le_length (by show(valsM It.z s.it).length≤_;omega)
  have hSm:=kC G (itmF s fun t=>q.bel s t) (itmF s fun t=>q.bel s t) (by omega) (by omega)
  rw[decide_eq_true (rfl:(itmF s fun t=>q.bel s t)=itmF s fun t=>q.bel s t)]at hSm
  clear hbe fn fq hok hok' hq hla hT hsm hnz hqz hp5
  generalize (itmF s fun t=>q.bel s t)=L at*
  generalize (q.nrm false).ok=v at*
  generalize q.nrm false=w at*
  obtain⟨qo,qn,qs,qk⟩:=q
  obtain⟨zo,zn,zx,zk⟩:=w
  simp only[Qy.av_eq,if_true]at hCk hCn hNo hIq hIn hLa hrA r0a hra hra0 ⊢
  have n0:((0:Int) !=0)=false:=rfl
  have n1:((0:Int)==0)=true:=rfl
  have n2:((250:Int)==0)=false:=rfl
  have n3:((250:Int)==250)=true:=rfl
  cases v
  all_goals (
   simp only[Bool.false_eq_true, ↓reduceIte]at hIn
   have F:=F2 (F9 @hrA @r0a hra hra0 hn00 hn0 n0 n1 n2) (F2 n3 @aw)
   refine sb [.tmp 4] (fn:=Tryz.f6) Tryz.func6 ?_
   intro Q hQ
   refine wk F ?_
   refine kq F (hLg _) ?_
   refine kq F (hLa _) ?_
   refine kq F (hCk _) ?_
   refine kq F (hfh) ?_
   refine kq F (ic G hG hc _) ?_
   refine kq F (hNo _) ?_
   refine kq F (hIq _) ?_
   refine kq F (hIn _) ?_
   repeat (first|refine kq F (hSm _) ?_|refine kq F (hCn _) ?_)
   refine ee hQ F ?_
   exact sh (hn0 _) (hpre _) (by omega) ⟨rfl,rfl⟩)
 ·have hb3:lgF es=true∨(lgF es=false∧decide (q.left 0 300≤0)=true)∨(lgF es=false∧decide (q.left 0 300≤0)=false∧q.ok=false):=by
   revert hg
   cases lgF es<;>cases decide (q.left 0 300≤0)<;>cases q.ok<;>simp
  have hCk:decide (q.left 0 300≤0)=false→∀h,Sat (CT G) 19 [q.av] h (fun r h'=>r=.bool q.ok∧h'=h):=fun hb h=>eE G hc q h hq fun hd=>Nat.le_trans (Qy.small (by simpa using hb) hd) (by omega)
  clear hg hq
  generalize lgF es=b1 at*
  generalize decide (q.left 0 300≤0)=b2 at*
  generalize q.ok=b3 at*
  obtain⟨qo,qn,qs,qk⟩:=q
  simp only[Qy.av_eq]at hLa hCk ⊢
  rcases hb3 with rfl| ⟨rfl,rfl⟩| ⟨rfl,rfl,rfl⟩
  all_goals (
   try replace hCk:=hCk rfl
   have hF:(lgF ([]:List Ev)=false):=rfl
   have F:=hF
   refine sb [.tmp 4] (fn:=Tryz.f6) Tryz.func6 ?_
   intro Q hQ
   refine wk F ?_
   repeat (first
    |refine kq F (hLg _) ?_
    |refine kq F (hLa _) ?_
    |refine kq F (hCk _) ?_
    |refine kq F (ic G hG hc _) ?_)
   refine ee hQ F ?_
   exact Fin.plain (.bool _) ⟨rfl,rfl⟩)
end Go.Av
