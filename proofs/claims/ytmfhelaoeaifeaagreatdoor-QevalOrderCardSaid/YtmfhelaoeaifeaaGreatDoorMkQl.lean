/- What is told stands in the reading order, each once, and is just what belongs: the card. -/
import Derived.Test.YtmfhelaoeaifeaaGreatDoorMkNn
import Derived.Test.YtmfhelaoeaifeaaGreatDoorMkKf
import Derived.Test.YtmfhelaoeaifeaaGreatDoorMkZl
set_option linter.unusedSimpArgs false
set_option linter.unusedVariables false
set_option linter.unusedSectionVars false
set_option linter.unnecessarySimpa false
set_option maxRecDepth 100000
set_option maxHeartbeats 16000000
namespace Go.Av
open Go Go.Proofs Go.RowKit
attribute [local irreducible] WP WPl WPix Sat
section
variable {s:PS} {e:Ev}
end
variable (G:Nat→Option (List AVal))
end Go.Av
namespace Go.Av
open Go Go.Proofs Go.RowKit
attribute [local irreducible] WP WPl WPix Sat
section
variable {H H':Heap} {n0 e n:Nat} {rows:List AVal} {v:AVal}
end
section
variable {C:Ctx}
end
end Go.Av
namespace Go.Av
open Go Go.Proofs Go.RowKit
attribute [local irreducible] WP WPl WPix Sat
variable (G:Nat→Option (List AVal))
end Go.Av
namespace Go.Av
open Go Go.Proofs Go.RowKit
attribute [local irreducible] WP WPl WPix Sat
variable (G:Nat→Option (List AVal))
end Go.Av
namespace Go.Av
open Go Go.Proofs Go.RowKit
theorem tM{l:List Int}(h:l.Nodup):(sortI l).Pairwise (· < ·):=by
 have h1:(sortI l).Pairwise fun a b=>decide (a≤b)=true:=List.pairwise_mergeSort (fun a b c h1 h2=>by simp at *;omega) (fun a b=>by simp;omega) l
 have h2:(sortI l).Nodup:=mO h
 refine List.Pairwise.imp₂ (R:=fun a b=>decide (a≤b)=true) (S:=fun a b=>a≠b) (fun a b hab hne=>?_) h1 h2
 simp at hab;omega
section
variable {α:Type} {z:α} {key:α→Int} {l:ML Int α} {c:Nat}
theorem tN(w:WFM l c)(hid:∀k a,lkM l k=some a→key a=k):((valsM z l).map key).Pairwise (· < ·):=by
 rw[tw w key hid];exact tM w.keys
end
end Go.Av
namespace Go.Av
open Go Go.Proofs Go.RowKit
theorem rj{s:PS}(h:s.Inv):(s.tell.it.map (·.id)).Nodup:=
 (tN (z:=It.z) h.w3 fun k a hk=>(h.i3 k a hk).1).imp fun hab e=>by omega
end Go.Av
namespace Go.Av
open Go Go.Proofs Go.RowKit
attribute [local irreducible] WP WPl WPix Sat
variable (G:Nat→Option (List AVal))
theorem pr(a b:It)(h:Heap):Sat (CT G) 23 [a.av,b.av] h (fun r h'=>r=.bool (ahd a.ky b.ky)∧h'=h):=by
 have e:ahd a.ky b.ky=(decide (b.date<a.date)||(decide (a.date=b.date)&&decide (a.id<b.id))):=rfl
 rw[e]
 by_cases c1:b.date<a.date
 ·have d1:decide (a.date>b.date)=true:=by simp;omega
  have F:=d1
  refine sb [.tmp 4] (fn:=Tryz.f23) Tryz.func23 ?_
  intro Q hQ
  refine wk F ?_
  refine ee hQ F ?_
  exact Fin.plain (.bool _) ⟨rfl,rfl⟩
 ·have d1:decide (a.date>b.date)=false:=by simp;omega
  by_cases c2:a.date=b.date
  ·have d2:(a.date==b.date)=true:=by simp[c2]
   have F:=F2 d1 d2
   refine sb [.tmp 4] (fn:=Tryz.f23) Tryz.func23 ?_
   intro Q hQ
   refine wk F ?_
   refine ee hQ F ?_
   exact Fin.plain (.bool _) ⟨by simp[c2],rfl⟩
  ·have d2:(a.date==b.date)=false:=by simp[c2]
   have F:=F2 d1 d2
   refine sb [.tmp 4] (fn:=Tryz.f23) Tryz.func23 ?_
   intro Q hQ
   refine wk F ?_
   refine ee hQ F ?_
   exact Fin.plain (.bool _) ⟨by simp[c2],rfl⟩
end Go.Av
namespace Go.Av
open Go Go.Proofs Go.RowKit
attribute [local irreducible] WP WPl WPix Sat
variable (G:Nat→Option (List AVal))
theorem rk(a b:List Int)(ha:a.length≤1000000)(hb:b.length≤1000000)(h:Heap):Sat (CT G) 16 [.sl 1 (a.map iA),.sl 1 (b.map iA)] h (fun r h'=>r=.bool (decide (a=b))∧h'=h):=by
 have hal:(a.map iA).length=a.length:=List.length_map ..
 have hbl:(b.map iA).length=b.length:=List.length_map ..
 by_cases hlen:a.length=b.length
 ·have hne:((a.length:Int) != (b.length:Int))=false:=by simp[hlen]
  have F:=F3 hal hbl hne
  refine sb [.tmp 4] (fn:=Tryz.f16) Tryz.func16 ?_
  intro Q hQ
  refine wk F ?_
  refine lm (fun nL tL hL=>∃(k:Nat),a.length-k=nL∧h=hL∧tL 5=.int .i64 k∧k≤a.length∧a.take k=b.take k) ((fun(k:Nat)=>(a.length-k:Nat)) (0)) ?_ ?_
  ·refine Wkn.refl ⟨0,rfl,aD,?_,by omega,rfl⟩
   all_goals first|exact zq F|rfl|omega|trivial|skip
  rintro _ s2 h' ⟨k,rfl,rfl,e5,hk,hp⟩ K2 hK2
  simp only[aj,ao,Nat.reduceEqDiff, ↓reduceIte]at e5
  have F:=F2 F e5
  refine wk F ?_
  refine cq F (fun c1=>?_) (fun c1=>?_)<;>(try exact c1.elim)<;>(refine wk F ?_)
  ·have c2:k<a.length:=by omega
   have c3:k<b.length:=by omega
   obtain⟨x,hx,_⟩:=af c2
   obtain⟨y,hy,_⟩:=af c3
   have F:=F5 F hx hy c2 c3
   try refine sq F ?_
   refine wk F ?_
   refine cq F (fun c4=>?_) (fun c4=>?_)<;>(try exact c4.elim)<;>(refine wk F ?_)
   ·have e:a≠b:=by rintro rfl;rw[hx]at hy;cases hy;exact c4 rfl
    refine ee hQ (F8 hal hbl hne e5 hx hy c2 c3) ?_
    exact Fin.same (.bool _) ⟨by rw[decide_eq_false e],rfl⟩
   ·have hp1:a.take (k+1)=b.take (k+1):=by rw[List.take_add_one,List.take_add_one,hx,hy,hp,c4]
    refine hK2 _ _ _ (Wkn.refl ⟨k+1,rfl,aD,?_,by omega,hp1⟩) (by omega)
    all_goals first|exact zq F|rfl|omega|trivial|skip
  ·have e:a=b:=by
    have:=hp
    rwa [List.take_of_length_le (by omega),List.take_of_length_le (by omega)]at this
   refine ee hQ F ?_
   exact Fin.same (.bool _) ⟨by rw[decide_eq_true e],rfl⟩
 ·have hne:((a.length:Int) != (b.length:Int))=true:=by simp;omega
  have e:a≠b:=by rintro rfl;exact hlen rfl
  have F:=F3 hal hbl hne
  refine sb [.tmp 4] (fn:=Tryz.f16) Tryz.func16 ?_
  intro Q hQ
  refine wk F ?_
  refine ee hQ F ?_
  exact Fin.same (.bool _) ⟨by rw[decide_eq_false e],rfl⟩
end Go.Av
namespace Go.Av
open Go Go.Proofs Go.RowKit
attribute [local irreducible] WP WPl WPix Sat
variable (G:Nat→Option (List AVal))
end Go.Av
namespace Go.Av
open Go Go.Proofs Go.RowKit
attribute [local irreducible] WP WPl WPix Sat
variable (G:Nat→Option (List AVal))
theorem nF{C:Ctx}{ops:Array Oper}{dst:Option Nat}{op:Op}{ty:TypeId}{pos:String}{aft:Array Edge}{t:Env}{h:Heap}{K:AVal→Heap→Prop}{j d:Nat}{want:Bool}(hd:(ops[j]?).bind (·.dst)=some d)(ht:t d=.bool want)
  (g:wpOperV C ops ⟨dst,op,ty,pos,aft,none⟩ t h K):wpOperV C ops ⟨dst,op,ty,pos,aft,some (j,want)⟩ t h K:=by
 have e:guardA ops t j=some (some want):=by unfold guardA;rw[hd];simp only[ht]
 unfold wpOperV
 simp only[e]
 exact⟨fun _=>g,fun h=>absurd rfl h⟩
end Go.Av
namespace Go.Av
open Go Go.Proofs Go.RowKit
attribute [local irreducible] WP WPl WPix Sat
section
variable {Y:Heap} {n m v:Nat} {s:PS} {l:List Ky}
end
variable (G:Nat→Option (List AVal))
section
variable {Y:Heap} {n m v:Nat} {s:PS} {l:List Ky}
end
end Go.Av
namespace Go.Av
open Go Go.Proofs Go.RowKit
attribute [local irreducible] WP WPl WPix Sat SatY
structure Cu where
 d:Int
 i:Int
 set:Bool
def Cu.av(c:Cu):AVal:=.agg [.int .i64 c.d,.int .i64 c.i,.bool c.set]
variable (G:Nat→Option (List AVal))
section
variable {l:List Ky} {H:Heap} {n v:Nat}
end
end Go.Av
namespace Go.Av
open Go Go.Proofs Go.RowKit
attribute [local irreducible] WP WPl WPix Sat SatY
section
variable {H:Heap} {n p:Nat} {qv:AVal} {c:Cu} {N:Int} {fr:Nat} {z:Blk} {mo:Bool} {pre:List Ky} {j:Heap}
end
variable (G:Nat→Option (List AVal))
section
variable {l:List Ky} {H:Heap} {n v:Nat}
end
end Go.Av
namespace Go.Av
open Go Go.Proofs Go.RowKit
def PS.Tt(s:PS):Prop:=∀k t,lkM s.it k=some t→t.title.length≤256
theorem PS.Tt.z:PS.z.Tt:=fun _ _ h=>by cases h
theorem PS.Tt.getD{s:PS}(h:s.Tt)(k:Int):((lkM s.it k).getD It.z).title.length≤256:=by
 cases hl:lkM s.it k with
 |none=>simp[It.z]
 |some t=>exact h k t hl
theorem PS.Tt.step{s:PS}(h:s.Tt)(hI:s.Inv)(e:Ev):(s.step L0 e).Tt:=by
 unfold PS.step
 split
 ·rename_i hok
  have hr:e.kind=7→e.t.length≤256:=fun k=>by
   unfold PS.ok PS.fits at hok
   rw[Bool.and_eq_true]at hok
   have:=hok.1
   unfold Leaf.ck at this
   simp only[Bool.and_eq_true]at this
   have hq:=this.1
   unfold Leaf.right at hq
   rw[if_neg (by omega),if_neg (by omega),if_neg (by omega),if_neg (by omega),if_neg (by omega),if_pos k]at hq
   simp only[Bool.and_eq_true]at hq
   have hq:=hq.2.2.2.2.1
   have hu:L0.title e.t=textF rightS cleanF e.t 256:=rfl
   rw[hu]at hq
   unfold textF at hq
   rw[Bool.and_eq_true,decide_eq_true_eq]at hq
   omega
  intro k t hk
  rw[wJ]at hk
  split at hk
  ·exact h k t (gA hI.w3.keys hk)
  split at hk
  ·rename_i k7
   rcases aW hk with⟨rfl,rfl⟩| ⟨_,hk⟩
   ·exact hr k7
   ·exact h k t hk
  split at hk
  ·rcases aW hk with⟨rfl,rfl⟩| ⟨_,hk⟩
   ·exact h.getD _
   ·exact h k t hk
  split at hk
  ·rcases aW hk with⟨rfl,rfl⟩| ⟨_,hk⟩
   ·exact h.getD _
   ·exact h k t hk
  split at hk
  ·rcases aW hk with⟨rfl,rfl⟩| ⟨_,hk⟩
   ·exact h.getD _
   ·exact h k t hk
  ·exact h k t hk
 ·exact h
theorem PS.Tt.fold{es:List Ev}:∀{s:PS},s.Tt→s.Inv→(es.foldl (PS.step L0) s).Tt:=by
 induction es with
 |nil=>intro s h _;exact h
 |cons e es ih=>intro s h hI;exact ih (h.step hI e) (hI.step e)
end Go.Av
namespace Go.Av
open Go Go.Proofs Go.RowKit
attribute [local irreducible] WP WPl WPix Sat
def PS.eval(s:PS)(q:Qy)(id:Int):Bool:=match lkM s.it id with
 |none=>false
 |some t=>q.ok&&q.bel s t
def Qy.Fit(q:Qy):Prop:=q.mx≤9223372036854775807∧(q.dep 1≤12→q.sz≤20000)
theorem gD{X:Heap}{n:Nat}{s:PS}(x:ML Int (List Int)×Nat)(b1 b2:Blk)(j:Heap):sa (X++(b1::b2::j)) n s X.length x=so (X++(am x.1 x.2::ar n X.length::j)) n s:=by
 unfold sa twB
 congr 1
 have:=iO X [am x.1 x.2,ar n X.length] j
 show ov _ _ _=X++([am x.1 x.2,ar n X.length]++j)
 rw[this]
 unfold ov
 have h1:∀c1 c2:Blk,(X++(c1::c2::j)).take X.length=X:=fun c1 c2=>by rw[List.take_left' rfl]
 have h2:∀c1 c2:Blk,(X++(c1::c2::j)).drop (X.length+2)=j:=fun c1 c2=>by rw[List.drop_append,List.drop_of_length_le (by omega),Nat.add_sub_cancel_left];rfl
 show _++_++List.drop (X.length+2) _=List.take _ (X++(am x.1 x.2::ar n X.length::j))++_++List.drop (X.length+2) (X++(am x.1 x.2::ar n X.length::j))
 rw[h1,h1,h2,h2]
variable (G:Nat→Option (List AVal))
theorem lS(s:PS){X:Heap}{n:Nat}(hn:n+9≤X.length):Sat (CT G) 34 [.hp (n+8) 0 0 0] (so X n s) (fun r h'=>r=.hp (X.length+1) 0 0 0∧h'=sa (X++[am [] 0,ar n X.length]) n s X.length ([],0)):=by
 have e:=gD (X:=X) (n:=n) (s:=s) ([],0) (am [] 0) (ar n X.length) []
 rw[e, ← aX hn]
 have hl:=aF (s:=s) hn
 have hp:n+8<(so X n s).length:=by omega
 generalize so X n s=H at*
 rw[← hl]
 refine sb [.tmp 2] (fn:=Tryz.f34) Tryz.func34 ?_
 intro Q hQ
 refine wk trivial ?_
 refine ee hQ trivial ?_
 exact Fin.whole (by simp) (.hp _ _ _ _ (by simp)) ⟨rfl,rfl⟩
theorem kw(s:PS)(hI:s.Inv)(hT:s.Tt)(q:Qy)(hq:q.Fit)(id:Int){X:Heap}{n:Nat}(hn:n+9≤X.length):Sat (CT G) 14 [.hp (n+8) 0 0 0,q.av,.int .i64 id] (so X n s) (fun r h'=>r=.bool (s.eval q id)∧h'=so X n s):=by
 have hIt:=fun(j:Heap)=>iS G s id (by have:=(hI.tags id).2;omega) (H:=X++j) (n:=n) (by simp;omega)
 have hn1:∀j:Heap,n+9≤(X++j).length:=fun j=>by simp;omega
 unfold PS.eval
 cases hl:lkM s.it id with
 |none=>
  rw[hl]at hIt
  simp only[Option.getD_none,Option.isSome_none]at hIt
  obtain⟨qo,qn,qs,qk⟩:=q
  rw[Qy.av_eq]at*
  have F:=F2 hn hn1
  skip
  refine sb [.tmp 6] (fn:=Tryz.f14) Tryz.func14 ?_
  intro Q hQ
  refine wn F ?_
  refine kn F (hIt _) ?_
  refine lB (by decide+kernel) (wl G) ?_
  refine sq F ?_
  refine wn F ?_
  skip
  refine ee hQ F ?_
  exact ai hn (.bool _) ⟨rfl,rfl⟩
 |some t=>
  rw[hl]at hIt
  simp only[Option.getD_some,Option.isSome_some]at hIt
  have hC:=fun h=>dv G q h hq.1 hq.2
  have htt:=hT id t hl
  have htg:=(hI.tags id).2
  rw[hl,Option.getD_some]at htg
  cases hok:q.ok with
  |false=>
   rw[hok]at hC
   clear hq
   obtain⟨qo,qn,qs,qk⟩:=q
   rw[Qy.av_eq]at*
   have F:=F2 hn hn1
   skip
   refine sb [.tmp 6] (fn:=Tryz.f14) Tryz.func14 ?_
   intro Q hQ
   refine wn F ?_
   refine kn F (hIt _) ?_
   refine lB (by decide+kernel) (wl G) ?_
   refine sq F ?_
   refine wn F ?_
   refine aJ (hC _) ?_
   try refine sq F ?_
   refine wn F ?_
   skip
   refine ee hQ F ?_
   exact ai hn (.bool _) ⟨rfl,rfl⟩
  |true=>
   have hok':=hok
   unfold Qy.ok at hok'
   simp only[Bool.and_eq_true,decide_eq_true_eq]at hok'
   obtain⟨rQ,hrQ⟩:∃rQ:Blk,rQ=.row 25 4 0 [q.av]:=⟨_,rfl⟩
   obtain⟨rT,hrT⟩:∃rT:Blk,rT=.row 49 9 0 [t.av]:=⟨_,rfl⟩
   have hlX:(X++[rQ,rT]).length=X.length+2:=by simp
   have e:∀y:ML Int (List Int)×Nat,sa ((X++[rQ,rT])++[am [] 0,ar n (X.length+2)]) n s (X.length+2) y=so (X++[rQ,rT,am y.1 y.2,ar n (X.length+2)]) n s:=fun y=>by
    have:=gD (X:=X++[rQ,rT]) (n:=n) (s:=s) y (am [] 0) (ar n (X.length+2)) []
    rw[hlX]at this
    rw[this,List.append_assoc];rfl
   have hB:=nE G s hI t htt (by omega) (n:=n) (a:=X.length+2) (by omega) q (hq.2 hok'.1) hok'.2.2 ((X++[rQ,rT])++[am [] 0,ar n (X.length+2)]) ([],0) (by simp) ⟨.nil,fun _ _ h=>by cases h⟩
   have hO:=lS G s (X:=X++[rQ,rT]) (n:=n) (by omega)
   rw[hlX,e]at hO
   simp only[e]at hB
   subst hrQ
   subst hrT
   rw[hok]at hC
   show Sat _ _ _ _ (fun r h'=>r=.bool (q.bel s t)∧h'=so X n s)
   generalize q.bel s t=b at*
   clear hq hok' e hlX
   obtain⟨qo,qn,qs,qk⟩:=q
   rw[Qy.av_eq]at*
   have F:=F2 hn hn1
   skip
   refine sb [.tmp 6] (fn:=Tryz.f14) Tryz.func14 ?_
   intro Q hQ
   refine wn F ?_
   refine kn F (hIt _) ?_
   refine aL 12 [8,11] [true,true,true,true,true,true,true,true,false,true,true,false] (.one 8 [false,false,false,false,false,false,false,false,false,true,true] (.one 11 [] .fin)) (by decide+kernel) (by kernel_rfl) (by decide+kernel) ?_
   simp only[aU,aV,aI]
   try refine sq F ?_
   repeat' (first| (refine ax ?_;try refine sq F ?_)| (refine aA ?_;try refine sq F ?_)| (refine aB ?_ ?_<;>try refine sq F ?_))
   all_goals try refine wn F ?_
   refine aJ (hC _) ?_
   try refine sq F ?_
   refine wn F ?_
   repeat' (first| (refine ax ?_;try refine sq F ?_)| (refine aA ?_;try refine sq F ?_)| (refine aB ?_ ?_<;>try refine sq F ?_))
   all_goals try refine wn F ?_
   refine nF rfl (by exact zq F) ?_
   simp(disch:=first|omega| (simp only[go_sem, ↓reduceIte,seval];first|done|omega)|fail) only[go_sem, ↓reduceIte,seval,F]
   refine hO.mono ?_
   rintro r h' ⟨rfl,rfl⟩
   have F:=F2 F @ap
   refine⟨by simp(disch:=first|omega| (simp only[go_sem, ↓reduceIte,seval];first|done|omega)|fail) only[go_sem, ↓reduceIte,seval,F],?_⟩
   repeat' (first| (refine ax ?_;try refine sq F ?_)| (refine aA ?_;try refine sq F ?_)| (refine aB ?_ ?_<;>try refine sq F ?_))
   all_goals try refine wn F ?_
   refine nF rfl (by exact zq F) ?_
   simp(disch:=first|omega| (simp only[go_sem, ↓reduceIte,seval];first|done|omega)|fail) only[go_sem, ↓reduceIte,seval,F]
   refine hB.mono ?_
   rintro r h' ⟨rfl,y,hy,rfl⟩
   repeat' (first| (refine ax ?_;try refine sq F ?_)| (refine aA ?_;try refine sq F ?_)| (refine aB ?_ ?_<;>try refine sq F ?_))
   all_goals try refine wn F ?_
   refine ee hQ F ?_
   exact ai hn (.bool _) ⟨rfl,rfl⟩
end Go.Av
namespace Go.Av
open Go Go.Proofs Go.RowKit
attribute [local irreducible] WP WPl WPix Sat
theorem kz{A j:Heap}{p:Nat}(c:Blk)(hp:A.length≤p):ov (A++j) p [c]=A++ov j (p-A.length) [c]:=by
 unfold ov
 rw[List.take_append,List.take_of_length_le hp,List.drop_append,List.drop_of_length_le (by simp only[List.length_singleton];omega),List.nil_append,List.append_assoc,List.append_assoc,List.append_assoc]
 congr 4
 simp only[List.length_singleton]
 omega
def itmK(s:PS)(f:It→Bool):List Ky:=srtK ((s.tell.it.filter f).map It.ky)
def itmF(s:PS)(f:It→Bool):List Int:=(itmK s f).map (·.i)
theorem da{s:PS}(h:s.Inv)(f:It→Bool):(((s.tell.it.filter f).map It.ky).map (·.i)).Nodup:=by
 rw[List.map_map]
 exact(rj h).sublist (List.filter_sublist.map _)
theorem tO{s:PS}(h:s.Inv){f:It→Bool}{L:List It}(hp:L.Perm (s.tell.it.filter f))(hs:L.Pairwise fun a b=>ahd b.ky a.ky=false):L.map (·.id)=itmF s f:=by
 have hn:(L.map (·.id)).Nodup:=(hp.map (·.id)).nodup_iff.2 ((rj h).sublist (List.filter_sublist.map _))
 have hk:Sk (L.map It.ky):=by
  unfold Sk
  rw[List.pairwise_map]
  have h2:L.Pairwise fun a b=>a.id≠b.id:=by rw[← List.pairwise_map];exact List.nodup_iff_pairwise_ne.1 hn
  refine(hs.and h2).imp fun {a b} ⟨h3,h4⟩=>?_
  exact nh (a:=b.ky) (b:=a.ky) (fun e=>h4 e.symm) h3
 have e:L.map It.ky=itmK s f:=hk.uniq (eP (da h f)) fun x=>by
  show x∈L.map It.ky↔x∈srtK ((s.tell.it.filter f).map It.ky)
  rw[ie (da h f)]
  exact(hp.map It.ky).mem_iff
 unfold itmF
 rw[← e,List.map_map];rfl
section
variable {Y:Heap} {n a p v:Nat} {s:PS} {x:ML Int (List Int)×Nat}
theorem uS{L:List It}(h:Y[p]? =some (rI v L)):sI Y n s a x p v L=sa Y n s a x:=by
 unfold sI
 congr 1
 have hp:=(List.getElem?_eq_some_iff.1 h).1
 apply List.ext_getElem?
 intro q
 rw[aK (by simp only[List.length_singleton];omega)]
 split
 ·rename_i hq
  have:q=p:=by simp only[List.length_singleton]at hq;omega
  subst this
  rw[Nat.sub_self,h];rfl
 ·rfl
theorem uT{j:Heap}{y:ML Int (List Int)×Nat}{R:AVal→Heap→Prop}{r0 r:AVal}(hn:n+9≤a)(hm:a+2≤Y.length)(hz:Frz (sa (Y++j) n s a y) Y.length r0 r)(hR:R r (sa Y n s a y)):Fin (sa Y n s a x) (sa (Y++j) n s a y) R r0:=by
 have e:∀(Y:Heap) (x:ML Int (List Int)×Nat),a+2≤Y.length→sa Y n s a x=ov (so Y n s) a [am x.1 x.2,ar n a]:=fun Y x hm=>bU hn hm
 have hl:(so Y n s).length=Y.length:=aF (by omega)
 have e1:sa (Y++j) n s a y=ov (so Y n s++j) a [am y.1 y.2,ar n a]:=by rw[e (Y++j) y (by simp;omega), ← aX (by omega)]
 rw[e1]at hz ⊢
 rw[e Y y hm]at hR
 rw[e Y x hm]
 exact dw (by rw[hl];exact hm) rfl (fun b hb=>by
  rw[hl]
  simp only[List.mem_cons,List.not_mem_nil,or_false]at hb
  rcases hb with rfl|rfl
  ·exact j9 _ _ _
  ·exact ja hn hm) (by rw[hl];exact hz) hR
end
variable (G:Nat→Option (List AVal))
section
variable {s:PS} {Y:Heap} {n a:Nat}
theorem mV(hn:n+9≤a)(hm:a+2≤Y.length)(f:It→Bool)(g:FuncId)(cap:List AVal)(t:It)
  (hg:∀x,Gd s x→∀j:Heap,Sat (CT G) g ([]++[t.av]++cap) (sa (Y++j) n s a x) (fun r h'=>r=.bool (f t)∧∃y,Gd s y∧h'=sa (Y++j) n s a y))(x:ML Int (List Int)×Nat)(hx:Gd s x)(j:Heap):
  Sat (CT G) 68 ([]++[t.av]++[.hp Y.length 0 0 0]) (sa (Y++(.row 74 1 0 [.fn (.func g) [] cap]::j)) n s a x) (fun r h'=>r=.bool (!f t)∧∃y,Gd s y∧h'=sa (Y++(.row 74 1 0 [.fn (.func g) [] cap]::j)) n s a y):=by
 have hm1:∀j:Heap,a+2≤(Y++j).length:=fun j=>by simp;omega
 have hc:=hg x hx
 generalize f t=b at*
 have F:=F4 hm hn hm1 @ap
 refine sb [.tmp 3] (fn:=Tryz.f68) Tryz.func68 ?_
 intro Q hQ
 refine wk F ?_
 refine(hc _).mono ?_
 rintro r h' ⟨rfl,y,hy,rfl⟩
 try refine sq F ?_
 refine wk F ?_
 refine ee hQ F ?_
 have:=bm (x:=x) (s:=s) (j:=[.row 49 9 0 [t.av]]) (R:=fun r h'=>r=.bool (!b)∧∃y,Gd s y∧h'=sa (Y++(.row 74 1 0 [.fn (.func g) [] cap]::j)) n s a y) (r:=.bool (!b)) hn (hm1 (.row 74 1 0 [.fn (.func g) [] cap]::j)) (fun N=>.bool _) (y:=y) ⟨rfl,y,hy,rfl⟩
 rwa [List.append_assoc]at this
theorem pt(hI:s.Inv)(hn:n+9≤a)(hm:a+2≤Y.length)(x:ML Int (List Int)×Nat):Sat (CT G) 21 [.hp (n+8) 0 0 0] (sa Y n s a x)
  (fun r h'=>∃(j:Heap) (p v:Nat),r=s.tellH p v∧Y.length≤p∧p+1≤(Y++j).length∧h'=sI (Y++j) n s a x p v s.tell.it):=by
 have hl:(ov Y a [am x.1 x.2,ar n a]).length=Y.length:=aH hm
 refine(mr G s hI.toOk (H:=ov Y a [am x.1 x.2,ar n a]) (n:=n) (by rw[hl];omega)).mono ?_
 rintro r h' ⟨j,p,v,rfl,h1,h2,rfl⟩
 rw[hl]at h1
 have h3:=bO h2
 have h4:=bR h2
 rw[List.getElem?_append_right (by rw[hl];exact h1),hl]at h4
 rw[List.length_append,hl]at h3
 refine⟨j,p,v,rfl,h1,by rw[List.length_append];omega,?_⟩
 rw[uS (by rw[List.getElem?_append_right h1];exact h4)]
 show so (ov Y a _++j) n s=so (ov (Y++j) a _) n s
 rw[eB hm]
theorem fb(hI:s.Inv)(hn:n+9≤a)(hm:a+2≤Y.length)(f:It→Bool)(g:FuncId)(cap:List AVal)
  (hg:∀t∈s.tell.it,∀x,Gd s x→∀j:Heap,Sat (CT G) g ([]++[t.av]++cap) (sa (Y++j) n s a x) (fun r h'=>r=.bool (f t)∧∃y,Gd s y∧h'=sa (Y++j) n s a y))(x:ML Int (List Int)×Nat)(hx:Gd s x):
  Sat (CT G) 35 [.hp (n+8) 0 0 0,.fn (.func g) [] cap] (sa Y n s a x) (fun r h'=>r=.sl 1 ((itmF s f).map iA)∧∃y,Gd s y∧h'=sa Y n s a y):=by
 have hil:s.tell.it.length≤100000:=by have:=eY (z:=It.z) s.it;have:=hI.l3;show(valsM It.z s.it).length≤_;omega
 have hm1:∀j:Heap,a+2≤(Y++j).length:=fun j=>by simp;omega
 have hT:=pt G (s:=s) (Y:=Y++[.row 74 1 0 [.fn (.func g) [] cap]]) hI hn (hm1 _) x
 have hitl:(valsM It.z s.it).length=s.tell.it.length:=rfl
 have F:=F3 hm hn hm1
 refine sb [.tmp 4] (fn:=Tryz.f35) Tryz.func35 ?_
 intro Q hQ
 refine wk F ?_
 refine hT.mono ?_
 rintro r h' ⟨j,p,v,rfl,hp1,hp2,rfl⟩
 have hpl:Y.length+1≤p:=by simpa using hp1
 rw[List.append_assoc]at hp2 ⊢
 change p+1≤(Y++(.row 74 1 0 [.fn (.func g) [] cap]::j)).length at hp2
 have hD:=tJ G (s:=s) (Y:=Y++(.row 74 1 0 [.fn (.func g) [] cap]::j)) (v:=v) hn (by omega) hp2 (fun t=> !f t) 68 [.hp Y.length 0 0 0] s.tell.it (by omega) (fun t ht x hx j2 L=>by
  have e:∀y,sI ((Y++(.row 74 1 0 [.fn (.func g) [] cap]::j))++j2) n s a y p v L=sa (Y++(.row 74 1 0 [.fn (.func g) [] cap]::ov (j++j2) (p-(Y.length+1)) [rI v L])) n s a y:=fun y=>by
   unfold sI
   have:=kz (A:=Y++[.row 74 1 0 [.fn (.func g) [] cap]]) (j:=j++j2) (p:=p) (rI v L) (by simpa using hpl)
   simp only[List.append_assoc,List.cons_append,List.nil_append,List.length_append,List.length_singleton]at this ⊢
   rw[this]
  simp only[e]
  exact mV G hn hm f g cap t (hg t ht) x hx _) x hx
 simp only[Bool.not_not]at hD
 unfold PS.tellH
 rw[hitl]
 try simp only[List.cons_append,List.nil_append]
 generalize hZ:Y++(Blk.row 74 1 0 [.fn (.func g) [] cap]::j)=Z at hp2 hD ⊢
 try refine sq F ?_
 refine wk F ?_
 refine hD.mono ?_
 rintro r h' ⟨rfl,y,hy,rfl⟩
 have hap:a+2≤p:=by omega
 have hfl:(s.tell.it.filter f).length≤100000:=Nat.le_trans (List.length_filter_le _ _) hil
 have hS:=rb G (s.tell.it.filter f) hfl (sI Z n s a y p v (s.tell.it.filter f)) p v (jC hn hap hp2)
 try refine sq F ?_
 refine wk F ?_
 refine hS.mono ?_
 rintro r h' ⟨rfl,L,hLp,hLs,rfl⟩
 have hLl:L.length≤100000:=by rw[hLp.length_eq];exact hfl
 rw[jD hn hap hp2, ← hLp.length_eq]
 have hids:=tO hI hLp hLs
 have hgr:∀(b:Blk) (j:Heap) (u:Nat),getRow (sI (Z++(b::j)) n s a y p v L) Z.length u=getRow [b] 0 u:=fun b j u=>by
  rw[lN hn hap (by simp;omega) u (by omega) (by omega),aO _ rfl];rfl
 have hsr:∀(b b':Blk) (j:Heap),(sI (Z++(b::j)) n s a y p v L).set Z.length b'=sI (Z++(b'::j)) n s a y p v L:=fun b b' j=>by
  rw[lO hn hap (by simp;omega) b' (by omega) (by omega),ca _ rfl];rfl
 have hgi:∀(b c:Blk) (j:Heap) (u:Nat),getRow (sI (Z++(b::(j++[c]))) n s a y p v L) (Z.length+(j.length+1)) u=getRow [c] 0 u:=fun b c j u=>by
  rw[lN hn hap (by simp;omega) u (by omega) (by omega),bg _ rfl,show b::(j++[c])=(b::j)++[c]from rfl,aO _ (by simp)]
 have hsi:∀(b c c':Blk) (j:Heap),(sI (Z++(b::(j++[c]))) n s a y p v L).set (Z.length+(j.length+1)) c'=sI (Z++(b::(j++[c']))) n s a y p v L:=fun b c c' j=>by
  rw[lO hn hap (by simp;omega) c' (by omega) (by omega),la _ rfl,show b::(j++[c])=(b::j)++[c]from rfl,ca _ (by simp)];rfl
 have hpz:∀j:Heap,p+1≤(Z++j).length:=fun j=>by simp;omega
 have F:=F4 F hap hp2 hpz
 try refine sq F ?_
 refine wk F ?_
 refine lm (fun nL tL hL=>∃(k w:Nat) (acc:List Int) (j2:Heap),L.length-k=nL∧sI (Z++(.row 3 1 w (acc.map iA)::j2)) n s a y p v L=hL∧tL 6=.hs Z.length w 0 acc.length true∧tL 18=.int .i64 k∧k≤L.length∧acc.length=k∧acc++(L.drop k).map (·.id)=L.map (·.id)) ((fun(k w:Nat) (acc:List Int) (j2:Heap)=>(L.length-k:Nat)) (0) (0) ([]) ([])) ?_ ?_
 ·refine⟨_,_,Weak.virt 6 3 1 (by simp) (by omega) (by exact zq F),⟨0,0,[],[],rfl,by rw[r9 hn hap hp2];rfl,?_,?_,by omega,rfl,by simp⟩⟩
  all_goals first|exact zq F|rfl|omega|trivial|skip
 rintro _ s2 h' ⟨k,w,acc,j2,rfl,rfl,e6,e18,hk,hac,hq⟩ K2 hK2
 simp only[aj,ao,Nat.reduceEqDiff, ↓reduceIte]at e6 e18
 have F:=F3 F e6 e18
 refine wk F ?_
 have hLm:(L.map It.av).length=L.length:=List.length_map ..
 refine cq F (fun c1=>?_) (fun c1=>?_)<;>(try exact c1.elim)<;>(refine wk F ?_)
 ·have c2:k<L.length:=by omega
  obtain⟨t,ht,htm⟩:=af c2
  rw[au ht,List.map_cons]at hq
  have F:=F8 F ht c2 hgr hsr hgi hsi hLm
  try refine sq F ?_
  refine wk F ?_
  refine aq F ?_
  try refine sq F ?_
  refine wk F ?_
  refine hK2 _ _ _ (Wkn.refl ⟨k+1,w+1,acc++[t.id],j2++[.row 49 9 0 [t.av]],rfl,by simp[iA,It.av],?_,?_,by omega,by simp;omega,by rw[← hq];simp⟩) (by omega)
  all_goals first|exact zq F|rfl|omega|trivial|skip
 ·rw[aC c1,List.map_nil,List.append_nil,hids]at hq
  refine ee hQ F ?_
  rw[← hq]
  have hz:Frz (sI (Z++(.row 3 1 w (acc.map iA)::j2)) n s a y p v L) Y.length (.hs Z.length w 0 acc.length true) (.sl 1 (acc.map iA)):=by
   refine Frz.data (by rw[← hZ];simp) (e:=3) (by rw[hgr];simp[getRow]) (by simp) (fun r hr=>?_) (fun r hr=>?_)
   ·obtain⟨x,_,rfl⟩:=List.mem_map.1 hr;exact .int _ _
   ·obtain⟨x,_,rfl⟩:=List.mem_map.1 hr;intro c hc;simp[AVal.cells,iA]at hc;subst hc;rfl
  have e:sI (Z++(.row 3 1 w (acc.map iA)::j2)) n s a y p v L=sa (Y++ov (.row 74 1 0 [.fn (.func g) [] cap]::(j++(.row 3 1 w (acc.map iA)::j2))) (p-Y.length) [rI v L]) n s a y:=by
   unfold sI
   rw[← hZ,List.append_assoc]
   rw[show(Blk.row 74 1 0 [.fn (.func g) [] cap]::j)++(.row 3 1 w (acc.map iA)::j2)=.row 74 1 0 [.fn (.func g) [] cap]::(j++(.row 3 1 w (acc.map iA)::j2))from rfl,kz _ (by omega)]
  rw[e]at hz ⊢
  exact uT hn hm hz ⟨rfl,y,hy,rfl⟩
end
end Go.Av
namespace Go.Av
open Go Go.Proofs Go.RowKit
attribute [local irreducible] WP WPl WPix Sat
variable (G:Nat→Option (List AVal))
def wi(X:Heap)(n:Nat)(s:PS)(q:Qy)(y:ML Int (List Int)×Nat)(j:Heap):Heap:=so (X++(.row 25 4 0 [q.av]::am y.1 y.2::ar n (X.length+1):: .row 70 1 0 [.hp (X.length+2) 0 0 0]::j)) n s
def yi(X:Heap)(n:Nat)(q:Qy)(j:Heap):Heap:=X++(.row 25 4 0 [q.av]::am [] 0::ar n (X.length+1):: .row 70 1 0 [.hp (X.length+2) 0 0 0]::j)
theorem pu(X:Heap)(n:Nat)(s:PS)(q:Qy)(y:ML Int (List Int)×Nat)(j:Heap):sa (yi X n q j) n s (X.length+1) y=wi X n s q y j:=by
 have:=gD (X:=X++[.row 25 4 0 [q.av]]) (n:=n) (s:=s) y (am [] 0) (ar n (X.length+1)) (.row 70 1 0 [.hp (X.length+2) 0 0 0]::j)
 rw[List.length_append,List.length_singleton]at this
 unfold yi wi
 rw[List.append_assoc,List.append_assoc]at this
 exact this
theorem lT(X:Heap)(n:Nat)(q:Qy)(j k:Heap):yi X n q j++k=yi X n q (j++k):=by
 unfold yi;rw[List.append_assoc];rfl
theorem je(X:Heap)(n:Nat)(q:Qy)(j:Heap):(yi X n q j).length=X.length+4+j.length:=by
 unfold yi;simp;omega
theorem jf(s:PS)(hI:s.Inv)(q:Qy)(hqz:q.sz≤20000)(hqa:q.all pnF=true){X:Heap}{n:Nat}(hn:n+9≤X.length)(t:It)(htt:t.title.length≤256)(htg:t.tags.length≤1048576)(x:ML Int (List Int)×Nat)(hx:Gd s x)(j:Heap):
  Sat (CT G) 36 ([]++[t.av]++[.hp (X.length+3) 0 0 0,.hp X.length 0 0 0]) (sa (yi X n q j) n s (X.length+1) x) (fun r h'=>r=.bool (q.bel s t)∧∃y,Gd s y∧h'=sa (yi X n q j) n s (X.length+1) y):=by
 have hB:=nE G s hI t htt htg (n:=n) (a:=X.length+1) (by omega) q hqz hqa (yi X n q (j++[.row 49 9 0 [t.av]])) x (by rw[je];omega) hx
 have hF:=fun y (hy:Gd s y)=>bm (x:=x) (y:=y) (s:=s) (n:=n) (a:=X.length+1) (Y:=yi X n q j) (j:=[.row 49 9 0 [t.av]]) (R:=fun r h'=>r=.bool (q.bel s t)∧∃y,Gd s y∧h'=sa (yi X n q j) n s (X.length+1) y) (r:=.bool (q.bel s t)) (by omega) (by rw[je];omega) (fun N=>.bool _) ⟨rfl,y,hy,rfl⟩
 simp only[lT,pu]at hB hF ⊢
 generalize q.bel s t=b at*
 unfold wi at hB hF ⊢
 clear hqz hqa
 obtain⟨qo,qn,qs,qk⟩:=q
 rw[Qy.av_eq]at*
 have hn1:∀j:Heap,n+9≤(X++j).length:=fun j=>by simp;omega
 have F:=F3 hn hn1 @ap
 refine sb [.tmp 4] (fn:=Tryz.f36) Tryz.func36 ?_
 intro Q hQ
 refine wk F ?_
 refine hB.mono ?_
 rintro r h' ⟨rfl,y,hy,rfl⟩
 try refine sq F ?_
 refine wk F ?_
 refine ee hQ F ?_
 exact hF y hy
theorem ff(s:PS)(hI:s.Inv)(hT:s.Tt)(q:Qy)(hq:q.Fit){X:Heap}{n:Nat}(hn:n+9≤X.length):Sat (CT G) 12 [.hp (n+8) 0 0 0,q.av] (so X n s) (fun r h'=>r=.tup (if q.ok then [.sl 1 ((itmF s fun t=>q.bel s t).map iA),.int .i64 0]else [.nil (.slice none 0 0),.int .i64 250])∧h'=so X n s):=by
 have hC:=fun h=>dv G q h hq.1 hq.2
 have hn1:∀j:Heap,n+9≤(X++j).length:=fun j=>by simp;omega
 cases hok:q.ok with
 |false=>
  rw[hok]at hC
  clear hq
  obtain⟨qo,qn,qs,qk⟩:=q
  rw[Qy.av_eq]at*
  have F:=F2 hn hn1
  refine sb [.tmp 4,.tmp 5] (fn:=Tryz.f12) Tryz.func12 ?_
  intro Q hQ
  refine wk F ?_
  refine(hC _).mono ?_
  rintro r h' ⟨rfl,rfl⟩
  try refine sq F ?_
  refine wk F ?_
  refine ee hQ F ?_
  exact ai hn (.tup _ fun y hy=>by simp at hy;rcases hy with rfl|rfl<;>constructor) ⟨rfl,rfl⟩
 |true=>
  have hok':=hok
  unfold Qy.ok at hok'
  simp only[Bool.and_eq_true,decide_eq_true_eq]at hok'
  obtain⟨rQ,hrQ⟩:∃rQ:Blk,rQ=.row 25 4 0 [q.av]:=⟨_,rfl⟩
  have hlX:(X++[rQ]).length=X.length+1:=by simp
  have hO:=lS G s (X:=X++[rQ]) (n:=n) (by omega)
  have hP:=fb G (s:=s) (Y:=yi X n q []) (n:=n) (a:=X.length+1) hI (by omega) (by rw[je];omega) (fun t=>q.bel s t) 36 [.hp (X.length+3) 0 0 0,.hp X.length 0 0 0] (fun t ht x hx j=>by
   obtain⟨id,hid⟩:∃id,lkM s.it id=some t:=jd hI ((fa hI).mem_iff.1 ht)
   have htg:=(hI.tags id).2
   rw[hid,Option.getD_some]at htg
   have:=jf G s hI q (hq.2 hok'.1) hok'.2.2 hn t (hT id t hid) (by omega) x hx j
   rw[lT]
   exact this) ([],0) ⟨.nil,fun _ _ h=>by cases h⟩
  simp only[pu]at hP
  unfold wi at hP
  rw[hlX]at hO
  have e:sa (X++[rQ]++[am [] 0,ar n (X.length+1)]) n s (X.length+1) ([],0)=so (X++[rQ,am [] 0,ar n (X.length+1)]) n s:=by
   have:=gD (X:=X++[rQ]) (n:=n) (s:=s) ([],0) (am [] 0) (ar n (X.length+1)) []
   rw[hlX]at this
   rw[this,List.append_assoc];rfl
  rw[e]at hO
  subst hrQ
  rw[hok]at hC
  clear hok' e hlX hq hok
  generalize (itmF s fun t=>q.bel s t)=L at*
  obtain⟨qo,qn,qs,qk⟩:=q
  rw[Qy.av_eq]at*
  have F:=F2 hn hn1
  refine sb [.tmp 4,.tmp 5] (fn:=Tryz.f12) Tryz.func12 ?_
  intro Q hQ
  refine wk F ?_
  refine(hC _).mono ?_
  rintro r h' ⟨rfl,rfl⟩
  try refine sq F ?_
  refine wk F ?_
  refine hO.mono ?_
  rintro r h' ⟨rfl,rfl⟩
  have F:=F4 F hn hn1 @ap
  try refine sq F ?_
  refine wk F ?_
  refine hP.mono ?_
  rintro r h' ⟨rfl,y,hy,rfl⟩
  try refine sq F ?_
  refine wk F ?_
  refine ee hQ F ?_
  exact ai hn (.tup _ fun y hy=>by
   simp only[List.mem_cons,List.not_mem_nil,or_false]at hy
   rcases hy with rfl|rfl
   ·exact .sl _ _ fun r hr=>by obtain⟨x,_,rfl⟩:=List.mem_map.1 hr;exact .int _ _
   ·exact .int _ _) ⟨rfl,rfl⟩
end Go.Av
namespace Go.Av
open Go Go.Proofs Go.RowKit
end Go.Av
namespace Go.Av
open Go Go.Proofs Go.RowKit
theorem lU{s:PS}(hI:s.Inv){f:It→Bool}{x:Ky}:x∈itmK s f↔∃id t,lkM s.it id=some t∧f t=true∧x=t.ky:=by
 unfold itmK
 rw[ie (da hI f),List.mem_map]
 constructor
 ·rintro⟨t,ht,rfl⟩
  obtain⟨h1,h2⟩:=List.mem_filter.1 ht
  obtain⟨id,hid⟩:=jd hI ((fa hI).mem_iff.1 h1)
  exact⟨id,t,hid,h2,rfl⟩
 ·rintro⟨id,t,h1,h2,rfl⟩
  exact⟨t,List.mem_filter.2 ⟨tv h1,h2⟩,rfl⟩
theorem fY{s:PS}(hI:s.Inv){f:It→Bool}{i:Nat}{id:Int}(h:(itmF s f)[i]? =some id):∃t,lkM s.it id=some t∧f t=true∧(itmK s f)[i]? =some t.ky:=by
 unfold itmF at h
 rw[List.getElem?_map]at h
 obtain⟨x,hx,rfl⟩:=Option.map_eq_some_iff.1 h
 obtain⟨k,t,h1,h2,rfl⟩:=(lU hI).1 (List.mem_of_getElem? hx)
 have:=(hI.i3 k t h1).1
 have e:t.ky.i=k:=this
 exact⟨t,by rw[e];exact h1,h2,hx⟩
theorem uU{s:PS}(hI:s.Inv){f:It→Bool}{i:Nat}{a b:Int}{t u:It}(ha:(itmF s f)[i]? =some a)(hb:(itmF s f)[i+1]? =some b)(ht:lkM s.it a=some t)(hu:lkM s.it b=some u):ahd t.ky u.ky=true:=by
 obtain⟨t',h1,_,k1⟩:=fY hI ha
 obtain⟨u',h2,_,k2⟩:=fY hI hb
 rw[ht]at h1;cases h1
 rw[hu]at h2;cases h2
 have hs:Sk (itmK s f):=eP (da hI f)
 obtain⟨p1,q1⟩:=List.getElem?_eq_some_iff.1 k1
 obtain⟨p2,q2⟩:=List.getElem?_eq_some_iff.1 k2
 have:=(List.pairwise_iff_getElem.1 hs) i (i+1) p1 p2 (by omega)
 rw[q1,q2]at this
 exact this
end Go.Av
namespace Go.Av
open Go Go.Proofs Go.RowKit
def l27:List Ev:=[⟨3,1,0,0,[117],[],[]⟩,⟨7,1,1,5,[97],[71,111,32,116,101,97],[]⟩,⟨7,2,1,9,[98],[],[]⟩,⟨7,3,1,9,[99],[],[]⟩,⟨8,3,0,1,[],[],[]⟩,⟨11,1,0,0,[115],[117,110,114,101,97,100],[]⟩,⟨11,2,0,0,[115],[111,114],[]⟩]
def s27:PS:=l27.foldl PS.step1 PS.z
theorem iv:l27.foldl (PS.step L0) PS.z=s27:=by
 show(((((((PS.z.step L0 _).step L0 _).step L0 _).step L0 _).step L0 _).step L0 _).step L0 _)=_
 rw[cL (fg (by kernel_rfl) rfl),cL (fg (by kernel_rfl) rfl),cL (fg (by kernel_rfl) rfl),cL (fg (by kernel_rfl) rfl),cL (fg (by kernel_rfl) rfl),cL (fg (by kernel_rfl) rfl),cL (fg (by kernel_rfl) rfl)]
 rfl
theorem cM:s27.Inv:=by rw[← iv];exact PS.Inv.z.fold l27
theorem jg:s27.Tt:=by rw[← iv];exact PS.Tt.fold PS.Tt.z PS.Inv.z
def t27a:It:=⟨1,1,5,[97],[71,111,32,116,101,97],[],false,false,[]⟩
def t27b:It:=⟨2,1,9,[98],[],[],false,false,[]⟩
def t27c:It:=⟨3,1,9,[99],[],[],true,false,[]⟩
theorem tZ:lkM s27.it 1=some t27a:=by kernel_rfl
theorem pv:lkM s27.it 2=some t27b:=by kernel_rfl
theorem pw:lkM s27.it 3=some t27c:=by kernel_rfl
theorem yU:s27.it.map (·.1)=[1,2,3]:=by kernel_rfl
theorem wK:lkM s27.se 1=some ⟨1,[115],[117,110,114,101,97,100]⟩:=by kernel_rfl
theorem wL:lkM s27.se 2=some ⟨2,[115],[111,114]⟩:=by kernel_rfl
theorem wM:lkM s27.se 3=none:=by kernel_rfl
theorem gE(f:It→Bool)(L:List Ky)(hs:Sk L)(hm:∀x,x∈L↔(f t27a=true∧x=t27a.ky)∨(f t27b=true∧x=t27b.ky)∨(f t27c=true∧x=t27c.ky)):itmF s27 f=L.map (·.i):=by
 have e:itmK s27 f=L:=(eP (da cM f)).uniq hs fun x=>by
  rw[show x∈srtK _↔x∈itmK s27 f from Iff.rfl,lU cM,hm]
  constructor
  ·rintro⟨id,t,ht,hf,rfl⟩
   have hk:id∈s27.it.map (·.1):=tz.2 (by rw[ht];rfl)
   rw[yU]at hk
   simp only[List.mem_cons,List.not_mem_nil,or_false]at hk
   rcases hk with rfl|rfl|rfl
   ·rw[tZ]at ht;cases ht;exact .inl ⟨hf,rfl⟩
   ·rw[pv]at ht;cases ht;exact .inr (.inl ⟨hf,rfl⟩)
   ·rw[pw]at ht;cases ht;exact .inr (.inr ⟨hf,rfl⟩)
  ·rintro(⟨hf,rfl⟩| ⟨hf,rfl⟩| ⟨hf,rfl⟩)
   ·exact⟨1,_,tZ,hf,rfl⟩
   ·exact⟨2,_,pv,hf,rfl⟩
   ·exact⟨3,_,pw,hf,rfl⟩
 unfold itmF
 rw[e]
def k27a:Ky:=⟨5,1,1⟩
def k27b:Ky:=⟨9,2,1⟩
def k27c:Ky:=⟨9,3,1⟩
theorem uV(f:It→Bool)(h1:f t27a=true)(h2:f t27b=true)(h3:f t27c=true):itmF s27 f=[2,3,1]:=
 gE f [k27b,k27c,k27a] (by simp[Sk,ahd,k27a,k27b,k27c]) fun x=>by
  simp only[List.mem_cons,List.not_mem_nil,or_false,h1,h2,h3,true_and]
  exact⟨fun h=>h.elim (fun h=>.inr (.inl h)) fun h=>h.elim (fun h=>.inr (.inr h)) .inl,fun h=>h.elim (fun h=>.inr (.inr h)) fun h=>h.elim .inl fun h=>.inr (.inl h)⟩
theorem wN(f:It→Bool)(h1:f t27a=true)(h2:f t27b=true)(h3:f t27c=false):itmF s27 f=[2,1]:=
 gE f [k27b,k27a] (by simp[Sk,ahd,k27a,k27b]) fun x=>by
  simp only[List.mem_cons,List.not_mem_nil,or_false,h1,h2,h3,true_and,Bool.false_eq_true,false_and]
  exact⟨fun h=>h.elim .inr .inl,fun h=>h.elim .inr .inl⟩
theorem wO(f:It→Bool)(h1:f t27a=true)(h2:f t27b=false)(h3:f t27c=true):itmF s27 f=[3,1]:=
 gE f [k27c,k27a] (by simp[Sk,ahd,k27a,k27c]) fun x=>by
  simp only[List.mem_cons,List.not_mem_nil,or_false,h1,h2,h3,true_and,Bool.false_eq_true,false_and,false_or]
  exact⟨fun h=>h.elim .inr .inl,fun h=>h.elim .inr .inl⟩
theorem yV(f:It→Bool)(h1:f t27a=true)(h2:f t27b=false)(h3:f t27c=false):itmF s27 f=[1]:=
 gE f [k27a] (by simp[Sk]) fun x=>by
  simp only[List.mem_cons,List.not_mem_nil,or_false,h1,h2,h3,true_and,Bool.false_eq_true,false_and]
  exact Iff.rfl
def q27(op:Int)(tx:Bs):Qy:=.mk op 0 tx []
theorem uW:itmF s27 (fun t=>(q27 1 []).bel s27 t)=[2,3,1]:=uV _ (by kernel_rfl) (by kernel_rfl) (by kernel_rfl)
theorem uX:itmF s27 (fun t=>(q27 11 [116,101,97]).bel s27 t)=[1]:=yV _ (by kernel_rfl) (by kernel_rfl) (by kernel_rfl)
theorem uY:itmF s27 (fun t=>(q27 9 []).bel s27 t)=[2,1]:=wN _ (by kernel_rfl) (by kernel_rfl) (by kernel_rfl)
theorem uZ:(q27 1 []).ok=true:=by kernel_rfl
theorem v6:(q27 11 [116,101,97]).ok=true:=by kernel_rfl
theorem jE:(q27 9 []).ok=true:=by kernel_rfl
theorem v7:(q27 0 []).ok=false:=by kernel_rfl
theorem gF(op:Int)(tx:Bs)(h:tx.length≤300):(q27 op tx).Fit:=⟨by unfold q27;rw[Qy.mx,Qy.mxL,List.length_nil];omega,fun _=>by unfold q27;rw[Qy.sz,Qy.szL];omega⟩
theorem yW:s27.eval (q27 9 []) 2=true:=by unfold PS.eval;rw[pv,jE];kernel_rfl
theorem yX:s27.eval (q27 9 []) 3=false:=by unfold PS.eval;rw[pw,jE];kernel_rfl
end Go.Av
namespace Go.Av
open Go Go.Proofs Go.RowKit
attribute [local irreducible] WP WPl WPix Sat
variable (G:Nat→Option (List AVal))
theorem dR(s:PS)(id:Int){H:Heap}{n:Nat}(hn:n+9≤H.length):Sat (CT G) 49 [.hp (n+8) 0 0 0,.int .i64 id] (so H n s) (fun r h'=>r=.tup [((lkM s.se id).getD Se.z).av,.bool (lkM s.se id).isSome]∧h'=so H n s):=by
 refine sb [.cell 4 97,.tmp 5] (fn:=Tryz.f49) Tryz.func49 ?_
 intro Q hQ
 refine wk trivial ?_
 refine ye hQ trivial ?_
 exact ai hn (.tup _ fun x hx=>by
  simp only[List.mem_cons,List.not_mem_nil,or_false]at hx
  rcases hx with rfl|rfl
  ·exact .agg _ fun y hy=>by
    simp only[List.mem_cons,List.not_mem_nil,or_false]at hy
    rcases hy with rfl|rfl|rfl<;>constructor
  ·exact .bool _) ⟨rfl,rfl⟩
section
variable {s:PS} {Y:Heap} {n a:Nat}
theorem rn(hn:n+9≤a)(hm:a+2≤Y.length)(l:List Int)(hl:l.length≤1048576)(t:It)(x:ML Int (List Int)×Nat)(hx:Gd s x)(j:Heap):
  Sat (CT G) 51 ([]++[t.av]++[.hp Y.length 0 0 0]) (sa (Y++(.row 38 1 0 [.sl 1 (l.map iA)]::j)) n s a x) (fun r h'=>r=.bool (l.any fun b=>decide (t.id=b))∧∃y,Gd s y∧h'=sa (Y++(.row 38 1 0 [.sl 1 (l.map iA)]::j)) n s a y):=by
 have hm1:∀j:Heap,a+2≤(Y++j).length:=fun j=>by simp;omega
 have F:=F4 hm hn hm1 @ap
 refine sb [.tmp 3] (fn:=Tryz.f51) Tryz.func51 ?_
 intro Q hQ
 refine wk F ?_
 refine kq F (kp G l t.id hl _) ?_
 refine ee hQ F ?_
 have:=bm (x:=x) (s:=s) (j:=[.row 49 9 0 [t.av]]) (R:=fun r h'=>r=.bool (l.any fun b=>decide (t.id=b))∧∃y,Gd s y∧h'=sa (Y++(.row 38 1 0 [.sl 1 (l.map iA)]::j)) n s a y) (r:=.bool (l.any fun b=>decide (t.id=b))) hn (hm1 (.row 38 1 0 [.sl 1 (l.map iA)]::j)) (fun N=>.bool _) (y:=x) ⟨rfl,x,hx,rfl⟩
 rwa [List.append_assoc]at this
theorem tP(hI:s.Inv)(hn:n+9≤a)(hm:a+2≤Y.length)(l:List Int)(hl:l.length≤1048576)(x:ML Int (List Int)×Nat)(hx:Gd s x):
  Sat (CT G) 28 [.hp (n+8) 0 0 0,.sl 1 (l.map iA)] (sa Y n s a x) (fun r h'=>r=.sl 1 ((itmF s fun t=>l.any fun b=>decide (t.id=b)).map iA)∧∃y,Gd s y∧h'=sa Y n s a y):=by
 have hm1:∀j:Heap,a+2≤(Y++j).length:=fun j=>by simp;omega
 have hP:=fb G (s:=s) (Y:=Y++[.row 38 1 0 [.sl 1 (l.map iA)]]) hI hn (hm1 _) (fun t=>l.any fun b=>decide (t.id=b)) 51 [.hp Y.length 0 0 0] (fun t _ x hx j=>by
  have e:Y++[Blk.row 38 1 0 [.sl 1 (l.map iA)]]++j=Y++(Blk.row 38 1 0 [.sl 1 (l.map iA)]::j):=by rw[List.append_assoc];rfl
  rw[e]
  exact rn G hn hm l hl t x hx j) x hx
 generalize (itmF s fun t=>l.any fun b=>decide (t.id=b))=L at*
 have F:=F3 hm hn hm1
 refine sb [.tmp 4] (fn:=Tryz.f28) Tryz.func28 ?_
 intro Q hQ
 refine wk F ?_
 refine hP.mono ?_
 rintro r h' ⟨rfl,y,hy,rfl⟩
 try refine sq F ?_
 refine wk F ?_
 refine ee hQ F ?_
 exact bm hn hm (fun N=>.sl _ _ fun r hr=>by obtain⟨x,_,rfl⟩:=List.mem_map.1 hr;exact .int _ _) ⟨rfl,y,hy,rfl⟩
end
theorem mW(s:PS)(hI:s.Inv)(hT:s.Tt)(q:Qy)(hq:q.Fit)(hok:q.ok=true){X:Heap}{n:Nat}(hn:n+9≤X.length):Sat (CT G) 12 [.hp (n+8) 0 0 0,q.av] (so X n s) (fun r h'=>r=.tup [.sl 1 ((itmF s fun t=>q.bel s t).map iA),.int .i64 0]∧∃(b:Blk) (y:ML Int (List Int)×Nat) (k:Heap),Gd s y∧h'=so (X++(b::am y.1 y.2::ar n (X.length+1)::k)) n s):=by
 have hC:=fun h=>dv G q h hq.1 hq.2
 have hn1:∀j:Heap,n+9≤(X++j).length:=fun j=>by simp;omega
 have hok':=hok
 unfold Qy.ok at hok'
 simp only[Bool.and_eq_true,decide_eq_true_eq]at hok'
 obtain⟨rQ,hrQ⟩:∃rQ:Blk,rQ=.row 25 4 0 [q.av]:=⟨_,rfl⟩
 have hlX:(X++[rQ]).length=X.length+1:=by simp
 have hO:=lS G s (X:=X++[rQ]) (n:=n) (by omega)
 have hP:=fb G (s:=s) (Y:=yi X n q []) (n:=n) (a:=X.length+1) hI (by omega) (by rw[je];omega) (fun t=>q.bel s t) 36 [.hp (X.length+3) 0 0 0,.hp X.length 0 0 0] (fun t ht x hx j=>by
  obtain⟨id,hid⟩:∃id,lkM s.it id=some t:=jd hI ((fa hI).mem_iff.1 ht)
  have htg:=(hI.tags id).2
  rw[hid,Option.getD_some]at htg
  have:=jf G s hI q (hq.2 hok'.1) hok'.2.2 hn t (hT id t hid) (by omega) x hx j
  rw[lT]
  exact this) ([],0) ⟨.nil,fun _ _ h=>by cases h⟩
 simp only[pu]at hP
 unfold wi at hP
 rw[hlX]at hO
 have e:sa (X++[rQ]++[am [] 0,ar n (X.length+1)]) n s (X.length+1) ([],0)=so (X++[rQ,am [] 0,ar n (X.length+1)]) n s:=by
  have:=gD (X:=X++[rQ]) (n:=n) (s:=s) ([],0) (am [] 0) (ar n (X.length+1)) []
  rw[hlX]at this
  rw[this,List.append_assoc];rfl
 rw[e]at hO
 subst hrQ
 rw[hok]at hC
 clear hok' e hlX hq hok
 generalize (itmF s fun t=>q.bel s t)=L at*
 obtain⟨qo,qn,qs,qk⟩:=q
 rw[Qy.av_eq]at*
 have F:=F2 hn hn1
 refine sb [.tmp 4,.tmp 5] (fn:=Tryz.f12) Tryz.func12 ?_
 intro Q hQ
 refine wk F ?_
 refine(hC _).mono ?_
 rintro r h' ⟨rfl,rfl⟩
 try refine sq F ?_
 refine wk F ?_
 refine hO.mono ?_
 rintro r h' ⟨rfl,rfl⟩
 have F:=F4 F hn hn1 @ap
 try refine sq F ?_
 refine wk F ?_
 refine hP.mono ?_
 rintro r h' ⟨rfl,y,hy,rfl⟩
 try refine sq F ?_
 refine wk F ?_
 refine ee hQ F ?_
 exact Fin.whole (by rw[aF hn,aF (hn1 _)];simp) (.tup _ fun y hy=>by
  simp only[List.mem_cons,List.not_mem_nil,or_false]at hy
  rcases hy with rfl|rfl
  ·exact .sl _ _ fun r hr=>by obtain⟨x,_,rfl⟩:=List.mem_map.1 hr;exact .int _ _
  ·exact .int _ _) ⟨rfl,_,y,_,hy,rfl⟩
theorem nG(N:Nat)(e:Int):Clo N (.tup [.nil (.slice none 0 0),.int .i64 e]):=.tup _ fun y hy=>by
 simp only[List.mem_cons,List.not_mem_nil,or_false]at hy
 rcases hy with rfl|rfl<;>constructor
theorem wP{p q q':AVal}(hq:Wk q q'):∀(i:Nat) (x y:AVal),[p,q][i]? =some x→[p,q'][i]? =some y→Wk x y:=fun i x y hx hy=>by
 match i with
 |0=>simp at hx hy;subst hx;subst hy;exact Wk.refl _
 |1=>simp at hx hy;subst hx;subst hy;exact hq
 |i+2=>simp at hx
theorem FK{p q q' r:AVal}(hq:Wk q q'):∀(i:Nat) (x y:AVal),[p,q,r][i]? =some x→[p,q',r][i]? =some y→Wk x y:=fun i x y hx hy=>by
 match i with
 |0=>simp at hx hy;subst hx;subst hy;exact Wk.refl _
 |1=>simp at hx hy;subst hx;subst hy;exact hq
 |2=>simp at hx hy;subst hx;subst hy;exact Wk.refl _
 |i+3=>simp at hx
section
variable {X:Heap} {n:Nat} (hn:n+9≤X.length)
include hn
theorem nH(op:Int)(tx:Bs)(hl:tx.length≤300){L:List Int}(hok:(q27 op tx).ok=true)(hL:itmF s27 (fun t=>(q27 op tx).bel s27 t)=L):Sat (CT G) 12 [.hp (n+8) 0 0 0,.agg [.int .i64 op,.int .i64 0,.str tx,.nil (.slice none 0 0)]] (so X n s27) (fun r h'=>r=.tup [.sl 1 (L.map iA),.int .i64 0]∧h'=so X n s27):=by
 have:=ff G s27 cM jg (q27 op tx) (gF op tx hl) hn
 rw[hok,hL]at this
 exact Sat.wk (ys:=[.hp (n+8) 0 0 0,(Qy.mk op 0 tx []).av]) rfl (wP (j7 op 0 tx)) this
theorem tQ:Sat (CT G) 12 [.hp (n+8) 0 0 0,.agg [.int .i64 1,.int .i64 0,.str [],.nil (.slice none 0 0)]] (so X n s27) (fun r h'=>r=.tup [.sl 1 ([2,3,1].map iA),.int .i64 0]∧∃(b:Blk) (y:ML Int (List Int)×Nat) (k:Heap),Gd s27 y∧h'=so (X++(b::am y.1 y.2::ar n (X.length+1)::k)) n s27):=by
 have:=mW G s27 cM jg (q27 1 []) (gF 1 [] (by simp)) uZ hn
 rw[uW]at this
 exact Sat.wk (ys:=[.hp (n+8) 0 0 0,(Qy.mk 1 0 [] []).av]) rfl (wP (j7 1 0 [])) this
theorem tR:Sat (CT G) 12 [.hp (n+8) 0 0 0,.agg [.int .i64 0,.int .i64 0,.str [],.nil (.slice none 0 0)]] (so X n s27) (fun r h'=>r=.tup [.nil (.slice none 0 0),.int .i64 250]∧h'=so X n s27):=by
 have:=ff G s27 cM jg (q27 0 []) (gF 0 [] (by simp)) hn
 rw[v7]at this
 exact Sat.wk (ys:=[.hp (n+8) 0 0 0,(Qy.mk 0 0 [] []).av]) rfl (wP (j7 0 0 [])) this
theorem nI(id:Int){b:Bool}(hb:s27.eval (q27 9 []) id=b):Sat (CT G) 14 [.hp (n+8) 0 0 0,.agg [.int .i64 9,.int .i64 0,.str [],.nil (.slice none 0 0)],.int .i64 id] (so X n s27) (fun r h'=>r=.bool b∧h'=so X n s27):=by
 have:=kw G s27 cM jg (q27 9 []) (gF 9 [] (by simp)) id hn
 rw[hb]at this
 exact Sat.wk (ys:=[.hp (n+8) 0 0 0,(Qy.mk 9 0 [] []).av,.int .i64 id]) rfl (FK (j7 9 0 [])) this
theorem pz:Sat (CT G) 27 [.hp (n+8) 0 0 0,.int .i64 3] (so X n s27) (fun r h'=>r=.tup [.nil (.slice none 0 0),.int .i64 4]∧h'=so X n s27):=by
 have hS:=dR G s27 3 hn
 simp only[wM,Option.isSome_none,Option.getD_none]at hS
 have F:=hn
 refine sb [.tmp 4,.tmp 5] (fn:=Tryz.f27) Tryz.func27 ?_
 intro Q hQ
 refine wk F ?_
 refine kq F (hS) ?_
 refine ee hQ F ?_
 exact ai hn (nG _ _) ⟨rfl,rfl⟩
theorem pA(hG:GOk G)(hc:GClo (CT G)):Sat (CT G) 27 [.hp (n+8) 0 0 0,.int .i64 1] (so X n s27) (fun r h'=>r=.tup [.sl 1 ([2,1].map iA),.int .i64 0]∧h'=so X n s27):=by
 have hS:=dR G s27 1 hn
 simp only[wK,Option.isSome_some,Option.getD_some]at hS
 have hi:=fun(j:Heap)=>nH G (X:=X++j) (n:=n) (by simp;omega) 9 [] (by simp) jE uY
 have hn1:∀j:Heap,n+9≤(X++j).length:=fun j=>by simp;omega
 have F:=F2 hn hn1
 refine sb [.tmp 4,.tmp 5] (fn:=Tryz.f27) Tryz.func27 ?_
 intro Q hQ
 refine wk F ?_
 refine kq F (hS) ?_
 refine kq F (ph G hG hc _) ?_
 refine kq F (hi _) ?_
 refine ee hQ F ?_
 exact ai hn (.tup _ fun y hy=>by
  simp only[List.mem_cons,List.not_mem_nil,or_false]at hy
  rcases hy with rfl|rfl
  ·exact .sl _ _ fun r hr=>by
    simp only[List.mem_cons,List.not_mem_nil,or_false]at hr
    rcases hr with rfl|rfl<;>exact .int _ _
  ·exact .int _ _) ⟨rfl,rfl⟩
theorem pB(hG:GOk G)(hc:GClo (CT G)):Sat (CT G) 27 [.hp (n+8) 0 0 0,.int .i64 2] (so X n s27) (fun r h'=>r=.tup [.nil (.slice none 0 0),.int .i64 250]∧h'=so X n s27):=by
 have hS:=dR G s27 2 hn
 simp only[wL,Option.isSome_some,Option.getD_some]at hS
 have hn1:∀j:Heap,n+9≤(X++j).length:=fun j=>by simp;omega
 have F:=F2 hn hn1
 refine sb [.tmp 4,.tmp 5] (fn:=Tryz.f27) Tryz.func27 ?_
 intro Q hQ
 refine wk F ?_
 refine kq F (hS) ?_
 refine kq F (pg G hG hc _) ?_
 refine ee hQ F ?_
 exact ai hn (nG _ _) ⟨rfl,rfl⟩
end
end Go.Av
namespace Go.Av
open Go Go.Proofs Go.RowKit
attribute [local irreducible] WP WPl WPix Sat
variable (G:Nat→Option (List AVal))
theorem wQ{h j:Heap}{n:Nat}{s:PS}(hm:n+9≤(h++j).length)(hh:h.length≤n):∃j',so (h++j) n s=h++j':=by
 refine⟨(so (h++j) n s).drop h.length,?_⟩
 have hl:=aF (s:=s) hm
 apply List.ext_getElem?
 intro p
 by_cases hp:p<h.length
 ·rw[List.getElem?_append_left hp]
  unfold so
  rw[lc (by show n+9≤_;omega) (.inl (by omega)),List.getElem?_append_left hp]
 ·rw[List.getElem?_append_right (by omega),List.getElem?_drop]
  congr 1
  omega
theorem rt{h Y:Heap}{n:Nat}{s:PS}{R:AVal→Heap→Prop}{b:Bool}(hm:n+9≤Y.length)(hp:∃j,Y=h++j)(hh:h.length≤n)(hR:R (.bool b) h):Fin h (so Y n s) R (.bool b):=by
 obtain⟨j,rfl⟩:=hp
 obtain⟨j',he⟩:=wQ (s:=s) hm hh
 rw[he]
 exact Fin.plainE (j:=j') rfl (.bool _) hR
theorem wR:(itmF s27 fun t=>[1,7,3,1].any fun b=>decide (t.id=b))=[3,1]:=wO _ (by kernel_rfl) (by kernel_rfl) (by kernel_rfl)
theorem v8:ahd ⟨0,2,0⟩ ⟨0,3,0⟩=true:=by kernel_rfl
theorem gY(hG:GOk G)(hc:GClo (CT G))(h:Heap):Sat (CT G) 9 [] h (fun r h'=>r=.bool true∧h'=h):=by
 have hF:=kg G l27 (by decide) h
 rw[iv]at hF
 have hz9:(PS.z.bl h.length).length=9:=rfl
 obtain⟨H0,hH0⟩:∃H0,H0=h++PS.z.bl h.length:=⟨_,rfl⟩
 rw[← hH0]at hF
 have hl0:H0.length=h.length+9:=by rw[hH0];simp[hz9]
 have hn0:∀j:Heap,h.length+9≤(H0++j).length:=fun j=>by simp;omega
 have hIt0:=tQ G (X:=H0) (n:=h.length) (by omega)
 have F:=hn0
 refine sb [.tmp 0] (fn:=Tryz.f9) Tryz.func9 ?_
 intro Q hQ
 refine wk F ?_
 refine kq F (hF) ?_
 refine hIt0.mono ?_
 rintro r h' ⟨rfl,b,y,k,hy,rfl⟩
 obtain⟨H1,hH1⟩:∃H1,H1=H0++(b::am y.1 y.2::ar h.length (H0.length+1)::k):=⟨_,rfl⟩
 rw[← hH1]
 have hn1:h.length+9≤H1.length:=by rw[hH1];simp;omega
 have hlb:(H0++[b]).length=H0.length+1:=by simp
 have e1:∀z,sa H1 h.length s27 (H0.length+1) z=so (H0++(b::am z.1 z.2::ar h.length (H0.length+1)::k)) h.length s27:=fun z=>by
  have:=gD (X:=H0++[b]) (n:=h.length) (s:=s27) z (am y.1 y.2) (ar h.length (H0.length+1)) k
  rw[hlb,List.append_assoc,List.append_assoc]at this
  rw[hH1];exact this
 have hSo:=tP G (s:=s27) (Y:=H1) (n:=h.length) (a:=H0.length+1) cM (by omega) (by rw[hH1];simp;omega) [1,7,3,1] (by simp) y hy
 rw[wR]at hSo
 simp only[e1]at hSo
 rw[← hH1]at hSo
 have hsm:∀(l:List Int) (h:Heap),l.length≤1000→Sat (CT G) 16 [.sl 1 (l.map iA),.sl 1 (l.map iA)] h (fun r h'=>r=.bool true∧h'=h):=fun l h hl=>by
  have:=rk G l l (by omega) (by omega) h
  rwa [decide_eq_true (rfl:l=l)]at this
 have hah:=fun h=>o9 G 0 2 0 3 h
 rw[v8]at hah
 have df:∀i:Decidable False, @decide False i=false:=fun i=>by simp
 have dt:∀i:Decidable True, @decide True i=true:=fun i=>by simp
 have F:=F4 F hn1 df dt
 try refine sq F ?_
 refine wk F ?_
 refine kq F (nH G hn1 11 [116,101,97] (by simp) v6 uX) ?_
 refine kq F (pA G hn1 hG hc) ?_
 refine kq F (pB G hn1 hG hc) ?_
 refine kq F (pz G hn1) ?_
 refine kq F (tR G hn1) ?_
 refine hSo.mono ?_
 rintro r h' ⟨rfl,z,hz,rfl⟩
 obtain⟨H2,hH2⟩:∃H2,H2=H0++(b::am z.1 z.2::ar h.length (H0.length+1)::k):=⟨_,rfl⟩
 rw[← hH2]
 have hn2:h.length+9≤H2.length:=by rw[hH2];simp;omega
 have F:=F2 F hn2
 try refine sq F ?_
 refine wk F ?_
 refine kq F (hsm [2,3,1] _ (by simp)) ?_
 refine kq F (hsm [1] _ (by simp)) ?_
 refine kq F (hsm [2,1] _ (by simp)) ?_
 refine kq F (hsm [3,1] _ (by simp)) ?_
 refine kq F (nI G hn2 2 yW) ?_
 refine kq F (nI G hn2 3 yX) ?_
 refine kq F (hah _) ?_
 refine ee hQ F ?_
 exact rt hn2 ⟨PS.z.bl h.length++(b::am z.1 z.2::ar h.length (H0.length+1)::k),by rw[hH2,hH0,List.append_assoc]⟩ (Nat.le_refl _) ⟨rfl,rfl⟩
end Go.Av
namespace Go.Av
open Go Go.Proofs Go.RowKit
namespace Qy
end Qy
end Go.Av
namespace Go.Av
open Go Go.Proofs Go.RowKit
attribute [local irreducible] WP WPl WPix Sat
theorem wT{H j:Heap}{n p:Nat}{s:PS}(hn:n+9≤(H++j).length)(hp:p<n)(hl:n≤H.length)(u:Nat):getRow (so (H++j) n s) p u=getRow H p u:=by
 unfold so
 rw[gd u (by show n+9≤_;omega) (.inl hp),bk u (by omega)]
variable (G:Nat→Option (List AVal))
end Go.Av
namespace Go.Av
open Go Go.Proofs Go.RowKit
attribute [local irreducible] WP WPl WPix Sat
theorem va{s:PS}(hI:s.Inv)(f:It→Bool):(itmF s f).length=s.tell.it.countP f:=by
 unfold itmF itmK
 rw[List.length_map]
 have hp:(srtK ((s.tell.it.filter f).map It.ky)).Perm ((s.tell.it.filter f).map It.ky):=by
  refine(List.perm_ext_iff_of_nodup (eP (da hI f)).nd ?_).2 fun x=>ie (da hI f) x
  have:=da hI f
  rw[List.nodup_iff_pairwise_ne,List.pairwise_map]at this
  exact List.nodup_iff_pairwise_ne.2 (this.imp fun h e=>h (by rw[e]))
 rw[hp.length_eq,List.length_map, ← List.countP_eq_length_filter]
theorem tS{α:Type}{l:List α}{k:Nat}{x:α}(f:α→Bool)(h:l[k]? =some x):(l.take (k+1)).countP f=(l.take k).countP f+if f x=true then 1 else 0:=by
 rw[List.take_add_one,h,List.countP_append]
 show _+[x].countP f=_
 rw[List.countP_singleton]
variable (G:Nat→Option (List AVal))
theorem jF(hG:GOk G)(hc:GClo (CT G))(es:List Ev)(q:Qy)(hq:q.mx≤9223372036854775807)(h:Heap):Sat (CT G) 5 [.sl 7 (es.map Ev.av),q.av] h (fun r h'=>r=.bool true∧h'=h):=by
 have hLg:=j5 G es
 have hLa:=fun h=>oB G q h hq
 by_cases hg:lgF es=false∧decide (q.left 0 300≤0)=false∧q.ok=true
 ·obtain⟨hlg,hla,hok⟩:=hg
  have fq:q.Fit:=⟨hq,fun hd=>Nat.le_trans (Qy.small (by simpa using hla) hd) (by omega)⟩
  have hCk:=fun h=>gX G hc _ h fq.1 fq.2
  rw[hlg]at hLg
  rw[hla]at hLa
  rw[hok]at hCk
  have hel:es.length≤150:=by
   unfold lgF at hlg
   rw[Bool.or_eq_false_iff]at hlg
   have:=hlg.1
   simp only[decide_eq_false_iff_not]at this
   omega
  have hI:(es.foldl (PS.step L0) PS.z).Inv:=PS.Inv.z.fold es
  have hT:(es.foldl (PS.step L0) PS.z).Tt:=PS.Tt.fold PS.Tt.z PS.Inv.z
  obtain⟨rA,hrA⟩:∃rA,Blk.row 25 4 0 [q.av]=rA:=⟨_,rfl⟩
  have hfh:=kg G es (by omega) (h++[rA])
  have hnl:(h++[rA]).length=h.length+1:=by simp
  rw[hnl]at hfh
  generalize es.foldl (PS.step L0) PS.z=s at hI hT hfh
  have hz9:(PS.z.bl (h.length+1)).length=9:=rfl
  obtain⟨H0,hH0⟩:∃H0,H0=h++[rA]++PS.z.bl (h.length+1):=⟨_,rfl⟩
  rw[← hH0]at hfh
  have hl0:H0.length=h.length+10:=by rw[hH0];simp[hz9]
  have hn0:∀j:Heap,h.length+1+9≤(H0++j).length:=fun j=>by simp;omega
  have hpre:∀j,∃j',H0++j=h++j':=fun j=>⟨[rA]++(PS.z.bl (h.length+1)++j),by rw[hH0];simp only[List.append_assoc]⟩
  have r0a:getRow (h++[rA]) h.length 0=some (25,4,[q.av]):=by rw[aO _ rfl, ← hrA];rfl
  have hra:∀j,getRow (so (H0++j) (h.length+1) s) h.length 0=some (25,4,[q.av]):=fun j=>by
   rw[wT (hn0 j) (by omega) (by omega),hH0,bk _ (by simp),r0a]
  have hra0:=hra []
  have hn00:=hn0 []
  rw[List.append_nil]at hra0 hn00
  have hE:=fun(id:Int) (j:Heap)=>kw G s hI hT q fq id (X:=H0++j) (n:=h.length+1) (hn0 j)
  have hTl:=iT G s hI.toOk (H:=H0) (n:=h.length+1) hn00
  have hIm:=ff G s hI hT q fq (X:=H0) (n:=h.length+1) hn00
  rw[hok]at hIm
  have hIt:=fun(id:Int) (j:Heap)=>iS G s id (by have:=(hI.tags id).2;omega) (H:=H0++j) (n:=h.length+1) (hn0 j)
  have hxl:s.tell.it.length≤100000:=by have:=eY (z:=It.z) s.it;have:=hI.l3;show(valsM It.z s.it).length≤_;omega
  have hev:∀t∈s.tell.it,s.eval q t.id=q.bel s t:=fun t ht=>by
   obtain⟨k,hk⟩:=jd hI ((fa hI).mem_iff.1 ht)
   unfold PS.eval
   rw[(hI.i3 k t hk).1,hk,hok]
   show(true&&_)=_
   rw[Bool.true_and]
  have hcn:(itmF s fun t=>q.bel s t).length=s.tell.it.countP fun t=>s.eval q t.id:=by
   rw[va hI]
   exact List.countP_congr fun t ht=>by rw[hev t ht]
  have hLl:(itmF s fun t=>q.bel s t).length≤100000:=by rw[hcn];exact Nat.le_trans List.countP_le_length hxl
  have hat:∀(i:Nat) (id:Int),(itmF s fun t=>q.bel s t)[i]? =some id→s.eval q id=true:=fun i id hi=>by
   obtain⟨t,h1,h2,_⟩:=fY hI hi
   unfold PS.eval
   rw[h1,hok]
   show(true&&_)=_
   rw[Bool.true_and];exact h2
  have hah:∀(i:Nat) (a b:Int),(itmF s fun t=>q.bel s t)[i]? =some a→(itmF s fun t=>q.bel s t)[i+1]? =some b→∃t u,lkM s.it a=some t∧lkM s.it b=some u∧ahd t.ky u.ky=true:=fun i a b ha hb=>by
   obtain⟨t,h1,_,_⟩:=fY hI ha
   obtain⟨u,h2,_,_⟩:=fY hI hb
   exact⟨t,u,h1,h2,uU hI ha hb h1 h2⟩
  clear hev fq hok hq hla hT
  generalize (itmF s fun t=>q.bel s t)=L at*
  generalize s.eval q=ev at*
  generalize s.tell=x at*
  obtain⟨qo,qn,qs,qk⟩:=q
  simp only[Qy.av_eq,if_true]at hCk hE hIm hLa hrA r0a hra hra0 ⊢
  have hil:(x.it.map It.av).length=x.it.length:=List.length_map ..
  have hLm:(L.map iA).length=L.length:=List.length_map ..
  have F:=F9 @hrA @r0a hra hra0 hn00 hn0 hil hLm @ap
  refine sb [.tmp 4] (fn:=Tryz.f5) Tryz.func5 ?_
  intro Q hQ
  refine wk F ?_
  refine kq F (hLg _) ?_
  refine kq F (hLa _) ?_
  refine kq F (hCk _) ?_
  refine kq F (hfh) ?_
  refine kq F (gY G hG hc _) ?_
  refine kq F (hIm) ?_
  refine kq F (hTl) ?_
  obtain⟨J,hJ⟩:∃J:Heap,J=[Blk.row 36 9 0 [x.av]]:=⟨_,rfl⟩
  have g2:getRow (so (H0++J) (h.length+1) s) H0.length 0=some (36,9,[x.av]):=by
   rw[bq (hn0 _) _ (by omega),hJ,aO _ rfl];rfl
  unfold St.av at hJ g2
  rw[← hJ]
  have F:=F2 F g2
  refine lm (fun nL tL hL=>∃(k:Nat),x.it.length-k=nL∧so (H0++J) (h.length+1) s=hL∧tL 8=.int .i64 ((x.it.take k).countP fun t=>ev t.id)∧tL 10=.int .i64 k∧k≤x.it.length) ((fun(k:Nat)=>(x.it.length-k:Nat)) (0)) ?_ ?_
  ·refine Wkn.refl ⟨0,rfl,aD,?_,?_,by omega⟩
   all_goals first|exact zq F|rfl|omega|trivial|skip
  rintro _ s1 h' ⟨k,rfl,rfl,e8,e10,hk⟩ K1 hK1
  simp only[aj,ao,Nat.reduceEqDiff, ↓reduceIte]at e8 e10
  have F:=F3 F e8 e10
  refine wk F ?_
  refine cq F (fun c1=>?_) (fun c1=>?_)<;>(try exact c1.elim)<;>(refine wk F ?_)
  ·have c2:k<x.it.length:=by omega
   obtain⟨t,ht,htm⟩:=af c2
   have hct:=tS (fun t:It=>ev t.id) ht
   have hcl:(x.it.take k).countP (fun t=>ev t.id)≤100000:=Nat.le_trans List.countP_le_length (by rw[List.length_take];omega)
   have ka:=hE t.id
   generalize ev t.id=b at*
   cases b
   ·simp only[Bool.false_eq_true, ↓reduceIte,Nat.add_zero]at hct
    have F:=F4 F ht c2 hct
    try refine sq F ?_
    refine wk F ?_
    refine aJ (ka _) ?_
    try refine sq F ?_
    refine wk F ?_
    refine hK1 _ _ _ (Wkn.refl ⟨k+1,rfl,aD,?_,?_,by omega⟩) (by omega)
    all_goals first|exact zq F|rfl|omega|trivial|skip
   ·simp only[↓reduceIte]at hct
    have F:=F4 F ht c2 hct
    try refine sq F ?_
    refine wk F ?_
    refine aJ (ka _) ?_
    try refine sq F ?_
    refine wk F ?_
    refine hK1 _ _ _ (Wkn.refl ⟨k+1,rfl,aD,?_,?_,by omega⟩) (by omega)
    all_goals first|exact zq F|rfl|omega|trivial|skip
  ·obtain⟨Z,hZ⟩:∃Z,Z=H0++J:=⟨_,rfl⟩
   rw[← hZ]
   have hnZ:∀j:Heap,h.length+1+9≤(Z++j).length:=fun j=>by rw[hZ,List.append_assoc];exact hn0 _
   have hzl:h.length+1+9≤Z.length:=by rw[hZ];exact hn0 _
   have hraZ:∀j,getRow (so (Z++j) (h.length+1) s) h.length 0=some (25,4,[.agg [.int .i64 qo,.int .i64 qn,.str qs,.sl 4 (qk.map Qy.av)]]):=fun j=>by rw[hZ,List.append_assoc];exact hra _
   have hEZ:∀(id:Int) (j:Heap),Sat (CT G) 14 [.hp (h.length+1+8) 0 0 0,.agg [.int .i64 qo,.int .i64 qn,.str qs,.sl 4 (qk.map Qy.av)],.int .i64 id] (so (Z++j) (h.length+1) s) (fun r h'=>r=.bool (ev id)∧h'=so (Z++j) (h.length+1) s):=fun id j=>by rw[hZ,List.append_assoc];exact hE id _
   have hIZ:∀(id:Int) (t:It),lkM s.it id=some t→∀(j:Heap),Sat (CT G) 22 [.hp (h.length+1+8) 0 0 0,.int .i64 id] (so (Z++j) (h.length+1) s) (fun r h'=>r=.tup [t.av,.bool true]∧h'=so (Z++j) (h.length+1) s):=fun id t ht j=>by
    have:=hIt id (J++j)
    simp only[ht,Option.getD_some,Option.isSome_some]at this
    rw[hZ,List.append_assoc];exact this
   have hpZ:∀j,∃j',Z++j=h++j':=fun j=>by rw[hZ,List.append_assoc];exact hpre _
   have hce:x.it.take k=x.it:=List.take_of_length_le (by omega)
   rw[hce, ← hcn]at e8
   have F:=F2 (F9 @hrA @r0a hra hra0 hn00 hn0 hil g2 e10) (F6 @hnZ hzl @hraZ hLm e8 @ap)
   refine lm (fun nL tL hL=>∃(i:Nat) (j:Heap),L.length-i=nL∧so (Z++j) (h.length+1) s=hL∧tL 11=.int .i64 i∧i≤L.length) ((fun(i:Nat) (j:Heap)=>(L.length-i:Nat)) (0) ([])) ?_ ?_
   ·refine Wkn.refl ⟨0,[],rfl,by rw[List.append_nil],?_,by omega⟩
    all_goals first|exact zq F|rfl|omega|trivial|skip
   rintro _ s2 h' ⟨i,j,rfl,rfl,e11,hi⟩ K2 hK2
   simp only[aj,ao,Nat.reduceEqDiff, ↓reduceIte]at e11
   have F:=F2 F e11
   refine wk F ?_
   refine cq F (fun d1=>?_) (fun d1=>?_)<;>(try exact d1.elim)<;>(refine wk F ?_)
   ·have d2:i<L.length:=by omega
    obtain⟨id,hid,_⟩:=af d2
    have ke:=hEZ id
    rw[hat i id hid]at ke
    match i,hid,hi,d1,d2,e11 with
    |0,hid,hi,d1,d2,e11=>
     have F:=F3 F hid d2
     try refine sq F ?_
     refine wk F ?_
     refine aJ (ke _) ?_
     try refine sq F ?_
     refine wk F ?_
     refine hK2 _ _ _ (Wkn.refl ⟨1,j,rfl,aD,?_,by omega⟩) (by omega)
     all_goals first|exact zq F|rfl|omega|trivial|skip
    |m+1,hid,hi,d1,d2,e11=>
     obtain⟨ia,hia,_⟩:=af (show m<L.length by omega)
     obtain⟨t,u,h1,h2,h3⟩:=hah m ia id hia hid
     have kt:=hIZ ia t h1
     have ku:=hIZ id u h2
     have kA:=fun h=>pr G t u h
     rw[h3]at kA
     have hm0:(((m+1:Nat):Int)==0)=false:=by simp;omega
     have hm1:((m+1:Nat):Int)-1=m:=by omega
     have F:=F6 F hid hia d2 hm0 hm1
     try refine sq F ?_
     refine wk F ?_
     refine aJ (ke _) ?_
     try refine sq F ?_
     refine wk F ?_
     refine kq F (kt _) ?_
     refine kq F (ku _) ?_
     refine kq F (kA _) ?_
     refine hK2 _ _ _ (Wkn.refl ⟨m+2,j++[.row 49 9 0 [t.av],.row 49 9 0 [u.av]],rfl,aD,?_,by omega⟩) (by omega)
     all_goals first|exact zq F|rfl|omega|trivial|skip
   ·refine ee hQ F ?_
    exact rt (hnZ _) (hpZ _) (by omega) ⟨by simp,rfl⟩
 ·have hb3:lgF es=true∨(lgF es=false∧decide (q.left 0 300≤0)=true)∨(lgF es=false∧decide (q.left 0 300≤0)=false∧q.ok=false):=by
   revert hg
   cases lgF es<;>cases decide (q.left 0 300≤0)<;>cases q.ok<;>simp
  have hCk:decide (q.left 0 300≤0)=false→∀h,Sat (CT G) 19 [q.av] h (fun r h'=>r=.bool q.ok∧h'=h):=fun hb h=>gX G hc q h hq fun hd=>Nat.le_trans (Qy.small (by simpa using hb) hd) (by omega)
  clear hg hq
  generalize lgF es=b1 at*
  generalize decide (q.left 0 300≤0)=b2 at*
  generalize q.ok=b3 at*
  obtain⟨qo,qn,qs,qk⟩:=q
  simp only[Qy.av_eq]at hLa hCk ⊢
  rcases hb3 with rfl| ⟨rfl,rfl⟩| ⟨rfl,rfl,rfl⟩
  all_goals (
   try replace hCk:=hCk rfl
   have hF:(lgF ([]:List Ev)=false):=rfl
   have F:=hF
   refine sb [.tmp 4] (fn:=Tryz.f5) Tryz.func5 ?_
   intro Q hQ
   refine wk F ?_
   repeat (first
    |refine kq F (hLg _) ?_
    |refine kq F (hLa _) ?_
    |refine kq F (hCk _) ?_
    |refine kq F (gY G hG hc _) ?_)
   refine ee hQ F ?_
   exact Fin.plain (.bool _) ⟨rfl,rfl⟩)
end Go.Av
