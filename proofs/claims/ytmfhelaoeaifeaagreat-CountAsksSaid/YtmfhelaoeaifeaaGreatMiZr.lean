/- Counts are how many items belong to the queries of the same kind: for every list of events the call returns true, and its argument reads as before. -/
import Derived.Test.YtmfhelaoeaifeaaGreatMiNn
import Derived.Test.YtmfhelaoeaifeaaGreatMiKf
import Derived.Test.YtmfhelaoeaifeaaGreatMiZl
set_option linter.unusedSimpArgs false
set_option linter.unusedVariables false
set_option linter.unusedSectionVars false
set_option linter.unnecessarySimpa false
set_option maxRecDepth 100000
set_option maxHeartbeats 16000000
namespace Go.Av
open Go Go.Proofs Go.RowKit
attribute [local irreducible] WP WPl WPix Sat
section
variable {s:PS} {e:Ev}
end
variable (G:Nat→Option (List AVal))
end Go.Av
namespace Go.Av
open Go Go.Proofs Go.RowKit
attribute [local irreducible] WP WPl WPix Sat
section
variable {H H':Heap} {n0 e n:Nat} {rows:List AVal} {v:AVal}
end
section
variable {C:Ctx}
end
end Go.Av
namespace Go.Av
open Go Go.Proofs Go.RowKit
attribute [local irreducible] WP WPl WPix Sat
variable (G:Nat→Option (List AVal))
end Go.Av
namespace Go.Av
open Go Go.Proofs Go.RowKit
attribute [local irreducible] WP WPl WPix Sat
variable (G:Nat→Option (List AVal))
end Go.Av
namespace Go.Av
open Go Go.Proofs Go.RowKit
theorem rL{l:List Int}(h:l.Nodup):(sortI l).Pairwise (· < ·):=by
 have h1:(sortI l).Pairwise fun a b=>decide (a≤b)=true:=List.pairwise_mergeSort (fun a b c h1 h2=>by simp at *;omega) (fun a b=>by simp;omega) l
 have h2:(sortI l).Nodup:=cM h
 refine List.Pairwise.imp₂ (R:=fun a b=>decide (a≤b)=true) (S:=fun a b=>a≠b) (fun a b hab hne=>?_) h1 h2
 simp at hab;omega
section
variable {α:Type} {z:α} {key:α→Int} {l:ML Int α} {c:Nat}
theorem rM(w:WFM l c)(hid:∀k a,lkM l k=some a→key a=k):((valsM z l).map key).Pairwise (· < ·):=by
 rw[eH w key hid];exact rL w.keys
end
end Go.Av
namespace Go.Av
open Go Go.Proofs Go.RowKit
theorem pY{s:PS}(h:s.Inv):(s.tell.it.map (·.id)).Nodup:=
 (rM (z:=It.z) h.w3 fun k a hk=>(h.i3 k a hk).1).imp fun hab e=>by omega
end Go.Av
namespace Go.Av
open Go Go.Proofs Go.RowKit
attribute [local irreducible] WP WPl WPix Sat
variable (G:Nat→Option (List AVal))
end Go.Av
namespace Go.Av
open Go Go.Proofs Go.RowKit
attribute [local irreducible] WP WPl WPix Sat
variable (G:Nat→Option (List AVal))
end Go.Av
namespace Go.Av
open Go Go.Proofs Go.RowKit
attribute [local irreducible] WP WPl WPix Sat
variable (G:Nat→Option (List AVal))
end Go.Av
namespace Go.Av
open Go Go.Proofs Go.RowKit
attribute [local irreducible] WP WPl WPix Sat
variable (G:Nat→Option (List AVal))
end Go.Av
namespace Go.Av
open Go Go.Proofs Go.RowKit
attribute [local irreducible] WP WPl WPix Sat
section
variable {Y:Heap} {n m v:Nat} {s:PS} {l:List Ky}
end
variable (G:Nat→Option (List AVal))
section
variable {Y:Heap} {n m v:Nat} {s:PS} {l:List Ky}
end
end Go.Av
namespace Go.Av
open Go Go.Proofs Go.RowKit
attribute [local irreducible] WP WPl WPix Sat SatY
structure Cu where
 d:Int
 i:Int
 set:Bool
def Cu.av(c:Cu):AVal:=.agg [.int .i64 c.d,.int .i64 c.i,.bool c.set]
variable (G:Nat→Option (List AVal))
section
variable {l:List Ky} {H:Heap} {n v:Nat}
end
end Go.Av
namespace Go.Av
open Go Go.Proofs Go.RowKit
attribute [local irreducible] WP WPl WPix Sat SatY
section
variable {H:Heap} {n p:Nat} {qv:AVal} {c:Cu} {N:Int} {fr:Nat} {z:Blk} {mo:Bool} {pre:List Ky} {j:Heap}
end
variable (G:Nat→Option (List AVal))
section
variable {l:List Ky} {H:Heap} {n v:Nat}
end
end Go.Av
namespace Go.Av
open Go Go.Proofs Go.RowKit
def PS.Tt(s:PS):Prop:=∀k t,lkM s.it k=some t→t.title.length≤256
theorem PS.Tt.z:PS.z.Tt:=fun _ _ h=>by cases h
theorem PS.Tt.getD{s:PS}(h:s.Tt)(k:Int):((lkM s.it k).getD It.z).title.length≤256:=by
 cases hl:lkM s.it k with
 |none=>simp[It.z]
 |some t=>exact h k t hl
theorem PS.Tt.step{s:PS}(h:s.Tt)(hI:s.Inv)(e:Ev):(s.step L0 e).Tt:=by
 unfold PS.step
 split
 ·rename_i hok
  have hr:e.kind=7→e.t.length≤256:=fun k=>by
   unfold PS.ok PS.fits at hok
   rw[Bool.and_eq_true]at hok
   have:=hok.1
   unfold Leaf.ck at this
   simp only[Bool.and_eq_true]at this
   have hq:=this.1
   unfold Leaf.right at hq
   rw[if_neg (by omega),if_neg (by omega),if_neg (by omega),if_neg (by omega),if_neg (by omega),if_pos k]at hq
   simp only[Bool.and_eq_true]at hq
   have hq:=hq.2.2.2.2.1
   have hu:L0.title e.t=textF rightS cleanF e.t 256:=rfl
   rw[hu]at hq
   unfold textF at hq
   rw[Bool.and_eq_true,decide_eq_true_eq]at hq
   omega
  intro k t hk
  rw[l6]at hk
  split at hk
  ·exact h k t (dq hI.w3.keys hk)
  split at hk
  ·rename_i k7
   rcases az hk with⟨rfl,rfl⟩| ⟨_,hk⟩
   ·exact hr k7
   ·exact h k t hk
  split at hk
  ·rcases az hk with⟨rfl,rfl⟩| ⟨_,hk⟩
   ·exact h.getD _
   ·exact h k t hk
  split at hk
  ·rcases az hk with⟨rfl,rfl⟩| ⟨_,hk⟩
   ·exact h.getD _
   ·exact h k t hk
  split at hk
  ·rcases az hk with⟨rfl,rfl⟩| ⟨_,hk⟩
   ·exact h.getD _
   ·exact h k t hk
  ·exact h k t hk
 ·exact h
theorem PS.Tt.fold{es:List Ev}:∀{s:PS},s.Tt→s.Inv→(es.foldl (PS.step L0) s).Tt:=by
 induction es with
 |nil=>intro s h _;exact h
 |cons e es ih=>intro s h hI;exact ih (h.step hI e) (hI.step e)
end Go.Av
namespace Go.Av
open Go Go.Proofs Go.RowKit
attribute [local irreducible] WP WPl WPix Sat
def PS.eval(s:PS)(q:Qy)(id:Int):Bool:=match lkM s.it id with
 |none=>false
 |some t=>q.ok&&q.bel s t
def Qy.Fit(q:Qy):Prop:=q.mx≤9223372036854775807∧(q.dep 1≤12→q.sz≤20000)
theorem oy{X:Heap}{n:Nat}{s:PS}(x:ML Int (List Int)×Nat)(b1 b2:Blk)(j:Heap):sa (X++(b1::b2::j)) n s X.length x=so (X++(am x.1 x.2::ar n X.length::j)) n s:=by
 unfold sa twB
 congr 1
 have:=ea X [am x.1 x.2,ar n X.length] j
 show ov _ _ _=X++([am x.1 x.2,ar n X.length]++j)
 rw[this]
 unfold ov
 have h1:∀c1 c2:Blk,(X++(c1::c2::j)).take X.length=X:=fun c1 c2=>by rw[List.take_left' rfl]
 have h2:∀c1 c2:Blk,(X++(c1::c2::j)).drop (X.length+2)=j:=fun c1 c2=>by rw[List.drop_append,List.drop_of_length_le (by omega),Nat.add_sub_cancel_left];rfl
 show _++_++List.drop (X.length+2) _=List.take _ (X++(am x.1 x.2::ar n X.length::j))++_++List.drop (X.length+2) (X++(am x.1 x.2::ar n X.length::j))
 rw[h1,h1,h2,h2]
variable (G:Nat→Option (List AVal))
theorem uq(s:PS){X:Heap}{n:Nat}(hn:n+9≤X.length):Sat (CT G) 23 [.hp (n+8) 0 0 0] (so X n s) (fun r h'=>r=.hp (X.length+1) 0 0 0∧h'=sa (X++[am [] 0,ar n X.length]) n s X.length ([],0)):=by
 have e:=oy (X:=X) (n:=n) (s:=s) ([],0) (am [] 0) (ar n X.length) []
 rw[e, ← aJ hn]
 have hl:=au (s:=s) hn
 have hp:n+8<(so X n s).length:=by omega
 generalize so X n s=H at*
 rw[← hl]
 refine sb [.tmp 2] (fn:=Tryz.f23) Tryz.func23 ?_
 intro Q hQ
 refine wk trivial ?_
 refine ee hQ trivial ?_
 exact Fin.whole (by simp) (.hp _ _ _ _ (by simp)) ⟨rfl,rfl⟩
end Go.Av
namespace Go.Av
open Go Go.Proofs Go.RowKit
attribute [local irreducible] WP WPl WPix Sat
theorem jt{A j:Heap}{p:Nat}(c:Blk)(hp:A.length≤p):ov (A++j) p [c]=A++ov j (p-A.length) [c]:=by
 unfold ov
 rw[List.take_append,List.take_of_length_le hp,List.drop_append,List.drop_of_length_le (by simp only[List.length_singleton];omega),List.nil_append,List.append_assoc,List.append_assoc,List.append_assoc]
 congr 4
 simp only[List.length_singleton]
 omega
def itmK(s:PS)(f:It→Bool):List Ky:=srtK ((s.tell.it.filter f).map It.ky)
def itmF(s:PS)(f:It→Bool):List Int:=(itmK s f).map (·.i)
theorem fE{s:PS}(h:s.Inv)(f:It→Bool):(((s.tell.it.filter f).map It.ky).map (·.i)).Nodup:=by
 rw[List.map_map]
 exact(pY h).sublist (List.filter_sublist.map _)
theorem rN{s:PS}(h:s.Inv){f:It→Bool}{L:List It}(hp:L.Perm (s.tell.it.filter f))(hs:L.Pairwise fun a b=>ahd b.ky a.ky=false):L.map (·.id)=itmF s f:=by
 have hn:(L.map (·.id)).Nodup:=(hp.map (·.id)).nodup_iff.2 ((pY h).sublist (List.filter_sublist.map _))
 have hk:Sk (L.map It.ky):=by
  unfold Sk
  rw[List.pairwise_map]
  have h2:L.Pairwise fun a b=>a.id≠b.id:=by rw[← List.pairwise_map];exact List.nodup_iff_pairwise_ne.1 hn
  refine(hs.and h2).imp fun {a b} ⟨h3,h4⟩=>?_
  exact mr (a:=b.ky) (b:=a.ky) (fun e=>h4 e.symm) h3
 have e:L.map It.ky=itmK s f:=hk.uniq (kb (fE h f)) fun x=>by
  show x∈L.map It.ky↔x∈srtK ((s.tell.it.filter f).map It.ky)
  rw[ke (fE h f)]
  exact(hp.map It.ky).mem_iff
 unfold itmF
 rw[← e,List.map_map];rfl
section
variable {Y:Heap} {n a p v:Nat} {s:PS} {x:ML Int (List Int)×Nat}
theorem sP{L:List It}(h:Y[p]? =some (rI v L)):sI Y n s a x p v L=sa Y n s a x:=by
 unfold sI
 congr 1
 have hp:=(List.getElem?_eq_some_iff.1 h).1
 apply List.ext_getElem?
 intro q
 rw[aF (by simp only[List.length_singleton];omega)]
 split
 ·rename_i hq
  have:q=p:=by simp only[List.length_singleton]at hq;omega
  subst this
  rw[Nat.sub_self,h];rfl
 ·rfl
theorem sQ{j:Heap}{y:ML Int (List Int)×Nat}{R:AVal→Heap→Prop}{r0 r:AVal}(hn:n+9≤a)(hm:a+2≤Y.length)(hz:Frz (sa (Y++j) n s a y) Y.length r0 r)(hR:R r (sa Y n s a y)):Fin (sa Y n s a x) (sa (Y++j) n s a y) R r0:=by
 have e:∀(Y:Heap) (x:ML Int (List Int)×Nat),a+2≤Y.length→sa Y n s a x=ov (so Y n s) a [am x.1 x.2,ar n a]:=fun Y x hm=>cc hn hm
 have hl:(so Y n s).length=Y.length:=au (by omega)
 have e1:sa (Y++j) n s a y=ov (so Y n s++j) a [am y.1 y.2,ar n a]:=by rw[e (Y++j) y (by simp;omega), ← aJ (by omega)]
 rw[e1]at hz ⊢
 rw[e Y y hm]at hR
 rw[e Y x hm]
 exact cF (by rw[hl];exact hm) rfl (fun b hb=>by
  rw[hl]
  simp only[List.mem_cons,List.not_mem_nil,or_false]at hb
  rcases hb with rfl|rfl
  ·exact io _ _ _
  ·exact ip hn hm) (by rw[hl];exact hz) hR
end
variable (G:Nat→Option (List AVal))
section
variable {s:PS} {Y:Heap} {n a:Nat}
theorem me(hn:n+9≤a)(hm:a+2≤Y.length)(f:It→Bool)(g:FuncId)(cap:List AVal)(t:It)
  (hg:∀x,Gd s x→∀j:Heap,Sat (CT G) g ([]++[t.av]++cap) (sa (Y++j) n s a x) (fun r h'=>r=.bool (f t)∧∃y,Gd s y∧h'=sa (Y++j) n s a y))(x:ML Int (List Int)×Nat)(hx:Gd s x)(j:Heap):
  Sat (CT G) 50 ([]++[t.av]++[.hp Y.length 0 0 0]) (sa (Y++(.row 82 1 0 [.fn (.func g) [] cap]::j)) n s a x) (fun r h'=>r=.bool (!f t)∧∃y,Gd s y∧h'=sa (Y++(.row 82 1 0 [.fn (.func g) [] cap]::j)) n s a y):=by
 have hm1:∀j:Heap,a+2≤(Y++j).length:=fun j=>by simp;omega
 have hc:=hg x hx
 generalize f t=b at*
 have F:=F4 hm hn hm1 @aE
 refine sb [.tmp 3] (fn:=Tryz.f50) Tryz.func50 ?_
 intro Q hQ
 refine wk F ?_
 refine(hc _).mono ?_
 rintro r h' ⟨rfl,y,hy,rfl⟩
 try refine sq F ?_
 refine wk F ?_
 refine ee hQ F ?_
 have:=bD (x:=x) (s:=s) (j:=[.row 70 9 0 [t.av]]) (R:=fun r h'=>r=.bool (!b)∧∃y,Gd s y∧h'=sa (Y++(.row 82 1 0 [.fn (.func g) [] cap]::j)) n s a y) (r:=.bool (!b)) hn (hm1 (.row 82 1 0 [.fn (.func g) [] cap]::j)) (fun N=>.bool _) (y:=y) ⟨rfl,y,hy,rfl⟩
 rwa [List.append_assoc]at this
theorem oz(hI:s.Inv)(hn:n+9≤a)(hm:a+2≤Y.length)(x:ML Int (List Int)×Nat):Sat (CT G) 17 [.hp (n+8) 0 0 0] (sa Y n s a x)
  (fun r h'=>∃(j:Heap) (p v:Nat),r=s.tellH p v∧Y.length≤p∧p+1≤(Y++j).length∧h'=sI (Y++j) n s a x p v s.tell.it):=by
 have hl:(ov Y a [am x.1 x.2,ar n a]).length=Y.length:=aD hm
 refine(lE G s hI.toOk (H:=ov Y a [am x.1 x.2,ar n a]) (n:=n) (by rw[hl];omega)).mono ?_
 rintro r h' ⟨j,p,v,rfl,h1,h2,rfl⟩
 rw[hl]at h1
 have h3:=cK h2
 have h4:=bZ h2
 rw[List.getElem?_append_right (by rw[hl];exact h1),hl]at h4
 rw[List.length_append,hl]at h3
 refine⟨j,p,v,rfl,h1,by rw[List.length_append];omega,?_⟩
 rw[sP (by rw[List.getElem?_append_right h1];exact h4)]
 show so (ov Y a _++j) n s=so (ov (Y++j) a _) n s
 rw[dA hm]
theorem oA(hI:s.Inv)(hn:n+9≤a)(hm:a+2≤Y.length)(f:It→Bool)(g:FuncId)(cap:List AVal)
  (hg:∀t∈s.tell.it,∀x,Gd s x→∀j:Heap,Sat (CT G) g ([]++[t.av]++cap) (sa (Y++j) n s a x) (fun r h'=>r=.bool (f t)∧∃y,Gd s y∧h'=sa (Y++j) n s a y))(x:ML Int (List Int)×Nat)(hx:Gd s x):
  Sat (CT G) 24 [.hp (n+8) 0 0 0,.fn (.func g) [] cap] (sa Y n s a x) (fun r h'=>r=.sl 1 ((itmF s f).map iA)∧∃y,Gd s y∧h'=sa Y n s a y):=by
 have hil:s.tell.it.length≤100000:=by have:=bx (z:=It.z) s.it;have:=hI.l3;show(valsM It.z s.it).length≤_;omega
 have hm1:∀j:Heap,a+2≤(Y++j).length:=fun j=>by simp;omega
 have hT:=oz G (s:=s) (Y:=Y++[.row 82 1 0 [.fn (.func g) [] cap]]) hI hn (hm1 _) x
 have hitl:(valsM It.z s.it).length=s.tell.it.length:=rfl
 have F:=F3 hm hn hm1
 refine sb [.tmp 4] (fn:=Tryz.f24) Tryz.func24 ?_
 intro Q hQ
 refine wk F ?_
 refine hT.mono ?_
 rintro r h' ⟨j,p,v,rfl,hp1,hp2,rfl⟩
 have hpl:Y.length+1≤p:=by simpa using hp1
 rw[List.append_assoc]at hp2 ⊢
 change p+1≤(Y++(.row 82 1 0 [.fn (.func g) [] cap]::j)).length at hp2
 have hD:=rJ G (s:=s) (Y:=Y++(.row 82 1 0 [.fn (.func g) [] cap]::j)) (v:=v) hn (by omega) hp2 (fun t=> !f t) 50 [.hp Y.length 0 0 0] s.tell.it (by omega) (fun t ht x hx j2 L=>by
  have e:∀y,sI ((Y++(.row 82 1 0 [.fn (.func g) [] cap]::j))++j2) n s a y p v L=sa (Y++(.row 82 1 0 [.fn (.func g) [] cap]::ov (j++j2) (p-(Y.length+1)) [rI v L])) n s a y:=fun y=>by
   unfold sI
   have:=jt (A:=Y++[.row 82 1 0 [.fn (.func g) [] cap]]) (j:=j++j2) (p:=p) (rI v L) (by simpa using hpl)
   simp only[List.append_assoc,List.cons_append,List.nil_append,List.length_append,List.length_singleton]at this ⊢
   rw[this]
  simp only[e]
  exact me G hn hm f g cap t (hg t ht) x hx _) x hx
 simp only[Bool.not_not]at hD
 unfold PS.tellH
 rw[hitl]
 try simp only[List.cons_append,List.nil_append]
 generalize hZ:Y++(Blk.row 82 1 0 [.fn (.func g) [] cap]::j)=Z at hp2 hD ⊢
 try refine sq F ?_
 refine wk F ?_
 refine hD.mono ?_
 rintro r h' ⟨rfl,y,hy,rfl⟩
 have hap:a+2≤p:=by omega
 have hfl:(s.tell.it.filter f).length≤100000:=Nat.le_trans (List.length_filter_le _ _) hil
 have hS:=pW G (s.tell.it.filter f) hfl (sI Z n s a y p v (s.tell.it.filter f)) p v (iW hn hap hp2)
 try refine sq F ?_
 refine wk F ?_
 refine hS.mono ?_
 rintro r h' ⟨rfl,L,hLp,hLs,rfl⟩
 have hLl:L.length≤100000:=by rw[hLp.length_eq];exact hfl
 rw[iX hn hap hp2, ← hLp.length_eq]
 have hids:=rN hI hLp hLs
 have hgr:∀(b:Blk) (j:Heap) (u:Nat),getRow (sI (Z++(b::j)) n s a y p v L) Z.length u=getRow [b] 0 u:=fun b j u=>by
  rw[kW hn hap (by simp;omega) u (by omega) (by omega),aG _ rfl];rfl
 have hsr:∀(b b':Blk) (j:Heap),(sI (Z++(b::j)) n s a y p v L).set Z.length b'=sI (Z++(b'::j)) n s a y p v L:=fun b b' j=>by
  rw[kX hn hap (by simp;omega) b' (by omega) (by omega),bV _ rfl];rfl
 have hgi:∀(b c:Blk) (j:Heap) (u:Nat),getRow (sI (Z++(b::(j++[c]))) n s a y p v L) (Z.length+(j.length+1)) u=getRow [c] 0 u:=fun b c j u=>by
  rw[kW hn hap (by simp;omega) u (by omega) (by omega),aX _ rfl,show b::(j++[c])=(b::j)++[c]from rfl,aG _ (by simp)]
 have hsi:∀(b c c':Blk) (j:Heap),(sI (Z++(b::(j++[c]))) n s a y p v L).set (Z.length+(j.length+1)) c'=sI (Z++(b::(j++[c']))) n s a y p v L:=fun b c c' j=>by
  rw[kX hn hap (by simp;omega) c' (by omega) (by omega),jX _ rfl,show b::(j++[c])=(b::j)++[c]from rfl,bV _ (by simp)];rfl
 have hpz:∀j:Heap,p+1≤(Z++j).length:=fun j=>by simp;omega
 have F:=F4 F hap hp2 hpz
 try refine sq F ?_
 refine wk F ?_
 refine lm (fun nL tL hL=>∃(k w:Nat) (acc:List Int) (j2:Heap),L.length-k=nL∧sI (Z++(.row 3 1 w (acc.map iA)::j2)) n s a y p v L=hL∧tL 6=.hs Z.length w 0 acc.length true∧tL 18=.int .i64 k∧k≤L.length∧acc.length=k∧acc++(L.drop k).map (·.id)=L.map (·.id)) ((fun(k w:Nat) (acc:List Int) (j2:Heap)=>(L.length-k:Nat)) (0) (0) ([]) ([])) ?_ ?_
 ·refine⟨_,_,Weak.virt 6 3 1 (by simp) (by omega) (by exact zq F),⟨0,0,[],[],rfl,by rw[pU hn hap hp2];rfl,?_,?_,by omega,rfl,by simp⟩⟩
  all_goals first|exact zq F|rfl|omega|trivial|skip
 rintro _ s2 h' ⟨k,w,acc,j2,rfl,rfl,e6,e18,hk,hac,hq⟩ K2 hK2
 simp only[ak,ao,Nat.reduceEqDiff, ↓reduceIte]at e6 e18
 have F:=F3 F e6 e18
 refine wk F ?_
 have hLm:(L.map It.av).length=L.length:=List.length_map ..
 refine cq F (fun c1=>?_) (fun c1=>?_)<;>(try exact c1.elim)<;>(refine wk F ?_)
 ·have c2:k<L.length:=by omega
  obtain⟨t,ht,htm⟩:=ah c2
  rw[aR ht,List.map_cons]at hq
  have F:=F8 F ht c2 hgr hsr hgi hsi hLm
  try refine sq F ?_
  refine wk F ?_
  refine aq F ?_
  try refine sq F ?_
  refine wk F ?_
  refine hK2 _ _ _ (Wkn.refl ⟨k+1,w+1,acc++[t.id],j2++[.row 70 9 0 [t.av]],rfl,by simp[iA,It.av],?_,?_,by omega,by simp;omega,by rw[← hq];simp⟩) (by omega)
  all_goals first|exact zq F|rfl|omega|trivial|skip
 ·rw[bi c1,List.map_nil,List.append_nil,hids]at hq
  refine ee hQ F ?_
  rw[← hq]
  have hz:Frz (sI (Z++(.row 3 1 w (acc.map iA)::j2)) n s a y p v L) Y.length (.hs Z.length w 0 acc.length true) (.sl 1 (acc.map iA)):=by
   refine Frz.data (by rw[← hZ];simp) (e:=3) (by rw[hgr];simp[getRow]) (by simp) (fun r hr=>?_) (fun r hr=>?_)
   ·obtain⟨x,_,rfl⟩:=List.mem_map.1 hr;exact .int _ _
   ·obtain⟨x,_,rfl⟩:=List.mem_map.1 hr;intro c hc;simp[AVal.cells,iA]at hc;subst hc;rfl
  have e:sI (Z++(.row 3 1 w (acc.map iA)::j2)) n s a y p v L=sa (Y++ov (.row 82 1 0 [.fn (.func g) [] cap]::(j++(.row 3 1 w (acc.map iA)::j2))) (p-Y.length) [rI v L]) n s a y:=by
   unfold sI
   rw[← hZ,List.append_assoc]
   rw[show(Blk.row 82 1 0 [.fn (.func g) [] cap]::j)++(.row 3 1 w (acc.map iA)::j2)=.row 82 1 0 [.fn (.func g) [] cap]::(j++(.row 3 1 w (acc.map iA)::j2))from rfl,jt _ (by omega)]
  rw[e]at hz ⊢
  exact sQ hn hm hz ⟨rfl,y,hy,rfl⟩
end
end Go.Av
namespace Go.Av
open Go Go.Proofs Go.RowKit
attribute [local irreducible] WP WPl WPix Sat
variable (G:Nat→Option (List AVal))
def wi(X:Heap)(n:Nat)(s:PS)(q:Qy)(y:ML Int (List Int)×Nat)(j:Heap):Heap:=so (X++(.row 33 4 0 [q.av]::am y.1 y.2::ar n (X.length+1):: .row 78 1 0 [.hp (X.length+2) 0 0 0]::j)) n s
def yi(X:Heap)(n:Nat)(q:Qy)(j:Heap):Heap:=X++(.row 33 4 0 [q.av]::am [] 0::ar n (X.length+1):: .row 78 1 0 [.hp (X.length+2) 0 0 0]::j)
theorem rX(X:Heap)(n:Nat)(s:PS)(q:Qy)(y:ML Int (List Int)×Nat)(j:Heap):sa (yi X n q j) n s (X.length+1) y=wi X n s q y j:=by
 have:=oy (X:=X++[.row 33 4 0 [q.av]]) (n:=n) (s:=s) y (am [] 0) (ar n (X.length+1)) (.row 78 1 0 [.hp (X.length+2) 0 0 0]::j)
 rw[List.length_append,List.length_singleton]at this
 unfold yi wi
 rw[List.append_assoc,List.append_assoc]at this
 exact this
theorem pZ(X:Heap)(n:Nat)(q:Qy)(j k:Heap):yi X n q j++k=yi X n q (j++k):=by
 unfold yi;rw[List.append_assoc];rfl
theorem l8(X:Heap)(n:Nat)(q:Qy)(j:Heap):(yi X n q j).length=X.length+4+j.length:=by
 unfold yi;simp;omega
theorem oB(s:PS)(hI:s.Inv)(q:Qy)(hqz:q.sz≤20000)(hqa:q.all pnF=true){X:Heap}{n:Nat}(hn:n+9≤X.length)(t:It)(htt:t.title.length≤256)(htg:t.tags.length≤1048576)(x:ML Int (List Int)×Nat)(hx:Gd s x)(j:Heap):
  Sat (CT G) 25 ([]++[t.av]++[.hp (X.length+3) 0 0 0,.hp X.length 0 0 0]) (sa (yi X n q j) n s (X.length+1) x) (fun r h'=>r=.bool (q.bel s t)∧∃y,Gd s y∧h'=sa (yi X n q j) n s (X.length+1) y):=by
 have hB:=sO G s hI t htt htg (n:=n) (a:=X.length+1) (by omega) q hqz hqa (yi X n q (j++[.row 70 9 0 [t.av]])) x (by rw[l8];omega) hx
 have hF:=fun y (hy:Gd s y)=>bD (x:=x) (y:=y) (s:=s) (n:=n) (a:=X.length+1) (Y:=yi X n q j) (j:=[.row 70 9 0 [t.av]]) (R:=fun r h'=>r=.bool (q.bel s t)∧∃y,Gd s y∧h'=sa (yi X n q j) n s (X.length+1) y) (r:=.bool (q.bel s t)) (by omega) (by rw[l8];omega) (fun N=>.bool _) ⟨rfl,y,hy,rfl⟩
 simp only[pZ,rX]at hB hF ⊢
 generalize q.bel s t=b at*
 unfold wi at hB hF ⊢
 clear hqz hqa
 obtain⟨qo,qn,qs,qk⟩:=q
 rw[Qy.av_eq]at*
 have hn1:∀j:Heap,n+9≤(X++j).length:=fun j=>by simp;omega
 have F:=F3 hn hn1 @aE
 refine sb [.tmp 4] (fn:=Tryz.f25) Tryz.func25 ?_
 intro Q hQ
 refine wk F ?_
 refine hB.mono ?_
 rintro r h' ⟨rfl,y,hy,rfl⟩
 try refine sq F ?_
 refine wk F ?_
 refine ee hQ F ?_
 exact hF y hy
theorem oC(s:PS)(hI:s.Inv)(hT:s.Tt)(q:Qy)(hq:q.Fit){X:Heap}{n:Nat}(hn:n+9≤X.length):Sat (CT G) 10 [.hp (n+8) 0 0 0,q.av] (so X n s) (fun r h'=>r=.tup (if q.ok then [.sl 1 ((itmF s fun t=>q.bel s t).map iA),.int .i64 0]else [.nil (.slice none 0 0),.int .i64 250])∧h'=so X n s):=by
 have hC:=fun h=>ou G q h hq.1 hq.2
 have hn1:∀j:Heap,n+9≤(X++j).length:=fun j=>by simp;omega
 cases hok:q.ok with
 |false=>
  rw[hok]at hC
  clear hq
  obtain⟨qo,qn,qs,qk⟩:=q
  rw[Qy.av_eq]at*
  have F:=F2 hn hn1
  refine sb [.tmp 4,.tmp 5] (fn:=Tryz.f10) Tryz.func10 ?_
  intro Q hQ
  refine wk F ?_
  refine(hC _).mono ?_
  rintro r h' ⟨rfl,rfl⟩
  try refine sq F ?_
  refine wk F ?_
  refine ee hQ F ?_
  exact ai hn (.tup _ fun y hy=>by simp at hy;rcases hy with rfl|rfl<;>constructor) ⟨rfl,rfl⟩
 |true=>
  have hok':=hok
  unfold Qy.ok at hok'
  simp only[Bool.and_eq_true,decide_eq_true_eq]at hok'
  obtain⟨rQ,hrQ⟩:∃rQ:Blk,rQ=.row 33 4 0 [q.av]:=⟨_,rfl⟩
  have hlX:(X++[rQ]).length=X.length+1:=by simp
  have hO:=uq G s (X:=X++[rQ]) (n:=n) (by omega)
  have hP:=oA G (s:=s) (Y:=yi X n q []) (n:=n) (a:=X.length+1) hI (by omega) (by rw[l8];omega) (fun t=>q.bel s t) 25 [.hp (X.length+3) 0 0 0,.hp X.length 0 0 0] (fun t ht x hx j=>by
   obtain⟨id,hid⟩:∃id,lkM s.it id=some t:=iw hI ((gH hI).mem_iff.1 ht)
   have htg:=(hI.tags id).2
   rw[hid,Option.getD_some]at htg
   have:=oB G s hI q (hq.2 hok'.1) hok'.2.2 hn t (hT id t hid) (by omega) x hx j
   rw[pZ]
   exact this) ([],0) ⟨.nil,fun _ _ h=>by cases h⟩
  simp only[rX]at hP
  unfold wi at hP
  rw[hlX]at hO
  have e:sa (X++[rQ]++[am [] 0,ar n (X.length+1)]) n s (X.length+1) ([],0)=so (X++[rQ,am [] 0,ar n (X.length+1)]) n s:=by
   have:=oy (X:=X++[rQ]) (n:=n) (s:=s) ([],0) (am [] 0) (ar n (X.length+1)) []
   rw[hlX]at this
   rw[this,List.append_assoc];rfl
  rw[e]at hO
  subst hrQ
  rw[hok]at hC
  clear hok' e hlX hq hok
  generalize (itmF s fun t=>q.bel s t)=L at*
  obtain⟨qo,qn,qs,qk⟩:=q
  rw[Qy.av_eq]at*
  have F:=F2 hn hn1
  refine sb [.tmp 4,.tmp 5] (fn:=Tryz.f10) Tryz.func10 ?_
  intro Q hQ
  refine wk F ?_
  refine(hC _).mono ?_
  rintro r h' ⟨rfl,rfl⟩
  try refine sq F ?_
  refine wk F ?_
  refine hO.mono ?_
  rintro r h' ⟨rfl,rfl⟩
  have F:=F4 F hn hn1 @aE
  try refine sq F ?_
  refine wk F ?_
  refine hP.mono ?_
  rintro r h' ⟨rfl,y,hy,rfl⟩
  try refine sq F ?_
  refine wk F ?_
  refine ee hQ F ?_
  exact ai hn (.tup _ fun y hy=>by
   simp only[List.mem_cons,List.not_mem_nil,or_false]at hy
   rcases hy with rfl|rfl
   ·exact .sl _ _ fun r hr=>by obtain⟨x,_,rfl⟩:=List.mem_map.1 hr;exact .int _ _
   ·exact .int _ _) ⟨rfl,rfl⟩
end Go.Av
namespace Go.Av
open Go Go.Proofs Go.RowKit
def PS.Tr(s:PS):Prop:=∀k t,lkM s.it k=some t→∀g∈t.tags,L0.tag g=true
theorem PS.Tr.z:PS.z.Tr:=fun _ _ h=>by cases h
theorem PS.Tr.getD{s:PS}(h:s.Tr)(k:Int):∀g∈ ((lkM s.it k).getD It.z).tags,L0.tag g=true:=by
 cases hl:lkM s.it k with
 |none=>intro g hg;simp[It.z]at hg
 |some t=>exact h k t hl
theorem PS.Tr.step{s:PS}(h:s.Tr)(hI:s.Inv)(e:Ev):(s.step L0 e).Tr:=by
 unfold PS.step
 split
 ·rename_i hok
  have hr:e.kind=10→L0.tag e.s=true:=fun k=>by
   unfold PS.ok PS.fits at hok
   rw[Bool.and_eq_true]at hok
   have:=hok.1
   unfold Leaf.ck at this
   simp only[Bool.and_eq_true]at this
   have hq:=this.1
   unfold Leaf.right at hq
   rw[if_neg (by omega),if_neg (by omega),if_neg (by omega),if_neg (by omega),if_neg (by omega),if_neg (by omega),if_neg (by omega),if_pos k]at hq
   simp only[Bool.and_eq_true]at hq
   exact hq.2.2
  intro k t hk g hg
  rw[l6]at hk
  split at hk
  ·exact h k t (dq hI.w3.keys hk) g hg
  split at hk
  ·rcases az hk with⟨rfl,rfl⟩| ⟨_,hk⟩
   ·simp at hg
   ·exact h k t hk g hg
  split at hk
  ·rcases az hk with⟨rfl,rfl⟩| ⟨_,hk⟩
   ·exact h.getD _ g hg
   ·exact h k t hk g hg
  split at hk
  ·rcases az hk with⟨rfl,rfl⟩| ⟨_,hk⟩
   ·exact h.getD _ g hg
   ·exact h k t hk g hg
  split at hk
  ·rename_i k10
   rcases az hk with⟨rfl,rfl⟩| ⟨_,hk⟩
   ·rcases mO hg with hg|rfl
    ·exact h.getD _ g hg
    ·exact hr k10
   ·exact h k t hk g hg
  ·exact h k t hk g hg
 ·exact h
theorem PS.Tr.fold{s:PS}(h:s.Tr)(hI:s.Inv)(l:List Ev):(l.foldl (PS.step L0) s).Tr:=by
 induction l generalizing s with
 |nil=>exact h
 |cons e l ih=>exact ih (h.step hI e) (hI.step e)
theorem rO{fo:ML Int Fo}{u:Int}(hu:u≠0):∀(k:Nat) (x:Int) (l:List Int) (m:Nat),chS fo k x=some l→k≤m→insF fo u m x=decide (u∈l):=by
 intro k
 induction k with
 |zero=>
  intro x l m h _
  unfold chS at h
  split at h
  ·cases h
   rename_i h0
   subst h0
   rw[eK (by omega)]
   simp;omega
  ·cases h
 |succ k ih=>
  intro x l m h hm
  unfold chS at h
  split at h
  ·cases h
   rename_i h0
   subst h0
   rw[eK (by omega)]
   simp;omega
  ·rename_i h0
   obtain⟨l',h1,rfl⟩:=Option.map_eq_some_iff.1 h
   obtain⟨m',rfl⟩:∃m',m=m'+1:=⟨m-1,by omega⟩
   by_cases hx:x=u
   ·rw[eK (by omega),hx];simp
   ·rw[mL ⟨hx,h0⟩]
    have e:((lkM fo x).getD Fo.z).inn=((lkM fo x).map (·.inn)).getD 0:=by cases lkM fo x<;>rfl
    rw[e,ih _ _ m' h1 (by omega)]
    simp[Ne.symm hx]
theorem sR{s:PS}(h:s.Inv){id:Int}(hid:(lkM s.fo id).isSome=true){t:It}(ht:t∈s.its):((undF s id).any fun a=>decide (t.feed=a))=decide (id∈s.chn t.feed):=by
 obtain⟨f0,hf0⟩:=Option.isSome_iff_exists.1 hid
 have hi0:id≠0:=by have:=h.i1 id f0 hf0;omega
 obtain⟨q,hq⟩:=iw h ht
 obtain⟨f,hf⟩:=Option.isSome_iff_exists.1 (h.u3 q t hq)
 have hfi:=(h.i2 _ f hf).1
 obtain⟨l,hl,_⟩:=h.chs (p:=f.inn) (h.u2 _ f hf)
 have hc:s.chn t.feed=l:=by unfold PS.chn;rw[hf];show(chS s.fo 7 f.inn).getD []=l;rw[hl];rfl
 have hin:=rO hi0 7 f.inn l 8 hl (by omega)
 rw[hc, ← hin]
 unfold undF
 rw[if_pos (by unfold PS.within;rw[hid];simp)]
 have hz:decide (id=0)=false:=by simp[hi0]
 simp only[hz,Bool.false_or]
 rw[Bool.eq_iff_iff,List.any_eq_true]
 constructor
 ·rintro⟨a,ha,he⟩
  obtain⟨g,hg,rfl⟩:=List.mem_map.1 ha
  obtain⟨h1,h2⟩:=List.mem_filter.1 hg
  obtain⟨k,hk⟩:=br h1
  have:=(h.i2 k g hk).1
  have he:t.feed=g.id:=by simpa using he
  have e:k=t.feed:=by omega
  subst e
  rw[hf]at hk;cases hk
  exact h2
 ·intro h2
  exact⟨f.id,List.mem_map.2 ⟨f,List.mem_filter.2 ⟨kC hf,h2⟩,rfl⟩,by simp[hfi]⟩
def Ct.q(c:Ct):Qy:=if c.kind=2 then .mk 7 c.id [] []else if c.kind=3 then .mk 6 c.id [] []else if c.kind=4 then .mk 8 0 c.tag []else if c.kind=5 then .mk 10 0 [] []else .mk 1 0 [] []
def Ct.r(c:Ct):Qy:=.mk 3 0 [] [c.q,.mk 9 0 [] []]
theorem wF(s:PS)(t:It)(c:Ct):c.r.bel s t=(c.q.bel s t&& !t.read):=by
 unfold Ct.r
 rw[Qy.bel,if_pos rfl,Qy.belA,Qy.belA,Qy.belA,Qy.bel,if_neg (by decide),if_neg (by decide),if_neg (by decide)]
 simp[leafF]
theorem mQ(s:PS)(hI:s.Inv)(f:It→Bool):(itmF s f).length=s.its.countP f:=by
 unfold itmF itmK
 rw[List.length_map]
 have hp:(srtK ((s.tell.it.filter f).map It.ky)).Perm ((s.tell.it.filter f).map It.ky):=by
  refine(List.perm_ext_iff_of_nodup (kb (fE hI f)).nd ?_).2 fun x=>ke (fE hI f) x
  have:=fE hI f
  rw[List.nodup_iff_pairwise_ne,List.pairwise_map]at this
  exact List.nodup_iff_pairwise_ne.2 (this.imp fun h e=>h (by rw[e]))
 rw[hp.length_eq,List.length_map, ← List.countP_eq_length_filter]
 exact(gH hI).countP_eq f
def Cq(s:PS)(c:Ct):Prop:=c.q.Fit∧c.r.Fit∧(∃op num tx,c.q=.mk op num tx [])∧c.q.ok=true∧c.r.ok=true∧((itmF s fun t=>c.q.bel s t).length:Int)=c.all∧((itmF s fun t=>c.r.bel s t).length:Int)=c.un
theorem ix{s:PS}(hI:s.Inv){kind id:Int}{g:Bs}{p:It→Bool}(h1:pnF (ctM kind id g (tl s.its p)).q=true)(h0:(ctM kind id g (tl s.its p)).q.kds=[])(hg:(ctM kind id g (tl s.its p)).q.txt.length≤64)(h2:∀t∈s.its,(ctM kind id g (tl s.its p)).q.bel s t=p t):Cq s (ctM kind id g (tl s.its p)):=by
 have hr:∀t,(ctM kind id g (tl s.its p)).r.bel s t=((ctM kind id g (tl s.its p)).q.bel s t&& !t.read):=fun t=>wF s t _
 have e1:(s.its.countP fun t=>(ctM kind id g (tl s.its p)).q.bel s t)=s.its.countP p:=List.countP_congr fun t ht=>by rw[h2 t ht]
 have e2:(s.its.countP fun t=>(ctM kind id g (tl s.its p)).r.bel s t)=s.its.countP fun t=>p t&& !t.read:=List.countP_congr fun t ht=>by rw[hr,h2 t ht]
 unfold Cq
 rw[mQ s hI,mQ s hI,e1,e2]
 refine⟨?_,?_,?_,?_,?_,rfl,rfl⟩
 ·generalize (ctM kind id g (tl s.its p)).q=q at*
  obtain⟨o,n,t,k⟩:=q
  obtain rfl:k=[]:=h0
  have hg:t.length≤64:=hg
  unfold Qy.Fit
  simp only[Qy.mx,Qy.mxL,Qy.sz,Qy.szL,List.length_nil]
  omega
 ·unfold Ct.r
  generalize (ctM kind id g (tl s.its p)).q=q at*
  obtain⟨o,n,t,k⟩:=q
  obtain rfl:k=[]:=h0
  have hg:t.length≤64:=hg
  unfold Qy.Fit
  simp only[Qy.mx,Qy.mxL,Qy.sz,Qy.szL,List.length_nil,List.length_cons]
  omega
 ·generalize (ctM kind id g (tl s.its p)).q=q at*
  obtain⟨o,n,t,k⟩:=q
  obtain rfl:k=[]:=h0
  exact⟨o,n,t,rfl⟩
 ·generalize (ctM kind id g (tl s.its p)).q=q at*
  obtain⟨o,n,t,k⟩:=q
  obtain rfl:k=[]:=h0
  unfold Qy.ok
  rw[Qy.all,Qy.allL,h1]
  simp[Qy.dep,Qy.depL,Qy.nod,Qy.nodL]
 ·unfold Ct.r
  generalize (ctM kind id g (tl s.its p)).q=q at*
  obtain⟨o,n,t,k⟩:=q
  obtain rfl:k=[]:=h0
  unfold Qy.ok
  rw[Qy.all,Qy.allL,Qy.allL,Qy.allL,Qy.all,Qy.all,Qy.allL,h1]
  have e3:pnF (.mk 3 0 [] [.mk o n t [],.mk 9 0 [] []])=true:=by simp[pnF,pnG,Qy.op,Qy.num,Qy.txt,Qy.kds,nuF,txG,kdG]
  have e4:pnF (.mk 9 0 [] [])=true:=by simp[pnF,pnG,Qy.op,Qy.num,Qy.txt,Qy.kds,nuF,txG,kdG]
  rw[e3,e4]
  simp[Qy.dep,Qy.depL,Qy.nod,Qy.nodL]
theorem oD{s:PS}(hI:s.Inv)(hT:s.Tr):∀c∈s.tellC,Cq s c:=by
 intro c hc
 unfold PS.tellC at hc
 rw[List.mem_append,List.mem_cons,List.mem_append,List.mem_append]at hc
 rcases hc with(rfl| (hc|hc)|hc)|hc
 ·exact ix hI (by simp[Ct.q,ctM,pnF,pnG,Qy.op,Qy.num,Qy.txt,Qy.kds,nuF,txG,kdG]) rfl (by simp[Ct.q,ctM,Qy.txt]) fun t _=>by simp[Ct.q,ctM,Qy.bel,leafF]
 ·obtain⟨id,hid,rfl⟩:=List.mem_map.1 hc
  have hs:=bH.1 ((List.mergeSort_perm _ _).mem_iff.1 hid)
  obtain⟨f,hf⟩:=Option.isSome_iff_exists.1 hs
  have hb:=(hI.i1 id f hf).2
  exact ix hI (by simp[Ct.q,ctM,pnF,pnG,Qy.op,Qy.num,Qy.txt,Qy.kds,nuF,txG,kdG];omega) rfl (by simp[Ct.q,ctM,Qy.txt]) fun t ht=>by
   rw[← sR hI hs ht]
   simp[Ct.q,ctM,Qy.bel,leafF]
 ·obtain⟨id,hid,rfl⟩:=List.mem_map.1 hc
  have hs:=bH.1 ((List.mergeSort_perm _ _).mem_iff.1 hid)
  obtain⟨f,hf⟩:=Option.isSome_iff_exists.1 hs
  have hb:=(hI.i2 id f hf).2
  exact ix hI (by simp[Ct.q,ctM,pnF,pnG,Qy.op,Qy.num,Qy.txt,Qy.kds,nuF,txG,kdG];omega) rfl (by simp[Ct.q,ctM,Qy.txt]) fun t ht=>by
   simp[Ct.q,ctM,Qy.bel,leafF]
 ·obtain⟨g,hg,rfl⟩:=List.mem_map.1 hc
  obtain⟨t,ht,hgt⟩:=(cW s.its g).1 hg
  obtain⟨k,hk⟩:=iw hI ht
  have hr:=hT k t hk g hgt
  exact ix hI (by simp[Ct.q,ctM,pnF,pnG,Qy.op,Qy.num,Qy.txt,Qy.kds,nuF,txG,kdG,hr]) rfl (by have:=mP hr;simpa [Ct.q,ctM,Qy.txt]using this) fun t ht=>by
   have e:∀c:Ct,c=ctM 4 0 g (tl s.its fun t=>decide (g∈t.tags))→c.q.bel s t=t.tags.any fun a=>decide (g=a):=fun c hc=>by subst hc;simp[Ct.q,ctM,Qy.bel,leafF]
   rw[e _ rfl,Bool.eq_iff_iff]
   simp
 ·rw[List.mem_singleton]at hc
  subst hc
  exact ix hI (by simp[Ct.q,ctM,pnF,pnG,Qy.op,Qy.num,Qy.txt,Qy.kds,nuF,txG,kdG]) rfl (by simp[Ct.q,ctM,Qy.txt]) fun t _=>by simp[Ct.q,ctM,Qy.bel,leafF]
end Go.Av
namespace Go.Av
open Go Go.Proofs Go.RowKit
attribute [local irreducible] WP WPl WPix Sat
variable (G:Nat→Option (List AVal))
theorem Sat.wkR2{C:Ctx}{f:FuncId}{args:List AVal}{h h0:Heap}{a b:AVal}(hw:Wk a b)(s:Sat C f args h (fun r h'=>r=a∧h'=h0)):Sat C f args h (fun r h'=>r=b∧h'=h0):=by
 unfold Sat at*
 intro B S μ w vs x y
 refine(s B S μ w vs x y).mono fun v w' hp=>?_
 obtain⟨r,h',S',μ',⟨rfl,hh⟩,st,f',rp⟩:=hp
 exact⟨b,h',S',μ',⟨rfl,hh⟩,st,f',hw _ _ _ _ rp⟩
theorem PS.Inv.tgsZ{s:PS}(h:s.Inv)(ht:s.Tg):∀g∈tagsR s.its,g.length≤1048576:=fun g hg=>by
 obtain⟨t,ht2,hgt⟩:=(cW _ _).1 hg
 obtain⟨k,hk⟩:=iw h ht2
 have:=ht k t hk g hgt
 omega
theorem PS.Inv.tglZ{s:PS}(h:s.Inv):(tagsR s.its).length≤100000:=by
 have:=pX h.up
 rw[ox (gH h)]at this
 omega
theorem oE{s:PS}(h:s.Inv):s.tellC.length≤1000000:=by
 have h1:=h.tglZ
 have h2:=h.l1
 have h3:=h.l2
 unfold PS.tellC
 simp only[List.length_append,List.length_cons,List.length_map,List.length_nil,bw]
 omega
theorem Wk.slZ{n:Nat}{xs ys:List AVal}(hl:xs.length=ys.length)(hw:∀(i:Nat) (r s:AVal),xs[i]? =some r→ys[i]? =some s→WkR r s):Wk (.sl n xs) (.sl n ys):=fun w S μ v rr=>by
 have at_:∀(i:Nat) (e:AVal),ys[i]? =some e→∃r,xs[i]? =some r∧WkR r e:=fun i e he=>by
  have hlt:=(List.getElem?_eq_some_iff.1 he).1
  have hx:=List.getElem?_eq_getElem (show i<xs.length by omega)
  exact⟨_,hx,hw i _ e hx he⟩
 cases rr with
 |sl0 n a cap=>
  obtain rfl:ys=[]:=List.length_eq_zero_iff.1 (by simpa using hl.symm)
  exact .sl0 _ _ _
 |sl n es b o cap vs hne hm hm' hn hc hr=>
  rw[hl]
  refine .sl _ ys b o cap vs (fun e=>?_) (by omega) hm' (fun i e he=>?_) (fun i e j c he hj=>?_) (fun i e j c he hj=>?_)
  ·subst e;exact hne (List.length_eq_zero_iff.1 hl)
  ·obtain⟨r,hx,hq⟩:=at_ i e he
   rw[← hq.1];exact hn i r hx
  ·obtain⟨r,hx,hq⟩:=at_ i e he
   have hlt:=(List.getElem?_eq_some_iff.1 hj).1
   have hd:=List.getElem?_eq_getElem (show j<r.cells.length by rw[hq.1];exact hlt)
   obtain⟨a1,a2,a3⟩:=hc i r j _ hx hd
   exact⟨a1,a2,(hq.2 j _ c hd hj).2 a3⟩
  ·obtain⟨r,hx,hq⟩:=at_ i e he
   have hlt:=(List.getElem?_eq_some_iff.1 hj).1
   have hd:=List.getElem?_eq_getElem (show j<r.cells.length by rw[hq.1];exact hlt)
   exact(hq.2 j _ c hd hj).1 _ _ _ _ (hr i r j _ hx hd)
theorem uv(op num:Int)(tx:Bs):WkR (.agg [.int .i64 op,.int .i64 num,.str tx,.nil (.slice none 0 0)]) (.agg [.int .i64 op,.int .i64 num,.str tx,.sl 4 []]):=by
 refine⟨rfl,fun j c d hc hd=>?_⟩
 match j with
 |0|1|2=>simp[AVal.cells]at hc hd;subst hc;subst hd;exact⟨Wk.refl _,id⟩
 |3=>simp[AVal.cells]at hc hd;subst hc;subst hd;exact⟨Wk.nils _,fun _=>rfl⟩
 |j+4=>simp[AVal.cells]at hc
theorem uw(q:AVal):Wk (.agg [.int .i64 3,.int .i64 0,.str [],.sl 4 [q,.agg [.int .i64 9,.int .i64 0,.str [],.nil (.slice none 0 0)]]]) (.agg [.int .i64 3,.int .i64 0,.str [],.sl 4 [q,.agg [.int .i64 9,.int .i64 0,.str [],.sl 4 []]]]):=by
 refine Wk.agg rfl (fun y hy=>by simp only[List.mem_cons,List.not_mem_nil,or_false]at hy;rcases hy with rfl|rfl|rfl|rfl<;>rfl) fun j x y hx hy=>?_
 match j with
 |0|1|2=>simp at hx hy;subst hx;subst hy;exact Wk.refl _
 |3=>
  simp only[List.getElem?_cons_succ,List.getElem?_cons_zero,Option.some.injEq]at hx hy
  subst hx;subst hy
  refine Wk.slZ rfl fun i r s hr hs=>?_
  match i with
  |0=>simp at hr hs;subst hr;subst hs;exact WkR.refl _
  |1=>simp at hr hs;subst hr;subst hs;exact uv 9 0 []
  |i+2=>simp at hr
 |j+4=>simp at hx
theorem iy(op num:Int)(tx:Bs):Wk (.agg [.int .i64 op,.int .i64 num,.str tx,.nil (.slice none 0 0)]) (Qy.mk op num tx []).av:=by
 rw[Qy.av_eq]
 refine Wk.agg rfl (fun y hy=>by simp only[List.mem_cons,List.not_mem_nil,or_false]at hy;rcases hy with rfl|rfl|rfl|rfl<;>rfl) fun j x y hx hy=>?_
 match j with
 |0|1|2=>simp at hx hy;subst hx;subst hy;exact Wk.refl _
 |3=>simp at hx hy;subst hx;subst hy;exact Wk.nils _
 |j+4=>simp at hx
theorem fF(N:Nat)(op num:Int)(tx:Bs):Clo N (.agg [.int .i64 op,.int .i64 num,.str tx,.nil (.slice none 0 0)]):=by
 refine .agg _ fun c hc=>?_
 simp only[List.mem_cons,List.not_mem_nil,or_false]at hc
 rcases hc with rfl|rfl|rfl|rfl<;>constructor
theorem mf(c:Ct)(h:Heap):Sat (CT G) 9 [c.av] h (fun r h'=>r=c.q.av∧h'=h):=by
 obtain⟨k,id,tag,al,un⟩:=c
 by_cases k2:k=2
 ·subst k2
  refine Sat.wkR2 (iy 7 id []) ?_
  refine sb [.cell 2 33] (fn:=Tryz.f9) Tryz.func9 ?_
  intro Q hQ
  refine wk trivial ?_
  refine ye hQ trivial ?_
  exact Fin.plain (fF _ _ _ _) ⟨rfl,rfl⟩
 by_cases k3:k=3
 ·subst k3
  refine Sat.wkR2 (iy 6 id []) ?_
  refine sb [.cell 2 33] (fn:=Tryz.f9) Tryz.func9 ?_
  intro Q hQ
  refine wk trivial ?_
  refine ye hQ trivial ?_
  exact Fin.plain (fF _ _ _ _) ⟨rfl,rfl⟩
 by_cases k4:k=4
 ·subst k4
  refine Sat.wkR2 (iy 8 0 tag) ?_
  refine sb [.cell 2 33] (fn:=Tryz.f9) Tryz.func9 ?_
  intro Q hQ
  refine wk trivial ?_
  refine ye hQ trivial ?_
  exact Fin.plain (fF _ _ _ _) ⟨rfl,rfl⟩
 by_cases k5:k=5
 ·subst k5
  refine Sat.wkR2 (iy 10 0 []) ?_
  refine sb [.cell 2 33] (fn:=Tryz.f9) Tryz.func9 ?_
  intro Q hQ
  refine wk trivial ?_
  refine ye hQ trivial ?_
  exact Fin.plain (fF _ _ _ _) ⟨rfl,rfl⟩
 have e:(Ct.mk k id tag al un).q=.mk 1 0 [] []:=by unfold Ct.q;rw[if_neg k2,if_neg k3,if_neg k4,if_neg k5]
 rw[e]
 refine Sat.wkR2 (iy 1 0 []) ?_
 have F:=F4 k2 k3 k4 k5
 refine sb [.cell 2 33] (fn:=Tryz.f9) Tryz.func9 ?_
 intro Q hQ
 refine wk F ?_
 repeat' (first
  | (exfalso;omega)
  | (refine cq F (fun hx=>?_) (fun hx=>?_)<;>(try exact hx.elim)<;>(refine wk F ?_))
  | ((first|refine gq F (fun hx=>?_) (fun hx=>?_)|refine pq F (fun hx=>?_) (fun hx=>?_))<;>(try exact hx.elim)<;>(try refine sq F ?_)<;>(refine wk F ?_)))
 all_goals (
  refine ye hQ F ?_
  exact Fin.plain (fF _ _ _ _) ⟨rfl,rfl⟩)
theorem jC(es:List Ev)(h:Heap):Sat (CT G) 3 [.sl 7 (es.map Ev.av)] h (fun r h'=>r=.bool true∧h'=h):=by
 have hLg:=ir G es
 cases hlg:lgF es with
 |true=>
  rw[hlg]at hLg
  refine sb [.tmp 2] (fn:=Tryz.f3) Tryz.func3 ?_
  intro Q hQ
  refine wk trivial ?_
  refine kq trivial (hLg _) ?_
  refine kq trivial (gv G _) ?_
  refine ee hQ trivial ?_
  first|exact Fin.same (.bool _) ⟨rfl,rfl⟩|exact Fin.plain (.bool _) ⟨rfl,rfl⟩
 |false=>
  rw[hlg]at hLg
  have hel:es.length≤150:=by
   unfold lgF at hlg
   rw[Bool.or_eq_false_iff]at hlg
   have:=hlg.1
   simp only[decide_eq_false_iff_not]at this
   omega
  have hI:(es.foldl (PS.step L0) PS.z).Inv:=PS.Inv.z.fold es
  have hTg:(es.foldl (PS.step L0) PS.z).Tg:=PS.Tg.z.fold .z es
  have hTr:(es.foldl (PS.step L0) PS.z).Tr:=PS.Tr.z.fold .z es
  have hT:(es.foldl (PS.step L0) PS.z).Tt:=PS.Tt.fold PS.Tt.z PS.Inv.z
  have hfh:=jq G es (by omega) h
  generalize es.foldl (PS.step L0) PS.z=s at hI hTg hTr hT hfh
  have hz9:(PS.z.bl h.length).length=9:=rfl
  generalize hH:h++PS.z.bl h.length=H0 at hfh
  have hl0:H0.length=h.length+9:=by rw[← hH];simp[hz9]
  have hnw:=uj G hI (H:=H0) (n:=h.length) (by omega)
  have kc:=Kp.new hI
  generalize CS.ofSt s.tell=c at hnw kc
  have hz7:(CS.z.bl H0.length).length=7:=rfl
  generalize hWw:H0++CS.z.bl H0.length=W0 at hnw
  have hlW:W0.length=H0.length+7:=by rw[← hWw];simp[hz7]
  have hpre:∃j,W0=h++j:=⟨PS.z.bl h.length++CS.z.bl H0.length,by rw[← hWw, ← hH,List.append_assoc]⟩
  generalize H0.length=m at*
  have hn:h.length+9≤m:=by omega
  have hm0:m+7≤W0.length:=by omega
  have hmj0:∀j:Heap,m+7≤(W0++j).length:=fun j=>by simp;omega
  have htl:=q7 G (Y:=W0) (n:=h.length) (m:=m) kc hI (hI.tgsZ hTg) hI.tglZ hn hm0
  have hask:=oD hI hTr
  have hAb:=oE hI
  have hpos:0<s.tellC.length:=by unfold PS.tellC;simp
  have hit:∀(q:Qy) (hq:q.Fit) (hok:q.ok=true) (Y:Heap) (hm:m+7≤Y.length),Sat (CT G) 10 [.hp (h.length+8) 0 0 0,q.av] (sc Y h.length s m c) (fun r h'=>r=.tup [.sl 1 ((itmF s fun t=>q.bel s t).map iA),.int .i64 0]∧h'=sc Y h.length s m c):=fun q hq hok Y hm=>by
   have:=oC G s hI hT q hq (X:=co Y m c) (n:=h.length) (by rw[bJ hm];omega)
   rw[hok]at this
   exact this
  generalize s.tellC=A at*
  have hAl:(A.map Ct.av).length=A.length:=List.length_map ..
  have hgt:decide ((A.length:Int)>0)=true:=by simp;omega
  have hgt2:decide ((0:Int)<A.length)=true:=by simp;omega
  have F:=F3 hAl hmj0 hgt
  refine sb [.tmp 2] (fn:=Tryz.f3) Tryz.func3 ?_
  intro Q hQ
  refine wk F ?_
  refine kq F (hLg _) ?_
  refine kq F (hfh) ?_
  refine kq F (hnw) ?_
  refine kq F (gv G _) ?_
  refine kq F (htl) ?_
  refine lm (fun nL tL hL=>∃(k:Nat) (j:Heap),A.length-k=nL∧sc (W0++j) h.length s m c=hL∧tL 6=.int .i64 k∧k≤A.length) ((fun(k:Nat) (j:Heap)=>(A.length-k:Nat)) (0) ([])) ?_ ?_
  ·refine Wkn.refl ⟨0,[],rfl,by rw[List.append_nil],?_,by omega⟩
   all_goals first|exact zq F|rfl|omega|trivial|skip
  rintro _ s2 h' ⟨k,j,rfl,rfl,e6,hk⟩ K2 hK2
  simp only[ak,ao,Nat.reduceEqDiff, ↓reduceIte]at e6
  have F:=F2 F e6
  refine wk F ?_
  refine cq F (fun c1=>?_) (fun c1=>?_)<;>(try exact c1.elim)<;>(refine wk F ?_)
  ·have c2:k<A.length:=by omega
   obtain⟨y,hy,hym⟩:=ah c2
   obtain⟨hf1,hf2,⟨qo,qn,qs,hyq⟩,ok1,ok2,e1,e2⟩:=hask y hym
   have hQ1:=fun h=>mf G y h
   have hi1:=fun(Y:Heap) (hm:m+7≤Y.length)=>hit y.q hf1 ok1 Y hm
   have hi2:=fun(Y:Heap) (hm:m+7≤Y.length)=>hit y.r hf2 ok2 Y hm
   have hyr:y.r.av=.agg [.int .i64 3,.int .i64 0,.str [],.sl 4 [y.q.av,(Qy.mk 9 0 [] []).av]]:=by unfold Ct.r;rw[Qy.av_eq];rfl
   rw[hyr]at hi2
   generalize (itmF s fun t=>y.q.bel s t)=L1 at*
   generalize (itmF s fun t=>y.r.bel s t)=L2 at*
   rw[hyq,Qy.av_eq]at hQ1 hi1 hi2
   rw[Qy.av_eq]at hi2
   simp only[if_true,List.map_nil]at hQ1 hi1 hi2
   have hi3:=fun(Y:Heap) (hm:m+7≤Y.length)=>Sat.wk (xs:=[.hp (h.length+8) 0 0 0,.agg [.int .i64 3,.int .i64 0,.str [],.sl 4 [.agg [.int .i64 qo,.int .i64 qn,.str qs,.sl 4 []],.agg [.int .i64 9,.int .i64 0,.str [],.nil (.slice none 0 0)]]]]) (ys:=[.hp (h.length+8) 0 0 0,.agg [.int .i64 3,.int .i64 0,.str [],.sl 4 [.agg [.int .i64 qo,.int .i64 qn,.str qs,.sl 4 []],.agg [.int .i64 9,.int .i64 0,.str [],.sl 4 []]]]]) rfl (fun i x y hx hy=>by
    match i with
    |0=>simp at hx hy;subst hx;subst hy;exact Wk.refl _
    |1=>simp at hx hy;subst hx;subst hy;exact uw _
    |i+2=>simp at hx) (hi2 Y hm)
   clear hi2
   have e1:((L1.length:Int)=y.all):=e1
   have e2:((L2.length:Int)=y.un):=e2
   have hl1:(L1.map iA).length=L1.length:=List.length_map ..
   have hl2:(L2.map iA).length=L2.length:=List.length_map ..
   clear hyr hf1 hf2 ok1 ok2
   have e3:(y.all !=y.all)=false:=by simp
   have e4:(y.un !=y.un)=false:=by simp
   have F:=F9 F hy c2 hl1 hl2 e1 e2 e3 e4
   try refine sq F ?_
   refine wk F ?_
   refine kq F (hQ1 _) ?_
   refine kq F (hi1 _ (hmj0 _)) ?_
   refine kq F (hi3 _ (hmj0 _)) ?_
   refine hK2 _ _ _ (Wkn.refl ⟨k+1,j++[.row 33 4 0 [.agg [.int .i64 qo,.int .i64 qn,.str qs,.sl 4 []]]],rfl,bp,?_,by omega⟩) (by omega)
   all_goals first|exact zq F|rfl|omega|trivial|skip
  ·refine ee hQ F ?_
   obtain⟨j0,hj0⟩:=hpre
   exact q8 hn (hmj0 _) ⟨_,by rw[hj0,List.append_assoc]⟩ (by omega) ⟨rfl,rfl⟩
end Go.Av
