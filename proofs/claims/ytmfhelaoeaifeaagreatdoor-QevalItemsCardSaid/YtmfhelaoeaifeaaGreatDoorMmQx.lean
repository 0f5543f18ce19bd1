/- Parts. -/
import Derived.Test.YtmfhelaoeaifeaaGreatDoorMmXo
import Derived.Test.YtmfhelaoeaifeaaGreatDoorMmZl
set_option linter.unusedSimpArgs false
set_option linter.unusedVariables false
set_option linter.unusedSectionVars false
set_option linter.unnecessarySimpa false
set_option maxRecDepth 100000
set_option maxHeartbeats 16000000
namespace Go.Av
open Go Go.Proofs Go.RowKit
section
attribute [local irreducible] WP WPl WPix Sat SatY
structure Cu where
 d:Int
 i:Int
 set:Bool
def Cu.av(c:Cu):AVal:=.agg [.int .i64 c.d,.int .i64 c.i,.bool c.set]
variable (G:Nat→Option (List AVal))
section
variable {l:List Ky} {H:Heap} {n v:Nat}
end
end
section
attribute [local irreducible] WP WPl WPix Sat SatY
section
variable {H:Heap} {n p:Nat} {qv:AVal} {c:Cu} {N:Int} {fr:Nat} {z:Blk} {mo:Bool} {pre:List Ky} {j:Heap}
end
variable (G:Nat→Option (List AVal))
section
variable {l:List Ky} {H:Heap} {n v:Nat}
end
end
section
def PS.Tt(s:PS):Prop:=∀k t,lkM s.it k=some t→t.title.length≤256
theorem PS.Tt.z:PS.z.Tt:=fun _ _ h=>by cases h
theorem PS.Tt.getD{s:PS}(h:s.Tt)(k:Int):((lkM s.it k).getD It.z).title.length≤256:=by
 cases hl:lkM s.it k with
 |none=>simp[It.z]
 |some t=>exact h k t hl
theorem PS.Tt.step{s:PS}(h:s.Tt)(hI:s.Inv)(e:Ev):(s.step L0 e).Tt:=by
 unfold PS.step;split
 ·rename_i hok;have hr:e.kind=7→e.t.length≤256:=fun k=>by
   unfold PS.ok PS.fits at hok;rw[L6]at hok;have:=hok.1;unfold Leaf.ck at this;simp only[L6]at this;have hq:=this.1;unfold Leaf.right at hq;rw[L5 (by omega),L5 (by omega),L5 (by omega),L5 (by omega),L5 (by omega),M0 k]at hq;simp only[L6]at hq;have hq:=hq.2.2.2.2.1;have hu:L0.title e.t=textF rightS cleanF e.t 256:=rfl;rw[hu]at hq;unfold textF at hq;rw[L6,M1]at hq;omega
  intro k t hk;rw[zU]at hk;split at hk
  ·exact h k t (fV hI.w3.keys hk)
  split at hk
  ·rename_i k7;rcases aR hk with⟨rfl,rfl⟩| ⟨_,hk⟩
   ·exact hr k7
   ·exact h k t hk
  split at hk
  ·rcases aR hk with⟨rfl,rfl⟩| ⟨_,hk⟩
   ·exact h.getD _
   ·exact h k t hk
  split at hk
  ·rcases aR hk with⟨rfl,rfl⟩| ⟨_,hk⟩
   ·exact h.getD _
   ·exact h k t hk
  split at hk
  ·rcases aR hk with⟨rfl,rfl⟩| ⟨_,hk⟩
   ·exact h.getD _
   ·exact h k t hk
  ·exact h k t hk
 ·exact h
theorem PS.Tt.fold{es:List Ev}:∀{s:PS},s.Tt→s.Inv→(es.foldl (PS.step L0) s).Tt:=by
 induction es with
 |nil=>intro s h _;exact h
 |cons e es ih=>intro s h hI;exact ih (h.step hI e) (hI.step e)
end
section
attribute [local irreducible] WP WPl WPix Sat
def PS.eval(s:PS)(q:Qy)(id:Int):Bool:=match lkM s.it id with
 |none=>false
 |some t=>q.ok&&q.bel s t
def Qy.Fit(q:Qy):Prop:=q.mx≤9223372036854775807∧(q.dep 1≤12→q.sz≤20000)
theorem iI{X:Heap}{n:Nat}{s:PS}(x:ML Int (List Int)×Nat)(b1 b2:Blk)(j:Heap):sa (X++(b1::b2::j)) n s X.length x=so (X++(am x.1 x.2::ar n X.length::j)) n s:=by
 unfold sa twB;congr 1
 have:=jM X [am x.1 x.2,ar n X.length] j;show ov _ _ _=X++([am x.1 x.2,ar n X.length]++j);rw[this];unfold ov;have h1:∀c1 c2:Blk,(X++(c1::c2::j)).take X.length=X:=fun c1 c2=>by rw[X2 rfl]
 have h2:∀c1 c2:Blk,(X++(c1::c2::j)).drop (X.length+2)=j:=fun c1 c2=>by rw[List.drop_append,T9 (by omega),Z3];rfl
 show _++_++List.drop (X.length+2) _=List.take _ (X++(am x.1 x.2::ar n X.length::j))++_++List.drop (X.length+2) (X++(am x.1 x.2::ar n X.length::j));rw[h1,h1,h2,h2]
variable (G:Nat→Option (List AVal))
theorem nI(s:PS){X:Heap}{n:Nat}(hn:n+9≤X.length):Sat (CT G) 34 [.hp (n+8) 0 0 0] (so X n s) (fun r h'=>r=.hp (X.length+1) 0 0 0∧h'=sa (X++[am [] 0,ar n X.length]) n s X.length ([],0)):=by
 have e:=iI (X:=X) (n:=n) (s:=s) ([],0) (am [] 0) (ar n X.length) [];rw[e, ← bj hn];have hl:=aQ (s:=s) hn;have hp:n+8<(so X n s).length:=by omega
 generalize so X n s=H at*;rw[← hl];refine sb [.tmp 2] Tryz.func34 ?_;intro Q hQ;refine wk trivial ?_;refine ee hQ trivial ?_;exact Z2 (by simp) (.hp _ _ _ _ (by simp)) ⟨rfl,rfl⟩
theorem lR(s:PS)(hI:s.Inv)(hT:s.Tt)(q:Qy)(hq:q.Fit)(id:Int){X:Heap}{n:Nat}(hn:n+9≤X.length):Sat (CT G) 14 [.hp (n+8) 0 0 0,q.av,.int .i64 id] (so X n s) (fun r h'=>r=.bool (s.eval q id)∧h'=so X n s):=by
 have hIt:=fun(j:Heap)=>qB G s id (by have:=(hI.tags id).2;omega) (H:=X++j) (n:=n) (by simp;omega)
 have hn1:∀j:Heap,n+9≤(X++j).length:=fun j=>by simp;omega
 unfold PS.eval;cases hl:lkM s.it id with
 |none=>
  rw[hl]at hIt;simp only[Option.getD_none,Option.isSome_none]at hIt;obtain⟨qo,qn,qs,qk⟩:=q;rw[Qy.av_eq]at*;have F:=F2 hn hn1
  skip
  refine sb [.tmp 6] Tryz.func14 ?_;intro Q hQ;refine wn F ?_;refine kn F (hIt _) ?_;refine jl (by decide+kernel) (vS G) ?_;refine sq F ?_;refine wn F ?_
  skip
  refine ee hQ F ?_;exact au hn (.bool _) ⟨rfl,rfl⟩
 |some t=>
  rw[hl]at hIt;simp only[Q3,Option.isSome_some]at hIt;have hC:=fun h=>ew G q h hq.1 hq.2
  have htt:=hT id t hl;have htg:=(hI.tags id).2;rw[hl,Q3]at htg;cases hok:q.ok with
  |false=>
   rw[hok]at hC;clear hq;obtain⟨qo,qn,qs,qk⟩:=q;rw[Qy.av_eq]at*;have F:=F2 hn hn1
   skip
   refine sb [.tmp 6] Tryz.func14 ?_;intro Q hQ;refine wn F ?_;refine kn F (hIt _) ?_;refine jl (by decide+kernel) (vS G) ?_;refine sq F ?_;refine wn F ?_;refine aE (hC _) ?_;(try refine sq F ?_);refine wn F ?_
   skip
   refine ee hQ F ?_;exact au hn (.bool _) ⟨rfl,rfl⟩
  |true=>
   have hok':=hok;unfold Qy.ok at hok';simp only[L6,M1]at hok';obtain⟨rQ,hrQ⟩:∃rQ:Blk,rQ=.row 25 4 0 [q.av]:=⟨_,rfl⟩;obtain⟨rT,hrT⟩:∃rT:Blk,rT=.row 49 9 0 [t.av]:=⟨_,rfl⟩;have hlX:(X++[rQ,rT]).length=X.length+2:=(by simp);have e:∀y:ML Int (List Int)×Nat,sa ((X++[rQ,rT])++[am [] 0,ar n (X.length+2)]) n s (X.length+2) y=so (X++[rQ,rT,am y.1 y.2,ar n (X.length+2)]) n s:=fun y=>by
    have:=iI (X:=X++[rQ,rT]) (n:=n) (s:=s) y (am [] 0) (ar n (X.length+2)) [];rw[hlX]at this;rw[this,O1];rfl
   have hB:=pB G s hI t htt (by omega) (n:=n) (a:=X.length+2) (by omega) q (hq.2 hok'.1) hok'.2.2 ((X++[rQ,rT])++[am [] 0,ar n (X.length+2)]) ([],0) (by simp) ⟨.nil,fun _ _ h=>by cases h⟩;have hO:=nI G s (X:=X++[rQ,rT]) (n:=n) (by omega);rw[hlX,e]at hO;simp only[e]at hB;subst hrQ;subst hrT;rw[hok]at hC;show Sat _ _ _ _ (fun r h'=>r=.bool (q.bel s t)∧h'=so X n s);generalize q.bel s t=b at*;clear hq hok' e hlX;obtain⟨qo,qn,qs,qk⟩:=q;rw[Qy.av_eq]at*;have F:=F2 hn hn1
   skip
   refine sb [.tmp 6] Tryz.func14 ?_;intro Q hQ;refine wn F ?_;refine kn F (hIt _) ?_;refine aC 12 [8,11] [true,true,true,true,true,true,true,true,false,true,true,false] (.one 8 [false,false,false,false,false,false,false,false,false,true,true] (.one 11 [] .fin)) (by decide+kernel) (by kernel_rfl) (by decide+kernel) ?_;simp only[aG,aH,aD];(try refine sq F ?_);repeat' ((first|refine ai ?_|refine aj ?_|refine ak ?_ ?_)<;>try refine sq F ?_)
   (all_goals try refine wn F ?_);refine aE (hC _) ?_;(try refine sq F ?_);refine wn F ?_;repeat' ((first|refine ai ?_|refine aj ?_|refine ak ?_ ?_)<;>try refine sq F ?_)
   (all_goals try refine wn F ?_);refine pH rfl (by exact zq F) ?_;simp(disch:=first|omega| (simp only[go_sem, ↓reduceIte,seval];first|done|omega)|fail) only[go_sem, ↓reduceIte,seval,F];refine hO.mono ?_;rintro r h' ⟨rfl,rfl⟩;have F:=F2 F @aw;refine⟨by simp(disch:=first|omega| (simp only[go_sem, ↓reduceIte,seval];first|done|omega)|fail) only[go_sem, ↓reduceIte,seval,F],?_⟩;repeat' ((first|refine ai ?_|refine aj ?_|refine ak ?_ ?_)<;>try refine sq F ?_)
   (all_goals try refine wn F ?_);refine pH rfl (by exact zq F) ?_;simp(disch:=first|omega| (simp only[go_sem, ↓reduceIte,seval];first|done|omega)|fail) only[go_sem, ↓reduceIte,seval,F];refine hB.mono ?_;rintro r h' ⟨rfl,y,hy,rfl⟩;repeat' ((first|refine ai ?_|refine aj ?_|refine ak ?_ ?_)<;>try refine sq F ?_)
   (all_goals try refine wn F ?_);refine ee hQ F ?_;exact au hn (.bool _) ⟨rfl,rfl⟩
end
section
attribute [local irreducible] WP WPl WPix Sat
theorem lS{A j:Heap}{p:Nat}(c:Blk)(hp:A.length≤p):ov (A++j) p [c]=A++ov j (p-A.length) [c]:=by
 unfold ov;rw[List.take_append,N0 hp,List.drop_append,T9 (by simp only[R2];omega),P4,O1,O1,O1];congr 4
 simp only[R2];omega
def itmK(s:PS)(f:It→Bool):List Ky:=srtK ((s.tell.it.filter f).map It.ky)
def itmF(s:PS)(f:It→Bool):List Int:=(itmK s f).map (·.i)
theorem ff{s:PS}(h:s.Inv)(f:It→Bool):(((s.tell.it.filter f).map It.ky).map (·.i)).Nodup:=by
 rw[W5];exact(nG h).sublist (List.filter_sublist.map _)
theorem x5{s:PS}(h:s.Inv){f:It→Bool}{L:List It}(hp:L.Perm (s.tell.it.filter f))(hs:L.Pairwise fun a b=>ahd b.ky a.ky=false):L.map (·.id)=itmF s f:=by
 have hn:(L.map (·.id)).Nodup:=(hp.map (·.id)).nodup_iff.2 ((nG h).sublist (List.filter_sublist.map _));have hk:Sk (L.map It.ky):=by
  unfold Sk;rw[zb0];have h2:L.Pairwise fun a b=>a.id≠b.id:=by rw[← zb0];exact List.nodup_iff_pairwise_ne.1 hn
  refine(hs.and h2).imp fun {a b} ⟨h3,h4⟩=>?_
  exact kM (a:=b.ky) (b:=a.ky) (fun e=>h4 e.symm) h3
 have e:L.map It.ky=itmK s f:=hk.uniq (jd (ff h f)) fun x=>by
  show x∈L.map It.ky↔x∈srtK ((s.tell.it.filter f).map It.ky);rw[je (ff h f)];exact(hp.map It.ky).mem_iff
 unfold itmF;rw[← e,W5];rfl
section
variable {Y:Heap} {n a p v:Nat} {s:PS} {x:ML Int (List Int)×Nat}
theorem yt{L:List It}(h:Y[p]? =some (rI v L)):sI Y n s a x p v L=sa Y n s a x:=by
 unfold sI;congr 1
 have hp:=(f9.1 h).1
 apply R8
 intro q;rw[aV (by simp only[R2];omega)];split
 ·rename_i hq;have:q=p:=by simp only[R2]at hq;omega
  subst this;rw[Nat.sub_self,h];rfl
 ·rfl
theorem yu{j:Heap}{y:ML Int (List Int)×Nat}{R:AVal→Heap→Prop}{r0 r:AVal}(hn:n+9≤a)(hm:a+2≤Y.length)(hz:Frz (sa (Y++j) n s a y) Y.length r0 r)(hR:R r (sa Y n s a y)):Fin (sa Y n s a x) (sa (Y++j) n s a y) R r0:=by
 have e:∀(Y:Heap) (x:ML Int (List Int)×Nat),a+2≤Y.length→sa Y n s a x=ov (so Y n s) a [am x.1 x.2,ar n a]:=fun Y x hm=>cK hn hm
 have hl:(so Y n s).length=Y.length:=aQ (by omega);have e1:sa (Y++j) n s a y=ov (so Y n s++j) a [am y.1 y.2,ar n a]:=by rw[e (Y++j) y (by simp;omega), ← bj (by omega)]
 rw[e1]at hz ⊢;rw[e Y y hm]at hR;rw[e Y x hm];exact eB (by rw[hl];exact hm) rfl (fun b hb=>by
  rw[hl];simp only[M6,P7,or_false]at hb;rcases hb with rfl|rfl
  ·exact kh _ _ _
  ·exact ki hn hm) (by rw[hl];exact hz) hR
end
variable (G:Nat→Option (List AVal))
section
variable {s:PS} {Y:Heap} {n a:Nat}
theorem oP(hn:n+9≤a)(hm:a+2≤Y.length)(f:It→Bool)(g:FuncId)(cap:List AVal)(t:It)
  (hg:∀x,Gd s x→∀j:Heap,Sat (CT G) g ([]++[t.av]++cap) (sa (Y++j) n s a x) (fun r h'=>r=.bool (f t)∧∃y,Gd s y∧h'=sa (Y++j) n s a y))(x:ML Int (List Int)×Nat)(hx:Gd s x)(j:Heap):
  Sat (CT G) 68 ([]++[t.av]++[.hp Y.length 0 0 0]) (sa (Y++(.row 74 1 0 [.fn (.func g) [] cap]::j)) n s a x) (fun r h'=>r=.bool (!f t)∧∃y,Gd s y∧h'=sa (Y++(.row 74 1 0 [.fn (.func g) [] cap]::j)) n s a y):=by
 have hm1:∀j:Heap,a+2≤(Y++j).length:=fun j=>by simp;omega
 have hc:=hg x hx;generalize f t=b at*;have F:=F4 hm hn hm1 @aw;refine sb [.tmp 3] Tryz.func68 ?_;intro Q hQ;refine wk F ?_;refine(hc _).mono ?_;rintro r h' ⟨rfl,y,hy,rfl⟩;try refine sq F ?_
 refine wk F ?_;refine ee hQ F ?_;have:=bE (x:=x) (s:=s) (j:=[.row 49 9 0 [t.av]]) (R:=fun r h'=>r=.bool (!b)∧∃y,Gd s y∧h'=sa (Y++(.row 74 1 0 [.fn (.func g) [] cap]::j)) n s a y) (r:=.bool (!b)) hn (hm1 (.row 74 1 0 [.fn (.func g) [] cap]::j)) (fun N=>.bool _) (y:=y) ⟨rfl,y,hy,rfl⟩
 rwa [O1]at this
theorem sj(hI:s.Inv)(hn:n+9≤a)(hm:a+2≤Y.length)(x:ML Int (List Int)×Nat):Sat (CT G) 21 [.hp (n+8) 0 0 0] (sa Y n s a x)
  (fun r h'=>∃(j:Heap) (p v:Nat),r=s.tellH p v∧Y.length≤p∧p+1≤(Y++j).length∧h'=sI (Y++j) n s a x p v s.tell.it):=by
 have hl:(ov Y a [am x.1 x.2,ar n a]).length=Y.length:=aT hm;refine(o2 G s hI.toOk (H:=ov Y a [am x.1 x.2,ar n a]) (n:=n) (by rw[hl];omega)).mono ?_;rintro r h' ⟨j,p,v,rfl,h1,h2,rfl⟩;rw[hl]at h1;have h3:=ba h2;have h4:=bX h2;rw[N1 (by rw[hl];exact h1),hl]at h4;rw[N3,hl]at h3;refine⟨j,p,v,rfl,h1,by rw[N3];omega,?_⟩;rw[yt (by rw[N1 h1];exact h4)];show so (ov Y a _++j) n s=so (ov (Y++j) a _) n s;rw[fM hm]
theorem gE(hI:s.Inv)(hn:n+9≤a)(hm:a+2≤Y.length)(f:It→Bool)(g:FuncId)(cap:List AVal)
  (hg:∀t∈s.tell.it,∀x,Gd s x→∀j:Heap,Sat (CT G) g ([]++[t.av]++cap) (sa (Y++j) n s a x) (fun r h'=>r=.bool (f t)∧∃y,Gd s y∧h'=sa (Y++j) n s a y))(x:ML Int (List Int)×Nat)(hx:Gd s x):
  Sat (CT G) 35 [.hp (n+8) 0 0 0,.fn (.func g) [] cap] (sa Y n s a x) (fun r h'=>r=.sl 1 ((itmF s f).map iA)∧∃y,Gd s y∧h'=sa Y n s a y):=by
 have hil:s.tell.it.length≤100000:=by have:=aK (z:=It.z) s.it;have:=hI.l3;show(valsM It.z s.it).length≤_;omega
 have hm1:∀j:Heap,a+2≤(Y++j).length:=fun j=>by simp;omega
 have hT:=sj G (s:=s) (Y:=Y++[.row 74 1 0 [.fn (.func g) [] cap]]) hI hn (hm1 _) x;have hitl:(valsM It.z s.it).length=s.tell.it.length:=rfl;have F:=F3 hm hn hm1;refine sb [.tmp 4] Tryz.func35 ?_;intro Q hQ;refine wk F ?_;refine hT.mono ?_;rintro r h' ⟨j,p,v,rfl,hp1,hp2,rfl⟩;have hpl:Y.length+1≤p:=by simpa using hp1
 rw[O1]at hp2 ⊢
 change p+1≤(Y++(.row 74 1 0 [.fn (.func g) [] cap]::j)).length at hp2
 have hD:=wT G (s:=s) (Y:=Y++(.row 74 1 0 [.fn (.func g) [] cap]::j)) (v:=v) hn (by omega) hp2 (fun t=> !f t) 68 [.hp Y.length 0 0 0] s.tell.it (by omega) (fun t ht x hx j2 L=>by
  have e:∀y,sI ((Y++(.row 74 1 0 [.fn (.func g) [] cap]::j))++j2) n s a y p v L=sa (Y++(.row 74 1 0 [.fn (.func g) [] cap]::ov (j++j2) (p-(Y.length+1)) [rI v L])) n s a y:=fun y=>by
   unfold sI;have:=lS (A:=Y++[.row 74 1 0 [.fn (.func g) [] cap]]) (j:=j++j2) (p:=p) (rI v L) (by simpa using hpl);simp only[O1,U8,P4,N3,R2]at this ⊢;rw[this]
  simp only[e];exact oP G hn hm f g cap t (hg t ht) x hx _) x hx
 simp only[Bool.not_not]at hD;unfold PS.tellH;rw[hitl];try simp only[U8,P4]
 generalize hZ:Y++(Blk.row 74 1 0 [.fn (.func g) [] cap]::j)=Z at hp2 hD ⊢;try refine sq F ?_
 refine wk F ?_;refine hD.mono ?_;rintro r h' ⟨rfl,y,hy,rfl⟩;have hap:a+2≤p:=by omega
 have hfl:(s.tell.it.filter f).length≤100000:=Q7 (Y8 _ _) hil;have hS:=um G (s.tell.it.filter f) hfl (sI Z n s a y p v (s.tell.it.filter f)) p v (kX hn hap hp2);try refine sq F ?_
 refine wk F ?_;refine hS.mono ?_;rintro r h' ⟨rfl,L,hLp,hLs,rfl⟩;have hLl:L.length≤100000:=by rw[hLp.length_eq];exact hfl
 rw[kY hn hap hp2, ← hLp.length_eq];have hids:=x5 hI hLp hLs;have hgr:∀(b:Blk) (j:Heap) (u:Nat),getRow (sI (Z++(b::j)) n s a y p v L) Z.length u=getRow [b] 0 u:=fun b j u=>by
  rw[nw hn hap (by simp;omega) u (by omega) (by omega),aJ _ rfl];rfl
 have hsr:∀(b b':Blk) (j:Heap),(sI (Z++(b::j)) n s a y p v L).set Z.length b'=sI (Z++(b'::j)) n s a y p v L:=fun b b' j=>by
  rw[nx hn hap (by simp;omega) b' (by omega) (by omega),cR _ rfl];rfl
 have hgi:∀(b c:Blk) (j:Heap) (u:Nat),getRow (sI (Z++(b::(j++[c]))) n s a y p v L) (Z.length+(j.length+1)) u=getRow [c] 0 u:=fun b c j u=>by
  rw[nw hn hap (by simp;omega) u (by omega) (by omega),bd _ rfl,show b::(j++[c])=(b::j)++[c]from rfl,aJ _ (by simp)]
 have hsi:∀(b c c':Blk) (j:Heap),(sI (Z++(b::(j++[c]))) n s a y p v L).set (Z.length+(j.length+1)) c'=sI (Z++(b::(j++[c']))) n s a y p v L:=fun b c c' j=>by
  rw[nx hn hap (by simp;omega) c' (by omega) (by omega),gZ _ rfl,show b::(j++[c])=(b::j)++[c]from rfl,cR _ (by simp)];rfl
 have hpz:∀j:Heap,p+1≤(Z++j).length:=fun j=>by simp;omega
 have F:=F4 F hap hp2 hpz;try refine sq F ?_
 refine wk F ?_;refine lm (fun nL tL hL=>∃(k w:Nat) (acc:List Int) (j2:Heap),L.length-k=nL∧sI (Z++(.row 3 1 w (acc.map iA)::j2)) n s a y p v L=hL∧tL 6=.hs Z.length w 0 acc.length true∧tL 18=.int .i64 k∧k≤L.length∧acc.length=k∧acc++(L.drop k).map (·.id)=L.map (·.id)) ((fun(k w:Nat) (acc:List Int) (j2:Heap)=>(L.length-k:Nat)) (0) (0) ([]) ([])) ?_ ?_
 ·refine⟨_,_,Y3 6 3 1 (by simp) (by omega) (by exact zq F),⟨0,0,[],[],rfl,by rw[uk hn hap hp2];rfl,?_,?_,by omega,rfl,by simp⟩⟩;all_goals try exact zZz F
 rintro _ s2 h' ⟨k,w,acc,j2,rfl,rfl,e6,e18,hk,hac,hq⟩ K2 hK2;simp only[af,ao,Nat.reduceEqDiff, ↓reduceIte]at e6 e18;have F:=F3 F e6 e18;refine wk F ?_;have hLm:(L.map It.av).length=L.length:=L8 ..;refine cq F (fun c1=>?_) (fun c1=>?_)<;>(try exact c1.elim)<;>(refine wk F ?_)
 ·have c2:k<L.length:=by omega
  obtain⟨t,ht,htm⟩:=ac c2;rw[aF ht,N9]at hq;have F:=F8 F ht c2 hgr hsr hgi hsi hLm;try refine sq F ?_
  refine wk F ?_;refine aq F ?_;try refine sq F ?_
  refine wk F ?_;refine hK2 _ _ _ (M2 ⟨k+1,w+1,acc++[t.id],j2++[.row 49 9 0 [t.av]],rfl,by simp[iA,It.av],?_,?_,by omega,by simp;omega,by rw[← hq];simp⟩) (by omega);all_goals try exact zZz F
 ·rw[aI c1,S6,O8,hids]at hq;refine ee hQ F ?_;rw[← hq];have hz:Frz (sI (Z++(.row 3 1 w (acc.map iA)::j2)) n s a y p v L) Y.length (.hs Z.length w 0 acc.length true) (.sl 1 (acc.map iA)):=by
   refine za3 (by rw[← hZ];simp) (e:=3) (by rw[hgr];simp[getRow]) (by simp) (fun r hr=>?_) (fun r hr=>?_)
   ·obtain⟨x,_,rfl⟩:=M9.1 hr;exact .int _ _
   ·obtain⟨x,_,rfl⟩:=M9.1 hr;intro c hc;simp[AVal.cells,iA]at hc;subst hc;rfl
  have e:sI (Z++(.row 3 1 w (acc.map iA)::j2)) n s a y p v L=sa (Y++ov (.row 74 1 0 [.fn (.func g) [] cap]::(j++(.row 3 1 w (acc.map iA)::j2))) (p-Y.length) [rI v L]) n s a y:=by
   unfold sI;rw[← hZ,O1];rw[show(Blk.row 74 1 0 [.fn (.func g) [] cap]::j)++(.row 3 1 w (acc.map iA)::j2)=.row 74 1 0 [.fn (.func g) [] cap]::(j++(.row 3 1 w (acc.map iA)::j2))from rfl,lS _ (by omega)]
  rw[e]at hz ⊢;exact yu hn hm hz ⟨rfl,y,hy,rfl⟩
end
end
section
attribute [local irreducible] WP WPl WPix Sat
variable (G:Nat→Option (List AVal))
def wi(X:Heap)(n:Nat)(s:PS)(q:Qy)(y:ML Int (List Int)×Nat)(j:Heap):Heap:=so (X++(.row 25 4 0 [q.av]::am y.1 y.2::ar n (X.length+1):: .row 70 1 0 [.hp (X.length+2) 0 0 0]::j)) n s
def yi(X:Heap)(n:Nat)(q:Qy)(j:Heap):Heap:=X++(.row 25 4 0 [q.av]::am [] 0::ar n (X.length+1):: .row 70 1 0 [.hp (X.length+2) 0 0 0]::j)
theorem sk(X:Heap)(n:Nat)(s:PS)(q:Qy)(y:ML Int (List Int)×Nat)(j:Heap):sa (yi X n q j) n s (X.length+1) y=wi X n s q y j:=by
 have:=iI (X:=X++[.row 25 4 0 [q.av]]) (n:=n) (s:=s) y (am [] 0) (ar n (X.length+1)) (.row 70 1 0 [.hp (X.length+2) 0 0 0]::j);rw[N3,R2]at this;unfold yi wi;rw[O1,O1]at this;exact this
theorem nJ(X:Heap)(n:Nat)(q:Qy)(j k:Heap):yi X n q j++k=yi X n q (j++k):=by
 unfold yi;rw[O1];rfl
theorem kr(X:Heap)(n:Nat)(q:Qy)(j:Heap):(yi X n q j).length=X.length+4+j.length:=by
 unfold yi;simp;omega
theorem ku(s:PS)(hI:s.Inv)(q:Qy)(hqz:q.sz≤20000)(hqa:q.all pnF=true){X:Heap}{n:Nat}(hn:n+9≤X.length)(t:It)(htt:t.title.length≤256)(htg:t.tags.length≤1048576)(x:ML Int (List Int)×Nat)(hx:Gd s x)(j:Heap):
  Sat (CT G) 36 ([]++[t.av]++[.hp (X.length+3) 0 0 0,.hp X.length 0 0 0]) (sa (yi X n q j) n s (X.length+1) x) (fun r h'=>r=.bool (q.bel s t)∧∃y,Gd s y∧h'=sa (yi X n q j) n s (X.length+1) y):=by
 have hB:=pB G s hI t htt htg (n:=n) (a:=X.length+1) (by omega) q hqz hqa (yi X n q (j++[.row 49 9 0 [t.av]])) x (by rw[kr];omega) hx;have hF:=fun y (hy:Gd s y)=>bE (x:=x) (y:=y) (s:=s) (n:=n) (a:=X.length+1) (Y:=yi X n q j) (j:=[.row 49 9 0 [t.av]]) (R:=fun r h'=>r=.bool (q.bel s t)∧∃y,Gd s y∧h'=sa (yi X n q j) n s (X.length+1) y) (r:=.bool (q.bel s t)) (by omega) (by rw[kr];omega) (fun N=>.bool _) ⟨rfl,y,hy,rfl⟩
 simp only[nJ,sk]at hB hF ⊢;generalize q.bel s t=b at*;unfold wi at hB hF ⊢;clear hqz hqa;obtain⟨qo,qn,qs,qk⟩:=q;rw[Qy.av_eq]at*;have hn1:∀j:Heap,n+9≤(X++j).length:=fun j=>by simp;omega
 have F:=F3 hn hn1 @aw;refine sb [.tmp 4] Tryz.func36 ?_;intro Q hQ;refine wk F ?_;refine hB.mono ?_;rintro r h' ⟨rfl,y,hy,rfl⟩;try refine sq F ?_
 refine wk F ?_;refine ee hQ F ?_;exact hF y hy
theorem gF(s:PS)(hI:s.Inv)(hT:s.Tt)(q:Qy)(hq:q.Fit){X:Heap}{n:Nat}(hn:n+9≤X.length):Sat (CT G) 12 [.hp (n+8) 0 0 0,q.av] (so X n s) (fun r h'=>r=.tup (if q.ok then [.sl 1 ((itmF s fun t=>q.bel s t).map iA),.int .i64 0]else [.nil (.slice none 0 0),.int .i64 250])∧h'=so X n s):=by
 have hC:=fun h=>ew G q h hq.1 hq.2
 have hn1:∀j:Heap,n+9≤(X++j).length:=fun j=>by simp;omega
 cases hok:q.ok with
 |false=>
  rw[hok]at hC;clear hq;obtain⟨qo,qn,qs,qk⟩:=q;rw[Qy.av_eq]at*;have F:=F2 hn hn1;refine sb [.tmp 4,.tmp 5] Tryz.func12 ?_;intro Q hQ;refine wk F ?_;refine(hC _).mono ?_;rintro r h' ⟨rfl,rfl⟩;try refine sq F ?_
  refine wk F ?_;refine ee hQ F ?_;exact au hn (.tup _ fun y hy=>by simp at hy;rcases hy with rfl|rfl<;>constructor) ⟨rfl,rfl⟩
 |true=>
  have hok':=hok;unfold Qy.ok at hok';simp only[L6,M1]at hok';obtain⟨rQ,hrQ⟩:∃rQ:Blk,rQ=.row 25 4 0 [q.av]:=⟨_,rfl⟩;have hlX:(X++[rQ]).length=X.length+1:=by simp
  have hO:=nI G s (X:=X++[rQ]) (n:=n) (by omega);have hP:=gE G (s:=s) (Y:=yi X n q []) (n:=n) (a:=X.length+1) hI (by omega) (by rw[kr];omega) (fun t=>q.bel s t) 36 [.hp (X.length+3) 0 0 0,.hp X.length 0 0 0] (fun t ht x hx j=>by
   obtain⟨id,hid⟩:∃id,lkM s.it id=some t:=nF hI ((jr hI).mem_iff.1 ht);have htg:=(hI.tags id).2;rw[hid,Q3]at htg;have:=ku G s hI q (hq.2 hok'.1) hok'.2.2 hn t (hT id t hid) (by omega) x hx j;rw[nJ];exact this) ([],0) ⟨.nil,fun _ _ h=>by cases h⟩
  simp only[sk]at hP;unfold wi at hP;rw[hlX]at hO;have e:sa (X++[rQ]++[am [] 0,ar n (X.length+1)]) n s (X.length+1) ([],0)=so (X++[rQ,am [] 0,ar n (X.length+1)]) n s:=by
   have:=iI (X:=X++[rQ]) (n:=n) (s:=s) ([],0) (am [] 0) (ar n (X.length+1)) [];rw[hlX]at this;rw[this,O1];rfl
  rw[e]at hO;subst hrQ;rw[hok]at hC;clear hok' e hlX hq hok;generalize (itmF s fun t=>q.bel s t)=L at*;obtain⟨qo,qn,qs,qk⟩:=q;rw[Qy.av_eq]at*;have F:=F2 hn hn1;refine sb [.tmp 4,.tmp 5] Tryz.func12 ?_;intro Q hQ;refine wk F ?_;refine(hC _).mono ?_;rintro r h' ⟨rfl,rfl⟩;try refine sq F ?_
  refine wk F ?_;refine hO.mono ?_;rintro r h' ⟨rfl,rfl⟩;have F:=F4 F hn hn1 @aw;try refine sq F ?_
  refine wk F ?_;refine hP.mono ?_;rintro r h' ⟨rfl,y,hy,rfl⟩;try refine sq F ?_
  refine wk F ?_;refine ee hQ F ?_;exact au hn (.tup _ fun y hy=>by
   simp only[M6,P7,or_false]at hy;rcases hy with rfl|rfl
   ·exact .sl _ _ fun r hr=>by obtain⟨x,_,rfl⟩:=M9.1 hr;exact .int _ _
   ·exact .int _ _) ⟨rfl,rfl⟩
end
section
theorem x6{s:PS}(hI:s.Inv){f:It→Bool}{x:Ky}:x∈itmK s f↔∃id t,lkM s.it id=some t∧f t=true∧x=t.ky:=by
 unfold itmK;rw[je (ff hI f),M9];constructor
 ·rintro⟨t,ht,rfl⟩;obtain⟨h1,h2⟩:=V3.1 ht;obtain⟨id,hid⟩:=nF hI ((jr hI).mem_iff.1 h1);exact⟨id,t,hid,h2,rfl⟩
 ·rintro⟨id,t,h1,h2,rfl⟩;exact⟨t,V3.2 ⟨bD h1,h2⟩,rfl⟩
def l27:List Ev:=[⟨3,1,0,0,[117],[],[]⟩,⟨7,1,1,5,[97],[71,111,32,116,101,97],[]⟩,⟨7,2,1,9,[98],[],[]⟩,⟨7,3,1,9,[99],[],[]⟩,⟨8,3,0,1,[],[],[]⟩,⟨11,1,0,0,[115],[117,110,114,101,97,100],[]⟩,⟨11,2,0,0,[115],[111,114],[]⟩]
def s27:PS:=l27.foldl PS.step1 PS.z
theorem jt:l27.foldl (PS.step L0) PS.z=s27:=by
 show(((((((PS.z.step L0 _).step L0 _).step L0 _).step L0 _).step L0 _).step L0 _).step L0 _)=_;rw[dC (gG (by kernel_rfl) rfl),dC (gG (by kernel_rfl) rfl),dC (gG (by kernel_rfl) rfl),dC (gG (by kernel_rfl) rfl),dC (gG (by kernel_rfl) rfl),dC (gG (by kernel_rfl) rfl),dC (gG (by kernel_rfl) rfl)];rfl
theorem dD:s27.Inv:=by rw[← jt];exact PS.Inv.z.fold l27
theorem kw:s27.Tt:=by rw[← jt];exact PS.Tt.fold PS.Tt.z PS.Inv.z
def t27a:It:=⟨1,1,5,[97],[71,111,32,116,101,97],[],false,false,[]⟩
def t27b:It:=⟨2,1,9,[98],[],[],false,false,[]⟩
def t27c:It:=⟨3,1,9,[99],[],[],true,false,[]⟩
theorem xj:lkM s27.it 1=some t27a:=by kernel_rfl
theorem sm:lkM s27.it 2=some t27b:=by kernel_rfl
theorem sn:lkM s27.it 3=some t27c:=by kernel_rfl
theorem Cr:s27.it.map (·.1)=[1,2,3]:=by kernel_rfl
theorem Ae:lkM s27.se 1=some ⟨1,[115],[117,110,114,101,97,100]⟩:=by kernel_rfl
theorem Af:lkM s27.se 2=some ⟨2,[115],[111,114]⟩:=by kernel_rfl
theorem Ah:lkM s27.se 3=none:=by kernel_rfl
theorem iJ(f:It→Bool)(L:List Ky)(hs:Sk L)(hm:∀x,x∈L↔(f t27a=true∧x=t27a.ky)∨(f t27b=true∧x=t27b.ky)∨(f t27c=true∧x=t27c.ky)):itmF s27 f=L.map (·.i):=by
 have e:itmK s27 f=L:=(jd (ff dD f)).uniq hs fun x=>by
  rw[show x∈srtK _↔x∈itmK s27 f from Iff.rfl,x6 dD,hm];constructor
  ·rintro⟨id,t,ht,hf,rfl⟩;have hk:id∈s27.it.map (·.1):=wM.2 (by rw[ht];rfl);rw[Cr]at hk;simp only[M6,P7,or_false]at hk;rcases hk with rfl|rfl|rfl
   ·rw[xj]at ht;cases ht;exact .inl ⟨hf,rfl⟩
   ·rw[sm]at ht;cases ht;exact .inr (.inl ⟨hf,rfl⟩)
   ·rw[sn]at ht;cases ht;exact .inr (.inr ⟨hf,rfl⟩)
  ·rintro(⟨hf,rfl⟩| ⟨hf,rfl⟩| ⟨hf,rfl⟩)
   ·exact⟨1,_,xj,hf,rfl⟩
   ·exact⟨2,_,sm,hf,rfl⟩
   ·exact⟨3,_,sn,hf,rfl⟩
 unfold itmF;rw[e]
def k27a:Ky:=⟨5,1,1⟩
def k27b:Ky:=⟨9,2,1⟩
def k27c:Ky:=⟨9,3,1⟩
theorem yv(f:It→Bool)(h1:f t27a=true)(h2:f t27b=true)(h3:f t27c=true):itmF s27 f=[2,3,1]:=
 iJ f [k27b,k27c,k27a] (by simp[Sk,ahd,k27a,k27b,k27c]) fun x=>by
  simp only[M6,P7,or_false,h1,h2,h3,true_and];exact⟨fun h=>h.elim (fun h=>.inr (.inl h)) fun h=>h.elim (fun h=>.inr (.inr h)) .inl,fun h=>h.elim (fun h=>.inr (.inr h)) fun h=>h.elim .inl fun h=>.inr (.inl h)⟩
theorem Ai(f:It→Bool)(h1:f t27a=true)(h2:f t27b=true)(h3:f t27c=false):itmF s27 f=[2,1]:=
 iJ f [k27b,k27a] (by simp[Sk,ahd,k27a,k27b]) fun x=>by
  simp only[M6,P7,or_false,h1,h2,h3,true_and,O5,false_and];exact⟨fun h=>h.elim .inr .inl,fun h=>h.elim .inr .inl⟩
theorem Aj(f:It→Bool)(h1:f t27a=true)(h2:f t27b=false)(h3:f t27c=true):itmF s27 f=[3,1]:=
 iJ f [k27c,k27a] (by simp[Sk,ahd,k27a,k27c]) fun x=>by
  simp only[M6,P7,or_false,h1,h2,h3,true_and,O5,false_and,false_or];exact⟨fun h=>h.elim .inr .inl,fun h=>h.elim .inr .inl⟩
theorem Cs(f:It→Bool)(h1:f t27a=true)(h2:f t27b=false)(h3:f t27c=false):itmF s27 f=[1]:=
 iJ f [k27a] (by simp[Sk]) fun x=>by
  simp only[M6,P7,or_false,h1,h2,h3,true_and,O5,false_and];exact Iff.rfl
def q27(op:Int)(tx:Bs):Qy:=.mk op 0 tx []
theorem yw:itmF s27 (fun t=>(q27 1 []).bel s27 t)=[2,3,1]:=yv _ (by kernel_rfl) (by kernel_rfl) (by kernel_rfl)
theorem yx:itmF s27 (fun t=>(q27 11 [116,101,97]).bel s27 t)=[1]:=Cs _ (by kernel_rfl) (by kernel_rfl) (by kernel_rfl)
theorem yy:itmF s27 (fun t=>(q27 9 []).bel s27 t)=[2,1]:=Ai _ (by kernel_rfl) (by kernel_rfl) (by kernel_rfl)
theorem yz:(q27 1 []).ok=true:=by kernel_rfl
theorem yA:(q27 11 [116,101,97]).ok=true:=by kernel_rfl
theorem l7:(q27 9 []).ok=true:=by kernel_rfl
theorem yB:(q27 0 []).ok=false:=by kernel_rfl
theorem iK(op:Int)(tx:Bs)(h:tx.length≤300):(q27 op tx).Fit:=⟨by unfold q27;rw[Qy.mx,Qy.mxL,O7];omega,fun _=>by unfold q27;rw[Qy.sz,Qy.szL];omega⟩
theorem Cv:s27.eval (q27 9 []) 2=true:=by unfold PS.eval;rw[sm,l7];kernel_rfl
theorem Cw:s27.eval (q27 9 []) 3=false:=by unfold PS.eval;rw[sn,l7];kernel_rfl
end
section
attribute [local irreducible] WP WPl WPix Sat
variable (G:Nat→Option (List AVal))
theorem fg(s:PS)(id:Int){H:Heap}{n:Nat}(hn:n+9≤H.length):Sat (CT G) 49 [.hp (n+8) 0 0 0,.int .i64 id] (so H n s) (fun r h'=>r=.tup [((lkM s.se id).getD Se.z).av,.bool (lkM s.se id).isSome]∧h'=so H n s):=by
 refine sb [.cell 4 97,.tmp 5] Tryz.func49 ?_;intro Q hQ;refine wk trivial ?_;refine ye hQ trivial ?_;exact au hn (.tup _ fun x hx=>by
  simp only[M6,P7,or_false]at hx;rcases hx with rfl|rfl
  ·exact .agg _ fun y hy=>by
    simp only[M6,P7,or_false]at hy;rcases hy with rfl|rfl|rfl<;>constructor
  ·exact .bool _) ⟨rfl,rfl⟩
section
variable {s:PS} {Y:Heap} {n a:Nat}
theorem uE(hn:n+9≤a)(hm:a+2≤Y.length)(l:List Int)(hl:l.length≤1048576)(t:It)(x:ML Int (List Int)×Nat)(hx:Gd s x)(j:Heap):
  Sat (CT G) 51 ([]++[t.av]++[.hp Y.length 0 0 0]) (sa (Y++(.row 38 1 0 [.sl 1 (l.map iA)]::j)) n s a x) (fun r h'=>r=.bool (l.any fun b=>decide (t.id=b))∧∃y,Gd s y∧h'=sa (Y++(.row 38 1 0 [.sl 1 (l.map iA)]::j)) n s a y):=by
 have hm1:∀j:Heap,a+2≤(Y++j).length:=fun j=>by simp;omega
 have F:=F4 hm hn hm1 @aw;refine sb [.tmp 3] Tryz.func51 ?_;intro Q hQ;refine wk F ?_;refine kq F (lO G l t.id hl _) ?_;refine ee hQ F ?_;have:=bE (x:=x) (s:=s) (j:=[.row 49 9 0 [t.av]]) (R:=fun r h'=>r=.bool (l.any fun b=>decide (t.id=b))∧∃y,Gd s y∧h'=sa (Y++(.row 38 1 0 [.sl 1 (l.map iA)]::j)) n s a y) (r:=.bool (l.any fun b=>decide (t.id=b))) hn (hm1 (.row 38 1 0 [.sl 1 (l.map iA)]::j)) (fun N=>.bool _) (y:=x) ⟨rfl,x,hx,rfl⟩
 rwa [O1]at this
theorem x7(hI:s.Inv)(hn:n+9≤a)(hm:a+2≤Y.length)(l:List Int)(hl:l.length≤1048576)(x:ML Int (List Int)×Nat)(hx:Gd s x):
  Sat (CT G) 28 [.hp (n+8) 0 0 0,.sl 1 (l.map iA)] (sa Y n s a x) (fun r h'=>r=.sl 1 ((itmF s fun t=>l.any fun b=>decide (t.id=b)).map iA)∧∃y,Gd s y∧h'=sa Y n s a y):=by
 have hm1:∀j:Heap,a+2≤(Y++j).length:=fun j=>by simp;omega
 have hP:=gE G (s:=s) (Y:=Y++[.row 38 1 0 [.sl 1 (l.map iA)]]) hI hn (hm1 _) (fun t=>l.any fun b=>decide (t.id=b)) 51 [.hp Y.length 0 0 0] (fun t _ x hx j=>by
  have e:Y++[Blk.row 38 1 0 [.sl 1 (l.map iA)]]++j=Y++(Blk.row 38 1 0 [.sl 1 (l.map iA)]::j):=by rw[O1];rfl
  rw[e];exact uE G hn hm l hl t x hx j) x hx
 generalize (itmF s fun t=>l.any fun b=>decide (t.id=b))=L at*;have F:=F3 hm hn hm1;refine sb [.tmp 4] Tryz.func28 ?_;intro Q hQ;refine wk F ?_;refine hP.mono ?_;rintro r h' ⟨rfl,y,hy,rfl⟩;try refine sq F ?_
 refine wk F ?_;refine ee hQ F ?_;exact bE hn hm (fun N=>.sl _ _ fun r hr=>by obtain⟨x,_,rfl⟩:=M9.1 hr;exact .int _ _) ⟨rfl,y,hy,rfl⟩
end
theorem oQ(s:PS)(hI:s.Inv)(hT:s.Tt)(q:Qy)(hq:q.Fit)(hok:q.ok=true){X:Heap}{n:Nat}(hn:n+9≤X.length):Sat (CT G) 12 [.hp (n+8) 0 0 0,q.av] (so X n s) (fun r h'=>r=.tup [.sl 1 ((itmF s fun t=>q.bel s t).map iA),.int .i64 0]∧∃(b:Blk) (y:ML Int (List Int)×Nat) (k:Heap),Gd s y∧h'=so (X++(b::am y.1 y.2::ar n (X.length+1)::k)) n s):=by
 have hC:=fun h=>ew G q h hq.1 hq.2
 have hn1:∀j:Heap,n+9≤(X++j).length:=fun j=>by simp;omega
 have hok':=hok;unfold Qy.ok at hok';simp only[L6,M1]at hok';obtain⟨rQ,hrQ⟩:∃rQ:Blk,rQ=.row 25 4 0 [q.av]:=⟨_,rfl⟩;have hlX:(X++[rQ]).length=X.length+1:=by simp
 have hO:=nI G s (X:=X++[rQ]) (n:=n) (by omega);have hP:=gE G (s:=s) (Y:=yi X n q []) (n:=n) (a:=X.length+1) hI (by omega) (by rw[kr];omega) (fun t=>q.bel s t) 36 [.hp (X.length+3) 0 0 0,.hp X.length 0 0 0] (fun t ht x hx j=>by
  obtain⟨id,hid⟩:∃id,lkM s.it id=some t:=nF hI ((jr hI).mem_iff.1 ht);have htg:=(hI.tags id).2;rw[hid,Q3]at htg;have:=ku G s hI q (hq.2 hok'.1) hok'.2.2 hn t (hT id t hid) (by omega) x hx j;rw[nJ];exact this) ([],0) ⟨.nil,fun _ _ h=>by cases h⟩
 simp only[sk]at hP;unfold wi at hP;rw[hlX]at hO;have e:sa (X++[rQ]++[am [] 0,ar n (X.length+1)]) n s (X.length+1) ([],0)=so (X++[rQ,am [] 0,ar n (X.length+1)]) n s:=by
  have:=iI (X:=X++[rQ]) (n:=n) (s:=s) ([],0) (am [] 0) (ar n (X.length+1)) [];rw[hlX]at this;rw[this,O1];rfl
 rw[e]at hO;subst hrQ;rw[hok]at hC;clear hok' e hlX hq hok;generalize (itmF s fun t=>q.bel s t)=L at*;obtain⟨qo,qn,qs,qk⟩:=q;rw[Qy.av_eq]at*;have F:=F2 hn hn1;refine sb [.tmp 4,.tmp 5] Tryz.func12 ?_;intro Q hQ;refine wk F ?_;refine(hC _).mono ?_;rintro r h' ⟨rfl,rfl⟩;try refine sq F ?_
 refine wk F ?_;refine hO.mono ?_;rintro r h' ⟨rfl,rfl⟩;have F:=F4 F hn hn1 @aw;try refine sq F ?_
 refine wk F ?_;refine hP.mono ?_;rintro r h' ⟨rfl,y,hy,rfl⟩;try refine sq F ?_
 refine wk F ?_;refine ee hQ F ?_;exact Z2 (by rw[aQ hn,aQ (hn1 _)];simp) (.tup _ fun y hy=>by
  simp only[M6,P7,or_false]at hy;rcases hy with rfl|rfl
  ·exact .sl _ _ fun r hr=>by obtain⟨x,_,rfl⟩:=M9.1 hr;exact .int _ _
  ·exact .int _ _) ⟨rfl,_,y,_,hy,rfl⟩
theorem pI(N:Nat)(e:Int):Clo N (.tup [.nil (.slice none 0 0),.int .i64 e]):=.tup _ fun y hy=>by
 simp only[M6,P7,or_false]at hy;rcases hy with rfl|rfl<;>constructor
theorem Ak{p q q':AVal}(hq:Wk q q'):∀(i:Nat) (x y:AVal),[p,q][i]? =some x→[p,q'][i]? =some y→Wk x y:=fun i x y hx hy=>by
 match i with
 |0=>simp at hx hy;subst hx;subst hy;exact Wk.refl _
 |1=>simp at hx hy;subst hx;subst hy;exact hq
 |i+2=>simp at hx
theorem JE{p q q' r:AVal}(hq:Wk q q'):∀(i:Nat) (x y:AVal),[p,q,r][i]? =some x→[p,q',r][i]? =some y→Wk x y:=fun i x y hx hy=>by
 match i with
 |0=>simp at hx hy;subst hx;subst hy;exact Wk.refl _
 |1=>simp at hx hy;subst hx;subst hy;exact hq
 |2=>simp at hx hy;subst hx;subst hy;exact Wk.refl _
 |i+3=>simp at hx
section
variable {X:Heap} {n:Nat} (hn:n+9≤X.length)
include hn
theorem pJ(op:Int)(tx:Bs)(hl:tx.length≤300){L:List Int}(hok:(q27 op tx).ok=true)(hL:itmF s27 (fun t=>(q27 op tx).bel s27 t)=L):Sat (CT G) 12 [.hp (n+8) 0 0 0,.agg [.int .i64 op,.int .i64 0,.str tx,.nil (.slice none 0 0)]] (so X n s27) (fun r h'=>r=.tup [.sl 1 (L.map iA),.int .i64 0]∧h'=so X n s27):=by
 have:=gF G s27 dD kw (q27 op tx) (iK op tx hl) hn;rw[hok,hL]at this;exact Sat.wk (ys:=[.hp (n+8) 0 0 0,(Qy.mk op 0 tx []).av]) rfl (Ak (kc op 0 tx)) this
theorem x8:Sat (CT G) 12 [.hp (n+8) 0 0 0,.agg [.int .i64 1,.int .i64 0,.str [],.nil (.slice none 0 0)]] (so X n s27) (fun r h'=>r=.tup [.sl 1 ([2,3,1].map iA),.int .i64 0]∧∃(b:Blk) (y:ML Int (List Int)×Nat) (k:Heap),Gd s27 y∧h'=so (X++(b::am y.1 y.2::ar n (X.length+1)::k)) n s27):=by
 have:=oQ G s27 dD kw (q27 1 []) (iK 1 [] (by simp)) yz hn;rw[yw]at this;exact Sat.wk (ys:=[.hp (n+8) 0 0 0,(Qy.mk 1 0 [] []).av]) rfl (Ak (kc 1 0 [])) this
theorem x9:Sat (CT G) 12 [.hp (n+8) 0 0 0,.agg [.int .i64 0,.int .i64 0,.str [],.nil (.slice none 0 0)]] (so X n s27) (fun r h'=>r=.tup [.nil (.slice none 0 0),.int .i64 250]∧h'=so X n s27):=by
 have:=gF G s27 dD kw (q27 0 []) (iK 0 [] (by simp)) hn;rw[yB]at this;exact Sat.wk (ys:=[.hp (n+8) 0 0 0,(Qy.mk 0 0 [] []).av]) rfl (Ak (kc 0 0 [])) this
theorem pK(id:Int){b:Bool}(hb:s27.eval (q27 9 []) id=b):Sat (CT G) 14 [.hp (n+8) 0 0 0,.agg [.int .i64 9,.int .i64 0,.str [],.nil (.slice none 0 0)],.int .i64 id] (so X n s27) (fun r h'=>r=.bool b∧h'=so X n s27):=by
 have:=lR G s27 dD kw (q27 9 []) (iK 9 [] (by simp)) id hn;rw[hb]at this;exact Sat.wk (ys:=[.hp (n+8) 0 0 0,(Qy.mk 9 0 [] []).av,.int .i64 id]) rfl (JE (kc 9 0 [])) this
theorem su:Sat (CT G) 27 [.hp (n+8) 0 0 0,.int .i64 3] (so X n s27) (fun r h'=>r=.tup [.nil (.slice none 0 0),.int .i64 4]∧h'=so X n s27):=by
 have hS:=fg G s27 3 hn;simp only[Ah,Option.isSome_none,Option.getD_none]at hS;have F:=hn;refine sb [.tmp 4,.tmp 5] Tryz.func27 ?_;intro Q hQ;refine wk F ?_;refine kq F (hS) ?_;refine ee hQ F ?_;exact au hn (pI _ _) ⟨rfl,rfl⟩
theorem sv(hG:GOk G)(hc:GClo (CT G)):Sat (CT G) 27 [.hp (n+8) 0 0 0,.int .i64 1] (so X n s27) (fun r h'=>r=.tup [.sl 1 ([2,1].map iA),.int .i64 0]∧h'=so X n s27):=by
 have hS:=fg G s27 1 hn;simp only[Ae,Option.isSome_some,Q3]at hS;have hi:=fun(j:Heap)=>pJ G (X:=X++j) (n:=n) (by simp;omega) 9 [] (by simp) l7 yy
 have hn1:∀j:Heap,n+9≤(X++j).length:=fun j=>by simp;omega
 have F:=F2 hn hn1;refine sb [.tmp 4,.tmp 5] Tryz.func27 ?_;intro Q hQ;refine wk F ?_;refine kq F (hS) ?_;refine kq F (rM G hG hc _) ?_;refine kq F (hi _) ?_;refine ee hQ F ?_;exact au hn (.tup _ fun y hy=>by
  simp only[M6,P7,or_false]at hy;rcases hy with rfl|rfl
  ·exact .sl _ _ fun r hr=>by
    simp only[M6,P7,or_false]at hr;rcases hr with rfl|rfl<;>exact .int _ _
  ·exact .int _ _) ⟨rfl,rfl⟩
theorem sw(hG:GOk G)(hc:GClo (CT G)):Sat (CT G) 27 [.hp (n+8) 0 0 0,.int .i64 2] (so X n s27) (fun r h'=>r=.tup [.nil (.slice none 0 0),.int .i64 250]∧h'=so X n s27):=by
 have hS:=fg G s27 2 hn;simp only[Af,Option.isSome_some,Q3]at hS;have hn1:∀j:Heap,n+9≤(X++j).length:=fun j=>by simp;omega
 have F:=F2 hn hn1;refine sb [.tmp 4,.tmp 5] Tryz.func27 ?_;intro Q hQ;refine wk F ?_;refine kq F (hS) ?_;refine kq F (rL G hG hc _) ?_;refine ee hQ F ?_;exact au hn (pI _ _) ⟨rfl,rfl⟩
end
theorem Al{h j:Heap}{n:Nat}{s:PS}(hm:n+9≤(h++j).length)(hh:h.length≤n):∃j',so (h++j) n s=h++j':=by
 refine⟨(so (h++j) n s).drop h.length,?_⟩;have hl:=aQ (s:=s) hm
 apply R8
 intro p;by_cases hp:p<h.length
 ·rw[M5 hp];unfold so;rw[mK (by show n+9≤_;omega) (.inl (by omega)),M5 hp]
 ·rw[N1 (by omega),P9];congr 1
  omega
theorem kz{h Y:Heap}{n:Nat}{s:PS}{R:AVal→Heap→Prop}{b:Bool}(hm:n+9≤Y.length)(hp:∃j,Y=h++j)(hh:h.length≤n)(hR:R (.bool b) h):Fin h (so Y n s) R (.bool b):=by
 obtain⟨j,rfl⟩:=hp;obtain⟨j',he⟩:=Al (s:=s) hm hh;rw[he];exact Fin.plainE (j:=j') rfl (.bool _) hR
theorem Am:(itmF s27 fun t=>[1,7,3,1].any fun b=>decide (t.id=b))=[3,1]:=Aj _ (by kernel_rfl) (by kernel_rfl) (by kernel_rfl)
theorem yC:ahd ⟨0,2,0⟩ ⟨0,3,0⟩=true:=by kernel_rfl
theorem dL(hG:GOk G)(hc:GClo (CT G))(h:Heap):Sat (CT G) 9 [] h (fun r h'=>r=.bool true∧h'=h):=by
 have hF:=lJ G l27 (by decide) h;rw[jt]at hF;have hz9:(PS.z.bl h.length).length=9:=rfl;obtain⟨H0,hH0⟩:∃H0,H0=h++PS.z.bl h.length:=⟨_,rfl⟩;rw[← hH0]at hF;have hl0:H0.length=h.length+9:=by rw[hH0];simp[hz9]
 have hn0:∀j:Heap,h.length+9≤(H0++j).length:=fun j=>by simp;omega
 have hIt0:=x8 G (X:=H0) (n:=h.length) (by omega);have F:=hn0;refine sb [.tmp 0] Tryz.func9 ?_;intro Q hQ;refine wk F ?_;refine kq F (hF) ?_;refine hIt0.mono ?_;rintro r h' ⟨rfl,b,y,k,hy,rfl⟩;obtain⟨H1,hH1⟩:∃H1,H1=H0++(b::am y.1 y.2::ar h.length (H0.length+1)::k):=⟨_,rfl⟩;rw[← hH1];have hn1:h.length+9≤H1.length:=by rw[hH1];simp;omega
 have hlb:(H0++[b]).length=H0.length+1:=by simp
 have e1:∀z,sa H1 h.length s27 (H0.length+1) z=so (H0++(b::am z.1 z.2::ar h.length (H0.length+1)::k)) h.length s27:=fun z=>by
  have:=iI (X:=H0++[b]) (n:=h.length) (s:=s27) z (am y.1 y.2) (ar h.length (H0.length+1)) k;rw[hlb,O1,O1]at this;rw[hH1];exact this
 have hSo:=x7 G (s:=s27) (Y:=H1) (n:=h.length) (a:=H0.length+1) dD (by omega) (by rw[hH1];simp;omega) [1,7,3,1] (by simp) y hy;rw[Am]at hSo;simp only[e1]at hSo;rw[← hH1]at hSo;have hsm:∀(l:List Int) (h:Heap),l.length≤1000→Sat (CT G) 16 [.sl 1 (l.map iA),.sl 1 (l.map iA)] h (fun r h'=>r=.bool true∧h'=h):=fun l h hl=>by
  have:=lQ G l l (by omega) (by omega) h
  rwa [P1 (rfl:l=l)]at this
 have hah:=fun h=>qq G 0 2 0 3 h
 rw[yC]at hah;have df:∀i:Decidable False, @decide False i=false:=fun i=>by simp
 have dt:∀i:Decidable True, @decide True i=true:=fun i=>by simp
 have F:=F4 F hn1 df dt;try refine sq F ?_
 refine wk F ?_;refine kq F (pJ G hn1 11 [116,101,97] (by simp) yA yx) ?_;refine kq F (sv G hn1 hG hc) ?_;refine kq F (sw G hn1 hG hc) ?_;refine kq F (su G hn1) ?_;refine kq F (x9 G hn1) ?_;refine hSo.mono ?_;rintro r h' ⟨rfl,z,hz,rfl⟩;obtain⟨H2,hH2⟩:∃H2,H2=H0++(b::am z.1 z.2::ar h.length (H0.length+1)::k):=⟨_,rfl⟩;rw[← hH2];have hn2:h.length+9≤H2.length:=by rw[hH2];simp;omega
 have F:=F2 F hn2;try refine sq F ?_
 refine wk F ?_;refine kq F (hsm [2,3,1] _ (by simp)) ?_;refine kq F (hsm [1] _ (by simp)) ?_;refine kq F (hsm [2,1] _ (by simp)) ?_;refine kq F (hsm [3,1] _ (by simp)) ?_;refine kq F (pK G hn2 2 Cv) ?_;refine kq F (pK G hn2 3 Cw) ?_;refine kq F (hah _) ?_;refine ee hQ F ?_;exact kz hn2 ⟨PS.z.bl h.length++(b::am z.1 z.2::ar h.length (H0.length+1)::k),by rw[hH2,hH0,O1]⟩ (M4 _) ⟨rfl,rfl⟩
end
section
namespace Qy
end Qy
end
section
attribute [local irreducible] WP WPl WPix Sat
theorem An{H j:Heap}{n p:Nat}{s:PS}(hn:n+9≤(H++j).length)(hp:p<n)(hl:n≤H.length)(u:Nat):getRow (so (H++j) n s) p u=getRow H p u:=by
 unfold so;rw[ir u (by show n+9≤_;omega) (.inl hp),bo u (by omega)]
variable (G:Nat→Option (List AVal))
end
section
attribute [local irreducible] WP WPl WPix Sat
theorem yD{s:PS}(hI:s.Inv)(f:It→Bool):(itmF s f).length=s.tell.it.countP f:=by
 unfold itmF itmK;rw[L8];have hp:(srtK ((s.tell.it.filter f).map It.ky)).Perm ((s.tell.it.filter f).map It.ky):=by
  refine(za4 (jd (ff hI f)).nd ?_).2 fun x=>je (ff hI f) x
  have:=ff hI f;rw[List.nodup_iff_pairwise_ne,zb0]at this;exact List.nodup_iff_pairwise_ne.2 (this.imp fun h e=>h (by rw[e]))
 rw[hp.length_eq,L8, ← List.countP_eq_length_filter]
variable (G:Nat→Option (List AVal))
end
section
attribute [local irreducible] WP WPl WPix Sat
theorem yE{s:PS}(hI:s.Inv)(num:Int):(undF s num).length≤1048576:=by
 unfold undF;split
 ·rw[L8];refine Q7 (Y8 _ _) ?_;have:=aK (z:=Fe.z) s.fe;have:=hI.l2;show(valsM Fe.z s.fe).length≤_;omega
 ·simp
variable (G:Nat→Option (List AVal))
theorem uF(s:PS)(hI:s.Inv)(op num:Int)(tx:Bs)(ks:List Qy)(t:It)(htl:t.title.length≤20000)(htx:tx.length≤20000)(htg:t.tags.length≤1048576)(h:Heap):
  Sat (CT G) 39 [s.tell.av,(Qy.mk op num tx ks).av,t.av] h (fun r h'=>r=.bool (leafF s t op num tx)∧h'=h):=by
 rw[Qy.av_eq];by_cases k7:op=7
 ·subst k7;have hU:=fun h=>sx G s.tell hI.up num h
  rw[Ao hI]at hU;have hul:=yE hI num;have hb:leafF s t 7 num tx=(undF s num).any fun a=>decide (t.feed=a):=rfl
  rw[hb];generalize undF s num=u at*;generalize s.tell=x at*;have ml:(u.map iA).length=u.length:=L8 ..;have F:=ml;refine sb [.tmp 6] Tryz.func39 ?_;intro Q hQ;refine wk F ?_;refine kq F (hU _) ?_;refine lm (fun nL tL hL=>∃(k:Nat),u.length-k=nL∧h++[.row 36 9 0 [x.av],.row 25 4 0 [.agg [.int .i64 7,.int .i64 num,.str tx,.sl 4 (ks.map Qy.av)]],.row 49 9 0 [t.av]]=hL∧tL 5=.hp (h.length+2) 0 0 0∧tL 7=.sl 1 (u.map iA)∧tL 8=.int .i64 k∧k≤u.length∧(∀a∈u.take k,decide (t.feed=a)=false)) ((fun(k:Nat)=>(u.length-k:Nat)) (0)) ?_ ?_
  ·refine M2 ⟨0,rfl,aB,?_,?_,?_,by omega,by simp⟩;all_goals try exact zZz F
  rintro _ s2 h' ⟨k,rfl,rfl,e5,e7,e8,hk,hp⟩ K2 hK2;simp only[af,ao,Nat.reduceEqDiff, ↓reduceIte]at e5 e7 e8;have F:=F4 F e5 e7 e8;by_cases c1:k<u.length
  ·obtain⟨y,hy,_⟩:=ac c1;have d1:=P1 c1;by_cases c3:y=t.feed
   ·have e:=any_at (p:=fun a=>decide (t.feed=a)) hy (by simp[c3]);have d3:(y==t.feed)=true:=(by simp[c3]);have F:=F4 F d1 hy d3;(try refine sq F ?_);refine wk F ?_;refine ee hQ F ?_;exact L7 (.bool _) ⟨by rw[e],rfl⟩
   ·have d3:(y==t.feed)=false:=(by simp[c3]);have hp1:=dH (p:=fun a=>decide (t.feed=a)) hy (by simp[Ne.symm c3]) hp;have F:=F4 F d1 hy d3;(try refine sq F ?_);refine wk F ?_;refine hK2 _ _ _ (M2 ⟨k+1,rfl,aB,?_,?_,?_,by omega,hp1⟩) (by omega);all_goals try exact zZz F
  ·have e:=any_no (p:=fun a=>decide (t.feed=a)) (l:=u) fun a ha=>hp a (by rwa [N0 (by omega)])
   have d1:=O4 c1;have F:=F2 F d1;(try refine sq F ?_);refine wk F ?_;refine ee hQ F ?_;exact L7 (.bool _) ⟨by rw[e],rfl⟩
 by_cases k8:op=8
 ·subst k8;have hb:leafF s t 8 num tx=t.tags.any fun a=>decide (tx=a):=rfl
  rw[hb];generalize s.tell=x at*;have ml:(t.tags.map AVal.str).length=t.tags.length:=L8 ..;have F:=ml;refine sb [.tmp 6] Tryz.func39 ?_;intro Q hQ;refine wk F ?_;refine lm (fun nL tL hL=>∃(k:Nat),t.tags.length-k=nL∧h++[.row 36 9 0 [x.av],.row 25 4 0 [.agg [.int .i64 8,.int .i64 num,.str tx,.sl 4 (ks.map Qy.av)]],.row 49 9 0 [t.av]]=hL∧tL 4=.hp (h.length+1) 0 0 0∧tL 5=.hp (h.length+2) 0 0 0∧tL 9=.int .i64 k∧k≤t.tags.length∧(∀a∈t.tags.take k,decide (tx=a)=false)) ((fun(k:Nat)=>(t.tags.length-k:Nat)) (0)) ?_ ?_
  ·refine M2 ⟨0,rfl,aB,?_,?_,?_,by omega,by simp⟩;all_goals try exact zZz F
  rintro _ s2 h' ⟨k,rfl,rfl,e4,e5,e9,hk,hp⟩ K2 hK2;simp only[af,ao,Nat.reduceEqDiff, ↓reduceIte]at e4 e5 e9;have F:=F4 F e4 e5 e9;by_cases c1:k<t.tags.length
  ·obtain⟨y,hy,_⟩:=ac c1;have d1:=P1 c1;by_cases c3:y=tx
   ·have e:=any_at (p:=fun a=>decide (tx=a)) hy (by simp[c3]);have d3:(y==tx)=true:=(by simp[c3]);have F:=F4 F d1 hy d3;(try refine sq F ?_);refine wk F ?_;refine ee hQ F ?_;exact L7 (.bool _) ⟨by rw[e],rfl⟩
   ·have d3:(y==tx)=false:=(by simp[c3]);have hp1:=dH (p:=fun a=>decide (tx=a)) hy (by simp[Ne.symm c3]) hp;have F:=F4 F d1 hy d3;(try refine sq F ?_);refine wk F ?_;refine hK2 _ _ _ (M2 ⟨k+1,rfl,aB,?_,?_,?_,by omega,hp1⟩) (by omega);all_goals try exact zZz F
  ·have e:=any_no (p:=fun a=>decide (tx=a)) (l:=t.tags) fun a ha=>hp a (by rwa [N0 (by omega)])
   have d1:=O4 c1;have F:=F2 F d1;(try refine sq F ?_);refine wk F ?_;refine ee hQ F ?_;exact L7 (.bool _) ⟨by rw[e],rfl⟩
 by_cases k11:op=11
 ·subst k11;have hcn:=xa G t.title tx htl htx;have hb:leafF s t 11 num tx=hasF t.title tx:=rfl;rw[hb];generalize hasF t.title tx=b at*;refine sb [.tmp 6] Tryz.func39 ?_;intro Q hQ;refine wk trivial ?_;refine kq trivial (hcn _) ?_;refine ee hQ trivial ?_;exact L7 (.bool _) ⟨rfl,rfl⟩
 by_cases k12:op=12
 ·subst k12;have hcn:=oR G t.title tx htl htx;have hb:leafF s t 12 num tx=bgnF t.title tx:=rfl;rw[hb];generalize bgnF t.title tx=b at*;refine sb [.tmp 6] Tryz.func39 ?_;intro Q hQ;refine wk trivial ?_;refine kq trivial (hcn _) ?_;refine ee hQ trivial ?_;exact L7 (.bool _) ⟨rfl,rfl⟩
 by_cases k15:op=15
 ·subst k15;have hb:leafF s t 15 num tx=decide (t.date>IntKind.i64.wrap (s.tell.clock-IntKind.i64.wrap (num*86400))):=rfl;rw[hb];generalize s.tell=x at*;refine sb [.tmp 6] Tryz.func39 ?_;intro Q hQ;refine wk trivial ?_;refine ee hQ trivial ?_;exact L7 (.bool _) ⟨rfl,rfl⟩
 by_cases ho:op=1∨op=6∨op=9∨op=10∨op=13∨op=14
 ·have e:∀b,b=leafF s t op num tx→leafF s t op num tx=b:=fun b h=>h.symm
  rcases ho with rfl|rfl|rfl|rfl|rfl|rfl;all_goals (
   refine sb [.tmp 6] Tryz.func39 ?_;intro Q hQ;refine wk trivial ?_;refine ee hQ trivial ?_;exact L7 (.bool _) ⟨by first|rfl| (congr 1;rw[P5];simp[leafF]),rfl⟩)
 ·have n1:(op==1)=false:=by simp;omega
  have n6:(op==6)=false:=by simp;omega
  have n7:(op==7)=false:=by simp;omega
  have n8:(op==8)=false:=by simp;omega
  have n9:(op==9)=false:=by simp;omega
  have n10:(op==10)=false:=by simp;omega
  have n11:(op==11)=false:=by simp;omega
  have n12:(op==12)=false:=by simp;omega
  have n13:(op==13)=false:=by simp;omega
  have n14:(op==14)=false:=by simp;omega
  have n15:(op==15)=false:=by simp;omega
  have hb:leafF s t op num tx=false:=by
   unfold leafF;rw[L5 (by omega),L5 (by omega),L5 (by omega),L5 (by omega),L5 (by omega),L5 (by omega),L5 (by omega),L5 (by omega),L5 (by omega),L5 (by omega),L5 (by omega)]
  rw[hb];have F:=F2 (F9 n1 n6 n7 n8 n9 n10 n11 n12 n13) (F2 n14 n15);refine sb [.tmp 6] Tryz.func39 ?_;intro Q hQ;refine wk F ?_;refine ee hQ F ?_;exact L7 (.bool _) ⟨rfl,rfl⟩
end
section
attribute [local irreducible] WP WPl WPix Sat
theorem uG{α:Type}(p:α→Bool){l:List α}{k:Nat}{y:α}(h:l[k]? =some y):(l.take (k+1)).any p=((l.take k).any p||p y):=by
 rw[P3,h,List.any_append];simp
variable (G:Nat→Option (List AVal))
theorem sy(x:St)(t:It)(p:Qy→Bool)(lb:Bool)(op num:Int)(tx:Bs)(ks:List Qy)(hkl:ks.length≤20000)
  (hL:∀h,Sat (CT G) 39 [x.av,.agg [.int .i64 op,.int .i64 num,.str tx,.sl 4 (ks.map Qy.av)],t.av] h (fun r h'=>r=.bool lb∧h'=h))
  (hkd:∀k∈ks,∀h,Sat (CT G) 18 [x.av,k.av,t.av] h (fun r h'=>r=.bool (p k)∧h'=h))(h:Heap):
  Sat (CT G) 18 [x.av,.agg [.int .i64 op,.int .i64 num,.str tx,.sl 4 (ks.map Qy.av)],t.av] h (fun r h'=>r=.bool (if op=3 then !ks.any (fun k=> !p k)else if op=4 then ks.any p else if op=5 then !ks.any p else lb)∧h'=h):=by
 have ml:(ks.map Qy.av).length=ks.length:=L8 ..;have F:=ml;refine sb [.tmp 6] Tryz.func18 ?_;intro Q hQ;refine wk F ?_;refine lm (fun nL tL hL=>∃(i:Nat),ks.length-i=nL∧h++[.row 36 9 0 [x.av],.row 25 4 0 [.agg [.int .i64 op,.int .i64 num,.str tx,.sl 4 (ks.map Qy.av)]],.row 49 9 0 [t.av]]=hL∧tL 3=.hp h.length 0 0 0∧tL 4=.hp (h.length+1) 0 0 0∧tL 5=.hp (h.length+2) 0 0 0∧tL 7=.bool ((ks.take i).any p)∧tL 8=.bool (!(ks.take i).any fun k=> !p k)∧tL 9=.int .i64 i∧i≤ks.length) ((fun(i:Nat)=>(ks.length-i:Nat)) (0)) ?_ ?_
 ·refine M2 ⟨0,rfl,aB,?_,?_,?_,?_,?_,?_,by omega⟩;all_goals try exact zZz F
 rintro _ s2 h' ⟨i,rfl,rfl,e3,e4,e5,e7,e8,e9,hi⟩ K2 hK2;simp only[af,ao,Nat.reduceEqDiff, ↓reduceIte]at e3 e4 e5 e7 e8 e9;have F:=F7 F e3 e4 e5 e7 e8 e9;by_cases c1:i<ks.length
 ·obtain⟨y,hy,hym⟩:=ac c1;have hc:=hkd y hym;have a1:=uG p hy;have a2:=uG (fun k=> !p k) hy;have d1:=P1 c1;generalize p y=b at*;obtain⟨yo,yn,ys,yl⟩:=y;simp only[Qy.av_eq]at hc;cases b with
  |true=>
   simp only[Bool.or_true,Bool.not_true,Z5]at a1 a2;have F:=F5 F hy d1 a1 a2;(try refine sq F ?_);refine wk F ?_;refine aE (hc _) ?_;(try refine sq F ?_);refine wk F ?_;refine hK2 _ _ _ (M2 ⟨i+1,rfl,aB,?_,?_,?_,?_,?_,?_,by omega⟩) (by omega);all_goals try exact zZz F
  |false=>
   simp only[Z5,Bool.not_false,Bool.or_true]at a1 a2;have a3:(!true)=false:=rfl;have F:=F6 F hy d1 a1 a2 a3;(try refine sq F ?_);refine wk F ?_;refine aE (hc _) ?_;(try refine sq F ?_);refine wk F ?_;refine hK2 _ _ _ (M2 ⟨i+1,rfl,aB,?_,?_,?_,?_,?_,?_,by omega⟩) (by omega);all_goals try exact zZz F
 ·rw[N0 (by omega)]at e7 e8;have d1:=O4 c1;generalize ks.any p=vo at*;generalize (ks.any fun k=> !p k)=va at*;clear hkd;by_cases o3:op=3
  ·subst o3;have F:=F8 ml e3 e4 e5 e7 e8 e9 d1;(try refine sq F ?_);refine wk F ?_;refine ee hQ F ?_;exact L7 (.bool _) ⟨rfl,rfl⟩
  by_cases o4:op=4
  ·subst o4;have F:=F8 ml e3 e4 e5 e7 e8 e9 d1;(try refine sq F ?_);refine wk F ?_;refine ee hQ F ?_;exact L7 (.bool _) ⟨rfl,rfl⟩
  by_cases o5:op=5
  ·subst o5;have F:=F8 ml e3 e4 e5 e7 e8 e9 d1;(try refine sq F ?_);refine wk F ?_;refine ee hQ F ?_;exact L7 (.bool _) ⟨rfl,rfl⟩
  have n3:(op==3)=false:=by simp[o3]
  have n4:(op==4)=false:=by simp[o4]
  have n5:(op==5)=false:=by simp[o5]
  have F:=F2 (F9 ml e3 e4 e5 e7 e8 e9 d1 n3) (F2 n4 n5);try refine sq F ?_
  refine wk F ?_;refine kq F (hL _) ?_;refine ee hQ F ?_;exact L7 (.bool _) ⟨by rw[L5 o3,L5 o4,L5 o5],rfl⟩
theorem lU(s:PS)(hI:s.Inv)(t:It)(htl:t.title.length≤20000)(htg:t.tags.length≤1048576)(q:Qy)(hz:q.sz≤20000):∀h,Sat (CT G) 18 [s.tell.av,q.av,t.av] h (fun r h'=>r=.bool (q.bel s t)∧h'=h):=by
 revert hz;induction q using Qy.ind with
 |h op num tx ks ih=>
 intro hz h;have hkl:=Qy.szL_len ks;have hkm:∀k∈ks,k.sz≤Qy.szL ks:=fun k hk=>Qy.szL_mem hk
 rw[Qy.sz]at hz;have hL:=fun h=>uF G s hI op num tx ks t htl (by omega) htg h
 rw[Qy.av_eq]at hL ⊢;have:=sy G s.tell t (fun k=>k.bel s t) (leafF s t op num tx) op num tx ks (by omega) hL (fun k hk=>ih k hk (by have:=hkm k hk;omega)) h;rw[Qy.bel,Qy.belA_eq,Qy.belO_eq];exact this
end
section
attribute [local irreducible] WP WPl WPix Sat
variable (G:Nat→Option (List AVal))
theorem sA(s:PS)(hI:s.Inv)(hT:s.Tt)(q:Qy)(hz:q.sz≤20000)(h:Heap):Sat (CT G) 17 [s.tell.av,q.av] h (fun r h'=>r=.sl 1 ((itmF s fun t=>q.bel s t).map iA)∧h'=h):=by
 have hE:∀t∈s.tell.it,∀h,Sat (CT G) 18 [s.tell.av,q.av,t.av] h (fun r h'=>r=.bool (q.bel s t)∧h'=h):=fun t ht h=>by
  obtain⟨k,hk⟩:=aP ht;exact lU G s hI t (by have:=hT k t hk;omega) (by have:=(hI.tg k t hk).2;omega) q hz h
 have hxl:=hI.up.l3;have hO:=fun h=>si G (s.tell.it.filter fun t=>q.bel s t) ((nG hI).sublist (List.filter_sublist.map _)) (Q7 (Y8 _ _) (by omega)) h
 have hR:(srtK ((s.tell.it.filter fun t=>q.bel s t).map It.ky)).map (·.i)=itmF s fun t=>q.bel s t:=rfl
 rw[hR]at hO;generalize (itmF s fun t=>q.bel s t)=R at*;obtain⟨p,hp⟩:∃p:It→Bool,p=fun t=>q.bel s t:=⟨_,rfl⟩
 have hE2:∀t∈s.tell.it,∀h,Sat (CT G) 18 [s.tell.av,q.av,t.av] h (fun r h'=>r=.bool (p t)∧h'=h):=by rw[hp];exact hE
 rw[← hp]at hO;clear hp hE hR hT hI;generalize s.tell=x at*;obtain⟨qo,qn,qs,qk⟩:=q;simp only[Qy.av_eq]at hE2 ⊢;have ml:(x.it.map It.av).length=x.it.length:=L8 ..;have F:=ml;refine sb [.tmp 4] Tryz.func17 ?_;intro Q hQ;refine wk F ?_;refine lm (fun nL tL hL=>∃(i w:Nat) (out:List It),x.it.length-i=nL∧h++[.row 36 9 0 [x.av],.row 25 4 0 [.agg [.int .i64 qo,.int .i64 qn,.str qs,.sl 4 (qk.map Qy.av)]],.row 49 9 w (out.map It.av)]=hL∧tL 2=.hp h.length 0 0 0∧tL 3=.hp (h.length+1) 0 0 0∧tL 5=.hs (h.length+2) w 0 out.length true∧tL 6=.int .i64 i∧i≤x.it.length∧out.length≤i∧out=(x.it.take i).filter p) ((fun(i w:Nat) (out:List It)=>(x.it.length-i:Nat)) (0) (0) ([])) ?_ ?_
 ·refine⟨_,_,Y3 5 49 9 (by simp) (by omega) (by exact zq F),⟨0,0,[],rfl,aB,?_,?_,?_,?_,by omega,by simp,by simp⟩⟩;all_goals try exact zZz F
 rintro _ s2 h' ⟨i,w,out,rfl,rfl,e2,e3,e5,e6,hi,hol,hop⟩ K2 hK2;simp only[af,ao,Nat.reduceEqDiff, ↓reduceIte]at e2 e3 e5 e6;have F:=F5 F e2 e3 e5 e6;have hml:(out.map It.av).length=out.length:=L8 ..;have F:=F2 F hml;by_cases c1:i<x.it.length
 ·obtain⟨y,hy,hym⟩:=ac c1;have hc:=hE2 y hym;have hft:=lT p hy;have d1:=P1 c1;generalize p y=b at*;cases b with
  |true=>
   rw[M0 rfl]at hft;have F:=F4 F hy d1 @aw;(try refine sq F ?_);refine wk F ?_;refine aE (hc _) ?_;(try refine sq F ?_);refine wk F ?_;refine aq F ?_;(try refine sq F ?_);refine wk F ?_;refine hK2 _ _ _ (M2 ⟨i+1,w+1,out++[y],rfl,by simp[It.av,St.av],?_,?_,?_,?_,by omega,by simp;omega,by rw[hft, ← hop]⟩) (by omega);all_goals try exact zZz F
  |false=>
   rw[L5 (by simp),O8]at hft;have F:=F3 F hy d1;(try refine sq F ?_);refine wk F ?_;refine aE (hc _) ?_;(try refine sq F ?_);refine wk F ?_;refine hK2 _ _ _ (M2 ⟨i+1,w,out,rfl,aB,?_,?_,?_,?_,by omega,by omega,by rw[hft, ← hop]⟩) (by omega);all_goals try exact zZz F
 ·have d1:=O4 c1;rw[N0 (by omega)]at hop;rw[← hop]at hO;have F:=F2 F d1;try refine sq F ?_
  (repeat (first|refine w1 (fun K hK=>?_)|refine w2 ?_|refine w3 ?_| ((first|refine w4 ?_|refine wD ?_|refine w5 ?_|refine w6 ?_|refine w7 ?_);try refine sq F ?_)| (refine w8 ?_;refine sq F ?_;refine w9 ?_)| (refine rq F ?_;try refine sq F ?_)| (refine vq F ?_;try refine sq F ?_)))
  refine hK _ _ (M2 ?_);clear hK K;(repeat (first|refine w1 (fun K hK=>?_)|refine w2 ?_|refine w3 ?_| ((first|refine w4 ?_|refine wD ?_|refine w5 ?_|refine w6 ?_|refine w7 ?_);try refine sq F ?_)| (refine w8 ?_;refine sq F ?_;refine w9 ?_)| (refine rq F ?_;try refine sq F ?_)| (refine vq F ?_;try refine sq F ?_)))
  have hg:getRow (h++[.row 36 9 0 [x.av],.row 25 4 0 [.agg [.int .i64 qo,.int .i64 qn,.str qs,.sl 4 (qk.map Qy.av)]],.row 49 9 w (out.map It.av)]) (h.length+2) w=some (49,9,out.map It.av):=by rw[bd _ rfl];simp[getRow]
  have ht:∀(ms:List Nat) (t:Env) (H:Heap),getRow H (h.length+2) w=some (49,9,out.map It.av)→5∈ms→t 5=.hs (h.length+2) w 0 out.length true→∀i,upd t 5 (.sl 9 (out.map It.av)) i=t i∨(i∈ms∧Fz H (h.length+2) w (t i) (upd t 5 (.sl 9 (out.map It.av)) i)):=fun ms t H hg hm ht i=>by
   by_cases hi:i=5
   ·subst hi;right;refine⟨hm,?_⟩;rw[ht];simp only[upd, ↓reduceIte];exact Fz.all _ _ _ hg rfl (by simp)
   ·left;simp only[upd];rw[L5 hi]
  refine Dx (Weak.fz (h.length+2) w hg (ht _ _ _ hg (by decide+kernel) (by exact zq F))) ?_;clear hg ht;rw[gZ _ rfl];refine wk F ?_;refine kq F (hO _) ?_;refine ee hQ F ?_;exact L7 (x4 _ _) ⟨rfl,rfl⟩
end
section
attribute [local irreducible] WP WPl WPix Sat
theorem fZ{h H:Heap}{R:AVal→Heap→Prop}{r0 r:AVal}(f:FrN h.length h H)(g:h.length≤H.length)(hz:Frz H h.length r0 r)(hR:R r h):Fin h H R r0:=by
 obtain⟨j,hj⟩:=f.behind g;rw[hj]at hz ⊢;exact Fin.frz hz hR
variable (G:Nat→Option (List AVal))
theorem kA(x:St)(id:Int)(hl:x.fe.length≤100000){h:Heap}{p w:Nat}(hg:getRow h p w=some (93,4,x.fe.map Fe.av)):Sat (CT G) 62 [.agg [.int .i64 x.clock,.sl 3 (x.fo.map Fo.av),.hs p w 0 x.fe.length true,.sl 9 (x.it.map It.av),.sl 3 (x.se.map Se.av),.int .i64 x.t1,.int .i64 x.t2,.int .i64 x.t3,.int .i64 x.t4],.int .i64 id] h (fun r h'=>r=.int .i64 (posF (·.id) x.fe id)∧h'=h):=by
 have hel:(x.fe.map Fe.av).length=x.fe.length:=L8 ..;have hpl:=ba hg;have hgj:∀j,getRow (h++j) p w=some (93,4,x.fe.map Fe.av):=fun j=>by rw[bo _ hpl];exact hg
 have F:=F3 hel hg hgj;refine sb [.tmp 4] Tryz.func62 ?_;intro Q hQ;refine wk F ?_;refine lm (fun nL tL hL=>∃(k:Nat),x.fe.length-k=nL∧h++[.row 36 9 0 [.agg [.int .i64 x.clock,.sl 3 (x.fo.map Fo.av),.hs p w 0 x.fe.length true,.sl 9 (x.it.map It.av),.sl 3 (x.se.map Se.av),.int .i64 x.t1,.int .i64 x.t2,.int .i64 x.t3,.int .i64 x.t4]]]=hL∧tL 1=.int .i64 id∧tL 2=.hp h.length 0 0 0∧tL 5=.int .i64 k∧k≤x.fe.length∧(∀f∈x.fe.take k,f.id≠id)) ((fun(k:Nat)=>(x.fe.length-k:Nat)) (0)) ?_ ?_
 ·refine M2 ⟨0,rfl,aB,?_,?_,?_,by omega,by simp⟩;all_goals try exact zZz F
 rintro _ s2 h' ⟨k,rfl,rfl,e1,e2,e5,hk,hp⟩ K2 hK2;simp only[af,ao,Nat.reduceEqDiff, ↓reduceIte]at e1 e2 e5;have F:=F4 F e1 e2 e5;refine wk F ?_;refine cq F (fun c1=>?_) (fun c1=>?_)<;>(try exact c1.elim)<;>(refine wk F ?_)
 ·have c2:k<x.fe.length:=by omega
  obtain⟨f,hf,hfm⟩:=ac c2;have F:=F3 F c2 hf;try refine sq F ?_
  refine wk F ?_;refine cq F (fun c3=>?_) (fun c3=>?_)<;>(try exact c3.elim)<;>(refine wk F ?_)
  ·refine ee hQ F ?_;exact L7 (.int _ _) ⟨by rw[cY hf (by first|exact c3|exact c3.symm) hp],rfl⟩
  ·have hp1:∀g∈x.fe.take (k+1),g.id≠id:=by
    rw[P3,hf];intro g hg;simp at hg;rcases hg with hg|rfl
    ·exact hp g hg
    ·exact c3
   refine hK2 _ _ _ (M2 ⟨k+1,rfl,aB,?_,?_,?_,by omega,hp1⟩) (by omega);all_goals try exact zZz F
 ·rw[N0 (by omega)]at hp;refine ee hQ F ?_;exact L7 (.int _ _) ⟨by rw[cr hp],rfl⟩
theorem gH(x:St)(id:Int)(hl:x.it.length≤100000){h:Heap}{p w:Nat}(hg:getRow h p w=some (49,9,x.it.map It.av)):Sat (CT G) 15 [.agg [.int .i64 x.clock,.sl 3 (x.fo.map Fo.av),.sl 4 (x.fe.map Fe.av),.hs p w 0 x.it.length true,.sl 3 (x.se.map Se.av),.int .i64 x.t1,.int .i64 x.t2,.int .i64 x.t3,.int .i64 x.t4],.int .i64 id] h (fun r h'=>r=.int .i64 (posF (·.id) x.it id)∧h'=h):=by
 have hel:(x.it.map It.av).length=x.it.length:=L8 ..;have hpl:=ba hg;have hgj:∀j,getRow (h++j) p w=some (49,9,x.it.map It.av):=fun j=>by rw[bo _ hpl];exact hg
 have F:=F3 hel hg hgj;refine sb [.tmp 4] Tryz.func15 ?_;intro Q hQ;refine wk F ?_;refine lm (fun nL tL hL=>∃(k:Nat),x.it.length-k=nL∧h++[.row 36 9 0 [.agg [.int .i64 x.clock,.sl 3 (x.fo.map Fo.av),.sl 4 (x.fe.map Fe.av),.hs p w 0 x.it.length true,.sl 3 (x.se.map Se.av),.int .i64 x.t1,.int .i64 x.t2,.int .i64 x.t3,.int .i64 x.t4]]]=hL∧tL 1=.int .i64 id∧tL 2=.hp h.length 0 0 0∧tL 5=.int .i64 k∧k≤x.it.length∧(∀f∈x.it.take k,f.id≠id)) ((fun(k:Nat)=>(x.it.length-k:Nat)) (0)) ?_ ?_
 ·refine M2 ⟨0,rfl,aB,?_,?_,?_,by omega,by simp⟩;all_goals try exact zZz F
 rintro _ s2 h' ⟨k,rfl,rfl,e1,e2,e5,hk,hp⟩ K2 hK2;simp only[af,ao,Nat.reduceEqDiff, ↓reduceIte]at e1 e2 e5;have F:=F4 F e1 e2 e5;refine wk F ?_;refine cq F (fun c1=>?_) (fun c1=>?_)<;>(try exact c1.elim)<;>(refine wk F ?_)
 ·have c2:k<x.it.length:=by omega
  obtain⟨f,hf,hfm⟩:=ac c2;have F:=F3 F c2 hf;try refine sq F ?_
  refine wk F ?_;refine cq F (fun c3=>?_) (fun c3=>?_)<;>(try exact c3.elim)<;>(refine wk F ?_)
  ·refine ee hQ F ?_;exact L7 (.int _ _) ⟨by rw[cY hf (by first|exact c3|exact c3.symm) hp],rfl⟩
  ·have hp1:∀g∈x.it.take (k+1),g.id≠id:=by
    rw[P3,hf];intro g hg;simp at hg;rcases hg with hg|rfl
    ·exact hp g hg
    ·exact c3
   refine hK2 _ _ _ (M2 ⟨k+1,rfl,aB,?_,?_,?_,by omega,hp1⟩) (by omega);all_goals try exact zZz F
 ·rw[N0 (by omega)]at hp;refine ee hQ F ?_;exact L7 (.int _ _) ⟨by rw[cr hp],rfl⟩
theorem uH(x:St)(e:Ev)(k1:e.kind=5)(hF:∀h,Sat (CT G) 59 [x.av,e.av] h (fun r h'=>r=.bool true∧h'=h))(i:Nat)(f:Fe)(hf:x.fe[i]? =some f)(hp:posF (·.id) x.fe e.a=(i:Int))(hl:x.fe.length≤100000)(h:Heap):
  Sat (CT G) 32 [x.av,e.av] h (fun r h'=>r=.tup [({x with fe:=x.fe.set i {f with title:=e.t}}:St).av,.bool true]∧h'=h):=by
 have hel:(x.fe.map Fe.av).length=x.fe.length:=L8 ..;have hil:i<x.fe.length:=(f9.1 hf).1;simp only[zc1,k1]at hF;have F:=k1;refine sb [.cell 4 36,.tmp 5] Tryz.func32 ?_;intro Q hQ;refine wk F ?_;refine kq F (hF _) ?_;refine aL (n0:=h.length+3) (.ez _ _ _ _) (by simp) ?_;intro v1 h1 L1 f1 g1;rw[P4]at L1;rcases L1 with⟨hnil,_⟩| ⟨p,w,rfl,hg,hpp⟩
 ·rw[Z9]at hnil;rw[hnil]at hil;simp at hil
 rw[hel];obtain⟨r1,r2,r3⟩:=f1.r3;simp only[N3,M8,O7]at g1;have hpl:=ba hg;have hn1:h.length<h1.length:=by omega
 have hz:h.length+2<h1.length:=by omega
 have hne:h.length≠p:=by omega
 have hne2:h.length+2≠p:=by omega
 have hgs:∀b,getRow (h1.set h.length b) p w=some (93,4,x.fe.map Fe.av):=fun b=>by rw[bi _ _ hne];exact hg
 have hH:=fun b=>kA G x e.a hl (hgs b)
 simp only[hp]at hH;have F:=F8 F r1 r2 r3 hg hf hil @aw;try refine sq F ?_
 refine wk F ?_;refine kq F (hH _) ?_;refine ye hQ F ?_;have hrw:(x.fe.map Fe.av).set i (Fe.av {f with title:=e.t})=(x.fe.set i {f with title:=e.t}).map Fe.av:=by rw[zb5]
 simp only[Fe.av_eq]at hrw;rw[hrw];have fr0:FrN h.length h h1:=Z1 (X0 _ (M4 _) (W7 _ _)) (f1.less (by omega));refine fZ (Y0 _ (by omega) (Y0 _ (by omega) (Y0 _ (M4 _) fr0))) (by simp;omega) (FrzL.tup (.cons (bx (x:= {x with fe:=x.fe.set i {f with title:=e.t}}) (ax (zc3 _) _) ?_ (ax (zc2 _) _) (ax (zc4 _) _)) (.cons (.clo _ (.bool _)) .nil))) ⟨rfl,rfl⟩;refine za3 (q:=p) (v:=w) (e:=93) (by omega) ?_ (by simp) (c9 (zc5 _) _) (eJ Fe.sto _);rw[bi _ _ hne2,ca _ _ _ _ _ (by rw[Y7];exact hpl),M0 rfl]
theorem uI(x:St)(e:Ev)(k1:e.kind=6)(hF:∀h,Sat (CT G) 59 [x.av,e.av] h (fun r h'=>r=.bool true∧h'=h))(i:Nat)(f:Fe)(hf:x.fe[i]? =some f)(hp:posF (·.id) x.fe e.a=(i:Int))(hl:x.fe.length≤100000)(h:Heap):
  Sat (CT G) 32 [x.av,e.av] h (fun r h'=>r=.tup [({x with fe:=x.fe.set i {f with inn:=e.b}}:St).av,.bool true]∧h'=h):=by
 have hel:(x.fe.map Fe.av).length=x.fe.length:=L8 ..;have hil:i<x.fe.length:=(f9.1 hf).1;simp only[zc1,k1]at hF;have F:=k1;refine sb [.cell 4 36,.tmp 5] Tryz.func32 ?_;intro Q hQ;refine wk F ?_;refine kq F (hF _) ?_;refine aL (n0:=h.length+3) (.ez _ _ _ _) (by simp) ?_;intro v1 h1 L1 f1 g1;rw[P4]at L1;rcases L1 with⟨hnil,_⟩| ⟨p,w,rfl,hg,hpp⟩
 ·rw[Z9]at hnil;rw[hnil]at hil;simp at hil
 rw[hel];obtain⟨r1,r2,r3⟩:=f1.r3;simp only[N3,M8,O7]at g1;have hpl:=ba hg;have hn1:h.length<h1.length:=by omega
 have hz:h.length+2<h1.length:=by omega
 have hne:h.length≠p:=by omega
 have hne2:h.length+2≠p:=by omega
 have hgs:∀b,getRow (h1.set h.length b) p w=some (93,4,x.fe.map Fe.av):=fun b=>by rw[bi _ _ hne];exact hg
 have hH:=fun b=>kA G x e.a hl (hgs b)
 simp only[hp]at hH;have F:=F8 F r1 r2 r3 hg hf hil @aw;try refine sq F ?_
 refine wk F ?_;refine kq F (hH _) ?_;refine ye hQ F ?_;have hrw:(x.fe.map Fe.av).set i (Fe.av {f with inn:=e.b})=(x.fe.set i {f with inn:=e.b}).map Fe.av:=by rw[zb5]
 simp only[Fe.av_eq]at hrw;rw[hrw];have fr0:FrN h.length h h1:=Z1 (X0 _ (M4 _) (W7 _ _)) (f1.less (by omega));refine fZ (Y0 _ (by omega) (Y0 _ (by omega) (Y0 _ (M4 _) fr0))) (by simp;omega) (FrzL.tup (.cons (bx (x:= {x with fe:=x.fe.set i {f with inn:=e.b}}) (ax (zc3 _) _) ?_ (ax (zc2 _) _) (ax (zc4 _) _)) (.cons (.clo _ (.bool _)) .nil))) ⟨rfl,rfl⟩;refine za3 (q:=p) (v:=w) (e:=93) (by omega) ?_ (by simp) (c9 (zc5 _) _) (eJ Fe.sto _);rw[bi _ _ hne2,ca _ _ _ _ _ (by rw[Y7];exact hpl),M0 rfl]
theorem uJ(x:St)(e:Ev)(k1:e.kind=8)(hF:∀h,Sat (CT G) 59 [x.av,e.av] h (fun r h'=>r=.bool true∧h'=h))(i:Nat)(f:It)(hf:x.it[i]? =some f)(hp:posF (·.id) x.it e.a=(i:Int))(hl:x.it.length≤100000)(h:Heap):
  Sat (CT G) 32 [x.av,e.av] h (fun r h'=>r=.tup [({x with it:=x.it.set i {f with read:=e.n==1}}:St).av,.bool true]∧h'=h):=by
 have hel:(x.it.map It.av).length=x.it.length:=L8 ..;have hil:i<x.it.length:=(f9.1 hf).1;simp only[zc1,k1]at hF;have F:=k1;refine sb [.cell 4 36,.tmp 5] Tryz.func32 ?_;intro Q hQ;refine wk F ?_;refine kq F (hF _) ?_;refine aL (n0:=h.length+3) (.ez _ _ _ _) (by simp) ?_;intro v1 h1 L1 f1 g1;rw[P4]at L1;rcases L1 with⟨hnil,_⟩| ⟨p,w,rfl,hg,hpp⟩
 ·rw[Z9]at hnil;rw[hnil]at hil;simp at hil
 rw[hel];obtain⟨r1,r2,r3⟩:=f1.r3;simp only[N3,M8,O7]at g1;have hpl:=ba hg;have hn1:h.length<h1.length:=by omega
 have hz:h.length+2<h1.length:=by omega
 have hne:h.length≠p:=by omega
 have hne2:h.length+2≠p:=by omega
 have hgs:∀b,getRow (h1.set h.length b) p w=some (49,9,x.it.map It.av):=fun b=>by rw[bi _ _ hne];exact hg
 have hH:=fun b=>gH G x e.a hl (hgs b)
 simp only[hp]at hH;have F:=F8 F r1 r2 r3 hg hf hil @aw;try refine sq F ?_
 refine wk F ?_;refine kq F (hH _) ?_;refine ye hQ F ?_;have hrw:(x.it.map It.av).set i (It.av {f with read:=e.n==1})=(x.it.set i {f with read:=e.n==1}).map It.av:=by rw[zb5]
 simp only[It.av_eq]at hrw;rw[hrw];have fr0:FrN h.length h h1:=Z1 (X0 _ (M4 _) (W7 _ _)) (f1.less (by omega));refine fZ (Y0 _ (by omega) (Y0 _ (by omega) (Y0 _ (M4 _) fr0))) (by simp;omega) (FrzL.tup (.cons (bx (x:= {x with it:=x.it.set i {f with read:=e.n==1}}) (ax (zc3 _) _) (ax (zc5 _) _) ?_ (ax (zc4 _) _)) (.cons (.clo _ (.bool _)) .nil))) ⟨rfl,rfl⟩;refine za3 (q:=p) (v:=w) (e:=49) (by omega) ?_ (by simp) (c9 (zc2 _) _) (eJ It.sto _);rw[bi _ _ hne2,ca _ _ _ _ _ (by rw[Y7];exact hpl),M0 rfl]
theorem uK(x:St)(e:Ev)(k1:e.kind=9)(hF:∀h,Sat (CT G) 59 [x.av,e.av] h (fun r h'=>r=.bool true∧h'=h))(i:Nat)(f:It)(hf:x.it[i]? =some f)(hp:posF (·.id) x.it e.a=(i:Int))(hl:x.it.length≤100000)(h:Heap):
  Sat (CT G) 32 [x.av,e.av] h (fun r h'=>r=.tup [({x with it:=x.it.set i {f with star:=e.n==1}}:St).av,.bool true]∧h'=h):=by
 have hel:(x.it.map It.av).length=x.it.length:=L8 ..;have hil:i<x.it.length:=(f9.1 hf).1;simp only[zc1,k1]at hF;have F:=k1;refine sb [.cell 4 36,.tmp 5] Tryz.func32 ?_;intro Q hQ;refine wk F ?_;refine kq F (hF _) ?_;refine aL (n0:=h.length+3) (.ez _ _ _ _) (by simp) ?_;intro v1 h1 L1 f1 g1;rw[P4]at L1;rcases L1 with⟨hnil,_⟩| ⟨p,w,rfl,hg,hpp⟩
 ·rw[Z9]at hnil;rw[hnil]at hil;simp at hil
 rw[hel];obtain⟨r1,r2,r3⟩:=f1.r3;simp only[N3,M8,O7]at g1;have hpl:=ba hg;have hn1:h.length<h1.length:=by omega
 have hz:h.length+2<h1.length:=by omega
 have hne:h.length≠p:=by omega
 have hne2:h.length+2≠p:=by omega
 have hgs:∀b,getRow (h1.set h.length b) p w=some (49,9,x.it.map It.av):=fun b=>by rw[bi _ _ hne];exact hg
 have hH:=fun b=>gH G x e.a hl (hgs b)
 simp only[hp]at hH;have F:=F8 F r1 r2 r3 hg hf hil @aw;try refine sq F ?_
 refine wk F ?_;refine kq F (hH _) ?_;refine ye hQ F ?_;have hrw:(x.it.map It.av).set i (It.av {f with star:=e.n==1})=(x.it.set i {f with star:=e.n==1}).map It.av:=by rw[zb5]
 simp only[It.av_eq]at hrw;rw[hrw];have fr0:FrN h.length h h1:=Z1 (X0 _ (M4 _) (W7 _ _)) (f1.less (by omega));refine fZ (Y0 _ (by omega) (Y0 _ (by omega) (Y0 _ (M4 _) fr0))) (by simp;omega) (FrzL.tup (.cons (bx (x:= {x with it:=x.it.set i {f with star:=e.n==1}}) (ax (zc3 _) _) (ax (zc5 _) _) ?_ (ax (zc4 _) _)) (.cons (.clo _ (.bool _)) .nil))) ⟨rfl,rfl⟩;refine za3 (q:=p) (v:=w) (e:=49) (by omega) ?_ (by simp) (c9 (zc2 _) _) (eJ It.sto _);rw[bi _ _ hne2,ca _ _ _ _ _ (by rw[Y7];exact hpl),M0 rfl]
theorem sB(x:St)(e:Ev)(k1:e.kind=10)(hF:∀h,Sat (CT G) 59 [x.av,e.av] h (fun r h'=>r=.bool true∧h'=h))(i:Nat)(f:It)(hf:x.it[i]? =some f)(hp:posF (·.id) x.it e.a=(i:Int))(hl:x.it.length≤100000)(ht:f.tags.length≤100000)(h:Heap):
  Sat (CT G) 32 [x.av,e.av] h (fun r h'=>r=.tup [({x with it:=x.it.set i {f with tags:=tgR e.s f.tags (!(e.n==1))}}:St).av,.bool true]∧h'=h):=by
 have hel:(x.it.map It.av).length=x.it.length:=L8 ..;have hil:i<x.it.length:=(f9.1 hf).1;simp only[zc1,k1]at hF;have F:=k1;refine sb [.cell 4 36,.tmp 5] Tryz.func32 ?_;intro Q hQ;refine wk F ?_;refine kq F (hF _) ?_;refine aL (n0:=h.length+3) (.ez _ _ _ _) (by simp) ?_;intro v1 h1 L1 f1 g1;rw[P4]at L1;rcases L1 with⟨hnil,_⟩| ⟨p,w,rfl,hg,hpp⟩
 ·rw[Z9]at hnil;rw[hnil]at hil;simp at hil
 rw[hel];obtain⟨r1,r2,r3⟩:=f1.r3;simp only[N3,M8,O7]at g1;have hpl:=ba hg;have hn1:h.length<h1.length:=by omega
 have hz:h.length+2<h1.length:=by omega
 have hne:h.length≠p:=by omega
 have hne2:h.length+2≠p:=by omega
 have hgs:∀b,getRow (h1.set h.length b) p w=some (49,9,x.it.map It.av):=fun b=>by rw[bi _ _ hne];exact hg
 have hH:=fun b=>gH G x e.a hl (hgs b)
 simp only[hp]at hH;have F:=F8 F r1 r2 r3 hg hf hil @aw;try refine sq F ?_
 refine wk F ?_;refine kq F (hH _) ?_;have hw:=two (e.n==1);have hT:=uv G f.tags e.s (e.n==1) ht;refine aE (hT _) ?_;try refine sq F ?_
 refine wk F ?_;refine ye hQ F ?_;have hrw:(x.it.map It.av).set i (It.av {f with tags:=tgR e.s f.tags (!(e.n==1))})=(x.it.set i {f with tags:=tgR e.s f.tags (!(e.n==1))}).map It.av:=by rw[zb5]
 simp only[It.av_eq]at hrw;rw[hrw];have fr0:FrN h.length h h1:=Z1 (X0 _ (M4 _) (W7 _ _)) (f1.less (by omega));refine fZ (Y0 _ (by omega) (Y0 _ (by omega) (Y0 _ (M4 _) fr0))) (by simp;omega) (FrzL.tup (.cons (bx (x:= {x with it:=x.it.set i {f with tags:=tgR e.s f.tags (!(e.n==1))}}) (ax (zc3 _) _) (ax (zc5 _) _) ?_ (ax (zc4 _) _)) (.cons (.clo _ (.bool _)) .nil))) ⟨rfl,rfl⟩;refine za3 (q:=p) (v:=w) (e:=49) (by omega) ?_ (by simp) (c9 (zc2 _) _) (eJ It.sto _);rw[bi _ _ hne2,ca _ _ _ _ _ (by rw[Y7];exact hpl),M0 rfl]
end
section
attribute [local irreducible] WP WPl WPix Sat
section
variable {s:PS} {e:Ev}
theorem St.clo(N:Nat)(x:St):Clo N x.av:=.agg _ fun c hc=>by
 simp only[M6,P7,or_false]at hc;rcases hc with rfl|rfl|rfl|rfl|rfl|rfl|rfl|rfl|rfl
 ·exact .int _ _
 ·exact Clo.sl _ _ (c9 (zc3 N) _)
 ·exact Clo.sl _ _ (c9 (zc5 N) _)
 ·exact Clo.sl _ _ (c9 (zc2 N) _)
 ·exact Clo.sl _ _ (c9 (zc4 N) _)
 all_goals exact .int _ _
theorem St.clo2(N:Nat)(x:St)(b:Bool):Clo N (.tup [x.av,.bool b]):=.tup _ fun c hc=>by
 simp only[M6,P7,or_false]at hc;rcases hc with rfl|rfl
 ·exact St.clo _ _
 ·exact .bool _
theorem Ap(s:PS)(a:Int):s.raise 0 a= {s with t1:=topI s.t1 a}:=by
 unfold PS.raise topI;simp only;congr 1
 split<;>split<;>omega
theorem Aq(s:PS)(a:Int):s.raise 1 a= {s with t2:=topI s.t2 a}:=by
 unfold PS.raise topI;simp only;congr 1
 split<;>split<;>omega
theorem Ar(s:PS)(a:Int):s.raise 2 a= {s with t3:=topI s.t3 a}:=by
 unfold PS.raise topI;simp only;congr 1
 split<;>split<;>omega
theorem As(s:PS)(a:Int):s.raise 3 a= {s with t4:=topI s.t4 a}:=by
 unfold PS.raise topI;simp only;congr 1
 split<;>split<;>omega
theorem Cx(hI:s.Inv)(k:e.kind=1)(hn:lkM s.fo e.a=none):(s.aft e).tell= {s.tell with fo:=s.tell.fo.take (insI (·.id) s.tell.fo e.a)++(⟨e.a,e.b,e.s⟩:Fo)::s.tell.fo.drop (insI (·.id) s.tell.fo e.a),t1:=topI s.tell.t1 e.a}:=by
 have h1:=gD (z:=Fo.z) (key:=(·.id)) hI.w1 (fun k f hk=>(hI.i1 k f hk).1) (a:=(⟨e.a,e.b,e.s⟩:Fo)) hn rfl;unfold PS.aft PS.after;rw[L5 (by omega),L5 (by omega),L5 (by omega),L5 (by omega),L5 (by omega),L5 (by omega),L5 (by omega),L5 (by omega),L5 (by omega),PS.make,M0 k,aU,Ap]
 change St.mk _ _ _ _ _ _ _ _ _=_
 simp only[PS.tell,PS.upFo,PS.upNm];rw[h1]
theorem Cy(hI:s.Inv)(k:e.kind=3)(hn:lkM s.fe e.a=none):(s.aft e).tell= {s.tell with fe:=s.tell.fe.take (insI (·.id) s.tell.fe e.a)++(⟨e.a,e.b,e.s,e.t⟩:Fe)::s.tell.fe.drop (insI (·.id) s.tell.fe e.a),t2:=topI s.tell.t2 e.a}:=by
 have h1:=gD (z:=Fe.z) (key:=(·.id)) hI.w2 (fun k f hk=>(hI.i2 k f hk).1) (a:=(⟨e.a,e.b,e.s,e.t⟩:Fe)) hn rfl;unfold PS.aft PS.after;rw[L5 (by omega),L5 (by omega),L5 (by omega),L5 (by omega),L5 (by omega),L5 (by omega),L5 (by omega),L5 (by omega),L5 (by omega),PS.make,L5 (by omega),M0 k,aU,Aq]
 change St.mk _ _ _ _ _ _ _ _ _=_
 simp only[PS.tell,PS.upFe,PS.upPl];rw[h1]
theorem Cz(hI:s.Inv)(k:e.kind=7)(hn:lkM s.it e.a=none):(s.aft e).tell= {s.tell with it:=s.tell.it.take (insI (·.id) s.tell.it e.a)++(⟨e.a,e.b,e.n,e.s,e.t,e.u,false,false,[]⟩:It)::s.tell.it.drop (insI (·.id) s.tell.it e.a),t3:=topI s.tell.t3 e.a}:=by
 have h1:=gD (z:=It.z) (key:=(·.id)) hI.w3 (fun k f hk=>(hI.i3 k f hk).1) (a:=(⟨e.a,e.b,e.n,e.s,e.t,e.u,false,false,[]⟩:It)) hn rfl;unfold PS.aft PS.after;rw[L5 (by omega),L5 (by omega),L5 (by omega),L5 (by omega),L5 (by omega),L5 (by omega),L5 (by omega),L5 (by omega),L5 (by omega),PS.make,L5 (by omega),L5 (by omega),M0 k,Ar]
 change St.mk _ _ _ _ _ _ _ _ _=_
 simp only[PS.tell,PS.upIt,PS.upGu];rw[h1]
theorem Au(hI:s.Inv)(k:e.kind=11)(hn:lkM s.se e.a=none):(s.aft e).tell= {s.tell with se:=s.tell.se.take (insI (·.id) s.tell.se e.a)++(⟨e.a,e.s,e.t⟩:Se)::s.tell.se.drop (insI (·.id) s.tell.se e.a),t4:=topI s.tell.t4 e.a}:=by
 have h1:=gD (z:=Se.z) (key:=(·.id)) hI.w4 (fun k f hk=>(hI.i4 k f hk).1) (a:=(⟨e.a,e.s,e.t⟩:Se)) hn rfl;unfold PS.aft PS.after;rw[L5 (by omega),L5 (by omega),L5 (by omega),L5 (by omega),L5 (by omega),L5 (by omega),L5 (by omega),L5 (by omega),L5 (by omega),PS.make,L5 (by omega),L5 (by omega),L5 (by omega),M0 k,As]
 change St.mk _ _ _ _ _ _ _ _ _=_
 simp only[PS.tell,PS.upSe,PS.upSe];rw[h1]
theorem CA(hI:s.Inv)(k:e.kind=2){f:Fo}(hf:lkM s.fo e.a=some f){i:Nat}(hi:s.tell.fo[i]? =some f):(s.aft e).tell= {s.tell with fo:=s.tell.fo.take i++s.tell.fo.drop (i+1)}:=by
 have h1:=js (z:=Fo.z) (key:=(·.id)) hI.w1 (fun k f hk=>(hI.i1 k f hk).1) hi (hI.i1 _ _ hf).1;unfold PS.aft PS.after;rw[M0 k,aU]
 change St.mk _ _ _ _ _ _ _ _ _=_
 simp only[PS.tell,PS.dlFo,PS.dlNm]at h1 ⊢;rw[h1]
theorem Aw(hI:s.Inv)(k:e.kind=12){f:Se}(hf:lkM s.se e.a=some f){i:Nat}(hi:s.tell.se[i]? =some f):(s.aft e).tell= {s.tell with se:=s.tell.se.take i++s.tell.se.drop (i+1)}:=by
 have h1:=js (z:=Se.z) (key:=(·.id)) hI.w4 (fun k f hk=>(hI.i4 k f hk).1) hi (hI.i4 _ _ hf).1;unfold PS.aft PS.after;rw[L5 (by omega),L5 (by omega),L5 (by omega),L5 (by omega),L5 (by omega),L5 (by omega),L5 (by omega),M0 k]
 change St.mk _ _ _ _ _ _ _ _ _=_
 simp only[PS.tell,PS.dlSe]at h1 ⊢;rw[h1]
theorem CB(hI:s.Inv)(k:e.kind=4){f:Fe}(hf:lkM s.fe e.a=some f){i:Nat}(hi:s.tell.fe[i]? =some f):(s.aft e).tell= {s.tell with fe:=s.tell.fe.take i++s.tell.fe.drop (i+1),it:=s.tell.it.filter fun t=>decide (t.feed≠e.a)}:=by
 have hid:=(hI.i2 _ _ hf).1;have h1:=js (z:=Fe.z) (key:=(·.id)) hI.w2 (fun k f hk=>(hI.i2 k f hk).1) hi hid;have h2:=wZ (z:=It.z) (key:=(·.id)) hI.w3 (fun k f hk=>(hI.i3 k f hk).1) fun t=>decide (t.feed≠e.a)
 have h3:itF s.it f.id=s.it.filter fun x=>decide (x.2.1.feed≠e.a):=by
  unfold itF;rw[hid];refine V0 fun x _=>?_
  simp
 unfold PS.aft PS.after;rw[L5 (by omega),M0 k,hf,Q3,PS.unfeed,aU]
 change St.mk _ _ _ _ _ _ _ _ _=_
 simp only[PS.tell,PS.dlFe,PS.dlPl,hid]at h1 h2 h3 ⊢;rw[h1,h3,h2]
theorem CC(hI:s.Inv)(k:e.kind=5){f:Fe}(hf:lkM s.fe e.a=some f){i:Nat}(hi:s.tell.fe[i]? =some f):(s.aft e).tell= {s.tell with fe:=s.tell.fe.set i {f with title:=e.t}}:=by
 have hid:=(hI.i2 _ _ hf).1;have h1:=fb (z:=Fe.z) (key:=(·.id)) hI.w2 (fun k f hk=>(hI.i2 k f hk).1) (a:= {f with title:=e.t}) hi hid hid;unfold PS.aft PS.after;rw[L5 (by omega),L5 (by omega),M0 k,hf,Q3]
 change St.mk _ _ _ _ _ _ _ _ _=_
 simp only[PS.tell,PS.upFe]at h1 ⊢;rw[h1]
theorem CD(hI:s.Inv)(k:e.kind=6){f:Fe}(hf:lkM s.fe e.a=some f){i:Nat}(hi:s.tell.fe[i]? =some f):(s.aft e).tell= {s.tell with fe:=s.tell.fe.set i {f with inn:=e.b}}:=by
 have hid:=(hI.i2 _ _ hf).1;have h1:=fb (z:=Fe.z) (key:=(·.id)) hI.w2 (fun k f hk=>(hI.i2 k f hk).1) (a:= {f with inn:=e.b}) hi hid hid;unfold PS.aft PS.after;rw[L5 (by omega),L5 (by omega),L5 (by omega),M0 k,hf,Q3,aU,aU]
 change St.mk _ _ _ _ _ _ _ _ _=_
 simp only[PS.tell,PS.upFe]at h1 ⊢;rw[h1]
theorem CE(hI:s.Inv)(k:e.kind=8){f:It}(hf:lkM s.it e.a=some f){i:Nat}(hi:s.tell.it[i]? =some f):(s.aft e).tell= {s.tell with it:=s.tell.it.set i {f with read:=e.n==1}}:=by
 have hid:=(hI.i3 _ _ hf).1;have h1:=fb (z:=It.z) (key:=(·.id)) hI.w3 (fun k f hk=>(hI.i3 k f hk).1) (a:= {f with read:=e.n==1}) hi hid hid;unfold PS.aft PS.after;rw[L5 (by omega),L5 (by omega),L5 (by omega),L5 (by omega),M0 k,hf,Q3]
 change St.mk _ _ _ _ _ _ _ _ _=_
 simp only[PS.tell,PS.upIt]at h1 ⊢;rw[h1]
theorem CF(hI:s.Inv)(k:e.kind=9){f:It}(hf:lkM s.it e.a=some f){i:Nat}(hi:s.tell.it[i]? =some f):(s.aft e).tell= {s.tell with it:=s.tell.it.set i {f with star:=e.n==1}}:=by
 have hid:=(hI.i3 _ _ hf).1;have h1:=fb (z:=It.z) (key:=(·.id)) hI.w3 (fun k f hk=>(hI.i3 k f hk).1) (a:= {f with star:=e.n==1}) hi hid hid;unfold PS.aft PS.after;rw[L5 (by omega),L5 (by omega),L5 (by omega),L5 (by omega),L5 (by omega),M0 k,hf,Q3]
 change St.mk _ _ _ _ _ _ _ _ _=_
 simp only[PS.tell,PS.upIt]at h1 ⊢;rw[h1]
theorem Ax(hI:s.Inv)(k:e.kind=10){f:It}(hf:lkM s.it e.a=some f){i:Nat}(hi:s.tell.it[i]? =some f):(s.aft e).tell= {s.tell with it:=s.tell.it.set i {f with tags:=tgF f.tags e.s e.n}}:=by
 have hid:=(hI.i3 _ _ hf).1;have h1:=fb (z:=It.z) (key:=(·.id)) hI.w3 (fun k f hk=>(hI.i3 k f hk).1) (a:= {f with tags:=tgF f.tags e.s e.n}) hi hid hid;unfold PS.aft PS.after;rw[L5 (by omega),L5 (by omega),L5 (by omega),L5 (by omega),L5 (by omega),L5 (by omega),M0 k,hf,Q3]
 change St.mk _ _ _ _ _ _ _ _ _=_
 simp only[PS.tell,PS.upIt]at h1 ⊢;rw[h1]
theorem Ay(k:e.kind=13):(s.aft e).tell= {s.tell with clock:=e.n}:=by
 unfold PS.aft PS.after;rw[L5 (by omega),L5 (by omega),L5 (by omega),L5 (by omega),L5 (by omega),L5 (by omega),L5 (by omega),L5 (by omega),M0 k];rfl
end
theorem JF:∀(i:Nat) (r s:AVal),[AVal.agg [.int .i64 0,.nil (.slice none 0 0),.nil (.slice none 0 0),.nil (.slice none 0 0),.nil (.slice none 0 0),.int .i64 0,.int .i64 0,.int .i64 0,.int .i64 0]][i]? =some r→[PS.z.tell.av][i]? =some s→WkR r s:=fun i r s hr hs=>by
 match i with
 |0=>
  simp at hr hs;subst hr;subst hs;refine⟨rfl,fun j c d hc hd=>?_⟩
  match j with
  |0|5|6|7|8=>simp[PS.tell,PS.z,St.av,AVal.cells]at hc hd;subst hc;subst hd;exact⟨Wk.refl _,id⟩
  |1|2|3|4=>
   simp[PS.tell,PS.z,St.av,AVal.cells,valsM,sortI]at hc hd;subst hc;subst hd;exact⟨fun w S μ x hx=>by cases hx;exact .sl0 _ _ _,fun _=>rfl⟩
  |j+9=>simp[AVal.cells]at hc
 |i+1=>simp at hr
variable (G:Nat→Option (List AVal))
theorem CG(hc:GClo (CT G)){s:PS}(hI:s.Inv)(hN:s.Nam)(e:Ev)(k1:e.kind=1)(hok:s.ok L0 e=true)(h:Heap):Sat (CT G) 32 [s.tell.av,e.av] h (fun r h'=>r=.tup [(s.aft e).tell.av,.bool true]∧h'=h):=by
 have hF:=bb G hc hI hN e;rw[hok]at hF;have hl1:s.tell.fo.length≤100000:=by have:=hI.up.l1;omega
 have hl2:s.tell.fe.length≤100000:=by have:=hI.up.l2;omega
 have hl3:s.tell.it.length≤100000:=by have:=hI.up.l3;omega
 have hl4:s.tell.se.length≤100000:=by have:=aK (z:=Se.z) s.se;have:=hI.l4;show(valsM Se.z s.se).length≤_;omega
 have hno:lkM s.fo e.a=none:=by
  unfold PS.ok PS.fits at hok;rw[L6]at hok;have:=hok.2;rw[M0 k1]at this;simp only[L6,P6]at this;exact cD this.1.1.1.1
 have hM:=s9 G s.tell e k1 hl1;rw[← Cx hI k1 hno]at hM;simp only[zc1,k1]at hF hM;have F:=k1;refine sb [.cell 4 36,.tmp 5] Tryz.func32 ?_;intro Q hQ;refine wk F ?_;refine kq F (hF _) ?_;refine kq F (hM _) ?_;refine ye hQ F ?_;exact L7 (St.clo2 _ _ _) ⟨rfl,rfl⟩
theorem CH(hc:GClo (CT G)){s:PS}(hI:s.Inv)(hN:s.Nam)(e:Ev)(k1:e.kind=3)(hok:s.ok L0 e=true)(h:Heap):Sat (CT G) 32 [s.tell.av,e.av] h (fun r h'=>r=.tup [(s.aft e).tell.av,.bool true]∧h'=h):=by
 have hF:=bb G hc hI hN e;rw[hok]at hF;have hl1:s.tell.fo.length≤100000:=by have:=hI.up.l1;omega
 have hl2:s.tell.fe.length≤100000:=by have:=hI.up.l2;omega
 have hl3:s.tell.it.length≤100000:=by have:=hI.up.l3;omega
 have hl4:s.tell.se.length≤100000:=by have:=aK (z:=Se.z) s.se;have:=hI.l4;show(valsM Se.z s.se).length≤_;omega
 have hno:lkM s.fe e.a=none:=by
  unfold PS.ok PS.fits at hok;rw[L6]at hok;have:=hok.2;rw[L5 (by omega),L5 (by omega),M0 k1]at this;simp only[L6,P6]at this;exact cD this.1.1.1
 have hM:=sf G s.tell e k1 hl2;rw[← Cy hI k1 hno]at hM;simp only[zc1,k1]at hF hM;have F:=k1;refine sb [.cell 4 36,.tmp 5] Tryz.func32 ?_;intro Q hQ;refine wk F ?_;refine kq F (hF _) ?_;refine kq F (hM _) ?_;refine ye hQ F ?_;exact L7 (St.clo2 _ _ _) ⟨rfl,rfl⟩
theorem CI(hc:GClo (CT G)){s:PS}(hI:s.Inv)(hN:s.Nam)(e:Ev)(k1:e.kind=7)(hok:s.ok L0 e=true)(h:Heap):Sat (CT G) 32 [s.tell.av,e.av] h (fun r h'=>r=.tup [(s.aft e).tell.av,.bool true]∧h'=h):=by
 have hF:=bb G hc hI hN e;rw[hok]at hF;have hl1:s.tell.fo.length≤100000:=by have:=hI.up.l1;omega
 have hl2:s.tell.fe.length≤100000:=by have:=hI.up.l2;omega
 have hl3:s.tell.it.length≤100000:=by have:=hI.up.l3;omega
 have hl4:s.tell.se.length≤100000:=by have:=aK (z:=Se.z) s.se;have:=hI.l4;show(valsM Se.z s.se).length≤_;omega
 have hno:lkM s.it e.a=none:=by
  unfold PS.ok PS.fits at hok;rw[L6]at hok;have:=hok.2;rw[L5 (by omega),L5 (by omega),L5 (by omega),L5 (by omega),L5 (by omega),M0 k1]at this;simp only[L6,P6]at this;exact cD this.1.1.1
 have hM:=sg G s.tell e k1 hl3;rw[← Cz hI k1 hno]at hM;simp only[zc1,k1]at hF hM;have F:=k1;refine sb [.cell 4 36,.tmp 5] Tryz.func32 ?_;intro Q hQ;refine wk F ?_;refine kq F (hF _) ?_;refine kq F (hM _) ?_;refine ye hQ F ?_;exact L7 (St.clo2 _ _ _) ⟨rfl,rfl⟩
theorem Az(hc:GClo (CT G)){s:PS}(hI:s.Inv)(hN:s.Nam)(e:Ev)(k1:e.kind=11)(hok:s.ok L0 e=true)(h:Heap):Sat (CT G) 32 [s.tell.av,e.av] h (fun r h'=>r=.tup [(s.aft e).tell.av,.bool true]∧h'=h):=by
 have hF:=bb G hc hI hN e;rw[hok]at hF;have hl1:s.tell.fo.length≤100000:=by have:=hI.up.l1;omega
 have hl2:s.tell.fe.length≤100000:=by have:=hI.up.l2;omega
 have hl3:s.tell.it.length≤100000:=by have:=hI.up.l3;omega
 have hl4:s.tell.se.length≤100000:=by have:=aK (z:=Se.z) s.se;have:=hI.l4;show(valsM Se.z s.se).length≤_;omega
 have hno:lkM s.se e.a=none:=by
  unfold PS.ok PS.fits at hok;rw[L6]at hok;have:=hok.2;rw[L5 (by omega),L5 (by omega),L5 (by omega),L5 (by omega),L5 (by omega),L5 (by omega),L5 (by omega),L5 (by omega),M0 k1]at this;simp only[L6,P6]at this;exact cD this.1
 have hM:=oO G s.tell e k1 hl4;rw[← Au hI k1 hno]at hM;simp only[zc1,k1]at hF hM;have F:=k1;refine sb [.cell 4 36,.tmp 5] Tryz.func32 ?_;intro Q hQ;refine wk F ?_;refine kq F (hF _) ?_;refine kq F (hM _) ?_;refine ye hQ F ?_;exact L7 (St.clo2 _ _ _) ⟨rfl,rfl⟩
theorem CJ(hc:GClo (CT G)){s:PS}(hI:s.Inv)(hN:s.Nam)(e:Ev)(k1:e.kind=2)(hok:s.ok L0 e=true)(h:Heap):Sat (CT G) 32 [s.tell.av,e.av] h (fun r h'=>r=.tup [(s.aft e).tell.av,.bool true]∧h'=h):=by
 have hF:=bb G hc hI hN e;rw[hok]at hF;have hl1:s.tell.fo.length≤100000:=by have:=hI.up.l1;omega
 have hl2:s.tell.fe.length≤100000:=by have:=hI.up.l2;omega
 have hl3:s.tell.it.length≤100000:=by have:=hI.up.l3;omega
 have hl4:s.tell.se.length≤100000:=by have:=aK (z:=Se.z) s.se;have:=hI.l4;show(valsM Se.z s.se).length≤_;omega
 have hso:(lkM s.fo e.a).isSome=true:=by
  unfold PS.ok PS.fits at hok;rw[L6]at hok;have:=hok.2;rw[L5 (by omega),M0 k1]at this;simp only[L6]at this;exact this.1
 obtain⟨f,hf⟩:=N5.1 hso;obtain⟨i,p1,p2,_⟩:=bh (show fnd (·.id) s.tell.fo e.a=some f by rw[hI.fndFo,hf]);have hil:i<s.tell.fo.length:=(f9.1 p1).1;have hM:=s7 G s.tell e k1 i p2 hil hl1;rw[← CA hI k1 hf p1]at hM;simp only[zc1,k1]at hF hM;have F:=k1;refine sb [.cell 4 36,.tmp 5] Tryz.func32 ?_;intro Q hQ;refine wk F ?_;refine kq F (hF _) ?_;refine kq F (hM _) ?_;refine ye hQ F ?_;exact L7 (St.clo2 _ _ _) ⟨rfl,rfl⟩
theorem AA(hc:GClo (CT G)){s:PS}(hI:s.Inv)(hN:s.Nam)(e:Ev)(k1:e.kind=12)(hok:s.ok L0 e=true)(h:Heap):Sat (CT G) 32 [s.tell.av,e.av] h (fun r h'=>r=.tup [(s.aft e).tell.av,.bool true]∧h'=h):=by
 have hF:=bb G hc hI hN e;rw[hok]at hF;have hl1:s.tell.fo.length≤100000:=by have:=hI.up.l1;omega
 have hl2:s.tell.fe.length≤100000:=by have:=hI.up.l2;omega
 have hl3:s.tell.it.length≤100000:=by have:=hI.up.l3;omega
 have hl4:s.tell.se.length≤100000:=by have:=aK (z:=Se.z) s.se;have:=hI.l4;show(valsM Se.z s.se).length≤_;omega
 have hso:(lkM s.se e.a).isSome=true:=by
  unfold PS.ok PS.fits at hok;rw[L6]at hok;have:=hok.2;rw[L5 (by omega),L5 (by omega),L5 (by omega),L5 (by omega),L5 (by omega),L5 (by omega),L5 (by omega),L5 (by omega),L5 (by omega),M0 k1]at this;exact this
 obtain⟨f,hf⟩:=N5.1 hso;obtain⟨i,p1,p2,_⟩:=bh (show fnd (·.id) s.tell.se e.a=some f by rw[hI.fndSe,hf]);have hil:i<s.tell.se.length:=(f9.1 p1).1;have hM:=oN G s.tell e k1 i p2 hil hl4;rw[← Aw hI k1 hf p1]at hM;simp only[zc1,k1]at hF hM;have F:=k1;refine sb [.cell 4 36,.tmp 5] Tryz.func32 ?_;intro Q hQ;refine wk F ?_;refine kq F (hF _) ?_;refine kq F (hM _) ?_;refine ye hQ F ?_;exact L7 (St.clo2 _ _ _) ⟨rfl,rfl⟩
theorem CK(hc:GClo (CT G)){s:PS}(hI:s.Inv)(hN:s.Nam)(e:Ev)(k1:e.kind=4)(hok:s.ok L0 e=true)(h:Heap):Sat (CT G) 32 [s.tell.av,e.av] h (fun r h'=>r=.tup [(s.aft e).tell.av,.bool true]∧h'=h):=by
 have hF:=bb G hc hI hN e;rw[hok]at hF;have hl1:s.tell.fo.length≤100000:=by have:=hI.up.l1;omega
 have hl2:s.tell.fe.length≤100000:=by have:=hI.up.l2;omega
 have hl3:s.tell.it.length≤100000:=by have:=hI.up.l3;omega
 have hl4:s.tell.se.length≤100000:=by have:=aK (z:=Se.z) s.se;have:=hI.l4;show(valsM Se.z s.se).length≤_;omega
 have hso:(lkM s.fe e.a).isSome=true:=by
  unfold PS.ok PS.fits at hok;rw[L6]at hok;have:=hok.2;rw[L5 (by omega),L5 (by omega),L5 (by omega),M0 (by omega)]at this;exact this
 obtain⟨f,hf⟩:=N5.1 hso;obtain⟨i,p1,p2,_⟩:=bh (show fnd (·.id) s.tell.fe e.a=some f by rw[hI.fndFe,hf]);have hil:i<s.tell.fe.length:=(f9.1 p1).1;have hM:=s8 G s.tell e k1 i p2 hil hl2 hl3;rw[← CB hI k1 hf p1]at hM;simp only[zc1,k1]at hF hM;have F:=k1;refine sb [.cell 4 36,.tmp 5] Tryz.func32 ?_;intro Q hQ;refine wk F ?_;refine kq F (hF _) ?_;refine kq F (hM _) ?_;refine ye hQ F ?_;exact L7 (St.clo2 _ _ _) ⟨rfl,rfl⟩
theorem CL(hc:GClo (CT G)){s:PS}(hI:s.Inv)(hN:s.Nam)(e:Ev)(k1:e.kind=5)(hok:s.ok L0 e=true)(h:Heap):Sat (CT G) 32 [s.tell.av,e.av] h (fun r h'=>r=.tup [(s.aft e).tell.av,.bool true]∧h'=h):=by
 have hF:=bb G hc hI hN e;rw[hok]at hF;have hl1:s.tell.fo.length≤100000:=by have:=hI.up.l1;omega
 have hl2:s.tell.fe.length≤100000:=by have:=hI.up.l2;omega
 have hl3:s.tell.it.length≤100000:=by have:=hI.up.l3;omega
 have hl4:s.tell.se.length≤100000:=by have:=aK (z:=Se.z) s.se;have:=hI.l4;show(valsM Se.z s.se).length≤_;omega
 have hso:(lkM s.fe e.a).isSome=true:=by
  unfold PS.ok PS.fits at hok;rw[L6]at hok;have:=hok.2;rw[L5 (by omega),L5 (by omega),L5 (by omega),M0 (by omega)]at this;exact this
 obtain⟨f,hf⟩:=N5.1 hso;obtain⟨i,p1,p2,_⟩:=bh (show fnd (·.id) s.tell.fe e.a=some f by rw[hI.fndFe,hf]);have hil:i<s.tell.fe.length:=(f9.1 p1).1;have hM:=uH G s.tell e k1 hF i f p1 p2 hl2 h;rw[← CC hI k1 hf p1]at hM;exact hM
theorem CM(hc:GClo (CT G)){s:PS}(hI:s.Inv)(hN:s.Nam)(e:Ev)(k1:e.kind=6)(hok:s.ok L0 e=true)(h:Heap):Sat (CT G) 32 [s.tell.av,e.av] h (fun r h'=>r=.tup [(s.aft e).tell.av,.bool true]∧h'=h):=by
 have hF:=bb G hc hI hN e;rw[hok]at hF;have hl1:s.tell.fo.length≤100000:=by have:=hI.up.l1;omega
 have hl2:s.tell.fe.length≤100000:=by have:=hI.up.l2;omega
 have hl3:s.tell.it.length≤100000:=by have:=hI.up.l3;omega
 have hl4:s.tell.se.length≤100000:=by have:=aK (z:=Se.z) s.se;have:=hI.l4;show(valsM Se.z s.se).length≤_;omega
 have hso:(lkM s.fe e.a).isSome=true:=by
  unfold PS.ok PS.fits at hok;rw[L6]at hok;have:=hok.2;rw[L5 (by omega),L5 (by omega),L5 (by omega),L5 (by omega),M0 k1]at this;simp only[L6]at this;exact this.1
 obtain⟨f,hf⟩:=N5.1 hso;obtain⟨i,p1,p2,_⟩:=bh (show fnd (·.id) s.tell.fe e.a=some f by rw[hI.fndFe,hf]);have hil:i<s.tell.fe.length:=(f9.1 p1).1;have hM:=uI G s.tell e k1 hF i f p1 p2 hl2 h;rw[← CD hI k1 hf p1]at hM;exact hM
theorem CN(hc:GClo (CT G)){s:PS}(hI:s.Inv)(hN:s.Nam)(e:Ev)(k1:e.kind=8)(hok:s.ok L0 e=true)(h:Heap):Sat (CT G) 32 [s.tell.av,e.av] h (fun r h'=>r=.tup [(s.aft e).tell.av,.bool true]∧h'=h):=by
 have hF:=bb G hc hI hN e;rw[hok]at hF;have hl1:s.tell.fo.length≤100000:=by have:=hI.up.l1;omega
 have hl2:s.tell.fe.length≤100000:=by have:=hI.up.l2;omega
 have hl3:s.tell.it.length≤100000:=by have:=hI.up.l3;omega
 have hl4:s.tell.se.length≤100000:=by have:=aK (z:=Se.z) s.se;have:=hI.l4;show(valsM Se.z s.se).length≤_;omega
 have hso:(lkM s.it e.a).isSome=true:=by
  unfold PS.ok PS.fits at hok;rw[L6]at hok;have:=hok.2;rw[L5 (by omega),L5 (by omega),L5 (by omega),L5 (by omega),L5 (by omega),L5 (by omega),M0 (by omega)]at this;exact this
 obtain⟨f,hf⟩:=N5.1 hso;obtain⟨i,p1,p2,_⟩:=bh (show fnd (·.id) s.tell.it e.a=some f by rw[hI.fndIt,hf]);have hil:i<s.tell.it.length:=(f9.1 p1).1;have hM:=uJ G s.tell e k1 hF i f p1 p2 hl3 h;rw[← CE hI k1 hf p1]at hM;exact hM
theorem CO(hc:GClo (CT G)){s:PS}(hI:s.Inv)(hN:s.Nam)(e:Ev)(k1:e.kind=9)(hok:s.ok L0 e=true)(h:Heap):Sat (CT G) 32 [s.tell.av,e.av] h (fun r h'=>r=.tup [(s.aft e).tell.av,.bool true]∧h'=h):=by
 have hF:=bb G hc hI hN e;rw[hok]at hF;have hl1:s.tell.fo.length≤100000:=by have:=hI.up.l1;omega
 have hl2:s.tell.fe.length≤100000:=by have:=hI.up.l2;omega
 have hl3:s.tell.it.length≤100000:=by have:=hI.up.l3;omega
 have hl4:s.tell.se.length≤100000:=by have:=aK (z:=Se.z) s.se;have:=hI.l4;show(valsM Se.z s.se).length≤_;omega
 have hso:(lkM s.it e.a).isSome=true:=by
  unfold PS.ok PS.fits at hok;rw[L6]at hok;have:=hok.2;rw[L5 (by omega),L5 (by omega),L5 (by omega),L5 (by omega),L5 (by omega),L5 (by omega),M0 (by omega)]at this;exact this
 obtain⟨f,hf⟩:=N5.1 hso;obtain⟨i,p1,p2,_⟩:=bh (show fnd (·.id) s.tell.it e.a=some f by rw[hI.fndIt,hf]);have hil:i<s.tell.it.length:=(f9.1 p1).1;have hM:=uK G s.tell e k1 hF i f p1 p2 hl3 h;rw[← CF hI k1 hf p1]at hM;exact hM
theorem AB(hc:GClo (CT G)){s:PS}(hI:s.Inv)(hN:s.Nam)(e:Ev)(k1:e.kind=10)(hok:s.ok L0 e=true)(h:Heap):Sat (CT G) 32 [s.tell.av,e.av] h (fun r h'=>r=.tup [(s.aft e).tell.av,.bool true]∧h'=h):=by
 have hF:=bb G hc hI hN e;rw[hok]at hF;have hl1:s.tell.fo.length≤100000:=by have:=hI.up.l1;omega
 have hl2:s.tell.fe.length≤100000:=by have:=hI.up.l2;omega
 have hl3:s.tell.it.length≤100000:=by have:=hI.up.l3;omega
 have hl4:s.tell.se.length≤100000:=by have:=aK (z:=Se.z) s.se;have:=hI.l4;show(valsM Se.z s.se).length≤_;omega
 have hso:(lkM s.it e.a).isSome=true:=by
  unfold PS.ok PS.fits at hok;rw[L6]at hok;have:=hok.2;rw[L5 (by omega),L5 (by omega),L5 (by omega),L5 (by omega),L5 (by omega),L5 (by omega),L5 (by omega),M0 k1]at this;simp only[L6]at this;exact this.1
 obtain⟨f,hf⟩:=N5.1 hso;obtain⟨i,p1,p2,_⟩:=bh (show fnd (·.id) s.tell.it e.a=some f by rw[hI.fndIt,hf]);have hil:i<s.tell.it.length:=(f9.1 p1).1;have hn01:e.n=0∨e.n=1:=by
  unfold PS.ok PS.fits at hok;rw[L6]at hok;have hq:=hok.1;unfold Leaf.ck at hq;rw[L6]at hq;have hq:=hq.1;unfold Leaf.right at hq;rw[L5 (by omega),L5 (by omega),L5 (by omega),L5 (by omega),L5 (by omega),L5 (by omega),L5 (by omega),M0 k1]at hq;simp only[L6,R6,beq_iff_eq]at hq;exact hq.2.1
 have hM:=sB G s.tell e k1 hF i f p1 p2 hl3 (by have:=(hI.tg _ _ hf).2;omega) h;rw[zY (hI.tg _ _ hf).1 e.s hn01, ← Ax hI k1 hf p1]at hM;exact hM
theorem AC(hc:GClo (CT G)){s:PS}(hI:s.Inv)(hN:s.Nam)(e:Ev)(k1:e.kind=13)(hok:s.ok L0 e=true)(h:Heap):Sat (CT G) 32 [s.tell.av,e.av] h (fun r h'=>r=.tup [(s.aft e).tell.av,.bool true]∧h'=h):=by
 have hF:=bb G hc hI hN e;rw[hok]at hF;have hl1:s.tell.fo.length≤100000:=by have:=hI.up.l1;omega
 have hl2:s.tell.fe.length≤100000:=by have:=hI.up.l2;omega
 have hl3:s.tell.it.length≤100000:=by have:=hI.up.l3;omega
 have hl4:s.tell.se.length≤100000:=by have:=aK (z:=Se.z) s.se;have:=hI.l4;show(valsM Se.z s.se).length≤_;omega
 have ht:=Ay (s:=s) k1;simp only[zc1,k1]at hF;have F:=k1;refine sb [.cell 4 36,.tmp 5] Tryz.func32 ?_;intro Q hQ;refine wk F ?_;refine kq F (hF _) ?_;refine ye hQ F ?_;rw[ht];exact L7 (St.clo2 _ {s.tell with clock:=e.n} _) ⟨rfl,rfl⟩
theorem sC(hc:GClo (CT G)){s:PS}(hI:s.Inv)(hN:s.Nam)(e:Ev)(h:Heap):Sat (CT G) 32 [s.tell.av,e.av] h (fun r h'=>r=.tup [(s.step L0 e).tell.av,.bool (s.ok L0 e)]∧h'=h):=by
 cases hok:s.ok L0 e with
 |false=>
  have hst:s.step L0 e=s:=by unfold PS.step;rw[hok];rfl
  have hF:=bb G hc hI hN e;rw[hok]at hF;rw[hst];refine sb [.cell 4 36,.tmp 5] Tryz.func32 ?_;intro Q hQ;refine wk trivial ?_;refine kq trivial (hF _) ?_;refine ye hQ trivial ?_;exact L7 (St.clo2 _ s.tell _) ⟨rfl,rfl⟩
 |true=>
  have hst:s.step L0 e=s.aft e:=by unfold PS.step;rw[hok];rfl
  rw[hst];by_cases k1:e.kind=1
  ·exact CG G hc hI hN e k1 hok h
  by_cases k2:e.kind=2
  ·exact CJ G hc hI hN e k2 hok h
  by_cases k3:e.kind=3
  ·exact CH G hc hI hN e k3 hok h
  by_cases k4:e.kind=4
  ·exact CK G hc hI hN e k4 hok h
  by_cases k5:e.kind=5
  ·exact CL G hc hI hN e k5 hok h
  by_cases k6:e.kind=6
  ·exact CM G hc hI hN e k6 hok h
  by_cases k7:e.kind=7
  ·exact CI G hc hI hN e k7 hok h
  by_cases k8:e.kind=8
  ·exact CN G hc hI hN e k8 hok h
  by_cases k9:e.kind=9
  ·exact CO G hc hI hN e k9 hok h
  by_cases k10:e.kind=10
  ·exact AB G hc hI hN e k10 hok h
  by_cases k11:e.kind=11
  ·exact Az G hc hI hN e k11 hok h
  by_cases k12:e.kind=12
  ·exact AA G hc hI hN e k12 hok h
  by_cases k13:e.kind=13
  ·exact AC G hc hI hN e k13 hok h
  exfalso;unfold PS.ok PS.fits at hok;rw[L6]at hok;have hr:=hok.1;unfold Leaf.ck at hr;rw[L6]at hr;have hr:=hr.1;unfold Leaf.right at hr;rw[L5 k1,L5 (by omega),L5 k3,L5 k5,L5 k6,L5 k7,L5 (by omega),L5 k10,L5 k11,L5 k13]at hr;cases hr
theorem uL(hc:GClo (CT G))(es:List Ev)(hl:es.length≤100000)(h:Heap):Sat (CT G) 11 [.sl 7 (es.map Ev.av)] h (fun r h'=>r=(es.foldl (PS.step L0) PS.z).tell.av∧h'=h):=by
 have hel:(es.map Ev.av).length=es.length:=L8 ..;have F:=hel;refine sb [.cell 2 36] Tryz.func11 ?_;intro Q hQ;refine wk F ?_;refine lm (fun nL tL hL=>∃(k:Nat) (s:PS),es.length-k=nL∧h++[.row 36 9 0 [.agg [.int .i64 0,.nil (.slice none 0 0),.nil (.slice none 0 0),.nil (.slice none 0 0),.nil (.slice none 0 0),.int .i64 0,.int .i64 0,.int .i64 0,.int .i64 0]],.row 36 9 0 [s.tell.av]]=hL∧tL 0=.sl 7 (es.map Ev.av)∧tL 2=.hp h.length 0 0 0∧tL 3=.hp (h.length+1) 0 0 0∧tL 4=.int .i64 k∧k≤es.length∧s=(es.take k).foldl (PS.step L0) PS.z) ((fun(k:Nat) (s:PS)=>(es.length-k:Nat)) (0) (PS.z)) ?_ ?_
 ·refine⟨_,_,Weak.rows (p:=h.length+1) (v:=0) (rows:=[.agg [.int .i64 0,.nil (.slice none 0 0),.nil (.slice none 0 0),.nil (.slice none 0 0),.nil (.slice none 0 0),.int .i64 0,.int .i64 0,.int .i64 0,.int .i64 0]]) [PS.z.tell.av] (by rw[bd _ rfl];rfl) rfl JF,⟨0,PS.z,rfl,by rw[gZ _ rfl];rfl,?_,?_,?_,?_,by omega,rfl⟩⟩;all_goals try exact zZz F
 rintro _ s2 h' ⟨k,s,rfl,rfl,e0,e2,e3,e4,hk,hs⟩ K2 hK2;simp only[af,ao,Nat.reduceEqDiff, ↓reduceIte]at e0 e2 e3 e4;have F:=F5 F e0 e2 e3 e4;have hI:s.Inv:=by rw[hs];exact PS.Inv.z.fold _
 have hN:s.Nam:=by rw[hs];exact PS.Nam.z.fold .z _
 refine wk F ?_;refine cq F (fun c1=>?_) (fun c1=>?_)<;>(try exact c1.elim)<;>(refine wk F ?_)
 ·have c2:k<es.length:=by omega
  obtain⟨e,he,_⟩:=ac c2;have hA:=sC G hc hI hN e;have hst:s.step L0 e=(es.take (k+1)).foldl (PS.step L0) PS.z:=by rw[P3,zb2,he,hs];rfl
  have F:=F3 F c2 he
  skip
  try refine sq F ?_
  refine wn F ?_;refine aC 10 [9] [true,true,true,true,true,true,true,true,true,false] (.one 9 [] .fin) (by decide+kernel) (by kernel_rfl) (by decide+kernel) ?_;simp only[aG,aH,aD];try refine sq F ?_
  repeat' ((first|refine ai ?_|refine aj ?_|refine ak ?_ ?_)<;>try refine sq F ?_)
  all_goals try refine wn F ?_
  refine aE (hA _) ?_;try refine sq F ?_
  refine wn F ?_;repeat' ((first|refine ai ?_|refine aj ?_|refine ak ?_ ?_)<;>try refine sq F ?_)
  all_goals try refine wn F ?_
  skip
  refine hK2 _ _ _ (M2 ⟨k+1,s.step L0 e,rfl,rfl,?_,?_,?_,?_,by omega,hst⟩) (by omega);all_goals try exact zZz F
 ·rw[N0 (by omega)]at hs;try refine sq F ?_
  refine wk F ?_;refine ye hQ F ?_;rw[← hs];exact L7 (St.clo _ s.tell) ⟨rfl,rfl⟩
end
section
attribute [local irreducible] WP WPl WPix Sat
variable (G:Nat→Option (List AVal))
theorem nK(q:Qy){b:Bool}(hC:∀h,Sat (CT G) 19 [q.av] h (fun r h'=>r=.bool b∧h'=h))(h:Heap):Sat (CT G) 13 [q.av] h (fun r h'=>r=.bool b∧h'=h):=by
 obtain⟨qo,qn,qs,qk⟩:=q;simp only[Qy.av_eq]at hC ⊢;refine sb [.tmp 2] Tryz.func13 ?_;intro Q hQ;refine wk trivial ?_;refine kq trivial (hC _) ?_;refine ee hQ trivial ?_;exact L7 (.bool _) ⟨rfl,rfl⟩
theorem l8(hG:GOk G)(hc:GClo (CT G))(es:List Ev)(q:Qy)(hq:q.mx≤9223372036854775807)(item:Int)(h:Heap):Sat (CT G) 3 [.sl 7 (es.map Ev.av),q.av,.int .i64 item] h (fun r h'=>r=.bool true∧h'=h):=by
 have hLg:=kb G es;have hLa:=fun h=>qJ G q h hq
 by_cases hg:lgF es=false∧decide (q.left 0 300≤0)=false
 ·obtain⟨hlg,hla⟩:=hg;have hsm:q.dep 1≤12→q.sz≤6000:=Qy.small (by simpa using hla);have fq:q.Fit:=⟨hq,fun hd=>Q7 (hsm hd) (by omega)⟩
  have hCk:=fun h=>nK G q (fun h=>oF G hc _ h fq.1 fq.2) h
  rw[hlg]at hLg;rw[hla]at hLa;have hel:es.length≤150:=by
   unfold lgF at hlg;rw[za8]at hlg;have:=hlg.1;simp only[decide_eq_false_iff_not]at this;omega
  have hI:(es.foldl (PS.step L0) PS.z).Inv:=PS.Inv.z.fold es;have hT:(es.foldl (PS.step L0) PS.z).Tt:=PS.Tt.fold PS.Tt.z PS.Inv.z;obtain⟨rA,hrA⟩:∃rA,Blk.row 25 4 0 [q.av]=rA:=⟨_,rfl⟩;have hfh:=lJ G es (by omega) (h++[rA]);have hRF:=fun h=>uL G hc es (by omega) h
  have hnl:(h++[rA]).length=h.length+1:=by simp
  rw[hnl]at hfh;generalize es.foldl (PS.step L0) PS.z=s at hI hT hfh hRF;have hz9:(PS.z.bl (h.length+1)).length=9:=rfl;obtain⟨H0,hH0⟩:∃H0,H0=h++[rA]++PS.z.bl (h.length+1):=⟨_,rfl⟩;rw[← hH0]at hfh;have hl0:H0.length=h.length+10:=by rw[hH0];simp[hz9]
  have hn0:∀j:Heap,h.length+1+9≤(H0++j).length:=fun j=>by simp;omega
  have hpre:∀j,∃j',H0++j=h++j':=fun j=>⟨[rA]++(PS.z.bl (h.length+1)++j),by rw[hH0];simp only[O1]⟩
  have r0a:getRow (h++[rA]) h.length 0=some (25,4,[q.av]):=by rw[aJ _ rfl, ← hrA];rfl
  have hra:∀j,getRow (so (H0++j) (h.length+1) s) h.length 0=some (25,4,[q.av]):=fun j=>by
   rw[An (hn0 j) (by omega) (by omega),hH0,bo _ (by simp),r0a]
  have hra0:=hra [];have hn00:=hn0 [];rw[O8]at hra0 hn00;have hE:=fun(id:Int) (j:Heap)=>lR G s hI hT q fq id (X:=H0++j) (n:=h.length+1) (hn0 j)
  have hIm:=fun j=>gF G s hI hT q fq (X:=H0++j) (n:=h.length+1) (hn0 j)
  have g2:∀j,getRow (so (H0++(Blk.row 36 9 0 [s.tell.av]::j)) (h.length+1) s) H0.length 0=some (36,9,[s.tell.av]):=fun j=>by
   rw[bN (hn0 _) _ (by omega),aJ _ rfl];rfl
  cases hok:q.ok with
  |false=>
   rw[hok]at hCk;have hev:s.eval q item=false:=by
    unfold PS.eval;split
    ·rfl
    ·rw[hok];rfl
   simp only[hok,O5, ↓reduceIte]at hIm;have ke:=hE item;rw[hev]at ke;clear hE hev fq hsm hla hq hok;generalize s.tell=x at*;obtain⟨qo,qn,qs,qk⟩:=q;simp only[Qy.av_eq]at hCk ke hIm hLa hrA r0a hra hra0 ⊢;unfold St.av at g2 hRF;have F:=F8 @hrA @r0a hra hra0 hn00 hn0 g2 @aw;refine sb [.tmp 6] Tryz.func3 ?_;intro Q hQ;refine wk F ?_;refine kq F (hLg _) ?_;refine kq F (hLa _) ?_;refine kq F (hfh) ?_;refine kq F (hRF _) ?_;refine kq F (dL G hG hc _) ?_;refine kq F (hIm _) ?_;refine kq F (hCk _) ?_;refine kq F (ke _) ?_;refine ee hQ F ?_;exact kz (hn0 _) (hpre _) (by omega) ⟨rfl,rfl⟩
  |true=>
   rw[hok]at hCk;have hdp:q.dep 1≤12:=by
    unfold Qy.ok at hok;rw[L6,M1]at hok;exact hok.1
   have hz:=hsm hdp;have hRi:=fun h=>sA G s hI hT q (by omega) h
   have hxl:=hI.up.l3;have hRl:(itmF s fun t=>q.bel s t).length≤1000000:=by
    rw[yD hI];exact Q7 List.countP_le_length (by omega)
   have hSm:=fun h=>lQ G _ _ hRl hRl h
   simp only[hok, ↓reduceIte]at hIm;simp only[decide_true]at hSm;have ke:=hE item;have hPo:=fun h=>dV G s.tell item (by omega) h
   cases hl:lkM s.it item with
   |none=>
    have hev:s.eval q item=false:=(by unfold PS.eval;rw[hl]);rw[hev]at ke;rw[dz (by rw[hI.fndIt,hl])]at hPo;clear hE hev fq hsm hla hq hok hl;generalize (itmF s fun t=>q.bel s t)=R at*;generalize s.tell=x at*;obtain⟨qo,qn,qs,qk⟩:=q;simp only[Qy.av_eq]at hCk ke hIm hRi hLa hrA r0a hra hra0 ⊢;unfold St.av at g2 hRF hPo hRi;have df:∀i:Decidable False, @decide False i=false:=fun i=>O4 id
    have F:=gJ df (F3 (@X7 Int _ _) (@X7 Bool _ _) (@X7 Bs _ _)) @hrA @r0a hra hra0 hn00 hn0 g2 @aw;refine sb [.tmp 6] Tryz.func3 ?_;intro Q hQ;refine wk F ?_;refine kq F (hLg _) ?_;refine kq F (hLa _) ?_;refine kq F (hfh) ?_;refine kq F (hRF _) ?_;refine kq F (dL G hG hc _) ?_;refine kq F (hIm _) ?_;refine kq F (hCk _) ?_;refine kq F (hPo _) ?_;refine aE (hRi _) ?_;(try refine sq F ?_);refine wk F ?_;refine aE (hSm _) ?_;(try refine sq F ?_);refine wk F ?_;refine aE (ke _) ?_;(try refine sq F ?_);refine wk F ?_;refine ee hQ F ?_;exact kz (hn0 _) (hpre _) (by omega) ⟨rfl,rfl⟩
   |some t=>
    have hev:s.eval q item=q.bel s t:=(by unfold PS.eval;rw[hl,hok];rfl);rw[hev]at ke;obtain⟨k,hk1,hk2,_⟩:=bh (key:=fun t:It=>t.id) (l:=s.tell.it) (id:=item) (a:=t) (by rw[hI.fndIt,hl]);rw[hk2]at hPo;have hkl:k<s.tell.it.length:=(f9.1 hk1).1;have hEv:=fun h=>lU G s hI t (by have:=hT item t hl;omega) (by have:=(hI.tg item t hl).2;omega) q (by omega) h
    clear hE hev fq hsm hla hq hok hl;generalize (itmF s fun t=>q.bel s t)=R at*;generalize q.bel s t=b at*;generalize s.tell=x at*;obtain⟨qo,qn,qs,qk⟩:=q;simp only[Qy.av_eq]at hCk ke hIm hRi hEv hLa hrA r0a hra hra0 ⊢;unfold St.av at g2 hRF hPo hRi hEv;have ml:(x.it.map It.av).length=x.it.length:=L8 ..;have dk4:decide ((k:Int)≥0)=true:=(by simp);have dt:∀i:Decidable True, @decide True i=true:=fun i=>P1 trivial
    have F:=F2 (F9 @hrA @r0a hra hra0 hn00 hn0 g2 hk1 hkl) (F5 dk4 dt ml (F3 (@X7 Int _ _) (@X7 Bool _ _) (@X7 Bs _ _)) @aw);refine sb [.tmp 6] Tryz.func3 ?_;intro Q hQ;refine wk F ?_;refine kq F (hLg _) ?_;refine kq F (hLa _) ?_;refine kq F (hfh) ?_;refine kq F (hRF _) ?_;refine kq F (dL G hG hc _) ?_;refine kq F (hIm _) ?_;refine kq F (hCk _) ?_;refine kq F (hPo _) ?_;refine aE (hRi _) ?_;(try refine sq F ?_);refine wk F ?_;refine aE (hSm _) ?_;(try refine sq F ?_);refine wk F ?_;refine aE (ke _) ?_;(try refine sq F ?_);refine wk F ?_;refine aE (hEv _) ?_;(try refine sq F ?_);refine wk F ?_;refine ee hQ F ?_;exact kz (hn0 _) (hpre _) (by omega) ⟨by simp,rfl⟩
 ·have hb3:lgF es=true∨(lgF es=false∧decide (q.left 0 300≤0)=true):=by
   revert hg;cases lgF es<;>cases decide (q.left 0 300≤0)<;>simp
  clear hg hq;generalize lgF es=b1 at*;generalize decide (q.left 0 300≤0)=b2 at*;obtain⟨qo,qn,qs,qk⟩:=q;simp only[Qy.av_eq]at hLa ⊢;rcases hb3 with rfl| ⟨rfl,rfl⟩;all_goals (
   refine sb [.tmp 6] Tryz.func3 ?_;intro Q hQ;refine wk trivial ?_;repeat (first
    |refine kq trivial (hLg _) ?_
    |refine kq trivial (hLa _) ?_
    |refine kq trivial (dL G hG hc _) ?_)
   refine ee hQ trivial ?_;exact L7 (.bool _) ⟨rfl,rfl⟩)
end
end Go.Av
