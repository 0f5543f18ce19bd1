/- Page behind page tells of each item that belongs, once, in order: for every list of events, every query and number the call returns true, and its arguments read as before. -/
import Derived.Test.YtljpbjilgehfgaaGreatMgXq
import Derived.Test.YtljpbjilgehfgaaGreatMgZl
set_option linter.unusedSimpArgs false
set_option linter.unusedVariables false
set_option linter.unusedSectionVars false
set_option linter.unnecessarySimpa false
set_option maxRecDepth 100000
set_option maxHeartbeats 16000000
namespace Go.Av
open Go Go.Proofs Go.RowKit
def bhd(c:Cu)(k:Ky):Bool:= !c.set||ahd ⟨c.d,c.i,0⟩ k
theorem sx{l:List Ky}(hs:Sk l)(c:Cu):l.drop (fromK l c)=l.filter (bhd c):=by
 obtain⟨d,i,b⟩:=c
 cases b with
 |false=>
  show l.drop 0=_
  rw[List.drop_zero]
  exact(List.filter_eq_self.2 fun x _=>rfl).symm
 |true=>
  show l.drop (pst l ⟨d,i,0⟩)=l.filter fun k=>false||ahd ⟨d,i,0⟩ k
  simp only[Bool.false_or]
  induction l with
  |nil=>rfl
  |cons x l ih=>
   obtain⟨h1,h2⟩:=List.pairwise_cons.1 hs
   unfold pst
   cases ha:ahd ⟨d,i,0⟩ x with
   |true=>
    rw[if_pos rfl,List.drop_zero]
    refine(List.filter_eq_self.2 fun y hy=>?_).symm
    rcases List.mem_cons.1 hy with rfl|hy
    ·exact ha
    ·exact cw ha (h1 y hy)
   |false=>
    rw[if_neg (by simp),List.drop_succ_cons,List.filter_cons,ha,if_neg (by simp)]
    exact ih h2
def pgL(l:List Ky)(bel:Int→Bool)(c:Cu):List Ky:=(l.drop (fromK l c)).filter fun k=>bel k.i
theorem fa{l:List Ky}(hs:Sk l){bel:Int→Bool}{c:Cu}{x:Ky}:x∈pgL l bel c↔x∈l∧bhd c x=true∧bel x.i=true:=by
 unfold pgL
 rw[List.mem_filter,sx hs,List.mem_filter,and_assoc]
theorem gZ{l:List Ky}(hs:Sk l){bel:Int→Bool}{c:Cu}:Sk (pgL l bel c):=(hs.sublist (List.drop_sublist _ _)).sublist List.filter_sublist
theorem wo(c:Cu):nxC c []=c:=rfl
theorem jE{c:Cu}{pre:List Ky}{z x:Ky}:bhd (nxC c (pre++[z])) x=ahd z x:=by rw[oC];show(false||ahd ⟨z.d,z.i,0⟩ x)=_;rw[Bool.false_or];rfl
theorem sy{c:Cu}{sh:List Ky}(h:∀x∈sh,bhd c x=true){x:Ky}(hx:bhd (nxC c sh) x=true):bhd c x=true:=by
 rcases List.eq_nil_or_concat sh with rfl| ⟨pre,z,rfl⟩
 ·exact hx
 ·rw[List.concat_eq_append]at h hx
  rw[jE]at hx
  have hz:=h z (by simp)
  unfold bhd at hz ⊢
  rw[Bool.or_eq_true]at hz ⊢
  exact hz.imp id fun k=>cw k hx
def Tld(T:List Ky)(c:Cu):Prop:=Sk T∧∀x∈T,∀y,bhd c y=true→ahd x y=true
theorem Tld.nil(c:Cu):Tld [] c:=⟨.nil,fun _ h=>by cases h⟩
theorem Tld.page{T:List Ky}{c:Cu}(h:Tld T c){l:List Ky}(hs:Sk l)(bel:Int→Bool)(N:Nat):Tld (T++(pgL l bel c).take N) (nxC c ((pgL l bel c).take N)):=by
 have hbs:Sk ((pgL l bel c).take N):=(gZ hs).sublist (List.take_sublist _ _)
 have hm:∀y∈ (pgL l bel c).take N,bhd c y=true:=fun y hy=>((fa hs).1 (List.mem_of_mem_take hy)).2.1
 generalize (pgL l bel c).take N=sh at*
 refine⟨List.pairwise_append.2 ⟨h.1,hbs,fun a ha b hb=>h.2 a ha b (hm b hb)⟩,fun x hx y hy=>?_⟩
 rcases List.mem_append.1 hx with hx|hx
 ·exact h.2 x hx y (sy hm hy)
 ·rcases List.eq_nil_or_concat sh with rfl| ⟨pre,z,rfl⟩
  ·cases hx
  ·rw[List.concat_eq_append]at hx hy hbs
   rw[jE]at hy
   rcases List.mem_append.1 hx with h1|h1
   ·exact cw ((List.pairwise_append.1 hbs).2.2 x h1 z (by simp)) hy
   ·rw[List.mem_singleton]at h1;subst h1;exact hy
theorem l6{α:Type}[DecidableEq α]:∀{T E:List α},T.Nodup→(∀x∈T,x∈E)→T.length≤E.length
 | [],_,_,_=>Nat.zero_le _
 |x::T,E,hn,hs=>by
  obtain⟨h1,h2⟩:=List.nodup_cons.1 hn
  have:=l6 h2 (E:=E.erase x) fun y hy=>(List.mem_erase_of_ne (fun e=>h1 (by rw[← e];exact hy))).2 (hs y (by simp[hy]))
  have hx:=hs x (by simp)
  rw[List.length_erase_of_mem hx]at this
  have:=List.length_pos_of_mem hx
  simp only[List.length_cons]
  omega
theorem Tld.len{T:List Ky}{c:Cu}(h:Tld T c){E:List (Int×Int)}(hE:∀x∈T,(x.d,x.i)∈E):T.length≤E.length:=by
 have hn:(T.map fun x=>(x.d,x.i)).Nodup:=by
  rw[List.nodup_iff_pairwise_ne,List.pairwise_map]
  refine h.1.imp fun {a b} hab e=>?_
  simp only[Prod.mk.injEq]at e
  rw[cN]at hab
  omega
 have:=l6 hn (E:=E) fun x hx=>by
  obtain⟨y,hy,rfl⟩:=List.mem_map.1 hx
  exact hE y hy
 simpa using this
def PS.Kin(E:List (Int×Int))(s:PS):Prop:=∀id t,lkM s.it id=some t→(t.date,t.id)∈E
theorem PS.Kin.step{E:List (Int×Int)}{s:PS}(h:s.Kin E)(h0:(0,0)∈E)(hI:s.Inv)(e:Ev):(s.step L0 e).Kin ((e.n,e.a)::E):=by
 have hg:∀k,(((lkM s.it k).getD It.z).date,((lkM s.it k).getD It.z).id)∈ (e.n,e.a)::E:=fun k=>by
  cases hl:lkM s.it k with
  |none=>exact List.mem_cons_of_mem _ h0
  |some t=>exact List.mem_cons_of_mem _ (h k t hl)
 unfold PS.step
 split
 ·intro k t hk
  rw[mL]at hk
  split at hk
  ·exact List.mem_cons_of_mem _ (h k t (eV hI.w3.keys hk))
  split at hk
  ·rcases aK hk with⟨rfl,rfl⟩| ⟨_,hk⟩
   ·simp
   ·exact List.mem_cons_of_mem _ (h k t hk)
  split at hk
  ·rcases aK hk with⟨rfl,rfl⟩| ⟨_,hk⟩
   ·exact hg _
   ·exact List.mem_cons_of_mem _ (h k t hk)
  split at hk
  ·rcases aK hk with⟨rfl,rfl⟩| ⟨_,hk⟩
   ·exact hg _
   ·exact List.mem_cons_of_mem _ (h k t hk)
  split at hk
  ·rcases aK hk with⟨rfl,rfl⟩| ⟨_,hk⟩
   ·exact hg _
   ·exact List.mem_cons_of_mem _ (h k t hk)
  ·exact List.mem_cons_of_mem _ (h k t hk)
 ·exact fun k t hk=>List.mem_cons_of_mem _ (h k t hk)
def evK(es:List Ev):List (Int×Int):=es.foldl (fun E e=>(e.n,e.a)::E) [(0,0)]
theorem uR{es:List Ev}:∀{E:List (Int×Int)} {s:PS},s.Kin E→(0,0)∈E→s.Inv→(es.foldl (PS.step L0) s).Kin (es.foldl (fun E e=>(e.n,e.a)::E) E):=by
 induction es with
 |nil=>intro E s h _ _;exact h
 |cons e es ih=>intro E s h h0 hI;exact ih (h.step h0 hI e) (List.mem_cons_of_mem _ h0) (hI.step e)
theorem wq(es:List Ev):(evK es).length=es.length+1:=by
 have:∀E:List (Int×Int),(es.foldl (fun E e=>(e.n,e.a)::E) E).length=E.length+es.length:=by
  induction es with
  |nil=>intro E;rfl
  |cons e es ih=>intro E;rw[List.foldl_cons,ih];simp;omega
 unfold evK
 rw[this];simp;omega
def PS.Tt(s:PS):Prop:=∀k t,lkM s.it k=some t→t.title.length≤256
theorem PS.Tt.z:PS.z.Tt:=fun _ _ h=>by cases h
theorem PS.Tt.getD{s:PS}(h:s.Tt)(k:Int):((lkM s.it k).getD It.z).title.length≤256:=by
 cases hl:lkM s.it k with
 |none=>simp[It.z]
 |some t=>exact h k t hl
theorem PS.Tt.step{s:PS}(h:s.Tt)(hI:s.Inv)(e:Ev):(s.step L0 e).Tt:=by
 unfold PS.step
 split
 ·rename_i hok
  have hr:e.kind=7→e.t.length≤256:=fun k=>by
   unfold PS.ok PS.fits at hok
   rw[Bool.and_eq_true]at hok
   have:=hok.1
   unfold Leaf.ck at this
   simp only[Bool.and_eq_true]at this
   have hq:=this.1
   unfold Leaf.right at hq
   rw[if_neg (by omega),if_neg (by omega),if_neg (by omega),if_neg (by omega),if_neg (by omega),if_pos k]at hq
   simp only[Bool.and_eq_true]at hq
   have hq:=hq.2.2.2.2.1
   have hu:L0.title e.t=textF rightS cleanF e.t 256:=rfl
   rw[hu]at hq
   unfold textF at hq
   rw[Bool.and_eq_true,decide_eq_true_eq]at hq
   omega
  intro k t hk
  rw[mL]at hk
  split at hk
  ·exact h k t (eV hI.w3.keys hk)
  split at hk
  ·rename_i k7
   rcases aK hk with⟨rfl,rfl⟩| ⟨_,hk⟩
   ·exact hr k7
   ·exact h k t hk
  split at hk
  ·rcases aK hk with⟨rfl,rfl⟩| ⟨_,hk⟩
   ·exact h.getD _
   ·exact h k t hk
  split at hk
  ·rcases aK hk with⟨rfl,rfl⟩| ⟨_,hk⟩
   ·exact h.getD _
   ·exact h k t hk
  split at hk
  ·rcases aK hk with⟨rfl,rfl⟩| ⟨_,hk⟩
   ·exact h.getD _
   ·exact h k t hk
  ·exact h k t hk
 ·exact h
theorem PS.Tt.fold{es:List Ev}:∀{s:PS},s.Tt→s.Inv→(es.foldl (PS.step L0) s).Tt:=by
 induction es with
 |nil=>intro s h _;exact h
 |cons e es ih=>intro s h hI;exact ih (h.step hI e) (hI.step e)
theorem xR{es:List Ev}:(es.foldl (PS.step L0) PS.z).Kin (evK es):=uR (fun _ _ h=>by cases h) (by simp) PS.Inv.z
end Go.Av
namespace Go.Av
open Go Go.Proofs Go.RowKit
attribute [local irreducible] WP WPl WPix Sat
def PS.eval(s:PS)(q:Qy)(id:Int):Bool:=match lkM s.it id with
 |none=>false
 |some t=>q.ok&&q.bel s t
def Qy.Fit(q:Qy):Prop:=q.mx≤9223372036854775807∧(q.dep 1≤12→q.sz≤10000)
theorem lr{X:Heap}{n:Nat}{s:PS}(x:ML Int (List Int)×Nat)(b1 b2:Blk)(j:Heap):sa (X++(b1::b2::j)) n s X.length x=so (X++(am x.1 x.2::ar n X.length::j)) n s:=by
 unfold sa twB
 congr 1
 have:=j9 X [am x.1 x.2,ar n X.length] j
 show ov _ _ _=X++([am x.1 x.2,ar n X.length]++j)
 rw[this]
 unfold ov
 have h1:∀c1 c2:Blk,(X++(c1::c2::j)).take X.length=X:=fun c1 c2=>by rw[List.take_left' rfl]
 have h2:∀c1 c2:Blk,(X++(c1::c2::j)).drop (X.length+2)=j:=fun c1 c2=>by rw[List.drop_append,List.drop_of_length_le (by omega),Nat.add_sub_cancel_left];rfl
 show _++_++List.drop (X.length+2) _=List.take _ (X++(am x.1 x.2::ar n X.length::j))++_++List.drop (X.length+2) (X++(am x.1 x.2::ar n X.length::j))
 rw[h1,h1,h2,h2]
variable (G:Nat→Option (List AVal))
theorem sA(s:PS){X:Heap}{n:Nat}(hn:n+9≤X.length):Sat (CT G) 48 [.hp (n+8) 0 0 0] (so X n s) (fun r h'=>r=.hp (X.length+1) 0 0 0∧h'=sa (X++[am [] 0,ar n X.length]) n s X.length ([],0)):=by
 have e:=lr (X:=X) (n:=n) (s:=s) ([],0) (am [] 0) (ar n X.length) []
 rw[e, ← aI hn]
 have hl:=aB (s:=s) hn
 have hp:n+8<(so X n s).length:=by omega
 generalize so X n s=H at*
 rw[← hl]
 refine sb [.tmp 2] (fn:=Tryz.f48) Tryz.func48 ?_
 intro Q hQ
 refine wk trivial ?_
 refine ee hQ trivial ?_
 exact Fin.whole (by simp) (.hp _ _ _ _ (by simp)) ⟨rfl,rfl⟩
theorem sB(s:PS)(hI:s.Inv)(hT:s.Tt)(q:Qy)(hq:q.Fit)(id:Int){X:Heap}{n:Nat}(hn:n+9≤X.length):Sat (CT G) 20 [.hp (n+8) 0 0 0,q.av,.int .i64 id] (so X n s) (fun r h'=>r=.bool (s.eval q id)∧h'=so X n s):=by
 have hIt:=fun(j:Heap)=>jf G s id (by have:=(hI.tags id).2;omega) (H:=X++j) (n:=n) (by simp;omega)
 have hn1:∀j:Heap,n+9≤(X++j).length:=fun j=>by simp;omega
 unfold PS.eval
 cases hl:lkM s.it id with
 |none=>
  rw[hl]at hIt
  simp only[Option.getD_none,Option.isSome_none]at hIt
  obtain⟨qo,qn,qs,qk⟩:=q
  rw[Qy.av_eq]at*
  have F:=F2 hn hn1
  skip
  refine sb [.tmp 6] (fn:=Tryz.f20) Tryz.func20 ?_
  intro Q hQ
  refine wn F ?_
  refine kn F (hIt _) ?_
  refine ea (by decide+kernel) (mh G) ?_
  refine sq F ?_
  refine wn F ?_
  skip
  refine ee hQ F ?_
  exact ak hn (.bool _) ⟨rfl,rfl⟩
 |some t=>
  rw[hl]at hIt
  simp only[Option.getD_some,Option.isSome_some]at hIt
  have hC:=fun h=>fG G q h hq.1 hq.2
  have htt:=hT id t hl
  have htg:=(hI.tags id).2
  rw[hl,Option.getD_some]at htg
  cases hok:q.ok with
  |false=>
   rw[hok]at hC
   clear hq
   obtain⟨qo,qn,qs,qk⟩:=q
   rw[Qy.av_eq]at*
   have F:=F2 hn hn1
   skip
   refine sb [.tmp 6] (fn:=Tryz.f20) Tryz.func20 ?_
   intro Q hQ
   refine wn F ?_
   refine kn F (hIt _) ?_
   refine ea (by decide+kernel) (mh G) ?_
   refine sq F ?_
   refine wn F ?_
   refine aG (hC _) ?_
   try refine sq F ?_
   refine wn F ?_
   skip
   refine ee hQ F ?_
   exact ak hn (.bool _) ⟨rfl,rfl⟩
  |true=>
   have hok':=hok
   unfold Qy.ok at hok'
   simp only[Bool.and_eq_true,decide_eq_true_eq]at hok'
   obtain⟨rQ,hrQ⟩:∃rQ:Blk,rQ=.row 25 4 0 [q.av]:=⟨_,rfl⟩
   obtain⟨rT,hrT⟩:∃rT:Blk,rT=.row 56 9 0 [t.av]:=⟨_,rfl⟩
   have hlX:(X++[rQ,rT]).length=X.length+2:=by simp
   have e:∀y:ML Int (List Int)×Nat,sa ((X++[rQ,rT])++[am [] 0,ar n (X.length+2)]) n s (X.length+2) y=so (X++[rQ,rT,am y.1 y.2,ar n (X.length+2)]) n s:=fun y=>by
    have:=lr (X:=X++[rQ,rT]) (n:=n) (s:=s) y (am [] 0) (ar n (X.length+2)) []
    rw[hlX]at this
    rw[this,List.append_assoc];rfl
   have hB:=oB G s hI t htt (by omega) (n:=n) (a:=X.length+2) (by omega) q (hq.2 hok'.1) hok'.2.2 ((X++[rQ,rT])++[am [] 0,ar n (X.length+2)]) ([],0) (by simp) ⟨.nil,fun _ _ h=>by cases h⟩
   have hO:=sA G s (X:=X++[rQ,rT]) (n:=n) (by omega)
   rw[hlX,e]at hO
   simp only[e]at hB
   subst hrQ
   subst hrT
   rw[hok]at hC
   show Sat _ _ _ _ (fun r h'=>r=.bool (q.bel s t)∧h'=so X n s)
   generalize q.bel s t=b at*
   clear hq hok' e hlX
   obtain⟨qo,qn,qs,qk⟩:=q
   rw[Qy.av_eq]at*
   have F:=F2 hn hn1
   skip
   refine sb [.tmp 6] (fn:=Tryz.f20) Tryz.func20 ?_
   intro Q hQ
   refine wn F ?_
   refine kn F (hIt _) ?_
   refine aM 12 [8,11] [true,true,true,true,true,true,true,true,false,true,true,false] (.one 8 [false,false,false,false,false,false,false,false,false,true,true] (.one 11 [] .fin)) (by decide+kernel) (by kernel_rfl) (by decide+kernel) ?_
   simp only[aT,aU,aL]
   try refine sq F ?_
   repeat' (first| (refine au ?_;try refine sq F ?_)| (refine aw ?_;try refine sq F ?_)| (refine ax ?_ ?_<;>try refine sq F ?_))
   all_goals try refine wn F ?_
   refine aG (hC _) ?_
   try refine sq F ?_
   refine wn F ?_
   repeat' (first| (refine au ?_;try refine sq F ?_)| (refine aw ?_;try refine sq F ?_)| (refine ax ?_ ?_<;>try refine sq F ?_))
   all_goals try refine wn F ?_
   refine gY rfl (by exact zq F) ?_
   simp(disch:=first|omega| (simp only[go_sem, ↓reduceIte,seval];first|done|omega)|fail) only[go_sem, ↓reduceIte,seval,F]
   refine hO.mono ?_
   rintro r h' ⟨rfl,rfl⟩
   have F:=F2 F @az
   refine⟨by simp(disch:=first|omega| (simp only[go_sem, ↓reduceIte,seval];first|done|omega)|fail) only[go_sem, ↓reduceIte,seval,F],?_⟩
   repeat' (first| (refine au ?_;try refine sq F ?_)| (refine aw ?_;try refine sq F ?_)| (refine ax ?_ ?_<;>try refine sq F ?_))
   all_goals try refine wn F ?_
   refine gY rfl (by exact zq F) ?_
   simp(disch:=first|omega| (simp only[go_sem, ↓reduceIte,seval];first|done|omega)|fail) only[go_sem, ↓reduceIte,seval,F]
   refine hB.mono ?_
   rintro r h' ⟨rfl,y,hy,rfl⟩
   repeat' (first| (refine au ?_;try refine sq F ?_)| (refine aw ?_;try refine sq F ?_)| (refine ax ?_ ?_<;>try refine sq F ?_))
   all_goals try refine wn F ?_
   refine ee hQ F ?_
   exact ak hn (.bool _) ⟨rfl,rfl⟩
end Go.Av
namespace Go.Av
open Go Go.Proofs Go.RowKit
attribute [local irreducible] WP WPl WPix Sat
theorem l7{A j:Heap}{p:Nat}(c:Blk)(hp:A.length≤p):ov (A++j) p [c]=A++ov j (p-A.length) [c]:=by
 unfold ov
 rw[List.take_append,List.take_of_length_le hp,List.drop_append,List.drop_of_length_le (by simp only[List.length_singleton];omega),List.nil_append,List.append_assoc,List.append_assoc,List.append_assoc]
 congr 4
 simp only[List.length_singleton]
 omega
def itmK(s:PS)(f:It→Bool):List Ky:=srtK ((s.tell.it.filter f).map It.ky)
def itmF(s:PS)(f:It→Bool):List Int:=(itmK s f).map (·.i)
theorem jF{s:PS}(h:s.Inv)(f:It→Bool):(((s.tell.it.filter f).map It.ky).map (·.i)).Nodup:=by
 rw[List.map_map]
 exact(jA h).sublist (List.filter_sublist.map _)
theorem uS{s:PS}(h:s.Inv){f:It→Bool}{L:List It}(hp:L.Perm (s.tell.it.filter f))(hs:L.Pairwise fun a b=>ahd b.ky a.ky=false):L.map (·.id)=itmF s f:=by
 have hn:(L.map (·.id)).Nodup:=(hp.map (·.id)).nodup_iff.2 ((jA h).sublist (List.filter_sublist.map _))
 have hk:Sk (L.map It.ky):=by
  unfold Sk
  rw[List.pairwise_map]
  have h2:L.Pairwise fun a b=>a.id≠b.id:=by rw[← List.pairwise_map];exact List.nodup_iff_pairwise_ne.1 hn
  refine(hs.and h2).imp fun {a b} ⟨h3,h4⟩=>?_
  exact o3 (a:=b.ky) (b:=a.ky) (fun e=>h4 e.symm) h3
 have e:L.map It.ky=itmK s f:=hk.uniq (fp (jF h f)) fun x=>by
  show x∈L.map It.ky↔x∈srtK ((s.tell.it.filter f).map It.ky)
  rw[iD (jF h f)]
  exact(hp.map It.ky).mem_iff
 unfold itmF
 rw[← e,List.map_map];rfl
section
variable {Y:Heap} {n a p v:Nat} {s:PS} {x:ML Int (List Int)×Nat}
theorem wt{L:List It}(h:Y[p]? =some (rI v L)):sI Y n s a x p v L=sa Y n s a x:=by
 unfold sI
 congr 1
 have hp:=(List.getElem?_eq_some_iff.1 h).1
 apply List.ext_getElem?
 intro q
 rw[aO (by simp only[List.length_singleton];omega)]
 split
 ·rename_i hq
  have:q=p:=by simp only[List.length_singleton]at hq;omega
  subst this
  rw[Nat.sub_self,h];rfl
 ·rfl
theorem wu{j:Heap}{y:ML Int (List Int)×Nat}{R:AVal→Heap→Prop}{r0 r:AVal}(hn:n+9≤a)(hm:a+2≤Y.length)(hz:Frz (sa (Y++j) n s a y) Y.length r0 r)(hR:R r (sa Y n s a y)):Fin (sa Y n s a x) (sa (Y++j) n s a y) R r0:=by
 have e:∀(Y:Heap) (x:ML Int (List Int)×Nat),a+2≤Y.length→sa Y n s a x=ov (so Y n s) a [am x.1 x.2,ar n a]:=fun Y x hm=>cg hn hm
 have hl:(so Y n s).length=Y.length:=aB (by omega)
 have e1:sa (Y++j) n s a y=ov (so Y n s++j) a [am y.1 y.2,ar n a]:=by rw[e (Y++j) y (by simp;omega), ← aI (by omega)]
 rw[e1]at hz ⊢
 rw[e Y y hm]at hR
 rw[e Y x hm]
 exact cn (by rw[hl];exact hm) rfl (fun b hb=>by
  rw[hl]
  simp only[List.mem_cons,List.not_mem_nil,or_false]at hb
  rcases hb with rfl|rfl
  ·exact js _ _ _
  ·exact jt hn hm) (by rw[hl];exact hz) hR
end
variable (G:Nat→Option (List AVal))
section
variable {s:PS} {Y:Heap} {n a:Nat}
theorem nU(hn:n+9≤a)(hm:a+2≤Y.length)(f:It→Bool)(g:FuncId)(cap:List AVal)(t:It)
  (hg:∀x,Gd s x→∀j:Heap,Sat (CT G) g ([]++[t.av]++cap) (sa (Y++j) n s a x) (fun r h'=>r=.bool (f t)∧∃y,Gd s y∧h'=sa (Y++j) n s a y))(x:ML Int (List Int)×Nat)(hx:Gd s x)(j:Heap):
  Sat (CT G) 105 ([]++[t.av]++[.hp Y.length 0 0 0]) (sa (Y++(.row 126 1 0 [.fn (.func g) [] cap]::j)) n s a x) (fun r h'=>r=.bool (!f t)∧∃y,Gd s y∧h'=sa (Y++(.row 126 1 0 [.fn (.func g) [] cap]::j)) n s a y):=by
 have hm1:∀j:Heap,a+2≤(Y++j).length:=fun j=>by simp;omega
 have hc:=hg x hx
 generalize f t=b at*
 have F:=F4 hm hn hm1 @az
 refine sb [.tmp 3] (fn:=Tryz.f105) Tryz.func105 ?_
 intro Q hQ
 refine wk F ?_
 refine(hc _).mono ?_
 rintro r h' ⟨rfl,y,hy,rfl⟩
 try refine sq F ?_
 refine wk F ?_
 refine ee hQ F ?_
 have:=bu (x:=x) (s:=s) (j:=[.row 56 9 0 [t.av]]) (R:=fun r h'=>r=.bool (!b)∧∃y,Gd s y∧h'=sa (Y++(.row 126 1 0 [.fn (.func g) [] cap]::j)) n s a y) (r:=.bool (!b)) hn (hm1 (.row 126 1 0 [.fn (.func g) [] cap]::j)) (fun N=>.bool _) (y:=y) ⟨rfl,y,hy,rfl⟩
 rwa [List.append_assoc]at this
theorem qe(hI:s.Inv)(hn:n+9≤a)(hm:a+2≤Y.length)(x:ML Int (List Int)×Nat):Sat (CT G) 34 [.hp (n+8) 0 0 0] (sa Y n s a x)
  (fun r h'=>∃(j:Heap) (p v:Nat),r=s.tellH p v∧Y.length≤p∧p+1≤(Y++j).length∧h'=sI (Y++j) n s a x p v s.tell.it):=by
 have hl:(ov Y a [am x.1 x.2,ar n a]).length=Y.length:=aH hm
 refine(nq G s hI.toOk (H:=ov Y a [am x.1 x.2,ar n a]) (n:=n) (by rw[hl];omega)).mono ?_
 rintro r h' ⟨j,p,v,rfl,h1,h2,rfl⟩
 rw[hl]at h1
 have h3:=bo h2
 have h4:=ca h2
 rw[List.getElem?_append_right (by rw[hl];exact h1),hl]at h4
 rw[List.length_append,hl]at h3
 refine⟨j,p,v,rfl,h1,by rw[List.length_append];omega,?_⟩
 rw[wt (by rw[List.getElem?_append_right h1];exact h4)]
 show so (ov Y a _++j) n s=so (ov (Y++j) a _) n s
 rw[dY hm]
theorem qf(hI:s.Inv)(hn:n+9≤a)(hm:a+2≤Y.length)(f:It→Bool)(g:FuncId)(cap:List AVal)
  (hg:∀t∈s.tell.it,∀x,Gd s x→∀j:Heap,Sat (CT G) g ([]++[t.av]++cap) (sa (Y++j) n s a x) (fun r h'=>r=.bool (f t)∧∃y,Gd s y∧h'=sa (Y++j) n s a y))(x:ML Int (List Int)×Nat)(hx:Gd s x):
  Sat (CT G) 57 [.hp (n+8) 0 0 0,.fn (.func g) [] cap] (sa Y n s a x) (fun r h'=>r=.sl 1 ((itmF s f).map iA)∧∃y,Gd s y∧h'=sa Y n s a y):=by
 have hil:s.tell.it.length≤100000:=by have:=eh (z:=It.z) s.it;have:=hI.l3;show(valsM It.z s.it).length≤_;omega
 have hm1:∀j:Heap,a+2≤(Y++j).length:=fun j=>by simp;omega
 have hT:=qe G (s:=s) (Y:=Y++[.row 126 1 0 [.fn (.func g) [] cap]]) hI hn (hm1 _) x
 have hitl:(valsM It.z s.it).length=s.tell.it.length:=rfl
 have F:=F3 hm hn hm1
 refine sb [.tmp 4] (fn:=Tryz.f57) Tryz.func57 ?_
 intro Q hQ
 refine wk F ?_
 refine hT.mono ?_
 rintro r h' ⟨j,p,v,rfl,hp1,hp2,rfl⟩
 have hpl:Y.length+1≤p:=by simpa using hp1
 rw[List.append_assoc]at hp2 ⊢
 change p+1≤(Y++(.row 126 1 0 [.fn (.func g) [] cap]::j)).length at hp2
 have hD:=uI G (s:=s) (Y:=Y++(.row 126 1 0 [.fn (.func g) [] cap]::j)) (v:=v) hn (by omega) hp2 (fun t=> !f t) 105 [.hp Y.length 0 0 0] s.tell.it (by omega) (fun t ht x hx j2 L=>by
  have e:∀y,sI ((Y++(.row 126 1 0 [.fn (.func g) [] cap]::j))++j2) n s a y p v L=sa (Y++(.row 126 1 0 [.fn (.func g) [] cap]::ov (j++j2) (p-(Y.length+1)) [rI v L])) n s a y:=fun y=>by
   unfold sI
   have:=l7 (A:=Y++[.row 126 1 0 [.fn (.func g) [] cap]]) (j:=j++j2) (p:=p) (rI v L) (by simpa using hpl)
   simp only[List.append_assoc,List.cons_append,List.nil_append,List.length_append,List.length_singleton]at this ⊢
   rw[this]
  simp only[e]
  exact nU G hn hm f g cap t (hg t ht) x hx _) x hx
 simp only[Bool.not_not]at hD
 unfold PS.tellH
 rw[hitl]
 try simp only[List.cons_append,List.nil_append]
 generalize hZ:Y++(Blk.row 126 1 0 [.fn (.func g) [] cap]::j)=Z at hp2 hD ⊢
 try refine sq F ?_
 refine wk F ?_
 refine hD.mono ?_
 rintro r h' ⟨rfl,y,hy,rfl⟩
 have hap:a+2≤p:=by omega
 have hfl:(s.tell.it.filter f).length≤100000:=Nat.le_trans (List.length_filter_le _ _) hil
 have hS:=s7 G (s.tell.it.filter f) hfl (sI Z n s a y p v (s.tell.it.filter f)) p v (kg hn hap hp2)
 try refine sq F ?_
 refine wk F ?_
 refine hS.mono ?_
 rintro r h' ⟨rfl,L,hLp,hLs,rfl⟩
 have hLl:L.length≤100000:=by rw[hLp.length_eq];exact hfl
 rw[kh hn hap hp2, ← hLp.length_eq]
 have hids:=uS hI hLp hLs
 have hgr:∀(b:Blk) (j:Heap) (u:Nat),getRow (sI (Z++(b::j)) n s a y p v L) Z.length u=getRow [b] 0 u:=fun b j u=>by
  rw[mG hn hap (by simp;omega) u (by omega) (by omega),aF _ rfl];rfl
 have hsr:∀(b b':Blk) (j:Heap),(sI (Z++(b::j)) n s a y p v L).set Z.length b'=sI (Z++(b'::j)) n s a y p v L:=fun b b' j=>by
  rw[mH hn hap (by simp;omega) b' (by omega) (by omega),bI _ rfl];rfl
 have hgi:∀(b c:Blk) (j:Heap) (u:Nat),getRow (sI (Z++(b::(j++[c]))) n s a y p v L) (Z.length+(j.length+1)) u=getRow [c] 0 u:=fun b c j u=>by
  rw[mG hn hap (by simp;omega) u (by omega) (by omega),aZ _ rfl,show b::(j++[c])=(b::j)++[c]from rfl,aF _ (by simp)]
 have hsi:∀(b c c':Blk) (j:Heap),(sI (Z++(b::(j++[c]))) n s a y p v L).set (Z.length+(j.length+1)) c'=sI (Z++(b::(j++[c']))) n s a y p v L:=fun b c c' j=>by
  rw[mH hn hap (by simp;omega) c' (by omega) (by omega),bO _ rfl,show b::(j++[c])=(b::j)++[c]from rfl,bI _ (by simp)];rfl
 have hpz:∀j:Heap,p+1≤(Z++j).length:=fun j=>by simp;omega
 have F:=F4 F hap hp2 hpz
 try refine sq F ?_
 refine wk F ?_
 refine lm (fun nL tL hL=>∃(k w:Nat) (acc:List Int) (j2:Heap),L.length-k=nL∧sI (Z++(.row 3 1 w (acc.map iA)::j2)) n s a y p v L=hL∧tL 6=.hs Z.length w 0 acc.length true∧tL 18=.int .i64 k∧k≤L.length∧acc.length=k∧acc++(L.drop k).map (·.id)=L.map (·.id)) ((fun(k w:Nat) (acc:List Int) (j2:Heap)=>(L.length-k:Nat)) (0) (0) ([]) ([])) ?_ ?_
 ·refine⟨_,_,Weak.virt 6 3 1 (by simp) (by omega) (by exact zq F),⟨0,0,[],[],rfl,by rw[rY hn hap hp2];rfl,?_,?_,by omega,rfl,by simp⟩⟩
  all_goals first|exact zq F|rfl|omega|trivial|skip
 rintro _ s2 h' ⟨k,w,acc,j2,rfl,rfl,e6,e18,hk,hac,hq⟩ K2 hK2
 simp only[ai,aj,Nat.reduceEqDiff, ↓reduceIte]at e6 e18
 have F:=F3 F e6 e18
 refine wk F ?_
 have hLm:(L.map It.av).length=L.length:=List.length_map ..
 refine cq F (fun c1=>?_) (fun c1=>?_)<;>(try exact c1.elim)<;>(refine wk F ?_)
 ·have c2:k<L.length:=by omega
  obtain⟨t,ht,htm⟩:=ae c2
  rw[ap ht,List.map_cons]at hq
  have F:=F8 F ht c2 hgr hsr hgi hsi hLm
  try refine sq F ?_
  refine wk F ?_
  refine aq F ?_
  try refine sq F ?_
  refine wk F ?_
  refine hK2 _ _ _ (Wkn.refl ⟨k+1,w+1,acc++[t.id],j2++[.row 56 9 0 [t.av]],rfl,by simp[iA,It.av],?_,?_,by omega,by simp;omega,by rw[← hq];simp⟩) (by omega)
  all_goals first|exact zq F|rfl|omega|trivial|skip
 ·rw[aD c1,List.map_nil,List.append_nil,hids]at hq
  refine ee hQ F ?_
  rw[← hq]
  have hz:Frz (sI (Z++(.row 3 1 w (acc.map iA)::j2)) n s a y p v L) Y.length (.hs Z.length w 0 acc.length true) (.sl 1 (acc.map iA)):=by
   refine Frz.data (by rw[← hZ];simp) (e:=3) (by rw[hgr];simp[getRow]) (by simp) (fun r hr=>?_) (fun r hr=>?_)
   ·obtain⟨x,_,rfl⟩:=List.mem_map.1 hr;exact .int _ _
   ·obtain⟨x,_,rfl⟩:=List.mem_map.1 hr;intro c hc;simp[AVal.cells,iA]at hc;subst hc;rfl
  have e:sI (Z++(.row 3 1 w (acc.map iA)::j2)) n s a y p v L=sa (Y++ov (.row 126 1 0 [.fn (.func g) [] cap]::(j++(.row 3 1 w (acc.map iA)::j2))) (p-Y.length) [rI v L]) n s a y:=by
   unfold sI
   rw[← hZ,List.append_assoc]
   rw[show(Blk.row 126 1 0 [.fn (.func g) [] cap]::j)++(.row 3 1 w (acc.map iA)::j2)=.row 126 1 0 [.fn (.func g) [] cap]::(j++(.row 3 1 w (acc.map iA)::j2))from rfl,l7 _ (by omega)]
  rw[e]at hz ⊢
  exact wu hn hm hz ⟨rfl,y,hy,rfl⟩
end
end Go.Av
namespace Go.Av
open Go Go.Proofs Go.RowKit
attribute [local irreducible] WP WPl WPix Sat
variable (G:Nat→Option (List AVal))
def wi(X:Heap)(n:Nat)(s:PS)(q:Qy)(y:ML Int (List Int)×Nat)(j:Heap):Heap:=so (X++(.row 25 4 0 [q.av]::am y.1 y.2::ar n (X.length+1):: .row 110 1 0 [.hp (X.length+2) 0 0 0]::j)) n s
def yi(X:Heap)(n:Nat)(q:Qy)(j:Heap):Heap:=X++(.row 25 4 0 [q.av]::am [] 0::ar n (X.length+1):: .row 110 1 0 [.hp (X.length+2) 0 0 0]::j)
theorem va(X:Heap)(n:Nat)(s:PS)(q:Qy)(y:ML Int (List Int)×Nat)(j:Heap):sa (yi X n q j) n s (X.length+1) y=wi X n s q y j:=by
 have:=lr (X:=X++[.row 25 4 0 [q.av]]) (n:=n) (s:=s) y (am [] 0) (ar n (X.length+1)) (.row 110 1 0 [.hp (X.length+2) 0 0 0]::j)
 rw[List.length_append,List.length_singleton]at this
 unfold yi wi
 rw[List.append_assoc,List.append_assoc]at this
 exact this
theorem sC(X:Heap)(n:Nat)(q:Qy)(j k:Heap):yi X n q j++k=yi X n q (j++k):=by
 unfold yi;rw[List.append_assoc];rfl
theorem mS(X:Heap)(n:Nat)(q:Qy)(j:Heap):(yi X n q j).length=X.length+4+j.length:=by
 unfold yi;simp;omega
theorem qg(s:PS)(hI:s.Inv)(q:Qy)(hqz:q.sz≤10000)(hqa:q.all pnF=true){X:Heap}{n:Nat}(hn:n+9≤X.length)(t:It)(htt:t.title.length≤256)(htg:t.tags.length≤1048576)(x:ML Int (List Int)×Nat)(hx:Gd s x)(j:Heap):
  Sat (CT G) 58 ([]++[t.av]++[.hp (X.length+3) 0 0 0,.hp X.length 0 0 0]) (sa (yi X n q j) n s (X.length+1) x) (fun r h'=>r=.bool (q.bel s t)∧∃y,Gd s y∧h'=sa (yi X n q j) n s (X.length+1) y):=by
 have hB:=oB G s hI t htt htg (n:=n) (a:=X.length+1) (by omega) q hqz hqa (yi X n q (j++[.row 56 9 0 [t.av]])) x (by rw[mS];omega) hx
 have hF:=fun y (hy:Gd s y)=>bu (x:=x) (y:=y) (s:=s) (n:=n) (a:=X.length+1) (Y:=yi X n q j) (j:=[.row 56 9 0 [t.av]]) (R:=fun r h'=>r=.bool (q.bel s t)∧∃y,Gd s y∧h'=sa (yi X n q j) n s (X.length+1) y) (r:=.bool (q.bel s t)) (by omega) (by rw[mS];omega) (fun N=>.bool _) ⟨rfl,y,hy,rfl⟩
 simp only[sC,va]at hB hF ⊢
 generalize q.bel s t=b at*
 unfold wi at hB hF ⊢
 clear hqz hqa
 obtain⟨qo,qn,qs,qk⟩:=q
 rw[Qy.av_eq]at*
 have hn1:∀j:Heap,n+9≤(X++j).length:=fun j=>by simp;omega
 have F:=F3 hn hn1 @az
 refine sb [.tmp 4] (fn:=Tryz.f58) Tryz.func58 ?_
 intro Q hQ
 refine wk F ?_
 refine hB.mono ?_
 rintro r h' ⟨rfl,y,hy,rfl⟩
 try refine sq F ?_
 refine wk F ?_
 refine ee hQ F ?_
 exact hF y hy
theorem qh(s:PS)(hI:s.Inv)(hT:s.Tt)(q:Qy)(hq:q.Fit){X:Heap}{n:Nat}(hn:n+9≤X.length):Sat (CT G) 23 [.hp (n+8) 0 0 0,q.av] (so X n s) (fun r h'=>r=.tup (if q.ok then [.sl 1 ((itmF s fun t=>q.bel s t).map iA),.int .i64 0]else [.nil (.slice none 0 0),.int .i64 250])∧h'=so X n s):=by
 have hC:=fun h=>fG G q h hq.1 hq.2
 have hn1:∀j:Heap,n+9≤(X++j).length:=fun j=>by simp;omega
 cases hok:q.ok with
 |false=>
  rw[hok]at hC
  clear hq
  obtain⟨qo,qn,qs,qk⟩:=q
  rw[Qy.av_eq]at*
  have F:=F2 hn hn1
  refine sb [.tmp 4,.tmp 5] (fn:=Tryz.f23) Tryz.func23 ?_
  intro Q hQ
  refine wk F ?_
  refine(hC _).mono ?_
  rintro r h' ⟨rfl,rfl⟩
  try refine sq F ?_
  refine wk F ?_
  refine ee hQ F ?_
  exact ak hn (.tup _ fun y hy=>by simp at hy;rcases hy with rfl|rfl<;>constructor) ⟨rfl,rfl⟩
 |true=>
  have hok':=hok
  unfold Qy.ok at hok'
  simp only[Bool.and_eq_true,decide_eq_true_eq]at hok'
  obtain⟨rQ,hrQ⟩:∃rQ:Blk,rQ=.row 25 4 0 [q.av]:=⟨_,rfl⟩
  have hlX:(X++[rQ]).length=X.length+1:=by simp
  have hO:=sA G s (X:=X++[rQ]) (n:=n) (by omega)
  have hP:=qf G (s:=s) (Y:=yi X n q []) (n:=n) (a:=X.length+1) hI (by omega) (by rw[mS];omega) (fun t=>q.bel s t) 58 [.hp (X.length+3) 0 0 0,.hp X.length 0 0 0] (fun t ht x hx j=>by
   obtain⟨id,hid⟩:∃id,lkM s.it id=some t:=s8 hI ((mM hI).mem_iff.1 ht)
   have htg:=(hI.tags id).2
   rw[hid,Option.getD_some]at htg
   have:=qg G s hI q (hq.2 hok'.1) hok'.2.2 hn t (hT id t hid) (by omega) x hx j
   rw[sC]
   exact this) ([],0) ⟨.nil,fun _ _ h=>by cases h⟩
  simp only[va]at hP
  unfold wi at hP
  rw[hlX]at hO
  have e:sa (X++[rQ]++[am [] 0,ar n (X.length+1)]) n s (X.length+1) ([],0)=so (X++[rQ,am [] 0,ar n (X.length+1)]) n s:=by
   have:=lr (X:=X++[rQ]) (n:=n) (s:=s) ([],0) (am [] 0) (ar n (X.length+1)) []
   rw[hlX]at this
   rw[this,List.append_assoc];rfl
  rw[e]at hO
  subst hrQ
  rw[hok]at hC
  clear hok' e hlX hq hok
  generalize (itmF s fun t=>q.bel s t)=L at*
  obtain⟨qo,qn,qs,qk⟩:=q
  rw[Qy.av_eq]at*
  have F:=F2 hn hn1
  refine sb [.tmp 4,.tmp 5] (fn:=Tryz.f23) Tryz.func23 ?_
  intro Q hQ
  refine wk F ?_
  refine(hC _).mono ?_
  rintro r h' ⟨rfl,rfl⟩
  try refine sq F ?_
  refine wk F ?_
  refine hO.mono ?_
  rintro r h' ⟨rfl,rfl⟩
  have F:=F4 F hn hn1 @az
  try refine sq F ?_
  refine wk F ?_
  refine hP.mono ?_
  rintro r h' ⟨rfl,y,hy,rfl⟩
  try refine sq F ?_
  refine wk F ?_
  refine ee hQ F ?_
  exact ak hn (.tup _ fun y hy=>by
   simp only[List.mem_cons,List.not_mem_nil,or_false]at hy
   rcases hy with rfl|rfl
   ·exact .sl _ _ fun r hr=>by obtain⟨x,_,rfl⟩:=List.mem_map.1 hr;exact .int _ _
   ·exact .int _ _) ⟨rfl,rfl⟩
end Go.Av
namespace Go.Av
open Go Go.Proofs Go.RowKit
attribute [local irreducible] WP WPl WPix Sat
def lastI(bel:Int→Bool)(l:List Ky):Int:=match (l.filter fun k=>bel k.i).getLast? with
 |some k=>k.i
 |none=>0
def headI(bel:Int→Bool)(l:List Ky):Int:=match (l.filter fun k=>bel k.i).head? with
 |some k=>k.i
 |none=>0
def arF(bel:Int→Bool)(l:List Ky)(item:Int):Int×Int:=match l.findIdx? (fun k=>decide (k.i=item))with
 |some i=>(lastI bel (l.take i),headI bel (l.drop (i+1)))
 |none=>(0,0)
theorem l8{bel:Int→Bool}{l:List Ky}{y:Ky}(h:bel y.i=true):lastI bel (l++[y])=y.i:=by
 unfold lastI;rw[List.filter_append,List.filter_cons,if_pos h,List.filter_nil,List.getLast?_concat]
theorem jG{bel:Int→Bool}{l:List Ky}{y:Ky}(h:bel y.i=false):lastI bel (l++[y])=lastI bel l:=by
 unfold lastI;rw[List.filter_append,List.filter_cons,if_neg (by simp[h]),List.filter_nil,List.append_nil]
theorem jH{bel:Int→Bool}{l:List Ky}{y:Ky}(h:bel y.i=true):headI bel (y::l)=y.i:=by
 unfold headI;rw[List.filter_cons,if_pos h];rfl
theorem jI{bel:Int→Bool}{l:List Ky}{y:Ky}(h:bel y.i=false):headI bel (y::l)=headI bel l:=by
 unfold headI;rw[List.filter_cons,if_neg (by simp[h])]
variable (G:Nat→Option (List AVal))
section
variable {l:List Ky} {H:Heap} {n v:Nat}
theorem qi(hl:l.length≤1048576)(bel:Int→Bool)(sp:AVal)(item op num:Int)(s:Bs)(ks:List AVal)(hn:n+2≤H.length)
  (hC:∀j,Sat (CT G) 37 [qA op num s ks] (vo (H++j) n v l) (fun r h'=>r=.int .i64 0∧h'=vo (H++j) n v l))
  (hE:∀j id,Sat (CT G) 20 [sp,qA op num s ks,.int .i64 id] (vo (H++j) n v l) (fun r h'=>r=.bool (bel id)∧h'=vo (H++j) n v l)):
  Sat (CT G) 14 [.hp n 0 0 0,sp,qA op num s ks,.int .i64 item] (vo H n v l)
   (fun r h'=>r=.tup [.int .i64 (arF bel l item).1,.int .i64 (arF bel l item).2]∧h'=vo H n v l):=by
 have ct:∀N (a b:Int),Clo N (.tup [.int .i64 a,.int .i64 b]):=fun N a b=>.tup _ (fun x hx=>by
  simp only[List.mem_cons,List.not_mem_nil,or_false]at hx
  rcases hx with rfl|rfl<;>exact .int _ _)
 have dt:∀i:Decidable True, @decide True i=true:=fun i=>by simp
 have df:∀i:Decidable False, @decide False i=false:=fun i=>by simp
 have hn1:∀j:Heap,n+2≤(H++j).length:=fun j=>by simp;omega
 have hA:=o6 G (v:=v) (l:=l) hl item (hn1 [.row 25 4 0 [qA op num s ks]])
 have hCh:=hC [.row 25 4 0 [qA op num s ks]]
 unfold ixK at hA
 unfold arF
 cases hx:l.findIdx? (fun k=>decide (k.i=item))with
 |none=>
  rw[hx]at hA
  have F:=dt
  refine sb [.tmp 8,.tmp 9] (fn:=Tryz.f14) Tryz.func14 ?_
  intro Q hQ
  refine wk F ?_
  refine kq F (hA) ?_
  refine ee hQ F ?_
  exact bp hn (ct _ _ _) ⟨rfl,rfl⟩
 |some i=>
  rw[hx]at hA
  obtain⟨hi,_⟩:=List.findIdx?_eq_some_iff_getElem.1 hx
  have xw1:IntKind.i64.wrap ((i:Int)-1)=(i:Int)-1:=by rw[IntKind.wrap_i64];omega
  have xw2:IntKind.i64.wrap ((i:Int)+1)=((i+1:Nat):Int):=by rw[IntKind.wrap_i64];omega
  have g0:decide ((i:Int)<0)=false:=by simp
  have F:=F7 xw1 xw2 g0 hn1 hn dt df
  by_cases hlt:i+1<l.length
  ·have hsl:=jD (P:=Tryz.prog) (T:=80) (k:=.i64) (len:=l.length) (i:=i+1) (by simp only[go_sem];try rfl) (bJ (l:=l) (v:=v) (hn1 [.row 25 4 0 [qA op num s ks]])) (by simp only[go_sem];try rfl) (.inl hlt)
   have F:=F3 F hlt hsl
   refine sb [.tmp 8,.tmp 9] (fn:=Tryz.f14) Tryz.func14 ?_
   intro Q hQ
   refine wk F ?_
   refine kq F (hA) ?_
   refine kq F (hCh) ?_
   refine wk F ?_
   refine lm (fun nL tL hL=>∃(m:Nat),m=nL∧vo (H++[.row 25 4 0 [qA op num s ks]]) n v l=hL∧tL 11=.int .i64 ((m:Int)-1)∧tL 8=.int .i64 0∧m≤i∧lastI bel (l.take i)=lastI bel (l.take m)) ((fun(m:Nat)=>(m:Nat)) (i)) ?_ ?_
   ·refine Wkn.refl ⟨i,rfl,aA,?_,?_,Nat.le_refl i,rfl⟩
    all_goals first|exact zq F|rfl|omega|trivial|skip
   rintro _ s2 h' ⟨m,rfl,rfl,e11,e8,hm,hz⟩ K2 hK2
   simp only[ai,aj,Nat.reduceEqDiff, ↓reduceIte]at e11 e8
   have F:=F3 F e11 e8
   refine wk F ?_
   refine cq F (fun c1=>?_) (fun c1=>?_)<;>(try exact c1.elim)<;>(refine wk F ?_)
   ·have c2:m-1<l.length:=by omega
    have em:(m:Int)-1=((m-1:Nat):Int):=by omega
    have em2:IntKind.i64.wrap (((m-1:Nat):Int)-1)=((m-1:Nat):Int)-1:=by rw[IntKind.wrap_i64];omega
    obtain⟨y1,hy1,hym1⟩:=ae c2
    have et:l.take m=l.take (m-1)++[y1]:=by
     have h:=List.take_add_one (l:=l) (i:=m-1)
     rw[show m-1+1=m from by omega,hy1]at h
     exact h
    rw[et]at hz
    have hE2:=hE [.row 25 4 0 [qA op num s ks]] y1.i
    cases hb0:bel y1.i with
    |true=>
     rw[hb0]at hE2
     rw[l8 hb0]at hz
     have F:=F5 F em em2 hy1 c2
     try refine sq F ?_
     refine wk F ?_
     refine aG (hE2) ?_
     try refine sq F ?_
     refine wk F ?_
     refine lm (fun nL tL hL=>∃(k:Nat) (j:Heap),l.length-(i+1)-k=nL∧vo (H++(.row 25 4 0 [qA op num s ks]::j)) n v l=hL∧tL 57=.int .i64 k∧tL 8=.int .i64 y1.i∧k≤l.length-(i+1)∧headI bel (l.drop (i+1))=headI bel (l.drop (i+1+k))) ((fun(k:Nat) (j:Heap)=>(l.length-(i+1)-k:Nat)) (0) ([])) ?_ ?_
     ·refine Wkn.refl ⟨0,[],rfl,aA,?_,?_,by omega,rfl⟩
      all_goals first|exact zq F|rfl|omega|trivial|skip
     rintro _ s3 h' ⟨k,j,rfl,rfl,e57,e8,hk,hz2⟩ K3 hK3
     simp only[ai,aj,Nat.reduceEqDiff, ↓reduceIte]at e57 e8
     have F:=F3 F e57 e8
     refine wk F ?_
     refine cq F (fun d1=>?_) (fun d1=>?_)<;>(try exact d1.elim)<;>(refine wk F ?_)
     ·have d2:i+1+k<l.length:=by omega
      obtain⟨y,hy,hym⟩:=ae d2
      have d3:k<l.length-(i+1):=by omega
      have hyi:l[i+(1+k)]? =some y:=by rw[← hy];congr 1;omega
      have hE3:=hE (.row 25 4 0 [qA op num s ks]::j++[.row 92 3 0 [y.av]]) y.i
      rw[Ky.av_eq]at hE3
      rw[ap hy]at hz2
      cases hb:bel y.i with
      |true=>
       rw[hb]at hE3
       rw[jH hb]at hz2
       have F:=F5 F hy hyi d3 @az
       try refine sq F ?_
       refine wk F ?_
       refine kq F (hE3) ?_
       refine ea (by decide+kernel) (mh G) ?_
       refine sq F ?_
       refine wk F ?_
       refine ee hQ F ?_
       exact bp hn (ct _ _ _) ⟨by rw[show lastI bel (l.take i)=y1.i from hz,hz2],rfl⟩
      |false=>
       rw[hb]at hE3
       rw[jI hb]at hz2
       have F:=F5 F hy hyi d3 @az
       try refine sq F ?_
       refine wk F ?_
       refine kq F (hE3) ?_
       refine hK3 _ _ _ (Wkn.refl ⟨k+1,j++[.row 92 3 0 [y.av]],rfl,by simp[Ky.av],?_,?_,by omega,hz2⟩) (by omega)
       all_goals first|exact zq F|rfl|omega|trivial|skip
     ·rw[List.drop_of_length_le (show l.length≤i+1+k by omega)]at hz2
      refine ee hQ F ?_
      exact bp hn (ct _ _ _) ⟨by rw[show lastI bel (l.take i)=y1.i from hz,hz2];rfl,rfl⟩
    |false=>
     rw[hb0]at hE2
     rw[jG hb0]at hz
     have F:=F5 F em em2 hy1 c2
     try refine sq F ?_
     refine wk F ?_
     refine aG (hE2) ?_
     try refine sq F ?_
     refine wk F ?_
     refine hK2 _ _ _ (Wkn.refl ⟨m-1,rfl,aA,?_,?_,by omega,hz⟩) (by omega)
     all_goals first|exact zq F|rfl|omega|trivial|skip
   ·have hz0:lastI bel (l.take i)=0:=by
     rw[hz,show m=0 from by omega];rfl
    refine lm (fun nL tL hL=>∃(k:Nat) (j:Heap),l.length-(i+1)-k=nL∧vo (H++(.row 25 4 0 [qA op num s ks]::j)) n v l=hL∧tL 57=.int .i64 k∧tL 8=.int .i64 0∧k≤l.length-(i+1)∧headI bel (l.drop (i+1))=headI bel (l.drop (i+1+k))) ((fun(k:Nat) (j:Heap)=>(l.length-(i+1)-k:Nat)) (0) ([])) ?_ ?_
    ·refine Wkn.refl ⟨0,[],rfl,aA,?_,?_,by omega,rfl⟩
     all_goals first|exact zq F|rfl|omega|trivial|skip
    rintro _ s3 h' ⟨k,j,rfl,rfl,e57,e8,hk,hz2⟩ K3 hK3
    simp only[ai,aj,Nat.reduceEqDiff, ↓reduceIte]at e57 e8
    have F:=F3 F e57 e8
    refine wk F ?_
    refine cq F (fun d1=>?_) (fun d1=>?_)<;>(try exact d1.elim)<;>(refine wk F ?_)
    ·have d2:i+1+k<l.length:=by omega
     obtain⟨y,hy,hym⟩:=ae d2
     have d3:k<l.length-(i+1):=by omega
     have hyi:l[i+(1+k)]? =some y:=by rw[← hy];congr 1;omega
     have hE3:=hE (.row 25 4 0 [qA op num s ks]::j++[.row 92 3 0 [y.av]]) y.i
     rw[Ky.av_eq]at hE3
     rw[ap hy]at hz2
     cases hb:bel y.i with
     |true=>
      rw[hb]at hE3
      rw[jH hb]at hz2
      have F:=F5 F hy hyi d3 @az
      try refine sq F ?_
      refine wk F ?_
      refine kq F (hE3) ?_
      refine ea (by decide+kernel) (mh G) ?_
      refine sq F ?_
      refine wk F ?_
      refine ee hQ F ?_
      exact bp hn (ct _ _ _) ⟨by rw[show lastI bel (l.take i)=0 from hz0,hz2],rfl⟩
     |false=>
      rw[hb]at hE3
      rw[jI hb]at hz2
      have F:=F5 F hy hyi d3 @az
      try refine sq F ?_
      refine wk F ?_
      refine kq F (hE3) ?_
      refine hK3 _ _ _ (Wkn.refl ⟨k+1,j++[.row 92 3 0 [y.av]],rfl,by simp[Ky.av],?_,?_,by omega,hz2⟩) (by omega)
      all_goals first|exact zq F|rfl|omega|trivial|skip
    ·rw[List.drop_of_length_le (show l.length≤i+1+k by omega)]at hz2
     refine ee hQ F ?_
     exact bp hn (ct _ _ _) ⟨by rw[show lastI bel (l.take i)=0 from hz0,hz2];rfl,rfl⟩
  ·have hle:i+1=l.length:=by omega
   have hsl:=j8 (P:=Tryz.prog) (T:=80) (k:=.i64) (len:=l.length) (i:=i+1) (by simp only[go_sem];try rfl) (bJ (l:=l) (v:=v) (hn1 [.row 25 4 0 [qA op num s ks]])) (by simp only[go_sem];try rfl) hle (by omega)
   have F:=F2 F hsl
   refine sb [.tmp 8,.tmp 9] (fn:=Tryz.f14) Tryz.func14 ?_
   intro Q hQ
   refine wk F ?_
   refine kq F (hA) ?_
   refine kq F (hCh) ?_
   refine wk F ?_
   refine lm (fun nL tL hL=>∃(m:Nat),m=nL∧vo (H++[.row 25 4 0 [qA op num s ks]]) n v l=hL∧tL 11=.int .i64 ((m:Int)-1)∧tL 8=.int .i64 0∧m≤i∧lastI bel (l.take i)=lastI bel (l.take m)) ((fun(m:Nat)=>(m:Nat)) (i)) ?_ ?_
   ·refine Wkn.refl ⟨i,rfl,aA,?_,?_,Nat.le_refl i,rfl⟩
    all_goals first|exact zq F|rfl|omega|trivial|skip
   rintro _ s2 h' ⟨m,rfl,rfl,e11,e8,hm,hz⟩ K2 hK2
   simp only[ai,aj,Nat.reduceEqDiff, ↓reduceIte]at e11 e8
   have F:=F3 F e11 e8
   refine wk F ?_
   refine cq F (fun c1=>?_) (fun c1=>?_)<;>(try exact c1.elim)<;>(refine wk F ?_)
   ·have c2:m-1<l.length:=by omega
    have em:(m:Int)-1=((m-1:Nat):Int):=by omega
    have em2:IntKind.i64.wrap (((m-1:Nat):Int)-1)=((m-1:Nat):Int)-1:=by rw[IntKind.wrap_i64];omega
    obtain⟨y1,hy1,hym1⟩:=ae c2
    have et:l.take m=l.take (m-1)++[y1]:=by
     have h:=List.take_add_one (l:=l) (i:=m-1)
     rw[show m-1+1=m from by omega,hy1]at h
     exact h
    rw[et]at hz
    have hE2:=hE [.row 25 4 0 [qA op num s ks]] y1.i
    cases hb0:bel y1.i with
    |true=>
     rw[hb0]at hE2
     rw[l8 hb0]at hz
     have F:=F5 F em em2 hy1 c2
     try refine sq F ?_
     refine wk F ?_
     refine aG (hE2) ?_
     try refine sq F ?_
     refine wk F ?_
     refine lm (fun nL tL hL=>∃(k:Nat),0-k=nL∧vo (H++[.row 25 4 0 [qA op num s ks]]) n v l=hL∧tL 57=.int .i64 k∧tL 8=.int .i64 y1.i∧k≤0) ((fun(k:Nat)=>(0-k:Nat)) (0)) ?_ ?_
     ·refine Wkn.refl ⟨0,rfl,aA,?_,?_,Nat.le_refl 0⟩
      all_goals first|exact zq F|rfl|omega|trivial|skip
     rintro _ s3 h' ⟨k,rfl,rfl,e57,e8,hk⟩ K3 hK3
     simp only[ai,aj,Nat.reduceEqDiff, ↓reduceIte]at e57 e8
     have F:=F3 F e57 e8
     refine wk F ?_
     refine cq F (fun d1=>?_) (fun d1=>?_)<;>(try exact d1.elim)<;>(refine wk F ?_)
     ·exact absurd d1 (by omega)
     ·have hz2:headI bel (l.drop (i+1))=headI bel []:=by rw[List.drop_of_length_le (by omega)]
      refine ee hQ F ?_
      exact bp hn (ct _ _ _) ⟨by rw[show lastI bel (l.take i)=y1.i from hz,hz2];rfl,rfl⟩
    |false=>
     rw[hb0]at hE2
     rw[jG hb0]at hz
     have F:=F5 F em em2 hy1 c2
     try refine sq F ?_
     refine wk F ?_
     refine aG (hE2) ?_
     try refine sq F ?_
     refine wk F ?_
     refine hK2 _ _ _ (Wkn.refl ⟨m-1,rfl,aA,?_,?_,by omega,hz⟩) (by omega)
     all_goals first|exact zq F|rfl|omega|trivial|skip
   ·have hz0:lastI bel (l.take i)=0:=by
     rw[hz,show m=0 from by omega];rfl
    refine lm (fun nL tL hL=>∃(k:Nat),0-k=nL∧vo (H++[.row 25 4 0 [qA op num s ks]]) n v l=hL∧tL 57=.int .i64 k∧tL 8=.int .i64 0∧k≤0) ((fun(k:Nat)=>(0-k:Nat)) (0)) ?_ ?_
    ·refine Wkn.refl ⟨0,rfl,aA,?_,?_,Nat.le_refl 0⟩
     all_goals first|exact zq F|rfl|omega|trivial|skip
    rintro _ s3 h' ⟨k,rfl,rfl,e57,e8,hk⟩ K3 hK3
    simp only[ai,aj,Nat.reduceEqDiff, ↓reduceIte]at e57 e8
    have F:=F3 F e57 e8
    refine wk F ?_
    refine cq F (fun d1=>?_) (fun d1=>?_)<;>(try exact d1.elim)<;>(refine wk F ?_)
    ·exact absurd d1 (by omega)
    ·have hz2:headI bel (l.drop (i+1))=headI bel []:=by rw[List.drop_of_length_le (by omega)]
     refine ee hQ F ?_
     exact bp hn (ct _ _ _) ⟨by rw[show lastI bel (l.take i)=0 from hz0,hz2];rfl,rfl⟩
end
end Go.Av
namespace Go.Av
open Go Go.Proofs Go.RowKit
attribute [local irreducible] WP WPl WPix Sat
abbrev qN(op:Int):AVal:=.agg [.int .i64 op,.int .i64 0,.str [],.nil (.slice none 0 0)]
theorem lw(op:Int):Wk (qN op) (qA op 0 [] []):=Wk.agg rfl (fun y hy=>by
 simp only[List.mem_cons,List.not_mem_nil,or_false]at hy
 rcases hy with rfl|rfl|rfl|rfl<;>rfl) fun i x y hx hy=>by
 match i with
 |0=>simp at hx hy;subst hx;subst hy;exact Wk.refl _
 |1=>simp at hx hy;subst hx;subst hy;exact Wk.refl _
 |2=>simp at hx hy;subst hx;subst hy;exact Wk.refl _
 |3=>simp at hx hy;subst hx;subst hy;exact Wk.nils 4
 |i+4=>simp at hx
abbrev pgZ:AVal:=.agg [.nil (.slice none 0 0),.int .i64 0,.int .i64 0,.bool false,.bool false]
theorem oD(N:Nat)(e:Int):Clo N (.tup [pgZ,.int .i64 e]):=.tup _ fun x hx=>by
 simp only[List.mem_cons,List.not_mem_nil,or_false]at hx
 rcases hx with rfl|rfl
 ·exact .agg _ fun x hx=>by
   simp only[List.mem_cons,List.not_mem_nil,or_false]at hx
   rcases hx with rfl|rfl|rfl|rfl|rfl<;>first|exact .nil _|exact .int _ _|exact .bool _
 ·exact .int _ _
variable (G:Nat→Option (List AVal))
section
variable {Y:Heap} {n m v:Nat} {s:PS} {l:List Ky}
theorem sD(hI:s.Inv)(hk:VK l s)(c:Cu)(N:Nat)(hN:1≤N∧N≤100)(hn:n+9≤m)(hm:m+2≤Y.length):Sat (CT G) 13 [.hp m 0 0 0,.hp (n+8) 0 0 0,qN 1,c.av,.int .i64 N] (sv Y n s m v l)
  (fun r h'=>r=.tup [pgA c ((l.drop (fromK l c)).filter fun k=>(lkM s.it k.i).isSome) N,.int .i64 0]∧h'=sv Y n s m v l):=by
 have hl:=hk.len hI
 have e:∀j,vo (so Y n s++j) m v l=sv (Y++j) n s m v l:=fun j=>by rw[aI (by omega), ← bZ hn (by simp;omega)]
 have h0:=mR G (H:=so Y n s) (n:=m) (v:=v) hk.1 (by omega) (fun id=>(lkM s.it id).isSome) c (n+8) (by rw[aB (by omega)];omega) 1 0 [] [] N hN (by rw[aB (by omega)];exact hm)
  (fun j=>by rw[e];exact sj hn (by simp;omega)) (fun j=>by rw[e];exact dE G _) (fun j id=>by rw[e];exact sn G hI id hn (by simp;omega))
 rw[← bZ hn hm]at h0
 refine Sat.wk (ys:=[.hp m 0 0 0,.hp (n+8) 0 0 0,qA 1 0 [] [],c.av,.int .i64 N]) rfl (fun i x y hx hy=>?_) h0
 match i with
 |2=>simp at hx hy;subst hx;subst hy;exact lw 1
 |0=>simp at hx hy;subst hx;subst hy;exact Wk.refl _
 |1=>simp at hx hy;subst hx;subst hy;exact Wk.refl _
 |3=>simp at hx hy;subst hx;subst hy;exact Wk.refl _
 |4=>simp at hx hy;subst hx;subst hy;exact Wk.refl _
 |i+5=>simp at hx
theorem uT(hI:s.Inv)(hk:VK l s)(item:Int)(hn:n+9≤m)(hm:m+2≤Y.length):Sat (CT G) 14 [.hp m 0 0 0,.hp (n+8) 0 0 0,qN 1,.int .i64 item] (sv Y n s m v l)
  (fun r h'=>r=.tup [.int .i64 (arF (fun id=>(lkM s.it id).isSome) l item).1,.int .i64 (arF (fun id=>(lkM s.it id).isSome) l item).2]∧h'=sv Y n s m v l):=by
 have hl:=hk.len hI
 have e:∀j,vo (so Y n s++j) m v l=sv (Y++j) n s m v l:=fun j=>by rw[aI (by omega), ← bZ hn (by simp;omega)]
 have h0:=qi G (H:=so Y n s) (n:=m) (v:=v) (l:=l) (by omega) (fun id=>(lkM s.it id).isSome) (.hp (n+8) 0 0 0) item 1 0 [] [] (by rw[aB (by omega)];exact hm)
  (fun j=>by rw[e];exact dE G _) (fun j id=>by rw[e];exact sn G hI id hn (by simp;omega))
 rw[← bZ hn hm]at h0
 refine Sat.wk (ys:=[.hp m 0 0 0,.hp (n+8) 0 0 0,qA 1 0 [] [],.int .i64 item]) rfl (fun i x y hx hy=>?_) h0
 match i with
 |2=>simp at hx hy;subst hx;subst hy;exact lw 1
 |0=>simp at hx hy;subst hx;subst hy;exact Wk.refl _
 |1=>simp at hx hy;subst hx;subst hy;exact Wk.refl _
 |3=>simp at hx hy;subst hx;subst hy;exact Wk.refl _
 |i+4=>simp at hx
theorem wv(c:Cu)(hn:n+9≤m)(hm:m+2≤Y.length):Sat (CT G) 13 [.hp m 0 0 0,.hp (n+8) 0 0 0,qN 1,c.av,.int .i64 0] (sv Y n s m v l)
  (fun r h'=>r=.tup [pgZ,.int .i64 1]∧h'=sv Y n s m v l):=by
 refine Sat.wk (ys:=[.hp m 0 0 0,.hp (n+8) 0 0 0,qA 1 0 [] [],c.av,.int .i64 0]) rfl (fun i x y hx hy=>?_) ?_
 ·match i with
  |2=>simp at hx hy;subst hx;subst hy;exact lw 1
  |0=>simp at hx hy;subst hx;subst hy;exact Wk.refl _
  |1=>simp at hx hy;subst hx;subst hy;exact Wk.refl _
  |3=>simp at hx hy;subst hx;subst hy;exact Wk.refl _
  |4=>simp at hx hy;subst hx;subst hy;exact Wk.refl _
  |i+5=>simp at hx
 have df:∀i:Decidable False, @decide False i=false:=fun i=>by simp
 have dt:∀i:Decidable True, @decide True i=true:=fun i=>by simp
 have F:=F3 df dt @az
 refine sb [.cell 10 44,.tmp 11] (fn:=Tryz.f13) Tryz.func13 ?_
 intro Q hQ
 refine wk F ?_
 refine kq F (dE G _) ?_
 refine ye hQ F ?_
 rw[← jC hn hm]
 exact Fin.plain (oD _ _) ⟨rfl,rfl⟩
theorem ww(c:Cu)(hn:n+9≤m)(hm:m+2≤Y.length):Sat (CT G) 13 [.hp m 0 0 0,.hp (n+8) 0 0 0,qN 0,c.av,.int .i64 0] (sv Y n s m v l)
  (fun r h'=>r=.tup [pgZ,.int .i64 250]∧h'=sv Y n s m v l):=by
 refine Sat.wk (ys:=[.hp m 0 0 0,.hp (n+8) 0 0 0,qA 0 0 [] [],c.av,.int .i64 0]) rfl (fun i x y hx hy=>?_) ?_
 ·match i with
  |2=>simp at hx hy;subst hx;subst hy;exact lw 0
  |0=>simp at hx hy;subst hx;subst hy;exact Wk.refl _
  |1=>simp at hx hy;subst hx;subst hy;exact Wk.refl _
  |3=>simp at hx hy;subst hx;subst hy;exact Wk.refl _
  |4=>simp at hx hy;subst hx;subst hy;exact Wk.refl _
  |i+5=>simp at hx
 have df:∀i:Decidable False, @decide False i=false:=fun i=>by simp
 have dt:∀i:Decidable True, @decide True i=true:=fun i=>by simp
 have F:=F3 df dt @az
 refine sb [.cell 10 44,.tmp 11] (fn:=Tryz.f13) Tryz.func13 ?_
 intro Q hQ
 refine wk F ?_
 refine kq F (nT G _) ?_
 refine ye hQ F ?_
 rw[← jC hn hm]
 exact Fin.plain (oD _ _) ⟨rfl,rfl⟩
end
def lv3:List Ev:=[⟨3,1,0,0,[117],[],[]⟩,⟨7,1,1,5,[97],[],[]⟩,⟨7,2,1,9,[98],[],[]⟩]
def lv3E:Ev:=⟨7,3,1,7,[99],[],[]⟩
def lv3S:PS:=lv3.foldl PS.step1 PS.z
def lv3T:PS:=lv3S.aft lv3E
theorem wx:L0.ck lv3E=true:=lu (by kernel_rfl) rfl
theorem mT:lv3.foldl (PS.step L0) PS.z=lv3S:=by
 show(((PS.z.step L0 _).step L0 _).step L0 _)=_
 rw[ki (lu (by kernel_rfl) rfl),ki (lu (by kernel_rfl) rfl),ki (lu (by kernel_rfl) rfl)]
 rfl
theorem kj:lv3S.ok L0 lv3E=true:=by unfold PS.ok;rw[wx];kernel_rfl
theorem ep:lv3S.Inv:=by rw[← mT];exact PS.Inv.z.fold lv3
theorem l9:lv3S.step L0 lv3E=lv3T:=by unfold PS.step;rw[kj];rfl
theorem iO:lv3T.Inv:=by rw[← l9];exact ep.step lv3E
def lv3L:List Ky:=[⟨9,2,1⟩,⟨7,3,1⟩,⟨5,1,1⟩]
def lv3a:It:=⟨1,1,5,[97],[],[],false,false,[]⟩
def lv3b:It:=⟨2,1,9,[98],[],[],false,false,[]⟩
def lv3c:It:=⟨3,1,7,[99],[],[],false,false,[]⟩
theorem sE:lkM lv3T.it 1=some lv3a:=by kernel_rfl
theorem sF:lkM lv3T.it 2=some lv3b:=by kernel_rfl
theorem sG:lkM lv3T.it 3=some lv3c:=by kernel_rfl
theorem xS:lv3T.it.map (·.1)=[1,2,3]:=by kernel_rfl
theorem xT:VK lv3L lv3T:=by
 refine⟨?_,fun k=>⟨fun hk=>?_,?_⟩⟩
 ·unfold Sk lv3L;simp[ahd]
 ·simp only[lv3L,List.mem_cons,List.not_mem_nil,or_false]at hk
  rcases hk with rfl|rfl|rfl
  ·exact⟨2,_,sF,rfl⟩
  ·exact⟨3,_,sG,rfl⟩
  ·exact⟨1,_,sE,rfl⟩
 ·rintro⟨id,t,ht,rfl⟩
  have hm:id∈lv3T.it.map (·.1):=uC.2 (by rw[ht];rfl)
  rw[xS]at hm
  simp only[List.mem_cons,List.not_mem_nil,or_false]at hm
  rcases hm with rfl|rfl|rfl
  ·rw[sE]at ht;cases ht;simp[lv3L,lv3a,It.ky]
  ·rw[sF]at ht;cases ht;simp[lv3L,lv3b,It.ky]
  ·rw[sG]at ht;cases ht;simp[lv3L,lv3c,It.ky]
theorem xU:pgA ⟨0,0,false⟩ ((lv3L.drop (fromK lv3L ⟨0,0,false⟩)).filter fun k=>(lkM lv3T.it k.i).isSome) 2=.agg [.sl 1 [.int .i64 2,.int .i64 3],.int .i64 7,.int .i64 3,.bool true,.bool true]:=by kernel_rfl
theorem xV:pgA ⟨7,3,true⟩ ((lv3L.drop (fromK lv3L ⟨7,3,true⟩)).filter fun k=>(lkM lv3T.it k.i).isSome) 2=.agg [.sl 1 [.int .i64 1],.int .i64 5,.int .i64 1,.bool true,.bool false]:=by kernel_rfl
theorem xW:arF (fun id=>(lkM lv3T.it id).isSome) lv3L 3=(2,1):=by kernel_rfl
theorem xX:rkI (lv3L.map (·.i)) 1=3:=by kernel_rfl
theorem xY:rkI (lv3L.map (·.i)) 4=0:=by kernel_rfl
@[go_sem] theorem GC(h:Heap)(d1 i1 d2 i2:Int)(s1 s2:Bool):abin Tryz.prog h .eql 27 (.agg [.int .i64 d1,.int .i64 i1,.bool s1]) (.agg [.int .i64 d2,.int .i64 i2,.bool s2])=some (.bool (d1==d2&&(i1==i2&&s1==s2))):=by
 simp only[abin,go_sem,aeqL,aeq1, ↓reduceIte,Option.map_some,Option.some.injEq,AVal.bool.injEq]
theorem jJ(a b:List Int)(d1 i1 d2 i2:Int)(s1 m1 s2 m2:Bool)(ha:a.length≤1000000)(hb:b.length≤1000000)(h:Heap):Sat (CT G) 16 [.agg [.sl 1 (a.map iA),.int .i64 d1,.int .i64 i1,.bool s1,.bool m1],.agg [.sl 1 (b.map iA),.int .i64 d2,.int .i64 i2,.bool s2,.bool m2]] h
  (fun r h'=>r=.bool (decide (a=b)&&((d1==d2&&(i1==i2&&s1==s2))&&m1==m2))∧h'=h):=by
 have hS:=gF G a b ha hb
 cases hab:decide (a=b)with
 |false=>
  rw[hab]at hS
  refine sb [.tmp 4] (fn:=Tryz.f16) Tryz.func16 ?_
  intro Q hQ
  refine wk trivial ?_
  refine kq trivial (hS _) ?_
  refine ee hQ trivial ?_
  exact Fin.plain (.bool _) ⟨rfl,rfl⟩
 |true=>
  rw[hab]at hS
  refine sb [.tmp 4] (fn:=Tryz.f16) Tryz.func16 ?_
  intro Q hQ
  refine wk trivial ?_
  refine kq trivial (hS _) ?_
  cases hcu:(d1==d2&&(i1==i2&&s1==s2))with
  |false=>
   have F:=hcu
   try refine sq F ?_
   refine wk F ?_
   refine ee hQ F ?_
   exact Fin.plain (.bool _) ⟨by simp,rfl⟩
  |true=>
   have F:=hcu
   try refine sq F ?_
   refine wk F ?_
   refine ee hQ F ?_
   exact Fin.plain (.bool _) ⟨by simp,rfl⟩
theorem ip(h:Heap):Sat (CT G) 9 [] h (fun r h'=>r=.bool true∧h'=h):=by
 have hF:=fun h=>kU G lv3 (by decide) h
 rw[mT]at hF
 have hz9:(PS.z.bl h.length).length=9:=rfl
 have hfh:=hF h
 generalize hH:h++PS.z.bl h.length=H0 at hfh
 have hl0:H0.length=h.length+9:=by rw[← hH];simp[hz9]
 have hnw:=v8 G ep (H:=H0) (n:=h.length) (by omega)
 have kc0:=VK.new ep
 generalize srtK (lv3S.tell.it.map It.ky)=c0 at hnw kc0
 generalize lv3S.tell.it.length=v0 at hnw
 generalize hWw:H0++vb H0.length 0 []=W0 at hnw
 have hlW:W0.length=H0.length+2:=by rw[← hWw];simp[vb]
 have hpre:∃j,W0=h++j:=⟨PS.z.bl h.length++vb H0.length 0 [],by rw[← hWw, ← hH,List.append_assoc]⟩
 generalize H0.length=m at*
 have hn:h.length+9≤m:=by omega
 have hap:=fun(W:Heap) (hm:m+2≤W.length)=>wh G (Y:=W) (n:=h.length) (m:=m) (v:=v0) (l:=c0) ep lv3E hn hm
 rw[l9,kj]at hap
 have hst:=fun(W:Heap) (hm:m+2≤W.length)=>xP G (Y:=W) (n:=h.length) (m:=m) (v:=v0) kc0 ep lv3E kj hn hm
 refine sb [.tmp 0] (fn:=Tryz.f9) Tryz.func9 ?_
 intro Q hQ
 refine wk trivial ?_
 refine kq trivial (hfh) ?_
 refine kq trivial (hnw) ?_
 refine kq trivial (hap _ (by first|omega| (simp;omega))) ?_
 refine(hst _ (by first|omega| (simp;omega))).mono ?_
 rintro r h' ⟨rfl,u,L,kd,rfl⟩
 change VK L lv3T at kd
 obtain rfl:=kd.uniq xT
 have hp1:=fun(W:Heap) (hm:m+2≤W.length)=>sD G (Y:=W) (n:=h.length) (m:=m) (v:=u) iO kd ⟨0,0,false⟩ 2 (by omega) hn hm
 have hp2:=fun(W:Heap) (hm:m+2≤W.length)=>sD G (Y:=W) (n:=h.length) (m:=m) (v:=u) iO kd ⟨7,3,true⟩ 2 (by omega) hn hm
 have har:=fun(W:Heap) (hm:m+2≤W.length)=>uT G (Y:=W) (n:=h.length) (m:=m) (v:=u) iO kd 3 hn hm
 have hal:=fun(W:Heap) (hm:m+2≤W.length)=>Az G (Y:=W) (n:=h.length) (m:=m) (v:=u) (s:=lv3T) (l:=lv3L) (by decide) hn hm
 have hr1:=fun(W:Heap) (hm:m+2≤W.length)=>su G (Y:=W) (n:=h.length) (m:=m) (v:=u) (s:=lv3T) (l:=lv3L) (by decide) 1 hn hm
 have hr4:=fun(W:Heap) (hm:m+2≤W.length)=>su G (Y:=W) (n:=h.length) (m:=m) (v:=u) (s:=lv3T) (l:=lv3L) (by decide) 4 hn hm
 rw[xU]at hp1
 rw[xV]at hp2
 rw[xW]at har
 rw[xX]at hr1
 rw[xY]at hr4
 have hs0:=gF G [2,3,1] [2,3,1] (by decide) (by decide)
 have hs1:=jJ G [2,3] [2,3] 7 3 7 3 true true true true (by decide) (by decide)
 have hs2:=jJ G [1] [1] 5 1 5 1 true false true false (by decide) (by decide)
 rw[decide_eq_true (rfl:([2,3,1]:List Int)=[2,3,1])]at hs0
 rw[show(decide (([2,3]:List Int)=[2,3])&&(((7:Int)==7&&((3:Int)==3&&true==true))&&true==true))=true from by decide]at hs1
 rw[show(decide (([1]:List Int)=[1])&&(((5:Int)==5&&((1:Int)==1&&true==true))&&false==false))=true from by decide]at hs2
 have hmm:∀q:Heap,m+2≤(W0++q).length:=fun q=>by simp;omega
 try refine sq trivial ?_
 refine wk trivial ?_
 refine kq trivial (hp1 _ (hmm _)) ?_
 refine kq trivial (hp2 _ (hmm _)) ?_
 refine kq trivial (wv G (Y:=W0++_) (n:=h.length) (m:=m) (v:=u) (s:=lv3T) (l:=lv3L) ⟨0,0,false⟩ hn (hmm _)) ?_
 refine kq trivial (ww G (Y:=W0++_) (n:=h.length) (m:=m) (v:=u) (s:=lv3T) (l:=lv3L) ⟨0,0,false⟩ hn (hmm _)) ?_
 refine kq trivial (har _ (hmm _)) ?_
 refine kq trivial (hal _ (hmm _)) ?_
 refine kq trivial (hs0 _) ?_
 refine kq trivial (hr1 _ (hmm _)) ?_
 refine kq trivial (hr4 _ (hmm _)) ?_
 refine kq trivial (hs1 _) ?_
 refine kq trivial (hs2 _) ?_
 refine ee hQ trivial ?_
 obtain⟨j0,hj0⟩:=hpre
 exact sk hn (hmm _) ⟨j0++_,by rw[hj0,List.append_assoc]⟩ (Nat.le_refl _) ⟨rfl,rfl⟩
end Go.Av
namespace Go.Av
open Go Go.Proofs Go.RowKit
attribute [local irreducible] WP WPl WPix Sat
variable (G:Nat→Option (List AVal))
end Go.Av
namespace Go.Av
open Go Go.Proofs Go.RowKit
attribute [local irreducible] WP WPl WPix Sat
variable (G:Nat→Option (List AVal))
section
variable {Y:Heap} {n m v:Nat} {s:PS} {l:List Ky}
theorem xZ(hn:n+9≤m)(hm:m+2≤Y.length){p:Nat}(u:Nat)(hp:p<n):getRow (sv Y n s m v l) p u=getRow Y p u:=by
 unfold sv so vo
 rw[dG u (by show n+9≤_;rw[aH hm];omega) (.inl hp),dG u hm (.inl (by omega))]
theorem wy(hI:s.Inv)(hT:s.Tt)(q:Qy)(hq:q.Fit)(id:Int)(hn:n+9≤m)(hm:m+2≤Y.length):Sat (CT G) 20 [.hp (n+8) 0 0 0,q.av,.int .i64 id] (sv Y n s m v l) (fun r h'=>r=.bool (s.eval q id)∧h'=sv Y n s m v l):=
 sB G s hI hT q hq id (by rw[aN hm];omega)
theorem wz(hI:s.Inv)(hT:s.Tt)(hk:VK l s)(q:Qy)(hq:q.Fit)(hok:q.ok=true)(c:Cu)(N:Nat)(hN:1≤N∧N≤100)(hn:n+9≤m)(hm:m+2≤Y.length):Sat (CT G) 13 [.hp m 0 0 0,.hp (n+8) 0 0 0,q.av,c.av,.int .i64 N] (sv Y n s m v l)
  (fun r h'=>r=.tup [pgA c (pgL l (s.eval q) c) N,.int .i64 0]∧h'=sv Y n s m v l):=by
 have hl:=hk.len hI
 have e:∀j,vo (so Y n s++j) m v l=sv (Y++j) n s m v l:=fun j=>by rw[aI (by omega), ← bZ hn (by simp;omega)]
 have hC:∀h,Sat (CT G) 37 [q.av] h (fun r h'=>r=.int .i64 0∧h'=h):=fun h=>by
  have:=fG G q h hq.1 hq.2
  rw[hok]at this
  exact this
 have hE:=fun(j:Heap) id=>wy G (Y:=Y++j) (v:=v) (l:=l) hI hT q hq id hn (by simp;omega)
 obtain⟨qo,qn,qs,qk⟩:=q
 rw[Qy.av_eq]at*
 have h0:=mR G (H:=so Y n s) (n:=m) (v:=v) hk.1 (by omega) (s.eval (.mk qo qn qs qk)) c (n+8) (by rw[aB (by omega)];omega) qo qn qs (qk.map Qy.av) N hN (by rw[aB (by omega)];exact hm)
  (fun j=>by rw[e];exact sj hn (by simp;omega)) (fun j=>hC _) (fun j id=>by rw[e];exact hE j id)
 rw[← bZ hn hm]at h0
 exact h0
end
theorem y8(c:Cu)(bs:List Ky)(N:Nat):pgA c bs N=.agg [.sl 1 (((bs.take N).map (·.i)).map iA),.int .i64 (nxC c (bs.take N)).d,.int .i64 (nxC c (bs.take N)).i,.bool (nxC c (bs.take N)).set,.bool (decide (N<bs.length))]:=by
 unfold pgA;rw[List.map_map];rfl
end Go.Av
namespace Go.Av
open Go Go.Proofs Go.RowKit
theorem sH{l:List Ky}(hs:Sk l)(bel:Int→Bool)(c:Cu)(N:Nat)(hN:1≤N):pgL l bel (nxC c ((pgL l bel c).take N))=(pgL l bel c).drop N:=by
 have hbs:=gZ hs (bel:=bel) (c:=c)
 have hm:∀y,y∈pgL l bel c↔_:=fun y=>fa hs
 rcases List.eq_nil_or_concat ((pgL l bel c).take N)with e| ⟨pre,z,e⟩
 ·rw[e,wo]
  have:pgL l bel c=[]:=by
   cases hb:pgL l bel c with
   |nil=>rfl
   |cons a b=>
    rw[hb]at e
    obtain⟨M,rfl⟩:∃M,N=M+1:=⟨N-1,by omega⟩
    cases e
  rw[this,List.drop_nil]
 ·rw[List.concat_eq_append]at e
  refine(gZ hs).uniq (hbs.sublist (List.drop_sublist _ _)) fun x=>?_
  have hall:∀y∈ (pgL l bel c).take N,bhd c y=true:=fun y hy=>((hm y).1 (List.mem_of_mem_take hy)).2.1
  have hz:z∈ (pgL l bel c).take N:=by rw[e];simp
  have hp:=hbs
  rw[← List.take_append_drop N (pgL l bel c)]at hp
  have hcross:=(List.pairwise_append.1 hp).2.2
  have hzl:∀y∈ (pgL l bel c).take N,ahd z y=false:=fun y hy=>by
   have hst:=(List.pairwise_append.1 hp).1
   rw[e]at hst hy
   rcases List.mem_append.1 hy with h1|h1
   ·exact o4 ((List.pairwise_append.1 hst).2.2 y h1 z (by simp))
   ·rw[List.mem_singleton]at h1;rw[h1];exact jV z
  rw[fa hs]
  constructor
  ·rintro⟨h1,h2,h3⟩
   have hx:x∈pgL l bel c:=(hm x).2 ⟨h1,sy hall h2,h3⟩
   rw[e,jE]at h2
   rw[← List.take_append_drop N (pgL l bel c),List.mem_append]at hx
   refine hx.resolve_left fun ht=>?_
   rw[hzl x ht]at h2
   cases h2
  ·intro hx
   have h1:=(hm x).1 (List.mem_of_mem_drop hx)
   exact⟨h1.1,by rw[e,jE];exact hcross z hz x hx,h1.2.2⟩
theorem uU{l:List Ky}{bel:Int→Bool}{c:Cu}{N:Nat}{T:List Ky}{A:List Ky}(hs:Sk l)(hN:1≤N)(h:T++pgL l bel c=A):(T++(pgL l bel c).take N)++pgL l bel (nxC c ((pgL l bel c).take N))=A:=by
 rw[sH hs bel c N hN,List.append_assoc,List.take_append_drop,h]
theorem uV{s:PS}(hI:s.Inv){l:List Ky}(hk:VK l s){q:Qy}(hq:q.ok=true):(pgL l (s.eval q) ⟨0,0,false⟩).map (·.i)=itmF s fun t=>q.bel s t:=by
 unfold itmF
 congr 1
 refine(gZ hk.1).uniq (fp (jF hI _)) fun x=>?_
 rw[fa hk.1]
 unfold itmK
 rw[iD (jF hI _),List.mem_map,hk.2]
 have he:∀id t,lkM s.it id=some t→s.eval q t.ky.i=q.bel s t:=fun id t h=>by
  have:t.ky.i=id:=(hI.i3 id t h).1
  rw[this]
  unfold PS.eval
  rw[h,hq];rfl
 constructor
 ·rintro⟨⟨id,t,h1,rfl⟩,_,h3⟩
  rw[he id t h1]at h3
  exact⟨t,List.mem_filter.2 ⟨mq h1,h3⟩,rfl⟩
 ·rintro⟨t,ht,rfl⟩
  obtain⟨h1,h2⟩:=List.mem_filter.1 ht
  obtain⟨id,hid⟩:=s8 hI ((mM hI).mem_iff.1 h1)
  exact⟨⟨id,t,hid,rfl⟩,rfl,by rw[he id t hid];exact h2⟩
end Go.Av
namespace Go.Av
open Go Go.Proofs Go.RowKit
attribute [local irreducible] WP WPl WPix Sat
variable (G:Nat→Option (List AVal))
theorem kp(hc:GClo (CT G))(es:List Ev)(q:Qy)(hq:q.mx≤9223372036854775807)(nn:Int)(hg:¬(lgF es=false∧decide (q.left 0 300≤0)=false∧q.ok=true∧decide (nn<1)=false∧decide (nn>100)=false))(h:Heap):Sat (CT G) 5 [.sl 7 (es.map Ev.av),q.av,.int .i64 nn] h (fun r h'=>r=.bool true∧h'=h):=by
 have hLg:=eH G es
 have hLa:=fun h=>jh G q h hq
 have hCk:=fun(hb:decide (q.left 0 300≤0)=false) h=>io G hc q h hq fun hd=>Nat.le_trans (Qy.small (by simpa using hb) hd) (by omega)
 have hb:lgF es=true∨(lgF es=false∧decide (q.left 0 300≤0)=true)∨(lgF es=false∧decide (q.left 0 300≤0)=false∧q.ok=false)∨
   (lgF es=false∧decide (q.left 0 300≤0)=false∧q.ok=true∧decide (nn<1)=true)∨(lgF es=false∧decide (q.left 0 300≤0)=false∧q.ok=true∧decide (nn<1)=false∧decide (nn>100)=true):=by
  revert hg
  generalize lgF es=b1
  generalize decide (q.left 0 300≤0)=b3
  generalize q.ok=b4
  generalize decide (nn<1)=b5
  generalize decide (nn>100)=b6
  cases b1<;>cases b3<;>cases b4<;>cases b5<;>cases b6<;>simp
 clear hg
 have hCk:decide (q.left 0 300≤0)=false→∀h,Sat (CT G) 15 [q.av] h (fun r h'=>r=.bool q.ok∧h'=h):=hCk
 generalize lgF es=b1 at*
 generalize decide (q.left 0 300≤0)=b3 at*
 generalize q.ok=b4 at*
 clear hq
 obtain⟨qo,qn,qs,qk⟩:=q
 rw[Qy.av_eq]at*
 rcases hb with rfl| ⟨rfl,rfl⟩| ⟨rfl,rfl,rfl⟩| ⟨rfl,rfl,rfl,hb5⟩| ⟨rfl,rfl,rfl,hb5,hb6⟩
 all_goals (
  try replace hCk:=hCk rfl
  have hF:(lgF ([]:List Ev)=false):=rfl
  have F:=hF
  try have F:=F2 F hb5
  try have F:=F2 F hb6
  refine sb [.tmp 6] (fn:=Tryz.f5) Tryz.func5 ?_
  intro Q hQ
  refine wk F ?_
  repeat (first
   |refine kq F (hLg _) ?_
   |refine kq F (hLa _) ?_
   |refine kq F (hCk _) ?_
   |refine kq F (ip G _) ?_)
  refine ee hQ F ?_
  exact Fin.plain (.bool _) ⟨rfl,rfl⟩)
theorem ll(hc:GClo (CT G))(es:List Ev)(q:Qy)(hq:q.mx≤9223372036854775807)(nn:Int)(h:Heap):Sat (CT G) 5 [.sl 7 (es.map Ev.av),q.av,.int .i64 nn] h (fun r h'=>r=.bool true∧h'=h):=by
 have hLg:=eH G es
 have hLa:=fun h=>jh G q h hq
 have hCk:=fun(hb:decide (q.left 0 300≤0)=false) h=>io G hc q h hq fun hd=>Nat.le_trans (Qy.small (by simpa using hb) hd) (by omega)
 have hFit:decide (q.left 0 300≤0)=false→q.Fit:=fun hb=>⟨hq,fun hd=>Nat.le_trans (Qy.small (by simpa using hb) hd) (by omega)⟩
 by_cases hg:lgF es=false∧decide (q.left 0 300≤0)=false∧q.ok=true∧decide (nn<1)=false∧decide (nn>100)=false
 ·obtain⟨hlg,hbg,hok,hn1,hn2⟩:=hg
  have hCk:=hCk hbg
  have hF:=hFit hbg
  rw[hlg]at hLg
  rw[hbg]at hLa
  rw[hok]at hCk
  clear hFit hbg
  have hel:es.length≤150:=by
   unfold lgF at hlg
   rw[Bool.or_eq_false_iff]at hlg
   have:=hlg.1
   simp only[decide_eq_false_iff_not]at this
   omega
  obtain⟨N,rfl,hN⟩:∃N:Nat,nn=N∧1≤N∧N≤100:=⟨nn.toNat,by simp at hn1 hn2;omega,by simp at hn1 hn2;omega,by simp at hn1 hn2;omega⟩
  have hI0:(es.foldl (PS.step L0) PS.z).Inv:=PS.Inv.z.fold es
  have hT0:(es.foldl (PS.step L0) PS.z).Tt:=PS.Tt.fold PS.Tt.z PS.Inv.z
  have hkn0:(es.foldl (PS.step L0) PS.z).Kin (evK es):=xR
  have hE0:=wq es
  generalize evK es=E0 at*
  generalize hs0:es.foldl (PS.step L0) PS.z=s0 at hI0 hT0 hkn0
  have kc0:=VK.new hI0
  have hW:=uV hI0 kc0 hok
  have hit:=fun(X:Heap) (n:Nat) (hn:n+9≤X.length)=>qh G s0 hI0 hT0 q hF hn
  rw[hok]at hit
  simp only[if_true]at hit
  have hlk:∀(l:List Ky) (v:Nat) {Y:Heap} {n m:Nat},VK l s0→n+9≤m→m+2≤Y.length→∀c,Sat (CT G) 13 [.hp m 0 0 0,.hp (n+8) 0 0 0,q.av,c.av,.int .i64 N] (sv Y n s0 m v l) (fun r h'=>r=.tup [pgA c (pgL l (s0.eval q) c) N,.int .i64 0]∧h'=sv Y n s0 m v l):=
   fun l v {Y n m} hk hn hm c=>wz G hI0 hT0 hk q hF hok c N hN hn hm
  clear hF hok hq
  rw[← hW]at hit
  clear hW
  generalize s0.eval q=ev at*
  obtain⟨qo,qn,qs,qk⟩:=q
  rw[Qy.av_eq]at*
  generalize hQr:Blk.row 25 4 0 [.agg [.int .i64 qo,.int .i64 qn,.str qs,.sl 4 (qk.map Qy.av)]]=rQ
  have hfh:=kU G es (by omega) (h++[rQ])
  have hnl:(h++[rQ]).length=h.length+1:=by simp
  rw[hnl]at hfh
  rw[hs0]at hfh
  have hz9:(PS.z.bl (h.length+1)).length=9:=rfl
  generalize hH:h++[rQ]++PS.z.bl (h.length+1)=H0 at hfh
  have hl0:H0.length=h.length+10:=by rw[← hH];simp[hz9]
  have hnw:=v8 G hI0 (H:=H0) (n:=h.length+1) (by omega)
  generalize srtK (s0.tell.it.map It.ky)=l at hnw kc0 hit
  generalize s0.tell.it.length=v at hnw
  generalize hWw:H0++vb H0.length 0 []=W0 at hnw
  have hlW:W0.length=H0.length+2:=by rw[← hWw];simp[vb]
  have hpre:∃j,W0=h++(rQ::j):=⟨PS.z.bl (h.length+1)++vb H0.length 0 [],by rw[← hWw, ← hH];simp⟩
  generalize H0.length=m at*
  have hn:h.length+1+9≤m:=by omega
  have hm0:m+2≤W0.length:=by omega
  have hmj0:∀j:Heap,m+2≤(W0++j).length:=fun j=>by simp;omega
  have hQq:∀(j:Heap),getRow (sv (W0++j) (h.length+1) s0 m v l) h.length 0=some (25,4,[.agg [.int .i64 qo,.int .i64 qn,.str qs,.sl 4 (qk.map Qy.av)]]):=fun j=>by
   obtain⟨j0,hj0⟩:=hpre
   rw[xZ hn (hmj0 j) 0 (by omega),hj0,List.append_assoc,aF _ rfl,List.cons_append, ← hQr]
   rfl
  have r0:getRow (h++[rQ]) h.length 0=some (25,4,[.agg [.int .i64 qo,.int .i64 qn,.str qs,.sl 4 (qk.map Qy.av)]]):=by rw[aF _ rfl, ← hQr];rfl
  have F:=F5 hn1 hn2 hQr r0 hQq
  refine sb [.tmp 6] (fn:=Tryz.f5) Tryz.func5 ?_
  intro Q hQ
  refine wk F ?_
  refine kq F (hLg _) ?_
  refine kq F (hLa _) ?_
  refine kq F (hCk _) ?_
  refine kq F (hfh) ?_
  refine kq F (hnw) ?_
  refine kq F (ip G _) ?_
  have hrc:∀(b:Blk) (j:Heap) (u:Nat),getRow (sv (W0++(b::j)) (h.length+1) s0 m v l) W0.length u=getRow [b] 0 u:=fun b j u=>by
   rw[mO hn (hmj0 _) u (by omega),aF _ rfl];rfl
  have hrg:∀(a b:Blk) (j:Heap) (u:Nat),getRow (sv (W0++(a::b::j)) (h.length+1) s0 m v l) (W0.length+1) u=getRow [b] 0 u:=fun a b j u=>by
   rw[mO hn (hmj0 _) u (by omega),aZ _ rfl];rfl
  have hsg:∀(a b b':Blk) (j:Heap),(sv (W0++(a::b::j)) (h.length+1) s0 m v l).set (W0.length+1) b'=sv (W0++(a::b'::j)) (h.length+1) s0 m v l:=fun a b b' j=>by
   rw[mP hn (hmj0 _) b' (by omega),bO _ rfl];rfl
  have hsc:∀(a b':Blk) (j:Heap),(sv (W0++(a::j)) (h.length+1) s0 m v l).set W0.length b'=sv (W0++(b'::j)) (h.length+1) s0 m v l:=fun a b' j=>by
   rw[mP hn (hmj0 _) b' (by omega),bI _ rfl];rfl
  have hrp:∀(a b c:Blk) (j:Heap) (u:Nat),getRow (sv (W0++(a::b::(j++[c]))) (h.length+1) s0 m v l) (W0.length+(j.length+2)) u=getRow [c] 0 u:=fun a b c j u=>by
   rw[mO hn (hmj0 _) u (by omega),aZ _ rfl,show a::b::(j++[c])=(a::b::j)++[c]from rfl,aF _ (by simp)]
  have hsp:∀(a b c c':Blk) (j:Heap),(sv (W0++(a::b::(j++[c]))) (h.length+1) s0 m v l).set (W0.length+(j.length+2)) c'=sv (W0++(a::b::(j++[c']))) (h.length+1) s0 m v l:=fun a b c c' j=>by
   rw[mP hn (hmj0 _) c' (by omega),bO _ rfl,show a::b::(j++[c])=(a::b::j)++[c]from rfl,bI _ (by simp)];rfl
  refine lm (fun nL tL hL=>∃(k:Nat) (c:Cu) (w:Nat) (acc:List Int) (T:List Ky) (j:Heap),400-k=nL∧sv (W0++(.row 27 3 0 [c.av]:: .row 3 1 w (acc.map iA)::j)) (h.length+1) s0 m v l=hL∧tL 9=.hs (W0.length+1) w 0 acc.length true∧tL 11=.int .i64 k∧T++pgL l ev c=pgL l ev ⟨0,0,false⟩∧Tld T c∧(∀x∈T,(x.d,x.i)∈E0)∧k≤T.length∧acc=T.map (·.i)) ((fun(k:Nat) (c:Cu) (w:Nat) (acc:List Int) (T:List Ky) (j:Heap)=>(400-k:Nat)) (0) (⟨0,0,false⟩) (0) ([]) ([]) ([])) ?_ ?_
  ·refine⟨_,_,Weak.virt 9 3 1 (by simp) (by omega) (by exact zq F),⟨0,⟨0,0,false⟩,0,[],[],[],rfl,by rw[jC hn (hmj0 _),List.append_assoc];rfl,?_,?_,rfl,.nil _,by simp,by simp,rfl⟩⟩
   all_goals first|exact zq F|rfl|omega|trivial|skip
  rintro _ s2 h' ⟨k,c,w,acc,T,j,rfl,rfl,e9,e11,hTa,hTl,hTe,hTk,hac⟩ K2 hK2
  simp only[ai,aj,Nat.reduceEqDiff, ↓reduceIte]at e9 e11
  have F:=F3 F e9 e11
  have hTE:=hTl.len hTe
  have hacl:acc.length≤151:=by rw[hac,List.length_map];omega
  have b1:decide ((k:Int)<400)=true:=by simp;omega
  have hP1:=fun(Y:Heap) (hm:m+2≤Y.length)=>hlk l v (Y:=Y) kc0 hn hm c
  have hTp:=hTl.page kc0.1 ev N
  have hTq:=uU kc0.1 hN.1 hTa
  have hTpe:∀x∈T++(pgL l ev c).take N,(x.d,x.i)∈E0:=fun x hx=>by
   rcases List.mem_append.1 hx with hx|hx
   ·exact hTe x hx
   ·obtain⟨id,t,h1,rfl⟩:=(kc0.2 x).1 ((fa kc0.1).1 (List.mem_of_mem_take hx)).1
    exact hkn0 id t h1
  have htkl:((pgL l ev c).take N).length=if N<(pgL l ev c).length then N else(pgL l ev c).length:=by
   rw[List.length_take];split<;>omega
  have hend:¬N<(pgL l ev c).length→T++(pgL l ev c).take N=pgL l ev ⟨0,0,false⟩:=fun hx=>by rw[List.take_of_length_le (by omega),hTa]
  simp only[y8]at hP1
  generalize (pgL l ev c).length=bl at*
  generalize (pgL l ev c).take N=tk at*
  generalize nxC c tk=c1 at*
  have hal:(tk.map (·.i)).length=tk.length:=List.length_map ..
  have hacc:acc++tk.map (·.i)=(T++tk).map (·.i):=by rw[hac,List.map_append]
  generalize hsh:tk.map (·.i)=sh at*
  have hsl:(sh.map iA).length=sh.length:=List.length_map ..
  have hacl2:(acc.map iA).length=acc.length:=List.length_map ..
  by_cases hmo:N<bl
  ·have dmo:decide (N<bl)=true:=by simp[hmo]
   rw[if_pos hmo]at htkl
   have hshN:sh.length=N:=by omega
   have hTkk:k+1≤(T++tk).length:=by rw[List.length_append];omega
   have hNn:((N:Int)==N)=true:=by simp
   have F:=F2 (F9 F b1 @dmo hsl @hacl2 @hshN hrc hrg hsg) (F4 hsc hrp hsp hNn)
   refine wk F ?_
   refine kq F (hP1 _ (hmj0 _)) ?_
   refine cq F (fun c9=>?_) (fun c9=>?_)<;>(try exact c9.elim)<;>(refine wk F ?_)
   ·exact absurd c9 (by simp)
   ·refine aq F ?_
    try refine sq F ?_
    refine wk F ?_
    refine hK2 _ _ _ (Wkn.refl ⟨k+1,c1,w+1,acc++sh,T++tk,j++[.row 44 5 0 [.agg [.sl 1 (sh.map iA),.int .i64 c1.d,.int .i64 c1.i,.bool c1.set,.bool true]]],rfl,by simp[hshN];rfl,?_,?_,hTq,hTp,hTpe,hTkk,hacc⟩) (by omega)
    all_goals first|exact zq F|rfl|omega|trivial|skip
  ·have dmo:decide (N<bl)=false:=by simp[hmo]
   have hend:=hend hmo
   rw[hend]at hacc
   rw[if_neg hmo]at htkl
   have F:=F2 (F9 F b1 @dmo hsl @hacl2 hrc hrg hsg hsc) (F2 hrp hsp)
   refine wk F ?_
   refine kq F (hP1 _ (hmj0 _)) ?_
   refine aq F ?_
   try refine sq F ?_
   (repeat (first|refine w1 (fun K hK=>?_)|refine w2 ?_|refine w3 ?_| ((first|refine w4 ?_|refine wD ?_|refine w5 ?_|refine w6 ?_|refine w7 ?_);try refine sq F ?_)| (refine w8 ?_;refine sq F ?_;refine w9 ?_)))
   have hg:getRow (sv (W0++(.row 27 3 0 [c.av]:: .row 3 1 (w+1) (acc.map iA++sh.map iA)::(j++[.row 44 5 0 [.agg [.sl 1 (sh.map iA),.int .i64 c1.d,.int .i64 c1.i,.bool c1.set,.bool false]]]))) (h.length+1) s0 m v l) (W0.length+1) (w+1)=some (3,1,acc.map iA++sh.map iA):=by rw[hrg];simp[getRow]
   have ht:∀(ms:List Nat) (t:Env) (H:Heap),getRow H (W0.length+1) (w+1)=some (3,1,acc.map iA++sh.map iA)→9∈ms→t 9=.hs (W0.length+1) (w+1) 0 (acc.length+sh.length) true→∀i,upd t 9 (.sl 1 (acc.map iA++sh.map iA)) i=t i∨(i∈ms∧Fz H (W0.length+1) (w+1) (t i) (upd t 9 (.sl 1 (acc.map iA++sh.map iA)) i)):=fun ms t H hg hm ht i=>by
    by_cases hi:i=9
    ·subst hi
     right
     refine⟨hm,?_⟩
     rw[ht]
     simp only[upd, ↓reduceIte]
     exact Fz.all _ _ _ hg rfl (by simp)
    ·left;simp only[upd];rw[if_neg hi]
   refine GO (Weak.fz (W0.length+1) (w+1) hg (ht _ _ _ hg (by decide+kernel) (by exact zq F))) ?_
   rw[hsg, ← List.map_append,hacc]
   have hid:∀(Y:Heap),m+2≤Y.length→Sat (CT G) 23 [.hp (h.length+1+8) 0 0 0,.agg [.int .i64 qo,.int .i64 qn,.str qs,.sl 4 (qk.map Qy.av)]] (sv Y (h.length+1) s0 m v l) (fun r h'=>r=.tup [.sl 1 (((pgL l ev ⟨0,0,false⟩).map (·.i)).map iA),.int .i64 0]∧h'=sv Y (h.length+1) s0 m v l):=fun Y hY=>hit (vo Y m v l) (h.length+1) (by rw[aN hY];omega)
   have hall:((pgL l ev ⟨0,0,false⟩).map (·.i)).length≤1000000:=by
    rw[← hacc,List.length_append,hal]
    have:=hTp.len hTpe
    rw[List.length_append]at this
    omega
   have hsm:=gF G ((pgL l ev ⟨0,0,false⟩).map (·.i)) ((pgL l ev ⟨0,0,false⟩).map (·.i)) hall hall
   rw[decide_eq_true (rfl:(pgL l ev ⟨0,0,false⟩).map (·.i)=(pgL l ev ⟨0,0,false⟩).map (·.i))]at hsm
   generalize (pgL l ev ⟨0,0,false⟩).map (·.i)=A at*
   clear hg ht
   refine wk F ?_
   refine kq F (hid _ (hmj0 _)) ?_
   refine kq F (hsm _) ?_
   refine ee hQ F ?_
   obtain⟨j0,hj0⟩:=hpre
   exact sk hn (hmj0 _) ⟨_,by rw[hj0,List.append_assoc]⟩ (by omega) ⟨rfl,rfl⟩
 ·exact kp G hc es q hq nn hg h
end Go.Av
