/- The program's counts: all are told. -/
import Derived.Test.YtljpbjilgehfgaaGreatMgEb
import Derived.Test.YtljpbjilgehfgaaGreatMgUa
import Derived.Test.YtljpbjilgehfgaaGreatMgSc
set_option linter.unusedSimpArgs false
set_option linter.unusedVariables false
set_option linter.unusedSectionVars false
set_option linter.unnecessarySimpa false
set_option maxRecDepth 100000
set_option maxHeartbeats 16000000
namespace Go.Av
open Go Go.Proofs Go.RowKit
attribute [local irreducible] WP WPl WPix Sat
def CS.drop(d:CS)(k:Int)(t:It):CS:= {d.count (d.chn t.feed) t (negT (oneT t))with it:=dlM d.it k}
variable (G:Nat→Option (List AVal))
def CS.less(d:CS)(feed:Int):CS:= {d with fe:=dlM d.fe feed,inn:=dlM d.inn feed}
end Go.Av
namespace Go.Av
open Go Go.Proofs Go.RowKit
attribute [local irreducible] WP WPl WPix Sat
variable (G:Nat→Option (List AVal))
def CS.of(c:CS)(kind id:Int)(g:Bs):T2:=
 if kind=1 then c.al else if kind=2 then(lkM c.fo id).getD (0,0)else if kind=3 then(lkM c.fe id).getD (0,0)else if kind=4 then(lkM c.tg g).getD (0,0)else if kind=5 then c.st else(0,0)
end Go.Av
namespace Go.Av
open Go Go.Proofs Go.RowKit
section
variable {κ α:Type} [DecidableEq κ]
def sumM(w:α→Int):ML κ α→Int
 | []=>0
 |e::l=>w e.2.1+sumM w l
def atM(w:α→Int):Option α→Int
 |none=>0
 |some a=>w a
theorem gO(w:α→Int)(l:ML κ α)(c:Nat)(x:κ)(a:α):sumM w (upM l c x a)=sumM w l+w a-atM w (lkM l x):=by
 induction l with
 |nil=>simp[upM,sumM,lkM,atM]
 |cons e l ih=>
  simp only[upM,lkM]
  split
  ·simp only[sumM,atM];omega
  ·simp only[sumM,ih];omega
theorem od(w:α→Int)(l:ML κ α)(x:κ):sumM w (dlM l x)=sumM w l-atM w (lkM l x):=by
 induction l with
 |nil=>simp[dlM,sumM,lkM,atM]
 |cons e l ih=>
  simp only[dlM,lkM]
  split
  ·simp only[sumM,atM];omega
  ·simp only[sumM,ih];omega
omit [DecidableEq κ] in
theorem cP{w:α→Int}(h:∀a,0≤w a)(l:ML κ α):0≤sumM w l:=by
 induction l with
 |nil=>simp[sumM]
 |cons e l ih=>have:=h e.2.1;simp only[sumM];omega
omit [DecidableEq κ] in
theorem gP{w:α→Int}(h:∀a,w a≤1)(l:ML κ α):sumM w l≤l.length:=by
 induction l with
 |nil=>simp[sumM]
 |cons e l ih=>have:=h e.2.1;simp only[sumM,List.length_cons];omega
theorem tN{w:α→Int}(h:∀a,0≤w a)(l:ML κ α)(x:κ):atM w (lkM l x)≤sumM w l:=by
 induction l with
 |nil=>simp[sumM,lkM,atM]
 |cons e l ih=>
  have h1:=h e.2.1
  have h2:=cP h l
  simp only[lkM]
  split
  ·simp only[sumM,atM];omega
  ·simp only[sumM];omega
theorem rb{w:α→Int}(h:∀a,0≤w a){l:ML κ α}(h0:sumM w l≤0){x:κ}{a:α}(hx:lkM l x=some a):w a=0:=by
 have:=tN h l x
 rw[hx]at this
 have:=h a
 simp only[atM]at *;omega
end
def inFo(id:Int)(f:Fo):Int:=if f.inn=id then 1 else 0
def inFe(id:Int)(f:Fe):Int:=if f.inn=id then 1 else 0
theorem gQ(id:Int)(f:Fo):0≤inFo id f:=by unfold inFo;split<;>omega
theorem gR(id:Int)(f:Fe):0≤inFe id f:=by unfold inFe;split<;>omega
theorem og(id:Int)(f:Fo):inFo id f≤1:=by unfold inFo;split<;>omega
theorem oh(id:Int)(f:Fe):inFe id f≤1:=by unfold inFe;split<;>omega
theorem re{l:ML Int Fo}:∀{k:Nat} {id:Int} {d:Nat},deepO l k id=some d→∀{k':Nat},d≤k'→deepO l k' id=some d:=by
 intro k
 induction k with
 |zero=>
  intro id d h k' hk
  rw[deepO]at h
  cases hl:lkM l id with
  |none=>
   rw[hl]at h;simp at h;subst h
   cases k' with
   |zero=>rw[deepO,hl];simp
   |succ k'=>rw[deepO,hl]
  |some f=>rw[hl]at h;simp at h
 |succ k ih=>
  intro id d h k' hk
  rw[deepO]at h
  cases hl:lkM l id with
  |none=>
   rw[hl]at h;simp at h;subst h
   cases k' with
   |zero=>rw[deepO,hl];simp
   |succ k'=>rw[deepO,hl]
  |some f=>
   rw[hl]at h
   simp only[Option.map_eq_some_iff]at h
   obtain⟨j,hj,rfl⟩:=h
   obtain⟨k'',rfl⟩:∃k'',k'=k''+1:=⟨k'-1,by omega⟩
   rw[deepO,hl]
   simp only[ih hj (k':=k'') (by omega),Option.map_some]
theorem ig{l l':ML Int Fo}(P:Int→Prop)(h:∀id,P id→lkM l' id=lkM l id)(hc:∀id f,P id→lkM l id=some f→P f.inn):∀(k:Nat) (id:Int),P id→deepO l' k id=deepO l k id:=by
 intro k
 induction k with
 |zero=>intro id hp;rw[deepO,deepO,h id hp]
 |succ k ih=>
  intro id hp
  rw[deepO,deepO,h id hp]
  cases hl:lkM l id with
  |none=>rfl
  |some f=>simp only[ih f.inn (hc id f hp hl)]
structure PS.Inv (s:PS):Prop where
 w1:WFM s.fo s.c1
 w2:WFM s.fe s.c2
 w3:WFM s.it s.c3
 w4:WFM s.se s.c4
 w7:WFM s.gu s.c7
 w8:WFM s.he s.c8
 i1:∀k f,lkM s.fo k=some f→f.id=k∧1≤k∧k≤1048576
 i2:∀k f,lkM s.fe k=some f→f.id=k∧1≤k∧k≤1048576
 i3:∀k t,lkM s.it k=some t→t.id=k∧1≤k∧k≤1048576
 i4:∀k q,lkM s.se k=some q→q.id=k∧1≤k∧k≤1048576
 u1:∀k f,lkM s.fo k=some f→f.inn=0∨(lkM s.fo f.inn).isSome=true
 u2:∀k f,lkM s.fe k=some f→f.inn=0∨(lkM s.fo f.inn).isSome=true
 u3:∀k t,lkM s.it k=some t→(lkM s.fe t.feed).isSome=true
 dp:∀id,∃d,d≤7∧deepO s.fo 7 id=some d
 hd:∀id,id≠0→(lkM s.he id).getD 0=sumM (inFo id) s.fo+sumM (inFe id) s.fe
 h0:lkM s.he 0=none
 tg:∀k t,lkM s.it k=some t→Srt t.tags∧t.tags.length≤8
 l1:s.fo.length≤64
 l2:s.fe.length≤64
 l3:s.it.length≤1024
 l4:s.se.length≤32
theorem PS.Inv.z:PS.z.Inv where
 w1:=.nil
 w2:=.nil
 w3:=.nil
 w4:=.nil
 w7:=.nil
 w8:=.nil
 i1:=fun _ _ h=>by cases h
 i2:=fun _ _ h=>by cases h
 i3:=fun _ _ h=>by cases h
 i4:=fun _ _ h=>by cases h
 u1:=fun _ _ h=>by cases h
 u2:=fun _ _ h=>by cases h
 u3:=fun _ _ h=>by cases h
 dp:=fun _=>⟨0,by omega,rfl⟩
 hd:=fun _ _=>rfl
 h0:=rfl
 tg:=fun _ _ h=>by cases h
 l1:=by simp[PS.z]
 l2:=by simp[PS.z]
 l3:=by simp[PS.z]
 l4:=by simp[PS.z]
theorem PS.Inv.few{s:PS}(h:s.Inv):s.few:=by
 intro id
 by_cases h0:id=0
 ·subst h0;rw[h.h0];simp
 ·have h1:=h.hd id h0
  have h2:=cP (gQ id) s.fo
  have h3:=cP (gR id) s.fe
  have h4:=gP (og id) s.fo
  have h5:=gP (oh id) s.fe
  have h6:=h.l1
  have h7:=h.l2
  omega
def heF(he:ML Int Int)(c:Nat)(id k:Int):ML Int Int:=if id=0 then he else upM he c id ((lkM he id).getD 0+k)
def chF(he:ML Int Int)(c:Nat)(id:Int):Nat:=if id=0 then c else ckM he c id
theorem cB(s:PS)(id k:Int):s.hold id k= {s with he:=heF s.he s.c8 id k,c8:=chF s.he s.c8 id}:=by
 unfold PS.hold heF chF;split<;>rfl
theorem ed(he:ML Int Int)(c:Nat)(id k x:Int):(lkM (heF he c id k) x).getD 0=(lkM he x).getD 0+(if x=id∧id≠0 then k else 0):=by
 unfold heF
 by_cases h:id=0
 ·rw[if_pos h,if_neg (by omega)];omega
 ·rw[if_neg h,cc]
  by_cases hx:x=id
  ·subst hx;rw[if_pos rfl,if_pos ⟨rfl,h⟩];rfl
  ·rw[if_neg hx,if_neg (by omega)];omega
theorem gS{he:ML Int Int}(c:Nat)(id k:Int)(h:lkM he 0=none):lkM (heF he c id k) 0=none:=by
 unfold heF
 split
 ·exact h
 ·rename_i h1;rw[cc,if_neg (fun e=>h1 e.symm)];exact h
theorem eU{he:ML Int Int}{c:Nat}(w:WFM he c)(id k:Int):WFM (heF he c id k) (chF he c id):=by
 unfold heF chF
 split
 ·exact w
 ·exact w.up _ _
theorem tO{s:PS}(h:s.Inv)(id k:Int)(hk: -1≤k∧k≤1):(s.hold id k).few:=by
 intro x
 have h1:=ed s.he s.c8 id k x
 rw[cB]
 simp only
 have h6:=h.l1
 have h7:=h.l2
 have h2:=cP (gQ x) s.fo
 have h3:=cP (gR x) s.fe
 have h4:=gP (og x) s.fo
 have h5:=gP (oh x) s.fe
 by_cases h0:x=0
 ·subst h0;rw[h1,h.h0];simp only[Option.getD_none];split<;>omega
 ·have:=h.hd x h0
  rw[h1];split<;>omega
def PS.dpt(s:PS)(id:Int):Nat:=(deepO s.fo 7 id).getD 0
def PS.ok(L:Leaf)(s:PS)(e:Ev):Bool:=s.fits (L.ck e) (s.dpt e.b) e
def PS.aft(s:PS)(e:Ev):PS:=s.after (tgF ((lkM s.it e.a).getD It.z).tags e.s e.n) e
def PS.step(L:Leaf)(s:PS)(e:Ev):PS:=if s.ok L e then s.aft e else s
theorem tP{L:Leaf}{e:Ev}(h:L.right e=true)(hk:e.kind≠13):1≤e.a∧e.a≤1048576:=by
 have:idF e.a=true:=by
  unfold Leaf.right at h
  repeat' (split at h)
  all_goals first| (simp only[Bool.and_eq_true]at h;exact h.1)|exact h|omega| (cases h)
 simpa [idF]using this
theorem vH{l:List Bs}{t:Bs}(hs:Srt l)(ht:t ∉ l):Srt (l.take (lbF l t)++t::l.drop (lbF l t)):=by
 induction l with
 |nil=>simp[lbF,Srt]
 |cons a l ih=>
  have hs':=hs
  unfold Srt at hs
  rw[List.pairwise_cons]at hs
  rw[iI]
  split
  ·rename_i hat
   simp only[List.take_succ_cons,List.drop_succ_cons,List.cons_append]
   unfold Srt
   rw[List.pairwise_cons]
   refine⟨fun x hx=>?_,ih hs.2 (fun h=>ht (List.mem_cons_of_mem _ h))⟩
   rw[List.mem_append,List.mem_cons]at hx
   rcases hx with h|rfl|h
   ·exact hs.1 x (List.mem_of_mem_take h)
   ·exact hat
   ·exact hs.1 x (List.mem_of_mem_drop h)
  ·rename_i hat
   simp only[List.take_zero,List.drop_zero,List.nil_append]
   have hat':Op.bytesLess a t=false:=by simpa using hat
   have hta:Op.bytesLess t a=true:=by
    cases h:Op.bytesLess t a with
    |true=>rfl
    |false=>exact(ht (by rw[qX t a h hat'];exact List.mem_cons_self ..)).elim
   unfold Srt
   rw[List.pairwise_cons]
   refine⟨fun x hx=>?_,hs'⟩
   rcases List.mem_cons.1 hx with rfl|h
   ·exact hta
   ·exact iH hta (hs.1 x h)
theorem vI{l:List Bs}(hs:Srt l)(i:Nat):Srt (l.take i++l.drop (i+1)):=by
 rw[← List.eraseIdx_eq_take_drop_succ]
 exact hs.sublist (List.eraseIdx_sublist l i)
theorem vJ{l:List Bs}(hs:Srt l)(t:Bs)(n:Int):Srt (tgF l t n):=by
 unfold tgF
 split
 ·rename_i h;exact vH hs h.2
 ·split
  ·exact vI hs _
  ·exact hs
theorem vK{l:List Bs}(t:Bs)(n:Int)(hl:l.length≤8)(h:n=0∨t∈l∨l.length<8):(tgF l t n).length≤8:=by
 have:=mj l t
 unfold tgF
 split
 ·rename_i h1
  simp only[List.length_append,List.length_cons,List.length_take,List.length_drop]
  rcases h with h|h|h
  ·omega
  ·exact(h1.2 h).elim
  ·omega
 ·split
  ·simp only[List.length_append,List.length_take,List.length_drop];omega
  ·exact hl
end Go.Av
namespace Go.Av
open Go Go.Proofs Go.RowKit
variable {s:PS} {e:Ev}
theorem ka{κ α:Type}[DecidableEq κ]{l:ML κ α}{x:κ}(h:(lkM l x).isSome=false):lkM l x=none:=by
 cases hl:lkM l x with
 |none=>rfl
 |some a=>rw[hl]at h;cases h
theorem cQ{κ α:Type}[DecidableEq κ]{l:ML κ α}{x:κ}(h:(lkM l x).isSome=true):∃a,lkM l x=some a:=Option.isSome_iff_exists.1 h
theorem dL{κ α:Type}[DecidableEq κ]{l:ML κ α}(c:Nat)(x:κ)(a:α){y:κ}(h:(lkM l y).isSome=true):(lkM (upM l c x a) y).isSome=true:=by
 rw[cc];split
 ·rfl
 ·exact h
theorem aK{κ α:Type}[DecidableEq κ]{l:ML κ α}{c:Nat}{x y:κ}{a b:α}(h:lkM (upM l c x a) y=some b):(y=x∧b=a)∨(y≠x∧lkM l y=some b):=by
 rw[cc]at h
 split at h
 ·rename_i hy;cases h;exact .inl ⟨hy,rfl⟩
 ·rename_i hy;exact .inr ⟨hy,h⟩
theorem gx{κ α:Type}[DecidableEq κ]{l:ML κ α}(hn:(l.map (·.1)).Nodup){x y:κ}{b:α}(h:lkM (dlM l x) y=some b):y≠x∧lkM l y=some b:=by
 rw[fZ hn]at h
 split at h
 ·cases h
 ·rename_i hy;exact⟨hy,h⟩
theorem eV{α:Type}{l:ML Int α}(hn:(l.map (·.1)).Nodup){p:Int×α×Nat→Bool}{y:Int}{b:α}(h:lkM (l.filter p) y=some b):lkM l y=some b:=by
 obtain⟨n,hm⟩:=gH h
 exact cF hn (List.mem_filter.1 hm).1
theorem ef{κ α:Type}[DecidableEq κ](l:ML κ α)(c:Nat)(x:κ)(a:α)(m:Nat)(h:l.length<m∨((lkM l x).isSome=true∧l.length≤m)):(upM l c x a).length≤m:=by
 rw[vl];split
 ·omega
 ·rename_i h1;rcases h with h|h
  ·omega
  ·exact(h1 h.1).elim
theorem mm{κ α:Type}[DecidableEq κ](l:ML κ α)(x:κ)(m:Nat)(h:l.length≤m):(dlM l x).length≤m:=Nat.le_trans (gI l x).length_le h
theorem PS.Inv.deep(h:s.Inv)(id:Int):deepO s.fo 7 id=some (s.dpt id)∧s.dpt id≤7:=by
 obtain⟨d,h1,h2⟩:=h.dp id
 unfold PS.dpt;rw[h2];exact⟨rfl,h1⟩
theorem gy(h:s.within e.b=true):e.b=0∨(lkM s.fo e.b).isSome=true:=by
 unfold PS.within at h;simpa using h
theorem PS.Inv.mkFo(h:s.Inv)(ha:1≤e.a∧e.a≤1048576)(hn:(lkM s.fo e.a).isSome=false)(hl:s.fo.length<64)(hw:s.within e.b=true)(hd:s.dpt e.b<7):
  PS.Inv ((((s.upFo e.a ⟨e.a,e.b,e.s⟩).upNm (e.b,e.s) e.a).hold e.b 1).raise 0 e.a):=by
 rw[cB]
 have hb:=gy hw
 have hnn:=ka hn
 have hba:e.b≠e.a:=by
  rcases hb with hb|hb
  ·omega
  ·intro q;rw[q,hn]at hb;cases hb
 have hcg:∀k id,id≠e.a→deepO (upM s.fo s.c1 e.a ⟨e.a,e.b,e.s⟩) k id=deepO s.fo k id:=by
  refine ig (fun id=>id≠e.a) (fun id hi=>by rw[cc,if_neg hi]) (fun id f hi hf=>?_)
  rcases h.u1 id f hf with h1|h1
  ·omega
  ·intro q;rw[q,hn]at h1;cases h1
 exact {h with
  w1:=h.w1.up _ _
  w8:=eU h.w8 _ _
  i1:=fun k f hk=>by
   rcases aK (l:=s.fo) hk with⟨rfl,rfl⟩| ⟨_,hk⟩
   ·exact⟨rfl,ha⟩
   ·exact h.i1 k f hk
  u1:=fun k f hk=>by
   rcases aK (l:=s.fo) hk with⟨rfl,rfl⟩| ⟨_,hk⟩
   ·exact hb.imp id (dL _ _ _)
   ·exact(h.u1 k f hk).imp id (dL _ _ _)
  u2:=fun k f hk=>(h.u2 k f hk).imp id (dL _ _ _)
  dp:=fun id=>by
   show ∃d,d≤7∧deepO (upM s.fo s.c1 e.a ⟨e.a,e.b,e.s⟩) 7 id=some d
   by_cases hi:id=e.a
   ·subst hi
    obtain⟨h1,h2⟩:=h.deep e.b
    refine⟨s.dpt e.b+1,by omega,?_⟩
    rw[deepO,cc,if_pos rfl]
    simp only[hcg 6 e.b hba,re h1 (k':=6) (by omega),Option.map_some]
   ·obtain⟨d,h1,h2⟩:=h.dp id
    exact⟨d,h1,by rw[hcg 7 id hi,h2]⟩
  hd:=fun id hi=>by
   show(lkM (heF s.he s.c8 e.b 1) id).getD 0=sumM (inFo id) (upM s.fo s.c1 e.a ⟨e.a,e.b,e.s⟩)+sumM (inFe id) s.fe
   rw[ed,gO,hnn,h.hd id hi]
   simp only[atM,inFo]
   by_cases hx:e.b=id
   ·subst hx;simp[hi];omega
   ·rw[if_neg (by omega),if_neg hx];omega
  h0:=gS _ _ _ h.h0
  l1:=ef _ _ _ _ _ (.inl hl)}
theorem PS.Inv.mkFe(h:s.Inv)(ha:1≤e.a∧e.a≤1048576)(hn:(lkM s.fe e.a).isSome=false)(hl:s.fe.length<64)(hw:s.within e.b=true):
  PS.Inv ((((s.upFe e.a ⟨e.a,e.b,e.s,e.t⟩).upPl e.s e.a).hold e.b 1).raise 1 e.a):=by
 rw[cB]
 have hb:=gy hw
 have hnn:=ka hn
 exact {h with
  w2:=h.w2.up _ _
  w8:=eU h.w8 _ _
  i2:=fun k f hk=>by
   rcases aK (l:=s.fe) hk with⟨rfl,rfl⟩| ⟨_,hk⟩
   ·exact⟨rfl,ha⟩
   ·exact h.i2 k f hk
  u2:=fun k f hk=>by
   rcases aK (l:=s.fe) hk with⟨rfl,rfl⟩| ⟨_,hk⟩
   ·exact hb
   ·exact h.u2 k f hk
  u3:=fun k f hk=>dL _ _ _ (h.u3 k f hk)
  hd:=fun id hi=>by
   show(lkM (heF s.he s.c8 e.b 1) id).getD 0=sumM (inFo id) s.fo+sumM (inFe id) (upM s.fe s.c2 e.a ⟨e.a,e.b,e.s,e.t⟩)
   rw[ed,gO,hnn,h.hd id hi]
   simp only[atM,inFe]
   by_cases hx:e.b=id
   ·subst hx;simp[hi];omega
   ·rw[if_neg (by omega),if_neg hx];omega
  h0:=gS _ _ _ h.h0
  l2:=ef _ _ _ _ _ (.inl hl)}
theorem PS.Inv.mkIt(h:s.Inv)(ha:1≤e.a∧e.a≤1048576)(hl:s.it.length<1024)(hw:(lkM s.fe e.b).isSome=true):
  PS.Inv (((s.upIt e.a ⟨e.a,e.b,e.n,e.s,e.t,e.u,false,false,[]⟩).upGu (e.b,e.s) e.a).raise 2 e.a):=
 {h with
  w3:=h.w3.up _ _
  w7:=h.w7.up _ _
  i3:=fun k f hk=>by
   rcases aK (l:=s.it) hk with⟨rfl,rfl⟩| ⟨_,hk⟩
   ·exact⟨rfl,ha⟩
   ·exact h.i3 k f hk
  u3:=fun k f hk=>by
   rcases aK (l:=s.it) hk with⟨rfl,rfl⟩| ⟨_,hk⟩
   ·exact hw
   ·exact h.u3 k f hk
  tg:=fun k f hk=>by
   rcases aK (l:=s.it) hk with⟨rfl,rfl⟩| ⟨_,hk⟩
   ·exact⟨by simp[Srt],by simp⟩
   ·exact h.tg k f hk
  l3:=ef _ _ _ _ _ (.inl hl)}
theorem PS.Inv.mkSe(h:s.Inv)(ha:1≤e.a∧e.a≤1048576)(hl:s.se.length<32):PS.Inv ((s.upSe e.a ⟨e.a,e.s,e.t⟩).raise 3 e.a):=
 {h with
  w4:=h.w4.up _ _
  i4:=fun k f hk=>by
   rcases aK (l:=s.se) hk with⟨rfl,rfl⟩| ⟨_,hk⟩
   ·exact⟨rfl,ha⟩
   ·exact h.i4 k f hk
  l4:=ef _ _ _ _ _ (.inl hl)}
theorem PS.Inv.reIt(h:s.Inv){k:Int}{t:It}(t':It)(hk:lkM s.it k=some t)(h1:t'.id=t.id)(h2:t'.feed=t.feed)(h3:Srt t'.tags∧t'.tags.length≤8):PS.Inv (s.upIt k t'):=
 {h with
  w3:=h.w3.up _ _
  i3:=fun j f hj=>by
   rcases aK (l:=s.it) hj with⟨rfl,rfl⟩| ⟨_,hj⟩
   ·rw[h1];exact h.i3 _ _ hk
   ·exact h.i3 j f hj
  u3:=fun j f hj=>by
   rcases aK (l:=s.it) hj with⟨rfl,rfl⟩| ⟨_,hj⟩
   ·rw[h2];exact h.u3 _ _ hk
   ·exact h.u3 j f hj
  tg:=fun j f hj=>by
   rcases aK (l:=s.it) hj with⟨rfl,rfl⟩| ⟨_,hj⟩
   ·exact h3
   ·exact h.tg j f hj
  l3:=ef _ _ _ _ _ (.inr ⟨by rw[hk];rfl,h.l3⟩)}
theorem PS.Inv.unFo(h:s.Inv){k:Int}{f:Fo}(hk:lkM s.fo k=some f)(h0:(lkM s.he k).getD 0=0):PS.Inv (((s.dlNm (f.inn,f.name)).dlFo k).hold f.inn (-1)):=by
 rw[cB]
 have hk1:=(h.i1 _ _ hk).2
 have hs:=h.hd k (by omega)
 have n1:=cP (gQ k) s.fo
 have n2:=cP (gR k) s.fe
 have hA:∀j g,lkM s.fo j=some g→g.inn≠k:=fun j g hg q=>by
  have:=rb (gQ k) (l:=s.fo) (by omega) hg
  rw[inFo,if_pos q]at this;omega
 have hB:∀j g,lkM s.fe j=some g→g.inn≠k:=fun j g hg q=>by
  have:=rb (gR k) (l:=s.fe) (by omega) hg
  rw[inFe,if_pos q]at this;omega
 have hcg:∀m id,id≠k→deepO (dlM s.fo k) m id=deepO s.fo m id:=
  ig (fun id=>id≠k) (fun id hi=>by rw[fZ h.w1.keys,if_neg hi]) (fun id g _ hg=>hA id g hg)
 have hst:∀x,x≠k→(lkM s.fo x).isSome=true→(lkM (dlM s.fo k) x).isSome=true:=fun x hx hs=>by rw[fZ h.w1.keys,if_neg hx];exact hs
 exact {h with
  w1:=h.w1.dl _
  w8:=eU h.w8 _ _
  i1:=fun j g hj=>h.i1 j g (gx h.w1.keys hj).2
  u1:=fun j g hj=>by
   obtain⟨_,hj⟩:=gx h.w1.keys hj
   exact(h.u1 j g hj).imp id (hst _ (hA j g hj))
  u2:=fun j g hj=>(h.u2 j g hj).imp id (hst _ (hB j g hj))
  dp:=fun id=>by
   show ∃d,d≤7∧deepO (dlM s.fo k) 7 id=some d
   by_cases hi:id=k
   ·subst hi;exact⟨0,by omega,by rw[deepO,fZ h.w1.keys,if_pos rfl]⟩
   ·rw[hcg 7 id hi];exact h.dp id
  hd:=fun id hi=>by
   show(lkM (heF s.he s.c8 f.inn (-1)) id).getD 0=sumM (inFo id) (dlM s.fo k)+sumM (inFe id) s.fe
   rw[ed,od,hk,h.hd id hi]
   simp only[atM,inFo]
   by_cases hx:f.inn=id
   ·subst hx;simp[hi];omega
   ·rw[if_neg (by omega),if_neg hx];omega
  h0:=gS _ _ _ h.h0
  l1:=mm _ _ _ h.l1}
theorem PS.Inv.reTi(h:s.Inv){k:Int}{f:Fe}(t:Bs)(hk:lkM s.fe k=some f):PS.Inv (s.upFe k {f with title:=t}):=
 {h with
  w2:=h.w2.up _ _
  i2:=fun j g hj=>by
   rcases aK (l:=s.fe) hj with⟨rfl,rfl⟩| ⟨_,hj⟩
   ·have:=h.i2 _ _ hk;exact this
   ·exact h.i2 j g hj
  u2:=fun j g hj=>by
   rcases aK (l:=s.fe) hj with⟨rfl,rfl⟩| ⟨_,hj⟩
   ·have:=h.u2 _ _ hk;exact this
   ·exact h.u2 j g hj
  u3:=fun j g hj=>dL _ _ _ (h.u3 j g hj)
  hd:=fun id hi=>by
   show(lkM s.he id).getD 0=sumM (inFo id) s.fo+sumM (inFe id) (upM s.fe s.c2 k {f with title:=t})
   rw[gO,hk,h.hd id hi]
   simp only[atM,inFe];omega
  l2:=ef _ _ _ _ _ (.inr ⟨by rw[hk];rfl,h.l2⟩)}
theorem PS.Inv.reIn(h:s.Inv){k b:Int}{f:Fe}(hk:lkM s.fe k=some f)(hb:b=0∨(lkM s.fo b).isSome=true):PS.Inv (((s.hold f.inn (-1)).hold b 1).upFe k {f with inn:=b}):=by
 rw[cB s,cB]
 exact {h with
  w2:=h.w2.up _ _
  w8:=eU (eU h.w8 _ _) _ _
  i2:=fun j g hj=>by
   rcases aK (l:=s.fe) hj with⟨rfl,rfl⟩| ⟨_,hj⟩
   ·have:=h.i2 _ _ hk;exact this
   ·exact h.i2 j g hj
  u2:=fun j g hj=>by
   rcases aK (l:=s.fe) hj with⟨rfl,rfl⟩| ⟨_,hj⟩
   ·exact hb
   ·exact h.u2 j g hj
  u3:=fun j g hj=>dL _ _ _ (h.u3 j g hj)
  hd:=fun id hi=>by
   show(lkM (heF (heF s.he s.c8 f.inn (-1)) (chF s.he s.c8 f.inn) b 1) id).getD 0=sumM (inFo id) s.fo+sumM (inFe id) (upM s.fe s.c2 k {f with inn:=b})
   rw[ed,ed,gO,hk,h.hd id hi]
   simp only[atM,inFe]
   by_cases h1:f.inn=id
   ·by_cases h2:b=id
    ·rw[if_pos ⟨h1.symm,by omega⟩,if_pos ⟨h2.symm,by omega⟩,if_pos h1,if_pos h2];omega
    ·rw[if_pos ⟨h1.symm,by omega⟩,if_neg (by omega),if_pos h1,if_neg h2];omega
   ·by_cases h2:b=id
    ·rw[if_neg (by omega),if_pos ⟨h2.symm,by omega⟩,if_neg h1,if_pos h2];omega
    ·rw[if_neg (by omega),if_neg (by omega),if_neg h1,if_neg h2];omega
  h0:=gS _ _ _ (gS _ _ _ h.h0)
  l2:=ef _ _ _ _ _ (.inr ⟨by rw[hk];rfl,h.l2⟩)}
theorem PS.Inv.unFe(h:s.Inv){k:Int}{f:Fe}(hk:lkM s.fe k=some f):PS.Inv (s.unfeed f):=by
 have hfk:=(h.i2 _ _ hk).1
 unfold PS.unfeed
 rw[cB]
 exact {h with
  w2:=h.w2.dl _
  w3:=h.w3.filter _
  w7:=h.w7.filter _
  w8:=eU h.w8 _ _
  i2:=fun j g hj=>h.i2 j g (gx h.w2.keys hj).2
  i3:=fun j t hj=>h.i3 j t (eV h.w3.keys hj)
  u2:=fun j g hj=>h.u2 j g (gx h.w2.keys hj).2
  u3:=fun j t hj=>by
   have hj':lkM (itF s.it f.id) j=some t:=hj
   show(lkM (dlM s.fe f.id) t.feed).isSome=true
   have hne:t.feed≠f.id:=by
    obtain⟨n,hm⟩:=gH hj'
    have:=(List.mem_filter.1 hm).2
    simpa using this
   rw[fZ h.w2.keys,if_neg hne]
   exact h.u3 j t (eV h.w3.keys hj')
  hd:=fun id hi=>by
   show(lkM (heF s.he s.c8 f.inn (-1)) id).getD 0=sumM (inFo id) s.fo+sumM (inFe id) (dlM s.fe f.id)
   rw[ed,od,hfk,hk,h.hd id hi]
   simp only[atM,inFe]
   by_cases hx:f.inn=id
   ·subst hx;simp[hi];omega
   ·rw[if_neg (by omega),if_neg hx];omega
  h0:=gS _ _ _ h.h0
  tg:=fun j t hj=>h.tg j t (eV h.w3.keys hj)
  l2:=mm _ _ _ h.l2
  l3:=Nat.le_trans (List.length_filter_le _ _) h.l3}
theorem PS.Inv.unSe(h:s.Inv)(k:Int):PS.Inv (s.dlSe k):=
 {h with
  w4:=h.w4.dl _
  i4:=fun j g hj=>h.i4 j g (gx h.w4.keys hj).2
  l4:=mm _ _ _ h.l4}
theorem PS.Inv.clk(h:s.Inv)(k:Int):PS.Inv {s with clock:=k}:= {h with}
theorem PS.Inv.step{L:Leaf}(h:s.Inv)(e:Ev):(s.step L e).Inv:=by
 unfold PS.step
 split
 ·rename_i hok
  unfold PS.ok PS.fits at hok
  rw[Bool.and_eq_true]at hok
  obtain⟨hck,hf⟩:=hok
  have hr:L.right e=true:=by unfold Leaf.ck at hck;simp only[Bool.and_eq_true]at hck;exact hck.1
  have ha:e.kind≠13→1≤e.a∧e.a≤1048576:=fun hk=>tP hr hk
  unfold PS.aft PS.after
  by_cases k1:e.kind=1
  ·rw[if_pos k1]at hf
   simp only[Bool.and_eq_true,Bool.not_eq_true',decide_eq_true_eq,beq_iff_eq]at hf
   rw[if_neg (by omega),if_neg (by omega),if_neg (by omega),if_neg (by omega),if_neg (by omega),if_neg (by omega),if_neg (by omega),if_neg (by omega),if_neg (by omega),PS.make,if_pos k1]
   exact h.mkFo (ha (by omega)) hf.1.1.1.1 hf.1.1.1.2 hf.1.1.2 hf.1.2
  rw[if_neg k1]at hf
  by_cases k2:e.kind=2
  ·rw[if_pos k2]at hf ⊢
   simp only[Bool.and_eq_true,beq_iff_eq]at hf
   obtain⟨f,hfo⟩:=cQ hf.1
   rw[hfo]
   exact h.unFo hfo hf.2
  rw[if_neg k2]at hf ⊢
  by_cases k3:e.kind=3
  ·rw[if_pos k3]at hf
   simp only[Bool.and_eq_true,Bool.not_eq_true',decide_eq_true_eq,beq_iff_eq]at hf
   rw[if_neg (by omega),if_neg (by omega),if_neg (by omega),if_neg (by omega),if_neg (by omega),if_neg (by omega),if_neg (by omega),if_neg (by omega),PS.make,if_neg (by omega),if_pos k3]
   exact h.mkFe (ha (by omega)) hf.1.1.1 hf.1.1.2 hf.1.2
  rw[if_neg k3]at hf
  by_cases k4:e.kind=4
  ·rw[if_pos (.inl k4)]at hf
   rw[if_pos k4]
   obtain⟨f,hfo⟩:=cQ hf
   rw[hfo]
   exact h.unFe hfo
  rw[if_neg k4]
  by_cases k5:e.kind=5
  ·rw[if_pos (.inr k5)]at hf
   rw[if_pos k5]
   obtain⟨f,hfo⟩:=cQ hf
   rw[hfo]
   exact h.reTi _ hfo
  rw[if_neg (by omega)]at hf
  rw[if_neg k5]
  by_cases k6:e.kind=6
  ·rw[if_pos k6]at hf ⊢
   simp only[Bool.and_eq_true]at hf
   obtain⟨f,hfo⟩:=cQ hf.1
   rw[hfo]
   exact h.reIn hfo (gy hf.2)
  rw[if_neg k6]at hf ⊢
  by_cases k7:e.kind=7
  ·rw[if_pos k7]at hf
   simp only[Bool.and_eq_true,Bool.not_eq_true',decide_eq_true_eq,beq_iff_eq]at hf
   rw[if_neg (by omega),if_neg (by omega),if_neg (by omega),if_neg (by omega),if_neg (by omega),PS.make,if_neg (by omega),if_neg (by omega),if_pos k7]
   exact h.mkIt (ha (by omega)) hf.1.1.2 hf.1.2
  rw[if_neg k7]at hf
  by_cases k8:e.kind=8
  ·rw[if_pos (.inl k8)]at hf
   rw[if_pos k8]
   obtain⟨f,hfo⟩:=cQ hf
   rw[hfo]
   have htg:=h.tg _ _ hfo
   exact h.reIt _ hfo rfl rfl htg
  rw[if_neg k8]
  by_cases k9:e.kind=9
  ·rw[if_pos (.inr k9)]at hf
   rw[if_pos k9]
   obtain⟨f,hfo⟩:=cQ hf
   rw[hfo]
   have htg:=h.tg _ _ hfo
   exact h.reIt _ hfo rfl rfl htg
  rw[if_neg (by omega)]at hf
  rw[if_neg k9]
  by_cases k10:e.kind=10
  ·rw[if_pos k10]at hf ⊢
   simp only[Bool.and_eq_true,Bool.or_eq_true,decide_eq_true_eq]at hf
   obtain⟨f,hfo⟩:=cQ hf.1
   rw[hfo]at hf ⊢
   simp only[Option.getD_some]at hf ⊢
   have htg:=h.tg _ _ hfo
   exact h.reIt _ hfo rfl rfl ⟨vJ htg.1 _ _,vK _ _ htg.2 (by rcases hf.2 with(h1|h1)|h1<;>simp[h1])⟩
  rw[if_neg k10]at hf ⊢
  by_cases k11:e.kind=11
  ·rw[if_pos k11]at hf
   simp only[Bool.and_eq_true,Bool.not_eq_true',decide_eq_true_eq]at hf
   rw[if_neg (by omega),if_neg (by omega),PS.make,if_neg (by omega),if_neg (by omega),if_neg (by omega),if_pos k11]
   exact h.mkSe (ha (by omega)) hf.2
  rw[if_neg k11]at hf
  by_cases k12:e.kind=12
  ·rw[if_pos k12];exact h.unSe _
  rw[if_neg k12]
  by_cases k13:e.kind=13
  ·rw[if_pos k13];exact h.clk _
  ·exfalso
   unfold Leaf.right at hr
   rw[if_neg k1,if_neg (by omega),if_neg k3,if_neg k5,if_neg k6,if_neg k7,if_neg (by omega),if_neg k10,if_neg k11,if_neg k13]at hr
   cases hr
 ·exact h
theorem PS.Inv.fold{L:Leaf}(h:s.Inv)(l:List Ev):(l.foldl (PS.step L) s).Inv:=by
 induction l generalizing s with
 |nil=>exact h
 |cons e l ih=>exact ih (h.step e)
theorem mn{α:Type}{z:α}{l:ML Int α}{a:α}(h:a∈valsM z l):∃k,lkM l k=some a:=by
 unfold valsM at h
 obtain⟨k,hk,rfl⟩:=List.mem_map.1 h
 have hk2:k∈l.map (·.1):=(List.mergeSort_perm _ _).mem_iff.1 hk
 refine⟨k,?_⟩
 cases hl:lkM l k with
 |none=>
  have:(lkM l k).isSome=false:=by rw[hl];rfl
  exact(jS this hk2).elim
 |some a=>rfl
theorem jm{α:Type}{l:ML Int α}{c:Nat}(w:WFM l c)(h:∀k a,lkM l k=some a→1≤k∧k≤1048576):∀e∈l,inI e.1:=fun e he=>by
 have:=h e.1 e.2.1 (cF w.keys (b:=e.2.2) (by exact he))
 unfold inI;omega
theorem PS.Inv.toOk(h:s.Inv):s.Ok where
 w1:=h.w1
 w2:=h.w2
 w3:=h.w3
 w4:=h.w4
 b1:=jm h.w1 fun k f hk=>(h.i1 k f hk).2
 b2:=jm h.w2 fun k f hk=>(h.i2 k f hk).2
 b3:=jm h.w3 fun k f hk=>(h.i3 k f hk).2
 b4:=jm h.w4 fun k f hk=>(h.i4 k f hk).2
 l1:=Nat.le_trans h.l1 (by omega)
 l2:=Nat.le_trans h.l2 (by omega)
 l3:=Nat.le_trans h.l3 (by omega)
 l4:=Nat.le_trans h.l4 (by omega)
 tg:=fun t ht=>by
  obtain⟨k,hk⟩:=mn ht
  exact Nat.le_trans (h.tg k t hk).2 (by omega)
theorem PS.Inv.tags(h:s.Inv)(id:Int):Srt ((lkM s.it id).getD It.z).tags∧((lkM s.it id).getD It.z).tags.length≤8:=by
 cases hl:lkM s.it id with
 |none=>exact⟨by simp[It.z,Srt],by simp[It.z]⟩
 |some t=>exact h.tg id t hl
end Go.Av
namespace Go.Av
open Go Go.Proofs Go.RowKit
variable {c d:CS} {s:PS} {e:Ev}
theorem kQ{α:Type}{l:ML Int α}(hn:(l.map (·.1)).Nodup)(p:α→Bool)(x:Int):lkM (l.filter fun e=>p e.2.1) x=(lkM l x).filter p:=by
 induction l with
 |nil=>rfl
 |cons e l ih=>
  rw[List.map_cons,List.nodup_cons]at hn
  rw[List.filter_cons,lkM]
  by_cases hx:x=e.1
  ·rw[if_pos hx]
   cases hp:p e.2.1 with
   |true=>rw[if_pos rfl,lkM,if_pos hx,Option.filter,if_pos hp]
   |false=>
    rw[if_neg (by simp),ih hn.2,hx,lL hn.1]
    simp[Option.filter,hp]
  ·rw[if_neg hx, ← ih hn.2]
   split
   ·rw[lkM,if_neg hx]
   ·rfl
end Go.Av
namespace Go.Av
open Go Go.Proofs Go.RowKit
attribute [local irreducible] WP WPl WPix Sat
variable (G:Nat→Option (List AVal))
def CS.mkFo(c:CS)(f:Fo):CS:= {c with fo:=upM c.fo c.c1 f.id (0,0),c1:=ckM c.fo c.c1 f.id,ab:=upM c.ab c.c6 f.id f.inn,c6:=ckM c.ab c.c6 f.id}
def CS.mkFe(c:CS)(f:Fe):CS:= {c with fe:=upM c.fe c.c2 f.id (0,0),c2:=ckM c.fe c.c2 f.id,inn:=upM c.inn c.c5 f.id f.inn,c5:=ckM c.inn c.c5 f.id}
end Go.Av
namespace Go.Av
open Go Go.Proofs Go.RowKit
variable {c d:CS} {s:PS} {e:Ev}
theorem mq{α:Type}{z:α}{l:ML Int α}{k:Int}{a:α}(h:lkM l k=some a):a∈valsM z l:=by
 unfold valsM
 refine List.mem_map.2 ⟨k,?_,by rw[h];rfl⟩
 refine(List.mergeSort_perm _ _).mem_iff.2 ?_
 obtain⟨n,hn⟩:=gH h
 exact List.mem_map.2 ⟨_,hn,rfl⟩
theorem tQ{α:Type}{z:α}{l:ML Int α}{c:Nat}(w:WFM l c)(idf:α→Int)(hid:∀k a,lkM l k=some a→idf a=k):(valsM z l).map idf=sortI (l.map (·.1)):=by
 unfold valsM
 rw[List.map_map]
 have:∀k∈sortI (l.map (·.1)),(idf ∘ fun k=>(lkM l k).getD z) k=k:=fun k hk=>by
  have hk2:k∈l.map (·.1):=(List.mergeSort_perm _ _).mem_iff.1 hk
  obtain⟨x,hx,rfl⟩:=List.mem_map.1 hk2
  have:=cF w.keys (b:=x.2.2) (a:=x.2.1) (x:=x.1) hx
  simp only[Function.comp,this,Option.getD_some]
  exact hid _ _ this
 rw[List.map_congr_left this,List.map_id']
theorem nw{l:List Int}(h:l.Nodup):(sortI l).Nodup:=(List.mergeSort_perm l _).nodup_iff.2 h
theorem eh{α:Type}{z:α}(l:ML Int α):(valsM z l).length=l.length:=by unfold valsM;rw[List.length_map,cy,List.length_map]
end Go.Av
namespace Go.Av
open Go Go.Proofs Go.RowKit
attribute [local irreducible] WP WPl WPix Sat
variable (G:Nat→Option (List AVal))
theorem tY(N:Nat)(a b c d e f k:Int):Clo N (.tup [.agg [.int .i64 a,.int .i64 b,.int .i64 c,.int .i64 d,.int .i64 e,.int .i64 f],.int .i64 k]):=.tup _ fun x hx=>by
 simp only[List.mem_cons,List.not_mem_nil,or_false]at hx
 rcases hx with rfl|rfl
 ·exact bF fun c hc=>by simp at hc;rcases hc with rfl|rfl|rfl|rfl|rfl|rfl<;>simp
 ·exact .int _ _
def momF(n:Int):Bool:=decide (-62135596800≤n)&&decide (n≤253402300799)
theorem ii(n a b:Int)(h:Heap):Sat (CT G) 231 [.int .i64 n,.int .i64 a,.int .i64 b] h (fun r h'=>r=.bool (decide (a≤n)&&decide (n≤b))∧h'=h):=by
 by_cases k:a≤n
 ·have k2:decide (n≥a)=true:=by simpa using k
  have F:=k2
  refine sb [.tmp 6] (fn:=Tryz.f231) Tryz.func231 ?_
  intro Q hQ
  refine wk F ?_
  refine ee hQ F ?_
  exact Fin.same (.bool _) ⟨by simp[k],rfl⟩
 ·have k2:decide (n≥a)=false:=by simpa using k
  have F:=k2
  refine sb [.tmp 6] (fn:=Tryz.f231) Tryz.func231 ?_
  intro Q hQ
  refine wk F ?_
  refine ee hQ F ?_
  exact Fin.same (.bool _) ⟨by simp[k],rfl⟩
theorem ot(n:Int)(h:Heap):Sat (CT G) 179 [.int .i64 n] h (fun r h'=>(∃a b c d e f:Int,r=.tup [.agg [.int .i64 a,.int .i64 b,.int .i64 c,.int .i64 d,.int .i64 e,.int .i64 f],.int .i64 (if momF n then 0 else 40)])∧h'=h):=by
 cases hm:momF n with
 |false=>
  unfold momF at hm
  have hW:=ii G n (-62135596800) 253402300799
  rw[hm]at hW
  refine sb [.cell 2 222,.tmp 3] (fn:=Tryz.f179) Tryz.func179 ?_
  intro Q hQ
  refine wk trivial ?_
  refine kq trivial (hW _) ?_
  refine ye hQ trivial ?_
  exact Fin.plain (tY ..) ⟨⟨_,_,_,_,_,_,rfl⟩,rfl⟩
 |true=>
  have hm2:=hm
  unfold momF at hm2
  have hW:=ii G n (-62135596800) 253402300799
  rw[hm2]at hW
  simp only[Bool.and_eq_true,decide_eq_true_eq]at hm2
  obtain⟨m1,m2⟩:=hm2
  refine sb [.cell 2 222,.tmp 3] (fn:=Tryz.f179) Tryz.func179 ?_
  intro Q hQ
  refine wk trivial ?_
  refine kq trivial (hW _) ?_
  refine cq trivial (fun c1=>?_) (fun c1=>?_)<;>(try exact c1.elim)<;>(refine wk trivial ?_)
  ·refine ye hQ trivial ?_
   exact Fin.plain (tY ..) ⟨⟨_,_,_,_,_,_,rfl⟩,rfl⟩
  ·refine ye hQ trivial ?_
   exact Fin.plain (tY ..) ⟨⟨_,_,_,_,_,_,rfl⟩,rfl⟩
theorem nC(n:Int)(h:Heap):Sat (CT G) 200 [.int .i64 n] h (fun r h'=>r=.bool (momF n)∧h'=h):=by
 refine sb [.tmp 2] (fn:=Tryz.f200) Tryz.func200 ?_
 intro Q hQ
 refine wk trivial ?_
 refine(ot G n _).mono ?_
 rintro r h' ⟨⟨_,_,_,_,_,_,rfl⟩,rfl⟩
 cases hm:momF n
 ·have F:=hm
  try refine sq F ?_
  refine wk F ?_
  refine ee hQ F ?_
  exact Fin.plain (.bool _) ⟨rfl,rfl⟩
 ·have F:=hm
  try refine sq F ?_
  refine wk F ?_
  refine ee hQ F ?_
  exact Fin.plain (.bool _) ⟨rfl,rfl⟩
end Go.Av
namespace Go.Av
open Go Go.Proofs Go.RowKit
attribute [local irreducible] WP WPl WPix Sat
section
variable {C:Ctx} {ops:Array Oper} {t:Env} {h:Heap} {dst:Option Nat} {ty:TypeId} {pos:String} {aft:Array Edge} {T:TypeId}
end
structure Ct where
 kind:Int
 id:Int
 tag:Bs
 all:Int
 un:Int
def Ct.av(x:Ct):AVal:=.agg [.int .i64 x.kind,.int .i64 x.id,.str x.tag,.int .i64 x.all,.int .i64 x.un]
def ctI(kind:Int)(l:ML Int T2)(id:Int):Ct:=⟨kind,id,[],((lkM l id).getD (0,0)).1,((lkM l id).getD (0,0)).2⟩
def toldI(kind:Int)(l:ML Int T2):List Ct:=(sortI (l.map (·.1))).map (ctI kind l)
def ctS(l:ML Bs T2)(g:Bs):Ct:=⟨4,0,g,((lkM l g).getD (0,0)).1,((lkM l g).getD (0,0)).2⟩
def toldS(l:ML Bs T2):List Ct:=(sortB (l.map (·.1))).map (ctS l)
def CS.tell(c:CS):List Ct:=⟨1,0,[],c.al.1,c.al.2⟩::(toldI 2 c.fo++toldI 3 c.fe++toldS c.tg)++[⟨5,0,[],c.st.1,c.st.2⟩]
variable (G:Nat→Option (List AVal))
end Go.Av
namespace Go.Av
open Go Go.Proofs Go.RowKit
attribute [local irreducible] WP WPl WPix Sat
variable (G:Nat→Option (List AVal))
end Go.Av
