/- Laws of counts: what must come of every program (lives). -/
import Derived.Test.YtljpbjilgehfgaaGreatMgNg
import Derived.Test.YtljpbjilgehfgaaGreatMgCj
import Derived.Test.YtljpbjilgehfgaaGreatMgEc
set_option linter.unusedSimpArgs false
set_option linter.unusedVariables false
set_option linter.unusedSectionVars false
set_option linter.unnecessarySimpa false
set_option maxRecDepth 100000
set_option maxHeartbeats 16000000
namespace Go.Av
open Go Go.Proofs Go.RowKit
attribute [local irreducible] WP WPl WPix Sat
def textF(ri:Bs→Bool)(cl:Bs→Bs)(t:Bs)(n:Int):Bool:=decide ((t.length:Int)≤n)&&(ri t&&cl t==t)
variable (G:Nat→Option (List AVal))
theorem dD(ri:Bs→Bool)(cl:Bs→Bs)(hR:∀t,t.length≤1000→∀h,Sat (CT G) 278 [.str t] h (fun r h'=>r=.bool (ri t)∧h'=h))(hC:∀t,t.length≤1000→∀h,Sat (CT G) 279 [.str t] h (fun r h'=>r=.str (cl t)∧h'=h))(t:Bs)(n:Int)(hn:n≤1000)(h:Heap):Sat (CT G) 248 [.str t,.int .i64 n] h (fun r h'=>r=.bool (textF ri cl t n)∧h'=h):=by
 cases hl:decide ((t.length:Int)≤n)with
 |false=>
  have F:=hl
  refine sb [.tmp 4] (fn:=Tryz.f248) Tryz.func248 ?_
  intro Q hQ
  refine wk F ?_
  refine ee hQ F ?_
  exact Fin.same (.bool _) ⟨by simp[textF,hl],rfl⟩
 |true=>
  have hlt:t.length≤1000:=by have:=of_decide_eq_true hl;omega
  cases hr:ri t with
  |false=>
   have hR1:=hR t hlt
   rw[hr]at hR1
   have F:=hl
   refine sb [.tmp 4] (fn:=Tryz.f248) Tryz.func248 ?_
   intro Q hQ
   refine wk F ?_
   refine kq F (hR1 _) ?_
   refine ee hQ F ?_
   exact Fin.same (.bool _) ⟨by simp[textF,hl,hr],rfl⟩
  |true=>
   have hR1:=hR t hlt
   rw[hr]at hR1
   have F:=hl
   refine sb [.tmp 4] (fn:=Tryz.f248) Tryz.func248 ?_
   intro Q hQ
   refine wk F ?_
   refine kq F (hR1 _) ?_
   refine kq F (hC t hlt _) ?_
   refine ee hQ F ?_
   exact Fin.same (.bool _) ⟨by simp[textF,hl,hr],rfl⟩
theorem ij(ri:Bs→Bool)(cl:Bs→Bs)(hR:∀t,t.length≤1000→∀h,Sat (CT G) 278 [.str t] h (fun r h'=>r=.bool (ri t)∧h'=h))(hC:∀t,t.length≤1000→∀h,Sat (CT G) 279 [.str t] h (fun r h'=>r=.str (cl t)∧h'=h))(t:Bs)(h:Heap):Sat (CT G) 197 [.str t] h (fun r h'=>r=.bool (!(t==[])&&textF ri cl t 64)∧h'=h):=by
 cases k1:(t==[])with
 |true=>
  have k2:(t != [])=false:=by simpa using k1
  have F:=F2 k1 k2
  refine sb [.tmp 2] (fn:=Tryz.f197) Tryz.func197 ?_
  intro Q hQ
  refine wk F ?_
  refine ee hQ F ?_
  exact Fin.same (.bool _) ⟨by simp,rfl⟩
 |false=>
  have k2:(t != [])=true:=by simpa using k1
  have F:=F2 k1 k2
  refine sb [.tmp 2] (fn:=Tryz.f197) Tryz.func197 ?_
  intro Q hQ
  refine wk F ?_
  refine kq F (dD G ri cl hR hC t 64 (by omega) _) ?_
  refine ee hQ F ?_
  exact Fin.same (.bool _) ⟨by simp,rfl⟩
theorem nF(ri:Bs→Bool)(cl:Bs→Bs)(hR:∀t,t.length≤1000→∀h,Sat (CT G) 278 [.str t] h (fun r h'=>r=.bool (ri t)∧h'=h))(hC:∀t,t.length≤1000→∀h,Sat (CT G) 279 [.str t] h (fun r h'=>r=.str (cl t)∧h'=h))(t:Bs)(h:Heap):Sat (CT G) 199 [.str t] h (fun r h'=>r=.bool (textF ri cl t 256)∧h'=h):=by
 refine sb [.tmp 2] (fn:=Tryz.f199) Tryz.func199 ?_
 intro Q hQ
 refine wk trivial ?_
 refine kq trivial (dD G ri cl hR hC t 256 (by omega) _) ?_
 refine ee hQ trivial ?_
 exact Fin.same (.bool _) ⟨rfl,rfl⟩
theorem jp(ri:Bs→Bool)(cl:Bs→Bs)(hR:∀t,t.length≤1000→∀h,Sat (CT G) 278 [.str t] h (fun r h'=>r=.bool (ri t)∧h'=h))(hC:∀t,t.length≤1000→∀h,Sat (CT G) 279 [.str t] h (fun r h'=>r=.str (cl t)∧h'=h))(t:Bs)(h:Heap):Sat (CT G) 201 [.str t] h (fun r h'=>r=.bool (textF ri cl t 512)∧h'=h):=by
 refine sb [.tmp 2] (fn:=Tryz.f201) Tryz.func201 ?_
 intro Q hQ
 refine wk trivial ?_
 refine kq trivial (dD G ri cl hR hC t 512 (by omega) _) ?_
 refine ee hQ trivial ?_
 exact Fin.same (.bool _) ⟨rfl,rfl⟩
theorem nG(ri:Bs→Bool)(cl:Bs→Bs)(hR:∀t,t.length≤1000→∀h,Sat (CT G) 278 [.str t] h (fun r h'=>r=.bool (ri t)∧h'=h))(hC:∀t,t.length≤1000→∀h,Sat (CT G) 279 [.str t] h (fun r h'=>r=.str (cl t)∧h'=h))(t:Bs)(h:Heap):Sat (CT G) 202 [.str t] h (fun r h'=>r=.bool (!(t==[])&&textF ri cl t 512)∧h'=h):=by
 cases k1:(t==[])with
 |true=>
  have k2:(t != [])=false:=by simpa using k1
  have F:=F2 k1 k2
  refine sb [.tmp 2] (fn:=Tryz.f202) Tryz.func202 ?_
  intro Q hQ
  refine wk F ?_
  refine ee hQ F ?_
  exact Fin.same (.bool _) ⟨by simp,rfl⟩
 |false=>
  have k2:(t != [])=true:=by simpa using k1
  have F:=F2 k1 k2
  refine sb [.tmp 2] (fn:=Tryz.f202) Tryz.func202 ?_
  intro Q hQ
  refine wk F ?_
  refine kq F (dD G ri cl hR hC t 512 (by omega) _) ?_
  refine ee hQ F ?_
  exact Fin.same (.bool _) ⟨by simp,rfl⟩
theorem pL(ri:Bs→Bool)(cl:Bs→Bs)(hR:∀t,t.length≤1000→∀h,Sat (CT G) 268 [.str t] h (fun r h'=>r=.bool (ri t)∧h'=h))(hC:∀t,t.length≤1000→∀h,Sat (CT G) 269 [.str t] h (fun r h'=>r=.str (cl t)∧h'=h))(t:Bs)(n:Int)(hn:n≤1000)(h:Heap):Sat (CT G) 230 [.str t,.int .i64 n] h (fun r h'=>r=.bool (textF ri cl t n)∧h'=h):=by
 cases hl:decide ((t.length:Int)≤n)with
 |false=>
  have F:=hl
  refine sb [.tmp 4] (fn:=Tryz.f230) Tryz.func230 ?_
  intro Q hQ
  refine wk F ?_
  refine ee hQ F ?_
  exact Fin.same (.bool _) ⟨by simp[textF,hl],rfl⟩
 |true=>
  have hlt:t.length≤1000:=by have:=of_decide_eq_true hl;omega
  cases hr:ri t with
  |false=>
   have hR1:=hR t hlt
   rw[hr]at hR1
   have F:=hl
   refine sb [.tmp 4] (fn:=Tryz.f230) Tryz.func230 ?_
   intro Q hQ
   refine wk F ?_
   refine kq F (hR1 _) ?_
   refine ee hQ F ?_
   exact Fin.same (.bool _) ⟨by simp[textF,hl,hr],rfl⟩
  |true=>
   have hR1:=hR t hlt
   rw[hr]at hR1
   have F:=hl
   refine sb [.tmp 4] (fn:=Tryz.f230) Tryz.func230 ?_
   intro Q hQ
   refine wk F ?_
   refine kq F (hR1 _) ?_
   refine kq F (hC t hlt _) ?_
   refine ee hQ F ?_
   exact Fin.same (.bool _) ⟨by simp[textF,hl,hr],rfl⟩
theorem nH(ri:Bs→Bool)(cl:Bs→Bs)(hR:∀t,t.length≤1000→∀h,Sat (CT G) 268 [.str t] h (fun r h'=>r=.bool (ri t)∧h'=h))(hC:∀t,t.length≤1000→∀h,Sat (CT G) 269 [.str t] h (fun r h'=>r=.str (cl t)∧h'=h))(t:Bs)(h:Heap):Sat (CT G) 175 [.str t] h (fun r h'=>r=.bool (!(t==[])&&textF ri cl t 64)∧h'=h):=by
 cases k1:(t==[])with
 |true=>
  have k2:(t != [])=false:=by simpa using k1
  have F:=F2 k1 k2
  refine sb [.tmp 2] (fn:=Tryz.f175) Tryz.func175 ?_
  intro Q hQ
  refine wk F ?_
  refine ee hQ F ?_
  exact Fin.same (.bool _) ⟨by simp,rfl⟩
 |false=>
  have k2:(t != [])=true:=by simpa using k1
  have F:=F2 k1 k2
  refine sb [.tmp 2] (fn:=Tryz.f175) Tryz.func175 ?_
  intro Q hQ
  refine wk F ?_
  refine kq F (pL G ri cl hR hC t 64 (by omega) _) ?_
  refine ee hQ F ?_
  exact Fin.same (.bool _) ⟨by simp,rfl⟩
end Go.Av
namespace Go.Av
open Go Go.Proofs Go.RowKit
attribute [local irreducible] WP WPl WPix Sat
variable (G:Nat→Option (List AVal))
def L0:Leaf where
 label:=fun t=> !(t==[])&&textF rightS cleanF t 64
 title:=fun t=>textF rightS cleanF t 256
 link:=fun t=>textF rightS cleanF t 512
 tag:=fun t=>(!(t==[])&&textF rightS cleanF t 64)&&isF t
 query:=fun t=> !(t==[])&&textF rightS cleanF t 512
 moment:=momF
theorem R0(t:Bs)(ht:t.length≤1000)(h:Heap):Sat (CT G) 278 [.str t] h (fun r h'=>r=.bool (rightS t)∧h'=h):=pJ G t (by omega) h
theorem C0(t:Bs)(ht:t.length≤1000)(h:Heap):Sat (CT G) 279 [.str t] h (fun r h'=>r=.str (cleanF t)∧h'=h):=pI G t (by omega) h
theorem mB(t:Bs)(h:Heap):Sat (CT G) 180 [.str t] h (fun r h'=>r=.bool (L0.tag t)∧h'=h):=by
 have hL:=ij G rightS cleanF (R0 G) (C0 G) t
 have hu:L0.tag t=((!(t==[])&&textF rightS cleanF t 64)&&isF t):=rfl
 rw[hu]
 cases hl:(!(t==[])&&textF rightS cleanF t 64)with
 |false=>
  rw[hl]at hL
  refine sb [.tmp 2] (fn:=Tryz.f180) Tryz.func180 ?_
  intro Q hQ
  refine wk trivial ?_
  refine kq trivial (hL _) ?_
  refine ee hQ trivial ?_
  exact Fin.same (.bool _) ⟨by simp,rfl⟩
 |true=>
  rw[hl]at hL
  have hlen:t.length≤64:=by
   rw[Bool.and_eq_true]at hl
   have:=hl.2
   unfold textF at this
   rw[Bool.and_eq_true,decide_eq_true_eq]at this
   omega
  refine sb [.tmp 2] (fn:=Tryz.f180) Tryz.func180 ?_
  intro Q hQ
  refine wk trivial ?_
  refine kq trivial (hL _) ?_
  refine kq trivial (oo G t (by omega) _) ?_
  refine ee hQ trivial ?_
  exact Fin.same (.bool _) ⟨by simp,rfl⟩
theorem pM(e:Ev)(h:Heap):Sat (CT G) 97 [e.av] h (fun r h'=>r=.int .i64 (if L0.ck e then 0 else 140)∧h'=h):=
 nv G L0 e (nE G L0 (ij G rightS cleanF (R0 G) (C0 G)) (nF G rightS cleanF (R0 G) (C0 G)) (jp G rightS cleanF (R0 G) (C0 G)) (nD G L0 (jp G rightS cleanF (R0 G) (C0 G))) (mB G) (nG G rightS cleanF (R0 G) (C0 G)) (nC G) e) h
theorem jq(s:PS)(h:s.Inv)(e:Ev){H:Heap}{n:Nat}(hn:n+9≤H.length):Sat (CT G) 21 [.hp (n+8) 0 0 0,e.av] (so H n s) (fun r h'=>r=.bool (s.ok L0 e)∧h'=so H n (s.step L0 e)):=by
 obtain⟨d1,d2⟩:=h.deep e.b
 obtain⟨g1,g2⟩:=h.tags e.a
 have hl:=(⟨Nat.le_trans h.l1 (by omega),Nat.le_trans h.l2 (by omega),Nat.le_trans h.l3 (by omega),Nat.le_trans h.l4 (by omega)⟩:s.fo.length≤100∧s.fe.length≤100∧s.it.length≤2000∧s.se.length≤100)
 exact nu G s e (s.ok L0 e) (tgF ((lkM s.it e.a).getD It.z).tags e.s e.n) h.w3 h.w7 h.few (tO h _ _ (by omega))
  (fun n H hn=>pv G s e (L0.ck e) 7 (s.dpt e.b) d1 (by omega) hl (pM G e) (fun n H hn=>(kP G s e.a e.s g1 (by omega) hn).mono fun r h' ⟨hr,hh⟩=>⟨⟨_,hr⟩,hh⟩) hn)
  (fun n H hn=>ml G s e g1 (by omega) hn) hn
theorem kU(es:List Ev)(hl:es.length≤1048576)(h:Heap):Sat (CT G) 10 [.sl 7 (es.map Ev.av)] h (fun r h'=>r=.hp (h.length+8) 0 0 0∧h'=so (h++PS.z.bl h.length) h.length (es.foldl (PS.step L0) PS.z)):=
 pu G es hl PS.Inv (PS.ok L0) (PS.step L0) .z (fun s e _ h=>h.step e) (fun s e _ h n H hn=>jq G s h e hn) h
end Go.Av
namespace Go.Av
open Go.RowKit
section
variable {C:Ctx}
def GClo(C:Ctx):Prop:=∀g cs,C.G g=some cs→Clo 0 (.ad cs)
theorem Sat.frame(hG:GClo C){f:FuncId}{args:List AVal}{R:AVal→Heap→Prop}(ha:∀x∈args,Clo 0 x)(hR:∀r h',R r h'→Clo 0 r∧h'=[])
  (s:Sat C f args [] R)(h:Heap):Sat C f args h fun r h'=>R r []∧h'=h:=by
 intro B S μ w vs fit rl
 have st0:∀(x:AVal) (v:Value),Clo 0 x→Rep w S μ x v→Rep w S [] x v:=fun x v hc hr=>by
  have:=hc.rep (S':=S) hr fun a ha=>ha
  simpa using this
 have fit0:Fits C w.heap.size S [] [] w:=by
  refine⟨fun g cs hg=>st0 _ _ (hG g cs hg) (fit.glob g cs hg),rfl,?_,?_,Nat.le_refl _,fit.lie,?_⟩
  ·intro p q m m' b h1;simp at h1
  ·intro p m b h1;simp at h1
  ·intro p m k h1;simp at h1
 have rl0:RepL w S [] args vs:=⟨rl.1,fun i x hx=>st0 _ _ (ha x (List.mem_of_getElem? hx)) (rl.2 i x hx)⟩
 refine(s _ S [] w vs fit0 rl0).mono fun v w' hp=>?_
 obtain⟨r,h',S',μ',hr,st,fit',hrep⟩:=hp
 obtain⟨hclo,rfl⟩:=hR r h' hr
 obtain rfl:μ'=[]:=List.length_eq_zero_iff.1 (by rw[fit'.len];rfl)
 have own:∀(p:Nat) (m:MB) (b:Nat),μ[p]? =some m→m.blk=some b→∀a,S' a→a.block≠b:=fun p m b h1 e1 a ha=>by
  obtain⟨k1,k2,k3⟩:=fit.own p m b h1 e1
  rcases st.new a ha with h2|h2
  ·exact k3 a h2
  ·omega
 have st2:Step B S μ w S' μ w':=⟨st.sub,st.keep,st.below.mono fit.base,MapLe.refl _,fun a ha=>(st.new a ha).imp id fun e=>Nat.le_trans fit.base e⟩
 refine⟨r,h,S',μ,⟨hr,rfl⟩,st2,?_,?_⟩
 ·refine⟨fun g cs hg=>(fit.glob g cs hg).mono st2,fit.len,fit.sep,fun p m b h1 e1=>?_,Nat.le_trans fit.base st.below.size,fit'.lie,fun p m k h1 h2=>?_⟩
  ·obtain⟨k1,k2,k3⟩:=fit.own p m b h1 e1
   exact⟨k1,Nat.lt_of_lt_of_le k2 st.below.size,own p m b h1 e1⟩
  ·exact(fit.blk p m k h1 h2).mono st2 fun b hb=>st.below.block b (fit.own p m b h1 hb).2.1
 ·have grow:∀(x:AVal) (v:Value),Rep w' S' [] x v→Rep w' S' μ x v:=fun x v hr=>by
   refine hr.mono (B:=0) (S':=S') (w':=w') ⟨fun _ ha=>ha,fun _ _=>rfl,Below.refl _ _,fun p m hm=>by simp at hm,fun _ ha=>.inl ha⟩
  exact grow _ _ hrep
def plainB:AVal→Bool
 | .int _ _=>true
 | .bool _=>true
 | .str _=>true
 |_=>false
theorem pY{n:Nat}{x:AVal}(h:plainB x=true):Clo n x:=by
 cases x<;>first|exact .int _ _|exact .bool _|exact .str _|cases h
def isV(v:AVal):Option (AVal×Heap)→Bool
 |some (r,h1)=>match frzX h1 0 20 r with
  |some y=>beqA y v
  |none=>false
 |none=>false
theorem Sat.closedV(hG:GClo C){orc:FuncId→List AVal→Option AVal}(horc:OrcOk C orc)(lf n:Nat){f:FuncId}{args:List AVal}{v:AVal}(ha:args.all plainB=true)(hv:cloA 0 v=true)
  (hrun:isV v (callX C orc lf n f args [])=true)(h:Heap):Sat C f args h fun r2 h2=>r2=v∧h2=h:=by
 unfold isV at hrun
 split at hrun
 ·rename_i r h1 e
  split at hrun
  ·rename_i y hy
   have ey:=dN _ _ hrun
   subst ey
   have s:=(uA horc lf n f args [] r h1 e).letgo (v:=y) (by simp) (oy _ _ _ _ _ hy)
   refine(s.frame hG (fun x hx=>pY (List.all_eq_true.1 ha x hx)) (fun r h' ⟨e1,e2⟩=>⟨by rw[e1];exact eX 0 _ hv,e2⟩) h).mono fun r2 h2 ⟨⟨e1,_⟩,e2⟩=>⟨e1,e2⟩
  ·cases hrun
 ·cases hrun
end
end Go.Av
namespace Go.Av
open Go Go.Proofs Go.RowKit
attribute [local irreducible] WP WPl WPix Sat
variable (G:Nat→Option (List AVal))
theorem pZ(s:Bs)(hs:s.length≤1048576)(h:Heap):Sat (CT G) 232 [.str s] h (fun r h'=>∃v,r=.hs h.length v 0 (runesF s).length true∧h'=h++[.row 21 1 v ((runesF s).map runA)]):=by
 refine sb [.tmp 2] (fn:=Tryz.f232) Tryz.func232 ?_
 intro Q hQ
 refine wk trivial ?_
 refine lm (fun nL tL hL=>∃(k v:Nat) (acc:List Int),s.length-k=nL∧h++[.row 21 1 v (acc.map runA)]=hL∧tL 0=.str (s.drop k)∧tL 3=.hs h.length v 0 acc.length true∧k≤s.length∧acc.length≤k∧acc++runesF (s.drop k)=runesF s) ((fun(k v:Nat) (acc:List Int)=>(s.length-k:Nat)) (0) (0) ([])) ?_ ?_
 ·refine⟨_,_,Weak.virt 3 21 1 (by simp) (by omega) (by exact zq trivial),⟨0,0,[],rfl,aA,?_,?_,?_,?_,?_⟩⟩
  all_goals first|exact zq trivial|rfl|omega|trivial|skip
 rintro _ s2 h' ⟨k,v,acc,rfl,rfl,e0,e3,hk,hl,hp⟩ K2 hK2
 simp only[ai,aj,Nat.reduceEqDiff, ↓reduceIte]at e0 e3
 have F:=F2 e0 e3
 refine wk F ?_
 refine cq F (fun c1=>?_) (fun c1=>?_)<;>(try exact c1.elim)<;>(refine wk F ?_)
 ·simp only[List.length_drop]at c1
  have hlt:k<s.length:=by omega
  have hp2:=bc s k hlt
  rw[eD s k hlt]at hp
  have hne:s.drop k≠ []:=by intro e;have:=congrArg List.length e;simp at this;omega
  refine(gB G (s.drop k) hne (by simp;omega) _).mono ?_
  rintro r h' ⟨rfl,rfl⟩
  rw[← bQ]
  generalize dec s k=d at*
  obtain⟨c,m⟩:=d
  simp only[]at hp hp2 ⊢
  have hsl:m≤(s.drop k).length:=by simp;omega
  have hdd:(s.drop k).drop m=s.drop (k+m):=List.drop_drop ..
  have F:=F3 F hsl hdd
  try refine sq F ?_
  refine wk F ?_
  refine aq F ?_
  try refine sq F ?_
  refine wk F ?_
  refine hK2 _ _ _ (Wkn.refl ⟨k+m,v+1,acc++[(c:Int)],rfl,aA,?_,?_,by omega,by simp;omega,by rw[← hp];simp⟩) (by omega)
  all_goals first|exact zq F|rfl|omega|trivial|skip
 ·simp only[List.length_drop]at c1
  rw[dC s k (by omega),List.append_nil]at hp
  refine wk F ?_
  refine ee hQ F ?_
  subst hp
  exact Fin.whole (by simp) (.hs _ _ _ _ _ (by simp)) ⟨v,rfl,rfl⟩
theorem iM(l:List Int)(hr:∀r∈l,Rune r)(hl:l.length≤1048576){h:Heap}{p v0:Nat}(hg:getRow h p v0=some (21,1,l.map runA)):Sat (CT G) 235 [.hs p v0 0 l.length true] h (fun x h'=>x=.str (l.flatMap enc)∧h'=h):=by
 have hll:(l.map runA).length=l.length:=List.length_map ..
 have hpl:=bo hg
 have hgj:∀j,getRow (h++j) p v0=some (21,1,l.map runA):=fun j=>by rw[bi _ hpl];exact hg
 have hra:∀x,runA x=.int .i32 x:=fun _=>rfl
 have F:=F4 hll hg hgj hra
 refine sb [.tmp 2] (fn:=Tryz.f235) Tryz.func235 ?_
 intro Q hQ
 refine wk F ?_
 refine lm (fun nL tL hL=>∃(k v:Nat) (acc:Bs),l.length-k=nL∧h++[.row 5 1 v (acc.map bytA)]=hL∧tL 3=.hs h.length v 0 acc.length true∧tL 4=.int .i64 k∧k≤l.length∧acc++(l.drop k).flatMap enc=l.flatMap enc∧acc.length≤4*k) ((fun(k v:Nat) (acc:Bs)=>(l.length-k:Nat)) (0) (0) ([])) ?_ ?_
 ·refine⟨_,_,Weak.virt 3 5 1 (by simp) (by omega) (by exact zq F),⟨0,0,[],rfl,aA,?_,?_,?_,?_,?_⟩⟩
  all_goals first|exact zq F|rfl|omega|trivial|skip
 rintro _ s2 h' ⟨k,v,acc,rfl,rfl,e3,e4,hk,hp,hz⟩ K2 hK2
 simp only[ai,aj,Nat.reduceEqDiff, ↓reduceIte]at e3 e4
 have F:=F3 F e3 e4
 refine wk F ?_
 refine cq F (fun hc=>?_) (fun hc=>?_)<;>(try exact hc.elim)
 ·obtain⟨y,hy,hym⟩:=ae hc
  rw[ap hy,List.flatMap_cons]at hp
  have he:=dM y
  have hel:((enc y).map bytA).length=(enc y).length:=List.length_map ..
  have c2:k<l.length:=by omega
  have F:=F3 F c2 hy
  refine wk F ?_
  refine kq F (ow G y (hr y hym) _) ?_
  refine aq F ?_
  try refine sq F ?_
  refine wk F ?_
  refine hK2 _ _ _ (Wkn.refl ⟨k+1,v+1,acc++enc y,rfl,aA,?_,?_,by omega,by rw[← hp];simp,by simp;omega⟩) (by omega)
  all_goals first|exact zq F|rfl|omega|trivial|skip
 ·rw[aD hc,List.flatMap_nil,List.append_nil]at hp
  have hb:=fw acc
  have hel:elemsOf (h++[.row 5 1 v (acc.map bytA)]) 1 (.hs h.length v 0 acc.length true)=some (acc.map bytA):=by
   simp[elemsOf,getRow,List.take_of_length_le]
  have F:=F4 F hb hel @il
  refine wk F ?_
  refine ee hQ F ?_
  rw[← hp]
  exact Fin.plainE (j:=_) rfl (.str _) ⟨rfl,rfl⟩
theorem rV(s:Bs)(hs:s.length≤100000)(h:Heap):Sat (CT G) 233 [.str s] h (fun r h'=>r=.str (foldS s)∧h'=h):=by
 have hll:=bY s.length s (Nat.le_refl _)
 have hrl:=cZ s.length s (Nat.le_refl _)
 have hR:=pZ G s (by omega)
 have hfo:foldS s=((runesF s).map foldR).flatMap enc:=rfl
 rw[hfo]
 generalize runesF s=l at*
 refine sb [.tmp 2] (fn:=Tryz.f233) Tryz.func233 ?_
 intro Q hQ
 refine wk trivial ?_
 refine(hR _).mono ?_
 rintro r h' ⟨v,rfl,rfl⟩
 try refine sq trivial ?_
 refine wk trivial ?_
 refine lm (fun nL tL hL=>∃(k:Nat),l.length-k=nL∧h++[.row 21 1 v (((l.take k).map foldR++l.drop k).map runA)]=hL∧tL 3=.hs h.length v 0 l.length true∧tL 4=.int .i64 k∧k≤l.length) ((fun(k:Nat)=>(l.length-k:Nat)) (0)) ?_ ?_
 ·refine Wkn.refl ⟨0,rfl,by simp,?_,?_,by omega⟩
  all_goals first|exact zq trivial|rfl|omega|trivial|skip
 rintro _ s2 h' ⟨k,rfl,rfl,e3,e4,hk⟩ K2 hK2
 simp only[ai,aj,Nat.reduceEqDiff, ↓reduceIte]at e3 e4
 have F:=F2 e3 e4
 refine wk F ?_
 refine cq F (fun c1=>?_) (fun c1=>?_)<;>(try exact c1.elim)
 ·have c2:k<l.length:=by omega
  obtain⟨y,hy,hym⟩:=ae c2
  have hget:((l.take k).map foldR++l.drop k)[k]? =some y:=by
   rw[List.getElem?_append_right (by simp;omega),List.length_map,List.length_take,Nat.min_eq_left (by omega),Nat.sub_self,List.getElem?_drop];simpa using hy
  have hset:(((l.take k).map foldR++l.drop k).map runA).set k (.int .i32 (foldR y))=((l.take (k+1)).map foldR++l.drop (k+1)).map runA:=by
   have h1:(AVal.int .i32 (foldR y))=runA (foldR y):=rfl
   rw[h1, ← List.map_set]
   congr 1
   rw[List.set_append_right _ _ (by simp;omega),List.length_map,List.length_take,Nat.min_eq_left (by omega),Nat.sub_self,ap hy,List.set_cons_zero,List.take_add_one,hy]
   simp
  have hlen:(((l.take k).map foldR++l.drop k).map runA).length=l.length:=by simp;omega
  have hra:∀x,runA x=.int .i32 x:=fun _=>rfl
  generalize (l.take k).map foldR++l.drop k=rw_ at*
  have F:=F7 F c2 @hget @hset @hlen hra @az
  try refine sq F ?_
  refine wk F ?_
  refine kq F (rO G y (hrl y hym) _) ?_
  refine hK2 _ _ _ (Wkn.refl ⟨k+1,rfl,rfl,?_,?_,by omega⟩) (by omega)
  all_goals first|exact zq F|rfl|omega|trivial|skip
 ·have hk2:k=l.length:=by omega
  subst hk2
  have hfin:(l.take l.length).map foldR++l.drop l.length=l.map foldR:=by rw[List.take_length,List.drop_length,List.append_nil]
  rw[hfin]
  have hg:getRow (h++[.row 21 1 v ((l.map foldR).map runA)]) h.length v=some (21,1,(l.map foldR).map runA):=by simp[getRow]
  have hP:=iM G (l.map foldR) (fun r hr=>by obtain⟨x,hx,rfl⟩:=List.mem_map.1 hr;exact fy (hrl x hx)) (by simp;omega) hg
  rw[List.length_map]at hP
  refine wk F ?_
  refine kq F (hP) ?_
  refine ee hQ F ?_
  exact Fin.plain (.str _) ⟨rfl,rfl⟩
theorem l5(a b:List Bs)(ha:a.length≤1000000)(hb:b.length≤1000000)(h:Heap):Sat (CT G) 182 [.sl 1 (a.map .str),.sl 1 (b.map .str)] h (fun r h'=>r=.bool (decide (a=b))∧h'=h):=by
 have ela:(a.map AVal.str).length=a.length:=List.length_map ..
 have elb:(b.map AVal.str).length=b.length:=List.length_map ..
 have F:=F2 @ela @elb
 refine sb [.tmp 4] (fn:=Tryz.f182) Tryz.func182 ?_
 intro Q hQ
 refine wk F ?_
 refine cq F (fun c0=>?_) (fun c0=>?_)<;>(try exact c0.elim)<;>(refine wk F ?_)
 ·refine ee hQ F ?_
  exact Fin.same (.bool _) ⟨by simp;rintro rfl;omega,rfl⟩
 ·refine lm (fun nL tL hL=>∃(k:Nat),a.length-k=nL∧[]++h=hL∧tL 0=.sl 1 (a.map .str)∧tL 1=.sl 1 (b.map .str)∧tL 5=.int .i64 k∧k≤a.length∧a.take k=b.take k) ((fun(k:Nat)=>(a.length-k:Nat)) (0)) ?_ ?_
  ·refine Wkn.refl ⟨0,rfl,rfl,?_,?_,?_,by omega,by simp⟩
   all_goals first|exact zq F|rfl|omega|trivial|skip
  rintro _ s2 h' ⟨k,rfl,rfl,e0,e1,e5,hk,hp⟩ K2 hK2
  simp only[ai,aj,Nat.reduceEqDiff, ↓reduceIte]at e0 e1 e5
  have F:=F4 F e0 e1 e5
  refine wk F ?_
  refine cq F (fun c1=>?_) (fun c1=>?_)<;>(try exact c1.elim)<;>(refine wk F ?_)
  ·have c2:k<a.length:=by omega
   have c2b:k<b.length:=by omega
   obtain⟨x,hx,_⟩:=ae c2
   obtain⟨y,hy,_⟩:=ae c2b
   have F:=F5 F c2 @c2b hx hy
   try refine sq F ?_
   refine wk F ?_
   refine cq F (fun c3=>?_) (fun c3=>?_)<;>(try exact c3.elim)<;>(refine wk F ?_)
   ·refine ee hQ F ?_
    exact Fin.same (.bool _) ⟨by
     simp
     rintro rfl
     rw[hx]at hy;cases hy
     simp at c3,rfl⟩
   ·have c4:x=y:=by simpa using c3
    have hp1:a.take (k+1)=b.take (k+1):=by rw[List.take_add_one,List.take_add_one,hx,hy,hp,c4]
    refine hK2 _ _ _ (Wkn.refl ⟨k+1,rfl,rfl,?_,?_,?_,by omega,hp1⟩) (by omega)
    all_goals first|exact zq F|rfl|omega|trivial|skip
  ·rw[List.take_of_length_le (by omega),List.take_of_length_le (by omega)]at hp
   refine ee hQ F ?_
   exact Fin.same (.bool _) ⟨by simp[hp],rfl⟩
theorem v7(C:Ctx):OrcOk C (fun _ _=>none):=fun f args r g h=>by cases g
theorem vY:isV (.int .i64 (-62135596800)) (callX (CT G) (fun _ _=>none) 1000 100 184 [] [])=true:=by kernel_rfl
theorem xI:isV (.int .i64 253402300799) (callX (CT G) (fun _ _=>none) 1000 100 185 [] [])=true:=by kernel_rfl
theorem uB(hc:GClo (CT G))(n:Int)(h:Heap):Sat (CT G) 140 [.int .i64 n] h (fun r h'=>r=.bool (momF n)∧h'=h):=by
 have h1:=fun h=>Sat.closedV hc (v7 _) 1000 100 rfl rfl (vY G) h
 have h2:=fun h=>Sat.closedV hc (v7 _) 1000 100 rfl rfl (xI G) h
 by_cases k: -62135596800≤n
 ·have k2:decide (n≥ -62135596800)=true:=by simpa using k
  have F:=k2
  refine sb [.tmp 2] (fn:=Tryz.f140) Tryz.func140 ?_
  intro Q hQ
  refine wk F ?_
  refine kq F (h1 _) ?_
  refine kq F (h2 _) ?_
  refine ee hQ F ?_
  exact Fin.same (.bool _) ⟨by simp[momF,k],rfl⟩
 ·have k2:decide (n≥ -62135596800)=false:=by simpa using k
  have F:=k2
  refine sb [.tmp 2] (fn:=Tryz.f140) Tryz.func140 ?_
  intro Q hQ
  refine wk F ?_
  refine kq F (h1 _) ?_
  refine ee hQ F ?_
  exact Fin.same (.bool _) ⟨by simp[momF,k],rfl⟩
end Go.Av
namespace Go.Av
open Go Go.Proofs Go.RowKit
attribute [local irreducible] WP WPl WPix Sat
def sc(Y:Heap)(n:Nat)(s:PS)(m:Nat)(c:CS):Heap:=so (co Y m c) n s
section
variable {Y:Heap} {n m:Nat} {s:PS} {c:CS}
end
variable (G:Nat→Option (List AVal))
section
variable {Y:Heap} {n m:Nat} {s:PS} {c:CS}
end
def lgE(e:Ev):Bool:=decide ((e.s.length:Int)>1000)||(decide ((e.t.length:Int)>1000)||decide ((e.u.length:Int)>1000))
theorem rW(e:Ev)(h:Heap):Sat (CT G) 29 [e.av] h (fun r h'=>r=.bool (lgE e)∧h'=h):=by
 refine sb [.tmp 2] (fn:=Tryz.f29) Tryz.func29 ?_
 intro Q hQ
 refine wk trivial ?_
 cases k1:decide ((e.s.length:Int)>1000)with
 |true=>
  have F:=k1
  try refine sq F ?_
  refine wk F ?_
  refine ee hQ F ?_
  exact Fin.plain (.bool _) ⟨by simp[lgE,k1],rfl⟩
 |false=>
  cases k2:decide ((e.t.length:Int)>1000)with
  |true=>
   have F:=F2 k1 k2
   try refine sq F ?_
   refine wk F ?_
   refine ee hQ F ?_
   exact Fin.plain (.bool _) ⟨by simp[lgE,k1,k2],rfl⟩
  |false=>
   have F:=F2 k1 k2
   try refine sq F ?_
   refine wk F ?_
   refine ee hQ F ?_
   exact Fin.plain (.bool _) ⟨by simp[lgE,k1,k2],rfl⟩
def lgF(es:List Ev):Bool:=decide ((es.length:Int)>150)||es.any lgE
theorem eH(es:List Ev)(h:Heap):Sat (CT G) 7 [.sl 7 (es.map Ev.av)] h (fun r h'=>r=.bool (lgF es)∧h'=h):=by
 refine sb [.tmp 2] (fn:=Tryz.f7) Tryz.func7 ?_
 intro Q hQ
 refine wk trivial ?_
 have hel:(es.map Ev.av).length=es.length:=List.length_map ..
 have F:=hel
 try refine sq F ?_
 refine cq F (fun c0=>?_) (fun c0=>?_)<;>(try exact c0.elim)<;>(refine wk F ?_)
 ·refine ee hQ F ?_
  exact Fin.same (.bool _) ⟨by simp[lgF];omega,rfl⟩
 ·refine lm (fun nL tL hL=>∃(k:Nat),es.length-k=nL∧[]++h=hL∧tL 0=.sl 7 (es.map Ev.av)∧tL 3=.int .i64 k∧k≤es.length∧(∀e∈es.take k,lgE e=false)) ((fun(k:Nat)=>(es.length-k:Nat)) (0)) ?_ ?_
  ·refine Wkn.refl ⟨0,rfl,rfl,?_,?_,by omega,by simp⟩
   all_goals first|exact zq F|rfl|omega|trivial|skip
  rintro _ s2 h' ⟨k,rfl,rfl,e0,e3,hk,hp⟩ K2 hK2
  simp only[ai,aj,Nat.reduceEqDiff, ↓reduceIte]at e0 e3
  have F:=F3 F e0 e3
  refine wk F ?_
  refine cq F (fun c1=>?_) (fun c1=>?_)<;>(try exact c1.elim)<;>(refine wk F ?_)
  ·have c2:k<es.length:=by omega
   obtain⟨e,he,_⟩:=ae c2
   have F:=F3 F c2 he
   try refine sq F ?_
   refine wk F ?_
   refine kq F (rW G e _) ?_
   refine cq F (fun c3=>?_) (fun c3=>?_)<;>(try exact c3.elim)<;>(refine wk F ?_)
   ·refine ee hQ F ?_
    exact Fin.same (.bool _) ⟨by
     have:es.any lgE=true:=List.any_eq_true.2 ⟨e,List.mem_of_getElem? he,c3⟩
     simp[lgF,this],rfl⟩
   ·have hp1:∀x∈es.take (k+1),lgE x=false:=by
     rw[List.take_add_one,he]
     intro x hx
     simp at hx
     rcases hx with hx|rfl
     ·exact hp x hx
     ·exact c3
    refine hK2 _ _ _ (Wkn.refl ⟨k+1,rfl,rfl,?_,?_,by omega,hp1⟩) (by omega)
    all_goals first|exact zq F|rfl|omega|trivial|skip
  ·rw[List.take_of_length_le (by omega)]at hp
   refine ee hQ F ?_
   exact Fin.same (.bool _) ⟨by
    have:es.any lgE=false:=by rw[List.any_eq_false];intro x hx;rw[hp x hx];simp
    simp[lgF,this];omega,rfl⟩
instance:DecidableEq Ct:=fun x y=>by
 cases x;cases y;simp only[Ct.mk.injEq];exact inferInstance
end Go.Av
namespace Go.Av
open Go Go.Proofs Go.RowKit
attribute [local irreducible] WP WPl WPix Sat
variable (G:Nat→Option (List AVal))
def St.inn(x:St)(id:Int):Int:=((fnd (·.id) x.fo id).map (·.inn)).getD 0
def St.upW(x:St)(u:Int):Nat→Int→Int
 |0,id=>id
 |k+1,id=>if id=u∨id=0 then id else St.upW x u k (x.inn id)
def St.within(x:St)(id u:Int):Bool:=decide (x.upW u 10 id=u)||decide (u=0)
def St.cnt(x:St)(c:Ct)(t:It):Bool:=
 if c.kind=1 then true
 else if c.kind=2 then !(c.id==0)&&x.within (((fnd (·.id) x.fe t.feed).map (·.inn)).getD 0) c.id
 else if c.kind=3 then t.feed==c.id
 else if c.kind=4 then decide (c.tag∈t.tags)
 else if c.kind=5 then t.star
 else false
end Go.Av
namespace Go.Av
open Go Go.Proofs Go.RowKit
variable {c:CS} {s:PS}
def chS(fo:ML Int Fo):Nat→Int→Option (List Int)
 |0,id=>if id=0 then some []else none
 |k+1,id=>if id=0 then some []else(chS fo k (((lkM fo id).map (·.inn)).getD 0)).map (id:: ·)
def PS.chn(s:PS)(feed:Int):List Int:=(chS s.fo 7 (((lkM s.fe feed).map (·.inn)).getD 0)).getD []
theorem uC{κ α:Type}[DecidableEq κ]{l:ML κ α}{x:κ}:x∈l.map (·.1)↔(lkM l x).isSome=true:=by
 constructor
 ·intro hm
  cases hq:(lkM l x).isSome with
  |true=>rfl
  |false=>exact(jS hq hm).elim
 ·intro hq
  obtain⟨a,ha⟩:=Option.isSome_iff_exists.1 hq
  obtain⟨n,hn⟩:=gH ha
  exact List.mem_map.2 ⟨_,hn,rfl⟩
def PS.its(s:PS):List It:=s.it.map (·.2.1)
def ctM(kind id:Int)(g:Bs)(n:T2):Ct:=⟨kind,id,g,n.1,n.2⟩
end Go.Av
namespace Go.Av
open Go Go.Proofs Go.RowKit
attribute [local irreducible] WP WPl WPix Sat
variable (G:Nat→Option (List AVal))
def St.fil(x:St)(kind id:Int)(g:Bs):Ct:=ctM kind id g (tl x.it (x.cnt ⟨kind,id,g,0,0⟩))
theorem uD{h0 H:Heap}{p v e:Nat}{l:List Bs}(hp:h0.length≤p)(hg:getRow H p v=some (e,1,l.map .str)):Frz H h0.length (.hs p v 0 l.length true) (.sl 1 (l.map .str)):=by
 have:=Frz.data (n:=h0.length) (len:=l.length) (room:=true) hp hg (by simp) (fun r hr=>by obtain⟨a,_,rfl⟩:=List.mem_map.1 hr;exact .str _) (fun r hr c hc=>by obtain⟨a,_,rfl⟩:=List.mem_map.1 hr;simp[AVal.cells]at hc;subst hc;rfl)
 simpa using this
end Go.Av
namespace Go.Av
open Go Go.Proofs Go.RowKit
attribute [local irreducible] WP WPl WPix Sat
set_option pp.deepTerms true
set_option pp.maxSteps 200000
variable (G:Nat→Option (List AVal))
theorem fF:∀(b w:List Int) (out:List Bs),(wdsR b w out).length≤out.length+b.length+1
 | [],w,out=>by rw[wdsR];split<;>simp
 |c::b,w,out=>by
  rw[wdsR]
  split
  ·have:=fF b (if w.length<32 then w++[c]else w) out;simp only[List.length_cons];omega
  ·have:=fF b [] (if w=[]then out else out++[encs w])
   have h2:(if w=[]then out else out++[encs w]).length≤out.length+1:=by split<;>simp
   simp only[List.length_cons];omega
theorem jx(s:Bs)(hs:s.length≤10000)(h:Heap):Sat (CT G) 183 [.str s] h (fun r h'=>r=.sl 1 ((wordsF s).map .str)∧h'=h):=by
 have hfl:=di s
 have hR:=kX G (foldS s) (by omega)
 have hrn:=cZ (foldS s).length (foldS s) (Nat.le_refl _)
 have hrl:=bY (foldS s).length (foldS s) (Nat.le_refl _)
 rw[fC]
 generalize runesF (foldS s)=rs at*
 have hel:(rs.map runA).length=rs.length:=List.length_map ..
 have hra:∀x,runA x=.int .i32 x:=fun _=>rfl
 have F:=F2 hel hra
 refine sb [.tmp 2] (fn:=Tryz.f183) Tryz.func183 ?_
 intro Q hQ
 refine wk F ?_
 refine kq F (rV G s (by omega) _) ?_
 refine kq F (hR _) ?_
 refine lm (fun nL tL hL=>∃(i po vo:Nat) (hh:Heap) (out:List Bs) (w:List Int) (x:AVal),rs.length+1-i=nL∧hh=hL∧tL 3=.sl 1 (rs.map runA)∧tL 4=.hs po vo 0 out.length true∧tL 5=x∧tL 6=.int .i64 i∧i≤rs.length+1∧((w=[]∧x=.nil (.slice none 0 0))∨(∃p v,x=.hs p v 0 w.length true∧getRow hh p v=some (21,1,w.map runA)∧h.length≤p∧p≠po))∧getRow hh po vo=some (9,1,out.map .str)∧(FrN h.length h hh∧h.length≤po)∧wdsR (rs.drop i) w out=wdsR rs [] []∧(w.length≤32∧out.length≤i∧(∀c∈w,Rune c)∧(i=rs.length+1→w=[]))) ((fun(i po vo:Nat) (hh:Heap) (out:List Bs) (w:List Int) (x:AVal)=>(rs.length+1-i:Nat)) (0) (h.length) (0) (h++[.row 9 1 0 []]) ([]) ([]) (.nil (.slice none 0 0))) ?_ ?_
 ·refine⟨_,_,Weak.virt 4 9 1 (by simp) (by omega) (by exact zq F),⟨0,h.length,0,h++[.row 9 1 0 []],[],[],.nil (.slice none 0 0),rfl,aA,?_,?_,?_,?_,by omega,.inl ⟨rfl,rfl⟩,by rw[aF _ rfl];rfl,⟨FrN.app _ (by omega) (FrN.refl _ _),by omega⟩,by simp,⟨by simp,by simp,by simp,by simp⟩⟩⟩
  all_goals first|exact zq F|rfl|omega|trivial|skip
 rintro _ s2 h' ⟨i,po,vo,hh,out,w,x,rfl,rfl,e3,e4,e5,e6,hi,hx,hg,hfr,hv,hwl⟩ K2 hK2
 simp only[ai,aj,Nat.reduceEqDiff, ↓reduceIte]at e3 e4 e5 e6
 have F:=F5 F e3 e4 e5 e6
 have hgl:=bo hg
 obtain⟨hw1,hw2,hw3,hw4⟩:=hwl
 obtain⟨hfr,hpo⟩:=hfr
 have hol:(out.map AVal.str).length=out.length:=List.length_map ..
 have hwm:(w.map runA).length=w.length:=List.length_map ..
 have dt:∀i:Decidable True, @decide True i=true:=fun i=>decide_eq_true trivial
 have done0:∀(q:Nat),letR (rs.getD i 0)=false∨rs.length≤i→i≤rs.length→wdsR (rs.drop (i+1)) [] (if w=[]then out else out++[encs w])=wdsR rs [] []:=fun _ hl hle=>by
  rw[← hv]
  rcases Nat.lt_or_ge i rs.length with hlt|hge
  ·obtain⟨y,hy,_⟩:=ae hlt
   have hly:letR y=false:=by
    rcases hl with hl|hl
    ·rw[List.getD_eq_getElem?_getD,hy]at hl;exact hl
    ·omega
   rw[ap hy,wdsR]
   simp only[hly,Bool.false_eq_true,if_false]
  ·rw[aD hge,aD (by omega),wdsR,wdsR];simp
 have F:=F4 F hg hol hwm
 try refine sq F ?_
 refine wk F ?_
 refine cq F (fun c1=>?_) (fun c1=>?_)<;>(try exact c1.elim)<;>(refine wk F ?_)
 ·have c2:i≤rs.length:=by omega
  have fin0:True:=trivial
  by_cases c3:i<rs.length
  ·obtain⟨y,hy,hym⟩:=ae c3
   have d3:decide (i<rs.length)=true:=by simp;omega
   have hl:=nQ G y (hrn y hym)
   have hv2:=hv
   rw[ap hy,wdsR]at hv2
   have hgd:rs.getD i 0=y:=by rw[List.getD_eq_getElem?_getD,hy];rfl
   rw[hgd]at done0
   cases hlt:letR y with
   |true=>
    rw[hlt]at hl hv2
    rw[if_pos rfl]at hv2
    have F:=F4 F hy c3 dt
    try refine sq F ?_
    refine wk F ?_
    refine kq F (hl _) ?_
    rcases hx with⟨rfl,rfl⟩| ⟨p,v,rfl,hgw,hp1,hp2⟩
    ·try refine sq F ?_
     refine wk F ?_
     refine sU (.inl rfl) (by simp(disch:=first|omega| (simp only[go_sem, ↓reduceIte,seval];first|done|omega)|fail) only[go_sem, ↓reduceIte,seval,F];try rfl) (by simp(disch:=first|omega| (simp only[go_sem, ↓reduceIte,seval];first|done|omega)|fail) only[go_sem, ↓reduceIte,seval,F];try rfl) (by simp(disch:=first|omega| (simp only[go_sem, ↓reduceIte,seval];first|done|omega)|fail) only[go_sem, ↓reduceIte,seval,F];try rfl) (by simp(disch:=first|omega| (simp only[go_sem, ↓reduceIte,seval];first|done|omega)|fail) only[go_sem, ↓reduceIte,seval,F];try rfl) (by omega) (by simp only[elemsOf, ↓reduceIte];rfl) ⟨by simp[maxLen],by simp⟩ ?_
     try refine sq F ?_
     refine wk F ?_
     refine hK2 _ _ _ (Wkn.refl ⟨i+1,po,vo,hh++[.row 21 1 0 [runA y]],out,[y],.hs hh.length 0 0 1 true,rfl,aA,?_,?_,?_,?_,by omega,.inr ⟨hh.length,0,rfl,by rw[aF _ rfl];rfl,(by omega),by omega⟩,by rw[bi _ hgl];exact hg,⟨FrN.app _ ((by omega)) hfr,hpo⟩,by simpa using hv2,⟨by simp,by omega,fun c hc=>by simp at hc;subst hc;exact hrn _ hym,by omega⟩⟩) (by omega)
     all_goals first|exact zq F|rfl|omega|trivial|skip
    ·have hpl:=bo hgw
     have F:=F3 F hgw @az
     try refine sq F ?_
     refine wk F ?_
     refine cq F (fun c4=>?_) (fun c4=>?_)<;>(try exact c4.elim)<;>(refine wk F ?_)
     ·rw[if_pos (by omega)]at hv2
      refine aq F ?_
      try refine sq F ?_
      refine wk F ?_
      refine hK2 _ _ _ (Wkn.refl ⟨i+1,po,vo,hh.set p (.row 21 1 (v+1) ((w++[y]).map runA)),out,w++[y],.hs p (v+1) 0 (w++[y]).length true,rfl,by simp[runA],?_,?_,?_,?_,by omega,.inr ⟨p,v+1,rfl,by rw[fm _ _ _ _ _ hpl,if_pos rfl],hp1,hp2⟩,by rw[ce _ _ hp2];exact hg,⟨FrN.set _ hp1 hfr,hpo⟩,hv2,⟨by simp;omega,by omega,fun c hc=>by rcases List.mem_append.1 hc with hc|hc;exact hw3 c hc;simp at hc;subst hc;exact hrn _ hym,by omega⟩⟩) (by omega)
      all_goals first|exact zq F|rfl|omega|trivial|skip
     ·rw[if_neg (by omega)]at hv2
      refine hK2 _ _ _ (Wkn.refl ⟨i+1,po,vo,hh,out,w,.hs p v 0 w.length true,rfl,rfl,?_,?_,?_,?_,by omega,.inr ⟨p,v,rfl,hgw,hp1,hp2⟩,hg,⟨hfr,hpo⟩,hv2,⟨hw1,by omega,hw3,by omega⟩⟩) (by omega)
      all_goals first|exact zq F|rfl|omega|trivial|skip
   |false=>
    have hd:=done0 0 (.inl hlt) c2
    rw[hlt]at hl
    have F:=F4 F hy c3 dt
    try refine sq F ?_
    refine wk F ?_
    refine kq F (hl _) ?_
    rcases hx with⟨rfl,rfl⟩| ⟨p,v,rfl,hgw,hp1,hp2⟩
    ·rw[if_pos rfl]at hd
     try refine sq F ?_
     refine wk F ?_
     refine cq F (fun c5=>?_) (fun c5=>?_)<;>(try exact c5.elim)<;>(refine wk F ?_)
     refine hK2 _ _ _ (Wkn.refl ⟨i+1,po,vo,hh,out,[],.nil (.slice none 0 0),rfl,rfl,?_,?_,?_,?_,by omega,.inl ⟨rfl,rfl⟩,hg,⟨hfr,hpo⟩,hd,⟨by simp,by omega,by simp,fun _=>rfl⟩⟩) (by omega)
     all_goals first|exact zq F|rfl|omega|trivial|skip
    ·have hpl:=bo hgw
     have hP:=iM G w hw3 (by omega) hgw
     have F:=F3 F hgw @az
     try refine sq F ?_
     refine wk F ?_
     refine cq F (fun c5=>?_) (fun c5=>?_)<;>(try exact c5.elim)<;>(refine wk F ?_)
     ·have hw0:¬w=[]:=by rintro rfl;simp at c5
      rw[if_neg hw0]at hd
      refine kq F (hP) ?_
      refine aq F ?_
      try refine sq F ?_
      refine wk F ?_
      refine hK2 _ _ _ (Wkn.refl ⟨i+1,po,vo+1,hh.set po (.row 9 1 (vo+1) ((out++[encs w]).map .str)),out++[encs w],[],.nil (.slice none 0 0),rfl,by simp[encs],?_,?_,?_,?_,by omega,.inl ⟨rfl,rfl⟩,by rw[fm _ _ _ _ _ hgl,if_pos rfl],⟨FrN.set _ hpo hfr,hpo⟩,hd,⟨by simp,by simp;omega,by simp,fun _=>rfl⟩⟩) (by omega)
      all_goals first|exact zq F|rfl|omega|trivial|skip
     ·have hw0:w=[]:=by cases w with|nil=>rfl|cons a l=>exfalso;simp only[List.length_cons]at c5;omega
      rw[if_pos hw0]at hd
      subst hw0
      refine hK2 _ _ _ (Wkn.refl ⟨i+1,po,vo,hh,out,[],.hs p v 0 0 true,rfl,rfl,?_,?_,?_,?_,by omega,.inr ⟨p,v,rfl,hgw,hp1,hp2⟩,hg,⟨hfr,hpo⟩,hd,⟨by simp,by omega,by simp,fun _=>rfl⟩⟩) (by omega)
      all_goals first|exact zq F|rfl|omega|trivial|skip
  ·have d3:decide (i<rs.length)=false:=by simp;omega
   have hd:=done0 0 (.inr (by omega)) c2
   have F:=F2 F d3
   try refine sq F ?_
   refine wk F ?_
   rcases hx with⟨rfl,rfl⟩| ⟨p,v,rfl,hgw,hp1,hp2⟩
   ·rw[if_pos rfl]at hd
    try refine sq F ?_
    refine wk F ?_
    refine cq F (fun c5=>?_) (fun c5=>?_)<;>(try exact c5.elim)<;>(refine wk F ?_)
    refine hK2 _ _ _ (Wkn.refl ⟨i+1,po,vo,hh,out,[],.nil (.slice none 0 0),rfl,rfl,?_,?_,?_,?_,by omega,.inl ⟨rfl,rfl⟩,hg,⟨hfr,hpo⟩,hd,⟨by simp,by omega,by simp,fun _=>rfl⟩⟩) (by omega)
    all_goals first|exact zq F|rfl|omega|trivial|skip
   ·have hpl:=bo hgw
    have hP:=iM G w hw3 (by omega) hgw
    have F:=F3 F hgw @az
    try refine sq F ?_
    refine wk F ?_
    refine cq F (fun c5=>?_) (fun c5=>?_)<;>(try exact c5.elim)<;>(refine wk F ?_)
    ·have hw0:¬w=[]:=by rintro rfl;simp at c5
     rw[if_neg hw0]at hd
     refine kq F (hP) ?_
     refine aq F ?_
     try refine sq F ?_
     refine wk F ?_
     refine hK2 _ _ _ (Wkn.refl ⟨i+1,po,vo+1,hh.set po (.row 9 1 (vo+1) ((out++[encs w]).map .str)),out++[encs w],[],.nil (.slice none 0 0),rfl,by simp[encs],?_,?_,?_,?_,by omega,.inl ⟨rfl,rfl⟩,by rw[fm _ _ _ _ _ hgl,if_pos rfl],⟨FrN.set _ hpo hfr,hpo⟩,hd,⟨by simp,by simp;omega,by simp,fun _=>rfl⟩⟩) (by omega)
     all_goals first|exact zq F|rfl|omega|trivial|skip
    ·have hw0:w=[]:=by cases w with|nil=>rfl|cons a l=>exfalso;simp only[List.length_cons]at c5;omega
     rw[if_pos hw0]at hd
     subst hw0
     refine hK2 _ _ _ (Wkn.refl ⟨i+1,po,vo,hh,out,[],.hs p v 0 0 true,rfl,rfl,?_,?_,?_,?_,by omega,.inr ⟨p,v,rfl,hgw,hp1,hp2⟩,hg,⟨hfr,hpo⟩,hd,⟨by simp,by omega,by simp,fun _=>rfl⟩⟩) (by omega)
     all_goals first|exact zq F|rfl|omega|trivial|skip
 ·have hie:i=rs.length+1:=by omega
  have hwe:=hw4 hie
  subst hwe
  rw[aD (by omega),wdsR,if_pos rfl]at hv
  obtain⟨j,rfl⟩:=hfr.behind (by omega)
  refine ee hQ F ?_
  rw[← hv]
  exact Fin.frz (uD hpo hg) ⟨rfl,rfl⟩
theorem uE(t:Bs)(h:Heap):Sat (CT G) 138 [.str t] h (fun r h'=>r=.bool (L0.tag t)∧h'=h):=by
 have hL:=nH G rightS cleanF (fun t ht h=>pT G t (by omega) h) (fun t ht h=>pU G t (by omega) h) t
 have hu:L0.tag t=((!(t==[])&&textF rightS cleanF t 64)&&isF t):=rfl
 rw[hu]
 cases hl:(!(t==[])&&textF rightS cleanF t 64)with
 |false=>
  rw[hl]at hL
  refine sb [.tmp 2] (fn:=Tryz.f138) Tryz.func138 ?_
  intro Q hQ
  refine wk trivial ?_
  refine kq trivial (hL _) ?_
  refine ee hQ trivial ?_
  exact Fin.same (.bool _) ⟨by simp,rfl⟩
 |true=>
  rw[hl]at hL
  have hlen:t.length≤64:=by
   rw[Bool.and_eq_true]at hl
   have:=hl.2
   unfold textF at this
   rw[Bool.and_eq_true,decide_eq_true_eq]at this
   omega
  have hwl:(wordsF t).length≤1000000:=by
   have h1:=fF (runesF (foldS t)) [] []
   have h2:=bY (foldS t).length (foldS t) (Nat.le_refl _)
   have h3:=di t
   rw[← fC]at h1
   simp only[List.length_nil]at h1
   omega
  have hS:=l5 G (wordsF t) [t] hwl (by simp)
  refine sb [.tmp 2] (fn:=Tryz.f138) Tryz.func138 ?_
  intro Q hQ
  refine wk trivial ?_
  refine kq trivial (hL _) ?_
  refine kq trivial (jx G t (by omega) _) ?_
  refine kq trivial (hS _) ?_
  refine ee hQ trivial ?_
  exact Fin.same (.bool _) ⟨by simp[isF],rfl⟩
end Go.Av
namespace Go.Av
open Go Go.Proofs Go.RowKit
theorem dO(s:PS)(id k:Int):(s.hold id k).it=s.it:=by rw[cB]
theorem mL(s:PS)(e:Ev):(s.aft e).it=
  if e.kind=4 then itF s.it ((lkM s.fe e.a).getD Fe.z).id
  else if e.kind=7 then upM s.it s.c3 e.a ⟨e.a,e.b,e.n,e.s,e.t,e.u,false,false,[]⟩
  else if e.kind=8 then upM s.it s.c3 e.a {(lkM s.it e.a).getD It.z with read:=e.n==1}
  else if e.kind=9 then upM s.it s.c3 e.a {(lkM s.it e.a).getD It.z with star:=e.n==1}
  else if e.kind=10 then upM s.it s.c3 e.a {(lkM s.it e.a).getD It.z with tags:=tgF ((lkM s.it e.a).getD It.z).tags e.s e.n}
  else s.it:=by
 unfold PS.aft PS.after
 by_cases k2:e.kind=2
 ·rw[if_pos k2,dO,if_neg (by omega),if_neg (by omega),if_neg (by omega),if_neg (by omega),if_neg (by omega)];rfl
 by_cases k4:e.kind=4
 ·rw[if_neg k2,if_pos k4,if_pos k4,PS.unfeed,dO];rfl
 rw[if_neg k2,if_neg k4,if_neg k4]
 by_cases k5:e.kind=5
 ·rw[if_pos k5,if_neg (by omega),if_neg (by omega),if_neg (by omega),if_neg (by omega)];rfl
 rw[if_neg k5]
 by_cases k6:e.kind=6
 ·rw[if_pos k6,if_neg (by omega),if_neg (by omega),if_neg (by omega),if_neg (by omega)]
  show((s.hold _ _).hold _ _).it=_
  rw[dO,dO]
 rw[if_neg k6]
 by_cases k7:e.kind=7
 ·rw[if_neg (by omega),if_neg (by omega),if_neg (by omega),if_neg (by omega),if_neg (by omega),PS.make,if_neg (by omega),if_neg (by omega),if_pos k7,if_pos k7];rfl
 rw[if_neg k7]
 by_cases k8:e.kind=8
 ·rw[if_pos k8,if_pos k8];rfl
 rw[if_neg k8,if_neg k8]
 by_cases k9:e.kind=9
 ·rw[if_pos k9,if_pos k9];rfl
 rw[if_neg k9,if_neg k9]
 by_cases k10:e.kind=10
 ·rw[if_pos k10,if_pos k10];rfl
 rw[if_neg k10,if_neg k10]
 by_cases k12:e.kind=12
 ·rw[if_pos k12];rfl
 rw[if_neg k12]
 by_cases k13:e.kind=13
 ·rw[if_pos k13]
 rw[if_neg k13,PS.make]
 by_cases k1:e.kind=1
 ·rw[if_pos k1]
  show((((s.upFo e.a _).upNm _ _).hold _ _)).it=_
  rw[dO];rfl
 rw[if_neg k1]
 by_cases k3:e.kind=3
 ·rw[if_pos k3]
  show((((s.upFe e.a _).upPl _ _).hold _ _)).it=_
  rw[dO];rfl
 rw[if_neg k3,if_neg k7]
 split<;>rfl
end Go.Av
namespace Go.Av
open Go Go.Proofs Go.RowKit
variable {s:PS} {e:Ev}
end Go.Av
namespace Go.Av
open Go Go.Proofs Go.RowKit
attribute [local irreducible] WP WPl WPix Sat
set_option pp.deepTerms true
set_option pp.maxSteps 200000
variable (G:Nat→Option (List AVal))
end Go.Av
namespace Go.Av
open Go Go.Proofs Go.RowKit
attribute [local irreducible] WP WPl WPix Sat
variable (G:Nat→Option (List AVal))
end Go.Av
namespace Go.Av
open Go Go.Proofs Go.RowKit
def sumZ:List Int→Int
 | []=>0
 |a::l=>a+sumZ l
def S2{α:Type}(F:List α)(L:List It)(P:α→It→Bool):Int:=sumZ (F.map fun g=>(L.countP (P g):Int))
variable {s:PS}
def PS.inn(s:PS)(id:Int):Int:=((lkM s.fo id).map (·.inn)).getD 0
end Go.Av
namespace Go.Av
open Go Go.Proofs Go.RowKit
variable {s:PS}
theorem qa{α:Type}{z:α}{l:ML Int α}{c:Nat}(w:WFM l c):(valsM z l).Perm (l.map (·.2.1)):=by
 have h1:(l.map (·.2.1))=(l.map (·.1)).map fun k=>(lkM l k).getD z:=by
  rw[List.map_map]
  exact List.map_congr_left fun e he=>by simp only[Function.comp];rw[cF w.keys (b:=e.2.2) he];rfl
 rw[h1]
 exact(List.mergeSort_perm _ _).map _
theorem s8{t:It}(h:s.Inv)(ht:t∈s.its):∃k,lkM s.it k=some t:=by
 obtain⟨e,he,rfl⟩:=List.mem_map.1 ht
 exact⟨e.1,cF h.w3.keys (b:=e.2.2) he⟩
theorem mM(h:s.Inv):s.tell.it.Perm s.its:=qa h.w3
end Go.Av
namespace Go.Av
open Go Go.Proofs Go.RowKit
attribute [local irreducible] WP WPl WPix Sat
variable (G:Nat→Option (List AVal))
def PS.step1(s:PS)(e:Ev):PS:=if s.fits true (s.dpt e.b) e then s.aft e else s
theorem ki{s:PS}{e:Ev}(h:L0.ck e=true):s.step L0 e=s.step1 e:=by unfold PS.step PS.step1 PS.ok;rw[h]
theorem lu{e:Ev}(h1:L0.right e=true)(h2:usedE e=e):L0.ck e=true:=by unfold Leaf.ck;rw[h1,h2];simp
section
variable {Y:Heap} {n m:Nat} {s:PS} {c:CS}
end
end Go.Av
